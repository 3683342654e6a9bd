import PyProof.Rows.All
import PyProof.CompFree
import PyProof.EqLayable
import PyProof.DictValues
import PyProof.StrBlockL
import KE.IntText
import OpenK.KWalk
import KE.KItem
import KE.KEqDict
import KE.KDictSum
import KE.KSortedM
import KE.KIntText
import PyProof.Rows.StrJoin2
import PyProof.Rows.StrNews
import PyProof.TupleOfSeq
import PyProof.StrCalls3
import PyProof.Rows.StrSplitJoin
import PyProof.StrLoop
import PyProof.StrWalks
import PyProof.StrLawsTight
import KE.IntTextText
import OpenK.KLine
import Wide.FinOn
import Lean
import PySem.Challenge.RW_uf020002_12
set_option Elab.async false
set_option tactic.hygienic false
set_option genSizeOf false
set_option genInjectivity false
set_option bootstrap.genMatcherCode false
set_option backward.eqns.nonrecursive false
set_option linter.unusedVariables false

namespace Mine
open PySem PySem.W PyProof.Rows
noncomputable def oM:List Nat->List Stmt->Nat->List Stmt
 | _,[],_=>[]
 | l,s::r,n=>if l.contains n then oM l r (n+1) else s::oM l r (n+1)
noncomputable def yY:Program:={ PySem.Challenge.pw_uf020002_12 with main:={ PySem.Challenge.pw_uf020002_12.main with body:=oM [0,9,15,32,37,46] PySem.Challenge.pw_uf020002_12.main.body 0 } }
noncomputable def xt12:Shared->Bool:=λ s=>xlAt yY [] s&&recOk (RowW.records (OpenRow.toRowW (OpenLaw.row PySem.Challenge.rw_uf020002_12))) s
theorem iE:OpenLaw.wellSaid PySem.Challenge.rw_uf020002_12=true:=by decide +kernel
theorem oN:(chainsOk yY&&opensWell (RowW.prog (OpenRow.toRowW (OpenLaw.row PySem.Challenge.rw_uf020002_12)))&&(frees (OpenRow.toRowW (OpenLaw.row PySem.Challenge.rw_uf020002_12))&&(RowW.within (OpenRow.toRowW (OpenLaw.row PySem.Challenge.rw_uf020002_12))).isEmpty))=true:=by decide +kernel
set_option genCtorIdx false
inductive Tr where
 | emp
 | val (o:Obj)
 | node (l r:Tr)
structure SG where
 t:Tr
 n:Nat
 li:Life
 gens:Array GenState
 drawn:Drawn
 toks:Nat
 os:OsState
set_option genCtorIdx true
noncomputable def Tr.left:Tr->Tr
 | .node l _=>l
 | _=>.emp
noncomputable def Tr.right:Tr->Tr
 | .node _ r=>r
 | _=>.emp
noncomputable def Tr.here:Tr->Option Obj
 | .val o=>some o
 | _=>.none
noncomputable def xc:Nat->Nat->List Bool
 | 0,_=>[]
 | d+1,k=>Nat.beq (k % 2) 0::xc d (k / 2)
noncomputable def Tr.get:List Bool->Tr->Option Obj
 | [],t=>t.here
 | b::r,t=>Tr.get r (cond b t.left t.right)
noncomputable def Tr.put (x:Obj):List Bool->Tr->Tr
 | [],_=>.val x
 | b::r,t=>cond b (.node (Tr.put x r t.left) t.right) (.node t.left (Tr.put x r t.right))
theorem lY {d:Nat}:∀ {i k:Nat},i < 2 ^ d->k < 2 ^ d->xc d i=xc d k->i=k:=by
 induction d with
 | zero=>intro i k hi hk _;exact (Nat.lt_one_iff.mp hi).trans (Nat.lt_one_iff.mp hk).symm
 | succ d ih=>
  intro i k hi hk h
  rw [Nat.pow_succ] at hi hk
  injection h with h1 h2
  have h2:=ih (Nat.div_lt_of_lt_mul (Nat.mul_comm _ 2▸hi)) (Nat.div_lt_of_lt_mul (Nat.mul_comm _ 2▸hk)) h2
  have hm:i % 2=k % 2:=by
   cases hb:Nat.beq (k % 2) 0 with
   | true=>
    rw [hb] at h1
    exact (Nat.eq_of_beq_eq_true h1).trans (Nat.eq_of_beq_eq_true hb).symm
   | false=>
    rw [hb] at h1
    have hk:k % 2≠0:=λ z=>by rw [z] at hb;cases hb
    have hi:i % 2≠0:=λ z=>by rw [z] at h1;cases h1
    exact ((Nat.mod_two_eq_zero_or_one i).resolve_left hi).trans ((Nat.mod_two_eq_zero_or_one k).resolve_left hk).symm
  rw [<-Nat.div_add_mod i 2,<-Nat.div_add_mod k 2,h2,hm]
theorem Tr.same (x:Obj):∀ (b:List Bool) (t:Tr),Tr.get b (Tr.put x b t)=some x:=by
 intro b
 induction b with
 | nil=>intro t;rfl
 | cons c r ih=>
  intro t
  cases c
  ·exact ih t.right
  ·exact ih t.left
theorem Tr.diff (x:Obj) {d:Nat}:∀ {i k:Nat} (t:Tr),xc d i≠xc d k->Tr.get (xc d i) (Tr.put x (xc d k) t)=Tr.get (xc d i) t:=by
 induction d with
 | zero=>intro i k t h;exact absurd rfl h
 | succ d ih=>
  intro i k t h
  unfold xc at h |-
  cases hi:Nat.beq (i % 2) 0<;>cases hk:Nat.beq (k % 2) 0
  ·exact ih t.right λ z=>h (by rw [hi,hk,z])
  ·rfl
  ·rfl
  ·exact ih t.left λ z=>h (by rw [hi,hk,z])
noncomputable def SG.sh (g:SG) (objs:Array Obj):Shared:=⟨⟨objs,g.li⟩,g.gens,g.drawn,g.toks,g.os⟩
noncomputable def SG.at_ (g:SG) (a:Nat):Option Obj:=Tr.get (xc 10 a) g.t
structure RepO (g:SG) (objs:Array Obj):Prop where
 n:g.n=objs.size
 b:g.n<=1024
 o:∀ a,a < 1024->g.at_ a=objs[a]?
noncomputable def SG.set (g:SG) (a:Nat) (x:Obj) (n:Nat):SG:=⟨Tr.put x (xc 10 a) g.t,n,g.li,g.gens,g.drawn,g.toks,g.os⟩
theorem SG.set_at {g:SG} {a i n:Nat} {x:Obj} (ha:a < 1024) (hi:i < 1024):(g.set a x n).at_ i=if i=a then some x else g.at_ i:=by
 by_cases z:i=a
 ·rw [if_pos z,z];exact Tr.same x _ _
 ·rw [if_neg z];exact Tr.diff x _ λ y=>z (lY hi ha y)
theorem RepO.push {g:SG} {objs:Array Obj} (r:RepO g objs) (x:Obj) (h:g.n < 1024):RepO (g.set g.n x (g.n+1)) (objs.push x):=
 ⟨(congrArg (·+1) r.n).trans (Array.size_push ..).symm,h,λ i hi=>by rw [SG.set_at h hi,Array.getElem?_push,r.o i hi,r.n]⟩
theorem RepO.upd {g:SG} {objs:Array Obj} (r:RepO g objs) {a:Nat} {o:Obj} (f:Obj->Obj) (ha:a < 1024) (ho:g.at_ a=some o):RepO (g.set a (f o) g.n) (objs.modify a f):=
 ⟨r.n.trans (Array.size_modify ..).symm,r.b,λ i hi=>by
  rw [SG.set_at ha hi,Array.getElem?_modify,r.o i hi]
  by_cases z:i=a
  ·rw [if_pos z,if_pos z.symm,z,<-r.o a ha,ho];rfl
  ·rw [if_neg z,if_neg λ y=>z y.symm]⟩
noncomputable def alive:Option Obj->Option Obj
 | some ⟨_,_,.freed,_⟩=>none
 | o=>o
theorem qw {x:Option Obj} {o:Obj} (h:alive x=some o):x=some o:=by
 revert h
 unfold alive
 split
 ·intro z;cases z
 ·exact id
noncomputable def oO:Sem Fin->Bool
 | .pure _=>true
 | .rule ..=>true
 | .at ..=>true
 | .point ..=>true
 | .fresh _=>true
 | .ask _=>true
 | .call ..=>true
 | .handled ..=>true
 | .stack _=>true
 | _=>false
noncomputable def onH (h:Heap):PySem.Step->PySem.Step
 | .go s t=>.go ⟨h,s.gens,s.drawn,s.toks,s.os⟩ t
 | .halt o s=>.halt o ⟨h,s.gens,s.drawn,s.toks,s.os⟩
theorem qx {den:Code->Sem Fin} {p:Program} {w:PySem.World} {h0 h1:Heap} {gens:Array GenState} {drawn:Drawn} {toks:Nat} {os:OsState} {cur:Sem Fin} {code:Code} {pos:Pos} {stack:List Frame} (hp:oO cur=true) :
  step den p w ⟨h1,gens,drawn,toks,os⟩ ⟨cur,code,pos,stack⟩=onH h1 (step den p w ⟨h0,gens,drawn,toks,os⟩ ⟨cur,code,pos,stack⟩):=by
 cases cur with
 | pure f=>
  cases f with
  | again c=>rfl
  | done f=>
   cases stack with
   | nil=>
    show finish _ _=onH h1 (finish _ _)
    unfold finish
    cases leftWithCleanup gens<;>rfl
   | cons fr rest=>cases fr<;>rfl
 | rule _ _=>rfl
 | «at» _ _=>rfl
 | point _ _=>rfl
 | fresh _=>rfl
 | ask _=>rfl
 | call _ _ _ _ _=>rfl
 | handled _ _=>rfl
 | stack _=>rfl
 | _=>cases hp
noncomputable def goG (g:SG):PySem.Step->Option (SG×Thread)
 | .go s t=>some (⟨g.t,g.n,g.li,s.gens,s.drawn,s.toks,s.os⟩,t)
 | .halt _ _=>none
noncomputable def i8 (den:Code->Sem Fin) (p:Program) (w:PySem.World) (g:SG):Thread->Option (SG×Thread)
 | ⟨cur,code,pos,stack⟩=>match cur with
  | .load a _ k=>cond (Nat.blt a 1024) ((alive (g.at_ a)).map λ o=>(g,⟨k o,code,pos,stack⟩)) none
  | .loadIfAlive a k=>cond (Nat.blt a 1024) (some (g,⟨k (alive (g.at_ a)),code,pos,stack⟩)) none
  | .update a _ f k=>cond (Nat.blt a 1024) ((alive (g.at_ a)).map λ o=>(g.set a (f o) g.n,⟨k (),code,pos,stack⟩)) none
  | .alloc o k=>cond (Nat.blt g.n 1024) (some (g.set g.n o (g.n+1),⟨k g.n,code,pos,stack⟩)) none
  | c=>cond (oO c) (goG g (step den p w ⟨⟨#[],g.li⟩,g.gens,g.drawn,g.toks,g.os⟩ ⟨c,code,pos,stack⟩)) none
theorem yJ {A:Type} {b:Bool} {x:Option A} {y:A} (h:cond b x none=some y):b=true/\x=some y:=by
 cases b
 ·cases h
 ·exact ⟨rfl,h⟩
theorem lZ {den:Code->Sem Fin} {p:Program} {w:PySem.World} {g:SG} {q:SG×Thread} {t:Thread} {objs:Array Obj} (r:RepO g objs) (h:i8 den p w g t=some q):∃ objs',RepO q.1 objs'/\step den p w (g.sh objs) t=.go (q.1.sh objs') q.2:=by
 obtain ⟨cur,code,pos,stack⟩:=t
 have gt:∀ {a},Nat.blt a 1024=true->(⟨objs,g.li⟩:Heap).get? a=alive (g.at_ a):=λ ha=>by rw [r.o _ (Nat.le_of_ble_eq_true ha)];rfl
 have pl:∀ c,cond (oO c) (goG g (step den p w ⟨⟨#[],g.li⟩,g.gens,g.drawn,g.toks,g.os⟩ ⟨c,code,pos,stack⟩)) none=some q->∃ objs',RepO q.1 objs'/\step den p w (g.sh objs) ⟨c,code,pos,stack⟩=.go (q.1.sh objs') q.2:=λ c h=>by
  obtain ⟨hp,h⟩:=yJ h
  have e:=qx (den:=den) (p:=p) (w:=w) (h0:=⟨#[],g.li⟩) (h1:=⟨objs,g.li⟩) (gens:=g.gens) (drawn:=g.drawn) (toks:=g.toks) (os:=g.os) (code:=code) (pos:=pos) (stack:=stack) hp
  generalize step den p w ⟨⟨#[],g.li⟩,g.gens,g.drawn,g.toks,g.os⟩ ⟨c,code,pos,stack⟩=x at h e
  cases x with
  | halt _ _=>cases h
  | go s t=>
   cases h
   exact ⟨objs,⟨r.n,r.b,r.o⟩,e⟩
 cases cur with
 | load a _ k=>
  obtain ⟨ha,h⟩:=yJ h
  obtain ⟨o,ho,rfl⟩:=Option.map_eq_some_iff.mp h
  refine ⟨objs,r,?_⟩
  show (match (⟨objs,g.li⟩:Heap).get? a with | some o=>PySem.Step.go _ _ | none=>_)=_
  rw [gt ha,ho];rfl
 | loadIfAlive a k=>
  obtain ⟨ha,h⟩:=yJ h
  cases h
  refine ⟨objs,r,?_⟩
  show PySem.Step.go _ ⟨k ((⟨objs,g.li⟩:Heap).get? a),_,_,_⟩=_
  rw [gt ha];rfl
 | update a _ f k=>
  obtain ⟨ha,h⟩:=yJ h
  obtain ⟨o,ho,rfl⟩:=Option.map_eq_some_iff.mp h
  refine ⟨objs.modify a f,r.upd f (Nat.le_of_ble_eq_true ha) (qw ho),?_⟩
  show (if ((⟨objs,g.li⟩:Heap).get? a).isSome=true then PySem.Step.go _ _ else _)=_
  rw [gt ha,ho];rfl
 | alloc o k=>
  obtain ⟨ha,h⟩:=yJ h
  cases h
  refine ⟨objs.push o,r.push o (Nat.le_of_ble_eq_true ha),?_⟩
  show PySem.Step.go _ ⟨k objs.size,_,_,_⟩=_
  rw [<-r.n];rfl
 | _=>exact pl _ h
noncomputable def tC (tb:String->Option Builtin) (p:Program) (w:PySem.World) (aZ:Nat) (ann:Option Value):Nat->SG->Thread->Option SG
 | 0,_,_=>none
 | n+1,g,t=>cond (through t) (some g) (cond (stepOk aZ ann t) ((i8 (denote tb) p w g t).bind λ q=>tC tb p w aZ ann n q.1 q.2) none)
theorem qy {tb:String->Option Builtin} {p:Program} {w:PySem.World} {aZ:Nat} {ann:Option Value}:∀ (n:Nat) (g:SG) (t:Thread) (objs:Array Obj) {g':SG},RepO g objs->tC tb p w aZ ann n g t=some g'->∃ objs',RepO g' objs'/\topRun tb p w aZ ann n (g.sh objs) t=some (g'.sh objs'):=by
 intro n
 induction n with
 | zero=>intro g t objs g' _ h;cases h
 | succ n ih=>
  intro g t objs g' r h
  replace h:cond (through t) (some g) (cond (stepOk aZ ann t) ((i8 (denote tb) p w g t).bind λ q=>tC tb p w aZ ann n q.1 q.2) none)=some g':=h
  show ∃ objs',_/\(match through t with | true=>some (g.sh objs) | false=>match stepOk aZ ann t with | false=>none | true=>match step (denote tb) p w (g.sh objs) t with | .go s' t'=>topRun tb p w aZ ann n s' t' | .halt _ _=>none)=_
  generalize through t=b at h
  cases b with
  | true=>cases h;exact ⟨objs,r,rfl⟩
  | false=>
   obtain ⟨hs,h⟩:=yJ h
   rw [hs]
   obtain ⟨q,hq,h⟩:=Option.bind_eq_some_iff.mp h
   obtain ⟨objs1,r1,e1⟩:=lZ r hq
   obtain ⟨objs2,r2,e2⟩:=ih _ _ objs1 r1 h
   exact ⟨objs2,r2,by rw [e1];exact e2⟩
noncomputable def ofL:List Obj->SG->SG
 | [],g=>g
 | o::r,g=>ofL r (g.set g.n o (g.n+1))
theorem i9 {l:List Obj}:∀ {g:SG} {objs:Array Obj},RepO g objs->g.n+l.length<=1024->RepO (ofL l g) ⟨objs.toList++l⟩/\∀ a,(ofL l g).sh a=g.sh a:=by
 induction l with
 | nil=>intro g objs r _;exact ⟨by rw [List.append_nil];exact r,λ z_=>rfl⟩
 | cons o l ih=>
  intro g objs r h
  rw [List.length_cons] at h
  obtain ⟨a,b⟩:=ih (r.push o (by omega)) (show g.n+1+l.length<=1024 by omega)
  rw [Array.toList_push,List.append_assoc] at a
  exact ⟨a,b⟩
theorem ig (b:List Bool):Tr.get b .emp=none:=by
 induction b with
 | nil=>
  exact rfl
 | cons c r ih_=>
  cases c<;>exact ih_
noncomputable def ofS (s:Shared):SG:=ofL s.heap.objs.toList ⟨.emp,0,s.heap.life,s.gens,s.drawn,s.toks,s.os⟩
theorem ij {s:Shared} (h:s.heap.objs.size<=1024):RepO (ofS s) s.heap.objs/\(ofS s).sh s.heap.objs=s:=by
 obtain ⟨a,b⟩:=i9 (l:=s.heap.objs.toList) (g:=⟨.emp,0,s.heap.life,s.gens,s.drawn,s.toks,s.os⟩) (objs:=#[]) ⟨rfl,Nat.zero_le _,λ a z_=>(ig _).trans rfl⟩ (Nat.le_trans (Nat.le_of_eq (Nat.zero_add _)) h)
 exact ⟨a,b _⟩
noncomputable def toL (g:SG):Array Obj:=⟨(List.range g.n).map λ a=>(g.at_ a).getD default⟩
theorem ik {g:SG} {objs:Array Obj} (r:RepO g objs):objs=toL g:=by
 refine Array.ext_getElem? λ i=>?_
 have e:(toL g)[i]?=((List.range g.n).map λ a=>(g.at_ a).getD default)[i]?:=List.getElem?_toArray ..
 rw [e,List.getElem?_map]
 have hb:=r.b
 by_cases hi:i < g.n
 ·rw [List.getElem?_range hi]
  show _=some ((g.at_ i).getD default)
  rw [r.o i (by omega),Array.getElem?_eq_getElem (by rw [<-r.n];exact hi)];rfl
 ·rw [List.getElem?_eq_none (by simp;omega),Array.getElem?_eq_none (by rw [<-r.n];omega)];rfl
noncomputable def qI (tb:String->Option Builtin) (p:Program) (w:PySem.World) (N:Nat) (aO:Shared):Option Shared:=
 cond (aO.heap.isNs mainGlobals&&aO.gens.size == 0) (cond (Nat.ble aO.heap.objs.size 1024) ((tC tb p w aO.heap.objs.size (aO.heap.nsMap mainGlobals "__annotations__") N (ofS aO) (topStub p)).bind λ g=>
  cond (staticsOk (importedModules p.main.body) aO.heap ⟨toL g,g.li⟩&&namesBound p ⟨toL g,g.li⟩&&gensDone (g.sh (toL g))&&laidKept aO.heap ⟨toL g,g.li⟩) (some (g.sh (toL g))) none) none) none
noncomputable def yx (tb:String->Option Builtin) (p:Program) (w:PySem.World) (N:Nat):Option Shared:=(fencedOpening tb p w N).bind (qI tb p w N)
theorem fT {b:Bool} {y:Option Shared} {c:Shared->Bool} {s s1:Shared} (hb:b=true) (hy:y=some s1) (hc:cond (c s1) (some s1) none=some s):(match (generalizing:=false) b with | true=>y.bind λ aB=>(match (generalizing:=false) c aB with | true=>some aB | false=>none) | false=>none)=some s:=by
 obtain ⟨h1,h2⟩:=yJ hc
 subst hb hy
 show (match c s1 with | true=>some s1 | false=>none)=_
 rw [h1];exact h2
theorem sk {tb:String->Option Builtin} {p:Program} {w:PySem.World} {N:Nat} {aO s:Shared} (h:qI tb p w N aO=some s):topFrom tb p w N aO=some s:=by
 obtain ⟨h1,h⟩:=yJ h
 obtain ⟨h2,h⟩:=yJ h
 obtain ⟨g,h3,h⟩:=Option.bind_eq_some_iff.mp h
 obtain ⟨r0,e0⟩:=ij (Nat.le_of_ble_eq_true h2)
 obtain ⟨objs,r,e⟩:=qy _ _ _ _ r0 h3
 obtain rfl:=ik r
 rw [e0] at e
 exact fT (c:=λ aB=>staticsOk (importedModules p.main.body) aO.heap aB.heap&&namesBound p aB.heap&&gensDone aB&&laidKept aO.heap aB.heap) h1 e h
theorem ta {tb:String->Option Builtin} {p:Program} {w:PySem.World} {N:Nat} {A:Type} {f:Shared->A} {a:A} (h:(yx tb p w N).map f=some a):(openEnds tb p w N).map f=some a:=by
 obtain ⟨s,h1,h2⟩:=Option.map_eq_some_iff.mp h
 obtain ⟨aO,h3,h4⟩:=Option.bind_eq_some_iff.mp h1
 exact Option.map_eq_some_iff.mpr ⟨s,Option.bind_eq_some_iff.mpr ⟨aO,h3,sk h4⟩,h2⟩

noncomputable def iF:Option Shared->Heap
 | some s=>s.heap
 | none=>⟨#[],{}⟩
set_option maxRecDepth 100000 in
set_option maxHeartbeats 8000000 in
theorem fU:∀ w,(yx treeTable (RowW.prog (OpenRow.toRowW (OpenLaw.row PySem.Challenge.rw_uf020002_12))) w 5706).map (λ s=>(openSeen yY [] (importedModules (RowW.prog (OpenRow.toRowW (OpenLaw.row PySem.Challenge.rw_uf020002_12))).main.body) xt12 true s).1)=some (openGood yY []).1:=λ w=>by kernel_rfl
set_option maxRecDepth 100000 in
set_option maxHeartbeats 8000000 in
theorem fV:∀ w,(yx treeTable (RowW.prog (OpenRow.toRowW (OpenLaw.row PySem.Challenge.rw_uf020002_12))) w 5706).map (λ s=>(openSeen yY [] (importedModules (RowW.prog (OpenRow.toRowW (OpenLaw.row PySem.Challenge.rw_uf020002_12))).main.body) xt12 true s).2.1)=some (openGood yY []).2.1:=λ w=>by kernel_rfl
set_option maxRecDepth 100000 in
set_option maxHeartbeats 8000000 in
theorem fW:∀ w,(yx treeTable (RowW.prog (OpenRow.toRowW (OpenLaw.row PySem.Challenge.rw_uf020002_12))) w 5706).map (λ s=>(openSeen yY [] (importedModules (RowW.prog (OpenRow.toRowW (OpenLaw.row PySem.Challenge.rw_uf020002_12))).main.body) xt12 true s).2.2)=some (openGood yY []).2.2:=λ w=>by kernel_rfl
theorem l5 {A B C:Type} {f:Shared->A×B×C} {g:A×B×C}:∀ {o:Option Shared},o.map (λ s=>(f s).1)=some g.1->o.map (λ s=>(f s).2.1)=some g.2.1->o.map (λ s=>(f s).2.2)=some g.2.2->o.map f=some g
 | .none,h,_,_=>by cases h
 | some s,h,j,k=>by
  injection h with h
  injection j with j
  injection k with k
  exact congrArg some (Prod.ext h (Prod.ext j k))
theorem fX:∀ w,(yx treeTable (RowW.prog (OpenRow.toRowW (OpenLaw.row PySem.Challenge.rw_uf020002_12))) w 5706).map (λ s=>openSeen yY [] (importedModules (RowW.prog (OpenRow.toRowW (OpenLaw.row PySem.Challenge.rw_uf020002_12))).main.body) xt12 true s)=some (openGood yY []):=λ w=>l5 (fU w) (fV w) (fW w)
theorem oP {A:Type} {f:Shared->A} {a:A}:∀ {o:Option Shared},o.map f=some a->o.map (λ s=>(f s,s.heap))=some (a,iF o)
 | .none,h=>by cases h
 | some s,h=>by cases h;rfl
noncomputable def ww (w:PySem.World):Heap:=iF (yx treeTable (RowW.prog (OpenRow.toRowW (OpenLaw.row PySem.Challenge.rw_uf020002_12))) w 5706)
theorem fY:LeftO (RowW.prog (OpenRow.toRowW (OpenLaw.row PySem.Challenge.rw_uf020002_12))) yY [] xt12 (λ s=>s.heap) ww 5706:=λ w=>ta (f:=λ s=>(openSeen yY [] (importedModules (RowW.prog (OpenRow.toRowW (OpenLaw.row PySem.Challenge.rw_uf020002_12))).main.body) xt12 true s,s.heap)) (oP (f:=λ s=>openSeen yY [] (importedModules (RowW.prog (OpenRow.toRowW (OpenLaw.row PySem.Challenge.rw_uf020002_12))).main.body) xt12 true s) (fX w))
theorem tc {h1 h2:Heap} (e:h1=h2):∀ b o,h2.get? b=some o->h1.get? b=some o:=by subst e;exact λ z_ z_ h=>h
noncomputable def oQ (h:Heap):List Nat->Frag
 | []=>[]
 | a::r=>match h.get? a with
  | some o=>(a,o)::oQ h r
  | none=>oQ h r
set_option tactic.hygienic true in
theorem qJ (h:Heap) (l:List Nat):(oQ h l).In h:=by
 induction l with
 | nil=>intro a o e;cases e
 | cons b r ih=>
  intro a o e
  unfold oQ at e
  split at e
  ·rename_i x hx
   rw [List.lookup_cons] at e
   split at e
   ·rename_i q
    cases e
    rw [beq_iff_eq.mp q];exact hx
   ·exact ih a o e
  ·exact ih a o e
noncomputable def yl (w:PySem.World):Frag:=oQ (ww w) (List.range (ww w).objs.size)
theorem five {A:Type} {a b c d:Bool} {e e':A} (h:(a,b,c,d,e)=(true,true,true,true,e')):a=true/\b=true/\c=true/\d=true/\e=e':=by cases h;exact ⟨rfl,rfl,rfl,rfl,rfl⟩
end Mine

namespace Mine
open PySem
theorem an2 {a1 a2 G:Prop} (h:a1/\a2) (k:a1->a2->G):G:=k h.1 h.2
theorem an3 {a1 a2 a3 G:Prop} (h:a1/\a2/\a3) (k:a1->a2->a3->G):G:=k h.1 h.2.1 h.2.2
theorem an4 {a1 a2 a3 a4 G:Prop} (h:a1/\a2/\a3/\a4) (k:a1->a2->a3->a4->G):G:=k h.1 h.2.1 h.2.2.1 h.2.2.2
theorem an5 {a1 a2 a3 a4 a5 G:Prop} (h:a1/\a2/\a3/\a4/\a5) (k:a1->a2->a3->a4->a5->G):G:=k h.1 h.2.1 h.2.2.1 h.2.2.2.1 h.2.2.2.2
theorem an6 {a1 a2 a3 a4 a5 a6 G:Prop} (h:a1/\a2/\a3/\a4/\a5/\a6) (k:a1->a2->a3->a4->a5->a6->G):G:=k h.1 h.2.1 h.2.2.1 h.2.2.2.1 h.2.2.2.2.1 h.2.2.2.2.2
theorem an7 {a1 a2 a3 a4 a5 a6 a7 G:Prop} (h:a1/\a2/\a3/\a4/\a5/\a6/\a7) (k:a1->a2->a3->a4->a5->a6->a7->G):G:=k h.1 h.2.1 h.2.2.1 h.2.2.2.1 h.2.2.2.2.1 h.2.2.2.2.2.1 h.2.2.2.2.2.2
theorem an8 {a1 a2 a3 a4 a5 a6 a7 a8 G:Prop} (h:a1/\a2/\a3/\a4/\a5/\a6/\a7/\a8) (k:a1->a2->a3->a4->a5->a6->a7->a8->G):G:=k h.1 h.2.1 h.2.2.1 h.2.2.2.1 h.2.2.2.2.1 h.2.2.2.2.2.1 h.2.2.2.2.2.2.1 h.2.2.2.2.2.2.2
theorem an9 {a1 a2 a3 a4 a5 a6 a7 a8 a9 G:Prop} (h:a1/\a2/\a3/\a4/\a5/\a6/\a7/\a8/\a9) (k:a1->a2->a3->a4->a5->a6->a7->a8->a9->G):G:=k h.1 h.2.1 h.2.2.1 h.2.2.2.1 h.2.2.2.2.1 h.2.2.2.2.2.1 h.2.2.2.2.2.2.1 h.2.2.2.2.2.2.2.1 h.2.2.2.2.2.2.2.2
theorem an10 {a1 a2 a3 a4 a5 a6 a7 a8 a9 a10 G:Prop} (h:a1/\a2/\a3/\a4/\a5/\a6/\a7/\a8/\a9/\a10) (k:a1->a2->a3->a4->a5->a6->a7->a8->a9->a10->G):G:=k h.1 h.2.1 h.2.2.1 h.2.2.2.1 h.2.2.2.2.1 h.2.2.2.2.2.1 h.2.2.2.2.2.2.1 h.2.2.2.2.2.2.2.1 h.2.2.2.2.2.2.2.2.1 h.2.2.2.2.2.2.2.2.2
theorem an11 {a1 a2 a3 a4 a5 a6 a7 a8 a9 a10 a11 G:Prop} (h:a1/\a2/\a3/\a4/\a5/\a6/\a7/\a8/\a9/\a10/\a11) (k:a1->a2->a3->a4->a5->a6->a7->a8->a9->a10->a11->G):G:=k h.1 h.2.1 h.2.2.1 h.2.2.2.1 h.2.2.2.2.1 h.2.2.2.2.2.1 h.2.2.2.2.2.2.1 h.2.2.2.2.2.2.2.1 h.2.2.2.2.2.2.2.2.1 h.2.2.2.2.2.2.2.2.2.1 h.2.2.2.2.2.2.2.2.2.2
theorem an12 {a1 a2 a3 a4 a5 a6 a7 a8 a9 a10 a11 a12 G:Prop} (h:a1/\a2/\a3/\a4/\a5/\a6/\a7/\a8/\a9/\a10/\a11/\a12) (k:a1->a2->a3->a4->a5->a6->a7->a8->a9->a10->a11->a12->G):G:=k h.1 h.2.1 h.2.2.1 h.2.2.2.1 h.2.2.2.2.1 h.2.2.2.2.2.1 h.2.2.2.2.2.2.1 h.2.2.2.2.2.2.2.1 h.2.2.2.2.2.2.2.2.1 h.2.2.2.2.2.2.2.2.2.1 h.2.2.2.2.2.2.2.2.2.2.1 h.2.2.2.2.2.2.2.2.2.2.2
theorem an13 {a1 a2 a3 a4 a5 a6 a7 a8 a9 a10 a11 a12 a13 G:Prop} (h:a1/\a2/\a3/\a4/\a5/\a6/\a7/\a8/\a9/\a10/\a11/\a12/\a13) (k:a1->a2->a3->a4->a5->a6->a7->a8->a9->a10->a11->a12->a13->G):G:=k h.1 h.2.1 h.2.2.1 h.2.2.2.1 h.2.2.2.2.1 h.2.2.2.2.2.1 h.2.2.2.2.2.2.1 h.2.2.2.2.2.2.2.1 h.2.2.2.2.2.2.2.2.1 h.2.2.2.2.2.2.2.2.2.1 h.2.2.2.2.2.2.2.2.2.2.1 h.2.2.2.2.2.2.2.2.2.2.2.1 h.2.2.2.2.2.2.2.2.2.2.2.2
theorem ex1 {A1:Sort _} {p:A1->Prop} {G:Prop} (h:∃ x1,p x1) (k:∀ x1,p x1->G):G:=by
 obtain ⟨x1,h⟩:=h;exact k _ h
theorem ex2 {A1:Sort _} {A2:Sort _} {p:A1->A2->Prop} {G:Prop} (h:∃ x1 x2,p x1 x2) (k:∀ x1 x2,p x1 x2->G):G:=by
 obtain ⟨x1,x2,h⟩:=h;exact k _ _ h
theorem ex3 {A1:Sort _} {A2:Sort _} {A3:Sort _} {p:A1->A2->A3->Prop} {G:Prop} (h:∃ x1 x2 x3,p x1 x2 x3) (k:∀ x1 x2 x3,p x1 x2 x3->G):G:=by
 obtain ⟨x1,x2,x3,h⟩:=h;exact k _ _ _ h
theorem ex4 {A1:Sort _} {A2:Sort _} {A3:Sort _} {A4:Sort _} {p:A1->A2->A3->A4->Prop} {G:Prop} (h:∃ x1 x2 x3 x4,p x1 x2 x3 x4) (k:∀ x1 x2 x3 x4,p x1 x2 x3 x4->G):G:=by
 obtain ⟨x1,x2,x3,x4,h⟩:=h;exact k _ _ _ _ h
theorem ex5 {A1:Sort _} {A2:Sort _} {A3:Sort _} {A4:Sort _} {A5:Sort _} {p:A1->A2->A3->A4->A5->Prop} {G:Prop} (h:∃ x1 x2 x3 x4 x5,p x1 x2 x3 x4 x5) (k:∀ x1 x2 x3 x4 x5,p x1 x2 x3 x4 x5->G):G:=by
 obtain ⟨x1,x2,x3,x4,x5,h⟩:=h;exact k _ _ _ _ _ h
theorem ex6 {A1:Sort _} {A2:Sort _} {A3:Sort _} {A4:Sort _} {A5:Sort _} {A6:Sort _} {p:A1->A2->A3->A4->A5->A6->Prop} {G:Prop} (h:∃ x1 x2 x3 x4 x5 x6,p x1 x2 x3 x4 x5 x6) (k:∀ x1 x2 x3 x4 x5 x6,p x1 x2 x3 x4 x5 x6->G):G:=by
 obtain ⟨x1,x2,x3,x4,x5,x6,h⟩:=h;exact k _ _ _ _ _ _ h
theorem ex7 {A1:Sort _} {A2:Sort _} {A3:Sort _} {A4:Sort _} {A5:Sort _} {A6:Sort _} {A7:Sort _} {p:A1->A2->A3->A4->A5->A6->A7->Prop} {G:Prop} (h:∃ x1 x2 x3 x4 x5 x6 x7,p x1 x2 x3 x4 x5 x6 x7) (k:∀ x1 x2 x3 x4 x5 x6 x7,p x1 x2 x3 x4 x5 x6 x7->G):G:=by
 obtain ⟨x1,x2,x3,x4,x5,x6,x7,h⟩:=h;exact k _ _ _ _ _ _ _ h
theorem em2 {A1:Sort _} {A2:Sort _} {p:A1->A2->Prop} (x1:A1) (x2:A2) (h:p x1 x2):∃ x1 x2,p x1 x2:=⟨x1,x2,h⟩
theorem em3 {A1:Sort _} {A2:Sort _} {A3:Sort _} {p:A1->A2->A3->Prop} (x1:A1) (x2:A2) (x3:A3) (h:p x1 x2 x3):∃ x1 x2 x3,p x1 x2 x3:=⟨x1,x2,x3,h⟩
theorem em4 {A1:Sort _} {A2:Sort _} {A3:Sort _} {A4:Sort _} {p:A1->A2->A3->A4->Prop} (x1:A1) (x2:A2) (x3:A3) (x4:A4) (h:p x1 x2 x3 x4):∃ x1 x2 x3 x4,p x1 x2 x3 x4:=⟨x1,x2,x3,x4,h⟩
theorem em5 {A1:Sort _} {A2:Sort _} {A3:Sort _} {A4:Sort _} {A5:Sort _} {p:A1->A2->A3->A4->A5->Prop} (x1:A1) (x2:A2) (x3:A3) (x4:A4) (x5:A5) (h:p x1 x2 x3 x4 x5):∃ x1 x2 x3 x4 x5,p x1 x2 x3 x4 x5:=⟨x1,x2,x3,x4,x5,h⟩
theorem em6 {A1:Sort _} {A2:Sort _} {A3:Sort _} {A4:Sort _} {A5:Sort _} {A6:Sort _} {p:A1->A2->A3->A4->A5->A6->Prop} (x1:A1) (x2:A2) (x3:A3) (x4:A4) (x5:A5) (x6:A6) (h:p x1 x2 x3 x4 x5 x6):∃ x1 x2 x3 x4 x5 x6,p x1 x2 x3 x4 x5 x6:=⟨x1,x2,x3,x4,x5,x6,h⟩
theorem em7 {A1:Sort _} {A2:Sort _} {A3:Sort _} {A4:Sort _} {A5:Sort _} {A6:Sort _} {A7:Sort _} {p:A1->A2->A3->A4->A5->A6->A7->Prop} (x1:A1) (x2:A2) (x3:A3) (x4:A4) (x5:A5) (x6:A6) (x7:A7) (h:p x1 x2 x3 x4 x5 x6 x7):∃ x1 x2 x3 x4 x5 x6 x7,p x1 x2 x3 x4 x5 x6 x7:=⟨x1,x2,x3,x4,x5,x6,x7,h⟩
inductive AV where
 | none
 | bool (b:Bool)
 | int (i:Int)
 | str (s:Str)
 | tup (l:List AV)
 | ref (a:Nat)
 | exc (c:Nat)
 | fro (l:List AV)

inductive AO where
 | list (l:List AV)
 | dict (d:List (Int×AV)) (ep:Nat)
 | inst (dx:Nat)
 | ns (f:List (Nat×AV))

noncomputable abbrev AH:=Nat->Option AO
noncomputable def AH.set (H:AH) (a:Nat) (o:AO):AH:=λ b=>if b=a then some o else H b

noncomputable abbrev lid:Nat:=100000

set_option genCtorIdx false
inductive Op where | add | sub | mul | fdiv | mod | pow (n:Nat)
inductive Cm where | eq | ne | lt | le | gt | ge | is | isNot | isIn | notIn | no (n:Nat)
inductive Bi where | len | list | sorted | min | int | str | tuple | set (n:Nat)
inductive Ty where | int | bool | list | tuple | str | own (c:Nat)
set_option genCtorIdx true
inductive Tg where | one (x:Nat) | many (xs:List Nat)

set_option genCtorIdx false
mutual
inductive IE where
 | cn
 | cb (b:Bool)
 | ci (i:Int)
 | cs (s:Str)
 | var (i:Nat)
 | bin (o:Op) (a b:IE)
 | neg (a:IE)
 | not (a:IE)
 | and (l:IEs)
 | or (l:IEs)
 | cmp (c:Cm) (a b:IE)
 | attr (e:IE) (n:Nat)
 | idx (e i:IE)
 | slice (e lo hi st:IE)
 | list (l:IEs)
 | tup (l:IEs)
 | dict
 | comp (t:Tg) (it:II) (cond:ITs) (elt:IE)
 | join (sep:Str) (e:IE)
 | rep (e n:IE)
 | split (e:IE) (sep:Nat)
 | call (f:Nat) (l:IEs)
 | new (l:IEs)
 | bi (b:Bi) (l:IEs)
 | isinst (e:IE) (t:Ty)
 | meth (e:IE) (n:Nat) (l:IEs)
inductive IEs where
 | nil
 | cons (e:IE) (r:IEs)
inductive II where
 | range (a b:IE)
 | val (e:IE)
inductive IT where
 | not (t:IT)
 | and (l:ITs)
 | or (l:ITs)
 | val (e:IE)
inductive ITs where
 | nil
 | cons (t:IT) (r:ITs)
end

mutual
inductive IS where
 | asg (x:Nat) (e:IE)
 | sat (o:IE) (n:Nat) (e:IE)
 | sit (o i:IE) (e:IE)
 | ex (e:IE)
 | ite (c:IT) (t e:ISs)
 | for (tg:Tg) (it:II) (b:ISs)
 | while (c:IT) (b:ISs)
 | ret (e:IE)
 | raise (c:Nat) (a:IE)
 | try (b:ISs) (c:Nat) (x:Nat) (h:ISs)
inductive ISs where
 | nil
 | cons (s:IS) (r:ISs)
end

noncomputable abbrev Loc:=List (Option AV)
set_option genCtorIdx true
inductive Fl where | next | ret (v:AV)

noncomputable abbrev Calls:=Nat->List AV->AH->(AV->AH->Prop)->(Nat->AH->Prop)->Prop

noncomputable def AV.data:AV->Option PyData
 | .none=>some .none
 | .bool b=>some (.bool b)
 | .int i=>some (.int i)
 | .str s=>some (.str s)
 | .tup l=>(go l).map .tuple
 | .ref _=>.none
 | .exc _=>.none
 | .fro _=>.none
where go:List AV->Option (List PyData)
 | []=>some []
 | a::r=>match a.data,go r with
  | some d,some ds=>some (d::ds)
  | _,_=>.none

noncomputable def data1 (H:AH) (v:AV):Option PyData:=match v with
 | .ref a=>match H a with
  | some (.list l)=>(AV.data.go l).map .list
  | _=>.none
 | v=>v.data
noncomputable def qz (H:AH):List AV->Option (List PyData)
 | []=>some []
 | a::r=>match data1 H a,qz H r with
  | some d,some ds=>some (d::ds)
  | _,_=>.none
noncomputable def zq (H:AH) (v:AV):Option PyData:=match v with
 | .tup l=>(qz H l).map .tuple
 | v=>data1 H v

noncomputable def dget (d:List (Int×AV)) (k:Int):Option AV:=(d.find? λ p=>p.1=k).map (·.2)
noncomputable def dset (d:List (Int×AV)) (k:Int) (v:AV):List (Int×AV):=
 if d.any (λ p=>p.1=k) then d.map (λ p=>if p.1=k then (p.1,v) else p) else d++[(k,v)]
noncomputable def ddel (d:List (Int×AV)) (k:Int):List (Int×AV):=d.filter λ p=>!decide (p.1=k)

noncomputable def nget (f:List (Nat×AV)) (n:Nat):Option AV:=(f.find? λ p=>p.1=n).map (·.2)
noncomputable def nset (f:List (Nat×AV)) (n:Nat) (v:AV):List (Nat×AV):=
 if f.any (λ p=>p.1=n) then f.map (λ p=>if p.1=n then (p.1,v) else p) else f++[(n,v)]

noncomputable def newL (l:List AV) (H:AH) (Q:AV->AH->Prop):Prop:=∀ a,H a=.none->Q (.ref a) (H.set a (.list l))
noncomputable def newD (H:AH) (Q:AV->AH->Prop):Prop:=∀ a ep,H a=.none->Q (.ref a) (H.set a (.dict [] ep))

noncomputable def oR (a b:AV) (K:Int->Int->Prop):Prop:=match a with
 | .int x=>match b with
  | .int y=>K x y
  | _=>False
 | _=>False
noncomputable def wAdd (a b:AV) (H:AH) (Q:AV->AH->Prop):Prop:=match a with
 | .int x=>match b with
  | .int y=>Q (.int (x+y)) H
  | _=>False
 | .tup x=>match b with
  | .tup y=>x.length+y.length<=lid/\Q (.tup (x++y)) H
  | _=>False
 | .ref x=>match b with
  | .ref y=>match H x with
   | some (.list l)=>match H y with
    | some (.list k)=>l.length+k.length<=lid/\newL (l++k) H Q
    | _=>False
   | _=>False
  | _=>False
 | _=>False
noncomputable def wBin (o:Op) (a b:AV) (H:AH) (Q:AV->AH->Prop):Prop:=match o with
 | .add=>wAdd a b H Q
 | .sub=>oR a b λ x y=>Q (.int (x - y)) H
 | .mul=>oR a b λ x y=>(x.natAbs < 2 ^ 60\/y.natAbs < 2 ^ 60)/\Q (.int (x * y)) H
 | .fdiv=>oR a b λ x y=>(y≠0/\y.natAbs < 2 ^ 30)/\Q (.int (x.fdiv y)) H
 | .mod=>oR a b λ x y=>y≠0/\Q (.int (x.fmod y)) H
 | .pow _=>False

noncomputable def ss (H:AH) (a b:AV):Prop:=∃ x y d e ep eq,a=.ref x/\b=.ref y/\H x=some (.dict d ep)/\H y=some (.dict e eq)/\d.length=e.length/\
 ∀ k v,(k,v)∈d->∃ u p q,dget e k=some u/\data1 H v=some p/\data1 H u=some q/\(p.depth<=30/\q.depth<=30)/\PyData.eqv p q=true
noncomputable def v5 (H:AH):List AV->List AV->Prop
 | [],[]=>True
 | a::r,b::t=>ss H a b/\v5 H r t
 | _,_=>False
noncomputable def l6 (H:AH) (a b:AV):Prop:=∃ x y l k,a=.ref x/\b=.ref y/\x≠y/\H x=some (.list l)/\H y=some (.list k)/\v5 H l k

noncomputable def wIn (a b:AV) (H:AH):Option Bool:=match a,b with
 | .int x,.ref d=>match H d with
  | some (.dict kv _)=>some (dget kv x).isSome
  | some (.list l)=>(AV.data.go l).map λ ds=>ds.any λ y=>PyData.eqv y (.int x)
  | _=>.none
 | .str x,.ref d=>match H d with
  | some (.list l)=>(AV.data.go l).map λ ds=>ds.any λ y=>PyData.eqv y (.str x)
  | _=>.none
 | .int x,.tup l=>(AV.data.go l).map λ ds=>ds.any λ y=>PyData.eqv y (.int x)
 | .str x,.str y=>match x.cps.toList with
  | [c]=>some (decide (c∈y.cps.toList))
  | _=>.none
 | _,_=>.none

noncomputable def isNone:AV->Bool
 | .none=>true
 | _=>false

noncomputable def wCmp (c:Cm) (a b:AV) (H:AH) (Q:AV->AH->Prop):Prop:=match c with
 | .eq=>match zq H a,zq H b with
  | some x,some y=>min x.depth y.depth<=60/\Q (.bool (PyData.eqv x y)) H
  | _,_=>False
 | .ne=>match zq H a,zq H b with
  | some x,some y=>min x.depth y.depth<=60/\Q (.bool (!PyData.eqv x y)) H
  | _,_=>l6 H a b/\Q (.bool false) H
 | .lt=>match a,b with | .int x,.int y=>Q (.bool (decide (x < y))) H | _,_=>False
 | .le=>match a,b with | .int x,.int y=>Q (.bool (decide (x<=y))) H | _,_=>False
 | .gt=>match a,b with | .int x,.int y=>Q (.bool (decide (y < x))) H | _,_=>False
 | .ge=>match a,b with | .int x,.int y=>Q (.bool (decide (y<=x))) H | _,_=>False
 | .is=>match b with | .none=>Q (.bool (isNone a)) H | _=>False
 | .isNot=>match b with | .none=>Q (.bool (!isNone a)) H | _=>False
 | .isIn=>match wIn a b H with | some r=>Q (.bool r) H | .none=>False
 | .notIn=>match wIn a b H with | some r=>Q (.bool (!r)) H | .none=>False
 | .no _=>False

noncomputable def wIdx (a i:AV) (H:AH) (Q:AV->AH->Prop):Prop:=∃ k v,i=.int k/\Q v H/\((0<=k/\∃ l,l[k.toNat]?=some v/\(a=.fro l\/a=.tup l\/∃ x,a=.ref x/\H x=some (.list l)))\/(∃ x d ep,a=.ref x/\H x=some (.dict d ep)/\dget d k=some v)\/((0<=k/\k < 2 ^ 40)/\∃ x c,a=.str x/\x.cps[k.toNat]?=some c/\v=.str ⟨#[c]⟩))

noncomputable def cut (l:List AV) (lo:Nat) (hi:Option Nat):List AV:=match hi with
 | some h=>(l.take h).drop lo
 | .none=>l.drop lo
noncomputable def xK (l:List AV) (lo hi st:AV):Option (List AV):=match st with
 | .none=>match lo with
  | .int a=>match hi with
   | .int b=>if 0<=a/\0<=b then some (cut l a.toNat (some b.toNat)) else .none
   | .none=>if 0<=a then some (cut l a.toNat .none) else .none
   | _=>.none
  | .none=>match hi with
   | .int b=>if 0<=b then some (cut l 0 (some b.toNat)) else .none
   | _=>.none
  | _=>.none
 | _=>.none

noncomputable def iG (a lo hi st:AV) (H:AH) (Q:AV->AH->Prop):Prop:=∃ l r,xK l lo hi st=some r/\((a=.tup l/\Q (.tup r) H)\/((a=.fro l\/∃ x,a=.ref x/\H x=some (.list l))/\newL r H Q))

structure Src where
 items:List AV
 at_:Option (Nat×AO)
noncomputable def Src.ok (s:Src) (H:AH):Prop:=match s.at_ with
 | some (a,o)=>H a=some o
 | .none=>True
noncomputable def zJ (a b:Int):List AV:=(List.range (b - a).toNat).map λ (k:Nat)=>.int (a+(k:Int))

noncomputable def wF (x:Str):List AV:=x.cps.toList.map λ c=>.str ⟨#[c]⟩
noncomputable def u8 (x:Str):Bool:=x.cps.all λ c=>decide (c < 128)
noncomputable def wP (v:AV) (H:AH):Option Src:=match v with
 | .str x=>if u8 x&&decide (x.length<=lid) then some ⟨wF x,.none⟩ else .none
 | .tup l=>some ⟨l,.none⟩
 | .fro l=>some ⟨l,.none⟩
 | .ref a=>match H a with
  | some (.list l)=>some ⟨l,some (a,.list l)⟩
  | some (.dict d ep)=>some ⟨d.map λ p=>.int p.1,some (a,.dict d ep)⟩
  | _=>.none
 | _=>.none

noncomputable def v6:List Nat->List AV->Loc->Option Loc
 | [],[],m=>some m
 | x::xs,v::vs,m=>v6 xs vs (m.set x (some v))
 | _,_,_=>.none
noncomputable def zz (t:Tg) (v:AV) (m:Loc):Option Loc:=match t with
 | .one x=>some (m.set x (some v))
 | .many xs=>match v with
  | .tup vs=>v6 xs vs m
  | _=>.none

noncomputable def xL (t:Tg) (m:Loc):Loc:=match t with
 | .one x=>m.set x .none
 | .many xs=>xs.foldl (λ m x=>m.set x .none) m

noncomputable def z4:List AV->Option (List Int)
 | []=>some []
 | .int i::r=>(z4 r).map (i::·)
 | _::_=>.none

noncomputable def zo (x:Int):List Int->List Int
 | []=>[x]
 | y::r=>if x<=y then x::y::r else y::zo x r
noncomputable def zA:List Int->List Int
 | []=>[]
 | x::r=>zo x (zA r)
noncomputable def yU:Int->List Int->Int
 | x,[]=>x
 | x,y::r=>yU (if y < x then y else x) r

noncomputable def zW (v:AV) (H:AH):Option (List AV):=match v with
 | .str _=>.none
 | v=>(wP v H).map (·.items)

noncomputable def wLen (v:AV) (H:AH) (Q:AV->AH->Prop):Prop:=match v with
 | .tup l=>Q (.int l.length) H
 | .fro l=>Q (.int l.length) H
 | .str x=>x.length<=2 ^ 40/\Q (.int x.length) H
 | .ref a=>match H a with
  | some (.list l)=>Q (.int l.length) H
  | some (.dict d _)=>Q (.int d.length) H
  | _=>False
 | _=>False
noncomputable def su (v:AV) (H:AH) (Q:AV->AH->Prop):Prop:=match v with
 | .ref a=>match (zW (.ref a) H).bind z4 with | some l=>l.length < 64/\newL ((zA l).map .int) H Q | .none=>False
 | _=>False
noncomputable def oS (v:AV) (H:AH) (Q:AV->AH->Prop):Prop:=match v with
 | .bool b=>Q (.int (if b then 1 else 0)) H
 | .str x=>match intText? x with
  | some i=>x.length<=640/\Q (.int i) H
  | .none=>False
 | _=>False
noncomputable def wMin (v:AV) (H:AH) (Q:AV->AH->Prop):Prop:=match v with
 | .ref a=>match H a with
  | some (.list t)=>match z4 t with
   | some l=>match l with
    | x::r=>Q (.int (yU x r)) H
    | []=>False
   | .none=>False
  | _=>False
 | _=>False
noncomputable def yF:List AV->Option (List Str)
 | []=>some []
 | .str x::r=>(yF r).map (x::·)
 | _::_=>.none
noncomputable def wStr (v:AV) (H:AH) (Q:AV->AH->Prop):Prop:=match v with
 | .int i=>i.natAbs < 10 ^ 10/\Q (.str (Str.ofString (toString i))) H
 | .str x=>Q (.str x) H
 | _=>False
noncomputable def td (v:AV) (H:AH) (Q:AV->AH->Prop):Prop:=match v with
 | .ref a=>match H a with
  | some (.list l)=>Q (.tup l) H
  | _=>False
 | _=>False
noncomputable def il (sep:Str) (v:AV) (H:AH) (Q:AV->AH->Prop):Prop:=∃ a l ys,v=.ref a/\H a=some (.list l)/\yF l=some ys/\(ys.map (·.length)).sum+ys.length * sep.length<=16777216/\Q (.str (Str.join sep ys)) H
noncomputable def iH (v:AV) (c:Nat) (H:AH) (Q:AV->AH->Prop):Prop:=∃ x,v=.str x/\x.length<=90000/\newL ((Txt.split x ⟨#[c]⟩).map .str) H Q
noncomputable def wBi1 (b:Bi) (v:AV) (H:AH) (Q:AV->AH->Prop):Prop:=match b with
 | .len=>wLen v H Q
 | .list=>match zW v H with | some l=>newL l H Q | .none=>False
 | .sorted=>su v H Q
 | .min=>wMin v H Q
 | .int=>oS v H Q
 | .str=>wStr v H Q
 | .tuple=>td v H Q
 | _=>False
noncomputable def wBi (b:Bi) (vs:List AV) (H:AH) (Q:AV->AH->Prop):Prop:=match vs with
 | [v]=>wBi1 b v H Q
 | _=>False

noncomputable def isOf (v:AV) (t:Ty) (H:AH):Option Bool:=match t,v with
 | .int,.int _=>some true
 | .int,.bool _=>some true
 | .int,.none=>some false
 | .int,.str _=>some false
 | .int,.tup _=>some false
 | .bool,.bool _=>some true
 | .bool,.int _=>some false
 | .bool,.none=>some false
 | .tuple,.tup _=>some true
 | .tuple,.none=>some false
 | .tuple,.int _=>some false
 | .str,.str _=>some true
 | .str,.int _=>some false
 | .list,.ref a=>match H a with | some (.list _)=>some true | _=>.none
 | .tuple,.ref a=>match H a with | some (.list _)=>some false | _=>.none
 | .own c,.exc d=>some (c == d)
 | _,_=>.none

inductive Kd where | list | dict | inst | str
noncomputable def kdOf (n:Nat) (v:AV) (H:AH):Option Kd:=match v with
 | .ref a=>match H a with
  | some (.list _)=>if n < 2 then some .list else .none
  | some (.dict _ _)=>if n=1\/n=2 then some .dict else .none
  | some (.inst dx)=>match H dx with
   | some (.ns _)=>if n < 4 then .none else some .inst
   | _=>.none
  | _=>.none
 | _=>.none

noncomputable def wPop (a:Nat) (d:List (Int×AV)) (vs:List AV) (H:AH) (Q:AV->AH->Prop):Prop:=match vs with
 | .int k::r=>match r with
  | []=>match dget d k with
   | some x=>∀ ep,Q x (H.set a (.dict (ddel d k) ep))
   | .none=>False
  | [y]=>match dget d k with
   | some x=>∀ ep,Q x (H.set a (.dict (ddel d k) ep))
   | .none=>Q y H
  | _=>False
 | _=>False
noncomputable def wGet (d:List (Int×AV)) (vs:List AV) (H:AH) (Q:AV->AH->Prop):Prop:=match vs with
 | .int k::r=>match r with
  | [y]=>Q ((dget d k).getD y) H
  | _=>False
 | _=>False
noncomputable def wApp (a:Nat) (l:List AV) (vs:List AV) (H:AH) (Q:AV->AH->Prop):Prop:=match vs with
 | [x]=>l.length < lid/\Q .none (H.set a (.list (l++[x])))
 | _=>False
noncomputable def qK (n a:Nat) (d:List (Int×AV)) (vs:List AV) (H:AH) (Q:AV->AH->Prop):Prop:=match n with
 | 1=>wPop a d vs H Q
 | 2=>wGet d vs H Q
 | _=>False
noncomputable def wLPop (a:Nat) (l:List AV) (vs:List AV) (H:AH) (Q:AV->AH->Prop):Prop:=match vs with
 | []=>match l.getLast? with
  | some x=>Q x (H.set a (.list l.dropLast))
  | .none=>False
 | _=>False
noncomputable def qL (n a:Nat) (l:List AV) (vs:List AV) (H:AH) (Q:AV->AH->Prop):Prop:=match n with
 | 0=>wApp a l vs H Q
 | 1=>wLPop a l vs H Q
 | _=>False
noncomputable def xd (C:Calls) (n:Nat) (v:AV) (vs:List AV) (H:AH) (Q:AV->AH->Prop) (X:Nat->AH->Prop):Prop:=match v with
 | .ref a=>match H a with
  | some (.list l)=>qL n a l vs H Q
  | some (.dict d _)=>qK n a d vs H Q
  | some (.inst _)=>C n (.ref a::vs) H Q X
  | _=>False
 | _=>False

noncomputable def oT (v:AV) (n:Nat) (H:AH) (Q:AV->AH->Prop):Prop:=match v with
 | .ref a=>match H a with
  | some (.inst dx)=>match H dx with
   | some (.ns f)=>match nget f n with | some v=>Q v H | .none=>False
   | _=>False
  | _=>False
 | _=>False

noncomputable def wSat (o:AV) (n:Nat) (v:AV) (H:AH) (Q:AH->Prop):Prop:=match o with
 | .ref a=>match H a with
  | some (.inst dx)=>match H dx with
   | some (.ns f)=>Q (H.set dx (.ns (nset f n v)))
   | _=>False
  | _=>False
 | _=>False

noncomputable def wSit (o i v:AV) (H:AH) (Q:AH->Prop):Prop:=match o,i with
 | .ref a,.int k=>match H a with
  | some (.list l)=>(0<=k/\k < l.length)/\Q (H.set a (.list (l.set k.toNat v)))
  | some (.dict d _)=>d.length < lid/\∀ ep,Q (H.set a (.dict (dset d k v) ep))
  | _=>False
 | _,_=>False

noncomputable def forL (ok:AH->Prop) (bind:AV->Loc->Option Loc) (body:Loc->AH->(Fl->Loc->AH->Prop)->Prop):List AV->Loc->AH->(Fl->Loc->AH->Prop)->Prop
 | [],m,H,Q=>ok H/\Q .next m H
 | v::r,m,H,Q=>ok H/\match bind v m with
  | some m'=>body m' H λ f m'' H'=>match f with
   | .next=>forL ok bind body r m'' H' Q
   | .ret x=>Q (.ret x) m'' H'
  | .none=>False
noncomputable def wQ (ok:AH->Prop) (bind:AV->Loc->Option Loc) (test:Loc->AH->(Bool->AH->Prop)->Prop) (elt:Loc->AH->(AV->AH->Prop)->Prop):List AV->Loc->AH->List AV->(List AV->AH->Prop)->Prop
 | [],_,H,acc,Q=>ok H/\Q acc H
 | v::r,m,H,acc,Q=>ok H/\match bind v m with
  | some m'=>test m' H λ b H'=>match b with
   | true=>elt m' H' λ y H''=>wQ ok bind test elt r m' H'' (acc++[y]) Q
   | false=>wQ ok bind test elt r m' H' acc Q
  | .none=>False
noncomputable def vm (test:Loc->AH->(Bool->AH->Prop)->Prop) (body:Loc->AH->(Fl->Loc->AH->Prop)->Prop):Nat->Loc->AH->(Fl->Loc->AH->Prop)->Prop
 | 0,_,_,_=>False
 | n+1,m,H,Q=>test m H λ b H'=>match b with
  | true=>body m H' λ f m' H''=>match f with
   | .next=>vm test body n m' H'' Q
   | .ret x=>Q (.ret x) m' H''
  | false=>Q .next m H'

noncomputable abbrev th:Nat:=20

mutual
noncomputable def WE (C:Calls) (X:Nat->AH->Prop):IE->Loc->AH->(AV->AH->Prop)->Prop
 | .cn,_,H,Q=>Q .none H
 | .cb b,_,H,Q=>Q (.bool b) H
 | .ci i,_,H,Q=>Q (.int i) H
 | .cs s,_,H,Q=>Q (.str s) H
 | .var i,m,H,Q=>match m[i]? with | some (some v)=>Q v H | _=>False
 | .bin o a b,m,H,Q=>WE C X a m H λ x H=>WE C X b m H λ y H=>wBin o x y H Q
 | .neg a,m,H,Q=>WE C X a m H λ x H=>match x with | .int i=>Q (.int (-i)) H | _=>False
 | .not a,m,H,Q=>WE C X a m H λ x H=>match x with | .bool b=>Q (.bool (!b)) H | _=>False
 | .and l,m,H,Q=>WAnd C X l m H Q
 | .or l,m,H,Q=>WOr C X l m H Q
 | .cmp c a b,m,H,Q=>WE C X a m H λ x H=>WE C X b m H λ y H=>wCmp c x y H Q
 | .attr e n,m,H,Q=>WE C X e m H λ v H=>oT v n H Q
 | .idx e i,m,H,Q=>WE C X e m H λ v H=>WE C X i m H λ k H=>wIdx v k H Q
 | .slice e lo hi st,m,H,Q=>WE C X e m H λ v H=>WE C X lo m H λ a H=>WE C X hi m H λ b H=>WE C X st m H λ c H=>iG v a b c H Q
 | .list l,m,H,Q=>WEs C X l m H λ vs H=>newL vs H Q
 | .tup l,m,H,Q=>WEs C X l m H λ vs H=>Q (.tup vs) H
 | .dict,_,H,Q=>newD H Q
 | .comp t it cond elt,m,H,Q=>WI C X it m H λ src H=>wQ src.ok (zz t) (λ m H Q=>WTAnd C X cond m H Q) (λ m H Q=>WE C X elt m H Q) src.items (xL t m) H [] λ r H=>newL r H Q
 | .join sep e,m,H,Q=>WE C X e m H λ v H=>il sep v H Q
 | .rep e k,m,H,Q=>WE C X e m H λ v H=>WE C X k m H λ y H=>match y with
  | .int i=>(0<=i/\i<=lid)/\newL (List.replicate i.toNat v) H Q
  | _=>False
 | .split e c,m,H,Q=>WE C X e m H λ v H=>iH v c H Q
 | .call f l,m,H,Q=>WEs C X l m H λ vs H=>C f vs H Q X
 | .new l,m,H,Q=>WEs C X l m H λ vs H=>∀ x dx,x≠dx->H x=.none->H dx=.none->C th (.ref x::vs) ((H.set dx (.ns [])).set x (.inst dx)) (λ r H'=>isNone r=true/\Q (.ref x) H') X
 | .bi b l,m,H,Q=>WEs C X l m H λ vs H=>wBi b vs H Q
 | .isinst e t,m,H,Q=>WE C X e m H λ v H=>match isOf v t H with | some b=>Q (.bool b) H | .none=>False
 | .meth e n l,m,H,Q=>WE C X e m H λ v H=>match kdOf n v H with
  | some k=>WEs C X l m H λ vs H=>kdOf n v H=some k/\xd C n v vs H Q X
  | .none=>False
noncomputable def WEs (C:Calls) (X:Nat->AH->Prop):IEs->Loc->AH->(List AV->AH->Prop)->Prop
 | .nil,_,H,Q=>Q [] H
 | .cons e r,m,H,Q=>WE C X e m H λ v H=>WEs C X r m H λ vs H=>Q (v::vs) H
noncomputable def WAnd (C:Calls) (X:Nat->AH->Prop):IEs->Loc->AH->(AV->AH->Prop)->Prop
 | .nil,_,_,_=>False
 | .cons e .nil,m,H,Q=>WE C X e m H Q
 | .cons e r,m,H,Q=>WE C X e m H λ v H=>match v with
  | .bool true=>WAnd C X r m H Q
  | .bool false=>Q (.bool false) H
  | _=>False
noncomputable def WOr (C:Calls) (X:Nat->AH->Prop):IEs->Loc->AH->(AV->AH->Prop)->Prop
 | .nil,_,_,_=>False
 | .cons e .nil,m,H,Q=>WE C X e m H Q
 | .cons e r,m,H,Q=>WE C X e m H λ v H=>match v with
  | .bool false=>WOr C X r m H Q
  | .bool true=>Q (.bool true) H
  | _=>False
noncomputable def WI (C:Calls) (X:Nat->AH->Prop):II->Loc->AH->(Src->AH->Prop)->Prop
 | .range a b,m,H,Q=>WE C X a m H λ x H=>WE C X b m H λ y H=>match x,y with
  | .int i,.int j=>(-(2 ^ 60)<=i/\i<=2 ^ 60/\-(2 ^ 60)<=j/\j - i<=lid)/\Q ⟨zJ i j,.none⟩ H
  | _,_=>False
 | .val e,m,H,Q=>WE C X e m H λ v H=>match wP v H with | some src=>Q src H | .none=>False
noncomputable def WT (C:Calls) (X:Nat->AH->Prop):IT->Loc->AH->(Bool->AH->Prop)->Prop
 | .not t,m,H,Q=>WT C X t m H λ b H=>Q (!b) H
 | .and l,m,H,Q=>WTAnd C X l m H Q
 | .or l,m,H,Q=>WTOr C X l m H Q
 | .val e,m,H,Q=>WE C X e m H λ v H=>match v with | .bool b=>Q b H | _=>False
noncomputable def WTAnd (C:Calls) (X:Nat->AH->Prop):ITs->Loc->AH->(Bool->AH->Prop)->Prop
 | .nil,_,H,Q=>Q true H
 | .cons t r,m,H,Q=>WT C X t m H λ b H=>match b with
  | true=>WTAnd C X r m H Q
  | false=>Q false H
noncomputable def WTOr (C:Calls) (X:Nat->AH->Prop):ITs->Loc->AH->(Bool->AH->Prop)->Prop
 | .nil,_,H,Q=>Q false H
 | .cons t r,m,H,Q=>WT C X t m H λ b H=>match b with
  | false=>WTOr C X r m H Q
  | true=>Q true H
end

noncomputable def takes (c d:Nat):Bool:=c == 0||c == d

mutual
noncomputable def WS (C:Calls):IS->Loc->AH->(Fl->Loc->AH->Prop)->(Nat->Loc->AH->Prop)->Prop
 | .asg x e,m,H,Q,X=>WE C (λ c H=>X c m H) e m H λ v H=>Q .next (m.set x (some v)) H
 | .sat o n e,m,H,Q,X=>WE C (λ c H=>X c m H) e m H λ v H=>WE C (λ c H=>X c m H) o m H λ a H=>wSat a n v H λ H=>Q .next m H
 | .sit o i e,m,H,Q,X=>WE C (λ c H=>X c m H) e m H λ v H=>WE C (λ c H=>X c m H) o m H λ a H=>WE C (λ c H=>X c m H) i m H λ k H=>wSit a k v H λ H=>Q .next m H
 | .ex e,m,H,Q,X=>WE C (λ c H=>X c m H) e m H λ z_ H=>Q .next m H
 | .ite c t e,m,H,Q,X=>WT C (λ c H=>X c m H) c m H λ b H=>match b with
  | true=>WSs C t m H Q X
  | false=>WSs C e m H Q X
 | .for tg it b,m,H,Q,X=>WI C (λ c H=>X c m H) it m H λ src H=>forL src.ok (zz tg) (λ m H Q=>WSs C b m H Q X) src.items m H Q
 | .while c b,m,H,Q,X=>∃ n,vm (λ m H Q=>WT C (λ c H=>X c m H) c m H Q) (λ m H Q=>WSs C b m H Q X) n m H Q
 | .ret e,m,H,Q,X=>WE C (λ c H=>X c m H) e m H λ v H=>Q (.ret v) m H
 | .raise c a,m,H,_,X=>WE C (λ c H=>X c m H) a m H λ z_ H=>X c m H
 | .try b c x h,m,H,Q,X=>WSs C b m H Q λ d m H=>match takes c d with
  | true=>WSs C h (m.set x (some (.exc d))) H (λ f m H=>Q f (m.set x .none) H) X
  | false=>X d m H
noncomputable def WSs (C:Calls):ISs->Loc->AH->(Fl->Loc->AH->Prop)->(Nat->Loc->AH->Prop)->Prop
 | .nil,m,H,Q,_=>Q .next m H
 | .cons s r,m,H,Q,X=>WS C s m H (λ f m H=>match f with
  | .next=>WSs C r m H Q X
  | .ret v=>Q (.ret v) m H) X
end

structure IFn where
 args:Nat
 slots:Nat
 body:ISs

noncomputable def oU (f:IFn) (vs:List AV):Loc:=vs.map some++List.replicate (f.slots - f.args) .none

noncomputable def CN (P:Nat->Option IFn):Nat->Calls
 | 0,_,_,_,_,_=>False
 | n+1,f,vs,H,Q,X=>match P f with
  | some fn=>vs.length=fn.args/\WSs (CN P n) fn.body (oU fn vs) H (λ fl z_ H=>match fl with
   | .ret v=>Q v H
   | .next=>Q .none H) (λ c z_ H=>X c H)
  | .none=>False

noncomputable def im:IFn:=
 ⟨1,9,(.cons (.sat (.var 0) 0 (.ci 0)) (.cons (.sat (.var 0) 1 (.ci 0)) (.cons (.sat (.var 0) 2 .dict) (.cons (.sat (.var 0) 3 .dict) (.cons (.sat (.var 0) 4 .dict) (.cons (.sat (.var 0) 5 .dict) .nil))))))⟩
noncomputable def wx:IFn:=
 ⟨2,10,(.cons (.ite (.val (.cmp .notIn (.var 1) (.attr (.var 0) 2))) (.cons (.ex (.not .cn)) .nil) .nil) .nil)⟩
noncomputable def pA:IFn:=
 ⟨3,11,(.cons (.ex (.meth (.var 0) 21 (.cons (.var 1) .nil))) (.cons (.ite (.or (.cons (.val (.cmp .lt (.var 2) (.ci 0))) (.cons (.val (.cmp .ge (.var 2) (.bi .len (.cons (.idx (.attr (.var 0) 2) (.var 1)) .nil)))) .nil))) (.cons (.ex (.not .cn)) .nil) .nil) .nil))⟩
noncomputable def ip:IFn:=
 ⟨2,11,(.cons (.ite (.or (.cons (.val (.cmp .lt (.var 1) (.ci 0))) (.cons (.val (.cmp .gt (.var 1) (.ci 9))) .nil))) (.cons (.ex (.not .cn)) .nil) .nil) (.cons (.ite (.val (.cmp .ge (.bi .len (.cons (.attr (.var 0) 2) .nil)) (.ci 60))) (.cons (.ex (.not .cn)) .nil) .nil) (.cons (.asg 2 (.attr (.var 0) 0)) (.cons (.sat (.var 0) 0 (.bin .add (.var 2) (.ci 1))) (.cons (.sit (.attr (.var 0) 2) (.var 2) (.rep .cn (.var 1))) (.cons (.sit (.attr (.var 0) 3) (.var 2) (.cb true)) (.cons (.ret (.var 2)) .nil)))))))⟩
noncomputable def iu:IFn:=
 ⟨1,9,(.cons (.ret (.bi .sorted (.cons (.bi .list (.cons (.attr (.var 0) 2) .nil)) .nil))) .nil)⟩
noncomputable def iv:IFn:=
 ⟨2,10,(.cons (.ex (.meth (.var 0) 21 (.cons (.var 1) .nil))) (.cons (.ret (.bi .len (.cons (.idx (.attr (.var 0) 2) (.var 1)) .nil))) .nil))⟩
noncomputable def iw:IFn:=
 ⟨5,13,(.cons (.ex (.meth (.var 0) 22 (.cons (.var 1) (.cons (.var 2) .nil)))) (.cons (.ex (.meth (.var 0) 21 (.cons (.var 3) .nil))) (.cons (.sit (.idx (.attr (.var 0) 2) (.var 1)) (.var 2) (.tup (.cons (.var 3) (.cons (.var 4) .nil)))) .nil)))⟩
noncomputable def iy:IFn:=
 ⟨3,11,(.cons (.ex (.meth (.var 0) 22 (.cons (.var 1) (.cons (.var 2) .nil)))) (.cons (.sit (.idx (.attr (.var 0) 2) (.var 1)) (.var 2) .cn) .nil))⟩
noncomputable def iz:IFn:=
 ⟨3,11,(.cons (.ex (.meth (.var 0) 22 (.cons (.var 1) (.cons (.var 2) .nil)))) (.cons (.ret (.idx (.idx (.attr (.var 0) 2) (.var 1)) (.var 2))) .nil))⟩
noncomputable def hA:IFn:=
 ⟨2,10,(.cons (.ex (.meth (.var 0) 21 (.cons (.var 1) .nil))) (.cons (.sit (.attr (.var 0) 3) (.var 1) (.cb true)) .nil))⟩
noncomputable def hF:IFn:=
 ⟨2,10,(.cons (.ex (.meth (.var 0) 21 (.cons (.var 1) .nil))) (.cons (.ite (.val (.cmp .notIn (.var 1) (.attr (.var 0) 3))) (.cons (.ex (.not .cn)) .nil) .nil) (.cons (.ex (.meth (.attr (.var 0) 3) 1 (.cons (.var 1) .nil))) .nil)))⟩
noncomputable def hJ:IFn:=
 ⟨1,9,(.cons (.ret (.bi .sorted (.cons (.bi .list (.cons (.attr (.var 0) 3) .nil)) .nil))) .nil)⟩
noncomputable def hO:IFn:=
 ⟨4,13,(.cons (.ex (.meth (.var 0) 21 (.cons (.var 1) .nil))) (.cons (.ex (.meth (.var 0) 21 (.cons (.var 2) .nil))) (.cons (.ex (.meth (.var 0) 21 (.cons (.var 3) .nil))) (.cons (.ite (.val (.cmp .ge (.bi .len (.cons (.attr (.var 0) 4) .nil)) (.ci 60))) (.cons (.ex (.not .cn)) .nil) .nil) (.cons (.asg 4 (.attr (.var 0) 1)) (.cons (.sat (.var 0) 1 (.bin .add (.var 4) (.ci 1))) (.cons (.sit (.attr (.var 0) 4) (.var 4) (.tup (.cons (.var 1) (.cons (.var 2) (.cons (.var 3) .nil))))) (.cons (.ret (.var 4)) .nil))))))))⟩
noncomputable def hS:IFn:=
 ⟨2,10,(.cons (.ite (.val (.cmp .notIn (.var 1) (.attr (.var 0) 4))) (.cons (.ex (.not .cn)) .nil) .nil) (.cons (.ex (.meth (.attr (.var 0) 4) 1 (.cons (.var 1) .nil))) .nil))⟩
noncomputable def l7:IFn:=
 ⟨1,9,(.cons (.ret (.comp (.one 1) (.val (.bi .sorted (.cons (.bi .list (.cons (.attr (.var 0) 4) .nil)) .nil))) .nil (.bin .add (.tup (.cons (.var 1) .nil)) (.idx (.attr (.var 0) 4) (.var 1))))) .nil)⟩
noncomputable def hV:IFn:=
 ⟨3,13,(.cons (.ex (.meth (.var 0) 21 (.cons (.var 1) .nil))) (.cons (.ite (.val (.cmp .gt (.bi .len (.cons (.var 2) .nil)) (.ci 9))) (.cons (.ex (.not .cn)) .nil) .nil) (.cons (.for (.one 3) (.val (.var 2)) (.cons (.for (.one 4) (.val (.slice (.var 3) (.ci 1) (.ci 3) .cn)) (.cons (.ite (.val (.cmp .lt (.var 4) (.ci 0))) (.cons (.ex (.not .cn)) .nil) .nil) .nil)) .nil)) (.cons (.ex (.meth (.attr (.var 0) 5) 1 (.cons (.var 1) (.cons .cn .nil)))) (.cons (.ite (.val (.cmp .gt (.bi .len (.cons (.var 2) .nil)) (.ci 0))) (.cons (.sit (.attr (.var 0) 5) (.var 1) (.bi .list (.cons (.var 2) .nil))) .nil) .nil) .nil)))))⟩
noncomputable def hY:IFn:=
 ⟨2,10,(.cons (.ex (.meth (.var 0) 21 (.cons (.var 1) .nil))) (.cons (.ret (.bi .list (.cons (.meth (.attr (.var 0) 5) 2 (.cons (.var 1) (.cons (.list .nil) .nil))) .nil))) .nil))⟩
noncomputable def ti:IFn:=
 ⟨3,16,(.cons (.asg 3 (.list .nil)) (.cons (.for (.many [4,5,6,7]) (.val (.meth (.var 0) 35 .nil)) (.cons (.ite (.and (.cons (.val (.cmp .isIn (.var 1) (.tup (.cons (.var 5) (.cons (.var 6) .nil))))) (.cons (.val (.cmp .isIn (.var 5) (.var 2))) (.cons (.val (.cmp .isIn (.var 6) (.var 2))) .nil)))) (.cons (.ex (.meth (.var 3) 0 (.cons (.tup (.cons (.var 7) (.cons (.tup (.cons (.cs "pair") (.cons (.var 4) .nil))) .nil))) .nil))) .nil) .nil) .nil)) (.cons (.ret (.var 3)) .nil)))⟩
noncomputable def tj:IFn:=
 ⟨2,13,(.cons (.asg 2 (.list .nil)) (.cons (.for (.one 3) (.range (.ci 0) (.meth (.var 0) 25 (.cons (.var 1) .nil))) (.cons (.asg 4 (.meth (.var 0) 28 (.cons (.var 1) (.cons (.var 3) .nil)))) (.cons (.ite (.and (.cons (.val (.cmp .isNot (.var 4) .cn)) (.cons (.val (.idx (.var 4) (.ci 1))) .nil))) (.cons (.ex (.meth (.var 2) 0 (.cons (.tup (.cons (.idx (.var 4) (.ci 0)) (.cons (.tup (.cons (.cs "slot") (.cons (.var 1) (.cons (.var 3) .nil)))) .nil))) .nil))) .nil) .nil) .nil))) (.cons (.ret (.var 2)) .nil)))⟩
noncomputable def ir_42:IFn:=
 ⟨1,15,(.cons (.asg 2 (.comp (.one 7) (.val (.meth (.var 0) 32 .nil)) .nil (.tup (.cons (.var 7) (.cons (.tup (.cons (.cs "hand") .nil)) .nil))))) (.cons (.asg 3 .dict) (.cons (.for (.many [1,4]) (.val (.var 2)) (.cons (.sit (.var 3) (.var 1) (.cb true)) .nil)) (.cons (.asg 5 (.ci 0)) (.cons (.while (.val (.cmp .lt (.var 5) (.bi .len (.cons (.var 2) .nil)))) (.cons (.asg 6 (.idx (.idx (.var 2) (.var 5)) (.ci 0))) (.cons (.for (.many [1,4]) (.val (.bin .add (.call 41 (.cons (.var 0) (.cons (.var 6) .nil))) (.call 40 (.cons (.var 0) (.cons (.var 6) (.cons (.var 3) .nil)))))) (.cons (.ite (.val (.cmp .notIn (.var 1) (.var 3))) (.cons (.sit (.var 3) (.var 1) (.cb true)) (.cons (.ex (.meth (.var 2) 0 (.cons (.tup (.cons (.var 1) (.cons (.var 4) .nil))) .nil))) .nil)) .nil) .nil)) (.cons (.asg 5 (.bin .add (.var 5) (.ci 1))) .nil)))) (.cons (.ret (.var 2)) .nil))))))⟩
noncomputable def l8:IFn:=
 ⟨2,10,(.cons (.ite (.val (.cmp .lt (.var 1) (.bi .len (.cons (.var 0) .nil)))) (.cons (.ret (.idx (.var 0) (.var 1))) .nil) .nil) (.cons (.ret (.ci 0)) .nil))⟩
noncomputable def tD:IFn:=
 ⟨3,13,(.cons (.asg 3 (.list (.cons (.ci 99991) (.cons (.ci 99989) (.cons (.ci 99971) (.cons (.ci 99961) (.cons (.ci 99929) (.cons (.ci 99923) (.cons (.ci 99907) (.cons (.ci 99901) (.cons (.ci 99881) (.cons (.ci 99877) (.cons (.ci 99871) .nil))))))))))))) (.cons (.asg 4 (.bin .mod (.bin .mul (.bin .add (.var 0) (.bin .mul (.ci 7) (.var 1))) (.ci 48271)) (.idx (.var 3) (.bin .mod (.var 1) (.ci 11))))) (.cons (.ret (.bin .mod (.bin .mod (.bin .add (.bin .add (.bin .mul (.bin .mul (.var 4) (.var 4)) (.ci 7)) (.var 4)) (.var 1)) (.ci 1000003)) (.var 2))) .nil)))⟩
noncomputable def l9:IFn:=
 ⟨2,10,(.cons (.ite (.val (.cmp .eq (.idx (.var 1) (.ci 0)) (.cs "make"))) (.cons (.ret (.meth (.var 0) 23 (.cons (.idx (.var 1) (.ci 1)) .nil))) .nil) .nil) (.cons (.ite (.val (.cmp .eq (.idx (.var 1) (.ci 0)) (.cs "put"))) (.cons (.ret (.meth (.var 0) 26 (.cons (.idx (.var 1) (.ci 1)) (.cons (.idx (.var 1) (.ci 2)) (.cons (.idx (.var 1) (.ci 3)) (.cons (.idx (.var 1) (.ci 4)) .nil)))))) .nil) .nil) (.cons (.ite (.val (.cmp .eq (.idx (.var 1) (.ci 0)) (.cs "empty"))) (.cons (.ret (.meth (.var 0) 27 (.cons (.idx (.var 1) (.ci 1)) (.cons (.idx (.var 1) (.ci 2)) .nil)))) .nil) .nil) (.cons (.ite (.val (.cmp .eq (.idx (.var 1) (.ci 0)) (.cs "take"))) (.cons (.ret (.meth (.var 0) 29 (.cons (.idx (.var 1) (.ci 1)) .nil))) .nil) .nil) (.cons (.ite (.val (.cmp .eq (.idx (.var 1) (.ci 0)) (.cs "drop"))) (.cons (.ret (.meth (.var 0) 31 (.cons (.idx (.var 1) (.ci 1)) .nil))) .nil) .nil) (.cons (.ite (.val (.cmp .eq (.idx (.var 1) (.ci 0)) (.cs "pair"))) (.cons (.ret (.meth (.var 0) 33 (.cons (.idx (.var 1) (.ci 1)) (.cons (.idx (.var 1) (.ci 2)) (.cons (.idx (.var 1) (.ci 3)) .nil))))) .nil) .nil) (.cons (.ite (.val (.cmp .eq (.idx (.var 1) (.ci 0)) (.cs "unpair"))) (.cons (.ret (.meth (.var 0) 34 (.cons (.idx (.var 1) (.ci 1)) .nil))) .nil) .nil) (.cons (.ret (.meth (.var 0) 36 (.cons (.idx (.var 1) (.ci 1)) (.cons (.bi .list (.cons (.idx (.var 1) (.ci 2)) .nil)) .nil)))) .nil))))))))⟩
noncomputable def oV:IFn:=
 ⟨3,15,(.cons (.asg 3 (.list .nil)) (.cons (.for (.one 4) (.range (.ci 0) (.idx (.list (.cons (.ci 1) (.cons (.ci 1) (.cons (.ci 2) (.cons (.ci 3) (.cons (.ci 9) (.cons (.ci 2) (.cons (.ci 1) .nil)))))))) (.call 45 (.cons (.var 1) (.cons (.ci 1) (.cons (.ci 7) .nil)))))) (.cons (.asg 5 (.idx (.var 0) (.call 45 (.cons (.bin .add (.var 1) (.var 4)) (.cons (.ci 2) (.cons (.bi .len (.cons (.var 0) .nil)) .nil)))))) (.cons (.ite (.val (.cmp .eq (.call 45 (.cons (.bin .add (.var 1) (.var 4)) (.cons (.ci 3) (.cons (.ci 9) .nil)))) (.ci 1))) (.cons (.asg 5 (.idx (.list (.cons (.var 2) (.cons (.bin .add (.var 2) (.ci 7)) (.cons (.ci 999999) .nil)))) (.call 45 (.cons (.bin .add (.var 1) (.var 4)) (.cons (.ci 4) (.cons (.ci 3) .nil)))))) .nil) .nil) (.cons (.asg 6 (.call 45 (.cons (.bin .add (.var 1) (.var 4)) (.cons (.ci 5) (.cons (.ci 10) .nil))))) (.cons (.ite (.val (.cmp .lt (.var 6) (.ci 3))) (.cons (.ex (.meth (.var 3) 0 (.cons (.tup (.cons (.cs "up") .nil)) .nil))) .nil) (.cons (.ite (.val (.cmp .lt (.var 6) (.ci 5))) (.cons (.ex (.meth (.var 3) 0 (.cons (.tup (.cons (.cs "down") (.cons (.var 5) .nil))) .nil))) .nil) (.cons (.ex (.meth (.var 3) 0 (.cons (.tup (.cons (.cs "hang") (.cons (.var 5) (.cons (.call 45 (.cons (.bin .add (.var 1) (.var 4)) (.cons (.ci 6) (.cons (.ci 4) .nil)))) (.cons (.cmp .lt (.var 6) (.ci 8)) .nil))))) .nil))) .nil)) .nil)) .nil))))) (.cons (.ret (.var 3)) .nil)))⟩
noncomputable def oW:IFn:=
 ⟨2,17,(.cons (.ite (.val (.isinst (.var 0) .tuple)) (.cons (.ret (.var 0)) .nil) .nil) (.cons (.asg 2 (.bi .sorted (.cons (.idx (.var 1) (.ci 0)) .nil))) (.cons (.asg 3 (.bi .sorted (.cons (.idx (.var 1) (.ci 1)) .nil))) (.cons (.asg 4 (.bi .sorted (.cons (.idx (.var 1) (.ci 2)) .nil))) (.cons (.asg 5 (.call 45 (.cons (.var 0) (.cons (.ci 9) (.cons (.ci 25) .nil))))) (.cons (.ite (.or (.cons (.val (.cmp .lt (.bi .len (.cons (.var 2) .nil)) (.ci 2))) (.cons (.and (.cons (.val (.cmp .lt (.var 5) (.ci 4))) (.cons (.val (.cmp .lt (.bi .len (.cons (.var 2) .nil)) (.ci 60))) .nil))) .nil))) (.cons (.ret (.tup (.cons (.cs "make") (.cons (.idx (.list (.cons (.ci 1) (.cons (.ci 2) (.cons (.ci 3) (.cons (.ci 2) (.cons (.ci 1) (.cons (.ci 9) (.cons (.ci 0) (.cons (.ci 4) .nil))))))))) (.call 45 (.cons (.var 0) (.cons (.ci 4) (.cons (.ci 8) .nil))))) .nil)))) .nil) .nil) (.cons (.asg 6 (.idx (.var 2) (.call 45 (.cons (.var 0) (.cons (.ci 0) (.cons (.bi .len (.cons (.var 2) .nil)) .nil)))))) (.cons (.asg 7 (.idx (.var 2) (.call 45 (.cons (.var 0) (.cons (.ci 1) (.cons (.bi .len (.cons (.var 2) .nil)) .nil)))))) (.cons (.asg 8 (.bi .len (.cons (.idx (.idx (.var 1) (.ci 0)) (.var 6)) .nil))) (.cons (.ite (.and (.cons (.val (.cmp .lt (.var 5) (.ci 12))) (.cons (.val (.cmp .gt (.var 8) (.ci 0))) .nil))) (.cons (.ret (.tup (.cons (.cs "put") (.cons (.var 6) (.cons (.call 45 (.cons (.var 0) (.cons (.ci 10) (.cons (.var 8) .nil)))) (.cons (.var 7) (.cons (.cmp .lt (.var 5) (.ci 10)) .nil))))))) .nil) .nil) (.cons (.ite (.and (.cons (.val (.cmp .eq (.var 5) (.ci 12))) (.cons (.val (.cmp .gt (.var 8) (.ci 0))) .nil))) (.cons (.ret (.tup (.cons (.cs "empty") (.cons (.var 6) (.cons (.call 45 (.cons (.var 0) (.cons (.ci 10) (.cons (.var 8) .nil)))) .nil))))) .nil) .nil) (.cons (.ite (.val (.cmp .eq (.var 5) (.ci 13))) (.cons (.ret (.tup (.cons (.cs "take") (.cons (.var 6) .nil)))) .nil) .nil) (.cons (.ite (.and (.cons (.val (.cmp .lt (.var 5) (.ci 18))) (.cons (.val (.cmp .gt (.bi .len (.cons (.var 3) .nil)) (.ci 0))) .nil))) (.cons (.ret (.tup (.cons (.cs "drop") (.cons (.idx (.var 3) (.call 45 (.cons (.var 0) (.cons (.ci 2) (.cons (.bi .len (.cons (.var 3) .nil)) .nil))))) .nil)))) .nil) .nil) (.cons (.ite (.and (.cons (.val (.cmp .lt (.var 5) (.ci 21))) (.cons (.val (.cmp .lt (.bi .len (.cons (.var 4) .nil)) (.ci 60))) .nil))) (.cons (.ret (.tup (.cons (.cs "pair") (.cons (.var 6) (.cons (.var 7) (.cons (.idx (.var 2) (.call 45 (.cons (.var 0) (.cons (.ci 3) (.cons (.bi .len (.cons (.var 2) .nil)) .nil))))) .nil)))))) .nil) .nil) (.cons (.ite (.and (.cons (.val (.cmp .eq (.var 5) (.ci 21))) (.cons (.val (.cmp .gt (.bi .len (.cons (.var 4) .nil)) (.ci 0))) .nil))) (.cons (.ret (.tup (.cons (.cs "unpair") (.cons (.idx (.var 4) (.call 45 (.cons (.var 0) (.cons (.ci 5) (.cons (.bi .len (.cons (.var 4) .nil)) .nil))))) .nil)))) .nil) .nil) (.cons (.ite (.val (.cmp .eq (.var 5) (.ci 22))) (.cons (.ret (.tup (.cons (.cs "bequeath") (.cons (.var 6) (.cons (.list .nil) .nil))))) .nil) .nil) (.cons (.ret (.tup (.cons (.cs "bequeath") (.cons (.var 6) (.cons (.call 49 (.cons (.var 2) (.cons (.var 0) (.cons (.idx (.idx (.var 1) (.ci 4)) (.ci 0)) .nil)))) .nil))))) .nil)))))))))))))))))⟩
noncomputable def lc:IFn:=
 ⟨1,16,(.cons (.asg 1 (.bin .add (.ci 3) (.bin .mod (.var 0) (.ci 9)))) (.cons (.ite (.val (.cmp .eq (.bin .mod (.bin .fdiv (.var 0) (.ci 9)) (.ci 6)) (.ci 1))) (.cons (.asg 1 (.bin .add (.ci 50) (.bin .mod (.bin .fdiv (.var 0) (.ci 54)) (.ci 11)))) .nil) .nil) (.cons (.asg 3 (.comp (.one 8) (.range (.ci 0) (.var 1)) .nil (.tup (.cons (.cs "make") (.cons (.ci 3) .nil))))) (.cons (.asg 4 (.idx (.list (.cons (.ci 1) (.cons (.neg (.ci 1)) (.cons (.ci 2) (.cons (.bin .sub (.var 1) (.ci 1)) .nil))))) (.bin .mod (.bin .fdiv (.var 0) (.ci 54)) (.ci 4)))) (.cons (.for (.one 2) (.range (.ci 0) (.var 1)) (.cons (.asg 5 (.bin .mod (.bin .add (.var 2) (.var 4)) (.var 1))) (.cons (.asg 6 (.call 45 (.cons (.var 0) (.cons (.var 2) (.cons (.ci 5) .nil))))) (.cons (.ite (.val (.cmp .eq (.var 6) (.ci 1))) (.cons (.ex (.meth (.var 3) 0 (.cons (.tup (.cons (.cs "pair") (.cons (.bin .mul (.call 45 (.cons (.var 0) (.cons (.bin .add (.var 2) (.ci 1)) (.cons (.ci 2) .nil)))) (.bin .sub (.var 1) (.ci 1))) (.cons (.var 2) (.cons (.var 5) .nil))))) .nil))) .nil) (.cons (.ex (.meth (.var 3) 0 (.cons (.tup (.cons (.cs "put") (.cons (.var 2) (.cons (.call 45 (.cons (.var 0) (.cons (.bin .add (.var 2) (.ci 2)) (.cons (.ci 3) .nil)))) (.cons (.var 5) (.cons (.cmp .gt (.var 6) (.ci 0)) .nil)))))) .nil))) .nil)) (.cons (.ite (.val (.cmp .eq (.call 45 (.cons (.var 0) (.cons (.bin .add (.var 2) (.ci 3)) (.cons (.ci 2) .nil)))) (.ci 1))) (.cons (.asg 7 (.idx (.list (.cons (.list (.cons (.tup (.cons (.cs "hang") (.cons (.bin .mod (.bin .add (.var 2) (.ci 2)) (.var 1)) (.cons (.ci 0) (.cons (.cmp .gt (.var 6) (.ci 1)) .nil))))) .nil)) (.cons (.list (.cons (.tup (.cons (.cs "up") .nil)) .nil)) (.cons (.list (.cons (.tup (.cons (.cs "down") (.cons (.ci 0) .nil))) .nil)) .nil)))) (.bin .mod (.var 6) (.ci 3)))) (.cons (.ex (.meth (.var 3) 0 (.cons (.tup (.cons (.cs "bequeath") (.cons (.var 2) (.cons (.var 7) .nil)))) .nil))) .nil)) .nil) .nil))))) (.cons (.for (.one 2) (.range (.ci 0) (.var 1)) (.cons (.ite (.val (.cmp .gt (.call 45 (.cons (.var 0) (.cons (.bin .add (.var 2) (.ci 4)) (.cons (.ci 6) .nil)))) (.ci 0))) (.cons (.ex (.meth (.var 3) 0 (.cons (.tup (.cons (.cs "drop") (.cons (.var 2) .nil))) .nil))) .nil) .nil) .nil)) (.cons (.ite (.val (.cmp .eq (.bin .mod (.bin .fdiv (.var 0) (.ci 9)) (.ci 6)) (.ci 2))) (.cons (.asg 3 (.bin .add (.var 3) (.list (.cons (.tup (.cons (.cs "make") (.cons (.ci 1) .nil))) (.cons (.tup (.cons (.cs "make") (.cons (.ci 2) .nil))) (.cons (.tup (.cons (.cs "make") (.cons (.ci 1) .nil))) (.cons (.tup (.cons (.cs "pair") (.cons (.var 1) (.cons (.bin .add (.var 1) (.ci 1)) (.cons (.bin .add (.var 1) (.ci 2)) .nil))))) .nil))))))) (.cons (.asg 3 (.bin .add (.var 3) (.list (.cons (.tup (.cons (.cs "bequeath") (.cons (.bin .add (.var 1) (.ci 1)) (.cons (.list (.cons (.tup (.cons (.cs "up") .nil)) (.cons (.tup (.cons (.cs "down") (.cons (.var 1) .nil))) .nil))) .nil)))) (.cons (.tup (.cons (.cs "drop") (.cons (.bin .add (.var 1) (.ci 1)) .nil))) (.cons (.tup (.cons (.cs "drop") (.cons (.bin .add (.var 1) (.ci 2)) .nil))) .nil)))))) (.cons (.asg 3 (.bin .add (.var 3) (.list (.cons (.tup (.cons (.cs "put") (.cons (.bin .add (.var 1) (.ci 1)) (.cons (.ci 0) (.cons (.var 1) (.cons (.cmp .eq (.bin .mod (.bin .fdiv (.var 0) (.ci 54)) (.ci 2)) (.ci 1)) .nil)))))) .nil)))) .nil))) .nil) (.cons (.ret (.var 3)) .nil))))))))⟩
noncomputable def hZ:IFn:=
 ⟨1,10,(.cons (.asg 1 (.call 43 (.cons (.var 0) (.cons (.ci 0) .nil)))) (.cons (.ite (.val (.cmp .eq (.bin .mod (.var 1) (.ci 3)) (.ci 1))) (.cons (.ret (.bin .add (.call 51 (.cons (.bin .fdiv (.var 1) (.ci 3)) .nil)) (.slice (.var 0) (.ci 1) (.ci 30) .cn))) .nil) .nil) (.cons (.ite (.val (.cmp .eq (.bin .mod (.var 1) (.ci 12)) (.ci 2))) (.cons (.ret (.bin .add (.comp (.one 2) (.range (.ci 0) (.bin .add (.ci 60) (.bin .mod (.bin .fdiv (.var 1) (.ci 12)) (.ci 60)))) .nil (.bin .add (.bin .fdiv (.var 1) (.ci 12)) (.bin .mul (.ci 17) (.var 2)))) (.slice (.var 0) (.ci 1) (.ci 20) .cn))) .nil) .nil) (.cons (.ret (.slice (.var 0) (.ci 1) (.ci 80) .cn)) .nil))))⟩
noncomputable def oX:IFn:=
 ⟨1,12,(.cons (.asg 1 .dict) (.cons (.for (.many [2,3]) (.val (.call 42 (.cons (.var 0) .nil))) (.cons (.sit (.var 1) (.var 2) (.cb true)) .nil)) (.cons (.ret (.comp (.one 4) (.val (.meth (.var 0) 24 .nil)) (.cons (.val (.cmp .notIn (.var 4) (.var 1))) .nil) (.var 4))) .nil)))⟩
noncomputable def pB:IFn:=
 ⟨2,17,(.cons (.asg 2 (.list .nil)) (.cons (.for (.one 3) (.range (.ci 0) (.meth (.var 0) 25 (.cons (.var 1) .nil))) (.cons (.asg 4 (.meth (.var 0) 28 (.cons (.var 1) (.cons (.var 3) .nil)))) (.cons (.ite (.and (.cons (.val (.cmp .isNot (.var 4) .cn)) (.cons (.val (.idx (.var 4) (.ci 1))) .nil))) (.cons (.ex (.meth (.var 2) 0 (.cons (.idx (.var 4) (.ci 0)) .nil))) .nil) .nil) .nil))) (.cons (.for (.many [5,6,7,8]) (.val (.meth (.var 0) 35 .nil)) (.cons (.ite (.val (.cmp .isIn (.var 1) (.tup (.cons (.var 6) (.cons (.var 7) .nil))))) (.cons (.ex (.meth (.var 2) 0 (.cons (.var 8) .nil))) .nil) .nil) .nil)) (.cons (.ret (.var 2)) .nil))))⟩
noncomputable def ir_61:IFn:=
 ⟨3,14,(.cons (.asg 3 .dict) (.cons (.asg 4 (.list (.cons (.var 1) .nil))) (.cons (.while (.val (.cmp .ne (.var 4) (.list .nil))) (.cons (.for (.one 5) (.val (.call 60 (.cons (.var 0) (.cons (.meth (.var 4) 1 .nil) .nil)))) (.cons (.ite (.and (.cons (.val (.cmp .isIn (.var 5) (.var 2))) (.cons (.val (.cmp .notIn (.var 5) (.var 3))) .nil))) (.cons (.sit (.var 3) (.var 5) (.cb true)) (.cons (.ex (.meth (.var 4) 0 (.cons (.var 5) .nil))) .nil)) .nil) .nil)) .nil)) (.cons (.ret (.var 3)) .nil))))⟩
noncomputable def oY:IFn:=
 ⟨3,12,(.cons (.for (.one 3) (.val (.var 1)) (.cons (.ite (.and (.cons (.val (.cmp .isIn (.var 0) (.idx (.var 2) (.var 3)))) (.cons (.val (.cmp .notIn (.var 3) (.idx (.var 2) (.var 0)))) .nil))) (.cons (.ret (.cb false)) .nil) .nil) .nil)) (.cons (.ret (.cb true)) .nil))⟩
noncomputable def ir_63:IFn:=
 ⟨1,15,(.cons (.asg 1 (.call 56 (.cons (.var 0) .nil))) (.cons (.asg 3 (.comp (.one 7) (.val (.var 1)) (.cons (.val (.cmp .ne (.meth (.var 0) 37 (.cons (.var 7) .nil)) (.list .nil))) .nil) (.var 7))) (.cons (.asg 4 .dict) (.cons (.for (.one 2) (.val (.var 3)) (.cons (.sit (.var 4) (.var 2) (.call 61 (.cons (.var 0) (.cons (.var 2) (.cons (.var 1) .nil))))) .nil)) (.cons (.asg 5 (.list .nil)) (.cons (.while (.val (.cmp .ne (.var 3) (.list .nil))) (.cons (.asg 6 (.bi .min (.cons (.comp (.one 7) (.val (.var 3)) (.cons (.val (.call 62 (.cons (.var 7) (.cons (.var 3) (.cons (.var 4) .nil))))) .nil) (.var 7)) .nil))) (.cons (.ex (.meth (.var 5) 0 (.cons (.var 6) .nil))) (.cons (.asg 3 (.comp (.one 7) (.val (.var 3)) (.cons (.val (.cmp .ne (.var 7) (.var 6))) .nil) (.var 7))) .nil)))) (.cons (.ret (.var 5)) .nil)))))))⟩
noncomputable def ld:IFn:=
 ⟨3,11,(.cons (.ite (.val (.cmp .eq (.idx (.var 2) (.ci 0)) (.cs "up"))) (.cons (.ex (.meth (.var 0) 29 (.cons (.var 1) .nil))) .nil) (.cons (.ite (.val (.cmp .eq (.idx (.var 2) (.ci 0)) (.cs "down"))) (.cons (.ite (.val (.cmp .isIn (.idx (.var 2) (.ci 1)) (.meth (.var 0) 32 .nil))) (.cons (.ex (.meth (.var 0) 31 (.cons (.idx (.var 2) (.ci 1)) .nil))) .nil) .nil) .nil) (.cons (.ite (.and (.cons (.val (.cmp .isIn (.idx (.var 2) (.ci 1)) (.meth (.var 0) 24 .nil))) (.cons (.val (.cmp .lt (.idx (.var 2) (.ci 2)) (.meth (.var 0) 25 (.cons (.idx (.var 2) (.ci 1)) .nil)))) .nil))) (.cons (.ex (.meth (.var 0) 26 (.cons (.idx (.var 2) (.ci 1)) (.cons (.idx (.var 2) (.ci 2)) (.cons (.var 1) (.cons (.idx (.var 2) (.ci 3)) .nil)))))) .nil) .nil) .nil)) .nil)) .nil)⟩
noncomputable def gA:IFn:=
 ⟨2,12,(.cons (.asg 2 (.meth (.var 0) 37 (.cons (.var 1) .nil))) (.cons (.ex (.meth (.var 0) 36 (.cons (.var 1) (.cons (.list .nil) .nil)))) (.cons (.for (.one 3) (.val (.var 2)) (.cons (.ex (.call 73 (.cons (.var 0) (.cons (.var 1) (.cons (.var 3) .nil))))) .nil)) .nil)))⟩
noncomputable def gB:IFn:=
 ⟨2,17,(.cons (.for (.many [2,3,4,5]) (.val (.meth (.var 0) 35 .nil)) (.cons (.ite (.or (.cons (.val (.cmp .isIn (.var 3) (.var 1))) (.cons (.val (.cmp .isIn (.var 4) (.var 1))) (.cons (.val (.cmp .isIn (.var 5) (.var 1))) .nil)))) (.cons (.ex (.meth (.var 0) 34 (.cons (.var 2) .nil))) .nil) .nil) .nil)) (.cons (.for (.one 6) (.val (.meth (.var 0) 24 .nil)) (.cons (.for (.one 7) (.range (.ci 0) (.meth (.var 0) 25 (.cons (.var 6) .nil))) (.cons (.asg 8 (.meth (.var 0) 28 (.cons (.var 6) (.cons (.var 7) .nil)))) (.cons (.ite (.and (.cons (.val (.cmp .isNot (.var 8) .cn)) (.cons (.val (.cmp .isIn (.idx (.var 8) (.ci 0)) (.var 1))) .nil))) (.cons (.ex (.meth (.var 0) 27 (.cons (.var 6) (.cons (.var 7) .nil)))) .nil) .nil) .nil))) .nil)) (.cons (.for (.one 6) (.val (.var 1)) (.cons (.ex (.meth (.attr (.var 0) 2) 1 (.cons (.var 6) .nil))) .nil)) .nil)))⟩
noncomputable def fZ:IFn:=
 ⟨1,14,(.cons (.asg 1 (.call 56 (.cons (.var 0) .nil))) (.cons (.asg 2 (.call 63 (.cons (.var 0) .nil))) (.cons (.for (.one 3) (.val (.var 2)) (.cons (.ex (.call 74 (.cons (.var 0) (.cons (.var 3) .nil)))) .nil)) (.cons (.asg 4 (.comp (.many [6,7]) (.val (.call 42 (.cons (.var 0) .nil))) .nil (.var 6))) (.cons (.asg 5 (.comp (.one 6) (.val (.var 1)) (.cons (.val (.cmp .notIn (.var 6) (.var 4))) .nil) (.var 6))) (.cons (.ex (.call 75 (.cons (.var 0) (.cons (.var 5) .nil)))) (.cons (.ret (.tup (.cons (.var 2) (.cons (.var 5) (.cons (.comp (.one 6) (.val (.var 1)) (.cons (.val (.cmp .isIn (.var 6) (.var 4))) .nil) (.var 6)) .nil))))) .nil)))))))⟩
noncomputable def oZ:IFn:=
 ⟨1,15,(.cons (.asg 1 .dict) (.cons (.for (.one 2) (.val (.meth (.var 0) 24 .nil)) (.cons (.sit (.var 1) (.var 2) (.comp (.one 7) (.range (.ci 0) (.meth (.var 0) 25 (.cons (.var 2) .nil))) .nil (.meth (.var 0) 28 (.cons (.var 2) (.cons (.var 7) .nil))))) .nil)) (.cons (.asg 3 .dict) (.cons (.for (.one 2) (.val (.meth (.var 0) 32 .nil)) (.cons (.sit (.var 3) (.var 2) (.cb true)) .nil)) (.cons (.asg 4 .dict) (.cons (.for (.one 5) (.val (.meth (.var 0) 35 .nil)) (.cons (.sit (.var 4) (.idx (.var 5) (.ci 0)) (.slice (.var 5) (.ci 1) .cn .cn)) .nil)) (.cons (.asg 6 .dict) (.cons (.for (.one 2) (.val (.meth (.var 0) 24 .nil)) (.cons (.ite (.val (.cmp .ne (.meth (.var 0) 37 (.cons (.var 2) .nil)) (.list .nil))) (.cons (.sit (.var 6) (.var 2) (.meth (.var 0) 37 (.cons (.var 2) .nil))) .nil) .nil) .nil)) (.cons (.ret (.list (.cons (.var 1) (.cons (.var 3) (.cons (.var 4) (.cons (.var 6) .nil)))))) .nil)))))))))⟩
noncomputable def vn:IFn:=
 ⟨1,9,(.cons (.ite (.val (.var 0)) (.cons (.ret (.cs "holds")) .nil) .nil) (.cons (.ret (.cs "looks")) .nil))⟩
noncomputable def vX:IFn:=
 ⟨1,9,(.cons (.ret (.join " " (.comp (.one 1) (.val (.var 0)) .nil (.bi .str (.cons (.var 1) .nil))))) .nil)⟩
noncomputable def tm:IFn:=
 ⟨1,9,(.cons (.ite (.val (.cmp .eq (.idx (.var 0) (.ci 0)) (.cs "hang"))) (.cons (.ret (.list (.cons (.cs "hang") (.cons (.idx (.var 0) (.ci 1)) (.cons (.idx (.var 0) (.ci 2)) (.cons (.call 89 (.cons (.idx (.var 0) (.ci 3)) .nil)) .nil)))))) .nil) .nil) (.cons (.ret (.bi .list (.cons (.var 0) .nil))) .nil))⟩
noncomputable def o0:IFn:=
 ⟨1,18,(.cons (.asg 1 (.list (.cons (.call 90 (.cons (.list (.cons (.cs "next") (.cons (.attr (.var 0) 0) (.cons (.attr (.var 0) 1) .nil)))) .nil)) .nil))) (.cons (.asg 2 (.meth (.var 0) 32 .nil)) (.cons (.for (.one 3) (.val (.meth (.var 0) 24 .nil)) (.cons (.asg 4 (.cs "free")) (.cons (.ite (.val (.cmp .isIn (.var 3) (.var 2))) (.cons (.asg 4 (.cs "hand")) .nil) .nil) (.cons (.ex (.meth (.var 1) 0 (.cons (.call 90 (.cons (.list (.cons (.cs "box") (.cons (.var 3) (.cons (.meth (.var 0) 25 (.cons (.var 3) .nil)) (.cons (.var 4) .nil))))) .nil)) .nil))) .nil)))) (.cons (.for (.one 3) (.val (.meth (.var 0) 24 .nil)) (.cons (.for (.one 5) (.range (.ci 0) (.meth (.var 0) 25 (.cons (.var 3) .nil))) (.cons (.asg 6 (.meth (.var 0) 28 (.cons (.var 3) (.cons (.var 5) .nil)))) (.cons (.ite (.val (.cmp .isNot (.var 6) .cn)) (.cons (.ex (.meth (.var 1) 0 (.cons (.call 90 (.cons (.list (.cons (.cs "slot") (.cons (.var 3) (.cons (.var 5) (.cons (.idx (.var 6) (.ci 0)) (.cons (.call 89 (.cons (.idx (.var 6) (.ci 1)) .nil)) .nil)))))) .nil)) .nil))) .nil) .nil) .nil))) .nil)) (.cons (.for (.one 7) (.val (.meth (.var 0) 35 .nil)) (.cons (.ex (.meth (.var 1) 0 (.cons (.call 90 (.cons (.bin .add (.list (.cons (.cs "pair") .nil)) (.bi .list (.cons (.var 7) .nil))) .nil)) .nil))) .nil)) (.cons (.for (.one 3) (.val (.meth (.var 0) 24 .nil)) (.cons (.asg 8 (.list .nil)) (.cons (.for (.one 9) (.val (.meth (.var 0) 37 (.cons (.var 3) .nil))) (.cons (.asg 8 (.bin .add (.var 8) (.call 91 (.cons (.var 9) .nil)))) .nil)) (.cons (.ite (.val (.cmp .ne (.var 8) (.list .nil))) (.cons (.ex (.meth (.var 1) 0 (.cons (.call 90 (.cons (.bin .add (.list (.cons (.cs "will") (.cons (.var 3) .nil))) (.var 8)) .nil)) .nil))) .nil) .nil) .nil)))) (.cons (.ret (.join "\n" (.var 1))) .nil)))))))⟩
noncomputable def wR:IFn:=
 ⟨1,9,(.cons (.ret (.idx (.list (.cons (.cs "looks") (.cons (.cs "holds") .nil))) (.bi .int (.cons (.var 0) .nil)))) .nil)⟩
noncomputable def u9:IFn:=
 ⟨2,13,(.cons (.asg 2 (.list .nil)) (.cons (.for (.one 3) (.range (.ci 0) (.bi .len (.cons (.idx (.idx (.var 0) (.ci 0)) (.var 1)) .nil))) (.cons (.asg 4 (.idx (.idx (.idx (.var 0) (.ci 0)) (.var 1)) (.var 3))) (.cons (.ite (.val (.cmp .isNot (.var 4) .cn)) (.cons (.ex (.meth (.var 2) 0 (.cons (.join " " (.list (.cons (.cs "slot") (.cons (.bi .str (.cons (.var 1) .nil)) (.cons (.bi .str (.cons (.var 3) .nil)) (.cons (.bi .str (.cons (.idx (.var 4) (.ci 0)) .nil)) (.cons (.call 103 (.cons (.idx (.var 4) (.ci 1)) .nil)) .nil))))))) .nil))) .nil) .nil) .nil))) (.cons (.ret (.var 2)) .nil)))⟩
noncomputable def ua:IFn:=
 ⟨2,12,(.cons (.asg 2 (.list (.cons (.cs "will") (.cons (.bi .str (.cons (.var 0) .nil)) .nil)))) (.cons (.for (.one 3) (.val (.var 1)) (.cons (.asg 2 (.bin .add (.bin .add (.var 2) (.list (.cons (.idx (.var 3) (.ci 0)) .nil))) (.comp (.one 4) (.val (.slice (.var 3) (.ci 1) (.ci 3) .cn)) .nil (.bi .str (.cons (.var 4) .nil))))) (.cons (.ite (.val (.cmp .eq (.idx (.var 3) (.ci 0)) (.cs "hang"))) (.cons (.ex (.meth (.var 2) 0 (.cons (.call 103 (.cons (.idx (.var 3) (.ci 3)) .nil)) .nil))) .nil) .nil) .nil))) (.cons (.ret (.join " " (.var 2))) .nil)))⟩
noncomputable def qM:IFn:=
 ⟨1,13,(.cons (.asg 1 (.list (.cons (.join " " (.list (.cons (.cs "next") (.cons (.bi .str (.cons (.idx (.idx (.var 0) (.ci 4)) (.ci 0)) .nil)) (.cons (.bi .str (.cons (.idx (.idx (.var 0) (.ci 4)) (.ci 1)) .nil)) .nil))))) .nil))) (.cons (.for (.one 2) (.val (.bi .sorted (.cons (.idx (.var 0) (.ci 0)) .nil))) (.cons (.asg 3 (.idx (.list (.cons (.cs "free") (.cons (.cs "hand") .nil))) (.bi .int (.cons (.cmp .isIn (.var 2) (.idx (.var 0) (.ci 1))) .nil)))) (.cons (.ex (.meth (.var 1) 0 (.cons (.join " " (.list (.cons (.cs "box") (.cons (.bi .str (.cons (.var 2) .nil)) (.cons (.bi .str (.cons (.bi .len (.cons (.idx (.idx (.var 0) (.ci 0)) (.var 2)) .nil)) .nil)) (.cons (.var 3) .nil)))))) .nil))) .nil))) (.cons (.for (.one 2) (.val (.bi .sorted (.cons (.idx (.var 0) (.ci 0)) .nil))) (.cons (.asg 1 (.bin .add (.var 1) (.call 104 (.cons (.var 0) (.cons (.var 2) .nil))))) .nil)) (.cons (.for (.one 4) (.val (.bi .sorted (.cons (.idx (.var 0) (.ci 2)) .nil))) (.cons (.ex (.meth (.var 1) 0 (.cons (.join " " (.bin .add (.list (.cons (.cs "pair") (.cons (.bi .str (.cons (.var 4) .nil)) .nil))) (.comp (.one 5) (.val (.idx (.idx (.var 0) (.ci 2)) (.var 4))) .nil (.bi .str (.cons (.var 5) .nil))))) .nil))) .nil)) (.cons (.for (.one 2) (.val (.bi .sorted (.cons (.idx (.var 0) (.ci 3)) .nil))) (.cons (.ex (.meth (.var 1) 0 (.cons (.call 105 (.cons (.var 2) (.cons (.idx (.idx (.var 0) (.ci 3)) (.var 2)) .nil))) .nil))) .nil)) (.cons (.ret (.join "\n" (.var 1))) .nil))))))⟩
noncomputable def o3:IFn:=
 ⟨2,11,(.cons (.asg 2 (.call 92 (.cons (.var 0) .nil))) (.cons (.ret (.and (.cons (.isinst (.var 2) .str) (.cons (.cmp .eq (.var 2) (.call 106 (.cons (.bin .add (.call 83 (.cons (.var 0) .nil)) (.list (.cons (.var 1) .nil))) .nil))) .nil)))) .nil))⟩
noncomputable def gC:IFn:=
 ⟨1,10,(.cons (.ite (.or (.cons (.val (.cmp .lt (.bi .len (.cons (.var 0) .nil)) (.ci 1))) (.cons (.val (.cmp .gt (.bi .len (.cons (.var 0) .nil)) (.ci 9))) (.cons (.and (.cons (.val (.cmp .eq (.idx (.var 0) (.ci 0)) (.cs "0"))) (.cons (.val (.cmp .ne (.var 0) (.cs "0"))) .nil))) .nil)))) (.cons (.ex (.not .cn)) .nil) .nil) (.cons (.for (.one 1) (.val (.var 0)) (.cons (.ite (.val (.cmp .notIn (.var 1) (.cs "0123456789"))) (.cons (.ex (.not .cn)) .nil) .nil) .nil)) (.cons (.ret (.bi .int (.cons (.var 0) .nil))) .nil)))⟩
noncomputable def gD:IFn:=
 ⟨1,9,(.cons (.ite (.val (.cmp .eq (.var 0) (.cs "holds"))) (.cons (.ret (.cb true)) .nil) .nil) (.cons (.ite (.val (.cmp .eq (.var 0) (.cs "looks"))) (.cons (.ret (.cb false)) .nil) .nil) (.cons (.ex (.not .cn)) .nil)))⟩
noncomputable def gE:IFn:=
 ⟨1,9,(.cons (.ite (.not (.val (.var 0))) (.cons (.ex (.not .cn)) .nil) .nil) .nil)⟩
noncomputable def f4:IFn:=
 ⟨2,12,(.cons (.ex (.call 95 (.cons (.and (.cons (.cmp .eq (.bi .len (.cons (.var 1) .nil)) (.ci 4)) (.cons (.cmp .lt (.bi .len (.cons (.attr (.var 0) 2) .nil)) (.ci 60)) .nil))) .nil))) (.cons (.asg 2 (.call 93 (.cons (.idx (.var 1) (.ci 1)) .nil))) (.cons (.asg 3 (.call 93 (.cons (.idx (.var 1) (.ci 2)) .nil))) (.cons (.ex (.call 95 (.cons (.and (.cons (.cmp .lt (.var 2) (.attr (.var 0) 0)) (.cons (.cmp .notIn (.var 2) (.attr (.var 0) 2)) (.cons (.cmp .le (.var 3) (.ci 9)) .nil)))) .nil))) (.cons (.ex (.call 95 (.cons (.or (.cons (.cmp .eq (.idx (.var 1) (.ci 3)) (.cs "hand")) (.cons (.cmp .eq (.idx (.var 1) (.ci 3)) (.cs "free")) .nil))) .nil))) (.cons (.sit (.attr (.var 0) 2) (.var 2) (.rep .cn (.var 3))) (.cons (.ite (.val (.cmp .eq (.idx (.var 1) (.ci 3)) (.cs "hand"))) (.cons (.sit (.attr (.var 0) 3) (.var 2) (.cb true)) .nil) .nil) .nil)))))))⟩
noncomputable def f5:IFn:=
 ⟨2,13,(.cons (.ex (.call 95 (.cons (.cmp .eq (.bi .len (.cons (.var 1) .nil)) (.ci 5)) .nil))) (.cons (.asg 2 (.call 93 (.cons (.idx (.var 1) (.ci 1)) .nil))) (.cons (.asg 3 (.call 93 (.cons (.idx (.var 1) (.ci 2)) .nil))) (.cons (.asg 4 (.call 93 (.cons (.idx (.var 1) (.ci 3)) .nil))) (.cons (.ex (.call 95 (.cons (.and (.cons (.cmp .isIn (.var 2) (.attr (.var 0) 2)) (.cons (.cmp .isIn (.var 4) (.attr (.var 0) 2)) .nil))) .nil))) (.cons (.ex (.call 95 (.cons (.cmp .lt (.var 3) (.bi .len (.cons (.idx (.attr (.var 0) 2) (.var 2)) .nil))) .nil))) (.cons (.sit (.idx (.attr (.var 0) 2) (.var 2)) (.var 3) (.tup (.cons (.var 4) (.cons (.call 94 (.cons (.idx (.var 1) (.ci 4)) .nil)) .nil)))) .nil)))))))⟩
noncomputable def f6:IFn:=
 ⟨2,13,(.cons (.ex (.call 95 (.cons (.and (.cons (.cmp .eq (.bi .len (.cons (.var 1) .nil)) (.ci 5)) (.cons (.cmp .lt (.bi .len (.cons (.attr (.var 0) 4) .nil)) (.ci 60)) .nil))) .nil))) (.cons (.asg 2 (.call 93 (.cons (.idx (.var 1) (.ci 1)) .nil))) (.cons (.asg 3 (.comp (.one 5) (.val (.slice (.var 1) (.ci 2) .cn .cn)) .nil (.call 93 (.cons (.var 5) .nil)))) (.cons (.ex (.call 95 (.cons (.and (.cons (.cmp .lt (.var 2) (.attr (.var 0) 1)) (.cons (.cmp .notIn (.var 2) (.attr (.var 0) 4)) .nil))) .nil))) (.cons (.for (.one 4) (.val (.var 3)) (.cons (.ex (.call 95 (.cons (.cmp .isIn (.var 4) (.attr (.var 0) 2)) .nil))) .nil)) (.cons (.sit (.attr (.var 0) 4) (.var 2) (.bi .tuple (.cons (.var 3) .nil))) .nil))))))⟩
noncomputable def f7:IFn:=
 ⟨1,11,(.cons (.asg 1 (.list .nil)) (.cons (.asg 2 (.ci 0)) (.cons (.while (.val (.cmp .lt (.var 2) (.bi .len (.cons (.var 0) .nil)))) (.cons (.ite (.val (.cmp .eq (.idx (.var 0) (.var 2)) (.cs "up"))) (.cons (.ex (.meth (.var 1) 0 (.cons (.tup (.cons (.cs "up") .nil)) .nil))) (.cons (.asg 2 (.bin .add (.var 2) (.ci 1))) .nil)) (.cons (.ite (.val (.cmp .eq (.idx (.var 0) (.var 2)) (.cs "down"))) (.cons (.ex (.call 95 (.cons (.cmp .lt (.bin .add (.var 2) (.ci 1)) (.bi .len (.cons (.var 0) .nil))) .nil))) (.cons (.ex (.meth (.var 1) 0 (.cons (.tup (.cons (.cs "down") (.cons (.call 93 (.cons (.idx (.var 0) (.bin .add (.var 2) (.ci 1))) .nil)) .nil))) .nil))) (.cons (.asg 2 (.bin .add (.var 2) (.ci 2))) .nil))) (.cons (.ex (.call 95 (.cons (.and (.cons (.cmp .eq (.idx (.var 0) (.var 2)) (.cs "hang")) (.cons (.cmp .lt (.bin .add (.var 2) (.ci 3)) (.bi .len (.cons (.var 0) .nil))) .nil))) .nil))) (.cons (.ex (.meth (.var 1) 0 (.cons (.tup (.cons (.cs "hang") (.cons (.call 93 (.cons (.idx (.var 0) (.bin .add (.var 2) (.ci 1))) .nil)) (.cons (.call 93 (.cons (.idx (.var 0) (.bin .add (.var 2) (.ci 2))) .nil)) (.cons (.call 94 (.cons (.idx (.var 0) (.bin .add (.var 2) (.ci 3))) .nil)) .nil))))) .nil))) (.cons (.asg 2 (.bin .add (.var 2) (.ci 4))) .nil)))) .nil)) .nil)) (.cons (.ret (.var 1)) .nil))))⟩
noncomputable def iI:IFn:=
 ⟨2,12,(.cons (.ex (.call 95 (.cons (.cmp .gt (.bi .len (.cons (.var 1) .nil)) (.ci 2)) .nil))) (.cons (.asg 2 (.call 93 (.cons (.idx (.var 1) (.ci 1)) .nil))) (.cons (.asg 3 (.call 99 (.cons (.slice (.var 1) (.ci 2) .cn .cn) .nil))) (.cons (.ex (.call 95 (.cons (.and (.cons (.cmp .isIn (.var 2) (.attr (.var 0) 2)) (.cons (.cmp .notIn (.var 2) (.attr (.var 0) 5)) (.cons (.cmp .le (.bi .len (.cons (.var 3) .nil)) (.ci 9)) .nil)))) .nil))) (.cons (.sit (.attr (.var 0) 5) (.var 2) (.var 3)) .nil)))))⟩
noncomputable def iJ:IFn:=
 ⟨2,10,(.cons (.ite (.val (.cmp .eq (.idx (.var 1) (.ci 0)) (.cs "box"))) (.cons (.ex (.call 96 (.cons (.var 0) (.cons (.var 1) .nil)))) .nil) (.cons (.ite (.val (.cmp .eq (.idx (.var 1) (.ci 0)) (.cs "slot"))) (.cons (.ex (.call 97 (.cons (.var 0) (.cons (.var 1) .nil)))) .nil) (.cons (.ite (.val (.cmp .eq (.idx (.var 1) (.ci 0)) (.cs "pair"))) (.cons (.ex (.call 98 (.cons (.var 0) (.cons (.var 1) .nil)))) .nil) (.cons (.ex (.call 95 (.cons (.cmp .eq (.idx (.var 1) (.ci 0)) (.cs "will")) .nil))) (.cons (.ex (.call 100 (.cons (.var 0) (.cons (.var 1) .nil)))) .nil))) .nil)) .nil)) .nil)⟩
noncomputable def o4:IFn:=
 ⟨1,12,(.cons (.asg 1 (.comp (.one 4) (.val (.split (.var 0) 10)) .nil (.split (.var 4) 32))) (.cons (.ex (.call 95 (.cons (.and (.cons (.cmp .eq (.bi .len (.cons (.idx (.var 1) (.ci 0)) .nil)) (.ci 3)) (.cons (.cmp .eq (.idx (.idx (.var 1) (.ci 0)) (.ci 0)) (.cs "next")) .nil))) .nil))) (.cons (.asg 2 (.new .nil)) (.cons (.sat (.var 2) 0 (.call 93 (.cons (.idx (.idx (.var 1) (.ci 0)) (.ci 1)) .nil))) (.cons (.sat (.var 2) 1 (.call 93 (.cons (.idx (.idx (.var 1) (.ci 0)) (.ci 2)) .nil))) (.cons (.for (.one 3) (.val (.slice (.var 1) (.ci 1) .cn .cn)) (.cons (.ex (.call 101 (.cons (.var 2) (.cons (.var 3) .nil)))) .nil)) (.cons (.ex (.call 95 (.cons (.cmp .eq (.call 92 (.cons (.var 2) .nil)) (.var 0)) .nil))) (.cons (.ret (.var 2)) .nil))))))))⟩
noncomputable def iL:IFn:=
 ⟨3,12,(.cons (.ite (.or (.cons (.val (.cmp .ne (.call 83 (.cons (.var 0) .nil)) (.call 83 (.cons (.var 1) .nil)))) (.cons (.val (.cmp .ne (.call 56 (.cons (.var 0) .nil)) (.call 56 (.cons (.var 1) .nil)))) .nil))) (.cons (.ret (.cb false)) .nil) .nil) (.cons (.asg 3 (.comp (.one 4) (.val (.call 42 (.cons (.var 1) .nil))) .nil (.idx (.var 4) (.ci 0)))) (.cons (.ite (.val (.cmp .ne (.bi .sorted (.cons (.bin .add (.var 3) (.call 56 (.cons (.var 1) .nil))) .nil)) (.meth (.var 0) 24 .nil))) (.cons (.ret (.cb false)) .nil) .nil) (.cons (.ret (.and (.cons (.call 107 (.cons (.var 0) (.cons (.var 2) .nil))) (.cons (.call 107 (.cons (.var 1) (.cons (.var 2) .nil))) .nil)))) .nil))))⟩
noncomputable def o5:IFn:=
 ⟨2,10,(.cons (.ret (.list (.cons (.bin .add (.idx (.var 0) (.ci 0)) (.bi .int (.cons (.cmp .eq (.idx (.var 1) (.ci 0)) (.cs "make")) .nil))) (.cons (.bin .add (.idx (.var 0) (.ci 1)) (.bi .int (.cons (.cmp .eq (.idx (.var 1) (.ci 0)) (.cs "pair")) .nil))) .nil)))) .nil)⟩
noncomputable def ir12_30:IFn:=
 ⟨1,18,(.cons (.asg 1 (.new .nil)) (.cons (.asg 2 (.list (.cons (.ci 0) (.cons (.ci 0) .nil)))) (.cons (.asg 3 (.call 52 (.cons (.var 0) .nil))) (.cons (.for (.one 4) (.range (.ci 0) (.bi .len (.cons (.var 3) .nil))) (.cons (.asg 5 (.call 50 (.cons (.idx (.var 3) (.var 4)) (.cons (.bin .add (.call 83 (.cons (.var 1) .nil)) (.list (.cons (.var 2) .nil))) .nil)))) (.cons (.ex (.call 47 (.cons (.var 1) (.cons (.var 5) .nil)))) (.cons (.asg 2 (.call 109 (.cons (.var 2) (.cons (.var 5) .nil)))) (.cons (.ite (.val (.cmp .eq (.bin .mod (.var 4) (.ci 8)) (.ci 7))) (.cons (.ex (.call 76 (.cons (.var 1) .nil))) .nil) .nil) .nil))))) (.cons (.asg 6 (.call 43 (.cons (.var 0) (.cons (.ci 0) .nil)))) (.cons (.ite (.not (.val (.call 107 (.cons (.var 1) (.cons (.var 2) .nil))))) (.cons (.ret (.cb false)) .nil) .nil) (.cons (.asg 7 (.call 102 (.cons (.call 92 (.cons (.var 1) .nil)) .nil))) (.cons (.ite (.not (.val (.call 108 (.cons (.var 1) (.cons (.var 7) (.cons (.var 2) .nil)))))) (.cons (.ret (.cb false)) .nil) .nil) (.cons (.for (.one 4) (.range (.ci 0) (.bin .mod (.bin .fdiv (.var 6) (.ci 3)) (.ci 8))) (.cons (.asg 8 (.call 92 (.cons (.var 1) .nil))) (.cons (.asg 5 (.call 50 (.cons (.bin .add (.var 6) (.bin .mul (.ci 11) (.var 4))) (.cons (.bin .add (.call 83 (.cons (.var 1) .nil)) (.list (.cons (.var 2) .nil))) .nil)))) (.cons (.asg 9 (.call 47 (.cons (.var 7) (.cons (.var 5) .nil)))) (.cons (.ite (.or (.cons (.val (.cmp .ne (.call 92 (.cons (.var 1) .nil)) (.var 8))) (.cons (.val (.cmp .ne (.call 47 (.cons (.var 1) (.cons (.var 5) .nil))) (.var 9))) .nil))) (.cons (.ret (.cb false)) .nil) .nil) (.cons (.ite (.and (.cons (.val (.cmp .isIn (.idx (.var 5) (.ci 0)) (.list (.cons (.cs "make") (.cons (.cs "pair") .nil))))) (.cons (.val (.cmp .ne (.var 9) (.idx (.var 2) (.bi .int (.cons (.cmp .eq (.idx (.var 5) (.ci 0)) (.cs "pair")) .nil))))) .nil))) (.cons (.ret (.cb false)) .nil) .nil) (.cons (.asg 2 (.call 109 (.cons (.var 2) (.cons (.var 5) .nil)))) (.cons (.ite (.not (.val (.call 108 (.cons (.var 1) (.cons (.var 7) (.cons (.var 2) .nil)))))) (.cons (.ret (.cb false)) .nil) .nil) .nil)))))))) (.cons (.ret (.and (.cons (.cmp .eq (.call 76 (.cons (.var 1) .nil)) (.call 76 (.cons (.var 7) .nil))) (.cons (.call 108 (.cons (.var 1) (.cons (.var 7) (.cons (.var 2) .nil)))) .nil)))) .nil))))))))))⟩
end Mine
namespace Mine
open PySem PySem.W PyProof.Rows
structure Cx where
 vt:List (Str×Nat)
 sc:List (Str×NameKind)
 q:Bool
noncomputable def opOf:Operator->Option Op
 | .Add=>some .add
 | .Sub=>some .sub
 | .Mult=>some .mul
 | .FloorDiv=>some .fdiv
 | .Mod=>some .mod
 | .Pow=>some (.pow 0)
 | _=>.none
noncomputable def cmOf:CmpOp->Cm
 | .Eq=>.eq
 | .NotEq=>.ne
 | .Lt=>.lt
 | .LtE=>.le
 | .Gt=>.gt
 | .GtE=>.ge
 | .Is=>.is
 | .IsNot=>.isNot
 | .In=>.isIn
 | .NotIn=>.notIn
set_option backward.match.sparseCases false in
noncomputable def yK:Expr->Bool
 | .Call (.Name _ _) [] [] _=>false
 | _=>true
set_option backward.match.sparseCases false in
noncomputable def vL:Expr->Bool
 | .Set ..=>false
 | _=>true
noncomputable def wG:Tg->List Nat
 | .one x=>[x]
 | .many xs=>xs
set_option backward.match.sparseCases false in
noncomputable def ub:Expr->Bool
 | .ListComp .. | .SetComp .. | .DictComp ..=>false
 | _=>true
noncomputable def chk {α:Type} (b:Bool) (x:Option α):Option α:=match b with
 | true=>x
 | false=>.none
structure Tab where
 fns:List (Str×Nat)
 meths:List (Str×Nat)
 attrs:List (Str×Nat)
 consts:List (Str×IE)
 cls:Str
structure Rec where
 e:Cx->Nat->Expr->Option IE
 t:Cx->Nat->Expr->Option IT
set_option backward.match.sparseCases false in
noncomputable def nsB:Expr->Bool
 | .Starred ..=>false
 | _=>true
noncomputable def esOf (R:Rec) (cx:Cx) (nx:Nat):List Expr->Option IEs
 | []=>some .nil
 | e::r=>chk (nsB e) ((R.e cx nx e).bind λ ie=>(esOf R cx nx r).bind λ ir=>some (.cons ie ir))
noncomputable def tsOf (R:Rec) (cx:Cx) (nx:Nat):List Expr->Option ITs
 | []=>some .nil
 | e::r=>(R.t cx nx e).bind λ it=>(tsOf R cx nx r).bind λ ir=>some (.cons it ir)
noncomputable def qN (R:Rec) (cx:Cx) (nx:Nat):Option Expr->Option IE
 | none=>some .cn
 | some e=>R.e cx nx e
set_option backward.match.sparseCases false in
noncomputable def nameOf?:Expr->Option Str
 | .Name x _=>some x
 | _=>.none
set_option backward.match.sparseCases false in
noncomputable def o6 {α:Type} (k:Expr->List Expr->List Keyword->Pos->Option α):Expr->Option α
 | .Call f as ks p=>k f as ks p
 | _=>.none
noncomputable def rOne (f:Expr) (as:List Expr) (ks:List Keyword):Option Expr:=(nameOf? f).bind λ g=>chk (ks.isEmpty&&g == ("range":Str)) (match as with
 | x::r=>chk r.isEmpty (some x)
 | []=>.none)
noncomputable def iOf (R:Rec) (cx:Cx) (nx:Nat) (e:Expr):Option II:=chk (vL e) (match o6 (λ f as ks z_=>rOne f as ks) e with
 | some x=>chk (nsB x&&cx.sc.lookup ("range":Str) == some .globalImplicit) ((R.e cx nx x).bind λ ie=>some (.range (.ci 0) ie))
 | .none=>(R.e cx nx e).bind λ ie=>some (.val ie))
set_option backward.match.sparseCases false in
noncomputable def vo:Expr->List Str
 | .Name x _=>[x]
 | .Tuple es _ _=>es.filterMap nameOf?
 | _=>[]
noncomputable def tn:List Str->Nat->List (Str×Nat)
 | [],_=>[]
 | x::r,n=>(x,n)::tn r (n+1)
noncomputable def cxIn (cx:Cx) (nx:Nat) (target:Expr) (scope:Scope):Cx:=
 ⟨tn (vo target) nx++scope.names.filterMap (λ y=>match y.2 with
  | .free=>(cx.vt.lookup y.1).map λ i=>(y.1,i)
  | _=>.none),scope.names,cx.q⟩
noncomputable def nmOf (vt:List (Str×Nat)):List Expr->Option (List Nat)
 | []=>some []
 | e::r=>(nameOf? e).bind λ x=>(vt.lookup x).bind λ i=>(nmOf vt r).bind λ is=>some (i::is)
set_option backward.match.sparseCases false in
noncomputable def tgOf (vt:List (Str×Nat)):Expr->Option Tg
 | .Name x _=>(vt.lookup x).bind λ i=>some (.one i)
 | .Tuple es _ _=>chk (decide (es.length<=50)) ((nmOf vt es).bind λ is=>some (.many is))
 | _=>.none
noncomputable def tt:List Nat->Bool
 | []=>true
 | a::r=>!r.contains a&&tt r
noncomputable def sv (cx:Cx) (scope:Scope) (t:Tg) (target:Expr) (cx':Cx):Bool:=
 (scope.kind == .function)&&
 (scope.names.all (λ y=>y.2 != .cell||scope.names.lookup y.1 == some .cell)&&
 (scope.names.all (λ y=>y.2 != .local||scope.names.lookup y.1 == some .local)&&
 (scope.names.all (λ y=>y.2 != .free||((cx.sc.lookup y.1 == some .cell||cx.sc.lookup y.1 == some .free)&&(cx.vt.lookup y.1).isSome))&&
 (cx'.vt.all (λ y=>!(y.1 == ("__debug__":Str))&&(((scope.names.lookup y.1 == some .local||scope.names.lookup y.1 == some .cell)&&(wG t).contains y.2)||(scope.names.lookup y.1 == some .free&&(cx.vt.lookup y.1 == some y.2&&(!(wG t).contains y.2&&!(y.1 == ("__classdict__":Str)))))))&&
 (tt (cx'.vt.map (·.2))&&
 (vo target).all (λ x=>scope.names.lookup x == some .local||scope.names.lookup x == some .cell))))))
noncomputable def gF (R:Rec) (cx:Cx) (nx:Nat):List Expr->Option ITs
 | []=>some .nil
 | [e]=>(R.t cx nx e).bind λ it=>some (.cons it .nil)
 | _=>.none
noncomputable def lc1 (R:Rec) (cx:Cx) (nx:Nat) (elt:Expr) (scope:Scope) (g:Comprehension):Option IE:=
 chk (g.is_async == 0) ((tgOf (cxIn cx nx g.target scope).vt g.target).bind λ t=>
   chk (sv cx scope t g.target (cxIn cx nx g.target scope)) ((iOf R cx nx g.iter).bind λ ii=>
    (gF R (cxIn cx nx g.target scope) (nx+(vo g.target).length) g.ifs).bind λ c=>
    (R.e (cxIn cx nx g.target scope) (nx+(vo g.target).length) elt).bind λ ie=>some (.comp t ii c ie)))
noncomputable def lcOf (R:Rec) (cx:Cx) (nx:Nat) (elt:Expr) (gens:List Comprehension) (scope:Scope):Option IE:=match gens with
 | g::r=>chk r.isEmpty (lc1 R cx nx elt scope g)
 | []=>.none
set_option backward.match.sparseCases false in
noncomputable def f9 (R:Rec) (cx:Cx) (nx:Nat) (l:Expr) (op:Operator) (r:Expr):Option IE:=match l,op with
 | .List [x] _,.Mult=>chk (nsB x) ((R.e cx nx x).bind λ a=>(R.e cx nx r).bind λ b=>some (.rep a b))
 | _,_=>(opOf op).bind λ o=>(R.e cx nx l).bind λ a=>(R.e cx nx r).bind λ b=>some (.bin o a b)
noncomputable def lf (R:Rec) (cx:Cx) (nx:Nat) (l:Expr) (ops:List CmpOp) (rs:List Expr):Option IE:=match ops,rs with
 | [op],[r]=>chk (!behindInMarks op r) ((R.e cx nx l).bind λ a=>(R.e cx nx r).bind λ b=>some (.cmp (cmOf op) a b))
 | _,_=>.none
set_option backward.match.sparseCases false in
noncomputable def idxB:Expr->Bool
 | .Slice ..=>false
 | _=>true
set_option backward.match.sparseCases false in
noncomputable def fc (R:Rec) (cx:Cx) (nx:Nat) (o i:Expr):Option IE:=match i with
 | .Slice lo hi st _=>(R.e cx nx o).bind λ a=>(qN R cx nx lo).bind λ b=>(qN R cx nx hi).bind λ c=>(qN R cx nx st).bind λ d=>some (.slice a b c d)
 | i=>chk (idxB i) ((R.e cx nx o).bind λ a=>(R.e cx nx i).bind λ b=>some (.idx a b))
noncomputable def biTab:List (Str×Bi):=[("len",.len),("list",.list),("sorted",.sorted),("min",.min),("int",.int),("str",.str),("tuple",.tuple)]
noncomputable def tyTab:List (Str×Ty):=[("int",.int),("bool",.bool),("list",.list),("tuple",.tuple),("str",.str)]
noncomputable def mOf (T:Tab) (nm:Str):Option Nat:=match nm == ("append":Str) with
 | true=>some 0
 | false=>match nm == ("pop":Str) with
  | true=>some 1
  | false=>match nm == ("get":Str) with
   | true=>some 2
   | false=>T.meths.lookup nm
noncomputable def isiOf (R:Rec) (cx:Cx) (nx:Nat):List Expr->Option IE
 | e::r=>match r with
  | t::r=>chk (r.isEmpty&&nsB e) ((nameOf? t).bind λ ty=>chk (cx.sc.lookup ty == some .globalImplicit&&!(ty == ("__debug__":Str))) ((tyTab.lookup ty).bind λ t=>(R.e cx nx e).bind λ ie=>some (.isinst ie t)))
  | []=>.none
 | []=>.none
set_option backward.match.sparseCases false in
noncomputable def gG:Expr->Option Str
 | .Constant (.str s) _ _=>chk (PyData.strOk s) (some s)
 | _=>.none
noncomputable def o8 (s:Str):Option Nat:=match s.cps.toList with
 | [c]=>some c
 | _=>.none
noncomputable def iM (R:Rec) (cx:Cx) (nx:Nat) (o:Expr) (nm:Str):List Expr->Option IE
 | x::r=>chk (r.isEmpty&&nsB x) (match nm == ("join":Str) with
  | true=>(gG o).bind λ sep=>(R.e cx nx x).bind λ ie=>some (.join sep ie)
  | false=>chk (nm == ("split":Str)) ((gG x).bind λ sep=>(o8 sep).bind λ c=>(R.e cx nx o).bind λ ie=>some (.split ie c)))
 | []=>.none
noncomputable def tE (T:Tab) (R:Rec) (cx:Cx) (nx:Nat) (g:Str) (es:List Expr):Option IE:=match g == ("isinstance":Str) with
 | true=>isiOf R cx nx es
 | false=>match biTab.lookup g with
  | some b=>(esOf R cx nx es).bind λ ies=>some (.bi b ies)
  | .none=>match T.fns.lookup g with
   | some k=>(esOf R cx nx es).bind λ ies=>some (.call k ies)
   | .none=>chk (g == T.cls&&es.isEmpty) (some (.new .nil))
set_option backward.match.sparseCases false in
noncomputable def iN (T:Tab) (R:Rec) (cx:Cx) (nx:Nat) (f:Expr) (es:List Expr) (pos:Pos):Option IE:=match f with
 | .Name g _=>chk (cx.sc.lookup g == some .globalImplicit&&!(g == ("__debug__":Str))) (tE T R cx nx g es)
 | .Attribute o nm apos=>chk (yK o&&(decide (es.length < 30)&&(apos.endLine == pos.line))) (match mOf T nm with
  | some k=>(R.e cx nx o).bind λ io=>(esOf R cx nx es).bind λ ies=>some (.meth io k ies)
  | .none=>iM R cx nx o nm es)
 | _=>.none
set_option backward.match.sparseCases false in
noncomputable def gH (T:Tab) (R:Rec) (cx:Cx) (nx:Nat) (e:Expr):Option IE:=match e with
 | .Constant .none _ _=>some .cn
 | .Constant (.bool b) _ _=>some (.cb b)
 | .Constant (.int i) _ _=>some (.ci i)
 | .Constant (.str s) _ _=>chk (PyData.strOk s) (some (.cs s))
 | .Name x _=>match cx.vt.lookup x with
  | some i=>some (.var i)
  | .none=>chk (cx.sc.lookup x == some .globalImplicit&&!(x == ("__debug__":Str))) (T.consts.lookup x)
 | .BinOp l op r _=>f9 R cx nx l op r
 | .UnaryOp .USub a _=>(R.e cx nx a).bind λ i=>some (.neg i)
 | .UnaryOp .Not a _=>(R.e cx nx a).bind λ i=>some (.not i)
 | .BoolOp .And es _=>chk (!es.isEmpty) ((esOf R cx nx es).bind λ i=>some (.and i))
 | .BoolOp .Or es _=>chk (!es.isEmpty) ((esOf R cx nx es).bind λ i=>some (.or i))
 | .Compare l ops rs _=>lf R cx nx l ops rs
 | .Attribute o nm _=>chk (yK o) ((T.attrs.lookup nm).bind λ i=>(R.e cx nx o).bind λ io=>some (.attr io i))
 | .Subscript o i _=>fc R cx nx o i
 | .List es _=>chk (decide (es.length<=1000)) ((esOf R cx nx es).bind λ i=>some (.list i))
 | .Tuple es _ _=>chk (decide (es.length<=1000)) ((esOf R cx nx es).bind λ i=>some (.tup i))
 | .Dict [] [] _=>some .dict
 | .ListComp elt gens scope _=>lcOf R cx nx elt gens scope
 | .Call f es [] pos=>iN T R cx nx f es pos
 | _=>.none
set_option backward.match.sparseCases false in
noncomputable def gI:Expr->Bool
 | .Name ..=>true
 | .Call ..=>true
 | .Subscript ..=>true
 | .Attribute ..=>true
 | _=>false
set_option backward.match.sparseCases false in
noncomputable def gJ (R:Rec) (cx:Cx) (nx:Nat) (e:Expr):Option IT:=match e with
 | .UnaryOp .Not a _=>(R.t cx nx a).bind λ i=>some (.not i)
 | .BoolOp .And es _=>(tsOf R cx nx es).bind λ i=>some (.and i)
 | .BoolOp .Or es _=>(tsOf R cx nx es).bind λ i=>some (.or i)
 | .Compare l ops rs _=>(lf R cx nx l ops rs).bind λ i=>some (.val i)
 | e=>chk (gI e) ((R.e cx nx e).bind λ i=>some (.val i))
noncomputable def lg (T:Tab):Nat->Rec
 | 0=>⟨λ z_ z_ z_=>.none,λ z_ z_ z_=>.none⟩
 | n+1=>⟨gH T (lg T n),gJ (lg T n)⟩
noncomputable def ssOf (rs:Cx->Nat->Stmt->Option IS) (cx:Cx) (nx:Nat):List Stmt->Option ISs
 | []=>some .nil
 | s::r=>(rs cx nx s).bind λ i=>(ssOf rs cx nx r).bind λ ir=>some (.cons i ir)
noncomputable def vM (cx:Cx) (x:Str):Bool:=cx.sc.lookup x == some .local||cx.sc.lookup x == some .cell
set_option backward.match.sparseCases false in
noncomputable def ff (T:Tab) (R:Rec) (cx:Cx) (nx:Nat) (t e:Expr):Option IS:=match t with
 | .Name x _=>(cx.vt.lookup x).bind λ i=>chk (vM cx x) (match e with
  | .ListComp elt gens scope _=>(lcOf R cx nx elt gens scope).bind λ ie=>some (.asg i ie)
  | e=>chk (ub e) ((R.e cx nx e).bind λ ie=>some (.asg i ie)))
 | .Attribute o nm _=>(T.attrs.lookup nm).bind λ a=>(R.e cx nx o).bind λ io=>(R.e cx nx e).bind λ ie=>some (.sat io a ie)
 | .Subscript o i _=>(R.e cx nx o).bind λ io=>(R.e cx nx i).bind λ ii=>(R.e cx nx e).bind λ ie=>some (.sit io ii ie)
 | _=>.none
set_option backward.match.sparseCases false in
noncomputable def fh (T:Tab) (R:Rec) (rs:Cx->Nat->Stmt->Option IS) (cx:Cx) (nx:Nat) (s:Stmt):Option IS:=match s with
 | .Assign [t] e _=>ff T R cx nx t e
 | .Expr e _=>chk (ub e) ((R.e cx nx e).bind λ ie=>some (.ex ie))
 | .If c t e _=>(R.t cx nx c).bind λ ic=>(ssOf rs cx nx t).bind λ it=>(ssOf rs cx nx e).bind λ ie=>some (.ite ic it ie)
 | .For tg it b [] _=>chk ((vo tg).all (vM cx)) ((tgOf cx.vt tg).bind λ t=>(iOf R cx nx it).bind λ ii=>(ssOf rs cx nx b).bind λ ib=>some (.for t ii ib))
 | .While c b [] _=>(R.t cx nx c).bind λ ic=>(ssOf rs cx nx b).bind λ ib=>some (.while ic ib)
 | .Return (some e) _=>(R.e cx nx e).bind λ ie=>some (.ret ie)
 | .Raise _ _ _=>some (.ex (.not .cn))
 | _=>.none
noncomputable def recS (T:Tab) (R:Rec):Nat->Cx->Nat->Stmt->Option IS
 | 0=>λ z_ z_ z_=>.none
 | n+1=>fh T R (recS T R n)
noncomputable def tu:List Str->Bool
 | []=>true
 | a::r=>!r.contains a&&tu r
noncomputable def wH (fd:FuncData):List Str:=fd.params.args.map (·.arg)
noncomputable def fnVt (fd:FuncData):List (Str×Nat):=
 tn (wH fd++fd.scope.names.filterMap λ y=>match (y.2 == .local||y.2 == .cell)&&!(wH fd).contains y.1 with
  | true=>some y.1
  | false=>.none) 0
noncomputable def fnCx (fd:FuncData):Cx:=⟨fnVt fd,fd.scope.names,true⟩
noncomputable def o9:Value->Bool
 | .none=>true
 | _=>false
noncomputable def fi (K:Frag) (fd:FuncData):Bool:=
 codeIn K fd.code fd.qualname&&(fd.closure.isEmpty&&((fd.globals == mainGlobals)&&((fd.builtins == builtinsNs)&&(fd.params.posonlyargs.isEmpty&&(fd.params.kwonlyargs.isEmpty&&(fd.params.vararg.isNone&&(fd.params.kwarg.isNone&&
 (o9 fd.defaults&&(tu (wH fd)&&((fd.scope.kind == .function)&&(!fd.scope.isCoroutine&&(!fd.scope.isGenerator&&(tu (fd.scope.names.map (·.1))&&((wH fd).all (vM (fnCx fd))&&
 ((tn (wH fd) 0).all (λ y=>(fnVt fd).lookup y.1 == some y.2)&&((fnVt fd).all (λ y=>!(y.1 == ("__debug__":Str))&&vM (fnCx fd) y.1)&&tt ((fnVt fd).map (·.2))))))))))))))))))
noncomputable def fnAt (K:Frag) (a:Nat):Option FuncData:=match K.lookup a with
 | some ⟨_,_,.func fd,_⟩=>some fd
 | _=>.none
noncomputable def iO (fd:FuncData):Option (List Stmt):=match fd.body with
 | .stmts b=>some b
 | _=>.none
noncomputable def fnIR (K:Frag) (T:Tab) (a:Nat):Option IFn:=
 (fnAt K a).bind λ fd=>(iO fd).bind λ body=>chk (fi K fd) ((ssOf (recS T (lg T 40) 12) (fnCx fd) (fnVt fd).length body).bind λ ib=>some ⟨(wH fd).length,(fnVt fd).length+8,ib⟩)
noncomputable def uW:Option (Option Value)->Option Nat
 | some (some (.ref a))=>some a
 | _=>.none
noncomputable def tF (K:Frag) (T:Tab):Nat:=(uW (nsIn K mainGlobals T.cls)).getD 0
noncomputable def vp (K:Frag) (T:Tab) (k:Nat):Option (Str×Nat):=(T.meths.find? λ y=>y.2 == k).bind λ y=>(uW (findIn K (.ref (tF K T)) y.1)).map λ a=>(y.1,a)
noncomputable def yy (K:Frag) (T:Tab) (k:Nat):Option Nat:=match vp K T k with
 | some p=>some p.2
 | .none=>(T.fns.find? λ y=>y.2 == k).bind λ y=>uW (nsIn K mainGlobals y.1)
noncomputable def wS (T:Tab) (i:Nat):Str:=((T.attrs.find? λ y=>y.2 == i).map (·.1)).getD ""
noncomputable def isInt (x:Option (Option Value)) (c:Int):Bool:=match x with
 | some (some (.int i _))=>i == c
 | _=>false
noncomputable def isStr (x:Option (Option Value)) (c:Str):Bool:=match x with
 | some (some (.str i _))=>i == c&&PyData.strOk c
 | _=>false
set_option backward.match.sparseCases false in
noncomputable def fj (x:Option (Option Value)):IE->Bool
 | .ci c=>isInt x c
 | .cs c=>isStr x c
 | _=>false
noncomputable def oe (K:Frag) (x:Str):Bool:=match nsIn K mainGlobals x with
 | some .none=>true
 | _=>false
noncomputable def clsB (K:Frag) (T:Tab):Bool:=
 let c:=tF K T
 ((uW (nsIn K mainGlobals T.cls)).isSome&&(plainGet K c ""&&(hasDictIn K c&&(plainOver K c&&(makesIn K c&&(keepIn K (.ref c)&&
 ((findIn K (.ref c) "__setattr__" == some (some (.builtin "object.__setattr__")))&&T.attrs.all (λ y=>findIn K (.ref c) y.1 == some none))))))))
noncomputable def pC (K:Frag) (T:Tab):Bool:=
 let c:=tF K T
 T.meths.all λ y=>decide (4<=y.2)&&(match uW (findIn K (.ref c) y.1) with
  | some a=>isFn K (.ref a)&&(vp K T y.2 == some (y.1,a)&&T.attrs.all (λ z=>!(z.1 == y.1)))
  | .none=>false)
noncomputable def fnsB (K:Frag) (T:Tab):Bool:=
 T.fns.all (λ y=>(uW (nsIn K mainGlobals y.1)).isSome&&yy K T y.2 == uW (nsIn K mainGlobals y.1))&&T.consts.all (λ y=>fj (nsIn K mainGlobals y.1) y.2)
noncomputable def tv (T:Tab):Bool:=T.attrs.all (λ y=>decide (y.2 < T.attrs.length)&&wS T y.2 == y.1)&&((List.range T.attrs.length).all (λ i=>T.attrs.any λ y=>y.2 == i)&&(decide (T.attrs.length<=100)&&(T.meths.any (λ y=>y.1 == ("__init__":Str)&&y.2 == th)&&(List.range T.attrs.length).all λ i=>(List.range T.attrs.length).all λ j=>i == j||!(wS T i == wS T j))))
noncomputable def lh (K:Frag):Bool:=(("isinstance":Str)::("range":Str)::biTab.map (·.1)++tyTab.map (·.1)).all (oe K)
noncomputable def tab12:Tab:={ fns:=("way_of",89)::("row_of",90)::("deed_words",91)::("written",92)::("number_of",93)::("holds_of",94)::("need",95)::("add_box",96)::("add_slot",97)::("add_pair",98)::("deeds_of",99)::("add_will",100)::("add_row",101)::("read",102)::("given_by_pairs",40)::("given_by_slots",41)::("come_to",42)::("lost",56)::("steps_from",60)::("younger_than",61)::("is_free",62)::("order_of_wills",63)::("do_deed",73)::("do_will",74)::("give_up",75)::("sweep",76)::("_law_cell_at",43)::("_law_mixed",45)::("_law_told",47)::("_law_will_of",49)::("_law_deed_by",50)::("_law_laid",51)::("_law_cells",52)::("_law_view",83)::("_law_hold_word",103)::("_law_slot_text",104)::("_law_will_text",105)::("_law_text_of",106)::("_law_text_is",107)::("_law_alike",108)::("_law_later",109)::("law",30)::[],meths:=[("__init__",20),("need_box",21),("need_slot",22),("make",23),("boxes",24),("size",25),("put",26),("empty",27),("told",28),("take",29),("drop",31),("hands",32),("pair",33),("unpair",34),("pairs",35),("bequeath",36),("will",37)],attrs:=[("next_box",0),("next_pair",1),("rows",2),("held",3),("links",4),("wills",5)],consts:=[("MOST_SIZE",.ci 9),("MOST_BOXES",.ci 60),("MOST_PAIRS",.ci 60),("MOST_DEEDS",.ci 9),("MOST_FIGURES",.ci 9),("FIGURES",.cs "0123456789")],cls:="Chest" }
noncomputable def tbl12:List (Nat×IFn):=[(20,im),(21,wx),(22,pA),(23,ip),(24,iu),(25,iv),(26,iw),(27,iy),(28,iz),(29,hA),(31,hF),(32,hJ),(33,hO),(34,hS),(35,l7),(36,hV),(37,hY),(89,vn),(90,vX),(91,tm),(92,o0),(93,gC),(94,gD),(95,gE),(96,f4),(97,f5),(98,f6),(99,f7),(100,iI),(101,iJ),(102,o4),(40,ti),(41,tj),(42,ir_42),(56,oX),(60,pB),(61,ir_61),(62,oY),(63,ir_63),(73,ld),(74,gA),(75,gB),(76,fZ),(43,l8),(45,tD),(47,l9),(49,oV),(50,oW),(51,lc),(52,hZ),(83,oZ),(103,wR),(104,u9),(105,ua),(106,qM),(107,o3),(108,iL),(109,o5),(30,ir12_30)]
set_option maxRecDepth 100000 in
set_option maxHeartbeats 8000000 in
theorem ft:∀ w,(clsB (yl w) tab12,pC (yl w) tab12,fnsB (yl w) tab12,lh (yl w),(tbl12.take 20).map (λ p=>(yy (yl w) tab12 p.1).bind (fnIR (yl w) tab12)))=(true,true,true,true,(tbl12.take 20).map λ p=>some p.2):=λ w=>by kernel_rfl
set_option maxRecDepth 100000 in
set_option maxHeartbeats 8000000 in
theorem og:∀ w,((tbl12.drop 20).take 15).map (λ p=>(yy (yl w) tab12 p.1).bind (fnIR (yl w) tab12))=((tbl12.drop 20).take 15).map λ p=>some p.2:=λ w=>by kernel_rfl
set_option maxRecDepth 100000 in
set_option maxHeartbeats 8000000 in
theorem oj:∀ w,(((tbl12.drop 20).drop 15).take 14).map (λ p=>(yy (yl w) tab12 p.1).bind (fnIR (yl w) tab12))=(((tbl12.drop 20).drop 15).take 14).map λ p=>some p.2:=λ w=>by kernel_rfl
set_option maxRecDepth 100000 in
set_option maxHeartbeats 8000000 in
theorem ol:∀ w,(((tbl12.drop 20).drop 15).drop 14).map (λ p=>(yy (yl w) tab12 p.1).bind (fnIR (yl w) tab12))=(((tbl12.drop 20).drop 15).drop 14).map λ p=>some p.2:=λ w=>by kernel_rfl
theorem tG {A B:Type} {f g:A->B} (k:Nat) {l:List A} (h1:(l.take k).map f=(l.take k).map g) (h2:(l.drop k).map f=(l.drop k).map g):l.map f=l.map g:=by rw [<-List.take_append_drop k l,List.map_append,List.map_append,h1,h2]
theorem om:tv tab12=true:=by kernel_rfl
theorem oo:(tab12.meths++tab12.fns).map (·.2)=tbl12.map (·.1):=by kernel_rfl

structure Stat where
 prog:Program
 w:World
 base:Heap
 cls:Nat
 attr:Nat->Str
 own:Nat->Nat
 mg:Str->Option Value
 mb:Str->Option Value
 K:Frag
 nattr:Nat
 meth:Nat->Option (Str×Nat)
 addr:Nat->Option Nat

structure tw (S:Stat):Prop where
 sys:∃ o,S.base.get? sysModules=some o
 hg:S.base.Ns mainGlobals S.mg
 hb:S.base.Ns builtinsNs S.mb
 lim:S.base.NoLimit
 hK:S.K.In S.base
 few:S.nattr<=100
 inj:∀ i j,i < S.nattr->j < S.nattr->S.attr i=S.attr j->i=j
 hga:plainGet S.K S.cls ""=true
 hdi:hasDictIn S.K S.cls=true
 hfi:∀ i,i < S.nattr->findIn S.K (.ref S.cls) (S.attr i)=some none
 hsa:findIn S.K (.ref S.cls) "__setattr__"=some (some (.builtin "object.__setattr__"))
 hpo:plainOver S.K S.cls=true
 hme:∀ k name f,S.meth k=some (name,f)->findIn S.K (.ref S.cls) name=some (some (.ref f))/\isFn S.K (.ref f)=true/\∀ i,i < S.nattr->S.attr i≠name
 hma:∀ k name f,S.meth k=some (name,f)->S.addr k=some f
 hmk:makesIn S.K S.cls=true
 hkp:keepIn S.K (.ref S.cls)=true
 hin:∃ f,findIn S.K (.ref S.cls) "__init__"=some (some (.ref f))/\typeIn S.K (.ref f)=some (.type "function")/\S.addr th=some f

mutual
inductive VRel (S:Stat) (h:Heap):AV->Value->Prop
 | none:VRel S h .none .none
 | bool (b:Bool):VRel S h (.bool b) (.bool b)
 | int (i:Int) (t:Tok):VRel S h (.int i) (.int i t)
 | str (x:Str) (t:Tok):PyData.strOk x=true->VRel S h (.str x) (.str x t)
 | ref (a:Nat):VRel S h (.ref a) (.ref a)
 | tup {a:Nat} {items:Array Value} {k:Nat} {l:List AV}:IsT h a items k->items.size<=lid->VRels S h l items.toList->VRel S h (.tup l) (.ref a)
 | exc {a:Nat} {c:Nat} {o:Obj}:h.get? a=some o->o.cls=.ref (S.own c)->(∃ vs,o.data=.fields vs)->S.base.get? a=.none->VRel S h (.exc c) (.ref a)
 | fro {a:Nat} {items:Array Value} {l:List AV}:S.base.IsList a items->items.size<=lid->VRels S h l items.toList->VRel S h (.fro l) (.ref a)
inductive VRels (S:Stat) (h:Heap):List AV->List Value->Prop
 | nil:VRels S h [] []
 | cons {a:AV} {v:Value} {l:List AV} {vs:List Value}:VRel S h a v->VRels S h l vs->VRels S h (a::l) (v::vs)
end

noncomputable def VInv (S:Stat) (h:Heap) (a:AV) (v:Value):Prop:=match a with
 | .none=>v=.none
 | .bool b=>v=.bool b
 | .int i=>∃ t,v=.int i t
 | .str x=>∃ t,v=.str x t/\PyData.strOk x=true
 | .ref b=>v=.ref b
 | .tup l=>∃ b items k,v=.ref b/\IsT h b items k/\items.size<=lid/\VRels S h l items.toList
 | .exc c=>∃ b o,v=.ref b/\h.get? b=some o/\o.cls=.ref (S.own c)/\(∃ vs,o.data=.fields vs)/\S.base.get? b=.none
 | .fro l=>∃ b items,v=.ref b/\S.base.IsList b items/\items.size<=lid/\VRels S h l items.toList
theorem VRel.inv {S:Stat} {h:Heap} {a:AV} {v:Value} (r:VRel S h a v):VInv S h a v:=
 VRel.rec (motive_1:=λ a v z_=>VInv S h a v) (motive_2:=λ z_ z_ z_=>True) rfl (λ z_=>rfl) (λ z_ t=>⟨t,rfl⟩) (λ z_ t h=>⟨t,rfl,h⟩) (λ z_=>rfl)
  (λ h1 h2 h3 z_=>⟨_,_,_,rfl,h1,h2,h3⟩) (λ h1 h2 h3 h4=>⟨_,_,rfl,h1,h2,h3,h4⟩) (λ h1 h2 h3 z_=>⟨_,_,rfl,h1,h2,h3⟩) trivial (λ z_ z_ z_ z_=>trivial) r
noncomputable def fu (S:Stat) (h:Heap) (l:List AV) (vs:List Value):Prop:=match l with
 | []=>vs=[]
 | a::r=>∃ v us,vs=v::us/\VRel S h a v/\VRels S h r us
theorem VRels.inv {S:Stat} {h:Heap} {l:List AV} {vs:List Value} (r:VRels S h l vs):fu S h l vs:=
 VRels.rec (motive_1:=λ z_ z_ z_=>True) (motive_2:=λ l vs z_=>fu S h l vs) trivial (λ z_=>trivial) (λ z_ z_=>trivial) (λ z_ z_ z_=>trivial) (λ z_=>trivial)
  (λ z_ z_ z_ z_=>trivial) (λ z_ z_ z_ z_=>trivial) (λ z_ z_ z_ z_=>trivial) rfl (λ x r z_ z_=>⟨_,_,rfl,x,r⟩) r

inductive DRel (S:Stat) (h:Heap):List (Int×AV)->List (Int×Value)->Prop
 | nil:DRel S h [] []
 | cons {k:Int} {a:AV} {v:Value} {d:List (Int×AV)} {kvs:List (Int×Value)}:VRel S h a v->DRel S h d kvs->DRel S h ((k,a)::d) ((k,v)::kvs)

noncomputable def NsRel (S:Stat) (h:Heap) (f:List (Nat×AV)) (mm:Str->Option Value):Prop:=
 (∀ i,i < S.nattr->(nget f i=.none/\mm (S.attr i)=.none)\/∃ a v,nget f i=some a/\mm (S.attr i)=some v/\VRel S h a v)/\∀ name,(∀ i,i < S.nattr->S.attr i≠name)->mm name=.none

noncomputable def ORel (S:Stat) (h:Heap) (a:Nat):AO->Prop
 | .list l=>∃ items k,IsL h a items k/\items.size<=lid/\VRels S h l items.toList
 | .dict d ep=>∃ kvs,h.DictAt (intKind S.prog S.w) a kvs ep/\d.length<=lid/\DRel S h d kvs
 | .inst dx=>∃ o,h.get? a=some o/\o.cls=.ref S.cls/\notCls o=true/\o.dict=some dx/\(∀ es n,o.data≠.dict es n)/\(∀ es n,o.data≠.seq es n)/\(∀ es,o.data≠.fields es)/\(∀ c,o.data≠.cell c)
 | .ns f=>∃ mm,h.Ns1 a mm/\NsRel S h f mm

noncomputable def HRel (S:Stat) (H:AH) (h:Heap):Prop:=∀ a o,H a=some o->ORel S h a o

noncomputable def KeptO (o o':Obj):Prop:=o'=o\/((∃ es ep,o.data=.dict es ep)/\o'.data=o.data/\o'.cls=o.cls/\o'.dict=o.dict)
theorem KeptO.refl (o:Obj):KeptO o o:=.inl rfl
theorem KeptO.trans {a b c:Obj} (x:KeptO a b) (y:KeptO b c):KeptO a c:=by
 rcases x with rfl | ⟨⟨es,ep,x1⟩,x2,x3,x4⟩
 ·exact y
 ·rcases y with rfl | ⟨_,y2,y3,y4⟩
  ·exact .inr ⟨⟨es,ep,x1⟩,x2,x3,x4⟩
  ·exact .inr ⟨⟨es,ep,x1⟩,y2.trans x2,y3.trans x3,y4.trans x4⟩
theorem KeptO.eq {o o':Obj} (x:KeptO o o') (h:∀ es ep,o.data≠.dict es ep):o'=o:=by
 rcases x with rfl | ⟨⟨es,ep,x1⟩,_⟩
 ·rfl
 ·exact absurd x1 (h es ep)

structure Ext (D:List Nat) (h:Heap) (H:AH) (h':Heap) (H':AH):Prop where
 kept:∀ b o,h.get? b=some o->H b=.none->b∉D->∃ o',h'.get? b=some o'/\KeptO o o'
 more:∀ b,H b≠.none->H' b≠.none
 fresh:∀ b,H b=.none->H' b≠.none->h.get? b=.none/\b∉D
 alive:∀ b,b∉D->h.get? b≠.none->h'.get? b≠.none

theorem Ext.refl (D:List Nat) (h:Heap) (H:AH):Ext D h H h H:=⟨λ z_ o e z_ z_=>⟨o,e,.refl o⟩,λ z_ x=>x,λ z_ x y=>absurd x y,λ z_ z_ x=>x⟩
theorem Ext.none {D:List Nat} {h h':Heap} {H H':AH} (x:Ext D h H h' H') {b:Nat} {o:Obj} (e:h.get? b=some o) (hb:H b=.none):H' b=.none:=by
 cases q:H' b with
 | none=>rfl
 | some o'=>have:=(x.fresh b hb (by rw [q];simp)).1;rw [e] at this;cases this
theorem wT {h:Heap} {a:Nat} {o:Obj} (e:h.get? a=some o):a < h.objs.size:=Heap.lt_size e
theorem get?_none_of_ge {h:Heap} {b:Nat} (e:h.objs.size<=b):h.get? b=.none:=by
 cases q:h.get? b with
 | none=>rfl
 | some o=>exact absurd (wT q) (Nat.not_lt.mpr e)
theorem Ext.trans {D:List Nat} {h h' h'':Heap} {H H' H'':AH} (x:Ext D h H h' H') (y:Ext D h' H' h'' H''):Ext D h H h'' H'':=by
 refine ⟨λ b o e hb hD=>?_,λ b e=>y.more b (x.more b e),λ b hb hb''=>?_,λ b hD e=>y.alive b hD (x.alive b hD e)⟩
 ·with_reducible refine ex1 (x.kept b o e hb hD) λ o' hx_=>an2 hx_ λ e' k=>?_;clear hx_
  with_reducible refine ex1 (y.kept b o' e' (x.none e hb) hD) λ o'' hx_=>an2 hx_ λ e'' k'=>?_;clear hx_
  exact ⟨o'',e'',k.trans k'⟩
 ·by_cases q:H' b=.none
  ·obtain ⟨h1,hD⟩:=y.fresh b q hb''
   refine ⟨?_,hD⟩
   cases e:h.get? b with
   | none=>rfl
   | some o=>exact absurd h1 (x.alive b hD (by rw [e];simp))
  ·exact x.fresh b hb q
theorem Ext.wider {D D':List Nat} {h h':Heap} {H H':AH} (x:Ext D h H h' H') (s:∀ b∈D,b∈D') (hD:∀ b∈D',H' b=.none):Ext D' h H h' H':=
 ⟨λ b o e hb hD=>x.kept b o e hb λ q=>hD (s b q),x.more,λ b hb hb'=>⟨(x.fresh b hb hb').1,λ q=>hb' (hD b q)⟩,λ b hb e=>x.alive b (λ q=>hb (s b q)) e⟩
theorem Ext.drop {D D':List Nat} {h h':Heap} {H H':AH} (x:Ext D h H h' H') (s:∀ b∈D,b∈D'\/h.get? b=.none) (s':∀ b∈D',b∈D):Ext D' h H h' H':=
 ⟨λ b o e hb hD=>x.kept b o e hb λ q=>(by rcases s b q with z | z;exact hD z;rw [z] at e;cases e),x.more,λ b hb hb'=>⟨(x.fresh b hb hb').1,λ q=>(x.fresh b hb hb').2 (s' b q)⟩,
  λ b hD e=>x.alive b (λ q=>by rcases s b q with z | z;exact hD z;exact e z) e⟩

noncomputable def Leant (o:Obj):Prop:=(o.cls=.type "tuple"/\∃ vs n,o.data=.seq vs n)\/((∃ c,o.cls=.ref c)/\∃ vs,o.data=.fields vs)
noncomputable def zN (h h':Heap):Prop:=∀ b o,h.get? b=some o->Leant o->h'.get? b=some o

theorem VRels.ind {S:Stat} {h:Heap} {M:List AV->List Value->Prop} (n:M [] []) (c:∀ {a:AV} {v:Value} {l:List AV} {vs:List Value},VRel S h a v->VRels S h l vs->M l vs->M (a::l) (v::vs)) {l:List AV} {vs:List Value} (r:VRels S h l vs):M l vs:=
 VRels.rec (motive_1:=λ z_ z_ z_=>True) (motive_2:=λ l vs z_=>M l vs) trivial (λ z_=>trivial) (λ z_ z_=>trivial) (λ z_ z_ z_=>trivial) (λ z_=>trivial) (λ z_ z_ z_ z_=>trivial) (λ z_ z_ z_ z_=>trivial) (λ z_ z_ z_ z_=>trivial) n (λ x r z_ h=>c x r h) r
theorem VRel.mono {S:Stat} {h h':Heap} (k:zN h h') {a:AV} {v:Value} (x:VRel S h a v):VRel S h' a v:=
 VRel.rec (motive_1:=λ a v z_=>VRel S h' a v) (motive_2:=λ l vs z_=>VRels S h' l vs) .none .bool .int .str .ref (λ ho hz z_ r=>.tup (k _ _ ho (.inl ⟨rfl,_,_,rfl⟩)) hz r)
  (λ ho hc hd hb=>.exc (k _ _ ho (.inr ⟨⟨_,hc⟩,hd⟩)) hc hd hb) (λ hl hz z_ r=>.fro hl hz r) .nil (λ z_ z_ x r=>.cons x r) x
theorem VRels.mono {S:Stat} {h h':Heap} (k:zN h h') {l:List AV} {vs:List Value} (r:VRels S h l vs):VRels S h' l vs:=
 r.ind .nil λ x z_ h=>.cons (x.mono k) h
theorem DRel.mono {S:Stat} {h h':Heap} (k:zN h h') {d:List (Int×AV)} {kvs:List (Int×Value)} (x:DRel S h d kvs):DRel S h' d kvs:=by
 induction x with
 | nil=>exact .nil
 | cons a _ ih=>exact .cons (a.mono k) ih
theorem NsRel.mono {S:Stat} {h h':Heap} (k:zN h h') {f:List (Nat×AV)} {mm:Str->Option Value} (x:NsRel S h f mm):NsRel S h' f mm:=
 ⟨λ i hi=>(x.1 i hi).imp id λ ⟨a,v,h1,h2,r⟩=>⟨a,v,h1,h2,r.mono k⟩,x.2⟩

theorem ORel.notLeant {S:Stat} {h:Heap} {a:Nat} {o:AO} {ob:Obj} (r:ORel S h a o) (e:h.get? a=some ob):¬ Leant ob:=by
 rintro (⟨hc,vs,n,hd⟩ | ⟨⟨c,hc⟩,vs,hd⟩)
 ·cases o with
  | list l=>obtain ⟨_,k',e',_⟩:=r;cases e.symm.trans e';simp at hc
  | dict d ep=>obtain ⟨_,⟨o',es,e',c',d',_⟩,_⟩:=r;rw [e] at e';cases e';rw [hd] at d';cases d'
  | inst dx=>obtain ⟨o',e',c',_⟩:=r;rw [e] at e';cases e';rw [hc] at c';cases c'
  | ns f=>obtain ⟨mm,⟨o',es,ep,e',d',_⟩,_⟩:=r;rw [e] at e';cases e';rw [hd] at d';cases d'
 ·cases o with
  | list l=>obtain ⟨_,k',e',_⟩:=r;cases e.symm.trans e';cases hc
  | dict d ep=>obtain ⟨_,⟨o',es,e',c',d',_⟩,_⟩:=r;rw [e] at e';cases e';rw [hd] at d';cases d'
  | inst dx=>obtain ⟨o',e',c',_,_,_,_,q,_⟩:=r;rw [e] at e';cases e';exact q _ hd
  | ns f=>obtain ⟨mm,⟨o',es,ep,e',d',_⟩,_⟩:=r;rw [e] at e';cases e';rw [hd] at d';cases d'

theorem ORel.at {S:Stat} {h h':Heap} {b:Nat} {o:AO} (R:ORel S h b o) (ge:∀ o,h.get? b=some o->h'.get? b=some o) (lk:zN h h'):ORel S h' b o:=by
 cases o with
 | list l=>obtain ⟨items,k,hl,hz,r⟩:=R;exact ⟨items,k,ge _ hl,hz,r.mono lk⟩
 | dict d ep=>obtain ⟨kvs,⟨o',es,e',z⟩,hz,r⟩:=R;exact ⟨kvs,⟨o',es,ge _ e',z⟩,hz,r.mono lk⟩
 | inst dx=>obtain ⟨o',e',z⟩:=R;exact ⟨o',ge _ e',z⟩
 | ns f=>obtain ⟨mm,⟨o',es,ep,e',z⟩,r⟩:=R;exact ⟨mm,⟨o',es,ep,ge _ e',z⟩,r.mono lk⟩
theorem ORel.there {S:Stat} {h:Heap} {b:Nat} {o:AO} (R:ORel S h b o):∃ ob,h.get? b=some ob:=by
 cases o with
 | list l=>obtain ⟨items,k,e,_⟩:=R;exact ⟨_,e⟩
 | dict d ep=>obtain ⟨kvs,⟨o',es,e',z⟩,hz,r⟩:=R;exact ⟨o',e'⟩
 | inst dx=>obtain ⟨o',e',z⟩:=R;exact ⟨o',e'⟩
 | ns f=>obtain ⟨mm,⟨o',es,ep,e',z⟩,r⟩:=R;exact ⟨o',e'⟩
theorem HRel.fresh {S:Stat} {H:AH} {h:Heap} (R:HRel S H h) {b:Nat} (e:h.get? b=.none):H b=.none:=by
 cases q:H b with
 | none=>rfl
 | some ao=>obtain ⟨ob,z⟩:=(R b ao q).there;rw [e] at z;cases z

theorem HRel.free {S:Stat} {H:AH} {h:Heap} (R:HRel S H h) {b:Nat} {o:Obj} (e:h.get? b=some o) (l:Leant o):H b=.none:=by
 cases q:H b with
 | none=>rfl
 | some ao=>exact absurd l ((R b ao q).notLeant e)
theorem Leant.noDict {o:Obj} (l:Leant o):∀ es ep,o.data≠.dict es ep:=by
 intro es ep q
 rcases l with ⟨_,vs,n,hd⟩ | ⟨_,vs,hd⟩<;>rw [hd] at q<;>cases q

noncomputable def xM (D:List Nat) (h:Heap):Prop:=∀ b∈D,∀ o,h.get? b=some o->¬ Leant o
theorem Ext.leant {S:Stat} {D:List Nat} {h h':Heap} {H H':AH} (x:Ext D h H h' H') (R:HRel S H h) (hD:xM D h):zN h h':=λ b o e l=>by
 refine ex1 (x.kept b o e (R.free e l) λ q=>hD b q o e l) λ o' hx_=>an2 hx_ λ e' k=>?_;clear hx_
 rw [k.eq l.noDict] at e';exact e'


noncomputable def z9 (env:Env):List Nat:=env.locals::env.cells.map (·.2)

structure EnvOk (env:Env) (vt:List (Str×Nat)):Prop where
 kind:env.scope.kind=.function
 globals:env.globals=mainGlobals
 builtins:env.builtins=builtinsNs
 vars:∀ x i,vt.lookup x=some i->(x == ("__debug__":Str))=false/\(env.kindOf x=some .local\/((env.kindOf x=some .cell\/(env.kindOf x=some .free/\(x == ("__classdict__":Str))=false))/\∃ c,env.cells.lookup x=some c))
 inj:∀ x y i,vt.lookup x=some i->vt.lookup y=some i->x=y
 apart:∀ n n' c,(n,c)∈env.cells->(n',c)∈env.cells->n=n'
 locs:∀ n c,(n,c)∈env.cells->c≠env.locals

noncomputable def VarAt (env:Env) (h:Heap) (x:Str) (v:Value):Prop:=
 (env.kindOf x=some .local/\∃ mm,h.Ns env.locals mm/\mm x=some v)\/
 ((env.kindOf x=some .cell\/env.kindOf x=some .free)/\∃ c,env.cells.lookup x=some c/\h.IsCell c (some v))

structure SimG (S:Stat) (H:AH) (s:Shared):Prop where
 ok:tw S
 stays:∀ b o,S.base.get? b=some o->s.heap.get? b=some o
 apart:∀ b o,S.base.get? b=some o->H b=.none
 hrel:HRel S H s.heap
 gens:s.gens=#[]

structure Sim (S:Stat) (env:Env) (vt:List (Str×Nat)) (m:Loc) (H:AH) (s:Shared):Prop extends SimG S H s where
 own:∀ b∈z9 env,S.base.get? b=.none/\H b=.none
 loc:∃ mm,s.heap.Ns env.locals mm
 cells:∀ n c,(n,c)∈env.cells->∃ cv,s.heap.IsCell c cv
 vars:∀ x i av,vt.lookup x=some i->m[i]?=some (some av)->∃ v,VarAt env s.heap x v/\VRel S s.heap av v

structure Go (S:Stat) (D:List Nat) (s:Shared) (H:AH) (s':Shared) (H':AH):Prop where
 ext:Ext D s.heap H s'.heap H'
 base:∀ b o,S.base.get? b=some o->s'.heap.get? b=some o
 rel:HRel S H' s'.heap
 gens:s'.gens=s.gens
 os:s'.os=s.os

theorem Go.trans {S:Stat} {D:List Nat} {s s' s'':Shared} {H H' H'':AH} (x:Go S D s H s' H') (y:Go S D s' H' s'' H''):Go S D s H s'' H'':=
 ⟨x.ext.trans y.ext,y.base,y.rel,y.gens.trans x.gens,y.os.trans x.os⟩
theorem Go.wider {S:Stat} {D D':List Nat} {s s':Shared} {H H':AH} (x:Go S D s H s' H') (k:∀ b∈D,b∈D') (hD:∀ b∈D',H' b=.none):Go S D' s H s' H':=⟨x.ext.wider k hD,x.base,x.rel,x.gens,x.os⟩
theorem Go.drop {S:Stat} {D D':List Nat} {s s':Shared} {H H':AH} (x:Go S D s H s' H') (k:∀ b∈D,b∈D'\/s.heap.get? b=.none) (k':∀ b∈D',b∈D):Go S D' s H s' H':=⟨x.ext.drop k k',x.base,x.rel,x.gens,x.os⟩
theorem SimG.refl {S:Stat} {H:AH} {s:Shared} (x:SimG S H s) (D:List Nat):Go S D s H s H:=⟨.refl D s.heap H,x.stays,x.hrel,rfl,rfl⟩

theorem SimG.go {S:Stat} {H H':AH} {s s':Shared} {D:List Nat} (x:SimG S H s) (g:Go S D s H s' H'):SimG S H' s':=
 ⟨x.ok,g.base,λ b o e=>g.ext.none (x.stays b o e) (x.apart b o e),g.rel,g.gens.trans x.gens⟩

theorem wy {h h':Heap} {L:Nat} {mm:Str->Option Value} (n:h.Ns L mm) (k:∀ o,h.get? L=some o->∃ o',h'.get? L=some o'/\KeptO o o'):h'.Ns L mm:=by
 refine ex3 (n) λ o es ep hx_=>an4 hx_ λ ho hd hk hf=>?_;clear hx_;(try clear n)
 with_reducible refine ex1 (k o ho) λ o' hx_=>an2 hx_ λ ho' q=>?_;clear hx_
 refine em3 o' es ep ⟨ho',?_,hk,hf⟩
 rcases q with rfl | ⟨_,q,_⟩
 ·exact hd
 ·exact q.trans hd
theorem wU {h h':Heap} {c:Nat} {v:Option Value} (n:h.IsCell c v) (k:∀ o,h.get? c=some o->∃ o',h'.get? c=some o'/\KeptO o o'):h'.IsCell c v:=by
 refine ex1 (n) λ o hx_=>an2 hx_ λ ho hd=>?_;clear hx_;(try clear n)
 with_reducible refine ex1 (k o ho) λ o' hx_=>an2 hx_ λ ho' q=>?_;clear hx_
 rw [q.eq (by rw [hd];intro _ _ z;cases z)] at ho'
 exact ⟨o,ho',hd⟩

theorem Sim.noLeant {S:Stat} {env:Env} {vt:List (Str×Nat)} {m:Loc} {H:AH} {s:Shared} (x:Sim S env vt m H s):xM (z9 env) s.heap:=by
 intro b hb o ho l
 rcases List.mem_cons.mp hb with rfl | hb
 ·with_reducible refine ex4 (x.loc) λ mm o' es ep hx_=>an3 hx_ λ e hd z_=>?_;clear hx_
  rw [ho] at e;cases e;exact l.noDict _ _ hd
 ·obtain ⟨⟨n,c⟩,hm,rfl⟩:=List.mem_map.mp hb
  with_reducible refine ex2 (x.cells n c hm) λ cv o' hx_=>an2 hx_ λ e hd=>?_;clear hx_
  have e':s.heap.get? c=some o':=e
  dsimp only at ho
  rw [ho] at e';cases e'
  rcases l with ⟨_,_,_,q⟩ | ⟨_,_,q⟩<;>rw [hd] at q<;>cases q

theorem Sim.go {S:Stat} {env:Env} {vt:List (Str×Nat)} {m:Loc} {H H':AH} {s s':Shared} (x:Sim S env vt m H s) (g:Go S [] s H s' H'):Sim S env vt m H' s':=by
 have lk:zN s.heap s'.heap:=g.ext.leant x.hrel (by intro b hb;cases hb)
 have own:∀ b∈z9 env,∀ o,s.heap.get? b=some o->∃ o',s'.heap.get? b=some o'/\KeptO o o':=λ b hb o e=>g.ext.kept b o e (x.own b hb).2 (by simp)
 have there:∀ b∈z9 env,∃ o,s.heap.get? b=some o:=λ b hb=>by
  rcases List.mem_cons.mp hb with rfl | hb
  ·obtain ⟨mm,o',es,ep,e,_⟩:=x.loc;exact ⟨o',e⟩
  ·obtain ⟨⟨n,c⟩,hm,rfl⟩:=List.mem_map.mp hb
   obtain ⟨cv,o',e,hd⟩:=x.cells n c hm;exact ⟨o',e⟩
 have cm:∀ n c,(n,c)∈env.cells->c∈z9 env:=λ n c hm=>List.mem_cons_of_mem _ (List.mem_map.mpr ⟨(n,c),hm,rfl⟩)
 refine ⟨⟨x.ok,g.base,λ b o e=>g.ext.none (x.stays b o e) (x.apart b o e),g.rel,g.gens.trans x.gens⟩,λ b hb=>⟨(x.own b hb).1,?_⟩,?_,λ n c hm=>?_,λ y i av hy hm=>?_⟩
 ·obtain ⟨o,e⟩:=there b hb
  exact g.ext.none e (x.own b hb).2
 ·obtain ⟨mm,hn⟩:=x.loc
  exact ⟨mm,wy hn λ o e=>own _ (.head _) o e⟩
 ·obtain ⟨cv,hc⟩:=x.cells n c hm
  exact ⟨cv,wU hc λ o e=>own c (cm n c hm) o e⟩
 ·with_reducible refine ex1 (x.vars y i av hy hm) λ v hx_=>an2 hx_ λ hv r=>?_;clear hx_
  refine ⟨v,?_,r.mono lk⟩
  rcases hv with ⟨hk,mm,hn,hv⟩ | ⟨hk,c,hc,hv⟩
  ·exact .inl ⟨hk,mm,wy hn λ o e=>own _ (.head _) o e,hv⟩
  ·exact .inr ⟨hk,c,hc,wU hv λ o e=>own c (cm y c (mem_of_lookup hc)) o e⟩

section
variable {S:Stat} {env:Env} {vt:List (Str×Nat)} {m:Loc} {H:AH} {s:Shared} {M:Model} {A:Around} {E:Value->Shared->Prop}

theorem lj (ok:EnvOk env vt) (x:Sim S env vt m H s) {n:Str} {i:Nat} {av:AV} (hn:vt.lookup n=some i) (hm:m[i]?=some (some av)) {Q:Value->Shared->Prop}
  (h:∀ v,VRel S s.heap av v->Q v s):wpAny M A (loadName env n) Q E s:=by
 with_reducible refine ex1 (x.vars n i av hn hm) λ v hx_=>an2 hx_ λ hv r=>?_;clear hx_
 rcases hv with ⟨hk,mm,hns,hv⟩ | ⟨hk,c,hc,hv⟩
 ·exact wpAny_loadName_local ok.kind hk hns hv (h v r)
 ·rcases hk with hk | hk
  ·exact wpAny_loadName_cell ok.kind hk hc hv (h v r)
  ·refine wpAny_loadName_free ok.kind hk hc hv (h v r) ?_
   rcases (ok.vars n i hn).2 with q | ⟨q | q,_⟩
   ·rw [hk] at q;cases q
   ·rw [hk] at q;cases q
   ·exact q.2

theorem lm (ok:EnvOk env vt) (x:Sim S env vt m H s) {n:Str} {i:Nat} {av:AV} {pos:Pos} (hn:vt.lookup n=some i) (hm:m[i]?=some (some av)) {Q:Value->Shared->Prop}
  (h:∀ v,VRel S s.heap av v->Q v s):wpAny M A (eval (.Name n pos) env) Q E s:=wpAny_Name (lj ok x hn hm h) (ok.vars n i hn).1

noncomputable def wz (env:Env) (D:List Nat) (n:Str):Prop:=(env.kindOf n=some .local->env.locals∈D)/\∀ c,env.kindOf n=some .cell->env.cells.lookup n=some c->c∈D

theorem xe (ok:EnvOk env vt) (x:Sim S env vt m H s) {n:Str} {i:Nat} {av:AV} {v:Value} (hn:vt.lookup n=some i) (nf:env.kindOf n≠some .free) (r:VRel S s.heap av v) {D:List Nat} (hsub:∀ b∈D,b∈z9 env) (hin:wz env D n) {Q:Unit->Shared->Prop}
  (h:∀ s',Sim S env vt (m.set i (some av)) H s'->Go S D s H s' H->Q () s'):wpAny M A (storeName env n v) Q E s:=by
 have there:∀ b∈z9 env,∃ o,s.heap.get? b=some o:=λ b hb=>by
  rcases List.mem_cons.mp hb with rfl | hb
  ·obtain ⟨mm,o',es,ep,e,_⟩:=x.loc;exact ⟨o',e⟩
  ·obtain ⟨⟨n,c⟩,hm,rfl⟩:=List.mem_map.mp hb
   obtain ⟨cv,o',e,hd⟩:=x.cells n c hm;exact ⟨o',e⟩
 have step:∀ (a:Nat) (h':Heap) (tk:Nat),a∈D->Heap.SameBut a s.heap h'->h'.get? a≠.none->
   zN s.heap h'/\Go S D s H { s with heap:=h',toks:=tk } H:=λ a h' tk haD sb ex=>by
  have ha:=hsub a haD
  have lk:zN s.heap h':=λ b o e l=>by
   by_cases q:b=a
   ·subst q;exact absurd l (x.noLeant b ha o e)
   ·exact (sb.2 b q).trans e
  have al:∀ b,b∉D->s.heap.get? b≠.none->h'.get? b≠.none:=λ b z_ hb=>by
   by_cases q:b=a
   ·subst q;exact ex
   ·rw [sb.2 b q];exact hb
  refine ⟨lk,⟨⟨λ b o e hb hD=>⟨o,(sb.2 b λ q=>hD (q▸haD)).trans e,.refl o⟩,λ z_ z=>z,λ z_ z z'=>absurd z z',al⟩,λ b o e=>?_,λ b o e=>?_,rfl,rfl⟩⟩
  ·refine (sb.2 b λ q=>?_).trans (x.stays b o e)
   have:=(x.own a ha).1;rw [<-q,e] at this;cases this
  ·have R:=x.hrel b o e
   have hba:b≠a:=λ q=>by have:=(x.own a ha).2;rw [<-q,e] at this;cases this
   have ge:∀ o,s.heap.get? b=some o->h'.get? b=some o:=λ o e=>(sb.2 b hba).trans e
   exact R.at ge lk
 have vt':∀ y j av',vt.lookup y=some j->(m.set i (some av))[j]?=some (some av')->(y=n/\av'=av)\/(y≠n/\m[j]?=some (some av')):=λ y j av' hy hm=>by
  by_cases q:j=i
  ·subst q
   refine .inl ⟨ok.inj y n j hy hn,?_⟩
   rw [List.getElem?_set_self'] at hm
   cases e:m[j]? with
   | none=>rw [e] at hm;simp at hm
   | some z=>rw [e] at hm;simp at hm;exact hm.symm
  ·refine .inr ⟨λ z=>?_,?_⟩
   ·subst z;rw [hn] at hy;exact q (Option.some.inj hy).symm
   ·rwa [List.getElem?_set_ne (Ne.symm q)] at hm
 obtain ⟨hdbg,hkind⟩:=ok.vars n i hn
 obtain ⟨mm,hns⟩:=x.loc
 rcases hkind with hl | ⟨hc,c,hcl⟩
 ·refine wpAny_storeName_local hl hns (λ h' hn' sb=>?_) (by rw [ok.kind];rfl)
  obtain ⟨lk,go⟩:=step env.locals h' (s.toks+1) (hin.1 hl) sb (by
   refine ex3 (hn') λ o' es ep hx_=>an3 hx_ λ e hd z_=>?_;clear hx_;(try clear hn')
   rw [e];simp)
  refine h _ ⟨⟨x.ok,go.base,x.apart,go.rel,x.gens⟩,x.own,⟨_,hn'⟩,λ k c hm=>?_,λ y j av' hy hm=>?_⟩ go
  ·obtain ⟨cv,hv⟩:=x.cells k c hm
   exact ⟨cv,hv.sameBut sb (ok.locs k c hm)⟩
  ·rcases vt' y j av' hy hm with ⟨rfl,rfl⟩ | ⟨hne,hm'⟩
   ·exact ⟨v,.inl ⟨hl,_,hn',by simp⟩,r.mono lk⟩
   ·with_reducible refine ex1 (x.vars y j av' hy hm') λ v' hx_=>an2 hx_ λ hv' r'=>?_;clear hx_
    refine ⟨v',?_,r'.mono lk⟩
    rcases hv' with ⟨hk,mm',hn2,hv2⟩ | ⟨hk,c,hc,hv2⟩
    ·refine .inl ⟨hk,_,hn',?_⟩
     show (if y=n then some v else mm y)=some v'
     rw [if_neg hne]
     refine ex3 (hns) λ o1 es1 ep1 hx_=>an4 hx_ λ e1 d1 z_ f1=>?_;clear hx_;(try clear hns)
     refine ex3 (hn2) λ o2 es2 ep2 hx_=>an4 hx_ λ e2 d2 z_ f2=>?_;clear hx_;(try clear hn2)
     rw [e1] at e2;cases e2;rw [d1] at d2;cases d2
     rw [<-f1 y,f2 y];exact hv2
    ·exact .inr ⟨hk,c,hc,hv2.sameBut sb (ok.locs y c (mem_of_lookup hc))⟩
 ·have hcell:env.kindOf n=some .cell:=by
   rcases hc with q | q
   ·exact q
   ·exact absurd q.1 nf
  have hmem:=mem_of_lookup hcl
  obtain ⟨cv,hcv⟩:=x.cells n c hmem
  refine wpAny_storeName_cell ok.kind hcell hcl hcv λ h' hc' sb=>?_
  have hown:c∈z9 env:=List.mem_cons_of_mem _ (List.mem_map.mpr ⟨(n,c),hmem,rfl⟩)
  obtain ⟨lk,go⟩:=step c h' s.toks (hin.2 c hcell hcl) sb (by
   refine ex1 (hc') λ o' hx_=>an2 hx_ λ e hd=>?_;clear hx_;(try clear hc')
   rw [e];simp)
  have other:∀ k c',(k,c')∈env.cells->k≠n->c'≠c:=λ k c' hm hk e=>hk (ok.apart k n c' hm (e▸hmem))
  refine h _ ⟨⟨x.ok,go.base,x.apart,go.rel,x.gens⟩,x.own,⟨mm,hns.sameBut sb (Ne.symm (ok.locs n c hmem))⟩,λ k c' hm=>?_,λ y j av' hy hm=>?_⟩ go
  ·by_cases q:c'=c
   ·subst q;exact ⟨_,hc'⟩
   ·obtain ⟨cv',hv'⟩:=x.cells k c' hm
    exact ⟨cv',hv'.sameBut sb q⟩
  ·rcases vt' y j av' hy hm with ⟨rfl,rfl⟩ | ⟨hne,hm'⟩
   ·exact ⟨v,.inr ⟨.inl hcell,c,hcl,hc'⟩,r.mono lk⟩
   ·with_reducible refine ex1 (x.vars y j av' hy hm') λ v' hx_=>an2 hx_ λ hv' r'=>?_;clear hx_
    refine ⟨v',?_,r'.mono lk⟩
    rcases hv' with ⟨hk,mm',hn2,hv2⟩ | ⟨hk,c',hc2,hv2⟩
    ·exact .inl ⟨hk,mm',hn2.sameBut sb (Ne.symm (ok.locs n c hmem)),hv2⟩
    ·exact .inr ⟨hk,c',hc2,hv2.sameBut sb (other y c' (mem_of_lookup hc2) hne)⟩

theorem SimG.keeps (x:SimG S H s) {h':Heap} (hk:∀ b o,s.heap.get? b=some o->h'.get? b=some o) (tk:Nat):Go S [] s H { s with heap:=h',toks:=tk } H:=
 ⟨⟨λ b o e z_ z_=>⟨o,hk b o e,.refl o⟩,λ z_ z=>z,λ z_ z z'=>absurd z z',λ b z_ hb=>by
  cases e:s.heap.get? b with
  | none=>exact absurd e hb
  | some o=>rw [hk b o e];simp⟩,λ b o e=>hk b o (x.stays b o e),λ b o e=>(x.hrel b o e).at (hk b) λ b o e z_=>hk b o e,rfl,rfl⟩
set_option tactic.hygienic true in
theorem SimG.new (x:SimG S H s) {h':Heap} {a:Nat} {ao:AO} (hk:∀ b o,s.heap.get? b=some o->h'.get? b=some o) (ha:s.heap.get? a=.none) (r:ORel S h' a ao) (tk:Nat) :
  Go S [] s H { s with heap:=h',toks:=tk } (H.set a ao):=by
 have g:=x.keeps hk tk
 refine ⟨⟨λ b o e hb hD=>g.ext.kept b o e hb hD,λ b z=>?_,λ b z z'=>?_,g.ext.alive⟩,g.base,λ b o e=>?_,rfl,rfl⟩
 ·unfold AH.set;split
  ·simp
  ·exact z
 ·unfold AH.set at z';split at z'
  ·rename_i q;rw [q];exact ⟨ha,by simp⟩
  ·exact absurd z z'
 ·unfold AH.set at e;split at e
  ·rename_i q;cases e;rw [q];exact r
  ·exact g.rel b o e
set_option tactic.hygienic true in
theorem SimG.upd (x:SimG S H s) {h':Heap} {a:Nat} {ao ao':AO} (sb:Heap.SameBut a s.heap h') (ha:H a=some ao) (r:zN s.heap h'->ORel S h' a ao') (tk:Nat) :
  Go S [] s H { s with heap:=h',toks:=tk } (H.set a ao'):=by
 have lk:zN s.heap h':=λ b o e l=>by
  by_cases q:b=a
  ·subst q;exact absurd l ((x.hrel b ao ha).notLeant e)
  ·exact (sb.2 b q).trans e
 have r:=r lk
 refine ⟨⟨λ b o e hb hD=>⟨o,(sb.2 b λ q=>by rw [q,ha] at hb;cases hb).trans e,.refl o⟩,λ b z=>?_,λ b z z'=>?_,λ b _ hb=>?_⟩,λ b o e=>?_,λ b o e=>?_,rfl,rfl⟩
 ·unfold AH.set;split
  ·simp
  ·exact z
 ·unfold AH.set at z';split at z'
  ·rename_i q;rw [q,ha] at z;cases z
  ·exact absurd z z'
 ·by_cases q:b=a
  ·subst q;obtain ⟨ob,e⟩:=r.there;show h'.get? b≠_;rw [e];simp
  ·show h'.get? b≠_;rw [sb.2 b q];exact hb
 ·refine (sb.2 b λ q=>?_).trans (x.stays b o e)
  have:=x.apart b o e;rw [q,ha] at this;cases this
 ·unfold AH.set at e;split at e
  ·rename_i q;cases e;rw [q];exact r
  ·rename_i q
   exact (x.hrel b o e).at (λ o e=>(sb.2 b q).trans e) lk
theorem SimG.notSys (x:SimG S H s) {a:Nat} {o:AO} (e:H a=some o):(a == sysModules)=false:=by
 cases q:a == sysModules with
 | false=>rfl
 | true=>
  obtain ⟨ob,z⟩:=x.ok.sys
  have z':=x.apart _ _ z
  rw [<-beq_iff_eq.mp q,e] at z';cases z'
theorem zU (h:Heap) (o:Obj):∀ b o',h.get? b=some o'->(h.push o).get? b=some o':=λ z_ z_ e=>Heap.get?_push_of_some _ e
theorem get?_size (h:Heap):h.get? h.objs.size=.none:=get?_none_of_ge (Nat.le_refl _)
end



structure CxOk (cx:Cx) (env:Env):Prop extends EnvOk env cx.vt where
 names:∀ x,cx.sc.lookup x=some .globalImplicit->env.kindOf x=some .globalImplicit
 kinds:∀ x,cx.sc.lookup x=some .cell\/cx.sc.lookup x=some .free->env.kindOf x=some .cell\/env.kindOf x=some .free
 stores:∀ x,cx.sc.lookup x=some .local\/cx.sc.lookup x=some .cell->env.kindOf x≠some .free

noncomputable def Room (A:Around) (n:Nat):Prop:=A.depth+20 * n < 700/\A.units+200 * n+200 < 9900
noncomputable def tH (A:Around) (n:Nat):Prop:=A.depth+20 * n < 710/\A.units+200 * n+150 < 9900

noncomputable abbrev FlyT:=Around->Env->Nat->Heap->Value->Shared->Prop
noncomputable def FlyAt (Fly:FlyT) (A:Around) (env:Env) (c:Nat) (s:Shared) (e:Value) (s':Shared):Prop:=∃ b7:Heap,(∀ b,s.heap.get? b≠.none->b7.get? b≠.none)/\Fly A env c b7 e s'
theorem FlyAt.back {S:Stat} {Fly:FlyT} {A:Around} {env:Env} {c:Nat} {s aB:Shared} {e:Value} {s':Shared} {H aD:AH} (f:FlyAt Fly A env c aB e s') (g:Go S [] s H aB aD):FlyAt Fly A env c s e s':=by
 refine ex1 (f) λ b7 hx_=>an2 hx_ λ k x=>?_;clear hx_;(try clear f)
 exact ⟨b7,λ b hb=>k b (g.ext.alive b (by simp) hb),x⟩

section
variable (S:Stat) (C:Calls) (n:Nat) (Fly:FlyT) (cx:Cx)

noncomputable def SE (e:Expr) (ie:IE):Prop:=
 ∀ (env:Env) (A:Around) (X:Nat->AH->Prop) (m:Loc) (H:AH) (s:Shared) (Q:AV->AH->Prop) (Q':Value->Shared->Prop) (E':Value->Shared->Prop),
  CxOk cx env->Room A n->(cx.q=true->A.handled=.none)->Sim S env cx.vt m H s->
  (∀ c e s' H',Go S [] s H s' H'->X c H'->FlyAt Fly A env c s e s'->E' e s')->
  (∀ v av s' H',Go S [] s H s' H'->VRel S s'.heap av v->Q av H'->Q' v s')->
  WE C X ie m H Q->wpAny (model S.prog S.w) A (eval e env) Q' E' s

noncomputable def SEs (es:List Expr) (ies:IEs):Prop:=
 ∀ (env:Env) (A:Around) (X:Nat->AH->Prop) (m:Loc) (H:AH) (s:Shared) (Q:List AV->AH->Prop) (Q':List Value->Shared->Prop) (E':Value->Shared->Prop) (pos:Pos),
  CxOk cx env->Room A n->(cx.q=true->A.handled=.none)->Sim S env cx.vt m H s->
  (∀ c e s' H',Go S [] s H s' H'->X c H'->FlyAt Fly A env c s e s'->E' e s')->
  (∀ vs avs s' H',Go S [] s H s' H'->VRels S s'.heap avs vs->vs.length=es.length->Q avs H'->Q' vs s')->
  WEs C X ies m H Q->wpAny (model S.prog S.w) A (spliced (backTo pos (starEach es env))) Q' E' s
end

section
variable {S:Stat} {C:Calls} {n:Nat} {Fly:FlyT} {cx:Cx}

theorem VRel.go {S:Stat} {s s':Shared} {H H':AH} {a:AV} {v:Value} (r:VRel S s.heap a v) (x:SimG S H s) (g:Go S [] s H s' H'):VRel S s'.heap a v:=
 r.mono (g.ext.leant x.hrel (by intro b hb;cases hb))
theorem VRels.go {S:Stat} {s s':Shared} {H H':AH} {a:List AV} {v:List Value} (r:VRels S s.heap a v) (x:SimG S H s) (g:Go S [] s H s' H'):VRels S s'.heap a v:=
 r.mono (g.ext.leant x.hrel (by intro b hb;cases hb))
theorem SimG.tok {S:Stat} {H:AH} {s:Shared} (x:SimG S H s) (tk:Nat):Go S [] s H { s with toks:=tk } H:=x.keeps (h':=s.heap) (λ z_ z_ e=>e) tk

theorem se_cn {k:Nat} {pos:Pos}:SE S C n Fly cx (.Constant .none k pos) .cn:=λ z_ z_ z_ z_ z_ z_ z_ z_ z_ z_ z_ z_ x z_ hQ w=>wpAny_Constant_none (hQ _ _ _ _ (x.refl []) .none w)
theorem se_cb {b:Bool} {k:Nat} {pos:Pos}:SE S C n Fly cx (.Constant (.bool b) k pos) (.cb b):=λ z_ z_ z_ z_ z_ z_ z_ z_ z_ z_ z_ z_ x z_ hQ w=>wpAny_Constant_bool (hQ _ _ _ _ (x.refl []) (.bool b) w)
theorem se_ci {i:Int} {k:Nat} {pos:Pos}:SE S C n Fly cx (.Constant (.int i) k pos) (.ci i):=λ z_ z_ z_ z_ z_ z_ z_ z_ z_ z_ z_ z_ x z_ hQ w=>wpAny_Constant_int (hQ _ _ _ _ (x.tok _) (.int i _) w)
theorem fv {i:Str} {k:Nat} {pos:Pos} (ok:PyData.strOk i=true):SE S C n Fly cx (.Constant (.str i) k pos) (.cs i):=λ z_ z_ z_ z_ z_ z_ z_ z_ z_ z_ z_ z_ x z_ hQ w=>wpAny_Constant_str (hQ _ _ _ _ (x.tok _) (.str i _ ok) w)

set_option tactic.hygienic true in
theorem fy {x:Str} {pos:Pos} {i:Nat} (hx:cx.vt.lookup x=some i):SE S C n Fly cx (.Name x pos) (.var i):=λ env A X m H s Q Q' E' ok _ _ sim _ hQ w=>by
 conv at w=>whnf
 split at w
 ·rename_i av hm
  exact lm ok.toEnvOk sim hx hm λ v r=>hQ v av s H (sim.refl []) r w
 ·exact w.elim

theorem gL:SEs S C n Fly cx [] .nil:=λ z_ z_ z_ z_ z_ z_ z_ z_ z_ z_ z_ z_ z_ x z_ hQ w=>Calls.spliced_nil (hQ _ _ _ _ (x.refl []) .nil rfl w)
theorem lr {e:Expr} {r:List Expr} {ie:IE} {ir:IEs} (he:SE S C n Fly cx e ie) (hr:SEs S C n Fly cx r ir) (hs:∀ env,starEach (e::r) env=(false,eval e env)::starEach r env):SEs S C n Fly cx (e::r) (.cons ie ir):=
 λ env A X m H s Q Q' E' pos ok room hd sim hX hQ w=>by
  refine args_cons ?_ (hs env)
  refine he env A X m H s _ _ E' ok room hd sim hX (λ v av aB aD aA aF aC=>?_) w
  refine hr env A X m aD aB _ _ E' pos ok room hd (sim.go aA) (λ c e s' H' g x f=>hX c e s' H' (aA.trans g) x (f.back aA)) (λ vs avs aH aM aE aL c9 aI=>?_) aC
  exact hQ _ _ _ _ (aA.trans aE) (.cons (aF.go (sim.go aA).toSimG aE) aL) (by simp [c9]) aI

theorem qO {l r:Expr} {a b:IE} (ha:SE S C n Fly cx l a) (hb:SE S C n Fly cx r b) {env:Env} {A:Around} {X:Nat->AH->Prop} {m:Loc} {H:AH} {s:Shared} {Q:AV->AV->AH->Prop} {Q':Value->Value->Shared->Prop} {E':Value->Shared->Prop}
  (ok:CxOk cx env) (room:Room A n) (hd:cx.q=true->A.handled=.none) (sim:Sim S env cx.vt m H s)
  (hX:∀ c e s' H',Go S [] s H s' H'->X c H'->FlyAt Fly A env c s e s'->E' e s')
  (hQ:∀ v u av au s' H',Go S [] s H s' H'->VRel S s'.heap av v->VRel S s'.heap au u->Q av au H'->Q' v u s')
  (w:WE C X a m H λ x H=>WE C X b m H λ y H=>Q x y H) :
  wpAny (model S.prog S.w) A (eval l env) (λ v aB=>wpAny (model S.prog S.w) A (eval r env) (λ u aH=>Q' v u aH) E' aB) E' s:=by
 refine ha env A X m H s _ _ E' ok room hd sim hX (λ v av aB aD aA aF aC=>?_) w
 refine hb env A X m aD aB _ _ E' ok room hd (sim.go aA) (λ c e s' H' g x f=>hX c e s' H' (aA.trans g) x (f.back aA)) (λ u au aH aM aE aL aI=>?_) aC
 exact hQ _ _ _ _ _ _ (aA.trans aE) (aF.go (sim.go aA).toSimG aE) aL aI

theorem zZ {k:Nat} (h:k<=lid):k<=sizeLine:=by rw [sizeLine_eq];unfold lid at h;lia

theorem v7 {H:AH} {s:Shared} (x:SimG S H s) {l:List AV} {vs:List Value} (r:VRels S s.heap l vs) (hz:vs.length<=lid) :
  Go S [] s H { s with heap:=s.heap.push { cls:=.type "list",data:=.seq vs.toArray } } (H.set s.heap.objs.size (.list l)):=
 x.new (h':=s.heap.push _) (ao:=.list l) (zU _ _) (get?_size _) ⟨vs.toArray,0,Heap.get?_push_size _ rfl,by simpa using hz,r.mono λ b o e z_=>zU _ _ b o e⟩ s.toks

theorem VRels.length {S:Stat} {h:Heap} {l:List AV} {vs:List Value} (r:VRels S h l vs):l.length=vs.length:=
 r.ind (M:=λ l vs=>l.length=vs.length) rfl λ z_ z_ e=>congrArg (·+1) e

theorem yL {H:AH} {s:Shared} (x:SimG S H s) {l:List AV} {Q:AV->AH->Prop} (w:newL l H Q):Q (.ref s.heap.objs.size) (H.set s.heap.objs.size (.list l)):=
 w _ (x.hrel.fresh (get?_size _))

theorem gM {es:List Expr} {ies:IEs} {pos:Pos} (he:SEs S C n Fly cx es ies) (hl:es.length<=1000):SE S C n Fly cx (.List es pos) (.list ies):=λ env A X m H s Q Q' E' ok room hd sim hX hQ w=>by
 conv at w=>whnf
 refine wpAny_List (he env A X m H s _ _ E' pos ok room hd sim hX (λ vs avs aB aD aA aF bT aC=>?_) w)
 have hz:vs.length<=lid:=by unfold lid;lia
 exact ⟨zZ hz,hQ _ _ _ _ (aA.trans (v7 (sim.go aA).toSimG aF hz)) (.ref _) (yL (sim.go aA).toSimG aC)⟩

theorem sw {H:AH} {s:Shared} (x:SimG S H s) {l:List AV} {vs:List Value} (r:VRels S s.heap l vs) (hz:vs.length<=lid) :
  Go S [] s H { s with heap:=s.heap.push { cls:=.type "tuple",data:=.seq vs.toArray } } H/\VRel S (s.heap.push { cls:=.type "tuple",data:=.seq vs.toArray }) (.tup l) (.ref s.heap.objs.size):=
 ⟨x.keeps (h':=s.heap.push _) (zU _ _) s.toks,.tup (items:=vs.toArray) (k:=0) (Heap.get?_push_size _ rfl) (by simpa using hz) (r.mono λ b o e z_=>zU _ _ b o e)⟩

theorem eC {es:List Expr} {ies:IEs} {k:Nat} {pos:Pos} (he:SEs S C n Fly cx es ies) (hl:es.length<=1000):SE S C n Fly cx (.Tuple es k pos) (.tup ies):=λ env A X m H s Q Q' E' ok room hd sim hX hQ w=>by
 conv at w=>whnf
 refine wpAny_Tuple (he env A X m H s _ _ E' pos ok room hd sim hX (λ vs avs aB aD aA aF bT aC=>?_) w)
 have hz:vs.length<=lid:=by unfold lid;lia
 have q:=sw (sim.go aA).toSimG aF hz
 exact ⟨zZ hz,hQ _ _ _ _ (aA.trans q.1) q.2 aC⟩

theorem gN {pos:Pos}:SE S C n Fly cx (.Dict [] [] pos) .dict:=λ env A X m H s Q Q' E' ok room hd sim hX hQ w=>by
 conv at w=>whnf
 refine wpAny_Dict_empty (hQ _ (.ref _) _ (H.set s.heap.objs.size (.dict [] 0)) (sim.toSimG.new (h':=s.heap.push _) (ao:=.dict [] 0) (zU _ _) (get?_size _) ?_ s.toks) (.ref _) (w _ 0 (sim.hrel.fresh (get?_size _))))
 exact ⟨[],⟨_,#[],Heap.get?_push_size _ rfl,⟨rfl,rfl,rfl⟩,rfl,λ z_ he=>by simp at he,.nil,List.nodup_nil⟩,by simp [lid],.nil⟩

theorem eE {e:Expr} {ie:IE} {pos:Pos} (he:SE S C n Fly cx e ie):SE S C n Fly cx (.UnaryOp .USub e pos) (.neg ie):=λ env A X m H s Q Q' E' ok room hd sim hX hQ w=>by
 conv at w=>whnf
 refine wpAny_UnaryOp (he env A X m H s _ _ E' ok room hd sim hX (λ v av aB aD aA aF aC=>?_) w)
 cases av with
 | int i=>
  obtain ⟨_,rfl⟩:=aF.inv
  exact neg_int (hQ _ _ _ _ (aA.trans ((sim.go aA).tok _)) (.int _ _) aC)
 | _=>exact aC.elim
theorem eF {e:Expr} {ie:IE} {pos:Pos} (he:SE S C n Fly cx e ie):SE S C n Fly cx (.UnaryOp .Not e pos) (.not ie):=λ env A X m H s Q Q' E' ok room hd sim hX hQ w=>by
 conv at w=>whnf
 refine wpAny_UnaryOp (he env A X m H s _ _ E' ok room hd sim hX (λ v av aB aD aA aF aC=>?_) w)
 cases av with
 | bool b=>
  obtain rfl:=aF.inv
  exact not_of (wpAny_truthy_bool (hQ _ _ _ _ aA (.bool _) aC))
 | _=>exact aC.elim
end


section
variable {S:Stat} {h:Heap}
theorem wV {v:Value} {d e:PyData} {as:List Nat} (r:Reads h v d as) (c:d.canLay0=true) (q:some d=some e):∃ as,Reads h v e as/\e.canLay0=true:=by
 cases q;exact ⟨as,r,c⟩
noncomputable def RdP (S:Stat) (h:Heap) (a:AV) (v:Value):Prop:=∀ d,a.data=some d->∃ as,Reads h v d as/\d.canLay0=true
noncomputable def RdsP (S:Stat) (h:Heap) (l:List AV) (vs:List Value):Prop:=∀ ds,AV.data.go l=some ds->∃ as,ReadsAll h vs ds as/\PyData.canLayAll0 ds=true
theorem qP {a:AV} {v:Value} {l:List AV} {vs:List Value} (x:RdP S h a v) (r:RdsP S h l vs):RdsP S h (a::l) (v::vs):=by
 intro ds e
 simp only [AV.data.go] at e
 cases q:a.data with
 | none=>rw [q] at e;cases e
 | some d=>
  cases q':AV.data.go l with
  | none=>rw [q,q'] at e;cases e
  | some ds=>
   rw [q,q'] at e;cases e
   obtain ⟨as,ra,hc⟩:=x d q
   obtain ⟨bs,rb,hc'⟩:=r ds q'
   exact ⟨_,.cons ra rb,by rw [PyData.canLayAll0,hc,hc'];rfl⟩
theorem ot:RdsP S h [] []:=λ ds e=>by
 have e:some []=some ds:=e
 cases e;exact ⟨_,.nil,rfl⟩
theorem VRel.rd {a:AV} {v:Value} (x:VRel S h a v):RdP S h a v:=
 VRel.rec (motive_1:=λ a v z_=>RdP S h a v) (motive_2:=λ l vs z_=>RdsP S h l vs) (λ z_ e=>wV .none rfl e) (λ b z_ e=>wV (.bool b) rfl e) (λ i t z_ e=>wV (.int i t) rfl e) (λ x t q z_ e=>wV (.str x t) q e) (λ z_ z_ e=>nomatch e)
  (λ ho z_ z_ r z_ e=>by
   obtain ⟨ds,q,e⟩:=Option.map_eq_some_iff.mp e
   obtain ⟨as,ra,hc⟩:=r ds q
   exact wV (.tuple ho rfl rfl ra) (by rw [PyData.canLay0];exact hc) (congrArg some e))
  (λ z_ z_ z_ z_ z_ e=>nomatch e) (λ z_ z_ z_ z_ z_ e=>nomatch e) ot (λ z_ z_ x r=>qP x r) x
theorem VRel.reads {a:AV} {v:Value} {d:PyData} (x:VRel S h a v) (e:a.data=some d):∃ as,Reads h v d as/\d.canLay0=true:=x.rd d e
theorem VRels.reads {l:List AV} {vs:List Value} {ds:List PyData} (x:VRels S h l vs) (e:AV.data.go l=some ds):∃ as,ReadsAll h vs ds as/\PyData.canLayAll0 ds=true:=
 x.ind (M:=RdsP S h) ot (λ x z_ r=>qP x.rd r) ds e

set_option tactic.hygienic true in
theorem xN {H:AH} (R:HRel S H h) {a:AV} {v:Value} {d:PyData} (r:VRel S h a v) (e:data1 H a=some d):∃ as,Reads h v d as/\d.canLay0=true:=by
 unfold data1 at e
 split at e
 ·rename_i x
  split at e
  ·rename_i l hl
   obtain ⟨ds,q,rfl⟩:=Option.map_eq_some_iff.mp e
   obtain ⟨items,k,ho,_,rs⟩:=R _ _ hl
   obtain ⟨as,ra,hc⟩:=rs.reads q
   obtain rfl:=r.inv
   exact ⟨_,.list ho rfl rfl ra,by rw [PyData.canLay0];exact hc⟩
  ·cases e
 ·exact r.reads e
set_option tactic.hygienic true in
theorem sx {H:AH} (R:HRel S H h) {l:List AV} {vs:List Value} {ds:List PyData} (r:VRels S h l vs) (e:qz H l=some ds):∃ as,ReadsAll h vs ds as/\PyData.canLayAll0 ds=true:=
 r.ind (M:=λ l vs=>∀ ds,qz H l=some ds->∃ as,ReadsAll h vs ds as/\PyData.canLayAll0 ds=true) (λ ds e=>by
  have e:some []=some ds:=e
  cases e;exact ⟨_,.nil,rfl⟩) (λ x _ ih ds e=>by
  unfold qz at e
  split at e
  ·rename_i d ds' q q'
   cases e
   obtain ⟨as,ra,hc⟩:=xN R x q
   obtain ⟨bs,rb,hc'⟩:=ih _ q'
   exact ⟨_,.cons ra rb,by rw [PyData.canLayAll0,hc,hc'];rfl⟩
  ·cases e) ds e
theorem ym {H:AH} (R:HRel S H h) {a:AV} {v:Value} {d:PyData} (r:VRel S h a v) (e:zq H a=some d):∃ as,Reads h v d as/\d.canLay0=true:=by
 unfold zq at e
 split at e
 ·obtain ⟨ds,q,rfl⟩:=Option.map_eq_some_iff.mp e
  obtain ⟨b,items,k,rfl,ho,_,rs⟩:=r.inv
  obtain ⟨as,ra,hc⟩:=sx R rs q
  exact ⟨_,.tuple ho rfl rfl ra,by rw [PyData.canLay0];exact hc⟩
 ·exact xN R r e
end

section
variable {S:Stat} {C:Calls} {n:Nat} {Fly:FlyT} {cx:Cx}

theorem VRels.append {S:Stat} {h:Heap} {l k:List AV} {vs us:List Value} (r:VRels S h l vs) (y:VRels S h k us):VRels S h (l++k) (vs++us):=
 r.ind (M:=λ l vs=>VRels S h (l++k) (vs++us)) y λ x z_ z=>.cons x z
theorem VRels.get {S:Stat} {h:Heap} {l:List AV} {vs:List Value} (r:VRels S h l vs) {i:Nat} {a:AV} (e:l[i]?=some a):∃ v,vs[i]?=some v/\VRel S h a v:=
 r.ind (M:=λ l vs=>∀ i,l[i]?=some a->∃ v,vs[i]?=some v/\VRel S h a v) (λ i e=>by rw [List.getElem?_nil] at e;cases e) (λ x z_ ih i e=>by
  cases i with
  | zero=>cases e;exact ⟨_,rfl,x⟩
  | succ i=>exact ih i e) i e
theorem VRels.replicate {S:Stat} {h:Heap} {a:AV} {v:Value} (r:VRel S h a v) (k:Nat):VRels S h (List.replicate k a) (List.replicate k v):=by
 induction k with
 | zero=>
  exact .nil
 | succ k ih_=>
  exact .cons r (ih_)

theorem mulOk {x y:Int} (h:x.natAbs < 2 ^ 60\/y.natAbs < 2 ^ 60):IntMulOk x y:=by
 rcases h with h | h
 ·exact .of_left (intBits_le_64 (by omega) (by omega))
 ·exact .of_right (intBits_le_64 (by omega) (by omega))

theorem wW {a b:AV} {K:Int->Int->Prop} (w:oR a b K):∃ x y,a=.int x/\b=.int y/\K x y:=by
 cases a with
 | int x=>
  cases b with
  | int y=>exact ⟨x,y,rfl,rfl,w⟩
  | _=>exact False.elim w
 | _=>exact False.elim w
theorem gO {A:Around} {H:AH} {s:Shared} (x:SimG S H s) {ba bb ka kb:Nat} {ita itb:Array Value} {lx ly:List AV} (ia:IsT s.heap ba ita ka) (ib:IsT s.heap bb itb kb) (za:ita.size<=lid) (zb:itb.size<=lid) (ra:VRels S s.heap lx ita.toList) (rb:VRels S s.heap ly itb.toList) {Q:AV->AH->Prop} {Q':Value->Shared->Prop} {E':Value->Shared->Prop}
  (hQ:∀ v av s' H',Go S [] s H s' H'->VRel S s'.heap av v->Q av H'->Q' v s') (w:lx.length+ly.length<=lid/\Q (.tup (lx++ly)) H):wpAny (model S.prog S.w) A (binaryOp .Add (.ref ba) (.ref bb)) Q' E' s:=by
 by_cases e1:ita.isEmpty=true
 ·have:lx=[]:=by have:=ra.length;simp [Array.isEmpty_iff.mp e1] at this;exact this
  subst this
  refine concat_meets ⟨_,ia,rfl⟩ ⟨_,ib,rfl⟩ noFill_tuple_add seq_tuple_add F.slot_tuple_add F.entry_tuple_add (F.args_tuple_add_2 _ _) (AutoSeq1.tuple___add___tuple_tuple_0 _ _ _ _ _ _ e1) ⟨ia,ib,?_⟩
  exact hQ _ _ _ _ (x.tok _) (.tup ib zb rb) (by simpa using w.2)
 ·by_cases e2:itb.isEmpty=true
  ·have:ly=[]:=by have:=rb.length;simp [Array.isEmpty_iff.mp e2] at this;exact this
   subst this
   refine concat_meets ⟨_,ia,rfl⟩ ⟨_,ib,rfl⟩ noFill_tuple_add seq_tuple_add F.slot_tuple_add F.entry_tuple_add (F.args_tuple_add_2 _ _) (AutoSeq1.tuple___add___tuple_tuple_1 _ _ _ _ _ _ e1 e2) ⟨ia,ib,?_⟩
   exact hQ _ _ _ _ (x.tok _) (.tup ia za ra) (by simpa using w.2)
  ·have hz:ita.size+itb.size<=lid:=by have h1:=ra.length;have h2:=rb.length;simp at h1 h2;lia
   refine PySem.P.add_tuple ia ib e1 e2 ?_ (zZ hz)
   have q:=sw x (ra.append rb) (by simpa using hz)
   have e:(ita.toList++itb.toList).toArray=ita++itb:=by simp
   rw [e] at q
   exact hQ _ _ _ _ q.1 q.2 w.2
theorem lv {A:Around} {H:AH} {s:Shared} (x:SimG S H s) {a b:Nat} {Q:AV->AH->Prop} {Q':Value->Shared->Prop} {E':Value->Shared->Prop}
  (hQ:∀ v av s' H',Go S [] s H s' H'->VRel S s'.heap av v->Q av H'->Q' v s') (w:wAdd (.ref a) (.ref b) H Q):wpAny (model S.prog S.w) A (binaryOp .Add (.ref a) (.ref b)) Q' E' s:=by
 have w:(match H a with
  | some (.list l)=>match H b with
   | some (.list k)=>l.length+k.length<=lid/\newL (l++k) H Q
   | _=>False
  | _=>False):=w
 cases hl:H a with
 | none=>rw [hl] at w;exact False.elim w
 | some o=>
  rw [hl] at w
  cases o with
  | list l=>
   cases hk:H b with
   | none=>rw [hk] at w;exact False.elim w
   | some o=>
    rw [hk] at w
    cases o with
    | list k=>
     obtain ⟨ia,ka,oa,za,ra⟩:=x.hrel _ _ hl
     obtain ⟨ib,kb,ob,zb,rb⟩:=x.hrel _ _ hk
     have hz:ia.size+ib.size<=lid:=by have h1:=ra.length;have h2:=rb.length;simp at h1 h2;lia
     refine PySem.P.add_list oa ob ?_ (zZ hz)
     have q:=v7 x (ra.append rb) (by simpa using hz)
     have e:(ia.toList++ib.toList).toArray=ia++ib:=by simp
     rw [e] at q
     exact hQ _ _ _ _ q (.ref _) (yL x w.2)
    | _=>exact False.elim w
  | _=>exact False.elim w
theorem ou {A:Around} {H:AH} {s:Shared} {op:Operator} {o:Op} (ho:opOf op=some o) (x:SimG S H s) {a b:AV} {v u:Value} (ra:VRel S s.heap a v) (rb:VRel S s.heap b u) {Q:AV->AH->Prop} {Q':Value->Shared->Prop} {E':Value->Shared->Prop}
  (hQ:∀ v av s' H',Go S [] s H s' H'->VRel S s'.heap av v->Q av H'->Q' v s') (w:wBin o a b H Q):wpAny (model S.prog S.w) A (binaryOp op v u) Q' E' s:=by
 cases op<;>cases ho
 ·cases a with
  | int i=>
   cases b with
   | int j=>
    obtain ⟨_,rfl⟩:=ra.inv
    obtain ⟨_,rfl⟩:=rb.inv
    exact PyProof.Rows.add_int (hQ _ _ _ _ (x.tok _) (.int _ _) w)
   | _=>exact False.elim w
  | tup lx=>
   cases b with
   | tup ly=>
    obtain ⟨_,_,_,rfl,ia,za,ra⟩:=ra.inv
    obtain ⟨_,_,_,rfl,ib,zb,rb⟩:=rb.inv
    exact gO x ia ib za zb ra rb hQ w
   | _=>exact False.elim w
  | ref a=>
   cases b with
   | ref b=>
    obtain rfl:=ra.inv
    obtain rfl:=rb.inv
    exact lv x hQ w
   | _=>exact False.elim w
  | _=>exact False.elim w
 ·obtain ⟨x',y',rfl,rfl,w⟩:=wW w
  obtain ⟨_,rfl⟩:=ra.inv
  obtain ⟨_,rfl⟩:=rb.inv
  exact PyProof.Rows.sub_int (hQ _ _ _ _ (x.tok _) (.int _ _) w)
 ·obtain ⟨x',y',rfl,rfl,w⟩:=wW w
  obtain ⟨_,rfl⟩:=ra.inv
  obtain ⟨_,rfl⟩:=rb.inv
  exact PyProof.Rows.mul_int (hQ _ _ _ _ (x.tok _) (.int _ _) w.2) (mulOk w.1)
 ·obtain ⟨x',y',rfl,rfl,w⟩:=wW w
  obtain ⟨_,rfl⟩:=ra.inv
  obtain ⟨_,rfl⟩:=rb.inv
  exact PyProof.Rows.mod_int w.1 (hQ _ _ _ _ (x.tok _) (.int _ _) w.2)
 ·exact False.elim w
 ·obtain ⟨x',y',rfl,rfl,w⟩:=wW w
  obtain ⟨_,rfl⟩:=ra.inv
  obtain ⟨_,rfl⟩:=rb.inv
  exact PyProof.Rows.floordiv_int w.1.1 (hQ _ _ _ _ (x.tok _) (.int _ _) w.2) (.inl (PyProof.noPylong_small w.1.2))

theorem eG {l r:Expr} {op:Operator} {o:Op} {a b:IE} {pos:Pos} (ha:SE S C n Fly cx l a) (hb:SE S C n Fly cx r b) (ho:opOf op=some o):SE S C n Fly cx (.BinOp l op r pos) (.bin o a b):=λ env A X m H s Q Q' E' ok room hd sim hX hQ w=>by
 conv at w=>whnf
 refine wpAny_BinOp (qO ha hb ok room hd sim hX (λ v u av au s' H' g rv ru w'=>?_) w)
 exact ou ho (sim.go g).toSimG rv ru (λ v av s'' H'' g' r' w''=>hQ v av s'' H'' (g.trans g') r' w'') w'


theorem tx {h:Heap} {a:AV} {v:Value} (r:VRel S h a v):plainIs v .none=true/\(v == .none)=isNone a:=by
 cases r<;>exact ⟨rfl,rfl⟩

theorem DRel.look {S:Stat} {h:Heap} {d:List (Int×AV)} {kvs:List (Int×Value)} (r:DRel S h d kvs) (k:Int):(dget d k=.none/\valueAt kvs k=.none)\/∃ a v,dget d k=some a/\valueAt kvs k=some v/\VRel S h a v:=by
 induction r with
 | nil=>exact .inl ⟨rfl,rfl⟩
 | @cons j a v d kvs x _ ih=>
  unfold dget PySem.valueAt at *
  simp only [List.find?_cons]
  by_cases q:j=k
  ·simp only [q,decide_true];exact .inr ⟨a,v,rfl,rfl,x⟩
  ·simp only [q,decide_false];exact ih

noncomputable def InG (S:Stat) (A:Around) (s:Shared) (Q' E':Value->Shared->Prop) (v u:Value) (r:Bool):Prop:=((∀ tk,Q' (.bool r) { s with toks:=tk })->wpAny (model S.prog S.w) A (compareOp .In v u) Q' E' s)/\((∀ tk,Q' (.bool (!r)) { s with toks:=tk })->wpAny (model S.prog S.w) A (compareOp .NotIn v u) Q' E' s)
set_option tactic.hygienic true in
theorem qQ {A:Around} {H:AH} {s:Shared} (x:SimG S H s) (room:Room A n) {a b:AV} {v u:Value} (ra:VRel S s.heap a v) (rb:VRel S s.heap b u) {r:Bool} (e:wIn a b H=some r) {Q':Value->Shared->Prop} {E':Value->Shared->Prop} :
  InG S A s Q' E' v u r:=by
 have hu:∀ (xs:List PyData) (d:PyData),d.depth=0->A.units+1+min (PyData.depthAll xs) d.depth < cLine:=λ xs d hd=>by
  rw [hd,Nat.min_zero];have:=room.2;unfold cLine;lia
 have inList:∀ (l:Nat) (ls:List AV) (d:PyData) (bs:List Nat),H l=some (.list ls)->Reads s.heap v d bs->d.canLay0=true->d.depth=0->∀ r,((AV.data.go ls).map λ ds=>ds.any λ y=>PyData.eqv y d)=some r->
   InG S A s Q' E' v (.ref l) r:=λ l ls d bs hl rd hc hdp r e=>by
  cases q:AV.data.go ls with
  | none=>rw [q] at e;cases e
  | some ds=>
   rw [q] at e;cases e
   obtain ⟨items,k,ho,_,rs⟩:=x.hrel _ _ hl
   obtain ⟨as,rr,hcs⟩:=rs.reads q
   exact ⟨λ hq=>SeqAt.in_list_reads (.list ho rfl rfl rr) rd hcs hc (hu ds d hdp) (hq s.toks),λ hq=>SeqAt.notIn_list_reads (.list ho rfl rfl rr) rd hcs hc (hu ds d hdp) (hq s.toks)⟩
 unfold wIn at e
 split at e
 ·rename_i k d
  obtain ⟨_,rfl⟩:=ra.inv
  obtain rfl:=rb.inv
  split at e
  ·rename_i kv ep hd
   obtain ⟨kvs,hk,_,dr⟩:=x.hrel _ _ hd
   have hm:=hk.dictOf.mapOf
   have hlo:(d == sysModules)=false:=x.notSys hd
   cases e
   rcases dr.look k with ⟨h1,h2⟩ | ⟨a,v,h1,h2,_⟩
   ·refine ⟨λ hq=>wpAny_in_of (knd:=intKind S.prog S.w) (k:=k) (by simp [intKind,Value.isInt]) hlo hm ?_,λ hq=>wpAny_notIn_of (knd:=intKind S.prog S.w) (k:=k) (by simp [intKind,Value.isInt]) hlo hm ?_⟩
    ·rw [h2,h1] at *;exact hq _
    ·rw [h2,h1] at *;exact hq _
   ·refine ⟨λ hq=>wpAny_in_of (knd:=intKind S.prog S.w) (k:=k) (by simp [intKind,Value.isInt]) hlo hm ?_,λ hq=>wpAny_notIn_of (knd:=intKind S.prog S.w) (k:=k) (by simp [intKind,Value.isInt]) hlo hm ?_⟩
    ·rw [h2,h1] at *;exact hq _
    ·rw [h2,h1] at *;exact hq _
  ·rename_i ls hl
   exact inList _ ls (.int k) [] hl (.int _ _) rfl rfl r e
  ·cases e
 ·obtain ⟨_,rfl,hst⟩:=ra.inv
  obtain rfl:=rb.inv
  split at e
  ·rename_i ls hl
   exact inList _ ls _ [] hl (.str _ _) hst rfl r e
  ·cases e
 ·rename_i k ls
  obtain ⟨_,rfl⟩:=ra.inv
  obtain ⟨_,_,_,rfl,ho,hz,rs⟩:=rb.inv
  cases q:AV.data.go ls with
  | none=>rw [q] at e;cases e
  | some ds=>
   rw [q] at e;cases e
   obtain ⟨as,rr,hcs⟩:=rs.reads q
   exact ⟨λ hq=>SeqAt.in_tuple_reads (.tuple ho rfl rfl rr) (.int k _) hcs rfl (hu ds _ rfl) (hq s.toks),λ hq=>SeqAt.notIn_tuple_reads (.tuple ho rfl rfl rr) (.int k _) hcs rfl (hu ds _ rfl) (hq s.toks)⟩
 ·rename_i y z
  obtain ⟨_,rfl,_⟩:=ra.inv
  obtain ⟨_,rfl,_⟩:=rb.inv
  split at e
  ·rename_i c hc
   cases e
   obtain rfl:y=⟨#[c]⟩:=Str.ext' (Array.toList_inj.mp hc)
   have q:Txt.contains z ⟨#[c]⟩=decide (c∈z.cps.toList):=StrLaws.found_one z c
   exact ⟨λ hq=>SB.contains (by rw [q];exact hq s.toks),λ hq=>SB.notContains (by rw [q];exact hq s.toks)⟩
  ·cases e
 ·cases e

theorem uc {h:Heap} {a:Nat} {kvs:List (Int×Value)} {p p':Program} {w w':World} (d:h.DictOf (intKind p w) a kvs):h.DictOf (intKind p' w') a kvs:=by
 obtain ⟨o,es,ep,h1,h2,h3,h4,h5,h6⟩:=d
 refine ⟨o,es,ep,h1,h2,h3,h4,?_,h6⟩
 clear h6 h4 h3
 generalize es.toList=l at h5 |-
 induction h5 with
 | nil=>exact .nil
 | cons h h2 _ ih=>exact .cons h h2 ih
theorem pD {A:Around} {H:AH} {s:Shared} (hu:A.units+100 < cLine) (x:SimG S H s) {a b:AV} {v u:Value} (ra:VRel S s.heap a v) (rb:VRel S s.heap b u) (w:ss H a b):SeqAt.EqAt A s v u true:=by
 obtain ⟨p,q,d,e,ep,eq,rfl,rfl,hd,he,hl,hv⟩:=w
 obtain rfl:=ra.inv
 obtain rfl:=rb.inv
 obtain ⟨ka,da,_,dr⟩:=x.hrel _ _ hd
 obtain ⟨kb,db,_,dr'⟩:=x.hrel _ _ he
 by_cases hpq:p=q
 ·subst hpq;exact SeqAt.EqAt.same _
 refine SeqAt.EqAt.of_refs hpq λ prog w E Q h=>?_
 have len:∀ {d:List (Int×AV)} {kvs:List (Int×Value)},DRel S s.heap d kvs->d.length=kvs.length:=λ r=>by
  induction r with
  | nil=>rfl
  | cons _ _ ih=>simp [ih]
 have l1:=len dr
 have l2:=len dr'
 have hits:∀ {d:List (Int×AV)} {ka:List (Int×Value)},DRel S s.heap d ka->(∀ k v,(k,v)∈d->∃ u p q,dget e k=some u/\data1 H v=some p/\data1 H u=some q/\(p.depth<=30/\q.depth<=30)/\PyData.eqv p q=true)->KeqHits A.in1 s kb ka true:=λ r=>by
  induction r with
  | nil=>intro _;exact .nil
  | @cons k a v d ka rv _ ih=>
   intro hv
   obtain ⟨u,p,q,h1,h2,h3,h4,h5⟩:=hv k a (.head _)
   rcases dr'.look k with ⟨z,_⟩ | ⟨u',y,z1,z2,ry⟩
   ·rw [z] at h1;cases h1
   ·rw [z1] at h1;cases h1
    obtain ⟨as,r1,c1⟩:=xN x.hrel rv h2
    obtain ⟨bs,r2,c2⟩:=xN x.hrel ry h3
    have e1:=SeqAt.eqAt_reads p q A.in1 s v y as bs r1 r2 c1 c2 (by show A.units+1+_ < cLine;have:=Nat.min_le_left p.depth q.depth;lia)
    rw [h5] at e1
    exact .hit z2 e1 (ih λ k v hm=>hv k v (.tail _ hm))
 refine keq_eq (knd:=intKind prog w) (x.notSys hd) (x.notSys he) (da:=uc da.dictOf) (db:=uc db.dictOf) (by lia) (λ z_=>hits dr hv) ?_
 have:(ka.length == kb.length)=true:=by rw [<-l1,<-l2,hl];exact beq_self_eq_true _
 rw [this];exact h
theorem sy {A:Around} {H:AH} {s:Shared} (hu:A.units+110 < cLine) (x:SimG S H s) {a b:AV} {v u:Value} (ra:VRel S s.heap a v) (rb:VRel S s.heap b u) (w:l6 H a b) {Q':Value->Shared->Prop} {E':Value->Shared->Prop} (h:Q' (.bool false) s) :
  wpAny (model S.prog S.w) A (compareOp .NotEq v u) Q' E' s:=by
 obtain ⟨p,q,l,k,rfl,rfl,_,hl,hk,hv⟩:=w
 obtain rfl:=ra.inv
 obtain rfl:=rb.inv
 obtain ⟨is,_,ho,_,rs⟩:=x.hrel _ _ hl
 obtain ⟨js,_,ho',_,rs'⟩:=x.hrel _ _ hk
 have all:∀ {l:List AV} {vs:List Value},VRels S s.heap l vs->∀ {k:List AV} {us:List Value},VRels S s.heap k us->v5 H l k->vs.length=us.length/\∀ j (h1:j < vs.length) (h2:j < us.length),SeqAt.EqAt A.in1 s vs[j] us[j] true:=λ r=>
  r.ind (M:=λ l vs=>∀ {k:List AV} {us:List Value},VRels S s.heap k us->v5 H l k->vs.length=us.length/\∀ j (h1:j < vs.length) (h2:j < us.length),SeqAt.EqAt A.in1 s vs[j] us[j] true)
   (λ {k us} r w=>by
    cases r with
    | nil=>exact ⟨rfl,λ j h=>absurd h (Nat.not_lt_zero j)⟩
    | cons=>exact w.elim)
   (λ {a v l vs} ra _ ih {k us} r w=>by
    cases r with
    | nil=>exact w.elim
    | cons rb rr=>
     obtain ⟨w1,w2⟩:=w
     obtain ⟨i1,i2⟩:=ih rr w2
     refine ⟨by simp [i1],λ j h1 h2=>?_⟩
     cases j with
     | zero=>exact pD (by show A.units+1+_ < cLine;lia) x ra rb w1
     | succ j=>exact i2 j (Nat.lt_of_succ_lt_succ h1) (Nat.lt_of_succ_lt_succ h2))
 obtain ⟨e1,e2⟩:=all rs rs' hv
 refine SeqAt.RcNeAt.lists (e:=λ z_=>true) ho.isList ho'.isList (by simpa using e1) (by lia) (λ j h1 h2=>e2 j h1 h2) _ _ _ _ ?_
 have:(!(List.range is.size).all λ z_=>true)=false:=by simp
 rw [this];exact h
set_option tactic.hygienic true in
theorem tz {A:Around} {H:AH} {s:Shared} {op:CmpOp} (room:Room A n) (x:SimG S H s) {a b:AV} {v u:Value} (ra:VRel S s.heap a v) (rb:VRel S s.heap b u) {Q:AV->AH->Prop} {Q':Value->Shared->Prop} {E':Value->Shared->Prop}
  (hQ:∀ v av s' H',Go S [] s H s' H'->VRel S s'.heap av v->Q av H'->Q' v s') (w:wCmp (cmOf op) a b H Q):wpAny (model S.prog S.w) A (compareOp op v u) Q' E' s:=by
 have hu:∀ da db:PyData,min da.depth db.depth<=60->A.units+min da.depth db.depth < cLine:=λ da db h=>by have:=room.2;unfold cLine;lia
 cases op<;>simp only [cmOf,wCmp] at w
 ·split at w
  ·rename_i da db ea eb
   with_reducible refine ex1 (ym x.hrel ra ea) λ _ hx_=>an2 hx_ λ r1 c1=>?_;clear hx_
   with_reducible refine ex1 (ym x.hrel rb eb) λ _ hx_=>an2 hx_ λ r2 c2=>?_;clear hx_
   exact SeqAt.compareEq_reads r1 r2 c1 c2 (hu _ _ w.1) (hQ _ _ _ _ (x.refl []) (.bool _) w.2)
  ·exact w.elim
 ·split at w
  ·rename_i da db ea eb
   with_reducible refine ex1 (ym x.hrel ra ea) λ _ hx_=>an2 hx_ λ r1 c1=>?_;clear hx_
   with_reducible refine ex1 (ym x.hrel rb eb) λ _ hx_=>an2 hx_ λ r2 c2=>?_;clear hx_
   exact SeqAt.compareNe_reads r1 r2 c1 c2 (hu _ _ w.1) (hQ _ _ _ _ (x.refl []) (.bool _) w.2)
  ·exact sy (by have:=room.2;unfold cLine;lia) x ra rb w.1 (hQ _ _ _ _ (x.refl []) (.bool _) w.2)
 ·split at w
  ·obtain ⟨_,rfl⟩:=ra.inv
   obtain ⟨_,rfl⟩:=rb.inv
   exact PyProof.Rows.lt_int (hQ _ _ _ _ (x.refl []) (.bool _) w)
  ·exact w.elim
 ·split at w
  ·obtain ⟨_,rfl⟩:=ra.inv
   obtain ⟨_,rfl⟩:=rb.inv
   exact PyProof.Rows.le_int (hQ _ _ _ _ (x.refl []) (.bool _) w)
  ·exact w.elim
 ·split at w
  ·obtain ⟨_,rfl⟩:=ra.inv
   obtain ⟨_,rfl⟩:=rb.inv
   exact PyProof.Rows.gt_int (hQ _ _ _ _ (x.refl []) (.bool _) w)
  ·exact w.elim
 ·split at w
  ·obtain ⟨_,rfl⟩:=ra.inv
   obtain ⟨_,rfl⟩:=rb.inv
   exact PyProof.Rows.ge_int (hQ _ _ _ _ (x.refl []) (.bool _) w)
  ·exact w.elim
 ·split at w
  ·obtain rfl:=rb.inv
   obtain ⟨p,e⟩:=tx ra
   exact wpAny_is_plain p (hQ _ _ _ _ (x.refl []) (.bool _) (by rw [e];exact w))
  ·exact w.elim
 ·split at w
  ·obtain rfl:=rb.inv
   obtain ⟨p,e⟩:=tx ra
   exact wpAny_isNot_plain p (hQ _ _ _ _ (x.refl []) (.bool _) (by rw [e];exact w))
  ·exact w.elim
 ·split at w
  ·rename_i r e
   exact (qQ x room ra rb e).1 λ tk=>hQ _ _ _ _ (x.tok tk) (.bool _) w
  ·exact w.elim
 ·split at w
  ·rename_i r e
   exact (qQ x room ra rb e).2 λ tk=>hQ _ _ _ _ (x.tok tk) (.bool _) w
  ·exact w.elim

theorem eJ {l r:Expr} {op:CmpOp} {a b:IE} {pos:Pos} (ha:SE S C n Fly cx l a) (hb:SE S C n Fly cx r b) (hm:behindInMarks op r=false):SE S C n Fly cx (.Compare l [op] [r] pos) (.cmp (cmOf op) a b):=λ env A X m H s Q Q' E' ok room hd sim hX hQ w=>by
 conv at w=>whnf
 refine wpAny_Compare1 (qO ha hb ok room hd sim hX (λ v u av au s' H' g rv ru w'=>?_) w) hm
 exact tz room (sim.go g).toSimG rv ru (λ v av s'' H'' g' r' w''=>hQ v av s'' H'' (g.trans g') r' w'') w'

noncomputable def SAnd (S:Stat) (C:Calls) (n:Nat) (Fly:FlyT) (cx:Cx) (op:BoolOp) (es:List Expr) (ies:IEs):Prop:=
 ∀ (env:Env) (A:Around) (X:Nat->AH->Prop) (m:Loc) (H:AH) (s:Shared) (Q:AV->AH->Prop) (Q':Value->Shared->Prop) (E':Value->Shared->Prop) (pos:Pos),
  CxOk cx env->Room A n->(cx.q=true->A.handled=.none)->Sim S env cx.vt m H s->
  (∀ c e s' H',Go S [] s H s' H'->X c H'->FlyAt Fly A env c s e s'->E' e s')->
  (∀ v av s' H',Go S [] s H s' H'->VRel S s'.heap av v->Q av H'->Q' v s')->
  (match op with | .And=>WAnd C X ies m H Q | .Or=>WOr C X ies m H Q)->wpAny (model S.prog S.w) A (boolOp pos op (evalEach es env)) Q' E' s

theorem lw {op:BoolOp} {e:Expr} {ie:IE} (he:SE S C n Fly cx e ie):SAnd S C n Fly cx op [e] (.cons ie .nil):=λ env A X m H s Q Q' E' pos ok room hd sim hX hQ w=>by
 show wpAny _ _ (eval e env) _ _ _
 refine he env A X m H s Q Q' E' ok room hd sim hX hQ ?_
 cases op<;>exact w
theorem ow {op:BoolOp} {e e':Expr} {r:List Expr} {ie ie':IE} {ir:IEs} (he:SE S C n Fly cx e ie) (hr:SAnd S C n Fly cx op (e'::r) (.cons ie' ir)):SAnd S C n Fly cx op (e::e'::r) (.cons ie (.cons ie' ir)):=λ env A X m H s Q Q' E' pos ok room hd sim hX hQ w=>by
 show wpAny _ _ (do
  let v <-eval e env
  standAt pos
  let t <-holding [v] (truthy v)
  match op,t with
  | .And,false | .Or,true=>pure v
  | _,_=>boolOp pos op (evalEach (e'::r) env)) _ _ _
 cases op
 ·refine wpAny_bind (he env A X m H s _ _ E' ok room hd sim hX (λ v av aB aD aA aF aC=>?_) w)
  cases av with
  | bool b=>
   obtain rfl:=aF.inv
   refine wpAny_bind (wpAny_standAt (wpAny_bind (wpAny_holding (wpAny_truthy_bool ?_))))
   cases b
   ·exact wpAny_pure (hQ _ _ _ _ aA (.bool _) aC)
   ·exact hr env A X m aD aB Q Q' E' pos ok room hd (sim.go aA) (λ c e s' H' g x f=>hX c e s' H' (aA.trans g) x (f.back aA)) (λ v av s' H' g r w=>hQ v av s' H' (aA.trans g) r w) aC
  | _=>exact aC.elim
 ·refine wpAny_bind (he env A X m H s _ _ E' ok room hd sim hX (λ v av aB aD aA aF aC=>?_) w)
  cases av with
  | bool b=>
   obtain rfl:=aF.inv
   refine wpAny_bind (wpAny_standAt (wpAny_bind (wpAny_holding (wpAny_truthy_bool ?_))))
   cases b
   ·exact hr env A X m aD aB Q Q' E' pos ok room hd (sim.go aA) (λ c e s' H' g x f=>hX c e s' H' (aA.trans g) x (f.back aA)) (λ v av s' H' g r w=>hQ v av s' H' (aA.trans g) r w) aC
   ·exact wpAny_pure (hQ _ _ _ _ aA (.bool _) aC)
  | _=>exact aC.elim
theorem eK {es:List Expr} {ies:IEs} {pos:Pos} (h:SAnd S C n Fly cx .And es ies):SE S C n Fly cx (.BoolOp .And es pos) (.and ies):=λ env A X m H s Q Q' E' ok room hd sim hX hQ w=>by
 (conv at w=>whnf);exact h env A X m H s Q Q' E' pos ok room hd sim hX hQ w
theorem se_or {es:List Expr} {ies:IEs} {pos:Pos} (h:SAnd S C n Fly cx .Or es ies):SE S C n Fly cx (.BoolOp .Or es pos) (.or ies):=λ env A X m H s Q Q' E' ok room hd sim hX hQ w=>by
 (conv at w=>whnf);exact h env A X m H s Q Q' E' pos ok room hd sim hX hQ w

noncomputable def ST (S:Stat) (C:Calls) (n:Nat) (Fly:FlyT) (cx:Cx) (e:Expr) (it:IT):Prop:=
 ∀ (env:Env) (A:Around) (X:Nat->AH->Prop) (m:Loc) (H:AH) (s:Shared) (Q:Bool->AH->Prop) (Q':Bool->Shared->Prop) (E':Value->Shared->Prop),
  CxOk cx env->Room A n->(cx.q=true->A.handled=.none)->Sim S env cx.vt m H s->
  (∀ c e s' H',Go S [] s H s' H'->X c H'->FlyAt Fly A env c s e s'->E' e s')->
  (∀ b s' H',Go S [] s H s' H'->Q b H'->Q' b s')->
  WT C X it m H Q->wpAny (model S.prog S.w) A (isTrue e env (eval e env)) Q' E' s
noncomputable def STs (S:Stat) (C:Calls) (n:Nat) (Fly:FlyT) (cx:Cx) (op:BoolOp) (es:List Expr) (its:ITs):Prop:=
 ∀ (env:Env) (A:Around) (X:Nat->AH->Prop) (m:Loc) (H:AH) (s:Shared) (Q:Bool->AH->Prop) (Q':Bool->Shared->Prop) (E':Value->Shared->Prop),
  CxOk cx env->Room A n->(cx.q=true->A.handled=.none)->Sim S env cx.vt m H s->
  (∀ c e s' H',Go S [] s H s' H'->X c H'->FlyAt Fly A env c s e s'->E' e s')->
  (∀ b s' H',Go S [] s H s' H'->Q b H'->Q' b s')->
  (match op with | .And=>WTAnd C X its m H Q | .Or=>WTOr C X its m H Q)->wpAny (model S.prog S.w) A (allTrue op es env) Q' E' s

theorem eL {e:Expr} {it:IT} {pos:Pos} (h:ST S C n Fly cx e it):ST S C n Fly cx (.UnaryOp .Not e pos) (.not it):=λ env A X m H s Q Q' E' ok room hd sim hX hQ w=>by
 conv at w=>whnf
 exact wpAny_isTrue_Not (h env A X m H s _ _ E' ok room hd sim hX (λ b s' H' g w=>hQ _ s' H' g w) w)
theorem oy {op:BoolOp} {es:List Expr} {its:ITs} {pos:Pos} (h:STs S C n Fly cx op es its):ST S C n Fly cx (.BoolOp op es pos) (match op with | .And=>.and its | .Or=>.or its):=λ env A X m H s Q Q' E' ok room hd sim hX hQ w=>by
 refine wpAny_isTrue_BoolOp (h env A X m H s Q Q' E' ok room hd sim hX hQ ?_)
 cases op<;>((conv at w=>whnf);exact w)
theorem gP {op:BoolOp}:STs S C n Fly cx op [] .nil:=λ env A X m H s Q Q' E' ok room hd sim hX hQ w=>by
 cases op
 ·exact wpAny_pure (hQ _ _ _ (sim.refl []) w)
 ·exact wpAny_pure (hQ _ _ _ (sim.refl []) w)
theorem lz {op:BoolOp} {e:Expr} {r:List Expr} {it:IT} {ir:ITs} (he:ST S C n Fly cx e it) (hr:STs S C n Fly cx op r ir):STs S C n Fly cx op (e::r) (.cons it ir):=λ env A X m H s Q Q' E' ok room hd sim hX hQ w=>by
 cases op
 ·refine wpAny_allTrue_And_cons (he env A X m H s _ _ E' ok room hd sim hX (λ b aB aD aA aC=>?_) w)
  cases b
  ·exact hQ _ _ _ aA aC
  ·exact hr env A X m aD aB Q Q' E' ok room hd (sim.go aA) (λ c e s' H' g x f=>hX c e s' H' (aA.trans g) x (f.back aA)) (λ b s' H' g w=>hQ b s' H' (aA.trans g) w) aC
 ·refine wpAny_allTrue_Or_cons (he env A X m H s _ _ E' ok room hd sim hX (λ b aB aD aA aC=>?_) w)
  cases b
  ·exact hr env A X m aD aB Q Q' E' ok room hd (sim.go aA) (λ c e s' H' g x f=>hX c e s' H' (aA.trans g) x (f.back aA)) (λ b s' H' g w=>hQ b s' H' (aA.trans g) w) aC
  ·exact hQ _ _ _ aA aC
theorem qR {e:Expr} {ie:IE} (h:SE S C n Fly cx e ie) (he:∀ env,isTrue e env (eval e env)=(do let v <-eval e env;standAt e.pos;holding [v] (truthy v))):ST S C n Fly cx e (.val ie):=λ env A X m H s Q Q' E' ok room hd sim hX hQ w=>by
 conv at w=>whnf
 refine wpAny_isTrue_value (h env A X m H s _ _ E' ok room hd sim hX (λ v av aB aD aA aF aC=>?_) w) (he env)
 cases av with
 | bool b=>
  obtain rfl:=aF.inv
  exact wpAny_truthy_bool (hQ _ _ _ aA aC)
 | _=>exact aC.elim
theorem eM {l r:Expr} {op:CmpOp} {a b:IE} {pos:Pos} (ha:SE S C n Fly cx l a) (hb:SE S C n Fly cx r b) (hm:behindInMarks op r=false):ST S C n Fly cx (.Compare l [op] [r] pos) (.val (.cmp (cmOf op) a b)):=λ env A X m H s Q Q' E' ok room hd sim hX hQ w=>by
 conv at w=>whnf
 refine wpAny_isTrue_Compare1 (qO ha hb ok room hd sim hX (λ v u av au s' H' g rv ru w'=>?_) w) hm
 refine tz room (sim.go g).toSimG rv ru (λ v av s'' H'' g' r' w''=>?_) w'
 cases av with
 | bool b=>
  obtain rfl:=r'.inv
  exact wpAny_truthy_bool (hQ _ _ _ (g.trans g') w'')
 | _=>exact w''.elim

theorem DRel.keys {S:Stat} {h:Heap} {d:List (Int×AV)} {kvs:List (Int×Value)} (r:DRel S h d kvs):d.map (·.1)=kvs.map (·.1):=by
 induction r with
 | nil=>rfl
 | cons _ _ ih=>simp [ih]
theorem DRel.length {S:Stat} {h:Heap} {d:List (Int×AV)} {kvs:List (Int×Value)} (r:DRel S h d kvs):d.length=kvs.length:=by
 have:=congrArg List.length r.keys;simpa using this

theorem vN {k:Nat} {len:Nat} (h:k < len):seqIndex? (k:Int) len=some k:=by
 unfold seqIndex?
 have:¬ ((k:Int) < 0):=by lia
 simp [this,h]

theorem oz {A:Around} {H:AH} {s:Shared} (x:SimG S H s) {a b:AV} {v u:Value} (ra:VRel S s.heap a v) (rb:VRel S s.heap b u) {value slice:Expr} {Q:AV->AH->Prop} {Q':Value->Shared->Prop} {E':Value->Shared->Prop}
  (hsl:∀ o i,subscripted slice false o i=operate [o,i] (getItem o i))
  (hQ:∀ v av s' H',Go S [] s H s' H'->VRel S s'.heap av v->Q av H'->Q' v s') (w:wIdx a b H Q):wpAny (model S.prog S.w) A (subscriptTail value slice v u) Q' E' s:=by
 have small:∀ {k:Int} {l:List AV} {a:AV} {len:Nat},0<=k->l[k.toNat]?=some a->l.length=len->len<=lid->k < 2 ^ 63/\k.toNat < len:=λ h0 hl he hz=>by
  have:=(List.getElem?_eq_some_iff.mp hl).1
  unfold lid at hz
  constructor<;>lia
 refine ex2 w λ k y hx_=>an3 hx_ λ hb wq h=>?_
 clear hx_ w
 subst hb
 obtain ⟨_,rfl⟩:=rb.inv
 clear rb
 rcases h with ⟨h0,l,hk,h⟩ | ⟨o,d,ep,rfl,hd,hk⟩ | ⟨⟨h0,hb⟩,y,c,rfl,hk,rfl⟩
 ·rcases h with rfl | rfl | ⟨o,rfl,hl⟩
  ·refine ex2 (ra.inv) λ z_ z_ hx_=>an4 hx_ λ hr2_ hl hz rs=>?_;clear hx_;subst hr2_
   with_reducible refine ex1 (rs.get hk) λ y hx_=>an2 hx_ λ hy ry=>?_;clear hx_
   have sm:=small h0 hk rs.length (by simpa using hz)
   have hL:s.heap.IsList _ _:=Heap.IsList.at hl (x.stays _)
   exact tail_any hL.typeIs slot_list_getitem.lookup (wpAny_getItem_list hL h0 sm.1 (by simpa using hy) (hQ _ _ _ _ (x.refl []) ry wq)) (hsl _ _)
  ·refine ex3 (ra.inv) λ z_ z_ z_ hx_=>an4 hx_ λ hr3_ ho hz rs=>?_;clear hx_;subst hr3_
   with_reducible refine ex1 (rs.get hk) λ y hx_=>an2 hx_ λ hy ry=>?_;clear hx_
   have sm:=small h0 hk rs.length (by simpa using hz)
   obtain ⟨j,rfl⟩:=Int.eq_ofNat_of_zero_le h0
   have hs:seqIndex? (j:Int) _=some j:=vN (by simpa using sm.2)
   exact tail_any ⟨_,ho,rfl⟩ slot_tuple_getitem.lookup (PySem.P.getItem_tuple ho (by lia) sm.1 (by simpa using hs) (by simpa using hy) (hQ _ _ _ _ (x.refl []) ry wq)) (hsl _ _)
  ·obtain rfl:=ra.inv
   refine ex2 (x.hrel _ _ hl) λ items kk hx_=>an3 hx_ λ ho hz rs=>?_;clear hx_
   with_reducible refine ex1 (rs.get hk) λ y hx_=>an2 hx_ λ hy ry=>?_;clear hx_
   have sm:=small h0 hk rs.length (by simpa using hz)
   exact tail_any ho.isList.typeIs slot_list_getitem.lookup (wpAny_getItem_list ho.isList h0 sm.1 (by simpa using hy) (hQ _ _ _ _ (x.refl []) ry wq)) (hsl _ _)
 ·obtain rfl:=ra.inv
  refine ex1 (x.hrel _ _ hd) λ kvs hx_=>an3 hx_ λ hk' hz dr=>?_;clear hx_
  have hm:=hk'.dictOf.mapOf
  rcases dr.look k with ⟨h1,h2⟩ | ⟨a',y,h1,h2,ry⟩
  ·rw [h1] at hk;cases hk
  ·rw [h1] at hk;cases hk
   exact tail_any hm.typeIs slot_dict_getitem.lookup (wpAny_getItem_of (knd:=intKind S.prog S.w) (k:=k) (by simp [intKind,Value.isInt]) hm h2 (hQ _ _ _ _ (x.tok _) (ry.mono λ z_ z_ e z_=>e) wq)) (hsl _ _)
 ·obtain ⟨t,rfl,ho⟩:=ra.inv
  obtain ⟨j,rfl⟩:=Int.eq_ofNat_of_zero_le h0
  have hk:y.cps[j]?=some c:=hk
  have hj:j < y.length:=(Array.getElem?_eq_some_iff.mp hk).1
  have hs:seqIndex? (j:Int) y.length=some j:=vN hj
  have hc:PyData.strOk ⟨#[c]⟩=true:=by
   have h1:=Array.all_eq_true.mp ho j hj
   have h2:y.cps[j]=c:=(Array.getElem?_eq_some_iff.mp hk).2
   rw [h2] at h1
   simpa [PyData.strOk] using h1
  refine tail_any (typeIs_str s y t) F.slot_str_getitem.lookup (PySem.P.getItem_str (c:=c) ?_ (by rw [hs];exact hk) (hQ _ _ _ _ (x.tok _) (.str _ _ hc) wq)) (hsl _ _)
  simp only [Bool.or_eq_false_iff,decide_eq_false_iff_not]
  lia

theorem eN {l r:Expr} {a b:IE} {pos:Pos} (ha:SE S C n Fly cx l a) (hb:SE S C n Fly cx r b) (hsl:∀ o i,subscripted r false o i=operate [o,i] (getItem o i)):SE S C n Fly cx (.Subscript l r pos) (.idx a b):=λ env A X m H s Q Q' E' ok room hd sim hX hQ w=>by
 conv at w=>whnf
 refine Subscript_ (qO ha hb ok room hd sim hX (λ v u av au s' H' g rv ru w'=>?_) w)
 exact oz (sim.go g).toSimG rv ru hsl (λ v av s'' H'' g' r' w''=>hQ v av s'' H'' (g.trans g') r' w'') w'

theorem VRels.take {S:Stat} {h:Heap} {l:List AV} {vs:List Value} (r:VRels S h l vs):∀ k:Nat,VRels S h (l.take k) (vs.take k):=
 r.ind (M:=λ l vs=>∀ k:Nat,VRels S h (l.take k) (vs.take k)) (λ k=>by cases k<;>exact .nil) λ x z_ ih k=>by
  cases k with
  | zero=>exact .nil
  | succ k=>exact .cons x (ih k)
theorem VRels.drop {S:Stat} {h:Heap} {l:List AV} {vs:List Value} (r:VRels S h l vs):∀ k:Nat,VRels S h (l.drop k) (vs.drop k):=
 r.ind (M:=λ l vs=>∀ k:Nat,VRels S h (l.drop k) (vs.drop k)) (λ k=>by cases k<;>exact .nil) λ x r ih k=>by
  cases k with
  | zero=>exact .cons x r
  | succ k=>exact ih k
theorem wA {α β:Type} {f g:α->Option β}:∀ {l:List α},(∀ a∈l,f a=g a)->l.filterMap f=l.filterMap g
 | [],_=>rfl
 | a::r,h=>by
  rw [List.filterMap_cons,List.filterMap_cons,h a (.head _),wA λ b hb=>h b (.tail _ hb)]

theorem qS (l:List Value) (a:Nat):l.drop (min a l.length)=l.drop a:=by
 rcases Nat.le_total a l.length with h | h
 ·rw [Nat.min_eq_left h]
 ·rw [Nat.min_eq_right h,List.drop_length,List.drop_eq_nil_of_le h]
theorem tI (l:List Value) (a b:Nat):(l.drop (min a l.length)).take (min b l.length - min a l.length)=(l.take b).drop a:=by
 rw [qS,List.drop_take]
 rcases Nat.le_total l.length a with ha | ha
 ·rw [List.drop_eq_nil_of_le ha,List.take_nil,List.take_nil]
 ·rw [Nat.min_eq_left ha]
  rcases Nat.le_total b l.length with hb | hb
  ·rw [Nat.min_eq_left hb]
  ·rw [Nat.min_eq_right hb,List.take_of_length_le (by rw [List.length_drop];exact Nat.le_refl _),List.take_of_length_le (by rw [List.length_drop];exact Nat.sub_le_sub_right hb a)]
theorem nA {l:List Value} {a n m:Nat} (h:l.length<=m):((l.drop a).take n).length<=m:=by
 rw [List.length_take,List.length_drop]
 exact Nat.le_trans (Nat.min_le_right _ _) (Nat.le_trans (Nat.sub_le _ _) h)
theorem kF (items:Array Value) (a b:Nat) {la:Option Int} (h:la=some (a:Int)\/(a=0/\la=none)):slicePick items la (some (b:Int)) none=((items.toList.take b).drop a).toArray:=by
 rw [slicePick_plain]
 rcases h with rfl | ⟨rfl,rfl⟩
 ·simp only [Option.elim,clipAt_nat]
  exact congrArg List.toArray (tI items.toList a b)
 ·simp only [Option.elim,clipAt_nat]
  have:=tI items.toList 0 b
  rw [Nat.zero_min] at this
  exact congrArg List.toArray this
theorem nB (items:Array Value) (a:Nat) {la:Option Int} (h:la=some (a:Int)\/(a=0/\la=none)):slicePick items la none none=(items.toList.drop a).toArray:=by
 rcases h with rfl | ⟨rfl,rfl⟩
 ·exact slicePick_from' items a
 ·rw [slicePick_plain]
  simp only [Option.elim]
  simp
  rw [List.take_of_length_le (by simp)]

theorem yT {h:Heap} {a:AV} {v:Value} (r:VRel S h a v):(∀ i,a=.int i->IsPart v (some i))/\(a=.none->IsPart v none):=by
 cases r<;>refine ⟨λ i e=>?_,λ e=>?_⟩<;>cases e
 ·exact .none
 ·exact .int _ _

noncomputable def endAV:Option Nat->AV
 | some b=>.int b
 | .none=>.none
theorem sA {l r:List AV} {lo hi st:AV} (e:xK l lo hi st=some r):∃ (a:Nat) (b:Option Nat),(lo=.int a\/(a=0/\lo=.none))/\hi=endAV b/\st=.none/\r=cut l a b:=by
 cases st with
 | none=>
  cases lo with
  | int i=>
   cases hi with
   | int j=>
    have e:(if 0<=i/\0<=j then some (cut l i.toNat (some j.toNat)) else .none)=some r:=e
    by_cases h:0<=i/\0<=j
    ·rw [if_pos h] at e;cases e
     exact em2 i.toNat (some j.toNat) ⟨.inl (congrArg AV.int (Int.toNat_of_nonneg h.1).symm),congrArg AV.int (Int.toNat_of_nonneg h.2).symm,rfl,rfl⟩
    ·rw [if_neg h] at e;cases e
   | none=>
    have e:(if 0<=i then some (cut l i.toNat .none) else .none)=some r:=e
    by_cases h:0<=i
    ·rw [if_pos h] at e;cases e
     exact em2 i.toNat .none ⟨.inl (congrArg AV.int (Int.toNat_of_nonneg h).symm),rfl,rfl,rfl⟩
    ·rw [if_neg h] at e;cases e
   | _=>exact nomatch (show (Option.none:Option (List AV))=some r from e)
  | none=>
   cases hi with
   | int j=>
    have e:(if 0<=j then some (cut l 0 (some j.toNat)) else .none)=some r:=e
    by_cases h:0<=j
    ·rw [if_pos h] at e;cases e
     exact em2 0 (some j.toNat) ⟨.inr ⟨rfl,rfl⟩,congrArg AV.int (Int.toNat_of_nonneg h).symm,rfl,rfl⟩
    ·rw [if_neg h] at e;cases e
   | _=>exact nomatch (show (Option.none:Option (List AV))=some r from e)
  | _=>exact nomatch (show (Option.none:Option (List AV))=some r from e)
 | _=>exact nomatch (show (Option.none:Option (List AV))=some r from e)

theorem xa {H:AH} {s:Shared} {A:Around} (x:SimG S H s) {l sl:Nat} {items:Array Value} {ls r:List AV} (hl:s.heap.IsList l items) (hz:items.size<=lid) (rs:VRels S s.heap ls items.toList)
  {lo hi st:AV} {vl vh vs:Value} (rl:VRel S s.heap lo vl) (rh:VRel S s.heap hi vh) (rt:VRel S s.heap st vs) (hs:s.heap.IsSliceOf sl vl vh vs) (e:xK ls lo hi st=some r)
  {Q:AV->AH->Prop} {Q':Value->Shared->Prop} {E':Value->Shared->Prop}
  (hQ:∀ v av s' H',Go S [] s H s' H'->VRel S s'.heap av v->Q av H'->Q' v s') (w:newL r H Q):wpAny (model S.prog S.w) A (getItem (.ref l) (.ref sl)) Q' E' s:=by
 have fin:∀ (a b c:Option Int) (us:List Value),IsPart vl a->IsPart vh b->IsPart vs c->c≠some 0->slicePick items a b c=us.toArray->VRels S s.heap r us->wpAny (model S.prog S.w) A (getItem (.ref l) (.ref sl)) Q' E' s:=λ a b c us pa pb pc h0 he ru=>by
  have hus:us.length<=lid:=by
   have:=slicePick_size_le items a b c;rw [he] at this;simp at this;lia
  refine wpAny_getItem_list_slice hl hs pa pb pc h0 ?_ (zZ hz)
  rw [he]
  exact hQ _ _ _ _ (v7 x ru hus) (.ref _) (yL x w)
 with_reducible refine ex2 (sA e) λ a b hx_=>an4 hx_ λ hr2_ hb hr4_ hr5_=>?_;clear hx_;subst hr4_;subst hr5_
 have pa:∃ la:Option Int,IsPart vl la/\(la=some (a:Int)\/(a=0/\la=none)):=by
  rcases hr2_ with q | ⟨q,q'⟩
  ·exact ⟨_,(yT rl).1 _ q,.inl rfl⟩
  ·exact ⟨_,(yT rl).2 q',.inr ⟨q,rfl⟩⟩
 refine ex1 (pa) λ la hx_=>an2 hx_ λ pa hla=>?_;clear hx_
 cases b with
 | some b=>subst hb;exact fin _ _ _ _ pa ((yT rh).1 _ rfl) ((yT rt).2 rfl) (by simp) (kF items a b hla) ((rs.take b).drop a)
 | none=>subst hb;exact fin _ _ _ _ pa ((yT rh).2 rfl) ((yT rt).2 rfl) (by simp) (nB items a hla) (rs.drop a)

theorem sz {prog:Program} {w:World} {A:Around} {s:Shared} {E:Value->Shared->Prop} {sl a k:Nat} {hi:Option Nat} {vl vh:Value} {Q:Int×Int×Nat->Shared->Prop} {la:Option Int} (hs:s.heap.IsSliceOf sl vl vh .none) (pl:IsPart vl la) (hla:la=some (a:Int)\/(a=0/\la=none)) (ph:IsPart vh (hi.map λ b=>((b:Nat):Int)))
  (h:Q (((min a k:Nat):Int),1,(hi.elim k λ b=>min b k) - min a k) s):wpAny (model prog w) A (Builtin.Slice.sliceApplied (.ref sl) (pure (k:Int))) Q E s:=by
 refine ex1 (id hs) λ os hx_=>an3 hx_ λ hos hcs hds=>?_;clear hx_
 unfold Builtin.Slice.sliceApplied Builtin.Slice.sliceFields
 refine wpAny_bind (wpAny_bind (wpAny_field hos hds (x:=vl) rfl (wpAny_bind (wpAny_field hos hds (x:=vh) rfl (wpAny_bind (wpAny_field hos hds (x:=.none) rfl (wpAny_pure ?_)))))))
 refine wpAny_bind (slicePart_none ?_)
 show wpAny _ _ (if ((1:Int) == 0)=true then _ else _) _ _ s
 rw [if_neg (by decide)]
 have adj:Builtin.Slice.sliceAdjust la (hi.map λ b=>((b:Nat):Int)) 1 (k:Int)=(((min a k:Nat):Int),(((hi.elim k λ b=>min b k):Nat):Int)):=by
  unfold Builtin.Slice.sliceAdjust
  have h1:¬ ((1:Int) < 0):=by omega
  simp only [h1,if_false]
  congr 1
  ·rcases hla with rfl | ⟨rfl,rfl⟩
   ·show (if ((a:Int) < 0) then max ((a:Int)+k) 0 else min (a:Int) k)=_
    rw [if_neg (by omega)];omega
   ·simp
  ·cases hi with
   | none=>rfl
   | some b=>
    show (if ((b:Int) < 0) then max ((b:Int)+k) 0 else min (b:Int) k)=((min b k:Nat):Int)
    rw [if_neg (by omega)];omega
 have done:∀ b:Nat,b<=k->Builtin.Slice.slicePlaces ((min a k:Nat):Int) (b:Int) 1=b - min a k:=λ b hb=>by
  unfold Builtin.Slice.slicePlaces
  have h1:(1:Int) > 0:=by omega
  simp only [h1,if_true,Int.ediv_one]
  split<;>omega
 have hk:(hi.elim k λ b=>min b k)<=k:=by cases hi with | none=>exact Nat.le_refl _ | some b=>exact Nat.min_le_right _ _
 have last:∀ (x:Int×Int),x=(((min a k:Nat):Int),(((hi.elim k λ b=>min b k):Nat):Int))->wpAny (model prog w) A (match x with | (lo,hi)=>pure (lo,(1:Int),Builtin.Slice.slicePlaces lo hi 1)) Q E s:=by
  rintro _ rfl
  refine wpAny_pure ?_
  rw [done _ hk]
  exact h
 cases pl with
 | int i t=>
  refine wpAny_bind (slicePart_int (wpAny_bind ?_))
  cases hi with
  | none=>cases ph;exact slicePart_none (wpAny_bind (wpAny_pure (last _ adj)))
  | some b=>cases ph;exact slicePart_int (wpAny_bind (wpAny_pure (last _ adj)))
 | none=>
  refine wpAny_bind (slicePart_none (wpAny_bind ?_))
  cases hi with
  | none=>cases ph;exact slicePart_none (wpAny_bind (wpAny_pure (last _ adj)))
  | some b=>cases ph;exact slicePart_int (wpAny_bind (wpAny_pure (last _ adj)))

theorem vA {prog:Program} {w:World} {A:Around} {s:Shared} {E:Value->Shared->Prop} {t sl a kk:Nat} {hi:Option Nat} {items:Array Value} {vl vh:Value} {Q:Value->Shared->Prop} (ht:IsT s.heap t items kk) {la:Option Int} (hs:s.heap.IsSliceOf sl vl vh .none) (pl:IsPart vl la) (hla:la=some (a:Int)\/(a=0/\la=none)) (ph:IsPart vh (hi.map λ b=>((b:Nat):Int)))
  (hz:items.size<=lid)
  (hsame:((items.toList.drop (min a items.size)).take ((hi.elim items.size λ b=>min b items.size) - min a items.size))=items.toList->Q (.ref t) s)
  (h:Q (.ref s.heap.objs.size) { s with heap:=s.heap.push { cls:=.type "tuple",data:=.seq ((items.toList.drop (min a items.size)).take ((hi.elim items.size λ b=>min b items.size) - min a items.size)).toArray } }) :
  wpAny (model prog w) A (getItem (.ref t) (.ref sl)) Q E s:=by
 have hT:IsTup s.heap t items:=⟨_,ht,rfl,_,rfl⟩
 refine ex1 (id hs) λ os hx_=>an3 hx_ λ hos hcs hds=>?_;clear hx_
 have hTs:s.TypeIs (.ref sl) "slice":=⟨os,hos,hcs⟩
 unfold getItem
 try with_reducible refine wpAny_holding ?_
 first | refine wpAny_bind (wpAny_pure ?_) | skip
 refine wpAny_bind (wpAny_sequenceKey hT.typeIs (by decide) ?_)
 refine wpAny_bind (wpAny_callSpecial?_slot (name:=Str.ofString "__getitem__") hT.typeIs slot_tuple_getitem
  (wpAny_call_entry slot_tuple_getitem hT.typeIs entry_tuple_getitem ?_ (args_tuple_getitem _ _)))
 show wpAny _ _ (Builtin.Tuple.tupleItemsOf (.ref t) >>= _) _ _ s
 refine wpAny_bind (tupleItemsOf_ hT ?_)
 refine wpAny_bind (wpAny_typeOf hTs ?_)
 rw [if_pos (by decide)]
 refine wpAny_bind (sz hs pl hla ph ?_)
 have hpick:((List.range ((hi.elim items.size λ b=>min b items.size) - min a items.size)).filterMap λ (k:Nat)=>items[((((min a items.size:Nat):Int))+(k:Int) * 1).toNat]?)=((items.toList.drop (min a items.size)).take ((hi.elim items.size λ b=>min b items.size) - min a items.size)):=by
  rw [<-pick_run,List.filterMap_map]
  refine wA λ i z_=>?_
  simp only [Function.comp]
  rw [Int.mul_one,<-Int.natCast_add,Int.toNat_natCast]
 have hdrop:sizeOk (.seq ((items.toList.drop (min a items.size)).take ((hi.elim items.size λ b=>min b items.size) - min a items.size)).toArray):=by
  show (Array.size _)<=sizeLine
  exact zZ (nA (by rw [Array.length_toList];exact hz))
 by_cases hw:((((min a items.size:Nat):Int)) == 0&&(1:Int) == 1&&((hi.elim items.size λ b=>min b items.size) - min a items.size) == items.size)=true
 ·show wpAny _ _ (if _ then _ else _) _ _ s
  rw [if_pos hw]
  have hsm:((items.toList.drop (min a items.size)).take ((hi.elim items.size λ b=>min b items.size) - min a items.size))=items.toList:=by
   simp only [Bool.and_eq_true,beq_iff_eq] at hw
   have h0:min a items.size=0:=by lia
   rw [hw.2,h0,List.drop_zero]
   exact List.take_of_length_le (by simp)
  have q:=hsame hsm
  refine wpAny_bind (m:=Builtin.Tuple.tupleIsExact (.ref t)) ?_
  unfold Builtin.Tuple.tupleIsExact
  first
   | (refine wpAny_bind (wpAny_typeOf hT.typeIs (wpAny_pure ?_));exact wpAny_bind (wpAny_rule (wpAny_pure ⟨_,rfl,wpAny_pure q⟩)))
   | (refine wpAny_typeOf hT.typeIs ?_;exact wpAny_bind (wpAny_rule (wpAny_pure ⟨_,rfl,wpAny_pure q⟩)))
 ·show wpAny _ _ (if _ then _ else _) _ _ s
  rw [if_neg hw,hpick]
  exact wpAny_bind (m:=Builtin.Tuple.tupleExact _) (wpAny_newObj_type (wpAny_pure ⟨_,rfl,wpAny_pure h⟩) hdrop)

theorem eO (l:List Value) (a:Nat) (hi:Option Nat):(l.drop (min a l.length)).take ((hi.elim l.length λ b=>min b l.length) - min a l.length)=match hi with | some b=>(l.take b).drop a | none=>l.drop a:=by
 cases hi with
 | none=>
  show (l.drop (min a l.length)).take (l.length - min a l.length)=l.drop a
  rw [<-List.length_drop,List.take_length,qS]
 | some b=>exact tI l a b

theorem vr {H:AH} {s:Shared} {A:Around} (x:SimG S H s) {t sl kk:Nat} {items:Array Value} {ls r:List AV} (ht:IsT s.heap t items kk) (hz:items.size<=lid) (rs:VRels S s.heap ls items.toList)
  {lo hi st:AV} {vl vh vs:Value} (rl:VRel S s.heap lo vl) (rh:VRel S s.heap hi vh) (rt:VRel S s.heap st vs) (hs:s.heap.IsSliceOf sl vl vh vs) (e:xK ls lo hi st=some r)
  {Q:AV->AH->Prop} {Q':Value->Shared->Prop} {E':Value->Shared->Prop}
  (hQ:∀ v av s' H',Go S [] s H s' H'->VRel S s'.heap av v->Q av H'->Q' v s') (w:Q (.tup r) H):wpAny (model S.prog S.w) A (getItem (.ref t) (.ref sl)) Q' E' s:=by
 have fin:∀ (la:Option Int) (a:Nat) (b:Option Nat),IsPart vl la->(la=some (a:Int)\/(a=0/\la=none))->IsPart vh (b.map λ b=>((b:Nat):Int))->vs=.none->VRels S s.heap r (match b with | some b=>(items.toList.take b).drop a | none=>items.toList.drop a)->wpAny (model S.prog S.w) A (getItem (.ref t) (.ref sl)) Q' E' s:=λ la a b pa hla pb pc ru=>by
  subst pc
  have e:=eO items.toList a b
  simp only [Array.length_toList] at e
  have ru':=ru
  rw [<-e] at ru'
  refine vA ht hs pa hla pb hz (λ q=>?_) ?_
  ·rw [q] at ru'
   exact hQ _ _ _ _ (x.refl []) (.tup ht hz ru') w
  ·have hl:((items.toList.drop (min a items.size)).take ((b.elim items.size λ b=>min b items.size) - min a items.size)).length<=lid:=nA (by rw [Array.length_toList];exact hz)
   have q:=sw x ru' hl
   exact hQ _ _ _ _ q.1 q.2 w
 have hst:st=.none->vs=.none:=λ q=>by subst q;exact rt.inv
 with_reducible refine ex2 (sA e) λ a b hx_=>an4 hx_ λ hr2_ hb q hr5_=>?_;clear hx_;subst hr5_
 have pa:∃ la:Option Int,IsPart vl la/\(la=some (a:Int)\/(a=0/\la=none)):=by
  rcases hr2_ with q | ⟨q,q'⟩
  ·exact ⟨_,(yT rl).1 _ q,.inl rfl⟩
  ·exact ⟨_,(yT rl).2 q',.inr ⟨q,rfl⟩⟩
 refine ex1 (pa) λ la hx_=>an2 hx_ λ pa hla=>?_;clear hx_
 cases b with
 | some b=>subst hb;exact fin la a (some b) pa hla ((yT rh).1 _ rfl) (hst q) ((rs.take b).drop a)
 | none=>subst hb;exact fin la a none pa hla ((yT rh).2 rfl) (hst q) (rs.drop a)

noncomputable def SP (S:Stat) (C:Calls) (n:Nat) (Fly:FlyT) (cx:Cx) (e:Option Expr) (ie:IE):Prop:=match e with
 | some e=>SE S C n Fly cx e ie
 | none=>ie=.cn
theorem rA {e:Option Expr} {ie:IE} (h:SP S C n Fly cx e ie) {env:Env} {A:Around} {X:Nat->AH->Prop} {m:Loc} {H:AH} {s:Shared} {Q:AV->AH->Prop} {Q':Value->Shared->Prop} {E':Value->Shared->Prop}
  (ok:CxOk cx env) (room:Room A n) (hd:cx.q=true->A.handled=.none) (sim:Sim S env cx.vt m H s)
  (hX:∀ c e s' H',Go S [] s H s' H'->X c H'->FlyAt Fly A env c s e s'->E' e s')
  (hQ:∀ v av s' H',Go S [] s H s' H'->VRel S s'.heap av v->Q av H'->Q' v s') (w:WE C X ie m H Q):wpAny (model S.prog S.w) A (evalPart e env) Q' E' s:=by
 cases e with
 | some e=>exact h env A X m H s Q Q' E' ok room hd sim hX hQ w
 | none=>
  have h':ie=.cn:=h
  subst h'
  exact wpAny_pure (hQ _ _ _ _ (sim.refl []) .none w)

theorem kH {l:Expr} {a lo hi st:IE} {el eh et:Option Expr} {p pos:Pos} (ha:SE S C n Fly cx l a) (hl:SP S C n Fly cx el lo) (hh:SP S C n Fly cx eh hi) (ht:SP S C n Fly cx et st) :
  SE S C n Fly cx (.Subscript l (.Slice el eh et p) pos) (.slice a lo hi st):=λ env A X m H s Q Q' E' ok room hd sim hX hQ w=>by
 conv at w=>whnf
 refine Subscript_ (ha env A X m H s _ _ E' ok room hd sim hX (λ v av aB aD aA aF aC=>?_) w)
 refine wpAny_Slice (rA hl ok room hd (sim.go aA) (λ c e s' H' g x f=>hX c e s' H' (aA.trans g) x (f.back aA)) (λ vl al aH aM aE aL aI=>?_) aC)
 have g12:=aA.trans aE
 refine rA hh ok room hd (sim.go g12) (λ c e s' H' g x f=>hX c e s' H' (g12.trans g) x (f.back g12)) (λ vh ah aY aP aN bC aU=>?_) aI
 have g13:=g12.trans aN
 refine rA ht ok room hd (sim.go g13) (λ c e s' H' g x f=>hX c e s' H' (g13.trans g) x (f.back g13)) (λ vt at_ aT b8 aR cA bE=>?_) aU
 have g14:=g13.trans aR
 have bF:=(sim.go g14).toSimG
 have gp:Go S [] aT b8 { aT with heap:=aT.heap.push { cls:=.type "slice",data:=.fields #[vl,vh,vt] } } b8:=bF.keeps (h':=aT.heap.push _) (zU _ _) aT.toks
 have bG:=bF.go gp
 have rv:=((aF.go (sim.go aA).toSimG (aE.trans (aN.trans aR))).go bF gp)
 have rl:=((aL.go (sim.go g12).toSimG (aN.trans aR)).go bF gp)
 have rh:=((bC.go (sim.go g13).toSimG aR).go bF gp)
 have rt:=cA.go bF gp
 have hsl:({ aT with heap:=aT.heap.push { cls:=.type "slice",data:=.fields #[vl,vh,vt] } }:Shared).heap.IsSliceOf aT.heap.objs.size vl vh vt:=Heap.IsSliceOf.new _ _ _ _
 have hQ':∀ v av s' H',Go S [] { aT with heap:=aT.heap.push { cls:=.type "slice",data:=.fields #[vl,vh,vt] } } b8 s' H'->VRel S s'.heap av v->Q av H'->Q' v s':=λ v av s' H' g r w=>hQ v av s' H' ((g14.trans gp).trans g) r w
 have hsub:∀ o i,∃ ops,subscripted (.Slice el eh et p) false o i=operate ops (getItem o i):=λ o i=>by cases et<;>exact ⟨_,rfl⟩
 refine ex2 bE λ ls r hx_=>an2 hx_ λ e h=>?_
 clear hx_ bE w aC aI aU hX aF aL bC cA
 obtain ⟨ops,hs⟩:=hsub v (.ref aT.heap.objs.size)
 rcases h with ⟨rfl,w⟩ | ⟨h,w⟩
 ·refine ex3 (rv.inv) λ z_ z_ z_ hx_=>an4 hx_ λ hr3_ ho hz rs=>?_;clear hx_;subst hr3_
  exact tail_any ⟨_,ho,rfl⟩ slot_tuple_getitem.lookup (vr bG ho hz rs rl rh rt hsl e hQ' w) hs
 ·rcases h with rfl | ⟨o,rfl,hl⟩
  ·refine ex2 (rv.inv) λ z_ z_ hx_=>an4 hx_ λ hr2_ hl hz rs=>?_;clear hx_;subst hr2_
   have hL:=Heap.IsList.at hl (bG.stays _)
   exact tail_any hL.typeIs slot_list_getitem.lookup (xa bG hL hz rs rl rh rt hsl e hQ' w) hs
  ·obtain rfl:=rv.inv
   refine ex2 (bG.hrel _ _ hl) λ items kk hx_=>an3 hx_ λ ho hz rs=>?_;clear hx_
   exact tail_any ho.isList.typeIs slot_list_getitem.lookup (xa bG ho.isList hz rs rl rh rt hsl e hQ' w) hs

theorem vO (x:Int) (l:List Int):(zo x l).Perm (x::l):=by
 induction l with
 | nil=>
  exact .refl _
 | cons y r ih_=>
  unfold zo
  split
  ·exact .refl _
  ·exact ((ih_).cons y).trans (List.Perm.swap x y r)
theorem pE (l:List Int):(zA l).Perm l:=by
 induction l with
 | nil=>
  exact .refl _
 | cons x r ih_=>
  exact (vO x (zA r)).trans ((ih_).cons x)
set_option tactic.hygienic true in
theorem uX (x:Int) (l:List Int):l.Pairwise (·<=·)->(zo x l).Pairwise (·<=·):=by
 induction l with
 | nil=>
  intro _
  simp [zo]
 | cons y r ih_=>
  intro h
  obtain ⟨h1,h2⟩:=List.pairwise_cons.mp h
  unfold zo
  split
  ·rename_i hxy
   refine List.pairwise_cons.mpr ⟨λ z hz=>?_,h⟩
   rcases List.mem_cons.mp hz with rfl | hz
   ·exact hxy
   ·exact Int.le_trans hxy (h1 z hz)
  ·rename_i hxy
   refine List.pairwise_cons.mpr ⟨λ z hz=>?_,ih_ h2⟩
   rcases List.mem_cons.mp ((vO x r).mem_iff.mp hz) with rfl | hz
   ·lia
   ·exact h1 z hz
theorem sB (l:List Int):(zA l).Pairwise (·<=·):=by
 induction l with
 | nil=>
  simp [zA]
 | cons x r ih_=>
  exact uX x _ (ih_)
theorem ud {a l:List Int} (hp:a.Perm l) (hs:a.Pairwise (·<=·)):a=zA l:=ksm_same (hp.trans (pE l).symm) hs (sB l)

theorem sC {v:AV} {r:List AV} {ns:List Int} (e:z4 (v::r)=some ns):∃ i k,v=.int i/\z4 r=some k/\ns=i::k:=by
 cases v with
 | int i=>
  have e:(z4 r).map (i::·)=some ns:=e
  with_reducible refine ex1 (Option.map_eq_some_iff.mp e) λ k hx_=>an2 hx_ λ hk hh=>?_;clear hx_
  exact em2 i k ⟨rfl,hk,hh.symm⟩
 | _=>exact nomatch (show (Option.none:Option (List Int))=some ns from e)
theorem vB {h:Heap} {l:List AV} {vs:List Value} {ns:List Int} (r:VRels S h l vs) (e:z4 l=some ns):IntsAre vs ns:=
 r.ind (M:=λ l vs=>∀ ns,z4 l=some ns->IntsAre vs ns) (λ ns e=>by
  have e:some []=some ns:=e
  cases e;exact .nil) (λ x z_ ih ns e=>by
  with_reducible refine ex2 (sC e) λ i k hx_=>an3 hx_ λ hr2_ hk hr4_=>?_;clear hx_;subst hr2_;subst hr4_
  cases x
  exact .cons i _ (ih k hk)) ns e
theorem nH {h:Heap} {vs:List Value} {ns:List Int} (r:IntsAre vs ns):VRels S h (ns.map .int) vs:=by
 induction r with
 | nil=>exact .nil
 | cons i t _ ih=>exact .cons (.int i t) ih

theorem qT {k:Nat} (h:k<=lid):(k:Int) < 2 ^ 63:=by unfold lid at h;lia

theorem qU {h:Heap} {d:List (Int×AV)} {kvs:List (Int×Value)} (r:DRel S h d kvs) {vs:List Value} (hl:vs.length=kvs.length) (hv:∀ (j:Nat) (v:Value),vs[j]?=some v->∃ k x,kvs[j]?=some (k,x)/\(intKind S.prog S.w).is k v=true):VRels S h (d.map λ p=>.int p.1) vs:=by
 induction r generalizing vs with
 | nil=>cases vs with | nil=>exact .nil | cons _ _=>simp at hl
 | @cons k a v d kvs x _ ih=>
  cases vs with
  | nil=>simp at hl
  | cons u us=>
   with_reducible refine ex2 (hv 0 u rfl) λ k' x' hx_=>an2 hx_ λ e his=>?_;clear hx_
   simp at e
   obtain ⟨rfl,rfl⟩:=e
   obtain ⟨t,rfl⟩:=Value.isInt_shape his
   refine .cons (.int _ t) (ih (by simpa using hl) λ j v hj=>?_)
   exact hv (j+1) v (by simpa using hj)

set_option tactic.hygienic true in
theorem nI {A:Around} {H:AH} {s:Shared} (x:SimG S H s) {a:AV} {v:Value} (ra:VRel S s.heap a v) {Q:AV->AH->Prop} {Q':Value->Shared->Prop} {E':Value->Shared->Prop}
  (hQ:∀ v av s' H',Go S [] s H s' H'->VRel S s'.heap av v->Q av H'->Q' v s') (w:wBi .len [a] H Q):wpAny (model S.prog S.w) A (call (.builtin "len") [v]) Q' E' s:=by
 cases a with
 | tup l_=>
  refine ex3 (ra.inv) λ _ _ _ hx_=>an4 hx_ λ hr3_ ho hz rs=>?_;clear hx_;subst hr3_

  have e:=rs.length
  refine PySem.P.len_tuple ho (by have:=qT hz;lia) (hQ _ _ _ _ (x.tok _) (.int _ _) ?_)
  simp only [wBi,wBi1,wLen] at w
  rw [e] at w;simpa using w
 | fro l_=>
  refine ex2 (ra.inv) λ _ _ hx_=>an4 hx_ λ hr2_ hl hz rs=>?_;clear hx_;subst hr2_

  have e:=rs.length
  refine Calls.call_len_list (Heap.IsList.at hl (x.stays _)) (qT hz) (hQ _ _ _ _ (x.tok _) (.int _ _) ?_)
  simp only [wBi,wBi1,wLen] at w
  rw [e] at w;simpa using w
 | ref a=>
  obtain rfl:=ra.inv
  simp only [wBi,wBi1,wLen] at w
  split at w
  ·rename_i l hl
   refine ex2 (x.hrel _ _ hl) λ items k hx_=>an3 hx_ λ ho hz rs=>?_;clear hx_
   have e:=rs.length
   refine Calls.call_len_list ho.isList (qT hz) (hQ _ _ _ _ (x.tok _) (.int _ _) ?_)
   rw [e] at w;simpa using w
  ·rename_i d ep hd
   refine ex1 (x.hrel _ _ hd) λ kvs hx_=>an3 hx_ λ hk hz dr=>?_;clear hx_
   have e:=dr.length
   refine call_len_dict (knd:=intKind S.prog S.w) (x.notSys hd) hk.dictOf (by rw [<-e];exact qT hz) (hQ _ _ _ _ (x.tok _) (.int _ _) ?_)
   rw [e] at w;exact w
  ·exact w.elim
 | str y=>
  obtain ⟨t,rfl,_⟩:=ra.inv
  have w:y.length<=2 ^ 40/\Q (.int y.length) H:=w
  exact PySem.P.len_str (by have:=w.1;lia) (hQ _ _ _ _ (x.tok _) (.int _ _) w.2)
 | _=>exact w.elim

theorem yG {H:AH} {s:Shared} (x:SimG S H s) {h':Heap} {D k tk:Nat} {items:Array Value} {l:List AV} (hk:∀ b o,s.heap.get? b=some o->h'.get? b=some o) (hD:s.heap.get? D=.none) (ho:IsL h' D items k) (hz:items.size<=lid)
  (r:VRels S s.heap l items.toList):Go S [] s H { s with heap:=h',toks:=tk } (H.set D (.list l)):=
 x.new (h':=h') (ao:=.list l) hk hD ⟨items,k,ho,hz,r.mono λ b o e z_=>hk b o e⟩ tk

set_option tactic.hygienic true in
theorem pF {A:Around} {H:AH} {s:Shared} (hh:A.handled=.none) (x:SimG S H s) {a:AV} {v:Value} (ra:VRel S s.heap a v) {l:List AV} (e:zW a H=some l) {Q:AV->AH->Prop} {Q':Value->Shared->Prop} {E':Value->Shared->Prop}
  (hQ:∀ v av s' H',Go S [] s H s' H'->VRel S s'.heap av v->Q av H'->Q' v s') (w:newL l H Q):wpAny (model S.prog S.w) A (call (.type "list") [v]) Q' E' s:=by
 unfold zW wP at e
 cases a with
 | tup l_=>
  refine ex3 (ra.inv) λ _ _ _ hx_=>an4 hx_ λ hr3_ ho hz rs=>?_;clear hx_;subst hr3_

  simp at e;subst e
  exact call_list_seq _ (.inr rfl) ho rfl rfl (λ h' c' hk hD=>hQ _ _ _ _ (yG x hk (get?_size _) hD hz rs) (.ref _) (yL x w)) (zZ hz)
 | fro l_=>
  refine ex2 (ra.inv) λ _ _ hx_=>an4 hx_ λ hr2_ hl hz rs=>?_;clear hx_;subst hr2_

  simp at e;subst e
  obtain ⟨o,ho,hc,k,hd⟩:=Heap.IsList.at hl (x.stays _)
  exact call_list_seq _ (.inl rfl) ho hc hd (λ h' c' hk hD=>hQ _ _ _ _ (yG x hk (get?_size _) hD hz rs) (.ref _) (yL x w)) (zZ hz)
 | ref a=>
  obtain rfl:=ra.inv
  dsimp only at e
  split at e
  ·skip
   ·rename_i ls hl
    cases e
    refine ex2 (x.hrel _ _ hl) λ items k hx_=>an3 hx_ λ ho hz rs=>?_;clear hx_
    exact call_list_seq _ (.inl rfl) ho rfl rfl (λ h' c' hk hD=>hQ _ _ _ _ (yG x hk (get?_size _) hD hz rs) (.ref _) (yL x w)) (zZ hz)
  ·skip
   ·rename_i d ep hd
    cases e
    refine ex1 (x.hrel _ _ hd) λ kvs hx_=>an3 hx_ λ hk hz dr=>?_;clear hx_
    have el:=dr.length
    refine kdl_call (kdl_dict (knd:=intKind S.prog S.w) (kvs:=kvs) (ep:=ep) (x.notSys hd)) hh hk (zZ (by lia)) λ h' tk acc c' hk' hD hacc=>?_
    refine hQ _ _ _ _ (yG (tk:=tk) x hk' (get?_size _) hD (by rw [hacc.1];lia) (qU dr (by simpa using hacc.1) λ j v hj=>hacc.2 j v (by simpa using hj))) (.ref _) (yL x w)
  ·cases e
 | _=>simp at e

set_option tactic.hygienic true in
theorem sD {A:Around} {H:AH} {s:Shared} (hh:A.handled=.none) (x:SimG S H s) {a:AV} {v:Value} (ra:VRel S s.heap a v) {l:List AV} {ns:List Int} (e:zW a H=some l) (ei:z4 l=some ns) (h64:ns.length < 64) (hnt:∀ t,a≠.tup t) {Q:AV->AH->Prop} {Q':Value->Shared->Prop} {E':Value->Shared->Prop}
  (hQ:∀ v av s' H',Go S [] s H s' H'->VRel S s'.heap av v->Q av H'->Q' v s') (w:newL ((zA ns).map .int) H Q):wpAny (model S.prog S.w) A (call (.builtin "sorted") [v]) Q' E' s:=by
 have byList:∀ (a:Nat) (items:Array Value),s.heap.IsList a items->VRels S s.heap l items.toList->wpAny (model S.prog S.w) A (call (.builtin "sorted") [.ref a]) Q' E' s:=λ a items hl rs=>by
  have hi:=vB rs ei
  have hlen:=IntsAre.length hi
  have hsz:items.toList.length < 64:=by lia
  refine sorted_ints (vs:=items.toList) (by simpa using hl) hi hsz λ out ns' a1 a2 a3=>?_
  obtain ⟨k,he⟩:=sortedAll_at s.heap items.toList out
  have hn:ns'=zA ns:=ud a2 a3
  subst hn
  have hout:out.size<=lid:=by
   have h1:=IntsAre.length a1;have h2:=a2.length_eq;simp at h1;unfold lid;lia
  exact hQ _ _ _ _ (yG (tk:=s.toks) x (λ b o e=>sortedAll_old e) (get?_none_of_ge (Nat.le_succ _)) he hout (nH a1)) (.ref _) (w _ (x.hrel.fresh (get?_none_of_ge (Nat.le_succ _))))
 unfold zW wP at e
 cases a with
 | tup l_=>
  refine ex3 (ra.inv) λ _ _ _ hx_=>an4 hx_ λ hr3_ ho hz rs=>?_;clear hx_;subst hr3_
  exact absurd rfl (hnt _)
 | fro l_=>
  refine ex2 (ra.inv) λ _ _ hx_=>an4 hx_ λ hr2_ hl hz rs=>?_;clear hx_;subst hr2_

  simp at e;subst e
  exact byList _ _ (Heap.IsList.at hl (x.stays _)) rs
 | ref a=>
  obtain rfl:=ra.inv
  dsimp only at e
  split at e
  ·skip
   ·rename_i ls hl
    cases e
    refine ex2 (x.hrel _ _ hl) λ items k hx_=>an3 hx_ λ ho hz rs=>?_;clear hx_
    exact byList _ _ ho.isList rs
  ·skip
   ·rename_i d ep hd
    cases e
    refine ex1 (x.hrel _ _ hd) λ kvs hx_=>an3 hx_ λ hk hz dr=>?_;clear hx_
    have el:=dr.length
    refine Calls.call_function_entry kind_sorted plain_sorted entry_sorted (args_sorted1 _) ?_
    unfold Builtin.«sorted»
    refine wpAny_bind (m:=checkCount "sorted" 1 1 _) (wpAny_pure ?_)
    refine wpAny_bind (kdu_collect (A:=A.in1) (kdl_dict (knd:=intKind S.prog S.w) (kvs:=kvs) (ep:=ep) (x.notSys hd)) hh hk (zZ (by lia)) λ h' tk acc hk' hacc=>?_)
    have hrel:=qU dr (vs:=acc.toList) (by simpa using hacc.1) λ j v hj=>hacc.2 j v (by simpa using hj)
    have hi:=vB hrel ei
    have hlen:=IntsAre.length hi
    have hsz:acc.toList.length < 64:=by lia
    refine wpAny_bind (wpAny_newList ?_ (zZ (by unfold lid;lia)))
    have hoL:(h'.push (seqObj "list" acc.toList.toArray 0)).get? h'.objs.size=some (seqObj "list" acc.toList.toArray 0):=Heap.get?_push_size _ rfl
    refine wpAny_bind (wpAny_holding (wpAny_call_entry slot_list_sort ⟨_,hoL,rfl⟩ entry_list_sort (list_sort_tree hoL hi hsz λ out ns' a1 a2 a3=>⟨_,rfl,?_⟩) (args_list_sort _)))
    refine wpAny_pure ⟨_,rfl,?_⟩
    obtain ⟨k,he⟩:=sortedHeap_at (out:=out) hoL
    have hn:ns'=zA ns:=ud a2 a3
    subst hn
    have hout:out.size<=lid:=by
     have h1:=IntsAre.length a1;have h2:=a2.length_eq;simp at h1;unfold lid;lia
    have keep:∀ b o,s.heap.get? b=some o->(sortedHeap (h'.push (seqObj "list" acc.toList.toArray 0)) h'.objs.size acc.toList out).get? b=some o:=λ b o e=>by
     have e':=hk' b o e
     have hlt:=wT e'
     rw [sortedHeap_old (Nat.ne_of_lt hlt) (by rw [Heap.size_push];exact Nat.lt_succ_of_lt hlt)]
     exact Heap.get?_push_of_some _ e'
    have hfresh:s.heap.get? h'.objs.size=.none:=by
     cases q:s.heap.get? h'.objs.size with
     | none=>rfl
     | some o=>have:=wT (hk' _ _ q);lia
    exact hQ _ _ _ _ (yG (tk:=tk) x keep hfresh he hout (nH a1)) (.ref _) (w _ (x.hrel.fresh hfresh))
  ·cases e
 | _=>simp at e

theorem rB (l:List Int):∀ (x:Int),(yU x l=x\/yU x l∈l)/\yU x l<=x/\∀ y∈l,yU x l<=y:=by
 induction l with
 | nil=>
  intro x
  simp [yU]
 | cons y r ih_=>
  intro x
  unfold yU
  refine an3 (ih_ (if y < x then y else x)) λ h1 h2 h3=>?_
  by_cases q:y < x
  ·rw [if_pos q] at *
   refine ⟨.inr ?_,by lia,λ z hz=>?_⟩
   ·rcases h1 with h1 | h1
    ·rw [h1];exact .head _
    ·exact .tail _ h1
   ·rcases List.mem_cons.mp hz with rfl | hz
    ·exact h2
    ·exact h3 z hz
  ·rw [if_neg q] at *
   refine ⟨?_,h2,λ z hz=>?_⟩
   ·rcases h1 with h1 | h1
    ·exact .inl h1
    ·exact .inr (.tail _ h1)
   ·rcases List.mem_cons.mp hz with rfl | hz
    ·lia
    ·exact h3 z hz
theorem rE {M x:Int} {l:List Int} (hm:M∈x::l) (hle:∀ y∈x::l,M<=y):M=yU x l:=by
 refine an3 (rB l x) λ h1 h2 h3=>?_
 have a:yU x l<=M:=by
  rcases List.mem_cons.mp hm with rfl | hm
  ·exact h2
  ·exact h3 _ hm
 have b:M<=yU x l:=by
  rcases h1 with h1 | h1
  ·rw [h1];exact hle _ (.head _)
  ·exact hle _ (.tail _ h1)
 lia

theorem rF {vs:List Value} {ns:List Int} (r:IntsAre vs ns):∃ xs:List (Int×Tok),vs=xs.map (λ p=>.int p.1 p.2)/\ns=xs.map (·.1):=by
 induction r with
 | nil=>exact ⟨[],rfl,rfl⟩
 | cons i t r ih=>
  refine ex1 (ih) λ xs hx_=>an2 hx_ λ h1 h2=>?_;clear hx_;(try clear ih)
  exact ⟨(i,t)::xs,congrArg (_::·) h1,congrArg (_::·) h2⟩

theorem nJ {A:Around} {H:AH} {s:Shared} (hh:A.handled=.none) (x:SimG S H s) {a:Nat} {l:List AV} {y:Int} {ns:List Int} (e:H a=some (.list l)) (ei:z4 l=some (y::ns)) {Q':Value->Shared->Prop} {E':Value->Shared->Prop}
  (hQ:∀ t s',Go S [] s H s' H->Q' (.int (yU y ns) t) s'):wpAny (model S.prog S.w) A (call (.builtin "min") [.ref a]) Q' E' s:=by
 have best:∀ (xs:Array (Int×Tok)),y::ns=xs.toList.map (·.1)->∀ v,(intItems xs)[argBest (λ i j=>decide (numAt xs i < numAt xs j)) (xs.size - 1)]?=some v->∃ t,v=.int (yU y ns) t:=λ xs hx v hv=>by
  obtain ⟨t,rfl⟩:=intItems_at hv
  refine ⟨t,?_⟩
  have hsz:0 < xs.size:=by have:=congrArg List.length hx;simp at this;omega
  obtain ⟨h1,h2⟩:=argBest_lt (numAt xs) (xs.size - 1)
  have hnum:∀ i,i < xs.size->numAt xs i=(y::ns).getD i 0:=λ i hi=>by
   rw [hx];simp [numAt,List.getD_eq_getElem?_getD,hi]
  have hL:(y::ns).length=xs.size:=by rw [hx];simp
  congr 1
  refine rE ?_ λ z hz=>?_
  ·rw [hnum _ (by omega)]
   rw [List.getD_eq_getElem?_getD,List.getElem?_eq_getElem (by omega)]
   exact List.getElem_mem _
  ·obtain ⟨i,hi,rfl⟩:=List.mem_iff_getElem.mp hz
   have:=h2 i (by omega)
   rw [hnum i (by omega),List.getD_eq_getElem?_getD,List.getElem?_eq_getElem hi] at this
   exact this
 refine ex2 (x.hrel _ _ e) λ items k hx_=>an3 hx_ λ ho hz rs=>?_;clear hx_
 refine ex1 (rF (vB rs ei)) λ xs hx_=>an2 hx_ λ h1 h2=>?_;clear hx_
 have hit:items=intItems xs.toArray:=by apply Array.toList_inj.mp;rw [h1];simp [intItems]
 subst hit
 refine min_intList hh ho.isList (by have:=congrArg List.length h2;simp at this;simp;omega) λ v h' tk hv hk=>?_
 obtain ⟨t,rfl⟩:=best xs.toArray (by simpa using h2) v hv
 exact hQ t _ (x.keeps hk tk)

end


noncomputable def Stat.gv (S:Stat) (x:Str):Option Value:=match S.mg x with | some v=>some v | none=>S.mb x

noncomputable def NS (e:Expr):Prop:=∀ r env,starEach (e::r) env=(false,eval e env)::starEach r env

section
variable {S:Stat} {C:Calls} {n:Nat} {Fly:FlyT} {cx:Cx}

theorem y9 {env:Env} (ok:CxOk cx env) {H:AH} {s:Shared} (x:SimG S H s) {f:Str} {pos:Pos} {v:Value} (hx:cx.sc.lookup f=some .globalImplicit) (hv:S.gv f=some v) (hd:(f == ("__debug__":Str))=false) {M:Model} {A:Around} {Q:Value->Shared->Prop} {E:Value->Shared->Prop}
  (h:Q v s):wpAny M A (eval (.Name f pos) env) Q E s:=by
 refine Calls.Name_function_global ok.kind (ok.names f hx) ?_ hd
 have hg:s.heap.Ns env.globals S.mg:=by rw [ok.globals];exact x.ok.hg.keeps x.stays
 have hb:s.heap.Ns env.builtins S.mb:=by rw [ok.builtins];exact x.ok.hb.keeps x.stays
 unfold Stat.gv at hv
 cases q:S.mg f with
 | some u=>rw [q] at hv;cases hv;exact Calls.loadGlobal_global hg q h
 | none=>rw [q] at hv;exact Calls.loadGlobal_builtin hg q hb hv h

theorem wX:∀ {es:List Expr},(∀ e∈es,NS e)->∀ (env:Env) (pos:Pos),(backTo pos (starEach es env)).any (·.1)=false
 | [],_,_,_=>rfl
 | e::r,h,env,pos=>by
  rw [h e (.head _)]
  show (false||(backTo pos (starEach r env)).any (·.1))=false
  rw [wX (λ e he=>h e (.tail _ he)) env pos];rfl

theorem xO {M:Model} {A:Around} {E:Value->Shared->Prop} {s:Shared} {f:Value} {es:List Expr} {env:Env} {pos:Pos} {Q:Args->Shared->Prop} (hns:∀ e∈es,NS e)
  (h:wpAny M A (spliced (backTo pos (starEach es env))) (λ vs s'=>Q ⟨vs,[]⟩ s') E s):wpAny M A (evalArgs f true (backTo pos (starEach es env)) []) Q E s:=by
 cases es with
 | nil=>
  show wpAny M A (evalArgs f true [] []) Q E s
  unfold evalArgs
  show wpAny M A (spliced [] >>= _) Q E s
  refine wpAny_bind (wpAny_mono h (λ vs s' h'=>?_) λ z_ z_ x=>x)
  refine wpAny_bind (wpAny_pure ?_)
  refine wpAny_holding ?_
  exact wpAny_bind (wpAny_pure (wpAny_bind (wpAny_pure (wpAny_pure h'))))
 | cons e r=>
  rw [hns e (.head _)] at h |-
  exact Calls.evalArgs_plain h


noncomputable def eP (f:Value):Prop:=(∃ id,f=.builtin id)\/∃ T,f=.type T
theorem y6 {M:Model} {A:Around} {E:Value->Shared->Prop} {s:Shared} {f:Value} {first:List Value} {es:List Expr} {env:Env} {pos:Pos} {Q:Value->Shared->Prop} (hf:eP f) (hns:∀ e∈es,NS e)
  (h:wpAny M A (spliced (backTo pos (starEach es env))) (λ vs aB=>wpAny M A (call f (first++vs)) Q E aB) E s):wpAny M A (callWith pos f first (backTo pos (starEach es env)) []) Q E s:=by
 rcases hf with ⟨id,rfl⟩ | ⟨T,rfl⟩
 ·exact Calls.callWith_builtin (wX hns env pos) (xO hns h)
 ·exact PySem.callWith_type (wX hns env pos) (xO hns h)

noncomputable def nK:Bi->Value
 | .len=>.builtin "len"
 | .list=>.type "list"
 | .sorted=>.builtin "sorted"
 | .min=>.builtin "min"
 | .int=>.type "int"
 | .str=>.type "str"
 | .tuple=>.type "tuple"
 | .set _=>.type "set"
theorem gQ (b:Bi):eP (nK b):=by cases b<;>first | exact .inl ⟨_,rfl⟩ | exact .inr ⟨_,rfl⟩

theorem gR {i:Int} (h:i.natAbs < 10 ^ 10):i.natAbs.log2 < 1920:=by
 by_cases z:i.natAbs=0
 ·rw [z];decide
 ·have:=Nat.log2_lt z (k:=1920)
  exact this.mpr (Nat.lt_of_lt_of_le h (Nat.le_trans (m:=2 ^ 34) (by decide) (Nat.pow_le_pow_right (by decide) (by decide))))
theorem eQ (i:Int):PyData.strOk (Str.ofString (toString i))=true:=by
 rw [Str.ofString_eq_toList]
 unfold PyData.strOk
 rw [Array.all_eq_true]
 intro j hj
 have h:j < ((toString i).toList.map Char.toNat).length:=by simpa using hj
 have:((toString i).toList.map Char.toNat)[j] < 0x110000:=by
  rw [List.getElem_map]
  generalize (toString i).toList[j]'(by simpa using h)=c
  have:=c.valid
  unfold UInt32.isValidChar Nat.isValidChar at this
  show c.val.toNat < _
  lia
 simpa using this
theorem kI {H:AH} {s:Shared} (x:SimG S H s) {h':Heap} {items:Array Value} {l:List AV} (hk:∀ b o,s.heap.get? b=some o->h'.get? b=some o) (hz:items.size<=lid) (rs:VRels S s.heap l items.toList) {G:Prop}
  (k:VRel S (h'.push { cls:=.type "tuple",data:=.seq items }) (.tup l) (.ref h'.objs.size)->Go S [] s H { s with heap:=h'.push { cls:=.type "tuple",data:=.seq items } } H->G):G:=by
 have hk':∀ b o,s.heap.get? b=some o->(h'.push { cls:=.type "tuple",data:=.seq items }).get? b=some o:=λ b o e=>zU _ _ b o (hk b o e)
 exact k (.tup (Heap.get?_push_size _ rfl) hz (rs.mono λ b o e z_=>hk' b o e)) (x.keeps hk' s.toks)
set_option tactic.hygienic true in
theorem kJ {A:Around} {H:AH} {s:Shared} (hh:A.handled=.none) (x:SimG S H s) {b:Bi} {as:List AV} {vs:List Value} (ra:VRels S s.heap as vs) {Q:AV->AH->Prop} {Q':Value->Shared->Prop} {E':Value->Shared->Prop}
  (hQ:∀ v av s' H',Go S [] s H s' H'->VRel S s'.heap av v->Q av H'->Q' v s') (w:wBi b as H Q):wpAny (model S.prog S.w) A (call (nK b) vs) Q' E' s:=by
 unfold wBi at w
 split at w
 ·rename_i v
  cases ra with
  | cons r rr=>
   cases rr
   cases b with
   | len=>exact nI x r hQ w
   | list=>
    have w:(match zW v H with | some l=>newL l H Q | .none=>False):=w
    split at w
    ·rename_i l e;exact pF hh x r e hQ w
    ·exact w.elim
   | sorted=>
    have w:su v H Q:=w
    unfold su at w
    split at w
    ·split at w
     ·rename_i l e
      cases q:zW (.ref _) H with
      | none=>rw [q] at e;cases e
      | some k=>
       rw [q] at e
       exact sD hh x r q e w.1 (by intro t z;cases z) hQ w.2
     ·exact w.elim
    ·exact w.elim
   | min=>
    have w:wMin v H Q:=w
    unfold wMin at w
    split at w
    ·cases r
     split at w
     ·rename_i l hl
      split at w
      ·rename_i t e
       split at w
       ·exact nJ hh x hl e λ t s' g=>hQ _ _ _ _ g (.int _ _) w
       ·exact w.elim
      ·exact w.elim
     ·exact w.elim
    ·exact w.elim
   | int=>
    have w:oS v H Q:=w
    unfold oS at w
    split at w
    ·cases r
     exact call_int_bool (hQ _ _ _ _ (x.tok _) (.int _ _) w)
    ·split at w
     ·rename_i e
      obtain ⟨t,rfl,_⟩:=r.inv
      exact KIN.call_text e w.1 (hQ _ _ _ _ (x.tok _) (.int _ _) w.2)
     ·exact w.elim
    ·exact w.elim
   | str=>
    have w:wStr v H Q:=w
    unfold wStr at w
    split at w
    ·obtain ⟨t,rfl⟩:=r.inv
     refine PySem.P.str_of_int (by have:=w.1;exact gR this) (hQ _ _ _ _ (x.tok _) (.str _ _ (eQ _)) w.2)
    ·obtain ⟨t,rfl,ok⟩:=r.inv
     exact PySem.P.str_of_str (hQ _ _ _ _ (x.refl []) (.str _ _ ok) w)
    ·exact w.elim
   | tuple=>
    have w:td v H Q:=w
    unfold td at w
    split at w
    ·obtain rfl:=r.inv
     split at w
     ·rename_i l hl
      refine ex2 (x.hrel _ _ hl) λ items k hx_=>an3 hx_ λ ho hz rs=>?_;clear hx_
      exact call_tuple_list ho.isList (λ h' hk=>kI x hk hz rs λ r g=>hQ _ _ _ _ g r w) (zZ hz)
     ·exact w.elim
    ·exact w.elim
   | _=>exact (show False from w).elim
 ·exact w.elim

theorem se_bi {f:Str} {b:Bi} {es:List Expr} {ies:IEs} {np pos:Pos} (hx:cx.sc.lookup f=some .globalImplicit) (hv:S.gv f=some (nK b)) (hd:(f == ("__debug__":Str))=false) (hq:cx.q=true) (hns:∀ e∈es,NS e) (he:SEs S C n Fly cx es ies) :
  SE S C n Fly cx (.Call (.Name f np) es [] pos) (.bi b ies):=λ env A X m H s Q Q' E' ok room hd' sim hX hQ w=>by
 conv at w=>whnf
 refine Call_ (y9 ok sim.toSimG hx hv hd ?_)
 refine y6 (gQ b) hns (he env A X m H s _ _ E' pos ok room hd' sim hX (λ vs avs aB aD aA aF bT aC=>?_) w)
 exact kJ (hd' hq) (sim.go aA).toSimG aF (λ v av s' H' g r w=>hQ v av s' H' (aA.trans g) r w) aC

noncomputable def nP (S:Stat):Ty->Value
 | .int=>.type "int"
 | .bool=>.type "bool"
 | .list=>.type "list"
 | .tuple=>.type "tuple"
 | .str=>.type "str"
 | .own c=>.ref (S.own c)

set_option tactic.hygienic true in
theorem yc {A:Around} {H:AH} {s:Shared} (x:SimG S H s) {a:AV} {v:Value} (ra:VRel S s.heap a v) {t:Ty} {b:Bool} (e:isOf a t H=some b) (hb:∀ c,a≠.exc c) {Q':Value->Shared->Prop} {E':Value->Shared->Prop}
  (hQ:∀ tk,Q' (.bool b) { s with toks:=tk }):wpAny (model S.prog S.w) A (call (.builtin "isinstance") [v,nP S t]) Q' E' s:=by
 cases ra with
 | none=>cases t<;>first | exact nomatch (show (Option.none:Option Bool)=some b from e) | (cases Option.some.inj (show some _=some b from e);first | exact IsiPair.NoneType_int (hQ _) | exact IsiPair.NoneType_bool (hQ _) | exact IsiPair.NoneType_tuple (hQ _))
 | bool c=>cases t<;>first | exact nomatch (show (Option.none:Option Bool)=some b from e) | (cases Option.some.inj (show some _=some b from e);first | exact IsiPair.bool_int (hQ s.toks) | exact IsiPair.bool_bool (hQ s.toks))
 | int i u=>cases t<;>first | exact nomatch (show (Option.none:Option Bool)=some b from e) | (cases Option.some.inj (show some _=some b from e);first | exact IsiPair.int_int (hQ s.toks) | exact IsiPair.int_bool (hQ _) | exact IsiPair.int_tuple (hQ _) | exact IsiPair.int_str (hQ _))
 | str y u ok=>cases t<;>first | exact nomatch (show (Option.none:Option Bool)=some b from e) | (cases Option.some.inj (show some _=some b from e);first | exact IsiPair.str_int (hQ _) | exact IsiPair.str_str (hQ s.toks))
 | tup ho hz rs=>cases t<;>first | exact nomatch (show (Option.none:Option Bool)=some b from e) | (cases Option.some.inj (show some _=some b from e);first | exact IsiPair.tuple_int ho rfl (hQ _) | exact IsiPair.tuple_tuple ho rfl (hQ s.toks))
 | exc=>exact absurd rfl (hb _)
 | fro=>cases t<;>exact nomatch (show (Option.none:Option Bool)=some b from e)
 | ref a=>
  cases t with
  | list=>
   have e:(match H a with | some (.list _)=>some true | _=>Option.none)=some b:=e
   split at e
   ·rename_i l hl
    cases e
    refine ex2 (x.hrel _ _ hl) λ items k hx_=>an3 hx_ λ ho hz rs=>?_;clear hx_
    exact IsiPair.list_list ho rfl (hQ s.toks)
   ·cases e
  | tuple=>
   have e:(match H a with | some (.list _)=>some false | _=>Option.none)=some b:=e
   split at e
   ·rename_i l hl
    cases e
    refine ex2 (x.hrel _ _ hl) λ items k hx_=>an3 hx_ λ ho hz rs=>?_;clear hx_
    exact IsiPair.list_tuple ho rfl (hQ _)
   ·cases e
  | _=>exact nomatch (show (Option.none:Option Bool)=some b from e)

noncomputable def ExcIs (S:Stat):Prop:=∀ (A:Around) (s:Shared) (a c:Nat) (o:Obj) (t:Ty) (b:Bool) (H:AH) (Q':Value->Shared->Prop) (E':Value->Shared->Prop),SimG S H s->s.heap.get? a=some o->o.cls=.ref (S.own c)->(∃ vs,o.data=.fields vs)->isOf (.exc c) t H=some b->
 (∀ tk,Q' (.bool b) { s with toks:=tk })->wpAny (model S.prog S.w) A (call (.builtin "isinstance") [.ref a,nP S t]) Q' E' s

set_option tactic.hygienic true in
theorem nQ {f ty:Str} {t:Ty} {e:Expr} {ie:IE} {np tp pos:Pos} (hE:ExcIs S\/∀ c H,isOf (.exc c) t H=.none) (hx:cx.sc.lookup f=some .globalImplicit) (hv:S.gv f=some (.builtin "isinstance")) (hd:(f == ("__debug__":Str))=false)
  (hx2:cx.sc.lookup ty=some .globalImplicit) (hv2:S.gv ty=some (nP S t)) (hd2:(ty == ("__debug__":Str))=false) (hns:NS e) (he:SE S C n Fly cx e ie) :
  SE S C n Fly cx (.Call (.Name f np) [e,.Name ty tp] [] pos) (.isinst ie t):=λ env A X m H s Q Q' E' ok room hd' sim hX hQ w=>by
 conv at w=>whnf
 have hns':∀ x∈[e,Expr.Name ty tp],NS x:=λ x hx=>by
  rcases List.mem_cons.mp hx with rfl | hx
  ·exact hns
  ·rcases List.mem_cons.mp hx with rfl | hx
   ·intro r env;rfl
   ·cases hx
 refine Call_ (y9 ok sim.toSimG hx hv hd ?_)
 refine y6 (.inl ⟨_,rfl⟩) hns' (args_cons ?_ (hns _ _))
 refine he env A X m H s _ _ E' ok room hd' sim hX (λ v av aB aD aA aF aC=>?_) w
 refine args_cons (y9 ok (sim.go aA).toSimG hx2 hv2 hd2 (args_nil ?_)) rfl
 split at aC
 ·rename_i b eb
  have fin:∀ tk,Q' (.bool b) { aB with toks:=tk }:=λ tk=>hQ _ _ _ _ (aA.trans ((sim.go aA).tok tk)) (.bool _) aC
  cases aF with
  | exc ho hc hdat hb=>
   rcases hE with hE | hE
   ·exact hE A aB _ _ _ t b aD Q' E' (sim.go aA).toSimG ho hc hdat eb fin
   ·rw [hE] at eb;cases eb
  | none=>exact yc (sim.go aA).toSimG .none eb (by intro c z;cases z) fin
  | bool y=>exact yc (sim.go aA).toSimG (.bool y) eb (by intro c z;cases z) fin
  | int y u=>exact yc (sim.go aA).toSimG (.int y u) eb (by intro c z;cases z) fin
  | str y u o=>exact yc (sim.go aA).toSimG (.str y u o) eb (by intro c z;cases z) fin
  | ref y=>exact yc (sim.go aA).toSimG (.ref y) eb (by intro c z;cases z) fin
  | tup y1 y2 y3=>exact yc (sim.go aA).toSimG (.tup y1 y2 y3) eb (by intro c z;cases z) fin
  | fro y1 y2 y3=>exact yc (sim.go aA).toSimG (.fro y1 y2 y3) eb (by intro c z;cases z) fin
 ·exact aC.elim

theorem kK (v:Value):∀ k:Nat,List.foldl (λ x1 x2=>x1++x2) #[] (List.replicate k #[v])=(List.replicate k v).toArray:=by
 have gen:∀ (k:Nat) (acc:Array Value),List.foldl (λ x1 x2=>x1++x2) acc (List.replicate k #[v])=acc++(List.replicate k v).toArray:=by
  intro k
  induction k with
  | zero=>intro acc;simp
  | succ k ih=>
   intro acc
   rw [List.replicate_succ,List.foldl_cons,ih,List.replicate_succ]
   apply Array.toList_inj.mp
   simp [-List.toArray_replicate]
 intro k;rw [gen];simp

theorem eR {l r:Expr} {a b:IE} {lp pos:Pos} (ha:SE S C n Fly cx l a) (hb:SE S C n Fly cx r b) (hns:NS l):SE S C n Fly cx (.BinOp (.List [l] lp) .Mult r pos) (.rep a b):=λ env A X m H s Q Q' E' ok room hd sim hX hQ w=>by
 conv at w=>whnf
 refine wpAny_BinOp (wpAny_List (args_cons ?_ (hns _ _)))
 refine ha env A X m H s _ _ E' ok room hd sim hX (λ v av aB aD aA aF aC=>?_) w
 refine args_nil ⟨zZ (by simp [lid]),?_⟩
 have aK:=(sim.go aA).toSimG
 have gp:Go S [] aB aD { aB with heap:=aB.heap.push { cls:=.type "list",data:=.seq [v].toArray } } aD:=aK.keeps (h':=aB.heap.push _) (zU _ _) aB.toks
 have g1p:=aA.trans gp
 refine hb env A X m aD _ _ _ E' ok room hd (sim.go g1p) (λ c e s' H' g x f=>hX c e s' H' (g1p.trans g) x (f.back g1p)) (λ u au aH aM aE aL aI=>?_) aC
 have aS:=(sim.go (g1p.trans aE)).toSimG
 have hl:aH.heap.get? aB.heap.objs.size=some { cls:=.type "list",dict:=none,data:=.seq #[v] 0,slots:=#[] }:=by
  have e0:(aB.heap.push { cls:=.type "list",data:=.seq [v].toArray }).get? aB.heap.objs.size=some { cls:=.type "list",data:=.seq [v].toArray }:=Heap.get?_push_size _ rfl
  with_reducible refine ex1 (aE.ext.kept _ _ e0 (aK.hrel.fresh (get?_size _)) (by simp)) λ o' hx_=>an2 hx_ λ e' k=>?_;clear hx_
  rw [k.eq (by intro _ _ z;cases z)] at e'
  exact e'
 cases aL with
 | int i t=>
  obtain ⟨⟨h0,h1⟩,aI⟩:=aI
  have rv:=(aF.go aK gp).go ((sim.go g1p).toSimG) aE
  have hit:¬ ((#[v]:Array Value).isEmpty=true):=by simp
  have hsz:¬ ((#[v]:Array Value).size * i.toNat > (2 ^ 63 - 1) / 8):=by simp;unfold lid at h1;lia
  refine wpAny_binaryOp_repeat_ref (T:="list") (U:="int") (by decide) ⟨_,hl,rfl⟩ (λ s'=>typeIs_int s' i t) noFill_list_mul F.fills_int_mul F.slot_int_rmul repeat_list F.slot_int_index.lookup
   (call_meets F.slot_int_rmul (typeIs_int aH i t) F.entry_int_rmul (F.args_int_rmul_2 _ _) (int___rmul___int_list i t _ #[v] 0)
    ⟨hl,rfl,⟨_,hl,rfl⟩,call_meets F.slot_list_mul ⟨_,hl,rfl⟩ F.entry_list_mul (F.args_list_mul_2 _ _)
     (AutoListH.list___mul___list_int_3 _ #[v] 0 i t (by simp [Builtin.List.listFitsIndex];unfold lid at h1;lia) hsz (by simp [Builtin.List.listTooLong,sizeLine];unfold lid at h1;lia))
     ⟨hl,?_⟩⟩)
  rw [if_neg hit,kK]
  exact hQ _ _ _ _ ((g1p.trans aE).trans (v7 aS (VRels.replicate rv i.toNat) (by simp;lia))) (.ref _) (yL aS aI)
 | _=>exact aI.elim

theorem VRels.concat {h:Heap} {l:List AV} {items:Array Value} {a:AV} {v:Value} (r:VRels S h l items.toList) (ra:VRel S h a v):VRels S h (l++[a]) (items.push v).toList:=by
 rw [Array.toList_push];exact r.append (.cons ra .nil)
theorem VRels.set {h:Heap} {l:List AV} {vs:List Value} {a:AV} {v:Value} (r:VRels S h l vs) (ra:VRel S h a v):∀ k:Nat,VRels S h (l.set k a) (vs.set k v):=
 r.ind (M:=λ l vs=>∀ k:Nat,VRels S h (l.set k a) (vs.set k v)) (λ z_=>.nil) λ x r ih k=>by
  cases k with
  | zero=>exact .cons ra r
  | succ k=>exact .cons x (ih k)
theorem VRels.last {h:Heap} {l:List AV} {items:Array Value} {a:AV} (r:VRels S h l items.toList) (e:l.getLast?=some a):∃ v,items[items.size - 1]?=some v/\VRel S h a v:=by
 have hl:=r.length
 rw [List.getLast?_eq_getElem?] at e
 with_reducible refine ex1 (r.get e) λ v hx_=>an2 hx_ λ hv rv=>?_;clear hx_
 simp at hl
 rw [hl] at hv
 exact ⟨v,by simpa using hv,rv⟩
theorem VRels.init {h:Heap} {l:List AV} {items:Array Value} (r:VRels S h l items.toList):VRels S h l.dropLast (items.eraseIdxIfInBounds (items.size - 1)).toList:=by
 have hl:=r.length
 simp at hl
 have e:(items.eraseIdxIfInBounds (items.size - 1)).toList=items.toList.take (items.size - 1):=by
  rw [Array.toList_eraseIdxIfInBounds]
  rw [List.eraseIdx_eq_take_drop_succ]
  rw [List.drop_of_length_le (by simp;lia)]
  simp
 rw [e,List.dropLast_eq_take,hl]
 exact r.take _

theorem pG (kvs:List (Int×Value)) (k:Int):without kvs k=kvs.filter λ p=>!decide (p.1=k):=by
 unfold without
 congr 1
 funext p
 by_cases q:p.1=k<;>simp [q]

theorem DRel.del {h:Heap} {d:List (Int×AV)} {kvs:List (Int×Value)} (r:DRel S h d kvs) (k:Int):DRel S h (ddel d k) (without kvs k):=by
 rw [pG];unfold ddel
 induction r with
 | nil=>exact .nil
 | @cons j a v d kvs x _ ih=>
  by_cases q:j=k
  ·simp only [List.filter_cons,q,decide_true,Bool.not_true,Bool.false_eq_true,if_false];exact ih
  ·simp only [List.filter_cons,q,decide_false,Bool.not_false,if_true];exact .cons x ih
theorem DRel.anyKey {h:Heap} {d:List (Int×AV)} {kvs:List (Int×Value)} (r:DRel S h d kvs) (k:Int):d.any (λ p=>decide (p.1=k))=kvs.any λ p=>decide (p.1=k):=by
 induction r with
 | nil=>rfl
 | cons x _ ih=>simp only [List.any_cons,ih]
theorem DRel.mapSet {h:Heap} {d:List (Int×AV)} {kvs:List (Int×Value)} (r:DRel S h d kvs) (k:Int) {a:AV} {v:Value} (ra:VRel S h a v):DRel S h (d.map λ p=>if p.1=k then (p.1,a) else p) (kvs.map λ p=>if p.1=k then (p.1,v) else p):=by
 induction r with
 | nil=>exact .nil
 | @cons j a' v' d kvs x _ ih=>
  simp only [List.map_cons]
  by_cases q:j=k
  ·rw [if_pos q,if_pos q];exact .cons ra ih
  ·rw [if_neg q,if_neg q];exact .cons x ih
theorem DRel.snoc {h:Heap} {d:List (Int×AV)} {kvs:List (Int×Value)} (r:DRel S h d kvs) (k:Int) {a:AV} {v:Value} (ra:VRel S h a v):DRel S h (d++[(k,a)]) (kvs++[(k,v)]):=by
 induction r with
 | nil=>exact .cons ra .nil
 | cons x _ ih=>exact .cons x ih
theorem DRel.put {h:Heap} {d:List (Int×AV)} {kvs:List (Int×Value)} (r:DRel S h d kvs) (k:Int) {a:AV} {v:Value} (ra:VRel S h a v):DRel S h (dset d k a) (stored kvs k v):=by
 unfold dset stored
 rw [r.anyKey k]
 split
 ·exact r.mapSet k ra
 ·exact r.snoc k ra
theorem rH (d:List (Int×AV)) (k:Int) (a:AV):(dset d k a).length<=d.length+1:=by
 unfold dset;split<;>simp
theorem rI (d:List (Int×AV)) (k:Int):(ddel d k).length<=d.length:=List.length_filter_le _ _

noncomputable def kN:Nat->Str
 | 0=>"append"
 | 1=>"pop"
 | 2=>"get"
 | _=>"zzz"

theorem iP {H:AH} {s:Shared} {a ep:Nat} {d:List (Int×AV)} {kvs:List (Int×Value)} {y:Int} {a':AV} {v:Value} {h':Heap} {t:Nat} (x:SimG S H s) (hd:H a=some (.dict d ep)) (dr:DRel S s.heap d kvs) (hz:d.length<=lid) {Q:AV->AH->Prop} {Q':Value->Shared->Prop}
  (hQ:∀ v av s' H',Go S [] s H s' H'->VRel S s'.heap av v->Q av H'->Q' v s') (ry:VRel S s.heap a' v) (hm:Heap.DictOf (intKind S.prog S.w) h' a (without kvs y)) (sb:Heap.SameBut a s.heap h') (w:∀ ep,Q a' (H.set a (.dict (ddel d y) ep))):Q' v { heap:=h',gens:=s.gens,drawn:=s.drawn,toks:=t,os:=s.os }:=by
 obtain ⟨ep',hk'⟩:=hm.dictAt
 have lk:zN s.heap h':=λ b o e l=>by
  by_cases q:b=a
  ·subst q;exact absurd l ((x.hrel b _ hd).notLeant e)
  ·exact (sb.2 b q).trans e
 exact hQ _ _ _ _ (x.upd (ao':=.dict (ddel d y) ep') sb hd (λ lk=>⟨_,hk',Nat.le_trans (rI d y) hz,(dr.del y).mono lk⟩) _) (ry.mono lk) (w ep')

theorem rJ (items:Array Value) (j:Nat):(items.eraseIdxIfInBounds j).size<=items.size:=by
 rw [<-Array.length_toList,Array.toList_eraseIdxIfInBounds,<-Array.length_toList]
 exact List.length_eraseIdx_le _ _
noncomputable def LInv (k a:Nat) (l as:List AV) (H:AH) (Q:AV->AH->Prop):Prop:=(k=0/\∃ y,as=[y]/\l.length < lid/\Q .none (H.set a (.list (l++[y]))))\/(k=1/\as=[]/\∃ y,l.getLast?=some y/\Q y (H.set a (.list l.dropLast)))
theorem nR {k a:Nat} {l as:List AV} {H:AH} {Q:AV->AH->Prop} (w:qL k a l as H Q):LInv k a l as H Q:=by
 rcases k with _ | _ | k
 ·cases as with
  | nil=>exact False.elim w
  | cons y r=>
   cases r with
   | cons=>exact False.elim w
   | nil=>exact .inl ⟨rfl,y,rfl,w.1,w.2⟩
 ·cases as with
  | cons=>exact False.elim w
  | nil=>
   have w:(match l.getLast? with
    | some x=>Q x (H.set a (.list l.dropLast))
    | .none=>False):=w
   cases e:l.getLast? with
   | none=>rw [e] at w;exact False.elim w
   | some y=>rw [e] at w;exact .inr ⟨rfl,rfl,y,e,w⟩
 ·exact False.elim w
noncomputable def DInv (k a:Nat) (d:List (Int×AV)) (as:List AV) (H:AH) (Q:AV->AH->Prop):Prop:=(k=1/\∃ y,as=[.int y]/\∃ x,dget d y=some x/\∀ ep,Q x (H.set a (.dict (ddel d y) ep)))\/(k=1/\∃ y u,as=[.int y,u]/\((∃ x,dget d y=some x/\∀ ep,Q x (H.set a (.dict (ddel d y) ep)))\/(dget d y=.none/\Q u H)))\/(k=2/\∃ y u,as=[.int y,u]/\Q ((dget d y).getD u) H)
theorem nU {k a:Nat} {d:List (Int×AV)} {as:List AV} {H:AH} {Q:AV->AH->Prop} (w:qK k a d as H Q):DInv k a d as H Q:=by
 have kint:∃ y r,as=.int y::r:=by
  cases as with
  | nil=>(rcases k with _ | _ | _ | k)<;>exact False.elim w
  | cons kv r=>cases kv with
   | int y=>exact ⟨y,r,rfl⟩
   | _=>(rcases k with _ | _ | _ | k)<;>exact False.elim w
 refine ex2 (kint) λ y r hr2_=>?_;(try clear kint);subst hr2_
 rcases k with _ | _ | _ | k
 ·exact False.elim w
 ·cases r with
  | nil=>
   have w:(match dget d y with
     | some x=>∀ ep,Q x (H.set a (.dict (ddel d y) ep))
     | .none=>False):=w
   cases e:dget d y with
   | none=>rw [e] at w;exact False.elim w
   | some x=>rw [e] at w;exact .inl ⟨rfl,y,rfl,x,e,w⟩
  | cons u r=>
   cases r with
   | cons=>exact False.elim w
   | nil=>
    have w:(match dget d y with
     | some x=>∀ ep,Q x (H.set a (.dict (ddel d y) ep))
     | .none=>Q u H):=w
    cases e:dget d y with
    | none=>rw [e] at w;exact .inr (.inl ⟨rfl,y,u,rfl,.inr ⟨e,w⟩⟩)
    | some x=>rw [e] at w;exact .inr (.inl ⟨rfl,y,u,rfl,.inl ⟨x,e,w⟩⟩)
 ·cases r with
  | nil=>exact False.elim w
  | cons u r=>
   cases r with
   | cons=>exact False.elim w
   | nil=>exact .inr (.inr ⟨rfl,y,u,rfl,w⟩)
 ·exact False.elim w
theorem VRels.nil_inv {h:Heap} {vs:List Value} (r:VRels S h [] vs):vs=[]:=r.inv
theorem VRels.one_inv {h:Heap} {a:AV} {vs:List Value} (r:VRels S h [a] vs):∃ v,vs=[v]/\VRel S h a v:=by
 refine ex2 (r.inv) λ v us hx_=>an3 hx_ λ h1 h2 h3=>?_;clear hx_
 exact ⟨v,h1.trans (congrArg _ h3.inv),h2⟩
theorem VRels.two_inv {h:Heap} {a b:AV} {vs:List Value} (r:VRels S h [a,b] vs):∃ v u,vs=[v,u]/\VRel S h a v/\VRel S h b u:=by
 refine ex2 (r.inv) λ v us hx_=>an3 hx_ λ h1 h2 h3=>?_;clear hx_
 refine ex1 (h3.one_inv) λ u hx_=>an2 hx_ λ h4 h5=>?_;clear hx_
 exact em2 v u ⟨h1.trans (congrArg _ h4),h2,h5⟩
theorem VRel.int_inv {h:Heap} {y:Int} {v:Value} (r:VRel S h (.int y) v):∃ t,v=.int y t:=r.inv
section
variable {A:Around} {H:AH} {s:Shared} {a:Nat} {Q:AV->AH->Prop} {Q':Value->Shared->Prop} {E':Value->Shared->Prop}
theorem nX (x:SimG S H s) (hQ:∀ v av s' H',Go S [] s H s' H'->VRel S s'.heap av v->Q av H'->Q' v s') {l:List AV} (hH:H a=some (.list l)) {y:AV} {v:Value} (rv:VRel S s.heap y v) (h1:l.length < lid) (w:Q .none (H.set a (.list (l++[y])))) :
  wpAny (model S.prog S.w) A (call (.builtin "list.append") [.ref a,v]) Q' E' s:=by
 refine ex2 (x.hrel _ _ hH) λ items kk hx_=>an3 hx_ λ ho hz rs=>?_;clear hx_
 have hlen:l.length=items.size:=rs.length
 have h1s:items.size < lid:=hlen▸h1
 refine call_meets F.slot_list_append ⟨_,ho,rfl⟩ F.entry_list_append (F.args_list_append_2 _ _) (list_append a items kk v (zZ hz)) ⟨ho,?_⟩
 refine hQ _ _ _ _ (x.upd (h':=s.heap.update a (Obj.mapSeq λ xs=>xs.push v)) (ao':=.list (l++[y])) (Heap.SameBut.update ..) hH (λ lk=>?_) s.toks) .none w
 refine em2 (items.push v) _ ⟨IsL.update ho (λ xs=>xs.push v),?_,(rs.concat rv).mono lk⟩
 rw [Array.size_push];exact h1s
theorem sE (x:SimG S H s) (hQ:∀ v av s' H',Go S [] s H s' H'->VRel S s'.heap av v->Q av H'->Q' v s') {d:List (Int×AV)} {ep:Nat} (hH:H a=some (.dict d ep)) {y:Int} {t:Tok} {x':AV} (e:dget d y=some x') (w:∀ ep,Q x' (H.set a (.dict (ddel d y) ep))) {us:List Value} (hu:us=[]\/∃ u,us=[u]) :
  wpAny (model S.prog S.w) A (call (.builtin "dict.pop") (.ref a::.int y t::us)) Q' E' s:=by
 refine ex1 (x.hrel _ _ hH) λ kvs hx_=>an3 hx_ λ hk hz dr=>?_;clear hx_
 have hlen:=dr.length
 rcases dr.look y with ⟨h1,h2⟩ | ⟨a',v,h1,h2,ry⟩
 ·rw [h1] at e;cases e
 ·rw [h1] at e;cases e
  rcases hu with rfl | ⟨u,rfl⟩
  ·refine call_meetsIn F.slot_dict_pop hk.dictOf.typeIs F.entry_dict_pop (F.args_dict_pop_2 _ _) (meets_dict_pop_there (intKind S.prog S.w) a (k:=y) (by simp [intKind,Value.isInt]) [] (.inl rfl) rfl) ⟨kvs,v,hk.dictOf,zZ (by lia),h2,λ h' hm sb=>?_⟩
   exact iP x hH dr hz hQ ry hm sb w
  ·refine call_meetsIn F.slot_dict_pop hk.dictOf.typeIs F.entry_dict_pop (F.args_dict_pop_3 _ _ _) (meets_dict_pop_there (intKind S.prog S.w) a (k:=y) (by simp [intKind,Value.isInt]) [_] (.inr ⟨_,rfl⟩) rfl) ⟨kvs,v,hk.dictOf,zZ (by lia),h2,λ h' hm sb=>?_⟩
   exact iP x hH dr hz hQ ry hm sb w
theorem kQ (x:SimG S H s) (hQ:∀ v av s' H',Go S [] s H s' H'->VRel S s'.heap av v->Q av H'->Q' v s') {d:List (Int×AV)} {ep:Nat} (hH:H a=some (.dict d ep)) {y:Int} {t:Tok} {u:AV} {uv:Value} (ru:VRel S s.heap u uv) (e:dget d y=.none) (w:Q u H) :
  wpAny (model S.prog S.w) A (call (.builtin "dict.pop") [.ref a,.int y t,uv]) Q' E' s:=by
 refine ex1 (x.hrel _ _ hH) λ kvs hx_=>an3 hx_ λ hk hz dr=>?_;clear hx_
 rcases dr.look y with ⟨h1,h2⟩ | ⟨a',v,h1,h2,ry⟩
 ·refine call_meetsIn F.slot_dict_pop hk.dictOf.typeIs F.entry_dict_pop (F.args_dict_pop_3 _ _ _) (meets_dict_pop_default (intKind S.prog S.w) a (k:=y) (by simp [intKind,Value.isInt]) (x.notSys hH) rfl _) ⟨kvs,hk.dictOf,h2,?_⟩
  exact hQ _ _ _ _ (x.tok _) (ru.mono λ z_ z_ e z_=>e) w
 ·rw [h1] at e;cases e
theorem kR (x:SimG S H s) (hQ:∀ v av s' H',Go S [] s H s' H'->VRel S s'.heap av v->Q av H'->Q' v s') {d:List (Int×AV)} {ep:Nat} (hH:H a=some (.dict d ep)) {y:Int} {t:Tok} {u:AV} {uv:Value} (ru:VRel S s.heap u uv) (w:Q ((dget d y).getD u) H) :
  wpAny (model S.prog S.w) A (call (.builtin "dict.get") [.ref a,.int y t,uv]) Q' E' s:=by
 refine ex1 (x.hrel _ _ hH) λ kvs hx_=>an3 hx_ λ hk hz dr=>?_;clear hx_
 refine call_meetsIn F.slot_dict_get hk.dictOf.typeIs F.entry_dict_get (F.args_dict_get_3 _ _ _) (meets_dict_get_default (intKind S.prog S.w) a (k:=y) (by simp [intKind,Value.isInt]) (x.notSys hH) _) ⟨_,hk.dictOf.mapOf,?_⟩
 rcases dr.look y with ⟨h1,h2⟩ | ⟨a',v,h1,h2,ry⟩
 ·rw [h1] at w;rw [h2]
  exact hQ _ _ _ _ (x.tok _) (ru.mono λ z_ z_ e z_=>e) w
 ·rw [h1] at w;rw [h2]
  exact hQ _ _ _ _ (x.tok _) (ry.mono λ z_ z_ e z_=>e) w
theorem pH (x:SimG S H s) (hQ:∀ v av s' H',Go S [] s H s' H'->VRel S s'.heap av v->Q av H'->Q' v s') {l:List AV} (hH:H a=some (.list l)) {y:AV} (e:l.getLast?=some y) (w:Q y (H.set a (.list l.dropLast))) :
  wpAny (model S.prog S.w) A (call (.builtin "list.pop") [.ref a]) Q' E' s:=by
 refine ex2 (x.hrel _ _ hH) λ items kk hx_=>an3 hx_ λ ho hz rs=>?_;clear hx_
 refine ex1 (rs.last e) λ v hx_=>an2 hx_ λ hv rv=>?_;clear hx_
 refine call_meets F.slot_list_pop ⟨_,ho,rfl⟩ F.entry_list_pop (F.args_list_pop_1 _) (MeetsSeq.list_pop_last a items kk v hv (zZ hz)) ⟨ho,?_⟩
 have lk:zN s.heap (s.heap.update a (Obj.mapSeq λ xs=>xs.eraseIdxIfInBounds (items.size - 1))):=λ b o e l=>by
  by_cases q:b=a
  ·subst q;exact absurd l ((x.hrel b _ hH).notLeant e)
  ·exact (Heap.get?_update_other _ _ (Ne.symm q)).trans e
 refine hQ _ _ _ _ (x.upd (h':=s.heap.update a (Obj.mapSeq λ xs=>xs.eraseIdxIfInBounds (items.size - 1))) (ao':=.list l.dropLast) (Heap.SameBut.update ..) hH (λ lk=>?_) s.toks) (rv.mono lk) w
 exact em2 (items.eraseIdxIfInBounds (items.size - 1)) _ ⟨IsL.update ho (λ xs=>xs.eraseIdxIfInBounds (items.size - 1)),Nat.le_trans (rJ items _) hz,rs.init.mono lk⟩
end
theorem qV {A:Around} {H:AH} {s:Shared} (x:SimG S H s) {a k:Nat} {as:List AV} {vs:List Value} (ra:VRels S s.heap as vs) {Q:AV->AH->Prop} {Q':Value->Shared->Prop} {E':Value->Shared->Prop} {C:Calls} {X:Nat->AH->Prop}
  (hQ:∀ v av s' H',Go S [] s H s' H'->VRel S s'.heap av v->Q av H'->Q' v s') {l:List AV} (hH:H a=some (.list l)) (w:xd C k (.ref a) as H Q X) :
  (k=0->wpAny (model S.prog S.w) A (call (.builtin "list.append") (.ref a::vs)) Q' E' s)/\(k=1->wpAny (model S.prog S.w) A (call (.builtin "list.pop") (.ref a::vs)) Q' E' s):=by
 have w:(match H a with
  | some (.list l)=>qL k a l as H Q
  | some (.dict d _)=>qK k a d as H Q
  | some (.inst _)=>C k (.ref a::as) H Q X
  | _=>False):=w
 rw [hH] at w
 rcases nR w with ⟨hk,y,has,h1,h2⟩ | ⟨hk,has,y,e,h⟩
 ·refine ex1 (VRels.one_inv (has▸ra)) λ v hx_=>an2 hx_ λ hvs rv=>?_;clear hx_
  exact ⟨λ z_=>hvs▸nX x hQ hH rv h1 h2,λ q=>(nomatch hk.symm.trans q)⟩
 ·have hvs:=VRels.nil_inv (has▸ra)
  exact ⟨λ q=>(nomatch hk.symm.trans q),λ z_=>hvs▸pH x hQ hH e h⟩
theorem qW {A:Around} {H:AH} {s:Shared} (x:SimG S H s) {a k:Nat} {as:List AV} {vs:List Value} (ra:VRels S s.heap as vs) {Q:AV->AH->Prop} {Q':Value->Shared->Prop} {E':Value->Shared->Prop} {C:Calls} {X:Nat->AH->Prop}
  (hQ:∀ v av s' H',Go S [] s H s' H'->VRel S s'.heap av v->Q av H'->Q' v s') {d:List (Int×AV)} {ep:Nat} (hH:H a=some (.dict d ep)) (w:xd C k (.ref a) as H Q X) :
  (k=1->wpAny (model S.prog S.w) A (call (.builtin "dict.pop") (.ref a::vs)) Q' E' s)/\(k=2->wpAny (model S.prog S.w) A (call (.builtin "dict.get") (.ref a::vs)) Q' E' s):=by
 have w:(match H a with
  | some (.list l)=>qL k a l as H Q
  | some (.dict d _)=>qK k a d as H Q
  | some (.inst _)=>C k (.ref a::as) H Q X
  | _=>False):=w
 rw [hH] at w
 rcases nU w with ⟨hk,y,has,x',e,h⟩ | ⟨hk,y,u,has,h⟩ | ⟨hk,y,u,has,h⟩
 ·refine ex1 (VRels.one_inv (has▸ra)) λ v hx_=>an2 hx_ λ hvs rv=>?_;clear hx_
  obtain ⟨t,hv⟩:=rv.int_inv
  exact ⟨λ z_=>hvs▸hv▸sE x hQ hH e h (.inl rfl),λ q=>(nomatch hk.symm.trans q)⟩
 ·refine ex2 (VRels.two_inv (has▸ra)) λ v uv hx_=>an3 hx_ λ hvs rv ru=>?_;clear hx_
  obtain ⟨t,hv⟩:=rv.int_inv
  refine ⟨λ z_=>?_,λ q=>(nomatch hk.symm.trans q)⟩
  rw [hvs,hv]
  rcases h with ⟨x',e,h⟩ | ⟨e,h⟩
  ·exact sE x hQ hH e h (.inr ⟨_,rfl⟩)
  ·exact kQ x hQ hH ru e h
 ·refine ex2 (VRels.two_inv (has▸ra)) λ v uv hx_=>an3 hx_ λ hvs rv ru=>?_;clear hx_
  obtain ⟨t,hv⟩:=rv.int_inv
  refine ⟨λ q=>(nomatch hk.symm.trans q),λ z_=>?_⟩
  rw [hvs,hv]
  exact kR x hQ hH ru h

set_option tactic.hygienic true in
theorem ue {o:Expr} (h:yK o=true) (name:Str) (env:Env) (t:Sem Value):attributeBase o name env t=t:=by
 cases o<;>first | rfl | skip
 rename_i f args kws pos
 cases f<;>first | rfl | skip
 cases args<;>first | rfl | skip
 cases kws<;>first | rfl | exact nomatch (show false=true from h)

theorem wI {M:Model} {A:Around} {E:Value->Shared->Prop} {s:Shared} {env:Env} {o:Expr} {name:Str} {apos pos:Pos} {args:List Expr} {Q:Value->Shared->Prop} (hb:yK o=true) (hns:∀ e∈args,NS e) (hlen:args.length < 30) (hline:(apos.endLine == pos.line)=true)
  (h:wpAny M A (eval o env) (λ ov aB=>∀ pl,wpAny M A (getMethod ov name pl) (λ fx aH=>wpAny M A (callWith pos fx.1 fx.2 (backTo pos (starEach args env)) []) Q E aH) E aB) E s) :
  wpAny M A (eval (.Call (.Attribute o name apos) args [] pos) env) Q E s:=by
 rw [arm_eval_Call,ue hb]
 refine wpAny_bind (wpAny_mono h (λ ov aB aV=>?_) λ z_ z_ e=>e)
 refine wpAny_bind (wpAny_standAt ?_)
 have hall:(backTo pos (starEach args env)).all (λ x=>!x.1)=true:=by
  have:=wX hns env pos
  rw [List.all_eq_not_any_not]
  simpa using this
 have hform:methodCallForm (args.length+([]:List Keyword).length) (backTo pos (starEach args env)) (backToKw pos (keywordEach [] env))=true:=by
  unfold methodCallForm
  rw [hall]
  show (true&&true&&decide (args.length+0+0 < 30))=true
  simp [hlen]
 have hpos:methodCallPos true o env apos pos=pure pos:=by unfold methodCallPos;simp [hline]
 unfold methodCall
 rw [hform]
 refine wpAny_bind (wpAny_holding (wpAny_mono (aV _) (λ fx aH h₂=>?_) λ z_ z_ e=>e))
 exact wpAny_bind (wpAny_of_eq hpos h₂)

theorem rL {h:Heap} {l:List AV} {vs:List Value} (r:VRels S h l vs):∀ {ys:List Str},yF l=some ys->StrsAre vs ys/\∀ y∈ys,PyData.strOk y=true:=
 r.ind (M:=λ l vs=>∀ {ys:List Str},yF l=some ys->StrsAre vs ys/\∀ y∈ys,PyData.strOk y=true) (λ {ys} e=>by cases e;exact ⟨.nil,λ z_ h=>nomatch h⟩) λ {a v l vs} ra _ ih {ys} e=>by
  cases a with
  | str x=>
   obtain ⟨t,rfl,ok⟩:=ra.inv
   have e:(yF l).map (x::·)=some ys:=e
   cases q:yF l with
   | none=>rw [q] at e;cases e
   | some zs=>
    rw [q] at e;cases e
    obtain ⟨h1,h2⟩:=ih q
    exact ⟨.cons x t h1,λ y hy=>by
     rcases List.mem_cons.mp hy with rfl | hy
     ·exact ok
     ·exact h2 y hy⟩
  | _=>cases e
theorem vu (x:Str):PyData.strOk x=true↔∀ c∈x.cps.toList,c < 0x110000:=by
 unfold PyData.strOk
 rw [<-Array.all_toList,List.all_eq_true]
 exact ⟨λ h c hc=>by simpa using h c hc,λ h c hc=>by simpa using h c hc⟩
theorem sF {a b:Str} (ha:PyData.strOk a=true) (hb:PyData.strOk b=true):PyData.strOk (a++b)=true:=by
 rw [vu] at *
 intro c hc
 have:(a++b).cps.toList=a.cps.toList++b.cps.toList:=Array.toList_append
 rw [this] at hc
 rcases List.mem_append.mp hc with h | h
 ·exact ha c h
 ·exact hb c h
theorem pI {sep:Str} (hs:PyData.strOk sep=true) (l:List Str):(∀ y∈l,PyData.strOk y=true)->PyData.strOk (Str.join sep l)=true:=by
 induction l with
 | nil=>intro _;exact (vu _).mpr λ c hc=>nomatch hc
 | cons y r ih=>
  intro h
  cases r with
  | nil=>exact h y (.head _)
  | cons z r=>exact sF (sF (h y (.head _)) hs) (ih λ y hy=>h y (.tail _ hy))
theorem kS {h:Heap} {l:List (Str×Tok)} (ok:∀ y∈l.map (·.1),PyData.strOk y=true):VRels S h ((l.map (·.1)).map .str) (strValues l):=by
 induction l with
 | nil=>exact .nil
 | cons p r ih=>exact .cons (.str _ _ (ok _ (.head _))) (ih λ y hy=>ok y (.tail _ hy))
theorem rM {x y:Str} (ok:PyData.strOk x=true):∀ p∈Txt.split x y,PyData.strOk p=true:=by
 have sub:∀ i j,PyData.strOk (Builtin.Str.strSub x i j)=true:=λ i j=>by
  rw [vu] at *
  intro c hc
  rw [StrLaws.strSub_toList] at hc
  exact ok c (List.mem_of_mem_drop (List.mem_of_mem_take hc))
 have parts:∀ (cuts:List Nat) (w a:Nat),∀ p∈StrLaws.partsFrom x w a cuts,PyData.strOk p=true:=by
  intro cuts
  induction cuts with
  | nil=>intro w a p hp;rw [List.mem_singleton.mp hp];exact sub _ _
  | cons d r ih=>
   intro w a p hp
   rcases List.mem_cons.mp hp with rfl | hp
   ·exact sub _ _
   ·exact ih _ _ p hp
 intro p hp
 unfold Txt.split at hp
 split at hp
 ·rw [List.mem_singleton.mp hp];exact ok
 ·split at hp
  ·rw [List.mem_singleton.mp hp];exact ok
  ·rw [StrLaws.partsBetween_eq] at hp;exact parts _ _ _ p hp
theorem pJ {A:Around} {E':Value->Shared->Prop} {s:Shared} {x y:Str} {t u:Tok} {Q':Value->Shared->Prop} (hy:(y.length == 0)=false) (hx:x.length+2<=sizeLine)
  (h:∀ l k,l.map (·.1)=Txt.split x y->Q' (.ref s.heap.objs.size) { s with heap:=s.heap.push { cls:=.type "list",data:=.seq (strValues l).toArray },toks:=k }) :
  wpAny (model S.prog S.w) A (call (.builtin "str.split") [.str x t,.str y u]) Q' E' s:=by
 have hn:(Builtin.Str.partsBetween x (Builtin.Str.occurrences x y 0 x.length (x.length+1)) y.length).length<=sizeLine:=by
  have:=StrLaws.occ_length_le x y 0 x.length (x.length+1)
  rw [length_partsBetween];lia
 unfold Txt.split at h
 by_cases h1:(decide (x.length < y.length)||decide (Builtin.Str.strKind x < Builtin.Str.strKind y))=true
 ·rw [if_pos h1] at h
  exact call_meets F.slot_str_split (typeIs_str _ _ _) F.entry_str_split (F.args_str_split_2 _ _) (meets_str_split_cannot_occur x y t u h1) (h [(x,t)] s.toks rfl)
 ·rw [if_neg h1] at h
  by_cases hf:(Builtin.Str.occurrences x y 0 x.length (x.length+1)).isEmpty=true
  ·rw [if_pos hf] at h
   exact call_meets F.slot_str_split (typeIs_str _ _ _) F.entry_str_split (F.args_str_split_2 _ _) (meets_str_split_not_found x y t u (Bool.eq_false_iff.mpr h1) hy hf) (h [(x,t)] s.toks rfl)
  ·rw [if_neg hf] at h
   refine call_meets F.slot_str_split (typeIs_str _ _ _) F.entry_str_split (F.args_str_split_2 _ _) (meets_str_split_sep x y t u (Bool.eq_false_iff.mpr h1) hy (Bool.eq_false_iff.mpr hf) (by lia) hn) ?_
   have h2:∀ k,Q' (.ref s.heap.objs.size) { s with heap:=s.heap.push { cls:=.type "list",data:=.seq (strsFrom s.toks (Builtin.Str.partsBetween x (Builtin.Str.occurrences x y 0 x.length (x.length+1)) y.length)).toArray },toks:=k }:=λ k=>by
    rw [strsFrom_eq];exact h _ k (numbered_texts _ _)
   exact h2 _
theorem gS {o e:Expr} {ie:IE} {sep:Str} {apos pos:Pos} (hb:yK o=true) (hs:PyData.strOk sep=true) (hline:(apos.endLine == pos.line)=true) (ho:SE S C n Fly cx o (.cs sep)) (hns:NS e) (he:SE S C n Fly cx e ie) :
  SE S C n Fly cx (.Call (.Attribute o "join" apos) [e] [] pos) (.join sep ie):=λ env A X m H s Q Q' E' ok room hd sim hX hQ w=>by
 conv at w=>whnf
 have hns':∀ x∈[e],NS x:=λ x hx=>by rw [List.mem_singleton.mp hx];exact hns
 refine wI hb hns' (by simp) hline ?_
 refine ho env A X m H s (λ av H'=>av=.str sep/\WE C X ie m H' λ v H=>il sep v H Q) _ E' ok room hd sim hX (λ v av aB aD aA aF aC pl=>?_) ⟨rfl,w⟩
 obtain ⟨rfl,aC⟩:=aC
 obtain ⟨t,rfl,_⟩:=aF.inv
 with_reducible refine GM.join ?_
 refine y6 (first:=[_]) (.inl ⟨_,rfl⟩) hns' ?_
 refine args_cons ?_ (hns _ _)
 refine he env A X m aD aB _ _ E' ok room hd (sim.go aA) (λ c e s' H' g x f=>hX c e s' H' (aA.trans g) x (f.back aA)) (λ v av aH aM aE aL aI=>args_nil ?_) aC
 obtain ⟨a,l,ys,rfl,hl,hy,hz,wq⟩:=aI
 obtain rfl:=aL.inv
 have g:=aA.trans aE
 have aS:=(sim.go g).toSimG
 refine ex2 (aS.hrel _ _ hl) λ items kk hx_=>an3 hx_ λ ho hz' rs=>?_;clear hx_
 obtain ⟨h1,h2⟩:=rL rs hy
 refine PyProof.Rows.join_list ho.isList h1 hz λ t' k=>?_
 have e:Txt.join sep ys=Str.join sep ys:=StrLaws.glued_eq_join sep ys
 rw [e]
 exact hQ _ _ _ _ (g.trans (aS.tok k)) (.str _ _ (pI hs ys h2)) wq
theorem kT {o e:Expr} {ie:IE} {c:Nat} {apos pos:Pos} (hb:yK o=true) (hline:(apos.endLine == pos.line)=true) (ho:SE S C n Fly cx o ie) (hns:NS e) (he:SE S C n Fly cx e (.cs ⟨#[c]⟩)) :
  SE S C n Fly cx (.Call (.Attribute o "split" apos) [e] [] pos) (.split ie c):=λ env A X m H s Q Q' E' ok room hd sim hX hQ w=>by
 conv at w=>whnf
 have hns':∀ x∈[e],NS x:=λ x hx=>by rw [List.mem_singleton.mp hx];exact hns
 refine wI hb hns' (by simp) hline ?_
 refine ho env A X m H s _ _ E' ok room hd sim hX (λ v av aB aD aA aF aC pl=>?_) w
 obtain ⟨x,rfl,hx,wq⟩:=aC
 obtain ⟨t,rfl,hok⟩:=aF.inv
 with_reducible refine GM.split ?_
 refine y6 (first:=[_]) (.inl ⟨_,rfl⟩) hns' ?_
 refine args_cons ?_ (hns _ _)
 refine he env A X m aD aB (λ av H'=>av=.str ⟨#[c]⟩/\newL ((Txt.split x ⟨#[c]⟩).map .str) H' Q) _ E' ok room hd (sim.go aA) (λ c e s' H' g x f=>hX c e s' H' (aA.trans g) x (f.back aA)) (λ v av aH aM aE aL aI=>args_nil ?_) ⟨rfl,wq⟩
 obtain ⟨rfl,wq⟩:=aI
 obtain ⟨u,rfl,_⟩:=aL.inv
 have g:=aA.trans aE
 have aS:=(sim.go g).toSimG
 refine pJ rfl (by unfold sizeLine;lia) λ l k hl=>?_
 have hlen:l.length<=lid:=by
  have h1:=split_weight x ⟨#[c]⟩ (Nat.le_refl 1)
  rw [<-hl] at h1
  simp at h1
  unfold lid;lia
 refine hQ _ _ _ _ (g.trans (yG (h':=aH.heap.push _) (tk:=k) aS (zU _ _) (get?_size _) (Heap.get?_push_size _ rfl) (by simpa [strValues] using hlen) ?_)) (.ref _) (yL aS wq)
 rw [<-hl]
 exact kS (l:=l) (by rw [hl];exact rM hok)
end

section
variable {S:Stat} {C:Calls} {n:Nat} {Fly:FlyT} {cx:Cx}

theorem sG {h:Heap} {a:Nat} {mm:Str->Option Value} {o:Obj} (hn:h.Ns a mm) (e:h.get? a=some o) (name:Str):lookIn name o=some (mm name):=by
 refine ex3 (hn) λ o' es ep hx_=>an4 hx_ λ e' hd hk hf=>?_;clear hx_;(try clear hn)
 rw [e] at e';cases e'
 unfold lookIn
 rw [hd]
 dsimp only
 have h1:=hf name
 unfold nsFind findBy at h1
 rw [<-Array.find?_toList] at h1
 cases q:es.toList.find? (λ x=>x.key.isStr name) with
 | some en=>rw [q] at h1;rw [<-h1];rfl
 | none=>
  rw [q] at h1
  rw [<-h1]
  have:es.toList.any (·.refKey)=false:=by
   rw [List.any_eq_false]
   intro x hx
   refine ex2 (hk x (Array.mem_toList_iff.mp hx)) λ nm t hkey=>?_
   unfold DictEntry.refKey
   rw [hkey];simp
  simp only [this]
  rfl

theorem rN {H:AH} {s:Shared} (x:SimG S H s) {a dx:Nat} {f:List (Nat×AV)} (h1:H a=some (.inst dx)) (h2:H dx=some (.ns f)) :
  ∃ ox od mm,PySem.W.InstAt s.heap a ox S.cls (some od)/\ox.dict=some dx/\s.heap.get? dx=some od/\s.heap.Ns1 dx mm/\NsRel S s.heap f mm:=by
 refine ex1 (x.hrel _ _ h1) λ ox hx_=>an5 hx_ λ e hc hn hd z_=>?_;clear hx_
 refine ex1 (x.hrel _ _ h2) λ mm hx_=>an2 hx_ λ hns r=>?_;clear hx_
 refine ex3 (id hns) λ od es ep hx_=>an2 hx_ λ e' z=>?_;clear hx_
 refine em3 ox od mm ⟨⟨e,hc,hn,?_⟩,hd,e',hns,r⟩
 rw [hd];exact e'

theorem ni {h:Heap} {a:AV} {v:Value} (r:VRel S h a v):handedIn v=true:=by cases r<;>rfl

theorem SimG.K (x:SimG S H s):S.K.In s.heap:=x.ok.hK.keeps x.stays

set_option tactic.hygienic true in
theorem pK {A:Around} {H:AH} {s:Shared} (x:SimG S H s) {a:AV} {v:Value} (ra:VRel S s.heap a v) {i:Nat} (hi:i < S.nattr) {Q:AV->AH->Prop} {Q':Value->Shared->Prop} {E':Value->Shared->Prop} {expr:Bool}
  (hQ:∀ v av s' H',Go S [] s H s' H'->VRel S s'.heap av v->Q av H'->Q' v s') (w:oT a i H Q):wpAny (model S.prog S.w) A (getAttr v (S.attr i) expr) Q' E' s:=by
 cases a with
 | ref a=>
  obtain rfl:=ra.inv
  unfold oT at w
  dsimp only at w
  split at w
  ·rename_i dx h1
   split at w
   ·rename_i f h2
    split at w
    ·rename_i av e
     with_reducible refine ex3 (rN x h1 h2) λ ox od mm hx_=>an5 hx_ λ I hd hod hns r=>?_;clear hx_
     rcases r.1 i hi with ⟨q,_⟩ | ⟨a',v',q1,q2,rv⟩
     ·rw [q] at e;cases e
     ·rw [q1] at e;cases e
      refine get_value x.K I (plainGet_of x.ok.hga).1 (findObj_own x.ok.hdi (x.ok.hfi i hi) rfl (by rw [sG hns.ns hod,q2])) (ni rv) (hQ _ _ _ _ (x.tok _) (rv.mono λ _ _ e _=>e) w)
    ·exact w.elim
   ·exact w.elim
  ·exact w.elim
 | _=>exact w.elim

theorem gT {e:Expr} {ie:IE} {nm:Str} {i:Nat} {pos:Pos} (he:SE S C n Fly cx e ie) (hb:yK e=true) (hi:i < S.nattr) (hn:S.attr i=nm):SE S C n Fly cx (.Attribute e nm pos) (.attr ie i):=λ env A X m H s Q Q' E' ok room hd sim hX hQ w=>by
 conv at w=>whnf
 subst hn
 show wpAny _ _ (do
  let o <-attributeBase e (S.attr i) env (eval e env)
  standAt pos.atName
  let r <-holding [o] (getAttr o (S.attr i) true)
  letTemporaryGo e o r
  pure r) _ _ _
 rw [ue hb]
 refine wpAny_bind (he env A X m H s _ _ E' ok room hd sim hX (λ v av aB aD aA aF aC=>?_) w)
 refine wpAny_bind (wpAny_standAt (wpAny_bind (wpAny_holding ?_)))
 refine pK (sim.go aA).toSimG aF hi (λ v' av' s' H' g' r' w'=>?_) aC
 exact wpAny_bind (wpAny_letTemporaryGo (wpAny_pure (hQ _ _ _ _ (aA.trans g') r' w')))

theorem kX (n i:Nat) (a:AV) (r:List (Nat×AV)):nget (r.map λ p=>if p.1=n then (p.1,a) else p) i=if i=n then (if r.any (λ p=>decide (p.1=n)) then some a else .none) else nget r i:=by
 induction r with
 | nil=>unfold nget;simp
 | cons p r ih=>
  obtain ⟨j,b⟩:=p
  unfold nget at ih |-
  simp only [List.map_cons,List.any_cons]
  by_cases hj:j=n
  ·subst hj
   simp only [if_true,decide_true,Bool.true_or,List.find?_cons]
   by_cases hi:j=i
   ·subst hi;simp
   ·have:¬ i=j:=λ z=>hi z.symm
    simp only [hi,decide_false,this,if_false] at ih |-
    exact ih
  ·simp only [hj,if_false,decide_false,Bool.false_or,List.find?_cons]
   by_cases hi:j=i
   ·subst hi;simp [hj]
   ·simp only [hi,decide_false] at ih |-
    exact ih
theorem sH (n i:Nat) (a:AV):∀ r:List (Nat×AV),r.any (λ p=>decide (p.1=n))=false->nget (r++[(n,a)]) i=if i=n then some a else nget r i
 | [],_=>by
  unfold nget
  by_cases hi:i=n
  ·subst hi;simp
  ·have:¬ n=i:=λ z=>hi z.symm
   simp [hi,this]
 | (j,b)::r,h=>by
  simp only [List.any_cons,Bool.or_eq_false_iff,decide_eq_false_iff_not] at h
  have ih:=sH n i a r h.2
  unfold nget at ih |-
  simp only [List.cons_append,List.find?_cons]
  by_cases hi:j=i
  ·subst hi;simp [h.1]
  ·simp only [hi,decide_false];exact ih
theorem nj (f:List (Nat×AV)) (n i:Nat) (a:AV):nget (nset f n a) i=if i=n then some a else nget f i:=by
 unfold nset
 by_cases h:f.any (λ p=>decide (p.1=n))=true
 ·rw [if_pos h,kX,h];rfl
 ·rw [if_neg h,sH _ _ _ _ ((Bool.not_eq_true _).mp h)]

set_option tactic.hygienic true in
theorem nr {A:Around} {H:AH} {s:Shared} (x:SimG S H s) {a b:AV} {v u:Value} (ra:VRel S s.heap a v) (rb:VRel S s.heap b u) {i:Nat} (hi:i < S.nattr) {Q:AH->Prop} {Q':Unit->Shared->Prop} {E':Value->Shared->Prop}
  (hQ:∀ s' H',Go S [] s H s' H'->Q H'->Q' () s') (w:wSat a i b H Q):wpAny (model S.prog S.w) A (setAttr v (S.attr i) u) Q' E' s:=by
 cases a with
 | ref a=>
  obtain rfl:=ra.inv
  unfold wSat at w
  dsimp only at w
  split at w
  ·rename_i dx h1
   split at w
   ·rename_i f h2
    with_reducible refine ex3 (rN x h1 h2) λ ox od mm hx_=>an5 hx_ λ I hd hod hns r=>?_;clear hx_
    refine set_plain x.K I x.ok.hsa ?_
    refine osa_open (s:={ s with toks:=s.toks+1 }) x.K I x.ok.hpo (r:=none) (by unfold takerIn;rw [x.ok.hfi i hi];rfl) λ bb=>?_
    refine ex1 (any_some x.ok.hdi) λ cd hx_=>an2 hx_ λ hc hd'=>?_;clear hx_
    obtain ⟨hx,hcl,hn,-⟩:=I
    obtain ⟨oc,odi,oda,osl⟩:=ox
    dsimp only at hcl hd
    subst hcl hd
    refine wpAny_bind (wpAny_pure (wpAny_bind (wpAny_bind (wpAny_loadPart hx (wpAny_bind (Looks.here (s:={ s with toks:=s.toks+1 }) (looks_clsIn x.K hc) ?_))))))
    rw [hd']
    refine wpAny_pure (a:=some dx) (wpAny_bind (wpAny_pure (wpAny_bind ?_)))
    refine wpAny_nsSet1 (m:=mm) hns λ h' hns' sb=>?_
    have g:=x.upd (ao':=.ns (nset f i b)) sb h2 (λ lk=>⟨_,hns',?_⟩) (s.toks+1+1)
    ·have hle:∃ o,h'.get? dx=some o/\o.data.pastItsLine=none:=by
      have wi:Within (λ y=>if y=S.attr i then some u else mm y) ((List.range S.nattr).map S.attr):=by
       intro y hy
       apply Classical.byContradiction
       intro hne
       have hall:∀ j,j < S.nattr->S.attr j≠y:=λ j hj z=>hne (List.mem_map.mpr ⟨j,List.mem_range.mpr hj,z⟩)
       dsimp only at hy
       rw [if_neg λ z=>hall i hi z.symm,r.2 y hall] at hy
       exact hy rfl
      with_reducible refine ex3 (hns'.count wi) λ o es ep hx_=>an3 hx_ λ e1 e2 e3=>?_;clear hx_
      refine ⟨o,e1,?_⟩
      rw [e2]
      refine pastItsLine_dict ?_
      have:=x.ok.few
      simp at e3
      rw [sizeLine_eq];lia
     with_reducible refine ex1 (hle) λ o hx_=>an2 hx_ λ ho hp=>?_;clear hx_;(try clear hle)
     exact wpAny_bind (wpAny_lookBehind ho hp (wpAny_pure (hQ _ _ g w)))
    ·refine ⟨λ j hj=>?_,λ name hname=>?_⟩
     ·rw [nj]
      dsimp only
      by_cases q:j=i
      ·subst q;rw [if_pos rfl,if_pos rfl];exact .inr ⟨b,u,rfl,rfl,rb.mono lk⟩
      ·rw [if_neg q]
       have q':¬ S.attr j=S.attr i:=λ z=>q (x.ok.inj j i hj hi z)
       rw [if_neg q']
       exact (r.1 j hj).imp id λ ⟨a,v,h1,h2,r⟩=>⟨a,v,h1,h2,r.mono lk⟩
     ·show (if name=S.attr i then some u else mm name)=none
      rw [if_neg λ z=>hname i hi z.symm]
      exact r.2 name hname
   ·exact w.elim
  ·exact w.elim
 | _=>exact w.elim

set_option tactic.hygienic true in
theorem nt {A:Around} {H:AH} {s:Shared} (x:SimG S H s) {a b k:AV} {v u i:Value} (ra:VRel S s.heap a v) (rk:VRel S s.heap k i) (rb:VRel S s.heap b u) {Q:AH->Prop} {Q':Unit->Shared->Prop} {E':Value->Shared->Prop}
  (hQ:∀ s' H',Go S [] s H s' H'->Q H'->Q' () s') (w:wSit a k b H Q):wpAny (model S.prog S.w) A (setItem v i u) Q' E' s:=by
 unfold wSit at w
 split at w
 ·rename_i a k
  obtain rfl:=ra.inv
  obtain ⟨_,rfl⟩:=rk.inv
  split at w
  ·rename_i l hl
   refine ex2 (x.hrel _ _ hl) λ items kk hx_=>an3 hx_ λ ho hz rs=>?_;clear hx_
   have hlen:l.length=items.size:=rs.length
   obtain ⟨⟨h0,h1⟩,w⟩:=w
   refine ki_setAt (n:=kk) ho h0 (by unfold lid at hz;lia) (by lia) ?_
   refine hQ _ _ (x.upd (h':=s.heap.update a (Obj.mapSeq (·.setIfInBounds k.toNat u))) (ao':=.list (l.set k.toNat b)) (Heap.SameBut.update ..) hl (λ lk=>?_) s.toks) w
   refine em2 (items.setIfInBounds k.toNat u) _ ⟨IsL.update ho (·.setIfInBounds k.toNat u),by simpa using hz,?_⟩
   have:=(rs.set rb k.toNat).mono lk
   simpa using this
  ·rename_i d ep hd
   refine ex1 (x.hrel _ _ hd) λ kvs hx_=>an3 hx_ λ hk hz dr=>?_;clear hx_
   have hlen:=dr.length
   obtain ⟨h1,w⟩:=w
   refine wpAny_setItem_pairs (knd:=intKind S.prog S.w) (k:=k) (by simp [intKind,Value.isInt]) hk.dictOf (λ h' hm sb=>?_) (zZ (by lia))
   obtain ⟨ep',hk'⟩:=hm.dictAt
   refine hQ _ _ (x.upd (ao':=.dict (dset d k b) ep') sb hd (λ lk=>⟨_,hk',?_,(dr.put k rb).mono lk⟩) _) (w ep')
   have:=rH d k b;lia
  ·exact w.elim
 ·exact w.elim

noncomputable def It (S:Stat) (src:Src) (I i:Nat) (h:Heap):Prop:=(∃ a l,src.at_=some (a,.list l)/\h.IsListIter I a i)\/(∃ a d ep,src.at_=some (a,.dict d ep)/\h.IsKeyIter I a i d.length ep)\/
 (src.at_=.none/\((∃ t its k,h.IsTupleIter I t i/\IsT h t its k/\VRels S h src.items its.toList)\/
   (∃ l its,h.IsListIter I l i/\S.base.IsList l its/\VRels S h src.items its.toList)\/
   (∃ a b:Int,src.items=zJ a b/\IsRangeIter h I (a+(i:Int)) (((b - a).toNat:Int) - (i:Int)) 1)\/
   (∃ y t,src.items=wF y/\u8 y=true/\h.IsStrIter I "str_ascii_iterator" y t i)))
theorem Src.ok_at {src:Src} {H:AH} {a:Nat} {o:AO} (ok:src.ok H) (h:src.at_=some (a,o)):H a=some o:=by
 unfold Src.ok at ok
 rw [h] at ok;exact ok

theorem xP (a b:Int):(zJ a b).length=(b - a).toNat:=by simp [zJ]
theorem pL {a b:Int} {i:Nat} {v:AV} (h:(zJ a b)[i]?=some v):i < (b - a).toNat/\v=.int (a+(i:Int)):=by
 have hi:=(List.getElem?_eq_some_iff.mp h).1
 rw [xP] at hi
 refine ⟨hi,?_⟩
 simp [zJ,hi] at h
 exact h.symm

theorem It.obj {src:Src} {I i:Nat} {h:Heap} (x:It S src I i h):∃ o T,h.get? I=some o/\o.cls=.type T/\(∃ vs,o.data=.fields vs)/\(T="list_iterator"\/T="dict_keyiterator"\/T="tuple_iterator"\/T="range_iterator"\/T="str_ascii_iterator"):=by
 rcases x with ⟨a,l,-,o,e,hc,hd⟩ | ⟨a,d,ep,-,o,e,hc,hd⟩ | ⟨-,x⟩
 ·exact em2 o _ ⟨e,hc,⟨_,hd⟩,.inl rfl⟩
 ·exact em2 o _ ⟨e,hc,⟨_,hd⟩,.inr (.inl rfl)⟩
 ·rcases x with ⟨t,its,k,⟨o,e,hc,hd⟩,_⟩ | ⟨l,its,⟨o,e,hc,hd⟩,_⟩ | ⟨a,b,_,e⟩ | ⟨y,t,_,_,o,e,hc,hd⟩
  ·exact em2 o _ ⟨e,hc,⟨_,hd⟩,.inr (.inr (.inl rfl))⟩
  ·exact em2 o _ ⟨e,hc,⟨_,hd⟩,.inl rfl⟩
  ·exact em2 _ _ ⟨e,rfl,⟨_,rfl⟩,.inr (.inr (.inr (.inl rfl)))⟩
  ·exact em2 o _ ⟨e,hc,⟨_,hd⟩,.inr (.inr (.inr (.inr rfl)))⟩

theorem It.keep {src:Src} {I i:Nat} {h h':Heap} (x:It S src I i h) (hI:∀ o,h.get? I=some o->h'.get? I=some o) (lk:zN h h'):It S src I i h':=by
 rcases x with ⟨a,l,hat,o,e,z⟩ | ⟨a,d,ep,hat,o,e,z⟩ | ⟨hat,x⟩
 ·exact .inl ⟨a,l,hat,o,hI o e,z⟩
 ·exact .inr (.inl ⟨a,d,ep,hat,o,hI o e,z⟩)
 ·refine .inr (.inr ⟨hat,?_⟩)
  rcases x with ⟨t,its,k,⟨o,e,z⟩,ht,r⟩ | ⟨l,its,⟨o,e,z⟩,hl,r⟩ | ⟨a,b,q,e⟩ | ⟨y,t,q,q',o,e,z⟩
  ·exact .inl ⟨t,its,k,⟨o,hI o e,z⟩,lk _ _ ht (.inl ⟨rfl,_,_,rfl⟩),r.mono lk⟩
  ·exact .inr (.inl ⟨l,its,⟨o,hI o e,z⟩,hl,r.mono lk⟩)
  ·exact .inr (.inr (.inl ⟨a,b,q,hI _ e⟩))
  ·exact .inr (.inr (.inr ⟨y,t,q,q',o,hI o e,z⟩))

theorem It.go {src:Src} {I i:Nat} {D:List Nat} {s s':Shared} {H H':AH} (x:It S src I i s.heap) (sim:SimG S H s) (g:Go S D s H s' H') (hI:H I=.none) (hD:I∉D) (hl:xM D s.heap):It S src I i s'.heap:=by
 obtain ⟨o,T,e,_,⟨vs,hd⟩,_⟩:=x.obj
 refine x.keep (λ o' e'=>?_) (g.ext.leant sim.hrel hl)
 with_reducible refine ex1 (g.ext.kept I o' e' hI hD) λ o'' hx_=>an2 hx_ λ e'' k=>?_;clear hx_
 have:o'=o:=by rw [e] at e';exact (Option.some.inj e').symm
 subst this
 rw [k.eq (by rw [hd];intro _ _ z;cases z)] at e''
 exact e''

theorem z5 {s:Shared} {H:AH} {I:Nat} {h':Heap} (x:SimG S H s) (hI:H I=.none) (hb:S.base.get? I=.none) (ke:∀ b o,b≠I->s.heap.get? b=some o->h'.get? b=some o) (nl:∀ o,s.heap.get? I=some o->¬ Leant o) (tk:Nat) :
  Go S [I] s H { s with heap:=h',toks:=tk } H/\zN s.heap h':=by
 have lk:zN s.heap h':=λ b o e l=>by
  by_cases q:b=I
  ·subst q;exact absurd l (nl o e)
  ·exact ke b o q e
 refine ⟨⟨⟨λ b o e z_ hD=>⟨o,ke b o (by simpa using hD) e,.refl o⟩,λ z_ z=>z,λ z_ z z'=>absurd z z',λ b hD hb=>?_⟩,λ b o e=>?_,λ b o e=>?_,rfl,rfl⟩,lk⟩
 ·cases e:s.heap.get? b with
  | none=>exact absurd e hb
  | some o=>show h'.get? b≠_;rw [ke b o (by simpa using hD) e];simp
 ·exact ke b o (λ q=>by rw [q,hb] at e;cases e) (x.stays b o e)
 ·have hbI:b≠I:=λ q=>by rw [q,hI] at e;cases e
  exact (x.hrel b o e).at (λ o e=>ke b o hbI e) lk

theorem It.noLeant {src:Src} {I i:Nat} {h:Heap} (x:It S src I i h):∀ o,h.get? I=some o->¬ Leant o:=by
 intro o e l
 obtain ⟨o',T,e',hc,⟨vs,hd⟩,hT⟩:=x.obj
 rw [e] at e';cases e'
 rcases l with ⟨_,_,_,q⟩ | ⟨⟨c,q⟩,_⟩
 ·rw [hd] at q;cases q
 ·rw [hc] at q;cases q

theorem nu {A:Around} {s:Shared} {H:AH} {src:Src} {I i:Nat} {av:AV} (x:SimG S H s) (hI:H I=.none) (hb:S.base.get? I=.none) (ok:src.ok H) (hsrc:∀ a l,src.at_=some (a,.list l)->src.items=l) (hsd:∀ a d ep,src.at_=some (a,.dict d ep)->src.items=d.map λ p=>.int p.1)
  (it:It S src I i s.heap) (hv:src.items[i]?=some av) {Q:Option Value->Shared->Prop} {E:Value->Shared->Prop}
  (hQ:∀ v s',Go S [I] s H s' H->VRel S s'.heap av v->It S src I (i+1) s'.heap->Q (some v) s'):wpAny (model S.prog S.w) A (pyNext (.ref I)) Q E s:=by
 have nl:=it.noLeant
 rcases it with ⟨a,l,hat,it⟩ | ⟨a,d,ep,hat,it⟩ | ⟨hat,it⟩
 ·replace ok:=Src.ok_at ok hat
  refine ex2 (x.hrel _ _ ok) λ items k hx_=>an3 hx_ λ ho hz rs=>?_;clear hx_
  rw [hsrc a l hat] at hv
  with_reducible refine ex1 (rs.get hv) λ v hx_=>an2 hx_ λ hv' rv=>?_;clear hx_
  refine wpAny_pyNext_list_item it ho.isList (by simpa using hv') λ h' it' sb=>?_
  obtain ⟨g,lk⟩:=z5 x hI hb sb.extBut nl s.toks
  refine hQ _ _ g (rv.mono lk) ?_
  exact .inl ⟨a,l,hat,it'⟩
 ·replace ok:=Src.ok_at ok hat
  refine ex1 (x.hrel _ _ ok) λ kvs hx_=>an3 hx_ λ hk hz dr=>?_;clear hx_
  have hlen:=dr.length
  rw [hsd a d ep hat] at hv
  rw [List.getElem?_map] at hv
  cases q:d[i]? with
  | none=>rw [q] at hv;cases hv
  | some p=>
   rw [q] at hv;cases hv
   have hkk:kvs[i]?=some (p.1,(kvs[i]?.map (·.2)).getD default):=by
    have:=dr.keys
    have h1:(d.map (·.1))[i]?=(kvs.map (·.1))[i]?:=by rw [this]
    rw [List.getElem?_map,List.getElem?_map,q] at h1
    cases q':kvs[i]? with
    | none=>rw [q'] at h1;simp at h1
    | some p'=>rw [q'] at h1;simp at h1;simp [h1]
   rw [hlen] at it
   refine wpAny_pyNext_dict_item (knd:=intKind S.prog S.w) it hk hkk λ key h' his it' sb=>?_
   obtain ⟨g,lk⟩:=z5 x hI hb sb.extBut nl s.toks
   obtain ⟨t,rfl⟩:=Value.isInt_shape his
   refine hQ _ _ g (.int _ _) ?_
   exact .inr (.inl ⟨a,d,ep,hat,by rw [hlen];exact it'⟩)
 ·clear ok
  rcases it with ⟨t,its,k,hit,ht,rs⟩ | ⟨l,its,hit,hl,rs⟩ | ⟨a,b,q,hit⟩ | ⟨y,t,q,q',hit⟩
  ·with_reducible refine ex1 (rs.get hv) λ v hx_=>an2 hx_ λ hv' rv=>?_;clear hx_
   refine wpAny_pyNext_tuple_item hit ⟨_,ht,rfl,_,rfl⟩ (by simpa using hv') λ h' it' sb=>?_
   obtain ⟨g,lk⟩:=z5 x hI hb sb.extBut nl s.toks
   refine hQ _ _ g (rv.mono lk) ?_
   exact .inr (.inr ⟨hat,.inl ⟨t,its,k,it',lk _ _ ht (.inl ⟨rfl,_,_,rfl⟩),rs.mono lk⟩⟩)
  ·with_reducible refine ex1 (rs.get hv) λ v hx_=>an2 hx_ λ hv' rv=>?_;clear hx_
   refine wpAny_pyNext_list_item hit (Heap.IsList.at hl (x.stays _)) (by simpa using hv') λ h' it' sb=>?_
   obtain ⟨g,lk⟩:=z5 x hI hb sb.extBut nl s.toks
   refine hQ _ _ g (rv.mono lk) ?_
   exact .inr (.inr ⟨hat,.inr (.inl ⟨l,its,it',hl,rs.mono lk⟩)⟩)
  ·rw [q] at hv
   obtain ⟨hi,rfl⟩:=pL hv
   refine wpAny_pyNext_range_item hit (by lia) λ h' it' sb=>?_
   obtain ⟨g,lk⟩:=z5 x hI hb sb.extBut nl (s.toks+1)
   refine hQ _ _ g (.int _ _) ?_
   refine .inr (.inr ⟨hat,.inr (.inr (.inl ⟨a,b,q,?_⟩))⟩)
   have e1:a+(i:Int)+1=a+((i+1:Nat):Int):=by lia
   have e2:((b - a).toNat:Int) - (i:Int) - 1=((b - a).toNat:Int) - ((i+1:Nat):Int):=by lia
   rw [e1,e2] at it'
   exact it'
  ·rw [q,wF,List.getElem?_map,Array.getElem?_toList] at hv
   cases hc:y.cps[i]? with
   | none=>rw [hc] at hv;cases hv
   | some c=>
    rw [hc] at hv;cases hv
    refine wpAny_pyNext_ascii_item hit hc λ h' it' sb=>?_
    obtain ⟨g,lk⟩:=z5 x hI hb sb.extBut nl (s.toks+1)
    refine hQ _ _ g (.str _ _ ?_) (.inr (.inr ⟨hat,.inr (.inr (.inr ⟨y,t,q,q',it'⟩))⟩))
    have h1:=Array.all_eq_true.mp q' i (Array.getElem?_eq_some_iff.mp hc).1
    rw [(Array.getElem?_eq_some_iff.mp hc).2] at h1
    have h2:=of_decide_eq_true h1
    simp [PyData.strOk]
    lia

theorem iQ {A:Around} {s:Shared} {H:AH} {src:Src} {I i:Nat} (hh:A.handled=.none) (x:SimG S H s) (hI:H I=.none) (hb:S.base.get? I=.none) (ok:src.ok H) (hsrc:∀ a l,src.at_=some (a,.list l)->src.items=l) (hsd:∀ a d ep,src.at_=some (a,.dict d ep)->src.items=d.map λ p=>.int p.1)
  (it:It S src I i s.heap) (hv:src.items[i]?=.none) {Q:Option Value->Shared->Prop} {E:Value->Shared->Prop}
  (hQ:∀ s',Go S [I] s H s' H->Q none s'):wpAny (model S.prog S.w) A (pyNext (.ref I)) Q E s:=by
 have nl:=it.noLeant
 have hlen0:src.items.length<=i:=by simpa using hv
 rcases it with ⟨a,l,hat,it⟩ | ⟨a,d,ep,hat,it⟩ | ⟨hat,it⟩
 ·replace ok:=Src.ok_at ok hat
  refine ex2 (x.hrel _ _ ok) λ items k hx_=>an3 hx_ λ ho hz rs=>?_;clear hx_
  rw [hsrc a l hat] at hlen0
  have hl:l.length=items.size:=rs.length
  refine wpAny_pyNext_list_end hh it ho.isList (by simp;lia) λ h' eb=>?_
  exact hQ _ (z5 x hI hb eb nl s.toks).1
 ·replace ok:=Src.ok_at ok hat
  refine ex1 (x.hrel _ _ ok) λ kvs hx_=>an3 hx_ λ hk hz dr=>?_;clear hx_
  have hlen:=dr.length
  rw [hsd a d ep hat] at hlen0
  simp at hlen0
  rw [hlen] at it
  refine wpAny_pyNext_dict_end (knd:=intKind S.prog S.w) hh it hk (by simp;lia) λ h' eb=>?_
  exact hQ _ (z5 x hI hb eb nl s.toks).1
 ·rcases it with ⟨t,its,k,hit,ht,rs⟩ | ⟨l,its,hit,hl,rs⟩ | ⟨a,b,q,hit⟩ | ⟨y,t,q,q',hit⟩
  ·have hl:src.items.length=its.size:=rs.length
   refine wpAny_pyNext_tuple_end hh hit ⟨_,ht,rfl,_,rfl⟩ (by simp;lia) λ h' eb=>?_
   exact hQ _ (z5 x hI hb eb nl s.toks).1
  ·have hl':src.items.length=its.size:=rs.length
   refine wpAny_pyNext_list_end hh hit (Heap.IsList.at hl (x.stays _)) (by simp;lia) λ h' eb=>?_
   exact hQ _ (z5 x hI hb eb nl s.toks).1
  ·rw [q,xP] at hlen0
   refine wpAny_pyNext_range_end hh hit (by lia) λ h' eb=>?_
   exact hQ _ (z5 x hI hb eb nl s.toks).1
  ·rw [q,wF,List.getElem?_map,Array.getElem?_toList] at hv
   refine wpAny_pyNext_ascii_end hh hit (by simpa using hv) λ h' eb=>?_
   exact hQ _ (z5 x hI hb eb nl s.toks).1

theorem uf {e:Expr} (h:vL e=true) (env:Env) (x:Value):foldedSetIterable e env x=pure x:=by
 cases e<;>first | rfl | exact nomatch (show false=true from h)

noncomputable def SI (S:Stat) (C:Calls) (n:Nat) (Fly:FlyT) (cx:Cx) (e:Expr) (ii:II):Prop:=
 ∀ (env:Env) (A:Around) (X:Nat->AH->Prop) (m:Loc) (H:AH) (s:Shared) (Q:Src->AH->Prop) (Q':Value->Shared->Prop) (E':Value->Shared->Prop),
  CxOk cx env->Room A n->(cx.q=true->A.handled=.none)->Sim S env cx.vt m H s->
  (∀ c e s' H',Go S [] s H s' H'->X c H'->FlyAt Fly A env c s e s'->E' e s')->
  (∀ src I s' H',Go S [] s H s' H'->It S src I 0 s'.heap->s.heap.get? I=.none->H' I=.none->src.ok H'->(∀ a l,src.at_=some (a,.list l)->src.items=l)->(∀ a d ep,src.at_=some (a,.dict d ep)->src.items=d.map λ p=>.int p.1)->src.items.length<=lid->Q src H'->Q' (.ref I) s')->
  WI C X ii m H Q->wpAny (model S.prog S.w) A (eval e env) (λ x aB=>wpAny (model S.prog S.w) A (pyIter x) Q' E' aB) E' s

set_option tactic.hygienic true in
theorem eS {e:Expr} {ie:IE} (he:SE S C n Fly cx e ie):SI S C n Fly cx e (.val ie):=λ env A X m H s Q Q' E' ok room hd sim hX hQ w=>by
 conv at w=>whnf
 refine he env A X m H s _ _ E' ok room hd sim hX (λ v av aB aD aA aF aC=>?_) w
 have aK:=(sim.go aA).toSimG
 have push:∀ o:Obj,Go S [] s H { aB with heap:=aB.heap.push o } aD:=λ o=>aA.trans (aK.keeps (h':=aB.heap.push o) (zU _ _) aB.toks)
 have fr:s.heap.get? aB.heap.objs.size=.none:=by
  cases q:s.heap.get? aB.heap.objs.size with
  | none=>rfl
  | some o=>
   have:=aA.ext.alive _ (by simp) (by rw [q];simp)
   exact absurd (get?_size aB.heap) this
 have hI:aD aB.heap.objs.size=.none:=aK.hrel.fresh (get?_size _)
 unfold wP at aC
 cases av with
 | tup l_=>
  refine ex3 (aF.inv) λ _ _ _ hx_=>an4 hx_ λ hr3_ ho hz rs=>?_;clear hx_;subst hr3_
  dsimp only at aC
  refine wpAny_pyIter_tuple ⟨_,ho,rfl,_,rfl⟩ (hQ ⟨_,.none⟩ _ _ _ (push _) ?_ fr hI trivial (by intro _ _ z;cases z) (by intro _ _ _ z;cases z) ?_ aC)
  ·exact .inr (.inr ⟨rfl,.inl ⟨_,_,_,⟨_,Heap.get?_push_size _ rfl,rfl,rfl⟩,Heap.get?_push_of_some _ ho,rs.mono λ b o e _=>zU _ _ b o e⟩⟩)
  ·have h:=rs.length
   rw [Array.length_toList] at h
   exact Nat.le_trans (Nat.le_of_eq h) hz
 | fro l_=>
  refine ex2 (aF.inv) λ _ _ hx_=>an4 hx_ λ hr2_ hl hz rs=>?_;clear hx_;subst hr2_
  dsimp only at aC
  refine wpAny_pyIter_list (Heap.IsList.at hl (aK.stays _)) (hQ ⟨_,.none⟩ _ _ _ (push _) ?_ fr hI trivial (by intro _ _ z;cases z) (by intro _ _ _ z;cases z) ?_ aC)
  ·exact .inr (.inr ⟨rfl,.inr (.inl ⟨_,_,⟨_,Heap.get?_push_size _ rfl,rfl,rfl⟩,hl,rs.mono λ b o e _=>zU _ _ b o e⟩)⟩)
  ·have h:=rs.length
   rw [Array.length_toList] at h
   exact Nat.le_trans (Nat.le_of_eq h) hz
 | str y=>
  obtain ⟨t,rfl,_⟩:=aF.inv
  dsimp only at aC
  by_cases hc:(u8 y&&decide (y.length<=lid))=true
  ·rw [if_pos hc] at aC
   obtain ⟨h1,h2⟩:=Bool.and_eq_true_iff.mp hc
   refine wpAny_pyIter_ascii h1 (hQ ⟨_,.none⟩ _ _ _ (push _) ?_ fr hI trivial (by intro _ _ z;cases z) (by intro _ _ _ z;cases z) ?_ aC)
   ·exact .inr (.inr ⟨rfl,.inr (.inr (.inr ⟨y,t,rfl,h1,_,Heap.get?_push_size _ rfl,rfl,rfl⟩))⟩)
   ·have h3:y.length<=lid:=of_decide_eq_true h2
    simpa [wF,Str.length] using h3
  ·rw [if_neg hc] at aC;exact aC.elim
 | ref a=>
  obtain rfl:=aF.inv
  dsimp only at aC
  split at aC
  ·rename_i src hs
   split at hs
   ·rename_i l hl
    cases hs
    refine ex2 (aK.hrel _ _ hl) λ items k hx_=>an3 hx_ λ ho hz rs=>?_;clear hx_
    have hlen:l.length=items.size:=rs.length
    refine wpAny_pyIter_list ho.isList (hQ ⟨l,some (a,.list l)⟩ _ _ _ (push _) ?_ fr hI hl (by intro _ _ z;cases z;rfl) (by intro _ _ _ z;cases z) (by show l.length<=lid;lia) aC)
    exact .inl ⟨a,l,rfl,_,Heap.get?_push_size _ rfl,rfl,rfl⟩
   ·rename_i d ep hda
    cases hs
    refine ex1 (aK.hrel _ _ hda) λ kvs hx_=>an3 hx_ λ hk hz dr=>?_;clear hx_
    have hlen:=dr.length
    refine wpAny_pyIter_dict (knd:=intKind S.prog S.w) (aK.notSys hda) hk (hQ ⟨d.map λ p=>.int p.1,some (a,.dict d ep)⟩ _ _ _ (push _) ?_ fr hI hda (by intro _ _ z;cases z) (by intro _ _ _ z;cases z;rfl) (by simpa using hz) aC)
    refine .inr (.inl ⟨a,d,ep,rfl,?_⟩)
    rw [hlen]
    exact ⟨_,Heap.get?_push_size _ rfl,rfl,rfl⟩
   ·cases hs
  ·exact aC.elim
 | _=>exact aC.elim

theorem rO {i j:Int} (h:-(2 ^ 60)<=i/\i<=2 ^ 60/\-(2 ^ 60)<=j/\j - i<=lid):Builtin.Range.small i j 1=true/\Builtin.Range.rangeSize i j 1=((j - i).toNat:Int):=by
 have hs:Builtin.Range.rangeSize i j 1=((j - i).toNat:Int):=by
  unfold Builtin.Range.rangeSize
  have:(1:Int) > 0:=by omega
  simp only [this,if_true,Int.ediv_one]
  split<;>omega
 refine ⟨?_,hs⟩
 unfold Builtin.Range.small Builtin.Range.rangeFitsLong
 rw [hs]
 unfold lid at h
 have:(1:Int) > 0:=by omega
 simp only [this,if_true]
 simp only [Bool.and_eq_true,Bool.or_eq_true,decide_eq_true_eq,beq_iff_eq]
 omega

theorem pM {env:Env} {A:Around} {H:AH} {s:Shared} (x:SimG S H s) {i j:Int} (hb:-(2 ^ 60)<=i/\i<=2 ^ 60/\-(2 ^ 60)<=j/\j - i<=lid) {r:Nat} {t u v:Tok} (hr:IsRange s.heap r i j 1 t u v) {Q':Value->Shared->Prop} {E':Value->Shared->Prop}
  (hQ:∀ I s',Go S [] s H s' H->It S ⟨zJ i j,.none⟩ I 0 s'.heap->s.heap.get? I=.none->Q' (.ref I) s'):wpAny (model S.prog S.w) A (pyIter (.ref r)) Q' E' s:=by
 obtain ⟨h1,h2⟩:=rO hb
 refine wpAny_pyIter_range hr h1 (hQ _ _ (x.keeps (h':=s.heap.push _) (zU _ _) s.toks) (.inr (.inr ⟨rfl,.inr (.inr (.inl ⟨i,j,rfl,?_⟩))⟩)) (get?_size _))
 rw [h2]
 have e1:i+((0:Nat):Int)=i:=by simp
 have e2:((j - i).toNat:Int) - ((0:Nat):Int)=((j - i).toNat:Int):=by simp
 rw [e1,e2]
 exact Heap.get?_push_size _ rfl
end

noncomputable def NoFly (Fly:FlyT):Prop:=∀ A env c b7 e s,¬ Fly A env c b7 e s
theorem NoFly.at {Fly:FlyT} (h:NoFly Fly) {A:Around} {env:Env} {c:Nat} {s s':Shared} {e:Value}:¬ FlyAt Fly A env c s e s':=λ ⟨_,_,x⟩=>h _ _ _ _ _ _ x

section
variable {S:Stat} {C:Calls} {n:Nat} {Fly:FlyT} {cx:Cx}

inductive NamesAre (vt:List (Str×Nat)):List Expr->List Nat->Prop
 | nil:NamesAre vt [] []
 | cons {x:Str} {p:Pos} {i:Nat} {r:List Expr} {is:List Nat}:vt.lookup x=some i->NamesAre vt r is->NamesAre vt (.Name x p::r) (i::is)

inductive TgIs (vt:List (Str×Nat)):Expr->Tg->Prop
 | one {x:Str} {p:Pos} {i:Nat}:vt.lookup x=some i->TgIs vt (.Name x p) (.one i)
 | many {es:List Expr} {k:Nat} {p:Pos} {is:List Nat}:NamesAre vt es is->es.length<=50->TgIs vt (.Tuple es k p) (.many is)

theorem yo {env:Env} {vt:List (Str×Nat)} {m:Loc} {H H':AH} {s s':Shared} (x:Sim S env vt m H s) (g:Go S [] s H s' H'):Go S (z9 env) s H s' H':=
 g.wider (by intro b hb;cases hb) λ b hb=>((x.go g).own b hb).2

theorem sI {env:Env} (ok:EnvOk env cx.vt) {A:Around} {E':Value->Shared->Prop} {D:List Nat} (hsub:∀ b∈D,b∈z9 env) {es:List Expr} {is:List Nat} {l:List AV} {vs:List Value} {m m':Loc} {H:AH} {s:Shared} {Q:Unit->Shared->Prop} (hn:NamesAre cx.vt es is) (nf:∀ x p,Expr.Name x p∈es->env.kindOf x≠some .free/\wz env D x) (sim:Sim S env cx.vt m H s) (rs:VRels S s.heap l vs) (e:v6 is l m=some m')
  (h:∀ s',Sim S env cx.vt m' H s'->Go S D s H s' H->Q () s'):wpAny (model S.prog S.w) A (assignInOrder ((assignEach es env).map (·.2)) vs) Q E' s:=by
 induction hn generalizing l vs m s Q with
 | nil=>
  cases rs with
  | nil=>
   have e:some m=some m':=e
   cases e
   exact wpAny_assignInOrder_none (h s sim (sim.toSimG.refl _))
  | cons=>exact nomatch e
 | @cons x p i r is hx hr ih=>
  cases rs with
  | nil=>exact nomatch e
  | @cons a v l vs rv rs=>
   refine wpAny_assignInOrder_more (wpAny_assign_Name (xe ok sim hx (nf x p (.head _)).1 rv hsub (nf x p (.head _)).2 λ aB aG aA=>?_))
   exact ih (λ y q hy=>nf y q (.tail _ hy)) aG (rs.mono (aA.ext.leant sim.hrel λ b hb=>sim.noLeant b (hsub b hb))) e λ aH aJ aE=>h aH aJ (aA.trans aE)

theorem NamesAre.length {vt:List (Str×Nat)} {es:List Expr} {is:List Nat} (h:NamesAre vt es is):es.length=is.length:=by
 induction h with
 | nil=>rfl
 | cons _ _ ih=>exact congrArg (·+1) ih
theorem vY {vt:List (Str×Nat)} (env:Env) {es:List Expr} {is:List Nat} (h:NamesAre vt es is):(assignEach es env).length=es.length/\(assignEach es env).findIdx? (·.1)=none:=by
 induction h with
 | nil=>exact ⟨rfl,rfl⟩
 | @cons x p i r is _ _ ih=>
  have e:assignEach (.Name x p::r) env=(false,assign (.Name x p) env)::assignEach r env:=rfl
  rw [e]
  refine ⟨congrArg (·+1) ih.1,?_⟩
  rw [List.findIdx?_cons]
  simp [ih.2]
theorem xf:∀ {is:List Nat} {l:List AV} {m m':Loc},v6 is l m=some m'->is.length=l.length
 | [],[],_,_,_=>rfl
 | [],_::_,_,_,e=>by cases e
 | _::_,[],_,_,e=>by cases e
 | _::is,_::l,_,_,e=>congrArg (·+1) (xf e)

set_option tactic.hygienic true in
theorem sJ {env:Env} (ok:EnvOk env cx.vt) {A:Around} (hh:A.handled=.none) {target:Expr} {t:Tg} (ht:TgIs cx.vt target t) {D:List Nat} (hsub:∀ b∈D,b∈z9 env) (nf:∀ x i,cx.vt.lookup x=some i->(∃ p,target=.Name x p\/∃ es k q,target=.Tuple es k q/\Expr.Name x p∈es)->env.kindOf x≠some .free/\wz env D x) {m m':Loc} {H:AH} {s:Shared} {av:AV} {v:Value} (sim:Sim S env cx.vt m H s) (rv:VRel S s.heap av v) (e:zz t av m=some m') {Q:Unit->Shared->Prop} {E':Value->Shared->Prop}
  (h:∀ s',Sim S env cx.vt m' H s'->Go S D s H s' H->Q () s'):wpAny (model S.prog S.w) A (assign target env v) Q E' s:=by
 cases ht with
 | one hx=>
  simp only [zz] at e;cases e
  exact wpAny_assign_Name (xe ok sim hx (nf _ _ hx ⟨_,.inl rfl⟩).1 rv hsub (nf _ _ hx ⟨_,.inl rfl⟩).2 h)
 | many hes hlen=>
  rename_i es k p is
  simp only [zz] at e
  split at e
  ·rename_i l
   cases rv with
   | tup ho hz rs=>
    obtain ⟨h1,h2⟩:=vY env hes
    have hl:=rs.length
    have hl2:=xf e
    have hl3:=hes.length
    refine wpAny_assign_Tuple hh ⟨_,ho,rfl,_,rfl⟩ (by rw [h1];simp at hl;lia) h2 λ h' eb=>?_
    have keep:∀ b o,s.heap.get? b=some o->h'.get? b=some o:=λ b o e=>eb b o (Nat.ne_of_lt (wT e)) e
    have g:=sim.toSimG.keeps keep s.toks
    have nf':∀ x p,Expr.Name x p∈es->env.kindOf x≠some .free/\wz env D x:=λ x p hm=>by
     have:∃ i,cx.vt.lookup x=some i:=by
      clear e hl hl2 hl3 h1 h2 hlen nf
      induction hes with
      | nil=>cases hm
      | cons hx _ ih=>
       rcases List.mem_cons.mp hm with z | z
       ·cases z;exact ⟨_,hx⟩
       ·exact ih z
     obtain ⟨i,hi⟩:=this
     exact nf x i hi ⟨p,.inr ⟨es,k,_,rfl,hm⟩⟩
    refine sI ok hsub hes nf' (sim.go g) (rs.mono λ b o e _=>keep b o e) e λ aH aJ aE=>?_
    exact h aH aJ ((g.wider (by intro b hb;cases hb) λ b hb=>(sim.own b (hsub b hb)).2).trans aE)
  ·cases e

theorem qX {A:Around} {target:Expr} {t:Tg} (ht:TgIs cx.vt target t) {src:Src} {I i:Nat} {s:Shared} {v:Value} (it:It S src I i s.heap) {Q:Unit->Shared->Prop} {E':Value->Shared->Prop} (h:Q () s):wpAny (model S.prog S.w) A (letOwnedTupleGo target (.ref I) v) Q E' s:=by
 cases ht with
 | one hx=>exact wpAny_pure h
 | many hes hlen=>
  obtain ⟨o,T,e,hc,⟨vs,hd⟩,hT⟩:=it.obj
  cases v with
  | ref a=>
   show wpAny _ _ (do
    let o <-load I
    match o.cls,o.data with
    | .type n,.fields vs=>
     if ["enumerate","zip","dict_itemiterator","dict_reverseitemiterator","odict_iterator","itertools.zip_longest","itertools.pairwise"].contains n&&vs[0]? == some (rawInt a) then
      rule "for.unpacks-the-owned-tuple"
      updateField I 0 .none
    | _,_=>pure ()) _ _ _
   refine wpAny_bind (wpAny_load e ?_)
   rw [hc,hd]
   dsimp only
   have hno:["enumerate","zip","dict_itemiterator","dict_reverseitemiterator","odict_iterator","itertools.zip_longest","itertools.pairwise"].contains T=false:=by
    rcases hT with rfl | rfl | rfl | rfl | rfl<;>decide
   rw [hno,Bool.false_and,if_neg (by simp)]
   exact wpAny_pure h
  | _=>exact wpAny_pure h

noncomputable def SIfs (S:Stat) (C:Calls) (n:Nat) (Fly:FlyT) (cx:Cx) (es:List Expr) (its:ITs):Prop:=
 (es=[]/\its=.nil)\/∃ e it,es=[e]/\its=.cons it .nil/\ST S C n Fly cx e it

theorem nv {es:List Expr} {its:ITs} (h:SIfs S C n Fly cx es its) {env:Env} {A:Around} {X:Nat->AH->Prop} {m:Loc} {H:AH} {s:Shared} {Q:Bool->AH->Prop} {Q':Bool->Shared->Prop} {E':Value->Shared->Prop}
  (ok:CxOk cx env) (room:Room A n) (hd:cx.q=true->A.handled=.none) (sim:Sim S env cx.vt m H s)
  (hX:∀ c e s' H',Go S [] s H s' H'->X c H'->FlyAt Fly A env c s e s'->E' e s')
  (hQ:∀ b s' H',Go S [] s H s' H'->Q b H'->Q' b s') (w:WTAnd C X its m H Q) :
  wpAny (model S.prog S.w) A (forIn es true λ c r=>if r=true then do let ok <-isTrue c env (eval c env);pure (ForInStep.yield ok) else pure (ForInStep.yield r)) Q' E' s:=by
 rcases h with ⟨rfl,rfl⟩ | ⟨e,it,rfl,rfl,he⟩
 ·exact wpAny_tests_nil (hQ _ _ _ (sim.refl []) w)
 ·refine wpAny_tests_one (he env A X m H s _ _ E' ok room hd sim hX (λ b s' H' g w'=>?_) w)
  cases b
  ·exact hQ _ _ _ g w'
  ·exact hQ _ _ _ g w'

theorem kj {s:Shared} {H:AH} {D:Nat} {its:Array Value} {k:Nat} {v:Value} (x:SimG S H s) (hD:H D=.none) (hb:S.base.get? D=.none) (ho:IsL s.heap D its k) (hz:its.size<=lid) {A:Around} {Q:Value->Shared->Prop} {E:Value->Shared->Prop}
  (hQ:∀ s' k',Go S [D] s H s' H->IsL s'.heap D (its.push v) k'->zN s.heap s'.heap->(∀ b,b≠D->∀ o,s.heap.get? b=some o->s'.heap.get? b=some o)->Q .none s'):wpAny (model S.prog S.w) A (call (.builtin "list.append") [.ref D,v]) Q E s:=by
 refine call_meets F.slot_list_append ⟨_,ho,rfl⟩ F.entry_list_append (F.args_list_append_2 _ _) (list_append D its k v (zZ hz)) ⟨ho,?_⟩
 have nl:∀ o,s.heap.get? D=some o->¬ Leant o:=λ o e l=>by
  cases e.symm.trans ho
  rcases l with ⟨q,_⟩ | ⟨⟨c,q⟩,_⟩
  ·simp at q
  ·cases q
 have sb:Heap.SameBut D s.heap (s.heap.update D (Obj.mapSeq λ xs=>xs.push v)):=Heap.SameBut.update ..
 obtain ⟨g,lk⟩:=z5 x hD hb sb.extBut nl s.toks
 exact hQ _ _ g (IsL.update ho (λ xs=>xs.push v)) lk λ b hb o e=>(sb.2 b hb).trans e

theorem Sim.goD {env:Env} {vt:List (Str×Nat)} {m:Loc} {H H':AH} {s s':Shared} {D:List Nat} (x:Sim S env vt m H s) (g:Go S D s H s' H') (hD:∀ b∈z9 env,b∉D) (nl:xM D s.heap):Sim S env vt m H' s':=by
 have lk:zN s.heap s'.heap:=g.ext.leant x.hrel nl
 have own:∀ b∈z9 env,∀ o,s.heap.get? b=some o->∃ o',s'.heap.get? b=some o'/\KeptO o o':=λ b hb o e=>g.ext.kept b o e (x.own b hb).2 (hD b hb)
 have there:∀ b∈z9 env,∃ o,s.heap.get? b=some o:=λ b hb=>by
  rcases List.mem_cons.mp hb with rfl | hb
  ·obtain ⟨mm,o',es,ep,e,_⟩:=x.loc;exact ⟨o',e⟩
  ·obtain ⟨⟨n,c⟩,hm,rfl⟩:=List.mem_map.mp hb
   obtain ⟨cv,o',e,hd⟩:=x.cells n c hm;exact ⟨o',e⟩
 have cm:∀ n c,(n,c)∈env.cells->c∈z9 env:=λ n c hm=>List.mem_cons_of_mem _ (List.mem_map.mpr ⟨(n,c),hm,rfl⟩)
 refine ⟨x.toSimG.go g,λ b hb=>⟨(x.own b hb).1,?_⟩,?_,λ n c hm=>?_,λ y i av hy hm=>?_⟩
 ·obtain ⟨o,e⟩:=there b hb
  exact g.ext.none e (x.own b hb).2
 ·obtain ⟨mm,hn⟩:=x.loc
  exact ⟨mm,wy hn λ o e=>own _ (.head _) o e⟩
 ·obtain ⟨cv,hc⟩:=x.cells n c hm
  exact ⟨cv,wU hc λ o e=>own c (cm n c hm) o e⟩
 ·with_reducible refine ex1 (x.vars y i av hy hm) λ v hx_=>an2 hx_ λ hv r=>?_;clear hx_
  refine ⟨v,?_,r.mono lk⟩
  rcases hv with ⟨hk,mm,hn,hv⟩ | ⟨hk,c,hc,hv⟩
  ·exact .inl ⟨hk,mm,wy hn λ o e=>own _ (.head _) o e,hv⟩
  ·exact .inr ⟨hk,c,hc,wU hv λ o e=>own c (cm y c (mem_of_lookup hc)) o e⟩

theorem qY {s s':Shared} {H H':AH} {D k:Nat} {its:Array Value} {DD:List Nat} (ho:IsL s.heap D its k) (hD:H D=.none) (g:Go S DD s H s' H') (hn:D∉DD):IsL s'.heap D its k:=by
 with_reducible refine ex1 (g.ext.kept D _ ho hD hn) λ o' hx_=>an2 hx_ λ e' kk=>?_;clear hx_
 rw [kk.eq (by intro _ _ z;cases z)] at e'
 exact e'
theorem vv {h:Heap} {D k:Nat} {its:Array Value} (ho:IsL h D its k):xM [D] h:=by
 intro b hb o e l
 rw [List.mem_singleton.mp hb] at e
 cases e.symm.trans ho
 rcases l with ⟨q,_⟩ | ⟨⟨c,q⟩,_⟩
 ·simp at q
 ·cases q
theorem vw {h:Heap}:xM [] h:=by intro b hb;cases hb

structure eT (S:Stat) (cenv:Env) (cx:Cx) (src:Src) (I D i:Nat) (m:Loc) (H:AH) (l:List AV) (its:Array Value) (k:Nat) (s:Shared):Prop where
 sim:Sim S cenv cx.vt m H s
 it:It S src I i s.heap
 hI:H I=.none
 bI:S.base.get? I=.none
 oI:I∉z9 cenv
 acc:IsL s.heap D its k
 hD:H D=.none
 bD:S.base.get? D=.none
 oD:D∉z9 cenv
 DI:D≠I
 rel:VRels S s.heap l its.toList

set_option tactic.hygienic true in
theorem ny (nf:NoFly Fly) {env cenv:Env} {A:Around} (hh:A.handled=.none) (ok:CxOk cx cenv) (room:Room A n) {X:Nat->AH->Prop} {src:Src} {I D:Nat} {t:Tg} {cond:ITs} {elt:IE} {eltE target iter:Expr} {ifs:List Expr} {scope:Scope} {pos:Pos}
  (hsrc:∀ a l,src.at_=some (a,.list l)->src.items=l) (hsd:∀ a d ep,src.at_=some (a,.dict d ep)->src.items=d.map λ p=>.int p.1) (hlid:src.items.length<=lid)
  (ht:TgIs cx.vt target t) {T:List Nat} (hsub:∀ b∈T,b∈z9 cenv) (hnf:∀ x i,cx.vt.lookup x=some i->(∃ p,target=.Name x p\/∃ es k q,target=.Tuple es k q/\Expr.Name x p∈es)->cenv.kindOf x≠some .free/\wz cenv T x) (hc:SIfs S C n Fly cx ifs cond) (he:SE S C n Fly cx eltE elt) {R:Result->Shared->Prop} {Q:List AV->AH->Prop} :
  ∀ (rest:List AV) (i:Nat) (m:Loc) (H:AH) (l:List AV) (its:Array Value) (k:Nat) (s:Shared),rest=src.items.drop i->its.size<=i->i<=src.items.length->eT S cenv cx src I D i m H l its k s->
  wQ src.ok (zz t) (λ m H Q=>WTAnd C X cond m H Q) (λ m H Q=>WE C X elt m H Q) rest m H l Q->
  (∀ s' H' l' its' k',Go S (D::I::T) s H s' H'->IsL s'.heap D its' k'->H' D=.none->VRels S s'.heap l' its'.toList->its'.size<=lid->(∃ mm,s'.heap.Ns cenv.locals mm)->Q l' H'->R (.ok .next) s')->
  codeAny (model S.prog S.w) A (.compLoop (.ListComp eltE [⟨target,iter,ifs,0⟩] scope pos) 0 (.ref I) (.ref D) cenv) R s:=by
 intro rest
 induction rest with
 | nil=>
  intro i m H l its k s hr hi hil st w hR
  refine codeAny_of_tree ?_
  show wpAny _ A ((compTurn (.ListComp eltE [⟨target,iter,ifs,0⟩] scope pos) 0 (.ref I) (.ref D) cenv).onRaise (λ x=>do noteFrame x cenv;theTreesLotGoes x)) _ _ s
  refine wpAny_noted ?_
  rw [compTurn_list]
  refine wpAny_bind (wpAny_standAt (wpAny_bind ?_))
  have hend:src.items[i]?=none:=by
   have:src.items.length<=i:=by
    have:=congrArg List.length hr;simp at this;lia
   simpa using this
  refine iQ hh st.sim.toSimG st.hI st.bI w.1 hsrc hsd st.it hend λ s' g=>?_
  refine wpAny_pure (hR s' H l its k ?_ ?_ st.hD (st.rel.mono ?_) ?_ ?_ w.2)
  ·refine g.wider (by intro b hb;rcases List.mem_singleton.mp hb;exact .tail _ (.head _)) λ b hb=>?_
   rcases List.mem_cons.mp hb with rfl | hb
   ·exact st.hD
   ·rcases List.mem_cons.mp hb with rfl | hb
    ·exact st.hI
    ·exact (st.sim.own b (hsub b hb)).2
  ·with_reducible refine ex1 (g.ext.kept D _ st.acc st.hD (by simpa using st.DI)) λ o' hx_=>an2 hx_ λ e' kk=>?_;clear hx_
   rw [kk.eq (by intro _ _ z;cases z)] at e'
   exact e'
  ·exact g.ext.leant st.sim.hrel (by intro b hb o e;rcases List.mem_singleton.mp hb;exact st.it.noLeant o e)
  ·lia
  ·obtain ⟨mm,hn⟩:=st.sim.loc
   exact ⟨mm,wy hn λ o e=>g.ext.kept _ o e (st.sim.own _ (.head _)).2 (by intro q;exact st.oI (by rw [<-List.mem_singleton.mp q];exact .head _))⟩
 | cons av rest ih=>
  intro i m H l its k s hr hi hil st w hR
  have hget:src.items[i]?=some av:=by
   have:=congrArg (λ l=>l[0]?) hr
   simpa using this.symm
  have hlt:i < src.items.length:=(List.getElem?_eq_some_iff.mp hget).1
  have hrest:rest=src.items.drop (i+1):=by
   rw [<-List.drop_drop (i:=1) (j:=i)] at *
   have:(av::rest).drop 1=(src.items.drop i).drop 1:=by rw [hr]
   simpa [List.drop_drop,Nat.add_comm] using this
  refine codeAny_of_tree ?_
  show wpAny _ A ((compTurn (.ListComp eltE [⟨target,iter,ifs,0⟩] scope pos) 0 (.ref I) (.ref D) cenv).onRaise (λ x=>do noteFrame x cenv;theTreesLotGoes x)) _ _ s
  refine wpAny_noted ?_
  rw [compTurn_list]
  refine wpAny_bind (wpAny_standAt (wpAny_bind ?_))
  unfold wQ at w
  obtain ⟨wok,w⟩:=w
  refine nu st.sim.toSimG st.hI st.bI wok hsrc hsd st.it hget λ v aB aA rv aX=>?_
  split at w
  ·rename_i m' hm'
   have nlI:xM [I] s.heap:=by intro b hb o e;rw [List.mem_singleton.mp hb] at e;exact st.it.noLeant o e
   have aG:=st.sim.goD aA (λ b hb q=>st.oI (by rw [<-List.mem_singleton.mp q];exact hb)) nlI
   have acc₁:=qY st.acc st.hD aA (by simpa using st.DI)
   have rel₁:=st.rel.mono (aA.ext.leant st.sim.hrel nlI)
   refine wpAny_bind (qX ht aX ?_)
   refine wpAny_bind (sJ ok.toEnvOk hh ht hsub hnf aG rv hm' λ aH aJ aE=>?_)
   have b6:=aX.go aG.toSimG aE st.hI (λ q=>st.oI (hsub _ q)) (λ b hb=>aG.noLeant b (hsub b hb))
   have bZ:=qY acc₁ st.hD aE (λ q=>st.oD (hsub _ q))
   have rel₂:=rel₁.mono (aE.ext.leant aG.hrel λ b hb=>aG.noLeant b (hsub b hb))
   have wide:∀ {DD:List Nat} {s s':Shared} {H H':AH},Go S DD s H s' H'->(∀ b∈DD,b∈D::I::T)->H' D=.none->H' I=.none->(∀ b∈T,H' b=.none)->Go S (D::I::T) s H s' H':=λ g hs h1 h2 h3=>g.wider hs λ b hb=>by
    rcases List.mem_cons.mp hb with rfl | hb
    ·exact h1
    ·rcases List.mem_cons.mp hb with rfl | hb
     ·exact h2
     ·exact h3 b hb
   have G12:Go S (D::I::T) s H aH H:=(wide aA (by intro b hb;rw [List.mem_singleton.mp hb];exact .tail _ (.head _)) st.hD st.hI (λ b hb=>(st.sim.own b (hsub b hb)).2)).trans (wide aE (λ b hb=>.tail _ (.tail _ hb)) st.hD st.hI (λ b hb=>(st.sim.own b (hsub b hb)).2))
   refine wpAny_bind (nv hc ok room (λ _=>hh) aJ (λ c e s' H' _ _ f=>absurd f nf.at) (λ b aY aP aN aU=>?_) w)
   have aQ:=aJ.go aN
   have b9:=b6.go aJ.toSimG aN st.hI (by simp) vw
   have bW:=qY bZ st.hD aN (by simp)
   have c8:=rel₂.go aJ.toSimG aN
   with_reducible refine ex2 (b6.obj) λ oI _ hx_=>an2 hx_ λ eI _=>?_;clear hx_
   have bA:aP I=.none:=aN.ext.none eI st.hI
   have bM:aP D=.none:=aN.ext.none bZ st.hD
   have G13:=G12.trans (wide aN (by intro b hb;cases hb) bM bA λ b hb=>(aQ.own b (hsub b hb)).2)
   cases b with
   | false=>
    refine wpAny_pure ⟨rfl,?_⟩
    refine ih (i+1) m' aP l its k aY hrest (by lia) (by lia) ⟨aQ,b9,bA,st.bI,st.oI,bW,bM,st.bD,st.oD,st.DI,c8⟩ aU λ s' H' l' its' k' g a1 a2 a3 a4 a5 a6=>?_
    exact hR s' H' l' its' k' (G13.trans g) a1 a2 a3 a4 a5 a6
   | true=>
    refine wpAny_bind (wpAny_bind (he cenv A X m' aP aY _ _ _ ok room (λ _=>hh) aQ (λ c e s' H' _ _ f=>absurd f nf.at) (λ u au aT b8 aR ru bE=>?_) aU))
    have bH:=aQ.go aR
    have it₄:=b9.go aQ.toSimG aR bA (by simp) vw
    have bQ:=qY bW bM aR (by simp)
    have rel₄:=c8.go aQ.toSimG aR
    with_reducible refine ex2 (b9.obj) λ oI' _ hx_=>an2 hx_ λ eI' _=>?_;clear hx_
    have bP:b8 I=.none:=aR.ext.none eI' bA
    have bN:b8 D=.none:=aR.ext.none bW bM
    have G14:=G13.trans (wide aR (by intro b hb;cases hb) bN bP λ b hb=>(bH.own b (hsub b hb)).2)
    refine wpAny_bind (kj bH.toSimG bN st.bD bQ (by lia) λ s₅ k₅ bU acc₅ lk₅ _=>?_)
    refine wpAny_pure (wpAny_pure ⟨rfl,?_⟩)
    have sim₅:=bH.goD bU (λ b hb q=>st.oD (by rw [<-List.mem_singleton.mp q];exact hb)) (vv bQ)
    have it₅:=it₄.go bH.toSimG bU bP (by simpa using Ne.symm st.DI) (vv bQ)
    have G15:=G14.trans (wide bU (by intro b hb;rw [List.mem_singleton.mp hb];exact .head _) bN bP λ b hb=>(bH.own b (hsub b hb)).2)
    refine ih (i+1) m' b8 (l++[au]) (its.push u) k₅ s₅ hrest (by rw [Array.size_push];lia) (by lia) ⟨sim₅,it₅,bP,st.bI,st.oI,acc₅,bN,st.bD,st.oD,st.DI,(rel₄.concat ru).mono lk₅⟩ bE λ s' H' l' its' k' g a1 a2 a3 a4 a5 a6=>?_
    exact hR s' H' l' its' k' (G15.trans g) a1 a2 a3 a4 a5 a6
  ·exact w.elim
end

set_option tactic.hygienic true in
theorem xQ:∀ (names:List (Str×NameKind)) (k:Nat) (acc:List (Str×Nat)) (n:Str) (c:Nat),(n,c)∈cellsFrom k names acc->(n,c)∈acc\/(n,NameKind.cell)∈names
 | [],k,acc,n,c,h=>.inl h
 | (n',kd)::r,k,acc,n,c,h=>by
  unfold cellsFrom at h
  split at h
  ·rename_i hk
   have hk:kd=.cell:=by simpa using hk
   rcases xQ r _ _ n c h with q | q
   ·rcases List.mem_cons.mp q with z | z
    ·cases z;rw [hk];exact .inr (.head _)
    ·exact .inl z
   ·exact .inr (.tail _ q)
  ·rcases xQ r _ _ n c h with q | q
   ·exact .inl q
   ·exact .inr (.tail _ q)
set_option tactic.hygienic true in
theorem yX (names:List (Str×NameKind)):∀ (k:Nat) (acc:List (Str×Nat)) (n:Str),((n,NameKind.cell)∈names\/(acc.lookup n).isSome=true)->((cellsFrom k names acc).lookup n).isSome=true:=by
 induction names with
 | nil=>
  intro k acc n h
  rcases h with h | h
  ·cases h
  ·exact h
 | cons p r ih=>
  intro k acc n h
  obtain ⟨n',kd⟩:=p
  unfold cellsFrom
  split
  ·rename_i hk
   refine ih _ _ n ?_
   rcases h with h | h
   ·rcases List.mem_cons.mp h with z | z
    ·cases z;exact .inr (by simp)
    ·exact .inl z
   ·refine .inr ?_
    rw [List.lookup_cons]
    cases n == n'<;>simp [h]
  ·rename_i hk
   refine ih _ _ n ?_
   rcases h with h | h
   ·rcases List.mem_cons.mp h with z | z
    ·cases z;simp at hk
    ·exact .inl z
   ·exact .inr h
theorem y0:∀ (names:List (Str×NameKind)) (k:Nat) (acc:List (Str×Nat)),cellsFrom k names acc=cellsFrom k names []++acc
 | [],_,_=>rfl
 | (n,kd)::r,k,acc=>by
  unfold cellsFrom
  split
  ·rw [y0 r (k+1) ((n,k)::acc),y0 r (k+1) [(n,k)],List.append_assoc];rfl
  ·exact y0 r k acc
theorem kq {M:Model} {A:Around} {E:Value->Shared->Prop} {s:Shared} {scope:Scope} {globals:Nat} {cl:List (Str×Nat)} {qual:Str} {env:Env} {Q:Env->Shared->Prop}
  (hQ:∀ aV,aV.Ns s.heap.objs.size (λ z_=>.none)->(∀ b o,s.heap.get? b=some o->aV.get? b=some o)->CellsOk aV (s.heap.objs.size+1) (cellsFrom (s.heap.objs.size+1) scope.names [])->
   Q (newEnv scope s.heap.objs.size globals (cellsFrom (s.heap.objs.size+1) scope.names []++cl) qual none .none (some env) builtinsNs) { s with heap:=aV }) :
  wpAny M A (newFunctionEnv scope globals cl [] qual none .none (some env)) Q E s:=by
 simp only [newFunctionEnv,Option.isSome_some,if_true]
 refine wpAny_bind (wpAny_alloc ?_)
 refine wpAny_bind (wpAny_layCells _ (λ name kind cells=>by cases hkc:kind == NameKind.cell<;>simp [hkc]) _ _ _ _ ?_)
 have ok:=cellsFrom_ok scope.names (s.heap.push { cls:=.type "dict",data:=.dict #[] }) (s.heap.objs.size+1) [] ⟨λ z_ z_ hm=>(nomatch hm),List.Pairwise.nil⟩ (by rw [Heap.size_push];exact Nat.le_refl _)
 rw [Heap.size_push] at ok
 rw [show ({ s with heap:=s.heap.push { cls:=.type "dict",data:=.dict #[] } }:Shared).heap.objs.size=s.heap.objs.size+1 from Heap.size_push ..]
 refine wpAny_bind ?_
 rw [List.forIn_nil]
 refine wpAny_pure (wpAny_pure ?_)
 rw [y0]
 exact hQ _ ((Heap.Ns.new s.heap (.type "dict")).keeps (pushCells_keeps _ _)) (λ b o e=>pushCells_keeps _ _ b o (Heap.get?_push_of_some _ e)) ok

noncomputable def clOf (env:Env):List (Str×NameKind)->List (Str×Nat)->List (Str×Nat)
 | [],acc=>acc
 | (n,k)::r,acc=>if k == .free then clOf env r ((n,(env.cells.lookup n).getD 0)::acc) else clOf env r acc

set_option tactic.hygienic true in
theorem v8 (env:Env):∀ (names:List (Str×NameKind)) (acc:List (Str×Nat)) (n:Str) (c:Nat),(n,c)∈clOf env names acc->(n,c)∈acc\/((n,NameKind.free)∈names/\c=(env.cells.lookup n).getD 0)
 | [],acc,n,c,h=>.inl h
 | (n',k)::r,acc,n,c,h=>by
  unfold clOf at h
  split at h
  ·rename_i hk
   rcases v8 env r _ n c h with q | ⟨q1,q2⟩
   ·rcases List.mem_cons.mp q with z | z
    ·cases z
     have:k=.free:=by simpa using hk
     subst this
     exact .inr ⟨.head _,rfl⟩
    ·exact .inl z
   ·exact .inr ⟨.tail _ q1,q2⟩
  ·rcases v8 env r _ n c h with q | ⟨q1,q2⟩
   ·exact .inl q
   ·exact .inr ⟨.tail _ q1,q2⟩
set_option tactic.hygienic true in
theorem kx (env:Env) (names:List (Str×NameKind)):∀ (acc:List (Str×Nat)) (x:Str×Nat),(x∈acc->x∈clOf env names acc)/\(∀ n,(n,NameKind.free)∈names->(n,(env.cells.lookup n).getD 0)∈clOf env names acc):=by
 induction names with
 | nil=>exact λ acc x=>⟨λ h=>h,λ n h=>by cases h⟩
 | cons p r ih=>
  intro acc x
  obtain ⟨n',k⟩:=p
  unfold clOf
  split
  ·rename_i hk
   refine ⟨λ h=>(ih _ x).1 (.tail _ h),λ n h=>?_⟩
   rcases List.mem_cons.mp h with z | z
   ·cases z;exact (ih _ _).1 (.head _)
   ·exact (ih _ x).2 n z
  ·rename_i hk
   refine ⟨(ih _ x).1,λ n h=>?_⟩
   rcases List.mem_cons.mp h with z | z
   ·cases z;simp at hk
   ·exact (ih _ x).2 n z
theorem tJ {α:Type} (f:Str->α) (l:List (Str×α)):∀ (n:Str),(∀ m c,(m,c)∈l->c=f m)->(∃ c,(n,c)∈l)->l.lookup n=some (f n):=by
 induction l with
 | nil=>intro n _ h;obtain ⟨c,h⟩:=h;cases h
 | cons p r ih=>
  intro n h hc
  obtain ⟨c',hc⟩:=hc
  obtain ⟨m,c⟩:=p
  rw [List.lookup_cons]
  cases q:n == m with
  | true=>
   have:n=m:=by simpa using q
   subst this
   rw [h n c (.head _)]
  | false=>
   refine ih n (λ m c hm=>h m c (.tail _ hm)) ?_
   rcases List.mem_cons.mp hc with z | z
   ·cases z;simp at q
   ·exact ⟨c',z⟩

theorem pN {scope:Scope} {env:Env} (h:∀ y∈scope.names,y.2=.free->∃ c,env.cells.lookup y.1=some c):closureFor scope env=pure (clOf env scope.names []):=by
 unfold closureFor
 have gen:∀ (names:List (Str×NameKind)) (acc:List (Str×Nat)),(∀ y∈names,y.2=.free->∃ c,env.cells.lookup y.1=some c)->
   (forIn names acc λ (x:Str×NameKind) (r:List (Str×Nat))=>(if (x.2 == NameKind.free)=true then (do let a <-cellOf env x.1;pure (ForInStep.yield ((x.1,a)::r))) else pure (ForInStep.yield r):Sem (ForInStep (List (Str×Nat)))))=pure (clOf env names acc):=by
  intro names
  induction names with
  | nil=>intro acc _;rfl
  | cons y r ih=>
   intro acc h
   obtain ⟨nm,k⟩:=y
   rw [List.forIn_cons]
   dsimp only
   unfold clOf
   by_cases hk:(k == NameKind.free)=true
   ·rw [if_pos hk,if_pos hk]
    obtain ⟨c,hc⟩:=h (nm,k) (.head _) (by simpa using hk)
    have e:cellOf env nm=pure c:=by unfold cellOf;rw [hc]
    rw [e,hc]
    exact ih _ λ y hy=>h y (.tail _ hy)
   ·rw [if_neg hk,if_neg hk]
    exact ih _ λ y hy=>h y (.tail _ hy)
 have g:=gen scope.names [] h
 first
  | (simp only [bind_pure];exact g)
  | (rw [show (forIn scope.names ([]:List (Str×Nat)) _:Sem _)=_ from g];rfl)
  | (refine Eq.trans (congrArg (λ z=>z >>= _) g) ?_;rfl)


theorem sK (t:Tg) (m:Loc) (i:Nat):(i∉wG t->(xL t m)[i]?=m[i]?)/\(i∈wG t->∀ av,(xL t m)[i]?≠some (some av)):=by
 have gen:∀ (xs:List Nat) (m:Loc),(i∉xs->(xs.foldl (λ m x=>m.set x .none) m)[i]?=m[i]?)/\((i∈xs\/∀ av,m[i]?≠some (some av))->∀ av,(xs.foldl (λ m x=>m.set x .none) m)[i]?≠some (some av)):=by
  intro xs
  induction xs with
  | nil=>intro m;exact ⟨λ z_=>rfl,λ h=>by rcases h with h | h;cases h;exact h⟩
  | cons x r ih=>
   intro m
   obtain ⟨h1,h2⟩:=ih (m.set x .none)
   refine ⟨λ h=>?_,λ h=>?_⟩
   ·rw [List.foldl_cons,h1 λ q=>h (.tail _ q),List.getElem?_set_ne λ q=>h (by rw [q];exact .head _)]
   ·rw [List.foldl_cons]
    by_cases q:i∈r
    ·exact h2 (.inl q)
    ·refine h2 (.inr λ av=>?_)
     by_cases z:i=x
     ·subst z
      rw [List.getElem?_set_self']
      cases m[i]?<;>simp
     ·rw [List.getElem?_set_ne λ w=>z w.symm]
      rcases h with h | h
      ·rcases List.mem_cons.mp h with w | w
       ·exact absurd w z
       ·exact absurd w q
      ·exact h av
 cases t with
 | one x=>exact ⟨(gen [x] m).1,λ h=>(gen [x] m).2 (.inl h)⟩
 | many xs=>exact ⟨(gen xs m).1,λ h=>(gen xs m).2 (.inl h)⟩

structure vx (cx:Cx) (scope:Scope) (t:Tg) (target:Expr) (cx':Cx):Prop where
 kind:scope.kind=.function
 ucell:∀ y∈scope.names,y.2=.cell->scope.names.lookup y.1=some .cell
 hnames:∀ y∈scope.names,y.2=.local->scope.names.lookup y.1=some .local
 free:∀ y∈scope.names,y.2=.free->(cx.sc.lookup y.1=some .cell\/cx.sc.lookup y.1=some .free)/\∃ i,cx.vt.lookup y.1=some i
 sc:cx'.sc=scope.names
 q:cx'.q=cx.q
 vt:∀ x i,cx'.vt.lookup x=some i->(x == ("__debug__":Str))=false/\(((scope.names.lookup x=some .local\/scope.names.lookup x=some .cell)/\i∈wG t)\/((x,NameKind.free)∈scope.names/\scope.names.lookup x=some .free/\cx.vt.lookup x=some i/\i∉wG t/\(x == ("__classdict__":Str))=false))
 inj:∀ x y i,cx'.vt.lookup x=some i->cx'.vt.lookup y=some i->x=y
 tg:TgIs cx'.vt target t
 tgl:∀ x p,(target=.Name x p\/∃ es k q,target=.Tuple es k q/\Expr.Name x p∈es)->scope.names.lookup x=some .local\/scope.names.lookup x=some .cell

section
variable {S:Stat} {C:Calls} {n:Nat} {Fly:FlyT} {cx:Cx}

theorem wB {env:Env} (names:List (Str×NameKind)):∀ (x:Str) (k:NameKind),names.lookup x=some k->
  (names.map λ (n,k)=>if (k == NameKind.free&&env.scope.kind == .function&&env.kindOf n == some .cell) then (n,NameKind.cell) else (n,k)).lookup x=some (if (k == NameKind.free&&env.scope.kind == .function&&env.kindOf x == some .cell) then .cell else k):=by
 induction names with
 | nil=>intro x k h;simp at h
 | cons p r ih=>
  intro x k h
  obtain ⟨m,j⟩:=p
  rw [List.lookup_cons] at h
  rw [List.map_cons]
  cases q:x == m with
  | true=>
   rw [q] at h;cases h
   have:x=m:=by simpa using q
   subst this
   dsimp only
   split
   ·rw [List.lookup_cons];simp
   ·rw [List.lookup_cons];simp
  | false=>
   rw [q] at h
   have ih:=ih x k h
   dsimp only
   split
   ·rw [List.lookup_cons,q];exact ih
   ·rw [List.lookup_cons,q];exact ih

theorem SimG.base_none {H:AH} {s:Shared} (x:SimG S H s) {b:Nat} (e:s.heap.get? b=.none):S.base.get? b=.none:=by
 cases q:S.base.get? b with
 | none=>rfl
 | some o=>rw [x.stays b o q] at e;cases e
theorem jA {env:Env} {scope:Scope} {t:Tg} {target:Expr} {cx':Cx} (ok:CxOk cx env) (k:vx cx scope t target cx') {m:Loc} {H:AH} {s s':Shared} {Cl:Nat} {NC:List (Str×Nat)} (hNC:NC=cellsFrom (Cl+1) scope.names []) (sim:Sim S env cx.vt m H s) (hCl:∀ b,Cl<=b->s.heap.get? b=.none) (g:Go S [] s H s' H) (hns:s'.heap.Ns Cl λ z_=>.none) (cok:CellsOk s'.heap (Cl+1) NC) :
  CxOk cx' (compEnvC scope (NC++clOf env scope.names []) Cl env)/\Sim S (compEnvC scope (NC++clOf env scope.names []) Cl env) cx'.vt (xL t m) H s'/\(∀ b∈z9 (compEnvC scope (NC++clOf env scope.names []) Cl env),Cl<=b\/b∈z9 env)/\∀ x,scope.names.lookup x=some .cell->∃ c,(x,c)∈NC/\(NC++clOf env scope.names []).lookup x=some c:=by
 have cell:∀ x,(x,NameKind.free)∈scope.names->∃ c,env.cells.lookup x=some c:=λ x hx=>by
  obtain ⟨h1,i,h2⟩:=k.free _ hx rfl
  have h1:cx.sc.lookup x=some .cell\/cx.sc.lookup x=some .free:=h1
  have h2:cx.vt.lookup x=some i:=h2
  rcases (ok.vars x i h2).2 with q | ⟨_,c,hc⟩
  ·rcases ok.kinds x h1 with z | z<;>rw [q] at z<;>cases z
  ·exact ⟨c,hc⟩
 have mem:∀ x c,(x,c)∈clOf env scope.names []->(x,c)∈env.cells:=λ x c hm=>by
  rcases v8 env _ _ x c hm with q | ⟨q1,q2⟩
  ·cases q
  ·obtain ⟨c',hc'⟩:=cell x q1
   rw [hc'] at q2
   rw [q2];exact mem_of_lookup hc'
 have nkind:∀ x c,(x,c)∈NC->scope.names.lookup x=some .cell:=λ x c hm=>by
  rw [hNC] at hm
  rcases xQ _ _ _ x c hm with q | q
  ·cases q
  ·exact k.ucell _ q rfl
 have look:∀ x c,(x,NameKind.free)∈scope.names->scope.names.lookup x=some .free->env.cells.lookup x=some c->(NC++clOf env scope.names []).lookup x=some c:=λ x c hx hf hc=>by
  have hn:NC.lookup x=.none:=by
   cases q:NC.lookup x with
   | none=>rfl
   | some d=>have:=nkind x d (mem_of_lookup q);rw [hf] at this;cases this
  rw [List.lookup_append,hn]
  have:=tJ (λ x=>(env.cells.lookup x).getD 0) (clOf env scope.names []) x (λ m c hm=>by
   rcases v8 env _ _ m c hm with q | ⟨_,q2⟩
   ·cases q
   ·exact q2) ⟨_,(kx env _ _ (x,0)).2 x hx⟩
  rw [this,hc];rfl
 have lookN:∀ x,scope.names.lookup x=some .cell->∃ c,(x,c)∈NC/\(NC++clOf env scope.names []).lookup x=some c:=λ x hx=>by
  have:=yX scope.names (Cl+1) [] x (.inl (mem_of_lookup hx))
  rw [<-hNC] at this
  obtain ⟨c,hc⟩:=Option.isSome_iff_exists.mp this
  exact ⟨c,mem_of_lookup hc,by rw [List.lookup_append,hc];rfl⟩
 have kof:∀ x kk,scope.names.lookup x=some kk->(compEnvC scope (NC++clOf env scope.names []) Cl env).kindOf x=some (if (kk == NameKind.free&&env.scope.kind == .function&&env.kindOf x == some .cell) then .cell else kk):=λ x kk h=>wB _ _ _ h
 have sim':=sim.go g
 have old:∀ x c,(x,c)∈env.cells->¬ Cl<=c:=λ x c hm q=>by
  with_reducible refine ex2 (sim.cells x c hm) λ cv o hx_=>an2 hx_ λ e z_=>?_;clear hx_
  rw [hCl c q] at e;cases e
 have newc:∀ x c,(x,c)∈NC->Cl < c:=λ x c hm=>(cok.empty x c hm).2
 refine ⟨⟨⟨?_,ok.globals,ok.builtins,λ x i hx=>?_,k.inj,λ a b c h1 h2=>?_,λ a c hm=>?_⟩,λ x hx=>?_,λ x hx=>?_,λ x hx=>?_⟩,⟨sim'.toSimG,λ b hb=>?_,⟨_,hns⟩,λ a c hm=>?_,λ x i av hx hm=>?_⟩,λ b hb=>?_,lookN⟩
 ·show (relabel scope env).kind=.function
  exact k.kind
 ·obtain ⟨h1,h2⟩:=k.vt x i hx
  refine ⟨h1,?_⟩
  rcases h2 with ⟨h2 | h2,_⟩ | ⟨h2,h3,h4,h5,h6⟩
  ·exact .inl ((kof x _ h2).trans (by simp))
  ·refine ex1 (lookN x h2) λ c hx_=>an2 hx_ λ z_ hc=>?_;clear hx_
   exact .inr ⟨.inl ((kof x _ h2).trans (by simp)),c,hc⟩
  ·refine .inr ⟨?_,?_⟩
   ·have:=kof x _ h3
    split at this
    ·exact .inl this
    ·exact .inr ⟨this,h6⟩
   ·obtain ⟨c,hc⟩:=cell x h2
    exact ⟨c,look x c h2 h3 hc⟩
 ·rcases List.mem_append.mp h1 with z1 | z1<;>rcases List.mem_append.mp h2 with z2 | z2
  ·exact name_of_addr cok.apart z1 z2
  ·exact absurd (Nat.le_of_lt (newc _ _ z1)) (old _ _ (mem _ _ z2))
  ·exact absurd (Nat.le_of_lt (newc _ _ z2)) (old _ _ (mem _ _ z1))
  ·exact ok.apart a b c (mem _ _ z1) (mem _ _ z2)
 ·rcases List.mem_append.mp hm with z | z
  ·exact Nat.ne_of_gt (newc _ _ z)
  ·exact λ q=>old _ _ (mem _ _ z) (Nat.le_of_eq q.symm)
 ·rw [k.sc] at hx
  exact (kof x _ hx).trans (by simp)
 ·rw [k.sc] at hx
  rcases hx with hx | hx
  ·exact .inl ((kof x _ hx).trans (by simp))
  ·have:=kof x _ hx
   split at this
   ·exact .inl this
   ·exact .inr this
 ·rw [k.sc] at hx
  rcases hx with hx | hx
  ·rw [kof x _ hx];simp
  ·rw [kof x _ hx];simp
 ·have fr:∀ b,Cl<=b->S.base.get? b=.none/\H b=.none:=λ b hb=>⟨sim.toSimG.base_none (hCl b hb),sim.hrel.fresh (hCl b hb)⟩
  rcases List.mem_cons.mp hb with rfl | hb
  ·exact fr _ (Nat.le_refl _)
  ·obtain ⟨⟨a,c⟩,hm,rfl⟩:=List.mem_map.mp hb
   rcases List.mem_append.mp hm with z | z
   ·exact fr _ (Nat.le_of_lt (newc a c z))
   ·exact sim'.own c (List.mem_cons_of_mem _ (List.mem_map.mpr ⟨(a,c),mem a c z,rfl⟩))
 ·rcases List.mem_append.mp hm with z | z
  ·exact ⟨_,(cok.empty a c z).1⟩
  ·exact sim'.cells a c (mem a c z)
 ·rcases (k.vt x i hx).2 with ⟨_,h3⟩ | ⟨h2,h3,h4,h5,_⟩
  ·exact absurd hm ((sK t m i).2 h3 av)
  ·rw [(sK t m i).1 h5] at hm
   with_reducible refine ex1 (sim'.vars x i av h4 hm) λ v hx_=>an2 hx_ λ hv r=>?_;clear hx_
   refine ⟨v,?_,r⟩
   rcases hv with ⟨hk,_⟩ | ⟨hk,c,hc,hv⟩
   ·obtain ⟨h1,_⟩:=k.free _ h2 rfl
    rcases ok.kinds x h1 with z | z<;>rw [hk] at z<;>cases z
   ·refine .inr ⟨?_,c,look x c h2 h3 hc,hv⟩
    have:=kof x _ h3
    split at this
    ·exact .inl this
    ·exact .inr this
 ·rcases List.mem_cons.mp hb with rfl | hb
  ·exact .inl (Nat.le_refl _)
  ·obtain ⟨⟨a,c⟩,hm,rfl⟩:=List.mem_map.mp hb
   rcases List.mem_append.mp hm with z | z
   ·exact .inl (Nat.le_of_lt (newc a c z))
   ·exact .inr (List.mem_cons_of_mem _ (List.mem_map.mpr ⟨(a,c),mem a c z,rfl⟩))

theorem gU {A:Around} {s:Shared} {src:Src} {I i:Nat} (x:It S src I i s.heap) {Q:Value->Shared->Prop} {E:Value->Shared->Prop} (h:Q (.ref I) s):wpAny (model S.prog S.w) A (pyIter (.ref I)) Q E s:=by
 rcases x with ⟨_,_,-,x⟩ | ⟨_,_,_,-,x⟩ | ⟨-,x⟩
 ·exact wpAny_pyIter_listiter x h
 ·exact wpAny_pyIter_keyiter x h
 ·rcases x with ⟨t,its,k,e,_⟩ | ⟨l,its,e,_⟩ | ⟨a,b,_,e⟩ | ⟨y,t,_,_,e⟩
  ·exact wpAny_pyIter_tupleiter e h
  ·exact wpAny_pyIter_listiter e h
  ·exact wpAny_pyIter_rangeiter e h
  ·exact wpAny_pyIter_striter_ascii e h

set_option tactic.hygienic true in
theorem Go.enter {s s':Shared} {H H':AH} {a:Nat} {ao:AO} (g:Go S [] s H s' H') (ha:s.heap.get? a=.none) (r:ORel S s'.heap a ao):Go S [] s H s' (H'.set a ao):=by
 refine ⟨⟨g.ext.kept,λ b z=>?_,λ b z z'=>?_,g.ext.alive⟩,g.base,λ b o e=>?_,g.gens,g.os⟩
 ·unfold AH.set;split
  ·simp
  ·exact g.ext.more b z
 ·unfold AH.set at z';split at z'
  ·rename_i q;rw [q];exact ⟨ha,by simp⟩
  ·exact g.ext.fresh b z z'
 ·unfold AH.set at e;split at e
  ·rename_i q;cases e;rw [q];exact r
  ·exact g.rel b o e

theorem Sim.there {env:Env} {vt:List (Str×Nat)} {m:Loc} {H:AH} {s:Shared} (x:Sim S env vt m H s):∀ b∈z9 env,∃ o,s.heap.get? b=some o:=λ b hb=>by
 rcases List.mem_cons.mp hb with rfl | hb
 ·obtain ⟨mm,o',es,ep,e,_⟩:=x.loc;exact ⟨o',e⟩
 ·obtain ⟨⟨n,c⟩,hm,rfl⟩:=List.mem_map.mp hb
  obtain ⟨cv,o',e,hd⟩:=x.cells n c hm;exact ⟨o',e⟩

theorem sL {env:Env} {scope:Scope} {t:Tg} {target:Expr} {cx':Cx} (ok:CxOk cx env) (k:vx cx scope t target cx'):closureFor scope env=pure (clOf env scope.names []):=by
 refine pN λ y hy hf=>?_
 obtain ⟨h1,i,h2⟩:=k.free _ hy hf
 rcases (ok.vars y.1 i h2).2 with q | ⟨_,c,hc⟩
 ·rcases ok.kinds y.1 h1 with z | z<;>rw [q] at z<;>cases z
 ·exact ⟨c,hc⟩

theorem Go.none {D:List Nat} {s s':Shared} {H H':AH} (g:Go S D s H s' H') {b:Nat} (hD:b∉D) (e:s'.heap.get? b=.none):s.heap.get? b=.none:=by
 cases q:s.heap.get? b with
 | none=>rfl
 | some o=>exact absurd e (g.ext.alive b hD (by rw [q];simp))

theorem sM (nf:NoFly Fly) {target iter eltE:Expr} {ifs:List Expr} {scope:Scope} {pos pos':Pos} {t:Tg} {cx':Cx} {ii:II} {cond:ITs} {elt:IE} (k:vx cx scope t target cx') (hq:cx.q=true) (hns:vL iter=true)
  (hi:SI S C n Fly cx iter ii) (hc:SIfs S C n Fly cx' ifs cond) (he:SE S C n Fly cx' eltE elt) {use:Option (Value->Sem Unit)}
  {env:Env} {A:Around} {X:Nat->AH->Prop} {m:Loc} {H:AH} {s:Shared} {Q:List AV->AH->Prop} {Q':Value->Shared->Prop} {E':Value->Shared->Prop}
  (ok:CxOk cx env) (room:Room A n) (hd:cx.q=true->A.handled=.none) (sim:Sim S env cx.vt m H s)
  (hX:∀ c e s' H',Go S [] s H s' H'->X c H'->FlyAt Fly A env c s e s'->E' e s')
  (fin:∀ s' H' r D Cl mm,Go S [] s H s' (H'.set D (.list r))->H' D=.none->s.heap.get? Cl=.none->s'.heap.Ns Cl mm->H' Cl=.none->Cl≠D->Q r H'->compPost (model S.prog S.w) A E' use Q' (.ref D) Cl (.ok .next) s')
  (w:WI C X ii m H λ src H=>wQ src.ok (zz t) (λ m H Q=>WTAnd C X cond m H Q) (λ m H Q=>WE C X elt m H Q) src.items (xL t m) H [] Q) :
  wpAny (model S.prog S.w) A (comprehension (.ListComp eltE [⟨target,iter,ifs,0⟩] scope pos) scope env pos' (newList []) false (eval iter env) use) Q' E' s:=by
 refine wpAny_comprehension_free (cl:=clOf env scope.names []) rfl (uf hns env) (sL ok k) k.kind k.hnames ?_
 refine hi env A X m H s _ _ E' ok room hd sim hX (λ src I aB aD aA aX hIf hI srcok hsrc hsd hlid aC=>?_) w
 refine wpAny_newObj_type (kq λ aV bV bO cok=>?_)
 dsimp only at bV bO cok |-
 generalize hH2:aB.heap.push { cls:=.type "list",dict:=none,data:=.seq ([]:List Value).toArray }=H2 at bV bO cok |-
 have hC:H2.objs.size=aB.heap.objs.size+1:=by rw [<-hH2,Heap.size_push]
 have aG:=sim.go aA
 have old:∀ b o,aB.heap.get? b=some o->aV.get? b=some o:=λ b o e=>bO b o (hH2▸Heap.get?_push_of_some _ e)
 have hacc:IsL aV aB.heap.objs.size #[] 0:=bO _ _ (hH2▸Heap.get?_push_size _ rfl)
 have hCl:∀ b,H2.objs.size<=b->aB.heap.get? b=.none:=λ b hb=>get?_none_of_ge (by lia)
 have hDf:aB.heap.get? aB.heap.objs.size=.none:=get?_size _
 have hHD:aD aB.heap.objs.size=.none:=aG.hrel.fresh hDf
 have hbD:=aG.toSimG.base_none hDf
 have hbI:=sim.toSimG.base_none hIf
 have aE:=aG.toSimG.keeps old aB.toks
 generalize hNC:cellsFrom (H2.objs.size+1) scope.names []=NC at cok |-
 refine an4 (jA ok k hNC.symm aG hCl aE bV cok) λ ok' aJ own' lookN=>?_
 with_reducible refine ex2 (aX.obj) λ oI TI hx_=>an2 hx_ λ eI z_=>?_;clear hx_
 have b6:It S src I 0 aV:=aX.keep (old I) λ b o e z_=>old b o e
 have there:=aG.there
 have newT:∀ b∈H2.objs.size::NC.map (·.2),H2.objs.size<=b:=λ b hb=>by
  rcases List.mem_cons.mp hb with rfl | hb
  ·exact Nat.le_refl _
  ·obtain ⟨⟨x,c⟩,hm,rfl⟩:=List.mem_map.mp hb
   exact Nat.le_of_lt (cok.empty x c hm).2
 have loop:codeAny (model S.prog S.w) A (.compLoop (.ListComp eltE [⟨target,iter,ifs,0⟩] scope pos) 0 (.ref I) (.ref aB.heap.objs.size) (compEnvC scope (NC++clOf env scope.names []) H2.objs.size env)) (compPost (model S.prog S.w) A E' use Q' (.ref aB.heap.objs.size) H2.objs.size) { aB with heap:=aV }:=by
  refine ny nf (env:=env) (hd hq) ok' room (T:=H2.objs.size::NC.map (·.2)) hsrc hsd hlid k.tg (λ b hb=>?_) (λ x i hx ht=>?_) hc he (Q:=Q) src.items 0 (xL t m) aD [] #[] 0 _ (by simp) (by simp) (by simp) ⟨aJ,b6,hI,hbI,?_,hacc,hHD,hbD,?_,?_,.nil⟩ aC λ s' H' l' its' k' g a1 a2 a3 a4 a5 a6=>?_
  ·rcases List.mem_cons.mp hb with rfl | hb
   ·exact .head _
   ·refine ex1 (List.mem_map.mp hb) λ y hx_=>an2 hx_ λ hm hr2_=>?_;clear hx_;subst hr2_
    exact .tail _ (List.mem_map.mpr ⟨y,List.mem_append_left _ hm,rfl⟩)
  ·obtain ⟨p,ht⟩:=ht
   have hloc:=k.tgl x p (by
    rcases ht with ht | ht
    ·exact .inl ht
    ·exact .inr ht)
   have hk:∀ kk,scope.names.lookup x=some kk->kk≠.free->(compEnvC scope (NC++clOf env scope.names []) H2.objs.size env).kindOf x=some kk:=λ kk h hne=>by
    have:=wB (env:=env) _ _ _ h
    have hf:(kk == NameKind.free)=false:=by simpa using hne
    rw [hf] at this
    exact this
   rcases hloc with hl | hl
   ·have hk:=hk _ hl (by decide)
    exact ⟨(by rw [hk];intro z;cases z),⟨λ z_=>by exact .head _,λ c z=>by rw [hk] at z;cases z⟩⟩
   ·have hk:=hk _ hl (by decide)
    refine ⟨(by rw [hk];intro z;cases z),⟨λ z_=>by exact .head _,λ c z_ hc=>?_⟩⟩
    refine ex1 (lookN x hl) λ c' hx_=>an2 hx_ λ hm hc'=>?_;clear hx_
    have hc:(NC++clOf env scope.names []).lookup x=some c:=hc
    rw [hc'] at hc;cases hc
    exact .tail _ (List.mem_map.mpr ⟨_,hm,rfl⟩)
  ·intro hb
   rcases own' _ hb with q | q
   ·rw [hCl _ q] at eI;cases eI
   ·obtain ⟨o,e⟩:=sim.there _ q
    rw [hIf] at e;cases e
  ·intro hb
   rcases own' _ hb with q | q
   ·lia
   ·obtain ⟨o,e⟩:=there _ q
    rw [hDf] at e;cases e
  ·intro q;rw [<-q,hDf] at eI;cases eI
  ·-- all in all
   have hHC':H' H2.objs.size=.none:=by
    cases z:H' H2.objs.size with
    | none=>rfl
    | some o=>exact absurd (.tail _ (.tail _ (.head _))) (g.ext.fresh _ (aG.hrel.fresh (hCl _ (Nat.le_refl _))) (by rw [z];simp)).2
   have hfree:∀ b∈aB.heap.objs.size::I::(H2.objs.size::NC.map (·.2)),s.heap.get? b=.none/\aD b=.none:=λ b hb=>by
    rcases List.mem_cons.mp hb with rfl | hb
    ·exact ⟨aA.none (by simp) hDf,hHD⟩
    ·rcases List.mem_cons.mp hb with rfl | hb
     ·exact ⟨hIf,hI⟩
     ·exact ⟨aA.none (by simp) (hCl _ (newT _ hb)),aG.hrel.fresh (hCl _ (newT _ hb))⟩
   have G:=((aA.trans aE).wider (D':=aB.heap.objs.size::I::(H2.objs.size::NC.map (·.2))) (by intro b hb;cases hb) λ b hb=>(hfree b hb).2).trans g
   have G0:Go S [] s H s' H':=G.drop (λ b hb=>.inr (hfree b hb).1) (by intro b hb;cases hb)
   obtain ⟨mm,hmm⟩:=a5
   have hDC:H2.objs.size≠aB.heap.objs.size:=by lia
   exact fin s' H' l' _ _ mm (G0.enter (aA.none (by simp) hDf) ⟨its',k',a1,a4,a3⟩) a2 (aA.none (by simp) (hCl _ (Nat.le_refl _))) hmm hHC' hDC a6
 exact codeAny_compStart_list loop (gU b6 loop)

theorem nz (nf:NoFly Fly) {target iter eltE:Expr} {ifs:List Expr} {scope:Scope} {pos:Pos} {t:Tg} {cx':Cx} {ii:II} {cond:ITs} {elt:IE} (k:vx cx scope t target cx') (hq:cx.q=true) (hns:vL iter=true)
  (hi:SI S C n Fly cx iter ii) (hc:SIfs S C n Fly cx' ifs cond) (he:SE S C n Fly cx' eltE elt):SE S C n Fly cx (.ListComp eltE [⟨target,iter,ifs,0⟩] scope pos) (.comp t ii cond elt):=λ env A X m H s Q Q' E' ok room hd sim hX hQ w=>by
 conv at w=>whnf
 rw [eval_ListComp]
 refine sM nf k hq hns hi hc he ok room hd sim hX (λ s' H' r D Cl mm g hD hCf hn hHC hne aC=>?_) w
 refine ⟨mm,hn,λ h' sb=>?_⟩
 have x':=sim.toSimG.go g
 have hC':(H'.set D (.list r)) Cl=.none:=by unfold AH.set;rw [if_neg hne];exact hHC
 have nl:∀ o,s'.heap.get? Cl=some o->¬ Leant o:=λ o e l=>by
  refine ex3 (hn) λ o' es ep hx_=>an3 hx_ λ e' hd' z_=>?_;clear hx_;(try clear hn)
  rw [e] at e';cases e'
  exact l.noDict _ _ hd'
 obtain ⟨g',_⟩:=z5 x' hC' (sim.toSimG.base_none hCf) sb.extBut nl s'.toks
 have G:Go S [] s H { s' with heap:=h' } (H'.set D (.list r)):=((g.wider (D':=[Cl]) (by intro b hb;cases hb) (by intro b hb;rw [List.mem_singleton.mp hb];exact hC')).trans g').drop (λ b hb=>.inr (by rw [List.mem_singleton.mp hb];exact hCf)) (by intro b hb;cases hb)
 exact hQ _ _ _ _ G (.ref D) (aC D hD)
end

inductive pO (S:Stat) (h:Heap):Fl->Flow->Prop
 | next:pO S h .next .next
 | ret {a:AV} {v:Value}:VRel S h a v->pO S h (.ret a) (.ret v)

section
variable (S:Stat) (C:Calls) (n:Nat) (Fly:FlyT) (cx:Cx)
noncomputable def SS (st:Stmt) (is:IS):Prop:=
 ∀ (env:Env) (A:Around) (X:Nat->Loc->AH->Prop) (m:Loc) (H:AH) (s:Shared) (Q:Fl->Loc->AH->Prop) (Q':Flow->Shared->Prop) (E':Value->Shared->Prop),
  CxOk cx env->Room A n->(cx.q=true->A.handled=.none)->Sim S env cx.vt m H s->
  (∀ c e m' s' H',Go S (z9 env) s H s' H'->Sim S env cx.vt m' H' s'->X c m' H'->FlyAt Fly A env c s e s'->E' e s')->
  (∀ fl f m' s' H',Go S (z9 env) s H s' H'->Sim S env cx.vt m' H' s'->pO S s'.heap fl f->Q fl m' H'->Q' f s')->
  WS C is m H Q X->wpAny (model S.prog S.w) A (exec st env) Q' E' s
noncomputable def SSs (sts:List Stmt) (iss:ISs):Prop:=
 ∀ (env:Env) (A:Around) (X:Nat->Loc->AH->Prop) (m:Loc) (H:AH) (s:Shared) (Q:Fl->Loc->AH->Prop) (Q':Flow->Shared->Prop) (E':Value->Shared->Prop),
  CxOk cx env->Room A n->(cx.q=true->A.handled=.none)->Sim S env cx.vt m H s->
  (∀ c e m' s' H',Go S (z9 env) s H s' H'->Sim S env cx.vt m' H' s'->X c m' H'->FlyAt Fly A env c s e s'->E' e s')->
  (∀ fl f m' s' H',Go S (z9 env) s H s' H'->Sim S env cx.vt m' H' s'->pO S s'.heap fl f->Q fl m' H'->Q' f s')->
  WSs C iss m H Q X->wpAny (model S.prog S.w) A (execs sts env) Q' E' s
end

section
variable {S:Stat} {C:Calls} {n:Nat} {Fly:FlyT} {cx:Cx}

theorem FlyAt.backS {env env':Env} {vt:List (Str×Nat)} {m:Loc} {A:Around} {c:Nat} {s aB:Shared} {e:Value} {s':Shared} {H aD:AH} (f:FlyAt Fly A env c aB e s') (g:Go S (z9 env') s H aB aD) (sim:Sim S env' vt m aD aB):FlyAt Fly A env c s e s':=by
 refine ex1 (f) λ b7 hx_=>an2 hx_ λ k x=>?_;clear hx_;(try clear f)
 refine ⟨b7,λ b hb=>k b ?_,x⟩
 by_cases q:b∈z9 env'
 ·obtain ⟨o,e⟩:=sim.there b q;rw [e];simp
 ·exact g.ext.alive b q hb
theorem xR (env:Env) (x:Str):wz env (z9 env) x:=⟨λ z_=>.head _,λ z_ z_ h=>List.mem_cons_of_mem _ (List.mem_map.mpr ⟨_,mem_of_lookup h,rfl⟩)⟩

theorem gV:SSs S C n Fly cx [] .nil:=λ env A X m H s Q Q' E' ok room hd sim hX hQ w=>by
 conv at w=>whnf
 exact wpAny_execs_nil (hQ _ _ _ _ _ (sim.refl _) sim .next w)
theorem jB {st:Stmt} {r:List Stmt} {is:IS} {ir:ISs} (h1:SS S C n Fly cx st is) (h2:SSs S C n Fly cx r ir):SSs S C n Fly cx (st::r) (.cons is ir):=λ env A X m H s Q Q' E' ok room hd sim hX hQ w=>by
 conv at w=>whnf
 refine wpAny_execs_cons (h1 env A X m H s _ _ E' ok room hd sim hX (λ fl f m₁ aB aD aA aG aF aC=>?_) w)
 cases aF with
 | next=>exact h2 env A X m₁ aD aB _ _ E' ok room hd aG (λ c e m' s' H' g sim' x f=>hX c e m' s' H' (aA.trans g) sim' x (f.backS aA aG)) (λ fl f m' s' H' g sim' r w=>hQ fl f m' s' H' (aA.trans g) sim' r w) aC
 | ret rv=>exact hQ _ _ _ _ _ aA aG (.ret rv) aC

theorem yM {e:Expr} {ie:IE} (he:SE S C n Fly cx e ie) {env:Env} {A:Around} {X:Nat->Loc->AH->Prop} {m:Loc} {H:AH} {s:Shared} {Q:AV->AH->Prop} {Q':Value->Shared->Prop} {E':Value->Shared->Prop}
  (ok:CxOk cx env) (room:Room A n) (hd:cx.q=true->A.handled=.none) (sim:Sim S env cx.vt m H s)
  (hX:∀ c e m' s' H',Go S (z9 env) s H s' H'->Sim S env cx.vt m' H' s'->X c m' H'->FlyAt Fly A env c s e s'->E' e s')
  (hQ:∀ v av s' H',Go S [] s H s' H'->Sim S env cx.vt m H' s'->VRel S s'.heap av v->Q av H'->Q' v s') (w:WE C (λ c H=>X c m H) ie m H Q):wpAny (model S.prog S.w) A (eval e env) Q' E' s:=
 he env A _ m H s _ _ E' ok room hd sim (λ c e s' H' g x f=>hX c e m s' H' (yo sim g) (sim.go g) x f) (λ v av s' H' g r w=>hQ v av s' H' g (sim.go g) r w) w

theorem vy {env:Env} {vt:List (Str×Nat)} (ok:EnvOk env vt):interactive env=false:=by
 unfold interactive;rw [ok.kind];rfl

theorem iR {e:Expr} (h:ub e=true) (t:Option Expr) (l:Nat) (env:Env):swapsWith e t l env=pure false:=by
 cases e<;>first | rfl | exact nomatch (show false=true from h)
theorem rP {e o:Expr} {a:Str} {p:Pos} (l:Nat) (env:Env):swapsWith e (some (.Attribute o a p)) l env=pure false:=by
 cases e<;>rfl
theorem pP {e o i:Expr} {p:Pos} (l:Nat) (env:Env):swapsWith e (some (.Subscript o i p)) l env=pure false:=by
 cases e<;>rfl

theorem eX {x:Str} {i:Nat} {e:Expr} {ie:IE} {pos pos':Pos} (hx:cx.vt.lookup x=some i) (hk:cx.sc.lookup x=some .local\/cx.sc.lookup x=some .cell) (hc:ub e=true) (he:SE S C n Fly cx e ie):SS S C n Fly cx (.Assign [.Name x pos'] e pos) (.asg i ie):=λ env A X m H s Q Q' E' ok room hd sim hX hQ w=>by
 conv at w=>whnf
 refine wpAny_Assign_Name (yM he ok room hd sim hX (λ v av aB aD aA aG aF aC=>?_) w) (iR hc _ _ _)
 refine xe ok.toEnvOk aG hx (ok.stores x hk) aF (λ b hb=>hb) (xR env x) λ aH aJ aE=>?_
 exact hQ _ _ _ _ _ ((yo sim aA).trans aE) aJ .next aC

theorem rQ (nf:NoFly Fly) {x:Str} {i:Nat} {target iter eltE:Expr} {ifs:List Expr} {scope:Scope} {pos pos' posE:Pos} {t:Tg} {cx':Cx} {ii:II} {cond:ITs} {elt:IE} (hx:cx.vt.lookup x=some i) (hk:cx.sc.lookup x=some .local\/cx.sc.lookup x=some .cell)
  (k:vx cx scope t target cx') (hq:cx.q=true) (hns:vL iter=true) (hi:SI S C n Fly cx iter ii) (hc:SIfs S C n Fly cx' ifs cond) (he:SE S C n Fly cx' eltE elt) :
  SS S C n Fly cx (.Assign [.Name x pos'] (.ListComp eltE [⟨target,iter,ifs,0⟩] scope posE) pos) (.asg i (.comp t ii cond elt)):=λ env A X m H s Q Q' E' ok room hd sim hX hQ w=>by
 cases hb:(env.blockKind == .function&&env.kindOf x == some .local&&pos'.line == (Expr.ListComp eltE [⟨target,iter,ifs,0⟩] scope posE).pos.line&&!(scope.names.any λ (n,k)=>n == x&&(k == .local||k == .cell))) with
 | false=>
  conv at w=>whnf
  refine wpAny_Assign_Name (yM (nz nf k hq hns hi hc he) ok room hd sim hX (λ v av aB aD aA aG aF aC=>?_) w) (by
   show pure _=pure _
   exact congrArg _ hb)
  refine xe ok.toEnvOk aG hx (ok.stores x hk) aF (λ b hb=>hb) (xR env x) λ aH aJ aE=>?_
  exact hQ _ _ _ _ _ ((yo sim aA).trans aE) aJ .next aC
 | true=>
  rw [exec_Assign_Name_used _ _ _ _ (by show pure _=pure _;exact congrArg _ hb)]
  refine wpAny_bind (wpAny_standAt (wpAny_bind ?_))
  show wpAny _ A (do let _ <-comprehension (.ListComp eltE [⟨target,iter,ifs,0⟩] scope posE) scope env _ (newList []) false (eval iter env) (some (assign (.Name x pos') env))) _ _ s
  conv at w=>whnf
  refine wpAny_bind (wpAny_mono (sM nf k hq hns hi hc he (use:=some (assign (.Name x pos') env)) (Q':=λ z_ s'=>Q' .next s') ok room hd sim (λ c e s' H' g x f=>hX c e m s' H' (yo sim g) (sim.go g) x f) (λ s' H' r D Cl mm g hD hCf hn hHC hne aC=>?_) w) (λ z_ s' hq=>wpAny_pure (wpAny_pure hq)) λ z_ z_ e=>e)
  have aG:=sim.go g
  have aC:=aC D hD
  have hCo:Cl∉z9 env:=λ hm=>by
   obtain ⟨o,e⟩:=sim.there _ hm
   rw [hCf] at e;cases e
  show wpAny _ A (assign (.Name x pos') env (.ref D)) _ _ _
  refine wpAny_assign_Name (xe ok.toEnvOk aG hx (ok.stores x hk) (.ref D) (λ b hb=>hb) (xR env x) λ aH aJ aE=>?_)
  have hC':(H'.set D (.list r)) Cl=.none:=by unfold AH.set;rw [if_neg hne];exact hHC
  have bX:aH.heap.Ns Cl mm:=wy hn λ o e=>aE.ext.kept _ o e hC' hCo
  refine ⟨mm,bX,λ h' sb=>?_⟩
  have nl:∀ o,aH.heap.get? Cl=some o->¬ Leant o:=λ o e l=>by
   refine ex3 (bX) λ o' es ep hx_=>an3 hx_ λ e' hd' z_=>?_;clear hx_;(try clear bX)
   rw [e] at e';cases e'
   exact l.noDict _ _ hd'
  obtain ⟨g',_⟩:=z5 aJ.toSimG hC' (sim.toSimG.base_none hCf) sb.extBut nl aH.toks
  have aQ:=aJ.goD g' (λ b hb q=>hCo (by rw [<-List.mem_singleton.mp q];exact hb)) (by intro b hb o e;rw [List.mem_singleton.mp hb] at e;exact nl o e)
  have hall:∀ b∈Cl::z9 env,(H'.set D (.list r)) b=.none:=λ b hb=>by
   rcases List.mem_cons.mp hb with rfl | hb
   ·exact hC'
   ·exact (aJ.own b hb).2
  have G:=((g.wider (D':=Cl::z9 env) (by intro b hb;cases hb) hall).trans (aE.wider (λ b hb=>.tail _ hb) hall)).trans (g'.wider (by intro b hb;rw [List.mem_singleton.mp hb];exact .head _) hall)
  refine hQ _ _ _ _ _ (G.drop (λ b hb=>?_) λ b hb=>.tail _ hb) aQ .next aC
  rcases List.mem_cons.mp hb with rfl | hb
  ·exact .inr hCf
  ·exact .inl hb

theorem ss_ex {e:Expr} {ie:IE} {pos:Pos} (hc:ub e=true) (he:SE S C n Fly cx e ie):SS S C n Fly cx (.Expr e pos) (.ex ie):=λ env A X m H s Q Q' E' ok room hd sim hX hQ w=>by
 conv at w=>whnf
 exact wpAny_Expr_any (yM he ok room hd sim hX (λ v av aB aD aA aG aF aC=>hQ _ _ _ _ _ (yo sim aA) aG .next aC) w) (vy ok.toEnvOk) (iR hc _ _ _)

theorem eY {e:Expr} {ie:IE} {pos:Pos} (he:SE S C n Fly cx e ie):SS S C n Fly cx (.Return (some e) pos) (.ret ie):=λ env A X m H s Q Q' E' ok room hd sim hX hQ w=>by
 conv at w=>whnf
 exact wpAny_Return_some (yM he ok room hd sim hX (λ v av aB aD aA aG aF aC=>hQ _ _ _ _ _ (yo sim aA) aG (.ret aF) aC) w)

theorem eZ {c:Expr} {ic:IT} {t e:List Stmt} {it ie:ISs} {pos:Pos} (hc:ST S C n Fly cx c ic) (ht:SSs S C n Fly cx t it) (he:SSs S C n Fly cx e ie):SS S C n Fly cx (.If c t e pos) (.ite ic it ie):=λ env A X m H s Q Q' E' ok room hd sim hX hQ w=>by
 conv at w=>whnf
 refine wpAny_If (hc env A _ m H s _ _ E' ok room hd sim (λ c e s' H' g x f=>hX c e m s' H' (yo sim g) (sim.go g) x f) (λ b aB aD aA aC=>?_) w)
 have aG:=sim.go aA
 have G:=yo sim aA
 cases b with
 | true=>exact ht env A X m aD aB _ _ E' ok room hd aG (λ c e m' s' H' g sim' x f=>hX c e m' s' H' (G.trans g) sim' x (f.backS G aG)) (λ fl f m' s' H' g sim' r w=>hQ fl f m' s' H' (G.trans g) sim' r w) aC
 | false=>exact he env A X m aD aB _ _ E' ok room hd aG (λ c e m' s' H' g sim' x f=>hX c e m' s' H' (G.trans g) sim' x (f.backS G aG)) (λ fl f m' s' H' g sim' r w=>hQ fl f m' s' H' (G.trans g) sim' r w) aC

theorem ed {o e:Expr} {io ie:IE} {a:Nat} {nm:Str} {pos pos':Pos} (ha:a < S.nattr) (hn:S.attr a=nm) (ho:SE S C n Fly cx o io) (he:SE S C n Fly cx e ie):SS S C n Fly cx (.Assign [.Attribute o nm pos'] e pos) (.sat io a ie):=λ env A X m H s Q Q' E' ok room hd sim hX hQ w=>by
 conv at w=>whnf
 subst hn
 refine plainObj_wpAny_Assign_Attribute (yM he ok room hd sim hX (λ v av aB aD aA aG aF aC=>?_) w) (rP _ _)
 refine yM ho ok room hd aG (λ c e m' s' H' g sim' x f=>hX c e m' s' H' ((yo sim aA).trans g) sim' x (f.back aA)) (λ u au aH aM aE aJ aL aI=>?_) aC
 refine nr aJ.toSimG aL (aF.go aG.toSimG aE) ha (λ aY aP aN aU=>?_) aI
 exact hQ _ _ _ _ _ (yo sim ((aA.trans aE).trans aN)) (aJ.go aN) .next aU

theorem em {o i e:Expr} {io ii ie:IE} {pos pos':Pos} (ho:SE S C n Fly cx o io) (hi:SE S C n Fly cx i ii) (he:SE S C n Fly cx e ie):SS S C n Fly cx (.Assign [.Subscript o i pos'] e pos) (.sit io ii ie):=λ env A X m H s Q Q' E' ok room hd sim hX hQ w=>by
 conv at w=>whnf
 refine wpAny_Assign_Subscript (yM he ok room hd sim hX (λ v av aB aD aA aG aF aC=>?_) w) (pP _ _)
 refine yM ho ok room hd aG (λ c e m' s' H' g sim' x f=>hX c e m' s' H' ((yo sim aA).trans g) sim' x (f.back aA)) (λ u au aH aM aE aJ aL aI=>?_) aC
 refine yM hi ok room hd aJ (λ c e m' s' H' g sim' x f=>hX c e m' s' H' ((yo sim (aA.trans aE)).trans g) sim' x (f.back (aA.trans aE))) (λ k ak aY aP aN aQ bC aU=>?_) aI
 refine nt aQ.toSimG (aL.go aJ.toSimG aN) bC ((aF.go aG.toSimG aE).go aJ.toSimG aN) (λ aT b8 aR bE=>?_) aU
 exact hQ _ _ _ _ _ (yo sim (((aA.trans aE).trans aN).trans aR)) (aQ.go aR) .next bE

theorem jC {e:Expr} {ie:IE} {np pos:Pos} {f:Str} (hx:cx.sc.lookup f=some .globalImplicit) (hv:S.gv f=some (.type "range")) (hd0:(f == ("__debug__":Str))=false) (hns:NS e) (he:SE S C n Fly cx e ie) :
  SI S C n Fly cx (.Call (.Name f np) [e] [] pos) (.range (.ci 0) ie):=λ env A X m H s Q Q' E' ok room hd sim hX hQ w=>by
 conv at w=>whnf
 refine Call_ (y9 ok sim.toSimG hx hv hd0 ?_)
 refine y6 (.inr ⟨_,rfl⟩) (by intro e' he';rw [List.mem_singleton.mp he'];exact hns) (args_cons ?_ (hns _ _))
 refine he env A X m H s _ _ E' ok room hd sim hX (λ v av aB aD aA aF aC=>args_nil ?_) w
 cases av with
 | int j=>
  obtain ⟨t,rfl⟩:=aF.inv
  obtain ⟨hb,aC⟩:=aC
  have aK:=(sim.go aA).toSimG
  refine call_range_1 ?_
  have aE:=aK.keeps (h':=aB.heap.push { cls:=.type "range",data:=.fields #[.int 0 aB.toks,.int j t,.int 1 (aB.toks+1)] }) (zU _ _) (aB.toks+1+1)
  have aS:=aK.go aE
  refine pM (env:=env) aS hb (r:=aB.heap.objs.size) (t:=aB.toks) (u:=t) (v:=aB.toks+1) (Heap.get?_push_size _ rfl) λ I aY aN b9 hI=>?_
  have g:=(aA.trans aE).trans aN
  have hfI:s.heap.get? I=.none:=(aA.trans aE).none (by simp) hI
  refine hQ _ I aY aD g b9 hfI ?_ trivial (by intro _ _ z;cases z) (by intro _ _ _ z;cases z) ?_ aC
  ·exact aS.hrel.fresh hI
  ·show (zJ 0 j).length<=lid
   rw [xP];lia
 | _=>exact aC.elim

structure ForSt (S:Stat) (env:Env) (cx:Cx) (src:Src) (I i:Nat) (m:Loc) (H:AH) (s:Shared):Prop where
 sim:Sim S env cx.vt m H s
 it:It S src I i s.heap
 hI:H I=.none
 bI:S.base.get? I=.none
 oI:I∉z9 env

theorem mA {α:Type} {a:α} {rest l:List α} {i:Nat} (hr:a::rest=l.drop i):l[i]?=some a/\i < l.length/\rest=l.drop (i+1):=by
 have hget:l[i]?=some a:=by
  have:=congrArg (λ l=>l[0]?) hr
  simpa using this.symm
 refine ⟨hget,(List.getElem?_eq_some_iff.mp hget).1,?_⟩
 have:(a::rest).drop 1=(l.drop i).drop 1:=by rw [hr]
 simpa [List.drop_drop,Nat.add_comm] using this

set_option tactic.hygienic true in
theorem jD (nf:NoFly Fly) {env:Env} {A:Around} (hh:A.handled=.none) (ok:CxOk cx env) (room:Room A n) {X:Nat->Loc->AH->Prop} {src:Src} {I:Nat} {t:Tg} {target:Expr} {body:List Stmt} {ib:ISs}
  (hsrc:∀ a l,src.at_=some (a,.list l)->src.items=l) (hsd:∀ a d ep,src.at_=some (a,.dict d ep)->src.items=d.map λ p=>.int p.1)
  (ht:TgIs cx.vt target t) (hnf:∀ x i,cx.vt.lookup x=some i->(∃ p,target=.Name x p\/∃ es k q,target=.Tuple es k q/\Expr.Name x p∈es)->env.kindOf x≠some .free) (hb:SSs S C n Fly cx body ib) {R:Result->Shared->Prop} {Q:Fl->Loc->AH->Prop} :
  ∀ (rest:List AV) (i:Nat) (m:Loc) (H:AH) (s:Shared),rest=src.items.drop i->ForSt S env cx src I i m H s->
  forL src.ok (zz t) (λ m H Q=>WSs C ib m H Q X) rest m H Q->
  (∀ fl f m' s' H',Go S (I::z9 env) s H s' H'->Sim S env cx.vt m' H' s'->pO S s'.heap fl f->Q fl m' H'->R (.ok f) s')->
  codeAny (model S.prog S.w) A (.forLoop target (.ref I) body [] env) R s:=by
 intro rest
 induction rest with
 | nil=>
  intro i m H s hr st w hR
  refine codeAny_of_tree ?_
  show wpAny _ A ((forTurn target (.ref I) body [] env).onRaise (λ x=>do noteFrame x env;theTreesLotGoes x)) _ _ s
  refine wpAny_noted ?_
  simp only [forTurn]
  have hend:src.items[i]?=none:=by
   have:src.items.length<=i:=by
    have:=congrArg List.length hr;simp at this;lia
   simpa using this
  refine wpAny_bind (wpAny_standAt (wpAny_bind (wpAny_onRaise ?_)))
  unfold forL at w
  refine iQ hh st.sim.toSimG st.hI st.bI w.1 hsrc hsd st.it hend λ s' g=>?_
  have nl:xM [I] s.heap:=by intro b hb o e;rw [List.mem_singleton.mp hb] at e;exact st.it.noLeant o e
  have sim':=st.sim.goD g (λ b hb q=>st.oI (by rw [<-List.mem_singleton.mp q];exact hb)) nl
  refine wpAny_pure ⟨rfl,codeAny_block (wpAny_execs_nil (hR _ _ m s' H ?_ sim' .next w.2))⟩
  refine g.wider (by intro b hb;rw [List.mem_singleton.mp hb];exact .head _) λ b hb=>?_
  rcases List.mem_cons.mp hb with rfl | hb
  ·exact st.hI
  ·exact (st.sim.own b hb).2
 | cons av rest ih=>
  intro i m H s hr st w hR
  with_reducible refine an3 (mA hr) λ hget hlt hrest=>?_
  refine codeAny_of_tree ?_
  show wpAny _ A ((forTurn target (.ref I) body [] env).onRaise (λ x=>do noteFrame x env;theTreesLotGoes x)) _ _ s
  refine wpAny_noted ?_
  simp only [forTurn]
  refine wpAny_bind (wpAny_standAt (wpAny_bind (wpAny_onRaise ?_)))
  unfold forL at w
  obtain ⟨wok,w⟩:=w
  refine nu st.sim.toSimG st.hI st.bI wok hsrc hsd st.it hget λ v aB aA rv aX=>?_
  split at w
  ·rename_i m' hm'
   have nl:xM [I] s.heap:=by intro b hb o e;rw [List.mem_singleton.mp hb] at e;exact st.it.noLeant o e
   have aG:=st.sim.goD aA (λ b hb q=>st.oI (by rw [<-List.mem_singleton.mp q];exact hb)) nl
   refine wpAny_bind (qX ht aX ?_)
   refine wpAny_bind (sJ ok.toEnvOk hh ht (D:=z9 env) (λ b hb=>hb) (λ x i hx hp=>⟨hnf x i hx hp,xR env x⟩) aG rv hm' λ aH aJ aE=>?_)
   have b6:=aX.go aG.toSimG aE st.hI st.oI aG.noLeant
   have hall:∀ b∈I::z9 env,H b=.none:=λ b hb=>by
    rcases List.mem_cons.mp hb with rfl | hb
    ·exact st.hI
    ·exact (st.sim.own b hb).2
   have G12:Go S (I::z9 env) s H aH H:=(aA.wider (by intro b hb;rw [List.mem_singleton.mp hb];exact .head _) hall).trans (aE.wider (λ b hb=>.tail _ hb) hall)
   refine wpAny_bind (hb env A X m' H aH _ _ _ ok room (λ _=>hh) aJ (λ c e m' s' H' _ _ _ f=>absurd f nf.at) (λ fl f m₃ aY aP aN aQ bC aU=>?_) w)
   with_reducible refine ex2 (b6.obj) λ oI TI hx_=>an2 hx_ λ eI _=>?_;clear hx_
   have bA:aP I=.none:=aN.ext.none eI st.hI
   have b9:=b6.go aJ.toSimG aN st.hI st.oI aJ.noLeant
   have hall₃:∀ b∈I::z9 env,aP b=.none:=λ b hb=>by
    rcases List.mem_cons.mp hb with rfl | hb
    ·exact bA
    ·exact (aQ.own b hb).2
   have G13:=G12.trans (aN.wider (λ b hb=>.tail _ hb) hall₃)
   cases bC with
   | next=>
    refine wpAny_pure ⟨rfl,?_⟩
    refine ih (i+1) m₃ aP aY hrest ⟨aQ,b9,bA,st.bI,st.oI⟩ aU λ fl f m' s' H' g sim' r w=>?_
    exact hR fl f m' s' H' (G13.trans g) sim' r w
   | ret rv'=>exact wpAny_pure (hR _ _ _ _ _ G13 aQ (.ret rv') aU)
  ·exact w.elim

theorem eo (nf:NoFly Fly) {target iter:Expr} {body:List Stmt} {t:Tg} {ii:II} {ib:ISs} {pos:Pos} (hq:cx.q=true) (hns:vL iter=true) (ht:TgIs cx.vt target t)
  (hst:∀ x i,cx.vt.lookup x=some i->(∃ p,target=.Name x p\/∃ es k q,target=.Tuple es k q/\Expr.Name x p∈es)->cx.sc.lookup x=some .local\/cx.sc.lookup x=some .cell)
  (hi:SI S C n Fly cx iter ii) (hb:SSs S C n Fly cx body ib):SS S C n Fly cx (.For target iter body [] pos) (.for t ii ib):=λ env A X m H s Q Q' E' ok room hd sim hX hQ w=>by
 conv at w=>whnf
 refine wpAny_For ?_ (uf hns env)
 refine hi env A _ m H s _ _ E' ok room hd sim (λ c e s' H' g x f=>absurd f nf.at) (λ src I aB aD aA aX hIf hI srcok hsrc hsd hlid aC=>?_) w
 have aG:=sim.go aA
 refine jD nf (hd hq) ok room hsrc hsd ht (λ x i hx hp=>ok.stores x (hst x i hx hp)) hb src.items 0 m aD aB (by simp) ⟨aG,aX,hI,sim.toSimG.base_none hIf,?_⟩ aC λ fl f m' s' H' g sim' r w=>?_
 ·intro hb
  obtain ⟨o,e⟩:=sim.there _ hb
  rw [hIf] at e;cases e
 ·refine hQ fl f m' s' H' ?_ sim' r w
  have hall:∀ b∈I::z9 env,aD b=.none:=λ b hb=>by
   rcases List.mem_cons.mp hb with rfl | hb
   ·exact hI
   ·exact (aG.own b hb).2
  refine ((aA.wider (D':=I::z9 env) (by intro b hb;cases hb) hall).trans g).drop (λ b hb=>?_) λ b hb=>.tail _ hb
  rcases List.mem_cons.mp hb with rfl | hb
  ·exact .inr hIf
  ·exact .inl hb

theorem pQ (nf:NoFly Fly) {env:Env} {A:Around} (hh:A.handled=.none) (ok:CxOk cx env) (room:Room A n) {X:Nat->Loc->AH->Prop} {test:Expr} {it:IT} {body:List Stmt} {ib:ISs}
  (ht:ST S C n Fly cx test it) (hb:SSs S C n Fly cx body ib) {R:Result->Shared->Prop} {Q:Fl->Loc->AH->Prop} :
  ∀ (k:Nat) (m:Loc) (H:AH) (s:Shared),Sim S env cx.vt m H s->
  vm (λ m H Q=>WT C (λ c H=>X c m H) it m H Q) (λ m H Q=>WSs C ib m H Q X) k m H Q->
  (∀ fl f m' s' H',Go S (z9 env) s H s' H'->Sim S env cx.vt m' H' s'->pO S s'.heap fl f->Q fl m' H'->R (.ok f) s')->
  codeAny (model S.prog S.w) A (.whileLoop test body [] env) R s:=by
 intro k
 induction k with
 | zero=>intro m H s sim w hR;exact w.elim
 | succ k ih=>
  intro m H s sim w hR
  unfold vm at w
  refine codeAny_of_tree ?_
  show wpAny _ A ((whileTurn test body [] env).onRaise (λ x=>do noteFrame x env;theTreesLotGoes x)) _ _ s
  refine wpAny_noted ?_
  simp only [whileTurn]
  refine wpAny_bind (ht env A _ m H s _ _ _ ok room (λ z_=>hh) sim (λ c e s' H' z_ z_ f=>absurd f nf.at) (λ b aB aD aA aC=>?_) w)
  have aG:=sim.go aA
  have bR:=yo sim aA
  cases b with
  | false=>
   rw [if_neg (by simp)]
   exact wpAny_bind (wpAny_execs_nil (wpAny_pure (hR _ _ m aB aD bR aG .next aC)))
  | true=>
   rw [if_pos rfl]
   refine wpAny_bind (hb env A X m aD aB _ _ _ ok room (λ z_=>hh) aG (λ c e m' s' H' z_ z_ z_ f=>absurd f nf.at) (λ fl f m₂ aH aM aE aJ aL aI=>?_) aC)
   cases aL with
   | next=>
    refine wpAny_pure ⟨rfl,ih m₂ aM aH aJ aI λ fl f m' s' H' g sim' r w=>?_⟩
    exact hR fl f m' s' H' ((bR.trans aE).trans g) sim' r w
   | ret rv=>exact wpAny_pure (hR _ _ _ _ _ (bR.trans aE) aJ (.ret rv) aI)

theorem jE (nf:NoFly Fly) {test:Expr} {it:IT} {body:List Stmt} {ib:ISs} {pos:Pos} (hq:cx.q=true) (ht:ST S C n Fly cx test it) (hb:SSs S C n Fly cx body ib) :
  SS S C n Fly cx (.While test body [] pos) (.while it ib):=λ env A X m H s Q Q' E' ok room hd sim hX hQ w=>by
 conv at w=>whnf
 obtain ⟨k,w⟩:=w
 exact wpAny_While (pQ nf (hd hq) ok room ht hb k m H s sim w λ fl f m' s' H' g sim' r w=>hQ fl f m' s' H' g sim' r w)
end

theorem yd {α:Type} (names:List Str):∀ (vals:List α) (i:Nat) (x:Str) (v:α),names.Nodup->names[i]?=some x->vals[i]?=some v->(names.zip vals).lookup x=some v:=by
 induction names with
 | nil=>intro _ i x v _ h _;simp at h
 | cons n ns ih=>
  intro vals i x v nd h1 h2
  cases vals with
  | nil=>simp at h2
  | cons u us=>
   cases i with
   | zero=>
    simp at h1 h2;subst h1;subst h2
    simp [List.zip_cons_cons]
   | succ i=>
    simp only [List.getElem?_cons_succ] at h1 h2
    have hne:x≠n:=λ q=>(List.nodup_cons.mp nd).1 (q▸List.mem_of_getElem? h1)
    rw [List.zip_cons_cons,List.lookup_cons]
    have:(x == n)=false:=by simpa using hne
    rw [this]
    exact ih us i x v (List.nodup_cons.mp nd).2 h1 h2

theorem tK:∀ (names:List Str) (vals:List Value),names.Nodup->vals.length=names.length->names.filterMap (λ n=>((names.zip vals).lookup n).map (n,·))=names.zip vals:=by
 intro names vals nd hl
 have gen:∀ (ns:List Str) (us:List Value),us.length=ns.length->(∀ (i:Nat) (x:Str),ns[i]?=some x->(names.zip vals).lookup x=us[i]?)->ns.filterMap (λ n=>((names.zip vals).lookup n).map (n,·))=ns.zip us:=by
  intro ns
  induction ns with
  | nil=>intro us h _;simp
  | cons n ns ih=>
   intro us h hh
   cases us with
   | nil=>simp at h
   | cons u us=>
    have h0:=hh 0 n rfl
    simp at h0
    rw [List.filterMap_cons,h0]
    simp only [Option.map_some]
    rw [List.zip_cons_cons,ih us (by simpa using h) λ i x hx=>by simpa using hh (i+1) x (by simpa using hx)]
 refine gen names vals hl λ i x hx=>?_
 have hi:i < vals.length:=by rw [hl];exact (List.getElem?_eq_some_iff.mp hx).1
 rw [yd names vals i x vals[i] nd hx (List.getElem?_eq_getElem hi)]
 simp [hi]

theorem pR {fd:FuncData} {names:List Str} {vals:List Value} (hp:fd.params.posonlyargs=[]) (hn:fd.params.args.map (·.arg)=names) (hk:fd.params.kwonlyargs=[]) (hv:fd.params.vararg=none) (hkw:fd.params.kwarg=none) (hd:fd.defaults=.none) (nd:names.Nodup) (hl:vals.length=names.length) :
  bindArgs fd ⟨vals,[]⟩=pure (names.zip vals):=by
 have hmiss:((names.take (names.length - (([]:List Value).drop (0 - names.length)).length)).filter λ n=>((names.zip vals).lookup n).isNone)=[]:=by
  rw [List.drop_nil,List.length_nil,Nat.sub_zero,List.take_length,List.filter_eq_nil_iff]
  intro x hx
  obtain ⟨i,hi,rfl⟩:=List.getElem_of_mem hx
  have:=yd names vals i names[i] (vals[i]'(by lia)) nd (List.getElem?_eq_getElem hi) (List.getElem?_eq_getElem (by lia))
  rw [this];exact Bool.false_ne_true
 have hz:(names.drop (names.length - (([]:List Value).drop (0 - names.length)).length)).zip (([]:List Value).drop (0 - names.length))=[]:=by
  rw [List.drop_nil,List.zip_nil_right]
 have hfm:=(congrArg (List.filterMap _) (List.append_nil names)).trans (tK names vals nd hl)
 obtain ⟨_,_,⟨po,ar,va,ko,_,kw,_⟩,_,_,_,_,dfs,_,_,_,_,_,_,_⟩:=fd
 have hp:po=[]:=hp
 have hk:ko=[]:=hk
 have hv:va=none:=hv
 have hkw:kw=none:=hkw
 have hd:dfs=.none:=hd
 have hn:ar.map (·.arg)=names:=hn
 subst hp hk hv hkw hd hn
 refine (if_neg (c:=(decide (vals.length > (ar.map (·.arg)).length)&&true)=true) λ q=>?_).trans ?_
 ·rw [hl] at q;simp at q
 refine (if_neg (c:=(!(((ar.map (·.arg)).take ((ar.map (·.arg)).length - (([]:List Value).drop (0 - (ar.map (·.arg)).length)).length)).filter λ n=>(((ar.map (·.arg)).zip vals).lookup n).isNone).isEmpty)=true) λ q=>?_).trans ?_
 ·rw [hmiss] at q;cases q
 refine (congrArg (λ L=>forIn (m:=Sem) L _ _ >>= _) hz).trans ?_
 exact congrArg (pure (f:=Sem)) hfm

theorem vz (kindOf:Str->Option NameKind):∀ (binds:List (Str×Value)) (m:Str->Option Value) (x:Str),(∀ v,(x,v)∉binds)->bindL kindOf binds m x=m x
 | [],m,x,_=>rfl
 | (n,v)::r,m,x,h=>by
  unfold bindL
  rw [vz kindOf r _ x λ u hu=>h u (.tail _ hu)]
  have hne:x≠n:=λ q=>h v (by rw [q];exact .head _)
  split
  ·show (if x=n then some v else m x)=m x
   rw [if_neg hne]
  ·rfl
theorem uA (kindOf:Str->Option NameKind):∀ (binds:List (Str×Value)) (m:Str->Option Value) (x:Str),(∀ v,(x,v)∉binds)->bindC kindOf binds m x=m x
 | [],m,x,_=>rfl
 | (n,v)::r,m,x,h=>by
  unfold bindC
  rw [uA kindOf r _ x λ u hu=>h u (.tail _ hu)]
  have hne:x≠n:=λ q=>h v (by rw [q];exact .head _)
  split
  ·rfl
  ·show (if x=n then some v else m x)=m x
   rw [if_neg hne]
theorem sN {names:List Str} {vals:List Value} {x:Str} (h:x∉names):∀ v,(x,v)∉names.zip vals:=λ v hm=>h (List.of_mem_zip hm).1
theorem qZ (kindOf:Str->Option NameKind):∀ (names:List Str) (vals:List Value) (m:Str->Option Value) (i:Nat) (x:Str) (v:Value),names.Nodup->names[i]?=some x->vals[i]?=some v->kindOf x=some .local->bindL kindOf (names.zip vals) m x=some v
 | [],_,_,i,x,v,_,h,_,_=>by simp at h
 | n::ns,[],_,i,x,v,_,_,h,_=>by simp at h
 | n::ns,u::us,m,0,x,v,nd,h1,h2,hk=>by
  simp at h1 h2;subst h1;subst h2
  rw [List.zip_cons_cons];unfold bindL
  rw [vz kindOf _ _ _ (sN (List.nodup_cons.mp nd).1),if_pos hk]
  simp
 | n::ns,u::us,m,i+1,x,v,nd,h1,h2,hk=>by
  simp only [List.getElem?_cons_succ] at h1 h2
  rw [List.zip_cons_cons];unfold bindL
  exact qZ kindOf ns us _ i x v (List.nodup_cons.mp nd).2 h1 h2 hk
theorem q5 (kindOf:Str->Option NameKind):∀ (names:List Str) (vals:List Value) (m:Str->Option Value) (i:Nat) (x:Str) (v:Value),names.Nodup->names[i]?=some x->vals[i]?=some v->kindOf x≠some .local->bindC kindOf (names.zip vals) m x=some v
 | [],_,_,i,x,v,_,h,_,_=>by simp at h
 | n::ns,[],_,i,x,v,_,_,h,_=>by simp at h
 | n::ns,u::us,m,0,x,v,nd,h1,h2,hk=>by
  simp at h1 h2;subst h1;subst h2
  rw [List.zip_cons_cons];unfold bindC
  rw [uA kindOf _ _ _ (sN (List.nodup_cons.mp nd).1),if_neg hk]
  simp
 | n::ns,u::us,m,i+1,x,v,nd,h1,h2,hk=>by
  simp only [List.getElem?_cons_succ] at h1 h2
  rw [List.zip_cons_cons];unfold bindC
  exact q5 kindOf ns us _ i x v (List.nodup_cons.mp nd).2 h1 h2 hk

theorem ye:∀ (names:List (Str×NameKind)) (k:Nat) (acc:List (Str×Nat)),(names.map (·.1)).Nodup->(acc.map (·.1)).Nodup->(∀ n∈names.map (·.1),n∉acc.map (·.1))->((cellsFrom k names acc).map (·.1)).Nodup
 | [],k,acc,_,h,_=>h
 | (n',kd)::r,k,acc,h1,h2,h3=>by
  unfold cellsFrom
  rw [List.map_cons,List.nodup_cons] at h1
  split
  ·refine ye r _ _ h1.2 ?_ λ n hn hm=>?_
   ·rw [List.map_cons,List.nodup_cons]
    exact ⟨h3 n' (.head _),h2⟩
   ·rw [List.map_cons] at hm
    rcases List.mem_cons.mp hm with z | z
    ·subst z;exact h1.1 hn
    ·exact h3 n (.tail _ hn) z
  ·exact ye r _ _ h1.2 h2 λ n hn=>h3 n (.tail _ hn)
theorem yf {α:Type}:∀ {l:List (Str×α)} {n:Str} {c:α},(l.map (·.1)).Nodup->(n,c)∈l->l.lookup n=some c
 | (m,d)::r,n,c,nd,h=>by
  rw [List.map_cons,List.nodup_cons] at nd
  rw [List.lookup_cons]
  rcases List.mem_cons.mp h with z | z
  ·cases z;simp
  ·have:n≠m:=λ q=>nd.1 (by rw [<-q];exact List.mem_map.mpr ⟨_,z,rfl⟩)
   have:(n == m)=false:=by simpa using this
   rw [this]
   exact yf nd.2 z

structure FnOk (S:Stat) (fd:FuncData) (a:Nat) (body:List Stmt) (names:List Str) (fn:IFn) (cx:Cx):Prop where
 here:∃ o,S.base.get? a=some o/\o.data=.func fd
 code:S.base.CodeRec fd.code fd.qualname
 hbody:fd.body=.stmts body
 clo:fd.closure=[]
 glob:fd.globals=mainGlobals
 blt:fd.builtins=builtinsNs
 pos:fd.params.posonlyargs=[]
 args:fd.params.args.map (·.arg)=names
 kwo:fd.params.kwonlyargs=[]
 var:fd.params.vararg=none
 kwa:fd.params.kwarg=none
 def_:fd.defaults=.none
 nd:names.Nodup
 many:names.length=fn.args
 kind:fd.scope.kind=.function
 co:fd.scope.isCoroutine=false
 gen:fd.scope.isGenerator=false
 uniq:(fd.scope.names.map (·.1)).Nodup
 sc:cx.sc=fd.scope.names
 pk:∀ x∈names,fd.scope.names.lookup x=some .local\/fd.scope.names.lookup x=some .cell
 pv:∀ (i:Nat) x,names[i]?=some x->cx.vt.lookup x=some i
 vk:∀ x i,cx.vt.lookup x=some i->(x == ("__debug__":Str))=false/\(fd.scope.names.lookup x=some .local\/fd.scope.names.lookup x=some .cell)
 inj:∀ x y i,cx.vt.lookup x=some i->cx.vt.lookup y=some i->x=y

structure CallsOk (S:Stat) (C:Calls) (n:Nat) (Fly:FlyT):Prop where
 call:∀ (k a:Nat),S.addr k=some a->∀ (A:Around) (H:AH) (s:Shared) (avs:List AV) (vs:List Value) (X:Nat->AH->Prop) (Q:AV->AH->Prop) (R:Result->Shared->Prop),
  tH A n->A.handled=.none->SimG S H s->VRels S s.heap avs vs->
  (∀ v av s' H',Go S [] s H s' H'->VRel S s'.heap av v->Q av H'->R (.ok (.ret v)) s')->
  C k avs H Q X->codeAny (model S.prog S.w) A (.call (.ref a) ⟨vs,[]⟩) R s
 fn:∀ k a,S.addr k=some a->∃ o fd,S.base.get? a=some o/\o.data=.func fd

section
variable {S:Stat} {n:Nat} {Fly:FlyT}

theorem rR {A:Around} {env:Env} {n:Nat} (h:tH A (n+1)):Room (A.deeper env) n:=by
 unfold tH at h
 unfold Room
 show A.depth+1+20 * n < 700/\A.units+3+200 * n+200 < 9900
 lia
theorem Room.two {A:Around} {n:Nat} (h:Room A n):tH A n:=by unfold Room at h;unfold tH;lia

theorem jF {C:Calls} {fd:FuncData} {a:Nat} {body:List Stmt} {names:List Str} {fn:IFn} {cx:Cx} (k:FnOk S fd a body names fn cx) {H:AH} {s aB:Shared} (x:SimG S H s) {avs:List AV} {vs:List Value} (r:VRels S s.heap avs vs) (hl:avs.length=fn.args)
  (ic:InCallC s (callEnvC fd s.heap.objs.size a).locals (bindL (callEnvC fd s.heap.objs.size a).kindOf (names.zip vs) λ z_=>none) (callEnvC fd s.heap.objs.size a).cells (bindC (callEnvC fd s.heap.objs.size a).kindOf (names.zip vs) λ z_=>none) aB) :
  CxOk cx (callEnvC fd s.heap.objs.size a)/\Sim S (callEnvC fd s.heap.objs.size a) cx.vt (oU fn avs) H aB/\Go S [] s H aB H/\∀ b∈z9 (callEnvC fd s.heap.objs.size a),s.heap.get? b=.none:=by
 with_reducible refine ex2 (ic.done) λ h' tk hx_=>an2 hx_ λ es keep=>?_;clear hx_
 have g:Go S [] s H aB H:=by rw [es];exact x.keeps keep tk
 have hvl:avs.length=vs.length:=r.length
 have cellOfName:∀ y,fd.scope.names.lookup y=some .cell->∃ c,(callEnvC fd s.heap.objs.size a).cells.lookup y=some c:=λ y hy=>by
  have:=yX fd.scope.names (s.heap.objs.size+1) [] y (.inl (mem_of_lookup hy))
  exact Option.isSome_iff_exists.mp this
 have nodup:((callEnvC fd s.heap.objs.size a).cells.map (·.1)).Nodup:=ye fd.scope.names (s.heap.objs.size+1) [] k.uniq List.nodup_nil (by intro _ _ h;cases h)
 have fresh:∀ b∈z9 (callEnvC fd s.heap.objs.size a),s.heap.get? b=.none:=λ b hb=>by
  rcases List.mem_cons.mp hb with rfl | hb
  ·exact get?_size _
  ·obtain ⟨⟨nm,c⟩,hm,rfl⟩:=List.mem_map.mp hb
   have:s.heap.objs.size < c:=ic.above nm c hm
   exact get?_none_of_ge (Nat.le_of_lt this)
 refine ⟨⟨⟨k.kind,k.glob,k.blt,λ y i hy=>⟨(k.vk y i hy).1,?_⟩,k.inj,λ a b c h1 h2=>name_of_addr ic.apart h1 h2,λ nm c hm=>Nat.ne_of_gt (ic.above nm c hm)⟩,λ y hy=>by rw [k.sc] at hy;exact hy,λ y hy=>by rw [k.sc] at hy;exact hy,λ y hy=>by
   rw [k.sc] at hy
   show fd.scope.names.lookup y≠_
   rcases hy with hy | hy<;>rw [hy]<;>simp⟩,⟨x.go g,λ b hb=>⟨x.base_none (fresh b hb),x.hrel.fresh (fresh b hb)⟩,⟨_,ic.toInCall.ns⟩,λ nm c hm=>⟨_,ic.cell nm c (yf nodup hm)⟩,λ y i av hy hm=>?_⟩,g,fresh⟩
 ·rcases (k.vk y i hy).2 with q | q
  ·exact .inl q
  ·exact .inr ⟨.inl q,cellOfName y q⟩
 ·-- a parameter
  unfold oU at hm
  have hi:i < avs.length:=by
   rcases Nat.lt_or_ge i avs.length with q | q
   ·exact q
   ·rw [List.getElem?_append_right (by simpa using q)] at hm
    rw [List.getElem?_replicate] at hm
    split at hm<;>simp at hm
  rw [List.getElem?_append_left (by simpa using hi)] at hm
  simp [hi] at hm
  with_reducible refine ex1 (r.get (i:=i) (a:=av) (by rw [List.getElem?_eq_getElem hi,hm])) λ v hx_=>an2 hx_ λ hv rv=>?_;clear hx_
  have hin:i < names.length:=by rw [k.many,<-hl];exact hi
  have hyn:names[i]?=some y:=by
   rw [List.getElem?_eq_getElem hin]
   have:=k.pv i names[i] (List.getElem?_eq_getElem hin)
   rw [k.inj names[i] y i this hy]
  refine ⟨v,?_,rv.go x g⟩
  rcases (k.vk y i hy).2 with q | q
  ·exact .inl ⟨q,_,ic.toInCall.ns,qZ _ names vs _ i y v k.nd hyn hv q⟩
  ·obtain ⟨c,hc⟩:=cellOfName y q
   refine .inr ⟨.inl q,c,hc,?_⟩
   have hcell:=ic.cell y c hc
   rw [q5 _ names vs _ i y v k.nd hyn hv (by show fd.scope.names.lookup y≠_;rw [q];simp)] at hcell
   exact hcell

theorem gW (nf:NoFly Fly) {P:Nat->Option IFn} {fd:FuncData} {kk a:Nat} {body:List Stmt} {names:List Str} {fn:IFn} {cx:Cx} (k:FnOk S fd a body names fn cx) (hP:P kk=some fn) (hs:SSs S (CN P n) n Fly cx body fn.body)
  {A:Around} {H:AH} {s:Shared} {avs:List AV} {vs:List Value} {X:Nat->AH->Prop} {Q:AV->AH->Prop} {R:Result->Shared->Prop}
  (room:tH A (n+1)) (hh:A.handled=.none) (x:SimG S H s) (r:VRels S s.heap avs vs) (hQ:∀ v av s' H',Go S [] s H s' H'->VRel S s'.heap av v->Q av H'->R (.ok (.ret v)) s')
  (w:CN P (n+1) kk avs H Q X):codeAny (model S.prog S.w) A (.call (.ref a) ⟨vs,[]⟩) R s:=by
 unfold CN at w
 rw [hP] at w
 obtain ⟨hl,w⟩:=w
 with_reducible refine ex1 (k.here) λ o hx_=>an2 hx_ λ ho hdata=>?_;clear hx_
 have hvl:avs.length=vs.length:=r.length
 refine codeAny_call_cells (fd:=fd) (body:=body) (binds:=names.zip vs) (by unfold tH at room;unfold recursionLimit;lia) (x.stays _ _ ho) hdata (x.ok.lim.keeps x.stays) ?_ k.hbody
  (pR k.pos k.args k.kwo k.var k.kwa k.def_ k.nd (by rw [k.many];lia)) k.clo (λ y hy=>?_) (λ aB ic=>?_) k.co k.gen k.kind
 ·refine ex4 (k.code) λ c oc vs' t hx_=>an3 hx_ λ h1 h2 h3=>?_;clear hx_
  exact em4 c oc vs' t ⟨h1,x.stays _ _ h2,h3⟩
 ·have hy':y.1∈names:=(List.of_mem_zip (a:=y.1) (b:=y.2) hy).1
  rcases k.pk y.1 hy' with q | q
  ·exact .inl q
  ·exact .inr ⟨q,yX fd.scope.names (s.heap.objs.size+1) [] y.1 (.inl (mem_of_lookup q))⟩
 ·with_reducible refine an4 (jF (C:=CN P n) k x r hl ic) λ ok sim g fresh=>?_
  refine hs _ _ (λ c z_ H=>X c H) (oU fn avs) H aB _ _ _ ok (rR room) (λ z_=>hh) sim (λ c e m' s' H' z_ z_ z_ f=>absurd f nf.at) (λ fl f m' s' H' g' sim' fr w'=>?_) w
  have G:Go S [] s H s' H':=((g.wider (D':=z9 (callEnvC fd s.heap.objs.size a)) (by intro b hb;cases hb) λ b hb=>x.hrel.fresh (fresh b hb)).trans g').drop (λ b hb=>.inr (fresh b hb)) (by intro b hb;cases hb)
  cases fr with
  | next=>exact hQ _ _ _ _ G .none w'
  | ret rv=>exact hQ _ _ _ _ G rv w'
end

section
variable {S:Stat} {C:Calls} {n:Nat} {Fly:FlyT} {cx:Cx}

theorem CallsOk.here (hc:CallsOk S C n Fly) {k a:Nat} (ha:S.addr k=some a) {A:Around} {H:AH} {s:Shared} {avs:List AV} {vs:List Value} {X:Nat->AH->Prop} {Q:AV->AH->Prop} {Q':Value->Shared->Prop} {E':Value->Shared->Prop}
  (room:Room A n) (hh:A.handled=.none) (x:SimG S H s) (r:VRels S s.heap avs vs) (hQ:∀ v av s' H',Go S [] s H s' H'->VRel S s'.heap av v->Q av H'->Q' v s') (w:C k avs H Q X):wpAny (model S.prog S.w) A (PySem.call (.ref a) vs) Q' E' s:=
 wpAny_call (hc.call k a ha A H s avs vs X Q _ room.two hh x r (λ v av s' H' g r w=>hQ v av s' H' g r w) w)

theorem mB (hc:CallsOk S C n Fly) {k a:Nat} (ha:S.addr k=some a) {es:List Expr} {ies:IEs} (hns:∀ e∈es,NS e) (he:SEs S C n Fly cx es ies) {env:Env} {A:Around} {X:Nat->AH->Prop} {m:Loc} {H:AH} {s:Shared} {Q:AV->AH->Prop} {Q':Value->Shared->Prop} {E':Value->Shared->Prop} {pos:Pos} {first:List Value} {af:List AV}
  (ok:CxOk cx env) (room:Room A n) (hd:cx.q=true->A.handled=.none) (hq:cx.q=true) (sim:Sim S env cx.vt m H s) (rf:VRels S s.heap af first)
  (hX:∀ c e s' H',Go S [] s H s' H'->X c H'->FlyAt Fly A env c s e s'->E' e s')
  (hQ:∀ v av s' H',Go S [] s H s' H'->VRel S s'.heap av v->Q av H'->Q' v s')
  {P:List AV->AH->Prop} (hP:∀ vs H,P vs H->C k (af++vs) H Q X) (w:WEs C X ies m H P):wpAny (model S.prog S.w) A (callWith pos (.ref a) first (backTo pos (starEach es env)) []) Q' E' s:=by
 with_reducible refine ex2 (hc.fn k a ha) λ o fd hx_=>an2 hx_ λ ho hdata=>?_;clear hx_
 refine Calls.callWith_function (o:=o) (fd:=fd) (xO hns (he env A X m H s _ _ E' pos ok room hd sim hX (λ vs avs aB aD aA aF bT aC=>⟨⟨(sim.go aA).stays _ _ ho,hdata⟩,?_⟩) w))
 have aK:=(sim.go aA).toSimG
 exact hc.here ha room (hd hq) aK ((rf.go sim.toSimG aA).append aF) (λ v av s' H' g r w=>hQ v av s' H' (aA.trans g) r w) (hP _ _ aC)

theorem gX (hc:CallsOk S C n Fly) {f:Str} {k a:Nat} {es:List Expr} {ies:IEs} {np pos:Pos} (hx:cx.sc.lookup f=some .globalImplicit) (hv:S.gv f=some (.ref a)) (ha:S.addr k=some a) (hd0:(f == ("__debug__":Str))=false) (hq:cx.q=true) (hns:∀ e∈es,NS e) (he:SEs S C n Fly cx es ies) :
  SE S C n Fly cx (.Call (.Name f np) es [] pos) (.call k ies):=λ env A X m H s Q Q' E' ok room hd sim hX hQ w=>by
 conv at w=>whnf
 refine Call_ (y9 ok sim.toSimG hx hv hd0 ?_)
 exact mB hc ha hns he ok room hd hq sim .nil hX hQ (λ z_ z_ h=>h) w

theorem ey (hc:CallsOk S C n Fly) {f:Str} {np pos:Pos} (hx:cx.sc.lookup f=some .globalImplicit) (hv:S.gv f=some (.ref S.cls)) (hd0:(f == ("__debug__":Str))=false) (hq:cx.q=true) :
  SE S C n Fly cx (.Call (.Name f np) [] [] pos) (.new .nil):=λ env A X m H s Q Q' E' ok room hd sim hX hQ w=>by
 conv at w=>whnf
 refine Call_ (y9 ok sim.toSimG hx hv hd0 ?_)
 have x:=sim.toSimG
 refine callWith_K0 x.K x.ok.hkp (wpAny_call ?_)
 with_reducible refine ex1 (x.ok.hin) λ fI hx_=>an3 hx_ λ hfi hft hfa=>?_;clear hx_
 obtain ⟨hh,g,d,t,os⟩:=s
 refine make_core (makes_of x.K x.ok.hmk) (looks_findIn x.K hfi) (λ self=>bind_fn x.K self hft) (.inl rfl) ?_
 have aA:Go S [] (⟨hh,g,d,t,os⟩:Shared) H ⟨hh.push emptyDict,g,d,t,os⟩ (H.set hh.objs.size (.ns [])):=x.new (h':=hh.push emptyDict) (a:=hh.objs.size) (ao:=.ns []) (zU _ _) (get?_size _)
  ⟨λ z_=>.none,⟨_,#[],0,Heap.get?_push_size _ rfl,rfl,(by intro e he;simp at he),List.Pairwise.nil,λ z_=>rfl⟩,λ i z_=>.inl ⟨rfl,rfl⟩,λ z_ z_=>rfl⟩ t
 have aK:=x.go aA
 have hxs:(hh.push emptyDict).objs.size=hh.objs.size+1:=Heap.size_push ..
 have aE:=aK.new (h':=(hh.push emptyDict).push (instObj S.cls hh.objs.size)) (a:=hh.objs.size+1) (ao:=.inst hh.objs.size) (zU _ _) (by rw [<-hxs];exact get?_size _)
  ⟨instObj S.cls hh.objs.size,by rw [<-hxs];exact Heap.get?_push_size _ rfl,rfl,rfl,rfl,(by intro _ _ z;cases z),(by intro _ _ z;cases z),(by intro _ z;cases z),(by intro _ z;cases z)⟩ t
 have aS:=aK.go aE
 have G:=aA.trans aE
 have hf1:H (hh.objs.size+1)=.none:=x.hrel.fresh (get?_none_of_ge (Nat.le_succ _))
 have hf0:H hh.objs.size=.none:=x.hrel.fresh (get?_size _)
 have w:=w (hh.objs.size+1) hh.objs.size (by lia) hf1 hf0
 refine hc.call th fI hfa _ _ _ [.ref (hh.objs.size+1)] [.ref (hh.objs.size+1)] X _ _ ?_ (hd hq) aS (.cons (.ref _) .nil) (λ v av s' H' g' r' w'=>?_) w
 ·unfold Room at room;unfold tH
  show A.depth+1+20 * n < 710/\A.units+1+200 * n+150 < 9900
  lia
 ·obtain ⟨w1,w2⟩:=w'
  have hv:v=.none:=by
   cases r' with
   | none=>rfl
   | _=>simp [isNone] at w1
  exact ⟨hv,hQ _ _ _ _ (G.trans g') (.ref _) w2⟩

theorem uB {k:Nat} {v:AV} {H:AH} (h:kdOf k v H=some .list):∃ a l,v=.ref a/\H a=some (.list l)/\k < 2:=by
 cases v with
 | ref a=>
  cases e:H a with
  | none=>simp [kdOf,e] at h
  | some o=>
   cases o with
   | list l=>exact ⟨a,l,rfl,e,by simp [kdOf,e] at h;lia⟩
   | dict d ep=>simp [kdOf,e] at h
   | inst dx=>
    simp only [kdOf,e] at h
    split at h
    ·split at h<;>cases h
    ·cases h
   | ns f=>simp [kdOf,e] at h
 | _=>simp [kdOf] at h
theorem uC {k:Nat} {v:AV} {H:AH} (h:kdOf k v H=some .dict):∃ a d ep,v=.ref a/\H a=some (.dict d ep)/\(k=1\/k=2):=by
 cases v with
 | ref a=>
  cases e:H a with
  | none=>simp [kdOf,e] at h
  | some o=>
   cases o with
   | list l=>simp [kdOf,e] at h
   | dict d ep=>exact ⟨a,d,ep,rfl,e,by simp [kdOf,e] at h;lia⟩
   | inst dx=>
    simp only [kdOf,e] at h
    split at h
    ·split at h<;>cases h
    ·cases h
   | ns f=>simp [kdOf,e] at h
 | _=>simp [kdOf] at h
set_option tactic.hygienic true in
theorem sO {k:Nat} {v:AV} {H:AH} (h:kdOf k v H=some .inst):∃ a dx f,v=.ref a/\H a=some (.inst dx)/\H dx=some (.ns f)/\4<=k:=by
 cases v with
 | ref a=>
  cases e:H a with
  | none=>simp [kdOf,e] at h
  | some o=>
   cases o with
   | list l=>simp [kdOf,e] at h
   | dict d ep=>simp [kdOf,e] at h
   | inst dx=>
    simp only [kdOf,e] at h
    split at h
    ·rename_i f hf
     split at h
     ·cases h
     ·exact em3 a dx f ⟨rfl,e,hf,by lia⟩
    ·cases h
   | ns f=>simp [kdOf,e] at h
 | _=>simp [kdOf] at h
theorem jG {k:Nat} {v:AV} {H:AH} (h:kdOf k v H=some .str):False:=by
 cases v with
 | ref a=>
  cases e:H a with
  | none=>simp [kdOf,e] at h
  | some o=>
   cases o with
   | list l=>simp [kdOf,e] at h
   | dict d ep=>simp [kdOf,e] at h
   | inst dx=>
    simp only [kdOf,e] at h
    split at h
    ·split at h<;>cases h
    ·cases h
   | ns f=>simp [kdOf,e] at h
 | _=>simp [kdOf] at h

theorem gY (hc:CallsOk S C n Fly) {e:Expr} {es:List Expr} {ie:IE} {ies:IEs} {name:Str} {k:Nat} {apos pos:Pos} (hname:(k < 4/\kN k=name)\/(4<=k/\∃ f,S.meth k=some (name,f))) (hb:yK e=true) (hns:∀ e∈es,NS e) (hlen:es.length < 30) (hline:(apos.endLine == pos.line)=true) (hq:cx.q=true)
  (he:SE S C n Fly cx e ie) (hes:SEs S C n Fly cx es ies):SE S C n Fly cx (.Call (.Attribute e name apos) es [] pos) (.meth ie k ies):=λ env A X m H s Q Q' E' ok room hd sim hX hQ w=>by
 conv at w=>whnf
 refine wI hb hns hlen hline (he env A X m H s _ _ E' ok room hd sim hX (λ v av aB aD aA aF aC pl=>?_) w)
 have aG:=sim.go aA
 have aK:=aG.toSimG
 have b_:∀ c e s' H',Go S [] aB aD s' H'->X c H'->FlyAt Fly A env c aB e s'->E' e s':=λ c e s' H' g x f=>hX c e s' H' (aA.trans g) x (f.back aA)
 have bL:∀ v av s' H',Go S [] aB aD s' H'->VRel S s'.heap av v->Q av H'->Q' v s':=λ v av s' H' g r w=>hQ v av s' H' (aA.trans g) r w
 cases hkd:kdOf k av aD with
 | none=>rw [hkd] at aC;exact aC.elim
 | some kd=>
  rw [hkd] at aC
  dsimp only at aC
  have fin:∀ id,(∀ vs aH aM avs,Go S [] aB aD aH aM->VRels S aH.heap avs vs->kdOf k av aM=some kd->xd C k av avs aM Q X->wpAny (model S.prog S.w) A (PySem.call (.builtin id) (v::vs)) Q' E' aH)->
    wpAny (model S.prog S.w) A (callWith pos (.builtin id) [v] (backTo pos (starEach es env)) []) Q' E' aB:=λ id h=>by
   refine y6 (.inl ⟨_,rfl⟩) hns (hes env A X m aD aB _ _ E' pos ok room hd aG b_ (λ vs avs aH aM aE aL c9 aI=>?_) aC)
   exact h vs aH aM avs aE aL aI.1 aI.2
  cases kd with
  | list=>
   with_reducible refine ex2 (uB hkd) λ a l hx_=>an3 hx_ λ hr2_ hl hk2=>?_;clear hx_;subst hr2_
   obtain rfl:=aF.inv
   have hname':kN k=name:=by
    rcases hname with h | h
    ·exact h.2
    ·lia
   refine ex2 (aK.hrel _ _ hl) λ items kk hx_=>an3 hx_ λ ho hz rs=>?_;clear hx_
   have hT:aB.TypeIs (.ref a) "list":=⟨_,ho,rfl⟩
   have hnd:∀ b,Value.ref a=.ref b->∃ o,aB.heap.get? b=some o/\o.dict=none:=λ b hb=>by cases hb;exact ⟨_,ho,rfl⟩
   have hk01:k=0\/k=1:=by lia
   rcases hk01 with rfl | rfl
   ·subst hname'
    refine getMethod_builtin hT PySem.F.plainAttrs_list PySem.F.slot_list_append PySem.F.type_list_append hnd (fin _ λ vs aH aM avs aE aL bB aI=>?_)
    with_reducible refine ex2 (uB bB) λ a' l' hx_=>an3 hx_ λ e bS z_=>?_;clear hx_
    cases e
    exact (qV (A:=A) (E':=E') (aK.go aE) aL (λ v av s' H' g r w=>bL v av s' H' (aE.trans g) r w) bS aI).1 rfl
   ·subst hname'
    refine getMethod_builtin hT PySem.F.plainAttrs_list PySem.F.slot_list_pop PySem.F.type_list_pop hnd (fin _ λ vs aH aM avs aE aL bB aI=>?_)
    with_reducible refine ex2 (uB bB) λ a' l' hx_=>an3 hx_ λ e bS z_=>?_;clear hx_
    cases e
    exact (qV (A:=A) (E':=E') (aK.go aE) aL (λ v av s' H' g r w=>bL v av s' H' (aE.trans g) r w) bS aI).2 rfl
  | dict=>
   with_reducible refine ex3 (uC hkd) λ a d ep hx_=>an3 hx_ λ hr3_ hda hk12=>?_;clear hx_;subst hr3_
   obtain rfl:=aF.inv
   have hname':kN k=name:=by
    rcases hname with h | h
    ·exact h.2
    ·lia
   refine ex1 (aK.hrel _ _ hda) λ kvs hx_=>an3 hx_ λ hkk hz dr=>?_;clear hx_
   rcases hk12 with rfl | rfl
   ·subst hname'
    refine getMethod_builtin hkk.dictOf.typeIs PySem.F.plainAttrs_dict PySem.F.slot_dict_pop PySem.F.type_dict_pop hkk.dictOf.mapOf.noDict (fin _ λ vs aH aM avs aE aL bB aI=>?_)
    with_reducible refine ex3 (uC bB) λ a' d' ep' hx_=>an3 hx_ λ e bY z_=>?_;clear hx_
    cases e
    exact (qW (A:=A) (E':=E') (aK.go aE) aL (λ v av s' H' g r w=>bL v av s' H' (aE.trans g) r w) bY aI).1 rfl
   ·subst hname'
    refine getMethod_builtin hkk.dictOf.typeIs PySem.F.plainAttrs_dict PySem.F.slot_dict_get PySem.F.type_dict_get hkk.dictOf.mapOf.noDict (fin _ λ vs aH aM avs aE aL bB aI=>?_)
    with_reducible refine ex3 (uC bB) λ a' d' ep' hx_=>an3 hx_ λ e bY z_=>?_;clear hx_
    cases e
    exact (qW (A:=A) (E':=E') (aK.go aE) aL (λ v av s' H' g r w=>bL v av s' H' (aE.trans g) r w) bY aI).2 rfl
  | inst=>
   with_reducible refine ex3 (sO hkd) λ a dx f hx_=>an4 hx_ λ hr3_ hi hf hk3=>?_;clear hx_;subst hr3_
   obtain rfl:=aF.inv
   have hm:∃ fa,S.meth k=some (name,fa):=by
    rcases hname with h | h
    ·lia
    ·exact h.2
   obtain ⟨fa,hm⟩:=hm
   with_reducible refine an3 (aK.ok.hme k name fa hm) λ hfind hisfn hna=>?_
   with_reducible refine ex3 (rN aK hi hf) λ ox od mm hx_=>an5 hx_ λ I hdx hod hns1 r=>?_;clear hx_
   have pg:=plainGet_of aK.ok.hga
   refine method_fn aK.K I pg.1 pg.2 hfind (by unfold isFn at hisfn;exact beq_iff_eq.mp hisfn) ?_ ?_
   ·show (lookIn name od).map (·.isSome)=some false
    rw [sG hns1.ns hod,r.2 name hna];rfl
   ·refine mB hc (aK.ok.hma k name fa hm) hns hes ok room hd hq aG (af:=[.ref a]) (.cons (.ref a) .nil) b_ bL (λ vs aM hw=>?_) aC
    obtain ⟨h1,h2⟩:=hw
    with_reducible refine ex3 (sO h1) λ a' dx' f' hx_=>an4 hx_ λ e hi' z_ z_=>?_;clear hx_
    cases e
    simp only [xd,hi'] at h2
    exact h2
  | str=>exact (jG hkd).elim
end

theorem zI {α:Type} {b:Bool} {x:Option α} {y:α} (h:chk b x=some y):b=true/\x=some y:=by
 cases b
 ·cases h
 ·exact ⟨rfl,h⟩



theorem rS {e:Expr} (h:nsB e=true):NS e:=by
 intro r env
 cases e<;>first | rfl | exact nomatch (show false=true from h)



structure wY (S:Stat) (T:Tab):Prop where
 fns:∀ f k,T.fns.lookup f=some k->∃ a,S.gv f=some (.ref a)/\S.addr k=some a
 meths:∀ f k,T.meths.lookup f=some k->4<=k/\∃ a,S.meth k=some (f,a)
 attrs:∀ f i,T.attrs.lookup f=some i->i < S.nattr/\S.attr i=f
 consts:∀ f e,T.consts.lookup f=some e->(∃ c t,e=.ci c/\S.gv f=some (.int c t))\/∃ x t,e=.cs x/\S.gv f=some (.str x t)/\PyData.strOk x=true
 cls:S.gv T.cls=some (.ref S.cls)
 bis:∀ f b,biTab.lookup f=some b->S.gv f=some (nK b)
 tys:∀ f t,tyTab.lookup f=some t->S.gv f=some (nP S t)
 isi:S.gv "isinstance"=some (.builtin "isinstance")
 rng:S.gv "range"=some (.type "range")

structure Good (S:Stat) (C:Calls) (n:Nat) (Fly:FlyT) (R:Rec):Prop where
 e:∀ cx nx x i,cx.q=true->R.e cx nx x=some i->SE S C n Fly cx x i
 t:∀ cx nx x i,cx.q=true->R.t cx nx x=some i->ST S C n Fly cx x i

theorem bind_some {α β:Type} {x:Option α} {f:α->Option β} {y:β} (h:x.bind f=some y):∃ a,x=some a/\f a=some y:=Option.bind_eq_some_iff.mp h

theorem bd1 {α β:Type} {x:Option α} {f:α->β} {y:β} {G:Prop} (h:(x.bind λ a=>some (f a))=some y) (k:∀ a,x=some a->y=f a->G):G:=by
 refine ex1 (bind_some h) λ a hx_=>an2 hx_ λ h1 h=>?_;clear hx_
 exact k a h1 (Option.some.inj h).symm
theorem bd2 {α β γ:Type} {x:Option α} {g:α->Option β} {f:α->β->γ} {y:γ} {G:Prop} (h:(x.bind λ a=>(g a).bind λ b=>some (f a b))=some y) (k:∀ a b,x=some a->g a=some b->y=f a b->G):G:=by
 refine ex1 (bind_some h) λ a hx_=>an2 hx_ λ h1 h=>?_;clear hx_
 exact bd1 h λ b h2 e=>k a b h1 h2 e
theorem bd3 {α β γ δ:Type} {x:Option α} {g:α->Option β} {i:α->β->Option γ} {f:α->β->γ->δ} {y:δ} {G:Prop} (h:(x.bind λ a=>(g a).bind λ b=>(i a b).bind λ c=>some (f a b c))=some y) (k:∀ a b c,x=some a->g a=some b->i a b=some c->y=f a b c->G):G:=by
 refine ex1 (bind_some h) λ a hx_=>an2 hx_ λ h1 h=>?_;clear hx_
 exact bd2 h λ b c h2 h3 e=>k a b c h1 h2 h3 e
theorem bd4 {α β γ δ ε:Type} {x:Option α} {g:α->Option β} {i:α->β->Option γ} {j:α->β->γ->Option δ} {f:α->β->γ->δ->ε} {y:ε} {G:Prop} (h:(x.bind λ a=>(g a).bind λ b=>(i a b).bind λ c=>(j a b c).bind λ d=>some (f a b c d))=some y) (k:∀ a b c d,x=some a->g a=some b->i a b=some c->j a b c=some d->y=f a b c d->G):G:=by
 refine ex1 (bind_some h) λ a hx_=>an2 hx_ λ h1 h=>?_;clear hx_
 exact bd3 h λ b c d h2 h3 h4 e=>k a b c d h1 h2 h3 h4 e
section
variable {S:Stat} {C:Calls} {n:Nat} {Fly:FlyT} {cx:Cx} {R:Rec} {nx:Nat} {T:Tab}

theorem xn (G:Good S C n Fly R) (hq:cx.q=true):∀ {es:List Expr} {ies:IEs},esOf R cx nx es=some ies->SEs S C n Fly cx es ies/\∀ e∈es,NS e
 | [],ies,h=>by cases h;exact ⟨gL,by intro _ h;cases h⟩
 | e::r,ies,h=>by
  obtain ⟨h1,h⟩:=zI h
  refine bd2 h λ ie ir h2 h3 e_=>?_
  clear h
  subst e_
  obtain ⟨a,b⟩:=xn G hq h3
  refine ⟨lr (G.e _ _ _ _ hq h2) a λ env=>rS h1 r env,λ e' he=>?_⟩
  rcases List.mem_cons.mp he with rfl | he
  ·exact rS h1
  ·exact b e' he
theorem sP (G:Good S C n Fly R) (hq:cx.q=true) {op:BoolOp} {es:List Expr}:∀ {ies:IEs},es.isEmpty=false->esOf R cx nx es=some ies->SAnd S C n Fly cx op es ies:=by
 induction es with
 | nil=>intro _ h;simp at h
 | cons e r ih=>
  intro ies _ h
  obtain ⟨h1,h⟩:=zI h
  refine bd2 h λ ie ir h2 h3 e_=>?_
  clear h
  subst e_
  cases r with
  | nil=>
   cases h3
   exact lw (G.e _ _ _ _ hq h2)
  | cons e' r=>
   have:=ih rfl h3
   clear ih
   obtain ⟨h1',h3⟩:=zI h3
   refine bd2 h3 λ ie' ir' h2' h3' e_=>?_
   clear h3
   subst e_
   exact ow (G.e _ _ _ _ hq h2) this
theorem tL (G:Good S C n Fly R) (hq:cx.q=true) {op:BoolOp}:∀ {es:List Expr} {its:ITs},tsOf R cx nx es=some its->STs S C n Fly cx op es its
 | [],its,h=>by cases h;exact gP
 | e::r,its,h=>by
  refine bd2 h λ it ir h2 h3 e_=>?_
  clear h
  subst e_
  exact lz (G.t _ _ _ _ hq h2) (tL G hq h3)
theorem vC (G:Good S C n Fly R) (hq:cx.q=true) {e:Option Expr} {ie:IE} (h:qN R cx nx e=some ie):SP S C n Fly cx e ie:=by
 cases e with
 | none=>cases h;rfl
 | some e=>exact G.e _ _ _ _ hq h

theorem rT {t:Expr} {x:Str} (h:nameOf? t=some x):∃ p,t=.Name x p:=by
 cases t<;>first | exact nomatch (show (Option.none:Option Str)=some x from h) | skip
 cases h;exact ⟨_,rfl⟩
noncomputable def OnC {α:Type} (k:Expr->List Expr->List Keyword->Pos->Option α) (e:Expr) (x:α):Prop:=∃ f as ks p,e=.Call f as ks p/\k f as ks p=some x
theorem mE {α:Type} {k:Expr->List Expr->List Keyword->Pos->Option α} {e:Expr} {x:α} (h:o6 k e=some x):OnC k e x:=by
 cases e<;>first | exact nomatch (show (Option.none:Option α)=some x from h) | exact ⟨_,_,_,_,rfl,h⟩
theorem gZ {f:Expr} {as:List Expr} {ks:List Keyword} {x:Expr} (h:rOne f as ks=some x):∃ p,f=.Name ("range":Str) p/\as=[x]/\ks=[]:=by
 refine ex1 (bind_some h) λ g hx_=>an2 hx_ λ h1 h=>?_;clear hx_
 obtain ⟨h2,h⟩:=zI h
 obtain ⟨p,rfl⟩:=rT h1
 simp only [Bool.and_eq_true,beq_iff_eq,List.isEmpty_iff] at h2
 obtain ⟨rfl,rfl⟩:=h2
 cases as with
 | nil=>cases h
 | cons y r=>
  obtain ⟨h3,h⟩:=zI h
  cases h
  exact ⟨p,rfl,by rw [List.isEmpty_iff.mp h3],rfl⟩
theorem mF (G:Good S C n Fly R) (hT:wY S T) (hq:cx.q=true) {e:Expr} {ii:II} (h:iOf R cx nx e=some ii):vL e=true/\SI S C n Fly cx e ii:=by
 have hh:=zI h
 clear h
 obtain ⟨h1,h⟩:=hh
 refine ⟨h1,?_⟩
 clear h1
 cases hr:o6 (λ f as ks z_=>rOne f as ks) e with
 | none=>
  rw [hr] at h
  refine bd1 h λ ie h3 e_=>?_
  clear h
  subst e_
  exact eS (G.e _ _ _ _ hq h3)
 | some x=>
  rw [hr] at h
  refine ex4 (mE hr) λ f as ks pos hx_=>an2 hx_ λ hr4_ h4=>?_;clear hx_;subst hr4_
  refine ex1 (gZ h4) λ np hx_=>an3 hx_ λ hr1_ hr2_ hr3_=>?_;clear hx_;subst hr1_;subst hr2_;subst hr3_
  clear hr h4
  obtain ⟨h2,h⟩:=zI h
  refine bd1 h λ ie h3 e_=>?_
  clear h
  subst e_
  obtain ⟨h4,h5⟩:=Bool.and_eq_true_iff.mp h2
  exact jC (by simpa using h5) hT.rng (by decide) (rS h4) (G.e _ _ _ _ hq h3)

theorem ug {l:List (Str×Nat)} (h:tt (l.map (·.2))=true):∀ x y i,(x,i)∈l->(y,i)∈l->x=y:=by
 induction l with
 | nil=>intro x y i h;cases h
 | cons a r ih=>
  obtain ⟨a1,a2⟩:=a
  simp only [List.map_cons,tt,Bool.and_eq_true,Bool.not_eq_true'] at h
  have hn:a2∉r.map (·.2):=by simpa using h.1
  intro x y i hx hy
  rcases List.mem_cons.mp hx with zx | zx
  ·rcases List.mem_cons.mp hy with zy | zy
   ·cases zx;cases zy;rfl
   ·cases zx
    exact absurd (List.mem_map.mpr ⟨_,zy,rfl⟩) hn
  ·rcases List.mem_cons.mp hy with zy | zy
   ·cases zy
    exact absurd (List.mem_map.mpr ⟨_,zx,rfl⟩) hn
   ·exact ih h.2 x y i zx zy

theorem q6 {vt:List (Str×Nat)}:∀ {es:List Expr} {is:List Nat},nmOf vt es=some is->NamesAre vt es is
 | [],is,h=>by cases h;exact .nil
 | e::r,is,h=>by
  refine bd3 h λ x i js h1 h2 h3 e_=>?_
  clear h
  subst e_
  obtain ⟨p,rfl⟩:=rT h1
  exact .cons h2 (q6 h3)
theorem q7 {vt:List (Str×Nat)} {e:Expr} {t:Tg} (h:tgOf vt e=some t):TgIs vt e t:=by
 cases e<;>first | exact nomatch (show (Option.none:Option Tg)=some t from h) | skip
 case Name=>
  refine bd1 h λ i h2 e_=>?_
  clear h
  subst e_
  exact .one h2
 case Tuple=>
  obtain ⟨h1,h⟩:=zI h
  refine bd1 h λ is h2 e_=>?_
  clear h
  subst e_
  exact .many (q6 h2) (by simpa using h1)
theorem uh {target:Expr} {x:Str} {p:Pos} (h:target=.Name x p\/∃ es k q,target=.Tuple es k q/\Expr.Name x p∈es):x∈vo target:=by
 rcases h with rfl | ⟨es,k,q,rfl,hm⟩
 ·exact (List.Mem.head _:x∈[x])
 ·show x∈es.filterMap nameOf?
  rw [List.mem_filterMap]
  exact ⟨_,hm,rfl⟩

theorem g4 {scope:Scope} {t:Tg} {target:Expr} (ht:TgIs (cxIn cx nx target scope).vt target t) (h:sv cx scope t target (cxIn cx nx target scope)=true):vx cx scope t target (cxIn cx nx target scope):=by
 unfold sv at h
 simp only [Bool.and_eq_true] at h
 with_reducible refine an7 (h) λ h1 h2 h3 h4 h5 h6 h7=>?_;(try clear h)
 rw [List.all_eq_true] at h2 h3 h4 h5 h7
 refine ⟨by simpa using h1,λ y hy hl=>(by have:=h2 y hy;rw [hl] at this;simpa using this),λ y hy hl=>?_,λ y hy hf=>?_,rfl,rfl,λ x i hx=>?_,λ x y i hx hy=>ug h6 x y i (mem_of_lookup hx) (mem_of_lookup hy),ht,λ x p hx=>by simpa using h7 x (uh hx)⟩
 ·have:=h3 y hy
  rw [hl] at this
  simpa using this
 ·have:=h4 y hy
  rw [hf] at this
  simp only [bne_self_eq_false,Bool.false_or,Bool.and_eq_true,Bool.or_eq_true,beq_iff_eq] at this
  exact ⟨this.1,Option.isSome_iff_exists.mp this.2⟩
 ·have:=h5 (x,i) (mem_of_lookup hx)
  simp only [Bool.and_eq_true,Bool.or_eq_true,beq_iff_eq,Bool.not_eq_true',List.contains_iff_mem] at this
  refine ⟨this.1,?_⟩
  rcases this.2 with ⟨a,b⟩ | ⟨a,b,c,d⟩
  ·exact .inl ⟨a,b⟩
  ·refine .inr ⟨mem_of_lookup a,a,b,?_,d⟩
   intro hm
   have:(wG t).contains i=true:=by simpa using hm
   rw [this] at c;cases c

noncomputable def LcR (S:Stat) (C:Calls) (n:Nat) (Fly:FlyT) (cx:Cx) (nx:Nat) (elt:Expr) (gens:List Comprehension) (scope:Scope) (ie:IE):Prop:=∃ target iter ifs t ii cond ei,gens=[⟨target,iter,ifs,0⟩]/\ie=.comp t ii cond ei/\vx cx scope t target (cxIn cx nx target scope)/\vL iter=true/\SI S C n Fly cx iter ii/\SIfs S C n Fly (cxIn cx nx target scope) ifs cond/\SE S C n Fly (cxIn cx nx target scope) elt ei
theorem q8 (G:Good S C n Fly R) (hT:wY S T) (hq:cx.q=true) {elt:Expr} {gens:List Comprehension} {scope:Scope} {ie:IE} (h:lcOf R cx nx elt gens scope=some ie):LcR S C n Fly cx nx elt gens scope ie:=by
 cases gens with
 | nil=>cases h
 | cons g r=>
  obtain ⟨h0,h⟩:=zI h
  cases r with
  | cons=>cases h0
  | nil=>
  obtain ⟨h0,h⟩:=zI h
  obtain ⟨target,iter,ifs,z⟩:=g
  have z0:z=0:=by simpa using h0
  subst z0
  with_reducible refine ex1 (bind_some h) λ t hx_=>an2 hx_ λ h1 h=>?_;clear hx_
  obtain ⟨h2,h⟩:=zI h
  refine bd3 h λ ii c ei h3 h4 h5 e_=>?_
  clear h
  subst e_
  obtain ⟨i1,i2⟩:=mF G hT hq h3
  refine em7 target iter ifs t ii c ei ⟨rfl,rfl,g4 (q7 h1) h2,i1,i2,?_,G.e _ _ _ _ hq h5⟩
  have h4:gF R (cxIn cx nx target scope) (nx+(vo target).length) ifs=some c:=h4
  unfold gF at h4
  split at h4
  ·cases h4;exact .inl ⟨rfl,rfl⟩
  ·refine bd1 h4 λ it h6 e_=>?_
   clear h4
   subst e_
   exact .inr ⟨_,it,rfl,rfl,G.t _ _ _ _ hq h6⟩
  ·cases h4

set_option tactic.hygienic true in
theorem ez (G:Good S C n Fly R) (hq:cx.q=true) {l r:Expr} {op:Operator} {ie:IE} {pos:Pos} (h:f9 R cx nx l op r=some ie):SE S C n Fly cx (.BinOp l op r pos) ie:=by
 have plain:((opOf op).bind λ o=>(R.e cx nx l).bind λ a=>(R.e cx nx r).bind λ b=>some (IE.bin o a b))=some ie->SE S C n Fly cx (.BinOp l op r pos) ie:=λ h=>by
  refine bd3 h λ o a b h1 h2 h3 e_=>?_
  clear h
  subst e_
  exact eG (G.e _ _ _ _ hq h2) (G.e _ _ _ _ hq h3) h1
 cases l<;>first | exact plain h | skip
 rename_i es p
 cases es with
 | nil=>exact plain h
 | cons x r2=>
  cases r2 with
  | cons y r3=>exact plain h
  | nil=>
   cases op<;>first | exact plain h | skip
   obtain ⟨h1,h⟩:=zI h
   refine bd2 h λ a b h2 h3 e_=>?_
   clear h
   subst e_
   exact eR (G.e _ _ _ _ hq h2) (G.e _ _ _ _ hq h3) (rS h1)
theorem iS (G:Good S C n Fly R) (hq:cx.q=true) {l:Expr} {ops:List CmpOp} {rs:List Expr} {ie:IE} {pos:Pos} (h:lf R cx nx l ops rs=some ie):SE S C n Fly cx (.Compare l ops rs pos) ie/\ST S C n Fly cx (.Compare l ops rs pos) (.val ie):=by
 unfold lf at h
 split at h
 ·obtain ⟨h1,h⟩:=zI h
  refine bd2 h λ a b h2 h3 e_=>?_
  clear h
  subst e_
  rw [Bool.not_eq_true'] at h1
  exact ⟨eJ (G.e _ _ _ _ hq h2) (G.e _ _ _ _ hq h3) h1,eM (G.e _ _ _ _ hq h2) (G.e _ _ _ _ hq h3) h1⟩
 ·cases h
theorem mH {r:Expr} (h:idxB r=true):∀ o i,subscripted r false o i=operate [o,i] (getItem o i):=by
 intro o i
 cases r<;>first | rfl | exact nomatch (show false=true from h)
theorem dA (G:Good S C n Fly R) (hq:cx.q=true) {o i:Expr} {ie:IE} {pos:Pos} (h:fc R cx nx o i=some ie):SE S C n Fly cx (.Subscript o i pos) ie:=by
 have plain:idxB i=true->((R.e cx nx o).bind λ a=>(R.e cx nx i).bind λ b=>some (IE.idx a b))=some ie->SE S C n Fly cx (.Subscript o i pos) ie:=λ h0 h=>by
  refine bd2 h λ a b h1 h2 e_=>?_
  clear h
  subst e_
  exact eN (G.e _ _ _ _ hq h1) (G.e _ _ _ _ hq h2) (mH h0)
 cases i<;>first | exact plain rfl h | skip
 refine bd4 h λ a b c d h1 h2 h3 h4 e_=>?_
 clear h
 subst e_
 exact kH (G.e _ _ _ _ hq h1) (vC G hq h2) (vC G hq h3) (vC G hq h4)

set_option tactic.hygienic true in
theorem m_ok (hT:wY S T) {nm:Str} {k:Nat} (h:mOf T nm=some k):(k < 4/\kN k=nm)\/(4<=k/\∃ f,S.meth k=some (nm,f)):=by
 unfold mOf at h
 split at h
 ·rename_i q
  cases h
  exact .inl ⟨by lia,(beq_iff_eq.mp q).symm⟩
 ·split at h
  ·rename_i q
   cases h
   exact .inl ⟨by lia,(beq_iff_eq.mp q).symm⟩
  ·split at h
   ·rename_i q
    cases h
    exact .inl ⟨by lia,(beq_iff_eq.mp q).symm⟩
   ·exact .inr (hT.meths _ _ h)

theorem dB {f:Str} {t:Ty} (h:tyTab.lookup f=some t):∀ c H,isOf (.exc c) t H=.none:=by
 have:t=.int\/t=.bool\/t=.list\/t=.tuple\/t=.str:=by
  have hm:=mem_of_lookup h
  unfold tyTab at hm
  simp only [List.mem_cons,Prod.mk.injEq,List.not_mem_nil,or_false] at hm
  rcases hm with ⟨_,h⟩ | ⟨_,h⟩ | ⟨_,h⟩ | ⟨_,h⟩ | ⟨_,h⟩
  ·exact .inl h
  ·exact .inr (.inl h)
  ·exact .inr (.inr (.inl h))
  ·exact .inr (.inr (.inr (.inl h)))
  ·exact .inr (.inr (.inr (.inr h)))
 rcases this with rfl | rfl | rfl | rfl | rfl<;>intro c H<;>rfl
set_option tactic.hygienic true in
theorem q9 {o:Expr} {sep:Str} (h:gG o=some sep):SE S C n Fly cx o (.cs sep)/\PyData.strOk sep=true:=by
 cases o<;>first | exact nomatch (show (Option.none:Option Str)=some sep from h) | skip
 rename_i c k p
 cases c<;>first | exact nomatch (show (Option.none:Option Str)=some sep from h) | skip
 obtain ⟨h1,h⟩:=zI h
 cases h
 exact ⟨fv h1,h1⟩
set_option tactic.hygienic true in
theorem mI {x:Str} {c:Nat} (h:o8 x=some c):x=⟨#[c]⟩:=by
 unfold o8 at h
 split at h
 ·rename_i d hd
  cases h
  exact Str.ext' (Array.toList_inj.mp hd)
 ·cases h
set_option tactic.hygienic true in
theorem g6 (G:Good S C n Fly R) (hq:cx.q=true) {o:Expr} {nm:Str} {es:List Expr} {ie:IE} {apos pos:Pos} (hb:yK o=true) (hline:(apos.endLine == pos.line)=true) (h:iM R cx nx o nm es=some ie):SE S C n Fly cx (.Call (.Attribute o nm apos) es [] pos) ie:=by
 cases es with
 | nil=>cases h
 | cons x r=>
  have hh:=zI h
  clear h
  obtain ⟨h0,h⟩:=hh
  simp only [Bool.and_eq_true,List.isEmpty_iff] at h0
  obtain ⟨rfl,hns⟩:=h0
  split at h
  ·rename_i q
   obtain rfl:=beq_iff_eq.mp q
   refine bd2 h λ sep ie h1 h2 e_=>?_
   clear h
   subst e_
   obtain ⟨a,b⟩:=q9 (S:=S) (C:=C) (n:=n) (Fly:=Fly) (cx:=cx) h1
   exact gS hb b hline a (rS hns) (G.e _ _ _ _ hq h2)
  ·obtain ⟨h0,h⟩:=zI h
   obtain rfl:=beq_iff_eq.mp h0
   refine bd3 h λ sep c ie h1 h2 h3 e_=>?_
   clear h
   subst e_
   obtain rfl:=mI h2
   exact kT hb hline (G.e _ _ _ _ hq h3) (rS hns) (q9 h1).1
set_option tactic.hygienic true in
theorem sQ (G:Good S C n Fly R) (hT:wY S T) (hc:CallsOk S C n Fly) (hq:cx.q=true) {g:Str} {es:List Expr} {ie:IE} {np pos:Pos} (hg:cx.sc.lookup g=some .globalImplicit) (hd:(g == ("__debug__":Str))=false) (h:tE T R cx nx g es=some ie):SE S C n Fly cx (.Call (.Name g np) es [] pos) ie:=by
 unfold tE at h
 split at h
 ·rename_i q
  have q:g=("isinstance":Str):=by simpa using q
  subst q
  cases es with
  | nil=>cases h
  | cons e r=>
  cases r with
  | nil=>cases h
  | cons t r=>
  obtain ⟨h0,h⟩:=zI h
  with_reducible refine ex1 (bind_some h) λ ty hx_=>an2 hx_ λ h4 h=>?_;clear hx_
  obtain ⟨h1,h⟩:=zI h
  refine bd2 h λ t ie h2 h3 e_=>?_
  clear h
  subst e_
  obtain ⟨p,rfl⟩:=rT h4
  simp only [Bool.and_eq_true,beq_iff_eq,Bool.not_eq_true',List.isEmpty_iff] at h0 h1
  obtain ⟨rfl,h0⟩:=h0
  exact nQ (.inr (dB h2)) hg hT.isi hd h1.1 (hT.tys _ _ h2) h1.2 (rS h0) (G.e _ _ _ _ hq h3)
 ·split at h
  ·rename_i b hb
   refine bd1 h λ ies h3 e_=>?_
   clear h
   subst e_
   obtain ⟨a1,a2⟩:=xn G hq h3
   exact se_bi hg (hT.bis _ _ hb) hd hq a2 a1
  ·split at h
   ·rename_i k hk
    refine bd1 h λ ies h3 e_=>?_
    clear h
    subst e_
    obtain ⟨a1,a2⟩:=xn G hq h3
    with_reducible refine ex1 (hT.fns _ _ hk) λ a hx_=>an2 hx_ λ hv ha=>?_;clear hx_
    exact gX hc hg hv ha hd hq a2 a1
   ·obtain ⟨h1,h⟩:=zI h
    cases h
    simp only [Bool.and_eq_true,beq_iff_eq,List.isEmpty_iff] at h1
    obtain ⟨rfl,rfl⟩:=h1
    exact ey hc hg hT.cls hd hq

set_option tactic.hygienic true in
theorem g9 (G:Good S C n Fly R) (hT:wY S T) (hc:CallsOk S C n Fly) (hq:cx.q=true) {f:Expr} {es:List Expr} {ie:IE} {pos:Pos} (h:iN T R cx nx f es pos=some ie):SE S C n Fly cx (.Call f es [] pos) ie:=by
 cases f<;>first | exact nomatch (show (Option.none:Option IE)=some ie from h) | skip
 case Name=>
  obtain ⟨h1,h⟩:=zI h
  simp only [Bool.and_eq_true,beq_iff_eq,Bool.not_eq_true'] at h1
  exact sQ G hT hc hq h1.1 h1.2 h
 case Attribute=>
  obtain ⟨h1,h⟩:=zI h
  simp only [Bool.and_eq_true,decide_eq_true_eq] at h1
  split at h
  ·rename_i k h2
   refine bd2 h λ io ies h3 h4 e_=>?_
   clear h
   subst e_
   obtain ⟨a1,a2⟩:=xn G hq h4
   exact gY hc (m_ok hT h2) h1.1 a2 h1.2.1 h1.2.2 hq (G.e _ _ _ _ hq h3) a1
  ·exact g6 G hq h1.1 h1.2.2 h

theorem sR {x:Str} {e:IE} {a:AV} {v:Value} {pos:Pos} (hx:cx.sc.lookup x=some .globalImplicit) (hd:(x == ("__debug__":Str))=false) (hv:S.gv x=some v) (rv:∀ {h:Heap},VRel S h a v) (he:∀ {X m H Q},WE C X e m H Q->Q a H):SE S C n Fly cx (.Name x pos) e:=λ env A X m H s Q Q' E' ok room hd' sim hX hQ w=>
 y9 ok sim.toSimG hx hv hd (hQ _ _ _ _ (sim.refl []) rv (he w))

set_option tactic.hygienic true in
theorem pS (nf:NoFly Fly) (G:Good S C n Fly R) (hT:wY S T) (hc:CallsOk S C n Fly):Good S C n Fly ⟨gH T R,gJ R⟩:=by
 refine ⟨λ cx nx x i hq h=>?_,λ cx nx x i hq h=>?_⟩
 ·replace h:gH T R cx nx x=some i:=h
  cases x<;>first | exact nomatch (show (Option.none:Option IE)=some i from h) | skip
  case BoolOp op es p=>
   cases op
   ·obtain ⟨h0,h⟩:=zI h
    refine bd1 h λ a h1 e_=>?_
    clear h
    subst e_
    exact eK (sP G hq (by simpa using h0) h1)
   ·obtain ⟨h0,h⟩:=zI h
    refine bd1 h λ a h1 e_=>?_
    clear h
    subst e_
    exact se_or (sP G hq (by simpa using h0) h1)
  case BinOp=>exact ez G hq h
  case UnaryOp op a p=>
   cases op<;>first | exact nomatch (show (Option.none:Option IE)=some i from h) | skip
   case USub=>
    refine bd1 h λ a h1 e_=>?_
    clear h
    subst e_
    exact eE (G.e _ _ _ _ hq h1)
   case Not=>
    refine bd1 h λ a h1 e_=>?_
    clear h
    subst e_
    exact eF (G.e _ _ _ _ hq h1)
  case Dict ks vs p=>
   cases ks with
   | cons _ _=>exact nomatch (show (Option.none:Option IE)=some i from h)
   | nil=>
    cases vs with
    | cons _ _=>exact nomatch (show (Option.none:Option IE)=some i from h)
    | nil=>cases Option.some.inj (show some _=some i from h);exact gN
  case ListComp=>
   refine ex7 (q8 G hT hq h) λ target iter ifs t ii cond ei hx_=>an7 hx_ λ hr7_ hr8_ k ns hi hif he=>?_;clear hx_;subst hr7_;subst hr8_
   exact nz nf k hq ns hi hif he
  case Compare=>exact (iS G hq h).1
  case Call f es kws p=>
   cases kws with
   | cons _ _=>exact nomatch (show (Option.none:Option IE)=some i from h)
   | nil=>exact g9 G hT hc hq h
  case Constant c k p=>
   cases c<;>first | exact nomatch (show (Option.none:Option IE)=some i from h) | skip
   case none=>cases Option.some.inj (show some _=some i from h);exact se_cn
   case bool=>cases Option.some.inj (show some _=some i from h);exact se_cb
   case int=>cases Option.some.inj (show some _=some i from h);exact se_ci
   case str=>
    obtain ⟨h1,h⟩:=zI h
    cases h;exact fv h1
  case Attribute=>
   obtain ⟨h0,h⟩:=zI h
   refine bd2 h λ a o h1 h2 e_=>?_
   clear h
   subst e_
   obtain ⟨b1,b2⟩:=hT.attrs _ _ h1
   exact gT (G.e _ _ _ _ hq h2) h0 b1 b2
  case Subscript=>exact dA G hq h
  case Name y p=>
   have h:(match cx.vt.lookup y with | some i=>some (IE.var i) | .none=>chk (cx.sc.lookup y == some .globalImplicit&&!(y == ("__debug__":Str))) (T.consts.lookup y))=some i:=h
   split at h
   ·rename_i hv
    cases h;exact fy hv
   ·obtain ⟨h1,h⟩:=zI h
    simp only [Bool.and_eq_true,beq_iff_eq,Bool.not_eq_true'] at h1
    rcases hT.consts _ _ h with ⟨c,t,rfl,hv⟩ | ⟨x,t,rfl,hv,ok⟩
    ·exact sR h1.1 h1.2 hv (.int c t) λ w=>w
    ·exact sR h1.1 h1.2 hv (.str x t ok) λ w=>w
  case List=>
   obtain ⟨h0,h⟩:=zI h
   refine bd1 h λ a h1 e_=>?_
   clear h
   subst e_
   exact gM (xn G hq h1).1 (by simpa using h0)
  case Tuple=>
   obtain ⟨h0,h⟩:=zI h
   refine bd1 h λ a h1 e_=>?_
   clear h
   subst e_
   exact eC (xn G hq h1).1 (by simpa using h0)
 ·replace h:gJ R cx nx x=some i:=h
  cases x<;>first | exact nomatch (show (Option.none:Option IT)=some i from h) | skip
  case UnaryOp op a p=>
   cases op<;>first | exact nomatch (show (Option.none:Option IT)=some i from h) | skip
   refine bd1 h λ a h1 e_=>?_
   clear h
   subst e_
   exact eL (G.t _ _ _ _ hq h1)
  case BoolOp op es p=>
   cases op
   ·refine bd1 h λ a h1 e_=>?_
    clear h
    subst e_
    exact oy (op:=.And) (tL G hq h1)
   ·refine bd1 h λ a h1 e_=>?_
    clear h
    subst e_
    exact oy (op:=.Or) (tL G hq h1)
  case Compare=>
   refine bd1 h λ a h1 e_=>?_
   clear h
   subst e_
   exact (iS G hq h1).2
  case Call=>
   refine ex1 (bind_some (show (R.e cx nx _).bind (λ i=>some (IT.val i))=some i from h)) λ a hx_=>an2 hx_ λ h1 h=>?_;clear hx_
   cases h
   exact qR (G.e _ _ _ _ hq h1) λ env=>rfl
  case Attribute=>
   refine ex1 (bind_some (show (R.e cx nx _).bind (λ i=>some (IT.val i))=some i from h)) λ a hx_=>an2 hx_ λ h1 h=>?_;clear hx_
   cases h
   exact qR (G.e _ _ _ _ hq h1) λ env=>rfl
  case Subscript=>
   refine ex1 (bind_some (show (R.e cx nx _).bind (λ i=>some (IT.val i))=some i from h)) λ a hx_=>an2 hx_ λ h1 h=>?_;clear hx_
   cases h
   exact qR (G.e _ _ _ _ hq h1) λ env=>rfl
  case Name=>
   refine ex1 (bind_some (show (R.e cx nx _).bind (λ i=>some (IT.val i))=some i from h)) λ a hx_=>an2 hx_ λ h1 h=>?_;clear hx_
   cases h
   exact qR (G.e _ _ _ _ hq h1) λ env=>rfl

theorem sS (nf:NoFly Fly) (hT:wY S T) (hc:CallsOk S C n Fly):∀ k,Good S C n Fly (lg T k)
 | 0=>⟨λ z_ z_ z_ z_ z_ h=>(nomatch h),λ z_ z_ z_ z_ z_ h=>(nomatch h)⟩
 | k+1=>pS nf (sS nf hT hc k) hT hc

theorem pT {rs:Cx->Nat->Stmt->Option IS} (hr:∀ st i,rs cx nx st=some i->SS S C n Fly cx st i):∀ {sts:List Stmt} {is:ISs},ssOf rs cx nx sts=some is->SSs S C n Fly cx sts is
 | [],is,h=>by cases h;exact gV
 | st::r,is,h=>by
  refine bd2 h λ i ir h1 h2 e_=>?_
  clear h
  subst e_
  exact jB (hr _ _ h1) (pT hr h2)

set_option tactic.hygienic true in
theorem dC (nf:NoFly Fly) (G:Good S C n Fly R) (hT:wY S T) (hq:cx.q=true) {t e:Expr} {i:IS} {pos:Pos} (h:ff T R cx nx t e=some i):SS S C n Fly cx (.Assign [t] e pos) i:=by
 cases t<;>first | exact nomatch (show (Option.none:Option IS)=some i from h) | skip
 case Attribute=>
  refine bd3 h λ a io ie h1 h2 h3 e_=>?_
  clear h
  subst e_
  obtain ⟨b1,b2⟩:=hT.attrs _ _ h1
  exact ed b1 b2 (G.e _ _ _ _ hq h2) (G.e _ _ _ _ hq h3)
 case Subscript=>
  refine bd3 h λ io ii ie h2 h3 h4 e_=>?_
  clear h
  subst e_
  exact em (G.e _ _ _ _ hq h2) (G.e _ _ _ _ hq h3) (G.e _ _ _ _ hq h4)
 case Name x0 p0=>
  have hh:=bind_some h
  clear h
  with_reducible refine ex1 (hh) λ j hx_=>an2 hx_ λ h1 h=>?_;clear hx_;(try clear hh)
  have hh:=zI h
  clear h
  obtain ⟨h2,h⟩:=hh
  simp only [vM,Bool.or_eq_true,beq_iff_eq] at h2
  have plain:chk (ub e) ((R.e cx nx e).bind λ ie=>some (IS.asg j ie))=some i->SS S C n Fly cx (.Assign [.Name x0 p0] e pos) i:=λ h=>by
   obtain ⟨h3,h⟩:=zI h
   refine bd1 h λ ie h4 e_=>?_
   clear h
   subst e_
   exact eX h1 h2 h3 (G.e _ _ _ _ hq h4)
  cases e<;>first | exact plain h | skip
  refine bd1 h λ ie h3 e_=>?_
  clear h
  subst e_
  refine ex7 (q8 G hT hq h3) λ target iter ifs t ii cond ei hx_=>an7 hx_ λ hr7_ hr8_ k ns hi hif he=>?_;clear hx_;subst hr7_;subst hr8_
  exact rQ nf h1 h2 k hq ns hi hif he

set_option tactic.hygienic true in
theorem jH (nf:NoFly Fly) (G:Good S C n Fly R) (hT:wY S T) (hq:cx.q=true) {rs:Cx->Nat->Stmt->Option IS} (hr:∀ st i,rs cx nx st=some i->SS S C n Fly cx st i) {st:Stmt} {i:IS} (h:fh T R rs cx nx st=some i):SS S C n Fly cx st i:=by
 cases st<;>first | exact nomatch (show (Option.none:Option IS)=some i from h) | skip
 case Return v p=>
  cases v with
  | none=>exact nomatch (show (Option.none:Option IS)=some i from h)
  | some e=>
   refine bd1 h λ ie h1 e_=>?_
   clear h
   subst e_
   exact eY (G.e _ _ _ _ hq h1)
 case Assign ts e p=>
  cases ts with
  | nil=>exact nomatch (show (Option.none:Option IS)=some i from h)
  | cons t r=>
   cases r with
   | cons _ _=>exact nomatch (show (Option.none:Option IS)=some i from h)
   | nil=>exact dC nf G hT hq h
 case For tg it b el p=>
  cases el with
  | cons _ _=>exact nomatch (show (Option.none:Option IS)=some i from h)
  | nil=>
   obtain ⟨h0,h⟩:=zI h
   refine bd3 h λ t ii ib h1 h2 h3 e_=>?_
   clear h
   subst e_
   obtain ⟨a1,a2⟩:=mF G hT hq h2
   rw [List.all_eq_true] at h0
   refine eo nf hq a1 (q7 h1) (λ x i _ hp=>?_) a2 (pT hr h3)
   obtain ⟨p,hp⟩:=hp
   have:=h0 x (uh hp)
   simpa [vM] using this
 case While c b el p=>
  cases el with
  | cons _ _=>exact nomatch (show (Option.none:Option IS)=some i from h)
  | nil=>
   refine bd2 h λ ic ib h1 h2 e_=>?_
   clear h
   subst e_
   exact jE nf hq (G.t _ _ _ _ hq h1) (pT hr h2)
 case If=>
  refine bd3 h λ ic it ie h1 h2 h3 e_=>?_
  clear h
  subst e_
  exact eZ (G.t _ _ _ _ hq h1) (pT hr h2) (pT hr h3)
 case Raise=>
  cases Option.some.inj (show some _=some i from h)
  intro env A X m H s Q Q' E' ok room hd sim hX hQ w
  conv at w=>whnf
  exact w.elim
 case Expr=>
  obtain ⟨h1,h⟩:=zI h
  refine bd1 h λ ie h2 e_=>?_
  clear h
  subst e_
  exact ss_ex h1 (G.e _ _ _ _ hq h2)

theorem ga (nf:NoFly Fly) (G:Good S C n Fly R) (hT:wY S T) (k:Nat):∀ (cx:Cx) (nx:Nat),cx.q=true->∀ st i,recS T R k cx nx st=some i->SS S C n Fly cx st i:=by
 induction k with
 | zero=>
  intro _ _ _ _ _ h
  cases h
 | succ k ih_=>
  intro cx nx hq st i h
  exact jH nf G hT hq (λ st i h=>ih_ cx nx hq st i h) h
end

theorem uD:∀ {l:List Str},tu l=true->l.Nodup
 | [],_=>List.nodup_nil
 | a::r,h=>by
  simp only [tu,Bool.and_eq_true,Bool.not_eq_true'] at h
  exact List.nodup_cons.mpr ⟨by simpa using h.1,uD h.2⟩


theorem ui:∀ (l:List Str) (n i:Nat) (x:Str),l[i]?=some x->(x,n+i)∈tn l n
 | [],n,i,x,h=>by simp at h
 | a::r,n,0,x,h=>by simp at h;subst h;exact .head _
 | a::r,n,i+1,x,h=>by
  have:=ui r (n+1) i x (by simpa using h)
  have e:n+1+i=n+(i+1):=by lia
  rw [e] at this
  exact .tail _ this

section
variable {S:Stat} {Fly:FlyT} {T:Tab}

set_option tactic.hygienic true in
theorem fn_at {K:Frag} {a:Nat} {fd:FuncData} (h:fnAt K a=some fd):∃ o,K.lookup a=some o/\o.data=.func fd:=by
 unfold fnAt at h
 split at h
 ·rename_i e;cases h;exact ⟨_,e,rfl⟩
 ·cases h

theorem sT {cx:Cx} {x:Str} (h:vM cx x=true):cx.sc.lookup x=some .local\/cx.sc.lookup x=some .cell:=by
 simpa only [vM,Bool.or_eq_true,beq_iff_eq] using h

set_option tactic.hygienic true in
theorem qa (ok:tw S) (hT:wY S T) {a:Nat} {fn:IFn} (h:fnIR S.K T a=some fn) :
  ∃ fd body,FnOk S fd a body (wH fd) fn (fnCx fd)/\∀ C n,NoFly Fly->CallsOk S C n Fly->SSs S C n Fly (fnCx fd) body fn.body:=by
 refine ex1 (bind_some h) λ fd hx_=>an2 hx_ λ h1 h=>?_;clear hx_
 with_reducible refine ex1 (bind_some h) λ body hx_=>an2 hx_ λ h2 h=>?_;clear hx_
 obtain ⟨h3,h⟩:=zI h
 refine bd1 h λ ib h4 e_=>?_
 clear h
 subst e_
 refine em2 fd body ⟨?_,λ C n nf hc=>?_⟩
 ·unfold fi at h3
  simp only [Bool.and_eq_true] at h3
  refine an10 h3 λ a1 a2 a3 a4 a5 a6 a7 a8 a9 h3=>an9 h3 λ a10 a11 a12 a13 a14 a15 a16 a17 a18=>?_
  rw [List.all_eq_true] at a15 a16 a17
  with_reducible refine ex1 (fn_at h1) λ o hx_=>an2 hx_ λ e hd=>?_;clear hx_
  refine ⟨⟨o,ok.hK _ _ e,hd⟩,codeRec_of ok.hK a1,?_,by simpa using a2,by simpa using a3,by simpa using a4,by simpa using a5,rfl,by simpa using a6,by simpa using a7,by simpa using a8,?_,uD a10,rfl,by simpa using a11,by simpa using a12,by simpa using a13,uD a14,rfl,
   λ x hx=>sT (a15 x hx),λ i x hx=>?_,λ x i hx=>?_,λ x y i hx hy=>ug a18 x y i (mem_of_lookup hx) (mem_of_lookup hy)⟩
  ·unfold iO at h2
   split at h2
   ·rename_i e;cases h2;exact e
   ·cases h2
  ·cases q:fd.defaults<;>rw [q] at a9<;>first | rfl | (simp [o9] at a9)
  ·have:=a16 _ (ui _ 0 i x hx)
   rw [beq_iff_eq,Nat.zero_add] at this
   exact this
  ·have:=a17 _ (mem_of_lookup hx)
   simp only [Bool.and_eq_true,Bool.not_eq_true'] at this
   exact ⟨this.1,sT this.2⟩
 ·exact pT (λ st i h=>ga nf (sS nf hT hc 40) hT 12 _ _ rfl st i h) h4

theorem qb (nf:NoFly Fly) (ok:tw S) (hT:wY S T) {P:Nat->Option IFn} (hP:∀ k a,S.addr k=some a->∃ fn,P k=some fn/\fnIR S.K T a=some fn):∀ n,CallsOk S (CN P n) n Fly
 | 0=>⟨λ k a ha A H s avs vs X Q R z_ z_ z_ z_ z_ w=>w.elim,λ k a ha=>by
   with_reducible refine ex1 (hP k a ha) λ fn hx_=>an2 hx_ λ z_ h=>?_;clear hx_
   with_reducible refine ex2 (qa (Fly:=Fly) ok hT h) λ fd body hx_=>an2 hx_ λ k z_=>?_;clear hx_
   with_reducible refine ex1 (k.here) λ o hx_=>an2 hx_ λ e hd=>?_;clear hx_
   exact ⟨o,fd,e,hd⟩⟩
 | n+1=>by
  have ih:=qb nf ok hT hP n
  refine ⟨λ k a ha A H s avs vs X Q R room hh x r hQ w=>?_,ih.fn⟩
  with_reducible refine ex1 (hP k a ha) λ fn hx_=>an2 hx_ λ hp h=>?_;clear hx_
  with_reducible refine ex2 (qa (Fly:=Fly) ok hT h) λ fd body hx_=>an2 hx_ λ kk hs=>?_;clear hx_
  exact gW nf kk hp (hs _ n nf ih) room hh x r hQ w
end

theorem xo {x:Option (Option Value)} {a:Nat} (h:uW x=some a):x=some (some (.ref a)):=by
 unfold uW at h
 split at h
 ·cases h;rfl
 ·cases h

noncomputable def uE (prog:Program) (w:World) (base:Heap) (K:Frag) (T:Tab) (mg mb:Str->Option Value):Stat:=
 { prog,w,base,cls:=tF K T,attr:=wS T,own:=λ z_=>0,mg,mb,K,nattr:=T.attrs.length,meth:=vp K T,addr:=yy K T }

set_option tactic.hygienic true in
theorem jI {x:Option (Option Value)} {e:IE} (h:fj x e=true):(∃ c t,e=.ci c/\x=some (some (.int c t)))\/∃ c t,e=.cs c/\x=some (some (.str c t))/\PyData.strOk c=true:=by
 cases e<;>first | exact nomatch (show false=true from h) | skip
 case ci=>
  rename_i c
  have h:isInt x c=true:=h
  unfold isInt at h
  split at h
  ·obtain rfl:=beq_iff_eq.mp h
   exact .inl ⟨_,_,rfl,rfl⟩
  ·cases h
 case cs=>
  rename_i c
  have h:isStr x c=true:=h
  unfold isStr at h
  split at h
  ·obtain ⟨h1,h2⟩:=Bool.and_eq_true_iff.mp h
   obtain rfl:=beq_iff_eq.mp h1
   exact .inr ⟨_,_,rfl,rfl,h2⟩
  ·cases h
set_option tactic.hygienic true in
theorem gb {K:Frag} {h:Heap} {mg mb:Str->Option Value} (X:K.In h) (G:h.Ns mainGlobals mg) (B:∀ x:Str,x≠"__name__"->mb x=bootBuiltins x) {x:Str} {v:Value} (hf:oe K x=true) (hv:bootBuiltins x=some v) (hn:x≠("__name__":Str)):(match mg x with | some u=>some u | .none=>mb x)=some v:=by
 unfold oe at hf
 split at hf
 ·rename_i e
  rw [mg_none_of X G e]
  exact (B x hn).trans hv
 ·cases hf
theorem tM {K:Frag} {h:Heap} {mg mb:Str->Option Value} (X:K.In h) (G:h.Ns mainGlobals mg) {x:Str} {v:Value} (e:nsIn K mainGlobals x=some (some v)):(match mg x with | some u=>some u | .none=>mb x)=some v:=by
 rw [mg_of X G e]

theorem jJ:bootBuiltins ("isinstance":Str)=some (.builtin "isinstance"):=by decide +kernel
theorem jK:bootBuiltins ("range":Str)=some (.type "range"):=by decide +kernel
theorem bi_ok:∀ y∈biTab,bootBuiltins y.1=some (nK y.2)/\y.1≠("__name__":Str):=by
 intro y hy
 unfold biTab at hy
 simp only [List.mem_cons,List.not_mem_nil,or_false] at hy
 rcases hy with rfl | rfl | rfl | rfl | rfl | rfl | rfl | rfl<;>exact ⟨by decide +kernel,by decide +kernel⟩
theorem ty_ok (S:Stat):∀ y∈tyTab,bootBuiltins y.1=some (nP S y.2)/\y.1≠("__name__":Str):=by
 intro y hy
 unfold tyTab at hy
 simp only [List.mem_cons,List.not_mem_nil,or_false] at hy
 rcases hy with rfl | rfl | rfl | rfl | rfl<;>exact ⟨by show bootBuiltins _=some (.type _);decide +kernel,by decide +kernel⟩

section
variable {prog:Program} {w:World} {base:Heap} {K:Frag} {T:Tab} {mg mb:Str->Option Value}

theorem mJ {k:Nat} {name:Str} {f:Nat} (h:vp K T k=some (name,f)):(name,k)∈T.meths/\findIn K (.ref (tF K T)) name=some (some (.ref f)):=by
 unfold vp at h
 with_reducible refine ex1 (bind_some h) λ y hx_=>an2 hx_ λ h1 h=>?_;clear hx_
 have h2:=List.find?_some h1
 have h3:=List.mem_of_find?_eq_some h1
 with_reducible refine ex1 (Option.map_eq_some_iff.mp h) λ a hx_=>an2 hx_ λ h4 h5=>?_;clear hx_
 cases h5
 have h2:y.2=k:=by simpa using h2
 subst h2
 exact ⟨h3,xo h4⟩

theorem mM (hB:tv T=true) {i:Nat} (hi:i < T.attrs.length):(wS T i,i)∈T.attrs:=by
 unfold tv at hB
 simp only [Bool.and_eq_true] at hB
 with_reducible refine an5 (hB) λ h1 h2 h3 h4 z_=>?_;(try clear hB)
 rw [List.all_eq_true] at h2
 have:=h2 i (List.mem_range.mpr hi)
 rw [List.any_eq_true] at this
 with_reducible refine ex1 (this) λ y hx_=>an2 hx_ λ hy hyi=>?_;clear hx_;(try clear this)
 unfold wS
 cases q:T.attrs.find? λ y=>y.2 == i with
 | none=>
  rw [List.find?_eq_none] at q
  exact absurd hyi (q y hy)
 | some z=>
  have h5:=List.find?_some q
  have h6:=List.mem_of_find?_eq_some q
  have h5:z.2=i:=by simpa using h5
  subst h5
  exact h6

set_option tactic.hygienic true in
theorem gc (X:K.In base) (G:base.Ns mainGlobals mg) (B:base.Ns builtinsNs mb) (lim:base.NoLimit) (sys:∃ o,base.get? sysModules=some o)
  (h1:clsB K T=true) (h2:pC K T=true) (h4:tv T=true):tw (uE prog w base K T mg mb):=by
 unfold clsB at h1
 simp only [Bool.and_eq_true,beq_iff_eq] at h1
 with_reducible refine an8 (h1) λ a1 a2 a3 a4 a5 a6 a7 a8=>?_;(try clear h1)
 unfold pC at h2
 rw [List.all_eq_true] at h2 a8
 have h4':=h4
 unfold tv at h4'
 simp only [Bool.and_eq_true] at h4'
 with_reducible refine an5 (h4') λ b1 b2 b3 b4 b5=>?_;(try clear h4')
 rw [List.all_eq_true] at b1
 rw [List.any_eq_true] at b4
 have me:∀ k name f,vp K T k=some (name,f)->findIn K (.ref (tF K T)) name=some (some (.ref f))/\isFn K (.ref f)=true/\(∀ i,i < T.attrs.length->wS T i≠name):=λ k name f h=>by
  obtain ⟨m1,m2⟩:=mJ h
  have:=h2 _ m1
  simp only [Bool.and_eq_true] at this
  obtain ⟨_,this⟩:=this
  rw [m2] at this
  dsimp only [uW] at this
  simp only [Bool.and_eq_true,List.all_eq_true] at this
  refine ⟨m2,this.1,λ i hi e=>?_⟩
  have z:=this.2.2 _ (mM h4 hi)
  simp [e] at z
 have ma:∀ k name f,vp K T k=some (name,f)->yy K T k=some f:=λ k name f h=>by
  unfold yy;rw [h]
 refine ⟨sys,G,B,lim,X,(show T.attrs.length<=100 by simpa using b3),λ i j hi hj e=>?_,a2,a3,λ i hi=>?_,a7,a4,me,ma,a5,a6,?_⟩
 ·rw [List.all_eq_true] at b5
  have:=b5 i (List.mem_range.mpr hi)
  rw [List.all_eq_true] at this
  have:=this j (List.mem_range.mpr hj)
  have e:wS T i=wS T j:=e
  simpa [e] using this
 ·exact beq_iff_eq.mp (a8 _ (mM h4 hi))
 ·with_reducible refine ex1 (b4) λ y hx_=>an2 hx_ λ hy hyi=>?_;clear hx_;(try clear b4)
  simp only [Bool.and_eq_true,beq_iff_eq] at hyi
  have:=h2 _ hy
  simp only [Bool.and_eq_true] at this
  obtain ⟨_,this⟩:=this
  split at this
  ·rename_i a ha
   simp only [Bool.and_eq_true,beq_iff_eq] at this
   have ha:=xo ha
   rw [hyi.1] at ha
   refine ⟨a,ha,?_,?_⟩
   ·have:=this.1
    unfold isFn at this
    exact beq_iff_eq.mp this
   ·have h5:=this.2.1
    rw [hyi.2] at h5
    exact ma _ _ _ h5
  ·cases this

set_option tactic.hygienic true in
theorem dD (X:K.In base) (G:base.Ns mainGlobals mg) (hb:∀ x:Str,x≠"__name__"->mb x=bootBuiltins x)
  (h1:clsB K T=true) (h2:pC K T=true) (h3:fnsB K T=true) (h4:tv T=true) (h5:lh K=true):wY (uE prog w base K T mg mb) T:=by
 unfold fnsB at h3
 simp only [Bool.and_eq_true] at h3
 obtain ⟨c1,c2⟩:=h3
 rw [List.all_eq_true] at c1 c2
 unfold pC at h2
 rw [List.all_eq_true] at h2
 unfold lh at h5
 rw [List.all_eq_true] at h5
 have fr:∀ {x:Str} {v:Value},x∈(("isinstance":Str)::("range":Str)::biTab.map (·.1)++tyTab.map (·.1))->bootBuiltins x=some v->x≠("__name__":Str)->(uE prog w base K T mg mb).gv x=some v:=λ hx hv hn=>gb X G hb (h5 _ hx) hv hn
 refine ⟨λ f k h=>?_,λ f k h=>?_,λ f i h=>?_,λ f c h=>?_,?_,λ f b h=>?_,λ f t h=>?_,?_,?_⟩
 ·have:=c1 _ (mem_of_lookup h)
  simp only [Bool.and_eq_true,beq_iff_eq] at this
  obtain ⟨a,ha⟩:=Option.isSome_iff_exists.mp this.1
  exact ⟨a,tM X G (xo ha),this.2.trans ha⟩
 ·have:=h2 _ (mem_of_lookup h)
  simp only [Bool.and_eq_true,decide_eq_true_eq] at this
  refine ⟨this.1,?_⟩
  have:=this.2
  split at this
  ·rename_i a ha
   simp only [Bool.and_eq_true,beq_iff_eq] at this
   exact ⟨a,this.2.1⟩
  ·cases this
 ·unfold tv at h4
  simp only [Bool.and_eq_true] at h4
  have:=h4.1
  rw [List.all_eq_true] at this
  have:=this _ (mem_of_lookup h)
  simp only [Bool.and_eq_true,decide_eq_true_eq,beq_iff_eq] at this
  exact this
 ·have:=c2 _ (mem_of_lookup h)
  rcases jI this with ⟨c,t,rfl,e⟩ | ⟨c,t,rfl,e,ok⟩
  ·exact .inl ⟨_,t,rfl,tM X G e⟩
  ·exact .inr ⟨_,t,rfl,tM X G e,ok⟩
 ·unfold clsB at h1
  simp only [Bool.and_eq_true] at h1
  obtain ⟨a,ha⟩:=Option.isSome_iff_exists.mp h1.1
  have e:tF K T=a:=by unfold tF;rw [ha];rfl
  show (uE prog w base K T mg mb).gv T.cls=some (.ref (tF K T))
  rw [e]
  exact tM X G (xo ha)
 ·have hm:=mem_of_lookup h
  have:=bi_ok (f,b) hm
  exact fr (List.mem_append_left _ (List.mem_cons_of_mem _ (List.mem_cons_of_mem _ (List.mem_map.mpr ⟨_,hm,rfl⟩)))) this.1 this.2
 ·have hm:=mem_of_lookup h
  have:=ty_ok (uE prog w base K T mg mb) (f,t) hm
  exact fr (List.mem_append_right _ (List.mem_map.mpr ⟨_,hm,rfl⟩)) this.1 this.2
 ·exact fr (.head _) jJ (by decide)
 ·exact fr (.tail _ (.head _)) jK (by decide)
end

theorem uj {S:Stat} {h:Heap}:∀ {vs:List Value} {ns:List Int},IntsAre vs ns->VRels S h (ns.map .int) vs
 | _,_,.nil=>.nil
 | _,_,.cons i t r=>.cons (.int i t) (uj r)

set_option tactic.hygienic true in
theorem gf {K:Frag} {T:Tab} {k a:Nat} (h:yy K T k=some a):k∈(T.meths++T.fns).map (·.2):=by
 unfold yy at h
 split at h
 ·rename_i p hp
  obtain ⟨h1,_⟩:=mJ (name:=p.1) (f:=p.2) hp
  exact List.mem_map.mpr ⟨_,List.mem_append_left _ h1,rfl⟩
 ·with_reducible refine ex1 (bind_some h) λ y hx_=>an2 hx_ λ h1 h=>?_;clear hx_
  have h2:=List.find?_some h1
  have h3:=List.mem_of_find?_eq_some h1
  have h2:y.2=k:=by simpa using h2
  exact List.mem_map.mpr ⟨y,List.mem_append_right _ h3,h2⟩

theorem wC {α:Type}:∀ {l:List (Nat×α)} {n:Nat} {c:α},l.lookup n=some c->(n,c)∈l
 | (m,d)::r,n,c,h=>by
  rw [List.lookup_cons] at h
  cases q:n == m with
  | true=>
   rw [q] at h;cases h
   have:n=m:=by simpa using q
   rw [this];exact .head _
  | false=>rw [q] at h;exact .tail _ (wC h)
theorem wD {α:Type}:∀ {l:List (Nat×α)} {n:Nat},n∈l.map (·.1)->∃ c,l.lookup n=some c
 | (m,d)::r,n,h=>by
  rw [List.lookup_cons]
  cases q:n == m with
  | true=>exact ⟨d,rfl⟩
  | false=>
   refine wD ?_
   rw [List.map_cons] at h
   rcases List.mem_cons.mp h with z | z
   ·exact absurd z (by simpa using q)
   ·exact z

theorem jL {K:Frag} {T:Tab} {tbl:List (Nat×IFn)} (e1:(T.meths++T.fns).map (·.2)=tbl.map (·.1)) (e2:tbl.map (λ p=>(yy K T p.1).bind (fnIR K T))=tbl.map λ p=>some p.2) :
  ∀ k a,yy K T k=some a->∃ fn,tbl.lookup k=some fn/\fnIR K T a=some fn:=λ k a h=>by
 have hk:=gf h
 rw [e1] at hk
 obtain ⟨fn,hf⟩:=wD hk
 refine ⟨fn,hf,?_⟩
 obtain ⟨i,hi,e⟩:=List.getElem_of_mem (wC hf)
 have:=congrArg (λ l=>l[i]?) e2
 simp only [List.getElem?_map,List.getElem?_eq_getElem hi,Option.map_some,e,h,Option.bind_some] at this
 exact Option.some.inj this

theorem qc {prog:Program} {w:World} {aB:Shared} {K:Frag} {T:Tab} {mg mb:Str->Option Value} {fa l:Nat} {vs:List Value} {ns:List Int} {tbl:List (Nat×IFn)} {N:Nat} {R:Result->Shared->Prop}
  (X:K.In aB.heap) (G:aB.heap.Ns mainGlobals mg) (B:aB.heap.Ns builtinsNs mb) (lim:aB.heap.NoLimit) (sys:∃ o,aB.heap.get? sysModules=some o) (hb:∀ x:Str,x≠"__name__"->mb x=bootBuiltins x) (hg:aB.gens=#[])
  (h1:clsB K T=true) (h2:pC K T=true) (h3:fnsB K T=true) (h4:tv T=true) (h5:lh K=true)
  (e1:(T.meths++T.fns).map (·.2)=tbl.map (·.1)) (e2:tbl.map (λ p=>(yy K T p.1).bind (fnIR K T))=tbl.map λ p=>some p.2)
  (hmg:mg ("law":Str)=some (.ref fa)) (hlaw:T.fns.lookup ("law":Str)=some 30) (hL:aB.heap.IsList l vs.toArray) (hI:IntsAre vs ns) (hn:ns.length<=63) (hN:N<=19)
  (W:CN (λ k=>tbl.lookup k) N 30 [.fro (ns.map .int)] (λ z_=>.none) (λ v z_=>v=.bool true) (λ z_ z_=>True))
  (hR:∀ s',(∀ b o,aB.heap.get? b=some o->s'.heap.get? b=some o)->s'.os=aB.os->s'.gens=#[]->R (.ok (.ret (.bool true))) s') :
  codeAny (model prog w) callerA (.call (.ref fa) ⟨[.ref l],[]⟩) R aB:=by
 have ok:tw (uE prog w aB.heap K T mg mb):=gc X G B lim sys h1 h2 h4
 have hT:wY (uE prog w aB.heap K T mg mb) T:=dD X G hb h1 h2 h3 h4 h5
 have nf:NoFly (λ z_ z_ z_ z_ z_ z_=>False):=λ z_ z_ z_ z_ z_ z_ h=>h
 have hc:=qb nf ok hT (jL e1 e2) N
 with_reducible refine ex1 (hT.fns _ _ hlaw) λ a hx_=>an2 hx_ λ ha hfa=>?_;clear hx_
 have ha:(match mg ("law":Str) with | some u=>some u | .none=>mb ("law":Str))=some (.ref a):=ha
 rw [hmg] at ha
 cases ha
 have hlen:ns.length=vs.length:=hI.length.symm
 refine hc.call 30 fa hfa callerA (λ z_=>.none) aB [.fro (ns.map .int)] [.ref l] (λ z_ z_=>True) _ R ?_ rfl ⟨ok,λ z_ z_ e=>e,λ z_ z_ z_=>rfl,(λ z_ z_ e=>(by cases e)),hg⟩ (.cons (.fro (items:=vs.toArray) hL (by simp [lid];lia) (by simpa using uj hI)) .nil) (λ v av s' H' g r w=>?_) W
 ·unfold tH
  show 1+claimMargin+20 * N < 710/\4+200 * N+150 < 9900
  unfold claimMargin
  lia
 ·subst w
  cases r
  exact hR s' g.base g.os (g.gens.trans hg)
end Mine

namespace Mine
open PySem

noncomputable def Ext0 (H H':AH):Prop:=∀ a o,H a=some o->H' a=some o
theorem Ext0.refl (H:AH):Ext0 H H:=λ z_ z_ e=>e
theorem Ext0.trans {H H' H'':AH} (x:Ext0 H H') (y:Ext0 H' H''):Ext0 H H'':=λ a o e=>y a o (x a o e)
set_option tactic.hygienic true in
theorem Ext0.set {H:AH} {a:Nat} {o:AO} (h:H a=.none):Ext0 H (H.set a o):=λ b o' e=>by
 unfold AH.set
 split
 ·rename_i q;rw [q,h] at e;cases e
 ·exact e
theorem AH.set_self (H:AH) (a:Nat) (o:AO):(H.set a o) a=some o:=by simp [AH.set]
theorem AH.set_ne (H:AH) {a b:Nat} (o:AO) (h:b≠a):(H.set a o) b=H b:=by simp [AH.set,h]

noncomputable def upd {α:Type} (f:Int->α) (k:Int) (v:α):Int->α:=λ x=>if x=k then v else f x
theorem zG {α:Type} (f:Int->α) (k:Int) (v:α):upd f k v k=v:=by simp [upd]
theorem zM {α:Type} (f:Int->α) {k x:Int} (v:α) (h:x≠k):upd f k v x=f x:=by simp [upd,h]

noncomputable def dOf (ks:List Int) (f:Int->AV):List (Int×AV):=ks.map λ k=>(k,f k)
theorem qd (ks:List Int) (f:Int->AV) (k:Int):dget (dOf ks f) k=if k∈ks then some (f k) else .none:=by
 unfold dget dOf
 induction ks with
 | nil=>simp
 | cons a r ih=>
  rw [List.map_cons,List.find?_cons]
  by_cases q:a=k
  ·subst q;simp
  ·have:¬ k=a:=λ z=>q z.symm
   simp only [q,decide_false,List.mem_cons,this,false_or]
   exact ih
theorem zY {ks:List Int} {f:Int->AV} {k:Int} (h:k∈ks):dget (dOf ks f) k=some (f k):=by rw [qd,if_pos h]
theorem tN {ks:List Int} {f:Int->AV} {k:Int} (h:k∉ks):dget (dOf ks f) k=.none:=by rw [qd,if_neg h]
theorem mN (ks:List Int) (f:Int->AV) (k:Int):(dOf ks f).any (λ p=>decide (p.1=k))=decide (k∈ks):=by
 unfold dOf
 induction ks with
 | nil=>simp
 | cons a r ih=>
  rw [List.map_cons,List.any_cons,ih]
  by_cases q:a=k
  ·subst q;simp
  ·have:¬ k=a:=λ z=>q z.symm
   simp [q,this]
theorem jM {ks:List Int} {f:Int->AV} {k:Int} {v:AV} (h:k∈ks):dset (dOf ks f) k v=dOf ks (upd f k v):=by
 unfold dset
 rw [mN,if_pos (by simpa using h)]
 unfold dOf
 rw [List.map_map]
 refine List.map_congr_left λ a z_=>?_
 unfold upd
 by_cases q:a=k<;>simp [q]
theorem xg {ks:List Int} {f g:Int->AV} (h:∀ k∈ks,f k=g k):dOf ks f=dOf ks g:=List.map_congr_left λ a ha=>by rw [h a ha]
theorem yN {ks:List Int} {f:Int->AV} {k:Int} {v:AV} (h:k∉ks):dset (dOf ks f) k v=dOf (ks++[k]) (upd f k v):=by
 unfold dset
 rw [mN,if_neg (by simpa using h)]
 have:dOf ks f=dOf ks (upd f k v):=xg λ a ha=>(zM f v (λ q=>h (by rw [<-q];exact ha))).symm
 rw [this]
 unfold dOf
 simp [upd]
theorem v9 (ks:List Int) (f:Int->AV) (k:Int):ddel (dOf ks f) k=dOf (ks.filter λ x=>!decide (x=k)) f:=by
 unfold ddel dOf
 rw [List.filter_map]
 rfl
theorem zK (ks:List Int) (f:Int->AV):(dOf ks f).length=ks.length:=by simp [dOf]
theorem jN (ks:List Int) (f:Int->AV):(dOf ks f).map (λ p=>AV.int p.1)=ks.map .int:=by simp [dOf]

inductive Deed where
 | up
 | down (o:Int)
 | hang (o s:Int) (h:Bool)
noncomputable def Deed.av:Deed->AV
 | .up=>.tup [.str "up"]
 | .down o=>.tup [.str "down",.int o]
 | .hang o s h=>.tup [.str "hang",.int o,.int s,.bool h]
noncomputable abbrev Slot:=Option (Int×Bool)
noncomputable def zL:Slot->AV
 | .none=>.none
 | some (o,h)=>.tup [.int o,.bool h]
noncomputable def zw (p:Int×Int×Int):AV:=.tup [.int p.1,.int p.2.1,.int p.2.2]

structure St where
 ks:List Int
 row:Int->List Slot
 hs:List Int
 ls:List Int
 link:Int->Int×Int×Int
 ws:List Int
 will:Int->List Deed
 nb:Int
 np:Int
structure Ad where
 c:Nat
 dx:Nat
 r:Nat
 h:Nat
 l:Nat
 w:Nat
 ra:Int->Nat
 wa:Int->Nat

noncomputable abbrev RM:=Nat->Option (Nat×Int)

structure Chest (R:RM) (H:AH) (A:Ad) (s:St):Prop where
 c:H A.c=some (.inst A.dx)
 dx:H A.dx=some (.ns [(0,.int s.nb),(1,.int s.np),(2,.ref A.r),(3,.ref A.h),(4,.ref A.l),(5,.ref A.w)])
 r:∃ ep,H A.r=some (.dict (dOf s.ks λ k=>.ref (A.ra k)) ep)
 h:∃ ep,H A.h=some (.dict (dOf s.hs λ z_=>.bool true) ep)
 l:∃ ep,H A.l=some (.dict (dOf s.ls λ k=>zw (s.link k)) ep)
 w:∃ ep,H A.w=some (.dict (dOf s.ws λ k=>.ref (A.wa k)) ep)
 row:∀ k∈s.ks,H (A.ra k)=some (.list ((s.row k).map zL))
 will:∀ k∈s.ws,H (A.wa k)=some (.list ((s.will k).map Deed.av))
 Rc:R A.c=some (0,0)
 Rdx:R A.dx=some (1,0)
 Rr:R A.r=some (2,0)
 Rh:R A.h=some (3,0)
 Rl:R A.l=some (4,0)
 Rw:R A.w=some (5,0)
 Rrow:∀ k∈s.ks,R (A.ra k)=some (6,k)
 Rwill:∀ k∈s.ws,R (A.wa k)=some (7,k)

theorem Chest.keep {R R':RM} {H H':AH} {A:Ad} {s:St} (x:Chest R H A s) (hk:∀ a o,H a=some o->(∃ t k,R a=some (t,k)/\t < 10)->H' a=some o) (hr:∀ a,H a≠.none->R' a=R a):Chest R' H' A s:=by
 obtain ⟨er,r⟩:=x.r
 obtain ⟨eh,h⟩:=x.h
 obtain ⟨el,l⟩:=x.l
 obtain ⟨ew,w⟩:=x.w
 have al:∀ {a o},H a=some o->R' a=R a:=λ {a o} e=>hr a (by rw [e];simp)
 refine ⟨hk _ _ x.c ⟨_,_,x.Rc,by omega⟩,hk _ _ x.dx ⟨_,_,x.Rdx,by omega⟩,⟨er,hk _ _ r ⟨_,_,x.Rr,by omega⟩⟩,⟨eh,hk _ _ h ⟨_,_,x.Rh,by omega⟩⟩,⟨el,hk _ _ l ⟨_,_,x.Rl,by omega⟩⟩,⟨ew,hk _ _ w ⟨_,_,x.Rw,by omega⟩⟩,
  λ k hm=>hk _ _ (x.row k hm) ⟨_,_,x.Rrow k hm,by omega⟩,λ k hm=>hk _ _ (x.will k hm) ⟨_,_,x.Rwill k hm,by omega⟩,(al x.c).trans x.Rc,(al x.dx).trans x.Rdx,(al r).trans x.Rr,(al h).trans x.Rh,(al l).trans x.Rl,(al w).trans x.Rw,
  λ k hm=>(al (x.row k hm)).trans (x.Rrow k hm),λ k hm=>(al (x.will k hm)).trans (x.Rwill k hm)⟩
theorem Chest.ext {R:RM} {H H':AH} {A:Ad} {s:St} (x:Chest R H A s) (e:Ext0 H H'):Chest R H' A s:=x.keep (λ a o h z_=>e a o h) λ z_ z_=>rfl

theorem zP {R:RM} {a b:Nat} {x y:Nat×Int} (ha:R a=some x) (hb:R b=some y) (h:x≠y):a≠b:=λ q=>by
 rw [q,hb] at ha;exact h (Option.some.inj ha).symm

noncomputable def Dom (R:RM) (H:AH):Prop:=∀ a,R a≠.none->H a≠.none

structure Stp (p:Nat->Prop) (R:RM) (H:AH) (R':RM) (H':AH):Prop where
 keep:∀ a o,H a=some o->(∀ t k,R a=some (t,k)->¬ p t)->H' a=some o
 alive:∀ a,H a≠.none->H' a≠.none
 role:∀ a,H a≠.none->R' a=R a
 dom:Dom R' H'
theorem Stp.refl {p:Nat->Prop} {R:RM} {H:AH} (d:Dom R H):Stp p R H R H:=⟨λ z_ z_ e z_=>e,λ z_ h=>h,λ z_ z_=>rfl,d⟩
theorem Stp.trans {p:Nat->Prop} {R R' R'':RM} {H H' H'':AH} (x:Stp p R H R' H') (y:Stp p R' H' R'' H''):Stp p R H R'' H'':=
 ⟨λ a o e h=>y.keep a o (x.keep a o e h) (by rw [x.role a (by rw [e];simp)];exact h),λ a h=>y.alive a (x.alive a h),λ a h=>(y.role a (x.alive a h)).trans (x.role a h),y.dom⟩
theorem Stp.ext {p:Nat->Prop} {R:RM} {H H':AH} (d:Dom R H) (e:Ext0 H H'):Stp p R H R H':=by
 have al:∀ a,H a≠.none->H' a≠.none:=λ a h=>by
  cases q:H a with
  | none=>exact absurd q h
  | some o=>rw [e a o q];simp
 exact ⟨λ a o h z_=>e a o h,al,λ z_ z_=>rfl,λ a h=>al a (d a h)⟩
theorem Stp.set {p:Nat->Prop} {R:RM} {H:AH} (d:Dom R H) {a:Nat} {o:AO} {t:Nat} {k:Int} (hr:R a=some (t,k)) (ht:p t):Stp p R H R (H.set a o):=by
 have al:∀ b,H b≠.none->(H.set a o) b≠.none:=λ b h=>by
  unfold AH.set;split
  ·simp
  ·exact h
 refine ⟨λ b ob e h=>?_,al,λ z_ z_=>rfl,λ b h=>al b (d b h)⟩
 rw [AH.set_ne]
 ·exact e
 ·intro q;rw [q] at h;exact h t k hr ht
noncomputable def isCh (t:Nat):Prop:=t < 10
noncomputable def RM.set (R:RM) (a:Nat) (x:Nat×Int):RM:=λ b=>if b=a then some x else R b
theorem RM.set_self (R:RM) (a:Nat) (x:Nat×Int):(R.set a x) a=some x:=by simp [RM.set]
theorem RM.set_ne (R:RM) {a b:Nat} (x:Nat×Int) (h:b≠a):(R.set a x) b=R b:=by simp [RM.set,h]

section
variable {R:RM} {H:AH} {A:Ad} {s:St}

theorem Chest.ne (x:Chest R H A s):A.c≠A.dx/\A.c≠A.r/\A.c≠A.h/\A.c≠A.l/\A.c≠A.w/\A.dx≠A.r/\A.dx≠A.h/\A.dx≠A.l/\A.dx≠A.w/\A.r≠A.h/\A.r≠A.l/\A.r≠A.w/\A.h≠A.l/\A.h≠A.w/\A.l≠A.w:=
 ⟨zP x.Rc x.Rdx (by simp),zP x.Rc x.Rr (by simp),zP x.Rc x.Rh (by simp),zP x.Rc x.Rl (by simp),zP x.Rc x.Rw (by simp),zP x.Rdx x.Rr (by simp),zP x.Rdx x.Rh (by simp),zP x.Rdx x.Rl (by simp),zP x.Rdx x.Rw (by simp),
  zP x.Rr x.Rh (by simp),zP x.Rr x.Rl (by simp),zP x.Rr x.Rw (by simp),zP x.Rh x.Rl (by simp),zP x.Rh x.Rw (by simp),zP x.Rl x.Rw (by simp)⟩
theorem Chest.rowNe (x:Chest R H A s) {k:Int} (hk:k∈s.ks):A.ra k≠A.c/\A.ra k≠A.dx/\A.ra k≠A.r/\A.ra k≠A.h/\A.ra k≠A.l/\A.ra k≠A.w:=
 ⟨zP (x.Rrow k hk) x.Rc (by simp),zP (x.Rrow k hk) x.Rdx (by simp),zP (x.Rrow k hk) x.Rr (by simp),zP (x.Rrow k hk) x.Rh (by simp),zP (x.Rrow k hk) x.Rl (by simp),zP (x.Rrow k hk) x.Rw (by simp)⟩
theorem Chest.willNe (x:Chest R H A s) {k:Int} (hk:k∈s.ws):A.wa k≠A.c/\A.wa k≠A.dx/\A.wa k≠A.r/\A.wa k≠A.h/\A.wa k≠A.l/\A.wa k≠A.w:=
 ⟨zP (x.Rwill k hk) x.Rc (by simp),zP (x.Rwill k hk) x.Rdx (by simp),zP (x.Rwill k hk) x.Rr (by simp),zP (x.Rwill k hk) x.Rh (by simp),zP (x.Rwill k hk) x.Rl (by simp),zP (x.Rwill k hk) x.Rw (by simp)⟩

theorem Chest.setDx (x:Chest R H A s) (nb np:Int):Chest R (H.set A.dx (.ns [(0,.int nb),(1,.int np),(2,.ref A.r),(3,.ref A.h),(4,.ref A.l),(5,.ref A.w)])) A { s with nb:=nb,np:=np }:=by
 obtain ⟨n1,n2,n3,n4,n5,n6,n7,n8,n9,n10,n11,n12,n13,n14,n15⟩:=x.ne
 refine ⟨?_,AH.set_self ..,?_,?_,?_,?_,λ k hk=>?_,λ k hk=>?_,x.Rc,x.Rdx,x.Rr,x.Rh,x.Rl,x.Rw,x.Rrow,x.Rwill⟩
 ·rw [AH.set_ne _ _ n1];exact x.c
 ·rw [AH.set_ne _ _ n6.symm];exact x.r
 ·rw [AH.set_ne _ _ n7.symm];exact x.h
 ·rw [AH.set_ne _ _ n8.symm];exact x.l
 ·rw [AH.set_ne _ _ n9.symm];exact x.w
 ·rw [AH.set_ne _ _ (x.rowNe hk).2.1];exact x.row k hk
 ·rw [AH.set_ne _ _ (x.willNe hk).2.1];exact x.will k hk
theorem Chest.setH (x:Chest R H A s) (hs:List Int) (ep:Nat):Chest R (H.set A.h (.dict (dOf hs λ z_=>.bool true) ep)) A { s with hs:=hs }:=by
 obtain ⟨n1,n2,n3,n4,n5,n6,n7,n8,n9,n10,n11,n12,n13,n14,n15⟩:=x.ne
 refine ⟨?_,?_,?_,⟨ep,AH.set_self ..⟩,?_,?_,λ k hk=>?_,λ k hk=>?_,x.Rc,x.Rdx,x.Rr,x.Rh,x.Rl,x.Rw,x.Rrow,x.Rwill⟩
 ·rw [AH.set_ne _ _ n3];exact x.c
 ·rw [AH.set_ne _ _ n7];exact x.dx
 ·rw [AH.set_ne _ _ n10];exact x.r
 ·rw [AH.set_ne _ _ n13.symm];exact x.l
 ·rw [AH.set_ne _ _ n14.symm];exact x.w
 ·rw [AH.set_ne _ _ (x.rowNe hk).2.2.2.1];exact x.row k hk
 ·rw [AH.set_ne _ _ (x.willNe hk).2.2.2.1];exact x.will k hk
theorem Chest.setL (x:Chest R H A s) (ls:List Int) (link:Int->Int×Int×Int) (ep:Nat):Chest R (H.set A.l (.dict (dOf ls λ k=>zw (link k)) ep)) A { s with ls:=ls,link:=link }:=by
 obtain ⟨n1,n2,n3,n4,n5,n6,n7,n8,n9,n10,n11,n12,n13,n14,n15⟩:=x.ne
 refine ⟨?_,?_,?_,?_,⟨ep,AH.set_self ..⟩,?_,λ k hk=>?_,λ k hk=>?_,x.Rc,x.Rdx,x.Rr,x.Rh,x.Rl,x.Rw,x.Rrow,x.Rwill⟩
 ·rw [AH.set_ne _ _ n4];exact x.c
 ·rw [AH.set_ne _ _ n8];exact x.dx
 ·rw [AH.set_ne _ _ n11];exact x.r
 ·rw [AH.set_ne _ _ n13];exact x.h
 ·rw [AH.set_ne _ _ n15.symm];exact x.w
 ·rw [AH.set_ne _ _ (x.rowNe hk).2.2.2.2.1];exact x.row k hk
 ·rw [AH.set_ne _ _ (x.willNe hk).2.2.2.2.1];exact x.will k hk
theorem Chest.setW (x:Chest R H A s) {R':RM} (hR:∀ a,H a≠.none->R a≠.none->R' a=R a) (ws:List Int) (will:Int->List Deed) (wa:Int->Nat) (ep:Nat) (hw:∀ k∈ws,H (wa k)=some (.list ((will k).map Deed.av))/\R' (wa k)=some (7,k)):Chest R' (H.set A.w (.dict (dOf ws λ k=>.ref (wa k)) ep)) { A with wa:=wa } { s with ws:=ws,will:=will }:=by
 obtain ⟨n1,n2,n3,n4,n5,n6,n7,n8,n9,n10,n11,n12,n13,n14,n15⟩:=x.ne
 obtain ⟨er,hr⟩:=x.r
 obtain ⟨eh,hh⟩:=x.h
 obtain ⟨el,hl⟩:=x.l
 obtain ⟨ew,hhw⟩:=x.w
 have rr:∀ {a:Nat} {o:AO} {y:Nat×Int},H a=some o->R a=some y->R' a=some y:=λ {a o y} e r=>(hR a (by rw [e];simp) (by rw [r];simp)).trans r
 have Rw':=rr hhw x.Rw
 refine ⟨?_,?_,?_,?_,?_,⟨ep,AH.set_self ..⟩,λ k hk=>?_,λ k hk=>?_,rr x.c x.Rc,rr x.dx x.Rdx,rr hr x.Rr,rr hh x.Rh,rr hl x.Rl,Rw',λ k hk=>rr (x.row k hk) (x.Rrow k hk),λ k hk=>(hw k hk).2⟩
 ·rw [AH.set_ne _ _ n5];exact x.c
 ·rw [AH.set_ne _ _ n9];exact x.dx
 ·rw [AH.set_ne _ _ n12];exact x.r
 ·rw [AH.set_ne _ _ n14];exact x.h
 ·rw [AH.set_ne _ _ n15];exact x.l
 ·rw [AH.set_ne _ _ (x.rowNe hk).2.2.2.2.2];exact x.row k hk
 ·rw [AH.set_ne]
  ·exact (hw k hk).1
  ·exact zP (hw k hk).2 Rw' (by simp)
theorem Chest.setR (x:Chest R H A s) {R':RM} (hR:∀ a,H a≠.none->R a≠.none->R' a=R a) (ks:List Int) (row:Int->List Slot) (ra:Int->Nat) (ep:Nat) (hw:∀ k∈ks,H (ra k)=some (.list ((row k).map zL))/\R' (ra k)=some (6,k)):Chest R' (H.set A.r (.dict (dOf ks λ k=>.ref (ra k)) ep)) { A with ra:=ra } { s with ks:=ks,row:=row }:=by
 obtain ⟨n1,n2,n3,n4,n5,n6,n7,n8,n9,n10,n11,n12,n13,n14,n15⟩:=x.ne
 obtain ⟨er,hr⟩:=x.r
 obtain ⟨eh,hh⟩:=x.h
 obtain ⟨el,hl⟩:=x.l
 obtain ⟨ew,hhw⟩:=x.w
 have rr:∀ {a:Nat} {o:AO} {y:Nat×Int},H a=some o->R a=some y->R' a=some y:=λ {a o y} e r=>(hR a (by rw [e];simp) (by rw [r];simp)).trans r
 have Rr':=rr hr x.Rr
 refine ⟨?_,?_,⟨ep,AH.set_self ..⟩,?_,?_,?_,λ k hk=>?_,λ k hk=>?_,rr x.c x.Rc,rr x.dx x.Rdx,Rr',rr hh x.Rh,rr hl x.Rl,rr hhw x.Rw,λ k hk=>(hw k hk).2,λ k hk=>rr (x.will k hk) (x.Rwill k hk)⟩
 ·rw [AH.set_ne _ _ n2];exact x.c
 ·rw [AH.set_ne _ _ n6];exact x.dx
 ·rw [AH.set_ne _ _ n10.symm];exact x.h
 ·rw [AH.set_ne _ _ n11.symm];exact x.l
 ·rw [AH.set_ne _ _ n12.symm];exact x.w
 ·rw [AH.set_ne]
  ·exact (hw k hk).1
  ·exact zP (hw k hk).2 Rr' (by simp)
 ·rw [AH.set_ne _ _ (x.willNe hk).2.2.1];exact x.will k hk
theorem Chest.setRow (x:Chest R H A s) {b:Int} (hb:b∈s.ks) (l:List Slot):Chest R (H.set (A.ra b) (.list (l.map zL))) A { s with row:=upd s.row b l }:=by
 obtain ⟨m1,m2,m3,m4,m5,m6⟩:=x.rowNe hb
 refine ⟨?_,?_,?_,?_,?_,?_,λ k hk=>?_,λ k hk=>?_,x.Rc,x.Rdx,x.Rr,x.Rh,x.Rl,x.Rw,x.Rrow,x.Rwill⟩
 ·rw [AH.set_ne _ _ m1.symm];exact x.c
 ·rw [AH.set_ne _ _ m2.symm];exact x.dx
 ·rw [AH.set_ne _ _ m3.symm];exact x.r
 ·rw [AH.set_ne _ _ m4.symm];exact x.h
 ·rw [AH.set_ne _ _ m5.symm];exact x.l
 ·rw [AH.set_ne _ _ m6.symm];exact x.w
 ·by_cases q:k=b
  ·subst q;rw [AH.set_self];simp [upd]
  ·rw [AH.set_ne _ _ (zP (x.Rrow k hk) (x.Rrow b hb) (by simp [q]))]
   simp only [upd,if_neg q];exact x.row k hk
 ·rw [AH.set_ne _ _ (zP (x.Rwill k hk) (x.Rrow b hb) (by simp))];exact x.will k hk
end
section
variable {C:Calls} {r:ISs} {m:Loc} {H:AH} {Q:Fl->Loc->AH->Prop} {X:Nat->Loc->AH->Prop}

theorem ite_t {b:Bool} {t e:ISs} (hb:b=true) (w:WSs C t m H Q X):WSs C (cond b t e) m H Q X:=by subst hb;exact w
theorem ite_f {b:Bool} {t e:ISs} (hb:b=false) (w:WSs C e m H Q X):WSs C (cond b t e) m H Q X:=by subst hb;exact w
theorem ite_n {b:Bool} {t:ISs} (hb:b=false) (w:WSs C r m H Q X):WSs C (cond b t .nil) m H (λ f m H=>match f with | .next=>WSs C r m H Q X | .ret v=>Q (.ret v) m H) X:=by subst hb;exact w
theorem nil_v (w:Q .next m H):WSs C .nil m H Q X:=w
theorem gg {x:Nat} {e:IE} (h:∀ K:AV->AH->Prop,(∀ v H',WSs C r (m.set x (some v)) H' Q X->K v H')->WE C (λ c H=>X c m H) e m H K):WSs C (.cons (.asg x e) r) m H Q X:=h _ λ z_ z_ w=>w
theorem ex_g {e:IE} (h:∀ K:AV->AH->Prop,(∀ v H',WSs C r m H' Q X->K v H')->WE C (λ c H=>X c m H) e m H K):WSs C (.cons (.ex e) r) m H Q X:=h _ λ z_ z_ w=>w
theorem ret_g {e:IE} (h:∀ K:AV->AH->Prop,(∀ v H',Q (.ret v) m H'->K v H')->WE C (λ c H=>X c m H) e m H K):WSs C (.cons (.ret e) r) m H Q X:=h _ λ z_ z_ w=>w
theorem sit_g {o i e:IE} (h:∀ K:AH->Prop,(∀ H',WSs C r m H' Q X->K H')->WE C (λ c H=>X c m H) e m H λ v H=>WE C (λ c H=>X c m H) o m H λ a H=>WE C (λ c H=>X c m H) i m H λ k H=>wSit a k v H K):WSs C (.cons (.sit o i e) r) m H Q X:=h _ λ z_ w=>w
theorem for_g {t:Tg} {it:II} {b:ISs} (h:∀ K:Src->AH->Prop,(∀ src H',forL src.ok (zz t) (λ m H Q=>WSs C b m H Q X) src.items m H' (λ f m H=>match f with | .next=>WSs C r m H Q X | .ret v=>Q (.ret v) m H)->K src H')->WI C (λ c H=>X c m H) it m H K):WSs C (.cons (.for t it b) r) m H Q X:=h _ λ z_ z_ w=>w
theorem ite_g {c:IT} {t e:ISs} (h:∀ K:Bool->AH->Prop,(∀ b H',WSs C (cond b t e) m H' (λ f m H=>match f with | .next=>WSs C r m H Q X | .ret v=>Q (.ret v) m H) X->K b H')->WT C (λ c H=>X c m H) c m H K):WSs C (.cons (.ite c t e) r) m H Q X:=by
 refine h _ λ b H' w=>?_
 cases b<;>exact w
end
noncomputable abbrev fq (Q:AV->AH->Prop):Fl->Loc->AH->Prop:=λ fl z_ H=>match fl with | .ret v=>Q v H | .next=>Q .none H
noncomputable abbrev x0 (X:Nat->AH->Prop):Nat->Loc->AH->Prop:=λ c z_ H=>X c H
noncomputable abbrev xq (X:Nat->Loc->AH->Prop) (m:Loc):Nat->AH->Prop:=λ c H=>X c m H
noncomputable abbrev sq (C:Calls) (r:ISs) (Q:Fl->Loc->AH->Prop) (X:Nat->Loc->AH->Prop):Fl->Loc->AH->Prop:=λ f m H=>match f with | .next=>WSs C r m H Q X | .ret v=>Q (.ret v) m H
noncomputable abbrev lq (J:Loc->AH->Prop) (K:AV->Loc->AH->Prop):Fl->Loc->AH->Prop:=λ f m H=>match f with | .next=>J m H | .ret x=>K x m H
noncomputable def aq (C:Calls) (r:ISs) (m:Loc) (x:Nat) (Q:Fl->Loc->AH->Prop) (X:Nat->Loc->AH->Prop):AV->AH->Prop:=λ v H=>WSs C r (m.set x (some v)) H Q X
noncomputable abbrev rq (m:Loc) (Q:Fl->Loc->AH->Prop):AV->AH->Prop:=λ v H=>Q (.ret v) m H
noncomputable abbrev eq0 (C:Calls) (r:ISs) (m:Loc) (Q:Fl->Loc->AH->Prop) (X:Nat->Loc->AH->Prop):AV->AH->Prop:=λ z_ H=>WSs C r m H Q X
noncomputable def iq (C:Calls) (t e r:ISs) (m:Loc) (Q:Fl->Loc->AH->Prop) (X:Nat->Loc->AH->Prop):Bool->AH->Prop:=λ b H=>match b with | true=>WSs C t m H (sq C r Q X) X | false=>WSs C e m H (sq C r Q X) X
noncomputable abbrev gq (C:Calls) (b:ISs) (X:Nat->Loc->AH->Prop):Loc->AH->(Fl->Loc->AH->Prop)->Prop:=λ m H Q=>WSs C b m H Q X
noncomputable abbrev nq (K:AV->AH->Prop):List AV->AH->Prop:=λ vs H=>newL vs H K
noncomputable abbrev tq (K:AV->AH->Prop):List AV->AH->Prop:=λ vs H=>K (.tup vs) H
noncomputable abbrev cq (C:Calls) (f:Nat) (K:AV->AH->Prop) (X:Nat->AH->Prop):List AV->AH->Prop:=λ vs H=>C f vs H K X
noncomputable abbrev uq (b:Bi) (K:AV->AH->Prop):AV->AH->Prop:=λ v H=>wBi1 b v H K
noncomputable abbrev vq (v:AV) (K:List AV->AH->Prop):List AV->AH->Prop:=λ vs H=>K (v::vs) H
noncomputable abbrev wq (C:Calls) (X:Nat->AH->Prop) (l:IEs) (m:Loc) (K:List AV->AH->Prop):AV->AH->Prop:=λ v H=>WEs C X l m H (vq v K)
noncomputable abbrev bq (o:Op) (x:AV) (K:AV->AH->Prop):AV->AH->Prop:=λ y H=>wBin o x y H K
noncomputable abbrev bq0 (C:Calls) (X:Nat->AH->Prop) (o:Op) (i:IE) (m:Loc) (K:AV->AH->Prop):AV->AH->Prop:=λ x H=>WE C X i m H (bq o x K)
noncomputable abbrev dq (o:Cm) (x:AV) (K:AV->AH->Prop):AV->AH->Prop:=λ y H=>wCmp o x y H K
noncomputable abbrev dq0 (C:Calls) (X:Nat->AH->Prop) (o:Cm) (i:IE) (m:Loc) (K:AV->AH->Prop):AV->AH->Prop:=λ x H=>WE C X i m H (dq o x K)
noncomputable abbrev jq (x:AV) (K:AV->AH->Prop):AV->AH->Prop:=λ y H=>wIdx x y H K
noncomputable abbrev jq0 (C:Calls) (X:Nat->AH->Prop) (i:IE) (m:Loc) (K:AV->AH->Prop):AV->AH->Prop:=λ x H=>WE C X i m H (jq x K)
noncomputable abbrev oq (K:Bool->AH->Prop):Bool->AH->Prop:=λ b H=>K (!b) H
noncomputable abbrev kA (C:Calls) (X:Nat->AH->Prop) (c:ITs):Loc->AH->(Bool->AH->Prop)->Prop:=λ m H Q=>WTAnd C X c m H Q
noncomputable abbrev kE (C:Calls) (X:Nat->AH->Prop) (e:IE):Loc->AH->(AV->AH->Prop)->Prop:=λ m H Q=>WE C X e m H Q
noncomputable abbrev mq (C:Calls) (X:Nat->AH->Prop) (t:Tg) (c:ITs) (i:IE) (m:Loc) (K:AV->AH->Prop):Src->AH->Prop:=λ src H=>wQ src.ok (zz t) (kA C X c) (kE C X i) src.items (xL t m) H [] (nq K)
noncomputable abbrev hq (C:Calls) (t:Tg) (b r:ISs) (m:Loc) (Q:Fl->Loc->AH->Prop) (X:Nat->Loc->AH->Prop):Src->AH->Prop:=λ src H=>forL src.ok (zz t) (gq C b X) src.items m H (sq C r Q X)
noncomputable abbrev loc0 (k:Nat) (vs:List AV):Loc:=vs.map some++List.replicate k .none
theorem zR {P:Nat->Option IFn} {n f a k:Nat} {b:ISs} {vs:List AV} {H:AH} {Q:AV->AH->Prop} {X:Nat->AH->Prop} (h:P f=some ⟨a,k,b⟩) (hl:vs.length=a)
  (w:let C:=CN P n;let Q':=fq Q;let X':=x0 X;let m:=loc0 (k - a) vs;WSs C b m H Q' X'):CN P (n+1) f vs H Q X:=by
 unfold CN
 rw [h]
 exact ⟨hl,w⟩
noncomputable def jO:List (Nat×AV)->Nat->Option AV
 | [],_=>.none
 | p::r,n=>cond (Nat.beq p.1 n) (some p.2) (jO r n)
theorem jP {ks:List Int} {f:Int->AV} {k:Int} {w:AV} (h:k∈ks):(dget (dOf ks f) k).getD w=f k:=by rw [zY h];rfl
theorem jQ {ks:List Int} {f:Int->AV} {k:Int} {w:AV} (h:k∉ks):(dget (dOf ks f) k).getD w=w:=by rw [tN h];rfl
theorem jR (f:List (Nat×AV)):∀ (n:Nat),nget f n=jO f n:=by
 induction f with
 | nil=>
  intro _
  exact rfl
 | cons p r ih_=>
  intro n
  have ih:=ih_ n
  unfold nget at ih |-
  rw [List.find?_cons]
  unfold jO
  by_cases h:p.1=n
  ·have:Nat.beq p.1 n=true:=Nat.beq_eq.mpr h
   simp [h]
  ·have h2:Nat.beq p.1 n=false:=by cases q:Nat.beq p.1 n;rfl;exact absurd (Nat.eq_of_beq_eq_true q) h
   simp only [h,h2,decide_false]
   exact ih
theorem nset0 (a b c d e f v:AV):nset [(0,a),(1,b),(2,c),(3,d),(4,e),(5,f)] 0 v=[(0,v),(1,b),(2,c),(3,d),(4,e),(5,f)]:=rfl
theorem nset1 (a b c d e f v:AV):nset [(0,a),(1,b),(2,c),(3,d),(4,e),(5,f)] 1 v=[(0,a),(1,v),(2,c),(3,d),(4,e),(5,f)]:=rfl
structure Ev (e:IE) (m:Loc) (H:AH) (v:AV):Prop where
 run:∀ C X K,K v H->WE C X e m H K
structure Evs (l:IEs) (m:Loc) (H:AH) (vs:List AV):Prop where
 run:∀ C X K,K vs H->WEs C X l m H K
structure EvA (l:IEs) (m:Loc) (H:AH) (v:AV):Prop where
 run:∀ C X K,K v H->WAnd C X l m H K
structure EvO (l:IEs) (m:Loc) (H:AH) (v:AV):Prop where
 run:∀ C X K,K v H->WOr C X l m H K
structure Et (t:IT) (m:Loc) (H:AH) (b:Bool):Prop where
 run:∀ C X K,K b H->WT C X t m H K
structure EtA (t:ITs) (m:Loc) (H:AH) (b:Bool):Prop where
 run:∀ C X K,K b H->WTAnd C X t m H K
structure EtO (t:ITs) (m:Loc) (H:AH) (b:Bool):Prop where
 run:∀ C X K,K b H->WTOr C X t m H K
structure Rd0 (f:(AV->AH->Prop)->Prop) (H:AH) (v:AV):Prop where
 run:∀ K:AV->AH->Prop,K v H->f K
theorem rng4 {a b c d:Prop} (h1:a) (h2:b) (h3:c) (h4:d):a/\b/\c/\d:=⟨h1,h2,h3,h4⟩
theorem ble_le {n m:Nat} (h:Nat.ble n m=true):n<=m:=Nat.le_of_ble_eq_true h
theorem rng0 {z:Nat} (h:z<=100000):-(2 ^ 60)<=(0:Int)/\(0:Int)<=2 ^ 60/\-(2 ^ 60)<=(z:Int)/\(z:Int) - 0<=lid:=by
 refine ⟨by decide,by decide,?_,?_⟩
 ·lia
 ·unfold lid;lia
section
variable {m:Loc} {H:AH} {a b c:IE} {v u w:AV} {x y z:Int} {r:Bool} {l:IEs} {o ep:Nat} {L:List AV} {D:List (Int×AV)}
theorem ev_cn:Ev .cn m H .none:=⟨λ z_ z_ z_ k=>k⟩
theorem ev_cb:Ev (.cb r) m H (.bool r):=⟨λ z_ z_ z_ k=>k⟩
theorem ev_ci:Ev (.ci x) m H (.int x):=⟨λ z_ z_ z_ k=>k⟩
theorem ev_cs {s:Str}:Ev (.cs s) m H (.str s):=⟨λ z_ z_ z_ k=>k⟩
theorem ev_var {i:Nat} (h:m[i]?=some (some v)):Ev (.var i) m H v:=by
 refine ⟨λ C X K k=>?_⟩
 show (match m[i]? with | some (some v)=>K v H | _=>False)
 rw [h];exact k
theorem ev_bin {o:Op} (p:Ev a m H u) (q:Ev b m H w) (h:Rd0 (wBin o u w H) H v):Ev (.bin o a b) m H v:=⟨λ z_ z_ z_ k=>p.run _ _ _ (q.run _ _ _ (h.run _ k))⟩
theorem bn_add:Rd0 (wBin .add (.int x) (.int y) H) H (.int (x+y)):=⟨λ z_ k=>k⟩
theorem bn_sub:Rd0 (wBin .sub (.int x) (.int y) H) H (.int (x - y)):=⟨λ z_ k=>k⟩
theorem bn_mulL (h:x.natAbs < 2 ^ 60):Rd0 (wBin .mul (.int x) (.int y) H) H (.int (x * y)):=⟨λ z_ k=>⟨.inl h,k⟩⟩
theorem bn_mulR (h:y.natAbs < 2 ^ 60):Rd0 (wBin .mul (.int x) (.int y) H) H (.int (x * y)):=⟨λ z_ k=>⟨.inr h,k⟩⟩
theorem bn_fdiv (h:y≠0/\y.natAbs < 2 ^ 30):Rd0 (wBin .fdiv (.int x) (.int y) H) H (.int (x.fdiv y)):=⟨λ z_ k=>⟨h,k⟩⟩
theorem bn_mod (h:y≠0):Rd0 (wBin .mod (.int x) (.int y) H) H (.int (x.fmod y)):=⟨λ z_ k=>⟨h,k⟩⟩
theorem bn_addT {M:List AV} (h:L.length+M.length<=lid):Rd0 (wBin .add (.tup L) (.tup M) H) H (.tup (L++M)):=⟨λ z_ k=>⟨h,k⟩⟩
theorem bn_addU {M:List AV} (hu:u=.tup L) (hw:w=.tup M) (h:L.length+M.length<=lid):Rd0 (wBin .add u w H) H (.tup (L++M)):=by subst hu;subst hw;exact bn_addT h
theorem ev_neg (p:Ev a m H (.int x)):Ev (.neg a) m H (.int (-x)):=⟨λ z_ z_ z_ k=>p.run _ _ _ k⟩
theorem ev_and (p:EvA l m H v):Ev (.and l) m H v:=⟨p.run⟩
theorem eva_1 (p:Ev a m H v):EvA (.cons a .nil) m H v:=⟨p.run⟩
theorem eva_t (p:Ev a m H (.bool r)) (h:r=true) (q:EvA (.cons b l) m H v):EvA (.cons a (.cons b l)) m H v:=by subst h;exact ⟨λ z_ z_ z_ k=>p.run _ _ _ (q.run _ _ _ k)⟩
theorem evo_1 (p:Ev a m H v):EvO (.cons a .nil) m H v:=⟨p.run⟩
theorem ev_cmp {o:Cm} (p:Ev a m H u) (q:Ev b m H w) (h:Rd0 (wCmp o u w H) H v):Ev (.cmp o a b) m H v:=⟨λ z_ z_ z_ k=>p.run _ _ _ (q.run _ _ _ (h.run _ k))⟩
theorem cm_lt (h:decide (x < y)=r):Rd0 (wCmp .lt (.int x) (.int y) H) H (.bool r):=h▸⟨λ z_ k=>k⟩
theorem cm_le (h:decide (x<=y)=r):Rd0 (wCmp .le (.int x) (.int y) H) H (.bool r):=h▸⟨λ z_ k=>k⟩
theorem cm_gt (h:decide (y < x)=r):Rd0 (wCmp .gt (.int x) (.int y) H) H (.bool r):=h▸⟨λ z_ k=>k⟩
theorem cm_ge (h:decide (y<=x)=r):Rd0 (wCmp .ge (.int x) (.int y) H) H (.bool r):=h▸⟨λ z_ k=>k⟩
theorem cm_eq {d e:PyData} (h1:zq H u=some d) (h2:zq H w=some e) (h3:min d.depth e.depth<=60) (h:PyData.eqv d e=r):Rd0 (wCmp .eq u w H) H (.bool r):=by
 refine ⟨λ K k=>?_⟩
 unfold wCmp;simp only [h1,h2];subst h;exact ⟨h3,k⟩
theorem cm_ne {d e:PyData} (h1:zq H u=some d) (h2:zq H w=some e) (h3:min d.depth e.depth<=60) (h:PyData.eqv d e=r):Rd0 (wCmp .ne u w H) H (.bool (!r)):=by
 refine ⟨λ K k=>?_⟩
 unfold wCmp;simp only [h1,h2];subst h;exact ⟨h3,k⟩
theorem cm_eqI (h:decide (x=y)=r):Rd0 (wCmp .eq (.int x) (.int y) H) H (.bool r):=cm_eq rfl rfl (Nat.le_of_ble_eq_true rfl) h
theorem cm_neI (h:decide (x=y)=r):Rd0 (wCmp .ne (.int x) (.int y) H) H (.bool (!r)):=cm_ne rfl rfl (Nat.le_of_ble_eq_true rfl) h
theorem cm_eqS {s:Str}:Rd0 (wCmp .eq (.str s) (.str s) H) H (.bool true):=cm_eq rfl rfl (Nat.le_of_ble_eq_true rfl) (beq_self_eq_true s:(s == s)=true)
theorem cm_neS {s t:Str} (h:(s == t)=false):Rd0 (wCmp .eq (.str s) (.str t) H) H (.bool false):=cm_eq rfl rfl (Nat.le_of_ble_eq_true rfl) h
theorem cm_isnt (h:isNone u=r):Rd0 (wCmp .isNot u .none H) H (.bool (!r)):=h▸⟨λ z_ k=>k⟩
theorem cm_in (h:wIn u w H=some r):Rd0 (wCmp .isIn u w H) H (.bool r):=by
 refine ⟨λ K k=>?_⟩
 unfold wCmp;simp only [h];exact k
theorem cm_nin (h:wIn u w H=some r):Rd0 (wCmp .notIn u w H) H (.bool (!r)):=by
 refine ⟨λ K k=>?_⟩
 unfold wCmp;simp only [h];exact k
theorem ev_attr {d n:Nat} {f:List (Nat×AV)} (p:Ev a m H (.ref o)) (h1:H o=some (.inst d)) (h2:H d=some (.ns f)) (h3:jO f n=some v):Ev (.attr a n) m H v:=by
 refine ⟨λ z_ z_ z_ k=>p.run _ _ _ (?_)⟩
 rw [<-jR] at h3
 show oT _ _ _ _
 unfold oT
 simp only [h1,h2,h3];exact k
theorem ev_idx (p:Ev a m H u) (q:Ev b m H w) (h:Rd0 (wIdx u w H) H v):Ev (.idx a b) m H v:=⟨λ z_ z_ z_ k=>p.run _ _ _ (q.run _ _ _ (h.run _ k))⟩
theorem ix_D (h1:H o=some (.dict D ep)) (h2:dget D x=some v):Rd0 (wIdx (.ref o) (.int x) H) H v:=⟨λ z_ k=>⟨x,v,rfl,k,.inr (.inl ⟨o,D,ep,rfl,h1,h2⟩)⟩⟩
theorem ix_L (h1:H o=some (.list L)) (h0:0<=x) (h2:L[x.toNat]?=some v):Rd0 (wIdx (.ref o) (.int x) H) H v:=⟨λ z_ k=>⟨x,v,rfl,k,.inl ⟨h0,L,h2,.inr (.inr ⟨o,rfl,h1⟩)⟩⟩⟩
theorem ix_T (h0:0<=x) (h2:L[x.toNat]?=some v):Rd0 (wIdx (.tup L) (.int x) H) H v:=⟨λ z_ k=>⟨x,v,rfl,k,.inl ⟨h0,L,h2,.inr (.inl rfl)⟩⟩⟩
theorem ix_U (hu:u=.tup L) (h0:0<=x) (h2:L[x.toNat]?=some v):Rd0 (wIdx u (.int x) H) H v:=by subst hu;exact ix_T h0 h2
theorem ix_F (h0:0<=x) (h2:L[x.toNat]?=some v):Rd0 (wIdx (.fro L) (.int x) H) H v:=⟨λ z_ k=>⟨x,v,rfl,k,.inl ⟨h0,L,h2,.inl rfl⟩⟩⟩
theorem ev_bi1 {bi:Bi} (p:Ev a m H u) (h:Rd0 (wBi1 bi u H) H v):Ev (.bi bi (.cons a .nil)) m H v:=⟨λ z_ z_ z_ k=>p.run _ _ _ (h.run _ k)⟩
theorem bi_lenF:Rd0 (wBi1 .len (.fro L) H) H (.int L.length):=⟨λ z_ k=>k⟩
theorem bi_lenL (h:H o=some (.list L)):Rd0 (wBi1 .len (.ref o) H) H (.int L.length):=by
 refine ⟨λ K k=>?_⟩
 show wLen (.ref o) H K
 unfold wLen;simp only [h];exact k
theorem bi_lenD (h:H o=some (.dict D ep)):Rd0 (wBi1 .len (.ref o) H) H (.int D.length):=by
 refine ⟨λ K k=>?_⟩
 show wLen (.ref o) H K
 unfold wLen;simp only [h];exact k
theorem bi_min {y:Int} {t:List Int} (h:H o=some (.list L)) (h2:z4 L=some (x::t)) (h3:yU x t=y):Rd0 (wBi1 .min (.ref o) H) H (.int y):=by
 refine ⟨λ K k=>?_⟩
 show wMin (.ref o) H K
 unfold wMin;simp only [h,h2];subst h3;exact k
theorem bi_lenS {s:Str} (h:s.length<=2 ^ 40):Rd0 (wBi1 .len (.str s) H) H (.int s.length):=⟨λ z_ k=>⟨h,k⟩⟩
theorem bi_strI (h:x.natAbs < 10 ^ 10):Rd0 (wBi1 .str (.int x) H) H (.str (Str.ofString (toString x))):=⟨λ z_ k=>⟨h,k⟩⟩
theorem bi_strS {s:Str}:Rd0 (wBi1 .str (.str s) H) H (.str s):=⟨λ z_ k=>k⟩
theorem bi_tup (h:H o=some (.list L)):Rd0 (wBi1 .tuple (.ref o) H) H (.tup L):=by
 refine ⟨λ K k=>?_⟩
 show td (.ref o) H K
 unfold td;simp only [h];exact k
theorem bi_intS {s:Str} (h:intText? s=some x) (h2:s.length<=640):Rd0 (wBi1 .int (.str s) H) H (.int x):=by
 refine ⟨λ K k=>?_⟩
 show oS (.str s) H K
 unfold oS;simp only [h];exact ⟨h2,k⟩
theorem ix_S {s:Str} {c:Nat} (h0:0<=x/\x < 2 ^ 40) (h2:s.cps[x.toNat]?=some c):Rd0 (wIdx (.str s) (.int x) H) H (.str ⟨#[c]⟩):=⟨λ z_ k=>⟨x,_,rfl,k,.inr (.inr ⟨h0,s,c,rfl,h2,rfl⟩)⟩⟩
theorem jS (h:l6 H u w) (h1:zq H u=.none):Rd0 (wCmp .ne u w H) H (.bool false):=by
 refine ⟨λ K k=>?_⟩
 unfold wCmp;simp only [h1];exact ⟨h,k⟩
theorem bi_int:Rd0 (wBi1 .int (.bool r) H) H (.int (if r then 1 else 0)):=⟨λ z_ k=>k⟩
theorem ev_inst {t:Ty} (p:Ev a m H u) (h:isOf u t H=some r):Ev (.isinst a t) m H (.bool r):=by
 refine ⟨λ C X K k=>?_⟩
 refine p.run _ _ _ ?_
 simp only [h];exact k
theorem ev_tup {vs:List AV} (p:Evs l m H vs):Ev (.tup l) m H (.tup vs):=⟨λ z_ z_ z_ k=>p.run _ _ _ k⟩
theorem ev_slice {e1 e2 e3:IE} {v1 v2 v3:AV} {M:List AV} (p:Ev a m H (.tup L)) (p1:Ev e1 m H v1) (p2:Ev e2 m H v2) (p3:Ev e3 m H v3) (h:xK L v1 v2 v3=some M):Ev (.slice a e1 e2 e3) m H (.tup M):=⟨λ C X K k=>p.run _ _ _ (p1.run _ _ _ (p2.run _ _ _ (p3.run _ _ _ ⟨L,M,h,.inl ⟨rfl,k⟩⟩)))⟩
theorem evs_nil:Evs .nil m H []:=⟨λ z_ z_ z_ k=>k⟩
theorem evs_cons {vs:List AV} (p:Ev a m H v) (q:Evs l m H vs):Evs (.cons a l) m H (v::vs):=⟨λ z_ z_ z_ k=>p.run _ _ _ (q.run _ _ _ k)⟩
theorem et_val (p:Ev a m H (.bool r)):Et (.val a) m H r:=⟨λ z_ z_ z_ k=>p.run _ _ _ k⟩
theorem et_not {t:IT} (p:Et t m H r):Et (.not t) m H (!r):=⟨λ z_ z_ z_ k=>p.run _ _ _ k⟩
theorem et_or {l:ITs} (p:EtO l m H r):Et (.or l) m H r:=⟨p.run⟩
theorem et_and {l:ITs} (p:EtA l m H r):Et (.and l) m H r:=⟨p.run⟩
theorem eto_f {t:IT} {l:ITs} {b:Bool} (p:Et t m H b) (h:b=false) (q:EtO l m H r):EtO (.cons t l) m H r:=by subst h;exact ⟨λ z_ z_ z_ k=>p.run _ _ _ (q.run _ _ _ k)⟩
theorem eto_1 {t:IT} (p:Et t m H r):EtO (.cons t .nil) m H r:=⟨λ z_ z_ z_ k=>p.run _ _ _ (by cases r<;>exact k)⟩
theorem eta_t {t:IT} {l:ITs} {b:Bool} (p:Et t m H b) (h:b=true) (q:EtA l m H r):EtA (.cons t l) m H r:=by subst h;exact ⟨λ z_ z_ z_ k=>p.run _ _ _ (q.run _ _ _ k)⟩
theorem eta_f {t:IT} {l:ITs} {b:Bool} (p:Et t m H b) (h:b=false):EtA (.cons t l) m H false:=by subst h;exact ⟨λ z_ z_ z_ k=>p.run _ _ _ k⟩
theorem eta_b {t:IT} {l:ITs} {b:Bool} (p:Et t m H b) (q:EtA l m H r):EtA (.cons t l) m H (b&&r):=by
 cases b
 ·exact ⟨λ z_ z_ z_ k=>p.run _ _ _ k⟩
 ·exact ⟨λ z_ z_ z_ k=>p.run _ _ _ (q.run _ _ _ k)⟩
theorem eto_b {t:IT} {l:ITs} {b:Bool} (p:Et t m H b) (q:EtO l m H r):EtO (.cons t l) m H (b||r):=by
 cases b
 ·exact ⟨λ z_ z_ z_ k=>p.run _ _ _ (q.run _ _ _ k)⟩
 ·exact ⟨λ z_ z_ z_ k=>p.run _ _ _ k⟩
theorem eta_1 {t:IT} (p:Et t m H r):EtA (.cons t .nil) m H r:=⟨λ z_ z_ z_ k=>p.run _ _ _ (by cases r<;>exact k)⟩
end
section
variable {C:Calls} {r:ISs} {m:Loc} {H:AH} {Q:Fl->Loc->AH->Prop} {X:Nat->Loc->AH->Prop} {x f:Nat} {e i o:IE} {v u w:AV} {l:IEs} {vs:List AV} {k:Int} {a d n ep:Nat} {L:List AV} {D:List (Int×AV)} {F:List (Nat×AV)}
theorem s_asg (p:Ev e m H v) (q:WSs C r (m.set x (some v)) H Q X):WSs C (.cons (.asg x e) r) m H Q X:=p.run _ _ _ q
theorem s_ret (p:Ev e m H v) (q:Q (.ret v) m H):WSs C (.cons (.ret e) r) m H Q X:=p.run _ _ _ q
theorem s_ite {c:IT} {t e:ISs} {b:Bool} (p:Et c m H b)
  (q:WSs C (cond b t e) m H (sq C r Q X) X):WSs C (.cons (.ite c t e) r) m H Q X:=by
 refine p.run _ _ _ ?_
 cases b<;>exact q
theorem s_iff {c:IT} {t:ISs} {b:Bool} (p:Et c m H b) (h:b=false) (q:WSs C r m H Q X):WSs C (.cons (.ite c t .nil) r) m H Q X:=by subst h;exact p.run _ _ _ q
theorem s_nil (q:WSs C r m H Q X):WSs C .nil m H (sq C r Q X) X:=q
theorem aq_in (q:let m':=m.set x (some v);WSs C r m' H Q X):aq C r m x Q X v H:=q
theorem asg_n (q:WE C (xq X m) e m H (aq C r m x Q X)):WSs C (.cons (.asg x e) r) m H Q X:=q
theorem ret_n (q:WE C (xq X m) e m H (rq m Q)):WSs C (.cons (.ret e) r) m H Q X:=q
theorem ex_n (q:WE C (xq X m) e m H (eq0 C r m Q X)):WSs C (.cons (.ex e) r) m H Q X:=q
theorem ite_q {c:IT} {t e:ISs} (q:WT C (xq X m) c m H (iq C t e r m Q X)):WSs C (.cons (.ite c t e) r) m H Q X:=q
theorem op_iq {t e:ISs} {b:Bool} (q:WSs C (cond b t e) m H (sq C r Q X) X):iq C t e r m Q X b H:=by cases b<;>exact q
theorem for_n {t:Tg} {it:II} {b:ISs} (q:WI C (xq X m) it m H (hq C t b r m Q X)):WSs C (.cons (.for t it b) r) m H Q X:=q
theorem s_sat {G:List (Nat×AV)} (p:Ev e m H v) (q:Ev o m H (.ref a)) (h1:H a=some (.inst d)) (h2:H d=some (.ns F)) (h3:nset F n v=G) (s:WSs C r m (H.set d (.ns G)) Q X):WSs C (.cons (.sat o n e) r) m H Q X:=by
 refine p.run _ _ _ (q.run _ _ _ ?_)
 subst h3
 unfold wSat;simp only [h1,h2];exact s
theorem s_sitD (p:Ev e m H v) (q:Ev o m H (.ref a)) (s:Ev i m H (.int k)) (h:H a=some (.dict D ep)) (t:D.length < lid/\∀ ep,WSs C r m (H.set a (.dict (dset D k v) ep)) Q X):WSs C (.cons (.sit o i e) r) m H Q X:=by
 refine p.run _ _ _ (q.run _ _ _ (s.run _ _ _ ?_))
 unfold wSit;simp only [h];exact t
theorem s_sitL (p:Ev e m H v) (q:Ev o m H (.ref a)) (s:Ev i m H (.int k)) (h:H a=some (.list L)) (t:(0<=k/\k < L.length)/\WSs C r m (H.set a (.list (L.set k.toNat v))) Q X):WSs C (.cons (.sit o i e) r) m H Q X:=by
 refine p.run _ _ _ (q.run _ _ _ (s.run _ _ _ ?_))
 unfold wSit;simp only [h];exact t
theorem s_asgC (p:Evs l m H vs) (q:C f vs H (aq C r m x Q X) (xq X m)):WSs C (.cons (.asg x (.call f l)) r) m H Q X:=p.run _ _ _ q
theorem s_exC (p:Evs l m H vs) (q:C f vs H (eq0 C r m Q X) (xq X m)):WSs C (.cons (.ex (.call f l)) r) m H Q X:=p.run _ _ _ q
theorem we_meth {Y:Nat->AH->Prop} {K:AV->AH->Prop} (p:Ev e m H (.ref a)) (h1:H a=some (.inst d)) (h2:H d=some (.ns F)) (h3:4<=n) (q:Evs l m H vs) (s:C n (.ref a::vs) H K Y):WE C Y (.meth e n l) m H K:=by
 refine p.run _ _ _ ?_
 have:¬ n < 4:=by lia
 have hk:kdOf n (.ref a) H=some .inst:=by simp [kdOf,h1,h2,this]
 simp only [hk]
 refine q.run _ _ _ ⟨hk,?_⟩
 unfold xd;simp only [h1];exact s
theorem s_asgM (p:Ev e m H (.ref a)) (h1:H a=some (.inst d)) (h2:H d=some (.ns F)) (h3:4<=n) (q:Evs l m H vs) (s:C n (.ref a::vs) H (aq C r m x Q X) (xq X m)):WSs C (.cons (.asg x (.meth e n l)) r) m H Q X:=we_meth p h1 h2 h3 q s
theorem s_retM (p:Ev e m H (.ref a)) (h1:H a=some (.inst d)) (h2:H d=some (.ns F)) (h3:4<=n) (q:Evs l m H vs) (s:C n (.ref a::vs) H (rq m Q) (xq X m)):WSs C (.cons (.ret (.meth e n l)) r) m H Q X:=we_meth p h1 h2 h3 q s
theorem s_exM (p:Ev e m H (.ref a)) (h1:H a=some (.inst d)) (h2:H d=some (.ns F)) (h3:4<=n) (q:Evs l m H vs) (s:C n (.ref a::vs) H (eq0 C r m Q X) (xq X m)):WSs C (.cons (.ex (.meth e n l)) r) m H Q X:=we_meth p h1 h2 h3 q s
theorem s_app (p:Ev e m H (.ref a)) (h:H a=some (.list L)) (q:Ev i m H v) (s:L.length < lid/\WSs C r m (H.set a (.list (L++[v]))) Q X):WSs C (.cons (.ex (.meth e 0 (.cons i .nil))) r) m H Q X:=by
 refine p.run _ _ _ ?_
 have hk:kdOf 0 (.ref a) H=some .list:=by simp [kdOf,h]
 simp only [hk]
 refine q.run _ _ _ ⟨hk,?_⟩
 unfold xd;simp only [h];exact s
theorem s_appF (p:Ev e m H (.ref a)) (h:H a=some (.list L)) (q:Ev i m H v) (h0:L.length < lid) (s:WSs C r m (H.set a (.list (L++[v]))) Q X):WSs C (.cons (.ex (.meth e 0 (.cons i .nil))) r) m H Q X:=s_app p h q ⟨h0,s⟩
theorem zf {b:Bool} {t e:ISs} (h1:b=true->WSs C t m H Q X) (h2:b=false->WSs C e m H Q X):WSs C (cond b t e) m H Q X:=by
 cases b
 ·exact h2 rfl
 ·exact h1 rfl
theorem s_pop (p:Ev e m H (.ref a)) (h:H a=some (.dict D ep)) (q:Ev i m H (.int k)) (h2:dget D k=some v) (s:∀ ep,WSs C r m (H.set a (.dict (ddel D k) ep)) Q X):WSs C (.cons (.ex (.meth e 1 (.cons i .nil))) r) m H Q X:=by
 refine p.run _ _ _ ?_
 have hk:kdOf 1 (.ref a) H=some .dict:=by simp [kdOf,h]
 simp only [hk]
 refine q.run _ _ _ ⟨hk,?_⟩
 unfold xd;simp only [h]
 show (match dget D k with | some _=>_ | .none=>False)
 rw [h2];exact s
theorem s_popY {j:IE} (p:Ev e m H (.ref a)) (h:H a=some (.dict D ep)) (q:Ev i m H (.int k)) (q2:Ev j m H u) (h2:dget D k=some v) (s:∀ ep,WSs C r m (H.set a (.dict (ddel D k) ep)) Q X):WSs C (.cons (.ex (.meth e 1 (.cons i (.cons j .nil)))) r) m H Q X:=by
 refine p.run _ _ _ ?_
 have hk:kdOf 1 (.ref a) H=some .dict:=by simp [kdOf,h]
 simp only [hk]
 refine q.run _ _ _ (q2.run _ _ _ ⟨hk,?_⟩)
 unfold xd;simp only [h]
 show (match dget D k with | some _=>_ | .none=>_)
 rw [h2];exact s
theorem s_popN {j:IE} (p:Ev e m H (.ref a)) (h:H a=some (.dict D ep)) (q:Ev i m H (.int k)) (q2:Ev j m H u) (h2:dget D k=.none) (s:WSs C r m H Q X):WSs C (.cons (.ex (.meth e 1 (.cons i (.cons j .nil)))) r) m H Q X:=by
 refine p.run _ _ _ ?_
 have hk:kdOf 1 (.ref a) H=some .dict:=by simp [kdOf,h]
 simp only [hk]
 refine q.run _ _ _ (q2.run _ _ _ ⟨hk,?_⟩)
 unfold xd;simp only [h]
 show (match dget D k with | some _=>_ | .none=>_)
 rw [h2];exact s
theorem s_asgL (p:Evs l m H vs) (q:∀ a,H a=.none->WSs C r (m.set x (some (.ref a))) (H.set a (.list vs)) Q X):WSs C (.cons (.asg x (.list l)) r) m H Q X:=p.run _ _ _ q
theorem s_asgD (q:∀ a ep,H a=.none->WSs C r (m.set x (some (.ref a))) (H.set a (.dict [] ep)) Q X):WSs C (.cons (.asg x .dict) r) m H Q X:=q
theorem s_for {t:Tg} {b:ISs} {src:Src} (p:Ev e m H v) (h:wP v H=some src) (q:forL src.ok (zz t) (gq C b X) src.items m H (sq C r Q X)):WSs C (.cons (.for t (.val e) b) r) m H Q X:=by
 refine p.run _ _ _ ?_
 simp only [h];exact q
theorem s_range {t:Tg} {b:ISs} {y z:Int} (p:Ev e m H (.int y)) (p2:Ev i m H (.int z)) (h:-(2 ^ 60)<=y/\y<=2 ^ 60/\-(2 ^ 60)<=z/\z - y<=lid) (q:forL (Src.ok ⟨zJ y z,.none⟩) (zz t) (gq C b X) (zJ y z) m H (sq C r Q X)):WSs C (.cons (.for t (.range e i) b) r) m H Q X:=p.run _ _ _ (p2.run _ _ _ ⟨h,q⟩)
end
section
variable {C:Calls} {m:Loc} {H:AH} {X:Nat->AH->Prop} {K:AV->AH->Prop} {f:Nat} {e i:IE} {v u w:AV} {l:IEs} {vs:List AV} {k:Int} {a d n ep:Nat} {L M:List AV} {D:List (Int×AV)}
theorem we_ev (p:Ev e m H v) (k:K v H):WE C X e m H K:=p.run _ _ _ k
theorem we_call (p:Evs l m H vs) (q:C f vs H K X):WE C X (.call f l) m H K:=p.run _ _ _ q
theorem we_list (p:Evs l m H vs) (q:∀ a,H a=.none->K (.ref a) (H.set a (.list vs))):WE C X (.list l) m H K:=p.run _ _ _ q
theorem we_listOf (p:Ev e m H v) (h:zW v H=some L) (q:∀ a,H a=.none->K (.ref a) (H.set a (.list L))):WE C X (.bi .list (.cons e .nil)) m H K:=by
 refine p.run _ _ _ ?_
 show (match zW v H with | some l=>newL l H K | .none=>False)
 rw [h];exact q
theorem we_sorted {t:List Int} (p:Ev e m H (.ref a)) (h:(zW (.ref a) H).bind z4=some t) (q:t.length < 64/\∀ a,H a=.none->K (.ref a) (H.set a (.list ((zA t).map .int)))):WE C X (.bi .sorted (.cons e .nil)) m H K:=by
 refine p.run _ _ _ ?_
 show (match (zW (.ref a) H).bind z4 with | some l=>l.length < 64/\newL ((zA l).map .int) H K | .none=>False)
 rw [h];exact q

theorem we_bin {o:Op} (q:WE C X e m H (bq0 C X o i m K)):WE C X (.bin o e i) m H K:=q
theorem we_cmp {o:Cm} (q:WE C X e m H (dq0 C X o i m K)):WE C X (.cmp o e i) m H K:=q
theorem we_idx (q:WE C X e m H (jq0 C X i m K)):WE C X (.idx e i) m H K:=q
theorem we_bi1 {b:Bi} (q:WE C X e m H (uq b K)):WE C X (.bi b (.cons e .nil)) m H K:=q
theorem we_tup (q:WEs C X l m H (tq K)):WE C X (.tup l) m H K:=q
theorem we_listS (q:WEs C X l m H (nq K)):WE C X (.list l) m H K:=q
theorem we_callS (q:WEs C X l m H (cq C f K X)):WE C X (.call f l) m H K:=q
theorem we_rep (p:Ev e m H v) (p2:Ev i m H (.int k)) (q:(0<=k/\k<=lid)/\∀ a,H a=.none->K (.ref a) (H.set a (.list (List.replicate k.toNat v)))):WE C X (.rep e i) m H K:=p.run _ _ _ (p2.run _ _ _ q)
theorem we_comp {t:Tg} {c:ITs} {src:Src} (p:Ev e m H v) (h:wP v H=some src) (q:wQ src.ok (zz t) (kA C X c) (kE C X i) src.items (xL t m) H [] (nq K)):WE C X (.comp t (.val e) c i) m H K:=by
 refine p.run _ _ _ ?_
 simp only [h];exact q
theorem we_compR {t:Tg} {c:ITs} {e2:IE} {y z:Int} (p:Ev e m H (.int y)) (p2:Ev e2 m H (.int z)) (h:-(2 ^ 60)<=y/\y<=2 ^ 60/\-(2 ^ 60)<=z/\z - y<=lid) (q:wQ (Src.ok ⟨zJ y z,.none⟩) (zz t) (kA C X c) (kE C X i) (zJ y z) (xL t m) H [] (nq K)):WE C X (.comp t (.range e e2) c i) m H K:=p.run _ _ _ (p2.run _ _ _ ⟨h,q⟩)
noncomputable def joK (sep:Str) (K:AV->AH->Prop):AV->AH->Prop:=λ v H=>il sep v H K
noncomputable def spK (c:Nat) (K:AV->AH->Prop):AV->AH->Prop:=λ v H=>iH v c H K
theorem we_join {sep:Str} (q:WE C X e m H (joK sep K)):WE C X (.join sep e) m H K:=q
theorem we_split {c:Nat} (q:WE C X e m H (spK c K)):WE C X (.split e c) m H K:=q
theorem op_join {sep:Str} {ys:List Str} (h1:H a=some (.list L)) (h2:yF L=some ys) (h3:(ys.map (·.length)).sum+ys.length * sep.length<=16777216) (q:K (.str (Str.join sep ys)) H):joK sep K (.ref a) H:=⟨a,L,ys,rfl,h1,h2,h3,q⟩
theorem op_split {c:Nat} {s:Str} (h:s.length<=90000) (q:∀ a,H a=.none->K (.ref a) (H.set a (.list ((Txt.split s ⟨#[c]⟩).map .str)))):spK c K (.str s) H:=⟨s,rfl,h,q⟩
noncomputable def anK (C:Calls) (X:Nat->AH->Prop) (l:IEs) (m:Loc) (K:AV->AH->Prop):AV->AH->Prop:=λ v H=>match v with
  | .bool true=>WAnd C X l m H K
  | .bool false=>K (.bool false) H
  | _=>False
noncomputable def orK (C:Calls) (X:Nat->AH->Prop) (l:IEs) (m:Loc) (K:AV->AH->Prop):AV->AH->Prop:=λ v H=>match v with
  | .bool false=>WOr C X l m H K
  | .bool true=>K (.bool true) H
  | _=>False
theorem we_and (q:WAnd C X l m H K):WE C X (.and l) m H K:=q
theorem we_or (q:WOr C X l m H K):WE C X (.or l) m H K:=q
theorem wan_1 (q:WE C X e m H K):WAnd C X (.cons e .nil) m H K:=q
theorem wan_c (q:WE C X e m H (anK C X (.cons i l) m K)):WAnd C X (.cons e (.cons i l)) m H K:=q
theorem wor_c (q:WE C X e m H (orK C X (.cons i l) m K)):WOr C X (.cons e (.cons i l)) m H K:=q
theorem op_anT {b:Bool} (h:b=true) (q:WAnd C X l m H K):anK C X l m K (.bool b) H:=by subst h;exact q
theorem we_compS {t:Tg} {it:II} {c:ITs} (q:WI C X it m H (mq C X t c i m K)):WE C X (.comp t it c i) m H K:=q
noncomputable def mK (C:Calls) (X:Nat->AH->Prop) (n a:Nat) (K:AV->AH->Prop):List AV->AH->Prop:=λ vs H=>kdOf n (.ref a) H=some .inst/\xd C n (.ref a) vs H K X
theorem we_methA {F:List (Nat×AV)} (p:Ev e m H (.ref a)) (h1:H a=some (.inst d)) (h2:H d=some (.ns F)) (h3:4<=n) (q:WEs C X l m H (mK C X n a K)):WE C X (.meth e n l) m H K:=by
 refine p.run _ _ _ ?_
 have:¬ n < 4:=by lia
 have hk:kdOf n (.ref a) H=some .inst:=by simp [kdOf,h1,h2,this]
 simp only [hk]
 exact q
theorem op_mK {F:List (Nat×AV)} (h1:H a=some (.inst d)) (h2:H d=some (.ns F)) (h3:4<=n) (s:C n (.ref a::vs) H K X):mK C X n a K vs H:=by
 have:¬ n < 4:=by lia
 refine ⟨by simp [kdOf,h1,h2,this],?_⟩
 unfold xd;simp only [h1];exact s
theorem we_sliceF {e1 e2 e3:IE} {v1 v2 v3:AV} (p:Ev e m H (.fro L)) (p1:Ev e1 m H v1) (p2:Ev e2 m H v2) (p3:Ev e3 m H v3) (h:xK L v1 v2 v3=some M) (q:∀ b,H b=.none->K (.ref b) (H.set b (.list M))):WE C X (.slice e e1 e2 e3) m H K:=p.run _ _ _ (p1.run _ _ _ (p2.run _ _ _ (p3.run _ _ _ ⟨L,M,h,.inr ⟨.inl rfl,q⟩⟩)))
noncomputable def gK (C:Calls) (X:Nat->AH->Prop) (a:Nat) (k:Int) (K:AV->AH->Prop):AV->AH->Prop:=λ w H=>kdOf 2 (.ref a) H=some .dict/\xd C 2 (.ref a) [.int k,w] H K X
theorem we_get (p:Ev e m H (.ref a)) (h:H a=some (.dict D ep)) (q:Ev i m H (.int k)) {j:IE} (s:WE C X j m H (gK C X a k K)):WE C X (.meth e 2 (.cons i (.cons j .nil))) m H K:=by
 refine p.run _ _ _ ?_
 have hk:kdOf 2 (.ref a) H=some .dict:=by simp [kdOf,h]
 simp only [hk]
 exact q.run _ _ _ s
theorem op_get (h:H a=some (.dict D ep)) (h2:(dget D k).getD w=v) (q:K v H):gK C X a k K w H:=by
 refine ⟨by simp [kdOf,h],?_⟩
 unfold xd;simp only [h];subst h2;exact q
noncomputable def apK (C:Calls) (X:Nat->AH->Prop) (a:Nat) (K:AV->AH->Prop):AV->AH->Prop:=λ w H=>kdOf 0 (.ref a) H=some .list/\xd C 0 (.ref a) [w] H K X
theorem we_app (p:Ev e m H (.ref a)) (h:H a=some (.list L)) (s:WE C X i m H (apK C X a K)):WE C X (.meth e 0 (.cons i .nil)) m H K:=by
 refine p.run _ _ _ ?_
 have hk:kdOf 0 (.ref a) H=some .list:=by simp [kdOf,h]
 simp only [hk]
 exact s
theorem op_app (h:H a=some (.list L)) (h0:L.length < lid) (q:K .none (H.set a (.list (L++[v])))):apK C X a K v H:=by
 refine ⟨by simp [kdOf,h],?_⟩
 unfold xd;simp only [h];exact ⟨h0,q⟩
theorem we_popL (p:Ev e m H (.ref a)) (h:H a=some (.list L)) (h2:L.getLast?=some v) (q:K v (H.set a (.list L.dropLast))):WE C X (.meth e 1 .nil) m H K:=by
 refine p.run _ _ _ ?_
 have hk:kdOf 1 (.ref a) H=some .list:=by simp [kdOf,h]
 simp only [hk]
 refine ⟨hk,?_⟩
 unfold xd;simp only [h]
 show (match L.getLast? with | some x=>_ | .none=>False)
 rw [h2];exact q
theorem wes_ev {K:List AV->AH->Prop} (p:Evs l m H vs) (k:K vs H):WEs C X l m H K:=p.run _ _ _ k
theorem wes_cons {K:List AV->AH->Prop} (q:WE C X e m H (wq C X l m K)):WEs C X (.cons e l) m H K:=q
theorem op_bin {o:Op} (h:Rd0 (wBin o u w H) H v) (k:K v H):wBin o u w H K:=h.run _ k
theorem op_cmp {o:Cm} (h:Rd0 (wCmp o u w H) H v) (k:K v H):wCmp o u w H K:=h.run _ k
theorem op_idx (h:Rd0 (wIdx u w H) H v) (k:K v H):wIdx u w H K:=h.run _ k
theorem op_bi1 {b:Bi} (h:Rd0 (wBi1 b u H) H v) (k:K v H):wBi1 b u H K:=h.run _ k
theorem op_listOf (h:zW v H=some L) (q:∀ a,H a=.none->K (.ref a) (H.set a (.list L))):wBi1 .list v H K:=by
 show (match zW v H with | some l=>newL l H K | .none=>False)
 rw [h];exact q
theorem op_sorted {t:List Int} (h:(zW (.ref a) H).bind z4=some t) (q:t.length < 64/\∀ a,H a=.none->K (.ref a) (H.set a (.list ((zA t).map .int)))):wBi1 .sorted (.ref a) H K:=by
 show (match (zW (.ref a) H).bind z4 with | some l=>l.length < 64/\newL ((zA l).map .int) H K | .none=>False)
 rw [h];exact q
theorem op_addL {b:Nat} (h1:H a=some (.list L)) (h2:H b=some (.list M)) (q:L.length+M.length<=lid/\∀ a,H a=.none->K (.ref a) (H.set a (.list (L++M)))):wBin .add (.ref a) (.ref b) H K:=by
 unfold wBin wAdd;simp only [h1,h2];exact q
theorem op_addF {b:Nat} (h1:H a=some (.list L)) (h2:H b=some (.list M)) (h0:L.length+M.length<=lid) (q:∀ a,H a=.none->K (.ref a) (H.set a (.list (L++M)))):wBin .add (.ref a) (.ref b) H K:=op_addL h1 h2 ⟨h0,q⟩
theorem op_sortedF {t:List Int} (h:(zW (.ref a) H).bind z4=some t) (h0:t.length < 64) (q:∀ a,H a=.none->K (.ref a) (H.set a (.list ((zA t).map .int)))):wBi1 .sorted (.ref a) H K:=op_sorted h ⟨h0,q⟩
theorem we_sortedF {t:List Int} (p:Ev e m H (.ref a)) (h:(zW (.ref a) H).bind z4=some t) (h0:t.length < 64) (q:∀ a,H a=.none->K (.ref a) (H.set a (.list ((zA t).map .int)))):WE C X (.bi .sorted (.cons e .nil)) m H K:=we_sorted p h ⟨h0,q⟩
theorem op_new (q:∀ a,H a=.none->K (.ref a) (H.set a (.list L))):newL L H K:=q
theorem op_sitD {K:AH->Prop} (h:H a=some (.dict D ep)) (t:D.length < lid/\∀ ep,K (H.set a (.dict (dset D k v) ep))):wSit (.ref a) (.int k) v H K:=by
 unfold wSit;simp only [h];exact t
theorem op_sitL {K:AH->Prop} (h:H a=some (.list L)) (t:(0<=k/\k < L.length)/\K (H.set a (.list (L.set k.toNat v)))):wSit (.ref a) (.int k) v H K:=by
 unfold wSit;simp only [h];exact t
end
section
variable {C:Calls} {m:Loc} {H:AH} {X:Nat->AH->Prop} {K:Bool->AH->Prop} {e:IE} {t:IT} {l:ITs} {b:Bool}
theorem wt_ev (p:Et t m H b) (k:K b H):WT C X t m H K:=p.run _ _ _ k
theorem wta_ev (p:EtA l m H b) (k:K b H):WTAnd C X l m H K:=p.run _ _ _ k
theorem wt_not (w:WT C X t m H (oq K)):WT C X (.not t) m H K:=w
theorem wt_and (w:WTAnd C X l m H K):WT C X (.and l) m H K:=w
theorem wt_or (w:WTOr C X l m H K):WT C X (.or l) m H K:=w
noncomputable def bK (K:Bool->AH->Prop):AV->AH->Prop:=λ v H=>match v with | .bool b=>K b H | _=>False
theorem op_bool (q:K b H):bK K (.bool b) H:=q
theorem wt_val (w:WE C X e m H (bK K)):WT C X (.val e) m H K:=w
noncomputable def taK (C:Calls) (X:Nat->AH->Prop) (l:ITs) (m:Loc) (K:Bool->AH->Prop):Bool->AH->Prop:=λ b H=>match b with | true=>WTAnd C X l m H K | false=>K false H
noncomputable def toK (C:Calls) (X:Nat->AH->Prop) (l:ITs) (m:Loc) (K:Bool->AH->Prop):Bool->AH->Prop:=λ b H=>match b with | false=>WTOr C X l m H K | true=>K true H
theorem op_taT (h:b=true) (q:WTAnd C X l m H K):taK C X l m K b H:=by subst h;exact q
theorem op_taF (h:b=false) (q:K false H):taK C X l m K b H:=by subst h;exact q
theorem op_toF (h:b=false) (q:WTOr C X l m H K):toK C X l m K b H:=by subst h;exact q
theorem wta_cons (w:WT C X t m H (taK C X l m K)):WTAnd C X (.cons t l) m H K:=w
theorem wto_cons (w:WT C X t m H (toK C X l m K)):WTOr C X (.cons t l) m H K:=w
theorem wta_nil (q:K true H):WTAnd C X .nil m H K:=q
theorem wto_nil (q:K false H):WTOr C X .nil m H K:=q
end
section
variable {C:Calls} {m:Loc} {H:AH} {X:Nat->AH->Prop} {K:Src->AH->Prop} {e i:IE} {it:II} {v:AV} {src:Src} {y z:Int}
noncomputable def iK (K:Src->AH->Prop):AV->AH->Prop:=λ v H=>match wP v H with | some src=>K src H | .none=>False
noncomputable def rK (K:Src->AH->Prop) (x:AV):AV->AH->Prop:=λ y H=>match x,y with
 | .int i,.int j=>(-(2 ^ 60)<=i/\i<=2 ^ 60/\-(2 ^ 60)<=j/\j - i<=lid)/\K ⟨zJ i j,.none⟩ H
 | _,_=>False
theorem wi_val (q:WE C X e m H (iK K)):WI C X (.val e) m H K:=q
theorem wi_range (p:Ev e m H v) (q:WE C X i m H (rK K v)):WI C X (.range e i) m H K:=p.run _ _ _ q
theorem op_iK (h:wP v H=some src) (q:K src H):iK K v H:=by unfold iK;simp only [h];exact q
theorem op_rK (h:-(2 ^ 60)<=y/\y<=2 ^ 60/\-(2 ^ 60)<=z/\z - y<=lid) (q:K ⟨zJ y z,.none⟩ H):rK K (.int y) (.int z) H:=⟨h,q⟩
theorem for_cons {ok:AH->Prop} {bind:AV->Loc->Option Loc} {body:Loc->AH->(Fl->Loc->AH->Prop)->Prop} {r:List AV} {m':Loc} {Q:Fl->Loc->AH->Prop} (h:ok H) (hb:bind v m=some m') (q:body m' H λ f m'' H'=>match f with | .next=>forL ok bind body r m'' H' Q | .ret x=>Q (.ret x) m'' H'):forL ok bind body (v::r) m H Q:=by
 refine ⟨h,?_⟩
 simp only [hb];exact q
theorem for_nil {ok:AH->Prop} {bind:AV->Loc->Option Loc} {body:Loc->AH->(Fl->Loc->AH->Prop)->Prop} {Q:Fl->Loc->AH->Prop} (h:ok H) (q:Q .next m H):forL ok bind body [] m H Q:=⟨h,q⟩
end
noncomputable def whK (C:Calls) (b:ISs) (X:Nat->Loc->AH->Prop) (m:Loc) (J:Loc->AH->Prop) (K:AV->Loc->AH->Prop) (Q:Fl->Loc->AH->Prop):Bool->AH->Prop:=λ t H=>match t with
 | true=>WSs C b m H (lq J K) X
 | false=>Q .next m H
section
variable {C:Calls} {b:ISs} {X:Nat->Loc->AH->Prop} {m:Loc} {J:Loc->AH->Prop} {K:AV->Loc->AH->Prop} {Q:Fl->Loc->AH->Prop} {t:Bool} {H:AH}
theorem op_whT (h:t=true) (q:WSs C b m H (lq J K) X):whK C b X m J K Q t H:=by subst h;exact q
theorem op_whF (h:t=false) (q:Q .next m H):whK C b X m J K Q t H:=by subst h;exact q
theorem wh_by (h1:t=true->WSs C b m H (lq J K) X) (h2:t=false->Q .next m H):whK C b X m J K Q t H:=by
 cases t
 ·exact h2 rfl
 ·exact h1 rfl
end
theorem zX {C:Calls} {a w:Str} {l:List AV} {t r:ISs} {m:Loc} {H:AH} {Q:Fl->Loc->AH->Prop} {X:Nat->Loc->AH->Prop} (hm:m[1]?=some (some (.tup (.str w::l)))) (hne:(w == a)=false) (h:WSs C r m H Q X):WSs C (.cons (.ite (.val (.cmp .eq (.idx (.var 1) (.ci 0)) (.cs a))) t .nil) r) m H Q X:=
 s_iff (et_val (ev_cmp (ev_idx (ev_var hm) ev_ci (ix_T (by decide) rfl)) ev_cs (cm_neS hne))) rfl h
theorem xS {C:Calls} {w:Str} {l:List AV} {t r:ISs} {m:Loc} {H:AH} {Q:Fl->Loc->AH->Prop} {X:Nat->Loc->AH->Prop} (hm:m[1]?=some (some (.tup (.str w::l)))) (h:WSs C t m H (sq C r Q X) X):WSs C (.cons (.ite (.val (.cmp .eq (.idx (.var 1) (.ci 0)) (.cs w))) t .nil) r) m H Q X:=
 s_ite (et_val (ev_cmp (ev_idx (ev_var hm) ev_ci (ix_T (by decide) rfl)) ev_cs cm_eqS)) h
end Mine

set_option hygiene false
set_option compiler.extract_closed false
local macro_rules | `(tactic| case $k:ident => $s) => do
  let nd (k : String) (a : Array Lean.Syntax) : Lean.Syntax := .node .none (k.replace "t." "Lean.Parser.Tactic.").toName a
  let sq (l : List Lean.Syntax) : Lean.Syntax := nd "t.tacticSeq" #[nd "t.tacticSeq1Indented" #[nd "null" (l.reverse.intersperse (.atom .none ";")).toArray]]
  let pa (q : Lean.Syntax) : Lean.Syntax := nd "t.paren" #[.atom .none "(", q, .atom .none ")"]
  let go (st : List Lean.Syntax) (o : String) : List Lean.Syntax :=
    let x := (o.drop 1).toString
    let c := (x.splitOn ":").head!.toNat?.getD 0
    if o.startsWith "a" then .atom .none x :: st
    else if o.startsWith "i" then Lean.mkIdent x.toName :: st
    else if o.startsWith "h" then pa s :: st
    else if o.startsWith "c" then nd "t.case" #[.atom .none "case", nd "null" #[nd "t.caseArg" #[nd "Lean.binderIdent" #[Lean.mkIdent x.toName], nd "null" #[]]], .atom .none "=>", s] :: st
    else if o.startsWith "s" then sq (st.take c) :: st.drop c
    else if o.startsWith "p" then pa (sq (st.take c)) :: st.drop c
    else if o.startsWith "g" then nd "t.first" #[.atom .none "first", nd "null" ((st.take c).reverse.map fun q => nd "group" #[.atom .none "|", q]).toArray] :: st.drop c
    else nd (x.splitOn ":").getLast! (st.take c).reverse.toArray :: st.drop c
  let n := k.getId.toString ++ "="
  match ("k32=ix_T k40 k33|ix_L k33 k40 k33|ix_D k33 k33|ix_F k40 k33|ix_U kr k40 k33|ix_S k40 k33;k34=cm_eqI k33|cm_eqS|cm_neS kd|cm_lt k33|cm_le k33|cm_gt k33|cm_ge k33|cm_isnt k33|cm_in k33|cm_nin k33|cm_neI k33|cm_eq k33 k33 k40 k33|cm_ne k33 k33 k40 k33;k35=bn_add|bn_sub|bn_mod k40|bn_mulR k40|bn_mulL k40|bn_fdiv k40|bn_addT k40|bn_addU kr kr k40;k36=evs_nil|evs_cons k30 k36;k37=bi_lenF|bi_lenL k33|bi_lenD k33|bi_min k33 k33 k33|bi_int|bi_lenS k40|bi_strS|bi_strI k40|bi_tup k33|bi_intS k33 k40;k38=eva_1 k30|eva_t k30 kr k38;k39=evo_1 k30;k30=ev_var kr|ev_ci|ev_cs|ev_cn|ev_cb|ev_idx k30 k30 k32|ev_attr k30 k33 k33 kr|ev_cmp k30 k30 k34|ev_bin k30 k30 k35|ev_tup k36|ev_bi1 k30 k37|ev_and k38|ev_slice k30 k30 k30 k30 k33|ev_inst k30 k33|ev_neg k30;k42=et_val k30|et_or k43|et_and k44|et_not k42;k43=eto_1 k42|eto_f k42 kr k43|eto_b k42 k43;k44=eta_1 k42|eta_t k42 kr k44|eta_f k42 kr|eta_b k42 k44;k45=s_asg u1 k30|s_ret u1 k30|s_iff u1 k42 kr|s_ite u1 k42 kt|s_asgC u1 k36|s_exC u1 k36|s_asgM u4 k30 k33 k33 kd k36|s_exM u4 k30 k33 k33 kd k36|s_retM u4 k30 k33 k33 kd k36|s_appF u3 k30 k33 k30 k40|s_app u3 k30 k33 k30|s_pop u5 k30 k33 k30 k33|s_popY u6 k30 k33 k30 k30 k33|s_popN u5 k30 k33 k30 k30 k33|s_sitD u5 k30 k30 k30 k33|s_sitL u4 k30 k30 k30 k33|s_asgL u1 k36|s_asgD|s_for u2 k30 k33|s_range u2 k30 k30 k41|s_sat u5 k30 k30 k33 k33 k66|s_nil|nil_v;k46=we_call u1 k36|we_meth u4 k30 k33 k33 kd k36|we_list u1 k36|we_listOf u2 k30 k33|we_sortedF u2 k30 k33 k40|we_sorted u2 k30 k33|we_rep u2 k30 k30|we_ev u1 k30|we_comp u2 k30 k33|we_compR u2 k30 k30 k41|we_get u4 k30 k33 k30|we_methA u3 k30 k33 k33 kd|we_popL u3 k30 k33 k33|we_app u2 k30 k33|we_join|we_split|we_sliceF u5 k30 k30 k30 k30 k33|we_bin|we_cmp|we_idx|we_bi1|we_tup|we_listS|we_callS|we_and|we_or|we_compS;k47=op_bin u1 k35|op_cmp u1 k34|op_idx u1 k32|op_bi1 u1 k37|op_listOf u1 k33|op_sortedF u1 k33 k40|op_sorted u1 k33|op_addF u2 k33 k33 k40|op_addL u2 k33 k33|op_new|op_get u3 k33 k33|op_app u1 k33 k40|op_mK u2 k33 k33 kd|op_sitD u2 k33|op_sitL u1 k33|op_join u2 k33 k33 k40|op_split k40|op_bool|op_iq|op_iK u1 k33|op_rK k41|op_taT kr|op_taF kr|op_toF kr|op_anT kr|op_whT k33|op_whF k33|forL k49;k52=wt_ev u1 k42|wt_not|wt_and|wt_or|wt_val;k53=wta_nil|wta_ev u1 k44|wta_cons;k54=wto_nil|wto_cons;k55=wes_ev u1 k36|wes_cons;k56=wi_val|wi_range u1 k30;k57=wan_1|wan_c;k58=wor_c;k48=WT k52|WTAnd k53|WTOr k54|WEs k55|WI k56|WAnd k57|WOr k58;k82=k0_;k76=hJ0|hK0;k86=ite_t kr|ite_n kr|ite_f kr;k33=- kA|- kB|- kC|- kr;k40=- kd|- kC|- ka|ble_le kr|- ko|- kz;k63=- kd|- ko|- kz|- kC;k41=- kd|rng0 k68|rng4 k63 k63 k63 k63;k66=nset0|nset1|- kr;k68=- ko|- kz;k29=aq_in km;k31=- k29|WSs k60|WE k46|- k82|- k76|- k48|- k47|- k86;k60=- k45|- k51;k59=- ki|- k33;k49=- kf|- kg;k64=- k82|WSs kv|- k76;k51=asg_n|ret_n|ite_q|ex_n|for_n|sit_g ks;k77=+hJ0|+hK0;k50=!arepeat ck31 s1 n2:t.tacticRepeat_;k75=!atry ck77 s1 n2:t.tacticTry_;k74=!arepeat ck64 s1 n2:t.tacticRepeat_ ck75 p2;ks=!aintro iK0_ ik0_ n2:null n2:t.intro;km=!aintro im_ n1:null n2:t.intro;kA=!awith_reducible ckC s1 n2:t.withReducible;kB=!awith_reducible cka s1 n2:t.withReducible;kC=!afocus h adone n1:t.done p2 s1 n2:t.focus;ka=!aassumption n1:t.assumption;ko=!alia n0:null n1:t.optConfig n2:t.lia;kz=!atry asimp n0:null n1:t.optConfig n0:null aonly n1:null a[ n0:null n0:null iList.length_map n3:t.simpLemma a, n0:null n0:null iList.length_append n3:t.simpLemma n3:null a] n3:null n0:null n6:t.simp s1 n2:t.tacticTry_ aunfold ilid n1:null n0:null n3:t.unfold cko p3;kv=!aapply inil_v n2:t.apply;ki=!atrivial n1:t.tacticTrivial;kf=!aapply ifor_cons n2:t.apply ck59 ckr p3;kg=!aapply ifor_nil n2:t.apply ck59 p2;kr=!arfl n1:t.tacticRfl;kd=!adecide n0:null n1:t.optConfig n2:t.decide;kt=!atry ck86 s1 n2:t.tacticTry_".splitOn ";").find? (·.startsWith n) with
  | none => Lean.Macro.throwUnsupported
  | some r =>
    let r := (r.drop n.length).toString
    let w := if r.startsWith "!" then (r.drop 1).toString else
      let q := (r.splitOn "|").map fun a =>
        let l := a.splitOn " "
        let x := l.head!
        let f := "arefine' i" ++ x ++ " a.. n1:Lean.Parser.Term.ellipsis n1:null n2:Lean.Parser.Term.app n2:t.refine' "
        let y := if x.startsWith "-" then "" else if x.startsWith "+" then f.replace "+" "" else "awith_reducible " ++ (if x.startsWith "W" || x.startsWith "forL" then ((f.replace "refine' i" "refine' a( i n1:hygieneInfo n2:Lean.Parser.Term.hygienicLParen a? a_ n2:Lean.Parser.Term.syntheticHole a: i").replace "app n2" "app n1:null a) n5:Lean.Parser.Term.typeAscription n2")
          else if r.startsWith "e" || r.startsWith "c" || r.startsWith "bn" || r.startsWith "bi" || r.startsWith "ix" then "aapply i" ++ x ++ " n2:t.apply " else f) ++ "s1 n2:t.withReducible "
        y ++ String.join (l.tail.map fun y => if y.startsWith "u" then "arotate_left a" ++ (y.drop 1).toString ++ " n1:num n1:null n2:t.rotateLeft " else "c" ++ y ++ " ") ++ "s" ++ toString (l.length - (if x.startsWith "-" then 1 else 0)) ++ " "
      String.join q ++ "g" ++ toString q.length
    return ((w.splitOn " ").foldl go []).head!
set_option hygiene true
set_option maxHeartbeats 4000000
namespace Mine
open PySem

theorem yg {H:AH} {d:Nat} {ks:List Int} {f:Int->AV} {ep:Nat} {k:Int} (h:H d=some (.dict (dOf ks f) ep)) (hk:k∈ks):wIn (.int k) (.ref d) H=some true:=by
 simp [wIn,h,zY hk]
theorem sU {H:AH} {d:Nat} {ks:List Int} {f:Int->AV} {ep:Nat} {k:Int} (h:H d=some (.dict (dOf ks f) ep)) (hk:k∉ks):wIn (.int k) (.ref d) H=some false:=by
 simp [wIn,h,tN hk]
theorem wJ (l:List Int):z4 (l.map .int)=some l:=by
 induction l with
 | nil=>
  exact rfl
 | cons a r ih_=>
  exact congrArg (Option.map (a::·)) (ih_)
theorem yA {x:Nat} {m0:Loc} {ok:AH->Prop} {test:Loc->AH->(Bool->AH->Prop)->Prop} {elt:Loc->AH->(AV->AH->Prop)->Prop} {H:AH} {p:AV->Bool} {f:AV->AV} (hok:∀ H',Ext0 H H'->ok H') :
  ∀ (items:List AV) (m:Loc) (aD:AH) (acc:List AV) (Q:List AV->AH->Prop),Ext0 H aD->(∀ v,m.set x v=m0.set x v)->
  (∀ v∈items,∀ H',Ext0 H H'->∀ Q,(∀ H'',Ext0 H' H''->Q (p v) H'')->test (m0.set x (some v)) H' Q)->
  (∀ v∈items,p v=true->∀ H',Ext0 H H'->∀ Q,(∀ H'',Ext0 H' H''->Q (f v) H'')->elt (m0.set x (some v)) H' Q)->
  (∀ H',Ext0 aD H'->Q (acc++(items.filter p).map f) H')->wQ ok (zz (.one x)) test elt items m aD acc Q:=by
 intro items
 induction items with
 | nil=>intro m aD acc Q e _ _ _ hQ;exact ⟨hok _ e,List.append_nil acc▸hQ aD (.refl _)⟩
 | cons v r ih=>
  intro m aD acc Q e hm ht he hQ
  case k74=>skip
  refine ⟨hok _ e,?_⟩
  show test (m.set x (some v)) aD _
  rw [hm]
  refine ht v (.head _) aD e _ λ aM aW=>?_
  have hm':∀ u,(m0.set x (some v)).set x u=m0.set x u:=λ u=>List.set_set ..
  rw [List.filter_cons] at hQ
  cases hp:p v with
  | true=>
   rw [if_pos hp,List.map_cons] at hQ
   refine he v (.head _) hp aM (e.trans aW) _ λ aP bJ=>?_
   refine ih _ aP _ Q ((e.trans aW).trans bJ) hm' (λ u hu=>ht u (.tail _ hu)) (λ u hu=>he u (.tail _ hu)) λ H' e'=>?_
   rw [List.append_assoc]
   exact hQ H' ((aW.trans bJ).trans e')
  | false=>
   rw [if_neg (by rw [hp];exact Bool.noConfusion)] at hQ
   exact ih _ aM _ Q (e.trans aW) hm' (λ u hu=>ht u (.tail _ hu)) (λ u hu=>he u (.tail _ hu)) λ H' e'=>hQ H' (aW.trans e')

section
variable {P:Nat->Option IFn} {n:Nat} {R:RM} {H:AH} {A:Ad} {s:St} {Q:AV->AH->Prop} {X:Nat->AH->Prop}

theorem zd (hP:P 21=some wx) (x:Chest R H A s) {b:Int} (hb:b∈s.ks) (q:Q .none H):CN P (n+1) 21 [.ref A.c,.int b] H Q X:=by
 obtain ⟨er,hr⟩:=x.r
 refine zR hP rfl ?_
 intro C_ Q_ X_ m_
 case k50=>(first | exact x.c .. | exact x.dx .. | exact yg hr hb ..)
 case k74=>skip
 exact q

theorem wK (hP:P 25=some iv) (h21:P 21=some wx) (x:Chest R H A s) {b:Int} (hb:b∈s.ks) (q:Q (.int (s.row b).length) H):CN P (n+2) 25 [.ref A.c,.int b] H Q X:=by
 obtain ⟨er,hr⟩:=x.r
 refine zR hP rfl ?_
 intro C_ Q_ X_ m_
 case k50=>(first | exact x.c .. | exact x.dx ..)
 refine zd h21 x hb ?_
 case k50=>(first | exact x.c .. | exact x.dx .. | exact hr .. | exact zY hb .. | exact x.row b hb ..)
 rw [List.length_map]
 case k74=>skip
 exact q

theorem xh (hP:P 22=some pA) (h21:P 21=some wx) (x:Chest R H A s) {b i:Int} (hb:b∈s.ks) (h0:0<=i) (h1:i < (s.row b).length) (q:Q .none H):CN P (n+2) 22 [.ref A.c,.int b,.int i] H Q X:=by
 obtain ⟨er,hr⟩:=x.r
 refine zR hP rfl ?_
 intro C_ Q_ X_ m_
 case k50=>(first | exact x.c .. | exact x.dx ..)
 refine zd h21 x hb ?_
 have e1:decide (i < 0)=false:=decide_eq_false (by omega)
 have e2:decide (((List.map zL (s.row b)).length:Int)<=i)=false:=decide_eq_false (by simp;omega)
 case k50=>(first | exact x.c .. | exact x.dx .. | exact hr .. | exact zY hb .. | exact x.row b hb .. | exact e1 .. | exact e2 ..)
 case k74=>skip
 exact q

theorem uF (hP:P 28=some iz) (h21:P 21=some wx) (h22:P 22=some pA) (x:Chest R H A s) {b i:Int} {v:Slot} (hb:b∈s.ks) (h0:0<=i) (h1:(s.row b)[i.toNat]?=some v) (q:Q (zL v) H):CN P (n+3) 28 [.ref A.c,.int b,.int i] H Q X:=by
 obtain ⟨er,hr⟩:=x.r
 have hl:=(List.getElem?_eq_some_iff.mp h1).1
 have h1':(List.map zL (s.row b))[i.toNat]?=some (zL v):=by simp [h1]
 refine zR hP rfl ?_
 intro C_ Q_ X_ m_
 case k50=>(first | exact x.c .. | exact x.dx ..)
 refine xh h22 h21 x hb h0 (by omega) ?_
 case k50=>(first | exact x.c .. | exact x.dx .. | exact hr .. | exact zY hb .. | exact x.row b hb ..)
 case k74=>skip
 exact q

theorem iT (hP:P 26=some iw) (h21:P 21=some wx) (h22:P 22=some pA) (d:Dom R H) (x:Chest R H A s) {b i o:Int} {h:Bool} (hb:b∈s.ks) (h0:0<=i) (h1:i < (s.row b).length) (ho:o∈s.ks)
  (q:∀ H',Chest R H' A { s with row:=upd s.row b ((s.row b).set i.toNat (some (o,h))) }->Stp isCh R H R H'->Q .none H'):CN P (n+3) 26 [.ref A.c,.int b,.int i,.int o,.bool h] H Q X:=by
 obtain ⟨er,hr⟩:=x.r
 refine zR hP rfl ?_
 intro C_ Q_ X_ m_
 case k50=>(first | exact x.c .. | exact x.dx ..)
 refine xh h22 h21 x hb h0 (by omega) ?_
 case k50=>(first | exact x.c .. | exact x.dx ..)
 refine zd h21 x ho ?_
 case k50=>(first | exact x.c .. | exact x.dx .. | exact hr .. | exact zY hb .. | exact x.row b hb ..)
 case k74=>skip
 refine ⟨⟨h0,by simpa using h1⟩,?_⟩
 have e:(List.map zL (s.row b)).set i.toNat (.tup [.int o,.bool h])=((s.row b).set i.toNat (some (o,h))).map zL:=by rw [List.map_set];rfl
 case k74=>skip
 show Q .none (H.set (A.ra b) (.list ((List.map zL (s.row b)).set i.toNat (.tup [.int o,.bool h]))))
 rw [e]
 case k74=>skip
 exact q _ (x.setRow hb _) (.set d (x.Rrow b hb) (by unfold isCh;omega))

theorem qe (hP:P 27=some iy) (h21:P 21=some wx) (h22:P 22=some pA) (d:Dom R H) (x:Chest R H A s) {b i:Int} (hb:b∈s.ks) (h0:0<=i) (h1:i < (s.row b).length)
  (q:∀ H',Chest R H' A { s with row:=upd s.row b ((s.row b).set i.toNat .none) }->Stp isCh R H R H'->Q .none H'):CN P (n+3) 27 [.ref A.c,.int b,.int i] H Q X:=by
 obtain ⟨er,hr⟩:=x.r
 refine zR hP rfl ?_
 intro C_ Q_ X_ m_
 case k50=>(first | exact x.c .. | exact x.dx ..)
 refine xh h22 h21 x hb h0 (by lia) ?_
 case k50=>(first | exact x.c .. | exact x.dx .. | exact hr .. | exact zY hb .. | exact x.row b hb ..)
 case k74=>skip
 refine ⟨⟨h0,by simpa using h1⟩,?_⟩
 have e:(List.map zL (s.row b)).set i.toNat .none=((s.row b).set i.toNat .none).map zL:=by rw [List.map_set];rfl
 case k74=>skip
 show Q .none (H.set (A.ra b) (.list ((List.map zL (s.row b)).set i.toNat .none)))
 rw [e]
 case k74=>skip
 exact q _ (x.setRow hb _) (.set d (x.Rrow b hb) (by unfold isCh;lia))

noncomputable def addK (ks:List Int) (k:Int):List Int:=if k∈ks then ks else ks++[k]
set_option tactic.hygienic true in
theorem yV (ks:List Int) (k:Int):dset (dOf ks λ _=>.bool true) k (.bool true)=dOf (addK ks k) λ _=>.bool true:=by
 unfold addK
 split
 ·rename_i h
  rw [jM h]
  exact xg λ a _=>by unfold upd;split<;>rfl
 ·rename_i h
  rw [yN h]
  exact xg λ a _=>by unfold upd;split<;>rfl
noncomputable def delK (ks:List Int) (k:Int):List Int:=ks.filter λ x=>!decide (x=k)

theorem mP (hP:P 29=some hA) (h21:P 21=some wx) (d:Dom R H) (x:Chest R H A s) {b:Int} (hb:b∈s.ks) (hl:s.hs.length < lid)
  (q:∀ H',Chest R H' A { s with hs:=addK s.hs b }->Stp isCh R H R H'->Q .none H'):CN P (n+2) 29 [.ref A.c,.int b] H Q X:=by
 obtain ⟨eh,hh⟩:=x.h
 refine zR hP rfl ?_
 intro C_ Q_ X_ m_
 case k50=>(first | exact x.c .. | exact x.dx ..)
 refine zd h21 x hb ?_
 case k50=>(first | exact x.c .. | exact x.dx .. | exact hh ..)
 case k74=>skip
 refine ⟨by rw [zK];exact hl,λ ep=>?_⟩
 case k74=>skip
 show Q .none (H.set A.h (.dict (dset (dOf s.hs λ z_=>.bool true) b (.bool true)) ep))
 rw [yV]
 case k74=>skip
 exact q _ (x.setH _ ep) (.set d x.Rh (by unfold isCh;lia))

theorem mQ (hP:P 31=some hF) (h21:P 21=some wx) (d:Dom R H) (x:Chest R H A s) {b:Int} (hb:b∈s.ks) (hh:b∈s.hs)
  (q:∀ H',Chest R H' A { s with hs:=delK s.hs b }->Stp isCh R H R H'->Q .none H'):CN P (n+2) 31 [.ref A.c,.int b] H Q X:=by
 obtain ⟨eh,hd⟩:=x.h
 refine zR hP rfl ?_
 intro C_ Q_ X_ m_
 case k50=>(first | exact x.c .. | exact x.dx ..)
 refine zd h21 x hb ?_
 case k50=>(first | exact x.c .. | exact x.dx .. | exact yg hd hh .. | exact hd .. | exact zY hh ..)
 intro ep
 case k74=>skip
 show Q .none (H.set A.h (.dict (ddel (dOf s.hs λ z_=>.bool true) b) ep))
 rw [v9]
 case k74=>skip
 exact q _ (x.setH _ ep) (.set d x.Rh (by unfold isCh;lia))
end

theorem Stp.alloc {p:Nat->Prop} {R:RM} {H:AH} (d:Dom R H) {a:Nat} {o:AO} {y:Nat×Int} (ha:H a=.none):Stp p R H (R.set a y) (H.set a o):=by
 have ne:∀ b,H b≠.none->b≠a:=λ b hb q=>hb (q▸ha)
 have al:∀ b,H b≠.none->(H.set a o) b≠.none:=λ b h=>by rw [AH.set_ne _ _ (ne b h)];exact h
 case k74=>skip
 refine ⟨λ b ob e z_=>Ext0.set ha b ob e,al,λ b h=>RM.set_ne _ _ (ne b h),λ b h=>?_⟩
 by_cases q:b=a
 ·subst q;rw [AH.set_self];simp
 ·rw [RM.set_ne _ _ q] at h
  exact al b (d b h)
theorem Dom.free {R:RM} {H:AH} (d:Dom R H) {a:Nat} (ha:H a=.none):R a=.none:=by
 cases q:R a with
 | none=>rfl
 | some y=>exact absurd ha (d a (by rw [q];simp))
theorem Chest.alloc {R:RM} {H:AH} {A:Ad} {s:St} (x:Chest R H A s) {a:Nat} {o:AO} {y:Nat×Int} (ha:H a=.none):Chest (R.set a y) (H.set a o) A s:=
 x.keep (λ b ob e z_=>Ext0.set ha b ob e) λ b hb=>RM.set_ne _ _ λ q=>hb (q▸ha)
theorem wL (f:Int->Nat) (k:Int) (a:Nat):(upd (λ k=>AV.ref (f k)) k (.ref a))=λ j=>AV.ref (upd f k a j):=by
 funext j;unfold upd;split<;>rfl
theorem tO (f:Int->Int×Int×Int) (k:Int) (p:Int×Int×Int):(upd (λ k=>zw (f k)) k (zw p))=λ j=>zw (upd f k p j):=by
 funext j;unfold upd;split<;>rfl

section
variable {P:Nat->Option IFn} {n:Nat} {R:RM} {H:AH} {A:Ad} {s:St} {Q:AV->AH->Prop} {X:Nat->AH->Prop}

theorem xp {H:AH} {a:Nat} {ks:List Int} {f:Int->AV} {ep:Nat} (h:H a=some (.dict (dOf ks f) ep)):zW (.ref a) H=some (ks.map .int):=by
 simp [zW,wP,h,jN]
theorem yz {H:AH} {a:Nat} {l:List AV} (h:H a=some (.list l)):zW (.ref a) H=some l:=by simp [zW,wP,h]
theorem wZ {H:AH} {a:Nat} {l:List Int} (h:H a=some (.list (l.map .int))):(zW (.ref a) H).bind z4=some l:=by rw [yz h];exact wJ l
theorem yh {H:AH} {a:Nat} {ks:List Int} {f:Int->AV} {ep:Nat} (h:H a=some (.dict (dOf ks f) ep)):(zW (.ref a) H).bind z4=some ks:=by rw [xp h];exact wJ ks
theorem zC {H:AH} {a:Nat} {l:List AV} (h:H a=some (.list l)):wP (.ref a) H=some ⟨l,some (a,.list l)⟩:=by simp [wP,h]
noncomputable def St.make (s:St) (size:Int):St:={ s with nb:=s.nb+1,ks:=s.ks++[s.nb],row:=upd s.row s.nb (List.replicate size.toNat .none),hs:=addK s.hs s.nb }

theorem gh (hP:P 23=some ip) (d:Dom R H) (x:Chest R H A s) {size:Int} (h0:0<=size) (h9:size<=9) (hl:s.ks.length < 60) (hhl:s.hs.length < lid) (hn:s.nb∉s.ks)
  (q:∀ R' H' A',A'.c=A.c->Chest R' H' A' (s.make size)->Stp isCh R H R' H'->Q (.int s.nb) H'):CN P (n+1) 23 [.ref A.c,.int size] H Q X:=by
 obtain ⟨er,hr⟩:=x.r
 refine zR hP rfl ?_
 intro C_ Q_ X_ m_
 have e1:decide (size < 0)=false:=decide_eq_false (by lia)
 have e2:decide (9 < size)=false:=decide_eq_false (by lia)
 have e3:decide ((60:Int)<=((dOf s.ks λ k=>AV.ref (A.ra k)).length:Int))=false:=decide_eq_false (by rw [zK];lia)
 case k50=>(first | exact x.c .. | exact x.dx .. | exact hr .. | exact e1 .. | exact e2 .. | exact e3 ..)
 case k74=>skip
 refine ⟨⟨h0,by unfold lid;lia⟩,?_⟩
 intro a ha
 have x1:=x.setDx (s.nb+1) s.np
 have g1:Stp isCh R H R _:=.set (o:=.ns [(0,.int (s.nb+1)),(1,.int s.np),(2,.ref A.r),(3,.ref A.h),(4,.ref A.l),(5,.ref A.w)]) d x.Rdx (by unfold isCh;lia)
 generalize H.set A.dx (.ns [(0,.int (s.nb+1)),(1,.int s.np),(2,.ref A.r),(3,.ref A.h),(4,.ref A.l),(5,.ref A.w)])=H1 at x1 g1 ha |-
 have g2:Stp isCh R H1 (R.set a (6,s.nb)) _:=.alloc (o:=.list (List.replicate size.toNat .none)) g1.dom ha
 have x2:Chest (R.set a (6,s.nb)) _ A _:=x1.alloc (o:=.list (List.replicate size.toNat .none)) (y:=(6,s.nb)) ha
 have h2:(H1.set a (.list (List.replicate size.toNat .none))) a=some (.list (List.replicate size.toNat .none)):=AH.set_self ..
 have r2:(R.set a (6,s.nb)) a=some (6,s.nb):=RM.set_self ..
 generalize H1.set a (.list (List.replicate size.toNat .none))=H2 at x2 g2 h2 |-
 generalize R.set a (6,s.nb)=R2 at x2 g2 r2
 obtain ⟨er2,hr2⟩:=x2.r
 case k50=>(first | exact x2.c .. | exact x2.dx .. | exact hr2 ..)
 case k74=>skip
 refine ⟨by rw [zK];unfold lid;show s.ks.length < _;lia,λ ep=>?_⟩
 have x3:=x2.setR (R':=R2) (λ z_ z_ z_=>rfl) (s.ks++[s.nb]) (upd s.row s.nb (List.replicate size.toNat .none)) (upd A.ra s.nb a) ep (λ k hk=>by
  by_cases e:k=s.nb
  ·subst e
   rw [zG,zG]
   case k74=>skip
   refine ⟨?_,r2⟩
   rw [h2];simp [zL]
  ·rw [zM _ _ e,zM _ _ e]
   have hk:k∈s.ks:=by
    rcases List.mem_append.mp hk with z | z
    ·exact z
    ·exact absurd (List.mem_singleton.mp z) e
   case k74=>skip
   exact ⟨x2.row k hk,x2.Rrow k hk⟩)
 have g3:Stp isCh R2 H2 R2 _:=.set (o:=.dict (dOf (s.ks++[s.nb]) λ k=>.ref (upd A.ra s.nb a k)) ep) g2.dom x2.Rr (by unfold isCh;lia)
 rw [yN hn,wL]
 generalize H2.set A.r (.dict (dOf (s.ks++[s.nb]) λ k=>.ref (upd A.ra s.nb a k)) ep)=H3 at x3 g3 |-
 obtain ⟨eh3,hh3⟩:=x3.h
 case k50=>(first | exact x3.c .. | exact x3.dx .. | exact hh3 ..)
 case k74=>skip
 refine ⟨by rw [zK];exact hhl,λ ep'=>?_⟩
 case k74=>skip
 show Q (.int s.nb) (H3.set A.h (.dict (dset (dOf s.hs λ z_=>.bool true) s.nb (.bool true)) ep'))
 rw [yV]
 have x4:=x3.setH (addK s.hs s.nb) ep'
 case k74=>skip
 exact q R2 _ { A with ra:=upd A.ra s.nb a } rfl x4 (((g1.trans g2).trans g3).trans (.set g3.dom x3.Rh (by unfold isCh;lia)))

theorem vb (hP:P 32=some hJ) (x:Chest R H A s) (hl:s.hs.length < 64) (q:∀ a H',H a=.none->H' a=some (.list ((zA s.hs).map .int))->Ext0 H H'->Q (.ref a) H'):CN P (n+1) 32 [.ref A.c] H Q X:=by
 obtain ⟨er,hr⟩:=x.h
 refine zR hP rfl ?_
 intro C_ Q_ X_ m_
 case k50=>(first | exact x.c .. | exact x.dx .. | exact xp hr ..)
 intro a ha
 have e1:Ext0 H _:=Ext0.set (o:=.list (s.hs.map .int)) ha
 have h1:(H.set a (.list (s.hs.map .int))) a=some (.list (s.hs.map .int)):=AH.set_self ..
 generalize H.set a (.list (s.hs.map .int))=H1 at e1 h1 |-
 case k50=>exact wZ h1 ..
 intro b hb
 have hb0:H b=.none:=by
  cases z:H b with
  | none=>rfl
  | some o=>have:=e1 b o z;rw [hb] at this;cases this
 case k74=>skip
 exact q b _ hb0 (AH.set_self ..) (e1.trans (Ext0.set hb))
theorem y5 (hP:P 24=some iu) (x:Chest R H A s) (hl:s.ks.length < 64) (q:∀ a H',H a=.none->H' a=some (.list ((zA s.ks).map .int))->Ext0 H H'->Q (.ref a) H'):CN P (n+1) 24 [.ref A.c] H Q X:=by
 obtain ⟨er,hr⟩:=x.r
 refine zR hP rfl ?_
 intro C_ Q_ X_ m_
 case k50=>(first | exact x.c .. | exact x.dx .. | exact xp hr ..)
 intro a ha
 have e1:Ext0 H _:=Ext0.set (o:=.list (s.ks.map .int)) ha
 have h1:(H.set a (.list (s.ks.map .int))) a=some (.list (s.ks.map .int)):=AH.set_self ..
 generalize H.set a (.list (s.ks.map .int))=H1 at e1 h1 |-
 case k50=>exact wZ h1 ..
 intro b hb
 have hb0:H b=.none:=by
  cases z:H b with
  | none=>rfl
  | some o=>have:=e1 b o z;rw [hb] at this;cases this
 case k74=>skip
 exact q b _ hb0 (AH.set_self ..) (e1.trans (Ext0.set hb))

noncomputable def St.pair (s:St) (p:Int×Int×Int):St:={ s with np:=s.np+1,ls:=s.ls++[s.np],link:=upd s.link s.np p }
theorem gi (hP:P 33=some hO) (h21:P 21=some wx) (d:Dom R H) (x:Chest R H A s) {b k o:Int} (hb:b∈s.ks) (hk:k∈s.ks) (ho:o∈s.ks) (hl:s.ls.length < 60) (hn:s.np∉s.ls)
  (q:∀ H',Chest R H' A (s.pair (b,k,o))->Stp isCh R H R H'->Q (.int s.np) H'):CN P (n+2) 33 [.ref A.c,.int b,.int k,.int o] H Q X:=by
 obtain ⟨el,hll⟩:=x.l
 refine zR hP rfl ?_
 intro C_ Q_ X_ m_
 case k50=>(first | exact x.c .. | exact x.dx ..)
 refine zd h21 x hb ?_
 case k50=>(first | exact x.c .. | exact x.dx ..)
 refine zd h21 x hk ?_
 case k50=>(first | exact x.c .. | exact x.dx ..)
 refine zd h21 x ho ?_
 have e3:decide ((60:Int)<=((dOf s.ls λ k=>zw (s.link k)).length:Int))=false:=decide_eq_false (by rw [zK];omega)
 have x1:=x.setDx s.nb (s.np+1)
 have g1:Stp isCh R H R _:=.set (o:=.ns [(0,.int s.nb),(1,.int (s.np+1)),(2,.ref A.r),(3,.ref A.h),(4,.ref A.l),(5,.ref A.w)]) d x.Rdx (by unfold isCh;omega)
 obtain ⟨el1,hl1⟩:=x1.l
 case k50=>(first | exact x.c .. | exact x.dx .. | exact hll .. | exact e3 .. | exact x1.c .. | exact x1.dx .. | exact hl1 ..)
 case k74=>skip
 refine ⟨by rw [zK];show s.ls.length < _;unfold lid;omega,λ ep=>?_⟩
 generalize H.set A.dx (.ns [(0,.int s.nb),(1,.int (s.np+1)),(2,.ref A.r),(3,.ref A.h),(4,.ref A.l),(5,.ref A.w)])=H1 at x1 g1 |-
 case k74=>skip
 show Q (.int s.np) (H1.set A.l (.dict (dset (dOf s.ls λ k=>zw (s.link k)) s.np (zw (b,k,o))) ep))
 rw [yN hn,tO]
 case k74=>skip
 exact q _ (x1.setL _ _ ep) (g1.trans (.set g1.dom x1.Rl (by unfold isCh;omega)))

theorem sV (hP:P 34=some hS) (d:Dom R H) (x:Chest R H A s) {k:Int} (hk:k∈s.ls)
  (q:∀ H',Chest R H' A { s with ls:=delK s.ls k }->Stp isCh R H R H'->Q .none H'):CN P (n+1) 34 [.ref A.c,.int k] H Q X:=by
 obtain ⟨el,hll⟩:=x.l
 refine zR hP rfl ?_
 intro C_ Q_ X_ m_
 case k50=>(first | exact x.c .. | exact x.dx .. | exact yg hll hk .. | exact hll .. | exact zY hk ..)
 intro ep
 case k74=>skip
 show Q .none (H.set A.l (.dict (ddel (dOf s.ls λ k=>zw (s.link k)) k) ep))
 rw [v9]
 case k74=>skip
 exact q _ (x.setL _ s.link ep) (.set d x.Rl (by unfold isCh;lia))
end

theorem mem_insertI {x y:Int}:∀ {l:List Int},y∈zo x l↔y=x\/y∈l
 | []=>by simp [zo]
 | a::r=>by
  unfold zo
  split
  ·simp
  ·rw [List.mem_cons,mem_insertI,List.mem_cons]
   constructor
   ·rintro (h | h | h)
    ·exact .inr (.inl h)
    ·exact .inl h
    ·exact .inr (.inr h)
   ·rintro (h | h | h)
    ·exact .inr (.inl h)
    ·exact .inl h
    ·exact .inr (.inr h)
theorem mem_sortI {y:Int}:∀ {l:List Int},y∈zA l↔y∈l
 | []=>by simp [zA]
 | a::r=>by unfold zA;rw [mem_insertI,mem_sortI,List.mem_cons]
theorem uY (x:Int) (l:List Int):(zo x l).length=l.length+1:=by
 induction l with
 | nil=>
  exact rfl
 | cons a r ih_=>
  unfold zo;split<;>simp [ih_]
theorem zB (l:List Int):(zA l).length=l.length:=by
 induction l with
 | nil=>
  exact rfl
 | cons a r ih_=>
  unfold zA;rw [uY,ih_];rfl

theorem zH {C:Calls} {b:ISs} {X:Nat->Loc->AH->Prop} {ok:AH->Prop} {bind:AV->Loc->Option Loc} {items:List AV} (I:Nat->Loc->AH->Prop) {Q:Fl->Loc->AH->Prop}
  (hbody:∀ i v m H (J:Loc->AH->Prop) (_:∀ m H,I (i+1) m H->J m H) (K:AV->Loc->AH->Prop) (_:∀ x m H,Q (.ret x) m H->K x m H),items[i]?=some v->I i m H->ok H/\∃ m',bind v m=some m'/\WSs C b m' H (lq J K) X)
  (hend:∀ m H,I items.length m H->ok H/\Q .next m H) {m:Loc} {H:AH} (h0:I 0 m H):forL ok bind (gq C b X) items m H Q:=by
 have gen:∀ (rest:List AV) (i:Nat) (m:Loc) (H:AH),rest=items.drop i->i<=items.length->I i m H->forL ok bind (gq C b X) rest m H Q:=by
  intro rest
  induction rest with
  | nil=>
   intro i m H hr hi h
   have:i=items.length:=by
    have:=congrArg List.length hr;simp at this;lia
   subst this
   exact hend m H h
  | cons v r ih=>
   intro i m H hr hi h
   have hv:items[i]?=some v:=by
    have:=congrArg (λ l=>l[0]?) hr
    simpa using this.symm
   have hlt:i < items.length:=(List.getElem?_eq_some_iff.mp hv).1
   have hr':r=items.drop (i+1):=by
    have:(v::r).drop 1=(items.drop i).drop 1:=by rw [hr]
    simpa [List.drop_drop,Nat.add_comm] using this
   obtain ⟨h1,m',h2,h3⟩:=hbody i v m H (λ m'' H''=>forL ok bind (gq C b X) r m'' H'' Q) (λ m'' H'' hI=>ih (i+1) m'' H'' hr' (by lia) hI) (λ x m'' H''=>Q (.ret x) m'' H'') (λ z_ z_ z_ h=>h) hv h
   unfold forL
   case k74=>skip
   refine ⟨h1,?_⟩
   rw [h2]
   exact h3
 exact gen items 0 m H (by simp) (by lia) h0

theorem ze {α:Type} (l:List α):l.filter (λ z_=>true)=l:=List.filter_eq_self.mpr (by simp)

section
variable {P:Nat->Option IFn} {n:Nat} {R:RM} {H:AH} {A:Ad} {s:St} {Q:AV->AH->Prop} {X:Nat->AH->Prop}

noncomputable def yW (s:St) (k:Int):AV:=.tup [.int k,.int (s.link k).1,.int (s.link k).2.1,.int (s.link k).2.2]
noncomputable def vZ (f:Int->AV):AV->AV
 | .int k=>f k
 | _=>.none

theorem Ext0.back {H H':AH} (e:Ext0 H H') {b:Nat} (h:H' b=.none):H b=.none:=by
 cases z:H b with
 | none=>rfl
 | some o=>have:=e b o z;rw [h] at this;cases this

theorem w8 (hP:P 35=some l7) (x:Chest R H A s) (hl:s.ls.length < 64) (q:∀ a H',H a=.none->H' a=some (.list ((zA s.ls).map (yW s)))->Ext0 H H'->Q (.ref a) H'):CN P (n+1) 35 [.ref A.c] H Q X:=by
 obtain ⟨er,hr⟩:=x.l
 refine zR hP rfl ?_
 intro C_ Q_ X_ m_
 case k50=>(first | exact x.c .. | exact x.dx .. | exact xp hr ..)
 intro a ha
 have e1:Ext0 H _:=Ext0.set (o:=.list (s.ls.map .int)) ha
 have h1:(H.set a (.list (s.ls.map .int))) a=some (.list (s.ls.map .int)):=AH.set_self ..
 generalize H.set a (.list (s.ls.map .int))=H1 at e1 h1 |-
 case k50=>exact wZ h1 ..
 intro b hb
 have e2:Ext0 H1 _:=Ext0.set (o:=.list ((zA s.ls).map .int)) hb
 have h2:(H1.set b (.list ((zA s.ls).map .int))) b=some (.list ((zA s.ls).map .int)):=AH.set_self ..
 generalize H1.set b (.list ((zA s.ls).map .int))=H2 at e2 h2 |-
 case k50=>exact zC h2 ..
 refine yA (m0:=(oU l7 [.ref A.c]).set 1 .none) (H:=H2) (p:=λ z_=>true) (f:=vZ (yW s)) (λ H' e=>e _ _ h2) _ _ _ _ _ (.refl _) (λ v=>rfl) (λ v z_ H' e Q hq=>?_) (λ v hv z_ H' e Q hq=>?_) λ H' e=>?_
 ·exact hq H' (.refl _)
 ·with_reducible refine ex1 (List.mem_map.mp hv) λ k hx_=>an2 hx_ λ hk hr2_=>?_;clear hx_;subst hr2_
  have hk:=mem_sortI.mp hk
  have x':=x.ext ((e1.trans e2).trans e)
  obtain ⟨er',hr'⟩:=x'.l
  case k50=>(first | exact x'.c .. | exact x'.dx .. | exact hr' .. | exact zY hk ..)
  exact hq H' (.refl _)
 ·intro c hc
  have e3:=(e1.trans e2).trans e
  case k74=>skip
  refine q c _ (e3.back hc) ?_ (e3.trans (Ext0.set hc))
  rw [AH.set_self]
  rw [ze,List.map_map]
  rfl

noncomputable def few (o:Int):Prop:=0<=o/\o < 10 ^ 9
noncomputable def Deed.good:Deed->Prop
 | .up=>True
 | .down o=>few o
 | .hang o s _=>few o/\few s

noncomputable def St.bequeath (s:St) (b:Int) (ds:List Deed):St:={ s with ws:=delK s.ws b++(if ds=[] then [] else [b]),will:=upd s.will b ds }

theorem uG (hP:P 36=some hV) (h21:P 21=some wx) (d:Dom R H) (x:Chest R H A s) {b:Int} {D:Nat} {ds:List Deed} (hb:b∈s.ks) (hD:H D=some (.list (ds.map Deed.av))) (rD:R D=.none) (hl:ds.length<=9) (hg:∀ e∈ds,e.good) (hwl:s.ws.length < 1000)
  (q:∀ R' H' A',A'.c=A.c->Chest R' H' A' (s.bequeath b ds)->Stp isCh R H R' H'->Q .none H'):CN P (n+2) 36 [.ref A.c,.int b,.ref D] H Q X:=by
 obtain ⟨ew,hw⟩:=x.w
 refine zR hP rfl ?_
 intro C_ Q_ X_ m_
 case k50=>(first | exact x.c .. | exact x.dx ..)
 refine zd h21 x hb ?_
 have e1:decide ((9:Int) < ((ds.map Deed.av).length:Int))=false:=decide_eq_false (by simp;lia)
 case k50=>(first | exact hD .. | exact e1 .. | exact zC hD ..)
 let I120_:Nat->Loc->AH->Prop:=(λ z_ m' H'=>H'=H/\∃ a3 a4,m'=[some (.ref A.c),some (.int b),some (.ref D),a3,a4,.none,.none,.none,.none,.none,.none,.none,.none])
 refine zH I120_ (λ i v m' H' J0 hJ0 K0 hK0 hv hI=>?_) (λ m' H' hI=>?_) ⟨rfl,_,_,rfl⟩
 ·obtain ⟨rfl,a3,a4,rfl⟩:=hI
  case k74=>skip
  refine ⟨hD,_,rfl,?_⟩
  have hv:(ds.map Deed.av)[i]?=some v:=hv
  rw [List.getElem?_map] at hv
  with_reducible refine ex1 (Option.map_eq_some_iff.mp hv) λ e hx_=>an2 hx_ λ he hr2_=>?_;clear hx_;subst hr2_
  have hge:=hg e (List.mem_of_getElem? he)
  cases e with
  | up=>
   case k50=>fail
   case k74=>skip
   exact ⟨rfl,_,_,rfl⟩
  | down o=>
   have h1:decide (o < 0)=false:=decide_eq_false (by have:0<=o:=hge.1;lia)
   case k50=>exact h1 ..
   case k74=>skip
   exact ⟨rfl,_,_,rfl⟩
  | hang o t hh=>
   have h1:decide (o < 0)=false:=decide_eq_false (by have:0<=o:=hge.1.1;lia)
   have h2:decide (t < 0)=false:=decide_eq_false (by have:0<=t:=hge.2.1;lia)
   case k50=>(first | exact h1 .. | exact h2 ..)
   case k74=>skip
   exact ⟨rfl,_,_,rfl⟩
 ·obtain ⟨rfl,a3,a4,rfl⟩:=hI
  case k74=>skip
  refine ⟨hD,?_⟩
  have fin:∀ H1,Chest R H1 A { s with ws:=delK s.ws b,will:=upd s.will b ds }->Stp isCh R H' R H1->H1 D=some (.list (ds.map Deed.av))->
    WSs (CN P (n+1)) (.cons (.ite (.val (.cmp .gt (.bi .len (.cons (.var 2) .nil)) (.ci 0))) (.cons (.sit (.attr (.var 0) 5) (.var 1) (.bi .list (.cons (.var 2) .nil))) .nil) .nil) .nil)
     [some (.ref A.c),some (.int b),some (.ref D),a3,a4,.none,.none,.none,.none,.none,.none,.none,.none] H1 (λ fl z_ H=>match fl with | .ret v=>Q v H | .next=>Q .none H) (λ c z_ H=>X c H):=λ H1 x1 g1 hD1=>by
   obtain ⟨ew1,hw1⟩:=x1.w
   by_cases e:ds=[]
   ·subst e
    case k50=>exact hD1 ..
    case k74=>skip
    exact q R H1 A rfl (by unfold St.bequeath;rw [if_pos rfl,List.append_nil];exact x1) g1
   ·have e2:decide ((0:Int) < ((ds.map Deed.av).length:Int))=true:=decide_eq_true (by have:=List.length_pos_iff.mpr e;simp;lia)
    case k50=>(first | exact hD1 .. | exact e2 .. | exact yz hD1 ..)
    intro a ha
    have g2:Stp isCh R H1 (R.set a (7,b)) _:=.alloc (o:=.list (ds.map Deed.av)) g1.dom ha
    have x2:Chest (R.set a (7,b)) _ A _:=x1.alloc (o:=.list (ds.map Deed.av)) (y:=(7,b)) ha
    have h2:(H1.set a (.list (ds.map Deed.av))) a=some (.list (ds.map Deed.av)):=AH.set_self ..
    have r2:(R.set a (7,b)) a=some (7,b):=RM.set_self ..
    generalize H1.set a (.list (ds.map Deed.av))=H2 at x2 g2 h2 |-
    generalize R.set a (7,b)=R2 at x2 g2 r2
    obtain ⟨ew2,hw2⟩:=x2.w
    case k50=>(first | exact x2.c .. | exact x2.dx .. | exact hw2 ..)
    case k74=>skip
    refine ⟨?_,λ ep=>?_⟩
    ·rw [zK];show (delK s.ws b).length < _
     have:=List.length_filter_le (λ x=>!decide (x=b)) s.ws
     unfold delK lid;lia
    ·have hn:b∉delK s.ws b:=by unfold delK;simp
     case k74=>skip
     show Q .none (H2.set A.w (.dict (dset (dOf (delK s.ws b) λ k=>.ref (A.wa k)) b (.ref a)) ep))
     rw [yN hn,wL]
     have x3:=x2.setW (R':=R2) (λ z_ z_ z_=>rfl) (delK s.ws b++[b]) (upd s.will b ds) (upd A.wa b a) ep (λ k hk=>by
      by_cases z:k=b
      ·subst z
       rw [zG,zG]
       case k74=>skip
       exact ⟨h2,r2⟩
      ·rw [zM _ _ z]
       have hk:k∈delK s.ws b:=by
        rcases List.mem_append.mp hk with y | y
        ·exact y
        ·exact absurd (List.mem_singleton.mp y) z
       case k74=>skip
       exact ⟨x2.will k hk,x2.Rwill k hk⟩)
     case k74=>skip
     refine q R2 _ { A with wa:=upd A.wa b a } rfl ?_ ((g1.trans g2).trans (.set g2.dom x2.Rw (by unfold isCh;lia)))
     unfold St.bequeath
     rw [if_neg e]
     exact x3
  by_cases hbw:b∈s.ws
  ·case k50=>(first | exact x.c .. | exact x.dx .. | exact hw .. | exact zY hbw ..)
   intro ep
   rw [v9]
   have x1:=x.setW (R':=R) (λ z_ z_ z_=>rfl) (delK s.ws b) (upd s.will b ds) A.wa ep (λ k hk=>by
    have hk':=List.mem_filter.mp hk
    have:k≠b:=by simpa using hk'.2
    rw [zM _ _ this]
    case k74=>skip
    exact ⟨x.will k hk'.1,x.Rwill k hk'.1⟩)
   have nD:D≠A.w:=λ z=>by rw [z,x.Rw] at rD;cases rD
   case k74=>skip
   exact fin _ x1 (.set d x.Rw (by unfold isCh;lia)) (by rw [AH.set_ne _ _ nD];exact hD)
  ·have hd:delK s.ws b=s.ws:=List.filter_eq_self.mpr λ k hk=>by
    have:k≠b:=λ z=>hbw (by rw [<-z];exact hk)
    simpa using this
   iterate 1 (case k31=>(first | exact x.c .. | exact x.dx .. | exact hw .. | exact tN hbw ..))
   case k74=>skip
   refine fin _ ?_ (.refl d) hD
   rw [hd]
   case k74=>skip
   exact ⟨x.c,x.dx,x.r,x.h,x.l,x.w,x.row,λ k hk=>by
    have hk:k∈s.ws:=hk
    show H' (A.wa k)=some (.list ((upd s.will b ds k).map Deed.av))
    rw [zM _ _ (λ z=>hbw (by rw [<-z];exact hk))];exact x.will k hk,x.Rc,x.Rdx,x.Rr,x.Rh,x.Rl,x.Rw,x.Rrow,x.Rwill⟩

noncomputable def St.willOf (s:St) (b:Int):List Deed:=if b∈s.ws then s.will b else []

theorem uH (hP:P 37=some hY) (h21:P 21=some wx) (x:Chest R H A s) {b:Int} (hb:b∈s.ks)
  (q:∀ a H',H a=.none->H' a=some (.list ((s.willOf b).map Deed.av))->Ext0 H H'->Q (.ref a) H'):CN P (n+2) 37 [.ref A.c,.int b] H Q X:=by
 obtain ⟨ew,hw⟩:=x.w
 refine zR hP rfl ?_
 intro C_ Q_ X_ m_
 case k50=>(first | exact x.c .. | exact x.dx ..)
 refine zd h21 x hb ?_
 case k50=>(first | exact x.c .. | exact x.dx .. | exact hw ..)
 intro a ha
 have e1:Ext0 H _:=Ext0.set (o:=.list []) ha
 have h1:(H.set a (.list [])) a=some (.list []):=AH.set_self ..
 generalize H.set a (.list [])=H1 at e1 h1 |-
 have x1:=x.ext e1
 obtain ⟨ew1,hw1⟩:=x1.w
 by_cases hbw:b∈s.ws
 ·case k50=>(first | exact hw1 .. | exact jP hbw .. | exact yz (x1.will b hbw) ..)
  intro c hc
  case k74=>skip
  refine q c _ (e1.back hc) ?_ (e1.trans (Ext0.set hc))
  rw [AH.set_self];unfold St.willOf;rw [if_pos hbw]
 ·case k50=>(first | exact hw1 .. | exact jQ hbw .. | exact yz h1 ..)
  intro c hc
  case k74=>skip
  refine q c _ (e1.back hc) ?_ (e1.trans (Ext0.set hc))
  rw [AH.set_self];unfold St.willOf;rw [if_neg hbw];rfl

theorem zm {x m:Int} (hm:0 < m):0<=x.fmod m/\x.fmod m < m:=by
 rw [Int.fmod_eq_emod_of_nonneg x (by lia)]
 case k74=>skip
 exact ⟨Int.emod_nonneg _ (by lia),Int.emod_lt_of_pos _ hm⟩

noncomputable def primes:List Int:=[99991,99989,99971,99961,99929,99923,99907,99901,99881,99877,99871]
noncomputable def tP (c k m:Int):Int:=
 let d:=((c+7 * k) * 48271).fmod (primes.getD (k.fmod 11).toNat 99991)
 ((d * d * 7+d+k).fmod 1000003).fmod m
theorem zT (c k:Int) {m:Int} (hm:0 < m):0<=tP c k m/\tP c k m < m:=zm hm

theorem mS {i:Nat} (hi:i < 11):(primes.map AV.int)[i]?=some (.int (primes.getD i 99991))/\0 < primes.getD i 99991/\primes.getD i 99991 < 100000:=by
 have h:∀ j:Fin 11,0 < primes.getD j.val 99991/\primes.getD j.val 99991 < 100000:=by decide
 case k74=>skip
 refine ⟨?_,h ⟨i,hi⟩⟩
 rw [List.getElem?_map,List.getD_eq_getElem?_getD]
 have:i < primes.length:=hi
 rw [List.getElem?_eq_getElem this]
 rfl

theorem z3 (hP:P 45=some tD) {c k m:Int} (hm:0 < m) (q:∀ H',Ext0 H H'->Q (.int (tP c k m)) H'):CN P (n+1) 45 [.int c,.int k,.int m] H Q X:=by
 refine zR hP rfl ?_
 intro C_ Q_ X_ m_
 case k50=>fail
 intro a ha
 have e1:Ext0 H _:=Ext0.set (o:=.list (primes.map .int)) ha
 have h1:(H.set a (.list (primes.map .int))) a=some (.list (primes.map .int)):=AH.set_self ..
 have hH:H.set a (.list [AV.int 99991,AV.int 99989,AV.int 99971,AV.int 99961,AV.int 99929,AV.int 99923,AV.int 99907,AV.int 99901,AV.int 99881,AV.int 99877,AV.int 99871])=H.set a (.list (primes.map .int)):=rfl
 rw [hH]
 generalize H.set a (.list (primes.map .int))=H1 at e1 h1 |-
 obtain ⟨k0,k1⟩:=zm (x:=k) (m:=11) (by decide)
 with_reducible refine an3 (mS (i:=(k.fmod 11).toNat) (by omega)) λ p1 p2 p3=>?_
 have dlt:=zm (x:=(c+7 * k) * 48271) p2
 have db:(((c+7 * k) * 48271).fmod (primes.getD (k.fmod 11).toNat 99991)).natAbs < 2 ^ 60:=by omega
 case k50=>(first | exact h1 .. | exact p1 .. | exact db ..)
 case k74=>skip
 exact q H1 e1

theorem uk (hP:P 43=some l8) {l:List Int} {k:Int} (h0:0<=k) (q:Q (.int (l.getD k.toNat 0)) H):CN P (n+1) 43 [.fro (l.map .int),.int k] H Q X:=by
 refine zR hP rfl ?_
 intro C_ Q_ X_ m_
 by_cases h:k < (l.length:Int)
 ·have e1:decide (k < ((l.map AV.int).length:Int))=true:=decide_eq_true (by simpa using h)
  have e2:(l.map AV.int)[k.toNat]?=some (.int (l.getD k.toNat 0)):=by
   have:k.toNat < l.length:=by omega
   simp [List.getElem?_map,List.getElem?_eq_getElem this,List.getD]
  case k50=>exact e1 ..
  case k74=>skip
  exact q
 ·have e1:decide (k < ((l.map AV.int).length:Int))=false:=decide_eq_false (by simpa using h)
  have e2:l.getD k.toNat 0=0:=by
   have:l.length<=k.toNat:=by omega
   simp [List.getD,List.getElem?_eq_none this]
  rw [e2] at q
  case k50=>exact e1 ..
  case k74=>skip
  exact q
end

noncomputable def St.new:St:=⟨[],λ z_=>[],[],[],λ z_=>(0,0,0),[],λ z_=>[],0,0⟩

theorem Ext0.setNone {H H':AH} (e:Ext0 H H') {a:Nat} {o:AO} (ha:H a=.none):Ext0 H (H'.set a o):=λ b ob h=>by
 have hne:b≠a:=λ q=>by rw [q,ha] at h;cases h
 rw [AH.set_ne _ _ hne];exact e b ob h

noncomputable def RM.setAll (R:RM):List (Nat×(Nat×Int))->RM
 | []=>R
 | (a,y)::r=>(RM.setAll R r).set a y
theorem RM.setAll_ne (R:RM):∀ (l:List (Nat×(Nat×Int))) (b:Nat),(∀ p∈l,b≠p.1)->R.setAll l b=R b
 | [],_,_=>rfl
 | (a,y)::r,b,h=>by
  unfold RM.setAll
  rw [RM.set_ne _ _ (h _ (.head _))]
  exact RM.setAll_ne R r b λ p hp=>h p (.tail _ hp)
theorem Stp.setAll {p:Nat->Prop} {R:RM} {H H':AH} (d:Dom R H) (e:Ext0 H H') (l:List (Nat×(Nat×Int))) (hn:∀ q∈l,H q.1=.none) (ha:∀ q∈l,H' q.1≠.none):Stp p R H (R.setAll l) H':=by
 have al:∀ b,H b≠.none->H' b≠.none:=λ b h=>by
  cases z:H b with
  | none=>exact absurd z h
  | some o=>rw [e b o z];simp
 case k74=>skip
 refine ⟨λ a o h z_=>e a o h,al,λ b hb=>RM.setAll_ne R l b λ q hq z=>hb (z▸hn q hq),λ b hb=>?_⟩
 by_cases z:∃ q∈l,b=q.1
 ·with_reducible refine ex1 (z) λ q hx_=>an2 hx_ λ hq hr2_=>?_;clear hx_;(try clear z);subst hr2_
  exact ha q hq
 ·rw [RM.setAll_ne R l b λ q hq w=>z ⟨q,hq,w⟩] at hb
  exact al b (d b hb)

section
variable {P:Nat->Option IFn} {n:Nat} {R:RM} {H:AH} {A:Ad} {s:St} {Q:AV->AH->Prop} {X:Nat->AH->Prop}

structure Ini (H:AH) (x dx:Nat) (f:List (Nat×AV)) (ds:List Nat) (G:AH):Prop where
 ext:Ext0 H G
 hx:G x=some (.inst dx)
 hd:G dx=some (.ns f)
 dd:∀ a∈ds,H a=.none/\a≠x/\a≠dx/\∃ ep,G a=some (.dict [] ep)
 nd:ds.Nodup
theorem Ini.name {H G:AH} {x dx:Nat} {f f':List (Nat×AV)} {ds:List Nat} (i:Ini H x dx f ds G) (hne:x≠dx) (hdx:H dx=.none):Ini H x dx f' ds (G.set dx (.ns f')):=
 ⟨i.ext.setNone hdx,by rw [AH.set_ne _ _ hne];exact i.hx,AH.set_self ..,λ a ha=>by
  obtain ⟨h1,h2,h3,ep,h4⟩:=i.dd a ha
  case k74=>skip
  exact ⟨h1,h2,h3,ep,by rw [AH.set_ne _ _ h3];exact h4⟩,i.nd⟩
theorem Ini.dict {H G:AH} {x dx a ep:Nat} {f:List (Nat×AV)} {ds:List Nat} (i:Ini H x dx f ds G) (ha:G a=.none):Ini H x dx f (a::ds) (G.set a (.dict [] ep)):=by
 have e:Ext0 G (G.set a (.dict [] ep)):=Ext0.set ha
 case k74=>skip
 refine ⟨i.ext.trans e,e _ _ i.hx,e _ _ i.hd,λ b hb=>?_,List.nodup_cons.mpr ⟨λ z=>?_,i.nd⟩⟩
 ·rcases List.mem_cons.mp hb with z | z
  ·rw [z]
   case k74=>skip
   exact ⟨i.ext.back ha,λ z=>(by rw [z,i.hx] at ha;cases ha),λ z=>(by rw [z,i.hd] at ha;cases ha),ep,AH.set_self ..⟩
  ·obtain ⟨h1,h2,h3,ep',h4⟩:=i.dd b z
   case k74=>skip
   exact ⟨h1,h2,h3,ep',e _ _ h4⟩
 ·obtain ⟨_,_,_,ep',h4⟩:=i.dd a z
  rw [ha] at h4;cases h4
theorem mX {C:Calls} {H G:AH} {x dx k:Nat} {v:Int} {f:List (Nat×AV)} {ds:List Nat} {r:ISs} {Q:Fl->Loc->AH->Prop} {X:Nat->Loc->AH->Prop} (hne:x≠dx) (hdx:H dx=.none) (i:Ini H x dx f ds G)
  (q:∀ G',Ini H x dx (nset f k (.int v)) ds G'->WSs C r [some (.ref x),.none,.none,.none,.none,.none,.none,.none,.none] G' Q X):WSs C (.cons (.sat (.var 0) k (.ci v)) r) [some (.ref x),.none,.none,.none,.none,.none,.none,.none,.none] G Q X:=by
 show match G x with | some (.inst dx)=>_ | _=>False
 rw [i.hx]
 show match G dx with | some (.ns f)=>_ | _=>False
 rw [i.hd]
 case k74=>skip
 exact q _ (i.name hne hdx)
theorem vc {C:Calls} {H G:AH} {x dx k:Nat} {f:List (Nat×AV)} {ds:List Nat} {r:ISs} {Q:Fl->Loc->AH->Prop} {X:Nat->Loc->AH->Prop} (hne:x≠dx) (hdx:H dx=.none) (i:Ini H x dx f ds G)
  (q:∀ a G',Ini H x dx (nset f k (.ref a)) (a::ds) G'->WSs C r [some (.ref x),.none,.none,.none,.none,.none,.none,.none,.none] G' Q X):WSs C (.cons (.sat (.var 0) k .dict) r) [some (.ref x),.none,.none,.none,.none,.none,.none,.none,.none] G Q X:=by
 intro a ep ha
 have i1:=i.dict (ep:=ep) ha
 generalize G.set a (.dict [] ep)=G1 at i1 |-
 show match G1 x with | some (.inst dx)=>_ | _=>False
 rw [i1.hx]
 show match G1 dx with | some (.ns f)=>_ | _=>False
 rw [i1.hd]
 case k74=>skip
 exact q a _ (i1.name hne hdx)

theorem mZ (hP:P 20=some im) (d:Dom R H) {x dx:Nat} (hne:x≠dx) (hx:H x=.none) (hdx:H dx=.none)
  (q:∀ R' H' A',A'.c=x->Chest R' H' A' St.new->Stp isCh R H R' H'->Q .none H'):CN P (n+1) 20 [.ref x] ((H.set dx (.ns [])).set x (.inst dx)) Q X:=by
 have e0:Ext0 H ((H.set dx (.ns [])).set x (.inst dx)):=((Ext0.refl H).setNone hdx).setNone hx
 have hx0:((H.set dx (.ns [])).set x (.inst dx)) x=some (.inst dx):=AH.set_self ..
 have hd0:((H.set dx (.ns [])).set x (.inst dx)) dx=some (.ns []):=by rw [AH.set_ne _ _ (Ne.symm hne),AH.set_self]
 generalize (H.set dx (.ns [])).set x (.inst dx)=G at e0 hx0 hd0 |-
 refine zR hP rfl (mX hne hdx ⟨e0,hx0,hd0,λ z_ h=>absurd h List.not_mem_nil,List.nodup_nil⟩ λ G1 i1=>mX hne hdx i1 λ G2 i2=>vc hne hdx i2 λ a2 G3 i3=>vc hne hdx i3 λ a3 G4 i4=>vc hne hdx i4 λ a4 G5 i5=>vc hne hdx i5 λ a5 G6 i6=>?_)
 clear i1 i2 i3 i4 i5 e0 hx0 hd0
 obtain ⟨n5,nx5,nd5,ep5,k5⟩:=i6.dd a5 (.head _)
 obtain ⟨n4,nx4,nd4,ep4,k4⟩:=i6.dd a4 (.tail _ (.head _))
 obtain ⟨n3,nx3,nd3,ep3,k3⟩:=i6.dd a3 (.tail _ (.tail _ (.head _)))
 obtain ⟨n2,nx2,nd2,ep2,k2⟩:=i6.dd a2 (.tail _ (.tail _ (.tail _ (.head _))))
 have r:∀ (R':RM),R'=R.setAll [(x,(0,0)),(dx,(1,0)),(a2,(2,0)),(a3,(3,0)),(a4,(4,0)),(a5,(5,0))]->R' x=some (0,0)/\R' dx=some (1,0)/\R' a2=some (2,0)/\R' a3=some (3,0)/\R' a4=some (4,0)/\R' a5=some (5,0):=by
  have nd:=i6.nd
  simp only [List.nodup_cons,List.mem_cons,List.not_mem_nil,or_false,not_or,List.nodup_nil,and_true,not_false_eq_true] at nd
  obtain ⟨⟨m1,m2,m3⟩,⟨m4,m5⟩,m6⟩:=nd
  rintro _ rfl
  case k74=>skip
  exact ⟨RM.set_self ..,by rw [RM.setAll,RM.set_ne _ _ (Ne.symm hne),RM.setAll,RM.set_self],by rw [RM.setAll,RM.set_ne _ _ nx2,RM.setAll,RM.set_ne _ _ nd2,RM.setAll,RM.set_self],
   by rw [RM.setAll,RM.set_ne _ _ nx3,RM.setAll,RM.set_ne _ _ nd3,RM.setAll,RM.set_ne _ _ m6,RM.setAll,RM.set_self],
   by rw [RM.setAll,RM.set_ne _ _ nx4,RM.setAll,RM.set_ne _ _ nd4,RM.setAll,RM.set_ne _ _ m5,RM.setAll,RM.set_ne _ _ m4,RM.setAll,RM.set_self],
   by rw [RM.setAll,RM.set_ne _ _ nx5,RM.setAll,RM.set_ne _ _ nd5,RM.setAll,RM.set_ne _ _ m3,RM.setAll,RM.set_ne _ _ m2,RM.setAll,RM.set_ne _ _ m1,RM.setAll,RM.set_self]⟩
 with_reducible refine an6 (r _ rfl) λ r1 r2 r3 r4 r5 r6=>?_
 have al:∀ {a:Nat} {o:AO},G6 a=some o->G6 a≠.none:=λ h z=>by rw [h] at z;cases z
 case k74=>skip
 exact q _ _ ⟨x,dx,a2,a3,a4,a5,λ z_=>0,λ z_=>0⟩ rfl ⟨i6.hx,i6.hd,⟨_,k2⟩,⟨_,k3⟩,⟨_,k4⟩,⟨_,k5⟩,(λ k hk=>absurd hk List.not_mem_nil),(λ k hk=>absurd hk List.not_mem_nil),r1,r2,r3,r4,r5,r6,(λ k hk=>absurd hk List.not_mem_nil),(λ k hk=>absurd hk List.not_mem_nil)⟩
  (.setAll d i6.ext _ (List.forall_mem_cons.mpr ⟨hx,List.forall_mem_cons.mpr ⟨hdx,List.forall_mem_cons.mpr ⟨n2,List.forall_mem_cons.mpr ⟨n3,List.forall_mem_cons.mpr ⟨n4,List.forall_mem_cons.mpr ⟨n5,λ z_ h=>absurd h List.not_mem_nil⟩⟩⟩⟩⟩⟩)
   (List.forall_mem_cons.mpr ⟨al i6.hx,List.forall_mem_cons.mpr ⟨al i6.hd,List.forall_mem_cons.mpr ⟨al k2,List.forall_mem_cons.mpr ⟨al k3,List.forall_mem_cons.mpr ⟨al k4,List.forall_mem_cons.mpr ⟨al k5,λ z_ h=>absurd h List.not_mem_nil⟩⟩⟩⟩⟩⟩))
end

structure Wd where
 wl:Nat
 w0:Nat
 w1:Nat
 w2:Nat
 w3:Nat
 w4:Nat
 ra:Int->Nat
 wa:Int->Nat

section
variable {R:RM} {H:AH} {B:Wd} {s:St}

end

inductive Cmd where
 | make (size:Int)
 | put (b i o:Int) (h:Bool)
 | empty (b i:Int)
 | take (b:Int)
 | drop (b:Int)
 | pair (b k o:Int)
 | unpair (p:Int)
 | bequeath (b:Int) (ds:List Deed)
inductive IsCmd (H:AH) (R:RM):Cmd->AV->Prop
 | make (size:Int):IsCmd H R (.make size) (.tup [.str "make",.int size])
 | put (b i o:Int) (h:Bool):IsCmd H R (.put b i o h) (.tup [.str "put",.int b,.int i,.int o,.bool h])
 | empty (b i:Int):IsCmd H R (.empty b i) (.tup [.str "empty",.int b,.int i])
 | take (b:Int):IsCmd H R (.take b) (.tup [.str "take",.int b])
 | drop (b:Int):IsCmd H R (.drop b) (.tup [.str "drop",.int b])
 | pair (b k o:Int):IsCmd H R (.pair b k o) (.tup [.str "pair",.int b,.int k,.int o])
 | unpair (p:Int):IsCmd H R (.unpair p) (.tup [.str "unpair",.int p])
 | bequeath {b:Int} {ds:List Deed} {D:Nat}:H D=some (.list (ds.map Deed.av))->R D=.none->IsCmd H R (.bequeath b ds) (.tup [.str "bequeath",.int b,.ref D])

noncomputable def St.app (s:St):Cmd->St
 | .make size=>s.make size
 | .put b i o h=>{ s with row:=upd s.row b ((s.row b).set i.toNat (some (o,h))) }
 | .empty b i=>{ s with row:=upd s.row b ((s.row b).set i.toNat .none) }
 | .take b=>{ s with hs:=addK s.hs b }
 | .drop b=>{ s with hs:=delK s.hs b }
 | .pair b k o=>s.pair (b,k,o)
 | .unpair p=>{ s with ls:=delK s.ls p }
 | .bequeath b ds=>s.bequeath b ds
noncomputable def St.can (s:St):Cmd->Prop
 | .make size=>0<=size/\size<=9/\s.ks.length < 60
 | .put b i o _=>b∈s.ks/\0<=i/\i < (s.row b).length/\o∈s.ks
 | .empty b i=>b∈s.ks/\0<=i/\i < (s.row b).length
 | .take b=>b∈s.ks
 | .drop b=>b∈s.ks/\b∈s.hs
 | .pair b k o=>b∈s.ks/\k∈s.ks/\o∈s.ks/\s.ls.length < 60
 | .unpair p=>p∈s.ls
 | .bequeath b ds=>b∈s.ks/\ds.length<=9/\∀ e∈ds,e.good
structure St.Ok (s:St):Prop where
 kn:∀ k∈s.ks,0<=k/\k < s.nb
 ln:∀ k∈s.ls,0<=k/\k < s.np
 nb:0<=s.nb
 np:0<=s.np
 kl:s.ks.length<=60
 ll:s.ls.length<=60
 ku:s.ks.Nodup
 hu:s.hs.Nodup
 lu:s.ls.Nodup
 wu:s.ws.Nodup
 hk:∀ k∈s.hs,k∈s.ks
 wk:∀ k∈s.ws,k∈s.ks
 rl:∀ k∈s.ks,(s.row k).length<=9
 ro:∀ k∈s.ks,∀ o h,some (o,h)∈s.row k->o∈s.ks
 lo:∀ p∈s.ls,(s.link p).1∈s.ks/\(s.link p).2.1∈s.ks/\(s.link p).2.2∈s.ks

theorem yD:∀ {a b:List Int},a.Nodup->(∀ x∈a,x∈b)->a.length<=b.length
 | [],_,_,_=>Nat.zero_le _
 | x::r,b,ha,h=>by
  have hx:=h x (.head _)
  have:=yD (a:=r) (b:=b.erase x) (List.nodup_cons.mp ha).2 λ y hy=>by
   have hne:y≠x:=λ z=>(List.nodup_cons.mp ha).1 (by rw [<-z];exact hy)
   exact (List.mem_erase_of_ne hne).mpr (h y (.tail _ hy))
  rw [List.length_erase_of_mem hx] at this
  have hp:=List.length_pos_of_mem hx
  simp only [List.length_cons]
  omega
set_option tactic.hygienic true in
theorem mem_addK {ks:List Int} {k x:Int}:x∈addK ks k↔x=k\/x∈ks:=by
 unfold addK
 split
 ·rename_i h
  constructor
  ·exact .inr
  ·rintro (rfl | h')<;>assumption
 ·simp [or_comm]
theorem mem_delK {ks:List Int} {k x:Int}:x∈delK ks k↔x∈ks/\x≠k:=by unfold delK;simp
set_option tactic.hygienic true in
theorem xA {ks:List Int} {k:Int} (h:ks.Nodup):(addK ks k).Nodup:=by
 unfold addK
 split
 ·exact h
 ·rename_i hk
  rw [List.nodup_append]
  case k74=>skip
  exact ⟨h,by simp,λ a ha b hb=>by rw [List.mem_singleton.mp hb];exact λ z=>hk (z▸ha)⟩
theorem xt {ks:List Int} {k:Int} (h:ks.Nodup):(delK ks k).Nodup:=h.filter _
theorem rU (ks:List Int) (k:Int):(delK ks k).length<=ks.length:=List.length_filter_le _ _

theorem St.Ok.app {s:St} (h:s.Ok) {c:Cmd} (hc:s.can c):(s.app c).Ok:=by
 cases c with
 | make size=>
  obtain ⟨h0,h9,hl⟩:=hc
  have nn:s.nb∉s.ks:=λ z=>by have:=h.kn _ z;lia
  case k74=>skip
  refine ⟨λ k hk=>?_,h.ln,by show 0<=s.nb+1;have:=h.nb;lia,h.np,by show (s.ks++[s.nb]).length<=60;simp;lia,h.ll,?_,xA h.hu,h.lu,h.wu,λ k hk=>?_,λ k hk=>List.mem_append_left _ (h.wk k hk),λ k hk=>?_,λ k hk o hh hm=>?_,λ p hp=>?_⟩
  ·rcases List.mem_append.mp hk with z | z
   ·have:=h.kn k z;exact ⟨this.1,by show k < s.nb+1;lia⟩
   ·rw [List.mem_singleton.mp z];exact ⟨h.nb,by show s.nb < s.nb+1;lia⟩
  ·show (s.ks++[s.nb]).Nodup
   rw [List.nodup_append]
   case k74=>skip
   exact ⟨h.ku,by simp,λ a ha b hb=>by rw [List.mem_singleton.mp hb];exact λ z=>nn (z▸ha)⟩
  ·rcases mem_addK.mp hk with rfl | z
   ·exact List.mem_append_right _ (.head _)
   ·exact List.mem_append_left _ (h.hk k z)
  ·show (upd s.row s.nb _ k).length<=9
   by_cases e:k=s.nb
   ·subst e;rw [zG];simp;lia
   ·rw [zM _ _ e]
    rcases List.mem_append.mp hk with z | z
    ·exact h.rl k z
    ·exact absurd (List.mem_singleton.mp z) e
  ·replace hm:some (o,hh)∈upd s.row s.nb (List.replicate size.toNat .none) k:=hm
   by_cases e:k=s.nb
   ·subst e;rw [zG] at hm;simp at hm
   ·rw [zM _ _ e] at hm
    rcases List.mem_append.mp hk with z | z
    ·exact List.mem_append_left _ (h.ro k z o hh hm)
    ·exact absurd (List.mem_singleton.mp z) e
  ·obtain ⟨a,b,c⟩:=h.lo p hp
   case k74=>skip
   exact ⟨List.mem_append_left _ a,List.mem_append_left _ b,List.mem_append_left _ c⟩
 | put b i o hh=>
  obtain ⟨hb,h0,h1,ho⟩:=hc
  case k74=>skip
  refine ⟨h.kn,h.ln,h.nb,h.np,h.kl,h.ll,h.ku,h.hu,h.lu,h.wu,h.hk,h.wk,λ k hk=>?_,λ k hk o' h' hm=>?_,h.lo⟩
  ·show (upd s.row b _ k).length<=9
   by_cases e:k=b
   ·subst e;rw [zG,List.length_set];exact h.rl k hk
   ·rw [zM _ _ e];exact h.rl k hk
  ·replace hm:some (o',h')∈upd s.row b ((s.row b).set i.toNat (some (o,hh))) k:=hm
   by_cases e:k=b
   ·subst e;rw [zG] at hm
    rcases List.mem_or_eq_of_mem_set hm with z | z
    ·exact h.ro k hk o' h' z
    ·cases z;exact ho
   ·rw [zM _ _ e] at hm;exact h.ro k hk o' h' hm
 | empty b i=>
  obtain ⟨hb,h0,h1⟩:=hc
  case k74=>skip
  refine ⟨h.kn,h.ln,h.nb,h.np,h.kl,h.ll,h.ku,h.hu,h.lu,h.wu,h.hk,h.wk,λ k hk=>?_,λ k hk o' h' hm=>?_,h.lo⟩
  ·show (upd s.row b _ k).length<=9
   by_cases e:k=b
   ·subst e;rw [zG,List.length_set];exact h.rl k hk
   ·rw [zM _ _ e];exact h.rl k hk
  ·replace hm:some (o',h')∈upd s.row b ((s.row b).set i.toNat .none) k:=hm
   by_cases e:k=b
   ·subst e;rw [zG] at hm
    rcases List.mem_or_eq_of_mem_set hm with z | z
    ·exact h.ro k hk o' h' z
    ·cases z
   ·rw [zM _ _ e] at hm;exact h.ro k hk o' h' hm
 | take b=>
  case k74=>skip
  refine ⟨h.kn,h.ln,h.nb,h.np,h.kl,h.ll,h.ku,xA h.hu,h.lu,h.wu,λ k hk=>?_,h.wk,h.rl,h.ro,h.lo⟩
  rcases mem_addK.mp hk with rfl | z
  ·exact hc
  ·exact h.hk k z
 | drop b=>exact ⟨h.kn,h.ln,h.nb,h.np,h.kl,h.ll,h.ku,xt h.hu,h.lu,h.wu,λ k hk=>h.hk k (mem_delK.mp hk).1,h.wk,h.rl,h.ro,h.lo⟩
 | pair b k o=>
  obtain ⟨hb,hk,ho,hl⟩:=hc
  have nn:s.np∉s.ls:=λ z=>by have:=h.ln _ z;lia
  case k74=>skip
  refine ⟨h.kn,λ p hp=>?_,h.nb,by show 0<=s.np+1;have:=h.np;lia,h.kl,by show (s.ls++[s.np]).length<=60;simp;lia,h.ku,h.hu,?_,h.wu,h.hk,h.wk,h.rl,h.ro,λ p hp=>?_⟩
  ·rcases List.mem_append.mp hp with z | z
   ·have:=h.ln p z;exact ⟨this.1,by show p < s.np+1;lia⟩
   ·rw [List.mem_singleton.mp z];exact ⟨h.np,by show s.np < s.np+1;lia⟩
  ·show (s.ls++[s.np]).Nodup
   rw [List.nodup_append]
   case k74=>skip
   exact ⟨h.lu,by simp,λ a ha b hb=>by rw [List.mem_singleton.mp hb];exact λ z=>nn (z▸ha)⟩
  ·show (upd s.link s.np (b,k,o) p).1∈s.ks/\(upd s.link s.np (b,k,o) p).2.1∈s.ks/\(upd s.link s.np (b,k,o) p).2.2∈s.ks
   by_cases e:p=s.np
   ·subst e;rw [zG];exact ⟨hb,hk,ho⟩
   ·rw [zM _ _ e]
    rcases List.mem_append.mp hp with z | z
    ·exact h.lo p z
    ·exact absurd (List.mem_singleton.mp z) e
 | unpair p=>exact ⟨h.kn,λ k hk=>h.ln k (mem_delK.mp hk).1,h.nb,h.np,h.kl,Nat.le_trans (rU _ _) h.ll,h.ku,h.hu,xt h.lu,h.wu,h.hk,h.wk,h.rl,h.ro,λ k hk=>h.lo k (mem_delK.mp hk).1⟩
 | bequeath b ds=>
  have hb:b∈s.ks:=hc.1
  case k74=>skip
  refine ⟨h.kn,h.ln,h.nb,h.np,h.kl,h.ll,h.ku,h.hu,h.lu,?_,h.hk,λ k hk=>?_,h.rl,h.ro,h.lo⟩
  ·show (delK s.ws b++_).Nodup
   split
   ·rw [List.append_nil];exact xt h.wu
   ·rw [List.nodup_append]
    case k74=>skip
    exact ⟨xt h.wu,by simp,λ x hx y hy=>by rw [List.mem_singleton.mp hy];exact (mem_delK.mp hx).2⟩
  ·replace hk:k∈delK s.ws b++(if ds=[] then [] else [b]):=hk
   rcases List.mem_append.mp hk with z | z
   ·exact h.wk k (mem_delK.mp z).1
   ·split at z
    ·cases z
    ·rw [List.mem_singleton.mp z];exact hb

noncomputable def Cmd.ans (s:St):Cmd->AV
 | .make _=>.int s.nb
 | .pair ..=>.int s.np
 | _=>.none
section
variable {P:Nat->Option IFn} {n:Nat} {R:RM} {H:AH} {A:Ad} {s:St} {Q:AV->AH->Prop} {X:Nat->AH->Prop}

structure yB (P:Nat->Option IFn):Prop where
 h20:P 20=some im
 h21:P 21=some wx
 h22:P 22=some pA
 h23:P 23=some ip
 h24:P 24=some iu
 h25:P 25=some iv
 h26:P 26=some iw
 h27:P 27=some iy
 h28:P 28=some iz
 h29:P 29=some hA
 h31:P 31=some hF
 h32:P 32=some hJ
 h33:P 33=some hO
 h34:P 34=some hS
 h35:P 35=some l7
 h36:P 36=some hV
 h37:P 37=some hY

theorem St.Ok.lens {s:St} (h:s.Ok):s.hs.length<=60/\s.ws.length<=60:=
 ⟨Nat.le_trans (yD h.hu h.hk) h.kl,Nat.le_trans (yD h.wu h.wk) h.kl⟩

theorem wM (h47:P 47=some l9) (p:yB P) (d:Dom R H) (x:Chest R H A s) (ok:s.Ok) {c:Cmd} {v:AV} (hc:s.can c) (hv:IsCmd H R c v)
  (q:∀ R' H' A',A'.c=A.c->Chest R' H' A' (s.app c)->Stp isCh R H R' H'->Q (c.ans s) H'):CN P (n+4) 47 [.ref A.c,v] H Q X:=by
 obtain ⟨l1,l2⟩:=ok.lens
 have li:lid=100000:=rfl
 refine zR h47 rfl ?_
 intro C_ Q_ X_ m_
 revert hc q
 induction hv with
 | make size=>
  intro hc q
  refine xS rfl ?_
  case k50=>(first | exact x.c .. | exact x.dx ..)
  exact gh (n:=n+2) p.h23 d x hc.1 hc.2.1 hc.2.2 (by lia) (λ z=>by have:=ok.kn _ z;lia) λ R' H' A' e x' g=>q R' H' A' e x' g
 | put b i o h=>
  intro hc q
  refine zX rfl (by decide) ?_
  refine xS rfl ?_
  case k50=>(first | exact x.c .. | exact x.dx ..)
  exact iT (n:=n) p.h26 p.h21 p.h22 d x hc.1 hc.2.1 hc.2.2.1 hc.2.2.2 λ H' x' g=>q R H' A rfl x' g
 | empty b i=>
  intro hc q
  refine zX rfl (by decide) ?_
  refine zX rfl (by decide) ?_
  refine xS rfl ?_
  case k50=>(first | exact x.c .. | exact x.dx ..)
  exact qe (n:=n) p.h27 p.h21 p.h22 d x hc.1 hc.2.1 hc.2.2 λ H' x' g=>q R H' A rfl x' g
 | take b=>
  intro hc q
  refine zX rfl (by decide) ?_
  refine zX rfl (by decide) ?_
  refine zX rfl (by decide) ?_
  refine xS rfl ?_
  case k50=>(first | exact x.c .. | exact x.dx ..)
  exact mP (n:=n+1) p.h29 p.h21 d x hc (by lia) λ H' x' g=>q R H' A rfl x' g
 | drop b=>
  intro hc q
  refine zX rfl (by decide) ?_
  refine zX rfl (by decide) ?_
  refine zX rfl (by decide) ?_
  refine zX rfl (by decide) ?_
  refine xS rfl ?_
  case k50=>(first | exact x.c .. | exact x.dx ..)
  exact mQ (n:=n+1) p.h31 p.h21 d x hc.1 hc.2 λ H' x' g=>q R H' A rfl x' g
 | pair b k o=>
  intro hc q
  refine zX rfl (by decide) ?_
  refine zX rfl (by decide) ?_
  refine zX rfl (by decide) ?_
  refine zX rfl (by decide) ?_
  refine zX rfl (by decide) ?_
  refine xS rfl ?_
  case k50=>(first | exact x.c .. | exact x.dx ..)
  exact gi (n:=n+1) p.h33 p.h21 d x hc.1 hc.2.1 hc.2.2.1 hc.2.2.2 (λ z=>by have:=ok.ln _ z;lia) λ H' x' g=>q R H' A rfl x' g
 | unpair k=>
  intro hc q
  refine zX rfl (by decide) ?_
  refine zX rfl (by decide) ?_
  refine zX rfl (by decide) ?_
  refine zX rfl (by decide) ?_
  refine zX rfl (by decide) ?_
  refine zX rfl (by decide) ?_
  refine xS rfl ?_
  case k50=>(first | exact x.c .. | exact x.dx ..)
  exact sV (n:=n+2) p.h34 d x hc λ H' x' g=>q R H' A rfl x' g
 | @bequeath b ds D hD rD=>
  intro hc q
  refine zX rfl (by decide) ?_
  refine zX rfl (by decide) ?_
  refine zX rfl (by decide) ?_
  refine zX rfl (by decide) ?_
  refine zX rfl (by decide) ?_
  refine zX rfl (by decide) ?_
  refine zX rfl (by decide) ?_
  case k50=>(first | exact x.c .. | exact x.dx .. | exact yz hD ..)
  intro a ha
  have e1:Ext0 H _:=Ext0.set (o:=.list (ds.map Deed.av)) ha
  have h1:(H.set a (.list (ds.map Deed.av))) a=some (.list (ds.map Deed.av)):=AH.set_self ..
  have ra:=d.free ha
  generalize H.set a (.list (ds.map Deed.av))=H1 at e1 h1 |-
  have x1:=x.ext e1
  have g1:Stp isCh R H R H1:=.ext d e1
  case k50=>(first | exact x1.c .. | exact x1.dx ..)
  refine uG (n:=n+1) p.h36 p.h21 g1.dom x1 hc.1 h1 ra hc.2.1 hc.2.2 (by lia) λ R' H' A' e x' g=>?_
  case k74=>skip
  exact q R' H' A' e x' (g1.trans g)
theorem rV (h47:P 47=some l9) (p:yB P) (d:Dom R H) (x:Chest R H A s) (ok:s.Ok) {c:Cmd} {v:AV} (hc:s.can c) (hv:IsCmd H R c v)
  (q:∀ r R' H' A',A'.c=A.c->Chest R' H' A' (s.app c)->Stp isCh R H R' H'->Q r H'):CN P (n+4) 47 [.ref A.c,v] H Q X:=wM h47 p d x ok hc hv λ R' H' A' e x g=>q _ R' H' A' e x g
end

theorem uI (a b:Int):PyData.eqv (.int a) (.int b)=decide (a=b):=rfl

section
variable {P:Nat->Option IFn} {n:Nat} {R:RM} {H:AH} {B:Wd} {s:St} {Q:AV->AH->Prop} {X:Nat->AH->Prop}

end

theorem xT {H:AH} {a b:Nat} {o:AO} (h1:H a=.none) (h2:H b=some o):a≠b:=λ z=>by rw [z,h2] at h1;cases h1

section
variable {P:Nat->Option IFn} {n:Nat} {R:RM} {H:AH} {A:Ad} {s:St} {Q:AV->AH->Prop} {X:Nat->AH->Prop}


theorem xb {a b:Int} {i:Nat} {v:AV} (h:(zJ a b)[i]?=some v):i < (b - a).toNat/\v=.int (a+(i:Int)):=by
 unfold zJ at h
 rw [List.getElem?_map] at h
 with_reducible refine ex1 (Option.map_eq_some_iff.mp h) λ k hx_=>an2 hx_ λ hk hr2_=>?_;clear hx_;subst hr2_
 obtain ⟨h1,h2⟩:=List.getElem?_eq_some_iff.mp hk
 simp at h1 h2
 subst h2
 case k74=>skip
 exact ⟨by lia,rfl⟩

theorem uJ {C:Calls} {s:IS} {r:ISs} {m:Loc} {H:AH} {Q:Fl->Loc->AH->Prop} {X:Nat->Loc->AH->Prop} (I:Loc->AH->Prop) (h1:∀ J:Fl->Loc->AH->Prop,(∀ f m' H',(f=.next/\I m' H')->J f m' H')->WSs C (.cons s .nil) m H J X) (h2:∀ m' H',I m' H'->WSs C r m' H' Q X):WSs C (.cons s r) m H Q X:=by
 have:=h1 (sq C r Q X) (λ f m' H' ⟨e,h⟩=>by subst e;exact h2 m' H' h)
 case k74=>skip
 exact this
theorem yp {l:List Int} {i:Int} (h0:0<=i) (h1:i < l.length):∃ v,(l.map AV.int)[i.toNat]?=some (.int v)/\v∈l:=by
 have:i.toNat < l.length:=by omega
 case k74=>skip
 exact ⟨l[i.toNat],by simp [List.getElem?_eq_getElem this],List.getElem_mem this⟩

theorem pU (h49:P 49=some oV) (h45:P 45=some tD) {bs:List Int} {Bb:Nat} {c co:Int} (hB:H Bb=some (.list (bs.map .int))) (hb0:bs≠[]) (hb:∀ b∈bs,few b) (hco:0<=co/\co<=10 ^ 8)
  (q:∀ (D:Nat) (H':AH) (ds:List Deed),H D=.none->H' D=some (.list (ds.map Deed.av))->ds.length<=9->(∀ e∈ds,e.good)->Ext0 H H'->Q (.ref D) H'):CN P (n+2) 49 [.ref Bb,.int c,.int co] H Q X:=by
 have bl:0 < (bs.length:Int):=by have:=List.length_pos_iff.mpr hb0;lia
 refine zR h49 rfl ?_
 intro C_ Q_ X_ m_
 case k50=>fail
 intro D hD
 have eD:Ext0 H _:=Ext0.set (o:=.list []) hD
 have kD:(H.set D (.list [])) D=some (.list []):=AH.set_self ..
 generalize H.set D (.list [])=H1 at eD kD |-
 case k50=>fail
 intro t ht
 have et:Ext0 H1 _:=Ext0.set (o:=.list [.int 1,.int 1,.int 2,.int 3,.int 9,.int 2,.int 1]) ht
 have kt:(H1.set t (.list [.int 1,.int 1,.int 2,.int 3,.int 9,.int 2,.int 1])) t=some (.list [.int 1,.int 1,.int 2,.int 3,.int 9,.int 2,.int 1]):=AH.set_self ..
 have kD:=et _ _ kD
 have e2:=eD.trans et
 generalize H1.set t (.list [.int 1,.int 1,.int 2,.int 3,.int 9,.int 2,.int 1])=H2 at et kt kD e2 |-
 case k50=>fail
 refine z3 (n:=n) h45 (by decide) λ H3 e3=>?_
 obtain ⟨i0,i1⟩:=zT c 1 (m:=7) (by decide)
 have kt:=e3 _ _ kt
 have kD:=e3 _ _ kD
 have e3:=e2.trans e3
 obtain ⟨w,hw,hwm⟩:=yp (l:=[1,1,2,3,9,2,1]) i0 i1
 have hw9:0<=w/\w<=9:=(by decide:∀ o∈([1,1,2,3,9,2,1]:List Int),0<=o/\o<=9) w hwm
 case k50=>(first | exact kt .. | exact i0 .. | exact hw ..)
 let I49_:Nat->Loc->AH->Prop:=(λ i m' H'=>∃ (ds:List Deed) (a4 a5 a6:Option AV),m'=[some (.ref Bb),some (.int c),some (.int co),some (.ref D),a4,a5,a6,.none,.none,.none,.none,.none,.none,.none,.none]/\Ext0 H H'/\H' D=some (.list (ds.map Deed.av))/\ds.length=i/\∀ e∈ds,e.good)
 refine zH I49_ (λ i v m' H' J0 hJ0 K0 hK0 hv hI=>?_) (λ m' H' hI=>?_) ⟨[],_,_,_,rfl,e3,kD,rfl,by intro e he;cases he⟩
 ·with_reducible refine ex4 (hI) λ ds a4 a5 a6 hx_=>an5 hx_ λ hr4_ eH kD hl hg=>?_;clear hx_;(try clear hI);subst hr4_
  case k74=>skip
  refine ⟨trivial,_,rfl,?_⟩
  have hi:i < (w - 0).toNat/\v=.int (0+(i:Int)):=xb hv
  obtain ⟨hi,rfl⟩:=hi
  let I54_:Loc->AH->Prop:=(λ m' H'=>∃ o:Int,few o/\m'=[some (.ref Bb),some (.int c),some (.int co),some (.ref D),some (.int (0+(i:Int))),some (.int o),a6,.none,.none,.none,.none,.none,.none,.none,.none]/\Ext0 H H'/\H' D=some (.list (ds.map Deed.av)))
  refine uJ I54_ (λ J0 hJ0=>?_) ?_
  ·have hB1:=eH _ _ hB
   case k50=>exact hB1 ..
   refine z3 (n:=n) h45 (by simpa using bl) λ H4 e4=>?_
   have hB2:=e4 _ _ hB1
   obtain ⟨j0,j1⟩:=zT (c+(0+(i:Int))) 2 (m:=((bs.map AV.int).length:Int)) (by simpa using bl)
   with_reducible refine ex1 (yp (l:=bs) j0 (by simpa using j1)) λ o hx_=>an2 hx_ λ ho hom=>?_;clear hx_
   case k50=>(first | exact hB2 .. | exact ho .. | exact j0 ..)
   case k74=>skip
   exact ⟨rfl,o,hb o hom,rfl,eH.trans e4,e4 _ _ kD⟩
  ·rintro m1 H1' ⟨o,ho,rfl,eH1,kD1⟩
   let I64_:Loc->AH->Prop:=(λ m' H'=>∃ o:Int,few o/\m'=[some (.ref Bb),some (.int c),some (.int co),some (.ref D),some (.int (0+(i:Int))),some (.int o),a6,.none,.none,.none,.none,.none,.none,.none,.none]/\Ext0 H H'/\H' D=some (.list (ds.map Deed.av)))
   refine uJ I64_ (λ J0 hJ0=>?_) ?_
   ·case k50=>fail
    refine z3 (n:=n) h45 (by decide) λ H4 e4=>?_
    case k50=>fail
    refine zf (λ z_=>?_) (λ z_=>?_)
    ·case k50=>fail
     intro u hu
     have eu:Ext0 H4 _:=Ext0.set (o:=.list [.int co,.int (co+7),.int 999999]) hu
     have ku:(H4.set u (.list [.int co,.int (co+7),.int 999999])) u=some (.list [.int co,.int (co+7),.int 999999]):=AH.set_self ..
     generalize H4.set u (.list [.int co,.int (co+7),.int 999999])=H5 at eu ku |-
     case k50=>fail
     refine z3 (n:=n) h45 (by decide) λ H6 e6=>?_
     have ku6:=e6 _ _ ku
     obtain ⟨j0,j1⟩:=zT (c+(0+(i:Int))) 4 (m:=3) (by decide)
     obtain ⟨o',ho',hom⟩:=yp (l:=[co,co+7,999999]) j0 j1
     have ho':[AV.int co,AV.int (co+7),AV.int 999999][(tP (c+(0+(i:Int))) 4 3).toNat]?=some (.int o'):=ho'
     case k50=>(first | exact ku6 .. | exact ho' .. | exact j0 ..)
     case k74=>skip
     refine ⟨rfl,o',?_,rfl,((eH1.trans e4).trans eu).trans e6,e6 _ _ (eu _ _ (e4 _ _ kD1))⟩
     simp only [List.mem_cons,List.not_mem_nil,or_false] at hom
     unfold few;lia
    ·case k50=>fail
     case k74=>skip
     exact ⟨rfl,o,ho,rfl,eH1.trans e4,e4 _ _ kD1⟩
   ·rintro m2 H2' ⟨o,ho,rfl,eH2,kD2⟩
    case k50=>fail
    refine z3 (n:=n) h45 (by decide) λ H4 e4=>?_
    have kD4:=e4 _ _ kD2
    have app:∀ (H5:AH) (dd:Deed),dd.good->Ext0 H H5->H5 D=some (.list (ds.map Deed.av))->∃ (ds':List Deed),Ext0 H (H5.set D (.list (ds.map Deed.av++[dd.av])))/\(H5.set D (.list (ds.map Deed.av++[dd.av]))) D=some (.list (ds'.map Deed.av))/\ds'.length=i+1/\∀ e∈ds',e.good:=λ H5 dd hd e5 k5=>by
     case k74=>skip
     refine ⟨ds++[dd],e5.setNone hD,?_,by simp [hl],λ e he=>?_⟩
     ·rw [AH.set_self];simp
     ·rcases List.mem_append.mp he with z | z
      ·exact hg e z
      ·rw [List.mem_singleton.mp z];exact hd
    have ll:(ds.map Deed.av).length < lid:=by simp;unfold lid;lia
    case k50=>fail
    refine zf (λ z_=>?_) (λ z_=>?_)
    ·case k50=>(first | exact kD4 .. | exact ll ..)
     obtain ⟨ds',h1,h2,h3,h4⟩:=app H4 .up trivial (eH2.trans e4) kD4
     case k74=>skip
     exact em4 ds' _ _ _ ⟨rfl,h1,h2,h3,h4⟩
    ·case k50=>fail
     refine zf (λ z_=>?_) (λ z_=>?_)
     ·case k50=>(first | exact kD4 .. | exact ll ..)
      obtain ⟨ds',h1,h2,h3,h4⟩:=app H4 (.down o) ho (eH2.trans e4) kD4
      case k74=>skip
      exact em4 ds' _ _ _ ⟨rfl,h1,h2,h3,h4⟩
     ·case k50=>exact kD4 ..
      refine z3 (n:=n) h45 (by decide) λ H5 e5=>?_
      have kD5:=e5 _ _ kD4
      obtain ⟨j0,j1⟩:=zT (c+(0+(i:Int))) 6 (m:=4) (by decide)
      case k50=>(first | exact kD5 .. | exact ll ..)
      obtain ⟨ds',h1,h2,h3,h4⟩:=app H5 (.hang o (tP (c+(0+(i:Int))) 6 4) (decide (tP (c+(0+(i:Int))) 5 10 < 8))) ⟨ho,j0,by lia⟩ ((eH2.trans e4).trans e5) kD5
      case k74=>skip
      exact em4 ds' _ _ _ ⟨rfl,h1,h2,h3,h4⟩
 ·with_reducible refine ex4 (hI) λ ds a4 a5 a6 hx_=>an5 hx_ λ hr4_ eH kD hl hg=>?_;clear hx_;(try clear hI);subst hr4_
  case k74=>skip
  refine ⟨trivial,?_⟩
  case k50=>fail
  have hlen:ds.length<=9:=by
   have:(zJ 0 w).length=(w - 0).toNat:=by simp [zJ]
   have hl:ds.length=(zJ 0 w).length:=hl
   lia
  case k74=>skip
  exact q D H' ds hD kD hlen hg eH
end

section
variable {P:Nat->Option IFn} {n:Nat} {R:RM} {H:AH} {B:Wd} {s:St} {Q:AV->AH->Prop} {X:Nat->AH->Prop}

theorem gk {C:Calls} {s:IS} {r:ISs} {m:Loc} {H:AH} {Q:Fl->Loc->AH->Prop} {X:Nat->Loc->AH->Prop} (I:Loc->AH->Prop) (h1:∀ J:Fl->Loc->AH->Prop,(∀ f m' H',(match f with | .next=>I m' H' | .ret v=>Q (.ret v) m' H')->J f m' H')->WSs C (.cons s .nil) m H J X) (h2:∀ m' H',I m' H'->WSs C r m' H' Q X):WSs C (.cons s r) m H Q X:=by
 have:=h1 (sq C r Q X) (λ f m' H' h=>by
  cases f with
  | next=>exact h2 m' H' h
  | ret v=>exact h)
 case k74=>skip
 exact this
theorem vD {l:List Int} {i:Int} (h0:0<=i) (h1:i < l.length):∃ v,((zA l).map AV.int)[i.toNat]?=some (.int v)/\v∈l:=by
 obtain ⟨v,h,hm⟩:=yp (l:=zA l) h0 (by rw [zB];exact h1)
 case k74=>skip
 exact ⟨v,h,mem_sortI.mp hm⟩
theorem y7 (l:List Int):(((zA l).map AV.int).length:Int)=l.length:=by rw [List.length_map,zB]

theorem rW (h50:P 50=some oW) {l:List AV} {w:AV} (q:Q (.tup l) H):CN P (n+1) 50 [.tup l,w] H Q X:=by
 refine zR h50 rfl ?_
 intro C_ Q_ X_ m_
 case k50=>fail
 case k74=>skip
 exact q

structure Seen (H:AH) (B:Wd) (s:St):Prop where
 wl:H B.wl=some (.list [.ref B.w0,.ref B.w1,.ref B.w2,.ref B.w3,.ref B.w4])
 w0:∃ ep,H B.w0=some (.dict (dOf s.ks λ k=>.ref (B.ra k)) ep)
 w1:∃ ep,H B.w1=some (.dict (dOf s.hs λ z_=>.bool true) ep)
 w2:∃ ep,H B.w2=some (.dict (dOf s.ls λ k=>zw (s.link k)) ep)
 w4:∃ t,H B.w4=some (.list (.int s.nb::t))
 row:∀ k∈s.ks,H (B.ra k)=some (.list ((s.row k).map zL))
theorem Seen.ext {H H':AH} {B:Wd} {s:St} (x:Seen H B s) (e:Ext0 H H'):Seen H' B s:=by
 obtain ⟨e0,w0⟩:=x.w0
 obtain ⟨e1,w1⟩:=x.w1
 obtain ⟨e2,w2⟩:=x.w2
 obtain ⟨t,w4⟩:=x.w4
 case k74=>skip
 exact ⟨e _ _ x.wl,⟨e0,e _ _ w0⟩,⟨e1,e _ _ w1⟩,⟨e2,e _ _ w2⟩,⟨t,e _ _ w4⟩,λ k hk=>e _ _ (x.row k hk)⟩
structure SeenOk (s:St):Prop where
 hl:s.hs.length<=60
 kl:s.ks.length<=60
 ll:s.ls.length<=60
 rl:∀ k∈s.ks,(s.row k).length<=9
 hk:∀ k∈s.hs,k∈s.ks
 kn:∀ k∈s.ks,few k
 nb:0<=s.nb/\s.nb<=10 ^ 8

theorem vP (h50:P 50=some oW) (h49:P 49=some oV) (h45:P 45=some tD) (d:Dom R H) (x:Seen H B s) (ok:SeenOk s) {c:Int}
  (q:∀ (cmd:Cmd) (v:AV) (H':AH),s.can cmd->IsCmd H' R cmd v->Ext0 H H'->Q v H'):CN P (n+3) 50 [.int c,.ref B.wl] H Q X:=by
 have l1:=ok.hl
 have l3:=ok.kl
 have l4:=ok.ll
 obtain ⟨f0,w0⟩:=x.w0
 refine zR h50 rfl ?_
 intro C_ Q_ X_ m_
 case k50=>(first | exact x.wl .. | exact yh w0 ..)
 intro b1 nb1
 have ee1:Ext0 H _:=Ext0.set (o:=.list ((zA s.ks).map .int)) nb1
 have kb1_1:(H.set b1 (.list ((zA s.ks).map .int))) b1=some (.list ((zA s.ks).map .int)):=AH.set_self ..
 have x1:=x.ext ee1
 generalize H.set b1 (.list ((zA s.ks).map .int))=H1 at ee1 kb1_1 x1 |-
 obtain ⟨f1,w1⟩:=x1.w1
 case k50=>(first | exact x1.wl .. | exact yh w1 ..)
 intro b2 nb2
 have ee2:Ext0 H1 _:=Ext0.set (o:=.list ((zA s.hs).map .int)) nb2
 have kb2_2:(H1.set b2 (.list ((zA s.hs).map .int))) b2=some (.list ((zA s.hs).map .int)):=AH.set_self ..
 have x2:=x1.ext ee2
 have kb1_2:=ee2 _ _ kb1_1
 have E2:=ee1.trans ee2
 generalize H1.set b2 (.list ((zA s.hs).map .int))=H2 at ee2 kb2_2 x2 kb1_2 E2 |-
 obtain ⟨f2,w2⟩:=x2.w2
 case k50=>(first | exact x2.wl .. | exact yh w2 ..)
 intro b3 nb3
 have ee3:Ext0 H2 _:=Ext0.set (o:=.list ((zA s.ls).map .int)) nb3
 have kb3_3:(H2.set b3 (.list ((zA s.ls).map .int))) b3=some (.list ((zA s.ls).map .int)):=AH.set_self ..
 have x3:=x2.ext ee3
 have kb1_3:=ee3 _ _ kb1_2
 have kb2_3:=ee3 _ _ kb2_2
 have E3:=E2.trans ee3
 generalize H2.set b3 (.list ((zA s.ls).map .int))=H3 at ee3 kb3_3 x3 kb1_3 kb2_3 E3 |-
 case k50=>fail
 refine z3 (n:=n+1) h45 (by decide) λ H4 e4=>?_
 have E4:=E3.trans e4
 have x4:=x3.ext e4
 have k1:=e4 _ _ kb1_3
 have k2:=e4 _ _ kb2_3
 have k3:=e4 _ _ kb3_3
 generalize tP c 9 25=way
 case k50=>exact k1 ..
 refine zf (λ h=>?_) (λ h=>?_)
 ·rw [y7] at h
  have hl:s.ks.length < 60:=by
   simp only [Bool.or_eq_true,Bool.and_eq_true,decide_eq_true_eq] at h
   omega
  case k50=>fail
  intro u hu
  have eu:Ext0 H4 _:=Ext0.set (o:=.list (([1,2,3,2,1,9,0,4]:List Int).map .int)) hu
  have ku:(H4.set u (.list (([1,2,3,2,1,9,0,4]:List Int).map .int))) u=some (.list (([1,2,3,2,1,9,0,4]:List Int).map .int)):=AH.set_self ..
  case k50=>fail
  refine z3 (n:=n+1) h45 (by decide) λ H6 e6=>?_
  obtain ⟨j0,j1⟩:=zT c 4 (m:=8) (by decide)
  obtain ⟨o',ho',hom⟩:=yp (l:=[1,2,3,2,1,9,0,4]) j0 j1
  case k50=>(first | exact e6 _ _ ku .. | exact ho' .. | exact j0 ..)
  have hom:0<=o'/\o'<=9:=(by decide:∀ o∈([1,2,3,2,1,9,0,4]:List Int),0<=o/\o<=9) o' hom
  case k74=>skip
  exact q (.make o') _ H6 ⟨hom.1,hom.2,hl⟩ (.make o') ((E4.trans eu).trans e6)
 rw [y7] at h
 have kl:0 < (s.ks.length:Int):=by
  simp only [Bool.or_eq_false_iff,decide_eq_false_iff_not] at h
  omega
 case k50=>exact k1 ..
 rw [y7]
 refine z3 (n:=n+1) h45 kl λ H5 e5=>?_
 obtain ⟨j0,j1⟩:=zT c 0 kl
 with_reducible refine ex1 (vD j0 j1) λ box hx_=>an2 hx_ λ ho hbox=>?_;clear hx_
 case k50=>(first | exact e5 _ _ k1 .. | exact ho .. | exact j0 ..)
 rw [y7]
 refine z3 (n:=n+1) h45 kl λ H6 e6=>?_
 obtain ⟨j2,j3⟩:=zT c 1 kl
 with_reducible refine ex1 (vD j2 j3) λ other hx_=>an2 hx_ λ ho2 hother=>?_;clear hx_
 have e6:=e5.trans e6
 have x6:=x4.ext e6
 have E6:=E4.trans e6
 have k1:=e6 _ _ k1
 have k2:=e6 _ _ k2
 have k3:=e6 _ _ k3
 obtain ⟨g0,v0⟩:=x6.w0
 have szl:=ok.rl box hbox
 case k50=>(first | exact k1 .. | exact ho2 .. | exact j2 .. | exact x6.wl .. | exact v0 .. | exact zY hbox .. | exact x6.row box hbox ..)
 clear ho ho2 j0 j1 j2 j3 e5 e6 x4 E4 x3 E3 x2 E2 x1
 refine zf (λ h=>?_) (λ z_=>?_)
 ·have hz:(0:Int) < (((s.row box).map zL).length:Int):=of_decide_eq_true ((Bool.and_eq_true ..).mp h).2
  case k50=>fail
  refine z3 (n:=n+1) h45 hz λ H7 e7=>?_
  obtain ⟨j0,j1⟩:=zT c 10 hz
  case k50=>fail
  case k74=>skip
  exact q (.put box _ other _) _ H7 ⟨hbox,j0,Int.lt_of_lt_of_le j1 (by rw [List.length_map];exact Int.le_refl _),hother⟩ (.put ..) (E6.trans e7)
 case k50=>fail
 refine zf (λ h=>?_) (λ z_=>?_)
 ·have hz:(0:Int) < (((s.row box).map zL).length:Int):=of_decide_eq_true ((Bool.and_eq_true ..).mp h).2
  case k50=>fail
  refine z3 (n:=n+1) h45 hz λ H7 e7=>?_
  obtain ⟨j0,j1⟩:=zT c 10 hz
  case k50=>fail
  case k74=>skip
  exact q (.empty box _) _ H7 ⟨hbox,j0,Int.lt_of_lt_of_le j1 (by rw [List.length_map];exact Int.le_refl _)⟩ (.empty ..) (E6.trans e7)
 case k50=>fail
 refine zf (λ z_=>?_) (λ z_=>?_)
 ·case k50=>fail
  case k74=>skip
  exact q (.take box) _ H6 hbox (.take ..) E6
 case k50=>exact k2 ..
 refine zf (λ h=>?_) (λ z_=>?_)
 ·have hz:(0:Int) < (((zA s.hs).map AV.int).length:Int):=of_decide_eq_true ((Bool.and_eq_true ..).mp h).2
  case k50=>exact k2 ..
  refine z3 (n:=n+1) h45 hz λ H7 e7=>?_
  obtain ⟨j0,j1⟩:=zT c 2 hz
  obtain ⟨o,ho,hom⟩:=yp (l:=zA s.hs) j0 (Int.lt_of_lt_of_le j1 (by rw [List.length_map];exact Int.le_refl _))
  have hom:=mem_sortI.mp hom
  case k50=>(first | exact e7 _ _ k2 .. | exact ho .. | exact j0 ..)
  case k74=>skip
  exact q (.drop o) _ H7 ⟨ok.hk o hom,hom⟩ (.drop ..) (E6.trans e7)
 case k50=>exact k3 ..
 refine zf (λ h=>?_) (λ z_=>?_)
 ·have hz:(((zA s.ls).map AV.int).length:Int) < 60:=of_decide_eq_true ((Bool.and_eq_true ..).mp h).2
  rw [y7] at hz
  case k50=>exact k1 ..
  rw [y7]
  refine z3 (n:=n+1) h45 kl λ H7 e7=>?_
  obtain ⟨j0,j1⟩:=zT c 3 kl
  with_reducible refine ex1 (vD j0 j1) λ o hx_=>an2 hx_ λ ho hom=>?_;clear hx_
  case k50=>(first | exact e7 _ _ k1 .. | exact ho .. | exact j0 ..)
  case k74=>skip
  exact q (.pair box other o) _ H7 ⟨hbox,hother,hom,by omega⟩ (.pair ..) (E6.trans e7)
 case k50=>exact k3 ..
 refine zf (λ h=>?_) (λ z_=>?_)
 ·have hz:(0:Int) < (((zA s.ls).map AV.int).length:Int):=of_decide_eq_true ((Bool.and_eq_true ..).mp h).2
  case k50=>exact k3 ..
  refine z3 (n:=n+1) h45 hz λ H7 e7=>?_
  obtain ⟨j0,j1⟩:=zT c 5 hz
  obtain ⟨o,ho,hom⟩:=yp (l:=zA s.ls) j0 (Int.lt_of_lt_of_le j1 (by rw [List.length_map];exact Int.le_refl _))
  case k50=>(first | exact e7 _ _ k3 .. | exact ho .. | exact j0 ..)
  case k74=>skip
  exact q (.unpair o) _ H7 (mem_sortI.mp hom) (.unpair ..) (E6.trans e7)
 case k50=>fail
 refine zf (λ z_=>?_) (λ z_=>?_)
 ·case k50=>fail
  intro u hu
  have eu:Ext0 H6 _:=Ext0.set (o:=.list []) hu
  case k50=>fail
  case k74=>skip
  exact q (.bequeath box []) _ _ ⟨hbox,by simp,by intro e he;cases he⟩ (.bequeath (D:=u) (AH.set_self ..) (d.free (E6.back hu))) (E6.trans eu)
 obtain ⟨t4,w4⟩:=x6.w4
 case k50=>(first | exact x6.wl .. | exact w4 ..)
 refine pU (n:=n) h49 h45 k1 (by intro z;have:=congrArg List.length z;rw [zB,List.length_nil] at this;omega) (λ b hb=>ok.kn b (mem_sortI.mp hb)) ok.nb λ D H7 ds hD kD hl hg e7=>?_
 case k50=>fail
 case k74=>skip
 exact q (.bequeath box ds) _ H7 ⟨hbox,hl,hg⟩ (.bequeath kD (d.free (E6.back hD))) (E6.trans e7)

end

theorem St.Ok.new:St.new.Ok:=⟨(by intro k h;cases h),(by intro k h;cases h),by decide,by decide,by decide,by decide,List.nodup_nil,List.nodup_nil,List.nodup_nil,List.nodup_nil,(by intro k h;cases h),(by intro k h;cases h),(by intro k h;cases h),(by intro k h;cases h),(by intro k h;cases h)⟩
noncomputable def St.apps (s:St):List Cmd->St
 | []=>s
 | c::r=>(s.app c).apps r
theorem uK:∀ (l l':List Cmd) (s:St),s.apps (l++l')=(s.apps l).apps l'
 | [],l',s=>rfl
 | c::r,l',s=>by simp only [List.cons_append,St.apps,uK r l']

inductive AreCmds (H:AH) (R:RM):List Cmd->List AV->Prop
 | nil:AreCmds H R [] []
 | cons {c:Cmd} {v:AV} {cs:List Cmd} {vs:List AV}:IsCmd H R c v->AreCmds H R cs vs->AreCmds H R (c::cs) (v::vs)
theorem IsCmd.keep {H H':AH} {R R':RM} {c:Cmd} {v:AV} (x:IsCmd H R c v) (h:∀ D o,H D=some o->R D=.none->H' D=some o/\R' D=.none):IsCmd H' R' c v:=by
 cases x with
 | bequeath hD rD=>exact .bequeath (h _ _ hD rD).1 (h _ _ hD rD).2
 | make=>exact .make ..
 | put=>exact .put ..
 | empty=>exact .empty ..
 | take=>exact .take ..
 | drop=>exact .drop ..
 | pair=>exact .pair ..
 | unpair=>exact .unpair ..
theorem AreCmds.keep {H H':AH} {R R':RM} {cs:List Cmd} {vs:List AV} (x:AreCmds H R cs vs) (h:∀ D o,H D=some o->R D=.none->H' D=some o/\R' D=.none):AreCmds H' R' cs vs:=by
 induction x with
 | nil=>exact .nil
 | cons a _ ih=>exact .cons (a.keep h) ih
theorem AreCmds.append {H:AH} {R:RM} {cs cs':List Cmd} {vs vs':List AV} (x:AreCmds H R cs vs) (y:AreCmds H R cs' vs'):AreCmds H R (cs++cs') (vs++vs'):=by
 induction x with
 | nil=>exact y
 | cons a _ ih=>exact .cons a ih
theorem AreCmds.length {H:AH} {R:RM} {cs:List Cmd} {vs:List AV} (x:AreCmds H R cs vs):cs.length=vs.length:=by
 induction x with
 | nil=>rfl
 | cons _ _ ih=>simp [ih]

noncomputable def upTo (N:Nat):List Int:=(List.range N).map λ (k:Nat)=>(k:Int)
theorem mem_upTo {N:Nat} {k:Int}:k∈upTo N↔0<=k/\k < N:=by
 unfold upTo
 rw [List.mem_map]
 constructor
 ·rintro ⟨j,hj,rfl⟩
  have:=List.mem_range.mp hj
  omega
 ·rintro ⟨h1,h2⟩
  case k74=>skip
  exact ⟨k.toNat,List.mem_range.mpr (by omega),by omega⟩
theorem uL (N:Nat):upTo (N+1)=upTo N++[(N:Int)]:=by unfold upTo;rw [List.range_succ];simp


structure Ph2 (N i:Nat) (s:St):Prop where
 ks:s.ks=upTo N
 hs:s.hs=upTo N
 nb:s.nb=N
 ls:s.ls.length<=i
 row:∀ k∈upTo N,(s.row k).length=3
theorem Ph2.put {N i:Nat} {s:St} (h:Ph2 N i s) {b j o:Int} {hh:Bool} (hb:b∈upTo N) (h0:0<=j) (h1:j < 3) (ho:o∈upTo N):s.can (.put b j o hh)/\Ph2 N i (s.app (.put b j o hh)):=by
 case k74=>skip
 refine ⟨⟨by rw [h.ks];exact hb,h0,by rw [h.row b hb];exact h1,by rw [h.ks];exact ho⟩,h.ks,h.hs,h.nb,h.ls,λ k hk=>?_⟩
 show (upd s.row b _ k).length=3
 by_cases q:k=b
 ·subst q;rw [zG,List.length_set];exact h.row k hk
 ·rw [zM _ _ q];exact h.row k hk
theorem Ph2.pair {N i:Nat} {s:St} (h:Ph2 N i s) (hi:i < 60) {b k o:Int} (hb:b∈upTo N) (hk:k∈upTo N) (ho:o∈upTo N):s.can (.pair b k o)/\Ph2 N (i+1) (s.app (.pair b k o)):=by
 have hl:=h.ls
 case k74=>skip
 refine ⟨⟨by rw [h.ks];exact hb,by rw [h.ks];exact hk,by rw [h.ks];exact ho,by omega⟩,h.ks,h.hs,h.nb,?_,h.row⟩
 show (s.ls++[s.np]).length<=i+1
 simp;omega
theorem Ph2.bequeath {N i:Nat} {s:St} (h:Ph2 N i s) {b:Int} {ds:List Deed} (hb:b∈upTo N) (hl:ds.length<=9) (hg:∀ e∈ds,e.good):s.can (.bequeath b ds)/\Ph2 N i (s.app (.bequeath b ds)):=
 ⟨⟨by rw [h.ks];exact hb,hl,hg⟩,h.ks,h.hs,h.nb,h.ls,h.row⟩
theorem AreCmds.ext {H H':AH} {R:RM} {cs:List Cmd} {vs:List AV} (x:AreCmds H R cs vs) (e:Ext0 H H'):AreCmds H' R cs vs:=x.keep λ D o h r=>⟨e D o h,r⟩

inductive IsP2 (N:Nat):Cmd->Prop
 | put {b j o:Int} {h:Bool}:b∈upTo N->0<=j->j < 3->o∈upTo N->IsP2 N (.put b j o h)
 | pair {b k o:Int}:b∈upTo N->k∈upTo N->o∈upTo N->IsP2 N (.pair b k o)
 | beq {b:Int} {ds:List Deed}:b∈upTo N->ds.length<=9->(∀ e∈ds,e.good)->(∀ o,Deed.down o∈ds->o=0)->IsP2 N (.bequeath b ds)
noncomputable def zr:Cmd->Bool
 | .pair _ _ _=>true
 | _=>false
structure Sh2 (N i:Nat) (cs:List Cmd):Prop where
 ex:∃ p2,cs=List.replicate N (.make 3)++p2/\(∀ c∈p2,IsP2 N c)/\(p2.filter zr).length<=i
structure Sh3 (N i:Nat) (cs:List Cmd):Prop where
 ex:∃ (p2:List Cmd) (ds:List Nat),cs=List.replicate N (.make 3)++p2++ds.map (λ (k:Nat)=>Cmd.drop (k:Int))/\(∀ c∈p2,IsP2 N c)/\(p2.filter zr).length<=N/\(∀ k∈ds,k < i)/\ds.Pairwise (· < ·)
inductive uZ:List Cmd->Prop
 | nil:uZ []
 | laid {N:Nat} {p2:List Cmd} {ds:List Nat}:N<=60->(∀ c∈p2,IsP2 N c)->(p2.filter zr).length<=N->(∀ k∈ds,k < N)->ds.Pairwise (· < ·)->uZ (List.replicate N (.make 3)++p2++ds.map (λ (k:Nat)=>Cmd.drop (k:Int)))
 | more {N:Nat} {p2:List Cmd} {ds:List Nat} {hh:Bool}:1<=N->N<=11->(∀ c∈p2,IsP2 N c)->(p2.filter zr).length<=N->(∀ k∈ds,k < N)->ds.Pairwise (· < ·)->
   uZ (List.replicate N (.make 3)++p2++ds.map (λ (k:Nat)=>Cmd.drop (k:Int))++[.make 1,.make 2,.make 1,.pair N (N+1) (N+2),.bequeath (N+1) [.up,.down N],.drop (N+1),.drop (N+2),.put (N+1) 0 N hh])

theorem Sh2.push {N i j:Nat} {cs:List Cmd} (h:Sh2 N i cs) {c:Cmd} (hc:IsP2 N c) (hj:i+(if zr c then 1 else 0)<=j):True/\Sh2 N j (cs++[c]):=by
 with_reducible refine ex1 (h.ex) λ p2 hx_=>an3 hx_ λ hr1_ h1 h2=>?_;clear hx_;subst hr1_
 case k74=>skip
 refine ⟨trivial,⟨p2++[c],by rw [List.append_assoc],λ x hx=>?_,?_⟩⟩
 ·rcases List.mem_append.mp hx with z | z
  ·exact h1 x z
  ·rw [List.mem_singleton.mp z];exact hc
 ·rw [List.filter_append,List.length_append]
  cases hp:zr c with
  | true=>simp [hp] at hj |-;lia
  | false=>simp [hp] at hj |-;lia
theorem Sh2.more {N i:Nat} {cs:List Cmd} (h:Sh2 N i cs):Sh2 N (i+1) cs:=by
 with_reducible refine ex1 (h.ex) λ p2 hx_=>an3 hx_ λ hr1_ h1 h2=>?_;clear hx_;subst hr1_
 case k74=>skip
 exact ⟨p2,rfl,h1,by lia⟩
theorem Sh2.put {N i:Nat} {cs:List Cmd} (h:Sh2 N i cs) {b j o:Int} {hh:Bool} (hb:b∈upTo N) (h0:0<=j) (h1:j < 3) (ho:o∈upTo N):True/\Sh2 N i (cs++[.put b j o hh]):=h.push (.put hb h0 h1 ho) (by simp [zr])
theorem Sh2.pair {N i:Nat} {cs:List Cmd} (h:Sh2 N i cs) (_:i < 60) {b k o:Int} (hb:b∈upTo N) (hk:k∈upTo N) (ho:o∈upTo N):True/\Sh2 N (i+1) (cs++[.pair b k o]):=h.push (.pair hb hk ho) (by simp [zr])
theorem Sh2.bequeath {N i:Nat} {cs:List Cmd} (h:Sh2 N i cs) {b:Int} {ds:List Deed} (hb:b∈upTo N) (hl:ds.length<=9) (hg:∀ e∈ds,e.good) (hd:∀ o,Deed.down o∈ds->o=0:=by (intro o ho;simp at ho;try exact ho)):True/\Sh2 N i (cs++[.bequeath b ds]):=h.push (.beq hb hl hg hd) (by simp [zr])
theorem Sh2.three {N:Nat} {cs:List Cmd} (h:Sh2 N N cs):Sh3 N 0 cs:=by
 with_reducible refine ex1 (h.ex) λ p2 hx_=>an3 hx_ λ hr1_ h1 h2=>?_;clear hx_;subst hr1_
 case k74=>skip
 exact ⟨p2,[],by rw [List.map_nil,List.append_nil],h1,h2,(by intro k hk;cases hk),.nil⟩
theorem Sh3.more {N i:Nat} {cs:List Cmd} (h:Sh3 N i cs):Sh3 N (i+1) cs:=by
 with_reducible refine ex2 (h.ex) λ p2 ds hx_=>an5 hx_ λ hr2_ h1 h2 h3 h4=>?_;clear hx_;subst hr2_
 case k74=>skip
 exact ⟨p2,ds,rfl,h1,h2,λ k hk=>by have:=h3 k hk;lia,h4⟩
theorem Sh3.drop {N i:Nat} {cs:List Cmd} (h:Sh3 N i cs) (_:i < N):True/\Sh3 N (i+1) (cs++[.drop (i:Int)]):=by
 with_reducible refine ex2 (h.ex) λ p2 ds hx_=>an5 hx_ λ hr2_ h1 h2 h3 h4=>?_;clear hx_;subst hr2_
 case k74=>skip
 refine ⟨trivial,p2,ds++[i],by rw [List.map_append,List.append_assoc];rfl,h1,h2,λ k hk=>?_,?_⟩
 ·rcases List.mem_append.mp hk with z | z
  ·have:=h3 k z;lia
  ·rw [List.mem_singleton.mp z];lia
 ·rw [List.pairwise_append]
  case k74=>skip
  exact ⟨h4,.cons (by intro a ha;cases ha) .nil,λ a ha b hb=>by rw [List.mem_singleton.mp hb];exact h3 a ha⟩
theorem Sh3.done {N:Nat} {cs:List Cmd} (h:Sh3 N N cs) (hN:N<=60):uZ cs:=by
 with_reducible refine ex2 (h.ex) λ p2 ds hx_=>an5 hx_ λ hr2_ h1 h2 h3 h4=>?_;clear hx_;subst hr2_
 exact .laid hN h1 h2 h3 h4
theorem Sh3.extra {N:Nat} {cs:List Cmd} (h:Sh3 N N cs) (h3N:3<=N) (hN:N<=11) (hh:Bool):uZ (cs++[.make 1,.make 2,.make 1,.pair N (N+1) (N+2),.bequeath (N+1) [.up,.down N],.drop (N+1),.drop (N+2),.put (N+1) 0 N hh]):=by
 with_reducible refine ex2 (h.ex) λ p2 ds hx_=>an5 hx_ λ hr2_ h1 h2 h3 h4=>?_;clear hx_;subst hr2_
 exact .more (by lia) hN h1 h2 h3 h4

theorem wd {N:Nat} (h:0 < N) (x:Int):x.fmod N∈upTo N:=mem_upTo.mpr (zm (by lia))
theorem tQ (ns:List Int) (a b:Nat):cut (ns.map AV.int) a (some b)=((ns.take b).drop a).map .int:=by
 unfold cut;simp
structure Lg (Sh:List Cmd->Prop) (H0:AH) (R:RM) (L b:Nat) (H:AH):Prop where
 new:H0 L=.none
 ext:Ext0 H0 H
 ex:∃ cs vs,H L=some (.list vs)/\AreCmds H (R.set L (99,0)) cs vs/\Sh cs/\vs.length<=b
section
variable {Sh Sh':List Cmd->Prop} {H0 H H':AH} {R:RM} {L b:Nat}
theorem Lg.to (x:Lg Sh H0 R L b H) (e:Ext0 H H'):Lg Sh H0 R L b H':=by
 with_reducible refine ex2 (x.ex) λ cs vs hx_=>an4 hx_ λ k ac sh hl=>?_;clear hx_
 case k74=>skip
 exact ⟨x.new,x.ext.trans e,cs,vs,e _ _ k,ac.ext e,sh,hl⟩
theorem Lg.mono {b':Nat} (x:Lg Sh H0 R L b H) (h:∀ cs,Sh cs->Sh' cs) (hb:b<=b'):Lg Sh' H0 R L b' H:=by
 with_reducible refine ex2 (x.ex) λ cs vs hx_=>an4 hx_ λ k ac sh hl=>?_;clear hx_
 case k74=>skip
 exact ⟨x.new,x.ext,cs,vs,k,ac,h cs sh,Nat.le_trans hl hb⟩
theorem Lg.free (x:Lg Sh H0 R L b H) (d:Dom R H0) {D:Nat} (h:H D=.none):(R.set L (99,0)) D=.none:=by
 obtain ⟨cs,vs,k,-⟩:=x.ex
 exact (RM.set_ne _ _ (xT h k)).trans (d.free (x.ext.back h))
variable {C:Calls} {e:IE} {es:IEs} {r:ISs} {m:Loc} {Q:Fl->Loc->AH->Prop} {X:Nat->Loc->AH->Prop}
theorem qf (hm:m[3]?=some (some (.ref L))) (x:Lg Sh H0 R L b H) (hb:b < 1000)
  (he:∀ K:AV->AH->Prop,(∀ v H1 c,Ext0 H H1->IsCmd H1 (R.set L (99,0)) c v->(∀ cs,Sh cs->Sh' (cs++[c]))->K v H1)->WE C (λ c H=>X c m H) e m H K)
  (q:∀ H',Lg Sh' H0 R L (b+1) H'->WSs C r m H' Q X):WSs C (.cons (.ex (.meth (.var 3) 0 (.cons e .nil))) r) m H Q X:=by
 with_reducible refine ex2 (x.ex) λ cs vs hx_=>an4 hx_ λ k ac sh hl=>?_;clear hx_
 refine ex_g λ K0_ k0_=>we_app (ev_var hm) k (he _ λ v H1 c e1 hc hs=>op_app (e1 _ _ k) (Nat.lt_of_le_of_lt hl (Nat.lt_trans hb (by decide))) (k0_ _ _ (q _ ⟨x.new,(x.ext.trans e1).setNone x.new,cs++[c],vs++[v],AH.set_self ..,?_,hs cs sh,by rw [List.length_append];exact Nat.succ_le_succ hl⟩)))
 have kp:∀ D o,H1 D=some o->(R.set L (99,0)) D=.none->(H1.set L (.list (vs++[v]))) D=some o/\(R.set L (99,0)) D=.none:=λ D o hD rD=>
  ⟨(AH.set_ne _ _ λ z=>by rw [z,RM.set_self] at rD;cases rD).trans hD,rD⟩
 exact ((ac.ext e1).keep kp).append (.cons (hc.keep kp) .nil)
theorem m7 (hm:m[3]?=some (some (.ref L))) (d:Dom R H0) (x:Lg Sh H0 R L b H) (hb:b < 1000)
  (he:∀ K:List AV->AH->Prop,(∀ us cs' H1,Ext0 H H1->us.length<=4->AreCmds H1 (R.set L (99,0)) cs' us->(∀ cs,Sh cs->Sh' (cs++cs'))->K us H1)->WEs C (λ c H=>X c m H) es m H K)
  (q:∀ L' H',Lg Sh' H0 R L' (b+4) H'->WSs C r (m.set 3 (some (.ref L'))) H' Q X):WSs C (.cons (.asg 3 (.bin .add (.var 3) (.list es))) r) m H Q X:=by
 with_reducible refine ex2 (x.ex) λ cs vs hx_=>an4 hx_ λ k ac sh hl=>?_;clear hx_
 refine gg λ K0_ k0_=>we_bin (we_ev (ev_var hm) (we_listS (he _ λ us cs' H1 e1 hus ac' hs=>?_)))
 intro U hU
 have eU:Ext0 H1 _:=Ext0.set (o:=.list us) hU
 have kU:(H1.set U (.list us)) U=some (.list us):=AH.set_self ..
 generalize H1.set U (.list us)=H2 at eU kU |-
 have e2:=e1.trans eU
 have hb4:vs.length+us.length<=b+4:=Nat.add_le_add hl hus
 refine op_addF (e2 _ _ k) kU (Nat.le_trans hb4 (Nat.le_trans (Nat.add_le_add_right (Nat.le_of_lt hb) 4) (by decide))) λ L' hL'=>k0_ _ _ (q L' _ ⟨(x.ext.trans e2).back hL',(x.ext.trans e2).trans (Ext0.set hL'),cs++cs',vs++us,AH.set_self ..,?_,hs cs sh,by rw [List.length_append];exact hb4⟩)
 have kp:∀ D o,H2 D=some o->(R.set L (99,0)) D=.none->(H2.set L' (.list (vs++us))) D=some o/\(R.set L' (99,0)) D=.none:=λ D o hD rD=>by
  have n1:D≠L:=λ z=>by rw [z,RM.set_self] at rD;cases rD
  rw [RM.set_ne _ _ n1] at rD
  case k74=>skip
  exact ⟨Ext0.set hL' _ _ hD,(RM.set_ne _ _ (xT hL' hD).symm).trans rD⟩
 exact ((ac.ext e2).keep kp).append ((ac'.ext eU).keep kp)
end
theorem m8 {H:AH} {R:RM} (N:Nat):AreCmds H R (List.replicate N (.make 3)) (List.replicate N (.tup [.str "make",.int 3])):=by
 induction N with
 | zero=>
  exact .nil
 | succ N ih_=>
  exact .cons (.make 3) (ih_)
noncomputable def mL (far:Int) (N:Nat) (a2:Option AV) (L:Nat) (st:Int) (a5 a6 a7:Option AV):Loc:=[some (.int far),some (.int N),a2,some (.ref L),some (.int st),a5,a6,a7,.none,.none,.none,.none,.none,.none,.none,.none]
section
variable {P:Nat->Option IFn} {n:Nat} {R:RM} {H:AH} {Q:AV->AH->Prop} {X:Nat->AH->Prop}
structure Wil (ds:List Deed):Prop where
 l:ds.length<=9
 g:∀ e∈ds,e.good
 d:∀ o,Deed.down o∈ds->o=0
theorem pV {far st bx way oth:Int} {N L:Nat} {a7:Option AV} (hN:0 < N) (hN6:N<=60) (q:∀ D ds H',Wil ds->H D=.none->H' D=some (.list (List.map Deed.av ds))->Ext0 H H'->Q (.ref D) H') :
  WE (CN P n) X (.idx (.list (.cons (.list (.cons (.tup (.cons (.cs "hang") (.cons (.bin .mod (.bin .add (.var 2) (.ci 2)) (.var 1)) (.cons (.ci 0) (.cons (.cmp .gt (.var 6) (.ci 1)) .nil))))) .nil)) (.cons (.list (.cons (.tup (.cons (.cs "up") .nil)) .nil)) (.cons (.list (.cons (.tup (.cons (.cs "down") (.cons (.ci 0) .nil))) .nil)) .nil)))) (.bin .mod (.var 6) (.ci 3))) (mL far N (some (.int bx)) L st (some (.int oth)) (some (.int way)) a7) H Q:=by
 have hz:(N:Int)≠0:=by omega
 have w1:Wil [.hang ((bx+2).fmod N) 0 (decide (1 < way))]:=⟨Nat.le_of_ble_eq_true rfl,by intro e he;rw [List.mem_singleton.mp he];exact ⟨by have:=mem_upTo.mp (wd hN (bx+2));unfold few;omega,by unfold few;decide⟩,by intro o ho;cases List.mem_singleton.mp ho⟩
 case k50=>exact hz ..
 intro D1 n1
 have x1:Ext0 H _:=Ext0.set (o:=.list (List.map Deed.av [.hang ((bx+2).fmod N) 0 (decide (1 < way))])) n1
 have k1:(H.set D1 (.list (List.map Deed.av [.hang ((bx+2).fmod N) 0 (decide (1 < way))]))) D1=_:=AH.set_self ..
 rw [show [AV.tup [.str "hang",.int ((bx+2).fmod N),.int 0,.bool (decide (1 < way))]]=List.map Deed.av [.hang ((bx+2).fmod N) 0 (decide (1 < way))] from rfl]
 generalize [Deed.hang ((bx+2).fmod N) 0 (decide (1 < way))]=d1 at x1 k1 w1
 generalize H.set D1 (.list (List.map Deed.av d1))=G1 at x1 k1 |-
 case k50=>fail
 intro D2 n2
 have x2:Ext0 G1 _:=Ext0.set (o:=.list (List.map Deed.av [.up])) n2
 have k2:(G1.set D2 (.list (List.map Deed.av [.up]))) D2=_:=AH.set_self ..
 rw [show [AV.tup [.str "up"]]=List.map Deed.av [.up] from rfl]
 generalize G1.set D2 (.list (List.map Deed.av [.up]))=G2 at x2 k2 |-
 case k50=>fail
 intro D3 n3
 have x3:Ext0 G2 _:=Ext0.set (o:=.list (List.map Deed.av [.down 0])) n3
 have k3:(G2.set D3 (.list (List.map Deed.av [.down 0]))) D3=_:=AH.set_self ..
 rw [show [AV.tup [.str "down",.int 0]]=List.map Deed.av [.down 0] from rfl]
 generalize G2.set D3 (.list (List.map Deed.av [.down 0]))=G3 at x3 k3 |-
 case k50=>fail
 intro D4 n4
 have x4:Ext0 G3 _:=Ext0.set (o:=.list [.ref D1,.ref D2,.ref D3]) n4
 have k4:(G3.set D4 (.list [.ref D1,.ref D2,.ref D3])) D4=some (.list [.ref D1,.ref D2,.ref D3]):=AH.set_self ..
 generalize G3.set D4 (.list [.ref D1,.ref D2,.ref D3])=G4 at x4 k4 |-
 have E:=((x1.trans x2).trans x3).trans x4
 obtain ⟨t0,t1⟩:=zm (x:=way) (m:=3) (by decide)
 have hd:∃ D ds,[AV.ref D1,.ref D2,.ref D3][(way.fmod 3).toNat]?=some (.ref D)/\Wil ds/\H D=.none/\G4 D=some (.list (List.map Deed.av ds)):=by
  have:way.fmod 3=0\/way.fmod 3=1\/way.fmod 3=2:=by omega
  rcases this with h | h | h<;>rw [h]
  ·case k74=>skip
   exact em2 D1 d1 ⟨rfl,w1,n1,x4 _ _ (x3 _ _ (x2 _ _ k1))⟩
  ·case k74=>skip
   exact em2 D2 _ ⟨rfl,⟨by decide,by intro e he;rw [List.mem_singleton.mp he];trivial,by intro o ho;cases List.mem_singleton.mp ho⟩,x1.back n2,x4 _ _ (x3 _ _ k2)⟩
  ·case k74=>skip
   exact em2 D3 _ ⟨rfl,⟨by decide,by intro e he;rw [List.mem_singleton.mp he];show few 0;unfold few;decide,by intro o ho;cases List.mem_singleton.mp ho;rfl⟩,(x1.trans x2).back n3,x4 _ _ k3⟩
 with_reducible refine ex2 (hd) λ D ds hx_=>an4 hx_ λ hD wi nD kD=>?_;clear hx_;(try clear hd)
 case k50=>(first | exact k4 .. | exact hD .. | exact t0 ..)
 case k74=>skip
 exact q D ds G4 wi nD kD E
theorem m9 (h45:P 45=some tD) {K:Fl->Loc->AH->Prop} {Y:Nat->Loc->AH->Prop} {H0:AH} (d:Dom R H0) {far st:Int} {N L i:Nat} {a5 a6 a7:Option AV} (hi:i < N) (hN:N<=60) (x:Lg (Sh2 N i) H0 R L (N+2 * i) H)
  (q:∀ a5 a6 a7 H',Lg (Sh2 N (i+1)) H0 R L (N+2 * (i+1)) H'->K .next (mL far N (some (.int (0+(i:Int)))) L st a5 a6 a7) H') :
  WSs (CN P (n+1)) (.cons (.asg 5 (.bin .mod (.bin .add (.var 2) (.var 4)) (.var 1))) (.cons (.asg 6 (.call 45 (.cons (.var 0) (.cons (.var 2) (.cons (.ci 5) .nil))))) (.cons (.ite (.val (.cmp .eq (.var 6) (.ci 1))) (.cons (.ex (.meth (.var 3) 0 (.cons (.tup (.cons (.cs "pair") (.cons (.bin .mul (.call 45 (.cons (.var 0) (.cons (.bin .add (.var 2) (.ci 1)) (.cons (.ci 2) .nil)))) (.bin .sub (.var 1) (.ci 1))) (.cons (.var 2) (.cons (.var 5) .nil))))) .nil))) .nil) (.cons (.ex (.meth (.var 3) 0 (.cons (.tup (.cons (.cs "put") (.cons (.var 2) (.cons (.call 45 (.cons (.var 0) (.cons (.bin .add (.var 2) (.ci 2)) (.cons (.ci 3) .nil)))) (.cons (.var 5) (.cons (.cmp .gt (.var 6) (.ci 0)) .nil)))))) .nil))) .nil)) (.cons (.ite (.val (.cmp .eq (.call 45 (.cons (.var 0) (.cons (.bin .add (.var 2) (.ci 3)) (.cons (.ci 2) .nil)))) (.ci 1))) (.cons (.asg 7 (.idx (.list (.cons (.list (.cons (.tup (.cons (.cs "hang") (.cons (.bin .mod (.bin .add (.var 2) (.ci 2)) (.var 1)) (.cons (.ci 0) (.cons (.cmp .gt (.var 6) (.ci 1)) .nil))))) .nil)) (.cons (.list (.cons (.tup (.cons (.cs "up") .nil)) .nil)) (.cons (.list (.cons (.tup (.cons (.cs "down") (.cons (.ci 0) .nil))) .nil)) .nil)))) (.bin .mod (.var 6) (.ci 3)))) (.cons (.ex (.meth (.var 3) 0 (.cons (.tup (.cons (.cs "bequeath") (.cons (.var 2) (.cons (.var 7) .nil)))) .nil))) .nil)) .nil) .nil)))) (mL far N (some (.int (0+(i:Int)))) L st a5 a6 a7) H K Y:=by
 have hz:(N:Int)≠0:=by lia
 have hiu:(0+(i:Int))∈upTo N:=mem_upTo.mpr ⟨by lia,by lia⟩
 have hou:(0+(i:Int)+st).fmod N∈upTo N:=wd (by lia) _
 generalize (0+(i:Int))=bx at hiu hou q
 case k50=>exact hz ..
 generalize (bx+st).fmod N=oth at hou
 refine z3 (n:=n) h45 (by decide) λ H1 e1=>?_
 have x:=x.to e1
 generalize tP far bx 5=way
 let I171_:Loc->AH->Prop:=(λ m' H''=>m'=mL far N (some (.int bx)) L st (some (.int oth)) (some (.int way)) a7/\Lg (Sh2 N (i+1)) H0 R L (N+2 * i+1) H'')
 refine uJ I171_ (λ J0 hJ0=>?_) ?_
 ·case k50=>fail
  refine zf (λ z_=>?_) (λ z_=>?_)
  ·refine qf (Sh':=Sh2 N (i+1)) rfl x (by lia) (λ K hK=>?_) λ H' x'=>?_
   ·case k50=>fail
    refine z3 (n:=n) h45 (by decide) λ H4 e4=>?_
    obtain ⟨j0,j1⟩:=zT far (bx+1) (m:=2) (by decide)
    generalize tP far (bx+1) 2=y at j0 j1
    have hy:y * ((N:Int) - 1)∈upTo N:=by
     refine mem_upTo.mpr ?_
     have:y=0\/y=1:=by lia
     rcases this with h | h<;>rw [h]<;>lia
    case k50=>fail
    exact hK _ _ _ e4 (.pair ..) λ cs h=>(h.pair (by lia) hy hiu hou).2
   ·case k50=>fail
    case k74=>skip
    exact ⟨rfl,rfl,x'⟩
  ·refine qf (Sh':=Sh2 N (i+1)) rfl x (by lia) (λ K hK=>?_) λ H' x'=>?_
   ·case k50=>fail
    refine z3 (n:=n) h45 (by decide) λ H4 e4=>?_
    obtain ⟨j0,j1⟩:=zT far (bx+2) (m:=3) (by decide)
    case k50=>fail
    exact hK _ _ _ e4 (.put ..) λ cs h=>(h.put hiu j0 j1 hou).2.more
   ·case k50=>fail
    case k74=>skip
    exact ⟨rfl,rfl,x'⟩
 clear x
 rintro _ H2 ⟨rfl,x⟩
 case k50=>fail
 refine z3 (n:=n) h45 (by decide) λ H3 e3=>?_
 have x:=x.to e3
 case k50=>fail
 refine zf (λ z_=>?_) (λ z_=>?_)
 ·refine gg λ K0_ k0_=>?_
  refine pV (by lia) hN λ D ds H4 wi nD kD e4=>k0_ _ _ ?_
  have rD:=x.free d nD
  refine qf (Sh':=Sh2 N (i+1)) rfl (x.to e4) (by lia) (λ K hK=>?_) λ H' x'=>?_
  ·case k50=>fail
   exact hK _ _ _ (.refl _) (.bequeath kD rD) λ cs h=>(h.bequeath hiu wi.l wi.g wi.d).2
  ·case k50=>fail
   case k74=>skip
   exact q _ _ _ _ (x'.mono (λ z_ h=>h) (by lia))
 ·case k50=>fail
  case k74=>skip
  exact q _ _ _ _ (x.mono (λ z_ h=>h) (by lia))
set_option tactic.hygienic true in
theorem gm (h51:P 51=some lc) (h45:P 45=some tD) (d:Dom R H) {far:Int}
  (q:∀ (L:Nat) (H':AH) (cs:List Cmd) (vs:List AV),H L=.none->H' L=some (.list vs)->AreCmds H' R cs vs->uZ cs->vs.length<=300->Ext0 H H'->Q (.ref L) H'):CN P (n+2) 51 [.int far] H Q X:=by
 refine zR h51 rfl ?_
 intro C_ Q_ X_ m_
 obtain ⟨r0,r1⟩:=zm (x:=far) (m:=9) (by decide)
 obtain ⟨s0,s1⟩:=zm (x:=far.fdiv 54) (m:=11) (by decide)
 iterate 1 (case k31=>fail)
 let I218_:Loc->AH->Prop:=(λ m' H'=>∃ N:Nat,m'=[some (.int far),some (.int N),.none,.none,.none,.none,.none,.none,.none,.none,.none,.none,.none,.none,.none,.none]/\H=H'/\3<=N/\N<=60/\((far.fdiv 9).fmod 6=2->N<=11))
 refine gk I218_ (λ J0 hJ0=>?_) ?_
 ·case k50=>fail
  refine zf (λ _=>?_) (λ _=>?_)
  ·rename_i hz
   have hz:(far.fdiv 9).fmod 6=1:=of_decide_eq_true hz
   case k50=>fail
   case k74=>skip
   refine ⟨(50+(far.fdiv 54).fmod 11).toNat,?_,rfl,by lia,by lia,by lia⟩
   rw [Int.toNat_of_nonneg (by lia)]
   try rfl
  ·case k50=>fail
   case k74=>skip
   refine ⟨(3+far.fmod 9).toNat,?_,rfl,by lia,by lia,by lia⟩
   rw [Int.toNat_of_nonneg (by lia)]
   try rfl
 rintro _ _ ⟨N,rfl,rfl,hN3,hN60,hN11⟩
 clear r0 r1 s0 s1
 case k50=>fail
 refine yA (m0:=[some (.int far),some (.int N),.none,.none,.none,.none,.none,.none,.none,.none,.none,.none,.none,.none,.none,.none]) (H:=H) (p:=λ _=>true) (f:=λ _=>.tup [.str "make",.int 3]) (λ _ _=>trivial) _ _ _ _ _ (.refl _) (λ v=>rfl) (λ v _ H' e Q hq=>hq H' (.refl _)) (λ v hv _ H' e Q hq=>?_) λ H1 e1=>?_
 ·case k50=>fail
  exact hq H' (.refl _)
 have er:[]++List.map (λ _=>AV.tup [.str "make",.int 3]) (List.filter (λ _=>true) (Src.items ⟨zJ 0 (N:Int),.none⟩))=List.replicate N (.tup [.str "make",.int 3]):=by
  rw [List.nil_append,ze,List.map_const']
  simp [zJ]
 rw [er]
 intro L nL
 have x:Lg (Sh2 N 0) H R L N _:=⟨e1.back nL,e1.trans (Ext0.set nL),List.replicate N (.make 3),List.replicate N (.tup [.str "make",.int 3]),AH.set_self ..,m8 N,⟨[],by rw [List.append_nil],(by intro c hc;cases hc),Nat.le_refl _⟩,by rw [List.length_replicate];exact Nat.le_refl _⟩
 generalize H1.set L (.list (List.replicate N (.tup [.str "make",.int 3])))=H2 at x |-
 clear er e1 nL
 case k50=>fail
 intro u hu
 have x:=x.to (Ext0.set (o:=.list [.int 1,.int (-1),.int 2,.int (N - 1)]) hu)
 have ku:(H2.set u (.list [.int 1,.int (-1),.int 2,.int (N - 1)])) u=some (.list [.int 1,.int (-1),.int 2,.int (N - 1)]):=AH.set_self ..
 generalize H2.set u (.list [.int 1,.int (-1),.int 2,.int (N - 1)])=H3 at x ku |-
 obtain ⟨j0,j1⟩:=zm (x:=far.fdiv 54) (m:=4) (by decide)
 obtain ⟨st,ho',-⟩:=yp (l:=[1,-1,2,(N:Int) - 1]) j0 j1
 have ho':[AV.int 1,AV.int (-1),AV.int 2,AV.int ((N:Int) - 1)][((far.fdiv 54).fmod 4).toNat]?=some (.int st):=ho'
 case k50=>(first | exact ku .. | exact ho' .. | exact j0 ..)
 clear j0 j1 ho' ku hu
 let I258_:Nat->Loc->AH->Prop:=(λ i m' H'=>∃ (a2 a5 a6 a7:Option AV),m'=mL far N a2 L st a5 a6 a7/\Lg (Sh2 N i) H R L (N+2 * i) H')
 refine zH I258_ (λ i v m' H' J0 hJ0 K0 hK0 hv hI=>?_) (λ m' H' hI=>?_) ⟨_,_,_,_,rfl,x⟩
 ·with_reducible refine ex4 (hI) λ a2 a5 a6 a7 hx_=>an2 hx_ λ hr4_ x=>?_;clear hx_;(try clear hI);subst hr4_
  obtain ⟨hi,rfl⟩:=xb hv
  case k74=>skip
  exact ⟨trivial,_,rfl,m9 h45 d (by lia) hN60 x λ _ _ _ _ x=>hJ0 _ _ ⟨_,_,_,_,rfl,x⟩⟩
 clear x
 with_reducible refine ex4 (hI) λ a2 a5 a6 a7 hx_=>an2 hx_ λ hr4_ x=>?_;clear hx_;(try clear hI);subst hr4_
 case k74=>skip
 refine ⟨trivial,?_⟩
 have hR:(zJ 0 (N:Int)).length=N:=by simp [zJ]
 have x:Lg (Sh2 N (zJ 0 (N:Int)).length) H R L (N+2 * (zJ 0 (N:Int)).length) H':=x
 rw [hR] at x
 have x:=x.mono (λ _ h=>h.three) (Nat.le_refl _)
 case k50=>fail
 let I271_:Nat->Loc->AH->Prop:=(λ i m' H'=>∃ (a2:Option AV),m'=mL far N a2 L st a5 a6 a7/\Lg (Sh3 N i) H R L (N+2 * N+i) H')
 refine zH I271_ (λ i v m' H' J0 hJ0 K0 hK0 hv hI=>?_) (λ m' H' hI=>?_) ⟨_,rfl,x⟩
 ·clear x
  with_reducible refine ex1 (hI) λ a2 hx_=>an2 hx_ λ hr1_ x=>?_;clear hx_;(try clear hI);subst hr1_
  obtain ⟨hi,rfl⟩:=xb hv
  have e0:(0+(i:Int))=(i:Int):=by lia
  rw [e0]
  case k74=>skip
  refine ⟨trivial,_,rfl,?_⟩
  case k50=>fail
  refine z3 (n:=n) h45 (by decide) λ H5 e5=>?_
  have x:=x.to e5
  case k50=>fail
  refine zf (λ _=>?_) (λ _=>?_)
  ·refine qf (Sh':=Sh3 N (i+1)) rfl x (by lia) (λ K hK=>?_) λ H' x'=>?_
   ·case k50=>fail
    exact hK _ _ _ (.refl _) (.drop ..) λ cs h=>(h.drop (by lia)).2
   ·case k50=>fail
    case k74=>skip
    exact ⟨_,rfl,x'⟩
  ·case k50=>fail
   case k74=>skip
   exact ⟨_,rfl,x.mono (λ _ h=>h.more) (by lia)⟩
 clear x
 with_reducible refine ex1 (hI) λ a2 hx_=>an2 hx_ λ hr1_ x=>?_;clear hx_;(try clear hI);subst hr1_
 case k74=>skip
 refine ⟨trivial,?_⟩
 have x:Lg (Sh3 N (zJ 0 (N:Int)).length) H R L (N+2 * N+(zJ 0 (N:Int)).length) H':=x
 rw [hR] at x
 have fin:∀ {L H'},Lg uZ H R L 300 H'->WSs (CN P (n+1)) (.cons (.ret (.var 3)) .nil) (mL far N a2 L st a5 a6 a7) H' (λ fl _ H=>match fl with | .ret v=>Q v H | .next=>Q .none H) (λ c _ H=>X c H):=λ {L H'} x=>by
  with_reducible refine ex2 (x.ex) λ cs vs hx_=>an4 hx_ λ k ac sh hl=>?_;clear hx_
  case k50=>fail
  case k74=>skip
  exact q L H' cs vs x.new k (ac.keep λ D o h r=>⟨h,by
   have hne:D≠L:=λ z=>by rw [z,RM.set_self] at r;cases r
   rwa [RM.set_ne _ _ hne] at r⟩) sh hl x.ext
 case k50=>fail
 refine zf (λ hz=>?_) (λ _=>?_)
 ·have hz:(far.fdiv 9).fmod 6=2:=of_decide_eq_true hz
  have hN:=hN11 hz
  refine m7 (Sh':=λ cs=>∃ c0,Sh3 N N c0/\cs=c0++[.make 1,.make 2,.make 1,.pair N (N+1) (N+2)]) rfl d x (by lia) (λ K hK=>?_) λ L1 H1 x1=>?_
  ·case k50=>fail
   exact hK _ _ _ (.refl _) (Nat.le_refl _) (.cons (.make 1) (.cons (.make 2) (.cons (.make 1) (.cons (.pair ..) .nil)))) λ cs h=>⟨cs,h,rfl⟩
  refine m7 (Sh':=λ cs=>∃ c0,Sh3 N N c0/\cs=c0++[.make 1,.make 2,.make 1,.pair N (N+1) (N+2)]++[.bequeath (N+1) [.up,.down N],.drop (N+1),.drop (N+2)]) rfl d x1 (by lia) (λ K hK=>?_) λ L2 H2 x2=>?_
  ·case k50=>fail
   intro D nD
   have kD:(H1.set D (.list [.tup [.str "up"],.tup [.str "down",.int N]])) D=some (.list ([Deed.up,Deed.down N].map Deed.av)):=AH.set_self ..
   have eD:Ext0 H1 _:=Ext0.set (o:=.list [.tup [.str "up"],.tup [.str "down",.int N]]) nD
   have rD:=x1.free d nD
   generalize H1.set D (.list [.tup [.str "up"],.tup [.str "down",.int N]])=H4 at kD eD |-
   case k50=>fail
   exact hK _ _ _ eD (Nat.le_of_ble_eq_true rfl) (.cons (.bequeath kD rD) (.cons (.drop ..) (.cons (.drop ..) .nil))) λ cs ⟨c0,h,e⟩=>⟨c0,h,by rw [e]⟩
  refine m7 (Sh':=uZ) rfl d x2 (by lia) (λ K hK=>?_) λ L3 H3 x3=>?_
  ·case k50=>fail
   exact hK _ _ _ (.refl _) (Nat.le_of_ble_eq_true rfl) (.cons (.put ..) .nil) λ cs ⟨c0,h,e⟩=>by
    have:=h.extra hN3 hN (decide ((far.fdiv 54).fmod 2=1))
    rw [e]
    simp only [List.append_assoc,List.cons_append,List.nil_append]
    case k74=>skip
    exact this
  case k50=>fail
  case k74=>skip
  exact fin (x3.mono (λ _ h=>h) (by lia))
 ·case k50=>fail
  case k74=>skip
  exact fin (x.mono (λ _ h=>h.done hN60) (by lia))
theorem jT (h52:P 52=some hZ) (h51:P 51=some lc) (h45:P 45=some tD) (h43:P 43=some l8) (d:Dom R H) {ns:List Int} (hn:ns.length<=63)
  (q:∀ (L:Nat) (H':AH) (cs:List Cmd) (vs:List AV) (is:List Int),H L=.none->H' L=some (.list (vs++is.map .int))->AreCmds H' R cs vs->uZ cs->vs.length+is.length<=400->Ext0 H H'->Q (.ref L) H'):CN P (n+3) 52 [.fro (ns.map .int)] H Q X:=by
 refine zR h52 rfl ?_
 intro C_ Q_ X_ m_
 case k50=>fail
 refine uk (n:=n+1) h43 (by decide) ?_
 generalize ns.getD (0:Int).toNat 0=far
 case k50=>fail
 refine zf (λ z_=>?_) (λ z_=>?_)
 ·case k50=>fail
  refine gm (n:=n) h51 h45 d λ L H1 cs vs hL k1 ac rn hl e1=>?_
  case k50=>fail
  intro U hU
  rw [tQ] at *
  have x2:Ext0 H1 _:=Ext0.set (o:=.list (((ns.take (30:Int).toNat).drop (1:Int).toNat).map .int)) hU
  have kU:(H1.set U (.list (((ns.take (30:Int).toNat).drop (1:Int).toNat).map .int))) U=some (.list (((ns.take (30:Int).toNat).drop (1:Int).toNat).map .int)):=AH.set_self ..
  have k1:=x2 _ _ k1
  have ac:=ac.ext x2
  have e2:=e1.trans x2
  generalize H1.set U (.list (((ns.take (30:Int).toNat).drop (1:Int).toNat).map .int))=H2 at x2 kU k1 ac e2 |-
  have hb:((ns.take (30:Int).toNat).drop (1:Int).toNat).length<=63:=by simp;lia
  case k50=>(first | exact k1 .. | exact kU ..)
  intro L2 n2
  case k74=>skip
  exact q L2 _ cs vs _ (e2.back n2) (AH.set_self ..) (ac.ext (Ext0.set n2)) rn (by lia) (e2.trans (Ext0.set n2))
 ·case k50=>fail
  refine zf (λ z_=>?_) (λ z_=>?_)
  ·obtain ⟨j0,j1⟩:=zm (x:=far.fdiv 12) (m:=60) (by decide)
   case k50=>fail
   refine yA (m0:=[some (.fro (ns.map .int)),some (.int far),.none,.none,.none,.none,.none,.none,.none,.none]) (H:=H) (p:=λ z_=>true) (f:=vZ λ k=>.int (far.fdiv 12+17 * k)) (λ z_ z_=>trivial) _ _ _ _ _ (.refl _) (λ v=>rfl) (λ v z_ H' e Q hq=>?_) (λ v hv z_ H' e Q hq=>?_) λ H' e=>?_
   ·exact hq H' (.refl _)
   ·obtain ⟨i,hi⟩:=List.getElem?_of_mem hv
    obtain ⟨_,rfl⟩:=xb hi
    case k50=>fail
    exact hq H' (.refl _)
   ·intro L hL
    have er:((zJ 0 (60+(far.fdiv 12).fmod 60)).filter λ z_=>true).map (vZ λ k=>.int (far.fdiv 12+17 * k))=((List.range (60+(far.fdiv 12).fmod 60 - 0).toNat).map λ (k:Nat)=>far.fdiv 12+17 * (0+(k:Int))).map AV.int:=by
     rw [ze];unfold zJ;rw [List.map_map,List.map_map];rfl
    have hlen:((List.range (60+(far.fdiv 12).fmod 60 - 0).toNat).map λ (k:Nat)=>far.fdiv 12+17 * (0+(k:Int))).length<=120:=by simp;lia
    rw [List.nil_append]
    have er:List.map (vZ λ k=>.int (far.fdiv 12+17 * k)) (List.filter (λ z_=>true) (Src.items ⟨zJ 0 (60+(far.fdiv 12).fmod 60),.none⟩))=_:=er
    rw [er]
    generalize ((List.range (60+(far.fdiv 12).fmod 60 - 0).toNat).map λ (k:Nat)=>far.fdiv 12+17 * (0+(k:Int)))=js at hlen |-
    have x1:Ext0 H' _:=Ext0.set (o:=.list (js.map .int)) hL
    have k1:(H'.set L (.list (js.map .int))) L=some (.list (js.map .int)):=AH.set_self ..
    have e1:=e.trans x1
    generalize H'.set L (.list (js.map .int))=H1 at x1 k1 e1 |-
    case k50=>fail
    rw [tQ]
    intro U hU
    have x2:Ext0 H1 _:=Ext0.set (o:=.list (((ns.take (20:Int).toNat).drop (1:Int).toNat).map .int)) hU
    have kU:(H1.set U (.list (((ns.take (20:Int).toNat).drop (1:Int).toNat).map .int))) U=some (.list (((ns.take (20:Int).toNat).drop (1:Int).toNat).map .int)):=AH.set_self ..
    have k1:=x2 _ _ k1
    have e2:=e1.trans x2
    generalize H1.set U (.list (((ns.take (20:Int).toNat).drop (1:Int).toNat).map .int))=H2 at x2 kU k1 e2 |-
    have hb:((ns.take (20:Int).toNat).drop (1:Int).toNat).length<=63:=by simp;lia
    case k50=>(first | exact k1 .. | exact kU ..)
    intro L2 n2
    case k74=>skip
    refine q L2 _ [] [] (js++(ns.take (20:Int).toNat).drop (1:Int).toNat) (e2.back n2) ?_ .nil .nil (by rw [List.length_append];simp only [List.length_nil];lia) (e2.trans (Ext0.set n2))
    rw [AH.set_self,List.map_append,List.nil_append]
  ·case k50=>fail
   rw [tQ]
   intro L hL
   case k74=>skip
   exact q L _ [] [] _ hL (AH.set_self ..) .nil .nil (by simp;lia) (Ext0.set hL)
end

inductive Why where
 | hand
 | slot (h j:Int)
 | pair (p:Int)
noncomputable def Why.av:Why->AV
 | .hand=>.tup [.str "hand"]
 | .slot h j=>.tup [.str "slot",.int h,.int j]
 | .pair p=>.tup [.str "pair",.int p]
noncomputable def zg (p:Int×Why):AV:=.tup [.int p.1,p.2.av]

section
variable {P:Nat->Option IFn} {n:Nat} {R:RM} {H:AH} {A:Ad} {s:St} {Q:AV->AH->Prop} {X:Nat->AH->Prop}

theorem rX (h41:P 41=some tj) (p:yB P) (x:Chest R H A s) (ok:s.Ok) {h:Int} (hh:h∈s.ks)
  (q:∀ (L:Nat) (H':AH) (g:List (Int×Why)),H L=.none->H' L=some (.list (g.map zg))->g.length<=9->(∀ b w,(b,w)∈g->∃ j:Int,w=.slot h j/\0<=j/\(s.row h)[j.toNat]?=some (some (b,true)))->(∀ (j:Nat) b,(s.row h)[j]?=some (some (b,true))->∃ w,(b,w)∈g)->Ext0 H H'->Q (.ref L) H') :
  CN P (n+4) 41 [.ref A.c,.int h] H Q X:=by
 have rl:=ok.rl h hh
 refine zR h41 rfl ?_
 intro C_ Q_ X_ m_
 case k50=>fail
 intro L hL
 have e1:Ext0 H _:=Ext0.set (o:=.list []) hL
 have k1:(H.set L (.list [])) L=some (.list []):=AH.set_self ..
 generalize H.set L (.list [])=H1 at e1 k1 |-
 have x1:=x.ext e1
 case k50=>(first | exact x1.c .. | exact x1.dx ..)
 refine wK (n:=n+1) p.h25 p.h21 x1 hh ?_
 case k50=>fail
 let I31_:Nat->Loc->AH->Prop:=(λ i m' H'=>∃ (g:List (Int×Why)) (a3 a4:Option AV),m'=[some (.ref A.c),some (.int h),some (.ref L),a3,a4,.none,.none,.none,.none,.none,.none,.none,.none]/\Ext0 H H'/\H' L=some (.list (g.map zg))/\g.length<=i/\(∀ b w,(b,w)∈g->∃ j:Int,w=.slot h j/\0<=j/\(s.row h)[j.toNat]?=some (some (b,true)))/\(∀ (j:Nat) b,j < i->(s.row h)[j]?=some (some (b,true))->∃ w,(b,w)∈g))
 refine zH I31_ (λ i v m' H' J0 hJ0 K0 hK0 hv hI=>?_) (λ m' H' hI=>?_) ⟨[],_,_,rfl,e1,k1,Nat.le_refl _,(by intro b w hm;cases hm),(by intro j b hj;lia)⟩
 ·with_reducible refine ex3 (hI) λ g a3 a4 hx_=>an6 hx_ λ hr3_ eH kL gl g1 g2=>?_;clear hx_;(try clear hI);subst hr3_
  obtain ⟨hi,rfl⟩:=xb hv
  have hi:i < (s.row h).length:=by lia
  have e0:(0+(i:Int)).toNat=i:=by lia
  have hv:(s.row h)[i]?=some (s.row h)[i]:=List.getElem?_eq_getElem hi
  have xH:=x.ext eH
  case k74=>skip
  refine ⟨trivial,_,rfl,?_⟩
  case k50=>(first | exact xH.c .. | exact xH.dx ..)
  refine uF (n:=n) p.h28 p.h21 p.h22 xH hh (by lia) (by rw [e0];exact hv) ?_
  have hvl:(g.map zg).length < lid:=by simp;unfold lid;lia
  cases hs:(s.row h)[i] with
  | none=>
   rw [hs] at hv
   case k50=>fail
   case k74=>skip
   refine em3 g _ _ ⟨rfl,eH,kL,by lia,g1,λ j b hj hb=>?_⟩
   by_cases z:j=i
   ·subst z;rw [hv] at hb;cases hb
   ·exact g2 j b (by lia) hb
  | some ob=>
   obtain ⟨o,b⟩:=ob
   rw [hs] at hv
   cases b with
   | false=>
    case k50=>fail
    case k74=>skip
    refine em3 g _ _ ⟨rfl,eH,kL,by lia,g1,λ j b hj hb=>?_⟩
    by_cases z:j=i
    ·subst z;rw [hv] at hb;cases hb
    ·exact g2 j b (by lia) hb
   | true=>
    case k50=>(first | exact kL .. | exact hvl ..)
    case k74=>skip
    refine em3 (g++[(o,.slot h (0+(i:Int)))]) _ _ ⟨rfl,eH.setNone hL,?_,by simp;lia,λ b w hm=>?_,λ j b hj hb=>?_⟩
    ·rw [AH.set_self,List.map_append];rfl
    ·rcases List.mem_append.mp hm with z | z
     ·exact g1 b w z
     ·cases List.mem_singleton.mp z
      case k74=>skip
      exact ⟨_,rfl,by lia,by rw [e0];exact hv⟩
    ·by_cases z:j=i
     ·subst z;rw [hv] at hb;cases hb
      case k74=>skip
      exact ⟨_,List.mem_append_right _ (.head _)⟩
     ·obtain ⟨w,hw⟩:=g2 j b (by lia) hb
      case k74=>skip
      exact ⟨w,List.mem_append_left _ hw⟩
 ·with_reducible refine ex3 (hI) λ g a3 a4 hx_=>an6 hx_ λ hr3_ eH kL gl g1 g2=>?_;clear hx_;(try clear hI);subst hr3_
  case k74=>skip
  refine ⟨trivial,?_⟩
  have hlen:(zJ 0 ((s.row h).length:Int)).length=(s.row h).length:=by simp [zJ]
  have gl:g.length<=(zJ 0 ((s.row h).length:Int)).length:=gl
  have g2:∀ (j:Nat) b,j < (zJ 0 ((s.row h).length:Int)).length->(s.row h)[j]?=some (some (b,true))->∃ w,(b,w)∈g:=g2
  rw [hlen] at gl g2
  case k50=>fail
  case k74=>skip
  exact q L H' g hL kL (by lia) g1 (λ j b hb=>g2 j b (List.getElem?_eq_some_iff.mp hb).1 hb) eH
end

theorem mc (x a b:Int) (H:AH):wIn (.int x) (.tup [.int a,.int b]) H=some (decide (a=x)||decide (b=x)):=by
 simp [wIn,AV.data.go,AV.data,uI]
theorem xU (x:Int) {H:AH} {d:Nat} {ks:List Int} {f:Int->AV} {ep:Nat} (h:H d=some (.dict (dOf ks f) ep)):wIn (.int x) (.ref d) H=some (decide (x∈ks)):=by
 by_cases hk:x∈ks
 ·rw [yg h hk];simp [hk]
 ·rw [sU h hk];simp [hk]

section
variable {P:Nat->Option IFn} {n:Nat} {R:RM} {H:AH} {A:Ad} {s:St} {Q:AV->AH->Prop} {X:Nat->AH->Prop}

theorem rY (h40:P 40=some ti) (p:yB P) (x:Chest R H A s) (ok:s.Ok) {h:Int} {Mt ep:Nat} {ms:List Int} (hM:H Mt=some (.dict (dOf ms λ z_=>.bool true) ep))
  (q:∀ (L:Nat) (H':AH) (g:List (Int×Why)),H L=.none->H' L=some (.list (g.map zg))->g.length<=60->(∀ b w,(b,w)∈g->∃ k∈s.ls,w=.pair k/\(s.link k).1∈ms/\(s.link k).2.1∈ms/\(s.link k).2.2=b)->(∀ k∈s.ls,((s.link k).1=h\/(s.link k).2.1=h)->(s.link k).1∈ms->(s.link k).2.1∈ms->∃ w,((s.link k).2.2,w)∈g)->Ext0 H H'->Q (.ref L) H') :
  CN P (n+2) 40 [.ref A.c,.int h,.ref Mt] H Q X:=by
 have ll:=ok.ll
 refine zR h40 rfl ?_
 intro C_ Q_ X_ m_
 case k50=>fail
 intro L hL
 have e1:Ext0 H _:=Ext0.set (o:=.list []) hL
 have k1:(H.set L (.list [])) L=some (.list []):=AH.set_self ..
 generalize H.set L (.list [])=H1 at e1 k1 |-
 have x1:=x.ext e1
 case k50=>(first | exact x1.c .. | exact x1.dx ..)
 refine w8 (n:=n) p.h35 x1 (by lia) λ Lp H2 hLp kp e2=>?_
 have nL:L≠Lp:=λ z=>by rw [<-z,k1] at hLp;cases hLp
 have k2:=e2 _ _ k1
 case k50=>exact zC kp ..
 let I30_:Nat->Loc->AH->Prop:=(λ i m' H'=>∃ (g:List (Int×Why)) (a4 a5 a6 a7:Option AV),m'=[some (.ref A.c),some (.int h),some (.ref Mt),some (.ref L),a4,a5,a6,a7,.none,.none,.none,.none,.none,.none,.none,.none]/\Ext0 H H'/\H' Lp=some (.list ((zA s.ls).map (yW s)))/\H' L=some (.list (g.map zg))/\g.length<=i/\(∀ b w,(b,w)∈g->∃ k∈s.ls,w=.pair k/\(s.link k).1∈ms/\(s.link k).2.1∈ms/\(s.link k).2.2=b)/\(∀ (j:Nat) k,j < i->(zA s.ls)[j]?=some k->((s.link k).1=h\/(s.link k).2.1=h)->(s.link k).1∈ms->(s.link k).2.1∈ms->∃ w,((s.link k).2.2,w)∈g))
 refine zH I30_ (λ i v m' H' J0 hJ0 K0 hK0 hv hI=>?_) (λ m' H' hI=>?_) ⟨[],_,_,_,_,rfl,e1.trans e2,kp,k2,Nat.le_refl _,(by intro b w hm;cases hm),(by intro j b hj;lia)⟩
 ·with_reducible refine ex5 (hI) λ g a4 a5 a6 a7 hx_=>an7 hx_ λ hr5_ eH kP kL gl g1 g2=>?_;clear hx_;(try clear hI);subst hr5_
  have hv:((zA s.ls).map (yW s))[i]?=some v:=hv
  rw [List.getElem?_map] at hv
  with_reducible refine ex1 (Option.map_eq_some_iff.mp hv) λ k hx_=>an2 hx_ λ hk hr2_=>?_;clear hx_;subst hr2_
  have hkm:k∈s.ls:=mem_sortI.mp (List.mem_of_getElem? hk)
  have hi:i < s.ls.length:=by rw [<-zB s.ls];exact (List.getElem?_eq_some_iff.mp hk).1
  have hvl:(g.map zg).length < lid:=by simp;unfold lid;lia
  have kM:=eH _ _ hM
  have other:∀ {j:Nat} {k':Int},j < i+1->(zA s.ls)[j]?=some k'->j < i\/k'=k:=λ {j k'} hj hk'=>by
   by_cases z:j=i
   ·subst z;rw [hk] at hk';exact .inr (Option.some.inj hk').symm
   ·exact .inl (by lia)
  case k74=>skip
  refine ⟨kP,_,rfl,?_⟩
  case k50=>(first | exact mc .. | exact xU _ kM ..)
  refine zf (λ h=>?_) (λ h=>?_)
  ·simp only [Bool.and_eq_true,decide_eq_true_eq] at h
   with_reducible refine an3 (h) λ h1 h2 h3=>?_;(try clear h)
   case k50=>(first | exact kL .. | exact hvl ..)
   case k74=>skip
   refine em5 (g++[((s.link k).2.2,.pair k)]) _ _ _ _ ⟨rfl,eH.setNone hL,by rw [AH.set_ne _ _ nL.symm];exact kP,?_,by simp;lia,λ b w hm=>?_,λ j k' hj hk' c1 c2 c3=>?_⟩
   ·rw [AH.set_self,List.map_append];rfl
   ·rcases List.mem_append.mp hm with z | z
    ·exact g1 b w z
    ·cases List.mem_singleton.mp z
     case k74=>skip
     exact ⟨k,hkm,rfl,h2,h3,rfl⟩
   ·rcases other hj hk' with z | z
    ·obtain ⟨w,hw⟩:=g2 j k' z hk' c1 c2 c3
     case k74=>skip
     exact ⟨w,List.mem_append_left _ hw⟩
    ·subst z;exact ⟨_,List.mem_append_right _ (.head _)⟩
  ·case k50=>fail
   case k74=>skip
   refine em5 g _ _ _ _ ⟨rfl,eH,kP,kL,by lia,g1,λ j k' hj hk' c1 c2 c3=>?_⟩
   rcases other hj hk' with z | z
   ·exact g2 j k' z hk' c1 c2 c3
   ·subst z
    simp only [c2,c3,decide_true,Bool.and_true,Bool.or_eq_false_iff,decide_eq_false_iff_not] at h
    rcases c1 with c1 | c1
    ·exact absurd c1 h.1
    ·exact absurd c1 h.2
 ·with_reducible refine ex5 (hI) λ g a4 a5 a6 a7 hx_=>an7 hx_ λ hr5_ eH kP kL gl g1 g2=>?_;clear hx_;(try clear hI);subst hr5_
  case k74=>skip
  refine ⟨kP,?_⟩
  have hlen:((zA s.ls).map (yW s)).length=s.ls.length:=by rw [List.length_map,zB]
  have gl:g.length<=((zA s.ls).map (yW s)).length:=gl
  rw [hlen] at gl
  have g2:∀ (j:Nat) k,j < ((zA s.ls).map (yW s)).length->(zA s.ls)[j]?=some k->((s.link k).1=h\/(s.link k).2.1=h)->(s.link k).1∈ms->(s.link k).2.1∈ms->∃ w,((s.link k).2.2,w)∈g:=g2
  rw [hlen] at g2
  case k50=>fail
  case k74=>skip
  refine q L H' g hL kL (by lia) g1 (λ k hk c1 c2 c3=>?_) eH
  obtain ⟨j,hj⟩:=List.getElem?_of_mem (mem_sortI.mpr hk)
  have:j < s.ls.length:=by rw [<-zB s.ls];exact (List.getElem?_eq_some_iff.mp hj).1
  exact g2 j k this hj c1 c2 c3
end

theorem xu {C:Calls} {c:IT} {b:ISs} {X:Nat->Loc->AH->Prop} (I:Nat->Loc->AH->Prop) {Q:Fl->Loc->AH->Prop}
  (step:∀ k m H (J:Loc->AH->Prop) (_:∀ m H,(∃ k',k' < k/\I k' m H)->J m H) (K:AV->Loc->AH->Prop) (_:∀ x m H,Q (.ret x) m H->K x m H),I k m H->WT C (xq X m) c m H (whK C b X m J K Q)) {k:Nat} {m:Loc} {H:AH} (h0:I k m H):∃ N,vm (λ m H Q=>WT C (λ c H=>X c m H) c m H Q) (λ m H Q=>WSs C b m H Q X) N m H Q:=by
 have gen:∀ (N k:Nat),k < N->∀ m H,I k m H->vm (λ m H Q=>WT C (λ c H=>X c m H) c m H Q) (λ m H Q=>WSs C b m H Q X) N m H Q:=by
  intro N
  induction N with
  | zero=>intro k hk;lia
  | succ N ih=>
   intro k hk m H h
   exact step k m H (λ m' H''=>vm (λ m H Q=>WT C (λ c H=>X c m H) c m H Q) (λ m H Q=>WSs C b m H Q X) N m' H'' Q) (λ m' H'' ⟨k',hk',h'⟩=>ih k' (by lia) m' H'' h') (λ x m' H''=>Q (.ret x) m' H'') (λ z_ z_ z_ h=>h) h
 case k74=>skip
 exact ⟨k+1,gen (k+1) k (by lia) m H h0⟩

noncomputable def Just (s:St) (known:List Int) (b:Int):Why->Prop
 | .hand=>b∈s.hs
 | .slot h j=>h∈known/\0<=j/\(s.row h)[j.toNat]?=some (some (b,true))
 | .pair p=>p∈s.ls/\(s.link p).1∈known/\(s.link p).2.1∈known/\(s.link p).2.2=b
inductive Der (s:St):List (Int×Why)->Prop
 | nil:Der s []
 | snoc {rows:List (Int×Why)} {b:Int} {w:Why}:Der s rows->b∉rows.map (·.1)->Just s (rows.map (·.1)) b w->Der s (rows++[(b,w)])
structure Closed (s:St) (known:List Int):Prop where
 hs:∀ b∈s.hs,b∈known
 ls:∀ p∈s.ls,(s.link p).1∈known->(s.link p).2.1∈known->(s.link p).2.2∈known
 row:∀ b∈known,∀ o,some (o,true)∈s.row b->o∈known

theorem Just.box {s:St} (ok:s.Ok) {known:List Int} {b:Int} {w:Why} (hk:∀ k∈known,k∈s.ks) (h:Just s known b w):b∈s.ks:=by
 cases w with
 | hand=>exact ok.hk b h
 | slot x j=>exact ok.ro x (hk x h.1) b true (List.mem_of_getElem? h.2.2)
 | pair p=>obtain ⟨h1,h2,h3,h4⟩:=h;rw [<-h4];exact (ok.lo p h1).2.2
theorem Der.box {s:St} (ok:s.Ok) {rows:List (Int×Why)} (d:Der s rows):∀ b∈rows.map (·.1),b∈s.ks:=by
 induction d with
 | nil=>intro b h;cases h
 | snoc d hn hj ih=>
  intro b h
  rw [List.map_append] at h
  rcases List.mem_append.mp h with z | z
  ·exact ih b z
  ·rw [List.mem_singleton.mp z];exact hj.box ok ih
theorem Der.nodup {s:St} {rows:List (Int×Why)} (d:Der s rows):(rows.map (·.1)).Nodup:=by
 induction d with
 | nil=>exact List.nodup_nil
 | snoc d hn hj ih=>
  rw [List.map_append,List.nodup_append]
  case k74=>skip
  refine ⟨ih,by simp,λ a ha b hb z=>?_⟩
  rw [z,List.mem_singleton.mp hb] at ha
  exact hn ha
theorem Der.length {s:St} (ok:s.Ok) {rows:List (Int×Why)} (d:Der s rows):rows.length<=60:=by
 have:=yD d.nodup (d.box ok)
 rw [List.length_map] at this
 exact Nat.le_trans this ok.kl
theorem we {x:Int}:∀ {l:List Int},x∉l->l.Nodup->(zo x l).Nodup
 | [],_,_=>by simp [zo]
 | y::r,hx,h=>by
  unfold zo
  split
  ·exact List.nodup_cons.mpr ⟨hx,h⟩
  ·have hh:=List.nodup_cons.mp h
   refine List.nodup_cons.mpr ⟨λ z=>?_,we (λ z=>hx (.tail _ z)) hh.2⟩
   rcases mem_insertI.mp z with z | z
   ·exact hx (by rw [<-z];exact .head _)
   ·exact hh.1 z
theorem zF:∀ {l:List Int},l.Nodup->(zA l).Nodup
 | [],_=>List.nodup_nil
 | x::r,h=>by
  have hh:=List.nodup_cons.mp h
  exact we (λ z=>hh.1 (mem_sortI.mp z)) (zF hh.2)
theorem md {s:St} (l:List Int):∀ (acc:List (Int×Why)),Der s acc->(∀ b∈l,b∈s.hs)->l.Nodup->(∀ b∈l,b∉acc.map (·.1))->Der s (acc++l.map λ b=>(b,.hand)):=by
 induction l with
 | nil=>
  intro acc d _ _ _
  rw [List.map_nil,List.append_nil];exact d
 | cons b r ih_=>
  intro acc d hh hn ha
  have hd:=List.nodup_cons.mp hn
  have:=ih_ (acc++[(b,.hand)]) (.snoc (w:=.hand) d (ha b (.head _)) (hh b (.head _))) (λ x hx=>hh x (.tail _ hx)) hd.2 (λ x hx z=>by
   rw [List.map_append] at z
   rcases List.mem_append.mp z with z | z
   ·exact ha x (.tail _ hx) z
   ·rw [List.mem_singleton.mp z] at hx;exact hd.1 hx)
  rw [List.append_assoc] at this
  case k74=>skip
  exact this

theorem Just.mono {s:St} {k k':List Int} {b:Int} {w:Why} (h:∀ x∈k,x∈k') (j:Just s k b w):Just s k' b w:=by
 cases w with
 | hand=>exact j
 | slot x i=>exact ⟨h _ j.1,j.2⟩
 | pair p=>exact ⟨j.1,h _ j.2.1,h _ j.2.2.1,j.2.2.2⟩

structure Half (s:St) (rows:List (Int×Why)) (i:Nat):Prop where
 der:Der s rows
 hs:∀ b∈s.hs,b∈rows.map (·.1)
 row:∀ b∈(rows.take i).map (·.1),∀ o,some (o,true)∈s.row b->o∈rows.map (·.1)
 ls:∀ p∈s.ls,(s.link p).1∈(rows.take i).map (·.1)->(s.link p).2.1∈(rows.take i).map (·.1)->(s.link p).2.2∈rows.map (·.1)
theorem Half.add {s:St} {rows:List (Int×Why)} {i:Nat} (h:Half s rows i) (hi:i<=rows.length) {b:Int} {w:Why} (hn:b∉rows.map (·.1)) (j:Just s (rows.map (·.1)) b w):Half s (rows++[(b,w)]) i:=by
 have e:(rows++[(b,w)]).take i=rows.take i:=by rw [List.take_append_of_le_length hi]
 have m:∀ x,x∈rows.map (·.1)->x∈(rows++[(b,w)]).map (·.1):=λ x hx=>by rw [List.map_append];exact List.mem_append_left _ hx
 case k74=>skip
 exact ⟨.snoc h.der hn j,λ x hx=>m _ (h.hs x hx),λ x hx o ho=>m _ (h.row x (by rw [e] at hx;exact hx) o ho),λ p hp h1 h2=>m _ (h.ls p hp (by rw [e] at h1;exact h1) (by rw [e] at h2;exact h2))⟩
theorem zj {rows:List (Int×Why)} {i:Nat} {r:Int×Why} (h:rows[i]?=some r) {x:Int}:x∈(rows.take (i+1)).map (·.1)↔x∈(rows.take i).map (·.1)\/x=r.1:=by
 rw [List.take_add_one,h,List.map_append,List.mem_append];simp

structure CtS (s:St) (H H':AH) (L M:Nat) (rows:List (Int×Why)) (i:Nat):Prop where
 e:Ext0 H H'
 l:H' L=some (.list (rows.map zg))
 m:∃ ms ep,H' M=some (.dict (dOf ms λ z_=>.bool true) ep)/\ms.length<=rows.length/\∀ b,b∈ms↔b∈rows.map (·.1)
 h:Half s rows i
theorem CtS.ext {s:St} {H H' H'':AH} {L M:Nat} {rows:List (Int×Why)} {i:Nat} (z:CtS s H H' L M rows i) (e:Ext0 H' H''):CtS s H H'' L M rows i:=by
 with_reducible refine ex2 (z.m) λ ms ep hx_=>an3 hx_ λ h1 h2 h3=>?_;clear hx_
 case k74=>skip
 exact ⟨z.e.trans e,e _ _ z.l,⟨ms,ep,e _ _ h1,h2,h3⟩,z.h⟩
noncomputable def mC (c L M:Nat) (a1 a4 a5 a6:Option AV):Loc:=[some (.ref c),a1,some (.ref L),some (.ref M),a4,a5,a6,.none,.none,.none,.none,.none,.none,.none,.none]
noncomputable def ct1:IS:=match ir_42.body with
 | .cons _ (.cons _ (.cons s _))=>s
 | _=>.ex .cn
noncomputable def ctB:ISs:=match ir_42.body with
 | .cons _ (.cons _ (.cons _ (.cons _ (.cons (.while _ b) _))))=>b
 | _=>.nil
noncomputable def ct2:ISs:=match ctB with
 | .cons _ (.cons (.for _ _ b) _)=>b
 | _=>.nil
theorem Half.done {s:St} {rows t g:List (Int×Why)} {i:Nat} {here:Int} {why:Why} (hv:rows[i]?=some (here,why)) (hf:Half s (rows++t) i) (hdn:∀ b∈g.map (·.1),b∈(rows++t).map (·.1))
  (gs:∀ (j:Nat) b,(s.row here)[j]?=some (some (b,true))->b∈g.map (·.1))
  (gp:∀ k∈s.ls,((s.link k).1=here\/(s.link k).2.1=here)->(s.link k).1∈rows.map (·.1)->(s.link k).2.1∈rows.map (·.1)->(s.link k).2.2∈g.map (·.1)):Half s (rows++t) (i+1):=by
 have hi:=(List.getElem?_eq_some_iff.mp hv).1
 have hv':(rows++t)[i]?=some (here,why):=(List.getElem?_append_left hi).trans hv
 have up:∀ y,y∈((rows++t).take (i+1)).map (·.1)->y∈rows.map (·.1):=λ y hy=>by
  rw [List.take_append_of_le_length (by lia)] at hy
  with_reducible refine ex1 (List.mem_map.mp hy) λ r hx_=>an2 hx_ λ hr1 hr2=>?_;clear hx_
  exact List.mem_map.mpr ⟨r,List.mem_of_mem_take hr1,hr2⟩
 case k74=>skip
 refine ⟨hf.der,hf.hs,λ b hb o ho=>?_,λ pp hp c1 c2=>?_⟩
 ·rcases (zj hv').mp hb with z | z
  ·exact hf.row b z o ho
  ·subst z
   obtain ⟨j,hj⟩:=List.getElem?_of_mem ho
   exact hdn o (gs j o hj)
 ·rcases (zj hv').mp c1 with z1 | z1
  ·rcases (zj hv').mp c2 with z2 | z2
   ·exact hf.ls pp hp z1 z2
   ·exact hdn _ (gp pp hp (.inr z2) (up _ c1) (up _ c2))
  ·exact hdn _ (gp pp hp (.inl z1) (up _ c1) (up _ c2))
section
variable {P:Nat->Option IFn} {n:Nat} {R:RM} {H H1:AH} {A:Ad} {s:St} {L M:Nat} {rows:List (Int×Why)} {i:Nat} {a1 a4 a5 a6:Option AV} {r:ISs}
theorem jU {C:Calls} {Q:Fl->Loc->AH->Prop} {X:Nat->Loc->AH->Prop} (hM:H M=.none) (nLM:L≠M) (ok:s.Ok) (dr:Der s rows) (hr:∀ b∈s.hs,b∈rows.map (·.1)) (e:Ext0 H H1) (kL:H1 L=some (.list (rows.map zg))) {ep:Nat} (kM:H1 M=some (.dict [] ep))
  (q:∀ a1 a4 H',CtS s H H' L M rows 0->WSs C r (mC A.c L M a1 a4 a5 a6) H' Q X):WSs C (.cons ct1 r) (mC A.c L M a1 a4 a5 a6) H1 Q X:=by
 have r60:=dr.length ok
 show WSs _ (.cons (.for _ _ _) _) _ _ _ _
 case k50=>exact zC kL ..
 let I70_:Nat->Loc->AH->Prop:=(λ i m' H'=>∃ (ms:List Int) (ep:Nat) (a1 a4:Option AV),m'=mC A.c L M a1 a4 a5 a6/\Ext0 H H'/\H' L=some (.list (rows.map zg))/\H' M=some (.dict (dOf ms λ z_=>.bool true) ep)/\ms.length<=i/\(∀ b,b∈ms↔b∈(rows.take i).map (·.1)))
 refine zH I70_ (λ i v m' H' J0 hJ0 K0 hK0 hv hI=>?_) (λ m' H' hI=>?_) ⟨[],ep,_,_,rfl,e,kL,kM,Nat.le_refl _,λ b=>by simp⟩
 ·with_reducible refine ex4 (hI) λ ms ep a1 a4 hx_=>an6 hx_ λ hr4_ eH kL kM ml mm=>?_;clear hx_;(try clear hI);subst hr4_
  have hv:(rows.map zg)[i]?=some v:=hv
  rw [List.getElem?_map] at hv
  with_reducible refine ex1 (Option.map_eq_some_iff.mp hv) λ r hx_=>an2 hx_ λ hr' hr2_=>?_;clear hx_;subst hr2_
  have hi:=(List.getElem?_eq_some_iff.mp hr').1
  case k74=>skip
  refine ⟨kL,_,rfl,?_⟩
  case k50=>exact kM ..
  case k74=>skip
  refine ⟨by rw [zK];unfold lid;lia,λ ep'=>?_⟩
  case k74=>skip
  refine em4 (addK ms r.1) ep' _ _ ⟨rfl,eH.setNone hM,by rw [AH.set_ne _ _ nLM];exact kL,?_,?_,λ b=>?_⟩
  ·rw [AH.set_self,yV]
  ·unfold addK;split
   ·lia
   ·simp;lia
  ·rw [zj hr',mem_addK,mm];exact ⟨Or.symm,Or.symm⟩
 with_reducible refine ex4 (hI) λ ms ep a1 a4 hx_=>an6 hx_ λ hr4_ eH kL kM ml mm=>?_;clear hx_;(try clear hI);subst hr4_
 have mm:∀ b,b∈ms↔b∈(rows.take (rows.map zg).length).map (·.1):=mm
 have ml:ms.length<=(rows.map zg).length:=ml
 rw [List.length_map] at mm ml
 rw [List.take_length] at mm
 case k74=>skip
 exact ⟨kL,q _ _ _ ⟨eH,kL,⟨ms,ep,kM,ml,mm⟩,⟨dr,hr,(by intro b hb;simp at hb),(by intro p _ hb;simp at hb)⟩⟩⟩
set_option tactic.hygienic true in
theorem ct_in {X:Nat->Loc->AH->Prop} {Q:Fl->Loc->AH->Prop} (hL:H L=.none) (hM:H M=.none) (nLM:L≠M) (ok:s.Ok) (z:CtS s H H1 L M rows i) (hi:i<=rows.length) {g:List (Int×Why)} {G:Nat} (kG:H1 G=some (.list (g.map zg))) (nGL:G≠L) (nGM:G≠M)
  (gj:∀ r∈g,Just s (rows.map (·.1)) r.1 r.2)
  (q:∀ t a1 a4 H',CtS s H H' L M (rows++t) i->(∀ b∈g.map (·.1),b∈(rows++t).map (·.1))->Q .next (mC A.c L M a1 a4 a5 a6) H') :
  forL (Src.ok ⟨g.map zg,some (G,.list (g.map zg))⟩) (zz (.many [1,4])) (gq (CN P n) ct2 X) (g.map zg) (mC A.c L M a1 a4 a5 a6) H1 Q:=by
 let I95_:Nat->Loc->AH->Prop:=(λ j m' H'=>∃ (t:List (Int×Why)) (a1 a4:Option AV),m'=mC A.c L M a1 a4 a5 a6/\CtS s H H' L M (rows++t) i/\H' G=some (.list (g.map zg))/\∀ b∈(g.take j).map (·.1),b∈(rows++t).map (·.1))
 refine zH I95_ (λ j v m' H' J0 hJ0 K0 hK0 hv hI=>?_) (λ m' H' hI=>?_) ⟨[],_,_,rfl,by rw [List.append_nil];exact z,kG,λ b hb=>by simp at hb⟩
 ·clear z kG
  with_reducible refine ex3 (hI) λ t a1 a4 hx_=>an4 hx_ λ hr3_ z kG hdn=>?_;clear hx_;(try clear hI);subst hr3_
  rw [List.getElem?_map] at hv
  with_reducible refine ex1 (Option.map_eq_some_iff.mp hv) λ r hx_=>an2 hx_ λ hr' hr2_=>?_;clear hx_;subst hr2_
  have r60:=z.h.der.length ok
  with_reducible refine ex2 (z.m) λ ms ep hx_=>an3 hx_ λ kM ml mm=>?_;clear hx_
  case k74=>skip
  refine ⟨kG,_,rfl,?_⟩
  show WSs _ (.cons (.ite _ _ _) _) _ _ _ _
  case k50=>exact xU _ kM ..
  refine zf (λ _=>?_) (λ _=>?_)
  ·rename_i hin
   have hin:r.1∉ms:=λ z=>by simp [z] at hin
   case k50=>exact kM ..
   case k74=>skip
   refine ⟨by rw [zK];unfold lid;lia,λ ep'=>?_⟩
   have kL':(H'.set M (.dict (dset (dOf ms λ _=>.bool true) r.1 (.bool true)) ep')) L=some (.list ((rows++t).map zg)):=by rw [AH.set_ne _ _ nLM];exact z.l
   have lt:((rows++t).map zg).length < lid:=by rw [List.length_map];unfold lid;lia
   case k50=>(first | exact kL' .. | exact lt ..)
   have hnr:r.1∉(rows++t).map (·.1):=λ y=>hin ((mm _).mpr y)
   have hgr:=(gj r (List.mem_of_getElem? hr')).mono (k':=(rows++t).map (·.1)) λ x hx=>by rw [List.map_append];exact List.mem_append_left _ hx
   have hm:∀ b,b∈((rows++t)++[(r.1,r.2)]).map (·.1)↔b=r.1\/b∈(rows++t).map (·.1):=λ b=>by rw [List.map_append,List.mem_append];simp [or_comm]
   case k74=>skip
   refine em3 (t++[(r.1,r.2)]) _ _ ⟨rfl,?_,?_,λ b hb=>?_⟩
   ·rw [<-List.append_assoc]
    case k74=>skip
    refine ⟨(z.e.setNone hM).setNone hL,?_,⟨addK ms r.1,ep',?_,?_,λ b=>?_⟩,z.h.add (by rw [List.length_append];lia) hnr hgr⟩
    ·rw [AH.set_self,List.map_append (l₁:=rows++t)];rfl
    ·rw [AH.set_ne _ _ nLM.symm,AH.set_self,yV]
    ·unfold addK;rw [if_neg hin,List.length_append,List.length_append (as:=rows++t)];exact Nat.succ_le_succ ml
    ·rw [mem_addK,hm,mm]
   ·rw [AH.set_ne _ _ nGL,AH.set_ne _ _ nGM];exact kG
   ·rw [<-List.append_assoc,hm]
    rcases (zj hr').mp hb with y | y
    ·exact .inr (hdn b y)
    ·exact .inl y
  ·rename_i hin
   have hin:r.1∈ms:=by simpa using hin
   case k50=>fail
   case k74=>skip
   refine em3 t _ _ ⟨rfl,z,kG,λ b hb=>?_⟩
   rcases (zj hr').mp hb with y | y
   ·exact hdn b y
   ·rw [y];exact (mm _).mp hin
 with_reducible refine ex3 (hI) λ t a1 a4 hx_=>an4 hx_ λ hr3_ z kG hdn=>?_;clear hx_;(try clear hI);subst hr3_
 have hdn:∀ b∈(g.take (g.map zg).length).map (·.1),b∈(rows++t).map (·.1):=hdn
 rw [List.length_map,List.take_length] at hdn
 case k74=>skip
 exact ⟨kG,q t a1 a4 H' z hdn⟩
theorem gr {J:Loc->AH->Prop} {K:AV->Loc->AH->Prop} {X:Nat->Loc->AH->Prop} (h41:P 41=some tj) (h40:P 40=some ti) (p:yB P) (x:Chest R H A s) (ok:s.Ok) (hL:H L=.none) (hM:H M=.none) (nLM:L≠M) (z:CtS s H H1 L M rows i) (hlt:i < rows.length)
  (q:∀ t a1 a4 a6 H',CtS s H H' L M (rows++t) (i+1)->J (mC A.c L M a1 a4 (some (.int ((i+1:Nat):Int))) a6) H') :
  WSs (CN P (n+4)) ctB (mC A.c L M a1 a4 (some (.int (i:Int))) a6) H1 (lq J K) X:=by
 have hv:rows[i]?=some rows[i]:=List.getElem?_eq_getElem hlt
 generalize rows[i]=r at hv
 obtain ⟨here,why⟩:=r
 have hv':(rows.map zg)[((i:Nat):Int).toNat]?=some (zg (here,why)):=by rw [Int.toNat_natCast,List.getElem?_map,hv];rfl
 have hkn:here∈rows.map (·.1):=List.mem_map.mpr ⟨_,List.mem_of_getElem? hv,rfl⟩
 have hks:=z.h.der.box ok here hkn
 have kL:=z.l
 with_reducible refine ex2 (z.m) λ ms ep hx_=>an3 hx_ λ kM ml mm=>?_;clear hx_
 show WSs _ (.cons (.asg _ _) (.cons (.for _ _ ct2) _)) _ _ _ _
 case k50=>(first | exact kL .. | exact hv' ..)
 have x1:=x.ext z.e
 refine rX (n:=n) h41 p x1 ok hks λ G1 H5 g1 n1 kG1 gl1 gs1 gc1 e5=>?_
 have x2:=x1.ext e5
 case k50=>fail
 refine rY (n:=n+2) h40 p x2 ok (e5 _ _ kM) λ G2 H6 g2 n2 kG2 gl2 gs2 gc2 e6=>?_
 have kG1:=e6 _ _ kG1
 case k50=>(first | exact kG1 .. | exact kG2 ..)
 intro G hG
 rw [<-List.map_append]
 have gj:∀ r∈g1++g2,Just s (rows.map (·.1)) r.1 r.2:=λ r hr=>by
  rcases List.mem_append.mp hr with y | y
  ·with_reducible refine ex1 (gs1 r.1 r.2 y) λ j hx_=>an3 hx_ λ hj1 hj2 hj3=>?_;clear hx_
   rw [hj1];exact ⟨hkn,hj2,hj3⟩
  ·with_reducible refine ex1 (gs2 r.1 r.2 y) λ j hx_=>an5 hx_ λ hj1 hj2 hj3 hj4 hj5=>?_;clear hx_
   rw [hj2];exact ⟨hj1,(mm _).mp hj3,(mm _).mp hj4,hj5⟩
 have gs:∀ (j:Nat) b,(s.row here)[j]?=some (some (b,true))->b∈(g1++g2).map (·.1):=λ j b hb=>by
  obtain ⟨w,hw⟩:=gc1 j b hb
  exact List.mem_map.mpr ⟨_,List.mem_append_left _ hw,rfl⟩
 have gp:∀ k∈s.ls,((s.link k).1=here\/(s.link k).2.1=here)->(s.link k).1∈rows.map (·.1)->(s.link k).2.1∈rows.map (·.1)->(s.link k).2.2∈(g1++g2).map (·.1):=λ k hk c1 c2 c3=>by
  obtain ⟨w,hw⟩:=gc2 k hk c1 ((mm _).mpr c2) ((mm _).mpr c3)
  exact List.mem_map.mpr ⟨_,List.mem_append_right _ hw,rfl⟩
 have e7:Ext0 H6 (H6.set G (.list ((g1++g2).map zg))):=Ext0.set hG
 have kG:(H6.set G (.list ((g1++g2).map zg))) G=some (.list ((g1++g2).map zg)):=AH.set_self ..
 generalize g1++g2=g at gj gs gp e7 kG |-
 have e6:=e5.trans e6
 have nGL:G≠L:=λ y=>by rw [y,e6 _ _ kL] at hG;cases hG
 have nGM:G≠M:=λ y=>by rw [y,e6 _ _ kM] at hG;cases hG
 have z:=z.ext (e6.trans e7)
 generalize H6.set G (.list (g.map zg))=H7 at kG z |-
 clear gs1 gs2 gc1 gc2 kG1 kG2 x2 x1 e7 e5 e6 hG kL kM
 case k50=>exact zC kG ..
 refine ct_in (a5:=some (.int (i:Int))) (a6:=some (.int here)) (A:=A) hL hM nLM ok z (Nat.le_of_lt hlt) kG nGL nGM gj λ t a1 a4 H8 z8 hdn=>?_
 case k50=>fail
 case k74=>skip
 exact q t _ _ _ H8 ⟨z8.e,z8.l,z8.m,z8.h.done hv hdn gs gp⟩
end
section
variable {P:Nat->Option IFn} {n:Nat} {R:RM} {H:AH} {A:Ad} {s:St} {Q:AV->AH->Prop} {X:Nat->AH->Prop}
theorem vE (h42:P 42=some ir_42) (h41:P 41=some tj) (h40:P 40=some ti) (p:yB P) (x:Chest R H A s) (ok:s.Ok)
  (q:∀ (L:Nat) (H':AH) (rows:List (Int×Why)),H L=.none->H' L=some (.list (rows.map zg))->Der s rows->Closed s (rows.map (·.1))->Ext0 H H'->Q (.ref L) H') :
  CN P (n+5) 42 [.ref A.c] H Q X:=by
 have hl:=ok.lens.1
 refine zR h42 rfl ?_
 intro C_ Q_ X_ m_
 show WSs _ (.cons _ (.cons _ (.cons ct1 (.cons _ (.cons (.while _ ctB) _))))) _ _ _ _
 case k50=>(first | exact x.c .. | exact x.dx ..)
 refine vb (n:=n+3) p.h32 x (by lia) λ L1 H1 hL1 k1 e1=>?_
 case k50=>exact zC k1 ..
 refine yA (m0:=[some (.ref A.c),.none,.none,.none,.none,.none,.none,.none,.none,.none,.none,.none,.none,.none,.none]) (H:=H1) (p:=λ z_=>true) (f:=vZ λ k=>zg (k,.hand)) (λ H' e=>e _ _ k1) _ _ _ _ _ (.refl _) (λ v=>rfl) (λ v z_ H' e Q hq=>hq H' (.refl _)) (λ v hv z_ H' e Q hq=>?_) λ H2 e2=>?_
 ·with_reducible refine ex1 (List.mem_map.mp hv) λ k hx_=>an2 hx_ λ hk hr2_=>?_;clear hx_;subst hr2_
  case k50=>fail
  exact hq H' (.refl _)
 intro L hL
 have er:[]++List.map (vZ λ k=>zg (k,.hand)) (List.filter (λ z_=>true) (Src.items ⟨(zA s.hs).map AV.int,some (L1,.list ((zA s.hs).map AV.int))⟩))=((zA s.hs).map λ b=>(b,Why.hand)).map zg:=by
  rw [ze,List.nil_append]
  show List.map _ ((zA s.hs).map AV.int)=_
  rw [List.map_map,List.map_map];rfl
 rw [er]
 have dr:Der s ((zA s.hs).map λ b=>(b,Why.hand)):=md (zA s.hs) [] .nil (λ b hb=>mem_sortI.mp hb) (zF ok.hu) (λ b z_ z=>by cases z)
 have hr:∀ b∈s.hs,b∈((zA s.hs).map λ b=>(b,Why.hand)).map (·.1):=λ b hb=>by
  rw [List.map_map];exact List.mem_map.mpr ⟨b,mem_sortI.mpr hb,rfl⟩
 generalize (zA s.hs).map (λ b=>(b,Why.hand))=rows0 at dr hr |-
 have e12:=e1.trans e2
 have e3:Ext0 H2 _:=Ext0.set (o:=.list (rows0.map zg)) hL
 have k3:(H2.set L (.list (rows0.map zg))) L=some (.list (rows0.map zg)):=AH.set_self ..
 have hL:=e12.back hL
 have e3:=e12.trans e3
 generalize H2.set L (.list (rows0.map zg))=H3 at e3 k3 |-
 clear er e12 e1 e2 k1
 case k50=>fail
 intro M ep hM
 have e4:Ext0 H3 _:=Ext0.set (o:=.dict [] ep) hM
 have k4:(H3.set M (.dict [] ep)) M=some (.dict [] ep):=AH.set_self ..
 have nLM:L≠M:=λ z=>by rw [<-z,k3] at hM;cases hM
 have hM:=e3.back hM
 have k3:=e4 _ _ k3
 have e4:=e3.trans e4
 generalize H3.set M (.dict [] ep)=H4 at e4 k4 k3 |-
 clear e3
 refine jU (A:=A) (a1:=.none) (a4:=.none) (a5:=.none) (a6:=.none) hM nLM ok dr hr e4 k3 k4 λ a1 a4 H5 z=>?_
 case k50=>fail
 let I231_:Nat->Loc->AH->Prop:=(λ k m' H'=>∃ (i:Nat) (rows:List (Int×Why)) (a1 a4 a6:Option AV),k+i=61/\i<=rows.length/\m'=mC A.c L M a1 a4 (some (.int (i:Int))) a6/\CtS s H H' L M rows i)
 refine xu I231_ (λ k m' H' J0 hJ0 K0 hK0 hI=>?_) (k:=61) ⟨0,rows0,_,_,_,rfl,Nat.zero_le _,rfl,z⟩
 with_reducible refine ex5 (hI) λ i rows a1 a4 a6 hx_=>an4 hx_ λ hk hi hr7_ z=>?_;clear hx_;(try clear hI);subst hr7_
 have r60:=z.h.der.length ok
 have kL:=z.l
 case k50=>exact kL ..
 refine wh_by (λ hlt=>?_) (λ hge=>?_)
 ·have hlt:=of_decide_eq_true hlt
  rw [List.length_map] at hlt
  refine gr (n:=n) h41 h40 p x ok hL hM nLM z (by lia) λ t a1 a4 a6 H6 z6=>hJ0 _ _ ⟨k - 1,by lia,i+1,rows++t,_,_,_,by lia,by rw [List.length_append];lia,rfl,z6⟩
 ·have hge:=of_decide_eq_false hge
  rw [List.length_map] at hge
  have hge:i=rows.length:=by lia
  have hf:=z.h
  rw [hge] at hf
  case k50=>fail
  case k74=>skip
  refine q L H' rows hL kL hf.der ⟨hf.hs,λ pp hp c1 c2=>?_,λ b hb o ho=>?_⟩ z.e
  ·exact hf.ls pp hp (by rw [List.take_length];exact c1) (by rw [List.take_length];exact c2)
  ·exact hf.row b (by rw [List.take_length];exact hb) o ho
end
section
variable {P:Nat->Option IFn} {n:Nat} {H:AH} {Q:AV->AH->Prop} {X:Nat->AH->Prop}
end
section
variable {C:Calls} {X:Nat->AH->Prop} {x:Nat} {m0 m:Loc} {ok:AH->Prop} {elt:Loc->AH->(AV->AH->Prop)->Prop} {H:AH} {items:List AV} {K:AV->AH->Prop}
noncomputable def ofI (f:Int->Bool):AV->Bool
 | .int k=>f k
 | _=>false
theorem rZ (l:List Int) (f:Int->Bool):(l.map AV.int).filter (ofI f)=(l.filter f).map .int:=by
 rw [List.filter_map];rfl
theorem xB (p:Int->Bool) {l:List Int} {test:Loc->AH->(Bool->AH->Prop)->Prop} (hok:∀ H',Ext0 H H'->ok H') (hm:∀ v,m.set x v=m0.set x v)
  (ht:∀ k∈l,∀ H',Ext0 H H'->∀ Q,(∀ H'',Ext0 H' H''->Q (p k) H'')->test (m0.set x (some (.int k))) H' Q)
  (he:∀ k H' Q,Q (.int k) H'->elt (m0.set x (some (.int k))) H' Q)
  (q:∀ L H',Ext0 H H'->H L=.none->H' L=some (.list ((l.filter p).map .int))->K (.ref L) H'):wQ ok (zz (.one x)) test elt (l.map .int) m H [] λ r H=>newL r H K:=by
 refine yA (m0:=m0) (p:=ofI p) (f:=λ v=>v) hok _ _ _ _ _ (.refl _) hm (λ v hv H' e Q hq=>?_) (λ v hv z_ H' e Q hq=>?_) λ G f=>?_
 ·with_reducible refine ex1 (List.mem_map.mp hv) λ k hx_=>an2 hx_ λ hk hr2_=>?_;clear hx_;subst hr2_
  exact ht k hk H' e Q hq
 ·with_reducible refine ex1 (List.mem_map.mp hv) λ k hx_=>an2 hx_ λ hk hr2_=>?_;clear hx_;subst hr2_
  exact he k H' Q (hq H' (.refl _))
 intro L nL
 rw [List.nil_append,List.map_id',rZ]
 case k74=>skip
 exact q L _ (f.trans (Ext0.set nL)) (f.back nL) (AH.set_self ..)
end

noncomputable def Flat (k:Nat) (v:AV):Prop:=∃ x,v.data=some x/\x.depth<=k/\PyData.eqv x x=true
noncomputable def FlatL (k:Nat) (l:List AV):Prop:=∃ ds,AV.data.go l=some ds/\PyData.depthAll ds<=k/\PyData.eqvAll ds ds=true
theorem FlatL.nil (k:Nat):FlatL k []:=⟨[],rfl,Nat.zero_le _,rfl⟩
theorem FlatL.cons {k:Nat} {v:AV} {l:List AV} (h:Flat k v) (t:FlatL k l):FlatL k (v::l):=by
 obtain ⟨x,h1,h2,h3⟩:=h
 obtain ⟨ds,t1,t2,t3⟩:=t
 case k74=>skip
 refine ⟨x::ds,by simp [AV.data.go,h1,t1],?_,(Bool.and_eq_true_iff.mpr ⟨h3,t3⟩:(PyData.eqv x x&&PyData.eqvAll ds ds)=true)⟩
 exact Nat.max_le.mpr ⟨h2,t2⟩
theorem FlatL.of {k:Nat}:∀ {l:List AV},(∀ v∈l,Flat k v)->FlatL k l
 | [],_=>.nil k
 | v::r,h=>.cons (h v (.head _)) (FlatL.of λ u hu=>h u (.tail _ hu))
theorem Flat.tup {k:Nat} {l:List AV} (t:FlatL k l):Flat (k+1) (.tup l):=by
 obtain ⟨ds,t1,t2,t3⟩:=t
 case k74=>skip
 refine ⟨.tuple ds,by simp [AV.data,t1],?_,t3⟩
 exact Nat.succ_le_succ t2
theorem Flat.int (k:Nat) (i:Int):Flat k (.int i):=⟨.int i,rfl,Nat.zero_le _,(beq_self_eq_true i:(i == i)=true)⟩
theorem Flat.bool (k:Nat) (i:Bool):Flat k (.bool i):=⟨.bool i,rfl,Nat.zero_le _,(beq_self_eq_true i:(i == i)=true)⟩
theorem Flat.str (k:Nat) (i:Str):Flat k (.str i):=⟨.str i,rfl,Nat.zero_le _,(beq_self_eq_true i:(i == i)=true)⟩
theorem xC (l:List Int):FlatL 2 (l.map .int):=.of λ v hv=>by
 with_reducible refine ex1 (List.mem_map.mp hv) λ k hx_=>an2 hx_ λ z_ hr2_=>?_;clear hx_;subst hr2_
 exact .int _ _

theorem AreCmds.stp {p:Nat->Prop} {R R':RM} {H H':AH} {cs:List Cmd} {vs:List AV} (x:AreCmds H R cs vs) (g:Stp p R H R' H'):AreCmds H' R' cs vs:=
 x.keep λ D o h r=>⟨g.keep D o h (λ t k hr=>by rw [r] at hr;cases hr),(g.role D (by rw [h];simp)).trans r⟩
theorem IsCmd.ext {R:RM} {H H':AH} {c:Cmd} {v:AV} (x:IsCmd H R c v) (e:Ext0 H H'):IsCmd H' R c v:=x.keep λ D o h r=>⟨e D o h,r⟩
theorem IsCmd.stp {p:Nat->Prop} {R R':RM} {H H':AH} {c:Cmd} {v:AV} (x:IsCmd H R c v) (g:Stp p R H R' H'):IsCmd H' R' c v:=
 x.keep λ D o h r=>⟨g.keep D o h (λ t k hr=>by rw [r] at hr;cases hr),(g.role D (by rw [h];simp)).trans r⟩
theorem Dom.ext {R:RM} {H H':AH} (d:Dom R H) (e:Ext0 H H'):Dom R H':=(Stp.ext (p:=isCh) d e).dom


section
variable {R:RM} {H:AH} {A:Ad} {B:Wd} {s t:St} {K Lc:Nat} {cs:List Cmd} {vs:List AV} {is:List Int} {i:Nat}
theorem AreCmds.get (x:AreCmds H R cs vs):∀ {i:Nat} {v:AV},vs[i]?=some v->∃ c,cs[i]?=some c/\IsCmd H R c v:=by
 induction x with
 | nil=>intro i v h;simp at h
 | @cons c w cs vs a _ ih=>
  intro i v h
  cases i with
  | zero=>simp at h;subst h;exact ⟨c,rfl,a⟩
  | succ i=>simpa using ih (by simpa using h)
theorem IsCmd.tup {c:Cmd} {v:AV} (x:IsCmd H R c v):∃ l,v=.tup l:=by cases x<;>exact ⟨_,rfl⟩
variable {P:Nat->Option IFn} {n:Nat} {Q:AV->AH->Prop} {X:Nat->AH->Prop}

end

section
variable {P:Nat->Option IFn} {n:Nat}
end

inductive Reach (s:St):Int->Prop
 | hand {b:Int}:b∈s.hs->Reach s b
 | slot {h b:Int}:Reach s h->some (b,true)∈s.row h->Reach s b
 | pair {p:Int}:p∈s.ls->Reach s (s.link p).1->Reach s (s.link p).2.1->Reach s (s.link p).2.2
theorem Der.reach {s:St} {rows:List (Int×Why)} (d:Der s rows):∀ b∈rows.map (·.1),Reach s b:=by
 induction d with
 | nil=>intro b h;cases h
 | @snoc rows b w d hn hj ih=>
  intro x hx
  rw [List.map_append] at hx
  rcases List.mem_append.mp hx with z | z
  ·exact ih x z
  ·rw [List.mem_singleton.mp z]
   cases w with
   | hand=>exact .hand hj
   | slot h j=>exact .slot (ih h hj.1) (List.mem_of_getElem? hj.2.2)
   | pair p=>obtain ⟨h1,h2,h3,h4⟩:=hj;rw [<-h4];exact .pair h1 (ih _ h2) (ih _ h3)
theorem Closed.reach {s:St} {l:List Int} (c:Closed s l) {b:Int} (r:Reach s b):b∈l:=by
 induction r with
 | hand h=>exact c.hs _ h
 | slot _ h ih=>exact c.row _ ih _ h
 | pair h _ _ h1 h2=>exact c.ls _ h h1 h2
open Classical in
noncomputable def zV (s:St):List Int:=(zA s.ks).filter λ b=>!decide (Reach s b)
theorem r8 {s:St} {ms:List Int} (h:∀ b,b∈ms↔Reach s b):(zA s.ks).filter (λ b=>!decide (b∈ms))=zV s:=by
 unfold zV
 exact List.filter_congr λ b z_=>by simp [h b]

section
variable {P:Nat->Option IFn} {n:Nat} {R:RM} {H:AH} {A:Ad} {B:Wd} {s:St} {Q:AV->AH->Prop} {X:Nat->AH->Prop}

theorem uM (h56:P 56=some oX) (h42:P 42=some ir_42) (h41:P 41=some tj) (h40:P 40=some ti) (p:yB P) (x:Chest R H A s) (ok:s.Ok)
  (q:∀ (L:Nat) (H':AH),H L=.none->H' L=some (.list ((zV s).map .int))->Ext0 H H'->Q (.ref L) H'):CN P (n+6) 56 [.ref A.c] H Q X:=by
 have kl:=ok.kl
 refine zR h56 rfl ?_
 intro C_ Q_ X_ m_
 case k50=>fail
 intro M ep hM
 have e1:Ext0 H _:=Ext0.set (o:=.dict [] ep) hM
 have k1:(H.set M (.dict [] ep)) M=some (.dict [] ep):=AH.set_self ..
 generalize H.set M (.dict [] ep)=H1 at e1 k1 |-
 case k50=>fail
 refine vE (n:=n) h42 h41 h40 p (x.ext e1) ok λ L H2 rows nL kL hd hcl e2=>?_
 have k1:=e2 _ _ k1
 have e2:=e1.trans e2
 have nLM:L≠M:=λ z=>by rw [z] at kL;rw [kL] at k1;cases k1
 have r60:=hd.length ok
 case k50=>exact zC kL ..
 let I76_:Nat->Loc->AH->Prop:=(λ i m' H'=>∃ (ms:List Int) (ep:Nat) (a2 a3:Option AV),m'=[some (.ref A.c),some (.ref M),a2,a3,.none,.none,.none,.none,.none,.none,.none,.none]/\Ext0 H H'/\H' L=some (.list (rows.map zg))/\H' M=some (.dict (dOf ms λ z_=>.bool true) ep)/\ms.length<=i/\(∀ b,b∈ms↔b∈(rows.take i).map (·.1)))
 refine zH I76_ (λ i v m' H' J0 hJ0 K0 hK0 hv hI=>?_) (λ m' H' hI=>?_) ⟨[],ep,_,_,rfl,e2,kL,k1,Nat.le_refl _,λ b=>by simp⟩
 ·with_reducible refine ex4 (hI) λ ms ep a1 a4 hx_=>an6 hx_ λ hr4_ eH kL kM ml mm=>?_;clear hx_;(try clear hI);subst hr4_
  have hv:(rows.map zg)[i]?=some v:=hv
  rw [List.getElem?_map] at hv
  with_reducible refine ex1 (Option.map_eq_some_iff.mp hv) λ r hx_=>an2 hx_ λ hr' hr2_=>?_;clear hx_;subst hr2_
  have hi:=(List.getElem?_eq_some_iff.mp hr').1
  case k74=>skip
  refine ⟨kL,_,rfl,?_⟩
  case k50=>exact kM ..
  case k74=>skip
  refine ⟨by rw [zK];unfold lid;lia,λ ep'=>?_⟩
  case k74=>skip
  refine em4 (addK ms r.1) ep' _ _ ⟨rfl,eH.setNone hM,by rw [AH.set_ne _ _ nLM];exact kL,?_,?_,λ b=>?_⟩
  ·rw [AH.set_self,yV]
  ·unfold addK;split
   ·lia
   ·simp;lia
  ·rw [zj hr',mem_addK,mm];exact ⟨Or.symm,Or.symm⟩
 ·with_reducible refine ex4 (hI) λ ms ep a1 a4 hx_=>an6 hx_ λ hr4_ eH kL kM ml mm=>?_;clear hx_;(try clear hI);subst hr4_
  case k74=>skip
  refine ⟨kL,?_⟩
  have mm:∀ b,b∈ms↔b∈(rows.take (rows.map zg).length).map (·.1):=mm
  rw [List.length_map,List.take_length] at mm
  have hm:∀ b,b∈ms↔Reach s b:=λ b=>(mm b).trans ⟨hd.reach b,hcl.reach⟩
  have xH:=x.ext eH
  case k50=>(first | exact xH.c .. | exact xH.dx ..)
  refine y5 (n:=n+4) p.h24 xH (by lia) λ Lb H3 nLb kb e3=>?_
  have kM:=e3 _ _ kM
  case k50=>exact zC kb ..
  refine xB (m0:=[some (.ref A.c),some (.ref M),a1,a4,.none,.none,.none,.none,.none,.none,.none,.none]) (λ b=>!decide (b∈ms)) (λ H' e=>e _ _ kb) (λ v=>rfl) (λ k z_ H' e Q hq=>?_) (λ k H' Q hq=>?_) λ L5 H4 e4 n5 k5=>?_
  ·case k50=>exact xU _ (e _ _ kM) ..
   exact hq H' (.refl _)
  ·case k50=>fail
   exact hq
  ·have e5:=eH.trans e3
   rw [r8 hm] at k5
   case k74=>skip
   exact q L5 _ (e5.back n5) k5 (e5.trans e4)
end

theorem Reach.box {s:St} (ok:s.Ok) {b:Int} (r:Reach s b):b∈s.ks:=by
 induction r with
 | hand h=>exact ok.hk _ h
 | slot _ h ih=>exact ok.ro _ ih _ _ h
 | pair h _ _ _ _=>exact (ok.lo _ h).2.2

noncomputable def gu:AV->AV
 | .tup (a::_)=>a
 | _=>.none
theorem zO {l:List Int} {i:Nat} {r:Int} (h:l[i]?=some r) {x:Int}:x∈l.take (i+1)↔x∈l.take i\/x=r:=by
 rw [List.take_add_one,h,List.mem_append];simp

section
variable {P:Nat->Option IFn} {n:Nat} {R:RM} {H:AH} {B:Wd} {s:St} {Q:AV->AH->Prop} {X:Nat->AH->Prop}

end

theorem FlatL.mono {k k':Nat} {l:List AV} (h:FlatL k l) (hk:k<=k'):FlatL k' l:=by
 obtain ⟨ds,h1,h2,h3⟩:=h
 case k74=>skip
 exact ⟨ds,h1,Nat.le_trans h2 hk,h3⟩
theorem gw (l:List Int):AV.data.go (l.map .int)=some (l.map .int):=by
 induction l with
 | nil=>
  exact rfl
 | cons a r ih_=>
  simp [AV.data.go,AV.data,ih_]
theorem xx (x:Int) {H:AH} {a:Nat} {l:List Int} (h:H a=some (.list (l.map .int))):wIn (.int x) (.ref a) H=some (decide (x∈l)):=by
 simp only [wIn,h,gw,Option.map_some]
 congr 1
 induction l with
 | nil=>simp
 | cons b r ih=>
  rw [List.map_cons,List.any_cons,uI]
  have:((r.map PyData.int).any λ y=>PyData.eqv y (.int x))=decide (x∈r):=by
   clear ih h
   induction r with
   | nil=>simp
   | cons c r ih2=>
    rw [List.map_cons,List.any_cons,uI,ih2]
    by_cases z:c=x
    ·subst z;simp
    ·have:¬ x=c:=λ q=>z q.symm
     simp [z,this]
  rw [this]
  by_cases z:b=x
  ·subst z;simp
  ·have:¬ x=b:=λ q=>z q.symm
   simp [z,this]
theorem xi {x:Int} {H:AH} {a:Nat} {l:List Int} (h:H a=some (.list (l.map .int))) (hx:x∈l):wIn (.int x) (.ref a) H=some true:=by rw [xx x h,decide_eq_true hx]
theorem wf {x:Int} {H:AH} {a:Nat} {l:List Int} (h:H a=some (.list (l.map .int))) (hx:x∉l):wIn (.int x) (.ref a) H=some false:=by rw [xx x h,decide_eq_false hx]
theorem vd {H:AH} {a e:Nat} {l:List AV} (ha:H a=some (.list l)) (he:H e=some (.list [])) (hf:FlatL 50 l) {Q:AV->AH->Prop} (q:Q (.bool (!l.isEmpty)) H):wCmp .ne (.ref a) (.ref e) H Q:=by
 obtain ⟨ds,t1,t2,t3⟩:=hf
 have e1:zq H (.ref a)=some (.list ds):=by simp [zq,data1,ha,t1]
 have e2:zq H (.ref e)=some (.list []):=by simp [zq,data1,he,AV.data.go]
 unfold wCmp
 simp only [e1,e2]
 case k74=>skip
 refine ⟨by simp [PyData.depth];lia,?_⟩
 have:PyData.eqv (.list ds) (.list [])=l.isEmpty:=by
  cases l with
  | nil=>cases t1;rfl
  | cons v r=>
   cases ds with
   | nil=>exfalso;simp only [AV.data.go] at t1;split at t1<;>cases t1
   | cons d ds=>rfl
 rw [this];exact q
theorem ul (l:List Int):FlatL 50 (l.map .int):=(xC l).mono (by lia)

noncomputable def Step (s:St) (b o:Int):Prop:=some (o,true)∈s.row b\/∃ p∈s.ls,((s.link p).1=b\/(s.link p).2.1=b)/\(s.link p).2.2=o
theorem Step.box {s:St} (ok:s.Ok) {b o:Int} (hb:b∈s.ks) (h:Step s b o):o∈s.ks:=by
 rcases h with h | ⟨p,hp,_,rfl⟩
 ·exact ok.ro b hb o true h
 ·exact (ok.lo p hp).2.2
inductive Below (s:St) (gone:List Int) (a:Int):Int->Prop
 | one {b:Int}:Step s a b->b∈gone->Below s gone a b
 | more {b c:Int}:Below s gone a b->Step s b c->c∈gone->Below s gone a c
theorem Below.trans {s:St} {gone:List Int} {a b c:Int} (h:Below s gone a b) (k:Below s gone b c):Below s gone a c:=by
 induction k with
 | one h1 h2=>exact .more h h1 h2
 | more _ h1 h2 ih=>exact .more ih h1 h2
theorem Below.box {s:St} (ok:s.Ok) {gone:List Int} {a b:Int} (ha:a∈s.ks) (h:Below s gone a b):b∈s.ks:=by
 induction h with
 | one h1 _=>exact h1.box ok ha
 | more _ h1 _ ih=>exact h1.box ok ih

section
variable {P:Nat->Option IFn} {n:Nat} {R:RM} {H:AH} {A:Ad} {s:St} {Q:AV->AH->Prop} {X:Nat->AH->Prop}

set_option tactic.hygienic true in
theorem jV (h60:P 60=some pB) (p:yB P) (x:Chest R H A s) (ok:s.Ok) {h:Int} (hh:h∈s.ks)
  (q:∀ (L:Nat) (H':AH) (fs:List Int),H L=.none->H' L=some (.list (fs.map .int))->(∀ o,o∈fs↔Step s h o)->fs.length<=69->Ext0 H H'->Q (.ref L) H'):CN P (n+4) 60 [.ref A.c,.int h] H Q X:=by
 have rl:=ok.rl h hh
 have ll:=ok.ll
 refine zR h60 rfl ?_
 intro C_ Q_ X_ m_
 case k50=>fail
 intro L hL
 have e1:Ext0 H _:=Ext0.set (o:=.list []) hL
 have k1:(H.set L (.list [])) L=some (.list []):=AH.set_self ..
 generalize H.set L (.list [])=H1 at e1 k1 |-
 have x1:=x.ext e1
 case k50=>(first | exact x1.c .. | exact x1.dx ..)
 refine wK (n:=n+1) p.h25 p.h21 x1 hh ?_
 case k50=>fail
 refine zH (λ i m' H'=>∃ (g:List Int) (a3 a4:Option AV),m'=[some (.ref A.c),some (.int h),some (.ref L),a3,a4,.none,.none,.none,.none,.none,.none,.none,.none,.none,.none,.none,.none]/\Ext0 H H'/\H' L=some (.list (g.map .int))/\g.length<=i/\(∀ b,b∈g↔some (b,true)∈(s.row h).take i)) (λ i v m' H' J0 hJ0 K0 hK0 hv hI=>?_) (λ m' H' hI=>?_) ⟨[],_,_,rfl,e1,k1,Nat.le_refl _,(by intro b;simp)⟩
 ·with_reducible refine ex3 (hI) λ g a3 a4 hx_=>an5 hx_ λ hr3_ eH kL gl g1=>?_;clear hx_;(try clear hI);subst hr3_
  obtain ⟨hi,rfl⟩:=xb hv
  have hi:i < (s.row h).length:=by lia
  have e0:(0+(i:Int)).toNat=i:=by lia
  have hv:(s.row h)[i]?=some (s.row h)[i]:=List.getElem?_eq_getElem hi
  have xH:=x.ext eH
  case k74=>skip
  refine ⟨trivial,_,rfl,?_⟩
  case k50=>(first | exact xH.c .. | exact xH.dx ..)
  refine uF (n:=n) p.h28 p.h21 p.h22 xH hh (by lia) (by rw [e0];exact hv) ?_
  have hvl:(g.map AV.int).length < lid:=by simp;unfold lid;lia
  have tk:(s.row h).take (i+1)=(s.row h).take i++[(s.row h)[i]]:=by rw [List.take_add_one,hv];rfl
  rw [tk] at hJ0
  cases hs:(s.row h)[i] with
  | none=>
   case k50=>fail
   case k74=>skip
   exact em3 g _ _ ⟨rfl,eH,kL,by lia,λ b=>by rw [g1,List.mem_append];simp [hs]⟩
  | some ob=>
   obtain ⟨o,b⟩:=ob
   cases b with
   | false=>
    case k50=>fail
    case k74=>skip
    exact em3 g _ _ ⟨rfl,eH,kL,by lia,λ b=>by rw [g1,List.mem_append];simp [hs]⟩
   | true=>
    case k50=>(first | exact kL .. | exact hvl ..)
    case k74=>skip
    refine em3 (g++[o]) _ _ ⟨rfl,eH.setNone hL,?_,by simp;lia,λ b=>by rw [List.mem_append,List.mem_append,g1];simp [hs]⟩
    rw [AH.set_self,List.map_append];rfl
 with_reducible refine ex3 (hI) λ g a3 a4 hx_=>an5 hx_ λ hr3_ eH kL gl g1=>?_;clear hx_;(try clear hI);subst hr3_
 case k74=>skip
 refine ⟨trivial,?_⟩
 have hlen:(zJ 0 ((s.row h).length:Int)).length=(s.row h).length:=by simp [zJ]
 have gl:g.length<=(zJ 0 ((s.row h).length:Int)).length:=gl
 have g1:∀ b,b∈g↔some (b,true)∈(s.row h).take (zJ 0 ((s.row h).length:Int)).length:=g1
 rw [hlen] at gl g1
 rw [List.take_length] at g1
 have xH:=x.ext eH
 case k50=>(first | exact xH.c .. | exact xH.dx ..)
 refine w8 (n:=n+2) p.h35 xH (by lia) λ Lp H2 hLp kp e2=>?_
 have nL:L≠Lp:=λ z=>by rw [<-z,kL] at hLp;cases hLp
 have k2:=e2 _ _ kL
 have eH:=eH.trans e2
 case k50=>exact zC kp ..
 let I140_:Nat->Loc->AH->Prop:=(λ i m' H'=>∃ (g':List Int) (a5 a6 a7 a8:Option AV),m'=[some (.ref A.c),some (.int h),some (.ref L),a3,a4,a5,a6,a7,a8,.none,.none,.none,.none,.none,.none,.none,.none]/\Ext0 H H'/\H' Lp=some (.list ((zA s.ls).map (yW s)))/\H' L=some (.list (g'.map .int))/\g'.length<=9+i/\(∀ b,b∈g'↔b∈g\/∃ k∈(zA s.ls).take i,((s.link k).1=h\/(s.link k).2.1=h)/\(s.link k).2.2=b))
 refine zH I140_ (λ i v m' H' J0 hJ0 K0 hK0 hv hI=>?_) (λ m' H' hI=>?_) ⟨g,_,_,_,_,rfl,eH,kp,k2,by lia,(by intro b;simp)⟩
 ·with_reducible refine ex5 (hI) λ g' a5 a6 a7 a8 hx_=>an6 hx_ λ hr5_ eH kP kL gl' g1'=>?_;clear hx_;(try clear hI);subst hr5_
  have hv:((zA s.ls).map (yW s))[i]?=some v:=hv
  rw [List.getElem?_map] at hv
  with_reducible refine ex1 (Option.map_eq_some_iff.mp hv) λ k hx_=>an2 hx_ λ hk hr2_=>?_;clear hx_;subst hr2_
  have hi:i < s.ls.length:=by rw [<-zB s.ls];exact (List.getElem?_eq_some_iff.mp hk).1
  have hvl:(g'.map AV.int).length < lid:=by simp;unfold lid;lia
  case k74=>skip
  refine ⟨kP,_,rfl,?_⟩
  have mt:∀ x,x∈(zA s.ls).take (i+1)↔x∈(zA s.ls).take i\/x=k:=λ x=>zO hk
  case k50=>exact mc ..
  refine zf (λ _=>?_) (λ _=>?_)
  ·rename_i h1
   have h1:(s.link k).1=h\/(s.link k).2.1=h:=by simpa [uI] using h1
   case k50=>(first | exact kL .. | exact hvl ..)
   case k74=>skip
   refine em5 (g'++[(s.link k).2.2]) _ _ _ _ ⟨rfl,eH.setNone hL,by rw [AH.set_ne _ _ nL.symm];exact kP,?_,by simp;lia,λ b=>?_⟩
   ·rw [AH.set_self,List.map_append];rfl
   ·rw [List.mem_append,g1',List.mem_singleton]
    constructor
    ·rintro ((z | ⟨k',hk',z⟩) | z)
     ·exact .inl z
     ·exact .inr ⟨k',(mt k').mpr (.inl hk'),z⟩
     ·exact .inr ⟨k,(mt k).mpr (.inr rfl),h1,z.symm⟩
    ·rintro (z | ⟨k',hk',z⟩)
     ·exact .inl (.inl z)
     ·rcases (mt k').mp hk' with y | y
      ·exact .inl (.inr ⟨k',y,z⟩)
      ·subst y;exact .inr z.2.symm
  ·rename_i h1
   have h1:¬ ((s.link k).1=h\/(s.link k).2.1=h):=by
    intro z
    rcases z with z | z<;>simp [uI,z] at h1
   case k50=>fail
   case k74=>skip
   refine em5 g' _ _ _ _ ⟨rfl,eH,kP,kL,by lia,λ b=>?_⟩
   rw [g1']
   constructor
   ·rintro (z | ⟨k',hk',z⟩)
    ·exact .inl z
    ·exact .inr ⟨k',(mt k').mpr (.inl hk'),z⟩
   ·rintro (z | ⟨k',hk',z⟩)
    ·exact .inl z
    ·rcases (mt k').mp hk' with y | y
     ·exact .inr ⟨k',y,z⟩
     ·subst y;exact absurd z.1 h1
 ·with_reducible refine ex5 (hI) λ g' a5 a6 a7 a8 hx_=>an6 hx_ λ hr5_ eH kP kL gl' g1'=>?_;clear hx_;(try clear hI);subst hr5_
  case k74=>skip
  refine ⟨kP,?_⟩
  have hl2:((zA s.ls).map (yW s)).length=s.ls.length:=by rw [List.length_map,zB]
  have gl':g'.length<=9+((zA s.ls).map (yW s)).length:=gl'
  have g1':∀ b,b∈g'↔b∈g\/∃ k∈(zA s.ls).take ((zA s.ls).map (yW s)).length,((s.link k).1=h\/(s.link k).2.1=h)/\(s.link k).2.2=b:=g1'
  rw [hl2] at gl'
  rw [List.length_map,List.take_length] at g1'
  case k50=>fail
  case k74=>skip
  refine q L H' g' hL kL (λ o=>?_) (by lia) eH
  rw [g1',g1]
  unfold Step
  constructor
  ·rintro (z | ⟨k,hk,z⟩)
   ·exact .inl z
   ·exact .inr ⟨k,mem_sortI.mp hk,z⟩
  ·rintro (z | ⟨k,hk,z⟩)
   ·exact .inl z
   ·exact .inr ⟨k,mem_sortI.mpr hk,z⟩
end

theorem sW (wt:List Int) (x:Int):((wt++[x]).map AV.int).getLast?=some (.int x):=by simp
theorem tR (wt:List Int) (x:Int):((wt++[x]).map AV.int).dropLast=wt.map .int:=by rw [List.map_append,List.map_cons,List.map_nil,List.dropLast_concat]

theorem gx (l:List Int):l=[]\/∃ t y,l=t++[y]:=by
 rcases List.eq_nil_or_concat l with h | ⟨t,y,h⟩
 ·exact .inl h
 ·exact .inr ⟨t,y,by rw [h,List.concat_eq_append]⟩

noncomputable def mG1 (c:Nat) (here:Int) (G M W:Nat) (a5:Option AV):Loc:=[some (.ref c),some (.int here),some (.ref G),some (.ref M),some (.ref W),a5,.none,.none,.none,.none,.none,.none,.none,.none]
noncomputable def ygB:ISs:=match ir_61.body with
 | .cons _ (.cons _ (.cons (.while _ (.cons (.for _ _ b) _)) _))=>b
 | _=>.nil
structure YgS (s:St) (gone:List Int) (here:Int) (H H':AH) (M W:Nat) (ms ws:List Int):Prop where
 e:Ext0 H H'
 m:∃ ep,H' M=some (.dict (dOf ms λ z_=>.bool true) ep)
 w:H' W=some (.list (ws.map .int))
 nd:ms.Nodup
 bl:∀ b∈ms,Below s gone here b
 wm:∀ b∈ws,b=here\/b∈ms
 wc:ws.length<=ms.length+1
section
variable {P:Nat->Option IFn} {n:Nat} {R:RM} {H H1:AH} {A:Ad} {s:St} {gone ms ws wt:List Int} {here:Int} {G M W:Nat} {a5:Option AV}
theorem YgS.ext {H':AH} (z:YgS s gone here H H1 M W ms ws) (e:Ext0 H1 H'):YgS s gone here H H' M W ms ws:=by
 obtain ⟨ep,h⟩:=z.m
 case k74=>skip
 exact ⟨z.e.trans e,⟨ep,e _ _ h⟩,e _ _ z.w,z.nd,z.bl,z.wm,z.wc⟩
theorem YgS.len (z:YgS s gone here H H1 M W ms ws) (ok:s.Ok) (hh:here∈s.ks):ms.length<=60:=Nat.le_trans (yD z.nd λ b hb=>(z.bl b hb).box ok hh) ok.kl
theorem yg_in {Q:Fl->Loc->AH->Prop} {X:Nat->Loc->AH->Prop} (ok:s.Ok) (hh:here∈s.ks) (hG:H G=some (.list (gone.map .int))) (hM:H M=.none) (hW:H W=.none) (nWM:W≠M) (z:YgS s gone here H H1 M W ms wt) {fs:List Int} {L:Nat} (kL:H1 L=some (.list (fs.map .int))) (nLM:L≠M) (nLW:L≠W) (hs:∀ o∈fs,o∈gone->Below s gone here o)
  (q:∀ t a5 H',YgS s gone here H H' M W (ms++t) (wt++t)->(∀ o∈fs,o∈gone->o∈ms++t)->Q .next (mG1 A.c here G M W a5) H') :
  forL (Src.ok ⟨fs.map .int,some (L,.list (fs.map .int))⟩) (zz (.one 5)) (gq (CN P n) ygB X) (fs.map .int) (mG1 A.c here G M W a5) H1 Q:=by
 let I34_:Nat->Loc->AH->Prop:=(λ j m' H'=>∃ (t:List Int) (a5:Option AV),m'=mG1 A.c here G M W a5/\H' L=some (.list (fs.map .int))/\YgS s gone here H H' M W (ms++t) (wt++t)/\∀ o∈fs.take j,o∈gone->o∈ms++t)
 refine zH I34_ (λ j v m' H' J0 hJ0 K0 hK0 hv hI=>?_) (λ m' H' hI=>?_) ⟨[],_,rfl,kL,by rw [List.append_nil,List.append_nil];exact z,by intro o ho;simp at ho⟩
 ·clear z kL
  with_reducible refine ex2 (hI) λ t a5 hx_=>an4 hx_ λ hr2_ kL z dn=>?_;clear hx_;(try clear hI);subst hr2_
  rw [List.getElem?_map] at hv
  with_reducible refine ex1 (Option.map_eq_some_iff.mp hv) λ o hx_=>an2 hx_ λ ho hr2_=>?_;clear hx_;subst hr2_
  have m60:=z.len ok hh
  have wc:=z.wc
  have kG:=z.e _ _ hG
  obtain ⟨ep,kM⟩:=z.m
  case k74=>skip
  refine ⟨kL,_,rfl,?_⟩
  show WSs _ (.cons (.ite _ _ _) .nil) _ _ _ _
  by_cases hg:o∈gone
  ·by_cases hm:o∈ms++t
   ·case k50=>(first | exact xi kG hg .. | exact yg kM hm ..)
    case k74=>skip
    refine em2 t _ ⟨rfl,kL,z,λ o' ho' hg'=>?_⟩
    rcases (zO ho).mp ho' with y | y
    ·exact dn o' y hg'
    ·rw [y];exact hm
   ·case k50=>(first | exact xi kG hg .. | exact sU kM hm .. | exact kM ..)
    case k74=>skip
    refine ⟨by rw [zK];unfold lid;lia,λ ep'=>?_⟩
    have kW':(H'.set M (.dict (dset (dOf (ms++t) λ z_=>.bool true) o (.bool true)) ep')) W=some (.list ((wt++t).map .int)):=by rw [AH.set_ne _ _ nWM];exact z.w
    have lt:((wt++t).map AV.int).length < lid:=by rw [List.length_map];unfold lid;lia
    case k50=>(first | exact kW' .. | exact lt ..)
    have ea:addK (ms++t) o=ms++(t++[o]):=(if_neg hm).trans (List.append_assoc ..)
    have ew:wt++t++[o]=wt++(t++[o]):=List.append_assoc ..
    case k74=>skip
    refine em2 (t++[o]) _ ⟨rfl,by rw [AH.set_ne _ _ nLW,AH.set_ne _ _ nLM];exact kL,⟨(z.e.setNone hM).setNone hW,⟨ep',?_⟩,?_,?_,λ b hb=>?_,λ b hb=>?_,?_⟩,λ o' ho' hg'=>?_⟩
    ·rw [AH.set_ne _ _ nWM.symm,AH.set_self,yV,ea]
    ·rw [AH.set_self,<-ew,List.map_append (l₁:=wt++t)];rfl
    ·rw [<-ea];exact xA z.nd
    ·rw [<-ea] at hb
     rcases mem_addK.mp hb with y | y
     ·rw [y];exact hs o (List.mem_of_getElem? ho) hg
     ·exact z.bl b y
    ·rw [<-ew] at hb
     rw [<-ea]
     rcases List.mem_append.mp hb with y | y
     ·exact (z.wm b y).imp id λ y=>mem_addK.mpr (.inr y)
     ·exact .inr (mem_addK.mpr (.inl (List.mem_singleton.mp y)))
    ·rw [<-ew,<-List.append_assoc,List.length_append (as:=wt++t),List.length_append (as:=ms++t)];show _+1<=_+1+1;lia
    ·rw [<-ea]
     rcases (zO ho).mp ho' with y | y
     ·exact mem_addK.mpr (.inr (dn o' y hg'))
     ·exact mem_addK.mpr (.inl y)
  ·case k50=>exact wf kG hg ..
   case k74=>skip
   refine em2 t _ ⟨rfl,kL,z,λ o' ho' hg'=>?_⟩
   rcases (zO ho).mp ho' with y | y
   ·exact dn o' y hg'
   ·rw [y] at hg';exact absurd hg' hg
 with_reducible refine ex2 (hI) λ t a5 hx_=>an4 hx_ λ hr2_ kL z dn=>?_;clear hx_;(try clear hI);subst hr2_
 have dn:∀ o∈fs.take (fs.map AV.int).length,o∈gone->o∈ms++t:=dn
 rw [List.length_map,List.take_length] at dn
 case k74=>skip
 exact ⟨kL,q t a5 H' z dn⟩
end
section
variable {P:Nat->Option IFn} {n:Nat} {R:RM} {H:AH} {A:Ad} {s:St} {Q:AV->AH->Prop} {X:Nat->AH->Prop}
theorem pW (h61:P 61=some ir_61) (h60:P 60=some pB) (p:yB P) (x:Chest R H A s) (ok:s.Ok) {here:Int} (hh:here∈s.ks) {G:Nat} {gone:List Int} (hG:H G=some (.list (gone.map .int)))
  (q:∀ (M:Nat) (H':AH) (ms:List Int) (ep:Nat),H M=.none->H' M=some (.dict (dOf ms λ z_=>.bool true) ep)->(∀ b,b∈ms↔Below s gone here b)->Ext0 H H'->Q (.ref M) H'):CN P (n+5) 61 [.ref A.c,.int here,.ref G] H Q X:=by
 refine zR h61 rfl ?_
 intro C_ Q_ X_ m_
 show WSs _ (.cons _ (.cons _ (.cons (.while _ (.cons (.for _ _ ygB) _)) _))) _ _ _ _
 case k50=>fail
 intro M ep hM
 have e1:Ext0 H _:=Ext0.set (o:=.dict [] ep) hM
 have k1:(H.set M (.dict [] ep)) M=some (.dict [] ep):=AH.set_self ..
 generalize H.set M (.dict [] ep)=H1 at e1 k1 |-
 case k50=>fail
 intro W hW
 have nWM:W≠M:=λ z=>by rw [z,k1] at hW;cases hW
 have e2:Ext0 H1 _:=Ext0.set (o:=.list [.int here]) hW
 have k2:(H1.set W (.list [.int here])) W=some (.list [.int here]):=AH.set_self ..
 have k1:=e2 _ _ k1
 have e2:=e1.trans e2
 have hW:=e1.back hW
 generalize H1.set W (.list [.int here])=H2 at e2 k2 k1 |-
 clear e1
 case k50=>fail
 let I109_:Nat->Loc->AH->Prop:=(λ k m' H'=>∃ (ms ws:List Int) (a5:Option AV),k=2 * (60 - ms.length)+ws.length/\m'=mG1 A.c here G M W a5/\YgS s gone here H H' M W ms ws/\∀ b,b=here\/b∈ms->b∈ws\/∀ o,Step s b o->o∈gone->o∈ms)
 refine xu I109_ (λ k m' H' J0 hJ0 K0 hK0 hI=>?_) (k:=121) ⟨[],[here],_,rfl,rfl,⟨e2,⟨ep,k1⟩,k2,List.nodup_nil,(by intro b hb;cases hb),λ b hb=>.inl (List.mem_singleton.mp hb),Nat.le_refl 1⟩,(by intro b hb;rcases hb with rfl | hb;exact .inl (.head _);cases hb)⟩
 clear e2 k1 k2
 with_reducible refine ex3 (hI) λ ms ws a5 hx_=>an4 hx_ λ hr3_ hr4_ z cl=>?_;clear hx_;(try clear hI);subst hr3_;subst hr4_
 have m60:=z.len ok hh
 case k50=>fail
 intro E nE
 have e3:Ext0 H' _:=Ext0.set (o:=.list []) nE
 have k3:(H'.set E (.list [])) E=some (.list []):=AH.set_self ..
 have z:=z.ext e3
 generalize H'.set E (.list [])=H3 at z k3 |-
 clear e3 nE
 refine vd z.w k3 (ul _) ?_
 clear k3
 rcases gx ws with rfl | ⟨wt,y,rfl⟩
 ·obtain ⟨ep,kM⟩:=z.m
  case k50=>fail
  case k74=>skip
  refine q M H3 ms ep hM kM (λ b=>⟨z.bl b,λ hb=>?_⟩) z.e
  induction hb with
  | one h1 h2=>
   rcases cl here (.inl rfl) with z | z
   ·cases z
   ·exact z _ h1 h2
  | more _ h1 h2 ih=>
   rcases cl _ (.inr ih) with z | z
   ·cases z
   ·exact z _ h1 h2
 ·have ne:(!((wt++[y]).map AV.int).isEmpty)=true:=by simp
  have hyw:=z.wm y (List.mem_append_right _ (.head _))
  have hy:y∈s.ks:=by
   rcases hyw with z' | z'
   ·rw [z'];exact hh
   ·exact (z.bl y z').box ok hh
  have wc:=z.wc
  rw [List.length_append] at wc
  have kW:=z.w
  obtain ⟨ep,kM⟩:=z.m
  case k50=>(first | exact ne .. | exact kW .. | exact sW ..)
  rw [tR]
  have kW':(H3.set W (.list (wt.map .int))) W=some (.list (wt.map .int)):=AH.set_self ..
  have z:YgS s gone here H (H3.set W (.list (wt.map .int))) M W ms wt:=⟨z.e.setNone hW,⟨ep,(AH.set_ne _ _ nWM.symm).trans kM⟩,kW',z.nd,z.bl,λ b hb=>z.wm b (List.mem_append_left _ hb),by lia⟩
  generalize H3.set W (.list (wt.map .int))=H4 at z kW' |-
  clear kW kM
  refine jV (n:=n) h60 p (x.ext z.e) ok hy λ L H5 fs nL kL fm fl e5=>?_
  have nLW:=xT nL kW'
  obtain ⟨ep,kM⟩:=z.m
  have nLM:=xT nL kM
  have z:=z.ext e5
  clear e5 nL kW' kM
  case k50=>exact zC kL ..
  refine yg_in (A:=A) ok hh hG hM hW nWM z kL nLM nLW (λ o ho hg=>?_) λ t a5 H6 z6 dn=>?_
  ·have hst:=(fm o).mp ho
   rcases hyw with y' | y'
   ·rw [y'] at hst;exact .one hst hg
   ·exact .more (z.bl y y') hst hg
  have m6:=z6.len ok hh
  case k50=>fail
  case k74=>skip
  refine ⟨2 * (60 - (ms++t).length)+(wt++t).length,?_,ms++t,wt++t,_,rfl,rfl,z6,λ b hb=>?_⟩
  ·rw [List.length_append] at m6 |-
   rw [List.length_append,List.length_append]
   show _ < _+(_+1)
   lia
  ·have up:∀ {x},x∈ms->x∈ms++t:=λ h=>List.mem_append_left _ h
   have old:b=here\/b∈ms->b∈wt++t\/∀ o,Step s b o->o∈gone->o∈ms++t:=λ hb=>by
    rcases cl b hb with c | c
    ·rcases List.mem_append.mp c with c | c
     ·exact .inl (List.mem_append_left _ c)
     ·rw [List.mem_singleton.mp c]
      exact .inr λ o h1 h2=>dn o ((fm o).mpr h1) h2
    ·exact .inr λ o h1 h2=>up (c o h1 h2)
   rcases hb with hb | hb
   ·exact old (.inl hb)
   ·rcases List.mem_append.mp hb with hb | hb
    ·exact old (.inr hb)
    ·exact .inl (List.mem_append_right _ hb)
end

theorem mf (d:Deed):Flat 49 d.av:=by
 cases d with
 | up=>exact .tup (.cons (.str _ _) (.nil _))
 | down o=>exact .tup (.cons (.str _ _) (.cons (.int _ _) (.nil _)))
 | hang o s h=>exact .tup (.cons (.str _ _) (.cons (.int _ _) (.cons (.int _ _) (.cons (.bool _ _) (.nil _)))))
theorem um (l:List Deed):FlatL 50 (l.map Deed.av):=.of λ v hv=>by
 with_reducible refine ex1 (List.mem_map.mp hv) λ d hx_=>an2 hx_ λ z_ hr2_=>?_;clear hx_;subst hr2_
 obtain ⟨x,h1,h2,h3⟩:=mf d
 case k74=>skip
 exact ⟨x,h1,by lia,h3⟩

noncomputable def frB (br:Int->Int->Bool) (left:List Int) (b:Int):Bool:=left.all λ o=>!(br o b&&!br b o)
noncomputable def yO (br:Int->Int->Bool):Nat->List Int->List Int
 | 0,_=>[]
 | n+1,left=>match left.filter (frB br left) with
  | []=>[]
  | b::_=>b::yO br n (left.filter λ x=>!decide (x=b))
theorem un {r:Int->Int->Prop} (irr:∀ a,¬ r a a) (tr:∀ a b c,r a b->r b c->r a c):∀ l:List Int,l≠[]->∃ b∈l,∀ o∈l,¬ r o b
 | [],h=>absurd rfl h
 | [a],_=>⟨a,.head _,λ o ho=>by rw [List.mem_singleton.mp ho];exact irr a⟩
 | a::c::l,_=>by
  with_reducible refine ex1 (un irr tr (c::l) (by simp)) λ b hx_=>an2 hx_ λ hb hm=>?_;clear hx_
  by_cases h:r a b
  ·case k74=>skip
   refine ⟨a,.head _,λ o ho=>?_⟩
   rcases List.mem_cons.mp ho with z | z
   ·rw [z];exact irr a
   ·exact λ k=>hm o z (tr _ _ _ k h)
  ·case k74=>skip
   refine ⟨b,.tail _ hb,λ o ho=>?_⟩
   rcases List.mem_cons.mp ho with z | z
   ·rw [z];exact h
   ·exact hm o z
theorem uN {br:Int->Int->Bool} (tr:∀ a b c,br a b=true->br b c=true->br a c=true) {left:List Int} (h:left≠[]):left.filter (frB br left)≠[]:=by
 obtain ⟨b,hb,hm⟩:=un (r:=λ o b=>br o b=true/\br b o=false) (λ a h=>by rw [h.1] at h;cases h.2) (λ a b c h1 h2=>⟨tr _ _ _ h1.1 h2.1,by
  cases z:br c a with
  | false=>rfl
  | true=>have:=tr _ _ _ h2.1 z;rw [h1.2] at this;cases this⟩) left h
 intro z
 have:b∈left.filter (frB br left):=List.mem_filter.mpr ⟨hb,by
  unfold frB
  rw [List.all_eq_true]
  intro o ho
  have:=hm o ho
  cases h1:br o b with
  | false=>simp
  | true=>cases h2:br b o with
   | true=>simp
   | false=>exact absurd ⟨h1,h2⟩ this⟩
 rw [z] at this
 cases this
theorem r9 (l:List Int):∀ (x:Int),(∀ y∈l,x<=y)->yU x l=x:=by
 induction l with
 | nil=>
  intro _ _
  exact rfl
 | cons y r ih_=>
  intro x h
  unfold yU
  have:¬ y < x:=by have:=h y (.head _);lia
  rw [if_neg this]
  exact ih_ x λ z hz=>h z (.tail _ hz)
set_option tactic.hygienic true in
theorem qg {x:Int}:∀ {l:List Int},l.Pairwise (·<=·)->(zo x l).Pairwise (·<=·)
 | [],_=>by simp [zo]
 | y::r,h=>by
  have hh:=List.pairwise_cons.mp h
  unfold zo
  split
  ·rename_i hx
   refine List.pairwise_cons.mpr ⟨λ z hz=>?_,h⟩
   rcases List.mem_cons.mp hz with q | q
   ·rw [q];exact hx
   ·have:=hh.1 z q;lia
  ·rename_i hx
   refine List.pairwise_cons.mpr ⟨λ z hz=>?_,qg hh.2⟩
   rcases mem_insertI.mp hz with q | q
   ·rw [q];lia
   ·exact hh.1 z q
theorem xV (l:List Int):(zA l).Pairwise (·<=·):=by
 induction l with
 | nil=>
  exact .nil
 | cons x r ih_=>
  exact qg (ih_)
theorem rc (s:St):(zV s).Pairwise (·<=·):=(xV s.ks).filter _
theorem vF {s:St} (ok:s.Ok):(zV s).Nodup:=(zF ok.ku).filter _
theorem mem_lost {s:St} {b:Int}:b∈zV s↔b∈s.ks/\¬ Reach s b:=by
 unfold zV
 rw [List.mem_filter,mem_sortI]
 simp

theorem jW (s:St):(zV s).length<=s.ks.length:=by
 unfold zV
 rw [<-zB s.ks]
 exact List.length_filter_le _ _
noncomputable def wills (s:St):List Int:=(zV s).filter λ b=>!(s.willOf b).isEmpty
open Classical in
noncomputable def xD (s:St) (a b:Int):Bool:=decide (Below s (zV s) a b)
theorem belowB_iff {s:St} {a b:Int}:xD s a b=true↔Below s (zV s) a b:=by simp [xD]
theorem vQ (s:St) (a b c:Int) (h:xD s a b=true) (k:xD s b c=true):xD s a c=true:=
 belowB_iff.mpr ((belowB_iff.mp h).trans (belowB_iff.mp k))
theorem uO {br:Int->Int->Bool} {N:Nat} {left:List Int} {b:Int} {fr:List Int} (h:left.filter (frB br left)=b::fr):yO br (N+1) left=b::yO br N (left.filter λ x=>!decide (x=b)):=by
 rw [yO,h]
noncomputable def orderOf (s:St):List Int:=yO (xD s) (wills s).length (wills s)

section
variable {P:Nat->Option IFn} {n:Nat} {R:RM} {H:AH} {A:Ad} {s:St} {Q:AV->AH->Prop} {X:Nat->AH->Prop}

theorem pX (h62:P 62=some oY) {br:Int->Int->Bool} {l0 left:List Int} {LF Y ep:Nat} {ya:Int->Nat} (kL:H LF=some (.list (left.map .int))) (kY:H Y=some (.dict (dOf l0 λ b=>.ref (ya b)) ep))
  (ky:∀ b∈l0,∃ ms ep,H (ya b)=some (.dict (dOf ms λ z_=>.bool true) ep)/\∀ o,decide (o∈ms)=br b o) (sub:∀ b∈left,b∈l0) {b:Int} (hb:b∈l0) (q:Q (.bool (frB br left b)) H):CN P (n+1) 62 [.int b,.ref LF,.ref Y] H Q X:=by
 refine zR h62 rfl ?_
 intro C_ Q_ X_ m_
 with_reducible refine ex2 (ky b hb) λ msb epb hx_=>an2 hx_ λ kb mb=>?_;clear hx_
 case k50=>exact zC kL ..
 let I108_:Nat->Loc->AH->Prop:=(λ i m' H'=>H'=H/\(∃ (a3:Option AV),m'=[some (.int b),some (.ref LF),some (.ref Y),a3,.none,.none,.none,.none,.none,.none,.none,.none])/\∀ o∈left.take i,(br o b&&!br b o)=false)
 refine zH I108_ (λ i v m' H' J0 hJ0 K0 hK0 hv hI=>?_) (λ m' H' hI=>?_) ⟨rfl,⟨_,rfl⟩,by intro o ho;simp at ho⟩
 ·obtain ⟨rfl,⟨a3,rfl⟩,hd⟩:=hI
  have hv:(left.map AV.int)[i]?=some v:=hv
  rw [List.getElem?_map] at hv
  with_reducible refine ex1 (Option.map_eq_some_iff.mp hv) λ o hx_=>an2 hx_ λ ho hr2_=>?_;clear hx_;subst hr2_
  have hol:=List.mem_of_getElem? ho
  have ho0:=sub o hol
  with_reducible refine ex2 (ky o ho0) λ mso epo hx_=>an2 hx_ λ ko mo=>?_;clear hx_
  case k74=>skip
  refine ⟨kL,_,rfl,?_⟩
  have wo:wIn (.int b) (.ref (ya o)) H'=some (br o b):=by rw [xU _ ko,mo b]
  have wb:wIn (.int o) (.ref (ya b)) H'=some (br b o):=by rw [xU _ kb,mb o]
  case k50=>(first | exact kY .. | exact zY ho0 .. | exact zY hb .. | exact wo .. | exact wb ..)
  refine zf (λ h=>?_) (λ h=>?_)
  ·case k50=>fail
   have:frB br left b=false:=by
    unfold frB
    rw [List.all_eq_false]
    case k74=>skip
    exact ⟨o,hol,by rw [h];simp⟩
   rw [this] at q
   case k74=>skip
   exact q
  ·case k50=>fail
   case k74=>skip
   refine ⟨rfl,⟨_,rfl⟩,λ o' ho'=>?_⟩
   rcases (zO ho).mp ho' with z | z
   ·exact hd o' z
   ·rw [z];exact h
 ·obtain ⟨rfl,⟨a3,rfl⟩,hd⟩:=hI
  case k74=>skip
  refine ⟨kL,?_⟩
  have hd:∀ o∈left.take (left.map AV.int).length,(br o b&&!br b o)=false:=hd
  rw [List.length_map,List.take_length] at hd
  case k50=>fail
  have:frB br left b=true:=by
   unfold frB
   rw [List.all_eq_true]
   intro o ho
   rw [hd o ho];rfl
  rw [this] at q
  case k74=>skip
  exact q

end
theorem zu {l:List Int} (h:l.Nodup) {i:Nat} {b:Int} (hb:l[i]?=some b):b∉l.take i:=λ z=>by
 have hi:=(List.getElem?_eq_some_iff.mp hb).1
 obtain ⟨j,hj⟩:=List.getElem?_of_mem z
 rw [List.getElem?_take] at hj
 split at hj
 ·have:=(List.getElem?_inj hi h).mp (hb.trans hj.symm)
  lia
 ·cases hj
theorem wh {H:AH} {a b:Nat} {l:List AV} {d:List (Int×AV)} {ep:Nat} (h:H a=some (.list l)) (k:H b=some (.dict d ep)):a≠b:=λ z=>by rw [z,k] at h;cases h
theorem yQ {l:List Int} {f:Int->AV} {i:Nat} {v:AV} (h:(l.map f)[i]?=some v):∃ b,l[i]?=some b/\v=f b/\b∈l:=by
 rw [List.getElem?_map] at h
 with_reducible refine ex1 (Option.map_eq_some_iff.mp h) λ b hx_=>an2 hx_ λ hb e=>?_;clear hx_
 case k74=>skip
 exact ⟨b,hb,e.symm,List.mem_of_getElem? hb⟩
theorem iU {Cl:Calls} {Y:Nat->AH->Prop} {m:Loc} {H:AH} {K:Bool->AH->Prop} {b:Bool} (q:K b H):taK Cl Y .nil m K b H:=by cases b<;>exact q
noncomputable def mO (c G:Nat) (a2:Option AV) (L Y:Nat) (a5 a6:Option AV):Loc:=[some (.ref c),some (.ref G),a2,some (.ref L),some (.ref Y),a5,a6,.none,.none,.none,.none,.none,.none,.none,.none]
noncomputable def orS:IS:=match ir_63.body with
 | .cons _ (.cons _ (.cons _ (.cons s _)))=>s
 | _=>.ex .cn
noncomputable def orB:ISs:=match ir_63.body with
 | .cons _ (.cons _ (.cons _ (.cons _ (.cons _ (.cons (.while _ b) _)))))=>b
 | _=>.nil
structure Yng (H:AH) (Y:Nat) (l0:List Int) (ya:Int->Nat) (br:Int->Int->Bool):Prop where
 y:∃ ep,H Y=some (.dict (dOf l0 λ b=>.ref (ya b)) ep)
 k:∀ b∈l0,ya b≠Y/\∃ ms ep,H (ya b)=some (.dict (dOf ms λ z_=>.bool true) ep)/\∀ o,decide (o∈ms)=br b o
theorem Yng.ext {H H':AH} {Y:Nat} {l0:List Int} {ya:Int->Nat} {br:Int->Int->Bool} (z:Yng H Y l0 ya br) (e:Ext0 H H'):Yng H' Y l0 ya br:=by
 obtain ⟨ep,h⟩:=z.y
 case k74=>skip
 refine ⟨⟨ep,e _ _ h⟩,λ b hb=>?_⟩
 obtain ⟨h0,ms,ep,h1,h2⟩:=z.k b hb
 case k74=>skip
 exact ⟨h0,ms,ep,e _ _ h1,h2⟩
structure OrS (br:Int->Int->Bool) (w0:List Int) (H0 H:AH) (LF O:Nat) (left acc:List Int):Prop where
 e:Ext0 H0 H
 l:H LF=some (.list (left.map .int))
 o:H O=some (.list (acc.map .int))
 ne:LF≠O
 so:left.Pairwise (·<=·)
 nd:left.Nodup
 sub:∀ b∈left,b∈w0
 or_:acc++yO br left.length left=yO br w0.length w0
 le:acc.length+left.length<=60
theorem OrS.ext {br:Int->Int->Bool} {w0:List Int} {H0 H H':AH} {LF O:Nat} {left acc:List Int} (z:OrS br w0 H0 H LF O left acc) (e:Ext0 H H'):OrS br w0 H0 H' LF O left acc:=
 ⟨z.e.trans e,e _ _ z.l,e _ _ z.o,z.ne,z.so,z.nd,z.sub,z.or_,z.le⟩
section
variable {P:Nat->Option IFn} {n:Nat} {R:RM} {H H1:AH} {A:Ad} {s:St} {G L Y O:Nat} {w0:List Int} {a2 a5 a6:Option AV} {r:ISs}
theorem jX {Q:Fl->Loc->AH->Prop} {X:Nat->Loc->AH->Prop} (h61:P 61=some ir_61) (h60:P 60=some pB) (p:yB P) (x:Chest R H A s) (ok:s.Ok) (e:Ext0 H H1) (nY:H Y=.none) (kL:H1 L=some (.list (w0.map .int))) (kG:H1 G=some (.list ((zV s).map .int))) {ep:Nat} (kY:H1 Y=some (.dict [] ep)) (wsub:∀ b∈w0,b∈zV s) (wnd:w0.Nodup) (wl:w0.length<=60)
  (q:∀ a2 ya H',Ext0 H H'->H' L=some (.list (w0.map .int))->Yng H' Y w0 ya (xD s)->WSs (CN P (n+6)) r (mO A.c G a2 L Y a5 a6) H' Q X):WSs (CN P (n+6)) (.cons orS r) (mO A.c G a2 L Y a5 a6) H1 Q X:=by
 have nLY:=wh kL kY
 have nGY:=wh kG kY
 show WSs _ (.cons (.for _ _ _) _) _ _ _ _
 case k50=>exact zC kL ..
 let I198_:Nat->Loc->AH->Prop:=(λ i m' H'=>∃ (ya:Int->Nat) (a2:Option AV),m'=mO A.c G a2 L Y a5 a6/\Ext0 H H'/\H' L=some (.list (w0.map .int))/\H' G=some (.list ((zV s).map .int))/\Yng H' Y (w0.take i) ya (xD s))
 refine zH I198_ (λ i v m' H' J0 hJ0 K0 hK0 hv hI=>?_) (λ m' H' hI=>?_) ⟨λ z_=>0,_,rfl,e,kL,kG,⟨ep,kY⟩,by intro b hb;simp at hb⟩
 ·clear kL kG kY
  with_reducible refine ex2 (hI) λ ya a2 hx_=>an5 hx_ λ hr2_ eH kL kG yn=>?_;clear hx_;(try clear hI);subst hr2_
  with_reducible refine ex1 (yQ hv) λ b hx_=>an3 hx_ λ hb hr2_ hbm=>?_;clear hx_;subst hr2_
  obtain ⟨ep,kY⟩:=yn.y
  case k74=>skip
  refine ⟨kL,_,rfl,?_⟩
  case k50=>fail
  refine pW (n:=n+1) h61 h60 p (x.ext eH) ok (mem_lost.mp (wsub b hbm)).1 kG λ M H5 ms epM nM kM mm e5=>?_
  have nMY:=xT nM kY
  have kY:=e5 _ _ kY
  case k50=>exact kY ..
  case k74=>skip
  refine ⟨by rw [zK,List.length_take];unfold lid;lia,λ ep'=>?_⟩
  have tk:w0.take (i+1)=w0.take i++[b]:=by rw [List.take_add_one,hb];rfl
  have hbt:b∉w0.take i:=zu wnd hb
  case k74=>skip
  refine em2 (upd ya b M) _ ⟨rfl,(eH.trans e5).setNone nY,by rw [AH.set_ne _ _ nLY];exact e5 _ _ kL,by rw [AH.set_ne _ _ nGY];exact e5 _ _ kG,⟨ep',?_⟩,λ b' hb'=>?_⟩
  ·rw [AH.set_self,yN hbt,wL,tk]
  ·by_cases z:b'=b
   ·subst z
    rw [zG]
    case k74=>skip
    refine ⟨nMY,ms,epM,by rw [AH.set_ne _ _ nMY];exact kM,λ o=>?_⟩
    rw [Bool.eq_iff_iff,decide_eq_true_iff,belowB_iff,mm]
   ·rw [zM _ _ z]
    rw [tk] at hb'
    rcases List.mem_append.mp hb' with y | y
    ·obtain ⟨g1,ms',ep2,g2,g3⟩:=yn.k b' y
     case k74=>skip
     exact ⟨g1,ms',ep2,by rw [AH.set_ne _ _ g1];exact e5 _ _ g2,g3⟩
    ·exact absurd (List.mem_singleton.mp y) z
 with_reducible refine ex2 (hI) λ ya a2 hx_=>an5 hx_ λ hr2_ eB kL kG yn=>?_;clear hx_;(try clear hI);subst hr2_
 have yn:Yng H' Y (w0.take (w0.map AV.int).length) ya (xD s):=yn
 rw [List.length_map,List.take_length] at yn
 case k74=>skip
 exact ⟨kL,q _ _ _ eB kL yn⟩
theorem gy {J:Loc->AH->Prop} {K:AV->Loc->AH->Prop} {X:Nat->Loc->AH->Prop} (h62:P 62=some oY) {br:Int->Int->Bool} (brt:∀ a b c,br a b=true->br b c=true->br a c=true) {ya:Int->Nat} (yn:Yng H Y w0 ya br) (nO:H O=.none) {left acc:List Int} (z:OrS br w0 H H1 L O left acc) (hne:left≠[])
  (q:∀ N left' acc' L' a6 H',left.length=N+1->left'.length=N->OrS br w0 H H' L' O left' acc'->J (mO A.c G a2 L' Y (some (.ref O)) a6) H'):WSs (CN P (n+6)) orB (mO A.c G a2 L Y (some (.ref O)) a6) H1 (lq J K) X:=by
 have kL:=z.l
 have fe:=uN (br:=br) brt hne
 have le:=z.le
 show WSs _ (.cons (.asg _ _) (.cons (.ex _) (.cons (.asg _ _) .nil))) _ _ _ _
 case k50=>exact zC kL ..
 refine xB (m0:=mO A.c G a2 L Y (some (.ref O)) a6) (frB br left) (λ H' e=>e _ _ kL) (λ v=>rfl) (λ b hb H8 e Q hq=>?_) (λ b H8 Q hq=>?_) λ F H9 e9 nF k9=>?_
 ·have eb:=z.e.trans e
  have yb:=yn.ext eb
  obtain ⟨ep,kY⟩:=yb.y
  case k50=>fail
  refine pX (n:=n+5) h62 (br:=br) (l0:=w0) (left:=left) (ya:=ya) (e _ _ kL) kY (λ b hb=>(yb.k b hb).2) z.sub (z.sub b hb) ?_
  case k50=>fail
  refine iU ?_
  exact hq H8 (.refl _)
 ·case k50=>fail
  exact hq
 have z:=z.ext e9
 clear e9 nF kL
 have fso:(left.filter (frB br left)).Pairwise (·<=·):=z.so.filter _
 have fmem:∀ b∈left.filter (frB br left),b∈left:=λ b hb=>(List.mem_filter.mp hb).1
 have hlen:left.length≠0:=λ y=>hne (List.length_eq_zero_iff.mp y)
 obtain ⟨N,hN⟩:∃ N,left.length=N+1:=⟨left.length - 1,by lia⟩
 cases hfl:left.filter (frB br left) with
 | nil=>exact absurd hfl fe
 | cons b fr=>
  have hor':=z.or_
  rw [hN,uO hfl] at hor'
  rw [hfl] at fso fmem k9
  have hbl:=fmem b (.head _)
  have hmin:yU b fr=b:=r9 fr b (List.pairwise_cons.mp fso).1
  have kO:=z.o
  case k50=>(first | exact k9 .. | exact wJ .. | exact hmin .. | exact kO ..)
  have kO':(H9.set O (.list (acc.map AV.int++[.int b]))) O=some (.list ((acc++[b]).map .int)):=by rw [AH.set_self,List.map_append];rfl
  have kL:(H9.set O (.list (acc.map AV.int++[.int b]))) L=some (.list (left.map .int)):=by rw [AH.set_ne _ _ z.ne];exact z.l
  have e6:Ext0 H (H9.set O (.list (acc.map AV.int++[.int b]))):=z.e.setNone nO
  generalize H9.set O (.list (acc.map AV.int++[.int b]))=H10 at e6 kL kO' |-
  case k50=>exact zC kL ..
  refine xB (m0:=mO A.c G a2 L Y (some (.ref O)) (some (.int b))) (λ y=>!decide (y=b)) (λ H' e=>e _ _ kL) (λ v=>rfl) (λ y z_ H8 e Q hq=>?_) (λ y H8 Q hq=>?_) λ F' H11 e11 nF' kF'=>?_
  ·case k50=>fail
   exact hq H8 (.refl _)
  ·case k50=>fail
   exact hq
  have hfl2:(left.filter λ y=>!decide (y=b)).length=N:=by
   have hfe:left.filter (λ y=>!decide (y=b))=left.erase b:=by
    rw [z.nd.erase_eq_filter]
    exact List.filter_congr λ y z_=>by simp [bne,BEq.beq]
   rw [hfe,List.length_erase_of_mem hbl];lia
  have nO':=xT nF' kO'
  have kO':=e11 _ _ kO'
  case k50=>fail
  case k74=>skip
  exact q N (left.filter λ y=>!decide (y=b)) (acc++[b]) F' _ H11 hN hfl2 ⟨e6.trans e11,kF',kO',nO',z.so.filter _,z.nd.filter _,λ y hy=>z.sub y (List.mem_filter.mp hy).1,by rw [hfl2,<-hor',List.append_assoc];rfl,by rw [hfl2,List.length_append];simp only [List.length_singleton];lia⟩
end
section
variable {P:Nat->Option IFn} {n:Nat} {R:RM} {H:AH} {A:Ad} {s:St} {Q:AV->AH->Prop} {X:Nat->AH->Prop}
theorem jY (h63:P 63=some ir_63) (h62:P 62=some oY) (h61:P 61=some ir_61) (h60:P 60=some pB) (h56:P 56=some oX) (h42:P 42=some ir_42) (h41:P 41=some tj) (h40:P 40=some ti) (p:yB P) (x:Chest R H A s) (ok:s.Ok)
  (q:∀ (L:Nat) (H':AH),H L=.none->H' L=some (.list ((orderOf s).map .int))->Ext0 H H'->Q (.ref L) H'):CN P (n+7) 63 [.ref A.c] H Q X:=by
 have kl:=ok.kl
 have ll60:=Nat.le_trans (jW s) kl
 refine zR h63 rfl ?_
 intro C_ Q_ X_ m_
 show WSs _ (.cons _ (.cons _ (.cons _ (.cons orS (.cons _ (.cons (.while _ orB) _)))))) _ _ _ _
 case k50=>fail
 refine uM (n:=n) h56 h42 h41 h40 p x ok λ G H1 nG kG e1=>?_
 case k50=>exact zC kG ..
 refine xB (m0:=[some (.ref A.c),some (.ref G),.none,.none,.none,.none,.none,.none,.none,.none,.none,.none,.none,.none,.none]) (λ b=>!(s.willOf b).isEmpty) (λ H' e=>e _ _ kG) (λ v=>rfl) (λ b hb H' e Q hq=>?_) (λ b H' Q hq=>?_) λ L0 H3 e3 nL0 k3=>?_
 ·have xH:=(x.ext e1).ext e
  case k50=>(first | exact xH.c .. | exact xH.dx ..)
  refine uH (n:=n+4) p.h37 p.h21 xH (mem_lost.mp hb).1 λ a H3 na ka e3=>?_
  case k50=>fail
  intro E nE
  have e4:Ext0 H3 _:=Ext0.set (o:=.list []) nE
  have k4:(H3.set E (.list [])) E=some (.list []):=AH.set_self ..
  have ka:=e4 _ _ ka
  have e4:=e3.trans e4
  generalize H3.set E (.list [])=H4 at e4 k4 ka |-
  refine vd ka k4 (um _) ?_
  have ee:(!(((s.willOf b).map Deed.av)).isEmpty)=!(s.willOf b).isEmpty:=by simp
  rw [ee]
  case k50=>fail
  refine iU ?_
  exact hq H4 e4
 ·case k50=>fail
  exact hq
 have kG:=e3 _ _ kG
 have e3:=e1.trans e3
 have k3:H3 L0=some (.list ((wills s).map .int)):=k3
 clear e1 nL0
 have wsub:∀ b∈wills s,b∈zV s:=λ b hb=>(List.mem_filter.mp hb).1
 have wnd:(wills s).Nodup:=(vF ok).filter _
 have wso:(wills s).Pairwise (·<=·):=(rc s).filter _
 have wl:(wills s).length<=60:=Nat.le_trans (List.length_filter_le _ _) ll60
 have od:orderOf s=yO (xD s) (wills s).length (wills s):=rfl
 rw [od] at q
 generalize wills s=w0 at k3 wsub wnd wso wl q |-
 case k50=>fail
 intro Y epY nY
 have e4:Ext0 H3 _:=Ext0.set (o:=.dict [] epY) nY
 have k4:(H3.set Y (.dict [] epY)) Y=some (.dict [] epY):=AH.set_self ..
 have k3:=e4 _ _ k3
 have kG:=e4 _ _ kG
 have e4:=e3.trans e4
 have nY:=e3.back nY
 generalize H3.set Y (.dict [] epY)=H4 at e4 k4 k3 kG |-
 clear e3
 refine jX (n:=n) (a2:=.none) (a5:=.none) (a6:=.none) h61 h60 p x ok e4 nY k3 kG k4 wsub wnd wl λ a2 ya H5 eB k5 yn=>?_
 case k50=>fail
 intro O nO
 have e6:Ext0 H5 _:=Ext0.set (o:=.list []) nO
 have k6:(H5.set O (.list [])) O=some (.list []):=AH.set_self ..
 have nLO:L0≠O:=(xT nO k5).symm
 have k5:=e6 _ _ k5
 generalize H5.set O (.list [])=H6 at e6 k6 k5 |-
 have brt:=vQ s
 generalize xD s=br at yn q brt
 case k50=>fail
 let I345_:Nat->Loc->AH->Prop:=(λ k m' H6=>∃ (left acc:List Int) (LF:Nat) (a6:Option AV),k=left.length/\m'=mO A.c G a2 LF Y (some (.ref O)) a6/\OrS br w0 H5 H6 LF O left acc)
 refine xu I345_ (λ k m' H6 J0 hJ0 K0 hK0 hI=>?_) (k:=w0.length) ⟨w0,[],L0,_,rfl,rfl,e6,k5,k6,nLO,wso,wnd,λ b hb=>hb,rfl,by simpa using wl⟩
 clear e6 k6 k5
 with_reducible refine ex4 (hI) λ left acc LF a6 hx_=>an3 hx_ λ hr4_ hr5_ z=>?_;clear hx_;(try clear hI);subst hr4_;subst hr5_
 case k50=>fail
 intro E nE
 have e7:Ext0 H6 _:=Ext0.set (o:=.list []) nE
 have k7:(H6.set E (.list [])) E=some (.list []):=AH.set_self ..
 have z:=z.ext e7
 generalize H6.set E (.list [])=H7 at k7 z |-
 refine vd z.l k7 (ul _) ?_
 clear k7
 cases left with
 | nil=>
  case k50=>fail
  have hor:=z.or_
  have:acc=yO br w0.length w0:=by rw [<-hor];simp [yO]
  have kO:=z.o
  rw [this] at kO
  case k74=>skip
  exact q O H7 (eB.back nO) kO (eB.trans z.e)
 | cons c0 l1=>
  case k50=>fail
  refine gy (n:=n) h62 brt yn nO z (by simp) λ N left' acc' L' a6 H8 h1 h2 z8=>hJ0 _ _ ⟨N,by lia,left',acc',L',_,h2.symm,rfl,z8⟩
end

noncomputable def St.Wok (s:St):Prop:=∀ b∈s.ws,s.will b≠[]/\∀ d∈s.will b,d.good
set_option tactic.hygienic true in
theorem Wok.app {s:St} (h:s.Wok) {c:Cmd} (hc:s.can c):(s.app c).Wok:=by
 cases c with
 | bequeath b ds=>
  intro k hk
  replace hk:k∈delK s.ws b++(if ds=[] then [] else [b]):=hk
  show upd s.will b ds k≠[]/\∀ d∈upd s.will b ds k,d.good
  rcases List.mem_append.mp hk with z | z
  ·obtain ⟨z1,z2⟩:=mem_delK.mp z
   rw [zM _ _ z2]
   exact h k z1
  ·split at z
   ·cases z
   ·rename_i hne
    rw [List.mem_singleton.mp z,zG]
    case k74=>skip
    exact ⟨hne,hc.2.2⟩
 | make _=>exact h
 | put _ _ _ _=>exact h
 | empty _ _=>exact h
 | take _=>exact h
 | drop _=>exact h
 | pair _ _ _=>exact h
 | unpair _=>exact h

noncomputable def zS (s:St) (b:Int):Deed->St
 | .up=>{ s with hs:=addK s.hs b }
 | .down o=>if o∈s.hs then { s with hs:=delK s.hs o } else s
 | .hang o i h=>if o∈s.ks/\i < (s.row o).length then { s with row:=upd s.row o ((s.row o).set i.toNat (some (b,h))) } else s
noncomputable def yH (s:St) (b:Int) (ds:List Deed):St:=ds.foldl (λ s d=>zS s b d) s
noncomputable def doWill (s:St) (b:Int):St:=yH (s.bequeath b []) b (s.willOf b)

structure Kin (s t:St):Prop where
 ks:t.ks=s.ks
 ls:t.ls=s.ls
 link:t.link=s.link
 nb:t.nb=s.nb
 np:t.np=s.np
 rl:∀ k,(t.row k).length=(s.row k).length
theorem Kin.refl (s:St):Kin s s:=⟨rfl,rfl,rfl,rfl,rfl,λ z_=>rfl⟩
theorem Kin.trans {s t u:St} (a:Kin s t) (b:Kin t u):Kin s u:=⟨b.ks.trans a.ks,b.ls.trans a.ls,b.link.trans a.link,b.nb.trans a.nb,b.np.trans a.np,λ k=>(b.rl k).trans (a.rl k)⟩
theorem pY {s:St} (ok:s.Ok) {b:Int} {d:Deed} (hb:b∈s.ks) (hg:d.good):(zS s b d).Ok/\Kin s (zS s b d)/\(zS s b d).ws=s.ws/\(zS s b d).will=s.will:=by
 cases d with
 | up=>exact ⟨ok.app (c:=.take b) hb,⟨rfl,rfl,rfl,rfl,rfl,λ z_=>rfl⟩,rfl,rfl⟩
 | down o=>
  by_cases h:o∈s.hs
  ·have e:zS s b (.down o)={ s with hs:=delK s.hs o }:=if_pos h
   rw [e]
   case k74=>skip
   exact ⟨ok.app (c:=.drop o) ⟨ok.hk o h,h⟩,⟨rfl,rfl,rfl,rfl,rfl,λ z_=>rfl⟩,rfl,rfl⟩
  ·have e:zS s b (.down o)=s:=if_neg h
   rw [e]
   case k74=>skip
   exact ⟨ok,.refl _,rfl,rfl⟩
 | hang o i h=>
  by_cases hh:o∈s.ks/\i < (s.row o).length
  ·have e:zS s b (.hang o i h)={ s with row:=upd s.row o ((s.row o).set i.toNat (some (b,h))) }:=if_pos hh
   rw [e]
   case k74=>skip
   refine ⟨ok.app (c:=.put o i b h) ⟨hh.1,hg.2.1,hh.2,hb⟩,⟨rfl,rfl,rfl,rfl,rfl,λ k=>?_⟩,rfl,rfl⟩
   show (upd s.row o _ k).length=_
   by_cases e:k=o
   ·subst e;rw [zG,List.length_set]
   ·rw [zM _ _ e]
  ·have e:zS s b (.hang o i h)=s:=if_neg hh
   rw [e]
   case k74=>skip
   exact ⟨ok,.refl _,rfl,rfl⟩
theorem v4 (s:St) (b:Int):Kin s (s.bequeath b []):=⟨rfl,rfl,rfl,rfl,rfl,λ z_=>rfl⟩

section
variable {P:Nat->Option IFn} {n:Nat} {R:RM} {H:AH} {A:Ad} {s:St} {Q:AV->AH->Prop} {X:Nat->AH->Prop}

theorem pZ (h73:P 73=some ld) (p:yB P) (d:Dom R H) (x:Chest R H A s) (ok:s.Ok) {b:Int} (hb:b∈s.ks) {dd:Deed} (hg:dd.good)
  (q:∀ r H',Chest R H' A (zS s b dd)->Stp isCh R H R H'->Q r H'):CN P (n+4) 73 [.ref A.c,.int b,dd.av] H Q X:=by
 obtain ⟨l1,l2⟩:=ok.lens
 have kl:=ok.kl
 refine zR h73 rfl ?_
 intro C_ Q_ X_ m_
 cases dd with
 | up=>
  case k50=>(first | exact x.c .. | exact x.dx ..)
  exact mP (n:=n+1) p.h29 p.h21 d x hb (by unfold lid;lia) λ H' x' g=>q _ H' x' g
 | down o=>
  case k50=>(first | exact x.c .. | exact x.dx ..)
  refine vb (n:=n+2) p.h32 x (by lia) λ a H1 na ka e1=>?_
  have x1:=x.ext e1
  have g1:Stp isCh R H R H1:=.ext d e1
  by_cases ho:o∈s.hs
  ·have hz:=mem_sortI.mpr ho
   have q:∀ r H',Chest R H' A { s with hs:=delK s.hs o }->Stp isCh R H R H'->Q r H':=by
    have e:zS s b (.down o)={ s with hs:=delK s.hs o }:=if_pos ho
    rw [e] at q;exact q
   case k50=>(first | exact xi ka hz .. | exact x1.c .. | exact x1.dx ..)
   exact mQ (n:=n+1) p.h31 p.h21 g1.dom x1 (ok.hk o ho) ho λ H' x' g=>q _ H' x' (g1.trans g)
  ·have hz:o∉zA s.hs:=λ z=>ho (mem_sortI.mp z)
   have q:∀ r H',Chest R H' A s->Stp isCh R H R H'->Q r H':=by
    have e:zS s b (.down o)=s:=if_neg ho
    rw [e] at q;exact q
   case k50=>exact wf ka hz ..
   case k74=>skip
   exact q _ H1 x1 g1
 | hang o i h=>
  case k50=>(first | exact x.c .. | exact x.dx ..)
  refine y5 (n:=n+2) p.h24 x (by lia) λ a H1 na ka e1=>?_
  have x1:=x.ext e1
  have g1:Stp isCh R H R H1:=.ext d e1
  by_cases ho:o∈s.ks
  ·have hz:=mem_sortI.mpr ho
   case k50=>(first | exact xi ka hz .. | exact x1.c .. | exact x1.dx ..)
   refine wK (n:=n+1) p.h25 p.h21 x1 ho ?_
   by_cases hi:i < (s.row o).length
   ·have hd:decide (i < ((s.row o).length:Int))=true:=decide_eq_true hi
    have q:∀ r H',Chest R H' A { s with row:=upd s.row o ((s.row o).set i.toNat (some (b,h))) }->Stp isCh R H R H'->Q r H':=by
     have e:zS s b (.hang o i h)={ s with row:=upd s.row o ((s.row o).set i.toNat (some (b,h))) }:=if_pos ⟨ho,hi⟩
     rw [e] at q;exact q
    case k50=>(first | exact hd .. | exact x1.c .. | exact x1.dx ..)
    exact iT (n:=n) p.h26 p.h21 p.h22 g1.dom x1 ho hg.2.1 hi hb λ H' x' g=>q _ H' x' (g1.trans g)
   ·have hd:decide (i < ((s.row o).length:Int))=false:=decide_eq_false hi
    have q:∀ r H',Chest R H' A s->Stp isCh R H R H'->Q r H':=by
     have e:zS s b (.hang o i h)=s:=if_neg λ z=>hi z.2
     rw [e] at q;exact q
    case k50=>exact hd ..
    case k74=>skip
    exact q _ H1 x1 g1
  ·have hz:o∉zA s.ks:=λ z=>ho (mem_sortI.mp z)
   have q:∀ r H',Chest R H' A s->Stp isCh R H R H'->Q r H':=by
    have e:zS s b (.hang o i h)=s:=if_neg λ z=>ho z.1
    rw [e] at q;exact q
   case k50=>exact wf ka hz ..
   case k74=>skip
   exact q _ H1 x1 g1

theorem uo {s:St} (ok:s.Ok) {b:Int} (hb:b∈s.ks):∀ {ds:List Deed},(∀ d∈ds,d.good)->(yH s b ds).Ok/\Kin s (yH s b ds)/\(yH s b ds).ws=s.ws/\(yH s b ds).will=s.will:=by
 intro ds
 induction ds generalizing s with
 | nil=>intro _;exact ⟨ok,.refl _,rfl,rfl⟩
 | cons d r ih=>
  intro hg
  obtain ⟨o1,k1,w1,l1⟩:=pY ok hb (hg d (.head _))
  obtain ⟨o2,k2,w2,l2⟩:=ih o1 (by rw [k1.ks];exact hb) (λ e he=>hg e (.tail _ he))
  case k74=>skip
  exact ⟨o2,k1.trans k2,w2.trans w1,l2.trans l1⟩
theorem xj {s:St} (ok:s.Ok) {b:Int} (hb:b∈s.ks):(s.bequeath b []).Ok:=ok.app (c:=.bequeath b []) ⟨hb,by simp,by intro e he;cases he⟩
set_option tactic.hygienic true in
theorem yI {s:St} (w:s.Wok) (b:Int):∀ d∈s.willOf b,d.good:=by
 unfold St.willOf
 split
 ·rename_i h;exact (w b h).2
 ·intro d hd;cases hd
theorem xk {s:St} (ok:s.Ok) (w:s.Wok) {b:Int} (hb:b∈s.ks):(doWill s b).Ok/\(doWill s b).Wok/\Kin s (doWill s b)/\(doWill s b).ws=delK s.ws b/\(∀ k,k≠b->(doWill s b).will k=s.will k):=by
 obtain ⟨o1,k1,w1,l1⟩:=uo (xj ok hb) (b:=b) hb (yI w b)
 have ew:(doWill s b).ws=delK s.ws b:=w1.trans (by show delK s.ws b++[]=_;rw [List.append_nil])
 have el:∀ k,k≠b->(doWill s b).will k=s.will k:=λ k hk=>by
  show (yH (s.bequeath b []) b (s.willOf b)).will k=_
  rw [l1]
  show upd s.will b [] k=_
  rw [zM _ _ hk]
 case k74=>skip
 refine ⟨o1,λ k hk=>?_,(v4 s b).trans k1,ew,el⟩
 rw [ew] at hk
 obtain ⟨h1,h2⟩:=mem_delK.mp hk
 rw [el k h2]
 exact w k h1

theorem p6 (h74:P 74=some gA) (h73:P 73=some ld) (p:yB P) (d:Dom R H) (x:Chest R H A s) (ok:s.Ok) (w:s.Wok) {b:Int} (hb:b∈s.ks)
  (q:∀ r R' H' A',A'.c=A.c->Chest R' H' A' (doWill s b)->Stp isCh R H R' H'->Q r H'):CN P (n+5) 74 [.ref A.c,.int b] H Q X:=by
 obtain ⟨l1,l2⟩:=ok.lens
 refine zR h74 rfl ?_
 intro C_ Q_ X_ m_
 case k50=>(first | exact x.c .. | exact x.dx ..)
 refine uH (n:=n+2) p.h37 p.h21 x hb λ a H1 na ka e1=>?_
 have x1:=x.ext e1
 have d1:=d.ext e1
 have ra:=d.free na
 case k50=>(first | exact x1.c .. | exact x1.dx ..)
 intro D nD
 have e2:Ext0 H1 _:=Ext0.set (o:=.list []) nD
 have k2:(H1.set D (.list [])) D=some (.list []):=AH.set_self ..
 have rD:=d1.free nD
 have x2:=x1.ext e2
 have ka:=e2 _ _ ka
 have e2:=e1.trans e2
 have d2:=d.ext e2
 generalize H1.set D (.list [])=H2 at x2 ka e2 d2 k2 |-
 case k50=>(first | exact x2.c .. | exact x2.dx ..)
 refine uG (n:=n+2) p.h36 p.h21 d2 x2 (D:=D) (ds:=[]) hb k2 rD (by simp) (by intro e he;cases he) (by lia) λ R3 H3 A3 eA x3 g3=>?_
 have ra3:R3 a=.none:=(g3.role a (by rw [ka];simp)).trans ra
 have ka:=g3.keep _ _ ka (λ t k hr=>by rw [ra] at hr;cases hr)
 have g3:Stp isCh R H R3 H3:=(Stp.ext d e2).trans g3
 have hb3:b∈(s.bequeath b []).ks:=hb
 have ok3:=xj ok hb
 have wg:=yI w b
 case k50=>exact zC ka ..
 let I199_:Nat->Loc->AH->Prop:=(λ i m' H'=>∃ (a3:Option AV),m'=[some (.ref A3.c),some (.int b),some (.ref a),a3,.none,.none,.none,.none,.none,.none,.none,.none]/\H' a=some (.list ((s.willOf b).map Deed.av))/\Stp isCh R H R3 H'/\Chest R3 H' A3 (yH (s.bequeath b []) b ((s.willOf b).take i)))
 refine zH I199_ (λ i v m' H' J0 hJ0 K0 hK0 hv hI=>?_) (λ m' H' hI=>?_) ⟨_,by rw [eA];rfl,ka,g3,x3⟩
 ·with_reducible refine ex1 (hI) λ a3 hx_=>an4 hx_ λ hr1_ ka g xH=>?_;clear hx_;(try clear hI);subst hr1_
  have hv:((s.willOf b).map Deed.av)[i]?=some v:=hv
  rw [List.getElem?_map] at hv
  with_reducible refine ex1 (Option.map_eq_some_iff.mp hv) λ dd hx_=>an2 hx_ λ hdd hr2_=>?_;clear hx_;subst hr2_
  have hdm:=List.mem_of_getElem? hdd
  obtain ⟨oi,ki,-,-⟩:=uo ok3 hb3 (ds:=(s.willOf b).take i) (λ e he=>wg e (List.mem_of_mem_take he))
  case k74=>skip
  refine ⟨ka,_,rfl,?_⟩
  case k50=>fail
  refine pZ (n:=n) h73 p g.dom xH oi (by rw [ki.ks];exact hb3) (wg dd hdm) λ r H'' x' g'=>?_
  case k74=>skip
  refine ⟨_,rfl,g'.keep _ _ ka (λ t k hr=>by rw [ra3] at hr;cases hr),g.trans g',?_⟩
  have:(s.willOf b).take (i+1)=(s.willOf b).take i++[dd]:=by rw [List.take_add_one,hdd];rfl
  rw [this]
  unfold yH
  rw [List.foldl_append]
  exact x'
 ·with_reducible refine ex1 (hI) λ a3 hx_=>an4 hx_ λ hr1_ ka g xH=>?_;clear hx_;(try clear hI);subst hr1_
  case k74=>skip
  refine ⟨ka,?_⟩
  have xH:Chest R3 H' A3 (yH (s.bequeath b []) b ((s.willOf b).take ((s.willOf b).map Deed.av).length)):=xH
  rw [List.length_map,List.take_length] at xH
  case k50=>fail
  case k74=>skip
  exact q _ R3 H' A3 eA xH g
end

structure St.Eqv (s t:St):Prop where
 ks:t.ks=s.ks
 hs:t.hs=s.hs
 ls:t.ls=s.ls
 ws:t.ws=s.ws
 nb:t.nb=s.nb
 np:t.np=s.np
 row:∀ k∈s.ks,t.row k=s.row k
 link:∀ k∈s.ls,t.link k=s.link k
 will:∀ k∈s.ws,t.will k=s.will k
theorem Chest.congr {R:RM} {H:AH} {A:Ad} {s t:St} (x:Chest R H A s) (e:s.Eqv t):Chest R H A t:=by
 obtain ⟨el,hl⟩:=x.l
 case k74=>skip
 refine ⟨x.c,by rw [e.nb,e.np];exact x.dx,by rw [e.ks];exact x.r,by rw [e.hs];exact x.h,⟨el,?_⟩,by rw [e.ws];exact x.w,λ k hk=>?_,λ k hk=>?_,x.Rc,x.Rdx,x.Rr,x.Rh,x.Rl,x.Rw,λ k hk=>?_,λ k hk=>?_⟩
 ·rw [e.ls,hl]
  congr 2
  exact xg λ k hk=>by rw [e.link k hk]
 ·rw [e.ks] at hk;rw [e.row k hk];exact x.row k hk
 ·rw [e.ws] at hk;rw [e.will k hk];exact x.will k hk
 ·rw [e.ks] at hk;exact x.Rrow k hk
 ·rw [e.ws] at hk;exact x.Rwill k hk

noncomputable def badL (s:St) (gone:List Int) (k:Int):Bool:=decide ((s.link k).1∈gone)||(decide ((s.link k).2.1∈gone)||decide ((s.link k).2.2∈gone))
noncomputable def clr (gone:List Int):Slot->Slot
 | some (o,h)=>if o∈gone then .none else some (o,h)
 | .none=>.none
noncomputable def giveUp (s:St) (gone:List Int):St:=
 { s with ls:=s.ls.filter (λ k=>!badL s gone k),row:=λ k=>if k∈s.ks then (s.row k).map (clr gone) else s.row k,ks:=s.ks.filter λ k=>!decide (k∈gone) }

theorem jZ {l:List Slot} {f:Slot->Slot} {j:Nat} {v:Slot} (h:l[j]?=some v):((l.take j).map f++l.drop j)[j]?=some v/\(l.take (j+1)).map f++l.drop (j+1)=((l.take j).map f++l.drop j).set j (f v):=by
 have hj:=(List.getElem?_eq_some_iff.mp h).1
 have e1:l.drop j=v::l.drop (j+1):=by
  rw [List.drop_eq_getElem_cons hj]
  rw [(List.getElem?_eq_some_iff.mp h).2]
 have hl:((l.take j).map f).length=j:=by simp;lia
 have e2:l.take (j+1)=l.take j++[v]:=by rw [List.take_add_one,h];rfl
 constructor
 ·rw [List.getElem?_append_right (by lia),hl,Nat.sub_self,e1];rfl
 ·rw [List.set_append_right _ _ (by lia),hl,Nat.sub_self,e1,e2,List.map_append,List.append_assoc];rfl
theorem j4 {l:List Slot} {j:Nat} {v:Slot} (h:l[j]?=some v):l.set j v=l:=by
 have hj:=(List.getElem?_eq_some_iff.mp h).1
 have:=(List.getElem?_eq_some_iff.mp h).2
 rw [<-this]
 exact List.set_getElem_self hj

noncomputable def rowU (s:St) (b:Int) (l:List Slot):St:={ s with row:=upd s.row b l }
noncomputable def gvL (s:St) (gone l:List Int) (i:Nat):St:={ s with ls:=s.ls.filter λ k=>!(decide (k∈l.take i)&&badL s gone k) }
noncomputable def gvP (s:St) (gone:List Int):St:={ s with ls:=s.ls.filter λ k=>!badL s gone k }
noncomputable def gvB (s:St) (gone l:List Int) (i:Nat):St:={ s with row:=λ k=>if k∈l.take i then (s.row k).map (clr gone) else s.row k }
noncomputable def gvQ (s:St) (gone:List Int):St:={ s with row:=λ k=>if k∈s.ks then (s.row k).map (clr gone) else s.row k }
noncomputable def gvK (s:St) (gone:List Int) (i:Nat):St:={ s with ks:=s.ks.filter λ k=>!decide (k∈gone.take i) }
theorem ur {l:List Int} {f g:Int->Bool} {k:Int} (h:∀ y∈l,g y=(f y&&!decide (y=k))):l.filter g=delK (l.filter f) k:=by
 unfold delK
 rw [List.filter_filter]
 exact List.filter_congr λ y hy=>by rw [h y hy,Bool.and_comm]
theorem gz {s:St} {gone l:List Int} {i:Nat} {k:Int} (hk:l[i]?=some k) (hb:badL s gone k=true):({ gvL s gone l i with ls:=delK (gvL s gone l i).ls k }:St).Eqv (gvL s gone l (i+1)):=
 ⟨rfl,rfl,ur λ y hy=>by
  by_cases z:y=k
  ·subst z;simp [zO hk,hb]
  ·simp [zO hk,z],rfl,rfl,rfl,λ z_ z_=>rfl,λ z_ z_=>rfl,λ z_ z_=>rfl⟩
theorem dE {s:St} {gone l:List Int} {i:Nat} {k:Int} (hk:l[i]?=some k) (hb:badL s gone k=false):(gvL s gone l i).Eqv (gvL s gone l (i+1)):=
 ⟨rfl,rfl,List.filter_congr λ y hy=>by
  by_cases z:y=k
  ·subst z;simp [hb]
  ·simp [zO hk,z],rfl,rfl,rfl,λ z_ z_=>rfl,λ z_ z_=>rfl,λ z_ z_=>rfl⟩
theorem gvL_0 (s:St) (gone l:List Int):s.Eqv (gvL s gone l 0):=⟨rfl,rfl,List.filter_eq_self.mpr λ y z_=>by simp,rfl,rfl,rfl,λ z_ z_=>rfl,λ z_ z_=>rfl,λ z_ z_=>rfl⟩
theorem fA {s:St} {gone l:List Int} (h:∀ k∈s.ls,k∈l):(gvL s gone l l.length).Eqv (gvP s gone):=
 ⟨rfl,rfl,(List.filter_congr λ y hy=>by rw [List.take_length,decide_eq_true (h y hy)];rfl).symm,rfl,rfl,rfl,λ z_ z_=>rfl,λ z_ z_=>rfl,λ z_ z_=>rfl⟩
theorem gvB_0 (s:St) (gone l:List Int):s.Eqv (gvB s gone l 0):=⟨rfl,rfl,rfl,rfl,rfl,rfl,λ z_ z_=>rfl,λ z_ z_=>rfl,λ z_ z_=>rfl⟩
theorem fB {s:St} {gone l:List Int} {i:Nat} {b:Int} (hb:l[i]?=some b):(rowU (gvB s gone l i) b ((s.row b).map (clr gone))).Eqv (gvB s gone l (i+1)):=
 ⟨rfl,rfl,rfl,rfl,rfl,rfl,λ k z_=>by
  show (if k∈l.take (i+1) then _ else _)=upd (λ y=>if y∈l.take i then _ else _) b _ k
  by_cases z:k=b
  ·subst z;rw [zG,if_pos ((zO hb).mpr (.inr rfl))]
  ·rw [zM _ _ z];simp [zO hb,z],λ z_ z_=>rfl,λ z_ z_=>rfl⟩
theorem fD {s:St} {gone l:List Int} (h:∀ k∈s.ks,k∈l):(gvB s gone l l.length).Eqv (gvQ s gone):=
 ⟨rfl,rfl,rfl,rfl,rfl,rfl,λ k hk=>by
  have hk:k∈s.ks:=hk
  show (if k∈s.ks then _ else _)=if k∈l.take l.length then _ else _
  rw [List.take_length,if_pos hk,if_pos (h k hk)],λ z_ z_=>rfl,λ z_ z_=>rfl⟩
theorem fE {s:St} {gone:List Int} {i:Nat} {b:Int} (hb:gone[i]?=some b):({ gvK s gone i with ks:=delK (gvK s gone i).ks b }:St).Eqv (gvK s gone (i+1)):=
 ⟨ur λ y hy=>by
  by_cases z:y=b
  ·subst z;simp [zO hb]
  ·simp [zO hb,z],rfl,rfl,rfl,rfl,rfl,λ z_ z_=>rfl,λ z_ z_=>rfl,λ z_ z_=>rfl⟩
theorem gvK_0 (s:St) (gone:List Int):s.Eqv (gvK s gone 0):=⟨List.filter_eq_self.mpr λ y z_=>by simp,rfl,rfl,rfl,rfl,rfl,λ z_ z_=>rfl,λ z_ z_=>rfl,λ z_ z_=>rfl⟩
noncomputable def mG (c G:Nat) (a2 a3 a4 a5 a6 a7 a8:Option AV):Loc:=[some (.ref c),some (.ref G),a2,a3,a4,a5,a6,a7,a8,.none,.none,.none,.none,.none,.none,.none,.none]
noncomputable def rowH (s:St) (gone:List Int) (b:Int) (j:Nat):St:=rowU s b (((s.row b).take j).map (clr gone)++(s.row b).drop j)

structure Fr (R:RM) (H:AH) (D:Nat) (o:AO):Prop where
 h:H D=some o
 r:R D=.none
theorem Fr.ext {R:RM} {H H':AH} {D:Nat} {o:AO} (x:Fr R H D o) (e:Ext0 H H'):Fr R H' D o:=⟨e _ _ x.h,x.r⟩
theorem Fr.stp {p:Nat->Prop} {R R':RM} {H H':AH} {D:Nat} {o:AO} (x:Fr R H D o) (g:Stp p R H R' H'):Fr R' H' D o:=
 ⟨g.keep D o x.h (λ t k hr=>by rw [x.r] at hr;cases hr),(g.role D (by rw [x.h];simp)).trans x.r⟩
section
variable {P:Nat->Option IFn} {n:Nat} {R:RM} {H:AH} {A:Ad} {s:St} {G:Nat} {gone:List Int} {r:ISs} {Q:Fl->Loc->AH->Prop} {X:Nat->Loc->AH->Prop} {a2 a3 a4 a5 a6 a7 a8:Option AV}
theorem j5 (p:yB P) (d:Dom R H) (x:Chest R H A s) {b:Int} (hb:b∈s.ks) (rl:(s.row b).length<=9) (f:Fr R H G (.list (gone.map .int)))
  (q:∀ a7 a8 H',Chest R H' A (rowU s b ((s.row b).map (clr gone)))->Stp isCh R H R H'->WSs (CN P (n+3)) r (mG A.c G a2 a3 a4 a5 (some (.int b)) a7 a8) H' Q X) :
  WSs (CN P (n+3)) (.cons (.for (.one 7) (.range (.ci 0) (.meth (.var 0) 25 (.cons (.var 6) .nil))) (.cons (.asg 8 (.meth (.var 0) 28 (.cons (.var 6) (.cons (.var 7) .nil)))) (.cons (.ite (.and (.cons (.val (.cmp .isNot (.var 8) .cn)) (.cons (.val (.cmp .isIn (.idx (.var 8) (.ci 0)) (.var 1))) .nil))) (.cons (.ex (.meth (.var 0) 27 (.cons (.var 6) (.cons (.var 7) .nil)))) .nil) .nil) .nil))) r) (mG A.c G a2 a3 a4 a5 (some (.int b)) a7 a8) H Q X:=by
 case k50=>(first | exact x.c .. | exact x.dx ..)
 refine wK (n:=n+1) p.h25 p.h21 x hb ?_
 case k50=>fail
 let I111_:Nat->Loc->AH->Prop:=(λ j m' H'=>∃ (a7 a8:Option AV),m'=mG A.c G a2 a3 a4 a5 (some (.int b)) a7 a8/\Stp isCh R H R H'/\Chest R H' A (rowH s gone b j))
 refine zH I111_ (λ j v m' H' J0 hJ0 K0 hK0 hv hI=>?_) (λ m' H' hI=>?_) ⟨_,_,rfl,.refl d,x.congr ⟨rfl,rfl,rfl,rfl,rfl,rfl,λ k z_=>?_,λ z_ z_=>rfl,λ z_ z_=>rfl⟩⟩
 ·clear x
  with_reducible refine ex2 (hI) λ a7 a8 hx_=>an3 hx_ λ hr2_ g x=>?_;clear hx_;(try clear hI);subst hr2_
  obtain ⟨hj,rfl⟩:=xb hv
  have hj:j < (s.row b).length:=by lia
  have ej:(0+(j:Int)).toNat=j:=by lia
  obtain ⟨hs1,hs2⟩:=jZ (f:=clr gone) (List.getElem?_eq_getElem hj)
  generalize (s.row b)[j]=vj at hs1 hs2
  have hr:(rowH s gone b j).row b=((s.row b).take j).map (clr gone)++(s.row b).drop j:=zG ..
  have f:=f.stp g
  case k74=>skip
  refine ⟨trivial,_,rfl,?_⟩
  case k50=>(first | exact x.c .. | exact x.dx ..)
  refine uF (n:=n) (v:=vj) p.h28 p.h21 p.h22 x hb (by lia) (by rw [ej,hr];exact hs1) ?_
  have keepit:clr gone vj=vj->Chest R H' A (rowH s gone b (j+1)):=λ e=>by
   unfold rowH
   rw [hs2,e,j4 hs1];exact x
  cases vj with
  | none=>
   case k50=>fail
   case k74=>skip
   exact em2 _ _ ⟨rfl,g,keepit rfl⟩
  | some oh=>
   obtain ⟨o,h⟩:=oh
   by_cases ho:o∈gone
   ·case k50=>(first | exact xi f.h ho .. | exact x.c .. | exact x.dx ..)
    refine qe (n:=n) (i:=0+(j:Int)) p.h27 p.h21 p.h22 g.dom x hb (by lia) (by rw [hr];have:=(List.getElem?_eq_some_iff.mp hs1).1;lia) λ H3 x3 g3=>?_
    case k74=>skip
    refine em2 _ _ ⟨rfl,g.trans g3,x3.congr ⟨rfl,rfl,rfl,rfl,rfl,rfl,λ k z_=>?_,λ z_ z_=>rfl,λ z_ z_=>rfl⟩⟩
    have ec:clr gone (some (o,h))=.none:=if_pos ho
    rw [ec] at hs2
    show upd s.row b _ k=upd (upd s.row b _) b _ k
    by_cases z:k=b
    ·rw [z,zG,zG,hr,ej,hs2]
    ·rw [zM _ _ z,zM _ _ z,zM _ _ z]
   ·case k50=>exact wf f.h ho ..
    case k74=>skip
    exact em2 _ _ ⟨rfl,g,keepit (if_neg ho)⟩
 ·clear x
  with_reducible refine ex2 (hI) λ a7 a8 hx_=>an3 hx_ λ hr2_ g x=>?_;clear hx_;(try clear hI);subst hr2_
  case k74=>skip
  refine ⟨trivial,?_⟩
  have hlen:(zJ 0 ((s.row b).length:Int)).length=(s.row b).length:=by simp [zJ]
  have x:Chest R H' A (rowU s b (((s.row b).take (zJ 0 ((s.row b).length:Int)).length).map (clr gone)++(s.row b).drop (zJ 0 ((s.row b).length:Int)).length)):=x
  rw [hlen,List.take_length,List.drop_length,List.append_nil] at x
  case k74=>skip
  exact q _ _ H' x g
 ·show upd s.row b _ k=s.row k
  by_cases z:k=b
  ·rw [z,zG];rfl
  ·rw [zM _ _ z]
end
section
variable {P:Nat->Option IFn} {n:Nat} {R:RM} {H:AH} {A:Ad} {s:St} {Q:AV->AH->Prop} {X:Nat->AH->Prop}
theorem p7 (h75:P 75=some gB) (p:yB P) (d:Dom R H) (x:Chest R H A s) (ok:s.Ok) {G:Nat} {gone:List Int} (kG:H G=some (.list (gone.map .int))) (rG:R G=.none) (gs:∀ b∈gone,b∈s.ks) (gn:gone.Nodup)
  (q:∀ r H',Chest R H' A (giveUp s gone)->Stp isCh R H R H'->Q r H'):CN P (n+4) 75 [.ref A.c,.ref G] H Q X:=by
 have ll:=ok.ll
 have kl:=ok.kl
 have f:Fr R H G _:=⟨kG,rG⟩
 clear kG rG
 refine zR h75 rfl ?_
 intro C_ Q_ X_ m_
 case k50=>(first | exact x.c .. | exact x.dx ..)
 refine w8 (n:=n+2) p.h35 x (by lia) λ Lp H1 nLp kp e1=>?_
 have fL:Fr R H1 Lp _:=⟨kp,d.free nLp⟩
 have x1:=x.ext e1
 have g1:Stp isCh R H R H1:=.ext d e1
 clear e1 nLp x
 case k50=>exact zC kp ..
 let I173_:Nat->Loc->AH->Prop:=(λ i m' H'=>∃ (a2 a3 a4 a5:Option AV),m'=mG A.c G a2 a3 a4 a5 .none .none .none/\Fr R H' Lp (.list ((zA s.ls).map (yW s)))/\Stp isCh R H R H'/\Chest R H' A (gvL s gone (zA s.ls) i))
 refine zH I173_ (λ i v m' H' J0 hJ0 K0 hK0 hv hI=>?_) (λ m' H' hI=>?_) ⟨_,_,_,_,rfl,fL,g1,x1.congr (gvL_0 ..)⟩
 ·clear x1 g1 fL kp
  with_reducible refine ex4 (hI) λ a2 a3 a4 a5 hx_=>an4 hx_ λ hr4_ fL g x=>?_;clear hx_;(try clear hI);subst hr4_
  have hv:((zA s.ls).map (yW s))[i]?=some v:=hv
  rw [List.getElem?_map] at hv
  with_reducible refine ex1 (Option.map_eq_some_iff.mp hv) λ k hx_=>an2 hx_ λ hk hr2_=>?_;clear hx_;subst hr2_
  have hkm:=mem_sortI.mp (List.mem_of_getElem? hk)
  have hnt:=zu (zF ok.lu) hk
  have f:=f.stp g
  case k74=>skip
  refine ⟨fL.h,_,rfl,?_⟩
  case k50=>exact xx _ f.h ..
  refine zf (b:=badL s gone k) (λ hb=>?_) (λ hb=>?_)
  ·case k50=>(first | exact x.c .. | exact x.dx ..)
   refine sV (n:=n+2) p.h34 g.dom x (List.mem_filter.mpr ⟨hkm,by simp [hnt]⟩) λ H2 x2 g2=>?_
   case k74=>skip
   exact em4 _ _ _ _ ⟨rfl,fL.stp g2,g.trans g2,x2.congr (gz hk hb)⟩
  ·case k50=>fail
   case k74=>skip
   exact em4 _ _ _ _ ⟨rfl,fL,g,x.congr (dE hk hb)⟩
 clear x1 g1 fL kp
 with_reducible refine ex4 (hI) λ a2 a3 a4 a5 hx_=>an4 hx_ λ hr4_ fL g x=>?_;clear hx_;(try clear hI);subst hr4_
 case k74=>skip
 refine ⟨fL.h,?_⟩
 have x:Chest R H' A (gvL s gone (zA s.ls) ((zA s.ls).map (yW s)).length):=x
 rw [List.length_map] at x
 have x:=x.congr (fA λ k hk=>mem_sortI.mpr hk)
 clear fL
 have ru:∀ k∈(gvP s gone).ks,((gvP s gone).row k).length<=9:=ok.rl
 have ku:(gvP s gone).ks.Nodup:=ok.ku
 have gs:∀ b∈gone,b∈(gvP s gone).ks:=gs
 have kl:(gvP s gone).ks.length<=60:=kl
 have q:∀ r H',Chest R H' A ({ gvQ (gvP s gone) gone with ks:=(gvP s gone).ks.filter λ k=>!decide (k∈gone) }:St)->Stp isCh R H R H'->Q r H':=q
 generalize gvP s gone=u at x ru ku gs kl q
 case k50=>(first | exact x.c .. | exact x.dx ..)
 refine y5 (n:=n+2) p.h24 x (by lia) λ Lb H2 nLb kb e2=>?_
 have fL:Fr R H2 Lb _:=⟨kb,g.dom.free nLb⟩
 have x2:=x.ext e2
 have g2:=g.trans (Stp.ext g.dom e2)
 clear e2 nLb x g
 case k50=>exact zC kb ..
 let I210_:Nat->Loc->AH->Prop:=(λ i m' H'=>∃ (a6 a7 a8:Option AV),m'=mG A.c G a2 a3 a4 a5 a6 a7 a8/\Fr R H' Lb (.list ((zA u.ks).map .int))/\Stp isCh R H R H'/\Chest R H' A (gvB u gone (zA u.ks) i))
 refine zH I210_ (λ i v m' H' J0 hJ0 K0 hK0 hv hI=>?_) (λ m' H' hI=>?_) ⟨_,_,_,rfl,fL,g2,x2.congr (gvB_0 ..)⟩
 ·clear x2 g2 fL kb
  with_reducible refine ex3 (hI) λ a6 a7 a8 hx_=>an4 hx_ λ hr3_ fL g x=>?_;clear hx_;(try clear hI);subst hr3_
  have hv:((zA u.ks).map AV.int)[i]?=some v:=hv
  rw [List.getElem?_map] at hv
  with_reducible refine ex1 (Option.map_eq_some_iff.mp hv) λ b hx_=>an2 hx_ λ hb hr2_=>?_;clear hx_;subst hr2_
  have hbm:=mem_sortI.mp (List.mem_of_getElem? hb)
  have hrow:(gvB u gone (zA u.ks) i).row b=u.row b:=if_neg (zu (zF ku) hb)
  case k74=>skip
  refine ⟨fL.h,_,rfl,?_⟩
  refine j5 p g.dom x hbm (by rw [hrow];exact ru b hbm) (f.stp g) λ a7 a8 H3 x3 g3=>?_
  rw [hrow] at x3
  case k50=>fail
  case k74=>skip
  exact em3 _ _ _ ⟨rfl,fL.stp g3,g.trans g3,x3.congr (fB hb)⟩
 clear x2 g2 fL kb
 with_reducible refine ex3 (hI) λ a6 a7 a8 hx_=>an4 hx_ λ hr3_ fL g x=>?_;clear hx_;(try clear hI);subst hr3_
 case k74=>skip
 refine ⟨fL.h,?_⟩
 have x:Chest R H' A (gvB u gone (zA u.ks) ((zA u.ks).map AV.int).length):=x
 rw [List.length_map] at x
 have x:=x.congr (fD λ k hk=>mem_sortI.mpr hk)
 have gs:∀ b∈gone,b∈(gvQ u gone).ks:=gs
 have q:∀ r H',Chest R H' A ({ gvQ u gone with ks:=(gvQ u gone).ks.filter λ k=>!decide (k∈gone) }:St)->Stp isCh R H R H'->Q r H':=q
 generalize gvQ u gone=w at x gs q
 clear fL ru ku kl
 have f1:=f.stp g
 case k50=>exact zC f1.h ..
 let I235_:Nat->Loc->AH->Prop:=(λ i m' H'=>∃ (a6:Option AV),m'=mG A.c G a2 a3 a4 a5 a6 a7 a8/\Stp isCh R H R H'/\Chest R H' A (gvK w gone i))
 refine zH I235_ (λ i v m' H' J0 hJ0 K0 hK0 hv hI=>?_) (λ m' H' hI=>?_) ⟨_,rfl,g,x.congr (gvK_0 ..)⟩
 ·clear x g f1
  with_reducible refine ex1 (hI) λ a6 hx_=>an3 hx_ λ hr1_ g x=>?_;clear hx_;(try clear hI);subst hr1_
  have hv:(gone.map AV.int)[i]?=some v:=hv
  rw [List.getElem?_map] at hv
  with_reducible refine ex1 (Option.map_eq_some_iff.mp hv) λ b hx_=>an2 hx_ λ hb hr2_=>?_;clear hx_;subst hr2_
  have hbk:b∈(gvK w gone i).ks:=List.mem_filter.mpr ⟨gs b (List.mem_of_getElem? hb),by simp [zu gn hb]⟩
  obtain ⟨er,hr⟩:=x.r
  case k74=>skip
  refine ⟨(f.stp g).h,_,rfl,?_⟩
  case k50=>(first | exact x.c .. | exact x.dx .. | exact hr .. | exact zY hbk ..)
  intro ep
  rw [v9]
  have x3:=x.setR (R':=R) (λ z_ z_ z_=>rfl) (delK (gvK w gone i).ks b) (gvK w gone i).row A.ra ep (λ k hk=>⟨x.row k (mem_delK.mp hk).1,x.Rrow k (mem_delK.mp hk).1⟩)
  case k74=>skip
  exact ⟨_,rfl,g.trans (.set g.dom x.Rr (by unfold isCh;lia)),x3.congr (fE hb)⟩
 clear x g f1
 with_reducible refine ex1 (hI) λ a6 hx_=>an3 hx_ λ hr1_ g x=>?_;clear hx_;(try clear hI);subst hr1_
 case k74=>skip
 refine ⟨(f.stp g).h,?_⟩
 have x:Chest R H' A (gvK w gone (gone.map AV.int).length):=x
 unfold gvK at x
 rw [List.length_map,List.take_length] at x
 case k50=>fail
 case k74=>skip
 exact q _ H' x g
end

theorem mh {ok:AH->Prop} {bind:AV->Loc->Option Loc} {test:Loc->AH->(Bool->AH->Prop)->Prop} {elt:Loc->AH->(AV->AH->Prop)->Prop} {H:AH} {p:AV->Bool} {f:AV->AV} (M:Loc->Prop) (hok:∀ H',Ext0 H H'->ok H') :
  ∀ (items:List AV) (m:Loc) (aD:AH) (acc:List AV) (Q:List AV->AH->Prop),Ext0 H aD->M m->
  (∀ v∈items,∀ m,M m->∃ m',bind v m=some m'/\M m'/\(∀ H',Ext0 H H'->∀ Q,(∀ H'',Ext0 H' H''->Q (p v) H'')->test m' H' Q)/\(p v=true->∀ H',Ext0 H H'->∀ Q,(∀ H'',Ext0 H' H''->Q (f v) H'')->elt m' H' Q))->
  (∀ H',Ext0 aD H'->Q (acc++(items.filter p).map f) H')->wQ ok bind test elt items m aD acc Q:=by
 intro items
 induction items with
 | nil=>intro m aD acc Q e _ _ hQ;exact ⟨hok _ e,List.append_nil acc▸hQ aD (.refl _)⟩
 | cons v r ih=>
  intro m aD acc Q e hm hs hQ
  obtain ⟨m',hb,hm',ht,he⟩:=hs v (.head _) m hm
  case k74=>skip
  refine ⟨hok _ e,?_⟩
  rw [hb]
  refine ht aD e _ λ aM aW=>?_
  rw [List.filter_cons] at hQ
  cases hp:p v with
  | true=>
   rw [if_pos hp,List.map_cons] at hQ
   refine he hp aM (e.trans aW) _ λ aP bJ=>?_
   refine ih _ aP _ Q ((e.trans aW).trans bJ) hm' (λ u hu=>hs u (.tail _ hu)) λ H' e'=>?_
   rw [List.append_assoc]
   exact hQ H' ((aW.trans bJ).trans e')
  | false=>
   rw [if_neg (by rw [hp];exact Bool.noConfusion)] at hQ
   exact ih _ aM _ Q (e.trans aW) hm' (λ u hu=>hs u (.tail _ hu)) λ H' e'=>hQ H' (aW.trans e')

set_option tactic.hygienic true in
theorem ut {br:Int->Int->Bool} (N:Nat):∀ (left:List Int),∀ b∈yO br N left,b∈left:=by
 induction N with
 | zero=>
  intro _ b h
  cases h
 | succ N ih_=>
  intro left b h
  unfold yO at h
  split at h
  ·cases h
  ·rename_i c fr hf
   have hc:c∈left:=(List.mem_filter.mp (by rw [hf];exact .head _:c∈left.filter (frB br left))).1
   rcases List.mem_cons.mp h with z | z
   ·rw [z];exact hc
   ·exact (List.mem_filter.mp (ih_ _ b z)).1
set_option tactic.hygienic true in
theorem sX {br:Int->Int->Bool} (N:Nat):∀ (left:List Int),(yO br N left).Nodup:=by
 induction N with
 | zero=>
  intro _
  exact List.nodup_nil
 | succ N ih_=>
  intro left
  unfold yO
  split
  ·exact List.nodup_nil
  ·rename_i c fr hf
   refine List.nodup_cons.mpr ⟨λ z=>?_,ih_ _⟩
   have:=(List.mem_filter.mp (ut N _ _ z)).2
   simp at this
theorem p8 {br:Int->Int->Bool} (tr:∀ a b c,br a b=true->br b c=true->br a c=true) (N:Nat):∀ (left:List Int),left.Nodup->left.length=N->∀ b∈left,b∈yO br N left:=by
 induction N with
 | zero=>
  intro left _ hl b hb
  rw [List.length_eq_zero_iff.mp hl] at hb;cases hb
 | succ N ih_=>
  intro left hn hl b hb
  have hne:left≠[]:=λ z=>by rw [z] at hl;cases hl
  have fe:=uN (br:=br) tr hne
  cases hf:left.filter (frB br left) with
  | nil=>exact absurd hf fe
  | cons c fr=>
   rw [uO hf]
   by_cases z:b=c
   ·rw [z];exact .head _
   ·refine .tail _ (ih_ _ (hn.filter _) ?_ b (List.mem_filter.mpr ⟨hb,by simp [z]⟩))
    have hc:c∈left:=(List.mem_filter.mp (by rw [hf];exact .head _:c∈left.filter (frB br left))).1
    have hfe:left.filter (λ y=>!decide (y=c))=left.erase c:=by
     rw [hn.erase_eq_filter]
     exact List.filter_congr λ y z_=>by simp [bne,BEq.beq]
    rw [hfe,List.length_erase_of_mem hc];lia

theorem re {s:St} (ok:s.Ok):(wills s).Nodup:=(vF ok).filter _
theorem mem_wills {s:St} {b:Int}:b∈wills s↔b∈zV s/\s.willOf b≠[]:=by
 unfold wills
 rw [List.mem_filter]
 simp
theorem yi {s:St} (ok:s.Ok) {b:Int}:b∈orderOf s↔b∈wills s:=
 ⟨ut _ _ b,p8 (vQ s) _ _ (re ok) rfl b⟩
theorem ri (s:St):(orderOf s).Nodup:=sX _ _
noncomputable def doWills (s:St) (l:List Int):St:=l.foldl doWill s
theorem vG (l:List Int):∀ {s:St},s.Ok->s.Wok->(∀ b∈l,b∈s.ks)->(doWills s l).Ok/\(doWills s l).Wok/\Kin s (doWills s l)/\∀ k,k∈(doWills s l).ws↔k∈s.ws/\k∉l:=by
 induction l with
 | nil=>
  intro s ok w _
  exact ⟨ok,w,.refl _,λ k=>by simp [doWills]⟩
 | cons b r ih_=>
  intro s ok w h
  obtain ⟨o1,w1,k1,e1,-⟩:=xk ok w (h b (.head _))
  obtain ⟨o2,w2,k2,e2⟩:=ih_ o1 w1 (λ c hc=>by rw [k1.ks];exact h c (.tail _ hc))
  case k74=>skip
  refine ⟨o2,w2,k1.trans k2,λ k=>?_⟩
  rw [show doWills s (b::r)=doWills (doWill s b) r from rfl,e2 k,e1,mem_delK,List.mem_cons]
  constructor
  ·rintro ⟨⟨h1,h2⟩,h3⟩;exact ⟨h1,λ z=>z.elim h2 h3⟩
  ·rintro ⟨h1,h2⟩;exact ⟨⟨h1,λ z=>h2 (.inl z)⟩,λ z=>h2 (.inr z)⟩

noncomputable def willed (s:St):St:=doWills s (orderOf s)
open Classical in
noncomputable def goneOf (s:St):List Int:=(zV s).filter λ b=>!decide (Reach (willed s) b)
open Classical in
noncomputable def keptOf (s:St):List Int:=(zV s).filter λ b=>decide (Reach (willed s) b)
noncomputable def zQ (s:St):St:=giveUp (willed s) (goneOf s)
theorem mem_gone {s:St} {b:Int}:b∈goneOf s↔b∈zV s/\¬ Reach (willed s) b:=by
 unfold goneOf
 rw [List.mem_filter]
 simp
theorem zt {s:St} (ok:s.Ok) (w:s.Wok):(willed s).Ok/\(willed s).Wok/\Kin s (willed s)/\∀ k,k∈(willed s).ws↔k∈s.ws/\k∉orderOf s:=
 vG _ ok w λ b hb=>(mem_lost.mp (mem_wills.mp ((yi ok).mp hb)).1).1
set_option tactic.hygienic true in
theorem mi {s:St} (ok:s.Ok) (w:s.Wok) {gone:List Int} (h1:∀ b∈gone,b∉s.hs) (h2:∀ b∈gone,b∉s.ws):(giveUp s gone).Ok/\(giveUp s gone).Wok:=by
 have mk:∀ {k},k∈(giveUp s gone).ks↔k∈s.ks/\k∉gone:=λ {k}=>by
  show k∈s.ks.filter _↔_
  rw [List.mem_filter];simp
 have ml:∀ {k},k∈(giveUp s gone).ls↔k∈s.ls/\badL s gone k=false:=λ {k}=>by
  show k∈s.ls.filter _↔_
  rw [List.mem_filter];simp
 have rw':∀ {k},k∈s.ks->(giveUp s gone).row k=(s.row k).map (clr gone):=λ {k} hk=>if_pos hk
 case k74=>skip
 refine ⟨⟨λ k hk=>ok.kn k (mk.mp hk).1,λ k hk=>ok.ln k (ml.mp hk).1,ok.nb,ok.np,Nat.le_trans (List.length_filter_le _ _) ok.kl,Nat.le_trans (List.length_filter_le _ _) ok.ll,ok.ku.filter _,ok.hu,ok.lu.filter _,ok.wu,λ k hk=>mk.mpr ⟨ok.hk k hk,λ z=>h1 k z hk⟩,λ k hk=>mk.mpr ⟨ok.wk k hk,λ z=>h2 k z hk⟩,λ k hk=>?_,λ k hk o h hm=>?_,λ p hp=>?_⟩,w⟩
 ·rw [rw' (mk.mp hk).1,List.length_map];exact ok.rl k (mk.mp hk).1
 ·rw [rw' (mk.mp hk).1] at hm
  with_reducible refine ex1 (List.mem_map.mp hm) λ sl hx_=>an2 hx_ λ hsl e=>?_;clear hx_
  cases sl with
  | none=>cases e
  | some oh=>
   obtain ⟨o',h'⟩:=oh
   unfold clr at e
   split at e
   ·rename_i z;cases z
    split at e
    ·cases e
    ·rename_i z;cases e;exact mk.mpr ⟨ok.ro k (mk.mp hk).1 o h hsl,z⟩
   ·cases e
 ·obtain ⟨hp,hb⟩:=ml.mp hp
  with_reducible refine an3 (ok.lo p hp) λ a b c=>?_
  simp [badL] at hb
  case k74=>skip
  exact ⟨mk.mpr ⟨a,hb.1⟩,mk.mpr ⟨b,hb.2.1⟩,mk.mpr ⟨c,hb.2.2⟩⟩
theorem mj {s:St} (ok:s.Ok) (w:s.Wok):(∀ b∈goneOf s,b∉(willed s).hs)/\(∀ b∈goneOf s,b∉(willed s).ws)/\(∀ b∈goneOf s,b∈s.ks):=by
 with_reducible refine an4 (zt ok w) λ o1 w1 k1 e1=>?_
 case k74=>skip
 refine ⟨λ b hb z=>(mem_gone.mp hb).2 (.hand z),λ b hb z=>?_,λ b hb=>(mem_lost.mp (mem_gone.mp hb).1).1⟩
 obtain ⟨z1,z2⟩:=(e1 b).mp z
 refine z2 ((yi ok).mpr (mem_wills.mpr ⟨(mem_gone.mp hb).1,?_⟩))
 unfold St.willOf
 rw [if_pos z1]
 exact (w b z1).1
theorem yR {s:St} (ok:s.Ok) (w:s.Wok):(zQ s).Ok/\(zQ s).Wok:=by
 with_reducible refine an4 (zt ok w) λ o1 w1 k1 e1=>?_
 obtain ⟨g1,g2,-⟩:=mj ok w
 exact mi o1 w1 g1 g2

structure iV (P:Nat->Option IFn):Prop where
 h56:P 56=some oX
 h60:P 60=some pB
 h61:P 61=some ir_61
 h62:P 62=some oY
 h63:P 63=some ir_63
 h73:P 73=some ld
 h74:P 74=some gA
 h75:P 75=some gB
 h76:P 76=some fZ
 h40:P 40=some ti
 h41:P 41=some tj
 h42:P 42=some ir_42
 p:yB P

section
variable {P:Nat->Option IFn} {n:Nat} {R:RM} {H:AH} {A:Ad} {s:St} {Q:AV->AH->Prop} {X:Nat->AH->Prop}

theorem tS (u:iV P) (d:Dom R H) (x:Chest R H A s) (ok:s.Ok) (w:s.Wok)
  (q:∀ (Lo Lg Lk:Nat) (R':RM) (H':AH) (A':Ad),A'.c=A.c->Chest R' H' A' (zQ s)->Stp isCh R H R' H'->H Lo=.none->H Lg=.none->H Lk=.none->Lo≠Lg->Lo≠Lk->Lg≠Lk->
   Fr R' H' Lo (.list ((orderOf s).map .int))->Fr R' H' Lg (.list ((goneOf s).map .int))->Fr R' H' Lk (.list ((keptOf s).map .int))->Q (.tup [.ref Lo,.ref Lg,.ref Lk]) H'):CN P (n+8) 76 [.ref A.c] H Q X:=by
 refine zR u.h76 rfl ?_
 intro C_ Q_ X_ m_
 case k50=>fail
 refine uM (n:=n+1) u.h56 u.h42 u.h41 u.h40 u.p x ok λ La H1 nLa ka e1=>?_
 have fa:Fr R H1 La _:=⟨ka,d.free nLa⟩
 case k50=>fail
 refine jY (n:=n) u.h63 u.h62 u.h61 u.h60 u.h56 u.h42 u.h41 u.h40 u.p (x.ext e1) ok λ Lo H2 nLo ko e2=>?_
 have fo:Fr R H2 Lo _:=⟨ko,(d.ext e1).free nLo⟩
 have fa:=fa.ext e2
 have nLo:=e1.back nLo
 have e2:=e1.trans e2
 clear e1 ka nLa
 case k50=>exact zC ko ..
 have osub:∀ b∈orderOf s,b∈s.ks:=λ b hb=>(mem_lost.mp (mem_wills.mp ((yi ok).mp hb)).1).1
 let I181_:Nat->Loc->AH->Prop:=(λ i m' H'=>∃ (R':RM) (A':Ad) (a3:Option AV),m'=[some (.ref A.c),some (.ref La),some (.ref Lo),a3,.none,.none,.none,.none,.none,.none,.none,.none,.none,.none]/\A'.c=A.c/\Stp isCh R H R' H'/\Chest R' H' A' (doWills s ((orderOf s).take i))/\Fr R' H' La (.list ((zV s).map .int))/\Fr R' H' Lo (.list ((orderOf s).map .int)))
 refine zH I181_ (λ i v m' H' J0 hJ0 K0 hK0 hv hI=>?_) (λ m' H' hI=>?_) ⟨R,A,_,rfl,rfl,.ext d e2,x.ext e2,fa,fo⟩
 ·with_reducible refine ex3 (hI) λ R' A' a3 hx_=>an6 hx_ λ hr3_ eA g xH fa fo=>?_;clear hx_;(try clear hI);subst hr3_
  have hv:((orderOf s).map AV.int)[i]?=some v:=hv
  rw [List.getElem?_map] at hv
  with_reducible refine ex1 (Option.map_eq_some_iff.mp hv) λ b hx_=>an2 hx_ λ hb hr2_=>?_;clear hx_;subst hr2_
  have hbm:=List.mem_of_getElem? hb
  obtain ⟨oi,wi,ki,-⟩:=vG ((orderOf s).take i) ok w λ c hc=>osub c (List.mem_of_mem_take hc)
  case k74=>skip
  refine ⟨fo.h,_,rfl,?_⟩
  case k50=>fail
  rw [<-eA]
  refine p6 (n:=n+2) u.h74 u.h73 u.p g.dom xH oi wi (by rw [ki.ks];exact osub b hbm) λ r R2 H3 A2 eA2 x2 g2=>?_
  have tk:(orderOf s).take (i+1)=(orderOf s).take i++[b]:=by rw [List.take_add_one,hb];rfl
  case k74=>skip
  refine em3 R2 A2 _ ⟨by rw [eA];rfl,eA2.trans eA,g.trans g2,?_,fa.stp g2,fo.stp g2⟩
  rw [tk]
  unfold doWills
  rw [List.foldl_append]
  exact x2
 ·with_reducible refine ex3 (hI) λ R' A' a3 hx_=>an6 hx_ λ hr3_ eA g xH fa fo=>?_;clear hx_;(try clear hI);subst hr3_
  have xH:Chest R' H' A' (doWills s ((orderOf s).take ((orderOf s).map AV.int).length)):=xH
  rw [List.length_map,List.take_length] at xH
  have xH:Chest R' H' A' (willed s):=xH
  case k74=>skip
  refine ⟨fo.h,?_⟩
  with_reducible refine an4 (zt ok w) λ o1 w1 k1 e1=>?_
  with_reducible refine an3 (mj ok w) λ g1 g2 g3=>?_
  case k50=>fail
  rw [<-eA]
  refine vE (n:=n+2) u.h42 u.h41 u.h40 u.p xH o1 λ L H3 rows nL kL hd hcl e3=>?_
  have r60:=hd.length o1
  case k50=>exact zC kL ..
  refine mh (λ m=>∃ a6 a7,m=[some (.ref A'.c),some (.ref La),some (.ref Lo),a3,.none,.none,a6,a7,.none,.none,.none,.none,.none,.none]) (H:=H3) (p:=λ z_=>true) (f:=gu) (λ H' e=>e _ _ kL) _ _ _ _ _ (.refl _) ⟨_,_,rfl⟩ (λ v hv m hm=>?_) λ H4 e4=>?_
  ·with_reducible refine ex2 (hm) λ a6 a7 hr2_=>?_;(try clear hm);subst hr2_
   with_reducible refine ex1 (List.mem_map.mp hv) λ r hx_=>an2 hx_ λ hr hr2_=>?_;clear hx_;subst hr2_
   case k74=>skip
   refine ⟨_,rfl,⟨_,_,rfl⟩,λ H' e Q hq=>?_,λ z_ H' e Q hq=>?_⟩
   ·exact hq H' (.refl _)
   ·case k50=>fail
    exact hq H' (.refl _)
  intro Lm nLm
  have er:[]++List.map gu (List.filter (λ z_=>true) (Src.items ⟨rows.map zg,some (L,.list (rows.map zg))⟩))=(rows.map (·.1)).map AV.int:=by
   rw [List.nil_append,ze]
   show List.map gu (rows.map zg)=_
   rw [List.map_map,List.map_map];rfl
  rw [er]
  clear er
  have hm:∀ b,b∈rows.map (·.1)↔Reach (willed s) b:=λ b=>⟨hd.reach b,hcl.reach⟩
  generalize rows.map (·.1)=ms at hm |-
  have e5:Ext0 H4 _:=Ext0.set (o:=.list (ms.map .int)) nLm
  have k5:(H4.set Lm (.list (ms.map .int))) Lm=some (.list (ms.map .int)):=AH.set_self ..
  have e5:=(e3.trans e4).trans e5
  generalize H4.set Lm (.list (ms.map .int))=H5 at e5 k5 |-
  have fa:=fa.ext e5
  have fo:=fo.ext e5
  have xH:=xH.ext e5
  have gd:=g.dom
  have g:=g.trans (Stp.ext g.dom e5)
  have fm:Fr R' H5 Lm _:=⟨k5,by
   have:H' Lm=.none:=(e3.trans e4).back nLm
   exact gd.free this⟩
  clear k5 e3 e4 e5 kL nL nLm
  case k50=>exact zC fa.h ..
  refine xB (m0:=[some (.ref A'.c),some (.ref La),some (.ref Lo),a3,some (.ref Lm),.none,.none,.none,.none,.none,.none,.none,.none,.none]) (λ b=>!decide (b∈ms)) (λ H' e=>e _ _ fa.h) (λ v=>rfl) (λ k z_ H' e Q hq=>?_) (λ k H' Q hq=>?_) λ Lg H7 e7 nLg k7=>?_
  ·case k50=>exact xx _ (e _ _ fm.h) ..
   exact hq H' (.refl _)
  ·case k50=>fail
   exact hq
  have er:(zV s).filter (λ b=>!decide (b∈ms))=goneOf s:=by
   unfold goneOf
   exact List.filter_congr λ b z_=>by simp [hm b]
  rw [er] at k7
  clear er
  have fg:Fr R' H7 Lg _:=⟨k7,g.dom.free nLg⟩
  have noLg:Lo≠Lg:=λ z=>by rw [<-z,fo.h] at nLg;cases nLg
  have nLgH:H Lg=.none:=by
   cases z:H Lg with
   | none=>rfl
   | some o=>exact absurd nLg (g.alive Lg (by rw [z];simp))
  have fa:=fa.ext e7
  have fo:=fo.ext e7
  have fm:=fm.ext e7
  have xH:=xH.ext e7
  have g:=g.trans (Stp.ext g.dom e7)
  clear k7 e7 nLg
  case k50=>fail
  refine p7 (n:=n+3) u.h75 u.p g.dom xH o1 fg.h fg.r (λ b hb=>by rw [k1.ks];exact g3 b hb) ((vF ok).filter _) λ r H8 x8 g8=>?_
  have fa:=fa.stp g8
  have fo:=fo.stp g8
  have fm:=fm.stp g8
  have fg:=fg.stp g8
  have g:=g.trans g8
  clear xH g8
  case k50=>exact zC fa.h ..
  refine xB (m0:=[some (.ref A'.c),some (.ref La),some (.ref Lo),a3,some (.ref Lm),some (.ref Lg),.none,.none,.none,.none,.none,.none,.none,.none]) (λ b=>decide (b∈ms)) (λ H' e=>e _ _ fa.h) (λ v=>rfl) (λ k z_ H' e Q hq=>?_) (λ k H' Q hq=>?_) λ Lk H9 e10 nLk' k10=>?_
  ·case k50=>exact xx _ (e _ _ fm.h) ..
   exact hq H' (.refl _)
  ·case k50=>fail
   exact hq
  have er:(zV s).filter (λ b=>decide (b∈ms))=keptOf s:=by
   unfold keptOf
   exact List.filter_congr λ b z_=>by simp [hm b]
  rw [er] at k10
  clear er
  have nLkH:H Lk=.none:=by
   cases z:H Lk with
   | none=>rfl
   | some o=>exact absurd nLk' (g.alive Lk (by rw [z];simp))
  case k50=>fail
  case k74=>skip
  refine q Lo Lg Lk R' _ A' eA (x8.ext e10) (g.trans (Stp.ext g.dom e10)) nLo nLgH nLkH noLg ?_ ?_ (fo.ext e10) (fg.ext e10) ⟨k10,g.dom.free nLk'⟩
  ·intro z;rw [<-z,fo.h] at nLk';cases nLk'
  ·intro z;rw [<-z,fg.h] at nLk';cases nLk'
end

noncomputable def uP (s:St):Prop:=∀ k∈s.ks,k∈s.hs
theorem fF (v:Slot):clr [] v=v:=by
 cases v with
 | none=>rfl
 | some oh=>obtain ⟨o,h⟩:=oh;simp [clr]
theorem p9 (s:St):giveUp s []=s:=by
 unfold giveUp
 have e1:s.ls.filter (λ k=>!badL s [] k)=s.ls:=List.filter_eq_self.mpr λ k z_=>by simp [badL]
 have e2:(s.ks.filter λ k=>!decide (k∈([]:List Int)))=s.ks:=List.filter_eq_self.mpr λ k z_=>by simp
 have e3:(λ k=>if k∈s.ks then (s.row k).map (clr []) else s.row k)=s.row:=by
  funext k
  split
  ·have:clr []=id:=by funext v;exact fF v
   rw [this,List.map_id]
  ·rfl
 rw [e1,e2,e3]
theorem mn {s:St} (h:uP s):zV s=[]:=by
 unfold zV
 rw [List.filter_eq_nil_iff]
 intro b hb
 have:Reach s b:=.hand (h b (mem_sortI.mp hb))
 simp [this]
theorem pd {s:St} (h:uP s):zQ s=s:=by
 have e:=mn h
 have e1:wills s=[]:=by unfold wills;rw [e];rfl
 have e2:orderOf s=[]:=by unfold orderOf;rw [e1];rfl
 have e3:willed s=s:=by unfold willed;rw [e2];rfl
 have e4:goneOf s=[]:=by unfold goneOf;rw [e];rfl
 unfold zQ
 rw [e3,e4,p9]

noncomputable def yj (k:Nat) (s:St):St:=if k % 8=7 then zQ s else s
noncomputable def St.runsS (s:St) (k:Nat):List Cmd->Prop
 | []=>True
 | c::r=>s.can c/\(yj k (s.app c)).runsS (k+1) r
noncomputable def St.appsS (s:St) (k:Nat):List Cmd->St
 | []=>s
 | c::r=>(yj k (s.app c)).appsS (k+1) r
theorem xl:∀ (l l':List Cmd) (s:St) (k:Nat),s.runsS k (l++l')↔s.runsS k l/\(s.appsS k l).runsS (k+l.length) l'
 | [],l',s,k=>by simp [St.runsS,St.appsS]
 | c::r,l',s,k=>by
  simp only [List.cons_append,St.runsS,St.appsS,xl r l',and_assoc,List.length_cons]
  rw [show k+1+r.length=k+(r.length+1) by lia]
theorem vR:∀ (l l':List Cmd) (s:St) (k:Nat),s.appsS k (l++l')=(s.appsS k l).appsS (k+l.length) l'
 | [],l',s,k=>by simp [St.appsS]
 | c::r,l',s,k=>by
  simp only [List.cons_append,St.appsS,vR r l',List.length_cons]
  rw [show k+1+r.length=k+(r.length+1) by lia]
theorem mr {s:St} (h:uP s) (k:Nat):yj k s=s:=by
 unfold yj
 split
 ·exact pd h
 ·rfl

noncomputable def St.held (s:St):List Cmd->Prop
 | []=>True
 | c::r=>s.can c/\uP (s.app c)/\(s.app c).held r
theorem mu (l:List Cmd):∀ (s:St) (k:Nat),s.held l->s.runsS k l/\s.appsS k l=s.apps l:=by
 induction l with
 | nil=>
  intro _ _ _
  exact ⟨trivial,rfl⟩
 | cons c r ih_=>
  intro s k h
  obtain ⟨h1,h2,h3⟩:=h
  simp only [St.runsS,St.appsS,St.apps,mr h2]
  obtain ⟨a,b⟩:=ih_ (s.app c) (k+1) h3
  case k74=>skip
  exact ⟨⟨h1,a⟩,b⟩
theorem uQ:∀ (l l':List Cmd) (s:St),s.held l->(s.apps l).held l'->s.held (l++l')
 | [],_,_,_,h=>h
 | c::r,l',s,h,h'=>⟨h.1,h.2.1,uQ r l' _ h.2.2 h'⟩

noncomputable def St.Dn (s:St) (x:Int):Prop:=∀ b,b≠x->∀ o,Deed.down o∈s.willOf b->o=0

structure Lay (N i:Nat) (s:St):Prop where
 ok:s.Ok
 wok:s.Wok
 ph:Ph2 N i s
 dn:s.Dn (-1)
theorem Ph2.all {N i:Nat} {s:St} (h:Ph2 N i s):uP s:=λ k hk=>by rw [h.hs,<-h.ks];exact hk
theorem Lay.make {j:Nat} {s:St} (h:Lay j 0 s) (hj:j < 60):s.can (.make 3)/\Lay (j+1) 0 (s.app (.make 3)):=by
 have hl:s.ks.length=j:=by rw [h.ph.ks];unfold upTo;simp
 have hc:s.can (.make 3):=⟨by decide,by decide,by lia⟩
 have hn:s.nb∉s.hs:=λ z=>by rw [h.ph.hs,h.ph.nb] at z;have:=(mem_upTo.mp z).2;lia
 case k74=>skip
 refine ⟨hc,h.ok.app hc,Wok.app h.wok hc,⟨?_,?_,?_,h.ph.ls,λ k hk=>?_⟩,h.dn⟩
 ·show s.ks++[s.nb]=_
  rw [h.ph.ks,h.ph.nb,uL]
 ·show addK s.hs s.nb=_
  unfold addK
  rw [if_neg hn,h.ph.hs,h.ph.nb,uL]
 ·show s.nb+1=_
  rw [h.ph.nb];simp
 ·show (upd s.row s.nb (List.replicate (3:Int).toNat .none) k).length=3
  by_cases q:k=s.nb
  ·subst q;rw [zG];rfl
  ·rw [zM _ _ q]
   refine h.ph.row k ?_
   rw [uL] at hk
   rcases List.mem_append.mp hk with z | z
   ·exact z
   ·rw [List.mem_singleton.mp z,h.ph.nb] at q;exact absurd rfl q
theorem sY:∀ (m j:Nat) (s:St),Lay j 0 s->j+m<=60->s.held (List.replicate m (.make 3))/\Lay (j+m) 0 (s.apps (List.replicate m (.make 3)))
 | 0,j,s,h,_=>⟨trivial,h⟩
 | m+1,j,s,h,hm=>by
  obtain ⟨h1,h2⟩:=h.make (by lia)
  obtain ⟨a,b⟩:=sY m (j+1) _ h2 (by lia)
  rw [List.replicate_succ]
  case k74=>skip
  refine ⟨⟨h1,h2.ph.all,a⟩,?_⟩
  rw [show j+(m+1)=j+1+m by lia]
  exact b
theorem pe {s:St} {c:Cmd} (h:∀ b ds,c≠.bequeath b ds) (b:Int):(s.app c).willOf b=s.willOf b:=by
 cases c with
 | bequeath x ds=>exact absurd rfl (h x ds)
 | _=>rfl
theorem zv (s:St) (x:Int) (ds:List Deed) (b:Int):(s.app (.bequeath x ds)).willOf b=if b=x then ds else s.willOf b:=by
 show (if b∈delK s.ws x++(if ds=[] then [] else [x]) then upd s.will x ds b else [])=_
 by_cases e:b=x
 ·subst e
  rw [if_pos rfl,zG]
  by_cases hd:ds=[]
  ·subst hd;simp
  ·rw [if_pos]
   exact List.mem_append_right _ (by rw [if_neg hd];exact .head _)
 ·rw [if_neg e,zM _ _ e]
  unfold St.willOf
  have:b∈delK s.ws x++(if ds=[] then [] else [x])↔b∈s.ws:=by
   rw [List.mem_append,mem_delK]
   constructor
   ·rintro (z | z)
    ·exact z.1
    ·split at z
     ·cases z
     ·exact absurd (List.mem_singleton.mp z) e
   ·intro z;exact .inl ⟨z,e⟩
  simp [this]
set_option tactic.hygienic true in
theorem Lay.p2 {N i:Nat} {s:St} (h:Lay N i s) {c:Cmd} (hc:IsP2 N c) (hi:zr c=true->i < 60):s.can c/\Lay N (i+if zr c then 1 else 0) (s.app c):=by
 cases hc with
 | put hb h0 h1 ho=>
  rename_i b j o hh
  obtain ⟨a,p⟩:=h.ph.put (hh:=hh) hb h0 h1 ho
  case k74=>skip
  exact ⟨a,h.ok.app a,Wok.app h.wok a,p,h.dn⟩
 | pair hb hk ho=>
  obtain ⟨a,p⟩:=h.ph.pair (hi rfl) hb hk ho
  case k74=>skip
  exact ⟨a,h.ok.app a,Wok.app h.wok a,p,h.dn⟩
 | beq hb hl hg hd=>
  obtain ⟨a,p⟩:=h.ph.bequeath hb hl hg
  case k74=>skip
  refine ⟨a,h.ok.app a,Wok.app h.wok a,p,λ y hy o ho=>?_⟩
  rw [zv] at ho
  split at ho
  ·exact hd o ho
  ·exact h.dn y hy o ho
theorem dF {N:Nat} (p2:List Cmd):∀ (i:Nat) (s:St),Lay N i s->(∀ c∈p2,IsP2 N c)->i+(p2.filter zr).length<=60->s.held p2/\Lay N (i+(p2.filter zr).length) (s.apps p2):=by
 induction p2 with
 | nil=>
  intro i s h _ _
  exact ⟨trivial,h⟩
 | cons c r ih_=>
  intro i s h hc hi
  have e:((c::r).filter zr).length=(if zr c then 1 else 0)+(r.filter zr).length:=by
   rw [List.filter_cons]
   split
   ·simp;lia
   ·simp
  rw [e] at hi |-
  obtain ⟨h1,h2⟩:=h.p2 (hc c (.head _)) (λ z=>by rw [z] at hi;simp at hi;lia)
  obtain ⟨a,b⟩:=ih_ _ _ h2 (λ x hx=>hc x (.tail _ hx)) (by lia)
  case k74=>skip
  refine ⟨⟨h1,h2.ph.all,a⟩,?_⟩
  rw [<-Nat.add_assoc]
  exact b

theorem j6 {b k:Int} (ds:List Deed):∀ (s:St),(∀ o,Deed.down o∈ds->o≠k)->k∈s.hs->k∈(yH s b ds).hs:=by
 induction ds with
 | nil=>
  intro s _ h
  exact h
 | cons d r ih_=>
  intro s hd h
  refine ih_ (zS s b d) (λ o ho=>hd o (.tail _ ho)) ?_
  cases d with
  | up=>exact mem_addK.mpr (.inr h)
  | down o=>
   unfold zS
   dsimp only
   split
   ·exact mem_delK.mpr ⟨h,λ z=>hd o (.head _) z.symm⟩
   ·exact h
  | hang o i hh=>
   unfold zS
   dsimp only
   split<;>exact h
theorem xW {s:St} (ok:s.Ok) (w:s.Wok) {b:Int} (hb:b∈s.ks) (k:Int):(doWill s b).willOf k=if k=b then [] else s.willOf k:=by
 obtain ⟨-,-,-,e,f⟩:=xk ok w hb
 unfold St.willOf
 rw [e]
 by_cases z:k=b
 ·subst z;simp [mem_delK]
 ·rw [f k z]
  simp [mem_delK,z]
theorem qh {k:Int} (l:List Int):∀ {s:St},s.Ok->s.Wok->(∀ b∈l,b∈s.ks)->(∀ b∈l,∀ o,Deed.down o∈s.willOf b->o≠k)->k∈s.hs->k∈(doWills s l).hs:=by
 induction l with
 | nil=>
  intro s _ _ _ _ h
  exact h
 | cons b r ih_=>
  intro s ok w hk hd h
  obtain ⟨o1,w1,k1,e1,-⟩:=xk ok w (hk b (.head _))
  refine ih_ (s:=doWill s b) o1 w1 (λ c hc=>by rw [k1.ks];exact hk c (.tail _ hc)) (λ c hc o ho=>?_) ?_
  ·rw [xW ok w (hk b (.head _))] at ho
   split at ho
   ·cases ho
   ·exact hd c (.tail _ hc) o ho
  ·exact j6 _ _ (λ o ho=>hd b (.head _) o ho) h
theorem yv (l:List Int):∀ {s:St},s.Ok->s.Wok->(∀ b∈l,b∈s.ks)->∀ k,(doWills s l).willOf k=if k∈l then [] else s.willOf k:=by
 induction l with
 | nil=>
  intro s _ _ _ k
  simp [doWills]
 | cons b r ih_=>
  intro s ok w hk k
  obtain ⟨o1,w1,k1,e1,-⟩:=xk ok w (hk b (.head _))
  have:=ih_ (s:=doWill s b) o1 w1 (λ c hc=>by rw [k1.ks];exact hk c (.tail _ hc)) k
  rw [show doWills s (b::r)=doWills (doWill s b) r from rfl,this,xW ok w (hk b (.head _))]
  by_cases z:k∈r
  ·simp [z]
  ·by_cases y:k=b
   ·simp [y]
   ·simp [z,y]
theorem uR {s:St} (ok:s.Ok):∀ b∈orderOf s,b∈s.ks:=λ b hb=>(mem_lost.mp (mem_wills.mp ((yi ok).mp hb)).1).1
theorem yq {s:St} (ok:s.Ok) (w:s.Wok) (k:Int):(zQ s).willOf k=if k∈orderOf s then [] else s.willOf k:=yv _ ok w (uR ok) k
theorem tT {s:St} (ok:s.Ok) (w:s.Wok) {k:Int}:k∈(zQ s).ks↔k∈s.ks/\k∉goneOf s:=by
 obtain ⟨-,-,k1,-⟩:=zt ok w
 show k∈(willed s).ks.filter _↔_
 rw [List.mem_filter,k1.ks]
 simp
theorem uS {s:St} (ok:s.Ok) (w:s.Wok) {k:Int} (hk:k∈s.hs):k∈(zQ s).ks:=
 (tT ok w).mpr ⟨ok.hk k hk,λ z=>(mem_lost.mp (mem_gone.mp z).1).2 (.hand hk)⟩
theorem wj {s:St} (ok:s.Ok) (w:s.Wok) (k:Int):((zQ s).row k).length=(s.row k).length:=by
 obtain ⟨-,-,k1,-⟩:=zt ok w
 show (if k∈(willed s).ks then ((willed s).row k).map _ else (willed s).row k).length=_
 split
 ·rw [List.length_map];exact k1.rl k
 ·exact k1.rl k
theorem ve {s:St} (ok:s.Ok) (w:s.Wok):(zQ s).nb=s.nb:=(zt ok w).2.2.1.nb
theorem qi {s:St} (ok:s.Ok) (w:s.Wok):(zQ s).ls.length<=s.ls.length:=by
 have:=(zt ok w).2.2.1.ls
 show ((willed s).ls.filter _).length<=_
 rw [this]
 exact List.length_filter_le _ _
theorem xy {s:St} (ok:s.Ok) (w:s.Wok) {k:Int} (hd:∀ b∈orderOf s,∀ o,Deed.down o∈s.willOf b->o≠k) (hk:k∈s.hs):k∈(zQ s).hs:=
 qh _ ok w (uR ok) hd hk

structure Q3 (N i:Nat) (s:St):Prop where
 ok:s.Ok
 wok:s.Wok
 kb:∀ k∈s.ks,k < N
 hs:∀ k:Int,i<=k->k < N->k∈s.hs
 nb:s.nb=N
 ls:s.ls.length<=N
 dn:s.Dn (-1)
set_option tactic.hygienic true in
theorem Dn.all {s:St} (ok:s.Ok) (h:s.Dn (-1)):∀ b,∀ o,Deed.down o∈s.willOf b->o=0:=λ b o ho=>by
 by_cases z:b=-1
 ·subst z
  unfold St.willOf at ho
  split at ho
  ·rename_i hw
   have:=(ok.kn _ (ok.wk _ hw)).1
   lia
  ·cases ho
 ·exact h b z o ho
theorem Q3.sweep {N i:Nat} {s:St} (h:Q3 N (i+1) s):Q3 N (i+1) (zQ s):=by
 obtain ⟨o1,w1⟩:=yR h.ok h.wok
 have dn:=Dn.all h.ok h.dn
 case k74=>skip
 refine ⟨o1,w1,λ k hk=>h.kb k ((tT h.ok h.wok).mp hk).1,λ k h0 h1=>xy h.ok h.wok (λ b z_ o ho z=>?_) (h.hs k h0 h1),(ve h.ok h.wok).trans h.nb,Nat.le_trans (qi h.ok h.wok) h.ls,λ b z_ o ho=>?_⟩
 ·have:=dn b o ho;lia
 ·rw [yq h.ok h.wok] at ho
  split at ho
  ·cases ho
  ·exact dn b o ho
theorem Q3.hook {N i k:Nat} {s:St} (h:Q3 N (i+1) s):Q3 N (i+1) (yj k s):=by
 unfold yj
 split
 ·exact h.sweep
 ·exact h
theorem Q3.up {N i j:Nat} {s:St} (h:Q3 N i s) (hj:i<=j):Q3 N j s:=⟨h.ok,h.wok,h.kb,λ k h0 h1=>h.hs k (by lia) h1,h.nb,h.ls,h.dn⟩
theorem j7 {N:Nat} (ds:List Nat):∀ (i k:Nat) (s:St),Q3 N i s->(∀ d∈ds,i<=d/\d < N)->ds.Pairwise (· < ·)->s.runsS k (ds.map λ (d:Nat)=>Cmd.drop (d:Int))/\∃ j,Q3 N j (s.appsS k (ds.map λ (d:Nat)=>Cmd.drop (d:Int)))/\(j<=i\/j<=N):=by
 induction ds with
 | nil=>
  intro i k s h _ _
  exact ⟨trivial,i,h,.inl (Nat.le_refl _)⟩
 | cons d r ih_=>
  intro i k s h hd hp
  obtain ⟨d1,d2⟩:=hd d (.head _)
  have h:=h.up d1
  have hm:=h.hs d (by lia) (by lia)
  have hc:s.can (.drop (d:Int)):=⟨h.ok.hk _ hm,hm⟩
  have h':Q3 N (d+1) (s.app (.drop (d:Int))):=⟨h.ok.app hc,Wok.app h.wok hc,h.kb,λ x h0 h1=>mem_delK.mpr ⟨h.hs x (by lia) h1,by lia⟩,h.nb,h.ls,h.dn⟩
  have pp:=List.pairwise_cons.mp hp
  obtain ⟨a,j,b,e⟩:=ih_ (d+1) (k+1) _ (h'.hook (k:=k)) (λ x hx=>⟨pp.1 x hx,(hd x (.tail _ hx)).2⟩) pp.2
  case k74=>skip
  exact ⟨⟨hc,a⟩,j,b,.inr (by lia)⟩

structure Q4 (N j:Nat) (s:St):Prop where
 ok:s.Ok
 wok:s.Wok
 hs:∀ k:Int,N<=k->k < N+j->k∈s.hs
 nb:s.nb=N+j
 ls:s.ls.length<=N+1
 row:2<=j->(s.row (N+1)).length=2
 dn:s.Dn (N+1)
theorem Q4.sweep {N j:Nat} {s:St} (hN:1<=N) (h:Q4 N j s) (hj:2<=j\/s.willOf (N+1)=[]):Q4 N j (zQ s):=by
 obtain ⟨o1,w1⟩:=yR h.ok h.wok
 have dn:∀ b∈orderOf s,∀ o,Deed.down o∈s.willOf b->o=0:=λ b hb o ho=>by
  by_cases z:b=N+1
  ·subst z
   rcases hj with hj | hj
   ·have:=h.hs ((N:Int)+1) (by lia) (by lia)
    exact absurd (.hand this) (mem_lost.mp (mem_wills.mp ((yi h.ok).mp hb)).1).2
   ·rw [hj] at ho;cases ho
  ·exact h.dn b z o ho
 case k74=>skip
 refine ⟨o1,w1,λ k h0 h1=>xy h.ok h.wok (λ b hb o ho z=>?_) (h.hs k h0 h1),(ve h.ok h.wok).trans h.nb,Nat.le_trans (qi h.ok h.wok) h.ls,λ hj=>(wj h.ok h.wok _).trans (h.row hj),λ b hb o ho=>?_⟩
 ·have:=dn b hb o ho;lia
 ·rw [yq h.ok h.wok] at ho
  split at ho
  ·cases ho
  ·exact h.dn b hb o ho
theorem Q4.hook {N j k:Nat} {s:St} (hN:1<=N) (h:Q4 N j s) (hj:2<=j\/s.willOf (N+1)=[]):Q4 N j (yj k s):=by
 unfold yj
 split
 ·exact h.sweep hN hj
 ·exact h
set_option tactic.hygienic true in
theorem pf {s:St} (ok:s.Ok) {k:Int} (h:s.nb<=k):s.willOf k=[]:=by
 unfold St.willOf
 split
 ·rename_i hw
  have:=(ok.kn _ (ok.wk _ hw)).2
  lia
 ·rfl
theorem Q4.make {N j:Nat} {s:St} (hN:N<=11) (h:Q4 N j s) (hj:j < 3) {z:Int} (hz:z=if j=1 then 2 else 1):s.can (.make z)/\Q4 N (j+1) (s.app (.make z)):=by
 have hl:s.ks.length<=(upTo (N+j)).length:=yD h.ok.ku λ k hk=>by
  have:=h.ok.kn k hk
  rw [h.nb] at this
  exact mem_upTo.mpr ⟨this.1,by lia⟩
 have hl2:(upTo (N+j)).length=N+j:=by unfold upTo;simp
 have hz':0<=z/\z<=9:=by split at hz<;>lia
 have hc:s.can (.make z):=⟨hz'.1,hz'.2,by lia⟩
 case k74=>skip
 refine ⟨hc,h.ok.app hc,Wok.app h.wok hc,λ k h0 h1=>?_,?_,h.ls,λ hj2=>?_,h.dn⟩
 ·show k∈addK s.hs s.nb
  by_cases e:k=s.nb
  ·exact mem_addK.mpr (.inl e)
  ·exact mem_addK.mpr (.inr (h.hs k h0 (by have:=h.nb;lia)))
 ·show s.nb+1=_
  rw [h.nb];lia
 ·show (upd s.row s.nb (List.replicate z.toNat .none) ((N:Int)+1)).length=2
  rw [h.nb]
  by_cases e:j=1
  ·subst e
   rw [if_pos rfl] at hz
   rw [show ((N:Int)+1)=((N:Int)+((1:Nat):Int)) by lia,zG,hz]
   rfl
  ·rw [zM _ _ (by lia)]
   exact h.row (by lia)

theorem qj {s:St} (ok:s.Ok) (w:s.Wok) {x o:Int} (hx:x∈s.ks) (hw:s.willOf x=[.up,.down o]) (hox:o≠x) (hx0:x≠0) (dn:s.Dn x):x∈(zQ s).ks:=by
 refine (tT ok w).mpr ⟨hx,λ z=>?_⟩
 obtain ⟨z1,z2⟩:=mem_gone.mp z
 have hord:x∈orderOf s:=(yi ok).mpr (mem_wills.mpr ⟨z1,by rw [hw];simp⟩)
 refine z2 (.hand ?_)
 with_reducible refine ex2 (List.append_of_mem hord) λ l1 l2 hl=>?_
 have hnd:=ri s
 have hsub:=uR ok
 unfold willed
 rw [hl] at hnd hsub |-
 with_reducible refine an3 (List.nodup_append.mp hnd) λ n1 n2 n3=>?_
 have hx1:x∉l1:=λ q=>n3 x q x (.head _) rfl
 have hx2:x∉l2:=(List.nodup_cons.mp n2).1
 have sub1:∀ b∈l1,b∈s.ks:=λ b hb=>hsub b (List.mem_append_left _ hb)
 with_reducible refine an4 (vG l1 ok w sub1) λ o1 w1 k1 e1=>?_
 have hw1:(doWills s l1).willOf x=[.up,.down o]:=by rw [yv l1 ok w sub1,if_neg hx1];exact hw
 have hxk:x∈(doWills s l1).ks:=by rw [k1.ks];exact hx
 obtain ⟨o2,w2,k2,e2,-⟩:=xk o1 w1 hxk
 have split2:doWills s (l1++x::l2)=doWills (doWill (doWills s l1) x) l2:=by
  unfold doWills;rw [List.foldl_append];rfl
 rw [split2]
 refine qh l2 o2 w2 (λ b hb=>by rw [k2.ks,k1.ks];exact hsub b (List.mem_append_right _ (.tail _ hb))) (λ b hb o' ho'=>?_) ?_
 ·rw [xW o1 w1 hxk] at ho'
  have hbx:b≠x:=λ q=>hx2 (by rw [<-q];exact hb)
  rw [if_neg hbx,yv l1 ok w sub1] at ho'
  split at ho'
  ·cases ho'
  ·have:=dn b hbx o' ho'
   lia
 ·show x∈(yH _ x ((doWills s l1).willOf x)).hs
  rw [hw1]
  show x∈(zS (zS _ x .up) x (.down o)).hs
  have hup:x∈(zS ((doWills s l1).bequeath x []) x .up).hs:=mem_addK.mpr (.inl rfl)
  generalize zS ((doWills s l1).bequeath x []) x .up=u at hup |-
  unfold zS
  dsimp only
  split
  ·exact mem_delK.mpr ⟨hup,λ q=>hox q.symm⟩
  ·exact hup

structure Q5 (N:Nat) (s:St):Prop where
 ok:s.Ok
 wok:s.Wok
 n0:(N:Int)∈s.hs
 n1:(N:Int)+1∈s.hs
 n2:(N:Int)+2∈s.hs
 row:(s.row (N+1)).length=2
 dn:s.Dn (N+1)
theorem Q5.no {N:Nat} {s:St} (h:Q5 N s):(N:Int)+1∉orderOf s:=λ hb=>absurd (.hand h.n1) (mem_lost.mp (mem_wills.mp ((yi h.ok).mp hb)).1).2
theorem Q5.hook {N k:Nat} {s:St} (hN:1<=N) (h:Q5 N s):Q5 N (yj k s):=by
 unfold yj
 split
 ·obtain ⟨o1,w1⟩:=yR h.ok h.wok
  have dn:∀ {x:Int},(N:Int)<=x->∀ b∈orderOf s,∀ o,Deed.down o∈s.willOf b->o≠x:=λ {x} hx b hb o ho z=>by
   have:=h.dn b (λ q=>h.no (by rw [<-q];exact hb)) o ho
   lia
  case k74=>skip
  refine ⟨o1,w1,xy h.ok h.wok (dn (by lia)) h.n0,xy h.ok h.wok (dn (by lia)) h.n1,xy h.ok h.wok (dn (by lia)) h.n2,(wj h.ok h.wok _).trans h.row,λ b hb o ho=>?_⟩
  rw [yq h.ok h.wok] at ho
  split at ho
  ·cases ho
  ·exact h.dn b hb o ho
 ·exact h
theorem Q5.hook_will {N k:Nat} {s:St} (h:Q5 N s) {ds:List Deed} (hw:s.willOf (N+1)=ds):(yj k s).willOf (N+1)=ds:=by
 unfold yj
 split
 ·rw [yq h.ok h.wok,if_neg h.no];exact hw
 ·exact hw

set_option tactic.hygienic true in
theorem mv {cs:List Cmd} (h:uZ cs):St.new.runsS 0 cs:=by
 have base:∀ {N:Nat} {p2:List Cmd} {ds:List Nat},N<=60->(∀ c∈p2,IsP2 N c)->(p2.filter zr).length<=N->(∀ k∈ds,k < N)->ds.Pairwise (· < ·)->
   St.new.runsS 0 (List.replicate N (.make 3)++p2++ds.map (λ (k:Nat)=>Cmd.drop (k:Int)))/\∃ s,St.new.appsS 0 (List.replicate N (.make 3)++p2++ds.map (λ (k:Nat)=>Cmd.drop (k:Int)))=s/\∃ j,Q3 N j s:=by
  intro N p2 ds h1 h2 h3 h4 h5
  have l0:Lay 0 0 St.new:=⟨.new,(by intro b hb;cases hb),⟨rfl,rfl,rfl,Nat.le_refl _,by intro k hk;cases hk⟩,(by intro b _ o ho;cases ho)⟩
  obtain ⟨a1,b1⟩:=sY N 0 _ l0 (by lia)
  rw [Nat.zero_add] at b1
  obtain ⟨a2,b2⟩:=dF p2 0 _ b1 h2 (by lia)
  have a12:=uQ _ _ _ a1 a2
  obtain ⟨r12,e12⟩:=mu _ _ 0 a12
  rw [uK] at e12
  have q0:Q3 N 0 (St.new.appsS 0 (List.replicate N (.make 3)++p2)):=by
   rw [e12]
   have pls:=b2.ph.ls
   case k74=>skip
   exact ⟨b2.ok,b2.wok,λ k hk=>by rw [b2.ph.ks] at hk;exact (mem_upTo.mp hk).2,λ k h0 h1=>by rw [b2.ph.hs];exact mem_upTo.mpr ⟨by lia,h1⟩,b2.ph.nb,by lia,b2.dn⟩
  obtain ⟨r3,j,q3,-⟩:=j7 ds 0 (0+(List.replicate N (Cmd.make 3)++p2).length) _ q0 (λ d hd=>⟨Nat.zero_le _,h4 d hd⟩) h5
  case k74=>skip
  refine ⟨(xl ..).mpr ⟨r12,r3⟩,_,rfl,j,?_⟩
  rw [vR]
  exact q3
 cases h with
 | nil=>trivial
 | laid h1 h2 h3 h4 h5=>exact (base h1 h2 h3 h4 h5).1
 | more h0 h1 h2 h3 h4 h5=>
  rename_i N p2 ds hh
  obtain ⟨r,s,es,j,q⟩:=base (Nat.le_trans h1 (by lia)) h2 h3 h4 h5
  refine (xl ..).mpr ⟨r,?_⟩
  rw [es]
  generalize 0+(List.replicate N (Cmd.make 3)++p2++ds.map λ (k:Nat)=>Cmd.drop (k:Int)).length=k
  have q4:Q4 N 0 s:=⟨q.ok,q.wok,by intro x h0 h1;lia,by rw [q.nb];lia,by have:=q.ls;lia,by intro z;lia,λ b _ o ho=>Dn.all q.ok q.dn b o ho⟩
  obtain ⟨c1,q1⟩:=q4.make h1 (by lia) (z:=1) rfl
  have q1:=q1.hook (k:=k) h0 (.inr (pf q1.ok (by rw [q1.nb];lia)))
  obtain ⟨c2,q2⟩:=q1.make h1 (by lia) (z:=2) rfl
  have q2:=q2.hook (k:=k+1) h0 (.inl (by lia))
  obtain ⟨c3,q3⟩:=q2.make h1 (by lia) (z:=1) rfl
  have q3:=q3.hook (k:=k+1+1) h0 (.inl (by lia))
  case k74=>skip
  refine ⟨c1,c2,c3,?_⟩
  generalize yj (k+1+1) (St.app _ (.make 1))=s3 at q3 |-
  have nN:=q3.hs N (by lia) (by lia)
  have nN1:=q3.hs ((N:Int)+1) (by lia) (by lia)
  have nN2:=q3.hs ((N:Int)+2) (by lia) (by lia)
  have ls3:=q3.ls
  have c4:s3.can (.pair N (N+1) (N+2)):=⟨q3.ok.hk _ nN,q3.ok.hk _ nN1,q3.ok.hk _ nN2,by lia⟩
  case k74=>skip
  refine ⟨c4,?_⟩
  have p4:Q5 N (s3.app (.pair N (N+1) (N+2))):=⟨q3.ok.app c4,Wok.app q3.wok c4,nN,nN1,nN2,q3.row (by lia),q3.dn⟩
  have p4:=p4.hook (k:=k+1+1+1) h0
  generalize yj (k+1+1+1) (s3.app _)=s4 at p4 |-
  have c5:s4.can (.bequeath (N+1) [.up,.down N]):=⟨p4.ok.hk _ p4.n1,by simp,by
   intro e he
   simp only [List.mem_cons,List.not_mem_nil,or_false] at he
   rcases he with rfl | rfl
   ·trivial
   ·show few (N:Int);unfold few;lia⟩
  case k74=>skip
  refine ⟨c5,?_⟩
  have p5:Q5 N (s4.app (.bequeath (N+1) [.up,.down N])):=⟨p4.ok.app c5,Wok.app p4.wok c5,p4.n0,p4.n1,p4.n2,p4.row,λ b hb o ho=>by
   rw [zv,if_neg hb] at ho
   exact p4.dn b hb o ho⟩
  have w5:(s4.app (.bequeath (N+1) [.up,.down N])).willOf (N+1)=[.up,.down N]:=by rw [zv,if_pos rfl]
  have w5:=p5.hook_will (k:=k+1+1+1+1) w5
  have p5:=p5.hook (k:=k+1+1+1+1) h0
  generalize yj (k+1+1+1+1) (s4.app _)=s5 at p5 w5 |-
  have c6:s5.can (.drop (N+1)):=⟨p5.ok.hk _ p5.n1,p5.n1⟩
  case k74=>skip
  refine ⟨c6,?_⟩
  have ok6:=p5.ok.app c6
  have wok6:=Wok.app p5.wok c6
  have h6N:(N:Int)∈(s5.app (.drop (N+1))).hs:=mem_delK.mpr ⟨p5.n0,by lia⟩
  have h6N2:(N:Int)+2∈(s5.app (.drop (N+1))).hs:=mem_delK.mpr ⟨p5.n2,by lia⟩
  have k6:(N:Int)+1∈(s5.app (.drop (N+1))).ks:=p5.ok.hk _ p5.n1
  have r6:((s5.app (.drop (N+1))).row (N+1)).length=2:=p5.row
  have d6:(s5.app (.drop (N+1))).Dn (N+1):=p5.dn
  have w6:(s5.app (.drop (N+1))).willOf (N+1)=[.up,.down N]:=w5
  generalize s5.app (.drop (N+1))=s6 at ok6 wok6 h6N h6N2 k6 r6 d6 w6 |-
  by_cases hz:(k+1+1+1+1+1) % 8=7
  ·-- swept behind the first drop: not behind the second
   have e6:yj (k+1+1+1+1+1) s6=zQ s6:=if_pos hz
   rw [e6]
   obtain ⟨o7,w7⟩:=yR ok6 wok6
   have k7:=uS ok6 wok6 h6N
   have k71:=qj ok6 wok6 k6 w6 (by lia) (by lia) d6
   have h72:(N:Int)+2∈(zQ s6).hs:=xy ok6 wok6 (λ b hb o ho q=>by
    by_cases e:b=N+1
    ·rw [e,w6] at ho
     rcases List.mem_cons.mp ho with z | z
     ·cases z
     ·have z:=List.mem_singleton.mp z
      injection z with z
      lia
    ·have:=d6 b e o ho
     lia) h6N2
   have r7:=(wj ok6 wok6 ((N:Int)+1)).trans r6
   generalize zQ s6=s7 at o7 w7 k7 k71 h72 r7 |-
   case k74=>skip
   refine ⟨⟨o7.hk _ h72,h72⟩,?_⟩
   have e7:yj (k+1+1+1+1+1+1) (s7.app (.drop (N+2)))=s7.app (.drop (N+2)):=if_neg (by lia)
   rw [e7]
   case k74=>skip
   exact ⟨⟨k71,by decide,by show (0:Int) < ((s7.row (N+1)).length:Int);lia,k7⟩,trivial⟩
  ·have e6:yj (k+1+1+1+1+1) s6=s6:=if_neg hz
   rw [e6]
   have c7:s6.can (.drop (N+2)):=⟨ok6.hk _ h6N2,h6N2⟩
   case k74=>skip
   refine ⟨c7,?_⟩
   have o7:=ok6.app c7
   have wok7:=Wok.app wok6 c7
   have h7N:(N:Int)∈(s6.app (.drop (N+2))).hs:=mem_delK.mpr ⟨h6N,by lia⟩
   have k7:(N:Int)+1∈(s6.app (.drop (N+2))).ks:=k6
   have r7:((s6.app (.drop (N+2))).row (N+1)).length=2:=r6
   have d7:(s6.app (.drop (N+2))).Dn (N+1):=d6
   have w7:(s6.app (.drop (N+2))).willOf (N+1)=[.up,.down N]:=w6
   generalize s6.app (.drop (N+2))=s7 at o7 wok7 h7N k7 r7 d7 w7 |-
   unfold yj
   split
   ·case k74=>skip
    refine ⟨⟨qj o7 wok7 k7 w7 (by lia) (by lia) d7,by decide,?_,uS o7 wok7 h7N⟩,trivial⟩
    rw [wj o7 wok7,r7];decide
   ·case k74=>skip
    refine ⟨⟨k7,by decide,?_,o7.hk _ h7N⟩,trivial⟩
    rw [r7];decide

noncomputable def hasW (s:St) (b:Int):Bool:=!(s.willOf b).isEmpty
noncomputable def willing (s:St):List Int:=(zA s.ks).filter (hasW s)
noncomputable def zi (s:St):St:={ s with ks:=zA s.ks,hs:=zA s.hs,ls:=zA s.ls,ws:=willing s,will:=s.willOf }
structure Vw (H:AH) (B:Wd) (s:St):Prop where
 w0:∃ ep,H B.w0=some (.dict (dOf s.ks λ k=>.ref (B.ra k)) ep)
 w1:∃ ep,H B.w1=some (.dict (dOf s.hs λ z_=>.bool true) ep)
 w2:∃ ep,H B.w2=some (.dict (dOf s.ls λ k=>zw (s.link k)) ep)
 row:∀ k∈s.ks,H (B.ra k)=some (.list ((s.row k).map zL))
 w3:∃ ep,H B.w3=some (.dict (dOf s.ws λ k=>.ref (B.wa k)) ep)
 will:∀ k∈s.ws,H (B.wa k)=some (.list ((s.will k).map Deed.av))
theorem Vw.ext {H H':AH} {B:Wd} {s:St} (x:Vw H B s) (e:Ext0 H H'):Vw H' B s:=by
 obtain ⟨e0,w0⟩:=x.w0
 obtain ⟨e1,w1⟩:=x.w1
 obtain ⟨e2,w2⟩:=x.w2
 obtain ⟨e3,w3⟩:=x.w3
 case k74=>skip
 exact ⟨⟨e0,e _ _ w0⟩,⟨e1,e _ _ w1⟩,⟨e2,e _ _ w2⟩,λ k hk=>e _ _ (x.row k hk),⟨e3,e _ _ w3⟩,λ k hk=>e _ _ (x.will k hk)⟩
noncomputable def OnlyK (K:Nat) (H H':AH):Prop:=∀ a o,a≠K->H a=some o->H' a=some o
theorem OnlyK.refl (K:Nat) (H:AH):OnlyK K H H:=λ z_ z_ z_ h=>h
theorem OnlyK.ext {K:Nat} {H H' H'':AH} (k:OnlyK K H H') (e:Ext0 H' H''):OnlyK K H H'':=λ a o n h=>e a o (k a o n h)
theorem OnlyK.set {K:Nat} {H H':AH} (k:OnlyK K H H') {o:AO}:OnlyK K H (H'.set K o):=λ a b n h=>(AH.set_ne _ _ n).trans (k a b n h)
theorem OnlyK.new {K:Nat} {H H0 H':AH} (k:OnlyK K H0 H') (e:Ext0 H H0) (h:H K=.none):Ext0 H H':=λ a o q=>k a o (λ z=>by rw [z,h] at q;cases q) (e a o q)
theorem rj (l:List Slot):(zJ 0 (l.length:Int)).map (vZ λ j=>zL (l.getD j.toNat .none))=l.map zL:=by
 unfold zJ
 rw [List.map_map]
 refine List.ext_getElem? λ i=>?_
 rw [List.getElem?_map,List.getElem?_map]
 by_cases h:i < l.length
 ·rw [List.getElem?_range (by lia),List.getElem?_eq_getElem h]
  simp [vZ,List.getD,List.getElem?_eq_getElem h]
 ·rw [List.getElem?_eq_none (by simp;lia),List.getElem?_eq_none (by lia)]
  rfl
theorem zc {l:List Int} {i:Nat} {b:Int} (hb:l[i]?=some b):l.take (i+1)=l.take i++[b]:=by rw [List.take_add_one,hb];rfl
theorem tU {l:List Int} {i:Nat} {f:Int->AV} (h:l.length<=60):(dOf (l.take i) f).length < lid:=by
 rw [zK,List.length_take];unfold lid;lia
theorem yE {l:List Int} {f:Int->AV}:l.take (l.map f).length=l:=by rw [List.length_map,List.take_length]

noncomputable def mU (c:Nat) (a1 a2 a3 a4 a5 a6:Option AV):Loc:=[some (.ref c),a1,a2,a3,a4,a5,a6,.none,.none,.none,.none,.none,.none,.none,.none]
section
variable {P:Nat->Option IFn} {n:Nat} {R:RM} {H0 H:AH} {A:Ad} {s:St} {W ep:Nat} {a1 a2 a3 a4 a5 a6:Option AV} {r:ISs} {Q:Fl->Loc->AH->Prop} {X:Nat->Loc->AH->Prop}
theorem fG (p:yB P) (x:Chest R H0 A s) (ok:s.Ok) (e:Ext0 H0 H) (nW:H0 W=.none) (kW:H W=some (.dict [] ep))
  (q:∀ (ra:Int->Nat) ep a2 H',Ext0 H0 H'->H' W=some (.dict (dOf (zA s.ks) λ k=>.ref (ra k)) ep)->(∀ k∈zA s.ks,H' (ra k)=some (.list ((s.row k).map zL)))->WSs (CN P (n+3)) r (mU A.c (some (.ref W)) a2 a3 a4 a5 a6) H' Q X) :
  WSs (CN P (n+3)) (.cons (.for (.one 2) (.val (.meth (.var 0) 24 .nil)) (.cons (.sit (.var 1) (.var 2) (.comp (.one 7) (.range (.ci 0) (.meth (.var 0) 25 (.cons (.var 2) .nil))) .nil (.meth (.var 0) 28 (.cons (.var 2) (.cons (.var 7) .nil))))) .nil)) r) (mU A.c (some (.ref W)) a2 a3 a4 a5 a6) H Q X:=by
 have kl:=ok.kl
 have skl:(zA s.ks).length<=60:=by rw [zB];exact kl
 have x1:=x.ext e
 case k50=>(first | exact x1.c .. | exact x1.dx ..)
 refine y5 (n:=n+2) p.h24 x1 (by lia) λ Lb H2 nLb kb e2=>?_
 have k1:=e2 _ _ kW
 have e2:=e.trans e2
 clear x1 nLb kW e
 case k50=>exact zC kb ..
 let I67_:Nat->Loc->AH->Prop:=(λ i m' H'=>∃ (ra:Int->Nat) (ep:Nat) (a2:Option AV),m'=mU A.c (some (.ref W)) a2 a3 a4 a5 a6/\OnlyK W H2 H'/\H' W=some (.dict (dOf ((zA s.ks).take i) λ k=>.ref (ra k)) ep)/\∀ k∈(zA s.ks).take i,H' (ra k)=some (.list ((s.row k).map zL)))
 refine zH I67_ (λ i v m' H' J0 hJ0 K0 hK0 hv hI=>?_) (λ m' H' hI=>?_) ⟨λ z_=>0,ep,_,rfl,.refl _ _,k1,(by intro k hk;cases hk)⟩
 ·with_reducible refine ex3 (hI) λ ra ep a2 hx_=>an4 hx_ λ hr3_ oH kW hr=>?_;clear hx_;(try clear hI);subst hr3_
  with_reducible refine ex1 (yQ hv) λ b hx_=>an3 hx_ λ hb hr2_ hbk=>?_;clear hx_;subst hr2_
  have hbk:=mem_sortI.mp hbk
  have rl:=ok.rl b hbk
  have xH:=x.ext (oH.new e2 nW)
  case k74=>skip
  refine ⟨oH _ _ (wh kb k1) kb,_,rfl,?_⟩
  case k50=>(first | exact xH.c .. | exact xH.dx ..)
  refine wK (n:=n+1) p.h25 p.h21 xH hbk ?_
  case k50=>fail
  refine yA (m0:=mU A.c (some (.ref W)) (some (.int b)) a3 a4 a5 a6) (H:=H') (p:=λ z_=>true) (f:=vZ λ j=>zL ((s.row b).getD j.toNat .none)) (λ z_ z_=>trivial) _ _ _ _ _ (.refl _) (λ v=>rfl) (λ v z_ H' e Q hq=>hq _ (.refl _)) (λ v hv z_ H5 e Q hq=>?_) λ H3 e3=>?_
  ·obtain ⟨j,hj⟩:=List.getElem?_of_mem hv
   obtain ⟨hj,rfl⟩:=xb hj
   have ej:(0+(j:Int)).toNat=j:=by lia
   have hj:j < (s.row b).length:=by lia
   have x5:=xH.ext e
   case k50=>(first | exact x5.c .. | exact x5.dx ..)
   refine uF (n:=n) (v:=(s.row b)[j]) p.h28 p.h21 p.h22 x5 hbk (by lia) (by rw [ej];exact List.getElem?_eq_getElem hj) ?_
   have:=hq H5 (.refl _)
   have ee:vZ (λ j=>zL ((s.row b).getD j.toNat .none)) (.int (0+(j:Int)))=zL (s.row b)[j]:=by
    simp only [vZ,ej,List.getD,List.getElem?_eq_getElem hj];rfl
   rw [ee] at this
   case k74=>skip
   exact this
  intro a na
  have er:[]++List.map (vZ λ j=>zL ((s.row b).getD j.toNat .none)) (List.filter (λ z_=>true) (Src.items ⟨zJ 0 ((s.row b).length:Int),.none⟩))=(s.row b).map zL:=by
   rw [List.nil_append,ze];exact rj _
  rw [er]
  clear er xH
  have ea:Ext0 H3 _:=Ext0.set (o:=.list ((s.row b).map zL)) na
  have ka:(H3.set a (.list ((s.row b).map zL))) a=some (.list ((s.row b).map zL)):=AH.set_self ..
  have ea:=e3.trans ea
  generalize H3.set a (.list ((s.row b).map zL))=H4 at ea ka |-
  have kW:=ea _ _ kW
  case k50=>exact kW ..
  case k74=>skip
  refine ⟨tU skl,λ ep'=>?_⟩
  case k74=>skip
  refine em3 (upd ra b a) ep' _ ⟨rfl,(oH.ext ea).set,?_,λ k hk=>?_⟩
  ·rw [AH.set_self,yN (zu (zF ok.ku) hb),wL,zc hb]
  ·rw [zc hb] at hk
   rcases List.mem_append.mp hk with y | y
   ·have y1:=ea _ _ (hr k y)
    have zn:k≠b:=λ z=>zu (zF ok.ku) hb (z▸y)
    rw [zM _ _ zn,AH.set_ne _ _ (wh y1 kW)];exact y1
   ·rw [List.mem_singleton.mp y,zG,AH.set_ne _ _ (wh ka kW)];exact ka
 with_reducible refine ex3 (hI) λ ra epr a2 hx_=>an4 hx_ λ hr3_ oH kW0 hr=>?_;clear hx_;(try clear hI);subst hr3_
 case k74=>skip
 refine ⟨oH _ _ (wh kb k1) kb,?_⟩
 have kW0:H' W=some (.dict (dOf ((zA s.ks).take ((zA s.ks).map AV.int).length) λ k=>.ref (ra k)) epr):=kW0
 have hr:∀ k∈(zA s.ks).take ((zA s.ks).map AV.int).length,H' (ra k)=some (.list ((s.row k).map zL)):=hr
 rw [yE] at kW0 hr
 case k74=>skip
 exact q _ _ _ _ (oH.new e2 nW) kW0 hr
theorem j8 (p:yB P) (x:Chest R H0 A s) (ok:s.Ok) (e:Ext0 H0 H) (nW:H0 W=.none) (kW:H W=some (.dict [] ep))
  (q:∀ ep a2 H',Ext0 H0 H'->H' W=some (.dict (dOf (zA s.hs) λ z_=>.bool true) ep)->WSs (CN P (n+3)) r (mU A.c a1 a2 (some (.ref W)) a4 a5 a6) H' Q X) :
  WSs (CN P (n+3)) (.cons (.for (.one 2) (.val (.meth (.var 0) 32 .nil)) (.cons (.sit (.var 3) (.var 2) (.cb true)) .nil)) r) (mU A.c a1 a2 (some (.ref W)) a4 a5 a6) H Q X:=by
 obtain ⟨hl,-⟩:=ok.lens
 have shl:(zA s.hs).length<=60:=by rw [zB];exact hl
 have x1:=x.ext e
 case k50=>(first | exact x1.c .. | exact x1.dx ..)
 refine vb (n:=n+2) p.h32 x1 (by lia) λ Lb H2 nLb kb e2=>?_
 have k1:=e2 _ _ kW
 have e2:=e.trans e2
 clear x1 nLb kW e
 case k50=>exact zC kb ..
 let I128_:Nat->Loc->AH->Prop:=(λ i m' H'=>∃ (ep:Nat) (a2:Option AV),m'=mU A.c a1 a2 (some (.ref W)) a4 a5 a6/\OnlyK W H2 H'/\H' W=some (.dict (dOf ((zA s.hs).take i) λ z_=>.bool true) ep))
 refine zH I128_ (λ i v m' H' J0 hJ0 K0 hK0 hv hI=>?_) (λ m' H' hI=>?_) ⟨ep,_,rfl,.refl _ _,k1⟩
 ·with_reducible refine ex2 (hI) λ ep a2 hx_=>an3 hx_ λ hr2_ oH kW1=>?_;clear hx_;(try clear hI);subst hr2_
  obtain ⟨b,hb,rfl,-⟩:=yQ hv
  case k74=>skip
  refine ⟨oH _ _ (wh kb k1) kb,_,rfl,?_⟩
  case k50=>exact kW1 ..
  case k74=>skip
  refine ⟨tU shl,λ ep'=>?_⟩
  case k74=>skip
  refine em2 ep' _ ⟨rfl,oH.set,?_⟩
  rw [AH.set_self,yV,zc hb]
  unfold addK
  rw [if_neg (zu (zF ok.hu) hb)]
 with_reducible refine ex2 (hI) λ epw a2 hx_=>an3 hx_ λ hr2_ oH kW1=>?_;clear hx_;(try clear hI);subst hr2_
 case k74=>skip
 refine ⟨oH _ _ (wh kb k1) kb,?_⟩
 have kW1:H' W=some (.dict (dOf ((zA s.hs).take ((zA s.hs).map AV.int).length) λ z_=>.bool true) epw):=kW1
 rw [yE] at kW1
 case k74=>skip
 exact q _ _ _ (oH.new e2 nW) kW1
theorem j9 (p:yB P) (x:Chest R H0 A s) (ok:s.Ok) (e:Ext0 H0 H) (nW:H0 W=.none) (kW:H W=some (.dict [] ep))
  (q:∀ ep a5 H',Ext0 H0 H'->H' W=some (.dict (dOf (zA s.ls) λ k=>zw (s.link k)) ep)->WSs (CN P (n+3)) r (mU A.c a1 a2 a3 (some (.ref W)) a5 a6) H' Q X) :
  WSs (CN P (n+3)) (.cons (.for (.one 5) (.val (.meth (.var 0) 35 .nil)) (.cons (.sit (.var 4) (.idx (.var 5) (.ci 0)) (.slice (.var 5) (.ci 1) .cn .cn)) .nil)) r) (mU A.c a1 a2 a3 (some (.ref W)) a5 a6) H Q X:=by
 have ll:=ok.ll
 have sll:(zA s.ls).length<=60:=by rw [zB];exact ll
 have x1:=x.ext e
 case k50=>(first | exact x1.c .. | exact x1.dx ..)
 refine w8 (n:=n+2) p.h35 x1 (by lia) λ Lp H2 nLp kp e2=>?_
 have k1:=e2 _ _ kW
 have e2:=e.trans e2
 clear x1 nLp kW e
 case k50=>exact zC kp ..
 let I155_:Nat->Loc->AH->Prop:=(λ i m' H'=>∃ (ep:Nat) (a5:Option AV),m'=mU A.c a1 a2 a3 (some (.ref W)) a5 a6/\OnlyK W H2 H'/\H' W=some (.dict (dOf ((zA s.ls).take i) λ k=>zw (s.link k)) ep))
 refine zH I155_ (λ i v m' H' J0 hJ0 K0 hK0 hv hI=>?_) (λ m' H' hI=>?_) ⟨ep,_,rfl,.refl _ _,k1⟩
 ·with_reducible refine ex2 (hI) λ ep a5 hx_=>an3 hx_ λ hr2_ oH kW2=>?_;clear hx_;(try clear hI);subst hr2_
  obtain ⟨b,hb,rfl,-⟩:=yQ hv
  case k74=>skip
  refine ⟨oH _ _ (wh kp k1) kp,_,rfl,?_⟩
  case k50=>exact kW2 ..
  case k74=>skip
  refine ⟨tU sll,λ ep'=>?_⟩
  case k74=>skip
  refine em2 ep' _ ⟨rfl,oH.set,?_⟩
  rw [AH.set_self]
  show some (AO.dict (dset (dOf ((zA s.ls).take i) λ k=>zw (s.link k)) b (zw (s.link b))) ep')=_
  rw [yN (zu (zF ok.lu) hb),tO,zc hb]
  congr 2
  exact xg λ k z_=>by
   by_cases z:k=b
   ·subst z;rw [zG]
   ·rw [zM _ _ z]
 with_reducible refine ex2 (hI) λ epw a5 hx_=>an3 hx_ λ hr2_ oH kW2=>?_;clear hx_;(try clear hI);subst hr2_
 case k74=>skip
 refine ⟨oH _ _ (wh kp k1) kp,?_⟩
 have kW2:H' W=some (.dict (dOf ((zA s.ls).take ((zA s.ls).map (yW s)).length) λ k=>zw (s.link k)) epw):=kW2
 rw [yE] at kW2
 case k74=>skip
 exact q _ _ _ (oH.new e2 nW) kW2
theorem ja (p:yB P) (x:Chest R H0 A s) (ok:s.Ok) (e:Ext0 H0 H) (nW:H0 W=.none) (kW:H W=some (.dict [] ep))
  (q:∀ (wa:Int->Nat) ep a2 H',Ext0 H0 H'->H' W=some (.dict (dOf (willing s) λ k=>.ref (wa k)) ep)->(∀ k∈willing s,H' (wa k)=some (.list ((s.willOf k).map Deed.av)))->WSs (CN P (n+3)) r (mU A.c a1 a2 a3 a4 a5 (some (.ref W))) H' Q X) :
  WSs (CN P (n+3)) (.cons (.for (.one 2) (.val (.meth (.var 0) 24 .nil)) (.cons (.ite (.val (.cmp .ne (.meth (.var 0) 37 (.cons (.var 2) .nil)) (.list .nil))) (.cons (.sit (.var 6) (.var 2) (.meth (.var 0) 37 (.cons (.var 2) .nil))) .nil) .nil) .nil)) r) (mU A.c a1 a2 a3 a4 a5 (some (.ref W))) H Q X:=by
 have kl:=ok.kl
 have x1:=x.ext e
 case k50=>(first | exact x1.c .. | exact x1.dx ..)
 refine y5 (n:=n+2) p.h24 x1 (by lia) λ Lb H2 nLb kb e2=>?_
 have k1:=e2 _ _ kW
 have e2:=e.trans e2
 clear x1 nLb kW e
 case k50=>exact zC kb ..
 let I186_:Nat->Loc->AH->Prop:=(λ i m' H'=>∃ (wa:Int->Nat) (ep:Nat) (a2:Option AV),m'=mU A.c a1 a2 a3 a4 a5 (some (.ref W))/\OnlyK W H2 H'/\H' W=some (.dict (dOf (((zA s.ks).take i).filter (hasW s)) λ k=>.ref (wa k)) ep)/\∀ k∈((zA s.ks).take i).filter (hasW s),H' (wa k)=some (.list ((s.willOf k).map Deed.av)))
 refine zH I186_ (λ i v m' H' J0 hJ0 K0 hK0 hv hI=>?_) (λ m' H' hI=>?_) ⟨λ z_=>0,ep,_,rfl,.refl _ _,k1,(by intro k hk;cases hk)⟩
 ·with_reducible refine ex3 (hI) λ wa ep a2 hx_=>an4 hx_ λ hr3_ oH kW3 hw=>?_;clear hx_;(try clear hI);subst hr3_
  with_reducible refine ex1 (yQ hv) λ b hx_=>an3 hx_ λ hb hr2_ hbk=>?_;clear hx_;subst hr2_
  have hbk:=mem_sortI.mp hbk
  have bn:b∉((zA s.ks).take i).filter (hasW s):=λ z=>zu (zF ok.ku) hb (List.mem_filter.mp z).1
  have xH:=x.ext (oH.new e2 nW)
  case k74=>skip
  refine ⟨oH _ _ (wh kb k1) kb,_,rfl,?_⟩
  case k50=>(first | exact xH.c .. | exact xH.dx ..)
  refine uH (n:=n+1) p.h37 p.h21 xH hbk λ a H3 na ka e3=>?_
  case k50=>fail
  intro E nE
  have e4:Ext0 H3 _:=Ext0.set (o:=.list []) nE
  have k4:(H3.set E (.list [])) E=some (.list []):=AH.set_self ..
  have ka:=e4 _ _ ka
  have e4:=e3.trans e4
  generalize H3.set E (.list [])=H4 at e4 k4 ka |-
  refine vd ka k4 (um _) ?_
  have kW3:=e4 _ _ kW3
  have hw:∀ k∈((zA s.ks).take i).filter (hasW s),H4 (wa k)=some (.list ((s.willOf k).map Deed.av)):=λ k hk=>e4 _ _ (hw k hk)
  have oH:=oH.ext e4
  clear ka k4 e3 e4 nE na xH
  rw [show (!((s.willOf b).map Deed.av).isEmpty)=hasW s b by simp [hasW]]
  case k50=>fail
  refine zf (λ hz=>?_) (λ hz=>?_)
  ·have tf:((zA s.ks).take (i+1)).filter (hasW s)=((zA s.ks).take i).filter (hasW s)++[b]:=by rw [zc hb,List.filter_append];simp [hz]
   have xH:=x.ext (oH.new e2 nW)
   case k50=>(first | exact xH.c .. | exact xH.dx ..)
   refine uH (n:=n+1) p.h37 p.h21 xH hbk λ c H5 nc kc e5=>?_
   have kW3:=e5 _ _ kW3
   case k50=>exact kW3 ..
   case k74=>skip
   refine ⟨by
    rw [zK]
    have:=List.length_filter_le (hasW s) ((zA s.ks).take i)
    rw [List.length_take,zB] at this
    unfold lid;lia,λ ep'=>?_⟩
   case k74=>skip
   refine em3 (upd wa b c) ep' _ ⟨rfl,(oH.ext e5).set,?_,λ k hk=>?_⟩
   ·rw [AH.set_self,yN bn,wL,tf]
   ·rw [tf] at hk
    rcases List.mem_append.mp hk with y | y
    ·have y1:=e5 _ _ (hw k y)
     have zn:k≠b:=λ z=>bn (z▸y)
     rw [zM _ _ zn,AH.set_ne _ _ (wh y1 kW3)];exact y1
    ·rw [List.mem_singleton.mp y,zG,AH.set_ne _ _ (wh kc kW3)];exact kc
  ·have tf:((zA s.ks).take (i+1)).filter (hasW s)=((zA s.ks).take i).filter (hasW s):=by rw [zc hb,List.filter_append];simp [hz]
   rw [<-tf] at kW3 hw
   case k50=>fail
   case k74=>skip
   exact em3 wa ep _ ⟨rfl,oH,kW3,hw⟩
 with_reducible refine ex3 (hI) λ wa epw a2 hx_=>an4 hx_ λ hr3_ oH kW3 hw=>?_;clear hx_;(try clear hI);subst hr3_
 case k74=>skip
 refine ⟨oH _ _ (wh kb k1) kb,?_⟩
 have kW3:H' W=some (.dict (dOf (((zA s.ks).take ((zA s.ks).map AV.int).length).filter (hasW s)) λ k=>.ref (wa k)) epw):=kW3
 have hw:∀ k∈((zA s.ks).take ((zA s.ks).map AV.int).length).filter (hasW s),H' (wa k)=some (.list ((s.willOf k).map Deed.av)):=hw
 rw [yE] at kW3 hw
 case k74=>skip
 exact q _ _ _ _ (oH.new e2 nW) kW3 hw
end
section
variable {P:Nat->Option IFn} {n:Nat} {R:RM} {H:AH} {A:Ad} {s:St} {Q:AV->AH->Prop} {X:Nat->AH->Prop}
theorem tV (h83:P 83=some oZ) (p:yB P) (x:Chest R H A s) (ok:s.Ok)
  (q:∀ (H':AH) (B:Wd),H' B.wl=some (.list [.ref B.w0,.ref B.w1,.ref B.w2,.ref B.w3])->Vw H' B (zi s)->Ext0 H H'->H B.wl=.none->Q (.ref B.wl) H'):CN P (n+4) 83 [.ref A.c] H Q X:=by
 refine zR h83 rfl ?_
 intro C_ Q_ X_ m_
 case k50=>fail
 intro W0 ep0 n0
 refine fG (n:=n) (a2:=.none) (a3:=.none) (a4:=.none) (a5:=.none) (a6:=.none) p x ok (Ext0.set n0) n0 (AH.set_self ..) λ ra ep0 a2 H1 e1 k0 hr=>?_
 case k50=>fail
 intro W1 ep1 n1
 refine j8 (n:=n) (a1:=some (.ref W0)) (a2:=a2) (a4:=.none) (a5:=.none) (a6:=.none) p (x.ext e1) ok (Ext0.set n1) n1 (AH.set_self ..) λ ep1 a2 H2 e2 k1=>?_
 have k0:=e2 _ _ k0
 have x2:=e1.trans e2
 case k50=>fail
 intro W2 ep2 n2
 refine j9 (n:=n) (a1:=some (.ref W0)) (a2:=a2) (a3:=some (.ref W1)) (a5:=.none) (a6:=.none) p (x.ext x2) ok (Ext0.set n2) n2 (AH.set_self ..) λ ep2 a5 H3 e3 k2=>?_
 have k0:=e3 _ _ k0
 have k1:=e3 _ _ k1
 have e2:=e2.trans e3
 have x3:=x2.trans e3
 case k50=>fail
 intro W3 ep3 n3
 refine ja (n:=n) (a1:=some (.ref W0)) (a2:=a2) (a3:=some (.ref W1)) (a4:=some (.ref W2)) (a5:=a5) p (x.ext x3) ok (Ext0.set n3) n3 (AH.set_self ..) λ wa ep3 a2 H4 e4 k3 hw=>?_
 have e2:=e2.trans e4
 have x4:=x3.trans e4
 case k50=>fail
 intro V nV
 have eV:Ext0 H4 _:=Ext0.set (o:=.list [.ref W0,.ref W1,.ref W2,.ref W3]) nV
 have e2:=e2.trans eV
 case k74=>skip
 exact q _ ⟨V,W0,W1,W2,W3,0,ra,wa⟩ (AH.set_self ..) ⟨⟨_,eV _ _ (e4 _ _ k0)⟩,⟨_,eV _ _ (e4 _ _ k1)⟩,⟨_,eV _ _ (e4 _ _ k2)⟩,λ k hk=>e2 _ _ (hr k hk),⟨_,eV _ _ k3⟩,λ k hk=>eV _ _ (hw k hk)⟩ (x4.trans eV) (x4.back nV)
end
theorem rm:∀ {l l':List Int},l.Pairwise (·<=·)->l'.Pairwise (·<=·)->l.Nodup->l'.Nodup->(∀ x,x∈l↔x∈l')->l=l':=by
 intro l
 induction l with
 | nil=>
  intro l' _ _ _ _ h
  cases l' with
  | nil=>rfl
  | cons b r=>exact absurd ((h b).mpr (.head _)) (by simp)
 | cons a r ih=>
  intro l' p p' u u' h
  cases l' with
  | nil=>exact absurd ((h a).mp (.head _)) (by simp)
  | cons b r'=>
   have q:=List.pairwise_cons.mp p
   have q':=List.pairwise_cons.mp p'
   have v:=List.nodup_cons.mp u
   have v':=List.nodup_cons.mp u'
   have e:a=b:=by
    rcases List.mem_cons.mp ((h a).mp (.head _)) with z | z
    ·exact z
    ·rcases List.mem_cons.mp ((h b).mpr (.head _)) with y | y
     ·exact y.symm
     ·have:=q.1 b y
      have:=q'.1 a z
      lia
   subst e
   refine congrArg (a::·) (ih q.2 q'.2 v.2 v'.2 λ x=>⟨λ hx=>?_,λ hx=>?_⟩)
   ·rcases List.mem_cons.mp ((h x).mp (.tail _ hx)) with z | z
    ·rw [z] at hx;exact absurd hx v.1
    ·exact z
   ·rcases List.mem_cons.mp ((h x).mpr (.tail _ hx)) with z | z
    ·rw [z] at hx;exact absurd hx v'.1
    ·exact z
section
variable {P:Nat->Option IFn} {n:Nat} {R:RM} {H:AH} {A:Ad} {s:St} {Q:AV->AH->Prop} {X:Nat->AH->Prop}
end
theorem SeenOk.view {s:St} (ok:s.Ok) (hn:s.nb<=10 ^ 8):SeenOk (zi s):=by
 case k74=>skip
 refine ⟨?_,?_,?_,λ k hk=>ok.rl k (mem_sortI.mp hk),λ k hk=>mem_sortI.mpr (ok.hk k (mem_sortI.mp hk)),λ k hk=>(by have:=ok.kn k (mem_sortI.mp hk);unfold few;omega),ok.nb,hn⟩
 ·show (zA s.hs).length<=60
  rw [zB];exact ok.lens.1
 ·show (zA s.ks).length<=60
  rw [zB];exact ok.kl
 ·show (zA s.ls).length<=60
  rw [zB];exact ok.ll
theorem qk {s:St} {c:Cmd} (h:(zi s).can c):s.can c:=by
 have m:∀ {k},k∈(zi s).ks->k∈s.ks:=λ h=>mem_sortI.mp h
 cases c with
 | make z=>exact ⟨h.1,h.2.1,by have:=h.2.2;rw [show (zi s).ks.length=s.ks.length from zB _] at this;exact this⟩
 | put b i o hh=>exact ⟨m h.1,h.2.1,h.2.2.1,m h.2.2.2⟩
 | empty b i=>exact ⟨m h.1,h.2.1,h.2.2⟩
 | take b=>exact m h
 | drop b=>exact ⟨m h.1,mem_sortI.mp h.2⟩
 | pair b k o=>exact ⟨m h.1,m h.2.1,m h.2.2.1,by have:=h.2.2.2;rw [show (zi s).ls.length=s.ls.length from zB _] at this;exact this⟩
 | unpair p=>exact (mem_sortI (l:=s.ls)).mp h
 | bequeath b ds=>exact ⟨m h.1,h.2⟩
noncomputable def Cmd.word:Cmd->Str
 | .make _=>"make"
 | .put ..=>"put"
 | .empty ..=>"empty"
 | .take _=>"take"
 | .drop _=>"drop"
 | .pair ..=>"pair"
 | .unpair _=>"unpair"
 | .bequeath ..=>"bequeath"
theorem IsCmd.word {H:AH} {R:RM} {c:Cmd} {v:AV} (x:IsCmd H R c v):∃ l,v=.tup (.str c.word::l):=by induction x<;>exact ⟨_,rfl⟩
noncomputable def sZ:Cmd->Bool
 | .make _=>true
 | _=>false
theorem jb (c:Cmd):PyData.eqv (.str c.word) (.str "make")=sZ c:=by cases c<;>rfl
theorem ql (c:Cmd):PyData.eqv (.str c.word) (.str "pair")=zr c:=by cases c<;>rfl
theorem mw (s:St) (c:Cmd):(s.app c).np=s.np+if zr c then 1 else 0:=by
 cases c with
 | pair b k o=>rfl
 | _=>exact (Int.add_zero _).symm
theorem mx (s:St) (c:Cmd):(s.app c).nb=s.nb+if sZ c then 1 else 0:=by
 cases c with
 | make z=>rfl
 | _=>exact (Int.add_zero _).symm
theorem pi {s:St} {k:Nat} {cs:List Cmd} {i:Nat} {c:Cmd} (h:s.runsS k (cs.drop i)) (hc:cs[i]?=some c):s.can c/\(yj k (s.app c)).runsS (k+1) (cs.drop (i+1)):=by
 have hi:=(List.getElem?_eq_some_iff.mp hc).1
 have e:cs.drop i=c::cs.drop (i+1):=by
  rw [List.drop_eq_getElem_cons hi]
  have:=(List.getElem?_eq_some_iff.mp hc).2
  rw [this]
 rw [e] at h
 exact h

structure Dr (R:RM) (H:AH) (A:Ad) (s:St) (C Lc:Nat) (cs:List Cmd) (vs:List AV) (is:List Int) (i:Nat):Prop where
 ch:Chest R H A s
 ok:s.Ok
 wok:s.Wok
 dom:Dom R H
 com:Fr R H C (.list [.int s.nb,.int s.np])
 cells:Fr R H Lc (.list (vs++is.map .int))
 cm:AreCmds H R cs vs
 len:vs.length+is.length<=400
 run:s.runsS i (cs.drop i)
 nbl:s.nb<=i
section
variable {P:Nat->Option IFn} {n:Nat} {R:RM} {H:AH} {A:Ad} {s:St} {C Lc:Nat} {cs:List Cmd} {vs:List AV} {is:List Int} {i:Nat} {Q:AV->AH->Prop} {X:Nat->AH->Prop}
theorem AreCmds.ext0 {H':AH} (x:AreCmds H R cs vs) (e:Ext0 H H'):AreCmds H' R cs vs:=x.keep λ D o h r=>⟨e D o h,r⟩
theorem Dr.ext {H':AH} (x:Dr R H A s C Lc cs vs is i) (e:Ext0 H H'):Dr R H' A s C Lc cs vs is i:=
 ⟨x.ch.ext e,x.ok,x.wok,x.dom.ext e,x.com.ext e,x.cells.ext e,x.cm.ext0 e,x.len,x.run,x.nbl⟩
theorem fH (h50:P 50=some oW) (h49:P 49=some oV) (h45:P 45=some tD) (x:Dr R H A s C Lc cs vs is i) {v:AV} (hv:(vs++is.map AV.int)[i]?=some v) {B:Wd} (w:Seen H B (zi s))
  (q:∀ (c:Cmd) (dv:AV) (H':AH),Ext0 H H'->IsCmd H' R c dv->s.can c->(yj i (s.app c)).runsS (i+1) (cs.drop (i+1))->Q dv H'):CN P (n+3) 50 [v,.ref B.wl] H Q X:=by
 have hcl:=x.cm.length
 have hib:i < 400:=by
  have h1:=(List.getElem?_eq_some_iff.mp hv).1
  have h2:=x.len
  simp at h1
  lia
 by_cases hi:i < vs.length
 ·rw [List.getElem?_append_left hi] at hv
  with_reducible refine ex1 (x.cm.get hv) λ c hx_=>an2 hx_ λ hc ic=>?_;clear hx_
  obtain ⟨l,rfl⟩:=ic.tup
  obtain ⟨r1,r2⟩:=pi x.run hc
  exact rW (n:=n+2) h50 (q c _ H (.refl _) ic r1 r2)
 ·rw [List.getElem?_append_right (by lia),List.getElem?_map] at hv
  with_reducible refine ex1 (Option.map_eq_some_iff.mp hv) λ k hx_=>an2 hx_ λ z_ hr2_=>?_;clear hx_;subst hr2_
  refine vP (n:=n) h50 h49 h45 x.dom w (.view x.ok (by have:=x.nbl;lia)) λ c dv H' hc ic e=>q c dv H' e ic (qk hc) ?_
  rw [List.drop_eq_nil_of_le (by lia)]
  trivial
end
noncomputable def num (i:Int):Str:=Str.ofString (toString i)
noncomputable def xE (h:Bool):Str:=if h then "holds" else "looks"
noncomputable def xX (h:Bool):Str:=if h then "hand" else "free"
noncomputable def Deed.words:Deed->List Str
 | .up=>["up"]
 | .down o=>["down",num o]
 | .hang o s h=>["hang",num o,num s,xE h]
inductive Row where
 | box (b:Int) (z:Nat) (h:Bool)
 | slot (b:Int) (i:Nat) (o:Int) (h:Bool)
 | pair (k:Int) (l:Int×Int×Int)
 | will (b:Int) (ds:List Deed)
noncomputable def Row.words:Row->List Str
 | .box b z h=>["box",num b,num z,xX h]
 | .slot b i o h=>["slot",num b,num i,num o,xE h]
 | .pair k l=>["pair",num k,num l.1,num l.2.1,num l.2.2]
 | .will b ds=>"will"::num b::ds.flatMap Deed.words
noncomputable def Row.text (r:Row):Str:=Str.join " " r.words
noncomputable def zE (b:Int):Nat->List Slot->List Row
 | _,[]=>[]
 | i,.none::r=>zE b (i+1) r
 | i,some (o,h)::r=>.slot b i o h::zE b (i+1) r
noncomputable def yP (s:St) (b:Int):Row:=.box b (s.row b).length (decide (b∈s.hs))
noncomputable def z7 (s:St):List Row:=
 (zA s.ks).map (yP s)++((zA s.ks).flatMap (λ b=>zE b 0 (s.row b))++((zA s.ls).map (λ k=>.pair k (s.link k))++(willing s).map (λ b=>.will b (s.willOf b))))
noncomputable def yk (s:St):List Str:=["next",num s.nb,num s.np]
noncomputable def yZ (s:St):Str:=Str.join "\n" (Str.join " " (yk s)::(z7 s).map Row.text)
noncomputable def St.add (t:St):Row->St
 | .box b z h=>{ t with ks:=t.ks++[b],row:=upd t.row b (List.replicate z .none),hs:=if h then t.hs++[b] else t.hs }
 | .slot b i o h=>{ t with row:=upd t.row b ((t.row b).set i (some (o,h))) }
 | .pair k l=>{ t with ls:=t.ls++[k],link:=upd t.link k l }
 | .will b ds=>{ t with ws:=t.ws++[b],will:=upd t.will b ds }
noncomputable def St.may (t:St):Row->Prop
 | .box b z _=>few b/\b < t.nb/\b∉t.ks/\t.ks.length < 60/\z<=9
 | .slot b i o _=>few b/\few o/\b∈t.ks/\o∈t.ks/\i < (t.row b).length/\i<=9
 | .pair k l=>few k/\k < t.np/\k∉t.ls/\t.ls.length < 60/\(few l.1/\few l.2.1/\few l.2.2)/\l.1∈t.ks/\l.2.1∈t.ks/\l.2.2∈t.ks
 | .will b ds=>few b/\b∈t.ks/\b∉t.ws/\ds≠[]/\ds.length<=9/\∀ d∈ds,d.good
noncomputable def St.mays (t:St):List Row->Prop
 | []=>True
 | r::l=>t.may r/\(t.add r).mays l
noncomputable def St.adds (t:St) (l:List Row):St:=l.foldl St.add t
theorem vf {l k:List Row}:∀ {t:St},t.mays l->(t.adds l).mays k->t.mays (l++k):=by
 induction l with
 | nil=>intro t _ h;exact h
 | cons r l ih=>intro t h1 h2;exact ⟨h1.1,ih h1.2 h2⟩
theorem wn (t:St) (l k:List Row):t.adds (l++k)=(t.adds l).adds k:=List.foldl_append
noncomputable def St.bare (nb np:Int):St:=⟨[],λ z_=>[],[],[],λ z_=>(0,0,0),[],λ z_=>[],nb,np⟩
structure Rdg (s t:St) (bs rs ps us:List Int):Prop where
 nb:t.nb=s.nb
 np:t.np=s.np
 ks:t.ks=bs
 hs:t.hs=bs.filter λ b=>decide (b∈s.hs)
 rw:∀ b∈bs,b∈rs->t.row b=s.row b
 ro:∀ b∈bs,b∉rs->t.row b=List.replicate (s.row b).length .none
 ls:t.ls=ps
 link:∀ k∈ps,t.link k=s.link k
 ws:t.ws=us
 will:∀ k∈us,t.will k=s.willOf k
section
variable {s:St}
theorem my (ok:s.Ok) (hn:s.nb<=10 ^ 8):∀ (l bs:List Int) {t:St},Rdg s t bs [] [] []->(∀ b∈bs++l,b∈s.ks)->(bs++l).Nodup->t.mays (l.map (yP s))/\Rdg s (t.adds (l.map (yP s))) (bs++l) [] [] []:=by
 intro l
 induction l with
 | nil=>intro bs t h _ _;rw [List.append_nil];exact ⟨trivial,h⟩
 | cons b l ih=>
  intro bs t h hm hu
  have hb:b∈s.ks:=hm b (List.mem_append_right _ (.head _))
  have hn':b∉bs:=λ z=>(List.nodup_append.mp hu).2.2 b z b (.head _) rfl
  have hl:(bs++b::l).length<=s.ks.length:=yD hu hm
  have kl:=ok.kl
  have kn:=ok.kn b hb
  simp only [List.length_append,List.length_cons] at hl
  have h1:Rdg s (t.add (yP s b)) (bs++[b]) [] [] []:=by
   case k74=>skip
   refine ⟨h.nb,h.np,?_,?_,λ z_ z_ z=>(nomatch z),λ k hk z_=>?_,h.ls,h.link,h.ws,h.will⟩
   ·show t.ks++[b]=_;rw [h.ks]
   ·show (if decide (b∈s.hs) then t.hs++[b] else t.hs)=_
    rw [h.hs,List.filter_append]
    by_cases z:b∈s.hs<;>simp [z]
   ·show upd t.row b _ k=_
    by_cases z:k=b
    ·subst z;rw [zG]
    ·rw [zM _ _ z]
     rcases List.mem_append.mp hk with y | y
     ·exact h.ro k y (λ q=>(nomatch q))
     ·exact absurd (List.mem_singleton.mp y) z
  have e:bs++b::l=(bs++[b])++l:=by simp
  rw [e] at hm hu
  obtain ⟨i1,i2⟩:=ih (bs++[b]) h1 hm hu
  rw [e]
  case k74=>skip
  refine ⟨⟨⟨⟨kn.1,by lia⟩,by rw [h.nb];exact kn.2,by rw [h.ks];exact hn',by rw [h.ks];lia,ok.rl b hb⟩,i1⟩,i2⟩
theorem mz (ok:s.Ok) (hn:s.nb<=10 ^ 8) {bs:List Int} {b:Int} (hbs:∀ k,k∈bs↔k∈s.ks) (hb:b∈bs):∀ (l p:List Slot) {t:St},t.row b=p++List.replicate l.length .none->s.row b=p++l->t.ks=bs->
  t.mays (zE b p.length l)/\(t.adds (zE b p.length l)).row b=s.row b/\(t.adds (zE b p.length l))={ t with row:=(t.adds (zE b p.length l)).row }/\∀ k,k≠b->(t.adds (zE b p.length l)).row k=t.row k:=by
 intro l
 induction l with
 | nil=>intro p t h1 h2 _;exact ⟨trivial,by rw [h2];exact h1,rfl,λ z_ z_=>rfl⟩
 | cons v l ih=>
  intro p t h1 h2 h3
  cases v with
  | none=>
   have e:p.length+1=(p++[(Option.none:Slot)]).length:=by simp
   show t.mays (zE b (p.length+1) l)/\(t.adds (zE b (p.length+1) l)).row b=s.row b/\(t.adds (zE b (p.length+1) l))={ t with row:=(t.adds (zE b (p.length+1) l)).row }/\∀ k,k≠b->(t.adds (zE b (p.length+1) l)).row k=t.row k
   rw [e]
   refine ih (p++[.none]) ?_ ?_ h3
   ·rw [h1];simp [List.replicate_succ]
   ·rw [h2];simp
  | some oh=>
   obtain ⟨o,h⟩:=oh
   have e:p.length+1=(p++[some (o,h)]).length:=by simp
   have hs:(s.row b).length=p.length+(l.length+1):=by rw [h2];simp
   have hbk:=(hbs b).mp hb
   have rl:=ok.rl b hbk
   have ho:o∈s.ks:=ok.ro b hbk o h (by rw [h2];simp)
   have kb:=ok.kn b hbk
   have ko:=ok.kn o ho
   have i:=ih (p++[some (o,h)]) (t:=t.add (.slot b p.length o h)) (by
    show upd t.row b ((t.row b).set p.length (some (o,h))) b=_
    rw [zG,h1,List.set_append_right _ _ (Nat.le_refl _)]
    simp [List.replicate_succ]) (by rw [h2];simp) h3
   rw [<-e] at i
   case k74=>skip
   refine ⟨⟨⟨⟨kb.1,by lia⟩,⟨ko.1,by lia⟩,by rw [h3];exact hb,by rw [h3];exact (hbs o).mpr ho,by rw [h1];simp,by lia⟩,i.1⟩,i.2.1,i.2.2.1,λ k hk=>(i.2.2.2 k hk).trans (zM _ _ hk)⟩
theorem jc (ok:s.Ok) (hn:s.nb<=10 ^ 8) {bs:List Int} (hbs:∀ k,k∈bs↔k∈s.ks):∀ (l rs:List Int) {t:St},Rdg s t bs rs [] []->(∀ b∈l,b∈bs)->(rs++l).Nodup->
  t.mays (l.flatMap λ b=>zE b 0 (s.row b))/\Rdg s (t.adds (l.flatMap λ b=>zE b 0 (s.row b))) bs (rs++l) [] []:=by
 intro l
 induction l with
 | nil=>intro rs t h _ _;rw [List.append_nil];exact ⟨trivial,h⟩
 | cons b l ih=>
  intro rs t h hl hu
  have hb:=hl b (.head _)
  have hn':b∉rs:=λ z=>(List.nodup_append.mp hu).2.2 b z b (.head _) rfl
  obtain ⟨i1,i2,i3,i4⟩:=mz ok hn hbs hb (s.row b) [] (t:=t) (by rw [h.ro b hb hn'];rfl) rfl h.ks
  rw [List.flatMap_cons]
  have e:rs++b::l=(rs++[b])++l:=by simp
  generalize ht:t.adds (zE b [].length (s.row b))=t1 at i2 i3 i4
  have h1:Rdg s t1 bs (rs++[b]) [] []:=by
   rw [i3]
   case k74=>skip
   refine ⟨h.nb,h.np,h.ks,h.hs,λ k hk hr=>?_,λ k hk hr=>?_,h.ls,h.link,h.ws,h.will⟩
   ·show t1.row k=_
    by_cases z:k=b
    ·subst z;exact i2
    ·rw [i4 k z]
     rcases List.mem_append.mp hr with y | y
     ·exact h.rw k hk y
     ·exact absurd (List.mem_singleton.mp y) z
   ·have z:k≠b:=λ q=>hr (List.mem_append_right _ (List.mem_singleton.mpr q))
    show t1.row k=_
    rw [i4 k z]
    exact h.ro k hk λ q=>hr (List.mem_append_left _ q)
  rw [e] at hu |-
  obtain ⟨j1,j2⟩:=ih (rs++[b]) h1 (λ k hk=>hl k (.tail _ hk)) hu
  rw [<-ht] at j1 j2
  case k74=>skip
  refine ⟨vf i1 j1,?_⟩
  rw [wn];exact j2
theorem lA (ok:s.Ok) (hn:s.nb<=10 ^ 8) (hp:s.np<=10 ^ 8) {bs rs:List Int} (hbs:∀ k,k∈bs↔k∈s.ks):∀ (l ps:List Int) {t:St},Rdg s t bs rs ps []->(∀ b∈ps++l,b∈s.ls)->(ps++l).Nodup->
  t.mays (l.map λ k=>.pair k (s.link k))/\Rdg s (t.adds (l.map λ k=>.pair k (s.link k))) bs rs (ps++l) []:=by
 intro l
 induction l with
 | nil=>intro ps t h _ _;rw [List.append_nil];exact ⟨trivial,h⟩
 | cons b l ih=>
  intro ps t h hm hu
  have hb:b∈s.ls:=hm b (List.mem_append_right _ (.head _))
  have hn':b∉ps:=λ z=>(List.nodup_append.mp hu).2.2 b z b (.head _) rfl
  have hl:(ps++b::l).length<=s.ls.length:=yD hu hm
  have kl:=ok.ll
  have kn:=ok.ln b hb
  have lo:=ok.lo b hb
  have fw:∀ {k},k∈s.ks->few k:=λ hk=>by have:=ok.kn _ hk;unfold few;lia
  simp only [List.length_append,List.length_cons] at hl
  have h1:Rdg s (t.add (.pair b (s.link b))) bs rs (ps++[b]) []:=by
   case k74=>skip
   refine ⟨h.nb,h.np,h.ks,h.hs,h.rw,h.ro,?_,λ k hk=>?_,h.ws,h.will⟩
   ·show t.ls++[b]=_;rw [h.ls]
   ·show upd t.link b _ k=_
    by_cases z:k=b
    ·subst z;rw [zG]
    ·rw [zM _ _ z]
     rcases List.mem_append.mp hk with y | y
     ·exact h.link k y
     ·exact absurd (List.mem_singleton.mp y) z
  have e:ps++b::l=(ps++[b])++l:=by simp
  rw [e] at hm hu
  obtain ⟨i1,i2⟩:=ih (ps++[b]) h1 hm hu
  rw [e]
  case k74=>skip
  refine ⟨⟨⟨⟨kn.1,by lia⟩,by rw [h.np];exact kn.2,by rw [h.ls];exact hn',by rw [h.ls];lia,⟨fw lo.1,fw lo.2.1,fw lo.2.2⟩,?_⟩,i1⟩,i2⟩
  rw [h.ks]
  case k74=>skip
  exact ⟨(hbs _).mpr lo.1,(hbs _).mpr lo.2.1,(hbs _).mpr lo.2.2⟩
theorem lB (ok:s.Ok) (hn:s.nb<=10 ^ 8) (wk:s.Wok) (w9:∀ b,(s.willOf b).length<=9) {bs rs ps:List Int} (hbs:∀ k,k∈bs↔k∈s.ks):∀ (l us:List Int) {t:St},Rdg s t bs rs ps us->(∀ b∈l,b∈s.ks/\s.willOf b≠[])->(us++l).Nodup->
  t.mays (l.map λ b=>.will b (s.willOf b))/\Rdg s (t.adds (l.map λ b=>.will b (s.willOf b))) bs rs ps (us++l):=by
 intro l
 induction l with
 | nil=>intro us t h _ _;rw [List.append_nil];exact ⟨trivial,h⟩
 | cons b l ih=>
  intro us t h hm hu
  obtain ⟨hb,hw⟩:=hm b (.head _)
  have hn':b∉us:=λ z=>(List.nodup_append.mp hu).2.2 b z b (.head _) rfl
  have kn:=ok.kn b hb
  have h1:Rdg s (t.add (.will b (s.willOf b))) bs rs ps (us++[b]):=by
   case k74=>skip
   refine ⟨h.nb,h.np,h.ks,h.hs,h.rw,h.ro,h.ls,h.link,?_,λ k hk=>?_⟩
   ·show t.ws++[b]=_;rw [h.ws]
   ·show upd t.will b _ k=_
    by_cases z:k=b
    ·subst z;rw [zG]
    ·rw [zM _ _ z]
     rcases List.mem_append.mp hk with y | y
     ·exact h.will k y
     ·exact absurd (List.mem_singleton.mp y) z
  have e:us++b::l=(us++[b])++l:=by simp
  rw [e] at hu |-
  obtain ⟨i1,i2⟩:=ih (us++[b]) h1 (λ k hk=>hm k (.tail _ hk)) hu
  case k74=>skip
  exact ⟨⟨⟨⟨kn.1,by lia⟩,by rw [h.ks];exact (hbs b).mpr hb,by rw [h.ws];exact hn',hw,w9 b,yI wk b⟩,i1⟩,i2⟩
theorem lC (ok:s.Ok) (hn:s.nb<=10 ^ 8) (hp:s.np<=10 ^ 8) (wk:s.Wok) (w9:∀ b,(s.willOf b).length<=9) :
  (St.bare s.nb s.np).mays (z7 s)/\Rdg s ((St.bare s.nb s.np).adds (z7 s)) (zA s.ks) (zA s.ks) (zA s.ls) (willing s):=by
 have h0:Rdg s (St.bare s.nb s.np) [] [] [] []:=⟨rfl,rfl,rfl,rfl,λ z_ z=>(nomatch z),λ z_ z=>(nomatch z),rfl,λ z_ z=>(nomatch z),rfl,λ z_ z=>(nomatch z)⟩
 have hbs:∀ k,k∈zA s.ks↔k∈s.ks:=λ k=>mem_sortI
 obtain ⟨a1,a2⟩:=my ok hn (zA s.ks) [] h0 (λ b hb=>mem_sortI.mp hb) (zF ok.ku)
 rw [List.nil_append] at a2
 obtain ⟨b1,b2⟩:=jc ok hn hbs (zA s.ks) [] a2 (λ z_ h=>h) (zF ok.ku)
 rw [List.nil_append] at b2
 obtain ⟨c1,c2⟩:=lA ok hn hp hbs (zA s.ls) [] b2 (λ b hb=>mem_sortI.mp hb) (zF ok.lu)
 rw [List.nil_append] at c2
 obtain ⟨d1,d2⟩:=lB ok hn wk w9 hbs (willing s) [] c2 (λ b hb=>by
  obtain ⟨h1,h2⟩:=List.mem_filter.mp hb
  case k74=>skip
  refine ⟨mem_sortI.mp h1,?_⟩
  unfold hasW at h2
  simpa using h2) ((zF ok.ku).filter _)
 rw [List.nil_append] at d2
 unfold z7
 case k74=>skip
 refine ⟨vf a1 (vf b1 (vf c1 d1)),?_⟩
 rw [wn,wn,wn]
 exact d2
end
noncomputable def qm (c:Nat):List (List Nat)->List Nat
 | []=>[]
 | a::r=>c::List.intercalate [c] (a::r)
section
variable {c:Nat}
theorem y8 (p:List Nat) (l:List (List Nat)):List.intercalate [c] (p::l)=p++qm c l:=by
 cases l<;>simp [List.intercalate,qm]
theorem qn {p:List Nat} (h:c∉p) (l:List (List Nat)):(List.intercalate [c] (p::l)).takeWhile (· != c)=p:=by
 have e:(qm c l).takeWhile (· != c)=[]:=by cases l<;>simp [qm]
 have hp:∀ a∈p,(a != c)=true:=λ a ha=>bne_iff_ne.mpr λ z=>h (z▸ha)
 rw [y8,List.takeWhile_append_of_pos hp,e,List.append_nil]
theorem jd {l:List (List Nat)}:∀ {k:List (List Nat)},(∀ p∈l,c∉p)->(∀ p∈k,c∉p)->l≠[]->k≠[]->List.intercalate [c] l=List.intercalate [c] k->l=k:=by
 induction l with
 | nil=>intro k _ _ h;exact absurd rfl h
 | cons p l ih=>
  intro k hl hk _ h2 e
  cases k with
  | nil=>exact absurd rfl h2
  | cons q k=>
   have h1:=congrArg (λ x=>x.takeWhile (· != c)) e
   simp only [qn (hl p (.head _)),qn (hk q (.head _))] at h1
   subst h1
   rw [y8,y8] at e
   have e:=List.append_cancel_left e
   cases l with
   | nil=>cases k with
    | nil=>rfl
    | cons=>cases e
   | cons a r=>cases k with
    | nil=>cases e
    | cons b t=>exact congrArg (p::·) (ih (λ p m=>hl p (.tail _ m)) (λ p m=>hk p (.tail _ m)) (List.cons_ne_nil _ _) (List.cons_ne_nil _ _) (List.cons.inj e).2)
theorem vS (c:Nat) (l:List Str):(Str.join ⟨#[c]⟩ l).cps.toList=List.intercalate [c] (l.map λ x=>x.cps.toList):=by
 induction l with
 | nil=>rfl
 | cons x r ih=>
  cases r with
  | nil=>exact (List.append_nil _).symm.trans (y8 (c:=c) x.cps.toList []).symm
  | cons y r=>
   have h:∀ a b:Str,(a++b).cps.toList=a.cps.toList++b.cps.toList:=λ a b=>Array.toList_append
   show (x++⟨#[c]⟩++Str.join ⟨#[c]⟩ (y::r)).cps.toList=List.intercalate [c] (x.cps.toList::(y::r).map λ x=>x.cps.toList)
   rw [h,h,ih,y8,List.append_assoc];rfl
theorem wE {l:List Str} (h:∀ p∈l,c∉p.cps.toList) (hn:l≠[]):Txt.split (Str.join ⟨#[c]⟩ l) ⟨#[c]⟩=l:=by
 have h1:=StrLaws.split_free (Str.join ⟨#[c]⟩ l) c
 have h3:=congrArg (λ x:Str=>x.cps.toList) (StrLaws.join_split (Str.join ⟨#[c]⟩ l) ⟨#[c]⟩)
 simp only [vS] at h3
 have h4:Txt.split (Str.join ⟨#[c]⟩ l) ⟨#[c]⟩≠[]:=by
  unfold Txt.split
  split
  ·exact List.cons_ne_nil _ _
  ·split
   ·exact List.cons_ne_nil _ _
   ·rw [StrLaws.partsBetween_eq]
    obtain ⟨p,r,e⟩:=StrLaws.partsFrom_ne (Str.join ⟨#[c]⟩ l) (⟨#[c]⟩:Str).length 0 (Builtin.Str.occurrences (Str.join ⟨#[c]⟩ l) ⟨#[c]⟩ 0 (Str.join ⟨#[c]⟩ l).length ((Str.join ⟨#[c]⟩ l).length+1))
    rw [e];exact List.cons_ne_nil _ _
 have fr:∀ {k:List Str},(∀ p∈k,c∉p.cps.toList)->∀ p∈k.map λ x:Str=>x.cps.toList,c∉p:=λ h p hp=>by
  obtain ⟨q,hq,rfl⟩:=List.mem_map.mp hp
  exact h q hq
 have h5:=jd (fr h1) (fr h) (λ z=>h4 (List.map_eq_nil_iff.mp z)) (λ z=>hn (List.map_eq_nil_iff.mp z)) h3
 exact List.map_inj_right (λ a b e=>Str.ext' (Array.toList_inj.mp e)) |>.mp h5
end
theorem rx:(" ":Str)=⟨#[32]⟩:=by decide
theorem fJ:("\n":Str)=⟨#[10]⟩:=by decide
theorem xF {i:Int} (h0:0<=i):(∀ c∈(num i).cps.toList,48<=c/\c<=57)/\(num i).cps.toList≠[]:=by
 obtain ⟨m,rfl⟩:=Int.eq_ofNat_of_zero_le h0
 unfold num
 rw [W.KIN.signs_num]
 case k74=>skip
 refine ⟨λ c hc=>?_,λ e=>?_⟩
 ·with_reducible refine ex1 (List.mem_map.mp hc) λ ch hx_=>an2 hx_ λ hch e=>?_;clear hx_
  have r:=PyProof.Rows.digit_range (Nat.isDigit_of_mem_toDigits (by decide) (by decide) hch)
  rw [<-e];exact r
 ·have h:=Nat.length_toDigits_pos (b:=10) (n:=m)
  rw [List.map_eq_nil_iff.mp e] at h
  exact absurd h (by decide)
theorem zk {i:Int} (h:few i):(num i).length<=9/\1<=(num i).length:=by
 case k74=>skip
 refine ⟨PyProof.Rows.toString_length_le h.1 (by decide) h.2,?_⟩
 have:=(xF h.1).2
 have e:(num i).length=(num i).cps.toList.length:=Array.length_toList.symm
 rw [e]
 exact List.length_pos_iff.mpr this
theorem lD {i:Int} (h:few i):intText? (num i)=some i:=W.KIN.num_reads h.1 (by have:=h.2;lia)
theorem je {i:Int} (h:few i) (hz:(num i).cps[0]?=some 48):num i="0":=by
 obtain ⟨m,rfl⟩:=Int.eq_ofNat_of_zero_le h.1
 have hs:=(xF h.1).1
 have e:(num (m:Int)).cps.toList=(Nat.toDigits 10 m).map Char.toNat:=W.KIN.signs_num m
 have v:=W.KIN.val_back m
 rw [<-e] at v
 have t:=NumText.toDigits_all (num (m:Int)).cps.toList hs
 rw [v] at t
 rw [t] at e
 rw [<-Array.getElem?_toList] at hz
 cases q:(num (m:Int)).cps.toList with
 | nil=>rw [q] at hz;cases hz
 | cons c r=>
  rw [q] at hz e
  cases hz
  rw [List.dropWhile_cons] at e
  rw [if_pos (by decide)] at e
  cases w:r.dropWhile (· == 48) with
  | nil=>
   rw [w] at e
   refine Str.ext' (Array.toList_inj.mp ?_)
   rw [q,e];decide
  | cons d u=>
   rw [w] at e
   have l1:=congrArg List.length e
   have l2:=(List.dropWhile_sublist (l:=r) (· == 48)).length_le
   rw [w] at l2
   simp only [List.length_cons,List.length_map] at l1 l2
   lia
noncomputable def Word (w:Str):Prop:=32∉w.cps.toList/\10∉w.cps.toList
theorem zl {i:Int} (h:few i):Word (num i):=⟨λ z=>by have:=(xF h.1).1 _ z;lia,λ z=>by have:=(xF h.1).1 _ z;lia⟩
theorem uu (h:Bool):Word (xE h):=by cases h<;>exact ⟨by decide,by decide⟩
theorem pj (h:Bool):Word (xX h):=by cases h<;>exact ⟨by decide,by decide⟩
theorem yr {w:Str} (h:(!w.cps.toList.contains 32&&!w.cps.toList.contains 10)=true):Word w:=by
 simp only [Bool.and_eq_true,Bool.not_eq_true',List.contains_eq_mem,decide_eq_false_iff_not] at h
 exact h
theorem al0 {α:Type} {p:α->Prop}:∀ x∈([]:List α),p x:=λ z_ h=>(nomatch h)
theorem alc {α:Type} {p:α->Prop} {a:α} {l:List α} (h:p a) (t:∀ x∈l,p x):∀ x∈a::l,p x:=List.forall_mem_cons.mpr ⟨h,t⟩
theorem pn {d:Deed} (h:d.good):∀ w∈d.words,Word w:=by
 cases d with
 | up=>exact alc (yr (by decide)) al0
 | down o=>exact alc (yr (by decide)) (alc (zl h) al0)
 | hang o i hh=>exact alc (yr (by decide)) (alc (zl h.1) (alc (zl h.2) (alc (uu _) al0)))
theorem vH {k:Nat} (h:k<=9):few (k:Int):=⟨by lia,by lia⟩
theorem lE {t:St} {r:Row} (h:t.may r):∀ w∈r.words,Word w:=by
 cases r with
 | box b z hh=>exact alc (yr (by decide)) (alc (zl h.1) (alc (zl (vH h.2.2.2.2)) (alc (pj _) al0)))
 | slot b i o hh=>exact alc (yr (by decide)) (alc (zl h.1) (alc (zl (vH h.2.2.2.2.2)) (alc (zl h.2.1) (alc (uu _) al0))))
 | pair k l=>exact alc (yr (by decide)) (alc (zl h.1) (alc (zl h.2.2.2.2.1.1) (alc (zl h.2.2.2.2.1.2.1) (alc (zl h.2.2.2.2.1.2.2) al0))))
 | will b ds=>
  refine alc (yr (by decide)) (alc (zl h.1) λ w hw=>?_)
  with_reducible refine ex1 (List.mem_flatMap.mp hw) λ d hx_=>an2 hx_ λ hd hw=>?_;clear hx_
  exact pn (h.2.2.2.2.2 d hd) w hw
theorem lF {l:List Str} (h:∀ w∈l,Word w) (hn:l≠[]):Txt.split (Str.join " " l) ⟨#[32]⟩=l:=by
 rw [rx];exact wE (λ p hp=>(h p hp).1) hn
theorem lG {l:List Str} (h:∀ w∈l,Word w):10∉(Str.join " " l).cps.toList:=by
 rw [rx,vS]
 induction l with
 | nil=>intro z;cases z
 | cons a r ih=>
  intro z
  rw [List.map_cons,y8] at z
  rcases List.mem_append.mp z with y | y
  ·exact (h a (.head _)).2 y
  ·cases r with
   | nil=>cases y
   | cons b r=>
    rcases List.mem_cons.mp y with y | y
    ·exact absurd y (by decide)
    ·exact ih (λ w hw=>h w (.tail _ hw)) y
theorem pq {ls:List (List Str)} (h:∀ l∈ls,∀ w∈l,Word w) (hn:ls≠[]):Txt.split (Str.join "\n" (ls.map (Str.join " "))) ⟨#[10]⟩=ls.map (Str.join " "):=by
 rw [fJ]
 refine wE (λ p hp=>?_) (by simpa using hn)
 with_reducible refine ex1 (List.mem_map.mp hp) λ l hx_=>an2 hx_ λ hl hr2_=>?_;clear hx_;subst hr2_
 exact lG (h l hl)
noncomputable def asT:AV->Str
 | .int i=>num i
 | .str x=>x
 | _=>""
noncomputable def IsT0 (v:AV):Prop:=(∃ i,v=.int i/\few i)\/∃ x,v=.str x
theorem rz (f:AV->Str) (l:List AV):yF (l.map λ v=>.str (f v))=some (l.map f):=by
 induction l with
 | nil=>
  exact rfl
 | cons v r ih_=>
  show (yF (r.map λ v=>.str (f v))).map (f v::·)=_
  rw [ih_];rfl
section
variable {P:Nat->Option IFn} {n:Nat} {R:RM} {H:AH} {A:Ad} {s:St} {Q:AV->AH->Prop} {X:Nat->AH->Prop}
theorem s2 (h89:P 89=some vn) {h:Bool} (q:Q (.str (xE h)) H):CN P (n+1) 89 [.bool h] H Q X:=by
 refine zR h89 rfl ?_
 intro C_ Q_ X_ m_
 cases h
 ·case k50=>fail
  case k74=>skip
  exact q
 ·case k50=>fail
  case k74=>skip
  exact q
theorem s8 (h90:P 90=some vX) {D:Nat} {l:List AV} (hD:H D=some (.list l)) (hl:∀ v∈l,IsT0 v) (hz:((l.map asT).map (·.length)).sum+l.length<=10000) (q:∀ H',Ext0 H H'->Q (.str (Str.join " " (l.map asT))) H'):CN P (n+1) 90 [.ref D] H Q X:=by
 refine zR h90 rfl ?_
 intro C_ Q_ X_ m_
 case k50=>exact zC hD ..
 refine yA (m0:=[some (.ref D),.none,.none,.none,.none,.none,.none,.none,.none]) (H:=H) (p:=λ z_=>true) (f:=λ v=>.str (asT v)) (λ H' e=>e _ _ hD) _ _ _ _ _ (.refl _) (λ z_=>rfl) (λ v hv H4 e Q hq=>?_) (λ v hv z_ H5 e Q hq=>?_) λ H3 e3=>?_
 ·case k50=>fail
  exact hq _ (.refl _)
 ·rcases hl v hv with ⟨i,rfl,hi⟩ | ⟨x,rfl⟩
  ·have hi:i.natAbs < 10 ^ 10:=by have:=hi.1;have:=hi.2;lia
   case k50=>exact hi ..
   exact hq _ (.refl _)
  ·case k50=>fail
   exact hq _ (.refl _)
 rw [ze,List.nil_append]
 case k50=>fail
 intro b nb
 have eb:Ext0 H3 _:=Ext0.set (o:=.list (l.map λ v=>.str (asT v))) nb
 have kb:(H3.set b (.list (l.map λ v=>.str (asT v)))) b=some (.list (l.map λ v=>.str (asT v))):=AH.set_self ..
 have eb:=e3.trans eb
 have hz':((l.map asT).map (·.length)).sum+(l.map asT).length * (" ":Str).length<=16777216:=by
  rw [rx,List.length_map]
  show _+l.length * 1<=_
  lia
 show joK " " _ (.ref b) (H3.set b (.list (l.map λ v=>.str (asT v))))
 generalize H3.set b (.list (l.map λ v=>.str (asT v)))=H4 at eb kb |-
 case k50=>(first | exact kb .. | exact rz asT l .. | exact hz' ..)
 case k74=>skip
 exact q _ eb
end
noncomputable def Deed.parts:Deed->List AV
 | .up=>[.str "up"]
 | .down o=>[.str "down",.int o]
 | .hang o s h=>[.str "hang",.int o,.int s,.str (xE h)]
noncomputable def Row.parts:Row->List AV
 | .box b z h=>[.str "box",.int b,.int z,.str (xX h)]
 | .slot b i o h=>[.str "slot",.int b,.int i,.int o,.str (xE h)]
 | .pair k l=>[.str "pair",.int k,.int l.1,.int l.2.1,.int l.2.2]
 | .will b ds=>.str "will"::.int b::ds.flatMap Deed.parts
theorem jf (d:Deed):d.parts.map asT=d.words:=by cases d<;>rfl
theorem s9 (ds:List Deed):(ds.flatMap Deed.parts).map asT=ds.flatMap Deed.words:=by
 induction ds with
 | nil=>
  exact rfl
 | cons d r ih_=>
  rw [List.flatMap_cons,List.flatMap_cons,List.map_append,jf,ih_]
theorem qA (r:Row):r.parts.map asT=r.words:=by
 cases r with
 | will b ds=>show _::_::(ds.flatMap Deed.parts).map asT=_;rw [s9];rfl
 | _=>rfl
noncomputable def pr (l:List Str):Prop:=∀ w∈l,w.length<=9
theorem xG:∀ {l:List Str},pr l->(l.map (·.length)).sum<=9 * l.length
 | [],_=>Nat.zero_le _
 | w::r,h=>by
  have h1:=h w (.head _)
  have h2:=xG (l:=r) λ w hw=>h w (.tail _ hw)
  simp only [List.map_cons,List.sum_cons,List.length_cons]
  lia
theorem uw (h:Bool):(xE h).length<=9:=by cases h<;>decide
theorem pu (h:Bool):(xX h).length<=9:=by cases h<;>decide
theorem t0s (x:Str):IsT0 (.str x):=.inr ⟨x,rfl⟩
theorem t0i {i:Int} (h:few i):IsT0 (.int i):=.inl ⟨i,rfl,h⟩
theorem sa {d:Deed} (h:d.good):(∀ v∈d.parts,IsT0 v)/\pr d.words/\d.parts.length<=4:=by
 cases d with
 | up=>exact ⟨alc (t0s _) al0,alc (by decide) al0,by decide⟩
 | down o=>exact ⟨alc (t0s _) (alc (t0i h) al0),alc (by decide) (alc (zk h).1 al0),by show 2<=4;lia⟩
 | hang o i hh=>exact ⟨alc (t0s _) (alc (t0i h.1) (alc (t0i h.2) (alc (t0s _) al0))),alc (by decide) (alc (zk h.1).1 (alc (zk h.2).1 (alc (uw _) al0))),Nat.le_refl 4⟩
theorem xI:∀ {ds:List Deed},(∀ d∈ds,d.good)->(∀ v∈ds.flatMap Deed.parts,IsT0 v)/\pr (ds.flatMap Deed.words)/\(ds.flatMap Deed.parts).length<=4 * ds.length
 | [],_=>⟨λ z_ h=>(nomatch h),λ z_ h=>(nomatch h),Nat.zero_le _⟩
 | d::r,h=>by
  obtain ⟨a1,a2,a3⟩:=sa (h d (.head _))
  obtain ⟨b1,b2,b3⟩:=xI (ds:=r) λ d hd=>h d (.tail _ hd)
  rw [List.flatMap_cons,List.flatMap_cons]
  case k74=>skip
  refine ⟨λ v hv=>?_,λ w hw=>?_,by rw [List.length_append,List.length_cons];lia⟩
  ·rcases List.mem_append.mp hv with y | y
   ·exact a1 v y
   ·exact b1 v y
  ·rcases List.mem_append.mp hw with y | y
   ·exact a2 w y
   ·exact b2 w y
theorem wp {t:St} {r:Row} (h:t.may r):(∀ v∈r.parts,IsT0 v)/\pr r.words/\r.parts.length<=40:=by
 cases r with
 | box b z hh=>
  have f:=vH h.2.2.2.2
  case k74=>skip
  exact ⟨alc (t0s _) (alc (t0i h.1) (alc (t0i f) (alc (t0s _) al0))),alc (by decide) (alc (zk h.1).1 (alc (zk f).1 (alc (pu _) al0))),by show 4<=40;lia⟩
 | slot b i o hh=>
  have f:=vH h.2.2.2.2.2
  case k74=>skip
  exact ⟨alc (t0s _) (alc (t0i h.1) (alc (t0i f) (alc (t0i h.2.1) (alc (t0s _) al0)))),alc (by decide) (alc (zk h.1).1 (alc (zk f).1 (alc (zk h.2.1).1 (alc (uw _) al0)))),by show 5<=40;lia⟩
 | pair k l=>
  obtain ⟨f1,f2,f3⟩:=h.2.2.2.2.1
  case k74=>skip
  exact ⟨alc (t0s _) (alc (t0i h.1) (alc (t0i f1) (alc (t0i f2) (alc (t0i f3) al0)))),alc (by decide) (alc (zk h.1).1 (alc (zk f1).1 (alc (zk f2).1 (alc (zk f3).1 al0)))),by show 5<=40;lia⟩
 | will b ds=>
  obtain ⟨a1,a2,a3⟩:=xI h.2.2.2.2.2
  have hl:=h.2.2.2.2.1
  case k74=>skip
  exact ⟨alc (t0s _) (alc (t0i h.1) a1),alc (by decide) (alc (zk h.1).1 a2),by show (ds.flatMap Deed.parts).length+2<=40;lia⟩
section
variable {P:Nat->Option IFn} {n:Nat} {R:RM} {H:AH} {A:Ad} {s:St} {Q:AV->AH->Prop} {X:Nat->AH->Prop}
theorem xY (h90:P 90=some vX) {D:Nat} {t:St} {r:Row} (h:t.may r) (hD:H D=some (.list r.parts)) (q:∀ H',Ext0 H H'->Q (.str r.text) H'):CN P (n+1) 90 [.ref D] H Q X:=by
 with_reducible refine an3 (wp h) λ a1 a2 a3=>?_
 have e:=qA r
 have hs:=xG a2
 have el:=congrArg List.length e
 rw [List.length_map] at el
 refine s8 h90 hD a1 (by rw [e];lia) λ H' e'=>?_
 rw [e];exact q H' e'
theorem tW (h91:P 91=some tm) (h89:P 89=some vn) {d:Deed} (q:∀ D H',H D=.none->H' D=some (.list d.parts)->Ext0 H H'->Q (.ref D) H'):CN P (n+2) 91 [d.av] H Q X:=by
 cases d with
 | up=>
  refine zR h91 rfl ?_
  intro C_ Q_ X_ m_
  case k50=>fail
  intro D nD
  case k74=>skip
  exact q D _ nD (AH.set_self ..) (Ext0.set nD)
 | down o=>
  refine zR h91 rfl ?_
  intro C_ Q_ X_ m_
  case k50=>fail
  intro D nD
  case k74=>skip
  exact q D _ nD (AH.set_self ..) (Ext0.set nD)
 | hang o i hh=>
  refine zR h91 rfl ?_
  intro C_ Q_ X_ m_
  case k50=>fail
  refine s2 h89 ?_
  case k50=>fail
  intro D nD
  case k74=>skip
  exact q D _ nD (AH.set_self ..) (Ext0.set nD)
end
theorem jg {l:List Row}:∀ {t:St},t.mays l->∀ r∈l,∃ t:St,t.may r:=by
 induction l with
 | nil=>intro t _ r h;cases h
 | cons a l ih=>
  intro t h r hr
  rcases List.mem_cons.mp hr with rfl | hr
  ·case k74=>skip
   exact ⟨t,h.1⟩
  ·exact ih h.2 r hr
structure St.Wr (s:St):Prop where
 ok:s.Ok
 nb:s.nb<=10 ^ 8
 np:s.np<=10 ^ 8
 wk:s.Wok
 w9:∀ b,(s.willOf b).length<=9
theorem St.Wr.may {s:St} (h:s.Wr):∀ r∈z7 s,∃ t:St,t.may r:=jg (lC h.ok h.nb h.np h.wk h.w9).1
noncomputable def zD (l:List Row) (h:Str):List AV:=.str h::l.map λ r=>.str r.text
theorem yS (l:List Row) (h:Str) (r:Row):zD l h++[.str r.text]=zD (l++[r]) h:=by simp [zD]
theorem vT (b:Int) (q:List Slot):∀ (p:List Slot) (i:Nat),zE b i (p++q)=zE b i p++zE b (i+p.length) q:=by
 intro p
 induction p with
 | nil=>intro i;rfl
 | cons v p ih=>
  intro i
  have e:i+1+p.length=i+(p.length+1):=by lia
  cases v with
  | none=>show zE b (i+1) (p++q)=zE b (i+1) p++zE b (i+(p.length+1)) q;rw [ih,e]
  | some oh=>show Row.slot b i oh.1 oh.2::zE b (i+1) (p++q)=Row.slot b i oh.1 oh.2::zE b (i+1) p++zE b (i+(p.length+1)) q;rw [ih,e];rfl
theorem yt (b:Int):∀ (p:List Slot) (i:Nat),(zE b i p).length<=p.length:=by
 intro p
 induction p with
 | nil=>intro i;exact Nat.zero_le _
 | cons v p ih=>
  intro i
  have:=ih (i+1)
  cases v with
  | none=>show (zE b (i+1) p).length<=p.length+1;lia
  | some oh=>show (zE b (i+1) p).length+1<=p.length+1;lia
noncomputable def fK (b:Int) (j:Nat):Slot->List Row
 | .none=>[]
 | some (o,h)=>[.slot b j o h]
theorem xZ {b:Int} {l:List Slot} {j:Nat} {v:Slot} (h:l[j]?=some v):zE b 0 (l.take (j+1))=zE b 0 (l.take j)++fK b j v:=by
 have hj:=(List.getElem?_eq_some_iff.mp h).1
 rw [List.take_add_one,h,Option.toList_some,vT,List.length_take,Nat.min_eq_left (by lia),Nat.zero_add]
 cases v<;>rfl
theorem vU {b:Int} {j:Nat} {o:Int} {h:Bool} {l:List Slot} (hj:l[j]?=some (some (o,h))):Row.slot b j o h∈zE b 0 l:=by
 have e:zE b 0 l=zE b 0 (l.take (j+1))++zE b (0+(l.take (j+1)).length) (l.drop (j+1)):=by rw [<-vT,List.take_append_drop]
 rw [e,xZ hj]
 exact List.mem_append_left _ (List.mem_append_right _ (.head _))
theorem ux:∀ {l:List AV},(∀ v∈l,IsT0 v)->∃ ds,AV.data.go l=some ds/\ds.length=l.length/\PyData.depthAll ds=0
 | [],_=>⟨[],rfl,rfl,rfl⟩
 | v::r,h=>by
  obtain ⟨ds,h1,h2,h3⟩:=ux (l:=r) λ v hv=>h v (.tail _ hv)
  rcases h v (.head _) with ⟨i,rfl,_⟩ | ⟨x,rfl⟩
  ·case k74=>skip
   exact ⟨.int i::ds,by simp only [AV.data.go,AV.data,h1],by simp [h2],by simp [PyData.depthAll,PyData.depth,h3]⟩
  ·case k74=>skip
   exact ⟨.str x::ds,by simp only [AV.data.go,AV.data,h1],by simp [h2],by simp [PyData.depthAll,PyData.depth,h3]⟩
theorem dG {H:AH} {a b:Nat} {l:List AV} (ha:H a=some (.list l)) (hb:H b=some (.list [])) (hl:∀ v∈l,IsT0 v):Rd0 (wCmp .ne (.ref a) (.ref b) H) H (.bool (!l.isEmpty)):=by
 with_reducible refine ex1 (ux hl) λ ds hx_=>an3 hx_ λ h1 h2 h3=>?_;clear hx_
 have da:zq H (.ref a)=some (.list ds):=by simp only [zq,data1,ha,h1];rfl
 have db:zq H (.ref b)=some (.list []):=by simp only [zq,data1,hb];rfl
 refine cm_ne (r:=l.isEmpty) da db (Nat.le_trans (Nat.min_le_right _ _) (by decide)) ?_
 cases l with
 | nil=>cases ds with
  | nil=>rfl
  | cons=>simp at h2
 | cons v l=>cases ds with
  | nil=>simp at h2
  | cons=>rfl
theorem pw (ds:List Deed):(ds.flatMap Deed.parts).isEmpty=ds.isEmpty:=by
 cases ds with
 | nil=>rfl
 | cons d r=>cases d<;>rfl
theorem x9 {s:St} (ok:s.Ok):∀ {l:List Int},(∀ b∈l,b∈s.ks)->(l.flatMap λ b=>zE b 0 (s.row b)).length<=9 * l.length
 | [],_=>Nat.zero_le _
 | b::r,h=>by
  have h1:=ok.rl b (h b (.head _))
  have h2:=yt b (s.row b) 0
  have h3:=x9 ok (l:=r) λ b hb=>h b (.tail _ hb)
  rw [List.flatMap_cons,List.length_append,List.length_cons]
  lia
theorem tX {t:St} {r:Row} (h:t.may r):r.text.length<=400:=by
 obtain ⟨-,a2,a3⟩:=wp h
 have h1:=xG a2
 have h2:=StrLaws.join_length_le (" ":Str) r.words
 have h3:=congrArg List.length (qA r)
 rw [List.length_map] at h3
 have h4:(" ":Str).length=1:=by rw [rx];rfl
 rw [h4] at h2
 unfold Row.text
 lia
theorem iW:∀ {l:List Str},(∀ w∈l,w.length<=400)->(l.map (·.length)).sum<=400 * l.length
 | [],_=>Nat.zero_le _
 | w::r,h=>by
  have h1:=h w (.head _)
  have h2:=iW (l:=r) λ w hw=>h w (.tail _ hw)
  simp only [List.map_cons,List.sum_cons,List.length_cons]
  lia
theorem jh {s:St} (ok:s.Ok):(z7 s).length<=720:=by
 have kl:=ok.kl
 have ll:=ok.ll
 have fl:=x9 ok (l:=zA s.ks) λ b hb=>mem_sortI.mp hb
 have wl:(willing s).length<=(zA s.ks).length:=List.length_filter_le _ _
 rw [zB] at fl wl
 unfold z7
 simp only [List.length_append,List.length_map,zB]
 lia
theorem uy (l:List Row) (h:Str):yF (zD l h)=some (h::l.map Row.text):=by
 have:∀ l:List Row,yF (l.map λ r=>.str r.text)=some (l.map Row.text):=by
  intro l
  induction l with
  | nil=>rfl
  | cons r l ih=>show (yF (l.map λ r=>.str r.text)).map (r.text::·)=_;rw [ih];rfl
 show (yF (l.map λ r=>.str r.text)).map (h::·)=_
 rw [this];rfl
theorem yw (k:Nat):(zJ 0 (k:Int)).length=k:=by simp [zJ]
noncomputable def mV (c L h:Nat) (a3 a4 a5 a6 a7 a8 a9:Option AV):Loc:=[some (.ref c),some (.ref L),some (.ref h),a3,a4,a5,a6,a7,a8,a9,.none,.none,.none,.none,.none,.none,.none,.none]
noncomputable def vI (s:St) (l:List Int):List Row:=l.flatMap λ b=>zE b 0 (s.row b)
noncomputable def wN (s:St) (l:List Int):List Row:=l.map λ k=>.pair k (s.link k)
noncomputable def wO (s:St) (l:List Int):List Row:=(l.filter (hasW s)).map λ b=>.will b (s.willOf b)
section
variable {P:Nat->Option IFn} {n:Nat} {R:RM} {H0 H:AH} {A:Ad} {s:St} {L h:Nat} {hd:Str} {bs:List Row} {a3 a4 a5 a6 a7 a8 a9:Option AV} {r:ISs} {Q:Fl->Loc->AH->Prop} {X:Nat->Loc->AH->Prop}
theorem ji (h90:P 90=some vX) (p:yB P) (x:Chest R H0 A s) (w:s.Wr) (e:Ext0 H0 H) (nL:H0 L=.none) (nh:h≠L) (kh:H h=some (.list ((zA s.hs).map .int))) (kL:H L=some (.list (zD [] hd)))
  (q:∀ a3 a4 H',Ext0 H0 H'->H' L=some (.list (zD ((zA s.ks).map (yP s)) hd))->WSs (CN P (n+3)) r (mV A.c L h a3 a4 a5 a6 a7 a8 a9) H' Q X) :
  WSs (CN P (n+3)) (.cons (.for (.one 3) (.val (.meth (.var 0) 24 .nil)) (.cons (.asg 4 (.cs "free")) (.cons (.ite (.val (.cmp .isIn (.var 3) (.var 2))) (.cons (.asg 4 (.cs "hand")) .nil) .nil) (.cons (.ex (.meth (.var 1) 0 (.cons (.call 90 (.cons (.list (.cons (.cs "box") (.cons (.var 3) (.cons (.meth (.var 0) 25 (.cons (.var 3) .nil)) (.cons (.var 4) .nil))))) .nil)) .nil))) .nil)))) r) (mV A.c L h a3 a4 a5 a6 a7 a8 a9) H Q X:=by
 have kl:=w.ok.kl
 have wm:=w.may
 have skl:(zA s.ks).length<=60:=by rw [zB];exact kl
 have x1:=x.ext e
 case k50=>(first | exact x1.c .. | exact x1.dx ..)
 refine y5 (n:=n+2) p.h24 x1 (by omega) λ Lb H5 nLb kb e5=>?_
 have nb':Lb≠L:=λ z=>by rw [z,kL] at nLb;cases nLb
 have kL:=e5 _ _ kL
 have kh:=e5 _ _ kh
 have e5:=e.trans e5
 clear x1 nLb e
 case k50=>exact zC kb ..
 let I142_:Nat->Loc->AH->Prop:=(λ i m' H'=>∃ (a3 a4:Option AV),m'=mV A.c L h a3 a4 a5 a6 a7 a8 a9/\OnlyK L H5 H'/\H' L=some (.list (zD (((zA s.ks).take i).map (yP s)) hd)))
 refine zH I142_ (λ i v m' H' J0 hJ0 K0 hK0 hv hI=>?_) (λ m' H' hI=>?_) ⟨_,_,rfl,.refl _ _,kL⟩
 ·clear kL
  with_reducible refine ex2 (hI) λ a3 a4 hx_=>an3 hx_ λ hr2_ oH kL=>?_;clear hx_;(try clear hI);subst hr2_
  with_reducible refine ex1 (yQ hv) λ b hx_=>an3 hx_ λ hb hr2_ hbs=>?_;clear hx_;subst hr2_
  have hbk:=mem_sortI.mp hbs
  have kh:=oH _ _ nh kh
  have xH:=x.ext (oH.new e5 nL)
  obtain ⟨t,ht⟩:=wm (yP s b) (List.mem_append_left _ (List.mem_map.mpr ⟨b,hbs,rfl⟩))
  case k74=>skip
  refine ⟨oH _ _ nb' kb,_,rfl,?_⟩
  have hm:decide (b∈zA s.hs)=decide (b∈s.hs):=by simp [mem_sortI]
  iterate 1 (case k31=>fail)
  let I153_:Loc->AH->Prop:=(λ m' H''=>H''=H'/\m'=mV A.c L h (some (.int b)) (some (.str (xX (decide (b∈s.hs))))) a5 a6 a7 a8 a9)
  refine uJ I153_ (λ J1 hJ1=>?_) ?_
  ·case k50=>exact xx b kh ..
   refine zf (λ h=>?_) (λ h=>?_)
   ·rw [hm] at h
    have e:xX (decide (b∈s.hs))="hand":=by rw [h];rfl
    case k50=>fail
    exact hJ1 _ _ _ ⟨rfl,rfl,by rw [e];rfl⟩
   ·rw [hm] at h
    have e:xX (decide (b∈s.hs))="free":=by rw [h];rfl
    case k50=>fail
    exact hJ1 _ _ _ ⟨rfl,rfl,by rw [e];rfl⟩
  ·rintro m1 H1' ⟨rfl,rfl⟩
   case k50=>(first | exact xH.c .. | exact xH.dx .. | exact kL ..)
   refine wK (n:=n+1) p.h25 p.h21 xH hbk ?_
   case k50=>fail
   intro D2 n2
   have e6:Ext0 H1' _:=Ext0.set (o:=.list [.str "box",.int b,.int (s.row b).length,.str (xX (decide (b∈s.hs)))]) n2
   have k6:(H1'.set D2 (.list [.str "box",.int b,.int (s.row b).length,.str (xX (decide (b∈s.hs)))])) D2=some (.list (yP s b).parts):=AH.set_self ..
   generalize H1'.set D2 (.list [.str "box",.int b,.int (s.row b).length,.str (xX (decide (b∈s.hs)))])=H6 at e6 k6 |-
   case k50=>fail
   refine xY (n:=n+2) h90 ht k6 λ H7 e7=>?_
   have kL:=e7 _ _ (e6 _ _ kL)
   have lt:(zD (((zA s.ks).take i).map (yP s)) hd).length < lid:=by
    simp only [zD,List.length_cons,List.length_map,List.length_take];unfold lid;omega
   case k50=>(first | exact kL .. | exact lt ..)
   case k74=>skip
   refine em2 _ _ ⟨rfl,((oH.ext e6).ext e7).set,?_⟩
   rw [AH.set_self,yS,zc hb,List.map_append];rfl
 with_reducible refine ex2 (hI) λ a3 a4 hx_=>an3 hx_ λ hr2_ oH kL=>?_;clear hx_;(try clear hI);subst hr2_
 case k74=>skip
 refine ⟨oH _ _ nb' kb,?_⟩
 have kL:H' L=some (.list (zD (((zA s.ks).take ((zA s.ks).map AV.int).length).map (yP s)) hd)):=kL
 rw [yE] at kL
 case k74=>skip
 exact q _ _ _ (oH.new e5 nL) kL
theorem dH (h90:P 90=some vX) (h89:P 89=some vn) (p:yB P) (x:Chest R H0 A s) (w:s.Wr) (e:Ext0 H0 H) (nL:H0 L=.none) {b:Int} (hbs:b∈zA s.ks) (kL:H L=some (.list (zD bs hd))) (bl:bs.length<=620)
  (q:∀ a5 a6 H',OnlyK L H H'->H' L=some (.list (zD (bs++zE b 0 (s.row b)) hd))->WSs (CN P (n+3)) r (mV A.c L h (some (.int b)) a4 a5 a6 a7 a8 a9) H' Q X) :
  WSs (CN P (n+3)) (.cons (.for (.one 5) (.range (.ci 0) (.meth (.var 0) 25 (.cons (.var 3) .nil))) (.cons (.asg 6 (.meth (.var 0) 28 (.cons (.var 3) (.cons (.var 5) .nil)))) (.cons (.ite (.val (.cmp .isNot (.var 6) .cn)) (.cons (.ex (.meth (.var 1) 0 (.cons (.call 90 (.cons (.list (.cons (.cs "slot") (.cons (.var 3) (.cons (.var 5) (.cons (.idx (.var 6) (.ci 0)) (.cons (.call 89 (.cons (.idx (.var 6) (.ci 1)) .nil)) .nil)))))) .nil)) .nil))) .nil) .nil) .nil))) r) (mV A.c L h (some (.int b)) a4 a5 a6 a7 a8 a9) H Q X:=by
 have wm:=w.may
 have hbk:=mem_sortI.mp hbs
 have rl:=w.ok.rl b hbk
 have x1:=x.ext e
 case k50=>(first | exact x1.c .. | exact x1.dx ..)
 refine wK (n:=n+1) p.h25 p.h21 x1 hbk ?_
 clear x1
 case k50=>fail
 let I196_:Nat->Loc->AH->Prop:=(λ j m' H'=>∃ (a5 a6:Option AV),m'=mV A.c L h (some (.int b)) a4 a5 a6 a7 a8 a9/\OnlyK L H H'/\H' L=some (.list (zD (bs++zE b 0 ((s.row b).take j)) hd)))
 refine zH I196_ (λ j v m' H' J0 hJ0 K0 hK0 hv hI=>?_) (λ m' H' hI=>?_) ⟨_,_,rfl,.refl _ _,by rw [List.take_zero];exact (List.append_nil _).symm▸kL⟩
 ·clear kL
  with_reducible refine ex2 (hI) λ a5 a6 hx_=>an3 hx_ λ hr2_ oH kL=>?_;clear hx_;(try clear hI);subst hr2_
  obtain ⟨hj,rfl⟩:=xb hv
  have ej:(0+(j:Int)).toNat=j:=by lia
  have hj:j < (s.row b).length:=by lia
  have xH:=x.ext (oH.new e nL)
  case k74=>skip
  refine ⟨trivial,_,rfl,?_⟩
  case k50=>(first | exact xH.c .. | exact xH.dx ..)
  have hg:(s.row b)[j]?=some (s.row b)[j]:=List.getElem?_eq_getElem hj
  generalize (s.row b)[j]=v at hg
  refine uF (n:=n) (v:=v) p.h28 p.h21 p.h22 xH hbk (by lia) (by rw [ej];exact hg) ?_
  have es:=xZ (b:=b) hg
  cases v with
  | none=>
   case k50=>fail
   case k74=>skip
   refine em2 _ _ ⟨rfl,oH,?_⟩
   rw [es]
   exact (List.append_nil _).symm▸kL
  | some oh=>
   obtain ⟨o,h⟩:=oh
   obtain ⟨t,ht⟩:=wm (.slot b j o h) (List.mem_append_right _ (List.mem_append_left _ (List.mem_flatMap.mpr ⟨b,hbs,vU hg⟩)))
   case k50=>exact kL ..
   refine s2 (n:=n+2) h89 ?_
   case k50=>fail
   intro D2 n2
   have e7:Ext0 H' _:=Ext0.set (o:=.list [.str "slot",.int b,.int (0+(j:Int)),.int o,.str (xE h)]) n2
   have k7:(H'.set D2 (.list [.str "slot",.int b,.int (0+(j:Int)),.int o,.str (xE h)])) D2=some (.list (Row.slot b j o h).parts):=by
    rw [AH.set_self,Int.zero_add];rfl
   generalize H'.set D2 (.list [.str "slot",.int b,.int (0+(j:Int)),.int o,.str (xE h)])=H7 at e7 k7 |-
   case k50=>fail
   refine xY (n:=n+2) h90 ht k7 λ H8 e8=>?_
   have kL:=e8 _ _ (e7 _ _ kL)
   have sl:=yt b ((s.row b).take j) 0
   have lt:(zD (bs++zE b 0 ((s.row b).take j)) hd).length < lid:=by
    rw [List.length_take] at sl
    simp only [zD,List.length_cons,List.length_map,List.length_append];unfold lid;lia
   case k50=>(first | exact kL .. | exact lt ..)
   case k74=>skip
   refine em2 _ _ ⟨rfl,((oH.ext e7).ext e8).set,?_⟩
   rw [AH.set_self,yS,es]
   exact congrArg (λ z=>some (AO.list (zD z hd))) (List.append_assoc _ _ _)
 with_reducible refine ex2 (hI) λ a5 a6 hx_=>an3 hx_ λ hr2_ oH kL=>?_;clear hx_;(try clear hI);subst hr2_
 have kL:H' L=some (.list (zD (bs++zE b 0 ((s.row b).take (zJ 0 ((s.row b).length:Int)).length)) hd)):=kL
 rw [yw,List.take_length] at kL
 case k74=>skip
 refine ⟨trivial,?_⟩
 case k74=>skip
 exact q _ _ _ oH kL
theorem jj (h90:P 90=some vX) (h89:P 89=some vn) (p:yB P) (x:Chest R H0 A s) (w:s.Wr) (e:Ext0 H0 H) (nL:H0 L=.none) (kL:H L=some (.list (zD bs hd))) (bl:bs.length<=60)
  (q:∀ a3 a5 a6 H',Ext0 H0 H'->H' L=some (.list (zD (bs++vI s (zA s.ks)) hd))->WSs (CN P (n+3)) r (mV A.c L h a3 a4 a5 a6 a7 a8 a9) H' Q X) :
  WSs (CN P (n+3)) (.cons (.for (.one 3) (.val (.meth (.var 0) 24 .nil)) (.cons (.for (.one 5) (.range (.ci 0) (.meth (.var 0) 25 (.cons (.var 3) .nil))) (.cons (.asg 6 (.meth (.var 0) 28 (.cons (.var 3) (.cons (.var 5) .nil)))) (.cons (.ite (.val (.cmp .isNot (.var 6) .cn)) (.cons (.ex (.meth (.var 1) 0 (.cons (.call 90 (.cons (.list (.cons (.cs "slot") (.cons (.var 3) (.cons (.var 5) (.cons (.idx (.var 6) (.ci 0)) (.cons (.call 89 (.cons (.idx (.var 6) (.ci 1)) .nil)) .nil)))))) .nil)) .nil))) .nil) .nil) .nil))) .nil)) r) (mV A.c L h a3 a4 a5 a6 a7 a8 a9) H Q X:=by
 have kl:=w.ok.kl
 have skl:(zA s.ks).length<=60:=by rw [zB];exact kl
 have x1:=x.ext e
 case k50=>(first | exact x1.c .. | exact x1.dx ..)
 refine y5 (n:=n+2) p.h24 x1 (by lia) λ Lb H5 nLb kb e5=>?_
 have nb':Lb≠L:=λ z=>by rw [z,kL] at nLb;cases nLb
 have kL:=e5 _ _ kL
 have e5:=e.trans e5
 clear x1 nLb e
 case k50=>exact zC kb ..
 let I255_:Nat->Loc->AH->Prop:=(λ i m' H'=>∃ (a3 a5 a6:Option AV),m'=mV A.c L h a3 a4 a5 a6 a7 a8 a9/\OnlyK L H5 H'/\H' L=some (.list (zD (bs++vI s ((zA s.ks).take i)) hd)))
 refine zH I255_ (λ i v m' H' J0 hJ0 K0 hK0 hv hI=>?_) (λ m' H' hI=>?_) ⟨_,_,_,rfl,.refl _ _,(List.append_nil _).symm▸kL⟩
 ·clear kL
  with_reducible refine ex3 (hI) λ a3 a5 a6 hx_=>an3 hx_ λ hr3_ oH kL=>?_;clear hx_;(try clear hI);subst hr3_
  with_reducible refine ex1 (yQ hv) λ b hx_=>an3 hx_ λ hb hr2_ hbs=>?_;clear hx_;subst hr2_
  have fl:(vI s ((zA s.ks).take i)).length<=_:=x9 w.ok (l:=(zA s.ks).take i) λ b hb=>mem_sortI.mp (List.mem_of_mem_take hb)
  rw [List.length_take] at fl
  case k74=>skip
  refine ⟨oH _ _ nb' kb,_,rfl,?_⟩
  refine dH (n:=n) (a7:=a7) (a8:=a8) (a9:=a9) h90 h89 p x w (oH.new e5 nL) nL hbs kL (by rw [List.length_append];lia) λ a5 a6 H2 o2 k2=>?_
  case k50=>fail
  case k74=>skip
  refine em3 _ _ _ ⟨rfl,λ a o ha h=>o2 a o ha (oH a o ha h),?_⟩
  rw [zc hb]
  unfold vI
  rw [List.flatMap_append,List.flatMap_cons,List.flatMap_nil,List.append_nil,<-List.append_assoc]
  exact k2
 with_reducible refine ex3 (hI) λ a3 a5 a6 hx_=>an3 hx_ λ hr3_ oH kL=>?_;clear hx_;(try clear hI);subst hr3_
 case k74=>skip
 refine ⟨oH _ _ nb' kb,?_⟩
 have kL:H' L=some (.list (zD (bs++vI s ((zA s.ks).take ((zA s.ks).map AV.int).length)) hd)):=kL
 rw [yE] at kL
 case k74=>skip
 exact q _ _ _ _ (oH.new e5 nL) kL
theorem jk (h90:P 90=some vX) (p:yB P) (x:Chest R H0 A s) (w:s.Wr) (e:Ext0 H0 H) (nL:H0 L=.none) (kL:H L=some (.list (zD bs hd))) (bl:bs.length<=600)
  (q:∀ a7 H',Ext0 H0 H'->H' L=some (.list (zD (bs++wN s (zA s.ls)) hd))->WSs (CN P (n+3)) r (mV A.c L h a3 a4 a5 a6 a7 a8 a9) H' Q X) :
  WSs (CN P (n+3)) (.cons (.for (.one 7) (.val (.meth (.var 0) 35 .nil)) (.cons (.ex (.meth (.var 1) 0 (.cons (.call 90 (.cons (.bin .add (.list (.cons (.cs "pair") .nil)) (.bi .list (.cons (.var 7) .nil))) .nil)) .nil))) .nil)) r) (mV A.c L h a3 a4 a5 a6 a7 a8 a9) H Q X:=by
 have ll:=w.ok.ll
 have wm:=w.may
 have x1:=x.ext e
 case k50=>(first | exact x1.c .. | exact x1.dx ..)
 refine w8 (n:=n+2) p.h35 x1 (by lia) λ Lp H6 nLp kp e6=>?_
 have np':Lp≠L:=λ z=>by rw [z,kL] at nLp;cases nLp
 have kL:=e6 _ _ kL
 have e6:=e.trans e6
 clear nLp x1 e
 case k50=>exact zC kp ..
 let I287_:Nat->Loc->AH->Prop:=(λ i m' H'=>∃ (a7:Option AV),m'=mV A.c L h a3 a4 a5 a6 a7 a8 a9/\OnlyK L H6 H'/\H' L=some (.list (zD (bs++wN s ((zA s.ls).take i)) hd)))
 refine zH I287_ (λ i v m' H' J0 hJ0 K0 hK0 hv hI=>?_) (λ m' H' hI=>?_) ⟨_,rfl,.refl _ _,(List.append_nil _).symm▸kL⟩
 ·clear kL
  with_reducible refine ex1 (hI) λ a7 hx_=>an3 hx_ λ hr1_ oH kL=>?_;clear hx_;(try clear hI);subst hr1_
  with_reducible refine ex1 (yQ hv) λ b hx_=>an3 hx_ λ hb hr2_ hbk=>?_;clear hx_;subst hr2_
  have hbi:=(List.getElem?_eq_some_iff.mp hb).1
  rw [zB] at hbi
  obtain ⟨t,ht⟩:=wm (.pair b (s.link b)) (List.mem_append_right _ (List.mem_append_right _ (List.mem_append_left _ (List.mem_map.mpr ⟨b,hbk,rfl⟩))))
  case k74=>skip
  refine ⟨oH _ _ np' kp,_,rfl,?_⟩
  case k50=>exact kL ..
  intro D1 n1
  have e7:Ext0 H' _:=Ext0.set (o:=.list [.str "pair"]) n1
  have k7:(H'.set D1 (.list [.str "pair"])) D1=some (.list [.str "pair"]):=AH.set_self ..
  generalize H'.set D1 (.list [.str "pair"])=H7 at e7 k7 |-
  case k50=>fail
  intro D2 n2
  have e8:Ext0 H7 _:=Ext0.set (o:=.list [.int b,.int (s.link b).1,.int (s.link b).2.1,.int (s.link b).2.2]) n2
  have k8:(H7.set D2 (.list [.int b,.int (s.link b).1,.int (s.link b).2.1,.int (s.link b).2.2])) D2=some (.list [.int b,.int (s.link b).1,.int (s.link b).2.1,.int (s.link b).2.2]):=AH.set_self ..
  have k7:=e8 _ _ k7
  have e8:=e7.trans e8
  generalize H7.set D2 (.list [.int b,.int (s.link b).1,.int (s.link b).2.1,.int (s.link b).2.2])=H8 at e8 k7 k8 |-
  case k50=>(first | exact k7 .. | exact k8 ..)
  intro D3 n3
  have e9:Ext0 H8 _:=Ext0.set (o:=.list ([.str "pair"]++[.int b,.int (s.link b).1,.int (s.link b).2.1,.int (s.link b).2.2])) n3
  have k9:(H8.set D3 (.list ([.str "pair"]++[.int b,.int (s.link b).1,.int (s.link b).2.1,.int (s.link b).2.2]))) D3=some (.list (Row.pair b (s.link b)).parts):=AH.set_self ..
  have e9:=e8.trans e9
  generalize H8.set D3 (.list ([.str "pair"]++[.int b,.int (s.link b).1,.int (s.link b).2.1,.int (s.link b).2.2]))=H9 at e9 k9 |-
  case k50=>fail
  refine xY (n:=n+2) h90 ht k9 λ HA eA=>?_
  have kL:=eA _ _ (e9 _ _ kL)
  have lt:(zD (bs++wN s ((zA s.ls).take i)) hd).length < lid:=by
   simp only [zD,wN,List.length_cons,List.length_map,List.length_append,List.length_take];unfold lid;lia
  case k50=>(first | exact kL .. | exact lt ..)
  case k74=>skip
  refine ⟨_,rfl,((oH.ext e9).ext eA).set,?_⟩
  rw [AH.set_self,yS,zc hb]
  unfold wN
  rw [List.map_append]
  exact congrArg (λ z=>some (AO.list (zD z hd))) (List.append_assoc _ _ _)
 with_reducible refine ex1 (hI) λ a7 hx_=>an3 hx_ λ hr1_ oH kL=>?_;clear hx_;(try clear hI);subst hr1_
 case k74=>skip
 refine ⟨oH _ _ np' kp,?_⟩
 have kL:H' L=some (.list (zD (bs++wN s ((zA s.ls).take ((zA s.ls).map (yW s)).length)) hd)):=kL
 rw [yE] at kL
 case k74=>skip
 exact q _ _ (oH.new e6 nL) kL
theorem jm (h91:P 91=some tm) (h89:P 89=some vn) (p:yB P) (x:Chest R H0 A s) (w:s.Wr) (e:Ext0 H0 H) {b:Int} (hbk:b∈s.ks)
  (q:∀ W a9 H',Ext0 H H'->H' W=some (.list ((s.willOf b).flatMap Deed.parts))->WSs (CN P (n+3)) r (mV A.c L h (some (.int b)) a4 a5 a6 a7 (some (.ref W)) a9) H' Q X) :
  WSs (CN P (n+3)) (.cons (.asg 8 (.list .nil)) (.cons (.for (.one 9) (.val (.meth (.var 0) 37 (.cons (.var 3) .nil))) (.cons (.asg 8 (.bin .add (.var 8) (.call 91 (.cons (.var 9) .nil)))) .nil)) r)) (mV A.c L h (some (.int b)) a4 a5 a6 a7 a8 a9) H Q X:=by
 case k50=>fail
 intro W nW
 have e7:Ext0 H _:=Ext0.set (o:=.list []) nW
 have k7:(H.set W (.list [])) W=some (.list []):=AH.set_self ..
 generalize H.set W (.list [])=H7 at e7 k7 |-
 have x7:=x.ext (e.trans e7)
 case k50=>(first | exact x7.c .. | exact x7.dx ..)
 refine uH (n:=n+1) p.h37 p.h21 x7 hbk λ Lw H8 nLw kw e8=>?_
 have k8:=e8 _ _ k7
 have e8:=e7.trans e8
 clear e7 k7 x7 nLw nW
 case k50=>exact zC kw ..
 let I344_:Nat->Loc->AH->Prop:=(λ j m' H'=>∃ (W:Nat) (a9:Option AV),m'=mV A.c L h (some (.int b)) a4 a5 a6 a7 (some (.ref W)) a9/\Ext0 H8 H'/\H' W=some (.list (((s.willOf b).take j).flatMap Deed.parts)))
 refine zH I344_ (λ j v m' H' J0 hJ0 K0 hK0 hv hI=>?_) (λ m' H' hI=>?_) ⟨_,_,rfl,.refl _,k8⟩
 ·with_reducible refine ex2 (hI) λ W a9 hx_=>an3 hx_ λ hr2_ eW kW=>?_;clear hx_;(try clear hI);subst hr2_
  have hv:((s.willOf b).map Deed.av)[j]?=some v:=hv
  rw [List.getElem?_map] at hv
  with_reducible refine ex1 (Option.map_eq_some_iff.mp hv) λ d hx_=>an2 hx_ λ hd' hr2_=>?_;clear hx_;subst hr2_
  have w9:=w.w9 b
  obtain ⟨-,-,dl⟩:=xI (ds:=(s.willOf b).take j) λ d hd=>yI w.wk b d (List.mem_of_mem_take hd)
  obtain ⟨-,-,dl1⟩:=sa (yI w.wk b d (List.mem_of_getElem? hd'))
  rw [List.length_take] at dl
  case k74=>skip
  refine ⟨eW _ _ kw,_,rfl,?_⟩
  case k50=>fail
  refine tW (n:=n+1) h91 h89 λ D H9 nD kD e9=>?_
  have kW:=e9 _ _ kW
  have hz:((((s.willOf b).take j).flatMap Deed.parts).length+d.parts.length<=lid):=by unfold lid;lia
  case k50=>(first | exact kW .. | exact kD .. | exact hz ..)
  intro W2 n2
  have e10:Ext0 H9 _:=Ext0.set (o:=.list (((s.willOf b).take j).flatMap Deed.parts++d.parts)) n2
  case k74=>skip
  refine em2 _ _ ⟨rfl,(eW.trans e9).trans e10,?_⟩
  rw [AH.set_self,List.take_add_one,hd',Option.toList_some,List.flatMap_append,List.flatMap_cons,List.flatMap_nil,List.append_nil]
 with_reducible refine ex2 (hI) λ W a9 hx_=>an3 hx_ λ hr2_ eW kW=>?_;clear hx_;(try clear hI);subst hr2_
 have kW:H' W=some (.list (((s.willOf b).take ((s.willOf b).map Deed.av).length).flatMap Deed.parts)):=kW
 rw [List.length_map,List.take_length] at kW
 case k74=>skip
 refine ⟨eW _ _ kw,?_⟩
 case k74=>skip
 exact q _ _ _ (e8.trans eW) kW
theorem jo (h91:P 91=some tm) (h90:P 90=some vX) (h89:P 89=some vn) (p:yB P) (x:Chest R H0 A s) (w:s.Wr) (e:Ext0 H0 H) (nL:H0 L=.none) (kL:H L=some (.list (zD bs hd))) (bl:bs.length<=660)
  (q:∀ a3 a8 a9 H',Ext0 H0 H'->H' L=some (.list (zD (bs++wO s (zA s.ks)) hd))->WSs (CN P (n+3)) r (mV A.c L h a3 a4 a5 a6 a7 a8 a9) H' Q X) :
  WSs (CN P (n+3)) (.cons (.for (.one 3) (.val (.meth (.var 0) 24 .nil)) (.cons (.asg 8 (.list .nil)) (.cons (.for (.one 9) (.val (.meth (.var 0) 37 (.cons (.var 3) .nil))) (.cons (.asg 8 (.bin .add (.var 8) (.call 91 (.cons (.var 9) .nil)))) .nil)) (.cons (.ite (.val (.cmp .ne (.var 8) (.list .nil))) (.cons (.ex (.meth (.var 1) 0 (.cons (.call 90 (.cons (.bin .add (.list (.cons (.cs "will") (.cons (.var 3) .nil))) (.var 8)) .nil)) .nil))) .nil) .nil) .nil)))) r) (mV A.c L h a3 a4 a5 a6 a7 a8 a9) H Q X:=by
 have kl:=w.ok.kl
 have wm:=w.may
 have skl:(zA s.ks).length<=60:=by rw [zB];exact kl
 have x1:=x.ext e
 case k50=>(first | exact x1.c .. | exact x1.dx ..)
 refine y5 (n:=n+2) p.h24 x1 (by lia) λ Lb H5 nLb kb e5=>?_
 have nb':Lb≠L:=λ z=>by rw [z,kL] at nLb;cases nLb
 have kL:=e5 _ _ kL
 have e5:=e.trans e5
 clear x1 nLb e
 case k50=>exact zC kb ..
 let I382_:Nat->Loc->AH->Prop:=(λ i m' H'=>∃ (a3 a8 a9:Option AV),m'=mV A.c L h a3 a4 a5 a6 a7 a8 a9/\OnlyK L H5 H'/\H' L=some (.list (zD (bs++wO s ((zA s.ks).take i)) hd)))
 refine zH I382_ (λ i v m' H' J0 hJ0 K0 hK0 hv hI=>?_) (λ m' H' hI=>?_) ⟨_,_,_,rfl,.refl _ _,(List.append_nil _).symm▸kL⟩
 ·clear kL
  with_reducible refine ex3 (hI) λ a3 a8 a9 hx_=>an3 hx_ λ hr3_ oH kL=>?_;clear hx_;(try clear hI);subst hr3_
  with_reducible refine ex1 (yQ hv) λ b hx_=>an3 hx_ λ hb hr2_ hbs=>?_;clear hx_;subst hr2_
  case k74=>skip
  refine ⟨oH _ _ nb' kb,_,rfl,?_⟩
  refine jm (n:=n) (a8:=a8) (a9:=a9) h91 h89 p x w (oH.new e5 nL) (mem_sortI.mp hbs) λ W a9 H8 e8 kW=>?_
  have kL:=e8 _ _ kL
  have oH:=oH.ext e8
  case k50=>fail
  intro Z nZ
  have e9:Ext0 H8 _:=Ext0.set (o:=.list []) nZ
  have kZ:(H8.set Z (.list [])) Z=some (.list []):=AH.set_self ..
  generalize H8.set Z (.list [])=H9 at e9 kZ |-
  have kW:=e9 _ _ kW
  have kL:=e9 _ _ kL
  have oH:=oH.ext e9
  obtain ⟨pt,-,-⟩:=xI (yI w.wk b)
  refine op_cmp (dG kW kZ pt) ?_
  rw [pw]
  have ew:(!(s.willOf b).isEmpty)=hasW s b:=rfl
  rw [ew]
  have fe:((zA s.ks).take (i+1)).filter (hasW s)=((zA s.ks).take i).filter (hasW s)++(if hasW s b then [b] else []):=by
   rw [zc hb,List.filter_append]
   by_cases z:hasW s b=true<;>simp [z]
  case k50=>fail
  refine zf (λ h=>?_) (λ h=>?_)
  ·rw [if_pos h] at fe
   obtain ⟨t,ht⟩:=wm (.will b (s.willOf b)) (List.mem_append_right _ (List.mem_append_right _ (List.mem_append_right _ (List.mem_map.mpr ⟨b,List.mem_filter.mpr ⟨hbs,h⟩,rfl⟩))))
   case k50=>exact kL ..
   intro D1 n1
   have e10:Ext0 H9 _:=Ext0.set (o:=.list [.str "will",.int b]) n1
   have k10:(H9.set D1 (.list [.str "will",.int b])) D1=some (.list [.str "will",.int b]):=AH.set_self ..
   generalize H9.set D1 (.list [.str "will",.int b])=H10 at e10 k10 |-
   have kW:=e10 _ _ kW
   have pl:=(wp ht).2.2
   have hz:[AV.str "will",AV.int b].length+((s.willOf b).flatMap Deed.parts).length<=lid:=by
    have:((s.willOf b).flatMap Deed.parts).length+2<=40:=pl
    show 2+_<=lid
    unfold lid;lia
   case k50=>(first | exact k10 .. | exact kW .. | exact hz ..)
   intro D3 n3
   have e11:Ext0 H10 _:=Ext0.set (o:=.list ([.str "will",.int b]++(s.willOf b).flatMap Deed.parts)) n3
   have k11:(H10.set D3 (.list ([.str "will",.int b]++(s.willOf b).flatMap Deed.parts))) D3=some (.list (Row.will b (s.willOf b)).parts):=AH.set_self ..
   have e11:=e10.trans e11
   generalize H10.set D3 (.list ([.str "will",.int b]++(s.willOf b).flatMap Deed.parts))=H11 at e11 k11 |-
   case k50=>fail
   refine xY (n:=n+2) h90 ht k11 λ H12 e12=>?_
   have kL:=e12 _ _ (e11 _ _ kL)
   have fw:(((zA s.ks).take i).filter (hasW s)).length<=60:=Nat.le_trans (List.length_filter_le _ _) (by rw [List.length_take];lia)
   have lt:(zD (bs++wO s ((zA s.ks).take i)) hd).length < lid:=by
    simp only [zD,wO,List.length_cons,List.length_map,List.length_append];unfold lid;lia
   case k50=>(first | exact kL .. | exact lt ..)
   case k74=>skip
   refine em3 _ _ _ ⟨rfl,((oH.ext e11).ext e12).set,?_⟩
   unfold wO
   rw [AH.set_self,yS,fe,List.map_append]
   exact congrArg (λ z=>some (AO.list (zD z hd))) (List.append_assoc _ _ _)
  ·rw [if_neg (by rw [h];exact Bool.noConfusion),List.append_nil] at fe
   case k50=>fail
   case k74=>skip
   refine em3 _ _ _ ⟨rfl,oH,?_⟩
   unfold wO
   rw [fe];exact kL
 with_reducible refine ex3 (hI) λ a3 a8 a9 hx_=>an3 hx_ λ hr3_ oH kL=>?_;clear hx_;(try clear hI);subst hr3_
 case k74=>skip
 refine ⟨oH _ _ nb' kb,?_⟩
 have kL:H' L=some (.list (zD (bs++wO s ((zA s.ks).take ((zA s.ks).map AV.int).length)) hd)):=kL
 rw [yE] at kL
 case k74=>skip
 exact q _ _ _ _ (oH.new e5 nL) kL
end
section
variable {P:Nat->Option IFn} {n:Nat} {R:RM} {H:AH} {A:Ad} {s:St} {Q:AV->AH->Prop} {X:Nat->AH->Prop}
theorem xz (w:s.Wr):few s.nb/\few s.np:=⟨⟨w.ok.nb,by have:=w.nb;omega⟩,⟨w.ok.np,by have:=w.np;omega⟩⟩
theorem uz (w:s.Wr):pr (yk s):=by
 obtain ⟨fb,fp⟩:=xz w
 exact alc (by decide) (alc (zk fb).1 (alc (zk fp).1 al0))
theorem qo (w:s.Wr):(Str.join " " (yk s)).length<=400:=by
 have h2:=StrLaws.join_length_le (" ":Str) (yk s)
 have h4:(" ":Str).length=1:=by rw [rx];rfl
 rw [h4] at h2
 have h3:=xG (uz w)
 have h5:(yk s).length=3:=rfl
 lia
theorem sd (w:s.Wr):((Str.join " " (yk s)::(z7 s).map Row.text).map (·.length)).sum+(Str.join " " (yk s)::(z7 s).map Row.text).length * ("\n":Str).length<=16777216:=by
 have wm:=w.may
 have hl:=qo w
 have rl:=jh w.ok
 have sl:=iW (l:=Str.join " " (yk s)::(z7 s).map Row.text) λ w hw=>by
  rcases List.mem_cons.mp hw with rfl | hw
  ·exact hl
  ·with_reducible refine ex1 (List.mem_map.mp hw) λ r hx_=>an2 hx_ λ hr hr2_=>?_;clear hx_;subst hr2_
   obtain ⟨t,ht⟩:=wm r hr
   exact tX ht
 have h4:("\n":Str).length=1:=by rw [fJ];rfl
 rw [h4]
 simp only [List.length_cons,List.length_map] at sl |-
 lia
theorem xJ (h92:P 92=some o0) (h91:P 91=some tm) (h90:P 90=some vX) (h89:P 89=some vn) (p:yB P) (x:Chest R H A s) (w:s.Wr)
  (q:∀ H',Ext0 H H'->Q (.str (yZ s)) H'):CN P (n+4) 92 [.ref A.c] H Q X:=by
 have kl:=w.ok.kl
 have ll:=w.ok.ll
 obtain ⟨hl,-⟩:=w.ok.lens
 have fl:(vI s (zA s.ks)).length<=_:=x9 w.ok (l:=zA s.ks) λ b hb=>mem_sortI.mp hb
 rw [zB] at fl
 obtain ⟨fb,fp⟩:=xz w
 refine zR h92 rfl ?_
 intro C_ Q_ X_ m_
 case k50=>(first | exact x.c .. | exact x.dx ..)
 intro D nD
 have e1:Ext0 H _:=Ext0.set (o:=.list [.str "next",.int s.nb,.int s.np]) nD
 have k1:(H.set D (.list [.str "next",.int s.nb,.int s.np])) D=some (.list [.str "next",.int s.nb,.int s.np]):=AH.set_self ..
 generalize H.set D (.list [.str "next",.int s.nb,.int s.np])=H1 at e1 k1 |-
 have lb:=(zk fb).1
 have lp:=(zk fp).1
 case k50=>fail
 refine s8 (n:=n+2) h90 k1 (alc (t0s _) (alc (t0i fb) (alc (t0i fp) al0))) ?_ λ H2 e2=>?_
 ·show (4:Nat)+((num s.nb).length+((num s.np).length+0))+3<=10000
  lia
 have e2:=e1.trans e2
 case k50=>fail
 intro L nL
 have nLH:H L=.none:=e2.back nL
 have e3:Ext0 H2 _:=Ext0.set (o:=.list [.str (Str.join " " ([AV.str "next",.int s.nb,.int s.np].map asT))]) nL
 have k3:(H2.set L (.list [.str (Str.join " " ([AV.str "next",.int s.nb,.int s.np].map asT))])) L=some (.list (zD [] (Str.join " " (yk s)))):=AH.set_self ..
 have e3:=e2.trans e3
 generalize H2.set L (.list [.str (Str.join " " ([AV.str "next",.int s.nb,.int s.np].map asT))])=H3 at k3 e3 |-
 have x3:=x.ext e3
 case k50=>(first | exact x3.c .. | exact x3.dx ..)
 refine vb (n:=n+2) p.h32 x3 (by lia) λ Lh H4 nLh kh e4=>?_
 have nh:Lh≠L:=λ z=>by rw [z,k3] at nLh;cases nLh
 have k4:=e4 _ _ k3
 have e4:=e3.trans e4
 clear e1 k1 e2 e3 x3 k3 nLh
 iterate 1 (case k31=>fail)
 refine ji (n:=n) (a3:=.none) (a4:=.none) (a5:=.none) (a6:=.none) (a7:=.none) (a8:=.none) (a9:=.none) h90 p x w e4 nLH nh kh k4 λ a3 a4 H5 e5 k5=>?_
 refine jj (n:=n) h90 h89 p x w e5 nLH k5 (by rw [List.length_map,zB];exact kl) λ a3 a5 a6 H6 e6 k6=>?_
 refine jk (n:=n) h90 p x w e6 nLH k6 (by rw [List.length_append,List.length_map,zB];lia) λ a7 H7 e7 k7=>?_
 refine jo (n:=n) h91 h90 h89 p x w e7 nLH k7 (by simp only [wN,List.length_append,List.length_map,zB] at fl |-;lia) λ a3 a8 a9 H8 e8 k8=>?_
 rw [List.append_assoc,List.append_assoc] at k8
 have k8:H8 L=some (.list (zD (z7 s) (Str.join " " (yk s)))):=k8
 have hz:=sd w
 case k50=>(first | exact k8 .. | exact uy (z7 s) (Str.join " " (yk s)) .. | exact hz ..)
 case k74=>skip
 exact q _ e8
end
theorem xm {i:Int} (h:few i):i.natAbs < 10 ^ 10:=by have:=h.1;have:=h.2;lia
theorem px (l:List Str):yF (l.map .str)=some l:=by
 induction l with
 | nil=>rfl
 | cons a l ih=>show (yF (l.map .str)).map (a::·)=_;rw [ih];rfl
theorem vJ {l:List Int} (h:l.Nodup):zA (zA l)=zA l:=
 rm (xV _) (xV _) (zF (zF h)) (zF h) λ z_=>mem_sortI
theorem py {l:List Int} (h:l.Nodup) (hs:l.Pairwise (·<=·)):zA l=l:=rm (xV _) hs (zF h) h λ z_=>mem_sortI
structure Vc (H:AH) (B:Wd) (V C:Nat) (s:St):Prop where
 v:Vw H B (zi s)
 l:H V=some (.list [.ref B.w0,.ref B.w1,.ref B.w2,.ref B.w3,.ref C])
 c:H C=some (.list [.int s.nb,.int s.np])
theorem Vc.ext {H H':AH} {B:Wd} {V C:Nat} {s:St} (x:Vc H B V C s) (e:Ext0 H H'):Vc H' B V C s:=⟨x.v.ext e,e _ _ x.l,e _ _ x.c⟩
section
variable {P:Nat->Option IFn} {n:Nat} {R:RM} {H:AH} {A:Ad} {s:St} {B:Wd} {V C:Nat} {Q:AV->AH->Prop} {X:Nat->AH->Prop}
theorem tA {K:AV->AH->Prop} {D:Nat} {l:List Str} (h:pr l) (hl:l.length<=100) (hD:H D=some (.list (l.map .str))) (q:K (.str (Str.join " " l)) H):joK " " K (.ref D) H:=by
 have h1:=xG h
 refine op_join hD (px l) ?_ q
 rw [rx]
 show _+l.length * 1<=_
 lia
theorem vg {K:AV->AH->Prop} {D:Nat} {t:St} {r:Row} (h:t.may r) (hD:H D=some (.list (r.words.map .str))) (q:K (.str r.text) H):joK " " K (.ref D) H:=by
 obtain ⟨-,a2,a3⟩:=wp h
 have e:=congrArg List.length (qA r)
 rw [List.length_map] at e
 exact tA a2 (by lia) hD q
theorem vV (h103:P 103=some wR) {h:Bool} (q:∀ H',Ext0 H H'->Q (.str (xE h)) H'):CN P (n+1) 103 [.bool h] H Q X:=by
 refine zR h103 rfl ?_
 intro C_ Q_ X_ m_
 case k50=>fail
 intro D nD
 have e1:Ext0 H _:=Ext0.set (o:=.list [.str "looks",.str "holds"]) nD
 have k1:(H.set D (.list [.str "looks",.str "holds"])) D=some (.list [.str "looks",.str "holds"]):=AH.set_self ..
 generalize H.set D (.list [.str "looks",.str "holds"])=H1 at e1 k1 |-
 cases h
 ·case k50=>exact k1 ..
  case k74=>skip
  exact q _ e1
 ·case k50=>exact k1 ..
  case k74=>skip
  exact q _ e1
theorem se (h104:P 104=some u9) (h103:P 103=some wR) (x:Vc H B V C s) (w:s.Wr) {b:Int} (hb:b∈zA s.ks)
  (q:∀ L H',H L=.none->H' L=some (.list ((zE b 0 (s.row b)).map λ r=>.str r.text))->Ext0 H H'->Q (.ref L) H'):CN P (n+2) 104 [.ref V,.int b] H Q X:=by
 have ok:=w.ok
 have wm:=w.may
 have hbk:=mem_sortI.mp hb
 have rl:=ok.rl b hbk
 refine zR h104 rfl ?_
 intro C_ Q_ X_ m_
 case k50=>fail
 intro L nL
 have e1:Ext0 H _:=Ext0.set (o:=.list []) nL
 have k1:(H.set L (.list [])) L=some (.list []):=AH.set_self ..
 generalize H.set L (.list [])=H1 at e1 k1 |-
 have hd:dget (dOf (zi s).ks λ k=>.ref (B.ra k)) b=some (.ref (B.ra b)):=zY hb
 have x1:=x.ext e1
 obtain ⟨ep,w0⟩:=x1.v.w0
 have xr:H1 (B.ra b)=some (.list ((s.row b).map zL)):=x1.v.row b hb
 case k50=>(first | exact x1.l .. | exact w0 .. | exact hd .. | exact xr ..)
 let I74_:Nat->Loc->AH->Prop:=(λ j m' H'=>∃ (a3 a4:Option AV),m'=[some (.ref V),some (.int b),some (.ref L),a3,a4,.none,.none,.none,.none,.none,.none,.none,.none]/\Ext0 H H'/\H' L=some (.list ((zE b 0 ((s.row b).take j)).map λ r=>.str r.text)))
 refine zH I74_ (λ j v m' H' J0 hJ0 K0 hK0 hv hI=>?_) (λ m' H' hI=>?_) ⟨_,_,rfl,e1,k1⟩
 ·clear x1 w0 xr k1
  with_reducible refine ex2 (hI) λ a3 a4 hx_=>an3 hx_ λ hr2_ eH kL=>?_;clear hx_;(try clear hI);subst hr2_
  obtain ⟨hj,rfl⟩:=xb hv
  have ej:(0+(j:Int)).toNat=j:=by lia
  rw [List.length_map] at hj
  have hj:j < (s.row b).length:=by lia
  have xH:=x.ext eH
  obtain ⟨ep,w0⟩:=xH.v.w0
  have xr:H' (B.ra b)=some (.list ((s.row b).map zL)):=xH.v.row b hb
  have hg:(s.row b)[j]?=some (s.row b)[j]:=List.getElem?_eq_getElem hj
  generalize (s.row b)[j]=v at hg
  have hg2:((s.row b).map zL)[(0+(j:Int)).toNat]?=some (zL v):=by rw [ej,List.getElem?_map,hg];rfl
  have es:=xZ (b:=b) hg
  case k74=>skip
  refine ⟨trivial,_,rfl,?_⟩
  iterate 1 (case k31=>(first | exact xH.l .. | exact w0 .. | exact hd .. | exact xr .. | exact hg2 ..))
  cases v with
  | none=>
   case k50=>fail
   case k74=>skip
   refine em2 _ _ ⟨rfl,eH,?_⟩
   rw [es]
   exact (List.append_nil _).symm▸kL
  | some oh=>
   obtain ⟨o,h⟩:=oh
   obtain ⟨t,ht⟩:=wm (.slot b j o h) (List.mem_append_right _ (List.mem_append_left _ (List.mem_flatMap.mpr ⟨b,hb,vU hg⟩)))
   have f1:=xm ht.1
   have f2:=xm ht.2.1
   have f3:(0+(j:Int)).natAbs < 10 ^ 10:=by lia
   case k50=>(first | exact kL .. | exact f1 .. | exact f2 .. | exact f3 ..)
   refine vV h103 λ H2 e2=>?_
   case k50=>fail
   intro D nD
   have e3:Ext0 H2 _:=Ext0.set (o:=.list [.str "slot",.str (num b),.str (num (0+(j:Int))),.str (num o),.str (xE h)]) nD
   have k3:(H2.set D (.list [.str "slot",.str (num b),.str (num (0+(j:Int))),.str (num o),.str (xE h)])) D=some (.list ((Row.slot b j o h).words.map .str)):=by
    rw [AH.set_self,Int.zero_add];rfl
   show joK _ _ _ (H2.set D (.list [.str "slot",.str (num b),.str (num (0+(j:Int))),.str (num o),.str (xE h)]))
   generalize H2.set D (.list [.str "slot",.str (num b),.str (num (0+(j:Int))),.str (num o),.str (xE h)])=H3 at e3 k3 |-
   refine vg ht k3 ?_
   have e3:=e2.trans e3
   have kL:=e3 _ _ kL
   have sl:=yt b ((s.row b).take j) 0
   have lt:((zE b 0 ((s.row b).take j)).map λ r=>AV.str r.text).length < lid:=by
    rw [List.length_take] at sl
    rw [List.length_map];unfold lid;lia
   case k50=>(first | exact kL .. | exact lt ..)
   case k74=>skip
   refine em2 _ _ ⟨rfl,?_,?_⟩
   ·exact λ a o' ha=>(AH.set_ne _ _ λ z=>by rw [z,nL] at ha;cases ha).trans (e3 a o' (eH a o' ha))
   ·rw [AH.set_self,es,List.map_append];rfl
 with_reducible refine ex2 (hI) λ a3 a4 hx_=>an3 hx_ λ hr2_ eH kL=>?_;clear hx_;(try clear hI);subst hr2_
 case k74=>skip
 refine ⟨trivial,?_⟩
 have kL:H' L=some (.list ((zE b 0 ((s.row b).take (zJ 0 (((s.row b).map zL).length:Int)).length)).map λ r=>.str r.text)):=kL
 rw [yw,List.length_map,List.take_length] at kL
 case k50=>fail
 case k74=>skip
 exact q L H' nL kL eH
theorem sf {Cl:Calls} {Y:Nat->AH->Prop} {x:Nat} {m0 m:Loc} {ok:AH->Prop} {K:AV->AH->Prop} {items:List AV} (hok:∀ H',Ext0 H H'->ok H') (hm:∀ v,m.set x v=m0.set x v) (hx:x < m0.length) (hl:∀ v∈items,IsT0 v)
  (q:∀ L H',Ext0 H H'->H L=.none->H' L=some (.list ((items.map asT).map .str))->K (.ref L) H'):wQ ok (zz (.one x)) (kA Cl Y .nil) (kE Cl Y (.bi .str (.cons (.var x) .nil))) items m H [] (nq K):=by
 refine yA (m0:=m0) (H:=H) (p:=λ z_=>true) (f:=λ v=>.str (asT v)) hok _ _ _ _ _ (.refl _) hm (λ v hv H4 e Q hq=>hq _ (.refl _)) (λ v hv z_ H5 e Q hq=>?_) λ H3 e3=>?_
 ·have hv':(m0.set x (some v))[x]?=some (some v):=List.getElem?_set_self hx
  rcases hl v hv with ⟨i,rfl,hi⟩ | ⟨y,rfl⟩
  ·exact (ev_bi1 (ev_var hv') (bi_strI (xm hi))).run _ _ _ (hq _ (.refl _))
  ·exact (ev_bi1 (ev_var hv') bi_strS).run _ _ _ (hq _ (.refl _))
 rw [ze,List.nil_append]
 intro L nL
 have e:items.map (λ v=>AV.str (asT v))=(items.map asT).map .str:=by rw [List.map_map];rfl
 rw [e]
 case k74=>skip
 exact q L _ (e3.trans (Ext0.set nL)) (e3.back nL) (AH.set_self ..)
noncomputable def Deed.w0:Deed->Str
 | .up=>"up"
 | .down _=>"down"
 | .hang ..=>"hang"
noncomputable def Deed.rest:Deed->List AV
 | .up=>[]
 | .down o=>[.int o]
 | .hang o i h=>[.int o,.int i,.bool h]
noncomputable def Deed.mid:Deed->List AV
 | .up=>[]
 | .down o=>[.int o]
 | .hang o i _=>[.int o,.int i]
noncomputable def Deed.isHang:Deed->Bool
 | .hang ..=>true
 | _=>false
theorem Deed.av_eq (d:Deed):d.av=.tup (.str d.w0::d.rest):=by cases d<;>rfl
theorem Deed.cut (d:Deed):xK (.str d.w0::d.rest) (.int 1) (.int 3) .none=some d.mid:=by cases d<;>rfl
theorem Deed.hang_eq (d:Deed):PyData.eqv (.str d.w0) (.str "hang")=d.isHang:=by cases d<;>rfl
theorem Deed.mid_ok {d:Deed} (h:d.good):∀ v∈d.mid,IsT0 v:=by
 cases d with
 | up=>exact al0
 | down o=>exact alc (t0i h) al0
 | hang o i _=>exact alc (t0i h.1) (alc (t0i h.2) al0)
theorem Deed.mid_len (d:Deed):d.mid.length<=2:=by cases d<;>exact Nat.le_of_ble_eq_true rfl
noncomputable def yC (b:Int) (ds:List Deed):List AV:=(Row.will b ds).words.map .str
theorem pz {b:Int} {ds:List Deed} (h:∀ d∈ds,d.good):(yC b ds).length<=2+4 * ds.length:=by
 obtain ⟨-,-,a3⟩:=xI h
 have e:=congrArg List.length (s9 ds)
 rw [List.length_map] at e
 show ((_::_::ds.flatMap Deed.words).map AV.str).length<=_
 rw [List.length_map,List.length_cons,List.length_cons]
 lia
theorem qB (b:Int) (ds:List Deed) (o i:Int) (h:Bool):yC b ds++[.str "hang"]++((Deed.hang o i h).mid.map asT).map .str++[.str (xE h)]=yC b (ds++[.hang o i h]):=by
 simp [yC,Row.words,Deed.mid,Deed.words,asT]
theorem oA (b:Int) (ds:List Deed) {d:Deed} (h:d.isHang=false):yC b ds++[.str d.w0]++(d.mid.map asT).map .str=yC b (ds++[d]):=by
 cases d with
 | hang o i h'=>cases h
 | _=>simp [yC,Row.words,Deed.w0,Deed.mid,Deed.words,asT]
noncomputable def mW (b:Int) (D W:Nat) (a3:Option AV):Loc:=[some (.int b),some (.ref D),some (.ref W),a3,.none,.none,.none,.none,.none,.none,.none,.none]
theorem sg (h105:P 105=some ua) (h103:P 103=some wR) {b:Int} {ds:List Deed} {D:Nat} {t:St} (ht:t.may (.will b ds)) (hD:H D=some (.list (ds.map Deed.av)))
  (q:∀ H',Ext0 H H'->Q (.str (Row.will b ds).text) H'):CN P (n+2) 105 [.int b,.ref D] H Q X:=by
 have f1:=xm ht.1
 have hl:=ht.2.2.2.2.1
 have hg:=ht.2.2.2.2.2
 refine zR h105 rfl ?_
 intro C_ Q_ X_ m_
 case k50=>exact f1 ..
 intro W nW
 have e1:Ext0 H _:=Ext0.set (o:=.list [.str "will",.str (num b)]) nW
 have k1:(H.set W (.list [.str "will",.str (num b)])) W=some (.list (yC b [])):=AH.set_self ..
 show WSs _ _ _ (H.set W (.list [.str "will",.str (num b)])) _ _
 generalize H.set W (.list [.str "will",.str (num b)])=H1 at e1 k1 |-
 have hD1:=e1 _ _ hD
 case k50=>exact zC hD1 ..
 let I194_:Nat->Loc->AH->Prop:=(λ j m' H'=>∃ (W:Nat) (a3:Option AV),m'=mW b D W a3/\Ext0 H H'/\H' W=some (.list (yC b (ds.take j))))
 refine zH I194_ (λ j v m' H' J0 hJ0 K0 hK0 hv hI=>?_) (λ m' H' hI=>?_) ⟨W,.none,rfl,e1,k1⟩
 ·with_reducible refine ex2 (hI) λ W a3 hx_=>an3 hx_ λ hr2_ eH kW=>?_;clear hx_;(try clear hI);subst hr2_
  rw [List.getElem?_map] at hv
  with_reducible refine ex1 (Option.map_eq_some_iff.mp hv) λ d hx_=>an2 hx_ λ hd hr2_=>?_;clear hx_;subst hr2_
  have gd:=hg d (List.mem_of_getElem? hd)
  have wl:=pz (b:=b) (ds:=ds.take j) λ d h=>hg d (List.mem_of_mem_take h)
  rw [List.length_take] at wl
  have ml:=d.mid_len
  have et:ds.take (j+1)=ds.take j++[d]:=by rw [List.take_add_one,hd];rfl
  case k74=>skip
  refine ⟨eH _ _ hD,_,rfl,?_⟩
  rw [d.av_eq]
  case k50=>fail
  intro D1 n1
  have e2:Ext0 H' _:=Ext0.set (o:=.list [.str d.w0]) n1
  have k2:(H'.set D1 (.list [.str d.w0])) D1=some (.list [.str d.w0]):=AH.set_self ..
  generalize H'.set D1 (.list [.str d.w0])=H2 at e2 k2 |-
  have kW:=e2 _ _ kW
  have hz:(yC b (ds.take j)).length+[AV.str d.w0].length<=lid:=by unfold lid;show _+1<=_;lia
  case k50=>(first | exact kW .. | exact k2 .. | exact hz ..)
  intro D2 n2
  have e3:Ext0 H2 _:=Ext0.set (o:=.list (yC b (ds.take j)++[.str d.w0])) n2
  have k3:(H2.set D2 (.list (yC b (ds.take j)++[.str d.w0]))) D2=some (.list (yC b (ds.take j)++[.str d.w0])):=AH.set_self ..
  have e3:=e2.trans e3
  generalize H2.set D2 (.list (yC b (ds.take j)++[.str d.w0]))=H3 at e3 k3 |-
  clear e2 k2 kW n2 n1
  case k50=>exact d.cut ..
  refine sf (m0:=mW b D W (some (.tup (.str d.w0::d.rest)))) (λ z_ z_=>trivial) (λ z_=>rfl) (Nat.le_of_ble_eq_true rfl) (d.mid_ok gd) λ D3 H4 e4 n3 k4=>?_
  have k3:=e4 _ _ k3
  have e4:=e3.trans e4
  have hz:(yC b (ds.take j)++[AV.str d.w0]).length+((d.mid.map asT).map AV.str).length<=lid:=by
   rw [List.length_append,List.length_map,List.length_map]
   unfold lid;show _+1+_<=_;lia
  case k50=>(first | exact k3 .. | exact k4 .. | exact hz ..)
  intro W2 n4
  have n4':H W2=.none:=eH.back (e4.back n4)
  have e5a:Ext0 H4 _:=Ext0.set (o:=.list (yC b (ds.take j)++[.str d.w0]++(d.mid.map asT).map .str)) n4
  have k5:(H4.set W2 (.list (yC b (ds.take j)++[.str d.w0]++(d.mid.map asT).map .str))) W2=some (.list (yC b (ds.take j)++[.str d.w0]++(d.mid.map asT).map .str)):=AH.set_self ..
  have e5:=eH.trans (e4.trans e5a)
  clear e5a
  generalize H4.set W2 (.list (yC b (ds.take j)++[.str d.w0]++(d.mid.map asT).map .str))=H5 at e5 k5 |-
  clear e4 k4 k3 e3 n3 n4
  case k50=>exact d.hang_eq ..
  refine zf (λ h=>?_) (λ h=>?_)
  ·cases d with
   | hang o i hh=>
    case k50=>exact k5 ..
    refine vV h103 λ H6 e6=>?_
    have k6:=e6 _ _ k5
    have lt:(yC b (ds.take j)++[AV.str (Deed.hang o i hh).w0]++((Deed.hang o i hh).mid.map asT).map AV.str).length < lid:=by
     rw [List.length_append,List.length_append,List.length_map,List.length_map]
     unfold lid;show _+1+_ < _;lia
    case k50=>(first | exact k6 .. | exact lt ..)
    case k74=>skip
    refine em2 _ _ ⟨rfl,?_,?_⟩
    ·exact λ a o' ha=>(AH.set_ne _ _ λ z=>by rw [z,n4'] at ha;cases ha).trans (e6 a o' (e5 a o' ha))
    ·rw [AH.set_self,et];exact congrArg (λ z=>some (AO.list z)) (qB ..)
   | _=>cases h
  ·case k50=>fail
   case k74=>skip
   refine em2 _ _ ⟨rfl,e5,?_⟩
   rw [et,<-oA _ _ h];exact k5
 with_reducible refine ex2 (hI) λ W a3 hx_=>an3 hx_ λ hr2_ eH kW=>?_;clear hx_;(try clear hI);subst hr2_
 case k74=>skip
 refine ⟨eH _ _ hD,?_⟩
 have kW:H' W=some (.list (yC b (ds.take (ds.map Deed.av).length))):=kW
 rw [List.length_map,List.take_length] at kW
 case k50=>fail
 exact vg ht kW (q _ eH)
end
noncomputable def mT (V L:Nat) (a2 a3 a4:Option AV):Loc:=[some (.ref V),some (.ref L),a2,a3,a4,.none,.none,.none,.none,.none,.none,.none,.none]
theorem fM {H:AH} {D:Nat} {h:Bool} {x y:Str} (hD:H D=some (.list [.str x,.str y])):Rd0 (wIdx (.ref D) (.int (if h then 1 else 0)) H) H (.str (if h then y else x)):=by
 cases h
 ·exact ix_L hD (by decide) rfl
 ·exact ix_L hD (by decide) rfl
section
variable {P:Nat->Option IFn} {n:Nat} {H0 H:AH} {s:St} {B:Wd} {V C L:Nat} {hd:Str} {bs:List Row} {a2 a3 a4:Option AV} {r:ISs} {Q:Fl->Loc->AH->Prop} {X:Nat->Loc->AH->Prop}
theorem jp (x:Vc H0 B V C s) (w:s.Wr) (e:Ext0 H0 H) (nL:H0 L=.none) (kL:H L=some (.list (zD [] hd)))
  (q:∀ a2 a3 H',Ext0 H0 H'->H' L=some (.list (zD ((zA s.ks).map (yP s)) hd))->WSs (CN P n) r (mT V L a2 a3 a4) H' Q X) :
  WSs (CN P n) (.cons (.for (.one 2) (.val (.bi .sorted (.cons (.idx (.var 0) (.ci 0)) .nil))) (.cons (.asg 3 (.idx (.list (.cons (.cs "free") (.cons (.cs "hand") .nil))) (.bi .int (.cons (.cmp .isIn (.var 2) (.idx (.var 0) (.ci 1))) .nil)))) (.cons (.ex (.meth (.var 1) 0 (.cons (.join " " (.list (.cons (.cs "box") (.cons (.bi .str (.cons (.var 2) .nil)) (.cons (.bi .str (.cons (.bi .len (.cons (.idx (.idx (.var 0) (.ci 0)) (.var 2)) .nil)) .nil)) (.cons (.var 3) .nil)))))) .nil))) .nil))) r) (mT V L a2 a3 a4) H Q X:=by
 have ok:=w.ok
 have kl:=ok.kl
 have wm:=w.may
 have skl:(zA s.ks).length<=60:=by rw [zB];exact kl
 have x0:=x.ext e
 obtain ⟨ep,w0⟩:=x0.v.w0
 have so:(zW (.ref B.w0) H).bind z4=some (zA s.ks):=yh w0
 have sl:(zA s.ks).length < 64:=by lia
 case k50=>(first | exact x0.l .. | exact so .. | exact sl ..)
 intro Lb nLb
 have e1:Ext0 H _:=Ext0.set (o:=.list ((zA (zA s.ks)).map .int)) nLb
 have kb:(H.set Lb (.list ((zA (zA s.ks)).map .int))) Lb=some (.list ((zA s.ks).map .int)):=by rw [AH.set_self,vJ ok.ku]
 generalize H.set Lb (.list ((zA (zA s.ks)).map .int))=H1 at e1 kb |-
 have nb:Lb≠L:=λ z=>by rw [z,kL] at nLb;cases nLb
 have kL:=e1 _ _ kL
 have e1:=e.trans e1
 clear x0 w0 so nLb e
 case k50=>exact zC kb ..
 let I289_:Nat->Loc->AH->Prop:=(λ i m' H'=>∃ (a2 a3:Option AV),m'=mT V L a2 a3 a4/\OnlyK L H1 H'/\H' L=some (.list (zD (((zA s.ks).take i).map (yP s)) hd)))
 refine zH I289_ (λ i v m' H' J0 hJ0 K0 hK0 hv hI=>?_) (λ m' H' hI=>?_) ⟨_,_,rfl,.refl _ _,kL⟩
 ·clear kL
  with_reducible refine ex2 (hI) λ a2 a3 hx_=>an3 hx_ λ hr2_ oH kL=>?_;clear hx_;(try clear hI);subst hr2_
  with_reducible refine ex1 (yQ hv) λ b hx_=>an3 hx_ λ hb hr2_ hbk=>?_;clear hx_;subst hr2_
  have eH:=oH.new e1 nL
  have xH:=x.ext eH
  obtain ⟨ep,w0⟩:=xH.v.w0
  obtain ⟨ep1,w1⟩:=xH.v.w1
  have xr:H' (B.ra b)=some (.list ((s.row b).map zL)):=xH.v.row b hbk
  have rl:=ok.rl b (mem_sortI.mp hbk)
  obtain ⟨t,ht⟩:=wm (yP s b) (List.mem_append_left _ (List.mem_map.mpr ⟨b,hbk,rfl⟩))
  have hd':dget (dOf (zi s).ks λ k=>.ref (B.ra k)) b=some (.ref (B.ra b)):=zY hbk
  have hw:wIn (.int b) (.ref B.w1) H'=some (decide (b∈s.hs)):=by
   rw [xU b w1]
   show some (decide (b∈zA s.hs))=_
   simp [mem_sortI]
  case k74=>skip
  refine ⟨oH _ _ nb kb,_,rfl,?_⟩
  case k50=>fail
  intro D nD
  have e2:Ext0 H' _:=Ext0.set (o:=.list [.str "free",.str "hand"]) nD
  have k2:(H'.set D (.list [.str "free",.str "hand"])) D=some (.list [.str "free",.str "hand"]):=AH.set_self ..
  generalize H'.set D (.list [.str "free",.str "hand"])=H2 at e2 k2 |-
  have hw:wIn (.int b) (.ref B.w1) H2=some (decide (b∈s.hs)):=by
   rw [xU b (e2 _ _ w1)]
   show some (decide (b∈zA s.hs))=_
   simp [mem_sortI]
  have x2:=e2 _ _ xH.l
  case k50=>(first | exact x2 .. | exact hw ..)
  refine op_idx (v:=.str (xX (decide (b∈s.hs)))) (fM k2) ?_
  have w0:=e2 _ _ w0
  have xr:=e2 _ _ xr
  have kL:=e2 _ _ kL
  have f1:=xm ht.1
  have f2:(((s.row b).map zL).length:Int).natAbs < 10 ^ 10:=by rw [List.length_map];lia
  case k50=>(first | exact x2 .. | exact w0 .. | exact hd' .. | exact xr .. | exact f1 .. | exact f2 .. | exact kL ..)
  intro D2 n2
  have e3:Ext0 H2 _:=Ext0.set (o:=.list [.str "box",.str (num b),.str (num (((s.row b).map zL).length:Int)),.str (xX (decide (b∈s.hs)))]) n2
  have k3:(H2.set D2 (.list [.str "box",.str (num b),.str (num (((s.row b).map zL).length:Int)),.str (xX (decide (b∈s.hs)))])) D2=some (.list ((yP s b).words.map .str)):=by
   rw [AH.set_self,List.length_map];rfl
  show joK _ _ _ (H2.set D2 (.list [.str "box",.str (num b),.str (num (((s.row b).map zL).length:Int)),.str (xX (decide (b∈s.hs)))]))
  generalize H2.set D2 (.list [.str "box",.str (num b),.str (num (((s.row b).map zL).length:Int)),.str (xX (decide (b∈s.hs)))])=H3 at e3 k3 |-
  refine vg ht k3 ?_
  have kL:=e3 _ _ kL
  have lt:(zD (((zA s.ks).take i).map (yP s)) hd).length < lid:=by
   simp only [zD,List.length_cons,List.length_map,List.length_take];unfold lid;lia
  case k50=>(first | exact kL .. | exact lt ..)
  case k74=>skip
  refine em2 _ _ ⟨rfl,((oH.ext e2).ext e3).set,?_⟩
  rw [AH.set_self,yS,zc hb,List.map_append];rfl
 with_reducible refine ex2 (hI) λ a2 a3 hx_=>an3 hx_ λ hr2_ oH kL=>?_;clear hx_;(try clear hI);subst hr2_
 case k74=>skip
 refine ⟨oH _ _ nb kb,?_⟩
 have kL:H' L=some (.list (zD (((zA s.ks).take ((zA s.ks).map AV.int).length).map (yP s)) hd)):=kL
 rw [yE] at kL
 case k74=>skip
 exact q _ _ _ (oH.new e1 nL) kL
theorem jr (h104:P 104=some u9) (h103:P 103=some wR) (x:Vc H0 B V C s) (w:s.Wr) (e:Ext0 H0 H) (nL:H0 L=.none) (kL:H L=some (.list (zD bs hd))) (hb:bs.length<=60)
  (q:∀ L a2 H',Ext0 H0 H'->H0 L=.none->H' L=some (.list (zD (bs++(zA s.ks).flatMap λ b=>zE b 0 (s.row b)) hd))->WSs (CN P (n+2)) r (mT V L a2 a3 a4) H' Q X) :
  WSs (CN P (n+2)) (.cons (.for (.one 2) (.val (.bi .sorted (.cons (.idx (.var 0) (.ci 0)) .nil))) (.cons (.asg 1 (.bin .add (.var 1) (.call 104 (.cons (.var 0) (.cons (.var 2) .nil))))) .nil)) r) (mT V L a2 a3 a4) H Q X:=by
 have ok:=w.ok
 have kl:=ok.kl
 have skl:(zA s.ks).length<=60:=by rw [zB];exact kl
 have x0:=x.ext e
 obtain ⟨ep,w0⟩:=x0.v.w0
 have so:(zW (.ref B.w0) H).bind z4=some (zA s.ks):=yh w0
 have sl:(zA s.ks).length < 64:=by lia
 case k50=>(first | exact x0.l .. | exact so .. | exact sl ..)
 intro Lb nLb
 have e1:Ext0 H _:=Ext0.set (o:=.list ((zA (zA s.ks)).map .int)) nLb
 have kb:(H.set Lb (.list ((zA (zA s.ks)).map .int))) Lb=some (.list ((zA s.ks).map .int)):=by rw [AH.set_self,vJ ok.ku]
 generalize H.set Lb (.list ((zA (zA s.ks)).map .int))=H1 at e1 kb |-
 have kL:=e1 _ _ kL
 have e1:=e.trans e1
 clear x0 w0 so nLb e
 case k50=>exact zC kb ..
 let I361_:Nat->Loc->AH->Prop:=(λ i m' H'=>∃ (L:Nat) (a2:Option AV),m'=mT V L a2 a3 a4/\Ext0 H1 H'/\H0 L=.none/\H' L=some (.list (zD (bs++((zA s.ks).take i).flatMap λ b=>zE b 0 (s.row b)) hd)))
 refine zH I361_ (λ i v m' H' J0 hJ0 K0 hK0 hv hI=>?_) (λ m' H' hI=>?_) ⟨_,_,rfl,.refl _,nL,by rw [List.take_zero,List.flatMap_nil,List.append_nil];exact kL⟩
 ·clear kL
  with_reducible refine ex2 (hI) λ L a2 hx_=>an4 hx_ λ hr2_ eH nL kL=>?_;clear hx_;(try clear hI);subst hr2_
  with_reducible refine ex1 (yQ hv) λ b hx_=>an3 hx_ λ hb' hr2_ hbk=>?_;clear hx_;subst hr2_
  have rl:=ok.rl b (mem_sortI.mp hbk)
  have sr:=yt b (s.row b) 0
  have fl:=x9 ok (l:=(zA s.ks).take i) λ b hb=>mem_sortI.mp (List.mem_of_mem_take hb)
  rw [List.length_take] at fl
  have xH:=x.ext (e1.trans eH)
  case k74=>skip
  refine ⟨eH _ _ kb,_,rfl,?_⟩
  case k50=>fail
  refine se (n:=n) h104 h103 xH w hbk λ D H2 nD kD e2=>?_
  have kL:=e2 _ _ kL
  have hz:(zD (bs++((zA s.ks).take i).flatMap λ b=>zE b 0 (s.row b)) hd).length+((zE b 0 (s.row b)).map λ r=>AV.str r.text).length<=lid:=by
   simp only [zD,List.length_cons,List.length_map,List.length_append];unfold lid;lia
  case k50=>(first | exact kL .. | exact kD .. | exact hz ..)
  intro L2 n2
  have n2':=(e1.trans (eH.trans e2)).back n2
  have e3:Ext0 H2 _:=Ext0.set (o:=.list (zD (bs++((zA s.ks).take i).flatMap λ b=>zE b 0 (s.row b)) hd++(zE b 0 (s.row b)).map λ r=>.str r.text)) n2
  case k74=>skip
  refine em2 _ _ ⟨rfl,eH.trans (e2.trans e3),n2',?_⟩
  rw [AH.set_self,zc hb',List.flatMap_append,List.flatMap_cons,List.flatMap_nil,List.append_nil]
  simp [zD]
 with_reducible refine ex2 (hI) λ L a2 hx_=>an4 hx_ λ hr2_ eH nL kL=>?_;clear hx_;(try clear hI);subst hr2_
 case k74=>skip
 refine ⟨eH _ _ kb,?_⟩
 have kL:H' L=some (.list (zD (bs++((zA s.ks).take ((zA s.ks).map AV.int).length).flatMap λ b=>zE b 0 (s.row b)) hd)):=kL
 rw [yE] at kL
 case k74=>skip
 exact q _ _ _ (e1.trans eH) nL kL
theorem jt (x:Vc H0 B V C s) (w:s.Wr) (e:Ext0 H0 H) (nL:H0 L=.none) (kL:H L=some (.list (zD bs hd))) (hbl:bs.length<=600)
  (q:∀ a4 H',Ext0 H0 H'->H' L=some (.list (zD (bs++(zA s.ls).map λ k=>.pair k (s.link k)) hd))->WSs (CN P n) r (mT V L a2 a3 a4) H' Q X) :
  WSs (CN P n) (.cons (.for (.one 4) (.val (.bi .sorted (.cons (.idx (.var 0) (.ci 2)) .nil))) (.cons (.ex (.meth (.var 1) 0 (.cons (.join " " (.bin .add (.list (.cons (.cs "pair") (.cons (.bi .str (.cons (.var 4) .nil)) .nil))) (.comp (.one 5) (.val (.idx (.idx (.var 0) (.ci 2)) (.var 4))) .nil (.bi .str (.cons (.var 5) .nil))))) .nil))) .nil)) r) (mT V L a2 a3 a4) H Q X:=by
 have ok:=w.ok
 have ll:=ok.ll
 have wm:=w.may
 have sll:(zA s.ls).length<=60:=by rw [zB];exact ll
 have x0:=x.ext e
 obtain ⟨ep,w2⟩:=x0.v.w2
 have so:(zW (.ref B.w2) H).bind z4=some (zA s.ls):=yh w2
 have sl:(zA s.ls).length < 64:=by lia
 case k50=>(first | exact x0.l .. | exact so .. | exact sl ..)
 intro Lb nLb
 have e1:Ext0 H _:=Ext0.set (o:=.list ((zA (zA s.ls)).map .int)) nLb
 have kb:(H.set Lb (.list ((zA (zA s.ls)).map .int))) Lb=some (.list ((zA s.ls).map .int)):=by rw [AH.set_self,vJ ok.lu]
 generalize H.set Lb (.list ((zA (zA s.ls)).map .int))=H1 at e1 kb |-
 have nb:Lb≠L:=λ z=>by rw [z,kL] at nLb;cases nLb
 have kL:=e1 _ _ kL
 have e1:=e.trans e1
 clear x0 w2 so nLb e
 case k50=>exact zC kb ..
 let I409_:Nat->Loc->AH->Prop:=(λ i m' H'=>∃ (a4:Option AV),m'=mT V L a2 a3 a4/\OnlyK L H1 H'/\H' L=some (.list (zD (bs++((zA s.ls).take i).map λ k=>.pair k (s.link k)) hd)))
 refine zH I409_ (λ i v m' H' J0 hJ0 K0 hK0 hv hI=>?_) (λ m' H' hI=>?_) ⟨_,rfl,.refl _ _,by rw [List.take_zero,List.map_nil,List.append_nil];exact kL⟩
 ·clear kL
  with_reducible refine ex1 (hI) λ a4 hx_=>an3 hx_ λ hr1_ oH kL=>?_;clear hx_;(try clear hI);subst hr1_
  with_reducible refine ex1 (yQ hv) λ b hx_=>an3 hx_ λ hb hr2_ hbk=>?_;clear hx_;subst hr2_
  have xH:=x.ext (oH.new e1 nL)
  obtain ⟨ep,w2⟩:=xH.v.w2
  obtain ⟨t,ht⟩:=wm (.pair b (s.link b)) (List.mem_append_right _ (List.mem_append_right _ (List.mem_append_left _ (List.mem_map.mpr ⟨b,hbk,rfl⟩))))
  have hd':dget (dOf (zi s).ls λ k=>zw (s.link k)) b=some (zw (s.link b)):=zY hbk
  have f1:=xm ht.1
  obtain ⟨g1,g2,g3⟩:=ht.2.2.2.2.1
  case k74=>skip
  refine ⟨oH _ _ nb kb,_,rfl,?_⟩
  case k50=>(first | exact kL .. | exact f1 ..)
  intro D nD
  have e2:Ext0 H' _:=Ext0.set (o:=.list [.str "pair",.str (num b)]) nD
  have k2:(H'.set D (.list [.str "pair",.str (num b)])) D=some (.list [.str "pair",.str (num b)]):=AH.set_self ..
  show WE _ _ _ _ (H'.set D (.list [.str "pair",.str (num b)])) _
  generalize H'.set D (.list [.str "pair",.str (num b)])=H2 at e2 k2 |-
  have x2:=e2 _ _ xH.l
  have w2:=e2 _ _ w2
  case k50=>(first | exact x2 .. | exact w2 .. | exact hd' ..)
  refine sf (m0:=mT V L a2 a3 (some (.int b))) (λ z_ z_=>trivial) (λ z_=>rfl) (Nat.le_of_ble_eq_true rfl) (alc (t0i g1) (alc (t0i g2) (alc (t0i g3) al0))) λ D3 H3 e3 n3 k3=>?_
  have k2:=e3 _ _ k2
  case k50=>(first | exact k2 .. | exact k3 ..)
  intro D4 n4
  have e4:Ext0 H3 _:=Ext0.set (o:=.list ([.str "pair",.str (num b)]++([AV.int (s.link b).1,.int (s.link b).2.1,.int (s.link b).2.2].map asT).map .str)) n4
  have k4:(H3.set D4 (.list ([.str "pair",.str (num b)]++([AV.int (s.link b).1,.int (s.link b).2.1,.int (s.link b).2.2].map asT).map .str))) D4=some (.list ((Row.pair b (s.link b)).words.map .str)):=AH.set_self ..
  show joK _ _ _ (H3.set D4 (.list ([.str "pair",.str (num b)]++([AV.int (s.link b).1,.int (s.link b).2.1,.int (s.link b).2.2].map asT).map .str)))
  generalize H3.set D4 (.list ([.str "pair",.str (num b)]++([AV.int (s.link b).1,.int (s.link b).2.1,.int (s.link b).2.2].map asT).map .str))=H4 at e4 k4 |-
  refine vg ht k4 ?_
  have e4:=e2.trans (e3.trans e4)
  have kL:=e4 _ _ kL
  have lt:(zD (bs++((zA s.ls).take i).map λ k=>.pair k (s.link k)) hd).length < lid:=by
   simp only [zD,List.length_cons,List.length_map,List.length_append,List.length_take];unfold lid;lia
  case k50=>(first | exact kL .. | exact lt ..)
  case k74=>skip
  refine ⟨_,rfl,(oH.ext e4).set,?_⟩
  rw [AH.set_self,yS,zc hb,List.map_append]
  exact congrArg (λ z=>some (AO.list (zD z hd))) (List.append_assoc _ _ _)
 with_reducible refine ex1 (hI) λ a4 hx_=>an3 hx_ λ hr1_ oH kL=>?_;clear hx_;(try clear hI);subst hr1_
 case k74=>skip
 refine ⟨oH _ _ nb kb,?_⟩
 have kL:H' L=some (.list (zD (bs++((zA s.ls).take ((zA s.ls).map AV.int).length).map λ k=>.pair k (s.link k)) hd)):=kL
 rw [yE] at kL
 case k74=>skip
 exact q _ _ (oH.new e1 nL) kL
theorem ju (h105:P 105=some ua) (h103:P 103=some wR) (x:Vc H0 B V C s) (w:s.Wr) (e:Ext0 H0 H) (nL:H0 L=.none) (kL:H L=some (.list (zD bs hd))) (hbl:bs.length<=660)
  (q:∀ a2 H',Ext0 H0 H'->H' L=some (.list (zD (bs++(willing s).map λ b=>.will b (s.willOf b)) hd))->WSs (CN P (n+2)) r (mT V L a2 a3 a4) H' Q X) :
  WSs (CN P (n+2)) (.cons (.for (.one 2) (.val (.bi .sorted (.cons (.idx (.var 0) (.ci 3)) .nil))) (.cons (.ex (.meth (.var 1) 0 (.cons (.call 105 (.cons (.var 2) (.cons (.idx (.idx (.var 0) (.ci 3)) (.var 2)) .nil))) .nil))) .nil)) r) (mT V L a2 a3 a4) H Q X:=by
 have ok:=w.ok
 have kl:=ok.kl
 have wm:=w.may
 have wl:(willing s).length<=(zA s.ks).length:=List.length_filter_le _ _
 rw [zB] at wl
 have x0:=x.ext e
 obtain ⟨ep,w3⟩:=x0.v.w3
 have so:(zW (.ref B.w3) H).bind z4=some (willing s):=yh w3
 have sl:(willing s).length < 64:=by lia
 case k50=>(first | exact x0.l .. | exact so .. | exact sl ..)
 intro Lb nLb
 have e1:Ext0 H _:=Ext0.set (o:=.list ((zA (willing s)).map .int)) nLb
 have kb:(H.set Lb (.list ((zA (willing s)).map .int))) Lb=some (.list ((willing s).map .int)):=by rw [AH.set_self,show zA (willing s)=willing s from py ((zF ok.ku).filter _) ((xV s.ks).filter _)]
 generalize H.set Lb (.list ((zA (willing s)).map .int))=H1 at e1 kb |-
 have nb:Lb≠L:=λ z=>by rw [z,kL] at nLb;cases nLb
 have kL:=e1 _ _ kL
 have e1:=e.trans e1
 clear x0 w3 so nLb e
 case k50=>exact zC kb ..
 let I473_:Nat->Loc->AH->Prop:=(λ i m' H'=>∃ (a2:Option AV),m'=mT V L a2 a3 a4/\OnlyK L H1 H'/\H' L=some (.list (zD (bs++((willing s).take i).map λ b=>.will b (s.willOf b)) hd)))
 refine zH I473_ (λ i v m' H' J0 hJ0 K0 hK0 hv hI=>?_) (λ m' H' hI=>?_) ⟨_,rfl,.refl _ _,by rw [List.take_zero,List.map_nil,List.append_nil];exact kL⟩
 ·clear kL
  with_reducible refine ex1 (hI) λ a2 hx_=>an3 hx_ λ hr1_ oH kL=>?_;clear hx_;(try clear hI);subst hr1_
  with_reducible refine ex1 (yQ hv) λ b hx_=>an3 hx_ λ hb hr2_ hbk=>?_;clear hx_;subst hr2_
  have xH:=x.ext (oH.new e1 nL)
  obtain ⟨ep,w3⟩:=xH.v.w3
  have xw:H' (B.wa b)=some (.list ((s.willOf b).map Deed.av)):=xH.v.will b hbk
  obtain ⟨t,ht⟩:=wm (.will b (s.willOf b)) (List.mem_append_right _ (List.mem_append_right _ (List.mem_append_right _ (List.mem_map.mpr ⟨b,hbk,rfl⟩))))
  have hd':dget (dOf (zi s).ws λ k=>.ref (B.wa k)) b=some (.ref (B.wa b)):=zY hbk
  case k74=>skip
  refine ⟨oH _ _ nb kb,_,rfl,?_⟩
  case k50=>(first | exact kL .. | exact xH.l .. | exact w3 .. | exact hd' ..)
  refine sg (n:=n) h105 h103 ht xw λ H2 e2=>?_
  have kL:=e2 _ _ kL
  have lt:(zD (bs++((willing s).take i).map λ b=>.will b (s.willOf b)) hd).length < lid:=by
   simp only [zD,List.length_cons,List.length_map,List.length_append,List.length_take];unfold lid;lia
  case k50=>(first | exact kL .. | exact lt ..)
  case k74=>skip
  refine ⟨_,rfl,(oH.ext e2).set,?_⟩
  rw [AH.set_self,yS,zc hb,List.map_append]
  exact congrArg (λ z=>some (AO.list (zD z hd))) (List.append_assoc _ _ _)
 with_reducible refine ex1 (hI) λ a2 hx_=>an3 hx_ λ hr1_ oH kL=>?_;clear hx_;(try clear hI);subst hr1_
 case k74=>skip
 refine ⟨oH _ _ nb kb,?_⟩
 have kL:H' L=some (.list (zD (bs++((willing s).take ((willing s).map AV.int).length).map λ b=>.will b (s.willOf b)) hd)):=kL
 rw [yE] at kL
 case k74=>skip
 exact q _ _ (oH.new e1 nL) kL
end
section
variable {P:Nat->Option IFn} {n:Nat} {R:RM} {H:AH} {A:Ad} {s:St} {B:Wd} {V C:Nat} {Q:AV->AH->Prop} {X:Nat->AH->Prop}
theorem oB (h106:P 106=some qM) (h105:P 105=some ua) (h104:P 104=some u9) (h103:P 103=some wR) (x:Vc H B V C s) (w:s.Wr) (q:∀ H',Ext0 H H'->Q (.str (yZ s)) H'):CN P (n+3) 106 [.ref V] H Q X:=by
 have ok:=w.ok
 have kl:=ok.kl
 have ll:=ok.ll
 have fl:=x9 ok (l:=zA s.ks) λ b hb=>mem_sortI.mp hb
 have f1:=xm (xz w).1
 have f2:=xm (xz w).2
 refine zR h106 rfl ?_
 intro C_ Q_ X_ m_
 case k50=>(first | exact x.l .. | exact x.c .. | exact f1 .. | exact f2 ..)
 intro D nD
 have e1:Ext0 H _:=Ext0.set (o:=.list [.str "next",.str (num s.nb),.str (num s.np)]) nD
 have k1:(H.set D (.list [.str "next",.str (num s.nb),.str (num s.np)])) D=some (.list ((yk s).map .str)):=AH.set_self ..
 show joK _ _ _ (H.set D (.list [.str "next",.str (num s.nb),.str (num s.np)]))
 generalize H.set D (.list [.str "next",.str (num s.nb),.str (num s.np)])=H1 at e1 k1 |-
 refine tA (uz w) (Nat.le_of_ble_eq_true rfl) k1 ?_
 case k50=>fail
 intro L nL
 have nL0:=e1.back nL
 have e2:Ext0 H1 _:=Ext0.set (o:=.list [.str (Str.join " " (yk s))]) nL
 have k2:(H1.set L (.list [.str (Str.join " " (yk s))])) L=some (.list (zD [] (Str.join " " (yk s)))):=AH.set_self ..
 have e2:=e1.trans e2
 generalize H1.set L (.list [.str (Str.join " " (yk s))])=H2 at e2 k2 |-
 refine jp (a2:=.none) (a3:=.none) (a4:=.none) x w e2 nL0 k2 λ a2 a3 H3 e3 k3=>?_
 refine jr (n:=n) h104 h103 x w e3 nL0 k3 (by rw [List.length_map,zB];exact kl) λ L a2 H4 e4 nL k4=>?_
 refine jt x w e4 nL k4 (by rw [List.length_append,List.length_map];rw [zB] at fl |-;lia) λ a4 H5 e5 k5=>?_
 refine ju (n:=n) h105 h103 x w e5 nL k5 (by simp only [List.length_append,List.length_map,zB] at fl |-;lia) λ a2 H6 e6 k6=>?_
 rw [List.append_assoc,List.append_assoc] at k6
 have k6:H6 L=some (.list (zD (z7 s) (Str.join " " (yk s)))):=k6
 have hz:=sd w
 case k50=>(first | exact k6 .. | exact uy (z7 s) (Str.join " " (yk s)) .. | exact hz ..)
 case k74=>skip
 exact q _ e6
theorem vK (h107:P 107=some o3) (h106:P 106=some qM) (h105:P 105=some ua) (h104:P 104=some u9) (h103:P 103=some wR) (h92:P 92=some o0) (h91:P 91=some tm) (h90:P 90=some vX) (h89:P 89=some vn) (h83:P 83=some oZ) (p:yB P)
  (x:Chest R H A s) (w:s.Wr) (hC:H C=some (.list [.int s.nb,.int s.np])) (q:∀ H',Ext0 H H'->Q (.bool true) H'):CN P (n+5) 107 [.ref A.c,.ref C] H Q X:=by
 refine zR h107 rfl ?_
 intro C_ Q_ X_ m_
 case k50=>fail
 refine xJ (n:=n) h92 h91 h90 h89 p x w λ H1 e1=>?_
 case k50=>fail
 refine tV (n:=n) h83 p (x.ext e1) w.ok λ H2 B kl v e2 nw=>?_
 have e2:=e1.trans e2
 case k50=>fail
 intro D nD
 have e3:Ext0 H2 _:=Ext0.set (o:=.list [.ref C]) nD
 have k3:(H2.set D (.list [.ref C])) D=some (.list [.ref C]):=AH.set_self ..
 generalize H2.set D (.list [.ref C])=H3 at e3 k3 |-
 have kl:=e3 _ _ kl
 case k50=>(first | exact kl .. | exact k3 ..)
 intro V nV
 have e4:Ext0 H3 _:=Ext0.set (o:=.list ([.ref B.w0,.ref B.w1,.ref B.w2,.ref B.w3]++[.ref C])) nV
 have k4:(H3.set V (.list ([.ref B.w0,.ref B.w1,.ref B.w2,.ref B.w3]++[.ref C]))) V=some (.list [.ref B.w0,.ref B.w1,.ref B.w2,.ref B.w3,.ref C]):=AH.set_self ..
 generalize H3.set V (.list ([.ref B.w0,.ref B.w1,.ref B.w2,.ref B.w3]++[.ref C]))=H4 at e4 k4 |-
 have e4:=e3.trans e4
 have xv:Vc H4 B V C s:=⟨v.ext e4,k4,e4 _ _ (e2 _ _ hC)⟩
 case k50=>fail
 refine oB (n:=n+1) h106 h105 h104 h103 xv w λ H5 e5=>?_
 case k50=>fail
 case k74=>skip
 exact q _ ((e2.trans e4).trans e5)
end
theorem lH {H:AH} {K:AV->AH->Prop} {a:Nat} {L M:List AV} {v1 v2 v3:AV} (h:H a=some (.list L)) (h2:xK L v1 v2 v3=some M) (q:∀ b,H b=.none->K (.ref b) (H.set b (.list M))):iG (.ref a) v1 v2 v3 H K:=⟨L,M,h2,.inr ⟨.inr ⟨a,rfl,h⟩,q⟩⟩
theorem uT {Cl:Calls} {m:Loc} {H:AH} {Y:Nat->AH->Prop} {K:AV->AH->Prop} {e e1 e2 e3:IE} {a:Nat} {L M:List AV} {v1 v2 v3:AV} (p:Ev e m H (.ref a)) (p1:Ev e1 m H v1) (p2:Ev e2 m H v2) (p3:Ev e3 m H v3) (h:H a=some (.list L)) (h2:xK L v1 v2 v3=some M)
  (q:∀ b,H b=.none->K (.ref b) (H.set b (.list M))):WE Cl Y (.slice e e1 e2 e3) m H K:=p.run _ _ _ (p1.run _ _ _ (p2.run _ _ _ (p3.run _ _ _ (lH h h2 q))))
theorem dI {Cl:Calls} {Y:Nat->AH->Prop} {e:IE} {m:Loc} {H:AH} {K:AV->AH->Prop} {b1 b2:Bool} (p:Ev e m H (.bool b2)) (h:(b1||b2)=true) (q:K (.bool true) H):orK Cl Y (.cons e .nil) m K (.bool b1) H:=by
 cases b1 with
 | true=>exact q
 | false=>
  have h:b2=true:=h
  subst h
  exact p.run _ _ _ q
structure si (P:Nat->Option IFn):Prop where
 h93:P 93=some gC
 h94:P 94=some gD
 h95:P 95=some gE
 h96:P 96=some f4
 h97:P 97=some f5
 h98:P 98=some f6
 h99:P 99=some f7
 h100:P 100=some iI
 h101:P 101=some iJ
theorem lI (h:Bool):PyData.eqv (.str (xX h)) (.str "hand")=h:=by cases h<;>rfl
theorem jv (h:Bool):PyData.eqv (.str (xX h)) (.str "free")=!h:=by cases h<;>rfl
theorem jw:("0":Str)=⟨#[48]⟩:=by decide
theorem dJ {c:Nat} (h:48<=c/\c<=57):c∈("0123456789":Str).cps.toList:=by
 have e:∀ k:Fin 10,48+k.val∈("0123456789":Str).cps.toList:=by decide
 have:=e ⟨c - 48,Nat.sub_lt_left_of_lt_add h.1 (Nat.lt_succ_of_le h.2)⟩
 rwa [Nat.add_sub_cancel' h.1] at this
theorem fN {i:Int} (h:few i) (H:AH):wP (.str (num i)) H=some ⟨wF (num i),.none⟩:=by
 have h1:u8 (num i)=true:=by
  unfold u8
  rw [<-Array.all_toList,List.all_eq_true]
  intro c hc
  have:=(xF h.1).1 c hc
  exact decide_eq_true (by lia)
 have h2:(num i).length<=lid:=by have:=(zk h).1;unfold lid;lia
 show (if u8 (num i)&&decide ((num i).length<=lid) then some (Src.mk (wF (num i)) .none) else .none)=_
 rw [h1,decide_eq_true h2];rfl
section
variable {P:Nat->Option IFn} {n:Nat} {R:RM} {H:AH} {A:Ad} {t:St} {D:Nat} {Q:AV->AH->Prop} {X:Nat->AH->Prop}
theorem zh (h93:P 93=some gC) {i:Int} (h:few i) (q:Q (.int i) H):CN P (n+1) 93 [.str (num i)] H Q X:=by
 obtain ⟨l1,l2⟩:=zk h
 have b0:(num i).length<=2 ^ 40:=by lia
 have e1:decide (((num i).length:Int) < 1)=false:=decide_eq_false (by lia)
 have e2:decide ((9:Int) < ((num i).length:Int))=false:=decide_eq_false (by lia)
 have hc:∃ c,(num i).cps[(0:Int).toNat]?=some c:=by
  have:0 < (num i).cps.size:=l2
  case k74=>skip
  exact ⟨_,Array.getElem?_eq_getElem this⟩
 obtain ⟨c,hc⟩:=hc
 have src:=fN h H
 have hi:=lD h
 have b1:(num i).length<=640:=by lia
 refine zR h93 rfl ?_
 intro C_ Q_ X_ m_
 let I85_:Loc->AH->Prop:=(λ m' H'=>H'=H/\m'=[some (.str (num i)),.none,.none,.none,.none,.none,.none,.none,.none,.none])
 refine uJ I85_ (λ J1 hJ1=>?_) ?_
 ·by_cases hz:c=48
  ·subst hz
   have e3:=je h hc
   have e4:PyData.eqv (.str (⟨#[48]⟩:Str)) (.str "0")=true:=rfl
   have e5:PyData.eqv (.str (num i)) (.str "0")=true:=by rw [e3];rfl
   case k50=>(first | exact b0 .. | exact e1 .. | exact e2 .. | exact hc .. | exact e4 .. | exact e5 ..)
   exact hJ1 _ _ _ ⟨rfl,rfl,rfl⟩
  ·have e4:PyData.eqv (.str (⟨#[c]⟩:Str)) (.str "0")=false:=by
    show ((⟨#[c]⟩:Str) == "0")=false
    rw [jw]
    exact beq_false_of_ne λ z=>hz (by injection z with z;injection z with z;injection z)
   case k50=>(first | exact b0 .. | exact e1 .. | exact e2 .. | exact hc .. | exact e4 ..)
   exact hJ1 _ _ _ ⟨rfl,rfl,rfl⟩
 rintro m1 H1 ⟨rfl,rfl⟩
 case k50=>exact src ..
 let I101_:Nat->Loc->AH->Prop:=(λ z_ m' H'=>H'=H1/\∃ a,m'=[some (.str (num i)),a,.none,.none,.none,.none,.none,.none,.none,.none])
 refine zH I101_ (λ j v m' H' J0 hJ0 K0 hK0 hv hI=>?_) (λ m' H' hI=>?_) ⟨rfl,_,rfl⟩
 ·obtain ⟨rfl,a,rfl⟩:=hI
  have hv:((num i).cps.toList.map λ c=>AV.str ⟨#[c]⟩)[j]?=some v:=hv
  rw [List.getElem?_map] at hv
  with_reducible refine ex1 (Option.map_eq_some_iff.mp hv) λ c hx_=>an2 hx_ λ hc hr2_=>?_;clear hx_;subst hr2_
  have hf:=dJ ((xF h.1).1 c (List.mem_of_getElem? hc))
  have hw:wIn (.str ⟨#[c]⟩) (.str "0123456789") H'=some true:=by
   show some (decide (c∈("0123456789":Str).cps.toList))=_
   rw [decide_eq_true hf]
  case k74=>skip
  refine ⟨trivial,_,rfl,?_⟩
  case k50=>exact hw ..
  case k74=>skip
  exact ⟨rfl,_,rfl⟩
 obtain ⟨rfl,a,rfl⟩:=hI
 case k74=>skip
 refine ⟨trivial,?_⟩
 case k50=>(first | exact hi .. | exact b1 ..)
 case k74=>skip
 exact q
theorem qp (h94:P 94=some gD) {h:Bool} (q:Q (.bool h) H):CN P (n+1) 94 [.str (xE h)] H Q X:=by
 refine zR h94 rfl ?_
 intro C_ Q_ X_ m_
 cases h
 ·case k50=>fail
  case k74=>skip
  exact q
 ·case k50=>fail
  case k74=>skip
  exact q
theorem zp (h95:P 95=some gE) (q:Q .none H):CN P (n+1) 95 [.bool true] H Q X:=by
 refine zR h95 rfl ?_
 intro C_ Q_ X_ m_
 case k50=>fail
 case k74=>skip
 exact q
structure St.Rok (t:St):Prop where
 hk:∀ k∈t.hs,k∈t.ks
 hl:t.hs.length<=t.ks.length
 kl:t.ks.length<=60
 wu:t.ws.Nodup
 wk:∀ k∈t.ws,k∈t.ks
theorem St.Rok.add (o:t.Rok) {r:Row} (m:t.may r):(t.add r).Rok:=by
 cases r with
 | box b z h=>
  have m4:=m.2.2.2.1
  case k74=>skip
  refine ⟨λ k hk=>?_,?_,?_,o.wu,λ k hk=>List.mem_append_left _ (o.wk k hk)⟩
  ·have hk:k∈(if h then t.hs++[b] else t.hs):=hk
   show k∈t.ks++[b]
   cases h
   ·exact List.mem_append_left _ (o.hk k hk)
   ·rcases List.mem_append.mp hk with y | y
    ·exact List.mem_append_left _ (o.hk k y)
    ·exact List.mem_append_right _ y
  ·show (if h then t.hs++[b] else t.hs).length<=(t.ks++[b]).length
   have:=o.hl
   cases h
   ·simp only [List.length_append];show t.hs.length<=_;lia
   ·simp only [List.length_append];show (t.hs++[b]).length<=_;rw [List.length_append];lia
  ·show (t.ks++[b]).length<=60
   rw [List.length_append];show _+1<=_;lia
 | slot b i p h=>exact ⟨o.hk,o.hl,o.kl,o.wu,o.wk⟩
 | pair k l=>exact ⟨o.hk,o.hl,o.kl,o.wu,o.wk⟩
 | will b ds=>
  case k74=>skip
  refine ⟨o.hk,o.hl,o.kl,List.nodup_append.mpr ⟨o.wu,List.pairwise_singleton _ _,λ a ha c hc z=>?_⟩,λ k hk=>?_⟩
  ·rw [List.mem_singleton.mp hc] at z;rw [z] at ha;exact m.2.2.1 ha
  ·rcases List.mem_append.mp hk with y | y
   ·exact o.wk k y
   ·rw [List.mem_singleton.mp y];exact m.2.1
theorem oC (p:si P) (d:Dom R H) (x:Chest R H A t) (o:t.Rok) {b:Int} {z:Nat} {h:Bool} (m:t.may (.box b z h)) (f:Fr R H D (.list ((Row.box b z h).words.map .str)))
  (q:∀ R' H' A',A'.c=A.c->Chest R' H' A' (t.add (.box b z h))->Stp isCh R H R' H'->Q .none H'):CN P (n+2) 96 [.ref A.c,.ref D] H Q X:=by
 obtain ⟨m1,m2,m3,m4,m5⟩:=m
 obtain ⟨er,hr⟩:=x.r
 have f:Fr R H D (.list [.str "box",.str (num b),.str (num (z:Int)),.str (xX h)]):=f
 have fz:few (z:Int):=vH m5
 have e3:decide (((dOf t.ks λ k=>AV.ref (A.ra k)).length:Int) < 60)=true:=decide_eq_true (by rw [zK];lia)
 have e4:decide (b < t.nb)=true:=decide_eq_true m2
 have e5:decide ((z:Int)<=9)=true:=decide_eq_true (by lia)
 refine zR p.h96 rfl ?_
 intro C_ Q_ X_ m_
 case k50=>(first | exact f.h .. | exact x.c .. | exact x.dx .. | exact hr .. | exact e3 ..)
 refine zp p.h95 ?_
 case k50=>exact f.h ..
 refine zh p.h93 m1 ?_
 case k50=>exact f.h ..
 refine zh p.h93 fz ?_
 case k50=>(first | exact x.c .. | exact x.dx .. | exact e4 .. | exact e5 .. | exact sU hr m3 ..)
 refine zp p.h95 ?_
 case k50=>(first | exact f.h .. | exact lI h ..)
 refine dI (ev_cmp (ev_idx (ev_var rfl) ev_ci (ix_L f.h (by decide) rfl)) ev_cs (cm_eq rfl rfl (Nat.le_of_ble_eq_true rfl) (jv h))) (by cases h<;>rfl) ?_
 case k50=>fail
 refine zp p.h95 ?_
 case k50=>(first | exact x.c .. | exact x.dx .. | exact hr ..)
 case k74=>skip
 refine ⟨⟨by lia,by unfold lid;lia⟩,?_⟩
 intro a ha
 have g2:Stp isCh R H (R.set a (6,b)) _:=.alloc (o:=.list (List.replicate (z:Int).toNat .none)) d ha
 have x2:Chest (R.set a (6,b)) _ A _:=x.alloc (o:=.list (List.replicate (z:Int).toNat .none)) (y:=(6,b)) ha
 have h2:(H.set a (.list (List.replicate (z:Int).toNat .none))) a=some (.list (List.replicate (z:Int).toNat .none)):=AH.set_self ..
 have r2:(R.set a (6,b)) a=some (6,b):=RM.set_self ..
 generalize H.set a (.list (List.replicate (z:Int).toNat .none))=H2 at x2 g2 h2 |-
 generalize R.set a (6,b)=R2 at x2 g2 r2
 obtain ⟨er2,hr2⟩:=x2.r
 case k50=>(first | exact x2.c .. | exact x2.dx .. | exact hr2 ..)
 case k74=>skip
 refine ⟨by rw [zK];unfold lid;lia,λ ep=>?_⟩
 have x3:=x2.setR (R':=R2) (λ z_ z_ z_=>rfl) (t.ks++[b]) (upd t.row b (List.replicate z .none)) (upd A.ra b a) ep (λ k hk=>by
  by_cases e:k=b
  ·subst e
   rw [zG,zG]
   case k74=>skip
   refine ⟨?_,r2⟩
   rw [h2];simp [zL]
  ·rw [zM _ _ e,zM _ _ e]
   have hk:k∈t.ks:=by
    rcases List.mem_append.mp hk with y | y
    ·exact y
    ·exact absurd (List.mem_singleton.mp y) e
   case k74=>skip
   exact ⟨x2.row k hk,x2.Rrow k hk⟩)
 have g3:Stp isCh R2 H2 R2 _:=.set (o:=.dict (dOf (t.ks++[b]) λ k=>.ref (upd A.ra b a k)) ep) g2.dom x2.Rr (by unfold isCh;lia)
 rw [yN m3,wL]
 have g3:=g2.trans g3
 generalize H2.set A.r (.dict (dOf (t.ks++[b]) λ k=>.ref (upd A.ra b a k)) ep)=H3 at x3 g3 |-
 obtain ⟨eh3,hh3⟩:=x3.h
 have f3:=f.stp g3
 case k50=>(first | exact f3.h .. | exact lI h ..)
 refine zf (λ e=>?_) (λ e=>?_)
 ·subst e
  case k50=>(first | exact x3.c .. | exact x3.dx .. | exact hh3 ..)
  case k74=>skip
  refine ⟨by rw [zK];have:=o.hl;unfold lid;show t.hs.length < _;lia,λ ep'=>?_⟩
  case k74=>skip
  show Q .none (H3.set A.h (.dict (dset (dOf t.hs λ z_=>.bool true) b (.bool true)) ep'))
  rw [yV]
  have x4:=x3.setH (addK t.hs b) ep'
  have ea:addK t.hs b=t.hs++[b]:=if_neg λ y=>m3 (o.hk b y)
  case k74=>skip
  refine q R2 _ { A with ra:=upd A.ra b a } rfl ?_ (g3.trans (.set g3.dom x3.Rh (by unfold isCh;lia)))
  rw [ea] at x4 |-
  exact x4
 ·subst e
  case k50=>fail
  case k74=>skip
  exact q R2 _ { A with ra:=upd A.ra b a } rfl x3 g3
theorem qC (p:si P) (d:Dom R H) (x:Chest R H A t) {b o:Int} {i:Nat} {h:Bool} (m:t.may (.slot b i o h)) (f:Fr R H D (.list ((Row.slot b i o h).words.map .str)))
  (q:∀ R' H' A',A'.c=A.c->Chest R' H' A' (t.add (.slot b i o h))->Stp isCh R H R' H'->Q .none H'):CN P (n+2) 97 [.ref A.c,.ref D] H Q X:=by
 obtain ⟨m1,m2,m3,m4,m5,m6⟩:=m
 obtain ⟨er,hr⟩:=x.r
 have f:Fr R H D (.list [.str "slot",.str (num b),.str (num (i:Int)),.str (num o),.str (xE h)]):=f
 have e3:decide ((i:Int) < ((List.map zL (t.row b)).length:Int))=true:=decide_eq_true (by simp;omega)
 refine zR p.h97 rfl ?_
 intro C_ Q_ X_ m_
 case k50=>exact f.h ..
 refine zp p.h95 ?_
 case k50=>exact f.h ..
 refine zh p.h93 m1 ?_
 case k50=>exact f.h ..
 refine zh p.h93 (vH m6) ?_
 case k50=>exact f.h ..
 refine zh p.h93 m2 ?_
 case k50=>(first | exact x.c .. | exact x.dx .. | exact yg hr m3 .. | exact yg hr m4 ..)
 refine zp p.h95 ?_
 case k50=>(first | exact x.c .. | exact x.dx .. | exact hr .. | exact zY m3 .. | exact x.row b m3 .. | exact e3 ..)
 refine zp p.h95 ?_
 case k50=>exact f.h ..
 refine qp p.h94 ?_
 case k50=>(first | exact x.c .. | exact x.dx .. | exact hr .. | exact zY m3 .. | exact x.row b m3 ..)
 case k74=>skip
 refine ⟨⟨by omega,by simpa using m5⟩,?_⟩
 have e:(List.map zL (t.row b)).set (i:Int).toNat (.tup [.int o,.bool h])=((t.row b).set i (some (o,h))).map zL:=by rw [List.map_set];rfl
 case k74=>skip
 show Q .none (H.set (A.ra b) (.list ((List.map zL (t.row b)).set (i:Int).toNat (.tup [.int o,.bool h]))))
 rw [e]
 case k74=>skip
 exact q R _ A rfl (x.setRow m3 _) (.set d (x.Rrow b m3) (by unfold isCh;omega))
noncomputable def oE:AV->AV
 | .str x=>.int ((intText? x).getD 0)
 | _=>.none
theorem wv {i:Int} (h:few i):oE (.str (num i))=.int i:=by show AV.int ((intText? (num i)).getD 0)=_;rw [lD h];rfl
theorem qD (p:si P) (d:Dom R H) (x:Chest R H A t) {k:Int} {l:Int×Int×Int} (m:t.may (.pair k l)) (f:Fr R H D (.list ((Row.pair k l).words.map .str)))
  (q:∀ R' H' A',A'.c=A.c->Chest R' H' A' (t.add (.pair k l))->Stp isCh R H R' H'->Q .none H'):CN P (n+2) 98 [.ref A.c,.ref D] H Q X:=by
 obtain ⟨m1,m2,m3,m4,⟨f1,f2,f3⟩,b1,b2,b3⟩:=m
 obtain ⟨el,hl⟩:=x.l
 have f:Fr R H D (.list [.str "pair",.str (num k),.str (num l.1),.str (num l.2.1),.str (num l.2.2)]):=f
 have e3:decide (((dOf t.ls λ k=>zw (t.link k)).length:Int) < 60)=true:=decide_eq_true (by rw [zK];lia)
 have e4:decide (k < t.np)=true:=decide_eq_true m2
 refine zR p.h98 rfl ?_
 intro C_ Q_ X_ m_
 case k50=>(first | exact f.h .. | exact x.c .. | exact x.dx .. | exact hl .. | exact e3 ..)
 refine zp p.h95 ?_
 case k50=>exact f.h ..
 refine zh p.h93 m1 ?_
 case k50=>fail
 refine uT (M:=[.str (num l.1),.str (num l.2.1),.str (num l.2.2)]) (ev_var rfl) ev_ci ev_cn ev_cn f.h rfl ?_
 intro S nS
 have e1:Ext0 H _:=Ext0.set (o:=.list [.str (num l.1),.str (num l.2.1),.str (num l.2.2)]) nS
 have k1:(H.set S (.list [.str (num l.1),.str (num l.2.1),.str (num l.2.2)])) S=some (.list [.str (num l.1),.str (num l.2.1),.str (num l.2.2)]):=AH.set_self ..
 generalize H.set S (.list [.str (num l.1),.str (num l.2.1),.str (num l.2.2)])=H1 at e1 k1 |-
 case k50=>exact zC k1 ..
 refine yA (m0:=[some (.ref A.c),some (.ref D),some (.int k),.none,.none,.none,.none,.none,.none,.none,.none,.none,.none]) (H:=H1) (p:=λ z_=>true) (f:=oE) (λ H' e=>e _ _ k1) _ _ _ _ _ (.refl _) (λ z_=>rfl) (λ v hv H4 e Q hq=>hq _ (.refl _)) (λ v hv z_ H5 e Q hq=>?_) λ H3 e3=>?_
 ·have hv:v∈[AV.str (num l.1),AV.str (num l.2.1),AV.str (num l.2.2)]:=hv
  have hv:∃ j,few j/\v=.str (num j):=by
   exact (alc ⟨_,f1,rfl⟩ (alc ⟨_,f2,rfl⟩ (alc ⟨_,f3,rfl⟩ al0)):∀ v∈[AV.str (num l.1),AV.str (num l.2.1),AV.str (num l.2.2)],∃ j,few j/\v=.str (num j)) v hv
  with_reducible refine ex1 (hv) λ j hx_=>an2 hx_ λ hj hr2_=>?_;clear hx_;(try clear hv);subst hr2_
  case k50=>fail
  refine zh p.h93 hj ?_
  have:=hq _ (.refl _)
  rw [wv hj] at this
  case k74=>skip
  exact this
 have er:[]++List.map oE (List.filter (λ z_=>true) (Src.items ⟨[AV.str (num l.1),AV.str (num l.2.1),AV.str (num l.2.2)],some (S,.list [AV.str (num l.1),AV.str (num l.2.1),AV.str (num l.2.2)])⟩))=[.int l.1,.int l.2.1,.int l.2.2]:=by
  rw [List.nil_append,ze]
  show [oE (.str (num l.1)),oE (.str (num l.2.1)),oE (.str (num l.2.2))]=_
  rw [wv f1,wv f2,wv f3]
 rw [er]
 clear er
 case k50=>fail
 intro L nL
 have e5:Ext0 H3 _:=Ext0.set (o:=.list [.int l.1,.int l.2.1,.int l.2.2]) nL
 have k5:(H3.set L (.list [.int l.1,.int l.2.1,.int l.2.2])) L=some (.list [.int l.1,.int l.2.1,.int l.2.2]):=AH.set_self ..
 have e5:=e1.trans (e3.trans e5)
 generalize H3.set L (.list [.int l.1,.int l.2.1,.int l.2.2])=H5 at e5 k5 |-
 clear e1 k1 e3 nL
 have x:=x.ext e5
 have hl:=e5 _ _ hl
 obtain ⟨er,hr⟩:=x.r
 case k50=>(first | exact x.c .. | exact x.dx .. | exact e4 .. | exact sU hl m3 ..)
 refine zp p.h95 ?_
 case k50=>(first | exact zC k5 .. | exact x.c .. | exact x.dx .. | exact yg hr b1 ..)
 refine zp p.h95 ?_
 case k50=>(first | exact k5 .. | exact x.c .. | exact x.dx .. | exact yg hr b2 ..)
 refine zp p.h95 ?_
 case k50=>(first | exact k5 .. | exact x.c .. | exact x.dx .. | exact yg hr b3 ..)
 refine zp p.h95 ?_
 case k50=>(first | exact k5 .. | exact x.c .. | exact x.dx .. | exact hl ..)
 case k74=>skip
 refine ⟨by rw [zK];unfold lid;lia,λ ep=>?_⟩
 case k74=>skip
 show Q .none (H5.set A.l (.dict (dset (dOf t.ls λ k=>zw (t.link k)) k (zw l)) ep))
 rw [yN m3,tO]
 case k74=>skip
 exact q R _ A rfl (x.setL _ _ ep) ((Stp.ext d e5).trans (.set (d.ext e5) x.Rl (by unfold isCh;lia)))
end
theorem fO {ds:List Deed} {j:Nat} {d:Deed} (h:ds[j]?=some d):∃ post,ds.flatMap Deed.words=(ds.take j).flatMap Deed.words++(d.words++post):=by
 have hj:=(List.getElem?_eq_some_iff.mp h).1
 have e:ds=ds.take j++d::ds.drop (j+1):=by
  have:=List.take_append_drop j ds
  rw [List.drop_eq_getElem_cons hj,(List.getElem?_eq_some_iff.mp h).2] at this
  exact this.symm
 case k74=>skip
 refine ⟨(ds.drop (j+1)).flatMap Deed.words,?_⟩
 have:=congrArg (λ l=>l.flatMap Deed.words) e
 simp only [List.flatMap_append,List.flatMap_cons] at this
 case k74=>skip
 exact this
theorem fP {l pre post:List Str} {w:List Str} (e:l=pre++(w++post)) {i:Nat} {x:Str} (h:w[i]?=some x):(l.map AV.str)[((pre.length:Int)+(i:Int)).toNat]?=some (.str x):=by
 have hi:=(List.getElem?_eq_some_iff.mp h).1
 have:((pre.length:Int)+(i:Int)).toNat=pre.length+i:=by lia
 rw [this,List.getElem?_map,e,List.getElem?_append_right (by lia),Nat.add_sub_cancel_left,List.getElem?_append_left hi,h]
 rfl
noncomputable def mD (W L:Nat) (a:Int):Loc:=[some (.ref W),some (.ref L),some (.int a),.none,.none,.none,.none,.none,.none,.none,.none]
theorem Deed.words_len (d:Deed):1<=d.words.length:=by cases d<;>exact Nat.le_of_ble_eq_true rfl
section
variable {P:Nat->Option IFn} {n:Nat} {R:RM} {H:AH} {A:Ad} {t:St} {D:Nat} {Q:AV->AH->Prop} {X:Nat->AH->Prop}
theorem qE (p:si P) {W:Nat} {ds:List Deed} (hW:H W=some (.list ((ds.flatMap Deed.words).map .str))) (hg:∀ d∈ds,d.good) (hl:ds.length<=9)
  (q:∀ L H',H L=.none->H' L=some (.list (ds.map Deed.av))->Ext0 H H'->Q (.ref L) H'):CN P (n+2) 99 [.ref W] H Q X:=by
 refine zR p.h99 rfl ?_
 intro C_ Q_ X_ m_
 iterate 1 (case k31=>fail)
 intro L nL
 have e1:Ext0 H _:=Ext0.set (o:=.list []) nL
 have k1:(H.set L (.list [])) L=some (.list []):=AH.set_self ..
 generalize H.set L (.list [])=H1 at e1 k1 |-
 case k50=>fail
 let I32_:Nat->Loc->AH->Prop:=(λ k m' H'=>∃ j:Nat,k+j=ds.length/\m'=mD W L (((ds.take j).flatMap Deed.words).length:Int)/\Ext0 H H'/\H' L=some (.list ((ds.take j).map Deed.av)))
 refine xu I32_ (λ k m' H' J0 hJ0 K0 hK0 hI=>?_) (k:=ds.length) ⟨0,by lia,rfl,e1,k1⟩
 with_reducible refine ex1 (hI) λ j hx_=>an4 hx_ λ hkj hr2_ eH kL=>?_;clear hx_;(try clear hI);subst hr2_
 have kW:=eH _ _ hW
 have nx:∀ o,Ext0 H (H'.set L o):=λ o a o' ha=>(AH.set_ne _ _ λ z=>by rw [z,nL] at ha;cases ha).trans (eH a o' ha)
 cases k with
 | zero=>
  have ej:ds.take j=ds:=List.take_of_length_le (by lia)
  rw [ej] at kL |-
  have e3:decide (((ds.flatMap Deed.words).length:Int) < (((ds.flatMap Deed.words).map AV.str).length:Int))=false:=decide_eq_false (by rw [List.length_map];lia)
  case k50=>(first | exact kW .. | exact e3 ..)
  case k74=>skip
  exact q L H' nL kL eH
 | succ k=>
  have hj:j < ds.length:=by lia
  have hd:ds[j]?=some ds[j]:=List.getElem?_eq_getElem hj
  generalize ds[j]=d at hd
  obtain ⟨post,ef⟩:=fO hd
  have gd:=hg d (List.mem_of_getElem? hd)
  have dl:=d.words_len
  have et:ds.take (j+1)=ds.take j++[d]:=by rw [List.take_add_one,hd];rfl
  have lt:((ds.take j).map Deed.av).length < lid:=by rw [List.length_map,List.length_take];unfold lid;lia
  have fl:((ds.take (j+1)).flatMap Deed.words).length=((ds.take j).flatMap Deed.words).length+d.words.length:=by
   rw [et,List.flatMap_append,List.length_append,List.flatMap_cons,List.flatMap_nil,List.append_nil]
  have ll:=congrArg List.length ef
  rw [List.length_append,List.length_append] at ll
  have wa:=λ {i:Nat} {x:Str} (h:d.words[i]?=some x)=>fP ef h
  generalize hpre:(ds.take j).flatMap Deed.words=pre at wa fl ll |-
  have e3:decide ((pre.length:Int) < (((ds.flatMap Deed.words).map AV.str).length:Int))=true:=decide_eq_true (by rw [List.length_map];lia)
  have lk:k+(j+1)=ds.length:=by lia
  have fin:∀ o',H' L=some o'->((ds.take (j+1)).map Deed.av)=(ds.take j).map Deed.av++[d.av]:=λ z_ z_=>by rw [et,List.map_append];rfl
  have fin:=fin _ kL
  clear hd et ef
  cases d with
  | up=>
   have w0:((ds.flatMap Deed.words).map AV.str)[(pre.length:Int).toNat]?=some (.str "up"):=wa (i:=0) rfl
   case k50=>(first | exact kW .. | exact e3 .. | exact w0 .. | exact kL .. | exact lt ..)
   case k74=>skip
   refine ⟨k,by lia,j+1,lk,?_,nx _,?_⟩
   ·rw [fl];rfl
   ·rw [AH.set_self,fin];rfl
  | down o=>
   have w0:((ds.flatMap Deed.words).map AV.str)[(pre.length:Int).toNat]?=some (.str "down"):=wa (i:=0) rfl
   have w1:((ds.flatMap Deed.words).map AV.str)[((pre.length:Int)+1).toNat]?=some (.str (num o)):=wa (i:=1) rfl
   have ll:(ds.flatMap Deed.words).length=pre.length+(2+post.length):=ll
   have e4:decide ((pre.length:Int)+1 < (((ds.flatMap Deed.words).map AV.str).length:Int))=true:=decide_eq_true (by rw [List.length_map];lia)
   case k50=>(first | exact kW .. | exact e3 .. | exact w0 .. | exact e4 ..)
   refine zp p.h95 ?_
   case k50=>(first | exact kW .. | exact w1 .. | exact kL ..)
   refine zh p.h93 gd ?_
   case k50=>(first | exact kL .. | exact lt ..)
   case k74=>skip
   refine ⟨k,by lia,j+1,lk,?_,nx _,?_⟩
   ·rw [fl];rfl
   ·rw [AH.set_self,fin];rfl
  | hang o i hh=>
   have w0:((ds.flatMap Deed.words).map AV.str)[(pre.length:Int).toNat]?=some (.str "hang"):=wa (i:=0) rfl
   have w1:((ds.flatMap Deed.words).map AV.str)[((pre.length:Int)+1).toNat]?=some (.str (num o)):=wa (i:=1) rfl
   have w2:((ds.flatMap Deed.words).map AV.str)[((pre.length:Int)+2).toNat]?=some (.str (num i)):=wa (i:=2) rfl
   have w3:((ds.flatMap Deed.words).map AV.str)[((pre.length:Int)+3).toNat]?=some (.str (xE hh)):=wa (i:=3) rfl
   have ll:(ds.flatMap Deed.words).length=pre.length+(4+post.length):=ll
   have e4:decide ((pre.length:Int)+3 < (((ds.flatMap Deed.words).map AV.str).length:Int))=true:=decide_eq_true (by rw [List.length_map];lia)
   case k50=>(first | exact kW .. | exact e3 .. | exact w0 .. | exact e4 ..)
   refine zp p.h95 ?_
   case k50=>(first | exact kW .. | exact w1 .. | exact kL ..)
   refine zh p.h93 gd.1 ?_
   case k50=>(first | exact kW .. | exact w2 ..)
   refine zh p.h93 gd.2 ?_
   case k50=>(first | exact kW .. | exact w3 ..)
   refine qp p.h94 ?_
   case k50=>(first | exact kL .. | exact lt ..)
   case k74=>skip
   refine ⟨k,by lia,j+1,lk,?_,nx _,?_⟩
   ·rw [fl];rfl
   ·rw [AH.set_self,fin];rfl
theorem qF (p:si P) (d:Dom R H) (x:Chest R H A t) (o:t.Rok) {b:Int} {ds:List Deed} (m:t.may (.will b ds)) (f:Fr R H D (.list ((Row.will b ds).words.map .str)))
  (q:∀ R' H' A',A'.c=A.c->Chest R' H' A' (t.add (.will b ds))->Stp isCh R H R' H'->Q .none H'):CN P (n+3) 100 [.ref A.c,.ref D] H Q X:=by
 obtain ⟨m1,m2,m3,m4,m5,m6⟩:=m
 have wl:=yD o.wu o.wk
 have kl:=o.kl
 have f:Fr R H D (.list (.str "will"::.str (num b)::(ds.flatMap Deed.words).map .str)):=f
 have pl:1<=(ds.flatMap Deed.words).length:=by
  cases ds with
  | nil=>exact absurd rfl m4
  | cons d r=>have:=d.words_len;rw [List.flatMap_cons,List.length_append];lia
 have e3:decide ((2:Int) < ((AV.str "will"::AV.str (num b)::(ds.flatMap Deed.words).map AV.str).length:Int))=true:=decide_eq_true (by simp only [List.length_cons,List.length_map];lia)
 refine zR p.h100 rfl ?_
 intro C_ Q_ X_ m_
 case k50=>(first | exact f.h .. | exact e3 ..)
 refine zp p.h95 ?_
 case k50=>exact f.h ..
 refine zh p.h93 m1 ?_
 case k50=>fail
 refine uT (M:=(ds.flatMap Deed.words).map .str) (ev_var rfl) ev_ci ev_cn ev_cn f.h rfl ?_
 intro S nS
 have e1:Ext0 H _:=Ext0.set (o:=.list ((ds.flatMap Deed.words).map .str)) nS
 have k1:(H.set S (.list ((ds.flatMap Deed.words).map .str))) S=some (.list ((ds.flatMap Deed.words).map .str)):=AH.set_self ..
 generalize H.set S (.list ((ds.flatMap Deed.words).map .str))=H1 at e1 k1 |-
 case k50=>fail
 refine qE (n:=n) p k1 m6 m5 λ L H2 nL kL e2=>?_
 have nL:=e1.back nL
 have e2:=e1.trans e2
 clear e1 k1
 have x2:Chest (R.set L (7,b)) H2 A t:=x.keep (λ a o h z_=>e2 a o h) λ a ha=>RM.set_ne _ _ λ z=>ha (z▸nL)
 have g2:Stp isCh R H (R.set L (7,b)) H2:=.setAll d e2 [(L,(7,b))] (λ q hq=>by rw [List.mem_singleton.mp hq];exact nL) (λ q hq=>by rw [List.mem_singleton.mp hq];show H2 L≠.none;rw [kL];simp)
 have r2:(R.set L (7,b)) L=some (7,b):=RM.set_self ..
 generalize R.set L (7,b)=R2 at x2 g2 r2
 obtain ⟨er,hr⟩:=x2.r
 obtain ⟨ew,hw⟩:=x2.w
 have e4:decide (((ds.map Deed.av).length:Int)<=9)=true:=decide_eq_true (by rw [List.length_map];lia)
 case k50=>(first | exact kL .. | exact x2.c .. | exact x2.dx .. | exact yg hr m2 .. | exact sU hw m3 .. | exact e4 ..)
 refine zp p.h95 ?_
 case k50=>(first | exact x2.c .. | exact x2.dx .. | exact hw ..)
 case k74=>skip
 refine ⟨by rw [zK];unfold lid;lia,λ ep=>?_⟩
 case k74=>skip
 show Q .none (H2.set A.w (.dict (dset (dOf t.ws λ k=>.ref (A.wa k)) b (.ref L)) ep))
 rw [yN m3,wL]
 have x3:=x2.setW (R':=R2) (λ z_ z_ z_=>rfl) (t.ws++[b]) (upd t.will b ds) (upd A.wa b L) ep (λ k hk=>by
  by_cases z:k=b
  ·subst z
   rw [zG,zG]
   case k74=>skip
   exact ⟨kL,r2⟩
  ·rw [zM _ _ z,zM _ _ z]
   have hk:k∈t.ws:=by
    rcases List.mem_append.mp hk with y | y
    ·exact y
    ·exact absurd (List.mem_singleton.mp y) z
   case k74=>skip
   exact ⟨x2.will k hk,x2.Rwill k hk⟩)
 case k74=>skip
 exact q R2 _ { A with wa:=upd A.wa b L } rfl x3 (g2.trans (.set g2.dom x2.Rw (by unfold isCh;lia)))
theorem oF (p:si P) (d:Dom R H) (x:Chest R H A t) (o:t.Rok) {r:Row} (m:t.may r) (f:Fr R H D (.list (r.words.map .str)))
  (q:∀ R' H' A',A'.c=A.c->Chest R' H' A' (t.add r)->Stp isCh R H R' H'->Q .none H'):CN P (n+4) 101 [.ref A.c,.ref D] H Q X:=by
 refine zR p.h101 rfl ?_
 intro C_ Q_ X_ m_
 cases r with
 | box b z h=>
  have f':Fr R H D (.list [.str "box",.str (num b),.str (num (z:Int)),.str (xX h)]):=f
  case k50=>exact f'.h ..
  refine oC (n:=n+1) p d x o m f λ R' H' A' e1 x1 g1=>?_
  case k50=>fail
  case k74=>skip
  exact q R' H' A' e1 x1 g1
 | slot b i u h=>
  have f':Fr R H D (.list [.str "slot",.str (num b),.str (num (i:Int)),.str (num u),.str (xE h)]):=f
  case k50=>exact f'.h ..
  refine qC (n:=n+1) p d x m f λ R' H' A' e1 x1 g1=>?_
  case k50=>fail
  case k74=>skip
  exact q R' H' A' e1 x1 g1
 | pair k l=>
  have f':Fr R H D (.list [.str "pair",.str (num k),.str (num l.1),.str (num l.2.1),.str (num l.2.2)]):=f
  case k50=>exact f'.h ..
  refine qD (n:=n+1) p d x m f λ R' H' A' e1 x1 g1=>?_
  case k50=>fail
  case k74=>skip
  exact q R' H' A' e1 x1 g1
 | will b ds=>
  have f':Fr R H D (.list (.str "will"::.str (num b)::(ds.flatMap Deed.words).map .str)):=f
  case k50=>exact f'.h ..
  refine zp p.h95 ?_
  case k50=>fail
  refine qF (n:=n) p d x o m f λ R' H' A' e1 x1 g1=>?_
  case k50=>fail
  case k74=>skip
  exact q R' H' A' e1 x1 g1
end
structure Same (s t:St):Prop where
 ks:∀ k,k∈t.ks↔k∈s.ks
 hs:∀ k,k∈t.hs↔k∈s.hs
 ls:∀ k,k∈t.ls↔k∈s.ls
 ku:t.ks.Nodup
 hu:t.hs.Nodup
 lu:t.ls.Nodup
 row:∀ k∈s.ks,t.row k=s.row k
 link:∀ k∈s.ls,t.link k=s.link k
 will:∀ k,t.willOf k=s.willOf k
 nb:t.nb=s.nb
 np:t.np=s.np
theorem yu {l l':List Int} (h:∀ k,k∈l'↔k∈l) (u:l.Nodup) (u':l'.Nodup):zA l'=zA l:=
 rm (xV _) (xV _) (zF u') (zF u) λ x=>by rw [mem_sortI,mem_sortI];exact h x
theorem tY (s:St) (b:Int) (d:Deed):(zS s b d).ws=s.ws/\(zS s b d).will=s.will:=by
 cases d with
 | up=>exact ⟨rfl,rfl⟩
 | down o=>unfold zS;dsimp only;split<;>exact ⟨rfl,rfl⟩
 | hang o i h=>unfold zS;dsimp only;split<;>exact ⟨rfl,rfl⟩
theorem lJ (b:Int) (ds:List Deed):∀ s:St,(yH s b ds).ws=s.ws/\(yH s b ds).will=s.will:=by
 induction ds with
 | nil=>intro s;exact ⟨rfl,rfl⟩
 | cons d r ih=>
  intro s
  have h1:=ih (zS s b d)
  have h2:=tY s b d
  case k74=>skip
  exact ⟨h1.1.trans h2.1,h1.2.trans h2.2⟩
theorem uU {s t:St} (h:t.ws=s.ws/\t.will=s.will) (k:Int):t.willOf k=s.willOf k:=by unfold St.willOf;rw [h.1,h.2]
theorem tZ (s:St) (b k:Int):(doWill s b).willOf k=if k=b then [] else s.willOf k:=
 (uU (lJ b (s.willOf b) (s.bequeath b [])) k).trans (zv s b [] k)
section
variable {s t:St}
theorem Same.deed (a:Same s t) (b:Int) (d:Deed):Same (zS s b d) (zS t b d):=by
 have w:∀ k,(zS t b d).willOf k=(zS s b d).willOf k:=λ k=>by rw [uU (tY t b d),uU (tY s b d)];exact a.will k
 cases d with
 | up=>exact ⟨a.ks,λ k=>by
   show k∈addK t.hs b↔k∈addK s.hs b
   rw [mem_addK,mem_addK,a.hs],a.ls,a.ku,xA a.hu,a.lu,a.row,a.link,w,a.nb,a.np⟩
 | down o=>
  by_cases h:o∈s.hs
  ·rw [show zS s b (.down o)={ s with hs:=delK s.hs o } from if_pos h,show zS t b (.down o)={ t with hs:=delK t.hs o } from if_pos ((a.hs o).mpr h)]
   case k74=>skip
   exact ⟨a.ks,λ k=>by
    show k∈delK t.hs o↔k∈delK s.hs o
    rw [mem_delK,mem_delK,a.hs],a.ls,a.ku,a.hu.filter _,a.lu,a.row,a.link,a.will,a.nb,a.np⟩
  ·rw [show zS s b (.down o)=s from if_neg h,show zS t b (.down o)=t from if_neg λ z=>h ((a.hs o).mp z)]
   exact a
 | hang o i h=>
  by_cases hh:o∈s.ks/\i < (s.row o).length
  ·have hr:=a.row o hh.1
   rw [show zS s b (.hang o i h)={ s with row:=upd s.row o ((s.row o).set i.toNat (some (b,h))) } from if_pos hh,show zS t b (.hang o i h)={ t with row:=upd t.row o ((t.row o).set i.toNat (some (b,h))) } from if_pos ⟨(a.ks o).mpr hh.1,by rw [hr];exact hh.2⟩]
   case k74=>skip
   refine ⟨a.ks,a.hs,a.ls,a.ku,a.hu,a.lu,λ k hk=>?_,a.link,a.will,a.nb,a.np⟩
   show upd t.row o _ k=upd s.row o _ k
   by_cases z:k=o
   ·rw [z,zG,zG,hr]
   ·rw [zM _ _ z,zM _ _ z];exact a.row k hk
  ·rw [show zS s b (.hang o i h)=s from if_neg hh,show zS t b (.hang o i h)=t from if_neg λ z=>hh ⟨(a.ks o).mp z.1,by rw [<-a.row o ((a.ks o).mp z.1)];exact z.2⟩]
   exact a
end
theorem Same.deeds (b:Int) (ds:List Deed):∀ {s t:St},Same s t->Same (yH s b ds) (yH t b ds):=by
 induction ds with
 | nil=>intro s t a;exact a
 | cons d r ih=>intro s t a;exact ih (a.deed b d)
theorem Same.doWill {s t:St} (a:Same s t) (b:Int):Same (doWill s b) (doWill t b):=by
 unfold Mine.doWill
 rw [a.will b]
 refine Same.deeds b _ ⟨a.ks,a.hs,a.ls,a.ku,a.hu,a.lu,a.row,a.link,λ k=>?_,a.nb,a.np⟩
 rw [show (t.bequeath b []).willOf k=_ from zv t b [] k,show (s.bequeath b []).willOf k=_ from zv s b [] k,a.will k]
theorem Same.doWills (l:List Int):∀ {s t:St},Same s t->Same (doWills s l) (doWills t l):=by
 induction l with
 | nil=>intro s t a;exact a
 | cons b r ih=>intro s t a;exact ih (a.doWill b)
section
variable {s t:St}
theorem Same.giveUp (a:Same s t) (g:List Int):Same (giveUp s g) (giveUp t g):=by
 case k74=>skip
 refine ⟨λ k=>?_,a.hs,λ k=>?_,a.ku.filter _,a.hu,a.lu.filter _,λ k hk=>?_,λ k hk=>a.link k (List.mem_filter.mp hk).1,a.will,a.nb,a.np⟩
 ·show k∈t.ks.filter _↔k∈s.ks.filter _
  rw [List.mem_filter,List.mem_filter,a.ks]
 ·show k∈t.ls.filter _↔k∈s.ls.filter _
  rw [List.mem_filter,List.mem_filter,a.ls]
  refine and_congr_right λ h=>?_
  unfold badL
  rw [a.link k h]
 ·have hk:k∈s.ks:=(List.mem_filter.mp hk).1
  show (if k∈t.ks then _ else _)=if k∈s.ks then _ else _
  rw [if_pos hk,if_pos ((a.ks k).mpr hk),a.row k hk]
theorem Same.reach (a:Same s t) (ok:s.Ok) {b:Int}:Reach t b↔Reach s b:=by
 constructor
 ·intro r
  induction r with
  | hand h=>exact .hand ((a.hs _).mp h)
  | slot _ h ih=>exact .slot ih (by rw [<-a.row _ (ih.box ok)];exact h)
  | pair h _ _ h1 h2=>
   have hp:=(a.ls _).mp h
   rw [a.link _ hp] at h1 h2 |-
   exact .pair hp h1 h2
 ·intro r
  induction r with
  | hand h=>exact .hand ((a.hs _).mpr h)
  | slot r h ih=>exact .slot ih (by rw [a.row _ (r.box ok)];exact h)
  | pair h _ _ h1 h2=>
   have hp:=(a.ls _).mpr h
   rw [<-a.link _ h] at h1 h2 |-
   exact .pair hp h1 h2
theorem Same.lost (a:Same s t) (ok:s.Ok):zV t=zV s:=by
 unfold zV
 rw [yu a.ks ok.ku a.ku]
 exact List.filter_congr λ b z_=>by simp [a.reach ok]
theorem Same.step (a:Same s t) {b o:Int} (hb:b∈s.ks):Step t b o↔Step s b o:=by
 unfold Step
 rw [a.row b hb]
 refine or_congr Iff.rfl ⟨λ ⟨p,hp,h⟩=>?_,λ ⟨p,hp,h⟩=>?_⟩
 ·have hp:=(a.ls p).mp hp
  rw [a.link p hp] at h
  case k74=>skip
  exact ⟨p,hp,h⟩
 ·rw [<-a.link p hp] at h
  case k74=>skip
  exact ⟨p,(a.ls p).mpr hp,h⟩
theorem Same.below (a:Same s t) (ok:s.Ok) {x:Int} (hx:x∈s.ks) (y:Int):xD t x y=xD s x y:=by
 rw [Bool.eq_iff_iff,belowB_iff,belowB_iff,a.lost ok]
 constructor
 ·intro h
  induction h with
  | one h1 h2=>exact .one ((a.step hx).mp h1) h2
  | more _ h1 h2 ih=>exact .more ih ((a.step (ih.box ok hx)).mp h1) h2
 ·intro h
  induction h with
  | one h1 h2=>exact .one ((a.step hx).mpr h1) h2
  | more h0 h1 h2 ih=>exact .more ih ((a.step (h0.box ok hx)).mpr h1) h2
theorem Same.wills (a:Same s t) (ok:s.Ok):wills t=wills s:=by
 unfold Mine.wills
 rw [a.lost ok]
 exact List.filter_congr λ b z_=>by rw [a.will b]
end
theorem sj {f g:Int->Int->Bool} (n:Nat):∀ {l:List Int},(∀ a∈l,∀ b,f a b=g a b)->yO f n l=yO g n l:=by
 induction n with
 | zero=>intro l _;rfl
 | succ n ih=>
  intro l h
  have e:l.filter (frB f l)=l.filter (frB g l):=List.filter_congr λ b hb=>by
   unfold frB
   rw [Bool.eq_iff_iff,List.all_eq_true,List.all_eq_true]
   exact forall_congr' λ o=>⟨λ k ho=>by rw [<-h o ho,<-h b hb];exact k ho,λ k ho=>by rw [h o ho,h b hb];exact k ho⟩
  unfold yO
  rw [e]
  split
  ·rfl
  ·rw [ih λ a ha=>h a (List.mem_filter.mp ha).1]
section
variable {s t:St}
theorem Same.orderOf (a:Same s t) (ok:s.Ok):orderOf t=orderOf s:=by
 unfold Mine.orderOf
 rw [a.wills ok]
 exact sj _ λ x hx y=>a.below ok (mem_lost.mp (mem_wills.mp hx).1).1 y
theorem Same.willed (a:Same s t) (ok:s.Ok):Same (willed s) (willed t):=by
 unfold Mine.willed
 rw [a.orderOf ok]
 exact Same.doWills _ a
theorem Same.goneOf (a:Same s t) (ok:s.Ok) (w:s.Wok):goneOf t=goneOf s:=by
 unfold Mine.goneOf
 rw [a.lost ok]
 exact List.filter_congr λ b z_=>by simp [(a.willed ok).reach (zt ok w).1]
theorem Same.keptOf (a:Same s t) (ok:s.Ok) (w:s.Wok):keptOf t=keptOf s:=by
 unfold Mine.keptOf
 rw [a.lost ok]
 exact List.filter_congr λ b z_=>by simp [(a.willed ok).reach (zt ok w).1]
theorem Same.sweep (a:Same s t) (ok:s.Ok) (w:s.Wok):Same (zQ s) (zQ t):=by
 unfold zQ
 rw [a.goneOf ok w]
 exact (a.willed ok).giveUp _
theorem Same.len {l l':List Int} (h:∀ k,k∈l'↔k∈l) (u:l.Nodup) (u':l'.Nodup):l'.length=l.length:=
 Nat.le_antisymm (yD u' λ k hk=>(h k).mp hk) (yD u λ k hk=>(h k).mpr hk)
theorem Same.can (a:Same s t) (ok:s.Ok) {c:Cmd} (hc:s.can c):t.can c:=by
 cases c with
 | make z=>exact ⟨hc.1,hc.2.1,by rw [Same.len a.ks ok.ku a.ku];exact hc.2.2⟩
 | put b i o hh=>exact ⟨(a.ks b).mpr hc.1,hc.2.1,by rw [a.row b hc.1];exact hc.2.2.1,(a.ks o).mpr hc.2.2.2⟩
 | empty b i=>exact ⟨(a.ks b).mpr hc.1,hc.2.1,by rw [a.row b hc.1];exact hc.2.2⟩
 | take b=>exact (a.ks b).mpr hc
 | drop b=>exact ⟨(a.ks b).mpr hc.1,(a.hs b).mpr hc.2⟩
 | pair b k o=>exact ⟨(a.ks b).mpr hc.1,(a.ks k).mpr hc.2.1,(a.ks o).mpr hc.2.2.1,by rw [Same.len a.ls ok.lu a.lu];exact hc.2.2.2⟩
 | unpair p=>exact (a.ls p).mpr hc
 | bequeath b ds=>exact ⟨(a.ks b).mpr hc.1,hc.2⟩
theorem Same.setRow (a:Same s t) {b:Int} (hb:b∈s.ks) (f:List Slot->List Slot):Same { s with row:=upd s.row b (f (s.row b)) } { t with row:=upd t.row b (f (t.row b)) }:=by
 case k74=>skip
 refine ⟨a.ks,a.hs,a.ls,a.ku,a.hu,a.lu,λ k hk=>?_,a.link,a.will,a.nb,a.np⟩
 show upd t.row b _ k=upd s.row b _ k
 by_cases z:k=b
 ·rw [z,zG,zG,a.row b hb]
 ·rw [zM _ _ z,zM _ _ z];exact a.row k hk
theorem qq {l l':List Int} (h:∀ k,k∈l'↔k∈l) (x k:Int):k∈l'++[x]↔k∈l++[x]:=by rw [List.mem_append,List.mem_append,h]
theorem tB {l:List Int} {x:Int} (u:l.Nodup) (h:x∉l):(l++[x]).Nodup:=List.nodup_append.mpr ⟨u,List.pairwise_singleton _ _,λ a ha b hb z=>by rw [z,List.mem_singleton.mp hb] at ha;exact h ha⟩
theorem Same.app (a:Same s t) (ok:s.Ok) {c:Cmd} (hc:s.can c):Same (s.app c) (t.app c):=by
 have nk:s.nb∉s.ks:=λ z=>by have:=(ok.kn _ z).2;lia
 have nl:s.np∉s.ls:=λ z=>by have:=(ok.ln _ z).2;lia
 cases c with
 | make z=>
  show Same (s.make z) (t.make z)
  unfold St.make
  rw [a.nb]
  case k74=>skip
  refine ⟨qq a.ks _,λ k=>?_,a.ls,tB a.ku λ z=>nk ((a.ks _).mp z),xA a.hu,a.lu,λ k hk=>?_,a.link,a.will,rfl,a.np⟩
  ·show k∈addK t.hs s.nb↔k∈addK s.hs s.nb
   rw [mem_addK,mem_addK,a.hs]
  ·show upd t.row s.nb _ k=upd s.row s.nb _ k
   by_cases y:k=s.nb
   ·rw [y,zG,zG]
   ·rw [zM _ _ y,zM _ _ y]
    rcases List.mem_append.mp hk with q | q
    ·exact a.row k q
    ·exact absurd (List.mem_singleton.mp q) y
 | put b i o hh=>exact a.setRow hc.1 λ l=>l.set i.toNat (some (o,hh))
 | empty b i=>exact a.setRow hc.1 λ l=>l.set i.toNat .none
 | take b=>exact a.deed b .up
 | drop b=>
  case k74=>skip
  exact ⟨a.ks,λ k=>by
   show k∈delK t.hs b↔k∈delK s.hs b
   rw [mem_delK,mem_delK,a.hs],a.ls,a.ku,a.hu.filter _,a.lu,a.row,a.link,a.will,a.nb,a.np⟩
 | pair b k o=>
  show Same (s.pair (b,k,o)) (t.pair (b,k,o))
  unfold St.pair
  rw [a.np]
  case k74=>skip
  refine ⟨a.ks,a.hs,qq a.ls _,a.ku,a.hu,tB a.lu λ z=>nl ((a.ls _).mp z),a.row,λ p hp=>?_,a.will,a.nb,rfl⟩
  show upd t.link s.np _ p=upd s.link s.np _ p
  by_cases y:p=s.np
  ·rw [y,zG,zG]
  ·rw [zM _ _ y,zM _ _ y]
   rcases List.mem_append.mp hp with q | q
   ·exact a.link p q
   ·exact absurd (List.mem_singleton.mp q) y
 | unpair p=>
  case k74=>skip
  exact ⟨a.ks,a.hs,λ k=>by
   show k∈delK t.ls p↔k∈delK s.ls p
   rw [mem_delK,mem_delK,a.ls],a.ku,a.hu,a.lu.filter _,a.row,λ k hk=>a.link k (mem_delK.mp hk).1,a.will,a.nb,a.np⟩
 | bequeath b ds=>exact ⟨a.ks,a.hs,a.ls,a.ku,a.hu,a.lu,a.row,a.link,λ k=>by rw [zv,zv,a.will],a.nb,a.np⟩
theorem Same.willing (a:Same s t) (ok:s.Ok):willing t=willing s:=by
 unfold Mine.willing
 rw [yu a.ks ok.ku a.ku]
 exact List.filter_congr λ b z_=>by unfold hasW;rw [a.will b]
theorem u7 {l:List Int} {f g:Int->List Row} (h:∀ b∈l,f b=g b):l.flatMap f=l.flatMap g:=by
 rw [List.flatMap_def,List.flatMap_def,List.map_congr_left h]
theorem Same.text (a:Same s t) (ok:s.Ok):yZ t=yZ s:=by
 have e:z7 t=z7 s:=by
  unfold z7
  rw [yu a.ks ok.ku a.ku,yu a.ls ok.lu a.lu,a.willing ok]
  congr 1
  ·refine List.map_congr_left λ b hb=>?_
   unfold yP
   rw [a.row b (mem_sortI.mp hb)]
   congr 1
   simp [a.hs]
  ·congr 1
   ·exact u7 λ b hb=>by rw [a.row b (mem_sortI.mp hb)]
   ·congr 1
    ·exact List.map_congr_left λ k hk=>by rw [a.link k (mem_sortI.mp hk)]
    ·exact List.map_congr_left λ b z_=>by rw [a.will b]
 unfold yZ yk
 rw [e,a.nb,a.np]
noncomputable def St.W9 (s:St):Prop:=∀ b,(s.willOf b).length<=9
theorem W9.app (h:s.W9) {c:Cmd} (hc:s.can c):(s.app c).W9:=λ b=>by
 by_cases z:∃ x ds,c=.bequeath x ds
 ·with_reducible refine ex2 (z) λ x ds hr2_=>?_;(try clear z);subst hr2_
  rw [zv]
  split
  ·exact hc.2.1
  ·exact h b
 ·rw [pe λ x ds e=>z ⟨x,ds,e⟩];exact h b
end
theorem W9.doWills (l:List Int):∀ {s:St},s.W9->(doWills s l).W9:=by
 induction l with
 | nil=>intro s h;exact h
 | cons b r ih=>
  intro s h
  refine ih λ k=>?_
  rw [tZ]
  split
  ·exact Nat.zero_le _
  ·exact h k
theorem W9.sweep {s:St} (h:s.W9):(zQ s).W9:=W9.doWills _ h
theorem oG {s:St} (ok:s.Ok) {k:Int} (h:k∉willing s):s.willOf k=[]:=by
 by_cases hk:k∈s.ks
 ·have:hasW s k=false:=by
   cases z:hasW s k with
   | false=>rfl
   | true=>exact absurd (List.mem_filter.mpr ⟨mem_sortI.mpr hk,z⟩) h
  unfold hasW at this
  cases z:s.willOf k with
  | nil=>rfl
  | cons a b=>rw [z] at this;cases this
 ·exact if_neg λ z=>hk (ok.wk k z)
theorem qG {s:St} {k:Int} (h:k∈willing s):s.willOf k≠[]:=λ z=>by
 have:=(List.mem_filter.mp h).2
 unfold hasW at this
 rw [z] at this;cases this
section
variable {s t:St}
theorem Rdg.same (r:Rdg s t (zA s.ks) (zA s.ks) (zA s.ls) (willing s)) (ok:s.Ok):Same s t:=by
 case k74=>skip
 refine ⟨λ k=>by rw [r.ks,mem_sortI],λ k=>?_,λ k=>by rw [r.ls,mem_sortI],by rw [r.ks];exact zF ok.ku,by rw [r.hs];exact (zF ok.ku).filter _,by rw [r.ls];exact zF ok.lu,
  λ k hk=>r.rw k (mem_sortI.mpr hk) (mem_sortI.mpr hk),λ k hk=>r.link k (mem_sortI.mpr hk),λ k=>?_,r.nb,r.np⟩
 ·rw [r.hs,List.mem_filter,mem_sortI,decide_eq_true_iff]
  case k74=>skip
  exact ⟨λ h=>h.2,λ h=>⟨ok.hk k h,h⟩⟩
 ·show (if k∈t.ws then t.will k else [])=_
  rw [r.ws]
  by_cases h:k∈willing s
  ·rw [if_pos h,r.will k h]
  ·rw [if_neg h,oG ok h]
theorem Same.ok (a:Same s t) (ok:s.Ok) (wu:t.ws.Nodup) (wk:∀ k∈t.ws,k∈t.ks):t.Ok:=by
 case k74=>skip
 refine ⟨λ k hk=>by rw [a.nb];exact ok.kn k ((a.ks k).mp hk),λ k hk=>by rw [a.np];exact ok.ln k ((a.ls k).mp hk),by rw [a.nb];exact ok.nb,by rw [a.np];exact ok.np,by rw [Same.len a.ks ok.ku a.ku];exact ok.kl,by rw [Same.len a.ls ok.lu a.lu];exact ok.ll,a.ku,a.hu,a.lu,wu,λ k hk=>(a.ks k).mpr (ok.hk k ((a.hs k).mp hk)),wk,
  λ k hk=>by rw [a.row k ((a.ks k).mp hk)];exact ok.rl k ((a.ks k).mp hk),λ k hk o h ho=>?_,λ p hp=>?_⟩
 ·have hk:=(a.ks k).mp hk
  rw [a.row k hk] at ho
  exact (a.ks o).mpr (ok.ro k hk o h ho)
 ·have hp:=(a.ls p).mp hp
  rw [a.link p hp]
  have:=ok.lo p hp
  case k74=>skip
  exact ⟨(a.ks _).mpr this.1,(a.ks _).mpr this.2.1,(a.ks _).mpr this.2.2⟩
theorem Rdg.wr (r:Rdg s t (zA s.ks) (zA s.ks) (zA s.ls) (willing s)) (w:s.Wr):t.Wr:=by
 have a:=r.same w.ok
 case k74=>skip
 refine ⟨a.ok w.ok (by rw [r.ws];exact (zF w.ok.ku).filter _) (λ k hk=>?_),by rw [a.nb];exact w.nb,by rw [a.np];exact w.np,λ b hb=>?_,λ b=>by rw [a.will];exact w.w9 b⟩
 ·rw [r.ws] at hk
  rw [r.ks]
  exact (List.mem_filter.mp hk).1
 ·rw [r.ws] at hb
  rw [r.will b hb]
  case k74=>skip
  exact ⟨qG hb,yI w.wk b⟩
end
theorem iX {Cl:Calls} {m:Loc} {H:AH} {Y:Nat->AH->Prop} {K:AV->AH->Prop} {l:IEs} {vs:List AV} (p:Evs l m H vs) (q:∀ x dx,x≠dx->H x=.none->H dx=.none->Cl th (.ref x::vs) ((H.set dx (.ns [])).set x (.inst dx)) (λ r H'=>isNone r=true/\K (.ref x) H') Y):WE Cl Y (.new l) m H K:=p.run _ _ _ q
noncomputable def satK (Cl:Calls) (o:IE) (k:Nat) (r:ISs) (m:Loc) (Q:Fl->Loc->AH->Prop) (X:Nat->Loc->AH->Prop):AV->AH->Prop:=λ v H=>WE Cl (xq X m) o m H λ a H=>wSat a k v H λ H=>WSs Cl r m H Q X
theorem iY {Cl:Calls} {o:IE} {k f:Nat} {l:IEs} {vs:List AV} {r:ISs} {m:Loc} {H:AH} {Q:Fl->Loc->AH->Prop} {X:Nat->Loc->AH->Prop} (p:Evs l m H vs) (s:Cl f vs H (satK Cl o k r m Q X) (xq X m)):WSs Cl (.cons (.sat o k (.call f l)) r) m H Q X:=p.run _ _ _ s
theorem iZ {Cl:Calls} {o:IE} {k a d:Nat} {F G:List (Nat×AV)} {v:AV} {r:ISs} {m:Loc} {H:AH} {Q:Fl->Loc->AH->Prop} {X:Nat->Loc->AH->Prop} (q:Ev o m H (.ref a)) (h1:H a=some (.inst d)) (h2:H d=some (.ns F)) (h3:nset F k v=G) (s:WSs Cl r m (H.set d (.ns G)) Q X):satK Cl o k r m Q X v H:=by
 refine q.run _ _ _ ?_
 unfold wSat
 subst h3
 simp only [h1,h2]
 exact s
theorem qr {p:Nat->Prop} {H H':AH} {R':RM} (g:Stp p (λ z_=>.none) H R' H'):Ext0 H H':=λ a o h=>g.keep a o h λ t k hr=>by cases hr
theorem dom0 (H:AH):Dom (λ z_=>.none) H:=λ a h=>absurd rfl h
theorem lK {x:Nat} {m0:Loc} {ok:AH->Prop} {test:Loc->AH->(Bool->AH->Prop)->Prop} {elt:Loc->AH->(AV->AH->Prop)->Prop} {H:AH} {f:AV->AO} (hok:∀ H',Ext0 H H'->ok H') :
  ∀ (items:List AV) (m:Loc) (aD:AH) (acc:List AV) (Q:List AV->AH->Prop),Ext0 H aD->(∀ v,m.set x v=m0.set x v)->
  (∀ v∈items,∀ H' Q,Q true H'->test (m0.set x (some v)) H' Q)->
  (∀ v∈items,∀ H' Q,(∀ a,H' a=.none->Q (.ref a) (H'.set a (f v)))->elt (m0.set x (some v)) H' Q)->
  (∀ H' (as:List Nat),Ext0 aD H'->as.map H'=items.map (λ v=>some (f v))->Q (acc++as.map .ref) H')->wQ ok (zz (.one x)) test elt items m aD acc Q:=by
 intro items
 induction items with
 | nil=>intro m aD acc Q e _ _ _ hQ;exact ⟨hok _ e,List.append_nil acc▸hQ aD [] (.refl _) rfl⟩
 | cons v r ih=>
  intro m aD acc Q e hm ht he hQ
  case k74=>skip
  refine ⟨hok _ e,?_⟩
  show test (m.set x (some v)) aD _
  rw [hm]
  refine ht v (.head _) aD _ ?_
  have hm':∀ u,(m0.set x (some v)).set x u=m0.set x u:=λ u=>List.set_set ..
  refine he v (.head _) aD _ λ a na=>?_
  have e2:Ext0 aD _:=Ext0.set (o:=f v) na
  refine ih _ _ _ Q (e.trans e2) hm' (λ u hu=>ht u (.tail _ hu)) (λ u hu=>he u (.tail _ hu)) λ H' as e' ha=>?_
  rw [List.append_assoc]
  refine hQ H' (a::as) (e2.trans e') ?_
  rw [List.map_cons,List.map_cons,ha,e' a _ (AH.set_self ..)]
noncomputable def allW (s:St):List (List Str):=yk s::(z7 s).map Row.words
theorem jx (s:St):(allW s).map (Str.join " ")=Str.join " " (yk s)::(z7 s).map Row.text:=by
 show _::((z7 s).map Row.words).map (Str.join " ")=_
 rw [List.map_map];rfl
theorem jy (s:St):yZ s=Str.join "\n" ((allW s).map (Str.join " ")):=by rw [jx];rfl
theorem jz (r:Row):r.words≠[]:=by cases r<;>exact List.cons_ne_nil _ _
section
variable {s:St}
theorem t5 (w:s.Wr):∀ l∈allW s,(∀ x∈l,Word x)/\l≠[]/\(Str.join " " l).length<=400:=by
 obtain ⟨fb,fp⟩:=xz w
 intro l hl
 rcases List.mem_cons.mp hl with rfl | hl
 ·case k74=>skip
  exact ⟨alc (yr (by decide)) (alc (zl fb) (alc (zl fp) al0)),List.cons_ne_nil _ _,qo w⟩
 ·with_reducible refine ex1 (List.mem_map.mp hl) λ r hx_=>an2 hx_ λ hr hr2_=>?_;clear hx_;subst hr2_
  obtain ⟨t,ht⟩:=w.may r hr
  case k74=>skip
  exact ⟨lE ht,jz r,tX ht⟩
theorem lL (w:s.Wr):Txt.split (yZ s) ⟨#[10]⟩=(allW s).map (Str.join " "):=by
 rw [jy]
 exact pq (λ l hl=>(t5 w l hl).1) (List.cons_ne_nil _ _)
noncomputable def lM:AV->AO
 | .str x=>.list ((Txt.split x ⟨#[32]⟩).map .str)
 | _=>.list []
theorem iA (w:s.Wr):(((allW s).map (Str.join " ")).map AV.str).map (λ v=>some (lM v))=(allW s).map λ l=>some (.list (l.map .str)):=by
 rw [List.map_map,List.map_map]
 refine List.map_congr_left λ l hl=>?_
 obtain ⟨h1,h2,-⟩:=t5 w l hl
 show some (AO.list ((Txt.split (Str.join " " l) ⟨#[32]⟩).map .str))=_
 rw [lF h1 h2]
theorem t6 {c:Nat} {l:List Str} (h:∀ w∈l,w.length<=c):(l.map (·.length)).sum<=c * l.length:=by
 induction l with
 | nil=>exact Nat.zero_le _
 | cons a r ih=>
  have h1:=h a (.head _)
  have h2:=ih λ w hw=>h w (.tail _ hw)
  simp only [List.map_cons,List.sum_cons,List.length_cons,Nat.mul_add]
  lia
theorem uV {t:St} {r:Row} (h:t.may r) (h5:r.words.length<=5):r.text.length<=50:=by
 obtain ⟨-,a2,-⟩:=wp h
 have h1:=xG a2
 have h2:=StrLaws.join_length_le (" ":Str) r.words
 have h4:(" ":Str).length=1:=by rw [rx];rfl
 rw [h4] at h2
 unfold Row.text
 lia
theorem t7 (b:Int):∀ (p:List Slot) (i:Nat),∀ r∈zE b i p,r.words.length<=5:=by
 intro p
 induction p with
 | nil=>intro i r h;cases h
 | cons v p ih=>
  intro i r h
  cases v with
  | none=>exact ih (i+1) r h
  | some oh=>
   rcases List.mem_cons.mp h with rfl | h
   ·exact Nat.le_refl 5
   ·exact ih (i+1) r h
theorem oJ (w:s.Wr):(yZ s).length<=90000:=by
 have wm:=w.may
 have kl:=w.ok.kl
 have ll:=w.ok.ll
 have fl:=x9 w.ok (l:=zA s.ks) λ b hb=>mem_sortI.mp hb
 have wl:(willing s).length<=(zA s.ks).length:=List.length_filter_le _ _
 rw [zB] at fl wl
 have h4:("\n":Str).length=1:=by rw [fJ];rfl
 have h2:=StrLaws.join_length_le ("\n":Str) (Str.join " " (yk s)::(z7 s).map Row.text)
 rw [h4] at h2
 have h3:(yZ s).length<=_:=h2
 have h0:=(t5 w (yk s) (.head _)).2.2
 have wm:∀ r∈z7 s,∃ t:St,t.may r:=wm
 unfold z7 at h3 wm
 have p1:=t6 (c:=50) (l:=((zA s.ks).map (yP s)).map Row.text) λ x hx=>by
  with_reducible refine ex1 (List.mem_map.mp hx) λ r hx_=>an2 hx_ λ hr hr2_=>?_;clear hx_;subst hr2_
  obtain ⟨t,ht⟩:=wm r (List.mem_append_left _ hr)
  obtain ⟨b,-,rfl⟩:=List.mem_map.mp hr
  exact uV ht (by show 4<=5;lia)
 have p2:=t6 (c:=50) (l:=((zA s.ks).flatMap λ b=>zE b 0 (s.row b)).map Row.text) λ x hx=>by
  with_reducible refine ex1 (List.mem_map.mp hx) λ r hx_=>an2 hx_ λ hr hr2_=>?_;clear hx_;subst hr2_
  obtain ⟨t,ht⟩:=wm r (List.mem_append_right _ (List.mem_append_left _ hr))
  obtain ⟨b,-,hb⟩:=List.mem_flatMap.mp hr
  exact uV ht (t7 _ _ _ _ hb)
 have p3:=t6 (c:=50) (l:=((zA s.ls).map λ k=>Row.pair k (s.link k)).map Row.text) λ x hx=>by
  with_reducible refine ex1 (List.mem_map.mp hx) λ r hx_=>an2 hx_ λ hr hr2_=>?_;clear hx_;subst hr2_
  obtain ⟨t,ht⟩:=wm r (List.mem_append_right _ (List.mem_append_right _ (List.mem_append_left _ hr)))
  obtain ⟨b,-,rfl⟩:=List.mem_map.mp hr
  exact uV ht (by show 5<=5;lia)
 have p4:=t6 (c:=400) (l:=((willing s).map λ b=>Row.will b (s.willOf b)).map Row.text) λ x hx=>by
  with_reducible refine ex1 (List.mem_map.mp hx) λ r hx_=>an2 hx_ λ hr hr2_=>?_;clear hx_;subst hr2_
  obtain ⟨t,ht⟩:=wm r (List.mem_append_right _ (List.mem_append_right _ (List.mem_append_right _ hr)))
  exact tX ht
 simp only [List.map_cons,List.sum_cons,List.length_cons,List.map_append,List.sum_append,List.length_append] at h3
 rw [List.length_map] at p1 p2 p3 p4
 simp only [List.length_map,zB] at h3 p1 p2 p3 p4
 lia
end
theorem iB {l:List Row}:∀ {t:St} {i:Nat} {r:Row},t.mays l->t.Rok->l[i]?=some r->(t.adds (l.take i)).may r/\(t.adds (l.take i)).Rok:=by
 induction l with
 | nil=>intro t i r _ _ h;cases i<;>cases h
 | cons a l ih=>
  intro t i r m o h
  cases i with
  | zero=>cases h;exact ⟨m.1,o⟩
  | succ i=>exact ih m.2 (o.add m.1) h
theorem lN {t:St} {l:List Row} {i:Nat} {r:Row} (h:l[i]?=some r):t.adds (l.take (i+1))=(t.adds (l.take i)).add r:=by
 rw [List.take_add_one,h,wn];rfl
theorem fQ {as:List Nat} {H:AH} {rs:List Row} (h:as.map H=rs.map λ r=>some (.list (r.words.map .str))) {i a:Nat} (hi:as[i]?=some a):∃ r,rs[i]?=some r/\H a=some (.list (r.words.map .str)):=by
 have e:=congrArg (λ l=>l[i]?) h
 simp only [List.getElem?_map,hi,Option.map_some] at e
 cases z:rs[i]? with
 | none=>rw [z] at e;cases e
 | some r=>rw [z] at e;injection e with e;exact ⟨r,rfl,e⟩
noncomputable def mR (x:Str) (L c:Nat) (a3:Option AV):Loc:=[some (.str x),some (.ref L),some (.ref c),a3,.none,.none,.none,.none,.none,.none,.none,.none]
section
variable {P:Nat->Option IFn} {n:Nat} {H:AH} {s:St} {Q:AV->AH->Prop} {X:Nat->AH->Prop}
theorem fR (h102:P 102=some o4) (rp:si P) (h92:P 92=some o0) (h91:P 91=some tm) (h90:P 90=some vX) (h89:P 89=some vn) (p:yB P) (w:s.Wr)
  (q:∀ R2 H' A2 t,Stp isCh (λ z_=>.none) H R2 H'->Chest R2 H' A2 t->Same s t->t.Wr->Q (.ref A2.c) H'):CN P (n+5) 102 [.str (yZ s)] H Q X:=by
 have tl:=oJ w
 have sp:=lL w
 obtain ⟨fb,fp⟩:=xz w
 obtain ⟨ms,rd⟩:=lC w.ok w.nb w.np w.wk w.w9
 have sm:=rd.same w.ok
 have wt:=rd.wr w
 have te:=sm.text w.ok
 refine zR h102 rfl ?_
 intro C_ Q_ X_ m_
 case k50=>exact tl ..
 intro T nT
 rw [sp]
 have e1:Ext0 H _:=Ext0.set (o:=.list (((allW s).map (Str.join " ")).map .str)) nT
 have k1:(H.set T (.list (((allW s).map (Str.join " ")).map .str))) T=some (.list (((allW s).map (Str.join " ")).map .str)):=AH.set_self ..
 generalize H.set T (.list (((allW s).map (Str.join " ")).map .str))=H1 at e1 k1 |-
 case k50=>exact zC k1 ..
 refine lK (m0:=[some (.str (yZ s)),.none,.none,.none,.none,.none,.none,.none,.none,.none,.none,.none]) (H:=H1) (f:=lM) (λ H' e=>e _ _ k1) _ _ _ _ _ (.refl _) (λ z_=>rfl) (λ v hv H' Q hq=>hq) (λ v hv H' Q hq=>?_) λ H2 as e2 ha=>?_
 ·with_reducible refine ex1 (List.mem_map.mp hv) λ x hx_=>an2 hx_ λ hx hr2_=>?_;clear hx_;subst hr2_
  with_reducible refine ex1 (List.mem_map.mp hx) λ l hx_=>an2 hx_ λ hl hr2_=>?_;clear hx_;subst hr2_
  have jl:(Str.join " " l).length<=90000:=Nat.le_trans (t5 w l hl).2.2 (by decide)
  case k50=>exact jl ..
  exact hq
 have ha:=ha.trans (iA w)
 cases as with
 | nil=>cases ha
 | cons a0 as=>
 have k0:H2 a0=some (.list [.str "next",.str (num s.nb),.str (num s.np)]):=(List.cons.inj ha).1
 have ha:as.map H2=(z7 s).map λ r=>some (.list (r.words.map .str)):=(List.cons.inj ha).2.trans (by rw [List.map_map];rfl)
 have e2:=e1.trans e2
 clear e1 k1 nT
 case k50=>fail
 intro L nL
 have e3:Ext0 H2 _:=Ext0.set (o:=.list ([]++(a0::as).map .ref)) nL
 have kL:(H2.set L (.list ([]++(a0::as).map .ref))) L=some (.list (.ref a0::as.map .ref)):=AH.set_self ..
 generalize H2.set L (.list ([]++(a0::as).map .ref))=H3 at e3 kL |-
 have k0:=e3 _ _ k0
 have hr:∀ {i a},as[i]?=some a->∃ r:Row,(z7 s)[i]?=some r/\H3 a=some (.list (r.words.map .str)):=λ {i a} h=>by
  with_reducible refine ex1 (fQ ha h) λ r hx_=>an2 hx_ λ h1 h2=>?_;clear hx_
  case k74=>skip
  exact ⟨r,h1,e3 _ _ h2⟩
 have hlen:as.length=(z7 s).length:=by have:=congrArg List.length ha;rw [List.length_map,List.length_map] at this;exact this
 have e3:=e2.trans e3
 clear e2 ha
 case k50=>(first | exact kL .. | exact k0 ..)
 refine zp rp.h95 ?_
 case k50=>fail
 refine iX evs_nil ?_
 intro c dx hne hc hdx
 refine mZ (n:=n+3) p.h20 (dom0 H3) hne hc hdx λ R1 H4 A1 eA x1 g1=>⟨rfl,?_⟩
 have eg:=qr g1
 have rl:∀ {a o},H3 a=some o->R1 a=.none:=λ h=>g1.role _ (by rw [h];simp)
 have g1:=(Stp.ext (p:=isCh) (dom0 H) e3).trans g1
 have fL:Fr R1 H4 L _:=⟨eg _ _ kL,rl kL⟩
 have f0:Fr R1 H4 a0 _:=⟨eg _ _ k0,rl k0⟩
 have fr:∀ {i a},as[i]?=some a->∃ r:Row,(z7 s)[i]?=some r/\Fr R1 H4 a (.list (r.words.map .str)):=λ {i a} h=>by
  with_reducible refine ex1 (hr h) λ r hx_=>an2 hx_ λ h1 h2=>?_;clear hx_
  case k74=>skip
  exact ⟨r,h1,eg _ _ h2,rl h2⟩
 clear hr rl eg e3 hdx hc kL k0
 subst eA
 iterate 1 (case k31=>fail)
 refine iY (evs_cons (ev_idx (ev_idx (ev_var rfl) ev_ci (ix_L fL.h (by decide) rfl)) ev_ci (ix_L f0.h (by decide) rfl)) evs_nil) ?_
 refine zh (n:=n+3) rp.h93 fb ?_
 refine iZ (ev_var rfl) x1.c x1.dx (nset0 ..) ?_
 have x2:=x1.setDx s.nb 0
 have g2:Stp isCh R1 H4 R1 _:=.set (o:=.ns [(0,.int s.nb),(1,.int 0),(2,.ref A1.r),(3,.ref A1.h),(4,.ref A1.l),(5,.ref A1.w)]) g1.dom x1.Rdx (by unfold isCh;lia)
 show WSs _ _ _ (H4.set A1.dx (.ns [(0,.int s.nb),(1,.int 0),(2,.ref A1.r),(3,.ref A1.h),(4,.ref A1.l),(5,.ref A1.w)])) _ _
 generalize H4.set A1.dx (.ns [(0,.int s.nb),(1,.int 0),(2,.ref A1.r),(3,.ref A1.h),(4,.ref A1.l),(5,.ref A1.w)])=H5 at x2 g2 |-
 have fL:=fL.stp g2
 have f0:=f0.stp g2
 refine iY (evs_cons (ev_idx (ev_idx (ev_var rfl) ev_ci (ix_L fL.h (by decide) rfl)) ev_ci (ix_L f0.h (by decide) rfl)) evs_nil) ?_
 refine zh (n:=n+3) rp.h93 fp ?_
 refine iZ (ev_var rfl) x2.c x2.dx (nset1 ..) ?_
 have x3:Chest R1 _ A1 (St.bare s.nb s.np):=x2.setDx s.nb s.np
 have g3:Stp isCh R1 H5 R1 _:=.set (o:=.ns [(0,.int s.nb),(1,.int s.np),(2,.ref A1.r),(3,.ref A1.h),(4,.ref A1.l),(5,.ref A1.w)]) g2.dom x2.Rdx (by unfold isCh;lia)
 show WSs _ _ _ (H5.set A1.dx (.ns [(0,.int s.nb),(1,.int s.np),(2,.ref A1.r),(3,.ref A1.h),(4,.ref A1.l),(5,.ref A1.w)])) _ _
 have x3:Chest R1 (H5.set A1.dx (.ns [(0,.int s.nb),(1,.int s.np),(2,.ref A1.r),(3,.ref A1.h),(4,.ref A1.l),(5,.ref A1.w)])) A1 (St.bare s.nb s.np):=x3
 generalize H5.set A1.dx (.ns [(0,.int s.nb),(1,.int s.np),(2,.ref A1.r),(3,.ref A1.h),(4,.ref A1.l),(5,.ref A1.w)])=H6 at x3 g3 |-
 have fL:=fL.stp g3
 have g3:=g2.trans g3
 clear x2 x1 g2 f0
 case k50=>fail
 refine uT (M:=as.map .ref) (ev_var rfl) ev_ci ev_cn ev_cn fL.h rfl ?_
 intro S nS
 have e7:Ext0 H6 _:=Ext0.set (o:=.list (as.map .ref)) nS
 have fS:Fr R1 (H6.set S (.list (as.map .ref))) S (.list (as.map .ref)):=⟨AH.set_self ..,g3.dom.free nS⟩
 generalize H6.set S (.list (as.map .ref))=H7 at e7 fS |-
 have x7:=x3.ext e7
 have g7:Stp isCh R1 H4 R1 H7:=g3.trans (Stp.ext g3.dom e7)
 clear x3 g3 e7 nS fL
 case k50=>exact zC fS.h ..
 let I242_:Nat->Loc->AH->Prop:=(λ i m' H'=>∃ (R':RM) (A':Ad) (a3:Option AV),m'=mR (yZ s) L A'.c a3/\Chest R' H' A' ((St.bare s.nb s.np).adds ((z7 s).take i))/\Stp isCh R1 H7 R' H')
 refine zH I242_ (λ i v m' H' J0 hJ0 K0 hK0 hv hI=>?_) (λ m' H' hI=>?_) ⟨R1,A1,_,rfl,x7,.refl g7.dom⟩
 ·with_reducible refine ex3 (hI) λ R' A' a3 hx_=>an3 hx_ λ hr3_ x g=>?_;clear hx_;(try clear hI);subst hr3_
  have hv:(as.map AV.ref)[i]?=some v:=hv
  rw [List.getElem?_map] at hv
  with_reducible refine ex1 (Option.map_eq_some_iff.mp hv) λ a hx_=>an2 hx_ λ hia hr2_=>?_;clear hx_;subst hr2_
  with_reducible refine ex1 (fr hia) λ r hx_=>an2 hx_ λ h1 f=>?_;clear hx_
  obtain ⟨m1,ro⟩:=iB ms ⟨λ k hk=>(nomatch hk),Nat.le_refl 0,by show 0<=60;lia,List.nodup_nil,λ k hk=>(nomatch hk)⟩ h1
  have f:=(f.stp g7).stp g
  case k74=>skip
  refine ⟨(fS.stp g).h,_,rfl,?_⟩
  case k50=>fail
  refine oF (n:=n) rp g.dom x ro m1 f λ R2 H2 A2 eA x2 g2=>?_
  rw [<-eA]
  case k50=>fail
  case k74=>skip
  refine em3 R2 A2 _ ⟨rfl,?_,g.trans g2⟩
  rw [lN h1];exact x2
 with_reducible refine ex3 (hI) λ R' A' a3 hx_=>an3 hx_ λ hr3_ x g=>?_;clear hx_;(try clear hI);subst hr3_
 case k74=>skip
 refine ⟨(fS.stp g).h,?_⟩
 have x:Chest R' H' A' ((St.bare s.nb s.np).adds ((z7 s).take (as.map AV.ref).length)):=x
 rw [List.length_map,hlen,List.take_length] at x
 have g:=g1.trans (g7.trans g)
 clear g1 g7 fr fS
 generalize (St.bare s.nb s.np).adds (z7 s)=t at x rd sm wt te
 case k50=>fail
 refine xJ (n:=n) h92 h91 h90 h89 p x wt λ H8 e8=>?_
 rw [te]
 case k50=>fail
 refine zp rp.h95 ?_
 case k50=>fail
 case k74=>skip
 exact q R' H8 A' t (g.trans (Stp.ext g.dom e8)) (x.ext e8) sm wt
end
theorem lO (v:Slot):Flat 1 (zL v):=by
 cases v with
 | none=>exact ⟨.none,rfl,Nat.zero_le _,rfl⟩
 | some oh=>exact .tup (.cons (.int _ _) (.cons (.bool _ _) (.nil _)))
theorem lP (l:Int×Int×Int):Flat 1 (zw l):=.tup (.cons (.int _ _) (.cons (.int _ _) (.cons (.int _ _) (.nil _))))
theorem oK (d:Deed):Flat 1 d.av:=by
 cases d with
 | up=>exact .tup (.cons (.str _ _) (.nil _))
 | down o=>exact .tup (.cons (.str _ _) (.cons (.int _ _) (.nil _)))
 | hang o s h=>exact .tup (.cons (.str _ _) (.cons (.int _ _) (.cons (.int _ _) (.cons (.bool _ _) (.nil _)))))
theorem qs {α:Type} {f:α->AV} (h:∀ x,Flat 1 (f x)) (l:List α):FlatL 1 (l.map f):=.of λ v hv=>by
 with_reducible refine ex1 (List.mem_map.mp hv) λ x hx_=>an2 hx_ λ z_ hr2_=>?_;clear hx_;subst hr2_
 exact h x
section
variable {H:AH} {x y a b k:Nat} {l:List AV} {ks:List Int} {f g:Int->AV} {ep eq:Nat}
theorem FlatL.data (t:FlatL k l):∃ p,p.depth<=k+1/\PyData.eqv p p=true/\∀ a,H a=some (.list l)->data1 H (.ref a)=some p:=by
 obtain ⟨ds,t1,t2,t3⟩:=t
 case k74=>skip
 refine ⟨.list ds,Nat.succ_le_succ t2,t3,λ a ha=>?_⟩
 simp only [data1,ha,t1];rfl
theorem lQ (t:FlatL k l) (hk:k<=50) (ha:H a=some (.list l)) (hb:H b=some (.list l)):Rd0 (wCmp .ne (.ref a) (.ref b) H) H (.bool false):=by
 with_reducible refine ex1 (t.data (H:=H)) λ p hx_=>an3 hx_ λ h1 h2 h3=>?_;clear hx_
 exact cm_ne (r:=true) (h3 a ha) (h3 b hb) (Nat.le_trans (Nat.min_le_left _ _) (by lia)) h2
theorem vi (hx:H x=some (.dict (dOf ks f) ep)) (hy:H y=some (.dict (dOf ks g) eq)) (h:∀ k∈ks,∃ p,p.depth<=30/\PyData.eqv p p=true/\data1 H (f k)=some p/\data1 H (g k)=some p):ss H (.ref x) (.ref y):=by
 case k74=>skip
 refine em6 x y _ _ ep eq ⟨rfl,rfl,hx,hy,by rw [zK,zK],λ k v hk=>?_⟩
 unfold dOf at hk
 with_reducible refine ex1 (List.mem_map.mp hk) λ j hx_=>an2 hx_ λ hj e=>?_;clear hx_
 injection e with e1 e2
 subst e1 e2
 with_reducible refine ex1 (h j hj) λ p hx_=>an4 hx_ λ h1 h2 h3 h4=>?_;clear hx_
 case k74=>skip
 exact em3 (g j) p p ⟨zY hj,h3,h4,⟨h1,h1⟩,h2⟩
theorem Flat.data1 {v:AV} (t:Flat 1 v) (hv:∀ a,v≠.ref a):∃ p,p.depth<=30/\PyData.eqv p p=true/\data1 H v=some p/\data1 H v=some p:=by
 obtain ⟨p,h1,h2,h3⟩:=t
 have e:Mine.data1 H v=v.data:=by
  cases v with
  | ref a=>exact absurd rfl (hv a)
  | _=>rfl
 case k74=>skip
 exact ⟨p,by lia,h3,e.trans h1,e.trans h1⟩
end
theorem qH {H:AH} {B1 B2:Wd} {s t:St} (v1:Vw H B1 (zi s)) (v2:Vw H B2 (zi t)) (l1:H B1.wl=some (.list [.ref B1.w0,.ref B1.w1,.ref B1.w2,.ref B1.w3])) (l2:H B2.wl=some (.list [.ref B2.w0,.ref B2.w1,.ref B2.w2,.ref B2.w3])) (ne:B1.wl≠B2.wl) (a:Same s t) (ok:s.Ok):l6 H (.ref B1.wl) (.ref B2.wl):=by
 obtain ⟨e0,w0⟩:=v1.w0
 obtain ⟨e1,w1⟩:=v1.w1
 obtain ⟨e2,w2⟩:=v1.w2
 obtain ⟨e3,w3⟩:=v1.w3
 obtain ⟨f0,u0⟩:=v2.w0
 obtain ⟨f1,u1⟩:=v2.w1
 obtain ⟨f2,u2⟩:=v2.w2
 obtain ⟨f3,u3⟩:=v2.w3
 have ek:(zi t).ks=(zi s).ks:=yu a.ks ok.ku a.ku
 have eh:(zi t).hs=(zi s).hs:=yu a.hs ok.hu a.hu
 have el:(zi t).ls=(zi s).ls:=yu a.ls ok.lu a.lu
 have ew:(zi t).ws=(zi s).ws:=a.willing ok
 have r2:=v2.row
 have i2:=v2.will
 rw [ek] at u0 r2
 rw [eh] at u1
 rw [el] at u2
 rw [ew] at u3 i2
 case k74=>skip
 refine em4 _ _ _ _ ⟨rfl,rfl,ne,l1,l2,?_,?_,?_,?_,trivial⟩
 ·refine vi w0 u0 λ k hk=>?_
  with_reducible refine ex1 ((qs lO (s.row k)).data (H:=H)) λ p hx_=>an3 hx_ λ h1 h2 h3=>?_;clear hx_
  have e:H (B2.ra k)=some (.list ((s.row k).map zL)):=(r2 k hk).trans (by rw [show (zi t).row k=s.row k from a.row k (mem_sortI.mp hk)])
  case k74=>skip
  exact ⟨p,by lia,h2,h3 _ (v1.row k hk),h3 _ e⟩
 ·exact vi w1 u1 λ k hk=>(Flat.bool 1 true).data1 λ a z=>by cases z
 ·refine vi w2 u2 λ k hk=>?_
  rw [show (zi t).link k=s.link k from a.link k (mem_sortI.mp hk)]
  exact (lP _).data1 λ a z=>by cases z
 ·refine vi w3 u3 λ k hk=>?_
  with_reducible refine ex1 ((qs oK (s.willOf k)).data (H:=H)) λ p hx_=>an3 hx_ λ h1 h2 h3=>?_;clear hx_
  have e:H (B2.wa k)=some (.list ((s.willOf k).map Deed.av)):=(i2 k hk).trans (by rw [show (zi t).will k=s.willOf k from a.will k])
  case k74=>skip
  exact ⟨p,by lia,h2,h3 _ (v1.will k hk),h3 _ e⟩
theorem lR {H:AH} {a b:Nat} {l:List AV} (h:H a=some (.list (.ref b::l))):zq H (.ref a)=.none:=by
 simp only [zq,data1,h,AV.data.go,AV.data];rfl
theorem lS {s t:St} (a:Same s t) (ok:s.Ok) (okt:t.Ok) {rows:List (Int×Why)} (dr:Der t rows) (cl:Closed t (rows.map (·.1))):(rows.map (·.1)++zV t).length<=60/\zA (rows.map (·.1)++zV t)=zA s.ks:=by
 have hr:∀ b,b∈rows.map (·.1)↔Reach t b:=λ b=>⟨dr.reach b,cl.reach⟩
 have hm:∀ b,b∈rows.map (·.1)++zV t↔b∈s.ks:=λ b=>by
  rw [List.mem_append,hr,mem_lost,<-a.ks]
  constructor
  ·rintro (h | h)
   ·exact h.box okt
   ·exact h.1
  ·intro h
   by_cases z:Reach t b
   ·exact .inl z
   ·exact .inr ⟨h,z⟩
 have hu:(rows.map (·.1)++zV t).Nodup:=List.nodup_append.mpr ⟨dr.nodup,(zF okt.ku).filter _,λ x hx y hy z=>by
  subst z
  exact (mem_lost.mp hy).2 ((hr x).mp hx)⟩
 case k74=>skip
 exact ⟨Nat.le_trans (yD hu λ k hk=>(hm k).mp hk) ok.kl,yu hm ok.ku hu⟩
noncomputable def fst0:AV->AV
 | .tup (x::_)=>x
 | _=>.none
theorem lT (rows:List (Int×Why)):(rows.map zg).map fst0=(rows.map (·.1)).map .int:=by rw [List.map_map,List.map_map];rfl
structure dK (P:Nat->Option IFn):Prop where
 rp:si P
 p:yB P
 h83:P 83=some oZ
 h89:P 89=some vn
 h90:P 90=some vX
 h91:P 91=some tm
 h92:P 92=some o0
 h102:P 102=some o4
 h103:P 103=some wR
 h104:P 104=some u9
 h105:P 105=some ua
 h106:P 106=some qM
 h107:P 107=some o3
 h108:P 108=some iL
 h109:P 109=some o5
 h40:P 40=some ti
 h41:P 41=some tj
 h42:P 42=some ir_42
 h56:P 56=some oX
section
variable {P:Nat->Option IFn} {n:Nat} {R1 R2:RM} {H:AH} {A1 A2:Ad} {s t:St} {C:Nat} {Q:AV->AH->Prop} {X:Nat->AH->Prop}
theorem qt (h109:P 109=some o5) {R:RM} {c:Cmd} {v:AV} {nb np:Int} (hv:IsCmd H R c v) (hC:H C=some (.list [.int nb,.int np])) (q:∀ D H',H D=.none->H' D=some (.list [.int (nb+if sZ c then 1 else 0),.int (np+if zr c then 1 else 0)])->Ext0 H H'->Q (.ref D) H'):CN P (n+1) 109 [.ref C,v] H Q X:=by
 obtain ⟨l,rfl⟩:=hv.word
 refine zR h109 rfl ?_
 intro C_ Q_ X_ m_
 case k50=>(first | exact hC .. | exact jb c .. | exact ql c ..)
 intro D nD
 case k74=>skip
 exact q D _ nD (AH.set_self ..) (Ext0.set nD)
theorem t8 (u:dK P) (x1:Chest R1 H A1 s) (x2:Chest R2 H A2 t) (a:Same s t) (w:s.Wr) (w2:t.Wr) (hC:H C=some (.list [.int s.nb,.int s.np])) (q:∀ H',Ext0 H H'->Q (.bool true) H'):CN P (n+7) 108 [.ref A1.c,.ref A2.c,.ref C] H Q X:=by
 have kl:=w.ok.kl
 refine zR u.h108 rfl ?_
 intro C_ Q_ X_ m_
 case k50=>fail
 refine tV (n:=n+2) u.h83 u.p x1 w.ok λ H1 B1 l1 v1 e1 n1=>?_
 case k50=>fail
 refine tV (n:=n+2) u.h83 u.p (x2.ext e1) w2.ok λ H2 B2 l2 v2 e2 n2=>?_
 have l1':=l1
 have l1:=e2 _ _ l1
 have ne:B1.wl≠B2.wl:=λ z=>by rw [<-z,l1'] at n2;cases n2
 refine op_cmp (jS (qH (v1.ext e2) v2 l1 l2 ne a w.ok) (lR l1)) ?_
 have e2:=e1.trans e2
 clear l1 l1' l2 v1 v2 e1 n1 n2 ne
 case k50=>fail
 refine uM (n:=n) u.h56 u.h42 u.h41 u.h40 u.p (x1.ext e2) w.ok λ La H3 nLa ka e3=>?_
 have e3:=e2.trans e3
 case k50=>fail
 refine uM (n:=n) u.h56 u.h42 u.h41 u.h40 u.p (x2.ext e3) w2.ok λ Lb H4 nLb kb e4=>?_
 have ka:=e4 _ _ ka
 rw [a.lost w.ok] at kb
 have e4:=e3.trans e4
 refine op_cmp (lQ (xC _) (by lia) ka kb) ?_
 clear ka kb e3 nLa nLb
 case k50=>fail
 refine vE (n:=n+1) u.h42 u.h41 u.h40 u.p (x2.ext e4) w2.ok λ L H5 rows nL kL dr cl e5=>?_
 obtain ⟨al,asrt⟩:=lS a w.ok w2.ok dr cl
 case k50=>exact zC kL ..
 refine yA (m0:=[some (.ref A1.c),some (.ref A2.c),some (.ref C),.none,.none,.none,.none,.none,.none,.none,.none,.none]) (H:=H5) (p:=λ z_=>true) (f:=fst0) (λ H' e=>e _ _ kL) _ _ _ _ _ (.refl _) (λ z_=>rfl) (λ v hv H4 e Q hq=>hq _ (.refl _)) (λ v hv z_ H6 e Q hq=>?_) λ H6 e6=>?_
 ·with_reducible refine ex1 (List.mem_map.mp hv) λ r hx_=>an2 hx_ λ hr hr2_=>?_;clear hx_;subst hr2_
  case k50=>fail
  exact hq _ (.refl _)
 rw [ze,List.nil_append,lT]
 have e6:=e4.trans (e5.trans e6)
 clear e5 kL nL
 case k50=>fail
 intro D nD
 have e7:Ext0 H6 _:=Ext0.set (o:=.list ((rows.map (·.1)).map .int)) nD
 have k7:(H6.set D (.list ((rows.map (·.1)).map .int))) D=some (.list ((rows.map (·.1)).map .int)):=AH.set_self ..
 have e7:=e6.trans e7
 generalize H6.set D (.list ((rows.map (·.1)).map .int))=H7 at e7 k7 |-
 case k50=>fail
 refine uM (n:=n) u.h56 u.h42 u.h41 u.h40 u.p (x2.ext e7) w2.ok λ Lc H8 nLc kc e8=>?_
 have k7:=e8 _ _ k7
 have hz:((rows.map (·.1)).map AV.int).length+((zV t).map AV.int).length<=lid:=by
  simp only [List.length_append,List.length_map] at al |-
  unfold lid;lia
 case k50=>(first | exact k7 .. | exact kc .. | exact hz ..)
 intro D2 nD2
 have e9:Ext0 H8 _:=Ext0.set (o:=.list ((rows.map (·.1)).map .int++(zV t).map .int)) nD2
 have k9:(H8.set D2 (.list ((rows.map (·.1)).map .int++(zV t).map .int))) D2=some (.list ((rows.map (·.1)++zV t).map .int)):=by rw [AH.set_self,List.map_append]
 have e9:=(e7.trans e8).trans e9
 generalize H8.set D2 (.list ((rows.map (·.1)).map .int++(zV t).map .int))=H9 at e9 k9 |-
 clear e4 e6 e7 k7 kc e8
 have so:=wZ k9
 have sl:(rows.map (·.1)++zV t).length < 64:=by lia
 case k50=>(first | exact so .. | exact sl ..)
 intro D3 nD3
 rw [asrt]
 have e10:Ext0 H9 _:=Ext0.set (o:=.list ((zA s.ks).map .int)) nD3
 have k10:(H9.set D3 (.list ((zA s.ks).map .int))) D3=some (.list ((zA s.ks).map .int)):=AH.set_self ..
 have e10:=e9.trans e10
 generalize H9.set D3 (.list ((zA s.ks).map .int))=H10 at e10 k10 |-
 have x10:=x1.ext e10
 case k50=>(first | exact x10.c .. | exact x10.dx ..)
 refine y5 (n:=n+5) u.p.h24 x10 (by lia) λ Lb H11 nLb kb e11=>?_
 have k11:=e11 _ _ k10
 have e11:=e10.trans e11
 refine op_cmp (lQ (xC _) (by lia) k11 kb) ?_
 clear e9 k9 so e10 k10 x10 kb k11
 case k50=>fail
 refine vK (n:=n+1) u.h107 u.h106 u.h105 u.h104 u.h103 u.h92 u.h91 u.h90 u.h89 u.h83 u.p (x1.ext e11) w (e11 _ _ hC) λ H12 e12=>?_
 have e12:=e11.trans e12
 case k50=>fail
 refine vK (n:=n+1) u.h107 u.h106 u.h105 u.h104 u.h103 u.h92 u.h91 u.h90 u.h89 u.h83 u.p (x2.ext e12) w2 (by rw [a.nb,a.np];exact e12 _ _ hC) λ H13 e13=>?_
 case k50=>fail
 case k74=>skip
 exact q _ (e12.trans e13)
end
noncomputable def bdA:ISs:=match ir12_30.body with
 | .cons _ (.cons _ (.cons _ (.cons (.for _ _ b) _)))=>b
 | _=>.nil
noncomputable def bdB:ISs:=match ir12_30.body with
 | .cons _ (.cons _ (.cons _ (.cons _ (.cons _ (.cons _ (.cons _ (.cons _ (.cons (.for _ _ b) _))))))))=>b
 | _=>.nil
noncomputable def mY (ns:List Int) (c C Lc:Nat) (a4 a5 a6 a7 a8 a9:Option AV):Loc:=[some (.fro (ns.map .int)),some (.ref c),some (.ref C),some (.ref Lc),a4,a5,a6,a7,a8,a9,.none,.none,.none,.none,.none,.none,.none,.none]
structure LawT (P:Nat->Option IFn):Prop where
 u:dK P
 s:iV P
 h43:P 43=some l8
 h45:P 45=some tD
 h47:P 47=some l9
 h49:P 49=some oV
 h50:P 50=some oW
 h51:P 51=some lc
 h52:P 52=some hZ
theorem lU (s:St) (c:Cmd):(s.app c).nb<=s.nb+1:=by rw [mx];split<;>lia
theorem lV (s:St) (c:Cmd):(s.app c).np<=s.np+1:=by rw [mw];split<;>lia
section
variable {P:Nat->Option IFn} {n:Nat} {R:RM} {H:AH} {A:Ad} {s:St} {C Lc:Nat} {cs:List Cmd} {vs:List AV} {is:List Int} {i:Nat} {ns:List Int} {a5:Option AV}
theorem qu {Y:Nat->AH->Prop} {K:AV->AH->Prop} {m:Loc} {j k:Nat} (h83:P 83=some oZ) (p:yB P) (hj:m[j]?=some (some (.ref A.c))) (hk:m[k]?=some (some (.ref C))) (x:Chest R H A s) (ok:s.Ok) (hC:H C=some (.list [.int s.nb,.int s.np]))
  (q:∀ (B:Wd) (H':AH),Ext0 H H'->Seen H' B (zi s)->K (.ref B.wl) H'):WE (CN P (n+4)) Y (.bin .add (.call 83 (.cons (.var j) .nil)) (.list (.cons (.var k) .nil))) m H K:=by
 refine we_bin (we_call (evs_cons (ev_var hj) evs_nil) ?_)
 refine tV (n:=n) h83 p x ok λ H1 B kV v e1 z_=>?_
 refine we_list (evs_cons (ev_var hk) evs_nil) λ L nL=>?_
 have e2:Ext0 H1 _:=Ext0.set (o:=.list [.ref C]) nL
 have k2:(H1.set L (.list [.ref C])) L=some (.list [.ref C]):=AH.set_self ..
 generalize H1.set L (.list [.ref C])=H2 at e2 k2 |-
 refine op_addF (e2 _ _ kV) k2 (by show 4+1<=lid;unfold lid;lia) λ V nV=>?_
 have e3:Ext0 H2 (H2.set V (.list [.ref B.w0,.ref B.w1,.ref B.w2,.ref B.w3,.ref C])):=Ext0.set nV
 have k3:(H2.set V (.list [.ref B.w0,.ref B.w1,.ref B.w2,.ref B.w3,.ref C])) V=some (.list [.ref B.w0,.ref B.w1,.ref B.w2,.ref B.w3,.ref C]):=AH.set_self ..
 have v:=v.ext (e2.trans e3)
 case k74=>skip
 exact q ⟨V,B.w0,B.w1,B.w2,B.w3,C,B.ra,B.wa⟩ _ (e1.trans (e2.trans e3)) ⟨k3,v.w0,v.w1,v.w2,⟨[.int s.np],(e2.trans e3) _ _ (e1 _ _ hC)⟩,v.row⟩
theorem stepA (u:LawT P) (Z:Dr R H A s C Lc cs vs is i) (w9:s.W9) (npl:s.np<=i) (hi:i < (vs++is.map AV.int).length) {J:Loc->AH->Prop} {K:AV->Loc->AH->Prop} {X:Nat->Loc->AH->Prop}
  (q:∀ R' H' A' s' C' a5,A'.c=A.c->Dr R' H' A' s' C' Lc cs vs is (i+1)->s'.W9->s'.np<=(i+1:Nat)->J (mY ns A.c C' Lc (some (.int (0+(i:Int)))) a5 .none .none .none .none) H') :
  WSs (CN P (n+9)) bdA (mY ns A.c C Lc (some (.int (0+(i:Int)))) a5 .none .none .none .none) H (lq J K) X:=by
 have ei:(0+(i:Int)).toNat=i:=by lia
 have hcv:(vs++is.map AV.int)[i]?=some (vs++is.map AV.int)[i]:=List.getElem?_eq_getElem hi
 generalize (vs++is.map AV.int)[i]=cv at hcv
 have hcv':(vs++is.map AV.int)[(0+(i:Int)).toNat]?=some cv:=by rw [ei];exact hcv
 show WSs _ (.cons _ (.cons _ (.cons _ (.cons _ .nil)))) _ _ _ _
 iterate 1 (case k31=>fail)
 refine we_callS (wes_cons (we_ev (ev_idx (ev_var rfl) (ev_var rfl) (ix_L Z.cells.h (by lia) hcv')) (wes_cons ?_)))
 refine qu (n:=n+5) (m:=mY ns A.c C Lc (some (.int (0+(i:Int)))) a5 .none .none .none .none) (j:=1) (k:=2) u.u.h83 u.u.p rfl rfl Z.ch Z.ok Z.com.h λ B H3 e3 sn=>?_
 have Z:=Z.ext e3
 case k50=>fail
 refine fH (n:=n+6) u.h50 u.h49 u.h45 Z hcv sn λ c dv H4 e4 ic hc hr=>?_
 have Z:=Z.ext e4
 clear e3 e4 sn hcv hcv'
 case k50=>fail
 refine rV (n:=n+5) u.h47 u.u.p Z.dom Z.ch Z.ok hc ic λ r R2 H5 A2 eA x5 g5=>?_
 have com:=Z.com.stp g5
 have ok:=Z.ok.app hc
 have wok:=Wok.app Z.wok hc
 have w9:=W9.app w9 hc
 have ic:=ic.stp g5
 have nbl:=Z.nbl
 have b1:(s.app c).nb<=((i+1:Nat):Int):=Int.le_trans (lU s c) (Int.add_le_add_right nbl 1)
 have b2:(s.app c).np<=((i+1:Nat):Int):=Int.le_trans (lV s c) (Int.add_le_add_right npl 1)
 case k50=>fail
 refine qt (n:=n+8) u.u.h109 ic com.h λ C' H6 nC' k6 e6=>?_
 rw [<-mx,<-mw] at k6
 have com:Fr R2 H6 C' _:=⟨k6,g5.dom.free nC'⟩
 have cells:=(Z.cells.stp g5).ext e6
 have cm:=(Z.cm.stp g5).ext0 e6
 have x6:=x5.ext e6
 have d6:=g5.dom.ext e6
 by_cases h8:i % 8=7
 ·have hd:decide ((0+(i:Int)).fmod 8=7)=true:=decide_eq_true (by rw [Int.fmod_eq_emod_of_nonneg _ (by decide)];lia)
  have eh:yj i (s.app c)=zQ (s.app c):=if_pos h8
  rw [eh] at hr
  case k50=>exact hd ..
  rw [<-eA]
  refine tS (n:=n+1) u.s d6 x6 ok wok λ Lo Lg Lk R' H7 A' eA' x' g' z_ z_ z_ z_ z_ z_ z_ z_ z_=>?_
  obtain ⟨o',w'⟩:=yR ok wok
  have en:(zQ (s.app c)).nb=(s.app c).nb:=ve ok wok
  have ep:(zQ (s.app c)).np=(s.app c).np:=(zt ok wok).2.2.1.np
  case k50=>fail
  case k74=>skip
  exact q R' H7 A' (zQ (s.app c)) C' _ (eA'.trans eA) ⟨x',o',w',g'.dom,by have:=com.stp g';rw [<-en,<-ep] at this;exact this,cells.stp g',cm.stp g',Z.len,hr,Int.le_trans (Int.le_of_eq en) b1⟩ (W9.sweep w9) (Int.le_trans (Int.le_of_eq ep) b2)
 ·have hd:decide ((0+(i:Int)).fmod 8=7)=false:=decide_eq_false (by rw [Int.fmod_eq_emod_of_nonneg _ (by decide)];lia)
  have eh:yj i (s.app c)=s.app c:=if_neg h8
  rw [eh] at hr
  case k50=>exact hd ..
  case k74=>skip
  exact q R2 H6 A2 (s.app c) C' _ eA ⟨x6,ok,wok,d6,com,cells,cm,Z.len,hr,b1⟩ w9 b2
end
noncomputable def Jn (R R2:RM):RM:=λ a=>match R a with
 | some y=>some y
 | .none=>R2 a
theorem Jn_none {R R2:RM} {a:Nat}:Jn R R2 a=.none↔R a=.none/\R2 a=.none:=by
 unfold Jn
 cases R a with
 | none=>exact ⟨λ h=>⟨rfl,h⟩,λ h=>h.2⟩
 | some y=>exact ⟨λ h=>(nomatch h),λ h=>(nomatch h.1)⟩
theorem Dom.jn {R R2:RM} {H:AH} (d:Dom R H) (d2:Dom R2 H):Dom (Jn R R2) H:=λ a h z=>by
 refine h (Jn_none.mpr ⟨?_,?_⟩)
 ·cases q:R a with
  | none=>rfl
  | some y=>exact absurd z (d a (by rw [q];simp))
 ·cases q:R2 a with
  | none=>rfl
  | some y=>exact absurd z (d2 a (by rw [q];simp))
theorem Chest.apart {R R2 R2':RM} {H H':AH} {A:Ad} {s:St} (x:Chest R H A s) (g:Stp isCh R2 H R2' H') (ap:∀ a,R a≠.none->R2 a=.none):Chest R H' A s:=
 x.keep (λ a o h ⟨t,k,hr,_⟩=>g.keep a o h λ t' k' hr'=>by rw [ap a (by rw [hr];simp)] at hr';cases hr') λ z_ z_=>rfl
theorem Stp.apart {R R2 R2':RM} {H H':AH} (g:Stp isCh R2 H R2' H') (d:Dom R H) (ap:∀ a,R a≠.none->R2 a=.none):Dom R H'/\∀ a,R a≠.none->R2' a=.none:=
 ⟨λ a h=>g.alive a (d a h),λ a h=>(g.role a (d a h)).trans (ap a h)⟩
theorem t9 {R R2:RM} (ap:∀ a,R a≠.none->R2 a=.none):∀ a,R2 a≠.none->R a=.none:=λ a h=>by
 cases q:R a with
 | none=>rfl
 | some y=>exact absurd (ap a (by rw [q];simp)) h
structure Tw (R1 R2:RM) (H:AH) (A1 A2:Ad) (s t:St) (C j:Nat):Prop where
 x1:Chest R1 H A1 s
 x2:Chest R2 H A2 t
 d1:Dom R1 H
 d2:Dom R2 H
 ap:∀ a,R1 a≠.none->R2 a=.none
 sm:Same s t
 ok1:s.Ok
 ok2:t.Ok
 wk1:s.Wok
 wk2:t.Wok
 w9:s.W9
 nb:s.nb<=(1000+j:Nat)
 np:s.np<=(1000+j:Nat)
 hC:H C=some (.list [.int s.nb,.int s.np])
 rC:Jn R1 R2 C=.none
section
variable {R1 R2:RM} {H:AH} {A1 A2:Ad} {s t:St} {C j:Nat}
theorem Tw.ext (z:Tw R1 R2 H A1 A2 s t C j) {H':AH} (e:Ext0 H H'):Tw R1 R2 H' A1 A2 s t C j:=
 ⟨z.x1.ext e,z.x2.ext e,z.d1.ext e,z.d2.ext e,z.ap,z.sm,z.ok1,z.ok2,z.wk1,z.wk2,z.w9,z.nb,z.np,e _ _ z.hC,z.rC⟩
theorem Tw.wr1 (z:Tw R1 R2 H A1 A2 s t C j) (hj:j<=1000):s.Wr:=⟨z.ok1,by have:=z.nb;lia,by have:=z.np;lia,z.wk1,z.w9⟩
theorem Tw.wr2 (z:Tw R1 R2 H A1 A2 s t C j) (hj:j<=1000):t.Wr:=⟨z.ok2,by have:=z.nb;rw [z.sm.nb];lia,by have:=z.np;rw [z.sm.np];lia,z.wk2,λ b=>by rw [z.sm.will];exact z.w9 b⟩
end
theorem i7 (c:Cmd) (s:St) (H:AH):Rd0 (wCmp .ne (c.ans s) (c.ans s) H) H (.bool false):=by
 have hi:∀ x:Int,Rd0 (wCmp .ne (.int x) (.int x) H) H (.bool false):=λ x=>cm_neI (r:=true) (decide_eq_true rfl)
 have hn:Rd0 (wCmp .ne .none .none H) H (.bool false):=cm_ne (r:=true) rfl rfl (Nat.le_of_ble_eq_true rfl) rfl
 cases c with
 | make z=>exact hi _
 | pair a b d=>exact hi _
 | _=>exact hn
theorem lW {c:Cmd} {s:St} {H:AH} {C:Nat} (h:(sZ c||zr c)=true) (hC:H C=some (.list [.int s.nb,.int s.np])):Rd0 (wIdx (.ref C) (.int (if zr c then 1 else 0)) H) H (c.ans s):=by
 cases c with
 | make z=>exact ix_L (x:=0) hC (by decide) rfl
 | pair a b d=>exact ix_L (x:=1) hC (by decide) rfl
 | _=>cases h
theorem dL {Cl:Calls} {Y:Nat->AH->Prop} {e:IE} {m:Loc} {H:AH} {K:Bool->AH->Prop} {b:Bool} (p:b=true->Ev e m H (.bool false)) (q:K false H):taK Cl Y (.cons (.val e) .nil) m K b H:=by
 cases b with
 | false=>exact q
 | true=>exact wta_cons (wt_val ((p rfl).run _ _ _ q))
theorem lX {c:Cmd} {H:AH} {a:Nat} (h:H a=some (.list [.str "make",.str "pair"])):wIn (.str c.word) (.ref a) H=some (sZ c||zr c):=by
 have e:wIn (.str c.word) (.ref a) H=some (("make" == c.word)||(("pair" == c.word)||false)):=by simp only [wIn,h];rfl
 rw [e]
 cases c<;>rfl
theorem iC {s t:St} (a:Same s t) (c:Cmd):c.ans t=c.ans s:=by
 cases c with
 | make z=>show AV.int t.nb=.int s.nb;rw [a.nb]
 | pair b k o=>show AV.int t.np=.int s.np;rw [a.np]
 | _=>rfl
section
variable {P:Nat->Option IFn} {n:Nat} {R1 R2:RM} {H:AH} {A1 A2:Ad} {s t:St} {C Lc j:Nat} {ns:List Int} {far:Int} {a5 a8 a9:Option AV}
theorem stepB (u:LawT P) (z:Tw R1 R2 H A1 A2 s t C j) (hj:j<=20) {J:Loc->AH->Prop} {K:AV->Loc->AH->Prop} {X:Nat->Loc->AH->Prop}
  (q:∀ R1' R2' H' A1' A2' s' t' C' a5 a8 a9,A1'.c=A1.c->A2'.c=A2.c->Tw R1' R2' H' A1' A2' s' t' C' (j+1)->J (mY ns A1.c C' Lc (some (.int (0+(j:Int)))) a5 (some (.int far)) (some (.ref A2.c)) a8 a9) H') :
  WSs (CN P (n+9)) bdB (mY ns A1.c C Lc (some (.int (0+(j:Int)))) a5 (some (.int far)) (some (.ref A2.c)) a8 a9) H (lq J K) X:=by
 have w1:=z.wr1 (by lia)
 show WSs _ (.cons _ (.cons _ (.cons _ (.cons _ (.cons _ (.cons _ (.cons _ .nil))))))) _ _ _ _
 case k50=>fail
 refine xJ (n:=n+5) u.u.h92 u.u.h91 u.u.h90 u.u.h89 u.u.p z.x1 w1 λ H1 e1=>?_
 have z:=z.ext e1
 case k50=>fail
 refine qu (n:=n+5) (m:=mY ns A1.c C Lc (some (.int (0+(j:Int)))) a5 (some (.int far)) (some (.ref A2.c)) (some (.str (yZ s))) a9) (j:=1) (k:=2) u.u.h83 u.u.p rfl rfl z.x1 z.ok1 z.hC λ B H2 e2 sn=>?_
 have z:=z.ext e2
 case k50=>fail
 refine vP (n:=n+6) u.h50 u.h49 u.h45 (z.d1.jn z.d2) sn (.view z.ok1 w1.nb) λ c dv H3 hc ic e3=>?_
 have z:=z.ext e3
 have hc:=qk hc
 have hc2:=z.sm.can z.ok1 hc
 obtain ⟨l,ev⟩:=ic.word
 subst ev
 clear e1 e2 e3 sn
 have i2:IsCmd H3 R2 c (.tup (.str c.word::l)):=ic.keep λ D o h r=>⟨h,(Jn_none.mp r).2⟩
 case k50=>fail
 refine wM (n:=n+5) u.h47 u.u.p z.d2 z.x2 z.ok2 hc2 i2 λ R2' H4 A2' eA2 x2 g2=>?_
 rw [iC z.sm]
 have x1:=z.x1.apart g2 z.ap
 obtain ⟨d1,ap⟩:=g2.apart z.d1 z.ap
 have hC:=g2.keep C _ z.hC λ t k hr=>by rw [(Jn_none.mp z.rC).2] at hr;cases hr
 have rC:R2' C=.none:=(g2.role C (by rw [z.hC];simp)).trans (Jn_none.mp z.rC).2
 have i1:IsCmd H4 R1 c (.tup (.str c.word::l)):=ic.keep λ D o h r=>⟨g2.keep D o h λ t k hr=>(by rw [(Jn_none.mp r).2] at hr;cases hr),(Jn_none.mp r).1⟩
 clear ic i2
 have es:PyData.eqv (.str (yZ s)) (.str (yZ s))=true:=beq_self_eq_true (yZ s)
 case k50=>fail
 refine xJ (n:=n+5) u.u.h92 u.u.h91 u.u.h90 u.u.h89 u.u.p x1 w1 λ H5 e5=>?_
 have i1:=i1.ext e5
 have d2:=g2.dom.ext e5
 have x2:=x2.ext e5
 case k50=>exact es ..
 refine wM (n:=n+5) u.h47 u.u.p (d1.ext e5) (x1.ext e5) z.ok1 hc i1 λ R1' H6 A1' eA1 x1' g1=>?_
 have ap':=t9 ap
 have x2:=x2.apart g1 ap'
 obtain ⟨d2,ap'⟩:=g1.apart d2 ap'
 have rC1:R1' C=.none:=(g1.role C (by rw [e5 _ _ hC];simp)).trans (Jn_none.mp z.rC).1
 have hC:=g1.keep C _ (e5 _ _ hC) λ t k hr=>by rw [(Jn_none.mp z.rC).1] at hr;cases hr
 have i1:=i1.stp g1
 have d1:=g1.dom
 refine op_cmp (i7 c s H6) ?_
 clear g1 g2 e5 ap x1
 case k50=>fail
 intro L nL
 have e7:Ext0 H6 _:=Ext0.set (o:=.list [.str "make",.str "pair"]) nL
 have k7:(H6.set L (.list [.str "make",.str "pair"])) L=some (.list [.str "make",.str "pair"]):=AH.set_self ..
 generalize H6.set L (.list [.str "make",.str "pair"])=H7 at e7 k7 |-
 have hC:=e7 _ _ hC
 have hw:=lX (c:=c) k7
 have i1:=i1.ext e7
 case k50=>exact hw ..
 refine dL (λ h=>ev_cmp (ev_var rfl) (ev_idx (ev_var rfl) (ev_bi1 (ev_cmp (ev_idx (ev_var rfl) ev_ci (ix_T (by decide) rfl)) ev_cs (cm_eq rfl rfl (Nat.le_of_ble_eq_true rfl) (ql c))) bi_int) (lW h hC)) (i7 c s H7)) ?_
 case k50=>fail
 refine qt (n:=n+8) u.u.h109 i1 hC λ C' H8 nC' k8 e8=>?_
 rw [<-mx,<-mw] at k8
 have e8':=e7.trans e8
 have b1:(s.app c).nb<=((1000+(j+1):Nat):Int):=Int.le_trans (lU s c) (Int.add_le_add_right z.nb 1)
 have b2:(s.app c).np<=((1000+(j+1):Nat):Int):=Int.le_trans (lV s c) (Int.add_le_add_right z.np 1)
 have rC':Jn R1' R2' C'=.none:=Jn_none.mpr ⟨(d1.ext e7).free nC',(d2.ext e7).free nC'⟩
 have z:Tw R1' R2' H8 A1' A2' (s.app c) (t.app c) C' (j+1):=⟨x1'.ext e8',x2.ext e8',d1.ext e8',d2.ext e8',t9 ap',z.sm.app z.ok1 hc,z.ok1.app hc,z.ok2.app hc2,Wok.app z.wk1 hc,Wok.app z.wk2 hc2,W9.app z.w9 hc,b1,b2,k8,rC'⟩
 clear e7 k7 hw i1 e8 nC' x1' x2 d1 d2 ap' k8 e8' rC' hC rC rC1
 case k50=>fail
 rw [<-eA1,<-eA2]
 refine t8 (n:=n+2) u.u z.x1 z.x2 z.sm (z.wr1 (by lia)) (z.wr2 (by lia)) z.hC λ H9 e9=>?_
 case k50=>fail
 case k74=>skip
 exact q R1' R2' H9 A1' A2' _ _ C' _ _ _ eA1 eA2 (z.ext e9)
end
theorem oL {H:AH} {a b c:Nat} {l m k:List Int} (ha:H a=some (.list (l.map .int))) (hb:H b=some (.list (m.map .int))) (hc:H c=some (.list (k.map .int))) {a' b' c':Nat} (ha':H a'=some (.list (l.map .int))) (hb':H b'=some (.list (m.map .int))) (hc':H c'=some (.list (k.map .int))) :
  Rd0 (wCmp .eq (.tup [.ref a,.ref b,.ref c]) (.tup [.ref a',.ref b',.ref c']) H) H (.bool true):=by
 with_reducible refine ex1 ((xC l).data (H:=H)) λ d1 hx_=>an3 hx_ λ h1 h2 h3=>?_;clear hx_
 with_reducible refine ex1 ((xC m).data (H:=H)) λ d2 hx_=>an3 hx_ λ i1 i2 i3=>?_;clear hx_
 with_reducible refine ex1 ((xC k).data (H:=H)) λ d3 hx_=>an3 hx_ λ j1 j2 j3=>?_;clear hx_
 have e:∀ {a b c:Nat},H a=some (.list (l.map .int))->H b=some (.list (m.map .int))->H c=some (.list (k.map .int))->zq H (.tup [.ref a,.ref b,.ref c])=some (.tuple [d1,d2,d3]):=λ ha hb hc=>by
  simp only [zq,qz,h3 _ ha,i3 _ hb,j3 _ hc,Option.map_some]
 refine cm_eq (e ha hb hc) (e ha' hb' hc') (Nat.le_trans (Nat.min_le_left _ _) ?_) ?_
 ·exact (Nat.succ_le_succ (Nat.max_le.mpr ⟨Nat.le_trans h1 (by decide),Nat.max_le.mpr ⟨Nat.le_trans i1 (by decide),Nat.max_le.mpr ⟨Nat.le_trans j1 (by decide),Nat.zero_le _⟩⟩⟩):_<=59+1)
 ·show (PyData.eqv d1 d1&&(PyData.eqv d2 d2&&(PyData.eqv d3 d3&&true)))=true
  rw [h2,i2,j2];rfl
noncomputable def bdC:ISs:=match ir12_30.body with
 | .cons _ (.cons _ (.cons _ (.cons _ r)))=>r
 | _=>.nil
noncomputable def bdD:ISs:=match bdC with
 | .cons _ (.cons _ (.cons _ (.cons _ (.cons _ r))))=>r
 | _=>.nil
section
variable {P:Nat->Option IFn} {n:Nat} {R1 R2:RM} {H:AH} {A1 A2:Ad} {s t:St} {C Lc j:Nat} {ns:List Int} {a4 a5 a6 a8 a9:Option AV} {Q:Fl->Loc->AH->Prop} {X:Nat->Loc->AH->Prop}
theorem end12 (u:LawT P) (z:Tw R1 R2 H A1 A2 s t C j) (hj:j<=20) (q:∀ m H',Q (.ret (.bool true)) m H'):WSs (CN P (n+9)) bdD (mY ns A1.c C Lc a4 a5 a6 (some (.ref A2.c)) a8 a9) H Q X:=by
 show WSs _ (.cons _ .nil) _ _ _ _
 case k50=>fail
 refine tS (n:=n+1) u.s z.d1 z.x1 z.ok1 z.wk1 λ Lo Lg Lk R1' H2 A1' eA1 x1 g1 no ng nk z_ z_ z_ fo fg fk=>?_
 have ap':=t9 z.ap
 have x2:=z.x2.apart g1 ap'
 obtain ⟨d2,ap'⟩:=g1.apart z.d2 ap'
 have fC:=Fr.stp ⟨z.hC,(Jn_none.mp z.rC).1⟩ g1
 have rC2:=(Jn_none.mp z.rC).2
 have ro:=z.d2.free no
 have rg:=z.d2.free ng
 have rk:=z.d2.free nk
 case k50=>fail
 refine tS (n:=n+1) u.s d2 x2 z.ok2 z.wk2 λ Mo Mg Mk R2' H3 A2' eA2 x2' g2 z_ z_ z_ z_ z_ z_ po pg pk=>?_
 have x1:=x1.apart g2 (t9 ap')
 have fo:=Fr.stp ⟨fo.h,ro⟩ g2
 have fg:=Fr.stp ⟨fg.h,rg⟩ g2
 have fk:=Fr.stp ⟨fk.h,rk⟩ g2
 have fC:=Fr.stp ⟨fC.h,rC2⟩ g2
 rw [z.sm.orderOf z.ok1] at po
 rw [z.sm.goneOf z.ok1 z.wk1] at pg
 rw [z.sm.keptOf z.ok1 z.wk1] at pk
 refine op_cmp (oL fo.h fg.h fk.h po.h pg.h pk.h) ?_
 clear po pg pk fo fg fk ro rg rk g1 g2 d2 ap' rC2 x2 no ng nk
 obtain ⟨o1,w1⟩:=yR z.ok1 z.wk1
 obtain ⟨o2,w2⟩:=yR z.ok2 z.wk2
 have en1:(zQ s).nb=s.nb:=ve z.ok1 z.wk1
 have ep1:(zQ s).np=s.np:=(zt z.ok1 z.wk1).2.2.1.np
 have sm:=z.sm.sweep z.ok1 z.wk1
 have nb:=z.nb
 have np:=z.np
 have wr:(zQ s).Wr:=⟨o1,by lia,by lia,w1,W9.sweep z.w9⟩
 have wr2:(zQ t).Wr:=⟨o2,by rw [sm.nb];lia,by rw [sm.np];lia,w2,λ b=>by rw [sm.will];exact wr.w9 b⟩
 have hC:=fC.h
 rw [<-en1,<-ep1] at hC
 case k50=>fail
 rw [<-eA1,<-eA2]
 refine t8 (n:=n+2) u.u x1 x2' sm wr wr2 hC λ H9 e9=>?_
 case k50=>fail
 case k74=>skip
 exact q _ _
theorem mid12 (u:LawT P) (x:Chest R1 H A1 s) (d:Dom R1 H) (w:s.Wr) (nbl:s.nb<=400) (npl:s.np<=400) (hC:Fr R1 H C (.list [.int s.nb,.int s.np])) (q:∀ m H',Q (.ret (.bool true)) m H'):WSs (CN P (n+9)) bdC (mY ns A1.c C Lc a4 a5 .none .none .none .none) H Q X:=by
 show WSs _ (.cons _ (.cons _ (.cons _ (.cons _ (.cons (.for _ _ bdB) bdD))))) _ _ _ _
 case k50=>fail
 refine uk (n:=n+8) u.h43 (by decide) ?_
 generalize ns.getD (0:Int).toNat 0=far
 case k50=>fail
 refine vK (n:=n+4) u.u.h107 u.u.h106 u.u.h105 u.u.h104 u.u.h103 u.u.h92 u.u.h91 u.u.h90 u.u.h89 u.u.h83 u.u.p x w hC.h λ H5 e5=>?_
 case k50=>fail
 refine xJ (n:=n+5) u.u.h92 u.u.h91 u.u.h90 u.u.h89 u.u.p (x.ext e5) w λ H6 e6=>?_
 have e6:=e5.trans e6
 case k50=>fail
 refine fR (n:=n+4) u.u.h102 u.u.rp u.u.h92 u.u.h91 u.u.h90 u.u.h89 u.u.p w λ R2 H7 A2 t g x2 sm w2=>?_
 have e7:=e6.trans (qr g)
 have z:Tw R1 R2 H7 A1 A2 s t C 0:=⟨x.ext e7,x2,d.ext e7,g.dom,λ a h=>g.role a λ y=>d a h (e6.back y),sm,w.ok,w2.ok,w.wk,w2.wk,w.w9,Int.le_trans nbl (by decide),Int.le_trans npl (by decide),e7 _ _ hC.h,Jn_none.mpr ⟨hC.r,g.role C (by rw [e6 _ _ hC.h];simp)⟩⟩
 clear x d hC e5 e6 e7 g x2 sm w2 npl nbl
 case k50=>fail
 refine t8 (n:=n+2) u.u z.x1 z.x2 z.sm (z.wr1 (Nat.zero_le _)) (z.wr2 (Nat.zero_le _)) z.hC λ H8 e8=>?_
 have z:=z.ext e8
 clear e8 w
 have f8:=zm (x:=far.fdiv 3) (m:=8) (by decide)
 case k50=>fail
 let I85_:Nat->Loc->AH->Prop:=(λ j m' H'=>∃ (R1 R2:RM) (B1 B2:Ad) (s t:St) (C:Nat) (a4 a5 a8 a9:Option AV),m'=mY ns A1.c C Lc a4 a5 (some (.int far)) (some (.ref A2.c)) a8 a9/\B1.c=A1.c/\B2.c=A2.c/\Tw R1 R2 H' B1 B2 s t C j)
 refine zH I85_ (λ j v m' H' J0 hJ0 K0 hK0 hv hI=>?_) (λ m' H' hI=>?_) ⟨R1,R2,A1,A2,s,t,C,_,_,_,_,rfl,rfl,rfl,z⟩
 ·clear z
  obtain ⟨R1,R2,B1,B2,s,t,C,a4,a5,a8,a9,rfl,ec1,ec2,z⟩:=hI
  obtain ⟨hj,rfl⟩:=xb hv
  case k74=>skip
  refine ⟨trivial,_,rfl,?_⟩
  rw [<-ec1,<-ec2]
  exact stepB (n:=n) u z (by lia) λ R1' R2' H' A1' A2' s' t' C' a5 a8 a9 e1 e2 z'=>hJ0 _ _ ⟨R1',R2',A1',A2',s',t',C',_,a5,a8,a9,by rw [ec1,ec2],e1.trans ec1,e2.trans ec2,z'⟩
 clear z
 obtain ⟨R1,R2,B1,B2,s,t,C,a4,a5,a8,a9,rfl,ec1,ec2,z⟩:=hI
 have z:Tw R1 R2 H' B1 B2 s t C (zJ 0 ((far.fdiv 3).fmod 8)).length:=z
 case k74=>skip
 refine ⟨trivial,?_⟩
 rw [<-ec1,<-ec2]
 exact end12 (n:=n) u z (by unfold zJ;rw [List.length_map,List.length_range];lia) q
end
section
variable {P:Nat->Option IFn} {n:Nat}
theorem iD (h30:P 30=some ir12_30) (u:LawT P) {ns:List Int} (hn:ns.length<=63) {X:Nat->AH->Prop} :
  CN P (n+10) 30 [.fro (ns.map .int)] (λ z_=>.none) (λ v z_=>v=.bool true) X:=by
 refine zR h30 rfl ?_
 intro C_ Q_ X_ m_
 show WSs _ (.cons _ (.cons _ (.cons _ (.cons (.for _ _ bdA) bdC)))) _ _ _ _
 refine gg λ K0_ k0_=>iX evs_nil ?_
 intro c dx hne hc hdx
 refine mZ (n:=n+8) u.u.p.h20 (dom0 _) hne hc hdx λ R1 H1 A1 eA x1 g1=>?_
 subst eA
 case k74=>skip
 refine ⟨rfl,?_⟩
 case k50=>fail
 intro C0 nC
 have e2:Ext0 H1 _:=Ext0.set (o:=.list [.int 0,.int 0]) nC
 have k2:(H1.set C0 (.list [.int 0,.int 0])) C0=some (.list [.int 0,.int 0]):=AH.set_self ..
 have rC:=g1.dom.free nC
 have x2:=x1.ext e2
 have d2:=g1.dom.ext e2
 generalize H1.set C0 (.list [.int 0,.int 0])=H2 at e2 k2 x2 d2 |-
 clear e2 x1 g1 nC
 case k50=>fail
 refine jT (n:=n+6) u.h52 u.h51 u.h45 u.h43 d2 hn λ Lc H4 cs vs is nL kL ac rn hlen e4=>?_
 have Z4:Dr R1 H4 A1 St.new C0 Lc cs vs is 0:=⟨x2.ext e4,.new,(by intro b hb;cases hb),d2.ext e4,⟨e4 _ _ k2,rC⟩,⟨kL,d2.free nL⟩,ac,hlen,mv rn,Int.le_refl _⟩
 have hlv:(vs++is.map AV.int).length<=400:=by simp;exact hlen
 clear x2 d2 e4 k2
 case k50=>exact kL ..
 let I125_:Nat->Loc->AH->Prop:=(λ i m' H'=>∃ (R:RM) (A:Ad) (s:St) (C:Nat) (a4 a5:Option AV),m'=mY ns A1.c C Lc a4 a5 .none .none .none .none/\A.c=A1.c/\Dr R H' A s C Lc cs vs is i/\s.W9/\s.np<=i)
 refine zH I125_ (λ i v m' H' J0 hJ0 K0 hK0 hv hI=>?_) (λ m' H' hI=>?_) ⟨R1,A1,_,C0,_,_,rfl,rfl,Z4,λ b=>Nat.zero_le _,Int.le_refl _⟩
 ·clear Z4 kL
  with_reducible refine ex6 (hI) λ R A s C a4 a5 hx_=>an5 hx_ λ hr6_ ec Z w9 npl=>?_;clear hx_;(try clear hI);subst hr6_
  obtain ⟨hi,rfl⟩:=xb hv
  have hi:i < (vs++is.map AV.int).length:=by lia
  case k74=>skip
  refine ⟨trivial,_,rfl,?_⟩
  rw [<-ec]
  exact stepA (n:=n) u Z w9 npl hi λ R' H' A' s' C' a5 eA' Z' w' n'=>hJ0 _ _ ⟨R',A',s',C',_,a5,by rw [ec],eA'.trans ec,Z',w',n'⟩
 with_reducible refine ex6 (hI) λ R A s C a4 a5 hx_=>an5 hx_ λ hr6_ ec Z w9 npl=>?_;clear hx_;(try clear hI);subst hr6_
 have npl:s.np<=((zJ 0 ((vs++is.map AV.int).length:Int)).length:Nat):=npl
 have nbl:s.nb<=((zJ 0 ((vs++is.map AV.int).length:Int)).length:Nat):=Z.nbl
 rw [yw] at npl nbl
 case k74=>skip
 refine ⟨trivial,?_⟩
 rw [<-ec]
 exact mid12 (n:=n) u Z.ch Z.dom ⟨Z.ok,by lia,by lia,Z.wok,w9⟩ (by lia) (by lia) Z.com λ z_ z_=>rfl
end
end Mine

namespace Mine
open PySem PySem.W PyProof.Rows
theorem dM:LawT (λ k=>tbl12.lookup k):=by repeat' (first | rfl | constructor)
theorem qv {ns:List Int} (hn:ns.length<=63):CN (λ k=>tbl12.lookup k) 19 30 [.fro (ns.map .int)] (λ z_=>.none) (λ v z_=>v=.bool true) (λ z_ z_=>True):=
 iD (n:=9) rfl dM hn
theorem vW:tab12.fns.lookup ("law":Str)=some 30:=by kernel_rfl
end Mine
open PySem PySem.W PyProof.Rows
open Mine (iE oN yY xt12 ww fY tc yl qJ five ft qc tab12 tbl12 om oo tG og oj ol vW qv)
set_option maxRecDepth 100000 in
set_option maxHeartbeats 8000000 in
set_option tactic.hygienic true in
theorem PySem.Challenge.cw_uf020002_12_holds : PySem.Challenge.rw_uf020002_12.Holds := by
 w_on
 refine PySem.W.holds_law iE λ said=>?_
 refine PySem.W.holds_open (q:=yY) (loose:=[]) (Xt:=xt12) (XP:=XL yY []) (Yf:=λ s=>s.heap) (Ya:=ww) (YP:=λ w h=>∀ b o,(ww w).get? b=some o->h.get? b=some o) (N:=5706) fY (λ w s e=>tc e) (λ w h h' x k b o e=>k b o (x b o e)) (λ s e=>xl_of s (Bool.and_eq_true_iff.mp e).1) XL.keeps (by rfl) (by rfl) (by rfl) (λ s e=>recFacts_of (Bool.and_eq_true_iff.mp e).2) (by rfl) (by first | assumption | decide +kernel) oN ⟨rfl,rfl,rfl,rfl,rfl,by decide +kernel⟩ ?hw ?hc
 case hw=>w_witness2
 intro w aO aB mg mb G Y fa o pm cd doc dV kV ho hd hcd hD hmg hg args vals as hpre hlay hrd hwl hlo
 have KX:(yl w).In aB.heap:=λ a o h=>Y a o (qJ _ _ a o h)
 clear Y
 refine Ground.open G ?_
 intro T B D TE TW
 clear D hd hcd hD ho
 have seer:=T.seer (by decide +kernel)
 wrow_args hpre hlay hrd hwl hlo
 refine enter_call ?_
 w_top on
 refine codeAny_mono ?_ (λ _ _ g=>GoodW.toG g)
 obtain ⟨mm,⟨os,_,_,hos,_⟩,_⟩:=seer.mods
 rename Heap.IsList _ _ _=>hL
 rename IntsAre _ _=>hI
 obtain ⟨c0,c1,c2,c4,c6⟩:=five (ft w)
 refine qc (T:=tab12) (tbl:=tbl12) (N:=19) KX T.g T.b T.nolimit ⟨os,hos⟩ T.builtins hg c0 c1 c2 om c4 oo (tG 20 c6 (tG 15 (og w) (tG 14 (oj w) (ol w)))) hmg vW hL hI ?_ (Nat.le_refl _) ?_ ?_
 ·omega
 ·exact qv (by omega)
 ·intro s' k1 k2 k3
  refine ⟨.inl ⟨.bool true,.bool true,[],rfl,?_,.bool true,?_,unshared_nil⟩,k1,k2,k3⟩
  ·intro cls;rfl
  ·wrow_post

