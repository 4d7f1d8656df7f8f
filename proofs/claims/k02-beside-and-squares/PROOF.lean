import PyProof.Rows.All
import HandS.Head0
import HandS.Head1
import HandS.Head2
import HandS.HeadEnd
import HandS.HeadHook1
import HandS.HeadHook2
import HandS.HeadHook3
import HandS.HeadWalk
import Wide.All
import OpenK.AllK
import Wide.FinOn
import HandS.ForMost
import HandS.Exc
import HandS.TryOnly
import HandS.ExcOwn
import HandS.WordsExc
import HandS.Deep
import HandS.IsInst
import HandS.SortInts
import HandS.Walk
import HandS.Flow
import HandS.Style
import HandS.Conv
import HandS.Defaults
import HandS.WideBits
import HandS.ExcIs
import HandS.ExcValue
import HandS.SetFor
import HandS.RevRange
import KE.KUnpack
import KE.GoesRaise
import HandS.Replace
import HandS.SortKw
import KE.DataMinMax
import KE.LtSeq
import KE.KSortAsk
import HandS.SortRule
import HandS.Strs
import PyProof.FactsAll.tuple_0
import PyProof.FactsAll.tuple_2
import HandS.RevTup
import PyProof.ListNew
import KE.KLam
import KE.SortKeyHeap
import KE.KSortKey
import HandS.Dict
import HandS.Codes
import PySem.Challenge.RW_cluemaker_k02_beside_and_squares
set_option Elab.async false
set_option linter.all false
set_option maxRecDepth 100000
set_option maxHeartbeats 1000000
namespace Cm
open PySem PySem.Spec PyProof.Rows L2 PySem.W
def bltNames:List Str:=["len","abs","min","max","sum","sorted","all","any","list","int","str","bool","tuple","isinstance","range","zip","enumerate","reversed","set","divmod","ValueError"]
inductive Xa where
 |ck (x:Str) (own:Bool) (d:Str) (b:Bool)
 |ik (x:Str) (own:Bool) (d:Str) (b:Bool)
 |mk0 (x:Str)
 |tup (x:Str) (zs:List Str)
 |dno (x z:Str)
 |dtu (x z:Str) (zs:List Str)
 |tab (x:Str) (c P:Addr)
def qma:Value→Option Str
 |.str z _=>some z
 |_=>none
def qfq (K:PySem.W.Frag) (u:Option (Option Value)) (zs:List Str):Bool:=match u with
 |some (some (.ref a))=>match K.lookup a with
  |some ⟨cls,dct,.seq its _,_⟩=>decide (cls=.type "tuple")&&decide (its.size≤1000)&&decide (its.toList.map qma=zs.map some)&&dct.isNone
  |_=>false
 |_=>false
def cv (K:PySem.W.Frag) (x:Str) (own:Bool):Value:=match own with
 |true=>.ref (He.ga K x)
 |false=>.type "ValueError"
def qi6 (K:PySem.W.Frag) (f c:Addr):Bool:=match K.lookup f with
 |some ⟨_,_,.func fd,_⟩=>(match fd.code with
  |.ref a=>decide (a=c)
  |_=>false)
 |_=>false
def Xa.ok (K:PySem.W.Frag):Xa→Bool
 |.ck x own d b=>decide (PySem.W.kitOne K (.ref (He.ga K d)) (cv K x own)=some b)&&(decide (PySem.W.exmOne K (.ref (He.ga K d)) (cv K x own)=some b) &&
  (He.eqO (PySem.W.findIn K (.ref (He.ga K d)) "__getattribute__") (some (some (.builtin "BaseException.__getattribute__")))&&(He.eqO (PySem.W.findIn K (.ref (He.ga K d)) "__getattr__") (some none) &&
  (decide (PySem.W.subIn K (.ref (He.ga K d)) (.type "BaseException")=some true)&&(PySem.W.hasDictIn K (He.ga K d)&&(He.eqO (PySem.W.findIn K (.ref (He.ga K d)) "__class__") (some (some (.builtin "object.__class__"))) &&
  (He.eqO (PySem.W.specialIn K (.builtin "object.__class__") "__get__") (some (some (.builtin "getset_descriptor.__get__")))&&(decide (PySem.W.takesIn K (.builtin "object.__class__")=some true)&&decide (PySem.W.mroIn K (He.ga K d) (.type "object")=some true)))))))))
 |.ik x own d b=>decide (PySem.W.kitOne K (.ref (He.ga K d)) (cv K x own)=some b)&&((He.Fa.cls d).ok K&&(He.eqO (PySem.W.findIn K (.ref (He.ga K d)) "__class__") (some (some (.builtin "object.__class__"))) &&
  (He.eqO (PySem.W.specialIn K (.builtin "object.__class__") "__get__") (some (some (.builtin "getset_descriptor.__get__")))&&(decide (PySem.W.takesIn K (.builtin "object.__class__")=some true)&&decide (PySem.W.mroIn K (He.ga K d) (.type "object")=some true)))))
 |.mk0 x=>PySem.W.makesIn K (He.ga K x)&&(He.eqO (PySem.W.findIn K (.ref (He.ga K x)) "__init__") (some (some (.builtin "object.__init__")))&&PySem.W.keepIn K (.ref (He.ga K x)))
 |.tup x zs=>qfq K (PySem.W.nsIn K mainGlobals x) zs
 |.dno x z=>He.eqO (PySem.W.nsIn K (He.ga K x) z) (some none)
 |.dtu x z zs=>qfq K (PySem.W.nsIn K (He.ga K x) z) zs
 |.tab x c P=>qi6 K (He.ga K x) c&&(PySem.W.codeHdIn K c P&&((K.lookup P).isNone&&decide (mainGlobals≠P)))
def qk9 (xa:List Xa) (K:PySem.W.Frag):Bool:=xa.all (Xa.ok K)
def qlz (ts:List (Str × List Str)) (w:World) (K:PySem.W.Frag):Prop:=(ts.map fun t=>He.dicW K (He.ga K t.1))=ts.map fun t=>some (He.keysIn w.params t.2)
theorem qml {r:PySem.W.OpenRow} {q:Program} {H:PySem.W.Hook} {ob:PySem.W.SharedT→H.α} {M:Nat} {loose:List Str} {w:World}
  (a:∀os:OsState,(HandSHeadRun.endF (HandSHeadRun.stepQ (HandSHeadRun.denQ HandSHeadRun.tabQ) r.prog w) M r.prog w os).map (fun s=>HandSHeadRun.looksF r.prog (boot_heap w.params) s.abs)=some true)
  (b:∀os:OsState,(HandSHeadRun.endF (HandSHeadRun.stepQ (HandSHeadRun.denQ HandSHeadRun.tabQ) r.prog w) M r.prog w os).map (fun s=>HandSHeadRun.seenQ q loose (PySem.importedModules r.prog.main.body) (fun s=>PySem.W.xlAt q [] s&&PySem.W.recOk r.toRowW.records s) s.abs)=some (PySem.W.openGood q loose))
  (c:∀os:OsState,(HandSHeadRun.endF (HandSHeadRun.stepQ (HandSHeadRun.denQ HandSHeadRun.tabQ) r.prog w) M r.prog w os).map ob=some (H.val w)):HandSHeadRun.RunEq r q H ob M loose w:=by
 intro os
 have a:=a os
 have b:=b os
 have c:=c os
 cases e:HandSHeadRun.endF (HandSHeadRun.stepQ (HandSHeadRun.denQ HandSHeadRun.tabQ) r.prog w) M r.prog w os with
 |none=>rw[e] at a;cases a
 |some s =>
  rw[e] at a b c
  simp only[Option.map_some,Option.some.injEq] at a b c ⊢
  rw[a,b,c]
abbrev AlL:Type:=(He.AlD × Bool) × List (Option (List (Option (Str × Int))))
def obL (as:List Addr) (fa:List He.Fa) (fn:List He.DefD) (xa:List Xa) (ts:List (Str × List Str)) (g:Addr→Option Obj):AlL:=((He.obsD fa fn (He.frG g as),qk9 xa (He.frG g as)),ts.map fun(t:Str × List Str)=>He.dicW (He.frG g as) (He.ga (He.frG g as) t.1))
def hookL (as:List Addr) (fa:List He.Fa) (fn:List He.DefD) (xa:List Xa) (ts:List (Str × List Str)):PySem.W.Hook where
 α:=AlL
 obs:=fun s=>obL as fa fn xa ts s.heap.get?
 val:=fun w=>((He.valD fn,true),ts.map fun(t:Str × List Str)=>some (He.keysIn w.params t.2))
 says:=fun w h=>∃K:PySem.W.Frag,K.In h∧He.SaysD fa fn K∧qk9 xa K=true∧qlz ts w K
 of:=fun _ _ e=>⟨_,He.frG_in,congrArg (fun z:AlL=>z.1.1) e,congrArg (fun z:AlL=>z.1.2) e,congrArg (fun z:AlL=>z.2) e⟩
 keeps:=fun _ _ _ ⟨K,kin,says⟩ st=>⟨K,PySem.W.Frag.In.keeps kin st,says⟩
def obT (as:List Addr) (fa:List He.Fa) (fn:List He.DefD) (xa:List Xa) (ts:List (Str × List Str)) (s:PySem.W.SharedT):AlL:=obL as fa fn xa ts (HandSHeadRun.getT s)
theorem obT_eq {as:List Addr} {fa:List He.Fa} {fn:List He.DefD} {xa:List Xa} {ts:List (Str × List Str)} (s:PySem.W.SharedT):obT as fa fn xa ts s=(hookL as fa fn xa ts).obs s.abs:=by
 have:HandSHeadRun.getT s=s.abs.heap.get?:=funext fun a=>HandSHeadRun.getT_eq s a
 show obL as fa fn xa ts (HandSHeadRun.getT s)=obL as fa fn xa ts s.abs.heap.get?
 rw[this]
end Cm
set_option maxHeartbeats 0
namespace K02
open Cm PySem PySem.Spec PyProof.Rows L2
def top (i:Nat):Stmt:=PySem.Challenge.pw_cluemaker_k02_beside_and_squares.main.body.getD i (.Pass ⟨0,0,0,0⟩)
def sub (i j:Nat):Stmt:=match top i with
 |.ClassDef _ _ _ body _ _ _ _ _ _ _=>body.getD j (.Pass ⟨0,0,0,0⟩)
 |_=>.Pass ⟨0,0,0,0⟩
def mkF (n:Str) (e:Stmt):He.DefD:=⟨(n,none),n,n,defArgs e,defBody e,defScope e,[],[]⟩
def mkD (n:Str × Option Str) (a b:Str) (e:Stmt):He.DefD:=⟨n,a,b,defArgs e,defBody e,defScope e,[],[]⟩
def qdW:He.DefD:=mkF "_law_at" (top 6)
def qbV:He.DefD:=mkF "_law_floor" (top 8)
def qce:He.DefD:=mkF "_law_near" (top 9)
def qdp:He.DefD:=mkF "spot_of" (top 2)
def qex:He.DefD:=mkF "beside" (top 3)
def qbW:He.DefD:=mkF "_law_whole" (top 7)
def qcF:He.DefD:=mkF "_law_are" (top 10)
def qbA:He.DefD:=mkF "_law_beside" (top 11)
def qbU:He.DefD:=mkF "many_cells" (top 1)
def qdf:He.DefD:=mkF "squares" (top 4)
def qbr:He.DefD:=mkF "_law_squares" (top 12)
def qjT:He.DefD:=mkF "law" (top 13)
def fnA:List He.DefD:=[qdW,qbV,qce,qdp,qex,qbW]
def fnB:List He.DefD:=[qcF,qbA,qbU,qdf,qbr,qjT]
def fn:List He.DefD:=fnA++fnB
def fa0:List He.Fa:=[.glo "_law_at",.glo "_law_floor",.glo "_law_near",.glo "spot_of",.glo "beside",.glo "_law_whole",.glo "_law_are",.glo "_law_beside",.glo "many_cells",.glo "squares",.glo "_law_squares",.glo "law"]
abbrev fa:List He.Fa:=bltNames.map He.Fa.free++fa0
def xa:List Xa:=[]
def ts:List (Str × List Str):=[]
abbrev R:PySem.W.OpenRow:=PySem.W.OpenLaw.row PySem.Challenge.rw_cluemaker_k02_beside_and_squares
def as:List Addr:=([3,49,48,63,62,70,69,28,27,35,34,56,55,75,74,80,79,21,20,42,41,85,84,90,89]:List Addr)
def loose:List Str:=(["many_cells","spot_of","beside","squares","_law_at","_law_whole","_law_floor","_law_near","_law_are","_law_beside","_law_squares"]:List Str)
abbrev vw:Program:=PySem.W.view R.prog [13]
theorem rA (w:World):∀os:OsState,(HandSHeadRun.endF (HandSHeadRun.stepQ (HandSHeadRun.denQ HandSHeadRun.tabQ) R.prog w) 400 R.prog w os).map (fun s=>HandSHeadRun.looksF R.prog (PySem.W.boot_heap w.params) s.abs)=some true:=by
 intro os
 kernel_rfl
theorem rB (w:World):∀os:OsState,(HandSHeadRun.endF (HandSHeadRun.stepQ (HandSHeadRun.denQ HandSHeadRun.tabQ) R.prog w) 400 R.prog w os).map (fun s=>HandSHeadRun.seenQ vw loose (PySem.importedModules R.prog.main.body) (fun s=>PySem.W.xlAt vw [] s&&PySem.W.recOk R.toRowW.records s) s.abs)=some (PySem.W.openGood vw loose):=by
 intro os
 kernel_rfl
theorem rC (w:World):∀os:OsState,(HandSHeadRun.endF (HandSHeadRun.stepQ (HandSHeadRun.denQ HandSHeadRun.tabQ) R.prog w) 400 R.prog w os).map (obT as fa fn xa ts)=some ((hookL as fa fn xa ts).val w):=by
 intro os
 kernel_rfl
theorem run (w:World):HandSHeadRun.RunEq R vw (hookL as fa fn xa ts) (obT as fa fn xa ts) 400 loose w:=qml (rA w) (rB w) (rC w)
end K02
namespace Cm
open PySem PySem.Spec PyProof.Rows L2
inductive D where
 |non | bl (b:Bool) | int (i:Int) | str (s:List Nat)
 |lst (xs:List D) | tup (xs:List D)
 |ins (c:Nat) (fs:List D) | exc (c:Nat) (fs:List D)
mutual
@[simp] def D.flat:D→Bool
 |.lst _=>false
 |.tup xs=>D.flats xs
 |.exc _ fs=>D.flats fs
 |.non=>true
 |.bl _=>true
 |.int _=>true
 |.str _=>true
 |.ins _ _=>true
@[simp] def D.flats:List D→Bool
 |[]=>true
 |d::ds=>d.flat&&D.flats ds
end
mutual
def D.fit:D→Nat→Bool
 |.non,_=>true
 |.bl _,_=>true
 |.int _,_=>true
 |.str s,_=>PyData.strOk ⟨s.toArray⟩
 |.lst xs,n=>decide (0<n)&&D.fits xs (n - 1)
 |.tup xs,n=>decide (0<n)&&D.fits xs (n - 1)
 |.ins _ _,_=>false
 |.exc _ _,_=>false
def D.fits:List D→Nat→Bool
 |[],_=>true
 |d::ds,n=>d.fit n&&D.fits ds n
end
mutual
def D.py:D→PyData
 |.non=>.none
 |.bl b=>.bool b
 |.int i=>.int i
 |.str s=>.str ⟨s.toArray⟩
 |.lst xs=>.list (D.pys xs)
 |.tup xs=>.tuple (D.pys xs)
 |.ins _ _=>.none
 |.exc _ _=>.none
def D.pys:List D→List PyData
 |[]=>[]
 |d::ds=>d.py::D.pys ds
end
mutual
def D.eqb:D→D→Bool
 |.non,y=>match y with
  |.non=>true
  |_=>false
 |.bl a,y=>match y with
  |.bl b=>a == b
  |.int j=>decide ((if a then 1 else 0)=j)
  |_=>false
 |.int i,y=>match y with
  |.bl b=>decide (i=(if b then 1 else 0))
  |.int j=>decide (i=j)
  |_=>false
 |.str x,y=>match y with
  |.str z=>decide (x=z)
  |_=>false
 |.lst xs,y=>match y with
  |.lst ys=>D.eqbs xs ys
  |_=>false
 |.tup xs,y=>match y with
  |.tup ys=>D.eqbs xs ys
  |_=>false
 |.ins _ _,_=>false
 |.exc _ _,_=>false
def D.eqbs:List D→List D→Bool
 |[],ys=>match ys with
  |[]=>true
  |_=>false
 |x::xs,ys=>match ys with
  |[]=>false
  |y::ys=>D.eqb x y&&D.eqbs xs ys
end
mutual
theorem D.canLay:∀(d:D) (n:Nat),d.fit n=true→d.py.canLay0=true∧d.py.depth≤n
 |.non,n,_=>⟨by simp[D.py,PyData.canLay0],by simp[D.py,PyData.depth]⟩
 |.bl _,n,_=>⟨by simp[D.py,PyData.canLay0],by simp[D.py,PyData.depth]⟩
 |.int _,n,_=>⟨by simp[D.py,PyData.canLay0],by simp[D.py,PyData.depth]⟩
 |.str s,n,h=>⟨by simpa[D.py,PyData.canLay0,D.fit] using h,by simp[D.py,PyData.depth]⟩
 |.lst xs,n,h=>by
  simp only[D.fit,Bool.and_eq_true,decide_eq_true_eq] at h
  obtain⟨h1,h2⟩:=D.canLays xs (n - 1) h.2
  refine⟨by simpa[D.py,PyData.canLay0] using h1,?_⟩
  simp only[D.py,PyData.depth]
  omega
 |.tup xs,n,h=>by
  simp only[D.fit,Bool.and_eq_true,decide_eq_true_eq] at h
  obtain⟨h1,h2⟩:=D.canLays xs (n - 1) h.2
  refine⟨by simpa[D.py,PyData.canLay0] using h1,?_⟩
  simp only[D.py,PyData.depth]
  omega
 |.ins _ _,_,h=>by simp[D.fit] at h
 |.exc _ _,_,h=>by simp[D.fit] at h
theorem D.canLays:∀(ds:List D) (n:Nat),D.fits ds n=true→PyData.canLayAll0 (D.pys ds)=true∧PyData.depthAll (D.pys ds)≤n
 |[],n,_=>⟨by simp[D.pys,PyData.canLayAll0],by simp[D.pys,PyData.depthAll]⟩
 |d::ds,n,h=>by
  simp only[D.fits,Bool.and_eq_true] at h
  obtain⟨h1,h2⟩:=D.canLay d n h.1
  obtain⟨h3,h4⟩:=D.canLays ds n h.2
  refine⟨by simp[D.pys,PyData.canLayAll0,h1,h3],?_⟩
  simp only[D.pys,PyData.depthAll]
  omega
end
theorem D.shaped {d:D} (h:d.fit 64=true):SeqAt.shaped d.py=true:=by
 obtain⟨h1,h2⟩:=D.canLay d 64 h
 simp[SeqAt.shaped,h1,h2]
theorem qcg {x z:List Nat}:(x.toArray=z.toArray)↔x=z:=by
 constructor
 ·intro h
  have:=congrArg Array.toList h
  simpa using this
 ·rintro rfl;rfl
mutual
theorem D.eqv_py:∀(a b:D) (n m:Nat),a.fit n=true→b.fit m=true→PyData.eqv a.py b.py=a.eqb b
 |.non,b,_,_,_,hb=>by cases b<;>simp[D.py,D.eqb,PyData.eqv,D.fit] at *
 |.bl x,b,_,_,_,hb=>by
  cases b<;>simp[D.py,D.eqb,PyData.eqv,D.fit] at *
  cases x<;>simp[Bool.beq_eq_decide_eq]<;>rfl
 |.int x,b,_,_,_,hb=>by
  cases b<;>simp[D.py,D.eqb,PyData.eqv,D.fit] at *
  ·rename_i y;cases y<;>simp[Bool.beq_eq_decide_eq]<;>rfl
  ·rfl
 |.str x,b,_,_,_,hb=>by
  cases b<;>simp[D.py,D.eqb,PyData.eqv,D.fit] at *
  rename_i z
  by_cases e:x=z
  ·subst e;simp
  ·rw[decide_eq_false e]
   refine beq_eq_false_iff_ne.mpr fun q=>e ?_
   injection q with q
   exact qcg.mp q
 |.lst xs,b,n,m,ha,hb=>by
  cases b with
  |lst ys =>
   simp only[D.fit,Bool.and_eq_true,decide_eq_true_eq] at ha hb
   simp only[D.py,D.eqb,PyData.eqv]
   exact D.eqv_pys xs ys _ _ ha.2 hb.2
  |_=>simp[D.py,D.eqb,PyData.eqv,D.fit] at *
 |.tup xs,b,n,m,ha,hb=>by
  cases b with
  |tup ys =>
   simp only[D.fit,Bool.and_eq_true,decide_eq_true_eq] at ha hb
   simp only[D.py,D.eqb,PyData.eqv]
   exact D.eqv_pys xs ys _ _ ha.2 hb.2
  |_=>simp[D.py,D.eqb,PyData.eqv,D.fit] at *
 |.ins _ _,_,_,_,h,_=>by simp[D.fit] at h
 |.exc _ _,_,_,_,h,_=>by simp[D.fit] at h
theorem D.eqv_pys:∀(xs ys:List D) (n m:Nat),D.fits xs n=true→D.fits ys m=true→PyData.eqvAll (D.pys xs) (D.pys ys)=D.eqbs xs ys
 |[],ys,_,_,_,_=>by cases ys<;>simp[D.pys,D.eqbs,PyData.eqvAll]
 |x::xs,ys,n,m,ha,hb=>by
  cases ys with
  |nil=>simp[D.pys,D.eqbs,PyData.eqvAll]
  |cons y ys =>
   simp only[D.fits,Bool.and_eq_true] at ha hb
   simp only[D.pys,D.eqbs,PyData.eqvAll]
   rw[D.eqv_py x y n m ha.1 hb.1,D.eqv_pys xs ys n m ha.2 hb.2]
end
structure Glo where
 K:PySem.W.Frag
 ca:Nat→Addr
 fl:Nat→List Str
def exK (cls:Value) (a:Addr):HO:=.ext fun h=>∃(oe:Obj) (vs:Array Value),h.get? a=some oe∧Zc cls none oe∧oe.data=.fields vs
mutual
def Rep (G:Glo) (P:Hp) (LN:Addr→List V→Prop):D→V→Prop
 |.non,v=>v=.non
 |.bl b,v=>v=.bl b
 |.int i,v=>v=.int i
 |.str s,v=>v=.str ⟨s.toArray⟩
 |.lst ds,v=>∃a xs,v=.ref a∧LN a xs∧Reps G P LN ds xs
 |.tup ds,v=>∃a xs,v=.ref a∧SqT G.K P a xs∧Reps G P LN ds xs
 |.ins c ds,v=>∃a dx xs,v=.ref a∧P a=some (.ins (G.ca c) dx ((G.fl c).zip xs))∧(G.fl c).length=ds.length∧Reps G P (SqL G.K P) ds xs
 |.exc c fs,v=>fs=[]∧∃a,v=.ref a∧P a=some (exK (.ref (G.ca c)) a)
def Reps (G:Glo) (P:Hp) (LN:Addr→List V→Prop):List D→List V→Prop
 |[],vs=>vs=[]
 |d::ds,vs=>∃v r,vs=v::r∧Rep G P LN d v∧Reps G P LN ds r
end
def ntO:HO→Bool
 |.tbl _=>false
 |_=>true
structure Same (H H':Hp):Prop where
 g0:∀(b:Addr) (o:HO),H b=some o→ntO o=true→H' b=some o
 f0:∀(b:Addr),H' b=none→H b=none
theorem Same.get {H H':Hp} (h:Same H H') (b:Addr) (o:HO) (e:H b=some o) (n:ntO o=true:=by rfl):H' b=some o:=h.g0 b o e n
instance {H H':Hp}:CoeFun (Same H H') (fun _=>∀(b:Addr) (o:HO),H b=some o→(n:ntO o=true:=by rfl)→H' b=some o):=⟨@Same.get H H'⟩
theorem Same.free {H H':Hp} (h:Same H H') {l:Addr} (e:H' l=none):H l=none:=h.f0 l e
theorem Same.refl (H:Hp):Same H H:=⟨fun _ _ e _=>e,fun _ e=>e⟩
theorem Same.trans {H H1 H2:Hp} (h:Same H H1) (k:Same H1 H2):Same H H2:=⟨fun b o e n=>k.g0 b o (h.g0 b o e n) n,fun b e=>h.f0 b (k.f0 b e)⟩
theorem Same.of {H H':Hp} (h:L2.Same H H'):Same H H':=⟨fun b o e _=>h b o e,fun _ e=>h.free e⟩
theorem Same.nil {H:Hp}:Same (fun _=>none) H:=Same.of fun _ _ e=>nomatch e
def TF (H:Hp):Prop:=∀b o,H b=some o→ntO o=true
theorem TF.nil:TF (fun _=>none):=fun _ _ e=>nomatch e
theorem Same.back {P H:Hp} (h:Same P H) (t:TF P) {b:Addr} {o:HO} (e:H b=some o) (q:P b≠none):P b=some o:=by
 obtain⟨u,q⟩:=Option.ne_none_iff_exists'.mp q
 have:=h.g0 b u q (t b u q)
 rw[e] at this;cases this;exact q
def qbO (H:Hp):Hp:=fun a=>match H a with
 |some o=>if ntO o=true then some o else none
 |none=>none
theorem qdC {H:Hp} {a:Addr} {o:HO} (h:qbO H a=some o):H a=some o∧ntO o=true:=by
 unfold qbO at h
 split at h
 ·split at h
  ·cases h;exact⟨by assumption,by assumption⟩
  ·cases h
 ·cases h
theorem qew {H:Hp} {a:Addr} {o:HO} (h:H a=some o) (n:ntO o=true:=by rfl):qbO H a=some o:=by
 unfold qbO;rw[h];exact if_pos n
theorem qbQ (H:Hp):Same (qbO H) H:=Same.of fun _ _ e=>(qdC e).1
theorem qcp {K:PySem.W.Frag} {H:Hp} {a:Addr} {xs:List V} (h:SqL K H a xs):SqL K (qbO H) a xs:=by
 rcases h with(h | ⟨o,h⟩) | h
 ·exact .inl (.inl (qew h))
 ·exact .inl (.inr ⟨o,qew h⟩)
 ·exact .inr h
theorem qcY (H:Hp):TF (qbO H):=fun _ _ e=>(qdC e).2
theorem Same.seq {K:PySem.W.Frag} {H H':Hp} {a:Addr} {xs:List V} (e:Same H H') (h:SqL K H a xs):SqL K H' a xs:=by
 rcases h with(h | ⟨o,h⟩) | h
 ·exact .inl (.inl (e _ _ h))
 ·exact .inl (.inr ⟨o,e _ _ h⟩)
 ·exact .inr h
theorem Same.seqT {K:PySem.W.Frag} {H H':Hp} {a:Addr} {xs:List V} (e:Same H H') (h:SqT K H a xs):SqT K H' a xs:=by
 rcases h with(h | ⟨o,h⟩) | h
 ·exact .inl (.inl (e _ _ h))
 ·exact .inl (.inr ⟨o,e _ _ h⟩)
 ·exact .inr h
section
variable {G:Glo} {P P':Hp} {LN LN':Addr→List V→Prop}
mutual
theorem Rep.mono (hp:Same P P'):∀(d:D) (v:V) {LN LN':Addr→List V→Prop} (_:∀a xs,LN a xs→LN' a xs),Rep G P LN d v→Rep G P' LN' d v
 |.non,_,_,_,_,h=>h
 |.bl _,_,_,_,_,h=>h
 |.int _,_,_,_,_,h=>h
 |.str _,_,_,_,_,h=>h
 |.lst ds,v,_,_,hl,⟨a,xs,e,h1,h2⟩=>⟨a,xs,e,hl _ _ h1,Reps.mono hp ds xs hl h2⟩
 |.tup ds,v,_,_,hl,⟨a,xs,e,h1,h2⟩=>⟨a,xs,e,Same.seqT hp h1,Reps.mono hp ds xs hl h2⟩
 |.ins c ds,v,_,_,hl,⟨a,dx,xs,e,h1,h2,h3⟩=>⟨a,dx,xs,e,hp _ _ h1,h2,Reps.mono hp ds xs (fun _ _ q=>Cm.Same.seq hp q) h3⟩
 |.exc _ _,_,_,_,_,⟨e,a,h1,h2⟩=>⟨e,a,h1,hp _ _ h2⟩
theorem Reps.mono (hp:Same P P'):∀(ds:List D) (vs:List V) {LN LN':Addr→List V→Prop} (_:∀a xs,LN a xs→LN' a xs),Reps G P LN ds vs→Reps G P' LN' ds vs
 |[],_,_,_,_,h=>h
 |d::ds,vs,_,_,hl,⟨v,r,e,h1,h2⟩=>⟨v,r,e,Rep.mono hp d v hl h1,Reps.mono hp ds r hl h2⟩
end
mutual
theorem Rep.flat:∀(d:D) (v:V),d.flat=true→Rep G P LN d v→Rep G P LN' d v
 |.non,_,_,h=>h
 |.bl _,_,_,h=>h
 |.int _,_,_,h=>h
 |.str _,_,_,h=>h
 |.lst ds,v,f,_=>by simp[D.flat] at f
 |.tup ds,v,f,⟨a,xs,e,h1,h2⟩=>⟨a,xs,e,h1,Reps.flat ds xs (by simpa[D.flat] using f) h2⟩
 |.ins c ds,v,_,h=>h
 |.exc _ _,_,_,h=>h
theorem Reps.flat:∀(ds:List D) (vs:List V),D.flats ds=true→Reps G P LN ds vs→Reps G P LN' ds vs
 |[],_,_,h=>h
 |d::ds,vs,f,⟨v,r,e,h1,h2⟩=>by
  simp only[D.flats,Bool.and_eq_true] at f
  exact⟨v,r,e,Rep.flat d v f.1 h1,Reps.flat ds r f.2 h2⟩
end
theorem Reps.length:∀{ds:List D} {vs:List V},Reps G P LN ds vs→vs.length=ds.length
 |[],_,h=>by cases h;rfl
 |d::ds,vs,⟨v,r,e,h1,h2⟩=>by subst e;simp[Reps.length h2]
theorem Reps.get:∀{ds:List D} {vs:List V} {i:Nat} {d:D},Reps G P LN ds vs→ds[i]? = some d→∃v,vs[i]? = some v∧Rep G P LN d v
 |[],_,_,_,_,h=>by simp at h
 |d::ds,vs,0,_,⟨v,r,e,h1,h2⟩,h=>by subst e;simp at h;subst h;exact⟨v,rfl,h1⟩
 |d::ds,vs,i+1,_,⟨v,r,e,h1,h2⟩,h=>by subst e;simp at h;obtain⟨w,q1,q2⟩:=Reps.get h2 h;exact⟨w,by simpa using q1,q2⟩
theorem Reps.append:∀{ds es:List D} {vs us:List V},Reps G P LN ds vs→Reps G P LN es us→Reps G P LN (ds++es) (vs++us)
 |[],_,_,_,h,q=>by cases h;exact q
 |d::ds,es,vs,us,⟨v,r,e,h1,h2⟩,q=>by subst e;exact⟨v,r++us,rfl,h1,Reps.append h2 q⟩
theorem Reps.take:∀{ds:List D} {vs:List V} (n:Nat),Reps G P LN ds vs→Reps G P LN (ds.take n) (vs.take n)
 |[],_,_,h=>by cases h;simp[Reps]
 |d::ds,vs,0,_=>by simp[Reps]
 |d::ds,vs,n+1,⟨v,r,e,h1,h2⟩=>by subst e;exact⟨v,r.take n,rfl,h1,Reps.take n h2⟩
theorem Reps.drop:∀{ds:List D} {vs:List V} (n:Nat),Reps G P LN ds vs→Reps G P LN (ds.drop n) (vs.drop n)
 |[],_,_,h=>by cases h;simp[Reps]
 |d::ds,vs,0,h=>h
 |d::ds,vs,n+1,⟨v,r,e,h1,h2⟩=>by subst e;exact Reps.drop n h2
theorem Reps.set {x:D} {u:V} (hx:Rep G P LN x u):∀{ds:List D} {vs:List V} (n:Nat),Reps G P LN ds vs→Reps G P LN (ds.set n x) (vs.set n u)
 |[],_,_,h=>by cases h;simp[Reps]
 |d::ds,vs,0,⟨v,r,e,h1,h2⟩=>by subst e;exact⟨u,r,rfl,hx,h2⟩
 |d::ds,vs,n+1,⟨v,r,e,h1,h2⟩=>by subst e;exact⟨v,r.set n u,rfl,h1,Reps.set hx n h2⟩
theorem Reps.eraseIdx:∀{ds:List D} {vs:List V} (n:Nat),Reps G P LN ds vs→Reps G P LN (ds.eraseIdx n) (vs.eraseIdx n)
 |[],_,_,h=>by cases h;simp[Reps]
 |d::ds,vs,0,⟨v,r,e,h1,h2⟩=>by subst e;exact h2
 |d::ds,vs,n+1,⟨v,r,e,h1,h2⟩=>by subst e;exact⟨v,r.eraseIdx n,rfl,h1,Reps.eraseIdx n h2⟩
theorem Reps.one {d:D} {v:V} (h:Rep G P LN d v):Reps G P LN [d] [v]:=⟨v,[],rfl,h,rfl⟩
theorem Reps.ints:∀{ns:List Int} {vs:List V},Reps G P LN (ns.map D.int) vs↔vs=ns.map V.int
 |[],vs=>Iff.rfl
 |n::ns,vs=>by
  constructor
  ·rintro⟨v,r,e,h1,h2⟩
   rw[e,h1,Reps.ints.mp h2];rfl
  ·intro e
   exact⟨_,_,e,rfl,Reps.ints.mpr rfl⟩
theorem Reps.reverse:∀{ds:List D} {vs:List V},Reps G P LN ds vs→Reps G P LN ds.reverse vs.reverse
 |[],_,h=>by cases h;exact rfl
 |d::ds,vs,⟨v,r,e,h1,h2⟩=>by
  subst e
  simp only[List.reverse_cons]
  exact(Reps.reverse h2).append (Reps.one h1)
theorem Reps.replicate {d:D} {v:V} (h:Rep G P LN d v):∀n,Reps G P LN (List.replicate n d) (List.replicate n v)
 |0=>rfl
 |n+1=>⟨v,_,rfl,h,Reps.replicate h n⟩
mutual
theorem Rep.dp {H:Hp} (hp:Same P H) (hl:∀a xs,LN a xs→SqL G.K H a xs):∀(d:D) (v:V) (n:Nat),d.fit n=true→Rep G P LN d v→Dp G.K H v d.py
 |.non,_,_,_,h=>by cases h;exact .non
 |.bl b,_,_,_,h=>by cases h;exact .bl b
 |.int i,_,_,_,h=>by cases h;exact .int i
 |.str s,_,_,_,h=>by cases h;exact .str _
 |.lst ds,v,n,f,⟨a,xs,e,h1,h2⟩=>by
  subst e
  simp only[D.fit,Bool.and_eq_true] at f
  exact .lst (hl _ _ h1) (Reps.dp hp hl ds xs _ f.2 h2)
 |.tup ds,v,n,f,⟨a,xs,e,h1,h2⟩=>by
  subst e
  simp only[D.fit,Bool.and_eq_true] at f
  exact .tup (Same.seqT hp h1) (Reps.dp hp hl ds xs _ f.2 h2)
 |.ins c ds,v,_,f,_=>by simp[D.fit] at f
 |.exc _ _,_,_,f,_=>by simp[D.fit] at f
theorem Reps.dp {H:Hp} (hp:Same P H) (hl:∀a xs,LN a xs→SqL G.K H a xs):∀(ds:List D) (vs:List V) (n:Nat),D.fits ds n=true→Reps G P LN ds vs→DpAll G.K H vs (D.pys ds)
 |[],_,_,_,h=>by cases h;exact .nil
 |d::ds,vs,n,f,⟨v,r,e,h1,h2⟩=>by
  subst e
  simp only[D.fits,Bool.and_eq_true] at f
  exact .cons (Rep.dp hp hl d v n f.1 h1) (Reps.dp hp hl ds r n f.2 h2)
end
end
end Cm
namespace Cm
open PySem PySem.Spec PyProof.Rows L2
def WrT (G:Glo) (v:V):Prop:=∀a,v=.ref a→∃o,G.K.lookup a=some o∧o.cls=.type "tuple" ∧ o.dict=none
inductive RE (α:Type) where
 |bad | ok (a:α) | exc (c:Nat) (fs:List D)
def RE.bind {α β:Type}:RE α→(α→RE β)→RE β
 |.bad,_=>.bad
 |.ok a,f=>f a
 |.exc c fs,_=>.exc c fs
@[simp] theorem RE.bind_ok {α β:Type} (a:α) (f:α→RE β):(RE.ok a).bind f=f a:=rfl
@[simp] theorem RE.bind_bad {α β:Type} (f:α→RE β):(RE.bad:RE α).bind f=.bad:=rfl
@[simp] theorem RE.bind_exc {α β:Type} (c:Nat) (fs:List D) (f:α→RE β):(RE.exc c fs:RE α).bind f=.exc c fs:=rfl
inductive Sl where
 |non | val (d:D) (b:Bool) | own (ds:List D) (b:Bool)
 |slf (c:Nat) (fs:List D)
 |fxd (d:D) (k:Nat)
 |dct (m:List (Int × D)) (b:Bool)
 |row (dss:List (List D))
inductive ER where
 |val (d:D) (b:Bool) | fre (ds:List D) (b:Bool) | brw (ds:List D) (b:Bool)
def ER.d:ER→D
 |.val d _=>d
 |.fre ds _=>.lst ds
 |.brw ds _=>.lst ds
def ER.b:ER→Bool
 |.val _ b=>b
 |.fre _ b=>b
 |.brw _ b=>b
@[simp] theorem ER.d_val {d:D} {b:Bool}:(ER.val d b).d=d:=rfl
@[simp] theorem ER.d_fre {d:List D} {b:Bool}:(ER.fre d b).d=.lst d:=rfl
@[simp] theorem ER.d_brw {d:List D} {b:Bool}:(ER.brw d b).d=.lst d:=rfl
@[simp] theorem ER.b_val {d:D} {b:Bool}:(ER.val d b).b=b:=rfl
@[simp] theorem ER.b_fre {d:List D} {b:Bool}:(ER.fre d b).b=b:=rfl
@[simp] theorem ER.b_brw {d:List D} {b:Bool}:(ER.brw d b).b=b:=rfl
@[simp] def ER.isB:ER→Bool
 |.brw _ _=>true
 |_=>false
@[simp] def ER.isV:ER→Bool
 |.val _ _=>true
 |_=>false
@[simp] def ER.frz:ER→ER
 |.fre ds b=>.val (.lst ds) b
 |e=>e
def LNb (K:PySem.W.Frag) (P N R:Hp) (b:Bool):Addr→List V→Prop:=fun a xs=>N a=some (.lst xs)∨(b=false∧(SqL K P a xs∨SqL K N a xs∨SqL K R a xs))
theorem LNb.mono {K:PySem.W.Frag} {P N R P' N':Hp} {b:Bool} (hp:Same P P') (hn:Same N N'):∀a xs,LNb K P N R b a xs→LNb K P' N' R b a xs:=fun a xs h=>by
 rcases h with h | ⟨h1,h | h | h⟩
 ·exact .inl (hn _ _ h)
 ·exact .inr ⟨h1,.inl (Cm.Same.seq hp h)⟩
 ·exact .inr ⟨h1,.inr (.inl (Cm.Same.seq hn h))⟩
 ·exact .inr ⟨h1,.inr (.inr h)⟩
theorem LNb.weak {K:PySem.W.Frag} {P N R:Hp} {b:Bool}:∀a xs,LNb K P N R b a xs→LNb K P N R false a xs:=fun a xs h=>by
 rcases h with h | h
 ·exact .inl h
 ·exact .inr ⟨rfl,h.2⟩
theorem LNb.and1 {K:PySem.W.Frag} {P N R:Hp} {b c:Bool}:∀a xs,LNb K P N R b a xs→LNb K P N R (b&&c) a xs:=fun a xs h=>by
 rcases h with h | ⟨h1,h2⟩
 ·exact .inl h
 ·exact .inr ⟨by simp[h1],h2⟩
theorem LNb.and2 {K:PySem.W.Frag} {P N R:Hp} {b c:Bool}:∀a xs,LNb K P N R c a xs→LNb K P N R (b&&c) a xs:=fun a xs h=>by
 rcases h with h | ⟨h1,h2⟩
 ·exact .inl h
 ·exact .inr ⟨by simp[h1],h2⟩
theorem LNb.seq {K:PySem.W.Frag} {P N R H:Hp} {b:Bool} (hp:Same P H) (hn:Same N H) (hr:Same R H):∀a xs,LNb K P N R b a xs→SqL K H a xs:=fun a xs h=>by
 rcases h with h | ⟨_,h | h | h⟩
 ·exact .inl (.inl (hn _ _ h))
 ·exact Cm.Same.seq hp h
 ·exact Cm.Same.seq hn h
 ·exact Cm.Same.seq hr h
theorem LNb.ofR {K:PySem.W.Frag} {P N R:Hp}:∀a xs,SqL K R a xs→LNb K P N R false a xs:=fun a xs h=>.inr ⟨rfl,.inr (.inr h)⟩
class HasT where
 T:List (Addr × Str)
instance (priority:=low) noTabs:HasT:=⟨[]⟩
variable [HasT]
abbrev qb0 (H:Hp):Prop:=LamX.Tabs HasT.T H
structure HX (H H':Hp):Prop where
 s:Same H H'
 tb:qb0 H→qb0 H'
instance {H H':Hp}:Coe (HX H H') (Same H H'):=⟨HX.s⟩
theorem HX.get {H H':Hp} (h:HX H H') (b:Addr) (o:HO) (e:H b=some o) (n:ntO o=true:=by rfl):H' b=some o:=h.s.g0 b o e n
instance {H H':Hp}:CoeFun (HX H H') (fun _=>∀(b:Addr) (o:HO),H b=some o→(n:ntO o=true:=by rfl)→H' b=some o):=⟨@HX.get _ H H'⟩
theorem HX.free {H H':Hp} (h:HX H H') {l:Addr} (e:H' l=none):H l=none:=h.s.free e
theorem HX.refl (H:Hp):HX H H:=⟨Same.refl _,fun h=>h⟩
theorem HX.trans {H H1 H2:Hp} (h:HX H H1) (k:HX H1 H2):HX H H2:=⟨h.s.trans k.s,fun t=>k.tb (h.tb t)⟩
theorem HX.of {H H':Hp} (h:L2.Same H H'):HX H H':=⟨Same.of h,fun t=>t.ext h⟩
def wrO:HO→Bool
 |.lst _=>true
 |.dK _=>true
 |.ins _ _ _=>true
 |.own _=>true
 |_=>false
theorem qbE {H:Hp} {p:Addr} {o u:HO} (e:H p=some o) (t:qb0 H) (w:wrO o=true:=by rfl) (w2:wrO u=true:=by rfl):qb0 (upd H p u):=fun x hx=>by
 obtain⟨ps,h1,h2,h3⟩:=t x hx
 refine⟨ps,?_,h2,fun pos cv hc=>?_⟩
 ·rw[upd_ne fun z=>by rw[z,e] at h1;cases h1;cases w];exact h1
 ·obtain⟨c,q1,q2⟩:=h3 pos cv hc
  refine⟨c,q1,?_⟩
  rw[upd_ne fun z=>by rw[z,e] at q2;cases q2;cases w];exact q2
theorem qgE {H He:Hp} {p:Addr} {o:HO} (e:H p=some o) (t:qb0 H) (h:∀a,a≠p→He a=H a) (w:wrO o=true:=by rfl):qb0 He:=fun x hx=>by
 obtain⟨ps,h1,h2,h3⟩:=t x hx
 refine⟨ps,?_,h2,fun pos cv hc=>?_⟩
 ·rw[h _ fun z=>by rw[z,e] at h1;cases h1;cases w];exact h1
 ·obtain⟨c,q1,q2⟩:=h3 pos cv hc
  refine⟨c,q1,?_⟩
  rw[h _ fun z=>by rw[z,e] at q2;cases q2;cases w];exact q2
structure Adv (P N H P' N' H':Hp):Prop where
 hh:HX H H'
 pp:Same P P'
 nn:Same N N'
 pH:Same P' H'
 nH:Same N' H'
 pn:∀a,P' a≠none→P a≠none∨H a=none
 nw:∀a,N' a≠none→N a≠none∨H a=none
 dj:∀a,N' a≠none→P' a≠none→N a≠none
 tp:TF P→TF P'
 tn:TF N→TF N'
theorem Adv.refl {P N H:Hp} (hp:Same P H) (hn:Same N H):Adv P N H P N H:=⟨HX.refl _,Cm.Same.refl _,Cm.Same.refl _,hp,hn,fun _ h=>.inl h,fun _ h=>.inl h,fun _ h _=>h,id,id⟩
theorem Adv.trans {P N H P' N' H' P'' N'' H'':Hp} (s:Adv P N H P' N' H') (t:Adv P' N' H' P'' N'' H''):Adv P N H P'' N'' H'' where
 hh:=s.hh.trans t.hh
 pp:=s.pp.trans t.pp
 nn:=s.nn.trans t.nn
 pH:=t.pH
 nH:=t.nH
 pn:=fun a h=>by
  rcases t.pn a h with h | h
  ·exact s.pn a h
  ·exact .inr (s.hh.free h)
 nw:=fun a h=>by
  rcases t.nw a h with h | h
  ·exact s.nw a h
  ·exact .inr (s.hh.free h)
 dj:=fun a h h2=>by
  have h3:=t.dj a h h2
  rcases t.pn a h2 with q | q
  ·exact s.dj a h3 q
  ·exact absurd (s.nH.free q) h3
 tp:=fun h=>t.tp (s.tp h)
 tn:=fun h=>t.tn (s.tn h)
theorem Adv.heap {P N H P' N' H' H'':Hp} (s:Adv P N H P' N' H') (e:HX H' H''):Adv P N H P' N' H'':=
 ⟨s.hh.trans e,s.pp,s.nn,s.pH.trans e.s,s.nH.trans e.s,s.pn,s.nw,s.dj,s.tp,s.tn⟩
theorem qdP {H:Hp} {p:Addr} {o:HO} (h:H p=none):HX H (upd H p o):=HX.of fun b u e=>by
 rw[upd_ne (ne_of_none e h)];exact e
theorem qaX {H:Hp} {p:Addr} {o:HO} (h:H p=none):Same H (upd H p o):=Same.of fun b u e=>by
 rw[upd_ne (ne_of_none e h)];exact e
theorem qel {H:Hp} {p b:Addr} {o:HO} (h:upd H p o b=none):b≠p∧H b=none:=by
 by_cases q:b=p
 ·subst q;rw[upd_same] at h;cases h
 ·rw[upd_ne q] at h;exact⟨q,h⟩
theorem qe9 {P H:Hp} {p:Addr} {o:HO} (h:Same P H):Same (upd P p o) (upd H p o):=⟨fun b u e n=>by
 by_cases q:b=p
 ·subst q;rw[upd_same] at e ⊢;exact e
 ·rw[upd_ne q] at e ⊢;exact h.g0 _ _ e n,fun b e=>by
 obtain⟨q,e⟩:=qel e
 rw[upd_ne q];exact h.free e⟩
theorem qaj {P H:Hp} {p:Addr} {o:HO} (h:Same P H) (n:P p=none):Same P (upd H p o):=⟨fun b u e m=>by
 rw[upd_ne (ne_of_none e n)];exact h.g0 _ _ e m,fun b e=>h.free (qel e).2⟩
theorem TF.upd {P:Hp} {p:Addr} {o:HO} (t:TF P) (n:ntO o=true:=by rfl):TF (upd P p o):=fun b u e=>by
 by_cases q:b=p
 ·subst q;rw[upd_same] at e;cases e;exact n
 ·rw[upd_ne q] at e;exact t b u e
theorem qjh {A H:Hp} {p:Addr} {o u:HO} (h:HX A H) (n:A p=none) (e:H p=some o) (w:wrO o=true:=by rfl) (w2:wrO u=true:=by rfl):HX A (upd H p u):=⟨qaj h.s n,fun t=>qbE e (h.tb t) w w2⟩
theorem qfG {P H:Hp} {p:Addr} {o:HO} (h:Same P H) (e:H p=some o):Same (upd P p o) H:=⟨fun b u q m=>by
 by_cases z:b=p
 ·subst z;rw[upd_same] at q;cases q;exact e
 ·rw[upd_ne z] at q;exact h.g0 _ _ q m,fun b q=>by
 have z:b≠p:=fun z=>by rw[z,e] at q;cases q
 rw[upd_ne z];exact h.free q⟩
theorem Adv.newP {P N H P' N' H':Hp} (s:Adv P N H P' N' H') {p:Addr} {o:HO} (hp:H' p=none) (no:ntO o=true:=by rfl):Adv P N H (upd P' p o) N' (upd H' p o) where
 hh:=s.hh.trans (qdP hp)
 tp:=fun h=>(s.tp h).upd no
 tn:=s.tn
 pp:=s.pp.trans (qaX (s.pH.free hp))
 nn:=s.nn
 pH:=qe9 s.pH
 nH:=s.nH.trans (qaX hp)
 pn:=fun a h=>by
  by_cases q:a=p
  ·exact .inr (by rw[q];exact s.hh.free hp)
  ·rw[upd_ne q] at h;exact s.pn a h
 nw:=s.nw
 dj:=fun a h h2=>by
  by_cases q:a=p
  ·exact absurd (s.nH.free hp) (q ▸ h)
  ·rw[upd_ne q] at h2;exact s.dj a h h2
theorem Adv.holdN {P N H P' N' H':Hp} (s:Adv P N H P' N' H') {p:Addr} {o:HO} (h0:H p=none) (hp:H' p=some o) (hn:N' p=none) (hP:P' p=none) (no:ntO o=true:=by rfl):Adv P N H P' (upd N' p o) H' where
 hh:=s.hh
 tp:=s.tp
 tn:=fun h=>(s.tn h).upd no
 pp:=s.pp
 nn:=s.nn.trans (qaX hn)
 pH:=s.pH
 nH:=qfG s.nH hp
 pn:=s.pn
 nw:=fun a h=>by
  by_cases q:a=p
  ·exact .inr (by rw[q];exact h0)
  ·rw[upd_ne q] at h;exact s.nw a h
 dj:=fun a h h2=>by
  by_cases q:a=p
  ·exact absurd hP (q ▸ h2)
  ·rw[upd_ne q] at h;exact s.dj a h h2
structure Ctx where
 G:Glo
 R:Hp
 B:Hp
 P0:Hp
 W:WX
 S:Addr
 fx:Nat→Option V:=fun _=>none
section
variable (C:Ctx) (P N H:Hp)
abbrev RepB (b:Bool) (d:D) (v:V):Prop:=Rep C.G P (LNb C.G.K P N C.R b) d v
abbrev RepsB (b:Bool) (ds:List D) (vs:List V):Prop:=Reps C.G P (LNb C.G.K P N C.R b) ds vs
def RowR (R:Addr→List D→Prop):List (List D)→List Addr→Prop
 |[],ps=>ps=[]
 |ds::r,ps=>∃a q,ps=a::q∧R a ds∧RowR R r q
def DctR (R:D→V→Prop):List (Int × D)→List (Key × V)→Prop
 |[],es=>es=[]
 |e::m,es=>∃v r,es=(.inl e.1,v)::r∧R e.2 v∧DctR R m r
def SlR:Sl→Option V→Prop
 |.non,_=>True
 |.val d b,o=>∃v,o=some v∧RepB C P N b d v
 |.own ds b,o=>∃p xs,o=some (.ref p)∧H p=some (.lst xs)∧P p=none∧N p=none∧C.B p=none∧RepsB C P N b ds xs
 |.slf c fs,o=>∃p dx xs,(p=C.S∧o=some (.ref p))∧H p=some (.ins (C.G.ca c) dx ((C.G.fl c).zip xs))∧P p=none∧N p=none∧C.B p=none∧fs.length≤(C.G.fl c).length∧RepsB C P N true fs xs
 |.fxd d k,o=>∃v,o=some v∧C.fx k=some v∧RepB C P N false d v
 |.dct m b,o=>∃p es,o=some (.ref p)∧H p=some (.dK es)∧P p=none∧N p=none∧C.B p=none∧DctR (RepB C P N b) m es
 |.row dss,o=>∃p ps,o=some (.ref p)∧H p=some (.lst (ps.map V.ref))∧P p=none∧N p=none∧C.B p=none∧RowR (fun a ds=>∃xs,H a=some (.lst xs)∧P a=none∧N a=none∧C.B a=none∧D.flats ds=true∧RepsB C P N true ds xs) dss ps∧(p::ps).Nodup
def ERr (H0:Hp):ER→V→Prop
 |.val d b,v=>RepB C P N b d v
 |.fre ds b,v=>∃p xs,v=.ref p∧H p=some (.lst xs)∧H0 p=none∧P p=none∧N p=none∧RepsB C P N b ds xs
 |.brw ds b,v=>∃p xs,v=.ref p∧H p=some (.lst xs)∧P p=none∧N p=none∧C.B p=none∧RepsB C P N b ds xs
def ERs (H0:Hp):List ER→List V→Prop
 |[],vs=>vs=[]
 |e::es,vs=>∃v r,vs=v::r∧ERr C P N H H0 e v∧ERs H0 es r
def ExR (fs:List D) (d:Option Addr):Prop:=(fs=[]∧d=none)∨∃dd f v,fs=[f]∧d=some dd∧H dd=some (.xd [(("at" : Str),v)])∧RepB C P N true f v
structure Reg:Prop where
 pH:Same P H
 nH:Same N H
 bH:Same C.B H
 rB:Same C.R C.B
 p0:Same C.P0 P
 pn:∀a,P a≠none→C.P0 a≠none∨C.B a=none
 nw:∀a,N a≠none→C.B a=none
 dj:∀a,N a≠none→P a=none
 tb:qb0 H
 tf:TF P∧TF N∧TF C.R
structure AD (ρ:List Sl) (σ:L2.St):Prop where
 un:∀(i j:Nat) (p:Addr) (m:List (Int × D)) (b:Bool) (m':List (Int × D)) (c:Bool),ρ[i]? = some (.dct m b)→ρ[j]? = some (.dct m' c)→σ[i]? = some (some (.ref p))→σ[j]? = some (some (.ref p))→i=j
inductive Held (H:Hp):Sl→Option V→Addr→Prop
 |own {ds:List D} {b:Bool} {a:Addr}:Held H (.own ds b) (some (.ref a)) a
 |rt {dss:List (List D)} {a:Addr}:Held H (.row dss) (some (.ref a)) a
 |it {dss:List (List D)} {p a:Addr} {ps:List Addr}:H p=some (.lst (ps.map V.ref))→a∈ps→Held H (.row dss) (some (.ref p)) a
structure AR (H:Hp) (ρ:List Sl) (σ:L2.St):Prop where
 un:∀(i j:Nat) (dss:List (List D)) (t:Sl) (o u:Option V) (a:Addr),ρ[i]? = some (.row dss)→ρ[j]? = some t→σ[i]? = some o→σ[j]? = some u→Held H (.row dss) o a→Held H t u a→i=j
structure SR (ρ:List Sl) (σ:L2.St):Prop where
 reg:Reg C P N H
 len:σ.length=ρ.length
 sl:∀(i:Nat) (s:Sl),ρ[i]? = some s→∃o,σ[i]? = some o∧SlR C P N H s o
 ap:∀(i j:Nat) (p:Addr) (ds:List D) (b:Bool) (es:List D) (c:Bool),ρ[i]? = some (.own ds b)→ρ[j]? = some (.own es c)→σ[i]? = some (some (.ref p))→σ[j]? = some (some (.ref p))→i=j
 ad:AD ρ σ
 ar:AR H ρ σ
end
def Sl.isD:Sl→Bool
 |.dct _ _=>true
 |_=>false
theorem AD.sub {ρ ρ':List Sl} {σ σ':L2.St} (h:AD ρ σ) (k:∀(i:Nat) (m:List (Int × D)) (b:Bool),ρ'[i]? = some (Sl.dct m b)→σ'[i]? = σ[i]? ∧ ∃m' c,ρ[i]? = some (Sl.dct m' c)):AD ρ' σ':=⟨fun i j p m b m' c e1 e2 e3 e4=>by
 obtain⟨f1,_,_,g1⟩:=k i m b e1
 obtain⟨f2,_,_,g2⟩:=k j m' c e2
 rw[f1] at e3
 rw[f2] at e4
 exact h.un i j p _ _ _ _ g1 g2 e3 e4⟩
theorem AD.no {ρ:List Sl} {σ:L2.St} (h:∀(i:Nat) s,ρ[i]? = some s→s.isD=false):AD ρ σ:=⟨fun i j p m b m' c e1 e2 e3 e4=>by
 have:=h i _ e1
 cases this⟩
def Sl.isW:Sl→Bool
 |.row _=>true
 |_=>false
def Sl.isH:Sl→Bool
 |.row _=>true
 |.own _ _=>true
 |_=>false
theorem Held.not {H:Hp} {s:Sl} {o:Option V} {a:Addr} (h:Held H s o a):s.isH=true:=by cases h<;>rfl
theorem AR.no {H:Hp} {ρ:List Sl} {σ:L2.St} (h:∀(i:Nat) s,ρ[i]? = some s→s.isW=false):AR H ρ σ:=⟨fun i j dss t o u a e1 e2 e3 e4 h1 h2=>by
 have:=h i _ e1
 cases this⟩
theorem AR.heap {H H':Hp} {ρ:List Sl} {σ:L2.St} (h:AR H ρ σ) (k:∀(i:Nat) (dss:List (List D)) (p:Addr),ρ[i]? = some (.row dss)→σ[i]? = some (some (.ref p))→H' p=H p):AR H' ρ σ:=⟨fun i j dss t o u a e1 e2 e3 e4 h1 h2=>by
 refine h.un i j dss t o u a e1 e2 e3 e4 ?_ ?_
 ·cases h1 with
  |rt=>exact .rt
  |it q m=>exact .it ((k i _ _ e1 e3) ▸ q) m
 ·cases h2 with
  |own=>exact .own
  |rt=>exact .rt
  |it q m=>exact .it ((k j _ _ e2 e4) ▸ q) m⟩
theorem qad {α:Type} {xs:List α} {i j:Nat} {x y:α} (e:(xs.set i x)[j]? = some y):(i=j∧y=x)∨(i≠j∧xs[j]? = some y):=by
 by_cases q:i=j
 ·subst q
  rw[List.getElem?_set] at e
  simp only[if_true] at e
  split at e
  ·cases e;exact .inl ⟨rfl,rfl⟩
  ·cases e
 ·rw[List.getElem?_set_ne q] at e
  exact .inr ⟨q,e⟩
theorem AR.set {H:Hp} {ρ:List Sl} {σ:L2.St} (h:AR H ρ σ) {i:Nat} {s:Sl} {o:Option V} (hs:s.isH=false):AR H (ρ.set i s) (σ.set i o):=⟨fun j k dss t o1 u a e1 e2 e3 e4 h1 h2=>by
 rcases qad e1 with⟨q1,z1⟩ | ⟨q1,z1⟩
 ·rw[z1] at h1;have:=h1.not;rw[hs] at this;cases this
 ·rcases qad e2 with⟨q2,z2⟩ | ⟨q2,z2⟩
  ·rw[z2] at h2;have:=h2.not;rw[hs] at this;cases this
  ·rw[List.getElem?_set_ne q1] at e3
   rw[List.getElem?_set_ne q2] at e4
   exact h.un j k dss t o1 u a z1 z2 e3 e4 h1 h2⟩
theorem AR.setS {H:Hp} {ρ:List Sl} {σ:L2.St} (h:AR H ρ σ) {i:Nat} {s:Sl} (hs:s.isH=false):AR H (ρ.set i s) σ:=⟨fun j k dss t o1 u a e1 e2 e3 e4 h1 h2=>by
 rcases qad e1 with⟨q1,z1⟩ | ⟨q1,z1⟩
 ·rw[z1] at h1;have:=h1.not;rw[hs] at this;cases this
 ·rcases qad e2 with⟨q2,z2⟩ | ⟨q2,z2⟩
  ·rw[z2] at h2;have:=h2.not;rw[hs] at this;cases this
  ·exact h.un j k dss t o1 u a z1 z2 e3 e4 h1 h2⟩
theorem AR.setO {H:Hp} {ρ:List Sl} {σ:L2.St} (h:AR H ρ σ) {i:Nat} {ds:List D} {b:Bool} {p:Addr} (k:∀(j:Nat) (dss:List (List D)) (u:Option V),i≠j→ρ[j]? = some (.row dss)→σ[j]? = some u→¬Held H (.row dss) u p):AR H (ρ.set i (.own ds b)) (σ.set i (some (.ref p))):=⟨fun j l dss t o1 u a e1 e2 e3 e4 h1 h2=>by
 rcases qad e1 with⟨q1,z1⟩ | ⟨q1,z1⟩
 ·cases z1
 ·rw[List.getElem?_set_ne q1] at e3
  rcases qad e2 with⟨q2,z2⟩ | ⟨q2,z2⟩
  ·rcases qad e4 with⟨_,z4⟩ | ⟨q4,_⟩
   ·rw[z2,z4] at h2
    cases h2
    exact absurd h1 (k j dss o1 q1 z1 e3)
   ·exact absurd q2 q4
  ·rw[List.getElem?_set_ne q2] at e4
   exact h.un j l dss t o1 u a z1 z2 e3 e4 h1 h2⟩
theorem AR.own {H:Hp} {ρ:List Sl} {σ:L2.St} (h:AR H ρ σ) {i:Nat} {ds ds':List D} {b b':Bool} (e:ρ[i]? = some (.own ds b)):AR H (ρ.set i (.own ds' b')) σ:=⟨fun j l dss t o1 u a e1 e2 e3 e4 h1 h2=>by
 rcases qad e1 with⟨q1,z1⟩ | ⟨q1,z1⟩
 ·cases z1
 ·rcases qad e2 with⟨q2,z2⟩ | ⟨q2,z2⟩
  ·subst q2
   rw[z2] at h2
   cases h2
   exact h.un j i dss (.own ds b) o1 _ a z1 e e3 e4 h1 .own
  ·exact h.un j l dss t o1 u a z1 z2 e3 e4 h1 h2⟩
theorem AD.set {ρ:List Sl} {σ:L2.St} (h:AD ρ σ) {i:Nat} {s:Sl} {o:Option V} (hs:s.isD=false):AD (ρ.set i s) (σ.set i o):=h.sub fun j m b e=>by
 by_cases q:i=j
 ·subst q
  rw[List.getElem?_set] at e
  simp only[if_true] at e
  split at e
  ·cases e;cases hs
  ·cases e
 ·rw[List.getElem?_set_ne q] at e
  rw[List.getElem?_set_ne q]
  exact⟨rfl,_,_,e⟩
theorem AD.setS {ρ:List Sl} {σ:L2.St} (h:AD ρ σ) {i:Nat} {s:Sl} (hs:s.isD=false):AD (ρ.set i s) σ:=h.sub fun j m b e=>by
 by_cases q:i=j
 ·subst q
  rw[List.getElem?_set] at e
  simp only[if_true] at e
  split at e
  ·cases e;cases hs
  ·cases e
 ·rw[List.getElem?_set_ne q] at e
  exact⟨rfl,_,_,e⟩
section
variable {C:Ctx} {P N H P' N' H':Hp} {ρ:List Sl} {σ:L2.St}
theorem Reg.rH (h:Reg C P N H):Same C.R H:=h.rB.trans h.bH
theorem Reg.adv (h:Reg C P N H) (a:Adv P N H P' N' H'):Reg C P' N' H' where
 pH:=a.pH
 nH:=a.nH
 bH:=h.bH.trans a.hh
 rB:=h.rB
 p0:=h.p0.trans a.pp
 tb:=a.hh.tb h.tb
 tf:=⟨a.tp h.tf.1,a.tn h.tf.2.1,h.tf.2.2⟩
 pn:=fun q e=>by
  rcases a.pn q e with e | e
  ·exact h.pn q e
  ·exact .inr (h.bH.free e)
 nw:=fun q e=>by
  rcases a.nw q e with e | e
  ·exact h.nw q e
  ·exact h.bH.free e
 dj:=fun q e=>by
  cases e2:P' q with
  |none=>rfl
  |some o =>
   have e3:P' q≠none:=by rw[e2];exact fun z=>nomatch z
   have e4:=a.dj q e e3
   rcases a.pn q e3 with z | z
   ·exact absurd (h.dj q e4) z
   ·exact absurd (h.nH.free z) e4
theorem RepB.adv {b:Bool} {d:D} {v:V} (hp:Same P P') (hn:Same N N') (h:RepB C P N b d v):RepB C P' N' b d v:=Rep.mono hp d v (LNb.mono hp hn) h
theorem RepsB.adv {b:Bool} {ds:List D} {vs:List V} (hp:Same P P') (hn:Same N N') (h:RepsB C P N b ds vs):RepsB C P' N' b ds vs:=Reps.mono hp ds vs (LNb.mono hp hn) h
theorem RepB.and1 {b c:Bool} {d:D} {v:V} (h:RepB C P N b d v):RepB C P N (b&&c) d v:=Rep.mono (Cm.Same.refl _) d v LNb.and1 h
theorem RepB.and2 {b c:Bool} {d:D} {v:V} (h:RepB C P N c d v):RepB C P N (b&&c) d v:=Rep.mono (Cm.Same.refl _) d v LNb.and2 h
theorem RepsB.and1 {b c:Bool} {d:List D} {v:List V} (h:RepsB C P N b d v):RepsB C P N (b&&c) d v:=Reps.mono (Cm.Same.refl _) d v LNb.and1 h
theorem RepsB.and2 {b c:Bool} {d:List D} {v:List V} (h:RepsB C P N c d v):RepsB C P N (b&&c) d v:=Reps.mono (Cm.Same.refl _) d v LNb.and2 h
theorem RepB.nf {b:Bool} {d:D} {v:V} (h:RepB C P N b d v):RepB C P N (b||d.flat) d v:=by
 cases b with
 |true=>exact h
 |false =>
  cases e:d.flat with
  |true=>exact Rep.flat d v e h
  |false=>exact h
theorem RepsB.nf {b:Bool} {d:List D} {v:List V} (h:RepsB C P N b d v):RepsB C P N (b||D.flats d) d v:=by
 cases b with
 |true=>exact h
 |false =>
  cases e:D.flats d with
  |true=>exact Reps.flat d v e h
  |false=>exact h
theorem Adv.off (a:Adv P N H P' N' H') {p:Addr} {o:HO} (h:H p=some o) (hp:P p=none):P' p=none:=by
 cases q:P' p with
 |none=>rfl
 |some u =>
  rcases a.pn p (by rw[q];simp) with z | z
  ·exact absurd hp z
  ·rw[h] at z;cases z
theorem Adv.offN (a:Adv P N H P' N' H') {p:Addr} {o:HO} (h:H p=some o) (hn:N p=none):N' p=none:=by
 cases q:N' p with
 |none=>rfl
 |some u =>
  rcases a.nw p (by rw[q];simp) with z | z
  ·exact absurd hn z
  ·rw[h] at z;cases z
theorem RowR.mono {R R':Addr→List D→Prop} (k:∀a ds,R a ds→R' a ds):∀{dss:List (List D)} {ps:List Addr},RowR R dss ps→RowR R' dss ps
 |[],_,h=>h
 |_::_,_,⟨a,q,e,h1,h2⟩=>⟨a,q,e,k _ _ h1,RowR.mono k h2⟩
theorem RowR.sub {R R':Addr→List D→Prop}:∀{dss:List (List D)} {ps:List Addr},RowR R dss ps→(∀a∈ps,∀ds,R a ds→R' a ds)→RowR R' dss ps
 |[],_,h,_=>h
 |_::_,_,⟨a,q,e,h1,h2⟩,k=>by
  subst e
  exact⟨a,q,rfl,k a (by simp) _ h1,RowR.sub h2 fun b hb=>k b (List.mem_cons_of_mem _ hb)⟩
theorem RowR.all {R:Addr→List D→Prop}:∀{dss:List (List D)} {ps:List Addr},RowR R dss ps→∀a∈ps,∃ds,R a ds
 |[],_,h,a,m=>by cases h;cases m
 |ds::_,_,⟨b,q,e,h1,h2⟩,a,m=>by
  subst e
  rcases List.mem_cons.mp m with z | z
  ·rw[z];exact⟨ds,h1⟩
  ·exact RowR.all h2 a z
theorem qaW:∀{ps qs:List Addr},ps.map V.ref=qs.map V.ref→ps=qs
 |[],[],_=>rfl
 |[],_::_,h=>nomatch h
 |_::_,[],h=>nomatch h
 |p::ps,q::qs,h=>by
  simp only[List.map_cons,List.cons.injEq] at h
  obtain⟨h1,h2⟩:=h
  cases h1
  rw[qaW h2]
theorem SlR.held {C:Ctx} {P N H:Hp} {dss:List (List D)} {o:Option V} {a:Addr} (h:SlR C P N H (.row dss) o) (k:Held H (.row dss) o a):(∃xs,H a=some (.lst xs))∧P a=none∧N a=none∧C.B a=none:=by
 obtain⟨p,ps,rfl,h1,h2,h3,h4,h5,h6⟩:=h
 cases k with
 |rt=>exact⟨⟨_,h1⟩,h2,h3,h4⟩
 |it q m =>
  rw[h1] at q
  injection q with q
  injection q with q
  have:=qaW q
  subst this
  obtain⟨ds,xs,g1,g2,g3,g4,_⟩:=h5.all a m
  exact⟨⟨xs,g1⟩,g2,g3,g4⟩
theorem DctR.mono {R R':D→V→Prop} (k:∀d v,R d v→R' d v):∀{m:List (Int × D)} {es:List (Key × V)},DctR R m es→DctR R' m es
 |[],_,h=>h
 |_::_,_,⟨v,r,e,h1,h2⟩=>⟨v,r,e,k _ _ h1,DctR.mono k h2⟩
theorem DctR.adv {b:Bool} (hp:Same P P') (hn:Same N N') {m:List (Int × D)} {es:List (Key × V)} (h:DctR (RepB C P N b) m es):DctR (RepB C P' N' b) m es:=h.mono fun _ _=>RepB.adv hp hn
theorem SlR.adv (a:Adv P N H P' N' H') {s:Sl} {o:Option V} (h:SlR C P N H s o):SlR C P' N' H' s o:=by
 cases s with
 |non=>trivial
 |val d b =>
  obtain⟨v,h3,h4⟩:=h
  exact⟨v,h3,RepB.adv a.pp a.nn h4⟩
 |own ds b =>
  obtain⟨p,xs,h3,h4,h5,h6,h7,h8⟩:=h
  exact⟨p,xs,h3,a.hh _ _ h4,a.off h4 h5,a.offN h4 h6,h7,RepsB.adv a.pp a.nn h8⟩
 |slf c fs =>
  obtain⟨p,dx,xs,h3,h4,h5,h6,h7,h8,h9⟩:=h
  exact⟨p,dx,xs,h3,a.hh _ _ h4,a.off h4 h5,a.offN h4 h6,h7,h8,RepsB.adv a.pp a.nn h9⟩
 |fxd d k =>
  obtain⟨v,h3,h4,h5⟩:=h
  exact⟨v,h3,h4,RepB.adv a.pp a.nn h5⟩
 |dct m b =>
  obtain⟨p,es,h3,h4,h5,h6,h7,h8⟩:=h
  exact⟨p,es,h3,a.hh _ _ h4,a.off h4 h5,a.offN h4 h6,h7,h8.adv a.pp a.nn⟩
 |row dss =>
  obtain⟨p,ps,h3,h4,h5,h6,h7,h8,h9⟩:=h
  exact⟨p,ps,h3,a.hh _ _ h4,a.off h4 h5,a.offN h4 h6,h7,h8.mono fun b ds ⟨xs,g1,g2,g3,g4,g5,g6⟩=>⟨xs,a.hh _ _ g1,a.off g1 g2,a.offN g1 g3,g4,g5,RepsB.adv a.pp a.nn g6⟩,h9⟩
theorem SR.adv (S:SR C P N H ρ σ) (a:Adv P N H P' N' H'):SR C P' N' H' ρ σ where
 reg:=S.reg.adv a
 len:=S.len
 sl:=fun i s e=>by
  obtain⟨o,h1,h2⟩:=S.sl i s e
  exact⟨o,h1,h2.adv a⟩
 ap:=S.ap
 ad:=S.ad
 ar:=S.ar.heap fun i dss p e1 e2=>by
  obtain⟨o,z1,z2⟩:=S.sl i _ e1
  rw[z1] at e2;cases e2
  obtain⟨⟨xs,q⟩,_⟩:=z2.held .rt
  rw[q];exact a.hh _ _ q
theorem ERr.adv (a:Adv P N H P' N' H') {H0:Hp} {er:ER} {v:V} (h:ERr C P N H H0 er v):ERr C P' N' H' H0 er v:=by
 cases er with
 |val d b=>exact RepB.adv a.pp a.nn h
 |fre ds b =>
  obtain⟨p,xs,h3,h4,h5,h6,h7,h8⟩:=h
  exact⟨p,xs,h3,a.hh _ _ h4,h5,a.off h4 h6,a.offN h4 h7,RepsB.adv a.pp a.nn h8⟩
 |brw ds b =>
  obtain⟨p,xs,h3,h4,h5,h6,h7,h8⟩:=h
  exact⟨p,xs,h3,a.hh _ _ h4,a.off h4 h5,a.offN h4 h6,h7,RepsB.adv a.pp a.nn h8⟩
theorem ERs.adv (a:Adv P N H P' N' H') {H0:Hp}:∀{er:List ER} {v:List V},ERs C P N H H0 er v→ERs C P' N' H' H0 er v
 |[],_,h=>h
 |e::es,_,⟨v,r,h1,h2,h3⟩=>⟨v,r,h1,h2.adv a,ERs.adv a h3⟩
theorem ERr.from {H0 H1:Hp} (e:Same H1 H0) {er:ER} {v:V} (h:ERr C P N H H0 er v):ERr C P N H H1 er v:=by
 cases er with
 |val d b=>exact h
 |fre ds b =>
  obtain⟨p,xs,h3,h4,h5,h6⟩:=h
  exact⟨p,xs,h3,h4,e.free h5,h6⟩
 |brw ds b=>exact h
theorem ERs.from {H0 H1:Hp} (e:Same H1 H0):∀{er:List ER} {v:List V},ERs C P N H H0 er v→ERs C P N H H1 er v
 |[],_,h=>h
 |_::_,_,⟨v,r,h1,h2,h3⟩=>⟨v,r,h1,h2.from e,ERs.from e h3⟩
theorem ERr.freeze {P1 N1 H0:Hp} {er:ER} {v:V} (a:Adv P1 N1 H0 P N H) (h:ERr C P N H H0 er v):∃N'',Adv P1 N1 H0 P N'' H∧ERr C P N'' H H0 er.frz v:=by
 cases er with
 |val d b=>exact⟨N,a,h⟩
 |brw d b=>exact⟨N,a,h⟩
 |fre ds b =>
  obtain⟨p,xs,rfl,h1,h2,h3,h4,h5⟩:=h
  have sn:Same N (upd N p (.lst xs)):=qaX h4
  exact⟨upd N p (.lst xs),a.holdN h2 h1 h4 h3,p,xs,rfl,.inl upd_same,RepsB.adv (Cm.Same.refl _) sn h5⟩
def ERw (C:Ctx) (P N H:Hp) (d:D) (b:Bool) (v:V):Prop:=
 match d with
 |.lst ds=>∃p xs,v=.ref p∧SqL C.G.K H p xs∧RepsB C P N b ds xs
 |d=>RepB C P N b d v
theorem ERr.w (r:Reg C P N H) {H0:Hp} {er:ER} {v:V} (h:ERr C P N H H0 er v):ERw C P N H er.d er.b v:=by
 cases er with
 |val d b =>
  cases d with
  |lst ds =>
   obtain⟨p,xs,e,h1,h2⟩:=h
   exact⟨p,xs,e,LNb.seq r.pH r.nH r.rH _ _ h1,h2⟩
  |_=>exact h
 |fre ds b =>
  obtain⟨p,xs,h3,h4,_,_,_,h5⟩:=h
  exact⟨p,xs,h3,.inl (.inl h4),h5⟩
 |brw ds b =>
  obtain⟨p,xs,h3,h4,_,_,_,h5⟩:=h
  exact⟨p,xs,h3,.inl (.inl h4),h5⟩
end
def spD (G:Glo) (n:Nat) (g:List D→RE ER):Sp:=fun vs H Q E=>∃P R ds,Same P H∧(Same R H∧qb0 H∧TF P∧TF R)∧Reps G P (SqL G.K R) ds vs∧ds.length=n∧match g ds with
 |.bad=>False
 |.ok er=>∀v H' P' N',Adv P (fun _=>none) H P' N' H'→ERr ⟨G,R,H,P,fun _ _ _ _=>False,0,fun _=>none⟩ P' N' H' H er v→Q v H'
 |.exc c fs=>∀d H' P' N',Adv P (fun _=>none) H P' N' H'→ExR ⟨G,R,H,P,fun _ _ _ _=>False,0,fun _=>none⟩ P' N' H' fs d→E (.ref (G.ca c)) d H'
theorem qh4 {G:Glo} {n:Nat} {g:List D→RE ER} {vs:List V} {H:Hp} {Q:VK} {E:XK} (h:spD G n g vs H Q E):vs.length=n:=by
 obtain⟨P,R,ds,_,_,h1,h2,_⟩:=h
 rw[h1.length,h2]
def spO (G:Glo) (n q:Nat) (g:List D→RE ER):Sp:=fun vs H Q _=>∃p xs H0 P ds dq,vs[q]? = some (.ref p)∧H=upd H0 p (.lst xs)∧H0 p=none∧(Same P H0∧qb0 H0∧TF P)∧ds[q]? = some (.lst dq)∧D.flats dq=true∧Reps G P (fun _ _=>False) dq xs∧ds.length=n∧vs.length=n ∧
  (∀i d,i≠q→ds[i]? = some d→d.flat=true∧∃v,vs[i]? = some v∧Rep G P (fun _ _=>False) d v)∧match g ds with
 |.ok er=>∀v H' P' N',Adv P (fun _=>none) H0 P' N' H'→ERr ⟨G,fun _=>none,H0,P,fun _ _ _ _=>False,0,fun _=>none⟩ P' N' H' H0 er v→Q v H'
 |_=>False
def spI (G:Glo) (c n:Nat) (g:List D→RE (List D)):Sp:=fun vs H Q E=>∃x dx H0 P R ds us,vs=.ref x::us∧H=upd (upd H0 dx (.own x)) x (.ins (G.ca c) dx [])∧H0 x=none∧H0 dx=none∧Same P H0∧(Same R H0∧qb0 H0∧TF P∧TF R)∧Reps G P (SqL G.K R) ds us∧ds.length=n∧match g ds with
 |.bad=>False
 |.ok fs=>∀H' P',HX H0 H'→(Same P P'∧(TF P→TF P'))→Same P' H'→(∀a,P' a≠none→P a≠none∨H0 a=none)→Rep G P' (fun _ _=>False) (.ins c fs) (.ref x)→Q .non H'
 |.exc c fs=>∀d H' P' N',Adv P (fun _=>none) H0 P' N' H'→ExR ⟨G,R,H0,P,fun _ _ _ _=>False,0,fun _=>none⟩ P' N' H' fs d→E (.ref (G.ca c)) d H'
end Cm
namespace Cm
open PySem PySem.Spec PyProof.Rows L2
def qaB (s:List Nat):Str:=⟨s.toArray⟩
inductive Bop where
 |add | sub | mul | fdv | mdl | pow | shl | shr | and | or
inductive Cop where
 |eq | ne | lt | le | gt | ge | isin | nin
inductive Pri where
 |len | abs | min2 | max2 | min1 | max1 | sum | sorted | all | any | list | tupl | int | str | dmd
inductive Bme where
 |split | join | find
inductive Ty where
 |bool | int | str | list | tuple
mutual
inductive Ex where
 |nev
 |var (i:Nat)
 |cint (i:Int)
 |cbl (b:Bool)
 |bin (o:Bop) (a b:Ex)
 |cmp (o:Cop) (a b:Ex)
 |bop (and:Bool) (es:Exs)
 |bnot (a:Ex)
 |tup (es:Exs)
 |lst (es:Exs)
 |idx (a i:Ex)
 |call (f:Nat) (es:Exs)
 |pri (p:Pri) (es:Exs)
 |isi (a:Ex) (t:Ty)
 |lc (own:List Nat) (it:Itx) (tg:List Nat) (cnd:Tes) (e:Ex)
 |inxL (o a:Ex)
 |pk (e:Ex)
inductive Te where
 |val (e:Ex)
 |bop (and:Bool) (ts:Tes)
 |not (t:Te)
inductive Tes where
 |nil
 |cons (t:Te) (ts:Tes)
inductive Exs where
 |nil
 |cons (e:Ex) (es:Exs)
inductive Itx where
 |any (e:Ex)
 |rng (es:Exs)
 |zp (a b:Ex)
 |en (a:Ex)
 |rv (a:Ex)
 |rvr (a:Ex)
end
@[simp] def ok (d:D):RE ER:=.ok (.val d true)
def qg9 (i j:Int):Prop:=(-(2 ^ 64)<i∧i<2 ^ 64)∨(-(2 ^ 64)<j∧j<2 ^ 64)
instance (i j:Int):Decidable (qg9 i j):=by unfold qg9;infer_instance
def qgY (j:Int):Prop:=j≠0∧j.natAbs<1073741824
instance (j:Int):Decidable (qgY j):=by unfold qgY;infer_instance
def qgs (i j:Int):Prop:=0≤j∧j≤1000000∧i.natAbs<2 ^ 64
instance (i j:Int):Decidable (qgs i j):=by unfold qgs;infer_instance
def LIM:Nat:=16777216
def gd {α:Type} (b:Bool) (r:RE α):RE α:=match b with
 |true=>r
 |false=>.bad
@[simp] theorem qhz {α:Type} (r:RE α):gd true r=r:=rfl
theorem qdn {α:Type} (b:Bool) (r:RE α):gd b r=if b=true then r else .bad:=by cases b<;>rfl
/- (they look at the first numeral alone: where it isn't known they stand still) -/
def qht (i j:Int):Bool:=Nat.ble i.natAbs 18446744073709551615||(Nat.ble j.natAbs 18446744073709551615||Nat.ble (Builtin.Int.intBits i+Builtin.Int.intBits j) 134217728)
def nzB (j:Int):Bool:=Nat.ble 1 j.natAbs
def qkr (j:Int):Bool:=nzB j&&Nat.ble j.natAbs 1073741823
def dmB (j:Int):Bool:=Nat.ble 1 j.toNat&&Nat.ble j.natAbs 1073741823
def nnB (j:Int):Bool:=match j with
 |.ofNat _=>true
 |.negSucc _=>false
def qiZ (i j:Int):Bool:=nnB j&&(Nat.ble j.natAbs 1000000&&Nat.ble i.natAbs 18446744073709551615)
def leB (n:Nat):Bool:=Nat.ble n LIM
def qi1 (n:Nat) (k:Int):Bool:=Nat.ble k.natAbs 9223372036854775807&&leB (n*k.toNat)
def qkk (i:Int):Bool:=Nat.ble i.natAbs.log2 1919
def qkm (t s:Nat):Bool:=Nat.ble 1 t&&leB (s+2)
theorem qaT (j:Int):(nzB j=true)=(j≠0):=by
 unfold nzB
 rw[Nat.ble_eq]
 exact propext ⟨fun h=>by omega,fun h=>by omega⟩
theorem qai (n:Nat):(leB n=true)=(n≤LIM):=by
 unfold leB
 rw[Nat.ble_eq]
theorem qa3 (j:Int):(nnB j=true)=(0≤j):=by
 cases j with
 |ofNat n=>exact propext ⟨fun _=>Int.natCast_nonneg n,fun _=>rfl⟩
 |negSucc n=>exact propext ⟨fun h=>(by cases h),fun h=>(by omega)⟩
theorem qbk (i j:Int):(qht i j=true)=(qg9 i j∨CMulX i j):=by
 unfold qht qg9 CMulX
 rw[Bool.or_eq_true,Bool.or_eq_true,Nat.ble_eq,Nat.ble_eq,Nat.ble_eq]
 refine propext ⟨fun h=>?_,fun h=>?_⟩
 ·rcases h with h | h | h
  ·exact .inl (.inl (by omega))
  ·exact .inl (.inr (by omega))
  ·exact .inr (by omega)
 ·rcases h with(h | h) | h
  ·exact .inl (by omega)
  ·exact .inr (.inl (by omega))
  ·exact .inr (.inr (by omega))
theorem qbi (j:Int):(qkr j=true)=qgY j:=by
 unfold qkr qgY
 rw[Bool.and_eq_true,qaT,Nat.ble_eq]
 exact propext ⟨fun h=>⟨h.1,by omega⟩,fun h=>⟨h.1,by omega⟩⟩
theorem qii (j:Int):(dmB j=true)=(0<j∧j<1073741824):=by
 unfold dmB
 rw[Bool.and_eq_true,Nat.ble_eq,Nat.ble_eq]
 exact propext ⟨fun h=>by omega,fun h=>by omega⟩
theorem qbj (i j:Int):(qiZ i j=true)=qgs i j:=by
 unfold qiZ qgs
 rw[Bool.and_eq_true,Bool.and_eq_true,qa3,Nat.ble_eq,Nat.ble_eq]
 exact propext ⟨fun h=>⟨h.1,by omega,by omega⟩,fun h=>⟨h.1,by omega,by omega⟩⟩
theorem qfK {n:Nat} {k:Int} (h:qi1 n k=true):-(2 ^ 63)≤k∧k<2 ^ 63∧n*k.toNat≤LIM:=by
 unfold qi1 at h
 rw[Bool.and_eq_true,qai,Nat.ble_eq] at h
 exact⟨by omega,by omega,h.2⟩
theorem qbn (i:Int):(qkk i=true)=(i.natAbs.log2<1920):=by
 unfold qkk
 rw[Nat.ble_eq]
 exact propext ⟨fun h=>by omega,fun h=>by omega⟩
theorem qbo (t s:Nat):(qkm t s=true)=(t≠0∧s+2≤LIM):=by
 unfold qkm
 rw[Bool.and_eq_true,qai,Nat.ble_eq]
 exact propext ⟨fun h=>⟨by omega,h.2⟩,fun h=>⟨by omega,h.2⟩⟩
@[simp] def evB (o:Bop) (x y:D) (b:Bool):RE ER:=
 match o with
 |.add=>match x,y with
  |.int i,.int j=>ok (.int (i+j))
  |.str s,.str t=>gd (leB (s.length+t.length)) (ok (.str (s++t)))
  |.lst xs,.lst ys=>gd (leB (xs.length+ys.length)) (.ok (.fre (xs++ys) b))
  |.tup xs,.tup ys=>gd (leB (xs.length+ys.length)&&(Nat.ble 1 xs.length&&Nat.ble 1 ys.length)) (.ok (.val (.tup (xs++ys)) b))
  |_,_=>.bad
 |.sub=>match x,y with
  |.int i,.int j=>ok (.int (i - j))
  |_,_=>.bad
 |.mul=>match x,y with
  |.int i,.int j=>gd (qht i j) (ok (.int (i*j)))
  |.lst xs,.int k=>gd (qi1 xs.length k) (.ok (.fre (List.replicate k.toNat xs).flatten b))
  |.str s,.int k=>gd (qi1 s.length k&&(Nat.ble 1 k.toNat&&Nat.ble 1 s.length)) (ok (.str (List.replicate k.toNat s).flatten))
  |_,_=>.bad
 |.fdv=>match x,y with
  |.int i,.int j=>gd (qkr j) (ok (.int (i.fdiv j)))
  |_,_=>.bad
 |.mdl=>match x,y with
  |.int i,.int j=>gd (nzB j) (ok (.int (i.fmod j)))
  |_,_=>.bad
 |.pow=>match x,y with
  |.int i,.int j=>gd (qiZ i j) (ok (.int (i ^ j.toNat)))
  |_,_=>.bad
 |.shl=>match x,y with
  |.int i,.int j=>gd (qiZ i j) (ok (.int (i*2 ^ j.toNat)))
  |_,_=>.bad
 |.shr=>match x,y with
  |.int i,.int j=>gd (nnB j) (ok (.int (i / 2 ^ j.toNat)))
  |_,_=>.bad
 |.and=>match x,y with
  |.int i,.int j=>ok (.int (Builtin.bitAnd i j))
  |_,_=>.bad
 |.or=>match x,y with
  |.int i,.int j=>ok (.int (Builtin.bitOr i j))
  |_,_=>.bad
def qeU (x y:D):RE Bool:=
 match x,y with
 |.int i,.int j=>.ok (decide (i=j))
 |.str s,.str t=>.ok (decide (s=t))
 |.bl a,.bl b=>.ok (a == b)
 |x,y=>if (x.fit 64&&y.fit 64)=true then .ok (x.eqb y) else .bad
def qhm (x y:D):RE Bool:=
 match y with
 |.lst ys=>if (x.fit 64&&(D.lst ys).fit 64)=true then .ok (ys.any fun z=>z.eqb x) else .bad
 |.tup ys=>if (x.fit 0&&D.fits ys 0)=true then .ok (ys.any fun z=>z.eqb x) else .bad
 |.str t=>match x with
  |.str [c]=>.ok (decide (c∈t))
  |_=>.bad
 |_=>.bad
@[simp] def evC (o:Cop) (x y:D):RE Bool:=
 match o with
 |.eq=>qeU x y
 |.ne=>(qeU x y).bind fun b=>.ok (!b)
 |.isin=>qhm x y
 |.nin=>(qhm x y).bind fun b=>.ok (!b)
 |.lt=>match x,y with
  |.int i,.int j=>.ok (decide (i<j))
  |_,_=>.bad
 |.le=>match x,y with
  |.int i,.int j=>.ok (decide (i≤j))
  |_,_=>.bad
 |.gt=>match x,y with
  |.int i,.int j=>.ok (decide (j<i))
  |_,_=>.bad
 |.ge=>match x,y with
  |.int i,.int j=>.ok (decide (j≤i))
  |_,_=>.bad
@[simp] def qcv (x:D):RE Bool:=
 match x with
 |.bl b=>.ok b
 |.int i=>.ok (i != 0)
 |.non=>.ok false
 |.lst xs=>.ok (!xs.isEmpty)
 |.tup xs=>.ok (!xs.isEmpty)
 |_=>.bad
@[simp] def qhC (a i:D) (b:Bool):RE ER:=
 match a,i with
 |.lst xs,.int i=>match atI xs i with
  |some x=>.ok (.val x (b||x.flat))
  |none=>.bad
 |.tup xs,.int i=>match atI xs i with
  |some x=>.ok (.val x (b||x.flat))
  |none=>.bad
 |.str s,.int i=>gd (leB s.length) (match atI s i with
  |some c=>ok (.str [c])
  |none=>.bad)
 |_,_=>.bad
def qeX {α:Type} (xs:List α) (lo hi:Option Int):List α:=(xs.drop (HT.sIx xs.length 0 lo)).take (HT.sIx xs.length xs.length hi - HT.sIx xs.length 0 lo)
@[simp] def qmT (a:D) (lo hi:Option Int) (b:Bool):RE ER:=
 match a with
 |.lst xs=>.ok (.fre (qeX xs lo hi) b)
 |.tup xs=>gd (!(decide (HT.sIx xs.length 0 lo=0)&&decide (HT.sIx xs.length xs.length hi=xs.length))) (.ok (.val (.tup (qeX xs lo hi)) b))
 |.str s=>gd (leB s.length) (ok (.str (qeX s lo hi)))
 |_=>.bad
def qay:List D→Option (List Int)
 |[]=>some []
 |.int i::ds=>(qay ds).map (i :: ·)
 |_::_=>none
def qcH:List D→Option (List Bool)
 |[]=>some []
 |.bl i::ds=>(qcH ds).map (i :: ·)
 |_::_=>none
def qiL:List D→Option (List (List Nat))
 |[]=>some []
 |.str i::ds=>(qiL ds).map (i :: ·)
 |_::_=>none
def qfk:List Int→Int
 |[]=>0
 |[x]=>x
 |x::xs=>max x (qfk xs)
def qfn:List Int→Int
 |[]=>0
 |[x]=>x
 |x::xs=>min x (qfn xs)
def qiG (x:Int):List Int→List Int
 |[]=>[x]
 |y::ys=>if x≤y then x::y::ys else y::qiG x ys
def qc3:List Int→List Int
 |[]=>[]
 |x::xs=>qiG x (qc3 xs)
def qk3:List Int→List Int→Bool
 |[],[]=>false
 |[],_::_=>true
 |_::_,[]=>false
 |a::as,b::bs=>if a=b then qk3 as bs else decide (a<b)
def qlJ (x:List Int):List (List Int)→List (List Int)
 |[]=>[x]
 |y::ys=>if qk3 y x=true then y::qlJ x ys else x::y::ys
def qfj:List (List Int)→List (List Int)
 |[]=>[]
 |x::xs=>qlJ x (qfj xs)
def liD:D→Option (List Int)
 |.lst ds=>qay ds
 |_=>none
def qlL:List D→Option (List (List Int))
 |[]=>some []
 |d::ds=>match liD d with
  |some n=>(qlL ds).map (n :: ·)
  |none=>none
def liV (n:List Int):D:=.lst (n.map D.int)
def qlS (x:D) (b:Bool):RE ER:=match x with
 |.lst xs=>match qlL xs with
  |some ls=>.ok (.fre ((qfj ls).map liV) b)
  |none=>.bad
 |_=>.bad
def qlr (k:Bool) (ns:List Int) (d:Int):Int:=match ns with
 |[]=>d
 |n::ns=>if k=true then qfk (n::ns) else qfn (n::ns)
def qlZ (k:Bool) (x y:D):RE ER:=match x with
 |.lst xs=>match qay xs with
  |some ns=>match y with
   |.int d=>ok (.int (qlr k ns d))
   |_=>.bad
  |none=>.bad
 |_=>.bad
@[simp] def evP (p:Pri) (es:List ER):RE ER:=
 match p,es with
 |.len,[e]=>match e.d with
  |.lst xs=>ok (.int xs.length)
  |.tup xs=>ok (.int xs.length)
  |.str s=>gd (leB s.length) (ok (.int s.length))
  |_=>.bad
 |.abs,[e]=>match e.d with
  |.int i=>ok (.int (if i<0 then -i else i))
  |_=>.bad
 |.min2,[e,f]=>match e.d,f.d with
  |.int i,.int j=>ok (.int (if j<i then j else i))
  |_,_=>.bad
 |.max2,[e,f]=>match e.d,f.d with
  |.int i,.int j=>ok (.int (if j>i then j else i))
  |_,_=>.bad
 |.min1,[e]=>match e.d with
  |.lst xs=>match qay xs with
   |some (n::ns)=>ok (.int (qfn (n::ns)))
   |_=>.bad
  |_=>.bad
 |.max1,[e]=>match e.d with
  |.lst xs=>match qay xs with
   |some (n::ns)=>ok (.int (qfk (n::ns)))
   |_=>.bad
  |_=>.bad
 |.sum,[e]=>match e.d with
  |.lst xs=>match qay xs with
   |some ns=>ok (.int ns.sum)
   |none=>.bad
  |_=>.bad
 |.sorted,[e]=>match e.d with
  |.lst xs=>match qay xs with
   |some ns=>.ok (.fre ((qc3 ns).map D.int) true)
   |none=>.bad
  |_=>.bad
 |.all,[e]=>match e.d with
  |.lst xs=>match qcH xs with
   |some bs=>ok (.bl (bs.all id))
   |none=>.bad
  |_=>.bad
 |.any,[e]=>match e.d with
  |.lst xs=>match qcH xs with
   |some bs=>ok (.bl (bs.any id))
   |none=>.bad
  |_=>.bad
 |.list,[e]=>match e.d with
  |.lst xs=>.ok (.fre xs (e.b||D.flats xs))
  |.tup xs=>.ok (.fre xs (e.b||D.flats xs))
  |_=>.bad
 |.tupl,[e]=>match e.d with
  |.lst xs=>.ok (.val (.tup xs) (e.b||D.flats xs))
  |_=>.bad
 |.int,[e]=>match e.d with
  |.int i=>ok (.int i)
  |.bl c=>ok (.int (if c then 1 else 0))
  |.str s=>match intText? (qaB s) with
   |some n=>gd (Nat.ble s.length 640) (ok (.int n))
   |none=>.bad
  |_=>.bad
 |.dmd,[e,f]=>match e.d,f.d with
  |.int i,.int j=>gd (dmB j) (ok (.tup [.int (i / j),.int (i % j)]))
  |_,_=>.bad
 |.str,[e]=>match e.d with
  |.int i=>gd (qkk i) (ok (.str (toString i:Str).cps.toList))
  |_=>.bad
 |_,_=>.bad
def idxD (y:D):List D→Option Nat
 |[]=>none
 |x::xs=>if x.eqb y=true then some 0 else (idxD y xs).map (· + 1)
def qcK (xs:List D) (y:D):RE ER:=
 if (y.fit 64&&(D.lst xs).fit 64)=true then (match idxD y xs with
  |some j=>ok (.int j)
  |none=>.bad) else .bad
def qlc (x:Int):List Int→List Int
 |[]=>[x]
 |y::ys=>if x<y then x::y::ys else if x=y then y::ys else y::qlc x ys
def qjD:List Int→List Int
 |[]=>[]
 |x::xs=>qlc x (qjD xs)
def qlx (x:D):RE ER:=match x with
 |.lst xs=>match qay xs with
  |some ns=>gd (Nat.ble ns.length 4000&&Nat.ble (qjD ns).length 63) (.ok (.fre ((qjD ns).map D.int) true))
  |none=>.bad
 |_=>.bad
def qmo (x:D):RE ER:=match x with
 |.bl b=>.ok (.val (.bl b) true)
 |_=>.bad
def qjy (ks ns:List Int):List Int:=ns.mergeSort fun a b=>decide (ks.getD a.toNat 0≤ks.getD b.toNat 0)
def qlt (x y:D):RE ER:=match x with
 |.lst xs=>match qay xs with
  |some ns=>match y with
   |.lst zs=>match qay zs with
    |some ks=>gd (leB ns.length&&(leB ks.length&&decide (∀n∈ns,0≤n∧n<ks.length))) (.ok (.fre ((qjy ks ns).map D.int) true))
    |none=>.bad
   |_=>.bad
  |none=>.bad
 |_=>.bad
def slD:Option Sl→RE D
 |some (.val d _)=>.ok d
 |some (.fxd d _)=>.ok d
 |_=>.bad
def qld (x:D):RE ER:=match x with
 |.lst xs=>match qay xs with
  |some ns=>gd (leB ns.length) (.ok (.fre (ns.reverse.map D.int) true))
  |none=>.bad
 |_=>.bad
def qlC (z:Int):List Int→Option Nat
 |[]=>none
 |s::ss=>if s=z then some 0 else (qlC z ss).map (· + 1)
def qkV (z:List Nat):List (List Nat)→Option Nat
 |[]=>none
 |s::ss=>if s=z then some 0 else (qkV z ss).map (· + 1)
def qll (ss:List (List Nat)) (y:D):RE ER:=match y with
 |.str z=>(match qkV z ss with
  |some j=>ok (.int j)
  |none=>.bad)
 |_=>.bad
def qmI:D→Option (List (List Nat))
 |.tup xs=>qiL xs
 |_=>none
def qk0 (xs:List D) (y:D):RE ER:=
 match qay xs with
 |some ns=>match y with
  |.int k=>ok (.int (ns.count k:Nat))
  |_=>.bad
 |none=>.bad
def qjb (s:List Nat) (y:D):RE ER:=
 match y with
 |.str t=>(match Builtin.Str.occurrences (qaB s) (qaB t) 0 s.length 1 with
  |j::_=>ok (.int (j:Nat))
  |[]=>.bad)
 |_=>.bad
def qlk (ns:List Int):Nat:=(PyProof.Rows.firstMet (fun i=>ns.getD i 0) ns.length).length
@[simp] def qly (x:D):RE ER:=
 match x with
 |.lst xs=>match qay xs with
  |some ns=>gd (Nat.ble ns.length 1000) (ok (.int (qlk ns)))
  |none=>.bad
 |_=>.bad
@[simp] def evM (m:Bme) (s:List Nat) (y:D):RE ER:=
 match m with
 |.split=>match y with
  |.str t=>gd (qkm t.length s.length) (.ok (.fre ((Txt.split (qaB s) (qaB t)).map fun z=>.str z.cps.toList) true))
  |_=>.bad
 |.join=>match y with
  |.lst xs=>match qiL xs with
   |some ss=>gd (leB ((ss.map List.length).sum+ss.length*s.length)) (ok (.str (Txt.join (qaB s) (ss.map qaB)).cps.toList))
   |none=>.bad
  |_=>.bad
 |.find=>match y with
  |.str t=>ok (.int (Txt.find (qaB s) (qaB t)))
  |_=>.bad
@[simp] def qi2 (x:D) (t:Ty):RE ER:=
 match x,t with
 |.bl _,.bool=>ok (.bl true)
 |.bl _,.int=>ok (.bl true)
 |.int _,.int=>ok (.bl true)
 |.str _,.str=>ok (.bl true)
 |.lst _,.list=>ok (.bl true)
 |.tup _,.tuple=>ok (.bl true)
 |.ins _ _,_=>.bad
 |.exc _ _,_=>.bad
 |_,_=>ok (.bl false)
def qck (lo c:Int) (n:Nat):List Int:=(List.range n).map fun(i:Nat)=>lo+(i:Int)*c
def inB (i:Int):Prop:=-(2 ^ 62)≤i∧i<2 ^ 62
instance (i:Int):Decidable (inB i):=by unfold inB;infer_instance
def qi4 (i j c:Int):Nat:=(Builtin.Range.rangeSize i j c).toNat
def qkh (i:Int):Bool:=Nat.ble i.natAbs 4611686018427387903
def qgl (n:Int):Bool:=qkh n&&leB n.toNat
def qko (i j:Int):Bool:=qkh i&&(qkh j&&leB (j - i).toNat)
def qks (i j c:Int):Bool:=nzB c&&(Nat.ble c.natAbs 1073741823&&(Builtin.Range.small i j c&&(nnB (Builtin.Range.rangeSize i j c)&&leB (qi4 i j c))))
theorem qef {i:Int} (h:qkh i=true):inB i:=by
 unfold qkh at h
 rw[Nat.ble_eq] at h
 exact⟨by omega,by omega⟩
theorem qfV {n:Int} (h:qgl n=true):inB n∧n.toNat≤LIM:=by
 unfold qgl at h
 rw[Bool.and_eq_true,qai] at h
 exact⟨qef h.1,h.2⟩
theorem qhN {i j:Int} (h:qko i j=true):inB i∧inB j∧(j - i).toNat≤LIM:=by
 unfold qko at h
 rw[Bool.and_eq_true,Bool.and_eq_true,qai] at h
 exact⟨qef h.1,qef h.2.1,h.2.2⟩
theorem qbl (i j c:Int):(qks i j c=true)=(c≠0∧c.natAbs<1073741824∧Builtin.Range.small i j c=true∧0≤Builtin.Range.rangeSize i j c∧qi4 i j c≤LIM):=by
 unfold qks
 rw[Bool.and_eq_true,Bool.and_eq_true,Bool.and_eq_true,Bool.and_eq_true,qaT,Nat.ble_eq,qa3,qai]
 exact propext ⟨fun h=>⟨h.1,by omega,h.2.2⟩,fun h=>⟨h.1,by omega,h.2.2⟩⟩
@[simp] def qc4 (es:List ER):RE (List Int):=
 match es with
 |[a]=>match a.d with
  |.int n=>gd (qgl n) (.ok (qck 0 1 n.toNat))
  |_=>.bad
 |[a,b]=>match a.d,b.d with
  |.int i,.int j=>gd (qko i j) (.ok (qck i 1 (j - i).toNat))
  |_,_=>.bad
 |[a,b,c]=>match a.d,b.d,c.d with
  |.int i,.int j,.int c=>gd (qks i j c) (.ok (qck i c (qi4 i j c)))
  |_,_,_=>.bad
 |_=>.bad
structure Env where
 fn:List (Str × (List D→RE ER))
 gc:List (Str × D)
 mn:List Str
 mt:Nat→Nat→Option (List D→RE ER)
 fs:List Str
 fi:Nat→Nat→Option Nat
 nw:List (Nat × (List D→RE (List D))):=[]
 ck:List (Nat→Option Bool):=[]
 ik:List (Nat→Option Bool):=[]
 xk:List Nat:=[]
 dc:List (Str × List (List Nat × Option D)):=[]
 fo:List (Nat × (List D→RE ER)):=[]
def qa8:List (Nat × Nat × (List D→RE ER))→Nat→Nat→Option (List D→RE ER)
 |[],_,_=>none
 |t::r,c,m=>if t.1=c then (if t.2.1=m then some t.2.2 else qa8 r c m) else qa8 r c m
def qbb:List (Nat × Nat × Nat)→Nat→Nat→Option Nat
 |[],_,_=>none
 |t::r,c,m=>if t.1=c then (if t.2.1=m then some t.2.2 else qbb r c m) else qbb r c m
@[simp] def qaQ (k:Bool) (er:ER):RE ER:=
 match k with
 |false=>match er with
  |.brw _ _=>.bad
  |.val d b=>.ok (.val d (b||d.flat))
  |.fre ds b=>.ok (.fre ds b)
 |true=>match er with
  |.val d b=>if (b||d.flat)=true then .ok (.val d true) else .bad
  |.fre ds b=>if (b||D.flats ds)=true then .ok (.fre ds true) else .bad
  |.brw _ _=>.bad
def qio:List ER→Option (List (List Int))
 |[]=>some []
 |.brw ds _::es=>match qay ds with
  |some ns=>(qio es).map (ns :: ·)
  |none=>none
 |.val _ _::es=>qio es
 |.fre _ _::es=>qio es
mutual
def qhl (os:List (List Int)):D→Bool
 |.lst ds=>match qay ds with
  |some ns=>!decide (ns∈os)
  |none=>false
 |.tup ds=>qgC os ds
 |.ins _ _=>false
 |.exc _ _=>false
 |.non=>true
 |.bl _=>true
 |.int _=>true
 |.str _=>true
def qgC (os:List (List Int)):List D→Bool
 |[]=>true
 |d::ds=>qhl os d&&qgC os ds
end
def qnh (os:List (List Int)) (er:ER):RE ER:=match er with
 |.val d _=>if qhl os d=true then .ok (.val d d.flat) else .bad
 |_=>.bad
@[simp] def wipeS (ρ:List Sl):List Nat→List Sl
 |[]=>ρ
 |v::vs=>(wipeS ρ vs).set v .non
@[simp] def qdu:List Nat→List D→Bool→List Sl→Option (List Sl)
 |[],[],_,ρ=>some ρ
 |i::is,d::ds,b,ρ=>qdu is ds b (ρ.set i (.val d (b||d.flat)))
 |_,_,_,_=>none
@[simp] def qaV (tg:List Nat) (x:D) (b:Bool) (ρ:List Sl):Option (List Sl):=
 match tg with
 |[i]=>some (ρ.set i (.val x (b||x.flat)))
 |tg=>match x with
  |.tup ds=>qdu tg ds b ρ
  |.lst ds=>qdu tg ds b ρ
  |_=>none
def lcl (f:D→RE (Option (D × Bool))):List D→RE (List D × Bool)
 |[]=>.ok ([],true)
 |x::xs=>(f x).bind fun r=>(lcl f xs).bind fun q=>match r with
  |none=>.ok q
  |some y=>.ok (y.1::q.1,y.2&&q.2)
@[simp] def noX {α:Type}:RE α→RE α
 |.exc _ _=>.bad
 |r=>r
@[simp] def dis (f:List D→Bool→ER) (es:List ER):RE ER:=if (es.all ER.isV)=true then .ok (f (es.map ER.d) (es.all ER.b)) else .bad
structure Wk where
 xs:List D
 b:Bool
 own:Bool
@[simp] def qdq (e:ER):RE Wk:=
 match e.d with
 |.lst xs=>.ok ⟨xs,e.b,e.isB⟩
 |.tup xs=>.ok ⟨xs,e.b,false⟩
 |.str s=>.ok ⟨s.map fun c=>.str [c],true,false⟩
 |_=>.bad
def qkG:List (Option (Nat→Option Bool))→Nat→Option Bool
 |[],_=>some false
 |none::_,_=>none
 |some g::r,c=>match g c with
  |some true=>some true
  |some false=>qkG r c
  |none=>none
def qlA (cks:List (Option (Nat→Option Bool))) (x:D):RE ER:=match x with
 |.exc c []=>match qkG cks c with
  |some b=>ok (.bl b)
  |none=>.bad
 |_=>.bad
def qmE (ck ik:Option (Nat→Option Bool)) (x:D):RE ER:=
 match x with
 |.exc c fs=>match fs with
  |[]=>match ck with
   |some g=>match g c with
    |some b=>ok (.bl b)
    |none=>.bad
   |none=>.bad
  |_=>.bad
 |.ins c _=>match ik with
  |some g=>match g c with
   |some b=>ok (.bl b)
   |none=>.bad
  |none=>.bad
 |_=>.bad
def pkS:Sl→Sl
 |.row dss=>.val (.lst (dss.map D.lst)) true
 |s=>s
def frz (z:Bool) (ρ:List Sl):List Sl:=if z=true then ρ.map pkS else ρ
def pkR:RE ER→RE ER
 |.bad=>.bad
 |.exc c fs=>if D.flats fs=true then .exc c fs else .bad
 |.ok er=>match er with
  |.val d _=>if d.flat=true then .ok (.val d true) else .bad
  |.fre ds _=>if D.flats ds=true then .ok (.fre ds true) else .bad
  |.brw _ _=>.bad
def qgj {α:Type} (k:Int):List (Int × α)→Option α
 |[]=>none
 |e::r=>if e.1=k then some e.2 else qgj k r
def qkW {α:Type} (k:Int) (x:α) (m:List (Int × α)):List (Int × α):=m.map fun e=>if e.1=k then (e.1,x) else e
def qkw {α:Type} (k:Int) (x:α) (m:List (Int × α)):List (Int × α):=if (qgj k m).isSome=true then qkW k x m else m++[(k,x)]
def qlw (m:List (Int × D)) (n:Bool) (x:D):RE ER:=match x with
 |.int k=>ok (.bl ((qgj k m).isSome == n))
 |_=>.bad
def qme (m:List (Int × D)) (b:Bool) (x:D):RE ER:=match x with
 |.int k=>match qgj k m with
  |some d=>.ok (.val d (b||d.flat))
  |none=>.bad
 |_=>.bad
def qlV (t:List (List Nat × Option D)) (n:Bool) (x:D):RE ER:=
 match x with
 |.str s=>match t.lookup s with
  |some o=>ok (.bl (o.isSome == n))
  |none=>.bad
 |_=>.bad
def qmu (t:List (List Nat × Option D)) (x:D):RE ER:=
 match x with
 |.str s=>match t.lookup s with
  |some (some d)=>ok d
  |_=>.bad
 |_=>.bad
def upT (s:List Nat):List Nat:=(PySem.Txt.upper (qaB s)).cps.toList
def qlu:List (List Nat)→List ER→List Nat→Option ER
 |k::ks,r::rs,s=>if k=s then some r else qlu ks rs s
 |_,_,_=>none
def qlg (ks:List (List Nat)) (r:List ER) (x:D):RE ER:=
 match x with
 |.str s=>match qlu ks r s with
  |some (.val d b)=>.ok (.val d b)
  |_=>.bad
 |_=>.bad
@[simp] def D.isNon:D→Bool
 |.non=>true
 |_=>false
mutual
@[simp] def ev (Γ:Env):Ex→List Sl→RE ER
 |.nev,_=>.bad
 |.var i,ρ=>match ρ[i]? with
  |some (.val d b)=>.ok (.val d b)
  |some (.own ds b)=>.ok (.brw ds b)
  |some (.fxd d _)=>.ok (.val d false)
  |_=>.bad
 |.cint i,_=>ok (.int i)
 |.cbl b,_=>ok (.bl b)
 |.bin o a b,ρ=>(ev Γ a ρ).bind fun x=>(ev Γ b ρ).bind fun y=>evB o x.d y.d (x.b&&y.b)
 |.cmp o a b,ρ=>(ev Γ a ρ).bind fun x=>(ev Γ b ρ).bind fun y=>(evC o x.d y.d).bind fun c=>ok (.bl c)
 |.bop c es,ρ=>qfR Γ c es ρ
 |.bnot a,ρ=>(ev Γ a ρ).bind fun x=>(qcv x.d).bind fun k=>ok (.bl (!k))
 |.tup es,ρ=>(evs Γ es ρ).bind fun r=>dis (fun ds b=>.val (.tup ds) b) r
 |.lst es,ρ=>(evs Γ es ρ).bind fun r=>dis .fre r
 |.idx a i,ρ=>(ev Γ a ρ).bind fun x=>(ev Γ i ρ).bind fun y=>qhC x.d y.d x.b
 |.call f es,ρ=>match Γ.fn[f]? with
  |some g=>(evs Γ es ρ).bind fun r=>(g.2 (r.map ER.d)).bind (qaQ (!r.all ER.isV))
  |none=>.bad
 |.pri p es,ρ=>(evs Γ es ρ).bind fun r=>evP p r
 |.isi a t,ρ=>(ev Γ a ρ).bind fun x=>qi2 x.d t
 |.lc own it tg cnd e,ρ=>(evI Γ it ρ).bind fun xs=>gd (leB xs.xs.length) ((lcl (fun x=>match qaV tg x xs.b (wipeS ρ own) with
   |some ρ'=>noX ((qda Γ true cnd ρ').bind fun k=>if k=true then (ev Γ e ρ').bind fun y=>match y with
    |.brw _ _=>.bad
    |y=>.ok (some (y.d,y.b)) else .ok none)
   |none=>.bad) xs.xs).bind fun r=>.ok (.fre r.1 r.2))
 |.inxL o a,ρ=>(ev Γ o ρ).bind fun x=>match x.d with
  |.lst xs=>(ev Γ a ρ).bind fun y=>qcK xs y.d
  |_=>.bad
 |.pk e,ρ=>pkR (ev Γ e (ρ.map pkS))
@[simp] def evs (Γ:Env):Exs→List Sl→RE (List ER)
 |.nil,_=>.ok []
 |.cons e es,ρ=>(ev Γ e ρ).bind fun x=>(evs Γ es ρ).bind fun r=>.ok (x.frz::r)
@[simp] def evO (Γ:Env):Exs→List Sl→RE (Option Int)
 |.nil,_=>.ok none
 |.cons e es,ρ=>(ev Γ e ρ).bind fun x=>match x.d with
  |.int i=>.ok (some i)
  |_=>.bad
@[simp] def evT (Γ:Env):Te→List Sl→RE Bool
 |.bop c es,ρ=>qda Γ c es ρ
 |.not a,ρ=>(evT Γ a ρ).bind fun k=>.ok (!k)
 |.val e,ρ=>(ev Γ e ρ).bind fun x=>qcv x.d
@[simp] def qda (Γ:Env) (c:Bool):Tes→List Sl→RE Bool
 |.nil,_=>.ok c
 |.cons e es,ρ=>(evT Γ e ρ).bind fun k=>if k=c then qda Γ c es ρ else .ok k
@[simp] def qfR (Γ:Env) (c:Bool):Exs→List Sl→RE ER
 |.nil,_=>ok (.bl c)
 |.cons e es,ρ=>(ev Γ e ρ).bind fun x=>match x.d with
  |.bl k=>if k=c then qfR Γ c es ρ else ok (.bl k)
  |_=>.bad
@[simp] def evI (Γ:Env):Itx→List Sl→RE Wk
 |.any e,ρ=>(ev Γ e ρ).bind qdq
 |.rng es,ρ=>(evs Γ es ρ).bind fun r=>(qc4 r).bind fun ns=>.ok ⟨ns.map D.int,true,false⟩
 |.zp a b,ρ=>(ev Γ a ρ).bind fun x=>(ev Γ b ρ).bind fun y=>match x.d,y.d with
  |.lst xs,.lst ys=>.ok ⟨List.zipWith (fun u v=>.tup [u,v]) xs ys,x.b&&y.b,x.isB||y.isB⟩
  |_,_=>.bad
 |.en a,ρ=>(ev Γ a ρ).bind fun x=>match x.d with
  |.lst xs=>.ok ⟨xs.zipIdx.map fun p=>.tup [.int p.2,p.1],x.b,x.isB⟩
  |_=>.bad
 |.rv a,ρ=>(ev Γ a ρ).bind fun x=>match x.d with
  |.lst xs=>.ok ⟨xs.reverse,x.b,x.isB⟩
  |_=>.bad
 |.rvr a,ρ=>(ev Γ a ρ).bind fun x=>match x.d with
  |.int n=>gd (qgl n) (.ok ⟨(qck (0+(((n - 0).toNat:Nat):Int) - 1) (-1) (n - 0).toNat).map D.int,true,false⟩)
  |_=>.bad
end
inductive Pth where
 |var (j:Nat)
 |ix (p:Pth) (k:Nat)
inductive Ch1 where
 |clr (p:Pth)
 |app (p:Pth) (e:Ex)
 |put (p:Pth) (k:Nat) (e:Ex)
inductive Ch where
 |nil
 |one (c:Ch1) (r:Ch)
 |wlk (l:Nat) (p:Pth) (b:List Ch1) (r:Ch)
 |ifs (j:Nat) (b r:Ch)
 |ifl (p:Pth) (b r:Ch)
mutual
def qc2:Ex→Bool
 |.cint _=>true
 |.cbl _=>true
 |.tup es=>qf3 es
 |.lst es=>qf3 es
 |_=>false
def qf3:Exs→Bool
 |.nil=>true
 |.cons e es=>qc2 e&&qf3 es
end
@[simp] def D.isRef:D→Bool
 |.lst _=>true
 |.tup _=>true
 |.ins _ _=>true
 |.exc _ _=>true
 |_=>false
def clD (ds:List D):Nat:=if ds.isEmpty then 0 else if ds.any D.isRef then 2 else 1
abbrev Zs:=List Nat × Nat
def qgk (τ:List (Nat × D)) (Z:Zs):Pth→Option D
 |.var j=>τ.lookup j
 |.ix p k=>match qgk τ Z p with
  |some (.tup ds)=>ds[k]?
  |some (.lst ds)=>if clD ds∈Z.1 then none else ds[k]?
  |_=>none
def qeK (τ:List (Nat × D)) (Z:Zs):Ch1→Option Zs
 |.clr p=>match qgk τ Z p with
  |some (.lst ds)=>some (clD ds::Z.1,Z.2)
  |_=>none
 |.app p e=>match qgk τ Z p with
  |some (.lst ds)=>if (qc2 e&&leB (ds.length+(Z.2+1)))=true then some (clD ds::Z.1,Z.2+1) else none
  |_=>none
 |.put p k e=>match qgk τ Z p with
  |some (.lst ds)=>if clD ds∈Z.1 then none else if (qc2 e&&decide (k<ds.length))=true then some (clD ds::Z.1,Z.2) else none
  |_=>none
def qfU (τ:List (Nat × D)):List Ch1→Zs→Option Zs
 |[],Z=>some Z
 |c::cs,Z=>(qeK τ Z c).bind (qfU τ cs)
def qgF (f:D→Zs→Option Zs):List D→Zs→Option Zs
 |[],Z=>some Z
 |d::ds,Z=>(f d Z).bind (qgF f ds)
def drp (l:Nat) (τ:List (Nat × D)):List (Nat × D):=τ.filter fun e=>e.1 != l
def qeV (ls:List Nat) (τ:List (Nat × D)):List (Nat × D):=τ.filter fun e=>!ls.contains e.1
def Ch.tgs:Ch→List Nat
 |.nil=>[]
 |.one _ r=>r.tgs
 |.wlk l _ _ r=>l::r.tgs
 |.ifs _ b r=>b.tgs++r.tgs
 |.ifl _ b r=>b.tgs++r.tgs
def chg:Ch→List (Nat × D)→Zs→Option Zs
 |.nil,_,Z=>some Z
 |.one c r,τ,Z=>(qeK τ Z c).bind (chg r τ)
 |.wlk l p b r,τ,Z=>match qgk τ Z p with
  |some (.lst ds)=>(qgF (fun d Z=>qfU ((l,d)::drp l τ) b Z) ds Z).bind fun Z'=>if clD ds∈Z'.1 then none else chg r (drp l τ) Z'
  |_=>none
 |.ifs j b r,τ,Z=>match τ.lookup j with
  |some d=>if d.isNon=true then chg r (qeV b.tgs τ) Z else (chg b τ Z).bind (chg r (qeV b.tgs τ))
  |none=>none
 |.ifl p b r,τ,Z=>match qgk τ Z p with
  |some (.lst _)=>(chg b τ Z).bind (chg r (qeV b.tgs τ))
  |_=>none
def Ch1.len:List Ch1→Nat:=List.length
def Ch.len:Ch→Nat
 |.nil=>0
 |.one _ r=>r.len+1
 |.wlk _ _ _ r=>r.len+1
 |.ifs _ _ r=>r.len+1
 |.ifl _ _ r=>r.len+1
def ent (k:Nat):Sl→Sl
 |.val d b=>if (b||d.flat)=true then .val d b else .fxd d k
 |.own ds b=>.own ds b
 |.fxd d _=>.fxd d k
 |_=>.non
def qd0:Nat→List Sl→List Sl
 |_,[]=>[]
 |k,q::qs=>ent k q::qd0 (k+1) qs
def ext (k:Nat) (q:Sl):Sl→Sl
 |.val d b=>if (b||d.flat)=true then .val d b else .non
 |.own ds b=>if (b||D.flats ds)=true then .own ds b else .non
 |.fxd _ j=>if j=k then (match q with
  |.val d b=>.val d b
  |.fxd d m=>.fxd d m
  |_=>.non) else .non
 |_=>.non
def qdI (ρ:List Sl):Nat→List Sl→List Sl
 |_,[]=>[]
 |k,r::rs=>ext k (ρ[k]?.getD .non) r::qdI ρ (k+1) rs
def qd5:ER→Option D
 |.val d b=>if (b||d.flat)=true then some d else none
 |.fre ds b=>if (b||D.flats ds)=true then some (.lst ds) else none
 |.brw _ _=>none
mutual
def noK (k:Nat):D→Bool
 |.lst ds=>(clD ds != k)&&qh1 k ds
 |.tup ds=>qh1 k ds
 |_=>true
def qh1 (k:Nat):List D→Bool
 |[]=>true
 |d::ds=>noK k d&&qh1 k ds
end
def ql2:ER→Option (List D × List D)
 |.val (.tup [.lst ds,.lst es]) true=>if (D.flats ds&&(clD ds != clD es)&&qh1 (clD es) es)=true then some (ds,es) else none
 |_=>none
inductive Tr where
 |ex (e:Ex)
 |as (j:Nat) (e:Ex)
 |iff (t:Te) (a b:Tr)
mutual
inductive Sm where
 |nev
 |asg (i:Nat) (e:Ex)
 |own (i:Nat) (e:Ex)
 |asgT (tg:List Nat) (e:Ex)
 |put (i:Nat) (ix e:Ex)
 |app (i:Nat) (e:Ex)
 |ext (i:Nat) (e:Ex)
 |clr (i:Nat)
 |expr (e:Ex)
 |ret (e:Ex)
 |retN
 |pas
 |brk
 |cnt
 |iff (c:Te) (a b:Sms)
 |for (it:Itx) (tg:List Nat) (b:Sms)
 |whl (c:Te) (b:Sms)
 |ins (i:Nat) (ix e:Ex)
 |row (i:Nat) (es:Exs)
 |rowc (i f:Nat) (es:Exs)
 |rz (a b i:Nat) (e:Ex) (c:Te)
 |rdr (i:Nat) (e:Ex)
inductive Sms where
 |nil
 |cons (s:Sm) (ss:Sms)
 |frz (i:Nat) (ss:Sms)
 |hav (i f:Nat) (es:Exs) (rd:Sms) (cs:Ch) (ss:Sms)
end
inductive Out where
 |bad | nx (ρ:List Sl) | brk (ρ:List Sl) | cnt (ρ:List Sl) | ret (er:ER) | exc (c:Nat) (fs:List D)
def RE.out {α:Type}:RE α→(α→Out)→Out
 |.bad,_=>.bad
 |.ok a,f=>f a
 |.exc c fs,_=>.exc c fs
@[simp] theorem RE.out_ok {α:Type} (a:α) (f:α→Out):(RE.ok a).out f=f a:=rfl
@[simp] theorem RE.out_bad {α:Type} (f:α→Out):(RE.bad:RE α).out f=.bad:=rfl
@[simp] theorem RE.out_exc {α:Type} (c:Nat) (fs:List D) (f:α→Out):(RE.exc c fs:RE α).out f=.exc c fs:=rfl
def gdO (b:Bool) (o:Out):Out:=match b with
 |true=>o
 |false=>.bad
@[simp] theorem qb2 (o:Out):gdO true o=o:=rfl
theorem qaE (b:Bool) (o:Out):gdO b o=if b=true then o else .bad:=by cases b<;>rfl
def Out.seq:Out→(List Sl→Out)→Out
 |.nx ρ,f=>f ρ
 |o,_=>o
@[simp] theorem Out.seq_nx (ρ:List Sl) (f:List Sl→Out):(Out.nx ρ).seq f=f ρ:=rfl
@[simp] theorem Out.seq_ret (e:ER) (f:List Sl→Out):(Out.ret e).seq f=.ret e:=rfl
@[simp] theorem Out.seq_brk (ρ:List Sl) (f:List Sl→Out):(Out.brk ρ).seq f=.brk ρ:=rfl
@[simp] theorem Out.seq_cnt (ρ:List Sl) (f:List Sl→Out):(Out.cnt ρ).seq f=.cnt ρ:=rfl
@[simp] theorem Out.seq_bad (f:List Sl→Out):Out.bad.seq f=.bad:=rfl
@[simp] theorem Out.seq_exc (c:Nat) (fs:List D) (f:List Sl→Out):(Out.exc c fs).seq f=.exc c fs:=rfl
def qbN (f:D→List Sl→Out):List D→List Sl→Out
 |[],ρ=>.nx ρ
 |x::xs,ρ=>match f x ρ with
  |.nx ρ'=>qbN f xs ρ'
  |.cnt ρ'=>qbN f xs ρ'
  |.brk ρ'=>.nx ρ'
  |o=>o
def qbZ (c:List Sl→RE Bool) (f:List Sl→Out):Nat→List Sl→Out
 |0,_=>.bad
 |n+1,ρ=>(c ρ).out fun k=>if k=true then (match f ρ with
  |.nx ρ'=>qbZ c f n ρ'
  |.cnt ρ'=>qbZ c f n ρ'
  |.brk ρ'=>.nx ρ'
  |o=>o) else .nx ρ
def qjV:Nat:=1000000000
@[simp] def qkp:ER→ER
 |.brw ds b=>.fre ds b
 |e=>e
def qaI (ρ:List Sl) (i:Nat) (f:List D→Bool→Out):Out:=
 match ρ[i]? with
 |some (.own ds b)=>f ds b
 |_=>.bad
def qlR (ρ:List Sl) (i:Nat) (f:List (Int × D)→Bool→Out):Out:=
 match ρ[i]? with
 |some (.dct m b)=>f m b
 |_=>.bad
def qmn (ρ:List Sl) (i k:Nat) (f:List (List D)→List D→Out):Out:=
 match ρ[i]? with
 |some (.row dss)=>match dss[k]? with
  |some ds=>f dss ds
  |none=>.bad
 |_=>.bad
def evF (Γ:Env):Exs→List Sl→RE (List (List D))
 |.nil,_=>.ok []
 |.cons e es,ρ=>(ev Γ e ρ).bind fun x=>match x with
  |.fre ds _=>if D.flats ds=true then (evF Γ es ρ).bind fun r=>.ok (ds::r) else .bad
  |_=>.bad
def ql0 (ρ:List Sl) (i:Nat) (f:D→Bool→Out):Out:=
 match ρ[i]? with
 |some (.val d b)=>f d b
 |_=>.bad
@[simp] def held (er:ER) (f:D→Bool→Out):Out:=
 match er with
 |.brw _ _=>.bad
 |.val d b=>f d b
 |.fre ds b=>f (.lst ds) b
def onB (o:Option (List Sl)) (k:List Sl→Out):Out:=
 match o with
 |some ρ=>k ρ
 |none=>.bad
@[simp] def heldF (er:ER) (f:D→Out):Out:=
 match er with
 |.brw _ _=>.bad
 |.val d b=>gdO (b||d.flat) (f d)
 |.fre ds b=>gdO (b||D.flats ds) (f (.lst ds))
def qj7:List Sl→Bool
 |[]=>true
 |.slf _ _::_=>false
 |_::ρ=>qj7 ρ
def qmt (ρ:List Sl) (f:Nat→List D→List Sl→Out):Out:=
 match ρ with
 |.slf c fs::r=>if qj7 r=true then f c fs r else .bad
 |_=>.bad
@[simp] theorem qcR (ρ:List Sl) (k:List Sl→Out):onB (some ρ) k=k ρ:=rfl
@[simp] theorem qkt (k:List Sl→Out):onB none k=.bad:=rfl
@[simp] def qkF:List Nat→List ER→List Sl→Out
 |[],[],ρ=>.nx ρ
 |i::tg,e::es,ρ=>held e fun d b=>qkF tg es (ρ.set i (.val d b))
 |_,_,_=>.bad
def Out.hv (o:Out) (ρ:List Sl) (i:Nat) (d:D) (cs:Ch) (f:List Sl→Out):Out:=
 match o with
 |.nx ρ'=>(match ρ'[i]? with
  |some (.fxd _ k)=>gdO (k == i&&cs.tgs.all fun l=>Nat.blt l ρ'.length) (match chg cs [(i,d)] ([],0) with
   |some _=>f (wipeS (qdI (ρ.set i .non) 0 ρ') cs.tgs)
   |none=>.bad)
  |_=>.bad)
 |.ret er=>(match qd5 er with
  |some _=>.ret er
  |none=>.bad)
 |.exc c fs=>.exc c fs
 |_=>.bad
def Out.hd (o:Out) (ρ:List Sl) (i:Nat):Out:=
 match o with
 |.nx ρ'=>(match ρ'[i]? with
  |some (.fxd _ k)=>gdO (k == i) (.nx ((qdI (ρ.set i .non) 0 ρ').set i (ρ[i]?.getD .non)))
  |_=>.bad)
 |.ret er=>(match qd5 er with
  |some _=>.ret er
  |none=>.bad)
 |.exc c fs=>.exc c fs
 |_=>.bad
def trB (Γ:Env):Tr→List Sl→RE (List Sl)
 |.ex e,ρ=>(ev Γ e ρ).bind fun _=>.ok ρ
 |.as j e,ρ=>(ev Γ e ρ).bind fun x=>match x with
  |.brw _ _=>.bad
  |.val d b=>.ok (ρ.set j (.val d b))
  |.fre ds b=>.ok (ρ.set j (.val (.lst ds) b))
 |.iff t a b,ρ=>(evT Γ t ρ).bind fun k=>if k=true then trB Γ a ρ else trB Γ b ρ
def trX (g:Option (Nat→Option Bool)) (i j:Nat) (ρ:List Sl):RE (List Sl)→Out
 |.ok ρ'=>.nx ρ'
 |.bad=>.bad
 |.exc c fs=>match g with
  |some g=>match g c with
   |some true=>if i=j then .bad else (match fs with
    |[]=>.nx ((ρ.set j (.val (.exc c []) true)).set i .non)
    |_=>.bad)
   |some false=>.exc c fs
   |none=>.bad
  |none=>.bad
def dIs:List D→Option (List Int)
 |[]=>some []
 |.int i::r=>(dIs r).map (i :: ·)
 |_=>none
def dRs:List D→Option (List (List Int))
 |[]=>some []
 |.lst xs::r=>match dIs xs,dRs r with
  |some a,some b=>some (a::b)
  |_,_=>none
 |_=>none
def qiz:ER→Option (List (List Int))
 |.fre ds b=>if (b||D.flats ds)=true then (match dRs ds with
  |some L=>if L.Nodup then some L else none
  |none=>none) else none
 |_=>none
def qho (gt:List Sl→RE Bool) (a b i:Nat) (be:Bool):Nat→List D→List Sl→Out
 |_,[],ρ=>.nx ρ
 |k,e::es,ρ=>match ρ[i]? with
  |some (.row dss)=>match dss[k]? with
   |some ds=>(gt (((ρ.map pkS).set a (.val (.lst ds) true)).set b (.val e be))).out fun c=>if c=true then .ret (.val (.bl false) true) else qho gt a b i be (k+1) es (((ρ.set a .non).set b .non).set i (.row (dss.set k [])))
   |none=>.nx ρ
  |_=>.bad
def gRz (gt:List Sl→RE Bool) (g:List Sl→RE ER) (a b i:Nat) (ρ:List Sl):Out:=
 if (a == b||(a == i||(b == i||Nat.ble ρ.length a)))=true then .bad else match ρ[i]? with
 |some (.row _)=>(g ρ).out fun y=>match y with
  |.val (.lst es) be=>qho gt a b i be 0 es ρ
  |_=>.bad
 |_=>.bad
def ql5 (q:Nat):Nat→List ER→Bool
 |_,[]=>true
 |i,e::r=>(decide (i=q)||(e.isV&&e.d.flat))&&ql5 q (i+1) r
mutual
@[simp] def run (Γ:Env):Sm→List Sl→Out
 |.nev,_=>.bad
 |.asg i e,ρ=>(ev Γ e ρ).out fun x=>held x fun d b=>.nx (ρ.set i (.val d b))
 |.own i e,ρ=>(ev Γ e ρ).out fun x=>match x with
  |.fre ds b=>.nx (ρ.set i (.own ds b))
  |.val .non _=>.nx (ρ.set i (.val .non true))
  |_=>.bad
 |.asgT tg e,ρ=>(ev Γ e ρ).out fun x=>held x fun d b=>onB (qaV tg d b ρ) .nx
 |.put i ix e,ρ=>(ev Γ e ρ).out fun x=>held x fun d b=>qaI ρ i fun ds c=>(ev Γ ix ρ).out fun k=>match k.d with
  |.int k=>match ixN ds.length k with
   |some j=>.nx (ρ.set i (.own (ds.set j d) (b&&c)))
   |none=>.bad
  |_=>.bad
 |.app i e,ρ=>qaI ρ i fun ds c=>(ev Γ e ρ).out fun x=>held x fun d b=>gdO (leB (ds.length+1)) (.nx (ρ.set i (.own (ds++[d]) (b&&c))))
 |.ext i e,ρ=>qaI ρ i fun ds c=>(ev Γ e ρ).out fun x=>match x with
  |.fre es b=>gdO (leB (ds.length+es.length)) (.nx (ρ.set i (.own (ds++es) (b&&c))))
  |_=>.bad
 |.clr i,ρ=>qaI ρ i fun _ _=>.nx (ρ.set i (.own [] true))
 |.expr e,ρ=>(ev Γ e ρ).out fun _=>.nx ρ
 |.ret e,ρ=>(ev Γ e ρ).out fun x=>.ret (qkp x)
 |.retN,_=>.ret (.val .non true)
 |.pas,ρ=>.nx ρ
 |.brk,ρ=>.brk ρ
 |.cnt,ρ=>.cnt ρ
 |.iff c a b,ρ=>(evT Γ c ρ).out fun k=>if k=true then qae Γ a ρ else qae Γ b ρ
 |.for it tg b,ρ=>(evI Γ it ρ).out fun w=>if w.own=true then .bad else qbN (fun x ρ=>onB (qaV tg x w.b ρ) fun ρ'=>qae Γ b ρ') w.xs ρ
 |.ins i ix e,ρ=>qaI ρ i fun ds c=>(ev Γ ix ρ).out fun k=>match k.d with
  |.int k=>(ev Γ e ρ).out fun x=>held x fun d b=>gdO (decide (0≤k∧k≤ds.length)&&leB (ds.length+1)) (.nx (ρ.set i (.own (ds.take k.toNat++[d]++ds.drop k.toNat) (b&&c))))
  |_=>.bad
 |.row i es,ρ=>(evF Γ es ρ).out fun dss=>gdO (leB dss.length) (.nx (ρ.set i (.row dss)))
 |.rowc i f es,ρ=>match Γ.fn[f]? with
  |some g=>(evs Γ es ρ).out fun r=>(g.2 (r.map ER.d)).out fun er=>match qiz er with
   |some L=>.nx (ρ.set i (.row (L.map fun x=>x.map D.int)))
   |none=>.bad
  |none=>.bad
 |.rz a b i e c,ρ=>gRz (fun ρ=>evT Γ c ρ) (fun ρ=>ev Γ e ρ) a b i ρ
 |.rdr i e,ρ=>match ρ[i]? with
  |some (.row dss)=>(ev Γ e ρ).out fun _=>gdO (leB (dss.length+1)) (.nx (ρ.set i .non))
  |_=>.bad
 |.whl c b,ρ=>qbZ (fun ρ=>evT Γ c ρ) (fun ρ=>qae Γ b ρ) qjV ρ
@[simp] def qae (Γ:Env):Sms→List Sl→Out
 |.nil,ρ=>.nx ρ
 |.cons s ss,ρ=>(run Γ s ρ).seq fun ρ'=>qae Γ ss ρ'
 |.frz i ss,ρ=>qaI ρ i fun ds b=>qae Γ ss (ρ.set i (.val (.lst ds) b))
 |.hav i f es rd cs ss,ρ=>match Γ.fn[f]? with
  |some g=>(evs Γ es ρ).out fun r=>(g.2 (r.map ER.d)).out fun er=>match qd5 er with
   |some d=>gdO (Nat.blt i ρ.length) ((qae Γ rd ((qd0 0 ρ).set i (.fxd d i))).hv ρ i d cs fun ρ2=>qae Γ ss ρ2)
   |none=>.bad
  |none=>.bad
end
@[simp] def Out.fin:Out→RE ER
 |.ret er=>.ok er
 |.nx _=>ok .non
 |.exc c fs=>.exc c fs
 |_=>.bad
def qde (Γ:Env) (n m:Nat) (b:Sms) (ds:List D):RE ER:=
 if ds.length=n then (qae Γ b (ds.map (fun d=>Sl.val d d.flat)++List.replicate m .non)).fin else .bad
def slO (q:Nat) (ds:List D):List Sl:=match ds[q]? with
 |some (.lst dq)=>(ds.map fun d=>Sl.val d d.flat).set q (.own dq true)
 |_=>[]
def qmZ (Γ:Env) (n m q:Nat) (b:Sms) (ds:List D):RE ER:=
 if ds.length=n then (qae Γ b (slO q ds++List.replicate m .non)).fin else .bad
def qlE (Γ:Env) (c nf n m:Nat) (b:Sms) (ds:List D):RE (List D):=
 if ds.length=n then (match qae Γ b (.slf c []::(ds.map (fun d=>Sl.val d d.flat)++List.replicate m .non)) with
  |.nx (.slf c' fs::_)=>if c'=c then (if fs.length=nf then .ok fs else .bad) else .bad
  |.exc c fs=>.exc c fs
  |_=>.bad) else .bad
def Sms.hd:Sms→Sm
 |.cons s _=>s
 |_=>.nev
def Sms.tl:Sms→Sms
 |.cons _ ss=>ss
 |.frz _ ss=>ss
 |.hav _ _ _ _ _ ss=>ss
 |.nil=>.nil
def Sms.len:Sms→Nat
 |.nil=>0
 |.cons _ ss=>ss.len+1
 |.frz _ ss=>ss.len
 |.hav _ _ _ rd cs ss=>rd.len+(cs.len+(ss.len+1))
def Sm.bd:Sm→Sms
 |.for _ _ b=>b
 |.whl _ b=>b
 |.iff _ a _=>a
 |_=>.nil
def Out.fst:Out→Option (Sl × Nat)
 |.nx (t::r)=>some (t,r.length)
 |_=>none
end Cm
namespace Cm
open PySem PySem.Spec PyProof.Rows L2
variable [HasT]
section
variable (C:Ctx)
def res {α:Type} (σ:L2.St) (P N H:Hp) (r:RE α) (K:α→Hp→Hp→Hp→Prop):Prop:=
 match r with
 |.bad=>False
 |.ok a=>∀P' N' H',Adv P N H P' N' H'→K a P' N' H'
 |.exc c fs=>∀d P' N' H',Adv P N H P' N' H'→ExR C P' N' H' fs d→C.W (.ref (C.G.ca c)) d σ H'
def kE (H:Hp) (Q:VK):ER→Hp→Hp→Hp→Prop:=fun er P' N' H'=>∀v,ERr C P' N' H' H er v→Q v H'
def tE (g:List Sl→RE ER):TE:=fun σ H Q=>∃ρ P N,SR C P N H ρ σ∧res C σ P N H (g ρ) (kE C H Q)
def tT (g:List Sl→RE Bool):TT:=fun σ H Q=>∃ρ P N,SR C P N H ρ σ∧res C σ P N H (g ρ) fun k _ _ H'=>Q k H'
def tA (g:List Sl→RE (List ER)):TA:=fun σ H Q=>∃ρ P N,SR C P N H ρ σ∧res C σ P N H (g ρ) fun es P' N' H'=>∀vs,ERs C P' N' H' H es vs→Q vs H'
def tO (g:List Sl→RE (Option Int)):TO:=fun σ H Q=>∃ρ P N,SR C P N H ρ σ∧res C σ P N H (g ρ) fun k _ _ H'=>Q k H'
end
section
variable {C:Ctx} {σ:L2.St} {P N H P1 N1 H1:Hp} {α β:Type} {K K':α→Hp→Hp→Hp→Prop}
theorem res.adv {r:RE α} (a:Adv P N H P1 N1 H1) (h:res C σ P N H r K):res C σ P1 N1 H1 r K:=by
 cases r with
 |bad=>exact h
 |ok x=>exact fun P' N' H' b=>h P' N' H' (a.trans b)
 |exc c fs=>exact fun d P' N' H' b=>h d P' N' H' (a.trans b)
theorem res.mono {r:RE α} (h:res C σ P N H r K) (f:∀a P' N' H',r=.ok a→Adv P N H P' N' H'→K a P' N' H'→K' a P' N' H'):res C σ P N H r K':=by
 cases r with
 |bad=>exact h
 |ok x=>exact fun P' N' H' b=>f _ _ _ _ rfl b (h P' N' H' b)
 |exc c fs=>exact h
theorem res.bind {r:RE α} {f:α→RE β} {K:β→Hp→Hp→Hp→Prop} (h:res C σ P N H (r.bind f) K):res C σ P N H r fun a P1 N1 H1=>res C σ P1 N1 H1 (f a) K:=by
 cases r with
 |bad=>exact h
 |ok x=>exact fun P' N' H' b=>res.adv b h
 |exc c fs=>exact h
theorem res.now {a:α} (r:Reg C P N H) (h:res C σ P N H (.ok a) K):K a P N H:=h _ _ _ (Adv.refl r.pH r.nH)
theorem res.val {H0:Hp} {Q:VK} {d:D} {b:Bool} {v:V} (r:Reg C P N H) (h:res C σ P N H (.ok (.val d b)) (kE C H0 Q)) (x:RepB C P N b d v):Q v H:=h _ _ _ (Adv.refl r.pH r.nH) v x
theorem res.fre {H0:Hp} {Q:VK} {ds:List D} {b:Bool} {xs:List V} {p:Addr} (r:Reg C P N H) (h:res C σ P N H (.ok (.fre ds b)) (kE C H0 Q)) (e:Cm.Same H0 H) (x:RepsB C P N b ds xs) (hp:H p=none):Q (.ref p) (upd H p (.lst xs)):=
 h P N (upd H p (.lst xs)) ((Adv.refl r.pH r.nH).heap (qdP hp)) _ ⟨p,xs,rfl,upd_same,e.free hp,r.pH.free hp,r.nH.free hp,x⟩
theorem res.tup {H0:Hp} {Q:VK} {ds:List D} {b:Bool} {xs:List V} {p:Addr} (r:Reg C P N H) (h:res C σ P N H (.ok (.val (.tup ds) b)) (kE C H0 Q)) (x:RepsB C P N b ds xs) (hp:H p=none):Q (.ref p) (upd H p (.tup xs)):=
 h (upd P p (.tup xs)) N (upd H p (.tup xs)) ((Adv.refl r.pH r.nH).newP hp) _ ⟨p,xs,rfl,.inl (.inl upd_same),RepsB.adv (qaX (r.pH.free hp)) (Cm.Same.refl _) x⟩
theorem ERw.int {i:Int} {b:Bool} {v:V} (h:ERw C P N H (.int i) b v):v=.int i:=h
theorem ERw.bl {i:Bool} {b:Bool} {v:V} (h:ERw C P N H (.bl i) b v):v=.bl i:=h
theorem ERw.str {s:List Nat} {b:Bool} {v:V} (h:ERw C P N H (.str s) b v):v=.str ⟨s.toArray⟩:=h
theorem ERw.lst {ds:List D} {b:Bool} {v:V} (h:ERw C P N H (.lst ds) b v):∃p xs,v=.ref p∧SqL C.G.K H p xs∧RepsB C P N b ds xs:=h
theorem ERw.tup {ds:List D} {b:Bool} {v:V} (r:Reg C P N H) (h:ERw C P N H (.tup ds) b v):∃p xs,v=.ref p∧SqT C.G.K H p xs∧RepsB C P N b ds xs:=by
 obtain⟨a,xs,e,h1,h2⟩:=h
 exact⟨a,xs,e,Same.seqT r.pH h1,h2⟩
theorem ERw.dp {d:D} {b:Bool} {v:V} {n:Nat} (r:Reg C P N H) (h:ERw C P N H d b v) (f:d.fit n=true):Dp C.G.K H v d.py:=by
 have hl:∀a xs,LNb C.G.K P N C.R b a xs→SqL C.G.K H a xs:=LNb.seq r.pH r.nH r.rH
 cases d with
 |lst ds =>
  obtain⟨p,xs,rfl,h1,h2⟩:=h
  simp only[D.fit,Bool.and_eq_true] at f
  exact .lst h1 (Reps.dp r.pH hl ds xs _ f.2 h2)
 |_=>exact Rep.dp r.pH hl _ v n f h
def qlG (C:Ctx) (op:D→D→Bool→RE ER) (r:R2):Prop:=∀{P N H H0:Hp} {σ:L2.St} {x y:D} {b c:Bool} {v u:V} {Q:VK},Reg C P N H→ERw C P N H x b v→ERw C P N H y c u→Cm.Same H0 H →
 res C σ P N H (op x y (b&&c)) (kE C H0 Q)→r v u H Q
theorem qjg {X:Cx} {op:Operator} {f:D→D→Bool→RE ER} {r:R2} {a b:Expr} {ga gb:List Sl→RE ER} {pos:Pos} (ho:OpR X (binaryOp op) r) (hf:qlG C f r) (ha:PE X a (tE C ga)) (hb:PE X b (tE C gb)) :
  PE X (.BinOp a op b pos) (tE C fun ρ=>(ga ρ).bind fun x=>(gb ρ).bind fun y=>f x.d y.d (x.b&&y.b)):=by
 refine⟨fun pins s σ H Q I h=>(pe_op ho ha hb).run pins s σ H Q I ?_⟩
 obtain⟨ρ,P,N,S,h⟩:=h
 refine⟨ρ,P,N,S,h.bind.mono fun x P1 N1 H1 _ a1 h1 v rv=>⟨ρ,P1,N1,S.adv a1,h1.bind.mono fun y P2 N2 H2 _ a2 h2 u ru=>?_⟩⟩
 have r2:=(S.adv (a1.trans a2)).reg
 exact hf r2 ((rv.adv a2).w r2) (ru.w r2) (a1.trans a2).hh h2
def qmv (C:Ctx) (op:D→D→RE Bool) (r:R2):Prop:=∀{P N H:Hp} {x y:D} {b c:Bool} {v u:V} {Q:VK} {k:Bool},Reg C P N H→ERw C P N H x b v→ERw C P N H y c u→op x y=.ok k→Q (.bl k) H→r v u H Q
def qcx {α:Type}:RE α→Prop
 |.exc _ _=>False
 |_=>True
theorem qfY (x y:D):qcx (qeU x y):=by
 unfold qeU
 split<;>first | trivial | (split<;>trivial)
theorem qfT (x y:D):qcx (qhm x y):=by
 unfold qhm
 split
 ·split<;>trivial
 ·split<;>trivial
 ·split<;>trivial
 ·trivial
theorem qjA (o:Cop) (x y:D):qcx (evC o x y):=by
 cases o<;>simp only[evC]
 ·exact qfY x y
 ·have:=qfY x y
  cases h:qeU x y<;>simp_all[qcx]
 ·split<;>trivial
 ·split<;>trivial
 ·split<;>trivial
 ·split<;>trivial
 ·exact qfT x y
 ·have:=qfT x y
  cases h:qhm x y<;>simp_all[qcx]
end
end Cm
namespace Cm
open PySem PySem.Spec PyProof.Rows L2
variable [HasT]
section
variable {X:Cx}
def qjP (K:PySem.W.Frag):R2:=fun x y H Q=>∃l b xs zs,x=.ref l∧y=.ref b∧SqL K H l xs∧SqL K H b zs∧xs.length+zs.length≤sizeLine∧∀p,H p=none→Q (.ref p) (upd H p (.lst (xs++zs)))
theorem qiY:OpR X (binaryOp .Add) (qjP X.K):=by
 intro pins s σ H x y v u Q I rx ry hh
 obtain⟨l,b,xs,zs,rfl,rfl,hH,hB,hz,qq⟩:=hh
 cases rx
 cases ry
 obtain⟨its,r,p,_⟩:=I.list hH
 obtain⟨its2,r2,p2,_⟩:=I.list hB
 obtain⟨⟨cls,dd,data,sl⟩,n,ho,hc,hdd,hd⟩:=p
 obtain⟨⟨cls2,dd2,data2,sl2⟩,n2,ho2,hc2,hdd2,hd2⟩:=p2
 simp only at hc hd hdd hc2 hd2 hdd2
 subst hc hd hdd hc2 hd2 hdd2
 have l1:=r.length
 have l2:=r2.length
 refine concat_meets ⟨_,ho,rfl⟩ ⟨_,ho2,rfl⟩ noFill_list_add seq_list_add PySem.F.slot_list_add PySem.F.entry_list_add (PySem.F.args_list_add_2 _ _) (list_addW l b its.toArray its2.toArray n n2 _ _ sl sl2 (by simp only[List.size_toArray];omega)) ⟨ho,ho2,?_⟩
 have ea:its.toArray++its2.toArray=(its++its2).toArray:=by simp
 rw[ea]
 exact⟨.ref _,_,I.lnew (t':=s.toks) (r.append r2) (by rw[List.length_append];omega),rfl,qq _ I.fresh⟩
def qjB (K:PySem.W.Frag):R2:=fun x y H Q=>∃l k xs,x=.ref l∧y=.int k∧SqL K H l xs ∧ -(2 ^ 63)≤k∧k<2 ^ 63∧xs.length*k.toNat≤sizeLine ∧
 ∀p,H p=none→Q (.ref p) (upd H p (.lst (List.replicate k.toNat xs).flatten))
theorem qhU:OpR X (binaryOp .Mult) (qjB X.K):=by
 intro pins s σ H x y v u Q I rx ry hh
 obtain⟨l,k,xs,rfl,rfl,hH,h1,h2,hz,qq⟩:=hh
 cases rx
 obtain⟨t,rfl⟩:=ry
 obtain⟨its,r,p,_⟩:=I.list hH
 obtain⟨⟨cls,dd,data,sl⟩,n,ho,hc,hdd,hd⟩:=p
 simp only at hc hd hdd
 subst hc hd hdd
 have l1:=r.length
 have hsz:its.length*k.toNat≤16777216:=by rw[←l1];exact hz
 refine wpAny_binaryOp_repeat_ref (T:="list") (U:="int") (by decide) ⟨_,ho,rfl⟩ (fun s'=>typeIs_int s' k t) noFill_list_mul F.fills_int_mul F.slot_int_rmul repeat_list F.slot_int_index.lookup
  (call_meets F.slot_int_rmul (typeIs_int s k t) F.entry_int_rmul (F.args_int_rmul_2 _ _) (lm_int_rmul_list_any k t l its.toArray n _ sl)
   ⟨ho,rfl,⟨_,ho,rfl⟩,call_meets F.slot_list_mul ⟨_,ho,rfl⟩ F.entry_list_mul (F.args_list_mul_2 _ _)
    (lm_list_mul_any l its.toArray n _ sl k t (by simp[Builtin.List.listFitsIndex];omega) (by simp only[List.size_toArray];omega) (by simp[Builtin.List.listTooLong,sizeLine];omega))
    ⟨ho,?_⟩⟩)
 rw[listMul_foldl_if]
 exact⟨.ref _,_,I.lnew (t':=s.toks) (r.rep k.toNat) (by rw[PyProof.Rows.lm_len_rep_flat,Nat.mul_comm];exact hz),rfl,qq _ I.fresh⟩
theorem qeM {n:Nat} (h:n≤16777216):Builtin.Str.tooLong n=false:=by
 unfold Builtin.Str.tooLong
 exact decide_eq_false (show ¬n>16777216 by omega)
def rRepT:R2:=fun x y H Q=>∃(i:Str) (k:Int),x=.str i∧y=.int k∧1≤k∧k<2 ^ 63∧1≤i.length∧i.length*k.toNat≤sizeLine∧Q (.str ⟨(List.replicate k.toNat i.cps).foldl (· ++ ·) #[]⟩) H
theorem qie:OpR X (binaryOp .Mult) rRepT:=by
 intro pins s σ H x y v u Q I rx ry h
 obtain⟨i,k,rfl,rfl,k1,k2,l1,hz,q⟩:=h
 obtain⟨t,rfl⟩:=rx
 obtain⟨t',rfl⟩:=ry
 have hz:i.length*k.toNat≤16777216:=hz
 have tl:Builtin.Str.tooLong (i.length*k.toNat)=false:=qeM hz
 refine P.mul_str (by rw[decide_eq_false (by omega),decide_eq_false (by omega)];rfl) (fun _ _ hb=>?_) (fun _ _=>tl) ?_
 ·have e:((i.length*k.toNat:Nat):Int)=(i.length:Int)*k:=by rw[Int.natCast_mul,Int.toNat_of_nonneg (by omega)]
  have h3:(2 ^ 63 - 1) / k<(i.length:Int):=hb
  have h4:(2:Int) ^ 63 - 1<(i.length:Int)*k:=(Int.ediv_lt_iff_lt_mul (by omega)).mp h3
  rw[←e] at h4
  omega
 ·rw[if_neg (by omega)]
  by_cases e:k=1
  ·subst e
   rw[if_pos (by simp)]
   have eq:(⟨(List.replicate (1:Int).toNat i.cps).foldl (· ++ ·) #[]⟩:Str)=i:=by
    show(⟨#[]++i.cps⟩:Str)=i
    rw[Array.empty_append]
   rw[eq] at q
   exact⟨.str i,H,I,⟨_,rfl⟩,q⟩
  ·rw[if_neg (by simp;omega)]
   exact⟨by
    have:=fits_reps (x:=i) (k:=k.toNat) tl
    exact this,⟨.str _,H,I.tok _,⟨_,rfl⟩,q⟩⟩
end
def qlj:Bop→Operator
 |.add=>.Add | .sub=>.Sub | .mul=>.Mult | .fdv=>.FloorDiv | .mdl=>.Mod | .pow=>.Pow | .shl=>.LShift | .shr=>.RShift | .and=>.BitAnd | .or=>.BitOr
def qlv (K:PySem.W.Frag):Bop→R2
 |.add=>fun x y H Q=>(rI0 (fun i j=>.int (i+j)) x y H Q∨(fun x y H Q=>∃i j,x=.str i∧y=.str j∧i.length+j.length≤sizeLine∧Q (.str (i++j)) H:R2) x y H Q)∨(qjP K x y H Q∨rCatT K x y H Q)
 |.sub=>rI0 fun i j=>.int (i - j)
 |.mul=>fun x y H Q=>(rI CMul (fun i j=>.int (i*j)) x y H Q∨rI CMulX (fun i j=>.int (i*j)) x y H Q)∨(qjB K x y H Q∨rRepT x y H Q)
 |.fdv=>rI CDivN fun i j=>.int (i.fdiv j)
 |.mdl=>rI (fun _ j=>j≠0) fun i j=>.int (i.fmod j)
 |.pow=>rI CPow fun i j=>.int (i ^ j.toNat)
 |.shl=>rI CPow fun i j=>.int (i*2 ^ j.toNat)
 |.shr=>rI (fun _ j=>0≤j) fun i j=>.int (i / 2 ^ j.toNat)
 |.and=>rI0 fun i j=>.int (Builtin.bitAnd i j)
 |.or=>rI0 fun i j=>.int (Builtin.bitOr i j)
theorem qjU {X:Cx}:∀o,OpR X (binaryOp (qlj o)) (qlv X.K o)
 |.add=>(op_add.or op_add_str).or (qiY.or op_catT)
 |.sub=>op_sub
 |.mul=>(op_mul.or op_mulX).or (qhU.or qie)
 |.fdv=>op_fdivN
 |.mdl=>op_modN
 |.pow=>op_pow
 |.shl=>op_shl
 |.shr=>op_shr
 |.and=>op_and
 |.or=>op_or
theorem qiF (s t:List Nat):(⟨s.toArray⟩:Str)++(⟨t.toArray⟩:Str)=⟨(s++t).toArray⟩:=by
 show(⟨s.toArray++t.toArray⟩:Str)=⟨(s++t).toArray⟩
 simp
theorem qa7 (s:List Nat):(⟨s.toArray⟩:Str).length=s.length:=by
 show s.toArray.size=s.length
 simp
theorem RepsB.rep {C:Ctx} {P N:Hp} {b:Bool} {ds:List D} {vs:List V} (h:RepsB C P N b ds vs):∀k,RepsB C P N b (List.replicate k ds).flatten (List.replicate k vs).flatten
 |0=>rfl
 |k+1=>by simpa[List.replicate_succ] using Reps.append h (RepsB.rep h k)
theorem qiI (s:List Nat) (n:Nat):(⟨(List.replicate n (⟨s.toArray⟩:Str).cps).foldl (· ++ ·) #[]⟩:Str)=⟨((List.replicate n s).flatten).toArray⟩:=by
 have go:∀(n:Nat) (a:Array Nat),(List.replicate n s.toArray).foldl (· ++ ·) a=a++((List.replicate n s).flatten).toArray:=fun n=>by
  induction n with
  |zero=>intro a;simp
  |succ n ih=>intro a;rw[List.replicate_succ,List.foldl_cons,ih,List.replicate_succ,List.flatten_cons];simp
 show(⟨(List.replicate n s.toArray).foldl (· ++ ·) #[]⟩:Str)=_
 rw[go]
 simp
theorem qjL {C:Ctx} (o:Bop):qlG C (evB o) (qlv C.G.K o):=by
 intro P N H H0 σ x y b c v u Q r hx hy e h
 unfold evB at h
 simp only[qdn,qaE,qai,qbi,qaT,qbj,qa3,qbn,qbo,qbl] at h
 cases o<;>simp only at h<;>split at h<;>try exact h.elim
 ·cases hx.int;cases hy.int
  exact .inl (.inl ⟨_,_,rfl,rfl,h.val r rfl⟩)
 ·cases hx.str;cases hy.str
  split at h
  ·rename_i hl
   refine .inl (.inr ⟨_,_,rfl,rfl,?_,?_⟩)
   ·rw[qa7,qa7];exact hl
   ·rw[qiF];exact h.val r rfl
  ·exact h.elim
 ·obtain⟨p,xs,rfl,h1,h2⟩:=hx.lst
  obtain⟨q,zs,rfl,h3,h4⟩:=hy.lst
  split at h
  ·rename_i hl
   refine .inr (.inl ⟨_,_,_,_,rfl,rfl,h1,h3,?_,fun p hp=>h.fre r e (Reps.append h2.and1 h4.and2) hp⟩)
   rw[h2.length,h4.length];exact hl
  ·exact h.elim
 ·obtain⟨p,xs,rfl,h1,h2⟩:=hx.tup r
  obtain⟨q,zs,rfl,h3,h4⟩:=hy.tup r
  split at h
  ·rename_i hl
   simp only[Bool.and_eq_true,qai,Nat.ble_eq] at hl
   have l2:=h2.length
   have l4:=h4.length
   refine .inr (.inr ⟨_,_,_,_,rfl,rfl,h1,h3,?_,?_,?_,fun _ p hp=>h.tup r (Reps.append h2.and1 h4.and2) hp⟩)
   ·intro z;rw[z] at l2;simp at l2;omega
   ·rw[l2,l4];exact hl.1
   ·intro z;rw[z] at l4;simp at l4;omega
  ·exact h.elim
 ·cases hx.int;cases hy.int
  exact⟨_,_,rfl,rfl,h.val r rfl⟩
 ·cases hx.int;cases hy.int
  split at h
  ·rename_i hl
   have hl:=qbk _ _ ▸ hl
   rcases hl with hl | hl
   ·exact .inl (.inl ⟨_,_,rfl,rfl,hl,h.val r rfl⟩)
   ·exact .inl (.inr ⟨_,_,rfl,rfl,hl,h.val r rfl⟩)
  ·exact h.elim
 ·obtain⟨p,xs,rfl,h1,h2⟩:=hx.lst
  cases hy.int
  split at h
  ·rename_i hl
   have hl:=qfK hl
   refine .inr (.inl ⟨_,_,_,rfl,rfl,h1,hl.1,hl.2.1,?_,fun p hp=>h.fre r e (RepsB.rep h2.and1 _) hp⟩)
   rw[h2.length];exact hl.2.2
  ·exact h.elim
 ·cases hx.str;cases hy.int
  split at h
  ·rename_i hl
   rw[Bool.and_eq_true,Bool.and_eq_true,Nat.ble_eq,Nat.ble_eq] at hl
   obtain⟨h1,h2,h3⟩:=hl
   have h1:=qfK h1
   refine .inr (.inr ⟨_,_,rfl,rfl,by omega,h1.2.1,by rw[qa7];exact h3,by rw[qa7];exact h1.2.2,?_⟩)
   rw[qiI]
   exact h.val r rfl
  ·exact h.elim
 ·cases hx.int;cases hy.int
  split at h
  ·rename_i hl
   exact⟨_,_,rfl,rfl,hl,h.val r rfl⟩
  ·exact h.elim
 ·cases hx.int;cases hy.int
  split at h
  ·rename_i hl
   exact⟨_,_,rfl,rfl,hl,h.val r rfl⟩
  ·exact h.elim
 ·cases hx.int;cases hy.int
  split at h
  ·rename_i hl
   exact⟨_,_,rfl,rfl,hl,h.val r rfl⟩
  ·exact h.elim
 ·cases hx.int;cases hy.int
  split at h
  ·rename_i hl
   exact⟨_,_,rfl,rfl,hl,h.val r rfl⟩
  ·exact h.elim
 ·cases hx.int;cases hy.int
  split at h
  ·rename_i hl
   exact⟨_,_,rfl,rfl,hl,h.val r rfl⟩
  ·exact h.elim
 ·cases hx.int;cases hy.int
  exact⟨_,_,rfl,rfl,h.val r rfl⟩
 ·cases hx.int;cases hy.int
  exact⟨_,_,rfl,rfl,h.val r rfl⟩
def qiD:Cop→CmpOp
 |.eq=>.Eq | .ne=>.NotEq | .lt=>.Lt | .le=>.LtE | .gt=>.Gt | .ge=>.GtE | .isin=>.In | .nin=>.NotIn
def qkU (K:PySem.W.Frag):Cop→R2
 |.eq=>fun x y H Q=>rEq x y H Q∨rEqD K x y H Q
 |.ne=>fun x y H Q=>rNe x y H Q∨rNeD K x y H Q
 |.lt=>rI0 fun i j=>.bl (decide (i<j))
 |.le=>rI0 fun i j=>.bl (decide (i≤j))
 |.gt=>rI0 fun i j=>.bl (decide (j<i))
 |.ge=>rI0 fun i j=>.bl (decide (j≤i))
 |.isin=>fun x y H Q=>(rInD K x y H Q∨rIn K false x y H Q)∨(fun x y H Q=>∃(c:Nat) (z:Str),x=.str ⟨#[c]⟩∧y=.str z∧Q (.bl (decide (c∈z.cps.toList))) H:R2) x y H Q
 |.nin=>fun x y H Q=>(rNotInD K x y H Q∨rIn K true x y H Q)∨(fun x y H Q=>∃(c:Nat) (z:Str),x=.str ⟨#[c]⟩∧y=.str z∧Q (.bl (!decide (c∈z.cps.toList))) H:R2) x y H Q
theorem qhn {X:Cx} (hu:X.A.units+65<cLine):∀o,OpR X (compareOp (qiD o)) (qkU X.K o)
 |.eq=>op_eq.or (op_eqD (by omega))
 |.ne=>op_ne.or (op_neD (by omega))
 |.lt=>op_lt
 |.le=>op_le
 |.gt=>op_gt
 |.ge=>op_ge
 |.isin=>((op_inD hu).or op_in_seq).or op_in_sign
 |.nin=>((op_notInD hu).or op_notIn_seq).or op_notIn_sign
theorem qcJ {C:Ctx} {P N H:Hp} {x y:D} {b c:Bool} {v u:V} {k:Bool} (r:Reg C P N H) (hx:ERw C P N H x b v) (hy:ERw C P N H y c u) (h:qeU x y=.ok k) :
  (scal v u=true∧decide (v=u)=k)∨∃d e,Dp C.G.K H v d∧Dp C.G.K H u e∧SeqAt.shaped d=true∧SeqAt.shaped e=true∧PyData.eqv d e=k:=by
 unfold qeU at h
 split at h
 ·cases hx.int;cases hy.int;cases h
  exact .inl ⟨rfl,by simp⟩
 ·cases hx.str;cases hy.str;cases h
  refine .inl ⟨rfl,?_⟩
  simp
 ·cases hx.bl;cases hy.bl;cases h
  exact .inl ⟨rfl,by rw[dec_bl]⟩
 ·split at h
  ·rename_i f
   simp only[Bool.and_eq_true] at f
   cases h
   exact .inr ⟨_,_,hx.dp r f.1,hy.dp r f.2,D.shaped f.1,D.shaped f.2,D.eqv_py _ _ _ _ f.1 f.2⟩
  ·cases h
theorem qhk {x:D} {n m:Nat} (hx:x.fit n=true):∀{ys:List D},D.fits ys m=true→((D.pys ys).any fun z=>PyData.eqv z x.py)=ys.any fun z=>z.eqb x
 |[],_=>rfl
 |y::ys,h=>by
  simp only[D.fits,Bool.and_eq_true] at h
  simp only[D.pys,List.any_cons]
  rw[qhk hx h.2,D.eqv_py y x m n h.1 hx]
theorem qdt {C:Ctx} {P N H:Hp} {x:D} {b:Bool} {v:V} (hx:Rep C.G P (LNb C.G.K P N C.R b) x v) (f:x.fit 0=true):flatV v=true:=by
 cases x<;>simp[D.fit] at f<;>cases hx<;>rfl
theorem qcL {C:Ctx} {P N H:Hp} {b:Bool}:∀{xs:List D} {vs:List V},RepsB C P N b xs vs→D.fits xs 0=true→vs.all flatV=true
 |[],_,h,_=>by cases h;rfl
 |x::xs,_,⟨v,r,e,h1,h2⟩,f=>by
  subst e
  simp only[D.fits,Bool.and_eq_true] at f
  simp only[List.all_cons,Bool.and_eq_true]
  exact⟨qdt (H:=H) h1 f.1,qcL (H:=H) h2 f.2⟩
theorem qis {C:Ctx} {P N:Hp} {x y:D} {b c:Bool} {v u:V} (hx:RepB C P N b x v) (hy:RepB C P N c y u) (fx:x.fit 0=true) (fy:y.fit 0=true):eqV v u=x.eqb y:=by
 cases x<;>simp[D.fit] at fx<;>cases y<;>simp[D.fit] at fy<;>cases hx<;>cases hy<;>simp[eqV,D.eqb]
 ·rw[Bool.eq_iff_iff,beq_iff_eq,decide_eq_true_iff]
 ·rw[Bool.eq_iff_iff,beq_iff_eq,decide_eq_true_iff]
 ·rw[Bool.eq_iff_iff,beq_iff_eq,decide_eq_true_iff]
 ·rw[Bool.eq_iff_iff,beq_iff_eq,decide_eq_true_iff]
  exact⟨fun q=>by injection q with q;exact qcg.mp q,fun q=>by rw[q]⟩
theorem qe7 {C:Ctx} {P N:Hp} {x:D} {b c:Bool} {v:V} (hx:RepB C P N b x v) (fx:x.fit 0=true):∀{ys:List D} {us:List V},RepsB C P N c ys us→D.fits ys 0=true→inV v us=ys.any fun z=>z.eqb x
 |[],_,h,_=>by cases h;rfl
 |y::ys,_,⟨u,r,e,h1,h2⟩,f=>by
  subst e
  simp only[D.fits,Bool.and_eq_true] at f
  have:=qe7 hx fx h2 f.2
  unfold inV at this ⊢
  simp only[List.any_cons]
  rw[this,qis h1 hx f.1 fx]
theorem qcP {C:Ctx} {P N H:Hp} {x y:D} {b c:Bool} {v u:V} {k:Bool} (r:Reg C P N H) (hx:ERw C P N H x b v) (hy:ERw C P N H y c u) (h:qhm x y=.ok k) :
  (∃d ds,Dp C.G.K H v d∧Dp C.G.K H u (.list ds)∧SeqAt.shaped d=true∧SeqAt.shaped (.list ds)=true∧(ds.any fun z=>PyData.eqv z d)=k) ∨
  (∃p xs,u=.ref p∧(SqL C.G.K H p xs∨SqT C.G.K H p xs)∧flatV v=true∧xs.all flatV=true∧inV v xs=k) ∨
  ∃(c:Nat) (z:Str),v=.str ⟨#[c]⟩∧u=.str z∧decide (c∈z.cps.toList)=k:=by
 unfold qhm at h
 split at h
 ·split at h
  ·rename_i ys f
   simp only[Bool.and_eq_true] at f
   cases h
   have f2:=f.2
   simp only[D.fit,Bool.and_eq_true] at f2
   refine .inl ⟨x.py,D.pys ys,hx.dp r f.1,hy.dp r f.2,D.shaped f.1,D.shaped f.2,qhk f.1 f2.2⟩
  ·cases h
 ·split at h
  ·rename_i ys f
   simp only[Bool.and_eq_true] at f
   cases h
   obtain⟨p,xs,rfl,h1,h2⟩:=hy.tup r
   have hx':RepB C P N b x v:=by
    cases x with
    |lst ds=>simp[D.fit] at f
    |_=>exact hx
   exact .inr (.inl ⟨p,xs,rfl,.inr h1,qdt (H:=H) hx' f.1,qcL (H:=H) h2 f.2,qe7 hx' f.1 h2 f.2⟩)
  ·cases h
 ·split at h
  ·cases hx.str;cases hy.str;cases h
   exact .inr (.inr ⟨_,_,rfl,rfl,rfl⟩)
  ·cases h
 ·cases h
theorem qjN {C:Ctx} (o:Cop):qmv C (evC o) (qkU C.G.K o):=by
 intro P N H x y b c v u Q k r hx hy h q
 cases o<;>simp only[evC] at h
 ·rcases qcJ r hx hy h with⟨h1,rfl⟩ | ⟨d,e,h1,h2,h3,h4,rfl⟩
  ·exact .inl ⟨h1,q⟩
  ·exact .inr ⟨d,e,h1,h2,h3,h4,q⟩
 ·cases e:qeU x y with
  |bad=>rw[e] at h;cases h
  |exc c fs=>rw[e] at h;cases h
  |ok k' =>
   rw[e] at h;cases h
   rcases qcJ r hx hy e with⟨h1,rfl⟩ | ⟨d,d2,h1,h2,h3,h4,rfl⟩
   ·exact .inl ⟨h1,q⟩
   ·exact .inr ⟨d,d2,h1,h2,h3,h4,q⟩
 ·split at h
  ·cases hx.int;cases hy.int;cases h
   exact⟨_,_,rfl,rfl,q⟩
  ·cases h
 ·split at h
  ·cases hx.int;cases hy.int;cases h
   exact⟨_,_,rfl,rfl,q⟩
  ·cases h
 ·split at h
  ·cases hx.int;cases hy.int;cases h
   exact⟨_,_,rfl,rfl,q⟩
  ·cases h
 ·split at h
  ·cases hx.int;cases hy.int;cases h
   exact⟨_,_,rfl,rfl,q⟩
  ·cases h
 ·rcases qcP r hx hy h with⟨d,e,h1,h2,h3,h4,rfl⟩ | ⟨p,xs,h1,h2,h3,h4,rfl⟩ | ⟨c,z,h1,h2,rfl⟩
  ·exact .inl (.inl ⟨d,e,h1,h2,h3,h4,q⟩)
  ·exact .inl (.inr ⟨p,xs,h1,h2,h3,h4,q⟩)
  ·exact .inr ⟨c,z,h1,h2,q⟩
 ·cases e:qhm x y with
  |bad=>rw[e] at h;cases h
  |exc c fs=>rw[e] at h;cases h
  |ok k' =>
   rw[e] at h;cases h
   rcases qcP r hx hy e with⟨d,d2,h1,h2,h3,h4,rfl⟩ | ⟨p,xs,h1,h2,h3,h4,rfl⟩ | ⟨c,z,h1,h2,rfl⟩
   ·exact .inl (.inl ⟨d,d2,h1,h2,h3,h4,q⟩)
   ·exact .inl (.inr ⟨p,xs,h1,h2,h3,h4,q⟩)
   ·exact .inr ⟨c,z,h1,h2,q⟩
end Cm
namespace Cm
open PySem PySem.Spec PyProof.Rows L2
variable [HasT]
section
variable {C:Ctx} {X:Cx}
theorem qal {X:Cx} {e:Expr} {t u:TE} (h:PE X e t) (f:∀σ H Q,u σ H Q→t σ H Q):PE X e u:=⟨fun pins s σ H Q I q=>h.run pins s σ H Q I (f _ _ _ q)⟩
theorem qc7 {X:Cx} {e:Expr} {t u:TT} (h:PT X e t) (f:∀σ H Q,u σ H Q→t σ H Q):PT X e u:=⟨fun pins s σ H Q I q=>h.run pins s σ H Q I (f _ _ _ q)⟩
theorem qbS {X:Cx} {e:List Expr} {t u:TA} (h:PA X e t) (f:∀σ H Q,u σ H Q→t σ H Q):PA X e u:=⟨fun pos pins s σ H Q I q=>h.run pos pins s σ H Q I (f _ _ _ q)⟩
theorem qf9 {e:Expr}:PE X e (tE C fun _=>.bad):=⟨fun pins s σ H Q I h=>by obtain⟨ρ,P,N,S,h⟩:=h;exact h.elim⟩
theorem qiB {i:Nat} {x:Str} {pos:Pos} (hN:X.N[i]? = some x) (hv:Vis X.env.scope x) (hd:(x == ("__debug__" : Str))=false) (hcd:(x == ("__classdict__" : Str))=false) :
  PE X (.Name x pos) (tE C fun ρ=>match ρ[i]? with
  |some (.val d b)=>.ok (.val d b)
  |some (.own ds b)=>.ok (.brw ds b)
  |some (.fxd d _)=>.ok (.val d false)
  |_=>.bad):=by
 refine qal (pe_var (i:=i) hN hv hd hcd) fun σ H Q h=>?_
 obtain⟨ρ,P,N,S,h⟩:=h
 cases e:ρ[i]? with
 |none=>simp only[e] at h;exact h.elim
 |some s =>
  obtain⟨o,h1,h2⟩:=S.sl i s e
  simp only[e] at h
  cases s with
  |non=>exact h.elim
  |val d b =>
   obtain⟨v,rfl,h3⟩:=h2
   exact⟨v,h1,h.val S.reg h3⟩
  |own ds b =>
   obtain⟨p,xs,rfl,h3,h4,h5,h6,h7⟩:=h2
   exact⟨.ref p,h1,h.now S.reg _ ⟨p,xs,rfl,h3,h4,h5,h6,h7⟩⟩
  |slf c fs=>exact h.elim
  |fxd d k =>
   obtain⟨v,rfl,_,h3⟩:=h2
   exact⟨v,h1,h.val S.reg h3⟩
  |dct m b=>exact h.elim
  |row _=>exact h.elim
theorem qjp {e:Expr} {v:V} {d:D} (h:PE X e (tC v)) (r:∀P N,RepB C P N true d v):PE X e (tE C fun _=>.ok (.val d true)):=by
 refine qal h fun σ H Q h=>?_
 obtain⟨ρ,P,N,S,h⟩:=h
 exact h.val S.reg (r P N)
theorem qh7 {g:List Sl→RE ER} (hg:∀ρ er,g ρ=.ok er→∃k,er=.val (.bl k) true) {σ:L2.St} {H:Hp} {Q:Bool→Hp→Prop} (h:tT C (fun ρ=>(g ρ).bind fun x=>qcv x.d) σ H Q) :
  tE C g σ H fun x H'=>∃k,x=.bl k∧Q k H':=by
 obtain⟨ρ,P,N,S,h⟩:=h
 refine⟨ρ,P,N,S,h.bind.mono fun x P1 N1 H1 e a1 h1 v rv=>?_⟩
 obtain⟨k,rfl⟩:=hg ρ x e
 exact⟨k,rv,h1.now (S.adv a1).reg⟩
abbrev qmS (o p:Cop) (ga gb gc:List Sl→RE ER):List Sl→RE ER:=fun ρ=>(ga ρ).bind fun x=>(gb ρ).bind fun y=>(evC o x.d y.d).bind fun k=>if k=true then (gc ρ).bind fun z=>(evC p y.d z.d).bind fun k'=>ok (.bl k') else ok (.bl false)
abbrev qki (o:Cop) (ga gb:List Sl→RE ER):List Sl→RE ER:=fun ρ=>(ga ρ).bind fun x=>(gb ρ).bind fun y=>(evC o x.d y.d).bind fun c=>ok (.bl c)
theorem qe2 {o:Cop} {ga gb:List Sl→RE ER} {σ:L2.St} {H:Hp} {Q:VK} (h:tE C (qki o ga gb) σ H Q):tOp (qkU C.G.K o) (tE C ga) (tE C gb) σ H Q:=by
 obtain⟨ρ,P,N,S,h⟩:=h
 refine⟨ρ,P,N,S,h.bind.mono fun x P1 N1 H1 _ a1 h1 v rv=>⟨ρ,P1,N1,S.adv a1,h1.bind.mono fun y P2 N2 H2 _ a2 h2 u ru=>?_⟩⟩
 have r2:=(S.adv (a1.trans a2)).reg
 have n1:=qjA o x.d y.d
 cases e:evC o x.d y.d with
 |bad=>rw[e] at h2;exact h2.elim
 |exc c fs=>rw[e] at n1;exact n1.elim
 |ok k =>
  rw[e] at h2
  exact qjN o r2 ((rv.adv a2).w r2) (ru.w r2) e (h2.val r2 rfl)
theorem qhI {o:Cop} {a b:Expr} {ga gb:List Sl→RE ER} {pos:Pos} (hu:X.A.units+65<cLine) (hK:X.K=C.G.K) (ha:PE X a (tE C ga)) (hb:PE X b (tE C gb)) (hm:behindInMarks (qiD o) b=false) :
  PE X (.Compare a [qiD o] [b] pos) (tE C (qki o ga gb)):=
 qal (pe_cmpR (qhn hu o) ha hb hm) fun σ H Q h=>by rw[hK];exact qe2 h
theorem qiE {o:Cop} {a b:Expr} {ga gb:List Sl→RE ER} {pos:Pos} (hu:X.A.units+65<cLine) (hK:X.K=C.G.K) (ha:PE X a (tE C ga)) (hb:PE X b (tE C gb)) (hm:behindInMarks (qiD o) b=false) :
  PT X (.Compare a [qiD o] [b] pos) (tT C fun ρ=>(qki o ga gb ρ).bind fun x=>qcv x.d):=
 qc7 (pt_cmpR (qhn hu o) ha hb hm) fun σ H Q h=>by
  rw[hK]
  refine qe2 (qh7 (fun ρ er e=>?_) h)
  cases e1:ga ρ<;>simp only[qki,e1,RE.bind_ok,RE.bind_bad,RE.bind_exc] at e<;>try cases e
  cases e2:gb ρ<;>simp only[e2,RE.bind_ok,RE.bind_bad,RE.bind_exc] at e<;>try cases e
  rename_i x y
  cases e3:evC o x.d y.d<;>simp only[e3,RE.bind_ok,RE.bind_bad,RE.bind_exc] at e<;>try cases e
  exact⟨_,rfl⟩
theorem qcA {P N H:Hp} {d:D} {b:Bool} {v:V} {k:Bool} (r:Reg C P N H) (h:ERw C P N H d b v) (e:qcv d=.ok k):TruV C.G.K v H k:=by
 cases d<;>simp only[qcv] at e<;>cases e
 ·have e:v=.non:=h
  subst e;rfl
 ·cases h.bl;rfl
 ·cases h.int;rfl
 ·obtain⟨p,xs,rfl,h1,h2⟩:=h.lst
  refine .inl ⟨xs,h1,?_⟩
  have:=h2.length
  rw[Bool.eq_iff_iff]
  simp[←List.length_eq_zero_iff,this]
 ·obtain⟨p,xs,rfl,h1,h2⟩:=h.tup r
  refine .inr (.inl ⟨xs,h1,?_⟩)
  have:=h2.length
  rw[Bool.eq_iff_iff]
  simp[←List.length_eq_zero_iff,this]
theorem qd3 (d:D):qcx (qcv d):=by cases d<;>trivial
theorem qiQ {g:List Sl→RE ER} {σ:L2.St} {H:Hp} {Q:Bool→Hp→Prop} (h:tT C (fun ρ=>(g ρ).bind fun x=>qcv x.d) σ H Q):tE C g σ H fun x H'=>∃k,TruV C.G.K x H' k∧Q k H':=by
 obtain⟨ρ,P,N,S,h⟩:=h
 refine⟨ρ,P,N,S,h.bind.mono fun x P1 N1 H1 e a1 h1 v rv=>?_⟩
 have r1:=(S.adv a1).reg
 have n1:=qd3 x.d
 cases e:qcv x.d with
 |bad=>rw[e] at h1;exact h1.elim
 |exc c fs=>rw[e] at n1;exact n1.elim
 |ok k =>
  rw[e] at h1
  exact⟨k,qcA r1 (rv.w r1) e,h1.now r1⟩
theorem qhL {e:Expr} {g:List Sl→RE ER} (hK:X.K=C.G.K) (h:PE X e (tE C g)) (he:∀whole,isTrue e X.env whole=(do let v ←whole;standAt e.pos;holding [v] (truthy v))):PT X e (tT C fun ρ=>(g ρ).bind fun x=>qcv x.d):=
 qc7 (pt_truth h he) fun σ H Q q=>by rw[hK];exact qiQ q
theorem ERw.non {P N H:Hp} {d:D} {b:Bool} {v:V} (h:ERw C P N H d b v):decide (v=V.non)=d.isNon:=by
 cases d with
 |non=>have e:v=.non:=h;subst e;rfl
 |bl _=>cases h.bl;rfl
 |int _=>cases h.int;rfl
 |str _=>cases h.str;rfl
 |lst _=>obtain⟨p,xs,rfl,_⟩:=h;rfl
 |tup _=>obtain⟨p,xs,rfl,_⟩:=h;rfl
 |ins _ _=>obtain⟨p,dx,xs,rfl,_⟩:=h;rfl
 |exc _ _=>obtain⟨_,a,rfl,_⟩:=h;rfl
abbrev qmX (k:Bool) (g:List Sl→RE ER):List Sl→RE ER:=fun ρ=>(g ρ).bind fun x=>ok (.bl (if k=true then x.d.isNon else !x.d.isNon))
abbrev gBv (c:Bool) (g g':List Sl→RE ER):List Sl→RE ER:=fun ρ=>(g ρ).bind fun x=>match x.d with
  |.bl k=>if k=c then g' ρ else ok (.bl k)
  |_=>.bad
def qgn (c:Bool):BoolOp:=if c=true then .And else .Or
theorem qju {a:Expr} {c:Bool} {g:List Sl→RE ER} {pos:Pos} (h:PE X a (tE C g)):PE X (.BoolOp (qgn c) [a] pos) (tE C (gBv c g fun _=>ok (.bl c))):=by
 refine qal (pe_one h) fun σ H Q q=>?_
 obtain⟨ρ,P,N,S,h⟩:=q
 refine⟨ρ,P,N,S,h.bind.mono fun x P1 N1 H1 e a1 h1 v rv=>?_⟩
 have r1:=(S.adv a1).reg
 split at h1
 ·rename_i k e
  have w:=rv.w r1
  rw[e] at w
  cases w.bl
  split at h1
  ·rename_i e;subst e;exact h1.val r1 rfl
  ·exact h1.val r1 rfl
 ·exact h1.elim
theorem qkR {a b:Expr} {rest:List Expr} {c:Bool} {g g':List Sl→RE ER} {pos:Pos} (h:PE X a (tE C g)) (h':PE X (.BoolOp (qgn c) (b::rest) pos) (tE C g')):PE X (.BoolOp (qgn c) (a::b::rest) pos) (tE C (gBv c g g')):=by
 have z:∀σ H Q,tE C (gBv c g g') σ H Q→tE C g σ H fun x H1=>∃k,x=.bl k∧if k=c then tE C g' σ H1 Q else Q (.bl k) H1:=fun σ H Q q=>by
  obtain⟨ρ,P,N,S,h⟩:=q
  refine⟨ρ,P,N,S,h.bind.mono fun x P1 N1 H1 e a1 h1 v rv=>?_⟩
  have r1:=(S.adv a1).reg
  split at h1
  ·rename_i k e
   have w:=rv.w r1
   rw[e] at w
   refine⟨k,w.bl,?_⟩
   split at h1
   ·rename_i e
    rw[if_pos e]
    exact⟨ρ,P1,N1,S.adv a1,h1.mono fun y P2 N2 H2 _ a2 h2 v rv=>h2 v (rv.from a1.hh.s)⟩
   ·rename_i e
    rw[if_neg e]
    exact h1.val r1 rfl
  ·exact h1.elim
 cases c with
 |true =>
  refine qal (pe_and h h') fun σ H Q q=>?_
  obtain⟨ρ,P,N,S,q⟩:=z σ H Q q
  refine⟨ρ,P,N,S,q.mono fun x P1 N1 H1 e a1 h1 v rv=>?_⟩
  obtain⟨k,e,h2⟩:=h1 v rv
  refine⟨k,e,?_⟩
  cases k
  ·exact h2
  ·exact h2
 |false =>
  refine qal (pe_or h h') fun σ H Q q=>?_
  obtain⟨ρ,P,N,S,q⟩:=z σ H Q q
  refine⟨ρ,P,N,S,q.mono fun x P1 N1 H1 e a1 h1 v rv=>?_⟩
  obtain⟨k,e,h2⟩:=h1 v rv
  refine⟨k,e,?_⟩
  cases k
  ·exact h2
  ·exact h2
theorem qgz {a:Expr} {g:List Sl→RE ER} {pos:Pos} (hK:X.K=C.G.K) (h:PE X a (tE C g)):PE X (.UnaryOp .Not a pos) (tE C fun ρ=>(g ρ).bind fun x=>(qcv x.d).bind fun k=>ok (.bl (!k))):=by
 refine qal (pe_notT h) fun σ H Q q=>?_
 rw[hK]
 obtain⟨ρ,P,N,S,h⟩:=q
 refine⟨ρ,P,N,S,h.bind.mono fun x P1 N1 H1 e a1 h1 v rv=>?_⟩
 have r1:=(S.adv a1).reg
 have n1:=qd3 x.d
 cases e:qcv x.d with
 |bad=>rw[e] at h1;exact h1.elim
 |exc c fs=>rw[e] at n1;exact n1.elim
 |ok k =>
  rw[e] at h1
  exact⟨k,qcA r1 (rv.w r1) e,h1.val r1 rfl⟩
theorem qhT {a:Expr} {g:List Sl→RE Bool} {pos:Pos} (h:PT X a (tT C g)):PT X (.UnaryOp .Not a pos) (tT C fun ρ=>(g ρ).bind fun k=>.ok (!k)):=by
 refine qc7 (pt_not h) fun σ H Q q=>?_
 obtain⟨ρ,P,N,S,h⟩:=q
 exact⟨ρ,P,N,S,h.bind.mono fun x P1 N1 H1 e a1 h1=>h1.now (S.adv a1).reg⟩
abbrev gBs (c:Bool) (g g':List Sl→RE Bool):List Sl→RE Bool:=fun ρ=>(g ρ).bind fun k=>if k=c then g' ρ else .ok k
theorem qcT {e:Expr} {t u:TT} (h:PW X e t) (f:∀σ H Q,u σ H Q→t σ H Q):PW X e u:=⟨fun w pins s σ H Q I q=>h.run w pins s σ H Q I (f _ _ _ q)⟩
theorem qjd {a:Expr} {c:Bool} {g:List Sl→RE Bool} {pos:Pos} (h:PT X a (tT C g)):PW X (.BoolOp (qgn c) [a] pos) (tT C (gBs c g fun _=>.ok c)):=by
 have z:∀σ H Q,tT C (gBs c g fun _=>.ok c) σ H Q→tT C g σ H Q:=fun σ H Q q=>by
  obtain⟨ρ,P,N,S,h⟩:=q
  refine⟨ρ,P,N,S,h.bind.mono fun k P1 N1 H1 e a1 h1=>?_⟩
  split at h1
  ·rename_i e;subst e;exact h1.now (S.adv a1).reg
  ·exact h1.now (S.adv a1).reg
 cases c with
 |true=>exact qcT (pw_and1 h) z
 |false=>exact qcT (pw_or1 h) z
theorem qkK {a b:Expr} {rest:List Expr} {c:Bool} {g g':List Sl→RE Bool} {pos:Pos} (h:PT X a (tT C g)) (h':PW X (.BoolOp (qgn c) (b::rest) pos) (tT C g')):PW X (.BoolOp (qgn c) (a::b::rest) pos) (tT C (gBs c g g')):=by
 have z:∀σ H Q,tT C (gBs c g g') σ H Q→tT C g σ H fun k H1=>if k=c then tT C g' σ H1 Q else Q k H1:=fun σ H Q q=>by
  obtain⟨ρ,P,N,S,h⟩:=q
  refine⟨ρ,P,N,S,h.bind.mono fun k P1 N1 H1 e a1 h1=>?_⟩
  split at h1
  ·rename_i e;rw[if_pos e];exact⟨ρ,P1,N1,S.adv a1,h1⟩
  ·rename_i e;rw[if_neg e];exact h1.now (S.adv a1).reg
 cases c with
 |true =>
  refine qcT (pw_and h h') fun σ H Q q=>?_
  obtain⟨ρ,P,N,S,q⟩:=z σ H Q q
  refine⟨ρ,P,N,S,q.mono fun k P1 N1 H1 e a1 h1=>?_⟩
  cases k<;>exact h1
 |false =>
  refine qcT (pw_or h h') fun σ H Q q=>?_
  obtain⟨ρ,P,N,S,q⟩:=z σ H Q q
  refine⟨ρ,P,N,S,q.mono fun k P1 N1 H1 e a1 h1=>?_⟩
  cases k<;>exact h1
theorem qin:PA X [] (tA C fun _=>.ok []):=by
 refine qbS pa_nil fun σ H Q q=>?_
 obtain⟨ρ,P,N,S,h⟩:=q
 exact h.now S.reg [] rfl
theorem qg3 {e:Expr} {es:List Expr} {g:List Sl→RE ER} {g':List Sl→RE (List ER)} (h:PE X e (tE C g)) (h':PA X es (tA C g')) (hs:starEach (e::es) X.env=(false,eval e X.env)::starEach es X.env) :
  PA X (e::es) (tA C fun ρ=>(g ρ).bind fun x=>(g' ρ).bind fun r=>.ok (x.frz::r)):=by
 refine qbS (pa_cons h h' hs) fun σ H Q q=>?_
 obtain⟨ρ,P,N,S,h⟩:=q
 refine⟨ρ,P,N,S,h.bind.mono fun x P1 N1 H1 e a1 h1 v rv=>?_⟩
 obtain⟨N2,a2,r2⟩:=rv.freeze a1
 have h2:res C σ P1 N2 H1 ((g' ρ).bind fun r=>.ok (x.frz::r)) fun es P' N' H'=>∀vs,ERs C P' N' H' H es vs→Q vs H':=by
  simp only[e,RE.bind_ok] at h
  exact res.adv a2 h
 exact⟨ρ,P1,N2,S.adv a2,h2.bind.mono fun es P3 N3 H3 e a3 h3 vs rvs=>h3.now ((S.adv a2).adv a3).reg _ ⟨v,vs,rfl,r2.adv a3,rvs.from a2.hh.s⟩⟩
end
end Cm
namespace Cm
open PySem PySem.Spec PyProof.Rows L2
variable [HasT]
section
variable {C:Ctx} {X:Cx}
theorem ERs.reps {P N H H0:Hp}:∀{es:List ER} {vs:List V},ERs C P N H H0 es vs→es.all ER.isV=true→RepsB C P N (es.all ER.b) (es.map ER.d) vs
 |[],_,h,_=>h
 |e::es,_,⟨v,r,q,h2,h3⟩,z=>by
  subst q
  simp only[List.all_cons,Bool.and_eq_true] at z
  cases e with
  |val d b=>exact⟨v,r,rfl,RepB.and1 h2,RepsB.and2 (ERs.reps h3 z.2)⟩
  |fre d b=>exact absurd z.1 (by simp[ER.isV])
  |brw d b=>exact absurd z.1 (by simp[ER.isV])
theorem ERs.w {P N H H0:Hp} (r:Reg C P N H) {e:ER} {es:List ER} {vs:List V} (h:ERs C P N H H0 (e::es) vs):∃v u,vs=v::u∧ERw C P N H e.d e.b v∧ERs C P N H H0 es u:=by
 obtain⟨v,u,q,h2,h3⟩:=h
 exact⟨v,u,q,h2.w r,h3⟩
theorem qhR {es:List Expr} {k:Nat} {g:List Sl→RE (List ER)} {pos:Pos} (h:PA X es (tA C g)) (hl:∀ρ r,g ρ=.ok r→r.length≤LIM):PE X (.Tuple es k pos) (tE C fun ρ=>(g ρ).bind fun r=>dis (fun ds b=>.val (.tup ds) b) r):=by
 refine qal (pe_tup h) fun σ H Q q=>?_
 obtain⟨ρ,P,N,S,h⟩:=q
 refine⟨ρ,P,N,S,h.bind.mono fun r P1 N1 H1 e a1 h1 vs rv=>?_⟩
 have r1:=(S.adv a1).reg
 unfold dis at h1
 split at h1
 ·rename_i z
  have rr:=rv.reps z
  refine⟨?_,fun p hp=>h1.tup r1 rr hp⟩
  rw[rr.length,List.length_map]
  exact hl _ _ e
 ·exact h1.elim
theorem qia {es:List Expr} {g:List Sl→RE (List ER)} {pos:Pos} (h:PA X es (tA C g)) (hl:∀ρ r,g ρ=.ok r→r.length≤LIM):PE X (.List es pos) (tE C fun ρ=>(g ρ).bind fun r=>dis .fre r):=by
 refine qal (pe_lst h) fun σ H Q q=>?_
 obtain⟨ρ,P,N,S,h⟩:=q
 refine⟨ρ,P,N,S,h.bind.mono fun r P1 N1 H1 e a1 h1 vs rv=>?_⟩
 have r1:=(S.adv a1).reg
 unfold dis at h1
 split at h1
 ·rename_i z
  have rr:=rv.reps z
  refine⟨?_,fun p hp=>h1.fre r1 a1.hh rr hp⟩
  rw[rr.length,List.length_map]
  exact hl _ _ e
 ·exact h1.elim
theorem qf7 {P N:Hp} {b:Bool} {ds:List D} {xs:List V} {i:Int} {d:D} (h:RepsB C P N b ds xs) (e:atI ds i=some d):∃v,atI xs i=some v∧RepB C P N b d v:=by
 unfold atI at e ⊢
 rw[h.length]
 cases q:ixN ds.length i with
 |none=>rw[q] at e;cases e
 |some j =>
  rw[q] at e
  exact h.get e
theorem qiu {a i:Expr} {ga gi:List Sl→RE ER} {pos:Pos} (hK:X.K=C.G.K) (ha:PE X a (tE C ga)) (hi:PE X i (tE C gi)) (hs:PlainIx i):PE X (.Subscript a i pos) (tE C fun ρ=>(ga ρ).bind fun x=>(gi ρ).bind fun y=>qhC x.d y.d x.b):=by
 refine qal (pe_ix ix_seq ha hi hs) fun σ H Q q=>?_
 rw[hK]
 obtain⟨ρ,P,N,S,h⟩:=q
 refine⟨ρ,P,N,S,h.bind.mono fun x P1 N1 H1 _ a1 h1 v rv=>⟨ρ,P1,N1,S.adv a1,h1.bind.mono fun y P2 N2 H2 _ a2 h2 u ru=>?_⟩⟩
 have r2:=(S.adv (a1.trans a2)).reg
 have wx:=(rv.adv a2).w r2
 have wy:=ru.w r2
 unfold qhC at h2
 simp only[qdn,qaE,qai,qbk,qbi,qaT,qbj,qa3,qbn,qbo,qbl] at h2
 split at h2
 ·rename_i ds i e1 e2
  rw[e1] at wx;rw[e2] at wy
  obtain⟨p,xs,rfl,h3,h4⟩:=wx.lst
  cases wy.int
  split at h2
  ·rename_i d e
   obtain⟨v,e',h5⟩:=qf7 h4 e
   exact .inl ⟨p,xs,i,v,rfl,rfl,h3,e',h2.val r2 h5.nf⟩
  ·exact h2.elim
 ·rename_i ds i e1 e2
  rw[e1] at wx;rw[e2] at wy
  obtain⟨p,xs,rfl,h3,h4⟩:=wx.tup r2
  cases wy.int
  split at h2
  ·rename_i d e
   obtain⟨v,e',h5⟩:=qf7 h4 e
   exact .inr (.inl ⟨p,xs,i,v,rfl,rfl,h3,e',h2.val r2 h5.nf⟩)
  ·exact h2.elim
 ·rename_i s i e1 e2
  rw[e1] at wx;rw[e2] at wy
  cases wx.str
  cases wy.int
  split at h2
  ·rename_i hl
   split at h2
   ·rename_i c e
    refine .inr (.inr ⟨_,i,c,rfl,rfl,?_,?_,?_⟩)
    ·rw[qa7];exact hl
    ·exact e
    ·exact h2.val r2 rfl
   ·exact h2.elim
  ·exact h2.elim
 ·exact h2.elim
theorem qhc:PO X none (tO C fun _=>.ok none):=⟨fun pins s σ H Q I q=>by
 obtain⟨ρ,P,N,S,h⟩:=q
 exact po_none.run pins s σ H Q I (h.now S.reg)⟩
theorem qgJ {e:Expr} {g:List Sl→RE ER} (h:PE X e (tE C g)):PO X (some e) (tO C fun ρ=>(g ρ).bind fun x=>match x.d with
  |.int i=>.ok (some i)
  |_=>.bad):=⟨fun pins s σ H Q I q=>by
 obtain⟨ρ,P,N,S,h'⟩:=q
 refine(po_some h).run pins s σ H Q I ⟨ρ,P,N,S,h'.bind.mono fun x P1 N1 H1 _ a1 h1 v rv=>?_⟩
 have r1:=(S.adv a1).reg
 split at h1
 ·rename_i i e
  have w:=rv.w r1
  rw[e] at w
  exact⟨i,w.int,h1.now r1⟩
 ·exact h1.elim⟩
def qlX (K:PySem.W.Frag) (te:TE):TE:=fun σ H Q=>te σ H fun x H1=>(∃a xs,x=.ref a∧SqL K H1 a xs∧∀p,H1 p=none→Q (.ref p) (upd H1 p (.lst xs.reverse))) ∨
 (∃a xs,x=.ref a∧SqT K H1 a xs∧∀p,H1 p=none→Q (.ref p) (upd H1 p (.tup xs.reverse)))
def qlm:Pri→Value
 |.len=>.builtin "len" |.abs=>.builtin "abs" |.min2=>.builtin "min" |.max2=>.builtin "max" |.min1=>.builtin "min" |.max1=>.builtin "max" |.sum=>.builtin "sum" |.sorted=>.builtin "sorted"
 |.all=>.builtin "all" |.any=>.builtin "any" |.list=>.type "list" |.tupl=>.type "tuple" |.int=>.type "int" |.str=>.type "str" |.dmd=>.builtin "divmod"
def qhg:Pri→Str
 |.len=>"len" |.abs=>"abs" |.min2=>"min" |.max2=>"max" |.min1=>"min" |.max1=>"max" |.sum=>"sum" |.sorted=>"sorted"
 |.all=>"all" |.any=>"any" |.list=>"list" |.tupl=>"tuple" |.int=>"int" |.str=>"str" |.dmd=>"divmod"
def qln (K:PySem.W.Frag):Pri→List V→Hp→VK→Prop
 |.len=>fun xs H Q=>(∃x n,xs=[x]∧LenV K x H n∧Q (.int n) H)
 |.abs=>fun xs H Q=>∃i,xs=[.int i]∧Q (.int (if i<0 then -i else i)) H
 |.min2=>fun xs H Q=>∃i j,xs=[.int i,.int j]∧Q (.int (if j<i then j else i)) H
 |.max2=>fun xs H Q=>∃i j,xs=[.int i,.int j]∧Q (.int (if j>i then j else i)) H
 |.min1=>rMin K
 |.max1=>rMax K
 |.sum=>rSum K
 |.sorted=>rSortedI K
 |.all=>rAll K
 |.any=>rAny K
 |.list=>fun xs H Q=>∃p ys,xs=[.ref p]∧(SqL K H p ys∨SqT K H p ys)∧∀l,H l=none→Q (.ref l) (upd H l (.lst ys))
 |.tupl=>fun xs H Q=>∃p ys,xs=[.ref p]∧SqL K H p ys∧∀l,H l=none→Q (.ref l) (upd H l (.tup ys))
 |.int=>fun xs H Q=>((∃i,xs=[.int i]∧Q (.int i) H)∨∃k,xs=[.bl k]∧Q (.int (if k then 1 else 0)) H)∨∃a n,xs=[.str a]∧intText? a=some n∧a.length≤640∧Q (.int n) H
 |.dmd=>fun xs H Q=>∃i j,xs=[.int i,.int j]∧CDiv i j∧∀p,H p=none→Q (.ref p) (upd H p (.tup [.int (i / j),.int (i % j)]))
 |.str=>fun xs H Q=>∃i,xs=[.int i]∧i.natAbs.log2<1920∧Q (.str (toString i)) H
theorem qjl (hc:X.calm=true):∀p,CallR X (qlm p) (qln X.K p)
 |.len=>call_len
 |.abs=>call_abs
 |.min2=>call_min2 hc
 |.max2=>call_max2 hc
 |.min1=>cr_min hc
 |.max1=>cr_max hc
 |.sum=>cr_sum hc
 |.sorted=>cr_sortedI
 |.all=>cr_all hc
 |.any=>cr_any hc
 |.list=>call_list_of
 |.tupl=>fun pins s σ H vs us Q I r q=>by
  obtain⟨p,ys,e,h1,h2⟩:=q
  exact call_tuple_of pins s σ H vs us Q I r ⟨p,ys,e,.inl ⟨h1,h2⟩⟩
 |.int=>fun pins s σ H vs us Q I r q=>by
  rcases q with q | q
  ·exact call_int1 pins s σ H vs us Q I r q
  ·exact call_int_str pins s σ H vs us Q I r q
 |.dmd=>call_divmod
 |.str=>call_str_int
theorem qbe {P N:Hp} {b:Bool}:∀{ds:List D} {ns:List Int} {xs:List V},qay ds=some ns→RepsB C P N b ds xs→xs=ns.map V.int
 |[],ns,xs,e,h=>by cases e;cases h;rfl
 |d::ds,ns,xs,e,⟨v,r,q,h1,h2⟩=>by
  cases d<;>simp only[qay] at e<;>try cases e
  rename_i i
  cases e2:qay ds with
  |none=>rw[e2] at e;cases e
  |some ms =>
   rw[e2] at e;cases e
   have q1:v=.int i:=h1
   rw[q,q1,qbe e2 h2];rfl
theorem qbP {P N:Hp} {b:Bool}:∀{ds:List D} {ns:List Bool} {xs:List V},qcH ds=some ns→RepsB C P N b ds xs→xs=ns.map V.bl
 |[],ns,xs,e,h=>by cases e;cases h;rfl
 |d::ds,ns,xs,e,⟨v,r,q,h1,h2⟩=>by
  cases d<;>simp only[qcH] at e<;>try cases e
  rename_i i
  cases e2:qcH ds with
  |none=>rw[e2] at e;cases e
  |some ms =>
   rw[e2] at e;cases e
   have q1:v=.bl i:=h1
   rw[q,q1,qbP e2 h2];rfl
theorem qfw:∀(n:Int) (ns:List Int),qfn (n::ns)∈n::ns∧∀y∈n::ns,qfn (n::ns)≤y
 |n,[]=>by simp[qfn]
 |n,m::ns=>by
  obtain⟨h1,h2⟩:=qfw m ns
  have e:qfn (n::m::ns)=min n (qfn (m::ns)):=rfl
  rw[e]
  constructor
  ·rcases Int.le_total n (qfn (m::ns)) with h | h
   ·rw[Int.min_eq_left h];simp
   ·rw[Int.min_eq_right h];exact List.mem_cons_of_mem _ h1
  ·intro y hy
   rcases List.mem_cons.mp hy with rfl | hy
   ·exact Int.min_le_left _ _
   ·exact Int.le_trans (Int.min_le_right _ _) (h2 y hy)
theorem qf6:∀(n:Int) (ns:List Int),qfk (n::ns)∈n::ns∧∀y∈n::ns,y≤qfk (n::ns)
 |n,[]=>by simp[qfk]
 |n,m::ns=>by
  obtain⟨h1,h2⟩:=qf6 m ns
  have e:qfk (n::m::ns)=max n (qfk (m::ns)):=rfl
  rw[e]
  constructor
  ·rcases Int.le_total n (qfk (m::ns)) with h | h
   ·rw[Int.max_eq_right h];exact List.mem_cons_of_mem _ h1
   ·rw[Int.max_eq_left h];simp
  ·intro y hy
   rcases List.mem_cons.mp hy with rfl | hy
   ·exact Int.le_max_left _ _
   ·exact Int.le_trans (h2 y hy) (Int.le_max_right _ _)
theorem qb9 (x:Int):∀ns:List Int,(qiG x ns).Perm (x::ns)
 |[]=>.refl _
 |y::ys=>by
  unfold qiG
  split
  ·exact .refl _
  ·exact((qb9 x ys).cons y).trans (List.Perm.swap x y ys)
theorem qcC:∀ns:List Int,(qc3 ns).Perm ns
 |[]=>.refl _
 |x::xs=>(qb9 x (qc3 xs)).trans ((qcC xs).cons x)
theorem qeo (x:Int):∀ns:List Int,ns.Pairwise (· ≤ ·)→(qiG x ns).Pairwise (· ≤ ·)
 |[],_=>by simp[qiG]
 |y::ys,h=>by
  unfold qiG
  have h':=List.pairwise_cons.mp h
  split
  ·rename_i hxy
   refine List.pairwise_cons.mpr ⟨fun z hz=>?_,h⟩
   rcases List.mem_cons.mp hz with rfl | hz
   ·exact hxy
   ·exact Int.le_trans hxy (h'.1 z hz)
  ·rename_i hxy
   refine List.pairwise_cons.mpr ⟨fun z hz=>?_,qeo x ys h'.2⟩
   rcases List.mem_cons.mp ((qb9 x ys).mem_iff.mp hz) with rfl | hz
   ·omega
   ·exact h'.1 z hz
theorem qdY:∀ns:List Int,(qc3 ns).Pairwise (· ≤ ·)
 |[]=>.nil
 |x::xs=>qeo x _ (qdY xs)
theorem qcz:∀{l m:List Int},l.Perm m→l.Pairwise (· ≤ ·)→m.Pairwise (· ≤ ·)→l=m
 |[],m,p,_,_=>(List.nil_perm.mp p).symm
 |x::l,[],p,_,_=>(List.perm_nil.mp p)
 |x::l,y::m,p,h,h'=>by
  have a:=List.pairwise_cons.mp h
  have b:=List.pairwise_cons.mp h'
  have e:x=y:=by
   have h1:x∈y::m:=p.mem_iff.mp (by simp)
   have h2:y∈x::l:=p.mem_iff.mpr (by simp)
   rcases List.mem_cons.mp h1 with h1 | h1
   ·exact h1
   ·rcases List.mem_cons.mp h2 with h2 | h2
    ·exact h2.symm
    ·have:=a.1 y h2;have:=b.1 x h1;omega
  subst e
  rw[qcz (List.Perm.cons_inv p) a.2 b.2]
theorem qim (p:Pri) {g:List Sl→RE (List ER)} {σ:L2.St} {H:Hp} {Q:VK} (h:tE C (fun ρ=>(g ρ).bind (evP p)) σ H Q):tCB (qln C.G.K p) (tA C g) σ H Q:=by
 obtain⟨ρ,P,N,S,h⟩:=h
 refine⟨ρ,P,N,S,h.bind.mono fun es P1 N1 H1 _ a1 h1 vs rv=>?_⟩
 have r:=(S.adv a1).reg
 have hh:=a1.hh
 clear h S a1
 unfold evP at h1
 simp only[qdn,qaE,qai,qbk,qbi,qaT,qbj,qa3,qbn,qbo,qbl] at h1
 split at h1
 all_goals try exact h1.elim
 all_goals obtain⟨v,u,rfl,w,rv⟩:=rv.w r
 all_goals first
  |(obtain⟨v2,u2,rfl,w2,rv⟩:=rv.w r;cases rv)
  |cases rv
 all_goals split at h1
 all_goals try exact h1.elim
 all_goals rename_i q1
 -- len
 ·rw[q1] at w
  obtain⟨p,xs,rfl,h4,h5⟩:=w.lst
  exact⟨_,xs.length,rfl,.inl ⟨xs,h4,rfl⟩,by rw[h5.length];exact h1.val r rfl⟩
 ·rw[q1] at w
  obtain⟨p,xs,rfl,h4,h5⟩:=w.tup r
  exact⟨_,xs.length,rfl,.inr ⟨xs,h4,rfl⟩,by rw[h5.length];exact h1.val r rfl⟩
 ·rw[q1] at w
  cases w.str
  split at h1
  ·rename_i hl
   exact⟨_,_,rfl,⟨by rw[qa7];exact hl,rfl⟩,by rw[qa7];exact h1.val r rfl⟩
  ·exact h1.elim
 -- abs
 ·rw[q1] at w
  cases w.int
  exact⟨_,rfl,h1.val r rfl⟩
 -- min2 max2
 ·rename_i q2
  rw[q2] at w;rw[q1] at w2
  cases w.int;cases w2.int
  exact⟨_,_,rfl,h1.val r rfl⟩
 ·rename_i q2
  rw[q2] at w;rw[q1] at w2
  cases w.int;cases w2.int
  exact⟨_,_,rfl,h1.val r rfl⟩
 -- min1 max1
 ·rw[q1] at w
  obtain⟨p,xs,rfl,h4,h5⟩:=w.lst
  split at h1
  ·rename_i n ns q2
   have e:=qbe q2 h5
   subst e
   obtain⟨z1,z2⟩:=qfw n ns
   refine⟨p,n::ns,rfl,h4,by simp,fun m hm hy=>?_⟩
   have:m=qfn (n::ns):=by
    have:=hy _ z1
    have:=z2 _ hm
    omega
   rw[this]
   exact h1.val r rfl
  ·exact h1.elim
 ·rw[q1] at w
  obtain⟨p,xs,rfl,h4,h5⟩:=w.lst
  split at h1
  ·rename_i n ns q2
   have e:=qbe q2 h5
   subst e
   obtain⟨z1,z2⟩:=qf6 n ns
   refine⟨p,n::ns,rfl,h4,by simp,fun m hm hy=>?_⟩
   have:m=qfk (n::ns):=by
    have:=hy _ z1
    have:=z2 _ hm
    omega
   rw[this]
   exact h1.val r rfl
  ·exact h1.elim
 -- sum
 ·rw[q1] at w
  obtain⟨p,xs,rfl,h4,h5⟩:=w.lst
  split at h1
  ·rename_i ns q2
   have e:=qbe q2 h5
   subst e
   exact⟨p,ns,rfl,h4,h1.val r rfl⟩
  ·exact h1.elim
 -- sorted
 ·rw[q1] at w
  obtain⟨p,xs,rfl,h4,h5⟩:=w.lst
  split at h1
  ·rename_i ns q2
   have e:=qbe q2 h5
   subst e
   refine⟨p,ns,rfl,h4,fun ns' p z1 z2 hp=>?_⟩
   have:ns'=qc3 ns:=qcz (z1.trans (qcC ns).symm) z2 (qdY ns)
   rw[this]
   exact h1.fre r hh (Reps.ints.mpr rfl) hp
  ·exact h1.elim
 -- all any
 ·rw[q1] at w
  obtain⟨p,xs,rfl,h4,h5⟩:=w.lst
  split at h1
  ·rename_i ns q2
   have e:=qbP q2 h5
   subst e
   exact⟨p,ns,rfl,h4,h1.val r rfl⟩
  ·exact h1.elim
 ·rw[q1] at w
  obtain⟨p,xs,rfl,h4,h5⟩:=w.lst
  split at h1
  ·rename_i ns q2
   have e:=qbP q2 h5
   subst e
   exact⟨p,ns,rfl,h4,h1.val r rfl⟩
  ·exact h1.elim
 -- list
 ·rw[q1] at w
  obtain⟨p,xs,rfl,h4,h5⟩:=w.lst
  exact⟨p,xs,rfl,.inl h4,fun l hl=>h1.fre r hh h5.nf hl⟩
 ·rw[q1] at w
  obtain⟨p,xs,rfl,h4,h5⟩:=w.tup r
  exact⟨p,xs,rfl,.inr h4,fun l hl=>h1.fre r hh h5.nf hl⟩
 -- tuple
 ·rw[q1] at w
  obtain⟨p,xs,rfl,h4,h5⟩:=w.lst
  exact⟨p,xs,rfl,h4,fun l hl=>h1.tup r h5.nf hl⟩
 -- int
 ·rw[q1] at w
  cases w.int
  exact .inl (.inl ⟨_,rfl,h1.val r rfl⟩)
 ·rw[q1] at w
  cases w.bl
  exact .inl (.inr ⟨_,rfl,h1.val r rfl⟩)
 ·rw[q1] at w
  cases w.str
  split at h1
  ·rename_i n q2
   split at h1
   ·rename_i hl
    rw[Nat.ble_eq] at hl
    exact .inr ⟨_,n,rfl,q2,by rw[qa7];exact hl,h1.val r rfl⟩
   ·exact h1.elim
  ·exact h1.elim
 -- divmod
 ·rename_i q2
  rw[q2] at w;rw[q1] at w2
  cases w.int;cases w2.int
  split at h1
  ·rename_i hl
   rw[qii] at hl
   exact⟨_,_,rfl,hl,fun p hp=>h1.tup r ⟨_,_,rfl,rfl,_,_,rfl,rfl,rfl⟩ hp⟩
  ·exact h1.elim
 -- str
 ·rw[q1] at w
  cases w.int
  split at h1
  ·rename_i hl
   refine⟨_,rfl,hl,h1.val r ?_⟩
   show V.str _=V.str _
   rfl
  ·exact h1.elim
theorem qha:∀p,bootBuiltins (qhg p)=some (qlm p)
 |.len=>boot_len
 |.abs=>by decide +kernel
 |.min2=>by decide +kernel
 |.max2=>by decide +kernel
 |.min1=>by decide +kernel
 |.max1=>by decide +kernel
 |.sum=>by decide +kernel
 |.sorted=>by decide +kernel
 |.all=>by decide +kernel
 |.any=>by decide +kernel
 |.list=>by decide +kernel
 |.tupl=>by decide +kernel
 |.int=>by decide +kernel
 |.str=>by decide +kernel
 |.dmd=>by decide +kernel
theorem qfA:∀p,qhg p ≠ "__name__" ∧ (qhg p == ("__debug__" : Str))=false:=by intro p;cases p<;>decide
theorem qcZ {x:Str} {f:Value} {r:List V→Hp→VK→Prop} {e:Expr} {es:List Expr} {t:TA} {p pos:Pos} (hc:CallR X f r) (hv:bootBuiltins x=some f) (hf:(∃id,f=.builtin id)∨∃T,f=.type T) (hg:Gl X x) (hm:X.mg x=none) (ha:PA X (e::es) t) (hn:x ≠ "__name__") (hdb:(x == ("__debug__" : Str))=false)
  (he:starEach (e::es) X.env=(false,eval e X.env)::starEach es X.env) (hpl:(backTo pos (starEach es X.env)).any (·.1)=false):PE X (.Call (.Name x p) (e::es) [] pos) (tCB r t):=by
 rcases hf with⟨id,rfl⟩ | ⟨T,rfl⟩
 ·exact pe_callB hc hg hm hv ha hn hdb he hpl
 ·exact pe_callTy hc hg hm hv ha hn hdb he hpl
theorem qiP {q:Pri} {g:List Sl→RE (List ER)} {e:Expr} {es:List Expr} {p pos:Pos} (hK:X.K=C.G.K) (hc:X.calm=true) (hg:Gl X (qhg q)) (hm:X.mg (qhg q)=none) (ha:PA X (e::es) (tA C g))
  (he:starEach (e::es) X.env=(false,eval e X.env)::starEach es X.env) (hpl:(backTo pos (starEach es X.env)).any (·.1)=false):PE X (.Call (.Name (qhg q) p) (e::es) [] pos) (tE C fun ρ=>(g ρ).bind (evP q)):=
 qal (qcZ (qjl hc q) (qha q) (by cases q<;>first | exact .inl ⟨_,rfl⟩ | exact .inr ⟨_,rfl⟩) hg hm ha (qfA q).1 (qfA q).2 he hpl) fun σ H Q h=>by rw[hK];exact qim q h
end
end Cm
namespace Cm
open PySem PySem.Spec PyProof.Rows L2
variable [HasT]
section
variable {C:Ctx} {X:Cx}
open Classical in
noncomputable def un3 (P N R H:Hp):Hp:=fun a=>if P a≠none∨N a≠none∨R a≠none then H a else none
open Classical in
noncomputable def un2 (N N' H:Hp):Hp:=fun a=>if N a≠none∨N' a≠none then H a else none
theorem qky {P N R H:Hp}:Same (un3 P N R H) H:=Same.of fun a o e=>by
 unfold un3 at e
 split at e
 ·exact e
 ·cases e
theorem qe0 {P N R H A:Hp} (h:Same A H) (k:∀a,A a≠none→un3 P N R H a=H a):Same A (un3 P N R H):=⟨fun a o e n=>by
 rw[k a (by rw[e];simp)];exact h.g0 _ _ e n,fun a e=>by
 cases q:A a with
 |none=>rfl
 |some u=>rw[k a (by rw[q];simp)] at e;have:=h.free e;rw[q] at this;cases this⟩
theorem qla {P N R H:Hp} (h:Same P H):Same P (un3 P N R H):=qe0 h fun a e=>if_pos (.inl e)
theorem qjx {P N R H:Hp} (h:Same N H):Same N (un3 P N R H):=qe0 h fun a e=>if_pos (.inr (.inl e))
theorem qk5 {P N R H:Hp} (h:Same R H):Same R (un3 P N R H):=qe0 h fun a e=>if_pos (.inr (.inr e))
theorem qe3 {P N R H:Hp} (hp:Same P H) (hn:Same N H) (hr:Same R H) (t:TF P∧TF N∧TF R) {a:Addr} {o:HO} (e:un3 P N R H a=some o):P a=some o∨N a=some o∨R a=some o:=by
 unfold un3 at e
 split at e
 ·rename_i h
  rcases h with h | h | h
  ·exact .inl (hp.back t.1 e h)
  ·exact .inr (.inl (hn.back t.2.1 e h))
  ·exact .inr (.inr (hr.back t.2.2 e h))
 ·cases e
theorem qja {P N R H:Hp} (hp:Same P H) (hn:Same N H) (hr:Same R H) (t:TF P∧TF N∧TF R):TF (un3 P N R H):=fun a o e=>by
 rcases qe3 hp hn hr t e with q | q | q
 ·exact t.1 a o q
 ·exact t.2.1 a o q
 ·exact t.2.2 a o q
theorem qhY {K:PySem.W.Frag} {P N R H:Hp} (hp:Same P H) (hn:Same N H) (hr:Same R H) (t:TF P∧TF N∧TF R) {a:Addr} {xs:List V} (h:SqL K (un3 P N R H) a xs):SqL K P a xs∨SqL K N a xs∨SqL K R a xs:=by
 rcases h with(h | ⟨o,h⟩) | h
 ·rcases qe3 hp hn hr t h with h | h | h
  ·exact .inl (.inl (.inl h))
  ·exact .inr (.inl (.inl (.inl h)))
  ·exact .inr (.inr (.inl (.inl h)))
 ·rcases qe3 hp hn hr t h with h | h | h
  ·exact .inl (.inl (.inr ⟨o,h⟩))
  ·exact .inr (.inl (.inl (.inr ⟨o,h⟩)))
  ·exact .inr (.inr (.inl (.inr ⟨o,h⟩)))
 ·exact .inl (.inr h)
theorem qkx {N N' H:Hp}:Same (un2 N N' H) H:=Same.of fun a o e=>by
 unfold un2 at e
 split at e
 ·exact e
 ·cases e
theorem qhq {N N' H A:Hp} (h:Same A H) (k:∀a,A a≠none→un2 N N' H a=H a):Same A (un2 N N' H):=⟨fun a o e n=>by
 rw[k a (by rw[e];simp)];exact h.g0 _ _ e n,fun a e=>by
 cases q:A a with
 |none=>rfl
 |some u=>rw[k a (by rw[q];simp)] at e;have:=h.free e;rw[q] at this;cases this⟩
theorem qjJ {N N' H:Hp} (h:Same N H):Same N (un2 N N' H):=qhq h fun a e=>if_pos (.inl e)
theorem qgt {N N' H:Hp} (h:Same N' H):Same N' (un2 N N' H):=qhq h fun a e=>if_pos (.inr e)
theorem qjo {N A H:Hp} (hn:Same N H) (ha:Same A H) (t1:TF N) (t2:TF A) {a:Addr} {o:HO} (e:un2 N A H a=some o):N a=some o∨A a=some o:=by
 unfold un2 at e
 split at e
 ·rename_i h
  rcases h with h | h
  ·exact .inl (hn.back t1 e h)
  ·exact .inr (ha.back t2 e h)
 ·cases e
theorem qj4 {N A H:Hp} (hn:Same N H) (ha:Same A H) (t1:TF N) (t2:TF A):TF (un2 N A H):=fun a o e=>by
 rcases qjo hn ha t1 t2 e with q | q
 ·exact t1 a o q
 ·exact t2 a o q
theorem Adv.back {P N H P' N' H':Hp} (hn:Same N H) (a:Adv P (fun _=>none) H P' N' H'):Adv P N H P' (un2 N N' H') H' where
 hh:=a.hh
 pp:=a.pp
 nn:=qjJ (hn.trans a.hh)
 pH:=a.pH
 nH:=qkx
 pn:=a.pn
 nw:=fun q h=>by
  unfold un2 at h
  split at h
  ·rename_i z
   rcases z with z | z
   ·exact .inl z
   ·rcases a.nw q z with z | z
    ·exact absurd rfl z
    ·exact .inr z
  ·exact absurd rfl h
 dj:=fun q h h2=>by
  unfold un2 at h
  split at h
  ·rename_i z
   rcases z with z | z
   ·exact z
   ·exact absurd rfl (a.dj q z h2)
  ·exact absurd rfl h
 tp:=a.tp
 tn:=fun t=>qj4 (hn.trans a.hh) a.nH t (a.tn TF.nil)
theorem qgv {P N H H0:Hp} {σ:L2.St} {n:Nat} {g':List D→RE ER} {Q:VK} {es:List ER} {vs:List V} (r:Reg C P N H) (e0:Cm.Same H0 H) (hv:ERs C P N H H0 es vs) (hn:es.length=n)
  (h:res C σ P N H ((g' (es.map ER.d)).bind (qaQ (!es.all ER.isV))) (kE C H0 Q)):spD C.G n g' vs H Q (fun cls d H'=>C.W cls d σ H'):=by
 have rH:=r.rH
 cases ha:es.all ER.isV with
 |true =>
  rw[ha] at h
  have hr:=hv.reps ha
  refine⟨P,un3 P N C.R H,es.map ER.d,r.pH,⟨qky,r.tb,r.tf.1,qja r.pH r.nH rH r.tf⟩,Reps.mono (Cm.Same.refl _) _ _ (fun a xs q=>?_) hr,by rw[List.length_map,hn],?_⟩
  ·rcases q with q | ⟨_,q | q | q⟩
   ·exact .inl (.inl (qjx r.nH _ _ q))
   ·exact Cm.Same.seq (qla r.pH) q
   ·exact Cm.Same.seq (qjx r.nH) q
   ·exact Cm.Same.seq (qk5 rH) q
  ·have mono:∀{P' N' H':Hp} {b:Bool},Adv P (fun _=>none) H P' N' H'→∀a xs,LNb C.G.K P' N' (un3 P N C.R H) b a xs→LNb C.G.K P' (un2 N N' H') C.R b a xs:=fun {P' N' H' b} ad a xs q=>by
    rcases q with q | ⟨hb,q | q | q⟩
    ·exact .inl (qgt ad.nH _ _ q)
    ·exact .inr ⟨hb,.inl q⟩
    ·exact .inr ⟨hb,.inr (.inl (Cm.Same.seq (qgt ad.nH) q))⟩
    ·rcases qhY r.pH r.nH rH r.tf q with q | q | q
     ·exact .inr ⟨hb,.inl (Cm.Same.seq ad.pp q)⟩
     ·exact .inr ⟨hb,.inr (.inl (Cm.Same.seq (qjJ (r.nH.trans ad.hh)) q))⟩
     ·exact .inr ⟨hb,.inr (.inr q)⟩
   cases e:g' (es.map ER.d) with
   |bad=>rw[e] at h;exact h.elim
   |exc c fs =>
    rw[e] at h
    intro d H' P' N' ad hx
    refine h d _ _ _ (ad.back r.nH) ?_
    rcases hx with hx | ⟨dd,f,v,h1,h2,h3,h4⟩
    ·exact .inl hx
    ·exact .inr ⟨dd,f,v,h1,h2,h3,Rep.mono (Cm.Same.refl _) _ _ (mono ad) h4⟩
   |ok er =>
    rw[e] at h
    intro v H' P' N' ad hx
    cases er with
    |brw ds b=>exact h.elim
    |val d b=>exact h _ _ _ (ad.back r.nH) v (RepB.nf (C:=C) (Rep.mono (Cm.Same.refl _) _ _ (mono ad) hx))
    |fre ds b =>
     obtain⟨p,xs,rfl,h1,h2,h3,h4,h5⟩:=hx
     refine h _ _ _ (ad.back r.nH) _ ⟨p,xs,rfl,h1,e0.free h2,h3,?_,Reps.mono (Cm.Same.refl _) _ _ (mono ad) h5⟩
     unfold un2
     rw[if_neg]
     rintro(z | z)
     ·exact z (r.nH.free h2)
     ·exact z h4
 |false =>
  rw[ha] at h
  have hr:Reps C.G P (SqL C.G.K H) (es.map ER.d) vs:=by
   clear h ha hn
   induction es generalizing vs with
   |nil=>cases hv;rfl
   |cons e es ih =>
    obtain⟨v,u,rfl,h1,h2⟩:=hv
    refine⟨v,u,rfl,?_,ih h2⟩
    have w:=h1.w r
    have mm:=fun a xs=>LNb.seq (K:=C.G.K) (b:=e.b) r.pH r.nH rH a xs
    cases q:e.d with
    |lst ds =>
     rw[q] at w
     obtain⟨p,xs,rfl,h3,h4⟩:=w
     exact⟨p,xs,rfl,h3,Reps.mono (Cm.Same.refl _) _ _ mm h4⟩
    |non=>rw[q] at w;exact Rep.mono (Cm.Same.refl _) _ _ mm w
    |bl _=>rw[q] at w;exact Rep.mono (Cm.Same.refl _) _ _ mm w
    |int _=>rw[q] at w;exact Rep.mono (Cm.Same.refl _) _ _ mm w
    |str _=>rw[q] at w;exact Rep.mono (Cm.Same.refl _) _ _ mm w
    |tup _=>rw[q] at w;exact Rep.mono (Cm.Same.refl _) _ _ mm w
    |ins _ _=>rw[q] at w;exact Rep.mono (Cm.Same.refl _) _ _ mm w
    |exc _ _=>rw[q] at w;exact Rep.mono (Cm.Same.refl _) _ _ mm w
  refine⟨P,qbO H,es.map ER.d,r.pH,⟨qbQ H,r.tb,r.tf.1,qcY H⟩,Reps.mono (Cm.Same.refl _) _ _ (fun _ _=>qcp) hr,by rw[List.length_map,hn],?_⟩
  have mono:∀{P' N' H':Hp},Adv P (fun _=>none) H P' N' H'→∀a xs,LNb C.G.K P' N' (qbO H) true a xs→LNb C.G.K P' (un2 N N' H') C.R true a xs:=fun {P' N' H'} ad a xs q=>by
   rcases q with q | ⟨hb,q⟩
   ·exact .inl (qgt ad.nH _ _ q)
   ·cases hb
  cases e:g' (es.map ER.d) with
  |bad=>rw[e] at h;exact h.elim
  |exc c fs =>
   rw[e] at h
   intro d H' P' N' ad hx
   refine h d _ _ _ (ad.back r.nH) ?_
   rcases hx with hx | ⟨dd,f,v,h1,h2,h3,h4⟩
   ·exact .inl hx
   ·exact .inr ⟨dd,f,v,h1,h2,h3,Rep.mono (Cm.Same.refl _) _ _ (mono ad) h4⟩
  |ok er =>
   rw[e] at h
   intro v H' P' N' ad hx
   cases er with
   |brw ds b=>exact h.elim
   |val d b =>
    simp only[Bool.not_false,RE.bind_ok,qaQ] at h
    split at h
    ·rename_i z
     refine h _ _ _ (ad.back r.nH) v ?_
     cases b with
     |true=>exact Rep.mono (Cm.Same.refl _) _ _ (mono ad) hx
     |false=>exact Rep.flat _ _ (by simpa using z) hx
    ·exact h.elim
   |fre ds b =>
    simp only[Bool.not_false,RE.bind_ok,qaQ] at h
    obtain⟨p,xs,rfl,h1,h2,h3,h4,h5⟩:=hx
    split at h
    ·rename_i z
     refine h _ _ _ (ad.back r.nH) _ ⟨p,xs,rfl,h1,e0.free h2,h3,?_,?_⟩
     ·unfold un2
      rw[if_neg]
      rintro(z | z)
      ·exact z (r.nH.free h2)
      ·exact z h4
     ·cases b with
      |true=>exact Reps.mono (Cm.Same.refl _) _ _ (mono ad) h5
      |false=>exact Reps.flat _ _ (by simpa using z) h5
    ·exact h.elim
theorem qer {G:Glo} {n m:Nat} {g gf:List D→RE ER} {dv:List D} {dvs vs:List V} {H:Hp} {Q:VK} {E:XK} (hm:dv.length=m) (hd:∀P LN,Reps G P LN dv dvs) (hg:∀xs,xs.length=n→g xs=gf (xs++dv)) (h:spD G n g vs H Q E):spD G (n+m) gf (vs++dvs) H Q E:=by
 obtain⟨P,R,ds,h1,h2,h3,h4,h5⟩:=h
 rw[hg ds h4] at h5
 exact⟨P,R,ds++dv,h1,h2,Reps.append h3 (hd _ _),by rw[List.length_append,h4,hm],h5⟩
theorem qfv {k:Nat} {f:Addr} {fd:FuncData} {ps:List Str} {sp:Sp} {W:WX} {pins:List (Addr × Obj)} {σ:L2.St} {H:Hp} {s:Shared} {Q:VK} {us dus:List Value} {vs dvs:List V} (F:FnOk X.prog X.w X.K X.mg X.base (L2.CX X.prog X.w) k f fd ps sp) (hr:Room k X.A) (hb:Binds X.K fd ps dus) (hd:Vals dvs dus)
  (tk:Takes X W) (I:Inv X pins σ H s) (r:Vals vs us) (h:sp (vs++dvs) H Q (fun cls d H'=>W cls d σ H')):wpAny (model X.prog X.w) X.A (call (.ref f) us) (EP X pins σ Q) X.xe s:=by
 have r2:Vals (vs++dvs) (us++dus):=r.append hd
 have hl:(us++dus).length=ps.length:=by rw[←r2.length];exact F.len _ _ _ _ h
 refine wpAny_call (codeAny_mono (F.run X.A X.stack s H ⟨us,[]⟩ (us++dus) (vs++dvs) Q _ hr I.env0 (hb s us I.kIn hl) r2 h) fun r s' hq=>?_)
 cases r with
 |error e=>exact tk e s' (XE.of_call I (fun cls d H' q=>q) hq)
 |ok fl =>
  cases fl with
  |ret u=>exact I.after hq
  |next=>exact False.elim hq
  |brk=>exact False.elim hq
  |cont=>exact False.elim hq
def qiR (X:Cx) (es:List Expr):Prop:=(∀e r,es=e::r→starEach (e::r) X.env=(false,eval e X.env)::starEach r X.env)∧∀pos e r,es=e::r→(backTo pos (starEach r X.env)).any (·.1)=false
def Part (K:PySem.W.Frag) (G:Glo) (fd:FuncData) (ps:List Str) (n m:Nat) (g gf:List D→RE ER):Prop:=
 ∃(dv:List D) (dvs:List V) (dus:List Value),Binds K fd ps dus∧Vals dvs dus∧dv.length=m∧(∀P LN,Reps G P LN dv dvs)∧∀xs,xs.length=n→g xs=gf (xs++dv)
theorem Part.all {K:PySem.W.Frag} {G:Glo} {fd:FuncData} {ps:List Str} {n:Nat} {g:List D→RE ER} (h:Binds K fd ps []):Part K G fd ps n 0 g g:=⟨[],[],[],h,.nil,rfl,fun _ _=>rfl,fun xs _=>by rw[List.append_nil]⟩
theorem qc9 {x:Str} {k:Nat} {f:Addr} {fd:FuncData} {ps:List Str} {n m:Nat} {g' gf:List D→RE ER} {dv:List D} {dvs:List V} {dus:List Value} {g:List Sl→RE (List ER)} {es:List Expr} {p pos:Pos} (F:FnOk X.prog X.w X.K X.mg X.base (L2.CX X.prog X.w) k f fd ps (spD C.G (n+m) gf)) (hr:Room k X.A) (hg:Gl X x) (hm:X.mg x=some (.ref f)) (hk:PySem.W.keepIn X.K (.ref f)=true)
  (hb:Binds X.K fd ps dus) (hdv:Vals dvs dus) (hdm:dv.length=m) (hdr:∀P LN,Reps C.G P LN dv dvs) (hgf:∀xs,xs.length=n→g' xs=gf (xs++dv)) (tk:Takes X C.W) (ha:PA X es (tA C g)) (hdb:(x == ("__debug__" : Str))=false) (hs:qiR X es) (h0:es=[]→∀ρ,g ρ=.ok []) :
  PE X (.Call (.Name x p) es [] pos) (fun σ H Q=>tA C g σ H fun vs H1=>spD C.G n g' vs H1 Q (fun cls d H'=>C.W cls d σ H')):=by
  cases es with
  |nil =>
   refine⟨fun pins s σ H Q I h=>?_⟩
   refine wpAny_Call_Name_kw (ld_glob I hg hm ?_ hdb)
   refine PySem.W.callWith_K0 I.kIn hk ?_
   obtain⟨ρ,P,N,S,h⟩:=h
   rw[h0 rfl ρ] at h
   exact qfv F hr hb hdv tk I .nil (qer hdm hdr hgf (h.now S.reg [] rfl))
  |cons e es =>
   refine⟨fun pins s σ H Q I h=>?_⟩
   refine wpAny_Call_Name_kw (ld_glob I hg hm ?_ hdb)
   refine PySem.W.callWith_K (h₀:=X.base) I.ok.mod.kin hk (thn (ha.run pos pins s σ H _ I h) fun us s1 ⟨vs,H1,I1,r,q⟩=>⟨I1.kIn,?_⟩) (hs.1 _ _ rfl) (hs.2 _ _ _ rfl)
   exact qfv F hr hb hdv tk I1 r (qer hdm hdr hgf q)
theorem qgD {x:Str} {k:Nat} {f:Addr} {fd:FuncData} {ps:List Str} {n m:Nat} {g' gf:List D→RE ER} {dv:List D} {dvs:List V} {dus:List Value} {g:List Sl→RE (List ER)} {es:List Expr} {p pos:Pos} (F:FnOk X.prog X.w X.K X.mg X.base (L2.CX X.prog X.w) k f fd ps (spD C.G (n+m) gf)) (hr:Room k X.A) (hg:Gl X x) (hm:X.mg x=some (.ref f)) (hk:PySem.W.keepIn X.K (.ref f)=true)
  (hb:Binds X.K fd ps dus) (hdv:Vals dvs dus) (hdm:dv.length=m) (hdr:∀P LN,Reps C.G P LN dv dvs) (hgf:∀xs,xs.length=n→g' xs=gf (xs++dv)) (tk:Takes X C.W) (ha:PA X es (tA C g)) (hdb:(x == ("__debug__" : Str))=false) (hs:qiR X es) (hl:∀ρ r,g ρ=.ok r→r.length=n) (h0:es=[]→∀ρ,g ρ=.ok []) :
  PE X (.Call (.Name x p) es [] pos) (tE C fun ρ=>(g ρ).bind fun r=>(g' (r.map ER.d)).bind (qaQ (!r.all ER.isV))):=by
 refine qal (qc9 F hr hg hm hk hb hdv hdm hdr hgf tk ha hdb hs h0) fun σ H Q q=>?_
 obtain⟨ρ,P,N,S,h⟩:=q
 exact⟨ρ,P,N,S,h.bind.mono fun r P1 N1 H1 e a1 h1 vs rv=>qgv (S.adv a1).reg a1.hh rv (hl _ _ e) h1⟩
def ER.noF:ER→Bool
 |.fre _ _=>false
 |_=>true
theorem qcE {G:Glo} {P:Hp} {LN:Addr→List V→Prop}:∀{ds:List D} {ns:List Int} {xs:List V},qay ds=some ns→Reps G P LN ds xs→xs=ns.map V.int
 |[],ns,xs,e,h=>by cases e;cases h;rfl
 |d::ds,ns,xs,e,⟨v,r,q,h1,h2⟩=>by
  cases d<;>simp only[qay] at e<;>try cases e
  rename_i i
  cases k:qay ds with
  |none=>rw[k] at e;cases e
  |some ms =>
   rw[k] at e
   cases e
   have h1:v=.int i:=h1
   rw[q,h1,qcE k h2]
   rfl
theorem qcN:∀{ds:List D} {ns:List Int},qay ds=some ns→D.flats ds=true
 |[],_,_=>rfl
 |d::ds,ns,e=>by
  cases d<;>simp only[qay] at e<;>try cases e
  cases k:qay ds with
  |none=>rw[k] at e;cases e
  |some ms =>
   simp only[D.flats,D.flat,Bool.true_and]
   exact qcN k
mutual
theorem Rep.off {G:Glo} {P:Hp} {LN LN':Addr→List V→Prop} {os:List (List Int)} (h:∀a (ns:List Int),LN a (ns.map V.int)→ns∉os→LN' a (ns.map V.int)):∀(d:D) (v:V),qhl os d=true→Rep G P LN d v→Rep G P LN' d v
 |.non,_,_,q=>q
 |.bl _,_,_,q=>q
 |.int _,_,_,q=>q
 |.str _,_,_,q=>q
 |.lst ds,v,f,⟨a,xs,e,h1,h2⟩=>by
  unfold qhl at f
  split at f
  ·rename_i ns hn
   have ex:xs=ns.map V.int:=qcE hn h2
   refine⟨a,xs,e,?_,Reps.flat ds xs (qcN hn) h2⟩
   rw[ex] at h1 ⊢
   exact h a ns h1 (by simpa using f)
  ·cases f
 |.tup ds,v,f,⟨a,xs,e,h1,h2⟩=>⟨a,xs,e,h1,Reps.off h ds xs (by simpa[qhl] using f) h2⟩
 |.ins c ds,v,f,_=>by simp[qhl] at f
 |.exc _ _,v,f,_=>by simp[qhl] at f
theorem Reps.off {G:Glo} {P:Hp} {LN LN':Addr→List V→Prop} {os:List (List Int)} (h:∀a (ns:List Int),LN a (ns.map V.int)→ns∉os→LN' a (ns.map V.int)):∀(ds:List D) (vs:List V),qgC os ds=true→Reps G P LN ds vs→Reps G P LN' ds vs
 |[],_,_,q=>q
 |d::ds,vs,f,⟨v,r,e,h1,h2⟩=>by
  simp only[qgC,Bool.and_eq_true] at f
  exact⟨v,r,e,Rep.off h d v f.1 h1,Reps.off h ds r f.2 h2⟩
end
open Classical in
noncomputable def atO (os:List (List Int)) (H:Hp):Hp:=fun a=>if ∃ns∈os,H a=some (.lst (ns.map V.int)) then H a else none
structure MtOk (C:Ctx) (X:Cx) (m:Str) (c:Nat) (n:Nat) (g':List D→RE ER):Prop where
 cls:Cls X.K (C.G.ca c)
 nf:m∉C.G.fl c
 fn:∃k f fd ps,Meth X.K (C.G.ca c) m f∧FnOk X.prog X.w X.K X.mg X.base (L2.CX X.prog X.w) k f fd ps (spD C.G (n+1) g')∧Room k X.A∧Binds X.K fd ps []
structure FdOk (C:Ctx) (X:Cx) (f:Str) (c:Nat) (k:Nat):Prop where
 cls:Cls X.K (C.G.ca c)
 no:NoAttr X.K (C.G.ca c) f
 at_:(C.G.fl c)[k]? = some f
 nd:(C.G.fl c).Nodup
end
end Cm
namespace Cm
open PySem PySem.Spec PyProof.Rows L2
variable [HasT]
section
variable {C:Ctx} {X:Cx}
def tyS:Ty→String
 |.bool=>"bool" |.int=>"int" |.str=>"str" |.list=>"list" |.tuple=>"tuple"
def tyN:Ty→Str
 |.bool=>"bool" |.int=>"int" |.str=>"str" |.list=>"list" |.tuple=>"tuple"
theorem qfJ:∀t,bootBuiltins (tyN t)=some (.type (tyS t))
 |.bool=>by decide +kernel
 |.int=>by decide +kernel
 |.str=>by decide +kernel
 |.list=>by decide +kernel
 |.tuple=>by decide +kernel
theorem qej:∀t,tyN t ≠ "__name__" ∧ (tyN t == ("__debug__" : Str))=false:=by intro t;cases t<;>decide
theorem qcQ {K:PySem.W.Frag} {H:Hp} {a:Addr} {xs:List V} (h:SqL K H a xs):TyX K H (.ref a) (.type "list"):=by
 rcases h with(h | ⟨o,h⟩) | ⟨o,its,n,h1,h2,_⟩
 ·exact .base (.lst h)
 ·exact .base (.frz h)
 ·exact .kList h1 h2
theorem qdS {K:PySem.W.Frag} {H:Hp} {a:Addr} {xs:List V} (h:SqT K H a xs):TyX K H (.ref a) (.type "tuple"):=by
 rcases h with(h | ⟨o,h⟩) | ⟨o,its,n,h1,h2,_⟩
 ·exact .base (.tup h)
 ·exact .fTuple h
 ·exact .kTuple h1 h2
theorem qag (a b:String) (r:Bool) (h:kitB a b=some r) {K:PySem.W.Frag}:PySem.W.kitOne K (.type a) (.type b)=some r:=kit_ty h
theorem qh3 {g:List Sl→RE ER} {t:Ty} {σ:L2.St} {H:Hp} {Q:VK} (h:tE C (fun ρ=>(g ρ).bind fun x=>qi2 x.d t) σ H Q):tCB (rIsi C.G.K) (tCons (tE C g) (tCons (tC (.ty (tyS t))) tNil)) σ H Q:=by
 obtain⟨ρ,P,N,S,h⟩:=h
 refine⟨ρ,P,N,S,h.bind.mono fun x P1 N1 H1 e1 a1 h1 v rv=>?_⟩
 have r1:=(S.adv a1).reg
 have w:=rv.w r1
 show ∃(x c:V) (t' u:Value) (b:Bool),[v,V.ty (tyS t)]=[x,c]∧ClsV c u∧TyX C.G.K H1 x t'∧PySem.W.kitOne C.G.K t' u=some b∧Q (.bl b) H1
 cases q:x.d with
 |non =>
  rw[q] at w h1
  obtain rfl:v=.non:=w
  refine⟨_,_,.type "NoneType",_,false,rfl,.ty _,.base .non,?_,?_⟩
  ·cases t<;>exact qag _ _ _ (by decide +kernel)
  ·cases t<;>exact h1.val r1 rfl
 |bl b =>
  rw[q] at w h1
  obtain rfl:=w.bl
  cases t
  ·exact⟨_,_,_,_,true,rfl,.ty _,.base (.bl b),qag _ _ _ (by decide +kernel),h1.val r1 rfl⟩
  ·exact⟨_,_,_,_,true,rfl,.ty _,.base (.bl b),qag _ _ _ (by decide +kernel),h1.val r1 rfl⟩
  ·exact⟨_,_,_,_,false,rfl,.ty _,.base (.bl b),qag _ _ _ (by decide +kernel),h1.val r1 rfl⟩
  ·exact⟨_,_,_,_,false,rfl,.ty _,.base (.bl b),qag _ _ _ (by decide +kernel),h1.val r1 rfl⟩
  ·exact⟨_,_,_,_,false,rfl,.ty _,.base (.bl b),qag _ _ _ (by decide +kernel),h1.val r1 rfl⟩
 |int b =>
  rw[q] at w h1
  obtain rfl:=w.int
  cases t
  ·exact⟨_,_,_,_,false,rfl,.ty _,.base (.int b),qag _ _ _ (by decide +kernel),h1.val r1 rfl⟩
  ·exact⟨_,_,_,_,true,rfl,.ty _,.base (.int b),qag _ _ _ (by decide +kernel),h1.val r1 rfl⟩
  ·exact⟨_,_,_,_,false,rfl,.ty _,.base (.int b),qag _ _ _ (by decide +kernel),h1.val r1 rfl⟩
  ·exact⟨_,_,_,_,false,rfl,.ty _,.base (.int b),qag _ _ _ (by decide +kernel),h1.val r1 rfl⟩
  ·exact⟨_,_,_,_,false,rfl,.ty _,.base (.int b),qag _ _ _ (by decide +kernel),h1.val r1 rfl⟩
 |str b =>
  rw[q] at w h1
  obtain rfl:=w.str
  cases t
  ·exact⟨_,_,_,_,false,rfl,.ty _,.base (.str _),qag _ _ _ (by decide +kernel),h1.val r1 rfl⟩
  ·exact⟨_,_,_,_,false,rfl,.ty _,.base (.str _),qag _ _ _ (by decide +kernel),h1.val r1 rfl⟩
  ·exact⟨_,_,_,_,true,rfl,.ty _,.base (.str _),qag _ _ _ (by decide +kernel),h1.val r1 rfl⟩
  ·exact⟨_,_,_,_,false,rfl,.ty _,.base (.str _),qag _ _ _ (by decide +kernel),h1.val r1 rfl⟩
  ·exact⟨_,_,_,_,false,rfl,.ty _,.base (.str _),qag _ _ _ (by decide +kernel),h1.val r1 rfl⟩
 |lst ds =>
  rw[q] at w h1
  obtain⟨p,xs,rfl,z,_⟩:=w.lst
  cases t
  ·exact⟨_,_,_,_,false,rfl,.ty _,qcQ z,qag _ _ _ (by decide +kernel),h1.val r1 rfl⟩
  ·exact⟨_,_,_,_,false,rfl,.ty _,qcQ z,qag _ _ _ (by decide +kernel),h1.val r1 rfl⟩
  ·exact⟨_,_,_,_,false,rfl,.ty _,qcQ z,qag _ _ _ (by decide +kernel),h1.val r1 rfl⟩
  ·exact⟨_,_,_,_,true,rfl,.ty _,qcQ z,qag _ _ _ (by decide +kernel),h1.val r1 rfl⟩
  ·exact⟨_,_,_,_,false,rfl,.ty _,qcQ z,qag _ _ _ (by decide +kernel),h1.val r1 rfl⟩
 |tup ds =>
  rw[q] at w h1
  obtain⟨p,xs,rfl,z,_⟩:=w.tup r1
  cases t
  ·exact⟨_,_,_,_,false,rfl,.ty _,qdS z,qag _ _ _ (by decide +kernel),h1.val r1 rfl⟩
  ·exact⟨_,_,_,_,false,rfl,.ty _,qdS z,qag _ _ _ (by decide +kernel),h1.val r1 rfl⟩
  ·exact⟨_,_,_,_,false,rfl,.ty _,qdS z,qag _ _ _ (by decide +kernel),h1.val r1 rfl⟩
  ·exact⟨_,_,_,_,false,rfl,.ty _,qdS z,qag _ _ _ (by decide +kernel),h1.val r1 rfl⟩
  ·exact⟨_,_,_,_,true,rfl,.ty _,qdS z,qag _ _ _ (by decide +kernel),h1.val r1 rfl⟩
 |ins c fs=>rw[q] at h1;exact h1.elim
 |exc c fs=>rw[q] at h1;exact h1.elim
theorem qeu:bootBuiltins "isinstance" = some (.builtin "isinstance"):=by decide +kernel
theorem qhG {a:Expr} {g:List Sl→RE ER} {t:Ty} {p p2 pos:Pos} (hK:X.K=C.G.K) (hg:Gl X "isinstance") (hm:X.mg "isinstance" = none) (hg2:Gl X (tyN t)) (hm2:X.mg (tyN t)=none) (h:PE X a (tE C g))
  (hs:starEach [a,.Name (tyN t) p2] X.env=(false,eval a X.env)::starEach [.Name (tyN t) p2] X.env) (hpl:(backTo pos (starEach [.Name (tyN t) p2] X.env)).any (·.1)=false):PE X (.Call (.Name "isinstance" p) [a,.Name (tyN t) p2] [] pos) (tE C fun ρ=>(g ρ).bind fun x=>qi2 x.d t):=
 qal (qcZ call_isi qeu (.inl ⟨_,rfl⟩) hg hm (pa_cons h (pa_cons (pe_bltn (v:=.ty (tyS t)) hg2 hm2 (qfJ t) rfl (qej t).1 (qej t).2) pa_nil) hs) (by decide) (by decide) hs hpl) fun σ H Q q=>by rw[hK];exact qh3 q
def rBm (K:PySem.W.Frag):Bme→V→List V→Hp→VK→Prop
 |.split=>fun x xs H Q=>∃a b,x=.str a∧xs=[.str b]∧(b.length == 0)=false∧a.length+2≤sizeLine∧rNewStrs (Txt.split a b) H Q
 |.join=>fun x xs H Q=>∃a p,∃ys:List Str,x=.str a∧xs=[.ref p]∧(SqL K H p (ys.map V.str)∨SqT K H p (ys.map V.str))∧(ys.map (·.length)).sum+ys.length*a.length≤16777216∧Q (.str (Txt.join a ys)) H
 |.find=>fun x xs H Q=>∃a b,x=.str a∧xs=[.str b]∧Q (.int (Txt.find a b)) H
def bmN:Bme→Str
 |.split=>"split" |.join=>"join" |.find=>"find"
abbrev gBm (m:Bme) (go g:List Sl→RE ER):List Sl→RE ER:=fun ρ=>(go ρ).bind fun x=>match x.d with
  |.str s=>(g ρ).bind fun y=>evM m s y.d
  |_=>.bad
end
end Cm
namespace Cm
open PySem PySem.Spec PyProof.Rows L2
variable [HasT]
section
variable {C:Ctx} {X:Cx}
theorem SR.setV {P N H:Hp} {ρ:List Sl} {σ:L2.St} (S:SR C P N H ρ σ) {i:Nat} {d:D} {b:Bool} {v:V} (h:RepB C P N b d v):SR C P N H (ρ.set i (.val d b)) (σ.set i (some v)) where
 reg:=S.reg
 len:=by simp[S.len]
 sl:=fun j s e=>by
  by_cases q:i=j
  ·subst q
   have hi:i<ρ.length:=by
    rcases Nat.lt_or_ge i ρ.length with z | z
    ·exact z
    ·rw[List.getElem?_eq_none (by simpa using z)] at e;cases e
   rw[List.getElem?_set_self hi] at e
   cases e
   exact⟨some v,List.getElem?_set_self (by rw[S.len];exact hi),v,rfl,h⟩
  ·rw[List.getElem?_set_ne q] at e
   rw[List.getElem?_set_ne q]
   exact S.sl j s e
 ap:=fun j k p ds c es c' e1 e2 e3 e4=>by
  by_cases q:i=j
  ·subst q
   rcases Nat.lt_or_ge i ρ.length with z | z
   ·rw[List.getElem?_set_self z] at e1;cases e1
   ·rw[List.getElem?_eq_none (by simpa using z)] at e1;cases e1
  ·by_cases q2:i=k
   ·subst q2
    rcases Nat.lt_or_ge i ρ.length with z | z
    ·rw[List.getElem?_set_self z] at e2;cases e2
    ·rw[List.getElem?_eq_none (by simpa using z)] at e2;cases e2
   ·rw[List.getElem?_set_ne q] at e1 e3
    rw[List.getElem?_set_ne q2] at e2 e4
    exact S.ap j k p ds c es c' e1 e2 e3 e4
 ad:=S.ad.set rfl
 ar:=S.ar.set rfl
def qdh:List Nat→TGs
 |[]=>gNil
 |i::is=>gCons (gName i) (qdh is)
def tG (C:Ctx) (tg:List Nat):TG:=fun v σ H Q=>∃ρ P N d b ρ',SR C P N H ρ σ∧RepB C P N b d v∧qaV tg d b ρ=some ρ'∧∀σ',SR C P N H ρ' σ'→(∀j,j∉tg→σ'[j]? = σ[j]?)→σ'.length=σ.length→Q σ' H
theorem qco {P N H:Hp} {b:Bool}:∀{tg:List Nat} {ds:List D} {xs:List V} {ρ ρ':List Sl} {σ:L2.St} {Q:L2.St→Hp→Prop},SR C P N H ρ σ→RepsB C P N b ds xs→qdu tg ds b ρ=some ρ' →
  (∀σ',SR C P N H ρ' σ'→(∀j,j∉tg→σ'[j]? = σ[j]?)→σ'.length=σ.length→Q σ' H)→qdh tg xs σ H Q
 |[],[],xs,ρ,ρ',σ,Q,S,h,e,q=>by
  cases h;cases e
  exact⟨rfl,q σ S (fun _ _=>rfl) rfl⟩
 |i::tg,d::ds,xs,ρ,ρ',σ,Q,S,⟨v,r,ex,h1,h2⟩,e,q=>by
  refine⟨v,r,ex,qco (S.setV (RepB.nf (C:=C) h1)) h2 e fun σ' S' hj hl=>q σ' S' (fun j hj'=>?_) (by rw[hl];simp)⟩
  simp only[List.mem_cons,not_or] at hj'
  rw[hj j hj'.2,List.getElem?_set_ne (fun z=>hj'.1 z.symm)]
 |[],d::ds,xs,ρ,ρ',σ,Q,S,h,e,q=>by cases e
 |i::tg,[],xs,ρ,ρ',σ,Q,S,h,e,q=>by cases e
theorem qe4 {t:Expr} {g g':TG} (h:PG X t g) (f:∀v σ H Q,g' v σ H Q→g v σ H Q):PG X t g':=⟨fun pins s σ H v u Q I r q=>h.run pins s σ H v u Q I r (f _ _ _ _ q)⟩
theorem qgN {i:Nat} {x:Str} {pos:Pos} (hN:X.N.Nodup) (hi:X.N[i]? = some x) (hx:Loc X.env.scope x) (hf:X.fn x=true∨X.env.scope.names.lookup x=some .local):PG X (.Name x pos) (tG C [i]):=
 qe4 (pg_name hN hi hx hf) fun v σ H Q q=>by
  obtain⟨ρ,P,N,d,b,ρ',S,h,e,q⟩:=q
  cases e
  refine q _ (S.setV (RepB.nf (C:=C) h)) (fun j hj=>?_) (by simp)
  rw[List.getElem?_set_ne (fun z=>hj (by simp[z]))]
def qmm (K:PySem.W.Frag) (n:Nat) (t:TGs):TG:=fun v σ H Q=>∃a xs,v=.ref a∧SqL K H a xs∧xs.length=n∧t xs σ H Q
theorem qjI {es:List Expr} {k:Nat} {t:TGs} {n:Nat} {pos:Pos} (hc:X.calm=true) (h:PGs X es t) (hn:(assignEach es X.env).length=n) (hst:(assignEach es X.env).findIdx? (·.1)=none):PG X (.Tuple es k pos) (qmm X.K n t):=by
 refine⟨fun pins s σ H v u Q I r hw=>?_⟩
 obtain⟨a,xs,e1,hq,hl,hw⟩:=hw
 subst e1
 cases r
 obtain⟨its,rv,p,hz⟩:=I.list hq
 rw[assign_Tuple]
 refine wpAny_bind (wpAny_standAt ?_)
 unfold unpack
 rw[show(assignEach es X.env).length=its.toArray.size by rw[hn,←hl,List.size_toArray,rv.length],hst]
 refine wpAny_bind (wpAny_holding (PySem.W.kun_itemsOf (I.ok.hd hc) p.isList fun h' hx=>?_))
 have I1:Inv X pins σ H { s with heap:=h' }:=I.kept (t':=s.toks) fun b o e=>hx b o (Nat.ne_of_lt (Heap.lt_size e)) e
 exact h.run pins _ σ H xs _ Q I1 (by simpa using rv) hw
theorem qk4 {t:Expr} {g g':TG} (h:PG X t g) (h':PG X t g'):PG X t (fun v σ H Q=>g v σ H Q∨g' v σ H Q):=⟨fun pins s σ H v u Q I r q=>by
 rcases q with q | q
 ·exact h.run pins s σ H v u Q I r q
 ·exact h'.run pins s σ H v u Q I r q⟩
theorem qip {es:List Expr} {k:Nat} {tg:List Nat} {pos:Pos} (hK:X.K=C.G.K) (hc:X.calm=true) (h:PGs X es (qdh tg)) (hl:es.length=tg.length) (h2:tg.length≠1) (hn:(assignEach es X.env).length=es.length) (hst:(assignEach es X.env).findIdx? (·.1)=none):PG X (.Tuple es k pos) (tG C tg):=
 qe4 (qk4 (pg_tup hc h rfl hst) (qjI hc h rfl hst)) fun v σ H Q q=>by
  obtain⟨ρ,P,N,d,b,ρ',S,h,e,q⟩:=q
  have e':∃ds,(d=.tup ds∨d=.lst ds)∧qdu tg ds b ρ=some ρ':=by
   unfold qaV at e
   split at e
   ·exact absurd rfl h2
   ·split at e
    ·exact⟨_,.inl rfl,e⟩
    ·exact⟨_,.inr rfl,e⟩
    ·cases e
  clear e
  obtain⟨ds,hd,e⟩:=e'
  have hlen:∀{tg:List Nat} {ds:List D} {ρ:List Sl},qdu tg ds b ρ=some ρ'→ds.length=tg.length:=by
   intro tg
   induction tg with
   |nil=>intro ds ρ e;cases ds with
    |nil=>rfl
    |cons _ _=>cases e
   |cons i tg ih=>intro ds ρ e;cases ds with
    |nil=>cases e
    |cons d ds=>simp only[List.length_cons];rw[ih e]
  rcases hd with rfl | rfl
  ·obtain⟨a,xs,rfl,z1,z2⟩:=h
   refine .inl ⟨a,xs,rfl,hK ▸ Same.seqT S.reg.pH z1,?_,qco S z2 e q⟩
   rw[z2.length,hlen e,hn,hl]
  ·obtain⟨a,xs,rfl,z1,z2⟩:=h
   refine .inr ⟨a,xs,rfl,hK ▸ LNb.seq S.reg.pH S.reg.nH S.reg.rH _ _ z1,?_,qco S z2 e q⟩
   rw[z2.length,hlen e,hn,hl]
def Wok (C:Ctx) (P N H:Hp) (w:Wk) (J:It):Prop:=
 ∃(Gd:Hp→Prop) (Y:Nat→Hp→V→Hp→Prop),Walk J w.xs.length Gd Y∧(∀H2,Cm.Same H H2→Gd H2)∧(w.own=false→∀P2 N2 H2,Cm.Same P P2→Cm.Same N N2→Reg C P2 N2 H2→Gd H2) ∧
  ∀i P2 N2 H2 x H3,i<w.xs.length→Cm.Same P P2→Cm.Same N N2→Reg C P2 N2 H2→Y i H2 x H3→∃P3,Adv P2 N2 H2 P3 N2 H3∧∃d,w.xs[i]? = some d∧RepB C P3 N2 w.b d x
def tI (C:Ctx) (g:List Sl→RE Wk):TI:=fun σ H R=>∃ρ P N,SR C P N H ρ σ∧res C σ P N H (g ρ) fun w P' N' H'=>∀J,Wok C P' N' H' w J→R J H'
theorem qba {tg e:Expr} {t u:TI} (h:PI X tg e t) (f:∀σ H R,u σ H R→t σ H R):PI X tg e u:=⟨fun pins s σ H R I q=>h.run pins s σ H R I (f _ _ _ q)⟩
theorem qgx {P N H:Hp} {er:ER} {ds:List D} {p:Addr} {xs:List V} (r:Reg C P N H) (hd:er.d=.lst ds) {H0:Hp} (h:ERr C P N H H0 er.frz (.ref p)) (h2:SqL C.G.K H p xs) (h3:RepsB C P N er.b ds xs) (hs:er.frz.isB=false→LNb C.G.K P N C.R er.b p xs):Wok C P N H ⟨ds,er.b,er.frz.isB⟩ (Itl C.G.K p):=by
 refine⟨fun H=>SqL C.G.K H p xs,YAt xs,?_,fun H2 e=>Cm.Same.seq e h2,fun e P2 N2 H2 e1 e2 r2=>?_,fun i P2 N2 H2 x H3 hi e1 e2 r2 y=>?_⟩
 ·have:=walk_list (K:=C.G.K) (a:=p) (xs:=xs)
  rw[h3.length] at this
  exact this
 ·exact LNb.seq r2.pH r2.nH r2.rH _ _ (LNb.mono e1 e2 _ _ (hs e))
 ·obtain⟨rfl,e⟩:=y
  refine⟨P2,Adv.refl r2.pH r2.nH,ds[i]'hi,by simp,?_⟩
  obtain⟨v,q1,q2⟩:=Reps.get h3 (List.getElem?_eq_getElem hi)
  rw[q1] at e;cases e
  exact RepB.adv e1 e2 q2
theorem ERr.frz_lst {P N H H0:Hp} (r:Reg C P N H) {er:ER} {ds:List D} {v:V} (hd:er.d=.lst ds) (h:ERr C P N H H0 er.frz v):∃p xs,v=.ref p∧SqL C.G.K H p xs∧RepsB C P N er.b ds xs∧(er.frz.isB=false→LNb C.G.K P N C.R er.b p xs):=by
 cases er with
 |val d b =>
  have hd:d=.lst ds:=hd
  subst hd
  obtain⟨p,xs,e,h1,h2⟩:=h
  exact⟨p,xs,e,LNb.seq r.pH r.nH r.rH _ _ h1,h2,fun _=>h1⟩
 |fre d b =>
  have hd:D.lst d=.lst ds:=hd
  cases hd
  obtain⟨p,xs,e,h1,h2⟩:=h
  exact⟨p,xs,e,LNb.seq r.pH r.nH r.rH _ _ h1,h2,fun _=>h1⟩
 |brw d b =>
  have hd:D.lst d=.lst ds:=hd
  cases hd
  obtain⟨p,xs,e,h1,_,_,_,h2⟩:=h
  exact⟨p,xs,e,.inl (.inl h1),h2,fun z=>by cases z⟩
theorem qjf (er:ER):er.frz.d=er.d:=by cases er<;>rfl
theorem qkA (er:ER):er.frz.b=er.b:=by cases er<;>rfl
theorem qb8 (er:ER):er.frz.isB=er.isB:=by cases er<;>rfl
def qkS (K:PySem.W.Frag) (t:TE):TI:=fun σ H R=>t σ H fun v H1=>((∃a,v=.ref a∧(∃xs,SqL K H1 a xs)∧R (Itl K a) H1)∨(∃a,v=.ref a∧(∃xs,SqT K H1 a xs)∧R (Itt K a) H1))∨∃x,v=.str x∧R (Its x) H1
theorem qhs {tg e:Expr} {t:TE} (h:PE X e t):PI X tg e (qkS X.K t):=by
 refine⟨fun pins s σ H R I q=>?_⟩
 refine thn (h.run pins s σ H _ I q) fun v s1 ⟨x,H1,I1,r1,q1⟩=>?_
 rcases q1 with(⟨a,e,⟨xs,sq⟩,q⟩ | ⟨a,e,⟨xs,sq⟩,q⟩) | ⟨z,e,q⟩
 ·subst e
  cases r1
  obtain⟨vl,rw0,p,zl⟩:=I1.list sq
  refine wpAny_pyIter_list p.isList ?_
  refine⟨s1.heap.objs.size,[s1.heap.objs.size],_,_,H1,rfl,I1.kept (t':=s1.toks) fun b o e=>Heap.get?_push_of_some _ e,turn_list a _,⟨_,Heap.get?_push_size _ rfl,rfl,rfl⟩,fun b hb0=>?_,q⟩
  have eb:b=s1.heap.objs.size:=by simpa using hb0
  subst eb
  exact I1.fpOk (Nat.le_refl s1.heap.objs.size) (I1.hok.fresh (Nat.le_refl s1.heap.objs.size))
 ·subst e
  cases r1
  obtain⟨vl,rw0,p,zl⟩:=I1.tuple sq
  refine wpAny_pyIter_tuple (show s1.heap.IsTuple a vl.toArray from p) ?_
  refine⟨s1.heap.objs.size,[s1.heap.objs.size],_,_,H1,rfl,I1.kept (t':=s1.toks) fun b o e=>Heap.get?_push_of_some _ e,turn_tuple a _,⟨_,Heap.get?_push_size _ rfl,rfl,rfl⟩,fun b hb0=>?_,q⟩
  have eb:b=s1.heap.objs.size:=by simpa using hb0
  subst eb
  exact I1.fpOk (Nat.le_refl s1.heap.objs.size) (I1.hok.fresh (Nat.le_refl s1.heap.objs.size))
 ·subst e
  obtain⟨t,rfl⟩:=r1
  cases ha:z.cps.all (· < 128)
  ·exact wpAny_pyIter_wide ha (pi_one (tk:=s1.toks) I1 _ (turn_str _ z t "str_iterator" (.inr rfl)) ⟨_,Heap.get?_push_size _ rfl,rfl,rfl⟩ q)
  ·exact wpAny_pyIter_ascii ha (pi_one (tk:=s1.toks) I1 _ (turn_str _ z t "str_ascii_iterator" (.inl rfl)) ⟨_,Heap.get?_push_size _ rfl,rfl,rfl⟩ q)
theorem qiV {g:List Sl→RE ER} {σ:L2.St} {H:Hp} {R:It→Hp→Prop} (h:tI C (fun ρ=>(g ρ).bind qdq) σ H R):qkS C.G.K (tE C g) σ H R:=by
 obtain⟨ρ,P,N,S,h⟩:=h
 refine⟨ρ,P,N,S,h.bind.mono fun x P1 N1 H1 e1 a1 h1 v rv=>?_⟩
 obtain⟨N2,a2,rv⟩:=rv.freeze a1
 have r2:=(S.adv a2).reg
 have h2:res C σ P1 N2 H1 (qdq x) fun w P' N' H'=>∀J,Wok C P' N' H' w J→R J H':=by
  simp only[e1,RE.bind_ok] at h
  exact res.adv a2 h
 unfold qdq at h2
 split at h2
 ·rename_i ds q
  obtain⟨p,xs,rfl,z1,z2,z3⟩:=rv.frz_lst r2 q
  have:=qgx r2 q rv z1 z2 z3
  rw[qb8] at this
  exact .inl (.inl ⟨p,rfl,⟨xs,z1⟩,h2.now r2 _ this⟩)
 ·rename_i ds q
  have w:=rv.w r2
  rw[qjf,q] at w
  have w0:=w
  obtain⟨p,xs,rfl,z1,z2⟩:=w
  rw[qkA] at z2
  refine .inl (.inr ⟨p,rfl,⟨xs,Same.seqT r2.pH z1⟩,h2.now r2 _ ⟨fun H=>SqT C.G.K H p xs,YAt xs,?_,fun H2 e=>Same.seqT (r2.pH.trans e) z1,fun _ P2 N2 H2 e1 e2 r3=>Same.seqT (e1.trans r3.pH) z1,fun i P2 N2 H2 x H3 hi e1 e2 r2 y=>?_⟩⟩)
  ·have:=walk_tup (K:=C.G.K) (a:=p) (xs:=xs)
   rw[z2.length] at this
   exact this
  ·obtain⟨rfl,e⟩:=y
   refine⟨P2,Adv.refl r2.pH r2.nH,ds[i]'hi,by simp,?_⟩
   obtain⟨v,q1,q2⟩:=Reps.get z2 (List.getElem?_eq_getElem hi)
   rw[q1] at e;cases e
   exact RepB.adv e1 e2 q2
 ·rename_i s q
  have w:=rv.w r2
  rw[qjf,q] at w
  cases w.str
  refine .inr ⟨_,rfl,h2.now r2 _ ⟨fun _=>True,fun i H v H'=>H'=H∧∃c,s[i]? = some c∧v=.str ⟨#[c]⟩,?_,fun _ _=>trivial,fun _ _ _ _ _ _ _=>trivial,fun i P2 N2 H2 x H3 hi e1 e2 r2 y=>?_⟩⟩
  ·have:=walk_str (z:=(⟨s.toArray⟩:Str))
   simpa using this
  ·obtain⟨rfl,c,e,rfl⟩:=y
   refine⟨P2,Adv.refl r2.pH r2.nH,.str [c],?_,rfl⟩
   simp[e]
 ·exact h2.elim
theorem qhW {tg e:Expr} {g:List Sl→RE ER} (hK:X.K=C.G.K) (h:PE X e (tE C g)):PI X tg e (tI C fun ρ=>(g ρ).bind qdq):=
 qba (qhs h) fun σ H R q=>by rw[hK];exact qiV q
theorem qfx {P N H:Hp} (i:Int) (n:Nat):Wok C P N H ⟨(qck i 1 n).map D.int,true,false⟩ (Itr i n):=by
 refine⟨fun _=>True,YFn fun k=>.int (i+k),?_,fun _ _=>trivial,fun _ _ _ _ _ _ _=>trivial,fun k P2 N2 H2 x H3 hi e1 e2 r2 y=>?_⟩
 ·have:=walk_range (lo:=i) (n:=n)
  simpa[qck] using this
 ·obtain⟨rfl,rfl⟩:=y
  have hk:k<n:=by simpa[qck] using hi
  refine⟨P2,Adv.refl r2.pH r2.nH,.int (i+k),?_,rfl⟩
  simp[qck,hk]
theorem qez {P N H:Hp} (i c:Int) (n:Nat):Wok C P N H ⟨(qck i c n).map D.int,true,false⟩ (Itc i c n):=by
 refine⟨fun _=>True,YFn fun k=>.int (i+(k:Nat)*c),?_,fun _ _=>trivial,fun _ _ _ _ _ _ _=>trivial,fun k P2 N2 H2 x H3 hi e1 e2 r2 y=>?_⟩
 ·have:=walk_rangeC (lo:=i) (c:=c) (n:=n)
  simpa[qck] using this
 ·obtain⟨rfl,rfl⟩:=y
  have hk:k<n:=by simpa[qck] using hi
  refine⟨P2,Adv.refl r2.pH r2.nH,.int (i+k*c),?_,rfl⟩
  simp[qck,hk]
abbrev qkO (g:List Sl→RE (List ER)):List Sl→RE Wk:=fun ρ=>(g ρ).bind fun r=>(qc4 r).bind fun ns=>.ok ⟨ns.map D.int,true,false⟩
theorem qgH {tg a:Expr} {g:List Sl→RE (List ER)} {p pos:Pos} (hg:Gl X "range") (hm:X.mg "range" = none) (ha:PA X [a] (tA C g)) (hl:∀ρ r,g ρ=.ok r→r.length=1) (hs:starEach [a] X.env=[(false,eval a X.env)]):PI X tg (.Call (.Name "range" p) [a] [] pos) (tI C (qkO g)):=
 qba (pi_range1 hg hm ha hs) fun σ H R q=>by
  obtain⟨ρ,P,N,S,h⟩:=q
  refine⟨ρ,P,N,S,h.bind.mono fun r P1 N1 H1 e1 a1 h1 vs rv=>?_⟩
  have r1:=(S.adv a1).reg
  match r,hl _ _ e1,rv,h1 with
  |[x],_,rv,h1 =>
   obtain⟨v,u,rfl,w,rv⟩:=rv.w r1
   cases rv
   simp only[qc4,qdn,qaE,qai,qbk,qbi,qaT,qbj,qa3,qbn,qbo,qbl] at h1
   split at h1
   ·rename_i n q
    rw[q] at w
    split at h1
    ·rename_i hl
     have hl:=qfV hl
     refine⟨n,by rw[w.int],hl.1.1,hl.1.2,?_⟩
     exact h1.now r1 _ (qfx 0 n.toNat)
    ·exact h1.elim
   ·exact h1.elim
theorem qgy {tg a b:Expr} {g:List Sl→RE (List ER)} {p pos:Pos} (hg:Gl X "range") (hm:X.mg "range" = none) (ha:PA X [a,b] (tA C g)) (hl:∀ρ r,g ρ=.ok r→r.length=2) (hs:starEach [a,b] X.env=[(false,eval a X.env),(false,eval b X.env)]) (hs2:starEach [b] X.env=[(false,eval b X.env)]) :
  PI X tg (.Call (.Name "range" p) [a,b] [] pos) (tI C (qkO g)):=
 qba (pi_range2 hg hm ha hs hs2) fun σ H R q=>by
  obtain⟨ρ,P,N,S,h⟩:=q
  refine⟨ρ,P,N,S,h.bind.mono fun r P1 N1 H1 e1 a1 h1 vs rv=>?_⟩
  have r1:=(S.adv a1).reg
  match r,hl _ _ e1,rv,h1 with
  |[x,y],_,rv,h1 =>
   obtain⟨v,u,rfl,w,rv⟩:=rv.w r1
   obtain⟨v2,u2,rfl,w2,rv⟩:=rv.w r1
   cases rv
   simp only[qc4,qdn,qaE,qai,qbk,qbi,qaT,qbj,qa3,qbn,qbo,qbl] at h1
   split at h1
   ·rename_i i j q q2
    rw[q] at w
    rw[q2] at w2
    split at h1
    ·rename_i hl
     have hl:=qhN hl
     refine⟨i,j,by rw[w.int,w2.int],⟨hl.1.1,hl.1.2,hl.2.1.1,hl.2.1.2⟩,?_⟩
     exact h1.now r1 _ (qfx i (j - i).toNat)
    ·exact h1.elim
   ·exact h1.elim
theorem qhZ {tg a:Expr} {g:List Sl→RE ER} {p p2 pos pos2:Pos} (hg:Gl X "reversed") (hm:X.mg "reversed" = none) (hg2:Gl X "range") (hm2:X.mg "range" = none) (ha:PE X a (tE C g)) (hs:starEach [a] X.env=[(false,eval a X.env)]) :
  PI X tg (.Call (.Name "reversed" p2) [.Call (.Name "range" p) [a] [] pos] [] pos2) (tI C fun ρ=>(g ρ).bind fun x=>match x.d with
  |.int n=>gd (qgl n) (.ok ⟨(qck (0+(((n - 0).toNat:Nat):Int) - 1) (-1) (n - 0).toNat).map D.int,true,false⟩)
  |_=>.bad):=
 qba (pi_revR hg hm (prg_1 hg2 hm2 ha hs)) fun σ H R q=>by
  obtain⟨ρ,P,N,S,h⟩:=q
  refine⟨ρ,P,N,S,h.bind.mono fun x P1 N1 H1 e1 a1 h1 v rv=>?_⟩
  have r1:=(S.adv a1).reg
  split at h1
  ·rename_i n q
   have w:=rv.w r1
   rw[q] at w
   simp only[qdn] at h1
   split at h1
   ·rename_i hl
    have hl:=qfV hl
    refine⟨n,w.int,by decide,by decide,hl.1.1,hl.1.2,?_⟩
    exact h1.now r1 _ (qez _ (-1) _)
   ·exact h1.elim
  ·exact h1.elim
theorem qjR {i j c:Int} (h:c≠0∧c.natAbs<1073741824∧Builtin.Range.small i j c=true∧0≤Builtin.Range.rangeSize i j c∧qi4 i j c≤LIM):RgC i j c (qi4 i j c):=
 ⟨h.1,h.2.1,h.2.2.1,(Int.toNat_of_nonneg h.2.2.2.1).symm⟩
theorem qgT {tg a b c:Expr} {g:List Sl→RE (List ER)} {p pos:Pos} (hg:Gl X "range") (hm:X.mg "range" = none) (ha:PA X [a,b,c] (tA C g)) (hl:∀ρ r,g ρ=.ok r→r.length=3) (hs:starEach [a,b,c] X.env=(false,eval a X.env)::starEach [b,c] X.env) (hpl:(backTo pos (starEach [b,c] X.env)).any (·.1)=false) :
  PI X tg (.Call (.Name "range" p) [a,b,c] [] pos) (tI C (qkO g)):=
 qba (pi_range3 hg hm ha hs hpl) fun σ H R q=>by
  obtain⟨ρ,P,N,S,h⟩:=q
  refine⟨ρ,P,N,S,h.bind.mono fun r P1 N1 H1 e1 a1 h1 vs rv=>?_⟩
  have r1:=(S.adv a1).reg
  match r,hl _ _ e1,rv,h1 with
  |[x,y,z],_,rv,h1 =>
   obtain⟨v,u,rfl,w,rv⟩:=rv.w r1
   obtain⟨v2,u2,rfl,w2,rv⟩:=rv.w r1
   obtain⟨v3,u3,rfl,w3,rv⟩:=rv.w r1
   cases rv
   simp only[qc4,qdn,qaE,qai,qbk,qbi,qaT,qbj,qa3,qbn,qbo,qbl] at h1
   split at h1
   ·rename_i i j c q q2 q3
    rw[q] at w
    rw[q2] at w2
    rw[q3] at w3
    split at h1
    ·rename_i hl
     exact⟨i,j,c,_,by rw[w.int,w2.int,w3.int],qjR hl,h1.now r1 _ (qez i c _)⟩
    ·exact h1.elim
   ·exact h1.elim
theorem qep {P N H H':Hp} (r:Reg C P N H) {T:Addr} {x y:V} {d e:D} {b:Bool} (hT:H T=none) (eH:H'=upd H T (.tup [x,y])) (h:RepB C P N b d x) (h':RepB C P N b e y):∃P3,Adv P N H P3 N H'∧RepB C P3 N b (.tup [d,e]) (.ref T):=by
 subst eH
 have sp:=qdP (o:=.tup [x,y]) (r.pH.free hT)
 exact⟨upd P T (.tup [x,y]),(Adv.refl r.pH r.nH).newP hT,T,[x,y],rfl,.inl (.inl upd_same),x,[y],rfl,RepB.adv sp (Cm.Same.refl _) h,y,[],rfl,RepB.adv sp (Cm.Same.refl _) h',rfl⟩
theorem qjw {a:Expr} {elts:List Expr} {kk:Nat} {g:List Sl→RE ER} {p pos tpos:Pos} (hK:X.K=C.G.K) (hg:Gl X "enumerate") (hm:X.mg "enumerate" = none) (h:PE X a (tE C g)) (hs:starEach [a] X.env=[(false,eval a X.env)]) :
  PI X (.Tuple elts kk tpos) (.Call (.Name "enumerate" p) [a] [] pos) (tI C fun ρ=>(g ρ).bind fun x=>match x.d with
  |.lst xs=>.ok ⟨xs.zipIdx.map fun p=>.tup [.int p.2,p.1],x.b,x.isB⟩
  |_=>.bad):=
 qba (pi_enum hg hm (pa_cons h pa_nil hs) hs) fun σ H R q=>by
  rw[hK]
  obtain⟨ρ,P,N,S,h⟩:=q
  refine⟨ρ,P,N,S,h.bind.mono fun x P1 N1 H1 e1 a1 h1 v rv=>?_⟩
  obtain⟨N2,a2,rv⟩:=rv.freeze a1
  have r2:=(S.adv a2).reg
  cases q:x.d with
  |lst ds =>
   simp only[e1,RE.bind_ok,q] at h
   have h2:=res.adv a2 h
   obtain⟨p,xs,rfl,z1,z2,z3⟩:=rv.frz_lst r2 q
   refine⟨p,xs,rfl,z1,h2.now r2 _ ⟨fun H=>SqL C.G.K H p xs,YPair (fun i=>some (.int (i:Nat))) (fun i=>xs[i]?),?_,fun H2 e=>Cm.Same.seq e z1,fun e P2 N2 H2 e1 e2 r2=>?_,fun i P2 N2 H2 x H3 hi e1 e2 r2 y=>?_⟩⟩
   ·have:=walk_enum (K:=C.G.K) (a:=p) (xs:=xs)
    rw[z2.length] at this
    simpa using this
   ·exact LNb.seq r2.pH r2.nH r2.rH _ _ (LNb.mono e1 e2 _ _ (z3 (by rw[qb8];exact e)))
   ·obtain⟨T,x,y,rfl,hT,eH,ex,ey⟩:=y
    cases ex
    have hi:i<ds.length:=by simpa using hi
    obtain⟨v,q1,q2⟩:=Reps.get z2 (List.getElem?_eq_getElem hi)
    replace ey:xs[i]? = some y:=ey
    rw[q1] at ey;cases ey
    obtain⟨P3,q3,q4⟩:=qep r2 hT eH (d:=.int i) rfl (RepB.adv e1 e2 q2)
    exact⟨P3,q3,_,by simp[hi],q4⟩
  |_=>simp only[q] at h1;exact h1.elim
theorem qjn {tg a:Expr} {g:List Sl→RE ER} {p pos:Pos} (hK:X.K=C.G.K) (hg:Gl X "reversed") (hm:X.mg "reversed" = none) (h:PE X a (tE C g)) (hs:starEach [a] X.env=[(false,eval a X.env)]) :
  PI X tg (.Call (.Name "reversed" p) [a] [] pos) (tI C fun ρ=>(g ρ).bind fun x=>match x.d with
  |.lst xs=>.ok ⟨xs.reverse,x.b,x.isB⟩
  |_=>.bad):=
 qba (pi_reversed hg hm (pa_cons h pa_nil hs) hs) fun σ H R q=>by
  rw[hK]
  obtain⟨ρ,P,N,S,h⟩:=q
  refine⟨ρ,P,N,S,h.bind.mono fun x P1 N1 H1 e1 a1 h1 v rv=>?_⟩
  obtain⟨N2,a2,rv⟩:=rv.freeze a1
  have r2:=(S.adv a2).reg
  cases q:x.d with
  |lst ds =>
   simp only[e1,RE.bind_ok,q] at h
   have h2:=res.adv a2 h
   obtain⟨p,xs,rfl,z1,z2,z3⟩:=rv.frz_lst r2 q
   refine⟨p,xs,rfl,z1,h2.now r2 _ ⟨fun H=>SqL C.G.K H p xs,fun i H x H'=>H'=H∧xs[xs.length - 1 - i]? = some x,?_,fun H2 e=>Cm.Same.seq e z1,fun e P2 N2 H2 e1 e2 r2=>?_,fun i P2 N2 H2 x H3 hi e1 e2 r2 y=>?_⟩⟩
   ·have:=walk_rev (K:=C.G.K) (a:=p) (xs:=xs)
    have e:=z2.length
    simp only[List.length_reverse]
    rw[←e]
    exact this
   ·exact LNb.seq r2.pH r2.nH r2.rH _ _ (LNb.mono e1 e2 _ _ (z3 (by rw[qb8];exact e)))
   ·obtain⟨rfl,ex⟩:=y
    have hi:i<ds.length:=by simpa using hi
    have hj:ds.length - 1 - i<ds.length:=by omega
    rw[z2.length] at ex
    obtain⟨v,q1,q2⟩:=Reps.get z2 (List.getElem?_eq_getElem hj)
    rw[q1] at ex;cases ex
    refine⟨P2,Adv.refl r2.pH r2.nH,_,?_,RepB.adv e1 e2 q2⟩
    rw[List.getElem?_reverse hi,List.getElem?_eq_getElem]
  |_=>simp only[q] at h1;exact h1.elim
theorem qjO {a a':Expr} {elts:List Expr} {kk:Nat} {g g':List Sl→RE ER} {p pos tpos:Pos} (hK:X.K=C.G.K) (hg:Gl X "zip") (hm:X.mg "zip" = none) (h:PE X a (tE C g)) (h':PE X a' (tE C g')) (hs:starEach [a,a'] X.env=(false,eval a X.env)::starEach [a'] X.env) (hs2:starEach [a'] X.env=[(false,eval a' X.env)]) (hpl:(backTo pos (starEach [a'] X.env)).any (·.1)=false) :
  PI X (.Tuple elts kk tpos) (.Call (.Name "zip" p) [a,a'] [] pos) (tI C fun ρ=>(g ρ).bind fun x=>(g' ρ).bind fun y=>match x.d,y.d with
  |.lst xs,.lst ys=>.ok ⟨List.zipWith (fun u v=>.tup [u,v]) xs ys,x.b&&y.b,x.isB||y.isB⟩
  |_,_=>.bad):=
 qba (pi_zip hg hm (pa_cons h (pa_cons h' pa_nil hs2) hs) hs hpl) fun σ H R q=>by
  rw[hK]
  obtain⟨ρ,P,N,S,h⟩:=q
  refine⟨ρ,P,N,S,h.bind.mono fun x P1 N1 H1 e1 a1 h1 v rv=>?_⟩
  obtain⟨N2,a2,rv⟩:=rv.freeze a1
  simp only[e1,RE.bind_ok] at h
  have h2:=res.adv a2 h
  refine⟨ρ,P1,N2,S.adv a2,(res.bind h2).mono fun y P3 N3 H3 e3 a3 h3 u ru=>?_⟩
  obtain⟨N4,a4,ru⟩:=ru.freeze a3
  have r4:=((S.adv a2).adv a4).reg
  simp only[e3,RE.bind_ok] at h2
  have h4:=res.adv a4 h2
  have rv4:=rv.adv a4
  split at h4
  ·rename_i ds es q q2
   obtain⟨p,xs,rfl,z1,z2,z3⟩:=rv4.frz_lst r4 q
   obtain⟨p2,ys,rfl,y1,y2,y3⟩:=ru.frz_lst r4 q2
   refine⟨p,p2,xs,ys,rfl,z1,y1,h4.now r4 _ ⟨fun H=>SqL C.G.K H p xs∧SqL C.G.K H p2 ys,YPair (fun i=>xs[i]?) (fun i=>ys[i]?),?_,fun H2 e=>⟨Cm.Same.seq e z1,Cm.Same.seq e y1⟩,fun e P2 N2 H2 e1 e2 r2=>?_,fun i P2 N2 H2 x H3 hi e1 e2 r2 y=>?_⟩⟩
   ·have:=walk_zip (K:=C.G.K) (a:=p) (b:=p2) (xs:=xs) (ys:=ys) rfl
    rw[z2.length,y2.length] at this
    simpa using this
   ·simp only[Bool.or_eq_false_iff] at e
    exact⟨LNb.seq r2.pH r2.nH r2.rH _ _ (LNb.mono e1 e2 _ _ (z3 (by rw[qb8];exact e.1))),LNb.seq r2.pH r2.nH r2.rH _ _ (LNb.mono e1 e2 _ _ (y3 (by rw[qb8];exact e.2)))⟩
   ·obtain⟨T,x,y,rfl,hT,eH,ex,ey⟩:=y
    have hi':i<ds.length∧i<es.length:=by
     have:i<min ds.length es.length:=by simpa using hi
     omega
    replace ex:xs[i]? = some x:=ex
    replace ey:ys[i]? = some y:=ey
    obtain⟨v,q1,q2⟩:=Reps.get z2 (List.getElem?_eq_getElem hi'.1)
    rw[q1] at ex;cases ex
    obtain⟨v,q5,q6⟩:=Reps.get y2 (List.getElem?_eq_getElem hi'.2)
    rw[q5] at ey;cases ey
    obtain⟨P3,q3,q4⟩:=qep r2 hT eH (RepB.adv e1 e2 (RepB.and1 q2)) (RepB.adv e1 e2 (RepB.and2 q6))
    exact⟨P3,q3,_,by rw[List.getElem?_zipWith,List.getElem?_eq_getElem hi'.1,List.getElem?_eq_getElem hi'.2],q4⟩
  ·exact h4.elim
end
end Cm
namespace Cm
open PySem PySem.Spec PyProof.Rows L2
variable [HasT]
def Ctx.nx (C:Ctx):Ctx:={ C with W:=fun _ _ _ _=>False }
section
variable {C:Ctx} {X:Cx}
theorem Reg.nx {P N H:Hp} (r:Reg C P N H):Reg C.nx P N H:=⟨r.pH,r.nH,r.bH,r.rB,r.p0,r.pn,r.nw,r.dj,r.tb,r.tf⟩
theorem Reg.unx {P N H:Hp} (r:Reg C.nx P N H):Reg C P N H:=⟨r.pH,r.nH,r.bH,r.rB,r.p0,r.pn,r.nw,r.dj,r.tb,r.tf⟩
theorem SlR.nx {P N H:Hp} {s:Sl} {o:Option V} (h:SlR C P N H s o):SlR C.nx P N H s o:=by cases s<;>exact h
theorem SR.nx {P N H:Hp} {ρ:List Sl} {σ:L2.St} (S:SR C P N H ρ σ):SR C.nx P N H ρ σ:=⟨S.reg.nx,S.len,fun i s e=>by
 obtain⟨o,h1,h2⟩:=S.sl i s e
 exact⟨o,h1,h2.nx⟩,S.ap,S.ad,S.ar⟩
theorem ERr.unx {P N H H0:Hp} {er:ER} {v:V} (h:ERr C.nx P N H H0 er v):ERr C P N H H0 er v:=by cases er<;>exact h
theorem qat {σ:L2.St}:∀{vs:List Nat} {j:Nat},j∉vs→(wipe σ vs)[j]? = σ[j]?
 |[],_,_=>rfl
 |v::vs,j,h=>by
  simp only[List.mem_cons,not_or] at h
  unfold wipe
  rw[List.getElem?_set_ne (fun z=>h.1 z.symm)]
  exact qat h.2
theorem qee {σ:L2.St}:∀{vs:List Nat} {j:Nat},j∈vs→j<σ.length→(wipe σ vs)[j]? = some none
 |v::vs,j,h,hj=>by
  unfold wipe
  by_cases q:v=j
  ·subst q
   rw[List.getElem?_set_self (by rw[wipe_length];exact hj)]
  ·rw[List.getElem?_set_ne q]
   rcases List.mem_cons.mp h with h | h
   ·exact absurd h.symm q
   ·exact qee h hj
theorem qfC {σ σ':L2.St} {vs:List Nat} (hl:σ'.length=σ.length) (h:∀j,j∉vs→σ'[j]? = σ[j]?):wipe σ' vs=wipe σ vs:=by
 apply List.ext_getElem?
 intro j
 by_cases q:j∈vs
 ·by_cases hj:j<σ.length
  ·rw[qee q hj,qee q (by rw[hl];exact hj)]
  ·rw[List.getElem?_eq_none (by rw[wipe_length];omega),List.getElem?_eq_none (by rw[wipe_length];omega)]
 ·rw[qat q,qat q,h j q]
theorem qe1 {σ:L2.St} {vs:List Nat}:wipe (wipe σ vs) vs=wipe σ vs:=by
 refine qfC (wipe_length _ _) fun j h=>qat h
theorem qch {ρ:List Sl}:∀{vs:List Nat},(wipeS ρ vs).length=ρ.length
 |[]=>rfl
 |v::vs=>by unfold wipeS;rw[List.length_set];exact qch
theorem qaG {ρ:List Sl}:∀{vs:List Nat} {j:Nat} {s:Sl},(wipeS ρ vs)[j]? = some s→s=.non∨(j∉vs∧ρ[j]? = some s)
 |[],_,_,h=>.inr ⟨by simp,h⟩
 |v::vs,j,s,h=>by
  unfold wipeS at h
  by_cases q:v=j
  ·subst q
   by_cases hv:v<(wipeS ρ vs).length
   ·rw[List.getElem?_set_self hv] at h;cases h;exact .inl rfl
   ·rw[List.getElem?_eq_none (by simpa using hv)] at h;cases h
  ·rw[List.getElem?_set_ne q] at h
   rcases qaG h with h | h
   ·exact .inl h
   ·exact .inr ⟨by simp only[List.mem_cons,not_or];exact⟨fun z=>q z.symm,h.1⟩,h.2⟩
theorem SR.wiped {P N H:Hp} {ρ:List Sl} {σ:L2.St} (S:SR C P N H ρ σ) (vs:List Nat):SR C P N H (wipeS ρ vs) (wipe σ vs) where
 reg:=S.reg
 len:=by rw[wipe_length,qch,S.len]
 sl:=fun i s e=>by
  rcases qaG e with rfl | ⟨h1,h2⟩
  ·have hi:i<(wipeS ρ vs).length:=by
    rcases Nat.lt_or_ge i (wipeS ρ vs).length with z | z
    ·exact z
    ·rw[List.getElem?_eq_none z] at e;cases e
   rw[qch,←S.len,←wipe_length σ vs] at hi
   exact⟨_,List.getElem?_eq_getElem hi,trivial⟩
  ·rw[qat h1]
   exact S.sl i s h2
 ap:=fun i j p ds b es c e1 e2 e3 e4=>by
  rcases qaG e1 with z | ⟨h1,h2⟩
  ·cases z
  rcases qaG e2 with z | ⟨h3,h4⟩
  ·cases z
  rw[qat h1] at e3
  rw[qat h3] at e4
  exact S.ap i j p ds b es c h2 h4 e3 e4
 ad:=S.ad.sub fun i m b e=>by
  rcases qaG e with z | ⟨h1,h2⟩
  ·cases z
  ·exact⟨qat h1,_,_,h2⟩
 ar:=⟨fun i j dss t o u a e1 e2 e3 e4 k1 k2=>by
  rcases qaG e1 with z | ⟨h1,h2⟩
  ·cases z
  rcases qaG e2 with z | ⟨h3,h4⟩
  ·subst z;cases k2
  rw[qat h1] at e3
  rw[qat h3] at e4
  exact S.ar.un i j dss t o u a h2 h4 e3 e4 k1 k2⟩
def tIl (C:Ctx) (g:List Sl→RE Wk):TI:=fun σ H R=>∃ρ P N,SR C P N H ρ σ∧res C σ P N H (g ρ) fun w P' N' H'=>∀J,Wok C P' N' H' w J→w.xs.length≤sizeLine→R J H'
abbrev gLc (own tg:List Nat) (gi:List Sl→RE Wk) (gc:List Sl→RE Bool) (ge:List Sl→RE ER):List Sl→RE ER:=fun ρ=>(gi ρ).bind fun xs=>gd (leB xs.xs.length) ((lcl (fun x=>match qaV tg x xs.b (wipeS ρ own) with
   |some ρ'=>noX ((gc ρ').bind fun k=>if k=true then (ge ρ').bind fun y=>match y with
    |.brw _ _=>.bad
    |y=>.ok (some (y.d,y.b)) else .ok none)
   |none=>.bad) xs.xs).bind fun r=>.ok (.fre r.1 r.2))
theorem qgU {f:D→RE (Option (D × Bool))} {x:D} {xs:List D} {r:List D × Bool} (h:lcl f (x::xs)=.ok r):∃a q,f x=.ok a∧lcl f xs=.ok q∧r=match a with
  |none=>q
  |some y=>(y.1::q.1,y.2&&q.2):=by
 unfold lcl at h
 cases e:f x with
 |bad=>rw[e] at h;cases h
 |exc c fs=>rw[e] at h;cases h
 |ok a =>
  rw[e] at h
  cases e2:lcl f xs with
  |bad=>rw[e2] at h;cases h
  |exc c fs=>rw[e2] at h;cases h
  |ok q =>
   rw[e2] at h
   refine⟨a,q,rfl,rfl,?_⟩
   cases a<;>cases h<;>rfl
theorem qhu {f:D→RE (Option (D × Bool))} (hf:∀x,qcx (f x)):∀xs,qcx (lcl f xs)
 |[]=>trivial
 |x::xs=>by
  unfold lcl
  have h1:=hf x
  have h2:=qhu hf xs
  cases e:f x with
  |bad=>trivial
  |exc c fs=>rw[e] at h1;exact h1.elim
  |ok a =>
   cases e2:lcl f xs with
   |bad=>trivial
   |exc c fs=>rw[e2] at h2;exact h2.elim
   |ok q=>cases a<;>trivial
theorem qkf {α:Type} (r:RE α):qcx (noX r):=by cases r<;>trivial
theorem qi8 {α:Type} {r:RE α} {a:α} (h:noX r=.ok a):r=.ok a:=by
 cases r with
 |bad=>cases h
 |ok b=>exact h
 |exc c fs=>cases h
theorem qhy {own tg:List Nat} {gi:List Sl→RE Wk} {gc:List Sl→RE Bool} {ge:List Sl→RE ER} (hsub:∀i∈tg,i∈own) {σ:L2.St} {H:Hp} {Q:VK} (h:tE C (gLc own tg gi gc ge) σ H Q) :
  tLc (tI C gi) (tG C.nx tg) (tT C.nx gc) (tE C.nx ge) own σ H Q:=by
 obtain⟨ρ,P,N,S,h⟩:=h
 refine⟨ρ,P,N,S,h.bind.mono fun w P1 N1 H1 e1 a1 h1 J wj D hD=>?_⟩
 have S1:=S.adv a1
 simp only[qdn,qai] at h1
 split at h1
 case isFalse=>exact h1.elim
 rename_i hlen
 generalize hf:(fun x=>match qaV tg x w.b (wipeS ρ own) with
   |some ρ'=>noX ((gc ρ').bind fun k=>if k=true then (ge ρ').bind fun y=>match y with
    |.brw _ _=>.bad
    |y=>.ok (some (y.d,y.b)) else .ok none)
   |none=>.bad)=f at h1
 have fnx:∀x,qcx (f x):=fun x=>by
  subst hf
  simp only
  split
  ·exact qkf _
  ·trivial
 cases e2:lcl f w.xs with
 |bad=>rw[e2] at h1;exact h1.elim
 |exc c fs=>have:=qhu fnx w.xs;rw[e2] at this;exact this.elim
 |ok tot =>
  rw[e2] at h1
  obtain⟨Gd,Y,wk,grow,_,item⟩:=wj
  refine lc_it wk (Pv:=fun i Hi=>∃(P N:Hp) (acc:List V) (ds:List Cm.D) (b:Bool) (rest:List Cm.D × Bool),Adv P1 N1 H1 P N Hi∧Hi D=some (.lst acc)∧P D=none∧N D=none∧RepsB C P N b ds acc∧ds.length≤i∧lcl f (w.xs.drop i)=.ok rest∧tot.1=ds++rest.1∧tot.2=(b&&rest.2)) ?_ (fun i Hi hi p=>?_) (fun i x Hi H' hi p y=>?_) (fun Hi p=>?_)
  ·exact⟨P1,N1,[],[],true,tot,(Adv.refl S1.reg.pH S1.reg.nH).heap (qdP hD),upd_same,S1.reg.pH.free hD,S1.reg.nH.free hD,rfl,Nat.le_refl _,by simpa using e2,rfl,by simp⟩
  ·obtain⟨P,N,acc,ds,b,rest,a,_⟩:=p
   exact grow Hi a.hh
  ·obtain⟨P2,N2,acc,ds,b,rest,a,hDi,pD,nD,rr,hdl,el,et,eb⟩:=p
   obtain⟨P3,a3,d,ed,rd⟩:=item i P2 N2 Hi x H' hi a.pp a.nn (S1.adv a).reg y
   have hdrop:w.xs.drop i=d::w.xs.drop (i+1):=by
    obtain⟨hi',e⟩:=List.getElem?_eq_some_iff.mp ed
    rw[List.drop_eq_getElem_cons hi',e]
   rw[hdrop] at el
   obtain⟨r1,q,ef,eq,er⟩:=qgU el
   have aa:=a.trans a3
   have hD':=a3.hh _ _ hDi
   have pD3:=a3.off hDi pD
   subst hf
   simp only at ef
   split at ef
   case h_2=>cases ef
   rename_i ρ' eb'
   have ef:=qi8 ef
   refine⟨wipeS ρ own,P3,N2,d,w.b,ρ',((S1.adv aa).wiped own).nx,rd,eb',fun σ' S' hj hl=>⟨?_,?_⟩⟩
   ·rw[qfC (σ:=wipe σ own) hl fun j h=>hj j fun z=>h (hsub j z),qe1]
   ·cases e5:gc ρ' with
    |bad=>rw[e5] at ef;cases ef
    |exc c fs=>rw[e5] at ef;cases ef
    |ok k =>
     rw[e5,RE.bind_ok] at ef
     refine⟨ρ',P3,N2,S',?_⟩
     rw[e5]
     intro P4 N4 H4 a4
     have hD4:=a4.hh _ _ hD'
     have pD4:=a4.off hD' pD3
     have nD4:=a4.offN hD' nD
     cases k with
     |false =>
      simp only[Bool.false_eq_true,if_false] at ef ⊢
      cases ef
      have er':rest=q:=er
      exact⟨P4,N4,acc,ds,b,q,aa.trans a4,hD4,pD4,nD4,RepsB.adv (a3.pp.trans a4.pp) a4.nn rr,Nat.le_succ_of_le hdl,eq,by rw[et,er'],by rw[eb,er']⟩
     |true =>
      simp only[if_true] at ef ⊢
      cases e6:ge ρ' with
      |bad=>rw[e6] at ef;cases ef
      |exc c fs=>rw[e6] at ef;cases ef
      |ok y =>
       rw[e6,RE.bind_ok] at ef
       refine⟨ρ',P4,N4,S'.adv a4,?_⟩
       rw[e6]
       intro P5 N5 H5 a5 v rv
       have rv:=rv.unx
       obtain⟨N6,a6,rv6⟩:=rv.freeze a5
       have hD6:=a6.hh _ _ hD4
       have pD6:=a6.off hD4 pD4
       have nD6:=a6.offN hD4 nD4
       have ry:r1=some (y.d,y.b)∧RepB C P5 N6 y.b y.d v:=by
        cases y with
        |val d' b'=>exact⟨(RE.ok.inj ef).symm,rv6⟩
        |fre d' b'=>exact⟨(RE.ok.inj ef).symm,rv6⟩
        |brw d' b'=>cases ef
       obtain⟨rfl,rv7⟩:=ry
       have er':rest=(y.d::q.1,y.b&&q.2):=er
       have full:=((a.trans a3).trans a4).trans a6
       have hl2:acc.length=ds.length:=rr.length
       refine⟨acc,hD6,?_,P5,N6,acc++[v],ds++[y.d],b&&y.b,q,⟨?_,full.pp,full.nn,qaj full.pH pD6,qaj full.nH nD6,full.pn,full.nw,full.dj,full.tp,full.tn⟩,upd_same,pD6,nD6,?_,?_,eq,?_,?_⟩
       ·have:w.xs.length≤sizeLine:=hlen
        omega
       ·exact qjh full.hh hD hD6
       ·exact Reps.append (RepsB.and1 (RepsB.adv ((a3.pp.trans a4.pp).trans a6.pp) (a4.nn.trans a6.nn) rr)) (Reps.one (RepB.and2 rv7))
       ·simp only[List.length_append,List.length_singleton];omega
       ·rw[et,er'];simp
       ·rw[eb,er'];simp[Bool.and_assoc]
  ·obtain⟨P2,N2,acc,ds,b,rest,a,hDi,pD,nD,rr,hdl,el,et,eb⟩:=p
   rw[List.drop_length] at el
   cases el
   have et':tot.1=ds:=by simpa using et
   have eb':tot.2=b:=by simpa using eb
   refine h1 P2 N2 Hi a _ ⟨D,acc,rfl,hDi,a1.hh.free hD,pD,nD,?_⟩
   rw[et',eb']
   exact rr
end
end Cm
set_option maxHeartbeats 2000000
namespace PySem
section
variable {M:Model} {A:Around} {E:Value→Shared→Prop} {s:Shared} {Z:Obj→Prop} {base:Heap} {env:Env} {outer l:List Env} {L L' C e:Addr}
end
end PySem
namespace Cm
open PySem PySem.Spec PyProof.Rows L2
variable [HasT]
structure FrOk (X:Cx):Prop where
 st:X.stack=X.env::X.outer
 fr:X.env.frame=some X.env.locals
 ex:X.ex=[]
section
variable {X:Cx} {W:WX} {pins:List (Addr × Obj)} {σ:L2.St} {H3:Hp} {s3:Shared} {fp:List Addr} {scope:Scope} {ce:PySem.Env}
abbrev qni (X:Cx) (ce:PySem.Env):Value→Shared→Prop:=notedBy (model X.prog X.w) X.A ce (CompFails (model X.prog X.w) X.A X.xe ce)
end
end Cm
namespace Cm
open PySem PySem.Spec PyProof.Rows L2
variable [HasT]
section
variable {X:Cx} {W:WX}
end
end Cm
namespace Cm
open PySem PySem.Spec PyProof.Rows L2
variable [HasT]
section
variable {X:Cx} {W:WX} {elt tg iter:Expr} {ifs:List Expr} {scope:Scope} {own:List (Str × Nat)} {pos:Pos} {wi:TI} {g:TG} {tt:L2.St→TT} {te:L2.St→TE}
end
end Cm
namespace Cm
open PySem PySem.Spec PyProof.Rows L2
variable [HasT]
def Ctx.bx (C:Ctx) (σ:L2.St):Ctx:={ C with W:=fun c d _ H=>C.W c d σ H }
section
variable {C:Ctx} {X:Cx}
theorem Reg.bx {P N H:Hp} {σ:L2.St} (r:Reg C.nx P N H):Reg (C.bx σ) P N H:=⟨r.pH,r.nH,r.bH,r.rB,r.p0,r.pn,r.nw,r.dj,r.tb,r.tf⟩
theorem SlR.bx {P N H:Hp} {s:Sl} {o:Option V} {σ:L2.St} (h:SlR C.nx P N H s o):SlR (C.bx σ) P N H s o:=by cases s<;>exact h
theorem SR.bx {P N H:Hp} {ρ:List Sl} {σ' σ:L2.St} (S:SR C.nx P N H ρ σ'):SR (C.bx σ) P N H ρ σ':=⟨S.reg.bx,S.len,fun i s e=>by
 obtain⟨o,h1,h2⟩:=S.sl i s e
 exact⟨o,h1,h2.bx⟩,S.ap,S.ad,S.ar⟩
abbrev qm6 (own tg:List Nat) (gi:List Sl→RE Wk) (gc:List Sl→RE Bool) (ge:List Sl→RE ER):List Sl→RE ER:=fun ρ=>(gi ρ).bind fun xs=>gd (leB xs.xs.length) ((lcl (fun x=>match qaV tg x xs.b (wipeS ρ own) with
   |some ρ'=>(gc ρ').bind fun k=>if k=true then (ge ρ').bind fun y=>match y with
    |.brw _ _=>.bad
    |y=>.ok (some (y.d,y.b)) else .ok none
   |none=>.bad) xs.xs).bind fun r=>.ok (.fre r.1 r.2))
end
end Cm
namespace Cm
open PySem PySem.Spec PyProof.Rows L2
variable [HasT]
section
variable (C:Ctx)
def outS (P0 N0:Hp) (D:Ends) (o:Out):Prop:=
 match o with
 |.bad=>False
 |.nx ρ=>∀σ P N H,SR C P N H ρ σ→Cm.Same P0 P→Cm.Same N0 N→D.nx σ H
 |.brk ρ=>∀σ P N H,SR C P N H ρ σ→Cm.Same P0 P→Cm.Same N0 N→D.bk σ H
 |.cnt ρ=>∀σ P N H,SR C P N H ρ σ→Cm.Same P0 P→Cm.Same N0 N→D.ct σ H
 |.ret er=>∀v P N H,Reg C P N H→ERr C P N H C.B er v→D.rt v H
 |.exc c fs=>∀σ d P N H,Reg C P N H→ExR C P N H fs d→C.W (.ref (C.G.ca c)) d σ H
def tS (g:List Sl→Out):TS:=fun D σ H=>∃ρ P N,SR C P N H ρ σ∧outS C P N D (g ρ)
end
section
variable {C:Ctx} {X:Cx}
theorem outS.res {α:Type} {D:Ends} {σ:L2.St} {P N H:Hp} {r:RE α} {f:α→Out} (rg:Reg C P N H) (h:outS C P N D (r.out f)):res C σ P N H r fun a _ _ _=>outS C P N D (f a):=by
 cases r with
 |bad=>exact h
 |ok a=>exact fun _ _ _ _=>h
 |exc c fs=>exact fun d P' N' H' a x=>h σ d P' N' H' (rg.adv a) x
theorem outS.adv {P N P' N':Hp} {D:Ends} {o:Out} (h:outS C P N D o) (hp:Cm.Same P P') (hn:Cm.Same N N'):outS C P' N' D o:=by
 cases o with
 |bad=>exact h
 |nx ρ=>exact fun σ P2 N2 H S e1 e2=>h σ P2 N2 H S (hp.trans e1) (hn.trans e2)
 |brk ρ=>exact fun σ P2 N2 H S e1 e2=>h σ P2 N2 H S (hp.trans e1) (hn.trans e2)
 |cnt ρ=>exact fun σ P2 N2 H S e1 e2=>h σ P2 N2 H S (hp.trans e1) (hn.trans e2)
 |ret er=>exact h
 |exc c fs=>exact h
theorem outS.mono {P0 N0:Hp} {D D':Ends} {o:Out} (h:outS C P0 N0 D o) (h1:∀σ H,D.nx σ H→D'.nx σ H) (h2:∀v H,D.rt v H→D'.rt v H) (h3:∀σ H,D.bk σ H→D'.bk σ H) (h4:∀σ H,D.ct σ H→D'.ct σ H):outS C P0 N0 D' o:=by
 cases o with
 |bad=>exact h
 |nx ρ=>exact fun σ P N H S e1 e2=>h1 _ _ (h σ P N H S e1 e2)
 |brk ρ=>exact fun σ P N H S e1 e2=>h3 _ _ (h σ P N H S e1 e2)
 |cnt ρ=>exact fun σ P N H S e1 e2=>h4 _ _ (h σ P N H S e1 e2)
 |ret er=>exact fun v P N H S e=>h2 _ _ (h v P N H S e)
 |exc c fs=>exact h
theorem qaf {s:Stmt} {t u:TS} (h:PS X s t) (f:∀D σ H,u D σ H→t D σ H):PS X s u:=⟨fun pins s σ H D I q=>h.run pins s σ H D I (f _ _ _ q)⟩
theorem qah {s:List Stmt} {t u:TS} (h:PSs X s t) (f:∀D σ H,u D σ H→t D σ H):PSs X s u:=⟨fun pins s σ H D I q=>h.run pins s σ H D I (f _ _ _ q)⟩
theorem qfD {s:Stmt}:PS X s (tS C fun _=>.bad):=qaf ps_never fun D σ H q=>by obtain⟨ρ,P,N,S,h⟩:=q;exact h
theorem qgK:PSs X [] (tS C fun ρ=>.nx ρ):=qah pss_nil fun D σ H q=>by obtain⟨ρ,P,N,S,h⟩:=q;exact h σ P N H S (Cm.Same.refl _) (Cm.Same.refl _)
theorem qfI {s:Stmt} {ss:List Stmt} {g g':List Sl→Out} (h:PS X s (tS C g)) (h':PSs X ss (tS C g')):PSs X (s::ss) (tS C fun ρ=>(g ρ).seq g'):=
 qah (pss_cons h h') fun D σ H q=>by
  obtain⟨ρ,P,N,S,h⟩:=q
  refine⟨ρ,P,N,S,?_⟩
  show outS C P N { D with nx:=tS C g' D } (g ρ)
  cases e:g ρ with
  |nx ρ'=>simp only[e,Out.seq_nx] at h;exact fun σ P' N' H S e1 e2=>⟨ρ',P',N',S,h.adv e1 e2⟩
  |bad=>simp only[e] at h;exact h
  |brk ρ'=>simp only[e] at h;exact h
  |cnt ρ'=>simp only[e] at h;exact h
  |ret er=>simp only[e] at h;exact h
  |exc c fs=>simp only[e] at h;exact h
theorem qg4 {pos:Pos}:PS X (.Pass pos) (tS C fun ρ=>.nx ρ):=qaf ps_pass fun D σ H q=>by obtain⟨ρ,P,N,S,h⟩:=q;exact h σ P N H S (Cm.Same.refl _) (Cm.Same.refl _)
theorem qiy {x:Str} {j:Nat} {pos pos':Pos}:PS X (.Expr (.Constant (.str x) j pos) pos') (tS C fun ρ=>.nx ρ):=qaf ps_doc fun D σ H q=>by obtain⟨ρ,P,N,S,h⟩:=q;exact h σ P N H S (Cm.Same.refl _) (Cm.Same.refl _)
theorem qhV {pos:Pos}:PS X (.Break pos) (tS C fun ρ=>.brk ρ):=qaf ps_break fun D σ H q=>by obtain⟨ρ,P,N,S,h⟩:=q;exact h σ P N H S (Cm.Same.refl _) (Cm.Same.refl _)
theorem qhH {pos:Pos}:PS X (.Continue pos) (tS C fun ρ=>.cnt ρ):=qaf ps_continue fun D σ H q=>by obtain⟨ρ,P,N,S,h⟩:=q;exact h σ P N H S (Cm.Same.refl _) (Cm.Same.refl _)
theorem qgo {pos:Pos}:PS X (.Return none pos) (tS C fun _=>.ret (.val .non true)):=qaf ps_retN fun D σ H q=>by obtain⟨ρ,P,N,S,h⟩:=q;exact h .non P N H S.reg rfl
theorem qfo {e:Expr} {g:List Sl→RE ER} {pos:Pos} (h:PE X e (tE C g)):PS X (.Return (some e) pos) (tS C fun ρ=>(g ρ).out fun x=>.ret (qkp x)):=
 qaf (ps_ret h) fun D σ H q=>by
  obtain⟨ρ,P,N,S,h⟩:=q
  refine⟨ρ,P,N,S,(h.res S.reg).mono fun x P1 N1 H1 _ a1 h1 v rv=>?_⟩
  have r1:=(S.adv a1).reg
  refine h1 v P1 N1 H1 r1 ?_
  cases x with
  |val d b=>exact rv
  |fre ds b=>exact rv.from S.reg.bH
  |brw ds b =>
   obtain⟨p,xs,e,z1,z2,z3,z4,z5⟩:=rv
   exact⟨p,xs,e,z1,z4,z2,z3,z5⟩
theorem qgu {e:Expr} {g:List Sl→RE ER} {pos:Pos} (h:PE X e (tE C g)) (hs:swapsWith e none pos.line X.env=pure false):PS X (.Expr e pos) (tS C fun ρ=>(g ρ).out fun _=>.nx ρ):=
 qaf (ps_expr h hs) fun D σ H q=>by
  obtain⟨ρ,P,N,S,h⟩:=q
  exact⟨ρ,P,N,S,(h.res S.reg).mono fun x P1 N1 H1 _ a1 h1 v rv=>h1 σ P1 N1 H1 (S.adv a1) a1.pp a1.nn⟩
theorem qh9 {c:Expr} {a b:List Stmt} {gc:List Sl→RE Bool} {ga gb:List Sl→Out} {pos:Pos} (hc:PT X c (tT C gc)) (ha:PSs X a (tS C ga)) (hb:PSs X b (tS C gb)):PS X (.If c a b pos) (tS C fun ρ=>(gc ρ).out fun k=>if k=true then ga ρ else gb ρ):=
 qaf (ps_if hc ha hb) fun D σ H q=>by
  obtain⟨ρ,P,N,S,h⟩:=q
  refine⟨ρ,P,N,S,(h.res S.reg).mono fun k P1 N1 H1 _ a1 h1=>?_⟩
  cases k
  ·exact⟨ρ,P1,N1,S.adv a1,h1.adv a1.pp a1.nn⟩
  ·exact⟨ρ,P1,N1,S.adv a1,h1.adv a1.pp a1.nn⟩
theorem ERr.held {P1 N1 H0 P N H:Hp} {er:ER} {v:V} {f:Cm.D→Bool→Out} {D:Ends} (a:Adv P1 N1 H0 P N H) (h:ERr C P N H H0 er v) (o:outS C P1 N1 D (held er f)):∃N2 d b,Adv P1 N1 H0 P N2 H∧RepB C P N2 b d v∧outS C P1 N1 D (f d b):=by
 cases er with
 |brw ds b=>exact o.elim
 |val d b=>exact⟨N,d,b,a,h,o⟩
 |fre ds b =>
  obtain⟨N2,a2,r2⟩:=h.freeze a
  exact⟨N2,.lst ds,b,a2,r2,o⟩
theorem qix {i:Nat} {g:List Sl→RE ER} {D:Ends} {σ:L2.St} {H:Hp} (q:tS C (fun ρ=>(g ρ).out fun x=>held x fun d b=>.nx (ρ.set i (.val d b))) D σ H):tAsg (tE C g) (gName i) D σ H:=by
 obtain⟨ρ,P,N,S,h⟩:=q
 refine⟨ρ,P,N,S,(h.res S.reg).mono fun x P1 N1 H1 _ a1 h1 v rv=>?_⟩
 obtain⟨N2,d,b,a2,r2,o⟩:=rv.held a1 h1
 exact o _ P1 N2 H1 ((S.adv a2).setV r2) a2.pp a2.nn
theorem SR.newW {P0 N0 H0 H:Hp} {ρ:List Sl} {σ:L2.St} (S0:SR C P0 N0 H0 ρ σ) (hs:Cm.Same H0 H) {p:Addr} (h0:H0 p=none) {j:Nat} {dss:List (List Cm.D)} {u:Option V} (e1:ρ[j]? = some (.row dss)) (e2:σ[j]? = some u):¬Held H (.row dss) u p:=fun k=>by
 obtain⟨o,z1,z2⟩:=S0.sl j _ e1
 rw[z1] at e2;cases e2
 have k0:Held H0 (.row dss) u p:=by
  obtain⟨q,ps,rfl,y1,_⟩:=z2
  cases k with
  |rt=>exact .rt
  |it e m =>
   rw[hs _ _ y1] at e
   injection e with e
   injection e with e
   rw[←qaW e] at m
   exact .it y1 m
 obtain⟨⟨xs,q⟩,_⟩:=z2.held k0
 rw[h0] at q;cases q
theorem SR.setO {P0 N0 H0 P N H:Hp} {ρ:List Sl} {σ:L2.St} (S0:SR C P0 N0 H0 ρ σ) (S:SR C P N H ρ σ) (hs:Cm.Same H0 H) {i:Nat} {ds:List Cm.D} {b:Bool} {p:Addr} {xs:List V} (h0:H0 p=none) (hp:H p=some (.lst xs)) (pP:P p=none) (pN:N p=none) (h:RepsB C P N b ds xs):SR C P N H (ρ.set i (.own ds b)) (σ.set i (some (.ref p))) where
 reg:=S.reg
 len:=by simp[S.len]
 sl:=fun j s e=>by
  by_cases q:i=j
  ·subst q
   have hi:i<ρ.length:=by
    rcases Nat.lt_or_ge i ρ.length with z | z
    ·exact z
    ·rw[List.getElem?_eq_none (by simpa using z)] at e;cases e
   rw[List.getElem?_set_self hi] at e
   cases e
   exact⟨_,List.getElem?_set_self (by rw[S.len];exact hi),p,xs,rfl,hp,pP,pN,S0.reg.bH.free h0,h⟩
  ·rw[List.getElem?_set_ne q] at e
   rw[List.getElem?_set_ne q]
   exact S.sl j s e
 ap:=fun j k r ds' c es c' e1 e2 e3 e4=>by
  have old:∀{m:Nat} {r:Addr} {es:List Cm.D} {c:Bool},i≠m→(ρ.set i (.own ds b))[m]? = some (.own es c)→(σ.set i (some (.ref p)))[m]? = some (some (.ref r))→H0 r≠none:=fun {m r es c} hm e1 e2=>by
   rw[List.getElem?_set_ne hm] at e1 e2
   obtain⟨o,z1,q,ys,z2,z3,_⟩:=S0.sl m _ e1
   rw[z1] at e2
   cases e2
   cases z2
   rw[z3];simp
  have here:∀{m:Nat} {r:Addr},i=m→m<σ.length→(σ.set i (some (.ref p)))[m]? = some (some (.ref r))→r=p:=fun {m r} hm hl e=>by
   subst hm
   rw[List.getElem?_set_self hl] at e
   cases e;rfl
  have lt:∀{m:Nat} {o:Option V},(σ.set i (some (.ref p)))[m]? = some o→m<σ.length:=fun {m o} e=>by
   rcases Nat.lt_or_ge m σ.length with z | z
   ·exact z
   ·rw[List.getElem?_eq_none (by simpa using z)] at e;cases e
  by_cases q:i=j
  ·by_cases q2:i=k
   ·omega
   ·have:=here q (lt e3) e3
    subst this
    exact absurd h0 (old q2 e2 e4)
  ·by_cases q2:i=k
   ·have:=here q2 (lt e4) e4
    subst this
    exact absurd h0 (old q e1 e3)
   ·rw[List.getElem?_set_ne q] at e1 e3
    rw[List.getElem?_set_ne q2] at e2 e4
    exact S.ap j k r ds' c es c' e1 e2 e3 e4
 ad:=S.ad.set rfl
 ar:=S.ar.setO fun j dss u _ e1 e2=>S0.newW hs h0 e1 e2
theorem qhX {i:Nat} {g:List Sl→RE ER} {D:Ends} {σ:L2.St} {H:Hp} (q:tS C (fun ρ=>(g ρ).out fun x=>match x with
  |.fre ds b=>.nx (ρ.set i (.own ds b))
  |.val .non _=>.nx (ρ.set i (.val .non true))
  |_=>.bad) D σ H):tAsg (tE C g) (gName i) D σ H:=by
 obtain⟨ρ,P,N,S,h⟩:=q
 refine⟨ρ,P,N,S,(h.res S.reg).mono fun x P1 N1 H1 _ a1 h1 v rv=>?_⟩
 cases x with
 |fre ds b =>
  obtain⟨p,xs,rfl,z1,z2,z3,z4,z5⟩:=rv
  exact h1 _ P1 N1 H1 (S.setO (S.adv a1) a1.hh z2 z1 z3 z4 z5) a1.pp a1.nn
 |val d b =>
  cases d with
  |non=>exact h1 _ P1 N1 H1 ((S.adv a1).setV rv) a1.pp a1.nn
  |_=>exact h1.elim
 |brw _ _=>exact h1.elim
theorem qgw {t e:Expr} {tg:List Nat} {g:List Sl→RE ER} {pos:Pos} (h:PE X e (tE C g)) (ht:PG X t (tG C tg)) (hs:swapsWithSole [t] e pos.line X.env=pure false) (hw:swappedStores [t] e X.env=pure none) (h1:(assignEach [t] X.env).map (·.2)=[assign t X.env]) :
  PS X (.Assign [t] e pos) (tS C fun ρ=>(g ρ).out fun x=>held x fun d b=>onB (qaV tg d b ρ) .nx):=
 qaf (ps_asg h ht hs hw h1) fun D σ H q=>by
  obtain⟨ρ,P,N,S,h⟩:=q
  refine⟨ρ,P,N,S,(h.res S.reg).mono fun x P1 N1 H1 _ a1 h1 v rv=>?_⟩
  obtain⟨N2,d,b,a2,r2,o⟩:=rv.held a1 h1
  cases e:qaV tg d b ρ with
  |some ρ' =>
   rw[e] at o
   exact⟨ρ,P1,N2,d,b,ρ',S.adv a2,r2,e,fun σ' S' _ _=>o σ' P1 N2 H1 S' a2.pp a2.nn⟩
  |none=>rw[e] at o;exact o.elim
theorem qbq {P N:Hp} {D:Ends} {ρ:List Sl} {i:Nat} {f:List Cm.D→Bool→Out} (h:outS C P N D (qaI ρ i f)):∃ds b,ρ[i]? = some (.own ds b)∧outS C P N D (f ds b):=by
 unfold qaI at h
 split at h
 ·rename_i ds b e
  exact⟨ds,b,e,h⟩
 ·exact h.elim
theorem SR.write {P N H:Hp} {ρ:List Sl} {σ:L2.St} (S:SR C P N H ρ σ) {i:Nat} {ds ds':List Cm.D} {b b':Bool} {p:Addr} {xs':List V} (e:ρ[i]? = some (.own ds b)) (eσ:σ[i]? = some (some (.ref p))) (h:RepsB C P N b' ds' xs'):SR C P N (upd H p (.lst xs')) (ρ.set i (.own ds' b')) σ:=by
 obtain⟨o,z1,q,xs,z2,z3,z4,z5,z6,z7⟩:=S.sl i _ e
 rw[z1] at eσ;cases eσ;cases z2
 have hi:i<ρ.length:=(List.getElem?_eq_some_iff.mp e).1
 refine⟨⟨qaj S.reg.pH z4,qaj S.reg.nH z5,qaj S.reg.bH z6,S.reg.rB,S.reg.p0,S.reg.pn,S.reg.nw,S.reg.dj,qbE z3 S.reg.tb,S.reg.tf⟩,by simp[S.len],fun j s ej=>?_,fun j k r ds1 c es c' e1 e2 e3 e4=>?_,S.ad.setS rfl,(S.ar.own e).heap fun j dss r ej ej2=>upd_ne fun er=>?_⟩
 ·by_cases q:i=j
  ·subst q
   rw[List.getElem?_set_self hi] at ej
   cases ej
   exact⟨_,z1,p,xs',rfl,upd_same,z4,z5,z6,h⟩
  ·rw[List.getElem?_set_ne q] at ej
   obtain⟨o,y1,y2⟩:=S.sl j s ej
   refine⟨o,y1,?_⟩
   cases s with
   |non=>trivial
   |val d b=>exact y2
   |own es c =>
    obtain⟨r,ys,y3,y4,y5⟩:=y2
    have hr:r≠p:=fun er=>q (S.ap i j p ds b es c e ej z1 (by rw[y1,y3,er]))
    exact⟨r,ys,y3,by rw[upd_ne hr];exact y4,y5⟩
   |slf c fs =>
    obtain⟨r,dx,ys,y3,y4,y5⟩:=y2
    have hr:r≠p:=fun er=>by rw[er,z3] at y4;cases y4
    exact⟨r,dx,ys,y3,by rw[upd_ne hr];exact y4,y5⟩
   |fxd d k=>exact y2
   |dct m c =>
    obtain⟨r,es,y3,y4,y5⟩:=y2
    have hr:r≠p:=fun er=>by rw[er,z3] at y4;cases y4
    exact⟨r,es,y3,by rw[upd_ne hr];exact y4,y5⟩
   |row dss =>
    have far:∀a,Held H (.row dss) o a→a≠p:=fun a k er=>q (S.ar.un j i dss _ _ _ a ej e y1 z1 k (by rw[er];exact .own)).symm
    obtain⟨r,ps,rfl,y4,y5,y6,y7,y8,y9⟩:=y2
    refine⟨r,ps,rfl,by rw[upd_ne (far r .rt)];exact y4,y5,y6,y7,?_,y9⟩
    exact y8.sub fun a m ds ⟨xs,g1,g2⟩=>⟨xs,by rw[upd_ne (far a (.it y4 m))];exact g1,g2⟩
 ·have un:∀{m:Nat} {es:List Cm.D} {c:Bool},(ρ.set i (.own ds' b'))[m]? = some (.own es c)→∃es' c',ρ[m]? = some (.own es' c'):=fun {m es c} em=>by
   by_cases q:i=m
   ·subst q;exact⟨_,_,e⟩
   ·rw[List.getElem?_set_ne q] at em;exact⟨_,_,em⟩
  obtain⟨_,_,f1⟩:=un e1
  obtain⟨_,_,f2⟩:=un e2
  exact S.ap j k r _ _ _ _ f1 f2 e3 e4
 ·rcases qad ej with⟨_,z⟩ | ⟨qn,z⟩
  ·cases z
  ·exact qn (S.ar.un j i dss _ _ _ p z e ej2 z1 (by rw[er];exact .rt) .own).symm
theorem SR.root {P N H:Hp} {ρ:List Sl} {σ:L2.St} (S:SR C P N H ρ σ) {i:Nat} {ds:List Cm.D} {b:Bool} (e:ρ[i]? = some (.own ds b)):∃p xs,σ[i]? = some (some (.ref p))∧H p=some (.lst xs)∧P p=none∧N p=none∧C.B p=none∧RepsB C P N b ds xs:=by
 obtain⟨o,z1,p,xs,rfl,z2⟩:=S.sl i _ e
 exact⟨p,xs,z1,z2⟩
theorem qiJ {i:Nat} {g:List Sl→Out} {D:Ends} {σ:L2.St} {H:Hp} (q:tS C (fun ρ=>qaI ρ i fun ds b=>g (ρ.set i (.val (.lst ds) b))) D σ H):tS C g D σ H:=by
 obtain⟨ρ,P,N,S,h⟩:=q
 obtain⟨ds,b,e,o⟩:=qbq h
 obtain⟨p,xs,z1,z2,z3,z4,z5,z6⟩:=S.root e
 have hi:i<ρ.length:=(List.getElem?_eq_some_iff.mp e).1
 have sn:Cm.Same N (upd N p (.lst xs)):=qaX z4
 refine⟨ρ.set i (.val (.lst ds) b),P,upd N p (.lst xs),⟨⟨S.reg.pH,qfG S.reg.nH z2,S.reg.bH,S.reg.rB,S.reg.p0,S.reg.pn,fun a ha=>?_,fun a ha=>?_,S.reg.tb,⟨S.reg.tf.1,S.reg.tf.2.1.upd,S.reg.tf.2.2⟩⟩,by simp[S.len],fun j s ej=>?_,fun j k r ds1 c es c' e1 e2 e3 e4=>?_,S.ad.setS rfl,S.ar.setS rfl⟩,o.adv (Cm.Same.refl _) sn⟩
 ·by_cases q:a=p
  ·rw[q];exact z5
  ·rw[upd_ne q] at ha;exact S.reg.nw a ha
 ·by_cases q:a=p
  ·rw[q];exact z3
  ·rw[upd_ne q] at ha;exact S.reg.dj a ha
 ·by_cases q:i=j
  ·subst q
   rw[List.getElem?_set_self hi] at ej
   cases ej
   exact⟨_,z1,_,rfl,p,xs,rfl,.inl upd_same,RepsB.adv (Cm.Same.refl _) sn z6⟩
  ·rw[List.getElem?_set_ne q] at ej
   obtain⟨o,y1,y2⟩:=S.sl j s ej
   refine⟨o,y1,?_⟩
   cases s with
   |non=>trivial
   |val d b=>obtain⟨v,y3,y4⟩:=y2;exact⟨v,y3,RepB.adv (Cm.Same.refl _) sn y4⟩
   |own es c =>
    obtain⟨r,ys,y3,y4,y5,y6,y7,y8⟩:=y2
    have hr:r≠p:=fun er=>q (S.ap i j p ds b es c e ej z1 (by rw[y1,y3,er]))
    exact⟨r,ys,y3,y4,y5,by rw[upd_ne hr];exact y6,y7,RepsB.adv (Cm.Same.refl _) sn y8⟩
   |slf c fs =>
    obtain⟨r,dx,ys,y3,y4,y5,y6,y7,y8,y9⟩:=y2
    have hr:r≠p:=fun er=>by rw[er,z2] at y4;cases y4
    exact⟨r,dx,ys,y3,y4,y5,by rw[upd_ne hr];exact y6,y7,y8,RepsB.adv (Cm.Same.refl _) sn y9⟩
   |fxd d k=>obtain⟨v,y3,y4,y5⟩:=y2;exact⟨v,y3,y4,RepB.adv (Cm.Same.refl _) sn y5⟩
   |dct m c =>
    obtain⟨r,es,y3,y4,y5,y6,y7,y8⟩:=y2
    have hr:r≠p:=fun er=>by rw[er,z2] at y4;cases y4
    exact⟨r,es,y3,y4,y5,by rw[upd_ne hr];exact y6,y7,y8.adv (Cm.Same.refl _) sn⟩
   |row dss =>
    have far:∀a,Held H (.row dss) o a→a≠p:=fun a k er=>q (S.ar.un j i dss _ _ _ a ej e y1 z1 k (by rw[er];exact .own)).symm
    obtain⟨r,ps,rfl,y4,y5,y6,y7,y8,y9⟩:=y2
    refine⟨r,ps,rfl,y4,y5,by rw[upd_ne (far r .rt)];exact y6,y7,?_,y9⟩
    exact y8.sub fun a m ds ⟨xs,g1,g2,g3,g4,g5,g6⟩=>⟨xs,g1,g2,by rw[upd_ne (far a (.it y4 m))];exact g3,g4,g5,RepsB.adv (Cm.Same.refl _) sn g6⟩
 ·have un:∀{m:Nat} {es:List Cm.D} {c:Bool},(ρ.set i (.val (.lst ds) b))[m]? = some (.own es c)→ρ[m]? = some (.own es c):=fun {m es c} em=>by
   by_cases q:i=m
   ·subst q;rw[List.getElem?_set_self hi] at em;cases em
   ·rw[List.getElem?_set_ne q] at em;exact em
  exact S.ap j k r _ _ _ _ (un e1) (un e2) e3 e4
end
end Cm
namespace Cm
open PySem PySem.Spec PyProof.Rows L2
variable [HasT]
section
variable {C:Ctx} {X:Cx}
theorem qhF {i:Nat} {g:List Sl→RE ER} {D:Ends} {σ:L2.St} {H:Hp} {K:PySem.W.Frag} (q:tS C (fun ρ=>qaI ρ i fun ds c=>(g ρ).out fun x=>held x fun d b=>gdO (leB (ds.length+1)) (.nx (ρ.set i (.own (ds++[d]) (b&&c))))) D σ H) :
  tDrop (tBM K "list" rAppend (tVar i) (tCons (tE C g) tNil)) D σ H:=by
 obtain⟨ρ,P,N,S,h⟩:=q
 obtain⟨ds,c,e,o⟩:=qbq h
 obtain⟨p,xs,z1,z2,z3,z4,z5,z6⟩:=S.root e
 refine⟨_,z1,.inl ⟨rfl,xs,.inl (.inl z2)⟩,ρ,P,N,S,(o.res S.reg).mono fun x P1 N1 H1 _ a1 h1 v rv=>?_⟩
 obtain⟨N2,d,b,a2,r2,o⟩:=rv.held a1 h1
 simp only[qaE,qai] at o
 split at o
 ·rename_i hl
  refine⟨p,xs,v,rfl,rfl,a1.hh _ _ z2,by rw[z6.length];exact hl,?_⟩
  exact o _ P1 N2 _ ((S.adv a2).write e z1 (Reps.append (RepsB.and2 (RepsB.adv a2.pp a2.nn z6)) (Reps.one (RepB.and1 r2)))) a2.pp a2.nn
 ·exact o.elim
theorem qig {i:Nat} {g:List Sl→RE ER} {D:Ends} {σ:L2.St} {H:Hp} {K:PySem.W.Frag} (q:tS C (fun ρ=>qaI ρ i fun ds c=>(g ρ).out fun x=>match x with
  |.fre es b=>gdO (leB (ds.length+es.length)) (.nx (ρ.set i (.own (ds++es) (b&&c))))
  |_=>.bad) D σ H) :
  tDrop (tBM K "list" rExtend (tVar i) (tCons (tE C g) tNil)) D σ H:=by
 obtain⟨ρ,P,N,S,h⟩:=q
 obtain⟨ds,c,e,o⟩:=qbq h
 obtain⟨p,xs,z1,z2,z3,z4,z5,z6⟩:=S.root e
 refine⟨_,z1,.inl ⟨rfl,xs,.inl (.inl z2)⟩,ρ,P,N,S,(o.res S.reg).mono fun x P1 N1 H1 _ a1 h1 v rv=>?_⟩
 cases x with
 |fre es b =>
  obtain⟨q,ys,rfl,y1,y2,y3,y4,y5⟩:=rv
  simp only[qaE,qai] at h1
  split at h1
  ·rename_i hl
   refine⟨p,q,xs,ys,rfl,rfl,a1.hh _ _ z2,y1,by rw[z6.length,y5.length];exact hl,?_⟩
   exact h1 _ P1 N1 _ ((S.adv a1).write e z1 (Reps.append (RepsB.and2 (RepsB.adv a1.pp a1.nn z6)) (RepsB.and1 y5))) a1.pp a1.nn
  ·exact h1.elim
 |val _ _=>exact h1.elim
 |brw _ _=>exact h1.elim
theorem qiM {i:Nat} {D:Ends} {σ:L2.St} {H:Hp} {K:PySem.W.Frag} (q:tS C (fun ρ=>qaI ρ i fun _ _=>.nx (ρ.set i (.own [] true))) D σ H):tDrop (tBM0 K "list" rClear (tVar i)) D σ H:=by
 obtain⟨ρ,P,N,S,h⟩:=q
 obtain⟨ds,c,e,o⟩:=qbq h
 obtain⟨p,xs,z1,z2,z3,z4,z5,z6⟩:=S.root e
 exact⟨_,z1,.inl ⟨rfl,xs,.inl (.inl z2)⟩,p,xs,rfl,rfl,z2,o _ P N _ (S.write e z1 rfl) (Cm.Same.refl _) (Cm.Same.refl _)⟩
theorem qhQ {i:Nat} {g gi:List Sl→RE ER} {D:Ends} {σ:L2.St} {H:Hp} (q:tS C (fun ρ=>(g ρ).out fun x=>held x fun d b=>qaI ρ i fun ds c=>(gi ρ).out fun k=>match k.d with
  |.int k=>match ixN ds.length k with
   |some j=>.nx (ρ.set i (.own (ds.set j d) (b&&c)))
   |none=>.bad
  |_=>.bad) D σ H):tAsg (tE C g) (gSub (tVar i) (tE C gi) rSetL) D σ H:=by
 obtain⟨ρ,P,N,S,h⟩:=q
 refine⟨ρ,P,N,S,(h.res S.reg).mono fun x P1 N1 H1 _ a1 h1 v rv=>?_⟩
 obtain⟨N2,d,b,a2,r2,o⟩:=rv.held a1 h1
 have S2:=S.adv a2
 obtain⟨ds,c,e,o⟩:=qbq o
 obtain⟨p,xs,z1,z2,z3,z4,z5,z6⟩:=S2.root e
 refine⟨_,z1,ρ,P1,N2,S2,((o.adv a2.pp a2.nn).res S2.reg).mono fun k P3 N3 H3 _ a3 h3 u ru=>?_⟩
 have r3:=(S2.adv a3).reg
 split at h3
 ·rename_i k' ek
  have w:=ru.w r3
  rw[ek] at w
  cases w.int
  split at h3
  ·rename_i j ej
   refine⟨p,xs,k',j,rfl,rfl,a3.hh _ _ z2,by rw[z6.length];exact ej,?_⟩
   exact h3 _ P3 N3 _ ((S2.adv a3).write e z1 (Reps.set (RepB.and1 (RepB.adv a3.pp a3.nn r2)) j (RepsB.and2 (RepsB.adv a3.pp a3.nn z6)))) a3.pp a3.nn
  ·exact h3.elim
 ·exact h3.elim
theorem qit {gi:List Sl→RE Wk} {tg:List Nat} {gb:List Sl→Out} {D:Ends} {σ:L2.St} {H:Hp} (q:tS C (fun ρ=>(gi ρ).out fun w=>if w.own=true then .bad else qbN (fun x ρ=>onB (qaV tg x w.b ρ) gb) w.xs ρ) D σ H):tFor (tI C gi) (tG C tg) (tS C gb) D σ H:=by
 obtain⟨ρ,P,N,S,h⟩:=q
 refine⟨ρ,P,N,S,(h.res S.reg).mono fun w P1 N1 H1 _ a1 h1 J wj=>?_⟩
 split at h1
 ·exact h1.elim
 rename_i how
 have how:w.own=false:=by simpa using how
 obtain⟨Gd,Y,wk,_,stay,item⟩:=wj
 generalize hf:(fun x ρ=>onB (qaV tg x w.b ρ) gb)=f at h1
 have r1:=(S.adv a1).reg
 refine for_it wk (Pv:=fun i σ' H'=>∃ρ' P' N',SR C P' N' H' ρ' σ'∧Cm.Same P1 P'∧Cm.Same N1 N'∧outS C P1 N1 D (qbN f (w.xs.drop i) ρ')) ?_ (fun i σ' H' hi p=>?_) (fun i x σ' H' H'' hi p y=>?_) (fun σ' H' p=>?_)
 ·exact⟨ρ,P1,N1,S.adv a1,Cm.Same.refl _,Cm.Same.refl _,by simpa using h1.adv a1.pp a1.nn⟩
 ·obtain⟨ρ',P',N',S',s1,s2,_⟩:=p
  exact stay how P' N' H' s1 s2 S'.reg
 ·obtain⟨ρ',P',N',S',s1,s2,o⟩:=p
  obtain⟨P3,a3,d,ed,rd⟩:=item i P' N' H' x H'' hi s1 s2 S'.reg y
  have hdrop:w.xs.drop i=d::w.xs.drop (i+1):=by
   obtain⟨hi',e⟩:=List.getElem?_eq_some_iff.mp ed
   rw[List.drop_eq_getElem_cons hi',e]
  rw[hdrop] at o
  have o2:outS C P1 N1 D (match f d ρ' with
   |.nx ρ'=>qbN f (w.xs.drop (i+1)) ρ'
   |.cnt ρ'=>qbN f (w.xs.drop (i+1)) ρ'
   |.brk ρ'=>.nx ρ'
   |o=>o):=o
  have ef:f d ρ'=onB (qaV tg d w.b ρ') gb:=by rw[←hf]
  cases eb:qaV tg d w.b ρ' with
  |none=>rw[ef,eb] at o2;exact o2.elim
  |some ρ2 =>
   rw[ef,eb,qcR] at o2
   refine⟨ρ',P3,N',d,w.b,ρ2,S'.adv a3,rd,eb,fun σ2 S2 _ _=>⟨ρ2,P3,N',S2,?_⟩⟩
   have t1:=s1.trans a3.pp
   cases e3:gb ρ2 with
   |bad=>simp only[e3] at o2;exact o2
   |nx ρ3=>simp only[e3] at o2;exact fun σ4 P4 N4 H4 S4 e1 e2=>⟨ρ3,P4,N4,S4,t1.trans e1,s2.trans e2,o2⟩
   |cnt ρ3=>simp only[e3] at o2;exact fun σ4 P4 N4 H4 S4 e1 e2=>⟨ρ3,P4,N4,S4,t1.trans e1,s2.trans e2,o2⟩
   |brk ρ3=>simp only[e3] at o2;exact fun σ4 P4 N4 H4 S4 e1 e2=>o2 σ4 P4 N4 H4 S4 (t1.trans e1) (s2.trans e2)
   |ret er=>simp only[e3] at o2;exact o2
   |exc c fs=>simp only[e3] at o2;exact o2
 ·obtain⟨ρ',P',N',S',s1,s2,o⟩:=p
  rw[List.drop_length] at o
  exact o σ' P' N' H' S' s1 s2
theorem qiS {gc:List Sl→RE Bool} {gb:List Sl→Out} {n:Nat} {D:Ends} {σ:L2.St} {H:Hp} (q:tS C (fun ρ=>qbZ gc gb n ρ) D σ H):tWhile (tT C gc) (tS C gb) D σ H:=by
 obtain⟨ρ,P,N,S,h⟩:=q
 refine⟨fun m σ' H'=>∃ρ' P' N',SR C P' N' H' ρ' σ'∧Cm.Same P P'∧Cm.Same N N'∧outS C P N D (qbZ gc gb m ρ'),⟨n,ρ,P,N,S,Cm.Same.refl _,Cm.Same.refl _,h⟩,fun m σ' H' p=>?_⟩
 obtain⟨ρ',P',N',S',s1,s2,o⟩:=p
 cases m with
 |zero=>exact o.elim
 |succ m =>
  have o2:outS C P N D ((gc ρ').out fun k=>if k=true then (match gb ρ' with
   |.nx ρ'=>qbZ gc gb m ρ'
   |.cnt ρ'=>qbZ gc gb m ρ'
   |.brk ρ'=>.nx ρ'
   |o=>o) else .nx ρ'):=o
  refine⟨ρ',P',N',S',((o2.adv s1 s2).res S'.reg).mono fun k P1 N1 H1 _ a1 h1=>?_⟩
  cases k with
  |false=>exact h1 σ' P1 N1 H1 (S'.adv a1) a1.pp a1.nn
  |true =>
   simp only[if_true] at h1 ⊢
   refine⟨fun σ' H'=>∃ρ' P' N',SR C P' N' H' ρ' σ'∧Cm.Same P P'∧Cm.Same N N'∧outS C P N D (qbZ gc gb m ρ'),fun σ2 H2 z=>⟨m,Nat.lt_succ_self m,z⟩,ρ',P1,N1,S'.adv a1,?_⟩
   have t1:=s1.trans a1.pp
   have t2:=s2.trans a1.nn
   have o3:gc ρ'=.ok true:=by assumption
   rw[o3] at o2
   simp only[RE.out_ok,if_true] at o2
   cases e3:gb ρ' with
   |bad=>simp only[e3] at o2;exact o2
   |nx ρ3=>simp only[e3] at o2;exact fun σ4 P4 N4 H4 S4 e1 e2=>⟨ρ3,P4,N4,S4,t1.trans e1,t2.trans e2,o2⟩
   |cnt ρ3=>simp only[e3] at o2;exact fun σ4 P4 N4 H4 S4 e1 e2=>⟨ρ3,P4,N4,S4,t1.trans e1,t2.trans e2,o2⟩
   |brk ρ3=>simp only[e3] at o2;exact fun σ4 P4 N4 H4 S4 e1 e2=>o2 σ4 P4 N4 H4 S4 (t1.trans e1) (t2.trans e2)
   |ret er=>simp only[e3] at o2;exact o2
   |exc c fs=>simp only[e3] at o2;exact o2
end
end Cm
namespace Cm
open PySem PySem.Spec PyProof.Rows L2
variable [HasT]
structure Tb where
 N:List Str
 fn:List (Str × Nat)
 gc:List Str
 mn:List (Str × Nat)
 fs:List Str
 nw:List (Str × Nat):=[]
 ck:List (Str × Bool):=[]
 xk:List Str:=[]
 dc:List Str:=[]
 fo:List (Str × Nat):=[]
 lm:Option (Addr × Addr):=none
def qeL (sc:Scope) (x:Str):Bool:=match sc.names.lookup x with
 |some .local=>true
 |some .cell=>true
 |some .free=>true
 |_=>false
def glB (sc:Scope) (x:Str):Bool:=match sc.names.lookup x with
 |some .globalImplicit=>true
 |_=>false
def tgB (fc:Option Scope) (sc:Scope) (x:Str):Bool:=match sc.names.lookup x with
 |some .local=>true
 |some .cell=>(match fc with
  |none=>true
  |some so=>so.names.lookup x == some .cell)
 |_=>false
def nmB (x:Str):Bool:=!(x == ("__debug__" : Str)) && !(x == ("__classdict__" : Str))
def qac:Expr→Bool
 |.Starred _ _=>false
 |_=>true
def qb1:Expr→Bool
 |.Slice _ _ _ _=>false
 |_=>true
def qh6:Expr→Bool
 |.Call (.Name _ _) [] [] _=>false
 |_=>true
def qen:Expr→Bool
 |.Set _ _ _=>false
 |_=>true
def qbg:Expr→Bool
 |.ListComp _ _ _ _=>false
 |.SetComp _ _ _ _=>false
 |.DictComp _ _ _ _ _=>false
 |_=>true
theorem qaa {e:Expr} {es:List Expr} {env:PySem.Env} (h:qac e=true):starEach (e::es) env=(false,eval e env)::starEach es env:=by
 cases e<;>first | rfl | cases h
theorem qbK {env:PySem.Env} {pos:Pos}:∀{es:List Expr},es.all qac=true→(backTo pos (starEach es env)).any (·.1)=false
 |[],_=>rfl
 |e::es,h=>by
  simp only[List.all_cons,Bool.and_eq_true] at h
  rw[qaa h.1]
  have:=qbK (env:=env) (pos:=pos) h.2
  unfold backTo at this ⊢
  simpa using this
theorem qb7 {X:Cx} {es:List Expr} (h:es.all qac=true):qiR X es:=⟨fun e r q=>by
 subst q
 simp only[List.all_cons,Bool.and_eq_true] at h
 exact qaa h.1,fun pos e r q=>by
 subst q
 simp only[List.all_cons,Bool.and_eq_true] at h
 exact qbK h.2⟩
theorem qec {o:Expr} {m:Str} {env:PySem.Env} {w:Sem Value} (h:qh6 o=true):attributeBase o m env w=w:=by
 cases o with
 |Call f as ks p =>
  cases f with
  |Name x q =>
   cases as with
   |nil =>
    cases ks with
    |nil=>cases h
    |cons _ _=>rfl
   |cons _ _=>rfl
  |_=>rfl
 |_=>rfl
theorem qji {e:Expr} {env:PySem.Env} (h:(match e with
  |.UnaryOp .Not _ _=>false
  |.BoolOp _ _ _=>false
  |.IfExp _ _ _ _=>false
  |.Compare _ _ _ _=>false
  |_=>true)=true):∀whole,isTrue e env whole=(do let v ←whole;standAt e.pos;holding [v] (truthy v)):=by
 cases e with
 |UnaryOp o a p=>cases o<;>first | (intro _;rfl) | cases h
 |BoolOp _ _ _=>cases h
 |IfExp _ _ _ _=>cases h
 |Compare _ _ _ _=>cases h
 |_=>intro _;rfl
theorem qdH {e:Expr} {t:Option Expr} {l:Nat} {env:PySem.Env} (h:qbg e=true):swapsWith e t l env=pure false:=by
 cases e<;>first | rfl | cases h
theorem qc5 {e:Expr} {env:PySem.Env} (h:qen e=true):∀x,foldedSetIterable e env x=pure x:=by
 cases e<;>first | (intro _;rfl) | cases h
theorem qkN {e:Expr} (h:qb1 e=true):PlainIx e:=by
 cases e<;>first | (intro _ _;rfl) | cases h
end Cm
set_option maxHeartbeats 1000000
namespace Cm
open PySem PySem.Spec PyProof.Rows L2
variable [HasT]
section
variable {C:Ctx} {X:Cx}
theorem qf4 {y:D} {n:Nat} (fy:y.fit n=true):∀{ds:List D} {m:Nat} {j:Nat},D.fits ds m=true→idxD y ds=some j →
  ∃z,(D.pys ds)[j]? = some z∧PyData.eqv z y.py=true∧∀(k:Nat) (z':PyData),k<j→(D.pys ds)[k]? = some z'→PyData.eqv z' y.py=false
 |[],_,_,_,e=>by cases e
 |d::ds,m,j,f,e=>by
  simp only[D.fits,Bool.and_eq_true] at f
  have q:=D.eqv_py d y m n f.1 fy
  unfold idxD at e
  split at e
  ·rename_i t
   cases e
   exact⟨d.py,rfl,by rw[q];exact t,fun m _ hm _=>absurd hm (Nat.not_lt_zero m)⟩
  ·rename_i t
   cases k:idxD y ds with
   |none=>rw[k] at e;cases e
   |some i =>
    rw[k] at e
    cases e
    obtain⟨z,z1,z2,z3⟩:=qf4 fy f.2 k
    refine⟨z,by simpa[D.pys] using z1,z2,fun m z' hm hz=>?_⟩
    cases m with
    |zero =>
     have hz:some d.py=some z':=hz
     cases hz
     rw[q]
     simpa using t
    |succ m=>exact z3 m z' (Nat.lt_of_succ_lt_succ hm) (by simpa[D.pys] using hz)
abbrev qjk (go g:List Sl→RE ER):List Sl→RE ER:=fun ρ=>(go ρ).bind fun x=>match x.d with
  |.lst xs=>(g ρ).bind fun y=>qcK xs y.d
  |_=>.bad
abbrev qmp (go g:List Sl→RE ER):List Sl→RE ER:=fun ρ=>(go ρ).bind fun x=>match x.d with
  |.str s=>(g ρ).bind fun y=>qjb s y.d
  |_=>.bad
theorem qgA {go g:List Sl→RE ER} {σ:L2.St} {H:Hp} {Q:VK} (h:tE C (qjk go g) σ H Q):tBM C.G.K "list" (rIndexD C.G.K) (tE C go) (tCons (tE C g) tNil) σ H Q:=by
 obtain⟨ρ,P,N,S,h⟩:=h
 refine⟨ρ,P,N,S,h.bind.mono fun x P1 N1 H1 _ a1 h1 v rv=>?_⟩
 have r1:=(S.adv a1).reg
 split at h1
 ·rename_i ds hd
  have w:=rv.w r1
  rw[hd] at w
  obtain⟨p,xs,rfl,z1,z2⟩:=w
  refine⟨.inl ⟨rfl,xs,z1⟩,ρ,P1,N1,S.adv a1,(res.bind h1).mono fun y P2 N2 H2 _ a2 h2 u ru=>?_⟩
  have r2:=(S.adv (a1.trans a2)).reg
  unfold qcK at h2
  split at h2
  ·rename_i f
   simp only[Bool.and_eq_true] at f
   split at h2
   ·rename_i j e
    have wy:=ru.w r2
    have f2:=f.2
    simp only[D.fit,Bool.and_eq_true] at f2
    have wl:ERw C P2 N2 H2 (.lst ds) x.b (.ref p):=⟨p,xs,rfl,Cm.Same.seq a2.hh z1,RepsB.adv a2.pp a2.nn z2⟩
    obtain⟨z,y1,y2,y3⟩:=qf4 f.1 f2.2 e
    exact⟨p,u,y.d.py,D.pys ds,j,z,rfl,rfl,wl.dp r2 f.2,wy.dp r2 f.1,D.shaped f.2,D.shaped f.1,y1,y2,y3,h2.val r2 rfl⟩
   ·exact h2.elim
  ·exact h2.elim
 ·exact h1.elim
theorem qhb {o a:Expr} {go g:List Sl→RE ER} {apos pos:Pos} (hun:X.A.units+65<cLine) (hK:X.K=C.G.K) (ho:PE X o (tE C go)) (ha:PE X a (tE C g)) (hs:qac a=true) (hbase:attributeBase o "index" X.env (eval o X.env)=eval o X.env) (hline:(apos.endLine == pos.line)=true)
  (hf:((backTo pos (starEach [a] X.env)).all (fun x=>!x.1)&&(backToKw pos (keywordEach [] X.env)).all (fun x=>x.1.isSome)
   && decide ([a].length+([]:List Keyword).length+(if ([]:List Keyword).isEmpty then 0 else 1)<30))=true) :
  PE X (.Call (.Attribute o "index" apos) [a] [] pos) (tE C (qjk go g)):=
 qal (pe_bm PySem.F.plainAttrs_list PySem.F.slot_list_index PySem.F.type_list_index (mt_indexD hun) ho (pa_cons ha pa_nil (qaa hs)) hbase hf hline (qaa hs) rfl) fun σ H Q q=>by rw[hK];exact qgA q
def qmF:V→List V→Hp→VK→Prop:=fun x vs H Q=>∃(l:Addr) (xs:List V) (i:Int) (y:V),x=.ref l∧vs=[.int i,y]∧H l=some (.lst xs)∧xs.length<sizeLine∧0≤i∧i<2 ^ 63∧Q .non (upd H l (.lst (xs.take i.toNat++[y]++xs.drop i.toNat)))
theorem qiT {i:Nat} {g g2:List Sl→RE ER} {D:Ends} {σ:L2.St} {H:Hp} {K:PySem.W.Frag} (q:tS C (fun ρ=>qaI ρ i fun ds c=>(g ρ).out fun k=>match k.d with
  |.int k=>(g2 ρ).out fun x=>held x fun d b=>gdO (decide (0≤k∧k≤ds.length)&&leB (ds.length+1)) (.nx (ρ.set i (.own (ds.take k.toNat++[d]++ds.drop k.toNat) (b&&c))))
  |_=>.bad) D σ H):tDrop (tBM K "list" qmF (tVar i) (tCons (tE C g) (tCons (tE C g2) tNil))) D σ H:=by
 obtain⟨ρ,P,N,S,h⟩:=q
 obtain⟨ds,c,e,o⟩:=qbq h
 obtain⟨p,xs,z1,z2,z3,z4,z5,z6⟩:=S.root e
 refine⟨_,z1,.inl ⟨rfl,xs,.inl (.inl z2)⟩,ρ,P,N,S,(o.res S.reg).mono fun k P1 N1 H1 _ a1 h1 v rv=>?_⟩
 have S1:=S.adv a1
 split at h1
 ·rename_i k' ek
  have w:=rv.w S1.reg
  rw[ek] at w
  cases w.int
  refine⟨ρ,P1,N1,S1,((h1.adv a1.pp a1.nn).res S1.reg).mono fun x P2 N2 H2 _ a2 h2 u ru=>?_⟩
  obtain⟨N3,d,b,a3,r3,o⟩:=ru.held a2 h2
  simp only[qaE,Bool.and_eq_true,decide_eq_true_eq,qai] at o
  split at o
  ·rename_i hl
   have len:=z6.length
   have r6:=RepsB.and2 (b:=b) (RepsB.adv a3.pp a3.nn (RepsB.adv a1.pp a1.nn z6))
   have hz:xs.length<sizeLine:=by rw[len];exact hl.2
   refine⟨p,xs,k',u,rfl,rfl,a2.hh _ _ (a1.hh _ _ z2),hz,hl.1.1,?_,?_⟩
   ·have h1:=hl.1.2
    have h2:=hl.2
    have:LIM=16777216:=rfl
    omega
   ·exact o _ P2 N3 _ ((S1.adv a3).write e z1 (Reps.append (Reps.append (Reps.take _ r6) (Reps.one (RepB.and1 r3))) (Reps.drop _ r6))) a3.pp a3.nn
  ·exact o.elim
 ·exact h1.elim
theorem ERr.heldF {P1 N1 H0 P N H:Hp} {er:ER} {v:V} {f:Cm.D→Out} {D:Ends} (a:Adv P1 N1 H0 P N H) (h:ERr C P N H H0 er v) (o:outS C P1 N1 D (heldF er f)):∃N2 d,Adv P1 N1 H0 P N2 H∧RepB C P N2 true d v∧outS C P1 N1 D (f d):=by
 cases er with
 |brw ds b=>exact o.elim
 |val d b =>
  simp only[Cm.heldF,qaE] at o
  split at o
  ·rename_i z
   exact⟨N,d,a,by have:=RepB.nf (C:=C) h;rw[z] at this;exact this,o⟩
  ·exact o.elim
 |fre ds b =>
  simp only[Cm.heldF,qaE] at o
  split at o
  ·rename_i z
   obtain⟨p,xs,rfl,h1,h2,h3,h4,h5⟩:=h
   have sn:Cm.Same N (upd N p (.lst xs)):=qaX h4
   refine⟨upd N p (.lst xs),.lst ds,a.holdN h2 h1 h4 h3,⟨p,xs,rfl,.inl upd_same,?_⟩,o⟩
   have h6:=RepsB.adv (C:=C) (Cm.Same.refl P) sn h5
   cases b with
   |true=>exact h6
   |false=>exact Reps.flat _ _ (by simpa using z) h6
  ·exact o.elim
theorem qf2 {P N H H0:Hp} (r:Reg C P N H):∀{es:List ER} {vs:List V},ERs C P N H H0 es vs→Reps C.G P (SqL C.G.K H) (es.map ER.d) vs
 |[],_,h=>by cases h;rfl
 |e::es,_,⟨v,u,ex,h1,h2⟩=>by
  subst ex
  refine⟨v,u,rfl,?_,qf2 r h2⟩
  have w:=h1.w r
  have mm:=fun a xs=>LNb.seq (K:=C.G.K) (b:=e.b) r.pH r.nH r.rH a xs
  cases q:e.d with
  |lst ds =>
   rw[q] at w
   obtain⟨p,xs,rfl,h3,h4⟩:=w
   exact⟨p,xs,rfl,h3,Reps.mono (Cm.Same.refl _) _ _ mm h4⟩
  |non=>rw[q] at w;exact Rep.mono (Cm.Same.refl _) _ _ mm w
  |bl _=>rw[q] at w;exact Rep.mono (Cm.Same.refl _) _ _ mm w
  |int _=>rw[q] at w;exact Rep.mono (Cm.Same.refl _) _ _ mm w
  |str _=>rw[q] at w;exact Rep.mono (Cm.Same.refl _) _ _ mm w
  |tup _=>rw[q] at w;exact Rep.mono (Cm.Same.refl _) _ _ mm w
  |ins _ _=>rw[q] at w;exact Rep.mono (Cm.Same.refl _) _ _ mm w
  |exc _ _=>rw[q] at w;exact Rep.mono (Cm.Same.refl _) _ _ mm w
structure Mk0 (K:PySem.W.Frag) (c:Addr):Prop where
 makes:PySem.W.makesIn K c=true
 init:PySem.W.findIn K (.ref c) "__init__" = some (some (.builtin "object.__init__"))
 kp:PySem.W.keepIn K (.ref c)=true
structure NwOk (C:Ctx) (X:Cx) (x:Str) (c n:Nat) (g:List D→RE (List D)):Prop where
 ex:(∃k f fd ps,Mk X.K (C.G.ca c) f∧FnOk X.prog X.w X.K X.mg X.base (L2.CX X.prog X.w) k f fd ps (spI C.G c n g)∧Room (k+1) X.A∧X.mg x=some (.ref (C.G.ca c))∧Binds X.K fd ps []) ∨
  (n=0∧g []=.ok []∧Mk0 X.K (C.G.ca c)∧C.G.fl c=[]∧X.mg x=some (.ref (C.G.ca c)))
end
section
variable {prog:Program} {w:World} {A:Around} {E:Value→Shared→Prop} {s:Shared} {l:Addr} {its:List Value} {ns:List Int} {Q:Value→Shared→Prop} {d:Value}
end
def qmy (k:Bool) (ns:List Int) (d m:Int):Prop:=(ns=[]∧m=d)∨(m∈ns∧∀y∈ns,if k=true then y≤m else m≤y)
def rMm (K:PySem.W.Frag) (k:Bool):List V→List V→Hp→VK→Prop:=fun vs zs H Q=>∃(a:Addr) (ns:List Int) (d:Int),vs=[V.ref a]∧zs=[V.int d]∧SqL K H a (ns.map V.int)∧∀m,qmy k ns d m→Q (.int m) H
def mmN (k:Bool):String:=if k=true then "max" else "min"
section
variable {C:Ctx} {X:Cx}
abbrev gMm (k:Bool) (go g:List Sl→RE ER):List Sl→RE ER:=fun ρ=>(go ρ).bind fun x=>(g ρ).bind fun y=>qlZ k x.d y.d
end
def qmf (G:Glo) (K:PySem.W.Frag) (a:Addr) (s:List Nat) (o:Option Cm.D):Prop:=
 match o with
 |none=>PySem.W.nsIn K a (qaB s)=some none
 |some d=>∃u v,PySem.W.nsIn K a (qaB s)=some (some u)∧RelV v u∧∀P N R,Rep G P (LNb G.K P N R true) d v
def qkj (G:Glo) (K:PySem.W.Frag) (w:World) (mg:Str→Option Value) (x:Str) (t:List (List Nat × Option Cm.D)):Prop:=
 ∃a es n,mg x=some (.ref a)∧KDict K w a es n∧∀s o,t.lookup s=some o→qmf G K a s o
section
variable {C:Ctx} {X:Cx}
end
end Cm
namespace Cm
open PySem PySem.Spec PyProof.Rows L2
variable [HasT]
def IsLI (h:Heap) (v:Value) (ns:List Int):Prop:=∃a its,v=.ref a∧h.IsList a its∧IntsAre its.toList ns
section
variable {prog:Program} {w:World} {A:Around} {s:Shared}
theorem qes:∀{vs:List Value} {ns ms:List Int},IntsAre vs ns→IntsAre vs ms→ns=ms
 |_,_,_,.nil,h=>by cases h;rfl
 |_,_,_,.cons n t r,h=>by cases h with
  |cons _ _ r'=>rw[qes r r']
theorem IsLI.inj {h:Heap} {v:Value} {ns ms:List Int} (h1:IsLI h v ns) (h2:IsLI h v ms):ns=ms:=by
 obtain⟨a,its,rfl,⟨o,ho,hc,n,hd⟩,hi⟩:=h1
 obtain⟨b,its2,e,⟨o2,ho2,hc2,n2,hd2⟩,hi2⟩:=h2
 cases e
 rw[ho] at ho2;cases ho2
 rw[hd] at hd2;cases hd2
 exact qes hi hi2
open Classical in
noncomputable def qna (h:Heap) (v:Value):List Int:=if q:∃ns,IsLI h v ns then q.choose else []
end
def qfm (K:PySem.W.Frag) (H:Hp):List V→List (List Int)→Prop
 |[],[]=>True
 |x::xs,n::ns=>(∃t,x=.ref t∧SqL K H t (n.map V.int))∧qfm K H xs ns
 |_,_=>False
def qi5 (K:PySem.W.Frag):List V→Hp→VK→Prop:=fun vs H Q=>∃(a:Addr) (xs:List V) (ls:List (List Int)),vs=[V.ref a]∧SqL K H a xs∧qfm K H xs ls ∧
 ∀ys ms p,ys.length=ms.length→(ys.zip ms).Perm (xs.zip ls)→(ms.Pairwise fun x y=>qk3 y x=false)→H p=none→Q (.ref p) (upd H p (.lst ys))
section
variable {C:Ctx} {X:Cx}
end
end Cm
set_option maxHeartbeats 3200000
namespace Cm
open PySem PySem.Spec PyProof.Rows L2
variable [HasT]
def qnb (w:World):Obj:={ cls:=.type "set",dict:=none,data:=.set #[] 0 (.fresh 0 0 (!w.params.followText "set-order")) }
section
variable {P:Program} {w:World} {A:Around} {E:Value→Shared→Prop} {s:Shared}
abbrev Kp (h h':Heap):Prop:=∀b o,h.get? b=some o→h'.get? b=some o
end
section
variable {C:Ctx} {X:Cx}
end
end Cm
namespace Cm
open PySem PySem.Spec PyProof.Rows L2
variable [HasT]
section
variable {prog:Program} {w:World} {A:Around} {E:Value→Shared→Prop} {s:Shared} {R:Result→Shared→Prop}
end
section
variable {C:Ctx} {X:Cx}
end
end Cm
set_option maxHeartbeats 2000000
namespace Cm
open PySem PySem.Spec PyProof.Rows L2
structure LamP (scope:Scope) (x y:Str):Prop where
 kind:scope.kind=.function
 co:scope.isCoroutine=false
 gen:scope.isGenerator=false
 own:∀z∈scope.names,z.2≠.cell
 loc:scope.names.lookup y=some .local
 fre:scope.names.lookup x=some .free
def qms (scope:Scope) (x:Str):Bool:=scope.names.all fun z=>!decide (z.2=.free)||decide (z.1=x)
def qmd (scope:Scope) (x y:Str):Bool:=decide (scope.kind=.function)&&(!scope.isCoroutine&&(!scope.isGenerator&&((scope.names.all fun z=>!decide (z.2=.cell))&&(decide (scope.names.lookup y=some .local)&&decide (scope.names.lookup x=some .free)))))
section
variable {prog:Program} {w:World} {A:Around} {s:Shared}
end
section
variable [HasT]
variable {X:Cx} {pins:List (Addr × Obj)} {σ:L2.St} {H:Hp} {s:Shared}
end
section
variable [HasT]
variable {C:Ctx} {X:Cx}
end
end Cm
namespace Cm
open PySem PySem.Spec PyProof.Rows L2
variable [HasT]
def wK (K:PySem.W.Frag) (c:Value) (i j:Nat) (Wout:WX) (D:Ends):WX:=fun cls d σ H =>
 ∃b,PySem.W.exmOne K cls c=some b∧(b=true→d=none∧∀a,H a=none→D.nx ((σ.set j (some (.ref a))).set i none) (upd H a (exK cls a)))∧(b=false→Wout cls d σ H)
section
variable {X:Cx} {pins:List (Addr × Obj)} {σ:L2.St} {H:Hp} {s:Shared}
end
section
variable {X:Cx} {x n m:Str} {c:Value} {i j:Nat} {body:List Stmt} {np p1 p2 pa pos pos':Pos} {tb:WX→TS} {Wout:WX}
end
def qng (K:PySem.W.Frag):List V→Hp→VK→Prop:=fun xs H Q=>rIsi K xs H Q∨∃(a D:Addr) (c:V) (u:Value) (b:Bool),xs=[.ref a,c]∧ClsV c u∧H a=some (exK (.ref D) a)∧ExcC K D∧PySem.W.kitOne K (.ref D) u=some b∧Q (.bl b) H
structure InsC (K:PySem.W.Frag) (D:Addr):Prop where
 cl:Cls K D
 ha:PySem.W.findIn K (.ref D) "__class__" = some (some (.builtin "object.__class__"))
 hn:PySem.W.specialIn K (.builtin "object.__class__") "__get__" = some (some (.builtin "getset_descriptor.__get__"))
 ht:PySem.W.takesIn K (.builtin "object.__class__")=some true
 hm:PySem.W.mroIn K D (.type "object")=some true
def NmC (mg:Str→Option Value) (x:Str) (own:Bool) (v:V) (u:Value):Prop:=ClsV v u∧(match own with
 |true=>mg x=some u
 |false=>x=("ValueError" : Str)∧u=.type "ValueError")
structure RsOk (K:PySem.W.Frag) (mg:Str→Option Value) (D:Addr) (x:Str):Prop where
 mg:mg x=some (.ref D)
 exc:PySem.W.excIn K D He.veBase "ValueError.__new__" = true
 keep:PySem.W.keepIn K (.ref D)=true
 sub:PySem.W.subIn K (.ref D) (.type "BaseException")=some true
 ty:PySem.W.typeIn K (.ref D)=some (.type "type")
structure CkOk (G:Glo) (K:PySem.W.Frag) (mg:Str→Option Value) (x:Str) (own:Bool) (ck ik:Option (Nat→Option Bool)):Prop where
 ex:∃v u,NmC mg x own v u∧(∀g,ck=some g→∀c b,g c=some b→PySem.W.kitOne K (.ref (G.ca c)) u=some b∧PySem.W.exmOne K (.ref (G.ca c)) u=some b∧ExcC K (G.ca c)) ∧
  (∀g,ik=some g→∀c b,g c=some b→PySem.W.kitOne K (.ref (G.ca c)) u=some b∧InsC K (G.ca c))
section
variable {C:Ctx} {X:Cx} {x:Str} {own:Bool} {v:V} {u:Value} {p p2 pos:Pos}
abbrev qm8 (go g:List Sl→RE ER):List Sl→RE ER:=fun ρ=>(go ρ).bind fun x=>match x.d with
  |.lst xs=>(g ρ).bind fun y=>qk0 xs y.d
  |_=>.bad
end
def tR (C:Ctx) (g:List Sl→RE (List Sl)):TS:=fun D σ H=>∃ρ P N,SR C P N H ρ σ∧res C σ P N H (g ρ) fun ρ' _ _ H'=>∀σ' P2 N2,Same P P2→Same N N2→SR C P2 N2 H' ρ' σ'→D.nx σ' H'
section
variable {C:Ctx} {X:Cx}
theorem SR.wish {W:WX} {P N H:Hp} {ρ:List Sl} {σ:L2.St} (S:SR C P N H ρ σ):SR { C with W:=W } P N H ρ σ:=
 ⟨⟨S.reg.pH,S.reg.nH,S.reg.bH,S.reg.rB,S.reg.p0,S.reg.pn,S.reg.nw,S.reg.dj,S.reg.tb,S.reg.tf⟩,S.len,fun i s e=>by
  obtain⟨o,h1,h2⟩:=S.sl i s e
  exact⟨o,h1,by cases s<;>exact h2⟩,S.ap,S.ad,S.ar⟩
end
end Cm
namespace Cm
open PySem PySem.Spec PyProof.Rows L2
variable [HasT]
inductive ClsVs:List V→List Value→Prop where
 |nil:ClsVs [] []
 |cons {v:V} {u:Value} {vs:List V} {us:List Value}:ClsV v u→ClsVs vs us→ClsVs (v::vs) (u::us)
theorem ClsVs.eq {vs:List V} {us its:List Value} (h:ClsVs vs us) (r:Vals vs its):its=us:=by
 induction h generalizing its with
 |nil=>cases r;rfl
 |cons k _ ih =>
  cases r with
  |cons rx rr=>rw[k.eq rx,ih rr]
def tVs (vs:List V):TA:=fun _ H Q=>Q vs H
section
variable {C:Ctx} {X:Cx}
end
end Cm
namespace Cm
open PySem PySem.Spec PyProof.Rows L2
variable [HasT]
section
variable {R:Cm.D→V→Prop}
theorem DctR.fnd:∀{m:List (Int × Cm.D)} {es:List (Key × V)} {k:Int},DctR R m es→match qgj k m with
  |some d=>∃v,valV es (.inl k)=some v∧R d v
  |none=>valV es (.inl k)=none
 |[],_,_,h=>by cases h;rfl
 |e::m,_,k,⟨v,r,he,h1,h2⟩=>by
  subst he
  unfold qgj
  by_cases q:e.1=k
  ·rw[if_pos q]
   exact⟨v,valV_pos (by rw[←q]),h1⟩
  ·rw[if_neg q,valV_neg (fun z=>q (Sum.inl.inj z))]
   exact DctR.fnd h2
theorem DctR.some {m:List (Int × Cm.D)} {es:List (Key × V)} (h:DctR R m es) {k:Int} {d:Cm.D} (e:qgj k m=some d):∃v,valV es (.inl k)=some v∧R d v:=by
 have:=h.fnd (k:=k)
 rw[e] at this;exact this
theorem DctR.has {m:List (Int × Cm.D)} {es:List (Key × V)} (h:DctR R m es) (k:Int):(valV es (.inl k)).isSome=(qgj k m).isSome:=by
 have:=h.fnd (k:=k)
 cases e:qgj k m with
 |none=>rw[e] at this;rw[this];rfl
 |some d=>rw[e] at this;obtain⟨v,q,_⟩:=this;rw[q];rfl
theorem DctR.len:∀{m:List (Int × Cm.D)} {es:List (Key × V)},DctR R m es→es.length=m.length
 |[],_,h=>by cases h;rfl
 |e::m,_,⟨v,r,he,h1,h2⟩=>by subst he;simp[DctR.len h2]
theorem DctR.set {k:Int} {d:Cm.D} {v:V} (hr:R d v):∀{m:List (Int × Cm.D)} {es:List (Key × V)},DctR R m es→DctR R (qkW k d m) (es.map fun kv=>if kv.1=.inl k then (kv.1,v) else kv)
 |[],_,h=>by cases h;rfl
 |e::m,_,⟨w,r,he,h1,h2⟩=>by
  subst he
  have ih:=DctR.set (k:=k) hr h2
  unfold qkW at ih ⊢
  rw[List.map_cons,List.map_cons]
  by_cases q:e.1=k
  ·rw[if_pos q,if_pos (by show Sum.inl e.1=Sum.inl k;rw[q])]
   exact⟨v,_,rfl,hr,ih⟩
  ·rw[if_neg q,if_neg (fun z=>q (Sum.inl.inj z))]
   exact⟨w,_,rfl,h1,ih⟩
theorem DctR.snoc {k:Int} {d:Cm.D} {v:V} (hr:R d v):∀{m:List (Int × Cm.D)} {es:List (Key × V)},DctR R m es→DctR R (m++[(k,d)]) (es++[(.inl k,v)])
 |[],_,h=>by cases h;exact⟨v,[],rfl,hr,rfl⟩
 |e::m,_,⟨w,r,he,h1,h2⟩=>by subst he;exact⟨w,_,rfl,h1,DctR.snoc hr h2⟩
theorem DctR.put {m:List (Int × Cm.D)} {es:List (Key × V)} (h:DctR R m es) {k:Int} {d:Cm.D} {v:V} (hr:R d v):DctR R (qkw k d m) (putK es (.inl k) v):=by
 unfold qkw putK
 rw[valV_any,h.has]
 split
 ·exact h.set hr
 ·exact h.snoc hr
end
section
variable {C:Ctx} {X:Cx} {P N H:Hp} {ρ:List Sl} {σ:L2.St}
def qkl:List (List Nat)→List (Option Expr)→Bool
 |[],[]=>true
 |k::ks,some (.Constant (.str x) _ _)::es=>decide (x=qaB k)&&qkl ks es
 |_,_=>false
def qjq (C:Ctx) (Γ:Env):List (List Nat)→Exs→List (TE × TE)
 |k::ks,.cons e es=>(tC (.str (qaB k)),tE C (ev Γ e))::qjq C Γ ks es
 |_,_=>[]
def kys (ks:List (List Nat)):List Key:=ks.map fun k=>.inr (qaB k)
def Exs.ln:Exs→Nat
 |.nil=>0
 |.cons _ es=>es.ln+1
end
end Cm
namespace Cm
open PySem PySem.Spec PyProof.Rows L2
variable [HasT]
section
variable {C:Ctx} {X:Cx} {P N H:Hp} {ρ:List Sl} {σ:L2.St}
noncomputable def NW (H:Hp) (ρ:List Sl) (σ:L2.St) (N:Hp):Hp:=fun a=>@ite _ (∃(j:Nat) (dss:List (List Cm.D)) (u:Option V),ρ[j]? = some (.row dss)∧σ[j]? = some u∧Held H (.row dss) u a) (Classical.propDecidable _) (H a) (N a)
theorem qeS {a:Addr} {j:Nat} {dss:List (List Cm.D)} {u:Option V} (e1:ρ[j]? = some (.row dss)) (e2:σ[j]? = some u) (k:Held H (.row dss) u a):NW H ρ σ N a=H a:=if_pos ⟨j,dss,u,e1,e2,k⟩
theorem qbH {a:Addr} (h:¬∃(j:Nat) (dss:List (List Cm.D)) (u:Option V),ρ[j]? = some (.row dss)∧σ[j]? = some u∧Held H (.row dss) u a):NW H ρ σ N a=N a:=if_neg h
theorem SR.heldW (S:SR C P N H ρ σ) {a:Addr} {j:Nat} {dss:List (List Cm.D)} {u:Option V} (e1:ρ[j]? = some (.row dss)) (e2:σ[j]? = some u) (k:Held H (.row dss) u a):(∃xs,H a=some (.lst xs))∧P a=none∧N a=none∧C.B a=none:=by
 obtain⟨o,z1,z2⟩:=S.sl j _ e1
 rw[z1] at e2;cases e2
 exact z2.held k
theorem SR.nwN (S:SR C P N H ρ σ):Cm.Same N (NW H ρ σ N):=Same.of fun a o e=>by
 by_cases h:∃(j:Nat) (dss:List (List Cm.D)) (u:Option V),ρ[j]? = some (.row dss)∧σ[j]? = some u∧Held H (.row dss) u a
 ·obtain⟨j,dss,u,e1,e2,k⟩:=h
  rw[(S.heldW e1 e2 k).2.2.1] at e;cases e
 ·rw[qbH h];exact e
theorem qc6 {α β:Type} {f:α→β} {xs:List α} {i:Nat} {y:β} (h:(xs.map f)[i]? = some y):∃x,xs[i]? = some x∧y=f x:=by
 rw[List.getElem?_map] at h
 cases e:xs[i]? with
 |none=>rw[e] at h;cases h
 |some x=>rw[e] at h;cases h;exact⟨x,rfl,rfl⟩
theorem SR.peek (S:SR C P N H ρ σ):SR C P (NW H ρ σ N) H (ρ.map pkS) σ where
 reg:=by
  have sn:=S.nwN
  have get:∀a o,NW H ρ σ N a=some o→ntO o=true→H a=some o:=fun a o e n=>by
   by_cases h:∃(j:Nat) (dss:List (List Cm.D)) (u:Option V),ρ[j]? = some (.row dss)∧σ[j]? = some u∧Held H (.row dss) u a
   ·obtain⟨j,dss,u,e1,e2,k⟩:=h
    rwa [qeS e1 e2 k] at e
   ·rw[qbH h] at e;exact S.reg.nH.g0 _ _ e n
  have tf:TF (NW H ρ σ N):=fun a o e=>by
   by_cases h:∃(j:Nat) (dss:List (List Cm.D)) (u:Option V),ρ[j]? = some (.row dss)∧σ[j]? = some u∧Held H (.row dss) u a
   ·obtain⟨j,dss,u,e1,e2,k⟩:=h
    rw[qeS e1 e2 k] at e
    obtain⟨xs,q⟩:=(S.heldW e1 e2 k).1
    rw[e] at q;cases q;rfl
   ·rw[qbH h] at e;exact S.reg.tf.2.1 a o e
  refine⟨S.reg.pH,⟨get,fun a e=>?_⟩,S.reg.bH,S.reg.rB,S.reg.p0,S.reg.pn,fun a e=>?_,fun a e=>?_,S.reg.tb,⟨S.reg.tf.1,tf,S.reg.tf.2.2⟩⟩
  ·by_cases h:∃(j:Nat) (dss:List (List Cm.D)) (u:Option V),ρ[j]? = some (.row dss)∧σ[j]? = some u∧Held H (.row dss) u a
   ·obtain⟨j,dss,u,e1,e2,k⟩:=h
    rw[qeS e1 e2 k];exact e
   ·rw[qbH h];exact S.reg.nH.free e
  ·by_cases h:∃(j:Nat) (dss:List (List Cm.D)) (u:Option V),ρ[j]? = some (.row dss)∧σ[j]? = some u∧Held H (.row dss) u a
   ·obtain⟨j,dss,u,e1,e2,k⟩:=h
    exact(S.heldW e1 e2 k).2.2.2
   ·rw[qbH h] at e;exact S.reg.nw _ e
  ·by_cases h:∃(j:Nat) (dss:List (List Cm.D)) (u:Option V),ρ[j]? = some (.row dss)∧σ[j]? = some u∧Held H (.row dss) u a
   ·obtain⟨j,dss,u,e1,e2,k⟩:=h
    exact(S.heldW e1 e2 k).2.1
   ·rw[qbH h] at e;exact S.reg.dj _ e
 len:=by rw[List.length_map];exact S.len
 sl:=fun i s e=>by
  have sn:=S.nwN
  obtain⟨s0,e0,rfl⟩:=qc6 e
  obtain⟨o,z1,z2⟩:=S.sl i s0 e0
  refine⟨o,z1,?_⟩
  have far:∀a,N a=none→(∀(j:Nat) (dss:List (List Cm.D)) (u:Option V),ρ[j]? = some (.row dss)→σ[j]? = some u→¬Held H (.row dss) u a)→NW H ρ σ N a=none:=fun a hn k=>by
   rw[qbH (fun⟨j,dss,u,e1,e2,h⟩=>k j dss u e1 e2 h)];exact hn
  cases s0 with
  |non=>trivial
  |val d b =>
   obtain⟨v,y1,y2⟩:=z2
   exact⟨v,y1,RepB.adv (Cm.Same.refl _) sn y2⟩
  |own ds b =>
   obtain⟨p,xs,rfl,y2,y3,y4,y5,y6⟩:=z2
   refine⟨p,xs,rfl,y2,y3,far p y4 fun j dss u e1 e2 h=>?_,y5,RepsB.adv (Cm.Same.refl _) sn y6⟩
   have:=S.ar.un j i dss _ _ _ p e1 e0 e2 z1 h .own
   subst this
   rw[e0] at e1;cases e1
  |slf c fs =>
   obtain⟨p,dx,xs,y1,y2,y3,y4,y5⟩:=z2
   refine⟨p,dx,xs,y1,y2,y3,far p y4 fun j dss u e1 e2 h=>?_,y5.1,y5.2.1,RepsB.adv (Cm.Same.refl _) sn y5.2.2⟩
   obtain⟨⟨us,q⟩,_⟩:=S.heldW e1 e2 h
   rw[y2] at q;cases q
  |fxd d k =>
   obtain⟨v,y1,y2,y3⟩:=z2
   exact⟨v,y1,y2,RepB.adv (Cm.Same.refl _) sn y3⟩
  |dct m b =>
   obtain⟨p,es,rfl,y2,y3,y4,y5,y6⟩:=z2
   refine⟨p,es,rfl,y2,y3,far p y4 fun j dss u e1 e2 h=>?_,y5,y6.adv (Cm.Same.refl _) sn⟩
   obtain⟨⟨us,q⟩,_⟩:=S.heldW e1 e2 h
   rw[y2] at q;cases q
  |row dss =>
   obtain⟨p,ps,rfl,y2,y3,y4,y5,y6,y7⟩:=z2
   refine⟨.ref p,rfl,p,ps.map V.ref,rfl,.inl ?_,?_⟩
   ·rw[qeS e0 z1 .rt];exact y2
   ·have go:∀{dss:List (List Cm.D)} {qs:List Addr},(∀a∈qs,NW H ρ σ N a=H a)→RowR (fun a ds=>∃xs,H a=some (.lst xs)∧P a=none∧N a=none∧C.B a=none∧D.flats ds=true∧RepsB C P N true ds xs) dss qs→RepsB C P (NW H ρ σ N) true (dss.map D.lst) (qs.map V.ref):=fun {dss}=>by
     induction dss with
     |nil=>intro qs _ h;cases h;exact rfl
     |cons ds r ih =>
      intro qs hq ⟨a,q,e,⟨xs,g1,_,_,_,_,g6⟩,h2⟩
      subst e
      refine⟨.ref a,q.map V.ref,rfl,⟨a,xs,rfl,.inl ?_,RepsB.adv (Cm.Same.refl _) sn g6⟩,ih (fun b hb=>hq b (List.mem_cons_of_mem _ hb)) h2⟩
      rw[hq a (by simp)];exact g1
    exact go (fun a m=>qeS e0 z1 (.it y2 m)) y6
 ap:=fun i j p ds b es c e1 e2 e3 e4=>by
  have un:∀{m:Nat} {es:List Cm.D} {c:Bool},(ρ.map pkS)[m]? = some (.own es c)→ρ[m]? = some (.own es c):=fun {m es c} e=>by
   obtain⟨s0,e0,h⟩:=qc6 e
   rw[e0]
   cases s0 with
   |own _ _=>exact congrArg some h.symm
   |_=>cases h
  exact S.ap i j p ds b es c (un e1) (un e2) e3 e4
 ad:=S.ad.sub fun i m b e=>by
  obtain⟨s0,e0,h⟩:=qc6 e
  refine⟨rfl,?_⟩
  rw[e0]
  cases s0 with
  |dct m' b'=>exact⟨_,_,rfl⟩
  |_=>cases h
 ar:=AR.no fun i s e=>by
  obtain⟨s0,e0,rfl⟩:=qc6 e
  cases s0<;>rfl
noncomputable def NB (H:Hp) (ρ:List Sl) (σ:L2.St) (N2:Hp):Hp:=fun a=>@ite _ (∃(j:Nat) (dss:List (List Cm.D)) (u:Option V),ρ[j]? = some (.row dss)∧σ[j]? = some u∧Held H (.row dss) u a) (Classical.propDecidable _) none (N2 a)
theorem qft {N2:Hp} {a:Addr} (h:N2 a=none):NB H ρ σ N2 a=none:=by
 unfold NB
 split
 ·rfl
 ·exact h
theorem SR.unpeek (S:SR C P N H ρ σ) {P2 N2 H2:Hp} (a:Adv P (NW H ρ σ N) H P2 N2 H2):Adv P N H P2 (NB H ρ σ N2) H2 where
 hh:=a.hh
 pp:=a.pp
 nn:=⟨fun b o e n=>by
  by_cases h:∃(j:Nat) (dss:List (List Cm.D)) (u:Option V),ρ[j]? = some (.row dss)∧σ[j]? = some u∧Held H (.row dss) u b
  ·obtain⟨j,dss,u,e1,e2,k⟩:=h
   rw[(S.heldW e1 e2 k).2.2.1] at e;cases e
  ·unfold NB
   rw[if_neg h]
   exact a.nn.g0 b o (S.nwN.g0 b o e n) n,fun b e=>by
  by_cases h:∃(j:Nat) (dss:List (List Cm.D)) (u:Option V),ρ[j]? = some (.row dss)∧σ[j]? = some u∧Held H (.row dss) u b
  ·obtain⟨j,dss,u,e1,e2,k⟩:=h
   exact(S.heldW e1 e2 k).2.2.1
  ·unfold NB at e
   rw[if_neg h] at e
   exact S.nwN.free (a.nn.free e)⟩
 pH:=a.pH
 nH:=⟨fun b o e n=>by
  unfold NB at e
  split at e
  ·cases e
  ·exact a.nH.g0 b o e n,fun b e=>qft (a.nH.free e)⟩
 tp:=a.tp
 tn:=fun _ b o e=>by
  unfold NB at e
  split at e
  ·cases e
  ·exact a.tn S.peek.reg.tf.2.1 b o e
 pn:=a.pn
 nw:=fun b e=>by
  unfold NB at e
  split at e
  ·exact absurd rfl e
  ·rename_i h
   rcases a.nw b e with z | z
   ·rw[qbH h] at z;exact .inl z
   ·exact .inr z
 dj:=fun b e e2=>by
  unfold NB at e
  split at e
  ·exact absurd rfl e
  ·rename_i h
   have:=a.dj b e e2
   rwa [qbH h] at this
theorem ExR.flat {P2 N2 N3 H2:Hp} {fs:List Cm.D} {d:Option Addr} (f:D.flats fs=true) (h:ExR C P2 N2 H2 fs d):ExR C P2 N3 H2 fs d:=by
 rcases h with h | ⟨dd,g,v,e1,e2,e3,e4⟩
 ·exact .inl h
 ·subst e1
  simp only[D.flats,Bool.and_true] at f
  exact .inr ⟨dd,g,v,rfl,e2,e3,Rep.flat g v f e4⟩
theorem qjK {g:List Sl→RE ER} {Q:VK} (h:tE C (fun ρ=>pkR (g (ρ.map pkS))) σ H Q):tE C g σ H Q:=by
 obtain⟨ρ,P,N,S,h⟩:=h
 refine⟨ρ.map pkS,P,_,S.peek,?_⟩
 cases e:g (ρ.map pkS) with
 |bad=>simp only[e,pkR] at h;exact h.elim
 |exc c fs =>
  simp only[e,pkR] at h
  split at h
  ·rename_i f
   exact fun d P2 N2 H2 a x=>h d P2 _ H2 (S.unpeek a) (x.flat f)
  ·exact h.elim
 |ok er =>
  simp only[e,pkR] at h
  intro P2 N2 H2 a v rv
  cases er with
  |brw _ _=>exact h.elim
  |val d b =>
   simp only at h
   split at h
   ·rename_i f
    exact h P2 _ H2 (S.unpeek a) v (Rep.flat d v f rv)
   ·exact h.elim
  |fre ds b =>
   simp only at h
   split at h
   ·rename_i f
    obtain⟨p,xs,y1,y2,y3,y4,y5,y6⟩:=rv
    exact h P2 _ H2 (S.unpeek a) v ⟨p,xs,y1,y2,y3,y4,qft y5,Reps.flat ds xs f y6⟩
   ·exact h.elim
theorem qhM {g:List Sl→RE ER} {Q:Bool→Hp→Prop} (h:tT C (fun ρ=>(pkR (g (ρ.map pkS))).bind fun x=>qcv x.d) σ H Q):tT C (fun ρ=>(g ρ).bind fun x=>qcv x.d) σ H Q:=by
 obtain⟨ρ,P,N,S,h⟩:=h
 refine⟨ρ.map pkS,P,_,S.peek,?_⟩
 show res C σ P (NW H ρ σ N) H ((g (ρ.map pkS)).bind fun x=>qcv x.d) fun k _ _ H'=>Q k H'
 cases e:g (ρ.map pkS) with
 |bad=>simp only[e,pkR] at h;exact h.elim
 |exc c fs =>
  simp only[e,pkR] at h
  split at h
  ·rename_i f
   exact fun d P2 N2 H2 a x=>h d P2 _ H2 (S.unpeek a) (x.flat f)
  ·exact h.elim
 |ok er =>
  simp only[e,pkR] at h
  have key:res C σ P N H (qcv er.d) fun k _ _ H'=>Q k H':=by
   cases er with
   |brw _ _=>exact h.elim
   |val d b =>
    simp only at h
    split at h
    ·exact h
    ·exact h.elim
   |fre ds b =>
    simp only at h
    split at h
    ·exact h
    ·exact h.elim
  rw[RE.bind_ok]
  have nx:=qd3 er.d
  cases e2:qcv er.d with
  |bad=>rw[e2] at key;exact key.elim
  |exc c fs=>rw[e2] at nx;exact nx.elim
  |ok k =>
   rw[e2] at key
   exact fun P2 N2 H2 a=>key P2 _ H2 (S.unpeek a)
theorem qj9 {x:Expr} {g:List Sl→RE ER} (h:PE X x (tE C g)):PE X x (tE C fun ρ=>pkR (g (ρ.map pkS))):=qal h fun σ H Q q=>qjK q
theorem qjF {x:Expr} {g:List Sl→RE ER} (h:PT X x (tT C fun ρ=>(g ρ).bind fun x=>qcv x.d)):PT X x (tT C fun ρ=>(pkR (g (ρ.map pkS))).bind fun x=>qcv x.d):=qc7 h fun σ H Q q=>qhM q
def FrR (C:Ctx) (P N H H0:Hp) (dss:List (List Cm.D)) (ps:List Addr):Prop:=RowR (fun a ds=>∃xs,H a=some (.lst xs)∧H0 a=none∧P a=none∧N a=none∧D.flats ds=true∧RepsB C P N true ds xs) dss ps∧ps.Nodup
def tF (C:Ctx) (g:List Sl→RE (List (List Cm.D))):TA:=fun σ H Q=>∃ρ P N,SR C P N H ρ σ∧res C σ P N H (g ρ) fun dss P' N' H'=>∀ps,FrR C P' N' H' H dss ps→Q (ps.map V.ref) H'
theorem qiU:PA X [] (tF C fun _=>.ok []):=qbS pa_nil fun σ H Q q=>by
 obtain⟨ρ,P,N,S,h⟩:=q
 exact h.now S.reg [] ⟨rfl,List.nodup_nil⟩
theorem qgp {e:Expr} {es:List Expr} {ge:List Sl→RE ER} {g:List Sl→RE (List (List Cm.D))} (he:PE X e (tE C ge)) (hr:PA X es (tF C g)) (hs:starEach (e::es) X.env=(false,eval e X.env)::starEach es X.env) :
  PA X (e::es) (tF C fun ρ=>(ge ρ).bind fun x=>match x with
  |.fre ds _=>if D.flats ds=true then (g ρ).bind fun r=>.ok (ds::r) else .bad
  |_=>.bad):=qbS (pa_cons he hr hs) fun σ H Q q=>by
 obtain⟨ρ,P,N,S,h⟩:=q
 refine⟨ρ,P,N,S,h.bind.mono fun x P1 N1 H1 _ a1 h1 v rv=>?_⟩
 have S1:=S.adv a1
 cases x with
 |val _ _=>exact h1.elim
 |brw _ _=>exact h1.elim
 |fre ds b =>
  simp only at h1
  split at h1
  case isFalse=>exact h1.elim
  rename_i f
  obtain⟨p,xs,rfl,y1,y2,y3,y4,y5⟩:=rv
  refine⟨ρ,P1,N1,S1,h1.bind.mono fun r P2 N2 H2 _ a2 h2 ps fr=>?_⟩
  obtain⟨k1,k2⟩:=fr
  refine h2.now (S1.adv a2).reg (p::ps) ⟨⟨p,ps,rfl,⟨xs,a2.hh _ _ y1,y2,a2.off y1 y3,a2.offN y1 y4,f,RepsB.adv a2.pp a2.nn (Reps.flat ds xs f y5)⟩,?_⟩,?_⟩
  ·exact k1.mono fun a ds ⟨xs,g1,g2,g3⟩=>⟨xs,g1,a1.hh.free g2,g3⟩
  ·rw[List.nodup_cons]
   refine⟨fun m=>?_,k2⟩
   obtain⟨ds,xs,g1,g2,_⟩:=k1.all p m
   rw[y1] at g2;cases g2
theorem AR.setW {i:Nat} {dss:List (List Cm.D)} {p:Addr} (h:AR H ρ σ) (k:∀(j:Nat) (t:Sl) (u:Option V) (a:Addr),i≠j→ρ[j]? = some t→σ[j]? = some u→Held H t u a→¬Held H (.row dss) (some (.ref p)) a):AR H (ρ.set i (.row dss)) (σ.set i (some (.ref p))):=⟨fun j l es t o u a e1 e2 e3 e4 h1 h2=>by
 rcases qad e1 with⟨q1,z1⟩ | ⟨q1,z1⟩
 ·cases z1
  rcases qad e3 with⟨_,z3⟩ | ⟨q3,_⟩
  ·rcases qad e2 with⟨q2,z2⟩ | ⟨q2,z2⟩
   ·omega
   ·rw[List.getElem?_set_ne q2] at e4
    rw[z3] at h1
    exact absurd h1 (k l t u a q2 z2 e4 h2)
  ·exact absurd q1 q3
 ·rw[List.getElem?_set_ne q1] at e3
  rcases qad e2 with⟨q2,z2⟩ | ⟨q2,z2⟩
  ·rcases qad e4 with⟨_,z4⟩ | ⟨q4,_⟩
   ·rw[z2,z4] at h2
    exact absurd h2 (k j _ o a q1 z1 e3 h1)
   ·exact absurd q2 q4
  ·rw[List.getElem?_set_ne q2] at e4
   exact h.un j l es t o u a z1 z2 e3 e4 h1 h2⟩
theorem SR.setW {P0 N0 H0:Hp} (S0:SR C P0 N0 H0 ρ σ) (S:SR C P N H ρ σ) (hs:Cm.Same H0 H) {i:Nat} {dss:List (List Cm.D)} {p:Addr} {ps:List Addr} (h0:H0 p=none) (hp:H p=some (.lst (ps.map V.ref))) (pP:P p=none) (pN:N p=none) (fr:FrR C P N H H0 dss ps) (hn:p∉ps):SR C P N H (ρ.set i (.row dss)) (σ.set i (some (.ref p))) where
 reg:=S.reg
 len:=by simp[S.len]
 sl:=fun j s e=>by
  by_cases q:i=j
  ·subst q
   have hi:i<ρ.length:=by
    rcases Nat.lt_or_ge i ρ.length with z | z
    ·exact z
    ·rw[List.getElem?_eq_none (by simpa using z)] at e;cases e
   rw[List.getElem?_set_self hi] at e
   cases e
   exact⟨_,List.getElem?_set_self (by rw[S.len];exact hi),p,ps,rfl,hp,pP,pN,S0.reg.bH.free h0,fr.1.mono fun a ds ⟨xs,g1,g2,g3,g4,g5⟩=>⟨xs,g1,g3,g4,S0.reg.bH.free g2,g5⟩,List.nodup_cons.mpr ⟨hn,fr.2⟩⟩
  ·rw[List.getElem?_set_ne q] at e
   rw[List.getElem?_set_ne q]
   exact S.sl j s e
 ap:=fun j k r ds c es c' e1 e2 e3 e4=>by
  rcases qad e1 with⟨_,z⟩ | ⟨q1,z1⟩
  ·cases z
  ·rcases qad e2 with⟨_,z⟩ | ⟨q2,z2⟩
   ·cases z
   ·rw[List.getElem?_set_ne q1] at e3
    rw[List.getElem?_set_ne q2] at e4
    exact S.ap j k r ds c es c' z1 z2 e3 e4
 ad:=S.ad.set rfl
 ar:=S.ar.setW fun j t u a hj e1 e2 k1 k2=>by
  have fresh:H0 a=none:=by
   cases k2 with
   |rt=>exact h0
   |it e m =>
    rw[hp] at e
    injection e with e
    injection e with e
    rw[←qaW e] at m
    obtain⟨ds,xs,g1,g2,_⟩:=fr.1.all a m
    exact g2
  cases k1 with
  |own =>
   obtain⟨o,z1,z2⟩:=S0.sl j _ e1
   rw[z1] at e2;cases e2
   obtain⟨q,xs,y1,y2,_⟩:=z2
   cases y1
   rw[fresh] at y2;cases y2
  |rt=>exact S0.newW hs fresh e1 e2 .rt
  |it e m=>exact S0.newW hs fresh e1 e2 (.it e m)
theorem qil {i:Nat} {g:List Sl→RE (List (List Cm.D))} {D:Ends} (q:tS C (fun ρ=>(g ρ).out fun dss=>gdO (leB dss.length) (.nx (ρ.set i (.row dss)))) D σ H):tAsg (tLst (tF C g)) (gName i) D σ H:=by
 obtain⟨ρ,P,N,S,h⟩:=q
 refine⟨ρ,P,N,S,(h.res S.reg).mono fun dss P1 N1 H1 _ a1 h1 ps fr=>?_⟩
 simp only[qaE,qai] at h1
 split at h1
 case isFalse=>exact h1.elim
 rename_i hl
 have ln:∀{dss:List (List Cm.D)} {ps:List Addr} {R:Addr→List Cm.D→Prop},RowR R dss ps→ps.length=dss.length:=fun {dss}=>by
  induction dss with
  |nil=>intro ps R h;cases h;rfl
  |cons d r ih=>intro ps R ⟨a,q,e,_,h2⟩;subst e;simp[ih h2]
 refine⟨by rw[List.length_map,ln fr.1];exact hl,fun p hp=>?_⟩
 have S1:=S.adv a1
 have a2:Adv P1 N1 H1 P1 N1 (upd H1 p (.lst (ps.map V.ref))):=(Adv.refl S1.reg.pH S1.reg.nH).heap (qdP hp)
 have S2:=S1.adv a2
 have ne:p∉ps:=fun m=>by
  obtain⟨ds,xs,g1,_⟩:=fr.1.all p m
  rw[hp] at g1;cases g1
 refine h1 _ P1 N1 _ (SR.setW S S2 (a1.hh.trans a2.hh) (a1.hh.free hp) upd_same (S1.reg.pH.free hp) (S1.reg.nH.free hp) ⟨fr.1.sub fun a m ds ⟨xs,g1,g2⟩=>⟨xs,a2.hh _ _ g1,g2⟩,fr.2⟩ ne) a1.pp a1.nn
theorem RowR.get {R:Addr→List Cm.D→Prop}:∀{dss:List (List Cm.D)} {ps:List Addr} {k:Nat} {ds:List Cm.D},RowR R dss ps→dss[k]? = some ds→∃a,ps[k]? = some a∧R a ds
 |[],_,_,_,_,e=>by simp at e
 |d::r,_,0,ds,⟨a,q,e,h1,h2⟩,e2=>by subst e;cases e2;exact⟨a,rfl,h1⟩
 |d::r,_,k+1,ds,⟨a,q,e,h1,h2⟩,e2=>by
  subst e
  obtain⟨b,g1,g2⟩:=RowR.get (k:=k) h2 (by simpa using e2)
  exact⟨b,by simpa using g1,g2⟩
theorem RowR.put {R R':Addr→List Cm.D→Prop}:∀{dss:List (List Cm.D)} {ps:List Addr} {k:Nat} {a:Addr} {ds':List Cm.D},RowR R dss ps→ps[k]? = some a→ps.Nodup→R' a ds'→(∀b∈ps,b≠a→∀ds,R b ds→R' b ds)→RowR R' (dss.set k ds') ps
 |[],_,_,_,_,h,e,_,_,_=>by cases h;simp at e
 |d::r,_,0,a,ds',⟨b,q,e,h1,h2⟩,e2,nd,h3,h4=>by
  subst e
  cases e2
  rw[List.nodup_cons] at nd
  exact⟨_,q,rfl,h3,h2.sub fun c m ds g=>h4 c (List.mem_cons_of_mem _ m) (fun z=>nd.1 (z ▸ m)) ds g⟩
 |d::r,_,k+1,a,ds',⟨b,q,e,h1,h2⟩,e2,nd,h3,h4=>by
  subst e
  rw[List.nodup_cons] at nd
  have e2:q[k]? = some a:=by simpa using e2
  exact⟨b,q,rfl,h4 b (by simp) (fun z=>nd.1 (z ▸ List.mem_of_getElem? e2)) _ h1,RowR.put h2 e2 nd.2 h3 fun c m=>h4 c (List.mem_cons_of_mem _ m)⟩
theorem AR.row {i:Nat} {dss dss':List (List Cm.D)} (h:AR H ρ σ) (e:ρ[i]? = some (.row dss)):AR H (ρ.set i (.row dss')) σ:=⟨fun j l es t o u a e1 e2 e3 e4 h1 h2=>by
 have back:∀{m:Nat} {t:Sl} {o:Option V},(ρ.set i (.row dss'))[m]? = some t→Held H t o a→∃t',ρ[m]? = some t'∧Held H t' o a∧(t.isW=true→t'.isW=true):=fun {m t o} em hh=>by
  rcases qad em with⟨q,z⟩ | ⟨q,z⟩
  ·subst q
   rw[z] at hh
   refine⟨_,e,?_,fun _=>rfl⟩
   cases hh with
   |rt=>exact .rt
   |it e m=>exact .it e m
  ·exact⟨t,z,hh,id⟩
 obtain⟨t1,f1,g1,w1⟩:=back e1 h1
 obtain⟨t2,f2,g2,_⟩:=back e2 h2
 have w1:=w1 rfl
 cases t1 with
 |row es'=>exact h.un j l es' t2 o u a f1 f2 e3 e4 g1 g2
 |_=>cases w1⟩
theorem SR.rootW (S:SR C P N H ρ σ) {i:Nat} {dss:List (List Cm.D)} (e:ρ[i]? = some (.row dss)):∃p ps,σ[i]? = some (some (.ref p))∧H p=some (.lst (ps.map V.ref))∧P p=none∧N p=none∧C.B p=none∧RowR (fun a ds=>∃xs,H a=some (.lst xs)∧P a=none∧N a=none∧C.B a=none∧D.flats ds=true∧RepsB C P N true ds xs) dss ps∧(p::ps).Nodup:=by
 obtain⟨o,z1,p,ps,rfl,z2⟩:=S.sl i _ e
 exact⟨p,ps,z1,z2⟩
theorem SR.writeW (S:SR C P N H ρ σ) {i k:Nat} {dss:List (List Cm.D)} {ds':List Cm.D} {p a:Addr} {ps:List Addr} {xs':List V} (e:ρ[i]? = some (.row dss)) (eσ:σ[i]? = some (some (.ref p))) (hp:H p=some (.lst (ps.map V.ref))) (ha:ps[k]? = some a) (hf:D.flats ds'=true) (h:RepsB C P N true ds' xs'):SR C P N (upd H a (.lst xs')) (ρ.set i (.row (dss.set k ds'))) σ:=by
 obtain⟨p',ps',z1,z2,z3,z4,z5,z6,z7⟩:=S.rootW e
 rw[z1] at eσ;cases eσ
 rw[hp] at z2
 injection z2 with z2
 injection z2 with z2
 have z2:=qaW z2
 subst z2
 have ma:=List.mem_of_getElem? ha
 have hk:Held H (.row dss) (some (.ref p)) a:=.it hp ma
 obtain⟨⟨us,ha0⟩,a1,a2,a3⟩:=S.heldW e z1 hk
 have nd:=List.nodup_cons.mp z7
 have pa:p≠a:=fun z=>nd.1 (z ▸ ma)
 have hi:i<ρ.length:=(List.getElem?_eq_some_iff.mp e).1
 refine⟨⟨qaj S.reg.pH a1,qaj S.reg.nH a2,qaj S.reg.bH a3,S.reg.rB,S.reg.p0,S.reg.pn,S.reg.nw,S.reg.dj,qbE ha0 S.reg.tb,S.reg.tf⟩,by simp[S.len],fun j s ej=>?_,fun j l r ds1 c es c' e1 e2 e3 e4=>?_,S.ad.setS rfl,(S.ar.row e).heap fun j es r ej ej2=>upd_ne fun er=>?_⟩
 ·by_cases q:i=j
  ·subst q
   rw[List.getElem?_set_self hi] at ej
   cases ej
   refine⟨_,z1,p,ps,rfl,by rw[upd_ne pa];exact hp,z3,z4,z5,?_,z7⟩
   exact RowR.put z6 ha nd.2 ⟨xs',upd_same,a1,a2,a3,hf,h⟩ fun b m nb ds ⟨ys,g1,g2⟩=>⟨ys,by rw[upd_ne nb];exact g1,g2⟩
  ·rw[List.getElem?_set_ne q] at ej
   obtain⟨o,y1,y2⟩:=S.sl j s ej
   refine⟨o,y1,?_⟩
   cases s with
   |non=>trivial
   |val d b=>exact y2
   |own es c =>
    obtain⟨r,ys,rfl,y4,y5⟩:=y2
    have hr:r≠a:=fun er=>q (S.ar.un i j dss _ _ _ a e ej z1 y1 hk (by rw[er];exact .own))
    exact⟨r,ys,rfl,by rw[upd_ne hr];exact y4,y5⟩
   |slf c fs =>
    obtain⟨r,dx,ys,y3,y4,y5⟩:=y2
    have hr:r≠a:=fun er=>by rw[er,ha0] at y4;cases y4
    exact⟨r,dx,ys,y3,by rw[upd_ne hr];exact y4,y5⟩
   |fxd d k=>exact y2
   |dct m c =>
    obtain⟨r,ys,y3,y4,y5⟩:=y2
    have hr:r≠a:=fun er=>by rw[er,ha0] at y4;cases y4
    exact⟨r,ys,y3,by rw[upd_ne hr];exact y4,y5⟩
   |row es =>
    have far:∀b,Held H (.row es) o b→b≠a:=fun b kb er=>q (S.ar.un i j dss _ _ _ a e ej z1 y1 hk (er ▸ kb))
    obtain⟨r,qs,rfl,y4,y5,y6,y7,y8,y9⟩:=y2
    refine⟨r,qs,rfl,by rw[upd_ne (far r .rt)];exact y4,y5,y6,y7,?_,y9⟩
    exact y8.sub fun b m ds ⟨us,g1,g2⟩=>⟨us,by rw[upd_ne (far b (.it y4 m))];exact g1,g2⟩
 ·rcases qad e1 with⟨_,z⟩ | ⟨_,f1⟩
  ·cases z
  ·rcases qad e2 with⟨_,z⟩ | ⟨_,f2⟩
   ·cases z
   ·exact S.ap j l r _ _ _ _ f1 f2 e3 e4
 ·rcases qad ej with⟨qn,z⟩ | ⟨qn,z⟩
  ·subst qn
   rw[z1] at ej2;cases ej2
   exact pa er
  ·exact qn (S.ar.un i j dss _ _ _ a e z z1 ej2 hk (by rw[er];exact .rt))
abbrev tRx (K:PySem.W.Frag) (i k:Nat):TE:=tOp (rIx K) (tVar i) (tC (.int k))
end
end Cm
namespace Cm
open PySem PySem.Spec PyProof.Rows L2
variable [HasT]
def qic:Ex→Bool
 |.cmp _ _ _=>true
 |.pk e=>qic e
 |_=>false
def qjv:Expr→Bool
 |.UnaryOp .Not _ _=>false
 |.BoolOp _ _ _=>false
 |.IfExp _ _ _ _=>false
 |.Compare _ _ _ _=>false
 |_=>true
def tgE (T:Tb) (fc:Option Scope) (sc:Scope):List Nat→List Expr→Bool
 |[],[]=>true
 |i::is,.Name x _::es=>decide (T.N[i]? = some x)&&tgB fc sc x&&tgE T fc sc is es
 |_,_=>false
def qd4 (T:Tb) (fc:Option Scope) (sc:Scope) (tg:List Nat) (t:Expr):Bool:=
 match t with
 |.Name x _=>match tg with
  |[i]=>decide (T.N[i]? = some x)&&tgB fc sc x
  |_=>false
 |.Tuple es _ _=>decide (tg.length≠1)&&tgE T fc sc tg es
 |_=>false
def qeJ:Expr→Bool
 |.Tuple _ _ _=>true
 |_=>false
def qmJ (T:Tb) (sc:Scope):List Nat→List Expr→Bool
 |[],[]=>true
 |k::ks,.Name n _::es=>decide ((T.ck[k]?).map (·.1)=some n)&&glB sc n&&nmB n&&qmJ T sc ks es
 |_,_=>false
mutual
def qao (T:Tb):Ex→Option Scope→Scope→Expr→Bool
 |.nev,_,_,_=>true
 |.var i,_,sc,e=>match e with
  |.Name x _=>decide (T.N[i]? = some x)&&qeL sc x&&nmB x
  |_=>false
 |.cint i,_,_,e=>match e with
  |.Constant (.int j) _ _=>decide (i=j)
  |_=>false
 |.cbl i,_,_,e=>match e with
  |.Constant (.bool j) _ _=>decide (i=j)
  |_=>false
 |.bin o a b,fc,sc,e=>match e with
  |.BinOp x op y _=>decide (op=qlj o)&&qao T a fc sc x&&qao T b fc sc y
  |_=>false
 |.cmp o a b,fc,sc,e=>match e with
  |.Compare x [op] [y] _=>decide (op=qiD o) && !behindInMarks (qiD o) y&&qao T a fc sc x&&qao T b fc sc y
  |_=>false
 |.bop c es,fc,sc,e=>match e with
  |.BoolOp op xs _=>decide (op=qgn c) && !xs.isEmpty&&qar T es fc sc xs
  |_=>false
 |.bnot a,fc,sc,e=>match e with
  |.UnaryOp .Not x _=>qao T a fc sc x
  |_=>false
 |.tup es,fc,sc,e=>match e with
  |.Tuple xs _ _=>qar T es fc sc xs&&xs.all qac&&decide (xs.length<1000)
  |_=>false
 |.lst es,fc,sc,e=>match e with
  |.List xs _=>qar T es fc sc xs&&xs.all qac&&decide (xs.length<1000)
  |_=>false
 |.idx a i,fc,sc,e=>match e with
  |.Subscript x y _=>qao T a fc sc x&&qao T i fc sc y&&qb1 y
  |_=>false
 |.call f es,fc,sc,e=>match e with
  |.Call (.Name x _) xs [] _=>decide (T.fn[f]? = some (x,xs.length))&&glB sc x&&nmB x&&qar T es fc sc xs&&xs.all qac
  |_=>false
 |.pri p es,fc,sc,e=>match e with
  |.Call (.Name x _) xs [] _=>decide (x=qhg p)&&glB sc x && !xs.isEmpty&&qar T es fc sc xs&&xs.all qac
  |_=>false
 |.isi a t,fc,sc,e=>match e with
  |.Call (.Name x _) [y,.Name n _] [] _=>decide (x=("isinstance" : Str))&&decide (n=tyN t)&&glB sc "isinstance" && glB sc (tyN t)&&qao T a fc sc y&&qac y
  |_=>false
 |.lc own it tg cnd e',fc,sc,e=>match e with
  |.ListComp elt [⟨tgt,iter,ifs,0⟩] scope _=>blkC T.N sc scope (own.map fun i=>(T.N.getD i Str.empty,i))&&qg0 T it fc sc tgt iter&&qd4 T (some scope) (relS scope sc) tg tgt&&tg.all (fun i=>decide (i∈own))&&qgI T cnd (some scope) (relS scope sc) ifs&&qao T e' (some scope) (relS scope sc) elt&&qen iter
  |_=>false
 |.inxL o a,fc,sc,e=>match e with
  |.Call (.Attribute x mn apos) [y] [] pos=>decide (mn=("index" : Str))&&qao T o fc sc x&&qao T a fc sc y&&qac y&&qh6 x&&(apos.endLine == pos.line)
  |_=>false
 |.pk a,fc,sc,e=>qao T a fc sc e
def qar (T:Tb):Exs→Option Scope→Scope→List Expr→Bool
 |.nil,_,_,xs=>xs.isEmpty
 |.cons e es,fc,sc,xs=>match xs with
  |x::xs=>qao T e fc sc x&&qar T es fc sc xs
  |[]=>false
def qkH (T:Tb):Exs→Option Scope→Scope→Option Expr→Bool
 |.nil,_,_,x=>x.isNone
 |.cons e _,fc,sc,x=>match x with
  |some x=>qao T e fc sc x
  |none=>false
def qge (T:Tb):Te→Option Scope→Scope→Expr→Bool
 |.val e,fc,sc,x=>qao T e fc sc x&&(qic e||qjv x)
 |.bop c ts,fc,sc,x=>match x with
  |.BoolOp op xs _=>decide (op=qgn c) && !xs.isEmpty&&qeN T ts fc sc xs
  |_=>false
 |.not t,fc,sc,x=>match x with
  |.UnaryOp .Not x _=>qge T t fc sc x
  |_=>false
def qeN (T:Tb):Tes→Option Scope→Scope→List Expr→Bool
 |.nil,_,_,xs=>xs.isEmpty
 |.cons t ts,fc,sc,xs=>match xs with
  |x::xs=>qge T t fc sc x&&qeN T ts fc sc xs
  |[]=>false
def qgI (T:Tb):Tes→Option Scope→Scope→List Expr→Bool
 |.nil,_,_,xs=>xs.isEmpty
 |.cons t ts,fc,sc,xs=>match xs with
  |[x]=>qge T t fc sc x&&(match ts with
   |.nil=>true
   |_=>false)
  |_=>false
def qg0 (T:Tb):Itx→Option Scope→Scope→Expr→Expr→Bool
 |.any e,fc,sc,_,x=>qao T e fc sc x
 |.rng es,fc,sc,_,x=>match x with
  |.Call (.Name r _) xs [] _=>decide (r=("range" : Str))&&glB sc "range" && qar T es fc sc xs&&xs.all qac&&decide (xs.length=1∨xs.length=2∨xs.length=3)
  |_=>false
 |.zp a b,fc,sc,t,x=>match x with
  |.Call (.Name r _) [y,z] [] _=>decide (r=("zip" : Str))&&glB sc "zip" && qao T a fc sc y&&qao T b fc sc z&&qac y&&qac z&&qeJ t
  |_=>false
 |.en a,fc,sc,t,x=>match x with
  |.Call (.Name r _) [y] [] _=>decide (r=("enumerate" : Str))&&glB sc "enumerate" && qao T a fc sc y&&qac y&&qeJ t
  |_=>false
 |.rv a,fc,sc,_,x=>match x with
  |.Call (.Name r _) [y] [] _=>decide (r=("reversed" : Str))&&glB sc "reversed" && qao T a fc sc y&&qac y
  |_=>false
 |.rvr a,fc,sc,_,x=>match x with
  |.Call (.Name r _) [.Call (.Name r2 _) [y] [] _] [] _=>decide (r=("reversed" : Str))&&decide (r2=("range" : Str))&&glB sc "reversed" && glB sc "range" && qao T a fc sc y&&qac y
  |_=>false
end
structure XOk (T:Tb) (Γ:Env) (C:Ctx) (X:Cx) (fc:Option Scope) (sc:Scope):Prop where
 nm:X.N=T.N
 nd:X.N.Nodup
 sc:X.env.scope=sc
 K:X.K=C.G.K
 tk:Takes X C.W
 calm:X.calm=true
 un:X.A.units+65<cLine
 blt:∀x∈bltNames,X.mg x=none
 fnc:match fc with
  |none=>X.fn=fun _=>true
  |some so=>X.fn=fun x=>so.names.lookup x == some .cell
 fn:∀(f:Nat) (x:Str) (n:Nat),T.fn[f]? = some (x,n)→∀g,Γ.fn[f]? = some g→∃(k:Nat) (a:Addr) (fd:FuncData) (ps:List Str) (m:Nat) (gf:List Cm.D→RE ER),FnOk X.prog X.w X.K X.mg X.base (L2.CX X.prog X.w) k a fd ps (spD C.G (n+m) gf)∧Room k X.A∧X.mg x=some (.ref a)∧PySem.W.keepIn X.K (.ref a)=true∧Part X.K C.G fd ps n m g.2 gf
 gc:∀(k:Nat) (x:Str),T.gc[k]? = some x→∀c,Γ.gc[k]? = some c→∃u v,X.mg x=some u∧RelV v u∧(∀P N,RepB C P N true c.2 v)∧WrT C.G v
 mt:∀(m:Nat) (x:Str) (n:Nat),T.mn[m]? = some (x,n)→∀c g,Γ.mt c m=some g→MtOk C X x c n g
 fs:∀(f:Nat) (x:Str),T.fs[f]? = some x→∀c k,Γ.fi c f=some k→FdOk C X x c k
 nw:∀(k:Nat) (x:Str) (n:Nat),T.nw[k]? = some (x,n)→∀g,Γ.nw[k]? = some g→NwOk C X x g.1 n g.2
 ck:∀(k:Nat) (x:Str) (own:Bool),T.ck[k]? = some (x,own)→CkOk C.G X.K X.mg x own Γ.ck[k]? Γ.ik[k]?
 xk:∀(k:Nat) (x:Str),T.xk[k]? = some x→∀c,Γ.xk[k]? = some c→RsOk X.K X.mg (C.G.ca c) x
 dc:∀(k:Nat) (x:Str),T.dc[k]? = some x→∀t,Γ.dc[k]? = some t→qkj C.G X.K X.w X.mg x t.2
 fr:fc=none→FrOk X
 lam:fc=none→∀c P,T.lm=some (c,P)→X.env.code=.ref c∧LamX.TabB X.base X.mg c P∧(P,X.env.qual ++ "<lambda>")∈HasT.T∧(∀p∈HasT.T,p.1=P→p.2=X.env.qual ++ "<lambda>")∧X.A.depth<recursionLimit
 fo:∀(f:Nat) (x:Str) (n:Nat),T.fo[f]? = some (x,n)→∀g,Γ.fo[f]? = some g→∃(k:Nat) (a:Addr) (fd:FuncData) (ps:List Str),FnOk X.prog X.w X.K X.mg X.base (L2.CX X.prog X.w) k a fd ps (spO C.G n g.1 g.2)∧Room k X.A∧X.mg x=some (.ref a)∧PySem.W.keepIn X.K (.ref a)=true∧Binds X.K fd ps []
end Cm
namespace Cm
open PySem PySem.Spec PyProof.Rows L2
variable [HasT]
theorem qaS {C:Ctx} {X:Cx} {e:Expr} {g g':List Sl→RE ER} (h:PE X e (tE C g')) (q:∀ρ,g ρ=g' ρ):PE X e (tE C g):=by
 have:g=g':=funext q
 rw[this];exact h
theorem qeP {C:Ctx} {X:Cx} {e:Expr} {g g':List Sl→RE Bool} (h:PT X e (tT C g')) (q:∀ρ,g ρ=g' ρ):PT X e (tT C g):=by
 have:g=g':=funext q
 rw[this];exact h
theorem qjE {C:Ctx} {X:Cx} {e:Expr} {g g':List Sl→RE Bool} (h:PW X e (tT C g')) (q:∀ρ,g ρ=g' ρ):PW X e (tT C g):=by
 have:g=g':=funext q
 rw[this];exact h
theorem qi7 {C:Ctx} {X:Cx} {e:List Expr} {g g':List Sl→RE (List ER)} (h:PA X e (tA C g')) (q:∀ρ,g ρ=g' ρ):PA X e (tA C g):=by
 have:g=g':=funext q
 rw[this];exact h
theorem qj3 {C:Ctx} {X:Cx} {e:Option Expr} {g g':List Sl→RE (Option Int)} (h:PO X e (tO C g')) (q:∀ρ,g ρ=g' ρ):PO X e (tO C g):=by
 have:g=g':=funext q
 rw[this];exact h
theorem qdi {C:Ctx} {X:Cx} {t e:Expr} {g g':List Sl→RE Wk} (h:PI X t e (tI C g')) (q:∀ρ,g ρ=g' ρ):PI X t e (tI C g):=by
 have:g=g':=funext q
 rw[this];exact h
theorem qaA {C:Ctx} {X:Cx} {e:Stmt} {g g':List Sl→Out} (h:PS X e (tS C g')) (q:∀ρ,g ρ=g' ρ):PS X e (tS C g):=by
 have:g=g':=funext q
 rw[this];exact h
section
variable {T:Tb} {Γ:Env} {C:Ctx} {X:Cx} {fc:Option Scope} {sc:Scope}
theorem qbd (hs:X.env.scope=sc) {x:Str} (h:qeL sc x=true):Vis X.env.scope x:=by
 rw[hs]
 unfold qeL at h
 unfold Vis
 split at h
 ·exact .inl (by assumption)
 ·exact .inr (.inl (by assumption))
 ·exact .inr (.inr (by assumption))
 ·cases h
theorem qbc (hs:X.env.scope=sc) {x:Str} (h:glB sc x=true):Gl X x:=by
 unfold glB at h
 show X.env.scope.names.lookup x=_
 rw[hs]
 split at h
 ·assumption
 ·cases h
theorem qby {x:Str} (h:nmB x=true):(x == ("__debug__" : Str))=false∧(x == ("__classdict__" : Str))=false:=by
 unfold nmB at h
 simp only[Bool.and_eq_true,Bool.not_eq_true'] at h
 exact h
theorem qeh (I:XOk T Γ C X fc sc) {x:Str} (h:tgB fc sc x=true):Loc X.env.scope x∧(X.fn x=true∨X.env.scope.names.lookup x=some .local):=by
 rw[I.sc]
 unfold tgB at h
 split at h
 ·rename_i e
  exact⟨.inl e,.inr e⟩
 ·rename_i e
  refine⟨.inr e,.inl ?_⟩
  have:=I.fnc
  cases fc with
  |none=>simp only at this;rw[this]
  |some so=>simp only at this h;rw[this];exact h
 ·cases h
theorem qaY:∀(es:Exs) (ρ:List Sl) (r:List ER) (xs:List Expr),qar T es fc sc xs=true→evs Γ es ρ=.ok r→r.length=xs.length
 |.nil,ρ,r,xs,h,e=>by
  unfold qar at h
  rw[evs] at e
  cases e
  cases xs with
  |nil=>rfl
  |cons _ _=>cases h
 |.cons a es,ρ,r,xs,h,e=>by
  unfold qar at h
  cases xs with
  |nil=>cases h
  |cons x xs =>
   simp only[Bool.and_eq_true] at h
   rw[evs] at e
   cases e1:ev Γ a ρ with
   |bad=>rw[e1] at e;cases e
   |exc c fs=>rw[e1] at e;cases e
   |ok v =>
    rw[e1] at e
    cases e2:evs Γ es ρ with
    |bad=>rw[RE.bind_ok,e2] at e;cases e
    |exc c fs=>rw[RE.bind_ok,e2] at e;cases e
    |ok q =>
     rw[RE.bind_ok,e2] at e
     cases e
     simp[qaY es ρ q xs h.2 e2]
theorem qd8 {es:Exs} {xs:List Expr} (h:qar T es fc sc xs=true) (e:xs=[]) (ρ:List Sl):evs Γ es ρ=.ok []:=by
 subst e
 cases es with
 |nil=>rw[evs]
 |cons a es=>unfold qar at h;cases h
theorem XOk.blk (I:XOk T Γ C X fc sc) {s:Shared} {H:Hp} {scope:Scope} {cl:List (Str × Addr)} {A:Addr} {fp:List Addr}:XOk T Γ C.nx (X.blk s H scope (compEnvC scope cl A X.env) fp) (some scope) (relS scope sc) where
 nm:=I.nm
 nd:=I.nd
 sc:=by
  have:=I.sc
  subst this
  rfl
 K:=I.K
 tk:=takes0
 fr:=fun z=>nomatch z
 lam:=fun z=>nomatch z
 fo:=I.fo
 calm:=I.calm
 un:=I.un
 blt:=I.blt
 fnc:=rfl
 fn:=I.fn
 gc:=I.gc
 mt:=fun m x n h c g e=>by
  obtain⟨h1,h2,h3⟩:=I.mt m x n h c g e
  exact⟨h1,h2,h3⟩
 fs:=fun f x h c k e=>by
  obtain⟨h1,h2,h3,h4⟩:=I.fs f x h c k e
  exact⟨h1,h2,h3,h4⟩
 nw:=fun k x n h g e=>by
  obtain⟨h1⟩:=I.nw k x n h g e
  exact⟨h1⟩
 ck:=I.ck
 xk:=I.xk
 dc:=I.dc
theorem XOk.tr {W:WX} {pn:List (Addr × Obj)} {xe:Value→Shared→Prop} (I:XOk T Γ C X fc sc) (tk:Takes (X.tr pn xe) W):XOk T Γ { C with W:=W } (X.tr pn xe) fc sc where
 nm:=I.nm
 nd:=I.nd
 sc:=I.sc
 K:=I.K
 tk:=tk
 fr:=fun z=>⟨(I.fr z).st,(I.fr z).fr,(I.fr z).ex⟩
 lam:=I.lam
 fo:=I.fo
 calm:=I.calm
 un:=I.un
 blt:=I.blt
 fnc:=I.fnc
 fn:=I.fn
 gc:=I.gc
 mt:=fun m x n h c g e=>by
  obtain⟨h1,h2,h3⟩:=I.mt m x n h c g e
  exact⟨h1,h2,h3⟩
 fs:=fun f x h c k e=>by
  obtain⟨h1,h2,h3,h4⟩:=I.fs f x h c k e
  exact⟨h1,h2,h3,h4⟩
 nw:=fun k x n h g e=>by
  obtain⟨h1⟩:=I.nw k x n h g e
  exact⟨h1⟩
 ck:=I.ck
 xk:=I.xk
 dc:=I.dc
theorem qcc (I:XOk T Γ C X fc sc):∀(tg:List Nat) (es:List Expr),tgE T fc sc tg es=true→PGs X es (qdh tg)∧es.length=tg.length∧(assignEach es X.env).length=es.length∧(assignEach es X.env).findIdx? (·.1)=none
 |[],[],_=>⟨pgs_nil,rfl,rfl,rfl⟩
 |i::is,.Name x p::es,h=>by
  unfold tgE at h
  simp only[Bool.and_eq_true,decide_eq_true_eq] at h
  obtain⟨h1,h2⟩:=qeh I h.1.2
  obtain⟨h3,h4,h5,h6⟩:=qcc I is es h.2
  refine⟨pgs_cons (pg_name I.nd (by rw[I.nm];exact h.1.1) h1 h2) h3 rfl,by simp[h4],?_,?_⟩
  ·show(_::assignEach es X.env).length=_
   simp[h5]
  ·show List.findIdx? (·.1) ((false,_)::assignEach es X.env)=none
   rw[List.findIdx?_cons]
   simp[h6]
 |[],_::_,h=>by cases h
 |_::_,[],h=>by cases h
theorem qb3 (I:XOk T Γ C X fc sc) {tg:List Nat} {t:Expr} (h:qd4 T fc sc tg t=true):PG X t (tG C tg):=by
 unfold qd4 at h
 split at h
 ·split at h
  ·simp only[Bool.and_eq_true,decide_eq_true_eq] at h
   obtain⟨h1,h2⟩:=qeh I h.2
   exact qgN I.nd (by rw[I.nm];exact h.1) h1 h2
  ·cases h
 ·simp only[Bool.and_eq_true,decide_eq_true_eq] at h
  obtain⟨h3,h4,h5,h6⟩:=qcc I _ _ h.2
  exact qip I.K I.calm h3 h4 h.1 h5 h6
 ·cases h
end
end Cm
set_option maxHeartbeats 1000000
namespace Cm
open PySem PySem.Spec PyProof.Rows L2
variable [HasT]
theorem qke (p:Pri):qhg p∈bltNames:=by cases p<;>decide
theorem qjc (t:Ty):tyN t∈bltNames:=by cases t<;>decide
theorem qik {l:List Expr} (h:l.length=1):∃a,l=[a]:=by
 match l,h with
 |[a],_=>exact⟨a,rfl⟩
theorem qiO {l:List Expr} (h:l.length=2):∃a b,l=[a,b]:=by
 match l,h with
 |[a,b],_=>exact⟨a,b,rfl⟩
theorem qff {l:List Expr} (h:l.length=3):∃a b c,l=[a,b,c]:=by
 match l,h with
 |[a,b,c],_=>exact⟨a,b,c,rfl⟩
mutual
theorem qab {T:Tb} {Γ:Env}:∀(ir:Ex) {C:Ctx} {X:Cx} {fc:Option Scope} {sc:Scope} {e:Expr},XOk T Γ C X fc sc→qao T ir fc sc e=true→PE X e (tE C (ev Γ ir))∧(qic ir=true→PT X e (tT C fun ρ=>(ev Γ ir ρ).bind fun x=>qcv x.d))
 |.nev,C,X,fc,sc,e,I,h=>by
  exact⟨qaS qf9 fun ρ=>by rw[ev],fun z=>by cases z⟩
 |.var i,C,X,fc,sc,e,I,h=>by
  unfold qao at h
  split at h
  case h_2=>cases h
  rename_i x p
  simp only[Bool.and_eq_true,decide_eq_true_eq] at h
  obtain⟨n1,n2⟩:=qby h.2
  exact⟨qaS (qiB (by rw[I.nm];exact h.1.1) (qbd I.sc h.1.2) n1 n2) fun ρ=>by rw[ev]<;>rfl,fun z=>by cases z⟩
 |.cint i,C,X,fc,sc,e,I,h=>by
  unfold qao at h
  split at h
  case h_2=>cases h
  simp only[decide_eq_true_eq] at h
  subst h
  exact⟨qaS (qjp (d:=.int i) pe_int fun _ _=>rfl) fun ρ=>by rw[ev];rfl,fun z=>by cases z⟩
 |.cbl i,C,X,fc,sc,e,I,h=>by
  unfold qao at h
  split at h
  case h_2=>cases h
  simp only[decide_eq_true_eq] at h
  subst h
  exact⟨qaS (qjp (d:=.bl i) pe_bl fun _ _=>rfl) fun ρ=>by rw[ev];rfl,fun z=>by cases z⟩
 |.bin o a b,C,X,fc,sc,e,I,h=>by
  unfold qao at h
  split at h
  case h_2=>cases h
  simp only[Bool.and_eq_true,decide_eq_true_eq] at h
  obtain⟨⟨rfl,ha⟩,hb⟩:=h
  exact⟨qaS (qjg (qjU o) (I.K ▸ qjL o) (qab a I ha).1 (qab b I hb).1) fun ρ=>by rw[ev],fun z=>by cases z⟩
 |.cmp o a b,C,X,fc,sc,e,I,h=>by
  unfold qao at h
  split at h
  case h_2=>cases h
  simp only[Bool.and_eq_true,decide_eq_true_eq,Bool.not_eq_true'] at h
  obtain⟨⟨⟨rfl,hm⟩,ha⟩,hb⟩:=h
  exact⟨qaS (qhI I.un I.K (qab a I ha).1 (qab b I hb).1 hm) fun ρ=>by rw[ev],fun _=>qeP (qiE I.un I.K (qab a I ha).1 (qab b I hb).1 hm) fun ρ=>by rw[ev]⟩
 |.bop c es,C,X,fc,sc,e,I,h=>by
  unfold qao at h
  split at h
  case h_2=>cases h
  rename_i op xs p
  simp only[Bool.and_eq_true,decide_eq_true_eq,Bool.not_eq_true'] at h
  obtain⟨⟨rfl,hx⟩,he⟩:=h
  exact⟨qaS (qfs c es I he (by rintro rfl;cases hx)) fun ρ=>by rw[ev],fun z=>by cases z⟩
 |.bnot a,C,X,fc,sc,e,I,h=>by
  unfold qao at h
  split at h
  case h_2=>cases h
  exact⟨qaS (qgz I.K (qab a I h).1) fun ρ=>by rw[ev],fun z=>by cases z⟩
 |.tup es,C,X,fc,sc,e,I,h=>by
  unfold qao at h
  split at h
  case h_2=>cases h
  rename_i xs k p
  simp only[Bool.and_eq_true,decide_eq_true_eq] at h
  refine⟨qaS (qhR (qa5 es I h.1.1 h.1.2) fun ρ r e=>?_) fun ρ=>by rw[ev],fun z=>by cases z⟩
  rw[qaY es ρ r xs h.1.1 e]
  have:(1000:Nat)≤LIM:=by decide
  omega
 |.lst es,C,X,fc,sc,e,I,h=>by
  unfold qao at h
  split at h
  case h_2=>cases h
  rename_i xs p
  simp only[Bool.and_eq_true,decide_eq_true_eq] at h
  refine⟨qaS (qia (qa5 es I h.1.1 h.1.2) fun ρ r e=>?_) fun ρ=>by rw[ev],fun z=>by cases z⟩
  rw[qaY es ρ r xs h.1.1 e]
  have:(1000:Nat)≤LIM:=by decide
  omega
 |.idx a i,C,X,fc,sc,e,I,h=>by
  unfold qao at h
  split at h
  case h_2=>cases h
  simp only[Bool.and_eq_true] at h
  exact⟨qaS (qiu I.K (qab a I h.1.1).1 (qab i I h.1.2).1 (qkN h.2)) fun ρ=>by rw[ev],fun z=>by cases z⟩
 |.call f es,C,X,fc,sc,e,I,h=>by
  unfold qao at h
  split at h
  case h_2=>cases h
  rename_i x p xs q
  simp only[Bool.and_eq_true,decide_eq_true_eq] at h
  obtain⟨⟨⟨⟨hf,hg⟩,hn⟩,he⟩,hs⟩:=h
  cases e:Γ.fn[f]? with
  |none=>exact⟨qaS qf9 fun ρ=>by rw[ev,e],fun z=>by cases z⟩
  |some g =>
   obtain⟨k,a,fd,ps,m,gf,F,hr,hm,hk,dv,dvs,dus,hb,hdv,hdm,hdr,hgf⟩:=I.fn f x xs.length hf g e
   exact⟨qaS (qgD F hr (qbc I.sc hg) hm hk hb hdv hdm hdr hgf I.tk (qa5 es I he hs) (qby hn).1 (qb7 hs) (fun ρ r e=>qaY es ρ r xs he e) (fun z ρ=>qd8 he z ρ)) fun ρ=>by rw[ev,e],fun z=>by cases z⟩
 |.pri p es,C,X,fc,sc,e,I,h=>by
  unfold qao at h
  split at h
  case h_2=>cases h
  rename_i x p' xs q
  simp only[Bool.and_eq_true,decide_eq_true_eq,Bool.not_eq_true'] at h
  obtain⟨⟨⟨⟨rfl,hg⟩,hx⟩,he⟩,hs⟩:=h
  cases xs with
  |nil=>cases hx
  |cons y ys =>
   have pl:=qb7 (X:=X) hs
   exact⟨qaS (qiP I.K I.calm (qbc I.sc hg) (I.blt _ (qke p)) (qa5 es I he hs) (pl.1 _ _ rfl) (pl.2 _ _ _ rfl)) fun ρ=>by rw[ev],fun z=>by cases z⟩
 |.pk a,C,X,fc,sc,e,I,h=>by
  unfold qao at h
  exact⟨qaS (qj9 (qab a I h).1) fun ρ=>by rw[ev],fun z=>qeP (qjF ((qab a I h).2 z)) fun ρ=>by rw[ev]⟩
 |.isi a t,C,X,fc,sc,e,I,h=>by
  unfold qao at h
  split at h
  case h_2=>cases h
  simp only[Bool.and_eq_true,decide_eq_true_eq] at h
  obtain⟨⟨⟨⟨⟨rfl,rfl⟩,hg⟩,hg2⟩,ha⟩,hs⟩:=h
  exact⟨qaS (qhG I.K (qbc I.sc hg) (I.blt _ (by decide)) (qbc I.sc hg2) (I.blt _ (qjc t)) (qab a I ha).1 (qaa hs) rfl) fun ρ=>by rw[ev],fun z=>by cases z⟩
 |.lc own it tg cnd e',C,X,fc,sc,e,I,h=>by
  unfold qao at h
  split at h
  case h_2=>cases h
  rename_i elt tgt iter ifs scope p
  simp only[Bool.and_eq_true] at h
  obtain⟨⟨⟨⟨⟨⟨hb,hi⟩,ht⟩,hsub⟩,hc⟩,he⟩,hs⟩:=h
  have hsub':∀i∈tg,i∈own:=fun i hi=>by simpa using List.all_eq_true.mp hsub i hi
  have hb':BlkOk X.N X.env.scope scope (own.map fun i=>(T.N.getD i Str.empty,i)):=by
   rw[I.nm,I.sc];exact blkOk_by hb
  have ho:((own.map fun i=>(T.N.getD i Str.empty,i)).map (·.2))=own:=by
   rw[List.map_map]
   exact List.map_id' own
  have lc:=pe_lc (elt:=elt) (pos:=p) I.calm I.nd (qfu it I hi) hb' (fun s H Cd cl fp=>qb3 (I.blk (s:=s) (H:=H) (cl:=cl) (A:=Cd) (fp:=fp)) ht) (fun s H Cd cl fp=>qfr cnd (I.blk (s:=s) (H:=H) (cl:=cl) (A:=Cd) (fp:=fp)) hc) (fun s H Cd cl fp=>(qab e' (I.blk (s:=s) (H:=H) (cl:=cl) (A:=Cd) (fp:=fp)) he).1) (qc5 hs)
  rw[ho] at lc
  exact⟨qaS (qal lc fun σ H Q q=>qhy hsub' q) fun ρ=>by rw[ev]<;>rfl,fun z=>by cases z⟩
 |.inxL o a,C,X,fc,sc,e,I,h=>by
  unfold qao at h
  split at h
  case h_2=>cases h
  simp only[Bool.and_eq_true,decide_eq_true_eq] at h
  obtain⟨⟨⟨⟨⟨rfl,ho⟩,ha⟩,hs⟩,hb⟩,hl⟩:=h
  exact⟨qaS (qhb I.un I.K (qab o I ho).1 (qab a I ha).1 hs (qec hb) hl (by rw[qaa hs];rfl)) fun ρ=>by rw[ev]<;>rfl,fun z=>by cases z⟩
theorem qa5 {T:Tb} {Γ:Env}:∀(ir:Exs) {C:Ctx} {X:Cx} {fc:Option Scope} {sc:Scope} {xs:List Expr},XOk T Γ C X fc sc→qar T ir fc sc xs=true→xs.all qac=true→PA X xs (tA C (evs Γ ir))
 |.nil,C,X,fc,sc,xs,I,h,hs=>by
  unfold qar at h
  cases xs with
  |nil=>exact qi7 qin fun ρ=>by rw[evs]
  |cons _ _=>cases h
 |.cons a es,C,X,fc,sc,xs,I,h,hs=>by
  unfold qar at h
  cases xs with
  |nil=>cases h
  |cons x xs =>
   simp only[Bool.and_eq_true] at h
   simp only[List.all_cons,Bool.and_eq_true] at hs
   exact qi7 (qg3 (qab a I h.1).1 (qa5 es I h.2 hs.2) (qaa hs.1)) fun ρ=>by rw[evs]
theorem qiN {T:Tb} {Γ:Env}:∀(ks:List (List Nat)) (ir:Exs) {C:Ctx} {X:Cx} {fc:Option Scope} {sc:Scope} {keys:List (Option Expr)} {xs:List Expr} {pos:Pos},XOk T Γ C X fc sc→qkl ks keys=true→xs.length=ks.length→qar T ir fc sc xs=true→PPs X pos keys xs (qjq C Γ ks ir)
 |ks,.nil,C,X,fc,sc,keys,xs,pos,I,hk,hl,h=>by
  unfold qar at h
  cases xs with
  |nil =>
   cases ks with
   |nil =>
    cases keys with
    |nil=>exact pps_nil
    |cons _ _=>simp[qkl] at hk
   |cons k ks=>cases hl
  |cons _ _=>cases h
 |ks,.cons a es,C,X,fc,sc,keys,xs,pos,I,hk,hl,h=>by
  unfold qar at h
  cases xs with
  |nil=>cases h
  |cons x xs =>
   simp only[Bool.and_eq_true] at h
   cases ks with
   |nil=>cases hl
   |cons k ks =>
    unfold qkl at hk
    split at hk
    ·rename_i e;cases e
    ·rename_i k' ks' y j p keys e
     cases e
     simp only[Bool.and_eq_true,decide_eq_true_eq] at hk
     obtain⟨rfl,hk⟩:=hk
     exact pps_cons pe_str (qab a I h.1).1 (qiN ks es I hk (Nat.succ.inj hl) h.2)
    ·cases hk
theorem qfs {T:Tb} {Γ:Env}:∀(c:Bool) (ir:Exs) {C:Ctx} {X:Cx} {fc:Option Scope} {sc:Scope} {xs:List Expr} {pos:Pos},XOk T Γ C X fc sc→qar T ir fc sc xs=true→xs≠[]→PE X (.BoolOp (qgn c) xs pos) (tE C (qfR Γ c ir))
 |c,.nil,C,X,fc,sc,xs,pos,I,h,hn=>by
  unfold qar at h
  cases xs with
  |nil=>exact absurd rfl hn
  |cons _ _=>cases h
 |c,.cons a es,C,X,fc,sc,xs,pos,I,h,hn=>by
  unfold qar at h
  cases xs with
  |nil=>cases h
  |cons x xs =>
   simp only[Bool.and_eq_true] at h
   cases xs with
   |nil =>
    cases es with
    |nil=>exact qaS (qju (qab a I h.1).1) fun ρ=>by rw[qfR,qfR]<;>rfl
    |cons _ _=>have:=h.2;unfold qar at this;cases this
   |cons y ys=>exact qaS (qkR (qab a I h.1).1 (qfs c es I h.2 (by simp))) fun ρ=>by rw[qfR]<;>rfl
theorem qlH {T:Tb} {Γ:Env}:∀(ir:Exs) {C:Ctx} {X:Cx} {fc:Option Scope} {sc:Scope} {x:Option Expr},XOk T Γ C X fc sc→qkH T ir fc sc x=true→PO X x (tO C (evO Γ ir))
 |.nil,C,X,fc,sc,x,I,h=>by
  unfold qkH at h
  cases x with
  |none=>exact qj3 qhc fun ρ=>by rw[evO]
  |some _=>cases h
 |.cons a es,C,X,fc,sc,x,I,h=>by
  unfold qkH at h
  cases x with
  |none=>cases h
  |some x=>exact qj3 (qgJ (qab a I h).1) fun ρ=>by rw[evO]<;>rfl
theorem qcl {T:Tb} {Γ:Env}:∀(ir:Te) {C:Ctx} {X:Cx} {fc:Option Scope} {sc:Scope} {x:Expr},XOk T Γ C X fc sc→qge T ir fc sc x=true→PT X x (tT C (evT Γ ir))
 |.val e,C,X,fc,sc,x,I,h=>by
  unfold qge at h
  simp only[Bool.and_eq_true,Bool.or_eq_true] at h
  obtain⟨h1,h2⟩:=qab e I h.1
  rcases h.2 with q | q
  ·exact qeP (h2 q) fun ρ=>by rw[evT]
  ·exact qeP (qhL I.K h1 (qji q)) fun ρ=>by rw[evT]
 |.bop c ts,C,X,fc,sc,x,I,h=>by
  unfold qge at h
  split at h
  case h_2=>cases h
  simp only[Bool.and_eq_true,decide_eq_true_eq,Bool.not_eq_true'] at h
  obtain⟨⟨rfl,hx⟩,he⟩:=h
  exact qeP (qfN c ts I he (by rintro rfl;cases hx)).pt fun ρ=>by rw[evT]
 |.not t,C,X,fc,sc,x,I,h=>by
  unfold qge at h
  split at h
  case h_2=>cases h
  exact qeP (qhT (qcl t I h)) fun ρ=>by rw[evT]
theorem qfN {T:Tb} {Γ:Env}:∀(c:Bool) (ir:Tes) {C:Ctx} {X:Cx} {fc:Option Scope} {sc:Scope} {xs:List Expr} {pos:Pos},XOk T Γ C X fc sc→qeN T ir fc sc xs=true→xs≠[]→PW X (.BoolOp (qgn c) xs pos) (tT C (qda Γ c ir))
 |c,.nil,C,X,fc,sc,xs,pos,I,h,hn=>by
  unfold qeN at h
  cases xs with
  |nil=>exact absurd rfl hn
  |cons _ _=>cases h
 |c,.cons a es,C,X,fc,sc,xs,pos,I,h,hn=>by
  unfold qeN at h
  cases xs with
  |nil=>cases h
  |cons x xs =>
   simp only[Bool.and_eq_true] at h
   cases xs with
   |nil =>
    cases es with
    |nil=>exact qjE (qjd (qcl a I h.1)) fun ρ=>by rw[qda,qda]
    |cons _ _=>have:=h.2;unfold qeN at this;cases this
   |cons y ys=>exact qjE (qkK (qcl a I h.1) (qfN c es I h.2 (by simp))) fun ρ=>by rw[qda]
theorem qfr {T:Tb} {Γ:Env}:∀(ir:Tes) {C:Ctx} {X:Cx} {fc:Option Scope} {sc:Scope} {xs:List Expr},XOk T Γ C X fc sc→qgI T ir fc sc xs=true→PTs X xs (tT C (qda Γ true ir))
 |.nil,C,X,fc,sc,xs,I,h=>by
  unfold qgI at h
  cases xs with
  |nil =>
   refine⟨fun pins s σ H Q J q=>pts_nil.run pins s σ H Q J ?_⟩
   obtain⟨ρ,P,N,S,q⟩:=q
   rw[qda] at q
   exact q.now S.reg
  |cons _ _=>cases h
 |.cons t ts,C,X,fc,sc,xs,I,h=>by
  unfold qgI at h
  split at h
  case h_2=>cases h
  simp only[Bool.and_eq_true] at h
  cases ts with
  |cons _ _=>have:=h.2;cases this
  |nil =>
   have p:=qcl t I h.1
   refine⟨fun pins s σ H Q J q=>(pts_one p).run pins s σ H Q J ?_⟩
   obtain⟨ρ,P,N,S,q⟩:=q
   rw[qda,qda] at q
   refine⟨ρ,P,N,S,q.bind.mono fun k P1 N1 H1 e a1 h1=>?_⟩
   split at h1
   ·rename_i e;subst e;exact h1.now (S.adv a1).reg
   ·exact h1.now (S.adv a1).reg
theorem qfu {T:Tb} {Γ:Env}:∀(ir:Itx) {C:Ctx} {X:Cx} {fc:Option Scope} {sc:Scope} {t x:Expr},XOk T Γ C X fc sc→qg0 T ir fc sc t x=true→PI X t x (tI C (evI Γ ir))
 |.any e,C,X,fc,sc,t,x,I,h=>by
  unfold qg0 at h
  exact qdi (qhW I.K (qab e I h).1) fun ρ=>by rw[evI]
 |.rng es,C,X,fc,sc,t,x,I,h=>by
  unfold qg0 at h
  split at h
  case h_2=>cases h
  rename_i r p xs q
  simp only[Bool.and_eq_true,decide_eq_true_eq] at h
  obtain⟨⟨⟨⟨rfl,hg⟩,he⟩,hs⟩,hl⟩:=h
  have m2:=I.blt "range" (by decide)
  have pa:=qa5 es I he hs
  rcases hl with hl | hl | hl
  ·obtain⟨a,rfl⟩:=qik hl
   simp only[List.all_cons,Bool.and_eq_true] at hs
   exact qdi (qgH (qbc I.sc hg) m2 pa (fun ρ r e=>qaY es ρ r _ he e) (qaa hs.1)) fun ρ=>by rw[evI]
  ·obtain⟨a,b,rfl⟩:=qiO hl
   have hs':=hs
   simp only[List.all_cons,Bool.and_eq_true] at hs
   exact qdi (qgy (qbc I.sc hg) m2 pa (fun ρ r e=>qaY es ρ r _ he e) (by rw[qaa hs.1,qaa hs.2.1];rfl) (qaa hs.2.1)) fun ρ=>by rw[evI]
  ·obtain⟨a,b,c,rfl⟩:=qff hl
   simp only[List.all_cons,Bool.and_eq_true] at hs
   exact qdi (qgT (qbc I.sc hg) m2 pa (fun ρ r e=>qaY es ρ r _ he e) (qaa hs.1) (qbK (by simp[hs.2.1,hs.2.2.1]))) fun ρ=>by rw[evI]
 |.zp a b,C,X,fc,sc,t,x,I,h=>by
  unfold qg0 at h
  split at h
  case h_2=>cases h
  simp only[Bool.and_eq_true,decide_eq_true_eq] at h
  obtain⟨⟨⟨⟨⟨⟨rfl,hg⟩,ha⟩,hb⟩,hs⟩,hs2⟩,ht⟩:=h
  cases t<;>try cases ht
  exact qdi (qjO I.K (qbc I.sc hg) (I.blt _ (by decide)) (qab a I ha).1 (qab b I hb).1 (qaa hs) (qaa hs2) (qbK (by simp[hs2]))) fun ρ=>by rw[evI]<;>rfl
 |.en a,C,X,fc,sc,t,x,I,h=>by
  unfold qg0 at h
  split at h
  case h_2=>cases h
  simp only[Bool.and_eq_true,decide_eq_true_eq] at h
  obtain⟨⟨⟨⟨rfl,hg⟩,ha⟩,hs⟩,ht⟩:=h
  cases t<;>try cases ht
  exact qdi (qjw I.K (qbc I.sc hg) (I.blt _ (by decide)) (qab a I ha).1 (qaa hs)) fun ρ=>by rw[evI]<;>rfl
 |.rv a,C,X,fc,sc,t,x,I,h=>by
  unfold qg0 at h
  split at h
  case h_2=>cases h
  simp only[Bool.and_eq_true,decide_eq_true_eq] at h
  obtain⟨⟨⟨rfl,hg⟩,ha⟩,hs⟩:=h
  exact qdi (qjn I.K (qbc I.sc hg) (I.blt _ (by decide)) (qab a I ha).1 (qaa hs)) fun ρ=>by rw[evI]<;>rfl
 |.rvr a,C,X,fc,sc,t,x,I,h=>by
  unfold qg0 at h
  split at h
  case h_2=>cases h
  simp only[Bool.and_eq_true,decide_eq_true_eq] at h
  obtain⟨⟨⟨⟨⟨rfl,rfl⟩,hg⟩,hg2⟩,ha⟩,hs⟩:=h
  exact qdi (qhZ (qbc I.sc hg) (I.blt _ (by decide)) (qbc I.sc hg2) (I.blt _ (by decide)) (qab a I ha).1 (qaa hs)) fun ρ=>by rw[evI]<;>rfl
end
end Cm
namespace Cm
open PySem PySem.Spec PyProof.Rows L2
variable [HasT]
section
variable {C:Ctx} {X:Cx}
variable {P N H H0 P1 N1 H1:Hp}
theorem ERs.get:∀{es:List ER} {vs:List V} {i:Nat} {e:ER},ERs C P N H H0 es vs→es[i]? = some e→∃v,vs[i]? = some v∧ERr C P N H H0 e v
 |[],_,i,_,_,e=>by simp at e
 |x::es,_,0,e,⟨v,r,q,h1,h2⟩,e1=>by
  subst q
  simp at e1;subst e1
  exact⟨v,rfl,h1⟩
 |x::es,_,i+1,e,⟨v,r,q,h1,h2⟩,e1=>by
  subst q
  obtain⟨u,e2,k⟩:=ERs.get (i:=i) h2 (by simpa using e1)
  exact⟨u,by simpa using e2,k⟩
theorem ERs.length:∀{es:List ER} {vs:List V},ERs C P N H H0 es vs→vs.length=es.length
 |[],_,h=>by cases h;rfl
 |x::es,_,⟨v,r,q,h1,h2⟩=>by subst q;rw[List.length_cons,List.length_cons,ERs.length h2]
end
end Cm
namespace Cm
open PySem PySem.Spec PyProof.Rows L2
variable [HasT]
def swB (sc:Scope) (x:Str) (pn:Pos) (v:Expr):Bool:=match v with
 |.ListComp _ _ scope pos=>decide (sc.names.lookup x≠some .local)||(match sc.kind with
  |.function=>true
  |_=>false)&&decide (sc.names.lookup x=some .local)&&(pn.line == pos.line) && !(scope.names.any fun(n,k)=>n == x&&(k == .local||k == .cell))
 |.SetComp _ _ _ _=>false
 |.DictComp _ _ _ _ _=>false
 |_=>true
def qjj:Ex→Bool
 |.lc _ _ _ _ _=>true
 |_=>false
def qhh:Expr→Bool
 |.Tuple _ _ _=>false
 |_=>true
def ql9 (T:Tb) (sc:Scope):List Nat→List Expr→Nat→Bool
 |[],[],_=>true
 |i::is,.Name x p::es,l=>decide (T.N[i]? = some x)&&decide (sc.names.lookup x=some .local)&&(p.line == l)&&ql9 T sc is es l
 |_,_,_=>false
def qjr (T:Tb) (sc:Scope):Tr→List Stmt→Bool
 |.ex e,ss=>match ss with
  |[.Expr v _]=>qao T e none sc v&&qbg v
  |_=>false
 |.as j e,ss=>match ss with
  |[.Assign [.Name x pn] v _]=>decide (T.N[j]? = some x)&&tgB none sc x&&qao T e none sc v&&(if qjj e then swB sc x pn v else qbg v)
  |_=>false
 |.iff t a b,ss=>match ss with
  |[.If c xs ys _]=>qge T t none sc c&&qjr T sc a xs&&qjr T sc b ys
  |_=>false
def qeW (T:Tb) (sc:Scope):Pth→Expr→Bool
 |.var j,e=>match e with
  |.Name x _=>decide (T.N[j]? = some x)&&qeL sc x&&nmB x
  |_=>false
 |.ix p k,e=>match e with
  |.Subscript a (.Constant (.int m) _ _) _=>decide (m=(k:Int))&&qeW T sc p a
  |_=>false
def qeI (T:Tb) (sc:Scope):Ch1→Stmt→Bool
 |.clr p,s=>match s with
  |.Expr (.Call (.Attribute o mn apos) [] [] cpos) _=>decide (mn=("clear" : Str))&&qeW T sc p o&&(apos.endLine == cpos.line)
  |_=>false
 |.app p e,s=>match s with
  |.Expr (.Call (.Attribute o mn apos) [y] [] cpos) _=>decide (mn=("append" : Str))&&qeW T sc p o&&(apos.endLine == cpos.line)&&qao T e none sc y&&qac y
  |_=>false
 |.put p k e,s=>match s with
  |.Assign [.Subscript o (.Constant (.int m) _ _) _] v _=>decide (m=(k:Int))&&qeW T sc p o&&qao T e none sc v
  |_=>false
def qgG (T:Tb) (sc:Scope):List Ch1→List Stmt→Bool
 |[],[]=>true
 |c::cs,s::ss=>qeI T sc c s&&qgG T sc cs ss
 |_,_=>false
def qbJ (T:Tb) (sc:Scope):Ch→List Stmt→Bool
 |.nil,ss=>ss.isEmpty
 |.one c r,ss=>match ss with
  |s::ss=>qeI T sc c s&&qbJ T sc r ss
  |[]=>false
 |.wlk l p b r,ss=>match ss with
  |.For (.Name x _) iter body [] _::ss=>decide (T.N[l]? = some x)&&tgB none sc x&&qeW T sc p iter&&qgG T sc b body&&qbJ T sc r ss
  |_=>false
 |.ifs j b r,ss=>match ss with
  |.If (.Compare (.Name x _) [.IsNot] [.Constant .none _ _] _) body [] _::ss=>decide (T.N[j]? = some x)&&qeL sc x&&nmB x&&qbJ T sc b body&&qbJ T sc r ss
  |_=>false
 |.ifl p b r,ss=>match ss with
  |.If (.Call (.Name x _) [y,.Name n _] [] _) body [] _::ss=>decide (x=("isinstance" : Str))&&decide (n=tyN .list)&&glB sc "isinstance" && glB sc (tyN .list)&&qeW T sc p y&&qac y&&qbJ T sc b body&&qbJ T sc r ss
  |_=>false
def qgb (T:Tb) (sc:Scope) (i f:Nat) (es:Exs):Stmt→Bool
 |.Assign [.Name x _] (.Call (.Name g _) xs [] _) _=>decide (T.N[i]? = some x)&&tgB none sc x&&decide (T.fn[f]? = some (g,xs.length))&&glB sc g&&nmB g&&qar T es none sc xs&&xs.all qac
 |_=>false
mutual
def qcb (T:Tb) (sc:Scope):Sm→Stmt→Bool
 |.nev,_=>true
 |.asg i e,s=>match s with
  |.Assign [.Name x pn] v _=>decide (T.N[i]? = some x)&&tgB none sc x&&qao T e none sc v&&(if qjj e then swB sc x pn v else qbg v)
  |_=>false
 |.own i e,s=>match s with
  |.Assign [.Name x pn] v _=>decide (T.N[i]? = some x)&&tgB none sc x&&qao T e none sc v&&(if qjj e then swB sc x pn v else qbg v)
  |_=>false
 |.asgT tg e,s=>match s with
  |.Assign [t] v _=>qd4 T none sc tg t&&qeJ t&&qao T e none sc v&&qhh v
  |_=>false
 |.put i ix e,s=>match s with
  |.Assign [.Subscript (.Name x _) y _] v _=>decide (T.N[i]? = some x)&&qeL sc x&&nmB x&&qb1 y&&qao T ix none sc y&&qao T e none sc v
  |_=>false
 |.app i e,s=>match s with
  |.Expr (.Call (.Attribute (.Name x _) mn apos) [y] [] cpos) _=>decide (T.N[i]? = some x)&&qeL sc x&&nmB x&&decide (mn=("append" : Str))&&qao T e none sc y&&qac y&&(apos.endLine == cpos.line)
  |_=>false
 |.ext i e,s=>match s with
  |.Expr (.Call (.Attribute (.Name x _) mn apos) [y] [] cpos) _=>decide (T.N[i]? = some x)&&qeL sc x&&nmB x&&decide (mn=("extend" : Str))&&qao T e none sc y&&qac y&&(apos.endLine == cpos.line)
  |_=>false
 |.clr i,s=>match s with
  |.Expr (.Call (.Attribute (.Name x _) mn apos) [] [] cpos) _=>decide (T.N[i]? = some x)&&qeL sc x&&nmB x&&decide (mn=("clear" : Str))&&(apos.endLine == cpos.line)
  |_=>false
 |.expr e,s=>match s with
  |.Expr v _=>qao T e none sc v&&qbg v
  |_=>false
 |.ret e,s=>match s with
  |.Return (some v) _=>qao T e none sc v
  |_=>false
 |.retN,s=>match s with
  |.Return none _=>true
  |_=>false
 |.pas,s=>match s with
  |.Pass _=>true
  |.Expr (.Constant (.str _) _ _) _=>true
  |_=>false
 |.brk,s=>match s with
  |.Break _=>true
  |_=>false
 |.cnt,s=>match s with
  |.Continue _=>true
  |_=>false
 |.iff c a b,s=>match s with
  |.If t xs ys _=>qge T c none sc t&&qap T sc a xs&&qap T sc b ys
  |_=>false
 |.for it tg b,s=>match s with
  |.For t iter body [] _=>qg0 T it none sc t iter&&qd4 T none sc tg t&&qap T sc b body&&qen iter
  |_=>false
 |.ins i ix e,s=>match s with
  |.Expr (.Call (.Attribute (.Name x _) mn apos) [y,z] [] cpos) _=>decide (T.N[i]? = some x)&&qeL sc x&&nmB x&&decide (mn=("insert" : Str))&&qao T ix none sc y&&qac y&&qao T e none sc z&&qac z&&(apos.endLine == cpos.line)
  |_=>false
 |.row i es,s=>match s with
  |.Assign [.Name x _] (.List xs _) _=>decide (T.N[i]? = some x)&&tgB none sc x&&qar T es none sc xs&&xs.all qac
  |_=>false
 |.rowc i f es,s=>qgb T sc i f es s
 |.rz a b i e c,s=>match s with
  |.For t (.Call (.Name z _) [.Name x _,y] [] _) [.If cd [.Return (some v) _] [] _,.Expr (.Call (.Attribute (.Name w _) mn apos) [] [] cpos) _] [] _=>decide (z=("zip" : Str))&&glB sc "zip" && decide (T.N[i]? = some x)&&qeL sc x&&nmB x&&qao T e none sc y&&qac y&&qeJ t&&qd4 T none sc [a,b] t&&qge T c none sc cd&&qao T (.cbl false) none sc v&&decide (T.N[a]? = some w)&&qeL sc w&&nmB w&&decide (mn=("clear" : Str))&&(apos.endLine == cpos.line)
  |_=>false
 |.rdr i e,s=>match s with
  |.Expr (.Call (.Attribute (.Name x _) mn apos) [y] [] cpos) _=>decide (T.N[i]? = some x)&&qeL sc x&&nmB x&&decide (mn=("append" : Str))&&qao T e none sc y&&qac y&&(apos.endLine == cpos.line)
  |_=>false
 |.whl c b,s=>match s with
  |.While t body [] _=>qge T c none sc t&&qap T sc b body
  |_=>false
def qap (T:Tb) (sc:Scope):Sms→List Stmt→Bool
 |.nil,ss=>ss.isEmpty
 |.cons s ir,ss=>match ss with
  |st::ss=>qcb T sc s st&&qap T sc ir ss
  |[]=>false
 |.frz _ ir,ss=>qap T sc ir ss
 |.hav i f es rd cs ir,ss=>match ss with
  |st::ss=>qgb T sc i f es st&&qap T sc rd (ss.take rd.len)&&qbJ T sc cs ((ss.drop rd.len).take cs.len)&&qap T sc ir ((ss.drop rd.len).drop cs.len)
  |[]=>false
end
theorem qgX {T:Tb} {own:List Nat} {it:Itx} {tg:List Nat} {cnd:Tes} {e':Ex} {fc:Option Scope} {sc:Scope} {v:Expr} (h:qao T (.lc own it tg cnd e') fc sc v=true):∃elt tgt iter ifs scope p,v=.ListComp elt [⟨tgt,iter,ifs,0⟩] scope p:=by
 unfold qao at h
 split at h
 case h_2=>cases h
 exact⟨_,_,_,_,_,_,rfl⟩
theorem qg7 {elt:Expr} {gs:List Comprehension} {scope:Scope} {pos py:Pos} {y:Str} {l:Nat} {env:PySem.Env} (hy:env.scope.names.lookup y≠some .local):swapsWith (.ListComp elt gs scope pos) (some (.Name y py)) l env=pure false:=by
 have ky:(env.kindOf y == some .local)=false:=beq_eq_false_iff_ne.mpr hy
 unfold swapsWith
 simp only[ky]
 simp
section
variable {T:Tb} {Γ:Env} {C:Ctx} {X:Cx} {sc:Scope}
theorem qfQ {i:Nat} {e:Ex} {x:Str} {pn pos:Pos} {v:Expr} (I:XOk T Γ C X none sc) (hi:T.N[i]? = some x) (ht:tgB none sc x=true) (hv:qao T e none sc v=true) (hw:(if qjj e then swB sc x pn v else qbg v)=true):PS X (.Assign [.Name x pn] v pos) (tAsg (tE C (ev Γ e)) (gName i)):=by
 obtain⟨h1,h2⟩:=qeh I ht
 cases e with
 |lc own it tg cnd e' =>
  obtain⟨elt,tgt,iter,ifs,scope,p,rfl⟩:=qgX hv
  have hv0:=hv
  unfold qao at hv
  simp only[Bool.and_eq_true] at hv
  obtain⟨⟨⟨⟨⟨⟨hb,hi'⟩,ht'⟩,hsub⟩,hc⟩,he⟩,hs⟩:=hv
  simp only[qjj,if_true,swB,Bool.or_eq_true,Bool.and_eq_true,decide_eq_true_eq,Bool.not_eq_true'] at hw
  rcases hw with hw | hw
  ·exact ps_set I.nd (by rw[I.nm];exact hi) h1 (qab (.lc own it tg cnd e') I hv0).1 (qg7 (by rw[I.sc];exact hw)) h2
  obtain⟨⟨⟨hk,hl⟩,hline⟩,hany⟩:=hw
  have hsub':∀i∈tg,i∈own:=fun i hi=>by simpa using List.all_eq_true.mp hsub i hi
  have hb':BlkOk X.N X.env.scope scope (own.map fun i=>(T.N.getD i Str.empty,i)):=by
   rw[I.nm,I.sc];exact blkOk_by hb
  have ho:((own.map fun i=>(T.N.getD i Str.empty,i)).map (·.2))=own:=by
   rw[List.map_map]
   exact List.map_id' own
  have hk':X.env.scope.kind=.function:=by
   rw[I.sc]
   cases e:sc.kind<;>simp_all
  have hl':X.env.scope.names.lookup x=some .local:=by rw[I.sc];exact hl
  have lc:=ps_setLc (i:=i) (y:=x) (py:=pn) (spos:=pos) (elt:=elt) (pos:=p) I.calm I.nd (by rw[I.nm];exact hi) hl' (sw_true hk' hl' hline hany) (qfu it I hi') hb' (fun s H Cd cl fp=>qb3 (I.blk (s:=s) (H:=H) (cl:=cl) (A:=Cd) (fp:=fp)) ht') (fun s H Cd cl fp=>qfr cnd (I.blk (s:=s) (H:=H) (cl:=cl) (A:=Cd) (fp:=fp)) hc) (fun s H Cd cl fp=>(qab e' (I.blk (s:=s) (H:=H) (cl:=cl) (A:=Cd) (fp:=fp)) he).1) (qc5 hs)
  rw[ho] at lc
  refine qaf lc fun D σ H q=>?_
  have eg:(ev Γ (.lc own it tg cnd e'))=gLc own tg (evI Γ it) (qda Γ true cnd) (ev Γ e'):=by funext ρ;rw[ev]<;>rfl
  unfold tAsg at q ⊢
  rw[eg] at q
  exact qhy hsub' q
 |_ =>
  have hc:qbg v=true:=hw
  exact ps_set I.nd (by rw[I.nm];exact hi) h1 (qab _ I hv).1 (qdH hc) h2
theorem qev {x y:Expr} {p:Pos} {v:Expr} {l:Nat} {env:PySem.Env}:swapsWithSole [.Subscript x y p] v l env=pure false:=by
 cases v<;>rfl
theorem qcD {x y:Expr} {p:Pos} {v:Expr} {env:PySem.Env}:swappedStores [.Subscript x y p] v env=pure none:=by
 cases v<;>rfl
theorem qfe {t v:Expr} {env:PySem.Env} (h:qhh v=true):swappedStores [t] v env=pure none:=by
 cases v<;>first | (cases t<;>rfl) | cases h
theorem qfZ {x y:Expr} {p:Pos} {env:PySem.Env} (h:qb1 y=true) (v:Value):assign (.Subscript x y p) env v=(do
   let ov ←holding [v] (eval x env)
   let iv ←holding [v,ov] (eval y env)
   standAt p
   holding [v,ov,iv] (setItem ov iv v)
   release [v,ov,iv] []):=by
 cases y<;>first | rfl | cases h
theorem qgL {t v:Expr} {l:Nat} {env:PySem.Env} (h:qeJ t=true):swapsWithSole [t] v l env=pure false:=by
 cases t<;>first | (cases h;done) | (cases v<;>rfl)
theorem qhA {t:Expr} {env:PySem.Env} (h:qeJ t=true):(assignEach [t] env).map (·.2)=[assign t env]:=by
 cases t<;>first | rfl | cases h
theorem qhP {e f:Expr} {env:PySem.Env} {cpos:Pos} (h:qac e=true) (k:qac f=true):((backTo cpos (starEach [e,f] env)).all (fun x=>!x.1)&&(backToKw cpos (keywordEach [] env)).all (fun x=>x.1.isSome)
   && decide ([e,f].length+([]:List Keyword).length+(if ([]:List Keyword).isEmpty then 0 else 1)<30))=true:=by
 rw[qaa h,qaa k];rfl
theorem qiW {e:Expr} {env:PySem.Env} {cpos:Pos} (h:qac e=true):((backTo cpos (starEach [e] env)).any fun x=>x.1)=false:=by
 rw[qaa h];rfl
theorem qc0 {e:Expr} {env:PySem.Env} {cpos:Pos} (h:qac e=true):((backTo cpos (starEach [e] env)).all (fun x=>!x.1)&&(backToKw cpos (keywordEach [] env)).all (fun x=>x.1.isSome)
   && decide ([e].length+([]:List Keyword).length+(if ([]:List Keyword).isEmpty then 0 else 1)<30))=true:=by
 rw[qaa h];rfl
end
section
variable {T:Tb} {Γ:Env} {C:Ctx} {X:Cx} {sc:Scope}
end
end Cm
namespace Cm
open PySem PySem.Spec PyProof.Rows L2
variable [HasT]
abbrev TL:=Addr→Option (List V)
def LT (T:TL):Addr→List V→Prop:=fun a xs=>T a=some xs
def qfb:V→Bool
 |.ref _=>true
 |_=>false
def clV (xs:List V):Nat:=if xs.isEmpty then 0 else if xs.any qfb then 2 else 1
section
variable {G:Glo} {P:Hp} {LN:Addr→List V→Prop}
theorem qfc:∀{d:D} {v:V},Rep G P LN d v→qfb v=d.isRef:=fun {d v} h=>by
 cases d with
 |non=>cases h;rfl
 |bl b=>cases h;rfl
 |int i=>cases h;rfl
 |str s=>cases h;rfl
 |lst ds=>obtain⟨a,xs,rfl,_⟩:=h;rfl
 |tup ds=>obtain⟨a,xs,rfl,_⟩:=h;rfl
 |ins c ds=>obtain⟨a,dx,xs,rfl,_⟩:=h;rfl
 |exc c fs=>obtain⟨_,a,rfl,_⟩:=h;rfl
theorem qet:∀{ds:List D} {vs:List V},Reps G P LN ds vs→vs.any qfb=ds.any D.isRef
 |[],_,h=>by cases h;rfl
 |d::ds,vs,⟨v,r,e,h1,h2⟩=>by
  subst e
  rw[List.any_cons,List.any_cons,qfc h1,qet h2]
theorem qbv {ds:List D} {vs:List V} (h:Reps G P LN ds vs):clV vs=clD ds:=by
 unfold clV clD
 rw[qet h]
 have hl:=h.length
 have:vs.isEmpty=ds.isEmpty:=by
  cases vs<;>cases ds<;>first | rfl | cases hl
 rw[this]
end
section
variable (C:Ctx)
structure Raw (P N H:Hp) (ρ:List Sl) (σ:L2.St) (T:TL) (Z:Zs) (τ:List (Nat × D)):Prop where
 sr:SR C P N H ρ σ
 h:∀a xs,T a=some xs→∃ys,H a=some (.lst ys)∧(clV xs∉Z.1→ys=xs)∧ys.length≤xs.length+Z.2
 o:∀a xs,T a=some xs→P a=none∧N a=none∧C.B a=none
 ow:∀(j:Nat) (ds:List Cm.D) (b:Bool) (p:Addr),ρ[j]? = some (.own ds b)→σ[j]? = some (some (.ref p))→T p=none
 tr:∀(j:Nat) (d:Cm.D),(j,d)∈τ→ρ[j]? = some .non∧∃v,σ[j]? = some (some v)∧Rep C.G P (LT T) d v
 nr:∀(j:Nat) (s:Sl),ρ[j]? = some s→s.isW=false
end
section
variable {C:Ctx} {P N H P' N' H':Hp} {ρ:List Sl} {σ:L2.St} {T:TL} {Z:Zs} {τ:List (Nat × D)}
theorem Raw.sub {τ':List (Nat × D)} (h:Raw C P N H ρ σ T Z τ) (hs:∀e∈τ',e∈τ):Raw C P N H ρ σ T Z τ':=⟨h.sr,h.h,h.o,h.ow,fun j d m=>h.tr j d (hs _ m),h.nr⟩
theorem Raw.adv (h:Raw C P N H ρ σ T Z τ) (a:Adv P N H P' N' H'):Raw C P' N' H' ρ σ T Z τ where
 sr:=h.sr.adv a
 h:=fun b xs e=>by
  obtain⟨ys,h1,h2⟩:=h.h b xs e
  exact⟨ys,a.hh _ _ h1,h2⟩
 o:=fun b xs e=>by
  obtain⟨ys,h1,_⟩:=h.h b xs e
  obtain⟨o1,o2,o3⟩:=h.o b xs e
  exact⟨a.off h1 o1,a.offN h1 o2,o3⟩
 ow:=h.ow
 tr:=fun j d m=>by
  obtain⟨h1,v,h2,h3⟩:=h.tr j d m
  exact⟨h1,v,h2,Rep.mono a.pp d v (fun _ _ q=>q) h3⟩
 nr:=h.nr
theorem Raw.write {Z':Zs} {a:Addr} {xs ys:List V} (h:Raw C P N H ρ σ T Z τ) (e:T a=some xs) (hz:∀k,k∈Z.1→k∈Z'.1) (hc:clV xs∈Z'.1) (hn:Z.2≤Z'.2) (hl:ys.length≤xs.length+Z'.2):Raw C P N (upd H a (.lst ys)) ρ σ T Z' τ:=by
 obtain⟨o1,o2,o3⟩:=h.o a xs e
 obtain⟨zs,z1,_⟩:=h.h a xs e
 refine⟨⟨⟨qaj h.sr.reg.pH o1,qaj h.sr.reg.nH o2,qaj h.sr.reg.bH o3,h.sr.reg.rB,h.sr.reg.p0,h.sr.reg.pn,h.sr.reg.nw,h.sr.reg.dj,qbE z1 h.sr.reg.tb,h.sr.reg.tf⟩,h.sr.len,fun j s ej=>?_,h.sr.ap,h.sr.ad,AR.no h.nr⟩,fun b us eb=>?_,h.o,h.ow,h.tr,h.nr⟩
 ·obtain⟨o,y1,y2⟩:=h.sr.sl j s ej
  refine⟨o,y1,?_⟩
  cases s with
  |non=>trivial
  |val d b=>exact y2
  |own es c =>
   obtain⟨r,vs,rfl,y4,y5⟩:=y2
   have hr:r≠a:=fun er=>by
    have:=h.ow j es c r ej y1
    rw[er,e] at this;cases this
   exact⟨r,vs,rfl,by rw[upd_ne hr];exact y4,y5⟩
  |slf c fs =>
   obtain⟨r,dx,vs,y3,y4,y5⟩:=y2
   have hr:r≠a:=fun er=>by rw[er,z1] at y4;cases y4
   exact⟨r,dx,vs,y3,by rw[upd_ne hr];exact y4,y5⟩
  |fxd d k=>exact y2
  |dct m c =>
   obtain⟨r,es,y3,y4,y5⟩:=y2
   have hr:r≠a:=fun er=>by rw[er,z1] at y4;cases y4
   exact⟨r,es,y3,by rw[upd_ne hr];exact y4,y5⟩
  |row dss=>have:=h.nr j _ ej;cases this
 ·by_cases q:b=a
  ·subst q
   rw[e] at eb;cases eb
   exact⟨ys,upd_same,fun hk=>absurd hc hk,hl⟩
  ·obtain⟨vs,h1,h2,h3⟩:=h.h b us eb
   exact⟨vs,by rw[upd_ne q];exact h1,fun hk=>h2 fun hk'=>hk (hz _ hk'),by omega⟩
theorem Raw.bind {l:Nat} {d:D} {v:V} (h:Raw C P N H ρ σ T Z τ) (hl:ρ[l]? = some .non) (r:Rep C.G P (LT T) d v):Raw C P N H ρ (σ.set l (some v)) T Z ((l,d)::drp l τ) where
 sr:=by
  refine⟨h.sr.reg,by rw[List.length_set];exact h.sr.len,fun j s ej=>?_,fun i j p ds b es c e1 e2 e3 e4=>?_,h.sr.ad.sub fun j m b e=>⟨List.getElem?_set_ne (fun q=>by subst q;rw[hl] at e;cases e),_,_,e⟩,AR.no h.nr⟩
  ·by_cases q:l=j
   ·subst q
    rw[hl] at ej;cases ej
    have hlt:l<σ.length:=by rw[h.sr.len];exact(List.getElem?_eq_some_iff.mp hl).1
    exact⟨some v,List.getElem?_set_self hlt,trivial⟩
   ·rw[List.getElem?_set_ne q];exact h.sr.sl j s ej
  ·have n1:l≠i:=fun q=>by subst q;rw[hl] at e1;cases e1
   have n2:l≠j:=fun q=>by subst q;rw[hl] at e2;cases e2
   rw[List.getElem?_set_ne n1] at e3
   rw[List.getElem?_set_ne n2] at e4
   exact h.sr.ap i j p ds b es c e1 e2 e3 e4
 h:=h.h
 o:=h.o
 ow:=fun j ds b p e1 e2=>by
  have n1:l≠j:=fun q=>by subst q;rw[hl] at e1;cases e1
  rw[List.getElem?_set_ne n1] at e2
  exact h.ow j ds b p e1 e2
 tr:=fun j e m=>by
  rcases List.mem_cons.mp m with m | m
  ·cases m
   have hlt:l<σ.length:=by rw[h.sr.len];exact(List.getElem?_eq_some_iff.mp hl).1
   exact⟨hl,v,List.getElem?_set_self hlt,r⟩
  ·have m':=List.mem_filter.mp m
   have n1:l≠j:=fun q=>by subst q;simp at m'
   obtain⟨h1,u,h2,h3⟩:=h.tr j e m'.1
   exact⟨h1,u,by rw[List.getElem?_set_ne n1];exact h2,h3⟩
 nr:=h.nr
theorem qbR {j:Nat} {d:D}:∀{τ:List (Nat × D)},τ.lookup j=some d→(j,d)∈τ
 |[],h=>by cases h
 |(k,e)::τ,h=>by
  rw[List.lookup_cons] at h
  by_cases q:j=k
  ·subst q
   simp at h
   subst h
   exact List.mem_cons_self
  ·have:(j == k)=false:=by simpa using q
   rw[this] at h
   exact List.mem_cons_of_mem _ (qbR h)
def tP (C:Ctx) (p:Pth):TE:=fun σ H Q=>∃P N ρ T Z τ d,Raw C P N H ρ σ T Z τ∧qgk τ Z p=some d∧∀v,Rep C.G P (LT T) d v→Q v H
end
theorem qfd {α:Type} {xs:List α} {k:Nat} {x:α} (h:xs[k]? = some x):atI xs (k:Int)=some x:=by
 have hk:=(List.getElem?_eq_some_iff.mp h).1
 unfold atI ixN
 have h1:(0:Int)≤k∧(k:Int)<xs.length:=⟨by omega,by omega⟩
 simp[h1,h]
mutual
theorem qeb {Γ:Env}:∀(e:Ex),qc2 e=true→∀ρ,∃er,ev Γ e ρ=.ok er∧er.isB=false
 |.cint i,_,ρ=>⟨_,by rw[ev];rfl,rfl⟩
 |.cbl b,_,ρ=>⟨_,by rw[ev];rfl,rfl⟩
 |.tup es,h,ρ=>by
  rw[qc2] at h
  obtain⟨r,e1,e2⟩:=qdc es h ρ
  refine⟨.val (.tup (r.map ER.d)) (r.all ER.b),?_,rfl⟩
  rw[ev,e1,RE.bind_ok,dis,if_pos e2]
 |.lst es,h,ρ=>by
  rw[qc2] at h
  obtain⟨r,e1,e2⟩:=qdc es h ρ
  refine⟨.fre (r.map ER.d) (r.all ER.b),?_,rfl⟩
  rw[ev,e1,RE.bind_ok,dis,if_pos e2]
 |.nev,h,_=>by simp[qc2] at h
 |.var _,h,_=>by simp[qc2] at h
 |.bin _ _ _,h,_=>by simp[qc2] at h
 |.cmp _ _ _,h,_=>by simp[qc2] at h
 |.bop _ _,h,_=>by simp[qc2] at h
 |.bnot _,h,_=>by simp[qc2] at h
 |.idx _ _,h,_=>by simp[qc2] at h
 |.call _ _,h,_=>by simp[qc2] at h
 |.pri _ _,h,_=>by simp[qc2] at h
 |.isi _ _,h,_=>by simp[qc2] at h
 |.lc _ _ _ _ _,h,_=>by simp[qc2] at h
 |.inxL _ _,h,_=>by simp[qc2] at h
 |.pk _,h,_=>by simp[qc2] at h
theorem qdc {Γ:Env}:∀(es:Exs),qf3 es=true→∀ρ,∃r,evs Γ es ρ=.ok r∧r.all ER.isV=true
 |.nil,_,ρ=>⟨[],by rw[evs],rfl⟩
 |.cons e es,h,ρ=>by
  rw[qf3,Bool.and_eq_true] at h
  obtain⟨x,e1,e2⟩:=qeb e h.1 ρ
  obtain⟨r,e3,e4⟩:=qdc es h.2 ρ
  refine⟨x.frz::r,by rw[evs,e1,RE.bind_ok,e3,RE.bind_ok],?_⟩
  rw[List.all_cons,e4,Bool.and_true]
  cases x<;>first | rfl | cases e2
end
theorem qfh {G:Glo} {P:Hp} {LN:Addr→List V→Prop} {d:D} {v:V} (h:Rep G P LN d v):d.isNon=decide (v=.non):=by
 cases d with
 |non=>cases h;rfl
 |bl b=>cases h;rfl
 |int i=>cases h;rfl
 |str s=>cases h;rfl
 |lst ds=>obtain⟨a,xs,rfl,_⟩:=h;rfl
 |tup ds=>obtain⟨a,xs,rfl,_⟩:=h;rfl
 |ins c ds=>obtain⟨a,dx,xs,rfl,_⟩:=h;rfl
 |exc c fs=>obtain⟨_,a,rfl,_⟩:=h;rfl
section
variable {T:Tb} {Γ:Env} {C:Ctx} {X:Cx} {sc:Scope}
theorem qbM:∀{p:Pth} {e:Expr},qeW T sc p e=true→qen e=true∧qh6 e=true
 |.var j,e,h=>by
  unfold qeW at h
  split at h
  ·exact⟨rfl,rfl⟩
  ·cases h
 |.ix p k,e,h=>by
  unfold qeW at h
  split at h
  ·exact⟨rfl,rfl⟩
  ·cases h
theorem qcG (I:XOk T Γ C X none sc):∀(p:Pth) {e:Expr},qeW T sc p e=true→PE X e (tP C p)
 |.var j,e,h=>by
  unfold qeW at h
  split at h
  case h_2=>cases h
  simp only[Bool.and_eq_true,decide_eq_true_eq] at h
  obtain⟨⟨h1,h2⟩,h3⟩:=h
  obtain⟨n1,n2⟩:=qby h3
  refine qal (pe_var (i:=j) (by rw[I.nm];exact h1) (qbd I.sc h2) n1 n2) fun σ H Q q=>?_
  obtain⟨P,N,ρ,TT,Z,τ,d,R,e,k⟩:=q
  obtain⟨_,v,e2,r⟩:=R.tr j d (qbR (by simpa[qgk] using e))
  exact⟨v,e2,k v r⟩
 |.ix p k,e,h=>by
  unfold qeW at h
  split at h
  case h_2=>cases h
  simp only[Bool.and_eq_true,decide_eq_true_eq] at h
  obtain⟨rfl,h2⟩:=h
  refine qal (pe_ix ix_seq (qcG I p h2) pe_int (fun _ _=>rfl)) fun σ H Q q=>?_
  obtain⟨P,N,ρ,TT,Z,τ,d,R,e,kk⟩:=q
  rw[qgk] at e
  split at e
  ·rename_i ds e1
   refine⟨P,N,ρ,TT,Z,τ,_,R,e1,fun v r=>?_⟩
   obtain⟨a,xs,rfl,z1,z2⟩:=r
   obtain⟨u,q1,q2⟩:=z2.get e
   exact .inr (.inl ⟨a,xs,k,u,rfl,rfl,I.K ▸ Same.seqT R.sr.reg.pH z1,qfd q1,kk u q2⟩)
  ·rename_i ds e1
   split at e
   ·cases e
   ·rename_i hz
    refine⟨P,N,ρ,TT,Z,τ,_,R,e1,fun v r=>?_⟩
    obtain⟨a,xs,rfl,z1,z2⟩:=r
    obtain⟨u,q1,q2⟩:=z2.get e
    obtain⟨ys,y1,y2,_⟩:=R.h a xs z1
    have:=y2 (by rw[qbv z2];exact hz)
    subst this
    exact .inl ⟨a,ys,k,u,rfl,rfl,.inl (.inl y1),qfd q1,kk u q2⟩
  ·cases e
theorem qfH {τ:List (Nat × D)} {Z Z':Zs} {c:Ch1} (h:qeK τ Z c=some Z'):(∀k,k∈Z.1→k∈Z'.1)∧Z.2≤Z'.2:=by
 cases c with
 |clr p =>
  simp only[qeK] at h
  split at h
  ·cases h;exact⟨fun k hk=>List.mem_cons_of_mem _ hk,Nat.le_refl _⟩
  ·cases h
 |app p e =>
  simp only[qeK] at h
  split at h
  ·split at h
   ·cases h;exact⟨fun k hk=>List.mem_cons_of_mem _ hk,Nat.le_succ _⟩
   ·cases h
  ·cases h
 |put p k e =>
  simp only[qeK] at h
  split at h
  ·split at h
   ·cases h
   ·split at h
    ·cases h;exact⟨fun k hk=>List.mem_cons_of_mem _ hk,Nat.le_refl _⟩
    ·cases h
  ·cases h
theorem qdT {τ:List (Nat × D)}:∀{cs:List Ch1} {Z Z':Zs},qfU τ cs Z=some Z'→(∀k,k∈Z.1→k∈Z'.1)∧Z.2≤Z'.2
 |[],Z,Z',h=>by cases h;exact⟨fun _ h=>h,Nat.le_refl _⟩
 |c::cs,Z,Z',h=>by
  rw[qfU] at h
  cases e:qeK τ Z c with
  |none=>rw[e] at h;cases h
  |some Z1 =>
   rw[e] at h
   obtain⟨a1,a2⟩:=qfH e
   obtain⟨b1,b2⟩:=qdT (cs:=cs) h
   exact⟨fun k hk=>b1 k (a1 k hk),Nat.le_trans a2 b2⟩
theorem qcd {f:D→Zs→Option Zs} (hf:∀d Z Z',f d Z=some Z'→(∀k,k∈Z.1→k∈Z'.1)∧Z.2≤Z'.2):∀{ds:List D} {Z Z':Zs},qgF f ds Z=some Z'→(∀k,k∈Z.1→k∈Z'.1)∧Z.2≤Z'.2
 |[],Z,Z',h=>by cases h;exact⟨fun _ h=>h,Nat.le_refl _⟩
 |d::ds,Z,Z',h=>by
  rw[qgF] at h
  cases e:f d Z with
  |none=>rw[e] at h;cases h
  |some Z1 =>
   rw[e] at h
   obtain⟨a1,a2⟩:=hf _ _ _ e
   obtain⟨b1,b2⟩:=qcd hf (ds:=ds) h
   exact⟨fun k hk=>b1 k (a1 k hk),Nat.le_trans a2 b2⟩
def tC1 (C:Ctx) (c:Ch1):TS:=fun D σ H=>∃P N ρ T Z τ Z',Raw C P N H ρ σ T Z τ∧qeK τ Z c=some Z'∧∀P' N' H',Raw C P' N' H' ρ σ T Z' τ→Cm.Same P P'→Cm.Same N N'→D.nx σ H'
theorem qci {G:Glo} {P:Hp} {LN:Addr→List V→Prop} {ds:List D} {v:V} (h:Rep G P LN (.lst ds) v):∃a xs,v=.ref a∧LN a xs∧Reps G P LN ds xs:=h
theorem qfO (I:XOk T Γ C X none sc):∀(c:Ch1) {s:Stmt},qeI T sc c s=true→PS X s (tC1 C c)
 |.clr p,s,h=>by
  simp only[qeI] at h
  split at h
  case h_2=>cases h
  simp only[Bool.and_eq_true,decide_eq_true_eq] at h
  obtain⟨⟨rfl,h2⟩,h3⟩:=h
  refine qaf (ps_expr (pe_bm0 PySem.F.plainAttrs_list PySem.F.slot_list_clear PySem.F.type_list_clear mt_clear (qcG I p h2) (qec (qbM h2).2) h3) rfl) fun D σ H q=>?_
  obtain⟨P,N,ρ,TT,Z,τ,Z',R,e,k⟩:=q
  simp only[qeK] at e
  split at e
  ·rename_i ds e1
   cases e
   refine⟨P,N,ρ,TT,Z,τ,_,R,e1,fun v r=>?_⟩
   obtain⟨a,xs,rfl,z1,z2⟩:=qci r
   obtain⟨ys,y1,_⟩:=R.h a xs z1
   refine⟨.inl ⟨rfl,ys,.inl (.inl y1)⟩,a,ys,rfl,rfl,y1,k P N _ (R.write z1 (fun k hk=>List.mem_cons_of_mem _ hk) ?_ (Nat.le_refl _) (Nat.zero_le _)) (Cm.Same.refl _) (Cm.Same.refl _)⟩
   rw[qbv z2];exact List.mem_cons_self
  ·cases e
 |.app p ex,s,h=>by
  simp only[qeI] at h
  split at h
  case h_2=>cases h
  simp only[Bool.and_eq_true,decide_eq_true_eq] at h
  obtain⟨⟨⟨⟨rfl,h2⟩,h3⟩,h4⟩,h5⟩:=h
  refine qaf (ps_expr (pe_bm PySem.F.plainAttrs_list PySem.F.slot_list_append PySem.F.type_list_append mt_append (qcG I p h2) (pa_cons (qab ex I h4).1 pa_nil (qaa h5)) (qec (qbM h2).2) (qc0 h5) h3 (qaa h5) rfl) rfl) fun D σ H q=>?_
  obtain⟨P,N,ρ,TT,Z,τ,Z',R,e,k⟩:=q
  simp only[qeK] at e
  split at e
  ·rename_i ds e1
   split at e
   ·rename_i hc
    cases e
    simp only[Bool.and_eq_true,qai] at hc
    refine⟨P,N,ρ,TT,Z,τ,_,R,e1,fun v r=>?_⟩
    obtain⟨a,xs,rfl,z1,z2⟩:=qci r
    obtain⟨ys,y1,y2,y3⟩:=R.h a xs z1
    obtain⟨er,q1,q2⟩:=qeb (Γ:=Γ) ex hc.1 ρ
    refine⟨.inl ⟨rfl,ys,.inl (.inl y1)⟩,ρ,P,N,R.sr,?_⟩
    rw[q1]
    intro P1 N1 H1 a1 u ru
    have hl:=z2.length
    have h6:ys.length+1≤LIM:=by have:=hc.2;omega
    refine⟨a,ys,u,rfl,rfl,a1.hh _ _ y1,h6,?_⟩
    refine k P1 N1 _ ((R.adv a1).write z1 (fun k hk=>List.mem_cons_of_mem _ hk) ?_ (Nat.le_succ _) ?_) a1.pp a1.nn
    ·rw[qbv z2];exact List.mem_cons_self
    ·rw[List.length_append,List.length_singleton];show ys.length+1≤xs.length+(Z.2+1);omega
   ·cases e
  ·cases e
 |.put p m ex,s,h=>by
  simp only[qeI] at h
  split at h
  case h_2=>cases h
  simp only[Bool.and_eq_true,decide_eq_true_eq] at h
  obtain⟨⟨rfl,h2⟩,h4⟩:=h
  refine qaf (ps_asg (qab ex I h4).1 (pg_sub (qcG I p h2) pe_int set_list (qfZ rfl)) qev qcD rfl) fun D σ H q=>?_
  obtain⟨P,N,ρ,TT,Z,τ,Z',R,e,k⟩:=q
  simp only[qeK] at e
  split at e
  ·rename_i ds e1
   split at e
   ·cases e
   ·rename_i hz
    split at e
    ·rename_i hc
     cases e
     simp only[Bool.and_eq_true,decide_eq_true_eq] at hc
     obtain⟨er,q1,q2⟩:=qeb (Γ:=Γ) ex hc.1 ρ
     refine⟨ρ,P,N,R.sr,?_⟩
     rw[q1]
     intro P1 N1 H1 a1 u ru
     refine⟨P1,N1,ρ,TT,Z,τ,_,R.adv a1,e1,fun v r=>?_⟩
     obtain⟨a,xs,rfl,z1,z2⟩:=qci r
     obtain⟨ys,y1,y2,y3⟩:=(R.adv a1).h a xs z1
     have hy:=y2 (by rw[qbv z2];exact hz)
     subst hy
     have hl:=z2.length
     have hix:ixN ys.length (m:Int)=some m:=by
      unfold ixN
      rw[if_pos (by omega),if_pos (by omega)]
      simp
     refine⟨a,ys,m,m,rfl,rfl,y1,hix,k P1 N1 _ ((R.adv a1).write z1 (fun k hk=>List.mem_cons_of_mem _ hk) ?_ (Nat.le_refl _) ?_) a1.pp a1.nn⟩
     ·rw[qbv z2];exact List.mem_cons_self
     ·rw[List.length_set];exact Nat.le_add_right _ _
    ·cases e
  ·cases e
def tCL (C:Ctx) (cs:List Ch1):TS:=fun D σ H=>∃P N ρ T Z τ Z',Raw C P N H ρ σ T Z τ∧qfU τ cs Z=some Z'∧∀P' N' H',Raw C P' N' H' ρ σ T Z' τ→Cm.Same P P'→Cm.Same N N'→D.nx σ H'
theorem qf8 (I:XOk T Γ C X none sc):∀(cs:List Ch1) {ss:List Stmt},qgG T sc cs ss=true→PSs X ss (tCL C cs)
 |[],[],_=>qah pss_nil fun D σ H q=>by
  obtain⟨P,N,ρ,TT,Z,τ,Z',R,e,k⟩:=q
  cases e
  exact k P N H R (Cm.Same.refl _) (Cm.Same.refl _)
 |c::cs,s::ss,h=>by
  simp only[qgG,Bool.and_eq_true] at h
  refine qah (pss_cons (qfO I c h.1) (qf8 I cs h.2)) fun D σ H q=>?_
  obtain⟨P,N,ρ,TT,Z,τ,Z',R,e,k⟩:=q
  rw[qfU] at e
  cases e1:qeK τ Z c with
  |none=>rw[e1] at e;cases e
  |some Z1 =>
   rw[e1] at e
   exact⟨P,N,ρ,TT,Z,τ,Z1,R,e1,fun P1 N1 H1 R1 s1 s2=>⟨P1,N1,ρ,TT,Z1,τ,Z',R1,e,fun P2 N2 H2 R2 s3 s4=>k P2 N2 H2 R2 (s1.trans s3) (s2.trans s4)⟩⟩
 |[],_::_,h=>by cases h
 |_::_,[],h=>by cases h
end
end Cm
namespace Cm
open PySem PySem.Spec PyProof.Rows L2
variable [HasT]
section
variable {T:Tb} {Γ:Env} {C:Ctx} {X:Cx} {sc:Scope}
theorem qiK {l:Nat} {τ:List (Nat × D)}:drp l (drp l τ)=drp l τ:=by
 unfold drp
 rw[List.filter_filter]
 simp
theorem qh0 {l:Nat} {τ:List (Nat × D)} {e:Nat × D} (h:e∈drp l τ):e∈τ:=(List.mem_filter.mp h).1
theorem qem {ls:List Nat} {τ:List (Nat × D)} {e:Nat × D} (h:e∈qeV ls τ):e∈τ:=(List.mem_filter.mp h).1
theorem qgr {l:Nat} {ls:List Nat} {τ:List (Nat × D)} {e:Nat × D} (h:e∈qeV (l::ls) τ):e∈qeV ls (drp l τ):=by
 unfold qeV drp at *
 rw[List.filter_filter]
 have:=List.mem_filter.mp h
 refine List.mem_filter.mpr ⟨this.1,?_⟩
 simpa[not_or,and_comm] using this.2
theorem qcU {l ls:List Nat} {τ:List (Nat × D)} {e:Nat × D} (h:e∈qeV (l++ls) τ):e∈qeV ls (qeV l τ):=by
 unfold qeV at *
 rw[List.filter_filter]
 have:=List.mem_filter.mp h
 refine List.mem_filter.mpr ⟨this.1,?_⟩
 simpa[not_or,and_comm] using this.2
theorem qh8 (hK:X.K=C.G.K) {l:Nat} {p:Pth} {b:List Ch1} {D:Ends} {σ:L2.St} {H:Hp} {P N:Hp} {ρ:List Sl} {TT:TL} {Z Z1:Zs} {τ:List (Nat × Cm.D)} {ds:List Cm.D} (R:Raw C P N H ρ σ TT Z τ) (hl:ρ[l]? = some .non)
  (e:qgk τ Z p=some (.lst ds)) (ew:qgF (fun d Z=>qfU ((l,d)::drp l τ) b Z) ds Z=some Z1) (hz:clD ds∉Z1.1)
  (k:∀σ' P' N' H',Raw C P' N' H' ρ σ' TT Z1 (drp l τ)→Cm.Same P P'→Cm.Same N N'→D.nx σ' H'):tFor (qkS X.K (tP C p)) (gName l) (tCL C b) D σ H:=by
 have hm:∀d Z Z',qfU ((l,d)::drp l τ) b Z=some Z'→(∀k,k∈Z.1→k∈Z'.1)∧Z.2≤Z'.2:=fun d Z Z'=>qdT
 refine⟨P,N,ρ,TT,Z,τ,_,R,e,fun v r=>?_⟩
 obtain⟨a,xs,rfl,z1,z2⟩:=qci r
 have hlen:=z2.length
 have seq:∀{P' N' H':Hp} {σ':L2.St} {Z2:Zs} {τ':List (Nat × Cm.D)},Raw C P' N' H' ρ σ' TT Z2 τ'→(∀k,k∈Z2.1→k∈Z1.1)→SqL X.K H' a xs:=fun {P' N' H' σ' Z2 τ'} R' hs=>by
  obtain⟨ys,y1,y2,_⟩:=R'.h a xs z1
  have:=y2 fun q=>hz (by rw[←qbv z2];exact hs _ q)
  subst this
  exact .inl (.inl y1)
 refine .inl (.inl ⟨a,rfl,⟨xs,seq R (qcd hm ew).1⟩,?_⟩)
 refine for_it (walk_list (K:=X.K) (a:=a) (xs:=xs)) (Pv:=fun i σ' H'=>∃P' N' Z2,Raw C P' N' H' ρ σ' TT Z2 (drp l τ)∧Cm.Same P P'∧Cm.Same N N'∧qgF (fun d Z=>qfU ((l,d)::drp l τ) b Z) (ds.drop i) Z2=some Z1) ?_ (fun i σ' H' hi q=>?_) (fun i x σ' H' H'' hi q y=>?_) (fun σ' H' q=>?_)
 ·exact⟨P,N,Z,R.sub fun _=>qh0,Cm.Same.refl _,Cm.Same.refl _,by simpa using ew⟩
 ·obtain⟨P',N',Z2,R',_,_,e'⟩:=q
  exact seq R' (qcd hm e').1
 ·obtain⟨P',N',Z2,R',s1,s2,e'⟩:=q
  obtain⟨rfl,ex⟩:=y
  have hi':i<ds.length:=by omega
  obtain⟨v,q1,q2⟩:=Reps.get z2 (List.getElem?_eq_getElem hi')
  rw[q1] at ex;cases ex
  rw[List.drop_eq_getElem_cons hi',qgF] at e'
  cases e2:qfU ((l,ds[i])::drp l τ) b Z2 with
  |none=>rw[e2] at e';cases e'
  |some Z3 =>
   rw[e2] at e'
   have RB:=R'.bind hl (Rep.mono s1 _ _ (fun _ _ q=>q) q2)
   rw[qiK] at RB
   exact⟨P',N',ρ,TT,Z2,_,Z3,RB,e2,fun P4 N4 H4 R4 s3 s4=>⟨P4,N4,Z3,R4.sub fun _ h=>List.mem_cons_of_mem _ h,s1.trans s3,s2.trans s4,e'⟩⟩
 ·obtain⟨P',N',Z2,R',s1,s2,e'⟩:=q
  rw[hlen,List.drop_length,qgF] at e'
  cases e'
  exact k σ' P' N' H' R' s1 s2
def tCk (C:Ctx) (c:Ch) (u:TS):TS:=fun D σ H=>∃P N ρ T Z τ Z',Raw C P N H ρ σ T Z τ∧(∀l∈c.tgs,ρ[l]? = some .non)∧chg c τ Z=some Z'∧∀σ' P' N' H',Raw C P' N' H' ρ σ' T Z' (qeV c.tgs τ)→Cm.Same P P'→Cm.Same N N'→u D σ' H'
theorem qbs (I:XOk T Γ C X none sc) (hp:PassesOwn (model X.prog X.w) X.A X.env X.xe):∀(c:Ch) {ss rest:List Stmt} {u:TS},qbJ T sc c ss=true→PSs X rest u→PSs X (ss++rest) (tCk C c u)
 |.nil,ss,rest,u,h,hr=>by
  simp only[qbJ,List.isEmpty_iff] at h
  subst h
  refine qah hr fun D σ H q=>?_
  obtain⟨P,N,ρ,TT,Z,τ,Z',R,_,e,k⟩:=q
  cases e
  exact k σ P N H (R.sub fun _=>qem) (Cm.Same.refl _) (Cm.Same.refl _)
 |.one c r,ss,rest,u,h,hr=>by
  cases ss with
  |nil=>simp[qbJ] at h
  |cons s ss =>
   simp only[qbJ,Bool.and_eq_true] at h
   refine qah (pss_cons (qfO I c h.1) (qbs I hp r h.2 hr)) fun D σ H q=>?_
   obtain⟨P,N,ρ,TT,Z,τ,Z',R,hn,e,k⟩:=q
   rw[chg] at e
   cases e1:qeK τ Z c with
   |none=>rw[e1] at e;cases e
   |some Z1 =>
    rw[e1] at e
    exact⟨P,N,ρ,TT,Z,τ,Z1,R,e1,fun P1 N1 H1 R1 s1 s2=>⟨P1,N1,ρ,TT,Z1,τ,Z',R1,hn,e,fun σ2 P2 N2 H2 R2 s3 s4=>k σ2 P2 N2 H2 R2 (s1.trans s3) (s2.trans s4)⟩⟩
 |.wlk l p b r,ss,rest,u,h,hr=>by
  simp only[qbJ] at h
  split at h
  case h_2=>cases h
  simp only[Bool.and_eq_true,decide_eq_true_eq] at h
  obtain⟨⟨⟨⟨h1,h2⟩,h3⟩,h4⟩,h5⟩:=h
  obtain⟨t1,t2⟩:=qeh I h2
  refine qah (pss_cons (ps_for hp I.calm (qhs (qcG I p h3)) (pg_name I.nd (by rw[I.nm];exact h1) t1 t2) (qf8 I b h4) (qc5 (qbM h3).1)) (qbs I hp r h5 hr)) fun D σ H q=>?_
  obtain⟨P,N,ρ,TT,Z,τ,Z',R,hn,e,k⟩:=q
  rw[chg] at e
  split at e
  ·rename_i ds e1
   cases ew:qgF (fun d Z=>qfU ((l,d)::drp l τ) b Z) ds Z with
   |none=>rw[ew] at e;cases e
   |some Z1 =>
    rw[ew] at e
    simp only[Option.bind_some] at e
    split at e
    ·cases e
    ·rename_i hz
     refine qh8 I.K R (hn l (by simp[Ch.tgs])) e1 ew hz fun σ1 P1 N1 H1 R1 s1 s2=>?_
     exact⟨P1,N1,ρ,TT,Z1,_,Z',R1,fun m hm=>hn m (by simp[Ch.tgs,hm]),e,fun σ2 P2 N2 H2 R2 s3 s4=>k σ2 P2 N2 H2 (R2.sub fun _ h=>qgr h) (s1.trans s3) (s2.trans s4)⟩
  ·cases e
 |.ifs j b r,ss,rest,u,h,hr=>by
  simp only[qbJ] at h
  split at h
  case h_2=>cases h
  simp only[Bool.and_eq_true,decide_eq_true_eq] at h
  obtain⟨⟨⟨⟨h1,h2⟩,h3⟩,h4⟩,h5⟩:=h
  obtain⟨n1,n2⟩:=qby h3
  have hb:=qbs I hp b (rest:=[]) (u:=tNext) h4 pss_nil
  rw[List.append_nil] at hb
  refine qah (pss_cons (ps_if (pt_cmp (pc_notN (pe_var (i:=j) (by rw[I.nm];exact h1) (qbd I.sc h2) n1 n2))) hb pss_nil) (qbs I hp r h5 hr)) fun D σ H q=>?_
  obtain⟨P,N,ρ,TT,Z,τ,Z',R,hn,e,k⟩:=q
  rw[chg] at e
  split at e
  ·rename_i d ed
   obtain⟨_,v,ev,rv⟩:=R.tr j d (qbR ed)
   refine⟨v,ev,_,rfl,?_⟩
   rw[←qfh rv]
   have hnb:∀l∈b.tgs,ρ[l]? = some .non:=fun m hm=>hn m (by simp[Ch.tgs,hm])
   have hnr:∀l∈r.tgs,ρ[l]? = some .non:=fun m hm=>hn m (by simp[Ch.tgs,hm])
   cases hd:d.isNon with
   |true =>
    rw[hd] at e
    simp only[if_true] at e
    exact⟨P,N,ρ,TT,Z,_,Z',R.sub fun _=>qem,hnr,e,fun σ2 P2 N2 H2 R2 s3 s4=>k σ2 P2 N2 H2 (R2.sub fun _ h=>qcU h) s3 s4⟩
   |false =>
    rw[hd] at e
    simp only[Bool.false_eq_true,if_false] at e
    cases eb:chg b τ Z with
    |none=>rw[eb] at e;cases e
    |some Z1 =>
     rw[eb] at e
     simp only[Option.bind_some] at e
     exact⟨P,N,ρ,TT,Z,τ,Z1,R,hnb,eb,fun σ1 P1 N1 H1 R1 s1 s2=>⟨P1,N1,ρ,TT,Z1,_,Z',R1,hnr,e,fun σ2 P2 N2 H2 R2 s3 s4=>k σ2 P2 N2 H2 (R2.sub fun _ h=>qcU h) (s1.trans s3) (s2.trans s4)⟩⟩
  ·cases e
 |.ifl p b r,ss,rest,u,h,hr=>by
  simp only[qbJ] at h
  split at h
  case h_2=>cases h
  simp only[Bool.and_eq_true,decide_eq_true_eq] at h
  obtain⟨⟨⟨⟨⟨⟨⟨rfl,rfl⟩,h1⟩,h2⟩,h3⟩,h4⟩,h5⟩,h6⟩:=h
  have hb:=qbs I hp b (rest:=[]) (u:=tNext) h5 pss_nil
  rw[List.append_nil] at hb
  refine qah (pss_cons (ps_if (pt_truth (qcZ call_isi qeu (.inl ⟨_,rfl⟩) (qbc I.sc h1) (I.blt _ (by decide)) (pa_cons (qcG I p h3) (pa_cons (pe_bltn (v:=.ty (tyS .list)) (qbc I.sc h2) (I.blt _ (qjc .list)) (qfJ .list) rfl (qej .list).1 (qej .list).2) pa_nil) (qaa h4)) (by decide) (by decide) (qaa h4) rfl) (by intro _;rfl)) hb pss_nil) (qbs I hp r h6 hr)) fun D σ H q=>?_
  obtain⟨P,N,ρ,TT,Z,τ,Z',R,hn,e,k⟩:=q
  rw[chg] at e
  split at e
  ·rename_i ds ed
   cases eb:chg b τ Z with
   |none=>rw[eb] at e;cases e
   |some Z1 =>
    rw[eb] at e
    simp only[Option.bind_some] at e
    have hnb:∀l∈b.tgs,ρ[l]? = some .non:=fun m hm=>hn m (by simp[Ch.tgs,hm])
    have hnr:∀l∈r.tgs,ρ[l]? = some .non:=fun m hm=>hn m (by simp[Ch.tgs,hm])
    refine⟨P,N,ρ,TT,Z,τ,_,R,ed,fun v rv=>?_⟩
    obtain⟨a,xs,rfl,z1,z2⟩:=qci rv
    obtain⟨ys,y1,_⟩:=R.h a xs z1
    refine⟨.ref a,.ty (tyS .list),_,_,true,rfl,.ty _,qcQ (.inl (.inl y1)),qag _ _ _ (by decide +kernel),true,rfl,?_⟩
    exact⟨P,N,ρ,TT,Z,τ,Z1,R,hnb,eb,fun σ1 P1 N1 H1 R1 s1 s2=>⟨P1,N1,ρ,TT,Z1,_,Z',R1,hnr,e,fun σ2 P2 N2 H2 R2 s3 s4=>k σ2 P2 N2 H2 (R2.sub fun _ h=>qcU h) (s1.trans s3) (s2.trans s4)⟩⟩
  ·cases e
end
end Cm
namespace Cm
open PySem PySem.Spec PyProof.Rows L2
variable [HasT]
def tSk (C:Ctx) (g:List Sl→Out) (u:TS):TS:=fun D σ H=>∃ρ P N,SR C P N H ρ σ∧outS C P N { D with nx:=u D } (g ρ)
structure HvR (P H P' H':Hp) (T:TL):Prop where
 hh:HX H H'
 pp:Same P P'
 pH:Same P' H'
 tp:TF P→TF P'
 pn:∀a,P' a≠none→P a≠none∨H a=none
 t:∀a xs,T a=some xs→H' a=some (.lst xs)∧H a=none∧P' a=none
def TR (T:TL) (R:Hp):Hp:=fun a=>match T a with
 |some xs=>some (.lst xs)
 |none=>R a
theorem qbu {T:TL} {R:Hp} {a:Addr} {xs:List V} (h:T a=some xs):TR T R a=some (.lst xs):=by unfold TR;rw[h]
theorem qaP {T:TL} {R:Hp} {a:Addr} (h:T a=none):TR T R a=R a:=by unfold TR;rw[h]
theorem qcB {T:TL} {R:Hp} {a:Addr} (h:TR T R a=none):T a=none∧R a=none:=by
 unfold TR at h
 split at h
 ·cases h
 ·exact⟨by assumption,h⟩
section
variable {C:Ctx}
theorem qeH {P N H H0:Hp} {σ:L2.St} {n:Nat} {g':List D→RE ER} {Q:VK} {es:List ER} {vs:List V} (r:Reg C P N H) (hv:ERs C P N H H0 es vs) (hn:es.length=n)
  (h:match g' (es.map ER.d) with
   |.bad=>False
   |.ok er=>∃d,qd5 er=some d∧∀v H' P' T,HvR P H P' H' T→Rep C.G P' (LT T) d v→Q v H'
   |.exc c fs=>∀d P' N' H',Adv P N H P' N' H'→ExR C P' N' H' fs d→C.W (.ref (C.G.ca c)) d σ H'):spD C.G n g' vs H Q (fun cls d H'=>C.W cls d σ H'):=by
 have rH:=r.rH
 have hr:Reps C.G P (SqL C.G.K (qbO H)) (es.map ER.d) vs:=Reps.mono (Cm.Same.refl _) _ _ (fun _ _=>qcp) (qf2 r hv)
 refine⟨P,qbO H,es.map ER.d,r.pH,⟨qbQ H,r.tb,r.tf.1,qcY H⟩,hr,by rw[List.length_map,hn],?_⟩
 cases e:g' (es.map ER.d) with
 |bad=>rw[e] at h;exact h.elim
 |exc c fs =>
  rw[e] at h
  intro d H' P' N' ad hx
  refine h d _ _ _ (ad.back r.nH) ?_
  rcases hx with hx | ⟨dd,f,v,h1,h2,h3,h4⟩
  ·exact .inl hx
  ·refine .inr ⟨dd,f,v,h1,h2,h3,Rep.mono (Cm.Same.refl _) _ _ (fun a xs q=>?_) h4⟩
   rcases q with q | ⟨hb,q⟩
   ·exact .inl (qgt ad.nH _ _ q)
   ·cases hb
 |ok er =>
  rw[e] at h
  obtain⟨d,ed,h⟩:=h
  intro v H' P' N' ad hx
  have base:∀a xs,N' a=some (.lst xs)→H' a=some (.lst xs)∧H a=none∧P' a=none:=fun a xs q=>by
   have hne:N' a≠none:=by rw[q];exact fun z=>nomatch z
   refine⟨ad.nH _ _ q,?_,?_⟩
   ·rcases ad.nw a hne with z | z
    ·exact absurd rfl z
    ·exact z
   ·cases e2:P' a with
    |none=>rfl
    |some o=>exact absurd rfl (ad.dj a hne (by rw[e2];exact fun z=>nomatch z))
  let T:TL:=fun a=>match N' a with
   |some (.lst xs)=>some xs
   |_=>none
  have hT:∀a xs,N' a=some (.lst xs)→T a=some xs:=fun a xs q=>by show(match N' a with | some (.lst xs)=>some xs | _=>none)=some xs;rw[q]
  have hT':∀a xs,T a=some xs→N' a=some (.lst xs):=fun a xs q=>by
   have q:(match N' a with | some (.lst xs)=>some xs | _=>none)=some xs:=q
   split at q
   ·rename_i ys e2;cases q;exact e2
   ·cases q
  cases er with
  |brw ds b=>cases ed
  |val d' b =>
   simp only[qd5] at ed
   split at ed
   ·rename_i hb
    cases ed
    refine h v H' P' T ⟨ad.hh,ad.pp,ad.pH,ad.tp,ad.pn,fun a xs q=>base a xs (hT' a xs q)⟩ ?_
    cases b with
    |true=>exact Rep.mono (Cm.Same.refl _) _ _ (fun a xs q=>by
     rcases q with q | ⟨hb,_⟩
     ·exact hT a xs q
     ·cases hb) hx
    |false=>exact Rep.flat _ _ (by simpa using hb) hx
   ·cases ed
  |fre ds b =>
   simp only[qd5] at ed
   split at ed
   ·rename_i hb
    cases ed
    obtain⟨p,xs,rfl,h1,h2,h3,h4,h5⟩:=hx
    refine h _ H' P' (fun a=>if a=p then some xs else T a) ⟨ad.hh,ad.pp,ad.pH,ad.tp,ad.pn,fun a ys q=>?_⟩ ⟨p,xs,rfl,if_pos rfl,?_⟩
    ·split at q
     ·rename_i ea
      cases q
      subst ea
      exact⟨h1,h2,h3⟩
     ·exact base a ys (hT' a ys q)
    ·have mono:∀a ys,LNb C.G.K P' N' (qbO H) true a ys→LT (fun a=>if a=p then some xs else T a) a ys:=fun a ys q=>by
      rcases q with q | ⟨hb,_⟩
      ·have:a≠p:=fun ea=>by rw[ea,h4] at q;cases q
       show(if a=p then some xs else T a)=some ys
       rw[if_neg this];exact hT a ys q
      ·cases hb
     cases b with
     |true=>exact Reps.mono (Cm.Same.refl _) _ _ mono h5
     |false=>exact Reps.flat _ _ (by simpa using hb) h5
   ·cases ed
def Ctx.hv (C:Ctx) (T:TL) (fx:Nat→Option V):Ctx:={ C with R:=TR T C.R,B:=TR T C.B,fx:=fx }
theorem qbC:∀{ρ:List Sl} {k j:Nat} {s:Sl},(qd0 k ρ)[j]? = some s→∃q,ρ[j]? = some q∧s=ent (k+j) q
 |[],k,j,s,h=>by simp[qd0] at h
 |q::qs,k,0,s,h=>by simp[qd0] at h;exact⟨q,rfl,h.symm⟩
 |q::qs,k,j+1,s,h=>by
  simp[qd0] at h
  obtain⟨r,h1,h2⟩:=qbC h
  exact⟨r,by simpa using h1,by rw[h2];congr 1;omega⟩
theorem qdb:∀{ρ:List Sl} {k:Nat},(qd0 k ρ).length=ρ.length
 |[],_=>rfl
 |q::qs,k=>by simp[qd0,qdb]
theorem qbp {ρ0:List Sl}:∀{ρ:List Sl} {k j:Nat} {s:Sl},(qdI ρ0 k ρ)[j]? = some s→∃q,ρ[j]? = some q∧s=ext (k+j) (ρ0[k+j]?.getD .non) q
 |[],k,j,s,h=>by simp[qdI] at h
 |q::qs,k,0,s,h=>by simp[qdI] at h;exact⟨q,rfl,h.symm⟩
 |q::qs,k,j+1,s,h=>by
  simp[qdI] at h
  obtain⟨r,h1,h2⟩:=qbp h
  have:k+1+j=k+(j+1):=by omega
  exact⟨r,by simpa using h1,by rw[h2,this]⟩
theorem qb5 {ρ0:List Sl}:∀{ρ:List Sl} {k:Nat},(qdI ρ0 k ρ).length=ρ.length
 |[],_=>rfl
 |q::qs,k=>by simp[qdI,qb5]
theorem LNb.up {K:PySem.W.Frag} {P N R R':Hp} {b:Bool} (h:Cm.Same R R'):∀a xs,LNb K P N R b a xs→LNb K P N R' b a xs:=fun a xs q=>by
 rcases q with q | ⟨hb,q | q | q⟩
 ·exact .inl q
 ·exact .inr ⟨hb,.inl q⟩
 ·exact .inr ⟨hb,.inr (.inl q)⟩
 ·exact .inr ⟨hb,.inr (.inr (Cm.Same.seq h q))⟩
theorem RepB.dn {C C':Ctx} {P N:Hp} {b:Bool} {d:Cm.D} {v:V} (hG:C'.G=C.G) (hb:(b||d.flat)=true) (h:RepB C' P N b d v):RepB C P N b d v:=by
 unfold RepB at *
 rw[hG] at h
 cases b with
 |true=>exact Rep.mono (Cm.Same.refl _) _ _ (fun a xs q=>by
  rcases q with q | ⟨hb,_⟩
  ·exact .inl q
  ·cases hb) h
 |false=>exact Rep.flat _ _ (by simpa using hb) h
theorem RepsB.dn {C C':Ctx} {P N:Hp} {b:Bool} {d:List Cm.D} {v:List V} (hG:C'.G=C.G) (hb:(b||D.flats d)=true) (h:RepsB C' P N b d v):RepsB C P N b d v:=by
 unfold RepsB at *
 rw[hG] at h
 cases b with
 |true=>exact Reps.mono (Cm.Same.refl _) _ _ (fun a xs q=>by
  rcases q with q | ⟨hb,_⟩
  ·exact .inl q
  ·cases hb) h
 |false=>exact Reps.flat _ _ (by simpa using hb) h
end
section
variable {C:Ctx} {P N H P' H':Hp} {ρ:List Sl} {σ:L2.St} {T:TL}
theorem HvR.tn (a:HvR P H P' H' T) {b:Addr} (h:H b≠none):T b=none:=by
 cases e:T b with
 |none=>rfl
 |some xs=>exact absurd (a.t b xs e).2.1 h
theorem HvR.tp0 (a:HvR P H P' H' T) {b:Addr} (h:P' b≠none):T b=none:=by
 cases e:T b with
 |none=>rfl
 |some xs=>exact absurd (a.t b xs e).2.2 h
theorem HvR.sR (a:HvR P H P' H' T) {R:Hp} (h:Cm.Same R H):Cm.Same R (TR T R):=Same.of fun b o e=>by
 rw[qaP (a.tn (b:=b) fun z=>by have:=h.free z;rw[e] at this;cases this)];exact e
theorem HvR.reg (a:HvR P H P' H' T) (r:Reg C P N H) {fx:Nat→Option V}:Reg (C.hv T fx) P' N H' where
 pH:=a.pH
 nH:=r.nH.trans a.hh
 bH:=⟨fun b o e n=>by
  have e:TR T C.B b=some o:=e
  cases q:T b with
  |none=>rw[qaP q] at e;exact a.hh.s.g0 _ _ (r.bH.g0 _ _ e n) n
  |some xs=>rw[qbu q] at e;cases e;exact(a.t b xs q).1,fun b e=>by
  show TR T C.B b=none
  cases q:T b with
  |none=>rw[qaP q];exact r.bH.free (a.hh.free e)
  |some xs=>rw[(a.t b xs q).1] at e;cases e⟩
 rB:=⟨fun b o e n=>by
  have e:TR T C.R b=some o:=e
  show TR T C.B b=some o
  cases q:T b with
  |none=>rw[qaP q] at e ⊢;exact r.rB.g0 _ _ e n
  |some xs=>rw[qbu q] at e ⊢;exact e,fun b e=>by
  have e:TR T C.B b=none:=e
  show TR T C.R b=none
  cases q:T b with
  |none=>rw[qaP q] at e ⊢;exact r.rB.free e
  |some xs=>rw[qbu q] at e;cases e⟩
 tb:=a.hh.tb r.tb
 tf:=⟨a.tp r.tf.1,r.tf.2.1,fun b o e=>by
  have e:TR T C.R b=some o:=e
  cases q:T b with
  |none=>rw[qaP q] at e;exact r.tf.2.2 b o e
  |some xs=>rw[qbu q] at e;cases e;rfl⟩
 p0:=r.p0.trans a.pp
 pn:=fun b h=>by
  have t:=a.tp0 h
  show C.P0 b≠none∨TR T C.B b=none
  rw[qaP t]
  rcases a.pn b h with z | z
  ·exact r.pn b z
  ·exact .inr (r.bH.free z)
 nw:=fun b h=>by
  have hb:H b≠none:=fun z=>h (r.nH.free z)
  show TR T C.B b=none
  rw[qaP (a.tn hb)];exact r.nw b h
 dj:=fun b h=>by
  cases q:P' b with
  |none=>rfl
  |some o =>
   rcases a.pn b (by rw[q];exact fun z=>nomatch z) with z | z
   ·exact absurd (r.dj b h) z
   ·exact absurd (r.nH.free z) h
theorem qgR {i:Nat} {v w:V} (hi:i<σ.length) (h:((σ.set i (some v))[i]?).join=some w):w=v:=by
 rw[List.getElem?_set_self hi] at h
 cases h;rfl
theorem HvR.into (a:HvR P H P' H' T) (S:SR C P N H ρ σ) {i:Nat} {d:D} {v:V} (hi:i<σ.length) (rv:Rep C.G P' (LT T) d v):SR (C.hv T fun k=>((σ.set i (some v))[k]?).join) P' N H' ((qd0 0 ρ).set i (.fxd d i)) (σ.set i (some v)) where
 reg:=a.reg S.reg
 len:=by simp[S.len,qdb]
 sl:=fun j s e=>by
  by_cases q:i=j
  ·subst q
   rw[List.getElem?_set_self (by rw[qdb,←S.len];exact hi)] at e
   cases e
   refine⟨some v,List.getElem?_set_self hi,v,rfl,?_,?_⟩
   ·show((σ.set i (some v))[i]?).join=some v
    rw[List.getElem?_set_self hi];rfl
   ·exact Rep.mono (Cm.Same.refl _) _ _ (fun b xs z=>.inr ⟨rfl,.inr (.inr (.inl (.inl (qbu z))))⟩) rv
  ·rw[List.getElem?_set_ne q] at e
   obtain⟨s0,e0,rfl⟩:=qbC e
   obtain⟨o,y1,y2⟩:=S.sl j s0 e0
   rw[List.getElem?_set_ne q]
   refine⟨o,y1,?_⟩
   have mR:=a.sR S.reg.rH
   have up:∀{b:Bool} {d:D} {v:V},RepB C P N b d v→RepB (C.hv T fun k=>((σ.set i (some v))[k]?).join) P' N b d v:=fun {b d v} h =>
    Rep.mono a.pp _ _ (fun c xs z=>LNb.up mR c xs (LNb.mono a.pp (Cm.Same.refl _) c xs z)) h
   have ups:∀{b:Bool} {d:List D} {v:List V},RepsB C P N b d v→RepsB (C.hv T fun k=>none) P' N b d v:=fun {b d v} h =>
    Reps.mono a.pp _ _ (fun c xs z=>LNb.up mR c xs (LNb.mono a.pp (Cm.Same.refl _) c xs z)) h
   have hfx:∀w,o=some w→((σ.set i (some v))[j]?).join=some w:=fun w ew=>by rw[List.getElem?_set_ne q,y1,ew];rfl
   rw[Nat.zero_add]
   cases s0 with
   |non=>trivial
   |val d b =>
    obtain⟨w,rfl,h3⟩:=y2
    by_cases hb:(b||d.flat)=true
    ·rw[show ent j (.val d b)=.val d b from if_pos hb]
     exact⟨w,rfl,up h3⟩
    ·rw[show ent j (.val d b)=.fxd d j from if_neg hb]
     have hb':b=false:=by cases b with
      |false=>rfl
      |true=>simp at hb
     subst hb'
     exact⟨w,rfl,hfx w rfl,up h3⟩
   |own ds b =>
    obtain⟨p,xs,rfl,h3,h4,h5,h6,h7⟩:=y2
    have hne:H p≠none:=by rw[h3];exact fun z=>nomatch z
    refine⟨p,xs,rfl,a.hh _ _ h3,?_,h5,?_,ups h7⟩
    ·cases q2:P' p with
     |none=>rfl
     |some o =>
      rcases a.pn p (by rw[q2];exact fun z=>nomatch z) with z | z
      ·exact absurd h4 z
      ·exact absurd z hne
    ·show TR T C.B p=none
     rw[qaP (a.tn hne)];exact h6
   |slf c fs=>trivial
   |fxd d k =>
    obtain⟨w,rfl,_,h3⟩:=y2
    exact⟨w,rfl,hfx w rfl,up h3⟩
   |dct m c=>trivial
   |row _=>trivial
 ap:=fun j k p ds b es c e1 e2 e3 e4=>by
  have old:∀{m:Nat} {es:List D} {c:Bool},((qd0 0 ρ).set i (.fxd d i))[m]? = some (.own es c)→i≠m∧ρ[m]? = some (.own es c):=fun {m es c} e=>by
   by_cases q:i=m
   ·subst q
    rcases Nat.lt_or_ge i (qd0 0 ρ).length with z | z
    ·rw[List.getElem?_set_self z] at e;cases e
    ·rw[List.getElem?_eq_none (by simpa using z)] at e;cases e
   ·rw[List.getElem?_set_ne q] at e
    obtain⟨s0,e0,es0⟩:=qbC e
    refine⟨q,?_⟩
    rw[e0]
    cases s0 with
    |own ds' b'=>simp only[ent] at es0;rw[es0]
    |val d b =>
     by_cases hb:(b||d.flat)=true
     ·rw[show ent (0+m) (.val d b)=.val d b from if_pos hb] at es0;cases es0
     ·rw[show ent (0+m) (.val d b)=.fxd d (0+m) from if_neg hb] at es0;cases es0
    |_=>cases es0
  obtain⟨n1,o1⟩:=old e1
  obtain⟨n2,o2⟩:=old e2
  rw[List.getElem?_set_ne n1] at e3
  rw[List.getElem?_set_ne n2] at e4
  exact S.ap j k p ds b es c o1 o2 e3 e4
 ad:=AD.setS (AD.no fun j s e=>by
  obtain⟨s0,e0,rfl⟩:=qbC e
  cases s0 with
  |val d b=>simp only[ent];split<;>rfl
  |_=>rfl) rfl
 ar:=AR.no fun j s e=>by
  rcases qad e with⟨_,z⟩ | ⟨_,z⟩
  ·rw[z];rfl
  ·obtain⟨s0,e0,rfl⟩:=qbC z
   cases s0 with
   |val d b=>simp only[ent];split<;>rfl
   |_=>rfl
theorem HvR.regO (a:HvR P H P' H' T) (r:Reg C P N H) {fx:Nat→Option V} {P2 N2 H2:Hp} (r2:Reg (C.hv T fx) P2 N2 H2):Reg C P2 N2 H2 where
 pH:=r2.pH
 nH:=r2.nH
 bH:=⟨fun b o e n=>r2.bH.g0 b o (by
  show TR T C.B b=some o
  rw[qaP (a.tn (b:=b) fun z=>by have:=r.bH.free z;rw[e] at this;cases this)];exact e) n,fun b e=>(qcB (r2.bH.free e)).2⟩
 tb:=r2.tb
 tf:=⟨r2.tf.1,r2.tf.2.1,r.tf.2.2⟩
 rB:=r.rB
 p0:=r2.p0
 pn:=fun b h=>by
  rcases r2.pn b h with z | z
  ·exact .inl z
  ·exact .inr (qcB z).2
 nw:=fun b h=>(qcB (r2.nw b h)).2
 dj:=r2.dj
theorem SR.drop {P N H:Hp} {ρ:List Sl} {σ:L2.St} (S:SR C P N H ρ σ) (i:Nat):SR C P N H (ρ.set i .non) σ where
 reg:=S.reg
 len:=by simp[S.len]
 sl:=fun j s e=>by
  by_cases q:i=j
  ·subst q
   rcases Nat.lt_or_ge i ρ.length with z | z
   ·rw[List.getElem?_set_self z] at e
    cases e
    exact⟨_,List.getElem?_eq_getElem (by rw[S.len];exact z),trivial⟩
   ·rw[List.getElem?_eq_none (by simpa using z)] at e;cases e
  ·rw[List.getElem?_set_ne q] at e
   exact S.sl j s e
 ap:=fun j k p ds b es c e1 e2 e3 e4=>by
  have old:∀{m:Nat} {es:List D} {c:Bool},(ρ.set i .non)[m]? = some (.own es c)→ρ[m]? = some (.own es c):=fun {m es c} e=>by
   by_cases q:i=m
   ·subst q
    rcases Nat.lt_or_ge i ρ.length with z | z
    ·rw[List.getElem?_set_self z] at e;cases e
    ·rw[List.getElem?_eq_none (by simpa using z)] at e;cases e
   ·rw[List.getElem?_set_ne q] at e;exact e
  exact S.ap j k p ds b es c (old e1) (old e2) e3 e4
 ad:=S.ad.setS rfl
 ar:=S.ar.setS rfl
theorem SR.wipeS {P N H:Hp} {ρ:List Sl} {σ:L2.St} (S:SR C P N H ρ σ):∀vs:List Nat,SR C P N H (Cm.wipeS ρ vs) σ
 |[]=>S
 |v::vs=>(SR.wipeS S vs).drop v
theorem qbL {ρ:List Sl}:∀vs:List Nat,(wipeS ρ vs).length=ρ.length
 |[]=>rfl
 |v::vs=>by simp[wipeS,qbL vs]
theorem qeq {ρ:List Sl} {v:Nat} (hv:v<ρ.length):∀{vs:List Nat},v∈vs→(wipeS ρ vs)[v]? = some .non
 |[],h=>by cases h
 |w::vs,h=>by
  unfold wipeS
  by_cases q:w=v
  ·subst q;rw[List.getElem?_set_self (by rw[qbL];exact hv)]
  ·rw[List.getElem?_set_ne q]
   rcases List.mem_cons.mp h with h | h
   ·exact absurd h.symm q
   ·exact qeq hv h
theorem qdy {ρ:List Sl} {j:Nat} {s:Sl} (hs:s≠.non):∀{vs:List Nat},(wipeS ρ vs)[j]? = some s→ρ[j]? = some s
 |[],h=>h
 |w::vs,h=>by
  unfold wipeS at h
  by_cases q:w=j
  ·subst q
   rcases Nat.lt_or_ge w (wipeS ρ vs).length with z | z
   ·rw[List.getElem?_set_self z] at h;cases h;exact absurd rfl hs
   ·rw[List.getElem?_eq_none (by simpa using z)] at h;cases h
  ·rw[List.getElem?_set_ne q] at h;exact qdy hs h
theorem qdo {ρ:List Sl} {j:Nat} (h:ρ[j]? = some .non):∀{vs:List Nat},(wipeS ρ vs)[j]? = some .non
 |[]=>h
 |w::vs=>by
  unfold wipeS
  by_cases q:w=j
  ·subst q
   rw[List.getElem?_set_self (by rw[qbL];exact(List.getElem?_eq_some_iff.mp h).1)]
  ·rw[List.getElem?_set_ne q];exact qdo h
theorem qeA {ρ:List Sl} (h:∀(j:Nat) (s:Sl),ρ[j]? = some s→s.isW=false):∀{vs:List Nat} (j:Nat) (s:Sl),(Cm.wipeS ρ vs)[j]? = some s→s.isW=false
 |[],j,s,e=>h j s e
 |v::vs,j,s,e=>by
  unfold Cm.wipeS at e
  rcases qad e with⟨_,z⟩ | ⟨_,z⟩
  ·rw[z];rfl
  ·exact qeA h j s z
theorem HvR.out (a:HvR P H P' H' T) (S:SR C P N H ρ σ) {i:Nat} {d d2:D} {v:V} (hi:i<σ.length) (rv:Rep C.G P' (LT T) d v) {P2 N2 H2:Hp} {ρ2:List Sl} {σ2:L2.St}
  (S2:SR (C.hv T fun k=>((σ.set i (some v))[k]?).join) P2 N2 H2 ρ2 σ2) (sp:Cm.Same P' P2) (sn:Cm.Same N N2) (e2:ρ2[i]? = some (.fxd d2 i)) (vs:List Nat) :
  Raw C P2 N2 H2 (wipeS (qdI (ρ.set i .non) 0 ρ2) vs) σ2 T ([],0) [(i,d)]:=by
 have rg:=a.regO S.reg S2.reg
 have own:∀{j:Nat} {ds:List D} {b:Bool},(qdI (ρ.set i .non) 0 ρ2)[j]? = some (.own ds b)→ρ2[j]? = some (.own ds b)∧(b||D.flats ds)=true:=fun {j ds b} e=>by
  obtain⟨q,h1,h2⟩:=qbp e
  cases q with
  |own es c =>
   simp only[ext] at h2
   split at h2
   ·cases h2;exact⟨h1,by assumption⟩
   ·cases h2
  |val d' b' =>
   simp only[ext] at h2
   split at h2<;>cases h2
  |non=>cases h2
  |slf _ _=>cases h2
  |fxd _ k =>
   simp only[ext] at h2
   split at h2
   ·split at h2<;>cases h2
   ·cases h2
  |dct _ _=>cases h2
  |row _=>cases h2
 have ei:(qdI (ρ.set i .non) 0 ρ2)[i]? = some .non:=by
  have hl:i<ρ2.length:=(List.getElem?_eq_some_iff.mp e2).1
  have:i<(qdI (ρ.set i .non) 0 ρ2).length:=by rw[qb5];exact hl
  obtain⟨q,h1,h2⟩:=qbp (List.getElem?_eq_getElem this)
  rw[e2] at h1;cases h1
  rw[List.getElem?_eq_getElem this,h2]
  simp only[Nat.zero_add,ext,if_true]
  rw[List.getElem?_set_self (by rw[←S.len];exact hi)]
  rfl
 have noW:∀(j:Nat) (s:Sl),(qdI (ρ.set i .non) 0 ρ2)[j]? = some s→s.isW=false:=fun j s e=>by
  obtain⟨q,h1,rfl⟩:=qbp e
  cases q with
  |val d b=>simp only[ext];split<;>rfl
  |own d b=>simp only[ext];split<;>rfl
  |fxd d k =>
   simp only[ext]
   split
   ·split<;>rfl
   ·rfl
  |_=>rfl
 have sr:SR C P2 N2 H2 (qdI (ρ.set i .non) 0 ρ2) σ2:=by
  refine⟨rg,by rw[qb5,S2.len],fun j s e=>?_,fun j k p ds b es c e1 e3 e4 e5=>S2.ap j k p ds b es c (own e1).1 (own e3).1 e4 e5,AD.no fun j s e=>by
   obtain⟨q,h1,rfl⟩:=qbp e
   cases q with
   |val d b=>simp only[ext];split<;>rfl
   |own d b=>simp only[ext];split<;>rfl
   |fxd d k =>
    simp only[ext]
    split
    ·split<;>rfl
    ·rfl
   |_=>rfl,AR.no noW⟩
  obtain⟨q,h1,h2⟩:=qbp e
  obtain⟨o,y1,y2⟩:=S2.sl j q h1
  refine⟨o,y1,?_⟩
  rw[h2,Nat.zero_add]
  cases q with
  |non=>trivial
  |slf _ _=>trivial
  |dct _ _=>trivial
  |row _=>trivial
  |val d b =>
   simp only[ext]
   split
   ·rename_i hb
    obtain⟨w,rfl,h3⟩:=y2
    exact⟨w,rfl,RepB.dn (C':=C.hv T fun k=>((σ.set i (some v))[k]?).join) rfl hb h3⟩
   ·trivial
  |own ds b =>
   simp only[ext]
   split
   ·rename_i hb
    obtain⟨p,xs,rfl,h3,h4,h5,h6,h7⟩:=y2
    exact⟨p,xs,rfl,h3,h4,h5,(qcB h6).2,RepsB.dn (C':=C.hv T fun k=>((σ.set i (some v))[k]?).join) rfl hb h7⟩
   ·trivial
  |fxd d' k =>
   simp only[ext]
   split
   ·rename_i hk
    subst hk
    by_cases hki:i=k
    ·subst hki
     rw[List.getElem?_set_self (by rw[←S.len];exact hi)]
     trivial
    ·rw[List.getElem?_set_ne hki]
     obtain⟨w,rfl,h3,_⟩:=y2
     have h3:((σ.set i (some v))[k]?).join=some w:=h3
     rw[List.getElem?_set_ne hki] at h3
     cases e0:ρ[k]? with
     |none=>trivial
     |some s0 =>
      obtain⟨o,z1,z2⟩:=S.sl k s0 e0
      have ho:o=some w:=by
       rw[z1] at h3
       exact h3
      subst ho
      cases s0 with
      |val d b =>
       obtain⟨u,eu,h4⟩:=z2
       cases eu
       exact⟨w,rfl,RepB.adv (a.pp.trans sp) sn h4⟩
      |fxd d m =>
       obtain⟨u,eu,h5,h4⟩:=z2
       cases eu
       exact⟨w,rfl,h5,RepB.adv (a.pp.trans sp) sn h4⟩
      |non=>trivial
      |own _ _=>trivial
      |slf _ _=>trivial
      |dct _ _=>trivial
      |row _=>trivial
   ·trivial
 have tb:∀{b:Addr} {xs:List V},T b=some xs→TR T C.B b≠none:=fun {b xs} e=>by rw[qbu e];exact fun z=>nomatch z
 refine⟨sr.wipeS vs,fun b xs e=>⟨xs,S2.reg.bH b _ (qbu e),fun _=>rfl,Nat.le_add_right _ _⟩,fun b xs e=>⟨?_,?_,?_⟩,fun j ds b p e1 e3=>?_,fun j d' m=>?_,qeA noW⟩
 ·cases q:P2 b with
  |none=>rfl
  |some o =>
   rcases S2.reg.pn b (by rw[q];exact fun z=>nomatch z) with z | z
   ·have hb:=(a.t b xs e).2.1
    exact absurd (S.reg.p0.free (S.reg.pH.free hb)) z
   ·exact absurd z (tb e)
 ·cases q:N2 b with
  |none=>rfl
  |some o=>exact absurd (S2.reg.nw b (by rw[q];exact fun z=>nomatch z)) (tb e)
 ·exact S.reg.bH.free (a.t b xs e).2.1
 ·obtain⟨h1,_⟩:=own (qdy (by simp) e1)
  obtain⟨o,y1,p',xs,rfl,h3,h4,h5,h6,h7⟩:=S2.sl j _ h1
  rw[y1] at e3;cases e3
  exact(qcB h6).1
 ·simp only[List.mem_singleton,Prod.mk.injEq] at m
  obtain⟨rfl,rfl⟩:=m
  refine⟨qdo ei,v,?_,Rep.mono sp _ _ (fun _ _ q=>q) rv⟩
  obtain⟨o,y1,w,rfl,h3,_⟩:=S2.sl j _ e2
  have:=qgR hi h3
  subst this
  exact y1
end
section
variable {T:Tb} {Γ:Env} {C:Ctx} {X:Cx} {sc:Scope}
theorem XOk.hv {fc:Option Scope} {TT:TL} {fx:Nat→Option V} (I:XOk T Γ C X fc sc):XOk T Γ (C.hv TT fx) X fc sc where
 nm:=I.nm
 nd:=I.nd
 sc:=I.sc
 K:=I.K
 tk:=I.tk
 fr:=I.fr
 lam:=I.lam
 fo:=I.fo
 calm:=I.calm
 un:=I.un
 blt:=I.blt
 fnc:=I.fnc
 fn:=I.fn
 gc:=fun k x h c e=>by
  obtain⟨u,v,h1,h2,h3,h4⟩:=I.gc k x h c e
  refine⟨u,v,h1,h2,fun P N=>?_,h4⟩
  exact Rep.mono (Cm.Same.refl _) _ _ (fun a xs q=>by
   rcases q with q | ⟨hb,_⟩
   ·exact .inl q
   ·cases hb) (h3 P N)
 mt:=fun m x n h c g e=>by
  obtain⟨h1,h2,h3⟩:=I.mt m x n h c g e
  exact⟨h1,h2,h3⟩
 fs:=fun f x h c k e=>by
  obtain⟨h1,h2,h3,h4⟩:=I.fs f x h c k e
  exact⟨h1,h2,h3,h4⟩
 nw:=fun k x n h g e=>by
  obtain⟨h1⟩:=I.nw k x n h g e
  exact⟨h1⟩
 ck:=I.ck
 xk:=I.xk
 dc:=I.dc
def tHv (C:Ctx) (i n:Nat) (g:List Sl→RE (List ER)) (g':List Cm.D→RE ER):TS:=tAsg (fun σ H Q=>tA C g σ H fun vs H1=>spD C.G n g' vs H1 Q (fun cls d H'=>C.W cls d σ H')) (gName i)
theorem qi9 {i f:Nat} {es:Exs} {st:Stmt} (I:XOk T Γ C X none sc) (h:qgb T sc i f es st=true):∀g,Γ.fn[f]? = some g→∃n,(∀ρ r,evs Γ es ρ=.ok r→r.length=n)∧PS X st (tHv C i n (evs Γ es) g.2):=fun g e=>by
 unfold qgb at h
 split at h
 case h_2=>cases h
 rename_i x pn y p xs q pos
 simp only[Bool.and_eq_true,decide_eq_true_eq] at h
 obtain⟨⟨⟨⟨⟨⟨h1,h2⟩,h3⟩,h4⟩,h5⟩,h6⟩,h7⟩:=h
 obtain⟨t1,t2⟩:=qeh I h2
 obtain⟨k,a,fd,ps,m,gf,F,hr,hm,hk,dv,dvs,dus,hb,hdv,hdm,hdr,hgf⟩:=I.fn f y xs.length h3 g e
 refine⟨xs.length,fun ρ r er=>qaY es ρ r xs h6 er,?_⟩
 exact ps_set I.nd (by rw[I.nm];exact h1) t1 (qc9 (C:=C) F hr (qbc I.sc h4) hm hk hb hdv hdm hdr hgf I.tk (qa5 es I h6 h7) (qby h5).1 (qb7 h7) (fun z ρ=>qd8 h6 z ρ)) rfl t2
def tIn (C:Ctx) (g:List Sl→Out) (u:TS):TS:=fun D σ H=>∃TT fx,tSk (C.hv TT fx) g u D σ H
theorem qjG {i n:Nat} {es:Exs} {g':List Cm.D→RE ER} {rd:List Sl→Out} {cs:Ch} {f:List Sl→Out} {D:Ends} {σ:L2.St} {H:Hp} {u:TS} (hn:∀ρ r,evs Γ es ρ=.ok r→r.length=n)
  (q:tSk C (fun ρ=>(evs Γ es ρ).out fun r=>(g' (r.map ER.d)).out fun er=>match qd5 er with
   |some d=>gdO (Nat.blt i ρ.length) ((rd ((qd0 0 ρ).set i (.fxd d i))).hv ρ i d cs f)
   |none=>.bad) u D σ H):tHv C i n (evs Γ es) g' { D with nx:=tIn C rd (tCk C cs (tSk C f u)) D } σ H:=by
 obtain⟨ρ,P,N,S,o⟩:=q
 refine⟨ρ,P,N,S,(o.res S.reg).mono fun r P1 N1 H1 e1 a1 o1 vs rv=>?_⟩
 have S1:=S.adv a1
 refine qeH S1.reg rv (hn _ _ e1) ?_
 cases eg:g' (r.map ER.d) with
 |bad=>rw[eg] at o1;exact o1
 |exc c fs =>
  rw[eg] at o1
  exact fun d P' N' H' ad hx=>o1 σ d P' N' H' (S1.reg.adv ad) hx
 |ok er =>
  rw[eg] at o1
  simp only[RE.out_ok] at o1
  cases ed:qd5 er with
  |none=>rw[ed] at o1;exact o1.elim
  |some d =>
   rw[ed] at o1
   simp only[qaE] at o1
   split at o1
   case isFalse=>exact o1.elim
   rename_i hi
   have hi:i<σ.length:=by rw[S.len];exact Nat.blt_eq.mp hi
   refine⟨d,ed,fun v H' P' TT a rvT=>?_⟩
   refine⟨TT,_,_,P',N1,a.into S1 hi rvT,?_⟩
   cases er2:rd ((qd0 0 ρ).set i (.fxd d i)) with
   |bad=>rw[er2] at o1;exact o1.elim
   |brk _=>rw[er2] at o1;exact o1.elim
   |cnt _=>rw[er2] at o1;exact o1.elim
   |exc c fs =>
    rw[er2] at o1
    intro σ2 d2 P2 N2 H2 r2 x2
    refine o1 σ2 d2 P2 N2 H2 (a.regO S1.reg r2) ?_
    rcases x2 with x2 | ⟨dd,f2,v2,h1,h2,h3,h4⟩
    ·exact .inl x2
    ·exact .inr ⟨dd,f2,v2,h1,h2,h3,RepB.dn (C':=C.hv TT fun k=>((σ.set i (some v))[k]?).join) rfl (by simp) h4⟩
   |ret er3 =>
    rw[er2] at o1
    simp only[Out.hv] at o1
    cases en:qd5 er3 with
    |none=>rw[en] at o1;exact o1.elim
    |some d3 =>
     rw[en] at o1
     intro v2 P2 N2 H2 r2 x2
     refine o1 v2 P2 N2 H2 (a.regO S1.reg r2) ?_
     cases er3 with
     |brw _ _=>cases en
     |val d4 b4 =>
      simp only[qd5] at en
      split at en
      ·exact RepB.dn (C':=C.hv TT fun k=>((σ.set i (some v))[k]?).join) rfl (by assumption) x2
      ·cases en
     |fre d4 b4 =>
      simp only[qd5] at en
      split at en
      ·obtain⟨p,xs,rfl,h1,h2,h3,h4,h5⟩:=x2
       exact⟨p,xs,rfl,h1,(qcB h2).2,h3,h4,RepsB.dn (C':=C.hv TT fun k=>((σ.set i (some v))[k]?).join) rfl (by assumption) h5⟩
      ·cases en
   |nx ρ2 =>
    rw[er2] at o1
    simp only[Out.hv] at o1
    intro σ2 P2 N2 H2 S2 sp sn
    split at o1
    case h_2=>exact o1.elim
    rename_i d2 k2 e2
    simp only[qaE] at o1
    split at o1
    case isFalse=>exact o1.elim
    rename_i hk
    simp only[Bool.and_eq_true,beq_iff_eq,List.all_eq_true,Nat.blt_eq] at hk
    obtain⟨hk,htg⟩:=hk
    subst hk
    cases ec:chg cs [(k2,d)] ([],0) with
    |none=>rw[ec] at o1;exact o1.elim
    |some Z' =>
     rw[ec] at o1
     simp only at o1
     have R:=a.out S1 hi rvT S2 sp sn e2 cs.tgs
     exact⟨P2,N2,_,TT,_,_,Z',R,fun l hl=>qeq (by rw[qb5];exact htg l hl) hl,ec,fun σ3 P3 N3 H3 R3 s3 s4=>⟨_,P3,N3,R3.sr,o1.adv ((a1.pp.trans a.pp).trans (sp.trans s3)) (a1.nn.trans (sn.trans s4))⟩⟩
end
end Cm
namespace Cm
open PySem PySem.Spec PyProof.Rows L2
variable [HasT]
section
variable {G:Glo} {P:Hp} {T:TL}
mutual
theorem qhD {p:Addr} {ys:List V} (hp:T p=some ys):∀(d:D) (v:V) {N:Hp},(∀a xs,T a=some xs→a≠p→N a=some (.lst xs))→noK (clV ys) d=true→Rep G P (LT T) d v→Rep G P (fun a xs=>N a=some (.lst xs)) d v
 |.non,_,_,_,_,h=>h
 |.bl _,_,_,_,_,h=>h
 |.int _,_,_,_,_,h=>h
 |.str _,_,_,_,_,h=>h
 |.lst ds,v,N,hN,hk,⟨a,xs,e,h1,h2⟩=>by
  simp only[noK,Bool.and_eq_true,bne_iff_ne] at hk
  have h1:T a=some xs:=h1
  refine⟨a,xs,e,hN a xs h1 fun z=>hk.1 ?_,qc8 hp ds xs hN hk.2 h2⟩
  subst z
  rw[hp] at h1;cases h1
  exact(qbv h2).symm
 |.tup ds,v,N,hN,hk,⟨a,xs,e,h1,h2⟩=>⟨a,xs,e,h1,qc8 hp ds xs hN hk h2⟩
 |.ins _ _,_,_,_,_,h=>h
 |.exc _ _,_,_,_,_,h=>h
theorem qc8 {p:Addr} {ys:List V} (hp:T p=some ys):∀(ds:List D) (vs:List V) {N:Hp},(∀a xs,T a=some xs→a≠p→N a=some (.lst xs))→qh1 (clV ys) ds=true→Reps G P (LT T) ds vs→Reps G P (fun a xs=>N a=some (.lst xs)) ds vs
 |[],_,_,_,_,h=>h
 |d::ds,vs,N,hN,hk,⟨v,r,e,h1,h2⟩=>by
  simp only[qh1,Bool.and_eq_true] at hk
  exact⟨v,r,e,qhD hp d v hN hk.1 h1,qc8 hp ds r hN hk.2 h2⟩
end
end
def NT (T:TL) (p:Addr) (N:Hp):Hp:=fun b=>if b=p then none else match T b with
 |some xs=>some (.lst xs)
 |none=>N b
section
variable {C:Ctx} {P N H P' H':Hp} {T:TL} {p:Addr} {ys:List V}
end
section
variable {T:Tb} {Γ:Env} {C:Ctx} {X:Cx} {sc:Scope}
end
end Cm
namespace Cm
open PySem PySem.Spec PyProof.Rows L2
variable [HasT]
def qmU (p:Addr) (xs:List V):TL:=fun a=>if a=p then some xs else none
def offH (p:Addr) (H:Hp):Hp:=fun a=>if a=p then none else H a
theorem qa0 {p a:Addr} {H:Hp} (h:a≠p):offH p H a=H a:=if_neg h
theorem qcf {P H:Hp} {p:Addr} (h:Cm.Same P H) (n:P p=none):Cm.Same P (offH p H):=⟨fun b u e m=>by
 rw[qa0 (ne_of_none e n)];exact h.g0 _ _ e m,fun b e=>by
 by_cases z:b=p
 ·rw[z];exact n
 ·rw[qa0 z] at e;exact h.free e⟩
section
variable {C:Ctx} {P N H:Hp} {ρ:List Sl} {σ:L2.St}
theorem SR.offH (S:SR C P N H ρ σ) {i:Nat} {ds:List D} {b:Bool} (e:ρ[i]? = some (.own ds b)) {p:Addr} {xs:List V} (eo:σ[i]? = some (some (.ref p))) (hp:H p=some (.lst xs)) (h1:P p=none) (h2:N p=none) (h3:C.B p=none):SR C P N (offH p H) (ρ.set i .non) σ:=by
 have D:=S.drop i
 have wn:∀(j:Nat) (dss:List (List Cm.D)) (u:Option V),(ρ.set i .non)[j]? = some (.row dss)→σ[j]? = some u→¬Held H (.row dss) u p:=fun j dss u ej eu hh=>by
  have q:i≠j:=fun z=>by
   subst z
   rw[List.getElem?_set_self (List.getElem?_eq_some_iff.mp e).1] at ej
   cases ej
  rw[List.getElem?_set_ne q] at ej
  exact q (S.ar.un j i dss _ u _ p ej e eu eo hh .own).symm
 refine⟨⟨qcf D.reg.pH h1,qcf D.reg.nH h2,qcf D.reg.bH h3,D.reg.rB,D.reg.p0,D.reg.pn,D.reg.nw,D.reg.dj,qgE hp D.reg.tb fun a ha=>qa0 ha,D.reg.tf⟩,D.len,fun j s ej=>?_,D.ap,D.ad,D.ar.heap fun j dss q ej eq=>qa0 fun z=>wn j dss _ ej eq (z ▸ .rt)⟩
 obtain⟨o,y1,y2⟩:=D.sl j s ej
 refine⟨o,y1,?_⟩
 cases s with
 |non=>trivial
 |val d b=>exact y2
 |fxd d k=>exact y2
 |own es c =>
  obtain⟨q,ys,rfl,g1,g2⟩:=y2
  refine⟨q,ys,rfl,?_,g2⟩
  have z:i≠j:=fun z=>by
   subst z
   rw[List.getElem?_set_self (List.getElem?_eq_some_iff.mp e).1] at ej
   cases ej
  rw[List.getElem?_set_ne z] at ej
  rw[qa0 (p:=p) (a:=q) fun w=>z (S.ap i j p ds b es c e ej eo (by rw[←w];exact y1))]
  exact g1
 |slf c fs =>
  obtain⟨q,dx,ys,g0,g1,g2⟩:=y2
  exact⟨q,dx,ys,g0,by rw[qa0 fun w=>by rw[w,hp] at g1;cases g1];exact g1,g2⟩
 |dct m c =>
  obtain⟨q,es,rfl,g1,g2⟩:=y2
  exact⟨q,es,rfl,by rw[qa0 fun w=>by rw[w,hp] at g1;cases g1];exact g1,g2⟩
 |row dss =>
  obtain⟨q,ps,rfl,g1,g2,g3,g4,g5,g6⟩:=y2
  refine⟨q,ps,rfl,by rw[qa0 (p:=p) (a:=q) fun w=>wn j dss _ ej y1 (by rw[←w];exact .rt)];exact g1,g2,g3,g4,RowR.sub g5 fun a ha es ⟨ys,k1,k2⟩=>⟨ys,?_,k2⟩,g6⟩
  rw[qa0 (p:=p) (a:=a) fun w=>wn j dss _ ej y1 (by rw[←w];exact .it g1 ha)]
  exact k1
def qm0 (i:Nat) (g:List Sl→Out) (ρ:List Sl):Out:=qaI ρ i fun ds _=>if D.flats ds=true then (g ((qd0 0 (ρ.set i .non)).set i (.fxd (.lst ds) i))).hd ρ i else .bad
end
end Cm
namespace Cm
open PySem PySem.Spec PyProof.Rows L2
variable [HasT]
theorem qek:∀{ds:List D} {a:List Int},dIs ds=some a→ds=a.map D.int
 |[],a,h=>by cases h;rfl
 |.int i::r,a,h=>by
  simp only[dIs] at h
  cases e:dIs r with
  |none=>rw[e] at h;cases h
  |some b=>rw[e] at h;cases h;rw[qek e];rfl
 |.non::_,_,h=>nomatch h
 |.bl _::_,_,h=>nomatch h
 |.str _::_,_,h=>nomatch h
 |.lst _::_,_,h=>nomatch h
 |.tup _::_,_,h=>nomatch h
 |.ins _ _::_,_,h=>nomatch h
 |.exc _ _::_,_,h=>nomatch h
theorem qeE:∀{ds:List D} {a:List (List Int)},dRs ds=some a→ds=a.map fun x=>D.lst (x.map D.int)
 |[],a,h=>by cases h;rfl
 |.lst xs::r,a,h=>by
  simp only[dRs] at h
  cases e:dIs xs with
  |none=>rw[e] at h;cases h
  |some b =>
   cases e2:dRs r with
   |none=>rw[e,e2] at h;cases h
   |some c=>rw[e,e2] at h;cases h;rw[qek e,qeE e2];rfl
 |.non::_,_,h=>nomatch h
 |.bl _::_,_,h=>nomatch h
 |.str _::_,_,h=>nomatch h
 |.int _::_,_,h=>nomatch h
 |.tup _::_,_,h=>nomatch h
 |.ins _ _::_,_,h=>nomatch h
 |.exc _ _::_,_,h=>nomatch h
theorem qif {er:ER} {L:List (List Int)} (h:qiz er=some L):∃b,er=.fre (L.map fun x=>D.lst (x.map D.int)) b∧qd5 er=some (.lst (L.map fun x=>D.lst (x.map D.int)))∧L.Nodup:=by
 unfold qiz at h
 split at h
 ·rename_i ds b
  split at h
  ·rename_i hb
   cases e:dRs ds with
   |none=>rw[e] at h;cases h
   |some M =>
    rw[e] at h
    simp only at h
    split at h
    ·rename_i k
     cases h
     have:=qeE e
     subst this
     exact⟨b,rfl,if_pos hb,k⟩
    ·cases h
  ·cases h
 ·cases h
section
variable {C:Ctx} {P N H P' H':Hp} {T:TL} {ρ:List Sl} {σ:L2.St}
theorem qcM {G:Glo} {S:Addr→List V→Prop}:∀{a:List Int} {xs:List V},Reps G P S (a.map D.int) xs→xs=a.map V.int
 |[],_,h=>h
 |i::a,_,⟨v,r,e,h1,h2⟩=>by
  subst e
  have h1:v=V.int i:=h1
  rw[h1,qcM h2];rfl
theorem qdU:∀{a b:List Int},a.map V.int=b.map V.int→a=b
 |[],[],_=>rfl
 |[],_::_,h=>nomatch h
 |_::_,[],h=>nomatch h
 |x::a,y::b,h=>by
  simp only[List.map_cons,List.cons.injEq] at h
  obtain⟨h1,h2⟩:=h
  cases h1
  rw[qdU h2]
theorem qcj:∀l:List Int,D.flats (l.map D.int)=true
 |[]=>rfl
 |x::l=>by
  have ih:=qcj l
  simp only[List.map_cons,D.flats,D.flat,ih,Bool.and_self]
theorem qcy {G:Glo} {S:Addr→List V→Prop}:∀l:List Int,Reps G P S (l.map D.int) (l.map V.int)
 |[]=>rfl
 |x::l=>⟨.int x,l.map V.int,rfl,rfl,qcy l⟩
theorem qdD {G:Glo}:∀{L:List (List Int)} {xs:List V},Reps G P (LT T) (L.map fun x=>D.lst (x.map D.int)) xs→∃ps:List Addr,xs=ps.map V.ref∧RowR (fun a ds=>∃l:List Int,ds=l.map D.int∧T a=some (l.map V.int)) (L.map fun x=>x.map D.int) ps∧(∀a∈ps,∃l∈L,T a=some (l.map V.int))∧(L.Nodup→ps.Nodup)
 |[],_,h=>⟨[],h,rfl,(fun _ m=>nomatch m),(fun _=>List.nodup_nil)⟩
 |l::L,_,⟨v,r,e,h1,h2⟩=>by
  subst e
  obtain⟨a,ys,rfl,t1,z1⟩:=h1
  have t1:T a=some ys:=t1
  obtain⟨ps,rfl,g1,g2,g3⟩:=qdD h2
  have ey:=qcM z1
  subst ey
  refine⟨a::ps,rfl,⟨a,ps,rfl,⟨l,rfl,t1⟩,g1⟩,fun b hb=>?_,fun nd=>?_⟩
  ·rcases List.mem_cons.mp hb with q | q
   ·subst q;exact⟨l,by simp,t1⟩
   ·obtain⟨m,hm,e⟩:=g2 b q
    exact⟨m,List.mem_cons_of_mem _ hm,e⟩
  ·rw[List.nodup_cons] at nd ⊢
   refine⟨fun m=>?_,g3 nd.2⟩
   obtain⟨k,hk,e⟩:=g2 a m
   rw[t1] at e
   injection e with e
   exact nd.1 (qdU e ▸ hk)
theorem HvR.adv0 (a:HvR P H P' H' T) (r:Reg C P N H):Adv P N H P' N H' where
 hh:=a.hh
 pp:=a.pp
 nn:=Cm.Same.refl _
 pH:=a.pH
 nH:=r.nH.trans a.hh
 tp:=a.tp
 tn:=id
 pn:=a.pn
 nw:=fun b h=>.inl h
 dj:=fun b h h2=>h
theorem qgM {Γ:Env} {i n:Nat} {es:Exs} {g':List Cm.D→RE ER} {D:Ends} (hn:∀ρ r,evs Γ es ρ=.ok r→r.length=n)
  (q:tS C (fun ρ=>(evs Γ es ρ).out fun r=>(g' (r.map ER.d)).out fun er=>match qiz er with
   |some L=>.nx (ρ.set i (.row (L.map fun x=>x.map Cm.D.int)))
   |none=>.bad) D σ H):tAsg (fun σ H Q=>tA C (evs Γ es) σ H fun vs H1=>spD C.G n g' vs H1 Q (fun cls d H'=>C.W cls d σ H')) (gName i) D σ H:=by
 obtain⟨ρ,P,N,S,o⟩:=q
 refine⟨ρ,P,N,S,(o.res S.reg).mono fun r P1 N1 H1 e1 a1 o1 vs rv=>?_⟩
 have S1:=S.adv a1
 refine qeH S1.reg rv (hn _ _ e1) ?_
 cases eg:g' (r.map ER.d) with
 |bad=>rw[eg] at o1;exact o1
 |exc c fs =>
  rw[eg] at o1
  exact fun d P' N' H' ad hx=>o1 σ d P' N' H' (S1.reg.adv ad) hx
 |ok er =>
  rw[eg] at o1
  simp only[RE.out_ok] at o1
  cases ed:qiz er with
  |none=>rw[ed] at o1;exact o1.elim
  |some L =>
   rw[ed] at o1
   obtain⟨fb,rfl,en,nd⟩:=qif ed
   refine⟨.lst (L.map fun x=>Cm.D.lst (x.map Cm.D.int)),en,fun v H' P' TT a rvT=>?_⟩
   obtain⟨p,xs,rfl,t1,z1⟩:=rvT
   have t1:TT p=some xs:=t1
   obtain⟨ps,rfl,g1,g2,g3⟩:=qdD z1
   have ad:=a.adv0 (N:=N1) S1.reg
   have SA:=S1.adv ad
   have hp:=a.t p _ t1
   refine o1 _ P' N1 H' (SR.setW (ps:=ps) S1 SA ad.hh hp.2.1 hp.1 hp.2.2 (S1.reg.nH.free hp.2.1) ⟨?_,g3 nd⟩ fun m=>?_) (a1.pp.trans ad.pp) (a1.nn.trans ad.nn)
   ·refine g1.sub fun b m ds ⟨l,e,q⟩=>?_
    subst e
    have hb:=a.t b _ q
    exact⟨l.map V.int,hb.1,hb.2.1,hb.2.2,S1.reg.nH.free hb.2.1,qcj l,qcy l⟩
   ·obtain⟨l,hl,e⟩:=g2 p m
    rw[t1] at e
    injection e with e
    cases ps with
    |nil=>cases m
    |cons b ps =>
     cases l with
     |nil=>cases e
     |cons x l=>simp only[List.map_cons,List.cons.injEq] at e;cases e.1
theorem SR.setNo (S:SR C P N H ρ σ) (i:Nat) (o:Option V):SR C P N H (ρ.set i .non) (σ.set i o) where
 reg:=S.reg
 len:=by simp[S.len]
 sl:=fun j s e=>by
  rcases qad e with⟨rfl,rfl⟩ | ⟨q,z⟩
  ·have hi:i<ρ.length:=by
    rcases Nat.lt_or_ge i ρ.length with z | z
    ·exact z
    ·rw[List.getElem?_eq_none (by simpa using z)] at e;cases e
   exact⟨o,List.getElem?_set_self (by rw[S.len];exact hi),trivial⟩
  ·rw[List.getElem?_set_ne q]
   exact S.sl j s z
 ap:=fun j k r ds c es c' e1 e2 e3 e4=>by
  rcases qad e1 with⟨_,z⟩ | ⟨q1,z1⟩
  ·cases z
  ·rcases qad e2 with⟨_,z⟩ | ⟨q2,z2⟩
   ·cases z
   ·rw[List.getElem?_set_ne q1] at e3
    rw[List.getElem?_set_ne q2] at e4
    exact S.ap j k r ds c es c' z1 z2 e3 e4
 ad:=S.ad.sub fun j m b e=>by
  rcases qad e with⟨_,z⟩ | ⟨q1,z1⟩
  ·cases z
  ·exact⟨List.getElem?_set_ne q1,_,_,z1⟩
 ar:=⟨fun j l dss t u w a e1 e2 e3 e4 k1 k2=>by
  rcases qad e1 with⟨_,z⟩ | ⟨q1,z1⟩
  ·cases z
  ·rw[List.getElem?_set_ne q1] at e3
   rcases qad e2 with⟨_,z⟩ | ⟨q2,z2⟩
   ·subst z;cases k2
   ·rw[List.getElem?_set_ne q2] at e4
    exact S.ar.un j l dss t u w a z1 z2 e3 e4 k1 k2⟩
theorem SR.dropW (S:SR C P N H ρ σ) {i:Nat} {dss:List (List Cm.D)} {p:Addr} {zs:List V} (e:ρ[i]? = some (.row dss)) (eσ:σ[i]? = some (some (.ref p))):SR C P N (upd H p (.lst zs)) (ρ.set i .non) σ:=by
 obtain⟨p',ps',z1,z2,z3,z4,z5,z6,z7⟩:=S.rootW e
 rw[z1] at eσ;cases eσ
 have D:=S.drop i
 have far:∀{j:Nat} {t:Sl} {o:Option V} {a:Addr},(ρ.set i .non)[j]? = some t→σ[j]? = some o→Held H t o a→a≠p:=fun {j t o a} ej eo k z=>by
  subst z
  rcases qad ej with⟨_,q⟩ | ⟨q,f⟩
  ·subst q;cases k
  ·exact q (S.ar.un i j dss t _ o a e f z1 eo .rt k)
 refine⟨⟨qaj D.reg.pH z3,qaj D.reg.nH z4,qaj D.reg.bH z5,D.reg.rB,D.reg.p0,D.reg.pn,D.reg.nw,D.reg.dj,qbE z2 D.reg.tb,D.reg.tf⟩,D.len,fun j s ej=>?_,D.ap,D.ad,D.ar.heap fun j es r ej ej2=>upd_ne fun er=>far ej ej2 .rt er⟩
 obtain⟨o,y1,y2⟩:=D.sl j s ej
 refine⟨o,y1,?_⟩
 cases s with
 |non=>trivial
 |val d b=>exact y2
 |own es c =>
  obtain⟨r,ys,rfl,y4,y5⟩:=y2
  exact⟨r,ys,rfl,by rw[upd_ne (far ej y1 .own)];exact y4,y5⟩
 |slf c fs =>
  obtain⟨r,dx,ys,y3,y4,y5⟩:=y2
  have hr:r≠p:=fun er=>by rw[er,z2] at y4;cases y4
  exact⟨r,dx,ys,y3,by rw[upd_ne hr];exact y4,y5⟩
 |fxd d k=>exact y2
 |dct m c =>
  obtain⟨r,ys,y3,y4,y5⟩:=y2
  have hr:r≠p:=fun er=>by rw[er,z2] at y4;cases y4
  exact⟨r,ys,y3,by rw[upd_ne hr];exact y4,y5⟩
 |row es =>
  obtain⟨r,qs,rfl,y4,y5,y6,y7,y8,y9⟩:=y2
  refine⟨r,qs,rfl,by rw[upd_ne (far ej y1 .rt)];exact y4,y5,y6,y7,?_,y9⟩
  exact y8.sub fun b m ds ⟨us,g1,g2⟩=>⟨us,by rw[upd_ne (far ej y1 (.it y4 m))];exact g1,g2⟩
theorem qh2 {i:Nat} {g:List Sl→RE ER} {D:Ends} {K:PySem.W.Frag} (q:tS C (fun ρ=>match ρ[i]? with
  |some (.row dss)=>(g ρ).out fun x=>gdO (leB (dss.length+1)) (.nx (ρ.set i .non))
  |_=>.bad) D σ H):tDrop (tBM K "list" rAppend (tVar i) (tCons (tE C g) tNil)) D σ H:=by
 obtain⟨ρ,P,N,S,h⟩:=q
 cases e:ρ[i]? with
 |none=>simp only[e] at h;exact h.elim
 |some s =>
  cases s with
  |row dss =>
   simp only[e] at h
   obtain⟨p,ps,z1,z2,z3,z4,z5,z6,z7⟩:=S.rootW e
   have ln:∀{dss:List (List Cm.D)} {ps:List Addr} {R:Addr→List Cm.D→Prop},RowR R dss ps→ps.length=dss.length:=fun {dss}=>by
    induction dss with
    |nil=>intro ps R h;cases h;rfl
    |cons d r ih=>intro ps R ⟨a,q,e,_,h2⟩;subst e;simp[ih h2]
   refine⟨_,z1,.inl ⟨rfl,ps.map V.ref,.inl (.inl z2)⟩,ρ,P,N,S,(h.res S.reg).mono fun x P1 N1 H1 _ a1 h1 v rv=>?_⟩
   simp only[qaE,qai] at h1
   split at h1
   ·rename_i hl
    refine⟨p,ps.map V.ref,v,rfl,rfl,a1.hh _ _ z2,?_,?_⟩
    ·rw[List.length_map,ln z6]
     have:LIM=sizeLine:=rfl
     omega
    ·exact h1 _ P1 N1 _ ((S.adv a1).dropW e z1) a1.pp a1.nn
   ·exact h1.elim
  |_=>simp only[e] at h;exact h.elim
theorem qei {R:Addr→List Cm.D→Prop}:∀{dss:List (List Cm.D)} {ps:List Addr},RowR R dss ps→ps.length=dss.length
 |[],ps,h=>by cases h;rfl
 |d::r,ps,⟨a,q,e,_,h2⟩=>by subst e;simp[qei h2]
theorem ql7 {α:Type} {D:Ends} {σ:L2.St} {P N H P1 N1:Hp} {r:RE α} {f:α→Out} (rg:Reg C P N H) (h:outS C P1 N1 D (r.out f)):res C σ P N H r fun a _ _ _=>outS C P1 N1 D (f a):=by
 cases r with
 |bad=>exact h
 |ok a=>exact fun _ _ _ _=>h
 |exc c fs=>exact fun d P' N' H' a x=>h σ d P' N' H' (rg.adv a) x
theorem qjM {X:Cx} {gt:List Sl→RE Bool} {g:List Sl→RE ER} {a b i:Nat} {D:Ends} (hK:X.K=C.G.K) (q:tS C (gRz gt g a b i) D σ H) :
  tFor (iZip X.K (tCons (tVar i) (tCons (tE C g) tNil))) (gTup X.K 2 (qdh [a,b])) (tSeq (tIfS (tT C gt) (tS C fun _=>.ret (.val (.bl false) true)) tNext) (tSeq (tDrop (tBM0 X.K "list" rClear (tVar a))) tNext)) D σ H:=by
 rw[hK]
 obtain⟨ρ,P,N,S,h⟩:=q
 unfold gRz at h
 split at h
 ·exact h.elim
 rename_i hg
 simp only[Bool.or_eq_true,beq_iff_eq,Nat.ble_eq,not_or,Nat.not_le] at hg
 obtain⟨hab,hai,hbi,hla⟩:=hg
 split at h
 case h_2=>exact h.elim
 rename_i dss0 e0
 obtain⟨p,ps,z1,z2,z3,z4,z5,z6,z7⟩:=S.rootW e0
 refine⟨.ref p,z1,ρ,P,N,S,(h.res S.reg).mono fun y P1 N1 H1 _ a1 h1 v rv=>?_⟩
 have S1:=S.adv a1
 have r1:=S1.reg
 split at h1
 case h_2=>exact h1.elim
 rename_i es be _
 obtain⟨p2,ys,rfl,y1,y2⟩:=rv
 have hp1:=a1.hh _ _ z2
 refine⟨p,p2,ps.map V.ref,ys,rfl,.inl (.inl hp1),LNb.seq r1.pH r1.nH r1.rH _ _ y1,?_⟩
 refine for_it (walk_zip (K:=C.G.K) (a:=p) (b:=p2) (xs:=ps.map V.ref) (ys:=ys) rfl)
  (Pv:=fun k σ' H'=>∃ρ' P' N' dss,SR C P' N' H' ρ' σ'∧Cm.Same P1 P'∧Cm.Same N1 N'∧outS C P1 N1 D (qho gt a b i be k (es.drop k) ρ')∧ρ'[i]? = some (.row dss)∧σ'[i]? = some (some (.ref p))∧H' p=some (.lst (ps.map V.ref))∧a<ρ'.length) ?_ (fun k σ' H' hk pv=>?_) (fun k x σ' H' H'' hk pv y=>?_) (fun σ' H' pv=>?_)
 ·exact⟨ρ,P1,N1,dss0,S1,Cm.Same.refl _,Cm.Same.refl _,by simpa using h1.adv a1.pp a1.nn,e0,z1,hp1,hla⟩
 ·obtain⟨ρ',P',N',dss,S',s1,s2,o,f1,f2,f3,f4⟩:=pv
  have r2:=S'.reg
  exact⟨.inl (.inl f3),LNb.seq r2.pH r2.nH r2.rH _ _ (LNb.mono s1 s2 _ _ y1)⟩
 ·obtain⟨ρ',P',N',dss,S',s1,s2,o,f1,f2,f3,f4⟩:=pv
  obtain⟨T,vx,vy,rfl,hT,eH,ex,ey⟩:=y
  replace ex:(ps.map V.ref)[k]? = some vx:=ex
  replace ey:ys[k]? = some vy:=ey
  subst eH
  have r2:=S'.reg
  have ad3:Adv P' N' H' (upd P' T (.tup [vx,vy])) N' (upd H' T (.tup [vx,vy])):=(Adv.refl r2.pH r2.nH).newP hT
  have S3:=S'.adv ad3
  -- the row's item
  obtain⟨p',ps',w1,w2,w3,w4,w5,w6,w7⟩:=S3.rootW f1
  rw[f2] at w1;cases w1
  have ep:=ad3.hh _ _ f3
  rw[ep] at w2
  injection w2 with w2
  injection w2 with w2
  have w2:=qaW w2
  subst w2
  rw[List.getElem?_map] at ex
  cases eak:ps[k]? with
  |none=>rw[eak] at ex;cases ex
  |some ak =>
   rw[eak] at ex
   cases ex
   have lk:k<ps.length:=(List.getElem?_eq_some_iff.mp eak).1
   have ld:k<dss.length:=by rw[←qei w6];exact lk
   have edk:dss[k]? = some dss[k]:=List.getElem?_eq_getElem ld
   obtain⟨ak',e1',xs,g1,g2,g3,g4,g5,g6⟩:=w6.get edk
   rw[eak] at e1';cases e1'
   have le:k<es.length:=by rw[←y2.length];exact(List.getElem?_eq_some_iff.mp ey).1
   obtain⟨vy',q1,q2⟩:=Reps.get y2 (List.getElem?_eq_getElem le)
   rw[q1] at ey;cases ey
   rw[List.drop_eq_getElem_cons le] at o
   unfold qho at o
   rw[f1] at o
   simp only[edk] at o
   refine⟨T,[.ref ak,vy],rfl,Same.seqT ad3.pH (.inl (.inl upd_same)),rfl,_,_,rfl,_,_,rfl,rfl,?_⟩
   have mk:ak∈ps:=List.mem_of_getElem? eak
   have S4:=S3.peek
   have sn:=S3.nwN
   have rx:RepB C (upd P' T (.tup [.ref ak,vy])) (NW (upd H' T (.tup [.ref ak,vy])) ρ' σ' N') true (.lst dss[k]) (.ref ak):=⟨ak,xs,rfl,.inl (by rw[qeS f1 f2 (.it ep mk)];exact g1),RepsB.adv (Cm.Same.refl _) sn g6⟩
   have ry:RepB C (upd P' T (.tup [.ref ak,vy])) (NW (upd H' T (.tup [.ref ak,vy])) ρ' σ' N') be es[k] vy:=RepB.adv (s1.trans ad3.pp) (s2.trans sn) q2
   have S5:=(S4.setV (i:=a) rx).setV (i:=b) ry
   refine⟨_,_,_,S5,(ql7 (C:=C) S5.reg o).mono fun c P6 N6 H6 _ a6 h6=>?_⟩
   cases c with
   |true =>
    simp only[if_true] at h6 ⊢
    exact⟨_,_,_,S5.adv a6,h6⟩
   |false =>
    simp only[Bool.false_eq_true,if_false] at h6 ⊢
    have a7:=S3.unpeek a6
    have S8:=S3.adv a7
    have S9:=(S8.setNo a (some (.ref ak))).setNo b (some vy)
    have lσ:a<σ'.length:=by rw[S'.len];exact f4
    have ea:((σ'.set a (some (.ref ak))).set b (some vy))[a]? = some (some (.ref ak)):=by
     rw[List.getElem?_set_ne (fun z=>hab z.symm),List.getElem?_set_self lσ]
    have ei:((σ'.set a (some (.ref ak))).set b (some vy))[i]? = some (some (.ref p)):=by
     rw[List.getElem?_set_ne hbi,List.getElem?_set_ne hai];exact f2
    have eρ:((ρ'.set a .non).set b .non)[i]? = some (.row dss):=by
     rw[List.getElem?_set_ne hbi,List.getElem?_set_ne hai];exact f1
    have g7:=a7.hh _ _ g1
    have ep7:=a7.hh _ _ ep
    have pak:p≠ak:=fun z=>(List.nodup_cons.mp w7).1 (z ▸ mk)
    refine⟨_,ea,.inl ⟨rfl,xs,.inl (.inl g7)⟩,ak,xs,rfl,rfl,g7,?_⟩
    have S10:=S9.writeW (ds':=[]) (xs':=[]) eρ ei ep7 eak rfl rfl
    refine⟨_,_,_,dss.set k [],S10,(s1.trans ad3.pp).trans a7.pp,s2.trans a7.nn,h6,?_,ei,?_,?_⟩
    ·rw[List.getElem?_set_self (by simpa using(List.getElem?_eq_some_iff.mp f1).1)]
    ·rw[upd_ne pak];exact ep7
    ·simpa using f4
 ·obtain⟨ρ',P',N',dss,S',s1,s2,o,f1,f2,f3,f4⟩:=pv
  have n1:(ps.map V.ref).length=dss.length:=by
   obtain⟨p',ps',w1,w2,w3,w4,w5,w6,w7⟩:=S'.rootW f1
   rw[f2] at w1;cases w1
   rw[f3] at w2
   injection w2 with w2
   injection w2 with w2
   have w2:=qaW w2
   subst w2
   rw[List.length_map,qei w6]
  have n2:ys.length=es.length:=y2.length
  have fin:qho gt a b i be (min (ps.map V.ref).length ys.length) (es.drop (min (ps.map V.ref).length ys.length)) ρ'=.nx ρ':=by
   rw[n1,n2]
   cases ed:es.drop (min dss.length es.length) with
   |nil=>rfl
   |cons x r =>
    have lt:min dss.length es.length<es.length:=by
     rcases Nat.lt_or_ge (min dss.length es.length) es.length with z | z
     ·exact z
     ·rw[List.drop_eq_nil_iff.mpr z] at ed;cases ed
    have e:min dss.length es.length=dss.length:=by omega
    unfold qho
    rw[f1,e]
    simp only[List.getElem?_eq_none (Nat.le_refl _)]
  rw[fin] at o
  exact o σ' P' N' H' S' s1 s2
end
end Cm
namespace Cm
open PySem PySem.Spec PyProof.Rows L2
variable [HasT]
section
variable {C:Ctx} {X:Cx}
theorem qdM {ss:List Stmt} {g:List Sl→Out} (h:PSs X (ss++[]) (tSk C g tNext)):PSs X ss (tS C g):=by rw[List.append_nil] at h;exact h
theorem qgS {g g':List Sl→Out} {u:TS} {D:Ends} {σ:L2.St} {H:Hp} (q:tSk C g u D σ H) (e:∀ρ,g ρ=g' ρ):tSk C g' u D σ H:=by
 have:g=g':=funext e
 rw[←this];exact q
theorem qkg {u:TS} {D:Ends} {σ:L2.St} {H:Hp} (q:tSk C (fun ρ=>Out.nx ρ) u D σ H):u D σ H:=by
 obtain⟨ρ,P,N,S,o⟩:=q
 exact o σ P N H S (Cm.Same.refl _) (Cm.Same.refl _)
theorem qiq {g g':List Sl→Out} {u:TS} {D:Ends} {σ:L2.St} {H:Hp} (q:tSk C (fun ρ=>(g ρ).seq g') u D σ H):tSeq (tS C g) (tSk C g' u) D σ H:=by
 obtain⟨ρ,P,N,S,h⟩:=q
 refine⟨ρ,P,N,S,?_⟩
 show outS C P N { D with nx:=tSk C g' u D } (g ρ)
 cases e:g ρ with
 |nx ρ'=>simp only[e,Out.seq_nx] at h;exact fun σ P' N' H' S e1 e2=>⟨ρ',P',N',S,h.adv e1 e2⟩
 |bad=>simp only[e] at h;exact h
 |brk ρ'=>simp only[e] at h;exact h
 |cnt ρ'=>simp only[e] at h;exact h
 |ret er=>simp only[e] at h;exact h
 |exc c fs=>simp only[e] at h;exact h
theorem qj6 {i:Nat} {g:List Sl→Out} {u:TS} {D:Ends} {σ:L2.St} {H:Hp} (q:tSk C (fun ρ=>qaI ρ i fun ds b=>g (ρ.set i (.val (.lst ds) b))) u D σ H):tSk C g u D σ H:=qiJ (D:={ D with nx:=u D }) q
end
theorem qhj {T:Tb} {Γ:Env} {C:Ctx} {X:Cx} {sc:Scope} (I:XOk T Γ C X none sc):∀(es:Exs) {xs:List Expr},qar T es none sc xs=true→xs.all qac=true→PA X xs (tF C (evF Γ es))
 |.nil,xs,h,_=>by
  unfold qar at h
  cases xs with
  |nil=>exact qbS qiU fun σ H Q q=>q
  |cons _ _=>cases h
 |.cons e es,xs,h,hs=>by
  unfold qar at h
  cases xs with
  |nil=>cases h
  |cons x xs =>
   simp only[Bool.and_eq_true,List.all_cons] at h hs
   have:=qgp (qab e I h.1).1 (qhj I es h.2 hs.2) (qaa hs.1)
   exact qbS this fun σ H Q q=>by
    obtain⟨ρ,P,N,S,k⟩:=q
    exact⟨ρ,P,N,S,by rw[evF] at k;exact k⟩
mutual
theorem qjt {T:Tb} {Γ:Env} {C:Ctx} {X:Cx} {sc:Scope} (I:XOk T Γ C X none sc) (hp:PassesOwn (model X.prog X.w) X.A X.env X.xe) (hF:FrOk X):∀(ir:Sm) {s:Stmt},qcb T sc ir s=true→PS X s (tS C (run Γ ir))
 |.nev,s,h=>qaA qfD fun ρ=>by rw[run]
 |.asg i e,s,h=>by
  unfold qcb at h
  split at h
  case h_2=>cases h
  simp only[Bool.and_eq_true,decide_eq_true_eq] at h
  obtain⟨⟨⟨h1,h2⟩,h3⟩,h4⟩:=h
  exact qaA (qaf (qfQ I h1 h2 h3 h4) fun D σ H q=>qix q) fun ρ=>by rw[run]
 |.own i e,s,h=>by
  unfold qcb at h
  split at h
  case h_2=>cases h
  simp only[Bool.and_eq_true,decide_eq_true_eq] at h
  obtain⟨⟨⟨h1,h2⟩,h3⟩,h4⟩:=h
  exact qaA (qaf (qfQ I h1 h2 h3 h4) fun D σ H q=>qhX q) fun ρ=>by rw[run]<;>rfl
 |.asgT tg e,s,h=>by
  unfold qcb at h
  split at h
  case h_2=>cases h
  simp only[Bool.and_eq_true] at h
  obtain⟨⟨⟨h1,h2⟩,h3⟩,h5⟩:=h
  exact qaA (qgw (qab e I h3).1 (qb3 I h1) (qgL h2) (qfe h5) (qhA h2)) fun ρ=>by rw[run]<;>rfl
 |.put i ix e,s,h=>by
  unfold qcb at h
  split at h
  case h_2=>cases h
  simp only[Bool.and_eq_true,decide_eq_true_eq] at h
  obtain⟨⟨⟨⟨⟨h1,h2⟩,h3⟩,h4⟩,h5⟩,h6⟩:=h
  obtain⟨n1,n2⟩:=qby h3
  refine qaA (qaf (ps_asg (qab e I h6).1 (pg_sub (pe_var (i:=i) (by rw[I.nm];exact h1) (qbd I.sc h2) n1 n2) (qab ix I h5).1 set_list (qfZ h4)) qev qcD rfl) fun D σ H q=>qhQ q) fun ρ=>by rw[run]<;>rfl
 |.app i e,s,h=>by
  unfold qcb at h
  split at h
  case h_2=>cases h
  simp only[Bool.and_eq_true,decide_eq_true_eq] at h
  obtain⟨⟨⟨⟨⟨⟨h1,h2⟩,h3⟩,rfl⟩,h5⟩,h6⟩,h7⟩:=h
  obtain⟨n1,n2⟩:=qby h3
  refine qaA (qaf (ps_expr (pe_bm PySem.F.plainAttrs_list PySem.F.slot_list_append PySem.F.type_list_append mt_append (pe_var (i:=i) (by rw[I.nm];exact h1) (qbd I.sc h2) n1 n2) (pa_cons (qab e I h5).1 pa_nil (qaa h6)) rfl (qc0 h6) h7 (qaa h6) rfl) rfl) fun D σ H q=>qhF q) fun ρ=>by rw[run]
 |.ext i e,s,h=>by
  unfold qcb at h
  split at h
  case h_2=>cases h
  simp only[Bool.and_eq_true,decide_eq_true_eq] at h
  obtain⟨⟨⟨⟨⟨⟨h1,h2⟩,h3⟩,rfl⟩,h5⟩,h6⟩,h7⟩:=h
  obtain⟨n1,n2⟩:=qby h3
  refine qaA (qaf (ps_expr (pe_bm PySem.F.plainAttrs_list PySem.F.slot_list_extend PySem.F.type_list_extend mt_extend (pe_var (i:=i) (by rw[I.nm];exact h1) (qbd I.sc h2) n1 n2) (pa_cons (qab e I h5).1 pa_nil (qaa h6)) rfl (qc0 h6) h7 (qaa h6) rfl) rfl) fun D σ H q=>qig q) fun ρ=>by rw[run]<;>rfl
 |.clr i,s,h=>by
  unfold qcb at h
  split at h
  case h_2=>cases h
  simp only[Bool.and_eq_true,decide_eq_true_eq] at h
  obtain⟨⟨⟨⟨h1,h2⟩,h3⟩,rfl⟩,h7⟩:=h
  obtain⟨n1,n2⟩:=qby h3
  refine qaA (qaf (ps_expr (pe_bm0 PySem.F.plainAttrs_list PySem.F.slot_list_clear PySem.F.type_list_clear mt_clear (pe_var (i:=i) (by rw[I.nm];exact h1) (qbd I.sc h2) n1 n2) rfl h7) rfl) fun D σ H q=>qiM q) fun ρ=>by rw[run]
 |.expr e,s,h=>by
  unfold qcb at h
  split at h
  case h_2=>cases h
  simp only[Bool.and_eq_true] at h
  exact qaA (qgu (qab e I h.1).1 (qdH h.2)) fun ρ=>by rw[run]
 |.ret e,s,h=>by
  unfold qcb at h
  split at h
  case h_2=>cases h
  exact qaA (qfo (qab e I h).1) fun ρ=>by rw[run]
 |.retN,s,h=>by
  unfold qcb at h
  split at h
  case h_2=>cases h
  exact qaA qgo fun ρ=>by rw[run]
 |.pas,s,h=>by
  unfold qcb at h
  split at h
  ·exact qaA qg4 fun ρ=>by rw[run]
  ·exact qaA qiy fun ρ=>by rw[run]
  ·cases h
 |.brk,s,h=>by
  unfold qcb at h
  split at h
  case h_2=>cases h
  exact qaA qhV fun ρ=>by rw[run]
 |.cnt,s,h=>by
  unfold qcb at h
  split at h
  case h_2=>cases h
  exact qaA qhH fun ρ=>by rw[run]
 |.iff c a b,s,h=>by
  unfold qcb at h
  split at h
  case h_2=>cases h
  simp only[Bool.and_eq_true] at h
  exact qaA (qh9 (qcl c I h.1.1) (qdM (qa1 I hp hF a h.1.2 pss_nil)) (qdM (qa1 I hp hF b h.2 pss_nil))) fun ρ=>by rw[run]
 |.for it tg b,s,h=>by
  unfold qcb at h
  split at h
  case h_2=>cases h
  simp only[Bool.and_eq_true] at h
  obtain⟨⟨⟨h1,h2⟩,h3⟩,h4⟩:=h
  exact qaA (qaf (ps_for hp I.calm (qfu it I h1) (qb3 I h2) (qdM (qa1 I hp hF b h3 pss_nil)) (qc5 h4)) fun D σ H q=>qit q) fun ρ=>by rw[run]<;>rfl
 |.ins i ix e,s,h=>by
  unfold qcb at h
  split at h
  case h_2=>cases h
  simp only[Bool.and_eq_true,decide_eq_true_eq] at h
  obtain⟨⟨⟨⟨⟨⟨⟨⟨h1,h2⟩,h3⟩,rfl⟩,h5⟩,h6⟩,h8⟩,h9⟩,h7⟩:=h
  obtain⟨n1,n2⟩:=qby h3
  refine qaA (qaf (ps_expr (pe_bm PySem.F.plainAttrs_list PySem.F.slot_list_insert PySem.F.type_list_insert mt_insert (pe_var (i:=i) (by rw[I.nm];exact h1) (qbd I.sc h2) n1 n2) (pa_cons (qab ix I h5).1 (pa_cons (qab e I h8).1 pa_nil (qaa h9)) (qaa h6)) rfl (qhP h6 h9) h7 (qaa h6) (qiW h9)) rfl) fun D σ H q=>qiT q) fun ρ=>by rw[run]<;>rfl
 |.row i es,s,h=>by
  unfold qcb at h
  split at h
  case h_2=>cases h
  simp only[Bool.and_eq_true,decide_eq_true_eq] at h
  obtain⟨⟨⟨h1,h2⟩,h3⟩,h4⟩:=h
  obtain⟨t1,t2⟩:=qeh I h2
  exact qaA (qaf (ps_asg (pe_lst (qhj I es h3 h4)) (pg_name I.nd (by rw[I.nm];exact h1) t1 t2)) fun D σ H q=>qil q) fun ρ=>by rw[run]
 |.rowc i f es,s,h=>by
  unfold qcb at h
  unfold qgb at h
  split at h
  case h_2=>cases h
  rename_i x pn y p xs q pos
  simp only[Bool.and_eq_true,decide_eq_true_eq] at h
  obtain⟨⟨⟨⟨⟨⟨h1,h2⟩,h3⟩,h4⟩,h5⟩,h6⟩,h7⟩:=h
  obtain⟨t1,t2⟩:=qeh I h2
  cases e:Γ.fn[f]? with
  |none=>exact qaA qfD fun ρ=>by rw[run,e]
  |some g =>
   obtain⟨k,a,fd,ps,m,gf,F,hr,hm,hk,dv,dvs,dus,hb,hdv,hdm,hdr,hgf⟩:=I.fn f y xs.length h3 g e
   refine qaA (qaf (ps_set I.nd (by rw[I.nm];exact h1) t1 (qc9 (C:=C) F hr (qbc I.sc h4) hm hk hb hdv hdm hdr hgf I.tk (qa5 es I h6 h7) (qby h5).1 (qb7 h7) (fun z ρ=>qd8 h6 z ρ)) rfl t2) fun D σ H q=>qgM (fun ρ r er=>qaY es ρ r xs h6 er) q) fun ρ=>by rw[run,e]<;>rfl
 |.rz a b i e c,s,h=>by
  unfold qcb at h
  split at h
  case h_2=>cases h
  rename_i t z zp x xp y zpos cd v rp ifp w wp mn apos cpos epos fpos
  simp only[Bool.and_eq_true,decide_eq_true_eq] at h
  obtain⟨⟨⟨⟨⟨⟨⟨⟨⟨⟨⟨⟨⟨⟨⟨rfl,hz⟩,h1⟩,h2⟩,h3⟩,he⟩,hn⟩,hu⟩,ht⟩,hc⟩,hv⟩,g1⟩,g2⟩,g3⟩,rfl⟩,h7⟩:=h
  obtain⟨n1,n2⟩:=qby h3
  obtain⟨m1,m2⟩:=qby g3
  cases t<;>try exact(Bool.false_ne_true hu).elim
  rename_i ts kt tp
  simp only[qd4,Bool.and_eq_true] at ht
  obtain⟨g3,g4,g5,g6⟩:=qcc I _ _ ht.2
  have hs:qac (.Name x xp)=true:=rfl
  have it:=pi_zip (tpos:=tp) (elts:=ts) (kk:=kt) (p:=zp) (pos:=zpos) (qbc I.sc hz) (I.blt _ (by decide)) (pa_cons (pe_var (i:=i) (pos:=xp) (by rw[I.nm];exact h1) (qbd I.sc h2) n1 n2) (pa_cons (qab e I he).1 pa_nil (qaa hn)) (qaa hs)) (qaa hs) (qbK (by simp[hn]))
  have r1:PSs X [.Return (some v) rp] (tS C fun _=>.ret (.val (.bl false) true)):=qah (qfI (qfo (qab (.cbl false) I hv).1) qgK) fun D σ H q=>by
   obtain⟨ρ,P,N,S,o⟩:=q
   refine⟨ρ,P,N,S,?_⟩
   have e1:ev Γ (.cbl false) ρ=ok (.bl false):=by rw[ev]
   show outS C P N D (((ev Γ (.cbl false) ρ).out fun x=>.ret (qkp x)).seq fun ρ=>.nx ρ)
   rw[e1]
   exact o
  have body:=pss_cons (ps_if (pos:=ifp) (qcl c I hc) r1 pss_nil) (pss_cons (ps_expr (pos:=epos) (pe_bm0 PySem.F.plainAttrs_list PySem.F.slot_list_clear PySem.F.type_list_clear mt_clear (pe_var (i:=a) (pos:=wp) (by rw[I.nm];exact g1) (qbd I.sc g2) m1 m2) rfl h7) rfl) pss_nil)
  exact qaA (qaf (ps_for hp I.calm it (pg_tup I.calm g3 (by rw[g5,g4];rfl) g6) body (fun _=>rfl)) fun D σ H q=>qjM I.K q) fun ρ=>by rw[run]<;>rfl
 |.rdr i e,s,h=>by
  unfold qcb at h
  split at h
  case h_2=>cases h
  simp only[Bool.and_eq_true,decide_eq_true_eq] at h
  obtain⟨⟨⟨⟨⟨⟨h1,h2⟩,h3⟩,rfl⟩,h5⟩,h6⟩,h7⟩:=h
  obtain⟨n1,n2⟩:=qby h3
  exact qaA (qaf (ps_expr (pe_bm PySem.F.plainAttrs_list PySem.F.slot_list_append PySem.F.type_list_append mt_append (pe_var (i:=i) (by rw[I.nm];exact h1) (qbd I.sc h2) n1 n2) (pa_cons (qab e I h5).1 pa_nil (qaa h6)) rfl (qc0 h6) h7 (qaa h6) rfl) rfl) fun D σ H q=>qh2 q) fun ρ=>by rw[run]<;>rfl
 |.whl c b,s,h=>by
  unfold qcb at h
  split at h
  case h_2=>cases h
  simp only[Bool.and_eq_true] at h
  exact qaA (qaf (ps_while hp (qcl c I h.1) (qdM (qa1 I hp hF b h.2 pss_nil))) fun D σ H q=>qiS q) fun ρ=>by rw[run]
theorem qa1 {T:Tb} {Γ:Env} {C:Ctx} {X:Cx} {sc:Scope} (I:XOk T Γ C X none sc) (hp:PassesOwn (model X.prog X.w) X.A X.env X.xe) (hF:FrOk X):∀(ir:Sms) {ss rest:List Stmt} {u:TS},qap T sc ir ss=true→PSs X rest u→PSs X (ss++rest) (tSk C (qae Γ ir) u)
 |.nil,ss,rest,u,h,hr=>by
  unfold qap at h
  cases ss with
  |nil=>exact qah hr fun D σ H q=>qkg (qgS q fun ρ=>by rw[qae])
  |cons _ _=>cases h
 |.cons s ir,ss,rest,u,h,hr=>by
  unfold qap at h
  cases ss with
  |nil=>cases h
  |cons st ss =>
   simp only[Bool.and_eq_true] at h
   refine qah (pss_cons (qjt I hp hF s h.1) (qa1 I hp hF ir h.2 hr)) fun D σ H q=>qiq (qgS q fun ρ=>by rw[qae])
 |.frz i ir,ss,rest,u,h,hr=>by
  unfold qap at h
  refine qah (qa1 I hp hF ir h hr) fun D σ H q=>qj6 (i:=i) (qgS q fun ρ=>by rw[qae])
 |.hav i f es rd cs ir,ss,rest,u,h,hr=>by
  unfold qap at h
  cases ss with
  |nil=>cases h
  |cons st ss =>
   simp only[Bool.and_eq_true] at h
   obtain⟨⟨⟨h1,h2⟩,h3⟩,h4⟩:=h
   cases e:Γ.fn[f]? with
   |none =>
    refine qah pss_never fun D σ H q=>?_
    obtain⟨ρ,P,N,S,o⟩:=q
    rw[qae,e] at o
    exact o.elim
   |some g =>
    obtain⟨n,hn,hs⟩:=qi9 I h1 g e
    have in_:PSs X (ss++rest) (tIn C (qae Γ rd) (tCk C cs (tSk C (qae Γ ir) u))):=by
     have e1:ss++rest=ss.take rd.len++((ss.drop rd.len).take cs.len++((ss.drop rd.len).drop cs.len++rest)):=by
      rw[←List.append_assoc ((ss.drop rd.len).take cs.len),List.take_append_drop,←List.append_assoc,List.take_append_drop]
     rw[e1]
     have k:=qbs (C:=C) I hp cs h3 (qa1 I hp hF ir h4 hr)
     exact⟨fun pins s σ H D I' q=>by
      obtain⟨TT,fx,q⟩:=q
      exact(qa1 (I.hv (TT:=TT) (fx:=fx)) hp hF rd h2 k).run pins s σ H D I' q⟩
    refine qah (pss_cons hs in_) fun D σ H q=>qjG hn (qgS q fun ρ=>by rw[qae,e]<;>rfl)
end
theorem qij {T:Tb} {Γ:Env} {C:Ctx} {X:Cx} {sc:Scope} (I:XOk T Γ C X none sc) (hp:PassesOwn (model X.prog X.w) X.A X.env X.xe) (hF:FrOk X) (ir:Sms) {ss:List Stmt} (h:qap T sc ir ss=true):PSs X ss (tS C (qae Γ ir)):=qdM (qa1 I hp hF ir h pss_nil)
end Cm
namespace Cm
open PySem PySem.Spec PyProof.Rows L2
variable [HasT]
structure TabOk (P:Program) (w:World) (K:PySem.W.Frag) (mg:Str→Option Value) (base:Heap) (T:Tb) (Γ:Env) (G:Glo) (k:Nat):Prop where
 blt:∀x∈bltNames,mg x=none
 fn:∀(f:Nat) (x:Str) (n:Nat),T.fn[f]? = some (x,n)→∀g,Γ.fn[f]? = some g→∃(j:Nat) (a:Addr) (fd:FuncData) (ps:List Str) (m:Nat) (gf:List D→RE ER),j≤k∧FnOk P w K mg base (L2.CX P w) j a fd ps (spD G (n+m) gf)∧mg x=some (.ref a)∧PySem.W.keepIn K (.ref a)=true∧Part K G fd ps n m g.2 gf
 gc:∀(i:Nat) (x:Str),T.gc[i]? = some x→∀c,Γ.gc[i]? = some c→∃u v,mg x=some u∧RelV v u∧(∀(P N R:Hp),Rep G P (LNb G.K P N R true) c.2 v)∧WrT G v
 mt:∀(m:Nat) (x:Str) (n:Nat),T.mn[m]? = some (x,n)→∀c g,Γ.mt c m=some g→Cls K (G.ca c)∧x∉G.fl c∧∃(j:Nat) (a:Addr) (fd:FuncData) (ps:List Str),j≤k∧Meth K (G.ca c) x a∧FnOk P w K mg base (L2.CX P w) j a fd ps (spD G (n+1) g)∧Binds K fd ps []
 fs:∀(f:Nat) (x:Str),T.fs[f]? = some x→∀c i,Γ.fi c f=some i→Cls K (G.ca c)∧NoAttr K (G.ca c) x∧(G.fl c)[i]? = some x∧(G.fl c).Nodup
 nw:∀(i:Nat) (x:Str) (n:Nat),T.nw[i]? = some (x,n)→∀g,Γ.nw[i]? = some g→(∃(j:Nat) (a:Addr) (fd:FuncData) (ps:List Str),j+1≤k∧Mk K (G.ca g.1) a∧FnOk P w K mg base (L2.CX P w) j a fd ps (spI G g.1 n g.2)∧mg x=some (.ref (G.ca g.1))∧Binds K fd ps []) ∨
  (n=0∧g.2 []=.ok []∧Mk0 K (G.ca g.1)∧G.fl g.1=[]∧mg x=some (.ref (G.ca g.1)))
 ck:∀(i:Nat) (x:Str) (own:Bool),T.ck[i]? = some (x,own)→CkOk G K mg x own Γ.ck[i]? Γ.ik[i]?
 xk:∀(i:Nat) (x:Str),T.xk[i]? = some x→∀c,Γ.xk[i]? = some c→RsOk K mg (G.ca c) x
 dc:∀(i:Nat) (x:Str),T.dc[i]? = some x→∀t,Γ.dc[i]? = some t→qkj G K w mg x t.2
 fo:∀(f:Nat) (x:Str) (n:Nat),T.fo[f]? = some (x,n)→∀g,Γ.fo[f]? = some g→∃(j:Nat) (a:Addr) (fd:FuncData) (ps:List Str),j≤k∧FnOk P w K mg base (L2.CX P w) j a fd ps (spO G n g.1 g.2)∧mg x=some (.ref a)∧PySem.W.keepIn K (.ref a)=true∧Binds K fd ps []
def LmOk (K:PySem.W.Frag) (base:Heap) (mg:Str→Option Value) (lm:Option (Addr × Addr)) (f:Addr) (qual:Str):Prop:=∀c P,lm=some (c,P)→(∀o fd,K.lookup f=some o→o.data=.func fd→fd.code=.ref c)∧LamX.TabB base mg c P ∧
 (P,(qual ++ ".<locals>.") ++ "<lambda>")∈HasT.T∧∀p∈HasT.T,p.1=P→p.2=(qual ++ ".<locals>.") ++ "<lambda>"
theorem LmOk.no {K:PySem.W.Frag} {base:Heap} {mg:Str→Option Value} {lm:Option (Addr × Addr)} {f:Addr} {qual:Str} (h:lm=none):LmOk K base mg lm f qual:=fun c P e=>by rw[h] at e;cases e
theorem qgV {P:Program} {w:World} {K:PySem.W.Frag} {mg:Str→Option Value} {base:Heap} {x qual:Str} {params:Arguments} {body:List Stmt} {scope:Scope} {dvs:List V} {kws:List (Str × V)} {f:Addr} {fd:FuncData} {CX:CXT} {N ps:List Str} {k:Nat} {sp:Sp} (F:FunD K x qual params body scope dvs kws f fd) (S:FnScope N ps scope) (len:∀vs H Q E,sp vs H Q E→vs.length=ps.length)
  (hbody:∀(cdv:Value),(∃o fd',K.lookup f=some o∧o.data=.func fd'∧fd'.code=cdv)→∀(A:Around) (outer:List PySem.Env) (s:Shared) (H:Hp) (vs:List V) (Q:VK) (E:XK),Room k (A.deeper (envOfC qual scope s.heap.objs.size f cdv))→sp vs H Q E →
   ∃t,PSs (cxOf CX P w K mg base N qual scope f cdv A outer s H E) body t∧t { nx:=fun _ H'=>Q .non H',rt:=Q } (L2.start N vs) H):FnOk P w K mg base CX (k+1) f fd ps sp:=by
 obtain⟨oc,od,dV,kV,doc,pm,an,cdv,ct,osl,rfl,lk,hcd,_,_⟩:=F.ex
 exact fn_of lk hcd S len fun A outer s H vs Q E hr hsp=>hbody cdv ⟨_,_,lk,rfl,rfl⟩ A outer s H vs Q E hr hsp
theorem qg2 {G:Glo} {P N R:Hp}:∀{ds:List D} {vs:List V},Reps G P (SqL G.K R) ds vs→Reps G P (LNb G.K P N R false) ds vs:=fun {ds vs} h=>Reps.mono (Cm.Same.refl _) ds vs LNb.ofR h
theorem qgZ {C:Ctx} {ds:List D} {vs:List V} {N:List Str} {m:Nat} (hp:Same C.P0 C.B) (hr:Same C.R C.B∧qb0 C.B∧TF C.P0∧TF C.R) (h:Reps C.G C.P0 (SqL C.G.K C.R) ds vs) (hm:N.length=ds.length+m) :
  SR C C.P0 (fun _=>none) C.B (ds.map (fun d=>Sl.val d d.flat)++List.replicate m .non) (L2.start N vs) where
 reg:=⟨hp,Same.nil,Cm.Same.refl _,hr.1,Cm.Same.refl _,fun _ e=>.inl e,fun _ e=>absurd rfl e,fun _ e=>absurd rfl e,hr.2.1,⟨hr.2.2.1,TF.nil,hr.2.2.2⟩⟩
 len:=by
  have:=h.length
  simp only[L2.start,List.length_append,List.length_map,List.length_replicate]
  try omega
 sl:=fun i s e=>by
  have hl:=h.length
  by_cases hi:i<ds.length
  ·rw[List.getElem?_append_left (by simpa using hi),List.getElem?_map,List.getElem?_eq_getElem hi] at e
   cases e
   obtain⟨v,q1,q2⟩:=(qg2 (N:=fun _=>none) h).get (List.getElem?_eq_getElem hi)
   refine⟨some v,?_,v,rfl,RepB.nf (C:=C) q2⟩
   unfold L2.start
   rw[List.getElem?_append_left (by simp;omega),List.getElem?_map,q1]
   rfl
  ·rw[List.getElem?_append_right (by simpa using hi),List.getElem?_replicate] at e
   split at e
   ·rename_i hm'
    cases e
    refine⟨none,?_,trivial⟩
    unfold L2.start
    simp only[List.length_map] at hm'
    rw[List.getElem?_append_right (by simp;omega),List.getElem?_replicate,if_pos]
    simp only[List.length_map]
    omega
   ·cases e
 ap:=fun i j p es b es' c e1 _ _ _=>by
  exfalso
  have:=List.mem_of_getElem? e1
  rcases List.mem_append.mp this with z | z
  ·obtain⟨_,_,z⟩:=List.mem_map.mp z;cases z
  ·have:=List.eq_of_mem_replicate z;cases this
 ad:=AD.no fun i s e=>by
  rcases List.mem_append.mp (List.mem_of_getElem? e) with z | z
  ·obtain⟨_,_,rfl⟩:=List.mem_map.mp z;rfl
  ·rw[List.eq_of_mem_replicate z];rfl
 ar:=AR.no fun i s e=>by
  rcases List.mem_append.mp (List.mem_of_getElem? e) with z | z
  ·obtain⟨_,_,rfl⟩:=List.mem_map.mp z;rfl
  ·rw[List.eq_of_mem_replicate z];rfl
theorem qj8 {P:Program} {w:World} {K:PySem.W.Frag} {mg:Str→Option Value} {base:Heap} {x qual:Str} {params:Arguments} {body:List Stmt} {scope:Scope} {dvs:List V} {kws:List (Str × V)} {f:Addr} {fd:FuncData} {T:Tb} {Γ:Env} {G:Glo} {k m:Nat} {ps:List Str} {ir:Sms}
  (F:FunD K x qual params body scope dvs kws f fd) (S:FnScope T.N ps scope) (hG:G.K=K) (tab:TabOk P w K mg base T Γ G k) (hm:T.N.length=ps.length+m) (hc:qap T scope ir body=true) (hlm:LmOk K base mg T.lm f qual) :
  FnOk P w K mg base (L2.CX P w) (k+1) f fd ps (spD G ps.length (qde Γ ps.length m ir)):=by
 refine qgV F S (fun vs H Q E h=>qh4 h) (fun cdv hcd A outer s H vs Q E hr h=>?_)
 obtain⟨Pr,R,ds,h1,h2,h3,h4,h5⟩:=h
 let C:Ctx:=⟨G,R,H,Pr,fun cls d _ H'=>E cls d H',0,fun _=>none⟩
 have I:XOk T Γ C (cxOf (L2.CX P w) P w K mg base T.N qual scope f cdv A outer s H E) none scope:={
  nm:=rfl
  nd:=S.nd
  sc:=rfl
  K:=hG.symm
  tk:=takes_of rfl rfl rfl rfl
  fr:=fun _=>⟨rfl,rfl,rfl⟩
  lam:=fun _ c P e=>by
   obtain⟨a1,a2,a3,a4⟩:=hlm c P e
   obtain⟨o,fd',b1,b2,b3⟩:=hcd
   exact⟨b3.symm.trans (a1 o fd' b1 b2),a2,a3,a4,hr.depth⟩
  fo:=fun i y n e g eg=>by
   obtain⟨j,a,fd',ps',hj,q1,q2,q3,q4⟩:=tab.fo i y n e g eg
   exact⟨j,a,fd',ps',q1,hr.mono hj,q2,q3,q4⟩
  calm:=rfl
  un:=by
   have h:=hr.un
   have e:(cxOf (L2.CX P w) P w K mg base T.N qual scope f cdv A outer s H E).A=A.deeper (envOfC qual scope s.heap.objs.size f cdv):=rfl
   rw[e]
   omega
  blt:=tab.blt
  fnc:=rfl
  fn:=fun i y n e g eg=>by
   obtain⟨j,a,fd',ps',m',gf,hj,q1,q2,q3,q4⟩:=tab.fn i y n e g eg
   exact⟨j,a,fd',ps',m',gf,q1,hr.mono hj,q2,q3,q4⟩
  gc:=fun i y e c ec=>by
   obtain⟨u,v,q1,q2,q3,q4⟩:=tab.gc i y e c ec
   exact⟨u,v,q1,q2,fun P N=>q3 P N R,q4⟩
  mt:=fun i y n e c g eg=>by
   obtain⟨q0,q1,j,a,fd',ps',hj,q2,q3,q4⟩:=tab.mt i y n e c g eg
   exact⟨q0,q1,j,a,fd',ps',q2,q3,hr.mono hj,q4⟩
  fs:=fun i y e c j ej=>by
   obtain⟨q0,q1,q2,q3⟩:=tab.fs i y e c j ej
   exact⟨q0,q1,q2,q3⟩
  nw:=fun i y n e g eg=>by
   rcases tab.nw i y n e g eg with⟨j,a,fd',ps',hj,q1,q2,q3,q4⟩ | q
   ·exact⟨.inl ⟨j,a,fd',ps',q1,q2,hr.mono hj,q3,q4⟩⟩
   ·exact⟨.inr q⟩
  ck:=tab.ck
  xk:=tab.xk
  dc:=tab.dc }
 have hp:PassesOwn (model (cxOf (L2.CX P w) P w K mg base T.N qual scope f cdv A outer s H E).prog (cxOf (L2.CX P w) P w K mg base T.N qual scope f cdv A outer s H E).w) (cxOf (L2.CX P w) P w K mg base T.N qual scope f cdv A outer s H E).A (cxOf (L2.CX P w) P w K mg base T.N qual scope f cdv A outer s H E).env (cxOf (L2.CX P w) P w K mg base T.N qual scope f cdv A outer s H E).xe:=
  passes_of (K:=fun e s''=>L2.CX P w outer H s E e s'') rfl
 refine⟨tS C (qae Γ ir),qij I hp ⟨rfl,rfl,rfl⟩ ir hc,ds.map (fun d=>Sl.val d d.flat)++List.replicate m .non,Pr,fun _=>none,qgZ (C:=C) h1 h2 h3 (by rw[hm,h4]),?_⟩
 unfold qde at h5
 rw[if_pos h4] at h5
 have adv:∀{P' N' H':Hp},Reg C P' N' H'→Adv Pr (fun _=>none) H P' N' H':=fun {P' N' H'} r=>⟨⟨r.bH,fun _=>r.tb⟩,r.p0,Same.nil,r.pH,r.nH,r.pn,fun a q=>.inr (r.nw a q),fun a q q2=>absurd (r.dj a q) q2,fun _=>r.tf.1,fun _=>r.tf.2.1⟩
 cases e:qae Γ ir (ds.map (fun d=>Sl.val d d.flat)++List.replicate m .non) with
 |bad=>rw[e] at h5;exact h5.elim
 |brk ρ=>rw[e] at h5;exact h5.elim
 |cnt ρ=>rw[e] at h5;exact h5.elim
 |nx ρ=>rw[e] at h5;exact fun σ P' N' H' S' _ _=>h5 .non H' P' N' (adv S'.reg) rfl
 |ret er =>
  rw[e] at h5
  intro v P' N' H' r q
  exact h5 v H' P' N' (adv r) (by cases er<;>exact q)
 |exc c fs =>
  rw[e] at h5
  intro σ d P' N' H' r q
  exact h5 d H' P' N' (adv r) q
end Cm
namespace Cm
open PySem PySem.Spec PyProof.Rows L2 PySem.W
variable [HasT]
structure DefAt (P:Program) (w:World) (K:PySem.W.Frag) (mg:Str→Option Value) (base:Heap) (G:Glo) (k:Nat) (x:Str) (n:Nat) (g:List D→RE ER):Prop where
 ex:∃(j:Nat) (a:Addr) (fd:FuncData) (ps:List Str) (m:Nat) (gf:List D→RE ER),j≤k∧FnOk P w K mg base (L2.CX P w) j a fd ps (spD G (n+m) gf)∧mg x=some (.ref a)∧PySem.W.keepIn K (.ref a)=true∧Part K G fd ps n m g gf
theorem DefAt.mono {P:Program} {w:World} {K:PySem.W.Frag} {mg:Str→Option Value} {base:Heap} {G:Glo} {k k':Nat} {x:Str} {n:Nat} {g:List D→RE ER} (h:DefAt P w K mg base G k x n g) (e:k≤k'):DefAt P w K mg base G k' x n g:=by
 obtain⟨⟨j,a,fd,ps,m,gf,q,r⟩⟩:=h
 exact⟨⟨j,a,fd,ps,m,gf,Nat.le_trans q e,r⟩⟩
def FnsOk (P:Program) (w:World) (K:PySem.W.Frag) (mg:Str→Option Value) (base:Heap) (G:Glo) (k:Nat):List (Str × Nat)→List (Str × (List D→RE ER))→Prop
 |t::ts,g::gs=>DefAt P w K mg base G k t.1 t.2 g.2∧FnsOk P w K mg base G k ts gs
 |_,_=>True
theorem FnsOk.get {P:Program} {w:World} {K:PySem.W.Frag} {mg:Str→Option Value} {base:Heap} {G:Glo} {k:Nat}:∀{ts:List (Str × Nat)} {gs:List (Str × (List D→RE ER))},FnsOk P w K mg base G k ts gs →
  ∀(f:Nat) (x:Str) (n:Nat),ts[f]? = some (x,n)→∀g,gs[f]? = some g→∃(j:Nat) (a:Addr) (fd:FuncData) (ps:List Str) (m:Nat) (gf:List D→RE ER),j≤k∧FnOk P w K mg base (L2.CX P w) j a fd ps (spD G (n+m) gf)∧mg x=some (.ref a)∧PySem.W.keepIn K (.ref a)=true∧Part K G fd ps n m g.2 gf
 |[],_,_,f,x,n,e,_,_=>by simp at e
 |_::_,[],_,f,x,n,_,g,e=>by simp at e
 |t::ts,g::gs,⟨h,hs⟩,0,x,n,e,g',e'=>by
  simp at e e'
  subst e e'
  exact h.ex
 |t::ts,g::gs,⟨h,hs⟩,f+1,x,n,e,g',e'=>FnsOk.get hs f x n (by simpa using e) g' (by simpa using e')
theorem qj5 {fa:List He.Fa} {fn:List He.DefD} {K:PySem.W.Frag} {h:Heap} {mg:Str→Option Value} (c:He.SaysD (bltNames.map He.Fa.free++fa) fn K) (X:K.In h) (N:h.Ns mainGlobals mg):∀x∈bltNames,mg x=none:=fun x hx=>by
 have hm:He.Fa.free x∈bltNames.map He.Fa.free++fa:=List.mem_append_left _ (List.mem_map_of_mem hx)
 obtain⟨i,hi⟩:=List.getElem?_of_mem hm
 exact He.free_ok X N (c.fact i hi)
structure MthAt (P:Program) (w:World) (K:PySem.W.Frag) (mg:Str→Option Value) (base:Heap) (G:Glo) (k:Nat) (c:Nat) (x:Str) (n:Nat) (g:List D→RE ER):Prop where
 ex:Cls K (G.ca c)∧x∉G.fl c∧∃(j:Nat) (a:Addr) (fd:FuncData) (ps:List Str),j≤k∧Meth K (G.ca c) x a∧FnOk P w K mg base (L2.CX P w) j a fd ps (spD G (n+1) g)∧Binds K fd ps []
theorem MthAt.mono {P:Program} {w:World} {K:PySem.W.Frag} {mg:Str→Option Value} {base:Heap} {G:Glo} {k k' c:Nat} {x:Str} {n:Nat} {g:List D→RE ER} (h:MthAt P w K mg base G k c x n g) (e:k≤k'):MthAt P w K mg base G k' c x n g:=by
 obtain⟨h1,h2,j,a,fd,ps,q,r⟩:=h
 exact⟨h1,h2,j,a,fd,ps,Nat.le_trans q e,r⟩
def MtsOk (P:Program) (w:World) (K:PySem.W.Frag) (mg:Str→Option Value) (base:Heap) (G:Glo) (k:Nat) (mn:List (Str × Nat)):List (Nat × Nat × (List D→RE ER))→Prop
 |[]=>True
 |t::ts=>(∀x n,mn[t.2.1]? = some (x,n)→MthAt P w K mg base G k t.1 x n t.2.2)∧MtsOk P w K mg base G k mn ts
theorem MtsOk.get {P:Program} {w:World} {K:PySem.W.Frag} {mg:Str→Option Value} {base:Heap} {G:Glo} {k:Nat} {mn:List (Str × Nat)}:∀{ts:List (Nat × Nat × (List D→RE ER))},MtsOk P w K mg base G k mn ts →
  ∀(m:Nat) (x:Str) (n:Nat),mn[m]? = some (x,n)→∀c g,qa8 ts c m=some g→MthAt P w K mg base G k c x n g
 |[],_,m,x,n,_,c,g,e=>by cases e
 |t::ts,⟨h,hs⟩,m,x,n,e,c,g,e'=>by
  unfold qa8 at e'
  split at e'
  ·rename_i h1
   split at e'
   ·rename_i h2
    subst h1 h2
    cases e'
    exact h x n e
   ·exact MtsOk.get hs m x n e c g e'
  ·exact MtsOk.get hs m x n e c g e'
def qli (K:PySem.W.Frag) (G:Glo) (c i:Nat) (x:Str):Prop:=Cls K (G.ca c)∧NoAttr K (G.ca c) x∧(G.fl c)[i]? = some x∧(G.fl c).Nodup
def FdsOk (K:PySem.W.Frag) (G:Glo) (fs:List Str):List (Nat × Nat × Nat)→Prop
 |[]=>True
 |t::ts=>(∀x,fs[t.2.1]? = some x→qli K G t.1 t.2.2 x)∧FdsOk K G fs ts
theorem FdsOk.get {K:PySem.W.Frag} {G:Glo} {fs:List Str}:∀{ts:List (Nat × Nat × Nat)},FdsOk K G fs ts→∀(f:Nat) (x:Str),fs[f]? = some x→∀c i,qbb ts c f=some i→qli K G c i x
 |[],_,f,x,_,c,i,e=>by cases e
 |t::ts,⟨h,hs⟩,f,x,e,c,i,e'=>by
  unfold qbb at e'
  split at e'
  ·rename_i h1
   split at e'
   ·rename_i h2
    subst h1 h2
    cases e'
    exact h x e
   ·exact FdsOk.get hs f x e c i e'
  ·exact FdsOk.get hs f x e c i e'
structure NwAt (P:Program) (w:World) (K:PySem.W.Frag) (mg:Str→Option Value) (base:Heap) (G:Glo) (k:Nat) (x:Str) (n:Nat) (c:Nat) (g:List D→RE (List D)):Prop where
 ex:(∃(j:Nat) (a:Addr) (fd:FuncData) (ps:List Str),j+1≤k∧Mk K (G.ca c) a∧FnOk P w K mg base (L2.CX P w) j a fd ps (spI G c n g)∧mg x=some (.ref (G.ca c))∧Binds K fd ps []) ∨
  (n=0∧g []=.ok []∧Mk0 K (G.ca c)∧G.fl c=[]∧mg x=some (.ref (G.ca c)))
theorem NwAt.mono {P:Program} {w:World} {K:PySem.W.Frag} {mg:Str→Option Value} {base:Heap} {G:Glo} {k k':Nat} {x:Str} {n c:Nat} {g:List D→RE (List D)} (h:NwAt P w K mg base G k x n c g) (e:k≤k'):NwAt P w K mg base G k' x n c g:=by
 rcases h.ex with⟨j,a,fd,ps,q,r⟩ | q
 ·exact⟨.inl ⟨j,a,fd,ps,Nat.le_trans q e,r⟩⟩
 ·exact⟨.inr q⟩
def NwsOk (P:Program) (w:World) (K:PySem.W.Frag) (mg:Str→Option Value) (base:Heap) (G:Glo) (k:Nat):List (Str × Nat)→List (Nat × (List D→RE (List D)))→Prop
 |t::ts,g::gs=>NwAt P w K mg base G k t.1 t.2 g.1 g.2∧NwsOk P w K mg base G k ts gs
 |_,_=>True
theorem NwsOk.get {P:Program} {w:World} {K:PySem.W.Frag} {mg:Str→Option Value} {base:Heap} {G:Glo} {k:Nat}:∀{ts:List (Str × Nat)} {gs:List (Nat × (List D→RE (List D)))},NwsOk P w K mg base G k ts gs →
  ∀(f:Nat) (x:Str) (n:Nat),ts[f]? = some (x,n)→∀g,gs[f]? = some g→NwAt P w K mg base G k x n g.1 g.2
 |[],_,_,f,x,n,e,_,_=>by simp at e
 |_::_,[],_,f,x,n,_,g,e=>by simp at e
 |t::ts,g::gs,⟨h,hs⟩,0,x,n,e,g',e'=>by
  simp at e e'
  subst e e'
  exact h
 |t::ts,g::gs,⟨h,hs⟩,f+1,x,n,e,g',e'=>NwsOk.get hs f x n (by simpa using e) g' (by simpa using e')
def qlh (G:Glo) (mg:Str→Option Value) (x:Str) (c:D):Prop:=∃u v,mg x=some u∧RelV v u∧(∀(P N R:Hp),Rep G P (LNb G.K P N R true) c v)∧WrT G v
def GcsOk (G:Glo) (mg:Str→Option Value):List Str→List (Str × D)→Prop
 |t::ts,g::gs=>qlh G mg t g.2∧GcsOk G mg ts gs
 |_,_=>True
theorem GcsOk.get {G:Glo} {mg:Str→Option Value}:∀{ts:List Str} {gs:List (Str × D)},GcsOk G mg ts gs→∀(f:Nat) (x:Str),ts[f]? = some x→∀g,gs[f]? = some g→qlh G mg x g.2
 |[],_,_,f,x,e,_,_=>by simp at e
 |_::_,[],_,f,x,_,g,e=>by simp at e
 |t::ts,g::gs,⟨h,hs⟩,0,x,e,g',e'=>by
  simp at e e'
  subst e e'
  exact h
 |t::ts,g::gs,⟨h,hs⟩,f+1,x,e,g',e'=>GcsOk.get hs f x (by simpa using e) g' (by simpa using e')
def qmP (G:Glo) (K:PySem.W.Frag) (x:Str) (own:Bool) (t:List (Nat × Bool)):Prop:=∀c b,t.lookup c=some b→PySem.W.kitOne K (.ref (G.ca c)) (cv K x own)=some b∧PySem.W.exmOne K (.ref (G.ca c)) (cv K x own)=some b∧ExcC K (G.ca c)
def qmV (G:Glo) (K:PySem.W.Frag) (x:Str) (own:Bool) (t:List (Nat × Bool)):Prop:=∀c b,t.lookup c=some b→PySem.W.kitOne K (.ref (G.ca c)) (cv K x own)=some b∧InsC K (G.ca c)
def CksOk (G:Glo) (K:PySem.W.Frag) (mg:Str→Option Value):List (Str × Bool)→List (Nat→Option Bool)→List (Nat→Option Bool)→Prop
 |t::ts,a::as,b::bs=>CkOk G K mg t.1 t.2 (some a) (some b)∧CksOk G K mg ts as bs
 |[],_,_=>True
 |_,_,_=>False
theorem CksOk.get {G:Glo} {K:PySem.W.Frag} {mg:Str→Option Value}:∀{ts:List (Str × Bool)} {as bs:List (Nat→Option Bool)},CksOk G K mg ts as bs→∀(f:Nat) (x:Str) (own:Bool),ts[f]? = some (x,own)→CkOk G K mg x own as[f]? bs[f]?
 |[],_,_,_,f,x,own,e=>by simp at e
 |_::_,[],_,h,f,x,own,e=>h.elim
 |_::_,_::_,[],h,f,x,own,e=>h.elim
 |t::ts,a::as,b::bs,⟨h,hs⟩,0,x,own,e=>by
  simp at e
  subst e
  exact h
 |t::ts,a::as,b::bs,⟨h,hs⟩,f+1,x,own,e=>by
  simp only[List.getElem?_cons_succ]
  exact CksOk.get hs f x own (by simpa using e)
def XksOk (G:Glo) (K:PySem.W.Frag) (mg:Str→Option Value):List Str→List Nat→Prop
 |t::ts,c::cs=>RsOk K mg (G.ca c) t∧XksOk G K mg ts cs
 |_,_=>True
theorem XksOk.get {G:Glo} {K:PySem.W.Frag} {mg:Str→Option Value}:∀{ts:List Str} {cs:List Nat},XksOk G K mg ts cs→∀(f:Nat) (x:Str),ts[f]? = some x→∀c,cs[f]? = some c→RsOk K mg (G.ca c) x
 |[],_,_,f,x,e,_,_=>by simp at e
 |_::_,[],_,f,x,_,c,e=>by simp at e
 |t::ts,g::gs,⟨h,hs⟩,0,x,e,g',e'=>by
  simp at e e'
  subst e e'
  exact h
 |t::ts,g::gs,⟨h,hs⟩,f+1,x,e,g',e'=>XksOk.get hs f x (by simpa using e) g' (by simpa using e')
def DcsOk (G:Glo) (K:PySem.W.Frag) (w:World) (mg:Str→Option Value):List Str→List (Str × List (List Nat × Option D))→Prop
 |t::ts,g::gs=>qkj G K w mg t g.2∧DcsOk G K w mg ts gs
 |_,_=>True
theorem DcsOk.get {G:Glo} {K:PySem.W.Frag} {w:World} {mg:Str→Option Value}:∀{ts:List Str} {gs:List (Str × List (List Nat × Option D))},DcsOk G K w mg ts gs→∀(f:Nat) (x:Str),ts[f]? = some x→∀g,gs[f]? = some g→qkj G K w mg x g.2
 |[],_,_,f,x,e,_,_=>by simp at e
 |_::_,[],_,f,x,_,g,e=>by simp at e
 |t::ts,g::gs,⟨h,hs⟩,0,x,e,g',e'=>by
  simp at e e'
  subst e e'
  exact h
 |t::ts,g::gs,⟨h,hs⟩,f+1,x,e,g',e'=>DcsOk.get hs f x (by simpa using e) g' (by simpa using e')
structure FoAt (P:Program) (w:World) (K:PySem.W.Frag) (mg:Str→Option Value) (base:Heap) (G:Glo) (k:Nat) (x:Str) (n q:Nat) (g:List D→RE ER):Prop where
 ex:∃(j:Nat) (a:Addr) (fd:FuncData) (ps:List Str),j≤k∧FnOk P w K mg base (L2.CX P w) j a fd ps (spO G n q g)∧mg x=some (.ref a)∧PySem.W.keepIn K (.ref a)=true∧Binds K fd ps []
theorem FoAt.mono {P:Program} {w:World} {K:PySem.W.Frag} {mg:Str→Option Value} {base:Heap} {G:Glo} {k k':Nat} {x:Str} {n q:Nat} {g:List D→RE ER} (h:FoAt P w K mg base G k x n q g) (e:k≤k'):FoAt P w K mg base G k' x n q g:=by
 obtain⟨⟨j,a,fd,ps,h1,r⟩⟩:=h
 exact⟨⟨j,a,fd,ps,Nat.le_trans h1 e,r⟩⟩
def FosOk (P:Program) (w:World) (K:PySem.W.Frag) (mg:Str→Option Value) (base:Heap) (G:Glo) (k:Nat):List (Str × Nat)→List (Nat × (List D→RE ER))→Prop
 |t::ts,g::gs=>FoAt P w K mg base G k t.1 t.2 g.1 g.2∧FosOk P w K mg base G k ts gs
 |_,_=>True
theorem FosOk.get {P:Program} {w:World} {K:PySem.W.Frag} {mg:Str→Option Value} {base:Heap} {G:Glo} {k:Nat}:∀{ts:List (Str × Nat)} {gs:List (Nat × (List D→RE ER))},FosOk P w K mg base G k ts gs →
  ∀(f:Nat) (x:Str) (n:Nat),ts[f]? = some (x,n)→∀g,gs[f]? = some g→∃(j:Nat) (a:Addr) (fd:FuncData) (ps:List Str),j≤k∧FnOk P w K mg base (L2.CX P w) j a fd ps (spO G n g.1 g.2)∧mg x=some (.ref a)∧PySem.W.keepIn K (.ref a)=true∧Binds K fd ps []
 |[],_,_,f,x,n,e,_,_=>by simp at e
 |_::_,[],_,f,x,n,_,g,e=>by simp at e
 |t::ts,g::gs,⟨h,hs⟩,0,x,n,e,g',e'=>by
  simp at e e'
  subst e e'
  exact h.ex
 |t::ts,g::gs,⟨h,hs⟩,f+1,x,n,e,g',e'=>FosOk.get hs f x n (by simpa using e) g' (by simpa using e')
theorem qeY {P:Program} {w:World} {K:PySem.W.Frag} {h:Heap} {mg:Str→Option Value} {base:Heap} {G:Glo} {fa:List He.Fa} {fn:List He.DefD} {T:Tb} {Γ:Env} {k:Nat} {mts:List (Nat × Nat × (List D→RE ER))} {fds:List (Nat × Nat × Nat)}
  (c:He.SaysD (bltNames.map He.Fa.free++fa) fn K) (X:K.In h) (N:h.Ns mainGlobals mg) (hf:FnsOk P w K mg base G k T.fn Γ.fn) (hgc:GcsOk G mg T.gc Γ.gc) (hmt:Γ.mt=qa8 mts) (hm:MtsOk P w K mg base G k T.mn mts)
  (hfi:Γ.fi=qbb fds) (hfd:FdsOk K G T.fs fds) (hnw:NwsOk P w K mg base G k T.nw Γ.nw) (hck:CksOk G K mg T.ck Γ.ck Γ.ik) (hxk:XksOk G K mg T.xk Γ.xk) (hdc:DcsOk G K w mg T.dc Γ.dc) (hfo:FosOk P w K mg base G k T.fo Γ.fo:=by exact True.intro):TabOk P w K mg base T Γ G k where
 blt:=qj5 c X N
 fn:=hf.get
 gc:=hgc.get
 mt:=fun m x n e c g e'=>by
  rw[hmt] at e'
  exact(hm.get m x n e c g e').ex
 fs:=fun f x e c i e'=>by
  rw[hfi] at e'
  exact hfd.get f x e c i e'
 nw:=fun i x n e g e'=>(hnw.get i x n e g e').ex
 ck:=hck.get
 xk:=hxk.get
 dc:=hdc.get
 fo:=hfo.get
section
variable {P:Program} {w:World} {K:PySem.W.Frag} {h:Heap} {mg:Str→Option Value} {base:Heap} {G:Glo} {fa:List He.Fa} {fn:List He.DefD} {T:Tb} {Γ:Env} {k m i j:Nat} {ir:Sms} {ps:List Str} {d:He.DefD} {x y:Str}
theorem qgh (c:He.SaysD fa fn K) (X:K.In h) (N:h.Ns mainGlobals mg) (hG:G.K=K) (hd:fn[i]? = some d) (hat:d.at_=(x,none)) (hdf:d.dfl=[]) (hkw:d.kwd=[]) (hx:fa[j]? = some (.glo x))
  (S:FnScope T.N ps d.scope) (hm:T.N.length=ps.length+m) (hc:qap T d.scope ir d.body=true)
  (hb:∀(kV doc pm:Value) (an:Option Addr) (cdv ct:Value) (us:List Value),us.length=ps.length→bindArgs (PySem.W.fnOf d.name d.qual d.params d.body d.scope .none kV doc pm an cdv ct) ⟨us,[]⟩=pure (ps.zip us))
  (tab:TabOk P w K mg base T Γ G k) (hlm:T.lm=none∨LmOk K base mg T.lm (He.fAd K (x,none)) d.qual:=by exact .inl rfl):DefAt P w K mg base G (k+1) x ps.length (qde Γ ps.length m ir):=by
 obtain⟨fd,F⟩:=c.def_ i hd
 have e1:d.dvs K=[]:=by unfold He.DefD.dvs;rw[hdf];rfl
 have e2:d.kws K=[]:=by unfold He.DefD.kws;rw[hkw];rfl
 rw[e1,e2,hat] at F
 exact⟨⟨k+1,_,fd,ps,0,_,Nat.le_refl _,qj8 F S hG tab hm hc (hlm.elim LmOk.no id),He.glo_ok X N (c.fact j hx),F.kp,Part.all (FunD.bindsN F hb)⟩⟩
theorem FnOk.bad {P:Program} {w:World} {K:PySem.W.Frag} {mg:Str→Option Value} {base:Heap} {CX:CXT} {k n:Nat} {f:Addr} {fd:FuncData} {ps:List Str} {G:Glo}:FnOk P w K mg base CX k f fd ps (spD G n fun _=>.bad):=
 ⟨fun _ _ _ _ ⟨_,_,_,_,_,_,_,h⟩=>h.elim,fun _ _ _ _ _ _ _ _ _ _ _ _ _ ⟨_,_,_,_,_,_,_,h⟩=>h.elim⟩
end
theorem qlY {P:Program} {w:World} {K:PySem.W.Frag} {h:Heap} {mg:Str→Option Value} {G:Glo} {fa:List He.Fa} {fn:List He.DefD} {T:Tb} {Γ:Env} {k m i j:Nat} {ir:Sms} {y:Str} {d:He.DefD} {x:Str} {f:Addr}
  (c:He.SaysD fa fn K) (X:K.In h) (N:h.Ns mainGlobals mg) (hG:G.K=K) (hd:fn[i]? = some d) (hat:d.at_=(x,none)) (hdf:d.dfl=[]) (hkw:d.kwd=[]) (hx:fa[j]? = some (.glo x)) (hfa:mg x=some (.ref f))
  (S:FnScope T.N [y] d.scope) (hm:T.N.length=1+m) (hc:qap T d.scope ir d.body=true)
  (hb:∀(kV doc pm:Value) (an:Option Addr) (cdv ct:Value) (us:List Value),us.length=1→bindArgs (PySem.W.fnOf d.name d.qual d.params d.body d.scope .none kV doc pm an cdv ct) ⟨us,[]⟩=pure ([y].zip us))
  (tab:∀base:Heap,K.In base→base.Ns mainGlobals mg→TabOk P w K mg base T Γ G k) (hlm:T.lm=none:=by rfl) :
  ∃fd:FuncData,(∀(s:Shared) (u:Value),BindsTo s fd ⟨[u],[]⟩ [(y,u)])∧∀base:Heap,K.In base→base.Ns mainGlobals mg→FnOk P w K mg base (L2.CX P w) (k+1) f fd [y] (spD G 1 (qde Γ 1 m ir)):=by
 obtain⟨fd,F⟩:=c.def_ i hd
 have e1:d.dvs K=[]:=by unfold He.DefD.dvs;rw[hdf];rfl
 have e2:d.kws K=[]:=by unfold He.DefD.kws;rw[hkw];rfl
 rw[e1,e2,hat] at F
 have e:=hfa.symm.trans (He.glo_ok X N (c.fact j hx))
 cases e
 exact⟨fd,fun s u=>FunD.bindsA (ps:=[y]) F hb s [u] rfl,fun base hB hN=>qj8 F S hG (tab base hB hN) hm hc (LmOk.no hlm)⟩
theorem qiw {l:PySem.W.OpenLaw} {w:World} {K:PySem.W.Frag} {mg:Str→Option Value} {f:Addr} {h:Heap} {G:Glo} {g:List D→RE ER} {k n:Nat} {y:Str} (hG:G.K=K)
  {cs:List (Addr × Addr)} (hcs:∀x∈HasT.T,∃p∈cs,p.2=x.1) (c1:∀p∈cs,h.get? p.2=some { cls:=.none,data:=.fields #[] }) (c2:∀p∈cs,K.lookup p.2=none) (c3:∀p∈cs,PySem.W.CodeHd h p.1 p.2)
  (ok:∃fd:FuncData,(∀(s:Shared) (u:Value),BindsTo s fd ⟨[u],[]⟩ [(y,u)])∧∀base:Heap,K.In base→base.Ns mainGlobals mg→(∀p∈cs,LamX.TabB base mg p.1 p.2)→FnOk l.prog w K mg base (L2.CX l.prog w) k f fd [y] (spD G 1 g))
  (tr:∀ns:List Int,ns.length≤n→(∀z∈ns,Builtin.Int.intBits z≤1048576)→∃b,g [.lst (ns.map D.int)]=.ok (.val (.bl true) b)):LamX.LawAtS l w K (L2.CX l.prog w) k n y mg f h:=by
 obtain⟨fd,hb,hF⟩:=ok
 refine⟨fd,cs,spD G 1 g,c1,c2,c3,hb,fun H a ns hl hz hH hS=>?_,fun base h1 h2 h3=>hF base h1 h2 h3⟩
 obtain⟨b,e⟩:=tr ns hl hz
 have ht:qb0 H:=fun x hx=>by
  obtain⟨p,hp,e⟩:=hcs x hx
  exact LamX.TabS.nil (e ▸ hH p hp)
 refine⟨fun _=>none,qbO H,[.lst (ns.map D.int)],Same.nil,⟨qbQ H,ht,TF.nil,qcY H⟩,⟨_,[],rfl,⟨a,_,rfl,hG ▸ qcp hS,Reps.ints.mpr rfl⟩,rfl⟩,rfl,?_⟩
 rw[e]
 intro v H' P' N' _ q
 exact q
theorem law_at {l:PySem.W.OpenLaw} {w:World} {K:PySem.W.Frag} {mg:Str→Option Value} {f:Addr} {h:Heap} {G:Glo} {g:List D→RE ER} {k n:Nat} {y:Str} (hG:G.K=K)
  (ok:∃fd:FuncData,(∀(s:Shared) (u:Value),BindsTo s fd ⟨[u],[]⟩ [(y,u)])∧∀base:Heap,K.In base→base.Ns mainGlobals mg→FnOk l.prog w K mg base (L2.CX l.prog w) k f fd [y] (spD G 1 g))
  (tr:∀ns:List Int,ns.length≤n→(∀z∈ns,Builtin.Int.intBits z≤1048576)→∃b,g [.lst (ns.map D.int)]=.ok (.val (.bl true) b)) (h0:HasT.T=[]:=by rfl):LamX.LawAtS l w K (L2.CX l.prog w) k n y mg f h:=
 qiw hG (cs:=[]) (by rw[h0];intro x hx;cases hx) (fun p hp=>(nomatch hp)) (fun p hp=>(nomatch hp)) (fun p hp=>(nomatch hp)) (let ⟨fd,hb,hF⟩:=ok;⟨fd,hb,fun base h1 h2 _=>hF base h1 h2⟩) tr
def qnk (q:Program) (mg:Str→Option Value) (h:Heap):Prop:=∀d∈recsOf q,∃a o fd c P,mg d.name=some (.ref a)∧h.get? a=some o∧o.data=.func fd∧fd.code=.ref c∧h.IsCode c P #[]∧h.TableAt c P #[]
theorem cx_end {P:Program} {w:World} (H:Hp) (s:Shared) (e:Value) (s':Shared) (h:L2.CX P w [] H s (fun _ _ _=>False) e s'):False:=by
 obtain⟨a,B,H',cls,d,_,_,_,_,_,_,_,z⟩:=h
 exact z
end Cm
namespace K02
open Cm
def qa4:Sms:=(.cons (.iff (.val (.cmp .lt (.var 1) (.pri .len (.cons (.var 0) .nil)))) (.cons (.ret (.idx (.var 0) (.var 1)))
  .nil) .nil)
  (.cons (.asg 2 (.bin .add (.bin .mul (.cint 7) (.var 1)) (.cint 3)))
  (.cons (.iff (.val (.cmp .gt (.pri .len (.cons (.var 0) .nil)) (.cint 0))) (.cons (.asg 2 (.bin .add (.var 2) (.bin .mul (.bin .mdl (.idx (.var 0) (.bin .mdl (.var 1) (.pri .len (.cons (.var 0) .nil)))) (.cint 1000003)) (.bin .add (.var 1) (.cint 1)))))
  .nil) .nil)
  (.cons (.ret (.bin .add (.bin .mdl (.bin .mul (.var 2) (.var 2)) (.cint 999979)) (.bin .mdl (.var 2) (.cint 101))))
  .nil))))
def qbI:Env:={ fn:=[],gc:=[],mn:=[],mt:=qa8 [],fs:=[],fi:=qbb [],nw:=[],ck:=[],ik:=[],xk:=[] }
def g__law_at:List D→RE ER:=qde qbI 2 1 qa4
def qaw:Sms:=(.cons (.asg 1 (.bin .add (.cint 1) (.bin .mdl (.call 0 (.cons (.var 0) (.cons (.cint 0) .nil))) (.cint 6))))
  (.cons (.asg 2 (.bin .add (.cint 1) (.bin .mdl (.call 0 (.cons (.var 0) (.cons (.cint 1) .nil))) (.pri .min2 (.cons (.cint 6) (.cons (.bin .fdv (.cint 16) (.var 1)) .nil))))))
  (.cons (.ret (.tup (.cons (.var 1) (.cons (.var 2) (.cons (.bin .add (.cint 1) (.bin .mdl (.call 0 (.cons (.var 0) (.cons (.cint 2) .nil))) (.cint 6))) .nil)))))
  .nil)))
def qaO:Env:={ fn:=[("_law_at",g__law_at)],gc:=[],mn:=[],mt:=qa8 [],fs:=[],fi:=qbb [],nw:=[],ck:=[],ik:=[],xk:=[] }
def g__law_floor:List D→RE ER:=qde qaO 1 2 qaw
def qaF:Sms:=(.cons (.ret (.cmp .eq (.bin .add (.pri .abs (.cons (.bin .sub (.idx (.var 0) (.cint 0)) (.idx (.var 1) (.cint 0))) .nil)) (.pri .abs (.cons (.bin .sub (.idx (.var 0) (.cint 1)) (.idx (.var 1) (.cint 1))) .nil))) (.cint 1)))
  .nil)
def qaZ:Env:={ fn:=[],gc:=[],mn:=[],mt:=qa8 [],fs:=[],fi:=qbb [],nw:=[],ck:=[],ik:=[],xk:=[] }
def g__law_near:List D→RE ER:=qde qaZ 2 0 qaF
def qbf:Sms:=(.cons (.ret (.tup (.cons (.bin .fdv (.var 1) (.idx (.var 0) (.cint 1))) (.cons (.bin .mdl (.var 1) (.idx (.var 0) (.cint 1))) .nil))))
  .nil)
def qbz:Env:={ fn:=[],gc:=[],mn:=[],mt:=qa8 [],fs:=[],fi:=qbb [],nw:=[],ck:=[],ik:=[],xk:=[] }
def g_spot_of:List D→RE ER:=qde qbz 2 0 qbf
def qbw:Sms:=(.cons (.asgT [2,3,4] (.var 0))
  (.cons (.asgT [5,6] (.call 0 (.cons (.var 0) (.cons (.var 1) .nil))))
  (.cons (.own 7 (.lst .nil))
  (.cons (.iff (.val (.cmp .gt (.var 5) (.cint 0))) (.cons (.app 7 (.bin .sub (.var 1) (.var 3)))
  .nil) .nil)
  (.cons (.iff (.val (.cmp .gt (.var 6) (.cint 0))) (.cons (.app 7 (.bin .sub (.var 1) (.cint 1)))
  .nil) .nil)
  (.cons (.iff (.val (.cmp .lt (.var 6) (.bin .sub (.var 3) (.cint 1)))) (.cons (.app 7 (.bin .add (.var 1) (.cint 1)))
  .nil) .nil)
  (.cons (.iff (.val (.cmp .lt (.var 5) (.bin .sub (.var 2) (.cint 1)))) (.cons (.app 7 (.bin .add (.var 1) (.var 3)))
  .nil) .nil)
  (.cons (.ret (.var 7))
  .nil))))))))
def qb4:Env:={ fn:=[("spot_of",g_spot_of)],gc:=[],mn:=[],mt:=qa8 [],fs:=[],fi:=qbb [],nw:=[],ck:=[],ik:=[],xk:=[] }
def g_beside:List D→RE ER:=qde qb4 2 6 qbw
def qax:Sms:=(.cons (.ret (.bop true (.cons (.isi (.var 0) .int) (.cons (.bnot (.isi (.var 0) .bool)) .nil))))
  .nil)
def qaM:Env:={ fn:=[],gc:=[],mn:=[],mt:=qa8 [],fs:=[],fi:=qbb [],nw:=[],ck:=[],ik:=[],xk:=[] }
def g__law_whole:List D→RE ER:=qde qaM 1 0 qax
def qaR:Sms:=(.cons (.iff (.bop false (.cons (.not (.val (.isi (.var 0) .list))) (.cons (.val (.cmp .ne (.var 0) (.var 1))) .nil))) (.cons (.ret (.cbl false))
  .nil) .nil)
  (.cons (.ret (.cmp .eq (.pri .len (.cons (.lc [2] (.any (.var 0)) [2] (.cons (.val (.call 0 (.cons (.var 2) .nil))) .nil) (.var 2)) .nil)) (.pri .len (.cons (.var 1) .nil))))
  .nil))
def qbh:Env:={ fn:=[("_law_whole",g__law_whole)],gc:=[],mn:=[],mt:=qa8 [],fs:=[],fi:=qbb [],nw:=[],ck:=[],ik:=[],xk:=[] }
def g__law_are:List D→RE ER:=qde qbh 2 1 qaR
def qaq:Sms:=(.cons (.for (.rng (.cons (.pri .len (.cons (.var 1) .nil)) .nil)) [2] (.cons (.asg 3 (.lc [4] (.rng (.cons (.pri .len (.cons (.var 1) .nil)) .nil)) [4] (.cons (.val (.call 0 (.cons (.idx (.var 1) (.var 2)) (.cons (.idx (.var 1) (.var 4)) .nil)))) .nil) (.var 4)))
  (.cons (.own 5 (.call 1 (.cons (.var 0) (.cons (.var 2) .nil))))
  (.cons (.iff (.not (.val (.call 2 (.cons (.var 5) (.cons (.var 3) .nil))))) (.cons (.ret (.cbl false))
  .nil) .nil)
  (.cons (.app 5 (.var 2))
  (.cons (.iff (.not (.val (.call 2 (.cons (.call 1 (.cons (.var 0) (.cons (.var 2) .nil))) (.cons (.var 3) .nil))))) (.cons (.ret (.cbl false))
  .nil) .nil)
  .nil))))))
  (.cons (.ret (.cbl true))
  .nil))
def qaC:Env:={ fn:=[("_law_near",g__law_near),("beside",g_beside),("_law_are",g__law_are)],gc:=[],mn:=[],mt:=qa8 [],fs:=[],fi:=qbb [],nw:=[],ck:=[],ik:=[],xk:=[] }
def g__law_beside:List D→RE ER:=qde qaC 2 4 qaq
def qav:Sms:=(.cons (.ret (.bin .mul (.idx (.var 0) (.cint 0)) (.idx (.var 0) (.cint 1))))
  .nil)
def qaK:Env:={ fn:=[],gc:=[],mn:=[],mt:=qa8 [],fs:=[],fi:=qbb [],nw:=[],ck:=[],ik:=[],xk:=[] }
def g_many_cells:List D→RE ER:=qde qaK 1 0 qav
def qa6:Sms:=(.cons (.asgT [1,2,3] (.var 0))
  (.cons (.own 4 (.lst .nil))
  (.cons (.for (.rng (.cons (.call 0 (.cons (.var 0) .nil)) .nil)) [5] (.cons (.asgT [6,7] (.call 1 (.cons (.var 0) (.cons (.var 5) .nil))))
  (.cons (.iff (.bop true (.cons (.val (.cmp .lt (.var 6) (.bin .sub (.var 1) (.cint 1)))) (.cons (.val (.cmp .lt (.var 7) (.bin .sub (.var 2) (.cint 1)))) .nil))) (.cons (.app 4 (.lst (.cons (.var 5) (.cons (.bin .add (.var 5) (.cint 1)) (.cons (.bin .add (.var 5) (.var 2)) (.cons (.bin .add (.bin .add (.var 5) (.var 2)) (.cint 1)) .nil))))))
  .nil) .nil)
  .nil)))
  (.cons (.ret (.var 4))
  .nil))))
def qbB:Env:={ fn:=[("many_cells",g_many_cells),("spot_of",g_spot_of)],gc:=[],mn:=[],mt:=qa8 [],fs:=[],fi:=qbb [],nw:=[],ck:=[],ik:=[],xk:=[] }
def g_squares:List D→RE ER:=qde qbB 1 7 qa6
def qan:Sms:=(.cons (.own 2 (.lst .nil))
  (.cons (.for (.any (.var 1)) [3,4] (.cons (.asg 5 (.lst (.cons (.tup (.cons (.var 3) (.cons (.var 4) .nil))) (.cons (.tup (.cons (.var 3) (.cons (.bin .add (.var 4) (.cint 1)) .nil))) (.cons (.tup (.cons (.bin .add (.var 3) (.cint 1)) (.cons (.var 4) .nil))) (.cons (.tup (.cons (.bin .add (.var 3) (.cint 1)) (.cons (.bin .add (.var 4) (.cint 1)) .nil))) .nil))))))
  (.cons (.iff (.val (.cmp .eq (.pri .len (.cons (.lc [6] (.any (.var 5)) [6] (.cons (.val (.cmp .isin (.var 6) (.var 1))) .nil) (.var 6)) .nil)) (.cint 4))) (.cons (.app 2 (.lc [6] (.any (.var 5)) [6] .nil (.inxL (.var 1) (.var 6))))
  .nil) .nil)
  .nil)))
  (.cons (.rowc 7 0 (.cons (.var 0) .nil))
  (.cons (.iff (.bop false (.cons (.not (.val (.pk (.isi (.var 7) .list)))) (.cons (.val (.pk (.cmp .ne (.pri .len (.cons (.var 7) .nil)) (.pri .len (.cons (.var 2) .nil))))) .nil))) (.cons (.ret (.cbl false))
  .nil) .nil)
  (.frz 2 (.cons (.rz 8 9 7 (.var 2) (.not (.val (.call 1 (.cons (.var 8) (.cons (.var 9) .nil))))))
  (.cons (.rdr 7 (.lst .nil))
  (.cons (.ret (.cmp .eq (.call 0 (.cons (.var 0) .nil)) (.var 2)))
  .nil))))))))
def qau:Env:={ fn:=[("squares",g_squares),("_law_are",g__law_are)],gc:=[],mn:=[],mt:=qa8 [],fs:=[],fi:=qbb [],nw:=[],ck:=[],ik:=[],xk:=[] }
def g__law_squares:List D→RE ER:=qde qau 2 8 qan
def qe8:Sms:=(.cons (.asg 1 (.call 0 (.cons (.var 0) .nil)))
  (.cons (.own 2 (.lst .nil))
  (.cons (.for (.rng (.cons (.idx (.var 1) (.cint 0)) .nil)) [3] (.cons (.ext 2 (.lc [4] (.rng (.cons (.idx (.var 1) (.cint 1)) .nil)) [4] .nil (.tup (.cons (.var 3) (.cons (.var 4) .nil)))))
  .nil))
  (.cons (.ret (.bop true (.cons (.call 1 (.cons (.var 1) (.cons (.var 2) .nil))) (.cons (.call 2 (.cons (.var 1) (.cons (.var 2) .nil))) .nil))))
  .nil))))
def qgW:Env:={ fn:=[("_law_floor",g__law_floor),("_law_beside",g__law_beside),("_law_squares",g__law_squares)],gc:=[],mn:=[],mt:=qa8 [],fs:=[],fi:=qbb [],nw:=[],ck:=[],ik:=[],xk:=[] }
def g_law:List D→RE ER:=qde qgW 1 4 qe8
end K02
namespace Cm
theorem qds (n:Nat):∀ns:List Int,D.fits (ns.map D.int) n=true
 |[]=>rfl
 |m::ns=>by simp[D.fits,D.fit,qds n ns]
theorem qdm:∀ns ms:List Int,D.eqbs (ns.map D.int) (ms.map D.int)=decide (ns=ms)
 |[],[]=>by simp[D.eqbs]
 |[],_::_=>by simp[D.eqbs]
 |_::_,[]=>by simp[D.eqbs]
 |n::ns,m::ms=>by
  simp only[List.map_cons,D.eqbs,D.eqb,qdm ns ms]
  by_cases h:n=m<;>simp[h]
theorem qiC (ns ms:List Int):qeU (.lst (ns.map D.int)) (.lst (ms.map D.int))=.ok (decide (ns=ms)):=by
 simp[qeU,D.fit,qds,D.eqb,qdm]
def IC (cs:List Nat):List Int:=cs.map fun c=>((c:Nat):Int)
theorem qlQ {j:Int} (h:j≠0):nzB j=true:=by rw[qaT];exact h
section
variable {Γ:Env} {ss a b:Sms} {ρ ρ':List Sl} {i:Nat} {e ix:Ex} {d:D} {ds:List D} {f c:Bool}
theorem qih {n k:Nat} (h:k<n):L2.ixN n (k:Int)=some k:=by
 unfold L2.ixN
 rw[if_pos (by omega),if_pos (by omega)]
 simp
end
def qm4 (r:RE ER):Bool:=match r with
 |.ok (.val (.bl true) _)=>true
 |_=>false
end Cm
namespace Cm
theorem RE.bind_assoc {α β γ:Type} (m:RE α) (f:α→RE β) (g:β→RE γ):(m.bind f).bind g=m.bind fun x=>(f x).bind g:=by cases m<;>rfl
@[simp] theorem RE.bind_pure {α:Type} (m:RE α):m.bind RE.ok=m:=by cases m<;>rfl
inductive Sh where
 |v | f | b | n | o
def ER.isF:ER→Bool
 |.fre _ _=>true
 |_=>false
def qdZ:Sh→ER→Prop
 |.v,er=>er.isV=true
 |.f,er=>er.isF=true
 |.b,er=>er.isB=true
 |.n,er=>er.isB=false
 |.o,er=>er.isF=true∨(er.isV=true∧er.d=.non)
def Sh.nb:Sh→Bool
 |.b=>false
 |_=>true
def Sh.ret:Sh→Sh
 |.b=>.f
 |s=>s
structure Is (s:Sh) (t:Bool) (d:D) (er:ER):Prop where
 d:er.d=d
 s:qdZ s er
 t:t=true→er.b=true
def XR {α β:Type} (r:RE β) (m:RE α) (R:α→β→Prop):Prop:=match m with
 |.bad=>True
 |.ok v=>∃x,r=.ok x∧R v x
 |.exc c fs=>r=.exc c fs
theorem XR.bind {α β γ δ:Type} {r:RE β} {m:RE α} {R:α→β→Prop} {f:β→RE γ} {g:α→RE δ} {S:δ→γ→Prop} (h:XR r m R) (k:∀v x,R v x→XR (f x) (g v) S):XR (r.bind f) (m.bind g) S:=by
 cases m with
 |bad=>trivial
 |ok v=>obtain⟨x,e,hx⟩:=h;rw[e];exact k v x hx
 |exc c fs=>have h:r=_:=h;rw[h];rfl
theorem XR.mono {α β:Type} {r:RE β} {m:RE α} {R S:α→β→Prop} (h:XR r m R) (k:∀v x,R v x→S v x):XR r m S:=by
 cases m with
 |bad=>trivial
 |ok v=>obtain⟨x,e,hx⟩:=h;exact⟨x,e,k v x hx⟩
 |exc c fs=>exact h
theorem XR.pure {α β:Type} {v:α} {x:β} {R:α→β→Prop} (h:R v x):XR (.ok x) (.ok v) R:=⟨x,rfl,h⟩
theorem XR.to {α β:Type} {r:RE β} {v:α} {R:α→β→Prop} (h:XR r (.ok v) R):∃x,r=.ok x∧R v x:=h
abbrev XE {α:Type} (Γ:Env) (e:Ex) (ρ:List Sl) (m:RE α) (en:α→D) (s:Sh) (t:Bool):Prop:=XR (ev Γ e ρ) m fun v er=>Is s t (en v) er
abbrev XT (Γ:Env) (e:Te) (ρ:List Sl) (m:RE Bool):Prop:=XR (evT Γ e ρ) m fun v x=>x=v
abbrev XI {α:Type} (Γ:Env) (e:Itx) (ρ:List Sl) (m:RE (List α)) (en:α→D) (t o:Bool):Prop:=XR (evI Γ e ρ) m fun xs w=>w.xs=xs.map en∧(t=true→w.b=true)∧(o=false→w.own=false)
abbrev Rf {α:Type} (r:RE ER) (m:RE α) (en:α→D) (s:Sh) (t:Bool):Prop:=XR r m fun v er=>Is s t (en v) er
theorem Is.val {d:D} {b t:Bool} (h:t=true→b=true):Is .v t d (.val d b):=⟨rfl,rfl,h⟩
theorem Is.fre {ds:List D} {b t:Bool} (h:t=true→b=true):Is .f t (.lst ds) (.fre ds b):=⟨rfl,rfl,h⟩
theorem xok {α:Type} {v:α} {d:D} {en:α→D} {t:Bool} (h:d=en v):XR (ok d) (.ok v) fun v er=>Is .v t (en v) er:=⟨_,rfl,h,rfl,fun _=>rfl⟩
theorem qlB {α:Type} {v:α} {d:D} {b t:Bool} {en:α→D} (h:d=en v) (k:t=true→b=true):XR (RE.ok (.val d b)) (.ok v) fun v er=>Is .v t (en v) er:=⟨_,rfl,h,rfl,k⟩
theorem qls {α:Type} {v:α} {ds:List D} {b t:Bool} {en:α→D} (h:.lst ds=en v) (k:t=true→b=true):XR (RE.ok (.fre ds b)) (.ok v) fun v er=>Is .f t (en v) er:=⟨_,rfl,h,rfl,k⟩
theorem Is.weak {s:Sh} {t:Bool} {d:D} {er:ER} (h:Is s t d er) (hs:s.nb=true):Is .n t d er:=⟨h.d,by
 have:=h.s
 cases s<;>cases er<;>simp_all[qdZ,ER.isF,Sh.nb],h.t⟩
theorem Is.low {s:Sh} {t:Bool} {d:D} {er:ER} (h:Is s t d er):Is s false d er:=⟨h.d,h.s,fun e=>nomatch e⟩
abbrev eI:Int→D:=D.int
abbrev eB:Bool→D:=D.bl
abbrev eS:List Nat→D:=D.str
def eC (c:Nat):D:=.str [c]
def eU (_:Unit):D:=.non
def eD (d:D):D:=d
def eL {α:Type} (en:α→D) (xs:List α):D:=.lst (xs.map en)
def eO {α:Type} (en:α→D):Option α→D
 |none=>.non
 |some x=>en x
def eT1 {α:Type} (a:α→D) (p:α):D:=.tup [a p]
def eT2 {α β:Type} (a:α→D) (b:β→D) (p:α × β):D:=.tup [a p.1,b p.2]
def eT3 {α β γ:Type} (a:α→D) (b:β→D) (c:γ→D) (p:α × β × γ):D:=.tup [a p.1,b p.2.1,c p.2.2]
def eT4 {α β γ δ:Type} (a:α→D) (b:β→D) (c:γ→D) (d:δ→D) (p:α × β × γ × δ):D:=.tup [a p.1,b p.2.1,c p.2.2.1,d p.2.2.2]
def eT5 {α β γ δ ε:Type} (a:α→D) (b:β→D) (c:γ→D) (d:δ→D) (e:ε→D) (p:α × β × γ × δ × ε):D:=.tup [a p.1,b p.2.1,c p.2.2.1,d p.2.2.2.1,e p.2.2.2.2]
def eT6 {α β γ δ ε ζ:Type} (a:α→D) (b:β→D) (c:γ→D) (d:δ→D) (e:ε→D) (f:ζ→D) (p:α × β × γ × δ × ε × ζ):D:=.tup [a p.1,b p.2.1,c p.2.2.1,d p.2.2.2.1,e p.2.2.2.2.1,f p.2.2.2.2.2]
def eX (c:Nat):D:=.exc c []
class Flat {α:Type} (en:α→D):Prop where
 flat:∀v,(en v).flat=true
instance:Flat eI:=⟨fun _=>rfl⟩
instance:Flat eB:=⟨fun _=>rfl⟩
instance:Flat eS:=⟨fun _=>rfl⟩
instance:Flat eC:=⟨fun _=>rfl⟩
instance:Flat eU:=⟨fun _=>rfl⟩
instance:Flat eX:=⟨fun _=>rfl⟩
instance {α:Type} {en:α→D} [Flat en]:Flat (eO en):=⟨fun v=>by cases v with
 |none=>rfl
 |some x=>exact Flat.flat (en:=en) x⟩
instance {α β:Type} {a:α→D} {b:β→D} [ha:Flat a] [hb:Flat b]:Flat (eT2 a b):=⟨fun v=>by simp[eT2,ha.flat,hb.flat]⟩
instance {α β γ:Type} {a:α→D} {b:β→D} {c:γ→D} [ha:Flat a] [hb:Flat b] [hc:Flat c]:Flat (eT3 a b c):=⟨fun v=>by simp[eT3,ha.flat,hb.flat,hc.flat]⟩
instance {α β γ δ:Type} {a:α→D} {b:β→D} {c:γ→D} {d:δ→D} [ha:Flat a] [hb:Flat b] [hc:Flat c] [hd:Flat d]:Flat (eT4 a b c d):=⟨fun v=>by simp[eT4,ha.flat,hb.flat,hc.flat,hd.flat]⟩
theorem qdv {α:Type} {en:α→D} [h:Flat en]:∀xs:List α,D.flats (xs.map en)=true
 |[]=>rfl
 |x::xs=>by simp[h.flat,qdv xs]
def qhi {α:Type} (s:Sh) (t:Bool) (en:α→D):Prop:=t=true∨(s=.v∧∀v,(en v).flat=true)∨(s=.f∧∀v ds,en v=.lst ds→D.flats ds=true)
theorem qid {α:Type} {s:Sh} {en:α→D}:qhi s true en:=.inl rfl
def Sl.rd:Sl→Sl
 |.fxd d _=>.val d false
 |s=>s
def SlV (t:Bool) (d:D) (s:Sl):Prop:=∃f,s.rd=.val d f∧(t=true→f=true)
theorem qfX {s:Sl} {d:D} {f:Bool} (h:s.rd=.val d f):s=.val d f∨(f=false∧∃k,s=.fxd d k):=by
 cases s with
 |fxd d' k=>cases h;exact .inr ⟨rfl,k,rfl⟩
 |val _ _=>exact .inl h
 |own _ _=>cases h
 |non=>cases h
 |slf _ _=>cases h
 |dct _ _=>cases h
 |row _=>cases h
def SlO (t:Bool) (ds:List D) (s:Sl):Prop:=∃f,s=.own ds f∧(t=true→f=true)
theorem SlV.low {t:Bool} {d:D} {s:Sl} (h:SlV t d s):SlV false d s:=by
 obtain⟨f,e,_⟩:=h
 exact⟨f,e,fun e=>nomatch e⟩
theorem SlO.low {t:Bool} {d:List D} {s:Sl} (h:SlO t d s):SlO false d s:=by
 obtain⟨f,e,_⟩:=h
 exact⟨f,e,fun e=>nomatch e⟩
theorem SlV.flat {α:Type} {en:α→D} [h:Flat en] {v:α}:SlV true (en v) (.val (en v) (en v).flat):=⟨_,rfl,fun _=>h.flat v⟩
theorem SlV.any {d:D} {b:Bool}:SlV false d (.val d b):=⟨_,rfl,fun e=>nomatch e⟩
section
variable {Γ:Env} {ρ:List Sl} {α β γ δ ε:Type} {en:α→D} {en2:β→D} {en3:γ→D} {a b c e:Ex} {s s1 s2 s3:Sh} {t t1 t2 t3:Bool} {m:RE α} {x:α} {y:β} {z:γ}
theorem XE.weak {m:RE α} (h:XE Γ e ρ m en s t) (hs:s.nb=true):XE Γ e ρ m en .n t:=XR.mono h fun _ _ k=>k.weak hs
theorem XE.low {m:RE α} (h:XE Γ e ρ m en s t):XE Γ e ρ m en s false:=XR.mono h fun _ _ k=>k.low
theorem XE.cast {m m':RE α} (h:XE Γ e ρ m en s t) (k:m'=m):XE Γ e ρ m' en s t:=by rw[k];exact h
theorem XE.var {i:Nat} {q:Sl} (h:ρ[i]? = some q) (hs:SlV t (en x) q):XE Γ (.var i) ρ (.ok x) en .v t:=by
 obtain⟨f,e,k⟩:=hs
 rcases qfX e with rfl | ⟨rfl,j,rfl⟩
 ·exact⟨.val (en x) f,by rw[ev,h],rfl,rfl,k⟩
 ·exact⟨.val (en x) false,by rw[ev,h],rfl,rfl,k⟩
theorem XE.varO {i:Nat} {q:Sl} {xs:List α} (h:ρ[i]? = some q) (hs:SlO t (xs.map en) q):XE Γ (.var i) ρ (.ok xs) (eL en) .b t:=by
 obtain⟨f,rfl,k⟩:=hs
 exact⟨.brw (xs.map en) f,by rw[ev,h],rfl,rfl,k⟩
theorem XE.cint {i:Int}:XE Γ (.cint i) ρ (.ok i) eI .v true:=by unfold XE;rw[ev];exact xok rfl
theorem XE.cbl {i:Bool}:XE Γ (.cbl i) ρ (.ok i) eB .v true:=by unfold XE;rw[ev];exact xok rfl
theorem XE.bin {o:Bop} {m1:RE α} {m2:RE β} {f:α→β→RE γ} (ha:XE Γ a ρ m1 en s1 t1) (hb:XE Γ b ρ m2 en2 s2 t2) (h:∀x y bb,((t1&&t2)=true→bb=true)→XR (evB o (en x) (en2 y) bb) (f x y) fun v er=>Is s t (en3 v) er) :
  XE Γ (.bin o a b) ρ (m1.bind fun x=>m2.bind fun y=>f x y) en3 s t:=by
 unfold XE
 rw[ev]
 exact XR.bind ha fun x ex hx=>XR.bind hb fun y ey hy=>by
  rw[hx.d,hy.d]
  exact h x y _ fun k=>by
   rw[Bool.and_eq_true] at k
   rw[hx.t k.1,hy.t k.2];rfl
theorem XE.binP {o:Bop} {f:RE γ} (ha:XE Γ a ρ (.ok x) en s1 t1) (hb:XE Γ b ρ (.ok y) en2 s2 t2) (h:∀bb,((t1&&t2)=true→bb=true)→XR (evB o (en x) (en2 y) bb) f fun v er=>Is s t (en3 v) er) :
  XE Γ (.bin o a b) ρ f en3 s t:=by
 obtain⟨ex,e1,h1⟩:=ha
 obtain⟨ey,e2,h2⟩:=hb
 unfold XE
 rw[ev,e1,e2]
 simp only[RE.bind_ok]
 rw[h1.d,h2.d]
 exact h _ fun k=>by
  rw[Bool.and_eq_true] at k
  rw[h1.t k.1,h2.t k.2];rfl
theorem xgd {b:Bool} {r:RE ER} {m:RE α} {R:α→ER→Prop} (h:XR r m R):XR (gd b r) (gd b m) R:=by
 cases b
 ·trivial
 ·exact h
theorem qa2 (x y:Int) (bb:Bool) (_:(t1&&t2)=true→bb=true):XR (evB .add (eI x) (eI y) bb) (.ok (x+y)) fun v er=>Is .v true (eI v) er:=xok rfl
theorem qdg (x y:Int) (bb:Bool) (_:(t1&&t2)=true→bb=true):XR (evB .sub (eI x) (eI y) bb) (.ok (x - y)) fun v er=>Is .v true (eI v) er:=xok rfl
theorem qka (x y:Int) (h:qht x y=true) (bb:Bool) (_:(t1&&t2)=true→bb=true):XR (evB .mul (eI x) (eI y) bb) (.ok (x*y)) fun v er=>Is .v true (eI v) er:=by
 show XR (gd (qht x y) _) _ _
 rw[h];exact xok rfl
theorem qhr {x y:Int} (h:Nat.ble x.natAbs 18446744073709551615=true):qht x y=true:=by unfold qht;rw[h];rfl
def qgB (x y:Int):RE Int:=gd (qht x y) (.ok (x*y))
theorem qib (x y:Int) (bb:Bool) (_:(t1&&t2)=true→bb=true):XR (evB .mul (eI x) (eI y) bb) (qgB x y) fun v er=>Is .v true (eI v) er:=xgd (xok rfl)
def qiX (x y:Int):RE Int:=gd (qkr y) (.ok (x.fdiv y))
theorem qjY (x y:Int) (bb:Bool) (_:(t1&&t2)=true→bb=true):XR (evB .fdv (eI x) (eI y) bb) (qiX x y) fun v er=>Is .v true (eI v) er:=xgd (xok rfl)
def qhw (x y:Int):RE Int:=gd (nzB y) (.ok (x.fmod y))
theorem qh5 (x y:Int) (bb:Bool) (_:(t1&&t2)=true→bb=true):XR (evB .mdl (eI x) (eI y) bb) (qhw x y) fun v er=>Is .v true (eI v) er:=xgd (xok rfl)
theorem qdG (x y:Int) (h:nzB y=true) (bb:Bool) (_:(t1&&t2)=true→bb=true):XR (evB .mdl (eI x) (eI y) bb) (.ok (x.fmod y)) fun v er=>Is .v true (eI v) er:=by
 show XR (gd (nzB y) _) _ _
 rw[h];exact xok rfl
def qnj (x y:Int):RE Int:=gd (qiZ x y) (.ok (x ^ y.toNat))
def qle (x y:Int):RE Int:=gd (qiZ x y) (.ok (x*2 ^ y.toNat))
def qmY (x y:Int):RE Int:=gd (nnB y) (.ok (x / 2 ^ y.toNat))
def qmi (x y:List Nat):RE (List Nat):=gd (leB (x.length+y.length)) (.ok (x++y))
def qeg (x y:List α):RE (List α):=gd (leB (x.length+y.length)) (.ok (x++y))
def qmW (x:List α) (k:Int):RE (List α):=gd (qi1 x.length k) (.ok (List.replicate k.toNat x).flatten)
theorem XE.cmp {o:Cop} {m1:RE α} {m2:RE β} {f:α→β→RE Bool} (ha:XE Γ a ρ m1 en s1 t1) (hb:XE Γ b ρ m2 en2 s2 t2) (h:∀x y,evC o (en x) (en2 y)=f x y):XE Γ (.cmp o a b) ρ (m1.bind fun x=>m2.bind fun y=>f x y) eB .v true:=by
 unfold XE
 rw[ev]
 exact XR.bind ha fun x ex hx=>XR.bind hb fun y ey hy=>by
  rw[hx.d,hy.d,h]
  cases f x y with
  |bad=>trivial
  |ok v=>exact xok rfl
  |exc c fs=>rfl
theorem XE.cmpP {o:Cop} {f:RE Bool} (ha:XE Γ a ρ (.ok x) en s1 t1) (hb:XE Γ b ρ (.ok y) en2 s2 t2) (h:evC o (en x) (en2 y)=f):XE Γ (.cmp o a b) ρ f eB .v true:=by
 have:=XE.cmp (o:=o) ha hb (f:=fun x y=>evC o (en x) (en2 y)) (fun _ _=>rfl)
 rw[←h];exact this
theorem qiA (x y:Int):evC .eq (eI x) (eI y)=.ok (decide (x=y)):=rfl
theorem qkC (x y:Int):evC .ne (eI x) (eI y)=.ok (!decide (x=y)):=rfl
theorem qfg (x y:Int):evC .lt (eI x) (eI y)=.ok (decide (x<y)):=rfl
theorem qhS (x y:Int):evC .gt (eI x) (eI y)=.ok (decide (y<x)):=rfl
theorem qjz (x y:List Int):evC .ne (eL eI x) (eL eI y)=.ok (!decide (x=y)):=by
 show(qeU (eL eI x) (eL eI y)).bind _=_
 rw[show qeU (eL eI x) (eL eI y)=.ok (decide (x=y)) from qiC x y];rfl
def qm7 (d:D) {α:Type} (r:RE α):RE α:=gd (d.fit 64) r
def unO:Option α→RE α
 |none=>.bad
 |some x=>.ok x
theorem XE.unO {x:Option α} (h:XE Γ e ρ (.ok x) (eO en) s t):XE Γ e ρ (unO x) en s t:=by
 cases x with
 |none=>trivial
 |some v=>exact h
abbrev XV (Γ:Env) (c:Bool) (es:Exs) (ρ:List Sl) (m:RE Bool):Prop:=XR (qfR Γ c es ρ) m fun v er=>Is .v true (eB v) er
abbrev XTs (Γ:Env) (c:Bool) (es:Tes) (ρ:List Sl) (m:RE Bool):Prop:=XR (qda Γ c es ρ) m fun v x=>x=v
theorem XV.one {es:Ex} {c:Bool} {m:RE Bool} (h:XE Γ es ρ m eB s t):XV Γ c (.cons es .nil) ρ m:=by
 unfold XV
 rw[qfR]
 have:m=m.bind fun k=>.ok k:=by cases m<;>rfl
 rw[this]
 exact XR.bind h fun v er k=>by
  rw[k.d]
  simp only[qfR]
  split
  ·subst_vars;exact xok rfl
  ·exact xok rfl
theorem XV.and {e:Ex} {es:Exs} {m1 m2:RE Bool} (h:XE Γ e ρ m1 eB s t) (k:XV Γ true es ρ m2):XV Γ true (.cons e es) ρ (m1.bind fun x=>if x=true then m2 else .ok false):=by
 unfold XV
 rw[qfR]
 exact XR.bind h fun v er q=>by
  rw[q.d]
  cases v with
  |true=>exact k
  |false=>exact xok rfl
theorem XV.or {e:Ex} {es:Exs} {m1 m2:RE Bool} (h:XE Γ e ρ m1 eB s t) (k:XV Γ false es ρ m2):XV Γ false (.cons e es) ρ (m1.bind fun x=>if x=true then .ok true else m2):=by
 unfold XV
 rw[qfR]
 exact XR.bind h fun v er q=>by
  rw[q.d]
  cases v with
  |true=>exact xok rfl
  |false=>exact k
theorem XV.andP {e:Ex} {es:Exs} {x y:Bool} (h:XE Γ e ρ (.ok x) eB s t) (k:XV Γ true es ρ (.ok y)):XV Γ true (.cons e es) ρ (.ok (x&&y)):=by
 have:=XV.and h k
 cases x<;>exact this
theorem XV.orP {e:Ex} {es:Exs} {x y:Bool} (h:XE Γ e ρ (.ok x) eB s t) (k:XV Γ false es ρ (.ok y)):XV Γ false (.cons e es) ρ (.ok (x||y)):=by
 have:=XV.or h k
 cases x<;>exact this
theorem XE.bop {c:Bool} {es:Exs} {m:RE Bool} (h:XV Γ c es ρ m):XE Γ (.bop c es) ρ m eB .v true:=by unfold XE;rw[ev];exact h
class Tru {α:Type} (en:α→D) (f:outParam (α→Bool)):Prop where
 tru:∀v,qcv (en v)=.ok (f v)
instance:Tru eB id:=⟨fun _=>rfl⟩
instance:Tru eI (fun i=>i != 0):=⟨fun _=>rfl⟩
instance {α:Type} {en:α→D}:Tru (eL en) (fun xs=>!xs.isEmpty):=⟨fun v=>by cases v<;>rfl⟩
theorem XE.bnot {m:RE Bool} (h:XE Γ a ρ m eB s t):XE Γ (.bnot a) ρ (m.bind fun x=>.ok (!x)) eB .v true:=by
 unfold XE;rw[ev]
 exact XR.bind h fun v er k=>by rw[k.d];exact xok rfl
theorem XE.bnotP {x:Bool} (h:XE Γ a ρ (.ok x) eB s t):XE Γ (.bnot a) ρ (.ok (!x)) eB .v true:=XE.bnot h
theorem XT.val {m:RE Bool} (h:XE Γ a ρ m eB s t):XT Γ (.val a) ρ m:=by
 unfold XT;rw[evT]
 have:m=m.bind fun k=>.ok k:=by cases m<;>rfl
 rw[this]
 exact XR.bind h fun v er k=>by rw[k.d];exact⟨_,rfl,rfl⟩
theorem XT.not {q:Te} {m:RE Bool} (h:XT Γ q ρ m):XT Γ (.not q) ρ (m.bind fun x=>.ok (!x)):=by
 unfold XT;rw[evT]
 exact XR.bind h fun v er k=>by subst k;exact⟨_,rfl,rfl⟩
theorem XT.notP {q:Te} {x:Bool} (h:XT Γ q ρ (.ok x)):XT Γ (.not q) ρ (.ok (!x)):=XT.not h
theorem XTs.one {q:Te} {c:Bool} {m:RE Bool} (h:XT Γ q ρ m):XTs Γ c (.cons q .nil) ρ m:=by
 unfold XTs;rw[qda]
 have:m=m.bind fun k=>.ok k:=by cases m<;>rfl
 rw[this]
 exact XR.bind h fun v er k=>by
  subst k
  simp only[qda]
  split
  ·subst_vars;exact⟨_,rfl,rfl⟩
  ·exact⟨_,rfl,rfl⟩
theorem XTs.and {q:Te} {es:Tes} {m1 m2:RE Bool} (h:XT Γ q ρ m1) (k:XTs Γ true es ρ m2):XTs Γ true (.cons q es) ρ (m1.bind fun x=>if x=true then m2 else .ok false):=by
 unfold XTs;rw[qda]
 exact XR.bind h fun v er q=>by
  subst q
  cases er
  ·exact⟨_,rfl,rfl⟩
  ·exact k
theorem XTs.or {q:Te} {es:Tes} {m1 m2:RE Bool} (h:XT Γ q ρ m1) (k:XTs Γ false es ρ m2):XTs Γ false (.cons q es) ρ (m1.bind fun x=>if x=true then .ok true else m2):=by
 unfold XTs;rw[qda]
 exact XR.bind h fun v er q=>by
  subst q
  cases er
  ·exact k
  ·exact⟨_,rfl,rfl⟩
theorem XTs.andP {q:Te} {es:Tes} {x y:Bool} (h:XT Γ q ρ (.ok x)) (k:XTs Γ true es ρ (.ok y)):XTs Γ true (.cons q es) ρ (.ok (x&&y)):=by
 have:=XTs.and h k
 cases x<;>exact this
theorem XTs.orP {q:Te} {es:Tes} {x y:Bool} (h:XT Γ q ρ (.ok x)) (k:XTs Γ false es ρ (.ok y)):XTs Γ false (.cons q es) ρ (.ok (x||y)):=by
 have:=XTs.or h k
 cases x<;>exact this
theorem XT.bop {c:Bool} {es:Tes} {m:RE Bool} (h:XTs Γ c es ρ m):XT Γ (.bop c es) ρ m:=by unfold XT;rw[evT];exact h
def atE (xs:List α) (k:Int):RE α:=match L2.atI xs k with
 |some x=>.ok x
 |none=>.bad
theorem qf1 (f:α→β) (xs:List α) (k:Int):L2.atI (xs.map f) k=(L2.atI xs k).map f:=by
 unfold L2.atI
 rw[List.length_map]
 cases L2.ixN xs.length k<;>simp
theorem XE.idx {m1:RE (List α)} {m2:RE Int} (ha:XE Γ a ρ m1 (eL en) s1 t) (hb:XE Γ b ρ m2 eI s2 t2):XE Γ (.idx a b) ρ (m1.bind fun xs=>m2.bind fun k=>atE xs k) en .v t:=by
 unfold XE;rw[ev]
 exact XR.bind ha fun xs ex hx=>XR.bind hb fun k ek hk=>by
  rw[hx.d,hk.d]
  show XR (match L2.atI (xs.map en) k with
   |some x=>RE.ok (ER.val x (ex.b||x.flat))
   |none=>.bad) _ _
  rw[qf1]
  unfold atE
  cases L2.atI xs k with
  |none=>trivial
  |some x=>exact⟨_,rfl,rfl,rfl,fun z=>by show(_||_)=true;rw[hx.t z];rfl⟩
theorem XE.flat [h:Flat en] {m:RE α} (k:XE Γ e ρ m en .v t) (q:∀x b,ev Γ e ρ=.ok (.val (en x) b)→b=true):XE Γ e ρ m en .v true:=by
 cases m with
 |bad=>trivial
 |ok x =>
  obtain⟨er,e1,e2⟩:=k
  refine⟨er,e1,e2.d,e2.s,fun _=>?_⟩
  cases er with
  |val d b =>
   have:=e2.d
   simp only[ER.d_val] at this
   subst this
   exact q _ _ e1
  |fre ds b=>exact nomatch e2.s
  |brw ds b=>exact nomatch e2.s
 |exc c fs=>exact k
theorem XE.idxF [h:Flat en] {m1:RE (List α)} {m2:RE Int} (ha:XE Γ a ρ m1 (eL en) s1 t) (hb:XE Γ b ρ m2 eI s2 t2):XE Γ (.idx a b) ρ (m1.bind fun xs=>m2.bind fun k=>atE xs k) en .v true:=by
 unfold XE;rw[ev]
 exact XR.bind ha fun xs ex hx=>XR.bind hb fun k ek hk=>by
  rw[hx.d,hk.d]
  show XR (match L2.atI (xs.map en) k with
   |some x=>RE.ok (ER.val x (ex.b||x.flat))
   |none=>.bad) _ _
  rw[qf1]
  unfold atE
  cases L2.atI xs k with
  |none=>trivial
  |some x=>exact⟨_,rfl,rfl,rfl,fun z=>by show(_||(en x).flat)=true;rw[h.flat x];simp⟩
theorem XE.idxFP [h:Flat en] {xs:List α} {k:Int} (ha:XE Γ a ρ (.ok xs) (eL en) s1 t) (hb:XE Γ b ρ (.ok k) eI s2 t2):XE Γ (.idx a b) ρ (atE xs k) en .v true:=XE.idxF ha hb
def qlU (xs:List Nat) (k:Int):RE Nat:=gd (leB xs.length) (atE xs k)
theorem XE.prt {k:Int} {f:α→β} {m1:RE α} (ha:XE Γ a ρ m1 en s1 t) (h:∀v b,qhC (en v) (.int k) b=.ok (.val (en2 (f v)) (b||(en2 (f v)).flat))) (ht:t2=true→t=true∨Flat en2):XE Γ (.idx a (.cint k)) ρ (m1.bind fun x=>.ok (f x)) en2 .v t2:=by
 unfold XE;rw[ev]
 exact XR.bind ha fun x ex hx=>by
  rw[hx.d,ev]
  simp only[RE.bind_ok,ok,ER.d_val]
  rw[h]
  refine qlB rfl fun z=>?_
  rcases ht z with q | q
  ·rw[hx.t q];rfl
  ·rw[q.flat];simp
theorem XE.prtP {k:Int} {f:α→β} (ha:XE Γ a ρ (.ok x) en s1 t) (h:∀v b,qhC (en v) (.int k) b=.ok (.val (en2 (f v)) (b||(en2 (f v)).flat))) (ht:t2=true→t=true∨Flat en2):XE Γ (.idx a (.cint k)) ρ (.ok (f x)) en2 .v t2:=XE.prt ha h ht
abbrev XO (Γ:Env) (es:Exs) (ρ:List Sl) (m:RE (Option Int)):Prop:=XR (evO Γ es ρ) m fun v x=>x=v
theorem XO.nil:XO Γ .nil ρ (.ok none):=by unfold XO;rw[evO];exact⟨_,rfl,rfl⟩
theorem XO.one {m:RE Int} (h:XE Γ a ρ m eI s t):XO Γ (.cons a .nil) ρ (m.bind fun k=>.ok (some k)):=by
 unfold XO;rw[evO]
 exact XR.bind h fun v er k=>by rw[k.d];exact⟨_,rfl,rfl⟩
def qlT (xs:List Nat) (l h:Option Int):RE (List Nat):=gd (leB xs.length) (.ok (qeX xs l h))
theorem XE.isi {ty:Ty} {f:α→Bool} {m1:RE α} (ha:XE Γ a ρ m1 en s1 t) (h:∀v,qi2 (en v) ty=ok (.bl (f v))):XE Γ (.isi a ty) ρ (m1.bind fun x=>.ok (f x)) eB .v true:=by
 unfold XE;rw[ev]
 exact XR.bind ha fun xs ex hx=>by rw[hx.d,h];exact xok rfl
theorem XE.isiP {ty:Ty} {f:α→Bool} (ha:XE Γ a ρ (.ok x) en s1 t) (h:∀v,qi2 (en v) ty=ok (.bl (f v))):XE Γ (.isi a ty) ρ (.ok (f x)) eB .v true:=XE.isi ha h
def tyE (d:D) (ty:Ty):RE Bool:=(qi2 d ty).bind fun x=>match x.d with
 |.bl b=>.ok b
 |_=>.bad
theorem qi0 (Γ:Env) (ρ:List Sl) (a:Ex):evs Γ (.cons a .nil) ρ=(ev Γ a ρ).bind fun x=>.ok [x.frz]:=by
 rw[evs,evs];rfl
theorem qbX (x:ER):x.frz.d=x.d:=by cases x<;>rfl
theorem qgc (x:ER):x.frz.b=x.b:=by cases x<;>rfl
theorem XE.pri1 {p:Pri} {m1:RE α} {f:α→RE β} (ha:XE Γ a ρ m1 en s1 t1) (h:∀x e,e.d=en x→(t1=true→e.b=true)→XR (evP p [e]) (f x) fun v er=>Is s t (en2 v) er):XE Γ (.pri p (.cons a .nil)) ρ (m1.bind f) en2 s t:=by
 unfold XE;rw[ev,qi0,RE.bind_assoc]
 exact XR.bind ha fun x ex hx=>h x _ (by rw[qbX,hx.d]) fun z=>by rw[qgc];exact hx.t z
theorem XE.pri1P {p:Pri} {f:RE β} (ha:XE Γ a ρ (.ok x) en s1 t1) (h:∀e,e.d=en x→(t1=true→e.b=true)→XR (evP p [e]) f fun v er=>Is s t (en2 v) er):XE Γ (.pri p (.cons a .nil)) ρ f en2 s t:=by
 obtain⟨er,e1,e2⟩:=ha
 unfold XE;rw[ev,qi0,e1]
 simp only[RE.bind_ok]
 exact h _ (by rw[qbX,e2.d]) fun z=>by rw[qgc];exact e2.t z
theorem XE.pri2 {p:Pri} {m1:RE α} {m2:RE β} {f:α→β→RE γ} (ha:XE Γ a ρ m1 en s1 t1) (hb:XE Γ b ρ m2 en2 s2 t2) (h:∀x y e e',e.d=en x→e'.d=en2 y→XR (evP p [e,e']) (f x y) fun v er=>Is s t (en3 v) er):XE Γ (.pri p (.cons a (.cons b .nil))) ρ (m1.bind fun x=>m2.bind fun y=>f x y) en3 s t:=by
 unfold XE;rw[ev,evs,qi0,RE.bind_assoc]
 exact XR.bind ha fun x ex hx=>by
  rw[RE.bind_assoc,RE.bind_assoc]
  exact XR.bind hb fun y ey hy=>h x y _ _ (by rw[qbX,hx.d]) (by rw[qbX,hy.d])
theorem qcr (x:List α) (e:ER) (h:e.d=eL en x) (_:t=true→e.b=true):XR (evP .len [e]) (.ok (x.length:Int)) fun v er=>Is .v true (eI v) er:=by
 simp only[evP,h,eL,List.length_map];exact xok rfl
def qkd (x:List Nat):RE Int:=gd (leB x.length) (.ok (x.length:Int))
theorem qjZ (x:Int) (e:ER) (h:e.d=eI x) (_:t=true→e.b=true):XR (evP .abs [e]) (.ok (if x<0 then -x else x)) fun v er=>Is .v true (eI v) er:=by
 simp only[evP,h];exact xok rfl
theorem qjC (x y:Int) (e e':ER) (h:e.d=eI x) (h':e'.d=eI y):XR (evP .min2 [e,e']) (.ok (if y<x then y else x)) fun v er=>Is .v true (eI v) er:=by
 simp only[evP,h,h'];exact xok rfl
def qmN (x y:Int):RE (Int × Int):=gd (dmB y) (.ok (x / y,x % y))
def qlW (x:List Int):RE Int:=match x with
 |[]=>.bad
 |n::ns=>.ok (qfn (n::ns))
def qkJ (x:List Int):RE Int:=match x with
 |[]=>.bad
 |n::ns=>.ok (qfk (n::ns))
def qk7 (s:List Nat):RE Int:=match PySem.intText? (qaB s) with
 |some n=>gd (Nat.ble s.length 640) (.ok n)
 |none=>.bad
def qlO (i:Int):RE (List Nat):=gd (qkk i) (.ok (toString i:PySem.Str).cps.toList)
def qaH (n:Int):RE (List Int):=gd (qgl n) (.ok (qck 0 1 n.toNat))
def qhB (i j:Int):RE (List Int):=gd (qko i j) (.ok (qck i 1 (j - i).toNat))
def qkv (i j c:Int):RE (List Int):=gd (qks i j c) (.ok (qck i c (qi4 i j c)))
abbrev XRg (Γ:Env) (es:Exs) (ρ:List Sl) (m:RE (List Int)):Prop:=XR ((evs Γ es ρ).bind qc4) m fun v x=>x=v
theorem qkz {α:Type} {b:Bool} {x:α}:XR (gd b (.ok x)) (gd b (.ok x)) fun v y=>y=v:=by
 cases b
 ·trivial
 ·exact⟨_,rfl,rfl⟩
theorem XRg.r1 {m1:RE Int} (ha:XE Γ a ρ m1 eI s1 t1):XRg Γ (.cons a .nil) ρ (m1.bind qaH):=by
 unfold XRg;rw[qi0,RE.bind_assoc]
 exact XR.bind ha fun x ex hx=>by
  simp only[RE.bind_ok,qc4,qbX,hx.d];exact qkz
theorem XRg.r2 {m1 m2:RE Int} (ha:XE Γ a ρ m1 eI s1 t1) (hb:XE Γ b ρ m2 eI s2 t2):XRg Γ (.cons a (.cons b .nil)) ρ (m1.bind fun x=>m2.bind fun y=>qhB x y):=by
 unfold XRg;rw[evs,qi0,RE.bind_assoc]
 exact XR.bind ha fun x ex hx=>by
  rw[RE.bind_assoc,RE.bind_assoc]
  exact XR.bind hb fun y ey hy=>by
   simp only[RE.bind_ok,qc4,qbX,hx.d,hy.d];exact qkz
theorem XRg.r3 {m1 m2 m3:RE Int} (ha:XE Γ a ρ m1 eI s1 t1) (hb:XE Γ b ρ m2 eI s2 t2) (hc:XE Γ c ρ m3 eI s3 t3):XRg Γ (.cons a (.cons b (.cons c .nil))) ρ (m1.bind fun x=>m2.bind fun y=>m3.bind fun z=>qkv x y z):=by
 unfold XRg;rw[evs,evs,qi0,RE.bind_assoc]
 exact XR.bind ha fun x ex hx=>by
  simp only[RE.bind_assoc]
  exact XR.bind hb fun y ey hy=>XR.bind hc fun z ez hz=>by
   simp only[RE.bind_ok,qc4,qbX,hx.d,hy.d,hz.d];exact qkz
theorem XRg.r1P {x:Int} (ha:XE Γ a ρ (.ok x) eI s1 t1):XRg Γ (.cons a .nil) ρ (qaH x):=XRg.r1 ha
theorem XI.list {m1:RE (List α)} (h:XE Γ a ρ m1 (eL en) s t) (hs:s.nb=true):XI Γ (.any a) ρ m1 en t false:=by
 unfold XI;rw[evI]
 have e:m1=m1.bind fun k=>.ok k:=by cases m1<;>rfl
 rw[e]
 exact XR.bind h fun v er k=>by
  simp only[qdq,k.d,eL]
  refine⟨_,rfl,rfl,k.t,fun _=>?_⟩
  have:=k.s
  cases s<;>cases er<;>simp_all[qdZ,ER.isF,Sh.nb]
theorem XI.str {m1:RE (List Nat)} (h:XE Γ a ρ m1 eS s t):XI Γ (.any a) ρ m1 eC true false:=by
 unfold XI;rw[evI]
 have e:m1=m1.bind fun k=>.ok k:=by cases m1<;>rfl
 rw[e]
 exact XR.bind h fun v er k=>by
  simp only[qdq,k.d]
  exact⟨_,rfl,rfl,fun _=>rfl,fun _=>rfl⟩
theorem XI.tup {m1:RE α} {f:α→List β} (h:XE Γ a ρ m1 en s t) (k:∀v,en v=.tup ((f v).map en2)):XI Γ (.any a) ρ (m1.bind fun x=>.ok (f x)) en2 t false:=by
 unfold XI;rw[evI]
 exact XR.bind h fun v er q=>by
  simp only[qdq,q.d,k]
  exact⟨_,rfl,rfl,q.t,fun _=>rfl⟩
theorem XI.rng {es:Exs} {m1:RE (List Int)} (h:XRg Γ es ρ m1):XI Γ (.rng es) ρ m1 eI true false:=by
 unfold XI;rw[evI]
 have e:m1=m1.bind fun k=>.ok k:=by cases m1<;>rfl
 rw[e,←RE.bind_assoc]
 exact XR.bind h fun v x k=>by subst k;exact⟨_,rfl,rfl,fun _=>rfl,fun _=>rfl⟩
theorem qey (f:α→D) (g:β→D):∀(xs:List α) (ys:List β),List.zipWith (fun u v=>D.tup [u,v]) (xs.map f) (ys.map g)=(xs.zip ys).map (eT2 f g)
 |[],_=>rfl
 |_::_,[]=>rfl
 |x::xs,y::ys=>by simp[qey f g xs ys,eT2]
theorem XI.zp {m1:RE (List α)} {m2:RE (List β)} (ha:XE Γ a ρ m1 (eL en) s1 t1) (hb:XE Γ b ρ m2 (eL en2) s2 t2):XI Γ (.zp a b) ρ (m1.bind fun xs=>m2.bind fun ys=>.ok (xs.zip ys)) (eT2 en en2) (t1&&t2) (!(s1.nb&&s2.nb)):=by
 unfold XI;rw[evI]
 exact XR.bind ha fun x ex hx=>XR.bind hb fun y ey hy=>by
  simp only[hx.d,hy.d,eL]
  refine⟨_,rfl,qey _ _ _ _,fun z=>?_,fun z=>?_⟩
  ·rw[Bool.and_eq_true] at z
   show(_&&_)=true
   rw[hx.t z.1,hy.t z.2];rfl
  ·have h1:=hx.s
   have h2:=hy.s
   show(_||_)=false
   cases s1<;>cases s2<;>cases ex<;>cases ey<;>simp_all[qdZ,ER.isF,Sh.nb]
def qku (xs:List α):List (Int × α):=xs.zipIdx.map fun p=>((p.2:Int),p.1)
theorem XI.rv {m1:RE (List α)} (ha:XE Γ a ρ m1 (eL en) s1 t1):XI Γ (.rv a) ρ (m1.bind fun xs=>.ok xs.reverse) en t1 (!s1.nb):=by
 unfold XI;rw[evI]
 exact XR.bind ha fun x ex hx=>by
  simp only[hx.d,eL]
  refine⟨_,rfl,by simp,hx.t,fun z=>?_⟩
  have h1:=hx.s
  show ex.isB=false
  cases s1<;>cases ex<;>simp_all[qdZ,ER.isF,Sh.nb]
def lcE (c:α→RE Bool) (f:α→RE β):List α→RE (List β)
 |[]=>.ok []
 |x::xs=>(noX (c x)).bind fun k=>if k=true then (noX (f x)).bind fun y=>(lcE c f xs).bind fun ys=>.ok (y::ys) else lcE c f xs
def qjs (f:α→RE β):List α→RE (List β)
 |[]=>.ok []
 |x::xs=>(noX (f x)).bind fun y=>(qjs f xs).bind fun ys=>.ok (y::ys)
theorem qeZ (f:α→RE β):∀xs,lcE (fun _=>.ok true) f xs=qjs f xs
 |[]=>rfl
 |x::xs=>by
  rw[lcE,qjs,qeZ f xs]
  rfl
theorem qfy (f:α→β):∀xs:List α,qjs (fun x=>.ok (f x)) xs=.ok (xs.map f)
 |[]=>rfl
 |x::xs=>by rw[qjs,qfy f xs];rfl
theorem qhp {cc:α→RE Bool} {ff:α→RE β} {F:D→RE (Option (D × Bool))} {t:Bool}:∀{xs:List α},(∀x∈xs,XR (F (en x)) ((noX (cc x)).bind fun k=>if k=true then (noX (ff x)).bind fun y=>.ok (some y) else .ok none) fun v r=>match v with
  |none=>r=none
  |some y=>∃f,r=some (en2 y,f)∧(t=true→f=true))→XR (lcl F (xs.map en)) (lcE cc ff xs) fun ys r=>r.1=ys.map en2∧(t=true→r.2=true)
 |[],_=>⟨_,rfl,rfl,fun _=>rfl⟩
 |x::xs,h=>by
  have ih:=qhp (F:=F) (xs:=xs) fun y hy=>h y (List.mem_cons_of_mem _ hy)
  have h0:=h x (by simp)
  simp only[List.map_cons,lcl,lcE]
  cases hc:noX (cc x) with
  |bad=>trivial
  |exc c fs=>cases e:cc x<;>rw[e] at hc<;>cases hc
  |ok k =>
   rw[hc] at h0
   simp only[RE.bind_ok] at h0 ⊢
   cases k with
   |false =>
    simp only[Bool.false_eq_true,if_false] at h0 ⊢
    obtain⟨r,e1,e2⟩:=h0
    cases e2
    rw[e1]
    simp only[RE.bind_ok]
    cases hl:lcE cc ff xs with
    |bad=>trivial
    |ok ys=>rw[hl] at ih;obtain⟨q,e3,e4⟩:=ih;rw[e3];exact⟨_,rfl,e4⟩
    |exc c fs=>rw[hl] at ih;have ih:lcl F (xs.map en)=_:=ih;rw[ih];rfl
   |true =>
    simp only[if_true] at h0 ⊢
    cases hf:noX (ff x) with
    |bad=>trivial
    |exc c fs=>cases e:ff x<;>rw[e] at hf<;>cases hf
    |ok y =>
     rw[hf] at h0
     obtain⟨r,e1,f,e2,e2'⟩:=h0
     subst e2
     rw[e1]
     simp only[RE.bind_ok]
     cases hl:lcE cc ff xs with
     |bad=>trivial
     |ok ys =>
      rw[hl] at ih
      obtain⟨q,e3,e4,e5⟩:=ih
      rw[e3]
      refine⟨_,rfl,by simp[e4],fun z=>?_⟩
      show(f&&q.2)=true
      rw[e2' z,e5 z];rfl
     |exc c fs=>rw[hl] at ih;have ih:lcl F (xs.map en)=_:=ih;rw[ih];rfl
theorem qiv {cnd:Tes} {e:Ex} {ρ':List Sl} {mc:RE Bool} {mf:RE β} (hc:XTs Γ true cnd ρ' mc) (hf:mc=.ok true→XE Γ e ρ' mf en2 s t) (hs:s.nb=true):XR (noX ((qda Γ true cnd ρ').bind fun k=>if k=true then (ev Γ e ρ').bind fun y=>match y with
    |.brw _ _=>.bad
    |y=>.ok (some (y.d,y.b)) else .ok none)) ((noX mc).bind fun k=>if k=true then (noX mf).bind fun y=>.ok (some y) else .ok none) fun v r=>match v with
  |none=>r=none
  |some y=>∃f,r=some (en2 y,f)∧(t=true→f=true):=by
 cases mc with
 |bad=>trivial
 |exc c fs=>trivial
 |ok k =>
  obtain⟨x,e1,e2⟩:=hc
  subst e2
  rw[e1]
  cases x with
  |false=>exact⟨_,rfl,rfl⟩
  |true =>
   have hf:=hf rfl
   simp only[RE.bind_ok,if_true,noX]
   cases mf with
   |bad=>trivial
   |exc c fs=>trivial
   |ok y =>
    obtain⟨er,e3,e4⟩:=hf
    rw[e3]
    simp only[RE.bind_ok,noX]
    have hsh:=e4.s
    cases er with
    |brw ds b=>cases s<;>simp_all[qdZ,ER.isF,Sh.nb]
    |val d b=>exact⟨_,rfl,_,by rw[←e4.d],e4.t⟩
    |fre d b=>exact⟨_,rfl,_,by rw[←e4.d],e4.t⟩
theorem XE.lc {own:List Nat} {it:Itx} {i:Nat} {cnd:Tes} {m1:RE (List α)} {o t0:Bool} {mc:α→RE Bool} {mf:α→RE β} (ρ₂:Sl→List Sl) (hi:XI Γ it ρ m1 en t1 o) (ht:t0=true→t1=true∨Flat en) (hset:∀q,(wipeS ρ own).set i q=ρ₂ q)
  (hc:∀x q,SlV t0 (en x) q→XTs Γ true cnd (ρ₂ q) (mc x)) (hf:∀x q,SlV t0 (en x) q→mc x=.ok true→XE Γ e (ρ₂ q) (mf x) en2 s t) (hs:s.nb=true) :
  XE Γ (.lc own it [i] cnd e) ρ (m1.bind fun xs=>gd (leB xs.length) (lcE mc mf xs)) (eL en2) .f t:=by
 unfold XE;rw[ev]
 refine XR.bind hi fun xs w hw=>?_
 obtain⟨w1,w2,_⟩:=hw
 rw[w1,List.length_map]
 cases hl:leB xs.length with
 |false=>trivial
 |true =>
  simp only[qhz]
  have e:lcE mc mf xs=(lcE mc mf xs).bind fun k=>.ok k:=by cases lcE mc mf xs<;>rfl
  rw[e]
  refine XR.bind (qhp (t:=t) (en2:=en2) fun x _=>?_) fun ys r hr=>qls (by rw[hr.1];rfl) hr.2
  simp only[qaV,hset]
  have hq:SlV t0 (en x) (.val (en x) (w.b||(en x).flat)):=⟨_,rfl,fun z=>by
   rcases ht z with q | q
   ·simp[w2 q]
   ·rw[q.flat];simp⟩
  exact qiv (hc x _ hq) (hf x _ hq) hs
theorem XTs.nil {c:Bool}:XTs Γ c .nil ρ (.ok c):=by unfold XTs;rw[qda];exact⟨_,rfl,rfl⟩
end
end Cm
namespace Cm
def Out.rt:Out→RE ER
 |.ret er=>.ok er
 |.exc c fs=>.exc c fs
 |_=>.bad
inductive Fl (β σ:Type) where
 |nx (s:σ) | rt (b:β) | bk (s:σ)
def XN {σ:Type} (o:Out) (m:RE σ) (S:σ→List Sl→Prop):Prop:=match m with
 |.bad=>True
 |.ok v=>∃ρ',o=.nx ρ'∧S v ρ'
 |.exc c fs=>o=.exc c fs
def XL {σ:Type} (o:Out) (m:RE σ) (S:σ→List Sl→Prop):Prop:=match m with
 |.bad=>True
 |.ok v=>∃ρ',(o=.nx ρ'∨o=.cnt ρ')∧S v ρ'
 |.exc c fs=>o=.exc c fs
def XF {β σ:Type} (o:Out) (m:RE (Fl β σ)) (R:β→ER→Prop) (S:σ→List Sl→Prop):Prop:=match m with
 |.bad=>True
 |.ok (.nx v)=>∃ρ',(o=.nx ρ'∨o=.cnt ρ')∧S v ρ'
 |.ok (.rt b)=>∃er,o=.ret er∧R b er
 |.ok (.bk v)=>∃ρ',o=.brk ρ'∧S v ρ'
 |.exc c fs=>o=.exc c fs
def XX {β σ:Type} (o:Out) (m:RE (Fl β σ)) (R:β→ER→Prop) (S:σ→List Sl→Prop):Prop:=match m with
 |.bad=>True
 |.ok (.nx v)=>∃ρ',o=.cnt ρ'∧S v ρ'
 |.ok (.rt b)=>∃er,o=.ret er∧R b er
 |.ok (.bk v)=>∃ρ',o=.brk ρ'∧S v ρ'
 |.exc c fs=>o=.exc c fs
abbrev BR {β:Type} (Γ:Env) (ss:Sms) (ρ:List Sl) (m:RE β) (en:β→D) (s:Sh) (t:Bool):Prop:=XR (qae Γ ss ρ).rt m fun v er=>Is s t (en v) er
abbrev BN {σ:Type} (Γ:Env) (ss:Sms) (ρ:List Sl) (m:RE σ) (S:σ→List Sl→Prop):Prop:=XN (qae Γ ss ρ) m S
abbrev BL {σ:Type} (Γ:Env) (ss:Sms) (ρ:List Sl) (m:RE σ) (S:σ→List Sl→Prop):Prop:=XL (qae Γ ss ρ) m S
abbrev BF {β σ:Type} (Γ:Env) (ss:Sms) (ρ:List Sl) (m:RE (Fl β σ)) (R:β→ER→Prop) (S:σ→List Sl→Prop):Prop:=XF (qae Γ ss ρ) m R S
abbrev BX {β σ:Type} (Γ:Env) (ss:Sms) (ρ:List Sl) (m:RE (Fl β σ)) (R:β→ER→Prop) (S:σ→List Sl→Prop):Prop:=XX (qae Γ ss ρ) m R S
def XG {β σ:Type} (o:Out) (m:RE (Fl β σ)) (R:β→ER→Prop) (S:σ→List Sl→Prop):Prop:=match m with
 |.bad=>True
 |.ok (.nx v)=>∃ρ',o=.nx ρ'∧S v ρ'
 |.ok (.rt b)=>∃er,o=.ret er∧R b er
 |.ok (.bk v)=>False
 |.exc c fs=>o=.exc c fs
abbrev BG {β σ:Type} (Γ:Env) (ss:Sms) (ρ:List Sl) (m:RE (Fl β σ)) (R:β→ER→Prop) (S:σ→List Sl→Prop):Prop:=XG (qae Γ ss ρ) m R S
def Fl.bR {β σ:Type} (m:RE (Fl β σ)) (k:σ→RE β):RE β:=m.bind fun f=>match f with
 |.nx v=>k v
 |.rt b=>.ok b
 |.bk _=>.bad
def Fl.bF {β σ τ:Type} (m:RE (Fl β σ)) (k:σ→RE (Fl β τ)):RE (Fl β τ):=m.bind fun f=>match f with
 |.nx v=>k v
 |.rt b=>.ok (.rt b)
 |.bk _=>.bad
abbrev SN {σ:Type} (Γ:Env) (s:Sm) (ρ:List Sl) (m:RE σ) (S:σ→List Sl→Prop):Prop:=XN (run Γ s ρ) m S
abbrev SF {β σ:Type} (Γ:Env) (s:Sm) (ρ:List Sl) (m:RE (Fl β σ)) (R:β→ER→Prop) (S:σ→List Sl→Prop):Prop:=XG (run Γ s ρ) m R S
section
variable {Γ:Env} {ρ:List Sl} {α β γ δ σ τ:Type} {en:α→D} {en2:β→D} {e a b:Ex} {s s1 s2:Sh} {t t1 t2:Bool} {ss sa sb:Sms} {q:Sm} {R:β→ER→Prop} {S:σ→List Sl→Prop} {S':τ→List Sl→Prop}
theorem BR.cons {m:RE σ} {k:σ→RE β} (h:SN Γ q ρ m S) (hk:∀v ρ',S v ρ'→BR Γ ss ρ' (k v) en2 s t):BR Γ (.cons q ss) ρ (m.bind k) en2 s t:=by
 unfold BR
 rw[qae]
 cases m with
 |bad=>trivial
 |ok v=>obtain⟨ρ',e,h⟩:=h;rw[e];exact hk v ρ' h
 |exc c fs=>have h:run Γ q ρ=_:=h;rw[h];rfl
theorem BN.cons {m:RE σ} {k:σ→RE τ} (h:SN Γ q ρ m S) (hk:∀v ρ',S v ρ'→BN Γ ss ρ' (k v) S'):BN Γ (.cons q ss) ρ (m.bind k) S':=by
 unfold BN
 rw[qae]
 cases m with
 |bad=>trivial
 |ok v=>obtain⟨ρ',e,h⟩:=h;rw[e];exact hk v ρ' h
 |exc c fs=>have h:run Γ q ρ=_:=h;rw[h];rfl
theorem BL.cons {m:RE σ} {k:σ→RE τ} (h:SN Γ q ρ m S) (hk:∀v ρ',S v ρ'→BL Γ ss ρ' (k v) S'):BL Γ (.cons q ss) ρ (m.bind k) S':=by
 unfold BL
 rw[qae]
 cases m with
 |bad=>trivial
 |ok v=>obtain⟨ρ',e,h⟩:=h;rw[e];exact hk v ρ' h
 |exc c fs=>have h:run Γ q ρ=_:=h;rw[h];rfl
theorem BF.cons {m:RE σ} {k:σ→RE (Fl β τ)} (h:SN Γ q ρ m S) (hk:∀v ρ',S v ρ'→BF Γ ss ρ' (k v) R S'):BF Γ (.cons q ss) ρ (m.bind k) R S':=by
 unfold BF
 rw[qae]
 cases m with
 |bad=>trivial
 |ok v=>obtain⟨ρ',e,h⟩:=h;rw[e];exact hk v ρ' h
 |exc c fs=>have h:run Γ q ρ=_:=h;rw[h];rfl
theorem BX.cons {m:RE σ} {k:σ→RE (Fl β τ)} (h:SN Γ q ρ m S) (hk:∀v ρ',S v ρ'→BX Γ ss ρ' (k v) R S'):BX Γ (.cons q ss) ρ (m.bind k) R S':=by
 unfold BX
 rw[qae]
 cases m with
 |bad=>trivial
 |ok v=>obtain⟨ρ',e,h⟩:=h;rw[e];exact hk v ρ' h
 |exc c fs=>have h:run Γ q ρ=_:=h;rw[h];rfl
theorem BR.consF {m:RE (Fl β σ)} {k:σ→RE β} (h:SF Γ q ρ m (fun v er=>Is s t (en2 v) er) S) (hk:∀v ρ',S v ρ'→BR Γ ss ρ' (k v) en2 s t):BR Γ (.cons q ss) ρ (Fl.bR m k) en2 s t:=by
 unfold BR
 rw[qae]
 cases m with
 |bad=>trivial
 |ok v =>
  cases v with
  |nx v=>obtain⟨ρ',e,h⟩:=h;rw[e];exact hk v ρ' h
  |rt b=>obtain⟨er,e,h⟩:=h;rw[e];exact⟨_,rfl,h⟩
  |bk v=>trivial
 |exc c fs=>have h:run Γ q ρ=_:=h;rw[h];rfl
theorem BF.consF {m:RE (Fl β σ)} {k:σ→RE (Fl β τ)} (h:SF Γ q ρ m R S) (hk:∀v ρ',S v ρ'→BF Γ ss ρ' (k v) R S'):BF Γ (.cons q ss) ρ (Fl.bF m k) R S':=by
 unfold BF
 rw[qae]
 cases m with
 |bad=>trivial
 |ok v =>
  cases v with
  |nx v=>obtain⟨ρ',e,h⟩:=h;rw[e];exact hk v ρ' h
  |rt b=>obtain⟨er,e,h⟩:=h;rw[e];exact⟨_,rfl,h⟩
  |bk v=>trivial
 |exc c fs=>have h:run Γ q ρ=_:=h;rw[h];rfl
theorem BG.consF {m:RE (Fl β σ)} {k:σ→RE (Fl β τ)} (h:SF Γ q ρ m R S) (hk:∀v ρ',S v ρ'→BG Γ ss ρ' (k v) R S'):BG Γ (.cons q ss) ρ (Fl.bF m k) R S':=by
 unfold BG
 rw[qae]
 cases m with
 |bad=>trivial
 |ok v =>
  cases v with
  |nx v=>obtain⟨ρ',e,h⟩:=h;rw[e];exact hk v ρ' h
  |rt b=>obtain⟨er,e,h⟩:=h;rw[e];exact⟨_,rfl,h⟩
  |bk v=>trivial
 |exc c fs=>have h:run Γ q ρ=_:=h;rw[h];rfl
theorem BG.cons {m:RE σ} {k:σ→RE (Fl β τ)} (h:SN Γ q ρ m S) (hk:∀v ρ',S v ρ'→BG Γ ss ρ' (k v) R S'):BG Γ (.cons q ss) ρ (m.bind k) R S':=by
 unfold BG
 rw[qae]
 cases m with
 |bad=>trivial
 |ok v=>obtain⟨ρ',e,h⟩:=h;rw[e];exact hk v ρ' h
 |exc c fs=>have h:run Γ q ρ=_:=h;rw[h];rfl
theorem BG.nil {v:σ} (h:S v ρ):BG Γ .nil ρ (.ok (.nx v)) R S:=by unfold BG;rw[qae];exact⟨_,rfl,h⟩
theorem BN.nil {v:σ} (h:S v ρ):BN Γ .nil ρ (.ok v) S:=by unfold BN;rw[qae];exact⟨_,rfl,h⟩
theorem BL.nil {v:σ} (h:S v ρ):BL Γ .nil ρ (.ok v) S:=by unfold BL;rw[qae];exact⟨_,.inl rfl,h⟩
theorem BF.nil {v:σ} (h:S v ρ):BF Γ .nil ρ (.ok (.nx v)) R S:=by unfold BF;rw[qae];exact⟨_,.inl rfl,h⟩
theorem BL.cnt {v:σ} (h:S v ρ):BL Γ (.cons .cnt ss) ρ (.ok v) S:=by unfold BL;rw[qae,Cm.run];exact⟨_,.inr rfl,h⟩
theorem BF.cnt {v:σ} (h:S v ρ):BF Γ (.cons .cnt ss) ρ (.ok (.nx v)) R S:=by unfold BF;rw[qae,Cm.run];exact⟨_,.inr rfl,h⟩
theorem BX.cnt {v:σ} (h:S v ρ):BX Γ (.cons .cnt ss) ρ (.ok (.nx v)) R S:=by unfold BX;rw[qae,Cm.run];exact⟨_,rfl,h⟩
theorem BF.brk {v:σ} (h:S v ρ):BF Γ (.cons .brk ss) ρ (.ok (.bk v)) R S:=by unfold BF;rw[qae,Cm.run];exact⟨_,rfl,h⟩
theorem BX.brk {v:σ} (h:S v ρ):BX Γ (.cons .brk ss) ρ (.ok (.bk v)) R S:=by unfold BX;rw[qae,Cm.run];exact⟨_,rfl,h⟩
theorem BX.F {m:RE (Fl β σ)} (h:BX Γ ss ρ m R S):BF Γ ss ρ m R S:=by
 unfold BF
 cases m with
 |bad=>trivial
 |ok v =>
  cases v with
  |nx v=>obtain⟨ρ',e,h⟩:=h;exact⟨ρ',.inr e,h⟩
  |rt b=>exact h
  |bk v=>exact h
 |exc c fs=>exact h
theorem BR.X {m:RE β} (h:BR Γ ss ρ m en2 s t):BX (σ:=σ) Γ ss ρ (m.bind fun b=>.ok (.rt b)) (fun v er=>Is s t (en2 v) er) S:=by
 unfold BX
 cases m with
 |bad=>trivial
 |ok v =>
  obtain⟨er,e,h⟩:=h
  cases hr:qae Γ ss ρ<;>rw[hr] at e<;>cases e
  exact⟨_,rfl,h⟩
 |exc c fs =>
  have h:(qae Γ ss ρ).rt=_:=h
  cases hr:qae Γ ss ρ<;>rw[hr] at h<;>cases h
  rfl
theorem BR.XP {v:β} (h:BR Γ ss ρ (.ok v) en2 s t):BX (σ:=σ) Γ ss ρ (.ok (.rt v)) (fun v er=>Is s t (en2 v) er) S:=BR.X h
theorem Is.ret {d:D} {er:ER} (h:Is s t d er):Is s.ret t d (qkp er):=by
 have:=h.s
 have:=h.d
 have:=h.t
 cases s<;>cases er<;>simp_all[qdZ,ER.isF,Sh.ret]<;>exact⟨by assumption,rfl,by simpa using h.t⟩
theorem BR.ret {m:RE α} (h:XE Γ e ρ m en s1 t) (hs:s1.ret=s):BR Γ (.cons (.ret e) ss) ρ m en s t:=by
 unfold BR
 rw[qae,Cm.run]
 subst hs
 cases m with
 |bad=>trivial
 |ok v=>obtain⟨er,e,h⟩:=h;rw[e];exact⟨_,rfl,h.ret⟩
 |exc c fs=>have h:ev Γ _ ρ=_:=h;rw[h];rfl
theorem BR.retN:BR Γ (.cons .retN ss) ρ (.ok ()) eU .v true:=by unfold BR;rw[qae,Cm.run];exact⟨_,rfl,rfl,rfl,fun _=>rfl⟩
theorem BR.weak {m:RE α} (h:BR Γ ss ρ m en s t) (hs:s.nb=true):BR Γ ss ρ m en .n t:=XR.mono h fun _ _ k=>k.weak hs
theorem BR.low {m:RE α} (h:BR Γ ss ρ m en s t):BR Γ ss ρ m en s false:=XR.mono h fun _ _ k=>k.low
theorem BR.iff {c:Te} {mt:RE Bool} {m1 m2:RE β} (h:XT Γ c ρ mt) (ha:BR Γ sa ρ m1 en2 s t) (hb:BR Γ sb ρ m2 en2 s t):BR Γ (.cons (.iff c sa sb) ss) ρ (mt.bind fun k=>if k=true then m1 else m2) en2 s t:=by
 unfold BR
 rw[qae,Cm.run]
 cases mt with
 |bad=>trivial
 |exc c fs=>have h:evT Γ _ ρ=_:=h;rw[h];rfl
 |ok v =>
  obtain⟨x,e,rfl⟩:=h
  rw[e]
  simp only[RE.out_ok,RE.bind_ok]
  have key:∀{sx:Sms} {m:RE β},BR Γ sx ρ m en2 s t→XR (((qae Γ sx ρ).seq fun ρ'=>qae Γ ss ρ').rt) m fun v er=>Is s t (en2 v) er:=fun {sx m} hx=>by
   cases m with
   |bad=>trivial
   |ok v =>
    obtain⟨er,e,h⟩:=hx
    cases hr:qae Γ sx ρ<;>rw[hr] at e<;>cases e
    exact⟨_,rfl,h⟩
   |exc c fs =>
    have h:(qae Γ sx ρ).rt=_:=hx
    cases hr:qae Γ sx ρ<;>rw[hr] at h<;>cases h
    rfl
  cases x
  ·exact key hb
  ·exact key ha
theorem BR.ifR {c:Te} {mt:RE Bool} {m1 m2:RE β} (h:XT Γ c ρ mt) (ha:BR Γ sa ρ m1 en2 s t) (hb:BR Γ ss ρ m2 en2 s t):BR Γ (.cons (.iff c sa .nil) ss) ρ (mt.bind fun k=>if k=true then m1 else m2) en2 s t:=by
 unfold BR
 rw[qae,Cm.run]
 cases mt with
 |bad=>trivial
 |exc c fs=>have h:evT Γ _ ρ=_:=h;rw[h];rfl
 |ok v =>
  obtain⟨x,e,rfl⟩:=h
  rw[e]
  simp only[RE.out_ok,RE.bind_ok]
  cases x with
  |false=>simp only[Bool.false_eq_true,if_false,qae];exact hb
  |true =>
   simp only[if_true]
   cases m1 with
   |bad=>trivial
   |ok v =>
    obtain⟨er,e,h⟩:=ha
    cases hr:qae Γ sa ρ<;>rw[hr] at e<;>cases e
    exact⟨_,rfl,h⟩
   |exc c fs =>
    have h:(qae Γ sa ρ).rt=_:=ha
    cases hr:qae Γ sa ρ<;>rw[hr] at h<;>cases h
    rfl
theorem BF.ifX {c:Te} {mt:RE Bool} {m1 m2:RE (Fl β σ)} (h:XT Γ c ρ mt) (ha:BX Γ sa ρ m1 R S) (hb:BF Γ ss ρ m2 R S):BF Γ (.cons (.iff c sa .nil) ss) ρ (mt.bind fun k=>if k=true then m1 else m2) R S:=by
 unfold BF
 rw[qae,Cm.run]
 cases mt with
 |bad=>trivial
 |exc c fs=>have h:evT Γ _ ρ=_:=h;rw[h];rfl
 |ok v =>
  obtain⟨x,e,rfl⟩:=h
  rw[e]
  simp only[RE.out_ok,RE.bind_ok]
  cases x with
  |false=>simp only[Bool.false_eq_true,if_false,qae];exact hb
  |true =>
   simp only[if_true]
   cases m1 with
   |bad=>trivial
   |ok v =>
    cases v with
    |nx v=>obtain⟨ρ',e,h⟩:=ha;rw[e];exact⟨_,.inr rfl,h⟩
    |rt b=>obtain⟨er,e,h⟩:=ha;rw[e];exact⟨_,rfl,h⟩
    |bk v=>obtain⟨ρ',e,h⟩:=ha;rw[e];exact⟨_,rfl,h⟩
   |exc c fs=>have h:qae Γ sa ρ=_:=ha;rw[h];rfl
theorem BX.ifX {c:Te} {mt:RE Bool} {m1 m2:RE (Fl β σ)} (h:XT Γ c ρ mt) (ha:BX Γ sa ρ m1 R S) (hb:BX Γ ss ρ m2 R S):BX Γ (.cons (.iff c sa .nil) ss) ρ (mt.bind fun k=>if k=true then m1 else m2) R S:=by
 unfold BX
 rw[qae,Cm.run]
 cases mt with
 |bad=>trivial
 |exc c fs=>have h:evT Γ _ ρ=_:=h;rw[h];rfl
 |ok v =>
  obtain⟨x,e,rfl⟩:=h
  rw[e]
  simp only[RE.out_ok,RE.bind_ok]
  cases x with
  |false=>simp only[Bool.false_eq_true,if_false,qae];exact hb
  |true =>
   simp only[if_true]
   cases m1 with
   |bad=>trivial
   |ok v =>
    cases v with
    |nx v=>obtain⟨ρ',e,h⟩:=ha;rw[e];exact⟨_,rfl,h⟩
    |rt b=>obtain⟨er,e,h⟩:=ha;rw[e];exact⟨_,rfl,h⟩
    |bk v=>obtain⟨ρ',e,h⟩:=ha;rw[e];exact⟨_,rfl,h⟩
   |exc c fs=>have h:qae Γ sa ρ=_:=ha;rw[h];rfl
theorem BL.ifX {c:Te} {mt:RE Bool} {m1 m2:RE σ} {v:σ} (h:XT Γ c ρ mt) (ha:sa=.cons .cnt .nil) (hs:S v ρ) (hb:BL Γ ss ρ m2 S):BL Γ (.cons (.iff c sa .nil) ss) ρ (mt.bind fun k=>if k=true then .ok v else m2) S:=by
 unfold BL
 subst ha
 rw[qae,Cm.run]
 cases mt with
 |bad=>trivial
 |exc c fs=>have h:evT Γ _ ρ=_:=h;rw[h];rfl
 |ok v =>
  obtain⟨x,e,rfl⟩:=h
  rw[e]
  simp only[RE.out_ok,RE.bind_ok]
  cases x with
  |false=>simp only[Bool.false_eq_true,if_false,qae];exact hb
  |true=>simp only[if_true,qae,Cm.run];exact⟨_,.inr rfl,hs⟩
theorem BF.iff {c:Te} {mt:RE Bool} {m1 m2:RE (Fl β σ)} (h:XT Γ c ρ mt) (ha:BF Γ sa ρ m1 R S) (hb:BF Γ sb ρ m2 R S):BF Γ (.cons (.iff c sa sb) .nil) ρ (mt.bind fun k=>if k=true then m1 else m2) R S:=by
 unfold BF
 rw[qae,Cm.run]
 cases mt with
 |bad=>trivial
 |exc c fs=>have h:evT Γ _ ρ=_:=h;rw[h];rfl
 |ok v =>
  obtain⟨x,e,rfl⟩:=h
  rw[e]
  simp only[RE.out_ok,RE.bind_ok]
  have key:∀{sx:Sms} {m:RE (Fl β σ)},BF Γ sx ρ m R S→XF ((qae Γ sx ρ).seq fun ρ'=>qae Γ .nil ρ') m R S:=fun {sx m} hx=>by
   have:((qae Γ sx ρ).seq fun ρ'=>qae Γ .nil ρ')=qae Γ sx ρ:=by
    cases qae Γ sx ρ<;>simp only[Out.seq,qae]
   rw[this];exact hx
  cases x
  ·exact key hb
  ·exact key ha
theorem BX.iff {c:Te} {mt:RE Bool} {m1 m2:RE (Fl β σ)} (h:XT Γ c ρ mt) (ha:BX Γ sa ρ m1 R S) (hb:BX Γ sb ρ m2 R S):BX Γ (.cons (.iff c sa sb) .nil) ρ (mt.bind fun k=>if k=true then m1 else m2) R S:=by
 unfold BX
 rw[qae,Cm.run]
 cases mt with
 |bad=>trivial
 |exc c fs=>have h:evT Γ _ ρ=_:=h;rw[h];rfl
 |ok v =>
  obtain⟨x,e,rfl⟩:=h
  rw[e]
  simp only[RE.out_ok,RE.bind_ok]
  have key:∀{sx:Sms} {m:RE (Fl β σ)},BX Γ sx ρ m R S→XX ((qae Γ sx ρ).seq fun ρ'=>qae Γ .nil ρ') m R S:=fun {sx m} hx=>by
   have:((qae Γ sx ρ).seq fun ρ'=>qae Γ .nil ρ')=qae Γ sx ρ:=by
    cases qae Γ sx ρ<;>simp only[Out.seq,qae]
   rw[this];exact hx
  cases x
  ·exact key hb
  ·exact key ha
theorem SN.iff {c:Te} {mt:RE Bool} {m1 m2:RE σ} (h:XT Γ c ρ mt) (ha:BN Γ sa ρ m1 S) (hb:BN Γ sb ρ m2 S):SN Γ (.iff c sa sb) ρ (mt.bind fun k=>if k=true then m1 else m2) S:=by
 unfold SN
 rw[Cm.run]
 cases mt with
 |bad=>trivial
 |exc c fs=>have h:evT Γ _ ρ=_:=h;rw[h];rfl
 |ok v =>
  obtain⟨x,e,rfl⟩:=h
  rw[e]
  cases x
  ·exact hb
  ·exact ha
theorem SF.iff {c:Te} {mt:RE Bool} {m1 m2:RE (Fl β σ)} (h:XT Γ c ρ mt) (ha:BG Γ sa ρ m1 R S) (hb:BG Γ sb ρ m2 R S):SF Γ (.iff c sa sb) ρ (mt.bind fun k=>if k=true then m1 else m2) R S:=by
 unfold SF
 rw[Cm.run]
 cases mt with
 |bad=>trivial
 |exc c fs=>have h:evT Γ _ ρ=_:=h;rw[h];rfl
 |ok v =>
  obtain⟨x,e,rfl⟩:=h
  rw[e]
  cases x
  ·exact hb
  ·exact ha
theorem BX.G {m:RE β} {en2:β→D} (h:BR Γ ss ρ m en2 s t):BG (σ:=σ) Γ ss ρ (m.bind fun b=>.ok (.rt b)) (fun v er=>Is s t (en2 v) er) S:=by
 unfold BG
 cases m with
 |bad=>trivial
 |ok v =>
  obtain⟨er,e,h⟩:=h
  cases hr:qae Γ ss ρ<;>rw[hr] at e<;>cases e
  exact⟨_,rfl,h⟩
 |exc c fs =>
  have h:(qae Γ ss ρ).rt=_:=h
  cases hr:qae Γ ss ρ<;>rw[hr] at h<;>cases h
  rfl
theorem BG.ifR {c:Te} {mt:RE Bool} {m1:RE β} {m2:RE (Fl β σ)} {en2:β→D} (h:XT Γ c ρ mt) (ha:BR Γ sa ρ m1 en2 s t) (hb:BG Γ ss ρ m2 (fun v er=>Is s t (en2 v) er) S):BG Γ (.cons (.iff c sa .nil) ss) ρ (mt.bind fun k=>if k=true then m1.bind fun b=>.ok (.rt b) else m2) (fun v er=>Is s t (en2 v) er) S:=by
 unfold BG
 rw[qae,Cm.run]
 cases mt with
 |bad=>trivial
 |exc c fs=>have h:evT Γ _ ρ=_:=h;rw[h];rfl
 |ok v =>
  obtain⟨x,e,rfl⟩:=h
  rw[e]
  simp only[RE.out_ok,RE.bind_ok]
  cases x with
  |false=>simp only[Bool.false_eq_true,if_false,qae];exact hb
  |true =>
   simp only[if_true]
   cases m1 with
   |bad=>trivial
   |ok v =>
    obtain⟨er,e,h⟩:=ha
    cases hr:qae Γ sa ρ<;>rw[hr] at e<;>cases e
    exact⟨_,rfl,h⟩
   |exc c fs =>
    have h:(qae Γ sa ρ).rt=_:=ha
    cases hr:qae Γ sa ρ<;>rw[hr] at h<;>cases h
    rfl
theorem SN.asg {i:Nat} {m:RE α} (ρ₂:Sl→List Sl) (h:XE Γ e ρ m en s t) (hs:s.nb=true) (hset:∀q,ρ.set i q=ρ₂ q):SN Γ (.asg i e) ρ m fun v ρ'=>∃q,ρ'=ρ₂ q∧SlV t (en v) q:=by
 unfold SN
 rw[Cm.run]
 cases m with
 |bad=>trivial
 |ok v =>
  obtain⟨er,e,h⟩:=h
  rw[e]
  have h1:=h.s
  have h2:=h.d
  have h3:=h.t
  cases er with
  |val d b=>simp only[RE.out_ok,held];exact⟨_,rfl,_,hset _,b,by rw[←h2];rfl,h3⟩
  |fre d b=>simp only[RE.out_ok,held];exact⟨_,rfl,_,hset _,b,by rw[←h2];rfl,h3⟩
  |brw d b=>cases s<;>simp_all[qdZ,ER.isF,Sh.nb]
 |exc c fs=>have h:ev Γ _ ρ=_:=h;rw[h];rfl
theorem SN.own {i:Nat} {m:RE (List α)} (ρ₂:Sl→List Sl) (h:XE Γ e ρ m (eL en) .f t) (hset:∀q,ρ.set i q=ρ₂ q):SN Γ (.own i e) ρ m fun v ρ'=>∃q,ρ'=ρ₂ q∧SlO t (v.map en) q:=by
 unfold SN
 rw[Cm.run]
 cases m with
 |bad=>trivial
 |ok v =>
  obtain⟨er,e,h⟩:=h
  rw[e]
  have h1:=h.s
  have h2:=h.d
  have h3:=h.t
  cases er with
  |val d b=>cases h1
  |fre d b =>
   simp only[RE.out_ok]
   refine⟨_,rfl,_,hset _,b,?_,h3⟩
   cases h2
   rfl
  |brw d b=>cases h1
 |exc c fs=>have h:ev Γ _ ρ=_:=h;rw[h];rfl
theorem SN.expr {m:RE α} (h:XE Γ e ρ m en s t):SN Γ (.expr e) ρ m fun _ ρ'=>ρ'=ρ:=by
 unfold SN
 rw[Cm.run]
 cases m with
 |bad=>trivial
 |ok v=>obtain⟨er,e,h⟩:=h;rw[e];exact⟨_,rfl,rfl⟩
 |exc c fs=>have h:ev Γ _ ρ=_:=h;rw[h];rfl
theorem SN.pas:SN Γ .pas ρ (.ok ()) fun _ ρ'=>ρ'=ρ:=by unfold SN;rw[Cm.run];exact⟨_,rfl,rfl⟩
theorem SN.asg2 {γ:Type} {en3:γ→D} {i j:Nat} {m:RE (α × γ)} {t3 t4:Bool} (ρ₂:Sl→Sl→List Sl) (h:XE Γ e ρ m (eT2 en en3) s t) (ht:t3=true→t=true∨Flat en) (ht':t4=true→t=true∨Flat en3) (hset:∀q r,(ρ.set i q).set j r=ρ₂ q r) :
  SN Γ (.asgT [i,j] e) ρ m fun v ρ'=>∃q r,ρ'=ρ₂ q r∧SlV t3 (en v.1) q∧SlV t4 (en3 v.2) r:=by
 unfold SN
 rw[Cm.run]
 cases m with
 |bad=>trivial
 |ok v =>
  obtain⟨er,e,h⟩:=h
  rw[e]
  have h1:=h.s
  have h2:=h.d
  have h3:=h.t
  cases er with
  |val d b =>
   have h2:d=.tup [en v.1,en3 v.2]:=h2
   subst h2
   simp only[RE.out_ok,held,qaV,qdu,qcR]
   refine⟨_,rfl,_,_,hset _ _,⟨_,rfl,fun z=>?_⟩,⟨_,rfl,fun z=>?_⟩⟩
   ·rcases ht z with q | q
    ·have:b=true:=h3 q
     rw[this];rfl
    ·rw[q.flat];simp
   ·rcases ht' z with q | q
    ·have:b=true:=h3 q
     rw[this];rfl
    ·rw[q.flat];simp
  |fre d b=>cases h2
  |brw d b=>cases h2
 |exc c fs=>have h:ev Γ _ ρ=_:=h;rw[h];rfl
def qkB (ds es:List D):Bool:=D.flats ds&&(clD ds != clD es)&&qh1 (clD es) es
def qeR {γ:Type} (e1:α→D) (e2:γ→D) (p:List α × List γ):RE (List α × List γ):=gd (qkB (p.1.map e1) (p.2.map e2)) (.ok p)
theorem SN.asg3 {γ δ:Type} {en3:γ→D} {en4:δ→D} {i j k:Nat} {m:RE (α × γ × δ)} {t3 t4 t5:Bool} (ρ₂:Sl→Sl→Sl→List Sl) (h:XE Γ e ρ m (eT3 en en3 en4) s t) (ht:t3=true→t=true∨Flat en) (ht':t4=true→t=true∨Flat en3) (ht2:t5=true→t=true∨Flat en4) (hset:∀q r u,((ρ.set i q).set j r).set k u=ρ₂ q r u) :
  SN Γ (.asgT [i,j,k] e) ρ m fun v ρ'=>∃q r u,ρ'=ρ₂ q r u∧SlV t3 (en v.1) q∧SlV t4 (en3 v.2.1) r∧SlV t5 (en4 v.2.2) u:=by
 unfold SN
 rw[Cm.run]
 cases m with
 |bad=>trivial
 |ok v =>
  obtain⟨er,e,h⟩:=h
  rw[e]
  have h1:=h.s
  have h2:=h.d
  have h3:=h.t
  cases er with
  |val d b =>
   have h2:d=.tup [en v.1,en3 v.2.1,en4 v.2.2]:=h2
   subst h2
   simp only[RE.out_ok,held,qaV,qdu,qcR]
   refine⟨_,rfl,_,_,_,hset _ _ _,⟨_,rfl,fun z=>?_⟩,⟨_,rfl,fun z=>?_⟩,⟨_,rfl,fun z=>?_⟩⟩
   ·rcases ht z with q | q
    ·have:b=true:=h3 q
     rw[this];rfl
    ·rw[q.flat];simp
   ·rcases ht' z with q | q
    ·have:b=true:=h3 q
     rw[this];rfl
    ·rw[q.flat];simp
   ·rcases ht2 z with q | q
    ·have:b=true:=h3 q
     rw[this];rfl
    ·rw[q.flat];simp
  |fre d b=>cases h2
  |brw d b=>cases h2
 |exc c fs=>have h:ev Γ _ ρ=_:=h;rw[h];rfl
theorem qed {d:D} {er:ER} (h:Is s t d er) (hs:s.nb=true):∃b,(∀f:D→Bool→Out,held er f=f d b)∧(t=true→b=true):=by
 have h1:=h.s
 have h2:=h.d
 have h3:=h.t
 cases er with
 |val d' b=>cases h2;exact⟨b,fun _=>rfl,h3⟩
 |fre d' b=>cases h2;exact⟨b,fun _=>rfl,h3⟩
 |brw d' b=>cases s<;>simp_all[qdZ,ER.isF,Sh.nb]
theorem Is.frz {d:D} {er:ER} (h:Is s t d er) (hs:s.nb=true):Is .v t d er.frz:=by
 have h1:=h.s
 have h2:=h.d
 have h3:=h.t
 cases er with
 |val d' b=>exact⟨h2,rfl,h3⟩
 |fre d' b=>exact⟨h2,rfl,h3⟩
 |brw d' b=>cases s<;>simp_all[qdZ,ER.isF,Sh.nb]
theorem SN.put {i:Nat} {ix:Ex} {m1:RE α} {m2:RE Int} {xs:List α} {q0:Sl} (ρ₂:Sl→List Sl) (h:XE Γ e ρ m1 en s t1) (hs:s.nb=true) (h0:ρ[i]? = some q0) (hq:SlO t2 (xs.map en) q0) (hi:XE Γ ix ρ m2 eI s2 t) (hset:∀q,ρ.set i q=ρ₂ q) :
  SN Γ (.put i ix e) ρ (m1.bind fun x=>m2.bind fun k=>(match L2.ixN xs.length k with
   |some j=>.ok (xs.set j x)
   |none=>.bad)) fun v ρ'=>∃q,ρ'=ρ₂ q∧SlO (t1&&t2) (v.map en) q:=by
 unfold SN
 rw[Cm.run]
 obtain⟨f,rfl,hf⟩:=hq
 cases m1 with
 |bad=>trivial
 |exc c fs=>have h:ev Γ _ ρ=_:=h;rw[h];rfl
 |ok x =>
  obtain⟨er,e1,h1⟩:=h
  rw[e1]
  simp only[RE.out_ok,RE.bind_ok]
  obtain⟨b1,q1,r1⟩:=qed h1 hs
  rw[q1,qaI,h0]
  simp only
  cases m2 with
  |bad=>trivial
  |exc c fs=>have h:ev Γ _ ρ=_:=hi;rw[h];rfl
  |ok k =>
   obtain⟨er2,e2,h2⟩:=hi
   rw[e2]
   simp only[RE.out_ok,RE.bind_ok,h2.d,List.length_map]
   cases L2.ixN xs.length k with
   |none=>trivial
   |some j =>
    refine⟨_,rfl,_,hset _,_,by rw[List.map_set],fun z=>?_⟩
    rw[Bool.and_eq_true] at z
    rw[r1 z.1,hf z.2];rfl
def qi3 (xs:List α) (k:Int) (x:α):RE (List α):=match L2.ixN xs.length k with
 |some j=>.ok (xs.set j x)
 |none=>.bad
def qbY (xs:List α) (x:α):RE (List α):=gd (leB (xs.length+1)) (.ok (xs++[x]))
theorem SN.app {i:Nat} {m1:RE α} {xs:List α} {q0:Sl} (ρ₂:Sl→List Sl) (h:XE Γ e ρ m1 en s t1) (hs:s.nb=true) (h0:ρ[i]? = some q0) (hq:SlO t2 (xs.map en) q0) (hset:∀q,ρ.set i q=ρ₂ q) :
  SN Γ (.app i e) ρ (m1.bind fun x=>qbY xs x) fun v ρ'=>∃q,ρ'=ρ₂ q∧SlO (t1&&t2) (v.map en) q:=by
 unfold SN
 rw[Cm.run]
 obtain⟨f,rfl,hf⟩:=hq
 rw[qaI,h0]
 simp only
 cases m1 with
 |bad=>trivial
 |exc c fs=>have h:ev Γ _ ρ=_:=h;rw[h];rfl
 |ok x =>
  obtain⟨er,e1,h1⟩:=h
  rw[e1]
  simp only[RE.out_ok,RE.bind_ok]
  obtain⟨b1,q1,r1⟩:=qed h1 hs
  rw[q1,List.length_map,qbY]
  cases leB (xs.length+1) with
  |false=>trivial
  |true =>
   refine⟨_,rfl,_,hset _,(b1&&f),by simp,fun z=>?_⟩
   rw[Bool.and_eq_true] at z
   rw[r1 z.1,hf z.2];rfl
theorem SN.appP {i:Nat} {x:α} {xs:List α} {q0:Sl} (ρ₂:Sl→List Sl) (h:XE Γ e ρ (.ok x) en s t1) (hs:s.nb=true) (h0:ρ[i]? = some q0) (hq:SlO t2 (xs.map en) q0) (hset:∀q,ρ.set i q=ρ₂ q) :
  SN Γ (.app i e) ρ (qbY xs x) fun v ρ'=>∃q,ρ'=ρ₂ q∧SlO (t1&&t2) (v.map en) q:=SN.app ρ₂ h hs h0 hq hset
def qkn (xs ys:List α):RE (List α):=gd (leB (xs.length+ys.length)) (.ok (xs++ys))
theorem SN.ext {i:Nat} {m1:RE (List α)} {xs:List α} {q0:Sl} (ρ₂:Sl→List Sl) (h:XE Γ e ρ m1 (eL en) .f t1) (h0:ρ[i]? = some q0) (hq:SlO t2 (xs.map en) q0) (hset:∀q,ρ.set i q=ρ₂ q) :
  SN Γ (.ext i e) ρ (m1.bind fun ys=>qkn xs ys) fun v ρ'=>∃q,ρ'=ρ₂ q∧SlO (t1&&t2) (v.map en) q:=by
 unfold SN
 rw[Cm.run]
 obtain⟨f,rfl,hf⟩:=hq
 rw[qaI,h0]
 simp only
 cases m1 with
 |bad=>trivial
 |exc c fs=>have h:ev Γ _ ρ=_:=h;rw[h];rfl
 |ok ys =>
  obtain⟨er,e1,h1⟩:=h
  rw[e1]
  have h2:=h1.s
  have h3:=h1.d
  have h4:=h1.t
  cases er with
  |val d b=>cases h2
  |brw d b=>cases h2
  |fre ds b =>
   cases h3
   simp only[RE.out_ok,RE.bind_ok,List.length_map,qkn]
   cases leB (xs.length+ys.length) with
   |false=>trivial
   |true =>
    refine⟨_,rfl,_,hset _,(b&&f),by simp,fun z=>?_⟩
    rw[Bool.and_eq_true] at z
    have:b=true:=h4 z.1
    rw[this,hf z.2];rfl
def qmO (xs:List α):RE (α × List α):=match xs.getLast? with
 |some x=>.ok (x,xs.dropLast)
 |none=>.bad
theorem SN.clr {i:Nat} {xs:List α} {q0:Sl} (ρ₂:Sl→List Sl) (h0:ρ[i]? = some q0) (hq:SlO t (xs.map en) q0) (hset:∀q,ρ.set i q=ρ₂ q) :
  SN Γ (.clr i) ρ (.ok ([]:List α)) fun v ρ'=>∃q,ρ'=ρ₂ q∧SlO true (v.map en) q:=by
 unfold SN
 rw[Cm.run]
 obtain⟨f,rfl,hf⟩:=hq
 rw[qaI,h0]
 exact⟨_,rfl,_,hset _,_,rfl,fun _=>rfl⟩
def qmM (xs ys:List α) (k:Int):RE (List α × List α):=match L2.ixN ys.length k with
 |some m=>match ys[m]? with
  |some d=>gd (leB ys.length) (gd (leB (xs.length+1)) (.ok (xs++[d],ys.eraseIdx m)))
  |none=>.bad
 |none=>.bad
def qmh (xs:List α) (k:Int):RE (List α):=match L2.ixN xs.length k with
 |some m=>match xs[m]? with
  |some _=>gd (leB xs.length) (.ok (xs.eraseIdx m))
  |none=>.bad
 |none=>.bad
def qlb (xs:List α) (k:Int) (x:α):RE (List α):=gd (decide (0≤k∧k≤xs.length)&&leB (xs.length+1)) (.ok (xs.take k.toNat++[x]++xs.drop k.toNat))
theorem SN.ins {i:Nat} {ix:Ex} {m1:RE Int} {m2:RE α} {xs:List α} {q0:Sl} {s1:Sh} (ρ₂:Sl→List Sl) (hi:XE Γ ix ρ m1 eI s1 t1) (h:XE Γ e ρ m2 en s t) (hs:s.nb=true) (h0:ρ[i]? = some q0) (hq:SlO t2 (xs.map en) q0) (hset:∀q,ρ.set i q=ρ₂ q) :
  SN Γ (.ins i ix e) ρ (m1.bind fun k=>m2.bind fun x=>qlb xs k x) fun v ρ'=>∃q,ρ'=ρ₂ q∧SlO (t&&t2) (v.map en) q:=by
 unfold SN
 rw[Cm.run]
 obtain⟨f,rfl,hf⟩:=hq
 rw[qaI,h0]
 simp only
 cases m1 with
 |bad=>trivial
 |exc c fs=>have h:ev Γ _ ρ=_:=hi;rw[h];rfl
 |ok k =>
  obtain⟨er0,e0,g0⟩:=hi
  simp only[e0,RE.out_ok,RE.bind_ok,g0.d]
  cases m2 with
  |bad=>trivial
  |exc c fs=>have h:ev Γ _ ρ=_:=h;simp only[h];rfl
  |ok x =>
   obtain⟨er,e1,h1⟩:=h
   simp only[e1,RE.out_ok,RE.bind_ok]
   obtain⟨b1,q1,r1⟩:=qed h1 hs
   rw[q1,List.length_map,qlb]
   cases (decide (0≤k∧k≤xs.length)&&leB (xs.length+1)) with
   |false=>trivial
   |true =>
    refine⟨_,rfl,_,hset _,(b1&&f),by simp[List.map_take,List.map_drop],fun z=>?_⟩
    rw[Bool.and_eq_true] at z
    rw[r1 z.1,hf z.2];rfl
def qm1 (xs:List Int) (k:Int):RE (List Int):=match qlC k xs with
 |some m=>.ok (xs.eraseIdx m)
 |none=>.bad
theorem qdx {i:Nat} {ds:List D} {q0:Sl} (ρ₂:Sl→List Sl) (h0:ρ[i]? = some q0) (hq:SlO t ds q0) (hset:∀q,ρ.set i q=ρ₂ q):∃q,qae Γ (.frz i ss) ρ=qae Γ ss (ρ₂ q)∧SlV t (.lst ds) q:=by
 obtain⟨f,rfl,hf⟩:=hq
 refine⟨.val (.lst ds) f,?_,_,rfl,hf⟩
 rw[qae,qaI,h0,←hset]
theorem BR.frz {i:Nat} {xs:List α} {q0:Sl} {m:RE β} {k1:Sh} {k2:Bool} (ρ₂:Sl→List Sl) (h0:ρ[i]? = some q0) (hq:SlO t (xs.map en) q0) (hset:∀q,ρ.set i q=ρ₂ q) (h:∀q,SlV t (eL en xs) q→BR Γ ss (ρ₂ q) m en2 k1 k2):BR Γ (.frz i ss) ρ m en2 k1 k2:=by
 obtain⟨q,e,r⟩:=qdx (Γ:=Γ) (ss:=ss) ρ₂ h0 hq hset
 unfold BR
 rw[e];exact h q r
theorem BN.frz {i:Nat} {xs:List α} {q0:Sl} {m:RE σ} (ρ₂:Sl→List Sl) (h0:ρ[i]? = some q0) (hq:SlO t (xs.map en) q0) (hset:∀q,ρ.set i q=ρ₂ q) (h:∀q,SlV t (eL en xs) q→BN Γ ss (ρ₂ q) m S):BN Γ (.frz i ss) ρ m S:=by
 obtain⟨q,e,r⟩:=qdx (Γ:=Γ) (ss:=ss) ρ₂ h0 hq hset
 unfold BN
 rw[e];exact h q r
theorem BL.frz {i:Nat} {xs:List α} {q0:Sl} {m:RE σ} (ρ₂:Sl→List Sl) (h0:ρ[i]? = some q0) (hq:SlO t (xs.map en) q0) (hset:∀q,ρ.set i q=ρ₂ q) (h:∀q,SlV t (eL en xs) q→BL Γ ss (ρ₂ q) m S):BL Γ (.frz i ss) ρ m S:=by
 obtain⟨q,e,r⟩:=qdx (Γ:=Γ) (ss:=ss) ρ₂ h0 hq hset
 unfold BL
 rw[e];exact h q r
theorem BF.frz {i:Nat} {xs:List α} {q0:Sl} {m:RE (Fl β σ)} (ρ₂:Sl→List Sl) (h0:ρ[i]? = some q0) (hq:SlO t (xs.map en) q0) (hset:∀q,ρ.set i q=ρ₂ q) (h:∀q,SlV t (eL en xs) q→BF Γ ss (ρ₂ q) m R S):BF Γ (.frz i ss) ρ m R S:=by
 obtain⟨q,e,r⟩:=qdx (Γ:=Γ) (ss:=ss) ρ₂ h0 hq hset
 unfold BF
 rw[e];exact h q r
theorem BX.frz {i:Nat} {xs:List α} {q0:Sl} {m:RE (Fl β σ)} (ρ₂:Sl→List Sl) (h0:ρ[i]? = some q0) (hq:SlO t (xs.map en) q0) (hset:∀q,ρ.set i q=ρ₂ q) (h:∀q,SlV t (eL en xs) q→BX Γ ss (ρ₂ q) m R S):BX Γ (.frz i ss) ρ m R S:=by
 obtain⟨q,e,r⟩:=qdx (Γ:=Γ) (ss:=ss) ρ₂ h0 hq hset
 unfold BX
 rw[e];exact h q r
theorem SlV.ent {d:D} {k:Nat} {q:Sl} (h:SlV t d q):SlV t d (Cm.ent k q):=by
 obtain⟨f,e,ht⟩:=h
 rcases qfX e with rfl | ⟨rfl,j,rfl⟩
 ·by_cases hb:(f||d.flat)=true
  ·rw[show Cm.ent k (.val d f)=.val d f from if_pos hb]
   exact⟨f,rfl,ht⟩
  ·rw[show Cm.ent k (.val d f)=.fxd d k from if_neg hb]
   exact⟨false,rfl,fun z=>by rw[ht z] at hb;exact absurd rfl hb⟩
 ·exact⟨false,rfl,ht⟩
theorem SlO.ent {ds:List D} {k:Nat} {q:Sl} (h:SlO t ds q):SlO t ds (Cm.ent k q):=by
 obtain⟨f,rfl,ht⟩:=h
 exact⟨f,rfl,ht⟩
def qm3 (_:Nat):Sl:=.non
def qkq (cs:Ch) (i:Nat) (d:D):RE Unit:=match chg cs [(i,d)] ([],0) with
 |some _=>.ok ()
 |none=>.bad
theorem qf5 {er er':ER} {k:Bool} {d:D} (h:qaQ k er=.ok er') (hd:er'.d=d) (hb:er'.b=true):qd5 er=some d:=by
 subst hd
 cases k with
 |false =>
  cases er with
  |brw _ _=>cases h
  |val d b=>cases h;exact if_pos hb
  |fre ds b=>cases h;exact if_pos (by rw[show b=true from hb];rfl)
 |true =>
  cases er with
  |brw _ _=>cases h
  |val d b =>
   simp only[qaQ] at h
   split at h
   ·rename_i z;cases h;exact if_pos z
   ·cases h
  |fre ds b =>
   simp only[qaQ] at h
   split at h
   ·rename_i z;cases h;exact if_pos z
   ·cases h
theorem BR.hav {i f:Nat} {es:Exs} {rd:Sms} {cs:Ch} {m:RE α} {k1:α→RE (Fl β σ)} {k2:α→σ→RE β} {s1:Sh} (S:α→σ→List Sl→Prop) (h:XE Γ (.call f es) ρ m en s1 true) (hsf:qhi s t en2) (hsv:s=.v) (hi:Nat.blt i ρ.length=true)
  (h1:∀x,BG Γ rd ((qd0 0 ρ).set i (.fxd (en x) i)) (k1 x) (fun v er=>Is s t (en2 v) er) (S x))
  (h2:∀x st ρ',S x st ρ'→(∃d,ρ'[i]? = some (.fxd d i))∧(cs.tgs.all fun l=>Nat.blt l ρ'.length)=true∧BR Γ ss (wipeS (qdI (ρ.set i .non) 0 ρ') cs.tgs) (k2 x st) en2 s t) :
  BR Γ (.hav i f es rd cs ss) ρ (m.bind fun x=>Fl.bR (k1 x) fun st=>(qkq cs i (en x)).bind fun _=>k2 x st) en2 s t:=by
 unfold BR
 rw[qae]
 unfold XE at h
 rw[ev] at h
 cases eg:Γ.fn[f]? with
 |none =>
  rw[eg] at h
  cases m with
  |bad=>trivial
  |ok v=>obtain⟨er,e,_⟩:=h;cases e
  |exc c fs=>have h:RE.bad=_:=h;cases h
 |some g =>
  rw[eg] at h
  simp only at h ⊢
  cases m with
  |bad=>trivial
  |exc c fs =>
   have h:_=RE.exc c fs:=h
   cases e1:evs Γ es ρ with
   |bad=>rw[e1] at h;cases h
   |exc c' fs'=>rw[e1] at h;cases h;rfl
   |ok r =>
    rw[e1] at h
    simp only[RE.bind_ok,RE.out_ok] at h ⊢
    cases e2:g.2 (r.map ER.d) with
    |bad=>rw[e2] at h;cases h
    |exc c' fs'=>rw[e2] at h;cases h;rfl
    |ok er =>
     rw[e2] at h
     simp only[RE.bind_ok] at h
     exfalso
     revert h
     cases (!r.all ER.isV)<;>cases er<;>simp only[qaQ]<;>first | (intro z;cases z) | (split<;>intro z<;>cases z)
  |ok v =>
   obtain⟨er',e,his⟩:=h
   cases e1:evs Γ es ρ with
   |bad=>rw[e1] at e;cases e
   |exc c' fs'=>rw[e1] at e;cases e
   |ok r =>
    rw[e1] at e
    simp only[RE.bind_ok,RE.out_ok] at e ⊢
    cases e2:g.2 (r.map ER.d) with
    |bad=>rw[e2] at e;cases e
    |exc c' fs'=>rw[e2] at e;cases e
    |ok er =>
     rw[e2] at e
     simp only[RE.bind_ok] at e
     simp only[RE.out_ok,qf5 e his.d (his.t rfl),hi,qb2,RE.bind_ok]
     have h1:=h1 v
     cases ek:k1 v with
     |bad=>trivial
     |exc c fs =>
      rw[ek] at h1
      have h1:qae Γ rd _=_:=h1
      rw[h1];rfl
     |ok fl =>
      rw[ek] at h1
      cases fl with
      |bk _=>exact h1.elim
      |rt b =>
       obtain⟨er3,e3,h3⟩:=h1
       rw[e3]
       simp only[Out.hv]
       have hn:∃d,qd5 er3=some d:=by
        subst hsv
        cases er3 with
        |fre _ _=>cases h3.s
        |brw _ _=>cases h3.s
        |val d b3 =>
         refine⟨d,if_pos ?_⟩
         have hd:d=en2 b:=h3.d
         rcases hsf with z | ⟨_,z⟩ | ⟨z,_⟩
         ·have:b3=true:=h3.t z
          rw[this];rfl
         ·rw[hd,z b];simp
         ·cases z
       obtain⟨d,hn⟩:=hn
       rw[hn]
       exact⟨er3,rfl,h3⟩
      |nx st =>
       obtain⟨ρ',e3,h3⟩:=h1
       obtain⟨⟨d2,q1⟩,q2,q3⟩:=h2 v st ρ' h3
       rw[e3]
       simp only[Out.hv,q1,q2,beq_self_eq_true,Bool.true_and,qb2,Fl.bR,RE.bind_ok,qkq]
       cases ec:chg cs [(i,en v)] ([],0) with
       |none=>trivial
       |some _=>exact q3
theorem BF.hav {i f:Nat} {es:Exs} {rd:Sms} {cs:Ch} {m:RE α} {k1:α→RE (Fl β σ)} {k2:α→σ→RE (Fl β τ)} {s1:Sh} (S:α→σ→List Sl→Prop) (h:XE Γ (.call f es) ρ m en s1 true) (hsf:qhi s t en2) (hsv:s=.v) (hi:Nat.blt i ρ.length=true)
  (h1:∀x,BG Γ rd ((qd0 0 ρ).set i (.fxd (en x) i)) (k1 x) (fun v er=>Is s t (en2 v) er) (S x))
  (h2:∀x st ρ',S x st ρ'→(∃d,ρ'[i]? = some (.fxd d i))∧(cs.tgs.all fun l=>Nat.blt l ρ'.length)=true∧BF Γ ss (wipeS (qdI (ρ.set i .non) 0 ρ') cs.tgs) (k2 x st) (fun v er=>Is s t (en2 v) er) S') :
  BF Γ (.hav i f es rd cs ss) ρ (m.bind fun x=>Fl.bF (k1 x) fun st=>(qkq cs i (en x)).bind fun _=>k2 x st) (fun v er=>Is s t (en2 v) er) S':=by
 unfold BF
 rw[qae]
 unfold XE at h
 rw[ev] at h
 cases eg:Γ.fn[f]? with
 |none =>
  rw[eg] at h
  cases m with
  |bad=>trivial
  |ok v=>obtain⟨er,e,_⟩:=h;cases e
  |exc c fs=>have h:RE.bad=_:=h;cases h
 |some g =>
  rw[eg] at h
  simp only at h ⊢
  cases m with
  |bad=>trivial
  |exc c fs =>
   have h:_=RE.exc c fs:=h
   cases e1:evs Γ es ρ with
   |bad=>rw[e1] at h;cases h
   |exc c' fs'=>rw[e1] at h;cases h;rfl
   |ok r =>
    rw[e1] at h
    simp only[RE.bind_ok,RE.out_ok] at h ⊢
    cases e2:g.2 (r.map ER.d) with
    |bad=>rw[e2] at h;cases h
    |exc c' fs'=>rw[e2] at h;cases h;rfl
    |ok er =>
     rw[e2] at h
     simp only[RE.bind_ok] at h
     exfalso
     revert h
     cases (!r.all ER.isV)<;>cases er<;>simp only[qaQ]<;>first | (intro z;cases z) | (split<;>intro z<;>cases z)
  |ok v =>
   obtain⟨er',e,his⟩:=h
   cases e1:evs Γ es ρ with
   |bad=>rw[e1] at e;cases e
   |exc c' fs'=>rw[e1] at e;cases e
   |ok r =>
    rw[e1] at e
    simp only[RE.bind_ok,RE.out_ok] at e ⊢
    cases e2:g.2 (r.map ER.d) with
    |bad=>rw[e2] at e;cases e
    |exc c' fs'=>rw[e2] at e;cases e
    |ok er =>
     rw[e2] at e
     simp only[RE.bind_ok] at e
     simp only[RE.out_ok,qf5 e his.d (his.t rfl),hi,qb2,RE.bind_ok]
     have h1:=h1 v
     cases ek:k1 v with
     |bad=>trivial
     |exc c fs =>
      rw[ek] at h1
      have h1:qae Γ rd _=_:=h1
      rw[h1];rfl
     |ok fl =>
      rw[ek] at h1
      cases fl with
      |bk _=>exact h1.elim
      |rt b =>
       obtain⟨er3,e3,h3⟩:=h1
       rw[e3]
       simp only[Out.hv]
       have hn:∃d,qd5 er3=some d:=by
        subst hsv
        cases er3 with
        |fre _ _=>cases h3.s
        |brw _ _=>cases h3.s
        |val d b3 =>
         refine⟨d,if_pos ?_⟩
         have hd:d=en2 b:=h3.d
         rcases hsf with z | ⟨_,z⟩ | ⟨z,_⟩
         ·have:b3=true:=h3.t z
          rw[this];rfl
         ·rw[hd,z b];simp
         ·cases z
       obtain⟨d,hn⟩:=hn
       rw[hn]
       exact⟨er3,rfl,h3⟩
      |nx st =>
       obtain⟨ρ',e3,h3⟩:=h1
       obtain⟨⟨d2,q1⟩,q2,q3⟩:=h2 v st ρ' h3
       rw[e3]
       simp only[Out.hv,q1,q2,beq_self_eq_true,Bool.true_and,qb2,Fl.bF,RE.bind_ok,qkq]
       cases ec:chg cs [(i,en v)] ([],0) with
       |none=>trivial
       |some _=>exact q3
end
end Cm
namespace Cm
def qak {α σ:Type} (f:α→σ→RE σ):List α→σ→RE σ
 |[],s=>.ok s
 |x::xs,s=>(f x s).bind (qak f xs)
def qaD {α β σ:Type} (f:α→σ→RE (Fl β σ)):List α→σ→RE (Fl β σ)
 |[],s=>.ok (.nx s)
 |x::xs,s=>(f x s).bind fun r=>match r with
  |.nx s'=>qaD f xs s'
  |.rt b=>.ok (.rt b)
  |.bk s'=>.ok (.nx s')
def qj0 {σ:Type} (c:σ→RE Bool) (f:σ→RE σ):Nat→σ→RE σ
 |0,_=>.bad
 |n+1,s=>(c s).bind fun k=>if k=true then (f s).bind (qj0 c f n) else .ok s
section
variable {Γ:Env} {ρ:List Sl} {α β γ σ:Type} {en:α→D} {en2:β→D} {en3:γ→D} {it:Itx} {i j:Nat} {b:Sms} {m:RE (List α)} {t t0 t0' t1:Bool} {s:Sh} {R:γ→ER→Prop} {S:σ→List Sl→Prop}
theorem qfF {F:D→List Sl→Out} {f:α→σ→RE σ} (h:∀x st ρ',S st ρ'→XL (F (en x) ρ') (f x st) S):∀{xs:List α} {st:σ} {ρ':List Sl},S st ρ'→XN (qbN F (xs.map en) ρ') (qak f xs st) S
 |[],st,ρ',hs=>⟨ρ',rfl,hs⟩
 |x::xs,st,ρ',hs=>by
  have h0:=h x st ρ' hs
  simp only[List.map_cons,qak]
  unfold qbN
  cases e:f x st with
  |bad=>trivial
  |exc c fs=>rw[e] at h0;have h0:F (en x) ρ'=_:=h0;rw[h0];rfl
  |ok st' =>
   rw[e] at h0
   obtain⟨ρ2,e2,h2⟩:=h0
   rcases e2 with e2 | e2<;>rw[e2]<;>exact qfF h h2
theorem qeD {F:D→List Sl→Out} {f:α→σ→RE (Fl γ σ)} (h:∀x st ρ',S st ρ'→XF (F (en x) ρ') (f x st) R S):∀{xs:List α} {st:σ} {ρ':List Sl},S st ρ'→(match qaD f xs st with
  |.bad=>True
  |.ok (.nx v)=>∃ρ2,qbN F (xs.map en) ρ'=.nx ρ2∧S v ρ2
  |.ok (.rt b)=>∃er,qbN F (xs.map en) ρ'=.ret er∧R b er
  |.ok (.bk v)=>False
  |.exc c fs=>qbN F (xs.map en) ρ'=.exc c fs)
 |[],st,ρ',hs=>⟨ρ',rfl,hs⟩
 |x::xs,st,ρ',hs=>by
  have h0:=h x st ρ' hs
  simp only[List.map_cons,qaD]
  unfold qbN
  cases e:f x st with
  |bad=>trivial
  |exc c fs=>rw[e] at h0;have h0:F (en x) ρ'=_:=h0;rw[h0];rfl
  |ok r =>
   rw[e] at h0
   simp only[RE.bind_ok]
   cases r with
   |nx st' =>
    obtain⟨ρ2,e2,h2⟩:=h0
    rcases e2 with e2 | e2<;>rw[e2]<;>exact qeD h h2
   |rt b=>obtain⟨er,e2,h2⟩:=h0;rw[e2];exact⟨_,rfl,h2⟩
   |bk st'=>obtain⟨ρ2,e2,h2⟩:=h0;rw[e2];exact⟨_,rfl,h2⟩
theorem SN.forG {tg:List Nat} {f:α→σ→RE σ} {s0:σ} (hi:XI Γ it ρ m en t1 false) (h0:S s0 ρ) (hb:∀x st ρ' b',(t1=true→b'=true)→S st ρ'→XL (onB (qaV tg (en x) b' ρ') fun ρ'=>qae Γ b ρ') (f x st) S) :
  SN Γ (.for it tg b) ρ (m.bind fun xs=>qak f xs s0) S:=by
 unfold SN
 rw[Cm.run]
 cases m with
 |bad=>trivial
 |exc c fs=>have h:evI Γ it ρ=_:=hi;rw[h];rfl
 |ok xs =>
  obtain⟨w,e,w1,w2,w3⟩:=hi
  rw[e]
  simp only[RE.out_ok,w3 rfl,Bool.false_eq_true,if_false,RE.bind_ok,w1]
  exact qfF (fun x st ρ' hs=>hb x st ρ' w.b w2 hs) h0
theorem SF.forG {tg:List Nat} {f:α→σ→RE (Fl γ σ)} {s0:σ} (hi:XI Γ it ρ m en t1 false) (h0:S s0 ρ) (hb:∀x st ρ' b',(t1=true→b'=true)→S st ρ'→XF (onB (qaV tg (en x) b' ρ') fun ρ'=>qae Γ b ρ') (f x st) R S) :
  SF Γ (.for it tg b) ρ (m.bind fun xs=>qaD f xs s0) R S:=by
 unfold SF
 rw[Cm.run]
 cases m with
 |bad=>trivial
 |exc c fs=>have h:evI Γ it ρ=_:=hi;rw[h];rfl
 |ok xs =>
  obtain⟨w,e,w1,w2,w3⟩:=hi
  rw[e]
  simp only[RE.out_ok,w3 rfl,Bool.false_eq_true,if_false,RE.bind_ok,w1]
  exact qeD (fun x st ρ' hs=>hb x st ρ' w.b w2 hs) h0
theorem qcO {b':Bool} (ht:t0=true→t1=true∨Flat en) (h:t1=true→b'=true) (x:α):SlV t0 (en x) (.val (en x) (b'||(en x).flat)):=⟨_,rfl,fun z=>by
 rcases ht z with q | q
 ·simp[h q]
 ·rw[q.flat];simp⟩
theorem SN.for1 {f:α→σ→RE σ} {s0:σ} (S:σ→List Sl→Prop) (hi:XI Γ it ρ m en t1 false) (ht:t0=true→t1=true∨Flat en) (h0:S s0 ρ) (hb:∀x st ρ' q,S st ρ'→SlV t0 (en x) q→BL Γ b (ρ'.set i q) (f x st) S) :
  SN Γ (.for it [i] b) ρ (m.bind fun xs=>qak f xs s0) S:=
 SN.forG hi h0 fun x st ρ' b' h1 hs=>hb x st ρ' _ hs (qcO ht h1 x)
theorem SF.for1 {f:α→σ→RE (Fl γ σ)} {s0:σ} (S:σ→List Sl→Prop) (hi:XI Γ it ρ m en t1 false) (ht:t0=true→t1=true∨Flat en) (h0:S s0 ρ) (hb:∀x st ρ' q,S st ρ'→SlV t0 (en x) q→BF Γ b (ρ'.set i q) (f x st) R S) :
  SF Γ (.for it [i] b) ρ (m.bind fun xs=>qaD f xs s0) R S:=
 SF.forG hi h0 fun x st ρ' b' h1 hs=>hb x st ρ' _ hs (qcO ht h1 x)
theorem SN.for2 {m:RE (List (α × β))} {f:α × β→σ→RE σ} {s0:σ} (S:σ→List Sl→Prop) (hi:XI Γ it ρ m (eT2 en en2) t1 false) (ht:t0=true→t1=true∨Flat en) (ht':t0'=true→t1=true∨Flat en2) (h0:S s0 ρ) (hb:∀x st ρ' q r,S st ρ'→SlV t0 (en x.1) q→SlV t0' (en2 x.2) r→BL Γ b ((ρ'.set i q).set j r) (f x st) S) :
  SN Γ (.for it [i,j] b) ρ (m.bind fun xs=>qak f xs s0) S:=
 SN.forG hi h0 fun x st ρ' b' h1 hs=>hb x st ρ' _ _ hs (qcO ht h1 x.1) (qcO ht' h1 x.2)
theorem SF.for2 {m:RE (List (α × β))} {f:α × β→σ→RE (Fl γ σ)} {s0:σ} (S:σ→List Sl→Prop) (hi:XI Γ it ρ m (eT2 en en2) t1 false) (ht:t0=true→t1=true∨Flat en) (ht':t0'=true→t1=true∨Flat en2) (h0:S s0 ρ) (hb:∀x st ρ' q r,S st ρ'→SlV t0 (en x.1) q→SlV t0' (en2 x.2) r→BF Γ b ((ρ'.set i q).set j r) (f x st) R S) :
  SF Γ (.for it [i,j] b) ρ (m.bind fun xs=>qaD f xs s0) R S:=
 SF.forG hi h0 fun x st ρ' b' h1 hs=>hb x st ρ' _ _ hs (qcO ht h1 x.1) (qcO ht' h1 x.2)
theorem qhv {c:Te} {cc:σ→RE Bool} {f:σ→RE σ} (hc:∀st ρ',S st ρ'→XT Γ c ρ' (cc st)) (hb:∀st ρ',S st ρ'→BL Γ b ρ' (f st) S):∀{n:Nat} {st:σ} {ρ':List Sl},S st ρ'→XN (qbZ (fun ρ=>evT Γ c ρ) (fun ρ=>qae Γ b ρ) n ρ') (qj0 cc f n st) S
 |0,st,ρ',hs=>trivial
 |n+1,st,ρ',hs=>by
  have h0:=hc st ρ' hs
  have h1:=hb st ρ' hs
  unfold qj0 qbZ
  cases e:cc st with
  |bad=>trivial
  |exc c fs=>rw[e] at h0;have h0:evT Γ _ ρ'=_:=h0;simp only[h0];rfl
  |ok k =>
   rw[e] at h0
   obtain⟨k',e0,rfl⟩:=h0
   simp only[e0,RE.bind_ok,RE.out_ok]
   cases k' with
   |false=>exact⟨ρ',rfl,hs⟩
   |true =>
    simp only[if_true]
    cases e1:f st with
    |bad=>trivial
    |exc c fs=>rw[e1] at h1;have h1:qae Γ b ρ'=_:=h1;simp only[h1];rfl
    |ok st' =>
     rw[e1] at h1
     obtain⟨ρ2,e2,h2⟩:=h1
     rcases e2 with e2 | e2<;>simp only[e2]<;>exact qhv hc hb h2
theorem SN.whl {c:Te} {cc:σ→RE Bool} {f:σ→RE σ} {s0:σ} (S:σ→List Sl→Prop) (h0:S s0 ρ) (hc:∀st ρ',S st ρ'→XT Γ c ρ' (cc st)) (hb:∀st ρ',S st ρ'→BL Γ b ρ' (f st) S):SN Γ (.whl c b) ρ (qj0 cc f qjV s0) S:=by
 unfold SN
 rw[Cm.run]
 exact qhv hc hb h0
def qj1 {σ γ:Type} (c:σ→RE Bool) (f:σ→RE (Fl γ σ)):Nat→σ→RE (Fl γ σ)
 |0,_=>.bad
 |n+1,s=>(c s).bind fun k=>if k=true then (f s).bind (fun r=>match r with
  |.nx s'=>qj1 c f n s'
  |.rt b=>.ok (.rt b)
  |.bk s'=>.ok (.nx s')) else .ok (.nx s)
theorem qfL {c:Te} {cc:σ→RE Bool} {f:σ→RE (Fl γ σ)} (hc:∀st ρ',S st ρ'→XT Γ c ρ' (cc st)) (hb:∀st ρ',S st ρ'→BF Γ b ρ' (f st) R S):∀{n:Nat} {st:σ} {ρ':List Sl},S st ρ'→XG (qbZ (fun ρ=>evT Γ c ρ) (fun ρ=>qae Γ b ρ) n ρ') (qj1 cc f n st) R S
 |0,st,ρ',hs=>trivial
 |n+1,st,ρ',hs=>by
  have h0:=hc st ρ' hs
  have h1:=hb st ρ' hs
  unfold qj1 qbZ
  cases e:cc st with
  |bad=>trivial
  |exc c fs=>rw[e] at h0;have h0:evT Γ _ ρ'=_:=h0;simp only[h0];rfl
  |ok k =>
   rw[e] at h0
   obtain⟨k',e0,rfl⟩:=h0
   simp only[e0,RE.bind_ok,RE.out_ok]
   cases k' with
   |false=>exact⟨ρ',rfl,hs⟩
   |true =>
    simp only[if_true]
    cases e1:f st with
    |bad=>trivial
    |exc c fs=>rw[e1] at h1;have h1:qae Γ b ρ'=_:=h1;simp only[h1];rfl
    |ok r =>
     rw[e1] at h1
     simp only[RE.bind_ok]
     cases r with
     |nx st' =>
      obtain⟨ρ2,e2,h2⟩:=h1
      rcases e2 with e2 | e2<;>simp only[e2]<;>exact qfL hc hb h2
     |rt z=>obtain⟨er,e2,h2⟩:=h1;simp only[e2];exact⟨_,rfl,h2⟩
     |bk st'=>obtain⟨ρ2,e2,h2⟩:=h1;simp only[e2];exact⟨_,rfl,h2⟩
theorem SF.whl {c:Te} {cc:σ→RE Bool} {f:σ→RE (Fl γ σ)} {s0:σ} (S:σ→List Sl→Prop) (h0:S s0 ρ) (hc:∀st ρ',S st ρ'→XT Γ c ρ' (cc st)) (hb:∀st ρ',S st ρ'→BF Γ b ρ' (f st) R S):SF Γ (.whl c b) ρ (qj1 cc f qjV s0) R S:=by
 unfold SF
 rw[Cm.run]
 exact qfL hc hb h0
end
abbrev XS {α:Type} (Γ:Env) (es:Exs) (ρ:List Sl) (m:RE α) (enl:α→List D) (nb t:Bool):Prop:=XR (evs Γ es ρ) m fun v ers=>ers.map ER.d=enl v∧ers.all ER.isV=nb∧(t=true→ers.all ER.b=true)
section
variable {Γ:Env} {ρ:List Sl} {α β γ σ:Type} {en:α→D} {en2:β→D} {a b:Ex} {es:Exs} {s s1:Sh} {t t1 t2 nb:Bool} {m1:RE α} {m2:RE β} {enl:β→List D} {x:α} {y:β} {k:Nat} {nm:PySem.Str} {g:List D→RE ER}
theorem XS.nil:XS Γ .nil ρ (.ok ()) (fun _=>[]) true true:=by unfold XS;rw[evs];exact⟨_,rfl,rfl,rfl,fun _=>rfl⟩
theorem XS.cons (h:XE Γ a ρ m1 en s t1) (hs:XS Γ es ρ m2 enl nb t2):XS Γ (.cons a es) ρ (m1.bind fun v=>m2.bind fun w=>.ok (v,w)) (fun p=>en p.1::enl p.2) (s.nb&&nb) (t1&&t2):=by
 unfold XS
 rw[evs]
 exact XR.bind h fun v er h1=>XR.bind hs fun w ers h2=>by
  refine⟨_,rfl,?_,?_,fun z=>?_⟩
  ·simp only[List.map_cons,qbX,h1.d,h2.1]
  ·simp only[List.all_cons,h2.2.1]
   have:=h1.s
   cases s<;>cases er<;>simp_all[qdZ,ER.isF,Sh.nb]
  ·rw[Bool.and_eq_true] at z
   simp only[List.all_cons,Bool.and_eq_true,qgc]
   exact⟨h1.t z.1,h2.2.2 z.2⟩
theorem XS.consP (h:XE Γ a ρ (.ok x) en s t1) (hs:XS Γ es ρ (.ok y) enl nb t2):XS Γ (.cons a es) ρ (.ok (x,y)) (fun p=>en p.1::enl p.2) (s.nb&&nb) (t1&&t2):=XS.cons h hs
theorem qgq {d:D} {er:ER} (h:Is s t d er) (hs:s.nb=true):∃er',qaQ false er=.ok er'∧Is s t d er':=by
 have h1:=h.s
 have h2:=h.d
 have h3:=h.t
 cases er with
 |val d' b=>exact⟨_,rfl,h2,by cases s<;>simp_all[qdZ,ER.isF,Sh.nb],fun z=>by have:=h3 z;show(_||_)=true;simp only[ER.b_val] at this;rw[this];rfl⟩
 |fre d' b=>exact⟨_,rfl,h⟩
 |brw d' b=>cases s<;>simp_all[qdZ,ER.isF,Sh.nb]
theorem qfW {v:α} {er:ER} (h:Is s t (en v) er) (hs:qhi s t en) (hn:s.nb=true):∃er',qaQ true er=.ok er'∧Is s true (en v) er':=by
 have h1:=h.s
 have h2:=h.d
 have h3:=h.t
 cases er with
 |val d' b =>
  have h2:d'=en v:=h2
  subst h2
  have:(b||(en v).flat)=true:=by
   rcases hs with q | q | q
   ·have:b=true:=h3 q
    rw[this];rfl
   ·rw[q.2];simp
   ·rw[q.1] at h1;cases h1
  simp only[qaQ,this,if_true]
  exact⟨_,rfl,rfl,by cases s<;>simp_all[qdZ,ER.isF,Sh.nb],fun z=>rfl⟩
 |fre d' b =>
  have h2:D.lst d'=en v:=h2
  have:(b||D.flats d')=true:=by
   rcases hs with q | q | q
   ·have:b=true:=h3 q
    rw[this];rfl
   ·rw[q.1] at h1;cases h1
   ·rw[q.2 v d' h2.symm];simp
  simp only[qaQ,this,if_true]
  exact⟨_,rfl,h2,by cases s<;>simp_all[qdZ,ER.isF,Sh.nb],fun z=>rfl⟩
 |brw d' b=>cases s<;>simp_all[qdZ,ER.isF,Sh.nb]
theorem qf0 {r:List ER} {e:RE ER} {m:RE α} (h:XR e m fun v er=>Is s t (en v) er) (hr:r.all ER.isV=true) (hn:s.nb=true):XR (e.bind (qaQ (!r.all ER.isV))) m fun v er=>Is s t (en v) er:=by
 rw[hr]
 cases m with
 |bad=>trivial
 |exc c fs=>have h:e=_:=h;rw[h];rfl
 |ok v=>obtain⟨er,e1,h1⟩:=h;rw[e1];exact qgq h1 hn
theorem qeF {r:List ER} {e:RE ER} {m:RE α} (h:XR e m fun v er=>Is s t (en v) er) (hs:qhi s t en) (hr:r.all ER.isV=false) (hn:s.nb=true):XR (e.bind (qaQ (!r.all ER.isV))) m fun v er=>Is s true (en v) er:=by
 rw[hr]
 cases m with
 |bad=>trivial
 |exc c fs=>have h:e=_:=h;rw[h];rfl
 |ok v=>obtain⟨er,e1,h1⟩:=h;rw[e1];exact qfW h1 hs hn
theorem XE.callS {F:β→RE α} (hg:Γ.fn[k]? = some (nm,g)) (ha:XS Γ es ρ m2 enl nb t2) (hr:∀w,XR (g (enl w)) (F w) fun v er=>Is s t (en v) er) (hs:nb=true) (hn:s.nb=true):XE Γ (.call k es) ρ (m2.bind F) en s t:=by
 unfold XE;rw[ev,hg]
 exact XR.bind ha fun w ers h=>by
  show XR ((g (ers.map ER.d)).bind _) _ _
  rw[h.1];exact qf0 (hr w) (h.2.1.trans hs) hn
theorem XE.callSb {F:β→RE α} (hg:Γ.fn[k]? = some (nm,g)) (ha:XS Γ es ρ m2 enl nb t2) (hr:∀w,XR (g (enl w)) (F w) fun v er=>Is s t (en v) er) (hs:nb=false) (hn:s.nb=true) (hf:qhi s t en):XE Γ (.call k es) ρ (m2.bind F) en s true:=by
 unfold XE;rw[ev,hg]
 exact XR.bind ha fun w ers h=>by
  show XR ((g (ers.map ER.d)).bind _) _ _
  rw[h.1];exact qeF (hr w) hf (h.2.1.trans hs) hn
theorem XE.callSP {m:RE α} (hg:Γ.fn[k]? = some (nm,g)) (ha:XS Γ es ρ (.ok y) enl nb t2) (hr:XR (g (enl y)) m fun v er=>Is s t (en v) er) (hs:nb=true) (hn:s.nb=true):XE Γ (.call k es) ρ m en s t:=by
 obtain⟨ers,e,h⟩:=ha
 unfold XE;rw[ev,hg,e]
 show XR ((g (ers.map ER.d)).bind _) _ _
 rw[h.1];exact qf0 hr (h.2.1.trans hs) hn
theorem XE.callSPb {m:RE α} (hg:Γ.fn[k]? = some (nm,g)) (ha:XS Γ es ρ (.ok y) enl nb t2) (hr:XR (g (enl y)) m fun v er=>Is s t (en v) er) (hs:nb=false) (hn:s.nb=true) (hf:qhi s t en):XE Γ (.call k es) ρ m en s true:=by
 obtain⟨ers,e,h⟩:=ha
 unfold XE;rw[ev,hg,e]
 show XR ((g (ers.map ER.d)).bind _) _ _
 rw[h.1];exact qeF hr hf (h.2.1.trans hs) hn
end
section
variable {Γ:Env} {ρ:List Sl} {α β γ σ τ:Type} {en:α→D} {en2:β→D} {e:τ→D} {a b:Ex} {es:Exs} {s s1 s0:Sh} {t t1 t2 t0 nb:Bool} {m0:RE τ} {m1:RE α} {m2:RE β} {enl:β→List D} {x:τ} {y:β} {k:Nat} {cl:τ→Nat} {fs:τ→List D}
theorem XE.tupS {F:β→α} (ha:XS Γ es ρ m2 enl nb t) (hf:∀w,en (F w)=.tup (enl w)) (hs:nb=true):XE Γ (.tup es) ρ (m2.bind fun w=>.ok (F w)) en .v t:=by
 unfold XE;rw[ev]
 exact XR.bind ha fun w ers h=>by
  show XR (if ers.all ER.isV=true then _ else _) _ _
  rw[if_pos (h.2.1.trans hs)]
  exact qlB (by rw[hf,h.1]) h.2.2
theorem XE.lstS {F:β→List α} (ha:XS Γ es ρ m2 enl nb t) (hf:∀w,(F w).map en=enl w) (hs:nb=true):XE Γ (.lst es) ρ (m2.bind fun w=>.ok (F w)) (eL en) .f t:=by
 unfold XE;rw[ev]
 exact XR.bind ha fun w ers h=>by
  show XR (if ers.all ER.isV=true then _ else _) _ _
  rw[if_pos (h.2.1.trans hs)]
  exact qls (by rw[eL,hf,h.1]) h.2.2
abbrev XLs (Γ:Env) (es:Exs) (ρ:List Sl) (xs:List α) (en:α→D) (t:Bool):Prop:=XS Γ es ρ (.ok xs) (fun xs=>xs.map en) true t
theorem XLs.nil:XLs Γ .nil ρ [] en true:=by unfold XLs;unfold XS;rw[evs];exact⟨_,rfl,rfl,rfl,fun _=>rfl⟩
theorem XLs.cons {x:α} {xs:List α} (h:XE Γ a ρ (.ok x) en s t1) (hn:s.nb=true) (hs:XLs Γ es ρ xs en t2):XLs Γ (.cons a es) ρ (x::xs) en (t1&&t2):=by
 have:=XS.consP h hs
 obtain⟨ers,e1,h1,h2,h3⟩:=this
 exact⟨ers,e1,h1,by rw[h2,hn];rfl,h3⟩
theorem XE.lstL {xs:List α} (ha:XLs Γ es ρ xs en t):XE Γ (.lst es) ρ (.ok xs) (eL en) .f t:=XE.lstS (F:=fun xs=>xs) ha (fun _=>rfl) rfl
theorem Rf.run {n m:Nat} {b:Sms} {as:List D} {mm:RE α} (hn:as.length=n) (h:BR Γ b (as.map (fun d=>Sl.val d d.flat)++List.replicate m .non) mm en s t):XR (qde Γ n m b as) mm fun v er=>Is s t (en v) er:=by
 unfold qde
 rw[if_pos hn]
 cases mm with
 |bad=>trivial
 |ok v =>
  obtain⟨er,e,h⟩:=h
  cases hr:qae Γ b (as.map (fun d=>Sl.val d d.flat)++List.replicate m .non)<;>rw[hr] at e<;>cases e
  exact⟨_,rfl,h⟩
 |exc c fs =>
  have h:(qae Γ b (as.map (fun d=>Sl.val d d.flat)++List.replicate m .non)).rt=_:=h
  cases hr:qae Γ b (as.map (fun d=>Sl.val d d.flat)++List.replicate m .non)<;>rw[hr] at h<;>cases h
  rfl
theorem Rf.weak {r:RE ER} {m:RE α} (h:Rf r m en s t) (hs:s.nb=true):Rf r m en .n t:=XR.mono h fun _ _ k=>k.weak hs
theorem Rf.low {r:RE ER} {m:RE α} (h:Rf r m en s t):Rf r m en s false:=XR.mono h fun _ _ k=>k.low
theorem Rf.mono {r:RE ER} {m:RE α} (h:Rf r m en s t) (hs:s.nb=true):Rf r m en .n false:=XR.mono h fun _ _ k=>(k.weak hs).low
end
end Cm
namespace Cm
section
variable {Γ:Env} {ρ:List Sl} {α:Type} {en:α→D} {s:Sh} {t:Bool}
theorem XE.call1P {k:Nat} {nm:PySem.Str} {g:List D→RE ER} {τ0:Type} {e0:τ0→D} {a0:Ex} {s0:Sh} {t0:Bool} {x0:τ0} {m:RE α} (hg:Γ.fn[k]? = some (nm,g)) (h0:XE Γ a0 ρ (.ok x0) e0 s0 t0) (hr:XR (g [e0 x0]) m fun v er=>Is s t (en v) er) (hs:(s0.nb&&true)=true) (hn:s.nb=true):XE Γ (.call k (.cons a0 .nil)) ρ m en s t:=XE.callSP hg (XS.consP h0 XS.nil) hr hs hn
theorem XE.call2 {k:Nat} {nm:PySem.Str} {g:List D→RE ER} {τ0:Type} {e0:τ0→D} {a0:Ex} {s0:Sh} {t0:Bool} {τ1:Type} {e1:τ1→D} {a1:Ex} {s1:Sh} {t1:Bool} {m0:RE τ0} {m1:RE τ1} {F:τ0→τ1→RE α} (hg:Γ.fn[k]? = some (nm,g)) (h0:XE Γ a0 ρ m0 e0 s0 t0) (h1:XE Γ a1 ρ m1 e1 s1 t1) (hr:∀x0 x1,XR (g [e0 x0,e1 x1]) (F x0 x1) fun v er=>Is s t (en v) er) (hs:(s0.nb&&(s1.nb&&true))=true) (hn:s.nb=true):XE Γ (.call k (.cons a0 (.cons a1 .nil))) ρ (m0.bind fun x0=>m1.bind fun x1=>F x0 x1) en s t:=
 (XE.callS (F:=fun w=>F w.1 w.2.1) hg (XS.cons h0 (XS.cons h1 XS.nil)) (fun w=>hr _ _) hs hn).cast (by simp only[RE.bind_assoc,RE.bind_ok])
theorem XE.call2P {k:Nat} {nm:PySem.Str} {g:List D→RE ER} {τ0:Type} {e0:τ0→D} {a0:Ex} {s0:Sh} {t0:Bool} {τ1:Type} {e1:τ1→D} {a1:Ex} {s1:Sh} {t1:Bool} {x0:τ0} {x1:τ1} {m:RE α} (hg:Γ.fn[k]? = some (nm,g)) (h0:XE Γ a0 ρ (.ok x0) e0 s0 t0) (h1:XE Γ a1 ρ (.ok x1) e1 s1 t1) (hr:XR (g [e0 x0,e1 x1]) m fun v er=>Is s t (en v) er) (hs:(s0.nb&&(s1.nb&&true))=true) (hn:s.nb=true):XE Γ (.call k (.cons a0 (.cons a1 .nil))) ρ m en s t:=XE.callSP hg (XS.consP h0 (XS.consP h1 XS.nil)) hr hs hn
theorem XE.call2Pb {k:Nat} {nm:PySem.Str} {g:List D→RE ER} {τ0:Type} {e0:τ0→D} {a0:Ex} {s0:Sh} {t0:Bool} {τ1:Type} {e1:τ1→D} {a1:Ex} {s1:Sh} {t1:Bool} {x0:τ0} {x1:τ1} {m:RE α} (hg:Γ.fn[k]? = some (nm,g)) (h0:XE Γ a0 ρ (.ok x0) e0 s0 t0) (h1:XE Γ a1 ρ (.ok x1) e1 s1 t1) (hr:XR (g [e0 x0,e1 x1]) m fun v er=>Is s t (en v) er) (hs:(s0.nb&&(s1.nb&&true))=false) (hn:s.nb=true) (hf:qhi s t en):XE Γ (.call k (.cons a0 (.cons a1 .nil))) ρ m en s true:=XE.callSPb hg (XS.consP h0 (XS.consP h1 XS.nil)) hr hs hn hf
theorem XE.tup2 {τ0:Type} {e0:τ0→D} {a0:Ex} {s0:Sh} {t0:Bool} {τ1:Type} {e1:τ1→D} {a1:Ex} {s1:Sh} {t1:Bool} {m0:RE τ0} {m1:RE τ1} (h0:XE Γ a0 ρ m0 e0 s0 t0) (h1:XE Γ a1 ρ m1 e1 s1 t1) (hs:(s0.nb&&(s1.nb&&true))=true):XE Γ (.tup (.cons a0 (.cons a1 .nil))) ρ (m0.bind fun x0=>m1.bind fun x1=>.ok (x0,x1)) (eT2 e0 e1) .v (t0&&(t1&&true)):=
 (XE.tupS (F:=fun w=>(w.1,w.2.1)) (en:=eT2 e0 e1) (XS.cons h0 (XS.cons h1 XS.nil)) (fun w=>rfl) hs).cast (by simp only[RE.bind_assoc,RE.bind_ok])
theorem XE.tup2P {τ0:Type} {e0:τ0→D} {a0:Ex} {s0:Sh} {t0:Bool} {τ1:Type} {e1:τ1→D} {a1:Ex} {s1:Sh} {t1:Bool} {x0:τ0} {x1:τ1} (h0:XE Γ a0 ρ (.ok x0) e0 s0 t0) (h1:XE Γ a1 ρ (.ok x1) e1 s1 t1) (hs:(s0.nb&&(s1.nb&&true))=true):XE Γ (.tup (.cons a0 (.cons a1 .nil))) ρ (.ok (x0,x1)) (eT2 e0 e1) .v (t0&&(t1&&true)):=XE.tup2 h0 h1 hs
theorem XE.tup3 {τ0:Type} {e0:τ0→D} {a0:Ex} {s0:Sh} {t0:Bool} {τ1:Type} {e1:τ1→D} {a1:Ex} {s1:Sh} {t1:Bool} {τ2:Type} {e2:τ2→D} {a2:Ex} {s2:Sh} {t2:Bool} {m0:RE τ0} {m1:RE τ1} {m2:RE τ2} (h0:XE Γ a0 ρ m0 e0 s0 t0) (h1:XE Γ a1 ρ m1 e1 s1 t1) (h2:XE Γ a2 ρ m2 e2 s2 t2) (hs:(s0.nb&&(s1.nb&&(s2.nb&&true)))=true):XE Γ (.tup (.cons a0 (.cons a1 (.cons a2 .nil)))) ρ (m0.bind fun x0=>m1.bind fun x1=>m2.bind fun x2=>.ok (x0,x1,x2)) (eT3 e0 e1 e2) .v (t0&&(t1&&(t2&&true))):=
 (XE.tupS (F:=fun w=>(w.1,w.2.1,w.2.2.1)) (en:=eT3 e0 e1 e2) (XS.cons h0 (XS.cons h1 (XS.cons h2 XS.nil))) (fun w=>rfl) hs).cast (by simp only[RE.bind_assoc,RE.bind_ok])
end
end Cm
namespace Cm
open PySem PySem.Spec PyProof.Rows L2
section
variable {Γ:Env} {ρ:List Sl} {α β γ δ:Type} {en:α→D} {en2:β→D} {en3:γ→D} {a b c e:Ex} {s s1 s2 s3:Sh} {t t1 t2 t3:Bool} {m:RE α} {x:α} {y:β} {z:γ}
theorem XE.binR {o:Bop} {m1:RE α} {f:α→RE γ} (ha:XE Γ a ρ m1 en s1 t1) (hb:XE Γ b ρ (.ok y) en2 s2 t2) (h:∀x bb,((t1&&t2)=true→bb=true)→XR (evB o (en x) (en2 y) bb) (f x) fun v er=>Is s t (en3 v) er):XE Γ (.bin o a b) ρ (m1.bind f) en3 s t:=by
 cases m1 with
 |bad=>trivial
 |ok x=>exact XE.binP ha hb (h x)
 |exc c fs=>have ha:ev Γ a ρ=_:=ha;unfold XE;rw[ev,ha];rfl
theorem XE.binL {o:Bop} {m2:RE β} {f:β→RE γ} (ha:XE Γ a ρ (.ok x) en s1 t1) (hb:XE Γ b ρ m2 en2 s2 t2) (h:∀y bb,((t1&&t2)=true→bb=true)→XR (evB o (en x) (en2 y) bb) (f y) fun v er=>Is s t (en3 v) er):XE Γ (.bin o a b) ρ (m2.bind f) en3 s t:=by
 cases m2 with
 |bad=>trivial
 |ok y=>exact XE.binP ha hb (h y)
 |exc c fs =>
  obtain⟨er,e1,_⟩:=ha
  have hb:ev Γ b ρ=_:=hb
  unfold XE;rw[ev,e1,hb];rfl
theorem XE.cmpR {o:Cop} {m1:RE α} {f:α→RE Bool} (ha:XE Γ a ρ m1 en s1 t1) (hb:XE Γ b ρ (.ok y) en2 s2 t2) (h:∀x,evC o (en x) (en2 y)=f x):XE Γ (.cmp o a b) ρ (m1.bind f) eB .v true:=by
 cases m1 with
 |bad=>trivial
 |ok x=>exact XE.cmpP ha hb (h x)
 |exc c fs=>have ha:ev Γ a ρ=_:=ha;unfold XE;rw[ev,ha];rfl
theorem XE.nev {e:Ex}:XE Γ e ρ (.bad:RE α) en s t:=trivial
def eTL {α:Type} (en:α→D) (xs:List α):D:=.tup (xs.map en)
def qkP (x:List Nat) (ts:List (List Nat)):RE Bool:=if ((D.str x).fit 0&&D.fits (ts.map eS) 0)=true then .ok (decide (x∈ts)) else .bad
def qkY (x:List Nat) (ts:List (List Nat)):RE Bool:=(qkP x ts).bind fun b=>.ok (!b)
theorem qkc {α β:Type} (o:Cop) (e1:α→D) (e2:β→D) (x:α) (y:β):evC o (e1 x) (e2 y)=evC o (e1 x) (e2 y):=rfl
def Dec {α β:Type} (en:α→D) (en2:β→D) (f:α→RE β):Prop:=∀v,f v=.bad∨∃w,f v=.ok w∧en v=en2 w
def dI:D→RE Int
 |.int i=>.ok i
 |_=>.bad
def dS:D→RE (List Nat)
 |.str i=>.ok i
 |_=>.bad
def dLs (f:α→RE β):List α→RE (List β)
 |[]=>.ok []
 |x::xs=>(f x).bind fun y=>(dLs f xs).bind fun ys=>.ok (y::ys)
def dL (f:D→RE β):D→RE (List β)
 |.lst xs=>dLs f xs
 |_=>.bad
def dT5 {α0 α1 α2 α3:Type} (f:α→RE β) (p:α0 × α1 × α2 × α3 × α):RE (α0 × α1 × α2 × α3 × β):=(f p.2.2.2.2).bind fun y=>.ok (p.1,p.2.1,p.2.2.1,p.2.2.2.1,y)
def dTH:D→RE (List Nat × Int × Int × Int × List D)
 |.tup [.str k,.int r,.int c,.int g,.lst m]=>.ok (k,r,c,g,m)
 |_=>.bad
def dP2:D→RE (D × D)
 |.tup [a,b]=>.ok (a,b)
 |_=>.bad
def thD (p:List Nat × Int × Int × Int × List Int):List Nat × Int × Int × Int × List D:=(p.1,p.2.1,p.2.2.1,p.2.2.2.1,p.2.2.2.2.map eI)
def t5L {α0 α1 α2 α3 α:Type} (g:α→D) (p:α0 × α1 × α2 × α3 × List α):α0 × α1 × α2 × α3 × List D:=(p.1,p.2.1,p.2.2.1,p.2.2.2.1,p.2.2.2.2.map g)
def qhf (x:List Int):RE Int:=gd (Nat.ble x.length 1000) (.ok (qlk x:Int))
def qkb (x y:List Nat):RE (List (List Nat)):=gd (qkm y.length x.length) (.ok ((Txt.split (qaB x) (qaB y)).map fun z=>z.cps.toList))
def qmL (x y:List Nat):RE Int:=.ok (Txt.find (qaB x) (qaB y))
def qkD (s:List Nat) (ss:List (List Nat)):RE (List Nat):=gd (leB ((ss.map List.length).sum+ss.length*s.length)) (.ok (Txt.join (qaB s) (ss.map qaB)).cps.toList)
def qmj (x y:List Nat):RE Int:=match PySem.Builtin.Str.occurrences (qaB x) (qaB y) 0 x.length 1 with
 |j::_=>.ok ((j:Nat):Int)
 |[]=>.bad
def qhO (xs:List Int) (y:Int):RE Int:=match xs.findIdx? (fun x=>decide (x=y)) with
 |some j=>.ok (j:Int)
 |none=>.bad
def mmE (k:Bool) (x:List Int) (y:Int):RE Int:=.ok (qlr k x y)
def qg8 (en:α→D) (en2:β→D) (xs:List α) (y:β):RE Int:=(qcK (xs.map en) (en2 y)).bind fun r=>match r.d with
 |.int i=>.ok i
 |_=>.bad
theorem XE.inxL {m1:RE (List α)} {m2:RE β} (ha:XE Γ a ρ m1 (eL en) s1 t1) (hb:XE Γ b ρ m2 en2 s2 t2):XE Γ (.inxL a b) ρ (m1.bind fun x=>m2.bind fun y=>qg8 en en2 x y) eI .v true:=by
 unfold XE;rw[ev]
 exact XR.bind ha fun v er k=>by
  rw[k.d]
  exact XR.bind hb fun w er' k'=>by
   rw[k'.d]
   show XR (qcK (v.map en) (en2 w)) _ _
   unfold qg8 qcK
   split
   ·cases idxD (en2 w) (v.map en) with
    |none=>trivial
    |some j=>exact xok rfl
   ·trivial
theorem XE.inxLP {x:List α} {y:β} (ha:XE Γ a ρ (.ok x) (eL en) s1 t1) (hb:XE Γ b ρ (.ok y) en2 s2 t2):XE Γ (.inxL a b) ρ (qg8 en en2 x y) eI .v true:=XE.inxL ha hb
def qgm (d:D) (k:Int):RE D:=match d with
 |.lst xs=>atE xs k
 |.tup xs=>atE xs k
 |_=>.bad
theorem XE.idxD {m1:RE D} {m2:RE Int} (ha:XE Γ a ρ m1 eD s1 t) (hb:XE Γ b ρ m2 eI s2 t2):XE Γ (.idx a b) ρ (m1.bind fun x=>m2.bind fun k=>qgm x k) eD .v t:=by
 unfold XE;rw[ev]
 exact XR.bind ha fun v er k=>XR.bind hb fun w er' k'=>by
  rw[k.d,k'.d]
  unfold eD eI qgm atE
  cases v with
  |lst xs =>
   simp only[qhC]
   cases L2.atI xs w with
   |none=>trivial
   |some x=>exact⟨_,rfl,rfl,rfl,fun z=>by show(_||_)=true;rw[k.t z];rfl⟩
  |tup xs =>
   simp only[qhC]
   cases L2.atI xs w with
   |none=>trivial
   |some x=>exact⟨_,rfl,rfl,rfl,fun z=>by show(_||_)=true;rw[k.t z];rfl⟩
  |_=>trivial
def qmk (d:D):RE Int:=match d with
 |.lst xs=>.ok xs.length
 |.tup xs=>.ok xs.length
 |_=>.bad
def qmg (d:D):RE (List D):=match d with
 |.lst xs=>.ok xs
 |.tup xs=>.ok xs
 |_=>.bad
theorem qjQ {α β:Type} (f:α→β) (m:RE (List α)):(m.bind fun xs=>gd (leB xs.length) (.ok (xs.map f)))=m.bind fun xs=>gd (leB xs.length) (lcE (fun _=>.ok true) (fun x=>.ok (f x)) xs):=by
 congr 1;funext xs;rw[qeZ,qfy]
end
theorem qjW {g:List D→RE ER} {ns:List Int} {m:RE Bool} {t:Bool} (h:Rf (g [eL eI ns]) m eB .v t) (e:m=.ok true):∃b,g [.lst (ns.map D.int)]=.ok (.val (.bl true) b):=by
 rw[e] at h
 obtain⟨er,e1,e2⟩:=h
 have h1:=e2.d
 have h2:=e2.s
 cases er with
 |val d b=>cases h1;exact⟨b,e1⟩
 |fre d b=>cases h2
 |brw d b=>cases h2
def qmR {α:Type} (T:Nat→Option Bool) (x:Option Nat):RE α→RE (Option Nat)
 |.bad=>.bad
 |.ok _=>.ok x
 |.exc c fs=>match T c,fs with
  |some true,[]=>.ok (some c)
  |some false,fs=>.exc c fs
  |_,_=>.bad
def qne {α:Type} (T:Nat→Option Bool) (x:Option Nat) (y:α):RE α→RE (Option Nat × α)
 |.bad=>.bad
 |.ok v=>.ok (x,v)
 |.exc c fs=>match T c,fs with
  |some true,[]=>.ok (some c,y)
  |some false,fs=>.exc c fs
  |_,_=>.bad
section
variable {Γ:Env} {ρ:List Sl} {α:Type} {en:α→D} {e a:Ex} {s:Sh} {t t1:Bool} {m:RE α}
def qmQ (T:Nat→Option Bool):Option Nat→RE Bool
 |some c=>match T c with
  |some b=>.ok b
  |none=>.bad
 |none=>.bad
def qmb (Ts:List (Option (Nat→Option Bool))):Option Nat→RE Bool
 |some c=>match qkG Ts c with
  |some b=>.ok b
  |none=>.bad
 |none=>.bad
def qnf (T:Nat→Option Bool) (cl:α→Nat) (x:α):RE Bool:=match T (cl x) with
 |some b=>.ok b
 |none=>.bad
def qlq (n:Int):RE (List Int):=gd (qgl n) (.ok (qck 0 1 n.toNat).reverse)
theorem qg1 (n:Nat):qck (0+(n:Int) - 1) (-1) n=(qck 0 1 n).reverse:=by
 apply List.ext_getElem
 ·simp[qck]
 ·intro i h1 h2
  simp[qck] at h1 h2 ⊢
  omega
theorem XI.rvr {m1:RE Int} (h:XE Γ a ρ m1 eI s t):XI Γ (.rvr a) ρ (m1.bind qlq) eI true false:=by
 unfold XI;rw[evI]
 exact XR.bind h fun n er h1=>by
  rw[h1.d]
  show XR (gd (qgl n) _) (gd (qgl n) _) _
  cases qgl n
  ·trivial
  ·refine⟨_,rfl,?_,fun _=>rfl,fun _=>rfl⟩
   show(qck (0+(((n - 0).toNat:Nat):Int) - 1) (-1) (n - 0).toNat).map D.int=_
   rw[Int.sub_zero,qg1]
end
inductive RK where
 |unlike | total | rising | seen | counted | joined | nosquare | ring
deriving DecidableEq
def RK.c:RK→Nat
 |.unlike=>0 | .total=>1 | .rising=>2 | .seen=>3 | .counted=>4 | .joined=>5 | .nosquare=>6 | .ring=>7
structure RuleT where
 k:RK
 ground:Int × Int × Int
 cells:List Int
 wanted:Int
 sign:Int
def qjH (r:RuleT):List D:=[eT3 eI eI eI r.ground,eL eI r.cells,eI r.wanted,eI r.sign]
def eRule (r:RuleT):D:=.ins r.k.c (qjH r)
inductive KK where
 |clue | only | place | pair | count | step | sums | ways | square | reach | turn
deriving DecidableEq
def KK.c:KK→Nat
 |.clue=>10 | .only=>11 | .place=>12 | .pair=>13 | .count=>14 | .step=>15 | .sums=>16 | .ways=>17 | .square=>18 | .reach=>19 | .turn=>20
def eKind (k:KK):D:=.ins k.c []
structure PuzT where
 ground:Int × Int × Int
 rules:List RuleT
 clues:List Int
def qkI (p:PuzT):List D:=[eT3 eI eI eI p.ground,eL eRule p.rules,eL eI p.clues]
def ePuz (p:PuzT):D:=.ins 25 (qkI p)
instance:Flat eRule:=⟨fun _=>rfl⟩
instance:Flat eKind:=⟨fun _=>rfl⟩
instance:Flat ePuz:=⟨fun _=>rfl⟩
section
variable {Γ:Env} {ρ:List Sl} {α:Type} {en:α→D} {e a:Ex} {s:Sh} {t t1:Bool} {m:RE α} {ss:Sms}
theorem Ini.run {c nf n k:Nat} {b:Sms} {as:List D} {mm:RE α} {fs:α→List D} (hn:as.length=n) (h:BN Γ b (.slf c []::(as.map (fun d=>Sl.val d d.flat)++List.replicate k .non)) mm fun v ρ'=>∃r,ρ'=.slf c (fs v)::r∧(fs v).length=nf) (he:∀v,mm=.ok v→en v=.ins c (fs v)):XR (qlE Γ c nf n k b as) mm fun v gs=>en v=.ins c gs:=by
 unfold qlE
 rw[if_pos hn]
 cases mm with
 |bad=>trivial
 |exc c fs=>have h:qae Γ b _=_:=h;rw[h];rfl
 |ok v =>
  obtain⟨ρ',e,r,e2,e3⟩:=h
  rw[e,e2]
  simp only[if_true,e3]
  exact⟨_,rfl,he v rfl⟩
end
instance:Flat (eTL eS):=⟨fun v=>by
 show D.flats (v.map eS)=true
 exact qdv v⟩
section
variable {Γ:Env} {ρ:List Sl} {a b:Ex} {s s1 s2:Sh} {t t1 t2:Bool}
def qkM (x:List Int):RE (List Int):=gd (Nat.ble x.length 4000&&Nat.ble (qjD x).length 63) (.ok (qjD x))
def qlP (y x:List Int):RE (List Int):=gd (leB x.length&&(leB y.length&&decide (∀n∈x,0≤n∧n<y.length))) (.ok (qjy y x))
def qnc {α:Type} (en:α→D) (os:List (List Int)) (v:α):RE α:=if qhl os (en v)=true then .ok v else .bad
def qmA (x:List Int):RE (List Int):=gd (leB x.length) (.ok x.reverse)
def qmH (T:List (List Nat)) (x:List Nat):RE Int:=match qkV x T with
 |some j=>.ok (j:Int)
 |none=>.bad
abbrev DTb:Type:=List (List Nat × Option (List (List Nat)))
def dtD (t:DTb):List (List Nat × Option D):=t.map fun p=>(p.1,p.2.map (eTL eS))
def qmK (t:DTb) (n:Bool) (x:List Nat):RE Bool:=match t.lookup x with
 |some o=>.ok (o.isSome == n)
 |none=>.bad
def ql3 (t:DTb) (x:List Nat):RE (List (List Nat)):=match t.lookup x with
 |some (some z)=>.ok z
 |_=>.bad
end
theorem XE.bad {Γ:Env} {ρ:List Sl} {α:Type} {en:α→D} {e:Ex} {s:Sh} {t:Bool}:XE Γ e ρ (RE.bad:RE α) en s t:=trivial
def qnl {α:Type} (en:α→D) (m:List (Int × α)):List (Int × D):=m.map fun e=>(e.1,en e.2)
def SlM (t:Bool) (m:List (Int × D)) (s:Sl):Prop:=∃f,s=.dct m f∧(t=true→f=true)
theorem SlM.low {t:Bool} {m:List (Int × D)} {s:Sl} (h:SlM t m s):SlM false m s:=by
 obtain⟨f,e,_⟩:=h
 exact⟨f,e,fun e=>nomatch e⟩
def qlN {α:Type} (m:List (Int × α)) (k:Int):RE α:=match qgj k m with
 |some x=>.ok x
 |none=>.bad
def qmw {α:Type} (m:List (Int × α)) (k:Int) (x:α):RE (List (Int × α)):=gd (leB (m.length+1)) (.ok (qkw k x m))
section
variable {Γ:Env} {ρ:List Sl} {α:Type} {en:α→D} {e b ix:Ex} {s s2:Sh} {t t1 t2:Bool} {q0:Sl} {m:List (Int × α)} {i:Nat}
def ql8 (xs:List α) (_:α):RE Unit:=gd (leB (xs.length+1)) (.ok ())
end
section
variable {Γ:Env} {ρ:List Sl} {α β γ:Type} {en:α→D} {en2:β→D} {en3:γ→D} {t t1 t2 s1t:Bool} {s1:Sh} {es:Exs} {w:Ex}
def qk6 {α:Type} (ks:List (List Nat)) (vs:List α) (s:List Nat):RE α:=match ks,vs with
 |k::ks,v::vs=>if k=s then .ok v else qk6 ks vs s
 |_,_=>.bad
def qm9 (s:List Nat):RE (List Nat):=gd (Nat.ble s.length 5592405) (.ok (upT s))
end
end Cm
set_option maxHeartbeats 2000000
namespace Cm
open PySem PySem.Spec PyProof.Rows L2
def SlW {α:Type} (en:α→D) (v:List (List α)) (s:Sl):Prop:=s=.row (v.map (List.map en))
theorem SlV.pk {t:Bool} {d:D} {s:Sl} (h:SlV t d s):SlV t d (pkS s):=by
 obtain⟨f,e,k⟩:=h
 rcases qfX e with rfl | ⟨rfl,j,rfl⟩
 ·exact⟨f,rfl,k⟩
 ·exact⟨false,rfl,k⟩
theorem SlO.pk {t:Bool} {ds:List D} {s:Sl} (h:SlO t ds s):SlO t ds (pkS s):=by
 obtain⟨f,rfl,k⟩:=h
 exact⟨f,rfl,k⟩
theorem SlM.pk {t:Bool} {m:List (Int × D)} {s:Sl} (h:SlM t m s):SlM t m (pkS s):=by
 obtain⟨f,rfl,k⟩:=h
 exact⟨f,rfl,k⟩
theorem SlW.pk {α:Type} {en:α→D} {v:List (List α)} {s:Sl} (h:SlW en v s):SlV true (eL (eL en) v) (pkS s):=by
 rw[show s=.row (v.map (List.map en)) from h]
 refine⟨true,?_,fun _=>rfl⟩
 show Sl.rd (.val (.lst ((v.map (List.map en)).map D.lst)) true)=.val (.lst (v.map (eL en))) true
 rw[List.map_map];rfl
def pkM {α:Type}:RE α→RE α
 |.exc c fs=>if D.flats fs=true then .exc c fs else .bad
 |m=>m
@[simp] theorem qlp {α:Type} (x:α):pkM (.ok x)=.ok x:=rfl
theorem qeB {α:Type} {en:α→D} (h:∀v,(en v).flat=true):∀xs:List α,D.flats (xs.map en)=true
 |[]=>rfl
 |x::xs=>by
  show((en x).flat&&D.flats (xs.map en))=true
  rw[h x,qeB h xs];rfl
def qmC {α:Type} (v:List (List α)) (k:Nat) (x:α):RE (List (List α)):=match v[k]? with
 |some xs=>gd (leB (xs.length+1)) (.ok (v.set k (xs++[x])))
 |none=>.bad
def qmx {α:Type} (v:List (List α)) (k:Nat):RE (List (List α)):=match v[k]? with
 |some _=>.ok (v.set k [])
 |none=>.bad
def ql6 {α:Type} (v:List (List α)) (k:Nat) (m:Int) (x:α):RE (List (List α)):=match v[k]? with
 |some xs=>match ixN xs.length m with
  |some j=>.ok (v.set k (xs.set j x))
  |none=>.bad
 |none=>.bad
section
variable {Γ:Env} {ρ:List Sl} {α β τ:Type} {en:α→D} {e ix:Ex} {es:Exs} {s s2:Sh} {t t1 t2:Bool} {q0:Sl} {i k:Nat} {v:List (List α)}
theorem XE.pkV {m:RE α} (h:XE Γ e (ρ.map pkS) m en .v t) (hf:∀v,(en v).flat=true):XE Γ (.pk e) ρ (pkM m) en .v true:=by
 unfold XE;rw[ev]
 cases m with
 |bad=>trivial
 |exc c fs =>
  have h:ev Γ e _=_:=h
  rw[h]
  show XR (if D.flats fs=true then RE.exc c fs else RE.bad) (if D.flats fs=true then RE.exc c fs else RE.bad) _
  split
  ·rfl
  ·trivial
 |ok v =>
  obtain⟨er,e1,h1⟩:=h
  rw[e1]
  have k1:=h1.s
  have k2:=h1.d
  cases er with
  |val d b =>
   have k2:d=en v:=k2
   subst k2
   refine⟨.val (en v) true,?_,rfl,rfl,fun _=>rfl⟩
   show(if (en v).flat=true then RE.ok (ER.val (en v) true) else .bad)=_
   rw[if_pos (hf v)]
  |fre _ _=>cases k1
  |brw _ _=>cases k1
abbrev XEF (Γ:Env) (es:Exs) (ρ:List Sl) (m:RE (List (List α))) (en:α→D):Prop:=XR (evF Γ es ρ) m fun v dss=>dss=v.map (List.map en)
theorem XEF.nil:XEF Γ .nil ρ (.ok []) en:=by unfold XEF;rw[evF];exact⟨_,rfl,rfl⟩
theorem XEF.cons {m1:RE (List α)} {m2:RE (List (List α))} (h:XE Γ e ρ m1 (eL en) .f t) (hf:∀v,(en v).flat=true) (hs:XEF Γ es ρ m2 en):XEF Γ (.cons e es) ρ (m1.bind fun x=>m2.bind fun r=>.ok (x::r)) en:=by
 unfold XEF;rw[evF]
 refine XR.bind h fun x er h1=>?_
 have k1:=h1.s
 have k2:=h1.d
 cases er with
 |val _ _=>cases k1
 |brw _ _=>cases k1
 |fre ds b =>
  have k2:D.lst ds=eL en x:=k2
  injection k2 with k2
  subst k2
  show XR (if D.flats (x.map en)=true then _ else _) _ _
  rw[if_pos (qeB hf x)]
  exact XR.bind hs fun r dss e=>⟨_,rfl,by rw[e];rfl⟩
theorem SN.row {m:RE (List (List α))} (ρ₂:Sl→List Sl) (h:XEF Γ es ρ m en) (hset:∀q,ρ.set i q=ρ₂ q) :
  SN Γ (.row i es) ρ (m.bind fun v=>gd (leB v.length) (.ok v)) fun v ρ'=>∃q,ρ'=ρ₂ q∧SlW en v q:=by
 unfold SN
 rw[Cm.run]
 cases m with
 |bad=>trivial
 |exc c fs=>have h:evF Γ _ ρ=_:=h;rw[h];rfl
 |ok v =>
  obtain⟨dss,e1,rfl⟩:=h
  rw[e1]
  have hl:(v.map (List.map en)).length=v.length:=List.length_map _
  simp only[RE.out_ok,RE.bind_ok,hl]
  cases leB v.length with
  |false=>trivial
  |true=>exact⟨_,rfl,_,hset _,rfl⟩
end
section
variable {Γ:Env} {ρ:List Sl} {α:Type} {en:α→D} {a:Ex} {s1:Sh} {t:Bool}
end
def qmD (s:List Nat) (k:Int):RE (List Nat):=gd (qi1 s.length k&&(Nat.ble 1 k.toNat&&Nat.ble 1 s.length)) (.ok (List.replicate k.toNat s).flatten)
end Cm
namespace Cm
open PySem PySem.Spec PyProof.Rows L2
def qlo {α β:Type} (c:α→RE Bool) (f:α→RE β):List α→RE (List β)
 |[]=>.ok []
 |x::xs=>(c x).bind fun k=>if k=true then (f x).bind fun y=>(qlo c f xs).bind fun ys=>.ok (y::ys) else qlo c f xs
section
variable {Γ:Env} {ρ:List Sl} {α β:Type} {en:α→D} {en2:β→D} {e:Ex} {s:Sh} {t t1:Bool}
theorem qgf:∀l:List Int,dIs (l.map D.int)=some l
 |[]=>rfl
 |x::l=>by rw[List.map_cons,dIs,qgf l];rfl
theorem qfl:∀L:List (List Int),dRs (L.map (eL eI))=some L
 |[]=>rfl
 |x::L=>by
  rw[List.map_cons]
  show(match dIs (x.map D.int),dRs (L.map (eL eI)) with
  |some a,some b=>some (a::b)
  |_,_=>none)=_
  rw[qgf x,qfl L]
def qhJ (v:List (List Int)):RE (List (List Int)):=if v.Nodup then .ok v else .bad
theorem SN.rowc {m:RE (List (List Int))} (ρ₂:Sl→List Sl) (h:XE Γ (.call k es) ρ m (eL (eL eI)) .f true) (hset:∀q,ρ.set i q=ρ₂ q) :
  SN Γ (.rowc i k es) ρ (m.bind qhJ) fun v ρ'=>∃q,ρ'=ρ₂ q∧SlW eI v q:=by
 unfold SN
 rw[Cm.run]
 unfold XE at h
 rw[ev] at h
 cases eg:Γ.fn[k]? with
 |none =>
  rw[eg] at h
  cases m with
  |bad=>trivial
  |ok v=>obtain⟨x,e,_⟩:=h;cases e
  |exc c fs=>have h:RE.bad=_:=h;cases h
 |some g =>
  rw[eg] at h
  simp only at h ⊢
  cases e1:evs Γ es ρ with
  |bad=>rw[e1] at h;cases m with
   |bad=>trivial
   |ok v=>obtain⟨x,e,_⟩:=h;cases e
   |exc c fs=>have h:RE.bad=_:=h;cases h
  |exc c fs=>rw[e1] at h;cases m with
   |bad=>trivial
   |ok v=>obtain⟨x,e,_⟩:=h;cases e
   |exc c' fs'=>have h:RE.exc c fs=_:=h;rw[RE.out_exc];cases h;rfl
  |ok r =>
   rw[e1] at h
   simp only[RE.bind_ok,RE.out_ok] at h ⊢
   cases e2:g.2 (r.map ER.d) with
   |bad=>rw[e2] at h;cases m with
    |bad=>trivial
    |ok v=>obtain⟨x,e,_⟩:=h;first | cases e | (simp at e)
    |exc c fs=>first | cases h | (have h:RE.bad=_:=h;cases h) | (simp[XR] at h)
   |exc c fs=>rw[e2] at h;cases m with
    |bad=>trivial
    |ok v=>obtain⟨x,e,_⟩:=h;first | cases e | (simp at e)
    |exc c' fs'=>first | (have h:RE.exc c fs=_:=h;rw[RE.out_exc];cases h;rfl) | (simp[XR] at h;obtain⟨rfl,rfl⟩:=h;rfl)
   |ok er =>
    rw[e2] at h
    simp only[RE.bind_ok,RE.out_ok] at h ⊢
    cases m with
    |bad=>trivial
    |exc c fs =>
     have h:qaQ (!r.all ER.isV) er=.exc c fs:=h
     exfalso
     revert h
     cases (!r.all ER.isV)<;>cases er<;>simp only[qaQ]<;>intro h<;>first | (cases h;done) | (split at h<;>cases h)
    |ok v =>
     obtain⟨x,ex,hx⟩:=h
     have ex:qaQ (!r.all ER.isV) er=.ok x:=ex
     have hr:qiz er=if v.Nodup then some v else none:=by
      have h1:=hx.s
      have h2:=hx.d
      have h3:=hx.t rfl
      cases x with
      |val _ _=>cases h1
      |brw _ _=>cases h1
      |fre ds b =>
       have h2:D.lst ds=.lst (v.map (eL eI)):=h2
       injection h2 with h2
       subst h2
       have h3:b=true:=h3
       subst h3
       cases er with
       |brw _ _=>cases q:(!r.all ER.isV)<;>rw[q] at ex<;>cases ex
       |val _ _ =>
        cases q:(!r.all ER.isV)<;>rw[q] at ex<;>simp only[qaQ] at ex
        ·cases ex
        ·split at ex<;>cases ex
       |fre ds b =>
        have key:ds=v.map (eL eI)∧(b||D.flats ds)=true:=by
         cases q:(!r.all ER.isV)<;>rw[q] at ex<;>simp only[qaQ] at ex
         ·injection ex with ex
          injection ex with ex1 ex2
          subst ex1
          exact⟨rfl,by rw[ex2];rfl⟩
         ·split at ex
          ·rename_i q2
           injection ex with ex
           injection ex with ex1 ex2
           subst ex1
           exact⟨rfl,q2⟩
          ·cases ex
        obtain⟨rfl,k⟩:=key
        unfold qiz
        simp only[k,if_true,qfl]
     rw[hr]
     unfold qhJ
     simp only[RE.bind_ok]
     by_cases nd:v.Nodup
     ·rw[if_pos nd,if_pos nd]
      exact⟨_,rfl,_,hset _,rfl⟩
     ·rw[if_neg nd,if_neg nd]
      trivial
def rzE {τ:Type} (f:List Int→τ→RE Bool):Nat→List τ→List (List Int)→RE (Fl Bool (List (List Int)))
 |_,[],v=>.ok (.nx v)
 |k,y::ys,v=>match v[k]? with
  |some xs=>(f xs y).bind fun c=>if c=true then .ok (.rt false) else rzE f (k+1) ys (v.set k [])
  |none=>.ok (.nx v)
theorem qj2 {c:Te} {a b:Nat} {be tb:Bool} {en:τ→D} {f:List Int→τ→RE Bool} (ρ₃:Sl→Sl→Sl→List Sl) (h1:∀qa qb q,(ρ₃ qa qb q)[i]? = some q) (h2:∀qa qb q r,(((ρ₃ qa qb q).set a .non).set b .non).set i r=ρ₃ .non .non r) (hb:tb=true→be=true)
  (hc:∀(xs:List Int) (y:τ) (qa qb x1 x2 x3:Sl),SlV true (eL eI xs) qa→SlV tb (en y) qb→XT Γ c ((((ρ₃ x1 x2 x3).map pkS).set a qa).set b qb) (f xs y)) :
  ∀(ys:List τ) (k:Nat) (v:List (List Int)) (qa qb q:Sl),SlW eI v q→XG (qho (fun ρ=>evT Γ c ρ) a b i be k (ys.map en) (ρ₃ qa qb q)) (rzE f k ys v) (fun r er=>Is .v true (eB r) er) (fun v' ρ'=>∃qa qb q,ρ'=ρ₃ qa qb q∧SlW eI v' q)
 |[],k,v,qa,qb,q,hq=>⟨_,rfl,_,_,_,rfl,hq⟩
 |y::ys,k,v,qa,qb,q,hq=>by
  have hq0:=hq
  have hq:q=.row (v.map (List.map eI)):=hq
  subst hq
  rw[List.map_cons]
  unfold qho rzE
  rw[h1]
  simp only[List.getElem?_map]
  cases e:v[k]? with
  |none=>exact⟨_,rfl,_,_,_,rfl,hq0⟩
  |some xs =>
   simp only[Option.map_some]
   have hx:=hc xs y (.val (.lst (xs.map eI)) true) (.val (en y) be) qa qb (.row (v.map (List.map eI))) ⟨_,rfl,fun _=>rfl⟩ ⟨_,rfl,hb⟩
   cases ef:f xs y with
   |bad=>trivial
   |exc d fs =>
    rw[ef] at hx
    have hx:evT Γ c _=_:=hx
    rw[hx];rfl
   |ok r =>
    rw[ef] at hx
    obtain⟨r',hx,rfl⟩:=hx
    rw[hx]
    simp only[RE.out_ok,RE.bind_ok]
    cases r' with
    |true=>exact⟨_,rfl,rfl,rfl,fun _=>rfl⟩
    |false =>
     simp only[Bool.false_eq_true,if_false]
     rw[h2]
     exact qj2 ρ₃ h1 h2 hb hc ys (k+1) (v.set k []) _ _ _ (by show Sl.row _=.row _;rw[List.map_set];rfl)
theorem SF.rz {c:Te} {a b:Nat} {tb:Bool} {en:τ→D} {m:RE (List τ)} {v:List (List Int)} {q:Sl} {x0 y0:Sl} (f:List Int→τ→RE Bool) (ρ₃:Sl→Sl→Sl→List Sl) (h:XE Γ e ρ m (eL en) .v tb) (hρ:ρ=ρ₃ x0 y0 q) (hg:(a == b||(a == i||(b == i||Nat.ble ρ.length a)))=false) (h1:∀qa qb q,(ρ₃ qa qb q)[i]? = some q) (h2:∀qa qb q r,(((ρ₃ qa qb q).set a .non).set b .non).set i r=ρ₃ .non .non r) (hq:SlW eI v q)
  (hc:∀(xs:List Int) (y:τ) (qa qb x1 x2 x3:Sl),SlV true (eL eI xs) qa→SlV tb (en y) qb→XT Γ c ((((ρ₃ x1 x2 x3).map pkS).set a qa).set b qb) (f xs y)) :
  SF Γ (.rz a b i e c) ρ (m.bind fun ys=>rzE f 0 ys v) (fun r er=>Is .v true (eB r) er) (fun v' ρ'=>∃qa qb q,ρ'=ρ₃ qa qb q∧SlW eI v' q):=by
 unfold SF
 rw[Cm.run]
 unfold gRz
 rw[hg]
 simp only[Bool.false_eq_true,if_false]
 have hr:ρ[i]? = some (.row (v.map (List.map eI))):=by rw[hρ,h1,show q=.row (v.map (List.map eI)) from hq]
 rw[hr]
 simp only
 cases m with
 |bad=>trivial
 |exc d fs=>have h:ev Γ e ρ=_:=h;rw[h];rfl
 |ok ys =>
  obtain⟨er,e1,h3⟩:=h
  rw[e1]
  have k1:=h3.s
  have k2:=h3.d
  have k3:=h3.t
  cases er with
  |fre _ _=>cases k1
  |brw _ _=>cases k1
  |val d be =>
   have k2:d=.lst (ys.map en):=k2
   subst k2
   simp only[RE.out_ok,RE.bind_ok]
   rw[hρ]
   exact qj2 ρ₃ h1 h2 k3 hc ys 0 v _ _ _ hq
def qkL (v:List (List Int)):RE Unit:=gd (leB (v.length+1)) (.ok ())
theorem SN.rdr {m:RE β} {en2:β→D} {v:List (List Int)} {q0:Sl} (ρ₂:Sl→List Sl) (h0:ρ[i]? = some q0) (hq:SlW eI v q0) (h:XE Γ e ρ m en2 s t) (hset:∀q,ρ.set i q=ρ₂ q) :
  SN Γ (.rdr i e) ρ (m.bind fun _=>qkL v) fun _ ρ'=>∃q,ρ'=ρ₂ q:=by
 unfold SN
 rw[Cm.run]
 have hq:q0=.row (v.map (List.map eI)):=hq
 subst hq
 rw[h0]
 simp only
 cases m with
 |bad=>trivial
 |exc c fs=>have h:ev Γ e ρ=_:=h;rw[h];rfl
 |ok x =>
  obtain⟨er,e1,_⟩:=h
  rw[e1]
  simp only[RE.out_ok,RE.bind_ok,qkL,List.length_map]
  cases leB (v.length+1) with
  |false=>trivial
  |true=>exact⟨_,rfl,_,hset _⟩
end
end Cm
namespace Cm
def qam:List (List Nat):=[[99,108,117,101],[111,110,108,121],[112,108,97,99,101],[99,111,117,110,116],[115,116,101,112],[115,117,109],[115,113,117,97,114,101],[114,101,97,99,104],[116,117,114,110],[112,97,105,114],[119,97,121,115]]
def qcm:DTb:=[([111,110,108,121],some [[117,110,108,105,107,101]]),([112,108,97,99,101],some [[117,110,108,105,107,101]]),([99,111,117,110,116],some [[99,111,117,110,116]]),([115,116,101,112],some [[114,105,115,105,110,103]]),([115,117,109],some [[115,117,109]]),([115,113,117,97,114,101],some [[110,111,115,113,117,97,114,101]]),([114,101,97,99,104],some [[106,111,105,110,101,100],[114,105,110,103]]),([116,117,114,110],some [[114,105,110,103]]),([112,97,105,114],some [[117,110,108,105,107,101]]),([99,108,117,101],none),([119,97,121,115],none)]
def F.floor_of (aK:Int) (aO:Int) (a9:Int):RE (Int × Int × Int):=
 ((RE.ok (!(decide (1≤aK)&&decide (aK≤6)))).bind fun k4=>if k4=true then RE.ok true else ((RE.ok (!(decide (1≤aO)&&decide (aO≤6)))).bind fun k3=>if k3=true then RE.ok true else ((qgB aK aO).bind fun x1=>RE.ok (decide (16<x1))))).bind fun k5=>if k5=true then (RE.exc 31 []) else ((RE.ok (!(decide (1≤a9)&&decide (a9≤6)))).bind fun k6=>if k6=true then (RE.exc 31 []) else (RE.ok (aK,aO,a9)))
def F.many_cells (al:Int × Int × Int):RE Int:=
 qgB al.1 al.2.1
def F.spot_of (al:Int × Int × Int) (ab:Int):RE (Int × Int):=
 (qiX ab al.2.1).bind fun x1=>(qhw ab al.2.1).bind fun x2=>RE.ok (x1,x2)
def F.beside (al:Int × Int × Int) (ab:Int):RE (List Int):=
 (RE.ok al).bind fun p1=>(F.spot_of al ab).bind fun p2=>(RE.ok ([]:List Int)).bind fun af=>((RE.ok (decide (0<p2.1))).bind fun k3=>if k3=true then ((qbY af (ab - p1.2.1)).bind fun af=>RE.ok af) else (RE.ok af)).bind fun(p4:List Int)=>((RE.ok (decide (0<p2.2))).bind fun k5=>if k5=true then ((qbY p4 (ab - 1)).bind fun af=>RE.ok af) else (RE.ok p4)).bind fun(p6:List Int)=>((RE.ok (decide (p2.2<(p1.2.1 - 1)))).bind fun k7=>if k7=true then ((qbY p6 (ab+1)).bind fun af=>RE.ok af) else (RE.ok p6)).bind fun(p8:List Int)=>((RE.ok (decide (p2.1<(p1.1 - 1)))).bind fun k9=>if k9=true then ((qbY p8 (ab+p1.2.1)).bind fun af=>RE.ok af) else (RE.ok p8)).bind fun(p10:List Int)=>RE.ok p10
def F.squares (al:Int × Int × Int):RE (List (List Int)):=
 (RE.ok al).bind fun p1=>(RE.ok ([]:List (List Int))).bind fun af=>(((F.many_cells al).bind qaH).bind fun y10=>qak (fun(ab:Int) (s5:List (List Int))=>(F.spot_of al ab).bind fun p6=>((RE.ok ((decide (p6.1<(p1.1 - 1)))&&(decide (p6.2<(p1.2.1 - 1))))).bind fun k7=>if k7=true then ((qbY s5 ([ab,ab+1,ab+p1.2.1,(ab+p1.2.1)+1])).bind fun af=>RE.ok af) else (RE.ok s5)).bind fun(p8:List (List Int))=>RE.ok p8) y10 af).bind fun(p9:List (List Int))=>RE.ok p9
def F.reached (al:Int × Int × Int) (aF:List Int) (bi:Int):RE (List Int):=
 (RE.ok (!decide (bi∈aF))).bind fun k1=>if k1=true then (RE.ok []) else ((RE.ok ([bi]:List Int)).bind fun af=>(RE.ok (0:Int)).bind fun aE=>(qj0 (fun(s10:(List Int) × Int)=>(RE.ok (decide (s10.2<(List.length s10.1:Int))))) (fun(s10:(List Int) × Int)=>(((RE.ok al).bind fun x11=>(atE s10.1 s10.2).bind fun x12=>F.beside x11 x12).bind fun y18=>qak (fun(ab:Int) (s14:List Int)=>((RE.ok ((decide (ab∈aF))&&(!decide (ab∈s14)))).bind fun k15=>if k15=true then ((qbY s14 ab).bind fun af=>RE.ok af) else (RE.ok s14)).bind fun(p16:List Int)=>RE.ok p16) y18 s10.1).bind fun(p17:List Int)=>(RE.ok (s10.2+1:Int)).bind fun aE=>RE.ok (p17,aE)) qjV (af,aE)).bind fun(p19:(List Int) × Int)=>RE.ok (qc3 p19.1))
def F.bit (ah:Int):RE Int:=
 qle 1 (ah - 1)
def F.stands (aH:Int) (ah:Int):RE Bool:=
 ((F.bit ah).bind fun x2=>RE.ok (PySem.Builtin.bitAnd aH x2)).bind fun x3=>RE.ok (!decide (x3=0))
def F.has_only (aH:Int) (ah:Int):RE Bool:=
 ((F.bit ah).bind fun x2=>RE.ok (PySem.Builtin.bitOr aH x2)).bind fun x3=>(F.bit ah).bind fun x4=>RE.ok (decide (x3=x4))
def F.signs_in (aH:Int):RE (List Int):=
 (qhB 1 ((PySem.Builtin.Int.intBits aH:Int)+1)).bind fun x1=>gd (leB x1.length) (lcE (fun(ah:Int)=>(F.stands aH ah)) (fun(ah:Int)=>(RE.ok ah)) x1)
def F.Clue_word (ae:KK):RE (List Nat):=
 RE.ok ([99,108,117,101])
def F.Clue_fits (ae:KK) (ac:PuzT) (ai:Option RuleT) (aj:List Nat × Int × Int × Int × (List Int)):RE Bool:=
 RE.ok ((decide (aj.2.1=0))&&(decide (aj.2.2.2.2=[])))
def F.Only_word (ae:KK):RE (List Nat):=
 RE.ok ([111,110,108,121])
def F.Only_strikes (ae:KK) (ac:PuzT) (ag:List Int) (ai:Option RuleT) (aj:List Nat × Int × Int × Int × (List Int)):RE Bool:=
 ((RE.ok ag).bind fun x1=>(atE aj.2.2.2.2 0).bind fun x2=>atE x1 x2).bind fun x3=>(RE.ok aj.2.2.2.1).bind fun x4=>F.has_only x3 x4
def F.Place_word (ae:KK):RE (List Nat):=
 RE.ok ([112,108,97,99,101])
def F.Pair_word (ae:KK):RE (List Nat):=
 RE.ok ([112,97,105,114])
def F.Pair_strikes (ae:KK) (ac:PuzT) (ag:List Int) (ai:Option RuleT) (aj:List Nat × Int × Int × Int × (List Int)):RE Bool:=
 ((((RE.ok ag).bind fun x1=>(atE aj.2.2.2.2 0).bind fun x2=>atE x1 x2).bind fun x5=>((RE.ok ag).bind fun x3=>(atE aj.2.2.2.2 1).bind fun x4=>atE x3 x4).bind fun x6=>RE.ok (PySem.Builtin.bitOr x5 x6)).bind fun x7=>F.signs_in x7).bind fun a9=>(((RE.ok a9).bind fun x8=>gd (leB x8.length) (RE.ok (List.filter (fun(ah:Int)=>!decide (ah=aj.2.2.2.1)) x8))).bind fun x9=>RE.ok (List.length x9:Int)).bind fun x10=>RE.ok (decide (x10≤1))
def F.Count_word (ae:KK):RE (List Nat):=
 RE.ok ([99,111,117,110,116])
def F.Step_word (ae:KK):RE (List Nat):=
 RE.ok ([115,116,101,112])
def F.Sums_word (ae:KK):RE (List Nat):=
 RE.ok ([115,117,109])
def F.Ways_word (ae:KK):RE (List Nat):=
 RE.ok ([119,97,121,115])
def F.may_have (ag:List Int) (ah:Int):RE (List Int):=
 (qaH (List.length ag:Int)).bind fun x3=>gd (leB x3.length) (lcE (fun(ab:Int)=>((atE ag ab).bind fun x1=>(RE.ok ah).bind fun x2=>F.stands x1 x2)) (fun(ab:Int)=>(RE.ok ab)) x3)
def F.Square_word (ae:KK):RE (List Nat):=
 RE.ok ([115,113,117,97,114,101])
def F.Reach_word (ae:KK):RE (List Nat):=
 RE.ok ([114,101,97,99,104])
def F.Turn_word (ae:KK):RE (List Nat):=
 RE.ok ([116,117,114,110])
def F.all_kinds  : RE (List KK):=
 (RE.ok ([KK.clue,KK.only,KK.place]:List KK)).bind fun aV=>qeg aV ([KK.count,KK.step,KK.sums,KK.square,KK.reach,KK.turn,KK.pair,KK.ways])
def F.m_word (r:KK)  : RE (List Nat):=match r with
 |.clue=>F.Clue_word r
 |.only=>F.Only_word r
 |.place=>F.Place_word r
 |.pair=>F.Pair_word r
 |.count=>F.Count_word r
 |.step=>F.Step_word r
 |.sums=>F.Sums_word r
 |.ways=>F.Ways_word r
 |.square=>F.Square_word r
 |.reach=>F.Reach_word r
 |.turn=>F.Turn_word r
def F.is_filling (al:Int × Int × Int) (aq:List Int):RE Bool:=
 ((F.many_cells al).bind fun x2=>RE.ok (!decide ((List.length aq:Int)=x2))).bind fun k3=>if k3=true then (RE.ok false) else (((RE.ok aq).bind fun x4=>gd (leB x4.length) (RE.ok (List.map (fun(ah:Int)=>(decide (0≤ah)&&decide (ah≤al.2.2))) x4))).bind fun x5=>RE.ok (List.all x5 id))
def F.Rule_spots (ae:RuleT):RE (List Int):=
 RE.ok ae.cells
def F.Rule_number (ae:RuleT):RE Int:=
 RE.ok ae.wanted
def F.Rule_sign (ae:RuleT):RE Int:=
 RE.ok ae.sign
def F.Rule_told_numbers (ae:RuleT):RE (List Int):=
 RE.ok ae.cells
def F.Unlike_name (ae:RuleT):RE (List Nat):=
 RE.ok ([117,110,108,105,107,101])
def F.Unlike_holds (ae:RuleT) (aq:List Int):RE Bool:=
 (((RE.ok ae.cells).bind fun x1=>gd (leB x1.length) (lcE (fun(ab:Int)=>(RE.ok true)) (fun(ab:Int)=>(atE aq ab)) x1)).bind qhf).bind fun x2=>RE.ok (decide (x2=(List.length ae.cells:Int)))
def F.Total_name (ae:RuleT):RE (List Nat):=
 RE.ok ([115,117,109])
def F.Total_holds (ae:RuleT) (aq:List Int):RE Bool:=
 (((RE.ok ae.cells).bind fun x1=>gd (leB x1.length) (lcE (fun(ab:Int)=>(RE.ok true)) (fun(ab:Int)=>(atE aq ab)) x1)).bind fun x2=>RE.ok (List.sum x2)).bind fun x3=>RE.ok (decide (x3=ae.wanted))
def F.Total_told_numbers (ae:RuleT):RE (List Int):=
 qeg [ae.wanted] ae.cells
def F.Rising_name (ae:RuleT):RE (List Nat):=
 RE.ok ([114,105,115,105,110,103])
def F.Rising_holds (ae:RuleT) (aq:List Int):RE Bool:=
 Fl.bR ((RE.ok (List.zip ae.cells (qeX ae.cells (some 1) none))).bind fun y11=>qaD (fun(p5:Int × Int) (s4:Unit)=>(((atE aq p5.1).bind fun x6=>(atE aq p5.2).bind fun x7=>RE.ok (decide (x7≤x6))).bind fun k8=>if k8=true then (RE.ok (.rt false)) else (RE.ok (.nx ())):RE (Fl (Bool) (Unit)))) y11 ()) fun(p10:Unit)=>RE.ok true
def F.Seen_name (ae:RuleT):RE (List Nat):=
 RE.ok ([115,101,101,110])
def F.Seen_holds (ae:RuleT) (aq:List Int):RE Bool:=
 (RE.ok (0:Int)).bind fun aL=>(RE.ok (0:Int)).bind fun aZ=>((RE.ok ae.cells).bind fun y10=>qak (fun(ab:Int) (s4:Int × Int)=>(((atE aq ab).bind fun x5=>RE.ok (decide (s4.2<x5))).bind fun k7=>if k7=true then ((RE.ok (s4.1+1:Int)).bind fun aL=>(atE aq ab).bind fun aZ=>RE.ok (aL,aZ)) else (RE.ok (s4.1,s4.2))).bind fun(p8:Int × Int)=>RE.ok (p8.1,p8.2)) y10 (aL,aZ)).bind fun(p9:Int × Int)=>RE.ok (decide (p9.1=ae.wanted))
def F.Seen_told_numbers (ae:RuleT):RE (List Int):=
 qeg [ae.wanted] ae.cells
def F.Counted_name (ae:RuleT):RE (List Nat):=
 RE.ok ([99,111,117,110,116])
def F.Counted_holds (ae:RuleT) (aq:List Int):RE Bool:=
 (((RE.ok ae.cells).bind fun x3=>gd (leB x3.length) (lcE (fun(ab:Int)=>((atE aq ab).bind fun x1=>RE.ok (decide (x1=ae.sign)))) (fun(ab:Int)=>(RE.ok ab)) x3)).bind fun x4=>RE.ok (List.length x4:Int)).bind fun x5=>RE.ok (decide (x5=ae.wanted))
def F.Counted_told_numbers (ae:RuleT):RE (List Int):=
 qeg ([ae.wanted,ae.sign]) ae.cells
def F.cells_with (ai:RuleT) (aq:List Int):RE (List Int):=
 (F.Rule_spots ai).bind fun x3=>gd (leB x3.length) (lcE (fun(ab:Int)=>((atE aq ab).bind fun x1=>(F.Rule_sign ai).bind fun x2=>RE.ok (decide (x1=x2)))) (fun(ab:Int)=>(RE.ok ab)) x3)
def F.are_joined (al:Int × Int × Int) (aF:List Int):RE Bool:=
 (RE.ok (decide (aF=[]))).bind fun k7=>if k7=true then RE.ok true else ((((RE.ok al).bind fun x1=>(RE.ok aF).bind fun x2=>(atE aF 0).bind fun x3=>F.reached x1 x2 x3).bind fun x4=>RE.ok (List.length x4:Int)).bind fun x5=>RE.ok (decide (x5=(List.length aF:Int))))
def F.Joined_name (ae:RuleT):RE (List Nat):=
 RE.ok ([106,111,105,110,101,100])
def F.Joined_holds (ae:RuleT) (aq:List Int):RE Bool:=
 (RE.ok ae.ground).bind fun x1=>(F.cells_with ae aq).bind fun x2=>F.are_joined x1 x2
def F.Joined_told_numbers (ae:RuleT):RE (List Int):=
 RE.ok [ae.sign]
def F.NoSquare_name (ae:RuleT):RE (List Nat):=
 RE.ok ([110,111,115,113,117,97,114,101])
def F.NoSquare_holds (ae:RuleT) (aq:List Int):RE Bool:=
 Fl.bR ((F.squares ae.ground).bind fun y18=>qaD (fun(aM:List Int) (s8:Unit)=>(((((RE.ok aM).bind fun x11=>gd (leB x11.length) (lcE (fun(ab:Int)=>((atE aq ab).bind fun x9=>RE.ok (decide (x9=ae.sign)))) (fun(ab:Int)=>(RE.ok ab)) x11)).bind fun x12=>RE.ok (List.length x12:Int)).bind fun x13=>RE.ok (decide (x13=4))).bind fun k15=>if k15=true then (RE.ok (.rt false)) else (RE.ok (.nx ())):RE (Fl (Bool) (Unit)))) y18 ()) fun(p17:Unit)=>RE.ok true
def F.NoSquare_told_numbers (ae:RuleT):RE (List Int):=
 RE.ok [ae.sign]
def F.Ring_name (ae:RuleT):RE (List Nat):=
 RE.ok ([114,105,110,103])
def F.Ring_holds (ae:RuleT) (aq:List Int):RE Bool:=
 (F.cells_with ae aq).bind fun af=>Fl.bR ((RE.ok af).bind fun y14=>qaD (fun(ab:Int) (s6:Unit)=>(((((F.beside ae.ground ab).bind fun x7=>gd (leB x7.length) (RE.ok (List.filter (fun(am:Int)=>decide (am∈af)) x7))).bind fun x8=>RE.ok (List.length x8:Int)).bind fun x9=>RE.ok (!decide (x9=2))).bind fun k11=>if k11=true then (RE.ok (.rt false)) else (RE.ok (.nx ())):RE (Fl (Bool) (Unit)))) y14 ()) fun(p13:Unit)=>F.are_joined ae.ground af
def F.Ring_told_numbers (ae:RuleT):RE (List Int):=
 RE.ok [ae.sign]
def F.number_of (aB:List Nat):RE Int:=
 ((((RE.ok 1).bind fun x1=>(qkd aB).bind fun x2=>if decide (x1≤x2)=true then (RE.ok 2).bind fun x3=>RE.ok (decide (x2≤x3)) else RE.ok false).bind fun x4=>RE.ok (!x4)).bind fun k10=>if k10=true then RE.ok true else (((qlU aB 0).bind fun x5=>RE.ok (decide ([x5]=[48]))).bind fun k9=>if k9=true then ((qkd aB).bind fun x7=>RE.ok (decide (1<x7))) else RE.ok false)).bind fun k11=>if k11=true then (RE.exc 33 []) else (((RE.ok aB).bind fun y16=>qak (fun(ah:Nat) (s13:Unit)=>(RE.ok (!decide (ah∈([48,49,50,51,52,53,54,55,56,57])))).bind fun k14=>if k14=true then RE.exc 33 [] else (RE.ok ())) y16 ()).bind fun(p15:Unit)=>qk7 aB)
def F.sign_told (al:Int × Int × Int) (az:List Int) (aE:Int):RE Int:=
 ((RE.ok (decide ((List.length az:Int)≤aE))).bind fun k5=>if k5=true then RE.ok true else (((RE.ok 1).bind fun x1=>(atE az aE).bind fun x2=>if decide (x1≤x2)=true then (RE.ok al.2.2).bind fun x3=>RE.ok (decide (x2≤x3)) else RE.ok false).bind fun x4=>RE.ok (!x4))).bind fun k6=>if k6=true then (RE.exc 33 []) else (atE az aE)
def F.cells_told (al:Int × Int × Int) (az:List Int):RE (List Int):=
 ((RE.ok (decide (az=[]))).bind fun k6=>if k6=true then RE.ok true else (((qhf az).bind fun x1=>RE.ok (!decide (x1=(List.length az:Int)))).bind fun k5=>if k5=true then RE.ok true else ((qkJ az).bind fun x3=>(F.many_cells al).bind fun x4=>RE.ok (decide (x4≤x3))))).bind fun k7=>if k7=true then (RE.exc 33 []) else (RE.ok az)
def F.whole_rule (al:Int × Int × Int) (aB:List Nat) (az:List Int):RE RuleT:=
 (RE.ok (!decide ((List.length az:Int)=1))).bind fun k1=>if k1=true then (RE.exc 33 []) else ((F.sign_told al az 0).bind fun ah=>((F.many_cells al).bind qaH).bind fun aF=>(RE.ok (decide (aB=([106,111,105,110,101,100])))).bind fun k3=>if k3=true then (RE.ok (RuleT.mk .joined al aF 0 ah)) else ((RE.ok (decide (aB=([110,111,115,113,117,97,114,101])))).bind fun k4=>if k4=true then (RE.ok (RuleT.mk .nosquare al aF 0 ah)) else (RE.ok (RuleT.mk .ring al aF 0 ah))))
def F.read_rule (al:Int × Int × Int) (aT:D):RE RuleT:=
 ((tyE (eD aT) .str).bind fun x1=>RE.ok (!x1)).bind fun k2=>if k2=true then (RE.exc 33 []) else (((dS aT).bind fun x3=>(RE.ok [32]).bind fun x4=>qkb x3 x4).bind fun aW=>(atE aW 0).bind fun aB=>(qkY aB ([[117,110,108,105,107,101],[115,117,109],[114,105,115,105,110,103],[115,101,101,110],[99,111,117,110,116],[106,111,105,110,101,100],[110,111,115,113,117,97,114,101],[114,105,110,103]])).bind fun k5=>if k5=true then (RE.exc 33 []) else (((RE.ok (qeX aW (some 1) none)).bind fun x6=>gd (leB x6.length) (lcE (fun(aw:List Nat)=>(RE.ok true)) (fun(aw:List Nat)=>(F.number_of aw)) x6)).bind fun az=>(qkP aB ([[106,111,105,110,101,100],[110,111,115,113,117,97,114,101],[114,105,110,103]])).bind fun k7=>if k7=true then (F.whole_rule al aB az) else ((RE.ok (decide (aB=([117,110,108,105,107,101])))).bind fun k8=>if k8=true then ((RE.ok al).bind fun x9=>(F.cells_told al az).bind fun x10=>(RE.ok 0).bind fun x11=>(RE.ok 0).bind fun x12=>RE.ok (RuleT.mk .unlike x9 x10 x11 x12)) else ((RE.ok (decide (aB=([114,105,115,105,110,103])))).bind fun k13=>if k13=true then ((RE.ok al).bind fun x14=>(F.cells_told al az).bind fun x15=>(RE.ok 0).bind fun x16=>(RE.ok 0).bind fun x17=>RE.ok (RuleT.mk .rising x14 x15 x16 x17)) else ((RE.ok (decide (aB=([99,111,117,110,116])))).bind fun k18=>if k18=true then ((F.sign_told al az 1).bind fun ah=>(RE.ok al).bind fun x19=>(F.cells_told al (qeX az (some 2) none)).bind fun x20=>(atE az 0).bind fun x21=>(RE.ok ah).bind fun x22=>RE.ok (RuleT.mk .counted x19 x20 x21 x22)) else ((F.cells_told al (qeX az (some 1) none)).bind fun aF=>(RE.ok (decide (aB=([115,117,109])))).bind fun k23=>if k23=true then ((RE.ok al).bind fun x24=>(RE.ok aF).bind fun x25=>(atE az 0).bind fun x26=>(RE.ok 0).bind fun x27=>RE.ok (RuleT.mk .total x24 x25 x26 x27)) else ((RE.ok al).bind fun x28=>(RE.ok aF).bind fun x29=>(atE az 0).bind fun x30=>(RE.ok 0).bind fun x31=>RE.ok (RuleT.mk .seen x28 x29 x30 x31))))))))
def F.Puzzle_place (ae:PuzT):RE (Int × Int × Int):=
 RE.ok ae.ground
def F.Puzzle_many (ae:PuzT):RE Int:=
 F.many_cells ae.ground
def F.Puzzle_clues (ae:PuzT):RE (List Int):=
 RE.ok ae.clues
def F.Puzzle_rule_at (ae:PuzT) (ay:Int):RE RuleT:=
 atE ae.rules ay
def F.Puzzle_many_rules (ae:PuzT):RE Int:=
 RE.ok (List.length ae.rules:Int)
def F.Puzzle_clue_at (ae:PuzT) (ab:Int):RE Int:=
 atE ae.clues ab
def F.m_holds (r:RuleT) (a0:List Int):RE Bool:=match r.k with
 |.unlike=>F.Unlike_holds r a0
 |.total=>F.Total_holds r a0
 |.rising=>F.Rising_holds r a0
 |.seen=>F.Seen_holds r a0
 |.counted=>F.Counted_holds r a0
 |.joined=>F.Joined_holds r a0
 |.nosquare=>F.NoSquare_holds r a0
 |.ring=>F.Ring_holds r a0
def F.Puzzle_meets (ae:PuzT) (aq:List Int):RE Bool:=
 (((F.is_filling ae.ground aq).bind fun x1=>RE.ok (!x1)).bind fun k2=>if k2=true then RE.ok true else (RE.ok (decide (0∈aq)))).bind fun k3=>if k3=true then (RE.ok false) else (Fl.bR ((RE.ok (List.zip ae.clues aq)).bind fun y12=>qaD (fun(p6:Int × Int) (s5:Unit)=>((RE.ok ((!decide (p6.1=0))&&(!decide (p6.1=p6.2)))).bind fun k7=>if k7=true then (RE.ok (.rt false)) else (RE.ok (.nx ())):RE (Fl (Bool) (Unit)))) y12 ()) fun(p9:Unit)=>((RE.ok ae.rules).bind fun x10=>gd (leB x10.length) (lcE (fun(ai:RuleT)=>(RE.ok true)) (fun(ai:RuleT)=>(F.m_holds ai aq)) x10)).bind fun x11=>RE.ok (List.all x11 id))
def F.Puzzle_new (al:Int × Int × Int) (aV:List D) (aI:List Int):RE PuzT:=
 (RE.ok (!decide (3=3))).bind fun k1=>if k1=true then RE.exc 31 [] else ((F.floor_of al.1 al.2.1 al.2.2).bind fun w_ground=>(RE.ok (decide (12<(List.length aV:Int)))).bind fun k2=>if k2=true then RE.exc 34 [] else (((RE.ok aV).bind fun x3=>gd (leB x3.length) (lcE (fun(aT:D)=>(RE.ok true)) (fun(aT:D)=>(F.read_rule w_ground aT)) x3)).bind fun w_rule_list=>((F.is_filling w_ground aI).bind fun x4=>RE.ok (!x4)).bind fun k5=>if k5=true then RE.exc 34 [] else ((RE.ok aI).bind fun w_clue_list=>RE.ok (PuzT.mk w_ground w_rule_list w_clue_list))))
def F.others_of (ai:RuleT) (ab:Int):RE (List Int):=
 (F.Rule_spots ai).bind fun x1=>gd (leB x1.length) (RE.ok (List.filter (fun(am:Int)=>!decide (am=ab)) x1))
def F.are_others (ai:RuleT) (ab:Int) (aQ:List Int):RE Bool:=
 (F.others_of ai ab).bind fun aG=>((((RE.ok aQ).bind fun x1=>gd (leB x1.length) (RE.ok (List.filter (fun(am:Int)=>!decide (am∈aG)) x1))).bind fun x2=>RE.ok (List.length x2:Int)).bind fun x3=>RE.ok (decide (x3=0))).bind fun k7=>if k7=true then ((qhf aQ).bind fun x5=>RE.ok (decide (x5=(List.length aQ:Int)))) else RE.ok false
def F.Clue_strikes (ae:KK) (ac:PuzT) (ag:List Int) (ai:Option RuleT) (aj:List Nat × Int × Int × Int × (List Int)):RE Bool:=
 (F.Puzzle_clue_at ac aj.2.2.1).bind fun aX=>RE.ok ((!decide (aX=0))&&(!decide (aX=aj.2.2.2.1)))
def F.m_name (r:RuleT)  : RE (List Nat):=match r.k with
 |.unlike=>F.Unlike_name r
 |.total=>F.Total_name r
 |.rising=>F.Rising_name r
 |.seen=>F.Seen_name r
 |.counted=>F.Counted_name r
 |.joined=>F.Joined_name r
 |.nosquare=>F.NoSquare_name r
 |.ring=>F.Ring_name r
def F.is_unlike (ai:Option RuleT) (ab:Int):RE Bool:=
 (RE.ok ai.isSome).bind fun k8=>if k8=true then ((((unO ai).bind fun x1=>F.m_name x1).bind fun x2=>RE.ok (decide (x2=([117,110,108,105,107,101])))).bind fun k7=>if k7=true then (((unO ai).bind fun x4=>F.Rule_spots x4).bind fun x6=>RE.ok (decide (ab∈x6))) else RE.ok false) else RE.ok false
def F.Only_fits (ae:KK) (ac:PuzT) (ai:Option RuleT) (aj:List Nat × Int × Int × Int × (List Int)):RE Bool:=
 (RE.ok (aj.2.2.2.2:List Int)).bind fun a8=>(F.is_unlike ai aj.2.2.1).bind fun k5=>if k5=true then ((RE.ok (decide ((List.length a8:Int)=1))).bind fun k4=>if k4=true then ((unO ai).bind fun x1=>(RE.ok aj.2.2.1).bind fun x2=>(RE.ok a8).bind fun x3=>F.are_others x1 x2 x3) else RE.ok false) else RE.ok false
def F.Place_fits (ae:KK) (ac:PuzT) (ai:Option RuleT) (aj:List Nat × Int × Int × Int × (List Int)):RE Bool:=
 (RE.ok (aj.2.2.2.2:List Int)).bind fun a8=>((F.Puzzle_place ac).bind fun x1=>RE.ok x1.2.2).bind fun a9=>(((F.is_unlike ai aj.2.2.1).bind fun x2=>RE.ok (!x2)).bind fun k8=>if k8=true then RE.ok true else (((((unO ai).bind fun x3=>F.Rule_spots x3).bind fun x4=>RE.ok (List.length x4:Int)).bind fun x5=>RE.ok (!decide (x5=a9))).bind fun k7=>if k7=true then RE.ok true else (RE.ok (!decide ((List.length a8:Int)=1))))).bind fun k9=>if k9=true then (RE.ok false) else (((RE.ok 1).bind fun x10=>(atE a8 0).bind fun x11=>if decide (x10≤x11)=true then (RE.ok a9).bind fun x12=>RE.ok (decide (x11≤x12)) else RE.ok false).bind fun k15=>if k15=true then ((atE a8 0).bind fun x13=>RE.ok (!decide (x13=aj.2.2.2.1))) else RE.ok false)
def F.Place_strikes (ae:KK) (ac:PuzT) (ag:List Int) (ai:Option RuleT) (aj:List Nat × Int × Int × Int × (List Int)):RE Bool:=
 Fl.bR (((unO ai).bind fun x1=>(RE.ok aj.2.2.1).bind fun x2=>F.others_of x1 x2).bind fun y12=>qaD (fun(am:Int) (s6:Unit)=>(((atE ag am).bind fun x7=>(atE aj.2.2.2.2 0).bind fun x8=>F.stands x7 x8).bind fun k9=>if k9=true then (RE.ok (.rt false)) else (RE.ok (.nx ())):RE (Fl (Bool) (Unit)))) y12 ()) fun(p11:Unit)=>RE.ok true
def F.Pair_fits (ae:KK) (ac:PuzT) (ai:Option RuleT) (aj:List Nat × Int × Int × Int × (List Int)):RE Bool:=
 (RE.ok (aj.2.2.2.2:List Int)).bind fun a8=>(((F.is_unlike ai aj.2.2.1).bind fun x1=>RE.ok (!x1)).bind fun k7=>if k7=true then RE.ok true else ((RE.ok (!decide ((List.length a8:Int)=2))).bind fun k6=>if k6=true then RE.ok true else (((unO ai).bind fun x2=>(RE.ok aj.2.2.1).bind fun x3=>(RE.ok a8).bind fun x4=>F.are_others x2 x3 x4).bind fun x5=>RE.ok (!x5)))).bind fun k8=>if k8=true then (RE.ok false) else (((unO ai).bind fun x9=>F.Rule_spots x9).bind fun au=>((RE.ok au).bind fun x10=>(atE a8 0).bind fun x11=>qhO x10 x11).bind fun x14=>((RE.ok au).bind fun x12=>(atE a8 1).bind fun x13=>qhO x12 x13).bind fun x15=>RE.ok (decide (x14<x15)))
def F.is_of (ai:Option RuleT) (aB:List Nat) (ab:Int):RE Bool:=
 (RE.ok ai.isSome).bind fun k8=>if k8=true then ((((unO ai).bind fun x1=>F.m_name x1).bind fun x2=>RE.ok (decide (x2=aB))).bind fun k7=>if k7=true then (((unO ai).bind fun x4=>F.Rule_spots x4).bind fun x6=>RE.ok (decide (ab∈x6))) else RE.ok false) else RE.ok false
def F.Count_fits (ae:KK) (ac:PuzT) (ai:Option RuleT) (aj:List Nat × Int × Int × Int × (List Int)):RE Bool:=
 (RE.ok (decide (aj.2.2.2.2=[]))).bind fun k1=>if k1=true then (F.is_of ai ([99,111,117,110,116]) aj.2.2.1) else RE.ok false
def F.Count_strikes (ae:KK) (ac:PuzT) (ag:List Int) (ai:Option RuleT) (aj:List Nat × Int × Int × Int × (List Int)):RE Bool:=
 ((unO ai).bind fun x1=>F.Rule_sign x1).bind fun ah=>((unO ai).bind fun x2=>(RE.ok aj.2.2.1).bind fun x3=>F.others_of x2 x3).bind fun aG=>(RE.ok (decide (aj.2.2.2.1=ah))).bind fun k4=>if k4=true then ((((RE.ok aG).bind fun x7=>gd (leB x7.length) (lcE (fun(am:Int)=>((atE ag am).bind fun x5=>(RE.ok ah).bind fun x6=>F.has_only x5 x6)) (fun(am:Int)=>(RE.ok am)) x7)).bind fun x8=>RE.ok (List.length x8:Int)).bind fun x10=>((unO ai).bind fun x9=>F.Rule_number x9).bind fun x11=>RE.ok (decide (x11≤x10))) else ((((RE.ok aG).bind fun x14=>gd (leB x14.length) (lcE (fun(am:Int)=>((atE ag am).bind fun x12=>(RE.ok ah).bind fun x13=>F.stands x12 x13)) (fun(am:Int)=>(RE.ok am)) x14)).bind fun x15=>RE.ok (List.length x15:Int)).bind fun x17=>((unO ai).bind fun x16=>F.Rule_number x16).bind fun x18=>RE.ok (decide (x17<x18)))
def F.neighbours_of (ai:RuleT) (ab:Int):RE ((Option Int) × (Option Int)):=
 (F.Rule_spots ai).bind fun au=>(qhO au ab).bind fun aE=>(RE.ok (():Unit)).bind fun bj=>(RE.ok (():Unit)).bind fun bm=>((RE.ok (decide (0<aE))).bind fun k1=>if k1=true then ((atE au (aE - 1)).bind fun bj=>RE.ok (some bj)) else (RE.ok (none:Option Int))).bind fun(p2:Option Int)=>((RE.ok (decide ((aE+1)<(List.length au:Int)))).bind fun k3=>if k3=true then ((atE au (aE+1)).bind fun bm=>RE.ok (some bm)) else (RE.ok (none:Option Int))).bind fun(p4:Option Int)=>RE.ok (p2,p4)
def F.Step_fits (ae:KK) (ac:PuzT) (ai:Option RuleT) (aj:List Nat × Int × Int × Int × (List Int)):RE Bool:=
 (RE.ok (decide (aj.2.2.2.2=[]))).bind fun k1=>if k1=true then (F.is_of ai ([114,105,115,105,110,103]) aj.2.2.1) else RE.ok false
def F.Step_strikes (ae:KK) (ac:PuzT) (ag:List Int) (ai:Option RuleT) (aj:List Nat × Int × Int × Int × (List Int)):RE Bool:=
 ((unO ai).bind fun x1=>(RE.ok aj.2.2.1).bind fun x2=>F.neighbours_of x1 x2).bind fun p3=>((RE.ok p3.1.isSome).bind fun k11=>if k11=true then (((((RE.ok ag).bind fun x4=>(unO p3.1).bind fun x5=>atE x4 x5).bind fun x6=>F.signs_in x6).bind fun x7=>(RE.ok aj.2.2.2.1).bind fun x8=>mmE false x7 x8).bind fun x9=>RE.ok (decide (aj.2.2.2.1≤x9))) else RE.ok false).bind fun k12=>if k12=true then (RE.ok true) else ((RE.ok p3.2.isSome).bind fun k20=>if k20=true then (((((RE.ok ag).bind fun x13=>(unO p3.2).bind fun x14=>atE x13 x14).bind fun x15=>F.signs_in x15).bind fun x16=>(RE.ok aj.2.2.2.1).bind fun x17=>mmE true x16 x17).bind fun x18=>RE.ok (decide (x18≤aj.2.2.2.1))) else RE.ok false)
def F.Sums_fits (ae:KK) (ac:PuzT) (ai:Option RuleT) (aj:List Nat × Int × Int × Int × (List Int)):RE Bool:=
 (RE.ok (decide (aj.2.2.2.2=[]))).bind fun k1=>if k1=true then (F.is_of ai ([115,117,109]) aj.2.2.1) else RE.ok false
def F.Sums_strikes (ae:KK) (ac:PuzT) (ag:List Int) (ai:Option RuleT) (aj:List Nat × Int × Int × Int × (List Int)):RE Bool:=
 (RE.ok (aj.2.2.2.1:Int)).bind fun ba=>(RE.ok (aj.2.2.2.1:Int)).bind fun aK=>Fl.bR (((unO ai).bind fun x1=>(RE.ok aj.2.2.1).bind fun x2=>F.others_of x1 x2).bind fun y25=>qaD (fun(am:Int) (s9:Int × Int)=>(((atE ag am).bind fun x10=>F.signs_in x10).bind fun a9=>(RE.ok (decide (a9=[]))).bind fun k11=>if k11=true then (RE.ok (.rt true)) else (((atE a9 0).bind fun x14=>RE.ok (s9.1+x14)).bind fun ba=>((atE a9 (-1)).bind fun x16=>RE.ok (s9.2+x16)).bind fun aK=>RE.ok (.nx (ba,aK))):RE (Fl (Bool) (Int × Int)))) y25 (ba,aK)) fun(p17:Int × Int)=>(((unO ai).bind fun x18=>F.Rule_number x18).bind fun x20=>RE.ok (decide (x20<p17.1))).bind fun k24=>if k24=true then RE.ok true else (((unO ai).bind fun x21=>F.Rule_number x21).bind fun x23=>RE.ok (decide (p17.2<x23)))
def F.Ways_fits (ae:KK) (ac:PuzT) (ai:Option RuleT) (aj:List Nat × Int × Int × Int × (List Int)):RE Bool:=
 (RE.ok (decide (aj.2.2.2.2=[]))).bind fun k5=>if k5=true then ((RE.ok ai.isSome).bind fun k4=>if k4=true then (((unO ai).bind fun x1=>F.Rule_spots x1).bind fun x3=>RE.ok (decide (aj.2.2.1∈x3))) else RE.ok false) else RE.ok false
def F.Ways_strikes (ae:KK) (ac:PuzT) (ag:List Int) (ai:Option RuleT) (aj:List Nat × Int × Int × Int × (List Int)):RE Bool:=
 ((unO ai).bind fun x1=>(RE.ok aj.2.2.1).bind fun x2=>F.others_of x1 x2).bind fun aG=>((RE.ok aG).bind fun x4=>gd (leB x4.length) (lcE (fun(am:Int)=>(RE.ok true)) (fun(am:Int)=>((atE ag am).bind fun x3=>F.signs_in x3)) x4)).bind fun bn=>(RE.ok (1:Int)).bind fun aL=>((RE.ok bn).bind fun y43=>qak (fun(a9:List Int) (s5:Int)=>(qgB s5 (List.length a9:Int)).bind fun aL=>RE.ok aL) y43 aL).bind fun(p6:Int)=>(RE.ok (decide (32<p6))).bind fun k7=>if k7=true then (RE.ok false) else (((qaH (List.length ag:Int)).bind fun x8=>gd (leB x8.length) (RE.ok (List.map (fun(ab:Int)=>0) x8))).bind fun aq=>(qi3 aq aj.2.2.1 aj.2.2.2.1).bind fun aq=>Fl.bR ((qaH p6).bind fun y42=>qaD (fun(ay:Int) (s24:List Int)=>(((RE.ok (List.zip aG bn)).bind fun y40=>qak (fun(p30:Int × (List Int)) (s29:(List Int) × Int)=>(((RE.ok p30.2).bind fun x31=>(qhw s29.2 (List.length p30.2:Int)).bind fun x32=>atE x31 x32).bind fun x33=>(RE.ok p30.1).bind fun x34=>qi3 s29.1 x34 x33).bind fun aq=>(qiX s29.2 (List.length p30.2:Int)).bind fun ay=>RE.ok (aq,ay)) y40 (s24,ay)).bind fun(p35:(List Int) × Int)=>((unO ai).bind fun x37=>(RE.ok p35.1).bind fun x36=>F.m_holds x37 x36).bind fun k38=>if k38=true then (RE.ok (.rt false)) else (RE.ok (.nx p35.1)):RE (Fl (Bool) (List Int)))) y42 aq) fun(p41:List Int)=>RE.ok true)
def F.square_at (ac:PuzT) (bu:Int):RE (List Int):=
 Fl.bR (((F.Puzzle_place ac).bind fun x1=>F.squares x1).bind fun y11=>qaD (fun(aM:List Int) (s5:Unit)=>(((atE aM 0).bind fun x6=>RE.ok (decide (x6=bu))).bind fun k8=>if k8=true then (RE.ok (.rt aM)) else (RE.ok (.nx ())):RE (Fl (List Int) (Unit)))) y11 ()) fun(p10:Unit)=>RE.ok []
def F.Square_fits (ae:KK) (ac:PuzT) (ai:Option RuleT) (aj:List Nat × Int × Int × Int × (List Int)):RE Bool:=
 ((RE.ok ai.isNone).bind fun k9=>if k9=true then RE.ok true else ((((unO ai).bind fun x1=>F.m_name x1).bind fun x2=>RE.ok (!decide (x2=([110,111,115,113,117,97,114,101])))).bind fun k8=>if k8=true then RE.ok true else ((((unO ai).bind fun x4=>F.Rule_sign x4).bind fun x5=>RE.ok (!decide (x5=aj.2.2.2.1))).bind fun k7=>if k7=true then RE.ok true else (RE.ok (!decide ((List.length aj.2.2.2.2:Int)=1)))))).bind fun k10=>if k10=true then (RE.ok false) else (((RE.ok ac).bind fun x11=>(atE aj.2.2.2.2 0).bind fun x12=>F.square_at x11 x12).bind fun x14=>RE.ok (decide (aj.2.2.1∈x14)))
def F.Square_strikes (ae:KK) (ac:PuzT) (ag:List Int) (ai:Option RuleT) (aj:List Nat × Int × Int × Int × (List Int)):RE Bool:=
 Fl.bR (((RE.ok ac).bind fun x1=>(atE aj.2.2.2.2 0).bind fun x2=>F.square_at x1 x2).bind fun y16=>qaD (fun(ab:Int) (s8:Unit)=>(((RE.ok (!decide (ab=aj.2.2.1))).bind fun k12=>if k12=true then (((atE ag ab).bind fun x9=>(RE.ok aj.2.2.2.1).bind fun x10=>F.has_only x9 x10).bind fun x11=>RE.ok (!x11)) else RE.ok false).bind fun k13=>if k13=true then (RE.ok (.rt false)) else (RE.ok (.nx ())):RE (Fl (Bool) (Unit)))) y16 ()) fun(p15:Unit)=>RE.ok true
def F.Reach_fits (ae:KK) (ac:PuzT) (ai:Option RuleT) (aj:List Nat × Int × Int × Int × (List Int)):RE Bool:=
 ((RE.ok ai.isNone).bind fun k8=>if k8=true then RE.ok true else ((((unO ai).bind fun x1=>F.m_name x1).bind fun x2=>RE.ok (!decide (x2=([106,111,105,110,101,100])))).bind fun k7=>if k7=true then (((unO ai).bind fun x4=>F.m_name x4).bind fun x5=>RE.ok (!decide (x5=([114,105,110,103])))) else RE.ok false)).bind fun k9=>if k9=true then (RE.ok false) else ((RE.ok (aj.2.2.2.2:List Int)).bind fun a8=>(((((unO ai).bind fun x10=>F.Rule_sign x10).bind fun x11=>RE.ok (decide (x11=aj.2.2.2.1))).bind fun x13=>RE.ok (if x13=true then 1 else 0:Int)).bind fun x15=>RE.ok (2 - x15)).bind fun bo=>((RE.ok (!decide ((List.length a8:Int)=bo))).bind fun k18=>if k18=true then RE.ok true else ((qhf a8).bind fun x16=>RE.ok (!decide (x16=bo)))).bind fun k19=>if k19=true then (RE.ok false) else ((((RE.ok a8).bind fun x24=>gd (leB x24.length) (lcE (fun(aw:Int)=>((RE.ok (decide (aw=aj.2.2.1))).bind fun k23=>if k23=true then RE.ok true else ((RE.ok (decide (aw<0))).bind fun k22=>if k22=true then RE.ok true else ((F.Puzzle_many ac).bind fun x21=>RE.ok (decide (x21≤aw)))))) (fun(aw:Int)=>(RE.ok aw)) x24)).bind fun x25=>RE.ok (List.length x25:Int)).bind fun x26=>RE.ok (decide (x26=0))))
def F.Reach_strikes (ae:KK) (ac:PuzT) (ag:List Int) (ai:Option RuleT) (aj:List Nat × Int × Int × Int × (List Int)):RE Bool:=
 ((unO ai).bind fun x1=>F.Rule_sign x1).bind fun ah=>(RE.ok (aj.2.2.1:Int)).bind fun ab=>(RE.ok (aj.2.2.2.2:List Int)).bind fun a8=>Fl.bR ((RE.ok a8).bind fun y25=>qaD (fun(aw:Int) (s6:Unit)=>((((atE ag aw).bind fun x7=>(RE.ok ah).bind fun x8=>F.has_only x7 x8).bind fun x9=>RE.ok (!x9)).bind fun k10=>if k10=true then (RE.ok (.rt false)) else (RE.ok (.nx ())):RE (Fl (Bool) (Unit)))) y25 ()) fun(p12:Unit)=>((F.may_have ag ah).bind fun x13=>gd (leB x13.length) (RE.ok (List.filter (fun(am:Int)=>!decide (am=ab)) x13))).bind fun aQ=>(RE.ok (decide (ah=aj.2.2.2.1))).bind fun k14=>if k14=true then ((atE a8 0).bind fun x18=>((F.Puzzle_place ac).bind fun x15=>(qeg aQ [ab]).bind fun x16=>(RE.ok ab).bind fun x17=>F.reached x15 x16 x17).bind fun x19=>RE.ok (!decide (x18∈x19))) else ((atE a8 1).bind fun x23=>((F.Puzzle_place ac).bind fun x20=>(RE.ok aQ).bind fun x21=>(atE a8 0).bind fun x22=>F.reached x20 x21 x22).bind fun x24=>RE.ok (!decide (x23∈x24)))
def F.Turn_fits (ae:KK) (ac:PuzT) (ai:Option RuleT) (aj:List Nat × Int × Int × Int × (List Int)):RE Bool:=
 ((RE.ok ai.isNone).bind fun k4=>if k4=true then RE.ok true else (((unO ai).bind fun x1=>F.m_name x1).bind fun x2=>RE.ok (!decide (x2=([114,105,110,103]))))).bind fun k5=>if k5=true then (RE.ok false) else ((RE.ok (decide (aj.2.2.2.2=[]))).bind fun k6=>if k6=true then (((unO ai).bind fun x7=>F.Rule_sign x7).bind fun x8=>RE.ok (decide (x8=aj.2.2.2.1))) else ((RE.ok (decide ((List.length aj.2.2.2.2:Int)=1))).bind fun k14=>if k14=true then ((atE aj.2.2.2.2 0).bind fun x12=>((F.Puzzle_place ac).bind fun x10=>(RE.ok aj.2.2.1).bind fun x11=>F.beside x10 x11).bind fun x13=>RE.ok (decide (x12∈x13))) else RE.ok false))
def F.Turn_strikes (ae:KK) (ac:PuzT) (ag:List Int) (ai:Option RuleT) (aj:List Nat × Int × Int × Int × (List Int)):RE Bool:=
 ((unO ai).bind fun x1=>F.Rule_sign x1).bind fun ah=>(RE.ok (aj.2.2.1:Int)).bind fun aE=>Fl.bR ((RE.ok (!decide (aj.2.2.2.2=[]))).bind fun k2=>if k2=true then ((atE aj.2.2.2.2 0).bind fun aE=>(((atE ag aE).bind fun x7=>(RE.ok ah).bind fun x8=>F.has_only x7 x8).bind fun x9=>RE.ok (!x9)).bind fun k10=>if k10=true then (RE.ok false).bind fun b=>RE.ok (.rt b) else (RE.ok (.nx aE))) else (RE.ok (.nx aE)):RE (Fl (Bool) (Int))) fun p11=>(((F.Puzzle_place ac).bind fun x12=>(RE.ok p11).bind fun x13=>F.beside x12 x13).bind fun x14=>gd (leB x14.length) (RE.ok (List.filter (fun(ab:Int)=>!decide (ab=aj.2.2.1)) x14))).bind fun bp=>(((RE.ok bp).bind fun x17=>gd (leB x17.length) (lcE (fun(ab:Int)=>((atE ag ab).bind fun x15=>(RE.ok ah).bind fun x16=>F.has_only x15 x16)) (fun(ab:Int)=>(RE.ok ab)) x17)).bind fun x18=>RE.ok (List.length x18:Int)).bind fun aR=>(((RE.ok bp).bind fun x21=>gd (leB x21.length) (lcE (fun(ab:Int)=>((atE ag ab).bind fun x19=>(RE.ok ah).bind fun x20=>F.stands x19 x20)) (fun(ab:Int)=>(RE.ok ab)) x21)).bind fun x22=>RE.ok (List.length x22:Int)).bind fun bq=>(RE.ok (decide (aj.2.2.2.2=[]))).bind fun k23=>if k23=true then (RE.ok ((decide (bq<2))||(decide (2<aR)))) else ((RE.ok (decide (ah=aj.2.2.2.1))).bind fun k24=>if k24=true then (RE.ok (decide (2≤aR))) else (RE.ok (decide (bq<2))))
def F.m_fits (r:KK) (a0:PuzT) (a1:Option RuleT) (a2:List Nat × Int × Int × Int × (List Int)):RE Bool:=match r with
 |.clue=>F.Clue_fits r a0 a1 a2
 |.only=>F.Only_fits r a0 a1 a2
 |.place=>F.Place_fits r a0 a1 a2
 |.pair=>F.Pair_fits r a0 a1 a2
 |.count=>F.Count_fits r a0 a1 a2
 |.step=>F.Step_fits r a0 a1 a2
 |.sums=>F.Sums_fits r a0 a1 a2
 |.ways=>F.Ways_fits r a0 a1 a2
 |.square=>F.Square_fits r a0 a1 a2
 |.reach=>F.Reach_fits r a0 a1 a2
 |.turn=>F.Turn_fits r a0 a1 a2
def F.m_strikes (r:KK) (a0:PuzT) (a1:List Int) (a2:Option RuleT) (a3:List Nat × Int × Int × Int × (List Int)):RE Bool:=match r with
 |.clue=>F.Clue_strikes r a0 a1 a2 a3
 |.only=>F.Only_strikes r a0 a1 a2 a3
 |.place=>F.Place_strikes r a0 a1 a2 a3
 |.pair=>F.Pair_strikes r a0 a1 a2 a3
 |.count=>F.Count_strikes r a0 a1 a2 a3
 |.step=>F.Step_strikes r a0 a1 a2 a3
 |.sums=>F.Sums_strikes r a0 a1 a2 a3
 |.ways=>F.Ways_strikes r a0 a1 a2 a3
 |.square=>F.Square_strikes r a0 a1 a2 a3
 |.reach=>F.Reach_strikes r a0 a1 a2 a3
 |.turn=>F.Turn_strikes r a0 a1 a2 a3
def F.m_told_numbers (r:RuleT)  : RE (List Int):=match r.k with
 |.unlike=>F.Rule_told_numbers r
 |.total=>F.Total_told_numbers r
 |.rising=>F.Rule_told_numbers r
 |.seen=>F.Seen_told_numbers r
 |.counted=>F.Counted_told_numbers r
 |.joined=>F.Joined_told_numbers r
 |.nosquare=>F.NoSquare_told_numbers r
 |.ring=>F.Ring_told_numbers r
def F.Rule_line (ae:RuleT):RE (List Nat):=
 (RE.ok [32]).bind fun x5=>(((F.m_name ae).bind fun x1=>RE.ok [x1]).bind fun x3=>((F.m_told_numbers ae).bind fun x2=>gd (leB x2.length) (lcE (fun(ay:Int)=>(RE.ok true)) (fun(ay:Int)=>(qlO ay)) x2)).bind fun x4=>qeg x3 x4).bind fun x6=>qkD x5 x6
def F.Puzzle_lines (ae:PuzT):RE (List (List Nat)):=
 (RE.ok ae.rules).bind fun x1=>gd (leB x1.length) (lcE (fun(ai:RuleT)=>(RE.ok true)) (fun(ai:RuleT)=>(F.Rule_line ai)) x1)
def F.full (al:Int × Int × Int):RE (List Int):=
 ((F.many_cells al).bind qaH).bind fun x4=>gd (leB x4.length) (lcE (fun(ab:Int)=>(RE.ok true)) (fun(ab:Int)=>((F.bit (al.2.2+1)).bind fun x2=>RE.ok (x2 - 1))) x4)
def F.filling_by (ag:List Int):RE (List Int):=
 (RE.ok ([]:List Int)).bind fun aq=>((RE.ok ag).bind fun y9=>qak (fun(aH:Int) (s3:List Int)=>(F.signs_in aH).bind fun a9=>((RE.ok (decide ((List.length a9:Int)=1))).bind fun k4=>if k4=true then (((atE a9 0).bind fun x6=>qbY s3 x6).bind fun aq=>RE.ok aq) else ((qbY s3 0).bind fun aq=>RE.ok aq)).bind fun(p7:List Int)=>RE.ok p7) y9 aq).bind fun(p8:List Int)=>RE.ok p8
def F.many_floors (ac:PuzT):RE Int:=
 (RE.ok (1:Int)).bind fun aL=>((F.Puzzle_clues ac).bind fun y21=>qak (fun(aX:Int) (s7:Int)=>((RE.ok (decide (aX=0))).bind fun k8=>if k8=true then ((((F.Puzzle_place ac).bind fun x15=>RE.ok x15.2.2).bind fun x17=>qgB s7 x17).bind fun aL=>(RE.ok (decide (1024<aL))).bind fun k18=>if k18=true then RE.exc 36 [] else (RE.ok aL)) else (RE.ok s7)).bind fun(p19:Int)=>RE.ok p19) y21 aL).bind fun(p20:Int)=>RE.ok p20
def F.laid (ac:PuzT) (bc:List Int) (ay:Int):RE (List Int):=
 ((F.Puzzle_place ac).bind fun x1=>RE.ok x1.2.2).bind fun a9=>(F.Puzzle_clues ac).bind fun aq=>(((F.Puzzle_many ac).bind qlq).bind fun y35=>qak (fun(ab:Int) (s13:Int × (List Int))=>(((atE s13.2 ab).bind fun x14=>RE.ok (decide (x14=0))).bind fun k16=>if k16=true then ((((((atE bc ab).bind fun x25=>RE.ok (x25+s13.1)).bind fun x27=>qhw x27 a9).bind fun x30=>RE.ok (1+x30)).bind fun x31=>(RE.ok ab).bind fun x32=>qi3 s13.2 x32 x31).bind fun aq=>(qiX s13.1 a9).bind fun ay=>RE.ok (ay,aq)) else (RE.ok (s13.1,s13.2))).bind fun(p33:Int × (List Int))=>RE.ok (p33.1,p33.2)) y35 (ay,aq)).bind fun(p34:Int × (List Int))=>RE.ok p34.2
def F.answers (ac:PuzT) (bv:Int):RE (List (List Int)):=
 (((F.Puzzle_many ac).bind qaH).bind fun x2=>gd (leB x2.length) (RE.ok (List.map (fun(ab:Int)=>0) x2))).bind fun bc=>(RE.ok ([]:List (List Int))).bind fun af=>Fl.bR (((F.many_floors ac).bind qaH).bind fun y11=>qaD (fun(ay:Int) (s6:List (List Int))=>((F.laid ac bc ay).bind fun aq=>(F.Puzzle_meets ac aq).bind fun k7=>if k7=true then ((qbY s6 aq).bind fun af=>(RE.ok (decide ((List.length af:Int)=bv))).bind fun k8=>if k8=true then (RE.ok (.rt af)) else (RE.ok (.nx af))) else (RE.ok (.nx s6)):RE (Fl (List (List Int)) (List (List Int))))) y11 af) fun(p10:List (List Int))=>RE.ok p10
def F.struck (ag:List Int) (ab:Int) (ah:Int):RE (List Int):=
 (RE.ok (ag:List Int)).bind fun af=>(((atE af ab).bind fun x1=>(RE.ok ah).bind fun x2=>F.stands x1 x2).bind fun k3=>if k3=true then ((((atE af ab).bind fun x8=>(F.bit ah).bind fun x9=>RE.ok (x8 - x9)).bind fun x10=>(RE.ok ab).bind fun x11=>qi3 af x11 x10).bind fun af=>RE.ok af) else (RE.ok af)).bind fun(p12:List Int)=>RE.ok p12
def F.clashes (ag:List Int):RE Bool:=
 RE.ok (decide (0∈ag))
def F.is_settled (ag:List Int):RE Bool:=
 ((RE.ok ag).bind fun x4=>gd (leB x4.length) (lcE (fun(aH:Int)=>(RE.ok true)) (fun(aH:Int)=>(((F.signs_in aH).bind fun x1=>RE.ok (List.length x1:Int)).bind fun x2=>RE.ok (decide (x2=1)))) x4)).bind fun x5=>RE.ok (List.all x5 id)
def F.ways (ag:List Int):RE Int:=
 (RE.ok (1:Int)).bind fun bf=>((RE.ok ag).bind fun y11=>qak (fun(aH:Int) (s5:Int)=>(((F.signs_in aH).bind fun x7=>RE.ok (List.length x7:Int)).bind fun x9=>qgB s5 x9).bind fun bf=>RE.ok bf) y11 bf).bind fun(p10:Int)=>RE.ok p10
def F.Puzzle_clued (ae:PuzT) (aI:List Int):RE PuzT:=
 (RE.ok ae.ground).bind fun x2=>((F.Puzzle_lines ae).bind fun x1=>RE.ok ((List.map (eS)) x1)).bind fun x3=>(RE.ok aI).bind fun x4=>F.Puzzle_new x2 x3 x4
def F.Kind_mores (ae:KK) (ac:PuzT) (ag:List Int) (ai:Option RuleT) (ab:Int) (ah:Int):RE (List (List Int)):=
 RE.ok [[]]
def F.Only_mores (ae:KK) (ac:PuzT) (ag:List Int) (ai:Option RuleT) (ab:Int) (ah:Int):RE (List (List Int)):=
 (((unO ai).bind fun x1=>(RE.ok ab).bind fun x2=>F.others_of x1 x2).bind fun x3=>RE.ok (qc3 x3)).bind fun x4=>gd (leB x4.length) (RE.ok (List.map (fun(am:Int)=>[am]) x4))
def F.Place_mores (ae:KK) (ac:PuzT) (ag:List Int) (ai:Option RuleT) (ab:Int) (ah:Int):RE (List (List Int)):=
 ((RE.ok 1).bind fun x4=>(((F.Puzzle_place ac).bind fun x1=>RE.ok x1.2.2).bind fun x2=>RE.ok (x2+1)).bind fun x5=>qhB x4 x5).bind fun x6=>gd (leB x6.length) (RE.ok (List.map (fun(am:Int)=>[am]) x6))
def F.Pair_mores (ae:KK) (ac:PuzT) (ag:List Int) (ai:Option RuleT) (ab:Int) (ah:Int):RE (List (List Int)):=
 ((unO ai).bind fun x1=>(RE.ok ab).bind fun x2=>F.others_of x1 x2).bind fun aG=>(RE.ok ([]:List (List Int))).bind fun af=>((qaH (List.length aG:Int)).bind fun y23=>qak (fun(aJ:Int) (s12:List (List Int))=>((RE.ok (qeX aG (some (aJ+1)) none)).bind fun y21=>qak (fun(am:Int) (s16:List (List Int))=>(((atE aG aJ).bind fun x17=>(RE.ok am).bind fun x18=>RE.ok [x17,x18]).bind fun x19=>qbY s16 x19).bind fun af=>RE.ok af) y21 s12).bind fun(p20:List (List Int))=>RE.ok p20) y23 af).bind fun(p22:List (List Int))=>RE.ok (qfj p22)
def F.must_have (ag:List Int) (ah:Int):RE (List Int):=
 (qaH (List.length ag:Int)).bind fun x3=>gd (leB x3.length) (lcE (fun(ab:Int)=>((atE ag ab).bind fun x1=>(RE.ok ah).bind fun x2=>F.has_only x1 x2)) (fun(ab:Int)=>(RE.ok ab)) x3)
def F.Square_mores (ae:KK) (ac:PuzT) (ag:List Int) (ai:Option RuleT) (ab:Int) (ah:Int):RE (List (List Int)):=
 ((F.Puzzle_place ac).bind fun x1=>F.squares x1).bind fun x3=>gd (leB x3.length) (lcE (fun(aM:List Int)=>(RE.ok (decide (ab∈aM)))) (fun(aM:List Int)=>((atE aM 0).bind fun x2=>RE.ok [x2])) x3)
def F.Reach_mores (ae:KK) (ac:PuzT) (ag:List Int) (ai:Option RuleT) (ab:Int) (ah:Int):RE (List (List Int)):=
 (((RE.ok ag).bind fun x2=>((unO ai).bind fun x1=>F.Rule_sign x1).bind fun x3=>F.must_have x2 x3).bind fun x4=>gd (leB x4.length) (RE.ok (List.filter (fun(am:Int)=>!decide (am=ab)) x4))).bind fun aR=>(((unO ai).bind fun x5=>F.Rule_sign x5).bind fun x7=>RE.ok (decide (ah=x7))).bind fun k8=>if k8=true then ((RE.ok aR).bind fun x9=>gd (leB x9.length) (RE.ok (List.map (fun(am:Int)=>[am]) x9))) else ((RE.ok (qeX aR (some 1) none)).bind fun x12=>gd (leB x12.length) (lcE (fun(am:Int)=>(RE.ok true)) (fun(am:Int)=>((atE aR 0).bind fun x10=>(RE.ok am).bind fun x11=>RE.ok [x10,x11])) x12))
def F.Turn_mores (ae:KK) (ac:PuzT) (ag:List Int) (ai:Option RuleT) (ab:Int) (ah:Int):RE (List (List Int)):=
 (((F.Puzzle_place ac).bind fun x1=>(RE.ok ab).bind fun x2=>F.beside x1 x2).bind fun x3=>gd (leB x3.length) (RE.ok (List.map (fun(am:Int)=>[am]) x3))).bind fun x5=>qeg [[]] x5
def F.kinds_by (aW:List (List Nat)):RE (List KK):=
 F.all_kinds.bind fun x3=>gd (leB x3.length) (lcE (fun(aC:KK)=>((F.m_word aC).bind fun x1=>evC .isin (eS x1) ((eL eS) aW))) (fun(aC:KK)=>(RE.ok aC)) x3)
def F.m_mores (r:KK) (a0:PuzT) (a1:List Int) (a2:Option RuleT) (a3:Int) (a4:Int):RE (List (List Int)):=match r with
 |.clue=>F.Kind_mores r a0 a1 a2 a3 a4
 |.only=>F.Only_mores r a0 a1 a2 a3 a4
 |.place=>F.Place_mores r a0 a1 a2 a3 a4
 |.pair=>F.Pair_mores r a0 a1 a2 a3 a4
 |.count=>F.Kind_mores r a0 a1 a2 a3 a4
 |.step=>F.Kind_mores r a0 a1 a2 a3 a4
 |.sums=>F.Kind_mores r a0 a1 a2 a3 a4
 |.ways=>F.Kind_mores r a0 a1 a2 a3 a4
 |.square=>F.Square_mores r a0 a1 a2 a3 a4
 |.reach=>F.Reach_mores r a0 a1 a2 a3 a4
 |.turn=>F.Turn_mores r a0 a1 a2 a3 a4
def F.thought_at (ac:PuzT) (ag:List Int) (aC:KK) (ay:Int) (ab:Int):RE (Option (List Nat × Int × Int × Int × (List Int))):=
 (RE.ok (():Unit)).bind fun ai=>(((F.Puzzle_many_rules ac).bind fun x2=>RE.ok (decide (ay<x2))).bind fun k3=>if k3=true then ((F.Puzzle_rule_at ac ay).bind fun ai=>RE.ok (some ai)) else (RE.ok (none:Option RuleT))).bind fun(p4:Option RuleT)=>Fl.bR (((atE ag ab).bind fun x5=>F.signs_in x5).bind fun y44=>qaD (fun(ah:Int) (s24:Unit)=>(Fl.bF ((F.m_mores aC ac ag p4 ab ah).bind fun y42=>qaD (fun(a8:List Int) (s32:Unit)=>(((F.m_word aC).bind fun x33=>(RE.ok ay).bind fun x34=>(RE.ok ab).bind fun x35=>(RE.ok ah).bind fun x36=>(RE.ok a8).bind fun x37=>RE.ok (x33,x34,x35,x36,x37)).bind fun aj=>((F.m_fits aC ac p4 aj).bind fun k38=>if k38=true then (F.m_strikes aC ac ag p4 aj) else RE.ok false).bind fun k39=>if k39=true then (RE.ok (.rt (some aj))) else (RE.ok (.nx ())):RE (Fl (Option (List Nat × Int × Int × Int × (List Int))) (Unit)))) y42 ()) fun(p41:Unit)=>RE.ok (.nx ()):RE (Fl (Option (List Nat × Int × Int × Int × (List Int))) (Unit)))) y44 ()) fun(p43:Unit)=>RE.ok (none:Option (List Nat × Int × Int × Int × (List Int)))
def F.first_of (ac:PuzT) (ag:List Int) (aC:KK) (ay:Int) (aF:List Int):RE (Option (List Nat × Int × Int × Int × (List Int))):=
 Fl.bR ((RE.ok aF).bind fun y6=>qaD (fun(ab:Int) (s2:Unit)=>((F.thought_at ac ag aC ay ab).bind fun af=>(RE.ok af.isSome).bind fun k3=>if k3=true then (RE.ok (.rt af)) else (RE.ok (.nx ())):RE (Fl (Option (List Nat × Int × Int × Int × (List Int))) (Unit)))) y6 ()) fun(p5:Unit)=>RE.ok (none:Option (List Nat × Int × Int × Int × (List Int)))
def F.is_for (aC:KK) (ai:RuleT):RE Bool:=
 ((F.m_word aC).bind fun x1=>qmK qcm false x1).bind fun k5=>if k5=true then RE.ok true else ((F.m_name ai).bind fun x3=>((F.m_word aC).bind fun x2=>ql3 qcm x2).bind fun x4=>qkP x3 x4)
def F.next_thought (ac:PuzT) (ag:List Int) (aP:List (List Nat)):RE (Option (List Nat × Int × Int × Int × (List Int))):=
 (F.clashes ag).bind fun k1=>if k1=true then (RE.ok (none:Option (List Nat × Int × Int × Int × (List Int)))) else (Fl.bR ((F.kinds_by aP).bind fun y113=>qaD (fun(aC:KK) (s39:Unit)=>((RE.ok (():Unit)).bind fun af=>(((F.m_word aC).bind fun x40=>(atE qam 0).bind fun x41=>RE.ok (decide (x40=x41))).bind fun k42=>if k42=true then (((RE.ok ac).bind fun x77=>(RE.ok ag).bind fun x78=>(RE.ok aC).bind fun x79=>(RE.ok 0).bind fun x80=>((F.Puzzle_many ac).bind qaH).bind fun x81=>F.first_of x77 x78 x79 x80 x81).bind fun af=>RE.ok af) else ((((F.Puzzle_many_rules ac).bind qaH).bind fun y108=>qak (fun(ay:Int) (s91:Option (List Nat × Int × Int × Int × (List Int)))=>(F.Puzzle_rule_at ac ay).bind fun ai=>(((RE.ok s91.isNone).bind fun k92=>if k92=true then (F.is_for aC ai) else RE.ok false).bind fun k93=>if k93=true then (((RE.ok ac).bind fun x101=>(RE.ok ag).bind fun x102=>(RE.ok aC).bind fun x103=>(RE.ok ay).bind fun x104=>((F.Rule_spots ai).bind fun x100=>RE.ok (qc3 x100)).bind fun x105=>F.first_of x101 x102 x103 x104 x105).bind fun af=>RE.ok af) else (RE.ok s91)).bind fun(p106:Option (List Nat × Int × Int × Int × (List Int)))=>RE.ok p106) y108 (none:Option (List Nat × Int × Int × Int × (List Int)))).bind fun(p107:Option (List Nat × Int × Int × Int × (List Int)))=>RE.ok p107)).bind fun(p109:Option (List Nat × Int × Int × Int × (List Int)))=>(RE.ok p109.isSome).bind fun k110=>if k110=true then (RE.ok (.rt p109)) else (RE.ok (.nx ())):RE (Fl (Option (List Nat × Int × Int × Int × (List Int))) (Unit)))) y113 ()) fun(p112:Unit)=>RE.ok (none:Option (List Nat × Int × Int × Int × (List Int))))
def F.think (ac:PuzT) (ag:List Int) (aP:List (List Nat)):RE ((List Int) × (List (List Nat × Int × Int × Int × (List Int)))):=
 (RE.ok (ag:List Int)).bind fun ao=>(RE.ok ([]:List (List Nat × Int × Int × Int × (List Int)))).bind fun aA=>Fl.bR (qj1 (fun(s8:(List Int) × (List (List Nat × Int × Int × Int × (List Int))))=>((F.clashes s8.1).bind fun x9=>RE.ok (!x9))) (fun(s8:(List Int) × (List (List Nat × Int × Int × Int × (List Int))))=>((F.next_thought ac s8.1 aP).bind fun aj=>(RE.ok aj.isNone).bind fun k10=>if k10=true then (RE.ok (.bk (s8.1,s8.2))) else (((RE.ok s8.1).bind fun x13=>((unO aj).bind fun x11=>RE.ok x11.2.2.1).bind fun x14=>((unO aj).bind fun x12=>RE.ok x12.2.2.2.1).bind fun x15=>F.struck x13 x14 x15).bind fun ao=>((unO aj).bind fun x16=>qbY s8.2 x16).bind fun aA=>RE.ok (.nx (ao,aA))):RE (Fl ((List Int) × (List (List Nat × Int × Int × Int × (List Int)))) ((List Int) × (List (List Nat × Int × Int × Int × (List Int))))))) qjV (ao,aA)) fun(p17:(List Int) × (List (List Nat × Int × Int × Int × (List Int))))=>RE.ok (p17.1,p17.2)
def F.settles (ac:PuzT) (aP:List (List Nat)):RE Bool:=
 (((RE.ok ac).bind fun x2=>((F.Puzzle_place ac).bind fun x1=>F.full x1).bind fun x3=>(RE.ok aP).bind fun x4=>F.think x2 x3 x4).bind fun x5=>RE.ok x5.1).bind fun ao=>(F.is_settled ao).bind fun k8=>if k8=true then ((RE.ok ac).bind fun x7=>(F.filling_by ao).bind fun x6=>F.Puzzle_meets x7 x6) else RE.ok false
def F.with_only (ag:List Int) (ab:Int) (ah:Int):RE (List Int):=
 (RE.ok (ag:List Int)).bind fun ao=>((qle 1 (ah - 1)).bind fun x1=>(RE.ok ab).bind fun x2=>qi3 ao x2 x1).bind fun ao=>RE.ok ao
def F.first_open (ag:List Int):RE Int:=
 Fl.bR ((qaH (List.length ag:Int)).bind fun y14=>qaD (fun(ab:Int) (s6:Unit)=>(((((atE ag ab).bind fun x7=>F.signs_in x7).bind fun x8=>RE.ok (List.length x8:Int)).bind fun x9=>RE.ok (decide (1<x9))).bind fun k11=>if k11=true then (RE.ok (.rt ab)) else (RE.ok (.nx ())):RE (Fl (Int) (Unit)))) y14 ()) fun(p13:Unit)=>RE.ok 0
def F.answers_in__1 (ac:PuzT) (ag:List Int):RE (List (List Int)):=
 ((F.think ac ag qam).bind fun x1=>RE.ok x1.1).bind fun ao=>(F.clashes ao).bind fun k2=>if k2=true then (RE.ok []) else ((F.is_settled ao).bind fun k3=>if k3=true then ((F.filling_by ao).bind fun x4=>RE.ok [x4]) else ((F.first_open ao).bind fun ab=>(RE.ok ([]:List (List Int))).bind fun af=>(((atE ao ab).bind fun x5=>F.signs_in x5).bind fun y17=>qak (fun(ah:Int) (s9:List (List Int))=>((RE.ok (decide ((List.length s9:Int)<2))).bind fun k10=>if k10=true then (((RE.bad:RE (List (List Int))).bind fun x14=>qeg s9 x14).bind fun af=>RE.ok af) else (RE.ok s9)).bind fun(p15:List (List Int))=>RE.ok p15) y17 af).bind fun(p16:List (List Int))=>RE.ok p16))
def F.answers_in__2 (ac:PuzT) (ag:List Int):RE (List (List Int)):=
 ((F.think ac ag qam).bind fun x1=>RE.ok x1.1).bind fun ao=>(F.clashes ao).bind fun k2=>if k2=true then (RE.ok []) else ((F.is_settled ao).bind fun k3=>if k3=true then ((F.filling_by ao).bind fun x4=>RE.ok [x4]) else ((F.first_open ao).bind fun ab=>(RE.ok ([]:List (List Int))).bind fun af=>(((atE ao ab).bind fun x5=>F.signs_in x5).bind fun y23=>qak (fun(ah:Int) (s11:List (List Int))=>((RE.ok (decide ((List.length s11:Int)<2))).bind fun k12=>if k12=true then ((((RE.ok ac).bind fun x17=>(F.with_only ao ab ah).bind fun x18=>F.answers_in__1 x17 x18).bind fun x20=>qeg s11 x20).bind fun af=>RE.ok af) else (RE.ok s11)).bind fun(p21:List (List Int))=>RE.ok p21) y23 af).bind fun(p22:List (List Int))=>RE.ok p22))
def F.answers_in__3 (ac:PuzT) (ag:List Int):RE (List (List Int)):=
 ((F.think ac ag qam).bind fun x1=>RE.ok x1.1).bind fun ao=>(F.clashes ao).bind fun k2=>if k2=true then (RE.ok []) else ((F.is_settled ao).bind fun k3=>if k3=true then ((F.filling_by ao).bind fun x4=>RE.ok [x4]) else ((F.first_open ao).bind fun ab=>(RE.ok ([]:List (List Int))).bind fun af=>(((atE ao ab).bind fun x5=>F.signs_in x5).bind fun y23=>qak (fun(ah:Int) (s11:List (List Int))=>((RE.ok (decide ((List.length s11:Int)<2))).bind fun k12=>if k12=true then ((((RE.ok ac).bind fun x17=>(F.with_only ao ab ah).bind fun x18=>F.answers_in__2 x17 x18).bind fun x20=>qeg s11 x20).bind fun af=>RE.ok af) else (RE.ok s11)).bind fun(p21:List (List Int))=>RE.ok p21) y23 af).bind fun(p22:List (List Int))=>RE.ok p22))
def F.answers_in__4 (ac:PuzT) (ag:List Int):RE (List (List Int)):=
 ((F.think ac ag qam).bind fun x1=>RE.ok x1.1).bind fun ao=>(F.clashes ao).bind fun k2=>if k2=true then (RE.ok []) else ((F.is_settled ao).bind fun k3=>if k3=true then ((F.filling_by ao).bind fun x4=>RE.ok [x4]) else ((F.first_open ao).bind fun ab=>(RE.ok ([]:List (List Int))).bind fun af=>(((atE ao ab).bind fun x5=>F.signs_in x5).bind fun y23=>qak (fun(ah:Int) (s11:List (List Int))=>((RE.ok (decide ((List.length s11:Int)<2))).bind fun k12=>if k12=true then ((((RE.ok ac).bind fun x17=>(F.with_only ao ab ah).bind fun x18=>F.answers_in__3 x17 x18).bind fun x20=>qeg s11 x20).bind fun af=>RE.ok af) else (RE.ok s11)).bind fun(p21:List (List Int))=>RE.ok p21) y23 af).bind fun(p22:List (List Int))=>RE.ok p22))
def F.answers_in__5 (ac:PuzT) (ag:List Int):RE (List (List Int)):=
 ((F.think ac ag qam).bind fun x1=>RE.ok x1.1).bind fun ao=>(F.clashes ao).bind fun k2=>if k2=true then (RE.ok []) else ((F.is_settled ao).bind fun k3=>if k3=true then ((F.filling_by ao).bind fun x4=>RE.ok [x4]) else ((F.first_open ao).bind fun ab=>(RE.ok ([]:List (List Int))).bind fun af=>(((atE ao ab).bind fun x5=>F.signs_in x5).bind fun y23=>qak (fun(ah:Int) (s11:List (List Int))=>((RE.ok (decide ((List.length s11:Int)<2))).bind fun k12=>if k12=true then ((((RE.ok ac).bind fun x17=>(F.with_only ao ab ah).bind fun x18=>F.answers_in__4 x17 x18).bind fun x20=>qeg s11 x20).bind fun af=>RE.ok af) else (RE.ok s11)).bind fun(p21:List (List Int))=>RE.ok p21) y23 af).bind fun(p22:List (List Int))=>RE.ok p22))
def F.supposed__1 (ac:PuzT) (ag:List Int) (ab:Int) (ah:Int):RE D:=
 ((RE.ok ([115,117,112,112,111,115,101])).bind fun x1=>(RE.ok 0).bind fun x2=>(RE.ok ab).bind fun x3=>(RE.ok ah).bind fun x4=>(RE.bad:RE (List D)).bind fun x5=>RE.ok (x1,x2,x3,x4,x5)).bind fun x6=>RE.ok (((eT5 eS eI eI eI (eL eD))) x6)
def F.refuted__1 (ac:PuzT) (ag:List Int):RE (List D):=
 ((F.think ac ag qam).bind (qeR eI (eT5 eS eI eI eI (eL eI)))).bind fun p1=>(F.clashes p1.1).bind fun k2=>if k2=true then (RE.ok (List.map ((eT5 eS eI eI eI (eL eI))) p1.2)) else ((F.first_open p1.1).bind fun ab=>(((atE p1.1 ab).bind fun x3=>F.signs_in x3).bind fun y8=>qak (fun(ah:Int) (s5:List D)=>((F.supposed__1 ac p1.1 ab ah).bind fun x6=>qbY s5 x6).bind fun aA=>RE.ok aA) y8 (List.map ((eT5 eS eI eI eI (eL eI))) p1.2)).bind fun(p7:List D)=>RE.ok p7)
def F.supposed__2 (ac:PuzT) (ag:List Int) (ab:Int) (ah:Int):RE D:=
 ((RE.ok ([115,117,112,112,111,115,101])).bind fun x3=>(RE.ok 0).bind fun x4=>(RE.ok ab).bind fun x5=>(RE.ok ah).bind fun x6=>((RE.ok ac).bind fun x1=>(F.with_only ag ab ah).bind fun x2=>F.refuted__1 x1 x2).bind fun x7=>RE.ok (x3,x4,x5,x6,x7)).bind fun x8=>RE.ok (((eT5 eS eI eI eI (eL eD))) x8)
def F.refuted__2 (ac:PuzT) (ag:List Int):RE (List D):=
 ((F.think ac ag qam).bind (qeR eI (eT5 eS eI eI eI (eL eI)))).bind fun p1=>(F.clashes p1.1).bind fun k2=>if k2=true then (RE.ok (List.map ((eT5 eS eI eI eI (eL eI))) p1.2)) else ((F.first_open p1.1).bind fun ab=>(((atE p1.1 ab).bind fun x3=>F.signs_in x3).bind fun y8=>qak (fun(ah:Int) (s5:List D)=>((F.supposed__2 ac p1.1 ab ah).bind fun x6=>qbY s5 x6).bind fun aA=>RE.ok aA) y8 (List.map ((eT5 eS eI eI eI (eL eI))) p1.2)).bind fun(p7:List D)=>RE.ok p7)
def F.supposed__3 (ac:PuzT) (ag:List Int) (ab:Int) (ah:Int):RE D:=
 ((RE.ok ([115,117,112,112,111,115,101])).bind fun x3=>(RE.ok 0).bind fun x4=>(RE.ok ab).bind fun x5=>(RE.ok ah).bind fun x6=>((RE.ok ac).bind fun x1=>(F.with_only ag ab ah).bind fun x2=>F.refuted__2 x1 x2).bind fun x7=>RE.ok (x3,x4,x5,x6,x7)).bind fun x8=>RE.ok (((eT5 eS eI eI eI (eL eD))) x8)
def F.refuted__3 (ac:PuzT) (ag:List Int):RE (List D):=
 ((F.think ac ag qam).bind (qeR eI (eT5 eS eI eI eI (eL eI)))).bind fun p1=>(F.clashes p1.1).bind fun k2=>if k2=true then (RE.ok (List.map ((eT5 eS eI eI eI (eL eI))) p1.2)) else ((F.first_open p1.1).bind fun ab=>(((atE p1.1 ab).bind fun x3=>F.signs_in x3).bind fun y8=>qak (fun(ah:Int) (s5:List D)=>((F.supposed__3 ac p1.1 ab ah).bind fun x6=>qbY s5 x6).bind fun aA=>RE.ok aA) y8 (List.map ((eT5 eS eI eI eI (eL eI))) p1.2)).bind fun(p7:List D)=>RE.ok p7)
def F.supposed__4 (ac:PuzT) (ag:List Int) (ab:Int) (ah:Int):RE D:=
 ((RE.ok ([115,117,112,112,111,115,101])).bind fun x3=>(RE.ok 0).bind fun x4=>(RE.ok ab).bind fun x5=>(RE.ok ah).bind fun x6=>((RE.ok ac).bind fun x1=>(F.with_only ag ab ah).bind fun x2=>F.refuted__3 x1 x2).bind fun x7=>RE.ok (x3,x4,x5,x6,x7)).bind fun x8=>RE.ok (((eT5 eS eI eI eI (eL eD))) x8)
def F.refuted__4 (ac:PuzT) (ag:List Int):RE (List D):=
 ((F.think ac ag qam).bind (qeR eI (eT5 eS eI eI eI (eL eI)))).bind fun p1=>(F.clashes p1.1).bind fun k2=>if k2=true then (RE.ok (List.map ((eT5 eS eI eI eI (eL eI))) p1.2)) else ((F.first_open p1.1).bind fun ab=>(((atE p1.1 ab).bind fun x3=>F.signs_in x3).bind fun y8=>qak (fun(ah:Int) (s5:List D)=>((F.supposed__4 ac p1.1 ab ah).bind fun x6=>qbY s5 x6).bind fun aA=>RE.ok aA) y8 (List.map ((eT5 eS eI eI eI (eL eI))) p1.2)).bind fun(p7:List D)=>RE.ok p7)
def F.supposed__5 (ac:PuzT) (ag:List Int) (ab:Int) (ah:Int):RE D:=
 ((RE.ok ([115,117,112,112,111,115,101])).bind fun x3=>(RE.ok 0).bind fun x4=>(RE.ok ab).bind fun x5=>(RE.ok ah).bind fun x6=>((RE.ok ac).bind fun x1=>(F.with_only ag ab ah).bind fun x2=>F.refuted__4 x1 x2).bind fun x7=>RE.ok (x3,x4,x5,x6,x7)).bind fun x8=>RE.ok (((eT5 eS eI eI eI (eL eD))) x8)
def F.refuted__5 (ac:PuzT) (ag:List Int):RE (List D):=
 ((F.think ac ag qam).bind (qeR eI (eT5 eS eI eI eI (eL eI)))).bind fun p1=>(F.clashes p1.1).bind fun k2=>if k2=true then (RE.ok (List.map ((eT5 eS eI eI eI (eL eI))) p1.2)) else ((F.first_open p1.1).bind fun ab=>(((atE p1.1 ab).bind fun x3=>F.signs_in x3).bind fun y8=>qak (fun(ah:Int) (s5:List D)=>((F.supposed__5 ac p1.1 ab ah).bind fun x6=>qbY s5 x6).bind fun aA=>RE.ok aA) y8 (List.map ((eT5 eS eI eI eI (eL eI))) p1.2)).bind fun(p7:List D)=>RE.ok p7)
def F.answers_in (ac:PuzT) (ag:List Int):RE (List (List Int)):=
 ((F.think ac ag qam).bind fun x1=>RE.ok x1.1).bind fun ao=>(F.clashes ao).bind fun k2=>if k2=true then (RE.ok []) else ((F.is_settled ao).bind fun k3=>if k3=true then ((F.filling_by ao).bind fun x4=>RE.ok [x4]) else ((F.first_open ao).bind fun ab=>(RE.ok ([]:List (List Int))).bind fun af=>(((atE ao ab).bind fun x5=>F.signs_in x5).bind fun y23=>qak (fun(ah:Int) (s11:List (List Int))=>((RE.ok (decide ((List.length s11:Int)<2))).bind fun k12=>if k12=true then ((((RE.ok ac).bind fun x17=>(F.with_only ao ab ah).bind fun x18=>F.answers_in__5 x17 x18).bind fun x20=>qeg s11 x20).bind fun af=>RE.ok af) else (RE.ok s11)).bind fun(p21:List (List Int))=>RE.ok p21) y23 af).bind fun(p22:List (List Int))=>RE.ok p22))
def F.supposed (ac:PuzT) (ag:List Int) (ab:Int) (ah:Int):RE D:=
 ((RE.ok ([115,117,112,112,111,115,101])).bind fun x3=>(RE.ok 0).bind fun x4=>(RE.ok ab).bind fun x5=>(RE.ok ah).bind fun x6=>((RE.ok ac).bind fun x1=>(F.with_only ag ab ah).bind fun x2=>F.refuted__5 x1 x2).bind fun x7=>RE.ok (x3,x4,x5,x6,x7)).bind fun x8=>RE.ok (((eT5 eS eI eI eI (eL eD))) x8)
def F.refuted (ac:PuzT) (ag:List Int):RE (List D):=
 ((F.think ac ag qam).bind (qeR eI (eT5 eS eI eI eI (eL eI)))).bind fun p1=>(F.clashes p1.1).bind fun k2=>if k2=true then (RE.ok (List.map ((eT5 eS eI eI eI (eL eI))) p1.2)) else ((F.first_open p1.1).bind fun ab=>(((atE p1.1 ab).bind fun x3=>F.signs_in x3).bind fun y8=>qak (fun(ah:Int) (s5:List D)=>((F.supposed ac p1.1 ab ah).bind fun x6=>qbY s5 x6).bind fun aA=>RE.ok aA) y8 (List.map ((eT5 eS eI eI eI (eL eI))) p1.2)).bind fun(p7:List D)=>RE.ok p7)
def F.left_alone (ac:PuzT) (ag:List Int) (br:List Int):RE (List D):=
 (RE.ok (ag:List Int)).bind fun ao=>(RE.ok ([]:List D)).bind fun aA=>((qaH (List.length br:Int)).bind fun y43=>qak (fun(ab:Int) (s21:(List Int) × (List D))=>(((atE s21.1 ab).bind fun x22=>F.signs_in x22).bind fun y41=>qak (fun(ah:Int) (s30:(List Int) × (List D))=>((((atE br ab).bind fun x32=>RE.ok (!decide (ah=x32))).bind fun k35=>if k35=true then ((atE s30.1 ab).bind fun x33=>(RE.ok ah).bind fun x34=>F.stands x33 x34) else RE.ok false).bind fun k36=>if k36=true then (((F.supposed ac s30.1 ab ah).bind fun x38=>qbY s30.2 x38).bind fun aA=>(F.struck s30.1 ab ah).bind fun ao=>RE.ok (ao,aA)) else (RE.ok (s30.1,s30.2))).bind fun(p39:(List Int) × (List D))=>RE.ok (p39.1,p39.2)) y41 (s21.1,s21.2)).bind fun(p40:(List Int) × (List D))=>RE.ok (p40.1,p40.2)) y43 (ao,aA)).bind fun(p42:(List Int) × (List D))=>RE.ok p42.2
def F.solve (ac:PuzT):RE D:=
 ((RE.ok ac).bind fun x2=>((F.Puzzle_place ac).bind fun x1=>F.full x1).bind fun x3=>(RE.ok qam).bind fun x4=>F.think x2 x3 x4).bind fun p5=>(F.clashes p5.1).bind fun k6=>if k6=true then (RE.ok ((eT2 eS (eL (eT5 eS eI eI eI (eL eI)))) ([110,111,110,101],p5.2))) else (((F.ways p5.1).bind fun x7=>RE.ok (decide (32<x7))).bind fun k9=>if k9=true then (RE.ok ((eT3 eS (eL eI) (eL (eT5 eS eI eI eI (eL eI)))) ([114,101,115,116,115],p5.1,p5.2))) else ((F.answers_in ac p5.1).bind fun af=>(RE.ok (decide ((List.length af:Int)=0))).bind fun k10=>if k10=true then (((RE.ok ([110,111,110,101])).bind fun x13=>((F.refuted ac p5.1).bind fun x12=>qeg (List.map ((eT5 eS eI eI eI (eL eI))) p5.2) x12).bind fun x14=>RE.ok (x13,x14)).bind fun x15=>RE.ok (((eT2 eS (eL eD))) x15)) else ((RE.ok (decide (1<(List.length af:Int)))).bind fun k16=>if k16=true then (((RE.ok ([116,119,111])).bind fun x17=>(atE af 0).bind fun x18=>(atE af 1).bind fun x19=>RE.ok (x17,x18,x19)).bind fun x20=>RE.ok (((eT3 eS (eL eI) (eL eI))) x20)) else (((RE.ok ([111,110,101])).bind fun x26=>(atE af 0).bind fun x27=>(((RE.ok ac).bind fun x21=>(RE.ok p5.1).bind fun x22=>(atE af 0).bind fun x23=>F.left_alone x21 x22 x23).bind fun x25=>qeg (List.map ((eT5 eS eI eI eI (eL eI))) p5.2) x25).bind fun x28=>RE.ok (x26,x27,x28)).bind fun x29=>RE.ok (((eT3 eS (eL eI) (eL eD))) x29)))))
def F.without (aI:List Int) (ab:Int):RE (List Int):=
 (RE.ok (aI:List Int)).bind fun bg=>(qi3 bg ab 0).bind fun bg=>RE.ok bg
def F.taken (ac:PuzT) (bt:List Int) (aP:List (List Nat)):RE (Option ((List Int) × (List (Int × (List Int))))):=
 ((F.settles ac aP).bind fun x1=>RE.ok (!x1)).bind fun k2=>if k2=true then (RE.ok (none:Option ((List Int) × (List (Int × (List Int)))))) else ((F.Puzzle_clues ac).bind fun aI=>((RE.ok bt).bind fun y62=>qak (fun(ab:Int) (s11:List Int)=>((((atE s11 ab).bind fun x12=>RE.ok (!decide (x12=0))).bind fun k18=>if k18=true then (((RE.ok ac).bind fun x15=>(F.without s11 ab).bind fun x14=>F.Puzzle_clued x15 x14).bind fun x16=>(RE.ok aP).bind fun x17=>F.settles x16 x17) else RE.ok false).bind fun k19=>if k19=true then ((F.without s11 ab).bind fun aI=>RE.ok aI) else (RE.ok s11)).bind fun(p20:List Int)=>RE.ok p20) y62 aI).bind fun(p21:List Int)=>(RE.ok ([]:List (Int × (List Int)))).bind fun bh=>((qkM bt).bind fun y61=>qak (fun(ab:Int) (s35:List (Int × (List Int)))=>(((atE p21 ab).bind fun x36=>RE.ok (!decide (x36=0))).bind fun k38=>if k38=true then (((RE.ok ac).bind fun x50=>(F.without p21 ab).bind fun x49=>F.Puzzle_clued x50 x49).bind fun bw=>(((RE.ok ab).bind fun x56=>(((RE.ok bw).bind fun x52=>((F.Puzzle_place ac).bind fun x51=>F.full x51).bind fun x53=>(RE.ok aP).bind fun x54=>F.think x52 x53 x54).bind fun x55=>RE.ok x55.1).bind fun x57=>RE.ok (x56,x57)).bind fun x58=>qbY s35 x58).bind fun bh=>RE.ok bh) else (RE.ok s35)).bind fun(p59:List (Int × (List Int)))=>RE.ok p59) y61 bh).bind fun(p60:List (Int × (List Int)))=>RE.ok (some (p21,p60)))
def F.other_answer (af:D) (ab:Int) (ah:Int):RE D:=
 (((qgm af 1).bind fun x1=>(RE.ok ab).bind fun x2=>qgm x1 x2).bind fun x3=>evC .ne (eD x3) (eI ah)).bind fun k5=>if k5=true then (qgm af 1) else (qgm af 2)
def F.least (ac:PuzT):RE D:=
 (((F.solve ac).bind fun x1=>(RE.ok 0).bind fun x2=>qgm x1 x2).bind fun x3=>evC .ne (eD x3) (eS ([111,110,101]))).bind fun k5=>if k5=true then (RE.exc 37 []) else ((F.Puzzle_clues ac).bind fun aI=>(RE.ok ([]:List (Int × D))).bind fun aG=>Fl.bR ((RE.ok (qku aI)).bind fun y54=>qaD (fun(p33:Int × Int) (s32:List (Int × D))=>((RE.ok (!decide (p33.2=0))).bind fun k34=>if k34=true then ((((RE.ok ac).bind fun x36=>(F.without aI p33.1).bind fun x35=>F.Puzzle_clued x36 x35).bind fun x37=>F.solve x37).bind fun af=>((qgm af 0).bind fun x38=>evC .eq (eD x38) (eS ([111,110,101]))).bind fun k40=>if k40=true then ((((RE.ok ([115,112,97,114,101])).bind fun x41=>(RE.ok p33.1).bind fun x42=>(qgm af 2).bind fun x43=>RE.ok (x41,x42,x43)).bind fun x44=>RE.ok (((eT3 eS eI eD)) x44)).bind fun x45=>RE.ok (.rt x45)) else (((qgm af 0).bind fun x46=>evC .eq (eD x46) (eS ([114,101,115,116,115]))).bind fun k48=>if k48=true then (RE.ok (.rt ((eT2 eS eI) ([114,101,115,116,115],p33.1)))) else ((((RE.ok p33.1).bind fun x50=>(F.other_answer af p33.1 p33.2).bind fun x51=>RE.ok (x50,x51)).bind fun x52=>qbY s32 x52).bind fun aG=>RE.ok (.nx aG)))) else (RE.ok (.nx s32)):RE (Fl (D) (List (Int × D))))) y54 aG) fun(p53:List (Int × D))=>RE.ok ((eT2 eS (eL (eT2 eI eD))) ([108,101,97,115,116],p53)))
end Cm
namespace Cm
section
variable {α β γ σ:Type}
def W (m:RE α) (Q:α→Prop):Prop:=∃v,m=.ok v∧Q v
theorem W.ok {v:α} {Q:α→Prop} (h:Q v):W (.ok v) Q:=⟨v,rfl,h⟩
theorem W.of {m:RE α} {v:α} {Q:α→Prop} (e:m=.ok v) (h:Q v):W m Q:=⟨v,e,h⟩
theorem W.bind {m:RE α} {f:α→RE β} {P:α→Prop} {Q:β→Prop} (h:W m P) (k:∀v,P v→W (f v) Q):W (m.bind f) Q:=by
 obtain⟨v,e,h⟩:=h;rw[e];exact k v h
theorem W.mono {m:RE α} {P Q:α→Prop} (h:W m P) (k:∀v,P v→Q v):W m Q:=by
 obtain⟨v,e,h⟩:=h;exact⟨v,e,k v h⟩
theorem W.eq {m:RE α} {v:α} (h:W m fun x=>x=v):m=.ok v:=by obtain⟨w,e,rfl⟩:=h;exact e
theorem W.get {m:RE α} {v:α} {Q:α→Prop} (h:W m Q) (e:m=.ok v):Q v:=by
 obtain⟨w,e',h⟩:=h;rw[e] at e';cases e';exact h
theorem qlF {b:Bool} {r:RE α} (h:b=true):gd b r=r:=by rw[h];rfl
@[simp] theorem qmz {b:β} {k:σ→RE β}:Fl.bR (.ok (.rt b)) k=.ok b:=rfl
@[simp] theorem ql1 {s:σ} {k:σ→RE β}:Fl.bR (.ok (.nx s)) k=k s:=rfl
@[simp] theorem qmc {b:β} {τ:Type} {k:σ→RE (Fl β τ)}:Fl.bF (.ok (.rt b)) k=.ok (.rt b):=rfl
@[simp] theorem ql4 {s:σ} {τ:Type} {k:σ→RE (Fl β τ)}:Fl.bF (.ok (.nx s)) k=k s:=rfl
theorem qca {xs:List α} {k:Int} {v:α} (h0:0≤k) (h:xs[k.toNat]? = some v):atE xs k=.ok v:=by
 have hl:k.toNat<xs.length:=by
  rcases Nat.lt_or_ge k.toNat xs.length with h' | h'
  ·exact h'
  ·rw[List.getElem?_eq_none h'] at h;cases h
 unfold atE L2.atI
 have:L2.ixN xs.length k=some k.toNat:=by
  have:=qih hl
  rwa [show((k.toNat:Nat):Int)=k from by omega] at this
 rw[this]
 show(match xs[k.toNat]? with
  |some x=>RE.ok x
  |none=>.bad)=_
 rw[h]
def gI (xs:List Int) (k:Int):Int:=xs.getD k.toNat 0
theorem qiH {xs:List Int} {k:Int} (h0:0≤k) (h1:k<xs.length):atE xs k=.ok (gI xs k):=by
 refine qca h0 ?_
 rw[gI,List.getD_eq_getElem?_getD,List.getElem?_eq_getElem (by omega)];rfl
@[simp] theorem qmq {x:α} {xs:List α}:atE (x::xs) 0=.ok x:=qca (by decide) rfl
@[simp] theorem qmB {x y:α} {xs:List α}:atE (x::y::xs) 1=.ok y:=qca (by decide) rfl
@[simp] theorem qmr {x y z:α} {xs:List α}:atE (x::y::z::xs) 2=.ok z:=qca (by decide) rfl
@[simp] theorem qmG {x y z u:α} {xs:List α}:atE (x::y::z::u::xs) 3=.ok u:=qca (by decide) rfl
theorem qhx {x y:Int} (h:x.natAbs≤18446744073709551615):qgB x y=.ok (x*y):=qlF (qhr (by rw[Nat.ble_eq];exact h))
theorem qfp {x y:Int} (h0:y≠0):qhw x y=.ok (x.fmod y):=qlF (qlQ h0)
def qnd (n:Nat):List Int:=(List.range n).map fun(i:Nat)=>(i:Int)
def qjX (i j:Int):List Int:=qck i 1 (j - i).toNat
theorem qdB (a:Int) {n:Int} (h:0<n):0≤a.fmod n∧a.fmod n<n:=by
 rw[Int.fmod_eq_emod_of_nonneg _ (Int.le_of_lt h)]
 exact⟨Int.emod_nonneg _ (by omega),Int.emod_lt_of_pos _ h⟩
theorem qjm {p:Prop} [Decidable p] {x y:α}:(if decide p=true then x else y)=if p then x else y:=by
 by_cases h:p<;>simp[h]
end
end Cm
namespace Cm
structure FOk (fl:Int × Int × Int):Prop where
 h1:1≤fl.1
 h2:fl.1≤6
 w1:1≤fl.2.1
 w2:fl.2.1≤6
 n:fl.1*fl.2.1≤16
 s1:1≤fl.2.2
 s2:fl.2.2≤6
abbrev nC (fl:Int × Int × Int):Int:=fl.1*fl.2.1
section
variable {fl:Int × Int × Int}
theorem FOk.n1 (h:FOk fl):1≤nC fl:=by
 have:=Int.mul_le_mul h.h1 h.w1 (by decide) (by have:=h.h1;omega)
 simpa using this
def qjS (fl:Int × Int × Int) (c:Int):List Int:=(if 0<c / fl.2.1 then [c - fl.2.1] else [])++(if 0<c % fl.2.1 then [c - 1] else [])++(if c % fl.2.1<fl.2.1 - 1 then [c+1] else [])++(if c / fl.2.1<fl.1 - 1 then [c+fl.2.1] else [])
abbrev inC (fl:Int × Int × Int) (c:Int):Prop:=0≤c∧c<nC fl
end
def stB (m s:Int):Bool:=m.toNat.testBit (s - 1).toNat
def hoB (m s:Int):Bool:=decide (m.toNat ||| 2 ^ (s - 1).toNat=2 ^ (s - 1).toNat)
def sgn (m:Int):List Int:=(qjX 1 7).filter (stB m)
def MOk (fl:Int × Int × Int) (ms:List Int):Prop:=(ms.length:Int)=nC fl∧∀m∈ms,0≤m∧m<64
theorem qje {ms:List Int} {k:Int} (h0:0≤k) (h1:k<ms.length):gI ms k∈ms:=by
 unfold gI
 rw[List.getD_eq_getElem?_getD,List.getElem?_eq_getElem (by omega)]
 exact List.getElem_mem (by omega)
theorem MOk.at_ {fl:Int × Int × Int} {ms:List Int} (h:MOk fl ms) {c:Int} (hc:inC fl c):atE ms c=.ok (gI ms c):=qiH hc.1 (by have:=hc.2;have:=h.1;omega)
theorem MOk.b {fl:Int × Int × Int} {ms:List Int} (h:MOk fl ms) {c:Int} (hc:inC fl c):0≤gI ms c∧gI ms c<64:=h.2 _ (qje hc.1 (by have:=hc.2;have:=h.1;omega))
end Cm
namespace Cm
def dg (n:Nat):List Nat:=if n<10 then [48+n] else [48+n / 10,48+n % 10]
def dgI (n:Int):List Nat:=dg n.toNat
def isI (r:RE Int) (n:Nat):Bool:=match r with
 |.ok (.ofNat m)=>Nat.beq m n
 |_=>false
theorem qfB:∀{n:Nat} {cs:List Int},cs.Nodup→(∀c∈cs,0≤c∧c<n)→cs.length≤n
 |0,[],_,_=>Nat.le_refl _
 |0,c::cs,_,h=>by have:=h c (by simp);omega
 |n+1,cs,hn,h=>by
  have ih:=qfB (n:=n) (cs:=cs.erase n) (hn.erase _) fun c hc=>by
   have h1:=(List.Nodup.mem_erase_iff hn).mp hc
   have:=h c h1.2
   have:=h1.1
   omega
  by_cases hm:(n:Int)∈cs
  ·have:=List.length_erase_of_mem hm
   omega
  ·rw[List.erase_of_not_mem hm] at ih
   omega
structure CsOk (fl:Int × Int × Int) (cs:List Int):Prop where
 ne:cs≠[]
 nd:cs.Nodup
 inn:∀c∈cs,inC fl c
theorem CsOk.len {fl:Int × Int × Int} {cs:List Int} (h:CsOk fl cs) (hf:FOk fl):cs.length≤16:=by
 have:=qfB (n:=(nC fl).toNat) h.nd fun c hc=>by have q:=h.inn c hc;have q1:=q.1;have q2:=q.2;exact⟨q1,by omega⟩
 have:=hf.n
 have:=hf.n1
 have e:nC fl=fl.1*fl.2.1:=rfl
 omega
def qm5 (w:List Nat) (ns:List Int):List Nat:=TL.joinL [32] (w::ns.map dgI)
def qlK:List (List Nat):=[[117,110,108,105,107,101],[115,117,109],[114,105,115,105,110,103],[115,101,101,110],[99,111,117,110,116],[106,111,105,110,101,100],[110,111,115,113,117,97,114,101],[114,105,110,103]]
def qlD (fl:Int × Int × Int) (w:List Nat) (ns:List Int):RE RuleT:=
 if w∈[[106,111,105,110,101,100],[110,111,115,113,117,97,114,101],[114,105,110,103]] then F.whole_rule fl w ns
 else if w=[117,110,108,105,107,101] then (F.cells_told fl ns).bind fun cs=>.ok (RuleT.mk .unlike fl cs 0 0)
 else if w=[114,105,115,105,110,103] then (F.cells_told fl ns).bind fun cs=>.ok (RuleT.mk .rising fl cs 0 0)
 else if w=[99,111,117,110,116] then (F.sign_told fl ns 1).bind fun s=>(F.cells_told fl (qeX ns (some 2) none)).bind fun cs=>(atE ns 0).bind fun n=>.ok (RuleT.mk .counted fl cs n s)
 else (F.cells_told fl (qeX ns (some 1) none)).bind fun cs=>if w=[115,117,109] then (atE ns 0).bind fun n=>.ok (RuleT.mk .total fl cs n 0) else (atE ns 0).bind fun n=>.ok (RuleT.mk .seen fl cs n 0)
def qlM (fl:Int × Int × Int) (fi:List Int):Prop:=(fi.length:Int)=nC fl∧∀s∈fi,0≤s∧s≤fl.2.2
instance (fl:Int × Int × Int) (fi:List Int):Decidable (qlM fl fi):=by unfold qlM;infer_instance
end Cm
namespace Cm
abbrev TI:=List Nat × Int × Int × Int × List Int
def qlf (p:PuzT) (r:Int):Option RuleT:=if 0≤r∧r<(p.rules.length:Int) then p.rules[r.toNat]? else none
def qm2 (p:PuzT) (c s:Int):Bool:=decide (0≤c∧c<nC p.ground∧1≤s∧s≤p.ground.2.2)
def RK.w:RK→List Nat
 |.unlike=>[117,110,108,105,107,101]
 |.total=>[115,117,109]
 |.rising=>[114,105,115,105,110,103]
 |.seen=>[115,101,101,110]
 |.counted=>[99,111,117,110,116]
 |.joined=>[106,111,105,110,101,100]
 |.nosquare=>[110,111,115,113,117,97,114,101]
 |.ring=>[114,105,110,103]
def rk (o:Option RuleT) (k:RK):Option RuleT:=o.bind fun r=>if r.k=k then some r else none
def qkX (o:Option RuleT) (fl:Int × Int × Int) (c s:Int) (more:List Int):Bool:=match o with
 |none=>false
 |some r=>decide (r.k=.ring)&&(if more=[] then decide (r.sign=s) else decide (more.length=1)&&decide (gI more 0∈qjS fl c))
def qkZ (r:RuleT) (fl:Int × Int × Int) (ms:List Int) (c s:Int) (more:List Int):Bool:=
 let at_:=if more=[] then c else gI more 0
 let near:=(qjS fl at_).filter fun d=>!decide (d=c)
 let must:=(near.filter fun d=>hoB (gI ms d) r.sign).length
 let may:=(near.filter fun d=>stB (gI ms d) r.sign).length
 if more=[] then decide (may<2)||decide (2<must) else hoB (gI ms at_) r.sign&&if r.sign=s then decide (2≤must) else decide (may<2)
end Cm
set_option maxHeartbeats 400000
namespace K02
open Cm
def qgi (ax:List Int) (aJ:Int):RE Int:=
 (RE.ok (decide (aJ<(List.length ax:Int)))).bind fun k1=>if k1=true then (atE ax aJ) else ((RE.ok ((7*aJ)+3:Int)).bind fun aS=>((RE.ok (decide (0<(List.length ax:Int)))).bind fun k2=>if k2=true then ((((((RE.ok ax).bind fun x19=>(qhw aJ (List.length ax:Int)).bind fun x20=>atE x19 x20).bind fun x21=>RE.ok (Int.fmod x21 1000003)).bind fun x23=>qgB x23 (aJ+1)).bind fun x26=>RE.ok (aS+x26)).bind fun aS=>RE.ok aS) else (RE.ok aS)).bind fun(p27:Int)=>((qgB p27 p27).bind fun x28=>RE.ok (Int.fmod x28 999979)).bind fun x30=>RE.ok (x30+(Int.fmod p27 101)))
def qbt (ax:List Int):RE (Int × Int × Int):=
 (((qgi ax 0).bind fun x1=>RE.ok (Int.fmod x1 6)).bind fun x4=>RE.ok (1+x4)).bind fun aK=>(((qgi ax 1).bind fun x7=>((RE.ok 6).bind fun x5=>(qiX 16 aK).bind fun x6=>RE.ok (if x6<x5 then x6 else x5)).bind fun x8=>qhw x7 x8).bind fun x10=>RE.ok (1+x10)).bind fun aO=>(RE.ok aK).bind fun x15=>(RE.ok aO).bind fun x16=>(((qgi ax 2).bind fun x11=>RE.ok (Int.fmod x11 6)).bind fun x14=>RE.ok (1+x14)).bind fun x17=>RE.ok (x15,x16,x17)
def qeC (aw:Int × Int) (am:Int × Int):RE Bool:=
 RE.ok (decide (((if (aw.1 - am.1)<0 then -(aw.1 - am.1) else (aw.1 - am.1))+(if (aw.2 - am.2)<0 then -(aw.2 - am.2) else (aw.2 - am.2)))=1))
def qcW (af:Int):RE Bool:=
 RE.ok (true && !false)
def qd1 (af:List Int) (aD:List Int):RE Bool:=
 (RE.ok (!true||(!decide (af=aD)))).bind fun k1=>if k1=true then (RE.ok false) else ((((RE.ok af).bind fun x2=>gd (leB x2.length) (lcE (fun(aw:Int)=>(qcW aw)) (fun(aw:Int)=>(RE.ok aw)) x2)).bind fun x3=>RE.ok (List.length x3:Int)).bind fun x4=>RE.ok (decide (x4=(List.length aD:Int))))
def qbx (av:Int × Int × Int) (au:List (Int × Int)):RE Bool:=
 Fl.bR ((qaH (List.length au:Int)).bind fun y23=>qaD (fun(ab:Int) (s10:Unit)=>(((qaH (List.length au:Int)).bind fun x13=>gd (leB x13.length) (lcE (fun(am:Int)=>((atE au ab).bind fun x11=>(atE au am).bind fun x12=>qeC x11 x12)) (fun(am:Int)=>(RE.ok am)) x13)).bind fun aD=>(F.beside av ab).bind fun af=>((qd1 af aD).bind fun x14=>RE.ok (!x14)).bind fun k15=>if k15=true then (RE.ok (.rt false)) else ((qbY af ab).bind fun af=>(((F.beside av ab).bind fun x17=>(RE.ok aD).bind fun x18=>qd1 x17 x18).bind fun x19=>RE.ok (!x19)).bind fun k20=>if k20=true then (RE.ok (.rt false)) else (RE.ok (.nx ()))):RE (Fl (Bool) (Unit)))) y23 ()) fun(p22:Unit)=>RE.ok true
def qa9 (av:Int × Int × Int) (au:List (Int × Int)):RE Bool:=
 (RE.ok ([]:List (List Int))).bind fun aD=>((RE.ok au).bind fun y31=>qak (fun(p9:Int × Int) (s8:List (List Int))=>(RE.ok ([(p9.1,p9.2),(p9.1,p9.2+1),(p9.1+1,p9.2),(p9.1+1,p9.2+1)]:List (Int × Int))).bind fun aM=>(((((RE.ok aM).bind fun x10=>gd (leB x10.length) (lcE (fun(aN:Int × Int)=>(evC .isin ((eT2 eI eI) aN) ((eL (eT2 eI eI)) au))) (fun(aN:Int × Int)=>(RE.ok aN)) x10)).bind fun x11=>RE.ok (List.length x11:Int)).bind fun x12=>RE.ok (decide (x12=4))).bind fun k14=>if k14=true then ((((RE.ok aM).bind fun x17=>gd (leB x17.length) (lcE (fun(aN:Int × Int)=>(RE.ok true)) (fun(aN:Int × Int)=>(qg8 (eT2 eI eI) (eT2 eI eI) au aN)) x17)).bind fun x18=>qbY s8 x18).bind fun aD=>RE.ok aD) else (RE.ok s8)).bind fun(p19:List (List Int))=>RE.ok p19) y31 aD).bind fun(p20:List (List Int))=>((F.squares av).bind qhJ).bind fun af=>(((pkM (RE.ok true)).bind fun x21=>RE.ok (!x21)).bind fun k22=>if k22=true then RE.ok true else (pkM (RE.ok (!decide ((List.length af:Int)=(List.length p20:Int)))))).bind fun k23=>if k23=true then (RE.ok false) else (Fl.bR ((RE.ok (p20:List (List Int))).bind fun y28=>rzE (fun(v24:List Int) (v25:List Int)=>((qd1 v24 v25).bind fun x26=>RE.ok (!x26))) 0 y28 af) fun(p27:List (List Int))=>((RE.ok ([]:List Int)).bind fun _=>qkL p27).bind fun(_:Unit)=>(F.squares av).bind fun x29=>evC .eq ((eL (eL eI)) x29) ((eL (eL eI)) p20))
def qfS (ax:List Int):RE Bool:=
 (qbt ax).bind fun av=>(RE.ok ([]:List (Int × Int))).bind fun au=>((qaH av.1).bind fun y8=>qak (fun(aY:Int) (s3:List (Int × Int))=>(((qaH av.2.1).bind fun x4=>gd (leB x4.length) (RE.ok (List.map (fun(aU:Int)=>(aY,aU)) x4))).bind fun x5=>qkn s3 x5).bind fun au=>RE.ok au) y8 au).bind fun(p6:List (Int × Int))=>(qbx av p6).bind fun k7=>if k7=true then (qa9 av p6) else RE.ok false
theorem qcn (ax:List Int) (aJ:Int):Rf (g__law_at [(eL eI) ax,eI aJ]) (qgi ax aJ) eI .v true:=by
 have key:∀q0 q1 q2:Sl,SlV false ((eL eI) ax) q0→SlV true (eI aJ) q1→BR qbI qa4 [q0,q1,q2] (qgi ax aJ) eI .v true:=by
  intro q0 q1 q2 h0 h1;unfold qgi qa4;refine BR.ifR (XT.val (XE.cmpP (XE.var (i:=1) rfl h1) (XE.pri1P (XE.var (i:=0) rfl h0) (qcr _)) (qfg _ _))) ?_ ?_
  ·exact BR.ret (XE.idxFP (XE.var (i:=0) rfl h0) (XE.var (i:=1) rfl h1)) rfl
  refine BR.cons (SN.asg (en:=eI) (fun q2=>[q0,q1,q2]) (XE.binP (XE.binP XE.cint (XE.var (i:=1) rfl h1) (qka _ _ (qhr rfl))) XE.cint (qa2 _ _)) rfl fun _=>rfl) ?_;rintro aS _ ⟨q2,rfl,h2⟩;refine BR.cons (S:=(fun(st:Int) ρ=>∃q2,ρ=[q0,q1,q2]∧SlV true (eI st) q2)) (SN.iff (XT.val (XE.cmpP (XE.pri1P (XE.var (i:=0) rfl h0) (qcr _)) XE.cint (qhS _ _))) ?_ ?_) ?_
  ·refine BN.cons (SN.asg (en:=eI) (fun q2=>[q0,q1,q2]) (XE.binL (XE.var (i:=2) rfl h2) (XE.binR (XE.binR (XE.idxF (XE.var (i:=0) rfl h0) (XE.binP (XE.var (i:=1) rfl h1) (XE.pri1P (XE.var (i:=0) rfl h0) (qcr _)) (qh5 _ _))) XE.cint (fun x=>qdG x _ rfl)) (XE.binP (XE.var (i:=1) rfl h1) XE.cint (qa2 _ _)) (fun x=>qib x _)) (fun y=>qa2 _ y)) rfl fun _=>rfl) ?_;rintro aS _ ⟨q2,rfl,h2⟩;exact BN.nil ⟨_,rfl,h2⟩
  ·exact BN.nil ⟨_,rfl,h2⟩
  rintro p27 _ ⟨q2,rfl,h2⟩;exact BR.ret (XE.binR (XE.binR (XE.binP (XE.var (i:=2) rfl h2) (XE.var (i:=2) rfl h2) (qib _ _)) XE.cint (fun x=>qdG x _ rfl)) (XE.binP (XE.var (i:=2) rfl h2) XE.cint (qdG _ _ rfl)) (fun x=>qa2 x _)) rfl
 exact Rf.run rfl (key _ _ .non SlV.any SlV.flat)
theorem qdw (ax:List Int):Rf (g__law_floor [(eL eI) ax]) (qbt ax) (eT3 eI eI eI) .v true:=by
 have key:∀q0 q1 q2:Sl,SlV false ((eL eI) ax) q0→BR qaO qaw [q0,q1,q2] (qbt ax) (eT3 eI eI eI) .v true:=by
  intro q0 q1 q2 h0;unfold qbt qaw;refine BR.cons (SN.asg (en:=eI) (fun q1=>[q0,q1,q2]) (XE.binL XE.cint (XE.binR (XE.call2P rfl (XE.var (i:=0) rfl h0) XE.cint (qcn ax 0) rfl rfl) XE.cint (fun x=>qdG x _ rfl)) (fun y=>qa2 _ y)) rfl fun _=>rfl) ?_;rintro aK _ ⟨q1,rfl,h1⟩;refine BR.cons (SN.asg (en:=eI) (fun q2=>[q0,q1,q2]) (XE.binL XE.cint (XE.bin (XE.call2P rfl (XE.var (i:=0) rfl h0) XE.cint (qcn ax 1) rfl rfl) (XE.pri2 XE.cint (XE.binP XE.cint (XE.var (i:=1) rfl h1) (qjY _ _)) (fun x y=>qjC x y)) (fun x y=>qh5 x y)) (fun y=>qa2 _ y)) rfl fun _=>rfl) ?_;rintro aO _ ⟨q2,rfl,h2⟩;exact BR.ret (XE.tup3 (XE.var (i:=1) rfl h1) (XE.var (i:=2) rfl h2) (XE.binL XE.cint (XE.binR (XE.call2P rfl (XE.var (i:=0) rfl h0) XE.cint (qcn ax 2) rfl rfl) XE.cint (fun x=>qdG x _ rfl)) (fun y=>qa2 _ y)) rfl) rfl
 exact Rf.run rfl (key _ .non .non SlV.any)
theorem qd6 (aw:Int × Int) (am:Int × Int):Rf (g__law_near [(eT2 eI eI) aw,(eT2 eI eI) am]) (qeC aw am) eB .v true:=by
 have key:∀q0 q1:Sl,SlV true ((eT2 eI eI) aw) q0→SlV true ((eT2 eI eI) am) q1→BR qaZ qaF [q0,q1] (qeC aw am) eB .v true:=by
  intro q0 q1 h0 h1;unfold qeC qaF;exact BR.ret (XE.cmpP (XE.binP (XE.pri1P (XE.binP (XE.prtP (x:=aw) (t2:=true) (f:=fun p=>p.1) (en2:=eI) (XE.var (i:=0) rfl h0) (fun _ _=>rfl) (fun _=>.inl rfl)) (XE.prtP (x:=am) (t2:=true) (f:=fun p=>p.1) (en2:=eI) (XE.var (i:=1) rfl h1) (fun _ _=>rfl) (fun _=>.inl rfl)) (qdg _ _)) (qjZ _)) (XE.pri1P (XE.binP (XE.prtP (x:=aw) (t2:=true) (f:=fun p=>p.2) (en2:=eI) (XE.var (i:=0) rfl h0) (fun _ _=>rfl) (fun _=>.inl rfl)) (XE.prtP (x:=am) (t2:=true) (f:=fun p=>p.2) (en2:=eI) (XE.var (i:=1) rfl h1) (fun _ _=>rfl) (fun _=>.inl rfl)) (qdg _ _)) (qjZ _)) (qa2 _ _)) XE.cint (qiA _ _)) rfl
 exact Rf.run rfl (key _ _  SlV.flat SlV.flat)
theorem qdj (al:Int × Int × Int) (ab:Int):Rf (g_spot_of [(eT3 eI eI eI) al,eI ab]) (F.spot_of al ab) (eT2 eI eI) .v true:=by
 have key:∀q0 q1:Sl,SlV true ((eT3 eI eI eI) al) q0→SlV true (eI ab) q1→BR qbz qbf [q0,q1] (F.spot_of al ab) (eT2 eI eI) .v true:=by
  intro q0 q1 h0 h1;unfold F.spot_of qbf;exact BR.ret (XE.tup2 (XE.binP (XE.var (i:=1) rfl h1) (XE.prtP (x:=al) (t2:=true) (f:=fun p=>p.2.1) (en2:=eI) (XE.var (i:=0) rfl h0) (fun _ _=>rfl) (fun _=>.inl rfl)) (qjY _ _)) (XE.binP (XE.var (i:=1) rfl h1) (XE.prtP (x:=al) (t2:=true) (f:=fun p=>p.2.1) (en2:=eI) (XE.var (i:=0) rfl h0) (fun _ _=>rfl) (fun _=>.inl rfl)) (qh5 _ _)) rfl) rfl
 exact Rf.run rfl (key _ _  SlV.flat SlV.flat)
theorem qeG (al:Int × Int × Int) (ab:Int):Rf (g_beside [(eT3 eI eI eI) al,eI ab]) (F.beside al ab) (eL eI) .f true:=by
 have key:∀q0 q1 q2 q3 q4 q5 q6 q7:Sl,SlV true ((eT3 eI eI eI) al) q0→SlV true (eI ab) q1→BR qb4 qbw [q0,q1,q2,q3,q4,q5,q6,q7] (F.beside al ab) (eL eI) .f true:=by
  intro q0 q1 q2 q3 q4 q5 q6 q7 h0 h1;unfold F.beside qbw;refine BR.cons (SN.asg3 (t3:=true) (t4:=true) (t5:=true) (fun q2 q3 q4=>[q0,q1,q2,q3,q4,q5,q6,q7]) (XE.var (i:=0) rfl h0) (fun _=>.inl rfl) (fun _=>.inl rfl) (fun _=>.inl rfl) (fun _ _ _=>rfl)) ?_;rintro p1 _ ⟨q2,q3,q4,rfl,h2,h3,h4⟩;refine BR.cons (SN.asg2 (t3:=true) (t4:=true) (fun q5 q6=>[q0,q1,q2,q3,q4,q5,q6,q7]) (XE.call2P rfl (XE.var (i:=0) rfl h0) (XE.var (i:=1) rfl h1) (qdj al ab) rfl rfl) (fun _=>.inl rfl) (fun _=>.inl rfl) (fun _ _=>rfl)) ?_;rintro p2 _ ⟨q5,q6,rfl,h5,h6⟩;refine BR.cons (SN.own (en:=eI) (fun q7=>[q0,q1,q2,q3,q4,q5,q6,q7]) (XE.lstL XLs.nil) fun _=>rfl) ?_;rintro af _ ⟨q7,rfl,h7⟩;refine BR.cons (S:=(fun(st:List Int) ρ=>∃q7,ρ=[q0,q1,q2,q3,q4,q5,q6,q7]∧SlO true (List.map eI st) q7)) (SN.iff (XT.val (XE.cmpP (XE.var (i:=5) rfl h5) XE.cint (qhS _ _))) ?_ ?_) ?_
  ·refine BN.cons (SN.appP (en:=eI) (fun q7=>[q0,q1,q2,q3,q4,q5,q6,q7]) (XE.binP (XE.var (i:=1) rfl h1) (XE.var (i:=3) rfl h3) (qdg _ _)) rfl rfl h7 (fun _=>rfl)) ?_;rintro af _ ⟨q7,rfl,h7⟩;exact BN.nil ⟨_,rfl,h7⟩
  ·exact BN.nil ⟨_,rfl,h7⟩
  rintro p4 _ ⟨q7,rfl,h7⟩;refine BR.cons (S:=(fun(st:List Int) ρ=>∃q7,ρ=[q0,q1,q2,q3,q4,q5,q6,q7]∧SlO true (List.map eI st) q7)) (SN.iff (XT.val (XE.cmpP (XE.var (i:=6) rfl h6) XE.cint (qhS _ _))) ?_ ?_) ?_
  ·refine BN.cons (SN.appP (en:=eI) (fun q7=>[q0,q1,q2,q3,q4,q5,q6,q7]) (XE.binP (XE.var (i:=1) rfl h1) XE.cint (qdg _ _)) rfl rfl h7 (fun _=>rfl)) ?_;rintro af _ ⟨q7,rfl,h7⟩;exact BN.nil ⟨_,rfl,h7⟩
  ·exact BN.nil ⟨_,rfl,h7⟩
  rintro p6 _ ⟨q7,rfl,h7⟩;refine BR.cons (S:=(fun(st:List Int) ρ=>∃q7,ρ=[q0,q1,q2,q3,q4,q5,q6,q7]∧SlO true (List.map eI st) q7)) (SN.iff (XT.val (XE.cmpP (XE.var (i:=6) rfl h6) (XE.binP (XE.var (i:=3) rfl h3) XE.cint (qdg _ _)) (qfg _ _))) ?_ ?_) ?_
  ·refine BN.cons (SN.appP (en:=eI) (fun q7=>[q0,q1,q2,q3,q4,q5,q6,q7]) (XE.binP (XE.var (i:=1) rfl h1) XE.cint (qa2 _ _)) rfl rfl h7 (fun _=>rfl)) ?_;rintro af _ ⟨q7,rfl,h7⟩;exact BN.nil ⟨_,rfl,h7⟩
  ·exact BN.nil ⟨_,rfl,h7⟩
  rintro p8 _ ⟨q7,rfl,h7⟩;refine BR.cons (S:=(fun(st:List Int) ρ=>∃q7,ρ=[q0,q1,q2,q3,q4,q5,q6,q7]∧SlO true (List.map eI st) q7)) (SN.iff (XT.val (XE.cmpP (XE.var (i:=5) rfl h5) (XE.binP (XE.var (i:=2) rfl h2) XE.cint (qdg _ _)) (qfg _ _))) ?_ ?_) ?_
  ·refine BN.cons (SN.appP (en:=eI) (fun q7=>[q0,q1,q2,q3,q4,q5,q6,q7]) (XE.binP (XE.var (i:=1) rfl h1) (XE.var (i:=3) rfl h3) (qa2 _ _)) rfl rfl h7 (fun _=>rfl)) ?_;rintro af _ ⟨q7,rfl,h7⟩;exact BN.nil ⟨_,rfl,h7⟩
  ·exact BN.nil ⟨_,rfl,h7⟩
  rintro p10 _ ⟨q7,rfl,h7⟩;exact BR.ret (XE.varO (i:=7) rfl h7) rfl
 exact Rf.run rfl (key _ _ .non .non .non .non .non .non SlV.flat SlV.flat)
theorem qdA (af:Int):Rf (g__law_whole [eI af]) (qcW af) eB .v true:=by
 have key:∀q0:Sl,SlV true (eI af) q0→BR qaM qax [q0] (qcW af) eB .v true:=by
  intro q0 h0;unfold qcW qax;exact BR.ret (XE.bop (XV.andP (XE.isiP (f:=fun _=>true) (XE.var (i:=0) rfl h0) (fun _=>rfl)) (XV.one (XE.bnotP (XE.isiP (f:=fun _=>false) (XE.var (i:=0) rfl h0) (fun _=>rfl)))))) rfl
 exact Rf.run rfl (key _  SlV.flat)
theorem qbT (af:List Int) (aD:List Int):Rf (g__law_are [(eL eI) af,(eL eI) aD]) (qd1 af aD) eB .v true:=by
 have key:∀q0 q1 q2:Sl,SlV false ((eL eI) af) q0→SlV false ((eL eI) aD) q1→BR qbh qaR [q0,q1,q2] (qd1 af aD) eB .v true:=by
  intro q0 q1 q2 h0 h1;unfold qd1 qaR;refine BR.ifR (XT.bop (XTs.orP (XT.notP (XT.val (XE.isiP (f:=fun _=>true) (XE.var (i:=0) rfl h0) (fun _=>rfl)))) (XTs.one (XT.val (XE.cmpP (XE.var (i:=0) rfl h0) (XE.var (i:=1) rfl h1) (qjz _ _)))))) ?_ ?_
  ·exact BR.ret XE.cbl rfl
  exact BR.ret (XE.cmpR (XE.pri1 (XE.lc (t0:=true) (fun q2=>[q0,q1,q2]) (XI.list (XE.var (i:=0) rfl h0) rfl) (fun _=>.inr inferInstance) (fun _=>rfl) (fun aw q2 h2=>(XTs.one (XT.val (XE.call1P rfl (XE.var (i:=2) rfl h2) (qdA aw) rfl rfl)))) (fun aw q2 h2 _=>(XE.var (i:=2) rfl h2)) rfl) (fun x=>qcr x)) (XE.pri1P (XE.var (i:=1) rfl h1) (qcr _)) (fun x=>qiA x _)) rfl
 exact Rf.run rfl (key _ _ .non SlV.any SlV.any)
theorem qdd (av:Int × Int × Int) (au:List (Int × Int)):Rf (g__law_beside [(eT3 eI eI eI) av,(eL (eT2 eI eI)) au]) (qbx av au) eB .v true:=by
 have key:∀q0 q1 q2 q3 q4 q5:Sl,SlV true ((eT3 eI eI eI) av) q0→SlV false ((eL (eT2 eI eI)) au) q1→BR qaC qaq [q0,q1,q2,q3,q4,q5] (qbx av au) eB .v true:=by
  intro q0 q1 q2 q3 q4 q5 h0 h1;unfold qbx qaq;refine BR.consF (S:=(fun(st:Unit) ρ=>∃q2 q3 q5,ρ=[q0,q1,q2,q3,q4,q5])) (SF.for1 (t0:=true) _ (XI.rng (XRg.r1P (XE.pri1P (XE.var (i:=1) rfl h1) (qcr _)))) (fun _=>.inl rfl) ⟨_,_,_,rfl⟩ ?_) ?_
  ·intro ab s10 ρ1 q2 hS h2;obtain⟨_,q3,q5,rfl⟩:=hS;change BF _ _ [q0,q1,q2,q3,q4,q5] _ _ _;refine BF.cons (SN.asg (en:=(eL eI)) (fun q3=>[q0,q1,q2,q3,q4,q5]) (XE.lc (t0:=true) (fun q4=>[q0,q1,q2,q3,q4,q5]) (XI.rng (XRg.r1P (XE.pri1P (XE.var (i:=1) rfl h1) (qcr _)))) (fun _=>.inl rfl) (fun _=>rfl) (fun am q4 h4=>(XTs.one (XT.val (XE.call2 rfl (XE.idxFP (XE.var (i:=1) rfl h1) (XE.var (i:=2) rfl h2)) (XE.idxFP (XE.var (i:=1) rfl h1) (XE.var (i:=4) rfl h4)) (fun x0 x1=>qd6 x0 x1) rfl rfl)))) (fun am q4 h4 _=>(XE.var (i:=4) rfl h4)) rfl) rfl fun _=>rfl) ?_;rintro aD _ ⟨q3,rfl,h3⟩;refine BF.cons (SN.own (en:=eI) (fun q5=>[q0,q1,q2,q3,q4,q5]) (XE.call2P rfl (XE.var (i:=0) rfl h0) (XE.var (i:=2) rfl h2) (qeG av ab) rfl rfl) fun _=>rfl) ?_;rintro af _ ⟨q5,rfl,h5⟩;refine BF.ifX (XT.not (XT.val (XE.call2Pb rfl (XE.varO (i:=5) rfl h5) (XE.var (i:=3) rfl h3) (qbT af aD) rfl rfl qid))) ?_ ?_
   ·exact BR.XP (BR.ret XE.cbl rfl)
   refine BF.cons (SN.appP (en:=eI) (fun q5=>[q0,q1,q2,q3,q4,q5]) (XE.var (i:=2) rfl h2) rfl rfl h5 (fun _=>rfl)) ?_;rintro af _ ⟨q5,rfl,h5⟩;refine BF.ifX (XT.not (XT.val (XE.call2 rfl (XE.call2P rfl (XE.var (i:=0) rfl h0) (XE.var (i:=2) rfl h2) (qeG av ab) rfl rfl) (XE.var (i:=3) rfl h3) (fun x0 x1=>qbT x0 x1) rfl rfl))) ?_ ?_
   ·exact BR.XP (BR.ret XE.cbl rfl)
   exact BF.nil ⟨_,_,_,rfl⟩
  rintro p22 _ ⟨q2,q3,q5,rfl⟩;exact BR.ret XE.cbl rfl
 exact Rf.run rfl (key _ _ .non .non .non .non SlV.flat SlV.any)
theorem qdV (al:Int × Int × Int):Rf (g_many_cells [(eT3 eI eI eI) al]) (F.many_cells al) eI .v true:=by
 have key:∀q0:Sl,SlV true ((eT3 eI eI eI) al) q0→BR qaK qav [q0] (F.many_cells al) eI .v true:=by
  intro q0 h0;unfold F.many_cells qav;exact BR.ret (XE.binP (XE.prtP (x:=al) (t2:=true) (f:=fun p=>p.1) (en2:=eI) (XE.var (i:=0) rfl h0) (fun _ _=>rfl) (fun _=>.inl rfl)) (XE.prtP (x:=al) (t2:=true) (f:=fun p=>p.2.1) (en2:=eI) (XE.var (i:=0) rfl h0) (fun _ _=>rfl) (fun _=>.inl rfl)) (qib _ _)) rfl
 exact Rf.run rfl (key _  SlV.flat)
theorem qdN (al:Int × Int × Int):Rf (g_squares [(eT3 eI eI eI) al]) (F.squares al) (eL (eL eI)) .f true:=by
 have key:∀q0 q1 q2 q3 q4 q5 q6 q7:Sl,SlV true ((eT3 eI eI eI) al) q0→BR qbB qa6 [q0,q1,q2,q3,q4,q5,q6,q7] (F.squares al) (eL (eL eI)) .f true:=by
  intro q0 q1 q2 q3 q4 q5 q6 q7 h0;unfold F.squares qa6;refine BR.cons (SN.asg3 (t3:=true) (t4:=true) (t5:=true) (fun q1 q2 q3=>[q0,q1,q2,q3,q4,q5,q6,q7]) (XE.var (i:=0) rfl h0) (fun _=>.inl rfl) (fun _=>.inl rfl) (fun _=>.inl rfl) (fun _ _ _=>rfl)) ?_;rintro p1 _ ⟨q1,q2,q3,rfl,h1,h2,h3⟩;refine BR.cons (SN.own (en:=(eL eI)) (fun q4=>[q0,q1,q2,q3,q4,q5,q6,q7]) (XE.lstL XLs.nil) fun _=>rfl) ?_;rintro af _ ⟨q4,rfl,h4⟩;refine BR.cons (S:=(fun(st:List (List Int)) ρ=>∃q4 q5 q6 q7,ρ=[q0,q1,q2,q3,q4,q5,q6,q7]∧SlO true (List.map (eL eI) st) q4)) (SN.for1 (t0:=true) _ (XI.rng (XRg.r1 (XE.call1P rfl (XE.var (i:=0) rfl h0) (qdV al) rfl rfl))) (fun _=>.inl rfl) ⟨_,_,_,_,rfl,h4⟩ ?_) ?_
  ·intro ab s5 ρ1 q5 hS h5;obtain⟨q4,_,q6,q7,rfl,h4⟩:=hS;change BL _ _ [q0,q1,q2,q3,q4,q5,q6,q7] _ _;refine BL.cons (SN.asg2 (t3:=true) (t4:=true) (fun q6 q7=>[q0,q1,q2,q3,q4,q5,q6,q7]) (XE.call2P rfl (XE.var (i:=0) rfl h0) (XE.var (i:=5) rfl h5) (qdj al ab) rfl rfl) (fun _=>.inl rfl) (fun _=>.inl rfl) (fun _ _=>rfl)) ?_;rintro p6 _ ⟨q6,q7,rfl,h6,h7⟩;refine BL.cons (S:=(fun(st:List (List Int)) ρ=>∃q4,ρ=[q0,q1,q2,q3,q4,q5,q6,q7]∧SlO true (List.map (eL eI) st) q4)) (SN.iff (XT.bop (XTs.andP (XT.val (XE.cmpP (XE.var (i:=6) rfl h6) (XE.binP (XE.var (i:=1) rfl h1) XE.cint (qdg _ _)) (qfg _ _))) (XTs.one (XT.val (XE.cmpP (XE.var (i:=7) rfl h7) (XE.binP (XE.var (i:=2) rfl h2) XE.cint (qdg _ _)) (qfg _ _)))))) ?_ ?_) ?_
   ·refine BN.cons (SN.appP (en:=(eL eI)) (fun q4=>[q0,q1,q2,q3,q4,q5,q6,q7]) (XE.lstL (en:=eI) (XLs.cons (XE.var (i:=5) rfl h5) rfl (XLs.cons (XE.binP (XE.var (i:=5) rfl h5) XE.cint (qa2 _ _)) rfl (XLs.cons (XE.binP (XE.var (i:=5) rfl h5) (XE.var (i:=2) rfl h2) (qa2 _ _)) rfl (XLs.cons (XE.binP (XE.binP (XE.var (i:=5) rfl h5) (XE.var (i:=2) rfl h2) (qa2 _ _)) XE.cint (qa2 _ _)) rfl XLs.nil))))) rfl rfl h4 (fun _=>rfl)) ?_;rintro af _ ⟨q4,rfl,h4⟩;exact BN.nil ⟨_,rfl,h4⟩
   ·exact BN.nil ⟨_,rfl,h4⟩
   rintro p8 _ ⟨q4,rfl,h4⟩;exact BL.nil ⟨_,_,_,_,rfl,h4⟩
  rintro p9 _ ⟨q4,q5,q6,q7,rfl,h4⟩;exact BR.ret (XE.varO (i:=4) rfl h4) rfl
 exact Rf.run rfl (key _ .non .non .non .non .non .non .non SlV.flat)
theorem qcu (av:Int × Int × Int) (au:List (Int × Int)):Rf (g__law_squares [(eT3 eI eI eI) av,(eL (eT2 eI eI)) au]) (qa9 av au) eB .v true:=by
 have key:∀q0 q1 q2 q3 q4 q5 q6 q7 q8 q9:Sl,SlV true ((eT3 eI eI eI) av) q0→SlV false ((eL (eT2 eI eI)) au) q1→BR qau qan [q0,q1,q2,q3,q4,q5,q6,q7,q8,q9] (qa9 av au) eB .v true:=by
  intro q0 q1 q2 q3 q4 q5 q6 q7 q8 q9 h0 h1;unfold qa9 qan;refine BR.cons (SN.own (en:=(eL eI)) (fun q2=>[q0,q1,q2,q3,q4,q5,q6,q7,q8,q9]) (XE.lstL XLs.nil) fun _=>rfl) ?_;rintro aD _ ⟨q2,rfl,h2⟩;refine BR.cons (S:=(fun(st:List (List Int)) ρ=>∃q2 q3 q4 q5,ρ=[q0,q1,q2,q3,q4,q5,q6,q7,q8,q9]∧SlO true (List.map (eL eI) st) q2)) (SN.for2 (t0:=true) (t0':=true) _ (XI.list (XE.var (i:=1) rfl h1) rfl) (fun _=>.inr inferInstance) (fun _=>.inr inferInstance) ⟨_,_,_,_,rfl,h2⟩ ?_) ?_
  ·intro p9 s8 ρ1 q3 q4 hS h3 h4;obtain⟨q2,_,_,q5,rfl,h2⟩:=hS;change BL _ _ [q0,q1,q2,q3,q4,q5,q6,q7,q8,q9] _ _;refine BL.cons (SN.asg (en:=(eL (eT2 eI eI))) (fun q5=>[q0,q1,q2,q3,q4,q5,q6,q7,q8,q9]) (XE.lstL (en:=(eT2 eI eI)) (XLs.cons (XE.tup2P (XE.var (i:=3) rfl h3) (XE.var (i:=4) rfl h4) rfl) rfl (XLs.cons (XE.tup2P (XE.var (i:=3) rfl h3) (XE.binP (XE.var (i:=4) rfl h4) XE.cint (qa2 _ _)) rfl) rfl (XLs.cons (XE.tup2P (XE.binP (XE.var (i:=3) rfl h3) XE.cint (qa2 _ _)) (XE.var (i:=4) rfl h4) rfl) rfl (XLs.cons (XE.tup2P (XE.binP (XE.var (i:=3) rfl h3) XE.cint (qa2 _ _)) (XE.binP (XE.var (i:=4) rfl h4) XE.cint (qa2 _ _)) rfl) rfl XLs.nil))))) rfl fun _=>rfl) ?_;rintro aM _ ⟨q5,rfl,h5⟩;refine BL.cons (S:=(fun(st:List (List Int)) ρ=>∃q2,ρ=[q0,q1,q2,q3,q4,q5,q6,q7,q8,q9]∧SlO true (List.map (eL eI) st) q2)) (SN.iff (XT.val (XE.cmpR (XE.pri1 (XE.lc (t0:=true) (fun q6=>[q0,q1,q2,q3,q4,q5,q6,q7,q8,q9]) (XI.list (XE.var (i:=5) rfl h5) rfl) (fun _=>.inl rfl) (fun _=>rfl) (fun aN q6 h6=>(XTs.one (XT.val (XE.cmpP (XE.var (i:=6) rfl h6) (XE.var (i:=1) rfl h1) ((qkc .isin ((eT2 eI eI)) ((eL (eT2 eI eI)))) _ _))))) (fun aN q6 h6 _=>(XE.var (i:=6) rfl h6)) rfl) (fun x=>qcr x)) XE.cint (fun x=>qiA x _))) ?_ ?_) ?_
   ·refine BN.cons (SN.app (en:=(eL eI)) (fun q2=>[q0,q1,q2,q3,q4,q5,q6,q7,q8,q9]) (XE.lc (t0:=true) (fun q6=>[q0,q1,q2,q3,q4,q5,q6,q7,q8,q9]) (XI.list (XE.var (i:=5) rfl h5) rfl) (fun _=>.inl rfl) (fun _=>rfl) (fun aN q6 h6=>XTs.nil) (fun aN q6 h6 _=>(XE.inxLP (XE.var (i:=1) rfl h1) (XE.var (i:=6) rfl h6))) rfl) rfl rfl h2 (fun _=>rfl)) ?_;rintro aD _ ⟨q2,rfl,h2⟩;exact BN.nil ⟨_,rfl,h2⟩
   ·exact BN.nil ⟨_,rfl,h2⟩
   rintro p19 _ ⟨q2,rfl,h2⟩;exact BL.nil ⟨_,_,_,_,rfl,h2⟩
  rintro p20 _ ⟨q2,q3,q4,q5,rfl,h2⟩;refine BR.cons (SN.rowc (fun q7=>[q0,q1,q2,q3,q4,q5,q6,q7,q8,q9]) (XE.call1P rfl (XE.var (i:=0) rfl h0) (qdN av) rfl rfl) fun _=>rfl) ?_;rintro af _ ⟨q7,rfl,h7⟩;refine BR.ifR (XT.bop (XTs.or (XT.not (XT.val (XE.pkV (XE.isiP (f:=fun _=>true) (XE.var (i:=7) rfl h7.pk) (fun _=>rfl)) fun _=>rfl))) (XTs.one (XT.val (XE.pkV (XE.cmpP (XE.pri1P (XE.var (i:=7) rfl h7.pk) (qcr _)) (XE.pri1P (XE.varO (i:=2) rfl h2.pk) (qcr _)) (qkC _ _)) fun _=>rfl))))) ?_ ?_
  ·exact BR.ret XE.cbl rfl
  refine BR.frz (en:=(eL eI)) (fun q2=>[q0,q1,q2,q3,q4,q5,q6,q7,q8,q9]) rfl h2 (fun _=>rfl) ?_;intro q2 h2;refine BR.consF (SF.rz (en:=(eL eI)) (tb:=true) (fun(v24:List Int) (v25:List Int)=>((qd1 v24 v25).bind fun x26=>RE.ok (!x26))) (fun q8 q9 q7=>[q0,q1,q2,q3,q4,q5,q6,q7,q8,q9]) (XE.var (i:=2) rfl h2) rfl rfl (fun _ _ _=>rfl) (fun _ _ _ _=>rfl) h7 ?_) ?_
  ·intro v24 v25 q8 q9 _ _ _ h8 h9;exact(XT.not (XT.val (XE.call2P rfl (XE.var (i:=8) rfl h8) (XE.var (i:=9) rfl h9) (qbT v24 v25) rfl rfl)))
  rintro p27 _ ⟨q8,q9,q7,rfl,h7⟩;refine BR.cons (SN.rdr (en2:=(eL eI)) (fun q7=>[q0,q1,q2,q3,q4,q5,q6,q7,q8,q9]) rfl h7 (XE.lstL XLs.nil) fun _=>rfl) ?_;rintro _ _ ⟨q7,rfl⟩;exact BR.ret (XE.cmpR (XE.call1P rfl (XE.var (i:=0) rfl h0) (qdN av) rfl rfl) (XE.var (i:=2) rfl h2) (fun x=>(qkc .eq ((eL (eL eI))) ((eL (eL eI)))) x _)) rfl
 exact Rf.run rfl (key _ _ .non .non .non .non .non .non .non .non SlV.flat SlV.any)
theorem qk1 (ax:List Int):Rf (g_law [(eL eI) ax]) (qfS ax) eB .v true:=by
 have key:∀q0 q1 q2 q3 q4:Sl,SlV false ((eL eI) ax) q0→BR qgW qe8 [q0,q1,q2,q3,q4] (qfS ax) eB .v true:=by
  intro q0 q1 q2 q3 q4 h0;unfold qfS qe8;refine BR.cons (SN.asg (en:=(eT3 eI eI eI)) (fun q1=>[q0,q1,q2,q3,q4]) (XE.call1P rfl (XE.var (i:=0) rfl h0) (qdw ax) rfl rfl) rfl fun _=>rfl) ?_;rintro av _ ⟨q1,rfl,h1⟩;refine BR.cons (SN.own (en:=(eT2 eI eI)) (fun q2=>[q0,q1,q2,q3,q4]) (XE.lstL XLs.nil) fun _=>rfl) ?_;rintro au _ ⟨q2,rfl,h2⟩;refine BR.cons (S:=(fun(st:List (Int × Int)) ρ=>∃q2 q3,ρ=[q0,q1,q2,q3,q4]∧SlO true (List.map (eT2 eI eI) st) q2)) (SN.for1 (t0:=true) _ (XI.rng (XRg.r1P (XE.prtP (x:=av) (t2:=true) (f:=fun p=>p.1) (en2:=eI) (XE.var (i:=1) rfl h1) (fun _ _=>rfl) (fun _=>.inl rfl)))) (fun _=>.inl rfl) ⟨_,_,rfl,h2⟩ ?_) ?_
  ·intro aY s3 ρ1 q3 hS h3;obtain⟨q2,_,rfl,h2⟩:=hS;change BL _ _ [q0,q1,q2,q3,q4] _ _;refine BL.cons (SN.ext (en:=(eT2 eI eI)) (fun q2=>[q0,q1,q2,q3,q4]) ((XE.lc (t0:=true) (fun q4=>[q0,q1,q2,q3,q4]) (XI.rng (XRg.r1P (XE.prtP (x:=av) (t2:=true) (f:=fun p=>p.2.1) (en2:=eI) (XE.var (i:=1) rfl h1) (fun _ _=>rfl) (fun _=>.inl rfl)))) (fun _=>.inl rfl) (fun _=>rfl) (fun aU q4 h4=>XTs.nil) (fun aU q4 h4 _=>(XE.tup2P (XE.var (i:=3) rfl h3) (XE.var (i:=4) rfl h4) rfl)) rfl).cast (qjQ _ _)) rfl h2 (fun _=>rfl)) ?_;rintro au _ ⟨q2,rfl,h2⟩;exact BL.nil ⟨_,_,rfl,h2⟩
  rintro p6 _ ⟨q2,q3,rfl,h2⟩;exact BR.ret (XE.bop (XV.and (XE.call2Pb rfl (XE.var (i:=1) rfl h1) (XE.varO (i:=2) rfl h2) (qdd av p6) rfl rfl qid) (XV.one (XE.call2Pb rfl (XE.var (i:=1) rfl h1) (XE.varO (i:=2) rfl h2) (qcu av p6) rfl rfl qid)))) rfl
 exact Rf.run rfl (key _ .non .non .non .non SlV.any)
end K02
namespace K02
open Cm
def cv (ns:List Int) (k:Int):Int:=match qgi ns k with
 |.ok v=>v
 |_=>0
theorem qir (ns:List Int) {k:Int} (h0:0≤k) (h1:k≤1000):qgi ns k=.ok (cv ns k):=by
 suffices h:W (qgi ns k) fun _=>True by
  obtain⟨v,e,_⟩:=h
  have:cv ns k=v:=by unfold cv;rw[e]
  rw[this];exact e
 unfold qgi
 simp only[RE.bind_ok,qjm]
 by_cases e:k<(ns.length:Int)
 ·rw[if_pos e,qiH h0 e];exact W.ok trivial
 ·rw[if_neg e]
  refine W.bind (P:=fun p:Int=>0≤p∧p≤2000000000) ?_ fun p hp=>?_
  ·by_cases q:(0:Int)<(ns.length:Int)
   ·rw[if_pos q,qfp (by omega)]
    have b:=qdB k q
    simp only[RE.bind_ok]
    rw[qiH b.1 b.2]
    simp only[RE.bind_ok]
    have b2:=qdB (gI ns (k.fmod (ns.length:Int))) (n:=1000003) (by decide)
    generalize (gI ns (k.fmod (ns.length:Int))).fmod 1000003=z at b2
    rw[qhx (by omega)]
    simp only[RE.bind_ok]
    have m0:0≤z*(k+1):=Int.mul_nonneg b2.1 (by omega)
    have m1:z*(k+1)≤1000003*1001:=Int.mul_le_mul (by omega) (by omega) (by omega) (by decide)
    exact W.ok ⟨by omega,by omega⟩
   ·rw[if_neg q]
    exact W.ok ⟨by omega,by omega⟩
  ·rw[qhx (by omega)]
   exact W.ok trivial
theorem qg6 (ns:List Int):∃fl,qbt ns=.ok fl∧FOk fl:=by
 unfold qbt
 simp only[RE.bind_ok,qir ns (k:=0) (by decide) (by decide),qir ns (k:=1) (by decide) (by decide),qir ns (k:=2) (by decide) (by decide)]
 have b1:=qdB (cv ns 0) (n:=6) (by decide)
 have b2:=qdB (cv ns 2) (n:=6) (by decide)
 generalize (cv ns 0).fmod 6=i at b1
 generalize (cv ns 2).fmod 6=j at b2
 generalize cv ns 1=z
 have:i=0∨i=1∨i=2∨i=3∨i=4∨i=5:=by omega
 have go:∀(h m:Int),1≤h→h≤6→1≤m→m≤6→h*m≤16→qiX 16 h=.ok (Int.fdiv 16 h)→(if (Int.fdiv 16 h)<6 then (Int.fdiv 16 h) else 6)=m→∃fl,((((qiX 16 h).bind fun x6=>RE.ok (if x6<6 then x6 else 6)).bind fun x8=>qhw z x8).bind fun x10=>RE.ok (1+x10)).bind (fun aO=>RE.ok (h,aO,1+j))=.ok fl∧FOk fl:=fun h m h1 h6 m1 m6 hm e1 e2=>by
  rw[e1]
  simp only[RE.bind_ok]
  rw[e2,qfp (by omega)]
  have b:=qdB z (n:=m) (by omega)
  refine⟨_,rfl,h1,h6,by show 1≤1+z.fmod m;omega,by show 1+z.fmod m≤6;omega,?_,by show 1≤1+j;omega,by show 1+j≤6;omega⟩
  show h*(1+z.fmod m)≤16
  exact Int.le_trans (Int.mul_le_mul_of_nonneg_left (by omega) (by omega)) hm
 rcases this with e | e | e | e | e | e<;>subst e
 ·exact go 1 6 (by decide) (by decide) (by decide) (by decide) (by decide) rfl rfl
 ·exact go 2 6 (by decide) (by decide) (by decide) (by decide) (by decide) rfl rfl
 ·exact go 3 5 (by decide) (by decide) (by decide) (by decide) (by decide) rfl rfl
 ·exact go 4 4 (by decide) (by decide) (by decide) (by decide) (by decide) rfl rfl
 ·exact go 5 3 (by decide) (by decide) (by decide) (by decide) (by decide) rfl rfl
 ·exact go 6 2 (by decide) (by decide) (by decide) (by decide) (by decide) rfl rfl
end K02
namespace K02
open Cm
def restF (av:Int × Int × Int):RE Bool:=(RE.ok ([]:List (Int × Int))).bind fun au=>((qaH av.1).bind fun y8=>qak (fun(aY:Int) (s3:List (Int × Int))=>(((qaH av.2.1).bind fun x4=>gd (leB x4.length) (RE.ok (List.map (fun(aU:Int)=>(aY,aU)) x4))).bind fun x5=>qkn s3 x5).bind fun au=>RE.ok au) y8 au).bind fun(p6:List (Int × Int))=>(qbx av p6).bind fun k7=>if k7=true then (qa9 av p6) else RE.ok false
theorem qgP (ns:List Int):qfS ns=(qbt ns).bind restF:=rfl
def qkQ (r:RE Bool):Bool:=match r with
 |.ok true=>true
 |_=>false
theorem qhK {r:RE Bool} (h:qkQ r=true):r=.ok true:=by
 unfold qkQ at h
 split at h
 ·rfl
 ·cases h
def qlI:Bool:=(List.range 7).all fun h=>(List.range 7).all fun w=>!decide (1≤h∧1≤w∧h*w≤16)||(List.range 7).all fun s=>qkQ (restF ((h:Int),(w:Int),(s:Int)))
theorem qk2:qlI=true:=by decide +kernel
theorem qhE {fl:Int × Int × Int} (hf:FOk fl):restF fl=.ok true:=by
 obtain⟨h,w,s⟩:=fl
 obtain⟨a1,a2,b1,b2,c,d1,d2⟩:=hf
 simp only at a1 a2 b1 b2 c d1 d2
 obtain⟨h,rfl⟩:∃k:Nat,h=k:=⟨h.toNat,by omega⟩
 obtain⟨w,rfl⟩:∃k:Nat,w=k:=⟨w.toNat,by omega⟩
 obtain⟨s,rfl⟩:∃k:Nat,s=k:=⟨s.toNat,by omega⟩
 have q:=qk2
 unfold qlI at q
 have q:=List.all_eq_true.mp q h (List.mem_range.mpr (by omega))
 have q:=List.all_eq_true.mp q w (List.mem_range.mpr (by omega))
 have cc:h*w≤16:=by exact_mod_cast c
 have e:decide (1≤h∧1≤w∧h*w≤16)=true:=decide_eq_true ⟨by omega,by omega,cc⟩
 rw[e] at q
 simp only[Bool.not_true,Bool.false_or] at q
 exact qhK (List.all_eq_true.mp q s (List.mem_range.mpr (by omega)))
theorem main (ns:List Int) (hn:ns.length≤63):qfS ns=.ok true:=by
 obtain⟨fl,e,hf⟩:=qg6 ns
 rw[qgP,e]
 exact qhE hf
theorem law_true:∀ns:List Int,ns.length≤63→(∀z∈ns,PySem.Builtin.Int.intBits z≤1048576)→∃b,g_law [.lst (ns.map D.int)]=.ok (.val (.bl true) b):=
 fun ns hn _=>qjW (qk1 ns) (main ns hn)
end K02
set_option maxHeartbeats 0
namespace K02
open Cm PySem PySem.Spec PyProof.Rows L2
def FL:Nat→List Str:=fun c=>match c with
 |_=>[]
def GK (K:PySem.W.Frag):Glo:=⟨K,fun c=>match c with
 |_=>0,FL⟩
def qbG:Tb:={ N:=["_law_script","_law_k","_law_mixed"],fn:=[],gc:=[],mn:=[],fs:=[],nw:=[],ck:=[],xk:=[],dc:=[] }
theorem qfE:FnScope qbG.N ["_law_script","_law_k"] (defScope (top 6)):=⟨rfl,rfl,rfl,by decide +kernel,rfl,by decide +kernel,by decide +kernel⟩
theorem qfP:qap qbG (defScope (top 6)) qa4 (defBody (top 6))=true:=by decide +kernel
def qaJ:Tb:={ N:=["_law_script","_law_high","_law_wide"],fn:=[("_law_at",2)],gc:=[],mn:=[],fs:=[],nw:=[],ck:=[],xk:=[],dc:=[] }
theorem qdk:FnScope qaJ.N ["_law_script"] (defScope (top 8)):=⟨rfl,rfl,rfl,by decide +kernel,rfl,by decide +kernel,by decide +kernel⟩
theorem qdX:qap qaJ (defScope (top 8)) qaw (defBody (top 8))=true:=by decide +kernel
def qaU:Tb:={ N:=["_law_one","_law_other"],fn:=[],gc:=[],mn:=[],fs:=[],nw:=[],ck:=[],xk:=[],dc:=[] }
theorem qd2:FnScope qaU.N ["_law_one","_law_other"] (defScope (top 9)):=⟨rfl,rfl,rfl,by decide +kernel,rfl,by decide +kernel,by decide +kernel⟩
theorem qd9:qap qaU (defScope (top 9)) qaF (defBody (top 9))=true:=by decide +kernel
def qbD:Tb:={ N:=["floor","cell"],fn:=[],gc:=[],mn:=[],fs:=[],nw:=[],ck:=[],xk:=[],dc:=[] }
theorem qe6:FnScope qbD.N ["floor","cell"] (defScope (top 2)):=⟨rfl,rfl,rfl,by decide +kernel,rfl,by decide +kernel,by decide +kernel⟩
theorem qfi:qap qbD (defScope (top 2)) qbf (defBody (top 2))=true:=by decide +kernel
def qb6:Tb:={ N:=["floor","cell","high","wide","signs","row","column","found"],fn:=[("spot_of",2)],gc:=[],mn:=[],fs:=[],nw:=[],ck:=[],xk:=[],dc:=[] }
theorem qhe:FnScope qb6.N ["floor","cell"] (defScope (top 3)):=⟨rfl,rfl,rfl,by decide +kernel,rfl,by decide +kernel,by decide +kernel⟩
theorem qgQ:qap qb6 (defScope (top 3)) qbw (defBody (top 3))=true:=by decide +kernel
def qaL:Tb:={ N:=["_law_found"],fn:=[],gc:=[],mn:=[],fs:=[],nw:=[],ck:=[],xk:=[],dc:=[] }
theorem qdE:FnScope qaL.N ["_law_found"] (defScope (top 7)):=⟨rfl,rfl,rfl,by decide +kernel,rfl,by decide +kernel,by decide +kernel⟩
theorem qdl:qap qaL (defScope (top 7)) qax (defBody (top 7))=true:=by decide +kernel
def qbm:Tb:={ N:=["_law_found","_law_due","_law_one"],fn:=[("_law_whole",1)],gc:=[],mn:=[],fs:=[],nw:=[],ck:=[],xk:=[],dc:=[] }
theorem qeO:FnScope qbm.N ["_law_found","_law_due"] (defScope (top 10)):=⟨rfl,rfl,rfl,by decide +kernel,rfl,by decide +kernel,by decide +kernel⟩
theorem qeQ:qap qbm (defScope (top 10)) qaR (defBody (top 10))=true:=by decide +kernel
def qaz:Tb:={ N:=["_law_floor_here","_law_spots","_law_cell","_law_due","_law_other","_law_found"],fn:=[("_law_near",2),("beside",2),("_law_are",2)],gc:=[],mn:=[],fs:=[],nw:=[],ck:=[],xk:=[],dc:=[] }
theorem qc1:FnScope qaz.N ["_law_floor_here","_law_spots"] (defScope (top 11)):=⟨rfl,rfl,rfl,by decide +kernel,rfl,by decide +kernel,by decide +kernel⟩
theorem qcX:qap qaz (defScope (top 11)) qaq (defBody (top 11))=true:=by decide +kernel
def qaN:Tb:={ N:=["floor"],fn:=[],gc:=[],mn:=[],fs:=[],nw:=[],ck:=[],xk:=[],dc:=[] }
theorem qdR:FnScope qaN.N ["floor"] (defScope (top 1)):=⟨rfl,rfl,rfl,by decide +kernel,rfl,by decide +kernel,by decide +kernel⟩
theorem qdr:qap qaN (defScope (top 1)) qav (defBody (top 1))=true:=by decide +kernel
def qbF:Tb:={ N:=["floor","high","wide","signs","found","cell","row","column"],fn:=[("many_cells",1),("spot_of",2)],gc:=[],mn:=[],fs:=[],nw:=[],ck:=[],xk:=[],dc:=[] }
theorem qgg:FnScope qbF.N ["floor"] (defScope (top 4)):=⟨rfl,rfl,rfl,by decide +kernel,rfl,by decide +kernel,by decide +kernel⟩
theorem qgd:qap qbF (defScope (top 4)) qa6 (defBody (top 4))=true:=by decide +kernel
def qas:Tb:={ N:=["_law_floor_here","_law_spots","_law_due","_law_row","_law_column","_law_square","_law_spot","_law_found","_law_one","_law_other"],fn:=[("squares",1),("_law_are",2)],gc:=[],mn:=[],fs:=[],nw:=[],ck:=[],xk:=[],dc:=[] }
theorem qcq:FnScope qas.N ["_law_floor_here","_law_spots"] (defScope (top 12)):=⟨rfl,rfl,rfl,by decide +kernel,rfl,by decide +kernel,by decide +kernel⟩
theorem qcs:qap qas (defScope (top 12)) qan (defBody (top 12))=true:=by decide +kernel
def qg5:Tb:={ N:=["_law_script","_law_floor_here","_law_spots","_law_row","_law_column"],fn:=[("_law_floor",1),("_law_beside",2),("_law_squares",2)],gc:=[],mn:=[],fs:=[],nw:=[],ck:=[],xk:=[],dc:=[] }
theorem qkT:FnScope qg5.N ["_law_script"] (defScope (top 13)):=⟨rfl,rfl,rfl,by decide +kernel,rfl,by decide +kernel,by decide +kernel⟩
theorem qkE:qap qg5 (defScope (top 13)) qe8 (defBody (top 13))=true:=by decide +kernel
section
variable {P:Program} {w:World} {K:PySem.W.Frag} {h:Heap} {mg:Str→Option Value} {base:Heap}
section
variable (c:He.SaysD fa fn K) (cx:qk9 xa K=true) (ct:qlz ts w K) (X:K.In h) (N:h.Ns mainGlobals mg)
include c cx ct X N
theorem qe5:TabOk P w K mg base qbG qbI (GK K) 0:=
 qeY (mts:=[]) (fds:=[]) c X N trivial trivial rfl trivial rfl trivial trivial trivial trivial trivial
theorem qfM:DefAt P w K mg base (GK K) 1 "_law_at" 2 g__law_at:=
 qgh (G:=GK K) (T:=qbG) (Γ:=qbI) (k:=0) (m:=1) (i:=0) (j:=21) (ir:=qa4) (ps:=["_law_script","_law_k"]) (d:=qdW) c X N rfl rfl rfl rfl rfl rfl qfE rfl qfP (fun _ _ _ _ _ _ us hl=>match us,hl with | [_,_],_=>rfl) (qe5 c cx ct X N)
theorem qdJ:TabOk P w K mg base qaJ qaO (GK K) 1:=
 qeY (mts:=[]) (fds:=[]) c X N ⟨(qfM c cx ct X N).mono (by decide),trivial⟩ trivial rfl trivial rfl trivial trivial trivial trivial trivial
theorem qdQ:DefAt P w K mg base (GK K) 2 "_law_floor" 1 g__law_floor:=
 qgh (G:=GK K) (T:=qaJ) (Γ:=qaO) (k:=1) (m:=2) (i:=1) (j:=22) (ir:=qaw) (ps:=["_law_script"]) (d:=qbV) c X N rfl rfl rfl rfl rfl rfl qdk rfl qdX (fun _ _ _ _ _ _ us hl=>match us,hl with | [_],_=>rfl) (qdJ c cx ct X N)
theorem qd7:TabOk P w K mg base qaU qaZ (GK K) 0:=
 qeY (mts:=[]) (fds:=[]) c X N trivial trivial rfl trivial rfl trivial trivial trivial trivial trivial
theorem qea:DefAt P w K mg base (GK K) 1 "_law_near" 2 g__law_near:=
 qgh (G:=GK K) (T:=qaU) (Γ:=qaZ) (k:=0) (m:=0) (i:=2) (j:=23) (ir:=qaF) (ps:=["_law_one","_law_other"]) (d:=qce) c X N rfl rfl rfl rfl rfl rfl qd2 rfl qd9 (fun _ _ _ _ _ _ us hl=>match us,hl with | [_,_],_=>rfl) (qd7 c cx ct X N)
theorem qga:TabOk P w K mg base qbD qbz (GK K) 0:=
 qeY (mts:=[]) (fds:=[]) c X N trivial trivial rfl trivial rfl trivial trivial trivial trivial trivial
theorem qdF:DefAt P w K mg base (GK K) 1 "spot_of" 2 g_spot_of:=
 qgh (G:=GK K) (T:=qbD) (Γ:=qbz) (k:=0) (m:=0) (i:=3) (j:=24) (ir:=qbf) (ps:=["floor","cell"]) (d:=qdp) c X N rfl rfl rfl rfl rfl rfl qe6 rfl qfi (fun _ _ _ _ _ _ us hl=>match us,hl with | [_,_],_=>rfl) (qga c cx ct X N)
theorem qgO:TabOk P w K mg base qb6 qb4 (GK K) 1:=
 qeY (mts:=[]) (fds:=[]) c X N ⟨(qdF c cx ct X N).mono (by decide),trivial⟩ trivial rfl trivial rfl trivial trivial trivial trivial trivial
theorem qhd:DefAt P w K mg base (GK K) 2 "beside" 2 g_beside:=
 qgh (G:=GK K) (T:=qb6) (Γ:=qb4) (k:=1) (m:=6) (i:=4) (j:=25) (ir:=qbw) (ps:=["floor","cell"]) (d:=qex) c X N rfl rfl rfl rfl rfl rfl qhe rfl qgQ (fun _ _ _ _ _ _ us hl=>match us,hl with | [_,_],_=>rfl) (qgO c cx ct X N)
theorem qdz:TabOk P w K mg base qaL qaM (GK K) 0:=
 qeY (mts:=[]) (fds:=[]) c X N trivial trivial rfl trivial rfl trivial trivial trivial trivial trivial
theorem qdK:DefAt P w K mg base (GK K) 1 "_law_whole" 1 g__law_whole:=
 qgh (G:=GK K) (T:=qaL) (Γ:=qaM) (k:=0) (m:=0) (i:=5) (j:=26) (ir:=qax) (ps:=["_law_found"]) (d:=qbW) c X N rfl rfl rfl rfl rfl rfl qdE rfl qdl (fun _ _ _ _ _ _ us hl=>match us,hl with | [_],_=>rfl) (qdz c cx ct X N)
theorem qeT:TabOk P w K mg base qbm qbh (GK K) 1:=
 qeY (mts:=[]) (fds:=[]) c X N ⟨(qdK c cx ct X N).mono (by decide),trivial⟩ trivial rfl trivial rfl trivial trivial trivial trivial trivial
theorem qcI:DefAt P w K mg base (GK K) 2 "_law_are" 2 g__law_are:=
 qgh (G:=GK K) (T:=qbm) (Γ:=qbh) (k:=1) (m:=1) (i:=6) (j:=27) (ir:=qaR) (ps:=["_law_found","_law_due"]) (d:=qcF) c X N rfl rfl rfl rfl rfl rfl qeO rfl qeQ (fun _ _ _ _ _ _ us hl=>match us,hl with | [_,_],_=>rfl) (qeT c cx ct X N)
theorem qcV:TabOk P w K mg base qaz qaC (GK K) 2:=
 qeY (mts:=[]) (fds:=[]) c X N ⟨(qea c cx ct X N).mono (by decide),(qhd c cx ct X N).mono (by decide),(qcI c cx ct X N).mono (by decide),trivial⟩ trivial rfl trivial rfl trivial trivial trivial trivial trivial
theorem qcS:DefAt P w K mg base (GK K) 3 "_law_beside" 2 g__law_beside:=
 qgh (G:=GK K) (T:=qaz) (Γ:=qaC) (k:=2) (m:=4) (i:=7) (j:=28) (ir:=qaq) (ps:=["_law_floor_here","_law_spots"]) (d:=qbA) c X N rfl rfl rfl rfl rfl rfl qc1 rfl qcX (fun _ _ _ _ _ _ us hl=>match us,hl with | [_,_],_=>rfl) (qcV c cx ct X N)
theorem qdL:TabOk P w K mg base qaN qaK (GK K) 0:=
 qeY (mts:=[]) (fds:=[]) c X N trivial trivial rfl trivial rfl trivial trivial trivial trivial trivial
theorem qdO:DefAt P w K mg base (GK K) 1 "many_cells" 1 g_many_cells:=
 qgh (G:=GK K) (T:=qaN) (Γ:=qaK) (k:=0) (m:=0) (i:=8) (j:=29) (ir:=qav) (ps:=["floor"]) (d:=qbU) c X N rfl rfl rfl rfl rfl rfl qdR rfl qdr (fun _ _ _ _ _ _ us hl=>match us,hl with | [_],_=>rfl) (qdL c cx ct X N)
theorem qfz:TabOk P w K mg base qbF qbB (GK K) 1:=
 qeY (mts:=[]) (fds:=[]) c X N ⟨(qdO c cx ct X N).mono (by decide),(qdF c cx ct X N).mono (by decide),trivial⟩ trivial rfl trivial rfl trivial trivial trivial trivial trivial
theorem qfa:DefAt P w K mg base (GK K) 2 "squares" 1 g_squares:=
 qgh (G:=GK K) (T:=qbF) (Γ:=qbB) (k:=1) (m:=7) (i:=9) (j:=30) (ir:=qa6) (ps:=["floor"]) (d:=qdf) c X N rfl rfl rfl rfl rfl rfl qgg rfl qgd (fun _ _ _ _ _ _ us hl=>match us,hl with | [_],_=>rfl) (qfz c cx ct X N)
theorem qcw:TabOk P w K mg base qas qau (GK K) 2:=
 qeY (mts:=[]) (fds:=[]) c X N ⟨(qfa c cx ct X N).mono (by decide),(qcI c cx ct X N).mono (by decide),trivial⟩ trivial rfl trivial rfl trivial trivial trivial trivial trivial
theorem qct:DefAt P w K mg base (GK K) 3 "_law_squares" 2 g__law_squares:=
 qgh (G:=GK K) (T:=qas) (Γ:=qau) (k:=2) (m:=8) (i:=10) (j:=31) (ir:=qan) (ps:=["_law_floor_here","_law_spots"]) (d:=qbr) c X N rfl rfl rfl rfl rfl rfl qcq rfl qcs (fun _ _ _ _ _ _ us hl=>match us,hl with | [_,_],_=>rfl) (qcw c cx ct X N)
theorem qk8:TabOk P w K mg base qg5 qgW (GK K) 3:=
 qeY (mts:=[]) (fds:=[]) c X N ⟨(qdQ c cx ct X N).mono (by decide),(qcS c cx ct X N).mono (by decide),(qct c cx ct X N).mono (by decide),trivial⟩ trivial rfl trivial rfl trivial trivial trivial trivial trivial
theorem o_law {fa0:Addr} (e:mg "law" = some (.ref fa0)):∃fd:FuncData,(∀(s:Shared) (u:Value),BindsTo s fd ⟨[u],[]⟩ [("_law_script",u)])∧∀base:Heap,K.In base→base.Ns mainGlobals mg→FnOk P w K mg base (L2.CX P w) 4 fa0 fd ["_law_script"] (spD (GK K) 1 g_law):=
 qlY (G:=GK K) (T:=qg5) (Γ:=qgW) (k:=3) (m:=4) (i:=11) (j:=32) (ir:=qe8) (d:=qjT) c X N rfl rfl rfl rfl rfl rfl e qkT rfl qkE (fun _ _ _ _ _ _ us hl=>match us,hl with | [_],_=>rfl) (fun base _ _=>qk8 c cx ct X N)
end
end
end K02
open PySem PySem.W PySem.Calls PyProof.Rows
theorem PySem.Challenge.cw_cluemaker_k02_beside_and_squares_holds : PySem.Challenge.rw_cluemaker_k02_beside_and_squares.Holds := by
  w_on; o_law
  refine HandSHeadRun.head_any (r := K02.R) (q := K02.vw) (H := Cm.hookL K02.as K02.fa K02.fn K02.xa K02.ts) (ob := Cm.obT K02.as K02.fa K02.fn K02.xa K02.ts) (M := 400) (loose := K02.loose) (d := HandSHeadRun.topDef K02.R.prog 13) (kwd := []) Cm.obT_eq
    (by kernel_rfl) (fun s => by kernel_rfl) K02.run (by kernel_rfl) (by kernel_rfl) (by kernel_rfl) (by rfl) (by first | assumption | decide +kernel) (by decide +kernel) ⟨rfl, rfl, rfl, rfl, rfl, by decide +kernel⟩ ?hw ?hc
  case hw => w_witness2
  case hc =>
    refine LamX.walk_ofTsE (l := PySem.Challenge.rw_cluemaker_k02_beside_and_squares) (n := 63) (k := 4) (x := "_law_script") (CX := fun w => L2.CX PySem.Challenge.rw_cluemaker_k02_beside_and_squares.prog w) rfl (by decide) (by kernel_rfl) ⟨rfl, by decide, by decide⟩ ?F (fun w => Cm.cx_end)
    intro w mg fa0 h Y N hmg0
    obtain ⟨K, KX, c, cx, ct⟩ := Y
    have hmg : mg ("law" : PySem.Str) = some (.ref fa0) := by
      have e : (HandSHeadRun.topDef K02.R.prog 13).name = ("law" : PySem.Str) := by kernel_rfl
      rw [← e]
      exact hmg0
    exact ⟨K, KX, Cm.law_at (G := K02.GK K) (g := K02.g_law) rfl (K02.o_law c cx ct KX N hmg) K02.law_true⟩
