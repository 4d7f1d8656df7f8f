import PyProof.Rows.All
import HandS.Head0
import HandS.Head1
import HandS.Head2
import HandS.HeadEnd
import HandS.HeadHook1
import HandS.HeadHook2
import HandS.HeadHook3
import HandS.HeadWalk
import Wide.All
import OpenK.AllK
import Wide.FinOn
import HandS.ForMost
import HandS.Exc
import HandS.TryOnly
import HandS.ExcOwn
import HandS.WordsExc
import HandS.Deep
import HandS.IsInst
import HandS.SortInts
import HandS.Walk
import HandS.Flow
import HandS.Style
import HandS.Conv
import HandS.Defaults
import HandS.WideBits
import HandS.ExcIs
import HandS.ExcValue
import HandS.SetFor
import HandS.RevRange
import HandS.Replace
import HandS.SortKw
import KE.DataMinMax
import KE.LtSeq
import KE.KSortAsk
import HandS.SortRule
import HandS.Strs
import PyProof.FactsAll.tuple_0
import PyProof.FactsAll.tuple_2
import HandS.RevTup
import PyProof.ListNew
import HandS.Dict
import HandS.Codes
import KE.OsSetLaws
import PySem.Challenge.RW_cluemaker_k05_fillings_refused
set_option Elab.async false
set_option linter.all false
set_option maxRecDepth 100000
set_option maxHeartbeats 1000000
namespace Cm
open PySem PySem.Spec PyProof.Rows L2 PySem.W
def bltNames:List Str:=["len","abs","min","max","sum","sorted","all","any","list","int","str","bool","tuple","isinstance","range","zip","enumerate","reversed","set","divmod","ValueError"]
inductive Xa where
 |ck (x:Str) (own:Bool) (d:Str) (b:Bool)
 |ik (x:Str) (own:Bool) (d:Str) (b:Bool)
 |mk0 (x:Str)
 |tup (x:Str) (zs:List Str)
 |dno (x z:Str)
 |dtu (x z:Str) (zs:List Str)
def qoO:Value→Option Str
 |.str z _=>some z
 |_=>none
def qg5 (K:PySem.W.Frag) (u:Option (Option Value)) (zs:List Str):Bool:=match u with
 |some (some (.ref a))=>match K.lookup a with
  |some ⟨cls,dct,.seq its _,_⟩=>decide (cls=.type "tuple")&&decide (its.size≤1000)&&decide (its.toList.map qoO=zs.map some)&&dct.isNone
  |_=>false
 |_=>false
def cv (K:PySem.W.Frag) (x:Str) (own:Bool):Value:=match own with
 |true=>.ref (He.ga K x)
 |false=>.type "ValueError"
def Xa.ok (K:PySem.W.Frag):Xa→Bool
 |.ck x own d b=>decide (PySem.W.kitOne K (.ref (He.ga K d)) (cv K x own)=some b)&&(decide (PySem.W.exmOne K (.ref (He.ga K d)) (cv K x own)=some b) &&
  (He.eqO (PySem.W.findIn K (.ref (He.ga K d)) "__getattribute__") (some (some (.builtin "BaseException.__getattribute__")))&&(He.eqO (PySem.W.findIn K (.ref (He.ga K d)) "__getattr__") (some none) &&
  (decide (PySem.W.subIn K (.ref (He.ga K d)) (.type "BaseException")=some true)&&(PySem.W.hasDictIn K (He.ga K d)&&(He.eqO (PySem.W.findIn K (.ref (He.ga K d)) "__class__") (some (some (.builtin "object.__class__"))) &&
  (He.eqO (PySem.W.specialIn K (.builtin "object.__class__") "__get__") (some (some (.builtin "getset_descriptor.__get__")))&&(decide (PySem.W.takesIn K (.builtin "object.__class__")=some true)&&decide (PySem.W.mroIn K (He.ga K d) (.type "object")=some true)))))))))
 |.ik x own d b=>decide (PySem.W.kitOne K (.ref (He.ga K d)) (cv K x own)=some b)&&((He.Fa.cls d).ok K&&(He.eqO (PySem.W.findIn K (.ref (He.ga K d)) "__class__") (some (some (.builtin "object.__class__"))) &&
  (He.eqO (PySem.W.specialIn K (.builtin "object.__class__") "__get__") (some (some (.builtin "getset_descriptor.__get__")))&&(decide (PySem.W.takesIn K (.builtin "object.__class__")=some true)&&decide (PySem.W.mroIn K (He.ga K d) (.type "object")=some true)))))
 |.mk0 x=>PySem.W.makesIn K (He.ga K x)&&(He.eqO (PySem.W.findIn K (.ref (He.ga K x)) "__init__") (some (some (.builtin "object.__init__")))&&PySem.W.keepIn K (.ref (He.ga K x)))
 |.tup x zs=>qg5 K (PySem.W.nsIn K mainGlobals x) zs
 |.dno x z=>He.eqO (PySem.W.nsIn K (He.ga K x) z) (some none)
 |.dtu x z zs=>qg5 K (PySem.W.nsIn K (He.ga K x) z) zs
def qmr (xa:List Xa) (K:PySem.W.Frag):Bool:=xa.all (Xa.ok K)
def qog (ts:List (Str × List Str)) (w:World) (K:PySem.W.Frag):Prop:=(ts.map fun t=>He.dicW K (He.ga K t.1))=ts.map fun t=>some (He.keysIn w.params t.2)
theorem qph {r:PySem.W.OpenRow} {q:Program} {H:PySem.W.Hook} {ob:PySem.W.SharedT→H.α} {M:Nat} {loose:List Str} {w:World}
  (a:∀os:OsState,(HandSHeadRun.endF (HandSHeadRun.stepQ (HandSHeadRun.denQ HandSHeadRun.tabQ) r.prog w) M r.prog w os).map (fun s=>HandSHeadRun.looksF r.prog (boot_heap w.params) s.abs)=some true)
  (b:∀os:OsState,(HandSHeadRun.endF (HandSHeadRun.stepQ (HandSHeadRun.denQ HandSHeadRun.tabQ) r.prog w) M r.prog w os).map (fun s=>HandSHeadRun.seenQ q loose (PySem.importedModules r.prog.main.body) (fun s=>PySem.W.xlAt q [] s&&PySem.W.recOk r.toRowW.records s) s.abs)=some (PySem.W.openGood q loose))
  (c:∀os:OsState,(HandSHeadRun.endF (HandSHeadRun.stepQ (HandSHeadRun.denQ HandSHeadRun.tabQ) r.prog w) M r.prog w os).map ob=some (H.val w)):HandSHeadRun.RunEq r q H ob M loose w:=by
 intro os
 have a:=a os
 have b:=b os
 have c:=c os
 cases e:HandSHeadRun.endF (HandSHeadRun.stepQ (HandSHeadRun.denQ HandSHeadRun.tabQ) r.prog w) M r.prog w os with
 |none=>rw[e] at a;cases a
 |some s =>
  rw[e] at a b c
  simp only[Option.map_some,Option.some.injEq] at a b c ⊢
  rw[a,b,c]
abbrev AlL:Type:=(He.AlD × Bool) × List (Option (List (Option (Str × Int))))
def obL (as:List Addr) (fa:List He.Fa) (fn:List He.DefD) (xa:List Xa) (ts:List (Str × List Str)) (g:Addr→Option Obj):AlL:=((He.obsD fa fn (He.frG g as),qmr xa (He.frG g as)),ts.map fun(t:Str × List Str)=>He.dicW (He.frG g as) (He.ga (He.frG g as) t.1))
def hookL (as:List Addr) (fa:List He.Fa) (fn:List He.DefD) (xa:List Xa) (ts:List (Str × List Str)):PySem.W.Hook where
 α:=AlL
 obs:=fun s=>obL as fa fn xa ts s.heap.get?
 val:=fun w=>((He.valD fn,true),ts.map fun(t:Str × List Str)=>some (He.keysIn w.params t.2))
 says:=fun w h=>∃K:PySem.W.Frag,K.In h∧He.SaysD fa fn K∧qmr xa K=true∧qog ts w K
 of:=fun _ _ e=>⟨_,He.frG_in,congrArg (fun z:AlL=>z.1.1) e,congrArg (fun z:AlL=>z.1.2) e,congrArg (fun z:AlL=>z.2) e⟩
 keeps:=fun _ _ _ ⟨K,kin,says⟩ st=>⟨K,PySem.W.Frag.In.keeps kin st,says⟩
def obT (as:List Addr) (fa:List He.Fa) (fn:List He.DefD) (xa:List Xa) (ts:List (Str × List Str)) (s:PySem.W.SharedT):AlL:=obL as fa fn xa ts (HandSHeadRun.getT s)
theorem obT_eq {as:List Addr} {fa:List He.Fa} {fn:List He.DefD} {xa:List Xa} {ts:List (Str × List Str)} (s:PySem.W.SharedT):obT as fa fn xa ts s=(hookL as fa fn xa ts).obs s.abs:=by
 have:HandSHeadRun.getT s=s.abs.heap.get?:=funext fun a=>HandSHeadRun.getT_eq s a
 show obL as fa fn xa ts (HandSHeadRun.getT s)=obL as fa fn xa ts s.abs.heap.get?
 rw[this]
end Cm
set_option maxHeartbeats 0
namespace K05
open Cm PySem PySem.Spec PyProof.Rows L2
def top (i:Nat):Stmt:=PySem.Challenge.pw_cluemaker_k05_fillings_refused.main.body.getD i (.Pass ⟨0,0,0,0⟩)
def sub (i j:Nat):Stmt:=match top i with
 |.ClassDef _ _ _ body _ _ _ _ _ _ _=>body.getD j (.Pass ⟨0,0,0,0⟩)
 |_=>.Pass ⟨0,0,0,0⟩
def mkF (n:Str) (e:Stmt):He.DefD:=⟨(n,none),n,n,defArgs e,defBody e,defScope e,[],[]⟩
def mkD (n:Str × Option Str) (a b:Str) (e:Stmt):He.DefD:=⟨n,a,b,defArgs e,defBody e,defScope e,[],[]⟩
def qdQ:He.DefD:=mkF "_law_at" (top 17)
def qb9:He.DefD:=mkF "_law_floor" (top 18)
def qcg:He.DefD:=mkF "_law_marks" (top 19)
def qcS:He.DefD:=mkF "_law_text" (top 20)
def qbA:He.DefD:=mkF "_law_spoiled" (top 21)
def qcW:He.DefD:=mkF "_law_read" (top 22)
def qbB:He.DefD:=mkF "read_filling" (top 15)
def qcC:He.DefD:=mkF "_law_said" (top 23)
def ql1:He.DefD:=mkF "law" (top 24)
def fnA:List He.DefD:=[qdQ,qb9,qcg,qcS,qbA]
def fnB:List He.DefD:=[qcW,qbB,qcC,ql1]
def fn:List He.DefD:=fnA++fnB
def fa0:List He.Fa:=[.glo "_law_at",.glo "_law_floor",.glo "_law_marks",.glo "_law_text",.glo "_law_spoiled",.glo "_law_read",.glo "NoFilling",.exc "NoFilling",.str "MARKS" ".123456",.glo "read_filling",.glo "ClueError",.glo "BadThought",.glo "NoFloor",.glo "NoMove",.glo "NoName",.glo "NoPuzzle",.glo "NoRow",.glo "NoRule",.glo "NoText",.glo "NotOne",.glo "TooMany",.glo "_law_said",.glo "law"]
abbrev fa:List He.Fa:=bltNames.map He.Fa.free++fa0
def xa:List Xa:=[.ck "ClueError" true "NoFilling" true,.ck "BadThought" true "NoFilling" false,.ck "NoFloor" true "NoFilling" false,.ck "NoMove" true "NoFilling" false,.ck "NoName" true "NoFilling" false,.ck "NoPuzzle" true "NoFilling" false,.ck "NoRow" true "NoFilling" false,.ck "NoRule" true "NoFilling" false,.ck "NoText" true "NoFilling" false,.ck "NotOne" true "NoFilling" false,.ck "TooMany" true "NoFilling" false,.ck "ValueError" false "NoFilling" true,.ck "NoFilling" true "NoFilling" true]
def ts:List (Str × List Str):=[]
abbrev R:PySem.W.OpenRow:=PySem.W.OpenLaw.row PySem.Challenge.rw_cluemaker_k05_fillings_refused
def as:List Addr:=([3,24,23,37,36,49,48,61,60,73,72,92,91,104,103,116,115,128,127,140,139,152,151,164,163,180,179,187,186,194]:List Addr)++([193,199,198,206,205,213,212,173,172,220,219,225,224]:List Addr)
def loose:List Str:=(["ClueError","NoFloor","NoFilling","NoRule","NoPuzzle","BadThought","TooMany","NotOne","NoMove","NoText","NoName","NoRow","MARKS","read_filling","_law_at","_law_floor","_law_marks","_law_text","_law_spoiled","_law_read","_law_said"]:List Str)
abbrev vw:Program:=PySem.W.view R.prog [24]
theorem rA (w:World):∀os:OsState,(HandSHeadRun.endF (HandSHeadRun.stepQ (HandSHeadRun.denQ HandSHeadRun.tabQ) R.prog w) 2899 R.prog w os).map (fun s=>HandSHeadRun.looksF R.prog (PySem.W.boot_heap w.params) s.abs)=some true:=by
 intro os
 kernel_rfl
theorem rB (w:World):∀os:OsState,(HandSHeadRun.endF (HandSHeadRun.stepQ (HandSHeadRun.denQ HandSHeadRun.tabQ) R.prog w) 2899 R.prog w os).map (fun s=>HandSHeadRun.seenQ vw loose (PySem.importedModules R.prog.main.body) (fun s=>PySem.W.xlAt vw [] s&&PySem.W.recOk R.toRowW.records s) s.abs)=some (PySem.W.openGood vw loose):=by
 intro os
 kernel_rfl
theorem rC (w:World):∀os:OsState,(HandSHeadRun.endF (HandSHeadRun.stepQ (HandSHeadRun.denQ HandSHeadRun.tabQ) R.prog w) 2899 R.prog w os).map (obT as fa fn xa ts)=some ((hookL as fa fn xa ts).val w):=by
 intro os
 kernel_rfl
theorem run (w:World):HandSHeadRun.RunEq R vw (hookL as fa fn xa ts) (obT as fa fn xa ts) 2899 loose w:=qph (rA w) (rB w) (rC w)
end K05
namespace Cm
open PySem PySem.Spec PyProof.Rows L2
inductive D where
 |non | bl (b:Bool) | int (i:Int) | str (s:List Nat)
 |lst (xs:List D) | tup (xs:List D)
 |ins (c:Nat) (fs:List D) | exc (c:Nat) (fs:List D)
mutual
@[simp] def D.flat:D→Bool
 |.lst _=>false
 |.tup xs=>D.flats xs
 |.exc _ fs=>D.flats fs
 |.non=>true
 |.bl _=>true
 |.int _=>true
 |.str _=>true
 |.ins _ _=>true
@[simp] def D.flats:List D→Bool
 |[]=>true
 |d::ds=>d.flat&&D.flats ds
end
mutual
def D.fit:D→Nat→Bool
 |.non,_=>true
 |.bl _,_=>true
 |.int _,_=>true
 |.str s,_=>PyData.strOk ⟨s.toArray⟩
 |.lst xs,n=>decide (0<n)&&D.fits xs (n - 1)
 |.tup xs,n=>decide (0<n)&&D.fits xs (n - 1)
 |.ins _ _,_=>false
 |.exc _ _,_=>false
def D.fits:List D→Nat→Bool
 |[],_=>true
 |d::ds,n=>d.fit n&&D.fits ds n
end
mutual
def D.py:D→PyData
 |.non=>.none
 |.bl b=>.bool b
 |.int i=>.int i
 |.str s=>.str ⟨s.toArray⟩
 |.lst xs=>.list (D.pys xs)
 |.tup xs=>.tuple (D.pys xs)
 |.ins _ _=>.none
 |.exc _ _=>.none
def D.pys:List D→List PyData
 |[]=>[]
 |d::ds=>d.py::D.pys ds
end
mutual
def D.eqb:D→D→Bool
 |.non,y=>match y with
  |.non=>true
  |_=>false
 |.bl a,y=>match y with
  |.bl b=>a == b
  |.int j=>decide ((if a then 1 else 0)=j)
  |_=>false
 |.int i,y=>match y with
  |.bl b=>decide (i=(if b then 1 else 0))
  |.int j=>decide (i=j)
  |_=>false
 |.str x,y=>match y with
  |.str z=>decide (x=z)
  |_=>false
 |.lst xs,y=>match y with
  |.lst ys=>D.eqbs xs ys
  |_=>false
 |.tup xs,y=>match y with
  |.tup ys=>D.eqbs xs ys
  |_=>false
 |.ins _ _,_=>false
 |.exc _ _,_=>false
def D.eqbs:List D→List D→Bool
 |[],ys=>match ys with
  |[]=>true
  |_=>false
 |x::xs,ys=>match ys with
  |[]=>false
  |y::ys=>D.eqb x y&&D.eqbs xs ys
end
mutual
theorem D.canLay:∀(d:D) (n:Nat),d.fit n=true→d.py.canLay0=true∧d.py.depth≤n
 |.non,n,_=>⟨by simp[D.py,PyData.canLay0],by simp[D.py,PyData.depth]⟩
 |.bl _,n,_=>⟨by simp[D.py,PyData.canLay0],by simp[D.py,PyData.depth]⟩
 |.int _,n,_=>⟨by simp[D.py,PyData.canLay0],by simp[D.py,PyData.depth]⟩
 |.str s,n,h=>⟨by simpa[D.py,PyData.canLay0,D.fit] using h,by simp[D.py,PyData.depth]⟩
 |.lst xs,n,h=>by
  simp only[D.fit,Bool.and_eq_true,decide_eq_true_eq] at h
  obtain⟨h1,h2⟩:=D.canLays xs (n - 1) h.2
  refine⟨by simpa[D.py,PyData.canLay0] using h1,?_⟩
  simp only[D.py,PyData.depth]
  omega
 |.tup xs,n,h=>by
  simp only[D.fit,Bool.and_eq_true,decide_eq_true_eq] at h
  obtain⟨h1,h2⟩:=D.canLays xs (n - 1) h.2
  refine⟨by simpa[D.py,PyData.canLay0] using h1,?_⟩
  simp only[D.py,PyData.depth]
  omega
 |.ins _ _,_,h=>by simp[D.fit] at h
 |.exc _ _,_,h=>by simp[D.fit] at h
theorem D.canLays:∀(ds:List D) (n:Nat),D.fits ds n=true→PyData.canLayAll0 (D.pys ds)=true∧PyData.depthAll (D.pys ds)≤n
 |[],n,_=>⟨by simp[D.pys,PyData.canLayAll0],by simp[D.pys,PyData.depthAll]⟩
 |d::ds,n,h=>by
  simp only[D.fits,Bool.and_eq_true] at h
  obtain⟨h1,h2⟩:=D.canLay d n h.1
  obtain⟨h3,h4⟩:=D.canLays ds n h.2
  refine⟨by simp[D.pys,PyData.canLayAll0,h1,h3],?_⟩
  simp only[D.pys,PyData.depthAll]
  omega
end
theorem D.shaped {d:D} (h:d.fit 64=true):SeqAt.shaped d.py=true:=by
 obtain⟨h1,h2⟩:=D.canLay d 64 h
 simp[SeqAt.shaped,h1,h2]
theorem qcB {x z:List Nat}:(x.toArray=z.toArray)↔x=z:=by
 constructor
 ·intro h
  have:=congrArg Array.toList h
  simpa using this
 ·rintro rfl;rfl
mutual
theorem D.eqv_py:∀(a b:D) (n m:Nat),a.fit n=true→b.fit m=true→PyData.eqv a.py b.py=a.eqb b
 |.non,b,_,_,_,hb=>by cases b<;>simp[D.py,D.eqb,PyData.eqv,D.fit] at *
 |.bl x,b,_,_,_,hb=>by
  cases b<;>simp[D.py,D.eqb,PyData.eqv,D.fit] at *
  cases x<;>simp[Bool.beq_eq_decide_eq]<;>rfl
 |.int x,b,_,_,_,hb=>by
  cases b<;>simp[D.py,D.eqb,PyData.eqv,D.fit] at *
  ·rename_i y;cases y<;>simp[Bool.beq_eq_decide_eq]<;>rfl
  ·rfl
 |.str x,b,_,_,_,hb=>by
  cases b<;>simp[D.py,D.eqb,PyData.eqv,D.fit] at *
  rename_i z
  by_cases e:x=z
  ·subst e;simp
  ·rw[decide_eq_false e]
   refine beq_eq_false_iff_ne.mpr fun q=>e ?_
   injection q with q
   exact qcB.mp q
 |.lst xs,b,n,m,ha,hb=>by
  cases b with
  |lst ys =>
   simp only[D.fit,Bool.and_eq_true,decide_eq_true_eq] at ha hb
   simp only[D.py,D.eqb,PyData.eqv]
   exact D.eqv_pys xs ys _ _ ha.2 hb.2
  |_=>simp[D.py,D.eqb,PyData.eqv,D.fit] at *
 |.tup xs,b,n,m,ha,hb=>by
  cases b with
  |tup ys =>
   simp only[D.fit,Bool.and_eq_true,decide_eq_true_eq] at ha hb
   simp only[D.py,D.eqb,PyData.eqv]
   exact D.eqv_pys xs ys _ _ ha.2 hb.2
  |_=>simp[D.py,D.eqb,PyData.eqv,D.fit] at *
 |.ins _ _,_,_,_,h,_=>by simp[D.fit] at h
 |.exc _ _,_,_,_,h,_=>by simp[D.fit] at h
theorem D.eqv_pys:∀(xs ys:List D) (n m:Nat),D.fits xs n=true→D.fits ys m=true→PyData.eqvAll (D.pys xs) (D.pys ys)=D.eqbs xs ys
 |[],ys,_,_,_,_=>by cases ys<;>simp[D.pys,D.eqbs,PyData.eqvAll]
 |x::xs,ys,n,m,ha,hb=>by
  cases ys with
  |nil=>simp[D.pys,D.eqbs,PyData.eqvAll]
  |cons y ys =>
   simp only[D.fits,Bool.and_eq_true] at ha hb
   simp only[D.pys,D.eqbs,PyData.eqvAll]
   rw[D.eqv_py x y n m ha.1 hb.1,D.eqv_pys xs ys n m ha.2 hb.2]
end
structure Glo where
 K:PySem.W.Frag
 ca:Nat→Addr
 fl:Nat→List Str
def exK (cls:Value) (a:Addr):HO:=.ext fun h=>∃(oe:Obj) (vs:Array Value),h.get? a=some oe∧Zc cls none oe∧oe.data=.fields vs
theorem qlU {P:Program} {w:World} {H:Hp} {h:Heap} {a:Addr} {cls:Value} {oe:Obj} {vs:Array Value} (e:h.get? a=some oe) (z:Zc cls none oe) (d:oe.data=.fields vs):ObjOk P w H h a (exK cls a):=
 ⟨⟨oe,vs,e,z,d⟩,⟨oe,e⟩,fun _ _ ⟨o,v,q,r⟩ k=>⟨o,v,k o q,r⟩⟩
mutual
def Rep (G:Glo) (P:Hp) (LN:Addr→List V→Prop):D→V→Prop
 |.non,v=>v=.non
 |.bl b,v=>v=.bl b
 |.int i,v=>v=.int i
 |.str s,v=>v=.str ⟨s.toArray⟩
 |.lst ds,v=>∃a xs,v=.ref a∧LN a xs∧Reps G P LN ds xs
 |.tup ds,v=>∃a xs,v=.ref a∧SqT G.K P a xs∧Reps G P LN ds xs
 |.ins c ds,v=>∃a dx xs,v=.ref a∧P a=some (.ins (G.ca c) dx ((G.fl c).zip xs))∧(G.fl c).length=ds.length∧Reps G P (SqL G.K P) ds xs
 |.exc c fs,v=>fs=[]∧∃a,v=.ref a∧P a=some (exK (.ref (G.ca c)) a)
def Reps (G:Glo) (P:Hp) (LN:Addr→List V→Prop):List D→List V→Prop
 |[],vs=>vs=[]
 |d::ds,vs=>∃v r,vs=v::r∧Rep G P LN d v∧Reps G P LN ds r
end
theorem Same.seqT {K:PySem.W.Frag} {H H':Hp} {a:Addr} {xs:List V} (e:Same H H') (h:SqT K H a xs):SqT K H' a xs:=by
 rcases h with(h | ⟨o,h⟩) | h
 ·exact .inl (.inl (e _ _ h))
 ·exact .inl (.inr ⟨o,e _ _ h⟩)
 ·exact .inr h
section
variable {G:Glo} {P P':Hp} {LN LN':Addr→List V→Prop}
mutual
theorem Rep.mono (hp:Same P P'):∀(d:D) (v:V) {LN LN':Addr→List V→Prop} (_:∀a xs,LN a xs→LN' a xs),Rep G P LN d v→Rep G P' LN' d v
 |.non,_,_,_,_,h=>h
 |.bl _,_,_,_,_,h=>h
 |.int _,_,_,_,_,h=>h
 |.str _,_,_,_,_,h=>h
 |.lst ds,v,_,_,hl,⟨a,xs,e,h1,h2⟩=>⟨a,xs,e,hl _ _ h1,Reps.mono hp ds xs hl h2⟩
 |.tup ds,v,_,_,hl,⟨a,xs,e,h1,h2⟩=>⟨a,xs,e,Same.seqT hp h1,Reps.mono hp ds xs hl h2⟩
 |.ins c ds,v,_,_,hl,⟨a,dx,xs,e,h1,h2,h3⟩=>⟨a,dx,xs,e,hp _ _ h1,h2,Reps.mono hp ds xs (fun _ _ q=>L2.Same.seq hp q) h3⟩
 |.exc _ _,_,_,_,_,⟨e,a,h1,h2⟩=>⟨e,a,h1,hp _ _ h2⟩
theorem Reps.mono (hp:Same P P'):∀(ds:List D) (vs:List V) {LN LN':Addr→List V→Prop} (_:∀a xs,LN a xs→LN' a xs),Reps G P LN ds vs→Reps G P' LN' ds vs
 |[],_,_,_,_,h=>h
 |d::ds,vs,_,_,hl,⟨v,r,e,h1,h2⟩=>⟨v,r,e,Rep.mono hp d v hl h1,Reps.mono hp ds r hl h2⟩
end
mutual
theorem Rep.flat:∀(d:D) (v:V),d.flat=true→Rep G P LN d v→Rep G P LN' d v
 |.non,_,_,h=>h
 |.bl _,_,_,h=>h
 |.int _,_,_,h=>h
 |.str _,_,_,h=>h
 |.lst ds,v,f,_=>by simp[D.flat] at f
 |.tup ds,v,f,⟨a,xs,e,h1,h2⟩=>⟨a,xs,e,h1,Reps.flat ds xs (by simpa[D.flat] using f) h2⟩
 |.ins c ds,v,_,h=>h
 |.exc _ _,_,_,h=>h
theorem Reps.flat:∀(ds:List D) (vs:List V),D.flats ds=true→Reps G P LN ds vs→Reps G P LN' ds vs
 |[],_,_,h=>h
 |d::ds,vs,f,⟨v,r,e,h1,h2⟩=>by
  simp only[D.flats,Bool.and_eq_true] at f
  exact⟨v,r,e,Rep.flat d v f.1 h1,Reps.flat ds r f.2 h2⟩
end
theorem Reps.length:∀{ds:List D} {vs:List V},Reps G P LN ds vs→vs.length=ds.length
 |[],_,h=>by cases h;rfl
 |d::ds,vs,⟨v,r,e,h1,h2⟩=>by subst e;simp[Reps.length h2]
theorem Reps.get:∀{ds:List D} {vs:List V} {i:Nat} {d:D},Reps G P LN ds vs→ds[i]? = some d→∃v,vs[i]? = some v∧Rep G P LN d v
 |[],_,_,_,_,h=>by simp at h
 |d::ds,vs,0,_,⟨v,r,e,h1,h2⟩,h=>by subst e;simp at h;subst h;exact⟨v,rfl,h1⟩
 |d::ds,vs,i+1,_,⟨v,r,e,h1,h2⟩,h=>by subst e;simp at h;obtain⟨w,q1,q2⟩:=Reps.get h2 h;exact⟨w,by simpa using q1,q2⟩
theorem Reps.append:∀{ds es:List D} {vs us:List V},Reps G P LN ds vs→Reps G P LN es us→Reps G P LN (ds++es) (vs++us)
 |[],_,_,_,h,q=>by cases h;exact q
 |d::ds,es,vs,us,⟨v,r,e,h1,h2⟩,q=>by subst e;exact⟨v,r++us,rfl,h1,Reps.append h2 q⟩
theorem Reps.take:∀{ds:List D} {vs:List V} (n:Nat),Reps G P LN ds vs→Reps G P LN (ds.take n) (vs.take n)
 |[],_,_,h=>by cases h;simp[Reps]
 |d::ds,vs,0,_=>by simp[Reps]
 |d::ds,vs,n+1,⟨v,r,e,h1,h2⟩=>by subst e;exact⟨v,r.take n,rfl,h1,Reps.take n h2⟩
theorem Reps.drop:∀{ds:List D} {vs:List V} (n:Nat),Reps G P LN ds vs→Reps G P LN (ds.drop n) (vs.drop n)
 |[],_,_,h=>by cases h;simp[Reps]
 |d::ds,vs,0,h=>h
 |d::ds,vs,n+1,⟨v,r,e,h1,h2⟩=>by subst e;exact Reps.drop n h2
theorem Reps.set {x:D} {u:V} (hx:Rep G P LN x u):∀{ds:List D} {vs:List V} (n:Nat),Reps G P LN ds vs→Reps G P LN (ds.set n x) (vs.set n u)
 |[],_,_,h=>by cases h;simp[Reps]
 |d::ds,vs,0,⟨v,r,e,h1,h2⟩=>by subst e;exact⟨u,r,rfl,hx,h2⟩
 |d::ds,vs,n+1,⟨v,r,e,h1,h2⟩=>by subst e;exact⟨v,r.set n u,rfl,h1,Reps.set hx n h2⟩
theorem Reps.eraseIdx:∀{ds:List D} {vs:List V} (n:Nat),Reps G P LN ds vs→Reps G P LN (ds.eraseIdx n) (vs.eraseIdx n)
 |[],_,_,h=>by cases h;simp[Reps]
 |d::ds,vs,0,⟨v,r,e,h1,h2⟩=>by subst e;exact h2
 |d::ds,vs,n+1,⟨v,r,e,h1,h2⟩=>by subst e;exact⟨v,r.eraseIdx n,rfl,h1,Reps.eraseIdx n h2⟩
theorem Reps.one {d:D} {v:V} (h:Rep G P LN d v):Reps G P LN [d] [v]:=⟨v,[],rfl,h,rfl⟩
theorem Reps.ints:∀{ns:List Int} {vs:List V},Reps G P LN (ns.map D.int) vs↔vs=ns.map V.int
 |[],vs=>Iff.rfl
 |n::ns,vs=>by
  constructor
  ·rintro⟨v,r,e,h1,h2⟩
   rw[e,h1,Reps.ints.mp h2];rfl
  ·intro e
   exact⟨_,_,e,rfl,Reps.ints.mpr rfl⟩
theorem Reps.reverse:∀{ds:List D} {vs:List V},Reps G P LN ds vs→Reps G P LN ds.reverse vs.reverse
 |[],_,h=>by cases h;exact rfl
 |d::ds,vs,⟨v,r,e,h1,h2⟩=>by
  subst e
  simp only[List.reverse_cons]
  exact(Reps.reverse h2).append (Reps.one h1)
theorem Reps.replicate {d:D} {v:V} (h:Rep G P LN d v):∀n,Reps G P LN (List.replicate n d) (List.replicate n v)
 |0=>rfl
 |n+1=>⟨v,_,rfl,h,Reps.replicate h n⟩
mutual
theorem Rep.dp {H:Hp} (hp:Same P H) (hl:∀a xs,LN a xs→SqL G.K H a xs):∀(d:D) (v:V) (n:Nat),d.fit n=true→Rep G P LN d v→Dp G.K H v d.py
 |.non,_,_,_,h=>by cases h;exact .non
 |.bl b,_,_,_,h=>by cases h;exact .bl b
 |.int i,_,_,_,h=>by cases h;exact .int i
 |.str s,_,_,_,h=>by cases h;exact .str _
 |.lst ds,v,n,f,⟨a,xs,e,h1,h2⟩=>by
  subst e
  simp only[D.fit,Bool.and_eq_true] at f
  exact .lst (hl _ _ h1) (Reps.dp hp hl ds xs _ f.2 h2)
 |.tup ds,v,n,f,⟨a,xs,e,h1,h2⟩=>by
  subst e
  simp only[D.fit,Bool.and_eq_true] at f
  exact .tup (Same.seqT hp h1) (Reps.dp hp hl ds xs _ f.2 h2)
 |.ins c ds,v,_,f,_=>by simp[D.fit] at f
 |.exc _ _,_,_,f,_=>by simp[D.fit] at f
theorem Reps.dp {H:Hp} (hp:Same P H) (hl:∀a xs,LN a xs→SqL G.K H a xs):∀(ds:List D) (vs:List V) (n:Nat),D.fits ds n=true→Reps G P LN ds vs→DpAll G.K H vs (D.pys ds)
 |[],_,_,_,h=>by cases h;exact .nil
 |d::ds,vs,n,f,⟨v,r,e,h1,h2⟩=>by
  subst e
  simp only[D.fits,Bool.and_eq_true] at f
  exact .cons (Rep.dp hp hl d v n f.1 h1) (Reps.dp hp hl ds r n f.2 h2)
end
end
end Cm
namespace Cm
open PySem PySem.Spec PyProof.Rows L2
def WrT (G:Glo) (v:V):Prop:=∀a,v=.ref a→∃o,G.K.lookup a=some o∧o.cls=.type "tuple" ∧ o.dict=none
inductive RE (α:Type) where
 |bad | ok (a:α) | exc (c:Nat) (fs:List D)
def RE.bind {α β:Type}:RE α→(α→RE β)→RE β
 |.bad,_=>.bad
 |.ok a,f=>f a
 |.exc c fs,_=>.exc c fs
@[simp] theorem RE.bind_ok {α β:Type} (a:α) (f:α→RE β):(RE.ok a).bind f=f a:=rfl
@[simp] theorem RE.bind_bad {α β:Type} (f:α→RE β):(RE.bad:RE α).bind f=.bad:=rfl
@[simp] theorem RE.bind_exc {α β:Type} (c:Nat) (fs:List D) (f:α→RE β):(RE.exc c fs:RE α).bind f=.exc c fs:=rfl
inductive Sl where
 |non | val (d:D) (b:Bool) | own (ds:List D) (b:Bool)
 |slf (c:Nat) (fs:List D)
 |fxd (d:D) (k:Nat)
 |dct (m:List (Int × D)) (b:Bool)
 |row (dss:List (List D))
inductive ER where
 |val (d:D) (b:Bool) | fre (ds:List D) (b:Bool) | brw (ds:List D) (b:Bool)
def ER.d:ER→D
 |.val d _=>d
 |.fre ds _=>.lst ds
 |.brw ds _=>.lst ds
def ER.b:ER→Bool
 |.val _ b=>b
 |.fre _ b=>b
 |.brw _ b=>b
@[simp] theorem ER.d_val {d:D} {b:Bool}:(ER.val d b).d=d:=rfl
@[simp] theorem ER.d_fre {d:List D} {b:Bool}:(ER.fre d b).d=.lst d:=rfl
@[simp] theorem ER.d_brw {d:List D} {b:Bool}:(ER.brw d b).d=.lst d:=rfl
@[simp] theorem ER.b_val {d:D} {b:Bool}:(ER.val d b).b=b:=rfl
@[simp] theorem ER.b_fre {d:List D} {b:Bool}:(ER.fre d b).b=b:=rfl
@[simp] theorem ER.b_brw {d:List D} {b:Bool}:(ER.brw d b).b=b:=rfl
@[simp] def ER.isB:ER→Bool
 |.brw _ _=>true
 |_=>false
@[simp] def ER.isV:ER→Bool
 |.val _ _=>true
 |_=>false
@[simp] def ER.frz:ER→ER
 |.fre ds b=>.val (.lst ds) b
 |e=>e
def LNb (K:PySem.W.Frag) (P N R:Hp) (b:Bool):Addr→List V→Prop:=fun a xs=>N a=some (.lst xs)∨(b=false∧(SqL K P a xs∨SqL K N a xs∨SqL K R a xs))
theorem LNb.mono {K:PySem.W.Frag} {P N R P' N':Hp} {b:Bool} (hp:Same P P') (hn:Same N N'):∀a xs,LNb K P N R b a xs→LNb K P' N' R b a xs:=fun a xs h=>by
 rcases h with h | ⟨h1,h | h | h⟩
 ·exact .inl (hn _ _ h)
 ·exact .inr ⟨h1,.inl (L2.Same.seq hp h)⟩
 ·exact .inr ⟨h1,.inr (.inl (L2.Same.seq hn h))⟩
 ·exact .inr ⟨h1,.inr (.inr h)⟩
theorem LNb.weak {K:PySem.W.Frag} {P N R:Hp} {b:Bool}:∀a xs,LNb K P N R b a xs→LNb K P N R false a xs:=fun a xs h=>by
 rcases h with h | h
 ·exact .inl h
 ·exact .inr ⟨rfl,h.2⟩
theorem LNb.and1 {K:PySem.W.Frag} {P N R:Hp} {b c:Bool}:∀a xs,LNb K P N R b a xs→LNb K P N R (b&&c) a xs:=fun a xs h=>by
 rcases h with h | ⟨h1,h2⟩
 ·exact .inl h
 ·exact .inr ⟨by simp[h1],h2⟩
theorem LNb.and2 {K:PySem.W.Frag} {P N R:Hp} {b c:Bool}:∀a xs,LNb K P N R c a xs→LNb K P N R (b&&c) a xs:=fun a xs h=>by
 rcases h with h | ⟨h1,h2⟩
 ·exact .inl h
 ·exact .inr ⟨by simp[h1],h2⟩
theorem LNb.seq {K:PySem.W.Frag} {P N R H:Hp} {b:Bool} (hp:Same P H) (hn:Same N H) (hr:Same R H):∀a xs,LNb K P N R b a xs→SqL K H a xs:=fun a xs h=>by
 rcases h with h | ⟨_,h | h | h⟩
 ·exact .inl (.inl (hn _ _ h))
 ·exact L2.Same.seq hp h
 ·exact L2.Same.seq hn h
 ·exact L2.Same.seq hr h
theorem LNb.ofR {K:PySem.W.Frag} {P N R:Hp}:∀a xs,SqL K R a xs→LNb K P N R false a xs:=fun a xs h=>.inr ⟨rfl,.inr (.inr h)⟩
structure Adv (P N H P' N' H':Hp):Prop where
 hh:Same H H'
 pp:Same P P'
 nn:Same N N'
 pH:Same P' H'
 nH:Same N' H'
 pn:∀a,P' a≠none→P a≠none∨H a=none
 nw:∀a,N' a≠none→N a≠none∨H a=none
 dj:∀a,N' a≠none→P' a≠none→N a≠none
theorem Adv.refl {P N H:Hp} (hp:Same P H) (hn:Same N H):Adv P N H P N H:=⟨L2.Same.refl _,L2.Same.refl _,L2.Same.refl _,hp,hn,fun _ h=>.inl h,fun _ h=>.inl h,fun _ h _=>h⟩
theorem Adv.trans {P N H P' N' H' P'' N'' H'':Hp} (s:Adv P N H P' N' H') (t:Adv P' N' H' P'' N'' H''):Adv P N H P'' N'' H'' where
 hh:=s.hh.trans t.hh
 pp:=s.pp.trans t.pp
 nn:=s.nn.trans t.nn
 pH:=t.pH
 nH:=t.nH
 pn:=fun a h=>by
  rcases t.pn a h with h | h
  ·exact s.pn a h
  ·exact .inr (s.hh.free h)
 nw:=fun a h=>by
  rcases t.nw a h with h | h
  ·exact s.nw a h
  ·exact .inr (s.hh.free h)
 dj:=fun a h h2=>by
  have h3:=t.dj a h h2
  rcases t.pn a h2 with q | q
  ·exact s.dj a h3 q
  ·exact absurd (s.nH.free q) h3
theorem Adv.heap {P N H P' N' H' H'':Hp} (s:Adv P N H P' N' H') (e:Same H' H''):Adv P N H P' N' H'':=
 ⟨s.hh.trans e,s.pp,s.nn,s.pH.trans e,s.nH.trans e,s.pn,s.nw,s.dj⟩
theorem qau {H:Hp} {p:Addr} {o:HO} (h:H p=none):Same H (upd H p o):=fun b u e=>by
 rw[upd_ne (ne_of_none e h)];exact e
theorem qgt {P H:Hp} {p:Addr} {o:HO} (h:Same P H):Same (upd P p o) (upd H p o):=fun b u e=>by
 by_cases q:b=p
 ·subst q;rw[upd_same] at e ⊢;exact e
 ·rw[upd_ne q] at e ⊢;exact h _ _ e
theorem qaQ {P H:Hp} {p:Addr} {o:HO} (h:Same P H) (n:P p=none):Same P (upd H p o):=fun b u e=>by
 rw[upd_ne (ne_of_none e n)];exact h _ _ e
theorem qgZ {P H:Hp} {p:Addr} {o:HO} (h:Same P H) (e:H p=some o):Same (upd P p o) H:=fun b u q=>by
 by_cases z:b=p
 ·subst z;rw[upd_same] at q;cases q;exact e
 ·rw[upd_ne z] at q;exact h _ _ q
theorem Adv.newP {P N H P' N' H':Hp} (s:Adv P N H P' N' H') {p:Addr} {o:HO} (hp:H' p=none):Adv P N H (upd P' p o) N' (upd H' p o) where
 hh:=s.hh.trans (qau hp)
 pp:=s.pp.trans (qau (s.pH.free hp))
 nn:=s.nn
 pH:=qgt s.pH
 nH:=s.nH.trans (qau hp)
 pn:=fun a h=>by
  by_cases q:a=p
  ·exact .inr (by rw[q];exact s.hh.free hp)
  ·rw[upd_ne q] at h;exact s.pn a h
 nw:=s.nw
 dj:=fun a h h2=>by
  by_cases q:a=p
  ·exact absurd (s.nH.free hp) (q ▸ h)
  ·rw[upd_ne q] at h2;exact s.dj a h h2
theorem Adv.holdN {P N H P' N' H':Hp} (s:Adv P N H P' N' H') {p:Addr} {o:HO} (h0:H p=none) (hp:H' p=some o) (hn:N' p=none) (hP:P' p=none):Adv P N H P' (upd N' p o) H' where
 hh:=s.hh
 pp:=s.pp
 nn:=s.nn.trans (qau hn)
 pH:=s.pH
 nH:=qgZ s.nH hp
 pn:=s.pn
 nw:=fun a h=>by
  by_cases q:a=p
  ·exact .inr (by rw[q];exact h0)
  ·rw[upd_ne q] at h;exact s.nw a h
 dj:=fun a h h2=>by
  by_cases q:a=p
  ·exact absurd hP (q ▸ h2)
  ·rw[upd_ne q] at h;exact s.dj a h h2
structure Ctx where
 G:Glo
 R:Hp
 B:Hp
 P0:Hp
 W:WX
 S:Addr
 fx:Nat→Option V:=fun _=>none
section
variable (C:Ctx) (P N H:Hp)
abbrev RepB (b:Bool) (d:D) (v:V):Prop:=Rep C.G P (LNb C.G.K P N C.R b) d v
abbrev RepsB (b:Bool) (ds:List D) (vs:List V):Prop:=Reps C.G P (LNb C.G.K P N C.R b) ds vs
def RowR (R:Addr→List D→Prop):List (List D)→List Addr→Prop
 |[],ps=>ps=[]
 |ds::r,ps=>∃a q,ps=a::q∧R a ds∧RowR R r q
def DctR (R:D→V→Prop):List (Int × D)→List (Key × V)→Prop
 |[],es=>es=[]
 |e::m,es=>∃v r,es=(.inl e.1,v)::r∧R e.2 v∧DctR R m r
def SlR:Sl→Option V→Prop
 |.non,_=>True
 |.val d b,o=>∃v,o=some v∧RepB C P N b d v
 |.own ds b,o=>∃p xs,o=some (.ref p)∧H p=some (.lst xs)∧P p=none∧N p=none∧C.B p=none∧RepsB C P N b ds xs
 |.slf c fs,o=>∃p dx xs,(p=C.S∧o=some (.ref p))∧H p=some (.ins (C.G.ca c) dx ((C.G.fl c).zip xs))∧P p=none∧N p=none∧C.B p=none∧fs.length≤(C.G.fl c).length∧RepsB C P N true fs xs
 |.fxd d k,o=>∃v,o=some v∧C.fx k=some v∧RepB C P N false d v
 |.dct m b,o=>∃p es,o=some (.ref p)∧H p=some (.dK es)∧P p=none∧N p=none∧C.B p=none∧DctR (RepB C P N b) m es
 |.row dss,o=>∃p ps,o=some (.ref p)∧H p=some (.lst (ps.map V.ref))∧P p=none∧N p=none∧C.B p=none∧RowR (fun a ds=>∃xs,H a=some (.lst xs)∧P a=none∧N a=none∧C.B a=none∧D.flats ds=true∧RepsB C P N true ds xs) dss ps∧(p::ps).Nodup
def ERr (H0:Hp):ER→V→Prop
 |.val d b,v=>RepB C P N b d v
 |.fre ds b,v=>∃p xs,v=.ref p∧H p=some (.lst xs)∧H0 p=none∧P p=none∧N p=none∧RepsB C P N b ds xs
 |.brw ds b,v=>∃p xs,v=.ref p∧H p=some (.lst xs)∧P p=none∧N p=none∧C.B p=none∧RepsB C P N b ds xs
def ERs (H0:Hp):List ER→List V→Prop
 |[],vs=>vs=[]
 |e::es,vs=>∃v r,vs=v::r∧ERr C P N H H0 e v∧ERs H0 es r
def ExR (fs:List D) (d:Option Addr):Prop:=(fs=[]∧d=none)∨∃dd f v,fs=[f]∧d=some dd∧H dd=some (.xd [(("at" : Str),v)])∧RepB C P N true f v
structure Reg:Prop where
 pH:Same P H
 nH:Same N H
 bH:Same C.B H
 rB:Same C.R C.B
 p0:Same C.P0 P
 pn:∀a,P a≠none→C.P0 a≠none∨C.B a=none
 nw:∀a,N a≠none→C.B a=none
 dj:∀a,N a≠none→P a=none
structure AD (ρ:List Sl) (σ:L2.St):Prop where
 un:∀(i j:Nat) (p:Addr) (m:List (Int × D)) (b:Bool) (m':List (Int × D)) (c:Bool),ρ[i]? = some (.dct m b)→ρ[j]? = some (.dct m' c)→σ[i]? = some (some (.ref p))→σ[j]? = some (some (.ref p))→i=j
inductive Held (H:Hp):Sl→Option V→Addr→Prop
 |own {ds:List D} {b:Bool} {a:Addr}:Held H (.own ds b) (some (.ref a)) a
 |rt {dss:List (List D)} {a:Addr}:Held H (.row dss) (some (.ref a)) a
 |it {dss:List (List D)} {p a:Addr} {ps:List Addr}:H p=some (.lst (ps.map V.ref))→a∈ps→Held H (.row dss) (some (.ref p)) a
structure AR (H:Hp) (ρ:List Sl) (σ:L2.St):Prop where
 un:∀(i j:Nat) (dss:List (List D)) (t:Sl) (o u:Option V) (a:Addr),ρ[i]? = some (.row dss)→ρ[j]? = some t→σ[i]? = some o→σ[j]? = some u→Held H (.row dss) o a→Held H t u a→i=j
structure SR (ρ:List Sl) (σ:L2.St):Prop where
 reg:Reg C P N H
 len:σ.length=ρ.length
 sl:∀(i:Nat) (s:Sl),ρ[i]? = some s→∃o,σ[i]? = some o∧SlR C P N H s o
 ap:∀(i j:Nat) (p:Addr) (ds:List D) (b:Bool) (es:List D) (c:Bool),ρ[i]? = some (.own ds b)→ρ[j]? = some (.own es c)→σ[i]? = some (some (.ref p))→σ[j]? = some (some (.ref p))→i=j
 ad:AD ρ σ
 ar:AR H ρ σ
end
def Sl.isD:Sl→Bool
 |.dct _ _=>true
 |_=>false
theorem AD.sub {ρ ρ':List Sl} {σ σ':L2.St} (h:AD ρ σ) (k:∀(i:Nat) (m:List (Int × D)) (b:Bool),ρ'[i]? = some (Sl.dct m b)→σ'[i]? = σ[i]? ∧ ∃m' c,ρ[i]? = some (Sl.dct m' c)):AD ρ' σ':=⟨fun i j p m b m' c e1 e2 e3 e4=>by
 obtain⟨f1,_,_,g1⟩:=k i m b e1
 obtain⟨f2,_,_,g2⟩:=k j m' c e2
 rw[f1] at e3
 rw[f2] at e4
 exact h.un i j p _ _ _ _ g1 g2 e3 e4⟩
theorem AD.no {ρ:List Sl} {σ:L2.St} (h:∀(i:Nat) s,ρ[i]? = some s→s.isD=false):AD ρ σ:=⟨fun i j p m b m' c e1 e2 e3 e4=>by
 have:=h i _ e1
 cases this⟩
def Sl.isW:Sl→Bool
 |.row _=>true
 |_=>false
def Sl.isH:Sl→Bool
 |.row _=>true
 |.own _ _=>true
 |_=>false
theorem Held.not {H:Hp} {s:Sl} {o:Option V} {a:Addr} (h:Held H s o a):s.isH=true:=by cases h<;>rfl
theorem AR.no {H:Hp} {ρ:List Sl} {σ:L2.St} (h:∀(i:Nat) s,ρ[i]? = some s→s.isW=false):AR H ρ σ:=⟨fun i j dss t o u a e1 e2 e3 e4 h1 h2=>by
 have:=h i _ e1
 cases this⟩
theorem AR.heap {H H':Hp} {ρ:List Sl} {σ:L2.St} (h:AR H ρ σ) (k:∀(i:Nat) (dss:List (List D)) (p:Addr),ρ[i]? = some (.row dss)→σ[i]? = some (some (.ref p))→H' p=H p):AR H' ρ σ:=⟨fun i j dss t o u a e1 e2 e3 e4 h1 h2=>by
 refine h.un i j dss t o u a e1 e2 e3 e4 ?_ ?_
 ·cases h1 with
  |rt=>exact .rt
  |it q m=>exact .it ((k i _ _ e1 e3) ▸ q) m
 ·cases h2 with
  |own=>exact .own
  |rt=>exact .rt
  |it q m=>exact .it ((k j _ _ e2 e4) ▸ q) m⟩
theorem qaj {α:Type} {xs:List α} {i j:Nat} {x y:α} (e:(xs.set i x)[j]? = some y):(i=j∧y=x)∨(i≠j∧xs[j]? = some y):=by
 by_cases q:i=j
 ·subst q
  rw[List.getElem?_set] at e
  simp only[if_true] at e
  split at e
  ·cases e;exact .inl ⟨rfl,rfl⟩
  ·cases e
 ·rw[List.getElem?_set_ne q] at e
  exact .inr ⟨q,e⟩
theorem AR.set {H:Hp} {ρ:List Sl} {σ:L2.St} (h:AR H ρ σ) {i:Nat} {s:Sl} {o:Option V} (hs:s.isH=false):AR H (ρ.set i s) (σ.set i o):=⟨fun j k dss t o1 u a e1 e2 e3 e4 h1 h2=>by
 rcases qaj e1 with⟨q1,z1⟩ | ⟨q1,z1⟩
 ·rw[z1] at h1;have:=h1.not;rw[hs] at this;cases this
 ·rcases qaj e2 with⟨q2,z2⟩ | ⟨q2,z2⟩
  ·rw[z2] at h2;have:=h2.not;rw[hs] at this;cases this
  ·rw[List.getElem?_set_ne q1] at e3
   rw[List.getElem?_set_ne q2] at e4
   exact h.un j k dss t o1 u a z1 z2 e3 e4 h1 h2⟩
theorem AR.setS {H:Hp} {ρ:List Sl} {σ:L2.St} (h:AR H ρ σ) {i:Nat} {s:Sl} (hs:s.isH=false):AR H (ρ.set i s) σ:=⟨fun j k dss t o1 u a e1 e2 e3 e4 h1 h2=>by
 rcases qaj e1 with⟨q1,z1⟩ | ⟨q1,z1⟩
 ·rw[z1] at h1;have:=h1.not;rw[hs] at this;cases this
 ·rcases qaj e2 with⟨q2,z2⟩ | ⟨q2,z2⟩
  ·rw[z2] at h2;have:=h2.not;rw[hs] at this;cases this
  ·exact h.un j k dss t o1 u a z1 z2 e3 e4 h1 h2⟩
theorem AR.setO {H:Hp} {ρ:List Sl} {σ:L2.St} (h:AR H ρ σ) {i:Nat} {ds:List D} {b:Bool} {p:Addr} (k:∀(j:Nat) (dss:List (List D)) (u:Option V),i≠j→ρ[j]? = some (.row dss)→σ[j]? = some u→¬Held H (.row dss) u p):AR H (ρ.set i (.own ds b)) (σ.set i (some (.ref p))):=⟨fun j l dss t o1 u a e1 e2 e3 e4 h1 h2=>by
 rcases qaj e1 with⟨q1,z1⟩ | ⟨q1,z1⟩
 ·cases z1
 ·rw[List.getElem?_set_ne q1] at e3
  rcases qaj e2 with⟨q2,z2⟩ | ⟨q2,z2⟩
  ·rcases qaj e4 with⟨_,z4⟩ | ⟨q4,_⟩
   ·rw[z2,z4] at h2
    cases h2
    exact absurd h1 (k j dss o1 q1 z1 e3)
   ·exact absurd q2 q4
  ·rw[List.getElem?_set_ne q2] at e4
   exact h.un j l dss t o1 u a z1 z2 e3 e4 h1 h2⟩
theorem AR.own {H:Hp} {ρ:List Sl} {σ:L2.St} (h:AR H ρ σ) {i:Nat} {ds ds':List D} {b b':Bool} (e:ρ[i]? = some (.own ds b)):AR H (ρ.set i (.own ds' b')) σ:=⟨fun j l dss t o1 u a e1 e2 e3 e4 h1 h2=>by
 rcases qaj e1 with⟨q1,z1⟩ | ⟨q1,z1⟩
 ·cases z1
 ·rcases qaj e2 with⟨q2,z2⟩ | ⟨q2,z2⟩
  ·subst q2
   rw[z2] at h2
   cases h2
   exact h.un j i dss (.own ds b) o1 _ a z1 e e3 e4 h1 .own
  ·exact h.un j l dss t o1 u a z1 z2 e3 e4 h1 h2⟩
theorem AD.set {ρ:List Sl} {σ:L2.St} (h:AD ρ σ) {i:Nat} {s:Sl} {o:Option V} (hs:s.isD=false):AD (ρ.set i s) (σ.set i o):=h.sub fun j m b e=>by
 by_cases q:i=j
 ·subst q
  rw[List.getElem?_set] at e
  simp only[if_true] at e
  split at e
  ·cases e;cases hs
  ·cases e
 ·rw[List.getElem?_set_ne q] at e
  rw[List.getElem?_set_ne q]
  exact⟨rfl,_,_,e⟩
theorem AD.setS {ρ:List Sl} {σ:L2.St} (h:AD ρ σ) {i:Nat} {s:Sl} (hs:s.isD=false):AD (ρ.set i s) σ:=h.sub fun j m b e=>by
 by_cases q:i=j
 ·subst q
  rw[List.getElem?_set] at e
  simp only[if_true] at e
  split at e
  ·cases e;cases hs
  ·cases e
 ·rw[List.getElem?_set_ne q] at e
  exact⟨rfl,_,_,e⟩
section
variable {C:Ctx} {P N H P' N' H':Hp} {ρ:List Sl} {σ:L2.St}
theorem Reg.rH (h:Reg C P N H):Same C.R H:=h.rB.trans h.bH
theorem Reg.adv (h:Reg C P N H) (a:Adv P N H P' N' H'):Reg C P' N' H' where
 pH:=a.pH
 nH:=a.nH
 bH:=h.bH.trans a.hh
 rB:=h.rB
 p0:=h.p0.trans a.pp
 pn:=fun q e=>by
  rcases a.pn q e with e | e
  ·exact h.pn q e
  ·exact .inr (h.bH.free e)
 nw:=fun q e=>by
  rcases a.nw q e with e | e
  ·exact h.nw q e
  ·exact h.bH.free e
 dj:=fun q e=>by
  cases e2:P' q with
  |none=>rfl
  |some o =>
   have e3:P' q≠none:=by rw[e2];exact fun z=>nomatch z
   have e4:=a.dj q e e3
   rcases a.pn q e3 with z | z
   ·exact absurd (h.dj q e4) z
   ·exact absurd (h.nH.free z) e4
theorem RepB.adv {b:Bool} {d:D} {v:V} (hp:Same P P') (hn:Same N N') (h:RepB C P N b d v):RepB C P' N' b d v:=Rep.mono hp d v (LNb.mono hp hn) h
theorem RepsB.adv {b:Bool} {ds:List D} {vs:List V} (hp:Same P P') (hn:Same N N') (h:RepsB C P N b ds vs):RepsB C P' N' b ds vs:=Reps.mono hp ds vs (LNb.mono hp hn) h
theorem RepB.and1 {b c:Bool} {d:D} {v:V} (h:RepB C P N b d v):RepB C P N (b&&c) d v:=Rep.mono (L2.Same.refl _) d v LNb.and1 h
theorem RepB.and2 {b c:Bool} {d:D} {v:V} (h:RepB C P N c d v):RepB C P N (b&&c) d v:=Rep.mono (L2.Same.refl _) d v LNb.and2 h
theorem RepsB.and1 {b c:Bool} {d:List D} {v:List V} (h:RepsB C P N b d v):RepsB C P N (b&&c) d v:=Reps.mono (L2.Same.refl _) d v LNb.and1 h
theorem RepsB.and2 {b c:Bool} {d:List D} {v:List V} (h:RepsB C P N c d v):RepsB C P N (b&&c) d v:=Reps.mono (L2.Same.refl _) d v LNb.and2 h
theorem RepB.nf {b:Bool} {d:D} {v:V} (h:RepB C P N b d v):RepB C P N (b||d.flat) d v:=by
 cases b with
 |true=>exact h
 |false =>
  cases e:d.flat with
  |true=>exact Rep.flat d v e h
  |false=>exact h
theorem RepsB.nf {b:Bool} {d:List D} {v:List V} (h:RepsB C P N b d v):RepsB C P N (b||D.flats d) d v:=by
 cases b with
 |true=>exact h
 |false =>
  cases e:D.flats d with
  |true=>exact Reps.flat d v e h
  |false=>exact h
theorem Adv.off (a:Adv P N H P' N' H') {p:Addr} {o:HO} (h:H p=some o) (hp:P p=none):P' p=none:=by
 cases q:P' p with
 |none=>rfl
 |some u =>
  rcases a.pn p (by rw[q];simp) with z | z
  ·exact absurd hp z
  ·rw[h] at z;cases z
theorem Adv.offN (a:Adv P N H P' N' H') {p:Addr} {o:HO} (h:H p=some o) (hn:N p=none):N' p=none:=by
 cases q:N' p with
 |none=>rfl
 |some u =>
  rcases a.nw p (by rw[q];simp) with z | z
  ·exact absurd hn z
  ·rw[h] at z;cases z
theorem RowR.mono {R R':Addr→List D→Prop} (k:∀a ds,R a ds→R' a ds):∀{dss:List (List D)} {ps:List Addr},RowR R dss ps→RowR R' dss ps
 |[],_,h=>h
 |_::_,_,⟨a,q,e,h1,h2⟩=>⟨a,q,e,k _ _ h1,RowR.mono k h2⟩
theorem RowR.sub {R R':Addr→List D→Prop}:∀{dss:List (List D)} {ps:List Addr},RowR R dss ps→(∀a∈ps,∀ds,R a ds→R' a ds)→RowR R' dss ps
 |[],_,h,_=>h
 |_::_,_,⟨a,q,e,h1,h2⟩,k=>by
  subst e
  exact⟨a,q,rfl,k a (by simp) _ h1,RowR.sub h2 fun b hb=>k b (List.mem_cons_of_mem _ hb)⟩
theorem RowR.all {R:Addr→List D→Prop}:∀{dss:List (List D)} {ps:List Addr},RowR R dss ps→∀a∈ps,∃ds,R a ds
 |[],_,h,a,m=>by cases h;cases m
 |ds::_,_,⟨b,q,e,h1,h2⟩,a,m=>by
  subst e
  rcases List.mem_cons.mp m with z | z
  ·rw[z];exact⟨ds,h1⟩
  ·exact RowR.all h2 a z
theorem qcy:∀{ps qs:List Addr},ps.map V.ref=qs.map V.ref→ps=qs
 |[],[],_=>rfl
 |[],_::_,h=>nomatch h
 |_::_,[],h=>nomatch h
 |p::ps,q::qs,h=>by
  simp only[List.map_cons,List.cons.injEq] at h
  obtain⟨h1,h2⟩:=h
  cases h1
  rw[qcy h2]
theorem SlR.held {C:Ctx} {P N H:Hp} {dss:List (List D)} {o:Option V} {a:Addr} (h:SlR C P N H (.row dss) o) (k:Held H (.row dss) o a):(∃xs,H a=some (.lst xs))∧P a=none∧N a=none∧C.B a=none:=by
 obtain⟨p,ps,rfl,h1,h2,h3,h4,h5,h6⟩:=h
 cases k with
 |rt=>exact⟨⟨_,h1⟩,h2,h3,h4⟩
 |it q m =>
  rw[h1] at q
  injection q with q
  injection q with q
  have:=qcy q
  subst this
  obtain⟨ds,xs,g1,g2,g3,g4,_⟩:=h5.all a m
  exact⟨⟨xs,g1⟩,g2,g3,g4⟩
theorem DctR.mono {R R':D→V→Prop} (k:∀d v,R d v→R' d v):∀{m:List (Int × D)} {es:List (Key × V)},DctR R m es→DctR R' m es
 |[],_,h=>h
 |_::_,_,⟨v,r,e,h1,h2⟩=>⟨v,r,e,k _ _ h1,DctR.mono k h2⟩
theorem DctR.adv {b:Bool} (hp:Same P P') (hn:Same N N') {m:List (Int × D)} {es:List (Key × V)} (h:DctR (RepB C P N b) m es):DctR (RepB C P' N' b) m es:=h.mono fun _ _=>RepB.adv hp hn
theorem SlR.adv (a:Adv P N H P' N' H') {s:Sl} {o:Option V} (h:SlR C P N H s o):SlR C P' N' H' s o:=by
 cases s with
 |non=>trivial
 |val d b =>
  obtain⟨v,h3,h4⟩:=h
  exact⟨v,h3,RepB.adv a.pp a.nn h4⟩
 |own ds b =>
  obtain⟨p,xs,h3,h4,h5,h6,h7,h8⟩:=h
  exact⟨p,xs,h3,a.hh _ _ h4,a.off h4 h5,a.offN h4 h6,h7,RepsB.adv a.pp a.nn h8⟩
 |slf c fs =>
  obtain⟨p,dx,xs,h3,h4,h5,h6,h7,h8,h9⟩:=h
  exact⟨p,dx,xs,h3,a.hh _ _ h4,a.off h4 h5,a.offN h4 h6,h7,h8,RepsB.adv a.pp a.nn h9⟩
 |fxd d k =>
  obtain⟨v,h3,h4,h5⟩:=h
  exact⟨v,h3,h4,RepB.adv a.pp a.nn h5⟩
 |dct m b =>
  obtain⟨p,es,h3,h4,h5,h6,h7,h8⟩:=h
  exact⟨p,es,h3,a.hh _ _ h4,a.off h4 h5,a.offN h4 h6,h7,h8.adv a.pp a.nn⟩
 |row dss =>
  obtain⟨p,ps,h3,h4,h5,h6,h7,h8,h9⟩:=h
  exact⟨p,ps,h3,a.hh _ _ h4,a.off h4 h5,a.offN h4 h6,h7,h8.mono fun b ds ⟨xs,g1,g2,g3,g4,g5,g6⟩=>⟨xs,a.hh _ _ g1,a.off g1 g2,a.offN g1 g3,g4,g5,RepsB.adv a.pp a.nn g6⟩,h9⟩
theorem SR.adv (S:SR C P N H ρ σ) (a:Adv P N H P' N' H'):SR C P' N' H' ρ σ where
 reg:=S.reg.adv a
 len:=S.len
 sl:=fun i s e=>by
  obtain⟨o,h1,h2⟩:=S.sl i s e
  exact⟨o,h1,h2.adv a⟩
 ap:=S.ap
 ad:=S.ad
 ar:=S.ar.heap fun i dss p e1 e2=>by
  obtain⟨o,z1,z2⟩:=S.sl i _ e1
  rw[z1] at e2;cases e2
  obtain⟨⟨xs,q⟩,_⟩:=z2.held .rt
  rw[q];exact a.hh _ _ q
theorem ERr.adv (a:Adv P N H P' N' H') {H0:Hp} {er:ER} {v:V} (h:ERr C P N H H0 er v):ERr C P' N' H' H0 er v:=by
 cases er with
 |val d b=>exact RepB.adv a.pp a.nn h
 |fre ds b =>
  obtain⟨p,xs,h3,h4,h5,h6,h7,h8⟩:=h
  exact⟨p,xs,h3,a.hh _ _ h4,h5,a.off h4 h6,a.offN h4 h7,RepsB.adv a.pp a.nn h8⟩
 |brw ds b =>
  obtain⟨p,xs,h3,h4,h5,h6,h7,h8⟩:=h
  exact⟨p,xs,h3,a.hh _ _ h4,a.off h4 h5,a.offN h4 h6,h7,RepsB.adv a.pp a.nn h8⟩
theorem ERs.adv (a:Adv P N H P' N' H') {H0:Hp}:∀{er:List ER} {v:List V},ERs C P N H H0 er v→ERs C P' N' H' H0 er v
 |[],_,h=>h
 |e::es,_,⟨v,r,h1,h2,h3⟩=>⟨v,r,h1,h2.adv a,ERs.adv a h3⟩
theorem ERr.from {H0 H1:Hp} (e:Same H1 H0) {er:ER} {v:V} (h:ERr C P N H H0 er v):ERr C P N H H1 er v:=by
 cases er with
 |val d b=>exact h
 |fre ds b =>
  obtain⟨p,xs,h3,h4,h5,h6⟩:=h
  exact⟨p,xs,h3,h4,e.free h5,h6⟩
 |brw ds b=>exact h
theorem ERs.from {H0 H1:Hp} (e:Same H1 H0):∀{er:List ER} {v:List V},ERs C P N H H0 er v→ERs C P N H H1 er v
 |[],_,h=>h
 |_::_,_,⟨v,r,h1,h2,h3⟩=>⟨v,r,h1,h2.from e,ERs.from e h3⟩
theorem ERr.freeze {P1 N1 H0:Hp} {er:ER} {v:V} (a:Adv P1 N1 H0 P N H) (h:ERr C P N H H0 er v):∃N'',Adv P1 N1 H0 P N'' H∧ERr C P N'' H H0 er.frz v:=by
 cases er with
 |val d b=>exact⟨N,a,h⟩
 |brw d b=>exact⟨N,a,h⟩
 |fre ds b =>
  obtain⟨p,xs,rfl,h1,h2,h3,h4,h5⟩:=h
  have sn:Same N (upd N p (.lst xs)):=qau h4
  exact⟨upd N p (.lst xs),a.holdN h2 h1 h4 h3,p,xs,rfl,.inl upd_same,RepsB.adv (L2.Same.refl _) sn h5⟩
def ERw (C:Ctx) (P N H:Hp) (d:D) (b:Bool) (v:V):Prop:=
 match d with
 |.lst ds=>∃p xs,v=.ref p∧SqL C.G.K H p xs∧RepsB C P N b ds xs
 |d=>RepB C P N b d v
theorem ERr.w (r:Reg C P N H) {H0:Hp} {er:ER} {v:V} (h:ERr C P N H H0 er v):ERw C P N H er.d er.b v:=by
 cases er with
 |val d b =>
  cases d with
  |lst ds =>
   obtain⟨p,xs,e,h1,h2⟩:=h
   exact⟨p,xs,e,LNb.seq r.pH r.nH r.rH _ _ h1,h2⟩
  |_=>exact h
 |fre ds b =>
  obtain⟨p,xs,h3,h4,_,_,_,h5⟩:=h
  exact⟨p,xs,h3,.inl (.inl h4),h5⟩
 |brw ds b =>
  obtain⟨p,xs,h3,h4,_,_,_,h5⟩:=h
  exact⟨p,xs,h3,.inl (.inl h4),h5⟩
end
def spD (G:Glo) (n:Nat) (g:List D→RE ER):Sp:=fun vs H Q E=>∃P R ds,Same P H∧Same R H∧Reps G P (SqL G.K R) ds vs∧ds.length=n∧match g ds with
 |.bad=>False
 |.ok er=>∀v H' P' N',Adv P (fun _=>none) H P' N' H'→ERr ⟨G,R,H,P,fun _ _ _ _=>False,0,fun _=>none⟩ P' N' H' H er v→Q v H'
 |.exc c fs=>∀d H' P' N',Adv P (fun _=>none) H P' N' H'→ExR ⟨G,R,H,P,fun _ _ _ _=>False,0,fun _=>none⟩ P' N' H' fs d→E (.ref (G.ca c)) d H'
theorem qkQ {G:Glo} {n:Nat} {g:List D→RE ER} {vs:List V} {H:Hp} {Q:VK} {E:XK} (h:spD G n g vs H Q E):vs.length=n:=by
 obtain⟨P,R,ds,_,_,h1,h2,_⟩:=h
 rw[h1.length,h2]
def spI (G:Glo) (c n:Nat) (g:List D→RE (List D)):Sp:=fun vs H Q E=>∃x dx H0 P R ds us,vs=.ref x::us∧H=upd (upd H0 dx (.own x)) x (.ins (G.ca c) dx [])∧H0 x=none∧H0 dx=none∧Same P H0∧Same R H0∧Reps G P (SqL G.K R) ds us∧ds.length=n∧match g ds with
 |.bad=>False
 |.ok fs=>∀H' P',Same H0 H'→Same P P'→Same P' H'→(∀a,P' a≠none→P a≠none∨H0 a=none)→Rep G P' (fun _ _=>False) (.ins c fs) (.ref x)→Q .non H'
 |.exc c fs=>∀d H' P' N',Adv P (fun _=>none) H0 P' N' H'→ExR ⟨G,R,H0,P,fun _ _ _ _=>False,0,fun _=>none⟩ P' N' H' fs d→E (.ref (G.ca c)) d H'
end Cm
namespace Cm
open PySem PySem.Spec PyProof.Rows L2
def qal (s:List Nat):Str:=⟨s.toArray⟩
inductive Bop where
 |add | sub | mul | fdv | mdl | pow | shl | shr | and | or
inductive Cop where
 |eq | ne | lt | le | gt | ge | isin | nin
inductive Pri where
 |len | abs | min2 | max2 | min1 | max1 | sum | sorted | all | any | list | tupl | int | str | dmd
inductive Bme where
 |split | join | find
inductive Ty where
 |bool | int | str | list | tuple
mutual
inductive Ex where
 |nev
 |var (i:Nat)
 |cint (i:Int)
 |cbl (b:Bool)
 |cnon
 |cstr (s:List Nat)
 |glo (k:Nat)
 |bin (o:Bop) (a b:Ex)
 |cmp (o:Cop) (a b:Ex)
 |isN (a:Ex)
 |notN (a:Ex)
 |bop (and:Bool) (es:Exs)
 |bnot (a:Ex)
 |tup (es:Exs)
 |lst (es:Exs)
 |idx (a i:Ex)
 |slc (a:Ex) (lo hi:Exs)
 |call (f:Nat) (es:Exs)
 |pri (p:Pri) (es:Exs)
 |bm1 (m:Bme) (o a:Ex)
 |isi (a:Ex) (t:Ty)
 |lc (own:List Nat) (it:Itx) (tg:List Nat) (cnd:Tes) (e:Ex)
 |inxL (o a:Ex)
 |inxS (o a:Ex)
 |isc (a:Ex) (k:Nat)
inductive Te where
 |val (e:Ex)
 |bop (and:Bool) (ts:Tes)
 |not (t:Te)
inductive Tes where
 |nil
 |cons (t:Te) (ts:Tes)
inductive Exs where
 |nil
 |cons (e:Ex) (es:Exs)
inductive Itx where
 |any (e:Ex)
 |rng (es:Exs)
 |zp (a b:Ex)
 |en (a:Ex)
 |rv (a:Ex)
 |rvr (a:Ex)
end
@[simp] def ok (d:D):RE ER:=.ok (.val d true)
def qhZ (i j:Int):Prop:=(-(2 ^ 64)<i∧i<2 ^ 64)∨(-(2 ^ 64)<j∧j<2 ^ 64)
instance (i j:Int):Decidable (qhZ i j):=by unfold qhZ;infer_instance
def qh3 (j:Int):Prop:=j≠0∧j.natAbs<1073741824
instance (j:Int):Decidable (qh3 j):=by unfold qh3;infer_instance
def qiC (i j:Int):Prop:=0≤j∧j≤1000000∧i.natAbs<2 ^ 64
instance (i j:Int):Decidable (qiC i j):=by unfold qiC;infer_instance
def LIM:Nat:=16777216
def gd {α:Type} (b:Bool) (r:RE α):RE α:=match b with
 |true=>r
 |false=>.bad
@[simp] theorem qhv {α:Type} (r:RE α):gd true r=r:=rfl
theorem qco {α:Type} (b:Bool) (r:RE α):gd b r=if b=true then r else .bad:=by cases b<;>rfl
/- (they look at the first numeral alone: where it isn't known they stand still) -/
def qiU (i j:Int):Bool:=Nat.ble i.natAbs 18446744073709551615||(Nat.ble j.natAbs 18446744073709551615||Nat.ble (Builtin.Int.intBits i+Builtin.Int.intBits j) 134217728)
def nzB (j:Int):Bool:=Nat.ble 1 j.natAbs
def qlb (j:Int):Bool:=nzB j&&Nat.ble j.natAbs 1073741823
def dmB (j:Int):Bool:=Nat.ble 1 j.toNat&&Nat.ble j.natAbs 1073741823
def nnB (j:Int):Bool:=match j with
 |.ofNat _=>true
 |.negSucc _=>false
def qlj (i j:Int):Bool:=nnB j&&(Nat.ble j.natAbs 1000000&&Nat.ble i.natAbs 18446744073709551615)
def leB (n:Nat):Bool:=Nat.ble n LIM
def qla (n:Nat) (k:Int):Bool:=Nat.ble k.natAbs 9223372036854775807&&leB (n*k.toNat)
def qlS (i:Int):Bool:=Nat.ble i.natAbs.log2 1919
def qmQ (t s:Nat):Bool:=Nat.ble 1 t&&leB (s+2)
theorem qay (j:Int):(nzB j=true)=(j≠0):=by
 unfold nzB
 rw[Nat.ble_eq]
 exact propext ⟨fun h=>by omega,fun h=>by omega⟩
theorem qai (n:Nat):(leB n=true)=(n≤LIM):=by
 unfold leB
 rw[Nat.ble_eq]
theorem qaN (j:Int):(nnB j=true)=(0≤j):=by
 cases j with
 |ofNat n=>exact propext ⟨fun _=>Int.natCast_nonneg n,fun _=>rfl⟩
 |negSucc n=>exact propext ⟨fun h=>(by cases h),fun h=>(by omega)⟩
theorem qaD (i j:Int):(qiU i j=true)=(qhZ i j∨CMulX i j):=by
 unfold qiU qhZ CMulX
 rw[Bool.or_eq_true,Bool.or_eq_true,Nat.ble_eq,Nat.ble_eq,Nat.ble_eq]
 refine propext ⟨fun h=>?_,fun h=>?_⟩
 ·rcases h with h | h | h
  ·exact .inl (.inl (by omega))
  ·exact .inl (.inr (by omega))
  ·exact .inr (by omega)
 ·rcases h with(h | h) | h
  ·exact .inl (by omega)
  ·exact .inr (.inl (by omega))
  ·exact .inr (.inr (by omega))
theorem qaA (j:Int):(qlb j=true)=qh3 j:=by
 unfold qlb qh3
 rw[Bool.and_eq_true,qay,Nat.ble_eq]
 exact propext ⟨fun h=>⟨h.1,by omega⟩,fun h=>⟨h.1,by omega⟩⟩
theorem qkE (j:Int):(dmB j=true)=(0<j∧j<1073741824):=by
 unfold dmB
 rw[Bool.and_eq_true,Nat.ble_eq,Nat.ble_eq]
 exact propext ⟨fun h=>by omega,fun h=>by omega⟩
theorem qaC (i j:Int):(qlj i j=true)=qiC i j:=by
 unfold qlj qiC
 rw[Bool.and_eq_true,Bool.and_eq_true,qaN,Nat.ble_eq,Nat.ble_eq]
 exact propext ⟨fun h=>⟨h.1,by omega,by omega⟩,fun h=>⟨h.1,by omega,by omega⟩⟩
theorem qgu {n:Nat} {k:Int} (h:qla n k=true):-(2 ^ 63)≤k∧k<2 ^ 63∧n*k.toNat≤LIM:=by
 unfold qla at h
 rw[Bool.and_eq_true,qai,Nat.ble_eq] at h
 exact⟨by omega,by omega,h.2⟩
theorem qaH (i:Int):(qlS i=true)=(i.natAbs.log2<1920):=by
 unfold qlS
 rw[Nat.ble_eq]
 exact propext ⟨fun h=>by omega,fun h=>by omega⟩
theorem qat (t s:Nat):(qmQ t s=true)=(t≠0∧s+2≤LIM):=by
 unfold qmQ
 rw[Bool.and_eq_true,qai,Nat.ble_eq]
 exact propext ⟨fun h=>⟨by omega,h.2⟩,fun h=>⟨by omega,h.2⟩⟩
@[simp] def evB (o:Bop) (x y:D) (b:Bool):RE ER:=
 match o with
 |.add=>match x,y with
  |.int i,.int j=>ok (.int (i+j))
  |.str s,.str t=>gd (leB (s.length+t.length)) (ok (.str (s++t)))
  |.lst xs,.lst ys=>gd (leB (xs.length+ys.length)) (.ok (.fre (xs++ys) b))
  |_,_=>.bad
 |.sub=>match x,y with
  |.int i,.int j=>ok (.int (i - j))
  |_,_=>.bad
 |.mul=>match x,y with
  |.int i,.int j=>gd (qiU i j) (ok (.int (i*j)))
  |.lst xs,.int k=>gd (qla xs.length k) (.ok (.fre (List.replicate k.toNat xs).flatten b))
  |.str s,.int k=>gd (qla s.length k&&(Nat.ble 1 k.toNat&&Nat.ble 1 s.length)) (ok (.str (List.replicate k.toNat s).flatten))
  |_,_=>.bad
 |.fdv=>match x,y with
  |.int i,.int j=>gd (qlb j) (ok (.int (i.fdiv j)))
  |_,_=>.bad
 |.mdl=>match x,y with
  |.int i,.int j=>gd (nzB j) (ok (.int (i.fmod j)))
  |_,_=>.bad
 |.pow=>match x,y with
  |.int i,.int j=>gd (qlj i j) (ok (.int (i ^ j.toNat)))
  |_,_=>.bad
 |.shl=>match x,y with
  |.int i,.int j=>gd (qlj i j) (ok (.int (i*2 ^ j.toNat)))
  |_,_=>.bad
 |.shr=>match x,y with
  |.int i,.int j=>gd (nnB j) (ok (.int (i / 2 ^ j.toNat)))
  |_,_=>.bad
 |.and=>match x,y with
  |.int i,.int j=>ok (.int (Builtin.bitAnd i j))
  |_,_=>.bad
 |.or=>match x,y with
  |.int i,.int j=>ok (.int (Builtin.bitOr i j))
  |_,_=>.bad
def qfX (x y:D):RE Bool:=
 match x,y with
 |.int i,.int j=>.ok (decide (i=j))
 |.str s,.str t=>.ok (decide (s=t))
 |.bl a,.bl b=>.ok (a == b)
 |x,y=>if (x.fit 64&&y.fit 64)=true then .ok (x.eqb y) else .bad
def qhD (x y:D):RE Bool:=
 match y with
 |.lst ys=>if (x.fit 64&&(D.lst ys).fit 64)=true then .ok (ys.any fun z=>z.eqb x) else .bad
 |.tup ys=>if (x.fit 0&&D.fits ys 0)=true then .ok (ys.any fun z=>z.eqb x) else .bad
 |.str t=>match x with
  |.str [c]=>.ok (decide (c∈t))
  |_=>.bad
 |_=>.bad
@[simp] def evC (o:Cop) (x y:D):RE Bool:=
 match o with
 |.eq=>qfX x y
 |.ne=>(qfX x y).bind fun b=>.ok (!b)
 |.isin=>qhD x y
 |.nin=>(qhD x y).bind fun b=>.ok (!b)
 |.lt=>match x,y with
  |.int i,.int j=>.ok (decide (i<j))
  |_,_=>.bad
 |.le=>match x,y with
  |.int i,.int j=>.ok (decide (i≤j))
  |_,_=>.bad
 |.gt=>match x,y with
  |.int i,.int j=>.ok (decide (j<i))
  |_,_=>.bad
 |.ge=>match x,y with
  |.int i,.int j=>.ok (decide (j≤i))
  |_,_=>.bad
@[simp] def qev (x:D):RE Bool:=
 match x with
 |.bl b=>.ok b
 |.int i=>.ok (i != 0)
 |.non=>.ok false
 |.lst xs=>.ok (!xs.isEmpty)
 |.tup xs=>.ok (!xs.isEmpty)
 |_=>.bad
@[simp] def qkK (a i:D) (b:Bool):RE ER:=
 match a,i with
 |.lst xs,.int i=>match atI xs i with
  |some x=>.ok (.val x (b||x.flat))
  |none=>.bad
 |.tup xs,.int i=>match atI xs i with
  |some x=>.ok (.val x (b||x.flat))
  |none=>.bad
 |.str s,.int i=>gd (leB s.length) (match atI s i with
  |some c=>ok (.str [c])
  |none=>.bad)
 |_,_=>.bad
def qbd {α:Type} (xs:List α) (lo hi:Option Int):List α:=(xs.drop (HT.sIx xs.length 0 lo)).take (HT.sIx xs.length xs.length hi - HT.sIx xs.length 0 lo)
@[simp] def qnY (a:D) (lo hi:Option Int) (b:Bool):RE ER:=
 match a with
 |.lst xs=>.ok (.fre (qbd xs lo hi) b)
 |.tup xs=>gd (!(decide (HT.sIx xs.length 0 lo=0)&&decide (HT.sIx xs.length xs.length hi=xs.length))) (.ok (.val (.tup (qbd xs lo hi)) b))
 |.str s=>gd (leB s.length) (ok (.str (qbd s lo hi)))
 |_=>.bad
def qaX:List D→Option (List Int)
 |[]=>some []
 |.int i::ds=>(qaX ds).map (i :: ·)
 |_::_=>none
def qcb:List D→Option (List Bool)
 |[]=>some []
 |.bl i::ds=>(qcb ds).map (i :: ·)
 |_::_=>none
def qej:List D→Option (List (List Nat))
 |[]=>some []
 |.str i::ds=>(qej ds).map (i :: ·)
 |_::_=>none
def qfZ:List Int→Int
 |[]=>0
 |[x]=>x
 |x::xs=>max x (qfZ xs)
def qfY:List Int→Int
 |[]=>0
 |[x]=>x
 |x::xs=>min x (qfY xs)
def qkV (x:Int):List Int→List Int
 |[]=>[x]
 |y::ys=>if x≤y then x::y::ys else y::qkV x ys
def qbF:List Int→List Int
 |[]=>[]
 |x::xs=>qkV x (qbF xs)
def qny:List Int→List Int→Bool
 |[],[]=>false
 |[],_::_=>true
 |_::_,[]=>false
 |a::as,b::bs=>if a=b then qny as bs else decide (a<b)
def qn6 (x:List Int):List (List Int)→List (List Int)
 |[]=>[x]
 |y::ys=>if qny y x=true then y::qn6 x ys else x::y::ys
def qf2:List (List Int)→List (List Int)
 |[]=>[]
 |x::xs=>qn6 x (qf2 xs)
def liD:D→Option (List Int)
 |.lst ds=>qaX ds
 |_=>none
def qoe:List D→Option (List (List Int))
 |[]=>some []
 |d::ds=>match liD d with
  |some n=>(qoe ds).map (n :: ·)
  |none=>none
def liV (n:List Int):D:=.lst (n.map D.int)
def qoF (x:D) (b:Bool):RE ER:=match x with
 |.lst xs=>match qoe xs with
  |some ls=>.ok (.fre ((qf2 ls).map liV) b)
  |none=>.bad
 |_=>.bad
def qmT (k:Bool) (ns:List Int) (d:Int):Int:=match ns with
 |[]=>d
 |n::ns=>if k=true then qfZ (n::ns) else qfY (n::ns)
def qoP (k:Bool) (x y:D):RE ER:=match x with
 |.lst xs=>match qaX xs with
  |some ns=>match y with
   |.int d=>ok (.int (qmT k ns d))
   |_=>.bad
  |none=>.bad
 |_=>.bad
@[simp] def evP (p:Pri) (es:List ER):RE ER:=
 match p,es with
 |.len,[e]=>match e.d with
  |.lst xs=>ok (.int xs.length)
  |.tup xs=>ok (.int xs.length)
  |.str s=>gd (leB s.length) (ok (.int s.length))
  |_=>.bad
 |.abs,[e]=>match e.d with
  |.int i=>ok (.int (if i<0 then -i else i))
  |_=>.bad
 |.min2,[e,f]=>match e.d,f.d with
  |.int i,.int j=>ok (.int (if j<i then j else i))
  |_,_=>.bad
 |.max2,[e,f]=>match e.d,f.d with
  |.int i,.int j=>ok (.int (if j>i then j else i))
  |_,_=>.bad
 |.min1,[e]=>match e.d with
  |.lst xs=>match qaX xs with
   |some (n::ns)=>ok (.int (qfY (n::ns)))
   |_=>.bad
  |_=>.bad
 |.max1,[e]=>match e.d with
  |.lst xs=>match qaX xs with
   |some (n::ns)=>ok (.int (qfZ (n::ns)))
   |_=>.bad
  |_=>.bad
 |.sum,[e]=>match e.d with
  |.lst xs=>match qaX xs with
   |some ns=>ok (.int ns.sum)
   |none=>.bad
  |_=>.bad
 |.sorted,[e]=>match e.d with
  |.lst xs=>match qaX xs with
   |some ns=>.ok (.fre ((qbF ns).map D.int) true)
   |none=>.bad
  |_=>.bad
 |.all,[e]=>match e.d with
  |.lst xs=>match qcb xs with
   |some bs=>ok (.bl (bs.all id))
   |none=>.bad
  |_=>.bad
 |.any,[e]=>match e.d with
  |.lst xs=>match qcb xs with
   |some bs=>ok (.bl (bs.any id))
   |none=>.bad
  |_=>.bad
 |.list,[e]=>match e.d with
  |.lst xs=>.ok (.fre xs (e.b||D.flats xs))
  |.tup xs=>.ok (.fre xs (e.b||D.flats xs))
  |_=>.bad
 |.tupl,[e]=>match e.d with
  |.lst xs=>.ok (.val (.tup xs) (e.b||D.flats xs))
  |_=>.bad
 |.int,[e]=>match e.d with
  |.int i=>ok (.int i)
  |.bl c=>ok (.int (if c then 1 else 0))
  |.str s=>match intText? (qal s) with
   |some n=>gd (Nat.ble s.length 640) (ok (.int n))
   |none=>.bad
  |_=>.bad
 |.dmd,[e,f]=>match e.d,f.d with
  |.int i,.int j=>gd (dmB j) (ok (.tup [.int (i / j),.int (i % j)]))
  |_,_=>.bad
 |.str,[e]=>match e.d with
  |.int i=>gd (qlS i) (ok (.str (toString i:Str).cps.toList))
  |_=>.bad
 |_,_=>.bad
def idxD (y:D):List D→Option Nat
 |[]=>none
 |x::xs=>if x.eqb y=true then some 0 else (idxD y xs).map (· + 1)
def qdm (xs:List D) (y:D):RE ER:=
 if (y.fit 0&&D.fits xs 0)=true then (match idxD y xs with
  |some j=>ok (.int j)
  |none=>.bad) else .bad
def qoj (x:Int):List Int→List Int
 |[]=>[x]
 |y::ys=>if x<y then x::y::ys else if x=y then y::ys else y::qoj x ys
def qmX:List Int→List Int
 |[]=>[]
 |x::xs=>qoj x (qmX xs)
def qn3 (x:D):RE ER:=match x with
 |.lst xs=>match qaX xs with
  |some ns=>gd (Nat.ble ns.length 63) (.ok (.fre ((qmX ns).map D.int) true))
  |none=>.bad
 |_=>.bad
def qol (x:D):RE ER:=match x with
 |.lst xs=>match qaX xs with
  |some ns=>gd (leB ns.length) (.ok (.fre (ns.reverse.map D.int) true))
  |none=>.bad
 |_=>.bad
def qok (z:Int):List Int→Option Nat
 |[]=>none
 |s::ss=>if s=z then some 0 else (qok z ss).map (· + 1)
def qnk (z:List Nat):List (List Nat)→Option Nat
 |[]=>none
 |s::ss=>if s=z then some 0 else (qnk z ss).map (· + 1)
def qov (ss:List (List Nat)) (y:D):RE ER:=match y with
 |.str z=>(match qnk z ss with
  |some j=>ok (.int j)
  |none=>.bad)
 |_=>.bad
def qo4:D→Option (List (List Nat))
 |.tup xs=>qej xs
 |_=>none
def qna (xs:List D) (y:D):RE ER:=
 match qaX xs with
 |some ns=>match y with
  |.int k=>ok (.int (ns.count k:Nat))
  |_=>.bad
 |none=>.bad
def qfl (s:List Nat) (y:D):RE ER:=
 match y with
 |.str t=>(match Builtin.Str.occurrences (qal s) (qal t) 0 s.length 1 with
  |j::_=>ok (.int (j:Nat))
  |[]=>.bad)
 |_=>.bad
def qoq (ns:List Int):Nat:=(PyProof.Rows.firstMet (fun i=>ns.getD i 0) ns.length).length
@[simp] def qn8 (x:D):RE ER:=
 match x with
 |.lst xs=>match qaX xs with
  |some ns=>gd (Nat.ble ns.length 1000) (ok (.int (qoq ns)))
  |none=>.bad
 |_=>.bad
@[simp] def evM (m:Bme) (s:List Nat) (y:D):RE ER:=
 match m with
 |.split=>match y with
  |.str t=>gd (qmQ t.length s.length) (.ok (.fre ((Txt.split (qal s) (qal t)).map fun z=>.str z.cps.toList) true))
  |_=>.bad
 |.join=>match y with
  |.lst xs=>match qej xs with
   |some ss=>gd (leB ((ss.map List.length).sum+ss.length*s.length)) (ok (.str (Txt.join (qal s) (ss.map qal)).cps.toList))
   |none=>.bad
  |_=>.bad
 |.find=>match y with
  |.str t=>ok (.int (Txt.find (qal s) (qal t)))
  |_=>.bad
@[simp] def qlB (x:D) (t:Ty):RE ER:=
 match x,t with
 |.bl _,.bool=>ok (.bl true)
 |.bl _,.int=>ok (.bl true)
 |.int _,.int=>ok (.bl true)
 |.str _,.str=>ok (.bl true)
 |.lst _,.list=>ok (.bl true)
 |.tup _,.tuple=>ok (.bl true)
 |.ins _ _,_=>.bad
 |.exc _ _,_=>.bad
 |_,_=>ok (.bl false)
def qcj (lo c:Int) (n:Nat):List Int:=(List.range n).map fun(i:Nat)=>lo+(i:Int)*c
def inB (i:Int):Prop:=-(2 ^ 62)≤i∧i<2 ^ 62
instance (i:Int):Decidable (inB i):=by unfold inB;infer_instance
def qld (i j c:Int):Nat:=(Builtin.Range.rangeSize i j c).toNat
def qke (i:Int):Bool:=Nat.ble i.natAbs 4611686018427387903
def qfW (n:Int):Bool:=qke n&&leB n.toNat
def qli (i j:Int):Bool:=qke i&&(qke j&&leB (j - i).toNat)
def qmS (i j c:Int):Bool:=nzB c&&(Nat.ble c.natAbs 1073741823&&(Builtin.Range.small i j c&&(nnB (Builtin.Range.rangeSize i j c)&&leB (qld i j c))))
theorem qeF {i:Int} (h:qke i=true):inB i:=by
 unfold qke at h
 rw[Nat.ble_eq] at h
 exact⟨by omega,by omega⟩
theorem qhq {n:Int} (h:qfW n=true):inB n∧n.toNat≤LIM:=by
 unfold qfW at h
 rw[Bool.and_eq_true,qai] at h
 exact⟨qeF h.1,h.2⟩
theorem qkL {i j:Int} (h:qli i j=true):inB i∧inB j∧(j - i).toNat≤LIM:=by
 unfold qli at h
 rw[Bool.and_eq_true,Bool.and_eq_true,qai] at h
 exact⟨qeF h.1,qeF h.2.1,h.2.2⟩
theorem qaB (i j c:Int):(qmS i j c=true)=(c≠0∧c.natAbs<1073741824∧Builtin.Range.small i j c=true∧0≤Builtin.Range.rangeSize i j c∧qld i j c≤LIM):=by
 unfold qmS
 rw[Bool.and_eq_true,Bool.and_eq_true,Bool.and_eq_true,Bool.and_eq_true,qay,Nat.ble_eq,qaN,qai]
 exact propext ⟨fun h=>⟨h.1,by omega,h.2.2⟩,fun h=>⟨h.1,by omega,h.2.2⟩⟩
@[simp] def qdz (es:List ER):RE (List Int):=
 match es with
 |[a]=>match a.d with
  |.int n=>gd (qfW n) (.ok (qcj 0 1 n.toNat))
  |_=>.bad
 |[a,b]=>match a.d,b.d with
  |.int i,.int j=>gd (qli i j) (.ok (qcj i 1 (j - i).toNat))
  |_,_=>.bad
 |[a,b,c]=>match a.d,b.d,c.d with
  |.int i,.int j,.int c=>gd (qmS i j c) (.ok (qcj i c (qld i j c)))
  |_,_,_=>.bad
 |_=>.bad
structure Env where
 fn:List (Str × (List D→RE ER))
 gc:List (Str × D)
 mn:List Str
 mt:Nat→Nat→Option (List D→RE ER)
 fs:List Str
 fi:Nat→Nat→Option Nat
 nw:List (Nat × (List D→RE (List D))):=[]
 ck:List (Nat→Option Bool):=[]
 ik:List (Nat→Option Bool):=[]
 xk:List Nat:=[]
 dc:List (Str × List (List Nat × Option D)):=[]
def qbV:List (Nat × Nat × (List D→RE ER))→Nat→Nat→Option (List D→RE ER)
 |[],_,_=>none
 |t::r,c,m=>if t.1=c then (if t.2.1=m then some t.2.2 else qbV r c m) else qbV r c m
def qbW:List (Nat × Nat × Nat)→Nat→Nat→Option Nat
 |[],_,_=>none
 |t::r,c,m=>if t.1=c then (if t.2.1=m then some t.2.2 else qbW r c m) else qbW r c m
@[simp] def qby (k:Bool) (er:ER):RE ER:=
 match k with
 |false=>match er with
  |.brw _ _=>.bad
  |.val d b=>.ok (.val d (b||d.flat))
  |.fre ds b=>.ok (.fre ds b)
 |true=>match er with
  |.val d b=>if (b||d.flat)=true then .ok (.val d true) else .bad
  |.fre ds b=>if (b||D.flats ds)=true then .ok (.fre ds true) else .bad
  |.brw _ _=>.bad
def qkO:List ER→Option (List (List Int))
 |[]=>some []
 |.brw ds _::es=>match qaX ds with
  |some ns=>(qkO es).map (ns :: ·)
  |none=>none
 |.val _ _::es=>qkO es
 |.fre _ _::es=>qkO es
mutual
def qi7 (os:List (List Int)):D→Bool
 |.lst ds=>match qaX ds with
  |some ns=>!decide (ns∈os)
  |none=>false
 |.tup ds=>qiJ os ds
 |.ins _ _=>false
 |.exc _ _=>false
 |.non=>true
 |.bl _=>true
 |.int _=>true
 |.str _=>true
def qiJ (os:List (List Int)):List D→Bool
 |[]=>true
 |d::ds=>qi7 os d&&qiJ os ds
end
def qpM (os:List (List Int)) (er:ER):RE ER:=match er with
 |.val d _=>if qi7 os d=true then .ok (.val d d.flat) else .bad
 |_=>.bad
@[simp] def wipeS (ρ:List Sl):List Nat→List Sl
 |[]=>ρ
 |v::vs=>(wipeS ρ vs).set v .non
@[simp] def qgB:List Nat→List D→Bool→List Sl→Option (List Sl)
 |[],[],_,ρ=>some ρ
 |i::is,d::ds,b,ρ=>qgB is ds b (ρ.set i (.val d (b||d.flat)))
 |_,_,_,_=>none
@[simp] def qbZ (tg:List Nat) (x:D) (b:Bool) (ρ:List Sl):Option (List Sl):=
 match tg with
 |[i]=>some (ρ.set i (.val x (b||x.flat)))
 |tg=>match x with
  |.tup ds=>qgB tg ds b ρ
  |_=>none
def lcl (f:D→RE (Option (D × Bool))):List D→RE (List D × Bool)
 |[]=>.ok ([],true)
 |x::xs=>(f x).bind fun r=>(lcl f xs).bind fun q=>match r with
  |none=>.ok q
  |some y=>.ok (y.1::q.1,y.2&&q.2)
@[simp] def noX {α:Type}:RE α→RE α
 |.exc _ _=>.bad
 |r=>r
@[simp] def dis (f:List D→Bool→ER) (es:List ER):RE ER:=if (es.all ER.isV)=true then .ok (f (es.map ER.d) (es.all ER.b)) else .bad
structure Wk where
 xs:List D
 b:Bool
 own:Bool
@[simp] def qd1 (e:ER):RE Wk:=
 match e.d with
 |.lst xs=>.ok ⟨xs,e.b,e.isB⟩
 |.tup xs=>.ok ⟨xs,e.b,false⟩
 |.str s=>.ok ⟨s.map fun c=>.str [c],true,false⟩
 |_=>.bad
def qm4:List (Option (Nat→Option Bool))→Nat→Option Bool
 |[],_=>some false
 |none::_,_=>none
 |some g::r,c=>match g c with
  |some true=>some true
  |some false=>qm4 r c
  |none=>none
def qon (cks:List (Option (Nat→Option Bool))) (x:D):RE ER:=match x with
 |.exc c []=>match qm4 cks c with
  |some b=>ok (.bl b)
  |none=>.bad
 |_=>.bad
def qhP (ck ik:Option (Nat→Option Bool)) (x:D):RE ER:=
 match x with
 |.exc c fs=>match fs with
  |[]=>match ck with
   |some g=>match g c with
    |some b=>ok (.bl b)
    |none=>.bad
   |none=>.bad
  |_=>.bad
 |.ins c _=>match ik with
  |some g=>match g c with
   |some b=>ok (.bl b)
   |none=>.bad
  |none=>.bad
 |_=>.bad
def pkS:Sl→Sl
 |.row dss=>.val (.lst (dss.map D.lst)) true
 |s=>s
def frz (z:Bool) (ρ:List Sl):List Sl:=if z=true then ρ.map pkS else ρ
def pkR:RE ER→RE ER
 |.bad=>.bad
 |.exc c fs=>if D.flats fs=true then .exc c fs else .bad
 |.ok er=>match er with
  |.val d _=>if d.flat=true then .ok (.val d true) else .bad
  |.fre ds _=>if D.flats ds=true then .ok (.fre ds true) else .bad
  |.brw _ _=>.bad
def qbL {α:Type} (k:Int):List (Int × α)→Option α
 |[]=>none
 |e::r=>if e.1=k then some e.2 else qbL k r
def qlk {α:Type} (k:Int) (x:α) (m:List (Int × α)):List (Int × α):=m.map fun e=>if e.1=k then (e.1,x) else e
def qhF {α:Type} (k:Int) (x:α) (m:List (Int × α)):List (Int × α):=if (qbL k m).isSome=true then qlk k x m else m++[(k,x)]
def qn4 (m:List (Int × D)) (n:Bool) (x:D):RE ER:=match x with
 |.int k=>ok (.bl ((qbL k m).isSome == n))
 |_=>.bad
def qoH (m:List (Int × D)) (b:Bool) (x:D):RE ER:=match x with
 |.int k=>match qbL k m with
  |some d=>.ok (.val d (b||d.flat))
  |none=>.bad
 |_=>.bad
def qpj (t:List (List Nat × Option D)) (n:Bool) (x:D):RE ER:=
 match x with
 |.str s=>match t.lookup s with
  |some o=>ok (.bl (o.isSome == n))
  |none=>.bad
 |_=>.bad
def qoN (t:List (List Nat × Option D)) (x:D):RE ER:=
 match x with
 |.str s=>match t.lookup s with
  |some (some d)=>ok d
  |_=>.bad
 |_=>.bad
@[simp] def D.isNon:D→Bool
 |.non=>true
 |_=>false
mutual
@[simp] def ev (Γ:Env):Ex→List Sl→RE ER
 |.nev,_=>.bad
 |.var i,ρ=>match ρ[i]? with
  |some (.val d b)=>.ok (.val d b)
  |some (.own ds b)=>.ok (.brw ds b)
  |some (.fxd d _)=>.ok (.val d false)
  |_=>.bad
 |.cint i,_=>ok (.int i)
 |.cbl b,_=>ok (.bl b)
 |.cnon,_=>ok .non
 |.cstr s,_=>ok (.str s)
 |.glo k,_=>match Γ.gc[k]? with
  |some c=>.ok (.val c.2 true)
  |none=>.bad
 |.bin o a b,ρ=>(ev Γ a ρ).bind fun x=>(ev Γ b ρ).bind fun y=>evB o x.d y.d (x.b&&y.b)
 |.cmp o a b,ρ=>(ev Γ a ρ).bind fun x=>(ev Γ b ρ).bind fun y=>(evC o x.d y.d).bind fun c=>ok (.bl c)
 |.isN a,ρ=>(ev Γ a ρ).bind fun x=>ok (.bl x.d.isNon)
 |.notN a,ρ=>(ev Γ a ρ).bind fun x=>ok (.bl (!x.d.isNon))
 |.bop c es,ρ=>qhk Γ c es ρ
 |.bnot a,ρ=>(ev Γ a ρ).bind fun x=>(qev x.d).bind fun k=>ok (.bl (!k))
 |.tup es,ρ=>(evs Γ es ρ).bind fun r=>dis (fun ds b=>.val (.tup ds) b) r
 |.lst es,ρ=>(evs Γ es ρ).bind fun r=>dis .fre r
 |.idx a i,ρ=>(ev Γ a ρ).bind fun x=>(ev Γ i ρ).bind fun y=>qkK x.d y.d x.b
 |.slc a lo hi,ρ=>(ev Γ a ρ).bind fun x=>(evO Γ lo ρ).bind fun l=>(evO Γ hi ρ).bind fun h=>qnY x.d l h x.b
 |.call f es,ρ=>match Γ.fn[f]? with
  |some g=>(evs Γ es ρ).bind fun r=>(g.2 (r.map ER.d)).bind (qby (!r.all ER.isV))
  |none=>.bad
 |.pri p es,ρ=>(evs Γ es ρ).bind fun r=>evP p r
 |.bm1 m o a,ρ=>(ev Γ o ρ).bind fun x=>match x.d with
  |.str s=>(ev Γ a ρ).bind fun y=>evM m s y.d
  |_=>.bad
 |.isi a t,ρ=>(ev Γ a ρ).bind fun x=>qlB x.d t
 |.lc own it tg cnd e,ρ=>(evI Γ it ρ).bind fun xs=>gd (leB xs.xs.length) ((lcl (fun x=>match qbZ tg x xs.b (wipeS ρ own) with
   |some ρ'=>noX ((qdx Γ true cnd ρ').bind fun k=>if k=true then (ev Γ e ρ').bind fun y=>match y with
    |.brw _ _=>.bad
    |y=>.ok (some (y.d,y.b)) else .ok none)
   |none=>.bad) xs.xs).bind fun r=>.ok (.fre r.1 r.2))
 |.inxL o a,ρ=>(ev Γ o ρ).bind fun x=>match x.d with
  |.lst xs=>(ev Γ a ρ).bind fun y=>qdm xs y.d
  |_=>.bad
 |.inxS o a,ρ=>(ev Γ o ρ).bind fun x=>match x.d with
  |.str s=>(ev Γ a ρ).bind fun y=>qfl s y.d
  |_=>.bad
 |.isc a k,ρ=>(ev Γ a ρ).bind fun x=>qhP (Γ.ck[k]?) (Γ.ik[k]?) x.d
@[simp] def evs (Γ:Env):Exs→List Sl→RE (List ER)
 |.nil,_=>.ok []
 |.cons e es,ρ=>(ev Γ e ρ).bind fun x=>(evs Γ es ρ).bind fun r=>.ok (x.frz::r)
@[simp] def evO (Γ:Env):Exs→List Sl→RE (Option Int)
 |.nil,_=>.ok none
 |.cons e es,ρ=>(ev Γ e ρ).bind fun x=>match x.d with
  |.int i=>.ok (some i)
  |_=>.bad
@[simp] def evT (Γ:Env):Te→List Sl→RE Bool
 |.bop c es,ρ=>qdx Γ c es ρ
 |.not a,ρ=>(evT Γ a ρ).bind fun k=>.ok (!k)
 |.val e,ρ=>(ev Γ e ρ).bind fun x=>qev x.d
@[simp] def qdx (Γ:Env) (c:Bool):Tes→List Sl→RE Bool
 |.nil,_=>.ok c
 |.cons e es,ρ=>(evT Γ e ρ).bind fun k=>if k=c then qdx Γ c es ρ else .ok k
@[simp] def qhk (Γ:Env) (c:Bool):Exs→List Sl→RE ER
 |.nil,_=>ok (.bl c)
 |.cons e es,ρ=>(ev Γ e ρ).bind fun x=>match x.d with
  |.bl k=>if k=c then qhk Γ c es ρ else ok (.bl k)
  |_=>.bad
@[simp] def evI (Γ:Env):Itx→List Sl→RE Wk
 |.any e,ρ=>(ev Γ e ρ).bind qd1
 |.rng es,ρ=>(evs Γ es ρ).bind fun r=>(qdz r).bind fun ns=>.ok ⟨ns.map D.int,true,false⟩
 |.zp a b,ρ=>(ev Γ a ρ).bind fun x=>(ev Γ b ρ).bind fun y=>match x.d,y.d with
  |.lst xs,.lst ys=>.ok ⟨List.zipWith (fun u v=>.tup [u,v]) xs ys,x.b&&y.b,x.isB||y.isB⟩
  |_,_=>.bad
 |.en a,ρ=>(ev Γ a ρ).bind fun x=>match x.d with
  |.lst xs=>.ok ⟨xs.zipIdx.map fun p=>.tup [.int p.2,p.1],x.b,x.isB⟩
  |_=>.bad
 |.rv a,ρ=>(ev Γ a ρ).bind fun x=>match x.d with
  |.lst xs=>.ok ⟨xs.reverse,x.b,x.isB⟩
  |_=>.bad
 |.rvr a,ρ=>(ev Γ a ρ).bind fun x=>match x.d with
  |.int n=>gd (qfW n) (.ok ⟨(qcj (0+(((n - 0).toNat:Nat):Int) - 1) (-1) (n - 0).toNat).map D.int,true,false⟩)
  |_=>.bad
end
inductive Pth where
 |var (j:Nat)
 |ix (p:Pth) (k:Nat)
inductive Ch1 where
 |clr (p:Pth)
 |app (p:Pth) (e:Ex)
 |put (p:Pth) (k:Nat) (e:Ex)
inductive Ch where
 |nil
 |one (c:Ch1) (r:Ch)
 |wlk (l:Nat) (p:Pth) (b:List Ch1) (r:Ch)
 |ifs (j:Nat) (b r:Ch)
mutual
def qcn:Ex→Bool
 |.cint _=>true
 |.cstr _=>true
 |.cbl _=>true
 |.cnon=>true
 |.tup es=>qgK es
 |.lst es=>qgK es
 |_=>false
def qgK:Exs→Bool
 |.nil=>true
 |.cons e es=>qcn e&&qgK es
end
@[simp] def D.isRef:D→Bool
 |.lst _=>true
 |.tup _=>true
 |.ins _ _=>true
 |.exc _ _=>true
 |_=>false
def clD (ds:List D):Nat:=if ds.isEmpty then 0 else if ds.any D.isRef then 2 else 1
abbrev Zs:=List Nat × Nat
def qiv (τ:List (Nat × D)) (Z:Zs):Pth→Option D
 |.var j=>τ.lookup j
 |.ix p k=>match qiv τ Z p with
  |some (.tup ds)=>ds[k]?
  |some (.lst ds)=>if clD ds∈Z.1 then none else ds[k]?
  |_=>none
def qfV (τ:List (Nat × D)) (Z:Zs):Ch1→Option Zs
 |.clr p=>match qiv τ Z p with
  |some (.lst ds)=>some (clD ds::Z.1,Z.2)
  |_=>none
 |.app p e=>match qiv τ Z p with
  |some (.lst ds)=>if (qcn e&&leB (ds.length+(Z.2+1)))=true then some (clD ds::Z.1,Z.2+1) else none
  |_=>none
 |.put p k e=>match qiv τ Z p with
  |some (.lst ds)=>if clD ds∈Z.1 then none else if (qcn e&&decide (k<ds.length))=true then some (clD ds::Z.1,Z.2) else none
  |_=>none
def qg1 (τ:List (Nat × D)):List Ch1→Zs→Option Zs
 |[],Z=>some Z
 |c::cs,Z=>(qfV τ Z c).bind (qg1 τ cs)
def qix (f:D→Zs→Option Zs):List D→Zs→Option Zs
 |[],Z=>some Z
 |d::ds,Z=>(f d Z).bind (qix f ds)
def drp (l:Nat) (τ:List (Nat × D)):List (Nat × D):=τ.filter fun e=>e.1 != l
def qgf (ls:List Nat) (τ:List (Nat × D)):List (Nat × D):=τ.filter fun e=>!ls.contains e.1
def Ch.tgs:Ch→List Nat
 |.nil=>[]
 |.one _ r=>r.tgs
 |.wlk l _ _ r=>l::r.tgs
 |.ifs _ b r=>b.tgs++r.tgs
def chg:Ch→List (Nat × D)→Zs→Option Zs
 |.nil,_,Z=>some Z
 |.one c r,τ,Z=>(qfV τ Z c).bind (chg r τ)
 |.wlk l p b r,τ,Z=>match qiv τ Z p with
  |some (.lst ds)=>(qix (fun d Z=>qg1 ((l,d)::drp l τ) b Z) ds Z).bind fun Z'=>if clD ds∈Z'.1 then none else chg r (drp l τ) Z'
  |_=>none
 |.ifs j b r,τ,Z=>match τ.lookup j with
  |some d=>if d.isNon=true then chg r (qgf b.tgs τ) Z else (chg b τ Z).bind (chg r (qgf b.tgs τ))
  |none=>none
def Ch1.len:List Ch1→Nat:=List.length
def Ch.len:Ch→Nat
 |.nil=>0
 |.one _ r=>r.len+1
 |.wlk _ _ _ r=>r.len+1
 |.ifs _ _ r=>r.len+1
def ent (k:Nat):Sl→Sl
 |.val d b=>if (b||d.flat)=true then .val d b else .fxd d k
 |.own ds b=>.own ds b
 |.fxd d _=>.fxd d k
 |_=>.non
def qeI:Nat→List Sl→List Sl
 |_,[]=>[]
 |k,q::qs=>ent k q::qeI (k+1) qs
def ext (k:Nat) (q:Sl):Sl→Sl
 |.val d b=>if (b||d.flat)=true then .val d b else .non
 |.own ds b=>if (b||D.flats ds)=true then .own ds b else .non
 |.fxd _ j=>if j=k then (match q with
  |.val d b=>.val d b
  |.fxd d m=>.fxd d m
  |_=>.non) else .non
 |_=>.non
def qew (ρ:List Sl):Nat→List Sl→List Sl
 |_,[]=>[]
 |k,r::rs=>ext k (ρ[k]?.getD .non) r::qew ρ (k+1) rs
def qfT:ER→Option D
 |.val d b=>if (b||d.flat)=true then some d else none
 |.fre ds b=>if (b||D.flats ds)=true then some (.lst ds) else none
 |.brw _ _=>none
mutual
def noK (k:Nat):D→Bool
 |.lst ds=>(clD ds != k)&&qkG k ds
 |.tup ds=>qkG k ds
 |_=>true
def qkG (k:Nat):List D→Bool
 |[]=>true
 |d::ds=>noK k d&&qkG k ds
end
def qpn:ER→Option (List D × List D)
 |.val (.tup [.lst ds,.lst es]) true=>if (D.flats ds&&(clD ds != clD es)&&qkG (clD es) es)=true then some (ds,es) else none
 |_=>none
inductive Tr where
 |ex (e:Ex)
 |as (j:Nat) (e:Ex)
 |iff (t:Te) (a b:Tr)
mutual
inductive Sm where
 |nev
 |rse (k:Nat)
 |tryx (k i j:Nat) (b:Tr)
 |asg (i:Nat) (e:Ex)
 |own (i:Nat) (e:Ex)
 |put (i:Nat) (ix e:Ex)
 |app (i:Nat) (e:Ex)
 |clr (i:Nat)
 |expr (e:Ex)
 |ret (e:Ex)
 |retN
 |pas
 |brk
 |cnt
 |iff (c:Te) (a b:Sms)
 |for (it:Itx) (tg:List Nat) (b:Sms)
 |whl (c:Te) (b:Sms)
 |row (i:Nat) (es:Exs)
inductive Sms where
 |nil
 |cons (s:Sm) (ss:Sms)
 |frz (i:Nat) (ss:Sms)
 |hav (i f:Nat) (es:Exs) (rd:Sms) (cs:Ch) (ss:Sms)
end
inductive Out where
 |bad | nx (ρ:List Sl) | brk (ρ:List Sl) | cnt (ρ:List Sl) | ret (er:ER) | exc (c:Nat) (fs:List D)
def RE.out {α:Type}:RE α→(α→Out)→Out
 |.bad,_=>.bad
 |.ok a,f=>f a
 |.exc c fs,_=>.exc c fs
@[simp] theorem RE.out_ok {α:Type} (a:α) (f:α→Out):(RE.ok a).out f=f a:=rfl
@[simp] theorem RE.out_bad {α:Type} (f:α→Out):(RE.bad:RE α).out f=.bad:=rfl
@[simp] theorem RE.out_exc {α:Type} (c:Nat) (fs:List D) (f:α→Out):(RE.exc c fs:RE α).out f=.exc c fs:=rfl
def gdO (b:Bool) (o:Out):Out:=match b with
 |true=>o
 |false=>.bad
@[simp] theorem qcu (o:Out):gdO true o=o:=rfl
theorem qaP (b:Bool) (o:Out):gdO b o=if b=true then o else .bad:=by cases b<;>rfl
def Out.seq:Out→(List Sl→Out)→Out
 |.nx ρ,f=>f ρ
 |o,_=>o
@[simp] theorem Out.seq_nx (ρ:List Sl) (f:List Sl→Out):(Out.nx ρ).seq f=f ρ:=rfl
@[simp] theorem Out.seq_ret (e:ER) (f:List Sl→Out):(Out.ret e).seq f=.ret e:=rfl
@[simp] theorem Out.seq_brk (ρ:List Sl) (f:List Sl→Out):(Out.brk ρ).seq f=.brk ρ:=rfl
@[simp] theorem Out.seq_cnt (ρ:List Sl) (f:List Sl→Out):(Out.cnt ρ).seq f=.cnt ρ:=rfl
@[simp] theorem Out.seq_bad (f:List Sl→Out):Out.bad.seq f=.bad:=rfl
@[simp] theorem Out.seq_exc (c:Nat) (fs:List D) (f:List Sl→Out):(Out.exc c fs).seq f=.exc c fs:=rfl
def qb2 (f:D→List Sl→Out):List D→List Sl→Out
 |[],ρ=>.nx ρ
 |x::xs,ρ=>match f x ρ with
  |.nx ρ'=>qb2 f xs ρ'
  |.cnt ρ'=>qb2 f xs ρ'
  |.brk ρ'=>.nx ρ'
  |o=>o
def qck (c:List Sl→RE Bool) (f:List Sl→Out):Nat→List Sl→Out
 |0,_=>.bad
 |n+1,ρ=>(c ρ).out fun k=>if k=true then (match f ρ with
  |.nx ρ'=>qck c f n ρ'
  |.cnt ρ'=>qck c f n ρ'
  |.brk ρ'=>.nx ρ'
  |o=>o) else .nx ρ
def qmu:Nat:=1000000000
@[simp] def qnm:ER→ER
 |.brw ds b=>.fre ds b
 |e=>e
def qbC (ρ:List Sl) (i:Nat) (f:List D→Bool→Out):Out:=
 match ρ[i]? with
 |some (.own ds b)=>f ds b
 |_=>.bad
def qoy (ρ:List Sl) (i:Nat) (f:List (Int × D)→Bool→Out):Out:=
 match ρ[i]? with
 |some (.dct m b)=>f m b
 |_=>.bad
def qoQ (ρ:List Sl) (i k:Nat) (f:List (List D)→List D→Out):Out:=
 match ρ[i]? with
 |some (.row dss)=>match dss[k]? with
  |some ds=>f dss ds
  |none=>.bad
 |_=>.bad
def evF (Γ:Env):Exs→List Sl→RE (List (List D))
 |.nil,_=>.ok []
 |.cons e es,ρ=>(ev Γ e ρ).bind fun x=>match x with
  |.fre ds _=>if D.flats ds=true then (evF Γ es ρ).bind fun r=>.ok (ds::r) else .bad
  |_=>.bad
def qpk (ρ:List Sl) (i:Nat) (f:D→Bool→Out):Out:=
 match ρ[i]? with
 |some (.val d b)=>f d b
 |_=>.bad
@[simp] def held (er:ER) (f:D→Bool→Out):Out:=
 match er with
 |.brw _ _=>.bad
 |.val d b=>f d b
 |.fre ds b=>f (.lst ds) b
def onB (o:Option (List Sl)) (k:List Sl→Out):Out:=
 match o with
 |some ρ=>k ρ
 |none=>.bad
@[simp] def heldF (er:ER) (f:D→Out):Out:=
 match er with
 |.brw _ _=>.bad
 |.val d b=>gdO (b||d.flat) (f d)
 |.fre ds b=>gdO (b||D.flats ds) (f (.lst ds))
def qlz:List Sl→Bool
 |[]=>true
 |.slf _ _::_=>false
 |_::ρ=>qlz ρ
def qpd (ρ:List Sl) (f:Nat→List D→List Sl→Out):Out:=
 match ρ with
 |.slf c fs::r=>if qlz r=true then f c fs r else .bad
 |_=>.bad
@[simp] theorem qhN (ρ:List Sl) (k:List Sl→Out):onB (some ρ) k=k ρ:=rfl
@[simp] theorem qmW (k:List Sl→Out):onB none k=.bad:=rfl
@[simp] def qn0:List Nat→List ER→List Sl→Out
 |[],[],ρ=>.nx ρ
 |i::tg,e::es,ρ=>held e fun d b=>qn0 tg es (ρ.set i (.val d b))
 |_,_,_=>.bad
def Out.hv (o:Out) (ρ:List Sl) (i:Nat) (d:D) (cs:Ch) (f:List Sl→Out):Out:=
 match o with
 |.nx ρ'=>(match ρ'[i]? with
  |some (.fxd _ k)=>gdO (k == i&&cs.tgs.all fun l=>Nat.blt l ρ'.length) (match chg cs [(i,d)] ([],0) with
   |some _=>f (wipeS (qew (ρ.set i .non) 0 ρ') cs.tgs)
   |none=>.bad)
  |_=>.bad)
 |.ret er=>(match qfT er with
  |some _=>.ret er
  |none=>.bad)
 |.exc c fs=>.exc c fs
 |_=>.bad
def trB (Γ:Env):Tr→List Sl→RE (List Sl)
 |.ex e,ρ=>(ev Γ e ρ).bind fun _=>.ok ρ
 |.as j e,ρ=>(ev Γ e ρ).bind fun x=>match x with
  |.brw _ _=>.bad
  |.val d b=>.ok (ρ.set j (.val d b))
  |.fre ds b=>.ok (ρ.set j (.val (.lst ds) b))
 |.iff t a b,ρ=>(evT Γ t ρ).bind fun k=>if k=true then trB Γ a ρ else trB Γ b ρ
def trX (g:Option (Nat→Option Bool)) (i j:Nat) (ρ:List Sl):RE (List Sl)→Out
 |.ok ρ'=>.nx ρ'
 |.bad=>.bad
 |.exc c fs=>match g with
  |some g=>match g c with
   |some true=>if i=j then .bad else (match fs with
    |[]=>.nx ((ρ.set j (.val (.exc c []) true)).set i .non)
    |_=>.bad)
   |some false=>.exc c fs
   |none=>.bad
  |none=>.bad
mutual
@[simp] def run (Γ:Env):Sm→List Sl→Out
 |.nev,_=>.bad
 |.rse k,_=>match Γ.xk[k]? with
  |some c=>.exc c []
  |none=>.bad
 |.tryx k i j b,ρ=>trX Γ.ck[k]? i j ρ (trB Γ b ρ)
 |.asg i e,ρ=>(ev Γ e ρ).out fun x=>held x fun d b=>.nx (ρ.set i (.val d b))
 |.own i e,ρ=>(ev Γ e ρ).out fun x=>match x with
  |.fre ds b=>.nx (ρ.set i (.own ds b))
  |.val .non _=>.nx (ρ.set i (.val .non true))
  |_=>.bad
 |.put i ix e,ρ=>(ev Γ e ρ).out fun x=>held x fun d b=>qbC ρ i fun ds c=>(ev Γ ix ρ).out fun k=>match k.d with
  |.int k=>match ixN ds.length k with
   |some j=>.nx (ρ.set i (.own (ds.set j d) (b&&c)))
   |none=>.bad
  |_=>.bad
 |.app i e,ρ=>qbC ρ i fun ds c=>(ev Γ e ρ).out fun x=>held x fun d b=>gdO (leB (ds.length+1)) (.nx (ρ.set i (.own (ds++[d]) (b&&c))))
 |.clr i,ρ=>qbC ρ i fun _ _=>.nx (ρ.set i (.own [] true))
 |.expr e,ρ=>(ev Γ e ρ).out fun _=>.nx ρ
 |.ret e,ρ=>(ev Γ e ρ).out fun x=>.ret (qnm x)
 |.retN,_=>.ret (.val .non true)
 |.pas,ρ=>.nx ρ
 |.brk,ρ=>.brk ρ
 |.cnt,ρ=>.cnt ρ
 |.iff c a b,ρ=>(evT Γ c ρ).out fun k=>if k=true then qad Γ a ρ else qad Γ b ρ
 |.for it tg b,ρ=>(evI Γ it ρ).out fun w=>if w.own=true then .bad else qb2 (fun x ρ=>onB (qbZ tg x w.b ρ) fun ρ'=>qad Γ b ρ') w.xs ρ
 |.row i es,ρ=>(evF Γ es ρ).out fun dss=>gdO (leB dss.length) (.nx (ρ.set i (.row dss)))
 |.whl c b,ρ=>qck (fun ρ=>evT Γ c ρ) (fun ρ=>qad Γ b ρ) qmu ρ
@[simp] def qad (Γ:Env):Sms→List Sl→Out
 |.nil,ρ=>.nx ρ
 |.cons s ss,ρ=>(run Γ s ρ).seq fun ρ'=>qad Γ ss ρ'
 |.frz i ss,ρ=>qbC ρ i fun ds b=>qad Γ ss (ρ.set i (.val (.lst ds) b))
 |.hav i f es rd cs ss,ρ=>match Γ.fn[f]? with
  |some g=>(evs Γ es ρ).out fun r=>(g.2 (r.map ER.d)).out fun er=>match qfT er with
   |some d=>gdO (Nat.blt i ρ.length) ((qad Γ rd ((qeI 0 ρ).set i (.fxd d i))).hv ρ i d cs fun ρ2=>qad Γ ss ρ2)
   |none=>.bad
  |none=>.bad
end
@[simp] def Out.fin:Out→RE ER
 |.ret er=>.ok er
 |.nx _=>ok .non
 |.exc c fs=>.exc c fs
 |_=>.bad
def qeR (Γ:Env) (n m:Nat) (b:Sms) (ds:List D):RE ER:=
 if ds.length=n then (qad Γ b (ds.map (fun d=>Sl.val d d.flat)++List.replicate m .non)).fin else .bad
def qos (Γ:Env) (c nf n m:Nat) (b:Sms) (ds:List D):RE (List D):=
 if ds.length=n then (match qad Γ b (.slf c []::(ds.map (fun d=>Sl.val d d.flat)++List.replicate m .non)) with
  |.nx (.slf c' fs::_)=>if c'=c then (if fs.length=nf then .ok fs else .bad) else .bad
  |.exc c fs=>.exc c fs
  |_=>.bad) else .bad
def Sms.hd:Sms→Sm
 |.cons s _=>s
 |_=>.nev
def Sms.tl:Sms→Sms
 |.cons _ ss=>ss
 |.frz _ ss=>ss
 |.hav _ _ _ _ _ ss=>ss
 |.nil=>.nil
def Sms.len:Sms→Nat
 |.nil=>0
 |.cons _ ss=>ss.len+1
 |.frz _ ss=>ss.len
 |.hav _ _ _ rd cs ss=>rd.len+(cs.len+(ss.len+1))
def Sm.bd:Sm→Sms
 |.for _ _ b=>b
 |.whl _ b=>b
 |.iff _ a _=>a
 |_=>.nil
def Out.fst:Out→Option (Sl × Nat)
 |.nx (t::r)=>some (t,r.length)
 |_=>none
end Cm
namespace Cm
open PySem PySem.Spec PyProof.Rows L2
section
variable (C:Ctx)
def res {α:Type} (σ:L2.St) (P N H:Hp) (r:RE α) (K:α→Hp→Hp→Hp→Prop):Prop:=
 match r with
 |.bad=>False
 |.ok a=>∀P' N' H',Adv P N H P' N' H'→K a P' N' H'
 |.exc c fs=>∀d P' N' H',Adv P N H P' N' H'→ExR C P' N' H' fs d→C.W (.ref (C.G.ca c)) d σ H'
def kE (H:Hp) (Q:VK):ER→Hp→Hp→Hp→Prop:=fun er P' N' H'=>∀v,ERr C P' N' H' H er v→Q v H'
def tE (g:List Sl→RE ER):TE:=fun σ H Q=>∃ρ P N,SR C P N H ρ σ∧res C σ P N H (g ρ) (kE C H Q)
def tT (g:List Sl→RE Bool):TT:=fun σ H Q=>∃ρ P N,SR C P N H ρ σ∧res C σ P N H (g ρ) fun k _ _ H'=>Q k H'
def tA (g:List Sl→RE (List ER)):TA:=fun σ H Q=>∃ρ P N,SR C P N H ρ σ∧res C σ P N H (g ρ) fun es P' N' H'=>∀vs,ERs C P' N' H' H es vs→Q vs H'
def tO (g:List Sl→RE (Option Int)):TO:=fun σ H Q=>∃ρ P N,SR C P N H ρ σ∧res C σ P N H (g ρ) fun k _ _ H'=>Q k H'
end
section
variable {C:Ctx} {σ:L2.St} {P N H P1 N1 H1:Hp} {α β:Type} {K K':α→Hp→Hp→Hp→Prop}
theorem res.adv {r:RE α} (a:Adv P N H P1 N1 H1) (h:res C σ P N H r K):res C σ P1 N1 H1 r K:=by
 cases r with
 |bad=>exact h
 |ok x=>exact fun P' N' H' b=>h P' N' H' (a.trans b)
 |exc c fs=>exact fun d P' N' H' b=>h d P' N' H' (a.trans b)
theorem res.mono {r:RE α} (h:res C σ P N H r K) (f:∀a P' N' H',r=.ok a→Adv P N H P' N' H'→K a P' N' H'→K' a P' N' H'):res C σ P N H r K':=by
 cases r with
 |bad=>exact h
 |ok x=>exact fun P' N' H' b=>f _ _ _ _ rfl b (h P' N' H' b)
 |exc c fs=>exact h
theorem res.bind {r:RE α} {f:α→RE β} {K:β→Hp→Hp→Hp→Prop} (h:res C σ P N H (r.bind f) K):res C σ P N H r fun a P1 N1 H1=>res C σ P1 N1 H1 (f a) K:=by
 cases r with
 |bad=>exact h
 |ok x=>exact fun P' N' H' b=>res.adv b h
 |exc c fs=>exact h
theorem res.now {a:α} (r:Reg C P N H) (h:res C σ P N H (.ok a) K):K a P N H:=h _ _ _ (Adv.refl r.pH r.nH)
theorem res.val {H0:Hp} {Q:VK} {d:D} {b:Bool} {v:V} (r:Reg C P N H) (h:res C σ P N H (.ok (.val d b)) (kE C H0 Q)) (x:RepB C P N b d v):Q v H:=h _ _ _ (Adv.refl r.pH r.nH) v x
theorem res.fre {H0:Hp} {Q:VK} {ds:List D} {b:Bool} {xs:List V} {p:Addr} (r:Reg C P N H) (h:res C σ P N H (.ok (.fre ds b)) (kE C H0 Q)) (e:L2.Same H0 H) (x:RepsB C P N b ds xs) (hp:H p=none):Q (.ref p) (upd H p (.lst xs)):=
 h P N (upd H p (.lst xs)) ((Adv.refl r.pH r.nH).heap (qau hp)) _ ⟨p,xs,rfl,upd_same,e.free hp,r.pH.free hp,r.nH.free hp,x⟩
theorem res.tup {H0:Hp} {Q:VK} {ds:List D} {b:Bool} {xs:List V} {p:Addr} (r:Reg C P N H) (h:res C σ P N H (.ok (.val (.tup ds) b)) (kE C H0 Q)) (x:RepsB C P N b ds xs) (hp:H p=none):Q (.ref p) (upd H p (.tup xs)):=
 h (upd P p (.tup xs)) N (upd H p (.tup xs)) ((Adv.refl r.pH r.nH).newP hp) _ ⟨p,xs,rfl,.inl (.inl upd_same),RepsB.adv (qau (r.pH.free hp)) (L2.Same.refl _) x⟩
theorem ERw.int {i:Int} {b:Bool} {v:V} (h:ERw C P N H (.int i) b v):v=.int i:=h
theorem ERw.bl {i:Bool} {b:Bool} {v:V} (h:ERw C P N H (.bl i) b v):v=.bl i:=h
theorem ERw.str {s:List Nat} {b:Bool} {v:V} (h:ERw C P N H (.str s) b v):v=.str ⟨s.toArray⟩:=h
theorem ERw.lst {ds:List D} {b:Bool} {v:V} (h:ERw C P N H (.lst ds) b v):∃p xs,v=.ref p∧SqL C.G.K H p xs∧RepsB C P N b ds xs:=h
theorem ERw.tup {ds:List D} {b:Bool} {v:V} (r:Reg C P N H) (h:ERw C P N H (.tup ds) b v):∃p xs,v=.ref p∧SqT C.G.K H p xs∧RepsB C P N b ds xs:=by
 obtain⟨a,xs,e,h1,h2⟩:=h
 exact⟨a,xs,e,Same.seqT r.pH h1,h2⟩
theorem ERw.dp {d:D} {b:Bool} {v:V} {n:Nat} (r:Reg C P N H) (h:ERw C P N H d b v) (f:d.fit n=true):Dp C.G.K H v d.py:=by
 have hl:∀a xs,LNb C.G.K P N C.R b a xs→SqL C.G.K H a xs:=LNb.seq r.pH r.nH r.rH
 cases d with
 |lst ds =>
  obtain⟨p,xs,rfl,h1,h2⟩:=h
  simp only[D.fit,Bool.and_eq_true] at f
  exact .lst h1 (Reps.dp r.pH hl ds xs _ f.2 h2)
 |_=>exact Rep.dp r.pH hl _ v n f h
def qn9 (C:Ctx) (op:D→D→Bool→RE ER) (r:R2):Prop:=∀{P N H H0:Hp} {σ:L2.St} {x y:D} {b c:Bool} {v u:V} {Q:VK},Reg C P N H→ERw C P N H x b v→ERw C P N H y c u→L2.Same H0 H →
 res C σ P N H (op x y (b&&c)) (kE C H0 Q)→r v u H Q
theorem qmL {X:Cx} {op:Operator} {f:D→D→Bool→RE ER} {r:R2} {a b:Expr} {ga gb:List Sl→RE ER} {pos:Pos} (ho:OpR X (binaryOp op) r) (hf:qn9 C f r) (ha:PE X a (tE C ga)) (hb:PE X b (tE C gb)) :
  PE X (.BinOp a op b pos) (tE C fun ρ=>(ga ρ).bind fun x=>(gb ρ).bind fun y=>f x.d y.d (x.b&&y.b)):=by
 refine⟨fun pins s σ H Q I h=>(pe_op ho ha hb).run pins s σ H Q I ?_⟩
 obtain⟨ρ,P,N,S,h⟩:=h
 refine⟨ρ,P,N,S,h.bind.mono fun x P1 N1 H1 _ a1 h1 v rv=>⟨ρ,P1,N1,S.adv a1,h1.bind.mono fun y P2 N2 H2 _ a2 h2 u ru=>?_⟩⟩
 have r2:=(S.adv (a1.trans a2)).reg
 exact hf r2 ((rv.adv a2).w r2) (ru.w r2) (a1.trans a2).hh h2
def qo8 (C:Ctx) (op:D→D→RE Bool) (r:R2):Prop:=∀{P N H:Hp} {x y:D} {b c:Bool} {v u:V} {Q:VK} {k:Bool},Reg C P N H→ERw C P N H x b v→ERw C P N H y c u→op x y=.ok k→Q (.bl k) H→r v u H Q
def qc0 {α:Type}:RE α→Prop
 |.exc _ _=>False
 |_=>True
theorem qhl (x y:D):qc0 (qfX x y):=by
 unfold qfX
 split<;>first | trivial | (split<;>trivial)
theorem qgY (x y:D):qc0 (qhD x y):=by
 unfold qhD
 split
 ·split<;>trivial
 ·split<;>trivial
 ·split<;>trivial
 ·trivial
theorem qlN (o:Cop) (x y:D):qc0 (evC o x y):=by
 cases o<;>simp only[evC]
 ·exact qhl x y
 ·have:=qhl x y
  cases h:qfX x y<;>simp_all[qc0]
 ·split<;>trivial
 ·split<;>trivial
 ·split<;>trivial
 ·split<;>trivial
 ·exact qgY x y
 ·have:=qgY x y
  cases h:qhD x y<;>simp_all[qc0]
end
end Cm
namespace Cm
open PySem PySem.Spec PyProof.Rows L2
section
variable {X:Cx}
def qlQ (K:PySem.W.Frag):R2:=fun x y H Q=>∃l b xs zs,x=.ref l∧y=.ref b∧SqL K H l xs∧SqL K H b zs∧xs.length+zs.length≤sizeLine∧∀p,H p=none→Q (.ref p) (upd H p (.lst (xs++zs)))
theorem qkY:OpR X (binaryOp .Add) (qlQ X.K):=by
 intro pins s σ H x y v u Q I rx ry hh
 obtain⟨l,b,xs,zs,rfl,rfl,hH,hB,hz,qq⟩:=hh
 cases rx
 cases ry
 obtain⟨its,r,p,_⟩:=I.list hH
 obtain⟨its2,r2,p2,_⟩:=I.list hB
 obtain⟨⟨cls,dd,data,sl⟩,n,ho,hc,hdd,hd⟩:=p
 obtain⟨⟨cls2,dd2,data2,sl2⟩,n2,ho2,hc2,hdd2,hd2⟩:=p2
 simp only at hc hd hdd hc2 hd2 hdd2
 subst hc hd hdd hc2 hd2 hdd2
 have l1:=r.length
 have l2:=r2.length
 refine concat_meets ⟨_,ho,rfl⟩ ⟨_,ho2,rfl⟩ noFill_list_add seq_list_add PySem.F.slot_list_add PySem.F.entry_list_add (PySem.F.args_list_add_2 _ _) (list_addW l b its.toArray its2.toArray n n2 _ _ sl sl2 (by simp only[List.size_toArray];omega)) ⟨ho,ho2,?_⟩
 have ea:its.toArray++its2.toArray=(its++its2).toArray:=by simp
 rw[ea]
 exact⟨.ref _,_,I.lnew (t':=s.toks) (r.append r2) (by rw[List.length_append];omega),rfl,qq _ I.fresh⟩
def qmt (K:PySem.W.Frag):R2:=fun x y H Q=>∃l k xs,x=.ref l∧y=.int k∧SqL K H l xs ∧ -(2 ^ 63)≤k∧k<2 ^ 63∧xs.length*k.toNat≤sizeLine ∧
 ∀p,H p=none→Q (.ref p) (upd H p (.lst (List.replicate k.toNat xs).flatten))
theorem qk9:OpR X (binaryOp .Mult) (qmt X.K):=by
 intro pins s σ H x y v u Q I rx ry hh
 obtain⟨l,k,xs,rfl,rfl,hH,h1,h2,hz,qq⟩:=hh
 cases rx
 obtain⟨t,rfl⟩:=ry
 obtain⟨its,r,p,_⟩:=I.list hH
 obtain⟨⟨cls,dd,data,sl⟩,n,ho,hc,hdd,hd⟩:=p
 simp only at hc hd hdd
 subst hc hd hdd
 have l1:=r.length
 have hsz:its.length*k.toNat≤16777216:=by rw[←l1];exact hz
 refine wpAny_binaryOp_repeat_ref (T:="list") (U:="int") (by decide) ⟨_,ho,rfl⟩ (fun s'=>typeIs_int s' k t) noFill_list_mul F.fills_int_mul F.slot_int_rmul repeat_list F.slot_int_index.lookup
  (call_meets F.slot_int_rmul (typeIs_int s k t) F.entry_int_rmul (F.args_int_rmul_2 _ _) (lm_int_rmul_list_any k t l its.toArray n _ sl)
   ⟨ho,rfl,⟨_,ho,rfl⟩,call_meets F.slot_list_mul ⟨_,ho,rfl⟩ F.entry_list_mul (F.args_list_mul_2 _ _)
    (lm_list_mul_any l its.toArray n _ sl k t (by simp[Builtin.List.listFitsIndex];omega) (by simp only[List.size_toArray];omega) (by simp[Builtin.List.listTooLong,sizeLine];omega))
    ⟨ho,?_⟩⟩)
 rw[listMul_foldl_if]
 exact⟨.ref _,_,I.lnew (t':=s.toks) (r.rep k.toNat) (by rw[PyProof.Rows.lm_len_rep_flat,Nat.mul_comm];exact hz),rfl,qq _ I.fresh⟩
theorem qfM {n:Nat} (h:n≤16777216):Builtin.Str.tooLong n=false:=by
 unfold Builtin.Str.tooLong
 exact decide_eq_false (show ¬n>16777216 by omega)
def rRepT:R2:=fun x y H Q=>∃(i:Str) (k:Int),x=.str i∧y=.int k∧1≤k∧k<2 ^ 63∧1≤i.length∧i.length*k.toNat≤sizeLine∧Q (.str ⟨(List.replicate k.toNat i.cps).foldl (· ++ ·) #[]⟩) H
theorem qkT:OpR X (binaryOp .Mult) rRepT:=by
 intro pins s σ H x y v u Q I rx ry h
 obtain⟨i,k,rfl,rfl,k1,k2,l1,hz,q⟩:=h
 obtain⟨t,rfl⟩:=rx
 obtain⟨t',rfl⟩:=ry
 have hz:i.length*k.toNat≤16777216:=hz
 have tl:Builtin.Str.tooLong (i.length*k.toNat)=false:=qfM hz
 refine P.mul_str (by rw[decide_eq_false (by omega),decide_eq_false (by omega)];rfl) (fun _ _ hb=>?_) (fun _ _=>tl) ?_
 ·have e:((i.length*k.toNat:Nat):Int)=(i.length:Int)*k:=by rw[Int.natCast_mul,Int.toNat_of_nonneg (by omega)]
  have h3:(2 ^ 63 - 1) / k<(i.length:Int):=hb
  have h4:(2:Int) ^ 63 - 1<(i.length:Int)*k:=(Int.ediv_lt_iff_lt_mul (by omega)).mp h3
  rw[←e] at h4
  omega
 ·rw[if_neg (by omega)]
  by_cases e:k=1
  ·subst e
   rw[if_pos (by simp)]
   have eq:(⟨(List.replicate (1:Int).toNat i.cps).foldl (· ++ ·) #[]⟩:Str)=i:=by
    show(⟨#[]++i.cps⟩:Str)=i
    rw[Array.empty_append]
   rw[eq] at q
   exact⟨.str i,H,I,⟨_,rfl⟩,q⟩
  ·rw[if_neg (by simp;omega)]
   exact⟨by
    have:=fits_reps (x:=i) (k:=k.toNat) tl
    exact this,⟨.str _,H,I.tok _,⟨_,rfl⟩,q⟩⟩
end
def qn7:Bop→Operator
 |.add=>.Add | .sub=>.Sub | .mul=>.Mult | .fdv=>.FloorDiv | .mdl=>.Mod | .pow=>.Pow | .shl=>.LShift | .shr=>.RShift | .and=>.BitAnd | .or=>.BitOr
def qou (K:PySem.W.Frag):Bop→R2
 |.add=>fun x y H Q=>(rI0 (fun i j=>.int (i+j)) x y H Q∨(fun x y H Q=>∃i j,x=.str i∧y=.str j∧i.length+j.length≤sizeLine∧Q (.str (i++j)) H:R2) x y H Q)∨qlQ K x y H Q
 |.sub=>rI0 fun i j=>.int (i - j)
 |.mul=>fun x y H Q=>(rI CMul (fun i j=>.int (i*j)) x y H Q∨rI CMulX (fun i j=>.int (i*j)) x y H Q)∨(qmt K x y H Q∨rRepT x y H Q)
 |.fdv=>rI CDivN fun i j=>.int (i.fdiv j)
 |.mdl=>rI (fun _ j=>j≠0) fun i j=>.int (i.fmod j)
 |.pow=>rI CPow fun i j=>.int (i ^ j.toNat)
 |.shl=>rI CPow fun i j=>.int (i*2 ^ j.toNat)
 |.shr=>rI (fun _ j=>0≤j) fun i j=>.int (i / 2 ^ j.toNat)
 |.and=>rI0 fun i j=>.int (Builtin.bitAnd i j)
 |.or=>rI0 fun i j=>.int (Builtin.bitOr i j)
theorem ql8 {X:Cx}:∀o,OpR X (binaryOp (qn7 o)) (qou X.K o)
 |.add=>(op_add.or op_add_str).or qkY
 |.sub=>op_sub
 |.mul=>(op_mul.or op_mulX).or (qk9.or qkT)
 |.fdv=>op_fdivN
 |.mdl=>op_modN
 |.pow=>op_pow
 |.shl=>op_shl
 |.shr=>op_shr
 |.and=>op_and
 |.or=>op_or
theorem qju (s t:List Nat):(⟨s.toArray⟩:Str)++(⟨t.toArray⟩:Str)=⟨(s++t).toArray⟩:=by
 show(⟨s.toArray++t.toArray⟩:Str)=⟨(s++t).toArray⟩
 simp
theorem qaw (s:List Nat):(⟨s.toArray⟩:Str).length=s.length:=by
 show s.toArray.size=s.length
 simp
theorem RepsB.rep {C:Ctx} {P N:Hp} {b:Bool} {ds:List D} {vs:List V} (h:RepsB C P N b ds vs):∀k,RepsB C P N b (List.replicate k ds).flatten (List.replicate k vs).flatten
 |0=>rfl
 |k+1=>by simpa[List.replicate_succ] using Reps.append h (RepsB.rep h k)
theorem qkr (s:List Nat) (n:Nat):(⟨(List.replicate n (⟨s.toArray⟩:Str).cps).foldl (· ++ ·) #[]⟩:Str)=⟨((List.replicate n s).flatten).toArray⟩:=by
 have go:∀(n:Nat) (a:Array Nat),(List.replicate n s.toArray).foldl (· ++ ·) a=a++((List.replicate n s).flatten).toArray:=fun n=>by
  induction n with
  |zero=>intro a;simp
  |succ n ih=>intro a;rw[List.replicate_succ,List.foldl_cons,ih,List.replicate_succ,List.flatten_cons];simp
 show(⟨(List.replicate n s.toArray).foldl (· ++ ·) #[]⟩:Str)=_
 rw[go]
 simp
theorem qma {C:Ctx} (o:Bop):qn9 C (evB o) (qou C.G.K o):=by
 intro P N H H0 σ x y b c v u Q r hx hy e h
 unfold evB at h
 simp only[qco,qaP,qai,qaA,qay,qaC,qaN,qaH,qat,qaB] at h
 cases o<;>simp only at h<;>split at h<;>try exact h.elim
 ·cases hx.int;cases hy.int
  exact .inl (.inl ⟨_,_,rfl,rfl,h.val r rfl⟩)
 ·cases hx.str;cases hy.str
  split at h
  ·rename_i hl
   refine .inl (.inr ⟨_,_,rfl,rfl,?_,?_⟩)
   ·rw[qaw,qaw];exact hl
   ·rw[qju];exact h.val r rfl
  ·exact h.elim
 ·obtain⟨p,xs,rfl,h1,h2⟩:=hx.lst
  obtain⟨q,zs,rfl,h3,h4⟩:=hy.lst
  split at h
  ·rename_i hl
   refine .inr ⟨_,_,_,_,rfl,rfl,h1,h3,?_,fun p hp=>h.fre r e (Reps.append h2.and1 h4.and2) hp⟩
   rw[h2.length,h4.length];exact hl
  ·exact h.elim
 ·cases hx.int;cases hy.int
  exact⟨_,_,rfl,rfl,h.val r rfl⟩
 ·cases hx.int;cases hy.int
  split at h
  ·rename_i hl
   have hl:=qaD _ _ ▸ hl
   rcases hl with hl | hl
   ·exact .inl (.inl ⟨_,_,rfl,rfl,hl,h.val r rfl⟩)
   ·exact .inl (.inr ⟨_,_,rfl,rfl,hl,h.val r rfl⟩)
  ·exact h.elim
 ·obtain⟨p,xs,rfl,h1,h2⟩:=hx.lst
  cases hy.int
  split at h
  ·rename_i hl
   have hl:=qgu hl
   refine .inr (.inl ⟨_,_,_,rfl,rfl,h1,hl.1,hl.2.1,?_,fun p hp=>h.fre r e (RepsB.rep h2.and1 _) hp⟩)
   rw[h2.length];exact hl.2.2
  ·exact h.elim
 ·cases hx.str;cases hy.int
  split at h
  ·rename_i hl
   rw[Bool.and_eq_true,Bool.and_eq_true,Nat.ble_eq,Nat.ble_eq] at hl
   obtain⟨h1,h2,h3⟩:=hl
   have h1:=qgu h1
   refine .inr (.inr ⟨_,_,rfl,rfl,by omega,h1.2.1,by rw[qaw];exact h3,by rw[qaw];exact h1.2.2,?_⟩)
   rw[qkr]
   exact h.val r rfl
  ·exact h.elim
 ·cases hx.int;cases hy.int
  split at h
  ·rename_i hl
   exact⟨_,_,rfl,rfl,hl,h.val r rfl⟩
  ·exact h.elim
 ·cases hx.int;cases hy.int
  split at h
  ·rename_i hl
   exact⟨_,_,rfl,rfl,hl,h.val r rfl⟩
  ·exact h.elim
 ·cases hx.int;cases hy.int
  split at h
  ·rename_i hl
   exact⟨_,_,rfl,rfl,hl,h.val r rfl⟩
  ·exact h.elim
 ·cases hx.int;cases hy.int
  split at h
  ·rename_i hl
   exact⟨_,_,rfl,rfl,hl,h.val r rfl⟩
  ·exact h.elim
 ·cases hx.int;cases hy.int
  split at h
  ·rename_i hl
   exact⟨_,_,rfl,rfl,hl,h.val r rfl⟩
  ·exact h.elim
 ·cases hx.int;cases hy.int
  exact⟨_,_,rfl,rfl,h.val r rfl⟩
 ·cases hx.int;cases hy.int
  exact⟨_,_,rfl,rfl,h.val r rfl⟩
def qjG:Cop→CmpOp
 |.eq=>.Eq | .ne=>.NotEq | .lt=>.Lt | .le=>.LtE | .gt=>.Gt | .ge=>.GtE | .isin=>.In | .nin=>.NotIn
def qnW (K:PySem.W.Frag):Cop→R2
 |.eq=>fun x y H Q=>rEq x y H Q∨rEqD K x y H Q
 |.ne=>fun x y H Q=>rNe x y H Q∨rNeD K x y H Q
 |.lt=>rI0 fun i j=>.bl (decide (i<j))
 |.le=>rI0 fun i j=>.bl (decide (i≤j))
 |.gt=>rI0 fun i j=>.bl (decide (j<i))
 |.ge=>rI0 fun i j=>.bl (decide (j≤i))
 |.isin=>fun x y H Q=>(rInD K x y H Q∨rIn K false x y H Q)∨(fun x y H Q=>∃(c:Nat) (z:Str),x=.str ⟨#[c]⟩∧y=.str z∧Q (.bl (decide (c∈z.cps.toList))) H:R2) x y H Q
 |.nin=>fun x y H Q=>(rNotInD K x y H Q∨rIn K true x y H Q)∨(fun x y H Q=>∃(c:Nat) (z:Str),x=.str ⟨#[c]⟩∧y=.str z∧Q (.bl (!decide (c∈z.cps.toList))) H:R2) x y H Q
theorem qjl {X:Cx} (hu:X.A.units+65<cLine):∀o,OpR X (compareOp (qjG o)) (qnW X.K o)
 |.eq=>op_eq.or (op_eqD (by omega))
 |.ne=>op_ne.or (op_neD (by omega))
 |.lt=>op_lt
 |.le=>op_le
 |.gt=>op_gt
 |.ge=>op_ge
 |.isin=>((op_inD hu).or op_in_seq).or op_in_sign
 |.nin=>((op_notInD hu).or op_notIn_seq).or op_notIn_sign
theorem qdg {C:Ctx} {P N H:Hp} {x y:D} {b c:Bool} {v u:V} {k:Bool} (r:Reg C P N H) (hx:ERw C P N H x b v) (hy:ERw C P N H y c u) (h:qfX x y=.ok k) :
  (scal v u=true∧decide (v=u)=k)∨∃d e,Dp C.G.K H v d∧Dp C.G.K H u e∧SeqAt.shaped d=true∧SeqAt.shaped e=true∧PyData.eqv d e=k:=by
 unfold qfX at h
 split at h
 ·cases hx.int;cases hy.int;cases h
  exact .inl ⟨rfl,by simp⟩
 ·cases hx.str;cases hy.str;cases h
  refine .inl ⟨rfl,?_⟩
  simp
 ·cases hx.bl;cases hy.bl;cases h
  exact .inl ⟨rfl,by rw[dec_bl]⟩
 ·split at h
  ·rename_i f
   simp only[Bool.and_eq_true] at f
   cases h
   exact .inr ⟨_,_,hx.dp r f.1,hy.dp r f.2,D.shaped f.1,D.shaped f.2,D.eqv_py _ _ _ _ f.1 f.2⟩
  ·cases h
theorem qjf {x:D} {n m:Nat} (hx:x.fit n=true):∀{ys:List D},D.fits ys m=true→((D.pys ys).any fun z=>PyData.eqv z x.py)=ys.any fun z=>z.eqb x
 |[],_=>rfl
 |y::ys,h=>by
  simp only[D.fits,Bool.and_eq_true] at h
  simp only[D.pys,List.any_cons]
  rw[qjf hx h.2,D.eqv_py y x m n h.1 hx]
theorem qcI {C:Ctx} {P N H:Hp} {x:D} {b:Bool} {v:V} (hx:Rep C.G P (LNb C.G.K P N C.R b) x v) (f:x.fit 0=true):flatV v=true:=by
 cases x<;>simp[D.fit] at f<;>cases hx<;>rfl
theorem qb6 {C:Ctx} {P N H:Hp} {b:Bool}:∀{xs:List D} {vs:List V},RepsB C P N b xs vs→D.fits xs 0=true→vs.all flatV=true
 |[],_,h,_=>by cases h;rfl
 |x::xs,_,⟨v,r,e,h1,h2⟩,f=>by
  subst e
  simp only[D.fits,Bool.and_eq_true] at f
  simp only[List.all_cons,Bool.and_eq_true]
  exact⟨qcI (H:=H) h1 f.1,qb6 (H:=H) h2 f.2⟩
theorem qga {C:Ctx} {P N:Hp} {x y:D} {b c:Bool} {v u:V} (hx:RepB C P N b x v) (hy:RepB C P N c y u) (fx:x.fit 0=true) (fy:y.fit 0=true):eqV v u=x.eqb y:=by
 cases x<;>simp[D.fit] at fx<;>cases y<;>simp[D.fit] at fy<;>cases hx<;>cases hy<;>simp[eqV,D.eqb]
 ·rw[Bool.eq_iff_iff,beq_iff_eq,decide_eq_true_iff]
 ·rw[Bool.eq_iff_iff,beq_iff_eq,decide_eq_true_iff]
 ·rw[Bool.eq_iff_iff,beq_iff_eq,decide_eq_true_iff]
 ·rw[Bool.eq_iff_iff,beq_iff_eq,decide_eq_true_iff]
  exact⟨fun q=>by injection q with q;exact qcB.mp q,fun q=>by rw[q]⟩
theorem qhe {C:Ctx} {P N:Hp} {x:D} {b c:Bool} {v:V} (hx:RepB C P N b x v) (fx:x.fit 0=true):∀{ys:List D} {us:List V},RepsB C P N c ys us→D.fits ys 0=true→inV v us=ys.any fun z=>z.eqb x
 |[],_,h,_=>by cases h;rfl
 |y::ys,_,⟨u,r,e,h1,h2⟩,f=>by
  subst e
  simp only[D.fits,Bool.and_eq_true] at f
  have:=qhe hx fx h2 f.2
  unfold inV at this ⊢
  simp only[List.any_cons]
  rw[this,qga h1 hx f.1 fx]
theorem qdo {C:Ctx} {P N H:Hp} {x y:D} {b c:Bool} {v u:V} {k:Bool} (r:Reg C P N H) (hx:ERw C P N H x b v) (hy:ERw C P N H y c u) (h:qhD x y=.ok k) :
  (∃d ds,Dp C.G.K H v d∧Dp C.G.K H u (.list ds)∧SeqAt.shaped d=true∧SeqAt.shaped (.list ds)=true∧(ds.any fun z=>PyData.eqv z d)=k) ∨
  (∃p xs,u=.ref p∧(SqL C.G.K H p xs∨SqT C.G.K H p xs)∧flatV v=true∧xs.all flatV=true∧inV v xs=k) ∨
  ∃(c:Nat) (z:Str),v=.str ⟨#[c]⟩∧u=.str z∧decide (c∈z.cps.toList)=k:=by
 unfold qhD at h
 split at h
 ·split at h
  ·rename_i ys f
   simp only[Bool.and_eq_true] at f
   cases h
   have f2:=f.2
   simp only[D.fit,Bool.and_eq_true] at f2
   refine .inl ⟨x.py,D.pys ys,hx.dp r f.1,hy.dp r f.2,D.shaped f.1,D.shaped f.2,qjf f.1 f2.2⟩
  ·cases h
 ·split at h
  ·rename_i ys f
   simp only[Bool.and_eq_true] at f
   cases h
   obtain⟨p,xs,rfl,h1,h2⟩:=hy.tup r
   have hx':RepB C P N b x v:=by
    cases x with
    |lst ds=>simp[D.fit] at f
    |_=>exact hx
   exact .inr (.inl ⟨p,xs,rfl,.inr h1,qcI (H:=H) hx' f.1,qb6 (H:=H) h2 f.2,qhe hx' f.1 h2 f.2⟩)
  ·cases h
 ·split at h
  ·cases hx.str;cases hy.str;cases h
   exact .inr (.inr ⟨_,_,rfl,rfl,rfl⟩)
  ·cases h
 ·cases h
theorem qmO {C:Ctx} (o:Cop):qo8 C (evC o) (qnW C.G.K o):=by
 intro P N H x y b c v u Q k r hx hy h q
 cases o<;>simp only[evC] at h
 ·rcases qdg r hx hy h with⟨h1,rfl⟩ | ⟨d,e,h1,h2,h3,h4,rfl⟩
  ·exact .inl ⟨h1,q⟩
  ·exact .inr ⟨d,e,h1,h2,h3,h4,q⟩
 ·cases e:qfX x y with
  |bad=>rw[e] at h;cases h
  |exc c fs=>rw[e] at h;cases h
  |ok k' =>
   rw[e] at h;cases h
   rcases qdg r hx hy e with⟨h1,rfl⟩ | ⟨d,d2,h1,h2,h3,h4,rfl⟩
   ·exact .inl ⟨h1,q⟩
   ·exact .inr ⟨d,d2,h1,h2,h3,h4,q⟩
 ·split at h
  ·cases hx.int;cases hy.int;cases h
   exact⟨_,_,rfl,rfl,q⟩
  ·cases h
 ·split at h
  ·cases hx.int;cases hy.int;cases h
   exact⟨_,_,rfl,rfl,q⟩
  ·cases h
 ·split at h
  ·cases hx.int;cases hy.int;cases h
   exact⟨_,_,rfl,rfl,q⟩
  ·cases h
 ·split at h
  ·cases hx.int;cases hy.int;cases h
   exact⟨_,_,rfl,rfl,q⟩
  ·cases h
 ·rcases qdo r hx hy h with⟨d,e,h1,h2,h3,h4,rfl⟩ | ⟨p,xs,h1,h2,h3,h4,rfl⟩ | ⟨c,z,h1,h2,rfl⟩
  ·exact .inl (.inl ⟨d,e,h1,h2,h3,h4,q⟩)
  ·exact .inl (.inr ⟨p,xs,h1,h2,h3,h4,q⟩)
  ·exact .inr ⟨c,z,h1,h2,q⟩
 ·cases e:qhD x y with
  |bad=>rw[e] at h;cases h
  |exc c fs=>rw[e] at h;cases h
  |ok k' =>
   rw[e] at h;cases h
   rcases qdo r hx hy e with⟨d,d2,h1,h2,h3,h4,rfl⟩ | ⟨p,xs,h1,h2,h3,h4,rfl⟩ | ⟨c,z,h1,h2,rfl⟩
   ·exact .inl (.inl ⟨d,d2,h1,h2,h3,h4,q⟩)
   ·exact .inl (.inr ⟨p,xs,h1,h2,h3,h4,q⟩)
   ·exact .inr ⟨c,z,h1,h2,q⟩
end Cm
namespace Cm
open PySem PySem.Spec PyProof.Rows L2
section
variable {C:Ctx} {X:Cx}
theorem qag {X:Cx} {e:Expr} {t u:TE} (h:PE X e t) (f:∀σ H Q,u σ H Q→t σ H Q):PE X e u:=⟨fun pins s σ H Q I q=>h.run pins s σ H Q I (f _ _ _ q)⟩
theorem qcM {X:Cx} {e:Expr} {t u:TT} (h:PT X e t) (f:∀σ H Q,u σ H Q→t σ H Q):PT X e u:=⟨fun pins s σ H Q I q=>h.run pins s σ H Q I (f _ _ _ q)⟩
theorem qb0 {X:Cx} {e:List Expr} {t u:TA} (h:PA X e t) (f:∀σ H Q,u σ H Q→t σ H Q):PA X e u:=⟨fun pos pins s σ H Q I q=>h.run pos pins s σ H Q I (f _ _ _ q)⟩
theorem qeC {e:Expr}:PE X e (tE C fun _=>.bad):=⟨fun pins s σ H Q I h=>by obtain⟨ρ,P,N,S,h⟩:=h;exact h.elim⟩
theorem qjD {i:Nat} {x:Str} {pos:Pos} (hN:X.N[i]? = some x) (hv:Vis X.env.scope x) (hd:(x == ("__debug__" : Str))=false) (hcd:(x == ("__classdict__" : Str))=false) :
  PE X (.Name x pos) (tE C fun ρ=>match ρ[i]? with
  |some (.val d b)=>.ok (.val d b)
  |some (.own ds b)=>.ok (.brw ds b)
  |some (.fxd d _)=>.ok (.val d false)
  |_=>.bad):=by
 refine qag (pe_var (i:=i) hN hv hd hcd) fun σ H Q h=>?_
 obtain⟨ρ,P,N,S,h⟩:=h
 cases e:ρ[i]? with
 |none=>simp only[e] at h;exact h.elim
 |some s =>
  obtain⟨o,h1,h2⟩:=S.sl i s e
  simp only[e] at h
  cases s with
  |non=>exact h.elim
  |val d b =>
   obtain⟨v,rfl,h3⟩:=h2
   exact⟨v,h1,h.val S.reg h3⟩
  |own ds b =>
   obtain⟨p,xs,rfl,h3,h4,h5,h6,h7⟩:=h2
   exact⟨.ref p,h1,h.now S.reg _ ⟨p,xs,rfl,h3,h4,h5,h6,h7⟩⟩
  |slf c fs=>exact h.elim
  |fxd d k =>
   obtain⟨v,rfl,_,h3⟩:=h2
   exact⟨v,h1,h.val S.reg h3⟩
  |dct m b=>exact h.elim
  |row _=>exact h.elim
theorem qgs {e:Expr} {v:V} {d:D} (h:PE X e (tC v)) (r:∀P N,RepB C P N true d v):PE X e (tE C fun _=>.ok (.val d true)):=by
 refine qag h fun σ H Q h=>?_
 obtain⟨ρ,P,N,S,h⟩:=h
 exact h.val S.reg (r P N)
theorem qe0 {g:List Sl→RE ER} (hg:∀ρ er,g ρ=.ok er→∃k,er=.val (.bl k) true) {σ:L2.St} {H:Hp} {Q:Bool→Hp→Prop} (h:tT C (fun ρ=>(g ρ).bind fun x=>qev x.d) σ H Q) :
  tE C g σ H fun x H'=>∃k,x=.bl k∧Q k H':=by
 obtain⟨ρ,P,N,S,h⟩:=h
 refine⟨ρ,P,N,S,h.bind.mono fun x P1 N1 H1 e a1 h1 v rv=>?_⟩
 obtain⟨k,rfl⟩:=hg ρ x e
 exact⟨k,rv,h1.now (S.adv a1).reg⟩
abbrev qpE (o p:Cop) (ga gb gc:List Sl→RE ER):List Sl→RE ER:=fun ρ=>(ga ρ).bind fun x=>(gb ρ).bind fun y=>(evC o x.d y.d).bind fun k=>if k=true then (gc ρ).bind fun z=>(evC p y.d z.d).bind fun k'=>ok (.bl k') else ok (.bl false)
abbrev qmV (o:Cop) (ga gb:List Sl→RE ER):List Sl→RE ER:=fun ρ=>(ga ρ).bind fun x=>(gb ρ).bind fun y=>(evC o x.d y.d).bind fun c=>ok (.bl c)
theorem qho {o:Cop} {ga gb:List Sl→RE ER} {σ:L2.St} {H:Hp} {Q:VK} (h:tE C (qmV o ga gb) σ H Q):tOp (qnW C.G.K o) (tE C ga) (tE C gb) σ H Q:=by
 obtain⟨ρ,P,N,S,h⟩:=h
 refine⟨ρ,P,N,S,h.bind.mono fun x P1 N1 H1 _ a1 h1 v rv=>⟨ρ,P1,N1,S.adv a1,h1.bind.mono fun y P2 N2 H2 _ a2 h2 u ru=>?_⟩⟩
 have r2:=(S.adv (a1.trans a2)).reg
 have n1:=qlN o x.d y.d
 cases e:evC o x.d y.d with
 |bad=>rw[e] at h2;exact h2.elim
 |exc c fs=>rw[e] at n1;exact n1.elim
 |ok k =>
  rw[e] at h2
  exact qmO o r2 ((rv.adv a2).w r2) (ru.w r2) e (h2.val r2 rfl)
theorem qkl {o:Cop} {a b:Expr} {ga gb:List Sl→RE ER} {pos:Pos} (hu:X.A.units+65<cLine) (hK:X.K=C.G.K) (ha:PE X a (tE C ga)) (hb:PE X b (tE C gb)) (hm:behindInMarks (qjG o) b=false) :
  PE X (.Compare a [qjG o] [b] pos) (tE C (qmV o ga gb)):=
 qag (pe_cmpR (qjl hu o) ha hb hm) fun σ H Q h=>by rw[hK];exact qho h
theorem qjM {o:Cop} {a b:Expr} {ga gb:List Sl→RE ER} {pos:Pos} (hu:X.A.units+65<cLine) (hK:X.K=C.G.K) (ha:PE X a (tE C ga)) (hb:PE X b (tE C gb)) (hm:behindInMarks (qjG o) b=false) :
  PT X (.Compare a [qjG o] [b] pos) (tT C fun ρ=>(qmV o ga gb ρ).bind fun x=>qev x.d):=
 qcM (pt_cmpR (qjl hu o) ha hb hm) fun σ H Q h=>by
  rw[hK]
  refine qho (qe0 (fun ρ er e=>?_) h)
  cases e1:ga ρ<;>simp only[qmV,e1,RE.bind_ok,RE.bind_bad,RE.bind_exc] at e<;>try cases e
  cases e2:gb ρ<;>simp only[e2,RE.bind_ok,RE.bind_bad,RE.bind_exc] at e<;>try cases e
  rename_i x y
  cases e3:evC o x.d y.d<;>simp only[e3,RE.bind_ok,RE.bind_bad,RE.bind_exc] at e<;>try cases e
  exact⟨_,rfl⟩
theorem qdj {P N H:Hp} {d:D} {b:Bool} {v:V} {k:Bool} (r:Reg C P N H) (h:ERw C P N H d b v) (e:qev d=.ok k):TruV C.G.K v H k:=by
 cases d<;>simp only[qev] at e<;>cases e
 ·have e:v=.non:=h
  subst e;rfl
 ·cases h.bl;rfl
 ·cases h.int;rfl
 ·obtain⟨p,xs,rfl,h1,h2⟩:=h.lst
  refine .inl ⟨xs,h1,?_⟩
  have:=h2.length
  rw[Bool.eq_iff_iff]
  simp[←List.length_eq_zero_iff,this]
 ·obtain⟨p,xs,rfl,h1,h2⟩:=h.tup r
  refine .inr (.inl ⟨xs,h1,?_⟩)
  have:=h2.length
  rw[Bool.eq_iff_iff]
  simp[←List.length_eq_zero_iff,this]
theorem qgM (d:D):qc0 (qev d):=by cases d<;>trivial
theorem qkg {g:List Sl→RE ER} {σ:L2.St} {H:Hp} {Q:Bool→Hp→Prop} (h:tT C (fun ρ=>(g ρ).bind fun x=>qev x.d) σ H Q):tE C g σ H fun x H'=>∃k,TruV C.G.K x H' k∧Q k H':=by
 obtain⟨ρ,P,N,S,h⟩:=h
 refine⟨ρ,P,N,S,h.bind.mono fun x P1 N1 H1 e a1 h1 v rv=>?_⟩
 have r1:=(S.adv a1).reg
 have n1:=qgM x.d
 cases e:qev x.d with
 |bad=>rw[e] at h1;exact h1.elim
 |exc c fs=>rw[e] at n1;exact n1.elim
 |ok k =>
  rw[e] at h1
  exact⟨k,qdj r1 (rv.w r1) e,h1.now r1⟩
theorem qjV {e:Expr} {g:List Sl→RE ER} (hK:X.K=C.G.K) (h:PE X e (tE C g)) (he:∀whole,isTrue e X.env whole=(do let v ←whole;standAt e.pos;holding [v] (truthy v))):PT X e (tT C fun ρ=>(g ρ).bind fun x=>qev x.d):=
 qcM (pt_truth h he) fun σ H Q q=>by rw[hK];exact qkg q
theorem ERw.non {P N H:Hp} {d:D} {b:Bool} {v:V} (h:ERw C P N H d b v):decide (v=V.non)=d.isNon:=by
 cases d with
 |non=>have e:v=.non:=h;subst e;rfl
 |bl _=>cases h.bl;rfl
 |int _=>cases h.int;rfl
 |str _=>cases h.str;rfl
 |lst _=>obtain⟨p,xs,rfl,_⟩:=h;rfl
 |tup _=>obtain⟨p,xs,rfl,_⟩:=h;rfl
 |ins _ _=>obtain⟨p,dx,xs,rfl,_⟩:=h;rfl
 |exc _ _=>obtain⟨_,a,rfl,_⟩:=h;rfl
abbrev qkq (k:Bool) (g:List Sl→RE ER):List Sl→RE ER:=fun ρ=>(g ρ).bind fun x=>ok (.bl (if k=true then x.d.isNon else !x.d.isNon))
theorem qdD {k:Bool} {g:List Sl→RE ER} {σ:L2.St} {H:Hp} {Q:VK} (h:tE C (qkq k g) σ H Q):tE C g σ H fun x H1=>Q (.bl (if k=true then decide (x=.non) else !decide (x=.non))) H1:=by
 obtain⟨ρ,P,N,S,h⟩:=h
 refine⟨ρ,P,N,S,h.bind.mono fun x P1 N1 H1 e a1 h1 v rv=>?_⟩
 have r1:=(S.adv a1).reg
 show Q _ H1
 rw[(rv.w r1).non]
 exact h1.val r1 rfl
theorem qji {k:Bool} {g:List Sl→RE ER} (ρ:List Sl) (er:ER) (e:qkq k g ρ=.ok er):∃k,er=.val (.bl k) true:=by
 cases e1:g ρ<;>simp only[qkq,e1,RE.bind_ok,RE.bind_bad,RE.bind_exc] at e<;>cases e
 exact⟨_,rfl⟩
theorem qjy {a:Expr} {g:List Sl→RE ER} {j:Nat} {pos pos':Pos} (h:PE X a (tE C g)):PE X (.Compare a [.Is] [.Constant .none j pos'] pos) (tE C (qkq true g)):=
 qag (pe_cmp (pc_isN h)) fun σ H Q q=>qdD q
theorem qio {a:Expr} {g:List Sl→RE ER} {j:Nat} {pos pos':Pos} (h:PE X a (tE C g)):PE X (.Compare a [.IsNot] [.Constant .none j pos'] pos) (tE C (qkq false g)):=
 qag (pe_cmp (pc_notN h)) fun σ H Q q=>qdD q
theorem qjJ {a:Expr} {g:List Sl→RE ER} {j:Nat} {pos pos':Pos} (h:PE X a (tE C g)):PT X (.Compare a [.Is] [.Constant .none j pos'] pos) (tT C fun ρ=>(qkq true g ρ).bind fun x=>qev x.d):=
 qcM (pt_cmp (pc_isN h)) fun σ H Q q=>qdD (qe0 qji q)
theorem qil {a:Expr} {g:List Sl→RE ER} {j:Nat} {pos pos':Pos} (h:PE X a (tE C g)):PT X (.Compare a [.IsNot] [.Constant .none j pos'] pos) (tT C fun ρ=>(qkq false g ρ).bind fun x=>qev x.d):=
 qcM (pt_cmp (pc_notN h)) fun σ H Q q=>qdD (qe0 qji q)
abbrev gBv (c:Bool) (g g':List Sl→RE ER):List Sl→RE ER:=fun ρ=>(g ρ).bind fun x=>match x.d with
  |.bl k=>if k=c then g' ρ else ok (.bl k)
  |_=>.bad
def qhC (c:Bool):BoolOp:=if c=true then .And else .Or
theorem qlG {a:Expr} {c:Bool} {g:List Sl→RE ER} {pos:Pos} (h:PE X a (tE C g)):PE X (.BoolOp (qhC c) [a] pos) (tE C (gBv c g fun _=>ok (.bl c))):=by
 refine qag (pe_one h) fun σ H Q q=>?_
 obtain⟨ρ,P,N,S,h⟩:=q
 refine⟨ρ,P,N,S,h.bind.mono fun x P1 N1 H1 e a1 h1 v rv=>?_⟩
 have r1:=(S.adv a1).reg
 split at h1
 ·rename_i k e
  have w:=rv.w r1
  rw[e] at w
  cases w.bl
  split at h1
  ·rename_i e;subst e;exact h1.val r1 rfl
  ·exact h1.val r1 rfl
 ·exact h1.elim
theorem qnc {a b:Expr} {rest:List Expr} {c:Bool} {g g':List Sl→RE ER} {pos:Pos} (h:PE X a (tE C g)) (h':PE X (.BoolOp (qhC c) (b::rest) pos) (tE C g')):PE X (.BoolOp (qhC c) (a::b::rest) pos) (tE C (gBv c g g')):=by
 have z:∀σ H Q,tE C (gBv c g g') σ H Q→tE C g σ H fun x H1=>∃k,x=.bl k∧if k=c then tE C g' σ H1 Q else Q (.bl k) H1:=fun σ H Q q=>by
  obtain⟨ρ,P,N,S,h⟩:=q
  refine⟨ρ,P,N,S,h.bind.mono fun x P1 N1 H1 e a1 h1 v rv=>?_⟩
  have r1:=(S.adv a1).reg
  split at h1
  ·rename_i k e
   have w:=rv.w r1
   rw[e] at w
   refine⟨k,w.bl,?_⟩
   split at h1
   ·rename_i e
    rw[if_pos e]
    exact⟨ρ,P1,N1,S.adv a1,h1.mono fun y P2 N2 H2 _ a2 h2 v rv=>h2 v (rv.from a1.hh)⟩
   ·rename_i e
    rw[if_neg e]
    exact h1.val r1 rfl
  ·exact h1.elim
 cases c with
 |true =>
  refine qag (pe_and h h') fun σ H Q q=>?_
  obtain⟨ρ,P,N,S,q⟩:=z σ H Q q
  refine⟨ρ,P,N,S,q.mono fun x P1 N1 H1 e a1 h1 v rv=>?_⟩
  obtain⟨k,e,h2⟩:=h1 v rv
  refine⟨k,e,?_⟩
  cases k
  ·exact h2
  ·exact h2
 |false =>
  refine qag (pe_or h h') fun σ H Q q=>?_
  obtain⟨ρ,P,N,S,q⟩:=z σ H Q q
  refine⟨ρ,P,N,S,q.mono fun x P1 N1 H1 e a1 h1 v rv=>?_⟩
  obtain⟨k,e,h2⟩:=h1 v rv
  refine⟨k,e,?_⟩
  cases k
  ·exact h2
  ·exact h2
theorem qhJ {a:Expr} {g:List Sl→RE ER} {pos:Pos} (hK:X.K=C.G.K) (h:PE X a (tE C g)):PE X (.UnaryOp .Not a pos) (tE C fun ρ=>(g ρ).bind fun x=>(qev x.d).bind fun k=>ok (.bl (!k))):=by
 refine qag (pe_notT h) fun σ H Q q=>?_
 rw[hK]
 obtain⟨ρ,P,N,S,h⟩:=q
 refine⟨ρ,P,N,S,h.bind.mono fun x P1 N1 H1 e a1 h1 v rv=>?_⟩
 have r1:=(S.adv a1).reg
 have n1:=qgM x.d
 cases e:qev x.d with
 |bad=>rw[e] at h1;exact h1.elim
 |exc c fs=>rw[e] at n1;exact n1.elim
 |ok k =>
  rw[e] at h1
  exact⟨k,qdj r1 (rv.w r1) e,h1.val r1 rfl⟩
theorem qka {a:Expr} {g:List Sl→RE Bool} {pos:Pos} (h:PT X a (tT C g)):PT X (.UnaryOp .Not a pos) (tT C fun ρ=>(g ρ).bind fun k=>.ok (!k)):=by
 refine qcM (pt_not h) fun σ H Q q=>?_
 obtain⟨ρ,P,N,S,h⟩:=q
 exact⟨ρ,P,N,S,h.bind.mono fun x P1 N1 H1 e a1 h1=>h1.now (S.adv a1).reg⟩
abbrev gBs (c:Bool) (g g':List Sl→RE Bool):List Sl→RE Bool:=fun ρ=>(g ρ).bind fun k=>if k=c then g' ρ else .ok k
theorem qdB {e:Expr} {t u:TT} (h:PW X e t) (f:∀σ H Q,u σ H Q→t σ H Q):PW X e u:=⟨fun w pins s σ H Q I q=>h.run w pins s σ H Q I (f _ _ _ q)⟩
theorem qlJ {a:Expr} {c:Bool} {g:List Sl→RE Bool} {pos:Pos} (h:PT X a (tT C g)):PW X (.BoolOp (qhC c) [a] pos) (tT C (gBs c g fun _=>.ok c)):=by
 have z:∀σ H Q,tT C (gBs c g fun _=>.ok c) σ H Q→tT C g σ H Q:=fun σ H Q q=>by
  obtain⟨ρ,P,N,S,h⟩:=q
  refine⟨ρ,P,N,S,h.bind.mono fun k P1 N1 H1 e a1 h1=>?_⟩
  split at h1
  ·rename_i e;subst e;exact h1.now (S.adv a1).reg
  ·exact h1.now (S.adv a1).reg
 cases c with
 |true=>exact qdB (pw_and1 h) z
 |false=>exact qdB (pw_or1 h) z
theorem qnw {a b:Expr} {rest:List Expr} {c:Bool} {g g':List Sl→RE Bool} {pos:Pos} (h:PT X a (tT C g)) (h':PW X (.BoolOp (qhC c) (b::rest) pos) (tT C g')):PW X (.BoolOp (qhC c) (a::b::rest) pos) (tT C (gBs c g g')):=by
 have z:∀σ H Q,tT C (gBs c g g') σ H Q→tT C g σ H fun k H1=>if k=c then tT C g' σ H1 Q else Q k H1:=fun σ H Q q=>by
  obtain⟨ρ,P,N,S,h⟩:=q
  refine⟨ρ,P,N,S,h.bind.mono fun k P1 N1 H1 e a1 h1=>?_⟩
  split at h1
  ·rename_i e;rw[if_pos e];exact⟨ρ,P1,N1,S.adv a1,h1⟩
  ·rename_i e;rw[if_neg e];exact h1.now (S.adv a1).reg
 cases c with
 |true =>
  refine qdB (pw_and h h') fun σ H Q q=>?_
  obtain⟨ρ,P,N,S,q⟩:=z σ H Q q
  refine⟨ρ,P,N,S,q.mono fun k P1 N1 H1 e a1 h1=>?_⟩
  cases k<;>exact h1
 |false =>
  refine qdB (pw_or h h') fun σ H Q q=>?_
  obtain⟨ρ,P,N,S,q⟩:=z σ H Q q
  refine⟨ρ,P,N,S,q.mono fun k P1 N1 H1 e a1 h1=>?_⟩
  cases k<;>exact h1
theorem qkN:PA X [] (tA C fun _=>.ok []):=by
 refine qb0 pa_nil fun σ H Q q=>?_
 obtain⟨ρ,P,N,S,h⟩:=q
 exact h.now S.reg [] rfl
theorem qid {e:Expr} {es:List Expr} {g:List Sl→RE ER} {g':List Sl→RE (List ER)} (h:PE X e (tE C g)) (h':PA X es (tA C g')) (hs:starEach (e::es) X.env=(false,eval e X.env)::starEach es X.env) :
  PA X (e::es) (tA C fun ρ=>(g ρ).bind fun x=>(g' ρ).bind fun r=>.ok (x.frz::r)):=by
 refine qb0 (pa_cons h h' hs) fun σ H Q q=>?_
 obtain⟨ρ,P,N,S,h⟩:=q
 refine⟨ρ,P,N,S,h.bind.mono fun x P1 N1 H1 e a1 h1 v rv=>?_⟩
 obtain⟨N2,a2,r2⟩:=rv.freeze a1
 have h2:res C σ P1 N2 H1 ((g' ρ).bind fun r=>.ok (x.frz::r)) fun es P' N' H'=>∀vs,ERs C P' N' H' H es vs→Q vs H':=by
  simp only[e,RE.bind_ok] at h
  exact res.adv a2 h
 exact⟨ρ,P1,N2,S.adv a2,h2.bind.mono fun es P3 N3 H3 e a3 h3 vs rvs=>h3.now ((S.adv a2).adv a3).reg _ ⟨v,vs,rfl,r2.adv a3,rvs.from a2.hh⟩⟩
end
end Cm
namespace Cm
open PySem PySem.Spec PyProof.Rows L2
section
variable {C:Ctx} {X:Cx}
theorem ERs.reps {P N H H0:Hp}:∀{es:List ER} {vs:List V},ERs C P N H H0 es vs→es.all ER.isV=true→RepsB C P N (es.all ER.b) (es.map ER.d) vs
 |[],_,h,_=>h
 |e::es,_,⟨v,r,q,h2,h3⟩,z=>by
  subst q
  simp only[List.all_cons,Bool.and_eq_true] at z
  cases e with
  |val d b=>exact⟨v,r,rfl,RepB.and1 h2,RepsB.and2 (ERs.reps h3 z.2)⟩
  |fre d b=>exact absurd z.1 (by simp[ER.isV])
  |brw d b=>exact absurd z.1 (by simp[ER.isV])
theorem ERs.w {P N H H0:Hp} (r:Reg C P N H) {e:ER} {es:List ER} {vs:List V} (h:ERs C P N H H0 (e::es) vs):∃v u,vs=v::u∧ERw C P N H e.d e.b v∧ERs C P N H H0 es u:=by
 obtain⟨v,u,q,h2,h3⟩:=h
 exact⟨v,u,q,h2.w r,h3⟩
theorem qjL {es:List Expr} {k:Nat} {g:List Sl→RE (List ER)} {pos:Pos} (h:PA X es (tA C g)) (hl:∀ρ r,g ρ=.ok r→r.length≤LIM):PE X (.Tuple es k pos) (tE C fun ρ=>(g ρ).bind fun r=>dis (fun ds b=>.val (.tup ds) b) r):=by
 refine qag (pe_tup h) fun σ H Q q=>?_
 obtain⟨ρ,P,N,S,h⟩:=q
 refine⟨ρ,P,N,S,h.bind.mono fun r P1 N1 H1 e a1 h1 vs rv=>?_⟩
 have r1:=(S.adv a1).reg
 unfold dis at h1
 split at h1
 ·rename_i z
  have rr:=rv.reps z
  refine⟨?_,fun p hp=>h1.tup r1 rr hp⟩
  rw[rr.length,List.length_map]
  exact hl _ _ e
 ·exact h1.elim
theorem qjW {es:List Expr} {g:List Sl→RE (List ER)} {pos:Pos} (h:PA X es (tA C g)) (hl:∀ρ r,g ρ=.ok r→r.length≤LIM):PE X (.List es pos) (tE C fun ρ=>(g ρ).bind fun r=>dis .fre r):=by
 refine qag (pe_lst h) fun σ H Q q=>?_
 obtain⟨ρ,P,N,S,h⟩:=q
 refine⟨ρ,P,N,S,h.bind.mono fun r P1 N1 H1 e a1 h1 vs rv=>?_⟩
 have r1:=(S.adv a1).reg
 unfold dis at h1
 split at h1
 ·rename_i z
  have rr:=rv.reps z
  refine⟨?_,fun p hp=>h1.fre r1 a1.hh rr hp⟩
  rw[rr.length,List.length_map]
  exact hl _ _ e
 ·exact h1.elim
theorem qgD {P N:Hp} {b:Bool} {ds:List D} {xs:List V} {i:Int} {d:D} (h:RepsB C P N b ds xs) (e:atI ds i=some d):∃v,atI xs i=some v∧RepB C P N b d v:=by
 unfold atI at e ⊢
 rw[h.length]
 cases q:ixN ds.length i with
 |none=>rw[q] at e;cases e
 |some j =>
  rw[q] at e
  exact h.get e
theorem qjZ {a i:Expr} {ga gi:List Sl→RE ER} {pos:Pos} (hK:X.K=C.G.K) (ha:PE X a (tE C ga)) (hi:PE X i (tE C gi)) (hs:PlainIx i):PE X (.Subscript a i pos) (tE C fun ρ=>(ga ρ).bind fun x=>(gi ρ).bind fun y=>qkK x.d y.d x.b):=by
 refine qag (pe_ix ix_seq ha hi hs) fun σ H Q q=>?_
 rw[hK]
 obtain⟨ρ,P,N,S,h⟩:=q
 refine⟨ρ,P,N,S,h.bind.mono fun x P1 N1 H1 _ a1 h1 v rv=>⟨ρ,P1,N1,S.adv a1,h1.bind.mono fun y P2 N2 H2 _ a2 h2 u ru=>?_⟩⟩
 have r2:=(S.adv (a1.trans a2)).reg
 have wx:=(rv.adv a2).w r2
 have wy:=ru.w r2
 unfold qkK at h2
 simp only[qco,qaP,qai,qaD,qaA,qay,qaC,qaN,qaH,qat,qaB] at h2
 split at h2
 ·rename_i ds i e1 e2
  rw[e1] at wx;rw[e2] at wy
  obtain⟨p,xs,rfl,h3,h4⟩:=wx.lst
  cases wy.int
  split at h2
  ·rename_i d e
   obtain⟨v,e',h5⟩:=qgD h4 e
   exact .inl ⟨p,xs,i,v,rfl,rfl,h3,e',h2.val r2 h5.nf⟩
  ·exact h2.elim
 ·rename_i ds i e1 e2
  rw[e1] at wx;rw[e2] at wy
  obtain⟨p,xs,rfl,h3,h4⟩:=wx.tup r2
  cases wy.int
  split at h2
  ·rename_i d e
   obtain⟨v,e',h5⟩:=qgD h4 e
   exact .inr (.inl ⟨p,xs,i,v,rfl,rfl,h3,e',h2.val r2 h5.nf⟩)
  ·exact h2.elim
 ·rename_i s i e1 e2
  rw[e1] at wx;rw[e2] at wy
  cases wx.str
  cases wy.int
  split at h2
  ·rename_i hl
   split at h2
   ·rename_i c e
    refine .inr (.inr ⟨_,i,c,rfl,rfl,?_,?_,?_⟩)
    ·rw[qaw];exact hl
    ·exact e
    ·exact h2.val r2 rfl
   ·exact h2.elim
  ·exact h2.elim
 ·exact h2.elim
theorem qiP:PO X none (tO C fun _=>.ok none):=⟨fun pins s σ H Q I q=>by
 obtain⟨ρ,P,N,S,h⟩:=q
 exact po_none.run pins s σ H Q I (h.now S.reg)⟩
theorem qhX {e:Expr} {g:List Sl→RE ER} (h:PE X e (tE C g)):PO X (some e) (tO C fun ρ=>(g ρ).bind fun x=>match x.d with
  |.int i=>.ok (some i)
  |_=>.bad):=⟨fun pins s σ H Q I q=>by
 obtain⟨ρ,P,N,S,h'⟩:=q
 refine(po_some h).run pins s σ H Q I ⟨ρ,P,N,S,h'.bind.mono fun x P1 N1 H1 _ a1 h1 v rv=>?_⟩
 have r1:=(S.adv a1).reg
 split at h1
 ·rename_i i e
  have w:=rv.w r1
  rw[e] at w
  exact⟨i,w.int,h1.now r1⟩
 ·exact h1.elim⟩
theorem qg4 {P N:Hp} {b:Bool} {ds:List D} {xs:List V} (h:RepsB C P N b ds xs) (lo hi:Option Int):RepsB C P N b (qbd ds lo hi) (cutV xs lo hi):=by
 unfold qbd cutV
 rw[h.length]
 exact Reps.take _ (Reps.drop _ h)
theorem qjs {a:Expr} {lo hi:Option Expr} {ga:List Sl→RE ER} {gl gh:List Sl→RE (Option Int)} {pos p2:Pos} (hK:X.K=C.G.K) (ha:PE X a (tE C ga)) (hl:PO X lo (tO C gl)) (hh:PO X hi (tO C gh)) :
  PE X (.Subscript a (.Slice lo hi none p2) pos) (tE C fun ρ=>(ga ρ).bind fun x=>(gl ρ).bind fun l=>(gh ρ).bind fun h=>qnY x.d l h x.b):=by
 refine qag (pe_slice (sl_list.or (sl_tup.or sl_str)) ha hl hh) fun σ H Q q=>?_
 rw[hK]
 obtain⟨ρ,P,N,S,h⟩:=q
 refine⟨ρ,P,N,S,h.bind.mono fun x P1 N1 H1 _ a1 h1 v rv=>⟨ρ,P1,N1,S.adv a1,h1.bind.mono fun l P2 N2 H2 _ a2 h2=>⟨ρ,P2,N2,S.adv (a1.trans a2),res.mono (res.bind h2) fun u P3 N3 H3 _ a3 h3=>?_⟩⟩⟩
 have a:=(a1.trans a2).trans a3
 have r3:=(S.adv a).reg
 have wx:=(rv.adv (a2.trans a3)).w r3
 unfold qnY at h3
 simp only[qco,qaP,qai,qaD,qaA,qay,qaC,qaN,qaH,qat,qaB] at h3
 split at h3
 ·rename_i ds e1
  rw[e1] at wx
  obtain⟨p,xs,rfl,h4,h5⟩:=wx.lst
  exact .inl ⟨p,xs,rfl,h4,fun p hp=>h3.fre r3 a.hh (qg4 h5 l u) hp⟩
 ·rename_i ds e1
  rw[e1] at wx
  obtain⟨p,xs,rfl,h4,h5⟩:=wx.tup r3
  split at h3
  ·rename_i hw
   refine .inr (.inl ⟨p,xs,rfl,h4,?_,fun p hp=>h3.tup r3 (qg4 h5 l u) hp⟩)
   rw[h5.length]
   rintro⟨q1,q2⟩
   simp[q1,q2] at hw
  ·exact h3.elim
 ·rename_i s e1
  rw[e1] at wx
  cases wx.str
  split at h3
  ·rename_i hl
   refine .inr (.inr ⟨_,rfl,?_,?_⟩)
   ·rw[qaw];exact hl
   ·exact h3.val r3 rfl
  ·exact h3.elim
 ·exact h3.elim
def qoZ (K:PySem.W.Frag) (te:TE):TE:=fun σ H Q=>te σ H fun x H1=>(∃a xs,x=.ref a∧SqL K H1 a xs∧∀p,H1 p=none→Q (.ref p) (upd H1 p (.lst xs.reverse))) ∨
 (∃a xs,x=.ref a∧SqT K H1 a xs∧∀p,H1 p=none→Q (.ref p) (upd H1 p (.tup xs.reverse)))
def qoa:Pri→Value
 |.len=>.builtin "len" |.abs=>.builtin "abs" |.min2=>.builtin "min" |.max2=>.builtin "max" |.min1=>.builtin "min" |.max1=>.builtin "max" |.sum=>.builtin "sum" |.sorted=>.builtin "sorted"
 |.all=>.builtin "all" |.any=>.builtin "any" |.list=>.type "list" |.tupl=>.type "tuple" |.int=>.type "int" |.str=>.type "str" |.dmd=>.builtin "divmod"
def qjb:Pri→Str
 |.len=>"len" |.abs=>"abs" |.min2=>"min" |.max2=>"max" |.min1=>"min" |.max1=>"max" |.sum=>"sum" |.sorted=>"sorted"
 |.all=>"all" |.any=>"any" |.list=>"list" |.tupl=>"tuple" |.int=>"int" |.str=>"str" |.dmd=>"divmod"
def qoc (K:PySem.W.Frag):Pri→List V→Hp→VK→Prop
 |.len=>fun xs H Q=>(∃x n,xs=[x]∧LenV K x H n∧Q (.int n) H)
 |.abs=>fun xs H Q=>∃i,xs=[.int i]∧Q (.int (if i<0 then -i else i)) H
 |.min2=>fun xs H Q=>∃i j,xs=[.int i,.int j]∧Q (.int (if j<i then j else i)) H
 |.max2=>fun xs H Q=>∃i j,xs=[.int i,.int j]∧Q (.int (if j>i then j else i)) H
 |.min1=>rMin K
 |.max1=>rMax K
 |.sum=>rSum K
 |.sorted=>rSortedI K
 |.all=>rAll K
 |.any=>rAny K
 |.list=>fun xs H Q=>∃p ys,xs=[.ref p]∧(SqL K H p ys∨SqT K H p ys)∧∀l,H l=none→Q (.ref l) (upd H l (.lst ys))
 |.tupl=>fun xs H Q=>∃p ys,xs=[.ref p]∧SqL K H p ys∧∀l,H l=none→Q (.ref l) (upd H l (.tup ys))
 |.int=>fun xs H Q=>((∃i,xs=[.int i]∧Q (.int i) H)∨∃k,xs=[.bl k]∧Q (.int (if k then 1 else 0)) H)∨∃a n,xs=[.str a]∧intText? a=some n∧a.length≤640∧Q (.int n) H
 |.dmd=>fun xs H Q=>∃i j,xs=[.int i,.int j]∧CDiv i j∧∀p,H p=none→Q (.ref p) (upd H p (.tup [.int (i / j),.int (i % j)]))
 |.str=>fun xs H Q=>∃i,xs=[.int i]∧i.natAbs.log2<1920∧Q (.str (toString i)) H
theorem qlZ (hc:X.calm=true):∀p,CallR X (qoa p) (qoc X.K p)
 |.len=>call_len
 |.abs=>call_abs
 |.min2=>call_min2 hc
 |.max2=>call_max2 hc
 |.min1=>cr_min hc
 |.max1=>cr_max hc
 |.sum=>cr_sum hc
 |.sorted=>cr_sortedI
 |.all=>cr_all hc
 |.any=>cr_any hc
 |.list=>call_list_of
 |.tupl=>fun pins s σ H vs us Q I r q=>by
  obtain⟨p,ys,e,h1,h2⟩:=q
  exact call_tuple_of pins s σ H vs us Q I r ⟨p,ys,e,.inl ⟨h1,h2⟩⟩
 |.int=>fun pins s σ H vs us Q I r q=>by
  rcases q with q | q
  ·exact call_int1 pins s σ H vs us Q I r q
  ·exact call_int_str pins s σ H vs us Q I r q
 |.dmd=>call_divmod
 |.str=>call_str_int
theorem qbw {P N:Hp} {b:Bool}:∀{ds:List D} {ns:List Int} {xs:List V},qaX ds=some ns→RepsB C P N b ds xs→xs=ns.map V.int
 |[],ns,xs,e,h=>by cases e;cases h;rfl
 |d::ds,ns,xs,e,⟨v,r,q,h1,h2⟩=>by
  cases d<;>simp only[qaX] at e<;>try cases e
  rename_i i
  cases e2:qaX ds with
  |none=>rw[e2] at e;cases e
  |some ms =>
   rw[e2] at e;cases e
   have q1:v=.int i:=h1
   rw[q,q1,qbw e2 h2];rfl
theorem qb5 {P N:Hp} {b:Bool}:∀{ds:List D} {ns:List Bool} {xs:List V},qcb ds=some ns→RepsB C P N b ds xs→xs=ns.map V.bl
 |[],ns,xs,e,h=>by cases e;cases h;rfl
 |d::ds,ns,xs,e,⟨v,r,q,h1,h2⟩=>by
  cases d<;>simp only[qcb] at e<;>try cases e
  rename_i i
  cases e2:qcb ds with
  |none=>rw[e2] at e;cases e
  |some ms =>
   rw[e2] at e;cases e
   have q1:v=.bl i:=h1
   rw[q,q1,qb5 e2 h2];rfl
theorem qel {P N:Hp} {b:Bool}:∀{ds:List D} {ns:List (List Nat)} {xs:List V},qej ds=some ns→RepsB C P N b ds xs→xs=(ns.map qal).map V.str
 |[],ns,xs,e,h=>by cases e;cases h;rfl
 |d::ds,ns,xs,e,⟨v,r,q,h1,h2⟩=>by
  cases d<;>simp only[qej] at e<;>try cases e
  rename_i i
  cases e2:qej ds with
  |none=>rw[e2] at e;cases e
  |some ms =>
   rw[e2] at e;cases e
   have q1:v=.str (qal i):=h1
   rw[q,q1,qel e2 h2];rfl
theorem qhr:∀(n:Int) (ns:List Int),qfY (n::ns)∈n::ns∧∀y∈n::ns,qfY (n::ns)≤y
 |n,[]=>by simp[qfY]
 |n,m::ns=>by
  obtain⟨h1,h2⟩:=qhr m ns
  have e:qfY (n::m::ns)=min n (qfY (m::ns)):=rfl
  rw[e]
  constructor
  ·rcases Int.le_total n (qfY (m::ns)) with h | h
   ·rw[Int.min_eq_left h];simp
   ·rw[Int.min_eq_right h];exact List.mem_cons_of_mem _ h1
  ·intro y hy
   rcases List.mem_cons.mp hy with rfl | hy
   ·exact Int.min_le_left _ _
   ·exact Int.le_trans (Int.min_le_right _ _) (h2 y hy)
theorem qhi:∀(n:Int) (ns:List Int),qfZ (n::ns)∈n::ns∧∀y∈n::ns,y≤qfZ (n::ns)
 |n,[]=>by simp[qfZ]
 |n,m::ns=>by
  obtain⟨h1,h2⟩:=qhi m ns
  have e:qfZ (n::m::ns)=max n (qfZ (m::ns)):=rfl
  rw[e]
  constructor
  ·rcases Int.le_total n (qfZ (m::ns)) with h | h
   ·rw[Int.max_eq_right h];exact List.mem_cons_of_mem _ h1
   ·rw[Int.max_eq_left h];simp
  ·intro y hy
   rcases List.mem_cons.mp hy with rfl | hy
   ·exact Int.le_max_left _ _
   ·exact Int.le_trans (h2 y hy) (Int.le_max_right _ _)
theorem qcE (x:Int):∀ns:List Int,(qkV x ns).Perm (x::ns)
 |[]=>.refl _
 |y::ys=>by
  unfold qkV
  split
  ·exact .refl _
  ·exact((qcE x ys).cons y).trans (List.Perm.swap x y ys)
theorem qdn:∀ns:List Int,(qbF ns).Perm ns
 |[]=>.refl _
 |x::xs=>(qcE x (qbF xs)).trans ((qdn xs).cons x)
theorem qfJ (x:Int):∀ns:List Int,ns.Pairwise (· ≤ ·)→(qkV x ns).Pairwise (· ≤ ·)
 |[],_=>by simp[qkV]
 |y::ys,h=>by
  unfold qkV
  have h':=List.pairwise_cons.mp h
  split
  ·rename_i hxy
   refine List.pairwise_cons.mpr ⟨fun z hz=>?_,h⟩
   rcases List.mem_cons.mp hz with rfl | hz
   ·exact hxy
   ·exact Int.le_trans hxy (h'.1 z hz)
  ·rename_i hxy
   refine List.pairwise_cons.mpr ⟨fun z hz=>?_,qfJ x ys h'.2⟩
   rcases List.mem_cons.mp ((qcE x ys).mem_iff.mp hz) with rfl | hz
   ·omega
   ·exact h'.1 z hz
theorem qdS:∀ns:List Int,(qbF ns).Pairwise (· ≤ ·)
 |[]=>.nil
 |x::xs=>qfJ x _ (qdS xs)
theorem qdl:∀{l m:List Int},l.Perm m→l.Pairwise (· ≤ ·)→m.Pairwise (· ≤ ·)→l=m
 |[],m,p,_,_=>(List.nil_perm.mp p).symm
 |x::l,[],p,_,_=>(List.perm_nil.mp p)
 |x::l,y::m,p,h,h'=>by
  have a:=List.pairwise_cons.mp h
  have b:=List.pairwise_cons.mp h'
  have e:x=y:=by
   have h1:x∈y::m:=p.mem_iff.mp (by simp)
   have h2:y∈x::l:=p.mem_iff.mpr (by simp)
   rcases List.mem_cons.mp h1 with h1 | h1
   ·exact h1
   ·rcases List.mem_cons.mp h2 with h2 | h2
    ·exact h2.symm
    ·have:=a.1 y h2;have:=b.1 x h1;omega
  subst e
  rw[qdl (List.Perm.cons_inv p) a.2 b.2]
theorem qkz (p:Pri) {g:List Sl→RE (List ER)} {σ:L2.St} {H:Hp} {Q:VK} (h:tE C (fun ρ=>(g ρ).bind (evP p)) σ H Q):tCB (qoc C.G.K p) (tA C g) σ H Q:=by
 obtain⟨ρ,P,N,S,h⟩:=h
 refine⟨ρ,P,N,S,h.bind.mono fun es P1 N1 H1 _ a1 h1 vs rv=>?_⟩
 have r:=(S.adv a1).reg
 have hh:=a1.hh
 clear h S a1
 unfold evP at h1
 simp only[qco,qaP,qai,qaD,qaA,qay,qaC,qaN,qaH,qat,qaB] at h1
 split at h1
 all_goals try exact h1.elim
 all_goals obtain⟨v,u,rfl,w,rv⟩:=rv.w r
 all_goals first
  |(obtain⟨v2,u2,rfl,w2,rv⟩:=rv.w r;cases rv)
  |cases rv
 all_goals split at h1
 all_goals try exact h1.elim
 all_goals rename_i q1
 -- len
 ·rw[q1] at w
  obtain⟨p,xs,rfl,h4,h5⟩:=w.lst
  exact⟨_,xs.length,rfl,.inl ⟨xs,h4,rfl⟩,by rw[h5.length];exact h1.val r rfl⟩
 ·rw[q1] at w
  obtain⟨p,xs,rfl,h4,h5⟩:=w.tup r
  exact⟨_,xs.length,rfl,.inr ⟨xs,h4,rfl⟩,by rw[h5.length];exact h1.val r rfl⟩
 ·rw[q1] at w
  cases w.str
  split at h1
  ·rename_i hl
   exact⟨_,_,rfl,⟨by rw[qaw];exact hl,rfl⟩,by rw[qaw];exact h1.val r rfl⟩
  ·exact h1.elim
 -- abs
 ·rw[q1] at w
  cases w.int
  exact⟨_,rfl,h1.val r rfl⟩
 -- min2 max2
 ·rename_i q2
  rw[q2] at w;rw[q1] at w2
  cases w.int;cases w2.int
  exact⟨_,_,rfl,h1.val r rfl⟩
 ·rename_i q2
  rw[q2] at w;rw[q1] at w2
  cases w.int;cases w2.int
  exact⟨_,_,rfl,h1.val r rfl⟩
 -- min1 max1
 ·rw[q1] at w
  obtain⟨p,xs,rfl,h4,h5⟩:=w.lst
  split at h1
  ·rename_i n ns q2
   have e:=qbw q2 h5
   subst e
   obtain⟨z1,z2⟩:=qhr n ns
   refine⟨p,n::ns,rfl,h4,by simp,fun m hm hy=>?_⟩
   have:m=qfY (n::ns):=by
    have:=hy _ z1
    have:=z2 _ hm
    omega
   rw[this]
   exact h1.val r rfl
  ·exact h1.elim
 ·rw[q1] at w
  obtain⟨p,xs,rfl,h4,h5⟩:=w.lst
  split at h1
  ·rename_i n ns q2
   have e:=qbw q2 h5
   subst e
   obtain⟨z1,z2⟩:=qhi n ns
   refine⟨p,n::ns,rfl,h4,by simp,fun m hm hy=>?_⟩
   have:m=qfZ (n::ns):=by
    have:=hy _ z1
    have:=z2 _ hm
    omega
   rw[this]
   exact h1.val r rfl
  ·exact h1.elim
 -- sum
 ·rw[q1] at w
  obtain⟨p,xs,rfl,h4,h5⟩:=w.lst
  split at h1
  ·rename_i ns q2
   have e:=qbw q2 h5
   subst e
   exact⟨p,ns,rfl,h4,h1.val r rfl⟩
  ·exact h1.elim
 -- sorted
 ·rw[q1] at w
  obtain⟨p,xs,rfl,h4,h5⟩:=w.lst
  split at h1
  ·rename_i ns q2
   have e:=qbw q2 h5
   subst e
   refine⟨p,ns,rfl,h4,fun ns' p z1 z2 hp=>?_⟩
   have:ns'=qbF ns:=qdl (z1.trans (qdn ns).symm) z2 (qdS ns)
   rw[this]
   exact h1.fre r hh (Reps.ints.mpr rfl) hp
  ·exact h1.elim
 -- all any
 ·rw[q1] at w
  obtain⟨p,xs,rfl,h4,h5⟩:=w.lst
  split at h1
  ·rename_i ns q2
   have e:=qb5 q2 h5
   subst e
   exact⟨p,ns,rfl,h4,h1.val r rfl⟩
  ·exact h1.elim
 ·rw[q1] at w
  obtain⟨p,xs,rfl,h4,h5⟩:=w.lst
  split at h1
  ·rename_i ns q2
   have e:=qb5 q2 h5
   subst e
   exact⟨p,ns,rfl,h4,h1.val r rfl⟩
  ·exact h1.elim
 -- list
 ·rw[q1] at w
  obtain⟨p,xs,rfl,h4,h5⟩:=w.lst
  exact⟨p,xs,rfl,.inl h4,fun l hl=>h1.fre r hh h5.nf hl⟩
 ·rw[q1] at w
  obtain⟨p,xs,rfl,h4,h5⟩:=w.tup r
  exact⟨p,xs,rfl,.inr h4,fun l hl=>h1.fre r hh h5.nf hl⟩
 -- tuple
 ·rw[q1] at w
  obtain⟨p,xs,rfl,h4,h5⟩:=w.lst
  exact⟨p,xs,rfl,h4,fun l hl=>h1.tup r h5.nf hl⟩
 -- int
 ·rw[q1] at w
  cases w.int
  exact .inl (.inl ⟨_,rfl,h1.val r rfl⟩)
 ·rw[q1] at w
  cases w.bl
  exact .inl (.inr ⟨_,rfl,h1.val r rfl⟩)
 ·rw[q1] at w
  cases w.str
  split at h1
  ·rename_i n q2
   split at h1
   ·rename_i hl
    rw[Nat.ble_eq] at hl
    exact .inr ⟨_,n,rfl,q2,by rw[qaw];exact hl,h1.val r rfl⟩
   ·exact h1.elim
  ·exact h1.elim
 -- divmod
 ·rename_i q2
  rw[q2] at w;rw[q1] at w2
  cases w.int;cases w2.int
  split at h1
  ·rename_i hl
   rw[qkE] at hl
   exact⟨_,_,rfl,hl,fun p hp=>h1.tup r ⟨_,_,rfl,rfl,_,_,rfl,rfl,rfl⟩ hp⟩
  ·exact h1.elim
 -- str
 ·rw[q1] at w
  cases w.int
  split at h1
  ·rename_i hl
   refine⟨_,rfl,hl,h1.val r ?_⟩
   show V.str _=V.str _
   rfl
  ·exact h1.elim
theorem qiH:∀p,bootBuiltins (qjb p)=some (qoa p)
 |.len=>boot_len
 |.abs=>by decide +kernel
 |.min2=>by decide +kernel
 |.max2=>by decide +kernel
 |.min1=>by decide +kernel
 |.max1=>by decide +kernel
 |.sum=>by decide +kernel
 |.sorted=>by decide +kernel
 |.all=>by decide +kernel
 |.any=>by decide +kernel
 |.list=>by decide +kernel
 |.tupl=>by decide +kernel
 |.int=>by decide +kernel
 |.str=>by decide +kernel
 |.dmd=>by decide +kernel
theorem qgU:∀p,qjb p ≠ "__name__" ∧ (qjb p == ("__debug__" : Str))=false:=by intro p;cases p<;>decide
theorem qdN {x:Str} {f:Value} {r:List V→Hp→VK→Prop} {e:Expr} {es:List Expr} {t:TA} {p pos:Pos} (hc:CallR X f r) (hv:bootBuiltins x=some f) (hf:(∃id,f=.builtin id)∨∃T,f=.type T) (hg:Gl X x) (hm:X.mg x=none) (ha:PA X (e::es) t) (hn:x ≠ "__name__") (hdb:(x == ("__debug__" : Str))=false)
  (he:starEach (e::es) X.env=(false,eval e X.env)::starEach es X.env) (hpl:(backTo pos (starEach es X.env)).any (·.1)=false):PE X (.Call (.Name x p) (e::es) [] pos) (tCB r t):=by
 rcases hf with⟨id,rfl⟩ | ⟨T,rfl⟩
 ·exact pe_callB hc hg hm hv ha hn hdb he hpl
 ·exact pe_callTy hc hg hm hv ha hn hdb he hpl
theorem qkd {q:Pri} {g:List Sl→RE (List ER)} {e:Expr} {es:List Expr} {p pos:Pos} (hK:X.K=C.G.K) (hc:X.calm=true) (hg:Gl X (qjb q)) (hm:X.mg (qjb q)=none) (ha:PA X (e::es) (tA C g))
  (he:starEach (e::es) X.env=(false,eval e X.env)::starEach es X.env) (hpl:(backTo pos (starEach es X.env)).any (·.1)=false):PE X (.Call (.Name (qjb q) p) (e::es) [] pos) (tE C fun ρ=>(g ρ).bind (evP q)):=
 qag (qdN (qlZ hc q) (qiH q) (by cases q<;>first | exact .inl ⟨_,rfl⟩ | exact .inr ⟨_,rfl⟩) hg hm ha (qgU q).1 (qgU q).2 he hpl) fun σ H Q h=>by rw[hK];exact qkz q h
end
end Cm
namespace Cm
open PySem PySem.Spec PyProof.Rows L2
section
variable {C:Ctx} {X:Cx}
open Classical in
noncomputable def un3 (P N R H:Hp):Hp:=fun a=>if P a≠none∨N a≠none∨R a≠none then H a else none
open Classical in
noncomputable def un2 (N N' H:Hp):Hp:=fun a=>if N a≠none∨N' a≠none then H a else none
theorem qnD {P N R H:Hp}:Same (un3 P N R H) H:=fun a o e=>by
 unfold un3 at e
 split at e
 ·exact e
 ·cases e
theorem qnq {P N R H:Hp} (h:Same P H):Same P (un3 P N R H):=fun a o e=>by
 unfold un3
 rw[if_pos (.inl (by rw[e];simp))]
 exact h _ _ e
theorem qly {P N R H:Hp} (h:Same N H):Same N (un3 P N R H):=fun a o e=>by
 unfold un3
 rw[if_pos (.inr (.inl (by rw[e];simp)))]
 exact h _ _ e
theorem qnt {P N R H:Hp} (h:Same R H):Same R (un3 P N R H):=fun a o e=>by
 unfold un3
 rw[if_pos (.inr (.inr (by rw[e];simp)))]
 exact h _ _ e
theorem qiR {P N R H:Hp} (hp:Same P H) (hn:Same N H) (hr:Same R H) {a:Addr} {o:HO} (e:un3 P N R H a=some o):P a=some o∨N a=some o∨R a=some o:=by
 unfold un3 at e
 split at e
 ·rename_i h
  rcases h with h | h | h
  ·obtain⟨u,q⟩:=Option.ne_none_iff_exists'.mp h
   have:=hp _ _ q
   rw[e] at this;cases this
   exact .inl q
  ·obtain⟨u,q⟩:=Option.ne_none_iff_exists'.mp h
   have:=hn _ _ q
   rw[e] at this;cases this
   exact .inr (.inl q)
  ·obtain⟨u,q⟩:=Option.ne_none_iff_exists'.mp h
   have:=hr _ _ q
   rw[e] at this;cases this
   exact .inr (.inr q)
 ·cases e
theorem qjC {K:PySem.W.Frag} {P N R H:Hp} (hp:Same P H) (hn:Same N H) (hr:Same R H) {a:Addr} {xs:List V} (h:SqL K (un3 P N R H) a xs):SqL K P a xs∨SqL K N a xs∨SqL K R a xs:=by
 rcases h with(h | ⟨o,h⟩) | h
 ·rcases qiR hp hn hr h with h | h | h
  ·exact .inl (.inl (.inl h))
  ·exact .inr (.inl (.inl (.inl h)))
  ·exact .inr (.inr (.inl (.inl h)))
 ·rcases qiR hp hn hr h with h | h | h
  ·exact .inl (.inl (.inr ⟨o,h⟩))
  ·exact .inr (.inl (.inl (.inr ⟨o,h⟩)))
  ·exact .inr (.inr (.inl (.inr ⟨o,h⟩)))
 ·exact .inl (.inr h)
theorem qni {N N' H:Hp}:Same (un2 N N' H) H:=fun a o e=>by
 unfold un2 at e
 split at e
 ·exact e
 ·cases e
theorem qms {N N' H:Hp} (h:Same N H):Same N (un2 N N' H):=fun a o e=>by
 unfold un2
 rw[if_pos (.inl (by rw[e];simp))]
 exact h _ _ e
theorem qhH {N N' H:Hp} (h:Same N' H):Same N' (un2 N N' H):=fun a o e=>by
 unfold un2
 rw[if_pos (.inr (by rw[e];simp))]
 exact h _ _ e
theorem Adv.back {P N H P' N' H':Hp} (hn:Same N H) (a:Adv P (fun _=>none) H P' N' H'):Adv P N H P' (un2 N N' H') H' where
 hh:=a.hh
 pp:=a.pp
 nn:=qms (hn.trans a.hh)
 pH:=a.pH
 nH:=qni
 pn:=a.pn
 nw:=fun q h=>by
  unfold un2 at h
  split at h
  ·rename_i z
   rcases z with z | z
   ·exact .inl z
   ·rcases a.nw q z with z | z
    ·exact absurd rfl z
    ·exact .inr z
  ·exact absurd rfl h
 dj:=fun q h h2=>by
  unfold un2 at h
  split at h
  ·rename_i z
   rcases z with z | z
   ·exact z
   ·exact absurd rfl (a.dj q z h2)
  ·exact absurd rfl h
theorem qic {P N H H0:Hp} {σ:L2.St} {n:Nat} {g':List D→RE ER} {Q:VK} {es:List ER} {vs:List V} (r:Reg C P N H) (e0:L2.Same H0 H) (hv:ERs C P N H H0 es vs) (hn:es.length=n)
  (h:res C σ P N H ((g' (es.map ER.d)).bind (qby (!es.all ER.isV))) (kE C H0 Q)):spD C.G n g' vs H Q (fun cls d H'=>C.W cls d σ H'):=by
 have rH:=r.rH
 cases ha:es.all ER.isV with
 |true =>
  rw[ha] at h
  have hr:=hv.reps ha
  refine⟨P,un3 P N C.R H,es.map ER.d,r.pH,qnD,Reps.mono (L2.Same.refl _) _ _ (fun a xs q=>?_) hr,by rw[List.length_map,hn],?_⟩
  ·rcases q with q | ⟨_,q | q | q⟩
   ·exact .inl (.inl (qly r.nH _ _ q))
   ·exact L2.Same.seq (qnq r.pH) q
   ·exact L2.Same.seq (qly r.nH) q
   ·exact L2.Same.seq (qnt rH) q
  ·have mono:∀{P' N' H':Hp} {b:Bool},Adv P (fun _=>none) H P' N' H'→∀a xs,LNb C.G.K P' N' (un3 P N C.R H) b a xs→LNb C.G.K P' (un2 N N' H') C.R b a xs:=fun {P' N' H' b} ad a xs q=>by
    rcases q with q | ⟨hb,q | q | q⟩
    ·exact .inl (qhH ad.nH _ _ q)
    ·exact .inr ⟨hb,.inl q⟩
    ·exact .inr ⟨hb,.inr (.inl (L2.Same.seq (qhH ad.nH) q))⟩
    ·rcases qjC r.pH r.nH rH q with q | q | q
     ·exact .inr ⟨hb,.inl (L2.Same.seq ad.pp q)⟩
     ·exact .inr ⟨hb,.inr (.inl (L2.Same.seq (qms (r.nH.trans ad.hh)) q))⟩
     ·exact .inr ⟨hb,.inr (.inr q)⟩
   cases e:g' (es.map ER.d) with
   |bad=>rw[e] at h;exact h.elim
   |exc c fs =>
    rw[e] at h
    intro d H' P' N' ad hx
    refine h d _ _ _ (ad.back r.nH) ?_
    rcases hx with hx | ⟨dd,f,v,h1,h2,h3,h4⟩
    ·exact .inl hx
    ·exact .inr ⟨dd,f,v,h1,h2,h3,Rep.mono (L2.Same.refl _) _ _ (mono ad) h4⟩
   |ok er =>
    rw[e] at h
    intro v H' P' N' ad hx
    cases er with
    |brw ds b=>exact h.elim
    |val d b=>exact h _ _ _ (ad.back r.nH) v (RepB.nf (C:=C) (Rep.mono (L2.Same.refl _) _ _ (mono ad) hx))
    |fre ds b =>
     obtain⟨p,xs,rfl,h1,h2,h3,h4,h5⟩:=hx
     refine h _ _ _ (ad.back r.nH) _ ⟨p,xs,rfl,h1,e0.free h2,h3,?_,Reps.mono (L2.Same.refl _) _ _ (mono ad) h5⟩
     unfold un2
     rw[if_neg]
     rintro(z | z)
     ·exact z (r.nH.free h2)
     ·exact z h4
 |false =>
  rw[ha] at h
  have hr:Reps C.G P (SqL C.G.K H) (es.map ER.d) vs:=by
   clear h ha hn
   induction es generalizing vs with
   |nil=>cases hv;rfl
   |cons e es ih =>
    obtain⟨v,u,rfl,h1,h2⟩:=hv
    refine⟨v,u,rfl,?_,ih h2⟩
    have w:=h1.w r
    have mm:=fun a xs=>LNb.seq (K:=C.G.K) (b:=e.b) r.pH r.nH rH a xs
    cases q:e.d with
    |lst ds =>
     rw[q] at w
     obtain⟨p,xs,rfl,h3,h4⟩:=w
     exact⟨p,xs,rfl,h3,Reps.mono (L2.Same.refl _) _ _ mm h4⟩
    |non=>rw[q] at w;exact Rep.mono (L2.Same.refl _) _ _ mm w
    |bl _=>rw[q] at w;exact Rep.mono (L2.Same.refl _) _ _ mm w
    |int _=>rw[q] at w;exact Rep.mono (L2.Same.refl _) _ _ mm w
    |str _=>rw[q] at w;exact Rep.mono (L2.Same.refl _) _ _ mm w
    |tup _=>rw[q] at w;exact Rep.mono (L2.Same.refl _) _ _ mm w
    |ins _ _=>rw[q] at w;exact Rep.mono (L2.Same.refl _) _ _ mm w
    |exc _ _=>rw[q] at w;exact Rep.mono (L2.Same.refl _) _ _ mm w
  refine⟨P,H,es.map ER.d,r.pH,L2.Same.refl _,hr,by rw[List.length_map,hn],?_⟩
  have mono:∀{P' N' H':Hp},Adv P (fun _=>none) H P' N' H'→∀a xs,LNb C.G.K P' N' H true a xs→LNb C.G.K P' (un2 N N' H') C.R true a xs:=fun {P' N' H'} ad a xs q=>by
   rcases q with q | ⟨hb,q⟩
   ·exact .inl (qhH ad.nH _ _ q)
   ·cases hb
  cases e:g' (es.map ER.d) with
  |bad=>rw[e] at h;exact h.elim
  |exc c fs =>
   rw[e] at h
   intro d H' P' N' ad hx
   refine h d _ _ _ (ad.back r.nH) ?_
   rcases hx with hx | ⟨dd,f,v,h1,h2,h3,h4⟩
   ·exact .inl hx
   ·exact .inr ⟨dd,f,v,h1,h2,h3,Rep.mono (L2.Same.refl _) _ _ (mono ad) h4⟩
  |ok er =>
   rw[e] at h
   intro v H' P' N' ad hx
   cases er with
   |brw ds b=>exact h.elim
   |val d b =>
    simp only[Bool.not_false,RE.bind_ok,qby] at h
    split at h
    ·rename_i z
     refine h _ _ _ (ad.back r.nH) v ?_
     cases b with
     |true=>exact Rep.mono (L2.Same.refl _) _ _ (mono ad) hx
     |false=>exact Rep.flat _ _ (by simpa using z) hx
    ·exact h.elim
   |fre ds b =>
    simp only[Bool.not_false,RE.bind_ok,qby] at h
    obtain⟨p,xs,rfl,h1,h2,h3,h4,h5⟩:=hx
    split at h
    ·rename_i z
     refine h _ _ _ (ad.back r.nH) _ ⟨p,xs,rfl,h1,e0.free h2,h3,?_,?_⟩
     ·unfold un2
      rw[if_neg]
      rintro(z | z)
      ·exact z (r.nH.free h2)
      ·exact z h4
     ·cases b with
      |true=>exact Reps.mono (L2.Same.refl _) _ _ (mono ad) h5
      |false=>exact Reps.flat _ _ (by simpa using z) h5
    ·exact h.elim
theorem qfv {G:Glo} {n m:Nat} {g gf:List D→RE ER} {dv:List D} {dvs vs:List V} {H:Hp} {Q:VK} {E:XK} (hm:dv.length=m) (hd:∀P LN,Reps G P LN dv dvs) (hg:∀xs,xs.length=n→g xs=gf (xs++dv)) (h:spD G n g vs H Q E):spD G (n+m) gf (vs++dvs) H Q E:=by
 obtain⟨P,R,ds,h1,h2,h3,h4,h5⟩:=h
 rw[hg ds h4] at h5
 exact⟨P,R,ds++dv,h1,h2,Reps.append h3 (hd _ _),by rw[List.length_append,h4,hm],h5⟩
theorem qgw {k:Nat} {f:Addr} {fd:FuncData} {ps:List Str} {sp:Sp} {W:WX} {pins:List (Addr × Obj)} {σ:L2.St} {H:Hp} {s:Shared} {Q:VK} {us dus:List Value} {vs dvs:List V} (F:FnOk X.prog X.w X.K X.mg X.base (L2.CX X.prog X.w) k f fd ps sp) (hr:Room k X.A) (hb:Binds X.K fd ps dus) (hd:Vals dvs dus)
  (tk:Takes X W) (I:Inv X pins σ H s) (r:Vals vs us) (h:sp (vs++dvs) H Q (fun cls d H'=>W cls d σ H')):wpAny (model X.prog X.w) X.A (call (.ref f) us) (EP X pins σ Q) X.xe s:=by
 have r2:Vals (vs++dvs) (us++dus):=r.append hd
 have hl:(us++dus).length=ps.length:=by rw[←r2.length];exact F.len _ _ _ _ h
 refine wpAny_call (codeAny_mono (F.run X.A X.stack s H ⟨us,[]⟩ (us++dus) (vs++dvs) Q _ hr I.env0 (hb s us I.kIn hl) r2 h) fun r s' hq=>?_)
 cases r with
 |error e=>exact tk e s' (XE.of_call I (fun cls d H' q=>q) hq)
 |ok fl =>
  cases fl with
  |ret u=>exact I.after hq
  |next=>exact False.elim hq
  |brk=>exact False.elim hq
  |cont=>exact False.elim hq
def qj4 (X:Cx) (es:List Expr):Prop:=(∀e r,es=e::r→starEach (e::r) X.env=(false,eval e X.env)::starEach r X.env)∧∀pos e r,es=e::r→(backTo pos (starEach r X.env)).any (·.1)=false
def Part (K:PySem.W.Frag) (G:Glo) (fd:FuncData) (ps:List Str) (n m:Nat) (g gf:List D→RE ER):Prop:=
 ∃(dv:List D) (dvs:List V) (dus:List Value),Binds K fd ps dus∧Vals dvs dus∧dv.length=m∧(∀P LN,Reps G P LN dv dvs)∧∀xs,xs.length=n→g xs=gf (xs++dv)
theorem Part.all {K:PySem.W.Frag} {G:Glo} {fd:FuncData} {ps:List Str} {n:Nat} {g:List D→RE ER} (h:Binds K fd ps []):Part K G fd ps n 0 g g:=⟨[],[],[],h,.nil,rfl,fun _ _=>rfl,fun xs _=>by rw[List.append_nil]⟩
theorem qfB {x:Str} {k:Nat} {f:Addr} {fd:FuncData} {ps:List Str} {n m:Nat} {g' gf:List D→RE ER} {dv:List D} {dvs:List V} {dus:List Value} {g:List Sl→RE (List ER)} {es:List Expr} {p pos:Pos} (F:FnOk X.prog X.w X.K X.mg X.base (L2.CX X.prog X.w) k f fd ps (spD C.G (n+m) gf)) (hr:Room k X.A) (hg:Gl X x) (hm:X.mg x=some (.ref f)) (hk:PySem.W.keepIn X.K (.ref f)=true)
  (hb:Binds X.K fd ps dus) (hdv:Vals dvs dus) (hdm:dv.length=m) (hdr:∀P LN,Reps C.G P LN dv dvs) (hgf:∀xs,xs.length=n→g' xs=gf (xs++dv)) (tk:Takes X C.W) (ha:PA X es (tA C g)) (hdb:(x == ("__debug__" : Str))=false) (hs:qj4 X es) (h0:es=[]→∀ρ,g ρ=.ok []) :
  PE X (.Call (.Name x p) es [] pos) (fun σ H Q=>tA C g σ H fun vs H1=>spD C.G n g' vs H1 Q (fun cls d H'=>C.W cls d σ H')):=by
  cases es with
  |nil =>
   refine⟨fun pins s σ H Q I h=>?_⟩
   refine wpAny_Call_Name_kw (ld_glob I hg hm ?_ hdb)
   refine PySem.W.callWith_K0 I.kIn hk ?_
   obtain⟨ρ,P,N,S,h⟩:=h
   rw[h0 rfl ρ] at h
   exact qgw F hr hb hdv tk I .nil (qfv hdm hdr hgf (h.now S.reg [] rfl))
  |cons e es =>
   refine⟨fun pins s σ H Q I h=>?_⟩
   refine wpAny_Call_Name_kw (ld_glob I hg hm ?_ hdb)
   refine PySem.W.callWith_K (h₀:=X.base) I.ok.mod.kin hk (thn (ha.run pos pins s σ H _ I h) fun us s1 ⟨vs,H1,I1,r,q⟩=>⟨I1.kIn,?_⟩) (hs.1 _ _ rfl) (hs.2 _ _ _ rfl)
   exact qgw F hr hb hdv tk I1 r (qfv hdm hdr hgf q)
theorem qh0 {x:Str} {k:Nat} {f:Addr} {fd:FuncData} {ps:List Str} {n m:Nat} {g' gf:List D→RE ER} {dv:List D} {dvs:List V} {dus:List Value} {g:List Sl→RE (List ER)} {es:List Expr} {p pos:Pos} (F:FnOk X.prog X.w X.K X.mg X.base (L2.CX X.prog X.w) k f fd ps (spD C.G (n+m) gf)) (hr:Room k X.A) (hg:Gl X x) (hm:X.mg x=some (.ref f)) (hk:PySem.W.keepIn X.K (.ref f)=true)
  (hb:Binds X.K fd ps dus) (hdv:Vals dvs dus) (hdm:dv.length=m) (hdr:∀P LN,Reps C.G P LN dv dvs) (hgf:∀xs,xs.length=n→g' xs=gf (xs++dv)) (tk:Takes X C.W) (ha:PA X es (tA C g)) (hdb:(x == ("__debug__" : Str))=false) (hs:qj4 X es) (hl:∀ρ r,g ρ=.ok r→r.length=n) (h0:es=[]→∀ρ,g ρ=.ok []) :
  PE X (.Call (.Name x p) es [] pos) (tE C fun ρ=>(g ρ).bind fun r=>(g' (r.map ER.d)).bind (qby (!r.all ER.isV))):=by
 refine qag (qfB F hr hg hm hk hb hdv hdm hdr hgf tk ha hdb hs h0) fun σ H Q q=>?_
 obtain⟨ρ,P,N,S,h⟩:=q
 exact⟨ρ,P,N,S,h.bind.mono fun r P1 N1 H1 e a1 h1 vs rv=>qic (S.adv a1).reg a1.hh rv (hl _ _ e) h1⟩
def ER.noF:ER→Bool
 |.fre _ _=>false
 |_=>true
theorem qdi {G:Glo} {P:Hp} {LN:Addr→List V→Prop}:∀{ds:List D} {ns:List Int} {xs:List V},qaX ds=some ns→Reps G P LN ds xs→xs=ns.map V.int
 |[],ns,xs,e,h=>by cases e;cases h;rfl
 |d::ds,ns,xs,e,⟨v,r,q,h1,h2⟩=>by
  cases d<;>simp only[qaX] at e<;>try cases e
  rename_i i
  cases k:qaX ds with
  |none=>rw[k] at e;cases e
  |some ms =>
   rw[k] at e
   cases e
   have h1:v=.int i:=h1
   rw[q,h1,qdi k h2]
   rfl
theorem qdv:∀{ds:List D} {ns:List Int},qaX ds=some ns→D.flats ds=true
 |[],_,_=>rfl
 |d::ds,ns,e=>by
  cases d<;>simp only[qaX] at e<;>try cases e
  cases k:qaX ds with
  |none=>rw[k] at e;cases e
  |some ms =>
   simp only[D.flats,D.flat,Bool.true_and]
   exact qdv k
mutual
theorem Rep.off {G:Glo} {P:Hp} {LN LN':Addr→List V→Prop} {os:List (List Int)} (h:∀a (ns:List Int),LN a (ns.map V.int)→ns∉os→LN' a (ns.map V.int)):∀(d:D) (v:V),qi7 os d=true→Rep G P LN d v→Rep G P LN' d v
 |.non,_,_,q=>q
 |.bl _,_,_,q=>q
 |.int _,_,_,q=>q
 |.str _,_,_,q=>q
 |.lst ds,v,f,⟨a,xs,e,h1,h2⟩=>by
  unfold qi7 at f
  split at f
  ·rename_i ns hn
   have ex:xs=ns.map V.int:=qdi hn h2
   refine⟨a,xs,e,?_,Reps.flat ds xs (qdv hn) h2⟩
   rw[ex] at h1 ⊢
   exact h a ns h1 (by simpa using f)
  ·cases f
 |.tup ds,v,f,⟨a,xs,e,h1,h2⟩=>⟨a,xs,e,h1,Reps.off h ds xs (by simpa[qi7] using f) h2⟩
 |.ins c ds,v,f,_=>by simp[qi7] at f
 |.exc _ _,v,f,_=>by simp[qi7] at f
theorem Reps.off {G:Glo} {P:Hp} {LN LN':Addr→List V→Prop} {os:List (List Int)} (h:∀a (ns:List Int),LN a (ns.map V.int)→ns∉os→LN' a (ns.map V.int)):∀(ds:List D) (vs:List V),qiJ os ds=true→Reps G P LN ds vs→Reps G P LN' ds vs
 |[],_,_,q=>q
 |d::ds,vs,f,⟨v,r,e,h1,h2⟩=>by
  simp only[qiJ,Bool.and_eq_true] at f
  exact⟨v,r,e,Rep.off h d v f.1 h1,Reps.off h ds r f.2 h2⟩
end
open Classical in
noncomputable def atO (os:List (List Int)) (H:Hp):Hp:=fun a=>if ∃ns∈os,H a=some (.lst (ns.map V.int)) then H a else none
structure MtOk (C:Ctx) (X:Cx) (m:Str) (c:Nat) (n:Nat) (g':List D→RE ER):Prop where
 cls:Cls X.K (C.G.ca c)
 nf:m∉C.G.fl c
 fn:∃k f fd ps,Meth X.K (C.G.ca c) m f∧FnOk X.prog X.w X.K X.mg X.base (L2.CX X.prog X.w) k f fd ps (spD C.G (n+1) g')∧Room k X.A∧Binds X.K fd ps []
structure FdOk (C:Ctx) (X:Cx) (f:Str) (c:Nat) (k:Nat):Prop where
 cls:Cls X.K (C.G.ca c)
 no:NoAttr X.K (C.G.ca c) f
 at_:(C.G.fl c)[k]? = some f
 nd:(C.G.fl c).Nodup
end
end Cm
namespace Cm
open PySem PySem.Spec PyProof.Rows L2
section
variable {C:Ctx} {X:Cx}
def tyS:Ty→String
 |.bool=>"bool" |.int=>"int" |.str=>"str" |.list=>"list" |.tuple=>"tuple"
def tyN:Ty→Str
 |.bool=>"bool" |.int=>"int" |.str=>"str" |.list=>"list" |.tuple=>"tuple"
theorem qjX:∀t,bootBuiltins (tyN t)=some (.type (tyS t))
 |.bool=>by decide +kernel
 |.int=>by decide +kernel
 |.str=>by decide +kernel
 |.list=>by decide +kernel
 |.tuple=>by decide +kernel
theorem qjg:∀t,tyN t ≠ "__name__" ∧ (tyN t == ("__debug__" : Str))=false:=by intro t;cases t<;>decide
theorem qec {K:PySem.W.Frag} {H:Hp} {a:Addr} {xs:List V} (h:SqL K H a xs):TyX K H (.ref a) (.type "list"):=by
 rcases h with(h | ⟨o,h⟩) | ⟨o,its,n,h1,h2,_⟩
 ·exact .base (.lst h)
 ·exact .base (.frz h)
 ·exact .kList h1 h2
theorem qeb {K:PySem.W.Frag} {H:Hp} {a:Addr} {xs:List V} (h:SqT K H a xs):TyX K H (.ref a) (.type "tuple"):=by
 rcases h with(h | ⟨o,h⟩) | ⟨o,its,n,h1,h2,_⟩
 ·exact .base (.tup h)
 ·exact .fTuple h
 ·exact .kTuple h1 h2
theorem qak (a b:String) (r:Bool) (h:kitB a b=some r) {K:PySem.W.Frag}:PySem.W.kitOne K (.type a) (.type b)=some r:=kit_ty h
theorem qkm {g:List Sl→RE ER} {t:Ty} {σ:L2.St} {H:Hp} {Q:VK} (h:tE C (fun ρ=>(g ρ).bind fun x=>qlB x.d t) σ H Q):tCB (rIsi C.G.K) (tCons (tE C g) (tCons (tC (.ty (tyS t))) tNil)) σ H Q:=by
 obtain⟨ρ,P,N,S,h⟩:=h
 refine⟨ρ,P,N,S,h.bind.mono fun x P1 N1 H1 e1 a1 h1 v rv=>?_⟩
 have r1:=(S.adv a1).reg
 have w:=rv.w r1
 show ∃(x c:V) (t' u:Value) (b:Bool),[v,V.ty (tyS t)]=[x,c]∧ClsV c u∧TyX C.G.K H1 x t'∧PySem.W.kitOne C.G.K t' u=some b∧Q (.bl b) H1
 cases q:x.d with
 |non =>
  rw[q] at w h1
  obtain rfl:v=.non:=w
  refine⟨_,_,.type "NoneType",_,false,rfl,.ty _,.base .non,?_,?_⟩
  ·cases t<;>exact qak _ _ _ (by decide +kernel)
  ·cases t<;>exact h1.val r1 rfl
 |bl b =>
  rw[q] at w h1
  obtain rfl:=w.bl
  cases t
  ·exact⟨_,_,_,_,true,rfl,.ty _,.base (.bl b),qak _ _ _ (by decide +kernel),h1.val r1 rfl⟩
  ·exact⟨_,_,_,_,true,rfl,.ty _,.base (.bl b),qak _ _ _ (by decide +kernel),h1.val r1 rfl⟩
  ·exact⟨_,_,_,_,false,rfl,.ty _,.base (.bl b),qak _ _ _ (by decide +kernel),h1.val r1 rfl⟩
  ·exact⟨_,_,_,_,false,rfl,.ty _,.base (.bl b),qak _ _ _ (by decide +kernel),h1.val r1 rfl⟩
  ·exact⟨_,_,_,_,false,rfl,.ty _,.base (.bl b),qak _ _ _ (by decide +kernel),h1.val r1 rfl⟩
 |int b =>
  rw[q] at w h1
  obtain rfl:=w.int
  cases t
  ·exact⟨_,_,_,_,false,rfl,.ty _,.base (.int b),qak _ _ _ (by decide +kernel),h1.val r1 rfl⟩
  ·exact⟨_,_,_,_,true,rfl,.ty _,.base (.int b),qak _ _ _ (by decide +kernel),h1.val r1 rfl⟩
  ·exact⟨_,_,_,_,false,rfl,.ty _,.base (.int b),qak _ _ _ (by decide +kernel),h1.val r1 rfl⟩
  ·exact⟨_,_,_,_,false,rfl,.ty _,.base (.int b),qak _ _ _ (by decide +kernel),h1.val r1 rfl⟩
  ·exact⟨_,_,_,_,false,rfl,.ty _,.base (.int b),qak _ _ _ (by decide +kernel),h1.val r1 rfl⟩
 |str b =>
  rw[q] at w h1
  obtain rfl:=w.str
  cases t
  ·exact⟨_,_,_,_,false,rfl,.ty _,.base (.str _),qak _ _ _ (by decide +kernel),h1.val r1 rfl⟩
  ·exact⟨_,_,_,_,false,rfl,.ty _,.base (.str _),qak _ _ _ (by decide +kernel),h1.val r1 rfl⟩
  ·exact⟨_,_,_,_,true,rfl,.ty _,.base (.str _),qak _ _ _ (by decide +kernel),h1.val r1 rfl⟩
  ·exact⟨_,_,_,_,false,rfl,.ty _,.base (.str _),qak _ _ _ (by decide +kernel),h1.val r1 rfl⟩
  ·exact⟨_,_,_,_,false,rfl,.ty _,.base (.str _),qak _ _ _ (by decide +kernel),h1.val r1 rfl⟩
 |lst ds =>
  rw[q] at w h1
  obtain⟨p,xs,rfl,z,_⟩:=w.lst
  cases t
  ·exact⟨_,_,_,_,false,rfl,.ty _,qec z,qak _ _ _ (by decide +kernel),h1.val r1 rfl⟩
  ·exact⟨_,_,_,_,false,rfl,.ty _,qec z,qak _ _ _ (by decide +kernel),h1.val r1 rfl⟩
  ·exact⟨_,_,_,_,false,rfl,.ty _,qec z,qak _ _ _ (by decide +kernel),h1.val r1 rfl⟩
  ·exact⟨_,_,_,_,true,rfl,.ty _,qec z,qak _ _ _ (by decide +kernel),h1.val r1 rfl⟩
  ·exact⟨_,_,_,_,false,rfl,.ty _,qec z,qak _ _ _ (by decide +kernel),h1.val r1 rfl⟩
 |tup ds =>
  rw[q] at w h1
  obtain⟨p,xs,rfl,z,_⟩:=w.tup r1
  cases t
  ·exact⟨_,_,_,_,false,rfl,.ty _,qeb z,qak _ _ _ (by decide +kernel),h1.val r1 rfl⟩
  ·exact⟨_,_,_,_,false,rfl,.ty _,qeb z,qak _ _ _ (by decide +kernel),h1.val r1 rfl⟩
  ·exact⟨_,_,_,_,false,rfl,.ty _,qeb z,qak _ _ _ (by decide +kernel),h1.val r1 rfl⟩
  ·exact⟨_,_,_,_,false,rfl,.ty _,qeb z,qak _ _ _ (by decide +kernel),h1.val r1 rfl⟩
  ·exact⟨_,_,_,_,true,rfl,.ty _,qeb z,qak _ _ _ (by decide +kernel),h1.val r1 rfl⟩
 |ins c fs=>rw[q] at h1;exact h1.elim
 |exc c fs=>rw[q] at h1;exact h1.elim
theorem qfA:bootBuiltins "isinstance" = some (.builtin "isinstance"):=by decide +kernel
theorem qjF {a:Expr} {g:List Sl→RE ER} {t:Ty} {p p2 pos:Pos} (hK:X.K=C.G.K) (hg:Gl X "isinstance") (hm:X.mg "isinstance" = none) (hg2:Gl X (tyN t)) (hm2:X.mg (tyN t)=none) (h:PE X a (tE C g))
  (hs:starEach [a,.Name (tyN t) p2] X.env=(false,eval a X.env)::starEach [.Name (tyN t) p2] X.env) (hpl:(backTo pos (starEach [.Name (tyN t) p2] X.env)).any (·.1)=false):PE X (.Call (.Name "isinstance" p) [a,.Name (tyN t) p2] [] pos) (tE C fun ρ=>(g ρ).bind fun x=>qlB x.d t):=
 qag (qdN call_isi qfA (.inl ⟨_,rfl⟩) hg hm (pa_cons h (pa_cons (pe_bltn (v:=.ty (tyS t)) hg2 hm2 (qjX t) rfl (qjg t).1 (qjg t).2) pa_nil) hs) (by decide) (by decide) hs hpl) fun σ H Q q=>by rw[hK];exact qkm q
theorem qfm {P N:Hp} {b:Bool}:∀ys:List Str,RepsB C P N b (ys.map fun z=>.str z.cps.toList) (ys.map V.str)
 |[]=>rfl
 |y::ys=>⟨_,_,rfl,rfl,qfm ys⟩
def rBm (K:PySem.W.Frag):Bme→V→List V→Hp→VK→Prop
 |.split=>fun x xs H Q=>∃a b,x=.str a∧xs=[.str b]∧(b.length == 0)=false∧a.length+2≤sizeLine∧rNewStrs (Txt.split a b) H Q
 |.join=>fun x xs H Q=>∃a p,∃ys:List Str,x=.str a∧xs=[.ref p]∧(SqL K H p (ys.map V.str)∨SqT K H p (ys.map V.str))∧(ys.map (·.length)).sum+ys.length*a.length≤16777216∧Q (.str (Txt.join a ys)) H
 |.find=>fun x xs H Q=>∃a b,x=.str a∧xs=[.str b]∧Q (.int (Txt.find a b)) H
def bmN:Bme→Str
 |.split=>"split" |.join=>"join" |.find=>"find"
abbrev gBm (m:Bme) (go g:List Sl→RE ER):List Sl→RE ER:=fun ρ=>(go ρ).bind fun x=>match x.d with
  |.str s=>(g ρ).bind fun y=>evM m s y.d
  |_=>.bad
theorem qgx {m:Bme} {go g:List Sl→RE ER} {σ:L2.St} {H:Hp} {Q:VK} (h:tE C (gBm m go g) σ H Q):tM1 (rBm C.G.K m) (tE C go) (tE C g) σ H Q:=by
 obtain⟨ρ,P,N,S,h⟩:=h
 refine⟨ρ,P,N,S,h.bind.mono fun x P1 N1 H1 e1 a1 h1 v rv=>?_⟩
 have r1:=(S.adv a1).reg
 split at h1
 ·rename_i s q
  have w:=rv.w r1
  rw[q] at w
  cases w.str
  refine⟨⟨_,rfl⟩,ρ,P1,N1,S.adv a1,(res.bind h1).mono fun y P2 N2 H2 e2 a2 h2 u ru=>?_⟩
  have r2:=(S.adv (a1.trans a2)).reg
  have w2:=ru.w r2
  cases m with
  |split =>
   simp only[evM,qco,qaP,qai,qaD,qaA,qay,qaC,qaN,qaH,qat,qaB] at h2
   split at h2
   ·rename_i t q2
    rw[q2] at w2
    cases w2.str
    split at h2
    ·rename_i hl
     refine⟨_,_,rfl,rfl,?_,?_,fun p hp=>?_⟩
     ·rw[qaw];simpa using hl.1
     ·rw[qaw];exact hl.2
     ·exact h2.fre r2 (a1.trans a2).hh (qfm _) hp
    ·exact h2.elim
   ·exact h2.elim
  |join =>
   simp only[evM,qco,qaP,qai,qaD,qaA,qay,qaC,qaN,qaH,qat,qaB] at h2
   split at h2
   ·rename_i xs q2
    rw[q2] at w2
    obtain⟨p,us,rfl,z1,z2⟩:=w2.lst
    split at h2
    ·rename_i ss q3
     have e:=qel q3 z2
     subst e
     split at h2
     ·rename_i hl
      refine⟨_,p,ss.map qal,rfl,rfl,.inl z1,?_,h2.val r2 rfl⟩
      have e1:((ss.map qal).map fun z=>z.length)=ss.map List.length:=by
       rw[List.map_map]
       exact List.map_congr_left fun a _=>qaw a
      rw[e1,List.length_map,qaw]
      exact hl
     ·exact h2.elim
    ·exact h2.elim
   ·exact h2.elim
  |find =>
   simp only[evM,qco,qaP,qai,qaD,qaA,qay,qaC,qaN,qaH,qat,qaB] at h2
   split at h2
   ·rename_i t q2
    rw[q2] at w2
    cases w2.str
    exact⟨_,_,rfl,rfl,h2.val r2 rfl⟩
   ·exact h2.elim
 ·exact h1.elim
theorem qmp {m:Bme} {o a:Expr} {go g:List Sl→RE ER} {apos pos:Pos} (hK:X.K=C.G.K) (ho:PE X o (tE C go)) (ha:PE X a (tE C g)) (hs:starEach [a] X.env=[(false,eval a X.env)]) (hbase:attributeBase o (bmN m) X.env (eval o X.env)=eval o X.env) (hline:(apos.endLine == pos.line)=true) :
  PE X (.Call (.Attribute o (bmN m) apos) [a] [] pos) (tE C (gBm m go g)):=by
 cases m with
 |split=>exact qag (pe_m1 PySem.F.slot_str_split PySem.F.type_str_split mt_split ho ha hs hbase hline) fun σ H Q q=>qgx (m:=.split) q
 |join=>exact qag (pe_m1 PySem.F.slot_str_join PySem.F.type_str_join mt_join ho ha hs hbase hline) fun σ H Q q=>by rw[hK];exact qgx (m:=.join) q
 |find=>exact qag (pe_m1 PySem.F.slot_str_find PySem.F.type_str_find mt_find ho ha hs hbase hline) fun σ H Q q=>qgx (m:=.find) q
end
end Cm
namespace Cm
open PySem PySem.Spec PyProof.Rows L2
section
variable {C:Ctx} {X:Cx}
theorem SR.setV {P N H:Hp} {ρ:List Sl} {σ:L2.St} (S:SR C P N H ρ σ) {i:Nat} {d:D} {b:Bool} {v:V} (h:RepB C P N b d v):SR C P N H (ρ.set i (.val d b)) (σ.set i (some v)) where
 reg:=S.reg
 len:=by simp[S.len]
 sl:=fun j s e=>by
  by_cases q:i=j
  ·subst q
   have hi:i<ρ.length:=by
    rcases Nat.lt_or_ge i ρ.length with z | z
    ·exact z
    ·rw[List.getElem?_eq_none (by simpa using z)] at e;cases e
   rw[List.getElem?_set_self hi] at e
   cases e
   exact⟨some v,List.getElem?_set_self (by rw[S.len];exact hi),v,rfl,h⟩
  ·rw[List.getElem?_set_ne q] at e
   rw[List.getElem?_set_ne q]
   exact S.sl j s e
 ap:=fun j k p ds c es c' e1 e2 e3 e4=>by
  by_cases q:i=j
  ·subst q
   rcases Nat.lt_or_ge i ρ.length with z | z
   ·rw[List.getElem?_set_self z] at e1;cases e1
   ·rw[List.getElem?_eq_none (by simpa using z)] at e1;cases e1
  ·by_cases q2:i=k
   ·subst q2
    rcases Nat.lt_or_ge i ρ.length with z | z
    ·rw[List.getElem?_set_self z] at e2;cases e2
    ·rw[List.getElem?_eq_none (by simpa using z)] at e2;cases e2
   ·rw[List.getElem?_set_ne q] at e1 e3
    rw[List.getElem?_set_ne q2] at e2 e4
    exact S.ap j k p ds c es c' e1 e2 e3 e4
 ad:=S.ad.set rfl
 ar:=S.ar.set rfl
def qfd:List Nat→TGs
 |[]=>gNil
 |i::is=>gCons (gName i) (qfd is)
def tG (C:Ctx) (tg:List Nat):TG:=fun v σ H Q=>∃ρ P N d b ρ',SR C P N H ρ σ∧RepB C P N b d v∧qbZ tg d b ρ=some ρ'∧∀σ',SR C P N H ρ' σ'→(∀j,j∉tg→σ'[j]? = σ[j]?)→σ'.length=σ.length→Q σ' H
theorem qen {P N H:Hp} {b:Bool}:∀{tg:List Nat} {ds:List D} {xs:List V} {ρ ρ':List Sl} {σ:L2.St} {Q:L2.St→Hp→Prop},SR C P N H ρ σ→RepsB C P N b ds xs→qgB tg ds b ρ=some ρ' →
  (∀σ',SR C P N H ρ' σ'→(∀j,j∉tg→σ'[j]? = σ[j]?)→σ'.length=σ.length→Q σ' H)→qfd tg xs σ H Q
 |[],[],xs,ρ,ρ',σ,Q,S,h,e,q=>by
  cases h;cases e
  exact⟨rfl,q σ S (fun _ _=>rfl) rfl⟩
 |i::tg,d::ds,xs,ρ,ρ',σ,Q,S,⟨v,r,ex,h1,h2⟩,e,q=>by
  refine⟨v,r,ex,qen (S.setV (RepB.nf (C:=C) h1)) h2 e fun σ' S' hj hl=>q σ' S' (fun j hj'=>?_) (by rw[hl];simp)⟩
  simp only[List.mem_cons,not_or] at hj'
  rw[hj j hj'.2,List.getElem?_set_ne (fun z=>hj'.1 z.symm)]
 |[],d::ds,xs,ρ,ρ',σ,Q,S,h,e,q=>by cases e
 |i::tg,[],xs,ρ,ρ',σ,Q,S,h,e,q=>by cases e
theorem qgC {t:Expr} {g g':TG} (h:PG X t g) (f:∀v σ H Q,g' v σ H Q→g v σ H Q):PG X t g':=⟨fun pins s σ H v u Q I r q=>h.run pins s σ H v u Q I r (f _ _ _ _ q)⟩
theorem qit {i:Nat} {x:Str} {pos:Pos} (hN:X.N.Nodup) (hi:X.N[i]? = some x) (hx:Loc X.env.scope x) (hf:X.fn x=true∨X.env.scope.names.lookup x=some .local):PG X (.Name x pos) (tG C [i]):=
 qgC (pg_name hN hi hx hf) fun v σ H Q q=>by
  obtain⟨ρ,P,N,d,b,ρ',S,h,e,q⟩:=q
  cases e
  refine q _ (S.setV (RepB.nf (C:=C) h)) (fun j hj=>?_) (by simp)
  rw[List.getElem?_set_ne (fun z=>hj (by simp[z]))]
theorem qj0 {es:List Expr} {k:Nat} {tg:List Nat} {pos:Pos} (hK:X.K=C.G.K) (hc:X.calm=true) (h:PGs X es (qfd tg)) (hl:es.length=tg.length) (h2:tg.length≠1) (hn:(assignEach es X.env).length=es.length) (hst:(assignEach es X.env).findIdx? (·.1)=none):PG X (.Tuple es k pos) (tG C tg):=
 qgC (pg_tup hc h rfl hst) fun v σ H Q q=>by
  obtain⟨ρ,P,N,d,b,ρ',S,h,e,q⟩:=q
  have e':∃ds,d=.tup ds∧qgB tg ds b ρ=some ρ':=by
   unfold qbZ at e
   split at e
   ·exact absurd rfl h2
   ·split at e
    ·exact⟨_,rfl,e⟩
    ·cases e
  clear e
  obtain⟨ds,rfl,e⟩:=e'
  obtain⟨a,xs,rfl,z1,z2⟩:=h
  have hlen:∀{tg:List Nat} {ds:List D} {ρ:List Sl},qgB tg ds b ρ=some ρ'→ds.length=tg.length:=by
   intro tg
   induction tg with
   |nil=>intro ds ρ e;cases ds with
    |nil=>rfl
    |cons _ _=>cases e
   |cons i tg ih=>intro ds ρ e;cases ds with
    |nil=>cases e
    |cons d ds=>simp only[List.length_cons];rw[ih e]
  refine⟨a,xs,rfl,hK ▸ Same.seqT S.reg.pH z1,?_,qen S z2 e q⟩
  rw[z2.length,hlen e,hn,hl]
def Wok (C:Ctx) (P N H:Hp) (w:Wk) (J:It):Prop:=
 ∃(Gd:Hp→Prop) (Y:Nat→Hp→V→Hp→Prop),Walk J w.xs.length Gd Y∧(∀H2,L2.Same H H2→Gd H2)∧(w.own=false→∀P2 N2 H2,L2.Same P P2→L2.Same N N2→Reg C P2 N2 H2→Gd H2) ∧
  ∀i P2 N2 H2 x H3,i<w.xs.length→L2.Same P P2→L2.Same N N2→Reg C P2 N2 H2→Y i H2 x H3→∃P3,Adv P2 N2 H2 P3 N2 H3∧∃d,w.xs[i]? = some d∧RepB C P3 N2 w.b d x
def tI (C:Ctx) (g:List Sl→RE Wk):TI:=fun σ H R=>∃ρ P N,SR C P N H ρ σ∧res C σ P N H (g ρ) fun w P' N' H'=>∀J,Wok C P' N' H' w J→R J H'
theorem qbv {tg e:Expr} {t u:TI} (h:PI X tg e t) (f:∀σ H R,u σ H R→t σ H R):PI X tg e u:=⟨fun pins s σ H R I q=>h.run pins s σ H R I (f _ _ _ q)⟩
theorem qiq {P N H:Hp} {er:ER} {ds:List D} {p:Addr} {xs:List V} (r:Reg C P N H) (hd:er.d=.lst ds) {H0:Hp} (h:ERr C P N H H0 er.frz (.ref p)) (h2:SqL C.G.K H p xs) (h3:RepsB C P N er.b ds xs) (hs:er.frz.isB=false→LNb C.G.K P N C.R er.b p xs):Wok C P N H ⟨ds,er.b,er.frz.isB⟩ (Itl C.G.K p):=by
 refine⟨fun H=>SqL C.G.K H p xs,YAt xs,?_,fun H2 e=>L2.Same.seq e h2,fun e P2 N2 H2 e1 e2 r2=>?_,fun i P2 N2 H2 x H3 hi e1 e2 r2 y=>?_⟩
 ·have:=walk_list (K:=C.G.K) (a:=p) (xs:=xs)
  rw[h3.length] at this
  exact this
 ·exact LNb.seq r2.pH r2.nH r2.rH _ _ (LNb.mono e1 e2 _ _ (hs e))
 ·obtain⟨rfl,e⟩:=y
  refine⟨P2,Adv.refl r2.pH r2.nH,ds[i]'hi,by simp,?_⟩
  obtain⟨v,q1,q2⟩:=Reps.get h3 (List.getElem?_eq_getElem hi)
  rw[q1] at e;cases e
  exact RepB.adv e1 e2 q2
theorem ERr.frz_lst {P N H H0:Hp} (r:Reg C P N H) {er:ER} {ds:List D} {v:V} (hd:er.d=.lst ds) (h:ERr C P N H H0 er.frz v):∃p xs,v=.ref p∧SqL C.G.K H p xs∧RepsB C P N er.b ds xs∧(er.frz.isB=false→LNb C.G.K P N C.R er.b p xs):=by
 cases er with
 |val d b =>
  have hd:d=.lst ds:=hd
  subst hd
  obtain⟨p,xs,e,h1,h2⟩:=h
  exact⟨p,xs,e,LNb.seq r.pH r.nH r.rH _ _ h1,h2,fun _=>h1⟩
 |fre d b =>
  have hd:D.lst d=.lst ds:=hd
  cases hd
  obtain⟨p,xs,e,h1,h2⟩:=h
  exact⟨p,xs,e,LNb.seq r.pH r.nH r.rH _ _ h1,h2,fun _=>h1⟩
 |brw d b =>
  have hd:D.lst d=.lst ds:=hd
  cases hd
  obtain⟨p,xs,e,h1,_,_,_,h2⟩:=h
  exact⟨p,xs,e,.inl (.inl h1),h2,fun z=>by cases z⟩
theorem qmn (er:ER):er.frz.d=er.d:=by cases er<;>rfl
theorem qnf (er:ER):er.frz.b=er.b:=by cases er<;>rfl
theorem qcR (er:ER):er.frz.isB=er.isB:=by cases er<;>rfl
def qng (K:PySem.W.Frag) (t:TE):TI:=fun σ H R=>t σ H fun v H1=>((∃a,v=.ref a∧(∃xs,SqL K H1 a xs)∧R (Itl K a) H1)∨(∃a,v=.ref a∧(∃xs,SqT K H1 a xs)∧R (Itt K a) H1))∨∃x,v=.str x∧R (Its x) H1
theorem qjn {tg e:Expr} {t:TE} (h:PE X e t):PI X tg e (qng X.K t):=by
 refine⟨fun pins s σ H R I q=>?_⟩
 refine thn (h.run pins s σ H _ I q) fun v s1 ⟨x,H1,I1,r1,q1⟩=>?_
 rcases q1 with(⟨a,e,⟨xs,sq⟩,q⟩ | ⟨a,e,⟨xs,sq⟩,q⟩) | ⟨z,e,q⟩
 ·subst e
  cases r1
  obtain⟨vl,rw0,p,zl⟩:=I1.list sq
  refine wpAny_pyIter_list p.isList ?_
  refine⟨s1.heap.objs.size,[s1.heap.objs.size],_,_,H1,rfl,I1.kept (t':=s1.toks) fun b o e=>Heap.get?_push_of_some _ e,turn_list a _,⟨_,Heap.get?_push_size _ rfl,rfl,rfl⟩,fun b hb0=>?_,q⟩
  have eb:b=s1.heap.objs.size:=by simpa using hb0
  subst eb
  exact I1.fpOk (Nat.le_refl s1.heap.objs.size) (I1.hok.fresh (Nat.le_refl s1.heap.objs.size))
 ·subst e
  cases r1
  obtain⟨vl,rw0,p,zl⟩:=I1.tuple sq
  refine wpAny_pyIter_tuple (show s1.heap.IsTuple a vl.toArray from p) ?_
  refine⟨s1.heap.objs.size,[s1.heap.objs.size],_,_,H1,rfl,I1.kept (t':=s1.toks) fun b o e=>Heap.get?_push_of_some _ e,turn_tuple a _,⟨_,Heap.get?_push_size _ rfl,rfl,rfl⟩,fun b hb0=>?_,q⟩
  have eb:b=s1.heap.objs.size:=by simpa using hb0
  subst eb
  exact I1.fpOk (Nat.le_refl s1.heap.objs.size) (I1.hok.fresh (Nat.le_refl s1.heap.objs.size))
 ·subst e
  obtain⟨t,rfl⟩:=r1
  cases ha:z.cps.all (· < 128)
  ·exact wpAny_pyIter_wide ha (pi_one (tk:=s1.toks) I1 _ (turn_str _ z t "str_iterator" (.inr rfl)) ⟨_,Heap.get?_push_size _ rfl,rfl,rfl⟩ q)
  ·exact wpAny_pyIter_ascii ha (pi_one (tk:=s1.toks) I1 _ (turn_str _ z t "str_ascii_iterator" (.inl rfl)) ⟨_,Heap.get?_push_size _ rfl,rfl,rfl⟩ q)
theorem qjN {g:List Sl→RE ER} {σ:L2.St} {H:Hp} {R:It→Hp→Prop} (h:tI C (fun ρ=>(g ρ).bind qd1) σ H R):qng C.G.K (tE C g) σ H R:=by
 obtain⟨ρ,P,N,S,h⟩:=h
 refine⟨ρ,P,N,S,h.bind.mono fun x P1 N1 H1 e1 a1 h1 v rv=>?_⟩
 obtain⟨N2,a2,rv⟩:=rv.freeze a1
 have r2:=(S.adv a2).reg
 have h2:res C σ P1 N2 H1 (qd1 x) fun w P' N' H'=>∀J,Wok C P' N' H' w J→R J H':=by
  simp only[e1,RE.bind_ok] at h
  exact res.adv a2 h
 unfold qd1 at h2
 split at h2
 ·rename_i ds q
  obtain⟨p,xs,rfl,z1,z2,z3⟩:=rv.frz_lst r2 q
  have:=qiq r2 q rv z1 z2 z3
  rw[qcR] at this
  exact .inl (.inl ⟨p,rfl,⟨xs,z1⟩,h2.now r2 _ this⟩)
 ·rename_i ds q
  have w:=rv.w r2
  rw[qmn,q] at w
  have w0:=w
  obtain⟨p,xs,rfl,z1,z2⟩:=w
  rw[qnf] at z2
  refine .inl (.inr ⟨p,rfl,⟨xs,Same.seqT r2.pH z1⟩,h2.now r2 _ ⟨fun H=>SqT C.G.K H p xs,YAt xs,?_,fun H2 e=>Same.seqT (r2.pH.trans e) z1,fun _ P2 N2 H2 e1 e2 r3=>Same.seqT (e1.trans r3.pH) z1,fun i P2 N2 H2 x H3 hi e1 e2 r2 y=>?_⟩⟩)
  ·have:=walk_tup (K:=C.G.K) (a:=p) (xs:=xs)
   rw[z2.length] at this
   exact this
  ·obtain⟨rfl,e⟩:=y
   refine⟨P2,Adv.refl r2.pH r2.nH,ds[i]'hi,by simp,?_⟩
   obtain⟨v,q1,q2⟩:=Reps.get z2 (List.getElem?_eq_getElem hi)
   rw[q1] at e;cases e
   exact RepB.adv e1 e2 q2
 ·rename_i s q
  have w:=rv.w r2
  rw[qmn,q] at w
  cases w.str
  refine .inr ⟨_,rfl,h2.now r2 _ ⟨fun _=>True,fun i H v H'=>H'=H∧∃c,s[i]? = some c∧v=.str ⟨#[c]⟩,?_,fun _ _=>trivial,fun _ _ _ _ _ _ _=>trivial,fun i P2 N2 H2 x H3 hi e1 e2 r2 y=>?_⟩⟩
  ·have:=walk_str (z:=(⟨s.toArray⟩:Str))
   simpa using this
  ·obtain⟨rfl,c,e,rfl⟩:=y
   refine⟨P2,Adv.refl r2.pH r2.nH,.str [c],?_,rfl⟩
   simp[e]
 ·exact h2.elim
theorem qku {tg e:Expr} {g:List Sl→RE ER} (hK:X.K=C.G.K) (h:PE X e (tE C g)):PI X tg e (tI C fun ρ=>(g ρ).bind qd1):=
 qbv (qjn h) fun σ H R q=>by rw[hK];exact qjN q
theorem qgS {P N H:Hp} (i:Int) (n:Nat):Wok C P N H ⟨(qcj i 1 n).map D.int,true,false⟩ (Itr i n):=by
 refine⟨fun _=>True,YFn fun k=>.int (i+k),?_,fun _ _=>trivial,fun _ _ _ _ _ _ _=>trivial,fun k P2 N2 H2 x H3 hi e1 e2 r2 y=>?_⟩
 ·have:=walk_range (lo:=i) (n:=n)
  simpa[qcj] using this
 ·obtain⟨rfl,rfl⟩:=y
  have hk:k<n:=by simpa[qcj] using hi
  refine⟨P2,Adv.refl r2.pH r2.nH,.int (i+k),?_,rfl⟩
  simp[qcj,hk]
theorem qfL {P N H:Hp} (i c:Int) (n:Nat):Wok C P N H ⟨(qcj i c n).map D.int,true,false⟩ (Itc i c n):=by
 refine⟨fun _=>True,YFn fun k=>.int (i+(k:Nat)*c),?_,fun _ _=>trivial,fun _ _ _ _ _ _ _=>trivial,fun k P2 N2 H2 x H3 hi e1 e2 r2 y=>?_⟩
 ·have:=walk_rangeC (lo:=i) (c:=c) (n:=n)
  simpa[qcj] using this
 ·obtain⟨rfl,rfl⟩:=y
  have hk:k<n:=by simpa[qcj] using hi
  refine⟨P2,Adv.refl r2.pH r2.nH,.int (i+k*c),?_,rfl⟩
  simp[qcj,hk]
abbrev qnr (g:List Sl→RE (List ER)):List Sl→RE Wk:=fun ρ=>(g ρ).bind fun r=>(qdz r).bind fun ns=>.ok ⟨ns.map D.int,true,false⟩
theorem qhU {tg a:Expr} {g:List Sl→RE (List ER)} {p pos:Pos} (hg:Gl X "range") (hm:X.mg "range" = none) (ha:PA X [a] (tA C g)) (hl:∀ρ r,g ρ=.ok r→r.length=1) (hs:starEach [a] X.env=[(false,eval a X.env)]):PI X tg (.Call (.Name "range" p) [a] [] pos) (tI C (qnr g)):=
 qbv (pi_range1 hg hm ha hs) fun σ H R q=>by
  obtain⟨ρ,P,N,S,h⟩:=q
  refine⟨ρ,P,N,S,h.bind.mono fun r P1 N1 H1 e1 a1 h1 vs rv=>?_⟩
  have r1:=(S.adv a1).reg
  match r,hl _ _ e1,rv,h1 with
  |[x],_,rv,h1 =>
   obtain⟨v,u,rfl,w,rv⟩:=rv.w r1
   cases rv
   simp only[qdz,qco,qaP,qai,qaD,qaA,qay,qaC,qaN,qaH,qat,qaB] at h1
   split at h1
   ·rename_i n q
    rw[q] at w
    split at h1
    ·rename_i hl
     have hl:=qhq hl
     refine⟨n,by rw[w.int],hl.1.1,hl.1.2,?_⟩
     exact h1.now r1 _ (qgS 0 n.toNat)
    ·exact h1.elim
   ·exact h1.elim
theorem qiw {tg a b:Expr} {g:List Sl→RE (List ER)} {p pos:Pos} (hg:Gl X "range") (hm:X.mg "range" = none) (ha:PA X [a,b] (tA C g)) (hl:∀ρ r,g ρ=.ok r→r.length=2) (hs:starEach [a,b] X.env=[(false,eval a X.env),(false,eval b X.env)]) (hs2:starEach [b] X.env=[(false,eval b X.env)]) :
  PI X tg (.Call (.Name "range" p) [a,b] [] pos) (tI C (qnr g)):=
 qbv (pi_range2 hg hm ha hs hs2) fun σ H R q=>by
  obtain⟨ρ,P,N,S,h⟩:=q
  refine⟨ρ,P,N,S,h.bind.mono fun r P1 N1 H1 e1 a1 h1 vs rv=>?_⟩
  have r1:=(S.adv a1).reg
  match r,hl _ _ e1,rv,h1 with
  |[x,y],_,rv,h1 =>
   obtain⟨v,u,rfl,w,rv⟩:=rv.w r1
   obtain⟨v2,u2,rfl,w2,rv⟩:=rv.w r1
   cases rv
   simp only[qdz,qco,qaP,qai,qaD,qaA,qay,qaC,qaN,qaH,qat,qaB] at h1
   split at h1
   ·rename_i i j q q2
    rw[q] at w
    rw[q2] at w2
    split at h1
    ·rename_i hl
     have hl:=qkL hl
     refine⟨i,j,by rw[w.int,w2.int],⟨hl.1.1,hl.1.2,hl.2.1.1,hl.2.1.2⟩,?_⟩
     exact h1.now r1 _ (qgS i (j - i).toNat)
    ·exact h1.elim
   ·exact h1.elim
theorem qjv {tg a:Expr} {g:List Sl→RE ER} {p p2 pos pos2:Pos} (hg:Gl X "reversed") (hm:X.mg "reversed" = none) (hg2:Gl X "range") (hm2:X.mg "range" = none) (ha:PE X a (tE C g)) (hs:starEach [a] X.env=[(false,eval a X.env)]) :
  PI X tg (.Call (.Name "reversed" p2) [.Call (.Name "range" p) [a] [] pos] [] pos2) (tI C fun ρ=>(g ρ).bind fun x=>match x.d with
  |.int n=>gd (qfW n) (.ok ⟨(qcj (0+(((n - 0).toNat:Nat):Int) - 1) (-1) (n - 0).toNat).map D.int,true,false⟩)
  |_=>.bad):=
 qbv (pi_revR hg hm (prg_1 hg2 hm2 ha hs)) fun σ H R q=>by
  obtain⟨ρ,P,N,S,h⟩:=q
  refine⟨ρ,P,N,S,h.bind.mono fun x P1 N1 H1 e1 a1 h1 v rv=>?_⟩
  have r1:=(S.adv a1).reg
  split at h1
  ·rename_i n q
   have w:=rv.w r1
   rw[q] at w
   simp only[qco] at h1
   split at h1
   ·rename_i hl
    have hl:=qhq hl
    refine⟨n,w.int,by decide,by decide,hl.1.1,hl.1.2,?_⟩
    exact h1.now r1 _ (qfL _ (-1) _)
   ·exact h1.elim
  ·exact h1.elim
theorem ql3 {i j c:Int} (h:c≠0∧c.natAbs<1073741824∧Builtin.Range.small i j c=true∧0≤Builtin.Range.rangeSize i j c∧qld i j c≤LIM):RgC i j c (qld i j c):=
 ⟨h.1,h.2.1,h.2.2.1,(Int.toNat_of_nonneg h.2.2.2.1).symm⟩
theorem qie {tg a b c:Expr} {g:List Sl→RE (List ER)} {p pos:Pos} (hg:Gl X "range") (hm:X.mg "range" = none) (ha:PA X [a,b,c] (tA C g)) (hl:∀ρ r,g ρ=.ok r→r.length=3) (hs:starEach [a,b,c] X.env=(false,eval a X.env)::starEach [b,c] X.env) (hpl:(backTo pos (starEach [b,c] X.env)).any (·.1)=false) :
  PI X tg (.Call (.Name "range" p) [a,b,c] [] pos) (tI C (qnr g)):=
 qbv (pi_range3 hg hm ha hs hpl) fun σ H R q=>by
  obtain⟨ρ,P,N,S,h⟩:=q
  refine⟨ρ,P,N,S,h.bind.mono fun r P1 N1 H1 e1 a1 h1 vs rv=>?_⟩
  have r1:=(S.adv a1).reg
  match r,hl _ _ e1,rv,h1 with
  |[x,y,z],_,rv,h1 =>
   obtain⟨v,u,rfl,w,rv⟩:=rv.w r1
   obtain⟨v2,u2,rfl,w2,rv⟩:=rv.w r1
   obtain⟨v3,u3,rfl,w3,rv⟩:=rv.w r1
   cases rv
   simp only[qdz,qco,qaP,qai,qaD,qaA,qay,qaC,qaN,qaH,qat,qaB] at h1
   split at h1
   ·rename_i i j c q q2 q3
    rw[q] at w
    rw[q2] at w2
    rw[q3] at w3
    split at h1
    ·rename_i hl
     exact⟨i,j,c,_,by rw[w.int,w2.int,w3.int],ql3 hl,h1.now r1 _ (qfL i c _)⟩
    ·exact h1.elim
   ·exact h1.elim
theorem qfk {P N H H':Hp} (r:Reg C P N H) {T:Addr} {x y:V} {d e:D} {b:Bool} (hT:H T=none) (eH:H'=upd H T (.tup [x,y])) (h:RepB C P N b d x) (h':RepB C P N b e y):∃P3,Adv P N H P3 N H'∧RepB C P3 N b (.tup [d,e]) (.ref T):=by
 subst eH
 have sp:=qau (o:=.tup [x,y]) (r.pH.free hT)
 exact⟨upd P T (.tup [x,y]),(Adv.refl r.pH r.nH).newP hT,T,[x,y],rfl,.inl (.inl upd_same),x,[y],rfl,RepB.adv sp (L2.Same.refl _) h,y,[],rfl,RepB.adv sp (L2.Same.refl _) h',rfl⟩
theorem qlO {a:Expr} {elts:List Expr} {kk:Nat} {g:List Sl→RE ER} {p pos tpos:Pos} (hK:X.K=C.G.K) (hg:Gl X "enumerate") (hm:X.mg "enumerate" = none) (h:PE X a (tE C g)) (hs:starEach [a] X.env=[(false,eval a X.env)]) :
  PI X (.Tuple elts kk tpos) (.Call (.Name "enumerate" p) [a] [] pos) (tI C fun ρ=>(g ρ).bind fun x=>match x.d with
  |.lst xs=>.ok ⟨xs.zipIdx.map fun p=>.tup [.int p.2,p.1],x.b,x.isB⟩
  |_=>.bad):=
 qbv (pi_enum hg hm (pa_cons h pa_nil hs) hs) fun σ H R q=>by
  rw[hK]
  obtain⟨ρ,P,N,S,h⟩:=q
  refine⟨ρ,P,N,S,h.bind.mono fun x P1 N1 H1 e1 a1 h1 v rv=>?_⟩
  obtain⟨N2,a2,rv⟩:=rv.freeze a1
  have r2:=(S.adv a2).reg
  cases q:x.d with
  |lst ds =>
   simp only[e1,RE.bind_ok,q] at h
   have h2:=res.adv a2 h
   obtain⟨p,xs,rfl,z1,z2,z3⟩:=rv.frz_lst r2 q
   refine⟨p,xs,rfl,z1,h2.now r2 _ ⟨fun H=>SqL C.G.K H p xs,YPair (fun i=>some (.int (i:Nat))) (fun i=>xs[i]?),?_,fun H2 e=>L2.Same.seq e z1,fun e P2 N2 H2 e1 e2 r2=>?_,fun i P2 N2 H2 x H3 hi e1 e2 r2 y=>?_⟩⟩
   ·have:=walk_enum (K:=C.G.K) (a:=p) (xs:=xs)
    rw[z2.length] at this
    simpa using this
   ·exact LNb.seq r2.pH r2.nH r2.rH _ _ (LNb.mono e1 e2 _ _ (z3 (by rw[qcR];exact e)))
   ·obtain⟨T,x,y,rfl,hT,eH,ex,ey⟩:=y
    cases ex
    have hi:i<ds.length:=by simpa using hi
    obtain⟨v,q1,q2⟩:=Reps.get z2 (List.getElem?_eq_getElem hi)
    replace ey:xs[i]? = some y:=ey
    rw[q1] at ey;cases ey
    obtain⟨P3,q3,q4⟩:=qfk r2 hT eH (d:=.int i) rfl (RepB.adv e1 e2 q2)
    exact⟨P3,q3,_,by simp[hi],q4⟩
  |_=>simp only[q] at h1;exact h1.elim
theorem ql2 {tg a:Expr} {g:List Sl→RE ER} {p pos:Pos} (hK:X.K=C.G.K) (hg:Gl X "reversed") (hm:X.mg "reversed" = none) (h:PE X a (tE C g)) (hs:starEach [a] X.env=[(false,eval a X.env)]) :
  PI X tg (.Call (.Name "reversed" p) [a] [] pos) (tI C fun ρ=>(g ρ).bind fun x=>match x.d with
  |.lst xs=>.ok ⟨xs.reverse,x.b,x.isB⟩
  |_=>.bad):=
 qbv (pi_reversed hg hm (pa_cons h pa_nil hs) hs) fun σ H R q=>by
  rw[hK]
  obtain⟨ρ,P,N,S,h⟩:=q
  refine⟨ρ,P,N,S,h.bind.mono fun x P1 N1 H1 e1 a1 h1 v rv=>?_⟩
  obtain⟨N2,a2,rv⟩:=rv.freeze a1
  have r2:=(S.adv a2).reg
  cases q:x.d with
  |lst ds =>
   simp only[e1,RE.bind_ok,q] at h
   have h2:=res.adv a2 h
   obtain⟨p,xs,rfl,z1,z2,z3⟩:=rv.frz_lst r2 q
   refine⟨p,xs,rfl,z1,h2.now r2 _ ⟨fun H=>SqL C.G.K H p xs,fun i H x H'=>H'=H∧xs[xs.length - 1 - i]? = some x,?_,fun H2 e=>L2.Same.seq e z1,fun e P2 N2 H2 e1 e2 r2=>?_,fun i P2 N2 H2 x H3 hi e1 e2 r2 y=>?_⟩⟩
   ·have:=walk_rev (K:=C.G.K) (a:=p) (xs:=xs)
    have e:=z2.length
    simp only[List.length_reverse]
    rw[←e]
    exact this
   ·exact LNb.seq r2.pH r2.nH r2.rH _ _ (LNb.mono e1 e2 _ _ (z3 (by rw[qcR];exact e)))
   ·obtain⟨rfl,ex⟩:=y
    have hi:i<ds.length:=by simpa using hi
    have hj:ds.length - 1 - i<ds.length:=by omega
    rw[z2.length] at ex
    obtain⟨v,q1,q2⟩:=Reps.get z2 (List.getElem?_eq_getElem hj)
    rw[q1] at ex;cases ex
    refine⟨P2,Adv.refl r2.pH r2.nH,_,?_,RepB.adv e1 e2 q2⟩
    rw[List.getElem?_reverse hi,List.getElem?_eq_getElem]
  |_=>simp only[q] at h1;exact h1.elim
theorem qlp {a a':Expr} {elts:List Expr} {kk:Nat} {g g':List Sl→RE ER} {p pos tpos:Pos} (hK:X.K=C.G.K) (hg:Gl X "zip") (hm:X.mg "zip" = none) (h:PE X a (tE C g)) (h':PE X a' (tE C g')) (hs:starEach [a,a'] X.env=(false,eval a X.env)::starEach [a'] X.env) (hs2:starEach [a'] X.env=[(false,eval a' X.env)]) (hpl:(backTo pos (starEach [a'] X.env)).any (·.1)=false) :
  PI X (.Tuple elts kk tpos) (.Call (.Name "zip" p) [a,a'] [] pos) (tI C fun ρ=>(g ρ).bind fun x=>(g' ρ).bind fun y=>match x.d,y.d with
  |.lst xs,.lst ys=>.ok ⟨List.zipWith (fun u v=>.tup [u,v]) xs ys,x.b&&y.b,x.isB||y.isB⟩
  |_,_=>.bad):=
 qbv (pi_zip hg hm (pa_cons h (pa_cons h' pa_nil hs2) hs) hs hpl) fun σ H R q=>by
  rw[hK]
  obtain⟨ρ,P,N,S,h⟩:=q
  refine⟨ρ,P,N,S,h.bind.mono fun x P1 N1 H1 e1 a1 h1 v rv=>?_⟩
  obtain⟨N2,a2,rv⟩:=rv.freeze a1
  simp only[e1,RE.bind_ok] at h
  have h2:=res.adv a2 h
  refine⟨ρ,P1,N2,S.adv a2,(res.bind h2).mono fun y P3 N3 H3 e3 a3 h3 u ru=>?_⟩
  obtain⟨N4,a4,ru⟩:=ru.freeze a3
  have r4:=((S.adv a2).adv a4).reg
  simp only[e3,RE.bind_ok] at h2
  have h4:=res.adv a4 h2
  have rv4:=rv.adv a4
  split at h4
  ·rename_i ds es q q2
   obtain⟨p,xs,rfl,z1,z2,z3⟩:=rv4.frz_lst r4 q
   obtain⟨p2,ys,rfl,y1,y2,y3⟩:=ru.frz_lst r4 q2
   refine⟨p,p2,xs,ys,rfl,z1,y1,h4.now r4 _ ⟨fun H=>SqL C.G.K H p xs∧SqL C.G.K H p2 ys,YPair (fun i=>xs[i]?) (fun i=>ys[i]?),?_,fun H2 e=>⟨L2.Same.seq e z1,L2.Same.seq e y1⟩,fun e P2 N2 H2 e1 e2 r2=>?_,fun i P2 N2 H2 x H3 hi e1 e2 r2 y=>?_⟩⟩
   ·have:=walk_zip (K:=C.G.K) (a:=p) (b:=p2) (xs:=xs) (ys:=ys) rfl
    rw[z2.length,y2.length] at this
    simpa using this
   ·simp only[Bool.or_eq_false_iff] at e
    exact⟨LNb.seq r2.pH r2.nH r2.rH _ _ (LNb.mono e1 e2 _ _ (z3 (by rw[qcR];exact e.1))),LNb.seq r2.pH r2.nH r2.rH _ _ (LNb.mono e1 e2 _ _ (y3 (by rw[qcR];exact e.2)))⟩
   ·obtain⟨T,x,y,rfl,hT,eH,ex,ey⟩:=y
    have hi':i<ds.length∧i<es.length:=by
     have:i<min ds.length es.length:=by simpa using hi
     omega
    replace ex:xs[i]? = some x:=ex
    replace ey:ys[i]? = some y:=ey
    obtain⟨v,q1,q2⟩:=Reps.get z2 (List.getElem?_eq_getElem hi'.1)
    rw[q1] at ex;cases ex
    obtain⟨v,q5,q6⟩:=Reps.get y2 (List.getElem?_eq_getElem hi'.2)
    rw[q5] at ey;cases ey
    obtain⟨P3,q3,q4⟩:=qfk r2 hT eH (RepB.adv e1 e2 (RepB.and1 q2)) (RepB.adv e1 e2 (RepB.and2 q6))
    exact⟨P3,q3,_,by rw[List.getElem?_zipWith,List.getElem?_eq_getElem hi'.1,List.getElem?_eq_getElem hi'.2],q4⟩
  ·exact h4.elim
end
end Cm
namespace Cm
open PySem PySem.Spec PyProof.Rows L2
def Ctx.nx (C:Ctx):Ctx:={ C with W:=fun _ _ _ _=>False }
section
variable {C:Ctx} {X:Cx}
theorem Reg.nx {P N H:Hp} (r:Reg C P N H):Reg C.nx P N H:=⟨r.pH,r.nH,r.bH,r.rB,r.p0,r.pn,r.nw,r.dj⟩
theorem Reg.unx {P N H:Hp} (r:Reg C.nx P N H):Reg C P N H:=⟨r.pH,r.nH,r.bH,r.rB,r.p0,r.pn,r.nw,r.dj⟩
theorem SlR.nx {P N H:Hp} {s:Sl} {o:Option V} (h:SlR C P N H s o):SlR C.nx P N H s o:=by cases s<;>exact h
theorem SR.nx {P N H:Hp} {ρ:List Sl} {σ:L2.St} (S:SR C P N H ρ σ):SR C.nx P N H ρ σ:=⟨S.reg.nx,S.len,fun i s e=>by
 obtain⟨o,h1,h2⟩:=S.sl i s e
 exact⟨o,h1,h2.nx⟩,S.ap,S.ad,S.ar⟩
theorem ERr.unx {P N H H0:Hp} {er:ER} {v:V} (h:ERr C.nx P N H H0 er v):ERr C P N H H0 er v:=by cases er<;>exact h
theorem qaI {σ:L2.St}:∀{vs:List Nat} {j:Nat},j∉vs→(wipe σ vs)[j]? = σ[j]?
 |[],_,_=>rfl
 |v::vs,j,h=>by
  simp only[List.mem_cons,not_or] at h
  unfold wipe
  rw[List.getElem?_set_ne (fun z=>h.1 z.symm)]
  exact qaI h.2
theorem qe4 {σ:L2.St}:∀{vs:List Nat} {j:Nat},j∈vs→j<σ.length→(wipe σ vs)[j]? = some none
 |v::vs,j,h,hj=>by
  unfold wipe
  by_cases q:v=j
  ·subst q
   rw[List.getElem?_set_self (by rw[wipe_length];exact hj)]
  ·rw[List.getElem?_set_ne q]
   rcases List.mem_cons.mp h with h | h
   ·exact absurd h.symm q
   ·exact qe4 h hj
theorem qhf {σ σ':L2.St} {vs:List Nat} (hl:σ'.length=σ.length) (h:∀j,j∉vs→σ'[j]? = σ[j]?):wipe σ' vs=wipe σ vs:=by
 apply List.ext_getElem?
 intro j
 by_cases q:j∈vs
 ·by_cases hj:j<σ.length
  ·rw[qe4 q hj,qe4 q (by rw[hl];exact hj)]
  ·rw[List.getElem?_eq_none (by rw[wipe_length];omega),List.getElem?_eq_none (by rw[wipe_length];omega)]
 ·rw[qaI q,qaI q,h j q]
theorem qhz {σ:L2.St} {vs:List Nat}:wipe (wipe σ vs) vs=wipe σ vs:=by
 refine qhf (wipe_length _ _) fun j h=>qaI h
theorem qcQ {ρ:List Sl}:∀{vs:List Nat},(wipeS ρ vs).length=ρ.length
 |[]=>rfl
 |v::vs=>by unfold wipeS;rw[List.length_set];exact qcQ
theorem qaV {ρ:List Sl}:∀{vs:List Nat} {j:Nat} {s:Sl},(wipeS ρ vs)[j]? = some s→s=.non∨(j∉vs∧ρ[j]? = some s)
 |[],_,_,h=>.inr ⟨by simp,h⟩
 |v::vs,j,s,h=>by
  unfold wipeS at h
  by_cases q:v=j
  ·subst q
   by_cases hv:v<(wipeS ρ vs).length
   ·rw[List.getElem?_set_self hv] at h;cases h;exact .inl rfl
   ·rw[List.getElem?_eq_none (by simpa using hv)] at h;cases h
  ·rw[List.getElem?_set_ne q] at h
   rcases qaV h with h | h
   ·exact .inl h
   ·exact .inr ⟨by simp only[List.mem_cons,not_or];exact⟨fun z=>q z.symm,h.1⟩,h.2⟩
theorem SR.wiped {P N H:Hp} {ρ:List Sl} {σ:L2.St} (S:SR C P N H ρ σ) (vs:List Nat):SR C P N H (wipeS ρ vs) (wipe σ vs) where
 reg:=S.reg
 len:=by rw[wipe_length,qcQ,S.len]
 sl:=fun i s e=>by
  rcases qaV e with rfl | ⟨h1,h2⟩
  ·have hi:i<(wipeS ρ vs).length:=by
    rcases Nat.lt_or_ge i (wipeS ρ vs).length with z | z
    ·exact z
    ·rw[List.getElem?_eq_none z] at e;cases e
   rw[qcQ,←S.len,←wipe_length σ vs] at hi
   exact⟨_,List.getElem?_eq_getElem hi,trivial⟩
  ·rw[qaI h1]
   exact S.sl i s h2
 ap:=fun i j p ds b es c e1 e2 e3 e4=>by
  rcases qaV e1 with z | ⟨h1,h2⟩
  ·cases z
  rcases qaV e2 with z | ⟨h3,h4⟩
  ·cases z
  rw[qaI h1] at e3
  rw[qaI h3] at e4
  exact S.ap i j p ds b es c h2 h4 e3 e4
 ad:=S.ad.sub fun i m b e=>by
  rcases qaV e with z | ⟨h1,h2⟩
  ·cases z
  ·exact⟨qaI h1,_,_,h2⟩
 ar:=⟨fun i j dss t o u a e1 e2 e3 e4 k1 k2=>by
  rcases qaV e1 with z | ⟨h1,h2⟩
  ·cases z
  rcases qaV e2 with z | ⟨h3,h4⟩
  ·subst z;cases k2
  rw[qaI h1] at e3
  rw[qaI h3] at e4
  exact S.ar.un i j dss t o u a h2 h4 e3 e4 k1 k2⟩
def tIl (C:Ctx) (g:List Sl→RE Wk):TI:=fun σ H R=>∃ρ P N,SR C P N H ρ σ∧res C σ P N H (g ρ) fun w P' N' H'=>∀J,Wok C P' N' H' w J→w.xs.length≤sizeLine→R J H'
abbrev gLc (own tg:List Nat) (gi:List Sl→RE Wk) (gc:List Sl→RE Bool) (ge:List Sl→RE ER):List Sl→RE ER:=fun ρ=>(gi ρ).bind fun xs=>gd (leB xs.xs.length) ((lcl (fun x=>match qbZ tg x xs.b (wipeS ρ own) with
   |some ρ'=>noX ((gc ρ').bind fun k=>if k=true then (ge ρ').bind fun y=>match y with
    |.brw _ _=>.bad
    |y=>.ok (some (y.d,y.b)) else .ok none)
   |none=>.bad) xs.xs).bind fun r=>.ok (.fre r.1 r.2))
theorem qiB {f:D→RE (Option (D × Bool))} {x:D} {xs:List D} {r:List D × Bool} (h:lcl f (x::xs)=.ok r):∃a q,f x=.ok a∧lcl f xs=.ok q∧r=match a with
  |none=>q
  |some y=>(y.1::q.1,y.2&&q.2):=by
 unfold lcl at h
 cases e:f x with
 |bad=>rw[e] at h;cases h
 |exc c fs=>rw[e] at h;cases h
 |ok a =>
  rw[e] at h
  cases e2:lcl f xs with
  |bad=>rw[e2] at h;cases h
  |exc c fs=>rw[e2] at h;cases h
  |ok q =>
   rw[e2] at h
   refine⟨a,q,rfl,rfl,?_⟩
   cases a<;>cases h<;>rfl
theorem qi2 {f:D→RE (Option (D × Bool))} (hf:∀x,qc0 (f x)):∀xs,qc0 (lcl f xs)
 |[]=>trivial
 |x::xs=>by
  unfold lcl
  have h1:=hf x
  have h2:=qi2 hf xs
  cases e:f x with
  |bad=>trivial
  |exc c fs=>rw[e] at h1;exact h1.elim
  |ok a =>
   cases e2:lcl f xs with
   |bad=>trivial
   |exc c fs=>rw[e2] at h2;exact h2.elim
   |ok q=>cases a<;>trivial
theorem qlt {α:Type} (r:RE α):qc0 (noX r):=by cases r<;>trivial
theorem qlL {α:Type} {r:RE α} {a:α} (h:noX r=.ok a):r=.ok a:=by
 cases r with
 |bad=>cases h
 |ok b=>exact h
 |exc c fs=>cases h
theorem qi6 {own tg:List Nat} {gi:List Sl→RE Wk} {gc:List Sl→RE Bool} {ge:List Sl→RE ER} (hsub:∀i∈tg,i∈own) {σ:L2.St} {H:Hp} {Q:VK} (h:tE C (gLc own tg gi gc ge) σ H Q) :
  tLc (tI C gi) (tG C.nx tg) (tT C.nx gc) (tE C.nx ge) own σ H Q:=by
 obtain⟨ρ,P,N,S,h⟩:=h
 refine⟨ρ,P,N,S,h.bind.mono fun w P1 N1 H1 e1 a1 h1 J wj D hD=>?_⟩
 have S1:=S.adv a1
 simp only[qco,qai] at h1
 split at h1
 case isFalse=>exact h1.elim
 rename_i hlen
 generalize hf:(fun x=>match qbZ tg x w.b (wipeS ρ own) with
   |some ρ'=>noX ((gc ρ').bind fun k=>if k=true then (ge ρ').bind fun y=>match y with
    |.brw _ _=>.bad
    |y=>.ok (some (y.d,y.b)) else .ok none)
   |none=>.bad)=f at h1
 have fnx:∀x,qc0 (f x):=fun x=>by
  subst hf
  simp only
  split
  ·exact qlt _
  ·trivial
 cases e2:lcl f w.xs with
 |bad=>rw[e2] at h1;exact h1.elim
 |exc c fs=>have:=qi2 fnx w.xs;rw[e2] at this;exact this.elim
 |ok tot =>
  rw[e2] at h1
  obtain⟨Gd,Y,wk,grow,_,item⟩:=wj
  refine lc_it wk (Pv:=fun i Hi=>∃(P N:Hp) (acc:List V) (ds:List Cm.D) (b:Bool) (rest:List Cm.D × Bool),Adv P1 N1 H1 P N Hi∧Hi D=some (.lst acc)∧P D=none∧N D=none∧RepsB C P N b ds acc∧ds.length≤i∧lcl f (w.xs.drop i)=.ok rest∧tot.1=ds++rest.1∧tot.2=(b&&rest.2)) ?_ (fun i Hi hi p=>?_) (fun i x Hi H' hi p y=>?_) (fun Hi p=>?_)
  ·exact⟨P1,N1,[],[],true,tot,(Adv.refl S1.reg.pH S1.reg.nH).heap (qau hD),upd_same,S1.reg.pH.free hD,S1.reg.nH.free hD,rfl,Nat.le_refl _,by simpa using e2,rfl,by simp⟩
  ·obtain⟨P,N,acc,ds,b,rest,a,_⟩:=p
   exact grow Hi a.hh
  ·obtain⟨P2,N2,acc,ds,b,rest,a,hDi,pD,nD,rr,hdl,el,et,eb⟩:=p
   obtain⟨P3,a3,d,ed,rd⟩:=item i P2 N2 Hi x H' hi a.pp a.nn (S1.adv a).reg y
   have hdrop:w.xs.drop i=d::w.xs.drop (i+1):=by
    obtain⟨hi',e⟩:=List.getElem?_eq_some_iff.mp ed
    rw[List.drop_eq_getElem_cons hi',e]
   rw[hdrop] at el
   obtain⟨r1,q,ef,eq,er⟩:=qiB el
   have aa:=a.trans a3
   have hD':=a3.hh _ _ hDi
   have pD3:=a3.off hDi pD
   subst hf
   simp only at ef
   split at ef
   case h_2=>cases ef
   rename_i ρ' eb'
   have ef:=qlL ef
   refine⟨wipeS ρ own,P3,N2,d,w.b,ρ',((S1.adv aa).wiped own).nx,rd,eb',fun σ' S' hj hl=>⟨?_,?_⟩⟩
   ·rw[qhf (σ:=wipe σ own) hl fun j h=>hj j fun z=>h (hsub j z),qhz]
   ·cases e5:gc ρ' with
    |bad=>rw[e5] at ef;cases ef
    |exc c fs=>rw[e5] at ef;cases ef
    |ok k =>
     rw[e5,RE.bind_ok] at ef
     refine⟨ρ',P3,N2,S',?_⟩
     rw[e5]
     intro P4 N4 H4 a4
     have hD4:=a4.hh _ _ hD'
     have pD4:=a4.off hD' pD3
     have nD4:=a4.offN hD' nD
     cases k with
     |false =>
      simp only[Bool.false_eq_true,if_false] at ef ⊢
      cases ef
      have er':rest=q:=er
      exact⟨P4,N4,acc,ds,b,q,aa.trans a4,hD4,pD4,nD4,RepsB.adv (a3.pp.trans a4.pp) a4.nn rr,Nat.le_succ_of_le hdl,eq,by rw[et,er'],by rw[eb,er']⟩
     |true =>
      simp only[if_true] at ef ⊢
      cases e6:ge ρ' with
      |bad=>rw[e6] at ef;cases ef
      |exc c fs=>rw[e6] at ef;cases ef
      |ok y =>
       rw[e6,RE.bind_ok] at ef
       refine⟨ρ',P4,N4,S'.adv a4,?_⟩
       rw[e6]
       intro P5 N5 H5 a5 v rv
       have rv:=rv.unx
       obtain⟨N6,a6,rv6⟩:=rv.freeze a5
       have hD6:=a6.hh _ _ hD4
       have pD6:=a6.off hD4 pD4
       have nD6:=a6.offN hD4 nD4
       have ry:r1=some (y.d,y.b)∧RepB C P5 N6 y.b y.d v:=by
        cases y with
        |val d' b'=>exact⟨(RE.ok.inj ef).symm,rv6⟩
        |fre d' b'=>exact⟨(RE.ok.inj ef).symm,rv6⟩
        |brw d' b'=>cases ef
       obtain⟨rfl,rv7⟩:=ry
       have er':rest=(y.d::q.1,y.b&&q.2):=er
       have full:=((a.trans a3).trans a4).trans a6
       have hl2:acc.length=ds.length:=rr.length
       refine⟨acc,hD6,?_,P5,N6,acc++[v],ds++[y.d],b&&y.b,q,⟨?_,full.pp,full.nn,qaQ full.pH pD6,qaQ full.nH nD6,full.pn,full.nw,full.dj⟩,upd_same,pD6,nD6,?_,?_,eq,?_,?_⟩
       ·have:w.xs.length≤sizeLine:=hlen
        omega
       ·exact qaQ full.hh hD
       ·exact Reps.append (RepsB.and1 (RepsB.adv ((a3.pp.trans a4.pp).trans a6.pp) (a4.nn.trans a6.nn) rr)) (Reps.one (RepB.and2 rv7))
       ·simp only[List.length_append,List.length_singleton];omega
       ·rw[et,er'];simp
       ·rw[eb,er'];simp[Bool.and_assoc]
  ·obtain⟨P2,N2,acc,ds,b,rest,a,hDi,pD,nD,rr,hdl,el,et,eb⟩:=p
   rw[List.drop_length] at el
   cases el
   have et':tot.1=ds:=by simpa using et
   have eb':tot.2=b:=by simpa using eb
   refine h1 P2 N2 Hi a _ ⟨D,acc,rfl,hDi,a1.hh.free hD,pD,nD,?_⟩
   rw[et',eb']
   exact rr
end
end Cm
namespace Cm
open PySem PySem.Spec PyProof.Rows L2
section
variable (C:Ctx)
def outS (P0 N0:Hp) (D:Ends) (o:Out):Prop:=
 match o with
 |.bad=>False
 |.nx ρ=>∀σ P N H,SR C P N H ρ σ→L2.Same P0 P→L2.Same N0 N→D.nx σ H
 |.brk ρ=>∀σ P N H,SR C P N H ρ σ→L2.Same P0 P→L2.Same N0 N→D.bk σ H
 |.cnt ρ=>∀σ P N H,SR C P N H ρ σ→L2.Same P0 P→L2.Same N0 N→D.ct σ H
 |.ret er=>∀v P N H,Reg C P N H→ERr C P N H C.B er v→D.rt v H
 |.exc c fs=>∀σ d P N H,Reg C P N H→ExR C P N H fs d→C.W (.ref (C.G.ca c)) d σ H
def tS (g:List Sl→Out):TS:=fun D σ H=>∃ρ P N,SR C P N H ρ σ∧outS C P N D (g ρ)
end
section
variable {C:Ctx} {X:Cx}
theorem outS.res {α:Type} {D:Ends} {σ:L2.St} {P N H:Hp} {r:RE α} {f:α→Out} (rg:Reg C P N H) (h:outS C P N D (r.out f)):res C σ P N H r fun a _ _ _=>outS C P N D (f a):=by
 cases r with
 |bad=>exact h
 |ok a=>exact fun _ _ _ _=>h
 |exc c fs=>exact fun d P' N' H' a x=>h σ d P' N' H' (rg.adv a) x
theorem outS.adv {P N P' N':Hp} {D:Ends} {o:Out} (h:outS C P N D o) (hp:L2.Same P P') (hn:L2.Same N N'):outS C P' N' D o:=by
 cases o with
 |bad=>exact h
 |nx ρ=>exact fun σ P2 N2 H S e1 e2=>h σ P2 N2 H S (hp.trans e1) (hn.trans e2)
 |brk ρ=>exact fun σ P2 N2 H S e1 e2=>h σ P2 N2 H S (hp.trans e1) (hn.trans e2)
 |cnt ρ=>exact fun σ P2 N2 H S e1 e2=>h σ P2 N2 H S (hp.trans e1) (hn.trans e2)
 |ret er=>exact h
 |exc c fs=>exact h
theorem outS.mono {P0 N0:Hp} {D D':Ends} {o:Out} (h:outS C P0 N0 D o) (h1:∀σ H,D.nx σ H→D'.nx σ H) (h2:∀v H,D.rt v H→D'.rt v H) (h3:∀σ H,D.bk σ H→D'.bk σ H) (h4:∀σ H,D.ct σ H→D'.ct σ H):outS C P0 N0 D' o:=by
 cases o with
 |bad=>exact h
 |nx ρ=>exact fun σ P N H S e1 e2=>h1 _ _ (h σ P N H S e1 e2)
 |brk ρ=>exact fun σ P N H S e1 e2=>h3 _ _ (h σ P N H S e1 e2)
 |cnt ρ=>exact fun σ P N H S e1 e2=>h4 _ _ (h σ P N H S e1 e2)
 |ret er=>exact fun v P N H S e=>h2 _ _ (h v P N H S e)
 |exc c fs=>exact h
theorem qah {s:Stmt} {t u:TS} (h:PS X s t) (f:∀D σ H,u D σ H→t D σ H):PS X s u:=⟨fun pins s σ H D I q=>h.run pins s σ H D I (f _ _ _ q)⟩
theorem qan {s:List Stmt} {t u:TS} (h:PSs X s t) (f:∀D σ H,u D σ H→t D σ H):PSs X s u:=⟨fun pins s σ H D I q=>h.run pins s σ H D I (f _ _ _ q)⟩
theorem qht {s:Stmt}:PS X s (tS C fun _=>.bad):=qah ps_never fun D σ H q=>by obtain⟨ρ,P,N,S,h⟩:=q;exact h
theorem qh9 {pos:Pos}:PS X (.Pass pos) (tS C fun ρ=>.nx ρ):=qah ps_pass fun D σ H q=>by obtain⟨ρ,P,N,S,h⟩:=q;exact h σ P N H S (L2.Same.refl _) (L2.Same.refl _)
theorem qkA {x:Str} {j:Nat} {pos pos':Pos}:PS X (.Expr (.Constant (.str x) j pos) pos') (tS C fun ρ=>.nx ρ):=qah ps_doc fun D σ H q=>by obtain⟨ρ,P,N,S,h⟩:=q;exact h σ P N H S (L2.Same.refl _) (L2.Same.refl _)
theorem qky {pos:Pos}:PS X (.Break pos) (tS C fun ρ=>.brk ρ):=qah ps_break fun D σ H q=>by obtain⟨ρ,P,N,S,h⟩:=q;exact h σ P N H S (L2.Same.refl _) (L2.Same.refl _)
theorem qk4 {pos:Pos}:PS X (.Continue pos) (tS C fun ρ=>.cnt ρ):=qah ps_continue fun D σ H q=>by obtain⟨ρ,P,N,S,h⟩:=q;exact h σ P N H S (L2.Same.refl _) (L2.Same.refl _)
theorem qih {pos:Pos}:PS X (.Return none pos) (tS C fun _=>.ret (.val .non true)):=qah ps_retN fun D σ H q=>by obtain⟨ρ,P,N,S,h⟩:=q;exact h .non P N H S.reg rfl
theorem qj7 {e:Expr} {g:List Sl→RE ER} {pos:Pos} (h:PE X e (tE C g)):PS X (.Return (some e) pos) (tS C fun ρ=>(g ρ).out fun x=>.ret (qnm x)):=
 qah (ps_ret h) fun D σ H q=>by
  obtain⟨ρ,P,N,S,h⟩:=q
  refine⟨ρ,P,N,S,(h.res S.reg).mono fun x P1 N1 H1 _ a1 h1 v rv=>?_⟩
  have r1:=(S.adv a1).reg
  refine h1 v P1 N1 H1 r1 ?_
  cases x with
  |val d b=>exact rv
  |fre ds b=>exact rv.from S.reg.bH
  |brw ds b =>
   obtain⟨p,xs,e,z1,z2,z3,z4,z5⟩:=rv
   exact⟨p,xs,e,z1,z4,z2,z3,z5⟩
theorem qia {e:Expr} {g:List Sl→RE ER} {pos:Pos} (h:PE X e (tE C g)) (hs:swapsWith e none pos.line X.env=pure false):PS X (.Expr e pos) (tS C fun ρ=>(g ρ).out fun _=>.nx ρ):=
 qah (ps_expr h hs) fun D σ H q=>by
  obtain⟨ρ,P,N,S,h⟩:=q
  exact⟨ρ,P,N,S,(h.res S.reg).mono fun x P1 N1 H1 _ a1 h1 v rv=>h1 σ P1 N1 H1 (S.adv a1) a1.pp a1.nn⟩
theorem qjK {c:Expr} {a b:List Stmt} {gc:List Sl→RE Bool} {ga gb:List Sl→Out} {pos:Pos} (hc:PT X c (tT C gc)) (ha:PSs X a (tS C ga)) (hb:PSs X b (tS C gb)):PS X (.If c a b pos) (tS C fun ρ=>(gc ρ).out fun k=>if k=true then ga ρ else gb ρ):=
 qah (ps_if hc ha hb) fun D σ H q=>by
  obtain⟨ρ,P,N,S,h⟩:=q
  refine⟨ρ,P,N,S,(h.res S.reg).mono fun k P1 N1 H1 _ a1 h1=>?_⟩
  cases k
  ·exact⟨ρ,P1,N1,S.adv a1,h1.adv a1.pp a1.nn⟩
  ·exact⟨ρ,P1,N1,S.adv a1,h1.adv a1.pp a1.nn⟩
theorem ERr.held {P1 N1 H0 P N H:Hp} {er:ER} {v:V} {f:Cm.D→Bool→Out} {D:Ends} (a:Adv P1 N1 H0 P N H) (h:ERr C P N H H0 er v) (o:outS C P1 N1 D (held er f)):∃N2 d b,Adv P1 N1 H0 P N2 H∧RepB C P N2 b d v∧outS C P1 N1 D (f d b):=by
 cases er with
 |brw ds b=>exact o.elim
 |val d b=>exact⟨N,d,b,a,h,o⟩
 |fre ds b =>
  obtain⟨N2,a2,r2⟩:=h.freeze a
  exact⟨N2,.lst ds,b,a2,r2,o⟩
theorem qkJ {i:Nat} {g:List Sl→RE ER} {D:Ends} {σ:L2.St} {H:Hp} (q:tS C (fun ρ=>(g ρ).out fun x=>held x fun d b=>.nx (ρ.set i (.val d b))) D σ H):tAsg (tE C g) (gName i) D σ H:=by
 obtain⟨ρ,P,N,S,h⟩:=q
 refine⟨ρ,P,N,S,(h.res S.reg).mono fun x P1 N1 H1 _ a1 h1 v rv=>?_⟩
 obtain⟨N2,d,b,a2,r2,o⟩:=rv.held a1 h1
 exact o _ P1 N2 H1 ((S.adv a2).setV r2) a2.pp a2.nn
theorem SR.newW {P0 N0 H0 H:Hp} {ρ:List Sl} {σ:L2.St} (S0:SR C P0 N0 H0 ρ σ) (hs:L2.Same H0 H) {p:Addr} (h0:H0 p=none) {j:Nat} {dss:List (List Cm.D)} {u:Option V} (e1:ρ[j]? = some (.row dss)) (e2:σ[j]? = some u):¬Held H (.row dss) u p:=fun k=>by
 obtain⟨o,z1,z2⟩:=S0.sl j _ e1
 rw[z1] at e2;cases e2
 have k0:Held H0 (.row dss) u p:=by
  obtain⟨q,ps,rfl,y1,_⟩:=z2
  cases k with
  |rt=>exact .rt
  |it e m =>
   rw[hs _ _ y1] at e
   injection e with e
   injection e with e
   rw[←qcy e] at m
   exact .it y1 m
 obtain⟨⟨xs,q⟩,_⟩:=z2.held k0
 rw[h0] at q;cases q
theorem SR.setO {P0 N0 H0 P N H:Hp} {ρ:List Sl} {σ:L2.St} (S0:SR C P0 N0 H0 ρ σ) (S:SR C P N H ρ σ) (hs:L2.Same H0 H) {i:Nat} {ds:List Cm.D} {b:Bool} {p:Addr} {xs:List V} (h0:H0 p=none) (hp:H p=some (.lst xs)) (pP:P p=none) (pN:N p=none) (h:RepsB C P N b ds xs):SR C P N H (ρ.set i (.own ds b)) (σ.set i (some (.ref p))) where
 reg:=S.reg
 len:=by simp[S.len]
 sl:=fun j s e=>by
  by_cases q:i=j
  ·subst q
   have hi:i<ρ.length:=by
    rcases Nat.lt_or_ge i ρ.length with z | z
    ·exact z
    ·rw[List.getElem?_eq_none (by simpa using z)] at e;cases e
   rw[List.getElem?_set_self hi] at e
   cases e
   exact⟨_,List.getElem?_set_self (by rw[S.len];exact hi),p,xs,rfl,hp,pP,pN,S0.reg.bH.free h0,h⟩
  ·rw[List.getElem?_set_ne q] at e
   rw[List.getElem?_set_ne q]
   exact S.sl j s e
 ap:=fun j k r ds' c es c' e1 e2 e3 e4=>by
  have old:∀{m:Nat} {r:Addr} {es:List Cm.D} {c:Bool},i≠m→(ρ.set i (.own ds b))[m]? = some (.own es c)→(σ.set i (some (.ref p)))[m]? = some (some (.ref r))→H0 r≠none:=fun {m r es c} hm e1 e2=>by
   rw[List.getElem?_set_ne hm] at e1 e2
   obtain⟨o,z1,q,ys,z2,z3,_⟩:=S0.sl m _ e1
   rw[z1] at e2
   cases e2
   cases z2
   rw[z3];simp
  have here:∀{m:Nat} {r:Addr},i=m→m<σ.length→(σ.set i (some (.ref p)))[m]? = some (some (.ref r))→r=p:=fun {m r} hm hl e=>by
   subst hm
   rw[List.getElem?_set_self hl] at e
   cases e;rfl
  have lt:∀{m:Nat} {o:Option V},(σ.set i (some (.ref p)))[m]? = some o→m<σ.length:=fun {m o} e=>by
   rcases Nat.lt_or_ge m σ.length with z | z
   ·exact z
   ·rw[List.getElem?_eq_none (by simpa using z)] at e;cases e
  by_cases q:i=j
  ·by_cases q2:i=k
   ·omega
   ·have:=here q (lt e3) e3
    subst this
    exact absurd h0 (old q2 e2 e4)
  ·by_cases q2:i=k
   ·have:=here q2 (lt e4) e4
    subst this
    exact absurd h0 (old q e1 e3)
   ·rw[List.getElem?_set_ne q] at e1 e3
    rw[List.getElem?_set_ne q2] at e2 e4
    exact S.ap j k r ds' c es c' e1 e2 e3 e4
 ad:=S.ad.set rfl
 ar:=S.ar.setO fun j dss u _ e1 e2=>S0.newW hs h0 e1 e2
theorem qjH {i:Nat} {g:List Sl→RE ER} {D:Ends} {σ:L2.St} {H:Hp} (q:tS C (fun ρ=>(g ρ).out fun x=>match x with
  |.fre ds b=>.nx (ρ.set i (.own ds b))
  |.val .non _=>.nx (ρ.set i (.val .non true))
  |_=>.bad) D σ H):tAsg (tE C g) (gName i) D σ H:=by
 obtain⟨ρ,P,N,S,h⟩:=q
 refine⟨ρ,P,N,S,(h.res S.reg).mono fun x P1 N1 H1 _ a1 h1 v rv=>?_⟩
 cases x with
 |fre ds b =>
  obtain⟨p,xs,rfl,z1,z2,z3,z4,z5⟩:=rv
  exact h1 _ P1 N1 H1 (S.setO (S.adv a1) a1.hh z2 z1 z3 z4 z5) a1.pp a1.nn
 |val d b =>
  cases d with
  |non=>exact h1 _ P1 N1 H1 ((S.adv a1).setV rv) a1.pp a1.nn
  |_=>exact h1.elim
 |brw _ _=>exact h1.elim
theorem qcq {P N:Hp} {D:Ends} {ρ:List Sl} {i:Nat} {f:List Cm.D→Bool→Out} (h:outS C P N D (qbC ρ i f)):∃ds b,ρ[i]? = some (.own ds b)∧outS C P N D (f ds b):=by
 unfold qbC at h
 split at h
 ·rename_i ds b e
  exact⟨ds,b,e,h⟩
 ·exact h.elim
theorem SR.write {P N H:Hp} {ρ:List Sl} {σ:L2.St} (S:SR C P N H ρ σ) {i:Nat} {ds ds':List Cm.D} {b b':Bool} {p:Addr} {xs':List V} (e:ρ[i]? = some (.own ds b)) (eσ:σ[i]? = some (some (.ref p))) (h:RepsB C P N b' ds' xs'):SR C P N (upd H p (.lst xs')) (ρ.set i (.own ds' b')) σ:=by
 obtain⟨o,z1,q,xs,z2,z3,z4,z5,z6,z7⟩:=S.sl i _ e
 rw[z1] at eσ;cases eσ;cases z2
 have hi:i<ρ.length:=(List.getElem?_eq_some_iff.mp e).1
 refine⟨⟨qaQ S.reg.pH z4,qaQ S.reg.nH z5,qaQ S.reg.bH z6,S.reg.rB,S.reg.p0,S.reg.pn,S.reg.nw,S.reg.dj⟩,by simp[S.len],fun j s ej=>?_,fun j k r ds1 c es c' e1 e2 e3 e4=>?_,S.ad.setS rfl,(S.ar.own e).heap fun j dss r ej ej2=>upd_ne fun er=>?_⟩
 ·by_cases q:i=j
  ·subst q
   rw[List.getElem?_set_self hi] at ej
   cases ej
   exact⟨_,z1,p,xs',rfl,upd_same,z4,z5,z6,h⟩
  ·rw[List.getElem?_set_ne q] at ej
   obtain⟨o,y1,y2⟩:=S.sl j s ej
   refine⟨o,y1,?_⟩
   cases s with
   |non=>trivial
   |val d b=>exact y2
   |own es c =>
    obtain⟨r,ys,y3,y4,y5⟩:=y2
    have hr:r≠p:=fun er=>q (S.ap i j p ds b es c e ej z1 (by rw[y1,y3,er]))
    exact⟨r,ys,y3,by rw[upd_ne hr];exact y4,y5⟩
   |slf c fs =>
    obtain⟨r,dx,ys,y3,y4,y5⟩:=y2
    have hr:r≠p:=fun er=>by rw[er,z3] at y4;cases y4
    exact⟨r,dx,ys,y3,by rw[upd_ne hr];exact y4,y5⟩
   |fxd d k=>exact y2
   |dct m c =>
    obtain⟨r,es,y3,y4,y5⟩:=y2
    have hr:r≠p:=fun er=>by rw[er,z3] at y4;cases y4
    exact⟨r,es,y3,by rw[upd_ne hr];exact y4,y5⟩
   |row dss =>
    have far:∀a,Held H (.row dss) o a→a≠p:=fun a k er=>q (S.ar.un j i dss _ _ _ a ej e y1 z1 k (by rw[er];exact .own)).symm
    obtain⟨r,ps,rfl,y4,y5,y6,y7,y8,y9⟩:=y2
    refine⟨r,ps,rfl,by rw[upd_ne (far r .rt)];exact y4,y5,y6,y7,?_,y9⟩
    exact y8.sub fun a m ds ⟨xs,g1,g2⟩=>⟨xs,by rw[upd_ne (far a (.it y4 m))];exact g1,g2⟩
 ·have un:∀{m:Nat} {es:List Cm.D} {c:Bool},(ρ.set i (.own ds' b'))[m]? = some (.own es c)→∃es' c',ρ[m]? = some (.own es' c'):=fun {m es c} em=>by
   by_cases q:i=m
   ·subst q;exact⟨_,_,e⟩
   ·rw[List.getElem?_set_ne q] at em;exact⟨_,_,em⟩
  obtain⟨_,_,f1⟩:=un e1
  obtain⟨_,_,f2⟩:=un e2
  exact S.ap j k r _ _ _ _ f1 f2 e3 e4
 ·rcases qaj ej with⟨_,z⟩ | ⟨qn,z⟩
  ·cases z
  ·exact qn (S.ar.un j i dss _ _ _ p z e ej2 z1 (by rw[er];exact .rt) .own).symm
theorem SR.root {P N H:Hp} {ρ:List Sl} {σ:L2.St} (S:SR C P N H ρ σ) {i:Nat} {ds:List Cm.D} {b:Bool} (e:ρ[i]? = some (.own ds b)):∃p xs,σ[i]? = some (some (.ref p))∧H p=some (.lst xs)∧P p=none∧N p=none∧C.B p=none∧RepsB C P N b ds xs:=by
 obtain⟨o,z1,p,xs,rfl,z2⟩:=S.sl i _ e
 exact⟨p,xs,z1,z2⟩
theorem qkW {i:Nat} {g:List Sl→Out} {D:Ends} {σ:L2.St} {H:Hp} (q:tS C (fun ρ=>qbC ρ i fun ds b=>g (ρ.set i (.val (.lst ds) b))) D σ H):tS C g D σ H:=by
 obtain⟨ρ,P,N,S,h⟩:=q
 obtain⟨ds,b,e,o⟩:=qcq h
 obtain⟨p,xs,z1,z2,z3,z4,z5,z6⟩:=S.root e
 have hi:i<ρ.length:=(List.getElem?_eq_some_iff.mp e).1
 have sn:L2.Same N (upd N p (.lst xs)):=qau z4
 refine⟨ρ.set i (.val (.lst ds) b),P,upd N p (.lst xs),⟨⟨S.reg.pH,qgZ S.reg.nH z2,S.reg.bH,S.reg.rB,S.reg.p0,S.reg.pn,fun a ha=>?_,fun a ha=>?_⟩,by simp[S.len],fun j s ej=>?_,fun j k r ds1 c es c' e1 e2 e3 e4=>?_,S.ad.setS rfl,S.ar.setS rfl⟩,o.adv (L2.Same.refl _) sn⟩
 ·by_cases q:a=p
  ·rw[q];exact z5
  ·rw[upd_ne q] at ha;exact S.reg.nw a ha
 ·by_cases q:a=p
  ·rw[q];exact z3
  ·rw[upd_ne q] at ha;exact S.reg.dj a ha
 ·by_cases q:i=j
  ·subst q
   rw[List.getElem?_set_self hi] at ej
   cases ej
   exact⟨_,z1,_,rfl,p,xs,rfl,.inl upd_same,RepsB.adv (L2.Same.refl _) sn z6⟩
  ·rw[List.getElem?_set_ne q] at ej
   obtain⟨o,y1,y2⟩:=S.sl j s ej
   refine⟨o,y1,?_⟩
   cases s with
   |non=>trivial
   |val d b=>obtain⟨v,y3,y4⟩:=y2;exact⟨v,y3,RepB.adv (L2.Same.refl _) sn y4⟩
   |own es c =>
    obtain⟨r,ys,y3,y4,y5,y6,y7,y8⟩:=y2
    have hr:r≠p:=fun er=>q (S.ap i j p ds b es c e ej z1 (by rw[y1,y3,er]))
    exact⟨r,ys,y3,y4,y5,by rw[upd_ne hr];exact y6,y7,RepsB.adv (L2.Same.refl _) sn y8⟩
   |slf c fs =>
    obtain⟨r,dx,ys,y3,y4,y5,y6,y7,y8,y9⟩:=y2
    have hr:r≠p:=fun er=>by rw[er,z2] at y4;cases y4
    exact⟨r,dx,ys,y3,y4,y5,by rw[upd_ne hr];exact y6,y7,y8,RepsB.adv (L2.Same.refl _) sn y9⟩
   |fxd d k=>obtain⟨v,y3,y4,y5⟩:=y2;exact⟨v,y3,y4,RepB.adv (L2.Same.refl _) sn y5⟩
   |dct m c =>
    obtain⟨r,es,y3,y4,y5,y6,y7,y8⟩:=y2
    have hr:r≠p:=fun er=>by rw[er,z2] at y4;cases y4
    exact⟨r,es,y3,y4,y5,by rw[upd_ne hr];exact y6,y7,y8.adv (L2.Same.refl _) sn⟩
   |row dss =>
    have far:∀a,Held H (.row dss) o a→a≠p:=fun a k er=>q (S.ar.un j i dss _ _ _ a ej e y1 z1 k (by rw[er];exact .own)).symm
    obtain⟨r,ps,rfl,y4,y5,y6,y7,y8,y9⟩:=y2
    refine⟨r,ps,rfl,y4,y5,by rw[upd_ne (far r .rt)];exact y6,y7,?_,y9⟩
    exact y8.sub fun a m ds ⟨xs,g1,g2,g3,g4,g5,g6⟩=>⟨xs,g1,g2,by rw[upd_ne (far a (.it y4 m))];exact g3,g4,g5,RepsB.adv (L2.Same.refl _) sn g6⟩
 ·have un:∀{m:Nat} {es:List Cm.D} {c:Bool},(ρ.set i (.val (.lst ds) b))[m]? = some (.own es c)→ρ[m]? = some (.own es c):=fun {m es c} em=>by
   by_cases q:i=m
   ·subst q;rw[List.getElem?_set_self hi] at em;cases em
   ·rw[List.getElem?_set_ne q] at em;exact em
  exact S.ap j k r _ _ _ _ (un e1) (un e2) e3 e4
end
end Cm
namespace Cm
open PySem PySem.Spec PyProof.Rows L2
section
variable {C:Ctx} {X:Cx}
theorem qj3 {i:Nat} {g:List Sl→RE ER} {D:Ends} {σ:L2.St} {H:Hp} {K:PySem.W.Frag} (q:tS C (fun ρ=>qbC ρ i fun ds c=>(g ρ).out fun x=>held x fun d b=>gdO (leB (ds.length+1)) (.nx (ρ.set i (.own (ds++[d]) (b&&c))))) D σ H) :
  tDrop (tBM K "list" rAppend (tVar i) (tCons (tE C g) tNil)) D σ H:=by
 obtain⟨ρ,P,N,S,h⟩:=q
 obtain⟨ds,c,e,o⟩:=qcq h
 obtain⟨p,xs,z1,z2,z3,z4,z5,z6⟩:=S.root e
 refine⟨_,z1,.inl ⟨rfl,xs,.inl (.inl z2)⟩,ρ,P,N,S,(o.res S.reg).mono fun x P1 N1 H1 _ a1 h1 v rv=>?_⟩
 obtain⟨N2,d,b,a2,r2,o⟩:=rv.held a1 h1
 simp only[qaP,qai] at o
 split at o
 ·rename_i hl
  refine⟨p,xs,v,rfl,rfl,a1.hh _ _ z2,by rw[z6.length];exact hl,?_⟩
  exact o _ P1 N2 _ ((S.adv a2).write e z1 (Reps.append (RepsB.and2 (RepsB.adv a2.pp a2.nn z6)) (Reps.one (RepB.and1 r2)))) a2.pp a2.nn
 ·exact o.elim
theorem qkx {i:Nat} {D:Ends} {σ:L2.St} {H:Hp} {K:PySem.W.Frag} (q:tS C (fun ρ=>qbC ρ i fun _ _=>.nx (ρ.set i (.own [] true))) D σ H):tDrop (tBM0 K "list" rClear (tVar i)) D σ H:=by
 obtain⟨ρ,P,N,S,h⟩:=q
 obtain⟨ds,c,e,o⟩:=qcq h
 obtain⟨p,xs,z1,z2,z3,z4,z5,z6⟩:=S.root e
 exact⟨_,z1,.inl ⟨rfl,xs,.inl (.inl z2)⟩,p,xs,rfl,rfl,z2,o _ P N _ (S.write e z1 rfl) (L2.Same.refl _) (L2.Same.refl _)⟩
theorem qks {i:Nat} {g gi:List Sl→RE ER} {D:Ends} {σ:L2.St} {H:Hp} (q:tS C (fun ρ=>(g ρ).out fun x=>held x fun d b=>qbC ρ i fun ds c=>(gi ρ).out fun k=>match k.d with
  |.int k=>match ixN ds.length k with
   |some j=>.nx (ρ.set i (.own (ds.set j d) (b&&c)))
   |none=>.bad
  |_=>.bad) D σ H):tAsg (tE C g) (gSub (tVar i) (tE C gi) rSetL) D σ H:=by
 obtain⟨ρ,P,N,S,h⟩:=q
 refine⟨ρ,P,N,S,(h.res S.reg).mono fun x P1 N1 H1 _ a1 h1 v rv=>?_⟩
 obtain⟨N2,d,b,a2,r2,o⟩:=rv.held a1 h1
 have S2:=S.adv a2
 obtain⟨ds,c,e,o⟩:=qcq o
 obtain⟨p,xs,z1,z2,z3,z4,z5,z6⟩:=S2.root e
 refine⟨_,z1,ρ,P1,N2,S2,((o.adv a2.pp a2.nn).res S2.reg).mono fun k P3 N3 H3 _ a3 h3 u ru=>?_⟩
 have r3:=(S2.adv a3).reg
 split at h3
 ·rename_i k' ek
  have w:=ru.w r3
  rw[ek] at w
  cases w.int
  split at h3
  ·rename_i j ej
   refine⟨p,xs,k',j,rfl,rfl,a3.hh _ _ z2,by rw[z6.length];exact ej,?_⟩
   exact h3 _ P3 N3 _ ((S2.adv a3).write e z1 (Reps.set (RepB.and1 (RepB.adv a3.pp a3.nn r2)) j (RepsB.and2 (RepsB.adv a3.pp a3.nn z6)))) a3.pp a3.nn
  ·exact h3.elim
 ·exact h3.elim
theorem qjP {gi:List Sl→RE Wk} {tg:List Nat} {gb:List Sl→Out} {D:Ends} {σ:L2.St} {H:Hp} (q:tS C (fun ρ=>(gi ρ).out fun w=>if w.own=true then .bad else qb2 (fun x ρ=>onB (qbZ tg x w.b ρ) gb) w.xs ρ) D σ H):tFor (tI C gi) (tG C tg) (tS C gb) D σ H:=by
 obtain⟨ρ,P,N,S,h⟩:=q
 refine⟨ρ,P,N,S,(h.res S.reg).mono fun w P1 N1 H1 _ a1 h1 J wj=>?_⟩
 split at h1
 ·exact h1.elim
 rename_i how
 have how:w.own=false:=by simpa using how
 obtain⟨Gd,Y,wk,_,stay,item⟩:=wj
 generalize hf:(fun x ρ=>onB (qbZ tg x w.b ρ) gb)=f at h1
 have r1:=(S.adv a1).reg
 refine for_it wk (Pv:=fun i σ' H'=>∃ρ' P' N',SR C P' N' H' ρ' σ'∧L2.Same P1 P'∧L2.Same N1 N'∧outS C P1 N1 D (qb2 f (w.xs.drop i) ρ')) ?_ (fun i σ' H' hi p=>?_) (fun i x σ' H' H'' hi p y=>?_) (fun σ' H' p=>?_)
 ·exact⟨ρ,P1,N1,S.adv a1,L2.Same.refl _,L2.Same.refl _,by simpa using h1.adv a1.pp a1.nn⟩
 ·obtain⟨ρ',P',N',S',s1,s2,_⟩:=p
  exact stay how P' N' H' s1 s2 S'.reg
 ·obtain⟨ρ',P',N',S',s1,s2,o⟩:=p
  obtain⟨P3,a3,d,ed,rd⟩:=item i P' N' H' x H'' hi s1 s2 S'.reg y
  have hdrop:w.xs.drop i=d::w.xs.drop (i+1):=by
   obtain⟨hi',e⟩:=List.getElem?_eq_some_iff.mp ed
   rw[List.drop_eq_getElem_cons hi',e]
  rw[hdrop] at o
  have o2:outS C P1 N1 D (match f d ρ' with
   |.nx ρ'=>qb2 f (w.xs.drop (i+1)) ρ'
   |.cnt ρ'=>qb2 f (w.xs.drop (i+1)) ρ'
   |.brk ρ'=>.nx ρ'
   |o=>o):=o
  have ef:f d ρ'=onB (qbZ tg d w.b ρ') gb:=by rw[←hf]
  cases eb:qbZ tg d w.b ρ' with
  |none=>rw[ef,eb] at o2;exact o2.elim
  |some ρ2 =>
   rw[ef,eb,qhN] at o2
   refine⟨ρ',P3,N',d,w.b,ρ2,S'.adv a3,rd,eb,fun σ2 S2 _ _=>⟨ρ2,P3,N',S2,?_⟩⟩
   have t1:=s1.trans a3.pp
   cases e3:gb ρ2 with
   |bad=>simp only[e3] at o2;exact o2
   |nx ρ3=>simp only[e3] at o2;exact fun σ4 P4 N4 H4 S4 e1 e2=>⟨ρ3,P4,N4,S4,t1.trans e1,s2.trans e2,o2⟩
   |cnt ρ3=>simp only[e3] at o2;exact fun σ4 P4 N4 H4 S4 e1 e2=>⟨ρ3,P4,N4,S4,t1.trans e1,s2.trans e2,o2⟩
   |brk ρ3=>simp only[e3] at o2;exact fun σ4 P4 N4 H4 S4 e1 e2=>o2 σ4 P4 N4 H4 S4 (t1.trans e1) (s2.trans e2)
   |ret er=>simp only[e3] at o2;exact o2
   |exc c fs=>simp only[e3] at o2;exact o2
 ·obtain⟨ρ',P',N',S',s1,s2,o⟩:=p
  rw[List.drop_length] at o
  exact o σ' P' N' H' S' s1 s2
theorem qjz {gc:List Sl→RE Bool} {gb:List Sl→Out} {n:Nat} {D:Ends} {σ:L2.St} {H:Hp} (q:tS C (fun ρ=>qck gc gb n ρ) D σ H):tWhile (tT C gc) (tS C gb) D σ H:=by
 obtain⟨ρ,P,N,S,h⟩:=q
 refine⟨fun m σ' H'=>∃ρ' P' N',SR C P' N' H' ρ' σ'∧L2.Same P P'∧L2.Same N N'∧outS C P N D (qck gc gb m ρ'),⟨n,ρ,P,N,S,L2.Same.refl _,L2.Same.refl _,h⟩,fun m σ' H' p=>?_⟩
 obtain⟨ρ',P',N',S',s1,s2,o⟩:=p
 cases m with
 |zero=>exact o.elim
 |succ m =>
  have o2:outS C P N D ((gc ρ').out fun k=>if k=true then (match gb ρ' with
   |.nx ρ'=>qck gc gb m ρ'
   |.cnt ρ'=>qck gc gb m ρ'
   |.brk ρ'=>.nx ρ'
   |o=>o) else .nx ρ'):=o
  refine⟨ρ',P',N',S',((o2.adv s1 s2).res S'.reg).mono fun k P1 N1 H1 _ a1 h1=>?_⟩
  cases k with
  |false=>exact h1 σ' P1 N1 H1 (S'.adv a1) a1.pp a1.nn
  |true =>
   simp only[if_true] at h1 ⊢
   refine⟨fun σ' H'=>∃ρ' P' N',SR C P' N' H' ρ' σ'∧L2.Same P P'∧L2.Same N N'∧outS C P N D (qck gc gb m ρ'),fun σ2 H2 z=>⟨m,Nat.lt_succ_self m,z⟩,ρ',P1,N1,S'.adv a1,?_⟩
   have t1:=s1.trans a1.pp
   have t2:=s2.trans a1.nn
   have o3:gc ρ'=.ok true:=by assumption
   rw[o3] at o2
   simp only[RE.out_ok,if_true] at o2
   cases e3:gb ρ' with
   |bad=>simp only[e3] at o2;exact o2
   |nx ρ3=>simp only[e3] at o2;exact fun σ4 P4 N4 H4 S4 e1 e2=>⟨ρ3,P4,N4,S4,t1.trans e1,t2.trans e2,o2⟩
   |cnt ρ3=>simp only[e3] at o2;exact fun σ4 P4 N4 H4 S4 e1 e2=>⟨ρ3,P4,N4,S4,t1.trans e1,t2.trans e2,o2⟩
   |brk ρ3=>simp only[e3] at o2;exact fun σ4 P4 N4 H4 S4 e1 e2=>o2 σ4 P4 N4 H4 S4 (t1.trans e1) (t2.trans e2)
   |ret er=>simp only[e3] at o2;exact o2
   |exc c fs=>simp only[e3] at o2;exact o2
end
end Cm
namespace Cm
open PySem PySem.Spec PyProof.Rows L2
structure Tb where
 N:List Str
 fn:List (Str × Nat)
 gc:List Str
 mn:List (Str × Nat)
 fs:List Str
 nw:List (Str × Nat):=[]
 ck:List (Str × Bool):=[]
 xk:List Str:=[]
 dc:List Str:=[]
def qjd (sc:Scope) (x:Str):Bool:=match sc.names.lookup x with
 |some .local=>true
 |some .cell=>true
 |some .free=>true
 |_=>false
def glB (sc:Scope) (x:Str):Bool:=match sc.names.lookup x with
 |some .globalImplicit=>true
 |_=>false
def tgB (fc:Option Scope) (sc:Scope) (x:Str):Bool:=match sc.names.lookup x with
 |some .local=>true
 |some .cell=>(match fc with
  |none=>true
  |some so=>so.names.lookup x == some .cell)
 |_=>false
def nmB (x:Str):Bool:=!(x == ("__debug__" : Str)) && !(x == ("__classdict__" : Str))
def qae:Expr→Bool
 |.Starred _ _=>false
 |_=>true
def qcw:Expr→Bool
 |.Slice _ _ _ _=>false
 |_=>true
def qf5:Expr→Bool
 |.Call (.Name _ _) [] [] _=>false
 |_=>true
def qfc:Expr→Bool
 |.Set _ _ _=>false
 |_=>true
def qbu:Expr→Bool
 |.ListComp _ _ _ _=>false
 |.SetComp _ _ _ _=>false
 |.DictComp _ _ _ _ _=>false
 |_=>true
theorem qaa {e:Expr} {es:List Expr} {env:PySem.Env} (h:qae e=true):starEach (e::es) env=(false,eval e env)::starEach es env:=by
 cases e<;>first | rfl | cases h
theorem qcx {env:PySem.Env} {pos:Pos}:∀{es:List Expr},es.all qae=true→(backTo pos (starEach es env)).any (·.1)=false
 |[],_=>rfl
 |e::es,h=>by
  simp only[List.all_cons,Bool.and_eq_true] at h
  rw[qaa h.1]
  have:=qcx (env:=env) (pos:=pos) h.2
  unfold backTo at this ⊢
  simpa using this
theorem qdC {X:Cx} {es:List Expr} (h:es.all qae=true):qj4 X es:=⟨fun e r q=>by
 subst q
 simp only[List.all_cons,Bool.and_eq_true] at h
 exact qaa h.1,fun pos e r q=>by
 subst q
 simp only[List.all_cons,Bool.and_eq_true] at h
 exact qcx h.2⟩
theorem qcP {o:Expr} {m:Str} {env:PySem.Env} {w:Sem Value} (h:qf5 o=true):attributeBase o m env w=w:=by
 cases o with
 |Call f as ks p =>
  cases f with
  |Name x q =>
   cases as with
   |nil =>
    cases ks with
    |nil=>cases h
    |cons _ _=>rfl
   |cons _ _=>rfl
  |_=>rfl
 |_=>rfl
theorem qmI {e:Expr} {env:PySem.Env} (h:(match e with
  |.UnaryOp .Not _ _=>false
  |.BoolOp _ _ _=>false
  |.IfExp _ _ _ _=>false
  |.Compare _ _ _ _=>false
  |_=>true)=true):∀whole,isTrue e env whole=(do let v ←whole;standAt e.pos;holding [v] (truthy v)):=by
 cases e with
 |UnaryOp o a p=>cases o<;>first | (intro _;rfl) | cases h
 |BoolOp _ _ _=>cases h
 |IfExp _ _ _ _=>cases h
 |Compare _ _ _ _=>cases h
 |_=>intro _;rfl
theorem qcF {e:Expr} {t:Option Expr} {l:Nat} {env:PySem.Env} (h:qbu e=true):swapsWith e t l env=pure false:=by
 cases e<;>first | rfl | cases h
theorem qdL {e:Expr} {env:PySem.Env} (h:qfc e=true):∀x,foldedSetIterable e env x=pure x:=by
 cases e<;>first | (intro _;rfl) | cases h
theorem qn1 {e:Expr} (h:qcw e=true):PlainIx e:=by
 cases e<;>first | (intro _ _;rfl) | cases h
end Cm
set_option maxHeartbeats 1000000
namespace Cm
open PySem PySem.Spec PyProof.Rows L2
section
variable {C:Ctx} {X:Cx}
theorem qd8 {P N:Hp} {b c:Bool} {y:D} {u:V} (hy:RepB C P N b y u) (fy:y.fit 0=true):∀{ds:List D} {xs:List V} {j:Nat},RepsB C P N c ds xs→D.fits ds 0=true→idxD y ds=some j →
  ∃z,xs[j]? = some z∧eqV z u=true∧∀(m:Nat) (z':V),m<j→xs[m]? = some z'→eqV z' u=false
 |[],_,_,_,_,e=>by cases e
 |d::ds,xs,j,⟨v,r,ex,h1,h2⟩,f,e=>by
  subst ex
  simp only[D.fits,Bool.and_eq_true] at f
  have q:=qga h1 hy f.1 fy
  unfold idxD at e
  split at e
  ·rename_i t
   cases e
   exact⟨v,rfl,by rw[q];exact t,fun m _ hm _=>absurd hm (Nat.not_lt_zero m)⟩
  ·rename_i t
   cases k:idxD y ds with
   |none=>rw[k] at e;cases e
   |some i =>
    rw[k] at e
    cases e
    obtain⟨z,z1,z2,z3⟩:=qd8 hy fy h2 f.2 k
    refine⟨z,by simpa using z1,z2,fun m z' hm hz=>?_⟩
    cases m with
    |zero =>
     simp at hz
     subst hz
     rw[q]
     simpa using t
    |succ m=>exact z3 m z' (Nat.lt_of_succ_lt_succ hm) (by simpa using hz)
abbrev qmw (go g:List Sl→RE ER):List Sl→RE ER:=fun ρ=>(go ρ).bind fun x=>match x.d with
  |.lst xs=>(g ρ).bind fun y=>qdm xs y.d
  |_=>.bad
abbrev qmb (go g:List Sl→RE ER):List Sl→RE ER:=fun ρ=>(go ρ).bind fun x=>match x.d with
  |.str s=>(g ρ).bind fun y=>qfl s y.d
  |_=>.bad
theorem qiy {go g:List Sl→RE ER} {σ:L2.St} {H:Hp} {Q:VK} (h:tE C (qmw go g) σ H Q):tBM C.G.K "list" (rIndex C.G.K) (tE C go) (tCons (tE C g) tNil) σ H Q:=by
 obtain⟨ρ,P,N,S,h⟩:=h
 refine⟨ρ,P,N,S,h.bind.mono fun x P1 N1 H1 _ a1 h1 v rv=>?_⟩
 have r1:=(S.adv a1).reg
 split at h1
 ·rename_i ds hd
  have w:=rv.w r1
  rw[hd] at w
  obtain⟨p,xs,rfl,z1,z2⟩:=w
  refine⟨.inl ⟨rfl,xs,z1⟩,ρ,P1,N1,S.adv a1,(res.bind h1).mono fun y P2 N2 H2 _ a2 h2 u ru=>?_⟩
  have r2:=(S.adv (a1.trans a2)).reg
  unfold qdm at h2
  split at h2
  ·rename_i f
   simp only[Bool.and_eq_true] at f
   split at h2
   ·rename_i j e
    have wy:=ru.w r2
    have ry:RepB C P2 N2 y.b y.d u:=by
     cases q:y.d with
     |lst es=>rw[q] at f;have:=f.1;simp[D.fit] at this
     |_=>rw[q] at wy;exact wy
    have z3:=RepsB.adv a2.pp a2.nn z2
    obtain⟨z,y1,y2,y3⟩:=qd8 ry f.1 z3 f.2 e
    exact⟨p,xs,u,j,z,rfl,rfl,L2.Same.seq a2.hh z1,qcI (H:=H2) ry f.1,qb6 (H:=H2) z3 f.2,y1,y2,y3,h2.val r2 rfl⟩
   ·exact h2.elim
  ·exact h2.elim
 ·exact h1.elim
theorem qhY {o a:Expr} {go g:List Sl→RE ER} {apos pos:Pos} (hK:X.K=C.G.K) (ho:PE X o (tE C go)) (ha:PE X a (tE C g)) (hs:qae a=true) (hbase:attributeBase o "index" X.env (eval o X.env)=eval o X.env) (hline:(apos.endLine == pos.line)=true)
  (hf:((backTo pos (starEach [a] X.env)).all (fun x=>!x.1)&&(backToKw pos (keywordEach [] X.env)).all (fun x=>x.1.isSome)
   && decide ([a].length+([]:List Keyword).length+(if ([]:List Keyword).isEmpty then 0 else 1)<30))=true) :
  PE X (.Call (.Attribute o "index" apos) [a] [] pos) (tE C (qmw go g)):=
 qag (pe_bm PySem.F.plainAttrs_list PySem.F.slot_list_index PySem.F.type_list_index mt_index ho (pa_cons ha pa_nil (qaa hs)) hbase hf hline (qaa hs) rfl) fun σ H Q q=>by rw[hK];exact qiy q
theorem qir {go g:List Sl→RE ER} {σ:L2.St} {H:Hp} {Q:VK} (h:tE C (qmb go g) σ H Q):tM1 (fun x xs H Q=>∃a b i rest,x=.str a∧xs=[.str b]∧Builtin.Str.occurrences a b 0 a.length 1=i::rest∧Q (.int (i:Nat)) H) (tE C go) (tE C g) σ H Q:=by
 obtain⟨ρ,P,N,S,h⟩:=h
 refine⟨ρ,P,N,S,h.bind.mono fun x P1 N1 H1 _ a1 h1 v rv=>?_⟩
 have r1:=(S.adv a1).reg
 split at h1
 ·rename_i s q
  have w:=rv.w r1
  rw[q] at w
  cases w.str
  refine⟨⟨_,rfl⟩,ρ,P1,N1,S.adv a1,(res.bind h1).mono fun y P2 N2 H2 _ a2 h2 u ru=>?_⟩
  have r2:=(S.adv (a1.trans a2)).reg
  have w2:=ru.w r2
  unfold qfl at h2
  split at h2
  ·rename_i t q2
   rw[q2] at w2
   cases w2.str
   split at h2
   ·rename_i j rest e
    exact⟨qal s,qal t,j,rest,rfl,rfl,by rw[show(qal s).length=s.length from qaw s];exact e,h2.val r2 rfl⟩
   ·exact h2.elim
  ·exact h2.elim
 ·exact h1.elim
theorem qiE {o a:Expr} {go g:List Sl→RE ER} {apos pos:Pos} (ho:PE X o (tE C go)) (ha:PE X a (tE C g)) (hs:qae a=true) (hbase:attributeBase o "index" X.env (eval o X.env)=eval o X.env) (hline:(apos.endLine == pos.line)=true) :
  PE X (.Call (.Attribute o "index" apos) [a] [] pos) (tE C (qmb go g)):=
 qag (pe_m1 PySem.F.slot_str_index PySem.F.type_str_index mt_sindex ho ha (qaa hs) hbase hline) fun σ H Q q=>qir q
theorem ERr.heldF {P1 N1 H0 P N H:Hp} {er:ER} {v:V} {f:Cm.D→Out} {D:Ends} (a:Adv P1 N1 H0 P N H) (h:ERr C P N H H0 er v) (o:outS C P1 N1 D (heldF er f)):∃N2 d,Adv P1 N1 H0 P N2 H∧RepB C P N2 true d v∧outS C P1 N1 D (f d):=by
 cases er with
 |brw ds b=>exact o.elim
 |val d b =>
  simp only[Cm.heldF,qaP] at o
  split at o
  ·rename_i z
   exact⟨N,d,a,by have:=RepB.nf (C:=C) h;rw[z] at this;exact this,o⟩
  ·exact o.elim
 |fre ds b =>
  simp only[Cm.heldF,qaP] at o
  split at o
  ·rename_i z
   obtain⟨p,xs,rfl,h1,h2,h3,h4,h5⟩:=h
   have sn:L2.Same N (upd N p (.lst xs)):=qau h4
   refine⟨upd N p (.lst xs),.lst ds,a.holdN h2 h1 h4 h3,⟨p,xs,rfl,.inl upd_same,?_⟩,o⟩
   have h6:=RepsB.adv (C:=C) (L2.Same.refl P) sn h5
   cases b with
   |true=>exact h6
   |false=>exact Reps.flat _ _ (by simpa using z) h6
  ·exact o.elim
theorem qgl {P N H H0:Hp} (r:Reg C P N H):∀{es:List ER} {vs:List V},ERs C P N H H0 es vs→Reps C.G P (SqL C.G.K H) (es.map ER.d) vs
 |[],_,h=>by cases h;rfl
 |e::es,_,⟨v,u,ex,h1,h2⟩=>by
  subst ex
  refine⟨v,u,rfl,?_,qgl r h2⟩
  have w:=h1.w r
  have mm:=fun a xs=>LNb.seq (K:=C.G.K) (b:=e.b) r.pH r.nH r.rH a xs
  cases q:e.d with
  |lst ds =>
   rw[q] at w
   obtain⟨p,xs,rfl,h3,h4⟩:=w
   exact⟨p,xs,rfl,h3,Reps.mono (L2.Same.refl _) _ _ mm h4⟩
  |non=>rw[q] at w;exact Rep.mono (L2.Same.refl _) _ _ mm w
  |bl _=>rw[q] at w;exact Rep.mono (L2.Same.refl _) _ _ mm w
  |int _=>rw[q] at w;exact Rep.mono (L2.Same.refl _) _ _ mm w
  |str _=>rw[q] at w;exact Rep.mono (L2.Same.refl _) _ _ mm w
  |tup _=>rw[q] at w;exact Rep.mono (L2.Same.refl _) _ _ mm w
  |ins _ _=>rw[q] at w;exact Rep.mono (L2.Same.refl _) _ _ mm w
  |exc _ _=>rw[q] at w;exact Rep.mono (L2.Same.refl _) _ _ mm w
structure Mk0 (K:PySem.W.Frag) (c:Addr):Prop where
 makes:PySem.W.makesIn K c=true
 init:PySem.W.findIn K (.ref c) "__init__" = some (some (.builtin "object.__init__"))
 kp:PySem.W.keepIn K (.ref c)=true
structure NwOk (C:Ctx) (X:Cx) (x:Str) (c n:Nat) (g:List D→RE (List D)):Prop where
 ex:(∃k f fd ps,Mk X.K (C.G.ca c) f∧FnOk X.prog X.w X.K X.mg X.base (L2.CX X.prog X.w) k f fd ps (spI C.G c n g)∧Room (k+1) X.A∧X.mg x=some (.ref (C.G.ca c))∧Binds X.K fd ps []) ∨
  (n=0∧g []=.ok []∧Mk0 X.K (C.G.ca c)∧C.G.fl c=[]∧X.mg x=some (.ref (C.G.ca c)))
end
section
variable {prog:Program} {w:World} {A:Around} {E:Value→Shared→Prop} {s:Shared} {l:Addr} {its:List Value} {ns:List Int} {Q:Value→Shared→Prop} {d:Value}
end
def qo0 (k:Bool) (ns:List Int) (d m:Int):Prop:=(ns=[]∧m=d)∨(m∈ns∧∀y∈ns,if k=true then y≤m else m≤y)
def rMm (K:PySem.W.Frag) (k:Bool):List V→List V→Hp→VK→Prop:=fun vs zs H Q=>∃(a:Addr) (ns:List Int) (d:Int),vs=[V.ref a]∧zs=[V.int d]∧SqL K H a (ns.map V.int)∧∀m,qo0 k ns d m→Q (.int m) H
def mmN (k:Bool):String:=if k=true then "max" else "min"
section
variable {C:Ctx} {X:Cx}
abbrev gMm (k:Bool) (go g:List Sl→RE ER):List Sl→RE ER:=fun ρ=>(go ρ).bind fun x=>(g ρ).bind fun y=>qoP k x.d y.d
end
def qo6 (G:Glo) (K:PySem.W.Frag) (a:Addr) (s:List Nat) (o:Option Cm.D):Prop:=
 match o with
 |none=>PySem.W.nsIn K a (qal s)=some none
 |some d=>∃u v,PySem.W.nsIn K a (qal s)=some (some u)∧RelV v u∧∀P N R,Rep G P (LNb G.K P N R true) d v
def qmU (G:Glo) (K:PySem.W.Frag) (w:World) (mg:Str→Option Value) (x:Str) (t:List (List Nat × Option Cm.D)):Prop:=
 ∃a es n,mg x=some (.ref a)∧KDict K w a es n∧∀s o,t.lookup s=some o→qo6 G K a s o
section
variable {C:Ctx} {X:Cx}
end
end Cm
namespace Cm
open PySem PySem.Spec PyProof.Rows L2
def IsLI (h:Heap) (v:Value) (ns:List Int):Prop:=∃a its,v=.ref a∧h.IsList a its∧IntsAre its.toList ns
section
variable {prog:Program} {w:World} {A:Around} {s:Shared}
theorem qfF:∀{vs:List Value} {ns ms:List Int},IntsAre vs ns→IntsAre vs ms→ns=ms
 |_,_,_,.nil,h=>by cases h;rfl
 |_,_,_,.cons n t r,h=>by cases h with
  |cons _ _ r'=>rw[qfF r r']
theorem IsLI.inj {h:Heap} {v:Value} {ns ms:List Int} (h1:IsLI h v ns) (h2:IsLI h v ms):ns=ms:=by
 obtain⟨a,its,rfl,⟨o,ho,hc,n,hd⟩,hi⟩:=h1
 obtain⟨b,its2,e,⟨o2,ho2,hc2,n2,hd2⟩,hi2⟩:=h2
 cases e
 rw[ho] at ho2;cases ho2
 rw[hd] at hd2;cases hd2
 exact qfF hi hi2
open Classical in
noncomputable def qpP (h:Heap) (v:Value):List Int:=if q:∃ns,IsLI h v ns then q.choose else []
end
def qgW (K:PySem.W.Frag) (H:Hp):List V→List (List Int)→Prop
 |[],[]=>True
 |x::xs,n::ns=>(∃t,x=.ref t∧SqL K H t (n.map V.int))∧qgW K H xs ns
 |_,_=>False
def qlA (K:PySem.W.Frag):List V→Hp→VK→Prop:=fun vs H Q=>∃(a:Addr) (xs:List V) (ls:List (List Int)),vs=[V.ref a]∧SqL K H a xs∧qgW K H xs ls ∧
 ∀ys ms p,ys.length=ms.length→(ys.zip ms).Perm (xs.zip ls)→(ms.Pairwise fun x y=>qny y x=false)→H p=none→Q (.ref p) (upd H p (.lst ys))
section
variable {C:Ctx} {X:Cx}
end
end Cm
set_option maxHeartbeats 3200000
namespace Cm
open PySem PySem.Spec PyProof.Rows L2
def qpB (w:World):Obj:={ cls:=.type "set",dict:=none,data:=.set #[] 0 (.fresh 0 0 (!w.params.followText "set-order")) }
section
variable {P:Program} {w:World} {A:Around} {E:Value→Shared→Prop} {s:Shared}
abbrev Kp (h h':Heap):Prop:=∀b o,h.get? b=some o→h'.get? b=some o
end
section
variable {C:Ctx} {X:Cx}
end
end Cm
namespace Cm
open PySem PySem.Spec PyProof.Rows L2
section
variable {prog:Program} {w:World} {A:Around} {E:Value→Shared→Prop} {s:Shared} {R:Result→Shared→Prop}
end
section
variable {C:Ctx} {X:Cx}
end
end Cm
set_option maxHeartbeats 2000000
namespace Cm
open PySem PySem.Spec PyProof.Rows L2
def wK (K:PySem.W.Frag) (c:Value) (i j:Nat) (Wout:WX) (D:Ends):WX:=fun cls d σ H =>
 ∃b,PySem.W.exmOne K cls c=some b∧(b=true→d=none∧∀a,H a=none→D.nx ((σ.set j (some (.ref a))).set i none) (upd H a (exK cls a)))∧(b=false→Wout cls d σ H)
section
variable {X:Cx} {pins:List (Addr × Obj)} {σ:L2.St} {H:Hp} {s:Shared}
theorem qgJ {a:Addr} {oe:Obj} {o:HO} (I:Inv X ((a,oe)::pins) σ H s) (hn:H a=none) (h0:X.s_0.heap.get? a=none) (hp:∀p∈X.pn++pins,p.1≠a) (hc:∀x c,X.env.cells.lookup x=some c→c≠a) (new:ObjOk X.prog X.w (upd H a o) s.heap a o):Inv X pins σ (upd H a o) s where
 ok:=I.ok
 os:=I.os
 bare:=I.bare
 base:=by
  have b:=I.base
  refine⟨fun x o' e n hb hx=>b.keep x o' e n hb hx,fun x o' e n hb hx=>b.slot x o' e n hb hx,fun x o' e n hx=>?_,fun x o' e hx=>b.there x o' e hx,fun x xs q=>?_,fun x u xs q=>?_,fun x ps q=>?_⟩
  ·rw[upd_ne (fun z=>by rw[z,h0] at e;cases e)];exact b.free x o' e n hx
  ·have z:=b.tups x xs q;rw[upd_ne (ne_of_none z hn)];exact z
  ·have z:=b.frzs x u xs q;rw[upd_ne (ne_of_none z hn)];exact z
  ·obtain⟨m,z⟩:=b.tbls x ps q;exact⟨m,by rw[upd_ne (ne_of_none z hn)];exact z⟩
 loc:=I.loc
 cell:=I.cell
 free:=by
  have hL:X.env.locals≠a:=fun z=>by
   obtain⟨_,_,ne,_,_⟩:=I.pin (a,oe) (List.mem_append.mpr (.inr List.mem_cons_self))
   exact ne z.symm
  rw[upd_ne hL];exact I.free
 freeC:=fun x c e=>by rw[upd_ne (hc x c e)];exact I.freeC x c e
 pin:=fun p hp'=>by
  obtain⟨e,n,ne,nf,d⟩:=I.pin p (by
   rcases List.mem_append.mp hp' with z | z
   ·exact List.mem_append.mpr (.inl z)
   ·exact List.mem_append.mpr (.inr (List.mem_cons_of_mem _ z)))
  exact⟨e,by rw[upd_ne (hp p hp')];exact n,ne,nf,d⟩
 hok:=HOk.laidN (h:=s.heap) I.hok (fun _ _ q=>q) hn new
 len:=I.len
end
section
variable {X:Cx} {x n m:Str} {c:Value} {i j:Nat} {body:List Stmt} {np p1 p2 pa pos pos':Pos} {tb:WX→TS} {Wout:WX}
theorem qki (hs:X.stack=X.env::X.outer) (hf:X.env.frame=some X.env.locals) (hex:X.ex=[]) (hN:X.N.Nodup) (hi:X.N[i]? = some n) (hj:X.N[j]? = some m) (hln:X.env.kindOf n=some .local) (hlm:X.env.kindOf m=some .local) (hd:(n == ("__debug__" : Str))=false∧(n == ("__classdict__" : Str))=false)
  (hc:Names X x c) (tk:Takes X Wout) (hij:i≠j)
  (hb:∀(W:WX) (pn:List (Addr × Obj)) (xe:Value→Shared→Prop),Takes (X.tr pn xe) W→PassesOwn (model X.prog X.w) X.A X.env xe→PSs (X.tr pn xe) body (tb W)) :
  PS X (.Try body [.ExceptHandler (some (.Name x np)) (some n) [.Assign [.Name m p1] (.Name n p2) pa] pos'] [] [] pos) (fun D σ H=>tb (wK X.K c i j Wout D) D σ H):=by
 refine⟨fun pins s σ H D I h=>?_⟩
 have ok:=I.ok
 have hfr:X.A.frames=some (X.env::X.outer):=by rw[ok.frames,hs]
 have hloc:Loc X.env.scope n:=.inl hln
 refine wpAny_Try_except ?_
 refine wpAny_mono ((hb (wK X.K c i j Wout D) (X.pn++pins) (fun e s₁=>wpAny (model X.prog X.w) X.A (noteFrame e X.env) (fun _ s₂=>wpAny (model X.prog X.w) X.A (setFlight e none) (fun _ s₃ =>
  wpAny (model X.prog X.w) X.A (handleBy e X.env [.ExceptHandler (some (.Name x np)) (some n) [.Assign [.Name m p1] (.Name n p2) pa] pos']) (SP X pins D) X.xe s₃) X.xe s₂) X.xe s₁) (fun u s' xx=>?_) PassesOwn.looking).run [] s σ H D (I.toTry _) h) (fun f s1 hsp=>?_) (fun e s1 he=>he)
 ·-- the catch
  obtain⟨a,B,sI,pins',σ',H',cls,d,rfl,J',nb,up,sky,na,os,ag,b,hb1,hyes,hno⟩:=xx
  have J:Inv X pins σ' H' sI:=J'.ofTry ok
  have sky':Sky B (X.env::X.outer) a (Zc cls d) X.env.locals s'.heap:=by rw[←hs];exact sky
  show wpAny (model X.prog X.w) X.A (noteFrame (.ref a) X.env) _ _ _
  refine Sky.land Zc.steady hfr hf sky' fun h3 fl3 up3=>?_
  have J3:Inv X pins σ' H' { s' with heap:=h3 }:=J.landed nb fl3.1 (up.trans up3) os ag
  obtain⟨oe3,vs3,he3,hz3,hd3⟩:=fl3.there
  have notFr:∀{h:Heap} {o:Obj} {vs:Array Value},h.FunFrames B (X.env::X.outer)→h.get? a=some o→o.data=.fields vs→a∉frs (X.env::X.outer):=fun {h o vs} ff e dd hm=>by
   obtain⟨_,o',e',hnf⟩:=ff.mem hm
   rw[e] at e';cases e'
   exact hnf _ dd
  have nfr:=notFr fl3.2.2.1 he3 hd3
  have nL:a≠X.env.locals:=fun z=>nfr (List.mem_filterMap.mpr ⟨X.env,List.mem_cons_self,by rw[hf,z]⟩)
  have nF:a∉X.fs:=fun hm=>by
   obtain⟨e,he,q⟩:=List.mem_filterMap.mp hm
   exact nfr (List.mem_filterMap.mpr ⟨e,List.mem_cons_of_mem _ he,q⟩)
  -- it is new
  have nfr':a∉frs X.stack:=by rw[hs];exact nfr
  have aI:∀o,sI.heap.get? a≠some o:=fun o e=>by
   have z:=nb a o e nfr'
   rw[fl3.2.1] at z
   cases z
  have n0:X.s_0.heap.get? a=none:=by
   cases e:X.s_0.heap.get? a with
   |none=>rfl
   |some o =>
    obtain⟨o',e'⟩:=J.base.there a o e (by
     intro z
     first
      |exact nF z
      |(rw[hex] at z;cases z)
      |exact(List.mem_append.mp z).elim nF fun z=>by rw[hex] at z;cases z)
    exact absurd e' (aI o')
  have np':∀p∈X.pn++pins,p.1≠a:=fun p hp z=>by
   obtain⟨e,_⟩:=J.pin p hp
   rw[z] at e
   exact aI _ e
  have nc':∀x c,X.env.cells.lookup x=some c→c≠a:=fun x c e z=>by
   obtain⟨v,o,ho,_⟩:=J.cell x c e
   rw[z] at ho
   exact aI _ ho
  have S3:=J3.suite he3 hd3 na nL nF
  refine wpAny_handleBy_cons (codeAny_handlers_test ?_) (by intro q;cases q)
  have LT:PySem.W.Looks (model X.prog X.w) h3 (typeOf (.ref a)) cls:=fun A Q E s k q=>wpAny_typeOf_ref (k _ _ he3) (by rw[hz3.1];exact q)
  have LM:=PySem.W.exm_one (M:=model X.prog X.w) (J3.kIn) LT hb1
  have test:∀{Q:Value→Shared→Prop} {E:Value→Shared→Prop},Q c { s' with heap:=h3 }→wpAny (model X.prog X.w) (X.A.mark (some (.ref a))) (eval (.Name x np) X.env) Q E { s' with heap:=h3 }:=fun {Q E} q=>by
   obtain⟨hg,hdbg,hm | ⟨hm,hv,hnn⟩⟩:=hc
   ·exact ld_glob (X:=X.suite a ((a,oe3)::(X.pn++pins))) S3 hg hm q hdbg
   ·exact ld_blt (X:=X.suite a ((a,oe3)::(X.pn++pins))) S3 hg hm hv q hnn hdbg
  refine test (LM.here ?_)
  cases b with
  |true =>
   refine codeAny_handlers_suite_as ?_
   refine HandSPX.lands_againZ fl3 fun h4 fl4 up4=>?_
   have J4:Inv X pins σ' H' { s' with heap:=h4 }:=J.landed nb fl4.1 ((up.trans up3).trans up4) os ag
   obtain⟨oe4,vs4,he4,hz4,hd4⟩:=fl4.there
   have S4:=J4.suite he4 hd4 na nL nF
   refine store_ok (X:=X.suite a ((a,oe4)::(X.pn++pins))) (v:=.ref a) S4 hN hi hloc rfl (fun s5 S5=>?_) (.inr hln)
   have ts:PSs (X.suite a ((a,oe4)::(X.pn++pins))) [.Assign [.Name m p1] (.Name n p2) pa] _:=
    pss_cons (ps_set (X:=X.suite a ((a,oe4)::(X.pn++pins))) hN hj (.inl hlm) (pe_var (X:=X.suite a ((a,oe4)::(X.pn++pins))) hi (.inl hln) hd.1 hd.2) rfl (.inr hlm)) pss_nil
   have hil:i<σ'.length:=by
    rw[J.len]
    exact(List.getElem?_eq_some_iff.mp hi).1
   have hjl:j<σ'.length:=by
    rw[J.len]
    exact(List.getElem?_eq_some_iff.mp hj).1
   obtain⟨hdn,hy2⟩:=hyes rfl
   subst hdn
   refine wpAny_mono (ts.run [] s5 _ H' { nx:=fun σ6 H6=>σ6=(σ'.set i (some (.ref a))).set j (some (.ref a))∧H6=H',rt:=fun _ _=>False,bk:=fun _ _=>False,ct:=fun _ _=>False } S5 ?_) (fun f s6 hsp=>?_) (fun _ _ z=>False.elim z)
   ·exact⟨.ref a,by rw[List.getElem?_set_self hil],rfl,rfl⟩
   ·cases f with
    |next =>
     obtain⟨σ6,H6,S6,rfl,rfl⟩:=hsp
     have S6':Inv X ((a,oe4)::pins) ((σ'.set i (some (.ref a))).set j (some (.ref a))) H6 s6:=⟨ok,S6.os,S6.bare,S6.base,S6.loc,S6.cell,S6.free,S6.freeC,fun p hp=>S6.pin p (by
      rcases List.mem_append.mp hp with z | z
      ·exact List.mem_append.mpr (.inl (List.mem_cons_of_mem _ (List.mem_append.mpr (.inl z))))
      ·rcases List.mem_cons.mp z with z | z
       ·rw[z];exact List.mem_append.mpr (.inl List.mem_cons_self)
       ·exact List.mem_append.mpr (.inl (List.mem_cons_of_mem _ (List.mem_append.mpr (.inr z))))),S6.hok,S6.len⟩
     refine gone_ok S6' hN hi hln fun s7 J7=>?_
     obtain⟨e7,n7,_⟩:=J7.pin (a,oe4) (List.mem_append.mpr (.inr List.mem_cons_self))
     have J8:=qgJ (o:=exK cls a) J7 n7 n0 np' nc' (qlU e7 hz4 hd4)
     have es:((σ'.set i (some (V.ref a))).set j (some (.ref a))).set i none=(σ'.set j (some (.ref a))).set i none:=by
      rw[List.set_comm _ _ hij,List.set_set]
     rw[es] at J8
     exact⟨_,_,J8,hy2 a na⟩
    |brk=>obtain⟨_,_,_,z⟩:=hsp;exact z.elim
    |cont=>obtain⟨_,_,_,z⟩:=hsp;exact z.elim
    |ret u=>obtain⟨_,_,_,_,_,z⟩:=hsp;exact z.elim
  |false =>
   show wpAny _ X.A (handleBy (.ref a) X.env []) _ _ _
   refine wpAny_handleBy_nil ?_
   obtain⟨k1,k2,k3,oe,vs,T,oT,ts',he,hz,hd,h1,hr⟩:=id fl3
   unfold PySem.passOn
   refine wpAny_bind (wpAny_field he hd h1 ?_)
   rw[if_neg (show ¬((Value.ref T == Value.none)=true) from by simp)]
   have fin:wpAny (model X.prog X.w) X.A (setFlight (.ref a) X.env.frame) (fun _ s4=>wpAny (model X.prog X.w) X.A (throw (.ref a):Sem Flow) (SP X pins D) X.xe s4) X.xe { s' with heap:=h3 }:=by
    rw[hf]
    refine HandSPX.setFlight_upZ fl3 fun h4 hh4 up4=>wpAny_throw (tk _ _ ?_)
    exact⟨a,B,sI,pins,σ',H',cls,d,rfl,J,nb,(up.trans up3).trans up4,.inr (.inr (by rw[hs];exact hh4)),na,os,ag,hno rfl⟩
   first
    |exact wpAny_bind (wpAny_pure (wpAny_bind fin))
    |exact wpAny_bind fin
 ·cases f with
  |next =>
   obtain⟨σ',H',J',q⟩:=hsp
   exact wpAny_execs_nil ⟨σ',H',J'.ofTry ok,q⟩
  |brk =>
   obtain⟨σ',H',J',q⟩:=hsp
   exact⟨σ',H',J'.ofTry ok,q⟩
  |cont =>
   obtain⟨σ',H',J',q⟩:=hsp
   exact⟨σ',H',J'.ofTry ok,q⟩
  |ret u =>
   obtain⟨v,σ',H',J',r,q⟩:=hsp
   exact⟨v,σ',H',J'.ofTry ok,r,q⟩
end
def qnI (K:PySem.W.Frag):List V→Hp→VK→Prop:=fun xs H Q=>rIsi K xs H Q∨∃(a D:Addr) (c:V) (u:Value) (b:Bool),xs=[.ref a,c]∧ClsV c u∧H a=some (exK (.ref D) a)∧ExcC K D∧PySem.W.kitOne K (.ref D) u=some b∧Q (.bl b) H
theorem qhT {X:Cx}:CallR X (.builtin "isinstance") (qnI X.K):=by
 intro pins s σ H xs us Q I r h
 rcases h with h | ⟨a,D,c,u,b,rfl,k,ha,C,e,q⟩
 ·exact call_isi pins s σ H xs us Q I r h
 ·cases r with
  |cons rx rr =>
   cases rr with
   |cons rt rr =>
    cases rr
    cases rx
    have ec:=k.eq rt
    subst ec
    obtain⟨⟨oe,vs,ho,hz,hd⟩,_,_⟩:=I.hok a _ ha
    have J:PySem.W.InstAt s.heap a oe D none:=by
     obtain⟨oc,od,oda,osl⟩:=oe
     obtain⟨h1,h2⟩:=hz
     dsimp only at h1 h2 hd
     subst h1 h2 hd
     exact⟨ho,rfl,rfl,trivial⟩
    exact PySem.W.kia_one (PySem.W.handS_kitx_exc C.hg C.hk C.hs C.hd C.ha C.hn C.ht C.hm) I.kIn J e (fun z=>nomatch z) fun tk=>⟨.bl b,H,I.kept (t':=tk) fun _ _ z=>z,rfl,q⟩
structure InsC (K:PySem.W.Frag) (D:Addr):Prop where
 cl:Cls K D
 ha:PySem.W.findIn K (.ref D) "__class__" = some (some (.builtin "object.__class__"))
 hn:PySem.W.specialIn K (.builtin "object.__class__") "__get__" = some (some (.builtin "getset_descriptor.__get__"))
 ht:PySem.W.takesIn K (.builtin "object.__class__")=some true
 hm:PySem.W.mroIn K D (.type "object")=some true
def NmC (mg:Str→Option Value) (x:Str) (own:Bool) (v:V) (u:Value):Prop:=ClsV v u∧(match own with
 |true=>mg x=some u
 |false=>x=("ValueError" : Str)∧u=.type "ValueError")
theorem qfp {v:V} {u:Value} (k:ClsV v u):RelV v u:=by cases k<;>rfl
theorem qgF:bootBuiltins "ValueError" = some (.type "ValueError"):=by decide +kernel
structure RsOk (K:PySem.W.Frag) (mg:Str→Option Value) (D:Addr) (x:Str):Prop where
 mg:mg x=some (.ref D)
 exc:PySem.W.excIn K D He.veBase "ValueError.__new__" = true
 keep:PySem.W.keepIn K (.ref D)=true
 sub:PySem.W.subIn K (.ref D) (.type "BaseException")=some true
 ty:PySem.W.typeIn K (.ref D)=some (.type "type")
structure CkOk (G:Glo) (K:PySem.W.Frag) (mg:Str→Option Value) (x:Str) (own:Bool) (ck ik:Option (Nat→Option Bool)):Prop where
 ex:∃v u,NmC mg x own v u∧(∀g,ck=some g→∀c b,g c=some b→PySem.W.kitOne K (.ref (G.ca c)) u=some b∧PySem.W.exmOne K (.ref (G.ca c)) u=some b∧ExcC K (G.ca c)) ∧
  (∀g,ik=some g→∀c b,g c=some b→PySem.W.kitOne K (.ref (G.ca c)) u=some b∧InsC K (G.ca c))
section
variable {C:Ctx} {X:Cx} {x:Str} {own:Bool} {v:V} {u:Value} {p p2 pos:Pos}
theorem ql6 (hg:Gl X x) (hm:X.mg "ValueError" = none) (hd:(x == ("__debug__" : Str))=false) (h:NmC X.mg x own v u):PE X (.Name x p) (tC v):=by
 obtain⟨k,h⟩:=h
 cases own with
 |true=>exact pe_glob hg h (qfp k) hd
 |false =>
  obtain⟨rfl,rfl⟩:=h
  exact pe_bltn hg hm qgF (qfp k) (by decide) hd
theorem qf3 (hg:Gl X x) (hm:X.mg "ValueError" = none) (hd:(x == ("__debug__" : Str))=false) (h:NmC X.mg x own v u):Names X x u:=by
 obtain⟨k,h⟩:=h
 cases own with
 |true=>exact⟨hg,hd,.inl h⟩
 |false =>
  obtain⟨rfl,rfl⟩:=h
  exact⟨hg,hd,.inr ⟨hm,qgF,by decide⟩⟩
theorem qkM {g:List Sl→RE ER} {ck ik:Option (Nat→Option Bool)} {σ:L2.St} {H:Hp} {Q:VK} (k:ClsV v u) (h1:∀g,ck=some g→∀c b,g c=some b→PySem.W.kitOne C.G.K (.ref (C.G.ca c)) u=some b∧PySem.W.exmOne C.G.K (.ref (C.G.ca c)) u=some b∧ExcC C.G.K (C.G.ca c))
  (h2:∀g,ik=some g→∀c b,g c=some b→PySem.W.kitOne C.G.K (.ref (C.G.ca c)) u=some b∧InsC C.G.K (C.G.ca c))
  (h:tE C (fun ρ=>(g ρ).bind fun x=>qhP ck ik x.d) σ H Q):tCB (qnI C.G.K) (tCons (tE C g) (tCons (tC v) tNil)) σ H Q:=by
 obtain⟨ρ,P,N,S,h⟩:=h
 refine⟨ρ,P,N,S,h.bind.mono fun x P1 N1 H1 e1 a1 h3 w rv=>?_⟩
 have r1:=(S.adv a1).reg
 have rw':=rv.w r1
 show qnI C.G.K [w,v] H1 Q
 unfold qhP at h3
 split at h3
 ·rename_i c fs q
  rw[q] at rw'
  split at h3
  ·split at h3
   ·rename_i g'
    split at h3
    ·rename_i b e
     obtain⟨_,a,rfl,z⟩:=rw'
     obtain⟨z1,z2,z3⟩:=h1 _ rfl _ _ e
     exact .inr ⟨a,_,v,u,b,rfl,k,r1.pH _ _ z,z3,z1,h3.val r1 rfl⟩
    ·exact h3.elim
   ·exact h3.elim
  ·exact h3.elim
 ·rename_i c fs q
  rw[q] at rw'
  split at h3
  ·split at h3
   ·rename_i b e
    obtain⟨a,dx,xs,rfl,z,_⟩:=rw'
    obtain⟨z1,z2⟩:=h2 _ rfl _ _ e
    exact .inl ⟨_,v,_,u,b,rfl,k,.base (.ins (r1.pH _ _ z) z2.cl z2.ha z2.hn z2.ht z2.hm),z1,h3.val r1 rfl⟩
   ·exact h3.elim
  ·exact h3.elim
 ·exact h3.elim
theorem qk7 {a:Expr} {g:List Sl→RE ER} {ck ik:Option (Nat→Option Bool)} (hK:X.K=C.G.K) (hg:Gl X "isinstance") (hm:X.mg "isinstance" = none) (hv:X.mg "ValueError" = none) (hg2:Gl X x) (hd:(x == ("__debug__" : Str))=false) (ok:CkOk C.G X.K X.mg x own ck ik) (h:PE X a (tE C g))
  (hs:starEach [a,.Name x p2] X.env=(false,eval a X.env)::starEach [.Name x p2] X.env) (hpl:(backTo pos (starEach [.Name x p2] X.env)).any (·.1)=false):PE X (.Call (.Name "isinstance" p) [a,.Name x p2] [] pos) (tE C fun ρ=>(g ρ).bind fun x=>qhP ck ik x.d):=by
 obtain⟨v,u,z,h1,h2⟩:=ok
 rw[hK] at h1 h2
 exact qag (qdN qhT qfA (.inl ⟨_,rfl⟩) hg hm (pa_cons h (pa_cons (ql6 hg2 hv hd z) pa_nil) hs) (by decide) (by decide) hs hpl) fun σ H Q q=>by rw[hK];exact qkM z.1 h1 h2 q
abbrev qpT (go g:List Sl→RE ER):List Sl→RE ER:=fun ρ=>(go ρ).bind fun x=>match x.d with
  |.lst xs=>(g ρ).bind fun y=>qna xs y.d
  |_=>.bad
theorem qkf {c:Nat} {m:Str} {j:Nat} {pos':Pos} (hK:X.K=C.G.K) (hc:X.calm=true) (tk:Takes X C.W) (hg:Gl X x) (hd:(x == ("__debug__" : Str))=false) (h:RsOk X.K X.mg (C.G.ca c) x) :
  PS X (.Raise (some (.Call (.Name x p) [.Constant (.str m) j p2] [] pos)) none pos') (tS C fun _=>.exc c []):=
 qah (ps_raise hc tk (pmk_own PySem.F.excBase_ValueError h.exc h.mg h.keep (raises_own h.sub h.ty) hg hd)) fun D σ H q=>by
  obtain⟨ρ,P,N,S,h⟩:=q
  exact h σ none P N H S.reg (.inl ⟨rfl,rfl⟩)
end
def tR (C:Ctx) (g:List Sl→RE (List Sl)):TS:=fun D σ H=>∃ρ P N,SR C P N H ρ σ∧res C σ P N H (g ρ) fun ρ' _ _ H'=>∀σ' P2 N2,Same P P2→Same N N2→SR C P2 N2 H' ρ' σ'→D.nx σ' H'
section
variable {C:Ctx} {X:Cx}
theorem SR.wish {W:WX} {P N H:Hp} {ρ:List Sl} {σ:L2.St} (S:SR C P N H ρ σ):SR { C with W:=W } P N H ρ σ:=
 ⟨⟨S.reg.pH,S.reg.nH,S.reg.bH,S.reg.rB,S.reg.p0,S.reg.pn,S.reg.nw,S.reg.dj⟩,S.len,fun i s e=>by
  obtain⟨o,h1,h2⟩:=S.sl i s e
  exact⟨o,h1,by cases s<;>exact h2⟩,S.ap,S.ad,S.ar⟩
theorem SR.unwish {W:WX} {P N H:Hp} {ρ:List Sl} {σ:L2.St} (S:SR { C with W:=W } P N H ρ σ):SR C P N H ρ σ:=
 ⟨⟨S.reg.pH,S.reg.nH,S.reg.bH,S.reg.rB,S.reg.p0,S.reg.pn,S.reg.nw,S.reg.dj⟩,S.len,fun i s e=>by
  obtain⟨o,h1,h2⟩:=S.sl i s e
  exact⟨o,h1,by cases s<;>exact h2⟩,S.ap,S.ad,S.ar⟩
theorem SR.setN {P N H:Hp} {ρ:List Sl} {σ:L2.St} (S:SR C P N H ρ σ) (i:Nat) (o:Option V):SR C P N H (ρ.set i .non) (σ.set i o) where
 reg:=S.reg
 len:=by simp[S.len]
 sl:=fun j s e=>by
  by_cases q:i=j
  ·subst q
   have hi:i<ρ.length:=by
    rcases Nat.lt_or_ge i ρ.length with z | z
    ·exact z
    ·rw[List.getElem?_eq_none (by simpa using z)] at e;cases e
   rw[List.getElem?_set_self hi] at e
   cases e
   exact⟨_,List.getElem?_set_self (by rw[S.len];exact hi),trivial⟩
  ·rw[List.getElem?_set_ne q] at e
   rw[List.getElem?_set_ne q]
   exact S.sl j s e
 ap:=fun j k p ds b es c e1 e2 e3 e4=>by
  have nj:i≠j:=fun z=>by
   subst z
   rw[List.getElem?_set] at e1
   split at e1
   ·split at e1<;>cases e1
   ·rename_i z;exact z rfl
  have nk:i≠k:=fun z=>by
   subst z
   rw[List.getElem?_set] at e2
   split at e2
   ·split at e2<;>cases e2
   ·rename_i z;exact z rfl
  rw[List.getElem?_set_ne nj] at e1 e3
  rw[List.getElem?_set_ne nk] at e2 e4
  exact S.ap j k p ds b es c e1 e2 e3 e4
 ad:=S.ad.set rfl
 ar:=S.ar.set rfl
theorem qkC {i j:Nat} {g:List Sl→RE (List Sl)} {ck ik:Option (Nat→Option Bool)} {x n m:Str} {own:Bool} {body:List Stmt} {np p1 p2 pa pos pos':Pos} (hK:X.K=C.G.K) (hs:X.stack=X.env::X.outer) (hf:X.env.frame=some X.env.locals) (hex:X.ex=[]) (hN:X.N.Nodup) (hi:X.N[i]? = some n) (hj:X.N[j]? = some m) (hln:X.env.kindOf n=some .local) (hlm:X.env.kindOf m=some .local) (hd:(n == ("__debug__" : Str))=false∧(n == ("__classdict__" : Str))=false)
  (hg:Gl X x) (hv:X.mg "ValueError" = none) (hdx:(x == ("__debug__" : Str))=false) (ok:CkOk C.G X.K X.mg x own ck ik) (tk:Takes X C.W) (hij:i≠j)
  (hb:∀(W:WX) (pn:List (Addr × Obj)) (xe:Value→Shared→Prop),Takes (X.tr pn xe) W→PassesOwn (model X.prog X.w) X.A X.env xe→PSs (X.tr pn xe) body (tR { C with W:=W } g)) :
  PS X (.Try body [.ExceptHandler (some (.Name x np)) (some n) [.Assign [.Name m p1] (.Name n p2) pa] pos'] [] [] pos) (tS C fun ρ=>trX ck i j ρ (g ρ)):=by
 obtain⟨v,u,z,h1,_⟩:=ok
 refine qah (qki (tb:=fun W=>tR { C with W:=W } g) hs hf hex hN hi hj hln hlm hd (qf3 hg hv hdx z) tk hij hb) fun D σ H q=>?_
 obtain⟨ρ,P,N,S,h⟩:=q
 have h:outS C P N D (trX ck i j ρ (g ρ)):=h
 refine⟨ρ,P,N,S.wish,?_⟩
 cases e:g ρ with
 |bad=>rw[e] at h;exact h.elim
 |ok ρ' =>
  rw[e] at h
  intro P' N' H' a σ' P2 N2 e1 e2 S2
  exact h σ' P2 N2 H' S2.unwish e1 e2
 |exc c fs =>
  rw[e] at h
  intro d P' N' H' a x'
  have a':Adv P N H P' N' H':=a
  have S1:=S.adv a'
  show ∃b,PySem.W.exmOne X.K (.ref (C.G.ca c)) u=some b∧_
  unfold trX at h
  simp only at h
  split at h
  ·rename_i g'
   split at h
   ·rename_i ec
    obtain⟨_,z2,_⟩:=h1 _ rfl _ _ ec
    rw[if_neg hij] at h
    split at h
    ·refine⟨true,z2,fun _=>?_,fun z=>(by cases z)⟩
     rcases x' with⟨_,rfl⟩ | ⟨dd,f,v',e1,_⟩
     ·refine⟨rfl,fun ad na=>?_⟩
      have a2:Adv P N H (upd P' ad (exK (.ref (C.G.ca c)) ad)) N' (upd H' ad (exK (.ref (C.G.ca c)) ad)):=a'.newP na
      have S2:=S.adv a2
      exact h _ _ _ _ ((S2.setV (i:=j) (d:=.exc c []) (b:=true) (v:=.ref ad) ⟨rfl,ad,rfl,upd_same⟩).setN i none) a2.pp a2.nn
     ·cases e1
    ·exact h.elim
   ·rename_i ec
    obtain⟨_,z2,_⟩:=h1 _ rfl _ _ ec
    refine⟨false,z2,fun z=>(by cases z),fun _=>?_⟩
    exact h σ d P' N' H' S1.reg (by
     rcases x' with z | ⟨dd,f,v',e1,e2,e3,e4⟩
     ·exact .inl z
     ·exact .inr ⟨dd,f,v',e1,e2,e3,e4⟩)
   ·exact h.elim
  ·exact h.elim
end
end Cm
namespace Cm
open PySem PySem.Spec PyProof.Rows L2
inductive ClsVs:List V→List Value→Prop where
 |nil:ClsVs [] []
 |cons {v:V} {u:Value} {vs:List V} {us:List Value}:ClsV v u→ClsVs vs us→ClsVs (v::vs) (u::us)
theorem ClsVs.eq {vs:List V} {us its:List Value} (h:ClsVs vs us) (r:Vals vs its):its=us:=by
 induction h generalizing its with
 |nil=>cases r;rfl
 |cons k _ ih =>
  cases r with
  |cons rx rr=>rw[k.eq rx,ih rr]
def tVs (vs:List V):TA:=fun _ H Q=>Q vs H
section
variable {C:Ctx} {X:Cx}
end
end Cm
namespace Cm
open PySem PySem.Spec PyProof.Rows L2
section
variable {R:Cm.D→V→Prop}
theorem DctR.fnd:∀{m:List (Int × Cm.D)} {es:List (Key × V)} {k:Int},DctR R m es→match qbL k m with
  |some d=>∃v,valV es (.inl k)=some v∧R d v
  |none=>valV es (.inl k)=none
 |[],_,_,h=>by cases h;rfl
 |e::m,_,k,⟨v,r,he,h1,h2⟩=>by
  subst he
  unfold qbL
  by_cases q:e.1=k
  ·rw[if_pos q]
   exact⟨v,valV_pos (by rw[←q]),h1⟩
  ·rw[if_neg q,valV_neg (fun z=>q (Sum.inl.inj z))]
   exact DctR.fnd h2
theorem DctR.some {m:List (Int × Cm.D)} {es:List (Key × V)} (h:DctR R m es) {k:Int} {d:Cm.D} (e:qbL k m=some d):∃v,valV es (.inl k)=some v∧R d v:=by
 have:=h.fnd (k:=k)
 rw[e] at this;exact this
theorem DctR.has {m:List (Int × Cm.D)} {es:List (Key × V)} (h:DctR R m es) (k:Int):(valV es (.inl k)).isSome=(qbL k m).isSome:=by
 have:=h.fnd (k:=k)
 cases e:qbL k m with
 |none=>rw[e] at this;rw[this];rfl
 |some d=>rw[e] at this;obtain⟨v,q,_⟩:=this;rw[q];rfl
theorem DctR.len:∀{m:List (Int × Cm.D)} {es:List (Key × V)},DctR R m es→es.length=m.length
 |[],_,h=>by cases h;rfl
 |e::m,_,⟨v,r,he,h1,h2⟩=>by subst he;simp[DctR.len h2]
theorem DctR.set {k:Int} {d:Cm.D} {v:V} (hr:R d v):∀{m:List (Int × Cm.D)} {es:List (Key × V)},DctR R m es→DctR R (qlk k d m) (es.map fun kv=>if kv.1=.inl k then (kv.1,v) else kv)
 |[],_,h=>by cases h;rfl
 |e::m,_,⟨w,r,he,h1,h2⟩=>by
  subst he
  have ih:=DctR.set (k:=k) hr h2
  unfold qlk at ih ⊢
  rw[List.map_cons,List.map_cons]
  by_cases q:e.1=k
  ·rw[if_pos q,if_pos (by show Sum.inl e.1=Sum.inl k;rw[q])]
   exact⟨v,_,rfl,hr,ih⟩
  ·rw[if_neg q,if_neg (fun z=>q (Sum.inl.inj z))]
   exact⟨w,_,rfl,h1,ih⟩
theorem DctR.snoc {k:Int} {d:Cm.D} {v:V} (hr:R d v):∀{m:List (Int × Cm.D)} {es:List (Key × V)},DctR R m es→DctR R (m++[(k,d)]) (es++[(.inl k,v)])
 |[],_,h=>by cases h;exact⟨v,[],rfl,hr,rfl⟩
 |e::m,_,⟨w,r,he,h1,h2⟩=>by subst he;exact⟨w,_,rfl,h1,DctR.snoc hr h2⟩
theorem DctR.put {m:List (Int × Cm.D)} {es:List (Key × V)} (h:DctR R m es) {k:Int} {d:Cm.D} {v:V} (hr:R d v):DctR R (qhF k d m) (putK es (.inl k) v):=by
 unfold qhF putK
 rw[valV_any,h.has]
 split
 ·exact h.set hr
 ·exact h.snoc hr
end
section
variable {C:Ctx} {X:Cx} {P N H:Hp} {ρ:List Sl} {σ:L2.St}
end
end Cm
namespace Cm
open PySem PySem.Spec PyProof.Rows L2
section
variable {C:Ctx} {X:Cx} {P N H:Hp} {ρ:List Sl} {σ:L2.St}
noncomputable def NW (H:Hp) (ρ:List Sl) (σ:L2.St) (N:Hp):Hp:=fun a=>@ite _ (∃(j:Nat) (dss:List (List Cm.D)) (u:Option V),ρ[j]? = some (.row dss)∧σ[j]? = some u∧Held H (.row dss) u a) (Classical.propDecidable _) (H a) (N a)
noncomputable def NB (H:Hp) (ρ:List Sl) (σ:L2.St) (N2:Hp):Hp:=fun a=>@ite _ (∃(j:Nat) (dss:List (List Cm.D)) (u:Option V),ρ[j]? = some (.row dss)∧σ[j]? = some u∧Held H (.row dss) u a) (Classical.propDecidable _) none (N2 a)
theorem ExR.flat {P2 N2 N3 H2:Hp} {fs:List Cm.D} {d:Option Addr} (f:D.flats fs=true) (h:ExR C P2 N2 H2 fs d):ExR C P2 N3 H2 fs d:=by
 rcases h with h | ⟨dd,g,v,e1,e2,e3,e4⟩
 ·exact .inl h
 ·subst e1
  simp only[D.flats,Bool.and_true] at f
  exact .inr ⟨dd,g,v,rfl,e2,e3,Rep.flat g v f e4⟩
def FrR (C:Ctx) (P N H H0:Hp) (dss:List (List Cm.D)) (ps:List Addr):Prop:=RowR (fun a ds=>∃xs,H a=some (.lst xs)∧H0 a=none∧P a=none∧N a=none∧D.flats ds=true∧RepsB C P N true ds xs) dss ps∧ps.Nodup
def tF (C:Ctx) (g:List Sl→RE (List (List Cm.D))):TA:=fun σ H Q=>∃ρ P N,SR C P N H ρ σ∧res C σ P N H (g ρ) fun dss P' N' H'=>∀ps,FrR C P' N' H' H dss ps→Q (ps.map V.ref) H'
theorem qk0:PA X [] (tF C fun _=>.ok []):=qb0 pa_nil fun σ H Q q=>by
 obtain⟨ρ,P,N,S,h⟩:=q
 exact h.now S.reg [] ⟨rfl,List.nodup_nil⟩
theorem qh6 {e:Expr} {es:List Expr} {ge:List Sl→RE ER} {g:List Sl→RE (List (List Cm.D))} (he:PE X e (tE C ge)) (hr:PA X es (tF C g)) (hs:starEach (e::es) X.env=(false,eval e X.env)::starEach es X.env) :
  PA X (e::es) (tF C fun ρ=>(ge ρ).bind fun x=>match x with
  |.fre ds _=>if D.flats ds=true then (g ρ).bind fun r=>.ok (ds::r) else .bad
  |_=>.bad):=qb0 (pa_cons he hr hs) fun σ H Q q=>by
 obtain⟨ρ,P,N,S,h⟩:=q
 refine⟨ρ,P,N,S,h.bind.mono fun x P1 N1 H1 _ a1 h1 v rv=>?_⟩
 have S1:=S.adv a1
 cases x with
 |val _ _=>exact h1.elim
 |brw _ _=>exact h1.elim
 |fre ds b =>
  simp only at h1
  split at h1
  case isFalse=>exact h1.elim
  rename_i f
  obtain⟨p,xs,rfl,y1,y2,y3,y4,y5⟩:=rv
  refine⟨ρ,P1,N1,S1,h1.bind.mono fun r P2 N2 H2 _ a2 h2 ps fr=>?_⟩
  obtain⟨k1,k2⟩:=fr
  refine h2.now (S1.adv a2).reg (p::ps) ⟨⟨p,ps,rfl,⟨xs,a2.hh _ _ y1,y2,a2.off y1 y3,a2.offN y1 y4,f,RepsB.adv a2.pp a2.nn (Reps.flat ds xs f y5)⟩,?_⟩,?_⟩
  ·exact k1.mono fun a ds ⟨xs,g1,g2,g3⟩=>⟨xs,g1,a1.hh.free g2,g3⟩
  ·rw[List.nodup_cons]
   refine⟨fun m=>?_,k2⟩
   obtain⟨ds,xs,g1,g2,_⟩:=k1.all p m
   rw[y1] at g2;cases g2
theorem AR.setW {i:Nat} {dss:List (List Cm.D)} {p:Addr} (h:AR H ρ σ) (k:∀(j:Nat) (t:Sl) (u:Option V) (a:Addr),i≠j→ρ[j]? = some t→σ[j]? = some u→Held H t u a→¬Held H (.row dss) (some (.ref p)) a):AR H (ρ.set i (.row dss)) (σ.set i (some (.ref p))):=⟨fun j l es t o u a e1 e2 e3 e4 h1 h2=>by
 rcases qaj e1 with⟨q1,z1⟩ | ⟨q1,z1⟩
 ·cases z1
  rcases qaj e3 with⟨_,z3⟩ | ⟨q3,_⟩
  ·rcases qaj e2 with⟨q2,z2⟩ | ⟨q2,z2⟩
   ·omega
   ·rw[List.getElem?_set_ne q2] at e4
    rw[z3] at h1
    exact absurd h1 (k l t u a q2 z2 e4 h2)
  ·exact absurd q1 q3
 ·rw[List.getElem?_set_ne q1] at e3
  rcases qaj e2 with⟨q2,z2⟩ | ⟨q2,z2⟩
  ·rcases qaj e4 with⟨_,z4⟩ | ⟨q4,_⟩
   ·rw[z2,z4] at h2
    exact absurd h2 (k j _ o a q1 z1 e3 h1)
   ·exact absurd q2 q4
  ·rw[List.getElem?_set_ne q2] at e4
   exact h.un j l es t o u a z1 z2 e3 e4 h1 h2⟩
theorem SR.setW {P0 N0 H0:Hp} (S0:SR C P0 N0 H0 ρ σ) (S:SR C P N H ρ σ) (hs:L2.Same H0 H) {i:Nat} {dss:List (List Cm.D)} {p:Addr} {ps:List Addr} (h0:H0 p=none) (hp:H p=some (.lst (ps.map V.ref))) (pP:P p=none) (pN:N p=none) (fr:FrR C P N H H0 dss ps) (hn:p∉ps):SR C P N H (ρ.set i (.row dss)) (σ.set i (some (.ref p))) where
 reg:=S.reg
 len:=by simp[S.len]
 sl:=fun j s e=>by
  by_cases q:i=j
  ·subst q
   have hi:i<ρ.length:=by
    rcases Nat.lt_or_ge i ρ.length with z | z
    ·exact z
    ·rw[List.getElem?_eq_none (by simpa using z)] at e;cases e
   rw[List.getElem?_set_self hi] at e
   cases e
   exact⟨_,List.getElem?_set_self (by rw[S.len];exact hi),p,ps,rfl,hp,pP,pN,S0.reg.bH.free h0,fr.1.mono fun a ds ⟨xs,g1,g2,g3,g4,g5⟩=>⟨xs,g1,g3,g4,S0.reg.bH.free g2,g5⟩,List.nodup_cons.mpr ⟨hn,fr.2⟩⟩
  ·rw[List.getElem?_set_ne q] at e
   rw[List.getElem?_set_ne q]
   exact S.sl j s e
 ap:=fun j k r ds c es c' e1 e2 e3 e4=>by
  rcases qaj e1 with⟨_,z⟩ | ⟨q1,z1⟩
  ·cases z
  ·rcases qaj e2 with⟨_,z⟩ | ⟨q2,z2⟩
   ·cases z
   ·rw[List.getElem?_set_ne q1] at e3
    rw[List.getElem?_set_ne q2] at e4
    exact S.ap j k r ds c es c' z1 z2 e3 e4
 ad:=S.ad.set rfl
 ar:=S.ar.setW fun j t u a hj e1 e2 k1 k2=>by
  have fresh:H0 a=none:=by
   cases k2 with
   |rt=>exact h0
   |it e m =>
    rw[hp] at e
    injection e with e
    injection e with e
    rw[←qcy e] at m
    obtain⟨ds,xs,g1,g2,_⟩:=fr.1.all a m
    exact g2
  cases k1 with
  |own =>
   obtain⟨o,z1,z2⟩:=S0.sl j _ e1
   rw[z1] at e2;cases e2
   obtain⟨q,xs,y1,y2,_⟩:=z2
   cases y1
   rw[fresh] at y2;cases y2
  |rt=>exact S0.newW hs fresh e1 e2 .rt
  |it e m=>exact S0.newW hs fresh e1 e2 (.it e m)
theorem qk2 {i:Nat} {g:List Sl→RE (List (List Cm.D))} {D:Ends} (q:tS C (fun ρ=>(g ρ).out fun dss=>gdO (leB dss.length) (.nx (ρ.set i (.row dss)))) D σ H):tAsg (tLst (tF C g)) (gName i) D σ H:=by
 obtain⟨ρ,P,N,S,h⟩:=q
 refine⟨ρ,P,N,S,(h.res S.reg).mono fun dss P1 N1 H1 _ a1 h1 ps fr=>?_⟩
 simp only[qaP,qai] at h1
 split at h1
 case isFalse=>exact h1.elim
 rename_i hl
 have ln:∀{dss:List (List Cm.D)} {ps:List Addr} {R:Addr→List Cm.D→Prop},RowR R dss ps→ps.length=dss.length:=fun {dss}=>by
  induction dss with
  |nil=>intro ps R h;cases h;rfl
  |cons d r ih=>intro ps R ⟨a,q,e,_,h2⟩;subst e;simp[ih h2]
 refine⟨by rw[List.length_map,ln fr.1];exact hl,fun p hp=>?_⟩
 have S1:=S.adv a1
 have a2:Adv P1 N1 H1 P1 N1 (upd H1 p (.lst (ps.map V.ref))):=(Adv.refl S1.reg.pH S1.reg.nH).heap (qau hp)
 have S2:=S1.adv a2
 have ne:p∉ps:=fun m=>by
  obtain⟨ds,xs,g1,_⟩:=fr.1.all p m
  rw[hp] at g1;cases g1
 refine h1 _ P1 N1 _ (SR.setW S S2 (a1.hh.trans a2.hh) (a1.hh.free hp) upd_same (S1.reg.pH.free hp) (S1.reg.nH.free hp) ⟨fr.1.sub fun a m ds ⟨xs,g1,g2⟩=>⟨xs,a2.hh _ _ g1,g2⟩,fr.2⟩ ne) a1.pp a1.nn
theorem RowR.get {R:Addr→List Cm.D→Prop}:∀{dss:List (List Cm.D)} {ps:List Addr} {k:Nat} {ds:List Cm.D},RowR R dss ps→dss[k]? = some ds→∃a,ps[k]? = some a∧R a ds
 |[],_,_,_,_,e=>by simp at e
 |d::r,_,0,ds,⟨a,q,e,h1,h2⟩,e2=>by subst e;cases e2;exact⟨a,rfl,h1⟩
 |d::r,_,k+1,ds,⟨a,q,e,h1,h2⟩,e2=>by
  subst e
  obtain⟨b,g1,g2⟩:=RowR.get (k:=k) h2 (by simpa using e2)
  exact⟨b,by simpa using g1,g2⟩
theorem RowR.put {R R':Addr→List Cm.D→Prop}:∀{dss:List (List Cm.D)} {ps:List Addr} {k:Nat} {a:Addr} {ds':List Cm.D},RowR R dss ps→ps[k]? = some a→ps.Nodup→R' a ds'→(∀b∈ps,b≠a→∀ds,R b ds→R' b ds)→RowR R' (dss.set k ds') ps
 |[],_,_,_,_,h,e,_,_,_=>by cases h;simp at e
 |d::r,_,0,a,ds',⟨b,q,e,h1,h2⟩,e2,nd,h3,h4=>by
  subst e
  cases e2
  rw[List.nodup_cons] at nd
  exact⟨_,q,rfl,h3,h2.sub fun c m ds g=>h4 c (List.mem_cons_of_mem _ m) (fun z=>nd.1 (z ▸ m)) ds g⟩
 |d::r,_,k+1,a,ds',⟨b,q,e,h1,h2⟩,e2,nd,h3,h4=>by
  subst e
  rw[List.nodup_cons] at nd
  have e2:q[k]? = some a:=by simpa using e2
  exact⟨b,q,rfl,h4 b (by simp) (fun z=>nd.1 (z ▸ List.mem_of_getElem? e2)) _ h1,RowR.put h2 e2 nd.2 h3 fun c m=>h4 c (List.mem_cons_of_mem _ m)⟩
theorem AR.row {i:Nat} {dss dss':List (List Cm.D)} (h:AR H ρ σ) (e:ρ[i]? = some (.row dss)):AR H (ρ.set i (.row dss')) σ:=⟨fun j l es t o u a e1 e2 e3 e4 h1 h2=>by
 have back:∀{m:Nat} {t:Sl} {o:Option V},(ρ.set i (.row dss'))[m]? = some t→Held H t o a→∃t',ρ[m]? = some t'∧Held H t' o a∧(t.isW=true→t'.isW=true):=fun {m t o} em hh=>by
  rcases qaj em with⟨q,z⟩ | ⟨q,z⟩
  ·subst q
   rw[z] at hh
   refine⟨_,e,?_,fun _=>rfl⟩
   cases hh with
   |rt=>exact .rt
   |it e m=>exact .it e m
  ·exact⟨t,z,hh,id⟩
 obtain⟨t1,f1,g1,w1⟩:=back e1 h1
 obtain⟨t2,f2,g2,_⟩:=back e2 h2
 have w1:=w1 rfl
 cases t1 with
 |row es'=>exact h.un j l es' t2 o u a f1 f2 e3 e4 g1 g2
 |_=>cases w1⟩
abbrev tRx (K:PySem.W.Frag) (i k:Nat):TE:=tOp (rIx K) (tVar i) (tC (.int k))
end
end Cm
namespace Cm
open PySem PySem.Spec PyProof.Rows L2
def ql0:Ex→Bool
 |.cmp _ _ _=>true
 |.isN _=>true
 |.notN _=>true
 |_=>false
def qlW:Expr→Bool
 |.UnaryOp .Not _ _=>false
 |.BoolOp _ _ _=>false
 |.IfExp _ _ _ _=>false
 |.Compare _ _ _ _=>false
 |_=>true
def tgE (T:Tb) (fc:Option Scope) (sc:Scope):List Nat→List Expr→Bool
 |[],[]=>true
 |i::is,.Name x _::es=>decide (T.N[i]? = some x)&&tgB fc sc x&&tgE T fc sc is es
 |_,_=>false
def qiI (T:Tb) (fc:Option Scope) (sc:Scope) (tg:List Nat) (t:Expr):Bool:=
 match t with
 |.Name x _=>match tg with
  |[i]=>decide (T.N[i]? = some x)&&tgB fc sc x
  |_=>false
 |.Tuple es _ _=>decide (tg.length≠1)&&tgE T fc sc tg es
 |_=>false
def qmi:Expr→Bool
 |.Tuple _ _ _=>true
 |_=>false
def qoR (T:Tb) (sc:Scope):List Nat→List Expr→Bool
 |[],[]=>true
 |k::ks,.Name n _::es=>decide ((T.ck[k]?).map (·.1)=some n)&&glB sc n&&nmB n&&qoR T sc ks es
 |_,_=>false
mutual
def qao (T:Tb):Ex→Option Scope→Scope→Expr→Bool
 |.nev,_,_,_=>true
 |.var i,_,sc,e=>match e with
  |.Name x _=>decide (T.N[i]? = some x)&&qjd sc x&&nmB x
  |_=>false
 |.cint i,_,_,e=>match e with
  |.Constant (.int j) _ _=>decide (i=j)
  |_=>false
 |.cbl i,_,_,e=>match e with
  |.Constant (.bool j) _ _=>decide (i=j)
  |_=>false
 |.cnon,_,_,e=>match e with
  |.Constant .none _ _=>true
  |_=>false
 |.cstr s,_,_,e=>match e with
  |.Constant (.str x) _ _=>decide (x=qal s)
  |_=>false
 |.glo k,_,sc,e=>match e with
  |.Name x _=>decide (T.gc[k]? = some x)&&glB sc x&&nmB x
  |_=>false
 |.bin o a b,fc,sc,e=>match e with
  |.BinOp x op y _=>decide (op=qn7 o)&&qao T a fc sc x&&qao T b fc sc y
  |_=>false
 |.cmp o a b,fc,sc,e=>match e with
  |.Compare x [op] [y] _=>decide (op=qjG o) && !behindInMarks (qjG o) y&&qao T a fc sc x&&qao T b fc sc y
  |_=>false
 |.isN a,fc,sc,e=>match e with
  |.Compare x [.Is] [.Constant .none _ _] _=>qao T a fc sc x
  |_=>false
 |.notN a,fc,sc,e=>match e with
  |.Compare x [.IsNot] [.Constant .none _ _] _=>qao T a fc sc x
  |_=>false
 |.bop c es,fc,sc,e=>match e with
  |.BoolOp op xs _=>decide (op=qhC c) && !xs.isEmpty&&qaR T es fc sc xs
  |_=>false
 |.bnot a,fc,sc,e=>match e with
  |.UnaryOp .Not x _=>qao T a fc sc x
  |_=>false
 |.tup es,fc,sc,e=>match e with
  |.Tuple xs _ _=>qaR T es fc sc xs&&xs.all qae&&decide (xs.length<1000)
  |_=>false
 |.lst es,fc,sc,e=>match e with
  |.List xs _=>qaR T es fc sc xs&&xs.all qae&&decide (xs.length<1000)
  |_=>false
 |.idx a i,fc,sc,e=>match e with
  |.Subscript x y _=>qao T a fc sc x&&qao T i fc sc y&&qcw y
  |_=>false
 |.slc a lo hi,fc,sc,e=>match e with
  |.Subscript x (.Slice l h none _) _=>qao T a fc sc x&&ql9 T lo fc sc l&&ql9 T hi fc sc h
  |_=>false
 |.call f es,fc,sc,e=>match e with
  |.Call (.Name x _) xs [] _=>decide (T.fn[f]? = some (x,xs.length))&&glB sc x&&nmB x&&qaR T es fc sc xs&&xs.all qae
  |_=>false
 |.pri p es,fc,sc,e=>match e with
  |.Call (.Name x _) xs [] _=>decide (x=qjb p)&&glB sc x && !xs.isEmpty&&qaR T es fc sc xs&&xs.all qae
  |_=>false
 |.bm1 m o a,fc,sc,e=>match e with
  |.Call (.Attribute x mn apos) [y] [] pos=>decide (mn=bmN m)&&qao T o fc sc x&&qao T a fc sc y&&qae y&&qf5 x&&(apos.endLine == pos.line)
  |_=>false
 |.isi a t,fc,sc,e=>match e with
  |.Call (.Name x _) [y,.Name n _] [] _=>decide (x=("isinstance" : Str))&&decide (n=tyN t)&&glB sc "isinstance" && glB sc (tyN t)&&qao T a fc sc y&&qae y
  |_=>false
 |.lc own it tg cnd e',fc,sc,e=>match e with
  |.ListComp elt [⟨tgt,iter,ifs,0⟩] scope _=>blkC T.N sc scope (own.map fun i=>(T.N.getD i Str.empty,i))&&qiG T it fc sc tgt iter&&qiI T (some scope) (relS scope sc) tg tgt&&tg.all (fun i=>decide (i∈own))&&qim T cnd (some scope) (relS scope sc) ifs&&qao T e' (some scope) (relS scope sc) elt&&qfc iter
  |_=>false
 |.inxL o a,fc,sc,e=>match e with
  |.Call (.Attribute x mn apos) [y] [] pos=>decide (mn=("index" : Str))&&qao T o fc sc x&&qao T a fc sc y&&qae y&&qf5 x&&(apos.endLine == pos.line)
  |_=>false
 |.inxS o a,fc,sc,e=>match e with
  |.Call (.Attribute x mn apos) [y] [] pos=>decide (mn=("index" : Str))&&qao T o fc sc x&&qao T a fc sc y&&qae y&&qf5 x&&(apos.endLine == pos.line)
  |_=>false
 |.isc a k,fc,sc,e=>match e with
  |.Call (.Name x _) [y,.Name n _] [] _=>decide (x=("isinstance" : Str))&&glB sc "isinstance" && decide ((T.ck[k]?).map (·.1)=some n)&&glB sc n&&nmB n&&qao T a fc sc y&&qae y
  |_=>false
def qaR (T:Tb):Exs→Option Scope→Scope→List Expr→Bool
 |.nil,_,_,xs=>xs.isEmpty
 |.cons e es,fc,sc,xs=>match xs with
  |x::xs=>qao T e fc sc x&&qaR T es fc sc xs
  |[]=>false
def ql9 (T:Tb):Exs→Option Scope→Scope→Option Expr→Bool
 |.nil,_,_,x=>x.isNone
 |.cons e _,fc,sc,x=>match x with
  |some x=>qao T e fc sc x
  |none=>false
def qhE (T:Tb):Te→Option Scope→Scope→Expr→Bool
 |.val e,fc,sc,x=>qao T e fc sc x&&(ql0 e||qlW x)
 |.bop c ts,fc,sc,x=>match x with
  |.BoolOp op xs _=>decide (op=qhC c) && !xs.isEmpty&&qfQ T ts fc sc xs
  |_=>false
 |.not t,fc,sc,x=>match x with
  |.UnaryOp .Not x _=>qhE T t fc sc x
  |_=>false
def qfQ (T:Tb):Tes→Option Scope→Scope→List Expr→Bool
 |.nil,_,_,xs=>xs.isEmpty
 |.cons t ts,fc,sc,xs=>match xs with
  |x::xs=>qhE T t fc sc x&&qfQ T ts fc sc xs
  |[]=>false
def qim (T:Tb):Tes→Option Scope→Scope→List Expr→Bool
 |.nil,_,_,xs=>xs.isEmpty
 |.cons t ts,fc,sc,xs=>match xs with
  |[x]=>qhE T t fc sc x&&(match ts with
   |.nil=>true
   |_=>false)
  |_=>false
def qiG (T:Tb):Itx→Option Scope→Scope→Expr→Expr→Bool
 |.any e,fc,sc,_,x=>qao T e fc sc x
 |.rng es,fc,sc,_,x=>match x with
  |.Call (.Name r _) xs [] _=>decide (r=("range" : Str))&&glB sc "range" && qaR T es fc sc xs&&xs.all qae&&decide (xs.length=1∨xs.length=2∨xs.length=3)
  |_=>false
 |.zp a b,fc,sc,t,x=>match x with
  |.Call (.Name r _) [y,z] [] _=>decide (r=("zip" : Str))&&glB sc "zip" && qao T a fc sc y&&qao T b fc sc z&&qae y&&qae z&&qmi t
  |_=>false
 |.en a,fc,sc,t,x=>match x with
  |.Call (.Name r _) [y] [] _=>decide (r=("enumerate" : Str))&&glB sc "enumerate" && qao T a fc sc y&&qae y&&qmi t
  |_=>false
 |.rv a,fc,sc,_,x=>match x with
  |.Call (.Name r _) [y] [] _=>decide (r=("reversed" : Str))&&glB sc "reversed" && qao T a fc sc y&&qae y
  |_=>false
 |.rvr a,fc,sc,_,x=>match x with
  |.Call (.Name r _) [.Call (.Name r2 _) [y] [] _] [] _=>decide (r=("reversed" : Str))&&decide (r2=("range" : Str))&&glB sc "reversed" && glB sc "range" && qao T a fc sc y&&qae y
  |_=>false
end
structure XOk (T:Tb) (Γ:Env) (C:Ctx) (X:Cx) (fc:Option Scope) (sc:Scope):Prop where
 nm:X.N=T.N
 nd:X.N.Nodup
 sc:X.env.scope=sc
 K:X.K=C.G.K
 tk:Takes X C.W
 calm:X.calm=true
 un:X.A.units+65<cLine
 blt:∀x∈bltNames,X.mg x=none
 fnc:match fc with
  |none=>X.fn=fun _=>true
  |some so=>X.fn=fun x=>so.names.lookup x == some .cell
 fn:∀(f:Nat) (x:Str) (n:Nat),T.fn[f]? = some (x,n)→∀g,Γ.fn[f]? = some g→∃(k:Nat) (a:Addr) (fd:FuncData) (ps:List Str) (m:Nat) (gf:List Cm.D→RE ER),FnOk X.prog X.w X.K X.mg X.base (L2.CX X.prog X.w) k a fd ps (spD C.G (n+m) gf)∧Room k X.A∧X.mg x=some (.ref a)∧PySem.W.keepIn X.K (.ref a)=true∧Part X.K C.G fd ps n m g.2 gf
 gc:∀(k:Nat) (x:Str),T.gc[k]? = some x→∀c,Γ.gc[k]? = some c→∃u v,X.mg x=some u∧RelV v u∧(∀P N,RepB C P N true c.2 v)∧WrT C.G v
 mt:∀(m:Nat) (x:Str) (n:Nat),T.mn[m]? = some (x,n)→∀c g,Γ.mt c m=some g→MtOk C X x c n g
 fs:∀(f:Nat) (x:Str),T.fs[f]? = some x→∀c k,Γ.fi c f=some k→FdOk C X x c k
 nw:∀(k:Nat) (x:Str) (n:Nat),T.nw[k]? = some (x,n)→∀g,Γ.nw[k]? = some g→NwOk C X x g.1 n g.2
 ck:∀(k:Nat) (x:Str) (own:Bool),T.ck[k]? = some (x,own)→CkOk C.G X.K X.mg x own Γ.ck[k]? Γ.ik[k]?
 xk:∀(k:Nat) (x:Str),T.xk[k]? = some x→∀c,Γ.xk[k]? = some c→RsOk X.K X.mg (C.G.ca c) x
 dc:∀(k:Nat) (x:Str),T.dc[k]? = some x→∀t,Γ.dc[k]? = some t→qmU C.G X.K X.w X.mg x t.2
end Cm
namespace Cm
open PySem PySem.Spec PyProof.Rows L2
theorem qax {C:Ctx} {X:Cx} {e:Expr} {g g':List Sl→RE ER} (h:PE X e (tE C g')) (q:∀ρ,g ρ=g' ρ):PE X e (tE C g):=by
 have:g=g':=funext q
 rw[this];exact h
theorem qey {C:Ctx} {X:Cx} {e:Expr} {g g':List Sl→RE Bool} (h:PT X e (tT C g')) (q:∀ρ,g ρ=g' ρ):PT X e (tT C g):=by
 have:g=g':=funext q
 rw[this];exact h
theorem qmd {C:Ctx} {X:Cx} {e:Expr} {g g':List Sl→RE Bool} (h:PW X e (tT C g')) (q:∀ρ,g ρ=g' ρ):PW X e (tT C g):=by
 have:g=g':=funext q
 rw[this];exact h
theorem qlR {C:Ctx} {X:Cx} {e:List Expr} {g g':List Sl→RE (List ER)} (h:PA X e (tA C g')) (q:∀ρ,g ρ=g' ρ):PA X e (tA C g):=by
 have:g=g':=funext q
 rw[this];exact h
theorem qlF {C:Ctx} {X:Cx} {e:Option Expr} {g g':List Sl→RE (Option Int)} (h:PO X e (tO C g')) (q:∀ρ,g ρ=g' ρ):PO X e (tO C g):=by
 have:g=g':=funext q
 rw[this];exact h
theorem qd9 {C:Ctx} {X:Cx} {t e:Expr} {g g':List Sl→RE Wk} (h:PI X t e (tI C g')) (q:∀ρ,g ρ=g' ρ):PI X t e (tI C g):=by
 have:g=g':=funext q
 rw[this];exact h
theorem qa2 {C:Ctx} {X:Cx} {e:Stmt} {g g':List Sl→Out} (h:PS X e (tS C g')) (q:∀ρ,g ρ=g' ρ):PS X e (tS C g):=by
 have:g=g':=funext q
 rw[this];exact h
section
variable {T:Tb} {Γ:Env} {C:Ctx} {X:Cx} {fc:Option Scope} {sc:Scope}
theorem qds (hs:X.env.scope=sc) {x:Str} (h:qjd sc x=true):Vis X.env.scope x:=by
 rw[hs]
 unfold qjd at h
 unfold Vis
 split at h
 ·exact .inl (by assumption)
 ·exact .inr (.inl (by assumption))
 ·exact .inr (.inr (by assumption))
 ·cases h
theorem qbl (hs:X.env.scope=sc) {x:Str} (h:glB sc x=true):Gl X x:=by
 unfold glB at h
 show X.env.scope.names.lookup x=_
 rw[hs]
 split at h
 ·assumption
 ·cases h
theorem qbY {x:Str} (h:nmB x=true):(x == ("__debug__" : Str))=false∧(x == ("__classdict__" : Str))=false:=by
 unfold nmB at h
 simp only[Bool.and_eq_true,Bool.not_eq_true'] at h
 exact h
theorem qfS (I:XOk T Γ C X fc sc) {x:Str} (h:tgB fc sc x=true):Loc X.env.scope x∧(X.fn x=true∨X.env.scope.names.lookup x=some .local):=by
 rw[I.sc]
 unfold tgB at h
 split at h
 ·rename_i e
  exact⟨.inl e,.inr e⟩
 ·rename_i e
  refine⟨.inr e,.inl ?_⟩
  have:=I.fnc
  cases fc with
  |none=>simp only at this;rw[this]
  |some so=>simp only at this h;rw[this];exact h
 ·cases h
theorem qbr:∀(es:Exs) (ρ:List Sl) (r:List ER) (xs:List Expr),qaR T es fc sc xs=true→evs Γ es ρ=.ok r→r.length=xs.length
 |.nil,ρ,r,xs,h,e=>by
  unfold qaR at h
  rw[evs] at e
  cases e
  cases xs with
  |nil=>rfl
  |cons _ _=>cases h
 |.cons a es,ρ,r,xs,h,e=>by
  unfold qaR at h
  cases xs with
  |nil=>cases h
  |cons x xs =>
   simp only[Bool.and_eq_true] at h
   rw[evs] at e
   cases e1:ev Γ a ρ with
   |bad=>rw[e1] at e;cases e
   |exc c fs=>rw[e1] at e;cases e
   |ok v =>
    rw[e1] at e
    cases e2:evs Γ es ρ with
    |bad=>rw[RE.bind_ok,e2] at e;cases e
    |exc c fs=>rw[RE.bind_ok,e2] at e;cases e
    |ok q =>
     rw[RE.bind_ok,e2] at e
     cases e
     simp[qbr es ρ q xs h.2 e2]
theorem qgr {es:Exs} {xs:List Expr} (h:qaR T es fc sc xs=true) (e:xs=[]) (ρ:List Sl):evs Γ es ρ=.ok []:=by
 subst e
 cases es with
 |nil=>rw[evs]
 |cons a es=>unfold qaR at h;cases h
theorem XOk.blk (I:XOk T Γ C X fc sc) {s:Shared} {H:Hp} {scope:Scope} {cl:List (Str × Addr)} {A:Addr} {fp:List Addr}:XOk T Γ C.nx (X.blk s H scope (compEnvC scope cl A X.env) fp) (some scope) (relS scope sc) where
 nm:=I.nm
 nd:=I.nd
 sc:=by
  have:=I.sc
  subst this
  rfl
 K:=I.K
 tk:=takes0
 calm:=I.calm
 un:=I.un
 blt:=I.blt
 fnc:=rfl
 fn:=I.fn
 gc:=I.gc
 mt:=fun m x n h c g e=>by
  obtain⟨h1,h2,h3⟩:=I.mt m x n h c g e
  exact⟨h1,h2,h3⟩
 fs:=fun f x h c k e=>by
  obtain⟨h1,h2,h3,h4⟩:=I.fs f x h c k e
  exact⟨h1,h2,h3,h4⟩
 nw:=fun k x n h g e=>by
  obtain⟨h1⟩:=I.nw k x n h g e
  exact⟨h1⟩
 ck:=I.ck
 xk:=I.xk
 dc:=I.dc
theorem XOk.tr {W:WX} {pn:List (Addr × Obj)} {xe:Value→Shared→Prop} (I:XOk T Γ C X fc sc) (tk:Takes (X.tr pn xe) W):XOk T Γ { C with W:=W } (X.tr pn xe) fc sc where
 nm:=I.nm
 nd:=I.nd
 sc:=I.sc
 K:=I.K
 tk:=tk
 calm:=I.calm
 un:=I.un
 blt:=I.blt
 fnc:=I.fnc
 fn:=I.fn
 gc:=I.gc
 mt:=fun m x n h c g e=>by
  obtain⟨h1,h2,h3⟩:=I.mt m x n h c g e
  exact⟨h1,h2,h3⟩
 fs:=fun f x h c k e=>by
  obtain⟨h1,h2,h3,h4⟩:=I.fs f x h c k e
  exact⟨h1,h2,h3,h4⟩
 nw:=fun k x n h g e=>by
  obtain⟨h1⟩:=I.nw k x n h g e
  exact⟨h1⟩
 ck:=I.ck
 xk:=I.xk
 dc:=I.dc
theorem qeh (I:XOk T Γ C X fc sc):∀(tg:List Nat) (es:List Expr),tgE T fc sc tg es=true→PGs X es (qfd tg)∧es.length=tg.length∧(assignEach es X.env).length=es.length∧(assignEach es X.env).findIdx? (·.1)=none
 |[],[],_=>⟨pgs_nil,rfl,rfl,rfl⟩
 |i::is,.Name x p::es,h=>by
  unfold tgE at h
  simp only[Bool.and_eq_true,decide_eq_true_eq] at h
  obtain⟨h1,h2⟩:=qfS I h.1.2
  obtain⟨h3,h4,h5,h6⟩:=qeh I is es h.2
  refine⟨pgs_cons (pg_name I.nd (by rw[I.nm];exact h.1.1) h1 h2) h3 rfl,by simp[h4],?_,?_⟩
  ·show(_::assignEach es X.env).length=_
   simp[h5]
  ·show List.findIdx? (·.1) ((false,_)::assignEach es X.env)=none
   rw[List.findIdx?_cons]
   simp[h6]
 |[],_::_,h=>by cases h
 |_::_,[],h=>by cases h
theorem qdE (I:XOk T Γ C X fc sc) {tg:List Nat} {t:Expr} (h:qiI T fc sc tg t=true):PG X t (tG C tg):=by
 unfold qiI at h
 split at h
 ·split at h
  ·simp only[Bool.and_eq_true,decide_eq_true_eq] at h
   obtain⟨h1,h2⟩:=qfS I h.2
   exact qit I.nd (by rw[I.nm];exact h.1) h1 h2
  ·cases h
 ·simp only[Bool.and_eq_true,decide_eq_true_eq] at h
  obtain⟨h3,h4,h5,h6⟩:=qeh I _ _ h.2
  exact qj0 I.K I.calm h3 h4 h.1 h5 h6
 ·cases h
end
end Cm
set_option maxHeartbeats 1000000
namespace Cm
open PySem PySem.Spec PyProof.Rows L2
theorem qmH (p:Pri):qjb p∈bltNames:=by cases p<;>decide
theorem qm5 (t:Ty):tyN t∈bltNames:=by cases t<;>decide
theorem qjU {l:List Expr} (h:l.length=1):∃a,l=[a]:=by
 match l,h with
 |[a],_=>exact⟨a,rfl⟩
theorem qkb {l:List Expr} (h:l.length=2):∃a b,l=[a,b]:=by
 match l,h with
 |[a,b],_=>exact⟨a,b,rfl⟩
theorem qg8 {l:List Expr} (h:l.length=3):∃a b c,l=[a,b,c]:=by
 match l,h with
 |[a,b,c],_=>exact⟨a,b,c,rfl⟩
mutual
theorem qab {T:Tb} {Γ:Env}:∀(ir:Ex) {C:Ctx} {X:Cx} {fc:Option Scope} {sc:Scope} {e:Expr},XOk T Γ C X fc sc→qao T ir fc sc e=true→PE X e (tE C (ev Γ ir))∧(ql0 ir=true→PT X e (tT C fun ρ=>(ev Γ ir ρ).bind fun x=>qev x.d))
 |.nev,C,X,fc,sc,e,I,h=>by
  exact⟨qax qeC fun ρ=>by rw[ev],fun z=>by cases z⟩
 |.var i,C,X,fc,sc,e,I,h=>by
  unfold qao at h
  split at h
  case h_2=>cases h
  rename_i x p
  simp only[Bool.and_eq_true,decide_eq_true_eq] at h
  obtain⟨n1,n2⟩:=qbY h.2
  exact⟨qax (qjD (by rw[I.nm];exact h.1.1) (qds I.sc h.1.2) n1 n2) fun ρ=>by rw[ev]<;>rfl,fun z=>by cases z⟩
 |.cint i,C,X,fc,sc,e,I,h=>by
  unfold qao at h
  split at h
  case h_2=>cases h
  simp only[decide_eq_true_eq] at h
  subst h
  exact⟨qax (qgs (d:=.int i) pe_int fun _ _=>rfl) fun ρ=>by rw[ev];rfl,fun z=>by cases z⟩
 |.cbl i,C,X,fc,sc,e,I,h=>by
  unfold qao at h
  split at h
  case h_2=>cases h
  simp only[decide_eq_true_eq] at h
  subst h
  exact⟨qax (qgs (d:=.bl i) pe_bl fun _ _=>rfl) fun ρ=>by rw[ev];rfl,fun z=>by cases z⟩
 |.cnon,C,X,fc,sc,e,I,h=>by
  unfold qao at h
  split at h
  case h_2=>cases h
  exact⟨qax (qgs (d:=.non) pe_non fun _ _=>rfl) fun ρ=>by rw[ev];rfl,fun z=>by cases z⟩
 |.cstr s,C,X,fc,sc,e,I,h=>by
  unfold qao at h
  split at h
  case h_2=>cases h
  simp only[decide_eq_true_eq] at h
  subst h
  exact⟨qax (qgs (d:=.str s) pe_str fun _ _=>rfl) fun ρ=>by rw[ev];rfl,fun z=>by cases z⟩
 |.glo k,C,X,fc,sc,e,I,h=>by
  unfold qao at h
  split at h
  case h_2=>cases h
  rename_i x p
  simp only[Bool.and_eq_true,decide_eq_true_eq] at h
  obtain⟨n1,n2⟩:=qbY h.2
  cases q:Γ.gc[k]? with
  |none=>exact⟨qax qeC fun ρ=>by rw[ev,q],fun z=>by cases z⟩
  |some c =>
   obtain⟨u,v,h1,h2,h3,_⟩:=I.gc k x h.1.1 c q
   exact⟨qax (qgs (d:=c.2) (pe_glob (qbl I.sc h.1.2) h1 h2 n1) h3) fun ρ=>by rw[ev,q],fun z=>by cases z⟩
 |.bin o a b,C,X,fc,sc,e,I,h=>by
  unfold qao at h
  split at h
  case h_2=>cases h
  simp only[Bool.and_eq_true,decide_eq_true_eq] at h
  obtain⟨⟨rfl,ha⟩,hb⟩:=h
  exact⟨qax (qmL (ql8 o) (I.K ▸ qma o) (qab a I ha).1 (qab b I hb).1) fun ρ=>by rw[ev],fun z=>by cases z⟩
 |.cmp o a b,C,X,fc,sc,e,I,h=>by
  unfold qao at h
  split at h
  case h_2=>cases h
  simp only[Bool.and_eq_true,decide_eq_true_eq,Bool.not_eq_true'] at h
  obtain⟨⟨⟨rfl,hm⟩,ha⟩,hb⟩:=h
  exact⟨qax (qkl I.un I.K (qab a I ha).1 (qab b I hb).1 hm) fun ρ=>by rw[ev],fun _=>qey (qjM I.un I.K (qab a I ha).1 (qab b I hb).1 hm) fun ρ=>by rw[ev]⟩
 |.isN a,C,X,fc,sc,e,I,h=>by
  unfold qao at h
  split at h
  case h_2=>cases h
  exact⟨qax (qjy (qab a I h).1) fun ρ=>by rw[ev];rfl,fun _=>qey (qjJ (qab a I h).1) fun ρ=>by rw[ev];rfl⟩
 |.notN a,C,X,fc,sc,e,I,h=>by
  unfold qao at h
  split at h
  case h_2=>cases h
  exact⟨qax (qio (qab a I h).1) fun ρ=>by rw[ev];rfl,fun _=>qey (qil (qab a I h).1) fun ρ=>by rw[ev];rfl⟩
 |.bop c es,C,X,fc,sc,e,I,h=>by
  unfold qao at h
  split at h
  case h_2=>cases h
  rename_i op xs p
  simp only[Bool.and_eq_true,decide_eq_true_eq,Bool.not_eq_true'] at h
  obtain⟨⟨rfl,hx⟩,he⟩:=h
  exact⟨qax (qf9 c es I he (by rintro rfl;cases hx)) fun ρ=>by rw[ev],fun z=>by cases z⟩
 |.bnot a,C,X,fc,sc,e,I,h=>by
  unfold qao at h
  split at h
  case h_2=>cases h
  exact⟨qax (qhJ I.K (qab a I h).1) fun ρ=>by rw[ev],fun z=>by cases z⟩
 |.tup es,C,X,fc,sc,e,I,h=>by
  unfold qao at h
  split at h
  case h_2=>cases h
  rename_i xs k p
  simp only[Bool.and_eq_true,decide_eq_true_eq] at h
  refine⟨qax (qjL (qbJ es I h.1.1 h.1.2) fun ρ r e=>?_) fun ρ=>by rw[ev],fun z=>by cases z⟩
  rw[qbr es ρ r xs h.1.1 e]
  have:(1000:Nat)≤LIM:=by decide
  omega
 |.lst es,C,X,fc,sc,e,I,h=>by
  unfold qao at h
  split at h
  case h_2=>cases h
  rename_i xs p
  simp only[Bool.and_eq_true,decide_eq_true_eq] at h
  refine⟨qax (qjW (qbJ es I h.1.1 h.1.2) fun ρ r e=>?_) fun ρ=>by rw[ev],fun z=>by cases z⟩
  rw[qbr es ρ r xs h.1.1 e]
  have:(1000:Nat)≤LIM:=by decide
  omega
 |.idx a i,C,X,fc,sc,e,I,h=>by
  unfold qao at h
  split at h
  case h_2=>cases h
  simp only[Bool.and_eq_true] at h
  exact⟨qax (qjZ I.K (qab a I h.1.1).1 (qab i I h.1.2).1 (qn1 h.2)) fun ρ=>by rw[ev],fun z=>by cases z⟩
 |.slc a lo hi,C,X,fc,sc,e,I,h=>by
  unfold qao at h
  split at h
  case h_2=>cases h
  simp only[Bool.and_eq_true] at h
  exact⟨qax (qjs I.K (qab a I h.1.1).1 (qi3 lo I h.1.2) (qi3 hi I h.2)) fun ρ=>by rw[ev],fun z=>by cases z⟩
 |.call f es,C,X,fc,sc,e,I,h=>by
  unfold qao at h
  split at h
  case h_2=>cases h
  rename_i x p xs q
  simp only[Bool.and_eq_true,decide_eq_true_eq] at h
  obtain⟨⟨⟨⟨hf,hg⟩,hn⟩,he⟩,hs⟩:=h
  cases e:Γ.fn[f]? with
  |none=>exact⟨qax qeC fun ρ=>by rw[ev,e],fun z=>by cases z⟩
  |some g =>
   obtain⟨k,a,fd,ps,m,gf,F,hr,hm,hk,dv,dvs,dus,hb,hdv,hdm,hdr,hgf⟩:=I.fn f x xs.length hf g e
   exact⟨qax (qh0 F hr (qbl I.sc hg) hm hk hb hdv hdm hdr hgf I.tk (qbJ es I he hs) (qbY hn).1 (qdC hs) (fun ρ r e=>qbr es ρ r xs he e) (fun z ρ=>qgr he z ρ)) fun ρ=>by rw[ev,e],fun z=>by cases z⟩
 |.pri p es,C,X,fc,sc,e,I,h=>by
  unfold qao at h
  split at h
  case h_2=>cases h
  rename_i x p' xs q
  simp only[Bool.and_eq_true,decide_eq_true_eq,Bool.not_eq_true'] at h
  obtain⟨⟨⟨⟨rfl,hg⟩,hx⟩,he⟩,hs⟩:=h
  cases xs with
  |nil=>cases hx
  |cons y ys =>
   have pl:=qdC (X:=X) hs
   exact⟨qax (qkd I.K I.calm (qbl I.sc hg) (I.blt _ (qmH p)) (qbJ es I he hs) (pl.1 _ _ rfl) (pl.2 _ _ _ rfl)) fun ρ=>by rw[ev],fun z=>by cases z⟩
 |.bm1 m o a,C,X,fc,sc,e,I,h=>by
  unfold qao at h
  split at h
  case h_2=>cases h
  simp only[Bool.and_eq_true,decide_eq_true_eq] at h
  obtain⟨⟨⟨⟨⟨rfl,ho⟩,ha⟩,hs⟩,hb⟩,hl⟩:=h
  exact⟨qax (qmp I.K (qab o I ho).1 (qab a I ha).1 (qaa hs) (qcP hb) hl) fun ρ=>by rw[ev]<;>rfl,fun z=>by cases z⟩
 |.isc a k,C,X,fc,sc,e,I,h=>by
  unfold qao at h
  split at h
  case h_2=>cases h
  simp only[Bool.and_eq_true,decide_eq_true_eq] at h
  obtain⟨⟨⟨⟨⟨⟨rfl,hg⟩,hk⟩,hg2⟩,hn⟩,ha⟩,hs⟩:=h
  obtain⟨n1,n2⟩:=qbY hn
  cases q:T.ck[k]? with
  |none=>rw[q] at hk;cases hk
  |some t =>
   obtain⟨x,own⟩:=t
   rw[q] at hk
   cases hk
   exact⟨qax (qk7 I.K (qbl I.sc hg) (I.blt _ (by decide)) (I.blt _ (by decide)) (qbl I.sc hg2) n1 (I.ck k x own q) (qab a I ha).1 (qaa hs) rfl) fun ρ=>by rw[ev],fun z=>by cases z⟩
 |.isi a t,C,X,fc,sc,e,I,h=>by
  unfold qao at h
  split at h
  case h_2=>cases h
  simp only[Bool.and_eq_true,decide_eq_true_eq] at h
  obtain⟨⟨⟨⟨⟨rfl,rfl⟩,hg⟩,hg2⟩,ha⟩,hs⟩:=h
  exact⟨qax (qjF I.K (qbl I.sc hg) (I.blt _ (by decide)) (qbl I.sc hg2) (I.blt _ (qm5 t)) (qab a I ha).1 (qaa hs) rfl) fun ρ=>by rw[ev],fun z=>by cases z⟩
 |.lc own it tg cnd e',C,X,fc,sc,e,I,h=>by
  unfold qao at h
  split at h
  case h_2=>cases h
  rename_i elt tgt iter ifs scope p
  simp only[Bool.and_eq_true] at h
  obtain⟨⟨⟨⟨⟨⟨hb,hi⟩,ht⟩,hsub⟩,hc⟩,he⟩,hs⟩:=h
  have hsub':∀i∈tg,i∈own:=fun i hi=>by simpa using List.all_eq_true.mp hsub i hi
  have hb':BlkOk X.N X.env.scope scope (own.map fun i=>(T.N.getD i Str.empty,i)):=by
   rw[I.nm,I.sc];exact blkOk_by hb
  have ho:((own.map fun i=>(T.N.getD i Str.empty,i)).map (·.2))=own:=by
   rw[List.map_map]
   exact List.map_id' own
  have lc:=pe_lc (elt:=elt) (pos:=p) I.calm I.nd (qgH it I hi) hb' (fun s H Cd cl fp=>qdE (I.blk (s:=s) (H:=H) (cl:=cl) (A:=Cd) (fp:=fp)) ht) (fun s H Cd cl fp=>qgI cnd (I.blk (s:=s) (H:=H) (cl:=cl) (A:=Cd) (fp:=fp)) hc) (fun s H Cd cl fp=>(qab e' (I.blk (s:=s) (H:=H) (cl:=cl) (A:=Cd) (fp:=fp)) he).1) (qdL hs)
  rw[ho] at lc
  exact⟨qax (qag lc fun σ H Q q=>qi6 hsub' q) fun ρ=>by rw[ev]<;>rfl,fun z=>by cases z⟩
 |.inxL o a,C,X,fc,sc,e,I,h=>by
  unfold qao at h
  split at h
  case h_2=>cases h
  simp only[Bool.and_eq_true,decide_eq_true_eq] at h
  obtain⟨⟨⟨⟨⟨rfl,ho⟩,ha⟩,hs⟩,hb⟩,hl⟩:=h
  exact⟨qax (qhY I.K (qab o I ho).1 (qab a I ha).1 hs (qcP hb) hl (by rw[qaa hs];rfl)) fun ρ=>by rw[ev]<;>rfl,fun z=>by cases z⟩
 |.inxS o a,C,X,fc,sc,e,I,h=>by
  unfold qao at h
  split at h
  case h_2=>cases h
  simp only[Bool.and_eq_true,decide_eq_true_eq] at h
  obtain⟨⟨⟨⟨⟨rfl,ho⟩,ha⟩,hs⟩,hb⟩,hl⟩:=h
  exact⟨qax (qiE (qab o I ho).1 (qab a I ha).1 hs (qcP hb) hl) fun ρ=>by rw[ev]<;>rfl,fun z=>by cases z⟩
theorem qbJ {T:Tb} {Γ:Env}:∀(ir:Exs) {C:Ctx} {X:Cx} {fc:Option Scope} {sc:Scope} {xs:List Expr},XOk T Γ C X fc sc→qaR T ir fc sc xs=true→xs.all qae=true→PA X xs (tA C (evs Γ ir))
 |.nil,C,X,fc,sc,xs,I,h,hs=>by
  unfold qaR at h
  cases xs with
  |nil=>exact qlR qkN fun ρ=>by rw[evs]
  |cons _ _=>cases h
 |.cons a es,C,X,fc,sc,xs,I,h,hs=>by
  unfold qaR at h
  cases xs with
  |nil=>cases h
  |cons x xs =>
   simp only[Bool.and_eq_true] at h
   simp only[List.all_cons,Bool.and_eq_true] at hs
   exact qlR (qid (qab a I h.1).1 (qbJ es I h.2 hs.2) (qaa hs.1)) fun ρ=>by rw[evs]
theorem qf9 {T:Tb} {Γ:Env}:∀(c:Bool) (ir:Exs) {C:Ctx} {X:Cx} {fc:Option Scope} {sc:Scope} {xs:List Expr} {pos:Pos},XOk T Γ C X fc sc→qaR T ir fc sc xs=true→xs≠[]→PE X (.BoolOp (qhC c) xs pos) (tE C (qhk Γ c ir))
 |c,.nil,C,X,fc,sc,xs,pos,I,h,hn=>by
  unfold qaR at h
  cases xs with
  |nil=>exact absurd rfl hn
  |cons _ _=>cases h
 |c,.cons a es,C,X,fc,sc,xs,pos,I,h,hn=>by
  unfold qaR at h
  cases xs with
  |nil=>cases h
  |cons x xs =>
   simp only[Bool.and_eq_true] at h
   cases xs with
   |nil =>
    cases es with
    |nil=>exact qax (qlG (qab a I h.1).1) fun ρ=>by rw[qhk,qhk]<;>rfl
    |cons _ _=>have:=h.2;unfold qaR at this;cases this
   |cons y ys=>exact qax (qnc (qab a I h.1).1 (qf9 c es I h.2 (by simp))) fun ρ=>by rw[qhk]<;>rfl
theorem qi3 {T:Tb} {Γ:Env}:∀(ir:Exs) {C:Ctx} {X:Cx} {fc:Option Scope} {sc:Scope} {x:Option Expr},XOk T Γ C X fc sc→ql9 T ir fc sc x=true→PO X x (tO C (evO Γ ir))
 |.nil,C,X,fc,sc,x,I,h=>by
  unfold ql9 at h
  cases x with
  |none=>exact qlF qiP fun ρ=>by rw[evO]
  |some _=>cases h
 |.cons a es,C,X,fc,sc,x,I,h=>by
  unfold ql9 at h
  cases x with
  |none=>cases h
  |some x=>exact qlF (qhX (qab a I h).1) fun ρ=>by rw[evO]<;>rfl
theorem qcz {T:Tb} {Γ:Env}:∀(ir:Te) {C:Ctx} {X:Cx} {fc:Option Scope} {sc:Scope} {x:Expr},XOk T Γ C X fc sc→qhE T ir fc sc x=true→PT X x (tT C (evT Γ ir))
 |.val e,C,X,fc,sc,x,I,h=>by
  unfold qhE at h
  simp only[Bool.and_eq_true,Bool.or_eq_true] at h
  obtain⟨h1,h2⟩:=qab e I h.1
  rcases h.2 with q | q
  ·exact qey (h2 q) fun ρ=>by rw[evT]
  ·exact qey (qjV I.K h1 (qmI q)) fun ρ=>by rw[evT]
 |.bop c ts,C,X,fc,sc,x,I,h=>by
  unfold qhE at h
  split at h
  case h_2=>cases h
  simp only[Bool.and_eq_true,decide_eq_true_eq,Bool.not_eq_true'] at h
  obtain⟨⟨rfl,hx⟩,he⟩:=h
  exact qey (qgv c ts I he (by rintro rfl;cases hx)).pt fun ρ=>by rw[evT]
 |.not t,C,X,fc,sc,x,I,h=>by
  unfold qhE at h
  split at h
  case h_2=>cases h
  exact qey (qka (qcz t I h)) fun ρ=>by rw[evT]
theorem qgv {T:Tb} {Γ:Env}:∀(c:Bool) (ir:Tes) {C:Ctx} {X:Cx} {fc:Option Scope} {sc:Scope} {xs:List Expr} {pos:Pos},XOk T Γ C X fc sc→qfQ T ir fc sc xs=true→xs≠[]→PW X (.BoolOp (qhC c) xs pos) (tT C (qdx Γ c ir))
 |c,.nil,C,X,fc,sc,xs,pos,I,h,hn=>by
  unfold qfQ at h
  cases xs with
  |nil=>exact absurd rfl hn
  |cons _ _=>cases h
 |c,.cons a es,C,X,fc,sc,xs,pos,I,h,hn=>by
  unfold qfQ at h
  cases xs with
  |nil=>cases h
  |cons x xs =>
   simp only[Bool.and_eq_true] at h
   cases xs with
   |nil =>
    cases es with
    |nil=>exact qmd (qlJ (qcz a I h.1)) fun ρ=>by rw[qdx,qdx]
    |cons _ _=>have:=h.2;unfold qfQ at this;cases this
   |cons y ys=>exact qmd (qnw (qcz a I h.1) (qgv c es I h.2 (by simp))) fun ρ=>by rw[qdx]
theorem qgI {T:Tb} {Γ:Env}:∀(ir:Tes) {C:Ctx} {X:Cx} {fc:Option Scope} {sc:Scope} {xs:List Expr},XOk T Γ C X fc sc→qim T ir fc sc xs=true→PTs X xs (tT C (qdx Γ true ir))
 |.nil,C,X,fc,sc,xs,I,h=>by
  unfold qim at h
  cases xs with
  |nil =>
   refine⟨fun pins s σ H Q J q=>pts_nil.run pins s σ H Q J ?_⟩
   obtain⟨ρ,P,N,S,q⟩:=q
   rw[qdx] at q
   exact q.now S.reg
  |cons _ _=>cases h
 |.cons t ts,C,X,fc,sc,xs,I,h=>by
  unfold qim at h
  split at h
  case h_2=>cases h
  simp only[Bool.and_eq_true] at h
  cases ts with
  |cons _ _=>have:=h.2;cases this
  |nil =>
   have p:=qcz t I h.1
   refine⟨fun pins s σ H Q J q=>(pts_one p).run pins s σ H Q J ?_⟩
   obtain⟨ρ,P,N,S,q⟩:=q
   rw[qdx,qdx] at q
   refine⟨ρ,P,N,S,q.bind.mono fun k P1 N1 H1 e a1 h1=>?_⟩
   split at h1
   ·rename_i e;subst e;exact h1.now (S.adv a1).reg
   ·exact h1.now (S.adv a1).reg
theorem qgH {T:Tb} {Γ:Env}:∀(ir:Itx) {C:Ctx} {X:Cx} {fc:Option Scope} {sc:Scope} {t x:Expr},XOk T Γ C X fc sc→qiG T ir fc sc t x=true→PI X t x (tI C (evI Γ ir))
 |.any e,C,X,fc,sc,t,x,I,h=>by
  unfold qiG at h
  exact qd9 (qku I.K (qab e I h).1) fun ρ=>by rw[evI]
 |.rng es,C,X,fc,sc,t,x,I,h=>by
  unfold qiG at h
  split at h
  case h_2=>cases h
  rename_i r p xs q
  simp only[Bool.and_eq_true,decide_eq_true_eq] at h
  obtain⟨⟨⟨⟨rfl,hg⟩,he⟩,hs⟩,hl⟩:=h
  have m2:=I.blt "range" (by decide)
  have pa:=qbJ es I he hs
  rcases hl with hl | hl | hl
  ·obtain⟨a,rfl⟩:=qjU hl
   simp only[List.all_cons,Bool.and_eq_true] at hs
   exact qd9 (qhU (qbl I.sc hg) m2 pa (fun ρ r e=>qbr es ρ r _ he e) (qaa hs.1)) fun ρ=>by rw[evI]
  ·obtain⟨a,b,rfl⟩:=qkb hl
   have hs':=hs
   simp only[List.all_cons,Bool.and_eq_true] at hs
   exact qd9 (qiw (qbl I.sc hg) m2 pa (fun ρ r e=>qbr es ρ r _ he e) (by rw[qaa hs.1,qaa hs.2.1];rfl) (qaa hs.2.1)) fun ρ=>by rw[evI]
  ·obtain⟨a,b,c,rfl⟩:=qg8 hl
   simp only[List.all_cons,Bool.and_eq_true] at hs
   exact qd9 (qie (qbl I.sc hg) m2 pa (fun ρ r e=>qbr es ρ r _ he e) (qaa hs.1) (qcx (by simp[hs.2.1,hs.2.2.1]))) fun ρ=>by rw[evI]
 |.zp a b,C,X,fc,sc,t,x,I,h=>by
  unfold qiG at h
  split at h
  case h_2=>cases h
  simp only[Bool.and_eq_true,decide_eq_true_eq] at h
  obtain⟨⟨⟨⟨⟨⟨rfl,hg⟩,ha⟩,hb⟩,hs⟩,hs2⟩,ht⟩:=h
  cases t<;>try cases ht
  exact qd9 (qlp I.K (qbl I.sc hg) (I.blt _ (by decide)) (qab a I ha).1 (qab b I hb).1 (qaa hs) (qaa hs2) (qcx (by simp[hs2]))) fun ρ=>by rw[evI]<;>rfl
 |.en a,C,X,fc,sc,t,x,I,h=>by
  unfold qiG at h
  split at h
  case h_2=>cases h
  simp only[Bool.and_eq_true,decide_eq_true_eq] at h
  obtain⟨⟨⟨⟨rfl,hg⟩,ha⟩,hs⟩,ht⟩:=h
  cases t<;>try cases ht
  exact qd9 (qlO I.K (qbl I.sc hg) (I.blt _ (by decide)) (qab a I ha).1 (qaa hs)) fun ρ=>by rw[evI]<;>rfl
 |.rv a,C,X,fc,sc,t,x,I,h=>by
  unfold qiG at h
  split at h
  case h_2=>cases h
  simp only[Bool.and_eq_true,decide_eq_true_eq] at h
  obtain⟨⟨⟨rfl,hg⟩,ha⟩,hs⟩:=h
  exact qd9 (ql2 I.K (qbl I.sc hg) (I.blt _ (by decide)) (qab a I ha).1 (qaa hs)) fun ρ=>by rw[evI]<;>rfl
 |.rvr a,C,X,fc,sc,t,x,I,h=>by
  unfold qiG at h
  split at h
  case h_2=>cases h
  simp only[Bool.and_eq_true,decide_eq_true_eq] at h
  obtain⟨⟨⟨⟨⟨rfl,rfl⟩,hg⟩,hg2⟩,ha⟩,hs⟩:=h
  exact qd9 (qjv (qbl I.sc hg) (I.blt _ (by decide)) (qbl I.sc hg2) (I.blt _ (by decide)) (qab a I ha).1 (qaa hs)) fun ρ=>by rw[evI]<;>rfl
end
end Cm
namespace Cm
open PySem PySem.Spec PyProof.Rows L2
def swB (sc:Scope) (x:Str) (pn:Pos) (v:Expr):Bool:=match v with
 |.ListComp _ _ scope pos=>decide (sc.names.lookup x≠some .local)||(match sc.kind with
  |.function=>true
  |_=>false)&&decide (sc.names.lookup x=some .local)&&(pn.line == pos.line) && !(scope.names.any fun(n,k)=>n == x&&(k == .local||k == .cell))
 |.SetComp _ _ _ _=>false
 |.DictComp _ _ _ _ _=>false
 |_=>true
def qmA:Ex→Bool
 |.lc _ _ _ _ _=>true
 |_=>false
def qn5:Expr→Bool
 |.Tuple _ _ _=>false
 |_=>true
def qoA (T:Tb) (sc:Scope):List Nat→List Expr→Nat→Bool
 |[],[],_=>true
 |i::is,.Name x p::es,l=>decide (T.N[i]? = some x)&&decide (sc.names.lookup x=some .local)&&(p.line == l)&&qoA T sc is es l
 |_,_,_=>false
def qe3 (T:Tb) (sc:Scope):Tr→List Stmt→Bool
 |.ex e,ss=>match ss with
  |[.Expr v _]=>qao T e none sc v&&qbu v
  |_=>false
 |.as j e,ss=>match ss with
  |[.Assign [.Name x pn] v _]=>decide (T.N[j]? = some x)&&tgB none sc x&&qao T e none sc v&&(if qmA e then swB sc x pn v else qbu v)
  |_=>false
 |.iff t a b,ss=>match ss with
  |[.If c xs ys _]=>qhE T t none sc c&&qe3 T sc a xs&&qe3 T sc b ys
  |_=>false
def qgN (T:Tb) (sc:Scope):Pth→Expr→Bool
 |.var j,e=>match e with
  |.Name x _=>decide (T.N[j]? = some x)&&qjd sc x&&nmB x
  |_=>false
 |.ix p k,e=>match e with
  |.Subscript a (.Constant (.int m) _ _) _=>decide (m=(k:Int))&&qgN T sc p a
  |_=>false
def qfU (T:Tb) (sc:Scope):Ch1→Stmt→Bool
 |.clr p,s=>match s with
  |.Expr (.Call (.Attribute o mn apos) [] [] cpos) _=>decide (mn=("clear" : Str))&&qgN T sc p o&&(apos.endLine == cpos.line)
  |_=>false
 |.app p e,s=>match s with
  |.Expr (.Call (.Attribute o mn apos) [y] [] cpos) _=>decide (mn=("append" : Str))&&qgN T sc p o&&(apos.endLine == cpos.line)&&qao T e none sc y&&qae y
  |_=>false
 |.put p k e,s=>match s with
  |.Assign [.Subscript o (.Constant (.int m) _ _) _] v _=>decide (m=(k:Int))&&qgN T sc p o&&qao T e none sc v
  |_=>false
def qiN (T:Tb) (sc:Scope):List Ch1→List Stmt→Bool
 |[],[]=>true
 |c::cs,s::ss=>qfU T sc c s&&qiN T sc cs ss
 |_,_=>false
def qcT (T:Tb) (sc:Scope):Ch→List Stmt→Bool
 |.nil,ss=>ss.isEmpty
 |.one c r,ss=>match ss with
  |s::ss=>qfU T sc c s&&qcT T sc r ss
  |[]=>false
 |.wlk l p b r,ss=>match ss with
  |.For (.Name x _) iter body [] _::ss=>decide (T.N[l]? = some x)&&tgB none sc x&&qgN T sc p iter&&qiN T sc b body&&qcT T sc r ss
  |_=>false
 |.ifs j b r,ss=>match ss with
  |.If (.Compare (.Name x _) [.IsNot] [.Constant .none _ _] _) body [] _::ss=>decide (T.N[j]? = some x)&&qjd sc x&&nmB x&&qcT T sc b body&&qcT T sc r ss
  |_=>false
def qjR (T:Tb) (sc:Scope) (i f:Nat) (es:Exs):Stmt→Bool
 |.Assign [.Name x _] (.Call (.Name g _) xs [] _) _=>decide (T.N[i]? = some x)&&tgB none sc x&&decide (T.fn[f]? = some (g,xs.length))&&glB sc g&&nmB g&&qaR T es none sc xs&&xs.all qae
 |_=>false
mutual
def qdy (T:Tb) (sc:Scope):Sm→Stmt→Bool
 |.nev,_=>true
 |.rse k,s=>match s with
  |.Raise (some (.Call (.Name x _) [.Constant (.str _) _ _] [] _)) none _=>decide (T.xk[k]? = some x)&&glB sc x&&nmB x
  |_=>false
 |.tryx k i j b,s=>match s with
  |.Try body [.ExceptHandler (some (.Name x _)) (some n) [.Assign [.Name m _] (.Name n2 _) _] _] [] [] _=>decide ((T.ck[k]?).map (·.1)=some x)&&glB sc x&&nmB x&&decide (T.N[i]? = some n)&&decide (T.N[j]? = some m)&&decide (n2=n)&&decide (sc.names.lookup n=some .local)&&decide (sc.names.lookup m=some .local)&&nmB n&&decide (i≠j)&&qe3 T sc b body
  |_=>false
 |.asg i e,s=>match s with
  |.Assign [.Name x pn] v _=>decide (T.N[i]? = some x)&&tgB none sc x&&qao T e none sc v&&(if qmA e then swB sc x pn v else qbu v)
  |_=>false
 |.own i e,s=>match s with
  |.Assign [.Name x pn] v _=>decide (T.N[i]? = some x)&&tgB none sc x&&qao T e none sc v&&(if qmA e then swB sc x pn v else qbu v)
  |_=>false
 |.put i ix e,s=>match s with
  |.Assign [.Subscript (.Name x _) y _] v _=>decide (T.N[i]? = some x)&&qjd sc x&&nmB x&&qcw y&&qao T ix none sc y&&qao T e none sc v
  |_=>false
 |.app i e,s=>match s with
  |.Expr (.Call (.Attribute (.Name x _) mn apos) [y] [] cpos) _=>decide (T.N[i]? = some x)&&qjd sc x&&nmB x&&decide (mn=("append" : Str))&&qao T e none sc y&&qae y&&(apos.endLine == cpos.line)
  |_=>false
 |.clr i,s=>match s with
  |.Expr (.Call (.Attribute (.Name x _) mn apos) [] [] cpos) _=>decide (T.N[i]? = some x)&&qjd sc x&&nmB x&&decide (mn=("clear" : Str))&&(apos.endLine == cpos.line)
  |_=>false
 |.expr e,s=>match s with
  |.Expr v _=>qao T e none sc v&&qbu v
  |_=>false
 |.ret e,s=>match s with
  |.Return (some v) _=>qao T e none sc v
  |_=>false
 |.retN,s=>match s with
  |.Return none _=>true
  |_=>false
 |.pas,s=>match s with
  |.Pass _=>true
  |.Expr (.Constant (.str _) _ _) _=>true
  |_=>false
 |.brk,s=>match s with
  |.Break _=>true
  |_=>false
 |.cnt,s=>match s with
  |.Continue _=>true
  |_=>false
 |.iff c a b,s=>match s with
  |.If t xs ys _=>qhE T c none sc t&&qaL T sc a xs&&qaL T sc b ys
  |_=>false
 |.for it tg b,s=>match s with
  |.For t iter body [] _=>qiG T it none sc t iter&&qiI T none sc tg t&&qaL T sc b body&&qfc iter
  |_=>false
 |.row i es,s=>match s with
  |.Assign [.Name x _] (.List xs _) _=>decide (T.N[i]? = some x)&&tgB none sc x&&qaR T es none sc xs&&xs.all qae
  |_=>false
 |.whl c b,s=>match s with
  |.While t body [] _=>qhE T c none sc t&&qaL T sc b body
  |_=>false
def qaL (T:Tb) (sc:Scope):Sms→List Stmt→Bool
 |.nil,ss=>ss.isEmpty
 |.cons s ir,ss=>match ss with
  |st::ss=>qdy T sc s st&&qaL T sc ir ss
  |[]=>false
 |.frz _ ir,ss=>qaL T sc ir ss
 |.hav i f es rd cs ir,ss=>match ss with
  |st::ss=>qjR T sc i f es st&&qaL T sc rd (ss.take rd.len)&&qcT T sc cs ((ss.drop rd.len).take cs.len)&&qaL T sc ir ((ss.drop rd.len).drop cs.len)
  |[]=>false
end
theorem qh1 {T:Tb} {own:List Nat} {it:Itx} {tg:List Nat} {cnd:Tes} {e':Ex} {fc:Option Scope} {sc:Scope} {v:Expr} (h:qao T (.lc own it tg cnd e') fc sc v=true):∃elt tgt iter ifs scope p,v=.ListComp elt [⟨tgt,iter,ifs,0⟩] scope p:=by
 unfold qao at h
 split at h
 case h_2=>cases h
 exact⟨_,_,_,_,_,_,rfl⟩
theorem qhK {elt:Expr} {gs:List Comprehension} {scope:Scope} {pos py:Pos} {y:Str} {l:Nat} {env:PySem.Env} (hy:env.scope.names.lookup y≠some .local):swapsWith (.ListComp elt gs scope pos) (some (.Name y py)) l env=pure false:=by
 have ky:(env.kindOf y == some .local)=false:=beq_eq_false_iff_ne.mpr hy
 unfold swapsWith
 simp only[ky]
 simp
section
variable {T:Tb} {Γ:Env} {C:Ctx} {X:Cx} {sc:Scope}
theorem qeQ {i:Nat} {e:Ex} {x:Str} {pn pos:Pos} {v:Expr} (I:XOk T Γ C X none sc) (hi:T.N[i]? = some x) (ht:tgB none sc x=true) (hv:qao T e none sc v=true) (hw:(if qmA e then swB sc x pn v else qbu v)=true):PS X (.Assign [.Name x pn] v pos) (tAsg (tE C (ev Γ e)) (gName i)):=by
 obtain⟨h1,h2⟩:=qfS I ht
 cases e with
 |lc own it tg cnd e' =>
  obtain⟨elt,tgt,iter,ifs,scope,p,rfl⟩:=qh1 hv
  have hv0:=hv
  unfold qao at hv
  simp only[Bool.and_eq_true] at hv
  obtain⟨⟨⟨⟨⟨⟨hb,hi'⟩,ht'⟩,hsub⟩,hc⟩,he⟩,hs⟩:=hv
  simp only[qmA,if_true,swB,Bool.or_eq_true,Bool.and_eq_true,decide_eq_true_eq,Bool.not_eq_true'] at hw
  rcases hw with hw | hw
  ·exact ps_set I.nd (by rw[I.nm];exact hi) h1 (qab (.lc own it tg cnd e') I hv0).1 (qhK (by rw[I.sc];exact hw)) h2
  obtain⟨⟨⟨hk,hl⟩,hline⟩,hany⟩:=hw
  have hsub':∀i∈tg,i∈own:=fun i hi=>by simpa using List.all_eq_true.mp hsub i hi
  have hb':BlkOk X.N X.env.scope scope (own.map fun i=>(T.N.getD i Str.empty,i)):=by
   rw[I.nm,I.sc];exact blkOk_by hb
  have ho:((own.map fun i=>(T.N.getD i Str.empty,i)).map (·.2))=own:=by
   rw[List.map_map]
   exact List.map_id' own
  have hk':X.env.scope.kind=.function:=by
   rw[I.sc]
   cases e:sc.kind<;>simp_all
  have hl':X.env.scope.names.lookup x=some .local:=by rw[I.sc];exact hl
  have lc:=ps_setLc (i:=i) (y:=x) (py:=pn) (spos:=pos) (elt:=elt) (pos:=p) I.calm I.nd (by rw[I.nm];exact hi) hl' (sw_true hk' hl' hline hany) (qgH it I hi') hb' (fun s H Cd cl fp=>qdE (I.blk (s:=s) (H:=H) (cl:=cl) (A:=Cd) (fp:=fp)) ht') (fun s H Cd cl fp=>qgI cnd (I.blk (s:=s) (H:=H) (cl:=cl) (A:=Cd) (fp:=fp)) hc) (fun s H Cd cl fp=>(qab e' (I.blk (s:=s) (H:=H) (cl:=cl) (A:=Cd) (fp:=fp)) he).1) (qdL hs)
  rw[ho] at lc
  refine qah lc fun D σ H q=>?_
  have eg:(ev Γ (.lc own it tg cnd e'))=gLc own tg (evI Γ it) (qdx Γ true cnd) (ev Γ e'):=by funext ρ;rw[ev]<;>rfl
  unfold tAsg at q ⊢
  rw[eg] at q
  exact qi6 hsub' q
 |_ =>
  have hc:qbu v=true:=hw
  exact ps_set I.nd (by rw[I.nm];exact hi) h1 (qab _ I hv).1 (qcF hc) h2
theorem qfe {x y:Expr} {p:Pos} {v:Expr} {l:Nat} {env:PySem.Env}:swapsWithSole [.Subscript x y p] v l env=pure false:=by
 cases v<;>rfl
theorem qdw {x y:Expr} {p:Pos} {v:Expr} {env:PySem.Env}:swappedStores [.Subscript x y p] v env=pure none:=by
 cases v<;>rfl
theorem qgq {x y:Expr} {p:Pos} {env:PySem.Env} (h:qcw y=true) (v:Value):assign (.Subscript x y p) env v=(do
   let ov ←holding [v] (eval x env)
   let iv ←holding [v,ov] (eval y env)
   standAt p
   holding [v,ov,iv] (setItem ov iv v)
   release [v,ov,iv] []):=by
 cases y<;>first | rfl | cases h
theorem qgh {e:Expr} {env:PySem.Env} {cpos:Pos} (h:qae e=true):((backTo cpos (starEach [e] env)).all (fun x=>!x.1)&&(backToKw cpos (keywordEach [] env)).all (fun x=>x.1.isSome)
   && decide ([e].length+([]:List Keyword).length+(if ([]:List Keyword).isEmpty then 0 else 1)<30))=true:=by
 rw[qaa h];rfl
end
section
variable {T:Tb} {Γ:Env} {C:Ctx} {X:Cx} {sc:Scope}
end
theorem qeY {T:Tb} {Γ:Env} {sc:Scope}:∀(b:Tr) {C:Ctx} {X:Cx} {ss:List Stmt},XOk T Γ C X none sc→qe3 T sc b ss=true→PSs X ss (tR C (trB Γ b))
 |.ex e,C,X,ss,I,h=>by
  unfold qe3 at h
  split at h
  case h_2=>cases h
  simp only[Bool.and_eq_true] at h
  refine qan (pss_cons (ps_expr (qab e I h.1).1 (qcF h.2)) pss_nil) fun D σ H q=>?_
  obtain⟨ρ,P,N,S,h⟩:=q
  have h:res C σ P N H ((ev Γ e ρ).bind fun _=>.ok ρ) fun ρ' _ _ H'=>∀σ' P2 N2,Same P P2→Same N N2→SR C P2 N2 H' ρ' σ'→D.nx σ' H':=by rw[trB] at h;exact h
  exact⟨ρ,P,N,S,h.bind.mono fun x P1 N1 H1 _ a1 h1 v rv=>(res.now (S.adv a1).reg h1) σ P1 N1 a1.pp a1.nn (S.adv a1)⟩
 |.as j e,C,X,ss,I,h=>by
  unfold qe3 at h
  split at h
  case h_2=>cases h
  simp only[Bool.and_eq_true,decide_eq_true_eq] at h
  obtain⟨⟨⟨h1,h2⟩,h3⟩,h4⟩:=h
  refine qan (pss_cons (qeQ I h1 h2 h3 h4) pss_nil) fun D σ H q=>?_
  obtain⟨ρ,P,N,S,h⟩:=q
  rw[trB] at h
  refine⟨ρ,P,N,S,h.bind.mono fun x P1 N1 H1 _ a1 h1 v rv=>?_⟩
  cases x with
  |brw ds b=>exact h1.elim
  |val d b =>
   exact(res.now (S.adv a1).reg h1) _ P1 N1 a1.pp a1.nn ((S.adv a1).setV rv)
  |fre ds b =>
   obtain⟨N2,a2,r2⟩:=rv.freeze a1
   exact(res.now (S.adv a1).reg h1) _ P1 N2 a2.pp a2.nn ((S.adv a2).setV r2)
 |.iff t a b,C,X,ss,I,h=>by
  unfold qe3 at h
  split at h
  case h_2=>cases h
  simp only[Bool.and_eq_true] at h
  refine qan (pss_cons (ps_if (qcz t I h.1.1) (qeY a I h.1.2) (qeY b I h.2)) pss_nil) fun D σ H q=>?_
  obtain⟨ρ,P,N,S,h⟩:=q
  rw[trB] at h
  refine⟨ρ,P,N,S,h.bind.mono fun k P1 N1 H1 _ a1 h1=>?_⟩
  cases k with
  |true =>
   rw[if_pos rfl] at h1
   exact⟨ρ,P1,N1,S.adv a1,h1.mono fun ρ' _ _ H' _ _ q σ' P2 N2 e1 e2 S2=>q σ' P2 N2 (a1.pp.trans e1) (a1.nn.trans e2) S2⟩
  |false =>
   rw[if_neg Bool.false_ne_true] at h1
   exact⟨ρ,P1,N1,S.adv a1,h1.mono fun ρ' _ _ H' _ _ q σ' P2 N2 e1 e2 S2=>q σ' P2 N2 (a1.pp.trans e1) (a1.nn.trans e2) S2⟩
end Cm
namespace Cm
open PySem PySem.Spec PyProof.Rows L2
abbrev TL:=Addr→Option (List V)
def LT (T:TL):Addr→List V→Prop:=fun a xs=>T a=some xs
def qf6:V→Bool
 |.ref _=>true
 |_=>false
def clV (xs:List V):Nat:=if xs.isEmpty then 0 else if xs.any qf6 then 2 else 1
section
variable {G:Glo} {P:Hp} {LN:Addr→List V→Prop}
theorem qgG:∀{d:D} {v:V},Rep G P LN d v→qf6 v=d.isRef:=fun {d v} h=>by
 cases d with
 |non=>cases h;rfl
 |bl b=>cases h;rfl
 |int i=>cases h;rfl
 |str s=>cases h;rfl
 |lst ds=>obtain⟨a,xs,rfl,_⟩:=h;rfl
 |tup ds=>obtain⟨a,xs,rfl,_⟩:=h;rfl
 |ins c ds=>obtain⟨a,dx,xs,rfl,_⟩:=h;rfl
 |exc c fs=>obtain⟨_,a,rfl,_⟩:=h;rfl
theorem qfr:∀{ds:List D} {vs:List V},Reps G P LN ds vs→vs.any qf6=ds.any D.isRef
 |[],_,h=>by cases h;rfl
 |d::ds,vs,⟨v,r,e,h1,h2⟩=>by
  subst e
  rw[List.any_cons,List.any_cons,qgG h1,qfr h2]
theorem qbD {ds:List D} {vs:List V} (h:Reps G P LN ds vs):clV vs=clD ds:=by
 unfold clV clD
 rw[qfr h]
 have hl:=h.length
 have:vs.isEmpty=ds.isEmpty:=by
  cases vs<;>cases ds<;>first | rfl | cases hl
 rw[this]
end
section
variable (C:Ctx)
structure Raw (P N H:Hp) (ρ:List Sl) (σ:L2.St) (T:TL) (Z:Zs) (τ:List (Nat × D)):Prop where
 sr:SR C P N H ρ σ
 h:∀a xs,T a=some xs→∃ys,H a=some (.lst ys)∧(clV xs∉Z.1→ys=xs)∧ys.length≤xs.length+Z.2
 o:∀a xs,T a=some xs→P a=none∧N a=none∧C.B a=none
 ow:∀(j:Nat) (ds:List Cm.D) (b:Bool) (p:Addr),ρ[j]? = some (.own ds b)→σ[j]? = some (some (.ref p))→T p=none
 tr:∀(j:Nat) (d:Cm.D),(j,d)∈τ→ρ[j]? = some .non∧∃v,σ[j]? = some (some v)∧Rep C.G P (LT T) d v
 nr:∀(j:Nat) (s:Sl),ρ[j]? = some s→s.isW=false
end
section
variable {C:Ctx} {P N H P' N' H':Hp} {ρ:List Sl} {σ:L2.St} {T:TL} {Z:Zs} {τ:List (Nat × D)}
theorem Raw.sub {τ':List (Nat × D)} (h:Raw C P N H ρ σ T Z τ) (hs:∀e∈τ',e∈τ):Raw C P N H ρ σ T Z τ':=⟨h.sr,h.h,h.o,h.ow,fun j d m=>h.tr j d (hs _ m),h.nr⟩
theorem Raw.adv (h:Raw C P N H ρ σ T Z τ) (a:Adv P N H P' N' H'):Raw C P' N' H' ρ σ T Z τ where
 sr:=h.sr.adv a
 h:=fun b xs e=>by
  obtain⟨ys,h1,h2⟩:=h.h b xs e
  exact⟨ys,a.hh _ _ h1,h2⟩
 o:=fun b xs e=>by
  obtain⟨ys,h1,_⟩:=h.h b xs e
  obtain⟨o1,o2,o3⟩:=h.o b xs e
  exact⟨a.off h1 o1,a.offN h1 o2,o3⟩
 ow:=h.ow
 tr:=fun j d m=>by
  obtain⟨h1,v,h2,h3⟩:=h.tr j d m
  exact⟨h1,v,h2,Rep.mono a.pp d v (fun _ _ q=>q) h3⟩
 nr:=h.nr
theorem Raw.write {Z':Zs} {a:Addr} {xs ys:List V} (h:Raw C P N H ρ σ T Z τ) (e:T a=some xs) (hz:∀k,k∈Z.1→k∈Z'.1) (hc:clV xs∈Z'.1) (hn:Z.2≤Z'.2) (hl:ys.length≤xs.length+Z'.2):Raw C P N (upd H a (.lst ys)) ρ σ T Z' τ:=by
 obtain⟨o1,o2,o3⟩:=h.o a xs e
 obtain⟨zs,z1,_⟩:=h.h a xs e
 refine⟨⟨⟨qaQ h.sr.reg.pH o1,qaQ h.sr.reg.nH o2,qaQ h.sr.reg.bH o3,h.sr.reg.rB,h.sr.reg.p0,h.sr.reg.pn,h.sr.reg.nw,h.sr.reg.dj⟩,h.sr.len,fun j s ej=>?_,h.sr.ap,h.sr.ad,AR.no h.nr⟩,fun b us eb=>?_,h.o,h.ow,h.tr,h.nr⟩
 ·obtain⟨o,y1,y2⟩:=h.sr.sl j s ej
  refine⟨o,y1,?_⟩
  cases s with
  |non=>trivial
  |val d b=>exact y2
  |own es c =>
   obtain⟨r,vs,rfl,y4,y5⟩:=y2
   have hr:r≠a:=fun er=>by
    have:=h.ow j es c r ej y1
    rw[er,e] at this;cases this
   exact⟨r,vs,rfl,by rw[upd_ne hr];exact y4,y5⟩
  |slf c fs =>
   obtain⟨r,dx,vs,y3,y4,y5⟩:=y2
   have hr:r≠a:=fun er=>by rw[er,z1] at y4;cases y4
   exact⟨r,dx,vs,y3,by rw[upd_ne hr];exact y4,y5⟩
  |fxd d k=>exact y2
  |dct m c =>
   obtain⟨r,es,y3,y4,y5⟩:=y2
   have hr:r≠a:=fun er=>by rw[er,z1] at y4;cases y4
   exact⟨r,es,y3,by rw[upd_ne hr];exact y4,y5⟩
  |row dss=>have:=h.nr j _ ej;cases this
 ·by_cases q:b=a
  ·subst q
   rw[e] at eb;cases eb
   exact⟨ys,upd_same,fun hk=>absurd hc hk,hl⟩
  ·obtain⟨vs,h1,h2,h3⟩:=h.h b us eb
   exact⟨vs,by rw[upd_ne q];exact h1,fun hk=>h2 fun hk'=>hk (hz _ hk'),by omega⟩
theorem Raw.bind {l:Nat} {d:D} {v:V} (h:Raw C P N H ρ σ T Z τ) (hl:ρ[l]? = some .non) (r:Rep C.G P (LT T) d v):Raw C P N H ρ (σ.set l (some v)) T Z ((l,d)::drp l τ) where
 sr:=by
  refine⟨h.sr.reg,by rw[List.length_set];exact h.sr.len,fun j s ej=>?_,fun i j p ds b es c e1 e2 e3 e4=>?_,h.sr.ad.sub fun j m b e=>⟨List.getElem?_set_ne (fun q=>by subst q;rw[hl] at e;cases e),_,_,e⟩,AR.no h.nr⟩
  ·by_cases q:l=j
   ·subst q
    rw[hl] at ej;cases ej
    have hlt:l<σ.length:=by rw[h.sr.len];exact(List.getElem?_eq_some_iff.mp hl).1
    exact⟨some v,List.getElem?_set_self hlt,trivial⟩
   ·rw[List.getElem?_set_ne q];exact h.sr.sl j s ej
  ·have n1:l≠i:=fun q=>by subst q;rw[hl] at e1;cases e1
   have n2:l≠j:=fun q=>by subst q;rw[hl] at e2;cases e2
   rw[List.getElem?_set_ne n1] at e3
   rw[List.getElem?_set_ne n2] at e4
   exact h.sr.ap i j p ds b es c e1 e2 e3 e4
 h:=h.h
 o:=h.o
 ow:=fun j ds b p e1 e2=>by
  have n1:l≠j:=fun q=>by subst q;rw[hl] at e1;cases e1
  rw[List.getElem?_set_ne n1] at e2
  exact h.ow j ds b p e1 e2
 tr:=fun j e m=>by
  rcases List.mem_cons.mp m with m | m
  ·cases m
   have hlt:l<σ.length:=by rw[h.sr.len];exact(List.getElem?_eq_some_iff.mp hl).1
   exact⟨hl,v,List.getElem?_set_self hlt,r⟩
  ·have m':=List.mem_filter.mp m
   have n1:l≠j:=fun q=>by subst q;simp at m'
   obtain⟨h1,u,h2,h3⟩:=h.tr j e m'.1
   exact⟨h1,u,by rw[List.getElem?_set_ne n1];exact h2,h3⟩
 nr:=h.nr
theorem qb8 {j:Nat} {d:D}:∀{τ:List (Nat × D)},τ.lookup j=some d→(j,d)∈τ
 |[],h=>by cases h
 |(k,e)::τ,h=>by
  rw[List.lookup_cons] at h
  by_cases q:j=k
  ·subst q
   simp at h
   subst h
   exact List.mem_cons_self
  ·have:(j == k)=false:=by simpa using q
   rw[this] at h
   exact List.mem_cons_of_mem _ (qb8 h)
def tP (C:Ctx) (p:Pth):TE:=fun σ H Q=>∃P N ρ T Z τ d,Raw C P N H ρ σ T Z τ∧qiv τ Z p=some d∧∀v,Rep C.G P (LT T) d v→Q v H
end
theorem qgL {α:Type} {xs:List α} {k:Nat} {x:α} (h:xs[k]? = some x):atI xs (k:Int)=some x:=by
 have hk:=(List.getElem?_eq_some_iff.mp h).1
 unfold atI ixN
 have h1:(0:Int)≤k∧(k:Int)<xs.length:=⟨by omega,by omega⟩
 simp[h1,h]
mutual
theorem qeO {Γ:Env}:∀(e:Ex),qcn e=true→∀ρ,∃er,ev Γ e ρ=.ok er∧er.isB=false
 |.cint i,_,ρ=>⟨_,by rw[ev];rfl,rfl⟩
 |.cstr s,_,ρ=>⟨_,by rw[ev];rfl,rfl⟩
 |.cbl b,_,ρ=>⟨_,by rw[ev];rfl,rfl⟩
 |.cnon,_,ρ=>⟨_,by rw[ev];rfl,rfl⟩
 |.tup es,h,ρ=>by
  rw[qcn] at h
  obtain⟨r,e1,e2⟩:=qdK es h ρ
  refine⟨.val (.tup (r.map ER.d)) (r.all ER.b),?_,rfl⟩
  rw[ev,e1,RE.bind_ok,dis,if_pos e2]
 |.lst es,h,ρ=>by
  rw[qcn] at h
  obtain⟨r,e1,e2⟩:=qdK es h ρ
  refine⟨.fre (r.map ER.d) (r.all ER.b),?_,rfl⟩
  rw[ev,e1,RE.bind_ok,dis,if_pos e2]
 |.nev,h,_=>by simp[qcn] at h
 |.var _,h,_=>by simp[qcn] at h
 |.glo _,h,_=>by simp[qcn] at h
 |.bin _ _ _,h,_=>by simp[qcn] at h
 |.cmp _ _ _,h,_=>by simp[qcn] at h
 |.isN _,h,_=>by simp[qcn] at h
 |.notN _,h,_=>by simp[qcn] at h
 |.bop _ _,h,_=>by simp[qcn] at h
 |.bnot _,h,_=>by simp[qcn] at h
 |.idx _ _,h,_=>by simp[qcn] at h
 |.slc _ _ _,h,_=>by simp[qcn] at h
 |.call _ _,h,_=>by simp[qcn] at h
 |.pri _ _,h,_=>by simp[qcn] at h
 |.bm1 _ _ _,h,_=>by simp[qcn] at h
 |.isi _ _,h,_=>by simp[qcn] at h
 |.lc _ _ _ _ _,h,_=>by simp[qcn] at h
 |.inxL _ _,h,_=>by simp[qcn] at h
 |.inxS _ _,h,_=>by simp[qcn] at h
 |.isc _ _,h,_=>by simp[qcn] at h
theorem qdK {Γ:Env}:∀(es:Exs),qgK es=true→∀ρ,∃r,evs Γ es ρ=.ok r∧r.all ER.isV=true
 |.nil,_,ρ=>⟨[],by rw[evs],rfl⟩
 |.cons e es,h,ρ=>by
  rw[qgK,Bool.and_eq_true] at h
  obtain⟨x,e1,e2⟩:=qeO e h.1 ρ
  obtain⟨r,e3,e4⟩:=qdK es h.2 ρ
  refine⟨x.frz::r,by rw[evs,e1,RE.bind_ok,e3,RE.bind_ok],?_⟩
  rw[List.all_cons,e4,Bool.and_true]
  cases x<;>first | rfl | cases e2
end
theorem qgd {G:Glo} {P:Hp} {LN:Addr→List V→Prop} {d:D} {v:V} (h:Rep G P LN d v):d.isNon=decide (v=.non):=by
 cases d with
 |non=>cases h;rfl
 |bl b=>cases h;rfl
 |int i=>cases h;rfl
 |str s=>cases h;rfl
 |lst ds=>obtain⟨a,xs,rfl,_⟩:=h;rfl
 |tup ds=>obtain⟨a,xs,rfl,_⟩:=h;rfl
 |ins c ds=>obtain⟨a,dx,xs,rfl,_⟩:=h;rfl
 |exc c fs=>obtain⟨_,a,rfl,_⟩:=h;rfl
section
variable {T:Tb} {Γ:Env} {C:Ctx} {X:Cx} {sc:Scope}
theorem qbX:∀{p:Pth} {e:Expr},qgN T sc p e=true→qfc e=true∧qf5 e=true
 |.var j,e,h=>by
  unfold qgN at h
  split at h
  ·exact⟨rfl,rfl⟩
  ·cases h
 |.ix p k,e,h=>by
  unfold qgN at h
  split at h
  ·exact⟨rfl,rfl⟩
  ·cases h
theorem qek (I:XOk T Γ C X none sc):∀(p:Pth) {e:Expr},qgN T sc p e=true→PE X e (tP C p)
 |.var j,e,h=>by
  unfold qgN at h
  split at h
  case h_2=>cases h
  simp only[Bool.and_eq_true,decide_eq_true_eq] at h
  obtain⟨⟨h1,h2⟩,h3⟩:=h
  obtain⟨n1,n2⟩:=qbY h3
  refine qag (pe_var (i:=j) (by rw[I.nm];exact h1) (qds I.sc h2) n1 n2) fun σ H Q q=>?_
  obtain⟨P,N,ρ,TT,Z,τ,d,R,e,k⟩:=q
  obtain⟨_,v,e2,r⟩:=R.tr j d (qb8 (by simpa[qiv] using e))
  exact⟨v,e2,k v r⟩
 |.ix p k,e,h=>by
  unfold qgN at h
  split at h
  case h_2=>cases h
  simp only[Bool.and_eq_true,decide_eq_true_eq] at h
  obtain⟨rfl,h2⟩:=h
  refine qag (pe_ix ix_seq (qek I p h2) pe_int (fun _ _=>rfl)) fun σ H Q q=>?_
  obtain⟨P,N,ρ,TT,Z,τ,d,R,e,kk⟩:=q
  rw[qiv] at e
  split at e
  ·rename_i ds e1
   refine⟨P,N,ρ,TT,Z,τ,_,R,e1,fun v r=>?_⟩
   obtain⟨a,xs,rfl,z1,z2⟩:=r
   obtain⟨u,q1,q2⟩:=z2.get e
   exact .inr (.inl ⟨a,xs,k,u,rfl,rfl,I.K ▸ Same.seqT R.sr.reg.pH z1,qgL q1,kk u q2⟩)
  ·rename_i ds e1
   split at e
   ·cases e
   ·rename_i hz
    refine⟨P,N,ρ,TT,Z,τ,_,R,e1,fun v r=>?_⟩
    obtain⟨a,xs,rfl,z1,z2⟩:=r
    obtain⟨u,q1,q2⟩:=z2.get e
    obtain⟨ys,y1,y2,_⟩:=R.h a xs z1
    have:=y2 (by rw[qbD z2];exact hz)
    subst this
    exact .inl ⟨a,ys,k,u,rfl,rfl,.inl (.inl y1),qgL q1,kk u q2⟩
  ·cases e
theorem qge {τ:List (Nat × D)} {Z Z':Zs} {c:Ch1} (h:qfV τ Z c=some Z'):(∀k,k∈Z.1→k∈Z'.1)∧Z.2≤Z'.2:=by
 cases c with
 |clr p =>
  simp only[qfV] at h
  split at h
  ·cases h;exact⟨fun k hk=>List.mem_cons_of_mem _ hk,Nat.le_refl _⟩
  ·cases h
 |app p e =>
  simp only[qfV] at h
  split at h
  ·split at h
   ·cases h;exact⟨fun k hk=>List.mem_cons_of_mem _ hk,Nat.le_succ _⟩
   ·cases h
  ·cases h
 |put p k e =>
  simp only[qfV] at h
  split at h
  ·split at h
   ·cases h
   ·split at h
    ·cases h;exact⟨fun k hk=>List.mem_cons_of_mem _ hk,Nat.le_refl _⟩
    ·cases h
  ·cases h
theorem qet {τ:List (Nat × D)}:∀{cs:List Ch1} {Z Z':Zs},qg1 τ cs Z=some Z'→(∀k,k∈Z.1→k∈Z'.1)∧Z.2≤Z'.2
 |[],Z,Z',h=>by cases h;exact⟨fun _ h=>h,Nat.le_refl _⟩
 |c::cs,Z,Z',h=>by
  rw[qg1] at h
  cases e:qfV τ Z c with
  |none=>rw[e] at h;cases h
  |some Z1 =>
   rw[e] at h
   obtain⟨a1,a2⟩:=qge e
   obtain⟨b1,b2⟩:=qet (cs:=cs) h
   exact⟨fun k hk=>b1 k (a1 k hk),Nat.le_trans a2 b2⟩
theorem qcJ {f:D→Zs→Option Zs} (hf:∀d Z Z',f d Z=some Z'→(∀k,k∈Z.1→k∈Z'.1)∧Z.2≤Z'.2):∀{ds:List D} {Z Z':Zs},qix f ds Z=some Z'→(∀k,k∈Z.1→k∈Z'.1)∧Z.2≤Z'.2
 |[],Z,Z',h=>by cases h;exact⟨fun _ h=>h,Nat.le_refl _⟩
 |d::ds,Z,Z',h=>by
  rw[qix] at h
  cases e:f d Z with
  |none=>rw[e] at h;cases h
  |some Z1 =>
   rw[e] at h
   obtain⟨a1,a2⟩:=hf _ _ _ e
   obtain⟨b1,b2⟩:=qcJ hf (ds:=ds) h
   exact⟨fun k hk=>b1 k (a1 k hk),Nat.le_trans a2 b2⟩
def tC1 (C:Ctx) (c:Ch1):TS:=fun D σ H=>∃P N ρ T Z τ Z',Raw C P N H ρ σ T Z τ∧qfV τ Z c=some Z'∧∀P' N' H',Raw C P' N' H' ρ σ T Z' τ→L2.Same P P'→L2.Same N N'→D.nx σ H'
theorem qdF {G:Glo} {P:Hp} {LN:Addr→List V→Prop} {ds:List D} {v:V} (h:Rep G P LN (.lst ds) v):∃a xs,v=.ref a∧LN a xs∧Reps G P LN ds xs:=h
theorem qg3 (I:XOk T Γ C X none sc):∀(c:Ch1) {s:Stmt},qfU T sc c s=true→PS X s (tC1 C c)
 |.clr p,s,h=>by
  simp only[qfU] at h
  split at h
  case h_2=>cases h
  simp only[Bool.and_eq_true,decide_eq_true_eq] at h
  obtain⟨⟨rfl,h2⟩,h3⟩:=h
  refine qah (ps_expr (pe_bm0 PySem.F.plainAttrs_list PySem.F.slot_list_clear PySem.F.type_list_clear mt_clear (qek I p h2) (qcP (qbX h2).2) h3) rfl) fun D σ H q=>?_
  obtain⟨P,N,ρ,TT,Z,τ,Z',R,e,k⟩:=q
  simp only[qfV] at e
  split at e
  ·rename_i ds e1
   cases e
   refine⟨P,N,ρ,TT,Z,τ,_,R,e1,fun v r=>?_⟩
   obtain⟨a,xs,rfl,z1,z2⟩:=qdF r
   obtain⟨ys,y1,_⟩:=R.h a xs z1
   refine⟨.inl ⟨rfl,ys,.inl (.inl y1)⟩,a,ys,rfl,rfl,y1,k P N _ (R.write z1 (fun k hk=>List.mem_cons_of_mem _ hk) ?_ (Nat.le_refl _) (Nat.zero_le _)) (L2.Same.refl _) (L2.Same.refl _)⟩
   rw[qbD z2];exact List.mem_cons_self
  ·cases e
 |.app p ex,s,h=>by
  simp only[qfU] at h
  split at h
  case h_2=>cases h
  simp only[Bool.and_eq_true,decide_eq_true_eq] at h
  obtain⟨⟨⟨⟨rfl,h2⟩,h3⟩,h4⟩,h5⟩:=h
  refine qah (ps_expr (pe_bm PySem.F.plainAttrs_list PySem.F.slot_list_append PySem.F.type_list_append mt_append (qek I p h2) (pa_cons (qab ex I h4).1 pa_nil (qaa h5)) (qcP (qbX h2).2) (qgh h5) h3 (qaa h5) rfl) rfl) fun D σ H q=>?_
  obtain⟨P,N,ρ,TT,Z,τ,Z',R,e,k⟩:=q
  simp only[qfV] at e
  split at e
  ·rename_i ds e1
   split at e
   ·rename_i hc
    cases e
    simp only[Bool.and_eq_true,qai] at hc
    refine⟨P,N,ρ,TT,Z,τ,_,R,e1,fun v r=>?_⟩
    obtain⟨a,xs,rfl,z1,z2⟩:=qdF r
    obtain⟨ys,y1,y2,y3⟩:=R.h a xs z1
    obtain⟨er,q1,q2⟩:=qeO (Γ:=Γ) ex hc.1 ρ
    refine⟨.inl ⟨rfl,ys,.inl (.inl y1)⟩,ρ,P,N,R.sr,?_⟩
    rw[q1]
    intro P1 N1 H1 a1 u ru
    have hl:=z2.length
    have h6:ys.length+1≤LIM:=by have:=hc.2;omega
    refine⟨a,ys,u,rfl,rfl,a1.hh _ _ y1,h6,?_⟩
    refine k P1 N1 _ ((R.adv a1).write z1 (fun k hk=>List.mem_cons_of_mem _ hk) ?_ (Nat.le_succ _) ?_) a1.pp a1.nn
    ·rw[qbD z2];exact List.mem_cons_self
    ·rw[List.length_append,List.length_singleton];show ys.length+1≤xs.length+(Z.2+1);omega
   ·cases e
  ·cases e
 |.put p m ex,s,h=>by
  simp only[qfU] at h
  split at h
  case h_2=>cases h
  simp only[Bool.and_eq_true,decide_eq_true_eq] at h
  obtain⟨⟨rfl,h2⟩,h4⟩:=h
  refine qah (ps_asg (qab ex I h4).1 (pg_sub (qek I p h2) pe_int set_list (qgq rfl)) qfe qdw rfl) fun D σ H q=>?_
  obtain⟨P,N,ρ,TT,Z,τ,Z',R,e,k⟩:=q
  simp only[qfV] at e
  split at e
  ·rename_i ds e1
   split at e
   ·cases e
   ·rename_i hz
    split at e
    ·rename_i hc
     cases e
     simp only[Bool.and_eq_true,decide_eq_true_eq] at hc
     obtain⟨er,q1,q2⟩:=qeO (Γ:=Γ) ex hc.1 ρ
     refine⟨ρ,P,N,R.sr,?_⟩
     rw[q1]
     intro P1 N1 H1 a1 u ru
     refine⟨P1,N1,ρ,TT,Z,τ,_,R.adv a1,e1,fun v r=>?_⟩
     obtain⟨a,xs,rfl,z1,z2⟩:=qdF r
     obtain⟨ys,y1,y2,y3⟩:=(R.adv a1).h a xs z1
     have hy:=y2 (by rw[qbD z2];exact hz)
     subst hy
     have hl:=z2.length
     have hix:ixN ys.length (m:Int)=some m:=by
      unfold ixN
      rw[if_pos (by omega),if_pos (by omega)]
      simp
     refine⟨a,ys,m,m,rfl,rfl,y1,hix,k P1 N1 _ ((R.adv a1).write z1 (fun k hk=>List.mem_cons_of_mem _ hk) ?_ (Nat.le_refl _) ?_) a1.pp a1.nn⟩
     ·rw[qbD z2];exact List.mem_cons_self
     ·rw[List.length_set];exact Nat.le_add_right _ _
    ·cases e
  ·cases e
def tCL (C:Ctx) (cs:List Ch1):TS:=fun D σ H=>∃P N ρ T Z τ Z',Raw C P N H ρ σ T Z τ∧qg1 τ cs Z=some Z'∧∀P' N' H',Raw C P' N' H' ρ σ T Z' τ→L2.Same P P'→L2.Same N N'→D.nx σ H'
theorem qg9 (I:XOk T Γ C X none sc):∀(cs:List Ch1) {ss:List Stmt},qiN T sc cs ss=true→PSs X ss (tCL C cs)
 |[],[],_=>qan pss_nil fun D σ H q=>by
  obtain⟨P,N,ρ,TT,Z,τ,Z',R,e,k⟩:=q
  cases e
  exact k P N H R (L2.Same.refl _) (L2.Same.refl _)
 |c::cs,s::ss,h=>by
  simp only[qiN,Bool.and_eq_true] at h
  refine qan (pss_cons (qg3 I c h.1) (qg9 I cs h.2)) fun D σ H q=>?_
  obtain⟨P,N,ρ,TT,Z,τ,Z',R,e,k⟩:=q
  rw[qg1] at e
  cases e1:qfV τ Z c with
  |none=>rw[e1] at e;cases e
  |some Z1 =>
   rw[e1] at e
   exact⟨P,N,ρ,TT,Z,τ,Z1,R,e1,fun P1 N1 H1 R1 s1 s2=>⟨P1,N1,ρ,TT,Z1,τ,Z',R1,e,fun P2 N2 H2 R2 s3 s4=>k P2 N2 H2 R2 (s1.trans s3) (s2.trans s4)⟩⟩
 |[],_::_,h=>by cases h
 |_::_,[],h=>by cases h
end
end Cm
namespace Cm
open PySem PySem.Spec PyProof.Rows L2
section
variable {T:Tb} {Γ:Env} {C:Ctx} {X:Cx} {sc:Scope}
theorem qjO {l:Nat} {τ:List (Nat × D)}:drp l (drp l τ)=drp l τ:=by
 unfold drp
 rw[List.filter_filter]
 simp
theorem qk3 {l:Nat} {τ:List (Nat × D)} {e:Nat × D} (h:e∈drp l τ):e∈τ:=(List.mem_filter.mp h).1
theorem qfD {ls:List Nat} {τ:List (Nat × D)} {e:Nat × D} (h:e∈qgf ls τ):e∈τ:=(List.mem_filter.mp h).1
theorem qiO {l:Nat} {ls:List Nat} {τ:List (Nat × D)} {e:Nat × D} (h:e∈qgf (l::ls) τ):e∈qgf ls (drp l τ):=by
 unfold qgf drp at *
 rw[List.filter_filter]
 have:=List.mem_filter.mp h
 refine List.mem_filter.mpr ⟨this.1,?_⟩
 simpa[not_or,and_comm] using this.2
theorem qft {l ls:List Nat} {τ:List (Nat × D)} {e:Nat × D} (h:e∈qgf (l++ls) τ):e∈qgf ls (qgf l τ):=by
 unfold qgf at *
 rw[List.filter_filter]
 have:=List.mem_filter.mp h
 refine List.mem_filter.mpr ⟨this.1,?_⟩
 simpa[not_or,and_comm] using this.2
theorem qkp (hK:X.K=C.G.K) {l:Nat} {p:Pth} {b:List Ch1} {D:Ends} {σ:L2.St} {H:Hp} {P N:Hp} {ρ:List Sl} {TT:TL} {Z Z1:Zs} {τ:List (Nat × Cm.D)} {ds:List Cm.D} (R:Raw C P N H ρ σ TT Z τ) (hl:ρ[l]? = some .non)
  (e:qiv τ Z p=some (.lst ds)) (ew:qix (fun d Z=>qg1 ((l,d)::drp l τ) b Z) ds Z=some Z1) (hz:clD ds∉Z1.1)
  (k:∀σ' P' N' H',Raw C P' N' H' ρ σ' TT Z1 (drp l τ)→L2.Same P P'→L2.Same N N'→D.nx σ' H'):tFor (qng X.K (tP C p)) (gName l) (tCL C b) D σ H:=by
 have hm:∀d Z Z',qg1 ((l,d)::drp l τ) b Z=some Z'→(∀k,k∈Z.1→k∈Z'.1)∧Z.2≤Z'.2:=fun d Z Z'=>qet
 refine⟨P,N,ρ,TT,Z,τ,_,R,e,fun v r=>?_⟩
 obtain⟨a,xs,rfl,z1,z2⟩:=qdF r
 have hlen:=z2.length
 have seq:∀{P' N' H':Hp} {σ':L2.St} {Z2:Zs} {τ':List (Nat × Cm.D)},Raw C P' N' H' ρ σ' TT Z2 τ'→(∀k,k∈Z2.1→k∈Z1.1)→SqL X.K H' a xs:=fun {P' N' H' σ' Z2 τ'} R' hs=>by
  obtain⟨ys,y1,y2,_⟩:=R'.h a xs z1
  have:=y2 fun q=>hz (by rw[←qbD z2];exact hs _ q)
  subst this
  exact .inl (.inl y1)
 refine .inl (.inl ⟨a,rfl,⟨xs,seq R (qcJ hm ew).1⟩,?_⟩)
 refine for_it (walk_list (K:=X.K) (a:=a) (xs:=xs)) (Pv:=fun i σ' H'=>∃P' N' Z2,Raw C P' N' H' ρ σ' TT Z2 (drp l τ)∧L2.Same P P'∧L2.Same N N'∧qix (fun d Z=>qg1 ((l,d)::drp l τ) b Z) (ds.drop i) Z2=some Z1) ?_ (fun i σ' H' hi q=>?_) (fun i x σ' H' H'' hi q y=>?_) (fun σ' H' q=>?_)
 ·exact⟨P,N,Z,R.sub fun _=>qk3,L2.Same.refl _,L2.Same.refl _,by simpa using ew⟩
 ·obtain⟨P',N',Z2,R',_,_,e'⟩:=q
  exact seq R' (qcJ hm e').1
 ·obtain⟨P',N',Z2,R',s1,s2,e'⟩:=q
  obtain⟨rfl,ex⟩:=y
  have hi':i<ds.length:=by omega
  obtain⟨v,q1,q2⟩:=Reps.get z2 (List.getElem?_eq_getElem hi')
  rw[q1] at ex;cases ex
  rw[List.drop_eq_getElem_cons hi',qix] at e'
  cases e2:qg1 ((l,ds[i])::drp l τ) b Z2 with
  |none=>rw[e2] at e';cases e'
  |some Z3 =>
   rw[e2] at e'
   have RB:=R'.bind hl (Rep.mono s1 _ _ (fun _ _ q=>q) q2)
   rw[qjO] at RB
   exact⟨P',N',ρ,TT,Z2,_,Z3,RB,e2,fun P4 N4 H4 R4 s3 s4=>⟨P4,N4,Z3,R4.sub fun _ h=>List.mem_cons_of_mem _ h,s1.trans s3,s2.trans s4,e'⟩⟩
 ·obtain⟨P',N',Z2,R',s1,s2,e'⟩:=q
  rw[hlen,List.drop_length,qix] at e'
  cases e'
  exact k σ' P' N' H' R' s1 s2
def tCk (C:Ctx) (c:Ch) (u:TS):TS:=fun D σ H=>∃P N ρ T Z τ Z',Raw C P N H ρ σ T Z τ∧(∀l∈c.tgs,ρ[l]? = some .non)∧chg c τ Z=some Z'∧∀σ' P' N' H',Raw C P' N' H' ρ σ' T Z' (qgf c.tgs τ)→L2.Same P P'→L2.Same N N'→u D σ' H'
theorem qcA (I:XOk T Γ C X none sc) (hp:PassesOwn (model X.prog X.w) X.A X.env X.xe):∀(c:Ch) {ss rest:List Stmt} {u:TS},qcT T sc c ss=true→PSs X rest u→PSs X (ss++rest) (tCk C c u)
 |.nil,ss,rest,u,h,hr=>by
  simp only[qcT,List.isEmpty_iff] at h
  subst h
  refine qan hr fun D σ H q=>?_
  obtain⟨P,N,ρ,TT,Z,τ,Z',R,_,e,k⟩:=q
  cases e
  exact k σ P N H (R.sub fun _=>qfD) (L2.Same.refl _) (L2.Same.refl _)
 |.one c r,ss,rest,u,h,hr=>by
  cases ss with
  |nil=>simp[qcT] at h
  |cons s ss =>
   simp only[qcT,Bool.and_eq_true] at h
   refine qan (pss_cons (qg3 I c h.1) (qcA I hp r h.2 hr)) fun D σ H q=>?_
   obtain⟨P,N,ρ,TT,Z,τ,Z',R,hn,e,k⟩:=q
   rw[chg] at e
   cases e1:qfV τ Z c with
   |none=>rw[e1] at e;cases e
   |some Z1 =>
    rw[e1] at e
    exact⟨P,N,ρ,TT,Z,τ,Z1,R,e1,fun P1 N1 H1 R1 s1 s2=>⟨P1,N1,ρ,TT,Z1,τ,Z',R1,hn,e,fun σ2 P2 N2 H2 R2 s3 s4=>k σ2 P2 N2 H2 R2 (s1.trans s3) (s2.trans s4)⟩⟩
 |.wlk l p b r,ss,rest,u,h,hr=>by
  simp only[qcT] at h
  split at h
  case h_2=>cases h
  simp only[Bool.and_eq_true,decide_eq_true_eq] at h
  obtain⟨⟨⟨⟨h1,h2⟩,h3⟩,h4⟩,h5⟩:=h
  obtain⟨t1,t2⟩:=qfS I h2
  refine qan (pss_cons (ps_for hp I.calm (qjn (qek I p h3)) (pg_name I.nd (by rw[I.nm];exact h1) t1 t2) (qg9 I b h4) (qdL (qbX h3).1)) (qcA I hp r h5 hr)) fun D σ H q=>?_
  obtain⟨P,N,ρ,TT,Z,τ,Z',R,hn,e,k⟩:=q
  rw[chg] at e
  split at e
  ·rename_i ds e1
   cases ew:qix (fun d Z=>qg1 ((l,d)::drp l τ) b Z) ds Z with
   |none=>rw[ew] at e;cases e
   |some Z1 =>
    rw[ew] at e
    simp only[Option.bind_some] at e
    split at e
    ·cases e
    ·rename_i hz
     refine qkp I.K R (hn l (by simp[Ch.tgs])) e1 ew hz fun σ1 P1 N1 H1 R1 s1 s2=>?_
     exact⟨P1,N1,ρ,TT,Z1,_,Z',R1,fun m hm=>hn m (by simp[Ch.tgs,hm]),e,fun σ2 P2 N2 H2 R2 s3 s4=>k σ2 P2 N2 H2 (R2.sub fun _ h=>qiO h) (s1.trans s3) (s2.trans s4)⟩
  ·cases e
 |.ifs j b r,ss,rest,u,h,hr=>by
  simp only[qcT] at h
  split at h
  case h_2=>cases h
  simp only[Bool.and_eq_true,decide_eq_true_eq] at h
  obtain⟨⟨⟨⟨h1,h2⟩,h3⟩,h4⟩,h5⟩:=h
  obtain⟨n1,n2⟩:=qbY h3
  have hb:=qcA I hp b (rest:=[]) (u:=tNext) h4 pss_nil
  rw[List.append_nil] at hb
  refine qan (pss_cons (ps_if (pt_cmp (pc_notN (pe_var (i:=j) (by rw[I.nm];exact h1) (qds I.sc h2) n1 n2))) hb pss_nil) (qcA I hp r h5 hr)) fun D σ H q=>?_
  obtain⟨P,N,ρ,TT,Z,τ,Z',R,hn,e,k⟩:=q
  rw[chg] at e
  split at e
  ·rename_i d ed
   obtain⟨_,v,ev,rv⟩:=R.tr j d (qb8 ed)
   refine⟨v,ev,_,rfl,?_⟩
   rw[←qgd rv]
   have hnb:∀l∈b.tgs,ρ[l]? = some .non:=fun m hm=>hn m (by simp[Ch.tgs,hm])
   have hnr:∀l∈r.tgs,ρ[l]? = some .non:=fun m hm=>hn m (by simp[Ch.tgs,hm])
   cases hd:d.isNon with
   |true =>
    rw[hd] at e
    simp only[if_true] at e
    exact⟨P,N,ρ,TT,Z,_,Z',R.sub fun _=>qfD,hnr,e,fun σ2 P2 N2 H2 R2 s3 s4=>k σ2 P2 N2 H2 (R2.sub fun _ h=>qft h) s3 s4⟩
   |false =>
    rw[hd] at e
    simp only[Bool.false_eq_true,if_false] at e
    cases eb:chg b τ Z with
    |none=>rw[eb] at e;cases e
    |some Z1 =>
     rw[eb] at e
     simp only[Option.bind_some] at e
     exact⟨P,N,ρ,TT,Z,τ,Z1,R,hnb,eb,fun σ1 P1 N1 H1 R1 s1 s2=>⟨P1,N1,ρ,TT,Z1,_,Z',R1,hnr,e,fun σ2 P2 N2 H2 R2 s3 s4=>k σ2 P2 N2 H2 (R2.sub fun _ h=>qft h) (s1.trans s3) (s2.trans s4)⟩⟩
  ·cases e
end
end Cm
namespace Cm
open PySem PySem.Spec PyProof.Rows L2
def tSk (C:Ctx) (g:List Sl→Out) (u:TS):TS:=fun D σ H=>∃ρ P N,SR C P N H ρ σ∧outS C P N { D with nx:=u D } (g ρ)
structure HvR (P H P' H':Hp) (T:TL):Prop where
 hh:Same H H'
 pp:Same P P'
 pH:Same P' H'
 pn:∀a,P' a≠none→P a≠none∨H a=none
 t:∀a xs,T a=some xs→H' a=some (.lst xs)∧H a=none∧P' a=none
def TR (T:TL) (R:Hp):Hp:=fun a=>match T a with
 |some xs=>some (.lst xs)
 |none=>R a
theorem qcX {T:TL} {R:Hp} {a:Addr} {xs:List V} (h:T a=some xs):TR T R a=some (.lst xs):=by unfold TR;rw[h]
theorem qbE {T:TL} {R:Hp} {a:Addr} (h:T a=none):TR T R a=R a:=by unfold TR;rw[h]
theorem qdP {T:TL} {R:Hp} {a:Addr} (h:TR T R a=none):T a=none∧R a=none:=by
 unfold TR at h
 split at h
 ·cases h
 ·exact⟨by assumption,h⟩
section
variable {C:Ctx}
theorem qiL {P N H H0:Hp} {σ:L2.St} {n:Nat} {g':List D→RE ER} {Q:VK} {es:List ER} {vs:List V} (r:Reg C P N H) (hv:ERs C P N H H0 es vs) (hn:es.length=n)
  (h:match g' (es.map ER.d) with
   |.bad=>False
   |.ok er=>∃d,qfT er=some d∧∀v H' P' T,HvR P H P' H' T→Rep C.G P' (LT T) d v→Q v H'
   |.exc c fs=>∀d P' N' H',Adv P N H P' N' H'→ExR C P' N' H' fs d→C.W (.ref (C.G.ca c)) d σ H'):spD C.G n g' vs H Q (fun cls d H'=>C.W cls d σ H'):=by
 have rH:=r.rH
 have hr:Reps C.G P (SqL C.G.K H) (es.map ER.d) vs:=qgl r hv
 refine⟨P,H,es.map ER.d,r.pH,L2.Same.refl _,hr,by rw[List.length_map,hn],?_⟩
 cases e:g' (es.map ER.d) with
 |bad=>rw[e] at h;exact h.elim
 |exc c fs =>
  rw[e] at h
  intro d H' P' N' ad hx
  refine h d _ _ _ (ad.back r.nH) ?_
  rcases hx with hx | ⟨dd,f,v,h1,h2,h3,h4⟩
  ·exact .inl hx
  ·refine .inr ⟨dd,f,v,h1,h2,h3,Rep.mono (L2.Same.refl _) _ _ (fun a xs q=>?_) h4⟩
   rcases q with q | ⟨hb,q⟩
   ·exact .inl (qhH ad.nH _ _ q)
   ·cases hb
 |ok er =>
  rw[e] at h
  obtain⟨d,ed,h⟩:=h
  intro v H' P' N' ad hx
  have base:∀a xs,N' a=some (.lst xs)→H' a=some (.lst xs)∧H a=none∧P' a=none:=fun a xs q=>by
   have hne:N' a≠none:=by rw[q];exact fun z=>nomatch z
   refine⟨ad.nH _ _ q,?_,?_⟩
   ·rcases ad.nw a hne with z | z
    ·exact absurd rfl z
    ·exact z
   ·cases e2:P' a with
    |none=>rfl
    |some o=>exact absurd rfl (ad.dj a hne (by rw[e2];exact fun z=>nomatch z))
  let T:TL:=fun a=>match N' a with
   |some (.lst xs)=>some xs
   |_=>none
  have hT:∀a xs,N' a=some (.lst xs)→T a=some xs:=fun a xs q=>by show(match N' a with | some (.lst xs)=>some xs | _=>none)=some xs;rw[q]
  have hT':∀a xs,T a=some xs→N' a=some (.lst xs):=fun a xs q=>by
   have q:(match N' a with | some (.lst xs)=>some xs | _=>none)=some xs:=q
   split at q
   ·rename_i ys e2;cases q;exact e2
   ·cases q
  cases er with
  |brw ds b=>cases ed
  |val d' b =>
   simp only[qfT] at ed
   split at ed
   ·rename_i hb
    cases ed
    refine h v H' P' T ⟨ad.hh,ad.pp,ad.pH,ad.pn,fun a xs q=>base a xs (hT' a xs q)⟩ ?_
    cases b with
    |true=>exact Rep.mono (L2.Same.refl _) _ _ (fun a xs q=>by
     rcases q with q | ⟨hb,_⟩
     ·exact hT a xs q
     ·cases hb) hx
    |false=>exact Rep.flat _ _ (by simpa using hb) hx
   ·cases ed
  |fre ds b =>
   simp only[qfT] at ed
   split at ed
   ·rename_i hb
    cases ed
    obtain⟨p,xs,rfl,h1,h2,h3,h4,h5⟩:=hx
    refine h _ H' P' (fun a=>if a=p then some xs else T a) ⟨ad.hh,ad.pp,ad.pH,ad.pn,fun a ys q=>?_⟩ ⟨p,xs,rfl,if_pos rfl,?_⟩
    ·split at q
     ·rename_i ea
      cases q
      subst ea
      exact⟨h1,h2,h3⟩
     ·exact base a ys (hT' a ys q)
    ·have mono:∀a ys,LNb C.G.K P' N' H true a ys→LT (fun a=>if a=p then some xs else T a) a ys:=fun a ys q=>by
      rcases q with q | ⟨hb,_⟩
      ·have:a≠p:=fun ea=>by rw[ea,h4] at q;cases q
       show(if a=p then some xs else T a)=some ys
       rw[if_neg this];exact hT a ys q
      ·cases hb
     cases b with
     |true=>exact Reps.mono (L2.Same.refl _) _ _ mono h5
     |false=>exact Reps.flat _ _ (by simpa using hb) h5
   ·cases ed
def Ctx.hv (C:Ctx) (T:TL) (fx:Nat→Option V):Ctx:={ C with R:=TR T C.R,B:=TR T C.B,fx:=fx }
theorem qbS:∀{ρ:List Sl} {k j:Nat} {s:Sl},(qeI k ρ)[j]? = some s→∃q,ρ[j]? = some q∧s=ent (k+j) q
 |[],k,j,s,h=>by simp[qeI] at h
 |q::qs,k,0,s,h=>by simp[qeI] at h;exact⟨q,rfl,h.symm⟩
 |q::qs,k,j+1,s,h=>by
  simp[qeI] at h
  obtain⟨r,h1,h2⟩:=qbS h
  exact⟨r,by simpa using h1,by rw[h2];congr 1;omega⟩
theorem qdG:∀{ρ:List Sl} {k:Nat},(qeI k ρ).length=ρ.length
 |[],_=>rfl
 |q::qs,k=>by simp[qeI,qdG]
theorem qbx {ρ0:List Sl}:∀{ρ:List Sl} {k j:Nat} {s:Sl},(qew ρ0 k ρ)[j]? = some s→∃q,ρ[j]? = some q∧s=ext (k+j) (ρ0[k+j]?.getD .non) q
 |[],k,j,s,h=>by simp[qew] at h
 |q::qs,k,0,s,h=>by simp[qew] at h;exact⟨q,rfl,h.symm⟩
 |q::qs,k,j+1,s,h=>by
  simp[qew] at h
  obtain⟨r,h1,h2⟩:=qbx h
  have:k+1+j=k+(j+1):=by omega
  exact⟨r,by simpa using h1,by rw[h2,this]⟩
theorem qct {ρ0:List Sl}:∀{ρ:List Sl} {k:Nat},(qew ρ0 k ρ).length=ρ.length
 |[],_=>rfl
 |q::qs,k=>by simp[qew,qct]
theorem LNb.up {K:PySem.W.Frag} {P N R R':Hp} {b:Bool} (h:L2.Same R R'):∀a xs,LNb K P N R b a xs→LNb K P N R' b a xs:=fun a xs q=>by
 rcases q with q | ⟨hb,q | q | q⟩
 ·exact .inl q
 ·exact .inr ⟨hb,.inl q⟩
 ·exact .inr ⟨hb,.inr (.inl q)⟩
 ·exact .inr ⟨hb,.inr (.inr (L2.Same.seq h q))⟩
theorem RepB.dn {C C':Ctx} {P N:Hp} {b:Bool} {d:Cm.D} {v:V} (hG:C'.G=C.G) (hb:(b||d.flat)=true) (h:RepB C' P N b d v):RepB C P N b d v:=by
 unfold RepB at *
 rw[hG] at h
 cases b with
 |true=>exact Rep.mono (L2.Same.refl _) _ _ (fun a xs q=>by
  rcases q with q | ⟨hb,_⟩
  ·exact .inl q
  ·cases hb) h
 |false=>exact Rep.flat _ _ (by simpa using hb) h
theorem RepsB.dn {C C':Ctx} {P N:Hp} {b:Bool} {d:List Cm.D} {v:List V} (hG:C'.G=C.G) (hb:(b||D.flats d)=true) (h:RepsB C' P N b d v):RepsB C P N b d v:=by
 unfold RepsB at *
 rw[hG] at h
 cases b with
 |true=>exact Reps.mono (L2.Same.refl _) _ _ (fun a xs q=>by
  rcases q with q | ⟨hb,_⟩
  ·exact .inl q
  ·cases hb) h
 |false=>exact Reps.flat _ _ (by simpa using hb) h
end
section
variable {C:Ctx} {P N H P' H':Hp} {ρ:List Sl} {σ:L2.St} {T:TL}
theorem HvR.tn (a:HvR P H P' H' T) {b:Addr} (h:H b≠none):T b=none:=by
 cases e:T b with
 |none=>rfl
 |some xs=>exact absurd (a.t b xs e).2.1 h
theorem HvR.tp (a:HvR P H P' H' T) {b:Addr} (h:P' b≠none):T b=none:=by
 cases e:T b with
 |none=>rfl
 |some xs=>exact absurd (a.t b xs e).2.2 h
theorem HvR.sR (a:HvR P H P' H' T) {R:Hp} (h:L2.Same R H):L2.Same R (TR T R):=fun b o e=>by
 rw[qbE (a.tn (b:=b) (by rw[h _ _ e];exact fun z=>nomatch z))];exact e
theorem HvR.reg (a:HvR P H P' H' T) (r:Reg C P N H) {fx:Nat→Option V}:Reg (C.hv T fx) P' N H' where
 pH:=a.pH
 nH:=r.nH.trans a.hh
 bH:=fun b o e=>by
  have e:TR T C.B b=some o:=e
  cases q:T b with
  |none=>rw[qbE q] at e;exact a.hh _ _ (r.bH _ _ e)
  |some xs=>rw[qcX q] at e;cases e;exact(a.t b xs q).1
 rB:=fun b o e=>by
  have e:TR T C.R b=some o:=e
  show TR T C.B b=some o
  cases q:T b with
  |none=>rw[qbE q] at e ⊢;exact r.rB _ _ e
  |some xs=>rw[qcX q] at e ⊢;exact e
 p0:=r.p0.trans a.pp
 pn:=fun b h=>by
  have t:=a.tp h
  show C.P0 b≠none∨TR T C.B b=none
  rw[qbE t]
  rcases a.pn b h with z | z
  ·exact r.pn b z
  ·exact .inr (r.bH.free z)
 nw:=fun b h=>by
  have hb:H b≠none:=fun z=>h (r.nH.free z)
  show TR T C.B b=none
  rw[qbE (a.tn hb)];exact r.nw b h
 dj:=fun b h=>by
  cases q:P' b with
  |none=>rfl
  |some o =>
   rcases a.pn b (by rw[q];exact fun z=>nomatch z) with z | z
   ·exact absurd (r.dj b h) z
   ·exact absurd (r.nH.free z) h
theorem qik {i:Nat} {v w:V} (hi:i<σ.length) (h:((σ.set i (some v))[i]?).join=some w):w=v:=by
 rw[List.getElem?_set_self hi] at h
 cases h;rfl
theorem HvR.into (a:HvR P H P' H' T) (S:SR C P N H ρ σ) {i:Nat} {d:D} {v:V} (hi:i<σ.length) (rv:Rep C.G P' (LT T) d v):SR (C.hv T fun k=>((σ.set i (some v))[k]?).join) P' N H' ((qeI 0 ρ).set i (.fxd d i)) (σ.set i (some v)) where
 reg:=a.reg S.reg
 len:=by simp[S.len,qdG]
 sl:=fun j s e=>by
  by_cases q:i=j
  ·subst q
   rw[List.getElem?_set_self (by rw[qdG,←S.len];exact hi)] at e
   cases e
   refine⟨some v,List.getElem?_set_self hi,v,rfl,?_,?_⟩
   ·show((σ.set i (some v))[i]?).join=some v
    rw[List.getElem?_set_self hi];rfl
   ·exact Rep.mono (L2.Same.refl _) _ _ (fun b xs z=>.inr ⟨rfl,.inr (.inr (.inl (.inl (qcX z))))⟩) rv
  ·rw[List.getElem?_set_ne q] at e
   obtain⟨s0,e0,rfl⟩:=qbS e
   obtain⟨o,y1,y2⟩:=S.sl j s0 e0
   rw[List.getElem?_set_ne q]
   refine⟨o,y1,?_⟩
   have mR:=a.sR S.reg.rH
   have up:∀{b:Bool} {d:D} {v:V},RepB C P N b d v→RepB (C.hv T fun k=>((σ.set i (some v))[k]?).join) P' N b d v:=fun {b d v} h =>
    Rep.mono a.pp _ _ (fun c xs z=>LNb.up mR c xs (LNb.mono a.pp (L2.Same.refl _) c xs z)) h
   have ups:∀{b:Bool} {d:List D} {v:List V},RepsB C P N b d v→RepsB (C.hv T fun k=>none) P' N b d v:=fun {b d v} h =>
    Reps.mono a.pp _ _ (fun c xs z=>LNb.up mR c xs (LNb.mono a.pp (L2.Same.refl _) c xs z)) h
   have hfx:∀w,o=some w→((σ.set i (some v))[j]?).join=some w:=fun w ew=>by rw[List.getElem?_set_ne q,y1,ew];rfl
   rw[Nat.zero_add]
   cases s0 with
   |non=>trivial
   |val d b =>
    obtain⟨w,rfl,h3⟩:=y2
    by_cases hb:(b||d.flat)=true
    ·rw[show ent j (.val d b)=.val d b from if_pos hb]
     exact⟨w,rfl,up h3⟩
    ·rw[show ent j (.val d b)=.fxd d j from if_neg hb]
     have hb':b=false:=by cases b with
      |false=>rfl
      |true=>simp at hb
     subst hb'
     exact⟨w,rfl,hfx w rfl,up h3⟩
   |own ds b =>
    obtain⟨p,xs,rfl,h3,h4,h5,h6,h7⟩:=y2
    have hne:H p≠none:=by rw[h3];exact fun z=>nomatch z
    refine⟨p,xs,rfl,a.hh _ _ h3,?_,h5,?_,ups h7⟩
    ·cases q2:P' p with
     |none=>rfl
     |some o =>
      rcases a.pn p (by rw[q2];exact fun z=>nomatch z) with z | z
      ·exact absurd h4 z
      ·exact absurd z hne
    ·show TR T C.B p=none
     rw[qbE (a.tn hne)];exact h6
   |slf c fs=>trivial
   |fxd d k =>
    obtain⟨w,rfl,_,h3⟩:=y2
    exact⟨w,rfl,hfx w rfl,up h3⟩
   |dct m c=>trivial
   |row _=>trivial
 ap:=fun j k p ds b es c e1 e2 e3 e4=>by
  have old:∀{m:Nat} {es:List D} {c:Bool},((qeI 0 ρ).set i (.fxd d i))[m]? = some (.own es c)→i≠m∧ρ[m]? = some (.own es c):=fun {m es c} e=>by
   by_cases q:i=m
   ·subst q
    rcases Nat.lt_or_ge i (qeI 0 ρ).length with z | z
    ·rw[List.getElem?_set_self z] at e;cases e
    ·rw[List.getElem?_eq_none (by simpa using z)] at e;cases e
   ·rw[List.getElem?_set_ne q] at e
    obtain⟨s0,e0,es0⟩:=qbS e
    refine⟨q,?_⟩
    rw[e0]
    cases s0 with
    |own ds' b'=>simp only[ent] at es0;rw[es0]
    |val d b =>
     by_cases hb:(b||d.flat)=true
     ·rw[show ent (0+m) (.val d b)=.val d b from if_pos hb] at es0;cases es0
     ·rw[show ent (0+m) (.val d b)=.fxd d (0+m) from if_neg hb] at es0;cases es0
    |_=>cases es0
  obtain⟨n1,o1⟩:=old e1
  obtain⟨n2,o2⟩:=old e2
  rw[List.getElem?_set_ne n1] at e3
  rw[List.getElem?_set_ne n2] at e4
  exact S.ap j k p ds b es c o1 o2 e3 e4
 ad:=AD.setS (AD.no fun j s e=>by
  obtain⟨s0,e0,rfl⟩:=qbS e
  cases s0 with
  |val d b=>simp only[ent];split<;>rfl
  |_=>rfl) rfl
 ar:=AR.no fun j s e=>by
  rcases qaj e with⟨_,z⟩ | ⟨_,z⟩
  ·rw[z];rfl
  ·obtain⟨s0,e0,rfl⟩:=qbS z
   cases s0 with
   |val d b=>simp only[ent];split<;>rfl
   |_=>rfl
theorem HvR.regO (a:HvR P H P' H' T) (r:Reg C P N H) {fx:Nat→Option V} {P2 N2 H2:Hp} (r2:Reg (C.hv T fx) P2 N2 H2):Reg C P2 N2 H2 where
 pH:=r2.pH
 nH:=r2.nH
 bH:=fun b o e=>r2.bH b o (by
  show TR T C.B b=some o
  rw[qbE (a.tn (b:=b) (by rw[r.bH _ _ e];exact fun z=>nomatch z))];exact e)
 rB:=r.rB
 p0:=r2.p0
 pn:=fun b h=>by
  rcases r2.pn b h with z | z
  ·exact .inl z
  ·exact .inr (qdP z).2
 nw:=fun b h=>(qdP (r2.nw b h)).2
 dj:=r2.dj
theorem SR.drop {P N H:Hp} {ρ:List Sl} {σ:L2.St} (S:SR C P N H ρ σ) (i:Nat):SR C P N H (ρ.set i .non) σ where
 reg:=S.reg
 len:=by simp[S.len]
 sl:=fun j s e=>by
  by_cases q:i=j
  ·subst q
   rcases Nat.lt_or_ge i ρ.length with z | z
   ·rw[List.getElem?_set_self z] at e
    cases e
    exact⟨_,List.getElem?_eq_getElem (by rw[S.len];exact z),trivial⟩
   ·rw[List.getElem?_eq_none (by simpa using z)] at e;cases e
  ·rw[List.getElem?_set_ne q] at e
   exact S.sl j s e
 ap:=fun j k p ds b es c e1 e2 e3 e4=>by
  have old:∀{m:Nat} {es:List D} {c:Bool},(ρ.set i .non)[m]? = some (.own es c)→ρ[m]? = some (.own es c):=fun {m es c} e=>by
   by_cases q:i=m
   ·subst q
    rcases Nat.lt_or_ge i ρ.length with z | z
    ·rw[List.getElem?_set_self z] at e;cases e
    ·rw[List.getElem?_eq_none (by simpa using z)] at e;cases e
   ·rw[List.getElem?_set_ne q] at e;exact e
  exact S.ap j k p ds b es c (old e1) (old e2) e3 e4
 ad:=S.ad.setS rfl
 ar:=S.ar.setS rfl
theorem SR.wipeS {P N H:Hp} {ρ:List Sl} {σ:L2.St} (S:SR C P N H ρ σ):∀vs:List Nat,SR C P N H (Cm.wipeS ρ vs) σ
 |[]=>S
 |v::vs=>(SR.wipeS S vs).drop v
theorem qb4 {ρ:List Sl}:∀vs:List Nat,(wipeS ρ vs).length=ρ.length
 |[]=>rfl
 |v::vs=>by simp[wipeS,qb4 vs]
theorem qfq {ρ:List Sl} {v:Nat} (hv:v<ρ.length):∀{vs:List Nat},v∈vs→(wipeS ρ vs)[v]? = some .non
 |[],h=>by cases h
 |w::vs,h=>by
  unfold wipeS
  by_cases q:w=v
  ·subst q;rw[List.getElem?_set_self (by rw[qb4];exact hv)]
  ·rw[List.getElem?_set_ne q]
   rcases List.mem_cons.mp h with h | h
   ·exact absurd h.symm q
   ·exact qfq hv h
theorem qem {ρ:List Sl} {j:Nat} {s:Sl} (hs:s≠.non):∀{vs:List Nat},(wipeS ρ vs)[j]? = some s→ρ[j]? = some s
 |[],h=>h
 |w::vs,h=>by
  unfold wipeS at h
  by_cases q:w=j
  ·subst q
   rcases Nat.lt_or_ge w (wipeS ρ vs).length with z | z
   ·rw[List.getElem?_set_self z] at h;cases h;exact absurd rfl hs
   ·rw[List.getElem?_eq_none (by simpa using z)] at h;cases h
  ·rw[List.getElem?_set_ne q] at h;exact qem hs h
theorem qee {ρ:List Sl} {j:Nat} (h:ρ[j]? = some .non):∀{vs:List Nat},(wipeS ρ vs)[j]? = some .non
 |[]=>h
 |w::vs=>by
  unfold wipeS
  by_cases q:w=j
  ·subst q
   rw[List.getElem?_set_self (by rw[qb4];exact(List.getElem?_eq_some_iff.mp h).1)]
  ·rw[List.getElem?_set_ne q];exact qee h
theorem qfj {ρ:List Sl} (h:∀(j:Nat) (s:Sl),ρ[j]? = some s→s.isW=false):∀{vs:List Nat} (j:Nat) (s:Sl),(Cm.wipeS ρ vs)[j]? = some s→s.isW=false
 |[],j,s,e=>h j s e
 |v::vs,j,s,e=>by
  unfold Cm.wipeS at e
  rcases qaj e with⟨_,z⟩ | ⟨_,z⟩
  ·rw[z];rfl
  ·exact qfj h j s z
theorem HvR.out (a:HvR P H P' H' T) (S:SR C P N H ρ σ) {i:Nat} {d d2:D} {v:V} (hi:i<σ.length) (rv:Rep C.G P' (LT T) d v) {P2 N2 H2:Hp} {ρ2:List Sl} {σ2:L2.St}
  (S2:SR (C.hv T fun k=>((σ.set i (some v))[k]?).join) P2 N2 H2 ρ2 σ2) (sp:L2.Same P' P2) (sn:L2.Same N N2) (e2:ρ2[i]? = some (.fxd d2 i)) (vs:List Nat) :
  Raw C P2 N2 H2 (wipeS (qew (ρ.set i .non) 0 ρ2) vs) σ2 T ([],0) [(i,d)]:=by
 have rg:=a.regO S.reg S2.reg
 have own:∀{j:Nat} {ds:List D} {b:Bool},(qew (ρ.set i .non) 0 ρ2)[j]? = some (.own ds b)→ρ2[j]? = some (.own ds b)∧(b||D.flats ds)=true:=fun {j ds b} e=>by
  obtain⟨q,h1,h2⟩:=qbx e
  cases q with
  |own es c =>
   simp only[ext] at h2
   split at h2
   ·cases h2;exact⟨h1,by assumption⟩
   ·cases h2
  |val d' b' =>
   simp only[ext] at h2
   split at h2<;>cases h2
  |non=>cases h2
  |slf _ _=>cases h2
  |fxd _ k =>
   simp only[ext] at h2
   split at h2
   ·split at h2<;>cases h2
   ·cases h2
  |dct _ _=>cases h2
  |row _=>cases h2
 have ei:(qew (ρ.set i .non) 0 ρ2)[i]? = some .non:=by
  have hl:i<ρ2.length:=(List.getElem?_eq_some_iff.mp e2).1
  have:i<(qew (ρ.set i .non) 0 ρ2).length:=by rw[qct];exact hl
  obtain⟨q,h1,h2⟩:=qbx (List.getElem?_eq_getElem this)
  rw[e2] at h1;cases h1
  rw[List.getElem?_eq_getElem this,h2]
  simp only[Nat.zero_add,ext,if_true]
  rw[List.getElem?_set_self (by rw[←S.len];exact hi)]
  rfl
 have noW:∀(j:Nat) (s:Sl),(qew (ρ.set i .non) 0 ρ2)[j]? = some s→s.isW=false:=fun j s e=>by
  obtain⟨q,h1,rfl⟩:=qbx e
  cases q with
  |val d b=>simp only[ext];split<;>rfl
  |own d b=>simp only[ext];split<;>rfl
  |fxd d k =>
   simp only[ext]
   split
   ·split<;>rfl
   ·rfl
  |_=>rfl
 have sr:SR C P2 N2 H2 (qew (ρ.set i .non) 0 ρ2) σ2:=by
  refine⟨rg,by rw[qct,S2.len],fun j s e=>?_,fun j k p ds b es c e1 e3 e4 e5=>S2.ap j k p ds b es c (own e1).1 (own e3).1 e4 e5,AD.no fun j s e=>by
   obtain⟨q,h1,rfl⟩:=qbx e
   cases q with
   |val d b=>simp only[ext];split<;>rfl
   |own d b=>simp only[ext];split<;>rfl
   |fxd d k =>
    simp only[ext]
    split
    ·split<;>rfl
    ·rfl
   |_=>rfl,AR.no noW⟩
  obtain⟨q,h1,h2⟩:=qbx e
  obtain⟨o,y1,y2⟩:=S2.sl j q h1
  refine⟨o,y1,?_⟩
  rw[h2,Nat.zero_add]
  cases q with
  |non=>trivial
  |slf _ _=>trivial
  |dct _ _=>trivial
  |row _=>trivial
  |val d b =>
   simp only[ext]
   split
   ·rename_i hb
    obtain⟨w,rfl,h3⟩:=y2
    exact⟨w,rfl,RepB.dn (C':=C.hv T fun k=>((σ.set i (some v))[k]?).join) rfl hb h3⟩
   ·trivial
  |own ds b =>
   simp only[ext]
   split
   ·rename_i hb
    obtain⟨p,xs,rfl,h3,h4,h5,h6,h7⟩:=y2
    exact⟨p,xs,rfl,h3,h4,h5,(qdP h6).2,RepsB.dn (C':=C.hv T fun k=>((σ.set i (some v))[k]?).join) rfl hb h7⟩
   ·trivial
  |fxd d' k =>
   simp only[ext]
   split
   ·rename_i hk
    subst hk
    by_cases hki:i=k
    ·subst hki
     rw[List.getElem?_set_self (by rw[←S.len];exact hi)]
     trivial
    ·rw[List.getElem?_set_ne hki]
     obtain⟨w,rfl,h3,_⟩:=y2
     have h3:((σ.set i (some v))[k]?).join=some w:=h3
     rw[List.getElem?_set_ne hki] at h3
     cases e0:ρ[k]? with
     |none=>trivial
     |some s0 =>
      obtain⟨o,z1,z2⟩:=S.sl k s0 e0
      have ho:o=some w:=by
       rw[z1] at h3
       exact h3
      subst ho
      cases s0 with
      |val d b =>
       obtain⟨u,eu,h4⟩:=z2
       cases eu
       exact⟨w,rfl,RepB.adv (a.pp.trans sp) sn h4⟩
      |fxd d m =>
       obtain⟨u,eu,h5,h4⟩:=z2
       cases eu
       exact⟨w,rfl,h5,RepB.adv (a.pp.trans sp) sn h4⟩
      |non=>trivial
      |own _ _=>trivial
      |slf _ _=>trivial
      |dct _ _=>trivial
      |row _=>trivial
   ·trivial
 have tb:∀{b:Addr} {xs:List V},T b=some xs→TR T C.B b≠none:=fun {b xs} e=>by rw[qcX e];exact fun z=>nomatch z
 refine⟨sr.wipeS vs,fun b xs e=>⟨xs,S2.reg.bH b _ (qcX e),fun _=>rfl,Nat.le_add_right _ _⟩,fun b xs e=>⟨?_,?_,?_⟩,fun j ds b p e1 e3=>?_,fun j d' m=>?_,qfj noW⟩
 ·cases q:P2 b with
  |none=>rfl
  |some o =>
   rcases S2.reg.pn b (by rw[q];exact fun z=>nomatch z) with z | z
   ·have hb:=(a.t b xs e).2.1
    exact absurd (S.reg.p0.free (S.reg.pH.free hb)) z
   ·exact absurd z (tb e)
 ·cases q:N2 b with
  |none=>rfl
  |some o=>exact absurd (S2.reg.nw b (by rw[q];exact fun z=>nomatch z)) (tb e)
 ·exact S.reg.bH.free (a.t b xs e).2.1
 ·obtain⟨h1,_⟩:=own (qem (by simp) e1)
  obtain⟨o,y1,p',xs,rfl,h3,h4,h5,h6,h7⟩:=S2.sl j _ h1
  rw[y1] at e3;cases e3
  exact(qdP h6).1
 ·simp only[List.mem_singleton,Prod.mk.injEq] at m
  obtain⟨rfl,rfl⟩:=m
  refine⟨qee ei,v,?_,Rep.mono sp _ _ (fun _ _ q=>q) rv⟩
  obtain⟨o,y1,w,rfl,h3,_⟩:=S2.sl j _ e2
  have:=qik hi h3
  subst this
  exact y1
end
section
variable {T:Tb} {Γ:Env} {C:Ctx} {X:Cx} {sc:Scope}
theorem XOk.hv {fc:Option Scope} {TT:TL} {fx:Nat→Option V} (I:XOk T Γ C X fc sc):XOk T Γ (C.hv TT fx) X fc sc where
 nm:=I.nm
 nd:=I.nd
 sc:=I.sc
 K:=I.K
 tk:=I.tk
 calm:=I.calm
 un:=I.un
 blt:=I.blt
 fnc:=I.fnc
 fn:=I.fn
 gc:=fun k x h c e=>by
  obtain⟨u,v,h1,h2,h3,h4⟩:=I.gc k x h c e
  refine⟨u,v,h1,h2,fun P N=>?_,h4⟩
  exact Rep.mono (L2.Same.refl _) _ _ (fun a xs q=>by
   rcases q with q | ⟨hb,_⟩
   ·exact .inl q
   ·cases hb) (h3 P N)
 mt:=fun m x n h c g e=>by
  obtain⟨h1,h2,h3⟩:=I.mt m x n h c g e
  exact⟨h1,h2,h3⟩
 fs:=fun f x h c k e=>by
  obtain⟨h1,h2,h3,h4⟩:=I.fs f x h c k e
  exact⟨h1,h2,h3,h4⟩
 nw:=fun k x n h g e=>by
  obtain⟨h1⟩:=I.nw k x n h g e
  exact⟨h1⟩
 ck:=I.ck
 xk:=I.xk
 dc:=I.dc
def tHv (C:Ctx) (i n:Nat) (g:List Sl→RE (List ER)) (g':List Cm.D→RE ER):TS:=tAsg (fun σ H Q=>tA C g σ H fun vs H1=>spD C.G n g' vs H1 Q (fun cls d H'=>C.W cls d σ H')) (gName i)
theorem qmB {i f:Nat} {es:Exs} {st:Stmt} (I:XOk T Γ C X none sc) (h:qjR T sc i f es st=true):∀g,Γ.fn[f]? = some g→∃n,(∀ρ r,evs Γ es ρ=.ok r→r.length=n)∧PS X st (tHv C i n (evs Γ es) g.2):=fun g e=>by
 unfold qjR at h
 split at h
 case h_2=>cases h
 rename_i x pn y p xs q pos
 simp only[Bool.and_eq_true,decide_eq_true_eq] at h
 obtain⟨⟨⟨⟨⟨⟨h1,h2⟩,h3⟩,h4⟩,h5⟩,h6⟩,h7⟩:=h
 obtain⟨t1,t2⟩:=qfS I h2
 obtain⟨k,a,fd,ps,m,gf,F,hr,hm,hk,dv,dvs,dus,hb,hdv,hdm,hdr,hgf⟩:=I.fn f y xs.length h3 g e
 refine⟨xs.length,fun ρ r er=>qbr es ρ r xs h6 er,?_⟩
 exact ps_set I.nd (by rw[I.nm];exact h1) t1 (qfB (C:=C) F hr (qbl I.sc h4) hm hk hb hdv hdm hdr hgf I.tk (qbJ es I h6 h7) (qbY h5).1 (qdC h7) (fun z ρ=>qgr h6 z ρ)) rfl t2
def tIn (C:Ctx) (g:List Sl→Out) (u:TS):TS:=fun D σ H=>∃TT fx,tSk (C.hv TT fx) g u D σ H
theorem qlP {i n:Nat} {es:Exs} {g':List Cm.D→RE ER} {rd:List Sl→Out} {cs:Ch} {f:List Sl→Out} {D:Ends} {σ:L2.St} {H:Hp} {u:TS} (hn:∀ρ r,evs Γ es ρ=.ok r→r.length=n)
  (q:tSk C (fun ρ=>(evs Γ es ρ).out fun r=>(g' (r.map ER.d)).out fun er=>match qfT er with
   |some d=>gdO (Nat.blt i ρ.length) ((rd ((qeI 0 ρ).set i (.fxd d i))).hv ρ i d cs f)
   |none=>.bad) u D σ H):tHv C i n (evs Γ es) g' { D with nx:=tIn C rd (tCk C cs (tSk C f u)) D } σ H:=by
 obtain⟨ρ,P,N,S,o⟩:=q
 refine⟨ρ,P,N,S,(o.res S.reg).mono fun r P1 N1 H1 e1 a1 o1 vs rv=>?_⟩
 have S1:=S.adv a1
 refine qiL S1.reg rv (hn _ _ e1) ?_
 cases eg:g' (r.map ER.d) with
 |bad=>rw[eg] at o1;exact o1
 |exc c fs =>
  rw[eg] at o1
  exact fun d P' N' H' ad hx=>o1 σ d P' N' H' (S1.reg.adv ad) hx
 |ok er =>
  rw[eg] at o1
  simp only[RE.out_ok] at o1
  cases ed:qfT er with
  |none=>rw[ed] at o1;exact o1.elim
  |some d =>
   rw[ed] at o1
   simp only[qaP] at o1
   split at o1
   case isFalse=>exact o1.elim
   rename_i hi
   have hi:i<σ.length:=by rw[S.len];exact Nat.blt_eq.mp hi
   refine⟨d,ed,fun v H' P' TT a rvT=>?_⟩
   refine⟨TT,_,_,P',N1,a.into S1 hi rvT,?_⟩
   cases er2:rd ((qeI 0 ρ).set i (.fxd d i)) with
   |bad=>rw[er2] at o1;exact o1.elim
   |brk _=>rw[er2] at o1;exact o1.elim
   |cnt _=>rw[er2] at o1;exact o1.elim
   |exc c fs =>
    rw[er2] at o1
    intro σ2 d2 P2 N2 H2 r2 x2
    refine o1 σ2 d2 P2 N2 H2 (a.regO S1.reg r2) ?_
    rcases x2 with x2 | ⟨dd,f2,v2,h1,h2,h3,h4⟩
    ·exact .inl x2
    ·exact .inr ⟨dd,f2,v2,h1,h2,h3,RepB.dn (C':=C.hv TT fun k=>((σ.set i (some v))[k]?).join) rfl (by simp) h4⟩
   |ret er3 =>
    rw[er2] at o1
    simp only[Out.hv] at o1
    cases en:qfT er3 with
    |none=>rw[en] at o1;exact o1.elim
    |some d3 =>
     rw[en] at o1
     intro v2 P2 N2 H2 r2 x2
     refine o1 v2 P2 N2 H2 (a.regO S1.reg r2) ?_
     cases er3 with
     |brw _ _=>cases en
     |val d4 b4 =>
      simp only[qfT] at en
      split at en
      ·exact RepB.dn (C':=C.hv TT fun k=>((σ.set i (some v))[k]?).join) rfl (by assumption) x2
      ·cases en
     |fre d4 b4 =>
      simp only[qfT] at en
      split at en
      ·obtain⟨p,xs,rfl,h1,h2,h3,h4,h5⟩:=x2
       exact⟨p,xs,rfl,h1,(qdP h2).2,h3,h4,RepsB.dn (C':=C.hv TT fun k=>((σ.set i (some v))[k]?).join) rfl (by assumption) h5⟩
      ·cases en
   |nx ρ2 =>
    rw[er2] at o1
    simp only[Out.hv] at o1
    intro σ2 P2 N2 H2 S2 sp sn
    split at o1
    case h_2=>exact o1.elim
    rename_i d2 k2 e2
    simp only[qaP] at o1
    split at o1
    case isFalse=>exact o1.elim
    rename_i hk
    simp only[Bool.and_eq_true,beq_iff_eq,List.all_eq_true,Nat.blt_eq] at hk
    obtain⟨hk,htg⟩:=hk
    subst hk
    cases ec:chg cs [(k2,d)] ([],0) with
    |none=>rw[ec] at o1;exact o1.elim
    |some Z' =>
     rw[ec] at o1
     simp only at o1
     have R:=a.out S1 hi rvT S2 sp sn e2 cs.tgs
     exact⟨P2,N2,_,TT,_,_,Z',R,fun l hl=>qfq (by rw[qct];exact htg l hl) hl,ec,fun σ3 P3 N3 H3 R3 s3 s4=>⟨_,P3,N3,R3.sr,o1.adv ((a1.pp.trans a.pp).trans (sp.trans s3)) (a1.nn.trans (sn.trans s4))⟩⟩
end
end Cm
namespace Cm
open PySem PySem.Spec PyProof.Rows L2
section
variable {G:Glo} {P:Hp} {T:TL}
mutual
theorem qkn {p:Addr} {ys:List V} (hp:T p=some ys):∀(d:D) (v:V) {N:Hp},(∀a xs,T a=some xs→a≠p→N a=some (.lst xs))→noK (clV ys) d=true→Rep G P (LT T) d v→Rep G P (fun a xs=>N a=some (.lst xs)) d v
 |.non,_,_,_,_,h=>h
 |.bl _,_,_,_,_,h=>h
 |.int _,_,_,_,_,h=>h
 |.str _,_,_,_,_,h=>h
 |.lst ds,v,N,hN,hk,⟨a,xs,e,h1,h2⟩=>by
  simp only[noK,Bool.and_eq_true,bne_iff_ne] at hk
  have h1:T a=some xs:=h1
  refine⟨a,xs,e,hN a xs h1 fun z=>hk.1 ?_,qdA hp ds xs hN hk.2 h2⟩
  subst z
  rw[hp] at h1;cases h1
  exact(qbD h2).symm
 |.tup ds,v,N,hN,hk,⟨a,xs,e,h1,h2⟩=>⟨a,xs,e,h1,qdA hp ds xs hN hk h2⟩
 |.ins _ _,_,_,_,_,h=>h
 |.exc _ _,_,_,_,_,h=>h
theorem qdA {p:Addr} {ys:List V} (hp:T p=some ys):∀(ds:List D) (vs:List V) {N:Hp},(∀a xs,T a=some xs→a≠p→N a=some (.lst xs))→qkG (clV ys) ds=true→Reps G P (LT T) ds vs→Reps G P (fun a xs=>N a=some (.lst xs)) ds vs
 |[],_,_,_,_,h=>h
 |d::ds,vs,N,hN,hk,⟨v,r,e,h1,h2⟩=>by
  simp only[qkG,Bool.and_eq_true] at hk
  exact⟨v,r,e,qkn hp d v hN hk.1 h1,qdA hp ds r hN hk.2 h2⟩
end
end
def NT (T:TL) (p:Addr) (N:Hp):Hp:=fun b=>if b=p then none else match T b with
 |some xs=>some (.lst xs)
 |none=>N b
section
variable {C:Ctx} {P N H P' H':Hp} {T:TL} {p:Addr} {ys:List V}
end
section
variable {T:Tb} {Γ:Env} {C:Ctx} {X:Cx} {sc:Scope}
end
end Cm
namespace Cm
open PySem PySem.Spec PyProof.Rows L2
section
variable {C:Ctx} {X:Cx}
theorem qd7 {ss:List Stmt} {g:List Sl→Out} (h:PSs X (ss++[]) (tSk C g tNext)):PSs X ss (tS C g):=by rw[List.append_nil] at h;exact h
theorem qiz {g g':List Sl→Out} {u:TS} {D:Ends} {σ:L2.St} {H:Hp} (q:tSk C g u D σ H) (e:∀ρ,g ρ=g' ρ):tSk C g' u D σ H:=by
 have:g=g':=funext e
 rw[←this];exact q
theorem ql4 {u:TS} {D:Ends} {σ:L2.St} {H:Hp} (q:tSk C (fun ρ=>Out.nx ρ) u D σ H):u D σ H:=by
 obtain⟨ρ,P,N,S,o⟩:=q
 exact o σ P N H S (L2.Same.refl _) (L2.Same.refl _)
theorem qk1 {g g':List Sl→Out} {u:TS} {D:Ends} {σ:L2.St} {H:Hp} (q:tSk C (fun ρ=>(g ρ).seq g') u D σ H):tSeq (tS C g) (tSk C g' u) D σ H:=by
 obtain⟨ρ,P,N,S,h⟩:=q
 refine⟨ρ,P,N,S,?_⟩
 show outS C P N { D with nx:=tSk C g' u D } (g ρ)
 cases e:g ρ with
 |nx ρ'=>simp only[e,Out.seq_nx] at h;exact fun σ P' N' H' S e1 e2=>⟨ρ',P',N',S,h.adv e1 e2⟩
 |bad=>simp only[e] at h;exact h
 |brk ρ'=>simp only[e] at h;exact h
 |cnt ρ'=>simp only[e] at h;exact h
 |ret er=>simp only[e] at h;exact h
 |exc c fs=>simp only[e] at h;exact h
theorem qlK {i:Nat} {g:List Sl→Out} {u:TS} {D:Ends} {σ:L2.St} {H:Hp} (q:tSk C (fun ρ=>qbC ρ i fun ds b=>g (ρ.set i (.val (.lst ds) b))) u D σ H):tSk C g u D σ H:=qkW (D:={ D with nx:=u D }) q
end
theorem qi4 {T:Tb} {Γ:Env} {C:Ctx} {X:Cx} {sc:Scope} (I:XOk T Γ C X none sc):∀(es:Exs) {xs:List Expr},qaR T es none sc xs=true→xs.all qae=true→PA X xs (tF C (evF Γ es))
 |.nil,xs,h,_=>by
  unfold qaR at h
  cases xs with
  |nil=>exact qb0 qk0 fun σ H Q q=>q
  |cons _ _=>cases h
 |.cons e es,xs,h,hs=>by
  unfold qaR at h
  cases xs with
  |nil=>cases h
  |cons x xs =>
   simp only[Bool.and_eq_true,List.all_cons] at h hs
   have:=qh6 (qab e I h.1).1 (qi4 I es h.2 hs.2) (qaa hs.1)
   exact qb0 this fun σ H Q q=>by
    obtain⟨ρ,P,N,S,k⟩:=q
    exact⟨ρ,P,N,S,by rw[evF] at k;exact k⟩
structure FrOk (X:Cx):Prop where
 st:X.stack=X.env::X.outer
 fr:X.env.frame=some X.env.locals
 ex:X.ex=[]
mutual
theorem qmM {T:Tb} {Γ:Env} {C:Ctx} {X:Cx} {sc:Scope} (I:XOk T Γ C X none sc) (hp:PassesOwn (model X.prog X.w) X.A X.env X.xe) (hF:FrOk X):∀(ir:Sm) {s:Stmt},qdy T sc ir s=true→PS X s (tS C (run Γ ir))
 |.nev,s,h=>qa2 qht fun ρ=>by rw[run]
 |.rse k,s,h=>by
  unfold qdy at h
  split at h
  case h_2=>cases h
  simp only[Bool.and_eq_true,decide_eq_true_eq] at h
  obtain⟨⟨h1,h2⟩,h3⟩:=h
  cases q:Γ.xk[k]? with
  |none=>exact qa2 qht fun ρ=>by rw[run,q]
  |some c=>exact qa2 (qkf I.K I.calm I.tk (qbl I.sc h2) (qbY h3).1 (I.xk k _ h1 c q)) fun ρ=>by rw[run,q]
 |.tryx k i j b,s,h=>by
  unfold qdy at h
  split at h
  case h_2=>cases h
  simp only[Bool.and_eq_true,decide_eq_true_eq] at h
  obtain⟨⟨⟨⟨⟨⟨⟨⟨⟨⟨h1,h2⟩,h3⟩,h4⟩,h5⟩,rfl⟩,h7⟩,h8⟩,h9⟩,h10⟩,h11⟩:=h
  cases q:T.ck[k]? with
  |none=>rw[q] at h1;cases h1
  |some t =>
   obtain⟨x,own⟩:=t
   rw[q] at h1
   cases h1
   exact qa2 (qkC I.K hF.st hF.fr hF.ex I.nd (by rw[I.nm];exact h4) (by rw[I.nm];exact h5) (by unfold Env.kindOf;rw[I.sc];exact h7) (by unfold Env.kindOf;rw[I.sc];exact h8) (qbY h9) (qbl I.sc h2) (I.blt _ (by decide)) (qbY h3).1 (I.ck k x own q) I.tk h10 (fun W pn xe tk _=>qeY b (I.tr tk) h11)) fun ρ=>by rw[run]
 |.asg i e,s,h=>by
  unfold qdy at h
  split at h
  case h_2=>cases h
  simp only[Bool.and_eq_true,decide_eq_true_eq] at h
  obtain⟨⟨⟨h1,h2⟩,h3⟩,h4⟩:=h
  exact qa2 (qah (qeQ I h1 h2 h3 h4) fun D σ H q=>qkJ q) fun ρ=>by rw[run]
 |.own i e,s,h=>by
  unfold qdy at h
  split at h
  case h_2=>cases h
  simp only[Bool.and_eq_true,decide_eq_true_eq] at h
  obtain⟨⟨⟨h1,h2⟩,h3⟩,h4⟩:=h
  exact qa2 (qah (qeQ I h1 h2 h3 h4) fun D σ H q=>qjH q) fun ρ=>by rw[run]<;>rfl
 |.put i ix e,s,h=>by
  unfold qdy at h
  split at h
  case h_2=>cases h
  simp only[Bool.and_eq_true,decide_eq_true_eq] at h
  obtain⟨⟨⟨⟨⟨h1,h2⟩,h3⟩,h4⟩,h5⟩,h6⟩:=h
  obtain⟨n1,n2⟩:=qbY h3
  refine qa2 (qah (ps_asg (qab e I h6).1 (pg_sub (pe_var (i:=i) (by rw[I.nm];exact h1) (qds I.sc h2) n1 n2) (qab ix I h5).1 set_list (qgq h4)) qfe qdw rfl) fun D σ H q=>qks q) fun ρ=>by rw[run]<;>rfl
 |.app i e,s,h=>by
  unfold qdy at h
  split at h
  case h_2=>cases h
  simp only[Bool.and_eq_true,decide_eq_true_eq] at h
  obtain⟨⟨⟨⟨⟨⟨h1,h2⟩,h3⟩,rfl⟩,h5⟩,h6⟩,h7⟩:=h
  obtain⟨n1,n2⟩:=qbY h3
  refine qa2 (qah (ps_expr (pe_bm PySem.F.plainAttrs_list PySem.F.slot_list_append PySem.F.type_list_append mt_append (pe_var (i:=i) (by rw[I.nm];exact h1) (qds I.sc h2) n1 n2) (pa_cons (qab e I h5).1 pa_nil (qaa h6)) rfl (qgh h6) h7 (qaa h6) rfl) rfl) fun D σ H q=>qj3 q) fun ρ=>by rw[run]
 |.clr i,s,h=>by
  unfold qdy at h
  split at h
  case h_2=>cases h
  simp only[Bool.and_eq_true,decide_eq_true_eq] at h
  obtain⟨⟨⟨⟨h1,h2⟩,h3⟩,rfl⟩,h7⟩:=h
  obtain⟨n1,n2⟩:=qbY h3
  refine qa2 (qah (ps_expr (pe_bm0 PySem.F.plainAttrs_list PySem.F.slot_list_clear PySem.F.type_list_clear mt_clear (pe_var (i:=i) (by rw[I.nm];exact h1) (qds I.sc h2) n1 n2) rfl h7) rfl) fun D σ H q=>qkx q) fun ρ=>by rw[run]
 |.expr e,s,h=>by
  unfold qdy at h
  split at h
  case h_2=>cases h
  simp only[Bool.and_eq_true] at h
  exact qa2 (qia (qab e I h.1).1 (qcF h.2)) fun ρ=>by rw[run]
 |.ret e,s,h=>by
  unfold qdy at h
  split at h
  case h_2=>cases h
  exact qa2 (qj7 (qab e I h).1) fun ρ=>by rw[run]
 |.retN,s,h=>by
  unfold qdy at h
  split at h
  case h_2=>cases h
  exact qa2 qih fun ρ=>by rw[run]
 |.pas,s,h=>by
  unfold qdy at h
  split at h
  ·exact qa2 qh9 fun ρ=>by rw[run]
  ·exact qa2 qkA fun ρ=>by rw[run]
  ·cases h
 |.brk,s,h=>by
  unfold qdy at h
  split at h
  case h_2=>cases h
  exact qa2 qky fun ρ=>by rw[run]
 |.cnt,s,h=>by
  unfold qdy at h
  split at h
  case h_2=>cases h
  exact qa2 qk4 fun ρ=>by rw[run]
 |.iff c a b,s,h=>by
  unfold qdy at h
  split at h
  case h_2=>cases h
  simp only[Bool.and_eq_true] at h
  exact qa2 (qjK (qcz c I h.1.1) (qd7 (qa9 I hp hF a h.1.2 pss_nil)) (qd7 (qa9 I hp hF b h.2 pss_nil))) fun ρ=>by rw[run]
 |.for it tg b,s,h=>by
  unfold qdy at h
  split at h
  case h_2=>cases h
  simp only[Bool.and_eq_true] at h
  obtain⟨⟨⟨h1,h2⟩,h3⟩,h4⟩:=h
  exact qa2 (qah (ps_for hp I.calm (qgH it I h1) (qdE I h2) (qd7 (qa9 I hp hF b h3 pss_nil)) (qdL h4)) fun D σ H q=>qjP q) fun ρ=>by rw[run]<;>rfl
 |.row i es,s,h=>by
  unfold qdy at h
  split at h
  case h_2=>cases h
  simp only[Bool.and_eq_true,decide_eq_true_eq] at h
  obtain⟨⟨⟨h1,h2⟩,h3⟩,h4⟩:=h
  obtain⟨t1,t2⟩:=qfS I h2
  exact qa2 (qah (ps_asg (pe_lst (qi4 I es h3 h4)) (pg_name I.nd (by rw[I.nm];exact h1) t1 t2)) fun D σ H q=>qk2 q) fun ρ=>by rw[run]
 |.whl c b,s,h=>by
  unfold qdy at h
  split at h
  case h_2=>cases h
  simp only[Bool.and_eq_true] at h
  exact qa2 (qah (ps_while hp (qcz c I h.1) (qd7 (qa9 I hp hF b h.2 pss_nil))) fun D σ H q=>qjz q) fun ρ=>by rw[run]
theorem qa9 {T:Tb} {Γ:Env} {C:Ctx} {X:Cx} {sc:Scope} (I:XOk T Γ C X none sc) (hp:PassesOwn (model X.prog X.w) X.A X.env X.xe) (hF:FrOk X):∀(ir:Sms) {ss rest:List Stmt} {u:TS},qaL T sc ir ss=true→PSs X rest u→PSs X (ss++rest) (tSk C (qad Γ ir) u)
 |.nil,ss,rest,u,h,hr=>by
  unfold qaL at h
  cases ss with
  |nil=>exact qan hr fun D σ H q=>ql4 (qiz q fun ρ=>by rw[qad])
  |cons _ _=>cases h
 |.cons s ir,ss,rest,u,h,hr=>by
  unfold qaL at h
  cases ss with
  |nil=>cases h
  |cons st ss =>
   simp only[Bool.and_eq_true] at h
   refine qan (pss_cons (qmM I hp hF s h.1) (qa9 I hp hF ir h.2 hr)) fun D σ H q=>qk1 (qiz q fun ρ=>by rw[qad])
 |.frz i ir,ss,rest,u,h,hr=>by
  unfold qaL at h
  refine qan (qa9 I hp hF ir h hr) fun D σ H q=>qlK (i:=i) (qiz q fun ρ=>by rw[qad])
 |.hav i f es rd cs ir,ss,rest,u,h,hr=>by
  unfold qaL at h
  cases ss with
  |nil=>cases h
  |cons st ss =>
   simp only[Bool.and_eq_true] at h
   obtain⟨⟨⟨h1,h2⟩,h3⟩,h4⟩:=h
   cases e:Γ.fn[f]? with
   |none =>
    refine qan pss_never fun D σ H q=>?_
    obtain⟨ρ,P,N,S,o⟩:=q
    rw[qad,e] at o
    exact o.elim
   |some g =>
    obtain⟨n,hn,hs⟩:=qmB I h1 g e
    have in_:PSs X (ss++rest) (tIn C (qad Γ rd) (tCk C cs (tSk C (qad Γ ir) u))):=by
     have e1:ss++rest=ss.take rd.len++((ss.drop rd.len).take cs.len++((ss.drop rd.len).drop cs.len++rest)):=by
      rw[←List.append_assoc ((ss.drop rd.len).take cs.len),List.take_append_drop,←List.append_assoc,List.take_append_drop]
     rw[e1]
     have k:=qcA (C:=C) I hp cs h3 (qa9 I hp hF ir h4 hr)
     exact⟨fun pins s σ H D I' q=>by
      obtain⟨TT,fx,q⟩:=q
      exact(qa9 (I.hv (TT:=TT) (fx:=fx)) hp hF rd h2 k).run pins s σ H D I' q⟩
    refine qan (pss_cons hs in_) fun D σ H q=>qlP hn (qiz q fun ρ=>by rw[qad,e]<;>rfl)
end
theorem qkt {T:Tb} {Γ:Env} {C:Ctx} {X:Cx} {sc:Scope} (I:XOk T Γ C X none sc) (hp:PassesOwn (model X.prog X.w) X.A X.env X.xe) (hF:FrOk X) (ir:Sms) {ss:List Stmt} (h:qaL T sc ir ss=true):PSs X ss (tS C (qad Γ ir)):=qd7 (qa9 I hp hF ir h pss_nil)
end Cm
namespace Cm
open PySem PySem.Spec PyProof.Rows L2
structure TabOk (P:Program) (w:World) (K:PySem.W.Frag) (mg:Str→Option Value) (base:Heap) (T:Tb) (Γ:Env) (G:Glo) (k:Nat):Prop where
 blt:∀x∈bltNames,mg x=none
 fn:∀(f:Nat) (x:Str) (n:Nat),T.fn[f]? = some (x,n)→∀g,Γ.fn[f]? = some g→∃(j:Nat) (a:Addr) (fd:FuncData) (ps:List Str) (m:Nat) (gf:List D→RE ER),j≤k∧FnOk P w K mg base (L2.CX P w) j a fd ps (spD G (n+m) gf)∧mg x=some (.ref a)∧PySem.W.keepIn K (.ref a)=true∧Part K G fd ps n m g.2 gf
 gc:∀(i:Nat) (x:Str),T.gc[i]? = some x→∀c,Γ.gc[i]? = some c→∃u v,mg x=some u∧RelV v u∧(∀(P N R:Hp),Rep G P (LNb G.K P N R true) c.2 v)∧WrT G v
 mt:∀(m:Nat) (x:Str) (n:Nat),T.mn[m]? = some (x,n)→∀c g,Γ.mt c m=some g→Cls K (G.ca c)∧x∉G.fl c∧∃(j:Nat) (a:Addr) (fd:FuncData) (ps:List Str),j≤k∧Meth K (G.ca c) x a∧FnOk P w K mg base (L2.CX P w) j a fd ps (spD G (n+1) g)∧Binds K fd ps []
 fs:∀(f:Nat) (x:Str),T.fs[f]? = some x→∀c i,Γ.fi c f=some i→Cls K (G.ca c)∧NoAttr K (G.ca c) x∧(G.fl c)[i]? = some x∧(G.fl c).Nodup
 nw:∀(i:Nat) (x:Str) (n:Nat),T.nw[i]? = some (x,n)→∀g,Γ.nw[i]? = some g→(∃(j:Nat) (a:Addr) (fd:FuncData) (ps:List Str),j+1≤k∧Mk K (G.ca g.1) a∧FnOk P w K mg base (L2.CX P w) j a fd ps (spI G g.1 n g.2)∧mg x=some (.ref (G.ca g.1))∧Binds K fd ps []) ∨
  (n=0∧g.2 []=.ok []∧Mk0 K (G.ca g.1)∧G.fl g.1=[]∧mg x=some (.ref (G.ca g.1)))
 ck:∀(i:Nat) (x:Str) (own:Bool),T.ck[i]? = some (x,own)→CkOk G K mg x own Γ.ck[i]? Γ.ik[i]?
 xk:∀(i:Nat) (x:Str),T.xk[i]? = some x→∀c,Γ.xk[i]? = some c→RsOk K mg (G.ca c) x
 dc:∀(i:Nat) (x:Str),T.dc[i]? = some x→∀t,Γ.dc[i]? = some t→qmU G K w mg x t.2
theorem qh7 {G:Glo} {P N R:Hp}:∀{ds:List D} {vs:List V},Reps G P (SqL G.K R) ds vs→Reps G P (LNb G.K P N R false) ds vs:=fun {ds vs} h=>Reps.mono (L2.Same.refl _) ds vs LNb.ofR h
theorem qhM {C:Ctx} {ds:List D} {vs:List V} {N:List Str} {m:Nat} (hp:Same C.P0 C.B) (hr:Same C.R C.B) (h:Reps C.G C.P0 (SqL C.G.K C.R) ds vs) (hm:N.length=ds.length+m) :
  SR C C.P0 (fun _=>none) C.B (ds.map (fun d=>Sl.val d d.flat)++List.replicate m .non) (L2.start N vs) where
 reg:=⟨hp,fun _ _ e=>(nomatch e),L2.Same.refl _,hr,L2.Same.refl _,fun _ e=>.inl e,fun _ e=>absurd rfl e,fun _ e=>absurd rfl e⟩
 len:=by
  have:=h.length
  simp only[L2.start,List.length_append,List.length_map,List.length_replicate]
  try omega
 sl:=fun i s e=>by
  have hl:=h.length
  by_cases hi:i<ds.length
  ·rw[List.getElem?_append_left (by simpa using hi),List.getElem?_map,List.getElem?_eq_getElem hi] at e
   cases e
   obtain⟨v,q1,q2⟩:=(qh7 (N:=fun _=>none) h).get (List.getElem?_eq_getElem hi)
   refine⟨some v,?_,v,rfl,RepB.nf (C:=C) q2⟩
   unfold L2.start
   rw[List.getElem?_append_left (by simp;omega),List.getElem?_map,q1]
   rfl
  ·rw[List.getElem?_append_right (by simpa using hi),List.getElem?_replicate] at e
   split at e
   ·rename_i hm'
    cases e
    refine⟨none,?_,trivial⟩
    unfold L2.start
    simp only[List.length_map] at hm'
    rw[List.getElem?_append_right (by simp;omega),List.getElem?_replicate,if_pos]
    simp only[List.length_map]
    omega
   ·cases e
 ap:=fun i j p es b es' c e1 _ _ _=>by
  exfalso
  have:=List.mem_of_getElem? e1
  rcases List.mem_append.mp this with z | z
  ·obtain⟨_,_,z⟩:=List.mem_map.mp z;cases z
  ·have:=List.eq_of_mem_replicate z;cases this
 ad:=AD.no fun i s e=>by
  rcases List.mem_append.mp (List.mem_of_getElem? e) with z | z
  ·obtain⟨_,_,rfl⟩:=List.mem_map.mp z;rfl
  ·rw[List.eq_of_mem_replicate z];rfl
 ar:=AR.no fun i s e=>by
  rcases List.mem_append.mp (List.mem_of_getElem? e) with z | z
  ·obtain⟨_,_,rfl⟩:=List.mem_map.mp z;rfl
  ·rw[List.eq_of_mem_replicate z];rfl
theorem qmD {P:Program} {w:World} {K:PySem.W.Frag} {mg:Str→Option Value} {base:Heap} {x qual:Str} {params:Arguments} {body:List Stmt} {scope:Scope} {dvs:List V} {kws:List (Str × V)} {f:Addr} {fd:FuncData} {T:Tb} {Γ:Env} {G:Glo} {k m:Nat} {ps:List Str} {ir:Sms}
  (F:FunD K x qual params body scope dvs kws f fd) (S:FnScope T.N ps scope) (hG:G.K=K) (tab:TabOk P w K mg base T Γ G k) (hm:T.N.length=ps.length+m) (hc:qaL T scope ir body=true) :
  FnOk P w K mg base (L2.CX P w) (k+1) f fd ps (spD G ps.length (qeR Γ ps.length m ir)):=by
 refine F.ok S (fun vs H Q E h=>qkQ h) (fun cdv A outer s H vs Q E hr h=>?_)
 obtain⟨Pr,R,ds,h1,h2,h3,h4,h5⟩:=h
 let C:Ctx:=⟨G,R,H,Pr,fun cls d _ H'=>E cls d H',0,fun _=>none⟩
 have I:XOk T Γ C (cxOf (L2.CX P w) P w K mg base T.N qual scope f cdv A outer s H E) none scope:={
  nm:=rfl
  nd:=S.nd
  sc:=rfl
  K:=hG.symm
  tk:=takes_of rfl rfl rfl rfl
  calm:=rfl
  un:=by
   have h:=hr.un
   have e:(cxOf (L2.CX P w) P w K mg base T.N qual scope f cdv A outer s H E).A=A.deeper (envOfC qual scope s.heap.objs.size f cdv):=rfl
   rw[e]
   omega
  blt:=tab.blt
  fnc:=rfl
  fn:=fun i y n e g eg=>by
   obtain⟨j,a,fd',ps',m',gf,hj,q1,q2,q3,q4⟩:=tab.fn i y n e g eg
   exact⟨j,a,fd',ps',m',gf,q1,hr.mono hj,q2,q3,q4⟩
  gc:=fun i y e c ec=>by
   obtain⟨u,v,q1,q2,q3,q4⟩:=tab.gc i y e c ec
   exact⟨u,v,q1,q2,fun P N=>q3 P N R,q4⟩
  mt:=fun i y n e c g eg=>by
   obtain⟨q0,q1,j,a,fd',ps',hj,q2,q3,q4⟩:=tab.mt i y n e c g eg
   exact⟨q0,q1,j,a,fd',ps',q2,q3,hr.mono hj,q4⟩
  fs:=fun i y e c j ej=>by
   obtain⟨q0,q1,q2,q3⟩:=tab.fs i y e c j ej
   exact⟨q0,q1,q2,q3⟩
  nw:=fun i y n e g eg=>by
   rcases tab.nw i y n e g eg with⟨j,a,fd',ps',hj,q1,q2,q3,q4⟩ | q
   ·exact⟨.inl ⟨j,a,fd',ps',q1,q2,hr.mono hj,q3,q4⟩⟩
   ·exact⟨.inr q⟩
  ck:=tab.ck
  xk:=tab.xk
  dc:=tab.dc }
 have hp:PassesOwn (model (cxOf (L2.CX P w) P w K mg base T.N qual scope f cdv A outer s H E).prog (cxOf (L2.CX P w) P w K mg base T.N qual scope f cdv A outer s H E).w) (cxOf (L2.CX P w) P w K mg base T.N qual scope f cdv A outer s H E).A (cxOf (L2.CX P w) P w K mg base T.N qual scope f cdv A outer s H E).env (cxOf (L2.CX P w) P w K mg base T.N qual scope f cdv A outer s H E).xe:=
  passes_of (K:=fun e s''=>L2.CX P w outer H s E e s'') rfl
 refine⟨tS C (qad Γ ir),qkt I hp ⟨rfl,rfl,rfl⟩ ir hc,ds.map (fun d=>Sl.val d d.flat)++List.replicate m .non,Pr,fun _=>none,qhM (C:=C) h1 h2 h3 (by rw[hm,h4]),?_⟩
 unfold qeR at h5
 rw[if_pos h4] at h5
 have adv:∀{P' N' H':Hp},Reg C P' N' H'→Adv Pr (fun _=>none) H P' N' H':=fun {P' N' H'} r=>⟨r.bH,r.p0,fun _ _ e=>(nomatch e),r.pH,r.nH,r.pn,fun a q=>.inr (r.nw a q),fun a q q2=>absurd (r.dj a q) q2⟩
 cases e:qad Γ ir (ds.map (fun d=>Sl.val d d.flat)++List.replicate m .non) with
 |bad=>rw[e] at h5;exact h5.elim
 |brk ρ=>rw[e] at h5;exact h5.elim
 |cnt ρ=>rw[e] at h5;exact h5.elim
 |nx ρ=>rw[e] at h5;exact fun σ P' N' H' S' _ _=>h5 .non H' P' N' (adv S'.reg) rfl
 |ret er =>
  rw[e] at h5
  intro v P' N' H' r q
  exact h5 v H' P' N' (adv r) (by cases er<;>exact q)
 |exc c fs =>
  rw[e] at h5
  intro σ d P' N' H' r q
  exact h5 d H' P' N' (adv r) q
end Cm
namespace Cm
open PySem PySem.Spec PyProof.Rows L2 PySem.W
structure DefAt (P:Program) (w:World) (K:PySem.W.Frag) (mg:Str→Option Value) (base:Heap) (G:Glo) (k:Nat) (x:Str) (n:Nat) (g:List D→RE ER):Prop where
 ex:∃(j:Nat) (a:Addr) (fd:FuncData) (ps:List Str) (m:Nat) (gf:List D→RE ER),j≤k∧FnOk P w K mg base (L2.CX P w) j a fd ps (spD G (n+m) gf)∧mg x=some (.ref a)∧PySem.W.keepIn K (.ref a)=true∧Part K G fd ps n m g gf
theorem DefAt.mono {P:Program} {w:World} {K:PySem.W.Frag} {mg:Str→Option Value} {base:Heap} {G:Glo} {k k':Nat} {x:Str} {n:Nat} {g:List D→RE ER} (h:DefAt P w K mg base G k x n g) (e:k≤k'):DefAt P w K mg base G k' x n g:=by
 obtain⟨⟨j,a,fd,ps,m,gf,q,r⟩⟩:=h
 exact⟨⟨j,a,fd,ps,m,gf,Nat.le_trans q e,r⟩⟩
def FnsOk (P:Program) (w:World) (K:PySem.W.Frag) (mg:Str→Option Value) (base:Heap) (G:Glo) (k:Nat):List (Str × Nat)→List (Str × (List D→RE ER))→Prop
 |t::ts,g::gs=>DefAt P w K mg base G k t.1 t.2 g.2∧FnsOk P w K mg base G k ts gs
 |_,_=>True
theorem FnsOk.get {P:Program} {w:World} {K:PySem.W.Frag} {mg:Str→Option Value} {base:Heap} {G:Glo} {k:Nat}:∀{ts:List (Str × Nat)} {gs:List (Str × (List D→RE ER))},FnsOk P w K mg base G k ts gs →
  ∀(f:Nat) (x:Str) (n:Nat),ts[f]? = some (x,n)→∀g,gs[f]? = some g→∃(j:Nat) (a:Addr) (fd:FuncData) (ps:List Str) (m:Nat) (gf:List D→RE ER),j≤k∧FnOk P w K mg base (L2.CX P w) j a fd ps (spD G (n+m) gf)∧mg x=some (.ref a)∧PySem.W.keepIn K (.ref a)=true∧Part K G fd ps n m g.2 gf
 |[],_,_,f,x,n,e,_,_=>by simp at e
 |_::_,[],_,f,x,n,_,g,e=>by simp at e
 |t::ts,g::gs,⟨h,hs⟩,0,x,n,e,g',e'=>by
  simp at e e'
  subst e e'
  exact h.ex
 |t::ts,g::gs,⟨h,hs⟩,f+1,x,n,e,g',e'=>FnsOk.get hs f x n (by simpa using e) g' (by simpa using e')
theorem qmf {fa:List He.Fa} {fn:List He.DefD} {K:PySem.W.Frag} {h:Heap} {mg:Str→Option Value} (c:He.SaysD (bltNames.map He.Fa.free++fa) fn K) (X:K.In h) (N:h.Ns mainGlobals mg):∀x∈bltNames,mg x=none:=fun x hx=>by
 have hm:He.Fa.free x∈bltNames.map He.Fa.free++fa:=List.mem_append_left _ (List.mem_map_of_mem hx)
 obtain⟨i,hi⟩:=List.getElem?_of_mem hm
 exact He.free_ok X N (c.fact i hi)
structure MthAt (P:Program) (w:World) (K:PySem.W.Frag) (mg:Str→Option Value) (base:Heap) (G:Glo) (k:Nat) (c:Nat) (x:Str) (n:Nat) (g:List D→RE ER):Prop where
 ex:Cls K (G.ca c)∧x∉G.fl c∧∃(j:Nat) (a:Addr) (fd:FuncData) (ps:List Str),j≤k∧Meth K (G.ca c) x a∧FnOk P w K mg base (L2.CX P w) j a fd ps (spD G (n+1) g)∧Binds K fd ps []
theorem MthAt.mono {P:Program} {w:World} {K:PySem.W.Frag} {mg:Str→Option Value} {base:Heap} {G:Glo} {k k' c:Nat} {x:Str} {n:Nat} {g:List D→RE ER} (h:MthAt P w K mg base G k c x n g) (e:k≤k'):MthAt P w K mg base G k' c x n g:=by
 obtain⟨h1,h2,j,a,fd,ps,q,r⟩:=h
 exact⟨h1,h2,j,a,fd,ps,Nat.le_trans q e,r⟩
def MtsOk (P:Program) (w:World) (K:PySem.W.Frag) (mg:Str→Option Value) (base:Heap) (G:Glo) (k:Nat) (mn:List (Str × Nat)):List (Nat × Nat × (List D→RE ER))→Prop
 |[]=>True
 |t::ts=>(∀x n,mn[t.2.1]? = some (x,n)→MthAt P w K mg base G k t.1 x n t.2.2)∧MtsOk P w K mg base G k mn ts
theorem MtsOk.get {P:Program} {w:World} {K:PySem.W.Frag} {mg:Str→Option Value} {base:Heap} {G:Glo} {k:Nat} {mn:List (Str × Nat)}:∀{ts:List (Nat × Nat × (List D→RE ER))},MtsOk P w K mg base G k mn ts →
  ∀(m:Nat) (x:Str) (n:Nat),mn[m]? = some (x,n)→∀c g,qbV ts c m=some g→MthAt P w K mg base G k c x n g
 |[],_,m,x,n,_,c,g,e=>by cases e
 |t::ts,⟨h,hs⟩,m,x,n,e,c,g,e'=>by
  unfold qbV at e'
  split at e'
  ·rename_i h1
   split at e'
   ·rename_i h2
    subst h1 h2
    cases e'
    exact h x n e
   ·exact MtsOk.get hs m x n e c g e'
  ·exact MtsOk.get hs m x n e c g e'
def qot (K:PySem.W.Frag) (G:Glo) (c i:Nat) (x:Str):Prop:=Cls K (G.ca c)∧NoAttr K (G.ca c) x∧(G.fl c)[i]? = some x∧(G.fl c).Nodup
def FdsOk (K:PySem.W.Frag) (G:Glo) (fs:List Str):List (Nat × Nat × Nat)→Prop
 |[]=>True
 |t::ts=>(∀x,fs[t.2.1]? = some x→qot K G t.1 t.2.2 x)∧FdsOk K G fs ts
theorem FdsOk.get {K:PySem.W.Frag} {G:Glo} {fs:List Str}:∀{ts:List (Nat × Nat × Nat)},FdsOk K G fs ts→∀(f:Nat) (x:Str),fs[f]? = some x→∀c i,qbW ts c f=some i→qot K G c i x
 |[],_,f,x,_,c,i,e=>by cases e
 |t::ts,⟨h,hs⟩,f,x,e,c,i,e'=>by
  unfold qbW at e'
  split at e'
  ·rename_i h1
   split at e'
   ·rename_i h2
    subst h1 h2
    cases e'
    exact h x e
   ·exact FdsOk.get hs f x e c i e'
  ·exact FdsOk.get hs f x e c i e'
structure NwAt (P:Program) (w:World) (K:PySem.W.Frag) (mg:Str→Option Value) (base:Heap) (G:Glo) (k:Nat) (x:Str) (n:Nat) (c:Nat) (g:List D→RE (List D)):Prop where
 ex:(∃(j:Nat) (a:Addr) (fd:FuncData) (ps:List Str),j+1≤k∧Mk K (G.ca c) a∧FnOk P w K mg base (L2.CX P w) j a fd ps (spI G c n g)∧mg x=some (.ref (G.ca c))∧Binds K fd ps []) ∨
  (n=0∧g []=.ok []∧Mk0 K (G.ca c)∧G.fl c=[]∧mg x=some (.ref (G.ca c)))
theorem NwAt.mono {P:Program} {w:World} {K:PySem.W.Frag} {mg:Str→Option Value} {base:Heap} {G:Glo} {k k':Nat} {x:Str} {n c:Nat} {g:List D→RE (List D)} (h:NwAt P w K mg base G k x n c g) (e:k≤k'):NwAt P w K mg base G k' x n c g:=by
 rcases h.ex with⟨j,a,fd,ps,q,r⟩ | q
 ·exact⟨.inl ⟨j,a,fd,ps,Nat.le_trans q e,r⟩⟩
 ·exact⟨.inr q⟩
def NwsOk (P:Program) (w:World) (K:PySem.W.Frag) (mg:Str→Option Value) (base:Heap) (G:Glo) (k:Nat):List (Str × Nat)→List (Nat × (List D→RE (List D)))→Prop
 |t::ts,g::gs=>NwAt P w K mg base G k t.1 t.2 g.1 g.2∧NwsOk P w K mg base G k ts gs
 |_,_=>True
theorem NwsOk.get {P:Program} {w:World} {K:PySem.W.Frag} {mg:Str→Option Value} {base:Heap} {G:Glo} {k:Nat}:∀{ts:List (Str × Nat)} {gs:List (Nat × (List D→RE (List D)))},NwsOk P w K mg base G k ts gs →
  ∀(f:Nat) (x:Str) (n:Nat),ts[f]? = some (x,n)→∀g,gs[f]? = some g→NwAt P w K mg base G k x n g.1 g.2
 |[],_,_,f,x,n,e,_,_=>by simp at e
 |_::_,[],_,f,x,n,_,g,e=>by simp at e
 |t::ts,g::gs,⟨h,hs⟩,0,x,n,e,g',e'=>by
  simp at e e'
  subst e e'
  exact h
 |t::ts,g::gs,⟨h,hs⟩,f+1,x,n,e,g',e'=>NwsOk.get hs f x n (by simpa using e) g' (by simpa using e')
def qnn (G:Glo) (mg:Str→Option Value) (x:Str) (c:D):Prop:=∃u v,mg x=some u∧RelV v u∧(∀(P N R:Hp),Rep G P (LNb G.K P N R true) c v)∧WrT G v
def GcsOk (G:Glo) (mg:Str→Option Value):List Str→List (Str × D)→Prop
 |t::ts,g::gs=>qnn G mg t g.2∧GcsOk G mg ts gs
 |_,_=>True
theorem GcsOk.get {G:Glo} {mg:Str→Option Value}:∀{ts:List Str} {gs:List (Str × D)},GcsOk G mg ts gs→∀(f:Nat) (x:Str),ts[f]? = some x→∀g,gs[f]? = some g→qnn G mg x g.2
 |[],_,_,f,x,e,_,_=>by simp at e
 |_::_,[],_,f,x,_,g,e=>by simp at e
 |t::ts,g::gs,⟨h,hs⟩,0,x,e,g',e'=>by
  simp at e e'
  subst e e'
  exact h
 |t::ts,g::gs,⟨h,hs⟩,f+1,x,e,g',e'=>GcsOk.get hs f x (by simpa using e) g' (by simpa using e')
theorem qmJ {K:PySem.W.Frag} {h:Heap} {mg:Str→Option Value} {G:Glo} {fa:List He.Fa} {fn:List He.DefD} {x:Str} {s:List Nat} {j:Nat} (c:He.SaysD fa fn K) (X:K.In h) (N:h.Ns mainGlobals mg) (hx:fa[j]? = some (.str x ⟨s.toArray⟩)):qnn G mg x (.str s):=by
 obtain⟨t,e⟩:=He.str_ok X N (c.fact j hx)
 exact⟨_,.str ⟨s.toArray⟩,e,⟨t,rfl⟩,fun _ _ _=>rfl,fun _ z=>nomatch z⟩
theorem qmC {xa:List Xa} {K:PySem.W.Frag} (h:qmr xa K=true) {i:Nat} {a:Xa} (e:xa[i]? = some a):a.ok K=true:=List.all_eq_true.mp h a (List.mem_of_getElem? e)
theorem qlm {K:PySem.W.Frag} {x d:Str} {own b:Bool} (h:(Xa.ck x own d b).ok K=true):PySem.W.kitOne K (.ref (He.ga K d)) (cv K x own)=some b∧PySem.W.exmOne K (.ref (He.ga K d)) (cv K x own)=some b∧ExcC K (He.ga K d):=by
 unfold Xa.ok at h
 simp only[Bool.and_eq_true,decide_eq_true_eq] at h
 obtain⟨h1,h2,h3,h4,h5,h6,h7,h8,h9,h10⟩:=h
 exact⟨h1,h2,⟨He.eqO_ok h3,He.eqO_ok h4,h5,h6,He.eqO_ok h7,He.eqO_ok h8,h9,h10⟩⟩
def qlC (G:Glo) (K:PySem.W.Frag) (x:Str) (own:Bool) (t:List (Nat × Bool)):Prop:=∀c b,t.lookup c=some b→PySem.W.kitOne K (.ref (G.ca c)) (cv K x own)=some b∧PySem.W.exmOne K (.ref (G.ca c)) (cv K x own)=some b∧ExcC K (G.ca c)
def qm8 (G:Glo) (K:PySem.W.Frag) (x:Str) (own:Bool) (t:List (Nat × Bool)):Prop:=∀c b,t.lookup c=some b→PySem.W.kitOne K (.ref (G.ca c)) (cv K x own)=some b∧InsC K (G.ca c)
theorem qa3 {G:Glo} {K:PySem.W.Frag} {x:Str} {own:Bool}:qlC G K x own []:=fun c b e=>by cases e
theorem qa4 {G:Glo} {K:PySem.W.Frag} {x:Str} {own:Bool}:qm8 G K x own []:=fun c b e=>by cases e
theorem qaz {G:Glo} {K:PySem.W.Frag} {x d:Str} {own b0:Bool} {c0 j:Nat} {t:List (Nat × Bool)} {xa:List Xa} (h:qmr xa K=true) (e:xa[j]? = some (.ck x own d b0)) (hc:G.ca c0=He.ga K d) (ht:qlC G K x own t):qlC G K x own ((c0,b0)::t):=fun c b q=>by
 rw[List.lookup_cons] at q
 split at q
 ·rename_i z
  have z:c=c0:=by simpa using z
  subst z
  cases q
  rw[hc]
  exact qlm (qmC h e)
 ·exact ht c b q
theorem qbi {K:PySem.W.Frag} {h:Heap} {mg:Str→Option Value} {G:Glo} {fa:List He.Fa} {fn:List He.DefD} {x:Str} {j:Nat} {t1 t2:List (Nat × Bool)} (c:He.SaysD fa fn K) (X:K.In h) (N:h.Ns mainGlobals mg) (hx:fa[j]? = some (.glo x)) (h1:qlC G K x true t1) (h2:qm8 G K x true t2) :
  CkOk G K mg x true (some fun c=>t1.lookup c) (some fun c=>t2.lookup c):=
 ⟨.ref (He.ga K x),.ref (He.ga K x),⟨.own _,He.glo_ok X N (c.fact j hx)⟩,fun g e c b q=>by cases e;exact h1 c b q,fun g e c b q=>by cases e;exact h2 c b q⟩
theorem qm3 {K:PySem.W.Frag} {mg:Str→Option Value} {G:Glo} {t1 t2:List (Nat × Bool)} (h1:qlC G K "ValueError" false t1) (h2:qm8 G K "ValueError" false t2) :
  CkOk G K mg "ValueError" false (some fun c=>t1.lookup c) (some fun c=>t2.lookup c):=
 ⟨.ty "ValueError",.type "ValueError",⟨.ty _,rfl,rfl⟩,fun g e c b q=>by cases e;exact h1 c b q,fun g e c b q=>by cases e;exact h2 c b q⟩
def CksOk (G:Glo) (K:PySem.W.Frag) (mg:Str→Option Value):List (Str × Bool)→List (Nat→Option Bool)→List (Nat→Option Bool)→Prop
 |t::ts,a::as,b::bs=>CkOk G K mg t.1 t.2 (some a) (some b)∧CksOk G K mg ts as bs
 |[],_,_=>True
 |_,_,_=>False
theorem CksOk.get {G:Glo} {K:PySem.W.Frag} {mg:Str→Option Value}:∀{ts:List (Str × Bool)} {as bs:List (Nat→Option Bool)},CksOk G K mg ts as bs→∀(f:Nat) (x:Str) (own:Bool),ts[f]? = some (x,own)→CkOk G K mg x own as[f]? bs[f]?
 |[],_,_,_,f,x,own,e=>by simp at e
 |_::_,[],_,h,f,x,own,e=>h.elim
 |_::_,_::_,[],h,f,x,own,e=>h.elim
 |t::ts,a::as,b::bs,⟨h,hs⟩,0,x,own,e=>by
  simp at e
  subst e
  exact h
 |t::ts,a::as,b::bs,⟨h,hs⟩,f+1,x,own,e=>by
  simp only[List.getElem?_cons_succ]
  exact CksOk.get hs f x own (by simpa using e)
theorem rs1 {K:PySem.W.Frag} {h:Heap} {mg:Str→Option Value} {G:Glo} {fa:List He.Fa} {fn:List He.DefD} {x:Str} {j j2 c0:Nat} (c:He.SaysD fa fn K) (X:K.In h) (N:h.Ns mainGlobals mg) (hx:fa[j]? = some (.glo x)) (hx2:fa[j2]? = some (.exc x)) (hc:G.ca c0=He.ga K x):RsOk K mg (G.ca c0) x:=by
 obtain⟨h1,h2,h3,h4⟩:=He.exc_ok (c.fact j2 hx2)
 rw[hc]
 exact⟨He.glo_ok X N (c.fact j hx),h1,h2,h3,h4⟩
def XksOk (G:Glo) (K:PySem.W.Frag) (mg:Str→Option Value):List Str→List Nat→Prop
 |t::ts,c::cs=>RsOk K mg (G.ca c) t∧XksOk G K mg ts cs
 |_,_=>True
theorem XksOk.get {G:Glo} {K:PySem.W.Frag} {mg:Str→Option Value}:∀{ts:List Str} {cs:List Nat},XksOk G K mg ts cs→∀(f:Nat) (x:Str),ts[f]? = some x→∀c,cs[f]? = some c→RsOk K mg (G.ca c) x
 |[],_,_,f,x,e,_,_=>by simp at e
 |_::_,[],_,f,x,_,c,e=>by simp at e
 |t::ts,g::gs,⟨h,hs⟩,0,x,e,g',e'=>by
  simp at e e'
  subst e e'
  exact h
 |t::ts,g::gs,⟨h,hs⟩,f+1,x,e,g',e'=>XksOk.get hs f x (by simpa using e) g' (by simpa using e')
def DcsOk (G:Glo) (K:PySem.W.Frag) (w:World) (mg:Str→Option Value):List Str→List (Str × List (List Nat × Option D))→Prop
 |t::ts,g::gs=>qmU G K w mg t g.2∧DcsOk G K w mg ts gs
 |_,_=>True
theorem DcsOk.get {G:Glo} {K:PySem.W.Frag} {w:World} {mg:Str→Option Value}:∀{ts:List Str} {gs:List (Str × List (List Nat × Option D))},DcsOk G K w mg ts gs→∀(f:Nat) (x:Str),ts[f]? = some x→∀g,gs[f]? = some g→qmU G K w mg x g.2
 |[],_,_,f,x,e,_,_=>by simp at e
 |_::_,[],_,f,x,_,g,e=>by simp at e
 |t::ts,g::gs,⟨h,hs⟩,0,x,e,g',e'=>by
  simp at e e'
  subst e e'
  exact h
 |t::ts,g::gs,⟨h,hs⟩,f+1,x,e,g',e'=>DcsOk.get hs f x (by simpa using e) g' (by simpa using e')
theorem qhG {P:Program} {w:World} {K:PySem.W.Frag} {h:Heap} {mg:Str→Option Value} {base:Heap} {G:Glo} {fa:List He.Fa} {fn:List He.DefD} {T:Tb} {Γ:Env} {k:Nat} {mts:List (Nat × Nat × (List D→RE ER))} {fds:List (Nat × Nat × Nat)}
  (c:He.SaysD (bltNames.map He.Fa.free++fa) fn K) (X:K.In h) (N:h.Ns mainGlobals mg) (hf:FnsOk P w K mg base G k T.fn Γ.fn) (hgc:GcsOk G mg T.gc Γ.gc) (hmt:Γ.mt=qbV mts) (hm:MtsOk P w K mg base G k T.mn mts)
  (hfi:Γ.fi=qbW fds) (hfd:FdsOk K G T.fs fds) (hnw:NwsOk P w K mg base G k T.nw Γ.nw) (hck:CksOk G K mg T.ck Γ.ck Γ.ik) (hxk:XksOk G K mg T.xk Γ.xk) (hdc:DcsOk G K w mg T.dc Γ.dc):TabOk P w K mg base T Γ G k where
 blt:=qmf c X N
 fn:=hf.get
 gc:=hgc.get
 mt:=fun m x n e c g e'=>by
  rw[hmt] at e'
  exact(hm.get m x n e c g e').ex
 fs:=fun f x e c i e'=>by
  rw[hfi] at e'
  exact hfd.get f x e c i e'
 nw:=fun i x n e g e'=>(hnw.get i x n e g e').ex
 ck:=hck.get
 xk:=hxk.get
 dc:=hdc.get
section
variable {P:Program} {w:World} {K:PySem.W.Frag} {h:Heap} {mg:Str→Option Value} {base:Heap} {G:Glo} {fa:List He.Fa} {fn:List He.DefD} {T:Tb} {Γ:Env} {k m i j:Nat} {ir:Sms} {ps:List Str} {d:He.DefD} {x y:Str}
theorem qi9 (c:He.SaysD fa fn K) (X:K.In h) (N:h.Ns mainGlobals mg) (hG:G.K=K) (hd:fn[i]? = some d) (hat:d.at_=(x,none)) (hdf:d.dfl=[]) (hkw:d.kwd=[]) (hx:fa[j]? = some (.glo x))
  (S:FnScope T.N ps d.scope) (hm:T.N.length=ps.length+m) (hc:qaL T d.scope ir d.body=true)
  (hb:∀(kV doc pm:Value) (an:Option Addr) (cdv ct:Value) (us:List Value),us.length=ps.length→bindArgs (PySem.W.fnOf d.name d.qual d.params d.body d.scope .none kV doc pm an cdv ct) ⟨us,[]⟩=pure (ps.zip us))
  (tab:TabOk P w K mg base T Γ G k):DefAt P w K mg base G (k+1) x ps.length (qeR Γ ps.length m ir):=by
 obtain⟨fd,F⟩:=c.def_ i hd
 have e1:d.dvs K=[]:=by unfold He.DefD.dvs;rw[hdf];rfl
 have e2:d.kws K=[]:=by unfold He.DefD.kws;rw[hkw];rfl
 rw[e1,e2,hat] at F
 exact⟨⟨k+1,_,fd,ps,0,_,Nat.le_refl _,qmD F S hG tab hm hc,He.glo_ok X N (c.fact j hx),F.kp,Part.all (FunD.bindsN F hb)⟩⟩
theorem FnOk.bad {P:Program} {w:World} {K:PySem.W.Frag} {mg:Str→Option Value} {base:Heap} {CX:CXT} {k n:Nat} {f:Addr} {fd:FuncData} {ps:List Str} {G:Glo}:FnOk P w K mg base CX k f fd ps (spD G n fun _=>.bad):=
 ⟨fun _ _ _ _ ⟨_,_,_,_,_,_,_,h⟩=>h.elim,fun _ _ _ _ _ _ _ _ _ _ _ _ _ ⟨_,_,_,_,_,_,_,h⟩=>h.elim⟩
end
theorem qo2 {P:Program} {w:World} {K:PySem.W.Frag} {h:Heap} {mg:Str→Option Value} {G:Glo} {fa:List He.Fa} {fn:List He.DefD} {T:Tb} {Γ:Env} {k m i j:Nat} {ir:Sms} {y:Str} {d:He.DefD} {x:Str} {f:Addr}
  (c:He.SaysD fa fn K) (X:K.In h) (N:h.Ns mainGlobals mg) (hG:G.K=K) (hd:fn[i]? = some d) (hat:d.at_=(x,none)) (hdf:d.dfl=[]) (hkw:d.kwd=[]) (hx:fa[j]? = some (.glo x)) (hfa:mg x=some (.ref f))
  (S:FnScope T.N [y] d.scope) (hm:T.N.length=1+m) (hc:qaL T d.scope ir d.body=true)
  (hb:∀(kV doc pm:Value) (an:Option Addr) (cdv ct:Value) (us:List Value),us.length=1→bindArgs (PySem.W.fnOf d.name d.qual d.params d.body d.scope .none kV doc pm an cdv ct) ⟨us,[]⟩=pure ([y].zip us))
  (tab:∀base:Heap,K.In base→base.Ns mainGlobals mg→TabOk P w K mg base T Γ G k) :
  ∃fd:FuncData,(∀(s:Shared) (u:Value),BindsTo s fd ⟨[u],[]⟩ [(y,u)])∧∀base:Heap,K.In base→base.Ns mainGlobals mg→FnOk P w K mg base (L2.CX P w) (k+1) f fd [y] (spD G 1 (qeR Γ 1 m ir)):=by
 obtain⟨fd,F⟩:=c.def_ i hd
 have e1:d.dvs K=[]:=by unfold He.DefD.dvs;rw[hdf];rfl
 have e2:d.kws K=[]:=by unfold He.DefD.kws;rw[hkw];rfl
 rw[e1,e2,hat] at F
 have e:=hfa.symm.trans (He.glo_ok X N (c.fact j hx))
 cases e
 exact⟨fd,fun s u=>FunD.bindsA (ps:=[y]) F hb s [u] rfl,fun base hB hN=>qmD F S hG (tab base hB hN) hm hc⟩
theorem law_at {l:PySem.W.OpenLaw} {w:World} {K:PySem.W.Frag} {mg:Str→Option Value} {f:Addr} {h:Heap} {G:Glo} {g:List D→RE ER} {k n:Nat} {y:Str} (hG:G.K=K)
  (ok:∃fd:FuncData,(∀(s:Shared) (u:Value),BindsTo s fd ⟨[u],[]⟩ [(y,u)])∧∀base:Heap,K.In base→base.Ns mainGlobals mg→FnOk l.prog w K mg base (L2.CX l.prog w) k f fd [y] (spD G 1 g))
  (tr:∀ns:List Int,ns.length≤n→(∀z∈ns,Builtin.Int.intBits z≤1048576)→∃b,g [.lst (ns.map D.int)]=.ok (.val (.bl true) b)):LamX.LawAtS l w K (L2.CX l.prog w) k n y mg f h:=by
 obtain⟨fd,hb,hF⟩:=ok
 refine⟨fd,[],spD G 1 g,fun p hp=>(nomatch hp),fun p hp=>(nomatch hp),fun p hp=>(nomatch hp),hb,fun H a ns hl hz _ hS=>?_,fun base h1 h2 _=>hF base h1 h2⟩
 obtain⟨b,e⟩:=tr ns hl hz
 refine⟨fun _=>none,H,[.lst (ns.map D.int)],fun _ _ q=>(nomatch q),L2.Same.refl _,⟨_,[],rfl,⟨a,_,rfl,hG ▸ hS,Reps.ints.mpr rfl⟩,rfl⟩,rfl,?_⟩
 rw[e]
 intro v H' P' N' _ q
 exact q
theorem cx_end {P:Program} {w:World} (H:Hp) (s:Shared) (e:Value) (s':Shared) (h:L2.CX P w [] H s (fun _ _ _=>False) e s'):False:=by
 obtain⟨a,B,H',cls,d,_,_,_,_,_,_,_,z⟩:=h
 exact z
end Cm
namespace K05
open Cm
def qbq:Sms:=(.cons (.iff (.val (.cmp .lt (.var 1) (.pri .len (.cons (.var 0) .nil)))) (.cons (.ret (.idx (.var 0) (.var 1)))
  .nil) .nil)
  (.cons (.asg 2 (.bin .add (.bin .mul (.cint 7) (.var 1)) (.cint 3)))
  (.cons (.iff (.val (.cmp .gt (.pri .len (.cons (.var 0) .nil)) (.cint 0))) (.cons (.asg 2 (.bin .add (.var 2) (.bin .mul (.bin .mdl (.idx (.var 0) (.bin .mdl (.var 1) (.pri .len (.cons (.var 0) .nil)))) (.cint 1000003)) (.bin .add (.var 1) (.cint 1)))))
  .nil) .nil)
  (.cons (.ret (.bin .add (.bin .mdl (.bin .mul (.var 2) (.var 2)) (.cint 999979)) (.bin .mdl (.var 2) (.cint 101))))
  .nil))))
def qbU:Env:={ fn:=[],gc:=[],mn:=[],mt:=qbV [],fs:=[],fi:=qbW [],nw:=[],ck:=[],ik:=[],xk:=[] }
def g__law_at:List D→RE ER:=qeR qbU 2 1 qbq
def qaM:Sms:=(.cons (.asg 1 (.bin .add (.cint 1) (.bin .mdl (.call 0 (.cons (.var 0) (.cons (.cint 0) .nil))) (.cint 6))))
  (.cons (.asg 2 (.bin .add (.cint 1) (.bin .mdl (.call 0 (.cons (.var 0) (.cons (.cint 1) .nil))) (.pri .min2 (.cons (.cint 6) (.cons (.bin .fdv (.cint 16) (.var 1)) .nil))))))
  (.cons (.ret (.tup (.cons (.var 1) (.cons (.var 2) (.cons (.bin .add (.cint 1) (.bin .mdl (.call 0 (.cons (.var 0) (.cons (.cint 2) .nil))) (.cint 6))) .nil)))))
  .nil)))
def qa0:Env:={ fn:=[("_law_at",g__law_at)],gc:=[],mn:=[],mt:=qbV [],fs:=[],fi:=qbW [],nw:=[],ck:=[],ik:=[],xk:=[] }
def g__law_floor:List D→RE ER:=qeR qa0 1 2 qaM
def qaK:Sms:=(.cons (.ret (.slc (.lst (.cons (.cstr [46]) (.cons (.cstr [49]) (.cons (.cstr [50]) (.cons (.cstr [51]) (.cons (.cstr [52]) (.cons (.cstr [53]) (.cons (.cstr [54]) .nil)))))))) .nil (.cons (.bin .add (.idx (.var 0) (.cint 2)) (.cint 1)) .nil)))
  .nil)
def qaY:Env:={ fn:=[],gc:=[],mn:=[],mt:=qbV [],fs:=[],fi:=qbW [],nw:=[],ck:=[],ik:=[],xk:=[] }
def g__law_marks:List D→RE ER:=qeR qaY 1 0 qaK
def qaS:Sms:=(.cons (.own 2 (.lst .nil))
  (.cons (.for (.rng (.cons (.idx (.var 0) (.cint 0)) .nil)) [3] (.cons (.app 2 (.bm1 .join (.cstr []) (.lc [4] (.any (.slc (.var 1) (.cons (.bin .mul (.var 3) (.idx (.var 0) (.cint 1))) .nil) (.cons (.bin .mul (.bin .add (.var 3) (.cint 1)) (.idx (.var 0) (.cint 1))) .nil))) [4] .nil (.idx (.call 0 (.cons (.var 0) .nil)) (.var 4)))))
  .nil))
  (.cons (.ret (.bm1 .join (.cstr [47]) (.var 2)))
  .nil)))
def qbc:Env:={ fn:=[("_law_marks",g__law_marks)],gc:=[],mn:=[],mt:=qbV [],fs:=[],fi:=qbW [],nw:=[],ck:=[],ik:=[],xk:=[] }
def g__law_text:List D→RE ER:=qeR qbc 2 3 qaS
def qaq:Sms:=(.cons (.asg 3 (.bin .mdl (.bin .fdv (.var 2) (.cint 16)) (.pri .len (.cons (.var 1) .nil))))
  (.cons (.asg 4 (.idx (.lst (.cons (.cstr [48]) (.cons (.cstr [55]) (.cons (.pri .str (.cons (.bin .add (.idx (.var 0) (.cint 2)) (.cint 1)) .nil)) (.cons (.cstr [97]) (.cons (.cstr [32]) (.cons (.cstr [47]) (.cons (.cstr [10]) (.cons (.cstr [45]) .nil))))))))) (.bin .mdl (.bin .fdv (.var 2) (.cint 400)) (.cint 8))))
  (.cons (.asg 5 (.bin .mdl (.var 2) (.cint 12)))
  (.cons (.iff (.val (.cmp .lt (.var 5) (.cint 3))) (.cons (.ret (.bin .add (.bin .add (.slc (.var 1) .nil (.cons (.var 3) .nil)) (.var 4)) (.slc (.var 1) (.cons (.bin .add (.var 3) (.cint 1)) .nil) .nil)))
  .nil) .nil)
  (.cons (.iff (.val (.cmp .lt (.var 5) (.cint 5))) (.cons (.ret (.bin .add (.bin .add (.slc (.var 1) .nil (.cons (.var 3) .nil)) (.var 4)) (.slc (.var 1) (.cons (.var 3) .nil) .nil)))
  .nil) .nil)
  (.cons (.iff (.val (.cmp .eq (.var 5) (.cint 5))) (.cons (.ret (.bin .add (.var 1) (.var 4)))
  .nil) .nil)
  (.cons (.iff (.val (.cmp .eq (.var 5) (.cint 6))) (.cons (.ret (.bin .add (.slc (.var 1) .nil (.cons (.var 3) .nil)) (.slc (.var 1) (.cons (.bin .add (.var 3) (.cint 1)) .nil) .nil)))
  .nil) .nil)
  (.cons (.iff (.val (.cmp .eq (.var 5) (.cint 7))) (.cons (.ret (.bin .add (.bin .add (.var 1) (.cstr [47])) (.bin .mul (.cstr [46]) (.idx (.var 0) (.cint 1)))))
  .nil) .nil)
  (.cons (.iff (.val (.cmp .eq (.var 5) (.cint 8))) (.cons (.ret (.bm1 .join (.cstr [47]) (.slc (.bm1 .split (.var 1) (.cstr [47])) (.cons (.cint 1) .nil) .nil)))
  .nil) .nil)
  (.cons (.iff (.val (.cmp .eq (.var 5) (.cint 9))) (.cons (.ret (.bin .add (.var 1) (.cstr [47])))
  .nil) .nil)
  (.cons (.iff (.val (.cmp .eq (.var 5) (.cint 10))) (.cons (.ret (.bin .add (.bin .add (.slc (.var 1) .nil (.cons (.var 3) .nil)) (.cstr [46])) (.slc (.var 1) (.cons (.var 3) .nil) .nil)))
  .nil) .nil)
  (.cons (.ret (.idx (.lst (.cons .cnon (.cons (.var 3) (.cons (.lst (.cons (.var 1) .nil)) (.cons (.tup (.cons (.var 1) .nil)) (.cons (.cbl true) .nil)))))) (.bin .mdl (.bin .fdv (.var 2) (.cint 16)) (.cint 5))))
  .nil))))))))))))
def qaG:Env:={ fn:=[],gc:=[],mn:=[],mt:=qbV [],fs:=[],fi:=qbW [],nw:=[],ck:=[],ik:=[],xk:=[] }
def g__law_spoiled:List D→RE ER:=qeR qaG 3 3 qaq
def qaU:Sms:=(.cons (.iff (.not (.val (.isi (.var 1) .str))) (.cons (.ret .cnon)
  .nil) .nil)
  (.cons (.own 2 (.lst .nil))
  (.cons (.asg 3 (.cint 0))
  (.cons (.for (.rng (.cons (.idx (.var 0) (.cint 0)) .nil)) [4] (.cons (.iff (.val (.cmp .gt (.var 4) (.cint 0))) (.cons (.iff (.val (.cmp .ne (.slc (.var 1) (.cons (.var 3) .nil) (.cons (.bin .add (.var 3) (.cint 1)) .nil)) (.cstr [47]))) (.cons (.ret .cnon)
  .nil) .nil)
  (.cons (.asg 3 (.bin .add (.var 3) (.cint 1)))
  .nil)) .nil)
  (.cons (.for (.rng (.cons (.idx (.var 0) (.cint 1)) .nil)) [5] (.cons (.iff (.val (.cmp .nin (.slc (.var 1) (.cons (.var 3) .nil) (.cons (.bin .add (.var 3) (.cint 1)) .nil)) (.call 0 (.cons (.var 0) .nil)))) (.cons (.ret .cnon)
  .nil) .nil)
  (.cons (.app 2 (.inxL (.call 0 (.cons (.var 0) .nil)) (.idx (.var 1) (.var 3))))
  (.cons (.asg 3 (.bin .add (.var 3) (.cint 1)))
  .nil))))
  .nil)))
  (.cons (.iff (.val (.cmp .ne (.var 3) (.pri .len (.cons (.var 1) .nil)))) (.cons (.ret .cnon)
  .nil) .nil)
  (.cons (.ret (.var 2))
  .nil))))))
def qbg:Env:={ fn:=[("_law_marks",g__law_marks)],gc:=[],mn:=[],mt:=qbV [],fs:=[],fi:=qbW [],nw:=[],ck:=[],ik:=[],xk:=[] }
def g__law_read:List D→RE ER:=qeR qbg 2 4 qaU
def qas:Sms:=(.cons (.iff (.not (.val (.isi (.var 1) .str))) (.cons (.rse 0)
  .nil) .nil)
  (.cons (.asg 2 (.bm1 .split (.var 1) (.cstr [47])))
  (.cons (.iff (.val (.cmp .ne (.pri .len (.cons (.var 2) .nil)) (.idx (.var 0) (.cint 0)))) (.cons (.rse 0)
  .nil) .nil)
  (.cons (.own 3 (.lst .nil))
  (.cons (.for (.any (.var 2)) [4] (.cons (.iff (.val (.cmp .ne (.pri .len (.cons (.var 4) .nil)) (.idx (.var 0) (.cint 1)))) (.cons (.rse 0)
  .nil) .nil)
  (.cons (.for (.any (.var 4)) [5] (.cons (.iff (.val (.cmp .nin (.var 5) (.slc (.glo 0) .nil (.cons (.bin .add (.idx (.var 0) (.cint 2)) (.cint 1)) .nil)))) (.cons (.rse 0)
  .nil) .nil)
  (.cons (.app 3 (.inxS (.glo 0) (.var 5)))
  .nil)))
  .nil)))
  (.cons (.ret (.var 3))
  .nil))))))
def qaJ:Env:={ fn:=[],gc:=[("MARKS",.str [46,49,50,51,52,53,54])],mn:=[],mt:=qbV [],fs:=[],fi:=qbW [],nw:=[],ck:=[],ik:=[],xk:=[32] }
def g_read_filling:List D→RE ER:=qeR qaJ 2 4 qas
def qaT:Sms:=(.cons (.asg 2 .cnon)
  (.cons (.asg 3 .cnon)
  (.cons (.tryx 0 4 2 (.as 3 (.call 0 (.cons (.var 0) (.cons (.var 1) .nil)))))
  (.cons (.iff (.val (.isN (.var 2))) (.cons (.ret (.tup (.cons (.cstr [116,111,108,100]) (.cons (.var 3) .nil))))
  .nil) .nil)
  (.cons (.asg 5 (.lst (.cons (.isc (.var 2) 1) (.cons (.isc (.var 2) 2) (.cons (.isc (.var 2) 3) .nil)))))
  (.cons (.asg 5 (.bin .add (.var 5) (.lst (.cons (.isc (.var 2) 4) (.cons (.isc (.var 2) 5) (.cons (.isc (.var 2) 6) .nil))))))
  (.cons (.asg 5 (.bin .add (.var 5) (.lst (.cons (.isc (.var 2) 7) (.cons (.isc (.var 2) 8) (.cons (.isc (.var 2) 9) .nil))))))
  (.cons (.asg 5 (.bin .add (.var 5) (.lst (.cons (.isc (.var 2) 10) (.cons (.bnot (.isc (.var 2) 11)) .nil)))))
  (.cons (.ret (.tup (.cons (.cstr [114,101,102,117,115,101,100]) (.cons (.bop true (.cons (.isc (.var 2) 12) (.cons (.bnot (.pri .any (.cons (.var 5) .nil))) .nil))) .nil))))
  .nil)))))))))
def qa7:Env:={ fn:=[("read_filling",g_read_filling)],gc:=[],mn:=[],mt:=qbV [],fs:=[],fi:=qbW [],nw:=[],ck:=[fun c=>List.lookup c [(32,true)],fun c=>List.lookup c [(32,false)],fun c=>List.lookup c [(32,false)],fun c=>List.lookup c [(32,false)],fun c=>List.lookup c [(32,false)],fun c=>List.lookup c [(32,false)],fun c=>List.lookup c [(32,false)],fun c=>List.lookup c [(32,false)],fun c=>List.lookup c [(32,false)],fun c=>List.lookup c [(32,false)],fun c=>List.lookup c [(32,false)],fun c=>List.lookup c [(32,true)],fun c=>List.lookup c [(32,true)]],ik:=[fun c=>List.lookup c [],fun c=>List.lookup c [],fun c=>List.lookup c [],fun c=>List.lookup c [],fun c=>List.lookup c [],fun c=>List.lookup c [],fun c=>List.lookup c [],fun c=>List.lookup c [],fun c=>List.lookup c [],fun c=>List.lookup c [],fun c=>List.lookup c [],fun c=>List.lookup c [],fun c=>List.lookup c []],xk:=[] }
def g__law_said:List D→RE ER:=qeR qa7 2 4 qaT
def qf7:Sms:=(.cons (.asg 1 (.call 0 (.cons (.var 0) .nil)))
  (.cons (.asg 2 (.bin .mul (.idx (.var 1) (.cint 0)) (.idx (.var 1) (.cint 1))))
  (.cons (.asg 3 (.lc [4] (.rng (.cons (.var 2) .nil)) [4] .nil (.bin .mdl (.call 1 (.cons (.var 0) (.cons (.bin .add (.cint 9) (.var 4)) .nil))) (.bin .add (.idx (.var 1) (.cint 2)) (.cint 1)))))
  (.cons (.asg 5 (.call 2 (.cons (.var 1) (.cons (.var 3) .nil))))
  (.cons (.for (.rng (.cons (.cint 3) (.cons (.cint 9) .nil))) [4] (.cons (.asg 6 (.call 3 (.cons (.var 1) (.cons (.var 5) (.cons (.call 1 (.cons (.var 0) (.cons (.var 4) .nil))) .nil)))))
  (.cons (.asg 7 (.call 4 (.cons (.var 1) (.cons (.var 6) .nil))))
  (.cons (.iff (.bop true (.cons (.val (.isN (.var 7))) (.cons (.val (.cmp .ne (.call 5 (.cons (.var 1) (.cons (.var 6) .nil))) (.tup (.cons (.cstr [114,101,102,117,115,101,100]) (.cons (.cbl true) .nil))))) .nil))) (.cons (.ret (.cbl false))
  .nil) .nil)
  (.cons (.iff (.bop true (.cons (.val (.notN (.var 7))) (.cons (.val (.cmp .ne (.call 5 (.cons (.var 1) (.cons (.var 6) .nil))) (.tup (.cons (.cstr [116,111,108,100]) (.cons (.var 7) .nil))))) .nil))) (.cons (.ret (.cbl false))
  .nil) .nil)
  .nil)))))
  (.cons (.ret (.cmp .eq (.call 5 (.cons (.var 1) (.cons (.var 5) .nil))) (.tup (.cons (.cstr [116,111,108,100]) (.cons (.var 3) .nil)))))
  .nil))))))
def qh2:Env:={ fn:=[("_law_floor",g__law_floor),("_law_at",g__law_at),("_law_text",g__law_text),("_law_spoiled",g__law_spoiled),("_law_read",g__law_read),("_law_said",g__law_said)],gc:=[],mn:=[],mt:=qbV [],fs:=[],fi:=qbW [],nw:=[],ck:=[],ik:=[],xk:=[] }
def g_law:List D→RE ER:=qeR qh2 1 7 qf7
end K05
namespace Cm
theorem qdW (n:Nat):∀ns:List Int,D.fits (ns.map D.int) n=true
 |[]=>rfl
 |m::ns=>by simp[D.fits,D.fit,qdW n ns]
def IC (cs:List Nat):List Int:=cs.map fun c=>((c:Nat):Int)
theorem qoG {j:Int} (h:j≠0):nzB j=true:=by rw[qay];exact h
theorem qje {n:Nat} (h:n≤LIM):leB n=true:=by rw[qai];exact h
theorem qjE {i:Int} (h:-1000000≤i∧i≤1000000):qke i=true:=by
 unfold qke
 rw[Nat.ble_eq]
 omega
theorem qnv {n:Nat} (h:n≤1000000):qfW (n:Int)=true:=by
 have:LIM=16777216:=rfl
 unfold qfW
 rw[Bool.and_eq_true,qai]
 exact⟨qjE (by omega),by omega⟩
theorem qmZ {i j:Int} (h:-1000000≤i∧i≤1000000 ∧ -1000000≤j∧j≤1000000):qli i j=true:=by
 have:LIM=16777216:=rfl
 unfold qli
 rw[Bool.and_eq_true,Bool.and_eq_true,qai]
 exact⟨qjE (by omega),qjE (by omega),by omega⟩
section
variable {Γ:Env} {ss a b:Sms} {ρ ρ':List Sl} {i:Nat} {e ix:Ex} {d:D} {ds:List D} {f c:Bool}
theorem qjQ {n k:Nat} (h:k<n):L2.ixN n (k:Int)=some k:=by
 unfold L2.ixN
 rw[if_pos (by omega),if_pos (by omega)]
 simp
end
def qpv (r:RE ER):Bool:=match r with
 |.ok (.val (.bl true) _)=>true
 |_=>false
end Cm
namespace Cm
theorem RE.bind_assoc {α β γ:Type} (m:RE α) (f:α→RE β) (g:β→RE γ):(m.bind f).bind g=m.bind fun x=>(f x).bind g:=by cases m<;>rfl
@[simp] theorem RE.bind_pure {α:Type} (m:RE α):m.bind RE.ok=m:=by cases m<;>rfl
inductive Sh where
 |v | f | b | n | o
def ER.isF:ER→Bool
 |.fre _ _=>true
 |_=>false
def qes:Sh→ER→Prop
 |.v,er=>er.isV=true
 |.f,er=>er.isF=true
 |.b,er=>er.isB=true
 |.n,er=>er.isB=false
 |.o,er=>er.isF=true∨(er.isV=true∧er.d=.non)
def Sh.nb:Sh→Bool
 |.b=>false
 |_=>true
def Sh.ret:Sh→Sh
 |.b=>.f
 |s=>s
structure Is (s:Sh) (t:Bool) (d:D) (er:ER):Prop where
 d:er.d=d
 s:qes s er
 t:t=true→er.b=true
def XR {α β:Type} (r:RE β) (m:RE α) (R:α→β→Prop):Prop:=match m with
 |.bad=>True
 |.ok v=>∃x,r=.ok x∧R v x
 |.exc c fs=>r=.exc c fs
theorem XR.bind {α β γ δ:Type} {r:RE β} {m:RE α} {R:α→β→Prop} {f:β→RE γ} {g:α→RE δ} {S:δ→γ→Prop} (h:XR r m R) (k:∀v x,R v x→XR (f x) (g v) S):XR (r.bind f) (m.bind g) S:=by
 cases m with
 |bad=>trivial
 |ok v=>obtain⟨x,e,hx⟩:=h;rw[e];exact k v x hx
 |exc c fs=>have h:r=_:=h;rw[h];rfl
theorem XR.mono {α β:Type} {r:RE β} {m:RE α} {R S:α→β→Prop} (h:XR r m R) (k:∀v x,R v x→S v x):XR r m S:=by
 cases m with
 |bad=>trivial
 |ok v=>obtain⟨x,e,hx⟩:=h;exact⟨x,e,k v x hx⟩
 |exc c fs=>exact h
theorem XR.pure {α β:Type} {v:α} {x:β} {R:α→β→Prop} (h:R v x):XR (.ok x) (.ok v) R:=⟨x,rfl,h⟩
theorem XR.to {α β:Type} {r:RE β} {v:α} {R:α→β→Prop} (h:XR r (.ok v) R):∃x,r=.ok x∧R v x:=h
abbrev XE {α:Type} (Γ:Env) (e:Ex) (ρ:List Sl) (m:RE α) (en:α→D) (s:Sh) (t:Bool):Prop:=XR (ev Γ e ρ) m fun v er=>Is s t (en v) er
abbrev XT (Γ:Env) (e:Te) (ρ:List Sl) (m:RE Bool):Prop:=XR (evT Γ e ρ) m fun v x=>x=v
abbrev XI {α:Type} (Γ:Env) (e:Itx) (ρ:List Sl) (m:RE (List α)) (en:α→D) (t o:Bool):Prop:=XR (evI Γ e ρ) m fun xs w=>w.xs=xs.map en∧(t=true→w.b=true)∧(o=false→w.own=false)
abbrev Rf {α:Type} (r:RE ER) (m:RE α) (en:α→D) (s:Sh) (t:Bool):Prop:=XR r m fun v er=>Is s t (en v) er
theorem Is.val {d:D} {b t:Bool} (h:t=true→b=true):Is .v t d (.val d b):=⟨rfl,rfl,h⟩
theorem Is.fre {ds:List D} {b t:Bool} (h:t=true→b=true):Is .f t (.lst ds) (.fre ds b):=⟨rfl,rfl,h⟩
theorem xok {α:Type} {v:α} {d:D} {en:α→D} {t:Bool} (h:d=en v):XR (ok d) (.ok v) fun v er=>Is .v t (en v) er:=⟨_,rfl,h,rfl,fun _=>rfl⟩
theorem qnN {α:Type} {v:α} {d:D} {b t:Bool} {en:α→D} (h:d=en v) (k:t=true→b=true):XR (RE.ok (.val d b)) (.ok v) fun v er=>Is .v t (en v) er:=⟨_,rfl,h,rfl,k⟩
theorem qlY {α:Type} {v:α} {ds:List D} {b t:Bool} {en:α→D} (h:.lst ds=en v) (k:t=true→b=true):XR (RE.ok (.fre ds b)) (.ok v) fun v er=>Is .f t (en v) er:=⟨_,rfl,h,rfl,k⟩
theorem Is.weak {s:Sh} {t:Bool} {d:D} {er:ER} (h:Is s t d er) (hs:s.nb=true):Is .n t d er:=⟨h.d,by
 have:=h.s
 cases s<;>cases er<;>simp_all[qes,ER.isF,Sh.nb],h.t⟩
theorem Is.optF {t:Bool} {d:D} {er:ER} (h:Is .f t d er):Is .o t d er:=⟨h.d,.inl h.s,h.t⟩
theorem Is.optV {t:Bool} {er:ER} (h:Is .v t .non er):Is .o t .non er:=⟨h.d,.inr ⟨h.s,h.d⟩,h.t⟩
theorem Is.low {s:Sh} {t:Bool} {d:D} {er:ER} (h:Is s t d er):Is s false d er:=⟨h.d,h.s,fun e=>nomatch e⟩
abbrev eI:Int→D:=D.int
abbrev eB:Bool→D:=D.bl
abbrev eS:List Nat→D:=D.str
def eC (c:Nat):D:=.str [c]
def eU (_:Unit):D:=.non
def eD (d:D):D:=d
def eL {α:Type} (en:α→D) (xs:List α):D:=.lst (xs.map en)
def eO {α:Type} (en:α→D):Option α→D
 |none=>.non
 |some x=>en x
def eT1 {α:Type} (a:α→D) (p:α):D:=.tup [a p]
def eT2 {α β:Type} (a:α→D) (b:β→D) (p:α × β):D:=.tup [a p.1,b p.2]
def eT3 {α β γ:Type} (a:α→D) (b:β→D) (c:γ→D) (p:α × β × γ):D:=.tup [a p.1,b p.2.1,c p.2.2]
def eT4 {α β γ δ:Type} (a:α→D) (b:β→D) (c:γ→D) (d:δ→D) (p:α × β × γ × δ):D:=.tup [a p.1,b p.2.1,c p.2.2.1,d p.2.2.2]
def eT5 {α β γ δ ε:Type} (a:α→D) (b:β→D) (c:γ→D) (d:δ→D) (e:ε→D) (p:α × β × γ × δ × ε):D:=.tup [a p.1,b p.2.1,c p.2.2.1,d p.2.2.2.1,e p.2.2.2.2]
def eT6 {α β γ δ ε ζ:Type} (a:α→D) (b:β→D) (c:γ→D) (d:δ→D) (e:ε→D) (f:ζ→D) (p:α × β × γ × δ × ε × ζ):D:=.tup [a p.1,b p.2.1,c p.2.2.1,d p.2.2.2.1,e p.2.2.2.2.1,f p.2.2.2.2.2]
def eX (c:Nat):D:=.exc c []
class Flat {α:Type} (en:α→D):Prop where
 flat:∀v,(en v).flat=true
instance:Flat eI:=⟨fun _=>rfl⟩
instance:Flat eB:=⟨fun _=>rfl⟩
instance:Flat eS:=⟨fun _=>rfl⟩
instance:Flat eC:=⟨fun _=>rfl⟩
instance:Flat eU:=⟨fun _=>rfl⟩
instance:Flat eX:=⟨fun _=>rfl⟩
instance {α:Type} {en:α→D} [Flat en]:Flat (eO en):=⟨fun v=>by cases v with
 |none=>rfl
 |some x=>exact Flat.flat (en:=en) x⟩
instance {α β:Type} {a:α→D} {b:β→D} [ha:Flat a] [hb:Flat b]:Flat (eT2 a b):=⟨fun v=>by simp[eT2,ha.flat,hb.flat]⟩
instance {α β γ:Type} {a:α→D} {b:β→D} {c:γ→D} [ha:Flat a] [hb:Flat b] [hc:Flat c]:Flat (eT3 a b c):=⟨fun v=>by simp[eT3,ha.flat,hb.flat,hc.flat]⟩
instance {α β γ δ:Type} {a:α→D} {b:β→D} {c:γ→D} {d:δ→D} [ha:Flat a] [hb:Flat b] [hc:Flat c] [hd:Flat d]:Flat (eT4 a b c d):=⟨fun v=>by simp[eT4,ha.flat,hb.flat,hc.flat,hd.flat]⟩
theorem qd0 {α:Type} {en:α→D} [h:Flat en]:∀xs:List α,D.flats (xs.map en)=true
 |[]=>rfl
 |x::xs=>by simp[h.flat,qd0 xs]
def qlh {α:Type} (s:Sh) (t:Bool) (en:α→D):Prop:=t=true∨(s=.v∧∀v,(en v).flat=true)∨(s=.f∧∀v ds,en v=.lst ds→D.flats ds=true)
def Sl.rd:Sl→Sl
 |.fxd d _=>.val d false
 |s=>s
def SlV (t:Bool) (d:D) (s:Sl):Prop:=∃f,s.rd=.val d f∧(t=true→f=true)
theorem qiY {s:Sl} {d:D} {f:Bool} (h:s.rd=.val d f):s=.val d f∨(f=false∧∃k,s=.fxd d k):=by
 cases s with
 |fxd d' k=>cases h;exact .inr ⟨rfl,k,rfl⟩
 |val _ _=>exact .inl h
 |own _ _=>cases h
 |non=>cases h
 |slf _ _=>cases h
 |dct _ _=>cases h
 |row _=>cases h
def SlO (t:Bool) (ds:List D) (s:Sl):Prop:=∃f,s=.own ds f∧(t=true→f=true)
theorem SlV.low {t:Bool} {d:D} {s:Sl} (h:SlV t d s):SlV false d s:=by
 obtain⟨f,e,_⟩:=h
 exact⟨f,e,fun e=>nomatch e⟩
theorem SlO.low {t:Bool} {d:List D} {s:Sl} (h:SlO t d s):SlO false d s:=by
 obtain⟨f,e,_⟩:=h
 exact⟨f,e,fun e=>nomatch e⟩
theorem SlV.flat {α:Type} {en:α→D} [h:Flat en] {v:α}:SlV true (en v) (.val (en v) (en v).flat):=⟨_,rfl,fun _=>h.flat v⟩
theorem SlV.any {d:D} {b:Bool}:SlV false d (.val d b):=⟨_,rfl,fun e=>nomatch e⟩
section
variable {Γ:Env} {ρ:List Sl} {α β γ δ ε:Type} {en:α→D} {en2:β→D} {en3:γ→D} {a b c e:Ex} {s s1 s2 s3:Sh} {t t1 t2 t3:Bool} {m:RE α} {x:α} {y:β} {z:γ}
theorem XE.weak {m:RE α} (h:XE Γ e ρ m en s t) (hs:s.nb=true):XE Γ e ρ m en .n t:=XR.mono h fun _ _ k=>k.weak hs
theorem XE.low {m:RE α} (h:XE Γ e ρ m en s t):XE Γ e ρ m en s false:=XR.mono h fun _ _ k=>k.low
theorem XE.coe {x:α} {f:α→β} (h:XE Γ e ρ (.ok x) en s t) (k:∀v,en v=en2 (f v)):XE Γ e ρ (.ok (f x)) en2 s t:=by
 obtain⟨er,q,r⟩:=h
 exact⟨er,q,by rw[←k];exact r.d,r.s,r.t⟩
theorem XE.coeG {m:RE α} {f:α→β} (h:XE Γ e ρ m en s t) (k:∀v,en v=en2 (f v)):XE Γ e ρ (m.bind fun x=>.ok (f x)) en2 s t:=by
 cases m with
 |bad=>trivial
 |ok x=>exact XE.coe h k
 |exc c fs=>exact h
theorem XE.cast {m m':RE α} (h:XE Γ e ρ m en s t) (k:m'=m):XE Γ e ρ m' en s t:=by rw[k];exact h
theorem XE.var {i:Nat} {q:Sl} (h:ρ[i]? = some q) (hs:SlV t (en x) q):XE Γ (.var i) ρ (.ok x) en .v t:=by
 obtain⟨f,e,k⟩:=hs
 rcases qiY e with rfl | ⟨rfl,j,rfl⟩
 ·exact⟨.val (en x) f,by rw[ev,h],rfl,rfl,k⟩
 ·exact⟨.val (en x) false,by rw[ev,h],rfl,rfl,k⟩
theorem XE.varO {i:Nat} {q:Sl} {xs:List α} (h:ρ[i]? = some q) (hs:SlO t (xs.map en) q):XE Γ (.var i) ρ (.ok xs) (eL en) .b t:=by
 obtain⟨f,rfl,k⟩:=hs
 exact⟨.brw (xs.map en) f,by rw[ev,h],rfl,rfl,k⟩
theorem XE.cint {i:Int}:XE Γ (.cint i) ρ (.ok i) eI .v true:=by unfold XE;rw[ev];exact xok rfl
theorem XE.cbl {i:Bool}:XE Γ (.cbl i) ρ (.ok i) eB .v true:=by unfold XE;rw[ev];exact xok rfl
theorem XE.cnon:XE Γ .cnon ρ (.ok ()) eU .v true:=by unfold XE;rw[ev];exact xok rfl
theorem XE.cstr {i:List Nat}:XE Γ (.cstr i) ρ (.ok i) eS .v true:=by unfold XE;rw[ev];exact xok rfl
theorem XE.glo {i:Nat} {nm:PySem.Str} {d:D} (h:Γ.gc[i]? = some (nm,d)) (k:d=en x):XE Γ (.glo i) ρ (.ok x) en .v true:=by unfold XE;rw[ev,h];exact qnN k fun _=>rfl
theorem XE.bin {o:Bop} {m1:RE α} {m2:RE β} {f:α→β→RE γ} (ha:XE Γ a ρ m1 en s1 t1) (hb:XE Γ b ρ m2 en2 s2 t2) (h:∀x y bb,((t1&&t2)=true→bb=true)→XR (evB o (en x) (en2 y) bb) (f x y) fun v er=>Is s t (en3 v) er) :
  XE Γ (.bin o a b) ρ (m1.bind fun x=>m2.bind fun y=>f x y) en3 s t:=by
 unfold XE
 rw[ev]
 exact XR.bind ha fun x ex hx=>XR.bind hb fun y ey hy=>by
  rw[hx.d,hy.d]
  exact h x y _ fun k=>by
   rw[Bool.and_eq_true] at k
   rw[hx.t k.1,hy.t k.2];rfl
theorem XE.binP {o:Bop} {f:RE γ} (ha:XE Γ a ρ (.ok x) en s1 t1) (hb:XE Γ b ρ (.ok y) en2 s2 t2) (h:∀bb,((t1&&t2)=true→bb=true)→XR (evB o (en x) (en2 y) bb) f fun v er=>Is s t (en3 v) er) :
  XE Γ (.bin o a b) ρ f en3 s t:=by
 obtain⟨ex,e1,h1⟩:=ha
 obtain⟨ey,e2,h2⟩:=hb
 unfold XE
 rw[ev,e1,e2]
 simp only[RE.bind_ok]
 rw[h1.d,h2.d]
 exact h _ fun k=>by
  rw[Bool.and_eq_true] at k
  rw[h1.t k.1,h2.t k.2];rfl
theorem xgd {b:Bool} {r:RE ER} {m:RE α} {R:α→ER→Prop} (h:XR r m R):XR (gd b r) (gd b m) R:=by
 cases b
 ·trivial
 ·exact h
theorem qa6 (x y:Int) (bb:Bool) (_:(t1&&t2)=true→bb=true):XR (evB .add (eI x) (eI y) bb) (.ok (x+y)) fun v er=>Is .v true (eI v) er:=xok rfl
theorem qmc (x y:Int) (h:qiU x y=true) (bb:Bool) (_:(t1&&t2)=true→bb=true):XR (evB .mul (eI x) (eI y) bb) (.ok (x*y)) fun v er=>Is .v true (eI v) er:=by
 show XR (gd (qiU x y) _) _ _
 rw[h];exact xok rfl
theorem qjp {x y:Int} (h:Nat.ble x.natAbs 18446744073709551615=true):qiU x y=true:=by unfold qiU;rw[h];rfl
def qfP (x y:Int):RE Int:=gd (qiU x y) (.ok (x*y))
theorem qhh (x y:Int) (bb:Bool) (_:(t1&&t2)=true→bb=true):XR (evB .mul (eI x) (eI y) bb) (qfP x y) fun v er=>Is .v true (eI v) er:=xgd (xok rfl)
def qjx (x y:Int):RE Int:=gd (qlb y) (.ok (x.fdiv y))
theorem qnR (x y:Int) (bb:Bool) (_:(t1&&t2)=true→bb=true):XR (evB .fdv (eI x) (eI y) bb) (qjx x y) fun v er=>Is .v true (eI v) er:=xgd (xok rfl)
theorem qhn (x y:Int) (h:qlb y=true) (bb:Bool) (_:(t1&&t2)=true→bb=true):XR (evB .fdv (eI x) (eI y) bb) (.ok (x.fdiv y)) fun v er=>Is .v true (eI v) er:=by
 show XR (gd (qlb y) _) _ _
 rw[h];exact xok rfl
def qf0 (x y:Int):RE Int:=gd (nzB y) (.ok (x.fmod y))
theorem qiK (x y:Int) (bb:Bool) (_:(t1&&t2)=true→bb=true):XR (evB .mdl (eI x) (eI y) bb) (qf0 x y) fun v er=>Is .v true (eI v) er:=xgd (xok rfl)
theorem qcc (x y:Int) (h:nzB y=true) (bb:Bool) (_:(t1&&t2)=true→bb=true):XR (evB .mdl (eI x) (eI y) bb) (.ok (x.fmod y)) fun v er=>Is .v true (eI v) er:=by
 show XR (gd (nzB y) _) _ _
 rw[h];exact xok rfl
def qpW (x y:Int):RE Int:=gd (qlj x y) (.ok (x ^ y.toNat))
def qm1 (x y:Int):RE Int:=gd (qlj x y) (.ok (x*2 ^ y.toNat))
def qpR (x y:Int):RE Int:=gd (nnB y) (.ok (x / 2 ^ y.toNat))
def qbk (x y:List Nat):RE (List Nat):=gd (leB (x.length+y.length)) (.ok (x++y))
theorem qbp (x y:List Nat) (bb:Bool) (_:(t1&&t2)=true→bb=true):XR (evB .add (eS x) (eS y) bb) (qbk x y) fun v er=>Is .v true (eS v) er:=xgd (xok rfl)
def qcm (x y:List α):RE (List α):=gd (leB (x.length+y.length)) (.ok (x++y))
theorem qhc (x y:List α) (bb:Bool) (h:(t1&&t2)=true→bb=true):XR (evB .add (eL en x) (eL en y) bb) (qcm x y) fun v er=>Is .f (t1&&t2) (eL en v) er:=by
 show XR (gd (leB ((x.map en).length+(y.map en).length)) _) (gd _ _) _
 rw[List.length_map,List.length_map]
 exact xgd (qlY (by simp[eL]) h)
def qpS (x:List α) (k:Int):RE (List α):=gd (qla x.length k) (.ok (List.replicate k.toNat x).flatten)
theorem XE.cmp {o:Cop} {m1:RE α} {m2:RE β} {f:α→β→RE Bool} (ha:XE Γ a ρ m1 en s1 t1) (hb:XE Γ b ρ m2 en2 s2 t2) (h:∀x y,evC o (en x) (en2 y)=f x y):XE Γ (.cmp o a b) ρ (m1.bind fun x=>m2.bind fun y=>f x y) eB .v true:=by
 unfold XE
 rw[ev]
 exact XR.bind ha fun x ex hx=>XR.bind hb fun y ey hy=>by
  rw[hx.d,hy.d,h]
  cases f x y with
  |bad=>trivial
  |ok v=>exact xok rfl
  |exc c fs=>rfl
theorem XE.cmpP {o:Cop} {f:RE Bool} (ha:XE Γ a ρ (.ok x) en s1 t1) (hb:XE Γ b ρ (.ok y) en2 s2 t2) (h:evC o (en x) (en2 y)=f):XE Γ (.cmp o a b) ρ f eB .v true:=by
 have:=XE.cmp (o:=o) ha hb (f:=fun x y=>evC o (en x) (en2 y)) (fun _ _=>rfl)
 rw[←h];exact this
theorem qfN (x y:Int):evC .eq (eI x) (eI y)=.ok (decide (x=y)):=rfl
theorem qkB (x y:Int):evC .ne (eI x) (eI y)=.ok (!decide (x=y)):=rfl
theorem qj6 (x y:Int):evC .lt (eI x) (eI y)=.ok (decide (x<y)):=rfl
theorem qmK (x y:Int):evC .gt (eI x) (eI y)=.ok (decide (y<x)):=rfl
theorem qne (x y:List Nat):evC .ne (eS x) (eS y)=.ok (!decide (x=y)):=rfl
def qpI (d:D) {α:Type} (r:RE α):RE α:=gd (d.fit 64) r
theorem ql7 (x:Nat) (y:List Nat):evC .nin (eC x) (eS y)=.ok (!decide (x∈y)):=rfl
theorem XE.isN {x:Option α} (h:XE Γ a ρ (.ok x) (eO en) s1 t1) (k:∀v,(en v).isNon=false):XE Γ (.isN a) ρ (.ok x.isNone) eB .v true:=by
 obtain⟨ex,e1,h1⟩:=h
 unfold XE
 rw[ev,e1]
 simp only[RE.bind_ok]
 rw[h1.d]
 refine xok ?_
 cases x with
 |none=>rfl
 |some v=>show D.bl (en v).isNon=_;rw[k];rfl
theorem XE.notN {x:Option α} (h:XE Γ a ρ (.ok x) (eO en) s1 t1) (k:∀v,(en v).isNon=false):XE Γ (.notN a) ρ (.ok x.isSome) eB .v true:=by
 obtain⟨ex,e1,h1⟩:=h
 unfold XE
 rw[ev,e1]
 simp only[RE.bind_ok]
 rw[h1.d]
 refine xok ?_
 cases x with
 |none=>rfl
 |some v=>show D.bl (!(en v).isNon)=_;rw[k];rfl
def unO:Option α→RE α
 |none=>.bad
 |some x=>.ok x
theorem XE.unO {x:Option α} (h:XE Γ e ρ (.ok x) (eO en) s t):XE Γ e ρ (unO x) en s t:=by
 cases x with
 |none=>trivial
 |some v=>exact h
abbrev XV (Γ:Env) (c:Bool) (es:Exs) (ρ:List Sl) (m:RE Bool):Prop:=XR (qhk Γ c es ρ) m fun v er=>Is .v true (eB v) er
abbrev XTs (Γ:Env) (c:Bool) (es:Tes) (ρ:List Sl) (m:RE Bool):Prop:=XR (qdx Γ c es ρ) m fun v x=>x=v
theorem XV.one {es:Ex} {c:Bool} {m:RE Bool} (h:XE Γ es ρ m eB s t):XV Γ c (.cons es .nil) ρ m:=by
 unfold XV
 rw[qhk]
 have:m=m.bind fun k=>.ok k:=by cases m<;>rfl
 rw[this]
 exact XR.bind h fun v er k=>by
  rw[k.d]
  simp only[qhk]
  split
  ·subst_vars;exact xok rfl
  ·exact xok rfl
theorem XV.and {e:Ex} {es:Exs} {m1 m2:RE Bool} (h:XE Γ e ρ m1 eB s t) (k:XV Γ true es ρ m2):XV Γ true (.cons e es) ρ (m1.bind fun x=>if x=true then m2 else .ok false):=by
 unfold XV
 rw[qhk]
 exact XR.bind h fun v er q=>by
  rw[q.d]
  cases v with
  |true=>exact k
  |false=>exact xok rfl
theorem XV.or {e:Ex} {es:Exs} {m1 m2:RE Bool} (h:XE Γ e ρ m1 eB s t) (k:XV Γ false es ρ m2):XV Γ false (.cons e es) ρ (m1.bind fun x=>if x=true then .ok true else m2):=by
 unfold XV
 rw[qhk]
 exact XR.bind h fun v er q=>by
  rw[q.d]
  cases v with
  |true=>exact xok rfl
  |false=>exact k
theorem XE.bop {c:Bool} {es:Exs} {m:RE Bool} (h:XV Γ c es ρ m):XE Γ (.bop c es) ρ m eB .v true:=by unfold XE;rw[ev];exact h
class Tru {α:Type} (en:α→D) (f:outParam (α→Bool)):Prop where
 tru:∀v,qev (en v)=.ok (f v)
instance:Tru eB id:=⟨fun _=>rfl⟩
instance:Tru eI (fun i=>i != 0):=⟨fun _=>rfl⟩
instance {α:Type} {en:α→D}:Tru (eL en) (fun xs=>!xs.isEmpty):=⟨fun v=>by cases v<;>rfl⟩
theorem XE.bnot {m:RE Bool} (h:XE Γ a ρ m eB s t):XE Γ (.bnot a) ρ (m.bind fun x=>.ok (!x)) eB .v true:=by
 unfold XE;rw[ev]
 exact XR.bind h fun v er k=>by rw[k.d];exact xok rfl
theorem XE.bnotP {x:Bool} (h:XE Γ a ρ (.ok x) eB s t):XE Γ (.bnot a) ρ (.ok (!x)) eB .v true:=XE.bnot h
theorem XT.val {m:RE Bool} (h:XE Γ a ρ m eB s t):XT Γ (.val a) ρ m:=by
 unfold XT;rw[evT]
 have:m=m.bind fun k=>.ok k:=by cases m<;>rfl
 rw[this]
 exact XR.bind h fun v er k=>by rw[k.d];exact⟨_,rfl,rfl⟩
theorem XT.not {q:Te} {m:RE Bool} (h:XT Γ q ρ m):XT Γ (.not q) ρ (m.bind fun x=>.ok (!x)):=by
 unfold XT;rw[evT]
 exact XR.bind h fun v er k=>by subst k;exact⟨_,rfl,rfl⟩
theorem XTs.one {q:Te} {c:Bool} {m:RE Bool} (h:XT Γ q ρ m):XTs Γ c (.cons q .nil) ρ m:=by
 unfold XTs;rw[qdx]
 have:m=m.bind fun k=>.ok k:=by cases m<;>rfl
 rw[this]
 exact XR.bind h fun v er k=>by
  subst k
  simp only[qdx]
  split
  ·subst_vars;exact⟨_,rfl,rfl⟩
  ·exact⟨_,rfl,rfl⟩
theorem XTs.and {q:Te} {es:Tes} {m1 m2:RE Bool} (h:XT Γ q ρ m1) (k:XTs Γ true es ρ m2):XTs Γ true (.cons q es) ρ (m1.bind fun x=>if x=true then m2 else .ok false):=by
 unfold XTs;rw[qdx]
 exact XR.bind h fun v er q=>by
  subst q
  cases er
  ·exact⟨_,rfl,rfl⟩
  ·exact k
theorem XTs.or {q:Te} {es:Tes} {m1 m2:RE Bool} (h:XT Γ q ρ m1) (k:XTs Γ false es ρ m2):XTs Γ false (.cons q es) ρ (m1.bind fun x=>if x=true then .ok true else m2):=by
 unfold XTs;rw[qdx]
 exact XR.bind h fun v er q=>by
  subst q
  cases er
  ·exact k
  ·exact⟨_,rfl,rfl⟩
theorem XT.bop {c:Bool} {es:Tes} {m:RE Bool} (h:XTs Γ c es ρ m):XT Γ (.bop c es) ρ m:=by unfold XT;rw[evT];exact h
def atE (xs:List α) (k:Int):RE α:=match L2.atI xs k with
 |some x=>.ok x
 |none=>.bad
theorem qgR (f:α→β) (xs:List α) (k:Int):L2.atI (xs.map f) k=(L2.atI xs k).map f:=by
 unfold L2.atI
 rw[List.length_map]
 cases L2.ixN xs.length k<;>simp
theorem XE.idx {m1:RE (List α)} {m2:RE Int} (ha:XE Γ a ρ m1 (eL en) s1 t) (hb:XE Γ b ρ m2 eI s2 t2):XE Γ (.idx a b) ρ (m1.bind fun xs=>m2.bind fun k=>atE xs k) en .v t:=by
 unfold XE;rw[ev]
 exact XR.bind ha fun xs ex hx=>XR.bind hb fun k ek hk=>by
  rw[hx.d,hk.d]
  show XR (match L2.atI (xs.map en) k with
   |some x=>RE.ok (ER.val x (ex.b||x.flat))
   |none=>.bad) _ _
  rw[qgR]
  unfold atE
  cases L2.atI xs k with
  |none=>trivial
  |some x=>exact⟨_,rfl,rfl,rfl,fun z=>by show(_||_)=true;rw[hx.t z];rfl⟩
theorem XE.idxP {xs:List α} {k:Int} (ha:XE Γ a ρ (.ok xs) (eL en) s1 t) (hb:XE Γ b ρ (.ok k) eI s2 t2):XE Γ (.idx a b) ρ (atE xs k) en .v t:=XE.idx ha hb
theorem XE.flat [h:Flat en] {m:RE α} (k:XE Γ e ρ m en .v t) (q:∀x b,ev Γ e ρ=.ok (.val (en x) b)→b=true):XE Γ e ρ m en .v true:=by
 cases m with
 |bad=>trivial
 |ok x =>
  obtain⟨er,e1,e2⟩:=k
  refine⟨er,e1,e2.d,e2.s,fun _=>?_⟩
  cases er with
  |val d b =>
   have:=e2.d
   simp only[ER.d_val] at this
   subst this
   exact q _ _ e1
  |fre ds b=>exact nomatch e2.s
  |brw ds b=>exact nomatch e2.s
 |exc c fs=>exact k
theorem XE.idxF [h:Flat en] {m1:RE (List α)} {m2:RE Int} (ha:XE Γ a ρ m1 (eL en) s1 t) (hb:XE Γ b ρ m2 eI s2 t2):XE Γ (.idx a b) ρ (m1.bind fun xs=>m2.bind fun k=>atE xs k) en .v true:=by
 unfold XE;rw[ev]
 exact XR.bind ha fun xs ex hx=>XR.bind hb fun k ek hk=>by
  rw[hx.d,hk.d]
  show XR (match L2.atI (xs.map en) k with
   |some x=>RE.ok (ER.val x (ex.b||x.flat))
   |none=>.bad) _ _
  rw[qgR]
  unfold atE
  cases L2.atI xs k with
  |none=>trivial
  |some x=>exact⟨_,rfl,rfl,rfl,fun z=>by show(_||(en x).flat)=true;rw[h.flat x];simp⟩
theorem XE.idxFP [h:Flat en] {xs:List α} {k:Int} (ha:XE Γ a ρ (.ok xs) (eL en) s1 t) (hb:XE Γ b ρ (.ok k) eI s2 t2):XE Γ (.idx a b) ρ (atE xs k) en .v true:=XE.idxF ha hb
def qiV (xs:List Nat) (k:Int):RE Nat:=gd (leB xs.length) (atE xs k)
theorem XE.idxS {m1:RE (List Nat)} {m2:RE Int} (ha:XE Γ a ρ m1 eS s1 t) (hb:XE Γ b ρ m2 eI s2 t2):XE Γ (.idx a b) ρ (m1.bind fun xs=>m2.bind fun k=>qiV xs k) eC .v true:=by
 unfold XE;rw[ev]
 exact XR.bind ha fun xs ex hx=>XR.bind hb fun k ek hk=>by
  rw[hx.d,hk.d]
  refine xgd ?_
  unfold atE
  cases L2.atI xs k with
  |none=>trivial
  |some x=>exact⟨_,rfl,rfl,rfl,fun _=>rfl⟩
theorem XE.prt {k:Int} {f:α→β} {m1:RE α} (ha:XE Γ a ρ m1 en s1 t) (h:∀v b,qkK (en v) (.int k) b=.ok (.val (en2 (f v)) (b||(en2 (f v)).flat))) (ht:t2=true→t=true∨Flat en2):XE Γ (.idx a (.cint k)) ρ (m1.bind fun x=>.ok (f x)) en2 .v t2:=by
 unfold XE;rw[ev]
 exact XR.bind ha fun x ex hx=>by
  rw[hx.d,ev]
  simp only[RE.bind_ok,ok,ER.d_val]
  rw[h]
  refine qnN rfl fun z=>?_
  rcases ht z with q | q
  ·rw[hx.t q];rfl
  ·rw[q.flat];simp
theorem XE.prtP {k:Int} {f:α→β} (ha:XE Γ a ρ (.ok x) en s1 t) (h:∀v b,qkK (en v) (.int k) b=.ok (.val (en2 (f v)) (b||(en2 (f v)).flat))) (ht:t2=true→t=true∨Flat en2):XE Γ (.idx a (.cint k)) ρ (.ok (f x)) en2 .v t2:=XE.prt ha h ht
theorem qhV (f:α→β) (xs:List α) (lo hi:Option Int):qbd (xs.map f) lo hi=(qbd xs lo hi).map f:=by
 unfold qbd
 rw[List.length_map,List.map_take,List.map_drop]
abbrev XO (Γ:Env) (es:Exs) (ρ:List Sl) (m:RE (Option Int)):Prop:=XR (evO Γ es ρ) m fun v x=>x=v
theorem XO.nil:XO Γ .nil ρ (.ok none):=by unfold XO;rw[evO];exact⟨_,rfl,rfl⟩
theorem XO.one {m:RE Int} (h:XE Γ a ρ m eI s t):XO Γ (.cons a .nil) ρ (m.bind fun k=>.ok (some k)):=by
 unfold XO;rw[evO]
 exact XR.bind h fun v er k=>by rw[k.d];exact⟨_,rfl,rfl⟩
theorem XO.oneP {k:Int} (h:XE Γ a ρ (.ok k) eI s t):XO Γ (.cons a .nil) ρ (.ok (some k)):=XO.one h
theorem XE.slc {m1:RE (List α)} {lo hi:Exs} {m2 m3:RE (Option Int)} (ha:XE Γ a ρ m1 (eL en) s1 t) (hb:XO Γ lo ρ m2) (hc:XO Γ hi ρ m3):XE Γ (.slc a lo hi) ρ (m1.bind fun xs=>m2.bind fun l=>m3.bind fun h=>.ok (qbd xs l h)) (eL en) .f t:=by
 unfold XE;rw[ev]
 exact XR.bind ha fun xs ex hx=>XR.bind hb fun l el hl=>XR.bind hc fun h eh hh=>by
  subst hl;subst hh
  rw[hx.d]
  exact qlY (by rw[qhV];rfl) hx.t
theorem XE.slcP {xs:List α} {lo hi:Exs} {l h:Option Int} (ha:XE Γ a ρ (.ok xs) (eL en) s1 t) (hb:XO Γ lo ρ (.ok l)) (hc:XO Γ hi ρ (.ok h)):XE Γ (.slc a lo hi) ρ (.ok (qbd xs l h)) (eL en) .f t:=XE.slc ha hb hc
def qav (xs:List Nat) (l h:Option Int):RE (List Nat):=gd (leB xs.length) (.ok (qbd xs l h))
theorem XE.slcS {m1:RE (List Nat)} {lo hi:Exs} {m2 m3:RE (Option Int)} (ha:XE Γ a ρ m1 eS s1 t) (hb:XO Γ lo ρ m2) (hc:XO Γ hi ρ m3):XE Γ (.slc a lo hi) ρ (m1.bind fun xs=>m2.bind fun l=>m3.bind fun h=>qav xs l h) eS .v true:=by
 unfold XE;rw[ev]
 exact XR.bind ha fun xs ex hx=>XR.bind hb fun l el hl=>XR.bind hc fun h eh hh=>by
  subst hl;subst hh
  rw[hx.d]
  exact xgd (xok rfl)
theorem XE.slcSP {xs:List Nat} {lo hi:Exs} {l h:Option Int} (ha:XE Γ a ρ (.ok xs) eS s1 t) (hb:XO Γ lo ρ (.ok l)) (hc:XO Γ hi ρ (.ok h)):XE Γ (.slc a lo hi) ρ (qav xs l h) eS .v true:=XE.slcS ha hb hc
theorem XE.isi {ty:Ty} {f:α→Bool} {m1:RE α} (ha:XE Γ a ρ m1 en s1 t) (h:∀v,qlB (en v) ty=ok (.bl (f v))):XE Γ (.isi a ty) ρ (m1.bind fun x=>.ok (f x)) eB .v true:=by
 unfold XE;rw[ev]
 exact XR.bind ha fun xs ex hx=>by rw[hx.d,h];exact xok rfl
def tyE (d:D) (ty:Ty):RE Bool:=(qlB d ty).bind fun x=>match x.d with
 |.bl b=>.ok b
 |_=>.bad
theorem XE.isiD {ty:Ty} (ha:XE Γ a ρ (.ok x) en s1 t):XE Γ (.isi a ty) ρ (tyE (en x) ty) eB .v true:=by
 obtain⟨er,e1,e2⟩:=ha
 unfold XE;rw[ev,e1]
 simp only[RE.bind_ok]
 rw[e2.d,tyE]
 cases en x<;>cases ty<;>first | trivial | exact xok rfl
theorem qll (Γ:Env) (ρ:List Sl) (a:Ex):evs Γ (.cons a .nil) ρ=(ev Γ a ρ).bind fun x=>.ok [x.frz]:=by
 rw[evs,evs];rfl
theorem qcd (x:ER):x.frz.d=x.d:=by cases x<;>rfl
theorem qf4 (x:ER):x.frz.b=x.b:=by cases x<;>rfl
theorem XE.pri1 {p:Pri} {m1:RE α} {f:α→RE β} (ha:XE Γ a ρ m1 en s1 t1) (h:∀x e,e.d=en x→(t1=true→e.b=true)→XR (evP p [e]) (f x) fun v er=>Is s t (en2 v) er):XE Γ (.pri p (.cons a .nil)) ρ (m1.bind f) en2 s t:=by
 unfold XE;rw[ev,qll,RE.bind_assoc]
 exact XR.bind ha fun x ex hx=>h x _ (by rw[qcd,hx.d]) fun z=>by rw[qf4];exact hx.t z
theorem XE.pri1P {p:Pri} {f:RE β} (ha:XE Γ a ρ (.ok x) en s1 t1) (h:∀e,e.d=en x→(t1=true→e.b=true)→XR (evP p [e]) f fun v er=>Is s t (en2 v) er):XE Γ (.pri p (.cons a .nil)) ρ f en2 s t:=by
 obtain⟨er,e1,e2⟩:=ha
 unfold XE;rw[ev,qll,e1]
 simp only[RE.bind_ok]
 exact h _ (by rw[qcd,e2.d]) fun z=>by rw[qf4];exact e2.t z
theorem XE.pri2 {p:Pri} {m1:RE α} {m2:RE β} {f:α→β→RE γ} (ha:XE Γ a ρ m1 en s1 t1) (hb:XE Γ b ρ m2 en2 s2 t2) (h:∀x y e e',e.d=en x→e'.d=en2 y→XR (evP p [e,e']) (f x y) fun v er=>Is s t (en3 v) er):XE Γ (.pri p (.cons a (.cons b .nil))) ρ (m1.bind fun x=>m2.bind fun y=>f x y) en3 s t:=by
 unfold XE;rw[ev,evs,qll,RE.bind_assoc]
 exact XR.bind ha fun x ex hx=>by
  rw[RE.bind_assoc,RE.bind_assoc]
  exact XR.bind hb fun y ey hy=>h x y _ _ (by rw[qcd,hx.d]) (by rw[qcd,hy.d])
theorem qin (x:List α) (e:ER) (h:e.d=eL en x) (_:t=true→e.b=true):XR (evP .len [e]) (.ok (x.length:Int)) fun v er=>Is .v true (eI v) er:=by
 simp only[evP,h,eL,List.length_map];exact xok rfl
def qc4 (x:List Nat):RE Int:=gd (leB x.length) (.ok (x.length:Int))
theorem qg2 (x:List Nat) (e:ER) (h:e.d=eS x) (_:t=true→e.b=true):XR (evP .len [e]) (qc4 x) fun v er=>Is .v true (eI v) er:=by
 simp only[evP,h];exact xgd (xok rfl)
theorem qlx (x y:Int) (e e':ER) (h:e.d=eI x) (h':e'.d=eI y):XR (evP .min2 [e,e']) (.ok (if y<x then y else x)) fun v er=>Is .v true (eI v) er:=by
 simp only[evP,h,h'];exact xok rfl
def qpX (x y:Int):RE (Int × Int):=gd (dmB y) (.ok (x / y,x % y))
def qpb (x:List Int):RE Int:=match x with
 |[]=>.bad
 |n::ns=>.ok (qfY (n::ns))
def qnX (x:List Int):RE Int:=match x with
 |[]=>.bad
 |n::ns=>.ok (qfZ (n::ns))
theorem qdr:∀bs:List Bool,qcb (bs.map D.bl)=some bs
 |[]=>rfl
 |b::bs=>by simp[qcb,qdr bs]
theorem qdf:∀bs:List (List Nat),qej (bs.map D.str)=some bs
 |[]=>rfl
 |b::bs=>by simp[qej,qdf bs]
theorem qnZ (x:List Bool) (e:ER) (h:e.d=eL eB x) (_:t=true→e.b=true):XR (evP .any [e]) (.ok (x.any id)) fun v er=>Is .v true (eB v) er:=by
 simp only[evP,h,eL,qdr];exact xok rfl
def qm2 (s:List Nat):RE Int:=match PySem.intText? (qal s) with
 |some n=>gd (Nat.ble s.length 640) (.ok n)
 |none=>.bad
def qlf (i:Int):RE (List Nat):=gd (qlS i) (.ok (toString i:PySem.Str).cps.toList)
theorem qno (x:Int) (e:ER) (h:e.d=eI x) (_:t=true→e.b=true):XR (evP .str [e]) (qlf x) fun v er=>Is .v true (eS v) er:=by
 simp only[evP,h];exact xgd (xok rfl)
def qar (n:Int):RE (List Int):=gd (qfW n) (.ok (qcj 0 1 n.toNat))
def qeZ (i j:Int):RE (List Int):=gd (qli i j) (.ok (qcj i 1 (j - i).toNat))
def qmm (i j c:Int):RE (List Int):=gd (qmS i j c) (.ok (qcj i c (qld i j c)))
abbrev XRg (Γ:Env) (es:Exs) (ρ:List Sl) (m:RE (List Int)):Prop:=XR ((evs Γ es ρ).bind qdz) m fun v x=>x=v
theorem qnG {α:Type} {b:Bool} {x:α}:XR (gd b (.ok x)) (gd b (.ok x)) fun v y=>y=v:=by
 cases b
 ·trivial
 ·exact⟨_,rfl,rfl⟩
theorem XRg.r1 {m1:RE Int} (ha:XE Γ a ρ m1 eI s1 t1):XRg Γ (.cons a .nil) ρ (m1.bind qar):=by
 unfold XRg;rw[qll,RE.bind_assoc]
 exact XR.bind ha fun x ex hx=>by
  simp only[RE.bind_ok,qdz,qcd,hx.d];exact qnG
theorem XRg.r2 {m1 m2:RE Int} (ha:XE Γ a ρ m1 eI s1 t1) (hb:XE Γ b ρ m2 eI s2 t2):XRg Γ (.cons a (.cons b .nil)) ρ (m1.bind fun x=>m2.bind fun y=>qeZ x y):=by
 unfold XRg;rw[evs,qll,RE.bind_assoc]
 exact XR.bind ha fun x ex hx=>by
  rw[RE.bind_assoc,RE.bind_assoc]
  exact XR.bind hb fun y ey hy=>by
   simp only[RE.bind_ok,qdz,qcd,hx.d,hy.d];exact qnG
theorem XRg.r3 {m1 m2 m3:RE Int} (ha:XE Γ a ρ m1 eI s1 t1) (hb:XE Γ b ρ m2 eI s2 t2) (hc:XE Γ c ρ m3 eI s3 t3):XRg Γ (.cons a (.cons b (.cons c .nil))) ρ (m1.bind fun x=>m2.bind fun y=>m3.bind fun z=>qmm x y z):=by
 unfold XRg;rw[evs,evs,qll,RE.bind_assoc]
 exact XR.bind ha fun x ex hx=>by
  simp only[RE.bind_assoc]
  exact XR.bind hb fun y ey hy=>XR.bind hc fun z ez hz=>by
   simp only[RE.bind_ok,qdz,qcd,hx.d,hy.d,hz.d];exact qnG
theorem XRg.r1P {x:Int} (ha:XE Γ a ρ (.ok x) eI s1 t1):XRg Γ (.cons a .nil) ρ (qar x):=XRg.r1 ha
theorem XRg.r2P {x y:Int} (ha:XE Γ a ρ (.ok x) eI s1 t1) (hb:XE Γ b ρ (.ok y) eI s2 t2):XRg Γ (.cons a (.cons b .nil)) ρ (qeZ x y):=XRg.r2 ha hb
theorem XI.list {m1:RE (List α)} (h:XE Γ a ρ m1 (eL en) s t) (hs:s.nb=true):XI Γ (.any a) ρ m1 en t false:=by
 unfold XI;rw[evI]
 have e:m1=m1.bind fun k=>.ok k:=by cases m1<;>rfl
 rw[e]
 exact XR.bind h fun v er k=>by
  simp only[qd1,k.d,eL]
  refine⟨_,rfl,rfl,k.t,fun _=>?_⟩
  have:=k.s
  cases s<;>cases er<;>simp_all[qes,ER.isF,Sh.nb]
theorem XI.str {m1:RE (List Nat)} (h:XE Γ a ρ m1 eS s t):XI Γ (.any a) ρ m1 eC true false:=by
 unfold XI;rw[evI]
 have e:m1=m1.bind fun k=>.ok k:=by cases m1<;>rfl
 rw[e]
 exact XR.bind h fun v er k=>by
  simp only[qd1,k.d]
  exact⟨_,rfl,rfl,fun _=>rfl,fun _=>rfl⟩
theorem XI.tup {m1:RE α} {f:α→List β} (h:XE Γ a ρ m1 en s t) (k:∀v,en v=.tup ((f v).map en2)):XI Γ (.any a) ρ (m1.bind fun x=>.ok (f x)) en2 t false:=by
 unfold XI;rw[evI]
 exact XR.bind h fun v er q=>by
  simp only[qd1,q.d,k]
  exact⟨_,rfl,rfl,q.t,fun _=>rfl⟩
theorem XI.rng {es:Exs} {m1:RE (List Int)} (h:XRg Γ es ρ m1):XI Γ (.rng es) ρ m1 eI true false:=by
 unfold XI;rw[evI]
 have e:m1=m1.bind fun k=>.ok k:=by cases m1<;>rfl
 rw[e,←RE.bind_assoc]
 exact XR.bind h fun v x k=>by subst k;exact⟨_,rfl,rfl,fun _=>rfl,fun _=>rfl⟩
theorem qfn (f:α→D) (g:β→D):∀(xs:List α) (ys:List β),List.zipWith (fun u v=>D.tup [u,v]) (xs.map f) (ys.map g)=(xs.zip ys).map (eT2 f g)
 |[],_=>rfl
 |_::_,[]=>rfl
 |x::xs,y::ys=>by simp[qfn f g xs ys,eT2]
theorem XI.zp {m1:RE (List α)} {m2:RE (List β)} (ha:XE Γ a ρ m1 (eL en) s1 t1) (hb:XE Γ b ρ m2 (eL en2) s2 t2):XI Γ (.zp a b) ρ (m1.bind fun xs=>m2.bind fun ys=>.ok (xs.zip ys)) (eT2 en en2) (t1&&t2) (!(s1.nb&&s2.nb)):=by
 unfold XI;rw[evI]
 exact XR.bind ha fun x ex hx=>XR.bind hb fun y ey hy=>by
  simp only[hx.d,hy.d,eL]
  refine⟨_,rfl,qfn _ _ _ _,fun z=>?_,fun z=>?_⟩
  ·rw[Bool.and_eq_true] at z
   show(_&&_)=true
   rw[hx.t z.1,hy.t z.2];rfl
  ·have h1:=hx.s
   have h2:=hy.s
   show(_||_)=false
   cases s1<;>cases s2<;>cases ex<;>cases ey<;>simp_all[qes,ER.isF,Sh.nb]
def qj1 (xs:List α):List (Int × α):=xs.zipIdx.map fun p=>((p.2:Int),p.1)
theorem XI.rv {m1:RE (List α)} (ha:XE Γ a ρ m1 (eL en) s1 t1):XI Γ (.rv a) ρ (m1.bind fun xs=>.ok xs.reverse) en t1 (!s1.nb):=by
 unfold XI;rw[evI]
 exact XR.bind ha fun x ex hx=>by
  simp only[hx.d,eL]
  refine⟨_,rfl,by simp,hx.t,fun z=>?_⟩
  have h1:=hx.s
  show ex.isB=false
  cases s1<;>cases ex<;>simp_all[qes,ER.isF,Sh.nb]
def lcE (c:α→RE Bool) (f:α→RE β):List α→RE (List β)
 |[]=>.ok []
 |x::xs=>(noX (c x)).bind fun k=>if k=true then (noX (f x)).bind fun y=>(lcE c f xs).bind fun ys=>.ok (y::ys) else lcE c f xs
def qo5 (f:α→RE β):List α→RE (List β)
 |[]=>.ok []
 |x::xs=>(noX (f x)).bind fun y=>(qo5 f xs).bind fun ys=>.ok (y::ys)
theorem qi0 {cc:α→RE Bool} {ff:α→RE β} {F:D→RE (Option (D × Bool))} {t:Bool}:∀{xs:List α},(∀x∈xs,XR (F (en x)) ((noX (cc x)).bind fun k=>if k=true then (noX (ff x)).bind fun y=>.ok (some y) else .ok none) fun v r=>match v with
  |none=>r=none
  |some y=>∃f,r=some (en2 y,f)∧(t=true→f=true))→XR (lcl F (xs.map en)) (lcE cc ff xs) fun ys r=>r.1=ys.map en2∧(t=true→r.2=true)
 |[],_=>⟨_,rfl,rfl,fun _=>rfl⟩
 |x::xs,h=>by
  have ih:=qi0 (F:=F) (xs:=xs) fun y hy=>h y (List.mem_cons_of_mem _ hy)
  have h0:=h x (by simp)
  simp only[List.map_cons,lcl,lcE]
  cases hc:noX (cc x) with
  |bad=>trivial
  |exc c fs=>cases e:cc x<;>rw[e] at hc<;>cases hc
  |ok k =>
   rw[hc] at h0
   simp only[RE.bind_ok] at h0 ⊢
   cases k with
   |false =>
    simp only[Bool.false_eq_true,if_false] at h0 ⊢
    obtain⟨r,e1,e2⟩:=h0
    cases e2
    rw[e1]
    simp only[RE.bind_ok]
    cases hl:lcE cc ff xs with
    |bad=>trivial
    |ok ys=>rw[hl] at ih;obtain⟨q,e3,e4⟩:=ih;rw[e3];exact⟨_,rfl,e4⟩
    |exc c fs=>rw[hl] at ih;have ih:lcl F (xs.map en)=_:=ih;rw[ih];rfl
   |true =>
    simp only[if_true] at h0 ⊢
    cases hf:noX (ff x) with
    |bad=>trivial
    |exc c fs=>cases e:ff x<;>rw[e] at hf<;>cases hf
    |ok y =>
     rw[hf] at h0
     obtain⟨r,e1,f,e2,e2'⟩:=h0
     subst e2
     rw[e1]
     simp only[RE.bind_ok]
     cases hl:lcE cc ff xs with
     |bad=>trivial
     |ok ys =>
      rw[hl] at ih
      obtain⟨q,e3,e4,e5⟩:=ih
      rw[e3]
      refine⟨_,rfl,by simp[e4],fun z=>?_⟩
      show(f&&q.2)=true
      rw[e2' z,e5 z];rfl
     |exc c fs=>rw[hl] at ih;have ih:lcl F (xs.map en)=_:=ih;rw[ih];rfl
theorem qk8 {cnd:Tes} {e:Ex} {ρ':List Sl} {mc:RE Bool} {mf:RE β} (hc:XTs Γ true cnd ρ' mc) (hf:mc=.ok true→XE Γ e ρ' mf en2 s t) (hs:s.nb=true):XR (noX ((qdx Γ true cnd ρ').bind fun k=>if k=true then (ev Γ e ρ').bind fun y=>match y with
    |.brw _ _=>.bad
    |y=>.ok (some (y.d,y.b)) else .ok none)) ((noX mc).bind fun k=>if k=true then (noX mf).bind fun y=>.ok (some y) else .ok none) fun v r=>match v with
  |none=>r=none
  |some y=>∃f,r=some (en2 y,f)∧(t=true→f=true):=by
 cases mc with
 |bad=>trivial
 |exc c fs=>trivial
 |ok k =>
  obtain⟨x,e1,e2⟩:=hc
  subst e2
  rw[e1]
  cases x with
  |false=>exact⟨_,rfl,rfl⟩
  |true =>
   have hf:=hf rfl
   simp only[RE.bind_ok,if_true,noX]
   cases mf with
   |bad=>trivial
   |exc c fs=>trivial
   |ok y =>
    obtain⟨er,e3,e4⟩:=hf
    rw[e3]
    simp only[RE.bind_ok,noX]
    have hsh:=e4.s
    cases er with
    |brw ds b=>cases s<;>simp_all[qes,ER.isF,Sh.nb]
    |val d b=>exact⟨_,rfl,_,by rw[←e4.d],e4.t⟩
    |fre d b=>exact⟨_,rfl,_,by rw[←e4.d],e4.t⟩
theorem XE.lc {own:List Nat} {it:Itx} {i:Nat} {cnd:Tes} {m1:RE (List α)} {o t0:Bool} {mc:α→RE Bool} {mf:α→RE β} (ρ₂:Sl→List Sl) (hi:XI Γ it ρ m1 en t1 o) (ht:t0=true→t1=true∨Flat en) (hset:∀q,(wipeS ρ own).set i q=ρ₂ q)
  (hc:∀x q,SlV t0 (en x) q→XTs Γ true cnd (ρ₂ q) (mc x)) (hf:∀x q,SlV t0 (en x) q→mc x=.ok true→XE Γ e (ρ₂ q) (mf x) en2 s t) (hs:s.nb=true) :
  XE Γ (.lc own it [i] cnd e) ρ (m1.bind fun xs=>gd (leB xs.length) (lcE mc mf xs)) (eL en2) .f t:=by
 unfold XE;rw[ev]
 refine XR.bind hi fun xs w hw=>?_
 obtain⟨w1,w2,_⟩:=hw
 rw[w1,List.length_map]
 cases hl:leB xs.length with
 |false=>trivial
 |true =>
  simp only[qhv]
  have e:lcE mc mf xs=(lcE mc mf xs).bind fun k=>.ok k:=by cases lcE mc mf xs<;>rfl
  rw[e]
  refine XR.bind (qi0 (t:=t) (en2:=en2) fun x _=>?_) fun ys r hr=>qlY (by rw[hr.1];rfl) hr.2
  simp only[qbZ,hset]
  have hq:SlV t0 (en x) (.val (en x) (w.b||(en x).flat)):=⟨_,rfl,fun z=>by
   rcases ht z with q | q
   ·simp[w2 q]
   ·rw[q.flat];simp⟩
  exact qk8 (hc x _ hq) (hf x _ hq) hs
theorem XTs.nil {c:Bool}:XTs Γ c .nil ρ (.ok c):=by unfold XTs;rw[qdx];exact⟨_,rfl,rfl⟩
end
end Cm
namespace Cm
def Out.rt:Out→RE ER
 |.ret er=>.ok er
 |.exc c fs=>.exc c fs
 |_=>.bad
inductive Fl (β σ:Type) where
 |nx (s:σ) | rt (b:β) | bk (s:σ)
def XN {σ:Type} (o:Out) (m:RE σ) (S:σ→List Sl→Prop):Prop:=match m with
 |.bad=>True
 |.ok v=>∃ρ',o=.nx ρ'∧S v ρ'
 |.exc c fs=>o=.exc c fs
def XL {σ:Type} (o:Out) (m:RE σ) (S:σ→List Sl→Prop):Prop:=match m with
 |.bad=>True
 |.ok v=>∃ρ',(o=.nx ρ'∨o=.cnt ρ')∧S v ρ'
 |.exc c fs=>o=.exc c fs
def XF {β σ:Type} (o:Out) (m:RE (Fl β σ)) (R:β→ER→Prop) (S:σ→List Sl→Prop):Prop:=match m with
 |.bad=>True
 |.ok (.nx v)=>∃ρ',(o=.nx ρ'∨o=.cnt ρ')∧S v ρ'
 |.ok (.rt b)=>∃er,o=.ret er∧R b er
 |.ok (.bk v)=>∃ρ',o=.brk ρ'∧S v ρ'
 |.exc c fs=>o=.exc c fs
def XX {β σ:Type} (o:Out) (m:RE (Fl β σ)) (R:β→ER→Prop) (S:σ→List Sl→Prop):Prop:=match m with
 |.bad=>True
 |.ok (.nx v)=>∃ρ',o=.cnt ρ'∧S v ρ'
 |.ok (.rt b)=>∃er,o=.ret er∧R b er
 |.ok (.bk v)=>∃ρ',o=.brk ρ'∧S v ρ'
 |.exc c fs=>o=.exc c fs
abbrev BR {β:Type} (Γ:Env) (ss:Sms) (ρ:List Sl) (m:RE β) (en:β→D) (s:Sh) (t:Bool):Prop:=XR (qad Γ ss ρ).rt m fun v er=>Is s t (en v) er
abbrev BN {σ:Type} (Γ:Env) (ss:Sms) (ρ:List Sl) (m:RE σ) (S:σ→List Sl→Prop):Prop:=XN (qad Γ ss ρ) m S
abbrev BL {σ:Type} (Γ:Env) (ss:Sms) (ρ:List Sl) (m:RE σ) (S:σ→List Sl→Prop):Prop:=XL (qad Γ ss ρ) m S
abbrev BF {β σ:Type} (Γ:Env) (ss:Sms) (ρ:List Sl) (m:RE (Fl β σ)) (R:β→ER→Prop) (S:σ→List Sl→Prop):Prop:=XF (qad Γ ss ρ) m R S
abbrev BX {β σ:Type} (Γ:Env) (ss:Sms) (ρ:List Sl) (m:RE (Fl β σ)) (R:β→ER→Prop) (S:σ→List Sl→Prop):Prop:=XX (qad Γ ss ρ) m R S
def XG {β σ:Type} (o:Out) (m:RE (Fl β σ)) (R:β→ER→Prop) (S:σ→List Sl→Prop):Prop:=match m with
 |.bad=>True
 |.ok (.nx v)=>∃ρ',o=.nx ρ'∧S v ρ'
 |.ok (.rt b)=>∃er,o=.ret er∧R b er
 |.ok (.bk v)=>False
 |.exc c fs=>o=.exc c fs
abbrev BG {β σ:Type} (Γ:Env) (ss:Sms) (ρ:List Sl) (m:RE (Fl β σ)) (R:β→ER→Prop) (S:σ→List Sl→Prop):Prop:=XG (qad Γ ss ρ) m R S
def Fl.bR {β σ:Type} (m:RE (Fl β σ)) (k:σ→RE β):RE β:=m.bind fun f=>match f with
 |.nx v=>k v
 |.rt b=>.ok b
 |.bk _=>.bad
def Fl.bF {β σ τ:Type} (m:RE (Fl β σ)) (k:σ→RE (Fl β τ)):RE (Fl β τ):=m.bind fun f=>match f with
 |.nx v=>k v
 |.rt b=>.ok (.rt b)
 |.bk _=>.bad
abbrev SN {σ:Type} (Γ:Env) (s:Sm) (ρ:List Sl) (m:RE σ) (S:σ→List Sl→Prop):Prop:=XN (run Γ s ρ) m S
abbrev SF {β σ:Type} (Γ:Env) (s:Sm) (ρ:List Sl) (m:RE (Fl β σ)) (R:β→ER→Prop) (S:σ→List Sl→Prop):Prop:=XG (run Γ s ρ) m R S
section
variable {Γ:Env} {ρ:List Sl} {α β γ δ σ τ:Type} {en:α→D} {en2:β→D} {e a b:Ex} {s s1 s2:Sh} {t t1 t2:Bool} {ss sa sb:Sms} {q:Sm} {R:β→ER→Prop} {S:σ→List Sl→Prop} {S':τ→List Sl→Prop}
theorem BR.cons {m:RE σ} {k:σ→RE β} (h:SN Γ q ρ m S) (hk:∀v ρ',S v ρ'→BR Γ ss ρ' (k v) en2 s t):BR Γ (.cons q ss) ρ (m.bind k) en2 s t:=by
 unfold BR
 rw[qad]
 cases m with
 |bad=>trivial
 |ok v=>obtain⟨ρ',e,h⟩:=h;rw[e];exact hk v ρ' h
 |exc c fs=>have h:run Γ q ρ=_:=h;rw[h];rfl
theorem BN.cons {m:RE σ} {k:σ→RE τ} (h:SN Γ q ρ m S) (hk:∀v ρ',S v ρ'→BN Γ ss ρ' (k v) S'):BN Γ (.cons q ss) ρ (m.bind k) S':=by
 unfold BN
 rw[qad]
 cases m with
 |bad=>trivial
 |ok v=>obtain⟨ρ',e,h⟩:=h;rw[e];exact hk v ρ' h
 |exc c fs=>have h:run Γ q ρ=_:=h;rw[h];rfl
theorem BL.cons {m:RE σ} {k:σ→RE τ} (h:SN Γ q ρ m S) (hk:∀v ρ',S v ρ'→BL Γ ss ρ' (k v) S'):BL Γ (.cons q ss) ρ (m.bind k) S':=by
 unfold BL
 rw[qad]
 cases m with
 |bad=>trivial
 |ok v=>obtain⟨ρ',e,h⟩:=h;rw[e];exact hk v ρ' h
 |exc c fs=>have h:run Γ q ρ=_:=h;rw[h];rfl
theorem BF.cons {m:RE σ} {k:σ→RE (Fl β τ)} (h:SN Γ q ρ m S) (hk:∀v ρ',S v ρ'→BF Γ ss ρ' (k v) R S'):BF Γ (.cons q ss) ρ (m.bind k) R S':=by
 unfold BF
 rw[qad]
 cases m with
 |bad=>trivial
 |ok v=>obtain⟨ρ',e,h⟩:=h;rw[e];exact hk v ρ' h
 |exc c fs=>have h:run Γ q ρ=_:=h;rw[h];rfl
theorem BX.cons {m:RE σ} {k:σ→RE (Fl β τ)} (h:SN Γ q ρ m S) (hk:∀v ρ',S v ρ'→BX Γ ss ρ' (k v) R S'):BX Γ (.cons q ss) ρ (m.bind k) R S':=by
 unfold BX
 rw[qad]
 cases m with
 |bad=>trivial
 |ok v=>obtain⟨ρ',e,h⟩:=h;rw[e];exact hk v ρ' h
 |exc c fs=>have h:run Γ q ρ=_:=h;rw[h];rfl
theorem BR.consF {m:RE (Fl β σ)} {k:σ→RE β} (h:SF Γ q ρ m (fun v er=>Is s t (en2 v) er) S) (hk:∀v ρ',S v ρ'→BR Γ ss ρ' (k v) en2 s t):BR Γ (.cons q ss) ρ (Fl.bR m k) en2 s t:=by
 unfold BR
 rw[qad]
 cases m with
 |bad=>trivial
 |ok v =>
  cases v with
  |nx v=>obtain⟨ρ',e,h⟩:=h;rw[e];exact hk v ρ' h
  |rt b=>obtain⟨er,e,h⟩:=h;rw[e];exact⟨_,rfl,h⟩
  |bk v=>trivial
 |exc c fs=>have h:run Γ q ρ=_:=h;rw[h];rfl
theorem BF.consF {m:RE (Fl β σ)} {k:σ→RE (Fl β τ)} (h:SF Γ q ρ m R S) (hk:∀v ρ',S v ρ'→BF Γ ss ρ' (k v) R S'):BF Γ (.cons q ss) ρ (Fl.bF m k) R S':=by
 unfold BF
 rw[qad]
 cases m with
 |bad=>trivial
 |ok v =>
  cases v with
  |nx v=>obtain⟨ρ',e,h⟩:=h;rw[e];exact hk v ρ' h
  |rt b=>obtain⟨er,e,h⟩:=h;rw[e];exact⟨_,rfl,h⟩
  |bk v=>trivial
 |exc c fs=>have h:run Γ q ρ=_:=h;rw[h];rfl
theorem BG.consF {m:RE (Fl β σ)} {k:σ→RE (Fl β τ)} (h:SF Γ q ρ m R S) (hk:∀v ρ',S v ρ'→BG Γ ss ρ' (k v) R S'):BG Γ (.cons q ss) ρ (Fl.bF m k) R S':=by
 unfold BG
 rw[qad]
 cases m with
 |bad=>trivial
 |ok v =>
  cases v with
  |nx v=>obtain⟨ρ',e,h⟩:=h;rw[e];exact hk v ρ' h
  |rt b=>obtain⟨er,e,h⟩:=h;rw[e];exact⟨_,rfl,h⟩
  |bk v=>trivial
 |exc c fs=>have h:run Γ q ρ=_:=h;rw[h];rfl
theorem BG.cons {m:RE σ} {k:σ→RE (Fl β τ)} (h:SN Γ q ρ m S) (hk:∀v ρ',S v ρ'→BG Γ ss ρ' (k v) R S'):BG Γ (.cons q ss) ρ (m.bind k) R S':=by
 unfold BG
 rw[qad]
 cases m with
 |bad=>trivial
 |ok v=>obtain⟨ρ',e,h⟩:=h;rw[e];exact hk v ρ' h
 |exc c fs=>have h:run Γ q ρ=_:=h;rw[h];rfl
theorem BG.nil {v:σ} (h:S v ρ):BG Γ .nil ρ (.ok (.nx v)) R S:=by unfold BG;rw[qad];exact⟨_,rfl,h⟩
theorem BN.nil {v:σ} (h:S v ρ):BN Γ .nil ρ (.ok v) S:=by unfold BN;rw[qad];exact⟨_,rfl,h⟩
theorem BL.nil {v:σ} (h:S v ρ):BL Γ .nil ρ (.ok v) S:=by unfold BL;rw[qad];exact⟨_,.inl rfl,h⟩
theorem BF.nil {v:σ} (h:S v ρ):BF Γ .nil ρ (.ok (.nx v)) R S:=by unfold BF;rw[qad];exact⟨_,.inl rfl,h⟩
theorem BL.cnt {v:σ} (h:S v ρ):BL Γ (.cons .cnt ss) ρ (.ok v) S:=by unfold BL;rw[qad,Cm.run];exact⟨_,.inr rfl,h⟩
theorem BF.cnt {v:σ} (h:S v ρ):BF Γ (.cons .cnt ss) ρ (.ok (.nx v)) R S:=by unfold BF;rw[qad,Cm.run];exact⟨_,.inr rfl,h⟩
theorem BX.cnt {v:σ} (h:S v ρ):BX Γ (.cons .cnt ss) ρ (.ok (.nx v)) R S:=by unfold BX;rw[qad,Cm.run];exact⟨_,rfl,h⟩
theorem BF.brk {v:σ} (h:S v ρ):BF Γ (.cons .brk ss) ρ (.ok (.bk v)) R S:=by unfold BF;rw[qad,Cm.run];exact⟨_,rfl,h⟩
theorem BX.brk {v:σ} (h:S v ρ):BX Γ (.cons .brk ss) ρ (.ok (.bk v)) R S:=by unfold BX;rw[qad,Cm.run];exact⟨_,rfl,h⟩
theorem BX.F {m:RE (Fl β σ)} (h:BX Γ ss ρ m R S):BF Γ ss ρ m R S:=by
 unfold BF
 cases m with
 |bad=>trivial
 |ok v =>
  cases v with
  |nx v=>obtain⟨ρ',e,h⟩:=h;exact⟨ρ',.inr e,h⟩
  |rt b=>exact h
  |bk v=>exact h
 |exc c fs=>exact h
theorem BR.X {m:RE β} (h:BR Γ ss ρ m en2 s t):BX (σ:=σ) Γ ss ρ (m.bind fun b=>.ok (.rt b)) (fun v er=>Is s t (en2 v) er) S:=by
 unfold BX
 cases m with
 |bad=>trivial
 |ok v =>
  obtain⟨er,e,h⟩:=h
  cases hr:qad Γ ss ρ<;>rw[hr] at e<;>cases e
  exact⟨_,rfl,h⟩
 |exc c fs =>
  have h:(qad Γ ss ρ).rt=_:=h
  cases hr:qad Γ ss ρ<;>rw[hr] at h<;>cases h
  rfl
theorem BR.XP {v:β} (h:BR Γ ss ρ (.ok v) en2 s t):BX (σ:=σ) Γ ss ρ (.ok (.rt v)) (fun v er=>Is s t (en2 v) er) S:=BR.X h
theorem Is.ret {d:D} {er:ER} (h:Is s t d er):Is s.ret t d (qnm er):=by
 have:=h.s
 have:=h.d
 have:=h.t
 cases s<;>cases er<;>simp_all[qes,ER.isF,Sh.ret]<;>exact⟨by assumption,rfl,by simpa using h.t⟩
theorem BR.ret {m:RE α} (h:XE Γ e ρ m en s1 t) (hs:s1.ret=s):BR Γ (.cons (.ret e) ss) ρ m en s t:=by
 unfold BR
 rw[qad,Cm.run]
 subst hs
 cases m with
 |bad=>trivial
 |ok v=>obtain⟨er,e,h⟩:=h;rw[e];exact⟨_,rfl,h.ret⟩
 |exc c fs=>have h:ev Γ _ ρ=_:=h;rw[h];rfl
theorem BR.retN:BR Γ (.cons .retN ss) ρ (.ok ()) eU .v true:=by unfold BR;rw[qad,Cm.run];exact⟨_,rfl,rfl,rfl,fun _=>rfl⟩
theorem BR.rse {k c:Nat} (h:Γ.xk[k]? = some c):BR Γ (.cons (.rse k) ss) ρ (.exc c []) en s t:=by unfold BR;rw[qad,Cm.run,h];rfl
theorem BR.weak {m:RE α} (h:BR Γ ss ρ m en s t) (hs:s.nb=true):BR Γ ss ρ m en .n t:=XR.mono h fun _ _ k=>k.weak hs
theorem BR.low {m:RE α} (h:BR Γ ss ρ m en s t):BR Γ ss ρ m en s false:=XR.mono h fun _ _ k=>k.low
theorem BR.coe {m:RE α} {f:α→β} (h:BR Γ ss ρ m en s t) (k:∀v,en v=en2 (f v)):BR Γ ss ρ (m.bind fun x=>.ok (f x)) en2 s t:=by
 cases m with
 |bad=>trivial
 |ok v=>obtain⟨er,e,h⟩:=h;exact⟨_,e,by rw[←k];exact h.d,h.s,h.t⟩
 |exc c fs=>exact h
theorem BR.iff {c:Te} {mt:RE Bool} {m1 m2:RE β} (h:XT Γ c ρ mt) (ha:BR Γ sa ρ m1 en2 s t) (hb:BR Γ sb ρ m2 en2 s t):BR Γ (.cons (.iff c sa sb) ss) ρ (mt.bind fun k=>if k=true then m1 else m2) en2 s t:=by
 unfold BR
 rw[qad,Cm.run]
 cases mt with
 |bad=>trivial
 |exc c fs=>have h:evT Γ _ ρ=_:=h;rw[h];rfl
 |ok v =>
  obtain⟨x,e,rfl⟩:=h
  rw[e]
  simp only[RE.out_ok,RE.bind_ok]
  have key:∀{sx:Sms} {m:RE β},BR Γ sx ρ m en2 s t→XR (((qad Γ sx ρ).seq fun ρ'=>qad Γ ss ρ').rt) m fun v er=>Is s t (en2 v) er:=fun {sx m} hx=>by
   cases m with
   |bad=>trivial
   |ok v =>
    obtain⟨er,e,h⟩:=hx
    cases hr:qad Γ sx ρ<;>rw[hr] at e<;>cases e
    exact⟨_,rfl,h⟩
   |exc c fs =>
    have h:(qad Γ sx ρ).rt=_:=hx
    cases hr:qad Γ sx ρ<;>rw[hr] at h<;>cases h
    rfl
  cases x
  ·exact key hb
  ·exact key ha
theorem BR.ifR {c:Te} {mt:RE Bool} {m1 m2:RE β} (h:XT Γ c ρ mt) (ha:BR Γ sa ρ m1 en2 s t) (hb:BR Γ ss ρ m2 en2 s t):BR Γ (.cons (.iff c sa .nil) ss) ρ (mt.bind fun k=>if k=true then m1 else m2) en2 s t:=by
 unfold BR
 rw[qad,Cm.run]
 cases mt with
 |bad=>trivial
 |exc c fs=>have h:evT Γ _ ρ=_:=h;rw[h];rfl
 |ok v =>
  obtain⟨x,e,rfl⟩:=h
  rw[e]
  simp only[RE.out_ok,RE.bind_ok]
  cases x with
  |false=>simp only[Bool.false_eq_true,if_false,qad];exact hb
  |true =>
   simp only[if_true]
   cases m1 with
   |bad=>trivial
   |ok v =>
    obtain⟨er,e,h⟩:=ha
    cases hr:qad Γ sa ρ<;>rw[hr] at e<;>cases e
    exact⟨_,rfl,h⟩
   |exc c fs =>
    have h:(qad Γ sa ρ).rt=_:=ha
    cases hr:qad Γ sa ρ<;>rw[hr] at h<;>cases h
    rfl
theorem BF.ifX {c:Te} {mt:RE Bool} {m1 m2:RE (Fl β σ)} (h:XT Γ c ρ mt) (ha:BX Γ sa ρ m1 R S) (hb:BF Γ ss ρ m2 R S):BF Γ (.cons (.iff c sa .nil) ss) ρ (mt.bind fun k=>if k=true then m1 else m2) R S:=by
 unfold BF
 rw[qad,Cm.run]
 cases mt with
 |bad=>trivial
 |exc c fs=>have h:evT Γ _ ρ=_:=h;rw[h];rfl
 |ok v =>
  obtain⟨x,e,rfl⟩:=h
  rw[e]
  simp only[RE.out_ok,RE.bind_ok]
  cases x with
  |false=>simp only[Bool.false_eq_true,if_false,qad];exact hb
  |true =>
   simp only[if_true]
   cases m1 with
   |bad=>trivial
   |ok v =>
    cases v with
    |nx v=>obtain⟨ρ',e,h⟩:=ha;rw[e];exact⟨_,.inr rfl,h⟩
    |rt b=>obtain⟨er,e,h⟩:=ha;rw[e];exact⟨_,rfl,h⟩
    |bk v=>obtain⟨ρ',e,h⟩:=ha;rw[e];exact⟨_,rfl,h⟩
   |exc c fs=>have h:qad Γ sa ρ=_:=ha;rw[h];rfl
theorem BX.ifX {c:Te} {mt:RE Bool} {m1 m2:RE (Fl β σ)} (h:XT Γ c ρ mt) (ha:BX Γ sa ρ m1 R S) (hb:BX Γ ss ρ m2 R S):BX Γ (.cons (.iff c sa .nil) ss) ρ (mt.bind fun k=>if k=true then m1 else m2) R S:=by
 unfold BX
 rw[qad,Cm.run]
 cases mt with
 |bad=>trivial
 |exc c fs=>have h:evT Γ _ ρ=_:=h;rw[h];rfl
 |ok v =>
  obtain⟨x,e,rfl⟩:=h
  rw[e]
  simp only[RE.out_ok,RE.bind_ok]
  cases x with
  |false=>simp only[Bool.false_eq_true,if_false,qad];exact hb
  |true =>
   simp only[if_true]
   cases m1 with
   |bad=>trivial
   |ok v =>
    cases v with
    |nx v=>obtain⟨ρ',e,h⟩:=ha;rw[e];exact⟨_,rfl,h⟩
    |rt b=>obtain⟨er,e,h⟩:=ha;rw[e];exact⟨_,rfl,h⟩
    |bk v=>obtain⟨ρ',e,h⟩:=ha;rw[e];exact⟨_,rfl,h⟩
   |exc c fs=>have h:qad Γ sa ρ=_:=ha;rw[h];rfl
theorem BL.ifX {c:Te} {mt:RE Bool} {m1 m2:RE σ} {v:σ} (h:XT Γ c ρ mt) (ha:sa=.cons .cnt .nil) (hs:S v ρ) (hb:BL Γ ss ρ m2 S):BL Γ (.cons (.iff c sa .nil) ss) ρ (mt.bind fun k=>if k=true then .ok v else m2) S:=by
 unfold BL
 subst ha
 rw[qad,Cm.run]
 cases mt with
 |bad=>trivial
 |exc c fs=>have h:evT Γ _ ρ=_:=h;rw[h];rfl
 |ok v =>
  obtain⟨x,e,rfl⟩:=h
  rw[e]
  simp only[RE.out_ok,RE.bind_ok]
  cases x with
  |false=>simp only[Bool.false_eq_true,if_false,qad];exact hb
  |true=>simp only[if_true,qad,Cm.run];exact⟨_,.inr rfl,hs⟩
theorem BF.iff {c:Te} {mt:RE Bool} {m1 m2:RE (Fl β σ)} (h:XT Γ c ρ mt) (ha:BF Γ sa ρ m1 R S) (hb:BF Γ sb ρ m2 R S):BF Γ (.cons (.iff c sa sb) .nil) ρ (mt.bind fun k=>if k=true then m1 else m2) R S:=by
 unfold BF
 rw[qad,Cm.run]
 cases mt with
 |bad=>trivial
 |exc c fs=>have h:evT Γ _ ρ=_:=h;rw[h];rfl
 |ok v =>
  obtain⟨x,e,rfl⟩:=h
  rw[e]
  simp only[RE.out_ok,RE.bind_ok]
  have key:∀{sx:Sms} {m:RE (Fl β σ)},BF Γ sx ρ m R S→XF ((qad Γ sx ρ).seq fun ρ'=>qad Γ .nil ρ') m R S:=fun {sx m} hx=>by
   have:((qad Γ sx ρ).seq fun ρ'=>qad Γ .nil ρ')=qad Γ sx ρ:=by
    cases qad Γ sx ρ<;>simp only[Out.seq,qad]
   rw[this];exact hx
  cases x
  ·exact key hb
  ·exact key ha
theorem BX.iff {c:Te} {mt:RE Bool} {m1 m2:RE (Fl β σ)} (h:XT Γ c ρ mt) (ha:BX Γ sa ρ m1 R S) (hb:BX Γ sb ρ m2 R S):BX Γ (.cons (.iff c sa sb) .nil) ρ (mt.bind fun k=>if k=true then m1 else m2) R S:=by
 unfold BX
 rw[qad,Cm.run]
 cases mt with
 |bad=>trivial
 |exc c fs=>have h:evT Γ _ ρ=_:=h;rw[h];rfl
 |ok v =>
  obtain⟨x,e,rfl⟩:=h
  rw[e]
  simp only[RE.out_ok,RE.bind_ok]
  have key:∀{sx:Sms} {m:RE (Fl β σ)},BX Γ sx ρ m R S→XX ((qad Γ sx ρ).seq fun ρ'=>qad Γ .nil ρ') m R S:=fun {sx m} hx=>by
   have:((qad Γ sx ρ).seq fun ρ'=>qad Γ .nil ρ')=qad Γ sx ρ:=by
    cases qad Γ sx ρ<;>simp only[Out.seq,qad]
   rw[this];exact hx
  cases x
  ·exact key hb
  ·exact key ha
theorem SN.iff {c:Te} {mt:RE Bool} {m1 m2:RE σ} (h:XT Γ c ρ mt) (ha:BN Γ sa ρ m1 S) (hb:BN Γ sb ρ m2 S):SN Γ (.iff c sa sb) ρ (mt.bind fun k=>if k=true then m1 else m2) S:=by
 unfold SN
 rw[Cm.run]
 cases mt with
 |bad=>trivial
 |exc c fs=>have h:evT Γ _ ρ=_:=h;rw[h];rfl
 |ok v =>
  obtain⟨x,e,rfl⟩:=h
  rw[e]
  cases x
  ·exact hb
  ·exact ha
theorem SF.iff {c:Te} {mt:RE Bool} {m1 m2:RE (Fl β σ)} (h:XT Γ c ρ mt) (ha:BG Γ sa ρ m1 R S) (hb:BG Γ sb ρ m2 R S):SF Γ (.iff c sa sb) ρ (mt.bind fun k=>if k=true then m1 else m2) R S:=by
 unfold SF
 rw[Cm.run]
 cases mt with
 |bad=>trivial
 |exc c fs=>have h:evT Γ _ ρ=_:=h;rw[h];rfl
 |ok v =>
  obtain⟨x,e,rfl⟩:=h
  rw[e]
  cases x
  ·exact hb
  ·exact ha
theorem BX.G {m:RE β} {en2:β→D} (h:BR Γ ss ρ m en2 s t):BG (σ:=σ) Γ ss ρ (m.bind fun b=>.ok (.rt b)) (fun v er=>Is s t (en2 v) er) S:=by
 unfold BG
 cases m with
 |bad=>trivial
 |ok v =>
  obtain⟨er,e,h⟩:=h
  cases hr:qad Γ ss ρ<;>rw[hr] at e<;>cases e
  exact⟨_,rfl,h⟩
 |exc c fs =>
  have h:(qad Γ ss ρ).rt=_:=h
  cases hr:qad Γ ss ρ<;>rw[hr] at h<;>cases h
  rfl
theorem BG.ifR {c:Te} {mt:RE Bool} {m1:RE β} {m2:RE (Fl β σ)} {en2:β→D} (h:XT Γ c ρ mt) (ha:BR Γ sa ρ m1 en2 s t) (hb:BG Γ ss ρ m2 (fun v er=>Is s t (en2 v) er) S):BG Γ (.cons (.iff c sa .nil) ss) ρ (mt.bind fun k=>if k=true then m1.bind fun b=>.ok (.rt b) else m2) (fun v er=>Is s t (en2 v) er) S:=by
 unfold BG
 rw[qad,Cm.run]
 cases mt with
 |bad=>trivial
 |exc c fs=>have h:evT Γ _ ρ=_:=h;rw[h];rfl
 |ok v =>
  obtain⟨x,e,rfl⟩:=h
  rw[e]
  simp only[RE.out_ok,RE.bind_ok]
  cases x with
  |false=>simp only[Bool.false_eq_true,if_false,qad];exact hb
  |true =>
   simp only[if_true]
   cases m1 with
   |bad=>trivial
   |ok v =>
    obtain⟨er,e,h⟩:=ha
    cases hr:qad Γ sa ρ<;>rw[hr] at e<;>cases e
    exact⟨_,rfl,h⟩
   |exc c fs =>
    have h:(qad Γ sa ρ).rt=_:=ha
    cases hr:qad Γ sa ρ<;>rw[hr] at h<;>cases h
    rfl
theorem qbK {k c:Nat} (h:Γ.xk[k]? = some c):qad Γ (.cons (.rse k) ss) ρ=.exc c []:=by rw[qad,Cm.run,h];rfl
theorem BN.rse {k c:Nat} (h:Γ.xk[k]? = some c):BN Γ (.cons (.rse k) ss) ρ (.exc c []) S:=by unfold BN;rw[qbK h];rfl
theorem BL.rse {k c:Nat} (h:Γ.xk[k]? = some c):BL Γ (.cons (.rse k) ss) ρ (.exc c []) S:=by unfold BL;rw[qbK h];rfl
theorem BF.rse {k c:Nat} (h:Γ.xk[k]? = some c):BF Γ (.cons (.rse k) ss) ρ (.exc c []) R S:=by unfold BF;rw[qbK h];rfl
theorem BX.rse {k c:Nat} (h:Γ.xk[k]? = some c):BX Γ (.cons (.rse k) ss) ρ (.exc c []) R S:=by unfold BX;rw[qbK h];rfl
theorem BG.rse {k c:Nat} (h:Γ.xk[k]? = some c):BG Γ (.cons (.rse k) ss) ρ (.exc c []) R S:=by unfold BG;rw[qbK h];rfl
theorem qjo {c:Te} {v:Bool} (h:evT Γ c ρ=.ok v):qad Γ (.cons (.iff c sa .nil) ss) ρ=(if v=true then qad Γ sa ρ else .nx ρ).seq fun ρ'=>qad Γ ss ρ':=by
 rw[qad,Cm.run,h]
 cases v<;>simp only[RE.out_ok,qad,if_true,if_false,Bool.false_eq_true]
theorem BN.ifE {c:Te} {k n:Nat} {mt:RE Bool} {m2:RE σ} (ha:sa=.cons (.rse k) .nil) (h:XT Γ c ρ mt) (hk:Γ.xk[k]? = some n) (hb:BN Γ ss ρ m2 S):BN Γ (.cons (.iff c sa .nil) ss) ρ (mt.bind fun k=>if k=true then .exc n [] else m2) S:=by
 subst ha
 unfold BN
 cases mt with
 |bad=>trivial
 |exc c fs=>have h:evT Γ _ ρ=_:=h;rw[qad,Cm.run,h];rfl
 |ok v =>
  obtain⟨x,e,rfl⟩:=h
  rw[qjo e]
  cases x with
  |false=>exact hb
  |true=>simp only[if_true,qbK hk];rfl
theorem BL.ifE {c:Te} {k n:Nat} {mt:RE Bool} {m2:RE σ} (ha:sa=.cons (.rse k) .nil) (h:XT Γ c ρ mt) (hk:Γ.xk[k]? = some n) (hb:BL Γ ss ρ m2 S):BL Γ (.cons (.iff c sa .nil) ss) ρ (mt.bind fun k=>if k=true then .exc n [] else m2) S:=by
 subst ha
 unfold BL
 cases mt with
 |bad=>trivial
 |exc c fs=>have h:evT Γ _ ρ=_:=h;rw[qad,Cm.run,h];rfl
 |ok v =>
  obtain⟨x,e,rfl⟩:=h
  rw[qjo e]
  cases x with
  |false=>exact hb
  |true=>simp only[if_true,qbK hk];rfl
theorem SN.asg {i:Nat} {m:RE α} (ρ₂:Sl→List Sl) (h:XE Γ e ρ m en s t) (hs:s.nb=true) (hset:∀q,ρ.set i q=ρ₂ q):SN Γ (.asg i e) ρ m fun v ρ'=>∃q,ρ'=ρ₂ q∧SlV t (en v) q:=by
 unfold SN
 rw[Cm.run]
 cases m with
 |bad=>trivial
 |ok v =>
  obtain⟨er,e,h⟩:=h
  rw[e]
  have h1:=h.s
  have h2:=h.d
  have h3:=h.t
  cases er with
  |val d b=>simp only[RE.out_ok,held];exact⟨_,rfl,_,hset _,b,by rw[←h2];rfl,h3⟩
  |fre d b=>simp only[RE.out_ok,held];exact⟨_,rfl,_,hset _,b,by rw[←h2];rfl,h3⟩
  |brw d b=>cases s<;>simp_all[qes,ER.isF,Sh.nb]
 |exc c fs=>have h:ev Γ _ ρ=_:=h;rw[h];rfl
theorem BR.optF {β:Type} {ss:Sms} {en2:β→D} {t2:Bool} {m:RE β} (h:BR Γ ss ρ m en2 .f t2):BR Γ ss ρ m en2 .o t2:=XR.mono h fun _ _ k=>k.optF
theorem BR.optV {β:Type} {ss:Sms} {en2:β→D} {t2:Bool} (h:BR Γ ss ρ (.ok none) (eO en2) .v t2):BR Γ ss ρ (.ok none) (eO en2) .o t2:=by
 obtain⟨er,e1,e2⟩:=h
 exact⟨er,e1,e2.optV⟩
theorem SN.own {i:Nat} {m:RE (List α)} (ρ₂:Sl→List Sl) (h:XE Γ e ρ m (eL en) .f t) (hset:∀q,ρ.set i q=ρ₂ q):SN Γ (.own i e) ρ m fun v ρ'=>∃q,ρ'=ρ₂ q∧SlO t (v.map en) q:=by
 unfold SN
 rw[Cm.run]
 cases m with
 |bad=>trivial
 |ok v =>
  obtain⟨er,e,h⟩:=h
  rw[e]
  have h1:=h.s
  have h2:=h.d
  have h3:=h.t
  cases er with
  |val d b=>cases h1
  |fre d b =>
   simp only[RE.out_ok]
   refine⟨_,rfl,_,hset _,b,?_,h3⟩
   cases h2
   rfl
  |brw d b=>cases h1
 |exc c fs=>have h:ev Γ _ ρ=_:=h;rw[h];rfl
theorem SN.expr {m:RE α} (h:XE Γ e ρ m en s t):SN Γ (.expr e) ρ m fun _ ρ'=>ρ'=ρ:=by
 unfold SN
 rw[Cm.run]
 cases m with
 |bad=>trivial
 |ok v=>obtain⟨er,e,h⟩:=h;rw[e];exact⟨_,rfl,rfl⟩
 |exc c fs=>have h:ev Γ _ ρ=_:=h;rw[h];rfl
theorem SN.pas:SN Γ .pas ρ (.ok ()) fun _ ρ'=>ρ'=ρ:=by unfold SN;rw[Cm.run];exact⟨_,rfl,rfl⟩
def qnP (ds es:List D):Bool:=D.flats ds&&(clD ds != clD es)&&qkG (clD es) es
def qeT {γ:Type} (e1:α→D) (e2:γ→D) (p:List α × List γ):RE (List α × List γ):=gd (qnP (p.1.map e1) (p.2.map e2)) (.ok p)
theorem qgP {d:D} {er:ER} (h:Is s t d er) (hs:s.nb=true):∃b,(∀f:D→Bool→Out,held er f=f d b)∧(t=true→b=true):=by
 have h1:=h.s
 have h2:=h.d
 have h3:=h.t
 cases er with
 |val d' b=>cases h2;exact⟨b,fun _=>rfl,h3⟩
 |fre d' b=>cases h2;exact⟨b,fun _=>rfl,h3⟩
 |brw d' b=>cases s<;>simp_all[qes,ER.isF,Sh.nb]
theorem Is.frz {d:D} {er:ER} (h:Is s t d er) (hs:s.nb=true):Is .v t d er.frz:=by
 have h1:=h.s
 have h2:=h.d
 have h3:=h.t
 cases er with
 |val d' b=>exact⟨h2,rfl,h3⟩
 |fre d' b=>exact⟨h2,rfl,h3⟩
 |brw d' b=>cases s<;>simp_all[qes,ER.isF,Sh.nb]
theorem SN.put {i:Nat} {ix:Ex} {m1:RE α} {m2:RE Int} {xs:List α} {q0:Sl} (ρ₂:Sl→List Sl) (h:XE Γ e ρ m1 en s t1) (hs:s.nb=true) (h0:ρ[i]? = some q0) (hq:SlO t2 (xs.map en) q0) (hi:XE Γ ix ρ m2 eI s2 t) (hset:∀q,ρ.set i q=ρ₂ q) :
  SN Γ (.put i ix e) ρ (m1.bind fun x=>m2.bind fun k=>(match L2.ixN xs.length k with
   |some j=>.ok (xs.set j x)
   |none=>.bad)) fun v ρ'=>∃q,ρ'=ρ₂ q∧SlO (t1&&t2) (v.map en) q:=by
 unfold SN
 rw[Cm.run]
 obtain⟨f,rfl,hf⟩:=hq
 cases m1 with
 |bad=>trivial
 |exc c fs=>have h:ev Γ _ ρ=_:=h;rw[h];rfl
 |ok x =>
  obtain⟨er,e1,h1⟩:=h
  rw[e1]
  simp only[RE.out_ok,RE.bind_ok]
  obtain⟨b1,q1,r1⟩:=qgP h1 hs
  rw[q1,qbC,h0]
  simp only
  cases m2 with
  |bad=>trivial
  |exc c fs=>have h:ev Γ _ ρ=_:=hi;rw[h];rfl
  |ok k =>
   obtain⟨er2,e2,h2⟩:=hi
   rw[e2]
   simp only[RE.out_ok,RE.bind_ok,h2.d,List.length_map]
   cases L2.ixN xs.length k with
   |none=>trivial
   |some j =>
    refine⟨_,rfl,_,hset _,_,by rw[List.map_set],fun z=>?_⟩
    rw[Bool.and_eq_true] at z
    rw[r1 z.1,hf z.2];rfl
def qhB (xs:List α) (k:Int) (x:α):RE (List α):=match L2.ixN xs.length k with
 |some j=>.ok (xs.set j x)
 |none=>.bad
def qa5 (xs:List α) (x:α):RE (List α):=gd (leB (xs.length+1)) (.ok (xs++[x]))
theorem SN.app {i:Nat} {m1:RE α} {xs:List α} {q0:Sl} (ρ₂:Sl→List Sl) (h:XE Γ e ρ m1 en s t1) (hs:s.nb=true) (h0:ρ[i]? = some q0) (hq:SlO t2 (xs.map en) q0) (hset:∀q,ρ.set i q=ρ₂ q) :
  SN Γ (.app i e) ρ (m1.bind fun x=>qa5 xs x) fun v ρ'=>∃q,ρ'=ρ₂ q∧SlO (t1&&t2) (v.map en) q:=by
 unfold SN
 rw[Cm.run]
 obtain⟨f,rfl,hf⟩:=hq
 rw[qbC,h0]
 simp only
 cases m1 with
 |bad=>trivial
 |exc c fs=>have h:ev Γ _ ρ=_:=h;rw[h];rfl
 |ok x =>
  obtain⟨er,e1,h1⟩:=h
  rw[e1]
  simp only[RE.out_ok,RE.bind_ok]
  obtain⟨b1,q1,r1⟩:=qgP h1 hs
  rw[q1,List.length_map,qa5]
  cases leB (xs.length+1) with
  |false=>trivial
  |true =>
   refine⟨_,rfl,_,hset _,(b1&&f),by simp,fun z=>?_⟩
   rw[Bool.and_eq_true] at z
   rw[r1 z.1,hf z.2];rfl
def qpA (xs ys:List α):RE (List α):=gd (leB (xs.length+ys.length)) (.ok (xs++ys))
def qpy (xs:List α):RE (α × List α):=match xs.getLast? with
 |some x=>.ok (x,xs.dropLast)
 |none=>.bad
theorem SN.clr {i:Nat} {xs:List α} {q0:Sl} (ρ₂:Sl→List Sl) (h0:ρ[i]? = some q0) (hq:SlO t (xs.map en) q0) (hset:∀q,ρ.set i q=ρ₂ q) :
  SN Γ (.clr i) ρ (.ok ([]:List α)) fun v ρ'=>∃q,ρ'=ρ₂ q∧SlO true (v.map en) q:=by
 unfold SN
 rw[Cm.run]
 obtain⟨f,rfl,hf⟩:=hq
 rw[qbC,h0]
 exact⟨_,rfl,_,hset _,_,rfl,fun _=>rfl⟩
def qpm (xs ys:List α) (k:Int):RE (List α × List α):=match L2.ixN ys.length k with
 |some m=>match ys[m]? with
  |some d=>gd (leB ys.length) (gd (leB (xs.length+1)) (.ok (xs++[d],ys.eraseIdx m)))
  |none=>.bad
 |none=>.bad
def qpc (xs:List α) (k:Int):RE (List α):=match L2.ixN xs.length k with
 |some m=>match xs[m]? with
  |some _=>gd (leB xs.length) (.ok (xs.eraseIdx m))
  |none=>.bad
 |none=>.bad
def qpz (xs:List Int) (k:Int):RE (List Int):=match qok k xs with
 |some m=>.ok (xs.eraseIdx m)
 |none=>.bad
theorem qeo {i:Nat} {ds:List D} {q0:Sl} (ρ₂:Sl→List Sl) (h0:ρ[i]? = some q0) (hq:SlO t ds q0) (hset:∀q,ρ.set i q=ρ₂ q):∃q,qad Γ (.frz i ss) ρ=qad Γ ss (ρ₂ q)∧SlV t (.lst ds) q:=by
 obtain⟨f,rfl,hf⟩:=hq
 refine⟨.val (.lst ds) f,?_,_,rfl,hf⟩
 rw[qad,qbC,h0,←hset]
theorem BR.frz {i:Nat} {xs:List α} {q0:Sl} {m:RE β} {k1:Sh} {k2:Bool} (ρ₂:Sl→List Sl) (h0:ρ[i]? = some q0) (hq:SlO t (xs.map en) q0) (hset:∀q,ρ.set i q=ρ₂ q) (h:∀q,SlV t (eL en xs) q→BR Γ ss (ρ₂ q) m en2 k1 k2):BR Γ (.frz i ss) ρ m en2 k1 k2:=by
 obtain⟨q,e,r⟩:=qeo (Γ:=Γ) (ss:=ss) ρ₂ h0 hq hset
 unfold BR
 rw[e];exact h q r
theorem BN.frz {i:Nat} {xs:List α} {q0:Sl} {m:RE σ} (ρ₂:Sl→List Sl) (h0:ρ[i]? = some q0) (hq:SlO t (xs.map en) q0) (hset:∀q,ρ.set i q=ρ₂ q) (h:∀q,SlV t (eL en xs) q→BN Γ ss (ρ₂ q) m S):BN Γ (.frz i ss) ρ m S:=by
 obtain⟨q,e,r⟩:=qeo (Γ:=Γ) (ss:=ss) ρ₂ h0 hq hset
 unfold BN
 rw[e];exact h q r
theorem BL.frz {i:Nat} {xs:List α} {q0:Sl} {m:RE σ} (ρ₂:Sl→List Sl) (h0:ρ[i]? = some q0) (hq:SlO t (xs.map en) q0) (hset:∀q,ρ.set i q=ρ₂ q) (h:∀q,SlV t (eL en xs) q→BL Γ ss (ρ₂ q) m S):BL Γ (.frz i ss) ρ m S:=by
 obtain⟨q,e,r⟩:=qeo (Γ:=Γ) (ss:=ss) ρ₂ h0 hq hset
 unfold BL
 rw[e];exact h q r
theorem BF.frz {i:Nat} {xs:List α} {q0:Sl} {m:RE (Fl β σ)} (ρ₂:Sl→List Sl) (h0:ρ[i]? = some q0) (hq:SlO t (xs.map en) q0) (hset:∀q,ρ.set i q=ρ₂ q) (h:∀q,SlV t (eL en xs) q→BF Γ ss (ρ₂ q) m R S):BF Γ (.frz i ss) ρ m R S:=by
 obtain⟨q,e,r⟩:=qeo (Γ:=Γ) (ss:=ss) ρ₂ h0 hq hset
 unfold BF
 rw[e];exact h q r
theorem BX.frz {i:Nat} {xs:List α} {q0:Sl} {m:RE (Fl β σ)} (ρ₂:Sl→List Sl) (h0:ρ[i]? = some q0) (hq:SlO t (xs.map en) q0) (hset:∀q,ρ.set i q=ρ₂ q) (h:∀q,SlV t (eL en xs) q→BX Γ ss (ρ₂ q) m R S):BX Γ (.frz i ss) ρ m R S:=by
 obtain⟨q,e,r⟩:=qeo (Γ:=Γ) (ss:=ss) ρ₂ h0 hq hset
 unfold BX
 rw[e];exact h q r
theorem SlV.ent {d:D} {k:Nat} {q:Sl} (h:SlV t d q):SlV t d (Cm.ent k q):=by
 obtain⟨f,e,ht⟩:=h
 rcases qiY e with rfl | ⟨rfl,j,rfl⟩
 ·by_cases hb:(f||d.flat)=true
  ·rw[show Cm.ent k (.val d f)=.val d f from if_pos hb]
   exact⟨f,rfl,ht⟩
  ·rw[show Cm.ent k (.val d f)=.fxd d k from if_neg hb]
   exact⟨false,rfl,fun z=>by rw[ht z] at hb;exact absurd rfl hb⟩
 ·exact⟨false,rfl,ht⟩
theorem SlO.ent {ds:List D} {k:Nat} {q:Sl} (h:SlO t ds q):SlO t ds (Cm.ent k q):=by
 obtain⟨f,rfl,ht⟩:=h
 exact⟨f,rfl,ht⟩
def qpG (_:Nat):Sl:=.non
def qmY (cs:Ch) (i:Nat) (d:D):RE Unit:=match chg cs [(i,d)] ([],0) with
 |some _=>.ok ()
 |none=>.bad
theorem qhj {er er':ER} {k:Bool} {d:D} (h:qby k er=.ok er') (hd:er'.d=d) (hb:er'.b=true):qfT er=some d:=by
 subst hd
 cases k with
 |false =>
  cases er with
  |brw _ _=>cases h
  |val d b=>cases h;exact if_pos hb
  |fre ds b=>cases h;exact if_pos (by rw[show b=true from hb];rfl)
 |true =>
  cases er with
  |brw _ _=>cases h
  |val d b =>
   simp only[qby] at h
   split at h
   ·rename_i z;cases h;exact if_pos z
   ·cases h
  |fre ds b =>
   simp only[qby] at h
   split at h
   ·rename_i z;cases h;exact if_pos z
   ·cases h
theorem BR.hav {i f:Nat} {es:Exs} {rd:Sms} {cs:Ch} {m:RE α} {k1:α→RE (Fl β σ)} {k2:α→σ→RE β} {s1:Sh} (S:α→σ→List Sl→Prop) (h:XE Γ (.call f es) ρ m en s1 true) (hsf:qlh s t en2) (hsv:s=.v) (hi:Nat.blt i ρ.length=true)
  (h1:∀x,BG Γ rd ((qeI 0 ρ).set i (.fxd (en x) i)) (k1 x) (fun v er=>Is s t (en2 v) er) (S x))
  (h2:∀x st ρ',S x st ρ'→(∃d,ρ'[i]? = some (.fxd d i))∧(cs.tgs.all fun l=>Nat.blt l ρ'.length)=true∧BR Γ ss (wipeS (qew (ρ.set i .non) 0 ρ') cs.tgs) (k2 x st) en2 s t) :
  BR Γ (.hav i f es rd cs ss) ρ (m.bind fun x=>Fl.bR (k1 x) fun st=>(qmY cs i (en x)).bind fun _=>k2 x st) en2 s t:=by
 unfold BR
 rw[qad]
 unfold XE at h
 rw[ev] at h
 cases eg:Γ.fn[f]? with
 |none =>
  rw[eg] at h
  cases m with
  |bad=>trivial
  |ok v=>obtain⟨er,e,_⟩:=h;cases e
  |exc c fs=>have h:RE.bad=_:=h;cases h
 |some g =>
  rw[eg] at h
  simp only at h ⊢
  cases m with
  |bad=>trivial
  |exc c fs =>
   have h:_=RE.exc c fs:=h
   cases e1:evs Γ es ρ with
   |bad=>rw[e1] at h;cases h
   |exc c' fs'=>rw[e1] at h;cases h;rfl
   |ok r =>
    rw[e1] at h
    simp only[RE.bind_ok,RE.out_ok] at h ⊢
    cases e2:g.2 (r.map ER.d) with
    |bad=>rw[e2] at h;cases h
    |exc c' fs'=>rw[e2] at h;cases h;rfl
    |ok er =>
     rw[e2] at h
     simp only[RE.bind_ok] at h
     exfalso
     revert h
     cases (!r.all ER.isV)<;>cases er<;>simp only[qby]<;>first | (intro z;cases z) | (split<;>intro z<;>cases z)
  |ok v =>
   obtain⟨er',e,his⟩:=h
   cases e1:evs Γ es ρ with
   |bad=>rw[e1] at e;cases e
   |exc c' fs'=>rw[e1] at e;cases e
   |ok r =>
    rw[e1] at e
    simp only[RE.bind_ok,RE.out_ok] at e ⊢
    cases e2:g.2 (r.map ER.d) with
    |bad=>rw[e2] at e;cases e
    |exc c' fs'=>rw[e2] at e;cases e
    |ok er =>
     rw[e2] at e
     simp only[RE.bind_ok] at e
     simp only[RE.out_ok,qhj e his.d (his.t rfl),hi,qcu,RE.bind_ok]
     have h1:=h1 v
     cases ek:k1 v with
     |bad=>trivial
     |exc c fs =>
      rw[ek] at h1
      have h1:qad Γ rd _=_:=h1
      rw[h1];rfl
     |ok fl =>
      rw[ek] at h1
      cases fl with
      |bk _=>exact h1.elim
      |rt b =>
       obtain⟨er3,e3,h3⟩:=h1
       rw[e3]
       simp only[Out.hv]
       have hn:∃d,qfT er3=some d:=by
        subst hsv
        cases er3 with
        |fre _ _=>cases h3.s
        |brw _ _=>cases h3.s
        |val d b3 =>
         refine⟨d,if_pos ?_⟩
         have hd:d=en2 b:=h3.d
         rcases hsf with z | ⟨_,z⟩ | ⟨z,_⟩
         ·have:b3=true:=h3.t z
          rw[this];rfl
         ·rw[hd,z b];simp
         ·cases z
       obtain⟨d,hn⟩:=hn
       rw[hn]
       exact⟨er3,rfl,h3⟩
      |nx st =>
       obtain⟨ρ',e3,h3⟩:=h1
       obtain⟨⟨d2,q1⟩,q2,q3⟩:=h2 v st ρ' h3
       rw[e3]
       simp only[Out.hv,q1,q2,beq_self_eq_true,Bool.true_and,qcu,Fl.bR,RE.bind_ok,qmY]
       cases ec:chg cs [(i,en v)] ([],0) with
       |none=>trivial
       |some _=>exact q3
theorem BF.hav {i f:Nat} {es:Exs} {rd:Sms} {cs:Ch} {m:RE α} {k1:α→RE (Fl β σ)} {k2:α→σ→RE (Fl β τ)} {s1:Sh} (S:α→σ→List Sl→Prop) (h:XE Γ (.call f es) ρ m en s1 true) (hsf:qlh s t en2) (hsv:s=.v) (hi:Nat.blt i ρ.length=true)
  (h1:∀x,BG Γ rd ((qeI 0 ρ).set i (.fxd (en x) i)) (k1 x) (fun v er=>Is s t (en2 v) er) (S x))
  (h2:∀x st ρ',S x st ρ'→(∃d,ρ'[i]? = some (.fxd d i))∧(cs.tgs.all fun l=>Nat.blt l ρ'.length)=true∧BF Γ ss (wipeS (qew (ρ.set i .non) 0 ρ') cs.tgs) (k2 x st) (fun v er=>Is s t (en2 v) er) S') :
  BF Γ (.hav i f es rd cs ss) ρ (m.bind fun x=>Fl.bF (k1 x) fun st=>(qmY cs i (en x)).bind fun _=>k2 x st) (fun v er=>Is s t (en2 v) er) S':=by
 unfold BF
 rw[qad]
 unfold XE at h
 rw[ev] at h
 cases eg:Γ.fn[f]? with
 |none =>
  rw[eg] at h
  cases m with
  |bad=>trivial
  |ok v=>obtain⟨er,e,_⟩:=h;cases e
  |exc c fs=>have h:RE.bad=_:=h;cases h
 |some g =>
  rw[eg] at h
  simp only at h ⊢
  cases m with
  |bad=>trivial
  |exc c fs =>
   have h:_=RE.exc c fs:=h
   cases e1:evs Γ es ρ with
   |bad=>rw[e1] at h;cases h
   |exc c' fs'=>rw[e1] at h;cases h;rfl
   |ok r =>
    rw[e1] at h
    simp only[RE.bind_ok,RE.out_ok] at h ⊢
    cases e2:g.2 (r.map ER.d) with
    |bad=>rw[e2] at h;cases h
    |exc c' fs'=>rw[e2] at h;cases h;rfl
    |ok er =>
     rw[e2] at h
     simp only[RE.bind_ok] at h
     exfalso
     revert h
     cases (!r.all ER.isV)<;>cases er<;>simp only[qby]<;>first | (intro z;cases z) | (split<;>intro z<;>cases z)
  |ok v =>
   obtain⟨er',e,his⟩:=h
   cases e1:evs Γ es ρ with
   |bad=>rw[e1] at e;cases e
   |exc c' fs'=>rw[e1] at e;cases e
   |ok r =>
    rw[e1] at e
    simp only[RE.bind_ok,RE.out_ok] at e ⊢
    cases e2:g.2 (r.map ER.d) with
    |bad=>rw[e2] at e;cases e
    |exc c' fs'=>rw[e2] at e;cases e
    |ok er =>
     rw[e2] at e
     simp only[RE.bind_ok] at e
     simp only[RE.out_ok,qhj e his.d (his.t rfl),hi,qcu,RE.bind_ok]
     have h1:=h1 v
     cases ek:k1 v with
     |bad=>trivial
     |exc c fs =>
      rw[ek] at h1
      have h1:qad Γ rd _=_:=h1
      rw[h1];rfl
     |ok fl =>
      rw[ek] at h1
      cases fl with
      |bk _=>exact h1.elim
      |rt b =>
       obtain⟨er3,e3,h3⟩:=h1
       rw[e3]
       simp only[Out.hv]
       have hn:∃d,qfT er3=some d:=by
        subst hsv
        cases er3 with
        |fre _ _=>cases h3.s
        |brw _ _=>cases h3.s
        |val d b3 =>
         refine⟨d,if_pos ?_⟩
         have hd:d=en2 b:=h3.d
         rcases hsf with z | ⟨_,z⟩ | ⟨z,_⟩
         ·have:b3=true:=h3.t z
          rw[this];rfl
         ·rw[hd,z b];simp
         ·cases z
       obtain⟨d,hn⟩:=hn
       rw[hn]
       exact⟨er3,rfl,h3⟩
      |nx st =>
       obtain⟨ρ',e3,h3⟩:=h1
       obtain⟨⟨d2,q1⟩,q2,q3⟩:=h2 v st ρ' h3
       rw[e3]
       simp only[Out.hv,q1,q2,beq_self_eq_true,Bool.true_and,qcu,Fl.bF,RE.bind_ok,qmY]
       cases ec:chg cs [(i,en v)] ([],0) with
       |none=>trivial
       |some _=>exact q3
end
end Cm
namespace Cm
def qac {α σ:Type} (f:α→σ→RE σ):List α→σ→RE σ
 |[],s=>.ok s
 |x::xs,s=>(f x s).bind (qac f xs)
def qam {α β σ:Type} (f:α→σ→RE (Fl β σ)):List α→σ→RE (Fl β σ)
 |[],s=>.ok (.nx s)
 |x::xs,s=>(f x s).bind fun r=>match r with
  |.nx s'=>qam f xs s'
  |.rt b=>.ok (.rt b)
  |.bk s'=>.ok (.nx s')
def qmz {σ:Type} (c:σ→RE Bool) (f:σ→RE σ):Nat→σ→RE σ
 |0,_=>.bad
 |n+1,s=>(c s).bind fun k=>if k=true then (f s).bind (qmz c f n) else .ok s
section
variable {Γ:Env} {ρ:List Sl} {α β γ σ:Type} {en:α→D} {en2:β→D} {en3:γ→D} {it:Itx} {i j:Nat} {b:Sms} {m:RE (List α)} {t t0 t0' t1:Bool} {s:Sh} {R:γ→ER→Prop} {S:σ→List Sl→Prop}
theorem qgp {F:D→List Sl→Out} {f:α→σ→RE σ} (h:∀x st ρ',S st ρ'→XL (F (en x) ρ') (f x st) S):∀{xs:List α} {st:σ} {ρ':List Sl},S st ρ'→XN (qb2 F (xs.map en) ρ') (qac f xs st) S
 |[],st,ρ',hs=>⟨ρ',rfl,hs⟩
 |x::xs,st,ρ',hs=>by
  have h0:=h x st ρ' hs
  simp only[List.map_cons,qac]
  unfold qb2
  cases e:f x st with
  |bad=>trivial
  |exc c fs=>rw[e] at h0;have h0:F (en x) ρ'=_:=h0;rw[h0];rfl
  |ok st' =>
   rw[e] at h0
   obtain⟨ρ2,e2,h2⟩:=h0
   rcases e2 with e2 | e2<;>rw[e2]<;>exact qgp h h2
theorem qfh {F:D→List Sl→Out} {f:α→σ→RE (Fl γ σ)} (h:∀x st ρ',S st ρ'→XF (F (en x) ρ') (f x st) R S):∀{xs:List α} {st:σ} {ρ':List Sl},S st ρ'→(match qam f xs st with
  |.bad=>True
  |.ok (.nx v)=>∃ρ2,qb2 F (xs.map en) ρ'=.nx ρ2∧S v ρ2
  |.ok (.rt b)=>∃er,qb2 F (xs.map en) ρ'=.ret er∧R b er
  |.ok (.bk v)=>False
  |.exc c fs=>qb2 F (xs.map en) ρ'=.exc c fs)
 |[],st,ρ',hs=>⟨ρ',rfl,hs⟩
 |x::xs,st,ρ',hs=>by
  have h0:=h x st ρ' hs
  simp only[List.map_cons,qam]
  unfold qb2
  cases e:f x st with
  |bad=>trivial
  |exc c fs=>rw[e] at h0;have h0:F (en x) ρ'=_:=h0;rw[h0];rfl
  |ok r =>
   rw[e] at h0
   simp only[RE.bind_ok]
   cases r with
   |nx st' =>
    obtain⟨ρ2,e2,h2⟩:=h0
    rcases e2 with e2 | e2<;>rw[e2]<;>exact qfh h h2
   |rt b=>obtain⟨er,e2,h2⟩:=h0;rw[e2];exact⟨_,rfl,h2⟩
   |bk st'=>obtain⟨ρ2,e2,h2⟩:=h0;rw[e2];exact⟨_,rfl,h2⟩
theorem SN.forG {tg:List Nat} {f:α→σ→RE σ} {s0:σ} (hi:XI Γ it ρ m en t1 false) (h0:S s0 ρ) (hb:∀x st ρ' b',(t1=true→b'=true)→S st ρ'→XL (onB (qbZ tg (en x) b' ρ') fun ρ'=>qad Γ b ρ') (f x st) S) :
  SN Γ (.for it tg b) ρ (m.bind fun xs=>qac f xs s0) S:=by
 unfold SN
 rw[Cm.run]
 cases m with
 |bad=>trivial
 |exc c fs=>have h:evI Γ it ρ=_:=hi;rw[h];rfl
 |ok xs =>
  obtain⟨w,e,w1,w2,w3⟩:=hi
  rw[e]
  simp only[RE.out_ok,w3 rfl,Bool.false_eq_true,if_false,RE.bind_ok,w1]
  exact qgp (fun x st ρ' hs=>hb x st ρ' w.b w2 hs) h0
theorem SF.forG {tg:List Nat} {f:α→σ→RE (Fl γ σ)} {s0:σ} (hi:XI Γ it ρ m en t1 false) (h0:S s0 ρ) (hb:∀x st ρ' b',(t1=true→b'=true)→S st ρ'→XF (onB (qbZ tg (en x) b' ρ') fun ρ'=>qad Γ b ρ') (f x st) R S) :
  SF Γ (.for it tg b) ρ (m.bind fun xs=>qam f xs s0) R S:=by
 unfold SF
 rw[Cm.run]
 cases m with
 |bad=>trivial
 |exc c fs=>have h:evI Γ it ρ=_:=hi;rw[h];rfl
 |ok xs =>
  obtain⟨w,e,w1,w2,w3⟩:=hi
  rw[e]
  simp only[RE.out_ok,w3 rfl,Bool.false_eq_true,if_false,RE.bind_ok,w1]
  exact qfh (fun x st ρ' hs=>hb x st ρ' w.b w2 hs) h0
theorem qiT {b':Bool} (ht:t0=true→t1=true∨Flat en) (h:t1=true→b'=true) (x:α):SlV t0 (en x) (.val (en x) (b'||(en x).flat)):=⟨_,rfl,fun z=>by
 rcases ht z with q | q
 ·simp[h q]
 ·rw[q.flat];simp⟩
theorem SN.for1 {f:α→σ→RE σ} {s0:σ} (S:σ→List Sl→Prop) (hi:XI Γ it ρ m en t1 false) (ht:t0=true→t1=true∨Flat en) (h0:S s0 ρ) (hb:∀x st ρ' q,S st ρ'→SlV t0 (en x) q→BL Γ b (ρ'.set i q) (f x st) S) :
  SN Γ (.for it [i] b) ρ (m.bind fun xs=>qac f xs s0) S:=
 SN.forG hi h0 fun x st ρ' b' h1 hs=>hb x st ρ' _ hs (qiT ht h1 x)
theorem SF.for1 {f:α→σ→RE (Fl γ σ)} {s0:σ} (S:σ→List Sl→Prop) (hi:XI Γ it ρ m en t1 false) (ht:t0=true→t1=true∨Flat en) (h0:S s0 ρ) (hb:∀x st ρ' q,S st ρ'→SlV t0 (en x) q→BF Γ b (ρ'.set i q) (f x st) R S) :
  SF Γ (.for it [i] b) ρ (m.bind fun xs=>qam f xs s0) R S:=
 SF.forG hi h0 fun x st ρ' b' h1 hs=>hb x st ρ' _ hs (qiT ht h1 x)
theorem qi5 {c:Te} {cc:σ→RE Bool} {f:σ→RE σ} (hc:∀st ρ',S st ρ'→XT Γ c ρ' (cc st)) (hb:∀st ρ',S st ρ'→BL Γ b ρ' (f st) S):∀{n:Nat} {st:σ} {ρ':List Sl},S st ρ'→XN (qck (fun ρ=>evT Γ c ρ) (fun ρ=>qad Γ b ρ) n ρ') (qmz cc f n st) S
 |0,st,ρ',hs=>trivial
 |n+1,st,ρ',hs=>by
  have h0:=hc st ρ' hs
  have h1:=hb st ρ' hs
  unfold qmz qck
  cases e:cc st with
  |bad=>trivial
  |exc c fs=>rw[e] at h0;have h0:evT Γ _ ρ'=_:=h0;simp only[h0];rfl
  |ok k =>
   rw[e] at h0
   obtain⟨k',e0,rfl⟩:=h0
   simp only[e0,RE.bind_ok,RE.out_ok]
   cases k' with
   |false=>exact⟨ρ',rfl,hs⟩
   |true =>
    simp only[if_true]
    cases e1:f st with
    |bad=>trivial
    |exc c fs=>rw[e1] at h1;have h1:qad Γ b ρ'=_:=h1;simp only[h1];rfl
    |ok st' =>
     rw[e1] at h1
     obtain⟨ρ2,e2,h2⟩:=h1
     rcases e2 with e2 | e2<;>simp only[e2]<;>exact qi5 hc hb h2
theorem SN.whl {c:Te} {cc:σ→RE Bool} {f:σ→RE σ} {s0:σ} (S:σ→List Sl→Prop) (h0:S s0 ρ) (hc:∀st ρ',S st ρ'→XT Γ c ρ' (cc st)) (hb:∀st ρ',S st ρ'→BL Γ b ρ' (f st) S):SN Γ (.whl c b) ρ (qmz cc f qmu s0) S:=by
 unfold SN
 rw[Cm.run]
 exact qi5 hc hb h0
def qmP {σ γ:Type} (c:σ→RE Bool) (f:σ→RE (Fl γ σ)):Nat→σ→RE (Fl γ σ)
 |0,_=>.bad
 |n+1,s=>(c s).bind fun k=>if k=true then (f s).bind (fun r=>match r with
  |.nx s'=>qmP c f n s'
  |.rt b=>.ok (.rt b)
  |.bk s'=>.ok (.nx s')) else .ok (.nx s)
theorem qgV {c:Te} {cc:σ→RE Bool} {f:σ→RE (Fl γ σ)} (hc:∀st ρ',S st ρ'→XT Γ c ρ' (cc st)) (hb:∀st ρ',S st ρ'→BF Γ b ρ' (f st) R S):∀{n:Nat} {st:σ} {ρ':List Sl},S st ρ'→XG (qck (fun ρ=>evT Γ c ρ) (fun ρ=>qad Γ b ρ) n ρ') (qmP cc f n st) R S
 |0,st,ρ',hs=>trivial
 |n+1,st,ρ',hs=>by
  have h0:=hc st ρ' hs
  have h1:=hb st ρ' hs
  unfold qmP qck
  cases e:cc st with
  |bad=>trivial
  |exc c fs=>rw[e] at h0;have h0:evT Γ _ ρ'=_:=h0;simp only[h0];rfl
  |ok k =>
   rw[e] at h0
   obtain⟨k',e0,rfl⟩:=h0
   simp only[e0,RE.bind_ok,RE.out_ok]
   cases k' with
   |false=>exact⟨ρ',rfl,hs⟩
   |true =>
    simp only[if_true]
    cases e1:f st with
    |bad=>trivial
    |exc c fs=>rw[e1] at h1;have h1:qad Γ b ρ'=_:=h1;simp only[h1];rfl
    |ok r =>
     rw[e1] at h1
     simp only[RE.bind_ok]
     cases r with
     |nx st' =>
      obtain⟨ρ2,e2,h2⟩:=h1
      rcases e2 with e2 | e2<;>simp only[e2]<;>exact qgV hc hb h2
     |rt z=>obtain⟨er,e2,h2⟩:=h1;simp only[e2];exact⟨_,rfl,h2⟩
     |bk st'=>obtain⟨ρ2,e2,h2⟩:=h1;simp only[e2];exact⟨_,rfl,h2⟩
theorem SF.whl {c:Te} {cc:σ→RE Bool} {f:σ→RE (Fl γ σ)} {s0:σ} (S:σ→List Sl→Prop) (h0:S s0 ρ) (hc:∀st ρ',S st ρ'→XT Γ c ρ' (cc st)) (hb:∀st ρ',S st ρ'→BF Γ b ρ' (f st) R S):SF Γ (.whl c b) ρ (qmP cc f qmu s0) R S:=by
 unfold SF
 rw[Cm.run]
 exact qgV hc hb h0
end
abbrev XS {α:Type} (Γ:Env) (es:Exs) (ρ:List Sl) (m:RE α) (enl:α→List D) (nb t:Bool):Prop:=XR (evs Γ es ρ) m fun v ers=>ers.map ER.d=enl v∧ers.all ER.isV=nb∧(t=true→ers.all ER.b=true)
section
variable {Γ:Env} {ρ:List Sl} {α β γ σ:Type} {en:α→D} {en2:β→D} {a b:Ex} {es:Exs} {s s1:Sh} {t t1 t2 nb:Bool} {m1:RE α} {m2:RE β} {enl:β→List D} {x:α} {y:β} {k:Nat} {nm:PySem.Str} {g:List D→RE ER}
theorem XS.nil:XS Γ .nil ρ (.ok ()) (fun _=>[]) true true:=by unfold XS;rw[evs];exact⟨_,rfl,rfl,rfl,fun _=>rfl⟩
theorem XS.cons (h:XE Γ a ρ m1 en s t1) (hs:XS Γ es ρ m2 enl nb t2):XS Γ (.cons a es) ρ (m1.bind fun v=>m2.bind fun w=>.ok (v,w)) (fun p=>en p.1::enl p.2) (s.nb&&nb) (t1&&t2):=by
 unfold XS
 rw[evs]
 exact XR.bind h fun v er h1=>XR.bind hs fun w ers h2=>by
  refine⟨_,rfl,?_,?_,fun z=>?_⟩
  ·simp only[List.map_cons,qcd,h1.d,h2.1]
  ·simp only[List.all_cons,h2.2.1]
   have:=h1.s
   cases s<;>cases er<;>simp_all[qes,ER.isF,Sh.nb]
  ·rw[Bool.and_eq_true] at z
   simp only[List.all_cons,Bool.and_eq_true,qf4]
   exact⟨h1.t z.1,h2.2.2 z.2⟩
theorem XS.consP (h:XE Γ a ρ (.ok x) en s t1) (hs:XS Γ es ρ (.ok y) enl nb t2):XS Γ (.cons a es) ρ (.ok (x,y)) (fun p=>en p.1::enl p.2) (s.nb&&nb) (t1&&t2):=XS.cons h hs
theorem qip {d:D} {er:ER} (h:Is s t d er) (hs:s.nb=true):∃er',qby false er=.ok er'∧Is s t d er':=by
 have h1:=h.s
 have h2:=h.d
 have h3:=h.t
 cases er with
 |val d' b=>exact⟨_,rfl,h2,by cases s<;>simp_all[qes,ER.isF,Sh.nb],fun z=>by have:=h3 z;show(_||_)=true;simp only[ER.b_val] at this;rw[this];rfl⟩
 |fre d' b=>exact⟨_,rfl,h⟩
 |brw d' b=>cases s<;>simp_all[qes,ER.isF,Sh.nb]
theorem qhm {v:α} {er:ER} (h:Is s t (en v) er) (hs:qlh s t en) (hn:s.nb=true):∃er',qby true er=.ok er'∧Is s true (en v) er':=by
 have h1:=h.s
 have h2:=h.d
 have h3:=h.t
 cases er with
 |val d' b =>
  have h2:d'=en v:=h2
  subst h2
  have:(b||(en v).flat)=true:=by
   rcases hs with q | q | q
   ·have:b=true:=h3 q
    rw[this];rfl
   ·rw[q.2];simp
   ·rw[q.1] at h1;cases h1
  simp only[qby,this,if_true]
  exact⟨_,rfl,rfl,by cases s<;>simp_all[qes,ER.isF,Sh.nb],fun z=>rfl⟩
 |fre d' b =>
  have h2:D.lst d'=en v:=h2
  have:(b||D.flats d')=true:=by
   rcases hs with q | q | q
   ·have:b=true:=h3 q
    rw[this];rfl
   ·rw[q.1] at h1;cases h1
   ·rw[q.2 v d' h2.symm];simp
  simp only[qby,this,if_true]
  exact⟨_,rfl,h2,by cases s<;>simp_all[qes,ER.isF,Sh.nb],fun z=>rfl⟩
 |brw d' b=>cases s<;>simp_all[qes,ER.isF,Sh.nb]
theorem qhs {r:List ER} {e:RE ER} {m:RE α} (h:XR e m fun v er=>Is s t (en v) er) (hr:r.all ER.isV=true) (hn:s.nb=true):XR (e.bind (qby (!r.all ER.isV))) m fun v er=>Is s t (en v) er:=by
 rw[hr]
 cases m with
 |bad=>trivial
 |exc c fs=>have h:e=_:=h;rw[h];rfl
 |ok v=>obtain⟨er,e1,h1⟩:=h;rw[e1];exact qip h1 hn
theorem qfE {r:List ER} {e:RE ER} {m:RE α} (h:XR e m fun v er=>Is s t (en v) er) (hs:qlh s t en) (hr:r.all ER.isV=false) (hn:s.nb=true):XR (e.bind (qby (!r.all ER.isV))) m fun v er=>Is s true (en v) er:=by
 rw[hr]
 cases m with
 |bad=>trivial
 |exc c fs=>have h:e=_:=h;rw[h];rfl
 |ok v=>obtain⟨er,e1,h1⟩:=h;rw[e1];exact qhm h1 hs hn
theorem XE.callS {F:β→RE α} (hg:Γ.fn[k]? = some (nm,g)) (ha:XS Γ es ρ m2 enl nb t2) (hr:∀w,XR (g (enl w)) (F w) fun v er=>Is s t (en v) er) (hs:nb=true) (hn:s.nb=true):XE Γ (.call k es) ρ (m2.bind F) en s t:=by
 unfold XE;rw[ev,hg]
 exact XR.bind ha fun w ers h=>by
  show XR ((g (ers.map ER.d)).bind _) _ _
  rw[h.1];exact qhs (hr w) (h.2.1.trans hs) hn
theorem XE.callSb {F:β→RE α} (hg:Γ.fn[k]? = some (nm,g)) (ha:XS Γ es ρ m2 enl nb t2) (hr:∀w,XR (g (enl w)) (F w) fun v er=>Is s t (en v) er) (hs:nb=false) (hn:s.nb=true) (hf:qlh s t en):XE Γ (.call k es) ρ (m2.bind F) en s true:=by
 unfold XE;rw[ev,hg]
 exact XR.bind ha fun w ers h=>by
  show XR ((g (ers.map ER.d)).bind _) _ _
  rw[h.1];exact qfE (hr w) hf (h.2.1.trans hs) hn
theorem XE.callSP {m:RE α} (hg:Γ.fn[k]? = some (nm,g)) (ha:XS Γ es ρ (.ok y) enl nb t2) (hr:XR (g (enl y)) m fun v er=>Is s t (en v) er) (hs:nb=true) (hn:s.nb=true):XE Γ (.call k es) ρ m en s t:=by
 obtain⟨ers,e,h⟩:=ha
 unfold XE;rw[ev,hg,e]
 show XR ((g (ers.map ER.d)).bind _) _ _
 rw[h.1];exact qhs hr (h.2.1.trans hs) hn
theorem XE.callSPb {m:RE α} (hg:Γ.fn[k]? = some (nm,g)) (ha:XS Γ es ρ (.ok y) enl nb t2) (hr:XR (g (enl y)) m fun v er=>Is s t (en v) er) (hs:nb=false) (hn:s.nb=true) (hf:qlh s t en):XE Γ (.call k es) ρ m en s true:=by
 obtain⟨ers,e,h⟩:=ha
 unfold XE;rw[ev,hg,e]
 show XR ((g (ers.map ER.d)).bind _) _ _
 rw[h.1];exact qfE hr hf (h.2.1.trans hs) hn
end
section
variable {Γ:Env} {ρ:List Sl} {α β γ σ τ:Type} {en:α→D} {en2:β→D} {e:τ→D} {a b:Ex} {es:Exs} {s s1 s0:Sh} {t t1 t2 t0 nb:Bool} {m0:RE τ} {m1:RE α} {m2:RE β} {enl:β→List D} {x:τ} {y:β} {k:Nat} {cl:τ→Nat} {fs:τ→List D}
theorem XE.tupS {F:β→α} (ha:XS Γ es ρ m2 enl nb t) (hf:∀w,en (F w)=.tup (enl w)) (hs:nb=true):XE Γ (.tup es) ρ (m2.bind fun w=>.ok (F w)) en .v t:=by
 unfold XE;rw[ev]
 exact XR.bind ha fun w ers h=>by
  show XR (if ers.all ER.isV=true then _ else _) _ _
  rw[if_pos (h.2.1.trans hs)]
  exact qnN (by rw[hf,h.1]) h.2.2
theorem XE.lstS {F:β→List α} (ha:XS Γ es ρ m2 enl nb t) (hf:∀w,(F w).map en=enl w) (hs:nb=true):XE Γ (.lst es) ρ (m2.bind fun w=>.ok (F w)) (eL en) .f t:=by
 unfold XE;rw[ev]
 exact XR.bind ha fun w ers h=>by
  show XR (if ers.all ER.isV=true then _ else _) _ _
  rw[if_pos (h.2.1.trans hs)]
  exact qlY (by rw[eL,hf,h.1]) h.2.2
abbrev XLs (Γ:Env) (es:Exs) (ρ:List Sl) (xs:List α) (en:α→D) (t:Bool):Prop:=XS Γ es ρ (.ok xs) (fun xs=>xs.map en) true t
theorem XLs.nil:XLs Γ .nil ρ [] en true:=by unfold XLs;unfold XS;rw[evs];exact⟨_,rfl,rfl,rfl,fun _=>rfl⟩
theorem XLs.cons {x:α} {xs:List α} (h:XE Γ a ρ (.ok x) en s t1) (hn:s.nb=true) (hs:XLs Γ es ρ xs en t2):XLs Γ (.cons a es) ρ (x::xs) en (t1&&t2):=by
 have:=XS.consP h hs
 obtain⟨ers,e1,h1,h2,h3⟩:=this
 exact⟨ers,e1,h1,by rw[h2,hn];rfl,h3⟩
theorem XE.lstL {xs:List α} (ha:XLs Γ es ρ xs en t):XE Γ (.lst es) ρ (.ok xs) (eL en) .f t:=XE.lstS (F:=fun xs=>xs) ha (fun _=>rfl) rfl
theorem Rf.run {n m:Nat} {b:Sms} {as:List D} {mm:RE α} (hn:as.length=n) (h:BR Γ b (as.map (fun d=>Sl.val d d.flat)++List.replicate m .non) mm en s t):XR (qeR Γ n m b as) mm fun v er=>Is s t (en v) er:=by
 unfold qeR
 rw[if_pos hn]
 cases mm with
 |bad=>trivial
 |ok v =>
  obtain⟨er,e,h⟩:=h
  cases hr:qad Γ b (as.map (fun d=>Sl.val d d.flat)++List.replicate m .non)<;>rw[hr] at e<;>cases e
  exact⟨_,rfl,h⟩
 |exc c fs =>
  have h:(qad Γ b (as.map (fun d=>Sl.val d d.flat)++List.replicate m .non)).rt=_:=h
  cases hr:qad Γ b (as.map (fun d=>Sl.val d d.flat)++List.replicate m .non)<;>rw[hr] at h<;>cases h
  rfl
theorem Rf.weak {r:RE ER} {m:RE α} (h:Rf r m en s t) (hs:s.nb=true):Rf r m en .n t:=XR.mono h fun _ _ k=>k.weak hs
theorem Rf.low {r:RE ER} {m:RE α} (h:Rf r m en s t):Rf r m en s false:=XR.mono h fun _ _ k=>k.low
theorem Rf.mono {r:RE ER} {m:RE α} (h:Rf r m en s t) (hs:s.nb=true):Rf r m en .n false:=XR.mono h fun _ _ k=>(k.weak hs).low
end
end Cm
namespace Cm
section
variable {Γ:Env} {ρ:List Sl} {α:Type} {en:α→D} {s:Sh} {t:Bool}
theorem XE.call1P {k:Nat} {nm:PySem.Str} {g:List D→RE ER} {τ0:Type} {e0:τ0→D} {a0:Ex} {s0:Sh} {t0:Bool} {x0:τ0} {m:RE α} (hg:Γ.fn[k]? = some (nm,g)) (h0:XE Γ a0 ρ (.ok x0) e0 s0 t0) (hr:XR (g [e0 x0]) m fun v er=>Is s t (en v) er) (hs:(s0.nb&&true)=true) (hn:s.nb=true):XE Γ (.call k (.cons a0 .nil)) ρ m en s t:=XE.callSP hg (XS.consP h0 XS.nil) hr hs hn
theorem XE.tup1 {τ0:Type} {e0:τ0→D} {a0:Ex} {s0:Sh} {t0:Bool} {m0:RE τ0} (h0:XE Γ a0 ρ m0 e0 s0 t0) (hs:(s0.nb&&true)=true):XE Γ (.tup (.cons a0 .nil)) ρ (m0.bind fun x0=>.ok x0) (eT1 e0) .v (t0&&true):=
 (XE.tupS (F:=fun w=>w.1) (en:=eT1 e0) (XS.cons h0 XS.nil) (fun w=>rfl) hs).cast (by simp only[RE.bind_assoc,RE.bind_ok])
theorem XE.tup1P {τ0:Type} {e0:τ0→D} {a0:Ex} {s0:Sh} {t0:Bool} {x0:τ0} (h0:XE Γ a0 ρ (.ok x0) e0 s0 t0) (hs:(s0.nb&&true)=true):XE Γ (.tup (.cons a0 .nil)) ρ (.ok x0) (eT1 e0) .v (t0&&true):=XE.tup1 h0 hs
theorem XE.call2P {k:Nat} {nm:PySem.Str} {g:List D→RE ER} {τ0:Type} {e0:τ0→D} {a0:Ex} {s0:Sh} {t0:Bool} {τ1:Type} {e1:τ1→D} {a1:Ex} {s1:Sh} {t1:Bool} {x0:τ0} {x1:τ1} {m:RE α} (hg:Γ.fn[k]? = some (nm,g)) (h0:XE Γ a0 ρ (.ok x0) e0 s0 t0) (h1:XE Γ a1 ρ (.ok x1) e1 s1 t1) (hr:XR (g [e0 x0,e1 x1]) m fun v er=>Is s t (en v) er) (hs:(s0.nb&&(s1.nb&&true))=true) (hn:s.nb=true):XE Γ (.call k (.cons a0 (.cons a1 .nil))) ρ m en s t:=XE.callSP hg (XS.consP h0 (XS.consP h1 XS.nil)) hr hs hn
theorem XE.tup2 {τ0:Type} {e0:τ0→D} {a0:Ex} {s0:Sh} {t0:Bool} {τ1:Type} {e1:τ1→D} {a1:Ex} {s1:Sh} {t1:Bool} {m0:RE τ0} {m1:RE τ1} (h0:XE Γ a0 ρ m0 e0 s0 t0) (h1:XE Γ a1 ρ m1 e1 s1 t1) (hs:(s0.nb&&(s1.nb&&true))=true):XE Γ (.tup (.cons a0 (.cons a1 .nil))) ρ (m0.bind fun x0=>m1.bind fun x1=>.ok (x0,x1)) (eT2 e0 e1) .v (t0&&(t1&&true)):=
 (XE.tupS (F:=fun w=>(w.1,w.2.1)) (en:=eT2 e0 e1) (XS.cons h0 (XS.cons h1 XS.nil)) (fun w=>rfl) hs).cast (by simp only[RE.bind_assoc,RE.bind_ok])
theorem XE.tup2P {τ0:Type} {e0:τ0→D} {a0:Ex} {s0:Sh} {t0:Bool} {τ1:Type} {e1:τ1→D} {a1:Ex} {s1:Sh} {t1:Bool} {x0:τ0} {x1:τ1} (h0:XE Γ a0 ρ (.ok x0) e0 s0 t0) (h1:XE Γ a1 ρ (.ok x1) e1 s1 t1) (hs:(s0.nb&&(s1.nb&&true))=true):XE Γ (.tup (.cons a0 (.cons a1 .nil))) ρ (.ok (x0,x1)) (eT2 e0 e1) .v (t0&&(t1&&true)):=XE.tup2 h0 h1 hs
theorem XE.call3 {k:Nat} {nm:PySem.Str} {g:List D→RE ER} {τ0:Type} {e0:τ0→D} {a0:Ex} {s0:Sh} {t0:Bool} {τ1:Type} {e1:τ1→D} {a1:Ex} {s1:Sh} {t1:Bool} {τ2:Type} {e2:τ2→D} {a2:Ex} {s2:Sh} {t2:Bool} {m0:RE τ0} {m1:RE τ1} {m2:RE τ2} {F:τ0→τ1→τ2→RE α} (hg:Γ.fn[k]? = some (nm,g)) (h0:XE Γ a0 ρ m0 e0 s0 t0) (h1:XE Γ a1 ρ m1 e1 s1 t1) (h2:XE Γ a2 ρ m2 e2 s2 t2) (hr:∀x0 x1 x2,XR (g [e0 x0,e1 x1,e2 x2]) (F x0 x1 x2) fun v er=>Is s t (en v) er) (hs:(s0.nb&&(s1.nb&&(s2.nb&&true)))=true) (hn:s.nb=true):XE Γ (.call k (.cons a0 (.cons a1 (.cons a2 .nil)))) ρ (m0.bind fun x0=>m1.bind fun x1=>m2.bind fun x2=>F x0 x1 x2) en s t:=
 (XE.callS (F:=fun w=>F w.1 w.2.1 w.2.2.1) hg (XS.cons h0 (XS.cons h1 (XS.cons h2 XS.nil))) (fun w=>hr _ _ _) hs hn).cast (by simp only[RE.bind_assoc,RE.bind_ok])
theorem XE.tup3 {τ0:Type} {e0:τ0→D} {a0:Ex} {s0:Sh} {t0:Bool} {τ1:Type} {e1:τ1→D} {a1:Ex} {s1:Sh} {t1:Bool} {τ2:Type} {e2:τ2→D} {a2:Ex} {s2:Sh} {t2:Bool} {m0:RE τ0} {m1:RE τ1} {m2:RE τ2} (h0:XE Γ a0 ρ m0 e0 s0 t0) (h1:XE Γ a1 ρ m1 e1 s1 t1) (h2:XE Γ a2 ρ m2 e2 s2 t2) (hs:(s0.nb&&(s1.nb&&(s2.nb&&true)))=true):XE Γ (.tup (.cons a0 (.cons a1 (.cons a2 .nil)))) ρ (m0.bind fun x0=>m1.bind fun x1=>m2.bind fun x2=>.ok (x0,x1,x2)) (eT3 e0 e1 e2) .v (t0&&(t1&&(t2&&true))):=
 (XE.tupS (F:=fun w=>(w.1,w.2.1,w.2.2.1)) (en:=eT3 e0 e1 e2) (XS.cons h0 (XS.cons h1 (XS.cons h2 XS.nil))) (fun w=>rfl) hs).cast (by simp only[RE.bind_assoc,RE.bind_ok])
end
end Cm
namespace Cm
open PySem PySem.Spec PyProof.Rows L2
section
variable {Γ:Env} {ρ:List Sl} {α β γ δ:Type} {en:α→D} {en2:β→D} {en3:γ→D} {a b c e:Ex} {s s1 s2 s3:Sh} {t t1 t2 t3:Bool} {m:RE α} {x:α} {y:β} {z:γ}
theorem XE.binR {o:Bop} {m1:RE α} {f:α→RE γ} (ha:XE Γ a ρ m1 en s1 t1) (hb:XE Γ b ρ (.ok y) en2 s2 t2) (h:∀x bb,((t1&&t2)=true→bb=true)→XR (evB o (en x) (en2 y) bb) (f x) fun v er=>Is s t (en3 v) er):XE Γ (.bin o a b) ρ (m1.bind f) en3 s t:=by
 cases m1 with
 |bad=>trivial
 |ok x=>exact XE.binP ha hb (h x)
 |exc c fs=>have ha:ev Γ a ρ=_:=ha;unfold XE;rw[ev,ha];rfl
theorem XE.binL {o:Bop} {m2:RE β} {f:β→RE γ} (ha:XE Γ a ρ (.ok x) en s1 t1) (hb:XE Γ b ρ m2 en2 s2 t2) (h:∀y bb,((t1&&t2)=true→bb=true)→XR (evB o (en x) (en2 y) bb) (f y) fun v er=>Is s t (en3 v) er):XE Γ (.bin o a b) ρ (m2.bind f) en3 s t:=by
 cases m2 with
 |bad=>trivial
 |ok y=>exact XE.binP ha hb (h y)
 |exc c fs =>
  obtain⟨er,e1,_⟩:=ha
  have hb:ev Γ b ρ=_:=hb
  unfold XE;rw[ev,e1,hb];rfl
theorem XE.cmpR {o:Cop} {m1:RE α} {f:α→RE Bool} (ha:XE Γ a ρ m1 en s1 t1) (hb:XE Γ b ρ (.ok y) en2 s2 t2) (h:∀x,evC o (en x) (en2 y)=f x):XE Γ (.cmp o a b) ρ (m1.bind f) eB .v true:=by
 cases m1 with
 |bad=>trivial
 |ok x=>exact XE.cmpP ha hb (h x)
 |exc c fs=>have ha:ev Γ a ρ=_:=ha;unfold XE;rw[ev,ha];rfl
theorem XE.cmpL {o:Cop} {m2:RE β} {f:β→RE Bool} (ha:XE Γ a ρ (.ok x) en s1 t1) (hb:XE Γ b ρ m2 en2 s2 t2) (h:∀y,evC o (en x) (en2 y)=f y):XE Γ (.cmp o a b) ρ (m2.bind f) eB .v true:=by
 cases m2 with
 |bad=>trivial
 |ok y=>exact XE.cmpP ha hb (h y)
 |exc c fs =>
  obtain⟨er,e1,_⟩:=ha
  have hb:ev Γ b ρ=_:=hb
  unfold XE;rw[ev,e1,hb];rfl
theorem XE.nev {e:Ex}:XE Γ e ρ (.bad:RE α) en s t:=trivial
def eTL {α:Type} (en:α→D) (xs:List α):D:=.tup (xs.map en)
def qnE (x:List Nat) (ts:List (List Nat)):RE Bool:=if ((D.str x).fit 0&&D.fits (ts.map eS) 0)=true then .ok (decide (x∈ts)) else .bad
def qnQ (x:List Nat) (ts:List (List Nat)):RE Bool:=(qnE x ts).bind fun b=>.ok (!b)
theorem qiM {α β:Type} (o:Cop) (e1:α→D) (e2:β→D) (x:α) (y:β):evC o (e1 x) (e2 y)=evC o (e1 x) (e2 y):=rfl
theorem qja {f:α→β} (k:∀v,en v=en2 (f v)) (v:Option α):eO en v=eO en2 (v.map f):=by
 cases v with
 |none=>rfl
 |some x=>exact k x
theorem SlV.coe {f:α→β} {q:Sl} (h:SlV t (en x) q) (k:∀v,en v=en2 (f v)):SlV t (en2 (f x)) q:=by rw[←k];exact h
def Dec {α β:Type} (en:α→D) (en2:β→D) (f:α→RE β):Prop:=∀v,f v=.bad∨∃w,f v=.ok w∧en v=en2 w
theorem XE.dec {f:α→RE β} (h:XE Γ e ρ (.ok x) en s t) (k:Dec en en2 f):XE Γ e ρ (f x) en2 s t:=by
 rcases k x with k | ⟨w,q,k⟩
 ·rw[k];trivial
 ·rw[q];obtain⟨er,e1,e2⟩:=h;exact⟨er,e1,by rw[←k];exact e2.d,e2.s,e2.t⟩
def dI:D→RE Int
 |.int i=>.ok i
 |_=>.bad
def dS:D→RE (List Nat)
 |.str i=>.ok i
 |_=>.bad
def dLs (f:α→RE β):List α→RE (List β)
 |[]=>.ok []
 |x::xs=>(f x).bind fun y=>(dLs f xs).bind fun ys=>.ok (y::ys)
def dL (f:D→RE β):D→RE (List β)
 |.lst xs=>dLs f xs
 |_=>.bad
def dT5 {α0 α1 α2 α3:Type} (f:α→RE β) (p:α0 × α1 × α2 × α3 × α):RE (α0 × α1 × α2 × α3 × β):=(f p.2.2.2.2).bind fun y=>.ok (p.1,p.2.1,p.2.2.1,p.2.2.2.1,y)
def dTH:D→RE (List Nat × Int × Int × Int × List D)
 |.tup [.str k,.int r,.int c,.int g,.lst m]=>.ok (k,r,c,g,m)
 |_=>.bad
theorem qlv:Dec eD eS dS:=fun v=>by cases v<;>first | exact .inl rfl | exact .inr ⟨_,rfl,rfl⟩
theorem qap {α β:Type} {e1:α→D} {e2:β→D} {f:α→β} (h:∀x,e1 x=e2 (f x)):∀x,e1 x=eO e2 (some (f x)):=h
def dP2:D→RE (D × D)
 |.tup [a,b]=>.ok (a,b)
 |_=>.bad
def thD (p:List Nat × Int × Int × Int × List Int):List Nat × Int × Int × Int × List D:=(p.1,p.2.1,p.2.2.1,p.2.2.2.1,p.2.2.2.2.map eI)
def t5L {α0 α1 α2 α3 α:Type} (g:α→D) (p:α0 × α1 × α2 × α3 × List α):α0 × α1 × α2 × α3 × List D:=(p.1,p.2.1,p.2.2.1,p.2.2.2.1,p.2.2.2.2.map g)
def qhR (x:List Int):RE Int:=gd (Nat.ble x.length 1000) (.ok (qoq x:Int))
def qbm (x y:List Nat):RE (List (List Nat)):=gd (qmQ y.length x.length) (.ok ((Txt.split (qal x) (qal y)).map fun z=>z.cps.toList))
def qnp (x y:List Nat):RE Int:=.ok (Txt.find (qal x) (qal y))
def qcp (s:List Nat) (ss:List (List Nat)):RE (List Nat):=gd (leB ((ss.map List.length).sum+ss.length*s.length)) (.ok (Txt.join (qal s) (ss.map qal)).cps.toList)
theorem XE.split {m1 m2:RE (List Nat)} (ha:XE Γ a ρ m1 eS s1 t1) (hb:XE Γ b ρ m2 eS s2 t2):XE Γ (.bm1 .split a b) ρ (m1.bind fun x=>m2.bind fun y=>qbm x y) (eL eS) .f true:=by
 unfold XE;rw[ev]
 exact XR.bind ha fun v er k=>by
  rw[k.d]
  exact XR.bind hb fun w er' k'=>by
   rw[k'.d]
   exact xgd (qlY (by simp[eL,List.map_map,Function.comp_def]) fun _=>rfl)
theorem XE.splitP {x y:List Nat} (ha:XE Γ a ρ (.ok x) eS s1 t1) (hb:XE Γ b ρ (.ok y) eS s2 t2):XE Γ (.bm1 .split a b) ρ (qbm x y) (eL eS) .f true:=XE.split ha hb
theorem XE.find {m1 m2:RE (List Nat)} (ha:XE Γ a ρ m1 eS s1 t1) (hb:XE Γ b ρ m2 eS s2 t2):XE Γ (.bm1 .find a b) ρ (m1.bind fun x=>m2.bind fun y=>qnp x y) eI .v true:=by
 unfold XE;rw[ev]
 exact XR.bind ha fun v er k=>by
  rw[k.d]
  exact XR.bind hb fun w er' k'=>by rw[k'.d];exact xok rfl
theorem XE.join {m1:RE (List Nat)} {m2:RE (List (List Nat))} (ha:XE Γ a ρ m1 eS s1 t1) (hb:XE Γ b ρ m2 (eL eS) s2 t2):XE Γ (.bm1 .join a b) ρ (m1.bind fun x=>m2.bind fun y=>qcp x y) eS .v true:=by
 unfold XE;rw[ev]
 exact XR.bind ha fun v er k=>by
  rw[k.d]
  exact XR.bind hb fun w er' k'=>by
   rw[k'.d]
   simp only[evM,eL,qdf]
   exact xgd (xok rfl)
theorem XE.joinP {x:List Nat} {y:List (List Nat)} (ha:XE Γ a ρ (.ok x) eS s1 t1) (hb:XE Γ b ρ (.ok y) (eL eS) s2 t2):XE Γ (.bm1 .join a b) ρ (qcp x y) eS .v true:=XE.join ha hb
def qbQ (x y:List Nat):RE Int:=match PySem.Builtin.Str.occurrences (qal x) (qal y) 0 x.length 1 with
 |j::_=>.ok ((j:Nat):Int)
 |[]=>.bad
theorem XE.inxS {m1 m2:RE (List Nat)} (ha:XE Γ a ρ m1 eS s1 t1) (hb:XE Γ b ρ m2 eS s2 t2):XE Γ (.inxS a b) ρ (m1.bind fun x=>m2.bind fun y=>qbQ x y) eI .v true:=by
 unfold XE;rw[ev]
 exact XR.bind ha fun v er k=>by
  rw[k.d]
  exact XR.bind hb fun w er' k'=>by
   rw[k'.d]
   simp only[qfl,qbQ]
   cases PySem.Builtin.Str.occurrences (qal v) (qal w) 0 v.length 1 with
   |nil=>trivial
   |cons j js=>exact xok rfl
theorem XE.inxSP {x y:List Nat} (ha:XE Γ a ρ (.ok x) eS s1 t1) (hb:XE Γ b ρ (.ok y) eS s2 t2):XE Γ (.inxS a b) ρ (qbQ x y) eI .v true:=XE.inxS ha hb
def qkw (xs:List Int) (y:Int):RE Int:=match xs.findIdx? (fun x=>decide (x=y)) with
 |some j=>.ok (j:Int)
 |none=>.bad
def mmE (k:Bool) (x:List Int) (y:Int):RE Int:=.ok (qmT k x y)
def qdZ (en:α→D) (en2:β→D) (xs:List α) (y:β):RE Int:=(qdm (xs.map en) (en2 y)).bind fun r=>match r.d with
 |.int i=>.ok i
 |_=>.bad
theorem XE.inxL {m1:RE (List α)} {m2:RE β} (ha:XE Γ a ρ m1 (eL en) s1 t1) (hb:XE Γ b ρ m2 en2 s2 t2):XE Γ (.inxL a b) ρ (m1.bind fun x=>m2.bind fun y=>qdZ en en2 x y) eI .v true:=by
 unfold XE;rw[ev]
 exact XR.bind ha fun v er k=>by
  rw[k.d]
  exact XR.bind hb fun w er' k'=>by
   rw[k'.d]
   show XR (qdm (v.map en) (en2 w)) _ _
   unfold qdZ qdm
   split
   ·cases idxD (en2 w) (v.map en) with
    |none=>trivial
    |some j=>exact xok rfl
   ·trivial
def qfz (d:D) (k:Int):RE D:=match d with
 |.lst xs=>atE xs k
 |.tup xs=>atE xs k
 |_=>.bad
theorem XE.idxD {m1:RE D} {m2:RE Int} (ha:XE Γ a ρ m1 eD s1 t) (hb:XE Γ b ρ m2 eI s2 t2):XE Γ (.idx a b) ρ (m1.bind fun x=>m2.bind fun k=>qfz x k) eD .v t:=by
 unfold XE;rw[ev]
 exact XR.bind ha fun v er k=>XR.bind hb fun w er' k'=>by
  rw[k.d,k'.d]
  unfold eD eI qfz atE
  cases v with
  |lst xs =>
   simp only[qkK]
   cases L2.atI xs w with
   |none=>trivial
   |some x=>exact⟨_,rfl,rfl,rfl,fun z=>by show(_||_)=true;rw[k.t z];rfl⟩
  |tup xs =>
   simp only[qkK]
   cases L2.atI xs w with
   |none=>trivial
   |some x=>exact⟨_,rfl,rfl,rfl,fun z=>by show(_||_)=true;rw[k.t z];rfl⟩
  |_=>trivial
def qoM (d:D):RE Int:=match d with
 |.lst xs=>.ok xs.length
 |.tup xs=>.ok xs.length
 |_=>.bad
def qox (d:D):RE (List D):=match d with
 |.lst xs=>.ok xs
 |.tup xs=>.ok xs
 |_=>.bad
end
theorem qlD {g:List D→RE ER} {ns:List Int} {m:RE Bool} {t:Bool} (h:Rf (g [eL eI ns]) m eB .v t) (e:m=.ok true):∃b,g [.lst (ns.map D.int)]=.ok (.val (.bl true) b):=by
 rw[e] at h
 obtain⟨er,e1,e2⟩:=h
 have h1:=e2.d
 have h2:=e2.s
 cases er with
 |val d b=>cases h1;exact⟨b,e1⟩
 |fre d b=>cases h2
 |brw d b=>cases h2
def tryE {α:Type} (T:Nat→Option Bool) (x:Option Nat):RE α→RE (Option Nat)
 |.bad=>.bad
 |.ok _=>.ok x
 |.exc c fs=>match T c,fs with
  |some true,[]=>.ok (some c)
  |some false,fs=>.exc c fs
  |_,_=>.bad
def tryA {α:Type} (T:Nat→Option Bool) (x:Option Nat) (y:α):RE α→RE (Option Nat × α)
 |.bad=>.bad
 |.ok v=>.ok (x,v)
 |.exc c fs=>match T c,fs with
  |some true,[]=>.ok (some c,y)
  |some false,fs=>.exc c fs
  |_,_=>.bad
section
variable {Γ:Env} {ρ:List Sl} {α:Type} {en:α→D} {e a:Ex} {s:Sh} {t t1:Bool} {m:RE α}
theorem SN.tryE {T:Nat→Option Bool} {k i j:Nat} {x:Option Nat} {qi qj:Sl} (h:XE Γ e ρ m en s t1) (hT:Γ.ck[k]? = some T) (hij:(if i=j then false else true)=true) (h0:ρ[j]? = some qj) (hq:SlV t (eO eX x) qj) (ρ₂:Sl→Sl→List Sl) (hset:∀q r,(ρ.set j q).set i r=ρ₂ q r) (hid:∀r,ρ[i]? = some r→ρ=ρ₂ qj r) (hi:i<ρ.length) :
  SN Γ (.tryx k i j (.ex e)) ρ (Cm.tryE T x m) fun v ρ'=>∃q r,ρ'=ρ₂ q r∧SlV t (eO eX v) q:=by
 have hij:i≠j:=fun e=>by rw[if_pos e] at hij;cases hij
 unfold SN
 rw[Cm.run,trB,hT]
 cases m with
 |bad=>trivial
 |ok v =>
  obtain⟨er,e1,e2⟩:=h
  rw[e1]
  exact⟨ρ,rfl,qj,ρ[i],hid _ (List.getElem?_eq_getElem hi),hq⟩
 |exc c fs =>
  have h:ev Γ e ρ=_:=h
  rw[h]
  simp only[Cm.tryE,RE.bind_exc,trX,if_neg hij]
  cases hc:T c with
  |none=>trivial
  |some b =>
   cases b with
   |false=>exact rfl
   |true =>
    cases fs with
    |nil=>exact⟨_,rfl,_,_,hset _ _,_,rfl,fun _=>rfl⟩
    |cons _ _=>trivial
theorem SN.tryA {T:Nat→Option Bool} {k i j z:Nat} {x:Option Nat} {y:α} {qj qz:Sl} (h:XE Γ e ρ m en s t1) (hs:s.nb=true) (hT:Γ.ck[k]? = some T) (hij:(if i=j then false else true)=true) (h0:ρ[j]? = some qj) (hq:SlV t (eO eX x) qj) (h1:ρ[z]? = some qz) (hz:SlV t1 (en y) qz) (ρ₂:Sl→Sl→Sl→List Sl)
  (hset:∀q r,(ρ.set j q).set i r=ρ₂ q qz r) (hset2:∀r q,ρ[i]? = some r→ρ.set z q=ρ₂ qj q r) (hi:i<ρ.length) :
  SN Γ (.tryx k i j (.as z e)) ρ (Cm.tryA T x y m) fun v ρ'=>∃q r u,ρ'=ρ₂ q r u∧SlV t (eO eX v.1) q∧SlV t1 (en v.2) r:=by
 have hij:i≠j:=fun e=>by rw[if_pos e] at hij;cases hij
 unfold SN
 rw[Cm.run,trB,hT]
 cases m with
 |bad=>trivial
 |ok v =>
  obtain⟨er,e1,e2⟩:=h
  rw[e1]
  have h1:=e2.s
  have h2:=e2.d
  have h3:=e2.t
  cases er with
  |val d b=>simp only[RE.bind_ok,trX,Cm.tryA];exact⟨_,rfl,qj,_,_,hset2 _ _ (List.getElem?_eq_getElem hi),hq,b,by rw[←h2];rfl,h3⟩
  |fre d b=>simp only[RE.bind_ok,trX,Cm.tryA];exact⟨_,rfl,qj,_,_,hset2 _ _ (List.getElem?_eq_getElem hi),hq,b,by rw[←h2];rfl,h3⟩
  |brw d b=>cases s<;>simp_all[qes,ER.isF,Sh.nb]
 |exc c fs =>
  have h:ev Γ e ρ=_:=h
  rw[h]
  simp only[Cm.tryA,RE.bind_exc,trX,if_neg hij]
  cases hc:T c with
  |none=>trivial
  |some b =>
   cases b with
   |false=>exact rfl
   |true =>
    cases fs with
    |nil=>exact⟨_,rfl,_,qz,_,hset _ _,⟨_,rfl,fun _=>rfl⟩,hz⟩
    |cons _ _=>trivial
def qcv (T:Nat→Option Bool):Option Nat→RE Bool
 |some c=>match T c with
  |some b=>.ok b
  |none=>.bad
 |none=>.bad
theorem XE.isc {T:Nat→Option Bool} {k:Nat} {x:Option Nat} (h:XE Γ a ρ (.ok x) (eO eX) s t) (hT:Γ.ck[k]? = some T):XE Γ (.isc a k) ρ (qcv T x) eB .v true:=by
 obtain⟨er,e1,e2⟩:=h
 unfold XE;rw[ev,e1]
 simp only[RE.bind_ok]
 rw[e2.d,hT]
 cases x with
 |none=>trivial
 |some c =>
  show XR (match T c with
   |some b=>ok (.bl b)
   |none=>.bad) (match T c with
   |some b=>.ok b
   |none=>.bad) _
  cases T c with
  |none=>trivial
  |some b=>exact xok rfl
def qoL (Ts:List (Option (Nat→Option Bool))):Option Nat→RE Bool
 |some c=>match qm4 Ts c with
  |some b=>.ok b
  |none=>.bad
 |none=>.bad
def qpD (T:Nat→Option Bool) (cl:α→Nat) (x:α):RE Bool:=match T (cl x) with
 |some b=>.ok b
 |none=>.bad
def qop (n:Int):RE (List Int):=gd (qfW n) (.ok (qcj 0 1 n.toNat).reverse)
theorem qis (n:Nat):qcj (0+(n:Int) - 1) (-1) n=(qcj 0 1 n).reverse:=by
 apply List.ext_getElem
 ·simp[qcj]
 ·intro i h1 h2
  simp[qcj] at h1 h2 ⊢
  omega
theorem XI.rvr {m1:RE Int} (h:XE Γ a ρ m1 eI s t):XI Γ (.rvr a) ρ (m1.bind qop) eI true false:=by
 unfold XI;rw[evI]
 exact XR.bind h fun n er h1=>by
  rw[h1.d]
  show XR (gd (qfW n) _) (gd (qfW n) _) _
  cases qfW n
  ·trivial
  ·refine⟨_,rfl,?_,fun _=>rfl,fun _=>rfl⟩
   show(qcj (0+(((n - 0).toNat:Nat):Int) - 1) (-1) (n - 0).toNat).map D.int=_
   rw[Int.sub_zero,qis]
end
inductive RK where
 |unlike | total | rising | seen | counted | joined | nosquare | ring
deriving DecidableEq
def RK.c:RK→Nat
 |.unlike=>0 | .total=>1 | .rising=>2 | .seen=>3 | .counted=>4 | .joined=>5 | .nosquare=>6 | .ring=>7
structure RuleT where
 k:RK
 ground:Int × Int × Int
 cells:List Int
 wanted:Int
 sign:Int
def qlV (r:RuleT):List D:=[eT3 eI eI eI r.ground,eL eI r.cells,eI r.wanted,eI r.sign]
def eRule (r:RuleT):D:=.ins r.k.c (qlV r)
inductive KK where
 |clue | only | place | pair | count | step | sums | ways | square | reach | turn
deriving DecidableEq
def KK.c:KK→Nat
 |.clue=>10 | .only=>11 | .place=>12 | .pair=>13 | .count=>14 | .step=>15 | .sums=>16 | .ways=>17 | .square=>18 | .reach=>19 | .turn=>20
def eKind (k:KK):D:=.ins k.c []
structure PuzT where
 ground:Int × Int × Int
 rules:List RuleT
 clues:List Int
def qnH (p:PuzT):List D:=[eT3 eI eI eI p.ground,eL eRule p.rules,eL eI p.clues]
def ePuz (p:PuzT):D:=.ins 25 (qnH p)
instance:Flat eRule:=⟨fun _=>rfl⟩
instance:Flat eKind:=⟨fun _=>rfl⟩
instance:Flat ePuz:=⟨fun _=>rfl⟩
section
variable {Γ:Env} {ρ:List Sl} {α:Type} {en:α→D} {e a:Ex} {s:Sh} {t t1:Bool} {m:RE α} {ss:Sms}
theorem Ini.run {c nf n k:Nat} {b:Sms} {as:List D} {mm:RE α} {fs:α→List D} (hn:as.length=n) (h:BN Γ b (.slf c []::(as.map (fun d=>Sl.val d d.flat)++List.replicate k .non)) mm fun v ρ'=>∃r,ρ'=.slf c (fs v)::r∧(fs v).length=nf) (he:∀v,mm=.ok v→en v=.ins c (fs v)):XR (qos Γ c nf n k b as) mm fun v gs=>en v=.ins c gs:=by
 unfold qos
 rw[if_pos hn]
 cases mm with
 |bad=>trivial
 |exc c fs=>have h:qad Γ b _=_:=h;rw[h];rfl
 |ok v =>
  obtain⟨ρ',e,r,e2,e3⟩:=h
  rw[e,e2]
  simp only[if_true,e3]
  exact⟨_,rfl,he v rfl⟩
end
instance:Flat (eTL eS):=⟨fun v=>by
 show D.flats (v.map eS)=true
 exact qd0 v⟩
section
variable {Γ:Env} {ρ:List Sl} {a b:Ex} {s s1 s2:Sh} {t t1 t2:Bool}
def qnM (x:List Int):RE (List Int):=gd (Nat.ble x.length 63) (.ok (qmX x))
def qpH {α:Type} (en:α→D) (os:List (List Int)) (v:α):RE α:=if qi7 os (en v)=true then .ok v else .bad
def qo1 (x:List Int):RE (List Int):=gd (leB x.length) (.ok x.reverse)
def qpo (T:List (List Nat)) (x:List Nat):RE Int:=match qnk x T with
 |some j=>.ok (j:Int)
 |none=>.bad
abbrev DTb:Type:=List (List Nat × Option (List (List Nat)))
def dtD (t:DTb):List (List Nat × Option D):=t.map fun p=>(p.1,p.2.map (eTL eS))
def qoT (t:DTb) (n:Bool) (x:List Nat):RE Bool:=match t.lookup x with
 |some o=>.ok (o.isSome == n)
 |none=>.bad
def qoE (t:DTb) (x:List Nat):RE (List (List Nat)):=match t.lookup x with
 |some (some z)=>.ok z
 |_=>.bad
end
theorem XE.bad {Γ:Env} {ρ:List Sl} {α:Type} {en:α→D} {e:Ex} {s:Sh} {t:Bool}:XE Γ e ρ (RE.bad:RE α) en s t:=trivial
def qpO {α:Type} (en:α→D) (m:List (Int × α)):List (Int × D):=m.map fun e=>(e.1,en e.2)
def SlM (t:Bool) (m:List (Int × D)) (s:Sl):Prop:=∃f,s=.dct m f∧(t=true→f=true)
theorem SlM.low {t:Bool} {m:List (Int × D)} {s:Sl} (h:SlM t m s):SlM false m s:=by
 obtain⟨f,e,_⟩:=h
 exact⟨f,e,fun e=>nomatch e⟩
def qeV {α:Type} (m:List (Int × α)) (k:Int):RE α:=match qbL k m with
 |some x=>.ok x
 |none=>.bad
def qfO {α:Type} (m:List (Int × α)) (k:Int) (x:α):RE (List (Int × α)):=gd (leB (m.length+1)) (.ok (qhF k x m))
section
variable {Γ:Env} {ρ:List Sl} {α:Type} {en:α→D} {e b ix:Ex} {s s2:Sh} {t t1 t2:Bool} {q0:Sl} {m:List (Int × α)} {i:Nat}
def qoS (xs:List α) (_:α):RE Unit:=gd (leB (xs.length+1)) (.ok ())
end
end Cm
set_option maxHeartbeats 2000000
namespace Cm
open PySem PySem.Spec PyProof.Rows L2
def SlW {α:Type} (en:α→D) (v:List (List α)) (s:Sl):Prop:=s=.row (v.map (List.map en))
def pkM {α:Type}:RE α→RE α
 |.exc c fs=>if D.flats fs=true then .exc c fs else .bad
 |m=>m
@[simp] theorem qob {α:Type} (x:α):pkM (.ok x)=.ok x:=rfl
theorem qfC {α:Type} {en:α→D} (h:∀v,(en v).flat=true):∀xs:List α,D.flats (xs.map en)=true
 |[]=>rfl
 |x::xs=>by
  show((en x).flat&&D.flats (xs.map en))=true
  rw[h x,qfC h xs];rfl
def qoV {α:Type} (v:List (List α)) (k:Nat) (x:α):RE (List (List α)):=match v[k]? with
 |some xs=>gd (leB (xs.length+1)) (.ok (v.set k (xs++[x])))
 |none=>.bad
def qo3 {α:Type} (v:List (List α)) (k:Nat):RE (List (List α)):=match v[k]? with
 |some _=>.ok (v.set k [])
 |none=>.bad
def qpu {α:Type} (v:List (List α)) (k:Nat) (m:Int) (x:α):RE (List (List α)):=match v[k]? with
 |some xs=>match ixN xs.length m with
  |some j=>.ok (v.set k (xs.set j x))
  |none=>.bad
 |none=>.bad
section
variable {Γ:Env} {ρ:List Sl} {α β τ:Type} {en:α→D} {e ix:Ex} {es:Exs} {s s2:Sh} {t t1 t2:Bool} {q0:Sl} {i k:Nat} {v:List (List α)}
abbrev XEF (Γ:Env) (es:Exs) (ρ:List Sl) (m:RE (List (List α))) (en:α→D):Prop:=XR (evF Γ es ρ) m fun v dss=>dss=v.map (List.map en)
theorem XEF.nil:XEF Γ .nil ρ (.ok []) en:=by unfold XEF;rw[evF];exact⟨_,rfl,rfl⟩
theorem XEF.cons {m1:RE (List α)} {m2:RE (List (List α))} (h:XE Γ e ρ m1 (eL en) .f t) (hf:∀v,(en v).flat=true) (hs:XEF Γ es ρ m2 en):XEF Γ (.cons e es) ρ (m1.bind fun x=>m2.bind fun r=>.ok (x::r)) en:=by
 unfold XEF;rw[evF]
 refine XR.bind h fun x er h1=>?_
 have k1:=h1.s
 have k2:=h1.d
 cases er with
 |val _ _=>cases k1
 |brw _ _=>cases k1
 |fre ds b =>
  have k2:D.lst ds=eL en x:=k2
  injection k2 with k2
  subst k2
  show XR (if D.flats (x.map en)=true then _ else _) _ _
  rw[if_pos (qfC hf x)]
  exact XR.bind hs fun r dss e=>⟨_,rfl,by rw[e];rfl⟩
theorem SN.row {m:RE (List (List α))} (ρ₂:Sl→List Sl) (h:XEF Γ es ρ m en) (hset:∀q,ρ.set i q=ρ₂ q) :
  SN Γ (.row i es) ρ (m.bind fun v=>gd (leB v.length) (.ok v)) fun v ρ'=>∃q,ρ'=ρ₂ q∧SlW en v q:=by
 unfold SN
 rw[Cm.run]
 cases m with
 |bad=>trivial
 |exc c fs=>have h:evF Γ _ ρ=_:=h;rw[h];rfl
 |ok v =>
  obtain⟨dss,e1,rfl⟩:=h
  rw[e1]
  have hl:(v.map (List.map en)).length=v.length:=List.length_map _
  simp only[RE.out_ok,RE.bind_ok,hl]
  cases leB v.length with
  |false=>trivial
  |true=>exact⟨_,rfl,_,hset _,rfl⟩
end
section
variable {Γ:Env} {ρ:List Sl} {α:Type} {en:α→D} {a:Ex} {s1:Sh} {t:Bool}
end
def qko (s:List Nat) (k:Int):RE (List Nat):=gd (qla s.length k&&(Nat.ble 1 k.toNat&&Nat.ble 1 s.length)) (.ok (List.replicate k.toNat s).flatten)
theorem qmg {t1 t2:Bool} (x:List Nat) (k:Int) (bb:Bool) (_:(t1&&t2)=true→bb=true):XR (evB .mul (eS x) (eI k) bb) (qko x k) fun v er=>Is .v true (eS v) er:=xgd (xok rfl)
end Cm
namespace Cm
def qaf:List (List Nat):=[[99,108,117,101],[111,110,108,121],[112,108,97,99,101],[99,111,117,110,116],[115,116,101,112],[115,117,109],[115,113,117,97,114,101],[114,101,97,99,104],[116,117,114,110],[112,97,105,114],[119,97,121,115]]
def qcV:DTb:=[([111,110,108,121],some [[117,110,108,105,107,101]]),([112,108,97,99,101],some [[117,110,108,105,107,101]]),([99,111,117,110,116],some [[99,111,117,110,116]]),([115,116,101,112],some [[114,105,115,105,110,103]]),([115,117,109],some [[115,117,109]]),([115,113,117,97,114,101],some [[110,111,115,113,117,97,114,101]]),([114,101,97,99,104],some [[106,111,105,110,101,100],[114,105,110,103]]),([116,117,114,110],some [[114,105,110,103]]),([112,97,105,114],some [[117,110,108,105,107,101]]),([99,108,117,101],none),([119,97,121,115],none)]
def F.are_numbers (aQ:List D):RE Bool:=
 (((RE.ok aQ).bind fun x3=>gd (leB x3.length) (lcE (fun(aG:D)=>(((tyE (eD aG) .int).bind fun x1=>RE.ok (!x1)).bind fun k2=>if k2=true then RE.ok true else (tyE (eD aG) .bool))) (fun(aG:D)=>(RE.ok aG)) x3)).bind fun x4=>RE.ok (List.length x4:Int)).bind fun x5=>RE.ok (decide (x5=0))
def F.floor_of (aN:Int) (aV:Int) (av:Int):RE (Int × Int × Int):=
 ((RE.ok (!(decide (1≤aN)&&decide (aN≤6)))).bind fun k4=>if k4=true then RE.ok true else ((RE.ok (!(decide (1≤aV)&&decide (aV≤6)))).bind fun k3=>if k3=true then RE.ok true else ((qfP aN aV).bind fun x1=>RE.ok (decide (16<x1))))).bind fun k5=>if k5=true then (RE.exc 31 []) else ((RE.ok (!(decide (1≤av)&&decide (av≤6)))).bind fun k6=>if k6=true then (RE.exc 31 []) else (RE.ok (aN,aV,av)))
def F.many_cells (al:Int × Int × Int):RE Int:=
 qfP al.1 al.2.1
def F.spot_of (al:Int × Int × Int) (ab:Int):RE (Int × Int):=
 (qjx ab al.2.1).bind fun x1=>(qf0 ab al.2.1).bind fun x2=>RE.ok (x1,x2)
def F.beside (al:Int × Int × Int) (ab:Int):RE (List Int):=
 (RE.ok al).bind fun p1=>(F.spot_of al ab).bind fun p2=>(RE.ok ([]:List Int)).bind fun aj=>((RE.ok (decide (0<p2.1))).bind fun k3=>if k3=true then ((qa5 aj (ab - p1.2.1)).bind fun aj=>RE.ok aj) else (RE.ok aj)).bind fun(p4:List Int)=>((RE.ok (decide (0<p2.2))).bind fun k5=>if k5=true then ((qa5 p4 (ab - 1)).bind fun aj=>RE.ok aj) else (RE.ok p4)).bind fun(p6:List Int)=>((RE.ok (decide (p2.2<(p1.2.1 - 1)))).bind fun k7=>if k7=true then ((qa5 p6 (ab+1)).bind fun aj=>RE.ok aj) else (RE.ok p6)).bind fun(p8:List Int)=>((RE.ok (decide (p2.1<(p1.1 - 1)))).bind fun k9=>if k9=true then ((qa5 p8 (ab+p1.2.1)).bind fun aj=>RE.ok aj) else (RE.ok p8)).bind fun(p10:List Int)=>RE.ok p10
def F.squares (al:Int × Int × Int):RE (List (List Int)):=
 (RE.ok al).bind fun p1=>(RE.ok ([]:List (List Int))).bind fun aj=>(((F.many_cells al).bind qar).bind fun y10=>qac (fun(ab:Int) (s5:List (List Int))=>(F.spot_of al ab).bind fun p6=>((RE.ok ((decide (p6.1<(p1.1 - 1)))&&(decide (p6.2<(p1.2.1 - 1))))).bind fun k7=>if k7=true then ((qa5 s5 ([ab,ab+1,ab+p1.2.1,(ab+p1.2.1)+1])).bind fun aj=>RE.ok aj) else (RE.ok s5)).bind fun(p8:List (List Int))=>RE.ok p8) y10 aj).bind fun(p9:List (List Int))=>RE.ok p9
def F.reached (al:Int × Int × Int) (ay:List Int) (b6:Int):RE (List Int):=
 (RE.ok (!decide (b6∈ay))).bind fun k1=>if k1=true then (RE.ok []) else ((RE.ok ([b6]:List Int)).bind fun aj=>(RE.ok (0:Int)).bind fun aJ=>(qmz (fun(s10:(List Int) × Int)=>(RE.ok (decide (s10.2<(List.length s10.1:Int))))) (fun(s10:(List Int) × Int)=>(((RE.ok al).bind fun x11=>(atE s10.1 s10.2).bind fun x12=>F.beside x11 x12).bind fun y18=>qac (fun(ab:Int) (s14:List Int)=>((RE.ok ((decide (ab∈ay))&&(!decide (ab∈s14)))).bind fun k15=>if k15=true then ((qa5 s14 ab).bind fun aj=>RE.ok aj) else (RE.ok s14)).bind fun(p16:List Int)=>RE.ok p16) y18 s10.1).bind fun(p17:List Int)=>(RE.ok (s10.2+1:Int)).bind fun aJ=>RE.ok (p17,aJ)) qmu (aj,aJ)).bind fun(p19:(List Int) × Int)=>RE.ok (qbF p19.1))
def F.bit (ai:Int):RE Int:=
 qm1 1 (ai - 1)
def F.stands (aO:Int) (ai:Int):RE Bool:=
 ((F.bit ai).bind fun x2=>RE.ok (PySem.Builtin.bitAnd aO x2)).bind fun x3=>RE.ok (!decide (x3=0))
def F.has_only (aO:Int) (ai:Int):RE Bool:=
 ((F.bit ai).bind fun x2=>RE.ok (PySem.Builtin.bitOr aO x2)).bind fun x3=>(F.bit ai).bind fun x4=>RE.ok (decide (x3=x4))
def F.signs_in (aO:Int):RE (List Int):=
 (qeZ 1 ((PySem.Builtin.Int.intBits aO:Int)+1)).bind fun x1=>gd (leB x1.length) (lcE (fun(ai:Int)=>(F.stands aO ai)) (fun(ai:Int)=>(RE.ok ai)) x1)
def F.Clue_word (ae:KK):RE (List Nat):=
 RE.ok ([99,108,117,101])
def F.Clue_fits (ae:KK) (ac:PuzT) (ak:Option RuleT) (af:List Nat × Int × Int × Int × (List Int)):RE Bool:=
 RE.ok ((decide (af.2.1=0))&&(decide (af.2.2.2.2=[])))
def F.Only_word (ae:KK):RE (List Nat):=
 RE.ok ([111,110,108,121])
def F.Only_strikes (ae:KK) (ac:PuzT) (ah:List Int) (ak:Option RuleT) (af:List Nat × Int × Int × Int × (List Int)):RE Bool:=
 ((RE.ok ah).bind fun x1=>(atE af.2.2.2.2 0).bind fun x2=>atE x1 x2).bind fun x3=>(RE.ok af.2.2.2.1).bind fun x4=>F.has_only x3 x4
def F.Place_word (ae:KK):RE (List Nat):=
 RE.ok ([112,108,97,99,101])
def F.Pair_word (ae:KK):RE (List Nat):=
 RE.ok ([112,97,105,114])
def F.Pair_strikes (ae:KK) (ac:PuzT) (ah:List Int) (ak:Option RuleT) (af:List Nat × Int × Int × Int × (List Int)):RE Bool:=
 ((((RE.ok ah).bind fun x1=>(atE af.2.2.2.2 0).bind fun x2=>atE x1 x2).bind fun x5=>((RE.ok ah).bind fun x3=>(atE af.2.2.2.2 1).bind fun x4=>atE x3 x4).bind fun x6=>RE.ok (PySem.Builtin.bitOr x5 x6)).bind fun x7=>F.signs_in x7).bind fun av=>(((RE.ok av).bind fun x8=>gd (leB x8.length) (RE.ok (List.filter (fun(ai:Int)=>!decide (ai=af.2.2.2.1)) x8))).bind fun x9=>RE.ok (List.length x9:Int)).bind fun x10=>RE.ok (decide (x10≤1))
def F.Count_word (ae:KK):RE (List Nat):=
 RE.ok ([99,111,117,110,116])
def F.Step_word (ae:KK):RE (List Nat):=
 RE.ok ([115,116,101,112])
def F.Sums_word (ae:KK):RE (List Nat):=
 RE.ok ([115,117,109])
def F.Ways_word (ae:KK):RE (List Nat):=
 RE.ok ([119,97,121,115])
def F.may_have (ah:List Int) (ai:Int):RE (List Int):=
 (qar (List.length ah:Int)).bind fun x3=>gd (leB x3.length) (lcE (fun(ab:Int)=>((atE ah ab).bind fun x1=>(RE.ok ai).bind fun x2=>F.stands x1 x2)) (fun(ab:Int)=>(RE.ok ab)) x3)
def F.Square_word (ae:KK):RE (List Nat):=
 RE.ok ([115,113,117,97,114,101])
def F.Reach_word (ae:KK):RE (List Nat):=
 RE.ok ([114,101,97,99,104])
def F.Turn_word (ae:KK):RE (List Nat):=
 RE.ok ([116,117,114,110])
def F.all_kinds  : RE (List KK):=
 (RE.ok ([KK.clue,KK.only,KK.place]:List KK)).bind fun bh=>qcm bh ([KK.count,KK.step,KK.sums,KK.square,KK.reach,KK.turn,KK.pair,KK.ways])
def F.m_word (r:KK)  : RE (List Nat):=match r with
 |.clue=>F.Clue_word r
 |.only=>F.Only_word r
 |.place=>F.Place_word r
 |.pair=>F.Pair_word r
 |.count=>F.Count_word r
 |.step=>F.Step_word r
 |.sums=>F.Sums_word r
 |.ways=>F.Ways_word r
 |.square=>F.Square_word r
 |.reach=>F.Reach_word r
 |.turn=>F.Turn_word r
def F.kind_of (aE:List Nat):RE (Option KK):=
 Fl.bR (F.all_kinds.bind fun y10=>qam (fun(a9:KK) (s4:Unit)=>(((F.m_word a9).bind fun x5=>RE.ok (decide (x5=aE))).bind fun k7=>if k7=true then (RE.ok (.rt (some a9))) else (RE.ok (.nx ())):RE (Fl (Option KK) (Unit)))) y10 ()) fun(p9:Unit)=>RE.ok (none:Option KK)
def F.is_filling (al:Int × Int × Int) (am:List Int):RE Bool:=
 ((F.many_cells al).bind fun x2=>RE.ok (!decide ((List.length am:Int)=x2))).bind fun k3=>if k3=true then (RE.ok false) else (((RE.ok am).bind fun x4=>gd (leB x4.length) (RE.ok (List.map (fun(ai:Int)=>(decide (0≤ai)&&decide (ai≤al.2.2))) x4))).bind fun x5=>RE.ok (List.all x5 id))
def F.Rule_spots (ae:RuleT):RE (List Int):=
 RE.ok ae.cells
def F.Rule_number (ae:RuleT):RE Int:=
 RE.ok ae.wanted
def F.Rule_sign (ae:RuleT):RE Int:=
 RE.ok ae.sign
def F.Rule_told_numbers (ae:RuleT):RE (List Int):=
 RE.ok ae.cells
def F.Unlike_name (ae:RuleT):RE (List Nat):=
 RE.ok ([117,110,108,105,107,101])
def F.Unlike_holds (ae:RuleT) (am:List Int):RE Bool:=
 (((RE.ok ae.cells).bind fun x1=>gd (leB x1.length) (lcE (fun(ab:Int)=>(RE.ok true)) (fun(ab:Int)=>(atE am ab)) x1)).bind qhR).bind fun x2=>RE.ok (decide (x2=(List.length ae.cells:Int)))
def F.Total_name (ae:RuleT):RE (List Nat):=
 RE.ok ([115,117,109])
def F.Total_holds (ae:RuleT) (am:List Int):RE Bool:=
 (((RE.ok ae.cells).bind fun x1=>gd (leB x1.length) (lcE (fun(ab:Int)=>(RE.ok true)) (fun(ab:Int)=>(atE am ab)) x1)).bind fun x2=>RE.ok (List.sum x2)).bind fun x3=>RE.ok (decide (x3=ae.wanted))
def F.Total_told_numbers (ae:RuleT):RE (List Int):=
 qcm [ae.wanted] ae.cells
def F.Rising_name (ae:RuleT):RE (List Nat):=
 RE.ok ([114,105,115,105,110,103])
def F.Rising_holds (ae:RuleT) (am:List Int):RE Bool:=
 Fl.bR ((RE.ok (List.zip ae.cells (qbd ae.cells (some 1) none))).bind fun y11=>qam (fun(p5:Int × Int) (s4:Unit)=>(((atE am p5.1).bind fun x6=>(atE am p5.2).bind fun x7=>RE.ok (decide (x7≤x6))).bind fun k8=>if k8=true then (RE.ok (.rt false)) else (RE.ok (.nx ())):RE (Fl (Bool) (Unit)))) y11 ()) fun(p10:Unit)=>RE.ok true
def F.Seen_name (ae:RuleT):RE (List Nat):=
 RE.ok ([115,101,101,110])
def F.Seen_holds (ae:RuleT) (am:List Int):RE Bool:=
 (RE.ok (0:Int)).bind fun aM=>(RE.ok (0:Int)).bind fun bw=>((RE.ok ae.cells).bind fun y10=>qac (fun(ab:Int) (s4:Int × Int)=>(((atE am ab).bind fun x5=>RE.ok (decide (s4.2<x5))).bind fun k7=>if k7=true then ((RE.ok (s4.1+1:Int)).bind fun aM=>(atE am ab).bind fun bw=>RE.ok (aM,bw)) else (RE.ok (s4.1,s4.2))).bind fun(p8:Int × Int)=>RE.ok (p8.1,p8.2)) y10 (aM,bw)).bind fun(p9:Int × Int)=>RE.ok (decide (p9.1=ae.wanted))
def F.Seen_told_numbers (ae:RuleT):RE (List Int):=
 qcm [ae.wanted] ae.cells
def F.Counted_name (ae:RuleT):RE (List Nat):=
 RE.ok ([99,111,117,110,116])
def F.Counted_holds (ae:RuleT) (am:List Int):RE Bool:=
 (((RE.ok ae.cells).bind fun x3=>gd (leB x3.length) (lcE (fun(ab:Int)=>((atE am ab).bind fun x1=>RE.ok (decide (x1=ae.sign)))) (fun(ab:Int)=>(RE.ok ab)) x3)).bind fun x4=>RE.ok (List.length x4:Int)).bind fun x5=>RE.ok (decide (x5=ae.wanted))
def F.Counted_told_numbers (ae:RuleT):RE (List Int):=
 qcm ([ae.wanted,ae.sign]) ae.cells
def F.cells_with (ak:RuleT) (am:List Int):RE (List Int):=
 (F.Rule_spots ak).bind fun x3=>gd (leB x3.length) (lcE (fun(ab:Int)=>((atE am ab).bind fun x1=>(F.Rule_sign ak).bind fun x2=>RE.ok (decide (x1=x2)))) (fun(ab:Int)=>(RE.ok ab)) x3)
def F.are_joined (al:Int × Int × Int) (ay:List Int):RE Bool:=
 (RE.ok (decide (ay=[]))).bind fun k7=>if k7=true then RE.ok true else ((((RE.ok al).bind fun x1=>(RE.ok ay).bind fun x2=>(atE ay 0).bind fun x3=>F.reached x1 x2 x3).bind fun x4=>RE.ok (List.length x4:Int)).bind fun x5=>RE.ok (decide (x5=(List.length ay:Int))))
def F.Joined_name (ae:RuleT):RE (List Nat):=
 RE.ok ([106,111,105,110,101,100])
def F.Joined_holds (ae:RuleT) (am:List Int):RE Bool:=
 (RE.ok ae.ground).bind fun x1=>(F.cells_with ae am).bind fun x2=>F.are_joined x1 x2
def F.Joined_told_numbers (ae:RuleT):RE (List Int):=
 RE.ok [ae.sign]
def F.NoSquare_name (ae:RuleT):RE (List Nat):=
 RE.ok ([110,111,115,113,117,97,114,101])
def F.NoSquare_holds (ae:RuleT) (am:List Int):RE Bool:=
 Fl.bR ((F.squares ae.ground).bind fun y18=>qam (fun(ba:List Int) (s8:Unit)=>(((((RE.ok ba).bind fun x11=>gd (leB x11.length) (lcE (fun(ab:Int)=>((atE am ab).bind fun x9=>RE.ok (decide (x9=ae.sign)))) (fun(ab:Int)=>(RE.ok ab)) x11)).bind fun x12=>RE.ok (List.length x12:Int)).bind fun x13=>RE.ok (decide (x13=4))).bind fun k15=>if k15=true then (RE.ok (.rt false)) else (RE.ok (.nx ())):RE (Fl (Bool) (Unit)))) y18 ()) fun(p17:Unit)=>RE.ok true
def F.NoSquare_told_numbers (ae:RuleT):RE (List Int):=
 RE.ok [ae.sign]
def F.Ring_name (ae:RuleT):RE (List Nat):=
 RE.ok ([114,105,110,103])
def F.Ring_holds (ae:RuleT) (am:List Int):RE Bool:=
 (F.cells_with ae am).bind fun aj=>Fl.bR ((RE.ok aj).bind fun y14=>qam (fun(ab:Int) (s6:Unit)=>(((((F.beside ae.ground ab).bind fun x7=>gd (leB x7.length) (RE.ok (List.filter (fun(aw:Int)=>decide (aw∈aj)) x7))).bind fun x8=>RE.ok (List.length x8:Int)).bind fun x9=>RE.ok (!decide (x9=2))).bind fun k11=>if k11=true then (RE.ok (.rt false)) else (RE.ok (.nx ())):RE (Fl (Bool) (Unit)))) y14 ()) fun(p13:Unit)=>F.are_joined ae.ground aj
def F.Ring_told_numbers (ae:RuleT):RE (List Int):=
 RE.ok [ae.sign]
def F.number_of (aE:List Nat):RE Int:=
 ((((RE.ok 1).bind fun x1=>(qc4 aE).bind fun x2=>if decide (x1≤x2)=true then (RE.ok 2).bind fun x3=>RE.ok (decide (x2≤x3)) else RE.ok false).bind fun x4=>RE.ok (!x4)).bind fun k10=>if k10=true then RE.ok true else (((qiV aE 0).bind fun x5=>RE.ok (decide ([x5]=[48]))).bind fun k9=>if k9=true then ((qc4 aE).bind fun x7=>RE.ok (decide (1<x7))) else RE.ok false)).bind fun k11=>if k11=true then (RE.exc 33 []) else (((RE.ok aE).bind fun y16=>qac (fun(ai:Nat) (s13:Unit)=>(RE.ok (!decide (ai∈([48,49,50,51,52,53,54,55,56,57])))).bind fun k14=>if k14=true then RE.exc 33 [] else (RE.ok ())) y16 ()).bind fun(p15:Unit)=>qm2 aE)
def F.sign_told (al:Int × Int × Int) (aA:List Int) (aJ:Int):RE Int:=
 ((RE.ok (decide ((List.length aA:Int)≤aJ))).bind fun k5=>if k5=true then RE.ok true else (((RE.ok 1).bind fun x1=>(atE aA aJ).bind fun x2=>if decide (x1≤x2)=true then (RE.ok al.2.2).bind fun x3=>RE.ok (decide (x2≤x3)) else RE.ok false).bind fun x4=>RE.ok (!x4))).bind fun k6=>if k6=true then (RE.exc 33 []) else (atE aA aJ)
def F.cells_told (al:Int × Int × Int) (aA:List Int):RE (List Int):=
 ((RE.ok (decide (aA=[]))).bind fun k6=>if k6=true then RE.ok true else (((qhR aA).bind fun x1=>RE.ok (!decide (x1=(List.length aA:Int)))).bind fun k5=>if k5=true then RE.ok true else ((qnX aA).bind fun x3=>(F.many_cells al).bind fun x4=>RE.ok (decide (x4≤x3))))).bind fun k7=>if k7=true then (RE.exc 33 []) else (RE.ok aA)
def F.whole_rule (al:Int × Int × Int) (aE:List Nat) (aA:List Int):RE RuleT:=
 (RE.ok (!decide ((List.length aA:Int)=1))).bind fun k1=>if k1=true then (RE.exc 33 []) else ((F.sign_told al aA 0).bind fun ai=>((F.many_cells al).bind qar).bind fun ay=>(RE.ok (decide (aE=([106,111,105,110,101,100])))).bind fun k3=>if k3=true then (RE.ok (RuleT.mk .joined al ay 0 ai)) else ((RE.ok (decide (aE=([110,111,115,113,117,97,114,101])))).bind fun k4=>if k4=true then (RE.ok (RuleT.mk .nosquare al ay 0 ai)) else (RE.ok (RuleT.mk .ring al ay 0 ai))))
def F.read_rule (al:Int × Int × Int) (bn:D):RE RuleT:=
 ((tyE (eD bn) .str).bind fun x1=>RE.ok (!x1)).bind fun k2=>if k2=true then (RE.exc 33 []) else (((dS bn).bind fun x3=>(RE.ok [32]).bind fun x4=>qbm x3 x4).bind fun bt=>(atE bt 0).bind fun aE=>(qnQ aE ([[117,110,108,105,107,101],[115,117,109],[114,105,115,105,110,103],[115,101,101,110],[99,111,117,110,116],[106,111,105,110,101,100],[110,111,115,113,117,97,114,101],[114,105,110,103]])).bind fun k5=>if k5=true then (RE.exc 33 []) else (((RE.ok (qbd bt (some 1) none)).bind fun x6=>gd (leB x6.length) (lcE (fun(aG:List Nat)=>(RE.ok true)) (fun(aG:List Nat)=>(F.number_of aG)) x6)).bind fun aA=>(qnE aE ([[106,111,105,110,101,100],[110,111,115,113,117,97,114,101],[114,105,110,103]])).bind fun k7=>if k7=true then (F.whole_rule al aE aA) else ((RE.ok (decide (aE=([117,110,108,105,107,101])))).bind fun k8=>if k8=true then ((RE.ok al).bind fun x9=>(F.cells_told al aA).bind fun x10=>(RE.ok 0).bind fun x11=>(RE.ok 0).bind fun x12=>RE.ok (RuleT.mk .unlike x9 x10 x11 x12)) else ((RE.ok (decide (aE=([114,105,115,105,110,103])))).bind fun k13=>if k13=true then ((RE.ok al).bind fun x14=>(F.cells_told al aA).bind fun x15=>(RE.ok 0).bind fun x16=>(RE.ok 0).bind fun x17=>RE.ok (RuleT.mk .rising x14 x15 x16 x17)) else ((RE.ok (decide (aE=([99,111,117,110,116])))).bind fun k18=>if k18=true then ((F.sign_told al aA 1).bind fun ai=>(RE.ok al).bind fun x19=>(F.cells_told al (qbd aA (some 2) none)).bind fun x20=>(atE aA 0).bind fun x21=>(RE.ok ai).bind fun x22=>RE.ok (RuleT.mk .counted x19 x20 x21 x22)) else ((F.cells_told al (qbd aA (some 1) none)).bind fun ay=>(RE.ok (decide (aE=([115,117,109])))).bind fun k23=>if k23=true then ((RE.ok al).bind fun x24=>(RE.ok ay).bind fun x25=>(atE aA 0).bind fun x26=>(RE.ok 0).bind fun x27=>RE.ok (RuleT.mk .total x24 x25 x26 x27)) else ((RE.ok al).bind fun x28=>(RE.ok ay).bind fun x29=>(atE aA 0).bind fun x30=>(RE.ok 0).bind fun x31=>RE.ok (RuleT.mk .seen x28 x29 x30 x31))))))))
def F.Puzzle_place (ae:PuzT):RE (Int × Int × Int):=
 RE.ok ae.ground
def F.Puzzle_many (ae:PuzT):RE Int:=
 F.many_cells ae.ground
def F.Puzzle_clues (ae:PuzT):RE (List Int):=
 RE.ok ae.clues
def F.Puzzle_rules (ae:PuzT):RE (List RuleT):=
 RE.ok ae.rules
def F.Puzzle_rule_at (ae:PuzT) (a7:Int):RE RuleT:=
 atE ae.rules a7
def F.Puzzle_many_rules (ae:PuzT):RE Int:=
 RE.ok (List.length ae.rules:Int)
def F.Puzzle_clue_at (ae:PuzT) (ab:Int):RE Int:=
 atE ae.clues ab
def F.m_holds (r:RuleT) (a0:List Int):RE Bool:=match r.k with
 |.unlike=>F.Unlike_holds r a0
 |.total=>F.Total_holds r a0
 |.rising=>F.Rising_holds r a0
 |.seen=>F.Seen_holds r a0
 |.counted=>F.Counted_holds r a0
 |.joined=>F.Joined_holds r a0
 |.nosquare=>F.NoSquare_holds r a0
 |.ring=>F.Ring_holds r a0
def F.Puzzle_meets (ae:PuzT) (am:List Int):RE Bool:=
 (((F.is_filling ae.ground am).bind fun x1=>RE.ok (!x1)).bind fun k2=>if k2=true then RE.ok true else (RE.ok (decide (0∈am)))).bind fun k3=>if k3=true then (RE.ok false) else (Fl.bR ((RE.ok (List.zip ae.clues am)).bind fun y12=>qam (fun(p6:Int × Int) (s5:Unit)=>((RE.ok ((!decide (p6.1=0))&&(!decide (p6.1=p6.2)))).bind fun k7=>if k7=true then (RE.ok (.rt false)) else (RE.ok (.nx ())):RE (Fl (Bool) (Unit)))) y12 ()) fun(p9:Unit)=>((RE.ok ae.rules).bind fun x10=>gd (leB x10.length) (lcE (fun(ak:RuleT)=>(RE.ok true)) (fun(ak:RuleT)=>(F.m_holds ak am)) x10)).bind fun x11=>RE.ok (List.all x11 id))
def F.Puzzle_new (al:Int × Int × Int) (bh:List D) (aP:List Int):RE PuzT:=
 (RE.ok (!decide (3=3))).bind fun k1=>if k1=true then RE.exc 31 [] else ((F.floor_of al.1 al.2.1 al.2.2).bind fun w_ground=>(RE.ok (decide (12<(List.length bh:Int)))).bind fun k2=>if k2=true then RE.exc 34 [] else (((RE.ok bh).bind fun x3=>gd (leB x3.length) (lcE (fun(bn:D)=>(RE.ok true)) (fun(bn:D)=>(F.read_rule w_ground bn)) x3)).bind fun w_rule_list=>((F.is_filling w_ground aP).bind fun x4=>RE.ok (!x4)).bind fun k5=>if k5=true then RE.exc 34 [] else ((RE.ok aP).bind fun w_clue_list=>RE.ok (PuzT.mk w_ground w_rule_list w_clue_list))))
def F.others_of (ak:RuleT) (ab:Int):RE (List Int):=
 (F.Rule_spots ak).bind fun x1=>gd (leB x1.length) (RE.ok (List.filter (fun(aw:Int)=>!decide (aw=ab)) x1))
def F.are_others (ak:RuleT) (ab:Int) (aQ:List Int):RE Bool:=
 (F.others_of ak ab).bind fun a8=>((((RE.ok aQ).bind fun x1=>gd (leB x1.length) (RE.ok (List.filter (fun(aw:Int)=>!decide (aw∈a8)) x1))).bind fun x2=>RE.ok (List.length x2:Int)).bind fun x3=>RE.ok (decide (x3=0))).bind fun k7=>if k7=true then ((qhR aQ).bind fun x5=>RE.ok (decide (x5=(List.length aQ:Int)))) else RE.ok false
def F.Clue_strikes (ae:KK) (ac:PuzT) (ah:List Int) (ak:Option RuleT) (af:List Nat × Int × Int × Int × (List Int)):RE Bool:=
 (F.Puzzle_clue_at ac af.2.2.1).bind fun bu=>RE.ok ((!decide (bu=0))&&(!decide (bu=af.2.2.2.1)))
def F.m_name (r:RuleT)  : RE (List Nat):=match r.k with
 |.unlike=>F.Unlike_name r
 |.total=>F.Total_name r
 |.rising=>F.Rising_name r
 |.seen=>F.Seen_name r
 |.counted=>F.Counted_name r
 |.joined=>F.Joined_name r
 |.nosquare=>F.NoSquare_name r
 |.ring=>F.Ring_name r
def F.is_unlike (ak:Option RuleT) (ab:Int):RE Bool:=
 (RE.ok ak.isSome).bind fun k8=>if k8=true then ((((unO ak).bind fun x1=>F.m_name x1).bind fun x2=>RE.ok (decide (x2=([117,110,108,105,107,101])))).bind fun k7=>if k7=true then (((unO ak).bind fun x4=>F.Rule_spots x4).bind fun x6=>RE.ok (decide (ab∈x6))) else RE.ok false) else RE.ok false
def F.Only_fits (ae:KK) (ac:PuzT) (ak:Option RuleT) (af:List Nat × Int × Int × Int × (List Int)):RE Bool:=
 (RE.ok (af.2.2.2.2:List Int)).bind fun aD=>(F.is_unlike ak af.2.2.1).bind fun k5=>if k5=true then ((RE.ok (decide ((List.length aD:Int)=1))).bind fun k4=>if k4=true then ((unO ak).bind fun x1=>(RE.ok af.2.2.1).bind fun x2=>(RE.ok aD).bind fun x3=>F.are_others x1 x2 x3) else RE.ok false) else RE.ok false
def F.Place_fits (ae:KK) (ac:PuzT) (ak:Option RuleT) (af:List Nat × Int × Int × Int × (List Int)):RE Bool:=
 (RE.ok (af.2.2.2.2:List Int)).bind fun aD=>((F.Puzzle_place ac).bind fun x1=>RE.ok x1.2.2).bind fun av=>(((F.is_unlike ak af.2.2.1).bind fun x2=>RE.ok (!x2)).bind fun k8=>if k8=true then RE.ok true else (((((unO ak).bind fun x3=>F.Rule_spots x3).bind fun x4=>RE.ok (List.length x4:Int)).bind fun x5=>RE.ok (!decide (x5=av))).bind fun k7=>if k7=true then RE.ok true else (RE.ok (!decide ((List.length aD:Int)=1))))).bind fun k9=>if k9=true then (RE.ok false) else (((RE.ok 1).bind fun x10=>(atE aD 0).bind fun x11=>if decide (x10≤x11)=true then (RE.ok av).bind fun x12=>RE.ok (decide (x11≤x12)) else RE.ok false).bind fun k15=>if k15=true then ((atE aD 0).bind fun x13=>RE.ok (!decide (x13=af.2.2.2.1))) else RE.ok false)
def F.Place_strikes (ae:KK) (ac:PuzT) (ah:List Int) (ak:Option RuleT) (af:List Nat × Int × Int × Int × (List Int)):RE Bool:=
 Fl.bR (((unO ak).bind fun x1=>(RE.ok af.2.2.1).bind fun x2=>F.others_of x1 x2).bind fun y12=>qam (fun(aw:Int) (s6:Unit)=>(((atE ah aw).bind fun x7=>(atE af.2.2.2.2 0).bind fun x8=>F.stands x7 x8).bind fun k9=>if k9=true then (RE.ok (.rt false)) else (RE.ok (.nx ())):RE (Fl (Bool) (Unit)))) y12 ()) fun(p11:Unit)=>RE.ok true
def F.Pair_fits (ae:KK) (ac:PuzT) (ak:Option RuleT) (af:List Nat × Int × Int × Int × (List Int)):RE Bool:=
 (RE.ok (af.2.2.2.2:List Int)).bind fun aD=>(((F.is_unlike ak af.2.2.1).bind fun x1=>RE.ok (!x1)).bind fun k7=>if k7=true then RE.ok true else ((RE.ok (!decide ((List.length aD:Int)=2))).bind fun k6=>if k6=true then RE.ok true else (((unO ak).bind fun x2=>(RE.ok af.2.2.1).bind fun x3=>(RE.ok aD).bind fun x4=>F.are_others x2 x3 x4).bind fun x5=>RE.ok (!x5)))).bind fun k8=>if k8=true then (RE.ok false) else (((unO ak).bind fun x9=>F.Rule_spots x9).bind fun bc=>((RE.ok bc).bind fun x10=>(atE aD 0).bind fun x11=>qkw x10 x11).bind fun x14=>((RE.ok bc).bind fun x12=>(atE aD 1).bind fun x13=>qkw x12 x13).bind fun x15=>RE.ok (decide (x14<x15)))
def F.is_of (ak:Option RuleT) (aE:List Nat) (ab:Int):RE Bool:=
 (RE.ok ak.isSome).bind fun k8=>if k8=true then ((((unO ak).bind fun x1=>F.m_name x1).bind fun x2=>RE.ok (decide (x2=aE))).bind fun k7=>if k7=true then (((unO ak).bind fun x4=>F.Rule_spots x4).bind fun x6=>RE.ok (decide (ab∈x6))) else RE.ok false) else RE.ok false
def F.Count_fits (ae:KK) (ac:PuzT) (ak:Option RuleT) (af:List Nat × Int × Int × Int × (List Int)):RE Bool:=
 (RE.ok (decide (af.2.2.2.2=[]))).bind fun k1=>if k1=true then (F.is_of ak ([99,111,117,110,116]) af.2.2.1) else RE.ok false
def F.Count_strikes (ae:KK) (ac:PuzT) (ah:List Int) (ak:Option RuleT) (af:List Nat × Int × Int × Int × (List Int)):RE Bool:=
 ((unO ak).bind fun x1=>F.Rule_sign x1).bind fun ai=>((unO ak).bind fun x2=>(RE.ok af.2.2.1).bind fun x3=>F.others_of x2 x3).bind fun a8=>(RE.ok (decide (af.2.2.2.1=ai))).bind fun k4=>if k4=true then ((((RE.ok a8).bind fun x7=>gd (leB x7.length) (lcE (fun(aw:Int)=>((atE ah aw).bind fun x5=>(RE.ok ai).bind fun x6=>F.has_only x5 x6)) (fun(aw:Int)=>(RE.ok aw)) x7)).bind fun x8=>RE.ok (List.length x8:Int)).bind fun x10=>((unO ak).bind fun x9=>F.Rule_number x9).bind fun x11=>RE.ok (decide (x11≤x10))) else ((((RE.ok a8).bind fun x14=>gd (leB x14.length) (lcE (fun(aw:Int)=>((atE ah aw).bind fun x12=>(RE.ok ai).bind fun x13=>F.stands x12 x13)) (fun(aw:Int)=>(RE.ok aw)) x14)).bind fun x15=>RE.ok (List.length x15:Int)).bind fun x17=>((unO ak).bind fun x16=>F.Rule_number x16).bind fun x18=>RE.ok (decide (x17<x18)))
def F.neighbours_of (ak:RuleT) (ab:Int):RE ((Option Int) × (Option Int)):=
 (F.Rule_spots ak).bind fun bc=>(qkw bc ab).bind fun aJ=>(RE.ok (():Unit)).bind fun b7=>(RE.ok (():Unit)).bind fun b8=>((RE.ok (decide (0<aJ))).bind fun k1=>if k1=true then ((atE bc (aJ - 1)).bind fun b7=>RE.ok (some b7)) else (RE.ok (none:Option Int))).bind fun(p2:Option Int)=>((RE.ok (decide ((aJ+1)<(List.length bc:Int)))).bind fun k3=>if k3=true then ((atE bc (aJ+1)).bind fun b8=>RE.ok (some b8)) else (RE.ok (none:Option Int))).bind fun(p4:Option Int)=>RE.ok (p2,p4)
def F.Step_fits (ae:KK) (ac:PuzT) (ak:Option RuleT) (af:List Nat × Int × Int × Int × (List Int)):RE Bool:=
 (RE.ok (decide (af.2.2.2.2=[]))).bind fun k1=>if k1=true then (F.is_of ak ([114,105,115,105,110,103]) af.2.2.1) else RE.ok false
def F.Step_strikes (ae:KK) (ac:PuzT) (ah:List Int) (ak:Option RuleT) (af:List Nat × Int × Int × Int × (List Int)):RE Bool:=
 ((unO ak).bind fun x1=>(RE.ok af.2.2.1).bind fun x2=>F.neighbours_of x1 x2).bind fun p3=>((RE.ok p3.1.isSome).bind fun k11=>if k11=true then (((((RE.ok ah).bind fun x4=>(unO p3.1).bind fun x5=>atE x4 x5).bind fun x6=>F.signs_in x6).bind fun x7=>(RE.ok af.2.2.2.1).bind fun x8=>mmE false x7 x8).bind fun x9=>RE.ok (decide (af.2.2.2.1≤x9))) else RE.ok false).bind fun k12=>if k12=true then (RE.ok true) else ((RE.ok p3.2.isSome).bind fun k20=>if k20=true then (((((RE.ok ah).bind fun x13=>(unO p3.2).bind fun x14=>atE x13 x14).bind fun x15=>F.signs_in x15).bind fun x16=>(RE.ok af.2.2.2.1).bind fun x17=>mmE true x16 x17).bind fun x18=>RE.ok (decide (x18≤af.2.2.2.1))) else RE.ok false)
def F.Sums_fits (ae:KK) (ac:PuzT) (ak:Option RuleT) (af:List Nat × Int × Int × Int × (List Int)):RE Bool:=
 (RE.ok (decide (af.2.2.2.2=[]))).bind fun k1=>if k1=true then (F.is_of ak ([115,117,109]) af.2.2.1) else RE.ok false
def F.Sums_strikes (ae:KK) (ac:PuzT) (ah:List Int) (ak:Option RuleT) (af:List Nat × Int × Int × Int × (List Int)):RE Bool:=
 (RE.ok (af.2.2.2.1:Int)).bind fun aW=>(RE.ok (af.2.2.2.1:Int)).bind fun aN=>Fl.bR (((unO ak).bind fun x1=>(RE.ok af.2.2.1).bind fun x2=>F.others_of x1 x2).bind fun y25=>qam (fun(aw:Int) (s9:Int × Int)=>(((atE ah aw).bind fun x10=>F.signs_in x10).bind fun av=>(RE.ok (decide (av=[]))).bind fun k11=>if k11=true then (RE.ok (.rt true)) else (((atE av 0).bind fun x14=>RE.ok (s9.1+x14)).bind fun aW=>((atE av (-1)).bind fun x16=>RE.ok (s9.2+x16)).bind fun aN=>RE.ok (.nx (aW,aN))):RE (Fl (Bool) (Int × Int)))) y25 (aW,aN)) fun(p17:Int × Int)=>(((unO ak).bind fun x18=>F.Rule_number x18).bind fun x20=>RE.ok (decide (x20<p17.1))).bind fun k24=>if k24=true then RE.ok true else (((unO ak).bind fun x21=>F.Rule_number x21).bind fun x23=>RE.ok (decide (p17.2<x23)))
def F.Ways_fits (ae:KK) (ac:PuzT) (ak:Option RuleT) (af:List Nat × Int × Int × Int × (List Int)):RE Bool:=
 (RE.ok (decide (af.2.2.2.2=[]))).bind fun k5=>if k5=true then ((RE.ok ak.isSome).bind fun k4=>if k4=true then (((unO ak).bind fun x1=>F.Rule_spots x1).bind fun x3=>RE.ok (decide (af.2.2.1∈x3))) else RE.ok false) else RE.ok false
def F.Ways_strikes (ae:KK) (ac:PuzT) (ah:List Int) (ak:Option RuleT) (af:List Nat × Int × Int × Int × (List Int)):RE Bool:=
 ((unO ak).bind fun x1=>(RE.ok af.2.2.1).bind fun x2=>F.others_of x1 x2).bind fun a8=>((RE.ok a8).bind fun x4=>gd (leB x4.length) (lcE (fun(aw:Int)=>(RE.ok true)) (fun(aw:Int)=>((atE ah aw).bind fun x3=>F.signs_in x3)) x4)).bind fun b9=>(RE.ok (1:Int)).bind fun aM=>((RE.ok b9).bind fun y43=>qac (fun(av:List Int) (s5:Int)=>(qfP s5 (List.length av:Int)).bind fun aM=>RE.ok aM) y43 aM).bind fun(p6:Int)=>(RE.ok (decide (32<p6))).bind fun k7=>if k7=true then (RE.ok false) else (((qar (List.length ah:Int)).bind fun x8=>gd (leB x8.length) (RE.ok (List.map (fun(ab:Int)=>0) x8))).bind fun am=>(qhB am af.2.2.1 af.2.2.2.1).bind fun am=>Fl.bR ((qar p6).bind fun y42=>qam (fun(a7:Int) (s24:List Int)=>(((RE.ok (List.zip a8 b9)).bind fun y40=>qac (fun(p30:Int × (List Int)) (s29:(List Int) × Int)=>(((RE.ok p30.2).bind fun x31=>(qf0 s29.2 (List.length p30.2:Int)).bind fun x32=>atE x31 x32).bind fun x33=>(RE.ok p30.1).bind fun x34=>qhB s29.1 x34 x33).bind fun am=>(qjx s29.2 (List.length p30.2:Int)).bind fun a7=>RE.ok (am,a7)) y40 (s24,a7)).bind fun(p35:(List Int) × Int)=>((unO ak).bind fun x37=>(RE.ok p35.1).bind fun x36=>F.m_holds x37 x36).bind fun k38=>if k38=true then (RE.ok (.rt false)) else (RE.ok (.nx p35.1)):RE (Fl (Bool) (List Int)))) y42 am) fun(p41:List Int)=>RE.ok true)
def F.square_at (ac:PuzT) (bG:Int):RE (List Int):=
 Fl.bR (((F.Puzzle_place ac).bind fun x1=>F.squares x1).bind fun y11=>qam (fun(ba:List Int) (s5:Unit)=>(((atE ba 0).bind fun x6=>RE.ok (decide (x6=bG))).bind fun k8=>if k8=true then (RE.ok (.rt ba)) else (RE.ok (.nx ())):RE (Fl (List Int) (Unit)))) y11 ()) fun(p10:Unit)=>RE.ok []
def F.Square_fits (ae:KK) (ac:PuzT) (ak:Option RuleT) (af:List Nat × Int × Int × Int × (List Int)):RE Bool:=
 ((RE.ok ak.isNone).bind fun k9=>if k9=true then RE.ok true else ((((unO ak).bind fun x1=>F.m_name x1).bind fun x2=>RE.ok (!decide (x2=([110,111,115,113,117,97,114,101])))).bind fun k8=>if k8=true then RE.ok true else ((((unO ak).bind fun x4=>F.Rule_sign x4).bind fun x5=>RE.ok (!decide (x5=af.2.2.2.1))).bind fun k7=>if k7=true then RE.ok true else (RE.ok (!decide ((List.length af.2.2.2.2:Int)=1)))))).bind fun k10=>if k10=true then (RE.ok false) else (((RE.ok ac).bind fun x11=>(atE af.2.2.2.2 0).bind fun x12=>F.square_at x11 x12).bind fun x14=>RE.ok (decide (af.2.2.1∈x14)))
def F.Square_strikes (ae:KK) (ac:PuzT) (ah:List Int) (ak:Option RuleT) (af:List Nat × Int × Int × Int × (List Int)):RE Bool:=
 Fl.bR (((RE.ok ac).bind fun x1=>(atE af.2.2.2.2 0).bind fun x2=>F.square_at x1 x2).bind fun y16=>qam (fun(ab:Int) (s8:Unit)=>(((RE.ok (!decide (ab=af.2.2.1))).bind fun k12=>if k12=true then (((atE ah ab).bind fun x9=>(RE.ok af.2.2.2.1).bind fun x10=>F.has_only x9 x10).bind fun x11=>RE.ok (!x11)) else RE.ok false).bind fun k13=>if k13=true then (RE.ok (.rt false)) else (RE.ok (.nx ())):RE (Fl (Bool) (Unit)))) y16 ()) fun(p15:Unit)=>RE.ok true
def F.Reach_fits (ae:KK) (ac:PuzT) (ak:Option RuleT) (af:List Nat × Int × Int × Int × (List Int)):RE Bool:=
 ((RE.ok ak.isNone).bind fun k8=>if k8=true then RE.ok true else ((((unO ak).bind fun x1=>F.m_name x1).bind fun x2=>RE.ok (!decide (x2=([106,111,105,110,101,100])))).bind fun k7=>if k7=true then (((unO ak).bind fun x4=>F.m_name x4).bind fun x5=>RE.ok (!decide (x5=([114,105,110,103])))) else RE.ok false)).bind fun k9=>if k9=true then (RE.ok false) else ((RE.ok (af.2.2.2.2:List Int)).bind fun aD=>(((((unO ak).bind fun x10=>F.Rule_sign x10).bind fun x11=>RE.ok (decide (x11=af.2.2.2.1))).bind fun x13=>RE.ok (if x13=true then 1 else 0:Int)).bind fun x15=>RE.ok (2 - x15)).bind fun bA=>((RE.ok (!decide ((List.length aD:Int)=bA))).bind fun k18=>if k18=true then RE.ok true else ((qhR aD).bind fun x16=>RE.ok (!decide (x16=bA)))).bind fun k19=>if k19=true then (RE.ok false) else ((((RE.ok aD).bind fun x24=>gd (leB x24.length) (lcE (fun(aG:Int)=>((RE.ok (decide (aG=af.2.2.1))).bind fun k23=>if k23=true then RE.ok true else ((RE.ok (decide (aG<0))).bind fun k22=>if k22=true then RE.ok true else ((F.Puzzle_many ac).bind fun x21=>RE.ok (decide (x21≤aG)))))) (fun(aG:Int)=>(RE.ok aG)) x24)).bind fun x25=>RE.ok (List.length x25:Int)).bind fun x26=>RE.ok (decide (x26=0))))
def F.Reach_strikes (ae:KK) (ac:PuzT) (ah:List Int) (ak:Option RuleT) (af:List Nat × Int × Int × Int × (List Int)):RE Bool:=
 ((unO ak).bind fun x1=>F.Rule_sign x1).bind fun ai=>(RE.ok (af.2.2.1:Int)).bind fun ab=>(RE.ok (af.2.2.2.2:List Int)).bind fun aD=>Fl.bR ((RE.ok aD).bind fun y25=>qam (fun(aG:Int) (s6:Unit)=>((((atE ah aG).bind fun x7=>(RE.ok ai).bind fun x8=>F.has_only x7 x8).bind fun x9=>RE.ok (!x9)).bind fun k10=>if k10=true then (RE.ok (.rt false)) else (RE.ok (.nx ())):RE (Fl (Bool) (Unit)))) y25 ()) fun(p12:Unit)=>((F.may_have ah ai).bind fun x13=>gd (leB x13.length) (RE.ok (List.filter (fun(aw:Int)=>!decide (aw=ab)) x13))).bind fun aQ=>(RE.ok (decide (ai=af.2.2.2.1))).bind fun k14=>if k14=true then ((atE aD 0).bind fun x18=>((F.Puzzle_place ac).bind fun x15=>(qcm aQ [ab]).bind fun x16=>(RE.ok ab).bind fun x17=>F.reached x15 x16 x17).bind fun x19=>RE.ok (!decide (x18∈x19))) else ((atE aD 1).bind fun x23=>((F.Puzzle_place ac).bind fun x20=>(RE.ok aQ).bind fun x21=>(atE aD 0).bind fun x22=>F.reached x20 x21 x22).bind fun x24=>RE.ok (!decide (x23∈x24)))
def F.Turn_fits (ae:KK) (ac:PuzT) (ak:Option RuleT) (af:List Nat × Int × Int × Int × (List Int)):RE Bool:=
 ((RE.ok ak.isNone).bind fun k4=>if k4=true then RE.ok true else (((unO ak).bind fun x1=>F.m_name x1).bind fun x2=>RE.ok (!decide (x2=([114,105,110,103]))))).bind fun k5=>if k5=true then (RE.ok false) else ((RE.ok (decide (af.2.2.2.2=[]))).bind fun k6=>if k6=true then (((unO ak).bind fun x7=>F.Rule_sign x7).bind fun x8=>RE.ok (decide (x8=af.2.2.2.1))) else ((RE.ok (decide ((List.length af.2.2.2.2:Int)=1))).bind fun k14=>if k14=true then ((atE af.2.2.2.2 0).bind fun x12=>((F.Puzzle_place ac).bind fun x10=>(RE.ok af.2.2.1).bind fun x11=>F.beside x10 x11).bind fun x13=>RE.ok (decide (x12∈x13))) else RE.ok false))
def F.Turn_strikes (ae:KK) (ac:PuzT) (ah:List Int) (ak:Option RuleT) (af:List Nat × Int × Int × Int × (List Int)):RE Bool:=
 ((unO ak).bind fun x1=>F.Rule_sign x1).bind fun ai=>(RE.ok (af.2.2.1:Int)).bind fun aJ=>Fl.bR ((RE.ok (!decide (af.2.2.2.2=[]))).bind fun k2=>if k2=true then ((atE af.2.2.2.2 0).bind fun aJ=>(((atE ah aJ).bind fun x7=>(RE.ok ai).bind fun x8=>F.has_only x7 x8).bind fun x9=>RE.ok (!x9)).bind fun k10=>if k10=true then (RE.ok false).bind fun b=>RE.ok (.rt b) else (RE.ok (.nx aJ))) else (RE.ok (.nx aJ)):RE (Fl (Bool) (Int))) fun p11=>(((F.Puzzle_place ac).bind fun x12=>(RE.ok p11).bind fun x13=>F.beside x12 x13).bind fun x14=>gd (leB x14.length) (RE.ok (List.filter (fun(ab:Int)=>!decide (ab=af.2.2.1)) x14))).bind fun bB=>(((RE.ok bB).bind fun x17=>gd (leB x17.length) (lcE (fun(ab:Int)=>((atE ah ab).bind fun x15=>(RE.ok ai).bind fun x16=>F.has_only x15 x16)) (fun(ab:Int)=>(RE.ok ab)) x17)).bind fun x18=>RE.ok (List.length x18:Int)).bind fun bi=>(((RE.ok bB).bind fun x21=>gd (leB x21.length) (lcE (fun(ab:Int)=>((atE ah ab).bind fun x19=>(RE.ok ai).bind fun x20=>F.stands x19 x20)) (fun(ab:Int)=>(RE.ok ab)) x21)).bind fun x22=>RE.ok (List.length x22:Int)).bind fun bC=>(RE.ok (decide (af.2.2.2.2=[]))).bind fun k23=>if k23=true then (RE.ok ((decide (bC<2))||(decide (2<bi)))) else ((RE.ok (decide (ai=af.2.2.2.1))).bind fun k24=>if k24=true then (RE.ok (decide (2≤bi))) else (RE.ok (decide (bC<2))))
def F.is_in_bounds (ac:PuzT) (af:List Nat × Int × Int × Int × (List D)):RE Bool:=
 ((RE.ok 0).bind fun x1=>(RE.ok af.2.2.1).bind fun x2=>if decide (x1≤x2)=true then (F.Puzzle_many ac).bind fun x3=>RE.ok (decide (x2<x3)) else RE.ok false).bind fun k8=>if k8=true then ((RE.ok 1).bind fun x5=>(RE.ok af.2.2.2.1).bind fun x6=>if decide (x5≤x6)=true then ((F.Puzzle_place ac).bind fun x4=>RE.ok x4.2.2).bind fun x7=>RE.ok (decide (x6≤x7)) else RE.ok false) else RE.ok false
def F.rule_of (ac:PuzT) (af:List Nat × Int × Int × Int × (List D)):RE (Option RuleT):=
 ((RE.ok 0).bind fun x1=>(RE.ok af.2.1).bind fun x2=>if decide (x1≤x2)=true then (F.Puzzle_many_rules ac).bind fun x3=>RE.ok (decide (x2<x3)) else RE.ok false).bind fun k4=>if k4=true then ((F.Puzzle_rule_at ac af.2.1).bind fun x5=>RE.ok ((some) x5)) else (RE.ok (none:Option RuleT))
def F.m_strikes (r:KK) (a0:PuzT) (a1:List Int) (a2:Option RuleT) (a3:List Nat × Int × Int × Int × (List Int)):RE Bool:=match r with
 |.clue=>F.Clue_strikes r a0 a1 a2 a3
 |.only=>F.Only_strikes r a0 a1 a2 a3
 |.place=>F.Place_strikes r a0 a1 a2 a3
 |.pair=>F.Pair_strikes r a0 a1 a2 a3
 |.count=>F.Count_strikes r a0 a1 a2 a3
 |.step=>F.Step_strikes r a0 a1 a2 a3
 |.sums=>F.Sums_strikes r a0 a1 a2 a3
 |.ways=>F.Ways_strikes r a0 a1 a2 a3
 |.square=>F.Square_strikes r a0 a1 a2 a3
 |.reach=>F.Reach_strikes r a0 a1 a2 a3
 |.turn=>F.Turn_strikes r a0 a1 a2 a3
def F.m_fits (r:KK) (a0:PuzT) (a1:Option RuleT) (a2:List Nat × Int × Int × Int × (List Int)):RE Bool:=match r with
 |.clue=>F.Clue_fits r a0 a1 a2
 |.only=>F.Only_fits r a0 a1 a2
 |.place=>F.Place_fits r a0 a1 a2
 |.pair=>F.Pair_fits r a0 a1 a2
 |.count=>F.Count_fits r a0 a1 a2
 |.step=>F.Step_fits r a0 a1 a2
 |.sums=>F.Sums_fits r a0 a1 a2
 |.ways=>F.Ways_fits r a0 a1 a2
 |.square=>F.Square_fits r a0 a1 a2
 |.reach=>F.Reach_fits r a0 a1 a2
 |.turn=>F.Turn_fits r a0 a1 a2
def F.allowed (ac:PuzT) (ah:List Int) (af:List Nat × Int × Int × Int × (List D)):RE Bool:=
 (F.kind_of af.1).bind fun a9=>((RE.ok a9.isNone).bind fun k4=>if k4=true then RE.ok true else (((F.is_in_bounds ac af).bind fun x1=>RE.ok (!x1)).bind fun k3=>if k3=true then RE.ok true else ((F.are_numbers af.2.2.2.2).bind fun x2=>RE.ok (!x2)))).bind fun k5=>if k5=true then (RE.ok false) else ((F.rule_of ac af).bind fun ak=>((unO a9).bind fun x9=>(RE.ok ac).bind fun x6=>(RE.ok ak).bind fun x7=>(dT5 (dLs dI) af).bind fun x8=>F.m_fits x9 x6 x7 x8).bind fun k15=>if k15=true then ((unO a9).bind fun x14=>(RE.ok ac).bind fun x10=>(RE.ok ah).bind fun x11=>(RE.ok ak).bind fun x12=>(dT5 (dLs dI) af).bind fun x13=>F.m_strikes x14 x10 x11 x12 x13) else RE.ok false)
def F.m_told_numbers (r:RuleT)  : RE (List Int):=match r.k with
 |.unlike=>F.Rule_told_numbers r
 |.total=>F.Total_told_numbers r
 |.rising=>F.Rule_told_numbers r
 |.seen=>F.Seen_told_numbers r
 |.counted=>F.Counted_told_numbers r
 |.joined=>F.Joined_told_numbers r
 |.nosquare=>F.NoSquare_told_numbers r
 |.ring=>F.Ring_told_numbers r
def F.Rule_line (ae:RuleT):RE (List Nat):=
 (RE.ok [32]).bind fun x5=>(((F.m_name ae).bind fun x1=>RE.ok [x1]).bind fun x3=>((F.m_told_numbers ae).bind fun x2=>gd (leB x2.length) (lcE (fun(a7:Int)=>(RE.ok true)) (fun(a7:Int)=>(qlf a7)) x2)).bind fun x4=>qcm x3 x4).bind fun x6=>qcp x5 x6
def F.Puzzle_lines (ae:PuzT):RE (List (List Nat)):=
 (RE.ok ae.rules).bind fun x1=>gd (leB x1.length) (lcE (fun(ak:RuleT)=>(RE.ok true)) (fun(ak:RuleT)=>(F.Rule_line ak)) x1)
def F.look_at_move (aK:Int):RE Unit:=
 (RE.ok (!(decide (0≤aK)&&decide (aK≤7)))).bind fun k1=>if k1=true then RE.exc 38 [] else (RE.ok ())
def F.turned_spot (aN:Int) (aF:Int × Int):RE (Int × Int):=
 RE.ok (aF.2,(aN - 1) - aF.1)
def F.moved_floor (al:Int × Int × Int) (aK:Int):RE (Int × Int × Int):=
 (F.look_at_move aK).bind fun _=>(RE.ok al).bind fun p1=>(RE.ok (decide ((Int.fmod aK 2)=1))).bind fun k2=>if k2=true then (RE.ok (p1.2.1,p1.1,p1.2.2)) else (RE.ok (p1.1,p1.2.1,p1.2.2))
def F.moved_cells (al:Int × Int × Int) (aK:Int):RE (List Int):=
 (F.look_at_move aK).bind fun _=>(RE.ok ([]:List Int)).bind fun aj=>(((F.many_cells al).bind qar).bind fun y33=>qac (fun(ab:Int) (s16:List Int)=>(RE.ok al).bind fun p17=>(F.spot_of al ab).bind fun aF=>((RE.ok (decide (4≤aK))).bind fun k18=>if k18=true then ((RE.ok ((aF.1,(p17.2.1 - 1) - aF.2):Int × Int)).bind fun aF=>RE.ok aF) else (RE.ok aF)).bind fun(p19:Int × Int)=>((qar (Int.fmod aK 4)).bind fun y31=>qac (fun(bI:Int) (s23:Int × Int × (Int × Int))=>(F.turned_spot s23.1 s23.2.2).bind fun aF=>((RE.ok s23.2.1).bind fun x25=>(RE.ok s23.1).bind fun x26=>RE.ok (x25,x26)).bind fun p24=>RE.ok (p24.1,p24.2,aF)) y31 (p17.1,p17.2.1,p19)).bind fun(p27:Int × Int × (Int × Int))=>(((qfP p27.2.2.1 p27.2.1).bind fun x28=>RE.ok (x28+p27.2.2.2)).bind fun x30=>qa5 s16 x30).bind fun aj=>RE.ok aj) y33 aj).bind fun(p32:List Int)=>RE.ok p32
def F.read_filling (al:Int × Int × Int) (be:D):RE (List Int):=
 ((tyE (eD be) .str).bind fun x1=>RE.ok (!x1)).bind fun k2=>if k2=true then (RE.exc 32 []) else (((dS be).bind fun x3=>(RE.ok [47]).bind fun x4=>qbm x3 x4).bind fun aX=>(RE.ok (!decide ((List.length aX:Int)=al.1))).bind fun k5=>if k5=true then (RE.exc 32 []) else ((RE.ok ([]:List Int)).bind fun am=>((RE.ok aX).bind fun y36=>qac (fun(aT:List Nat) (s20:List Int)=>((qc4 aT).bind fun x21=>RE.ok (!decide (x21=al.2.1))).bind fun k23=>if k23=true then RE.exc 32 [] else (((RE.ok aT).bind fun y34=>qac (fun(aH:Nat) (s28:List Int)=>((qav ([46,49,50,51,52,53,54]) none (some (al.2.2+1))).bind fun x30=>RE.ok (!decide (aH∈x30))).bind fun k31=>if k31=true then RE.exc 32 [] else (((qbQ ([46,49,50,51,52,53,54]) [aH]).bind fun x32=>qa5 s28 x32).bind fun am=>RE.ok am)) y34 s20).bind fun(p33:List Int)=>RE.ok p33)) y36 am).bind fun(p35:List Int)=>RE.ok p35))
def F.full (al:Int × Int × Int):RE (List Int):=
 ((F.many_cells al).bind qar).bind fun x4=>gd (leB x4.length) (lcE (fun(ab:Int)=>(RE.ok true)) (fun(ab:Int)=>((F.bit (al.2.2+1)).bind fun x2=>RE.ok (x2 - 1))) x4)
def F.filling_by (ah:List Int):RE (List Int):=
 (RE.ok ([]:List Int)).bind fun am=>((RE.ok ah).bind fun y9=>qac (fun(aO:Int) (s3:List Int)=>(F.signs_in aO).bind fun av=>((RE.ok (decide ((List.length av:Int)=1))).bind fun k4=>if k4=true then (((atE av 0).bind fun x6=>qa5 s3 x6).bind fun am=>RE.ok am) else ((qa5 s3 0).bind fun am=>RE.ok am)).bind fun(p7:List Int)=>RE.ok p7) y9 am).bind fun(p8:List Int)=>RE.ok p8
def F.masks_by (al:Int × Int × Int) (am:List Int):RE (List Int):=
 (F.full al).bind fun ah=>((RE.ok (qj1 am)).bind fun y13=>qac (fun(p5:Int × Int) (s4:List Int)=>((RE.ok (decide (0<p5.2))).bind fun k6=>if k6=true then (((F.bit p5.2).bind fun x9=>(RE.ok p5.1).bind fun x10=>qhB s4 x10 x9).bind fun ah=>RE.ok ah) else (RE.ok s4)).bind fun(p11:List Int)=>RE.ok p11) y13 ah).bind fun(p12:List Int)=>RE.ok p12
def F.many_floors (ac:PuzT):RE Int:=
 (RE.ok (1:Int)).bind fun aM=>((F.Puzzle_clues ac).bind fun y21=>qac (fun(bu:Int) (s7:Int)=>((RE.ok (decide (bu=0))).bind fun k8=>if k8=true then ((((F.Puzzle_place ac).bind fun x15=>RE.ok x15.2.2).bind fun x17=>qfP s7 x17).bind fun aM=>(RE.ok (decide (1024<aM))).bind fun k18=>if k18=true then RE.exc 36 [] else (RE.ok aM)) else (RE.ok s7)).bind fun(p19:Int)=>RE.ok p19) y21 aM).bind fun(p20:Int)=>RE.ok p20
def F.laid (ac:PuzT) (bo:List Int) (a7:Int):RE (List Int):=
 ((F.Puzzle_place ac).bind fun x1=>RE.ok x1.2.2).bind fun av=>(F.Puzzle_clues ac).bind fun am=>(((F.Puzzle_many ac).bind qop).bind fun y35=>qac (fun(ab:Int) (s13:Int × (List Int))=>(((atE s13.2 ab).bind fun x14=>RE.ok (decide (x14=0))).bind fun k16=>if k16=true then ((((((atE bo ab).bind fun x25=>RE.ok (x25+s13.1)).bind fun x27=>qf0 x27 av).bind fun x30=>RE.ok (1+x30)).bind fun x31=>(RE.ok ab).bind fun x32=>qhB s13.2 x32 x31).bind fun am=>(qjx s13.1 av).bind fun a7=>RE.ok (a7,am)) else (RE.ok (s13.1,s13.2))).bind fun(p33:Int × (List Int))=>RE.ok (p33.1,p33.2)) y35 (a7,am)).bind fun(p34:Int × (List Int))=>RE.ok p34.2
def F.answers (ac:PuzT) (bJ:Int):RE (List (List Int)):=
 (((F.Puzzle_many ac).bind qar).bind fun x2=>gd (leB x2.length) (RE.ok (List.map (fun(ab:Int)=>0) x2))).bind fun bo=>(RE.ok ([]:List (List Int))).bind fun aj=>Fl.bR (((F.many_floors ac).bind qar).bind fun y11=>qam (fun(a7:Int) (s6:List (List Int))=>((F.laid ac bo a7).bind fun am=>(F.Puzzle_meets ac am).bind fun k7=>if k7=true then ((qa5 s6 am).bind fun aj=>(RE.ok (decide ((List.length aj:Int)=bJ))).bind fun k8=>if k8=true then (RE.ok (.rt aj)) else (RE.ok (.nx aj))) else (RE.ok (.nx s6)):RE (Fl (List (List Int)) (List (List Int))))) y11 aj) fun(p10:List (List Int))=>RE.ok p10
def F.filled (ac:PuzT) (aA:List Int):RE (Option (List Int)):=
 ((F.Puzzle_place ac).bind fun x1=>RE.ok x1.2.2).bind fun av=>((RE.ok aA).bind fun x2=>gd (leB x2.length) (lcE (fun(a7:Int)=>(RE.ok true)) (fun(a7:Int)=>(qf0 a7 av)) x2)).bind fun bo=>Fl.bR (((F.many_floors ac).bind qar).bind fun y9=>qam (fun(a7:Int) (s5:Unit)=>((F.laid ac bo a7).bind fun am=>(F.Puzzle_meets ac am).bind fun k6=>if k6=true then (RE.ok (.rt (some am))) else (RE.ok (.nx ())):RE (Fl (Option (List Int)) (Unit)))) y9 ()) fun(p8:Unit)=>RE.ok (none:Option (List Int))
def F.struck (ah:List Int) (ab:Int) (ai:Int):RE (List Int):=
 (RE.ok (ah:List Int)).bind fun aj=>(((atE aj ab).bind fun x1=>(RE.ok ai).bind fun x2=>F.stands x1 x2).bind fun k3=>if k3=true then ((((atE aj ab).bind fun x8=>(F.bit ai).bind fun x9=>RE.ok (x8 - x9)).bind fun x10=>(RE.ok ab).bind fun x11=>qhB aj x11 x10).bind fun aj=>RE.ok aj) else (RE.ok aj)).bind fun(p12:List Int)=>RE.ok p12
def F.clashes (ah:List Int):RE Bool:=
 RE.ok (decide (0∈ah))
def F.is_settled (ah:List Int):RE Bool:=
 ((RE.ok ah).bind fun x4=>gd (leB x4.length) (lcE (fun(aO:Int)=>(RE.ok true)) (fun(aO:Int)=>(((F.signs_in aO).bind fun x1=>RE.ok (List.length x1:Int)).bind fun x2=>RE.ok (decide (x2=1)))) x4)).bind fun x5=>RE.ok (List.all x5 id)
def F.ways (ah:List Int):RE Int:=
 (RE.ok (1:Int)).bind fun bx=>((RE.ok ah).bind fun y11=>qac (fun(aO:Int) (s5:Int)=>(((F.signs_in aO).bind fun x7=>RE.ok (List.length x7:Int)).bind fun x9=>qfP s5 x9).bind fun bx=>RE.ok bx) y11 bx).bind fun(p10:Int)=>RE.ok p10
def F.Rule_reckons (ae:RuleT):RE Bool:=
 RE.ok false
def F.Total_reckons (ae:RuleT):RE Bool:=
 RE.ok true
def F.Rising_reckons (ae:RuleT):RE Bool:=
 RE.ok true
def F.Seen_reckons (ae:RuleT):RE Bool:=
 RE.ok true
def F.Puzzle_clued (ae:PuzT) (aP:List Int):RE PuzT:=
 (RE.ok ae.ground).bind fun x2=>((F.Puzzle_lines ae).bind fun x1=>RE.ok ((List.map (eS)) x1)).bind fun x3=>(RE.ok aP).bind fun x4=>F.Puzzle_new x2 x3 x4
def F.is_standing (ac:PuzT) (ah:List Int) (af:List Nat × Int × Int × Int × (List D)):RE Bool:=
 (F.is_in_bounds ac af).bind fun k3=>if k3=true then ((atE ah af.2.2.1).bind fun x1=>(RE.ok af.2.2.2.1).bind fun x2=>F.stands x1 x2) else RE.ok false
def F.Kind_mores (ae:KK) (ac:PuzT) (ah:List Int) (ak:Option RuleT) (ab:Int) (ai:Int):RE (List (List Int)):=
 RE.ok [[]]
def F.Only_mores (ae:KK) (ac:PuzT) (ah:List Int) (ak:Option RuleT) (ab:Int) (ai:Int):RE (List (List Int)):=
 (((unO ak).bind fun x1=>(RE.ok ab).bind fun x2=>F.others_of x1 x2).bind fun x3=>RE.ok (qbF x3)).bind fun x4=>gd (leB x4.length) (RE.ok (List.map (fun(aw:Int)=>[aw]) x4))
def F.Place_mores (ae:KK) (ac:PuzT) (ah:List Int) (ak:Option RuleT) (ab:Int) (ai:Int):RE (List (List Int)):=
 ((RE.ok 1).bind fun x4=>(((F.Puzzle_place ac).bind fun x1=>RE.ok x1.2.2).bind fun x2=>RE.ok (x2+1)).bind fun x5=>qeZ x4 x5).bind fun x6=>gd (leB x6.length) (RE.ok (List.map (fun(aw:Int)=>[aw]) x6))
def F.Pair_mores (ae:KK) (ac:PuzT) (ah:List Int) (ak:Option RuleT) (ab:Int) (ai:Int):RE (List (List Int)):=
 ((unO ak).bind fun x1=>(RE.ok ab).bind fun x2=>F.others_of x1 x2).bind fun a8=>(RE.ok ([]:List (List Int))).bind fun aj=>((qar (List.length a8:Int)).bind fun y23=>qac (fun(ax:Int) (s12:List (List Int))=>((RE.ok (qbd a8 (some (ax+1)) none)).bind fun y21=>qac (fun(aw:Int) (s16:List (List Int))=>(((atE a8 ax).bind fun x17=>(RE.ok aw).bind fun x18=>RE.ok [x17,x18]).bind fun x19=>qa5 s16 x19).bind fun aj=>RE.ok aj) y21 s12).bind fun(p20:List (List Int))=>RE.ok p20) y23 aj).bind fun(p22:List (List Int))=>RE.ok (qf2 p22)
def F.must_have (ah:List Int) (ai:Int):RE (List Int):=
 (qar (List.length ah:Int)).bind fun x3=>gd (leB x3.length) (lcE (fun(ab:Int)=>((atE ah ab).bind fun x1=>(RE.ok ai).bind fun x2=>F.has_only x1 x2)) (fun(ab:Int)=>(RE.ok ab)) x3)
def F.Square_mores (ae:KK) (ac:PuzT) (ah:List Int) (ak:Option RuleT) (ab:Int) (ai:Int):RE (List (List Int)):=
 ((F.Puzzle_place ac).bind fun x1=>F.squares x1).bind fun x3=>gd (leB x3.length) (lcE (fun(ba:List Int)=>(RE.ok (decide (ab∈ba)))) (fun(ba:List Int)=>((atE ba 0).bind fun x2=>RE.ok [x2])) x3)
def F.Reach_mores (ae:KK) (ac:PuzT) (ah:List Int) (ak:Option RuleT) (ab:Int) (ai:Int):RE (List (List Int)):=
 (((RE.ok ah).bind fun x2=>((unO ak).bind fun x1=>F.Rule_sign x1).bind fun x3=>F.must_have x2 x3).bind fun x4=>gd (leB x4.length) (RE.ok (List.filter (fun(aw:Int)=>!decide (aw=ab)) x4))).bind fun bi=>(((unO ak).bind fun x5=>F.Rule_sign x5).bind fun x7=>RE.ok (decide (ai=x7))).bind fun k8=>if k8=true then ((RE.ok bi).bind fun x9=>gd (leB x9.length) (RE.ok (List.map (fun(aw:Int)=>[aw]) x9))) else ((RE.ok (qbd bi (some 1) none)).bind fun x12=>gd (leB x12.length) (lcE (fun(aw:Int)=>(RE.ok true)) (fun(aw:Int)=>((atE bi 0).bind fun x10=>(RE.ok aw).bind fun x11=>RE.ok [x10,x11])) x12))
def F.Turn_mores (ae:KK) (ac:PuzT) (ah:List Int) (ak:Option RuleT) (ab:Int) (ai:Int):RE (List (List Int)):=
 (((F.Puzzle_place ac).bind fun x1=>(RE.ok ab).bind fun x2=>F.beside x1 x2).bind fun x3=>gd (leB x3.length) (RE.ok (List.map (fun(aw:Int)=>[aw]) x3))).bind fun x5=>qcm [[]] x5
def F.kinds_by (bt:List (List Nat)):RE (List KK):=
 F.all_kinds.bind fun x3=>gd (leB x3.length) (lcE (fun(a9:KK)=>((F.m_word a9).bind fun x1=>evC .isin (eS x1) ((eL eS) bt))) (fun(a9:KK)=>(RE.ok a9)) x3)
def F.m_mores (r:KK) (a0:PuzT) (a1:List Int) (a2:Option RuleT) (a3:Int) (a4:Int):RE (List (List Int)):=match r with
 |.clue=>F.Kind_mores r a0 a1 a2 a3 a4
 |.only=>F.Only_mores r a0 a1 a2 a3 a4
 |.place=>F.Place_mores r a0 a1 a2 a3 a4
 |.pair=>F.Pair_mores r a0 a1 a2 a3 a4
 |.count=>F.Kind_mores r a0 a1 a2 a3 a4
 |.step=>F.Kind_mores r a0 a1 a2 a3 a4
 |.sums=>F.Kind_mores r a0 a1 a2 a3 a4
 |.ways=>F.Kind_mores r a0 a1 a2 a3 a4
 |.square=>F.Square_mores r a0 a1 a2 a3 a4
 |.reach=>F.Reach_mores r a0 a1 a2 a3 a4
 |.turn=>F.Turn_mores r a0 a1 a2 a3 a4
def F.thought_at (ac:PuzT) (ah:List Int) (a9:KK) (a7:Int) (ab:Int):RE (Option (List Nat × Int × Int × Int × (List Int))):=
 (RE.ok (():Unit)).bind fun ak=>(((F.Puzzle_many_rules ac).bind fun x2=>RE.ok (decide (a7<x2))).bind fun k3=>if k3=true then ((F.Puzzle_rule_at ac a7).bind fun ak=>RE.ok (some ak)) else (RE.ok (none:Option RuleT))).bind fun(p4:Option RuleT)=>Fl.bR (((atE ah ab).bind fun x5=>F.signs_in x5).bind fun y44=>qam (fun(ai:Int) (s24:Unit)=>(Fl.bF ((F.m_mores a9 ac ah p4 ab ai).bind fun y42=>qam (fun(aD:List Int) (s32:Unit)=>(((F.m_word a9).bind fun x33=>(RE.ok a7).bind fun x34=>(RE.ok ab).bind fun x35=>(RE.ok ai).bind fun x36=>(RE.ok aD).bind fun x37=>RE.ok (x33,x34,x35,x36,x37)).bind fun af=>((F.m_fits a9 ac p4 af).bind fun k38=>if k38=true then (F.m_strikes a9 ac ah p4 af) else RE.ok false).bind fun k39=>if k39=true then (RE.ok (.rt (some af))) else (RE.ok (.nx ())):RE (Fl (Option (List Nat × Int × Int × Int × (List Int))) (Unit)))) y42 ()) fun(p41:Unit)=>RE.ok (.nx ()):RE (Fl (Option (List Nat × Int × Int × Int × (List Int))) (Unit)))) y44 ()) fun(p43:Unit)=>RE.ok (none:Option (List Nat × Int × Int × Int × (List Int)))
def F.first_of (ac:PuzT) (ah:List Int) (a9:KK) (a7:Int) (ay:List Int):RE (Option (List Nat × Int × Int × Int × (List Int))):=
 Fl.bR ((RE.ok ay).bind fun y6=>qam (fun(ab:Int) (s2:Unit)=>((F.thought_at ac ah a9 a7 ab).bind fun aj=>(RE.ok aj.isSome).bind fun k3=>if k3=true then (RE.ok (.rt aj)) else (RE.ok (.nx ())):RE (Fl (Option (List Nat × Int × Int × Int × (List Int))) (Unit)))) y6 ()) fun(p5:Unit)=>RE.ok (none:Option (List Nat × Int × Int × Int × (List Int)))
def F.is_for (a9:KK) (ak:RuleT):RE Bool:=
 ((F.m_word a9).bind fun x1=>qoT qcV false x1).bind fun k5=>if k5=true then RE.ok true else ((F.m_name ak).bind fun x3=>((F.m_word a9).bind fun x2=>qoE qcV x2).bind fun x4=>qnE x3 x4)
def F.next_thought (ac:PuzT) (ah:List Int) (aL:List (List Nat)):RE (Option (List Nat × Int × Int × Int × (List Int))):=
 (F.clashes ah).bind fun k1=>if k1=true then (RE.ok (none:Option (List Nat × Int × Int × Int × (List Int)))) else (Fl.bR ((F.kinds_by aL).bind fun y113=>qam (fun(a9:KK) (s39:Unit)=>((RE.ok (():Unit)).bind fun aj=>(((F.m_word a9).bind fun x40=>(atE qaf 0).bind fun x41=>RE.ok (decide (x40=x41))).bind fun k42=>if k42=true then (((RE.ok ac).bind fun x77=>(RE.ok ah).bind fun x78=>(RE.ok a9).bind fun x79=>(RE.ok 0).bind fun x80=>((F.Puzzle_many ac).bind qar).bind fun x81=>F.first_of x77 x78 x79 x80 x81).bind fun aj=>RE.ok aj) else ((((F.Puzzle_many_rules ac).bind qar).bind fun y108=>qac (fun(a7:Int) (s91:Option (List Nat × Int × Int × Int × (List Int)))=>(F.Puzzle_rule_at ac a7).bind fun ak=>(((RE.ok s91.isNone).bind fun k92=>if k92=true then (F.is_for a9 ak) else RE.ok false).bind fun k93=>if k93=true then (((RE.ok ac).bind fun x101=>(RE.ok ah).bind fun x102=>(RE.ok a9).bind fun x103=>(RE.ok a7).bind fun x104=>((F.Rule_spots ak).bind fun x100=>RE.ok (qbF x100)).bind fun x105=>F.first_of x101 x102 x103 x104 x105).bind fun aj=>RE.ok aj) else (RE.ok s91)).bind fun(p106:Option (List Nat × Int × Int × Int × (List Int)))=>RE.ok p106) y108 (none:Option (List Nat × Int × Int × Int × (List Int)))).bind fun(p107:Option (List Nat × Int × Int × Int × (List Int)))=>RE.ok p107)).bind fun(p109:Option (List Nat × Int × Int × Int × (List Int)))=>(RE.ok p109.isSome).bind fun k110=>if k110=true then (RE.ok (.rt p109)) else (RE.ok (.nx ())):RE (Fl (Option (List Nat × Int × Int × Int × (List Int))) (Unit)))) y113 ()) fun(p112:Unit)=>RE.ok (none:Option (List Nat × Int × Int × Int × (List Int))))
def F.think (ac:PuzT) (ah:List Int) (aL:List (List Nat)):RE ((List Int) × (List (List Nat × Int × Int × Int × (List Int)))):=
 (RE.ok (ah:List Int)).bind fun ao=>(RE.ok ([]:List (List Nat × Int × Int × Int × (List Int)))).bind fun aC=>Fl.bR (qmP (fun(s8:(List Int) × (List (List Nat × Int × Int × Int × (List Int))))=>((F.clashes s8.1).bind fun x9=>RE.ok (!x9))) (fun(s8:(List Int) × (List (List Nat × Int × Int × Int × (List Int))))=>((F.next_thought ac s8.1 aL).bind fun af=>(RE.ok af.isNone).bind fun k10=>if k10=true then (RE.ok (.bk (s8.1,s8.2))) else (((RE.ok s8.1).bind fun x13=>((unO af).bind fun x11=>RE.ok x11.2.2.1).bind fun x14=>((unO af).bind fun x12=>RE.ok x12.2.2.2.1).bind fun x15=>F.struck x13 x14 x15).bind fun ao=>((unO af).bind fun x16=>qa5 s8.2 x16).bind fun aC=>RE.ok (.nx (ao,aC))):RE (Fl ((List Int) × (List (List Nat × Int × Int × Int × (List Int)))) ((List Int) × (List (List Nat × Int × Int × Int × (List Int))))))) qmu (ao,aC)) fun(p17:(List Int) × (List (List Nat × Int × Int × Int × (List Int))))=>RE.ok (p17.1,p17.2)
def F.settles (ac:PuzT) (aL:List (List Nat)):RE Bool:=
 (((RE.ok ac).bind fun x2=>((F.Puzzle_place ac).bind fun x1=>F.full x1).bind fun x3=>(RE.ok aL).bind fun x4=>F.think x2 x3 x4).bind fun x5=>RE.ok x5.1).bind fun ao=>(F.is_settled ao).bind fun k8=>if k8=true then ((RE.ok ac).bind fun x7=>(F.filling_by ao).bind fun x6=>F.Puzzle_meets x7 x6) else RE.ok false
def F.with_only (ah:List Int) (ab:Int) (ai:Int):RE (List Int):=
 (RE.ok (ah:List Int)).bind fun ao=>((qm1 1 (ai - 1)).bind fun x1=>(RE.ok ab).bind fun x2=>qhB ao x2 x1).bind fun ao=>RE.ok ao
def F.first_open (ah:List Int):RE Int:=
 Fl.bR ((qar (List.length ah:Int)).bind fun y14=>qam (fun(ab:Int) (s6:Unit)=>(((((atE ah ab).bind fun x7=>F.signs_in x7).bind fun x8=>RE.ok (List.length x8:Int)).bind fun x9=>RE.ok (decide (1<x9))).bind fun k11=>if k11=true then (RE.ok (.rt ab)) else (RE.ok (.nx ())):RE (Fl (Int) (Unit)))) y14 ()) fun(p13:Unit)=>RE.ok 0
def F.answers_in__1 (ac:PuzT) (ah:List Int):RE (List (List Int)):=
 ((F.think ac ah qaf).bind fun x1=>RE.ok x1.1).bind fun ao=>(F.clashes ao).bind fun k2=>if k2=true then (RE.ok []) else ((F.is_settled ao).bind fun k3=>if k3=true then ((F.filling_by ao).bind fun x4=>RE.ok [x4]) else ((F.first_open ao).bind fun ab=>(RE.ok ([]:List (List Int))).bind fun aj=>(((atE ao ab).bind fun x5=>F.signs_in x5).bind fun y17=>qac (fun(ai:Int) (s9:List (List Int))=>((RE.ok (decide ((List.length s9:Int)<2))).bind fun k10=>if k10=true then (((RE.bad:RE (List (List Int))).bind fun x14=>qcm s9 x14).bind fun aj=>RE.ok aj) else (RE.ok s9)).bind fun(p15:List (List Int))=>RE.ok p15) y17 aj).bind fun(p16:List (List Int))=>RE.ok p16))
def F.answers_in__2 (ac:PuzT) (ah:List Int):RE (List (List Int)):=
 ((F.think ac ah qaf).bind fun x1=>RE.ok x1.1).bind fun ao=>(F.clashes ao).bind fun k2=>if k2=true then (RE.ok []) else ((F.is_settled ao).bind fun k3=>if k3=true then ((F.filling_by ao).bind fun x4=>RE.ok [x4]) else ((F.first_open ao).bind fun ab=>(RE.ok ([]:List (List Int))).bind fun aj=>(((atE ao ab).bind fun x5=>F.signs_in x5).bind fun y23=>qac (fun(ai:Int) (s11:List (List Int))=>((RE.ok (decide ((List.length s11:Int)<2))).bind fun k12=>if k12=true then ((((RE.ok ac).bind fun x17=>(F.with_only ao ab ai).bind fun x18=>F.answers_in__1 x17 x18).bind fun x20=>qcm s11 x20).bind fun aj=>RE.ok aj) else (RE.ok s11)).bind fun(p21:List (List Int))=>RE.ok p21) y23 aj).bind fun(p22:List (List Int))=>RE.ok p22))
def F.answers_in__3 (ac:PuzT) (ah:List Int):RE (List (List Int)):=
 ((F.think ac ah qaf).bind fun x1=>RE.ok x1.1).bind fun ao=>(F.clashes ao).bind fun k2=>if k2=true then (RE.ok []) else ((F.is_settled ao).bind fun k3=>if k3=true then ((F.filling_by ao).bind fun x4=>RE.ok [x4]) else ((F.first_open ao).bind fun ab=>(RE.ok ([]:List (List Int))).bind fun aj=>(((atE ao ab).bind fun x5=>F.signs_in x5).bind fun y23=>qac (fun(ai:Int) (s11:List (List Int))=>((RE.ok (decide ((List.length s11:Int)<2))).bind fun k12=>if k12=true then ((((RE.ok ac).bind fun x17=>(F.with_only ao ab ai).bind fun x18=>F.answers_in__2 x17 x18).bind fun x20=>qcm s11 x20).bind fun aj=>RE.ok aj) else (RE.ok s11)).bind fun(p21:List (List Int))=>RE.ok p21) y23 aj).bind fun(p22:List (List Int))=>RE.ok p22))
def F.answers_in__4 (ac:PuzT) (ah:List Int):RE (List (List Int)):=
 ((F.think ac ah qaf).bind fun x1=>RE.ok x1.1).bind fun ao=>(F.clashes ao).bind fun k2=>if k2=true then (RE.ok []) else ((F.is_settled ao).bind fun k3=>if k3=true then ((F.filling_by ao).bind fun x4=>RE.ok [x4]) else ((F.first_open ao).bind fun ab=>(RE.ok ([]:List (List Int))).bind fun aj=>(((atE ao ab).bind fun x5=>F.signs_in x5).bind fun y23=>qac (fun(ai:Int) (s11:List (List Int))=>((RE.ok (decide ((List.length s11:Int)<2))).bind fun k12=>if k12=true then ((((RE.ok ac).bind fun x17=>(F.with_only ao ab ai).bind fun x18=>F.answers_in__3 x17 x18).bind fun x20=>qcm s11 x20).bind fun aj=>RE.ok aj) else (RE.ok s11)).bind fun(p21:List (List Int))=>RE.ok p21) y23 aj).bind fun(p22:List (List Int))=>RE.ok p22))
def F.answers_in__5 (ac:PuzT) (ah:List Int):RE (List (List Int)):=
 ((F.think ac ah qaf).bind fun x1=>RE.ok x1.1).bind fun ao=>(F.clashes ao).bind fun k2=>if k2=true then (RE.ok []) else ((F.is_settled ao).bind fun k3=>if k3=true then ((F.filling_by ao).bind fun x4=>RE.ok [x4]) else ((F.first_open ao).bind fun ab=>(RE.ok ([]:List (List Int))).bind fun aj=>(((atE ao ab).bind fun x5=>F.signs_in x5).bind fun y23=>qac (fun(ai:Int) (s11:List (List Int))=>((RE.ok (decide ((List.length s11:Int)<2))).bind fun k12=>if k12=true then ((((RE.ok ac).bind fun x17=>(F.with_only ao ab ai).bind fun x18=>F.answers_in__4 x17 x18).bind fun x20=>qcm s11 x20).bind fun aj=>RE.ok aj) else (RE.ok s11)).bind fun(p21:List (List Int))=>RE.ok p21) y23 aj).bind fun(p22:List (List Int))=>RE.ok p22))
def F.supposed__1 (ac:PuzT) (ah:List Int) (ab:Int) (ai:Int):RE D:=
 ((RE.ok ([115,117,112,112,111,115,101])).bind fun x1=>(RE.ok 0).bind fun x2=>(RE.ok ab).bind fun x3=>(RE.ok ai).bind fun x4=>(RE.bad:RE (List D)).bind fun x5=>RE.ok (x1,x2,x3,x4,x5)).bind fun x6=>RE.ok (((eT5 eS eI eI eI (eL eD))) x6)
def F.refuted__1 (ac:PuzT) (ah:List Int):RE (List D):=
 ((F.think ac ah qaf).bind (qeT eI (eT5 eS eI eI eI (eL eI)))).bind fun p1=>(F.clashes p1.1).bind fun k2=>if k2=true then (RE.ok (List.map ((eT5 eS eI eI eI (eL eI))) p1.2)) else ((F.first_open p1.1).bind fun ab=>(((atE p1.1 ab).bind fun x3=>F.signs_in x3).bind fun y8=>qac (fun(ai:Int) (s5:List D)=>((F.supposed__1 ac p1.1 ab ai).bind fun x6=>qa5 s5 x6).bind fun aC=>RE.ok aC) y8 (List.map ((eT5 eS eI eI eI (eL eI))) p1.2)).bind fun(p7:List D)=>RE.ok p7)
def F.supposed__2 (ac:PuzT) (ah:List Int) (ab:Int) (ai:Int):RE D:=
 ((RE.ok ([115,117,112,112,111,115,101])).bind fun x3=>(RE.ok 0).bind fun x4=>(RE.ok ab).bind fun x5=>(RE.ok ai).bind fun x6=>((RE.ok ac).bind fun x1=>(F.with_only ah ab ai).bind fun x2=>F.refuted__1 x1 x2).bind fun x7=>RE.ok (x3,x4,x5,x6,x7)).bind fun x8=>RE.ok (((eT5 eS eI eI eI (eL eD))) x8)
def F.refuted__2 (ac:PuzT) (ah:List Int):RE (List D):=
 ((F.think ac ah qaf).bind (qeT eI (eT5 eS eI eI eI (eL eI)))).bind fun p1=>(F.clashes p1.1).bind fun k2=>if k2=true then (RE.ok (List.map ((eT5 eS eI eI eI (eL eI))) p1.2)) else ((F.first_open p1.1).bind fun ab=>(((atE p1.1 ab).bind fun x3=>F.signs_in x3).bind fun y8=>qac (fun(ai:Int) (s5:List D)=>((F.supposed__2 ac p1.1 ab ai).bind fun x6=>qa5 s5 x6).bind fun aC=>RE.ok aC) y8 (List.map ((eT5 eS eI eI eI (eL eI))) p1.2)).bind fun(p7:List D)=>RE.ok p7)
def F.supposed__3 (ac:PuzT) (ah:List Int) (ab:Int) (ai:Int):RE D:=
 ((RE.ok ([115,117,112,112,111,115,101])).bind fun x3=>(RE.ok 0).bind fun x4=>(RE.ok ab).bind fun x5=>(RE.ok ai).bind fun x6=>((RE.ok ac).bind fun x1=>(F.with_only ah ab ai).bind fun x2=>F.refuted__2 x1 x2).bind fun x7=>RE.ok (x3,x4,x5,x6,x7)).bind fun x8=>RE.ok (((eT5 eS eI eI eI (eL eD))) x8)
def F.refuted__3 (ac:PuzT) (ah:List Int):RE (List D):=
 ((F.think ac ah qaf).bind (qeT eI (eT5 eS eI eI eI (eL eI)))).bind fun p1=>(F.clashes p1.1).bind fun k2=>if k2=true then (RE.ok (List.map ((eT5 eS eI eI eI (eL eI))) p1.2)) else ((F.first_open p1.1).bind fun ab=>(((atE p1.1 ab).bind fun x3=>F.signs_in x3).bind fun y8=>qac (fun(ai:Int) (s5:List D)=>((F.supposed__3 ac p1.1 ab ai).bind fun x6=>qa5 s5 x6).bind fun aC=>RE.ok aC) y8 (List.map ((eT5 eS eI eI eI (eL eI))) p1.2)).bind fun(p7:List D)=>RE.ok p7)
def F.supposed__4 (ac:PuzT) (ah:List Int) (ab:Int) (ai:Int):RE D:=
 ((RE.ok ([115,117,112,112,111,115,101])).bind fun x3=>(RE.ok 0).bind fun x4=>(RE.ok ab).bind fun x5=>(RE.ok ai).bind fun x6=>((RE.ok ac).bind fun x1=>(F.with_only ah ab ai).bind fun x2=>F.refuted__3 x1 x2).bind fun x7=>RE.ok (x3,x4,x5,x6,x7)).bind fun x8=>RE.ok (((eT5 eS eI eI eI (eL eD))) x8)
def F.refuted__4 (ac:PuzT) (ah:List Int):RE (List D):=
 ((F.think ac ah qaf).bind (qeT eI (eT5 eS eI eI eI (eL eI)))).bind fun p1=>(F.clashes p1.1).bind fun k2=>if k2=true then (RE.ok (List.map ((eT5 eS eI eI eI (eL eI))) p1.2)) else ((F.first_open p1.1).bind fun ab=>(((atE p1.1 ab).bind fun x3=>F.signs_in x3).bind fun y8=>qac (fun(ai:Int) (s5:List D)=>((F.supposed__4 ac p1.1 ab ai).bind fun x6=>qa5 s5 x6).bind fun aC=>RE.ok aC) y8 (List.map ((eT5 eS eI eI eI (eL eI))) p1.2)).bind fun(p7:List D)=>RE.ok p7)
def F.supposed__5 (ac:PuzT) (ah:List Int) (ab:Int) (ai:Int):RE D:=
 ((RE.ok ([115,117,112,112,111,115,101])).bind fun x3=>(RE.ok 0).bind fun x4=>(RE.ok ab).bind fun x5=>(RE.ok ai).bind fun x6=>((RE.ok ac).bind fun x1=>(F.with_only ah ab ai).bind fun x2=>F.refuted__4 x1 x2).bind fun x7=>RE.ok (x3,x4,x5,x6,x7)).bind fun x8=>RE.ok (((eT5 eS eI eI eI (eL eD))) x8)
def F.refuted__5 (ac:PuzT) (ah:List Int):RE (List D):=
 ((F.think ac ah qaf).bind (qeT eI (eT5 eS eI eI eI (eL eI)))).bind fun p1=>(F.clashes p1.1).bind fun k2=>if k2=true then (RE.ok (List.map ((eT5 eS eI eI eI (eL eI))) p1.2)) else ((F.first_open p1.1).bind fun ab=>(((atE p1.1 ab).bind fun x3=>F.signs_in x3).bind fun y8=>qac (fun(ai:Int) (s5:List D)=>((F.supposed__5 ac p1.1 ab ai).bind fun x6=>qa5 s5 x6).bind fun aC=>RE.ok aC) y8 (List.map ((eT5 eS eI eI eI (eL eI))) p1.2)).bind fun(p7:List D)=>RE.ok p7)
def F.answers_in (ac:PuzT) (ah:List Int):RE (List (List Int)):=
 ((F.think ac ah qaf).bind fun x1=>RE.ok x1.1).bind fun ao=>(F.clashes ao).bind fun k2=>if k2=true then (RE.ok []) else ((F.is_settled ao).bind fun k3=>if k3=true then ((F.filling_by ao).bind fun x4=>RE.ok [x4]) else ((F.first_open ao).bind fun ab=>(RE.ok ([]:List (List Int))).bind fun aj=>(((atE ao ab).bind fun x5=>F.signs_in x5).bind fun y23=>qac (fun(ai:Int) (s11:List (List Int))=>((RE.ok (decide ((List.length s11:Int)<2))).bind fun k12=>if k12=true then ((((RE.ok ac).bind fun x17=>(F.with_only ao ab ai).bind fun x18=>F.answers_in__5 x17 x18).bind fun x20=>qcm s11 x20).bind fun aj=>RE.ok aj) else (RE.ok s11)).bind fun(p21:List (List Int))=>RE.ok p21) y23 aj).bind fun(p22:List (List Int))=>RE.ok p22))
def F.supposed (ac:PuzT) (ah:List Int) (ab:Int) (ai:Int):RE D:=
 ((RE.ok ([115,117,112,112,111,115,101])).bind fun x3=>(RE.ok 0).bind fun x4=>(RE.ok ab).bind fun x5=>(RE.ok ai).bind fun x6=>((RE.ok ac).bind fun x1=>(F.with_only ah ab ai).bind fun x2=>F.refuted__5 x1 x2).bind fun x7=>RE.ok (x3,x4,x5,x6,x7)).bind fun x8=>RE.ok (((eT5 eS eI eI eI (eL eD))) x8)
def F.refuted (ac:PuzT) (ah:List Int):RE (List D):=
 ((F.think ac ah qaf).bind (qeT eI (eT5 eS eI eI eI (eL eI)))).bind fun p1=>(F.clashes p1.1).bind fun k2=>if k2=true then (RE.ok (List.map ((eT5 eS eI eI eI (eL eI))) p1.2)) else ((F.first_open p1.1).bind fun ab=>(((atE p1.1 ab).bind fun x3=>F.signs_in x3).bind fun y8=>qac (fun(ai:Int) (s5:List D)=>((F.supposed ac p1.1 ab ai).bind fun x6=>qa5 s5 x6).bind fun aC=>RE.ok aC) y8 (List.map ((eT5 eS eI eI eI (eL eI))) p1.2)).bind fun(p7:List D)=>RE.ok p7)
def F.left_alone (ac:PuzT) (ah:List Int) (bD:List Int):RE (List D):=
 (RE.ok (ah:List Int)).bind fun ao=>(RE.ok ([]:List D)).bind fun aC=>((qar (List.length bD:Int)).bind fun y43=>qac (fun(ab:Int) (s21:(List Int) × (List D))=>(((atE s21.1 ab).bind fun x22=>F.signs_in x22).bind fun y41=>qac (fun(ai:Int) (s30:(List Int) × (List D))=>((((atE bD ab).bind fun x32=>RE.ok (!decide (ai=x32))).bind fun k35=>if k35=true then ((atE s30.1 ab).bind fun x33=>(RE.ok ai).bind fun x34=>F.stands x33 x34) else RE.ok false).bind fun k36=>if k36=true then (((F.supposed ac s30.1 ab ai).bind fun x38=>qa5 s30.2 x38).bind fun aC=>(F.struck s30.1 ab ai).bind fun ao=>RE.ok (ao,aC)) else (RE.ok (s30.1,s30.2))).bind fun(p39:(List Int) × (List D))=>RE.ok (p39.1,p39.2)) y41 (s21.1,s21.2)).bind fun(p40:(List Int) × (List D))=>RE.ok (p40.1,p40.2)) y43 (ao,aC)).bind fun(p42:(List Int) × (List D))=>RE.ok p42.2
def F.solve (ac:PuzT):RE D:=
 ((RE.ok ac).bind fun x2=>((F.Puzzle_place ac).bind fun x1=>F.full x1).bind fun x3=>(RE.ok qaf).bind fun x4=>F.think x2 x3 x4).bind fun p5=>(F.clashes p5.1).bind fun k6=>if k6=true then (RE.ok ((eT2 eS (eL (eT5 eS eI eI eI (eL eI)))) ([110,111,110,101],p5.2))) else (((F.ways p5.1).bind fun x7=>RE.ok (decide (32<x7))).bind fun k9=>if k9=true then (RE.ok ((eT3 eS (eL eI) (eL (eT5 eS eI eI eI (eL eI)))) ([114,101,115,116,115],p5.1,p5.2))) else ((F.answers_in ac p5.1).bind fun aj=>(RE.ok (decide ((List.length aj:Int)=0))).bind fun k10=>if k10=true then (((RE.ok ([110,111,110,101])).bind fun x13=>((F.refuted ac p5.1).bind fun x12=>qcm (List.map ((eT5 eS eI eI eI (eL eI))) p5.2) x12).bind fun x14=>RE.ok (x13,x14)).bind fun x15=>RE.ok (((eT2 eS (eL eD))) x15)) else ((RE.ok (decide (1<(List.length aj:Int)))).bind fun k16=>if k16=true then (((RE.ok ([116,119,111])).bind fun x17=>(atE aj 0).bind fun x18=>(atE aj 1).bind fun x19=>RE.ok (x17,x18,x19)).bind fun x20=>RE.ok (((eT3 eS (eL eI) (eL eI))) x20)) else (((RE.ok ([111,110,101])).bind fun x26=>(atE aj 0).bind fun x27=>(((RE.ok ac).bind fun x21=>(RE.ok p5.1).bind fun x22=>(atE aj 0).bind fun x23=>F.left_alone x21 x22 x23).bind fun x25=>qcm (List.map ((eT5 eS eI eI eI (eL eI))) p5.2) x25).bind fun x28=>RE.ok (x26,x27,x28)).bind fun x29=>RE.ok (((eT3 eS (eL eI) (eL eD))) x29)))))
def F.without (aP:List Int) (ab:Int):RE (List Int):=
 (RE.ok (aP:List Int)).bind fun aU=>(qhB aU ab 0).bind fun aU=>RE.ok aU
def F.taken (ac:PuzT) (bp:List Int) (aL:List (List Nat)):RE (Option ((List Int) × (List (Int × (List Int))))):=
 ((F.settles ac aL).bind fun x1=>RE.ok (!x1)).bind fun k2=>if k2=true then (RE.ok (none:Option ((List Int) × (List (Int × (List Int)))))) else ((F.Puzzle_clues ac).bind fun aP=>((RE.ok bp).bind fun y62=>qac (fun(ab:Int) (s11:List Int)=>((((atE s11 ab).bind fun x12=>RE.ok (!decide (x12=0))).bind fun k18=>if k18=true then (((RE.ok ac).bind fun x15=>(F.without s11 ab).bind fun x14=>F.Puzzle_clued x15 x14).bind fun x16=>(RE.ok aL).bind fun x17=>F.settles x16 x17) else RE.ok false).bind fun k19=>if k19=true then ((F.without s11 ab).bind fun aP=>RE.ok aP) else (RE.ok s11)).bind fun(p20:List Int)=>RE.ok p20) y62 aP).bind fun(p21:List Int)=>(RE.ok ([]:List (Int × (List Int)))).bind fun bf=>((qnM bp).bind fun y61=>qac (fun(ab:Int) (s35:List (Int × (List Int)))=>(((atE p21 ab).bind fun x36=>RE.ok (!decide (x36=0))).bind fun k38=>if k38=true then (((RE.ok ac).bind fun x50=>(F.without p21 ab).bind fun x49=>F.Puzzle_clued x50 x49).bind fun bK=>(((RE.ok ab).bind fun x56=>(((RE.ok bK).bind fun x52=>((F.Puzzle_place ac).bind fun x51=>F.full x51).bind fun x53=>(RE.ok aL).bind fun x54=>F.think x52 x53 x54).bind fun x55=>RE.ok x55.1).bind fun x57=>RE.ok (x56,x57)).bind fun x58=>qa5 s35 x58).bind fun bf=>RE.ok bf) else (RE.ok s35)).bind fun(p59:List (Int × (List Int)))=>RE.ok p59) y61 bf).bind fun(p60:List (Int × (List Int)))=>RE.ok (some (p21,p60)))
def F.other_answer (aj:D) (ab:Int) (ai:Int):RE D:=
 (((qfz aj 1).bind fun x1=>(RE.ok ab).bind fun x2=>qfz x1 x2).bind fun x3=>evC .ne (eD x3) (eI ai)).bind fun k5=>if k5=true then (qfz aj 1) else (qfz aj 2)
def F.least (ac:PuzT):RE D:=
 (((F.solve ac).bind fun x1=>(RE.ok 0).bind fun x2=>qfz x1 x2).bind fun x3=>evC .ne (eD x3) (eS ([111,110,101]))).bind fun k5=>if k5=true then (RE.exc 37 []) else ((F.Puzzle_clues ac).bind fun aP=>(RE.ok ([]:List (Int × D))).bind fun a8=>Fl.bR ((RE.ok (qj1 aP)).bind fun y54=>qam (fun(p33:Int × Int) (s32:List (Int × D))=>((RE.ok (!decide (p33.2=0))).bind fun k34=>if k34=true then ((((RE.ok ac).bind fun x36=>(F.without aP p33.1).bind fun x35=>F.Puzzle_clued x36 x35).bind fun x37=>F.solve x37).bind fun aj=>((qfz aj 0).bind fun x38=>evC .eq (eD x38) (eS ([111,110,101]))).bind fun k40=>if k40=true then ((((RE.ok ([115,112,97,114,101])).bind fun x41=>(RE.ok p33.1).bind fun x42=>(qfz aj 2).bind fun x43=>RE.ok (x41,x42,x43)).bind fun x44=>RE.ok (((eT3 eS eI eD)) x44)).bind fun x45=>RE.ok (.rt x45)) else (((qfz aj 0).bind fun x46=>evC .eq (eD x46) (eS ([114,101,115,116,115]))).bind fun k48=>if k48=true then (RE.ok (.rt ((eT2 eS eI) ([114,101,115,116,115],p33.1)))) else ((((RE.ok p33.1).bind fun x50=>(F.other_answer aj p33.1 p33.2).bind fun x51=>RE.ok (x50,x51)).bind fun x52=>qa5 s32 x52).bind fun a8=>RE.ok (.nx a8)))) else (RE.ok (.nx s32)):RE (Fl (D) (List (Int × D))))) y54 a8) fun(p53:List (Int × D))=>RE.ok ((eT2 eS (eL (eT2 eI eD))) ([108,101,97,115,116],p53)))
def F.thought_out (ac:PuzT) (bj:List Int) (aL:List (List Nat)):RE ((List Int) × (List (List Nat × Int × Int × Int × (List Int)))):=
 (RE.ok ac).bind fun x3=>((F.Puzzle_place ac).bind fun x1=>(RE.ok bj).bind fun x2=>F.masks_by x1 x2).bind fun x4=>(RE.ok aL).bind fun x5=>F.think x3 x4 x5
def F.left_out (bj:List Int) (ab:Int):RE (List Int):=
 (RE.ok (bj:List Int)).bind fun aU=>(qhB aU ab 0).bind fun aU=>RE.ok aU
def F.wrong (ac:PuzT) (bj:List Int) (aL:List (List Nat)):RE (Option ((List Int) × (List (List Nat × Int × Int × Int × (List Int))) × (List (Int × (List Int))))):=
 ((((F.thought_out ac bj aL).bind fun x1=>RE.ok x1.1).bind fun x2=>F.clashes x2).bind fun x3=>RE.ok (!x3)).bind fun k4=>if k4=true then (RE.ok (none:Option ((List Int) × (List (List Nat × Int × Int × Int × (List Int))) × (List (Int × (List Int)))))) else ((RE.ok (bj:List Int)).bind fun ao=>((qmm ((List.length ao:Int) - 1) (-1) (-1)).bind fun y49=>qac (fun(ab:Int) (s11:List Int)=>(((atE s11 ab).bind fun x12=>RE.ok (!decide (x12=0))).bind fun k14=>if k14=true then ((F.left_out s11 ab).bind fun aU=>((((F.thought_out ac aU aL).bind fun x18=>RE.ok x18.1).bind fun x19=>F.clashes x19).bind fun k20=>if k20=true then ((RE.ok (aU:List Int)).bind fun ao=>RE.ok ao) else (RE.ok s11)).bind fun(p21:List Int)=>RE.ok p21) else (RE.ok s11)).bind fun(p22:List Int)=>RE.ok p22) y49 ao).bind fun(p23:List Int)=>((qar (List.length p23:Int)).bind fun x26=>gd (leB x26.length) (lcE (fun(ab:Int)=>((atE p23 ab).bind fun x24=>RE.ok (!decide (x24=0)))) (fun(ab:Int)=>(RE.ok ab)) x26)).bind fun ay=>(RE.ok ([]:List (Int × (List Int)))).bind fun bf=>((RE.ok ay).bind fun y48=>qac (fun(ab:Int) (s34:List (Int × (List Int)))=>(((RE.ok ab).bind fun x39=>(((RE.ok ac).bind fun x35=>(F.left_out p23 ab).bind fun x36=>(RE.ok aL).bind fun x37=>F.thought_out x35 x36 x37).bind fun x38=>RE.ok x38.1).bind fun x40=>RE.ok (x39,x40)).bind fun x41=>qa5 s34 x41).bind fun bf=>RE.ok bf) y48 bf).bind fun(p42:List (Int × (List Int)))=>((RE.ok ay).bind fun x44=>((F.thought_out ac p23 aL).bind fun x43=>RE.ok x43.2).bind fun x45=>(RE.ok p42).bind fun x46=>RE.ok (x44,x45,x46)).bind fun x47=>RE.ok ((some) x47))
def F.all_signs (al:Int × Int × Int):RE (List Int):=
 qeZ 1 (al.2.2+1)
def F.signs_by (al:Int × Int × Int) (av:Option (List Int)):RE (List Int):=
 (RE.ok av.isNone).bind fun k1=>if k1=true then (F.all_signs al) else ((((unO av).bind fun x2=>RE.ok (qbF x2)).bind fun x3=>(F.all_signs al).bind fun x4=>RE.ok (!decide (x3=x4))).bind fun k5=>if k5=true then (RE.exc 38 []) else ((unO av).bind fun x6=>RE.ok x6))
def F.moved_filling (al:Int × Int × Int) (am:List Int) (aK:Int) (av:Option (List Int)):RE (List Int):=
 ((F.signs_by al av).bind fun x2=>qcm [0] x2).bind fun bq=>((RE.ok am).bind fun x3=>gd (leB x3.length) (RE.ok (List.map (fun(ab:Int)=>0) x3))).bind fun aj=>(((RE.ok am).bind fun x4=>(F.moved_cells al aK).bind fun x5=>RE.ok (List.zip x4 x5)).bind fun y13=>qac (fun(p9:Int × Int) (s8:List Int)=>((atE bq p9.1).bind fun x10=>(RE.ok p9.2).bind fun x11=>qhB s8 x11 x10).bind fun aj=>RE.ok aj) y13 aj).bind fun(p12:List Int)=>RE.ok p12
def F.gone (ak:RuleT) (ay:List Int):RE (List Int):=
 (F.Rule_spots ak).bind fun x1=>gd (leB x1.length) (lcE (fun(ab:Int)=>(RE.ok true)) (fun(ab:Int)=>(atE ay ab)) x1)
def F.Unlike_carried (ae:RuleT) (al:Int × Int × Int) (ay:List Int) (av:List Int):RE RuleT:=
 (RE.ok al).bind fun x1=>(F.gone ae ay).bind fun x2=>(RE.ok 0).bind fun x3=>(RE.ok 0).bind fun x4=>RE.ok (RuleT.mk .unlike x1 x2 x3 x4)
def F.Total_carried (ae:RuleT) (al:Int × Int × Int) (ay:List Int) (av:List Int):RE RuleT:=
 (RE.ok al).bind fun x1=>(F.gone ae ay).bind fun x2=>(RE.ok ae.wanted).bind fun x3=>(RE.ok 0).bind fun x4=>RE.ok (RuleT.mk .total x1 x2 x3 x4)
def F.Rising_carried (ae:RuleT) (al:Int × Int × Int) (ay:List Int) (av:List Int):RE RuleT:=
 (RE.ok al).bind fun x1=>(F.gone ae ay).bind fun x2=>(RE.ok 0).bind fun x3=>(RE.ok 0).bind fun x4=>RE.ok (RuleT.mk .rising x1 x2 x3 x4)
def F.Seen_carried (ae:RuleT) (al:Int × Int × Int) (ay:List Int) (av:List Int):RE RuleT:=
 (RE.ok al).bind fun x1=>(F.gone ae ay).bind fun x2=>(RE.ok ae.wanted).bind fun x3=>(RE.ok 0).bind fun x4=>RE.ok (RuleT.mk .seen x1 x2 x3 x4)
def F.Counted_carried (ae:RuleT) (al:Int × Int × Int) (ay:List Int) (av:List Int):RE RuleT:=
 (RE.ok al).bind fun x1=>(F.gone ae ay).bind fun x2=>(RE.ok ae.wanted).bind fun x3=>(atE av (ae.sign - 1)).bind fun x4=>RE.ok (RuleT.mk .counted x1 x2 x3 x4)
def F.Joined_carried (ae:RuleT) (al:Int × Int × Int) (ay:List Int) (av:List Int):RE RuleT:=
 (RE.ok al).bind fun x2=>((F.many_cells al).bind qar).bind fun x3=>(RE.ok 0).bind fun x4=>(atE av (ae.sign - 1)).bind fun x5=>RE.ok (RuleT.mk .joined x2 x3 x4 x5)
def F.NoSquare_carried (ae:RuleT) (al:Int × Int × Int) (ay:List Int) (av:List Int):RE RuleT:=
 (RE.ok al).bind fun x2=>((F.many_cells al).bind qar).bind fun x3=>(RE.ok 0).bind fun x4=>(atE av (ae.sign - 1)).bind fun x5=>RE.ok (RuleT.mk .nosquare x2 x3 x4 x5)
def F.Ring_carried (ae:RuleT) (al:Int × Int × Int) (ay:List Int) (av:List Int):RE RuleT:=
 (RE.ok al).bind fun x2=>((F.many_cells al).bind qar).bind fun x3=>(RE.ok 0).bind fun x4=>(atE av (ae.sign - 1)).bind fun x5=>RE.ok (RuleT.mk .ring x2 x3 x4 x5)
def F.m_reckons (r:RuleT)  : RE Bool:=match r.k with
 |.unlike=>F.Rule_reckons r
 |.total=>F.Total_reckons r
 |.rising=>F.Rising_reckons r
 |.seen=>F.Seen_reckons r
 |.counted=>F.Rule_reckons r
 |.joined=>F.Rule_reckons r
 |.nosquare=>F.Rule_reckons r
 |.ring=>F.Rule_reckons r
def F.reckons (ac:PuzT):RE Bool:=
 ((F.Puzzle_rules ac).bind fun x1=>gd (leB x1.length) (lcE (fun(ak:RuleT)=>(RE.ok true)) (fun(ak:RuleT)=>(F.m_reckons ak)) x1)).bind fun x2=>RE.ok (List.any x2 id)
def F.m_carried (r:RuleT) (a0:Int × Int × Int) (a1:List Int) (a2:List Int):RE RuleT:=match r.k with
 |.unlike=>F.Unlike_carried r a0 a1 a2
 |.total=>F.Total_carried r a0 a1 a2
 |.rising=>F.Rising_carried r a0 a1 a2
 |.seen=>F.Seen_carried r a0 a1 a2
 |.counted=>F.Counted_carried r a0 a1 a2
 |.joined=>F.Joined_carried r a0 a1 a2
 |.nosquare=>F.NoSquare_carried r a0 a1 a2
 |.ring=>F.Ring_carried r a0 a1 a2
def F.moved (ac:PuzT) (aK:Int) (av:Option (List Int)):RE PuzT:=
 (F.Puzzle_place ac).bind fun al=>(F.look_at_move aK).bind fun _=>(F.signs_by al av).bind fun bq=>(((F.all_signs al).bind fun x2=>RE.ok (!decide (bq=x2))).bind fun k3=>if k3=true then (F.reckons ac) else RE.ok false).bind fun k4=>if k4=true then (RE.exc 38 []) else ((F.moved_floor al aK).bind fun bE=>(F.moved_cells al aK).bind fun ay=>((F.Puzzle_rules ac).bind fun x6=>gd (leB x6.length) (lcE (fun(ak:RuleT)=>(RE.ok true)) (fun(ak:RuleT)=>((F.m_carried ak bE ay bq).bind fun x5=>F.Rule_line x5)) x6)).bind fun bh=>(RE.ok bE).bind fun x11=>(RE.ok (List.map (eS) bh)).bind fun x12=>((RE.ok al).bind fun x7=>(F.Puzzle_clues ac).bind fun x8=>(RE.ok aK).bind fun x9=>(RE.ok (some bq)).bind fun x10=>F.moved_filling x7 x8 x9 x10).bind fun x13=>F.Puzzle_new x11 x12 x13)
def F.orders (aQ:List Int):RE (List (List Int)):=
 (RE.ok ([[]]:List (List Int))).bind fun aj=>((RE.ok aQ).bind fun y45=>qac (fun(bI:Int) (s22:List (List Int))=>(RE.ok ([]:List (List Int))).bind fun bz=>((RE.ok s22).bind fun y43=>qac (fun(bp:List Int) (s32:List (List Int))=>((RE.ok aQ).bind fun y41=>qac (fun(aG:Int) (s35:List (List Int))=>((RE.ok (!decide (aG∈bp))).bind fun k36=>if k36=true then (((qcm bp [aG]).bind fun x38=>qa5 s35 x38).bind fun bz=>RE.ok bz) else (RE.ok s35)).bind fun(p39:List (List Int))=>RE.ok p39) y41 s32).bind fun(p40:List (List Int))=>RE.ok p40) y43 bz).bind fun(p42:List (List Int))=>(RE.ok (p42:List (List Int))).bind fun aj=>RE.ok aj) y45 aj).bind fun(p44:List (List Int))=>RE.ok p44
end Cm
namespace Cm
section
variable {α β γ σ:Type}
def W (m:RE α) (Q:α→Prop):Prop:=∃v,m=.ok v∧Q v
theorem W.ok {v:α} {Q:α→Prop} (h:Q v):W (.ok v) Q:=⟨v,rfl,h⟩
theorem W.of {m:RE α} {v:α} {Q:α→Prop} (e:m=.ok v) (h:Q v):W m Q:=⟨v,e,h⟩
theorem W.bind {m:RE α} {f:α→RE β} {P:α→Prop} {Q:β→Prop} (h:W m P) (k:∀v,P v→W (f v) Q):W (m.bind f) Q:=by
 obtain⟨v,e,h⟩:=h;rw[e];exact k v h
theorem W.mono {m:RE α} {P Q:α→Prop} (h:W m P) (k:∀v,P v→Q v):W m Q:=by
 obtain⟨v,e,h⟩:=h;exact⟨v,e,k v h⟩
theorem W.eq {m:RE α} {v:α} (h:W m fun x=>x=v):m=.ok v:=by obtain⟨w,e,rfl⟩:=h;exact e
theorem W.get {m:RE α} {v:α} {Q:α→Prop} (h:W m Q) (e:m=.ok v):Q v:=by
 obtain⟨w,e',h⟩:=h;rw[e] at e';cases e';exact h
theorem qfg {b:Bool} {r:RE α} (h:b=true):gd b r=r:=by rw[h];rfl
theorem qcr {f:α→σ→RE σ}:∀{xs:List α} {s:σ} (I:Nat→σ→Prop),I 0 s→(∀i x s,xs[i]? = some x→I i s→W (f x s) (I (i+1)))→W (qac f xs s) (I xs.length)
 |[],s,I,h0,_=>⟨s,rfl,h0⟩
 |x::xs,s,I,h0,hs=>by
  obtain⟨v,e,h⟩:=hs 0 x s rfl h0
  unfold qac
  rw[e]
  exact qcr (xs:=xs) (fun i=>I (i+1)) h fun i y s hy=>hs (i+1) y s (by simpa using hy)
theorem qiu {f:α→σ→RE (Fl β σ)} (I:σ→Prop) {xs:List α} {s:σ} (h0:I s) (hs:∀x∈xs,∀s,I s→∃s',f x s=.ok (.nx s')∧I s'):∃s',qam f xs s=.ok (.nx s')∧I s':=by
 induction xs generalizing s with
 |nil=>exact⟨s,rfl,h0⟩
 |cons x xs ih =>
  obtain⟨s',e,h⟩:=hs x (by simp) s h0
  unfold qam
  rw[e]
  exact ih h fun y hy=>hs y (List.mem_cons_of_mem _ hy)
theorem qkH {f:α→Unit→RE (Fl β Unit)} {xs:List α} (hs:∀x∈xs,f x ()=.ok (.nx ())):qam f xs ()=.ok (.nx ()):=by
 obtain⟨s',e,_⟩:=qiu (f:=f) (fun _=>True) (xs:=xs) (s:=()) trivial fun x hx _ _=>⟨(),hs x hx,trivial⟩
 exact e
@[simp] theorem qpa {b:β} {k:σ→RE β}:Fl.bR (.ok (.rt b)) k=.ok b:=rfl
@[simp] theorem qm0 {s:σ} {k:σ→RE β}:Fl.bR (.ok (.nx s)) k=k s:=rfl
@[simp] theorem qnj {b:β} {τ:Type} {k:σ→RE (Fl β τ)}:Fl.bF (.ok (.rt b)) k=.ok (.rt b):=rfl
@[simp] theorem qlu {s:σ} {τ:Type} {k:σ→RE (Fl β τ)}:Fl.bF (.ok (.nx s)) k=k s:=rfl
theorem qhb {f:α→RE β} {g:α→β} {xs:List α} (h:∀x∈xs,f x=.ok (g x)):lcE (fun _=>.ok true) f xs=.ok (xs.map g):=by
 induction xs with
 |nil=>rfl
 |cons x xs ih =>
  rw[lcE,h x (by simp),ih fun y hy=>h y (List.mem_cons_of_mem _ hy)]
  rfl
theorem qbH {xs:List α} {k:Int} {v:α} (h0:0≤k) (h:xs[k.toNat]? = some v):atE xs k=.ok v:=by
 have hl:k.toNat<xs.length:=by
  rcases Nat.lt_or_ge k.toNat xs.length with h' | h'
  ·exact h'
  ·rw[List.getElem?_eq_none h'] at h;cases h
 unfold atE L2.atI
 have:L2.ixN xs.length k=some k.toNat:=by
  have:=qjQ hl
  rwa [show((k.toNat:Nat):Int)=k from by omega] at this
 rw[this]
 show(match xs[k.toNat]? with
  |some x=>RE.ok x
  |none=>.bad)=_
 rw[h]
def gI (xs:List Int) (k:Int):Int:=xs.getD k.toNat 0
theorem qkX {xs:List Int} {k:Int} (h0:0≤k) (h1:k<xs.length):atE xs k=.ok (gI xs k):=by
 refine qbH h0 ?_
 rw[gI,List.getD_eq_getElem?_getD,List.getElem?_eq_getElem (by omega)];rfl
@[simp] theorem qoD {x:α} {xs:List α}:atE (x::xs) 0=.ok x:=qbH (by decide) rfl
@[simp] theorem qpe {x y:α} {xs:List α}:atE (x::y::xs) 1=.ok y:=qbH (by decide) rfl
@[simp] theorem qoU {x y z:α} {xs:List α}:atE (x::y::z::xs) 2=.ok z:=qbH (by decide) rfl
@[simp] theorem qoB {x y z u:α} {xs:List α}:atE (x::y::z::u::xs) 3=.ok u:=qbH (by decide) rfl
theorem qcG {xs:List α} {x:α} (h:xs.length<16777216):qa5 xs x=.ok (xs++[x]):=qfg (qje (by have:LIM=16777216:=rfl;omega))
theorem qh8 {xs ys:List Nat} (h:xs.length+ys.length≤16777216):qbk xs ys=.ok (xs++ys):=qfg (qje (by have:LIM=16777216:=rfl;omega))
theorem gdl {xs:List α} {r:RE β} (h:xs.length≤16777216):gd (leB xs.length) r=r:=qfg (qje (by have:LIM=16777216:=rfl;omega))
theorem qd4 {x y:Int} (h:x.natAbs≤18446744073709551615):qfP x y=.ok (x*y):=qfg (qjp (by rw[Nat.ble_eq];exact h))
theorem qdJ {x y:Int} (h0:y≠0):qf0 x y=.ok (x.fmod y):=qfg (qoG h0)
def qcl (n:Nat):List Int:=(List.range n).map fun(i:Nat)=>(i:Int)
theorem qbf (n:Nat):(qcl n).length=n:=by simp[qcl]
theorem qhQ {n:Nat} {x:Int}:x∈qcl n↔0≤x∧x<n:=by
 unfold qcl
 rw[List.mem_map]
 constructor
 ·rintro⟨i,h,rfl⟩
  have:=List.mem_range.mp h
  omega
 ·rintro⟨h0,h1⟩
  exact⟨x.toNat,List.mem_range.mpr (by omega),by omega⟩
theorem qe8 {n i:Nat} {x:Int} (h:(qcl n)[i]? = some x):x=i∧i<n:=by
 unfold qcl at h
 rw[List.getElem?_map] at h
 rcases Nat.lt_or_ge i n with q | q
 ·rw[List.getElem?_range q] at h;cases h;exact⟨rfl,q⟩
 ·rw[List.getElem?_eq_none (by simpa using q)] at h;cases h
theorem qcs {n:Int} (h:n≤1000000) (h0:0≤n):qar n=.ok (qcl n.toNat):=by
 have h2:qfW n=true:=by
  have:=qnv (n:=n.toNat) (by omega)
  rwa [show((n.toNat:Nat):Int)=n from by omega] at this
 rw[qar,h2]
 simp only[qhv,qcl,qcj]
 congr 1
 exact List.map_congr_left fun i _=>by omega
def qde (i j:Int):List Int:=qcj i 1 (j - i).toNat
theorem qdq {i j x:Int}:x∈qde i j↔i≤x∧x<j:=by
 unfold qde qcj
 rw[List.mem_map]
 constructor
 ·rintro⟨k,h,rfl⟩
  have:=List.mem_range.mp h
  omega
 ·rintro⟨h0,h1⟩
  exact⟨(x - i).toNat,List.mem_range.mpr (by omega),by omega⟩
theorem qhL {i j:Int} (h:-1000000≤i∧i≤1000000 ∧ -1000000≤j∧j≤1000000):qeZ i j=.ok (qde i j):=qfg (qmZ h)
theorem qcf (a:Int) {n:Int} (h:0<n):0≤a.fmod n∧a.fmod n<n:=by
 rw[Int.fmod_eq_emod_of_nonneg _ (Int.le_of_lt h)]
 exact⟨Int.emod_nonneg _ (by omega),Int.emod_lt_of_pos _ h⟩
theorem qmv {p:Prop} [Decidable p] {x y:α}:(if decide p=true then x else y)=if p then x else y:=by
 by_cases h:p<;>simp[h]
end
end Cm
namespace Cm
structure FOk (fl:Int × Int × Int):Prop where
 h1:1≤fl.1
 h2:fl.1≤6
 w1:1≤fl.2.1
 w2:fl.2.1≤6
 n:fl.1*fl.2.1≤16
 s1:1≤fl.2.2
 s2:fl.2.2≤6
abbrev nC (fl:Int × Int × Int):Int:=fl.1*fl.2.1
section
variable {fl:Int × Int × Int}
theorem FOk.n1 (h:FOk fl):1≤nC fl:=by
 have:=Int.mul_le_mul h.h1 h.w1 (by decide) (by have:=h.h1;omega)
 simpa using this
def qci (fl:Int × Int × Int) (c:Int):List Int:=(if 0<c / fl.2.1 then [c - fl.2.1] else [])++(if 0<c % fl.2.1 then [c - 1] else [])++(if c % fl.2.1<fl.2.1 - 1 then [c+1] else [])++(if c / fl.2.1<fl.1 - 1 then [c+fl.2.1] else [])
abbrev inC (fl:Int × Int × Int) (c:Int):Prop:=0≤c∧c<nC fl
theorem qdc (h:FOk fl) {c:Int} (hc:inC fl c):c=c / fl.2.1*fl.2.1+c % fl.2.1∧0≤c / fl.2.1∧c / fl.2.1<fl.1∧0≤c % fl.2.1∧c % fl.2.1<fl.2.1:=by
 have w:=h.w1
 refine⟨?_,Int.ediv_nonneg hc.1 (by omega),?_,Int.emod_nonneg _ (by omega),Int.emod_lt_of_pos _ (by omega)⟩
 ·have:=Int.mul_ediv_add_emod c fl.2.1
  rw[Int.mul_comm] at this;omega
 ·exact Int.ediv_lt_of_lt_mul (by omega) hc.2
theorem qdY {w r q:Int} (h1:0≤q) (h2:q<w):(r*w+q) / w=r∧(r*w+q) % w=q:=by
 constructor
 ·rw[Int.add_comm,Int.add_mul_ediv_right _ _ (by omega),Int.ediv_eq_zero_of_lt h1 h2];omega
 ·rw[Int.add_comm,Int.add_mul_emod_self_right,Int.emod_eq_of_lt h1 h2]
end
def stB (m s:Int):Bool:=m.toNat.testBit (s - 1).toNat
def hoB (m s:Int):Bool:=decide (m.toNat ||| 2 ^ (s - 1).toNat=2 ^ (s - 1).toNat)
theorem qgm {m s:Int} (h1:1≤s):hoB m s=true↔∀t,1≤t→stB m t=true→t=s:=by
 unfold hoB stB
 rw[decide_eq_true_eq]
 constructor
 ·intro h t h0 ht
  have:=congrArg (fun n=>Nat.testBit n (t - 1).toNat) h
  simp only[Nat.testBit_or,Nat.testBit_two_pow,ht,Bool.true_or] at this
  have:=of_decide_eq_true this.symm
  omega
 ·intro h
  refine Nat.eq_of_testBit_eq fun i=>?_
  rw[Nat.testBit_or,Nat.testBit_two_pow]
  cases e:m.toNat.testBit i
  ·rfl
  ·have:=h (i+1) (by omega) (by rw[show((i:Int)+1 - 1).toNat=i from by omega];exact e)
   have:(s - 1).toNat=i:=by omega
   simp[this]
def sgn (m:Int):List Int:=(qde 1 7).filter (stB m)
def MOk (fl:Int × Int × Int) (ms:List Int):Prop:=(ms.length:Int)=nC fl∧∀m∈ms,0≤m∧m<64
theorem qjq {ms:List Int} {k:Int} (h0:0≤k) (h1:k<ms.length):gI ms k∈ms:=by
 unfold gI
 rw[List.getD_eq_getElem?_getD,List.getElem?_eq_getElem (by omega)]
 exact List.getElem_mem (by omega)
theorem MOk.at_ {fl:Int × Int × Int} {ms:List Int} (h:MOk fl ms) {c:Int} (hc:inC fl c):atE ms c=.ok (gI ms c):=qkX hc.1 (by have:=hc.2;have:=h.1;omega)
theorem MOk.b {fl:Int × Int × Int} {ms:List Int} (h:MOk fl ms) {c:Int} (hc:inC fl c):0≤gI ms c∧gI ms c<64:=h.2 _ (qjq hc.1 (by have:=hc.2;have:=h.1;omega))
end Cm
namespace Cm
def dg (n:Nat):List Nat:=if n<10 then [48+n] else [48+n / 10,48+n % 10]
def dgI (n:Int):List Nat:=dg n.toNat
theorem qlI:∀n<100,(toString ((n:Nat):Int):PySem.Str).cps.toList=dg n:=by decide +kernel
theorem qjw:∀n<100,qlS ((n:Nat):Int)=true:=by decide +kernel
theorem qj2:∀n<100,∀c∈dg n,48≤c∧c<58:=by decide +kernel
theorem qln:∀n<100,(dg n).length≤2∧1≤(dg n).length:=by decide +kernel
theorem qkk {n:Int} (h0:0≤n) (h1:n<100):qlf n=.ok (dgI n):=by
 obtain⟨k,rfl⟩:∃k:Nat,n=k:=⟨n.toNat,by omega⟩
 unfold qlf
 rw[qfg (qjw k (by omega)),qlI k (by omega)]
 simp[dgI]
def isI (r:RE Int) (n:Nat):Bool:=match r with
 |.ok (.ofNat m)=>Nat.beq m n
 |_=>false
theorem qgj {r:RE Int} {n:Nat} (h:isI r n=true):r=.ok ((n:Nat):Int):=by
 unfold isI at h
 split at h
 ·rename_i m
  rw[Nat.eq_of_beq_eq_true h];rfl
 ·cases h
theorem qjT (c:Nat) (ws:List (List Nat)):(PySem.Txt.join (qal [c]) (ws.map qal)).cps.toList=TL.joinL [c] ws:=by
 have:=SX.join_S [c] ws
 show(PySem.Txt.join (SX.S [c]) (ws.map SX.S)).cps.toList=_
 rw[this]
theorem qiF (c:Nat) (ws:List (List Nat)) (hc:c<256) (hn:ws≠[]) (h:∀p∈ws,c∉p):((PySem.Txt.split (qal (TL.joinL [c] ws)) (qal [c])).map fun z=>z.cps.toList)=ws:=by
 have e:PySem.Txt.split (qal (TL.joinL [c] ws)) (qal [c])=ws.map SX.S:=by
  have:=SX.split_S (a:=TL.joinL [c] ws) (b:=[c]) (by simp) (by simp[hc])
  rw[SX.spl_join hn h] at this
  exact this
 rw[e,List.map_map]
 have:ws.map ((fun z:PySem.Str=>z.cps.toList) ∘ SX.S)=ws.map id:=List.map_congr_left fun w _=>rfl
 rw[this,List.map_id]
theorem qbT (c:Nat):∀ws:List (List Nat),(TL.joinL [c] ws).length≤(ws.map List.length).sum+ws.length
 |[]=>by simp[TL.joinL]
 |[p]=>by simp[TL.joinL]
 |p::q::r=>by
  have:=qbT c (q::r)
  simp only[TL.joinL,List.length_append,List.map_cons,List.sum_cons,List.length_cons,List.length_nil] at this ⊢
  omega
theorem qep {b:Nat}:∀{ws:List (List Nat)},(∀w∈ws,w.length≤b)→(ws.map List.length).sum≤ws.length*b
 |[],_=>by simp
 |w::ws,h=>by
  have h1:=h w (by simp)
  have h2:=qep (ws:=ws) fun v hv=>h v (List.mem_cons_of_mem _ hv)
  simp only[List.map_cons,List.sum_cons,List.length_cons,Nat.add_mul,Nat.one_mul]
  omega
theorem qhW {c b:Nat} {ws:List (List Nat)} (h:∀w∈ws,w.length≤b) (hb:ws.length*(b+1)≤16777216):qcp [c] ws=.ok (TL.joinL [c] ws):=by
 unfold qcp
 rw[qjT,qfg (qje ?_)]
 have:=qep h
 have l:LIM=16777216:=rfl
 simp only[List.length_cons,List.length_nil]
 rw[Nat.mul_add] at hb
 omega
theorem qg7 {c b:Nat} {ws:List (List Nat)} (h:∀w∈ws,w.length≤b) (hb:ws.length*(b+1)≤16777000) (hc:c<256) (hn:ws≠[]) (hf:∀p∈ws,c∉p):qbm (TL.joinL [c] ws) [c]=.ok ws:=by
 unfold qbm
 rw[qiF c ws hc hn hf,qfg]
 rw[qat]
 have h1:=qep h
 have h2:=qbT c ws
 have l:LIM=16777216:=rfl
 rw[Nat.mul_add] at hb
 exact⟨by simp,by omega⟩
theorem qhp:∀{n:Nat} {cs:List Int},cs.Nodup→(∀c∈cs,0≤c∧c<n)→cs.length≤n
 |0,[],_,_=>Nat.le_refl _
 |0,c::cs,_,h=>by have:=h c (by simp);omega
 |n+1,cs,hn,h=>by
  have ih:=qhp (n:=n) (cs:=cs.erase n) (hn.erase _) fun c hc=>by
   have h1:=(List.Nodup.mem_erase_iff hn).mp hc
   have:=h c h1.2
   have:=h1.1
   omega
  by_cases hm:(n:Int)∈cs
  ·have:=List.length_erase_of_mem hm
   omega
  ·rw[List.erase_of_not_mem hm] at ih
   omega
structure CsOk (fl:Int × Int × Int) (cs:List Int):Prop where
 ne:cs≠[]
 nd:cs.Nodup
 inn:∀c∈cs,inC fl c
theorem CsOk.len {fl:Int × Int × Int} {cs:List Int} (h:CsOk fl cs) (hf:FOk fl):cs.length≤16:=by
 have:=qhp (n:=(nC fl).toNat) h.nd fun c hc=>by have q:=h.inn c hc;have q1:=q.1;have q2:=q.2;exact⟨q1,by omega⟩
 have:=hf.n
 have:=hf.n1
 have e:nC fl=fl.1*fl.2.1:=rfl
 omega
def qo7 (w:List Nat) (ns:List Int):List Nat:=TL.joinL [32] (w::ns.map dgI)
def qof:List (List Nat):=[[117,110,108,105,107,101],[115,117,109],[114,105,115,105,110,103],[115,101,101,110],[99,111,117,110,116],[106,111,105,110,101,100],[110,111,115,113,117,97,114,101],[114,105,110,103]]
def qoi (fl:Int × Int × Int) (w:List Nat) (ns:List Int):RE RuleT:=
 if w∈[[106,111,105,110,101,100],[110,111,115,113,117,97,114,101],[114,105,110,103]] then F.whole_rule fl w ns
 else if w=[117,110,108,105,107,101] then (F.cells_told fl ns).bind fun cs=>.ok (RuleT.mk .unlike fl cs 0 0)
 else if w=[114,105,115,105,110,103] then (F.cells_told fl ns).bind fun cs=>.ok (RuleT.mk .rising fl cs 0 0)
 else if w=[99,111,117,110,116] then (F.sign_told fl ns 1).bind fun s=>(F.cells_told fl (qbd ns (some 2) none)).bind fun cs=>(atE ns 0).bind fun n=>.ok (RuleT.mk .counted fl cs n s)
 else (F.cells_told fl (qbd ns (some 1) none)).bind fun cs=>if w=[115,117,109] then (atE ns 0).bind fun n=>.ok (RuleT.mk .total fl cs n 0) else (atE ns 0).bind fun n=>.ok (RuleT.mk .seen fl cs n 0)
def qeu (fl:Int × Int × Int) (fi:List Int):Prop:=(fi.length:Int)=nC fl∧∀s∈fi,0≤s∧s≤fl.2.2
instance (fl:Int × Int × Int) (fi:List Int):Decidable (qeu fl fi):=by unfold qeu;infer_instance
end Cm
namespace Cm
abbrev TI:=List Nat × Int × Int × Int × List Int
theorem qhy:∀ns:List Int,dLs dI (ns.map eI)=.ok ns
 |[]=>rfl
 |n::ns=>by rw[List.map_cons,dLs,qhy ns];rfl
theorem qi1 (th:TI):dT5 (dLs dI) (thD th)=.ok th:=by
 unfold dT5 thD
 rw[qhy];rfl
def qbt (p:PuzT) (r:Int):Option RuleT:=if 0≤r∧r<(p.rules.length:Int) then p.rules[r.toNat]? else none
def qjc (p:PuzT) (c s:Int):Bool:=decide (0≤c∧c<nC p.ground∧1≤s∧s≤p.ground.2.2)
def RK.w:RK→List Nat
 |.unlike=>[117,110,108,105,107,101]
 |.total=>[115,117,109]
 |.rising=>[114,105,115,105,110,103]
 |.seen=>[115,101,101,110]
 |.counted=>[99,111,117,110,116]
 |.joined=>[106,111,105,110,101,100]
 |.nosquare=>[110,111,115,113,117,97,114,101]
 |.ring=>[114,105,110,103]
def rk (o:Option RuleT) (k:RK):Option RuleT:=o.bind fun r=>if r.k=k then some r else none
def qhu (o:Option RuleT) (fl:Int × Int × Int) (c s:Int) (more:List Int):Bool:=match o with
 |none=>false
 |some r=>decide (r.k=.ring)&&(if more=[] then decide (r.sign=s) else decide (more.length=1)&&decide (gI more 0∈qci fl c))
def qkF (r:RuleT) (fl:Int × Int × Int) (ms:List Int) (c s:Int) (more:List Int):Bool:=
 let at_:=if more=[] then c else gI more 0
 let near:=(qci fl at_).filter fun d=>!decide (d=c)
 let must:=(near.filter fun d=>hoB (gI ms d) r.sign).length
 let may:=(near.filter fun d=>stB (gI ms d) r.sign).length
 if more=[] then decide (may<2)||decide (2<must) else hoB (gI ms at_) r.sign&&if r.sign=s then decide (2≤must) else decide (may<2)
end Cm
namespace Cm
theorem qgO {xs:List Int}:∀{ys:List Int},xs.Nodup→(∀x∈xs,x∈ys)→xs.length≤ys.length:=by
 induction xs with
 |nil=>intro ys _ _;exact Nat.zero_le _
 |cons x xs ih =>
  intro ys hn hs
  rw[List.nodup_cons] at hn
  have hx:=hs x (by simp)
  have:=ih (ys:=ys.erase x) hn.2 fun y hy=>by
   have:y≠x:=fun e=>hn.1 (e ▸ hy)
   exact(List.mem_erase_of_ne this).mpr (hs y (List.mem_cons_of_mem _ hy))
  rw[List.length_erase_of_mem hx] at this
  have:=List.length_pos_of_mem hx
  simp only[List.length_cons]
  omega
inductive Rch (fl:Int × Int × Int) (cs:List Int) (a:Int):Int→Prop where
 |base:a∈cs→Rch fl cs a a
 |step {b c:Int}:Rch fl cs a b→c∈qci fl b→c∈cs→Rch fl cs a c
section
variable {fl:Int × Int × Int} {cs:List Int} {a:Int}
theorem Rch.start {b:Int} (h:Rch fl cs a b):a∈cs:=by induction h with
 |base h=>exact h
 |step _ _ _ ih=>exact ih
theorem Rch.mem {b:Int} (h:Rch fl cs a b):b∈cs:=by cases h with
 |base h=>exact h
 |step _ _ h=>exact h
theorem Rch.mono {cs':List Int} (hs:∀x∈cs,x∈cs') {b:Int} (h:Rch fl cs a b):Rch fl cs' a b:=by induction h with
 |base h=>exact .base (hs _ h)
 |step _ h1 h2 ih=>exact .step ih h1 (hs _ h2)
end
theorem qfy {fl:Int × Int × Int} (hf:FOk fl) {c d:Int} (hc:inC fl c) (hd:inC fl d):d∈qci fl c↔((c / fl.2.1=d / fl.2.1∧(c % fl.2.1=d % fl.2.1+1∨d % fl.2.1=c % fl.2.1+1))∨(c % fl.2.1=d % fl.2.1∧(c / fl.2.1=d / fl.2.1+1∨d / fl.2.1=c / fl.2.1+1))):=by
 obtain⟨e,a1,a2,b1,b2⟩:=qdc hf hc
 obtain⟨e',a1',a2',b1',b2'⟩:=qdc hf hd
 have w:=hf.w1
 unfold qci
 simp only[List.mem_append]
 have k:∀{p:Prop} [Decidable p] (x:Int),d∈(if p then [x] else [])↔p∧d=x:=fun {p} _ x=>by
  by_cases h:p<;>simp[h]
 simp only[k]
 generalize c / fl.2.1=R at *
 generalize c % fl.2.1=Q at *
 generalize d / fl.2.1=R' at *
 generalize d % fl.2.1=Q' at *
 generalize hw:fl.2.1=W at *
 have same:∀{x y:Int} {p q:Int},0≤p→p<W→0≤q→q<W→x*W+p=y*W+q→x=y∧p=q:=fun {x y p q} p0 p1 q0 q1 h=>by
  have h1:=qdY (r:=x) p0 p1
  have h2:=qdY (r:=y) q0 q1
  rw[h] at h1
  exact⟨h1.1.symm.trans h2.1,h1.2.symm.trans h2.2⟩
 constructor
 ·rintro(((⟨h,q⟩ | ⟨h,q⟩) | ⟨h,q⟩) | ⟨h,q⟩)
  ·have:=same (x:=R') (y:=R - 1) b1' b2' b1 b2 (by rw[Int.sub_mul];omega)
   omega
  ·have:=same (x:=R') (y:=R) b1' b2' (q:=Q - 1) (by omega) (by omega) (by omega)
   omega
  ·have:=same (x:=R') (y:=R) b1' b2' (q:=Q+1) (by omega) (by omega) (by omega)
   omega
  ·have:=same (x:=R') (y:=R+1) b1' b2' b1 b2 (by rw[Int.add_mul];omega)
   omega
 ·rintro(⟨h,q | q⟩ | ⟨h,q | q⟩)
  ·exact .inl (.inl (.inr ⟨by omega,by rw[e,e',h];omega⟩))
  ·exact .inl (.inr ⟨by omega,by rw[e,e',h];omega⟩)
  ·refine .inl (.inl (.inl ⟨by omega,?_⟩))
   have:R*W=R'*W+W:=by rw[q,Int.add_mul];omega
   omega
  ·refine .inr ⟨by omega,?_⟩
   have:R'*W=R*W+W:=by rw[q,Int.add_mul];omega
   omega
end Cm
namespace Cm
noncomputable def dec (p:Prop):Bool:=@decide p (Classical.propDecidable p)
def qor (ms:List Int) (s:Int):List Int:=(qcl ms.length).filter fun c=>stB (gI ms c) s
def qps (k:RK):Bool:=decide (k=.joined∨k=.ring)
def qff (o:Option RuleT) (fl:Int × Int × Int) (c s:Int) (more:List Int):Bool:=match o with
 |none=>false
 |some r=>qps r.k&&(decide ((more.length:Int)=2 - (if r.sign=s then 1 else 0))&&(decide more.Nodup&&more.all fun d=>!(decide (d=c)||(decide (d<0)||decide (nC fl≤d)))))
noncomputable def qij (r:RuleT) (fl:Int × Int × Int) (ms:List Int) (c s:Int) (more:List Int):Bool:=
 (more.all fun d=>hoB (gI ms d) r.sign)&&(if r.sign=s then !dec (Rch fl (((qor ms r.sign).filter fun d=>!decide (d=c))++[c]) c (gI more 0)) else !dec (Rch fl ((qor ms r.sign).filter fun d=>!decide (d=c)) (gI more 0) (gI more 1)))
end Cm
namespace Cm
def qkD (r:RuleT) (c:Int):List Int:=r.cells.filter fun d=>!decide (d=c)
def ofB (o:Option RuleT) (k:RK) (c:Int):Bool:=match o with
 |none=>false
 |some r=>decide (r.k=k)&&decide (c∈r.cells)
def qg0 (r:RuleT) (c:Int) (more:List Int):Bool:=(more.all fun d=>decide (d∈qkD r c))&&decide more.Nodup
def qha (i:Int) (more:List Int):Bool:=decide (i=0)&&decide (more=[])
def qkU (p:PuzT) (c s:Int):Bool:=!decide (gI p.clues c=0) && !decide (gI p.clues c=s)
def qgc (o:Option RuleT) (c:Int) (more:List Int):Bool:=match o with
 |none=>false
 |some r=>ofB o .unlike c&&(decide (more.length=1)&&qg0 r c more)
def qkj (ms:List Int) (s:Int) (more:List Int):Bool:=hoB (gI ms (gI more 0)) s
def qfa (o:Option RuleT) (sg c s:Int) (more:List Int):Bool:=match o with
 |none=>false
 |some r=>ofB o .unlike c&&(decide ((r.cells.length:Int)=sg)&&(decide (more.length=1)&&(decide (1≤gI more 0∧gI more 0≤sg) && !decide (gI more 0=s))))
def qh4 (r:RuleT) (ms:List Int) (c:Int) (more:List Int):Bool:=(qkD r c).all fun d=>!stB (gI ms d) (gI more 0)
def inR (fl:Int × Int × Int) (r:RuleT):Prop:=r.cells.length≤1000∧∀d∈r.cells,inC fl d
def qle (xs:List Int) (x:Int):Nat:=xs.findIdx fun y=>decide (y=x)
def qhg (o:Option RuleT) (c:Int) (more:List Int):Bool:=match o with
 |none=>false
 |some r=>ofB o .unlike c&&(decide (more.length=2)&&(qg0 r c more&&decide (qle r.cells (gI more 0)<qle r.cells (gI more 1))))
def qkZ (ms:List Int) (s:Int) (more:List Int):Bool:=decide (((sgn (PySem.Builtin.bitOr (gI ms (gI more 0)) (gI ms (gI more 1)))).filter fun t=>!decide (t=s)).length≤1)
def qfH (o:Option RuleT) (c:Int) (more:List Int):Bool:=decide (more=[])&&ofB o .counted c
def qiA (r:RuleT) (ms:List Int) (c s:Int):Bool:=if s=r.sign then decide (r.wanted≤(((qkD r c).filter fun d=>hoB (gI ms d) r.sign).length:Int)) else decide ((((qkD r c).filter fun d=>stB (gI ms d) r.sign).length:Int)<r.wanted)
end Cm
namespace Cm
end Cm
namespace Cm
def qjh (cs:List Int) (c:Int):Option Int:=if 0<qle cs c then some (gI cs ((qle cs c:Int) - 1)) else none
def qhx (cs:List Int) (c:Int):Option Int:=if qle cs c+1<cs.length then some (gI cs ((qle cs c:Int)+1)) else none
def qf8 (o:Option RuleT) (c:Int) (more:List Int):Bool:=decide (more=[])&&ofB o .rising c
def qk6 (r:RuleT) (ms:List Int) (c s:Int):Bool:=(match qjh r.cells c with
 |some d=>decide (s≤qmT false (sgn (gI ms d)) s)
 |none=>false)||(match qhx r.cells c with
 |some d=>decide (qmT true (sgn (gI ms d)) s≤s)
 |none=>false)
theorem qgE {m t:Int}:t∈sgn m↔(1≤t∧t<7)∧stB m t=true:=by
 unfold sgn
 rw[List.mem_filter,qdq]
end Cm
namespace Cm
theorem qkc (m:Int):(sgn m).Pairwise (· < ·):=List.Pairwise.filter _ (by decide)
def qnb (cs ms:List Int) (c s:Int):Option (Int × Int):=
 let os:=cs.filter fun d=>!decide (d=c)
 if (os.any fun d=>decide (sgn (gI ms d)=[]))=true then none else some (s+(os.map fun d=>qfY (sgn (gI ms d))).sum,s+(os.map fun d=>qfZ (sgn (gI ms d))).sum)
def qiX (o:Option RuleT) (c:Int) (more:List Int):Bool:=decide (more=[])&&ofB o .total c
def qmk (r:RuleT) (ms:List Int) (c s:Int):Bool:=match qnb r.cells ms c s with
 |none=>true
 |some e=>decide (r.wanted<e.1)||decide (e.2<r.wanted)
end Cm
namespace Cm
def Snd (fl:Int × Int × Int) (ms fi:List Int):Prop:=∀c,inC fl c→stB (gI ms c) (gI fi c)=true∧1≤gI fi c∧gI fi c≤fl.2.2
def UnL (cs fi:List Int):Prop:=∀d∈cs,∀e∈cs,d≠e→gI fi d≠gI fi e
end Cm
namespace Cm
section
variable {α β γ:Type}
end
def qnF (fl:Int × Int × Int) (c:Int):Bool:=decide (c / fl.2.1<fl.1 - 1)&&decide (c % fl.2.1<fl.2.1 - 1)
def sqL (fl:Int × Int × Int) (c:Int):List Int:=[c,c+1,c+fl.2.1,c+fl.2.1+1]
def qoo (fl:Int × Int × Int):List Int:=(qcl (nC fl).toNat).filter (qnF fl)
def qpl (fl:Int × Int × Int):List (List Int):=(qoo fl).map (sqL fl)
section
variable {fl:Int × Int × Int}
theorem qmh (hf:FOk fl):(nC fl).toNat≤16:=by
 have:=hf.n
 have e:nC fl=fl.1*fl.2.1:=rfl
 omega
def qnB (fl:Int × Int × Int) (c:Int):List Int:=if c∈qoo fl then sqL fl c else []
end
def qei (o:Option RuleT) (fl:Int × Int × Int) (c s:Int) (more:List Int):Bool:=match o with
 |none=>false
 |some r=>decide (r.k=.nosquare)&&(decide (r.sign=s)&&(decide (more.length=1)&&decide (c∈qnB fl (gI more 0))))
def qhw (fl:Int × Int × Int) (ms:List Int) (c s:Int) (more:List Int):Bool:=(qnB fl (gI more 0)).all fun d=>decide (d=c)||hoB (gI ms d) s
end Cm
namespace Cm
section
variable {fl:Int × Int × Int} {cs:List Int}
theorem qhO (hf:FOk fl) {c d:Int} (hc:inC fl c) (hd:inC fl d):d∈qci fl c↔c∈qci fl d:=by
 rw[qfy hf hc hd,qfy hf hd hc]
 omega
theorem Rch.trans {a b c:Int} (h:Rch fl cs a b) (k:Rch fl cs b c):Rch fl cs a c:=by induction k with
 |base _=>exact h
 |step _ h1 h2 ih=>exact .step ih h1 h2
theorem Rch.symm (hf:FOk fl) (hi:∀x∈cs,inC fl x) {a b:Int} (h:Rch fl cs a b):Rch fl cs b a:=by induction h with
 |base h=>exact .base h
 |step h h1 h2 ih=>exact(Rch.step (.base h2) ((qhO hf (hi _ h.mem) (hi _ h2)).mp h1) h.mem).trans ih
noncomputable def jnB (fl:Int × Int × Int) (cs:List Int):Bool:=dec (∀a∈cs,∀b∈cs,Rch fl cs a b)
theorem qnS {L:List Int} (h:L.Pairwise (· < ·)):L.Nodup:=h.imp fun h e=>by omega
end
def qnA (xs:List Int):Int × Int:=xs.foldl (fun s x=>if s.2<x then (s.1+1,x) else s) (0,0)
noncomputable def qiQ (r:RuleT) (g:Int→Int):Bool:=match r.k with
 |.unlike=>decide (r.cells.map g).Nodup
 |.total=>decide ((r.cells.map g).sum=r.wanted)
 |.rising=>(r.cells.zip (r.cells.drop 1)).all fun p=>decide (g p.1<g p.2)
 |.seen=>decide ((qnA (r.cells.map g)).1=r.wanted)
 |.counted=>decide (((r.cells.filter fun d=>decide (g d=r.sign)).length:Int)=r.wanted)
 |.joined=>jnB r.ground (r.cells.filter fun d=>decide (g d=r.sign))
 |.nosquare=>(qpl r.ground).all fun q=>!decide ((q.filter fun d=>decide (g d=r.sign)).length=4)
 |.ring=>((r.cells.filter fun d=>decide (g d=r.sign)).all fun c=>decide (((qci r.ground c).filter fun d=>decide (d∈r.cells.filter fun d=>decide (g d=r.sign))).length=2))&&jnB r.ground (r.cells.filter fun d=>decide (g d=r.sign))
def qgQ:RK→Bool
 |.joined=>true
 |.nosquare=>true
 |.ring=>true
 |_=>false
structure WfR (fl:Int × Int × Int) (r:RuleT):Prop where
 g:r.ground=fl
 cs:CsOk fl r.cells
 w:qgQ r.k=true→r.cells=qcl (nC fl).toNat
 s:qgQ r.k=true∨r.k=.counted→1≤r.sign∧r.sign≤fl.2.2
 s0:¬(qgQ r.k=true∨r.k=.counted)→r.sign=0
 n0:0≤r.wanted
 n1:r.wanted<100
 n2:¬(r.k=.total∨r.k=.seen∨r.k=.counted)→r.wanted=0
theorem WfR.inR {fl:Int × Int × Int} (hf:FOk fl) {r:RuleT} (h:WfR fl r):inR fl r:=⟨by have:=h.cs.len hf;omega,h.cs.inn⟩
section
variable {fl:Int × Int × Int} {r:RuleT} {fi:List Int}
end
end Cm
namespace Cm
def qkh:List Int→Int
 |[]=>1
 |x::xs=>x*qkh xs
def lay:List (Int × List Int)→List Int→Int→List Int × Int
 |[],fi,n=>(fi,n)
 |p::os,fi,n=>lay os (fi.set p.1.toNat (gI p.2 (n % (p.2.length:Int)))) (n / (p.2.length:Int))
structure LyOk (n:Nat) (os:List (Int × List Int)):Prop where
 nd:(os.map Prod.fst).Nodup
 inn:∀p∈os,0≤p.1∧p.1<(n:Int)
 ne:∀p∈os,1≤p.2.length∧p.2.length≤6
theorem LyOk.tl {n:Nat} {p:Int × List Int} {os:List (Int × List Int)} (h:LyOk n (p::os)):LyOk n os∧∀q∈os,q.1≠p.1:=by
 have nd:=h.nd
 rw[List.map_cons,List.nodup_cons] at nd
 exact⟨⟨nd.2,fun q hq=>h.inn q (List.mem_cons_of_mem _ hq),fun q hq=>h.ne q (List.mem_cons_of_mem _ hq)⟩,fun q hq e=>nd.1 (List.mem_map.mpr ⟨q,hq,e⟩)⟩
def qhd (o:Option RuleT) (c:Int) (more:List Int):Bool:=decide (more=[])&&match o with
 |none=>false
 |some r=>decide (c∈r.cells)
def qnu (r:RuleT) (ms:List Int) (c:Int):Int:=qkh ((qkD r c).map fun d=>((sgn (gI ms d)).length:Int))
noncomputable def qj5 (r:RuleT) (ms:List Int) (c s:Int):Bool:=decide (qnu r ms c≤32)&&dec (∀g:Int→Int,g c=s→(∀d∈qkD r c,g d∈sgn (gI ms d))→qiQ r g=false)
end Cm
namespace Cm
def qgg:List KK:=[.clue,.only,.place,.count,.step,.sums,.square,.reach,.turn,.pair,.ways]
def KK.w:KK→List Nat
 |.clue=>[99,108,117,101]
 |.only=>[111,110,108,121]
 |.place=>[112,108,97,99,101]
 |.count=>[99,111,117,110,116]
 |.step=>[115,116,101,112]
 |.sums=>[115,117,109]
 |.square=>[115,113,117,97,114,101]
 |.reach=>[114,101,97,99,104]
 |.turn=>[116,117,114,110]
 |.pair=>[112,97,105,114]
 |.ways=>[119,97,121,115]
def qow (w:List Nat):Option KK:=qgg.find? fun k=>decide (k.w=w)
structure WfP (p:PuzT):Prop where
 f:FOk p.ground
 r:∀r∈p.rules,WfR p.ground r
 c:qeu p.ground p.clues
 n:p.rules.length≤12
def qom (k:KK) (p:PuzT) (o:Option RuleT) (th:TI):Bool:=match k with
 |.clue=>qha th.2.1 th.2.2.2.2
 |.only=>qgc o th.2.2.1 th.2.2.2.2
 |.place=>qfa o p.ground.2.2 th.2.2.1 th.2.2.2.1 th.2.2.2.2
 |.count=>qfH o th.2.2.1 th.2.2.2.2
 |.step=>qf8 o th.2.2.1 th.2.2.2.2
 |.sums=>qiX o th.2.2.1 th.2.2.2.2
 |.square=>qei o p.ground th.2.2.1 th.2.2.2.1 th.2.2.2.2
 |.reach=>qff o p.ground th.2.2.1 th.2.2.2.1 th.2.2.2.2
 |.turn=>qhu o p.ground th.2.2.1 th.2.2.2.1 th.2.2.2.2
 |.pair=>qhg o th.2.2.1 th.2.2.2.2
 |.ways=>qhd o th.2.2.1 th.2.2.2.2
noncomputable def qoX (k:KK) (p:PuzT) (ms:List Int) (r:RuleT) (th:TI):Bool:=match k with
 |.clue=>qkU p th.2.2.1 th.2.2.2.1
 |.only=>qkj ms th.2.2.2.1 th.2.2.2.2
 |.place=>qh4 r ms th.2.2.1 th.2.2.2.2
 |.count=>qiA r ms th.2.2.1 th.2.2.2.1
 |.step=>qk6 r ms th.2.2.1 th.2.2.2.1
 |.sums=>qmk r ms th.2.2.1 th.2.2.2.1
 |.square=>qhw p.ground ms th.2.2.1 th.2.2.2.1 th.2.2.2.2
 |.reach=>qij r p.ground ms th.2.2.1 th.2.2.2.1 th.2.2.2.2
 |.turn=>qkF r p.ground ms th.2.2.1 th.2.2.2.1 th.2.2.2.2
 |.pair=>qkZ ms th.2.2.2.1 th.2.2.2.2
 |.ways=>qj5 r ms th.2.2.1 th.2.2.2.1
def noR:RuleT:=⟨.unlike,(1,1,1),[],0,0⟩
noncomputable def qoY (k:KK) (p:PuzT) (ms:List Int) (th:TI):Bool:=qoX k p ms ((qbt p th.2.1).getD noR) th
noncomputable def alB (p:PuzT) (ms:List Int) (th:TI):Bool:=match qow th.1 with
 |none=>false
 |some k=>qjc p th.2.2.1 th.2.2.2.1&&(qom k p (qbt p th.2.1) th&&qoY k p ms th)
theorem qfI {p:PuzT} {c s:Int}:qjc p c s=true↔inC p.ground c∧1≤s∧s≤p.ground.2.2:=by
 unfold qjc
 rw[decide_eq_true_eq]
 exact⟨fun⟨a,b,c,d⟩=>⟨⟨a,b⟩,c,d⟩,fun⟨⟨a,b⟩,c,d⟩=>⟨a,b,c,d⟩⟩
section
variable {p:PuzT} {ms:List Int} {th:TI}
end
end Cm
namespace Cm
def qnT (k:KK) (p:PuzT) (r:RuleT) (th:TI):List Int:=match k with
 |.clue=>[]
 |.only=>th.2.2.2.2
 |.step=>qbF ((match qjh r.cells th.2.2.1 with
  |some d=>[d]
  |none=>[])++match qhx r.cells th.2.2.1 with
  |some d=>[d]
  |none=>[])
 |.square=>(qnB p.ground (gI th.2.2.2.2 0)).filter fun d=>!decide (d=th.2.2.1)
 |.reach=>(qcl (nC p.ground).toNat).filter fun d=>!decide (d=th.2.2.1)
 |.turn=>if th.2.2.2.2=[] then qci p.ground th.2.2.1 else qbF ((qci p.ground (gI th.2.2.2.2 0)++[gI th.2.2.2.2 0]).filter fun d=>!decide (d=th.2.2.1))
 |.pair=>qbF th.2.2.2.2
 |_=>qbF (qkD r th.2.2.1)
def Sb (m' m:Int):Prop:=∀t,1≤t→stB m' t=true→stB m t=true
theorem Sb.refl (m:Int):Sb m m:=fun _ _ h=>h
theorem Sb.ho {m' m s:Int} (h:Sb m' m) (s1:1≤s) (k:hoB m s=true):hoB m' s=true:=(qgm s1).mpr fun t t1 ht=>(qgm s1).mp k t t1 (h t t1 ht)
theorem Sb.sg {m' m:Int} (h:Sb m' m):∀t∈sgn m',t∈sgn m:=fun t ht=>by
 obtain⟨⟨a,b⟩,c⟩:=qgE.mp ht
 exact qgE.mpr ⟨⟨a,b⟩,h t a c⟩
theorem qlE (m:Int):(sgn m).Nodup:=qnS (qkc m)
theorem Sb.ln {m' m:Int} (h:Sb m' m):(sgn m').length≤(sgn m).length:=qgO (qlE m') h.sg
section
variable {p:PuzT} {ms ms':List Int} {th:TI}
def qpi (p:PuzT) (th:TI):List Int:=match qow th.1 with
 |none=>[]
 |some k=>qnT k p ((qbt p th.2.1).getD noR) th
end
end Cm
namespace Cm
section
variable {p:PuzT} {ms fi:List Int} {th:TI}
end
end Cm
namespace Cm
def qnx (r:RuleT):List Int:=match r.k with
 |.unlike=>r.cells
 |.rising=>r.cells
 |.total=>r.wanted::r.cells
 |.seen=>r.wanted::r.cells
 |.counted=>r.wanted::r.sign::r.cells
 |_=>[r.sign]
def qpr (r:RuleT):List Nat:=qo7 r.k.w (qnx r)
section
variable {fl:Int × Int × Int}
end
def ThP (k:Nat) (L:List TI):Prop:=L.length≤k∧∀th∈L,th.2.2.2.2.length≤2
theorem ThP.app {k:Nat} {L:List TI} {th:TI} (h:ThP k L) (hl:th.2.2.2.2.length≤2) (hk:k<1000):qa5 L th=.ok (L++[th])∧ThP (k+1) (L++[th]):=by
 refine⟨qcG (by have:=h.1;omega),by have:=h.1;rw[List.length_append,List.length_singleton];omega,fun x hx=>?_⟩
 rcases List.mem_append.mp hx with q | q
 ·exact h.2 x q
 ·rw[List.mem_singleton.mp q];exact hl
theorem ThP.mono {k j:Nat} {L:List TI} (h:ThP k L) (hk:k≤j):ThP j L:=⟨by have:=h.1;omega,h.2⟩
end Cm
namespace Cm
def qoz (k:KK) (p:PuzT) (th:TI):Prop:=match k with
 |.place=>∃r,qbt p th.2.1=some r
 |.count=>∃r,qbt p th.2.1=some r
 |.sums=>∃r,qbt p th.2.1=some r
 |.ways=>∃r,qbt p th.2.1=some r
 |.step=>∃r,qbt p th.2.1=some r∧th.2.2.1∈r.cells
 |.square=>th.2.2.2.2≠[]
 |_=>True
end Cm
namespace Cm
def zc (cs:List Int):Nat:=cs.count 0
def qn2 (s:Int):List (Int × Int)→Int→List Int
 |[],_=>[]
 |p::r,i=>(if p.1=0 then 1+(p.2+i / s ^ zc (r.map Prod.fst)) % s else p.1)::qn2 s r i
def qpf (s:Int):List (Int × Int)→List Int→Prop
 |[],[]=>True
 |p::r,x::g=>(if p.1=0 then 1≤x∧x≤s else x=p.1)∧qpf s r g
 |_,_=>False
def qoW (s:Int):List (Int × Int)→List Int→Int
 |p::r,x::g=>(if p.1=0 then (x - 1 - p.2) % s*s ^ zc (r.map Prod.fst) else 0)+qoW s r g
 |_,_=>0
section
variable {s:Int}
end
def mtB (p:PuzT) (g:List Int):Bool:=match F.Puzzle_meets p g with
 |.ok b=>b
 |_=>false
def nFl (p:PuzT):Int:=p.ground.2.2 ^ zc p.clues
def flo (p:PuzT) (st:List Int):List (List Int):=(qcl (nFl p).toNat).map (qn2 p.ground.2.2 (p.clues.zip st))
section
variable {p:PuzT}
def qpC (p:PuzT) (st:List Int):List (List Int):=(flo p st).filter (mtB p)
end
end Cm
namespace Cm
section
variable {p:PuzT} {ms:List Int} {c s:Int}
def qpp (L:List (List Int)):Prop:=L.length≤300∧∀m∈L,m.length≤2
def MSg (fl:Int × Int × Int) (ms:List Int):Prop:=∀m∈ms,m<((2 ^ fl.2.2.toNat:Nat):Int)
def qoK (p:PuzT) (ms:List Int) (k:KK) (n c s:Int):List (List Int):=match F.m_mores k p ms (qbt p n) c s with
 |.ok L=>L
 |_=>[]
noncomputable def qod (p:PuzT) (ms:List Int) (k:KK) (n c:Int):Option TI:=(sgn (gI ms c)).findSome? fun s=>(qoK p ms k n c s).findSome? fun m=>if alB p ms (k.w,n,c,s,m)=true then some (k.w,n,c,s,m) else none
end
end Cm
namespace Cm
section
variable {p:PuzT} {ms:List Int}
def qpg (ws:List (List Nat)):List KK:=qgg.filter fun k=>decide (k.w∈ws)
def qlM:KK→RK→Bool
 |.only,k=>decide (k=.unlike)
 |.place,k=>decide (k=.unlike)
 |.pair,k=>decide (k=.unlike)
 |.count,k=>decide (k=.counted)
 |.step,k=>decide (k=.rising)
 |.sums,k=>decide (k=.total)
 |.square,k=>decide (k=.nosquare)
 |.reach,k=>decide (k=.joined∨k=.ring)
 |.turn,k=>decide (k=.ring)
 |.clue,_=>true
 |.ways,_=>true
def qpN (r:RE Bool) (b:Bool):Bool:=match r with
 |.ok c=>c == b
 |_=>false
noncomputable def nK (p:PuzT) (ms:List Int) (k:KK):Option TI:=
 if k=.clue then (qcl (nC p.ground).toNat).findSome? (qod p ms k 0)
 else (qcl p.rules.length).findSome? fun n=>match qbt p n with
  |some r=>if qlM k r.k=true then (qbF r.cells).findSome? (qod p ms k n) else none
  |none=>none
noncomputable def nT (p:PuzT) (ms:List Int) (ws:List (List Nat)):Option TI:=if 0∈ms then none else (qpg ws).findSome? (nK p ms)
end
end Cm
namespace Cm
section
variable {p:PuzT} {ms:List Int}
end
end Cm
namespace Cm
section
variable {fl:Int × Int × Int} {ms:List Int} {c s:Int}
theorem qns {m:Int} (m0:0≤m) (h:stB m s=true):((2 ^ (s - 1).toNat:Nat):Int)≤m:=by
 unfold stB at h
 have:=Nat.ge_two_pow_of_testBit h
 omega
def stk (ms:List Int) (c s:Int):List Int:=ms.set c.toNat (gI ms c - ((2 ^ (s - 1).toNat:Nat):Int))
theorem qgo (hm:MOk fl ms) (hc:inC fl c) (h:stB (gI ms c) s=true):MOk fl (stk ms c s):=by
 have b:=hm.b hc
 have l:=qns b.1 h
 have p:=Nat.two_pow_pos (s - 1).toNat
 refine⟨by unfold stk;rw[List.length_set];exact hm.1,fun m hx=>?_⟩
 unfold stk at hx
 rcases List.mem_or_eq_of_mem_set hx with q | q
 ·exact hm.2 m q
 ·rw[q];omega
end
end Cm
namespace Cm
section
variable {p:PuzT} {ms:List Int} {ws:List (List Nat)}
def Nx (p:PuzT) (ws:List (List Nat)) (ms:List Int) (th:TI):Prop:=alB p ms th=true∧stB (gI ms th.2.2.1) th.2.2.2.1=true∧(∃k:KK,th.1=k.w∧k.w∈ws)∧0∉ms
inductive Steps (p:PuzT) (ws:List (List Nat)) (ms:List Int):List TI→List Int→Prop
 |nil:Steps p ws ms [] ms
 |snoc {book:List TI} {left:List Int} {th:TI}:Steps p ws ms book left→nT p left ws=some th→Steps p ws ms (book++[th]) (stk left th.2.2.1 th.2.2.2.1)
def wgt (ms:List Int):Nat:=(ms.map Int.toNat).sum
end
end Cm
namespace Cm
variable {fl:Int × Int × Int} {p:PuzT}
theorem qgi {s:List Nat} (h:∀c∈s,c<1000):PySem.PyData.strOk ⟨s.toArray⟩=true:=by
 unfold PySem.PyData.strOk
 simp only[List.all_toArray,List.all_eq_true,decide_eq_true_eq]
 intro c hc
 have:=h c hc
 omega
theorem qdT {k:Nat}:∀{xs:List (List Nat)},(∀x∈xs,∀c∈x,c<256)→D.fits (xs.map eS) k=true
 |[],_=>rfl
 |x::xs,h=>by
  rw[List.map_cons,D.fits,qdT fun y hy=>h y (List.mem_cons_of_mem _ hy)]
  show(PySem.PyData.strOk ⟨x.toArray⟩&&true)=true
  rw[qgi fun c hc=>by have:=h x (by simp) c hc;omega];rfl
theorem qdd {k:Nat}:∀ys:List (List Int),D.fits (ys.map (eL eI)) (k+1)=true
 |[]=>rfl
 |y::ys=>by
  rw[List.map_cons,D.fits,qdd ys]
  show((D.lst (y.map eI)).fit (k+1)&&true)=true
  simp[D.fit,qdW]
end Cm
namespace Cm
section
variable {p:PuzT} {ms:List Int} {ws:List (List Nat)} {th:TI}
theorem qmq (h:alB p ms th=true):qjc p th.2.2.1 th.2.2.2.1=true∧th.2.2.2.2.length≤2:=by
 unfold alB at h
 split at h
 ·cases h
 ·rename_i k _
  simp only[Bool.and_eq_true] at h
  refine⟨h.1,?_⟩
  have f:=h.2.1
  generalize qbt p th.2.1=o at f
  cases k<;>unfold qom at f<;>simp only[qha,qgc,qfa,qfH,qf8,qiX,qei,qff,qhu,qhg,qhd,Bool.and_eq_true,decide_eq_true_eq] at f
  case clue=>rw[f.2];simp
  case count=>rw[f.1];simp
  case step=>rw[f.1];simp
  case sums=>rw[f.1];simp
  case ways=>rw[f.1];simp
  all_goals (cases o<;>simp only[Bool.and_eq_true,decide_eq_true_eq] at f<;>try exact absurd f Bool.false_ne_true)
  case h_2.only.some=>omega
  case h_2.place.some=>omega
  case h_2.square.some=>omega
  case h_2.pair.some=>omega
  case h_2.reach.some=>have:=f.2.1;split at this<;>omega
  case h_2.turn.some =>
   have:=f.2
   split at this
   ·rename_i e;rw[e];simp
   ·simp only[Bool.and_eq_true,decide_eq_true_eq] at this;omega
inductive Run (p:PuzT) (ws:List (List Nat)):List TI→List Int→List Int→Prop
 |nil {ms:List Int}:Run p ws [] ms ms
 |cons {ms left:List Int} {th:TI} {ths:List TI}:nT p ms ws=some th→Run p ws ths (stk ms th.2.2.1 th.2.2.2.1) left→Run p ws (th::ths) ms left
theorem Run.app {a b c:List Int} {xs ys:List TI} (h:Run p ws xs a b) (k:Run p ws ys b c):Run p ws (xs++ys) a c:=by
 induction h with
 |nil=>exact k
 |cons nx _ ih=>exact .cons nx (ih k)
theorem Steps.run {book:List TI} {left:List Int} (h:Steps p ws ms book left):Run p ws book ms left:=by
 induction h with
 |nil=>exact .nil
 |snoc _ nx ih=>exact ih.app (.cons nx .nil)
theorem qjt {x:List Nat} {ys:List (List Nat)} (hx:∀c∈x,c<256) (hy:∀y∈ys,∀c∈y,c<256):evC .isin (eS x) ((eL eS) ys)=.ok (decide (x∈ys)):=by
 show qhD (eS x) (D.lst (ys.map eS))=_
 unfold qhD
 have h1:(eS x).fit 64=true:=qgi fun c hc=>by have:=hx c hc;omega
 have h2:(D.lst (ys.map eS)).fit 64=true:=by simp[D.fit,qdT hy]
 simp only[h1,h2,Bool.and_self,if_true]
 congr 1
 clear h2 hy
 induction ys with
 |nil=>rfl
 |cons y ys ih =>
  rw[List.map_cons,List.any_cons,ih]
  show(decide (y=x)||_)=_
  by_cases e:x=y
  ·subst e;simp
  ·have e':¬y=x:=fun q=>e q.symm
   simp[e,e']
theorem qfx {x:List Nat} {ys:List (List Nat)} (hx:∀c∈x,c<256) (hy:∀y∈ys,∀c∈y,c<256):evC .nin (eS x) ((eL eS) ys)=.ok (!decide (x∈ys)):=by
 have h:=qjt hx hy
 simp only[evC] at h ⊢
 rw[h];rfl
end
end Cm
namespace Cm
section
variable {p:PuzT} {ms:List Int} {ws:List (List Nat)} {fl:Int × Int × Int}
def qmy (fl:Int × Int × Int):Int:=((2 ^ fl.2.2.toNat:Nat):Int) - 1
def qoC (fl:Int × Int × Int) (v:Int):Int:=if 0<v then ((2 ^ (v - 1).toNat:Nat):Int) else qmy fl
end
end Cm
namespace Cm
def trn:Nat→Int × Int × Int × Int→Int × Int × Int × Int
 |0,s=>s
 |n+1,s=>trn n (s.2.1,s.1,s.2.2.2,s.1 - 1 - s.2.2.1)
structure InS (s:Int × Int × Int × Int):Prop where
 h:1≤s.1∧s.1≤6
 w:1≤s.2.1∧s.2.1≤6
 r:0≤s.2.2.1∧s.2.2.1<s.1
 c:0≤s.2.2.2∧s.2.2.2<s.2.1
def spS (fl:Int × Int × Int) (mv c:Int):Int × Int × Int × Int:=trn (mv.fmod 4).toNat (fl.1,fl.2.1,c / fl.2.1,if 3<mv then fl.2.1 - 1 - c % fl.2.1 else c % fl.2.1)
def spF (fl:Int × Int × Int) (mv c:Int):Int:=(spS fl mv c).2.2.1*(spS fl mv c).2.1+(spS fl mv c).2.2.2
def grF (fl:Int × Int × Int) (mv:Int):Int × Int × Int:=if mv.fmod 2=1 then (fl.2.1,fl.1,fl.2.2) else fl
section
variable {fl:Int × Int × Int} {mv:Int}
def qpK (fl:Int × Int × Int) (sg:List Int):Prop:=sg.Perm (qde 1 (fl.2.2+1))
def qpV (fl:Int × Int × Int) (mv:Int) (sg:List Int) (r:RuleT):RuleT:=match r.k with
 |.unlike=>⟨.unlike,grF fl mv,r.cells.map (spF fl mv),0,0⟩
 |.rising=>⟨.rising,grF fl mv,r.cells.map (spF fl mv),0,0⟩
 |.total=>⟨.total,grF fl mv,r.cells.map (spF fl mv),r.wanted,0⟩
 |.seen=>⟨.seen,grF fl mv,r.cells.map (spF fl mv),r.wanted,0⟩
 |.counted=>⟨.counted,grF fl mv,r.cells.map (spF fl mv),r.wanted,gI sg (r.sign - 1)⟩
 |.joined=>⟨.joined,grF fl mv,qcl (nC (grF fl mv)).toNat,0,gI sg (r.sign - 1)⟩
 |.nosquare=>⟨.nosquare,grF fl mv,qcl (nC (grF fl mv)).toNat,0,gI sg (r.sign - 1)⟩
 |.ring=>⟨.ring,grF fl mv,qcl (nC (grF fl mv)).toNat,0,gI sg (r.sign - 1)⟩
variable {r:RuleT} {sg:List Int}
def rcK:RK→Bool
 |.total=>true
 |.rising=>true
 |.seen=>true
 |_=>false
end
end Cm
namespace Cm
section
variable {p:PuzT}
inductive Fol (p:PuzT):List TI→List Int→List Int→Prop
 |nil {ms:List Int}:Fol p [] ms ms
 |cons {ms left:List Int} {th:TI} {ths:List TI}:alB p ms th=true→stB (gI ms th.2.2.1) th.2.2.2.1=true→0∉ms→(∃k:KK,th.1=k.w)→Fol p ths (stk ms th.2.2.1 th.2.2.2.1) left→Fol p (th::ths) ms left
theorem Fol.app {xs ys:List TI} {a b c:List Int} (h:Fol p xs a b) (k:Fol p ys b c):Fol p (xs++ys) a c:=by
 induction h with
 |nil=>exact k
 |cons h1 h2 h3 h4 _ ih=>exact .cons h1 h2 h3 h4 (ih k)
theorem Fol.ok {xs:List TI} {a b:List Int} (h:Fol p xs a b) (hm:MOk p.ground a):MOk p.ground b:=by
 induction h with
 |nil=>exact hm
 |cons h1 h2 h3 _ _ ih=>exact ih (qgo hm (qfI.mp (qmq h1).1).1 h2)
theorem qjS (k:KK):¬k.w=[115,117,112,112,111,115,101]:=by cases k<;>decide
end
end Cm
namespace Cm
abbrev THT:Type:=List Nat × Int × Int × Int × List D
def qpY (fo:PuzT→List Int→THT→RE (Option (List Int))) (ac:PuzT) (ah:List Int) (aC:List D):RE (Option (List Int)):=
 (RE.ok (ah:List Int)).bind fun ao=>Fl.bR ((qar (List.length aC:Int)).bind fun y41=>qam (fun(ax:Int) (s17:List Int)=>((atE aC ax).bind fun af=>(F.clashes s17).bind fun k18=>if k18=true then (RE.ok (.rt (none:Option (List Int)))) else (((((RE.ok ac).bind fun x20=>(dTH af).bind fun x21=>F.is_in_bounds x20 x21).bind fun x22=>RE.ok (!x22)).bind fun k26=>if k26=true then RE.ok true else ((RE.ok ac).bind fun x23=>(RE.ok s17).bind fun x24=>(dTH af).bind fun x25=>F.is_standing x23 x24 x25)).bind fun k27=>if k27=true then (((RE.ok ac).bind fun x28=>(RE.ok s17).bind fun x29=>(dTH af).bind fun x30=>fo x28 x29 x30).bind fun br=>(RE.ok br.isSome).bind fun k31=>if k31=true then ((((unO br).bind fun x33=>qcm [ax] x33).bind fun x34=>RE.ok ((some) x34)).bind fun x35=>RE.ok (.rt x35)) else (((RE.ok s17).bind fun x36=>((qfz af 2).bind dI).bind fun x37=>((qfz af 3).bind dI).bind fun x38=>F.struck x36 x37 x38).bind fun ao=>RE.ok (.nx ao))) else (RE.ok (.nx s17))):RE (Fl (Option (List Int)) (List Int)))) y41 ao) fun(p39:List Int)=>(F.clashes p39).bind fun k40=>if k40=true then (RE.ok (none:Option (List Int))) else (RE.ok (some []))
def qpw (fi:PuzT→List Int→List D→RE (Option (List Int))) (ac:PuzT) (ah:List Int) (af:THT):RE (Option (List Int)):=
 (RE.ok (!decide (af.1=([115,117,112,112,111,115,101])))).bind fun k1=>if k1=true then ((F.allowed ac ah af).bind fun k2=>if k2=true then (RE.ok (none:Option (List Int))) else (RE.ok (some []))) else (((RE.ok (!decide (af.2.1=0))).bind fun k5=>if k5=true then RE.ok true else (((F.is_in_bounds ac af).bind fun x3=>RE.ok (!x3)).bind fun k4=>if k4=true then RE.ok true else (RE.ok (decide ((List.length af.2.2.2.2:Int)=0))))).bind fun k6=>if k6=true then (RE.ok (some [])) else ((RE.ok (ah:List Int)).bind fun ao=>((qm1 1 (af.2.2.2.1 - 1)).bind fun x7=>(RE.ok af.2.2.1).bind fun x8=>qhB ao x8 x7).bind fun ao=>fi ac ao af.2.2.2.2))
abbrev SUP:List Nat:=[115,117,112,112,111,115,101]
def fiL (lo:List Int→THT→Bool) (p:PuzT):List D→List Int→Bool
 |[],ms=>decide (0∈ms)
 |d::ds,ms=>if 0∈ms then true else match dTH d with
  |.ok t=>if (qjc p t.2.2.1 t.2.2.2.1 && !stB (gI ms t.2.2.1) t.2.2.2.1)=true then fiL lo p ds ms else if lo ms t=true then fiL lo p ds (stk ms t.2.2.1 t.2.2.2.1) else false
  |_=>false
noncomputable def lb0 (p:PuzT) (ms:List Int) (t:THT):Bool:=match dT5 (dLs dI) t with
 |.ok th=>alB p ms th
 |_=>false
noncomputable def lb (p:PuzT):Nat→List Int→THT→Bool
 |0,ms,t=>lb0 p ms t
 |m+1,ms,t=>if t.1=SUP then (decide (t.2.1=0)&&qjc p t.2.2.1 t.2.2.2.1 && !decide (t.2.2.2.2.length=0)&&fiL (lb p m) p t.2.2.2.2 (ms.set t.2.2.1.toNat ((2 ^ (t.2.2.2.1 - 1).toNat:Nat):Int))) else lb0 p ms t
def PlT (t:THT):Prop:=∃th:TI,t=thD th∧(∃k:KK,th.1=k.w)∧th.2.2.2.2.length≤1000
def Vt:Nat→THT→Prop
 |0,t=>PlT t
 |m+1,t=>PlT t∨(t.1=SUP∧t.2.2.2.2.length≤1000∧∀d∈t.2.2.2.2,∃t',dTH d=.ok t'∧Vt m t')
def qpx (fo:PuzT→List Int→THT→RE (Option (List Int))) (m:Nat):Prop:=∀{p:PuzT},WfP p→∀{ms:List Int},MOk p.ground ms→∀{t:THT},Vt m t→∃o,fo p ms t=.ok o∧o.isNone=lb p m ms t∧∀l,o=some l→l.length≤m
theorem qnd {p:PuzT} {ms:List Int} {th:TI} (m:Nat) (hk:∃k:KK,th.1=k.w):lb p m ms (thD th)=alB p ms th:=by
 have n:¬(thD th).1=SUP:=by
  obtain⟨k,hk⟩:=hk
  show ¬th.1=_
  rw[hk];exact qjS k
 cases m with
 |zero=>unfold lb lb0;rw[qi1]
 |succ m=>unfold lb;rw[if_neg n];unfold lb0;rw[qi1]
theorem qm7 {p:PuzT} {ms:List Int} {m:Nat} {t:THT} (hv:Vt m t) (h:lb p m ms t=true):qjc p t.2.2.1 t.2.2.2.1=true:=by
 have pl:∀m,PlT t→lb p m ms t=true→qjc p t.2.2.1 t.2.2.2.1=true:=fun m ⟨th,e,hk,_⟩ h=>by
  subst e
  rw[qnd m hk] at h
  exact(qmq h).1
 cases m with
 |zero=>exact pl 0 hv h
 |succ m =>
  rcases hv with hv | ⟨e,_,_⟩
  ·exact pl _ hv h
  ·unfold lb at h
   rw[if_pos e] at h
   simp only[Bool.and_eq_true] at h
   exact h.1.1.2
section
variable {p:PuzT} {fo:PuzT→List Int→THT→RE (Option (List Int))} {m:Nat}
def qpq (fo:PuzT→List Int→THT→RE (Option (List Int))) (p:PuzT) (book:List D):Int→List Int→RE (Fl (Option (List Int)) (List Int)):=(fun(ax:Int) (s17:List Int)=>((atE book ax).bind fun af=>(F.clashes s17).bind fun k18=>if k18=true then (RE.ok (.rt (none:Option (List Int)))) else (((((RE.ok p).bind fun x20=>(dTH af).bind fun x21=>F.is_in_bounds x20 x21).bind fun x22=>RE.ok (!x22)).bind fun k26=>if k26=true then RE.ok true else ((RE.ok p).bind fun x23=>(RE.ok s17).bind fun x24=>(dTH af).bind fun x25=>F.is_standing x23 x24 x25)).bind fun k27=>if k27=true then (((RE.ok p).bind fun x28=>(RE.ok s17).bind fun x29=>(dTH af).bind fun x30=>fo x28 x29 x30).bind fun br=>(RE.ok br.isSome).bind fun k31=>if k31=true then ((((unO br).bind fun x33=>qcm [ax] x33).bind fun x34=>RE.ok ((some) x34)).bind fun x35=>RE.ok (.rt x35)) else (((RE.ok s17).bind fun x36=>((qfz af 2).bind dI).bind fun x37=>((qfz af 3).bind dI).bind fun x38=>F.struck x36 x37 x38).bind fun ao=>RE.ok (.nx ao))) else (RE.ok (.nx s17))):RE (Fl (Option (List Int)) (List Int))))
end
end Cm
namespace Cm
section
variable {p:PuzT}
def Le (a b:List Int):Prop:=∀d,Sb (gI a d) (gI b d)
def qpQ (p:PuzT) (lo:List Int→THT→Bool) (V:THT→Prop):Prop:=∀t,V t→∀ms ms',MOk p.ground ms→MOk p.ground ms'→Le ms' ms→lo ms t=true→lo ms' t=true
end
end Cm
namespace Cm
section
variable {p:PuzT}
inductive FolS (p:PuzT):List THT→List Int→List Int→Prop
 |nil {ms:List Int}:FolS p [] ms ms
 |cons {ms left:List Int} {t:THT} {ts:List THT}:Vt 5 t→lb p 5 ms t=true→stB (gI ms t.2.2.1) t.2.2.2.1=true→0∉ms→FolS p ts (stk ms t.2.2.1 t.2.2.2.1) left→FolS p (t::ts) ms left
theorem FolS.app {xs ys:List THT} {a b c:List Int} (h:FolS p xs a b) (k:FolS p ys b c):FolS p (xs++ys) a c:=by
 induction h with
 |nil=>exact k
 |cons h0 h1 h2 h3 _ ih=>exact .cons h0 h1 h2 h3 (ih k)
theorem FolS.ok {xs:List THT} {a b:List Int} (h:FolS p xs a b) (hm:MOk p.ground a):MOk p.ground b:=by
 induction h with
 |nil=>exact hm
 |cons h0 h1 h2 h3 _ ih=>exact ih (qgo hm (qfI.mp (qm7 h0 h1)).1 h2)
end
end Cm
namespace Cm
section
variable {p:PuzT} {ms:List Int} {ws:List (List Nat)} {fl:Int × Int × Int}
abbrev KWs (ws:List (List Nat)):Prop:=∀w∈ws,∃k:KK,w=k.w
def thk (p:PuzT) (ms:List Int) (ws:List (List Nat)):List Int × List TI:=match F.think p ms ws with
 |.ok v=>v
 |_=>([],[])
structure Thk (p:PuzT) (ms:List Int) (ws:List (List Nat)):Prop where
 e:F.think p ms ws=.ok (thk p ms ws)
 s:Steps p ws ms (thk p ms ws).2 (thk p ms ws).1
 m:MOk p.ground (thk p ms ws).1
 g:MSg p.ground (thk p ms ws).1
 n:0∈(thk p ms ws).1∨nT p (thk p ms ws).1 ws=none
def qkI (fl:Int × Int × Int):List Int:=(qcl (nC fl).toNat).map fun _=>qmy fl
def qoJ (ms:List Int):Bool:=ms.all fun m=>decide ((sgn m).length=1)
def fb1 (m:Int):Int:=match sgn m with
 |[s]=>s
 |_=>0
def qpt (p:PuzT) (ws:List (List Nat)):Bool:=qoJ (thk p (qkI p.ground) ws).1&&mtB p ((thk p (qkI p.ground) ws).1.map fb1)
mutual
theorem qfs:∀(d:D) (n:Nat),d.fit n=true→d.eqb d=true
 |.non,_,_=>rfl
 |.bl b,_,_=>by simp[D.eqb]
 |.int i,_,_=>by simp[D.eqb]
 |.str s,_,_=>by simp[D.eqb]
 |.lst xs,n,h=>by
  simp only[D.fit,Bool.and_eq_true] at h
  show D.eqbs xs xs=true
  exact qcK xs (n - 1) h.2
 |.tup xs,n,h=>by
  simp only[D.fit,Bool.and_eq_true] at h
  show D.eqbs xs xs=true
  exact qcK xs (n - 1) h.2
 |.ins _ _,_,h=>by simp[D.fit] at h
 |.exc _ _,_,h=>by simp[D.fit] at h
theorem qcK:∀(xs:List D) (n:Nat),D.fits xs n=true→D.eqbs xs xs=true
 |[],_,_=>rfl
 |x::xs,n,h=>by
  simp only[D.fits,Bool.and_eq_true] at h
  show(D.eqb x x&&D.eqbs xs xs)=true
  rw[qfs x n h.1,qcK xs n h.2];rfl
end
mutual
theorem qmG:∀(d:D) (n m:Nat),d.fit n=true→n≤m→d.fit m=true
 |.non,_,_,_,_=>rfl
 |.bl _,_,_,_,_=>rfl
 |.int _,_,_,_,_=>rfl
 |.str _,_,_,h,_=>h
 |.lst xs,n,m,h,hm=>by
  simp only[D.fit,Bool.and_eq_true,decide_eq_true_eq] at h ⊢
  exact⟨by omega,qe2 xs (n - 1) (m - 1) h.2 (by omega)⟩
 |.tup xs,n,m,h,hm=>by
  simp only[D.fit,Bool.and_eq_true,decide_eq_true_eq] at h ⊢
  exact⟨by omega,qe2 xs (n - 1) (m - 1) h.2 (by omega)⟩
 |.ins _ _,_,_,h,_=>by simp[D.fit] at h
 |.exc _ _,_,_,h,_=>by simp[D.fit] at h
theorem qe2:∀(xs:List D) (n m:Nat),D.fits xs n=true→n≤m→D.fits xs m=true
 |[],_,_,_,_=>rfl
 |x::xs,n,m,h,hm=>by
  simp only[D.fits,Bool.and_eq_true] at h ⊢
  exact⟨qmG x n m h.1 hm,qe2 xs n m h.2 hm⟩
end
theorem qdt {d:D} (h:d.fit 64=true):evC .eq d d=.ok true:=by
 show qfX d d=_
 unfold qfX
 split
 ·simp
 ·simp
 ·simp
 ·rw[h];simp only[Bool.and_self,if_true];rw[qfs d 64 h]
theorem qdk {d:D} (h:d.fit 64=true):evC .ne d d=.ok false:=by
 show(qfX d d).bind _=_
 have:=qdt h
 have this:qfX d d=.ok true:=this
 rw[this];rfl
end
end Cm
namespace Cm
section
variable {p:PuzT} {ws:List (List Nat)} {cl:List Int} {fl:Int × Int × Int} {order:List Int}
abbrev pc (p:PuzT) (cl:List Int):PuzT:=⟨p.ground,p.rules,cl⟩
def wo (cl:List Int) (c:Int):List Int:=cl.set c.toNat 0
def tkS (p:PuzT) (ws:List (List Nat)) (cl:List Int) (c:Int):List Int:=if gI cl c≠0∧qpt (pc p (wo cl c)) ws=true then wo cl c else cl
def tkL (p:PuzT) (ws:List (List Nat)) (order:List Int):List Int:=order.foldl (tkS p ws) p.clues
def qm6 (p:PuzT) (ws:List (List Nat)) (cl:List Int) (c:Int):List Int:=(thk (pc p (wo cl c)) (qkI p.ground) ws).1
def qo9 (p:PuzT) (ws:List (List Nat)) (cl:List Int) (order:List Int):List (Int × List Int):=((qmX order).filter fun c=>!decide (gI cl c=0)).map fun c=>(c,qm6 p ws cl c)
end
end Cm
namespace Cm
section
variable {p:PuzT} {ms:List Int} {ws:List (List Nat)} {c s n:Int}
structure MoreP (p p':PuzT):Prop where
 g:p'.ground=p.ground
 r:p'.rules=p.rules
 c:∀c,inC p.ground c→gI p.clues c=0∨gI p'.clues c=gI p.clues c
theorem MoreP.refl (p:PuzT):MoreP p p:=⟨rfl,rfl,fun _ _=>.inr rfl⟩
theorem le_refl (a:List Int):Le a a:=fun d=>Sb.refl _
end
end Cm
namespace Cm
section
variable {α:Type} {k j:Int} {x:α}
theorem qfi:∀{m:List (Int × α)},qbL k (qlk j x m)=if k=j then (qbL j m).map (fun _=>x) else qbL k m
 |[]=>by
  show none=_
  split<;>rfl
 |e::m=>by
  have ih:=qfi (m:=m)
  unfold qlk at ih ⊢
  rw[List.map_cons]
  by_cases q:e.1=j
  ·rw[if_pos q]
   unfold qbL
   by_cases z:k=j
   ·rw[if_pos (by rw[q,z]),if_pos z,if_pos q];rfl
   ·rw[if_neg (by rw[q];exact fun h=>z h.symm),if_neg z,if_neg (by rw[q];exact fun h=>z h.symm),ih,if_neg z]
  ·rw[if_neg q]
   unfold qbL
   by_cases z:e.1=k
   ·rw[if_pos z,if_pos z]
    have n:k≠j:=fun h=>q (z.trans h)
    rw[if_neg n]
   ·rw[if_neg z,if_neg z,ih,if_neg q]
theorem qeq:∀{m:List (Int × α)},qbL j m=none→qbL k (m++[(j,x)])=if k=j then some x else qbL k m
 |[],_=>by
  show(if j=k then some x else none)=_
  by_cases z:k=j
  ·rw[if_pos z,if_pos z.symm]
  ·rw[if_neg z,if_neg fun h=>z h.symm];rfl
 |e::m,h=>by
  unfold qbL at h
  by_cases q:e.1=j
  ·rw[if_pos q] at h;cases h
  ·rw[if_neg q] at h
   have ih:=qeq h
   rw[List.cons_append]
   unfold qbL
   by_cases z:e.1=k
   ·rw[if_pos z,if_pos z,if_neg fun h=>q (z.trans h)]
   ·rw[if_neg z,if_neg z,ih]
theorem qii {m:List (Int × α)}:qbL k (qhF j x m)=if k=j then some x else qbL k m:=by
 unfold qhF
 cases h:qbL j m with
 |none=>exact qeq h
 |some y =>
  rw[if_pos (show(some y).isSome=true from rfl),qfi,h];rfl
theorem qeK {m:List (Int × α)} (h:(qbL j m).isSome=true):(qhF j x m).length=m.length:=by
 unfold qhF qlk
 rw[if_pos h,List.length_map]
theorem qif {m:List (Int × α)} (h:m.length<16777216):qfO m k x=.ok (qhF k x m):=qfg (qje (by have:LIM=16777216:=rfl;omega))
theorem qh5 {m:List (Int × α)} (h:qbL k m=some x):qeV m k=.ok x:=by unfold qeV;rw[h]
end
end Cm
namespace Cm
section
variable {fl:Int × Int × Int} {cs:List Int} {m:List (Int × Int)} {g g0:Int→Int} {k c o x:Int}
def Mk (cs:List Int) (m:List (Int × Int)) (g:Int→Int):Prop:=(∀k,qbL k m=if k∈cs then some (g k) else none)∧m.length≤100
theorem Mk.get (h:Mk cs m g) (hk:k∈cs):qeV m k=.ok (g k):=qh5 (by rw[h.1,if_pos hk])
theorem Mk.put (h:Mk cs m g) (hk:k∈cs):qfO m k x=.ok (qhF k x m)∧Mk cs (qhF k x m) (fun j=>if j=k then x else g j):=by
 have hs:(qbL k m).isSome=true:=by rw[h.1,if_pos hk];rfl
 refine⟨qif (by have:=h.2;omega),fun j=>?_,by rw[qeK hs];exact h.2⟩
 rw[qii,h.1]
 by_cases e:j=k
 ·subst e
  rw[if_pos rfl]
  show some x=if j∈cs then some (if j=j then x else g j) else none
  rw[if_pos hk,if_pos rfl]
 ·rw[if_neg e]
  show _=if j∈cs then some (if j=k then x else g j) else none
  rw[if_neg e]
def Pg (fl:Int × Int × Int) (cs:List Int) (g0:Int→Int) (Q:Int→Int→Prop) (m:List (Int × Int)):Prop:=∃g,Mk cs m g∧(∀x∈cs,g x≤g0 x∧Rch fl cs x (g x))∧∀a b,Q a b→a∈cs→b∈cs→g a≤g0 b∧g b≤g0 a
theorem Pg.sub {Q Q':Int→Int→Prop} (h:Pg fl cs g0 Q m) (k:∀a b,a∈cs→b∈cs→Q' a b→Q a b):Pg fl cs g0 Q' m:=by
 obtain⟨g,h1,h2,h3⟩:=h
 exact⟨g,h1,h2,fun a b q ha hb=>h3 a b (k a b ha hb q) ha hb⟩
theorem Pg.edge {Q:Int→Int→Prop} (hf:FOk fl) (hi:∀x∈cs,inC fl x) (h:Pg fl cs g0 Q m) (hc:c∈cs) (ho:o∈cs) (hn:o∈qci fl c) :
  W (((qeV m c).bind fun x113=>(qeV m o).bind fun x114=>RE.ok (if x114<x113 then x114 else x113)).bind fun aW=>(qfO m c aW).bind fun bg=>(qfO bg o aW).bind fun bg=>RE.ok bg) (Pg fl cs g0 fun a b=>Q a b∨(a=c∧b=o)):=by
 obtain⟨g,h1,h2,h3⟩:=h
 rw[h1.get hc,h1.get ho]
 simp only[RE.bind_ok]
 have rco:Rch fl cs c o:=.step (.base hc) hn ho
 have roc:Rch fl cs o c:=rco.symm hf hi
 have low:∃lo,(if g o<g c then g o else g c)=lo∧lo≤g o∧lo≤g c∧Rch fl cs c lo∧Rch fl cs o lo:=by
  by_cases q:g o<g c
  ·exact⟨g o,if_pos q,Int.le_refl _,by omega,rco.trans (h2 o ho).2,(h2 o ho).2⟩
  ·exact⟨g c,if_neg q,by omega,Int.le_refl _,(h2 c hc).2,roc.trans (h2 c hc).2⟩
 obtain⟨lo,e,l1,l2,l3,l4⟩:=low
 rw[e]
 obtain⟨p1,m1⟩:=h1.put (x:=lo) hc
 rw[p1]
 simp only[RE.bind_ok]
 obtain⟨p2,m2⟩:=m1.put (x:=lo) ho
 rw[p2]
 have le:∀x∈cs,(fun j=>if j=o then lo else (fun j=>if j=c then lo else g j) j) x≤g x:=fun x hx=>by
  show(if x=o then lo else if x=c then lo else g x)≤g x
  split
  ·rename_i e;rw[e];exact l1
  ·split
   ·rename_i e;rw[e];exact l2
   ·exact Int.le_refl _
 refine W.ok ⟨_,m2,fun x hx=>⟨Int.le_trans (le x hx) (h2 x hx).1,?_⟩,fun a b q ha hb=>?_⟩
 ·show Rch fl cs x (if x=o then lo else if x=c then lo else g x)
  split
  ·rename_i e;rw[e];exact l4
  ·split
   ·rename_i e;rw[e];exact l3
   ·exact(h2 x hx).2
 ·rcases q with q | ⟨rfl,rfl⟩
  ·have:=h3 a b q ha hb
   exact⟨Int.le_trans (le a ha) this.1,Int.le_trans (le b hb) this.2⟩
  ·have e1:(if a=b then lo else if a=a then lo else g a)=lo:=by
    split
    ·rfl
    ·rw[if_pos rfl]
   have e2:(if b=b then lo else if b=a then lo else g b)=lo:=if_pos rfl
   show(if a=b then lo else if a=a then lo else g a)≤g0 b∧(if b=b then lo else if b=a then lo else g b)≤g0 a
   rw[e1,e2]
   exact⟨Int.le_trans l1 (h2 b hb).1,Int.le_trans l2 (h2 a ha).1⟩
theorem Pg.others {Q:Int→Int→Prop} (hf:FOk fl) (hi:∀x∈cs,inC fl x) (h:Pg fl cs g0 Q m) (hc:c∈cs) {os:List Int} (hn:∀o∈os,o∈cs→o∈qci fl c) :
  W (qac (fun(b5:Int) (s105:List (Int × Int))=>(if ((qbL b5 s105).isSome == true)=true then (((qeV s105 c).bind fun x113=>(qeV s105 b5).bind fun x114=>RE.ok (if x114<x113 then x114 else x113)).bind fun aW=>(qfO s105 c aW).bind fun bg=>(qfO bg b5 aW).bind fun bg=>RE.ok bg) else (RE.ok s105)).bind fun(p119:List (Int × Int))=>RE.ok p119) os m) (Pg fl cs g0 fun a b=>Q a b∨(a=c∧b∈os)):=by
 refine W.mono (qcr (fun i=>Pg fl cs g0 fun a b=>Q a b∨(a=c∧b∈os.take i)) (h.sub fun a b _ _ q=>?_) fun i o m hx h=>?_) fun m h=>by rw[List.take_length] at h;exact h
 ·rcases q with q | q
  ·exact q
  ·simp at q
 have tk:os.take (i+1)=os.take i++[o]:=by rw[List.take_add_one,hx];rfl
 have mo:=List.mem_of_getElem? hx
 refine W.bind (P:=Pg fl cs g0 fun a b=>Q a b∨(a=c∧b∈os.take (i+1))) ?_ fun m' h'=>W.ok h'
 have hs:(qbL o m).isSome=decide (o∈cs):=by
  obtain⟨g,h1,_⟩:=h
  rw[h1.1]
  by_cases q:o∈cs
  ·rw[if_pos q,decide_eq_true q];rfl
  ·rw[if_neg q,decide_eq_false q];rfl
 rw[hs]
 by_cases q:o∈cs
 ·rw[decide_eq_true q,if_pos (show(true == true)=true from rfl)]
  refine W.mono (h.edge hf hi hc q (hn o mo q)) fun m' h'=>h'.sub fun a b _ _ z=>?_
  rcases z with z | ⟨z1,z2⟩
  ·exact .inl (.inl z)
  ·rw[tk] at z2
   rcases List.mem_append.mp z2 with w | w
   ·exact .inl (.inr ⟨z1,w⟩)
   ·exact .inr ⟨z1,List.mem_singleton.mp w⟩
 ·rw[decide_eq_false q,if_neg (by decide)]
  refine W.ok (h.sub fun a b _ hb z=>?_)
  rcases z with z | ⟨z1,z2⟩
  ·exact .inl z
  ·rw[tk] at z2
   rcases List.mem_append.mp z2 with w | w
   ·exact .inr ⟨z1,w⟩
   ·rw[List.mem_singleton.mp w] at hb
    exact absurd hb q
def nbL (w c:Int):List Int:=[c+w]++(if 0<(c+1).fmod w then [c+1] else [])
end
end Cm
namespace Cm
theorem qd6 {s:List Nat} {ws:List (List Nat)} (h:(ws.map List.length).sum+ws.length*s.length≤16777216):qcp s ws=.ok (TL.joinL s ws):=by
 unfold qcp
 rw[qfg (qje h)]
 have:=SX.join_S s ws
 show RE.ok ((PySem.Txt.join (SX.S s) (ws.map SX.S)).cps.toList)=_
 rw[this]
theorem qdh {x sep:List Nat} {ws:List (List Nat)} (hl:x.length≤1000000) (hs:sep≠[]) (hk:sep.all (· < 256)=true) (e:TL.spl sep 0 [] x=ws):qbm x sep=.ok ws:=by
 unfold qbm
 have h:=SX.split_S (a:=x) (b:=sep) hs hk
 have e2:(PySem.Txt.split (qal x) (qal sep))=ws.map SX.S:=by rw[←e];exact h
 rw[e2,List.map_map]
 have:ws.map ((fun z:PySem.Str=>z.cps.toList) ∘ SX.S)=ws.map id:=List.map_congr_left fun w _=>rfl
 rw[this,List.map_id,qfg]
 rw[qat]
 have l:LIM=16777216:=rfl
 exact⟨fun z=>hs (List.length_eq_zero_iff.mp z),by omega⟩
theorem qcO {P:Nat→Prop} {s:List Nat} (hs:∀c∈s,P c):∀{ws:List (List Nat)},(∀w∈ws,∀c∈w,P c)→∀c∈TL.joinL s ws,P c
 |[],_=>by simp[TL.joinL]
 |[p],h=>by simpa[TL.joinL] using h p (by simp)
 |p::q::r,h=>by
  intro c hc
  simp only[TL.joinL,List.mem_append] at hc
  rcases hc with hc | hc | hc
  ·exact h p (by simp) c hc
  ·exact hs c hc
  ·exact qcO hs (ws:=q::r) (fun w hw=>h w (List.mem_cons_of_mem _ hw)) c hc
theorem qiS {f:Int→Nat}:∀xs:List Int,TL.joinL [] (xs.map fun c=>[f c])=xs.map f
 |[]=>rfl
 |[_]=>rfl
 |x::y::r=>by
  have:=qiS (f:=f) (y::r)
  simp only[List.map_cons] at this ⊢
  simp only[TL.joinL,List.nil_append] at this ⊢
  rw[this];rfl
theorem qk5 {α:Type} {xs:List α} {a b:Int} (h0:0≤a) (h1:a≤b) (h2:b≤xs.length):qbd xs (some a) (some b)=(xs.drop a.toNat).take (b.toNat - a.toNat):=by
 have e1:HT.sIx xs.length 0 (some a)=a.toNat:=by
  have:=HT.sIx_nat xs.length 0 a.toNat
  rw[show((a.toNat:Nat):Int)=a by omega] at this
  rw[this];omega
 have e2:HT.sIx xs.length xs.length (some b)=b.toNat:=by
  have:=HT.sIx_nat xs.length xs.length b.toNat
  rw[show((b.toNat:Nat):Int)=b by omega] at this
  rw[this];omega
 unfold qbd
 rw[e1,e2]
def MK:List Nat:=[46,49,50,51,52,53,54]
def mkT (s:Int):Nat:=MK.getD s.toNat 46
theorem six {s:Int} (h0:0≤s) (h1:s≤6):s=0∨s=1∨s=2∨s=3∨s=4∨s=5∨s=6:=by omega
theorem qj8:∀x<7,isI (qbQ [46,49,50,51,52,53,54] [MK.getD x 46]) x=true:=by decide +kernel
theorem qlr {s:Int} (h0:0≤s) (h1:s≤6):qbQ [46,49,50,51,52,53,54] [mkT s]=.ok s:=by
 have:=qgj (qj8 s.toNat (by omega))
 rw[show((s.toNat:Nat):Int)=s by omega] at this
 exact this
theorem qgX {g:Int} (h0:1≤g) (h1:g≤6):qav [46,49,50,51,52,53,54] none (some (g+1))=.ok (MK.take (g+1).toNat):=by
 rcases six (by omega) h1 with e | e | e | e | e | e | e<;>subst e<;>first | omega | rfl
theorem qnl {g s:Int} (h0:0≤s) (h1:s≤g) (h2:g≤6):mkT s∈MK.take (g+1).toNat:=by
 have l:s.toNat<(MK.take (g+1).toNat).length:=by rw[List.length_take];have:MK.length=7:=rfl;omega
 have e:mkT s=(MK.take (g+1).toNat)[s.toNat]:=by
  unfold mkT
  rw[List.getElem_take,List.getD_eq_getElem?_getD,List.getElem?_eq_getElem (by have:MK.length=7:=rfl;omega)];rfl
 rw[e]
 exact List.getElem_mem l
theorem qmx (s:Int):mkT s∈MK:=by
 unfold mkT
 rw[List.getD_eq_getElem?_getD]
 by_cases h:s.toNat<MK.length
 ·rw[List.getElem?_eq_getElem h];exact List.getElem_mem h
 ·rw[List.getElem?_eq_none (by omega)];decide
def qhA (fl:Int × Int × Int) (cl:List Int) (k:Nat):List Nat:=((cl.drop (k*fl.2.1.toNat)).take fl.2.1.toNat).map mkT
def qbz (fl:Int × Int × Int) (cl:List Int):List (List Nat):=(List.range fl.1.toNat).map (qhA fl cl)
def fiT (fl:Int × Int × Int) (cl:List Int):List Nat:=TL.joinL [47] (qbz fl cl)
section
variable {fl:Int × Int × Int} {cl:List Int}
theorem qcD (hf:FOk fl) (hc:qeu fl cl):cl.length=fl.1.toNat*fl.2.1.toNat∧fl.1.toNat≤6∧fl.2.1.toNat≤6∧1≤fl.1.toNat∧1≤fl.2.1.toNat∧cl.length≤16:=by
 have h1:=hf.h1;have h2:=hf.h2;have w1:=hf.w1;have w2:=hf.w2;have n:=hf.n
 have e:=hc.1
 obtain⟨h,eh⟩:∃h:Nat,fl.1=h:=⟨fl.1.toNat,by omega⟩
 obtain⟨w,ew⟩:∃w:Nat,fl.2.1=w:=⟨fl.2.1.toNat,by omega⟩
 have e:(cl.length:Int)=fl.1*fl.2.1:=e
 rw[eh,ew] at e n
 rw[eh,ew]
 simp only[Int.toNat_natCast]
 have e2:cl.length=h*w:=by exact_mod_cast e
 have n2:h*w≤16:=by exact_mod_cast n
 omega
theorem qig (hf:FOk fl) (hc:qeu fl cl) {k:Nat} (hk:k<fl.1.toNat) {a b:Int} (ha:a=(k:Int)*fl.2.1) (hb:b=(k:Int)*fl.2.1+fl.2.1):qbd cl (some a) (some b)=(cl.drop (k*fl.2.1.toNat)).take fl.2.1.toNat:=by
 obtain⟨e,h6,w6,h1,w1,_⟩:=qcD hf hc
 have w0:=hf.w1
 obtain⟨w,ew⟩:∃w:Nat,fl.2.1=w:=⟨fl.2.1.toNat,by omega⟩
 rw[ew] at ha hb e ⊢
 simp only[Int.toNat_natCast] at e ⊢
 have le:k*w+w≤fl.1.toNat*w:=by
  have:=Nat.mul_le_mul_right w (show k+1≤fl.1.toNat from hk)
  rw[Nat.add_mul,Nat.one_mul] at this
  exact this
 have a2:a=((k*w:Nat):Int):=by rw[ha];push_cast;rfl
 have b2:b=((k*w+w:Nat):Int):=by rw[hb];push_cast;rfl
 rw[qk5 (by omega) (by omega) (by omega),a2,b2,Int.toNat_natCast,Int.toNat_natCast,Nat.add_sub_cancel_left]
theorem qe7 (hc:qeu fl cl) (k:Nat):∀x∈(cl.drop (k*fl.2.1.toNat)).take fl.2.1.toNat,0≤x∧x≤fl.2.2:=fun x hx=>hc.2 x (List.mem_of_mem_drop (List.mem_of_mem_take hx))
theorem qbR (hf:FOk fl) (hc:qeu fl cl) {k:Nat} (hk:k<fl.1.toNat):((cl.drop (k*fl.2.1.toNat)).take fl.2.1.toNat).length=fl.2.1.toNat:=by
 obtain⟨e,h6,w6,h1,w1,_⟩:=qcD hf hc
 have:=Nat.mul_le_mul_right fl.2.1.toNat (show k+1≤fl.1.toNat from hk)
 rw[Nat.add_mul,Nat.one_mul] at this
 rw[List.length_take,List.length_drop]
 omega
theorem qez (hf:FOk fl) (hc:qeu fl cl):∀r∈qbz fl cl,r.length≤6:=fun r hr=>by
 obtain⟨k,hk,rfl⟩:=List.mem_map.mp hr
 obtain⟨e,h6,w6,_⟩:=qcD hf hc
 unfold qhA
 rw[List.length_map,qbR hf hc (List.mem_range.mp hk)]
 exact w6
theorem qfK:(qbz fl cl).length=fl.1.toNat:=by unfold qbz;rw[List.length_map,List.length_range]
theorem qgy:∀r∈qbz fl cl,∀c∈r,c∈MK:=fun r hr c hc=>by
 obtain⟨k,_,rfl⟩:=List.mem_map.mp hr
 obtain⟨s,_,rfl⟩:=List.mem_map.mp hc
 exact qmx s
theorem qef (hf:FOk fl) (hc:qeu fl cl):qcp [47] (qbz fl cl)=.ok (fiT fl cl)∧(fiT fl cl).length≤100:=by
 obtain⟨e,h6,_⟩:=qcD hf hc
 have l:=qfK (fl:=fl) (cl:=cl)
 refine⟨qhW (b:=6) (qez hf hc) (by omega),?_⟩
 have a:=qbT 47 (qbz fl cl)
 have b:=qep (qez hf hc)
 have e:(fiT fl cl).length=(TL.joinL [47] (qbz fl cl)).length:=rfl
 omega
theorem qdp {g:Int} (g1:1≤g) (g6:g≤6):∀(xs s:List Int),(∀x∈xs,0≤x∧x≤g)→s.length+xs.length≤1000 →
  qac (fun(aH:Nat) (s28:List Int)=>((qav ([46,49,50,51,52,53,54]) none (some (g+1))).bind fun x30=>RE.ok (!decide (aH∈x30))).bind fun k31=>if k31=true then RE.exc 32 [] else (((qbQ ([46,49,50,51,52,53,54]) [aH]).bind fun x32=>qa5 s28 x32).bind fun am=>RE.ok am)) (xs.map mkT) s=.ok (s++xs)
 |[],s,_,_=>by simp[qac]
 |x::xs,s,h,hl=>by
  have hx:=h x (by simp)
  rw[List.length_cons] at hl
  have ih:=qdp g1 g6 xs (s++[x]) (fun y hy=>h y (List.mem_cons_of_mem _ hy)) (by rw[List.length_append,List.length_singleton];omega)
  have one:(((qav ([46,49,50,51,52,53,54]) none (some (g+1))).bind fun x30=>RE.ok (!decide (mkT x∈x30))).bind fun k31=>if k31=true then RE.exc 32 [] else (((qbQ ([46,49,50,51,52,53,54]) [mkT x]).bind fun x32=>qa5 s x32).bind fun am=>RE.ok am))=RE.ok (s++[x]):=by
   rw[qgX g1 g6]
   simp only[RE.bind_ok]
   rw[decide_eq_true (qnl hx.1 hx.2 g6),qlr hx.1 (by omega)]
   simp only[RE.bind_ok,Bool.not_true,Bool.false_eq_true,if_false]
   rw[qcG (by omega)]
   rfl
  rw[List.map_cons,qac,one]
  refine Eq.trans ih ?_
  rw[List.append_assoc]
  rfl
theorem qjI (hf:FOk fl) (hc:qeu fl cl):F.read_filling fl (eS (fiT fl cl))=.ok cl:=by
 obtain⟨e,h6,w6,h1,w1,l16⟩:=qcD hf hc
 have s1:=hf.s1;have s2:=hf.s2;have hh1:=hf.h1;have ww1:=hf.w1
 have rl:=qfK (fl:=fl) (cl:=cl)
 unfold F.read_filling
 have ty:tyE (eD (eS (fiT fl cl))) .str=.ok true:=rfl
 rw[ty]
 simp only[RE.bind_ok,Bool.not_true,Bool.false_eq_true,if_false]
 have ds:dS (eS (fiT fl cl))=.ok (fiT fl cl):=rfl
 rw[ds]
 simp only[RE.bind_ok]
 have sp:qbm (fiT fl cl) [47]=.ok (qbz fl cl):=qg7 (b:=6) (qez hf hc) (by omega) (by decide) (fun z=>by rw[z] at rl;simp at rl;omega) fun r hr hm=>by
  have:=qgy r hr 47 hm
  revert this;decide
 rw[sp]
 simp only[RE.bind_ok]
 have q:((qbz fl cl).length:Int)=fl.1:=by omega
 rw[decide_eq_true q]
 simp only[Bool.not_true,Bool.false_eq_true,if_false]
 refine W.eq (W.bind (P:=fun L=>L=cl) ?_ fun L hL=>by rw[hL];exact W.ok rfl)
 refine W.mono (qcr (fun i s=>s=cl.take (i*fl.2.1.toNat)) (by simp) fun i r s hx hs=>?_) fun L h=>by rw[h,rl,←e,List.take_length]
 have hi:=(List.getElem?_eq_some_iff.mp hx).1
 rw[rl] at hi
 have er:r=qhA fl cl i:=by
  unfold qbz at hx
  rw[List.getElem?_map,List.getElem?_range hi] at hx
  exact(Option.some.inj hx).symm
 have sl:=qbR hf hc hi
 have len:r.length=fl.2.1.toNat:=by rw[er];unfold qhA;rw[List.length_map,sl]
 have ln:qc4 r=.ok (r.length:Int):=qfg (qje (by have:LIM=16777216:=rfl;omega))
 rw[ln]
 simp only[RE.bind_ok]
 rw[decide_eq_true (show(r.length:Int)=fl.2.1 by omega)]
 simp only[Bool.not_true,Bool.false_eq_true,if_false]
 rw[er]
 unfold qhA
 have ls:s.length≤16:=by rw[hs,List.length_take];omega
 rw[qdp s1 s2 _ s (qe7 hc i) (by omega)]
 refine W.ok ?_
 rw[hs,Nat.add_mul,Nat.one_mul,List.take_add]
end
def qnV (fl:Int × Int × Int):List Nat:=TL.joinL [32] [dgI fl.1,dgI fl.2.1,dgI fl.2.2]
def qpU (fl:Int × Int × Int) (ls:List (List Nat)) (cl:List Int):List Nat:=(((qnV fl++[32,124,32])++TL.joinL [59,32] ls)++[32,124,32])++fiT fl cl
def PlC (c:Nat):Prop:=c=32∨(48≤c∧c<58)∨(97≤c∧c<123)
section
variable {fl:Int × Int × Int} {cl:List Int} {rs:List RuleT}
end
end Cm
namespace Cm
section
variable {p:PuzT} {ms:List Int} {ws:List (List Nat)} {fi:List Int}
structure Ans (p:PuzT) (fi:List Int):Prop where
 l:(fi.length:Int)=nC p.ground
 b:∀x∈fi,1≤x∧x≤p.ground.2.2
 c:∀c,inC p.ground c→gI p.clues c=0∨gI p.clues c=gI fi c
 r:∀r∈p.rules,qiQ r (gI fi)=true
theorem Ans.at_ (h:Ans p fi) {c:Int} (hc:inC p.ground c):1≤gI fi c∧gI fi c≤p.ground.2.2:=h.b _ (qjq hc.1 (by have:=h.l;have:=hc.2;omega))
def mbL (fl:Int × Int × Int) (e:List Int):List Int:=match F.masks_by fl e with
 |.ok v=>v
 |_=>[]
structure Mbs (fl:Int × Int × Int) (en:List Int):Prop where
 e:F.masks_by fl en=.ok (mbL fl en)
 m:MOk fl (mbL fl en)
 g:MSg fl (mbL fl en)
 v:∀c,inC fl c→gI (mbL fl en) c=qoC fl (gI en c)
def tho (p:PuzT) (e:List Int) (ws:List (List Nat)):List Int × List TI:=thk p (mbL p.ground e) ws
def qoI (p:PuzT) (e:List Int) (ws:List (List Nat)):Bool:=decide ((0:Int)∈(tho p e ws).1)
structure Wrg (p:PuzT) (e:List Int) (ws:List (List Nat)) (lf cells:List Int):Prop where
 f:qeu p.ground lf
 c:qoI p lf ws=true
 v:∀c,inC p.ground c→gI lf c=0∨gI lf c=gI e c
 cs:cells=(qcl lf.length).filter fun c=>!decide (gI lf c=0)
end
end Cm
namespace Cm
section
variable {p:PuzT} {g:List Int}
abbrev zrs (p:PuzT):List Int:=List.replicate p.clues.length 0
end
end Cm
namespace Cm
section
variable {p p':PuzT} {ms left:List Int} {ws:List (List Nat)} {fi:List Int}
section
variable (hp:WfP p) (hw:KWs ws)
include hp hw
end
theorem MoreP.ans (h:MoreP p p') (ha:Ans p' fi):Ans p fi:=by
 refine⟨by rw[←h.g];exact ha.l,by rw[←h.g];exact ha.b,fun c hc=>?_,fun r hr=>ha.r r (by rw[h.r];exact hr)⟩
 rcases h.c c hc with q | q
 ·exact .inl q
 ·rw[←q]
  exact ha.c c (by rw[h.g];exact hc)
def Sub0 (fl:Int × Int × Int) (a b:List Int):Prop:=∀c,inC fl c→gI a c=0∨gI a c=gI b c
theorem Sub0.trans {fl:Int × Int × Int} {a b c:List Int} (h:Sub0 fl a b) (k:Sub0 fl b c):Sub0 fl a c:=fun d hd=>by
 rcases h d hd with q | q
 ·exact .inl q
 ·rw[q];exact k d hd
end
end Cm
namespace Cm
def wyI (ms:List Int):Int:=qkh (ms.map fun m=>((sgn m).length:Int))
def won (ms:List Int) (c t:Int):List Int:=ms.set c.toNat ((2 ^ (t - 1).toNat:Nat):Int)
section
variable {p p':PuzT} {ms left:List Int} {ws:List (List Nat)} {fi:List Int} {c t:Int}
end
end Cm
namespace Cm
def aB (K:PuzT→List Int→RE (List (List Int))) (ac:PuzT) (ah:List Int):RE (List (List Int)):=
 ((F.think ac ah qaf).bind fun x1=>RE.ok x1.1).bind fun ao=>(F.clashes ao).bind fun k2=>if k2=true then (RE.ok []) else ((F.is_settled ao).bind fun k3=>if k3=true then ((F.filling_by ao).bind fun x4=>RE.ok [x4]) else K ac ao)
def kA0 (ac:PuzT) (ao:List Int):RE (List (List Int)):=
 ((F.first_open ao).bind fun ab=>(RE.ok ([]:List (List Int))).bind fun aj=>(((atE ao ab).bind fun x5=>F.signs_in x5).bind fun y17=>qac (fun(ai:Int) (s9:List (List Int))=>((RE.ok (decide ((List.length s9:Int)<2))).bind fun k10=>if k10=true then (((RE.bad:RE (List (List Int))).bind fun x14=>qcm s9 x14).bind fun aj=>RE.ok aj) else (RE.ok s9)).bind fun(p15:List (List Int))=>RE.ok p15) y17 aj).bind fun(p16:List (List Int))=>RE.ok p16)
def kA (rec:PuzT→List Int→RE (List (List Int))) (ac:PuzT) (ao:List Int):RE (List (List Int)):=
 ((F.first_open ao).bind fun ab=>(RE.ok ([]:List (List Int))).bind fun aj=>(((atE ao ab).bind fun x5=>F.signs_in x5).bind fun y23=>qac (fun(ai:Int) (s11:List (List Int))=>((RE.ok (decide ((List.length s11:Int)<2))).bind fun k12=>if k12=true then ((((RE.ok ac).bind fun x17=>(F.with_only ao ab ai).bind fun x18=>rec x17 x18).bind fun x20=>qcm s11 x20).bind fun aj=>RE.ok aj) else (RE.ok s11)).bind fun(p21:List (List Int))=>RE.ok p21) y23 aj).bind fun(p22:List (List Int))=>RE.ok p22)
def rB (su:PuzT→List Int→Int→Int→RE D) (ac:PuzT) (ah:List Int):RE (List D):=
 ((F.think ac ah qaf).bind (qeT eI (eT5 eS eI eI eI (eL eI)))).bind fun p1=>(F.clashes p1.1).bind fun k2=>if k2=true then (RE.ok (List.map ((eT5 eS eI eI eI (eL eI))) p1.2)) else ((F.first_open p1.1).bind fun ab=>(((atE p1.1 ab).bind fun x3=>F.signs_in x3).bind fun y8=>qac (fun(ai:Int) (s5:List D)=>((su ac p1.1 ab ai).bind fun x6=>qa5 s5 x6).bind fun aC=>RE.ok aC) y8 (List.map ((eT5 eS eI eI eI (eL eI))) p1.2)).bind fun(p7:List D)=>RE.ok p7)
def sB (re:PuzT→List Int→RE (List D)) (ac:PuzT) (ah:List Int) (ab:Int) (ai:Int):RE D:=
 ((RE.ok ([115,117,112,112,111,115,101])).bind fun x3=>(RE.ok 0).bind fun x4=>(RE.ok ab).bind fun x5=>(RE.ok ai).bind fun x6=>((RE.ok ac).bind fun x1=>(F.with_only ah ab ai).bind fun x2=>re x1 x2).bind fun x7=>RE.ok (x3,x4,x5,x6,x7)).bind fun x8=>RE.ok (((eT5 eS eI eI eI (eL eD))) x8)
section
variable {p:PuzT} {ms left:List Int} {fi:List Int} {c t:Int}
structure AL (p:PuzT) (b:Nat) (ms:List Int) (L:List (List Int)):Prop where
 a:∀x∈L,Ans p x∧Snd p.ground ms x
 d:L.Nodup
 f:∀x,Ans p x→Snd p.ground ms x→x∈L∨2≤L.length
 n:L.length≤b
def qpF (b w:Nat) (F:PuzT→List Int→RE (List (List Int))):Prop:=∀{p:PuzT},WfP p→∀{ms:List Int},MOk p.ground ms→MSg p.ground ms→wyI ms≤w→W (F p ms) (AL p b ms)
end
end Cm
namespace Cm
def qpL (w:Nat) (re:PuzT→List Int→RE (List D)):Prop:=∀{p:PuzT},WfP p→∀{ms:List Int},MOk p.ground ms→MSg p.ground ms→(∀x,Ans p x→¬Snd p.ground ms x)→wyI ms≤w→W (re p ms) fun b=>b.length≤2000
def qpZ (w:Nat) (su:PuzT→List Int→Int→Int→RE D):Prop:=∀{p:PuzT},WfP p→∀{ms:List Int},MOk p.ground ms→MSg p.ground ms→∀{c t:Int},inC p.ground c→1≤t→t≤6→stB (gI ms c) t=true→(∀x,Ans p x→Snd p.ground ms x→gI x c≠t)→wyI (won ms c t)≤w→W (su p ms c t) fun _=>True
section
variable {p:PuzT} {ms left:List Int} {fi ans:List Int} {c t:Int}
def few (p:PuzT):Prop:=(0:Int)∈(thk p (qkI p.ground) qaf).1∨wyI (thk p (qkI p.ground) qaf).1≤32
inductive Sol (p:PuzT):D→Prop
 |none {b:List D}:b.length≤100000→few p→(∀x,¬Ans p x)→Sol p (.tup [.str [110,111,110,101],.lst b])
 |rests {b:List D}:¬few p→Sol p (.tup [.str [114,101,115,116,115],.lst ((thk p (qkI p.ground) qaf).1.map eI),.lst b])
 |two {a b:List Int}:few p→Ans p a→Ans p b→a≠b→Sol p (.tup [.str [116,119,111],.lst (a.map eI),.lst (b.map eI)])
 |one {a:List Int} {b:List D}:b.length≤100000→few p→Ans p a→(∀x,Ans p x→x=a)→Sol p (.tup [.str [111,110,101],.lst (a.map eI),.lst b])
end
end Cm
namespace Cm
theorem qcZ {α β σ:Type} {f:α→σ→RE (Fl β σ)} {P:List α→σ→Prop} {Q:β→Prop}:∀(xs pre:List α) (a:σ),P pre a→(∀pre' x s,x∈xs→P pre' s→(∃tl,pre++xs=pre'++x::tl)→(∃b,f x s=.ok (.rt b)∧Q b)∨(∃s',f x s=.ok (.nx s')∧P (pre'++[x]) s'))→(∃b,qam f xs a=.ok (.rt b)∧Q b)∨(∃s,qam f xs a=.ok (.nx s)∧P (pre++xs) s)
 |[],pre,a,h0,_=>.inr ⟨a,rfl,by rw[List.append_nil];exact h0⟩
 |x::xs,pre,a,h0,hs=>by
  unfold qam
  rcases hs pre x a (by simp) h0 ⟨xs,rfl⟩ with⟨b,e,h⟩ | ⟨s',e,h⟩
  ·rw[e];exact .inl ⟨b,rfl,h⟩
  ·rw[e]
   have:=qcZ (Q:=Q) xs (pre++[x]) s' h fun pre' y s hy hp ht=>hs pre' y s (List.mem_cons_of_mem _ hy) hp (by simpa using ht)
   simpa using this
theorem ql5 {α β σ:Type} {f:α→σ→RE (Fl β σ)} {k:σ→RE β} {P:List α→σ→Prop} {R:β→Prop} {xs:List α} {a:σ} (h0:P [] a) (hs:∀pre x s,x∈xs→P pre s→(∃tl,xs=pre++x::tl)→(∃b,f x s=.ok (.rt b)∧R b)∨(∃s',f x s=.ok (.nx s')∧P (pre++[x]) s')) (hk:∀s,P xs s→W (k s) R):W (Fl.bR (qam f xs a) k) R:=by
 rcases qcZ (f:=f) (P:=P) (Q:=R) xs [] a h0 (fun pre x s hx hp ht=>hs pre x s hx hp (by simpa using ht)) with⟨b,e,h⟩ | ⟨s,e,h⟩
 ·rw[e];exact⟨b,rfl,h⟩
 ·rw[e];exact hk s (by simpa using h)
section
variable {p p':PuzT} {ms left cl:List Int} {fi ans:List Int} {c t:Int}
def One (p:PuzT):Prop:=∃(a:List Int) (b:List D),F.solve p=.ok (.tup [.str [111,110,101],.lst (a.map eI),.lst b])∧few p∧Ans p a∧∀x,Ans p x→x=a
def Two (p:PuzT):Prop:=∃a b:List Int,F.solve p=.ok (.tup [.str [116,119,111],.lst (a.map eI),.lst (b.map eI)])∧few p∧Ans p a∧Ans p b∧a≠b
def Rst (p:PuzT):Prop:=∃b:List D,F.solve p=.ok (.tup [.str [114,101,115,116,115],.lst ((thk p (qkI p.ground) qaf).1.map eI),.lst b])∧¬few p
def Oth (p:PuzT) (pre:List (Int × Int)) (xs:List (Int × List Int)):Prop:=xs.map (·.1)=(pre.filter fun q=>!decide (q.2=0)).map (·.1)∧∀q∈xs,inC p.ground q.1∧Ans (pc p (wo p.clues q.1)) q.2∧gI q.2 q.1≠gI p.clues q.1
abbrev qpJ (q:Int × List Int):Int × D:=(q.1,.lst (q.2.map eI))
inductive Lst (p:PuzT):D→Prop
 |spare {k:Int} {b:D}:inC p.ground k→gI p.clues k≠0→One (pc p (wo p.clues k))→(∃a,F.solve (pc p (wo p.clues k))=.ok (.tup [.str [111,110,101],a,b]))→(∀j,0≤j→j<k→gI p.clues j≠0→Two (pc p (wo p.clues j)))→Lst p (.tup [.str [115,112,97,114,101],.int k,b])
 |rests {k:Int}:inC p.ground k→gI p.clues k≠0→Rst (pc p (wo p.clues k))→(∀j,0≤j→j<k→gI p.clues j≠0→Two (pc p (wo p.clues j)))→Lst p (.tup [.str [114,101,115,116,115],.int k])
 |least {xs:List (Int × List Int)}:Oth p (qj1 p.clues) xs→(∀j,inC p.ground j→gI p.clues j≠0→Two (pc p (wo p.clues j)))→Lst p (.tup [.str [108,101,97,115,116],.lst (xs.map fun q=>.tup [.int q.1,.lst (q.2.map eI)])])
end
end Cm
set_option maxHeartbeats 400000
namespace K05
open Cm
def qca:Nat→Option Bool:=fun c=>List.lookup c [(32,true)]
def qiW:Nat→Option Bool:=fun c=>List.lookup c []
def qbb:Nat→Option Bool:=fun c=>List.lookup c [(32,false)]
def qhI:Nat→Option Bool:=fun c=>List.lookup c []
def qb7:Nat→Option Bool:=fun c=>List.lookup c [(32,false)]
def qlc:Nat→Option Bool:=fun c=>List.lookup c []
def qcL:Nat→Option Bool:=fun c=>List.lookup c [(32,false)]
def qlw:Nat→Option Bool:=fun c=>List.lookup c []
def qcU:Nat→Option Bool:=fun c=>List.lookup c [(32,false)]
def qmo:Nat→Option Bool:=fun c=>List.lookup c []
def qbI:Nat→Option Bool:=fun c=>List.lookup c [(32,false)]
def qkS:Nat→Option Bool:=fun c=>List.lookup c []
def qdM:Nat→Option Bool:=fun c=>List.lookup c [(32,false)]
def qmR:Nat→Option Bool:=fun c=>List.lookup c []
def qcH:Nat→Option Bool:=fun c=>List.lookup c [(32,false)]
def qlq:Nat→Option Bool:=fun c=>List.lookup c []
def qcY:Nat→Option Bool:=fun c=>List.lookup c [(32,false)]
def qmj:Nat→Option Bool:=fun c=>List.lookup c []
def qcN:Nat→Option Bool:=fun c=>List.lookup c [(32,false)]
def qls:Nat→Option Bool:=fun c=>List.lookup c []
def qb3:Nat→Option Bool:=fun c=>List.lookup c [(32,false)]
def qlg:Nat→Option Bool:=fun c=>List.lookup c []
def qba:Nat→Option Bool:=fun c=>List.lookup c [(32,true)]
def qib:Nat→Option Bool:=fun c=>List.lookup c []
def qce:Nat→Option Bool:=fun c=>List.lookup c [(32,true)]
def qjk:Nat→Option Bool:=fun c=>List.lookup c []
def qfG (az:List Int) (ax:Int):RE Int:=
 (RE.ok (decide (ax<(List.length az:Int)))).bind fun k1=>if k1=true then (atE az ax) else ((RE.ok ((7*ax)+3:Int)).bind fun bm=>((RE.ok (decide (0<(List.length az:Int)))).bind fun k2=>if k2=true then ((((((RE.ok az).bind fun x19=>(qf0 ax (List.length az:Int)).bind fun x20=>atE x19 x20).bind fun x21=>RE.ok (Int.fmod x21 1000003)).bind fun x23=>qfP x23 (ax+1)).bind fun x26=>RE.ok (bm+x26)).bind fun bm=>RE.ok bm) else (RE.ok bm)).bind fun(p27:Int)=>((qfP p27 p27).bind fun x28=>RE.ok (Int.fmod x28 999979)).bind fun x30=>RE.ok (x30+(Int.fmod p27 101)))
def qb1 (az:List Int):RE (Int × Int × Int):=
 (((qfG az 0).bind fun x1=>RE.ok (Int.fmod x1 6)).bind fun x4=>RE.ok (1+x4)).bind fun aN=>(((qfG az 1).bind fun x7=>((RE.ok 6).bind fun x5=>(qjx 16 aN).bind fun x6=>RE.ok (if x6<x5 then x6 else x5)).bind fun x8=>qf0 x7 x8).bind fun x10=>RE.ok (1+x10)).bind fun aV=>(RE.ok aN).bind fun x15=>(RE.ok aV).bind fun x16=>(((qfG az 2).bind fun x11=>RE.ok (Int.fmod x11 6)).bind fun x14=>RE.ok (1+x14)).bind fun x17=>RE.ok (x15,x16,x17)
def qaO (aq:Int × Int × Int):RE (List (List Nat)):=
 RE.ok (qbd ([[46],[49],[50],[51],[52],[53],[54]]) none (some (aq.2.2+1)))
def qdu (aq:Int × Int × Int) (am:List Int):RE (List Nat):=
 (RE.ok ([]:List (List Nat))).bind fun aX=>((qar aq.1).bind fun y25=>qac (fun(aT:Int) (s12:List (List Nat))=>(((RE.ok []).bind fun x21=>(((RE.ok am).bind fun x15=>((qfP aT aq.2.1).bind fun x13=>RE.ok (some x13)).bind fun x16=>((qfP (aT+1) aq.2.1).bind fun x14=>RE.ok (some x14)).bind fun x17=>RE.ok (qbd x15 x16 x17)).bind fun x20=>gd (leB x20.length) (lcE (fun(ai:Int)=>(RE.ok true)) (fun(ai:Int)=>((qaO aq).bind fun x18=>(RE.ok ai).bind fun x19=>atE x18 x19)) x20)).bind fun x22=>qcp x21 x22).bind fun x23=>qa5 s12 x23).bind fun aX=>RE.ok aX) y25 aX).bind fun(p24:List (List Nat))=>qcp [47] p24
def qaW (aq:Int × Int × Int) (au:List Nat) (ab:Int):RE (Option D):=
 ((qc4 au).bind fun x2=>qf0 (Int.fdiv ab 16) x2).bind fun aR=>(((RE.ok [48]).bind fun x3=>(RE.ok [55]).bind fun x4=>(qlf (aq.2.2+1)).bind fun x5=>(RE.ok [97]).bind fun x6=>(RE.ok [32]).bind fun x7=>(RE.ok [47]).bind fun x8=>(RE.ok [10]).bind fun x9=>(RE.ok [45]).bind fun x10=>RE.ok [x3,x4,x5,x6,x7,x8,x9,x10]).bind fun x11=>(RE.ok (Int.fmod (Int.fdiv ab 400) 8)).bind fun x12=>atE x11 x12).bind fun aH=>(RE.ok (Int.fmod ab 12:Int)).bind fun aY=>(RE.ok (decide (aY<3))).bind fun k13=>if k13=true then ((((qav au none (some aR)).bind fun x14=>qbk x14 aH).bind fun x16=>(qav au (some (aR+1)) none).bind fun x17=>qbk x16 x17).bind fun x18=>RE.ok ((fun x=>some ((eS) x)) x18)) else ((RE.ok (decide (aY<5))).bind fun k19=>if k19=true then ((((qav au none (some aR)).bind fun x20=>qbk x20 aH).bind fun x22=>(qav au (some aR) none).bind fun x23=>qbk x22 x23).bind fun x24=>RE.ok ((fun x=>some ((eS) x)) x24)) else ((RE.ok (decide (aY=5))).bind fun k25=>if k25=true then ((qbk au aH).bind fun x26=>RE.ok ((fun x=>some ((eS) x)) x26)) else ((RE.ok (decide (aY=6))).bind fun k27=>if k27=true then (((qav au none (some aR)).bind fun x28=>(qav au (some (aR+1)) none).bind fun x29=>qbk x28 x29).bind fun x30=>RE.ok ((fun x=>some ((eS) x)) x30)) else ((RE.ok (decide (aY=7))).bind fun k31=>if k31=true then (((qbk au [47]).bind fun x32=>(qko [46] aq.2.1).bind fun x33=>qbk x32 x33).bind fun x34=>RE.ok ((fun x=>some ((eS) x)) x34)) else ((RE.ok (decide (aY=8))).bind fun k35=>if k35=true then (((RE.ok [47]).bind fun x39=>((qbm au [47]).bind fun x36=>(RE.ok (some 1)).bind fun x37=>(RE.ok none).bind fun x38=>RE.ok (qbd x36 x37 x38)).bind fun x40=>qcp x39 x40).bind fun x41=>RE.ok ((fun x=>some ((eS) x)) x41)) else ((RE.ok (decide (aY=9))).bind fun k42=>if k42=true then ((qbk au [47]).bind fun x43=>RE.ok ((fun x=>some ((eS) x)) x43)) else ((RE.ok (decide (aY=10))).bind fun k44=>if k44=true then ((((qav au none (some aR)).bind fun x45=>qbk x45 [46]).bind fun x47=>(qav au (some aR) none).bind fun x48=>qbk x47 x48).bind fun x49=>RE.ok ((fun x=>some ((eS) x)) x49)) else (atE ([(none:Option D),((fun x=>some ((eI) x)) aR),((fun x=>some (((eL eS)) x)) [au]),((fun x=>some (((eT1 eS)) x)) au),((fun x=>some ((eB) x)) true)]) (Int.fmod (Int.fdiv ab 16) 5)))))))))
def qbs (aq:Int × Int × Int) (au:Option D):RE (Option (List Int)):=
 ((tyE ((eO eD) au) .str).bind fun x1=>RE.ok (!x1)).bind fun k2=>if k2=true then (RE.ok (none:Option (List Int))) else ((RE.ok ([]:List Int)).bind fun am=>(RE.ok (0:Int)).bind fun aF=>Fl.bR ((qar aq.1).bind fun y82=>qam (fun(ax:Int) (s36:(List Int) × Int)=>(Fl.bF ((RE.ok (decide (0<ax))).bind fun k37=>if k37=true then ((((dS ((eO eD) au)).bind fun x44=>(RE.ok (some s36.2)).bind fun x45=>(RE.ok (some (s36.2+1))).bind fun x46=>qav x44 x45 x46).bind fun x47=>RE.ok (!decide (x47=[47]))).bind fun k49=>if k49=true then (RE.ok (none:Option (List Int))).bind fun b=>RE.ok (.rt b) else ((RE.ok (s36.2+1:Int)).bind fun aF=>RE.ok (.nx aF))) else (RE.ok (.nx s36.2)):RE (Fl (Option (List Int)) (Int))) fun p50=>Fl.bF ((qar aq.2.1).bind fun y76=>qam (fun(bv:Int) (s62:(List Int) × Int)=>((((dS ((eO eD) au)).bind fun x63=>(RE.ok (some s62.2)).bind fun x64=>(RE.ok (some (s62.2+1))).bind fun x65=>qav x63 x64 x65).bind fun x66=>(qaO aq).bind fun x67=>evC .nin (eS x66) ((eL eS) x67)).bind fun k68=>if k68=true then (RE.ok (.rt (none:Option (List Int)))) else ((((qaO aq).bind fun x72=>((dS ((eO eD) au)).bind fun x70=>(RE.ok s62.2).bind fun x71=>qiV x70 x71).bind fun x73=>qdZ eS eC x72 x73).bind fun x74=>qa5 s62.1 x74).bind fun am=>(RE.ok (s62.2+1:Int)).bind fun aF=>RE.ok (.nx (am,aF))):RE (Fl (Option (List Int)) ((List Int) × Int)))) y76 (s36.1,p50)) fun(p75:(List Int) × Int)=>RE.ok (.nx (p75.1,p75.2)):RE (Fl (Option (List Int)) ((List Int) × Int)))) y82 (am,aF)) fun(p77:(List Int) × Int)=>(((dS ((eO eD) au)).bind fun x78=>qc4 x78).bind fun x80=>RE.ok (!decide (p77.2=x80))).bind fun k81=>if k81=true then (RE.ok (none:Option (List Int))) else (RE.ok (some p77.1)))
def qbj (aq:Int × Int × Int) (au:Option D):RE (List Nat × (Option D)):=
 (RE.ok (():Unit)).bind fun bL=>(RE.ok (():Unit)).bind fun aj=>(tryA qca (none:Option Nat) (none:Option (List Int)) ((F.read_filling aq ((eO eD) au)).bind fun x2=>RE.ok ((some) x2))).bind fun p1=>(RE.ok p1.1.isNone).bind fun k3=>if k3=true then (RE.ok ([116,111,108,100],(Option.map ((eL eI)) p1.2))) else (((qcv qbb p1.1).bind fun x4=>(qcv qb7 p1.1).bind fun x5=>(qcv qcL p1.1).bind fun x6=>RE.ok [x4,x5,x6]).bind fun a8=>(((qcv qcU p1.1).bind fun x7=>(qcv qbI p1.1).bind fun x8=>(qcv qdM p1.1).bind fun x9=>RE.ok [x7,x8,x9]).bind fun x11=>qcm a8 x11).bind fun a8=>(((qcv qcH p1.1).bind fun x12=>(qcv qcY p1.1).bind fun x13=>(qcv qcN p1.1).bind fun x14=>RE.ok [x12,x13,x14]).bind fun x16=>qcm a8 x16).bind fun a8=>(((qcv qb3 p1.1).bind fun x18=>((qcv qba p1.1).bind fun x17=>RE.ok (!x17)).bind fun x19=>RE.ok [x18,x19]).bind fun x21=>qcm a8 x21).bind fun a8=>(RE.ok ([114,101,102,117,115,101,100])).bind fun x24=>(((qcv qce p1.1).bind fun k22=>if k22=true then (RE.ok (!(List.any a8 id))) else RE.ok false).bind fun x23=>RE.ok ((fun x=>some ((eB) x)) x23)).bind fun x25=>RE.ok (x24,x25))
def qgk (az:List Int):RE Bool:=
 (qb1 az).bind fun aq=>(qfP aq.1 aq.2.1).bind fun aM=>((qar aM).bind fun x3=>gd (leB x3.length) (lcE (fun(ax:Int)=>(RE.ok true)) (fun(ax:Int)=>((qfG az (9+ax)).bind fun x1=>qf0 x1 (aq.2.2+1))) x3)).bind fun am=>(qdu aq am).bind fun au=>Fl.bR ((qeZ 3 9).bind fun y32=>qam (fun(ax:Int) (s15:Unit)=>(((RE.ok aq).bind fun x16=>(RE.ok au).bind fun x17=>(qfG az ax).bind fun x18=>qaW x16 x17 x18).bind fun aS=>(qbs aq aS).bind fun aZ=>((RE.ok aZ.isNone).bind fun k21=>if k21=true then ((qbj aq aS).bind fun x19=>evC .ne ((eT2 eS (eO eD)) x19) ((eT2 eS (eO eD)) ([114,101,102,117,115,101,100],((fun x=>some ((eB) x)) true)))) else RE.ok false).bind fun k22=>if k22=true then (RE.ok (.rt false)) else (((RE.ok aZ.isSome).bind fun k26=>if k26=true then ((qbj aq aS).bind fun x24=>evC .ne ((eT2 eS (eO eD)) x24) ((eT2 eS (eO eD)) ([116,111,108,100],(Option.map ((eL eI)) aZ)))) else RE.ok false).bind fun k27=>if k27=true then (RE.ok (.rt false)) else (RE.ok (.nx ()))):RE (Fl (Bool) (Unit)))) y32 ()) fun(p29:Unit)=>(qbj aq ((fun x=>some ((eS) x)) au)).bind fun x30=>evC .eq ((eT2 eS (eO eD)) x30) ((eT2 eS (eO eD)) ([116,111,108,100],((fun x=>some (((eL eI)) x)) am)))
theorem qbn (az:List Int) (ax:Int):Rf (g__law_at [(eL eI) az,eI ax]) (qfG az ax) eI .v true:=by
 have key:∀q0 q1 q2:Sl,SlV false ((eL eI) az) q0→SlV true (eI ax) q1→BR qbU qbq [q0,q1,q2] (qfG az ax) eI .v true:=by
  intro q0 q1 q2 h0 h1;unfold qfG qbq;refine BR.ifR (XT.val (XE.cmpP (XE.var (i:=1) rfl h1) (XE.pri1P (XE.var (i:=0) rfl h0) (qin _)) (qj6 _ _))) ?_ ?_
  ·exact BR.ret (XE.idxFP (XE.var (i:=0) rfl h0) (XE.var (i:=1) rfl h1)) rfl
  refine BR.cons (SN.asg (en:=eI) (fun q2=>[q0,q1,q2]) (XE.binP (XE.binP XE.cint (XE.var (i:=1) rfl h1) (qmc _ _ (qjp rfl))) XE.cint (qa6 _ _)) rfl fun _=>rfl) ?_;rintro bm _ ⟨q2,rfl,h2⟩;refine BR.cons (S:=(fun(st:Int) ρ=>∃q2,ρ=[q0,q1,q2]∧SlV true (eI st) q2)) (SN.iff (XT.val (XE.cmpP (XE.pri1P (XE.var (i:=0) rfl h0) (qin _)) XE.cint (qmK _ _))) ?_ ?_) ?_
  ·refine BN.cons (SN.asg (en:=eI) (fun q2=>[q0,q1,q2]) (XE.binL (XE.var (i:=2) rfl h2) (XE.binR (XE.binR (XE.idxF (XE.var (i:=0) rfl h0) (XE.binP (XE.var (i:=1) rfl h1) (XE.pri1P (XE.var (i:=0) rfl h0) (qin _)) (qiK _ _))) XE.cint (fun x=>qcc x _ rfl)) (XE.binP (XE.var (i:=1) rfl h1) XE.cint (qa6 _ _)) (fun x=>qhh x _)) (fun y=>qa6 _ y)) rfl fun _=>rfl) ?_;rintro bm _ ⟨q2,rfl,h2⟩;exact BN.nil ⟨_,rfl,h2⟩
  ·exact BN.nil ⟨_,rfl,h2⟩
  rintro p27 _ ⟨q2,rfl,h2⟩;exact BR.ret (XE.binR (XE.binR (XE.binP (XE.var (i:=2) rfl h2) (XE.var (i:=2) rfl h2) (qhh _ _)) XE.cint (fun x=>qcc x _ rfl)) (XE.binP (XE.var (i:=2) rfl h2) XE.cint (qcc _ _ rfl)) (fun x=>qa6 x _)) rfl
 exact Rf.run rfl (key _ _ .non SlV.any SlV.flat)
theorem qdX (az:List Int):Rf (g__law_floor [(eL eI) az]) (qb1 az) (eT3 eI eI eI) .v true:=by
 have key:∀q0 q1 q2:Sl,SlV false ((eL eI) az) q0→BR qa0 qaM [q0,q1,q2] (qb1 az) (eT3 eI eI eI) .v true:=by
  intro q0 q1 q2 h0;unfold qb1 qaM;refine BR.cons (SN.asg (en:=eI) (fun q1=>[q0,q1,q2]) (XE.binL XE.cint (XE.binR (XE.call2P rfl (XE.var (i:=0) rfl h0) XE.cint (qbn az 0) rfl rfl) XE.cint (fun x=>qcc x _ rfl)) (fun y=>qa6 _ y)) rfl fun _=>rfl) ?_;rintro aN _ ⟨q1,rfl,h1⟩;refine BR.cons (SN.asg (en:=eI) (fun q2=>[q0,q1,q2]) (XE.binL XE.cint (XE.bin (XE.call2P rfl (XE.var (i:=0) rfl h0) XE.cint (qbn az 1) rfl rfl) (XE.pri2 XE.cint (XE.binP XE.cint (XE.var (i:=1) rfl h1) (qnR _ _)) (fun x y=>qlx x y)) (fun x y=>qiK x y)) (fun y=>qa6 _ y)) rfl fun _=>rfl) ?_;rintro aV _ ⟨q2,rfl,h2⟩;exact BR.ret (XE.tup3 (XE.var (i:=1) rfl h1) (XE.var (i:=2) rfl h2) (XE.binL XE.cint (XE.binR (XE.call2P rfl (XE.var (i:=0) rfl h0) XE.cint (qbn az 2) rfl rfl) XE.cint (fun x=>qcc x _ rfl)) (fun y=>qa6 _ y)) rfl) rfl
 exact Rf.run rfl (key _ .non .non SlV.any)
theorem qbo (aq:Int × Int × Int):Rf (g__law_marks [(eT3 eI eI eI) aq]) (qaO aq) (eL eS) .f true:=by
 have key:∀q0:Sl,SlV true ((eT3 eI eI eI) aq) q0→BR qaY qaK [q0] (qaO aq) (eL eS) .f true:=by
  intro q0 h0;unfold qaO qaK;exact BR.ret (XE.slcP (XE.lstL (en:=eS) (XLs.cons XE.cstr rfl (XLs.cons XE.cstr rfl (XLs.cons XE.cstr rfl (XLs.cons XE.cstr rfl (XLs.cons XE.cstr rfl (XLs.cons XE.cstr rfl (XLs.cons XE.cstr rfl XLs.nil)))))))) XO.nil (XO.oneP (XE.binP (XE.prtP (x:=aq) (t2:=true) (f:=fun p=>p.2.2) (en2:=eI) (XE.var (i:=0) rfl h0) (fun _ _=>rfl) (fun _=>.inl rfl)) XE.cint (qa6 _ _)))) rfl
 exact Rf.run rfl (key _  SlV.flat)
theorem qeB (aq:Int × Int × Int) (am:List Int):Rf (g__law_text [(eT3 eI eI eI) aq,(eL eI) am]) (qdu aq am) eS .v true:=by
 have key:∀q0 q1 q2 q3 q4:Sl,SlV true ((eT3 eI eI eI) aq) q0→SlV false ((eL eI) am) q1→BR qbc qaS [q0,q1,q2,q3,q4] (qdu aq am) eS .v true:=by
  intro q0 q1 q2 q3 q4 h0 h1;unfold qdu qaS;refine BR.cons (SN.own (en:=eS) (fun q2=>[q0,q1,q2,q3,q4]) (XE.lstL XLs.nil) fun _=>rfl) ?_;rintro aX _ ⟨q2,rfl,h2⟩;refine BR.cons (S:=(fun(st:List (List Nat)) ρ=>∃q2 q3,ρ=[q0,q1,q2,q3,q4]∧SlO true (List.map eS st) q2)) (SN.for1 (t0:=true) _ (XI.rng (XRg.r1P (XE.prtP (x:=aq) (t2:=true) (f:=fun p=>p.1) (en2:=eI) (XE.var (i:=0) rfl h0) (fun _ _=>rfl) (fun _=>.inl rfl)))) (fun _=>.inl rfl) ⟨_,_,rfl,h2⟩ ?_) ?_
  ·intro aT s12 ρ1 q3 hS h3;obtain⟨q2,_,rfl,h2⟩:=hS;change BL _ _ [q0,q1,q2,q3,q4] _ _;refine BL.cons (SN.app (en:=eS) (fun q2=>[q0,q1,q2,q3,q4]) (XE.join XE.cstr (XE.lc (t0:=true) (fun q4=>[q0,q1,q2,q3,q4]) (XI.list (XE.slc (XE.var (i:=1) rfl h1) (XO.one (XE.binP (XE.var (i:=3) rfl h3) (XE.prtP (x:=aq) (t2:=true) (f:=fun p=>p.2.1) (en2:=eI) (XE.var (i:=0) rfl h0) (fun _ _=>rfl) (fun _=>.inl rfl)) (qhh _ _))) (XO.one (XE.binP (XE.binP (XE.var (i:=3) rfl h3) XE.cint (qa6 _ _)) (XE.prtP (x:=aq) (t2:=true) (f:=fun p=>p.2.1) (en2:=eI) (XE.var (i:=0) rfl h0) (fun _ _=>rfl) (fun _=>.inl rfl)) (qhh _ _)))) rfl) (fun _=>.inr inferInstance) (fun _=>rfl) (fun ai q4 h4=>XTs.nil) (fun ai q4 h4 _=>(XE.idxF (XE.call1P rfl (XE.var (i:=0) rfl h0) (qbo aq) rfl rfl) (XE.var (i:=4) rfl h4))) rfl)) rfl rfl h2 (fun _=>rfl)) ?_;rintro aX _ ⟨q2,rfl,h2⟩;exact BL.nil ⟨_,_,rfl,h2⟩
  rintro p24 _ ⟨q2,q3,rfl,h2⟩;exact BR.ret (XE.joinP XE.cstr (XE.varO (i:=2) rfl h2)) rfl
 exact Rf.run rfl (key _ _ .non .non .non SlV.flat SlV.any)
theorem qc9 (aq:Int × Int × Int) (au:List Nat) (ab:Int):Rf (g__law_spoiled [(eT3 eI eI eI) aq,eS au,eI ab]) (qaW aq au ab) (eO eD) .v true:=by
 have key:∀q0 q1 q2 q3 q4 q5:Sl,SlV true ((eT3 eI eI eI) aq) q0→SlV true (eS au) q1→SlV true (eI ab) q2→BR qaG qaq [q0,q1,q2,q3,q4,q5] (qaW aq au ab) (eO eD) .v true:=by
  intro q0 q1 q2 q3 q4 q5 h0 h1 h2;unfold qaW qaq;refine BR.cons (SN.asg (en:=eI) (fun q3=>[q0,q1,q2,q3,q4,q5]) (XE.binL (XE.binP (XE.var (i:=2) rfl h2) XE.cint (qhn _ _ rfl)) (XE.pri1P (XE.var (i:=1) rfl h1) (qg2 _)) (fun y=>qiK _ y)) rfl fun _=>rfl) ?_;rintro aR _ ⟨q3,rfl,h3⟩;refine BR.cons (SN.asg (en:=eS) (fun q4=>[q0,q1,q2,q3,q4,q5]) (XE.idxF (XE.cast (m':=(RE.ok [48]).bind fun x3=>(RE.ok [55]).bind fun x4=>(qlf (aq.2.2+1)).bind fun x5=>(RE.ok [97]).bind fun x6=>(RE.ok [32]).bind fun x7=>(RE.ok [47]).bind fun x8=>(RE.ok [10]).bind fun x9=>(RE.ok [45]).bind fun x10=>RE.ok [x3,x4,x5,x6,x7,x8,x9,x10]) (XE.lstS (F:=fun w=>[w.1,w.2.1,w.2.2.1,w.2.2.2.1,w.2.2.2.2.1,w.2.2.2.2.2.1,w.2.2.2.2.2.2.1,w.2.2.2.2.2.2.2.1]) (en:=eS) (XS.cons XE.cstr (XS.cons XE.cstr (XS.cons (XE.pri1P (XE.binP (XE.prtP (x:=aq) (t2:=true) (f:=fun p=>p.2.2) (en2:=eI) (XE.var (i:=0) rfl h0) (fun _ _=>rfl) (fun _=>.inl rfl)) XE.cint (qa6 _ _)) (qno _)) (XS.cons XE.cstr (XS.cons XE.cstr (XS.cons XE.cstr (XS.cons XE.cstr (XS.cons XE.cstr XS.nil)))))))) (fun _=>rfl) rfl) (by simp only[RE.bind_assoc,RE.bind_ok])) (XE.binP (XE.binP (XE.var (i:=2) rfl h2) XE.cint (qhn _ _ rfl)) XE.cint (qcc _ _ rfl))) rfl fun _=>rfl) ?_;rintro aH _ ⟨q4,rfl,h4⟩;refine BR.cons (SN.asg (en:=eI) (fun q5=>[q0,q1,q2,q3,q4,q5]) (XE.binP (XE.var (i:=2) rfl h2) XE.cint (qcc _ _ rfl)) rfl fun _=>rfl) ?_;rintro aY _ ⟨q5,rfl,h5⟩;refine BR.ifR (XT.val (XE.cmpP (XE.var (i:=5) rfl h5) XE.cint (qj6 _ _))) ?_ ?_
  ·exact BR.ret (XE.coeG (f:=fun x=>some ((eS) x)) (en2:=(eO eD)) (XE.bin (XE.binR (XE.slcSP (XE.var (i:=1) rfl h1) XO.nil (XO.oneP (XE.var (i:=3) rfl h3))) (XE.var (i:=4) rfl h4) (fun x=>qbp x _)) (XE.slcSP (XE.var (i:=1) rfl h1) (XO.oneP (XE.binP (XE.var (i:=3) rfl h3) XE.cint (qa6 _ _))) XO.nil) (fun x y=>qbp x y)) (qap (f:=eS) (fun _=>rfl))) rfl
  refine BR.ifR (XT.val (XE.cmpP (XE.var (i:=5) rfl h5) XE.cint (qj6 _ _))) ?_ ?_
  ·exact BR.ret (XE.coeG (f:=fun x=>some ((eS) x)) (en2:=(eO eD)) (XE.bin (XE.binR (XE.slcSP (XE.var (i:=1) rfl h1) XO.nil (XO.oneP (XE.var (i:=3) rfl h3))) (XE.var (i:=4) rfl h4) (fun x=>qbp x _)) (XE.slcSP (XE.var (i:=1) rfl h1) (XO.oneP (XE.var (i:=3) rfl h3)) XO.nil) (fun x y=>qbp x y)) (qap (f:=eS) (fun _=>rfl))) rfl
  refine BR.ifR (XT.val (XE.cmpP (XE.var (i:=5) rfl h5) XE.cint (qfN _ _))) ?_ ?_
  ·exact BR.ret (XE.coeG (f:=fun x=>some ((eS) x)) (en2:=(eO eD)) (XE.binP (XE.var (i:=1) rfl h1) (XE.var (i:=4) rfl h4) (qbp _ _)) (qap (f:=eS) (fun _=>rfl))) rfl
  refine BR.ifR (XT.val (XE.cmpP (XE.var (i:=5) rfl h5) XE.cint (qfN _ _))) ?_ ?_
  ·exact BR.ret (XE.coeG (f:=fun x=>some ((eS) x)) (en2:=(eO eD)) (XE.bin (XE.slcSP (XE.var (i:=1) rfl h1) XO.nil (XO.oneP (XE.var (i:=3) rfl h3))) (XE.slcSP (XE.var (i:=1) rfl h1) (XO.oneP (XE.binP (XE.var (i:=3) rfl h3) XE.cint (qa6 _ _))) XO.nil) (fun x y=>qbp x y)) (qap (f:=eS) (fun _=>rfl))) rfl
  refine BR.ifR (XT.val (XE.cmpP (XE.var (i:=5) rfl h5) XE.cint (qfN _ _))) ?_ ?_
  ·exact BR.ret (XE.coeG (f:=fun x=>some ((eS) x)) (en2:=(eO eD)) (XE.bin (XE.binP (XE.var (i:=1) rfl h1) XE.cstr (qbp _ _)) (XE.binP XE.cstr (XE.prtP (x:=aq) (t2:=true) (f:=fun p=>p.2.1) (en2:=eI) (XE.var (i:=0) rfl h0) (fun _ _=>rfl) (fun _=>.inl rfl)) (qmg _ _)) (fun x y=>qbp x y)) (qap (f:=eS) (fun _=>rfl))) rfl
  refine BR.ifR (XT.val (XE.cmpP (XE.var (i:=5) rfl h5) XE.cint (qfN _ _))) ?_ ?_
  ·exact BR.ret (XE.coeG (f:=fun x=>some ((eS) x)) (en2:=(eO eD)) (XE.join XE.cstr (XE.slc (XE.splitP (XE.var (i:=1) rfl h1) XE.cstr) (XO.oneP XE.cint) XO.nil)) (qap (f:=eS) (fun _=>rfl))) rfl
  refine BR.ifR (XT.val (XE.cmpP (XE.var (i:=5) rfl h5) XE.cint (qfN _ _))) ?_ ?_
  ·exact BR.ret (XE.coeG (f:=fun x=>some ((eS) x)) (en2:=(eO eD)) (XE.binP (XE.var (i:=1) rfl h1) XE.cstr (qbp _ _)) (qap (f:=eS) (fun _=>rfl))) rfl
  refine BR.ifR (XT.val (XE.cmpP (XE.var (i:=5) rfl h5) XE.cint (qfN _ _))) ?_ ?_
  ·exact BR.ret (XE.coeG (f:=fun x=>some ((eS) x)) (en2:=(eO eD)) (XE.bin (XE.binR (XE.slcSP (XE.var (i:=1) rfl h1) XO.nil (XO.oneP (XE.var (i:=3) rfl h3))) XE.cstr (fun x=>qbp x _)) (XE.slcSP (XE.var (i:=1) rfl h1) (XO.oneP (XE.var (i:=3) rfl h3)) XO.nil) (fun x y=>qbp x y)) (qap (f:=eS) (fun _=>rfl))) rfl
  exact BR.ret (XE.idxP (XE.lstL (en:=(eO eD)) (XLs.cons (XE.coe (x:=()) (f:=fun _=>none) (en2:=(eO eD)) XE.cnon (fun _=>rfl)) rfl (XLs.cons (XE.coe (x:=aR) (f:=fun x=>some ((eI) x)) (en2:=(eO eD)) (XE.var (i:=3) rfl h3) (qap (f:=eI) (fun _=>rfl))) rfl (XLs.cons (XE.coe (x:=[au]) (f:=fun x=>some (((eL eS)) x)) (en2:=(eO eD)) (XE.lstL (en:=eS) (XLs.cons (XE.var (i:=1) rfl h1) rfl XLs.nil)) (qap (f:=(eL eS)) (fun _=>rfl))) rfl (XLs.cons (XE.coe (x:=au) (f:=fun x=>some (((eT1 eS)) x)) (en2:=(eO eD)) (XE.tup1P (XE.var (i:=1) rfl h1) rfl) (qap (f:=(eT1 eS)) (fun _=>rfl))) rfl (XLs.cons (XE.coe (x:=true) (f:=fun x=>some ((eB) x)) (en2:=(eO eD)) XE.cbl (qap (f:=eB) (fun _=>rfl))) rfl XLs.nil)))))) (XE.binP (XE.binP (XE.var (i:=2) rfl h2) XE.cint (qhn _ _ rfl)) XE.cint (qcc _ _ rfl))) rfl
 exact Rf.run rfl (key _ _ _ .non .non .non SlV.flat SlV.flat SlV.flat)
theorem qeU (aq:Int × Int × Int) (au:Option D):Rf (g__law_read [(eT3 eI eI eI) aq,(eO eD) au]) (qbs aq au) (eO (eL eI)) .o true:=by
 have key:∀q0 q1 q2 q3 q4 q5:Sl,SlV true ((eT3 eI eI eI) aq) q0→SlV false ((eO eD) au) q1→BR qbg qaU [q0,q1,q2,q3,q4,q5] (qbs aq au) (eO (eL eI)) .o true:=by
  intro q0 q1 q2 q3 q4 q5 h0 h1;unfold qbs qaU;refine BR.ifR (XT.not (XT.val (XE.isiD (XE.var (i:=1) rfl h1)))) ?_ ?_
  ·exact(BR.optV (BR.ret (XE.coe (x:=()) (f:=fun _=>none) (en2:=(eO (eL eI))) XE.cnon (fun _=>rfl)) rfl))
  refine BR.cons (SN.own (en:=eI) (fun q2=>[q0,q1,q2,q3,q4,q5]) (XE.lstL XLs.nil) fun _=>rfl) ?_;rintro am _ ⟨q2,rfl,h2⟩;refine BR.cons (SN.asg (en:=eI) (fun q3=>[q0,q1,q2,q3,q4,q5]) XE.cint rfl fun _=>rfl) ?_;rintro aF _ ⟨q3,rfl,h3⟩;refine BR.consF (S:=(fun(st:(List Int) × Int) ρ=>∃q2 q3 q4 q5,ρ=[q0,q1,q2,q3,q4,q5]∧SlO true (List.map eI st.1) q2∧SlV true (eI st.2) q3)) (SF.for1 (t0:=true) _ (XI.rng (XRg.r1P (XE.prtP (x:=aq) (t2:=true) (f:=fun p=>p.1) (en2:=eI) (XE.var (i:=0) rfl h0) (fun _ _=>rfl) (fun _=>.inl rfl)))) (fun _=>.inl rfl) ⟨_,_,_,_,rfl,h2,h3⟩ ?_) ?_
  ·intro ax s36 ρ1 q4 hS h4;obtain⟨q2,q3,_,q5,rfl,h2,h3⟩:=hS;change BF _ _ [q0,q1,q2,q3,q4,q5] _ _ _;refine BF.consF (S:=(fun(st:Int) ρ=>∃q3,ρ=[q0,q1,q2,q3,q4,q5]∧SlV true (eI st) q3)) (SF.iff (XT.val (XE.cmpP (XE.var (i:=4) rfl h4) XE.cint (qmK _ _))) ?_ ?_) ?_
   ·refine BG.ifR (XT.val (XE.cmpR (XE.slcS (XE.dec (f:=dS) (XE.coe (x:=au) (f:=(eO eD)) (en2:=eD) (XE.var (i:=1) rfl h1) (fun _=>rfl)) qlv) (XO.oneP (XE.var (i:=3) rfl h3)) (XO.oneP (XE.binP (XE.var (i:=3) rfl h3) XE.cint (qa6 _ _)))) XE.cstr (fun x=>qne x _))) ?_ ?_
    ·exact(BR.optV (BR.ret (XE.coe (x:=()) (f:=fun _=>none) (en2:=(eO (eL eI))) XE.cnon (fun _=>rfl)) rfl))
    refine BG.cons (SN.asg (en:=eI) (fun q3=>[q0,q1,q2,q3,q4,q5]) (XE.binP (XE.var (i:=3) rfl h3) XE.cint (qa6 _ _)) rfl fun _=>rfl) ?_;rintro aF _ ⟨q3,rfl,h3⟩;exact BG.nil ⟨_,rfl,h3⟩
   ·exact BG.nil ⟨_,rfl,h3⟩
   rintro p50 _ ⟨q3,rfl,h3⟩;refine BF.consF (S:=(fun(st:(List Int) × Int) ρ=>∃q2 q3 q5,ρ=[q0,q1,q2,q3,q4,q5]∧SlO true (List.map eI st.1) q2∧SlV true (eI st.2) q3)) (SF.for1 (t0:=true) _ (XI.rng (XRg.r1P (XE.prtP (x:=aq) (t2:=true) (f:=fun p=>p.2.1) (en2:=eI) (XE.var (i:=0) rfl h0) (fun _ _=>rfl) (fun _=>.inl rfl)))) (fun _=>.inl rfl) ⟨_,_,_,rfl,h2,h3⟩ ?_) ?_
   ·intro bv s62 ρ1 q5 hS h5;obtain⟨q2,q3,_,rfl,h2,h3⟩:=hS;change BF _ _ [q0,q1,q2,q3,q4,q5] _ _ _;refine BF.ifX (XT.val (XE.cmp (XE.slcS (XE.dec (f:=dS) (XE.coe (x:=au) (f:=(eO eD)) (en2:=eD) (XE.var (i:=1) rfl h1) (fun _=>rfl)) qlv) (XO.oneP (XE.var (i:=3) rfl h3)) (XO.oneP (XE.binP (XE.var (i:=3) rfl h3) XE.cint (qa6 _ _)))) (XE.call1P rfl (XE.var (i:=0) rfl h0) (qbo aq) rfl rfl) (fun x y=>(qiM .nin (eS) ((eL eS))) x y))) ?_ ?_
    ·exact BR.XP ((BR.optV (BR.ret (XE.coe (x:=()) (f:=fun _=>none) (en2:=(eO (eL eI))) XE.cnon (fun _=>rfl)) rfl)))
    refine BF.cons (SN.app (en:=eI) (fun q2=>[q0,q1,q2,q3,q4,q5]) (XE.inxL (XE.call1P rfl (XE.var (i:=0) rfl h0) (qbo aq) rfl rfl) (XE.idxS (XE.dec (f:=dS) (XE.coe (x:=au) (f:=(eO eD)) (en2:=eD) (XE.var (i:=1) rfl h1) (fun _=>rfl)) qlv) (XE.var (i:=3) rfl h3))) rfl rfl h2 (fun _=>rfl)) ?_;rintro am _ ⟨q2,rfl,h2⟩;refine BF.cons (SN.asg (en:=eI) (fun q3=>[q0,q1,q2,q3,q4,q5]) (XE.binP (XE.var (i:=3) rfl h3) XE.cint (qa6 _ _)) rfl fun _=>rfl) ?_;rintro aF _ ⟨q3,rfl,h3⟩;exact BF.nil ⟨_,_,_,rfl,h2,h3⟩
   rintro p75 _ ⟨q2,q3,q5,rfl,h2,h3⟩;exact BF.nil ⟨_,_,_,_,rfl,h2,h3⟩
  rintro p77 _ ⟨q2,q3,q4,q5,rfl,h2,h3⟩;refine BR.ifR (XT.val (XE.cmpL (XE.var (i:=3) rfl h3) (XE.pri1 (XE.dec (f:=dS) (XE.coe (x:=au) (f:=(eO eD)) (en2:=eD) (XE.var (i:=1) rfl h1) (fun _=>rfl)) qlv) (fun x=>qg2 x)) (fun y=>qkB _ y))) ?_ ?_
  ·exact(BR.optV (BR.ret (XE.coe (x:=()) (f:=fun _=>none) (en2:=(eO (eL eI))) XE.cnon (fun _=>rfl)) rfl))
  exact(BR.optF (BR.ret (XE.coe (x:=p77.1) (f:=some) (en2:=(eO (eL eI))) (XE.varO (i:=2) rfl h2) (fun _=>rfl)) rfl))
 exact Rf.run rfl (key _ _ .non .non .non .non SlV.flat SlV.any)
theorem qc1 (al:Int × Int × Int) (be:D):Rf (g_read_filling [(eT3 eI eI eI) al,eD be]) (F.read_filling al be) (eL eI) .f true:=by
 have key:∀q0 q1 q2 q3 q4 q5:Sl,SlV true ((eT3 eI eI eI) al) q0→SlV false (eD be) q1→BR qaJ qas [q0,q1,q2,q3,q4,q5] (F.read_filling al be) (eL eI) .f true:=by
  intro q0 q1 q2 q3 q4 q5 h0 h1;unfold F.read_filling qas;refine BR.ifR (XT.not (XT.val (XE.isiD (XE.var (i:=1) rfl h1)))) ?_ ?_
  ·exact BR.rse rfl
  refine BR.cons (SN.asg (en:=(eL eS)) (fun q2=>[q0,q1,q2,q3,q4,q5]) (XE.split (XE.dec (f:=dS) (XE.var (i:=1) rfl h1) qlv) XE.cstr) rfl fun _=>rfl) ?_;rintro aX _ ⟨q2,rfl,h2⟩;refine BR.ifR (XT.val (XE.cmpP (XE.pri1P (XE.var (i:=2) rfl h2) (qin _)) (XE.prtP (x:=al) (t2:=true) (f:=fun p=>p.1) (en2:=eI) (XE.var (i:=0) rfl h0) (fun _ _=>rfl) (fun _=>.inl rfl)) (qkB _ _))) ?_ ?_
  ·exact BR.rse rfl
  refine BR.cons (SN.own (en:=eI) (fun q3=>[q0,q1,q2,q3,q4,q5]) (XE.lstL XLs.nil) fun _=>rfl) ?_;rintro am _ ⟨q3,rfl,h3⟩;refine BR.cons (S:=(fun(st:List Int) ρ=>∃q3 q4 q5,ρ=[q0,q1,q2,q3,q4,q5]∧SlO true (List.map eI st) q3)) (SN.for1 (t0:=true) _ (XI.list (XE.var (i:=2) rfl h2) rfl) (fun _=>.inl rfl) ⟨_,_,_,rfl,h3⟩ ?_) ?_
  ·intro aT s20 ρ1 q4 hS h4;obtain⟨q3,_,q5,rfl,h3⟩:=hS;change BL _ _ [q0,q1,q2,q3,q4,q5] _ _;refine BL.ifE rfl (XT.val (XE.cmpR (XE.pri1P (XE.var (i:=4) rfl h4) (qg2 _)) (XE.prtP (x:=al) (t2:=true) (f:=fun p=>p.2.1) (en2:=eI) (XE.var (i:=0) rfl h0) (fun _ _=>rfl) (fun _=>.inl rfl)) (fun x=>qkB x _))) rfl ?_;refine BL.cons (S:=(fun(st:List Int) ρ=>∃q3 q5,ρ=[q0,q1,q2,q3,q4,q5]∧SlO true (List.map eI st) q3)) (SN.for1 (t0:=true) _ (XI.str (XE.var (i:=4) rfl h4)) (fun _=>.inl rfl) ⟨_,_,rfl,h3⟩ ?_) ?_
   ·intro aH s28 ρ1 q5 hS h5;obtain⟨q3,_,rfl,h3⟩:=hS;change BL _ _ [q0,q1,q2,q3,q4,q5] _ _;refine BL.ifE rfl (XT.val (XE.cmpL (XE.var (i:=5) rfl h5) (XE.slcSP (XE.glo (en:=eS) (x:=[46,49,50,51,52,53,54]) rfl rfl) XO.nil (XO.oneP (XE.binP (XE.prtP (x:=al) (t2:=true) (f:=fun p=>p.2.2) (en2:=eI) (XE.var (i:=0) rfl h0) (fun _ _=>rfl) (fun _=>.inl rfl)) XE.cint (qa6 _ _)))) (fun y=>ql7 _ y))) rfl ?_;refine BL.cons (SN.app (en:=eI) (fun q3=>[q0,q1,q2,q3,q4,q5]) (XE.inxSP (XE.glo (en:=eS) (x:=[46,49,50,51,52,53,54]) rfl rfl) (XE.coe (x:=aH) (f:=fun c=>[c]) (en2:=eS) (XE.var (i:=5) rfl h5) (fun _=>rfl))) rfl rfl h3 (fun _=>rfl)) ?_;rintro am _ ⟨q3,rfl,h3⟩;exact BL.nil ⟨_,_,rfl,h3⟩
   rintro p33 _ ⟨q3,q5,rfl,h3⟩;exact BL.nil ⟨_,_,_,rfl,h3⟩
  rintro p35 _ ⟨q3,q4,q5,rfl,h3⟩;exact BR.ret (XE.varO (i:=3) rfl h3) rfl
 exact Rf.run rfl (key _ _ .non .non .non .non SlV.flat SlV.any)
theorem qbG (aq:Int × Int × Int) (au:Option D):Rf (g__law_said [(eT3 eI eI eI) aq,(eO eD) au]) (qbj aq au) (eT2 eS (eO eD)) .v true:=by
 have key:∀q0 q1 q2 q3 q4 q5:Sl,SlV true ((eT3 eI eI eI) aq) q0→SlV false ((eO eD) au) q1→BR qa7 qaT [q0,q1,q2,q3,q4,q5] (qbj aq au) (eT2 eS (eO eD)) .v true:=by
  intro q0 q1 q2 q3 q4 q5 h0 h1;unfold qbj qaT;refine BR.cons (SN.asg (en:=eU) (fun q2=>[q0,q1,q2,q3,q4,q5]) XE.cnon rfl fun _=>rfl) ?_;rintro bL _ ⟨q2,rfl,h2⟩;refine BR.cons (SN.asg (en:=eU) (fun q3=>[q0,q1,q2,q3,q4,q5]) XE.cnon rfl fun _=>rfl) ?_;rintro aj _ ⟨q3,rfl,h3⟩;refine BR.cons (SN.tryA (T:=qca) (t:=true) (XE.coeG (f:=some) (en2:=(eO (eL eI))) (XE.call2P rfl (XE.var (i:=0) rfl h0) (XE.coe (x:=au) (f:=(eO eD)) (en2:=eD) (XE.var (i:=1) rfl h1) (fun _=>rfl)) (qc1 aq ((eO eD) au)) rfl rfl) (fun _=>rfl)) rfl rfl rfl rfl (SlV.coe (f:=fun _=>none) h2 (fun _=>rfl)) rfl (SlV.coe (f:=fun _=>none) h3 (fun _=>rfl)) (fun q2 q3 q4=>[q0,q1,q2,q3,q4,q5]) (fun _ _=>rfl) (fun r q h=>by cases h;rfl) (by simp)) ?_;rintro p1 _ ⟨q2,q3,q4,rfl,h2,h3⟩;refine BR.ifR (XT.val (XE.isN (XE.var (i:=2) rfl h2) (fun _=>rfl))) ?_ ?_
  ·exact BR.ret (XE.tup2P XE.cstr (XE.coe (x:=p1.2) (f:=Option.map ((eL eI))) (en2:=(eO eD)) (XE.var (i:=3) rfl h3) (qja (fun _=>rfl))) rfl) rfl
  refine BR.cons (SN.asg (en:=(eL eB)) (fun q5=>[q0,q1,q2,q3,q4,q5]) (XE.cast (m':=(qcv qbb p1.1).bind fun x4=>(qcv qb7 p1.1).bind fun x5=>(qcv qcL p1.1).bind fun x6=>RE.ok [x4,x5,x6]) (XE.lstS (F:=fun w=>[w.1,w.2.1,w.2.2.1]) (en:=eB) (XS.cons (XE.isc (T:=qbb) (XE.var (i:=2) rfl h2) rfl) (XS.cons (XE.isc (T:=qb7) (XE.var (i:=2) rfl h2) rfl) (XS.cons (XE.isc (T:=qcL) (XE.var (i:=2) rfl h2) rfl) XS.nil))) (fun _=>rfl) rfl) (by simp only[RE.bind_assoc,RE.bind_ok])) rfl fun _=>rfl) ?_;rintro a8 _ ⟨q5,rfl,h5⟩;refine BR.cons (SN.asg (en:=(eL eB)) (fun q5=>[q0,q1,q2,q3,q4,q5]) (XE.binL (XE.var (i:=5) rfl h5) (XE.cast (m':=(qcv qcU p1.1).bind fun x7=>(qcv qbI p1.1).bind fun x8=>(qcv qdM p1.1).bind fun x9=>RE.ok [x7,x8,x9]) (XE.lstS (F:=fun w=>[w.1,w.2.1,w.2.2.1]) (en:=eB) (XS.cons (XE.isc (T:=qcU) (XE.var (i:=2) rfl h2) rfl) (XS.cons (XE.isc (T:=qbI) (XE.var (i:=2) rfl h2) rfl) (XS.cons (XE.isc (T:=qdM) (XE.var (i:=2) rfl h2) rfl) XS.nil))) (fun _=>rfl) rfl) (by simp only[RE.bind_assoc,RE.bind_ok])) (fun y=>qhc (en:=eB) _ y)) rfl fun _=>rfl) ?_;rintro a8 _ ⟨q5,rfl,h5⟩;refine BR.cons (SN.asg (en:=(eL eB)) (fun q5=>[q0,q1,q2,q3,q4,q5]) (XE.binL (XE.var (i:=5) rfl h5) (XE.cast (m':=(qcv qcH p1.1).bind fun x12=>(qcv qcY p1.1).bind fun x13=>(qcv qcN p1.1).bind fun x14=>RE.ok [x12,x13,x14]) (XE.lstS (F:=fun w=>[w.1,w.2.1,w.2.2.1]) (en:=eB) (XS.cons (XE.isc (T:=qcH) (XE.var (i:=2) rfl h2) rfl) (XS.cons (XE.isc (T:=qcY) (XE.var (i:=2) rfl h2) rfl) (XS.cons (XE.isc (T:=qcN) (XE.var (i:=2) rfl h2) rfl) XS.nil))) (fun _=>rfl) rfl) (by simp only[RE.bind_assoc,RE.bind_ok])) (fun y=>qhc (en:=eB) _ y)) rfl fun _=>rfl) ?_;rintro a8 _ ⟨q5,rfl,h5⟩;refine BR.cons (SN.asg (en:=(eL eB)) (fun q5=>[q0,q1,q2,q3,q4,q5]) (XE.binL (XE.var (i:=5) rfl h5) (XE.cast (m':=(qcv qb3 p1.1).bind fun x18=>((qcv qba p1.1).bind fun x17=>RE.ok (!x17)).bind fun x19=>RE.ok [x18,x19]) (XE.lstS (F:=fun w=>[w.1,w.2.1]) (en:=eB) (XS.cons (XE.isc (T:=qb3) (XE.var (i:=2) rfl h2) rfl) (XS.cons (XE.bnot (XE.isc (T:=qba) (XE.var (i:=2) rfl h2) rfl)) XS.nil)) (fun _=>rfl) rfl) (by simp only[RE.bind_assoc,RE.bind_ok])) (fun y=>qhc (en:=eB) _ y)) rfl fun _=>rfl) ?_;rintro a8 _ ⟨q5,rfl,h5⟩;exact BR.ret (XE.tup2 XE.cstr (XE.coeG (f:=fun x=>some ((eB) x)) (en2:=(eO eD)) (XE.bop (XV.and (XE.isc (T:=qce) (XE.var (i:=2) rfl h2) rfl) (XV.one (XE.bnotP (XE.pri1P (XE.var (i:=5) rfl h5) (qnZ _)))))) (qap (f:=eB) (fun _=>rfl))) rfl) rfl
 exact Rf.run rfl (key _ _ .non .non .non .non SlV.flat SlV.any)
theorem qnU (az:List Int):Rf (g_law [(eL eI) az]) (qgk az) eB .v true:=by
 have key:∀q0 q1 q2 q3 q4 q5 q6 q7:Sl,SlV false ((eL eI) az) q0→BR qh2 qf7 [q0,q1,q2,q3,q4,q5,q6,q7] (qgk az) eB .v true:=by
  intro q0 q1 q2 q3 q4 q5 q6 q7 h0;unfold qgk qf7;refine BR.cons (SN.asg (en:=(eT3 eI eI eI)) (fun q1=>[q0,q1,q2,q3,q4,q5,q6,q7]) (XE.call1P rfl (XE.var (i:=0) rfl h0) (qdX az) rfl rfl) rfl fun _=>rfl) ?_;rintro aq _ ⟨q1,rfl,h1⟩;refine BR.cons (SN.asg (en:=eI) (fun q2=>[q0,q1,q2,q3,q4,q5,q6,q7]) (XE.binP (XE.prtP (x:=aq) (t2:=true) (f:=fun p=>p.1) (en2:=eI) (XE.var (i:=1) rfl h1) (fun _ _=>rfl) (fun _=>.inl rfl)) (XE.prtP (x:=aq) (t2:=true) (f:=fun p=>p.2.1) (en2:=eI) (XE.var (i:=1) rfl h1) (fun _ _=>rfl) (fun _=>.inl rfl)) (qhh _ _)) rfl fun _=>rfl) ?_;rintro aM _ ⟨q2,rfl,h2⟩;refine BR.cons (SN.asg (en:=(eL eI)) (fun q3=>[q0,q1,q2,q3,q4,q5,q6,q7]) (XE.lc (t0:=true) (fun q4=>[q0,q1,q2,q3,q4,q5,q6,q7]) (XI.rng (XRg.r1P (XE.var (i:=2) rfl h2))) (fun _=>.inl rfl) (fun _=>rfl) (fun ax q4 h4=>XTs.nil) (fun ax q4 h4 _=>(XE.binR (XE.call2P rfl (XE.var (i:=0) rfl h0) (XE.binP XE.cint (XE.var (i:=4) rfl h4) (qa6 _ _)) (qbn az (9+ax)) rfl rfl) (XE.binP (XE.prtP (x:=aq) (t2:=true) (f:=fun p=>p.2.2) (en2:=eI) (XE.var (i:=1) rfl h1) (fun _ _=>rfl) (fun _=>.inl rfl)) XE.cint (qa6 _ _)) (fun x=>qiK x _))) rfl) rfl fun _=>rfl) ?_;rintro am _ ⟨q3,rfl,h3⟩;refine BR.cons (SN.asg (en:=eS) (fun q5=>[q0,q1,q2,q3,q4,q5,q6,q7]) (XE.call2P rfl (XE.var (i:=1) rfl h1) (XE.var (i:=3) rfl h3) (qeB aq am) rfl rfl) rfl fun _=>rfl) ?_;rintro au _ ⟨q5,rfl,h5⟩;refine BR.consF (S:=(fun(st:Unit) ρ=>∃q4 q6 q7,ρ=[q0,q1,q2,q3,q4,q5,q6,q7])) (SF.for1 (t0:=true) _ (XI.rng (XRg.r2P XE.cint XE.cint)) (fun _=>.inl rfl) ⟨_,_,_,rfl⟩ ?_) ?_
  ·intro ax s15 ρ1 q4 hS h4;obtain⟨_,q6,q7,rfl⟩:=hS;change BF _ _ [q0,q1,q2,q3,q4,q5,q6,q7] _ _ _;refine BF.cons (SN.asg (en:=(eO eD)) (fun q6=>[q0,q1,q2,q3,q4,q5,q6,q7]) (XE.call3 rfl (XE.var (i:=1) rfl h1) (XE.var (i:=5) rfl h5) (XE.call2P rfl (XE.var (i:=0) rfl h0) (XE.var (i:=4) rfl h4) (qbn az ax) rfl rfl) (fun x0 x1 x2=>qc9 x0 x1 x2) rfl rfl) rfl fun _=>rfl) ?_;rintro aS _ ⟨q6,rfl,h6⟩;refine BF.cons (SN.asg (en:=(eO (eL eI))) (fun q7=>[q0,q1,q2,q3,q4,q5,q6,q7]) (XE.call2P rfl (XE.var (i:=1) rfl h1) (XE.var (i:=6) rfl h6) (qeU aq aS) rfl rfl) rfl fun _=>rfl) ?_;rintro aZ _ ⟨q7,rfl,h7⟩;refine BF.ifX (XT.bop (XTs.and (XT.val (XE.isN (XE.var (i:=7) rfl h7) (fun _=>rfl))) (XTs.one (XT.val (XE.cmpR (XE.call2P rfl (XE.var (i:=1) rfl h1) (XE.var (i:=6) rfl h6) (qbG aq aS) rfl rfl) (XE.tup2P XE.cstr (XE.coe (x:=true) (f:=fun x=>some ((eB) x)) (en2:=(eO eD)) XE.cbl (qap (f:=eB) (fun _=>rfl))) rfl) (fun x=>(qiM .ne ((eT2 eS (eO eD))) ((eT2 eS (eO eD)))) x _)))))) ?_ ?_
   ·exact BR.XP (BR.ret XE.cbl rfl)
   refine BF.ifX (XT.bop (XTs.and (XT.val (XE.notN (XE.var (i:=7) rfl h7) (fun _=>rfl))) (XTs.one (XT.val (XE.cmpR (XE.call2P rfl (XE.var (i:=1) rfl h1) (XE.var (i:=6) rfl h6) (qbG aq aS) rfl rfl) (XE.tup2P XE.cstr (XE.coe (x:=aZ) (f:=Option.map ((eL eI))) (en2:=(eO eD)) (XE.var (i:=7) rfl h7) (qja (fun _=>rfl))) rfl) (fun x=>(qiM .ne ((eT2 eS (eO eD))) ((eT2 eS (eO eD)))) x _)))))) ?_ ?_
   ·exact BR.XP (BR.ret XE.cbl rfl)
   exact BF.nil ⟨_,_,_,rfl⟩
  rintro p29 _ ⟨q4,q6,q7,rfl⟩;exact BR.ret (XE.cmpR (XE.call2P rfl (XE.var (i:=1) rfl h1) (XE.coe (x:=au) (f:=fun x=>some ((eS) x)) (en2:=(eO eD)) (XE.var (i:=5) rfl h5) (qap (f:=eS) (fun _=>rfl))) (qbG aq ((fun x=>some ((eS) x)) au)) rfl rfl) (XE.tup2P XE.cstr (XE.coe (x:=am) (f:=fun x=>some (((eL eI)) x)) (en2:=(eO eD)) (XE.var (i:=3) rfl h3) (qap (f:=(eL eI)) (fun _=>rfl))) rfl) (fun x=>(qiM .eq ((eT2 eS (eO eD))) ((eT2 eS (eO eD)))) x _)) rfl
 exact Rf.run rfl (key _ .non .non .non .non .non .non .non SlV.any)
end K05
namespace K05
open Cm
def cv (ns:List Int) (k:Int):Int:=match qfG ns k with
 |.ok v=>v
 |_=>0
theorem qgz (ns:List Int) {k:Int} (h0:0≤k) (h1:k≤1000):qfG ns k=.ok (cv ns k):=by
 suffices h:W (qfG ns k) fun _=>True by
  obtain⟨v,e,_⟩:=h
  have:cv ns k=v:=by unfold cv;rw[e]
  rw[this];exact e
 unfold qfG
 simp only[RE.bind_ok,qmv]
 by_cases e:k<(ns.length:Int)
 ·rw[if_pos e,qkX h0 e];exact W.ok trivial
 ·rw[if_neg e]
  refine W.bind (P:=fun p:Int=>0≤p∧p≤2000000000) ?_ fun p hp=>?_
  ·by_cases q:(0:Int)<(ns.length:Int)
   ·rw[if_pos q,qdJ (by omega)]
    have b:=qcf k q
    simp only[RE.bind_ok]
    rw[qkX b.1 b.2]
    simp only[RE.bind_ok]
    have b2:=qcf (gI ns (k.fmod (ns.length:Int))) (n:=1000003) (by decide)
    generalize (gI ns (k.fmod (ns.length:Int))).fmod 1000003=z at b2
    rw[qd4 (by omega)]
    simp only[RE.bind_ok]
    have m0:0≤z*(k+1):=Int.mul_nonneg b2.1 (by omega)
    have m1:z*(k+1)≤1000003*1001:=Int.mul_le_mul (by omega) (by omega) (by omega) (by decide)
    exact W.ok ⟨by omega,by omega⟩
   ·rw[if_neg q]
    exact W.ok ⟨by omega,by omega⟩
  ·rw[qd4 (by omega)]
   exact W.ok trivial
theorem qoh {α:Type} {xs:List α} {m:Int} (h:0≤m):qbd xs none (some m)=xs.take m.toNat:=by
 have h1:HT.sIx xs.length 0 none=0:=by simp[HT.sIx]
 have h2:HT.sIx xs.length xs.length (some m)=min m.toNat xs.length:=by
  have:=HT.sIx_nat xs.length xs.length m.toNat
  rwa [show((m.toNat:Nat):Int)=m by omega] at this
 unfold qbd
 rw[h1,h2,List.drop_zero,Nat.sub_zero]
 rcases Nat.le_total m.toNat xs.length with q | q
 ·rw[Nat.min_eq_left q]
 ·rw[Nat.min_eq_right q,List.take_length,List.take_of_length_le q]
theorem qhS (ns:List Int):∃fl,qb1 ns=.ok fl∧FOk fl:=by
 unfold qb1
 simp only[RE.bind_ok,qgz ns (k:=0) (by decide) (by decide),qgz ns (k:=1) (by decide) (by decide),qgz ns (k:=2) (by decide) (by decide)]
 have b1:=qcf (cv ns 0) (n:=6) (by decide)
 have b2:=qcf (cv ns 2) (n:=6) (by decide)
 generalize (cv ns 0).fmod 6=i at b1
 generalize (cv ns 2).fmod 6=j at b2
 generalize cv ns 1=z
 have:i=0∨i=1∨i=2∨i=3∨i=4∨i=5:=by omega
 have go:∀(h m:Int),1≤h→h≤6→1≤m→m≤6→h*m≤16→qjx 16 h=.ok (Int.fdiv 16 h)→(if (Int.fdiv 16 h)<6 then (Int.fdiv 16 h) else 6)=m→∃fl,((((qjx 16 h).bind fun x6=>RE.ok (if x6<6 then x6 else 6)).bind fun x8=>qf0 z x8).bind fun x10=>RE.ok (1+x10)).bind (fun aV=>RE.ok (h,aV,1+j))=.ok fl∧FOk fl:=fun h m h1 h6 m1 m6 hm e1 e2=>by
  rw[e1]
  simp only[RE.bind_ok]
  rw[e2,qdJ (by omega)]
  have b:=qcf z (n:=m) (by omega)
  refine⟨_,rfl,h1,h6,by show 1≤1+z.fmod m;omega,by show 1+z.fmod m≤6;omega,?_,by show 1≤1+j;omega,by show 1+j≤6;omega⟩
  show h*(1+z.fmod m)≤16
  exact Int.le_trans (Int.mul_le_mul_of_nonneg_left (by omega) (by omega)) hm
 rcases this with e | e | e | e | e | e<;>subst e
 ·exact go 1 6 (by decide) (by decide) (by decide) (by decide) (by decide) rfl rfl
 ·exact go 2 6 (by decide) (by decide) (by decide) (by decide) (by decide) rfl rfl
 ·exact go 3 5 (by decide) (by decide) (by decide) (by decide) (by decide) rfl rfl
 ·exact go 4 4 (by decide) (by decide) (by decide) (by decide) (by decide) rfl rfl
 ·exact go 5 3 (by decide) (by decide) (by decide) (by decide) (by decide) rfl rfl
 ·exact go 6 2 (by decide) (by decide) (by decide) (by decide) (by decide) rfl rfl
end K05
namespace K05
open Cm
def okc (g:Int) (c:Nat):Bool:=decide (c∈MK.take (g+1).toNat)
def mkI (c:Nat):Int:=(MK.findIdx fun x=>decide (x=c):Nat)
theorem qdH {c:Nat} (h:c∈MK):c=46∨c=49∨c=50∨c=51∨c=52∨c=53∨c=54:=by
 unfold MK at h
 simpa using h
theorem qiZ {g:Int} {c:Nat} (h:okc g c=true):c∈MK:=List.mem_of_mem_take (of_decide_eq_true h)
theorem qml {g:Int}:okc g 47=false:=by
 cases e:okc g 47 with
 |false=>rfl
 |true =>
  have:=qiZ e
  revert this;decide
theorem qnJ {c:Nat} (h:c∈MK):qbQ [46,49,50,51,52,53,54] [c]=.ok (mkI c):=by
 have k:isI (qbQ [46,49,50,51,52,53,54] [c]) (MK.findIdx fun x=>decide (x=c))=true:=by
  rcases qdH h with e | e | e | e | e | e | e<;>subst e<;>decide +kernel
 exact qgj k
def qer (g:Int):Nat→List Nat→Option (List Int × List Nat)
 |0,r=>some ([],r)
 |_+1,[]=>none
 |n+1,c::r=>if okc g c=true then (qer g n r).map fun q=>(mkI c::q.1,q.2) else none
def cn (g:Int) (w:Nat):Nat→List Nat→Option (List Int)
 |0,r=>if r=[] then some [] else none
 |n+1,47::r=>(qer g w r).bind fun q=>(cn g w n q.2).map (q.1 ++ ·)
 |_+1,_=>none
def full (g:Int) (w n:Nat) (t:List Nat):Option (List Int):=(qer g w t).bind fun q=>(cn g w n q.2).map (q.1 ++ ·)
theorem qme {g:Int} {w n c:Nat} {r:List Nat} (h:c≠47):cn g w (n+1) (c::r)=none:=by
 unfold cn
 split
 ·rename_i e;cases e
 ·rename_i e1 e2;cases e2;exact absurd rfl h
 ·rfl
theorem qeD {g:Int}:∀{n:Nat} {t:List Nat},qer g n t=if n≤t.length∧((t.take n).all (okc g))=true then some ((t.take n).map mkI,t.drop n) else none
 |0,t=>by simp[qer]
 |n+1,[]=>by simp[qer]
 |n+1,c::t=>by
  unfold qer
  rw[qeD (n:=n) (t:=t)]
  simp only[List.take_succ_cons,List.all_cons,List.length_cons,List.drop_succ_cons,List.map_cons,Nat.add_le_add_iff_right,Bool.and_eq_true]
  by_cases h1:okc g c=true
  ·rw[if_pos h1]
   by_cases h2:n≤t.length∧((t.take n).all (okc g))=true
   ·rw[if_pos h2,if_pos ⟨h2.1,h1,h2.2⟩];rfl
   ·rw[if_neg h2,if_neg fun q=>h2 ⟨q.1,q.2.2⟩];rfl
  ·rw[if_neg h1,if_neg fun q=>h1 q.2.1]
abbrev spT (t:List Nat):List (List Nat):=TL.spl [47] 0 [] t
theorem seg (t:List Nat):(47∉t∧spT t=[t])∨∃p r,t=p++47::r∧47∉p∧spT t=p::spT r:=by
 by_cases h:47∈t
 ·obtain⟨p,r,e,hp⟩:=List.eq_append_cons_of_mem h
  exact .inr ⟨p,r,e,hp,by rw[e];exact TL.spl_part1 (S:=[]) (acc:=[]) hp⟩
 ·exact .inl ⟨h,TL.spl_last1 (S:=[]) (acc:=[]) h⟩
def qdO (g:Int) (w:Nat) (p:List Nat):Bool:=decide (p.length=w)&&p.all (okc g)
theorem qbM {g:Int} {w:Nat} {p t:List Nat} (hp:47∉p) (ht:t=p∨∃r,t=p++47::r) (hg:qdO g w p=false) (n:Nat):full g w n t=none:=by
 unfold full
 rw[qeD]
 by_cases h:w≤t.length∧((t.take w).all (okc g))=true
 ·rw[if_pos h]
  obtain⟨h1,h2⟩:=h
  have wp:w≤p.length:=by
   rcases ht with e | ⟨r,e⟩
   ·rw[←e];exact h1
   ·apply Classical.byContradiction
    intro q
    have m:47∈t.take w:=by
     rw[e,List.take_append]
     refine List.mem_append_right _ ?_
     obtain⟨k,hk⟩:∃k,w - p.length=k+1:=⟨w - p.length - 1,by omega⟩
     rw[hk,List.take_succ_cons];simp
    have:=List.all_eq_true.mp h2 47 m
    rw[qml] at this;cases this
  have tk:t.take w=p.take w:=by
   rcases ht with e | ⟨r,e⟩
   ·rw[e]
   ·rw[e,List.take_append_of_le_length wp]
  have lt:w<p.length:=by
   apply Classical.byContradiction
   intro q
   have e:p.length=w:=by omega
   rw[tk,←e,List.take_length] at h2
   unfold qdO at hg
   rw[h2,decide_eq_true e] at hg
   cases hg
  obtain⟨c,r,hr,hc⟩:∃c r,t.drop w=c::r∧c≠47:=by
   have ed:p.drop w=p[w]::p.drop (w+1):=List.drop_eq_getElem_cons lt
   rcases ht with e | ⟨r,e⟩
   ·exact⟨p[w],p.drop (w+1),by rw[e];exact ed,fun q=>hp (q ▸ List.getElem_mem lt)⟩
   ·exact⟨p[w],p.drop (w+1)++47::r,by rw[e,List.drop_append_of_le_length (by omega),ed];rfl,fun q=>hp (q ▸ List.getElem_mem lt)⟩
  show Option.map _ (cn g w n (t.drop w))=none
  rw[hr]
  cases n with
  |zero=>rfl
  |succ n =>
   rw[qme hc];rfl
 ·rw[if_neg h];rfl
theorem qbN {g:Int} {w:Nat} {p:List Nat} (hg:qdO g w p=true) (r:List Nat):qer g w (p++r)=some (p.map mkI,r):=by
 unfold qdO at hg
 rw[Bool.and_eq_true,decide_eq_true_eq] at hg
 obtain⟨h1,h2⟩:=hg
 rw[qeD,if_pos ⟨by rw[List.length_append];omega,by rw[←h1,List.take_left];exact h2⟩,←h1,List.take_left,List.drop_left]
theorem qjB {g:Int} {w:Nat}:∀(n:Nat) (t:List Nat),full g w n t=if (spT t).length=n+1∧((spT t).all (qdO g w))=true then some ((spT t).flatMap (List.map mkI)) else none:=fun n=>by
 induction n with
 |zero =>
  intro t
  rcases seg t with⟨h,e⟩ | ⟨p,r,e,hp,es⟩
  ·rw[e]
   cases q:qdO g w t with
   |false=>rw[qbM h (.inl rfl) q 0,if_neg (by simp[q])]
   |true =>
    have:=qbN q []
    rw[List.append_nil] at this
    unfold full
    rw[this,if_pos ⟨rfl,by simp[q]⟩]
    simp[cn]
  ·have l1:1≤(spT r).length:=by
    rcases seg r with⟨_,e⟩ | ⟨_,_,_,_,e⟩<;>rw[e]<;>simp
   rw[es,if_neg (by rw[List.length_cons];omega)]
   cases q:qdO g w p with
   |false=>exact qbM hp (.inr ⟨r,e⟩) q 0
   |true =>
    unfold full
    rw[e,qbN q]
    simp[cn]
 |succ n ih =>
  intro t
  rcases seg t with⟨h,e⟩ | ⟨p,r,e,hp,es⟩
  ·rw[e,if_neg (by simp)]
   cases q:qdO g w t with
   |false=>exact qbM h (.inl rfl) q _
   |true =>
    have:=qbN q []
    rw[List.append_nil] at this
    unfold full
    rw[this]
    rfl
  ·rw[es]
   cases q:qdO g w p with
   |false=>rw[qbM hp (.inr ⟨r,e⟩) q,if_neg (by simp[q])]
   |true =>
    have e1:full g w (n+1) t=(full g w n r).map (p.map mkI ++ ·):=by
     unfold full
     rw[e,qbN q]
     show Option.map _ (cn g w (n+1) (47::r))=_
     rw[cn]
    rw[e1,ih r,List.length_cons,List.all_cons,q,Bool.true_and,List.flatMap_cons]
    by_cases k:(spT r).length=n+1∧((spT r).all (qdO g w))=true
    ·rw[if_pos k,if_pos ⟨by omega,k.2⟩];rfl
    ·rw[if_neg k,if_neg fun z=>k ⟨by omega,z.2⟩];rfl
end K05
namespace K05
open Cm
theorem qnh {g:Int} {c:Nat} (h:c∈MK.take (g+1).toNat):okc g c=true:=decide_eq_true h
theorem qeN {t:List Nat} (h:t.length≤1000000):qc4 t=.ok (t.length:Int):=qfg (qje (by have:LIM=16777216:=rfl;omega))
theorem qlH {g:Int} (g1:1≤g) (g6:g≤6):∀(xs:List Nat) (s:List Int),s.length+xs.length≤1000000 →
  qac (fun(aH:Nat) (s28:List Int)=>((qav ([46,49,50,51,52,53,54]) none (some (g+1))).bind fun x30=>RE.ok (!decide (aH∈x30))).bind fun k31=>if k31=true then RE.exc 32 [] else (((qbQ ([46,49,50,51,52,53,54]) [aH]).bind fun x32=>qa5 s28 x32).bind fun am=>RE.ok am)) xs s=if xs.all (okc g)=true then .ok (s++xs.map mkI) else .exc 32 []
 |[],s,_=>by simp[qac]
 |x::xs,s,hl=>by
  rw[List.length_cons] at hl
  rw[List.all_cons]
  by_cases h:x∈MK.take (g+1).toNat
  ·have hm:okc g x=true:=decide_eq_true h
   have one:(((qav ([46,49,50,51,52,53,54]) none (some (g+1))).bind fun x30=>RE.ok (!decide (x∈x30))).bind fun k31=>if k31=true then RE.exc 32 [] else (((qbQ ([46,49,50,51,52,53,54]) [x]).bind fun x32=>qa5 s x32).bind fun am=>RE.ok am))=RE.ok (s++[mkI x]):=by
    rw[qgX g1 g6]
    simp only[RE.bind_ok]
    rw[decide_eq_true h,qnJ (qiZ hm)]
    simp only[RE.bind_ok,Bool.not_true,Bool.false_eq_true,if_false]
    rw[qcG (by omega)]
    rfl
   have ih:=qlH g1 g6 xs (s++[mkI x]) (by rw[List.length_append,List.length_singleton];omega)
   rw[qac,one]
   refine Eq.trans ih ?_
   rw[hm,Bool.true_and,List.append_assoc]
   rfl
  ·have hm:okc g x=false:=decide_eq_false h
   have one:(((qav ([46,49,50,51,52,53,54]) none (some (g+1))).bind fun x30=>RE.ok (!decide (x∈x30))).bind fun k31=>if k31=true then RE.exc 32 [] else (((qbQ ([46,49,50,51,52,53,54]) [x]).bind fun x32=>qa5 s x32).bind fun am=>RE.ok am))=RE.exc 32 []:=by
    rw[qgX g1 g6]
    simp only[RE.bind_ok]
    rw[decide_eq_false h]
    rfl
   rw[qac,one,hm]
   rfl
theorem qjm {g w:Int} (g1:1≤g) (g6:g≤6) (w0:0≤w):∀(rows:List (List Nat)) (s:List Int),s.length+(rows.map List.length).sum≤1000000 →
  qac (fun(aT:List Nat) (s20:List Int)=>((qc4 aT).bind fun x21=>RE.ok (!decide (x21=w))).bind fun k23=>if k23=true then RE.exc 32 [] else (((RE.ok aT).bind fun y34=>qac (fun(aH:Nat) (s28:List Int)=>((qav ([46,49,50,51,52,53,54]) none (some (g+1))).bind fun x30=>RE.ok (!decide (aH∈x30))).bind fun k31=>if k31=true then RE.exc 32 [] else (((qbQ ([46,49,50,51,52,53,54]) [aH]).bind fun x32=>qa5 s28 x32).bind fun am=>RE.ok am)) y34 s20).bind fun(p33:List Int)=>RE.ok p33)) rows s=if rows.all (qdO g w.toNat)=true then .ok (s++rows.flatMap (List.map mkI)) else .exc 32 []
 |[],s,_=>by simp[qac]
 |r::rows,s,hl=>by
  rw[List.map_cons,List.sum_cons] at hl
  unfold qac
  rw[qeN (by omega),List.all_cons,List.flatMap_cons]
  simp only[RE.bind_ok]
  by_cases h:(r.length:Int)=w
  ·rw[decide_eq_true h]
   simp only[Bool.not_true,Bool.false_eq_true,if_false]
   have k:=qlH g1 g6 r s (by omega)
   rw[k]
   by_cases q:r.all (okc g)=true
   ·rw[if_pos q]
    simp only[RE.bind_ok]
    have ih:=qjm g1 g6 w0 rows (s++r.map mkI) (by rw[List.length_append,List.length_map];omega)
    have gd:qdO g w.toNat r=true:=by unfold qdO;rw[q,decide_eq_true (show r.length=w.toNat by omega)];rfl
    simp only[RE.bind_ok] at ih
    rw[ih,gd,Bool.true_and,List.append_assoc]
   ·rw[if_neg q]
    have gd:qdO g w.toNat r=false:=by unfold qdO;rw[Bool.not_eq_true _ |>.mp q,Bool.and_false]
    rw[gd];rfl
  ·have gd:qdO g w.toNat r=false:=by unfold qdO;rw[decide_eq_false (show ¬r.length=w.toNat by omega),Bool.false_and]
   rw[decide_eq_false h,gd];rfl
theorem qdI:∀(t acc:List Nat),((TL.spl [47] 0 acc t).map List.length).sum≤acc.length+t.length
 |[],acc=>by rw[TL.spl_nil];simp
 |c::t,acc=>by
  by_cases h:TL.pre [47] (c::t)=true
  ·rw[TL.spl_hit h,List.map_cons,List.sum_cons]
   have:=qdI t []
   show acc.length+((TL.spl [47] 0 [] t).map List.length).sum≤_
   simp only[List.length_nil,List.length_cons] at this ⊢
   omega
  ·rw[TL.spl_miss (by simpa using h)]
   have:=qdI t (acc++[c])
   simp only[List.length_append,List.length_cons,List.length_nil] at this ⊢
   omega
def rdO (fl:Int × Int × Int) (t:List Nat):Option (List Int):=full fl.2.2 fl.2.1.toNat (fl.1 - 1).toNat t
theorem qmF {fl:Int × Int × Int} (hf:FOk fl) {t:List Nat} (hl:t.length≤100000):F.read_filling fl (.str t)=match rdO fl t with
  |some fi=>.ok fi
  |none=>.exc 32 []:=by
 have h1:=hf.h1
 have w1:=hf.w1
 unfold F.read_filling rdO
 have ty:tyE (eD (.str t)) .str=.ok true:=rfl
 have ds:dS (.str t)=.ok t:=rfl
 rw[ty]
 simp only[RE.bind_ok,Bool.not_true,Bool.false_eq_true,if_false]
 rw[ds]
 simp only[RE.bind_ok]
 rw[qdh (ws:=spT t) (by omega) (by simp) (by decide) rfl]
 simp only[RE.bind_ok]
 rw[qjB]
 by_cases q:((spT t).length:Int)=fl.1
 ·rw[decide_eq_true q]
  simp only[Bool.not_true,Bool.false_eq_true,if_false]
  have sm:((spT t).map List.length).sum≤([]:List Nat).length+t.length:=qdI t []
  have k:=qjm (w:=fl.2.1) hf.s1 hf.s2 (by omega) (spT t) [] (by simp only[List.length_nil] at sm ⊢;omega)
  simp only[RE.bind_ok] at k
  rw[k]
  by_cases a:(spT t).all (qdO fl.2.2 fl.2.1.toNat)=true
  ·rw[if_pos a,if_pos ⟨by omega,a⟩];rfl
  ·rw[if_neg a,if_neg fun z=>a z.2];rfl
 ·rw[decide_eq_false q]
  simp only[Bool.not_false,if_true]
  rw[if_neg fun z=>q (by have:=z.1;omega)]
end K05
namespace K05
open Cm
theorem qjY {xs:List Nat} {a:Int} (h0:0≤a) (h1:a≤xs.length):qbd xs (some a) (some (a+1))=(xs.drop a.toNat).take 1:=by
 have e1:HT.sIx xs.length 0 (some a)=a.toNat:=by
  have:=HT.sIx_nat xs.length 0 a.toNat
  rw[show((a.toNat:Nat):Int)=a by omega] at this
  rw[this];omega
 have e2:HT.sIx xs.length xs.length (some (a+1))=min (a.toNat+1) xs.length:=by
  have:=HT.sIx_nat xs.length xs.length (a.toNat+1)
  rwa [show((a.toNat+1:Nat):Int)=a+1 by omega] at this
 unfold qbd
 rw[e1,e2]
 by_cases h:a.toNat+1≤xs.length
 ·rw[Nat.min_eq_left h,Nat.add_sub_cancel_left]
 ·have:xs.drop a.toNat=[]:=List.drop_eq_nil_of_le (by omega)
  rw[this,List.take_nil,List.take_nil]
theorem qe9 {t:List Nat} {a:Int} (h0:0≤a) (h1:a≤t.length) (hl:t.length≤100000):qav t (some a) (some (a+1))=.ok ((t.drop a.toNat).take 1):=by
 unfold qav
 rw[gdl (by omega),qjY h0 h1]
def mks (g:Int):List (List Nat):=(MK.take (g+1).toNat).map fun c=>[c]
theorem qgb {fl:Int × Int × Int} (hf:FOk fl):qaO fl=.ok (mks fl.2.2):=by
 have s1:=hf.s1
 have s2:=hf.s2
 unfold qaO mks
 generalize fl.2.2=g at s1 s2
 have:g=1∨g=2∨g=3∨g=4∨g=5∨g=6:=by omega
 rcases this with e | e | e | e | e | e<;>subst e<;>rfl
theorem qgA {g:Int} {c:Nat}:[c]∈mks g↔okc g c=true:=by
 unfold mks okc
 rw[List.mem_map,decide_eq_true_eq]
 constructor
 ·rintro⟨d,hd,e⟩;cases e;exact hd
 ·intro h;exact⟨c,h,rfl⟩
theorem qkR {g:Int}:[]∉mks g:=by
 unfold mks
 rw[List.mem_map]
 rintro⟨d,_,e⟩
 cases e
theorem qi8 {g:Int}:∀x∈mks g,∀c∈x,c<256:=fun x hx c hc=>by
 unfold mks at hx
 obtain⟨d,hd,rfl⟩:=List.mem_map.mp hx
 rw[List.mem_singleton.mp hc]
 rcases qdH (List.mem_of_mem_take hd) with e | e | e | e | e | e | e<;>subst e<;>decide
theorem qjr:∀g<7,∀i<7,i≤g→isI (qdZ eS eC ((MK.take (g+1)).map fun c=>[c]) (MK.getD i 46)) (MK.findIdx fun x=>decide (x=MK.getD i 46))=true:=by decide +kernel
theorem ixm {g:Int} {c:Nat} (g1:1≤g) (g6:g≤6) (h:okc g c=true):qdZ eS eC (mks g) c=.ok (mkI c):=by
 obtain⟨i,hi,e⟩:=List.getElem_of_mem (of_decide_eq_true h)
 rw[List.length_take] at hi
 have l7:MK.length=7:=rfl
 have i7:i<7:=by omega
 have e2:MK.getD i 46=c:=by
  rw[List.getElem_take] at e
  rw[List.getD_eq_getElem?_getD,List.getElem?_eq_getElem (by omega),←e];rfl
 have:=qjr g.toNat (by omega) i i7 (by omega)
 rw[e2] at this
 have k:=qgj this
 unfold mks mkI
 rw[show(g+1).toNat=g.toNat+1 by omega]
 exact k
theorem qf1 {n:Nat} {pre tl:List Int} {x:Int} (h:qcl n=pre++x::tl):x=(pre.length:Int)∧pre.length<n:=by
 have l:=congrArg List.length h
 rw[qbf,List.length_append,List.length_cons] at l
 have e:(qcl n)[pre.length]? = some x:=by rw[h,List.getElem?_append_right (Nat.le_refl _),Nat.sub_self];rfl
 exact⟨(qe8 e).1,by omega⟩
def stK (fl:Int × Int × Int) (k:Nat) (r:List Nat):Option (List Int):=if k=0 then full fl.2.2 fl.2.1.toNat (fl.1 - 1).toNat r else cn fl.2.2 fl.2.1.toNat (fl.1.toNat - k) r
theorem qlT {fl:Int × Int × Int} (hf:FOk fl) {t:List Nat} (hl:t.length≤100000) (h2:∀c∈t,c<256):qbs fl (some (.str t))=.ok (rdO fl t):=by
 have h1:=hf.h1
 have h6:=hf.h2
 have w1:=hf.w1
 have w6:=hf.w2
 have s1:=hf.s1
 have s6:=hf.s2
 have ty:tyE ((eO eD) (some (.str t))) .str=.ok true:=rfl
 have ds:dS ((eO eD) (some (.str t)))=.ok t:=rfl
 have ln:qc4 t=.ok (t.length:Int):=qeN (by omega)
 suffices hW:W (qbs fl (some (.str t))) fun o=>o=rdO fl t by
  obtain⟨o,e,rfl⟩:=hW;exact e
 unfold qbs
 rw[ty]
 simp only[RE.bind_ok,Bool.not_true,Bool.false_eq_true,if_false,ds,ln]
 rw[qcs (by omega) (by omega)]
 simp only[RE.bind_ok]
 refine ql5 (P:=fun pre (s:List Int × Int)=>0≤s.2∧s.2≤t.length∧s.1.length≤10*pre.length∧rdO fl t=(stK fl pre.length (t.drop s.2.toNat)).map (s.1 ++ ·)) ⟨by decide,by show(0:Int)≤_;omega,by simp,?_⟩ (fun pre x s hx ⟨p0,p1,p2,p3⟩ ht=>?_) (fun s ⟨p0,p1,p2,p3⟩=>?_)
 ·show rdO fl t=(full _ _ _ (t.drop 0)).map ([] ++ ·)
  rw[List.drop_zero]
  unfold rdO
  cases full fl.2.2 fl.2.1.toNat (fl.1 - 1).toNat t<;>rfl
 ·obtain⟨tl,ht⟩:=ht
  obtain⟨rfl,hk⟩:=qf1 ht
  -- the row behind the stroke
  have row:∀spot:Int,0≤spot→spot≤t.length→rdO fl t=((qer fl.2.2 fl.2.1.toNat (t.drop spot.toNat)).bind fun q=>(cn fl.2.2 fl.2.1.toNat (fl.1.toNat - (pre.length+1)) q.2).map (q.1 ++ ·)).map (s.1 ++ ·) →
    (∃b,Fl.bF ((qar fl.2.1).bind fun y76=>qam (fun(bv:Int) (s62:(List Int) × Int)=>(((qav t (some s62.2) (some (s62.2+1))).bind fun x66=>(qaO fl).bind fun x67=>evC .nin (eS x66) ((eL eS) x67)).bind fun k68=>if k68=true then (RE.ok (.rt (none:Option (List Int)))) else ((((qaO fl).bind fun x72=>(qiV t s62.2).bind fun x73=>qdZ eS eC x72 x73).bind fun x74=>qa5 s62.1 x74).bind fun am=>RE.ok (.nx (am,s62.2+1))):RE (Fl (Option (List Int)) ((List Int) × Int)))) y76 (s.1,spot)) (fun(p75:(List Int) × Int)=>(RE.ok (.nx (p75.1,p75.2)):RE (Fl (Option (List Int)) ((List Int) × Int))))=.ok (.rt b)∧b=rdO fl t) ∨
    (∃s',Fl.bF ((qar fl.2.1).bind fun y76=>qam (fun(bv:Int) (s62:(List Int) × Int)=>(((qav t (some s62.2) (some (s62.2+1))).bind fun x66=>(qaO fl).bind fun x67=>evC .nin (eS x66) ((eL eS) x67)).bind fun k68=>if k68=true then (RE.ok (.rt (none:Option (List Int)))) else ((((qaO fl).bind fun x72=>(qiV t s62.2).bind fun x73=>qdZ eS eC x72 x73).bind fun x74=>qa5 s62.1 x74).bind fun am=>RE.ok (.nx (am,s62.2+1))):RE (Fl (Option (List Int)) ((List Int) × Int)))) y76 (s.1,spot)) (fun(p75:(List Int) × Int)=>(RE.ok (.nx (p75.1,p75.2)):RE (Fl (Option (List Int)) ((List Int) × Int))))=.ok (.nx s')∧0≤s'.2∧s'.2≤t.length∧s'.1.length≤10*(pre++[(pre.length:Int)]).length∧rdO fl t=(stK fl (pre++[(pre.length:Int)]).length (t.drop s'.2.toNat)).map (s'.1 ++ ·)):=fun spot q0 q1 q3=>by
   rw[qcs (by omega) (by omega),qgb hf]
   simp only[RE.bind_ok]
   have lp:=qcZ (β:=Option (List Int)) (f:=fun(bv:Int) (s62:(List Int) × Int)=>(((qav t (some s62.2) (some (s62.2+1))).bind fun x66=>evC .nin (eS x66) ((eL eS) (mks fl.2.2))).bind fun k68=>if k68=true then (RE.ok (.rt (none:Option (List Int)))) else (((qiV t s62.2).bind fun x73=>qdZ eS eC (mks fl.2.2) x73).bind fun x74=>qa5 s62.1 x74).bind fun am=>RE.ok (.nx (am,s62.2+1))))
    (P:=fun pre2 (s2:List Int × Int)=>0≤s2.2∧s2.2≤t.length∧∃ys,s2.1=s.1++ys∧ys.length=pre2.length∧qer fl.2.2 fl.2.1.toNat (t.drop spot.toNat)=(qer fl.2.2 (fl.2.1.toNat - pre2.length) (t.drop s2.2.toNat)).map fun q=>(ys++q.1,q.2)) (Q:=fun b=>b=rdO fl t) (qcl fl.2.1.toNat) [] (s.1,spot) ⟨q0,q1,[],by simp,rfl,by
     show _=Option.map (fun q:List Int × List Nat=>([]++q.1,q.2)) (qer fl.2.2 (fl.2.1.toNat - 0) (t.drop spot.toNat))
     rw[Nat.sub_zero]
     cases qer fl.2.2 fl.2.1.toNat (t.drop spot.toNat)<;>rfl⟩ (fun pre2 x s2 hx ⟨r0,r1,ys,ey,yl,r3⟩ ht=>by
     obtain⟨tl,ht⟩:=ht
     obtain⟨rfl,hj⟩:=qf1 (by simpa using ht)
     obtain⟨m,hm⟩:∃m,fl.2.1.toNat - pre2.length=m+1:=⟨fl.2.1.toNat - pre2.length - 1,by omega⟩
     rw[hm] at r3
     rw[qe9 r0 r1 hl]
     simp only[RE.bind_ok]
     cases hr:t.drop s2.2.toNat with
     |nil =>
      rw[hr] at r3
      rw[List.take_nil,qfx (by simp) qi8,decide_eq_false qkR]
      refine .inl ⟨none,rfl,?_⟩
      rw[q3,r3];rfl
     |cons c r =>
      rw[hr] at r3
      have cm:c∈t:=List.mem_of_mem_drop (i:=s2.2.toNat) (by rw[hr];simp)
      have lt:s2.2.toNat<t.length:=by
       have:=congrArg List.length hr
       rw[List.length_drop,List.length_cons] at this
       omega
      have tc:t[s2.2.toNat]? = some c:=by
       have:=congrArg (fun l=>l[0]?) hr
       simp only[List.getElem?_drop,Nat.add_zero,List.getElem?_cons_zero] at this
       exact this
      have dr:t.drop (s2.2+1).toNat=r:=by
       rw[show(s2.2+1).toNat=s2.2.toNat+1 by omega,←List.drop_drop,hr]
       rfl
      rw[show List.take 1 (c::r)=[c] from rfl,qfx (fun d hd=>by rw[List.mem_singleton.mp hd];exact h2 c cm) qi8]
      rw[qer] at r3
      by_cases ok:okc fl.2.2 c=true
      ·rw[if_pos ok] at r3
       rw[decide_eq_true (qgA.mpr ok)]
       have at_:qiV t s2.2=.ok c:=by
        unfold qiV
        rw[gdl (by omega)]
        exact qbH r0 tc
       simp only[RE.bind_ok,Bool.not_true,Bool.false_eq_true,if_false]
       rw[at_]
       simp only[RE.bind_ok]
       rw[ixm s1 s6 ok]
       simp only[RE.bind_ok]
       have len2:s2.1.length≤1000:=by rw[ey,List.length_append];omega
       rw[qcG (by omega)]
       refine .inr ⟨_,rfl,by show 0≤s2.2+1;omega,by show s2.2+1≤(t.length:Int);omega,ys++[mkI c],by show s2.1++[mkI c]=_;rw[ey,List.append_assoc],by rw[List.length_append,List.length_append,yl];rfl,?_⟩
       show _=Option.map _ (qer _ _ (t.drop (s2.2+1).toNat))
       rw[dr,r3,List.length_append,List.length_singleton,show fl.2.1.toNat - (pre2.length+1)=m by omega]
       cases qer fl.2.2 m r with
       |none=>rfl
       |some q=>simp
      ·rw[if_neg ok] at r3
       rw[decide_eq_false (fun z=>ok (qgA.mp z))]
       refine .inl ⟨none,rfl,?_⟩
       rw[q3,r3];rfl)
   rcases lp with⟨b,e,hb⟩ | ⟨s2,e,r0,r1,ys,ey,yl,r3⟩
   ·rw[e]
    exact .inl ⟨b,rfl,hb⟩
   ·rw[e]
    have yl:ys.length=fl.2.1.toNat:=by rw[yl,List.nil_append,qbf]
    rw[List.nil_append,qbf,Nat.sub_self,qer] at r3
    refine .inr ⟨_,rfl,r0,r1,?_,?_⟩
    ·show s2.1.length≤_
     rw[ey,List.length_append,List.length_append,List.length_singleton];omega
    ·show _=Option.map _ (stK fl _ (t.drop s2.2.toNat))
     rw[q3,r3,List.length_append,List.length_singleton]
     unfold stK
     rw[if_neg (by omega)]
     show Option.map _ (Option.map _ _)=_
     rw[Option.map_map,ey]
     congr 1
     funext z
     simp
  by_cases z:pre.length=0
  ·rw[decide_eq_false (show ¬(0:Int)<(pre.length:Int) by omega)]
   simp only[Bool.false_eq_true,if_false,qlu]
   refine row s.2 p0 p1 ?_
   rw[p3]
   unfold stK
   rw[if_pos z]
   unfold full
   rw[z,show(fl.1 - 1).toNat=fl.1.toNat - (0+1) by omega]
  ·rw[decide_eq_true (show(0:Int)<(pre.length:Int) by omega),qe9 p0 p1 hl]
   simp only[RE.bind_ok,if_true]
   obtain⟨m,hm⟩:∃m,fl.1.toNat - pre.length=m+1:=⟨fl.1.toNat - pre.length - 1,by omega⟩
   have p3:=p3
   unfold stK at p3
   rw[if_neg z,hm] at p3
   by_cases q:(t.drop s.2.toNat).take 1=[47]
   ·rw[decide_eq_true q]
    simp only[Bool.not_true,Bool.false_eq_true,if_false,qlu]
    obtain⟨r,hr⟩:∃r,t.drop s.2.toNat=47::r:=by
     cases e:t.drop s.2.toNat with
     |nil=>rw[e] at q;cases q
     |cons c r =>
      rw[e] at q
      have:c=47:=by simpa using q
      exact⟨r,by rw[this]⟩
    have lt:s.2.toNat<t.length:=by
     have:=congrArg List.length hr
     rw[List.length_drop,List.length_cons] at this
     omega
    have dr:t.drop (s.2+1).toNat=r:=by
     rw[show(s.2+1).toNat=s.2.toNat+1 by omega,←List.drop_drop,hr]
     rfl
    refine row (s.2+1) (by omega) (by omega) ?_
    rw[p3,hr,cn,dr,show m=fl.1.toNat - (pre.length+1) by omega]
   ·rw[decide_eq_false q]
    simp only[Bool.not_false,if_true,RE.bind_ok,qnj]
    refine .inl ⟨none,rfl,?_⟩
    rw[p3]
    have:cn fl.2.2 fl.2.1.toNat (m+1) (t.drop s.2.toNat)=none:=by
     cases e:t.drop s.2.toNat with
     |nil=>rfl
     |cons c r =>
      rw[e] at q
      have nc:c≠47:=fun k=>q (by rw[k];rfl)
      exact qme nc
    rw[this];rfl
 ·rw[qbf] at p3
  unfold stK at p3
  rw[if_neg (by omega),Nat.sub_self,cn] at p3
  by_cases q:s.2=(t.length:Int)
  ·rw[decide_eq_true q]
   have:t.drop s.2.toNat=[]:=List.drop_eq_nil_of_le (by omega)
   rw[this,if_pos rfl] at p3
   simp only[Bool.not_true,Bool.false_eq_true,if_false]
   refine W.ok ?_
   rw[p3];simp
  ·rw[decide_eq_false q]
   have:t.drop s.2.toNat≠[]:=fun k=>by
    have:=List.drop_eq_nil_iff.mp k
    omega
   rw[if_neg this] at p3
   simp only[Bool.not_false,if_true]
   exact W.ok p3.symm
end K05
namespace K05
open Cm
def TB (n:Nat) (t:List Nat):Prop:=t.length≤n∧∀c∈t,c<256
theorem TB.le {n m:Nat} {t:List Nat} (h:TB n t) (k:n≤m):TB m t:=⟨Nat.le_trans h.1 k,h.2⟩
theorem qd2 {n:Nat} {t:List Nat} (h:TB n t) (hn:n≤100000) (a b:Option Int):W (qav t a b) (TB n):=by
 unfold qav
 rw[gdl (by have:=h.1;omega)]
 refine W.ok ⟨?_,fun c hc=>?_⟩
 ·unfold qbd
  rw[List.length_take,List.length_drop]
  have:=h.1;omega
 ·unfold qbd at hc
  exact h.2 c (List.mem_of_mem_drop (List.mem_of_mem_take hc))
theorem qbP {n m:Nat} {t s:List Nat} (h:TB n t) (k:TB m s) (hn:n≤100000) (hm:m≤100000):W (qbk t s) (TB (n+m)):=by
 have a:=h.1
 have b:=k.1
 rw[qh8 (by omega)]
 refine W.ok ⟨by rw[List.length_append];omega,fun c hc=>?_⟩
 rcases List.mem_append.mp hc with q | q
 ·exact h.2 c q
 ·exact k.2 c q
theorem qeH:∀(t acc:List Nat),∀w∈TL.spl [47] 0 acc t,∀c∈w,c∈acc∨c∈t
 |[],acc=>by rw[TL.spl_nil];intro w hw c hc;rw[List.mem_singleton.mp hw] at hc;exact .inl hc
 |x::t,acc=>by
  intro w hw c hc
  by_cases h:TL.pre [47] (x::t)=true
  ·rw[TL.spl_hit h] at hw
   rcases List.mem_cons.mp hw with e | e
   ·rw[e] at hc;exact .inl hc
   ·rcases qeH t [] w e c hc with q | q
    ·cases q
    ·exact .inr (List.mem_cons_of_mem _ q)
  ·rw[TL.spl_miss (by simpa using h)] at hw
   rcases qeH t (acc++[x]) w hw c hc with q | q
   ·rcases List.mem_append.mp q with r | r
    ·exact .inl r
    ·rw[List.mem_singleton.mp r];exact .inr (by simp)
   ·exact .inr (List.mem_cons_of_mem _ q)
theorem qeS:∀(t acc:List Nat),(TL.spl [47] 0 acc t).length≤t.length+1
 |[],acc=>by rw[TL.spl_nil];simp
 |x::t,acc=>by
  by_cases h:TL.pre [47] (x::t)=true
  ·rw[TL.spl_hit h,List.length_cons,List.length_cons]
   have:=qeS t []
   show(TL.spl [47] 0 [] t).length+1≤t.length+1+1
   omega
  ·rw[TL.spl_miss (by simpa using h),List.length_cons]
   have:=qeS t (acc++[x])
   omega
theorem qeL:∀{xs ys:List Nat},xs.Sublist ys→xs.sum≤ys.sum
 |_,_,.slnil=>Nat.le_refl _
 |_,_,.cons a h=>by rw[List.sum_cons];have:=qeL h;omega
 |_,_,.cons₂ a h=>by rw[List.sum_cons,List.sum_cons];have:=qeL h;omega
theorem qfu:∀ws:List (List Nat),(ws.map List.length).sum≤(TL.joinL [47] ws).length
 |[]=>by simp[TL.joinL]
 |[p]=>by simp[TL.joinL]
 |p::q::r=>by
  have:=qfu (q::r)
  rw[TL.joinL,List.map_cons,List.sum_cons,List.length_append,List.length_append]
  omega
theorem qkv {n:Nat} {t:List Nat} (h:TB n t) (hn:n≤1000):W ((qbm t [47]).bind fun x36=>qcp [47] (qbd x36 (some 1) none)) (TB (2*n+1)):=by
 have h1:=h.1
 rw[qdh (ws:=spT t) (by omega) (by simp) (by decide) rfl]
 simp only[RE.bind_ok]
 have sub:∀w∈qbd (spT t) (some 1) none,w∈spT t:=fun w hw=>by
  unfold qbd at hw
  exact List.mem_of_mem_drop (List.mem_of_mem_take hw)
 have sl:List.Sublist (qbd (spT t) (some 1) none) (spT t):=by
  unfold qbd
  exact(List.take_sublist _ _).trans (List.drop_sublist _ _)
 have sm:((qbd (spT t) (some 1) none).map List.length).sum≤t.length:=by
  have a:((spT t).map List.length).sum≤([]:List Nat).length+t.length:=qdI t []
  have b:=qeL (sl.map List.length)
  simp only[List.length_nil] at a
  omega
 have ln:(qbd (spT t) (some 1) none).length≤t.length+1:=Nat.le_trans sl.length_le (qeS t [])
 rw[qd6 (by simp only[List.length_cons,List.length_nil];omega)]
 refine W.ok ⟨?_,qcO (by decide) fun w hw c hc=>?_⟩
 ·have:=qbT 47 (qbd (spT t) (some 1) none)
  omega
 ·rcases qeH t [] w (sub w hw) c hc with q | q
  ·cases q
  ·exact h.2 c q
theorem qnz {fl:Int × Int × Int} (hf:FOk fl) {fi:List Int} (hc:qeu fl fi):TB 100 (fiT fl fi):=⟨(qef hf hc).2,qcO (by decide) fun r hr c hc=>by
 rcases qdH (qgy r hr c hc) with e | e | e | e | e | e | e<;>subst e<;>decide⟩
theorem qm9 {fl:Int × Int × Int} (hf:FOk fl) {fi:List Int} (hc:qeu fl fi):1≤(fiT fl fi).length:=by
 obtain⟨e,h6,w6,h1,w1,_⟩:=qcD hf hc
 have:=qfu (qbz fl fi)
 have r:qbz fl fi=qhA fl fi 0::(List.range (fl.1.toNat - 1)).map fun i=>qhA fl fi (i+1):=by
  unfold qbz
  obtain⟨m,hm⟩:∃m,fl.1.toNat=m+1:=⟨fl.1.toNat - 1,by omega⟩
  rw[hm,List.range_succ_eq_map,List.map_cons,List.map_map];rfl
 have l:(qhA fl fi 0).length=fl.2.1.toNat:=by unfold qhA;rw[List.length_map,qbR hf hc (by omega)]
 have q:(fiT fl fi).length=(TL.joinL [47] (qbz fl fi)).length:=rfl
 rw[←q] at this
 rw[r,List.map_cons,List.sum_cons,l] at this
 omega
def NT (d:Option D):Prop:=tyE (eO eD d) .str=.ok false
def TXT (d:Option D):Prop:=∃t,d=some (.str t)∧TB 1000 t
theorem qjj {n:Nat} {m:RE (List Nat)} (h:W m (TB n)) (hn:n≤1000):W (m.bind fun x=>RE.ok (some (eS x))) fun d=>TXT d∨NT d:=
 W.bind h fun x hx=>W.ok (.inl ⟨x,rfl,hx.le hn⟩)
theorem qj9 {fl:Int × Int × Int} (hf:FOk fl) (j:Int):∃mk,atE ([[48],[55],dgI (fl.2.2+1),[97],[32],[47],[10],[45]]:List (List Nat)) (j.fmod 8)=.ok mk∧TB 2 mk:=by
 have b:=qcf j (n:=8) (by decide)
 have s1:=hf.s1
 have s2:=hf.s2
 generalize j.fmod 8=i at b
 have:i=0∨i=1∨i=2∨i=3∨i=4∨i=5∨i=6∨i=7:=by omega
 have dd:TB 2 (dgI (fl.2.2+1)):=by
  have a:=qln (fl.2.2+1).toNat (by omega)
  exact⟨a.1,fun c hc=>by have:=qj2 (fl.2.2+1).toNat (by omega) c hc;omega⟩
 rcases this with e | e | e | e | e | e | e | e<;>subst e
 ·exact⟨_,rfl,by decide,by decide⟩
 ·exact⟨_,rfl,by decide,by decide⟩
 ·exact⟨_,rfl,dd⟩
 ·exact⟨_,rfl,by decide,by decide⟩
 ·exact⟨_,rfl,by decide,by decide⟩
 ·exact⟨_,rfl,by decide,by decide⟩
 ·exact⟨_,rfl,by decide,by decide⟩
 ·exact⟨_,rfl,by decide,by decide⟩
theorem qmN (a:Int) (t:List Nat) (j:Int):W (atE ([(none:Option D),some (eI a),some ((eL eS) [t]),some ((eT1 eS) t),some (eB true)]) (j.fmod 5)) fun d=>TXT d∨NT d:=by
 have b:=qcf j (n:=5) (by decide)
 generalize j.fmod 5=i at b
 have:i=0∨i=1∨i=2∨i=3∨i=4:=by omega
 rcases this with e | e | e | e | e<;>subst e
 ·exact⟨_,rfl,.inr rfl⟩
 ·exact⟨_,rfl,.inr rfl⟩
 ·exact⟨_,rfl,.inr rfl⟩
 ·exact⟨_,rfl,.inr rfl⟩
 ·exact⟨_,rfl,.inr rfl⟩
theorem qlo {k:Int} (k1:1≤k) (k6:k≤6):W (qko [46] k) (TB 6):=by
 have:k=1∨k=2∨k=3∨k=4∨k=5∨k=6:=by omega
 rcases this with e | e | e | e | e | e<;>subst e<;>exact⟨_,rfl,by decide,by decide⟩
theorem qfR {fl:Int × Int × Int} (hf:FOk fl) {fi:List Int} (hc:qeu fl fi) (k:Int):W (qaW fl (fiT fl fi) k) fun d=>TXT d∨NT d:=by
 have tb:=qnz hf hc
 have ne:=qm9 hf hc
 have s1:=hf.s1
 have s2:=hf.s2
 generalize fiT fl fi=t at tb ne
 have tl:=tb.1
 unfold qaW
 rw[qeN (by omega)]
 simp only[RE.bind_ok]
 rw[qdJ (by omega),qkk (n:=fl.2.2+1) (by omega) (by omega)]
 simp only[RE.bind_ok]
 generalize (k.fdiv 16).fmod (t.length:Int)=a
 obtain⟨mk,em,hm⟩:=qj9 hf (k.fdiv 400)
 rw[em]
 simp only[RE.bind_ok]
 generalize k.fmod 12=way
 have two:∀{s u:List Nat} {n m:Nat} {lo:Option Int},TB n s→TB m u→n≤200→m≤200→W ((qbk s u).bind fun x16=>(qav t lo none).bind fun x17=>qbk x16 x17) (TB (n+m+100)):=fun hs hu hn hm'=>W.bind (qbP hs hu (by omega) (by omega)) fun x hx=>W.bind (qd2 tb (by omega) _ _) fun y hy=>qbP hx hy (by omega) (by omega)
 have dot:TB 1 [46]:=⟨by decide,by decide⟩
 have sls:TB 1 [47]:=⟨by decide,by decide⟩
 have three:∀{u:List Nat} {lo hi:Option Int},TB 2 u→W (((qav t none hi).bind fun x14=>qbk x14 u).bind fun x16=>(qav t lo none).bind fun x17=>qbk x16 x17) (TB 202):=fun hu=>W.bind (W.bind (qd2 tb (by omega) _ _) fun x hx=>qbP hx hu (by omega) (by omega)) fun x hx=>W.bind (qd2 tb (by omega) _ _) fun y hy=>qbP hx hy (by omega) (by omega)
 split
 ·exact qjj (three hm) (by omega)
 split
 ·exact qjj (three hm) (by omega)
 split
 ·exact qjj (qbP tb hm (by omega) (by omega)) (by omega)
 split
 ·exact qjj (W.bind (qd2 tb (by omega) _ _) fun x hx=>W.bind (qd2 tb (by omega) _ _) fun y hy=>qbP hx hy (by omega) (by omega)) (by omega)
 split
 ·exact qjj (W.bind (qbP tb sls (by omega) (by omega)) fun x hx=>W.bind (qlo hf.w1 hf.w2) fun y hy=>qbP hx hy (by omega) (by omega)) (by omega)
 split
 ·exact qjj (n:=201) (by have:=qkv tb (by omega);simpa only[RE.bind_assoc,RE.bind_ok] using this) (by omega)
 split
 ·exact qjj (qbP tb sls (by omega) (by omega)) (by omega)
 split
 ·exact qjj (three (dot.le (by omega))) (by omega)
 ·exact qmN a t _
end K05
namespace K05
open Cm
theorem qlX {g s:Int} (g6:g≤6) (h0:0≤s) (h1:s≤g):atE (mks g) s=.ok [mkT s]:=by
 unfold mks
 refine qbH h0 ?_
 rw[List.getElem?_map,List.getElem?_take_of_lt (by omega)]
 have l:s.toNat<MK.length:=by show s.toNat<7;omega
 rw[List.getElem?_eq_getElem l]
 unfold mkT
 rw[List.getD_eq_getElem?_getD,List.getElem?_eq_getElem l];rfl
theorem qmE {fl:Int × Int × Int} (hf:FOk fl) {cl:List Int} (hc:qeu fl cl):qdu fl cl=.ok (fiT fl cl):=by
 obtain⟨e,h6,w6,h1,w1,l16⟩:=qcD hf hc
 have s2:=hf.s2
 have hh:=hf.h2
 have hh1:=hf.h1
 unfold qdu
 simp only[RE.bind_ok]
 rw[qcs (by omega) (by omega),qgb hf]
 simp only[RE.bind_ok]
 refine W.eq (W.bind (P:=fun L=>L=qbz fl cl) ?_ fun L hL=>W.of (hL ▸ (qef hf hc).1) rfl)
 refine W.mono (qcr (fun i s=>s=(List.range i).map (qhA fl cl)) rfl fun i x s hx hs=>?_) fun L h=>by rw[h,qbf];rfl
 obtain⟨rfl,hi⟩:=qe8 hx
 rw[qd4 (by omega),qd4 (by omega)]
 simp only[RE.bind_ok]
 rw[qig hf hc hi rfl (by rw[Int.add_mul,Int.one_mul])]
 have sl:=qbR hf hc hi
 have si:=qe7 hc i
 rw[gdl (by omega),qhb (g:=fun s=>[mkT s]) fun s hs=>by
  have:=si s hs
  exact qlX s2 this.1 this.2]
 simp only[RE.bind_ok]
 have jl:((((cl.drop (i*fl.2.1.toNat)).take fl.2.1.toNat).map fun s=>[mkT s]).map List.length).sum≤16*1:=by
  have:=qep (ws:=((cl.drop (i*fl.2.1.toNat)).take fl.2.1.toNat).map fun s=>[mkT s]) (b:=1) fun w hw=>by
   obtain⟨_,_,rfl⟩:=List.mem_map.mp hw
   exact Nat.le_refl _
  rw[List.length_map] at this
  omega
 rw[qd6 (by simp only[List.length_nil,Nat.mul_zero];omega),qiS]
 simp only[RE.bind_ok]
 have ls:s.length=i:=by rw[hs,List.length_map,List.length_range]
 rw[qcG (by omega)]
 refine W.ok ?_
 rw[List.range_succ,List.map_append,←hs];rfl
theorem qkP {fl:Int × Int × Int} {d:Option D} (h:F.read_filling fl (eO eD d)=.exc 32 []):qbj fl d=.ok ([114,101,102,117,115,101,100],some (eB true)):=by
 unfold qbj
 rw[h];rfl
theorem qfb {fl:Int × Int × Int} {d:Option D} {fi:List Int} (h:F.read_filling fl (eO eD d)=.ok fi):qbj fl d=.ok ([116,111,108,100],some ((eL eI) fi)):=by
 unfold qbj
 rw[h];rfl
theorem qfo {fl:Int × Int × Int} {d:Option D} (h:NT d):F.read_filling fl (eO eD d)=.exc 32 []∧qbs fl d=.ok none:=by
 unfold NT at h
 unfold F.read_filling qbs
 constructor
 ·rw[show tyE (eD (eO eD d)) .str=.ok false from h];rfl
 ·rw[h];rfl
theorem qnK (a:List Int):(D.lst (a.map eI)).fit 63=true:=by
 have h1:=qdd (k:=62) [a]
 simp only[List.map_cons,List.map_nil,D.fits,Bool.and_true] at h1
 exact h1
theorem qfw (fi:List Int):((eT2 eS (eO eD)) ([116,111,108,100],some ((eL eI) fi))).fit 64=true:=by
 show(D.tup [.str [116,111,108,100],.lst (fi.map eI)]).fit 64=true
 have:=qnK fi
 have e:(D.tup [.str [116,111,108,100],.lst (fi.map eI)]).fit 64=((D.str [116,111,108,100]).fit 63&&(D.lst (fi.map eI)).fit 63):=by
  show(decide (0<64)&&D.fits _ 63)=_
  simp[D.fits]
 rw[e,this];decide +kernel
theorem qjA (ns:List Int) {fl:Int × Int × Int} (hf:FOk fl):∃f,(gd (leB (qcl (nC fl).toNat).length) (lcE (fun(ax:Int)=>(RE.ok true)) (fun(ax:Int)=>((qfG ns (9+ax)).bind fun x2=>qf0 x2 (fl.2.2+1))) (qcl (nC fl).toNat)))=.ok f∧qeu fl f:=by
 have n1:=hf.n1
 have n16:=qmh hf
 have s1:=hf.s1
 rw[gdl (by rw[qbf];omega),qhb (g:=fun k=>(cv ns (9+k)).fmod (fl.2.2+1)) fun k hk=>by
  have:=qhQ.mp hk
  rw[qgz ns (by omega) (by omega)]
  simp only[RE.bind_ok]
  rw[qdJ (by omega)]]
 refine⟨_,rfl,by rw[List.length_map,qbf];omega,fun x hx=>?_⟩
 obtain⟨k,_,rfl⟩:=List.mem_map.mp hx
 have b:=qcf (cv ns (9+k)) (n:=fl.2.2+1) (by omega)
 omega
theorem main (ns:List Int):qgk ns=.ok true:=by
 obtain⟨fl,ef,hf⟩:=qhS ns
 obtain⟨fi,ei,hc⟩:=qjA ns hf
 have n1:=hf.n1
 have n16:=qmh hf
 have en:nC fl=fl.1*fl.2.1:=rfl
 unfold qgk
 rw[ef]
 simp only[RE.bind_ok]
 rw[qd4 (by have:=hf.h1;have:=hf.h2;omega)]
 simp only[RE.bind_ok]
 rw[←en,qcs (by omega) (by omega)]
 simp only[RE.bind_ok]
 rw[ei]
 simp only[RE.bind_ok]
 rw[qmE hf hc]
 simp only[RE.bind_ok]
 rw[qhL (by decide)]
 simp only[RE.bind_ok]
 have lp:=qkH (β:=Bool) (xs:=qde 3 9) (f:=fun(ax:Int) (s15:Unit)=>(((qfG ns ax).bind fun x18=>qaW fl (fiT fl fi) x18).bind fun aS=>(qbs fl aS).bind fun aZ=>((RE.ok aZ.isNone).bind fun k21=>if k21=true then ((qbj fl aS).bind fun x19=>evC .ne ((eT2 eS (eO eD)) x19) ((eT2 eS (eO eD)) ([114,101,102,117,115,101,100],some (eB true)))) else RE.ok false).bind fun k22=>if k22=true then (RE.ok (.rt false)) else (((RE.ok aZ.isSome).bind fun k26=>if k26=true then ((qbj fl aS).bind fun x24=>evC .ne ((eT2 eS (eO eD)) x24) ((eT2 eS (eO eD)) ([116,111,108,100],(Option.map ((eL eI)) aZ)))) else RE.ok false).bind fun k27=>if k27=true then (RE.ok (.rt false)) else (RE.ok (.nx ()))):RE (Fl Bool Unit))) fun k hk=>by
  have:=qdq.mp hk
  rw[qgz ns (by omega) (by omega)]
  simp only[RE.bind_ok]
  obtain⟨d,ed,hd⟩:=qfR hf hc (cv ns k)
  rw[ed]
  simp only[RE.bind_ok]
  have key:(∃o,qbs fl d=.ok o∧F.read_filling fl (eO eD d)=match o with
    |some f=>.ok f
    |none=>.exc 32 []):=by
   rcases hd with⟨t,rfl,ht⟩ | h
   ·have l:=ht.1
    exact⟨rdO fl t,qlT hf (by omega) ht.2,qmF hf (by omega)⟩
   ·exact⟨none,(qfo h).2,(qfo h).1⟩
  obtain⟨o,eo,hr⟩:=key
  rw[eo]
  simp only[RE.bind_ok]
  cases o with
  |none =>
   rw[qkP hr]
   simp only[RE.bind_ok,Option.isNone_none,Option.isSome_none,if_true,Bool.false_eq_true,if_false]
   rw[qdk (by decide +kernel)]
   rfl
  |some f =>
   rw[qfb hr]
   simp only[RE.bind_ok,Option.isNone_some,Option.isSome_some,if_true,Bool.false_eq_true,if_false]
   rw[Option.map_some,qdk (qfw f)]
   rfl
 simp only[RE.bind_ok] at lp
 rw[lp]
 simp only[qm0]
 rw[qfb (d:=some (eS (fiT fl fi))) (qjI hf hc)]
 simp only[RE.bind_ok]
 exact qdt (qfw fi)
theorem law_true:∀ns:List Int,ns.length≤63→(∀z∈ns,PySem.Builtin.Int.intBits z≤1048576)→∃b,g_law [.lst (ns.map D.int)]=.ok (.val (.bl true) b):=
 fun ns _ _=>qlD (qnU ns) (main ns)
end K05
set_option maxHeartbeats 0
namespace K05
open Cm PySem PySem.Spec PyProof.Rows L2
def FL:Nat→List Str:=fun c=>match c with
 |_=>[]
def GK (K:PySem.W.Frag):Glo:=⟨K,fun c=>match c with
 |32=>He.ga K "NoFilling"
 |_=>0,FL⟩
def qbO:Tb:={ N:=["_law_script","_law_k","_law_mixed"],fn:=[],gc:=[],mn:=[],fs:=[],nw:=[],ck:=[],xk:=[],dc:=[] }
theorem qgT:FnScope qbO.N ["_law_script","_law_k"] (defScope (top 17)):=⟨rfl,rfl,rfl,by decide +kernel,rfl,by decide +kernel,by decide +kernel⟩
theorem qgn:qaL qbO (defScope (top 17)) qbq (defBody (top 17))=true:=by decide +kernel
def qa1:Tb:={ N:=["_law_script","_law_high","_law_wide"],fn:=[("_law_at",2)],gc:=[],mn:=[],fs:=[],nw:=[],ck:=[],xk:=[],dc:=[] }
theorem qeg:FnScope qa1.N ["_law_script"] (defScope (top 18)):=⟨rfl,rfl,rfl,by decide +kernel,rfl,by decide +kernel,by decide +kernel⟩
theorem qdU:qaL qa1 (defScope (top 18)) qaM (defBody (top 18))=true:=by decide +kernel
def qaZ:Tb:={ N:=["_law_floor_here"],fn:=[],gc:=[],mn:=[],fs:=[],nw:=[],ck:=[],xk:=[],dc:=[] }
theorem qd3:FnScope qaZ.N ["_law_floor_here"] (defScope (top 19)):=⟨rfl,rfl,rfl,by decide +kernel,rfl,by decide +kernel,by decide +kernel⟩
theorem qed:qaL qaZ (defScope (top 19)) qaK (defBody (top 19))=true:=by decide +kernel
def qbh:Tb:={ N:=["_law_floor_here","_law_filling","_law_rows","_law_row","_law_sign"],fn:=[("_law_marks",1)],gc:=[],mn:=[],fs:=[],nw:=[],ck:=[],xk:=[],dc:=[] }
theorem qeG:FnScope qbh.N ["_law_floor_here","_law_filling"] (defScope (top 20)):=⟨rfl,rfl,rfl,by decide +kernel,rfl,by decide +kernel,by decide +kernel⟩
theorem qeX:qaL qbh (defScope (top 20)) qaS (defBody (top 20))=true:=by decide +kernel
def qaF:Tb:={ N:=["_law_floor_here","_law_text_here","_law_cell","_law_at_here","_law_mark","_law_way"],fn:=[],gc:=[],mn:=[],fs:=[],nw:=[],ck:=[],xk:=[],dc:=[] }
theorem qc5:FnScope qaF.N ["_law_floor_here","_law_text_here","_law_cell"] (defScope (top 21)):=⟨rfl,rfl,rfl,by decide +kernel,rfl,by decide +kernel,by decide +kernel⟩
theorem qc6:qaL qaF (defScope (top 21)) qaq (defBody (top 21))=true:=by decide +kernel
def qa8:Tb:={ N:=["_law_floor_here","_law_text_here","_law_filling","_law_spot","_law_k","_law_j"],fn:=[("_law_marks",1)],gc:=[],mn:=[],fs:=[],nw:=[],ck:=[],xk:=[],dc:=[] }
theorem qeP:FnScope qa8.N ["_law_floor_here","_law_text_here"] (defScope (top 22)):=⟨rfl,rfl,rfl,by decide +kernel,rfl,by decide +kernel,by decide +kernel⟩
theorem qe6:qaL qa8 (defScope (top 22)) qaU (defBody (top 22))=true:=by decide +kernel
def qaE:Tb:={ N:=["floor","text","rows","filling","row","mark"],fn:=[],gc:=["MARKS"],mn:=[],fs:=[],nw:=[],ck:=[],xk:=["NoFilling"],dc:=[] }
theorem qc7:FnScope qaE.N ["floor","text"] (defScope (top 15)):=⟨rfl,rfl,rfl,by decide +kernel,rfl,by decide +kernel,by decide +kernel⟩
theorem qc2:qaL qaE (defScope (top 15)) qas (defBody (top 15))=true:=by decide +kernel
def qbe:Tb:={ N:=["_law_floor_here","_law_text_here","_law_caught","_law_found","error","_law_others"],fn:=[("read_filling",2)],gc:=[],mn:=[],fs:=[],nw:=[],ck:=[("ClueError",true),("BadThought",true),("NoFloor",true),("NoMove",true),("NoName",true),("NoPuzzle",true),("NoRow",true),("NoRule",true),("NoText",true),("NotOne",true),("TooMany",true),("ValueError",false),("NoFilling",true)],xk:=[],dc:=[] }
theorem qex:FnScope qbe.N ["_law_floor_here","_law_text_here"] (defScope (top 23)):=⟨rfl,rfl,rfl,by decide +kernel,rfl,by decide +kernel,by decide +kernel⟩
theorem qeA:qaL qbe (defScope (top 23)) qaT (defBody (top 23))=true:=by decide +kernel
def qiD:Tb:={ N:=["_law_script","_law_floor_here","_law_many","_law_filling","_law_k","_law_text_here","_law_bent","_law_due"],fn:=[("_law_floor",1),("_law_at",2),("_law_text",2),("_law_spoiled",3),("_law_read",2),("_law_said",2)],gc:=[],mn:=[],fs:=[],nw:=[],ck:=[],xk:=[],dc:=[] }
theorem qnO:FnScope qiD.N ["_law_script"] (defScope (top 24)):=⟨rfl,rfl,rfl,by decide +kernel,rfl,by decide +kernel,by decide +kernel⟩
theorem qnL:qaL qiD (defScope (top 24)) qf7 (defBody (top 24))=true:=by decide +kernel
section
variable {P:Program} {w:World} {K:PySem.W.Frag} {h:Heap} {mg:Str→Option Value} {base:Heap}
section
variable (c:He.SaysD fa fn K) (cx:qmr xa K=true) (ct:qog ts w K) (X:K.In h) (N:h.Ns mainGlobals mg)
include c cx ct X N
theorem qg6:TabOk P w K mg base qbO qbU (GK K) 0:=
 qhG (mts:=[]) (fds:=[]) c X N trivial trivial rfl trivial rfl trivial trivial trivial trivial trivial
theorem qea:DefAt P w K mg base (GK K) 1 "_law_at" 2 g__law_at:=
 qi9 (G:=GK K) (T:=qbO) (Γ:=qbU) (k:=0) (m:=1) (i:=0) (j:=21) (ir:=qbq) (ps:=["_law_script","_law_k"]) (d:=qdQ) c X N rfl rfl rfl rfl rfl rfl qgT rfl qgn (fun _ _ _ _ _ _ us hl=>match us,hl with | [_,_],_=>rfl) (qg6 c cx ct X N)
theorem qd5:TabOk P w K mg base qa1 qa0 (GK K) 1:=
 qhG (mts:=[]) (fds:=[]) c X N ⟨(qea c cx ct X N).mono (by decide),trivial⟩ trivial rfl trivial rfl trivial trivial trivial trivial trivial
theorem qdR:DefAt P w K mg base (GK K) 2 "_law_floor" 1 g__law_floor:=
 qi9 (G:=GK K) (T:=qa1) (Γ:=qa0) (k:=1) (m:=2) (i:=1) (j:=22) (ir:=qaM) (ps:=["_law_script"]) (d:=qb9) c X N rfl rfl rfl rfl rfl rfl qeg rfl qdU (fun _ _ _ _ _ _ us hl=>match us,hl with | [_],_=>rfl) (qd5 c cx ct X N)
theorem qdV:TabOk P w K mg base qaZ qaY (GK K) 0:=
 qhG (mts:=[]) (fds:=[]) c X N trivial trivial rfl trivial rfl trivial trivial trivial trivial trivial
theorem qch:DefAt P w K mg base (GK K) 1 "_law_marks" 1 g__law_marks:=
 qi9 (G:=GK K) (T:=qaZ) (Γ:=qaY) (k:=0) (m:=0) (i:=2) (j:=23) (ir:=qaK) (ps:=["_law_floor_here"]) (d:=qcg) c X N rfl rfl rfl rfl rfl rfl qd3 rfl qed (fun _ _ _ _ _ _ us hl=>match us,hl with | [_],_=>rfl) (qdV c cx ct X N)
theorem qe5:TabOk P w K mg base qbh qbc (GK K) 1:=
 qhG (mts:=[]) (fds:=[]) c X N ⟨(qch c cx ct X N).mono (by decide),trivial⟩ trivial rfl trivial rfl trivial trivial trivial trivial trivial
theorem qeM:DefAt P w K mg base (GK K) 2 "_law_text" 2 g__law_text:=
 qi9 (G:=GK K) (T:=qbh) (Γ:=qbc) (k:=1) (m:=3) (i:=3) (j:=24) (ir:=qaS) (ps:=["_law_floor_here","_law_filling"]) (d:=qcS) c X N rfl rfl rfl rfl rfl rfl qeG rfl qeX (fun _ _ _ _ _ _ us hl=>match us,hl with | [_,_],_=>rfl) (qe5 c cx ct X N)
theorem qc3:TabOk P w K mg base qaF qaG (GK K) 0:=
 qhG (mts:=[]) (fds:=[]) c X N trivial trivial rfl trivial rfl trivial trivial trivial trivial trivial
theorem qdb:DefAt P w K mg base (GK K) 1 "_law_spoiled" 3 g__law_spoiled:=
 qi9 (G:=GK K) (T:=qaF) (Γ:=qaG) (k:=0) (m:=3) (i:=4) (j:=25) (ir:=qaq) (ps:=["_law_floor_here","_law_text_here","_law_cell"]) (d:=qbA) c X N rfl rfl rfl rfl rfl rfl qc5 rfl qc6 (fun _ _ _ _ _ _ us hl=>match us,hl with | [_,_,_],_=>rfl) (qc3 c cx ct X N)
theorem qeE:TabOk P w K mg base qa8 qbg (GK K) 1:=
 qhG (mts:=[]) (fds:=[]) c X N ⟨(qch c cx ct X N).mono (by decide),trivial⟩ trivial rfl trivial rfl trivial trivial trivial trivial trivial
theorem qeJ:DefAt P w K mg base (GK K) 2 "_law_read" 2 g__law_read:=
 qi9 (G:=GK K) (T:=qa8) (Γ:=qbg) (k:=1) (m:=4) (i:=5) (j:=26) (ir:=qaU) (ps:=["_law_floor_here","_law_text_here"]) (d:=qcW) c X N rfl rfl rfl rfl rfl rfl qeP rfl qe6 (fun _ _ _ _ _ _ us hl=>match us,hl with | [_,_],_=>rfl) (qeE c cx ct X N)
theorem qda:TabOk P w K mg base qaE qaJ (GK K) 0:=
 qhG (mts:=[]) (fds:=[]) c X N trivial ⟨qmJ (j:=29) c X N rfl,trivial⟩ rfl trivial rfl trivial trivial trivial ⟨rs1 (j:=27) (j2:=28) c X N rfl rfl rfl,trivial⟩ trivial
theorem qc8:DefAt P w K mg base (GK K) 1 "read_filling" 2 g_read_filling:=
 qi9 (G:=GK K) (T:=qaE) (Γ:=qaJ) (k:=0) (m:=4) (i:=6) (j:=30) (ir:=qas) (ps:=["floor","text"]) (d:=qbB) c X N rfl rfl rfl rfl rfl rfl qc7 rfl qc2 (fun _ _ _ _ _ _ us hl=>match us,hl with | [_,_],_=>rfl) (qda c cx ct X N)
theorem qe1:TabOk P w K mg base qbe qa7 (GK K) 1:=
 qhG (mts:=[]) (fds:=[]) c X N ⟨(qc8 c cx ct X N).mono (by decide),trivial⟩ trivial rfl trivial rfl trivial trivial ⟨qbi (j:=31) c X N rfl (qaz (j:=0) cx rfl rfl qa3) qa4,qbi (j:=32) c X N rfl (qaz (j:=1) cx rfl rfl qa3) qa4,qbi (j:=33) c X N rfl (qaz (j:=2) cx rfl rfl qa3) qa4,qbi (j:=34) c X N rfl (qaz (j:=3) cx rfl rfl qa3) qa4,qbi (j:=35) c X N rfl (qaz (j:=4) cx rfl rfl qa3) qa4,qbi (j:=36) c X N rfl (qaz (j:=5) cx rfl rfl qa3) qa4,qbi (j:=37) c X N rfl (qaz (j:=6) cx rfl rfl qa3) qa4,qbi (j:=38) c X N rfl (qaz (j:=7) cx rfl rfl qa3) qa4,qbi (j:=39) c X N rfl (qaz (j:=8) cx rfl rfl qa3) qa4,qbi (j:=40) c X N rfl (qaz (j:=9) cx rfl rfl qa3) qa4,qbi (j:=41) c X N rfl (qaz (j:=10) cx rfl rfl qa3) qa4,qm3 (qaz (j:=11) cx rfl rfl qa3) qa4,qbi (j:=27) c X N rfl (qaz (j:=12) cx rfl rfl qa3) qa4,trivial⟩ trivial trivial
theorem qeW:DefAt P w K mg base (GK K) 2 "_law_said" 2 g__law_said:=
 qi9 (G:=GK K) (T:=qbe) (Γ:=qa7) (k:=1) (m:=4) (i:=7) (j:=42) (ir:=qaT) (ps:=["_law_floor_here","_law_text_here"]) (d:=qcC) c X N rfl rfl rfl rfl rfl rfl qex rfl qeA (fun _ _ _ _ _ _ us hl=>match us,hl with | [_,_],_=>rfl) (qe1 c cx ct X N)
theorem qnC:TabOk P w K mg base qiD qh2 (GK K) 2:=
 qhG (mts:=[]) (fds:=[]) c X N ⟨(qdR c cx ct X N).mono (by decide),(qea c cx ct X N).mono (by decide),(qeM c cx ct X N).mono (by decide),(qdb c cx ct X N).mono (by decide),(qeJ c cx ct X N).mono (by decide),(qeW c cx ct X N).mono (by decide),trivial⟩ trivial rfl trivial rfl trivial trivial trivial trivial trivial
theorem o_law {fa0:Addr} (e:mg "law" = some (.ref fa0)):∃fd:FuncData,(∀(s:Shared) (u:Value),BindsTo s fd ⟨[u],[]⟩ [("_law_script",u)])∧∀base:Heap,K.In base→base.Ns mainGlobals mg→FnOk P w K mg base (L2.CX P w) 3 fa0 fd ["_law_script"] (spD (GK K) 1 g_law):=
 qo2 (G:=GK K) (T:=qiD) (Γ:=qh2) (k:=2) (m:=7) (i:=8) (j:=43) (ir:=qf7) (d:=ql1) c X N rfl rfl rfl rfl rfl rfl e qnO rfl qnL (fun _ _ _ _ _ _ us hl=>match us,hl with | [_],_=>rfl) (fun base _ _=>qnC c cx ct X N)
end
end
end K05
open PySem PySem.W PySem.Calls PyProof.Rows
theorem PySem.Challenge.cw_cluemaker_k05_fillings_refused_holds : PySem.Challenge.rw_cluemaker_k05_fillings_refused.Holds := by
  w_on; o_law
  refine HandSHeadRun.head_any (r := K05.R) (q := K05.vw) (H := Cm.hookL K05.as K05.fa K05.fn K05.xa K05.ts) (ob := Cm.obT K05.as K05.fa K05.fn K05.xa K05.ts) (M := 2899) (loose := K05.loose) (d := HandSHeadRun.topDef K05.R.prog 24) (kwd := []) Cm.obT_eq
    (by kernel_rfl) (fun s => by kernel_rfl) K05.run (by kernel_rfl) (by kernel_rfl) (by kernel_rfl) (by rfl) (by first | assumption | decide +kernel) (by decide +kernel) ⟨rfl, rfl, rfl, rfl, rfl, by decide +kernel⟩ ?hw ?hc
  case hw => w_witness2
  case hc =>
    refine LamX.walk_ofTsE (l := PySem.Challenge.rw_cluemaker_k05_fillings_refused) (n := 63) (k := 3) (x := "_law_script") (CX := fun w => L2.CX PySem.Challenge.rw_cluemaker_k05_fillings_refused.prog w) rfl (by decide) (by kernel_rfl) ⟨rfl, by decide, by decide⟩ ?F (fun w => Cm.cx_end)
    intro w mg fa0 h Y N hmg0
    obtain ⟨K, KX, c, cx, ct⟩ := Y
    have hmg : mg ("law" : PySem.Str) = some (.ref fa0) := by
      have e : (HandSHeadRun.topDef K05.R.prog 24).name = ("law" : PySem.Str) := by kernel_rfl
      rw [← e]
      exact hmg0
    exact ⟨K, KX, Cm.law_at (G := K05.GK K) (g := K05.g_law) rfl (K05.o_law c cx ct KX N hmg) K05.law_true⟩
