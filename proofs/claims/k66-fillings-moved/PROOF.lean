import PyProof.Rows.All
import HandS.Head0
import HandS.Head1
import HandS.Head2
import HandS.HeadEnd
import HandS.HeadHook1
import HandS.HeadHook2
import HandS.HeadHook3
import HandS.HeadWalk
import Wide.All
import OpenK.AllK
import Wide.FinOn
import HandS.ForMost
import HandS.Exc
import HandS.TryOnly
import HandS.ExcOwn
import HandS.WordsExc
import HandS.Deep
import HandS.IsInst
import HandS.SortInts
import HandS.Walk
import HandS.Flow
import HandS.Style
import HandS.Conv
import HandS.Defaults
import HandS.WideBits
import HandS.ExcIs
import HandS.ExcValue
import HandS.SetFor
import HandS.RevRange
import HandS.Replace
import HandS.SortKw
import KE.DataMinMax
import KE.LtSeq
import KE.KSortAsk
import HandS.SortRule
import HandS.Strs
import PyProof.FactsAll.tuple_0
import PyProof.FactsAll.tuple_2
import HandS.RevTup
import PyProof.ListNew
import HandS.Dict
import HandS.Codes
import PySem.Challenge.RW_cluemaker_k66_fillings_moved
set_option Elab.async false
set_option linter.all false
set_option maxRecDepth 100000
set_option maxHeartbeats 1000000
namespace Cm
open PySem PySem.Spec PyProof.Rows L2 PySem.W
def bltNames:List Str:=["len","abs","min","max","sum","sorted","all","any","list","int","str","bool","tuple","isinstance","range","zip","enumerate","reversed","set","divmod","ValueError"]
inductive Xa where
 |ck (x:Str) (own:Bool) (d:Str) (b:Bool)
 |ik (x:Str) (own:Bool) (d:Str) (b:Bool)
 |mk0 (x:Str)
 |tup (x:Str) (zs:List Str)
 |dno (x z:Str)
 |dtu (x z:Str) (zs:List Str)
def qsh:Value→Option Str
 |.str z _=>some z
 |_=>none
def qjn (K:PySem.W.Frag) (u:Option (Option Value)) (zs:List Str):Bool:=match u with
 |some (some (.ref a))=>match K.lookup a with
  |some ⟨cls,dct,.seq its _,_⟩=>decide (cls=.type "tuple")&&decide (its.size≤1000)&&decide (its.toList.map qsh=zs.map some)&&dct.isNone
  |_=>false
 |_=>false
def cv (K:PySem.W.Frag) (x:Str) (own:Bool):Value:=match own with
 |true=>.ref (He.ga K x)
 |false=>.type "ValueError"
def Xa.ok (K:PySem.W.Frag):Xa→Bool
 |.ck x own d b=>decide (PySem.W.kitOne K (.ref (He.ga K d)) (cv K x own)=some b)&&(decide (PySem.W.exmOne K (.ref (He.ga K d)) (cv K x own)=some b) &&
  (He.eqO (PySem.W.findIn K (.ref (He.ga K d)) "__getattribute__") (some (some (.builtin "BaseException.__getattribute__")))&&(He.eqO (PySem.W.findIn K (.ref (He.ga K d)) "__getattr__") (some none) &&
  (decide (PySem.W.subIn K (.ref (He.ga K d)) (.type "BaseException")=some true)&&(PySem.W.hasDictIn K (He.ga K d)&&(He.eqO (PySem.W.findIn K (.ref (He.ga K d)) "__class__") (some (some (.builtin "object.__class__"))) &&
  (He.eqO (PySem.W.specialIn K (.builtin "object.__class__") "__get__") (some (some (.builtin "getset_descriptor.__get__")))&&(decide (PySem.W.takesIn K (.builtin "object.__class__")=some true)&&decide (PySem.W.mroIn K (He.ga K d) (.type "object")=some true)))))))))
 |.ik x own d b=>decide (PySem.W.kitOne K (.ref (He.ga K d)) (cv K x own)=some b)&&((He.Fa.cls d).ok K&&(He.eqO (PySem.W.findIn K (.ref (He.ga K d)) "__class__") (some (some (.builtin "object.__class__"))) &&
  (He.eqO (PySem.W.specialIn K (.builtin "object.__class__") "__get__") (some (some (.builtin "getset_descriptor.__get__")))&&(decide (PySem.W.takesIn K (.builtin "object.__class__")=some true)&&decide (PySem.W.mroIn K (He.ga K d) (.type "object")=some true)))))
 |.mk0 x=>PySem.W.makesIn K (He.ga K x)&&(He.eqO (PySem.W.findIn K (.ref (He.ga K x)) "__init__") (some (some (.builtin "object.__init__")))&&PySem.W.keepIn K (.ref (He.ga K x)))
 |.tup x zs=>qjn K (PySem.W.nsIn K mainGlobals x) zs
 |.dno x z=>He.eqO (PySem.W.nsIn K (He.ga K x) z) (some none)
 |.dtu x z zs=>qjn K (PySem.W.nsIn K (He.ga K x) z) zs
def qpd (xa:List Xa) (K:PySem.W.Frag):Bool:=xa.all (Xa.ok K)
def qr4 (ts:List (Str × List Str)) (w:World) (K:PySem.W.Frag):Prop:=(ts.map fun t=>He.dicW K (He.ga K t.1))=ts.map fun t=>some (He.keysIn w.params t.2)
theorem qsE {r:PySem.W.OpenRow} {q:Program} {H:PySem.W.Hook} {ob:PySem.W.SharedT→H.α} {M:Nat} {loose:List Str} {w:World}
  (a:∀os:OsState,(HandSHeadRun.endF (HandSHeadRun.stepQ (HandSHeadRun.denQ HandSHeadRun.tabQ) r.prog w) M r.prog w os).map (fun s=>HandSHeadRun.looksF r.prog (boot_heap w.params) s.abs)=some true)
  (b:∀os:OsState,(HandSHeadRun.endF (HandSHeadRun.stepQ (HandSHeadRun.denQ HandSHeadRun.tabQ) r.prog w) M r.prog w os).map (fun s=>HandSHeadRun.seenQ q loose (PySem.importedModules r.prog.main.body) (fun s=>PySem.W.xlAt q [] s&&PySem.W.recOk r.toRowW.records s) s.abs)=some (PySem.W.openGood q loose))
  (c:∀os:OsState,(HandSHeadRun.endF (HandSHeadRun.stepQ (HandSHeadRun.denQ HandSHeadRun.tabQ) r.prog w) M r.prog w os).map ob=some (H.val w)):HandSHeadRun.RunEq r q H ob M loose w:=by
 intro os
 have a:=a os
 have b:=b os
 have c:=c os
 cases e:HandSHeadRun.endF (HandSHeadRun.stepQ (HandSHeadRun.denQ HandSHeadRun.tabQ) r.prog w) M r.prog w os with
 |none=>rw[e] at a;cases a
 |some s =>
  rw[e] at a b c
  simp only[Option.map_some,Option.some.injEq] at a b c ⊢
  rw[a,b,c]
abbrev AlL:Type:=(He.AlD × Bool) × List (Option (List (Option (Str × Int))))
def obL (as:List Addr) (fa:List He.Fa) (fn:List He.DefD) (xa:List Xa) (ts:List (Str × List Str)) (g:Addr→Option Obj):AlL:=((He.obsD fa fn (He.frG g as),qpd xa (He.frG g as)),ts.map fun(t:Str × List Str)=>He.dicW (He.frG g as) (He.ga (He.frG g as) t.1))
def hookL (as:List Addr) (fa:List He.Fa) (fn:List He.DefD) (xa:List Xa) (ts:List (Str × List Str)):PySem.W.Hook where
 α:=AlL
 obs:=fun s=>obL as fa fn xa ts s.heap.get?
 val:=fun w=>((He.valD fn,true),ts.map fun(t:Str × List Str)=>some (He.keysIn w.params t.2))
 says:=fun w h=>∃K:PySem.W.Frag,K.In h∧He.SaysD fa fn K∧qpd xa K=true∧qr4 ts w K
 of:=fun _ _ e=>⟨_,He.frG_in,congrArg (fun z:AlL=>z.1.1) e,congrArg (fun z:AlL=>z.1.2) e,congrArg (fun z:AlL=>z.2) e⟩
 keeps:=fun _ _ _ ⟨K,kin,says⟩ st=>⟨K,PySem.W.Frag.In.keeps kin st,says⟩
def obT (as:List Addr) (fa:List He.Fa) (fn:List He.DefD) (xa:List Xa) (ts:List (Str × List Str)) (s:PySem.W.SharedT):AlL:=obL as fa fn xa ts (HandSHeadRun.getT s)
theorem obT_eq {as:List Addr} {fa:List He.Fa} {fn:List He.DefD} {xa:List Xa} {ts:List (Str × List Str)} (s:PySem.W.SharedT):obT as fa fn xa ts s=(hookL as fa fn xa ts).obs s.abs:=by
 have:HandSHeadRun.getT s=s.abs.heap.get?:=funext fun a=>HandSHeadRun.getT_eq s a
 show obL as fa fn xa ts (HandSHeadRun.getT s)=obL as fa fn xa ts s.abs.heap.get?
 rw[this]
end Cm
set_option maxHeartbeats 0
namespace K66
open Cm PySem PySem.Spec PyProof.Rows L2
def top (i:Nat):Stmt:=PySem.Challenge.pw_cluemaker_k66_fillings_moved.main.body.getD i (.Pass ⟨0,0,0,0⟩)
def sub (i j:Nat):Stmt:=match top i with
 |.ClassDef _ _ _ body _ _ _ _ _ _ _=>body.getD j (.Pass ⟨0,0,0,0⟩)
 |_=>.Pass ⟨0,0,0,0⟩
def mkF (n:Str) (e:Stmt):He.DefD:=⟨(n,none),n,n,defArgs e,defBody e,defScope e,[],[]⟩
def mkD (n:Str × Option Str) (a b:Str) (e:Stmt):He.DefD:=⟨n,a,b,defArgs e,defBody e,defScope e,[],[]⟩
def qgm:He.DefD:=mkF "_law_at" (top 18)
def qdo:He.DefD:=mkF "_law_floor" (top 20)
def qb2:He.DefD:=mkF "_law_exchange" (top 23)
def qdj:He.DefD:=mkF "_law_whole" (top 19)
def qeG:He.DefD:=mkF "_law_are" (top 27)
def qel:He.DefD:=mkF "all_signs" (top 14)
def qeC:He.DefD:=mkF "signs_by" (top 15)
def qcu:He.DefD:=mkF "look_at_move" (top 10)
def qdl:He.DefD:=mkF "many_cells" (top 7)
def qfM:He.DefD:=mkF "spot_of" (top 8)
def qcG:He.DefD:=mkF "turned_spot" (top 11)
def qcL:He.DefD:=mkF "moved_cells" (top 13)
def qbw:He.DefD:=⟨("moved_filling",none),"moved_filling","moved_filling",defArgs (top 16),defBody (top 16),defScope (top 16),[.non],[]⟩
def qdU:He.DefD:=mkF "_law_spot" (top 21)
def qeS:He.DefD:=mkF "_law_due" (top 26)
def qcK:He.DefD:=mkF "moved_floor" (top 12)
def qcw:He.DefD:=mkF "_law_refused" (top 25)
def qca:He.DefD:=mkF "_law_bad_list" (top 24)
def qpk:He.DefD:=mkF "law" (top 28)
def fnA:List He.DefD:=[qgm,qdo,qb2,qdj,qeG,qel,qeC,qcu,qdl,qfM]
def fnB:List He.DefD:=[qcG,qcL,qbw,qdU,qeS,qcK,qcw,qca,qpk]
def fn:List He.DefD:=fnA++fnB
def fa0:List He.Fa:=[.glo "_law_at",.glo "_law_floor",.glo "_law_exchange",.glo "_law_whole",.glo "_law_are",.glo "all_signs",.glo "NoMove",.exc "NoMove",.glo "signs_by",.glo "look_at_move",.glo "many_cells",.glo "spot_of",.glo "turned_spot",.glo "moved_cells",.glo "moved_filling",.glo "_law_spot",.glo "_law_due",.glo "moved_floor",.glo "ClueError",.glo "NoFilling",.glo "NoPuzzle",.glo "TooMany",.glo "_law_refused",.glo "_law_bad_list",.glo "law"]
abbrev fa:List He.Fa:=bltNames.map He.Fa.free++fa0
def xa:List Xa:=[.ck "ClueError" true "NoMove" true,.ck "NoFilling" true "NoMove" false,.ck "NoPuzzle" true "NoMove" false,.ck "TooMany" true "NoMove" false,.ck "NoMove" true "NoMove" true,.ck "ValueError" false "NoMove" true]
def ts:List (Str × List Str):=[]
abbrev R:PySem.W.OpenRow:=PySem.W.OpenLaw.row PySem.Challenge.rw_cluemaker_k66_fillings_moved
def as:List Addr:=([3,24,23,37,36,49,48,61,60,73,72,132,144,143,158,157,179,178,151,150,205,204,124,123,131,130,96,95,82,81]:List Addr)++([89,88,103,102,117,116,137,136,165,164,200,199,110,109,193,192,186,185,210,209]:List Addr)
def loose:List Str:=(["ClueError","NoFilling","NoPuzzle","TooMany","NoMove","many_cells","spot_of","look_at_move","turned_spot","moved_floor","moved_cells","all_signs","signs_by","moved_filling","_law_at","_law_whole","_law_floor","_law_spot","_law_ground","_law_exchange","_law_bad_list","_law_refused","_law_due","_law_are"]:List Str)
abbrev vw:Program:=PySem.W.view R.prog [28]
theorem rA (w:World):∀os:OsState,(HandSHeadRun.endF (HandSHeadRun.stepQ (HandSHeadRun.denQ HandSHeadRun.tabQ) R.prog w) 1715 R.prog w os).map (fun s=>HandSHeadRun.looksF R.prog (PySem.W.boot_heap w.params) s.abs)=some true:=by
 intro os
 kernel_rfl
theorem rB (w:World):∀os:OsState,(HandSHeadRun.endF (HandSHeadRun.stepQ (HandSHeadRun.denQ HandSHeadRun.tabQ) R.prog w) 1715 R.prog w os).map (fun s=>HandSHeadRun.seenQ vw loose (PySem.importedModules R.prog.main.body) (fun s=>PySem.W.xlAt vw [] s&&PySem.W.recOk R.toRowW.records s) s.abs)=some (PySem.W.openGood vw loose):=by
 intro os
 kernel_rfl
theorem rC (w:World):∀os:OsState,(HandSHeadRun.endF (HandSHeadRun.stepQ (HandSHeadRun.denQ HandSHeadRun.tabQ) R.prog w) 1715 R.prog w os).map (obT as fa fn xa ts)=some ((hookL as fa fn xa ts).val w):=by
 intro os
 kernel_rfl
theorem run (w:World):HandSHeadRun.RunEq R vw (hookL as fa fn xa ts) (obT as fa fn xa ts) 1715 loose w:=qsE (rA w) (rB w) (rC w)
end K66
namespace Cm
open PySem PySem.Spec PyProof.Rows L2
inductive D where
 |non | bl (b:Bool) | int (i:Int) | str (s:List Nat)
 |lst (xs:List D) | tup (xs:List D)
 |ins (c:Nat) (fs:List D) | exc (c:Nat) (fs:List D)
mutual
@[simp] def D.flat:D→Bool
 |.lst _=>false
 |.tup xs=>D.flats xs
 |.exc _ fs=>D.flats fs
 |.non=>true
 |.bl _=>true
 |.int _=>true
 |.str _=>true
 |.ins _ _=>true
@[simp] def D.flats:List D→Bool
 |[]=>true
 |d::ds=>d.flat&&D.flats ds
end
mutual
def D.fit:D→Nat→Bool
 |.non,_=>true
 |.bl _,_=>true
 |.int _,_=>true
 |.str s,_=>PyData.strOk ⟨s.toArray⟩
 |.lst xs,n=>decide (0<n)&&D.fits xs (n - 1)
 |.tup xs,n=>decide (0<n)&&D.fits xs (n - 1)
 |.ins _ _,_=>false
 |.exc _ _,_=>false
def D.fits:List D→Nat→Bool
 |[],_=>true
 |d::ds,n=>d.fit n&&D.fits ds n
end
mutual
def D.py:D→PyData
 |.non=>.none
 |.bl b=>.bool b
 |.int i=>.int i
 |.str s=>.str ⟨s.toArray⟩
 |.lst xs=>.list (D.pys xs)
 |.tup xs=>.tuple (D.pys xs)
 |.ins _ _=>.none
 |.exc _ _=>.none
def D.pys:List D→List PyData
 |[]=>[]
 |d::ds=>d.py::D.pys ds
end
mutual
def D.eqb:D→D→Bool
 |.non,y=>match y with
  |.non=>true
  |_=>false
 |.bl a,y=>match y with
  |.bl b=>a == b
  |.int j=>decide ((if a then 1 else 0)=j)
  |_=>false
 |.int i,y=>match y with
  |.bl b=>decide (i=(if b then 1 else 0))
  |.int j=>decide (i=j)
  |_=>false
 |.str x,y=>match y with
  |.str z=>decide (x=z)
  |_=>false
 |.lst xs,y=>match y with
  |.lst ys=>D.eqbs xs ys
  |_=>false
 |.tup xs,y=>match y with
  |.tup ys=>D.eqbs xs ys
  |_=>false
 |.ins _ _,_=>false
 |.exc _ _,_=>false
def D.eqbs:List D→List D→Bool
 |[],ys=>match ys with
  |[]=>true
  |_=>false
 |x::xs,ys=>match ys with
  |[]=>false
  |y::ys=>D.eqb x y&&D.eqbs xs ys
end
mutual
theorem D.canLay:∀(d:D) (n:Nat),d.fit n=true→d.py.canLay0=true∧d.py.depth≤n
 |.non,n,_=>⟨by simp[D.py,PyData.canLay0],by simp[D.py,PyData.depth]⟩
 |.bl _,n,_=>⟨by simp[D.py,PyData.canLay0],by simp[D.py,PyData.depth]⟩
 |.int _,n,_=>⟨by simp[D.py,PyData.canLay0],by simp[D.py,PyData.depth]⟩
 |.str s,n,h=>⟨by simpa[D.py,PyData.canLay0,D.fit] using h,by simp[D.py,PyData.depth]⟩
 |.lst xs,n,h=>by
  simp only[D.fit,Bool.and_eq_true,decide_eq_true_eq] at h
  obtain⟨h1,h2⟩:=D.canLays xs (n - 1) h.2
  refine⟨by simpa[D.py,PyData.canLay0] using h1,?_⟩
  simp only[D.py,PyData.depth]
  omega
 |.tup xs,n,h=>by
  simp only[D.fit,Bool.and_eq_true,decide_eq_true_eq] at h
  obtain⟨h1,h2⟩:=D.canLays xs (n - 1) h.2
  refine⟨by simpa[D.py,PyData.canLay0] using h1,?_⟩
  simp only[D.py,PyData.depth]
  omega
 |.ins _ _,_,h=>by simp[D.fit] at h
 |.exc _ _,_,h=>by simp[D.fit] at h
theorem D.canLays:∀(ds:List D) (n:Nat),D.fits ds n=true→PyData.canLayAll0 (D.pys ds)=true∧PyData.depthAll (D.pys ds)≤n
 |[],n,_=>⟨by simp[D.pys,PyData.canLayAll0],by simp[D.pys,PyData.depthAll]⟩
 |d::ds,n,h=>by
  simp only[D.fits,Bool.and_eq_true] at h
  obtain⟨h1,h2⟩:=D.canLay d n h.1
  obtain⟨h3,h4⟩:=D.canLays ds n h.2
  refine⟨by simp[D.pys,PyData.canLayAll0,h1,h3],?_⟩
  simp only[D.pys,PyData.depthAll]
  omega
end
theorem D.shaped {d:D} (h:d.fit 64=true):SeqAt.shaped d.py=true:=by
 obtain⟨h1,h2⟩:=D.canLay d 64 h
 simp[SeqAt.shaped,h1,h2]
theorem qdL {x z:List Nat}:(x.toArray=z.toArray)↔x=z:=by
 constructor
 ·intro h
  have:=congrArg Array.toList h
  simpa using this
 ·rintro rfl;rfl
mutual
theorem D.eqv_py:∀(a b:D) (n m:Nat),a.fit n=true→b.fit m=true→PyData.eqv a.py b.py=a.eqb b
 |.non,b,_,_,_,hb=>by cases b<;>simp[D.py,D.eqb,PyData.eqv,D.fit] at *
 |.bl x,b,_,_,_,hb=>by
  cases b<;>simp[D.py,D.eqb,PyData.eqv,D.fit] at *
  cases x<;>simp[Bool.beq_eq_decide_eq]<;>rfl
 |.int x,b,_,_,_,hb=>by
  cases b<;>simp[D.py,D.eqb,PyData.eqv,D.fit] at *
  ·rename_i y;cases y<;>simp[Bool.beq_eq_decide_eq]<;>rfl
  ·rfl
 |.str x,b,_,_,_,hb=>by
  cases b<;>simp[D.py,D.eqb,PyData.eqv,D.fit] at *
  rename_i z
  by_cases e:x=z
  ·subst e;simp
  ·rw[decide_eq_false e]
   refine beq_eq_false_iff_ne.mpr fun q=>e ?_
   injection q with q
   exact qdL.mp q
 |.lst xs,b,n,m,ha,hb=>by
  cases b with
  |lst ys =>
   simp only[D.fit,Bool.and_eq_true,decide_eq_true_eq] at ha hb
   simp only[D.py,D.eqb,PyData.eqv]
   exact D.eqv_pys xs ys _ _ ha.2 hb.2
  |_=>simp[D.py,D.eqb,PyData.eqv,D.fit] at *
 |.tup xs,b,n,m,ha,hb=>by
  cases b with
  |tup ys =>
   simp only[D.fit,Bool.and_eq_true,decide_eq_true_eq] at ha hb
   simp only[D.py,D.eqb,PyData.eqv]
   exact D.eqv_pys xs ys _ _ ha.2 hb.2
  |_=>simp[D.py,D.eqb,PyData.eqv,D.fit] at *
 |.ins _ _,_,_,_,h,_=>by simp[D.fit] at h
 |.exc _ _,_,_,_,h,_=>by simp[D.fit] at h
theorem D.eqv_pys:∀(xs ys:List D) (n m:Nat),D.fits xs n=true→D.fits ys m=true→PyData.eqvAll (D.pys xs) (D.pys ys)=D.eqbs xs ys
 |[],ys,_,_,_,_=>by cases ys<;>simp[D.pys,D.eqbs,PyData.eqvAll]
 |x::xs,ys,n,m,ha,hb=>by
  cases ys with
  |nil=>simp[D.pys,D.eqbs,PyData.eqvAll]
  |cons y ys =>
   simp only[D.fits,Bool.and_eq_true] at ha hb
   simp only[D.pys,D.eqbs,PyData.eqvAll]
   rw[D.eqv_py x y n m ha.1 hb.1,D.eqv_pys xs ys n m ha.2 hb.2]
end
structure Glo where
 K:PySem.W.Frag
 ca:Nat→Addr
 fl:Nat→List Str
def exK (cls:Value) (a:Addr):HO:=.ext fun h=>∃(oe:Obj) (vs:Array Value),h.get? a=some oe∧Zc cls none oe∧oe.data=.fields vs
theorem qpt {P:Program} {w:World} {H:Hp} {h:Heap} {a:Addr} {cls:Value} {oe:Obj} {vs:Array Value} (e:h.get? a=some oe) (z:Zc cls none oe) (d:oe.data=.fields vs):ObjOk P w H h a (exK cls a):=
 ⟨⟨oe,vs,e,z,d⟩,⟨oe,e⟩,fun _ _ ⟨o,v,q,r⟩ k=>⟨o,v,k o q,r⟩⟩
mutual
def Rep (G:Glo) (P:Hp) (LN:Addr→List V→Prop):D→V→Prop
 |.non,v=>v=.non
 |.bl b,v=>v=.bl b
 |.int i,v=>v=.int i
 |.str s,v=>v=.str ⟨s.toArray⟩
 |.lst ds,v=>∃a xs,v=.ref a∧LN a xs∧Reps G P LN ds xs
 |.tup ds,v=>∃a xs,v=.ref a∧SqT G.K P a xs∧Reps G P LN ds xs
 |.ins c ds,v=>∃a dx xs,v=.ref a∧P a=some (.ins (G.ca c) dx ((G.fl c).zip xs))∧(G.fl c).length=ds.length∧Reps G P (SqL G.K P) ds xs
 |.exc c fs,v=>fs=[]∧∃a,v=.ref a∧P a=some (exK (.ref (G.ca c)) a)
def Reps (G:Glo) (P:Hp) (LN:Addr→List V→Prop):List D→List V→Prop
 |[],vs=>vs=[]
 |d::ds,vs=>∃v r,vs=v::r∧Rep G P LN d v∧Reps G P LN ds r
end
theorem Same.seqT {K:PySem.W.Frag} {H H':Hp} {a:Addr} {xs:List V} (e:Same H H') (h:SqT K H a xs):SqT K H' a xs:=by
 rcases h with(h | ⟨o,h⟩) | h
 ·exact .inl (.inl (e _ _ h))
 ·exact .inl (.inr ⟨o,e _ _ h⟩)
 ·exact .inr h
section
variable {G:Glo} {P P':Hp} {LN LN':Addr→List V→Prop}
mutual
theorem Rep.mono (hp:Same P P'):∀(d:D) (v:V) {LN LN':Addr→List V→Prop} (_:∀a xs,LN a xs→LN' a xs),Rep G P LN d v→Rep G P' LN' d v
 |.non,_,_,_,_,h=>h
 |.bl _,_,_,_,_,h=>h
 |.int _,_,_,_,_,h=>h
 |.str _,_,_,_,_,h=>h
 |.lst ds,v,_,_,hl,⟨a,xs,e,h1,h2⟩=>⟨a,xs,e,hl _ _ h1,Reps.mono hp ds xs hl h2⟩
 |.tup ds,v,_,_,hl,⟨a,xs,e,h1,h2⟩=>⟨a,xs,e,Same.seqT hp h1,Reps.mono hp ds xs hl h2⟩
 |.ins c ds,v,_,_,hl,⟨a,dx,xs,e,h1,h2,h3⟩=>⟨a,dx,xs,e,hp _ _ h1,h2,Reps.mono hp ds xs (fun _ _ q=>L2.Same.seq hp q) h3⟩
 |.exc _ _,_,_,_,_,⟨e,a,h1,h2⟩=>⟨e,a,h1,hp _ _ h2⟩
theorem Reps.mono (hp:Same P P'):∀(ds:List D) (vs:List V) {LN LN':Addr→List V→Prop} (_:∀a xs,LN a xs→LN' a xs),Reps G P LN ds vs→Reps G P' LN' ds vs
 |[],_,_,_,_,h=>h
 |d::ds,vs,_,_,hl,⟨v,r,e,h1,h2⟩=>⟨v,r,e,Rep.mono hp d v hl h1,Reps.mono hp ds r hl h2⟩
end
mutual
theorem Rep.flat:∀(d:D) (v:V),d.flat=true→Rep G P LN d v→Rep G P LN' d v
 |.non,_,_,h=>h
 |.bl _,_,_,h=>h
 |.int _,_,_,h=>h
 |.str _,_,_,h=>h
 |.lst ds,v,f,_=>by simp[D.flat] at f
 |.tup ds,v,f,⟨a,xs,e,h1,h2⟩=>⟨a,xs,e,h1,Reps.flat ds xs (by simpa[D.flat] using f) h2⟩
 |.ins c ds,v,_,h=>h
 |.exc _ _,_,_,h=>h
theorem Reps.flat:∀(ds:List D) (vs:List V),D.flats ds=true→Reps G P LN ds vs→Reps G P LN' ds vs
 |[],_,_,h=>h
 |d::ds,vs,f,⟨v,r,e,h1,h2⟩=>by
  simp only[D.flats,Bool.and_eq_true] at f
  exact⟨v,r,e,Rep.flat d v f.1 h1,Reps.flat ds r f.2 h2⟩
end
theorem Reps.length:∀{ds:List D} {vs:List V},Reps G P LN ds vs→vs.length=ds.length
 |[],_,h=>by cases h;rfl
 |d::ds,vs,⟨v,r,e,h1,h2⟩=>by subst e;simp[Reps.length h2]
theorem Reps.get:∀{ds:List D} {vs:List V} {i:Nat} {d:D},Reps G P LN ds vs→ds[i]? = some d→∃v,vs[i]? = some v∧Rep G P LN d v
 |[],_,_,_,_,h=>by simp at h
 |d::ds,vs,0,_,⟨v,r,e,h1,h2⟩,h=>by subst e;simp at h;subst h;exact⟨v,rfl,h1⟩
 |d::ds,vs,i+1,_,⟨v,r,e,h1,h2⟩,h=>by subst e;simp at h;obtain⟨w,q1,q2⟩:=Reps.get h2 h;exact⟨w,by simpa using q1,q2⟩
theorem Reps.append:∀{ds es:List D} {vs us:List V},Reps G P LN ds vs→Reps G P LN es us→Reps G P LN (ds++es) (vs++us)
 |[],_,_,_,h,q=>by cases h;exact q
 |d::ds,es,vs,us,⟨v,r,e,h1,h2⟩,q=>by subst e;exact⟨v,r++us,rfl,h1,Reps.append h2 q⟩
theorem Reps.take:∀{ds:List D} {vs:List V} (n:Nat),Reps G P LN ds vs→Reps G P LN (ds.take n) (vs.take n)
 |[],_,_,h=>by cases h;simp[Reps]
 |d::ds,vs,0,_=>by simp[Reps]
 |d::ds,vs,n+1,⟨v,r,e,h1,h2⟩=>by subst e;exact⟨v,r.take n,rfl,h1,Reps.take n h2⟩
theorem Reps.drop:∀{ds:List D} {vs:List V} (n:Nat),Reps G P LN ds vs→Reps G P LN (ds.drop n) (vs.drop n)
 |[],_,_,h=>by cases h;simp[Reps]
 |d::ds,vs,0,h=>h
 |d::ds,vs,n+1,⟨v,r,e,h1,h2⟩=>by subst e;exact Reps.drop n h2
theorem Reps.set {x:D} {u:V} (hx:Rep G P LN x u):∀{ds:List D} {vs:List V} (n:Nat),Reps G P LN ds vs→Reps G P LN (ds.set n x) (vs.set n u)
 |[],_,_,h=>by cases h;simp[Reps]
 |d::ds,vs,0,⟨v,r,e,h1,h2⟩=>by subst e;exact⟨u,r,rfl,hx,h2⟩
 |d::ds,vs,n+1,⟨v,r,e,h1,h2⟩=>by subst e;exact⟨v,r.set n u,rfl,h1,Reps.set hx n h2⟩
theorem Reps.eraseIdx:∀{ds:List D} {vs:List V} (n:Nat),Reps G P LN ds vs→Reps G P LN (ds.eraseIdx n) (vs.eraseIdx n)
 |[],_,_,h=>by cases h;simp[Reps]
 |d::ds,vs,0,⟨v,r,e,h1,h2⟩=>by subst e;exact h2
 |d::ds,vs,n+1,⟨v,r,e,h1,h2⟩=>by subst e;exact⟨v,r.eraseIdx n,rfl,h1,Reps.eraseIdx n h2⟩
theorem Reps.one {d:D} {v:V} (h:Rep G P LN d v):Reps G P LN [d] [v]:=⟨v,[],rfl,h,rfl⟩
theorem Reps.ints:∀{ns:List Int} {vs:List V},Reps G P LN (ns.map D.int) vs↔vs=ns.map V.int
 |[],vs=>Iff.rfl
 |n::ns,vs=>by
  constructor
  ·rintro⟨v,r,e,h1,h2⟩
   rw[e,h1,Reps.ints.mp h2];rfl
  ·intro e
   exact⟨_,_,e,rfl,Reps.ints.mpr rfl⟩
theorem Reps.reverse:∀{ds:List D} {vs:List V},Reps G P LN ds vs→Reps G P LN ds.reverse vs.reverse
 |[],_,h=>by cases h;exact rfl
 |d::ds,vs,⟨v,r,e,h1,h2⟩=>by
  subst e
  simp only[List.reverse_cons]
  exact(Reps.reverse h2).append (Reps.one h1)
theorem Reps.replicate {d:D} {v:V} (h:Rep G P LN d v):∀n,Reps G P LN (List.replicate n d) (List.replicate n v)
 |0=>rfl
 |n+1=>⟨v,_,rfl,h,Reps.replicate h n⟩
mutual
theorem Rep.dp {H:Hp} (hp:Same P H) (hl:∀a xs,LN a xs→SqL G.K H a xs):∀(d:D) (v:V) (n:Nat),d.fit n=true→Rep G P LN d v→Dp G.K H v d.py
 |.non,_,_,_,h=>by cases h;exact .non
 |.bl b,_,_,_,h=>by cases h;exact .bl b
 |.int i,_,_,_,h=>by cases h;exact .int i
 |.str s,_,_,_,h=>by cases h;exact .str _
 |.lst ds,v,n,f,⟨a,xs,e,h1,h2⟩=>by
  subst e
  simp only[D.fit,Bool.and_eq_true] at f
  exact .lst (hl _ _ h1) (Reps.dp hp hl ds xs _ f.2 h2)
 |.tup ds,v,n,f,⟨a,xs,e,h1,h2⟩=>by
  subst e
  simp only[D.fit,Bool.and_eq_true] at f
  exact .tup (Same.seqT hp h1) (Reps.dp hp hl ds xs _ f.2 h2)
 |.ins c ds,v,_,f,_=>by simp[D.fit] at f
 |.exc _ _,_,_,f,_=>by simp[D.fit] at f
theorem Reps.dp {H:Hp} (hp:Same P H) (hl:∀a xs,LN a xs→SqL G.K H a xs):∀(ds:List D) (vs:List V) (n:Nat),D.fits ds n=true→Reps G P LN ds vs→DpAll G.K H vs (D.pys ds)
 |[],_,_,_,h=>by cases h;exact .nil
 |d::ds,vs,n,f,⟨v,r,e,h1,h2⟩=>by
  subst e
  simp only[D.fits,Bool.and_eq_true] at f
  exact .cons (Rep.dp hp hl d v n f.1 h1) (Reps.dp hp hl ds r n f.2 h2)
end
end
end Cm
namespace Cm
open PySem PySem.Spec PyProof.Rows L2
def WrT (G:Glo) (v:V):Prop:=∀a,v=.ref a→∃o,G.K.lookup a=some o∧o.cls=.type "tuple" ∧ o.dict=none
inductive RE (α:Type) where
 |bad | ok (a:α) | exc (c:Nat) (fs:List D)
def RE.bind {α β:Type}:RE α→(α→RE β)→RE β
 |.bad,_=>.bad
 |.ok a,f=>f a
 |.exc c fs,_=>.exc c fs
@[simp] theorem RE.bind_ok {α β:Type} (a:α) (f:α→RE β):(RE.ok a).bind f=f a:=rfl
@[simp] theorem RE.bind_bad {α β:Type} (f:α→RE β):(RE.bad:RE α).bind f=.bad:=rfl
@[simp] theorem RE.bind_exc {α β:Type} (c:Nat) (fs:List D) (f:α→RE β):(RE.exc c fs:RE α).bind f=.exc c fs:=rfl
inductive Sl where
 |non | val (d:D) (b:Bool) | own (ds:List D) (b:Bool)
 |slf (c:Nat) (fs:List D)
 |fxd (d:D) (k:Nat)
 |dct (m:List (Int × D)) (b:Bool)
 |row (dss:List (List D))
inductive ER where
 |val (d:D) (b:Bool) | fre (ds:List D) (b:Bool) | brw (ds:List D) (b:Bool)
def ER.d:ER→D
 |.val d _=>d
 |.fre ds _=>.lst ds
 |.brw ds _=>.lst ds
def ER.b:ER→Bool
 |.val _ b=>b
 |.fre _ b=>b
 |.brw _ b=>b
@[simp] theorem ER.d_val {d:D} {b:Bool}:(ER.val d b).d=d:=rfl
@[simp] theorem ER.d_fre {d:List D} {b:Bool}:(ER.fre d b).d=.lst d:=rfl
@[simp] theorem ER.d_brw {d:List D} {b:Bool}:(ER.brw d b).d=.lst d:=rfl
@[simp] theorem ER.b_val {d:D} {b:Bool}:(ER.val d b).b=b:=rfl
@[simp] theorem ER.b_fre {d:List D} {b:Bool}:(ER.fre d b).b=b:=rfl
@[simp] theorem ER.b_brw {d:List D} {b:Bool}:(ER.brw d b).b=b:=rfl
@[simp] def ER.isB:ER→Bool
 |.brw _ _=>true
 |_=>false
@[simp] def ER.isV:ER→Bool
 |.val _ _=>true
 |_=>false
@[simp] def ER.frz:ER→ER
 |.fre ds b=>.val (.lst ds) b
 |e=>e
def LNb (K:PySem.W.Frag) (P N R:Hp) (b:Bool):Addr→List V→Prop:=fun a xs=>N a=some (.lst xs)∨(b=false∧(SqL K P a xs∨SqL K N a xs∨SqL K R a xs))
theorem LNb.mono {K:PySem.W.Frag} {P N R P' N':Hp} {b:Bool} (hp:Same P P') (hn:Same N N'):∀a xs,LNb K P N R b a xs→LNb K P' N' R b a xs:=fun a xs h=>by
 rcases h with h | ⟨h1,h | h | h⟩
 ·exact .inl (hn _ _ h)
 ·exact .inr ⟨h1,.inl (L2.Same.seq hp h)⟩
 ·exact .inr ⟨h1,.inr (.inl (L2.Same.seq hn h))⟩
 ·exact .inr ⟨h1,.inr (.inr h)⟩
theorem LNb.weak {K:PySem.W.Frag} {P N R:Hp} {b:Bool}:∀a xs,LNb K P N R b a xs→LNb K P N R false a xs:=fun a xs h=>by
 rcases h with h | h
 ·exact .inl h
 ·exact .inr ⟨rfl,h.2⟩
theorem LNb.and1 {K:PySem.W.Frag} {P N R:Hp} {b c:Bool}:∀a xs,LNb K P N R b a xs→LNb K P N R (b&&c) a xs:=fun a xs h=>by
 rcases h with h | ⟨h1,h2⟩
 ·exact .inl h
 ·exact .inr ⟨by simp[h1],h2⟩
theorem LNb.and2 {K:PySem.W.Frag} {P N R:Hp} {b c:Bool}:∀a xs,LNb K P N R c a xs→LNb K P N R (b&&c) a xs:=fun a xs h=>by
 rcases h with h | ⟨h1,h2⟩
 ·exact .inl h
 ·exact .inr ⟨by simp[h1],h2⟩
theorem LNb.seq {K:PySem.W.Frag} {P N R H:Hp} {b:Bool} (hp:Same P H) (hn:Same N H) (hr:Same R H):∀a xs,LNb K P N R b a xs→SqL K H a xs:=fun a xs h=>by
 rcases h with h | ⟨_,h | h | h⟩
 ·exact .inl (.inl (hn _ _ h))
 ·exact L2.Same.seq hp h
 ·exact L2.Same.seq hn h
 ·exact L2.Same.seq hr h
theorem LNb.ofP {K:PySem.W.Frag} {P N R:Hp}:∀a xs,SqL K P a xs→LNb K P N R false a xs:=fun a xs h=>.inr ⟨rfl,.inl h⟩
theorem LNb.ofR {K:PySem.W.Frag} {P N R:Hp}:∀a xs,SqL K R a xs→LNb K P N R false a xs:=fun a xs h=>.inr ⟨rfl,.inr (.inr h)⟩
structure Adv (P N H P' N' H':Hp):Prop where
 hh:Same H H'
 pp:Same P P'
 nn:Same N N'
 pH:Same P' H'
 nH:Same N' H'
 pn:∀a,P' a≠none→P a≠none∨H a=none
 nw:∀a,N' a≠none→N a≠none∨H a=none
 dj:∀a,N' a≠none→P' a≠none→N a≠none
theorem Adv.refl {P N H:Hp} (hp:Same P H) (hn:Same N H):Adv P N H P N H:=⟨L2.Same.refl _,L2.Same.refl _,L2.Same.refl _,hp,hn,fun _ h=>.inl h,fun _ h=>.inl h,fun _ h _=>h⟩
theorem Adv.trans {P N H P' N' H' P'' N'' H'':Hp} (s:Adv P N H P' N' H') (t:Adv P' N' H' P'' N'' H''):Adv P N H P'' N'' H'' where
 hh:=s.hh.trans t.hh
 pp:=s.pp.trans t.pp
 nn:=s.nn.trans t.nn
 pH:=t.pH
 nH:=t.nH
 pn:=fun a h=>by
  rcases t.pn a h with h | h
  ·exact s.pn a h
  ·exact .inr (s.hh.free h)
 nw:=fun a h=>by
  rcases t.nw a h with h | h
  ·exact s.nw a h
  ·exact .inr (s.hh.free h)
 dj:=fun a h h2=>by
  have h3:=t.dj a h h2
  rcases t.pn a h2 with q | q
  ·exact s.dj a h3 q
  ·exact absurd (s.nH.free q) h3
theorem Adv.heap {P N H P' N' H' H'':Hp} (s:Adv P N H P' N' H') (e:Same H' H''):Adv P N H P' N' H'':=
 ⟨s.hh.trans e,s.pp,s.nn,s.pH.trans e,s.nH.trans e,s.pn,s.nw,s.dj⟩
theorem qan {H:Hp} {p:Addr} {o:HO} (h:H p=none):Same H (upd H p o):=fun b u e=>by
 rw[upd_ne (ne_of_none e h)];exact e
theorem qiY {P H:Hp} {p:Addr} {o:HO} (h:Same P H):Same (upd P p o) (upd H p o):=fun b u e=>by
 by_cases q:b=p
 ·subst q;rw[upd_same] at e ⊢;exact e
 ·rw[upd_ne q] at e ⊢;exact h _ _ e
theorem qak {P H:Hp} {p:Addr} {o:HO} (h:Same P H) (n:P p=none):Same P (upd H p o):=fun b u e=>by
 rw[upd_ne (ne_of_none e n)];exact h _ _ e
theorem qjU {P H:Hp} {p:Addr} {o:HO} (h:Same P H) (e:H p=some o):Same (upd P p o) H:=fun b u q=>by
 by_cases z:b=p
 ·subst z;rw[upd_same] at q;cases q;exact e
 ·rw[upd_ne z] at q;exact h _ _ q
theorem Adv.newP {P N H P' N' H':Hp} (s:Adv P N H P' N' H') {p:Addr} {o:HO} (hp:H' p=none):Adv P N H (upd P' p o) N' (upd H' p o) where
 hh:=s.hh.trans (qan hp)
 pp:=s.pp.trans (qan (s.pH.free hp))
 nn:=s.nn
 pH:=qiY s.pH
 nH:=s.nH.trans (qan hp)
 pn:=fun a h=>by
  by_cases q:a=p
  ·exact .inr (by rw[q];exact s.hh.free hp)
  ·rw[upd_ne q] at h;exact s.pn a h
 nw:=s.nw
 dj:=fun a h h2=>by
  by_cases q:a=p
  ·exact absurd (s.nH.free hp) (q ▸ h)
  ·rw[upd_ne q] at h2;exact s.dj a h h2
theorem Adv.holdN {P N H P' N' H':Hp} (s:Adv P N H P' N' H') {p:Addr} {o:HO} (h0:H p=none) (hp:H' p=some o) (hn:N' p=none) (hP:P' p=none):Adv P N H P' (upd N' p o) H' where
 hh:=s.hh
 pp:=s.pp
 nn:=s.nn.trans (qan hn)
 pH:=s.pH
 nH:=qjU s.nH hp
 pn:=s.pn
 nw:=fun a h=>by
  by_cases q:a=p
  ·exact .inr (by rw[q];exact h0)
  ·rw[upd_ne q] at h;exact s.nw a h
 dj:=fun a h h2=>by
  by_cases q:a=p
  ·exact absurd hP (q ▸ h2)
  ·rw[upd_ne q] at h;exact s.dj a h h2
structure Ctx where
 G:Glo
 R:Hp
 B:Hp
 P0:Hp
 W:WX
 S:Addr
 fx:Nat→Option V:=fun _=>none
section
variable (C:Ctx) (P N H:Hp)
abbrev RepB (b:Bool) (d:D) (v:V):Prop:=Rep C.G P (LNb C.G.K P N C.R b) d v
abbrev RepsB (b:Bool) (ds:List D) (vs:List V):Prop:=Reps C.G P (LNb C.G.K P N C.R b) ds vs
def RowR (R:Addr→List D→Prop):List (List D)→List Addr→Prop
 |[],ps=>ps=[]
 |ds::r,ps=>∃a q,ps=a::q∧R a ds∧RowR R r q
def DctR (R:D→V→Prop):List (Int × D)→List (Key × V)→Prop
 |[],es=>es=[]
 |e::m,es=>∃v r,es=(.inl e.1,v)::r∧R e.2 v∧DctR R m r
def SlR:Sl→Option V→Prop
 |.non,_=>True
 |.val d b,o=>∃v,o=some v∧RepB C P N b d v
 |.own ds b,o=>∃p xs,o=some (.ref p)∧H p=some (.lst xs)∧P p=none∧N p=none∧C.B p=none∧RepsB C P N b ds xs
 |.slf c fs,o=>∃p dx xs,(p=C.S∧o=some (.ref p))∧H p=some (.ins (C.G.ca c) dx ((C.G.fl c).zip xs))∧P p=none∧N p=none∧C.B p=none∧fs.length≤(C.G.fl c).length∧RepsB C P N true fs xs
 |.fxd d k,o=>∃v,o=some v∧C.fx k=some v∧RepB C P N false d v
 |.dct m b,o=>∃p es,o=some (.ref p)∧H p=some (.dK es)∧P p=none∧N p=none∧C.B p=none∧DctR (RepB C P N b) m es
 |.row dss,o=>∃p ps,o=some (.ref p)∧H p=some (.lst (ps.map V.ref))∧P p=none∧N p=none∧C.B p=none∧RowR (fun a ds=>∃xs,H a=some (.lst xs)∧P a=none∧N a=none∧C.B a=none∧D.flats ds=true∧RepsB C P N true ds xs) dss ps∧(p::ps).Nodup
def ERr (H0:Hp):ER→V→Prop
 |.val d b,v=>RepB C P N b d v
 |.fre ds b,v=>∃p xs,v=.ref p∧H p=some (.lst xs)∧H0 p=none∧P p=none∧N p=none∧RepsB C P N b ds xs
 |.brw ds b,v=>∃p xs,v=.ref p∧H p=some (.lst xs)∧P p=none∧N p=none∧C.B p=none∧RepsB C P N b ds xs
def ERs (H0:Hp):List ER→List V→Prop
 |[],vs=>vs=[]
 |e::es,vs=>∃v r,vs=v::r∧ERr C P N H H0 e v∧ERs H0 es r
def ExR (fs:List D) (d:Option Addr):Prop:=(fs=[]∧d=none)∨∃dd f v,fs=[f]∧d=some dd∧H dd=some (.xd [(("at" : Str),v)])∧RepB C P N true f v
structure Reg:Prop where
 pH:Same P H
 nH:Same N H
 bH:Same C.B H
 rB:Same C.R C.B
 p0:Same C.P0 P
 pn:∀a,P a≠none→C.P0 a≠none∨C.B a=none
 nw:∀a,N a≠none→C.B a=none
 dj:∀a,N a≠none→P a=none
structure AD (ρ:List Sl) (σ:L2.St):Prop where
 un:∀(i j:Nat) (p:Addr) (m:List (Int × D)) (b:Bool) (m':List (Int × D)) (c:Bool),ρ[i]? = some (.dct m b)→ρ[j]? = some (.dct m' c)→σ[i]? = some (some (.ref p))→σ[j]? = some (some (.ref p))→i=j
inductive Held (H:Hp):Sl→Option V→Addr→Prop
 |own {ds:List D} {b:Bool} {a:Addr}:Held H (.own ds b) (some (.ref a)) a
 |rt {dss:List (List D)} {a:Addr}:Held H (.row dss) (some (.ref a)) a
 |it {dss:List (List D)} {p a:Addr} {ps:List Addr}:H p=some (.lst (ps.map V.ref))→a∈ps→Held H (.row dss) (some (.ref p)) a
structure AR (H:Hp) (ρ:List Sl) (σ:L2.St):Prop where
 un:∀(i j:Nat) (dss:List (List D)) (t:Sl) (o u:Option V) (a:Addr),ρ[i]? = some (.row dss)→ρ[j]? = some t→σ[i]? = some o→σ[j]? = some u→Held H (.row dss) o a→Held H t u a→i=j
structure SR (ρ:List Sl) (σ:L2.St):Prop where
 reg:Reg C P N H
 len:σ.length=ρ.length
 sl:∀(i:Nat) (s:Sl),ρ[i]? = some s→∃o,σ[i]? = some o∧SlR C P N H s o
 ap:∀(i j:Nat) (p:Addr) (ds:List D) (b:Bool) (es:List D) (c:Bool),ρ[i]? = some (.own ds b)→ρ[j]? = some (.own es c)→σ[i]? = some (some (.ref p))→σ[j]? = some (some (.ref p))→i=j
 ad:AD ρ σ
 ar:AR H ρ σ
end
def Sl.isD:Sl→Bool
 |.dct _ _=>true
 |_=>false
theorem AD.sub {ρ ρ':List Sl} {σ σ':L2.St} (h:AD ρ σ) (k:∀(i:Nat) (m:List (Int × D)) (b:Bool),ρ'[i]? = some (Sl.dct m b)→σ'[i]? = σ[i]? ∧ ∃m' c,ρ[i]? = some (Sl.dct m' c)):AD ρ' σ':=⟨fun i j p m b m' c e1 e2 e3 e4=>by
 obtain⟨f1,_,_,g1⟩:=k i m b e1
 obtain⟨f2,_,_,g2⟩:=k j m' c e2
 rw[f1] at e3
 rw[f2] at e4
 exact h.un i j p _ _ _ _ g1 g2 e3 e4⟩
theorem AD.no {ρ:List Sl} {σ:L2.St} (h:∀(i:Nat) s,ρ[i]? = some s→s.isD=false):AD ρ σ:=⟨fun i j p m b m' c e1 e2 e3 e4=>by
 have:=h i _ e1
 cases this⟩
def Sl.isW:Sl→Bool
 |.row _=>true
 |_=>false
def Sl.isH:Sl→Bool
 |.row _=>true
 |.own _ _=>true
 |_=>false
theorem Held.not {H:Hp} {s:Sl} {o:Option V} {a:Addr} (h:Held H s o a):s.isH=true:=by cases h<;>rfl
theorem AR.no {H:Hp} {ρ:List Sl} {σ:L2.St} (h:∀(i:Nat) s,ρ[i]? = some s→s.isW=false):AR H ρ σ:=⟨fun i j dss t o u a e1 e2 e3 e4 h1 h2=>by
 have:=h i _ e1
 cases this⟩
theorem AR.heap {H H':Hp} {ρ:List Sl} {σ:L2.St} (h:AR H ρ σ) (k:∀(i:Nat) (dss:List (List D)) (p:Addr),ρ[i]? = some (.row dss)→σ[i]? = some (some (.ref p))→H' p=H p):AR H' ρ σ:=⟨fun i j dss t o u a e1 e2 e3 e4 h1 h2=>by
 refine h.un i j dss t o u a e1 e2 e3 e4 ?_ ?_
 ·cases h1 with
  |rt=>exact .rt
  |it q m=>exact .it ((k i _ _ e1 e3) ▸ q) m
 ·cases h2 with
  |own=>exact .own
  |rt=>exact .rt
  |it q m=>exact .it ((k j _ _ e2 e4) ▸ q) m⟩
theorem qal {α:Type} {xs:List α} {i j:Nat} {x y:α} (e:(xs.set i x)[j]? = some y):(i=j∧y=x)∨(i≠j∧xs[j]? = some y):=by
 by_cases q:i=j
 ·subst q
  rw[List.getElem?_set] at e
  simp only[if_true] at e
  split at e
  ·cases e;exact .inl ⟨rfl,rfl⟩
  ·cases e
 ·rw[List.getElem?_set_ne q] at e
  exact .inr ⟨q,e⟩
theorem AR.set {H:Hp} {ρ:List Sl} {σ:L2.St} (h:AR H ρ σ) {i:Nat} {s:Sl} {o:Option V} (hs:s.isH=false):AR H (ρ.set i s) (σ.set i o):=⟨fun j k dss t o1 u a e1 e2 e3 e4 h1 h2=>by
 rcases qal e1 with⟨q1,z1⟩ | ⟨q1,z1⟩
 ·rw[z1] at h1;have:=h1.not;rw[hs] at this;cases this
 ·rcases qal e2 with⟨q2,z2⟩ | ⟨q2,z2⟩
  ·rw[z2] at h2;have:=h2.not;rw[hs] at this;cases this
  ·rw[List.getElem?_set_ne q1] at e3
   rw[List.getElem?_set_ne q2] at e4
   exact h.un j k dss t o1 u a z1 z2 e3 e4 h1 h2⟩
theorem AR.setS {H:Hp} {ρ:List Sl} {σ:L2.St} (h:AR H ρ σ) {i:Nat} {s:Sl} (hs:s.isH=false):AR H (ρ.set i s) σ:=⟨fun j k dss t o1 u a e1 e2 e3 e4 h1 h2=>by
 rcases qal e1 with⟨q1,z1⟩ | ⟨q1,z1⟩
 ·rw[z1] at h1;have:=h1.not;rw[hs] at this;cases this
 ·rcases qal e2 with⟨q2,z2⟩ | ⟨q2,z2⟩
  ·rw[z2] at h2;have:=h2.not;rw[hs] at this;cases this
  ·exact h.un j k dss t o1 u a z1 z2 e3 e4 h1 h2⟩
theorem AR.setO {H:Hp} {ρ:List Sl} {σ:L2.St} (h:AR H ρ σ) {i:Nat} {ds:List D} {b:Bool} {p:Addr} (k:∀(j:Nat) (dss:List (List D)) (u:Option V),i≠j→ρ[j]? = some (.row dss)→σ[j]? = some u→¬Held H (.row dss) u p):AR H (ρ.set i (.own ds b)) (σ.set i (some (.ref p))):=⟨fun j l dss t o1 u a e1 e2 e3 e4 h1 h2=>by
 rcases qal e1 with⟨q1,z1⟩ | ⟨q1,z1⟩
 ·cases z1
 ·rw[List.getElem?_set_ne q1] at e3
  rcases qal e2 with⟨q2,z2⟩ | ⟨q2,z2⟩
  ·rcases qal e4 with⟨_,z4⟩ | ⟨q4,_⟩
   ·rw[z2,z4] at h2
    cases h2
    exact absurd h1 (k j dss o1 q1 z1 e3)
   ·exact absurd q2 q4
  ·rw[List.getElem?_set_ne q2] at e4
   exact h.un j l dss t o1 u a z1 z2 e3 e4 h1 h2⟩
theorem AR.own {H:Hp} {ρ:List Sl} {σ:L2.St} (h:AR H ρ σ) {i:Nat} {ds ds':List D} {b b':Bool} (e:ρ[i]? = some (.own ds b)):AR H (ρ.set i (.own ds' b')) σ:=⟨fun j l dss t o1 u a e1 e2 e3 e4 h1 h2=>by
 rcases qal e1 with⟨q1,z1⟩ | ⟨q1,z1⟩
 ·cases z1
 ·rcases qal e2 with⟨q2,z2⟩ | ⟨q2,z2⟩
  ·subst q2
   rw[z2] at h2
   cases h2
   exact h.un j i dss (.own ds b) o1 _ a z1 e e3 e4 h1 .own
  ·exact h.un j l dss t o1 u a z1 z2 e3 e4 h1 h2⟩
theorem AD.set {ρ:List Sl} {σ:L2.St} (h:AD ρ σ) {i:Nat} {s:Sl} {o:Option V} (hs:s.isD=false):AD (ρ.set i s) (σ.set i o):=h.sub fun j m b e=>by
 by_cases q:i=j
 ·subst q
  rw[List.getElem?_set] at e
  simp only[if_true] at e
  split at e
  ·cases e;cases hs
  ·cases e
 ·rw[List.getElem?_set_ne q] at e
  rw[List.getElem?_set_ne q]
  exact⟨rfl,_,_,e⟩
theorem AD.setS {ρ:List Sl} {σ:L2.St} (h:AD ρ σ) {i:Nat} {s:Sl} (hs:s.isD=false):AD (ρ.set i s) σ:=h.sub fun j m b e=>by
 by_cases q:i=j
 ·subst q
  rw[List.getElem?_set] at e
  simp only[if_true] at e
  split at e
  ·cases e;cases hs
  ·cases e
 ·rw[List.getElem?_set_ne q] at e
  exact⟨rfl,_,_,e⟩
section
variable {C:Ctx} {P N H P' N' H':Hp} {ρ:List Sl} {σ:L2.St}
theorem Reg.rH (h:Reg C P N H):Same C.R H:=h.rB.trans h.bH
theorem Reg.adv (h:Reg C P N H) (a:Adv P N H P' N' H'):Reg C P' N' H' where
 pH:=a.pH
 nH:=a.nH
 bH:=h.bH.trans a.hh
 rB:=h.rB
 p0:=h.p0.trans a.pp
 pn:=fun q e=>by
  rcases a.pn q e with e | e
  ·exact h.pn q e
  ·exact .inr (h.bH.free e)
 nw:=fun q e=>by
  rcases a.nw q e with e | e
  ·exact h.nw q e
  ·exact h.bH.free e
 dj:=fun q e=>by
  cases e2:P' q with
  |none=>rfl
  |some o =>
   have e3:P' q≠none:=by rw[e2];exact fun z=>nomatch z
   have e4:=a.dj q e e3
   rcases a.pn q e3 with z | z
   ·exact absurd (h.dj q e4) z
   ·exact absurd (h.nH.free z) e4
theorem RepB.adv {b:Bool} {d:D} {v:V} (hp:Same P P') (hn:Same N N') (h:RepB C P N b d v):RepB C P' N' b d v:=Rep.mono hp d v (LNb.mono hp hn) h
theorem RepsB.adv {b:Bool} {ds:List D} {vs:List V} (hp:Same P P') (hn:Same N N') (h:RepsB C P N b ds vs):RepsB C P' N' b ds vs:=Reps.mono hp ds vs (LNb.mono hp hn) h
theorem RepB.and1 {b c:Bool} {d:D} {v:V} (h:RepB C P N b d v):RepB C P N (b&&c) d v:=Rep.mono (L2.Same.refl _) d v LNb.and1 h
theorem RepB.and2 {b c:Bool} {d:D} {v:V} (h:RepB C P N c d v):RepB C P N (b&&c) d v:=Rep.mono (L2.Same.refl _) d v LNb.and2 h
theorem RepsB.and1 {b c:Bool} {d:List D} {v:List V} (h:RepsB C P N b d v):RepsB C P N (b&&c) d v:=Reps.mono (L2.Same.refl _) d v LNb.and1 h
theorem RepsB.and2 {b c:Bool} {d:List D} {v:List V} (h:RepsB C P N c d v):RepsB C P N (b&&c) d v:=Reps.mono (L2.Same.refl _) d v LNb.and2 h
theorem RepB.nf {b:Bool} {d:D} {v:V} (h:RepB C P N b d v):RepB C P N (b||d.flat) d v:=by
 cases b with
 |true=>exact h
 |false =>
  cases e:d.flat with
  |true=>exact Rep.flat d v e h
  |false=>exact h
theorem RepsB.nf {b:Bool} {d:List D} {v:List V} (h:RepsB C P N b d v):RepsB C P N (b||D.flats d) d v:=by
 cases b with
 |true=>exact h
 |false =>
  cases e:D.flats d with
  |true=>exact Reps.flat d v e h
  |false=>exact h
theorem Adv.off (a:Adv P N H P' N' H') {p:Addr} {o:HO} (h:H p=some o) (hp:P p=none):P' p=none:=by
 cases q:P' p with
 |none=>rfl
 |some u =>
  rcases a.pn p (by rw[q];simp) with z | z
  ·exact absurd hp z
  ·rw[h] at z;cases z
theorem Adv.offN (a:Adv P N H P' N' H') {p:Addr} {o:HO} (h:H p=some o) (hn:N p=none):N' p=none:=by
 cases q:N' p with
 |none=>rfl
 |some u =>
  rcases a.nw p (by rw[q];simp) with z | z
  ·exact absurd hn z
  ·rw[h] at z;cases z
theorem RowR.mono {R R':Addr→List D→Prop} (k:∀a ds,R a ds→R' a ds):∀{dss:List (List D)} {ps:List Addr},RowR R dss ps→RowR R' dss ps
 |[],_,h=>h
 |_::_,_,⟨a,q,e,h1,h2⟩=>⟨a,q,e,k _ _ h1,RowR.mono k h2⟩
theorem RowR.sub {R R':Addr→List D→Prop}:∀{dss:List (List D)} {ps:List Addr},RowR R dss ps→(∀a∈ps,∀ds,R a ds→R' a ds)→RowR R' dss ps
 |[],_,h,_=>h
 |_::_,_,⟨a,q,e,h1,h2⟩,k=>by
  subst e
  exact⟨a,q,rfl,k a (by simp) _ h1,RowR.sub h2 fun b hb=>k b (List.mem_cons_of_mem _ hb)⟩
theorem RowR.all {R:Addr→List D→Prop}:∀{dss:List (List D)} {ps:List Addr},RowR R dss ps→∀a∈ps,∃ds,R a ds
 |[],_,h,a,m=>by cases h;cases m
 |ds::_,_,⟨b,q,e,h1,h2⟩,a,m=>by
  subst e
  rcases List.mem_cons.mp m with z | z
  ·rw[z];exact⟨ds,h1⟩
  ·exact RowR.all h2 a z
theorem qcR:∀{ps qs:List Addr},ps.map V.ref=qs.map V.ref→ps=qs
 |[],[],_=>rfl
 |[],_::_,h=>nomatch h
 |_::_,[],h=>nomatch h
 |p::ps,q::qs,h=>by
  simp only[List.map_cons,List.cons.injEq] at h
  obtain⟨h1,h2⟩:=h
  cases h1
  rw[qcR h2]
theorem SlR.held {C:Ctx} {P N H:Hp} {dss:List (List D)} {o:Option V} {a:Addr} (h:SlR C P N H (.row dss) o) (k:Held H (.row dss) o a):(∃xs,H a=some (.lst xs))∧P a=none∧N a=none∧C.B a=none:=by
 obtain⟨p,ps,rfl,h1,h2,h3,h4,h5,h6⟩:=h
 cases k with
 |rt=>exact⟨⟨_,h1⟩,h2,h3,h4⟩
 |it q m =>
  rw[h1] at q
  injection q with q
  injection q with q
  have:=qcR q
  subst this
  obtain⟨ds,xs,g1,g2,g3,g4,_⟩:=h5.all a m
  exact⟨⟨xs,g1⟩,g2,g3,g4⟩
theorem DctR.mono {R R':D→V→Prop} (k:∀d v,R d v→R' d v):∀{m:List (Int × D)} {es:List (Key × V)},DctR R m es→DctR R' m es
 |[],_,h=>h
 |_::_,_,⟨v,r,e,h1,h2⟩=>⟨v,r,e,k _ _ h1,DctR.mono k h2⟩
theorem DctR.adv {b:Bool} (hp:Same P P') (hn:Same N N') {m:List (Int × D)} {es:List (Key × V)} (h:DctR (RepB C P N b) m es):DctR (RepB C P' N' b) m es:=h.mono fun _ _=>RepB.adv hp hn
theorem SlR.adv (a:Adv P N H P' N' H') {s:Sl} {o:Option V} (h:SlR C P N H s o):SlR C P' N' H' s o:=by
 cases s with
 |non=>trivial
 |val d b =>
  obtain⟨v,h3,h4⟩:=h
  exact⟨v,h3,RepB.adv a.pp a.nn h4⟩
 |own ds b =>
  obtain⟨p,xs,h3,h4,h5,h6,h7,h8⟩:=h
  exact⟨p,xs,h3,a.hh _ _ h4,a.off h4 h5,a.offN h4 h6,h7,RepsB.adv a.pp a.nn h8⟩
 |slf c fs =>
  obtain⟨p,dx,xs,h3,h4,h5,h6,h7,h8,h9⟩:=h
  exact⟨p,dx,xs,h3,a.hh _ _ h4,a.off h4 h5,a.offN h4 h6,h7,h8,RepsB.adv a.pp a.nn h9⟩
 |fxd d k =>
  obtain⟨v,h3,h4,h5⟩:=h
  exact⟨v,h3,h4,RepB.adv a.pp a.nn h5⟩
 |dct m b =>
  obtain⟨p,es,h3,h4,h5,h6,h7,h8⟩:=h
  exact⟨p,es,h3,a.hh _ _ h4,a.off h4 h5,a.offN h4 h6,h7,h8.adv a.pp a.nn⟩
 |row dss =>
  obtain⟨p,ps,h3,h4,h5,h6,h7,h8,h9⟩:=h
  exact⟨p,ps,h3,a.hh _ _ h4,a.off h4 h5,a.offN h4 h6,h7,h8.mono fun b ds ⟨xs,g1,g2,g3,g4,g5,g6⟩=>⟨xs,a.hh _ _ g1,a.off g1 g2,a.offN g1 g3,g4,g5,RepsB.adv a.pp a.nn g6⟩,h9⟩
theorem SR.adv (S:SR C P N H ρ σ) (a:Adv P N H P' N' H'):SR C P' N' H' ρ σ where
 reg:=S.reg.adv a
 len:=S.len
 sl:=fun i s e=>by
  obtain⟨o,h1,h2⟩:=S.sl i s e
  exact⟨o,h1,h2.adv a⟩
 ap:=S.ap
 ad:=S.ad
 ar:=S.ar.heap fun i dss p e1 e2=>by
  obtain⟨o,z1,z2⟩:=S.sl i _ e1
  rw[z1] at e2;cases e2
  obtain⟨⟨xs,q⟩,_⟩:=z2.held .rt
  rw[q];exact a.hh _ _ q
theorem ERr.adv (a:Adv P N H P' N' H') {H0:Hp} {er:ER} {v:V} (h:ERr C P N H H0 er v):ERr C P' N' H' H0 er v:=by
 cases er with
 |val d b=>exact RepB.adv a.pp a.nn h
 |fre ds b =>
  obtain⟨p,xs,h3,h4,h5,h6,h7,h8⟩:=h
  exact⟨p,xs,h3,a.hh _ _ h4,h5,a.off h4 h6,a.offN h4 h7,RepsB.adv a.pp a.nn h8⟩
 |brw ds b =>
  obtain⟨p,xs,h3,h4,h5,h6,h7,h8⟩:=h
  exact⟨p,xs,h3,a.hh _ _ h4,a.off h4 h5,a.offN h4 h6,h7,RepsB.adv a.pp a.nn h8⟩
theorem ERs.adv (a:Adv P N H P' N' H') {H0:Hp}:∀{er:List ER} {v:List V},ERs C P N H H0 er v→ERs C P' N' H' H0 er v
 |[],_,h=>h
 |e::es,_,⟨v,r,h1,h2,h3⟩=>⟨v,r,h1,h2.adv a,ERs.adv a h3⟩
theorem ERr.from {H0 H1:Hp} (e:Same H1 H0) {er:ER} {v:V} (h:ERr C P N H H0 er v):ERr C P N H H1 er v:=by
 cases er with
 |val d b=>exact h
 |fre ds b =>
  obtain⟨p,xs,h3,h4,h5,h6⟩:=h
  exact⟨p,xs,h3,h4,e.free h5,h6⟩
 |brw ds b=>exact h
theorem ERs.from {H0 H1:Hp} (e:Same H1 H0):∀{er:List ER} {v:List V},ERs C P N H H0 er v→ERs C P N H H1 er v
 |[],_,h=>h
 |_::_,_,⟨v,r,h1,h2,h3⟩=>⟨v,r,h1,h2.from e,ERs.from e h3⟩
theorem ERr.freeze {P1 N1 H0:Hp} {er:ER} {v:V} (a:Adv P1 N1 H0 P N H) (h:ERr C P N H H0 er v):∃N'',Adv P1 N1 H0 P N'' H∧ERr C P N'' H H0 er.frz v:=by
 cases er with
 |val d b=>exact⟨N,a,h⟩
 |brw d b=>exact⟨N,a,h⟩
 |fre ds b =>
  obtain⟨p,xs,rfl,h1,h2,h3,h4,h5⟩:=h
  have sn:Same N (upd N p (.lst xs)):=qan h4
  exact⟨upd N p (.lst xs),a.holdN h2 h1 h4 h3,p,xs,rfl,.inl upd_same,RepsB.adv (L2.Same.refl _) sn h5⟩
def ERw (C:Ctx) (P N H:Hp) (d:D) (b:Bool) (v:V):Prop:=
 match d with
 |.lst ds=>∃p xs,v=.ref p∧SqL C.G.K H p xs∧RepsB C P N b ds xs
 |d=>RepB C P N b d v
theorem ERr.w (r:Reg C P N H) {H0:Hp} {er:ER} {v:V} (h:ERr C P N H H0 er v):ERw C P N H er.d er.b v:=by
 cases er with
 |val d b =>
  cases d with
  |lst ds =>
   obtain⟨p,xs,e,h1,h2⟩:=h
   exact⟨p,xs,e,LNb.seq r.pH r.nH r.rH _ _ h1,h2⟩
  |_=>exact h
 |fre ds b =>
  obtain⟨p,xs,h3,h4,_,_,_,h5⟩:=h
  exact⟨p,xs,h3,.inl (.inl h4),h5⟩
 |brw ds b =>
  obtain⟨p,xs,h3,h4,_,_,_,h5⟩:=h
  exact⟨p,xs,h3,.inl (.inl h4),h5⟩
end
def spD (G:Glo) (n:Nat) (g:List D→RE ER):Sp:=fun vs H Q E=>∃P R ds,Same P H∧Same R H∧Reps G P (SqL G.K R) ds vs∧ds.length=n∧match g ds with
 |.bad=>False
 |.ok er=>∀v H' P' N',Adv P (fun _=>none) H P' N' H'→ERr ⟨G,R,H,P,fun _ _ _ _=>False,0,fun _=>none⟩ P' N' H' H er v→Q v H'
 |.exc c fs=>∀d H' P' N',Adv P (fun _=>none) H P' N' H'→ExR ⟨G,R,H,P,fun _ _ _ _=>False,0,fun _=>none⟩ P' N' H' fs d→E (.ref (G.ca c)) d H'
theorem qnZ {G:Glo} {n:Nat} {g:List D→RE ER} {vs:List V} {H:Hp} {Q:VK} {E:XK} (h:spD G n g vs H Q E):vs.length=n:=by
 obtain⟨P,R,ds,_,_,h1,h2,_⟩:=h
 rw[h1.length,h2]
def spI (G:Glo) (c n:Nat) (g:List D→RE (List D)):Sp:=fun vs H Q E=>∃x dx H0 P R ds us,vs=.ref x::us∧H=upd (upd H0 dx (.own x)) x (.ins (G.ca c) dx [])∧H0 x=none∧H0 dx=none∧Same P H0∧Same R H0∧Reps G P (SqL G.K R) ds us∧ds.length=n∧match g ds with
 |.bad=>False
 |.ok fs=>∀H' P',Same H0 H'→Same P P'→Same P' H'→(∀a,P' a≠none→P a≠none∨H0 a=none)→Rep G P' (fun _ _=>False) (.ins c fs) (.ref x)→Q .non H'
 |.exc c fs=>∀d H' P' N',Adv P (fun _=>none) H0 P' N' H'→ExR ⟨G,R,H0,P,fun _ _ _ _=>False,0,fun _=>none⟩ P' N' H' fs d→E (.ref (G.ca c)) d H'
end Cm
namespace Cm
open PySem PySem.Spec PyProof.Rows L2
def qar (s:List Nat):Str:=⟨s.toArray⟩
inductive Bop where
 |add | sub | mul | fdv | mdl | pow | shl | shr | and | or
inductive Cop where
 |eq | ne | lt | le | gt | ge | isin | nin
inductive Pri where
 |len | abs | min2 | max2 | min1 | max1 | sum | sorted | all | any | list | tupl | int | str | dmd
inductive Bme where
 |split | join | find
inductive Ty where
 |bool | int | str | list | tuple
mutual
inductive Ex where
 |nev
 |var (i:Nat)
 |cint (i:Int)
 |cbl (b:Bool)
 |cnon
 |cstr (s:List Nat)
 |glo (k:Nat)
 |bin (o:Bop) (a b:Ex)
 |cmp (o:Cop) (a b:Ex)
 |chn (o p:Cop) (a b c:Ex)
 |isN (a:Ex)
 |notN (a:Ex)
 |bop (and:Bool) (es:Exs)
 |bnot (a:Ex)
 |neg (a:Ex)
 |ife (c:Te) (a b:Ex)
 |tup (es:Exs)
 |lst (es:Exs)
 |idx (a i:Ex)
 |slc (a:Ex) (lo hi:Exs)
 |rev (a:Ex)
 |call (f:Nat) (es:Exs)
 |pri (p:Pri) (es:Exs)
 |lrng (es:Exs)
 |mth (m:Nat) (o:Ex) (es:Exs)
 |bm1 (m:Bme) (o a:Ex)
 |blen (o:Ex)
 |fld (o:Ex) (f:Nat)
 |isi (a:Ex) (t:Ty)
 |lc (own:List Nat) (it:Itx) (tg:List Nat) (cnd:Tes) (e:Ex)
 |inxL (o a:Ex)
 |inxS (o a:Ex)
 |lset (a:Ex)
 |new (k:Nat) (es:Exs)
 |sfd (i f:Nat)
 |isc (a:Ex) (k:Nat)
 |iscT (a:Ex) (ks:List Nat)
 |cntL (o a:Ex)
 |mmd (k:Bool) (a d:Ex)
 |din (n:Bool) (k:Nat) (e:Ex)
 |dgi (k:Nat) (e:Ex)
 |srtL (a:Ex)
 |sset (a:Ex)
 |lrev (a:Ex)
 |callc (f:Nat) (es:Exs)
 |inxT (k:Nat) (a:Ex)
 |dhas (n:Bool) (i:Nat) (e:Ex)
 |dat (i:Nat) (e:Ex)
 |pk (e:Ex)
inductive Te where
 |val (e:Ex)
 |bop (and:Bool) (ts:Tes)
 |not (t:Te)
inductive Tes where
 |nil
 |cons (t:Te) (ts:Tes)
inductive Exs where
 |nil
 |cons (e:Ex) (es:Exs)
inductive Itx where
 |any (e:Ex)
 |rng (es:Exs)
 |zp (a b:Ex)
 |en (a:Ex)
 |rv (a:Ex)
 |rvr (a:Ex)
end
@[simp] def ok (d:D):RE ER:=.ok (.val d true)
def qkT (i j:Int):Prop:=(-(2 ^ 64)<i∧i<2 ^ 64)∨(-(2 ^ 64)<j∧j<2 ^ 64)
instance (i j:Int):Decidable (qkT i j):=by unfold qkT;infer_instance
def qkg (j:Int):Prop:=j≠0∧j.natAbs<1073741824
instance (j:Int):Decidable (qkg j):=by unfold qkg;infer_instance
def qjc (i j:Int):Prop:=0≤j∧j≤1000000∧i.natAbs<2 ^ 64
instance (i j:Int):Decidable (qjc i j):=by unfold qjc;infer_instance
def LIM:Nat:=16777216
def gd {α:Type} (b:Bool) (r:RE α):RE α:=match b with
 |true=>r
 |false=>.bad
@[simp] theorem qgR {α:Type} (r:RE α):gd true r=r:=rfl
theorem qb7 {α:Type} (b:Bool) (r:RE α):gd b r=if b=true then r else .bad:=by cases b<;>rfl
/- (they look at the first numeral alone: where it isn't known they stand still) -/
def qmI (i j:Int):Bool:=Nat.ble i.natAbs 18446744073709551615||(Nat.ble j.natAbs 18446744073709551615||Nat.ble (Builtin.Int.intBits i+Builtin.Int.intBits j) 134217728)
def nzB (j:Int):Bool:=Nat.ble 1 j.natAbs
def qnG (j:Int):Bool:=nzB j&&Nat.ble j.natAbs 1073741823
def dmB (j:Int):Bool:=Nat.ble 1 j.toNat&&Nat.ble j.natAbs 1073741823
def nnB (j:Int):Bool:=match j with
 |.ofNat _=>true
 |.negSucc _=>false
def qoh (i j:Int):Bool:=nnB j&&(Nat.ble j.natAbs 1000000&&Nat.ble i.natAbs 18446744073709551615)
def leB (n:Nat):Bool:=Nat.ble n LIM
def qqO (n:Nat) (k:Int):Bool:=Nat.ble k.natAbs 9223372036854775807&&leB (n*k.toNat)
def qqM (i:Int):Bool:=Nat.ble i.natAbs.log2 1919
def qqE (t s:Nat):Bool:=Nat.ble 1 t&&leB (s+2)
theorem qaS (j:Int):(nzB j=true)=(j≠0):=by
 unfold nzB
 rw[Nat.ble_eq]
 exact propext ⟨fun h=>by omega,fun h=>by omega⟩
theorem qag (n:Nat):(leB n=true)=(n≤LIM):=by
 unfold leB
 rw[Nat.ble_eq]
theorem qaX (j:Int):(nnB j=true)=(0≤j):=by
 cases j with
 |ofNat n=>exact propext ⟨fun _=>Int.natCast_nonneg n,fun _=>rfl⟩
 |negSucc n=>exact propext ⟨fun h=>(by cases h),fun h=>(by omega)⟩
theorem qaQ (i j:Int):(qmI i j=true)=(qkT i j∨CMulX i j):=by
 unfold qmI qkT CMulX
 rw[Bool.or_eq_true,Bool.or_eq_true,Nat.ble_eq,Nat.ble_eq,Nat.ble_eq]
 refine propext ⟨fun h=>?_,fun h=>?_⟩
 ·rcases h with h | h | h
  ·exact .inl (.inl (by omega))
  ·exact .inl (.inr (by omega))
  ·exact .inr (by omega)
 ·rcases h with(h | h) | h
  ·exact .inl (by omega)
  ·exact .inr (.inl (by omega))
  ·exact .inr (.inr (by omega))
theorem qaH (j:Int):(qnG j=true)=qkg j:=by
 unfold qnG qkg
 rw[Bool.and_eq_true,qaS,Nat.ble_eq]
 exact propext ⟨fun h=>⟨h.1,by omega⟩,fun h=>⟨h.1,by omega⟩⟩
theorem qnN (j:Int):(dmB j=true)=(0<j∧j<1073741824):=by
 unfold dmB
 rw[Bool.and_eq_true,Nat.ble_eq,Nat.ble_eq]
 exact propext ⟨fun h=>by omega,fun h=>by omega⟩
theorem qaE (i j:Int):(qoh i j=true)=qjc i j:=by
 unfold qoh qjc
 rw[Bool.and_eq_true,Bool.and_eq_true,qaX,Nat.ble_eq,Nat.ble_eq]
 exact propext ⟨fun h=>⟨h.1,by omega,by omega⟩,fun h=>⟨h.1,by omega,by omega⟩⟩
theorem qnE {n:Nat} {k:Int} (h:qqO n k=true):-(2 ^ 63)≤k∧k<2 ^ 63∧n*k.toNat≤LIM:=by
 unfold qqO at h
 rw[Bool.and_eq_true,qag,Nat.ble_eq] at h
 exact⟨by omega,by omega,h.2⟩
theorem qaR (i:Int):(qqM i=true)=(i.natAbs.log2<1920):=by
 unfold qqM
 rw[Nat.ble_eq]
 exact propext ⟨fun h=>by omega,fun h=>by omega⟩
theorem qaO (t s:Nat):(qqE t s=true)=(t≠0∧s+2≤LIM):=by
 unfold qqE
 rw[Bool.and_eq_true,qag,Nat.ble_eq]
 exact propext ⟨fun h=>⟨by omega,h.2⟩,fun h=>⟨by omega,h.2⟩⟩
@[simp] def evB (o:Bop) (x y:D) (b:Bool):RE ER:=
 match o with
 |.add=>match x,y with
  |.int i,.int j=>ok (.int (i+j))
  |.str s,.str t=>gd (leB (s.length+t.length)) (ok (.str (s++t)))
  |.lst xs,.lst ys=>gd (leB (xs.length+ys.length)) (.ok (.fre (xs++ys) b))
  |_,_=>.bad
 |.sub=>match x,y with
  |.int i,.int j=>ok (.int (i - j))
  |_,_=>.bad
 |.mul=>match x,y with
  |.int i,.int j=>gd (qmI i j) (ok (.int (i*j)))
  |.lst xs,.int k=>gd (qqO xs.length k) (.ok (.fre (List.replicate k.toNat xs).flatten b))
  |_,_=>.bad
 |.fdv=>match x,y with
  |.int i,.int j=>gd (qnG j) (ok (.int (i.fdiv j)))
  |_,_=>.bad
 |.mdl=>match x,y with
  |.int i,.int j=>gd (nzB j) (ok (.int (i.fmod j)))
  |_,_=>.bad
 |.pow=>match x,y with
  |.int i,.int j=>gd (qoh i j) (ok (.int (i ^ j.toNat)))
  |_,_=>.bad
 |.shl=>match x,y with
  |.int i,.int j=>gd (qoh i j) (ok (.int (i*2 ^ j.toNat)))
  |_,_=>.bad
 |.shr=>match x,y with
  |.int i,.int j=>gd (nnB j) (ok (.int (i / 2 ^ j.toNat)))
  |_,_=>.bad
 |.and=>match x,y with
  |.int i,.int j=>ok (.int (Builtin.bitAnd i j))
  |_,_=>.bad
 |.or=>match x,y with
  |.int i,.int j=>ok (.int (Builtin.bitOr i j))
  |_,_=>.bad
def qiu (x y:D):RE Bool:=
 match x,y with
 |.int i,.int j=>.ok (decide (i=j))
 |.str s,.str t=>.ok (decide (s=t))
 |.bl a,.bl b=>.ok (a == b)
 |x,y=>if (x.fit 64&&y.fit 64)=true then .ok (x.eqb y) else .bad
def qmu (x y:D):RE Bool:=
 match y with
 |.lst ys=>if (x.fit 64&&(D.lst ys).fit 64)=true then .ok (ys.any fun z=>z.eqb x) else .bad
 |.tup ys=>if (x.fit 0&&D.fits ys 0)=true then .ok (ys.any fun z=>z.eqb x) else .bad
 |.str t=>match x with
  |.str [c]=>.ok (decide (c∈t))
  |_=>.bad
 |_=>.bad
@[simp] def evC (o:Cop) (x y:D):RE Bool:=
 match o with
 |.eq=>qiu x y
 |.ne=>(qiu x y).bind fun b=>.ok (!b)
 |.isin=>qmu x y
 |.nin=>(qmu x y).bind fun b=>.ok (!b)
 |.lt=>match x,y with
  |.int i,.int j=>.ok (decide (i<j))
  |_,_=>.bad
 |.le=>match x,y with
  |.int i,.int j=>.ok (decide (i≤j))
  |_,_=>.bad
 |.gt=>match x,y with
  |.int i,.int j=>.ok (decide (j<i))
  |_,_=>.bad
 |.ge=>match x,y with
  |.int i,.int j=>.ok (decide (j≤i))
  |_,_=>.bad
@[simp] def qdv (x:D):RE Bool:=
 match x with
 |.bl b=>.ok b
 |.int i=>.ok (i != 0)
 |.non=>.ok false
 |.lst xs=>.ok (!xs.isEmpty)
 |.tup xs=>.ok (!xs.isEmpty)
 |_=>.bad
@[simp] def qot (a i:D) (b:Bool):RE ER:=
 match a,i with
 |.lst xs,.int i=>match atI xs i with
  |some x=>.ok (.val x (b||x.flat))
  |none=>.bad
 |.tup xs,.int i=>match atI xs i with
  |some x=>.ok (.val x (b||x.flat))
  |none=>.bad
 |.str s,.int i=>gd (leB s.length) (match atI s i with
  |some c=>ok (.str [c])
  |none=>.bad)
 |_,_=>.bad
def qcq {α:Type} (xs:List α) (lo hi:Option Int):List α:=(xs.drop (HT.sIx xs.length 0 lo)).take (HT.sIx xs.length xs.length hi - HT.sIx xs.length 0 lo)
@[simp] def qro (a:D) (lo hi:Option Int) (b:Bool):RE ER:=
 match a with
 |.lst xs=>.ok (.fre (qcq xs lo hi) b)
 |.tup xs=>gd (!(decide (HT.sIx xs.length 0 lo=0)&&decide (HT.sIx xs.length xs.length hi=xs.length))) (.ok (.val (.tup (qcq xs lo hi)) b))
 |.str s=>gd (leB s.length) (ok (.str (qcq s lo hi)))
 |_=>.bad
def qaq:List D→Option (List Int)
 |[]=>some []
 |.int i::ds=>(qaq ds).map (i :: ·)
 |_::_=>none
def qdk:List D→Option (List Bool)
 |[]=>some []
 |.bl i::ds=>(qdk ds).map (i :: ·)
 |_::_=>none
def qcV:List D→Option (List (List Nat))
 |[]=>some []
 |.str i::ds=>(qcV ds).map (i :: ·)
 |_::_=>none
def qib:List Int→Int
 |[]=>0
 |[x]=>x
 |x::xs=>max x (qib xs)
def qh4:List Int→Int
 |[]=>0
 |[x]=>x
 |x::xs=>min x (qh4 xs)
def qnI (x:Int):List Int→List Int
 |[]=>[x]
 |y::ys=>if x≤y then x::y::ys else y::qnI x ys
def qbZ:List Int→List Int
 |[]=>[]
 |x::xs=>qnI x (qbZ xs)
def qcC:List Int→List Int→Bool
 |[],[]=>false
 |[],_::_=>true
 |_::_,[]=>false
 |a::as,b::bs=>if a=b then qcC as bs else decide (a<b)
def qo3 (x:List Int):List (List Int)→List (List Int)
 |[]=>[x]
 |y::ys=>if qcC y x=true then y::qo3 x ys else x::y::ys
def qdn:List (List Int)→List (List Int)
 |[]=>[]
 |x::xs=>qo3 x (qdn xs)
def liD:D→Option (List Int)
 |.lst ds=>qaq ds
 |_=>none
def qmb:List D→Option (List (List Int))
 |[]=>some []
 |d::ds=>match liD d with
  |some n=>(qmb ds).map (n :: ·)
  |none=>none
def liV (n:List Int):D:=.lst (n.map D.int)
def qok (x:D) (b:Bool):RE ER:=match x with
 |.lst xs=>match qmb xs with
  |some ls=>.ok (.fre ((qdn ls).map liV) b)
  |none=>.bad
 |_=>.bad
def qpT (k:Bool) (ns:List Int) (d:Int):Int:=match ns with
 |[]=>d
 |n::ns=>if k=true then qib (n::ns) else qh4 (n::ns)
def qpI (k:Bool) (x y:D):RE ER:=match x with
 |.lst xs=>match qaq xs with
  |some ns=>match y with
   |.int d=>ok (.int (qpT k ns d))
   |_=>.bad
  |none=>.bad
 |_=>.bad
@[simp] def evP (p:Pri) (es:List ER):RE ER:=
 match p,es with
 |.len,[e]=>match e.d with
  |.lst xs=>ok (.int xs.length)
  |.tup xs=>ok (.int xs.length)
  |.str s=>gd (leB s.length) (ok (.int s.length))
  |_=>.bad
 |.abs,[e]=>match e.d with
  |.int i=>ok (.int (if i<0 then -i else i))
  |_=>.bad
 |.min2,[e,f]=>match e.d,f.d with
  |.int i,.int j=>ok (.int (if j<i then j else i))
  |_,_=>.bad
 |.max2,[e,f]=>match e.d,f.d with
  |.int i,.int j=>ok (.int (if j>i then j else i))
  |_,_=>.bad
 |.min1,[e]=>match e.d with
  |.lst xs=>match qaq xs with
   |some (n::ns)=>ok (.int (qh4 (n::ns)))
   |_=>.bad
  |_=>.bad
 |.max1,[e]=>match e.d with
  |.lst xs=>match qaq xs with
   |some (n::ns)=>ok (.int (qib (n::ns)))
   |_=>.bad
  |_=>.bad
 |.sum,[e]=>match e.d with
  |.lst xs=>match qaq xs with
   |some ns=>ok (.int ns.sum)
   |none=>.bad
  |_=>.bad
 |.sorted,[e]=>match e.d with
  |.lst xs=>match qaq xs with
   |some ns=>.ok (.fre ((qbZ ns).map D.int) true)
   |none=>.bad
  |_=>.bad
 |.all,[e]=>match e.d with
  |.lst xs=>match qdk xs with
   |some bs=>ok (.bl (bs.all id))
   |none=>.bad
  |_=>.bad
 |.any,[e]=>match e.d with
  |.lst xs=>match qdk xs with
   |some bs=>ok (.bl (bs.any id))
   |none=>.bad
  |_=>.bad
 |.list,[e]=>match e.d with
  |.lst xs=>.ok (.fre xs (e.b||D.flats xs))
  |.tup xs=>.ok (.fre xs (e.b||D.flats xs))
  |_=>.bad
 |.tupl,[e]=>match e.d with
  |.lst xs=>.ok (.val (.tup xs) (e.b||D.flats xs))
  |_=>.bad
 |.int,[e]=>match e.d with
  |.int i=>ok (.int i)
  |.bl c=>ok (.int (if c then 1 else 0))
  |.str s=>match intText? (qar s) with
   |some n=>gd (Nat.ble s.length 640) (ok (.int n))
   |none=>.bad
  |_=>.bad
 |.dmd,[e,f]=>match e.d,f.d with
  |.int i,.int j=>gd (dmB j) (ok (.tup [.int (i / j),.int (i % j)]))
  |_,_=>.bad
 |.str,[e]=>match e.d with
  |.int i=>gd (qqM i) (ok (.str (toString i:Str).cps.toList))
  |_=>.bad
 |_,_=>.bad
def idxD (y:D):List D→Option Nat
 |[]=>none
 |x::xs=>if x.eqb y=true then some 0 else (idxD y xs).map (· + 1)
def qdm (xs:List D) (y:D):RE ER:=
 if (y.fit 0&&D.fits xs 0)=true then (match idxD y xs with
  |some j=>ok (.int j)
  |none=>.bad) else .bad
def qmJ (x:Int):List Int→List Int
 |[]=>[x]
 |y::ys=>if x<y then x::y::ys else if x=y then y::ys else y::qmJ x ys
def qiy:List Int→List Int
 |[]=>[]
 |x::xs=>qmJ x (qiy xs)
def qjR (x:D):RE ER:=match x with
 |.lst xs=>match qaq xs with
  |some ns=>gd (Nat.ble ns.length 63) (.ok (.fre ((qiy ns).map D.int) true))
  |none=>.bad
 |_=>.bad
def qjt (x:D):RE ER:=match x with
 |.lst xs=>match qaq xs with
  |some ns=>gd (leB ns.length) (.ok (.fre (ns.reverse.map D.int) true))
  |none=>.bad
 |_=>.bad
def qmz (z:Int):List Int→Option Nat
 |[]=>none
 |s::ss=>if s=z then some 0 else (qmz z ss).map (· + 1)
def qmh (z:List Nat):List (List Nat)→Option Nat
 |[]=>none
 |s::ss=>if s=z then some 0 else (qmh z ss).map (· + 1)
def qjY (ss:List (List Nat)) (y:D):RE ER:=match y with
 |.str z=>(match qmh z ss with
  |some j=>ok (.int j)
  |none=>.bad)
 |_=>.bad
def qkW:D→Option (List (List Nat))
 |.tup xs=>qcV xs
 |_=>none
def qlt (xs:List D) (y:D):RE ER:=
 match qaq xs with
 |some ns=>match y with
  |.int k=>ok (.int (ns.count k:Nat))
  |_=>.bad
 |none=>.bad
def qhB (s:List Nat) (y:D):RE ER:=
 match y with
 |.str t=>(match Builtin.Str.occurrences (qar s) (qar t) 0 s.length 1 with
  |j::_=>ok (.int (j:Nat))
  |[]=>.bad)
 |_=>.bad
def qoY (ns:List Int):Nat:=(PyProof.Rows.firstMet (fun i=>ns.getD i 0) ns.length).length
@[simp] def qhq (x:D):RE ER:=
 match x with
 |.lst xs=>match qaq xs with
  |some ns=>gd (Nat.ble ns.length 1000) (ok (.int (qoY ns)))
  |none=>.bad
 |_=>.bad
@[simp] def evM (m:Bme) (s:List Nat) (y:D):RE ER:=
 match m with
 |.split=>match y with
  |.str t=>gd (qqE t.length s.length) (.ok (.fre ((Txt.split (qar s) (qar t)).map fun z=>.str z.cps.toList) true))
  |_=>.bad
 |.join=>match y with
  |.lst xs=>match qcV xs with
   |some ss=>gd (leB ((ss.map List.length).sum+ss.length*s.length)) (ok (.str (Txt.join (qar s) (ss.map qar)).cps.toList))
   |none=>.bad
  |_=>.bad
 |.find=>match y with
  |.str t=>ok (.int (Txt.find (qar s) (qar t)))
  |_=>.bad
@[simp] def qo4 (x:D) (t:Ty):RE ER:=
 match x,t with
 |.bl _,.bool=>ok (.bl true)
 |.bl _,.int=>ok (.bl true)
 |.int _,.int=>ok (.bl true)
 |.str _,.str=>ok (.bl true)
 |.lst _,.list=>ok (.bl true)
 |.tup _,.tuple=>ok (.bl true)
 |.ins _ _,_=>.bad
 |.exc _ _,_=>.bad
 |_,_=>ok (.bl false)
def qcD (lo c:Int) (n:Nat):List Int:=(List.range n).map fun(i:Nat)=>lo+(i:Int)*c
def inB (i:Int):Prop:=-(2 ^ 62)≤i∧i<2 ^ 62
instance (i:Int):Decidable (inB i):=by unfold inB;infer_instance
def qo1 (i j c:Int):Nat:=(Builtin.Range.rangeSize i j c).toNat
def qor (i:Int):Bool:=Nat.ble i.natAbs 4611686018427387903
def qit (n:Int):Bool:=qor n&&leB n.toNat
def qo5 (i j:Int):Bool:=qor i&&(qor j&&leB (j - i).toNat)
def qqN (i j c:Int):Bool:=nzB c&&(Nat.ble c.natAbs 1073741823&&(Builtin.Range.small i j c&&(nnB (Builtin.Range.rangeSize i j c)&&leB (qo1 i j c))))
theorem qgY {i:Int} (h:qor i=true):inB i:=by
 unfold qor at h
 rw[Nat.ble_eq] at h
 exact⟨by omega,by omega⟩
theorem qgM {n:Int} (h:qit n=true):inB n∧n.toNat≤LIM:=by
 unfold qit at h
 rw[Bool.and_eq_true,qag] at h
 exact⟨qgY h.1,h.2⟩
theorem qiU {i j:Int} (h:qo5 i j=true):inB i∧inB j∧(j - i).toNat≤LIM:=by
 unfold qo5 at h
 rw[Bool.and_eq_true,Bool.and_eq_true,qag] at h
 exact⟨qgY h.1,qgY h.2.1,h.2.2⟩
theorem qaP (i j c:Int):(qqN i j c=true)=(c≠0∧c.natAbs<1073741824∧Builtin.Range.small i j c=true∧0≤Builtin.Range.rangeSize i j c∧qo1 i j c≤LIM):=by
 unfold qqN
 rw[Bool.and_eq_true,Bool.and_eq_true,Bool.and_eq_true,Bool.and_eq_true,qaS,Nat.ble_eq,qaX,qag]
 exact propext ⟨fun h=>⟨h.1,by omega,h.2.2⟩,fun h=>⟨h.1,by omega,h.2.2⟩⟩
@[simp] def qcp (es:List ER):RE (List Int):=
 match es with
 |[a]=>match a.d with
  |.int n=>gd (qit n) (.ok (qcD 0 1 n.toNat))
  |_=>.bad
 |[a,b]=>match a.d,b.d with
  |.int i,.int j=>gd (qo5 i j) (.ok (qcD i 1 (j - i).toNat))
  |_,_=>.bad
 |[a,b,c]=>match a.d,b.d,c.d with
  |.int i,.int j,.int c=>gd (qqN i j c) (.ok (qcD i c (qo1 i j c)))
  |_,_,_=>.bad
 |_=>.bad
structure Env where
 fn:List (Str × (List D→RE ER))
 gc:List (Str × D)
 mn:List Str
 mt:Nat→Nat→Option (List D→RE ER)
 fs:List Str
 fi:Nat→Nat→Option Nat
 nw:List (Nat × (List D→RE (List D))):=[]
 ck:List (Nat→Option Bool):=[]
 ik:List (Nat→Option Bool):=[]
 xk:List Nat:=[]
 dc:List (Str × List (List Nat × Option D)):=[]
def qbj:List (Nat × Nat × (List D→RE ER))→Nat→Nat→Option (List D→RE ER)
 |[],_,_=>none
 |t::r,c,m=>if t.1=c then (if t.2.1=m then some t.2.2 else qbj r c m) else qbj r c m
def qbp:List (Nat × Nat × Nat)→Nat→Nat→Option Nat
 |[],_,_=>none
 |t::r,c,m=>if t.1=c then (if t.2.1=m then some t.2.2 else qbp r c m) else qbp r c m
@[simp] def qbt (k:Bool) (er:ER):RE ER:=
 match k with
 |false=>match er with
  |.brw _ _=>.bad
  |.val d b=>.ok (.val d (b||d.flat))
  |.fre ds b=>.ok (.fre ds b)
 |true=>match er with
  |.val d b=>if (b||d.flat)=true then .ok (.val d true) else .bad
  |.fre ds b=>if (b||D.flats ds)=true then .ok (.fre ds true) else .bad
  |.brw _ _=>.bad
def qeA:List ER→Option (List (List Int))
 |[]=>some []
 |.brw ds _::es=>match qaq ds with
  |some ns=>(qeA es).map (ns :: ·)
  |none=>none
 |.val _ _::es=>qeA es
 |.fre _ _::es=>qeA es
mutual
def qml (os:List (List Int)):D→Bool
 |.lst ds=>match qaq ds with
  |some ns=>!decide (ns∈os)
  |none=>false
 |.tup ds=>qk2 os ds
 |.ins _ _=>false
 |.exc _ _=>false
 |.non=>true
 |.bl _=>true
 |.int _=>true
 |.str _=>true
def qk2 (os:List (List Int)):List D→Bool
 |[]=>true
 |d::ds=>qml os d&&qk2 os ds
end
def qqI (os:List (List Int)) (er:ER):RE ER:=match er with
 |.val d _=>if qml os d=true then .ok (.val d d.flat) else .bad
 |_=>.bad
@[simp] def wipeS (ρ:List Sl):List Nat→List Sl
 |[]=>ρ
 |v::vs=>(wipeS ρ vs).set v .non
@[simp] def qip:List Nat→List D→Bool→List Sl→Option (List Sl)
 |[],[],_,ρ=>some ρ
 |i::is,d::ds,b,ρ=>qip is ds b (ρ.set i (.val d (b||d.flat)))
 |_,_,_,_=>none
@[simp] def qce (tg:List Nat) (x:D) (b:Bool) (ρ:List Sl):Option (List Sl):=
 match tg with
 |[i]=>some (ρ.set i (.val x (b||x.flat)))
 |tg=>match x with
  |.tup ds=>qip tg ds b ρ
  |_=>none
def lcl (f:D→RE (Option (D × Bool))):List D→RE (List D × Bool)
 |[]=>.ok ([],true)
 |x::xs=>(f x).bind fun r=>(lcl f xs).bind fun q=>match r with
  |none=>.ok q
  |some y=>.ok (y.1::q.1,y.2&&q.2)
@[simp] def noX {α:Type}:RE α→RE α
 |.exc _ _=>.bad
 |r=>r
@[simp] def dis (f:List D→Bool→ER) (es:List ER):RE ER:=if (es.all ER.isV)=true then .ok (f (es.map ER.d) (es.all ER.b)) else .bad
structure Wk where
 xs:List D
 b:Bool
 own:Bool
@[simp] def qgb (e:ER):RE Wk:=
 match e.d with
 |.lst xs=>.ok ⟨xs,e.b,e.isB⟩
 |.tup xs=>.ok ⟨xs,e.b,false⟩
 |.str s=>.ok ⟨s.map fun c=>.str [c],true,false⟩
 |_=>.bad
def qkF:List (Option (Nat→Option Bool))→Nat→Option Bool
 |[],_=>some false
 |none::_,_=>none
 |some g::r,c=>match g c with
  |some true=>some true
  |some false=>qkF r c
  |none=>none
def qiD (cks:List (Option (Nat→Option Bool))) (x:D):RE ER:=match x with
 |.exc c []=>match qkF cks c with
  |some b=>ok (.bl b)
  |none=>.bad
 |_=>.bad
def qkY (ck ik:Option (Nat→Option Bool)) (x:D):RE ER:=
 match x with
 |.exc c fs=>match fs with
  |[]=>match ck with
   |some g=>match g c with
    |some b=>ok (.bl b)
    |none=>.bad
   |none=>.bad
  |_=>.bad
 |.ins c _=>match ik with
  |some g=>match g c with
   |some b=>ok (.bl b)
   |none=>.bad
  |none=>.bad
 |_=>.bad
def pkS:Sl→Sl
 |.row dss=>.val (.lst (dss.map D.lst)) true
 |s=>s
def frz (z:Bool) (ρ:List Sl):List Sl:=if z=true then ρ.map pkS else ρ
def pkR:RE ER→RE ER
 |.bad=>.bad
 |.exc c fs=>if D.flats fs=true then .exc c fs else .bad
 |.ok er=>match er with
  |.val d _=>if d.flat=true then .ok (.val d true) else .bad
  |.fre ds _=>if D.flats ds=true then .ok (.fre ds true) else .bad
  |.brw _ _=>.bad
def qfF {α:Type} (k:Int):List (Int × α)→Option α
 |[]=>none
 |e::r=>if e.1=k then some e.2 else qfF k r
def qqP {α:Type} (k:Int) (x:α) (m:List (Int × α)):List (Int × α):=m.map fun e=>if e.1=k then (e.1,x) else e
def dput {α:Type} (k:Int) (x:α) (m:List (Int × α)):List (Int × α):=if (qfF k m).isSome=true then qqP k x m else m++[(k,x)]
def qd5 (m:List (Int × D)) (n:Bool) (x:D):RE ER:=match x with
 |.int k=>ok (.bl ((qfF k m).isSome == n))
 |_=>.bad
def qkD (m:List (Int × D)) (b:Bool) (x:D):RE ER:=match x with
 |.int k=>match qfF k m with
  |some d=>.ok (.val d (b||d.flat))
  |none=>.bad
 |_=>.bad
def qly (t:List (List Nat × Option D)) (n:Bool) (x:D):RE ER:=
 match x with
 |.str s=>match t.lookup s with
  |some o=>ok (.bl (o.isSome == n))
  |none=>.bad
 |_=>.bad
def qnB (t:List (List Nat × Option D)) (x:D):RE ER:=
 match x with
 |.str s=>match t.lookup s with
  |some (some d)=>ok d
  |_=>.bad
 |_=>.bad
@[simp] def D.isNon:D→Bool
 |.non=>true
 |_=>false
mutual
@[simp] def ev (Γ:Env):Ex→List Sl→RE ER
 |.nev,_=>.bad
 |.var i,ρ=>match ρ[i]? with
  |some (.val d b)=>.ok (.val d b)
  |some (.own ds b)=>.ok (.brw ds b)
  |some (.fxd d _)=>.ok (.val d false)
  |_=>.bad
 |.cint i,_=>ok (.int i)
 |.cbl b,_=>ok (.bl b)
 |.cnon,_=>ok .non
 |.cstr s,_=>ok (.str s)
 |.glo k,_=>match Γ.gc[k]? with
  |some c=>.ok (.val c.2 true)
  |none=>.bad
 |.bin o a b,ρ=>(ev Γ a ρ).bind fun x=>(ev Γ b ρ).bind fun y=>evB o x.d y.d (x.b&&y.b)
 |.cmp o a b,ρ=>(ev Γ a ρ).bind fun x=>(ev Γ b ρ).bind fun y=>(evC o x.d y.d).bind fun c=>ok (.bl c)
 |.chn o p a b c,ρ=>(ev Γ a ρ).bind fun x=>(ev Γ b ρ).bind fun y=>(evC o x.d y.d).bind fun k=>if k=true then (ev Γ c ρ).bind fun z=>(evC p y.d z.d).bind fun k'=>ok (.bl k') else ok (.bl false)
 |.isN a,ρ=>(ev Γ a ρ).bind fun x=>ok (.bl x.d.isNon)
 |.notN a,ρ=>(ev Γ a ρ).bind fun x=>ok (.bl (!x.d.isNon))
 |.bop c es,ρ=>qi3 Γ c es ρ
 |.bnot a,ρ=>(ev Γ a ρ).bind fun x=>(qdv x.d).bind fun k=>ok (.bl (!k))
 |.neg a,ρ=>(ev Γ a ρ).bind fun x=>match x.d with
  |.int i=>ok (.int (-i))
  |_=>.bad
 |.ife c a b,ρ=>(evT Γ c ρ).bind fun k=>if k=true then ev Γ a ρ else ev Γ b ρ
 |.tup es,ρ=>(evs Γ es ρ).bind fun r=>dis (fun ds b=>.val (.tup ds) b) r
 |.lst es,ρ=>(evs Γ es ρ).bind fun r=>dis .fre r
 |.idx a i,ρ=>(ev Γ a ρ).bind fun x=>(ev Γ i ρ).bind fun y=>qot x.d y.d x.b
 |.slc a lo hi,ρ=>(ev Γ a ρ).bind fun x=>(evO Γ lo ρ).bind fun l=>(evO Γ hi ρ).bind fun h=>qro x.d l h x.b
 |.rev a,ρ=>(ev Γ a ρ).bind fun x=>match x.d with
  |.lst xs=>.ok (.fre xs.reverse x.b)
  |_=>.bad
 |.call f es,ρ=>match Γ.fn[f]? with
  |some g=>(evs Γ es ρ).bind fun r=>(g.2 (r.map ER.d)).bind (qbt (!r.all ER.isV))
  |none=>.bad
 |.callc f es,ρ=>match Γ.fn[f]? with
  |some g=>(evs Γ es ρ).bind fun r=>match qeA r with
   |some os=>(g.2 (r.map ER.d)).bind (qqI os)
   |none=>.bad
  |none=>.bad
 |.pri p es,ρ=>(evs Γ es ρ).bind fun r=>evP p r
 |.lrng es,ρ=>(evs Γ es ρ).bind fun r=>(qcp r).bind fun ns=>.ok (.fre (ns.map D.int) true)
 |.mth m o es,ρ=>(ev Γ o ρ).bind fun x=>match x.d with
  |.ins c fs=>match Γ.mt c m with
   |some g=>(evs Γ es ρ).bind fun r=>(g (.ins c fs::r.map ER.d)).bind (qbt (!r.all ER.isV))
   |none=>.bad
  |_=>.bad
 |.bm1 m o a,ρ=>(ev Γ o ρ).bind fun x=>match x.d with
  |.str s=>(ev Γ a ρ).bind fun y=>evM m s y.d
  |_=>.bad
 |.blen o,ρ=>(ev Γ o ρ).bind fun x=>match x.d with
  |.int i=>ok (.int (Builtin.Int.intBits i:Nat))
  |_=>.bad
 |.fld o f,ρ=>(ev Γ o ρ).bind fun x=>match x.d with
  |.ins c fs=>match Γ.fi c f with
   |some k=>match fs[k]? with
    |some d=>.ok (.val d d.flat)
    |none=>.bad
   |none=>.bad
  |_=>.bad
 |.isi a t,ρ=>(ev Γ a ρ).bind fun x=>qo4 x.d t
 |.lc own it tg cnd e,ρ=>(evI Γ it ρ).bind fun xs=>gd (leB xs.xs.length) ((lcl (fun x=>match qce tg x xs.b (wipeS ρ own) with
   |some ρ'=>noX ((qfw Γ true cnd ρ').bind fun k=>if k=true then (ev Γ e ρ').bind fun y=>match y with
    |.brw _ _=>.bad
    |y=>.ok (some (y.d,y.b)) else .ok none)
   |none=>.bad) xs.xs).bind fun r=>.ok (.fre r.1 r.2))
 |.inxL o a,ρ=>(ev Γ o ρ).bind fun x=>match x.d with
  |.lst xs=>(ev Γ a ρ).bind fun y=>qdm xs y.d
  |_=>.bad
 |.inxS o a,ρ=>(ev Γ o ρ).bind fun x=>match x.d with
  |.str s=>(ev Γ a ρ).bind fun y=>qhB s y.d
  |_=>.bad
 |.lset a,ρ=>(ev Γ a ρ).bind fun x=>qhq x.d
 |.new k es,ρ=>match Γ.nw[k]? with
  |some g=>(evs Γ es ρ).bind fun r=>(g.2 (r.map ER.d)).bind fun fs=>.ok (.val (.ins g.1 fs) true)
  |none=>.bad
 |.sfd i f,ρ=>match ρ[i]? with
  |some (.slf c fs)=>match Γ.fi c f with
   |some k=>match fs[k]? with
    |some d=>.ok (.val d true)
    |none=>.bad
   |none=>.bad
  |_=>.bad
 |.isc a k,ρ=>(ev Γ a ρ).bind fun x=>qkY (Γ.ck[k]?) (Γ.ik[k]?) x.d
 |.iscT a ks,ρ=>(ev Γ a ρ).bind fun x=>qiD (ks.map fun k=>Γ.ck[k]?) x.d
 |.cntL o a,ρ=>(ev Γ o ρ).bind fun x=>match x.d with
  |.lst xs=>(ev Γ a ρ).bind fun y=>qlt xs y.d
  |_=>.bad
 |.mmd k a d,ρ=>(ev Γ a ρ).bind fun x=>(ev Γ d ρ).bind fun y=>qpI k x.d y.d
 |.din n k e,ρ=>match Γ.dc[k]? with
  |some t=>(ev Γ e ρ).bind fun x=>qly t.2 n x.d
  |none=>.bad
 |.dgi k e,ρ=>match Γ.dc[k]? with
  |some t=>(ev Γ e ρ).bind fun x=>qnB t.2 x.d
  |none=>.bad
 |.srtL a,ρ=>(ev Γ a ρ).bind fun x=>qok x.d x.b
 |.sset a,ρ=>(ev Γ a ρ).bind fun x=>qjR x.d
 |.lrev a,ρ=>(ev Γ a ρ).bind fun x=>qjt x.d
 |.inxT k a,ρ=>match Γ.gc[k]? with
  |some c=>match qkW c.2 with
   |some ss=>(ev Γ a ρ).bind fun y=>qjY ss y.d
   |none=>.bad
  |none=>.bad
 |.dhas n i e,ρ=>match ρ[i]? with
  |some (.dct m _)=>(ev Γ e ρ).bind fun x=>qd5 m n x.d
  |_=>.bad
 |.dat i e,ρ=>match ρ[i]? with
  |some (.dct m b)=>(ev Γ e ρ).bind fun x=>qkD m b x.d
  |_=>.bad
 |.pk e,ρ=>pkR (ev Γ e (ρ.map pkS))
@[simp] def evs (Γ:Env):Exs→List Sl→RE (List ER)
 |.nil,_=>.ok []
 |.cons e es,ρ=>(ev Γ e ρ).bind fun x=>(evs Γ es ρ).bind fun r=>.ok (x.frz::r)
@[simp] def evO (Γ:Env):Exs→List Sl→RE (Option Int)
 |.nil,_=>.ok none
 |.cons e es,ρ=>(ev Γ e ρ).bind fun x=>match x.d with
  |.int i=>.ok (some i)
  |_=>.bad
@[simp] def evT (Γ:Env):Te→List Sl→RE Bool
 |.bop c es,ρ=>qfw Γ c es ρ
 |.not a,ρ=>(evT Γ a ρ).bind fun k=>.ok (!k)
 |.val e,ρ=>(ev Γ e ρ).bind fun x=>qdv x.d
@[simp] def qfw (Γ:Env) (c:Bool):Tes→List Sl→RE Bool
 |.nil,_=>.ok c
 |.cons e es,ρ=>(evT Γ e ρ).bind fun k=>if k=c then qfw Γ c es ρ else .ok k
@[simp] def qi3 (Γ:Env) (c:Bool):Exs→List Sl→RE ER
 |.nil,_=>ok (.bl c)
 |.cons e es,ρ=>(ev Γ e ρ).bind fun x=>match x.d with
  |.bl k=>if k=c then qi3 Γ c es ρ else ok (.bl k)
  |_=>.bad
@[simp] def evI (Γ:Env):Itx→List Sl→RE Wk
 |.any e,ρ=>(ev Γ e ρ).bind qgb
 |.rng es,ρ=>(evs Γ es ρ).bind fun r=>(qcp r).bind fun ns=>.ok ⟨ns.map D.int,true,false⟩
 |.zp a b,ρ=>(ev Γ a ρ).bind fun x=>(ev Γ b ρ).bind fun y=>match x.d,y.d with
  |.lst xs,.lst ys=>.ok ⟨List.zipWith (fun u v=>.tup [u,v]) xs ys,x.b&&y.b,x.isB||y.isB⟩
  |_,_=>.bad
 |.en a,ρ=>(ev Γ a ρ).bind fun x=>match x.d with
  |.lst xs=>.ok ⟨xs.zipIdx.map fun p=>.tup [.int p.2,p.1],x.b,x.isB⟩
  |_=>.bad
 |.rv a,ρ=>(ev Γ a ρ).bind fun x=>match x.d with
  |.lst xs=>.ok ⟨xs.reverse,x.b,x.isB⟩
  |_=>.bad
 |.rvr a,ρ=>(ev Γ a ρ).bind fun x=>match x.d with
  |.int n=>gd (qit n) (.ok ⟨(qcD (0+(((n - 0).toNat:Nat):Int) - 1) (-1) (n - 0).toNat).map D.int,true,false⟩)
  |_=>.bad
end
inductive Pth where
 |var (j:Nat)
 |ix (p:Pth) (k:Nat)
inductive Ch1 where
 |clr (p:Pth)
 |app (p:Pth) (e:Ex)
 |put (p:Pth) (k:Nat) (e:Ex)
inductive Ch where
 |nil
 |one (c:Ch1) (r:Ch)
 |wlk (l:Nat) (p:Pth) (b:List Ch1) (r:Ch)
 |ifs (j:Nat) (b r:Ch)
mutual
def qbk:Ex→Bool
 |.cint _=>true
 |.cstr _=>true
 |.cbl _=>true
 |.cnon=>true
 |.tup es=>qki es
 |.lst es=>qki es
 |_=>false
def qki:Exs→Bool
 |.nil=>true
 |.cons e es=>qbk e&&qki es
end
@[simp] def D.isRef:D→Bool
 |.lst _=>true
 |.tup _=>true
 |.ins _ _=>true
 |.exc _ _=>true
 |_=>false
def clD (ds:List D):Nat:=if ds.isEmpty then 0 else if ds.any D.isRef then 2 else 1
abbrev Zs:=List Nat × Nat
def qkK (τ:List (Nat × D)) (Z:Zs):Pth→Option D
 |.var j=>τ.lookup j
 |.ix p k=>match qkK τ Z p with
  |some (.tup ds)=>ds[k]?
  |some (.lst ds)=>if clD ds∈Z.1 then none else ds[k]?
  |_=>none
def qh9 (τ:List (Nat × D)) (Z:Zs):Ch1→Option Zs
 |.clr p=>match qkK τ Z p with
  |some (.lst ds)=>some (clD ds::Z.1,Z.2)
  |_=>none
 |.app p e=>match qkK τ Z p with
  |some (.lst ds)=>if (qbk e&&leB (ds.length+(Z.2+1)))=true then some (clD ds::Z.1,Z.2+1) else none
  |_=>none
 |.put p k e=>match qkK τ Z p with
  |some (.lst ds)=>if clD ds∈Z.1 then none else if (qbk e&&decide (k<ds.length))=true then some (clD ds::Z.1,Z.2) else none
  |_=>none
def qjo (τ:List (Nat × D)):List Ch1→Zs→Option Zs
 |[],Z=>some Z
 |c::cs,Z=>(qh9 τ Z c).bind (qjo τ cs)
def ql7 (f:D→Zs→Option Zs):List D→Zs→Option Zs
 |[],Z=>some Z
 |d::ds,Z=>(f d Z).bind (ql7 f ds)
def drp (l:Nat) (τ:List (Nat × D)):List (Nat × D):=τ.filter fun e=>e.1 != l
def qjE (ls:List Nat) (τ:List (Nat × D)):List (Nat × D):=τ.filter fun e=>!ls.contains e.1
def Ch.tgs:Ch→List Nat
 |.nil=>[]
 |.one _ r=>r.tgs
 |.wlk l _ _ r=>l::r.tgs
 |.ifs _ b r=>b.tgs++r.tgs
def chg:Ch→List (Nat × D)→Zs→Option Zs
 |.nil,_,Z=>some Z
 |.one c r,τ,Z=>(qh9 τ Z c).bind (chg r τ)
 |.wlk l p b r,τ,Z=>match qkK τ Z p with
  |some (.lst ds)=>(ql7 (fun d Z=>qjo ((l,d)::drp l τ) b Z) ds Z).bind fun Z'=>if clD ds∈Z'.1 then none else chg r (drp l τ) Z'
  |_=>none
 |.ifs j b r,τ,Z=>match τ.lookup j with
  |some d=>if d.isNon=true then chg r (qjE b.tgs τ) Z else (chg b τ Z).bind (chg r (qjE b.tgs τ))
  |none=>none
def Ch1.len:List Ch1→Nat:=List.length
def Ch.len:Ch→Nat
 |.nil=>0
 |.one _ r=>r.len+1
 |.wlk _ _ _ r=>r.len+1
 |.ifs _ _ r=>r.len+1
def ent (k:Nat):Sl→Sl
 |.val d b=>if (b||d.flat)=true then .val d b else .fxd d k
 |.own ds b=>.own ds b
 |.fxd d _=>.fxd d k
 |_=>.non
def qg6:Nat→List Sl→List Sl
 |_,[]=>[]
 |k,q::qs=>ent k q::qg6 (k+1) qs
def ext (k:Nat) (q:Sl):Sl→Sl
 |.val d b=>if (b||d.flat)=true then .val d b else .non
 |.own ds b=>if (b||D.flats ds)=true then .own ds b else .non
 |.fxd _ j=>if j=k then (match q with
  |.val d b=>.val d b
  |.fxd d m=>.fxd d m
  |_=>.non) else .non
 |_=>.non
def qgG (ρ:List Sl):Nat→List Sl→List Sl
 |_,[]=>[]
 |k,r::rs=>ext k (ρ[k]?.getD .non) r::qgG ρ (k+1) rs
def qir:ER→Option D
 |.val d b=>if (b||d.flat)=true then some d else none
 |.fre ds b=>if (b||D.flats ds)=true then some (.lst ds) else none
 |.brw _ _=>none
mutual
def noK (k:Nat):D→Bool
 |.lst ds=>(clD ds != k)&&qmE k ds
 |.tup ds=>qmE k ds
 |_=>true
def qmE (k:Nat):List D→Bool
 |[]=>true
 |d::ds=>noK k d&&qmE k ds
end
def qgV:ER→Option (List D × List D)
 |.val (.tup [.lst ds,.lst es]) true=>if (D.flats ds&&(clD ds != clD es)&&qmE (clD es) es)=true then some (ds,es) else none
 |_=>none
inductive Tr where
 |ex (e:Ex)
 |as (j:Nat) (e:Ex)
 |iff (t:Te) (a b:Tr)
mutual
inductive Sm where
 |nev
 |rse (k:Nat)
 |tryx (k i j:Nat) (b:Tr)
 |asg (i:Nat) (e:Ex)
 |own (i:Nat) (e:Ex)
 |asgT (tg:List Nat) (e:Ex)
 |par (tg:List Nat) (es:Exs)
 |put (i:Nat) (ix e:Ex)
 |app (i:Nat) (e:Ex)
 |ext (i:Nat) (e:Ex)
 |popv (j i:Nat)
 |clr (i:Nat)
 |expr (e:Ex)
 |ret (e:Ex)
 |retN
 |pas
 |brk
 |cnt
 |iff (c:Te) (a b:Sms)
 |for (it:Itx) (tg:List Nat) (b:Sms)
 |whl (c:Te) (b:Sms)
 |apop (i j:Nat) (ix:Ex)
 |popx (i:Nat) (ix:Ex)
 |rmv (i:Nat) (e:Ex)
 |fset (f:Nat) (e:Ex)
 |dnew (i:Nat)
 |dput (i:Nat) (ix e:Ex)
 |tapp (o e:Ex)
 |tclr (o:Ex)
 |row (i:Nat) (es:Exs)
 |rapp (i k:Nat) (e:Ex)
 |rclr (i k:Nat)
 |rput (z:Bool) (i k:Nat) (ix e:Ex)
 |asgO (i j f:Nat) (es:Exs)
inductive Sms where
 |nil
 |cons (s:Sm) (ss:Sms)
 |frz (i:Nat) (ss:Sms)
 |hav (i f:Nat) (es:Exs) (rd:Sms) (cs:Ch) (ss:Sms)
end
inductive Out where
 |bad | nx (ρ:List Sl) | brk (ρ:List Sl) | cnt (ρ:List Sl) | ret (er:ER) | exc (c:Nat) (fs:List D)
def RE.out {α:Type}:RE α→(α→Out)→Out
 |.bad,_=>.bad
 |.ok a,f=>f a
 |.exc c fs,_=>.exc c fs
@[simp] theorem RE.out_ok {α:Type} (a:α) (f:α→Out):(RE.ok a).out f=f a:=rfl
@[simp] theorem RE.out_bad {α:Type} (f:α→Out):(RE.bad:RE α).out f=.bad:=rfl
@[simp] theorem RE.out_exc {α:Type} (c:Nat) (fs:List D) (f:α→Out):(RE.exc c fs:RE α).out f=.exc c fs:=rfl
def gdO (b:Bool) (o:Out):Out:=match b with
 |true=>o
 |false=>.bad
@[simp] theorem qbP (o:Out):gdO true o=o:=rfl
theorem qas (b:Bool) (o:Out):gdO b o=if b=true then o else .bad:=by cases b<;>rfl
def Out.seq:Out→(List Sl→Out)→Out
 |.nx ρ,f=>f ρ
 |o,_=>o
@[simp] theorem Out.seq_nx (ρ:List Sl) (f:List Sl→Out):(Out.nx ρ).seq f=f ρ:=rfl
@[simp] theorem Out.seq_ret (e:ER) (f:List Sl→Out):(Out.ret e).seq f=.ret e:=rfl
@[simp] theorem Out.seq_brk (ρ:List Sl) (f:List Sl→Out):(Out.brk ρ).seq f=.brk ρ:=rfl
@[simp] theorem Out.seq_cnt (ρ:List Sl) (f:List Sl→Out):(Out.cnt ρ).seq f=.cnt ρ:=rfl
@[simp] theorem Out.seq_bad (f:List Sl→Out):Out.bad.seq f=.bad:=rfl
@[simp] theorem Out.seq_exc (c:Nat) (fs:List D) (f:List Sl→Out):(Out.exc c fs).seq f=.exc c fs:=rfl
def qdc (f:D→List Sl→Out):List D→List Sl→Out
 |[],ρ=>.nx ρ
 |x::xs,ρ=>match f x ρ with
  |.nx ρ'=>qdc f xs ρ'
  |.cnt ρ'=>qdc f xs ρ'
  |.brk ρ'=>.nx ρ'
  |o=>o
def qdu (c:List Sl→RE Bool) (f:List Sl→Out):Nat→List Sl→Out
 |0,_=>.bad
 |n+1,ρ=>(c ρ).out fun k=>if k=true then (match f ρ with
  |.nx ρ'=>qdu c f n ρ'
  |.cnt ρ'=>qdu c f n ρ'
  |.brk ρ'=>.nx ρ'
  |o=>o) else .nx ρ
def qp2:Nat:=1000000000
@[simp] def qrf:ER→ER
 |.brw ds b=>.fre ds b
 |e=>e
def qaI (ρ:List Sl) (i:Nat) (f:List D→Bool→Out):Out:=
 match ρ[i]? with
 |some (.own ds b)=>f ds b
 |_=>.bad
def qis (ρ:List Sl) (i:Nat) (f:List (Int × D)→Bool→Out):Out:=
 match ρ[i]? with
 |some (.dct m b)=>f m b
 |_=>.bad
def qez (ρ:List Sl) (i k:Nat) (f:List (List D)→List D→Out):Out:=
 match ρ[i]? with
 |some (.row dss)=>match dss[k]? with
  |some ds=>f dss ds
  |none=>.bad
 |_=>.bad
def evF (Γ:Env):Exs→List Sl→RE (List (List D))
 |.nil,_=>.ok []
 |.cons e es,ρ=>(ev Γ e ρ).bind fun x=>match x with
  |.fre ds _=>if D.flats ds=true then (evF Γ es ρ).bind fun r=>.ok (ds::r) else .bad
  |_=>.bad
def qsA (ρ:List Sl) (i:Nat) (f:D→Bool→Out):Out:=
 match ρ[i]? with
 |some (.val d b)=>f d b
 |_=>.bad
@[simp] def held (er:ER) (f:D→Bool→Out):Out:=
 match er with
 |.brw _ _=>.bad
 |.val d b=>f d b
 |.fre ds b=>f (.lst ds) b
def onB (o:Option (List Sl)) (k:List Sl→Out):Out:=
 match o with
 |some ρ=>k ρ
 |none=>.bad
@[simp] def heldF (er:ER) (f:D→Out):Out:=
 match er with
 |.brw _ _=>.bad
 |.val d b=>gdO (b||d.flat) (f d)
 |.fre ds b=>gdO (b||D.flats ds) (f (.lst ds))
def qlx:List Sl→Bool
 |[]=>true
 |.slf _ _::_=>false
 |_::ρ=>qlx ρ
def qlG (ρ:List Sl) (f:Nat→List D→List Sl→Out):Out:=
 match ρ with
 |.slf c fs::r=>if qlx r=true then f c fs r else .bad
 |_=>.bad
@[simp] theorem qhw (ρ:List Sl) (k:List Sl→Out):onB (some ρ) k=k ρ:=rfl
@[simp] theorem qqJ (k:List Sl→Out):onB none k=.bad:=rfl
@[simp] def qi2:List Nat→List ER→List Sl→Out
 |[],[],ρ=>.nx ρ
 |i::tg,e::es,ρ=>held e fun d b=>qi2 tg es (ρ.set i (.val d b))
 |_,_,_=>.bad
def Out.hv (o:Out) (ρ:List Sl) (i:Nat) (d:D) (cs:Ch) (f:List Sl→Out):Out:=
 match o with
 |.nx ρ'=>(match ρ'[i]? with
  |some (.fxd _ k)=>gdO (k == i&&cs.tgs.all fun l=>Nat.blt l ρ'.length) (match chg cs [(i,d)] ([],0) with
   |some _=>f (wipeS (qgG (ρ.set i .non) 0 ρ') cs.tgs)
   |none=>.bad)
  |_=>.bad)
 |.ret er=>(match qir er with
  |some _=>.ret er
  |none=>.bad)
 |.exc c fs=>.exc c fs
 |_=>.bad
def trB (Γ:Env):Tr→List Sl→RE (List Sl)
 |.ex e,ρ=>(ev Γ e ρ).bind fun _=>.ok ρ
 |.as j e,ρ=>(ev Γ e ρ).bind fun x=>match x with
  |.brw _ _=>.bad
  |.val d b=>.ok (ρ.set j (.val d b))
  |.fre ds b=>.ok (ρ.set j (.val (.lst ds) b))
 |.iff t a b,ρ=>(evT Γ t ρ).bind fun k=>if k=true then trB Γ a ρ else trB Γ b ρ
def trX (g:Option (Nat→Option Bool)) (i j:Nat) (ρ:List Sl):RE (List Sl)→Out
 |.ok ρ'=>.nx ρ'
 |.bad=>.bad
 |.exc c fs=>match g with
  |some g=>match g c with
   |some true=>if i=j then .bad else (match fs with
    |[]=>.nx ((ρ.set j (.val (.exc c []) true)).set i .non)
    |_=>.bad)
   |some false=>.exc c fs
   |none=>.bad
  |none=>.bad
mutual
@[simp] def run (Γ:Env):Sm→List Sl→Out
 |.nev,_=>.bad
 |.rse k,_=>match Γ.xk[k]? with
  |some c=>.exc c []
  |none=>.bad
 |.tryx k i j b,ρ=>trX Γ.ck[k]? i j ρ (trB Γ b ρ)
 |.asg i e,ρ=>(ev Γ e ρ).out fun x=>held x fun d b=>.nx (ρ.set i (.val d b))
 |.own i e,ρ=>(ev Γ e ρ).out fun x=>match x with
  |.fre ds b=>.nx (ρ.set i (.own ds b))
  |.val .non _=>.nx (ρ.set i (.val .non true))
  |_=>.bad
 |.asgT tg e,ρ=>(ev Γ e ρ).out fun x=>held x fun d b=>onB (qce tg d b ρ) .nx
 |.par tg es,ρ=>(evs Γ es ρ).out fun r=>qi2 tg r ρ
 |.put i ix e,ρ=>(ev Γ e ρ).out fun x=>held x fun d b=>qaI ρ i fun ds c=>(ev Γ ix ρ).out fun k=>match k.d with
  |.int k=>match ixN ds.length k with
   |some j=>.nx (ρ.set i (.own (ds.set j d) (b&&c)))
   |none=>.bad
  |_=>.bad
 |.app i e,ρ=>qaI ρ i fun ds c=>(ev Γ e ρ).out fun x=>held x fun d b=>gdO (leB (ds.length+1)) (.nx (ρ.set i (.own (ds++[d]) (b&&c))))
 |.ext i e,ρ=>qaI ρ i fun ds c=>(ev Γ e ρ).out fun x=>match x with
  |.fre es b=>gdO (leB (ds.length+es.length)) (.nx (ρ.set i (.own (ds++es) (b&&c))))
  |_=>.bad
 |.popv j i,ρ=>qaI ρ i fun ds c=>match ds.getLast? with
  |some d=>.nx ((ρ.set i (.own ds.dropLast c)).set j (.val d c))
  |none=>.bad
 |.clr i,ρ=>qaI ρ i fun _ _=>.nx (ρ.set i (.own [] true))
 |.expr e,ρ=>(ev Γ e ρ).out fun _=>.nx ρ
 |.ret e,ρ=>(ev Γ e ρ).out fun x=>.ret (qrf x)
 |.retN,_=>.ret (.val .non true)
 |.pas,ρ=>.nx ρ
 |.brk,ρ=>.brk ρ
 |.cnt,ρ=>.cnt ρ
 |.iff c a b,ρ=>(evT Γ c ρ).out fun k=>if k=true then qaj Γ a ρ else qaj Γ b ρ
 |.for it tg b,ρ=>(evI Γ it ρ).out fun w=>if w.own=true then .bad else qdc (fun x ρ=>onB (qce tg x w.b ρ) fun ρ'=>qaj Γ b ρ') w.xs ρ
 |.apop i j ix,ρ=>if i=j then .bad else qaI ρ i fun ds c=>qaI ρ j fun es c2=>(ev Γ ix ρ).out fun k=>match k.d with
  |.int k=>match ixN es.length k with
   |some m=>match es[m]? with
    |some d=>gdO (leB es.length) (gdO (leB (ds.length+1)) (.nx ((ρ.set j (.own (es.eraseIdx m) c2)).set i (.own (ds++[d]) (c2&&c)))))
    |none=>.bad
   |none=>.bad
  |_=>.bad
 |.popx i ix,ρ=>qaI ρ i fun ds c=>(ev Γ ix ρ).out fun k=>match k.d with
  |.int k=>match ixN ds.length k with
   |some m=>match ds[m]? with
    |some _=>gdO (leB ds.length) (.nx (ρ.set i (.own (ds.eraseIdx m) c)))
    |none=>.bad
   |none=>.bad
  |_=>.bad
 |.rmv i e,ρ=>qaI ρ i fun ds c=>(ev Γ e ρ).out fun k=>match k.d with
  |.int k=>match qaq ds with
   |some ns=>match qmz k ns with
    |some m=>.nx (ρ.set i (.own (ds.eraseIdx m) c))
    |none=>.bad
   |none=>.bad
  |_=>.bad
 |.fset f e,ρ=>(ev Γ e ρ).out fun x=>heldF x fun d=>qlG ρ fun c fs r=>match Γ.fi c f with
  |some k=>if k=fs.length then gdO (Nat.ble k 900) (.nx (.slf c (fs++[d])::r)) else .bad
  |none=>.bad
 |.asgO i j f es,ρ=>match Γ.fn[f]? with
  |some g=>(evs Γ es ρ).out fun r=>(g.2 (r.map ER.d)).out fun er=>match qgV er with
   |some p=>if i=j then .bad else .nx ((ρ.set i (.val (.lst p.1) true)).set j (.own p.2 true))
   |none=>.bad
  |none=>.bad
 |.dnew i,ρ=>.nx (ρ.set i (.dct [] true))
 |.dput i ix e,ρ=>(ev Γ e ρ).out fun x=>held x fun d b=>qis ρ i fun m c=>(ev Γ ix ρ).out fun k=>match k.d with
  |.int k=>gdO (leB (m.length+1)) (.nx (ρ.set i (.dct (dput k d m) (b&&c))))
  |_=>.bad
 |.row i es,ρ=>(evF Γ es ρ).out fun dss=>gdO (leB dss.length) (.nx (ρ.set i (.row dss)))
 |.rapp i k e,ρ=>qez ρ i k fun dss ds=>(ev Γ e ρ).out fun x=>held x fun d _=>gdO (d.flat&&leB (ds.length+1)) (.nx (ρ.set i (.row (dss.set k (ds++[d])))))
 |.rclr i k,ρ=>qez ρ i k fun dss _=>.nx (ρ.set i (.row (dss.set k [])))
 |.rput z i k ix e,ρ=>(ev Γ e ρ).out fun x=>held x fun d _=>qez ρ i k fun dss ds=>(ev Γ ix ρ).out fun m=>match m.d with
  |.int m=>match ixN ds.length m with
   |some j=>gdO d.flat (.nx (frz z (ρ.set i (.row (dss.set k (ds.set j d))))))
   |none=>.bad
  |_=>.bad
 |.tapp o e,ρ=>(ev Γ o ρ).out fun x=>match x with
  |.fre ds _=>(ev Γ e ρ).out fun y=>held y fun _ _=>gdO (leB (ds.length+1)) (.nx ρ)
  |_=>.bad
 |.tclr o,ρ=>(ev Γ o ρ).out fun x=>match x with
  |.fre _ _=>.nx ρ
  |_=>.bad
 |.whl c b,ρ=>qdu (fun ρ=>evT Γ c ρ) (fun ρ=>qaj Γ b ρ) qp2 ρ
@[simp] def qaj (Γ:Env):Sms→List Sl→Out
 |.nil,ρ=>.nx ρ
 |.cons s ss,ρ=>(run Γ s ρ).seq fun ρ'=>qaj Γ ss ρ'
 |.frz i ss,ρ=>qaI ρ i fun ds b=>qaj Γ ss (ρ.set i (.val (.lst ds) b))
 |.hav i f es rd cs ss,ρ=>match Γ.fn[f]? with
  |some g=>(evs Γ es ρ).out fun r=>(g.2 (r.map ER.d)).out fun er=>match qir er with
   |some d=>gdO (Nat.blt i ρ.length) ((qaj Γ rd ((qg6 0 ρ).set i (.fxd d i))).hv ρ i d cs fun ρ2=>qaj Γ ss ρ2)
   |none=>.bad
  |none=>.bad
end
@[simp] def Out.fin:Out→RE ER
 |.ret er=>.ok er
 |.nx _=>ok .non
 |.exc c fs=>.exc c fs
 |_=>.bad
def qcr (Γ:Env) (n m:Nat) (b:Sms) (ds:List D):RE ER:=
 if ds.length=n then (qaj Γ b (ds.map (fun d=>Sl.val d d.flat)++List.replicate m .non)).fin else .bad
def qrS (Γ:Env) (c nf n m:Nat) (b:Sms) (ds:List D):RE (List D):=
 if ds.length=n then (match qaj Γ b (.slf c []::(ds.map (fun d=>Sl.val d d.flat)++List.replicate m .non)) with
  |.nx (.slf c' fs::_)=>if c'=c then (if fs.length=nf then .ok fs else .bad) else .bad
  |.exc c fs=>.exc c fs
  |_=>.bad) else .bad
def Sms.hd:Sms→Sm
 |.cons s _=>s
 |_=>.nev
def Sms.tl:Sms→Sms
 |.cons _ ss=>ss
 |.frz _ ss=>ss
 |.hav _ _ _ _ _ ss=>ss
 |.nil=>.nil
def Sms.len:Sms→Nat
 |.nil=>0
 |.cons _ ss=>ss.len+1
 |.frz _ ss=>ss.len
 |.hav _ _ _ rd cs ss=>rd.len+(cs.len+(ss.len+1))
def Sm.bd:Sm→Sms
 |.for _ _ b=>b
 |.whl _ b=>b
 |.iff _ a _=>a
 |_=>.nil
def Out.fst:Out→Option (Sl × Nat)
 |.nx (t::r)=>some (t,r.length)
 |_=>none
theorem qfB {x k:Int}:∀{l:List Int},k∈qmJ x l↔k=x∨k∈l
 |[]=>by simp[qmJ]
 |y::ys=>by
  unfold qmJ
  split
  ·simp
  ·split
   ·rename_i e;subst e;simp
   ·rw[List.mem_cons,qfB,List.mem_cons]
    constructor
    ·rintro(h | h | h)<;>simp[h]
    ·rintro(h | h | h)<;>simp[h]
theorem qhG {x:Int}:∀{l:List Int},l.Pairwise (· < ·)→(qmJ x l).Pairwise (· < ·)
 |[],_=>by simp[qmJ]
 |y::ys,h=>by
  have h0:=h
  rw[List.pairwise_cons] at h
  unfold qmJ
  split
  ·rename_i lt
   rw[List.pairwise_cons]
   refine⟨fun z hz=>?_,h0⟩
   rcases List.mem_cons.mp hz with e | hz
   ·rw[e];exact lt
   ·exact Int.lt_trans lt (h.1 z hz)
  ·split
   ·exact h0
   ·rw[List.pairwise_cons]
    refine⟨fun z hz=>?_,qhG h.2⟩
    rcases qfB.mp hz with e | hz
    ·omega
    ·exact h.1 z hz
theorem qhO {k:Int}:∀{l:List Int},k∈qiy l↔k∈l
 |[]=>by simp[qiy]
 |x::xs=>by rw[qiy,qfB,qhO,List.mem_cons]
theorem qho:∀(l:List Int),(qiy l).Pairwise (· < ·)
 |[]=>.nil
 |x::xs=>qhG (qho xs)
theorem qhQ:∀{a b:List Int},a.Pairwise (· < ·)→b.Pairwise (· < ·)→(∀k,k∈a↔k∈b)→a=b
 |[],[],_,_,_=>rfl
 |[],y::b,_,_,h=>by have:=(h y).mpr (by simp);cases this
 |x::a,[],_,_,h=>by have:=(h x).mp (by simp);cases this
 |x::a,y::b,ha,hb,h=>by
  have ha0:=List.pairwise_cons.mp ha
  have hb0:=List.pairwise_cons.mp hb
  have e:x=y:=by
   have h1:=(h x).mp (by simp)
   have h2:=(h y).mpr (by simp)
   rcases List.mem_cons.mp h1 with e | h1
   ·exact e
   ·rcases List.mem_cons.mp h2 with e | h2
    ·exact e.symm
    ·have:=hb0.1 x h1
     have:=ha0.1 y h2
     omega
  subst e
  congr 1
  refine qhQ ha0.2 hb0.2 fun k=>?_
  constructor
  ·intro m
   have lt:=ha0.1 k m
   rcases List.mem_cons.mp ((h k).mp (by simp[m])) with e | z
   ·omega
   ·exact z
  ·intro m
   have lt:=hb0.1 k m
   rcases List.mem_cons.mp ((h k).mpr (by simp[m])) with e | z
   ·omega
   ·exact z
end Cm
namespace Cm
open PySem PySem.Spec PyProof.Rows L2
section
variable (C:Ctx)
def res {α:Type} (σ:L2.St) (P N H:Hp) (r:RE α) (K:α→Hp→Hp→Hp→Prop):Prop:=
 match r with
 |.bad=>False
 |.ok a=>∀P' N' H',Adv P N H P' N' H'→K a P' N' H'
 |.exc c fs=>∀d P' N' H',Adv P N H P' N' H'→ExR C P' N' H' fs d→C.W (.ref (C.G.ca c)) d σ H'
def kE (H:Hp) (Q:VK):ER→Hp→Hp→Hp→Prop:=fun er P' N' H'=>∀v,ERr C P' N' H' H er v→Q v H'
def tE (g:List Sl→RE ER):TE:=fun σ H Q=>∃ρ P N,SR C P N H ρ σ∧res C σ P N H (g ρ) (kE C H Q)
def tT (g:List Sl→RE Bool):TT:=fun σ H Q=>∃ρ P N,SR C P N H ρ σ∧res C σ P N H (g ρ) fun k _ _ H'=>Q k H'
def tA (g:List Sl→RE (List ER)):TA:=fun σ H Q=>∃ρ P N,SR C P N H ρ σ∧res C σ P N H (g ρ) fun es P' N' H'=>∀vs,ERs C P' N' H' H es vs→Q vs H'
def tO (g:List Sl→RE (Option Int)):TO:=fun σ H Q=>∃ρ P N,SR C P N H ρ σ∧res C σ P N H (g ρ) fun k _ _ H'=>Q k H'
end
section
variable {C:Ctx} {σ:L2.St} {P N H P1 N1 H1:Hp} {α β:Type} {K K':α→Hp→Hp→Hp→Prop}
theorem res.adv {r:RE α} (a:Adv P N H P1 N1 H1) (h:res C σ P N H r K):res C σ P1 N1 H1 r K:=by
 cases r with
 |bad=>exact h
 |ok x=>exact fun P' N' H' b=>h P' N' H' (a.trans b)
 |exc c fs=>exact fun d P' N' H' b=>h d P' N' H' (a.trans b)
theorem res.mono {r:RE α} (h:res C σ P N H r K) (f:∀a P' N' H',r=.ok a→Adv P N H P' N' H'→K a P' N' H'→K' a P' N' H'):res C σ P N H r K':=by
 cases r with
 |bad=>exact h
 |ok x=>exact fun P' N' H' b=>f _ _ _ _ rfl b (h P' N' H' b)
 |exc c fs=>exact h
theorem res.bind {r:RE α} {f:α→RE β} {K:β→Hp→Hp→Hp→Prop} (h:res C σ P N H (r.bind f) K):res C σ P N H r fun a P1 N1 H1=>res C σ P1 N1 H1 (f a) K:=by
 cases r with
 |bad=>exact h
 |ok x=>exact fun P' N' H' b=>res.adv b h
 |exc c fs=>exact h
theorem res.now {a:α} (r:Reg C P N H) (h:res C σ P N H (.ok a) K):K a P N H:=h _ _ _ (Adv.refl r.pH r.nH)
theorem res.val {H0:Hp} {Q:VK} {d:D} {b:Bool} {v:V} (r:Reg C P N H) (h:res C σ P N H (.ok (.val d b)) (kE C H0 Q)) (x:RepB C P N b d v):Q v H:=h _ _ _ (Adv.refl r.pH r.nH) v x
theorem res.fre {H0:Hp} {Q:VK} {ds:List D} {b:Bool} {xs:List V} {p:Addr} (r:Reg C P N H) (h:res C σ P N H (.ok (.fre ds b)) (kE C H0 Q)) (e:L2.Same H0 H) (x:RepsB C P N b ds xs) (hp:H p=none):Q (.ref p) (upd H p (.lst xs)):=
 h P N (upd H p (.lst xs)) ((Adv.refl r.pH r.nH).heap (qan hp)) _ ⟨p,xs,rfl,upd_same,e.free hp,r.pH.free hp,r.nH.free hp,x⟩
theorem res.tup {H0:Hp} {Q:VK} {ds:List D} {b:Bool} {xs:List V} {p:Addr} (r:Reg C P N H) (h:res C σ P N H (.ok (.val (.tup ds) b)) (kE C H0 Q)) (x:RepsB C P N b ds xs) (hp:H p=none):Q (.ref p) (upd H p (.tup xs)):=
 h (upd P p (.tup xs)) N (upd H p (.tup xs)) ((Adv.refl r.pH r.nH).newP hp) _ ⟨p,xs,rfl,.inl (.inl upd_same),RepsB.adv (qan (r.pH.free hp)) (L2.Same.refl _) x⟩
theorem ERw.int {i:Int} {b:Bool} {v:V} (h:ERw C P N H (.int i) b v):v=.int i:=h
theorem ERw.bl {i:Bool} {b:Bool} {v:V} (h:ERw C P N H (.bl i) b v):v=.bl i:=h
theorem ERw.str {s:List Nat} {b:Bool} {v:V} (h:ERw C P N H (.str s) b v):v=.str ⟨s.toArray⟩:=h
theorem ERw.lst {ds:List D} {b:Bool} {v:V} (h:ERw C P N H (.lst ds) b v):∃p xs,v=.ref p∧SqL C.G.K H p xs∧RepsB C P N b ds xs:=h
theorem ERw.tup {ds:List D} {b:Bool} {v:V} (r:Reg C P N H) (h:ERw C P N H (.tup ds) b v):∃p xs,v=.ref p∧SqT C.G.K H p xs∧RepsB C P N b ds xs:=by
 obtain⟨a,xs,e,h1,h2⟩:=h
 exact⟨a,xs,e,Same.seqT r.pH h1,h2⟩
theorem ERw.dp {d:D} {b:Bool} {v:V} {n:Nat} (r:Reg C P N H) (h:ERw C P N H d b v) (f:d.fit n=true):Dp C.G.K H v d.py:=by
 have hl:∀a xs,LNb C.G.K P N C.R b a xs→SqL C.G.K H a xs:=LNb.seq r.pH r.nH r.rH
 cases d with
 |lst ds =>
  obtain⟨p,xs,rfl,h1,h2⟩:=h
  simp only[D.fit,Bool.and_eq_true] at f
  exact .lst h1 (Reps.dp r.pH hl ds xs _ f.2 h2)
 |_=>exact Rep.dp r.pH hl _ v n f h
def qrM (C:Ctx) (op:D→D→Bool→RE ER) (r:R2):Prop:=∀{P N H H0:Hp} {σ:L2.St} {x y:D} {b c:Bool} {v u:V} {Q:VK},Reg C P N H→ERw C P N H x b v→ERw C P N H y c u→L2.Same H0 H →
 res C σ P N H (op x y (b&&c)) (kE C H0 Q)→r v u H Q
theorem qpl {X:Cx} {op:Operator} {f:D→D→Bool→RE ER} {r:R2} {a b:Expr} {ga gb:List Sl→RE ER} {pos:Pos} (ho:OpR X (binaryOp op) r) (hf:qrM C f r) (ha:PE X a (tE C ga)) (hb:PE X b (tE C gb)) :
  PE X (.BinOp a op b pos) (tE C fun ρ=>(ga ρ).bind fun x=>(gb ρ).bind fun y=>f x.d y.d (x.b&&y.b)):=by
 refine⟨fun pins s σ H Q I h=>(pe_op ho ha hb).run pins s σ H Q I ?_⟩
 obtain⟨ρ,P,N,S,h⟩:=h
 refine⟨ρ,P,N,S,h.bind.mono fun x P1 N1 H1 _ a1 h1 v rv=>⟨ρ,P1,N1,S.adv a1,h1.bind.mono fun y P2 N2 H2 _ a2 h2 u ru=>?_⟩⟩
 have r2:=(S.adv (a1.trans a2)).reg
 exact hf r2 ((rv.adv a2).w r2) (ru.w r2) (a1.trans a2).hh h2
def qso (C:Ctx) (op:D→D→RE Bool) (r:R2):Prop:=∀{P N H:Hp} {x y:D} {b c:Bool} {v u:V} {Q:VK} {k:Bool},Reg C P N H→ERw C P N H x b v→ERw C P N H y c u→op x y=.ok k→Q (.bl k) H→r v u H Q
def qev {α:Type}:RE α→Prop
 |.exc _ _=>False
 |_=>True
theorem qiB (x y:D):qev (qiu x y):=by
 unfold qiu
 split<;>first | trivial | (split<;>trivial)
theorem qiV (x y:D):qev (qmu x y):=by
 unfold qmu
 split
 ·split<;>trivial
 ·split<;>trivial
 ·split<;>trivial
 ·trivial
theorem qjp (o:Cop) (x y:D):qev (evC o x y):=by
 cases o<;>simp only[evC]
 ·exact qiB x y
 ·have:=qiB x y
  cases h:qiu x y<;>simp_all[qev]
 ·split<;>trivial
 ·split<;>trivial
 ·split<;>trivial
 ·split<;>trivial
 ·exact qiV x y
 ·have:=qiV x y
  cases h:qmu x y<;>simp_all[qev]
end
end Cm
namespace Cm
open PySem PySem.Spec PyProof.Rows L2
section
variable {X:Cx}
def qp3 (K:PySem.W.Frag):R2:=fun x y H Q=>∃l b xs zs,x=.ref l∧y=.ref b∧SqL K H l xs∧SqL K H b zs∧xs.length+zs.length≤sizeLine∧∀p,H p=none→Q (.ref p) (upd H p (.lst (xs++zs)))
theorem qon:OpR X (binaryOp .Add) (qp3 X.K):=by
 intro pins s σ H x y v u Q I rx ry hh
 obtain⟨l,b,xs,zs,rfl,rfl,hH,hB,hz,qq⟩:=hh
 cases rx
 cases ry
 obtain⟨its,r,p,_⟩:=I.list hH
 obtain⟨its2,r2,p2,_⟩:=I.list hB
 obtain⟨⟨cls,dd,data,sl⟩,n,ho,hc,hdd,hd⟩:=p
 obtain⟨⟨cls2,dd2,data2,sl2⟩,n2,ho2,hc2,hdd2,hd2⟩:=p2
 simp only at hc hd hdd hc2 hd2 hdd2
 subst hc hd hdd hc2 hd2 hdd2
 have l1:=r.length
 have l2:=r2.length
 refine concat_meets ⟨_,ho,rfl⟩ ⟨_,ho2,rfl⟩ noFill_list_add seq_list_add PySem.F.slot_list_add PySem.F.entry_list_add (PySem.F.args_list_add_2 _ _) (list_addW l b its.toArray its2.toArray n n2 _ _ sl sl2 (by simp only[List.size_toArray];omega)) ⟨ho,ho2,?_⟩
 have ea:its.toArray++its2.toArray=(its++its2).toArray:=by simp
 rw[ea]
 exact⟨.ref _,_,I.lnew (t':=s.toks) (r.append r2) (by rw[List.length_append];omega),rfl,qq _ I.fresh⟩
def qqa (K:PySem.W.Frag):R2:=fun x y H Q=>∃l k xs,x=.ref l∧y=.int k∧SqL K H l xs ∧ -(2 ^ 63)≤k∧k<2 ^ 63∧xs.length*k.toNat≤sizeLine ∧
 ∀p,H p=none→Q (.ref p) (upd H p (.lst (List.replicate k.toNat xs).flatten))
theorem qnL:OpR X (binaryOp .Mult) (qqa X.K):=by
 intro pins s σ H x y v u Q I rx ry hh
 obtain⟨l,k,xs,rfl,rfl,hH,h1,h2,hz,qq⟩:=hh
 cases rx
 obtain⟨t,rfl⟩:=ry
 obtain⟨its,r,p,_⟩:=I.list hH
 obtain⟨⟨cls,dd,data,sl⟩,n,ho,hc,hdd,hd⟩:=p
 simp only at hc hd hdd
 subst hc hd hdd
 have l1:=r.length
 have hsz:its.length*k.toNat≤16777216:=by rw[←l1];exact hz
 refine wpAny_binaryOp_repeat_ref (T:="list") (U:="int") (by decide) ⟨_,ho,rfl⟩ (fun s'=>typeIs_int s' k t) noFill_list_mul F.fills_int_mul F.slot_int_rmul repeat_list F.slot_int_index.lookup
  (call_meets F.slot_int_rmul (typeIs_int s k t) F.entry_int_rmul (F.args_int_rmul_2 _ _) (lm_int_rmul_list_any k t l its.toArray n _ sl)
   ⟨ho,rfl,⟨_,ho,rfl⟩,call_meets F.slot_list_mul ⟨_,ho,rfl⟩ F.entry_list_mul (F.args_list_mul_2 _ _)
    (lm_list_mul_any l its.toArray n _ sl k t (by simp[Builtin.List.listFitsIndex];omega) (by simp only[List.size_toArray];omega) (by simp[Builtin.List.listTooLong,sizeLine];omega))
    ⟨ho,?_⟩⟩)
 rw[listMul_foldl_if]
 exact⟨.ref _,_,I.lnew (t':=s.toks) (r.rep k.toNat) (by rw[PyProof.Rows.lm_len_rep_flat,Nat.mul_comm];exact hz),rfl,qq _ I.fresh⟩
end
def qr2:Bop→Operator
 |.add=>.Add | .sub=>.Sub | .mul=>.Mult | .fdv=>.FloorDiv | .mdl=>.Mod | .pow=>.Pow | .shl=>.LShift | .shr=>.RShift | .and=>.BitAnd | .or=>.BitOr
def qrY (K:PySem.W.Frag):Bop→R2
 |.add=>fun x y H Q=>(rI0 (fun i j=>.int (i+j)) x y H Q∨(fun x y H Q=>∃i j,x=.str i∧y=.str j∧i.length+j.length≤sizeLine∧Q (.str (i++j)) H:R2) x y H Q)∨qp3 K x y H Q
 |.sub=>rI0 fun i j=>.int (i - j)
 |.mul=>fun x y H Q=>(rI CMul (fun i j=>.int (i*j)) x y H Q∨rI CMulX (fun i j=>.int (i*j)) x y H Q)∨qqa K x y H Q
 |.fdv=>rI CDivN fun i j=>.int (i.fdiv j)
 |.mdl=>rI (fun _ j=>j≠0) fun i j=>.int (i.fmod j)
 |.pow=>rI CPow fun i j=>.int (i ^ j.toNat)
 |.shl=>rI CPow fun i j=>.int (i*2 ^ j.toNat)
 |.shr=>rI (fun _ j=>0≤j) fun i j=>.int (i / 2 ^ j.toNat)
 |.and=>rI0 fun i j=>.int (Builtin.bitAnd i j)
 |.or=>rI0 fun i j=>.int (Builtin.bitOr i j)
theorem qpf {X:Cx}:∀o,OpR X (binaryOp (qr2 o)) (qrY X.K o)
 |.add=>(op_add.or op_add_str).or qon
 |.sub=>op_sub
 |.mul=>(op_mul.or op_mulX).or qnL
 |.fdv=>op_fdivN
 |.mdl=>op_modN
 |.pow=>op_pow
 |.shl=>op_shl
 |.shr=>op_shr
 |.and=>op_and
 |.or=>op_or
theorem qna (s t:List Nat):(⟨s.toArray⟩:Str)++(⟨t.toArray⟩:Str)=⟨(s++t).toArray⟩:=by
 show(⟨s.toArray++t.toArray⟩:Str)=⟨(s++t).toArray⟩
 simp
theorem qbf (s:List Nat):(⟨s.toArray⟩:Str).length=s.length:=by
 show s.toArray.size=s.length
 simp
theorem RepsB.rep {C:Ctx} {P N:Hp} {b:Bool} {ds:List D} {vs:List V} (h:RepsB C P N b ds vs):∀k,RepsB C P N b (List.replicate k ds).flatten (List.replicate k vs).flatten
 |0=>rfl
 |k+1=>by simpa[List.replicate_succ] using Reps.append h (RepsB.rep h k)
theorem qqz {C:Ctx} (o:Bop):qrM C (evB o) (qrY C.G.K o):=by
 intro P N H H0 σ x y b c v u Q r hx hy e h
 unfold evB at h
 simp only[qb7,qas,qag,qaH,qaS,qaE,qaX,qaR,qaO,qaP] at h
 cases o<;>simp only at h<;>split at h<;>try exact h.elim
 ·cases hx.int;cases hy.int
  exact .inl (.inl ⟨_,_,rfl,rfl,h.val r rfl⟩)
 ·cases hx.str;cases hy.str
  split at h
  ·rename_i hl
   refine .inl (.inr ⟨_,_,rfl,rfl,?_,?_⟩)
   ·rw[qbf,qbf];exact hl
   ·rw[qna];exact h.val r rfl
  ·exact h.elim
 ·obtain⟨p,xs,rfl,h1,h2⟩:=hx.lst
  obtain⟨q,zs,rfl,h3,h4⟩:=hy.lst
  split at h
  ·rename_i hl
   refine .inr ⟨_,_,_,_,rfl,rfl,h1,h3,?_,fun p hp=>h.fre r e (Reps.append h2.and1 h4.and2) hp⟩
   rw[h2.length,h4.length];exact hl
  ·exact h.elim
 ·cases hx.int;cases hy.int
  exact⟨_,_,rfl,rfl,h.val r rfl⟩
 ·cases hx.int;cases hy.int
  split at h
  ·rename_i hl
   have hl:=qaQ _ _ ▸ hl
   rcases hl with hl | hl
   ·exact .inl (.inl ⟨_,_,rfl,rfl,hl,h.val r rfl⟩)
   ·exact .inl (.inr ⟨_,_,rfl,rfl,hl,h.val r rfl⟩)
  ·exact h.elim
 ·obtain⟨p,xs,rfl,h1,h2⟩:=hx.lst
  cases hy.int
  split at h
  ·rename_i hl
   have hl:=qnE hl
   refine .inr ⟨_,_,_,rfl,rfl,h1,hl.1,hl.2.1,?_,fun p hp=>h.fre r e (RepsB.rep h2.and1 _) hp⟩
   rw[h2.length];exact hl.2.2
  ·exact h.elim
 ·cases hx.int;cases hy.int
  split at h
  ·rename_i hl
   exact⟨_,_,rfl,rfl,hl,h.val r rfl⟩
  ·exact h.elim
 ·cases hx.int;cases hy.int
  split at h
  ·rename_i hl
   exact⟨_,_,rfl,rfl,hl,h.val r rfl⟩
  ·exact h.elim
 ·cases hx.int;cases hy.int
  split at h
  ·rename_i hl
   exact⟨_,_,rfl,rfl,hl,h.val r rfl⟩
  ·exact h.elim
 ·cases hx.int;cases hy.int
  split at h
  ·rename_i hl
   exact⟨_,_,rfl,rfl,hl,h.val r rfl⟩
  ·exact h.elim
 ·cases hx.int;cases hy.int
  split at h
  ·rename_i hl
   exact⟨_,_,rfl,rfl,hl,h.val r rfl⟩
  ·exact h.elim
 ·cases hx.int;cases hy.int
  exact⟨_,_,rfl,rfl,h.val r rfl⟩
 ·cases hx.int;cases hy.int
  exact⟨_,_,rfl,rfl,h.val r rfl⟩
def qe9:Cop→CmpOp
 |.eq=>.Eq | .ne=>.NotEq | .lt=>.Lt | .le=>.LtE | .gt=>.Gt | .ge=>.GtE | .isin=>.In | .nin=>.NotIn
def qpO (K:PySem.W.Frag):Cop→R2
 |.eq=>fun x y H Q=>rEq x y H Q∨rEqD K x y H Q
 |.ne=>fun x y H Q=>rNe x y H Q∨rNeD K x y H Q
 |.lt=>rI0 fun i j=>.bl (decide (i<j))
 |.le=>rI0 fun i j=>.bl (decide (i≤j))
 |.gt=>rI0 fun i j=>.bl (decide (j<i))
 |.ge=>rI0 fun i j=>.bl (decide (j≤i))
 |.isin=>fun x y H Q=>(rInD K x y H Q∨rIn K false x y H Q)∨(fun x y H Q=>∃(c:Nat) (z:Str),x=.str ⟨#[c]⟩∧y=.str z∧Q (.bl (decide (c∈z.cps.toList))) H:R2) x y H Q
 |.nin=>fun x y H Q=>(rNotInD K x y H Q∨rIn K true x y H Q)∨(fun x y H Q=>∃(c:Nat) (z:Str),x=.str ⟨#[c]⟩∧y=.str z∧Q (.bl (!decide (c∈z.cps.toList))) H:R2) x y H Q
theorem qeU {X:Cx} (hu:X.A.units+65<cLine):∀o,OpR X (compareOp (qe9 o)) (qpO X.K o)
 |.eq=>op_eq.or (op_eqD (by omega))
 |.ne=>op_ne.or (op_neD (by omega))
 |.lt=>op_lt
 |.le=>op_le
 |.gt=>op_gt
 |.ge=>op_ge
 |.isin=>((op_inD hu).or op_in_seq).or op_in_sign
 |.nin=>((op_notInD hu).or op_notIn_seq).or op_notIn_sign
theorem qeB {C:Ctx} {P N H:Hp} {x y:D} {b c:Bool} {v u:V} {k:Bool} (r:Reg C P N H) (hx:ERw C P N H x b v) (hy:ERw C P N H y c u) (h:qiu x y=.ok k) :
  (scal v u=true∧decide (v=u)=k)∨∃d e,Dp C.G.K H v d∧Dp C.G.K H u e∧SeqAt.shaped d=true∧SeqAt.shaped e=true∧PyData.eqv d e=k:=by
 unfold qiu at h
 split at h
 ·cases hx.int;cases hy.int;cases h
  exact .inl ⟨rfl,by simp⟩
 ·cases hx.str;cases hy.str;cases h
  refine .inl ⟨rfl,?_⟩
  simp
 ·cases hx.bl;cases hy.bl;cases h
  exact .inl ⟨rfl,by rw[dec_bl]⟩
 ·split at h
  ·rename_i f
   simp only[Bool.and_eq_true] at f
   cases h
   exact .inr ⟨_,_,hx.dp r f.1,hy.dp r f.2,D.shaped f.1,D.shaped f.2,D.eqv_py _ _ _ _ f.1 f.2⟩
  ·cases h
theorem qmN {x:D} {n m:Nat} (hx:x.fit n=true):∀{ys:List D},D.fits ys m=true→((D.pys ys).any fun z=>PyData.eqv z x.py)=ys.any fun z=>z.eqb x
 |[],_=>rfl
 |y::ys,h=>by
  simp only[D.fits,Bool.and_eq_true] at h
  simp only[D.pys,List.any_cons]
  rw[qmN hx h.2,D.eqv_py y x m n h.1 hx]
theorem qd3 {C:Ctx} {P N H:Hp} {x:D} {b:Bool} {v:V} (hx:Rep C.G P (LNb C.G.K P N C.R b) x v) (f:x.fit 0=true):flatV v=true:=by
 cases x<;>simp[D.fit] at f<;>cases hx<;>rfl
theorem qdg {C:Ctx} {P N H:Hp} {b:Bool}:∀{xs:List D} {vs:List V},RepsB C P N b xs vs→D.fits xs 0=true→vs.all flatV=true
 |[],_,h,_=>by cases h;rfl
 |x::xs,_,⟨v,r,e,h1,h2⟩,f=>by
  subst e
  simp only[D.fits,Bool.and_eq_true] at f
  simp only[List.all_cons,Bool.and_eq_true]
  exact⟨qd3 (H:=H) h1 f.1,qdg (H:=H) h2 f.2⟩
theorem qiL {C:Ctx} {P N:Hp} {x y:D} {b c:Bool} {v u:V} (hx:RepB C P N b x v) (hy:RepB C P N c y u) (fx:x.fit 0=true) (fy:y.fit 0=true):eqV v u=x.eqb y:=by
 cases x<;>simp[D.fit] at fx<;>cases y<;>simp[D.fit] at fy<;>cases hx<;>cases hy<;>simp[eqV,D.eqb]
 ·rw[Bool.eq_iff_iff,beq_iff_eq,decide_eq_true_iff]
 ·rw[Bool.eq_iff_iff,beq_iff_eq,decide_eq_true_iff]
 ·rw[Bool.eq_iff_iff,beq_iff_eq,decide_eq_true_iff]
 ·rw[Bool.eq_iff_iff,beq_iff_eq,decide_eq_true_iff]
  exact⟨fun q=>by injection q with q;exact qdL.mp q,fun q=>by rw[q]⟩
theorem qjB {C:Ctx} {P N:Hp} {x:D} {b c:Bool} {v:V} (hx:RepB C P N b x v) (fx:x.fit 0=true):∀{ys:List D} {us:List V},RepsB C P N c ys us→D.fits ys 0=true→inV v us=ys.any fun z=>z.eqb x
 |[],_,h,_=>by cases h;rfl
 |y::ys,_,⟨u,r,e,h1,h2⟩,f=>by
  subst e
  simp only[D.fits,Bool.and_eq_true] at f
  have:=qjB hx fx h2 f.2
  unfold inV at this ⊢
  simp only[List.any_cons]
  rw[this,qiL h1 hx f.1 fx]
theorem qeJ {C:Ctx} {P N H:Hp} {x y:D} {b c:Bool} {v u:V} {k:Bool} (r:Reg C P N H) (hx:ERw C P N H x b v) (hy:ERw C P N H y c u) (h:qmu x y=.ok k) :
  (∃d ds,Dp C.G.K H v d∧Dp C.G.K H u (.list ds)∧SeqAt.shaped d=true∧SeqAt.shaped (.list ds)=true∧(ds.any fun z=>PyData.eqv z d)=k) ∨
  (∃p xs,u=.ref p∧(SqL C.G.K H p xs∨SqT C.G.K H p xs)∧flatV v=true∧xs.all flatV=true∧inV v xs=k) ∨
  ∃(c:Nat) (z:Str),v=.str ⟨#[c]⟩∧u=.str z∧decide (c∈z.cps.toList)=k:=by
 unfold qmu at h
 split at h
 ·split at h
  ·rename_i ys f
   simp only[Bool.and_eq_true] at f
   cases h
   have f2:=f.2
   simp only[D.fit,Bool.and_eq_true] at f2
   refine .inl ⟨x.py,D.pys ys,hx.dp r f.1,hy.dp r f.2,D.shaped f.1,D.shaped f.2,qmN f.1 f2.2⟩
  ·cases h
 ·split at h
  ·rename_i ys f
   simp only[Bool.and_eq_true] at f
   cases h
   obtain⟨p,xs,rfl,h1,h2⟩:=hy.tup r
   have hx':RepB C P N b x v:=by
    cases x with
    |lst ds=>simp[D.fit] at f
    |_=>exact hx
   exact .inr (.inl ⟨p,xs,rfl,.inr h1,qd3 (H:=H) hx' f.1,qdg (H:=H) h2 f.2,qjB hx' f.1 h2 f.2⟩)
  ·cases h
 ·split at h
  ·cases hx.str;cases hy.str;cases h
   exact .inr (.inr ⟨_,_,rfl,rfl,rfl⟩)
  ·cases h
 ·cases h
theorem qiF {C:Ctx} (o:Cop):qso C (evC o) (qpO C.G.K o):=by
 intro P N H x y b c v u Q k r hx hy h q
 cases o<;>simp only[evC] at h
 ·rcases qeB r hx hy h with⟨h1,rfl⟩ | ⟨d,e,h1,h2,h3,h4,rfl⟩
  ·exact .inl ⟨h1,q⟩
  ·exact .inr ⟨d,e,h1,h2,h3,h4,q⟩
 ·cases e:qiu x y with
  |bad=>rw[e] at h;cases h
  |exc c fs=>rw[e] at h;cases h
  |ok k' =>
   rw[e] at h;cases h
   rcases qeB r hx hy e with⟨h1,rfl⟩ | ⟨d,d2,h1,h2,h3,h4,rfl⟩
   ·exact .inl ⟨h1,q⟩
   ·exact .inr ⟨d,d2,h1,h2,h3,h4,q⟩
 ·split at h
  ·cases hx.int;cases hy.int;cases h
   exact⟨_,_,rfl,rfl,q⟩
  ·cases h
 ·split at h
  ·cases hx.int;cases hy.int;cases h
   exact⟨_,_,rfl,rfl,q⟩
  ·cases h
 ·split at h
  ·cases hx.int;cases hy.int;cases h
   exact⟨_,_,rfl,rfl,q⟩
  ·cases h
 ·split at h
  ·cases hx.int;cases hy.int;cases h
   exact⟨_,_,rfl,rfl,q⟩
  ·cases h
 ·rcases qeJ r hx hy h with⟨d,e,h1,h2,h3,h4,rfl⟩ | ⟨p,xs,h1,h2,h3,h4,rfl⟩ | ⟨c,z,h1,h2,rfl⟩
  ·exact .inl (.inl ⟨d,e,h1,h2,h3,h4,q⟩)
  ·exact .inl (.inr ⟨p,xs,h1,h2,h3,h4,q⟩)
  ·exact .inr ⟨c,z,h1,h2,q⟩
 ·cases e:qmu x y with
  |bad=>rw[e] at h;cases h
  |exc c fs=>rw[e] at h;cases h
  |ok k' =>
   rw[e] at h;cases h
   rcases qeJ r hx hy e with⟨d,d2,h1,h2,h3,h4,rfl⟩ | ⟨p,xs,h1,h2,h3,h4,rfl⟩ | ⟨c,z,h1,h2,rfl⟩
   ·exact .inl (.inl ⟨d,d2,h1,h2,h3,h4,q⟩)
   ·exact .inl (.inr ⟨p,xs,h1,h2,h3,h4,q⟩)
   ·exact .inr ⟨c,z,h1,h2,q⟩
end Cm
namespace Cm
open PySem PySem.Spec PyProof.Rows L2
section
variable {C:Ctx} {X:Cx}
theorem qad {X:Cx} {e:Expr} {t u:TE} (h:PE X e t) (f:∀σ H Q,u σ H Q→t σ H Q):PE X e u:=⟨fun pins s σ H Q I q=>h.run pins s σ H Q I (f _ _ _ q)⟩
theorem qbQ {X:Cx} {e:Expr} {t u:TT} (h:PT X e t) (f:∀σ H Q,u σ H Q→t σ H Q):PT X e u:=⟨fun pins s σ H Q I q=>h.run pins s σ H Q I (f _ _ _ q)⟩
theorem qc3 {X:Cx} {e:List Expr} {t u:TA} (h:PA X e t) (f:∀σ H Q,u σ H Q→t σ H Q):PA X e u:=⟨fun pos pins s σ H Q I q=>h.run pos pins s σ H Q I (f _ _ _ q)⟩
theorem qbS {e:Expr}:PE X e (tE C fun _=>.bad):=⟨fun pins s σ H Q I h=>by obtain⟨ρ,P,N,S,h⟩:=h;exact h.elim⟩
theorem qoL {i:Nat} {x:Str} {pos:Pos} (hN:X.N[i]? = some x) (hv:Vis X.env.scope x) (hd:(x == ("__debug__" : Str))=false) (hcd:(x == ("__classdict__" : Str))=false) :
  PE X (.Name x pos) (tE C fun ρ=>match ρ[i]? with
  |some (.val d b)=>.ok (.val d b)
  |some (.own ds b)=>.ok (.brw ds b)
  |some (.fxd d _)=>.ok (.val d false)
  |_=>.bad):=by
 refine qad (pe_var (i:=i) hN hv hd hcd) fun σ H Q h=>?_
 obtain⟨ρ,P,N,S,h⟩:=h
 cases e:ρ[i]? with
 |none=>simp only[e] at h;exact h.elim
 |some s =>
  obtain⟨o,h1,h2⟩:=S.sl i s e
  simp only[e] at h
  cases s with
  |non=>exact h.elim
  |val d b =>
   obtain⟨v,rfl,h3⟩:=h2
   exact⟨v,h1,h.val S.reg h3⟩
  |own ds b =>
   obtain⟨p,xs,rfl,h3,h4,h5,h6,h7⟩:=h2
   exact⟨.ref p,h1,h.now S.reg _ ⟨p,xs,rfl,h3,h4,h5,h6,h7⟩⟩
  |slf c fs=>exact h.elim
  |fxd d k =>
   obtain⟨v,rfl,_,h3⟩:=h2
   exact⟨v,h1,h.val S.reg h3⟩
  |dct m b=>exact h.elim
  |row _=>exact h.elim
theorem qiH {e:Expr} {v:V} {d:D} (h:PE X e (tC v)) (r:∀P N,RepB C P N true d v):PE X e (tE C fun _=>.ok (.val d true)):=by
 refine qad h fun σ H Q h=>?_
 obtain⟨ρ,P,N,S,h⟩:=h
 exact h.val S.reg (r P N)
theorem qde {g:List Sl→RE ER} (hg:∀ρ er,g ρ=.ok er→∃k,er=.val (.bl k) true) {σ:L2.St} {H:Hp} {Q:Bool→Hp→Prop} (h:tT C (fun ρ=>(g ρ).bind fun x=>qdv x.d) σ H Q) :
  tE C g σ H fun x H'=>∃k,x=.bl k∧Q k H':=by
 obtain⟨ρ,P,N,S,h⟩:=h
 refine⟨ρ,P,N,S,h.bind.mono fun x P1 N1 H1 e a1 h1 v rv=>?_⟩
 obtain⟨k,rfl⟩:=hg ρ x e
 exact⟨k,rv,h1.now (S.adv a1).reg⟩
abbrev qqL (o p:Cop) (ga gb gc:List Sl→RE ER):List Sl→RE ER:=fun ρ=>(ga ρ).bind fun x=>(gb ρ).bind fun y=>(evC o x.d y.d).bind fun k=>if k=true then (gc ρ).bind fun z=>(evC p y.d z.d).bind fun k'=>ok (.bl k') else ok (.bl false)
theorem qke {o p:Cop} {ga gb gc:List Sl→RE ER} {σ:L2.St} {H:Hp} {Q:VK} (h:tE C (qqL o p ga gb gc) σ H Q):tChain (qpO C.G.K o) (qpO C.G.K p) (tE C ga) (tE C gb) (tE C gc) σ H Q:=by
 obtain⟨ρ,P,N,S,h⟩:=h
 refine⟨ρ,P,N,S,h.bind.mono fun x P1 N1 H1 _ a1 h1 v rv=>⟨ρ,P1,N1,S.adv a1,h1.bind.mono fun y P2 N2 H2 _ a2 h2 u ru=>?_⟩⟩
 have r2:=(S.adv (a1.trans a2)).reg
 have n1:=qjp o x.d y.d
 cases e:evC o x.d y.d with
 |bad=>rw[e] at h2;exact h2.elim
 |exc c fs=>rw[e] at n1;exact n1.elim
 |ok k =>
  rw[e] at h2
  refine qiF o r2 ((rv.adv a2).w r2) (ru.w r2) e ⟨k,rfl,?_⟩
  cases k with
  |false=>exact h2.val r2 rfl
  |true =>
   refine iteT ⟨ρ,P2,N2,S.adv (a1.trans a2),res.mono (res.bind h2) fun z P3 N3 H3 _ a3 h3 w rw'=>?_⟩
   have r3:=(S.adv ((a1.trans a2).trans a3)).reg
   have n2:=qjp p y.d z.d
   cases e3:evC p y.d z.d with
   |bad=>rw[e3] at h3;exact h3.elim
   |exc c fs=>rw[e3] at n2;exact n2.elim
   |ok k' =>
    rw[e3] at h3
    exact qiF p r3 ((ru.adv a3).w r3) (rw'.w r3) e3 (h3.val r3 rfl)
theorem qnC {o p:Cop} {a b c:Expr} {ga gb gc:List Sl→RE ER} {pos:Pos} (hu:X.A.units+65<cLine) (hK:X.K=C.G.K) (ha:PE X a (tE C ga)) (hb:PE X b (tE C gb)) (hc:PE X c (tE C gc)) (hm:lastMarks [qe9 o,qe9 p] [b,c]=false) :
  PE X (.Compare a [qe9 o,qe9 p] [b,c] pos) (tE C (qqL o p ga gb gc)):=
 qad (pe_chain (qeU hu o) (qeU hu p) ha hb hc hm) fun σ H Q h=>by rw[hK];exact qke h
theorem qmT {o p:Cop} {a b c:Expr} {ga gb gc:List Sl→RE ER} {pos:Pos} (hu:X.A.units+65<cLine) (hK:X.K=C.G.K) (ha:PE X a (tE C ga)) (hb:PE X b (tE C gb)) (hc:PE X c (tE C gc)) (hm:lastMarks [qe9 o,qe9 p] [b,c]=false) :
  PT X (.Compare a [qe9 o,qe9 p] [b,c] pos) (tT C fun ρ=>(qqL o p ga gb gc ρ).bind fun x=>qdv x.d):=
 qbQ (pt_chain (qeU hu o) (qeU hu p) ha hb hc hm) fun σ H Q h=>by
  rw[hK]
  refine qke (qde (fun ρ er e=>?_) h)
  cases e1:ga ρ<;>simp only[qqL,e1,RE.bind_ok,RE.bind_bad,RE.bind_exc] at e<;>try cases e
  cases e2:gb ρ<;>simp only[e2,RE.bind_ok,RE.bind_bad,RE.bind_exc] at e<;>try cases e
  rename_i x y
  cases e3:evC o x.d y.d<;>simp only[e3,RE.bind_ok,RE.bind_bad,RE.bind_exc] at e<;>try cases e
  split at e
  ·cases e4:gc ρ<;>simp only[e4,RE.bind_ok,RE.bind_bad,RE.bind_exc] at e<;>try cases e
   rename_i z
   cases e5:evC p y.d z.d<;>simp only[e5,RE.bind_ok,RE.bind_bad,RE.bind_exc] at e<;>try cases e
   exact⟨_,rfl⟩
  ·cases e
   exact⟨_,rfl⟩
abbrev qqF (o:Cop) (ga gb:List Sl→RE ER):List Sl→RE ER:=fun ρ=>(ga ρ).bind fun x=>(gb ρ).bind fun y=>(evC o x.d y.d).bind fun c=>ok (.bl c)
theorem qjK {o:Cop} {ga gb:List Sl→RE ER} {σ:L2.St} {H:Hp} {Q:VK} (h:tE C (qqF o ga gb) σ H Q):tOp (qpO C.G.K o) (tE C ga) (tE C gb) σ H Q:=by
 obtain⟨ρ,P,N,S,h⟩:=h
 refine⟨ρ,P,N,S,h.bind.mono fun x P1 N1 H1 _ a1 h1 v rv=>⟨ρ,P1,N1,S.adv a1,h1.bind.mono fun y P2 N2 H2 _ a2 h2 u ru=>?_⟩⟩
 have r2:=(S.adv (a1.trans a2)).reg
 have n1:=qjp o x.d y.d
 cases e:evC o x.d y.d with
 |bad=>rw[e] at h2;exact h2.elim
 |exc c fs=>rw[e] at n1;exact n1.elim
 |ok k =>
  rw[e] at h2
  exact qiF o r2 ((rv.adv a2).w r2) (ru.w r2) e (h2.val r2 rfl)
theorem qnH {o:Cop} {a b:Expr} {ga gb:List Sl→RE ER} {pos:Pos} (hu:X.A.units+65<cLine) (hK:X.K=C.G.K) (ha:PE X a (tE C ga)) (hb:PE X b (tE C gb)) (hm:behindInMarks (qe9 o) b=false) :
  PE X (.Compare a [qe9 o] [b] pos) (tE C (qqF o ga gb)):=
 qad (pe_cmpR (qeU hu o) ha hb hm) fun σ H Q h=>by rw[hK];exact qjK h
theorem qoP {o:Cop} {a b:Expr} {ga gb:List Sl→RE ER} {pos:Pos} (hu:X.A.units+65<cLine) (hK:X.K=C.G.K) (ha:PE X a (tE C ga)) (hb:PE X b (tE C gb)) (hm:behindInMarks (qe9 o) b=false) :
  PT X (.Compare a [qe9 o] [b] pos) (tT C fun ρ=>(qqF o ga gb ρ).bind fun x=>qdv x.d):=
 qbQ (pt_cmpR (qeU hu o) ha hb hm) fun σ H Q h=>by
  rw[hK]
  refine qjK (qde (fun ρ er e=>?_) h)
  cases e1:ga ρ<;>simp only[qqF,e1,RE.bind_ok,RE.bind_bad,RE.bind_exc] at e<;>try cases e
  cases e2:gb ρ<;>simp only[e2,RE.bind_ok,RE.bind_bad,RE.bind_exc] at e<;>try cases e
  rename_i x y
  cases e3:evC o x.d y.d<;>simp only[e3,RE.bind_ok,RE.bind_bad,RE.bind_exc] at e<;>try cases e
  exact⟨_,rfl⟩
theorem qeR {P N H:Hp} {d:D} {b:Bool} {v:V} {k:Bool} (r:Reg C P N H) (h:ERw C P N H d b v) (e:qdv d=.ok k):TruV C.G.K v H k:=by
 cases d<;>simp only[qdv] at e<;>cases e
 ·have e:v=.non:=h
  subst e;rfl
 ·cases h.bl;rfl
 ·cases h.int;rfl
 ·obtain⟨p,xs,rfl,h1,h2⟩:=h.lst
  refine .inl ⟨xs,h1,?_⟩
  have:=h2.length
  rw[Bool.eq_iff_iff]
  simp[←List.length_eq_zero_iff,this]
 ·obtain⟨p,xs,rfl,h1,h2⟩:=h.tup r
  refine .inr (.inl ⟨xs,h1,?_⟩)
  have:=h2.length
  rw[Bool.eq_iff_iff]
  simp[←List.length_eq_zero_iff,this]
theorem qgZ (d:D):qev (qdv d):=by cases d<;>trivial
theorem qoj {g:List Sl→RE ER} {σ:L2.St} {H:Hp} {Q:Bool→Hp→Prop} (h:tT C (fun ρ=>(g ρ).bind fun x=>qdv x.d) σ H Q):tE C g σ H fun x H'=>∃k,TruV C.G.K x H' k∧Q k H':=by
 obtain⟨ρ,P,N,S,h⟩:=h
 refine⟨ρ,P,N,S,h.bind.mono fun x P1 N1 H1 e a1 h1 v rv=>?_⟩
 have r1:=(S.adv a1).reg
 have n1:=qgZ x.d
 cases e:qdv x.d with
 |bad=>rw[e] at h1;exact h1.elim
 |exc c fs=>rw[e] at n1;exact n1.elim
 |ok k =>
  rw[e] at h1
  exact⟨k,qeR r1 (rv.w r1) e,h1.now r1⟩
theorem qnw {e:Expr} {g:List Sl→RE ER} (hK:X.K=C.G.K) (h:PE X e (tE C g)) (he:∀whole,isTrue e X.env whole=(do let v ←whole;standAt e.pos;holding [v] (truthy v))):PT X e (tT C fun ρ=>(g ρ).bind fun x=>qdv x.d):=
 qbQ (pt_truth h he) fun σ H Q q=>by rw[hK];exact qoj q
theorem ERw.non {P N H:Hp} {d:D} {b:Bool} {v:V} (h:ERw C P N H d b v):decide (v=V.non)=d.isNon:=by
 cases d with
 |non=>have e:v=.non:=h;subst e;rfl
 |bl _=>cases h.bl;rfl
 |int _=>cases h.int;rfl
 |str _=>cases h.str;rfl
 |lst _=>obtain⟨p,xs,rfl,_⟩:=h;rfl
 |tup _=>obtain⟨p,xs,rfl,_⟩:=h;rfl
 |ins _ _=>obtain⟨p,dx,xs,rfl,_⟩:=h;rfl
 |exc _ _=>obtain⟨_,a,rfl,_⟩:=h;rfl
abbrev qoC (k:Bool) (g:List Sl→RE ER):List Sl→RE ER:=fun ρ=>(g ρ).bind fun x=>ok (.bl (if k=true then x.d.isNon else !x.d.isNon))
theorem qfy {k:Bool} {g:List Sl→RE ER} {σ:L2.St} {H:Hp} {Q:VK} (h:tE C (qoC k g) σ H Q):tE C g σ H fun x H1=>Q (.bl (if k=true then decide (x=.non) else !decide (x=.non))) H1:=by
 obtain⟨ρ,P,N,S,h⟩:=h
 refine⟨ρ,P,N,S,h.bind.mono fun x P1 N1 H1 e a1 h1 v rv=>?_⟩
 have r1:=(S.adv a1).reg
 show Q _ H1
 rw[(rv.w r1).non]
 exact h1.val r1 rfl
theorem qmn {k:Bool} {g:List Sl→RE ER} (ρ:List Sl) (er:ER) (e:qoC k g ρ=.ok er):∃k,er=.val (.bl k) true:=by
 cases e1:g ρ<;>simp only[qoC,e1,RE.bind_ok,RE.bind_bad,RE.bind_exc] at e<;>cases e
 exact⟨_,rfl⟩
theorem qnA {a:Expr} {g:List Sl→RE ER} {j:Nat} {pos pos':Pos} (h:PE X a (tE C g)):PE X (.Compare a [.Is] [.Constant .none j pos'] pos) (tE C (qoC true g)):=
 qad (pe_cmp (pc_isN h)) fun σ H Q q=>qfy q
theorem qlT {a:Expr} {g:List Sl→RE ER} {j:Nat} {pos pos':Pos} (h:PE X a (tE C g)):PE X (.Compare a [.IsNot] [.Constant .none j pos'] pos) (tE C (qoC false g)):=
 qad (pe_cmp (pc_notN h)) fun σ H Q q=>qfy q
theorem qnf {a:Expr} {g:List Sl→RE ER} {j:Nat} {pos pos':Pos} (h:PE X a (tE C g)):PT X (.Compare a [.Is] [.Constant .none j pos'] pos) (tT C fun ρ=>(qoC true g ρ).bind fun x=>qdv x.d):=
 qbQ (pt_cmp (pc_isN h)) fun σ H Q q=>qfy (qde qmn q)
theorem ql6 {a:Expr} {g:List Sl→RE ER} {j:Nat} {pos pos':Pos} (h:PE X a (tE C g)):PT X (.Compare a [.IsNot] [.Constant .none j pos'] pos) (tT C fun ρ=>(qoC false g ρ).bind fun x=>qdv x.d):=
 qbQ (pt_cmp (pc_notN h)) fun σ H Q q=>qfy (qde qmn q)
abbrev gBv (c:Bool) (g g':List Sl→RE ER):List Sl→RE ER:=fun ρ=>(g ρ).bind fun x=>match x.d with
  |.bl k=>if k=c then g' ρ else ok (.bl k)
  |_=>.bad
def qkt (c:Bool):BoolOp:=if c=true then .And else .Or
theorem qqd {a:Expr} {c:Bool} {g:List Sl→RE ER} {pos:Pos} (h:PE X a (tE C g)):PE X (.BoolOp (qkt c) [a] pos) (tE C (gBv c g fun _=>ok (.bl c))):=by
 refine qad (pe_one h) fun σ H Q q=>?_
 obtain⟨ρ,P,N,S,h⟩:=q
 refine⟨ρ,P,N,S,h.bind.mono fun x P1 N1 H1 e a1 h1 v rv=>?_⟩
 have r1:=(S.adv a1).reg
 split at h1
 ·rename_i k e
  have w:=rv.w r1
  rw[e] at w
  cases w.bl
  split at h1
  ·rename_i e;subst e;exact h1.val r1 rfl
  ·exact h1.val r1 rfl
 ·exact h1.elim
theorem qrG {a b:Expr} {rest:List Expr} {c:Bool} {g g':List Sl→RE ER} {pos:Pos} (h:PE X a (tE C g)) (h':PE X (.BoolOp (qkt c) (b::rest) pos) (tE C g')):PE X (.BoolOp (qkt c) (a::b::rest) pos) (tE C (gBv c g g')):=by
 have z:∀σ H Q,tE C (gBv c g g') σ H Q→tE C g σ H fun x H1=>∃k,x=.bl k∧if k=c then tE C g' σ H1 Q else Q (.bl k) H1:=fun σ H Q q=>by
  obtain⟨ρ,P,N,S,h⟩:=q
  refine⟨ρ,P,N,S,h.bind.mono fun x P1 N1 H1 e a1 h1 v rv=>?_⟩
  have r1:=(S.adv a1).reg
  split at h1
  ·rename_i k e
   have w:=rv.w r1
   rw[e] at w
   refine⟨k,w.bl,?_⟩
   split at h1
   ·rename_i e
    rw[if_pos e]
    exact⟨ρ,P1,N1,S.adv a1,h1.mono fun y P2 N2 H2 _ a2 h2 v rv=>h2 v (rv.from a1.hh)⟩
   ·rename_i e
    rw[if_neg e]
    exact h1.val r1 rfl
  ·exact h1.elim
 cases c with
 |true =>
  refine qad (pe_and h h') fun σ H Q q=>?_
  obtain⟨ρ,P,N,S,q⟩:=z σ H Q q
  refine⟨ρ,P,N,S,q.mono fun x P1 N1 H1 e a1 h1 v rv=>?_⟩
  obtain⟨k,e,h2⟩:=h1 v rv
  refine⟨k,e,?_⟩
  cases k
  ·exact h2
  ·exact h2
 |false =>
  refine qad (pe_or h h') fun σ H Q q=>?_
  obtain⟨ρ,P,N,S,q⟩:=z σ H Q q
  refine⟨ρ,P,N,S,q.mono fun x P1 N1 H1 e a1 h1 v rv=>?_⟩
  obtain⟨k,e,h2⟩:=h1 v rv
  refine⟨k,e,?_⟩
  cases k
  ·exact h2
  ·exact h2
theorem qky {a:Expr} {g:List Sl→RE ER} {pos:Pos} (hK:X.K=C.G.K) (h:PE X a (tE C g)):PE X (.UnaryOp .Not a pos) (tE C fun ρ=>(g ρ).bind fun x=>(qdv x.d).bind fun k=>ok (.bl (!k))):=by
 refine qad (pe_notT h) fun σ H Q q=>?_
 rw[hK]
 obtain⟨ρ,P,N,S,h⟩:=q
 refine⟨ρ,P,N,S,h.bind.mono fun x P1 N1 H1 e a1 h1 v rv=>?_⟩
 have r1:=(S.adv a1).reg
 have n1:=qgZ x.d
 cases e:qdv x.d with
 |bad=>rw[e] at h1;exact h1.elim
 |exc c fs=>rw[e] at n1;exact n1.elim
 |ok k =>
  rw[e] at h1
  exact⟨k,qeR r1 (rv.w r1) e,h1.val r1 rfl⟩
theorem qoD {a:Expr} {g:List Sl→RE Bool} {pos:Pos} (h:PT X a (tT C g)):PT X (.UnaryOp .Not a pos) (tT C fun ρ=>(g ρ).bind fun k=>.ok (!k)):=by
 refine qbQ (pt_not h) fun σ H Q q=>?_
 obtain⟨ρ,P,N,S,h⟩:=q
 exact⟨ρ,P,N,S,h.bind.mono fun x P1 N1 H1 e a1 h1=>h1.now (S.adv a1).reg⟩
abbrev gBs (c:Bool) (g g':List Sl→RE Bool):List Sl→RE Bool:=fun ρ=>(g ρ).bind fun k=>if k=c then g' ρ else .ok k
theorem qfi {e:Expr} {t u:TT} (h:PW X e t) (f:∀σ H Q,u σ H Q→t σ H Q):PW X e u:=⟨fun w pins s σ H Q I q=>h.run w pins s σ H Q I (f _ _ _ q)⟩
theorem qql {a:Expr} {c:Bool} {g:List Sl→RE Bool} {pos:Pos} (h:PT X a (tT C g)):PW X (.BoolOp (qkt c) [a] pos) (tT C (gBs c g fun _=>.ok c)):=by
 have z:∀σ H Q,tT C (gBs c g fun _=>.ok c) σ H Q→tT C g σ H Q:=fun σ H Q q=>by
  obtain⟨ρ,P,N,S,h⟩:=q
  refine⟨ρ,P,N,S,h.bind.mono fun k P1 N1 H1 e a1 h1=>?_⟩
  split at h1
  ·rename_i e;subst e;exact h1.now (S.adv a1).reg
  ·exact h1.now (S.adv a1).reg
 cases c with
 |true=>exact qfi (pw_and1 h) z
 |false=>exact qfi (pw_or1 h) z
theorem qq0 {a b:Expr} {rest:List Expr} {c:Bool} {g g':List Sl→RE Bool} {pos:Pos} (h:PT X a (tT C g)) (h':PW X (.BoolOp (qkt c) (b::rest) pos) (tT C g')):PW X (.BoolOp (qkt c) (a::b::rest) pos) (tT C (gBs c g g')):=by
 have z:∀σ H Q,tT C (gBs c g g') σ H Q→tT C g σ H fun k H1=>if k=c then tT C g' σ H1 Q else Q k H1:=fun σ H Q q=>by
  obtain⟨ρ,P,N,S,h⟩:=q
  refine⟨ρ,P,N,S,h.bind.mono fun k P1 N1 H1 e a1 h1=>?_⟩
  split at h1
  ·rename_i e;rw[if_pos e];exact⟨ρ,P1,N1,S.adv a1,h1⟩
  ·rename_i e;rw[if_neg e];exact h1.now (S.adv a1).reg
 cases c with
 |true =>
  refine qfi (pw_and h h') fun σ H Q q=>?_
  obtain⟨ρ,P,N,S,q⟩:=z σ H Q q
  refine⟨ρ,P,N,S,q.mono fun k P1 N1 H1 e a1 h1=>?_⟩
  cases k<;>exact h1
 |false =>
  refine qfi (pw_or h h') fun σ H Q q=>?_
  obtain⟨ρ,P,N,S,q⟩:=z σ H Q q
  refine⟨ρ,P,N,S,q.mono fun k P1 N1 H1 e a1 h1=>?_⟩
  cases k<;>exact h1
theorem qoi {a:Expr} {g:List Sl→RE ER} {pos:Pos} (h:PE X a (tE C g)):PE X (.UnaryOp .USub a pos) (tE C fun ρ=>(g ρ).bind fun x=>match x.d with
  |.int i=>ok (.int (-i))
  |_=>.bad):=by
 refine qad (pe_un un_neg h) fun σ H Q q=>?_
 obtain⟨ρ,P,N,S,h⟩:=q
 refine⟨ρ,P,N,S,h.bind.mono fun x P1 N1 H1 e a1 h1 v rv=>?_⟩
 have r1:=(S.adv a1).reg
 split at h1
 ·rename_i i e
  have w:=rv.w r1
  rw[e] at w
  exact⟨i,w.int,h1.val r1 rfl⟩
 ·exact h1.elim
theorem qnv {c a b:Expr} {gc:List Sl→RE Bool} {ga gb:List Sl→RE ER} {pos:Pos} (hc:PT X c (tT C gc)) (ha:PE X a (tE C ga)) (hb:PE X b (tE C gb)):PE X (.IfExp c a b pos) (tE C fun ρ=>(gc ρ).bind fun k=>if k=true then ga ρ else gb ρ):=by
 refine qad (pe_ifExp hc ha hb) fun σ H Q q=>?_
 obtain⟨ρ,P,N,S,h⟩:=q
 refine⟨ρ,P,N,S,h.bind.mono fun k P1 N1 H1 e a1 h1=>?_⟩
 split at h1
 ·rename_i e
  rw[if_pos e]
  exact⟨ρ,P1,N1,S.adv a1,h1.mono fun y P2 N2 H2 _ a2 h2 v rv=>h2 v (rv.from a1.hh)⟩
 ·rename_i e
  rw[if_neg e]
  exact⟨ρ,P1,N1,S.adv a1,h1.mono fun y P2 N2 H2 _ a2 h2 v rv=>h2 v (rv.from a1.hh)⟩
theorem qm4:PA X [] (tA C fun _=>.ok []):=by
 refine qc3 pa_nil fun σ H Q q=>?_
 obtain⟨ρ,P,N,S,h⟩:=q
 exact h.now S.reg [] rfl
theorem qkS {e:Expr} {es:List Expr} {g:List Sl→RE ER} {g':List Sl→RE (List ER)} (h:PE X e (tE C g)) (h':PA X es (tA C g')) (hs:starEach (e::es) X.env=(false,eval e X.env)::starEach es X.env) :
  PA X (e::es) (tA C fun ρ=>(g ρ).bind fun x=>(g' ρ).bind fun r=>.ok (x.frz::r)):=by
 refine qc3 (pa_cons h h' hs) fun σ H Q q=>?_
 obtain⟨ρ,P,N,S,h⟩:=q
 refine⟨ρ,P,N,S,h.bind.mono fun x P1 N1 H1 e a1 h1 v rv=>?_⟩
 obtain⟨N2,a2,r2⟩:=rv.freeze a1
 have h2:res C σ P1 N2 H1 ((g' ρ).bind fun r=>.ok (x.frz::r)) fun es P' N' H'=>∀vs,ERs C P' N' H' H es vs→Q vs H':=by
  simp only[e,RE.bind_ok] at h
  exact res.adv a2 h
 exact⟨ρ,P1,N2,S.adv a2,h2.bind.mono fun es P3 N3 H3 e a3 h3 vs rvs=>h3.now ((S.adv a2).adv a3).reg _ ⟨v,vs,rfl,r2.adv a3,rvs.from a2.hh⟩⟩
end
end Cm
namespace Cm
open PySem PySem.Spec PyProof.Rows L2
section
variable {C:Ctx} {X:Cx}
theorem ERs.reps {P N H H0:Hp}:∀{es:List ER} {vs:List V},ERs C P N H H0 es vs→es.all ER.isV=true→RepsB C P N (es.all ER.b) (es.map ER.d) vs
 |[],_,h,_=>h
 |e::es,_,⟨v,r,q,h2,h3⟩,z=>by
  subst q
  simp only[List.all_cons,Bool.and_eq_true] at z
  cases e with
  |val d b=>exact⟨v,r,rfl,RepB.and1 h2,RepsB.and2 (ERs.reps h3 z.2)⟩
  |fre d b=>exact absurd z.1 (by simp[ER.isV])
  |brw d b=>exact absurd z.1 (by simp[ER.isV])
theorem ERs.w {P N H H0:Hp} (r:Reg C P N H) {e:ER} {es:List ER} {vs:List V} (h:ERs C P N H H0 (e::es) vs):∃v u,vs=v::u∧ERw C P N H e.d e.b v∧ERs C P N H H0 es u:=by
 obtain⟨v,u,q,h2,h3⟩:=h
 exact⟨v,u,q,h2.w r,h3⟩
theorem qoR {es:List Expr} {k:Nat} {g:List Sl→RE (List ER)} {pos:Pos} (h:PA X es (tA C g)) (hl:∀ρ r,g ρ=.ok r→r.length≤LIM):PE X (.Tuple es k pos) (tE C fun ρ=>(g ρ).bind fun r=>dis (fun ds b=>.val (.tup ds) b) r):=by
 refine qad (pe_tup h) fun σ H Q q=>?_
 obtain⟨ρ,P,N,S,h⟩:=q
 refine⟨ρ,P,N,S,h.bind.mono fun r P1 N1 H1 e a1 h1 vs rv=>?_⟩
 have r1:=(S.adv a1).reg
 unfold dis at h1
 split at h1
 ·rename_i z
  have rr:=rv.reps z
  refine⟨?_,fun p hp=>h1.tup r1 rr hp⟩
  rw[rr.length,List.length_map]
  exact hl _ _ e
 ·exact h1.elim
theorem qog {es:List Expr} {g:List Sl→RE (List ER)} {pos:Pos} (h:PA X es (tA C g)) (hl:∀ρ r,g ρ=.ok r→r.length≤LIM):PE X (.List es pos) (tE C fun ρ=>(g ρ).bind fun r=>dis .fre r):=by
 refine qad (pe_lst h) fun σ H Q q=>?_
 obtain⟨ρ,P,N,S,h⟩:=q
 refine⟨ρ,P,N,S,h.bind.mono fun r P1 N1 H1 e a1 h1 vs rv=>?_⟩
 have r1:=(S.adv a1).reg
 unfold dis at h1
 split at h1
 ·rename_i z
  have rr:=rv.reps z
  refine⟨?_,fun p hp=>h1.fre r1 a1.hh rr hp⟩
  rw[rr.length,List.length_map]
  exact hl _ _ e
 ·exact h1.elim
theorem qiK {P N:Hp} {b:Bool} {ds:List D} {xs:List V} {i:Int} {d:D} (h:RepsB C P N b ds xs) (e:atI ds i=some d):∃v,atI xs i=some v∧RepB C P N b d v:=by
 unfold atI at e ⊢
 rw[h.length]
 cases q:ixN ds.length i with
 |none=>rw[q] at e;cases e
 |some j =>
  rw[q] at e
  exact h.get e
theorem qny {a i:Expr} {ga gi:List Sl→RE ER} {pos:Pos} (hK:X.K=C.G.K) (ha:PE X a (tE C ga)) (hi:PE X i (tE C gi)) (hs:PlainIx i):PE X (.Subscript a i pos) (tE C fun ρ=>(ga ρ).bind fun x=>(gi ρ).bind fun y=>qot x.d y.d x.b):=by
 refine qad (pe_ix ix_seq ha hi hs) fun σ H Q q=>?_
 rw[hK]
 obtain⟨ρ,P,N,S,h⟩:=q
 refine⟨ρ,P,N,S,h.bind.mono fun x P1 N1 H1 _ a1 h1 v rv=>⟨ρ,P1,N1,S.adv a1,h1.bind.mono fun y P2 N2 H2 _ a2 h2 u ru=>?_⟩⟩
 have r2:=(S.adv (a1.trans a2)).reg
 have wx:=(rv.adv a2).w r2
 have wy:=ru.w r2
 unfold qot at h2
 simp only[qb7,qas,qag,qaQ,qaH,qaS,qaE,qaX,qaR,qaO,qaP] at h2
 split at h2
 ·rename_i ds i e1 e2
  rw[e1] at wx;rw[e2] at wy
  obtain⟨p,xs,rfl,h3,h4⟩:=wx.lst
  cases wy.int
  split at h2
  ·rename_i d e
   obtain⟨v,e',h5⟩:=qiK h4 e
   exact .inl ⟨p,xs,i,v,rfl,rfl,h3,e',h2.val r2 h5.nf⟩
  ·exact h2.elim
 ·rename_i ds i e1 e2
  rw[e1] at wx;rw[e2] at wy
  obtain⟨p,xs,rfl,h3,h4⟩:=wx.tup r2
  cases wy.int
  split at h2
  ·rename_i d e
   obtain⟨v,e',h5⟩:=qiK h4 e
   exact .inr (.inl ⟨p,xs,i,v,rfl,rfl,h3,e',h2.val r2 h5.nf⟩)
  ·exact h2.elim
 ·rename_i s i e1 e2
  rw[e1] at wx;rw[e2] at wy
  cases wx.str
  cases wy.int
  split at h2
  ·rename_i hl
   split at h2
   ·rename_i c e
    refine .inr (.inr ⟨_,i,c,rfl,rfl,?_,?_,?_⟩)
    ·rw[qbf];exact hl
    ·exact e
    ·exact h2.val r2 rfl
   ·exact h2.elim
  ·exact h2.elim
 ·exact h2.elim
theorem qlD:PO X none (tO C fun _=>.ok none):=⟨fun pins s σ H Q I q=>by
 obtain⟨ρ,P,N,S,h⟩:=q
 exact po_none.run pins s σ H Q I (h.now S.reg)⟩
theorem qlw {e:Expr} {g:List Sl→RE ER} (h:PE X e (tE C g)):PO X (some e) (tO C fun ρ=>(g ρ).bind fun x=>match x.d with
  |.int i=>.ok (some i)
  |_=>.bad):=⟨fun pins s σ H Q I q=>by
 obtain⟨ρ,P,N,S,h'⟩:=q
 refine(po_some h).run pins s σ H Q I ⟨ρ,P,N,S,h'.bind.mono fun x P1 N1 H1 _ a1 h1 v rv=>?_⟩
 have r1:=(S.adv a1).reg
 split at h1
 ·rename_i i e
  have w:=rv.w r1
  rw[e] at w
  exact⟨i,w.int,h1.now r1⟩
 ·exact h1.elim⟩
theorem qiQ {P N:Hp} {b:Bool} {ds:List D} {xs:List V} (h:RepsB C P N b ds xs) (lo hi:Option Int):RepsB C P N b (qcq ds lo hi) (cutV xs lo hi):=by
 unfold qcq cutV
 rw[h.length]
 exact Reps.take _ (Reps.drop _ h)
theorem qoU {a:Expr} {lo hi:Option Expr} {ga:List Sl→RE ER} {gl gh:List Sl→RE (Option Int)} {pos p2:Pos} (hK:X.K=C.G.K) (ha:PE X a (tE C ga)) (hl:PO X lo (tO C gl)) (hh:PO X hi (tO C gh)) :
  PE X (.Subscript a (.Slice lo hi none p2) pos) (tE C fun ρ=>(ga ρ).bind fun x=>(gl ρ).bind fun l=>(gh ρ).bind fun h=>qro x.d l h x.b):=by
 refine qad (pe_slice (sl_list.or (sl_tup.or sl_str)) ha hl hh) fun σ H Q q=>?_
 rw[hK]
 obtain⟨ρ,P,N,S,h⟩:=q
 refine⟨ρ,P,N,S,h.bind.mono fun x P1 N1 H1 _ a1 h1 v rv=>⟨ρ,P1,N1,S.adv a1,h1.bind.mono fun l P2 N2 H2 _ a2 h2=>⟨ρ,P2,N2,S.adv (a1.trans a2),res.mono (res.bind h2) fun u P3 N3 H3 _ a3 h3=>?_⟩⟩⟩
 have a:=(a1.trans a2).trans a3
 have r3:=(S.adv a).reg
 have wx:=(rv.adv (a2.trans a3)).w r3
 unfold qro at h3
 simp only[qb7,qas,qag,qaQ,qaH,qaS,qaE,qaX,qaR,qaO,qaP] at h3
 split at h3
 ·rename_i ds e1
  rw[e1] at wx
  obtain⟨p,xs,rfl,h4,h5⟩:=wx.lst
  exact .inl ⟨p,xs,rfl,h4,fun p hp=>h3.fre r3 a.hh (qiQ h5 l u) hp⟩
 ·rename_i ds e1
  rw[e1] at wx
  obtain⟨p,xs,rfl,h4,h5⟩:=wx.tup r3
  split at h3
  ·rename_i hw
   refine .inr (.inl ⟨p,xs,rfl,h4,?_,fun p hp=>h3.tup r3 (qiQ h5 l u) hp⟩)
   rw[h5.length]
   rintro⟨q1,q2⟩
   simp[q1,q2] at hw
  ·exact h3.elim
 ·rename_i s e1
  rw[e1] at wx
  cases wx.str
  split at h3
  ·rename_i hl
   refine .inr (.inr ⟨_,rfl,?_,?_⟩)
   ·rw[qbf];exact hl
   ·exact h3.val r3 rfl
  ·exact h3.elim
 ·exact h3.elim
theorem qn7 {a:Expr} {g:List Sl→RE ER} {k:Nat} {p1 p2 p3 pos:Pos} (hK:X.K=C.G.K) (h:PE X a (tE C g)):PE X (.Subscript a (.Slice none none (some (.UnaryOp .USub (.Constant (.int 1) k p1) p2)) p3) pos) (tE C fun ρ=>(g ρ).bind fun x=>match x.d with
  |.lst xs=>.ok (.fre xs.reverse x.b)
  |_=>.bad):=by
 refine qad (pe_revL h) fun σ H Q q=>?_
 rw[hK]
 obtain⟨ρ,P,N,S,h⟩:=q
 refine⟨ρ,P,N,S,h.bind.mono fun x P1 N1 H1 _ a1 h1 v rv=>?_⟩
 have r1:=(S.adv a1).reg
 split at h1
 ·rename_i ds e
  have w:=rv.w r1
  rw[e] at w
  obtain⟨p,xs,rfl,h4,h5⟩:=w.lst
  exact⟨p,xs,rfl,h4,fun p hp=>h1.fre r1 a1.hh (Reps.reverse h5) hp⟩
 ·exact h1.elim
def qr7:Pri→Value
 |.len=>.builtin "len" |.abs=>.builtin "abs" |.min2=>.builtin "min" |.max2=>.builtin "max" |.min1=>.builtin "min" |.max1=>.builtin "max" |.sum=>.builtin "sum" |.sorted=>.builtin "sorted"
 |.all=>.builtin "all" |.any=>.builtin "any" |.list=>.type "list" |.tupl=>.type "tuple" |.int=>.type "int" |.str=>.type "str" |.dmd=>.builtin "divmod"
def qmR:Pri→Str
 |.len=>"len" |.abs=>"abs" |.min2=>"min" |.max2=>"max" |.min1=>"min" |.max1=>"max" |.sum=>"sum" |.sorted=>"sorted"
 |.all=>"all" |.any=>"any" |.list=>"list" |.tupl=>"tuple" |.int=>"int" |.str=>"str" |.dmd=>"divmod"
def qrT (K:PySem.W.Frag):Pri→List V→Hp→VK→Prop
 |.len=>fun xs H Q=>(∃x n,xs=[x]∧LenV K x H n∧Q (.int n) H)
 |.abs=>fun xs H Q=>∃i,xs=[.int i]∧Q (.int (if i<0 then -i else i)) H
 |.min2=>fun xs H Q=>∃i j,xs=[.int i,.int j]∧Q (.int (if j<i then j else i)) H
 |.max2=>fun xs H Q=>∃i j,xs=[.int i,.int j]∧Q (.int (if j>i then j else i)) H
 |.min1=>rMin K
 |.max1=>rMax K
 |.sum=>rSum K
 |.sorted=>rSortedI K
 |.all=>rAll K
 |.any=>rAny K
 |.list=>fun xs H Q=>∃p ys,xs=[.ref p]∧(SqL K H p ys∨SqT K H p ys)∧∀l,H l=none→Q (.ref l) (upd H l (.lst ys))
 |.tupl=>fun xs H Q=>∃p ys,xs=[.ref p]∧SqL K H p ys∧∀l,H l=none→Q (.ref l) (upd H l (.tup ys))
 |.int=>fun xs H Q=>((∃i,xs=[.int i]∧Q (.int i) H)∨∃k,xs=[.bl k]∧Q (.int (if k then 1 else 0)) H)∨∃a n,xs=[.str a]∧intText? a=some n∧a.length≤640∧Q (.int n) H
 |.dmd=>fun xs H Q=>∃i j,xs=[.int i,.int j]∧CDiv i j∧∀p,H p=none→Q (.ref p) (upd H p (.tup [.int (i / j),.int (i % j)]))
 |.str=>fun xs H Q=>∃i,xs=[.int i]∧i.natAbs.log2<1920∧Q (.str (toString i)) H
theorem qqA (hc:X.calm=true):∀p,CallR X (qr7 p) (qrT X.K p)
 |.len=>call_len
 |.abs=>call_abs
 |.min2=>call_min2 hc
 |.max2=>call_max2 hc
 |.min1=>cr_min hc
 |.max1=>cr_max hc
 |.sum=>cr_sum hc
 |.sorted=>cr_sortedI
 |.all=>cr_all hc
 |.any=>cr_any hc
 |.list=>call_list_of
 |.tupl=>fun pins s σ H vs us Q I r q=>by
  obtain⟨p,ys,e,h1,h2⟩:=q
  exact call_tuple_of pins s σ H vs us Q I r ⟨p,ys,e,.inl ⟨h1,h2⟩⟩
 |.int=>fun pins s σ H vs us Q I r q=>by
  rcases q with q | q
  ·exact call_int1 pins s σ H vs us Q I r q
  ·exact call_int_str pins s σ H vs us Q I r q
 |.dmd=>call_divmod
 |.str=>call_str_int
theorem qaN {P N:Hp} {b:Bool}:∀{ds:List D} {ns:List Int} {xs:List V},qaq ds=some ns→RepsB C P N b ds xs→xs=ns.map V.int
 |[],ns,xs,e,h=>by cases e;cases h;rfl
 |d::ds,ns,xs,e,⟨v,r,q,h1,h2⟩=>by
  cases d<;>simp only[qaq] at e<;>try cases e
  rename_i i
  cases e2:qaq ds with
  |none=>rw[e2] at e;cases e
  |some ms =>
   rw[e2] at e;cases e
   have q1:v=.int i:=h1
   rw[q,q1,qaN e2 h2];rfl
theorem qdh {P N:Hp} {b:Bool}:∀{ds:List D} {ns:List Bool} {xs:List V},qdk ds=some ns→RepsB C P N b ds xs→xs=ns.map V.bl
 |[],ns,xs,e,h=>by cases e;cases h;rfl
 |d::ds,ns,xs,e,⟨v,r,q,h1,h2⟩=>by
  cases d<;>simp only[qdk] at e<;>try cases e
  rename_i i
  cases e2:qdk ds with
  |none=>rw[e2] at e;cases e
  |some ms =>
   rw[e2] at e;cases e
   have q1:v=.bl i:=h1
   rw[q,q1,qdh e2 h2];rfl
theorem qf9 {P N:Hp} {b:Bool}:∀{ds:List D} {ns:List (List Nat)} {xs:List V},qcV ds=some ns→RepsB C P N b ds xs→xs=(ns.map qar).map V.str
 |[],ns,xs,e,h=>by cases e;cases h;rfl
 |d::ds,ns,xs,e,⟨v,r,q,h1,h2⟩=>by
  cases d<;>simp only[qcV] at e<;>try cases e
  rename_i i
  cases e2:qcV ds with
  |none=>rw[e2] at e;cases e
  |some ms =>
   rw[e2] at e;cases e
   have q1:v=.str (qar i):=h1
   rw[q,q1,qf9 e2 h2];rfl
theorem qg3:∀(n:Int) (ns:List Int),qh4 (n::ns)∈n::ns∧∀y∈n::ns,qh4 (n::ns)≤y
 |n,[]=>by simp[qh4]
 |n,m::ns=>by
  obtain⟨h1,h2⟩:=qg3 m ns
  have e:qh4 (n::m::ns)=min n (qh4 (m::ns)):=rfl
  rw[e]
  constructor
  ·rcases Int.le_total n (qh4 (m::ns)) with h | h
   ·rw[Int.min_eq_left h];simp
   ·rw[Int.min_eq_right h];exact List.mem_cons_of_mem _ h1
  ·intro y hy
   rcases List.mem_cons.mp hy with rfl | hy
   ·exact Int.min_le_left _ _
   ·exact Int.le_trans (Int.min_le_right _ _) (h2 y hy)
theorem qg1:∀(n:Int) (ns:List Int),qib (n::ns)∈n::ns∧∀y∈n::ns,y≤qib (n::ns)
 |n,[]=>by simp[qib]
 |n,m::ns=>by
  obtain⟨h1,h2⟩:=qg1 m ns
  have e:qib (n::m::ns)=max n (qib (m::ns)):=rfl
  rw[e]
  constructor
  ·rcases Int.le_total n (qib (m::ns)) with h | h
   ·rw[Int.max_eq_right h];exact List.mem_cons_of_mem _ h1
   ·rw[Int.max_eq_left h];simp
  ·intro y hy
   rcases List.mem_cons.mp hy with rfl | hy
   ·exact Int.le_max_left _ _
   ·exact Int.le_trans (h2 y hy) (Int.le_max_right _ _)
theorem qdJ (x:Int):∀ns:List Int,(qnI x ns).Perm (x::ns)
 |[]=>.refl _
 |y::ys=>by
  unfold qnI
  split
  ·exact .refl _
  ·exact((qdJ x ys).cons y).trans (List.Perm.swap x y ys)
theorem qcg:∀ns:List Int,(qbZ ns).Perm ns
 |[]=>.refl _
 |x::xs=>(qdJ x (qbZ xs)).trans ((qcg xs).cons x)
theorem qhW (x:Int):∀ns:List Int,ns.Pairwise (· ≤ ·)→(qnI x ns).Pairwise (· ≤ ·)
 |[],_=>by simp[qnI]
 |y::ys,h=>by
  unfold qnI
  have h':=List.pairwise_cons.mp h
  split
  ·rename_i hxy
   refine List.pairwise_cons.mpr ⟨fun z hz=>?_,h⟩
   rcases List.mem_cons.mp hz with rfl | hz
   ·exact hxy
   ·exact Int.le_trans hxy (h'.1 z hz)
  ·rename_i hxy
   refine List.pairwise_cons.mpr ⟨fun z hz=>?_,qhW x ys h'.2⟩
   rcases List.mem_cons.mp ((qdJ x ys).mem_iff.mp hz) with rfl | hz
   ·omega
   ·exact h'.1 z hz
theorem qdF:∀ns:List Int,(qbZ ns).Pairwise (· ≤ ·)
 |[]=>.nil
 |x::xs=>qhW x _ (qdF xs)
theorem qc2:∀{l m:List Int},l.Perm m→l.Pairwise (· ≤ ·)→m.Pairwise (· ≤ ·)→l=m
 |[],m,p,_,_=>(List.nil_perm.mp p).symm
 |x::l,[],p,_,_=>(List.perm_nil.mp p)
 |x::l,y::m,p,h,h'=>by
  have a:=List.pairwise_cons.mp h
  have b:=List.pairwise_cons.mp h'
  have e:x=y:=by
   have h1:x∈y::m:=p.mem_iff.mp (by simp)
   have h2:y∈x::l:=p.mem_iff.mpr (by simp)
   rcases List.mem_cons.mp h1 with h1 | h1
   ·exact h1
   ·rcases List.mem_cons.mp h2 with h2 | h2
    ·exact h2.symm
    ·have:=a.1 y h2;have:=b.1 x h1;omega
  subst e
  rw[qc2 (List.Perm.cons_inv p) a.2 b.2]
theorem qoy (p:Pri) {g:List Sl→RE (List ER)} {σ:L2.St} {H:Hp} {Q:VK} (h:tE C (fun ρ=>(g ρ).bind (evP p)) σ H Q):tCB (qrT C.G.K p) (tA C g) σ H Q:=by
 obtain⟨ρ,P,N,S,h⟩:=h
 refine⟨ρ,P,N,S,h.bind.mono fun es P1 N1 H1 _ a1 h1 vs rv=>?_⟩
 have r:=(S.adv a1).reg
 have hh:=a1.hh
 clear h S a1
 unfold evP at h1
 simp only[qb7,qas,qag,qaQ,qaH,qaS,qaE,qaX,qaR,qaO,qaP] at h1
 split at h1
 all_goals try exact h1.elim
 all_goals obtain⟨v,u,rfl,w,rv⟩:=rv.w r
 all_goals first
  |(obtain⟨v2,u2,rfl,w2,rv⟩:=rv.w r;cases rv)
  |cases rv
 all_goals split at h1
 all_goals try exact h1.elim
 all_goals rename_i q1
 -- len
 ·rw[q1] at w
  obtain⟨p,xs,rfl,h4,h5⟩:=w.lst
  exact⟨_,xs.length,rfl,.inl ⟨xs,h4,rfl⟩,by rw[h5.length];exact h1.val r rfl⟩
 ·rw[q1] at w
  obtain⟨p,xs,rfl,h4,h5⟩:=w.tup r
  exact⟨_,xs.length,rfl,.inr ⟨xs,h4,rfl⟩,by rw[h5.length];exact h1.val r rfl⟩
 ·rw[q1] at w
  cases w.str
  split at h1
  ·rename_i hl
   exact⟨_,_,rfl,⟨by rw[qbf];exact hl,rfl⟩,by rw[qbf];exact h1.val r rfl⟩
  ·exact h1.elim
 -- abs
 ·rw[q1] at w
  cases w.int
  exact⟨_,rfl,h1.val r rfl⟩
 -- min2 max2
 ·rename_i q2
  rw[q2] at w;rw[q1] at w2
  cases w.int;cases w2.int
  exact⟨_,_,rfl,h1.val r rfl⟩
 ·rename_i q2
  rw[q2] at w;rw[q1] at w2
  cases w.int;cases w2.int
  exact⟨_,_,rfl,h1.val r rfl⟩
 -- min1 max1
 ·rw[q1] at w
  obtain⟨p,xs,rfl,h4,h5⟩:=w.lst
  split at h1
  ·rename_i n ns q2
   have e:=qaN q2 h5
   subst e
   obtain⟨z1,z2⟩:=qg3 n ns
   refine⟨p,n::ns,rfl,h4,by simp,fun m hm hy=>?_⟩
   have:m=qh4 (n::ns):=by
    have:=hy _ z1
    have:=z2 _ hm
    omega
   rw[this]
   exact h1.val r rfl
  ·exact h1.elim
 ·rw[q1] at w
  obtain⟨p,xs,rfl,h4,h5⟩:=w.lst
  split at h1
  ·rename_i n ns q2
   have e:=qaN q2 h5
   subst e
   obtain⟨z1,z2⟩:=qg1 n ns
   refine⟨p,n::ns,rfl,h4,by simp,fun m hm hy=>?_⟩
   have:m=qib (n::ns):=by
    have:=hy _ z1
    have:=z2 _ hm
    omega
   rw[this]
   exact h1.val r rfl
  ·exact h1.elim
 -- sum
 ·rw[q1] at w
  obtain⟨p,xs,rfl,h4,h5⟩:=w.lst
  split at h1
  ·rename_i ns q2
   have e:=qaN q2 h5
   subst e
   exact⟨p,ns,rfl,h4,h1.val r rfl⟩
  ·exact h1.elim
 -- sorted
 ·rw[q1] at w
  obtain⟨p,xs,rfl,h4,h5⟩:=w.lst
  split at h1
  ·rename_i ns q2
   have e:=qaN q2 h5
   subst e
   refine⟨p,ns,rfl,h4,fun ns' p z1 z2 hp=>?_⟩
   have:ns'=qbZ ns:=qc2 (z1.trans (qcg ns).symm) z2 (qdF ns)
   rw[this]
   exact h1.fre r hh (Reps.ints.mpr rfl) hp
  ·exact h1.elim
 -- all any
 ·rw[q1] at w
  obtain⟨p,xs,rfl,h4,h5⟩:=w.lst
  split at h1
  ·rename_i ns q2
   have e:=qdh q2 h5
   subst e
   exact⟨p,ns,rfl,h4,h1.val r rfl⟩
  ·exact h1.elim
 ·rw[q1] at w
  obtain⟨p,xs,rfl,h4,h5⟩:=w.lst
  split at h1
  ·rename_i ns q2
   have e:=qdh q2 h5
   subst e
   exact⟨p,ns,rfl,h4,h1.val r rfl⟩
  ·exact h1.elim
 -- list
 ·rw[q1] at w
  obtain⟨p,xs,rfl,h4,h5⟩:=w.lst
  exact⟨p,xs,rfl,.inl h4,fun l hl=>h1.fre r hh h5.nf hl⟩
 ·rw[q1] at w
  obtain⟨p,xs,rfl,h4,h5⟩:=w.tup r
  exact⟨p,xs,rfl,.inr h4,fun l hl=>h1.fre r hh h5.nf hl⟩
 -- tuple
 ·rw[q1] at w
  obtain⟨p,xs,rfl,h4,h5⟩:=w.lst
  exact⟨p,xs,rfl,h4,fun l hl=>h1.tup r h5.nf hl⟩
 -- int
 ·rw[q1] at w
  cases w.int
  exact .inl (.inl ⟨_,rfl,h1.val r rfl⟩)
 ·rw[q1] at w
  cases w.bl
  exact .inl (.inr ⟨_,rfl,h1.val r rfl⟩)
 ·rw[q1] at w
  cases w.str
  split at h1
  ·rename_i n q2
   split at h1
   ·rename_i hl
    rw[Nat.ble_eq] at hl
    exact .inr ⟨_,n,rfl,q2,by rw[qbf];exact hl,h1.val r rfl⟩
   ·exact h1.elim
  ·exact h1.elim
 -- divmod
 ·rename_i q2
  rw[q2] at w;rw[q1] at w2
  cases w.int;cases w2.int
  split at h1
  ·rename_i hl
   rw[qnN] at hl
   exact⟨_,_,rfl,hl,fun p hp=>h1.tup r ⟨_,_,rfl,rfl,_,_,rfl,rfl,rfl⟩ hp⟩
  ·exact h1.elim
 -- str
 ·rw[q1] at w
  cases w.int
  split at h1
  ·rename_i hl
   refine⟨_,rfl,hl,h1.val r ?_⟩
   show V.str _=V.str _
   rfl
  ·exact h1.elim
theorem qk6:∀p,bootBuiltins (qmR p)=some (qr7 p)
 |.len=>boot_len
 |.abs=>by decide +kernel
 |.min2=>by decide +kernel
 |.max2=>by decide +kernel
 |.min1=>by decide +kernel
 |.max1=>by decide +kernel
 |.sum=>by decide +kernel
 |.sorted=>by decide +kernel
 |.all=>by decide +kernel
 |.any=>by decide +kernel
 |.list=>by decide +kernel
 |.tupl=>by decide +kernel
 |.int=>by decide +kernel
 |.str=>by decide +kernel
 |.dmd=>by decide +kernel
theorem qiE:∀p,qmR p ≠ "__name__" ∧ (qmR p == ("__debug__" : Str))=false:=by intro p;cases p<;>decide
theorem qdD {x:Str} {f:Value} {r:List V→Hp→VK→Prop} {e:Expr} {es:List Expr} {t:TA} {p pos:Pos} (hc:CallR X f r) (hv:bootBuiltins x=some f) (hf:(∃id,f=.builtin id)∨∃T,f=.type T) (hg:Gl X x) (hm:X.mg x=none) (ha:PA X (e::es) t) (hn:x ≠ "__name__") (hdb:(x == ("__debug__" : Str))=false)
  (he:starEach (e::es) X.env=(false,eval e X.env)::starEach es X.env) (hpl:(backTo pos (starEach es X.env)).any (·.1)=false):PE X (.Call (.Name x p) (e::es) [] pos) (tCB r t):=by
 rcases hf with⟨id,rfl⟩ | ⟨T,rfl⟩
 ·exact pe_callB hc hg hm hv ha hn hdb he hpl
 ·exact pe_callTy hc hg hm hv ha hn hdb he hpl
theorem qoN {q:Pri} {g:List Sl→RE (List ER)} {e:Expr} {es:List Expr} {p pos:Pos} (hK:X.K=C.G.K) (hc:X.calm=true) (hg:Gl X (qmR q)) (hm:X.mg (qmR q)=none) (ha:PA X (e::es) (tA C g))
  (he:starEach (e::es) X.env=(false,eval e X.env)::starEach es X.env) (hpl:(backTo pos (starEach es X.env)).any (·.1)=false):PE X (.Call (.Name (qmR q) p) (e::es) [] pos) (tE C fun ρ=>(g ρ).bind (evP q)):=
 qad (qdD (qqA hc q) (qk6 q) (by cases q<;>first | exact .inl ⟨_,rfl⟩ | exact .inr ⟨_,rfl⟩) hg hm ha (qiE q).1 (qiE q).2 he hpl) fun σ H Q h=>by rw[hK];exact qoy q h
end
end Cm
namespace Cm
open PySem PySem.Spec PyProof.Rows L2
section
variable {C:Ctx} {X:Cx}
open Classical in
noncomputable def un3 (P N R H:Hp):Hp:=fun a=>if P a≠none∨N a≠none∨R a≠none then H a else none
open Classical in
noncomputable def un2 (N N' H:Hp):Hp:=fun a=>if N a≠none∨N' a≠none then H a else none
theorem qqo {P N R H:Hp}:Same (un3 P N R H) H:=fun a o e=>by
 unfold un3 at e
 split at e
 ·exact e
 ·cases e
theorem qqb {P N R H:Hp} (h:Same P H):Same P (un3 P N R H):=fun a o e=>by
 unfold un3
 rw[if_pos (.inl (by rw[e];simp))]
 exact h _ _ e
theorem qk3 {P N R H:Hp} (h:Same N H):Same N (un3 P N R H):=fun a o e=>by
 unfold un3
 rw[if_pos (.inr (.inl (by rw[e];simp)))]
 exact h _ _ e
theorem qp0 {P N R H:Hp} (h:Same R H):Same R (un3 P N R H):=fun a o e=>by
 unfold un3
 rw[if_pos (.inr (.inr (by rw[e];simp)))]
 exact h _ _ e
theorem qmM {P N R H:Hp} (hp:Same P H) (hn:Same N H) (hr:Same R H) {a:Addr} {o:HO} (e:un3 P N R H a=some o):P a=some o∨N a=some o∨R a=some o:=by
 unfold un3 at e
 split at e
 ·rename_i h
  rcases h with h | h | h
  ·obtain⟨u,q⟩:=Option.ne_none_iff_exists'.mp h
   have:=hp _ _ q
   rw[e] at this;cases this
   exact .inl q
  ·obtain⟨u,q⟩:=Option.ne_none_iff_exists'.mp h
   have:=hn _ _ q
   rw[e] at this;cases this
   exact .inr (.inl q)
  ·obtain⟨u,q⟩:=Option.ne_none_iff_exists'.mp h
   have:=hr _ _ q
   rw[e] at this;cases this
   exact .inr (.inr q)
 ·cases e
theorem qji {K:PySem.W.Frag} {P N R H:Hp} (hp:Same P H) (hn:Same N H) (hr:Same R H) {a:Addr} {xs:List V} (h:SqL K (un3 P N R H) a xs):SqL K P a xs∨SqL K N a xs∨SqL K R a xs:=by
 rcases h with(h | ⟨o,h⟩) | h
 ·rcases qmM hp hn hr h with h | h | h
  ·exact .inl (.inl (.inl h))
  ·exact .inr (.inl (.inl (.inl h)))
  ·exact .inr (.inr (.inl (.inl h)))
 ·rcases qmM hp hn hr h with h | h | h
  ·exact .inl (.inl (.inr ⟨o,h⟩))
  ·exact .inr (.inl (.inl (.inr ⟨o,h⟩)))
  ·exact .inr (.inr (.inl (.inr ⟨o,h⟩)))
 ·exact .inl (.inr h)
theorem qqi {N N' H:Hp}:Same (un2 N N' H) H:=fun a o e=>by
 unfold un2 at e
 split at e
 ·exact e
 ·cases e
theorem qgK {N N' H:Hp} (h:Same N H):Same N (un2 N N' H):=fun a o e=>by
 unfold un2
 rw[if_pos (.inl (by rw[e];simp))]
 exact h _ _ e
theorem qe5 {N N' H:Hp} (h:Same N' H):Same N' (un2 N N' H):=fun a o e=>by
 unfold un2
 rw[if_pos (.inr (by rw[e];simp))]
 exact h _ _ e
theorem Adv.back {P N H P' N' H':Hp} (hn:Same N H) (a:Adv P (fun _=>none) H P' N' H'):Adv P N H P' (un2 N N' H') H' where
 hh:=a.hh
 pp:=a.pp
 nn:=qgK (hn.trans a.hh)
 pH:=a.pH
 nH:=qqi
 pn:=a.pn
 nw:=fun q h=>by
  unfold un2 at h
  split at h
  ·rename_i z
   rcases z with z | z
   ·exact .inl z
   ·rcases a.nw q z with z | z
    ·exact absurd rfl z
    ·exact .inr z
  ·exact absurd rfl h
 dj:=fun q h h2=>by
  unfold un2 at h
  split at h
  ·rename_i z
   rcases z with z | z
   ·exact z
   ·exact absurd rfl (a.dj q z h2)
  ·exact absurd rfl h
theorem qhF {P N H H0:Hp} {σ:L2.St} {n:Nat} {g':List D→RE ER} {Q:VK} {es:List ER} {vs:List V} (r:Reg C P N H) (e0:L2.Same H0 H) (hv:ERs C P N H H0 es vs) (hn:es.length=n)
  (h:res C σ P N H ((g' (es.map ER.d)).bind (qbt (!es.all ER.isV))) (kE C H0 Q)):spD C.G n g' vs H Q (fun cls d H'=>C.W cls d σ H'):=by
 have rH:=r.rH
 cases ha:es.all ER.isV with
 |true =>
  rw[ha] at h
  have hr:=hv.reps ha
  refine⟨P,un3 P N C.R H,es.map ER.d,r.pH,qqo,Reps.mono (L2.Same.refl _) _ _ (fun a xs q=>?_) hr,by rw[List.length_map,hn],?_⟩
  ·rcases q with q | ⟨_,q | q | q⟩
   ·exact .inl (.inl (qk3 r.nH _ _ q))
   ·exact L2.Same.seq (qqb r.pH) q
   ·exact L2.Same.seq (qk3 r.nH) q
   ·exact L2.Same.seq (qp0 rH) q
  ·have mono:∀{P' N' H':Hp} {b:Bool},Adv P (fun _=>none) H P' N' H'→∀a xs,LNb C.G.K P' N' (un3 P N C.R H) b a xs→LNb C.G.K P' (un2 N N' H') C.R b a xs:=fun {P' N' H' b} ad a xs q=>by
    rcases q with q | ⟨hb,q | q | q⟩
    ·exact .inl (qe5 ad.nH _ _ q)
    ·exact .inr ⟨hb,.inl q⟩
    ·exact .inr ⟨hb,.inr (.inl (L2.Same.seq (qe5 ad.nH) q))⟩
    ·rcases qji r.pH r.nH rH q with q | q | q
     ·exact .inr ⟨hb,.inl (L2.Same.seq ad.pp q)⟩
     ·exact .inr ⟨hb,.inr (.inl (L2.Same.seq (qgK (r.nH.trans ad.hh)) q))⟩
     ·exact .inr ⟨hb,.inr (.inr q)⟩
   cases e:g' (es.map ER.d) with
   |bad=>rw[e] at h;exact h.elim
   |exc c fs =>
    rw[e] at h
    intro d H' P' N' ad hx
    refine h d _ _ _ (ad.back r.nH) ?_
    rcases hx with hx | ⟨dd,f,v,h1,h2,h3,h4⟩
    ·exact .inl hx
    ·exact .inr ⟨dd,f,v,h1,h2,h3,Rep.mono (L2.Same.refl _) _ _ (mono ad) h4⟩
   |ok er =>
    rw[e] at h
    intro v H' P' N' ad hx
    cases er with
    |brw ds b=>exact h.elim
    |val d b=>exact h _ _ _ (ad.back r.nH) v (RepB.nf (C:=C) (Rep.mono (L2.Same.refl _) _ _ (mono ad) hx))
    |fre ds b =>
     obtain⟨p,xs,rfl,h1,h2,h3,h4,h5⟩:=hx
     refine h _ _ _ (ad.back r.nH) _ ⟨p,xs,rfl,h1,e0.free h2,h3,?_,Reps.mono (L2.Same.refl _) _ _ (mono ad) h5⟩
     unfold un2
     rw[if_neg]
     rintro(z | z)
     ·exact z (r.nH.free h2)
     ·exact z h4
 |false =>
  rw[ha] at h
  have hr:Reps C.G P (SqL C.G.K H) (es.map ER.d) vs:=by
   clear h ha hn
   induction es generalizing vs with
   |nil=>cases hv;rfl
   |cons e es ih =>
    obtain⟨v,u,rfl,h1,h2⟩:=hv
    refine⟨v,u,rfl,?_,ih h2⟩
    have w:=h1.w r
    have mm:=fun a xs=>LNb.seq (K:=C.G.K) (b:=e.b) r.pH r.nH rH a xs
    cases q:e.d with
    |lst ds =>
     rw[q] at w
     obtain⟨p,xs,rfl,h3,h4⟩:=w
     exact⟨p,xs,rfl,h3,Reps.mono (L2.Same.refl _) _ _ mm h4⟩
    |non=>rw[q] at w;exact Rep.mono (L2.Same.refl _) _ _ mm w
    |bl _=>rw[q] at w;exact Rep.mono (L2.Same.refl _) _ _ mm w
    |int _=>rw[q] at w;exact Rep.mono (L2.Same.refl _) _ _ mm w
    |str _=>rw[q] at w;exact Rep.mono (L2.Same.refl _) _ _ mm w
    |tup _=>rw[q] at w;exact Rep.mono (L2.Same.refl _) _ _ mm w
    |ins _ _=>rw[q] at w;exact Rep.mono (L2.Same.refl _) _ _ mm w
    |exc _ _=>rw[q] at w;exact Rep.mono (L2.Same.refl _) _ _ mm w
  refine⟨P,H,es.map ER.d,r.pH,L2.Same.refl _,hr,by rw[List.length_map,hn],?_⟩
  have mono:∀{P' N' H':Hp},Adv P (fun _=>none) H P' N' H'→∀a xs,LNb C.G.K P' N' H true a xs→LNb C.G.K P' (un2 N N' H') C.R true a xs:=fun {P' N' H'} ad a xs q=>by
   rcases q with q | ⟨hb,q⟩
   ·exact .inl (qe5 ad.nH _ _ q)
   ·cases hb
  cases e:g' (es.map ER.d) with
  |bad=>rw[e] at h;exact h.elim
  |exc c fs =>
   rw[e] at h
   intro d H' P' N' ad hx
   refine h d _ _ _ (ad.back r.nH) ?_
   rcases hx with hx | ⟨dd,f,v,h1,h2,h3,h4⟩
   ·exact .inl hx
   ·exact .inr ⟨dd,f,v,h1,h2,h3,Rep.mono (L2.Same.refl _) _ _ (mono ad) h4⟩
  |ok er =>
   rw[e] at h
   intro v H' P' N' ad hx
   cases er with
   |brw ds b=>exact h.elim
   |val d b =>
    simp only[Bool.not_false,RE.bind_ok,qbt] at h
    split at h
    ·rename_i z
     refine h _ _ _ (ad.back r.nH) v ?_
     cases b with
     |true=>exact Rep.mono (L2.Same.refl _) _ _ (mono ad) hx
     |false=>exact Rep.flat _ _ (by simpa using z) hx
    ·exact h.elim
   |fre ds b =>
    simp only[Bool.not_false,RE.bind_ok,qbt] at h
    obtain⟨p,xs,rfl,h1,h2,h3,h4,h5⟩:=hx
    split at h
    ·rename_i z
     refine h _ _ _ (ad.back r.nH) _ ⟨p,xs,rfl,h1,e0.free h2,h3,?_,?_⟩
     ·unfold un2
      rw[if_neg]
      rintro(z | z)
      ·exact z (r.nH.free h2)
      ·exact z h4
     ·cases b with
      |true=>exact Reps.mono (L2.Same.refl _) _ _ (mono ad) h5
      |false=>exact Reps.flat _ _ (by simpa using z) h5
    ·exact h.elim
theorem qhk {G:Glo} {n m:Nat} {g gf:List D→RE ER} {dv:List D} {dvs vs:List V} {H:Hp} {Q:VK} {E:XK} (hm:dv.length=m) (hd:∀P LN,Reps G P LN dv dvs) (hg:∀xs,xs.length=n→g xs=gf (xs++dv)) (h:spD G n g vs H Q E):spD G (n+m) gf (vs++dvs) H Q E:=by
 obtain⟨P,R,ds,h1,h2,h3,h4,h5⟩:=h
 rw[hg ds h4] at h5
 exact⟨P,R,ds++dv,h1,h2,Reps.append h3 (hd _ _),by rw[List.length_append,h4,hm],h5⟩
theorem qi1 {k:Nat} {f:Addr} {fd:FuncData} {ps:List Str} {sp:Sp} {W:WX} {pins:List (Addr × Obj)} {σ:L2.St} {H:Hp} {s:Shared} {Q:VK} {us dus:List Value} {vs dvs:List V} (F:FnOk X.prog X.w X.K X.mg X.base (L2.CX X.prog X.w) k f fd ps sp) (hr:Room k X.A) (hb:Binds X.K fd ps dus) (hd:Vals dvs dus)
  (tk:Takes X W) (I:Inv X pins σ H s) (r:Vals vs us) (h:sp (vs++dvs) H Q (fun cls d H'=>W cls d σ H')):wpAny (model X.prog X.w) X.A (call (.ref f) us) (EP X pins σ Q) X.xe s:=by
 have r2:Vals (vs++dvs) (us++dus):=r.append hd
 have hl:(us++dus).length=ps.length:=by rw[←r2.length];exact F.len _ _ _ _ h
 refine wpAny_call (codeAny_mono (F.run X.A X.stack s H ⟨us,[]⟩ (us++dus) (vs++dvs) Q _ hr I.env0 (hb s us I.kIn hl) r2 h) fun r s' hq=>?_)
 cases r with
 |error e=>exact tk e s' (XE.of_call I (fun cls d H' q=>q) hq)
 |ok fl =>
  cases fl with
  |ret u=>exact I.after hq
  |next=>exact False.elim hq
  |brk=>exact False.elim hq
  |cont=>exact False.elim hq
theorem qjg {k:Nat} {f:Addr} {fd:FuncData} {ps:List Str} {sp:Sp} {W:WX} {pins:List (Addr × Obj)} {σ:L2.St} {H:Hp} {s:Shared} {Q:VK} {us:List Value} {vs:List V} (F:FnOk X.prog X.w X.K X.mg X.base (L2.CX X.prog X.w) k f fd ps sp) (hr:Room k X.A) (hb:Binds X.K fd ps [])
  (tk:Takes X W) (I:Inv X pins σ H s) (r:Vals vs us) (h:sp vs H Q (fun cls d H'=>W cls d σ H')):wpAny (model X.prog X.w) X.A (call (.ref f) us) (EP X pins σ Q) X.xe s:=by
 have hl:us.length=ps.length:=by rw[←r.length];exact F.len _ _ _ _ h
 have hb':=hb s us I.kIn (by rw[List.append_nil];exact hl)
 rw[List.append_nil] at hb'
 refine wpAny_call (codeAny_mono (F.run X.A X.stack s H ⟨us,[]⟩ us vs Q _ hr I.env0 hb' r h) fun r s' hq=>?_)
 cases r with
 |error e=>exact tk e s' (XE.of_call I (fun cls d H' q=>q) hq)
 |ok fl =>
  cases fl with
  |ret u=>exact I.after hq
  |next=>exact False.elim hq
  |brk=>exact False.elim hq
  |cont=>exact False.elim hq
def qh3 (X:Cx) (es:List Expr):Prop:=(∀e r,es=e::r→starEach (e::r) X.env=(false,eval e X.env)::starEach r X.env)∧∀pos e r,es=e::r→(backTo pos (starEach r X.env)).any (·.1)=false
def Part (K:PySem.W.Frag) (G:Glo) (fd:FuncData) (ps:List Str) (n m:Nat) (g gf:List D→RE ER):Prop:=
 ∃(dv:List D) (dvs:List V) (dus:List Value),Binds K fd ps dus∧Vals dvs dus∧dv.length=m∧(∀P LN,Reps G P LN dv dvs)∧∀xs,xs.length=n→g xs=gf (xs++dv)
theorem Part.all {K:PySem.W.Frag} {G:Glo} {fd:FuncData} {ps:List Str} {n:Nat} {g:List D→RE ER} (h:Binds K fd ps []):Part K G fd ps n 0 g g:=⟨[],[],[],h,.nil,rfl,fun _ _=>rfl,fun xs _=>by rw[List.append_nil]⟩
theorem qdz {x:Str} {k:Nat} {f:Addr} {fd:FuncData} {ps:List Str} {n m:Nat} {g' gf:List D→RE ER} {dv:List D} {dvs:List V} {dus:List Value} {g:List Sl→RE (List ER)} {es:List Expr} {p pos:Pos} (F:FnOk X.prog X.w X.K X.mg X.base (L2.CX X.prog X.w) k f fd ps (spD C.G (n+m) gf)) (hr:Room k X.A) (hg:Gl X x) (hm:X.mg x=some (.ref f)) (hk:PySem.W.keepIn X.K (.ref f)=true)
  (hb:Binds X.K fd ps dus) (hdv:Vals dvs dus) (hdm:dv.length=m) (hdr:∀P LN,Reps C.G P LN dv dvs) (hgf:∀xs,xs.length=n→g' xs=gf (xs++dv)) (tk:Takes X C.W) (ha:PA X es (tA C g)) (hdb:(x == ("__debug__" : Str))=false) (hs:qh3 X es) (h0:es=[]→∀ρ,g ρ=.ok []) :
  PE X (.Call (.Name x p) es [] pos) (fun σ H Q=>tA C g σ H fun vs H1=>spD C.G n g' vs H1 Q (fun cls d H'=>C.W cls d σ H')):=by
  cases es with
  |nil =>
   refine⟨fun pins s σ H Q I h=>?_⟩
   refine wpAny_Call_Name_kw (ld_glob I hg hm ?_ hdb)
   refine PySem.W.callWith_K0 I.kIn hk ?_
   obtain⟨ρ,P,N,S,h⟩:=h
   rw[h0 rfl ρ] at h
   exact qi1 F hr hb hdv tk I .nil (qhk hdm hdr hgf (h.now S.reg [] rfl))
  |cons e es =>
   refine⟨fun pins s σ H Q I h=>?_⟩
   refine wpAny_Call_Name_kw (ld_glob I hg hm ?_ hdb)
   refine PySem.W.callWith_K (h₀:=X.base) I.ok.mod.kin hk (thn (ha.run pos pins s σ H _ I h) fun us s1 ⟨vs,H1,I1,r,q⟩=>⟨I1.kIn,?_⟩) (hs.1 _ _ rfl) (hs.2 _ _ _ rfl)
   exact qi1 F hr hb hdv tk I1 r (qhk hdm hdr hgf q)
theorem qlm {x:Str} {k:Nat} {f:Addr} {fd:FuncData} {ps:List Str} {n m:Nat} {g' gf:List D→RE ER} {dv:List D} {dvs:List V} {dus:List Value} {g:List Sl→RE (List ER)} {es:List Expr} {p pos:Pos} (F:FnOk X.prog X.w X.K X.mg X.base (L2.CX X.prog X.w) k f fd ps (spD C.G (n+m) gf)) (hr:Room k X.A) (hg:Gl X x) (hm:X.mg x=some (.ref f)) (hk:PySem.W.keepIn X.K (.ref f)=true)
  (hb:Binds X.K fd ps dus) (hdv:Vals dvs dus) (hdm:dv.length=m) (hdr:∀P LN,Reps C.G P LN dv dvs) (hgf:∀xs,xs.length=n→g' xs=gf (xs++dv)) (tk:Takes X C.W) (ha:PA X es (tA C g)) (hdb:(x == ("__debug__" : Str))=false) (hs:qh3 X es) (hl:∀ρ r,g ρ=.ok r→r.length=n) (h0:es=[]→∀ρ,g ρ=.ok []) :
  PE X (.Call (.Name x p) es [] pos) (tE C fun ρ=>(g ρ).bind fun r=>(g' (r.map ER.d)).bind (qbt (!r.all ER.isV))):=by
 refine qad (qdz F hr hg hm hk hb hdv hdm hdr hgf tk ha hdb hs h0) fun σ H Q q=>?_
 obtain⟨ρ,P,N,S,h⟩:=q
 exact⟨ρ,P,N,S,h.bind.mono fun r P1 N1 H1 e a1 h1 vs rv=>qhF (S.adv a1).reg a1.hh rv (hl _ _ e) h1⟩
def ER.noF:ER→Bool
 |.fre _ _=>false
 |_=>true
theorem qcZ {G:Glo} {P:Hp} {LN:Addr→List V→Prop}:∀{ds:List D} {ns:List Int} {xs:List V},qaq ds=some ns→Reps G P LN ds xs→xs=ns.map V.int
 |[],ns,xs,e,h=>by cases e;cases h;rfl
 |d::ds,ns,xs,e,⟨v,r,q,h1,h2⟩=>by
  cases d<;>simp only[qaq] at e<;>try cases e
  rename_i i
  cases k:qaq ds with
  |none=>rw[k] at e;cases e
  |some ms =>
   rw[k] at e
   cases e
   have h1:v=.int i:=h1
   rw[q,h1,qcZ k h2]
   rfl
theorem qeP:∀{ds:List D} {ns:List Int},qaq ds=some ns→D.flats ds=true
 |[],_,_=>rfl
 |d::ds,ns,e=>by
  cases d<;>simp only[qaq] at e<;>try cases e
  cases k:qaq ds with
  |none=>rw[k] at e;cases e
  |some ms =>
   simp only[D.flats,D.flat,Bool.true_and]
   exact qeP k
mutual
theorem Rep.off {G:Glo} {P:Hp} {LN LN':Addr→List V→Prop} {os:List (List Int)} (h:∀a (ns:List Int),LN a (ns.map V.int)→ns∉os→LN' a (ns.map V.int)):∀(d:D) (v:V),qml os d=true→Rep G P LN d v→Rep G P LN' d v
 |.non,_,_,q=>q
 |.bl _,_,_,q=>q
 |.int _,_,_,q=>q
 |.str _,_,_,q=>q
 |.lst ds,v,f,⟨a,xs,e,h1,h2⟩=>by
  unfold qml at f
  split at f
  ·rename_i ns hn
   have ex:xs=ns.map V.int:=qcZ hn h2
   refine⟨a,xs,e,?_,Reps.flat ds xs (qeP hn) h2⟩
   rw[ex] at h1 ⊢
   exact h a ns h1 (by simpa using f)
  ·cases f
 |.tup ds,v,f,⟨a,xs,e,h1,h2⟩=>⟨a,xs,e,h1,Reps.off h ds xs (by simpa[qml] using f) h2⟩
 |.ins c ds,v,f,_=>by simp[qml] at f
 |.exc _ _,v,f,_=>by simp[qml] at f
theorem Reps.off {G:Glo} {P:Hp} {LN LN':Addr→List V→Prop} {os:List (List Int)} (h:∀a (ns:List Int),LN a (ns.map V.int)→ns∉os→LN' a (ns.map V.int)):∀(ds:List D) (vs:List V),qk2 os ds=true→Reps G P LN ds vs→Reps G P LN' ds vs
 |[],_,_,q=>q
 |d::ds,vs,f,⟨v,r,e,h1,h2⟩=>by
  simp only[qk2,Bool.and_eq_true] at f
  exact⟨v,r,e,Rep.off h d v f.1 h1,Reps.off h ds r f.2 h2⟩
end
open Classical in
noncomputable def atO (os:List (List Int)) (H:Hp):Hp:=fun a=>if ∃ns∈os,H a=some (.lst (ns.map V.int)) then H a else none
theorem qn9 {os:List (List Int)} {H:Hp}:Same (atO os H) H:=fun a o e=>by
 unfold atO at e
 split at e
 ·exact e
 ·cases e
theorem qmD {os:List (List Int)} {H:Hp} {a:Addr} {o:HO} (e:atO os H a=some o):∃ns∈os,o=.lst (ns.map V.int):=by
 unfold atO at e
 split at e
 ·rename_i h
  obtain⟨ns,hn,h⟩:=h
  rw[h] at e
  cases e
  exact⟨ns,hn,rfl⟩
 ·cases e
theorem qpF {os:List (List Int)} {H:Hp} {a:Addr} {ns:List Int} (hn:ns∈os) (h:H a=some (.lst (ns.map V.int))):atO os H a=some (.lst (ns.map V.int)):=by
 unfold atO
 rw[if_pos ⟨ns,hn,h⟩,h]
theorem qmQ {N A H:Hp} (hn:Same N H) (ha:Same A H) {a:Addr} {o:HO} (e:un2 N A H a=some o):N a=some o∨A a=some o:=by
 unfold un2 at e
 split at e
 ·rename_i h
  rcases h with h | h
  ·obtain⟨u,q⟩:=Option.ne_none_iff_exists'.mp h
   have:=hn _ _ q
   rw[e] at this;cases this
   exact .inl q
  ·obtain⟨u,q⟩:=Option.ne_none_iff_exists'.mp h
   have:=ha _ _ q
   rw[e] at this;cases this
   exact .inr q
 ·cases e
theorem qjW:∀{ns ms:List Int},ns.map V.int=ms.map V.int→ns=ms
 |[],[],_=>rfl
 |[],_::_,h=>by cases h
 |_::_,[],h=>by cases h
 |n::ns,m::ms,h=>by
  rw[List.map_cons,List.map_cons] at h
  injection h with h1 h2
  injection h1 with h1
  rw[h1,qjW h2]
theorem qlB {K:PySem.W.Frag} {N H:Hp} {os:List (List Int)} (hn:Same N H) {a:Addr} {ns:List Int} (h:SqL K (un2 N (atO os H) H) a (ns.map V.int)) (hs:ns∉os):SqL K N a (ns.map V.int):=by
 rcases h with(h | ⟨o,h⟩) | h
 ·rcases qmQ hn qn9 h with h | h
  ·exact .inl (.inl h)
  ·obtain⟨ms,hm,e⟩:=qmD h
   injection e with e
   rw[qjW e] at hs
   exact absurd hm hs
 ·rcases qmQ hn qn9 h with h | h
  ·exact .inl (.inr ⟨o,h⟩)
  ·obtain⟨ms,hm,e⟩:=qmD h
   cases e
 ·exact .inr h
theorem qd2 {P N H H0:Hp} {os:List (List Int)} {X:Hp} (hX:Same X H) (mm:∀(b:Bool) a xs,LNb C.G.K P N C.R b a xs→SqL C.G.K (un2 X (atO os H) H) a xs):∀{es:List ER} {vs:List V} {os':List (List Int)},(∀ns∈os',ns∈os)→qeA es=some os'→ERs C P N H H0 es vs→(∀e∈es,e.noF=true)→Reps C.G P (SqL C.G.K (un2 X (atO os H) H)) (es.map ER.d) vs
 |[],vs,_,_,_,hv,_=>by cases hv;rfl
 |e::es,vs,os',ho,hw,⟨v,u,ev,h1,h2⟩,hf=>by
  subst ev
  cases e with
  |val d b =>
   exact⟨v,u,rfl,Rep.mono (L2.Same.refl _) _ _ (mm b) h1,qd2 hX mm ho hw h2 fun e he=>hf e (List.mem_cons_of_mem _ he)⟩
  |fre ds b=>have:=hf _ (List.mem_cons_self ..);cases this
  |brw ds b =>
   unfold qeA at hw
   split at hw
   ·rename_i ns hn
    cases k:qeA es with
    |none=>rw[k] at hw;cases hw
    |some os2 =>
     rw[k] at hw
     cases hw
     obtain⟨p,xs,rfl,z1,_,_,_,z5⟩:=h1
     have ex:xs=ns.map V.int:=qcZ hn z5
     refine⟨.ref p,u,rfl,⟨p,xs,rfl,?_,Reps.mono (L2.Same.refl _) _ _ (mm b) z5⟩,qd2 hX mm (fun m hm=>ho m (List.mem_cons_of_mem _ hm)) k h2 fun e he=>hf e (List.mem_cons_of_mem _ he)⟩
     rw[ex] at z1 ⊢
     exact .inl (.inl (qe5 qn9 _ _ (qpF (ho ns (List.mem_cons_self ..)) z1)))
   ·cases hw
theorem qjX {P N H H0:Hp} {σ:L2.St} {n:Nat} {g':List D→RE ER} {Q:VK} {es:List ER} {vs:List V} {os:List (List Int)} (r:Reg C P N H) (hv:ERs C P N H H0 es vs) (hf:∀e∈es,e.noF=true) (hn:es.length=n) (ho:qeA es=some os)
  (h:res C σ P N H ((g' (es.map ER.d)).bind (qqI os)) (kE C H0 Q)):spD C.G n g' vs H Q (fun cls d H'=>C.W cls d σ H'):=by
 have rH:=r.rH
 have hX:Same (un3 P N C.R H) H:=qqo
 have hr:=qd2 (os:=os) hX (fun b a xs q=>by
  rcases q with q | ⟨_,q | q | q⟩
  ·exact .inl (.inl (qgK hX _ _ (qk3 r.nH _ _ q)))
  ·exact L2.Same.seq ((qqb r.pH).trans (qgK hX)) q
  ·exact L2.Same.seq ((qk3 r.nH).trans (qgK hX)) q
  ·exact L2.Same.seq ((qp0 rH).trans (qgK hX)) q) (fun _ h=>h) ho hv hf
 refine⟨P,un2 (un3 P N C.R H) (atO os H) H,es.map ER.d,r.pH,qqi,hr,by rw[List.length_map,hn],?_⟩
 have off:∀{P' N' H':Hp} {b:Bool},Adv P (fun _=>none) H P' N' H'→∀a (ns:List Int),LNb C.G.K P' N' (un2 (un3 P N C.R H) (atO os H) H) b a (ns.map V.int)→ns∉os→LNb C.G.K P' (un2 N N' H') C.R false a (ns.map V.int):=fun {P' N' H' b} ad a ns q hs=>by
  rcases q with q | ⟨hb,q | q | q⟩
  ·exact .inl (qe5 ad.nH _ _ q)
  ·exact .inr ⟨rfl,.inl q⟩
  ·exact .inr ⟨rfl,.inr (.inl (L2.Same.seq (qe5 ad.nH) q))⟩
  ·rcases qji r.pH r.nH rH (qlB hX q hs) with q | q | q
   ·exact .inr ⟨rfl,.inl (L2.Same.seq ad.pp q)⟩
   ·exact .inr ⟨rfl,.inr (.inl (L2.Same.seq (qgK (r.nH.trans ad.hh)) q))⟩
   ·exact .inr ⟨rfl,.inr (.inr q)⟩
 have mono:∀{P' N' H':Hp},Adv P (fun _=>none) H P' N' H'→∀a xs,LNb C.G.K P' N' (un2 (un3 P N C.R H) (atO os H) H) true a xs→LNb C.G.K P' (un2 N N' H') C.R true a xs:=fun {P' N' H'} ad a xs q=>by
  rcases q with q | ⟨hb,q⟩
  ·exact .inl (qe5 ad.nH _ _ q)
  ·cases hb
 cases e:g' (es.map ER.d) with
 |bad=>rw[e] at h;exact h.elim
 |exc c fs =>
  rw[e] at h
  intro d H' P' N' ad hx
  refine h d _ _ _ (ad.back r.nH) ?_
  rcases hx with hx | ⟨dd,f,v,h1,h2,h3,h4⟩
  ·exact .inl hx
  ·exact .inr ⟨dd,f,v,h1,h2,h3,Rep.mono (L2.Same.refl _) _ _ (mono ad) h4⟩
 |ok er =>
  rw[e] at h
  intro v H' P' N' ad hx
  cases er with
  |brw ds b=>exact h.elim
  |fre ds b=>exact h.elim
  |val d b =>
   simp only[RE.bind_ok,qqI] at h
   split at h
   ·rename_i z
    refine h _ _ _ (ad.back r.nH) v ?_
    have:=RepB.nf (C:=C) (b:=false) (Rep.off (LN':=LNb C.G.K P' (un2 N N' H') C.R false) (off ad) d v z hx)
    rw[Bool.false_or] at this
    exact this
   ·exact h.elim
theorem qne (e:ER):e.frz.noF=true:=by cases e<;>rfl
theorem qkJ {x:Str} {k:Nat} {f:Addr} {fd:FuncData} {ps:List Str} {n m:Nat} {g' gf:List D→RE ER} {dv:List D} {dvs:List V} {dus:List Value} {g:List Sl→RE (List ER)} {es:List Expr} {p pos:Pos} (F:FnOk X.prog X.w X.K X.mg X.base (L2.CX X.prog X.w) k f fd ps (spD C.G (n+m) gf)) (hr:Room k X.A) (hg:Gl X x) (hm:X.mg x=some (.ref f)) (hk:PySem.W.keepIn X.K (.ref f)=true)
  (hb:Binds X.K fd ps dus) (hdv:Vals dvs dus) (hdm:dv.length=m) (hdr:∀P LN,Reps C.G P LN dv dvs) (hgf:∀xs,xs.length=n→g' xs=gf (xs++dv)) (tk:Takes X C.W) (ha:PA X es (tA C g)) (hdb:(x == ("__debug__" : Str))=false) (hs:qh3 X es) (hl:∀ρ r,g ρ=.ok r→r.length=n) (hF:∀ρ r,g ρ=.ok r→∀e∈r,e.noF=true) (h0:es=[]→∀ρ,g ρ=.ok []) :
  PE X (.Call (.Name x p) es [] pos) (tE C fun ρ=>(g ρ).bind fun r=>match qeA r with
   |some os=>(g' (r.map ER.d)).bind (qqI os)
   |none=>.bad):=by
 refine qad (qdz F hr hg hm hk hb hdv hdm hdr hgf tk ha hdb hs h0) fun σ H Q q=>?_
 obtain⟨ρ,P,N,S,h⟩:=q
 refine⟨ρ,P,N,S,h.bind.mono fun r P1 N1 H1 e a1 h1 vs rv=>?_⟩
 cases k:qeA r with
 |none=>rw[k] at h1;exact h1.elim
 |some os =>
  rw[k] at h1
  exact qjX (S.adv a1).reg rv (hF _ _ e) (hl _ _ e) k h1
structure MtOk (C:Ctx) (X:Cx) (m:Str) (c:Nat) (n:Nat) (g':List D→RE ER):Prop where
 cls:Cls X.K (C.G.ca c)
 nf:m∉C.G.fl c
 fn:∃k f fd ps,Meth X.K (C.G.ca c) m f∧FnOk X.prog X.w X.K X.mg X.base (L2.CX X.prog X.w) k f fd ps (spD C.G (n+1) g')∧Room k X.A∧Binds X.K fd ps []
theorem qeM {α β:Type} [BEq α] [LawfulBEq α] {m:α}:∀{l:List α} {xs:List β},m∉l→(l.zip xs).lookup m=none
 |[],_,_=>rfl
 |a::l,[],_=>rfl
 |a::l,x::xs,h=>by
  simp only[List.mem_cons,not_or] at h
  have:(m == a)=false:=by simpa using h.1
  simp only[List.zip_cons_cons,List.lookup_cons,this]
  exact qeM h.2
theorem qoG {m:Str} {n:Nat} {mt:Nat→Option (List D→RE ER)} {o:Expr} {go:List Sl→RE ER} {g:List Sl→RE (List ER)} {es:List Expr} {apos pos:Pos} (hm:∀c g',mt c=some g'→MtOk C X m c n g')
  (tk:Takes X C.W) (ho:PE X o (tE C go)) (ha:PA X es (tA C g)) (hs:qh3 X es) (hl:∀ρ r,g ρ=.ok r→r.length=n) (h0:es=[]→∀ρ,g ρ=.ok [])
  {pl:Sem Bool} (ht:eval (.Call (.Attribute o m apos) es [] pos) X.env=(do
   let ov ←eval o X.env
   standAt apos.atName
   let (f,first) ←holding [ov] (getMethod ov m pl)
   callWith pos f first (backTo pos (starEach es X.env)) (backToKw pos (keywordEach [] X.env)))) :
  PE X (.Call (.Attribute o m apos) es [] pos) (tE C fun ρ=>(go ρ).bind fun x=>match x.d with
  |.ins c fs=>match mt c with
   |some g'=>(g ρ).bind fun r=>(g' (.ins c fs::r.map ER.d)).bind (qbt (!r.all ER.isV))
   |none=>.bad
  |_=>.bad):=by
 refine⟨fun pins s σ H Q I h=>?_⟩
 have body:tE C go σ H fun x H1=>∃(a Ca dx:Addr) (fs:List (Str × V)) (f:Addr) (k:Nat) (fd:FuncData) (ps:List Str) (g':List D→RE ER),x=.ref a∧H1 a=some (.ins Ca dx fs)∧Cls X.K Ca∧Meth X.K Ca m f∧fs.lookup m=none ∧
   FnOk X.prog X.w X.K X.mg X.base (L2.CX X.prog X.w) k f fd ps (spD C.G (n+1) g')∧Room k X.A∧Binds X.K fd ps [] ∧
   ∃ρ P N r0,SR C P N H1 ρ σ∧(r0=g ρ)∧res C σ P N H1 r0 fun es' P' N' H'=>∀vs,ERs C P' N' H' H1 es' vs→spD C.G (n+1) g' (.ref a::vs) H' Q (fun cls d H'=>C.W cls d σ H'):=by
  obtain⟨ρ,P,N,S,h⟩:=h
  refine⟨ρ,P,N,S,h.bind.mono fun x P1 N1 H1 e1 a1 h1 v rv=>?_⟩
  have r1:=(S.adv a1).reg
  split at h1
  ·rename_i c fs q
   split at h1
   ·rename_i g' q2
    obtain⟨c1,c2,k,f,fd,ps,c3,c4,c5,c6⟩:=hm _ _ q2
    have w:=rv.w r1
    rw[q] at w
    have w':=w
    obtain⟨a,dx,xs,rfl,z1,z2,z3⟩:=w'
    refine⟨a,C.G.ca c,dx,_,f,k,fd,ps,g',rfl,r1.pH _ _ z1,c1,c3,qeM c2,c4,c5,c6,ρ,P1,N1,_,S.adv a1,rfl,?_⟩
    refine(res.bind h1).mono fun r P2 N2 H2 e2 a2 h2 vs rvs=>?_
    have r2:=(S.adv (a1.trans a2)).reg
    refine qhF (es:=.val (.ins c fs) x.b::r) r2 (a1.trans a2).hh ⟨_,vs,rfl,RepB.adv a2.pp a2.nn w,rvs.from a1.hh⟩ ?_ ?_
    ·rw[List.length_cons,hl _ _ e2]
    ·simpa[ER.isV] using h2
   ·exact h1.elim
  ·exact h1.elim
 refine PySem.W.methodCall_KW (pl:=pl) (thn (ho.run pins s σ H _ I body) fun u s1 ⟨x,H1,I1,rx,a,Ca,dx,fs,f,k,fd,ps,g',ex,ea,c,k',l,F,hr,hb,ρ,P,N,r0,S,e0,q⟩=>?_) ht
 subst ex
 obtain rfl:u=Value.ref a:=rx
 refine getmeth_ok I1 ea c k' l ?_
 subst e0
 cases es with
 |nil =>
  refine PySem.W.callWith_K0 (first:=[.ref a]) I1.kIn k'.kp ?_
  rw[h0 rfl ρ] at q
  exact qjg (us:=[.ref a]) (vs:=[.ref a]) F hr hb tk I1 (.cons rfl .nil) (q.now S.reg [] rfl)
 |cons e es =>
  refine PySem.W.callWith_K (first:=[.ref a]) (h₀:=X.base) I1.ok.mod.kin k'.kp (thn (ha.run pos pins s1 σ H1 (fun vs H'=>spD C.G (n+1) g' (.ref a::vs) H' Q (fun cls d H'=>C.W cls d σ H')) I1 ⟨ρ,P,N,S,q⟩) fun us s2 ⟨vs,H2,I2,r,q2⟩=>⟨I2.kIn,?_⟩) (hs.1 _ _ rfl) (hs.2 _ _ _ rfl)
  exact qjg (us:=.ref a::us) (vs:=.ref a::vs) F hr hb tk I2 (.cons rfl r) q2
structure FdOk (C:Ctx) (X:Cx) (f:Str) (c:Nat) (k:Nat):Prop where
 cls:Cls X.K (C.G.ca c)
 no:NoAttr X.K (C.G.ca c) f
 at_:(C.G.fl c)[k]? = some f
 nd:(C.G.fl c).Nodup
theorem qda {f:Str}:∀{l:List Str} {xs:List V} {k:Nat} {v:V},l.Nodup→l[k]? = some f→xs[k]? = some v→(l.zip xs).lookup f=some v
 |[],_,_,_,_,h,_=>by simp at h
 |a::l,[],_,_,_,_,h=>by simp at h
 |a::l,x::xs,0,v,_,h,h'=>by
  simp at h h';subst h;subst h'
  simp
 |a::l,x::xs,k+1,v,nd,h,h'=>by
  have nd':=List.nodup_cons.mp nd
  have hl:l[k]? = some f:=by simpa using h
  have:f≠a:=fun e=>nd'.1 (e ▸ List.mem_of_getElem? hl)
  have e:(f == a)=false:=by simpa using this
  simp only[List.zip_cons_cons,List.lookup_cons,e]
  exact qda nd'.2 hl (by simpa using h')
theorem qov {f:Str} {fi:Nat→Option Nat} {o:Expr} {go:List Sl→RE ER} {pos:Pos} (hK:X.K=C.G.K) (hf:∀c k,fi c=some k→FdOk C X f c k) (ho:PE X o (tE C go)) (hb:attributeBase o f X.env (eval o X.env)=eval o X.env) :
  PE X (.Attribute o f pos) (tE C fun ρ=>(go ρ).bind fun x=>match x.d with
  |.ins c fs=>match fi c with
   |some k=>match fs[k]? with
    |some d=>.ok (.val d d.flat)
    |none=>.bad
   |none=>.bad
  |_=>.bad):=by
 refine qad (pe_fld ho hb) fun σ H Q q=>?_
 obtain⟨ρ,P,N,S,h⟩:=q
 refine⟨ρ,P,N,S,h.bind.mono fun x P1 N1 H1 e1 a1 h1 v rv=>?_⟩
 have r1:=(S.adv a1).reg
 split at h1
 ·rename_i c fs q
  split at h1
  ·rename_i k q2
   obtain⟨c1,c2,c3,c4⟩:=hf _ _ q2
   have w:=rv.w r1
   rw[q] at w
   obtain⟨a,dx,xs,rfl,z1,z2,z3⟩:=w
   split at h1
   ·rename_i d q3
    obtain⟨u,q4,q5⟩:=Reps.get z3 q3
    refine⟨a,_,dx,_,u,rfl,r1.pH _ _ z1,c1,c2,qda c4 c3 q4,h1.val r1 ?_⟩
    exact RepB.nf (b:=false) (Rep.mono (L2.Same.refl _) _ _ LNb.ofP q5)
   ·exact h1.elim
  ·exact h1.elim
 ·exact h1.elim
end
end Cm
namespace Cm
open PySem PySem.Spec PyProof.Rows L2
section
variable {C:Ctx} {X:Cx}
def tyS:Ty→String
 |.bool=>"bool" |.int=>"int" |.str=>"str" |.list=>"list" |.tuple=>"tuple"
def tyN:Ty→Str
 |.bool=>"bool" |.int=>"int" |.str=>"str" |.list=>"list" |.tuple=>"tuple"
theorem qol:∀t,bootBuiltins (tyN t)=some (.type (tyS t))
 |.bool=>by decide +kernel
 |.int=>by decide +kernel
 |.str=>by decide +kernel
 |.list=>by decide +kernel
 |.tuple=>by decide +kernel
theorem qmL:∀t,tyN t ≠ "__name__" ∧ (tyN t == ("__debug__" : Str))=false:=by intro t;cases t<;>decide
theorem qgf {K:PySem.W.Frag} {H:Hp} {a:Addr} {xs:List V} (h:SqL K H a xs):TyX K H (.ref a) (.type "list"):=by
 rcases h with(h | ⟨o,h⟩) | ⟨o,its,n,h1,h2,_⟩
 ·exact .base (.lst h)
 ·exact .base (.frz h)
 ·exact .kList h1 h2
theorem qfS {K:PySem.W.Frag} {H:Hp} {a:Addr} {xs:List V} (h:SqT K H a xs):TyX K H (.ref a) (.type "tuple"):=by
 rcases h with(h | ⟨o,h⟩) | ⟨o,its,n,h1,h2,_⟩
 ·exact .base (.tup h)
 ·exact .fTuple h
 ·exact .kTuple h1 h2
theorem qat (a b:String) (r:Bool) (h:kitB a b=some r) {K:PySem.W.Frag}:PySem.W.kitOne K (.type a) (.type b)=some r:=kit_ty h
theorem qn5 {g:List Sl→RE ER} {t:Ty} {σ:L2.St} {H:Hp} {Q:VK} (h:tE C (fun ρ=>(g ρ).bind fun x=>qo4 x.d t) σ H Q):tCB (rIsi C.G.K) (tCons (tE C g) (tCons (tC (.ty (tyS t))) tNil)) σ H Q:=by
 obtain⟨ρ,P,N,S,h⟩:=h
 refine⟨ρ,P,N,S,h.bind.mono fun x P1 N1 H1 e1 a1 h1 v rv=>?_⟩
 have r1:=(S.adv a1).reg
 have w:=rv.w r1
 show ∃(x c:V) (t' u:Value) (b:Bool),[v,V.ty (tyS t)]=[x,c]∧ClsV c u∧TyX C.G.K H1 x t'∧PySem.W.kitOne C.G.K t' u=some b∧Q (.bl b) H1
 cases q:x.d with
 |non =>
  rw[q] at w h1
  obtain rfl:v=.non:=w
  refine⟨_,_,.type "NoneType",_,false,rfl,.ty _,.base .non,?_,?_⟩
  ·cases t<;>exact qat _ _ _ (by decide +kernel)
  ·cases t<;>exact h1.val r1 rfl
 |bl b =>
  rw[q] at w h1
  obtain rfl:=w.bl
  cases t
  ·exact⟨_,_,_,_,true,rfl,.ty _,.base (.bl b),qat _ _ _ (by decide +kernel),h1.val r1 rfl⟩
  ·exact⟨_,_,_,_,true,rfl,.ty _,.base (.bl b),qat _ _ _ (by decide +kernel),h1.val r1 rfl⟩
  ·exact⟨_,_,_,_,false,rfl,.ty _,.base (.bl b),qat _ _ _ (by decide +kernel),h1.val r1 rfl⟩
  ·exact⟨_,_,_,_,false,rfl,.ty _,.base (.bl b),qat _ _ _ (by decide +kernel),h1.val r1 rfl⟩
  ·exact⟨_,_,_,_,false,rfl,.ty _,.base (.bl b),qat _ _ _ (by decide +kernel),h1.val r1 rfl⟩
 |int b =>
  rw[q] at w h1
  obtain rfl:=w.int
  cases t
  ·exact⟨_,_,_,_,false,rfl,.ty _,.base (.int b),qat _ _ _ (by decide +kernel),h1.val r1 rfl⟩
  ·exact⟨_,_,_,_,true,rfl,.ty _,.base (.int b),qat _ _ _ (by decide +kernel),h1.val r1 rfl⟩
  ·exact⟨_,_,_,_,false,rfl,.ty _,.base (.int b),qat _ _ _ (by decide +kernel),h1.val r1 rfl⟩
  ·exact⟨_,_,_,_,false,rfl,.ty _,.base (.int b),qat _ _ _ (by decide +kernel),h1.val r1 rfl⟩
  ·exact⟨_,_,_,_,false,rfl,.ty _,.base (.int b),qat _ _ _ (by decide +kernel),h1.val r1 rfl⟩
 |str b =>
  rw[q] at w h1
  obtain rfl:=w.str
  cases t
  ·exact⟨_,_,_,_,false,rfl,.ty _,.base (.str _),qat _ _ _ (by decide +kernel),h1.val r1 rfl⟩
  ·exact⟨_,_,_,_,false,rfl,.ty _,.base (.str _),qat _ _ _ (by decide +kernel),h1.val r1 rfl⟩
  ·exact⟨_,_,_,_,true,rfl,.ty _,.base (.str _),qat _ _ _ (by decide +kernel),h1.val r1 rfl⟩
  ·exact⟨_,_,_,_,false,rfl,.ty _,.base (.str _),qat _ _ _ (by decide +kernel),h1.val r1 rfl⟩
  ·exact⟨_,_,_,_,false,rfl,.ty _,.base (.str _),qat _ _ _ (by decide +kernel),h1.val r1 rfl⟩
 |lst ds =>
  rw[q] at w h1
  obtain⟨p,xs,rfl,z,_⟩:=w.lst
  cases t
  ·exact⟨_,_,_,_,false,rfl,.ty _,qgf z,qat _ _ _ (by decide +kernel),h1.val r1 rfl⟩
  ·exact⟨_,_,_,_,false,rfl,.ty _,qgf z,qat _ _ _ (by decide +kernel),h1.val r1 rfl⟩
  ·exact⟨_,_,_,_,false,rfl,.ty _,qgf z,qat _ _ _ (by decide +kernel),h1.val r1 rfl⟩
  ·exact⟨_,_,_,_,true,rfl,.ty _,qgf z,qat _ _ _ (by decide +kernel),h1.val r1 rfl⟩
  ·exact⟨_,_,_,_,false,rfl,.ty _,qgf z,qat _ _ _ (by decide +kernel),h1.val r1 rfl⟩
 |tup ds =>
  rw[q] at w h1
  obtain⟨p,xs,rfl,z,_⟩:=w.tup r1
  cases t
  ·exact⟨_,_,_,_,false,rfl,.ty _,qfS z,qat _ _ _ (by decide +kernel),h1.val r1 rfl⟩
  ·exact⟨_,_,_,_,false,rfl,.ty _,qfS z,qat _ _ _ (by decide +kernel),h1.val r1 rfl⟩
  ·exact⟨_,_,_,_,false,rfl,.ty _,qfS z,qat _ _ _ (by decide +kernel),h1.val r1 rfl⟩
  ·exact⟨_,_,_,_,false,rfl,.ty _,qfS z,qat _ _ _ (by decide +kernel),h1.val r1 rfl⟩
  ·exact⟨_,_,_,_,true,rfl,.ty _,qfS z,qat _ _ _ (by decide +kernel),h1.val r1 rfl⟩
 |ins c fs=>rw[q] at h1;exact h1.elim
 |exc c fs=>rw[q] at h1;exact h1.elim
theorem qhp:bootBuiltins "isinstance" = some (.builtin "isinstance"):=by decide +kernel
theorem qoT {a:Expr} {g:List Sl→RE ER} {t:Ty} {p p2 pos:Pos} (hK:X.K=C.G.K) (hg:Gl X "isinstance") (hm:X.mg "isinstance" = none) (hg2:Gl X (tyN t)) (hm2:X.mg (tyN t)=none) (h:PE X a (tE C g))
  (hs:starEach [a,.Name (tyN t) p2] X.env=(false,eval a X.env)::starEach [.Name (tyN t) p2] X.env) (hpl:(backTo pos (starEach [.Name (tyN t) p2] X.env)).any (·.1)=false):PE X (.Call (.Name "isinstance" p) [a,.Name (tyN t) p2] [] pos) (tE C fun ρ=>(g ρ).bind fun x=>qo4 x.d t):=
 qad (qdD call_isi qhp (.inl ⟨_,rfl⟩) hg hm (pa_cons h (pa_cons (pe_bltn (v:=.ty (tyS t)) hg2 hm2 (qol t) rfl (qmL t).1 (qmL t).2) pa_nil) hs) (by decide) (by decide) hs hpl) fun σ H Q q=>by rw[hK];exact qn5 q
theorem qhr {P N:Hp} {b:Bool}:∀ys:List Str,RepsB C P N b (ys.map fun z=>.str z.cps.toList) (ys.map V.str)
 |[]=>rfl
 |y::ys=>⟨_,_,rfl,rfl,qhr ys⟩
def rBm (K:PySem.W.Frag):Bme→V→List V→Hp→VK→Prop
 |.split=>fun x xs H Q=>∃a b,x=.str a∧xs=[.str b]∧(b.length == 0)=false∧a.length+2≤sizeLine∧rNewStrs (Txt.split a b) H Q
 |.join=>fun x xs H Q=>∃a p,∃ys:List Str,x=.str a∧xs=[.ref p]∧(SqL K H p (ys.map V.str)∨SqT K H p (ys.map V.str))∧(ys.map (·.length)).sum+ys.length*a.length≤16777216∧Q (.str (Txt.join a ys)) H
 |.find=>fun x xs H Q=>∃a b,x=.str a∧xs=[.str b]∧Q (.int (Txt.find a b)) H
def bmN:Bme→Str
 |.split=>"split" |.join=>"join" |.find=>"find"
abbrev gBm (m:Bme) (go g:List Sl→RE ER):List Sl→RE ER:=fun ρ=>(go ρ).bind fun x=>match x.d with
  |.str s=>(g ρ).bind fun y=>evM m s y.d
  |_=>.bad
theorem qjm {m:Bme} {go g:List Sl→RE ER} {σ:L2.St} {H:Hp} {Q:VK} (h:tE C (gBm m go g) σ H Q):tM1 (rBm C.G.K m) (tE C go) (tE C g) σ H Q:=by
 obtain⟨ρ,P,N,S,h⟩:=h
 refine⟨ρ,P,N,S,h.bind.mono fun x P1 N1 H1 e1 a1 h1 v rv=>?_⟩
 have r1:=(S.adv a1).reg
 split at h1
 ·rename_i s q
  have w:=rv.w r1
  rw[q] at w
  cases w.str
  refine⟨⟨_,rfl⟩,ρ,P1,N1,S.adv a1,(res.bind h1).mono fun y P2 N2 H2 e2 a2 h2 u ru=>?_⟩
  have r2:=(S.adv (a1.trans a2)).reg
  have w2:=ru.w r2
  cases m with
  |split =>
   simp only[evM,qb7,qas,qag,qaQ,qaH,qaS,qaE,qaX,qaR,qaO,qaP] at h2
   split at h2
   ·rename_i t q2
    rw[q2] at w2
    cases w2.str
    split at h2
    ·rename_i hl
     refine⟨_,_,rfl,rfl,?_,?_,fun p hp=>?_⟩
     ·rw[qbf];simpa using hl.1
     ·rw[qbf];exact hl.2
     ·exact h2.fre r2 (a1.trans a2).hh (qhr _) hp
    ·exact h2.elim
   ·exact h2.elim
  |join =>
   simp only[evM,qb7,qas,qag,qaQ,qaH,qaS,qaE,qaX,qaR,qaO,qaP] at h2
   split at h2
   ·rename_i xs q2
    rw[q2] at w2
    obtain⟨p,us,rfl,z1,z2⟩:=w2.lst
    split at h2
    ·rename_i ss q3
     have e:=qf9 q3 z2
     subst e
     split at h2
     ·rename_i hl
      refine⟨_,p,ss.map qar,rfl,rfl,.inl z1,?_,h2.val r2 rfl⟩
      have e1:((ss.map qar).map fun z=>z.length)=ss.map List.length:=by
       rw[List.map_map]
       exact List.map_congr_left fun a _=>qbf a
      rw[e1,List.length_map,qbf]
      exact hl
     ·exact h2.elim
    ·exact h2.elim
   ·exact h2.elim
  |find =>
   simp only[evM,qb7,qas,qag,qaQ,qaH,qaS,qaE,qaX,qaR,qaO,qaP] at h2
   split at h2
   ·rename_i t q2
    rw[q2] at w2
    cases w2.str
    exact⟨_,_,rfl,rfl,h2.val r2 rfl⟩
   ·exact h2.elim
 ·exact h1.elim
theorem qpx {m:Bme} {o a:Expr} {go g:List Sl→RE ER} {apos pos:Pos} (hK:X.K=C.G.K) (ho:PE X o (tE C go)) (ha:PE X a (tE C g)) (hs:starEach [a] X.env=[(false,eval a X.env)]) (hbase:attributeBase o (bmN m) X.env (eval o X.env)=eval o X.env) (hline:(apos.endLine == pos.line)=true) :
  PE X (.Call (.Attribute o (bmN m) apos) [a] [] pos) (tE C (gBm m go g)):=by
 cases m with
 |split=>exact qad (pe_m1 PySem.F.slot_str_split PySem.F.type_str_split mt_split ho ha hs hbase hline) fun σ H Q q=>qjm (m:=.split) q
 |join=>exact qad (pe_m1 PySem.F.slot_str_join PySem.F.type_str_join mt_join ho ha hs hbase hline) fun σ H Q q=>by rw[hK];exact qjm (m:=.join) q
 |find=>exact qad (pe_m1 PySem.F.slot_str_find PySem.F.type_str_find mt_find ho ha hs hbase hline) fun σ H Q q=>qjm (m:=.find) q
theorem qhJ (a b:Int):rgV a b=(qcD a 1 (b - a).toNat).map V.int:=by
 unfold rgV qcD
 rw[List.map_map]
 exact List.map_congr_left fun i _=>by simp
theorem qj3 {g:List Sl→RE ER} {σ:L2.St} {H:Hp} {Q:VK} (h:tE C (fun ρ=>((g ρ).bind fun x=>(RE.ok []).bind fun r=>.ok (x.frz::r)).bind fun r=>(qcp r).bind fun ns=>.ok (.fre (ns.map D.int) true)) σ H Q):tLstRg (tRg1 (tE C g)) σ H Q:=by
 obtain⟨ρ,P,N,S,h⟩:=h
 refine⟨ρ,P,N,S,(res.bind (res.bind h)).mono fun x P1 N1 H1 e1 a1 h1 v rv=>?_⟩
 have r1:=(S.adv a1).reg
 have hd:x.frz.d=x.d:=by cases x<;>rfl
 have h2:res C σ P1 N1 H1 ((qcp [x.frz]).bind fun ns=>.ok (.fre (ns.map D.int) true)) (kE C H Q):=h1.now r1
 unfold qcp at h2
 simp only[hd,qb7,qas,qag,qaQ,qaH,qaS,qaE,qaX,qaR,qaO,qaP] at h2
 split at h2
 ·rename_i n q
  have w:=rv.w r1
  rw[q] at w
  split at h2
  ·rename_i hl
   have hl:=qgM hl
   refine⟨n,w.int,⟨by decide,by decide,hl.1.1,hl.1.2,by simpa[LIM] using hl.2⟩,fun p hp=>?_⟩
   rw[qhJ,Int.sub_zero]
   exact h2.fre r1 a1.hh (Reps.ints.mpr rfl) hp
  ·exact h2.elim
 ·exact h2.elim
theorem qi7 {g g':List Sl→RE ER} {σ:L2.St} {H:Hp} {Q:VK} (h:tE C (fun ρ=>((g ρ).bind fun x=>((g' ρ).bind fun y=>(RE.ok []).bind fun r=>.ok (y.frz::r)).bind fun r=>.ok (x.frz::r)).bind fun r=>(qcp r).bind fun ns=>.ok (.fre (ns.map D.int) true)) σ H Q):tLstRg (tRg2 (tE C g) (tE C g')) σ H Q:=by
 obtain⟨ρ,P,N,S,h⟩:=h
 refine⟨ρ,P,N,S,(res.bind (res.bind h)).mono fun x P1 N1 H1 e1 a1 h1 v rv=>⟨ρ,P1,N1,S.adv a1,(res.bind (res.bind h1)).mono fun y P2 N2 H2 e2 a2 h2 u ru=>?_⟩⟩
 have r2:=(S.adv (a1.trans a2)).reg
 have hd:x.frz.d=x.d:=by cases x<;>rfl
 have hd2:y.frz.d=y.d:=by cases y<;>rfl
 have h3:res C σ P2 N2 H2 ((qcp [x.frz,y.frz]).bind fun ns=>.ok (.fre (ns.map D.int) true)) (kE C H Q):=(h2.now r2).now r2
 unfold qcp at h3
 simp only[hd,hd2,qb7,qas,qag,qaQ,qaH,qaS,qaE,qaX,qaR,qaO,qaP] at h3
 split at h3
 ·rename_i i j q q2
  have w:=(rv.adv a2).w r2
  rw[q] at w
  have w2:=ru.w r2
  rw[q2] at w2
  split at h3
  ·rename_i hl
   have hl:=qiU hl
   refine⟨i,j,w.int,w2.int,⟨hl.1.1,hl.1.2,hl.2.1.1,hl.2.1.2,by simpa[LIM] using hl.2.2⟩,fun p hp=>?_⟩
   rw[qhJ]
   exact h3.fre r2 (a1.trans a2).hh (Reps.ints.mpr rfl) hp
  ·exact h3.elim
 ·exact h3.elim
theorem qkx {o:Expr} {go:List Sl→RE ER} {apos pos:Pos} (ho:PE X o (tE C go)) (hbase:attributeBase o "bit_length" X.env (eval o X.env)=eval o X.env) (hline:(apos.endLine == pos.line)=true):PE X (.Call (.Attribute o "bit_length" apos) [] [] pos) (tE C fun ρ=>(go ρ).bind fun x=>match x.d with
  |.int i=>ok (.int (Builtin.Int.intBits i:Nat))
  |_=>.bad):=by
 refine qad (pe_bits ho hbase hline) fun σ H Q q=>?_
 obtain⟨ρ,P,N,S,h⟩:=q
 refine⟨ρ,P,N,S,h.bind.mono fun x P1 N1 H1 e1 a1 h1 v rv=>?_⟩
 have r1:=(S.adv a1).reg
 split at h1
 ·rename_i i q
  have w:=rv.w r1
  rw[q] at w
  exact⟨i,w.int,h1.val r1 rfl⟩
 ·exact h1.elim
end
end Cm
namespace Cm
open PySem PySem.Spec PyProof.Rows L2
section
variable {C:Ctx} {X:Cx}
theorem SR.setV {P N H:Hp} {ρ:List Sl} {σ:L2.St} (S:SR C P N H ρ σ) {i:Nat} {d:D} {b:Bool} {v:V} (h:RepB C P N b d v):SR C P N H (ρ.set i (.val d b)) (σ.set i (some v)) where
 reg:=S.reg
 len:=by simp[S.len]
 sl:=fun j s e=>by
  by_cases q:i=j
  ·subst q
   have hi:i<ρ.length:=by
    rcases Nat.lt_or_ge i ρ.length with z | z
    ·exact z
    ·rw[List.getElem?_eq_none (by simpa using z)] at e;cases e
   rw[List.getElem?_set_self hi] at e
   cases e
   exact⟨some v,List.getElem?_set_self (by rw[S.len];exact hi),v,rfl,h⟩
  ·rw[List.getElem?_set_ne q] at e
   rw[List.getElem?_set_ne q]
   exact S.sl j s e
 ap:=fun j k p ds c es c' e1 e2 e3 e4=>by
  by_cases q:i=j
  ·subst q
   rcases Nat.lt_or_ge i ρ.length with z | z
   ·rw[List.getElem?_set_self z] at e1;cases e1
   ·rw[List.getElem?_eq_none (by simpa using z)] at e1;cases e1
  ·by_cases q2:i=k
   ·subst q2
    rcases Nat.lt_or_ge i ρ.length with z | z
    ·rw[List.getElem?_set_self z] at e2;cases e2
    ·rw[List.getElem?_eq_none (by simpa using z)] at e2;cases e2
   ·rw[List.getElem?_set_ne q] at e1 e3
    rw[List.getElem?_set_ne q2] at e2 e4
    exact S.ap j k p ds c es c' e1 e2 e3 e4
 ad:=S.ad.set rfl
 ar:=S.ar.set rfl
def qf3:List Nat→TGs
 |[]=>gNil
 |i::is=>gCons (gName i) (qf3 is)
def tG (C:Ctx) (tg:List Nat):TG:=fun v σ H Q=>∃ρ P N d b ρ',SR C P N H ρ σ∧RepB C P N b d v∧qce tg d b ρ=some ρ'∧∀σ',SR C P N H ρ' σ'→(∀j,j∉tg→σ'[j]? = σ[j]?)→σ'.length=σ.length→Q σ' H
theorem qfQ {P N H:Hp} {b:Bool}:∀{tg:List Nat} {ds:List D} {xs:List V} {ρ ρ':List Sl} {σ:L2.St} {Q:L2.St→Hp→Prop},SR C P N H ρ σ→RepsB C P N b ds xs→qip tg ds b ρ=some ρ' →
  (∀σ',SR C P N H ρ' σ'→(∀j,j∉tg→σ'[j]? = σ[j]?)→σ'.length=σ.length→Q σ' H)→qf3 tg xs σ H Q
 |[],[],xs,ρ,ρ',σ,Q,S,h,e,q=>by
  cases h;cases e
  exact⟨rfl,q σ S (fun _ _=>rfl) rfl⟩
 |i::tg,d::ds,xs,ρ,ρ',σ,Q,S,⟨v,r,ex,h1,h2⟩,e,q=>by
  refine⟨v,r,ex,qfQ (S.setV (RepB.nf (C:=C) h1)) h2 e fun σ' S' hj hl=>q σ' S' (fun j hj'=>?_) (by rw[hl];simp)⟩
  simp only[List.mem_cons,not_or] at hj'
  rw[hj j hj'.2,List.getElem?_set_ne (fun z=>hj'.1 z.symm)]
 |[],d::ds,xs,ρ,ρ',σ,Q,S,h,e,q=>by cases e
 |i::tg,[],xs,ρ,ρ',σ,Q,S,h,e,q=>by cases e
theorem qje {t:Expr} {g g':TG} (h:PG X t g) (f:∀v σ H Q,g' v σ H Q→g v σ H Q):PG X t g':=⟨fun pins s σ H v u Q I r q=>h.run pins s σ H v u Q I r (f _ _ _ _ q)⟩
theorem qlp {i:Nat} {x:Str} {pos:Pos} (hN:X.N.Nodup) (hi:X.N[i]? = some x) (hx:Loc X.env.scope x) (hf:X.fn x=true∨X.env.scope.names.lookup x=some .local):PG X (.Name x pos) (tG C [i]):=
 qje (pg_name hN hi hx hf) fun v σ H Q q=>by
  obtain⟨ρ,P,N,d,b,ρ',S,h,e,q⟩:=q
  cases e
  refine q _ (S.setV (RepB.nf (C:=C) h)) (fun j hj=>?_) (by simp)
  rw[List.getElem?_set_ne (fun z=>hj (by simp[z]))]
theorem qmW {es:List Expr} {k:Nat} {tg:List Nat} {pos:Pos} (hK:X.K=C.G.K) (hc:X.calm=true) (h:PGs X es (qf3 tg)) (hl:es.length=tg.length) (h2:tg.length≠1) (hn:(assignEach es X.env).length=es.length) (hst:(assignEach es X.env).findIdx? (·.1)=none):PG X (.Tuple es k pos) (tG C tg):=
 qje (pg_tup hc h rfl hst) fun v σ H Q q=>by
  obtain⟨ρ,P,N,d,b,ρ',S,h,e,q⟩:=q
  have e':∃ds,d=.tup ds∧qip tg ds b ρ=some ρ':=by
   unfold qce at e
   split at e
   ·exact absurd rfl h2
   ·split at e
    ·exact⟨_,rfl,e⟩
    ·cases e
  clear e
  obtain⟨ds,rfl,e⟩:=e'
  obtain⟨a,xs,rfl,z1,z2⟩:=h
  have hlen:∀{tg:List Nat} {ds:List D} {ρ:List Sl},qip tg ds b ρ=some ρ'→ds.length=tg.length:=by
   intro tg
   induction tg with
   |nil=>intro ds ρ e;cases ds with
    |nil=>rfl
    |cons _ _=>cases e
   |cons i tg ih=>intro ds ρ e;cases ds with
    |nil=>cases e
    |cons d ds=>simp only[List.length_cons];rw[ih e]
  refine⟨a,xs,rfl,hK ▸ Same.seqT S.reg.pH z1,?_,qfQ S z2 e q⟩
  rw[z2.length,hlen e,hn,hl]
def Wok (C:Ctx) (P N H:Hp) (w:Wk) (J:It):Prop:=
 ∃(Gd:Hp→Prop) (Y:Nat→Hp→V→Hp→Prop),Walk J w.xs.length Gd Y∧(∀H2,L2.Same H H2→Gd H2)∧(w.own=false→∀P2 N2 H2,L2.Same P P2→L2.Same N N2→Reg C P2 N2 H2→Gd H2) ∧
  ∀i P2 N2 H2 x H3,i<w.xs.length→L2.Same P P2→L2.Same N N2→Reg C P2 N2 H2→Y i H2 x H3→∃P3,Adv P2 N2 H2 P3 N2 H3∧∃d,w.xs[i]? = some d∧RepB C P3 N2 w.b d x
def tI (C:Ctx) (g:List Sl→RE Wk):TI:=fun σ H R=>∃ρ P N,SR C P N H ρ σ∧res C σ P N H (g ρ) fun w P' N' H'=>∀J,Wok C P' N' H' w J→R J H'
theorem qb1 {tg e:Expr} {t u:TI} (h:PI X tg e t) (f:∀σ H R,u σ H R→t σ H R):PI X tg e u:=⟨fun pins s σ H R I q=>h.run pins s σ H R I (f _ _ _ q)⟩
theorem qlI {P N H:Hp} {er:ER} {ds:List D} {p:Addr} {xs:List V} (r:Reg C P N H) (hd:er.d=.lst ds) {H0:Hp} (h:ERr C P N H H0 er.frz (.ref p)) (h2:SqL C.G.K H p xs) (h3:RepsB C P N er.b ds xs) (hs:er.frz.isB=false→LNb C.G.K P N C.R er.b p xs):Wok C P N H ⟨ds,er.b,er.frz.isB⟩ (Itl C.G.K p):=by
 refine⟨fun H=>SqL C.G.K H p xs,YAt xs,?_,fun H2 e=>L2.Same.seq e h2,fun e P2 N2 H2 e1 e2 r2=>?_,fun i P2 N2 H2 x H3 hi e1 e2 r2 y=>?_⟩
 ·have:=walk_list (K:=C.G.K) (a:=p) (xs:=xs)
  rw[h3.length] at this
  exact this
 ·exact LNb.seq r2.pH r2.nH r2.rH _ _ (LNb.mono e1 e2 _ _ (hs e))
 ·obtain⟨rfl,e⟩:=y
  refine⟨P2,Adv.refl r2.pH r2.nH,ds[i]'hi,by simp,?_⟩
  obtain⟨v,q1,q2⟩:=Reps.get h3 (List.getElem?_eq_getElem hi)
  rw[q1] at e;cases e
  exact RepB.adv e1 e2 q2
theorem ERr.frz_lst {P N H H0:Hp} (r:Reg C P N H) {er:ER} {ds:List D} {v:V} (hd:er.d=.lst ds) (h:ERr C P N H H0 er.frz v):∃p xs,v=.ref p∧SqL C.G.K H p xs∧RepsB C P N er.b ds xs∧(er.frz.isB=false→LNb C.G.K P N C.R er.b p xs):=by
 cases er with
 |val d b =>
  have hd:d=.lst ds:=hd
  subst hd
  obtain⟨p,xs,e,h1,h2⟩:=h
  exact⟨p,xs,e,LNb.seq r.pH r.nH r.rH _ _ h1,h2,fun _=>h1⟩
 |fre d b =>
  have hd:D.lst d=.lst ds:=hd
  cases hd
  obtain⟨p,xs,e,h1,h2⟩:=h
  exact⟨p,xs,e,LNb.seq r.pH r.nH r.rH _ _ h1,h2,fun _=>h1⟩
 |brw d b =>
  have hd:D.lst d=.lst ds:=hd
  cases hd
  obtain⟨p,xs,e,h1,_,_,_,h2⟩:=h
  exact⟨p,xs,e,.inl (.inl h1),h2,fun z=>by cases z⟩
theorem qqs (er:ER):er.frz.d=er.d:=by cases er<;>rfl
theorem qqW (er:ER):er.frz.b=er.b:=by cases er<;>rfl
theorem qdK (er:ER):er.frz.isB=er.isB:=by cases er<;>rfl
def qrD (K:PySem.W.Frag) (t:TE):TI:=fun σ H R=>t σ H fun v H1=>((∃a,v=.ref a∧(∃xs,SqL K H1 a xs)∧R (Itl K a) H1)∨(∃a,v=.ref a∧(∃xs,SqT K H1 a xs)∧R (Itt K a) H1))∨∃x,v=.str x∧R (Its x) H1
theorem qmv {tg e:Expr} {t:TE} (h:PE X e t):PI X tg e (qrD X.K t):=by
 refine⟨fun pins s σ H R I q=>?_⟩
 refine thn (h.run pins s σ H _ I q) fun v s1 ⟨x,H1,I1,r1,q1⟩=>?_
 rcases q1 with(⟨a,e,⟨xs,sq⟩,q⟩ | ⟨a,e,⟨xs,sq⟩,q⟩) | ⟨z,e,q⟩
 ·subst e
  cases r1
  obtain⟨vl,rw0,p,zl⟩:=I1.list sq
  refine wpAny_pyIter_list p.isList ?_
  refine⟨s1.heap.objs.size,[s1.heap.objs.size],_,_,H1,rfl,I1.kept (t':=s1.toks) fun b o e=>Heap.get?_push_of_some _ e,turn_list a _,⟨_,Heap.get?_push_size _ rfl,rfl,rfl⟩,fun b hb0=>?_,q⟩
  have eb:b=s1.heap.objs.size:=by simpa using hb0
  subst eb
  exact I1.fpOk (Nat.le_refl s1.heap.objs.size) (I1.hok.fresh (Nat.le_refl s1.heap.objs.size))
 ·subst e
  cases r1
  obtain⟨vl,rw0,p,zl⟩:=I1.tuple sq
  refine wpAny_pyIter_tuple (show s1.heap.IsTuple a vl.toArray from p) ?_
  refine⟨s1.heap.objs.size,[s1.heap.objs.size],_,_,H1,rfl,I1.kept (t':=s1.toks) fun b o e=>Heap.get?_push_of_some _ e,turn_tuple a _,⟨_,Heap.get?_push_size _ rfl,rfl,rfl⟩,fun b hb0=>?_,q⟩
  have eb:b=s1.heap.objs.size:=by simpa using hb0
  subst eb
  exact I1.fpOk (Nat.le_refl s1.heap.objs.size) (I1.hok.fresh (Nat.le_refl s1.heap.objs.size))
 ·subst e
  obtain⟨t,rfl⟩:=r1
  cases ha:z.cps.all (· < 128)
  ·exact wpAny_pyIter_wide ha (pi_one (tk:=s1.toks) I1 _ (turn_str _ z t "str_iterator" (.inr rfl)) ⟨_,Heap.get?_push_size _ rfl,rfl,rfl⟩ q)
  ·exact wpAny_pyIter_ascii ha (pi_one (tk:=s1.toks) I1 _ (turn_str _ z t "str_ascii_iterator" (.inl rfl)) ⟨_,Heap.get?_push_size _ rfl,rfl,rfl⟩ q)
theorem qnQ {g:List Sl→RE ER} {σ:L2.St} {H:Hp} {R:It→Hp→Prop} (h:tI C (fun ρ=>(g ρ).bind qgb) σ H R):qrD C.G.K (tE C g) σ H R:=by
 obtain⟨ρ,P,N,S,h⟩:=h
 refine⟨ρ,P,N,S,h.bind.mono fun x P1 N1 H1 e1 a1 h1 v rv=>?_⟩
 obtain⟨N2,a2,rv⟩:=rv.freeze a1
 have r2:=(S.adv a2).reg
 have h2:res C σ P1 N2 H1 (qgb x) fun w P' N' H'=>∀J,Wok C P' N' H' w J→R J H':=by
  simp only[e1,RE.bind_ok] at h
  exact res.adv a2 h
 unfold qgb at h2
 split at h2
 ·rename_i ds q
  obtain⟨p,xs,rfl,z1,z2,z3⟩:=rv.frz_lst r2 q
  have:=qlI r2 q rv z1 z2 z3
  rw[qdK] at this
  exact .inl (.inl ⟨p,rfl,⟨xs,z1⟩,h2.now r2 _ this⟩)
 ·rename_i ds q
  have w:=rv.w r2
  rw[qqs,q] at w
  have w0:=w
  obtain⟨p,xs,rfl,z1,z2⟩:=w
  rw[qqW] at z2
  refine .inl (.inr ⟨p,rfl,⟨xs,Same.seqT r2.pH z1⟩,h2.now r2 _ ⟨fun H=>SqT C.G.K H p xs,YAt xs,?_,fun H2 e=>Same.seqT (r2.pH.trans e) z1,fun _ P2 N2 H2 e1 e2 r3=>Same.seqT (e1.trans r3.pH) z1,fun i P2 N2 H2 x H3 hi e1 e2 r2 y=>?_⟩⟩)
  ·have:=walk_tup (K:=C.G.K) (a:=p) (xs:=xs)
   rw[z2.length] at this
   exact this
  ·obtain⟨rfl,e⟩:=y
   refine⟨P2,Adv.refl r2.pH r2.nH,ds[i]'hi,by simp,?_⟩
   obtain⟨v,q1,q2⟩:=Reps.get z2 (List.getElem?_eq_getElem hi)
   rw[q1] at e;cases e
   exact RepB.adv e1 e2 q2
 ·rename_i s q
  have w:=rv.w r2
  rw[qqs,q] at w
  cases w.str
  refine .inr ⟨_,rfl,h2.now r2 _ ⟨fun _=>True,fun i H v H'=>H'=H∧∃c,s[i]? = some c∧v=.str ⟨#[c]⟩,?_,fun _ _=>trivial,fun _ _ _ _ _ _ _=>trivial,fun i P2 N2 H2 x H3 hi e1 e2 r2 y=>?_⟩⟩
  ·have:=walk_str (z:=(⟨s.toArray⟩:Str))
   simpa using this
  ·obtain⟨rfl,c,e,rfl⟩:=y
   refine⟨P2,Adv.refl r2.pH r2.nH,.str [c],?_,rfl⟩
   simp[e]
 ·exact h2.elim
theorem qnt {tg e:Expr} {g:List Sl→RE ER} (hK:X.K=C.G.K) (h:PE X e (tE C g)):PI X tg e (tI C fun ρ=>(g ρ).bind qgb):=
 qb1 (qmv h) fun σ H R q=>by rw[hK];exact qnQ q
theorem qjH {P N H:Hp} (i:Int) (n:Nat):Wok C P N H ⟨(qcD i 1 n).map D.int,true,false⟩ (Itr i n):=by
 refine⟨fun _=>True,YFn fun k=>.int (i+k),?_,fun _ _=>trivial,fun _ _ _ _ _ _ _=>trivial,fun k P2 N2 H2 x H3 hi e1 e2 r2 y=>?_⟩
 ·have:=walk_range (lo:=i) (n:=n)
  simpa[qcD] using this
 ·obtain⟨rfl,rfl⟩:=y
  have hk:k<n:=by simpa[qcD] using hi
  refine⟨P2,Adv.refl r2.pH r2.nH,.int (i+k),?_,rfl⟩
  simp[qcD,hk]
theorem qht {P N H:Hp} (i c:Int) (n:Nat):Wok C P N H ⟨(qcD i c n).map D.int,true,false⟩ (Itc i c n):=by
 refine⟨fun _=>True,YFn fun k=>.int (i+(k:Nat)*c),?_,fun _ _=>trivial,fun _ _ _ _ _ _ _=>trivial,fun k P2 N2 H2 x H3 hi e1 e2 r2 y=>?_⟩
 ·have:=walk_rangeC (lo:=i) (c:=c) (n:=n)
  simpa[qcD] using this
 ·obtain⟨rfl,rfl⟩:=y
  have hk:k<n:=by simpa[qcD] using hi
  refine⟨P2,Adv.refl r2.pH r2.nH,.int (i+k*c),?_,rfl⟩
  simp[qcD,hk]
abbrev qri (g:List Sl→RE (List ER)):List Sl→RE Wk:=fun ρ=>(g ρ).bind fun r=>(qcp r).bind fun ns=>.ok ⟨ns.map D.int,true,false⟩
theorem qme {tg a:Expr} {g:List Sl→RE (List ER)} {p pos:Pos} (hg:Gl X "range") (hm:X.mg "range" = none) (ha:PA X [a] (tA C g)) (hl:∀ρ r,g ρ=.ok r→r.length=1) (hs:starEach [a] X.env=[(false,eval a X.env)]):PI X tg (.Call (.Name "range" p) [a] [] pos) (tI C (qri g)):=
 qb1 (pi_range1 hg hm ha hs) fun σ H R q=>by
  obtain⟨ρ,P,N,S,h⟩:=q
  refine⟨ρ,P,N,S,h.bind.mono fun r P1 N1 H1 e1 a1 h1 vs rv=>?_⟩
  have r1:=(S.adv a1).reg
  match r,hl _ _ e1,rv,h1 with
  |[x],_,rv,h1 =>
   obtain⟨v,u,rfl,w,rv⟩:=rv.w r1
   cases rv
   simp only[qcp,qb7,qas,qag,qaQ,qaH,qaS,qaE,qaX,qaR,qaO,qaP] at h1
   split at h1
   ·rename_i n q
    rw[q] at w
    split at h1
    ·rename_i hl
     have hl:=qgM hl
     refine⟨n,by rw[w.int],hl.1.1,hl.1.2,?_⟩
     exact h1.now r1 _ (qjH 0 n.toNat)
    ·exact h1.elim
   ·exact h1.elim
theorem qk7 {tg a b:Expr} {g:List Sl→RE (List ER)} {p pos:Pos} (hg:Gl X "range") (hm:X.mg "range" = none) (ha:PA X [a,b] (tA C g)) (hl:∀ρ r,g ρ=.ok r→r.length=2) (hs:starEach [a,b] X.env=[(false,eval a X.env),(false,eval b X.env)]) (hs2:starEach [b] X.env=[(false,eval b X.env)]) :
  PI X tg (.Call (.Name "range" p) [a,b] [] pos) (tI C (qri g)):=
 qb1 (pi_range2 hg hm ha hs hs2) fun σ H R q=>by
  obtain⟨ρ,P,N,S,h⟩:=q
  refine⟨ρ,P,N,S,h.bind.mono fun r P1 N1 H1 e1 a1 h1 vs rv=>?_⟩
  have r1:=(S.adv a1).reg
  match r,hl _ _ e1,rv,h1 with
  |[x,y],_,rv,h1 =>
   obtain⟨v,u,rfl,w,rv⟩:=rv.w r1
   obtain⟨v2,u2,rfl,w2,rv⟩:=rv.w r1
   cases rv
   simp only[qcp,qb7,qas,qag,qaQ,qaH,qaS,qaE,qaX,qaR,qaO,qaP] at h1
   split at h1
   ·rename_i i j q q2
    rw[q] at w
    rw[q2] at w2
    split at h1
    ·rename_i hl
     have hl:=qiU hl
     refine⟨i,j,by rw[w.int,w2.int],⟨hl.1.1,hl.1.2,hl.2.1.1,hl.2.1.2⟩,?_⟩
     exact h1.now r1 _ (qjH i (j - i).toNat)
    ·exact h1.elim
   ·exact h1.elim
theorem qoA {tg a:Expr} {g:List Sl→RE ER} {p p2 pos pos2:Pos} (hg:Gl X "reversed") (hm:X.mg "reversed" = none) (hg2:Gl X "range") (hm2:X.mg "range" = none) (ha:PE X a (tE C g)) (hs:starEach [a] X.env=[(false,eval a X.env)]) :
  PI X tg (.Call (.Name "reversed" p2) [.Call (.Name "range" p) [a] [] pos] [] pos2) (tI C fun ρ=>(g ρ).bind fun x=>match x.d with
  |.int n=>gd (qit n) (.ok ⟨(qcD (0+(((n - 0).toNat:Nat):Int) - 1) (-1) (n - 0).toNat).map D.int,true,false⟩)
  |_=>.bad):=
 qb1 (pi_revR hg hm (prg_1 hg2 hm2 ha hs)) fun σ H R q=>by
  obtain⟨ρ,P,N,S,h⟩:=q
  refine⟨ρ,P,N,S,h.bind.mono fun x P1 N1 H1 e1 a1 h1 v rv=>?_⟩
  have r1:=(S.adv a1).reg
  split at h1
  ·rename_i n q
   have w:=rv.w r1
   rw[q] at w
   simp only[qb7] at h1
   split at h1
   ·rename_i hl
    have hl:=qgM hl
    refine⟨n,w.int,by decide,by decide,hl.1.1,hl.1.2,?_⟩
    exact h1.now r1 _ (qht _ (-1) _)
   ·exact h1.elim
  ·exact h1.elim
theorem qpH {i j c:Int} (h:c≠0∧c.natAbs<1073741824∧Builtin.Range.small i j c=true∧0≤Builtin.Range.rangeSize i j c∧qo1 i j c≤LIM):RgC i j c (qo1 i j c):=
 ⟨h.1,h.2.1,h.2.2.1,(Int.toNat_of_nonneg h.2.2.2.1).symm⟩
theorem qlu {tg a b c:Expr} {g:List Sl→RE (List ER)} {p pos:Pos} (hg:Gl X "range") (hm:X.mg "range" = none) (ha:PA X [a,b,c] (tA C g)) (hl:∀ρ r,g ρ=.ok r→r.length=3) (hs:starEach [a,b,c] X.env=(false,eval a X.env)::starEach [b,c] X.env) (hpl:(backTo pos (starEach [b,c] X.env)).any (·.1)=false) :
  PI X tg (.Call (.Name "range" p) [a,b,c] [] pos) (tI C (qri g)):=
 qb1 (pi_range3 hg hm ha hs hpl) fun σ H R q=>by
  obtain⟨ρ,P,N,S,h⟩:=q
  refine⟨ρ,P,N,S,h.bind.mono fun r P1 N1 H1 e1 a1 h1 vs rv=>?_⟩
  have r1:=(S.adv a1).reg
  match r,hl _ _ e1,rv,h1 with
  |[x,y,z],_,rv,h1 =>
   obtain⟨v,u,rfl,w,rv⟩:=rv.w r1
   obtain⟨v2,u2,rfl,w2,rv⟩:=rv.w r1
   obtain⟨v3,u3,rfl,w3,rv⟩:=rv.w r1
   cases rv
   simp only[qcp,qb7,qas,qag,qaQ,qaH,qaS,qaE,qaX,qaR,qaO,qaP] at h1
   split at h1
   ·rename_i i j c q q2 q3
    rw[q] at w
    rw[q2] at w2
    rw[q3] at w3
    split at h1
    ·rename_i hl
     exact⟨i,j,c,_,by rw[w.int,w2.int,w3.int],qpH hl,h1.now r1 _ (qht i c _)⟩
    ·exact h1.elim
   ·exact h1.elim
theorem qhC {P N H H':Hp} (r:Reg C P N H) {T:Addr} {x y:V} {d e:D} {b:Bool} (hT:H T=none) (eH:H'=upd H T (.tup [x,y])) (h:RepB C P N b d x) (h':RepB C P N b e y):∃P3,Adv P N H P3 N H'∧RepB C P3 N b (.tup [d,e]) (.ref T):=by
 subst eH
 have sp:=qan (o:=.tup [x,y]) (r.pH.free hT)
 exact⟨upd P T (.tup [x,y]),(Adv.refl r.pH r.nH).newP hT,T,[x,y],rfl,.inl (.inl upd_same),x,[y],rfl,RepB.adv sp (L2.Same.refl _) h,y,[],rfl,RepB.adv sp (L2.Same.refl _) h',rfl⟩
theorem qqe {a:Expr} {elts:List Expr} {kk:Nat} {g:List Sl→RE ER} {p pos tpos:Pos} (hK:X.K=C.G.K) (hg:Gl X "enumerate") (hm:X.mg "enumerate" = none) (h:PE X a (tE C g)) (hs:starEach [a] X.env=[(false,eval a X.env)]) :
  PI X (.Tuple elts kk tpos) (.Call (.Name "enumerate" p) [a] [] pos) (tI C fun ρ=>(g ρ).bind fun x=>match x.d with
  |.lst xs=>.ok ⟨xs.zipIdx.map fun p=>.tup [.int p.2,p.1],x.b,x.isB⟩
  |_=>.bad):=
 qb1 (pi_enum hg hm (pa_cons h pa_nil hs) hs) fun σ H R q=>by
  rw[hK]
  obtain⟨ρ,P,N,S,h⟩:=q
  refine⟨ρ,P,N,S,h.bind.mono fun x P1 N1 H1 e1 a1 h1 v rv=>?_⟩
  obtain⟨N2,a2,rv⟩:=rv.freeze a1
  have r2:=(S.adv a2).reg
  cases q:x.d with
  |lst ds =>
   simp only[e1,RE.bind_ok,q] at h
   have h2:=res.adv a2 h
   obtain⟨p,xs,rfl,z1,z2,z3⟩:=rv.frz_lst r2 q
   refine⟨p,xs,rfl,z1,h2.now r2 _ ⟨fun H=>SqL C.G.K H p xs,YPair (fun i=>some (.int (i:Nat))) (fun i=>xs[i]?),?_,fun H2 e=>L2.Same.seq e z1,fun e P2 N2 H2 e1 e2 r2=>?_,fun i P2 N2 H2 x H3 hi e1 e2 r2 y=>?_⟩⟩
   ·have:=walk_enum (K:=C.G.K) (a:=p) (xs:=xs)
    rw[z2.length] at this
    simpa using this
   ·exact LNb.seq r2.pH r2.nH r2.rH _ _ (LNb.mono e1 e2 _ _ (z3 (by rw[qdK];exact e)))
   ·obtain⟨T,x,y,rfl,hT,eH,ex,ey⟩:=y
    cases ex
    have hi:i<ds.length:=by simpa using hi
    obtain⟨v,q1,q2⟩:=Reps.get z2 (List.getElem?_eq_getElem hi)
    replace ey:xs[i]? = some y:=ey
    rw[q1] at ey;cases ey
    obtain⟨P3,q3,q4⟩:=qhC r2 hT eH (d:=.int i) rfl (RepB.adv e1 e2 q2)
    exact⟨P3,q3,_,by simp[hi],q4⟩
  |_=>simp only[q] at h1;exact h1.elim
theorem qp5 {tg a:Expr} {g:List Sl→RE ER} {p pos:Pos} (hK:X.K=C.G.K) (hg:Gl X "reversed") (hm:X.mg "reversed" = none) (h:PE X a (tE C g)) (hs:starEach [a] X.env=[(false,eval a X.env)]) :
  PI X tg (.Call (.Name "reversed" p) [a] [] pos) (tI C fun ρ=>(g ρ).bind fun x=>match x.d with
  |.lst xs=>.ok ⟨xs.reverse,x.b,x.isB⟩
  |_=>.bad):=
 qb1 (pi_reversed hg hm (pa_cons h pa_nil hs) hs) fun σ H R q=>by
  rw[hK]
  obtain⟨ρ,P,N,S,h⟩:=q
  refine⟨ρ,P,N,S,h.bind.mono fun x P1 N1 H1 e1 a1 h1 v rv=>?_⟩
  obtain⟨N2,a2,rv⟩:=rv.freeze a1
  have r2:=(S.adv a2).reg
  cases q:x.d with
  |lst ds =>
   simp only[e1,RE.bind_ok,q] at h
   have h2:=res.adv a2 h
   obtain⟨p,xs,rfl,z1,z2,z3⟩:=rv.frz_lst r2 q
   refine⟨p,xs,rfl,z1,h2.now r2 _ ⟨fun H=>SqL C.G.K H p xs,fun i H x H'=>H'=H∧xs[xs.length - 1 - i]? = some x,?_,fun H2 e=>L2.Same.seq e z1,fun e P2 N2 H2 e1 e2 r2=>?_,fun i P2 N2 H2 x H3 hi e1 e2 r2 y=>?_⟩⟩
   ·have:=walk_rev (K:=C.G.K) (a:=p) (xs:=xs)
    have e:=z2.length
    simp only[List.length_reverse]
    rw[←e]
    exact this
   ·exact LNb.seq r2.pH r2.nH r2.rH _ _ (LNb.mono e1 e2 _ _ (z3 (by rw[qdK];exact e)))
   ·obtain⟨rfl,ex⟩:=y
    have hi:i<ds.length:=by simpa using hi
    have hj:ds.length - 1 - i<ds.length:=by omega
    rw[z2.length] at ex
    obtain⟨v,q1,q2⟩:=Reps.get z2 (List.getElem?_eq_getElem hj)
    rw[q1] at ex;cases ex
    refine⟨P2,Adv.refl r2.pH r2.nH,_,?_,RepB.adv e1 e2 q2⟩
    rw[List.getElem?_reverse hi,List.getElem?_eq_getElem]
  |_=>simp only[q] at h1;exact h1.elim
theorem qpQ {a a':Expr} {elts:List Expr} {kk:Nat} {g g':List Sl→RE ER} {p pos tpos:Pos} (hK:X.K=C.G.K) (hg:Gl X "zip") (hm:X.mg "zip" = none) (h:PE X a (tE C g)) (h':PE X a' (tE C g')) (hs:starEach [a,a'] X.env=(false,eval a X.env)::starEach [a'] X.env) (hs2:starEach [a'] X.env=[(false,eval a' X.env)]) (hpl:(backTo pos (starEach [a'] X.env)).any (·.1)=false) :
  PI X (.Tuple elts kk tpos) (.Call (.Name "zip" p) [a,a'] [] pos) (tI C fun ρ=>(g ρ).bind fun x=>(g' ρ).bind fun y=>match x.d,y.d with
  |.lst xs,.lst ys=>.ok ⟨List.zipWith (fun u v=>.tup [u,v]) xs ys,x.b&&y.b,x.isB||y.isB⟩
  |_,_=>.bad):=
 qb1 (pi_zip hg hm (pa_cons h (pa_cons h' pa_nil hs2) hs) hs hpl) fun σ H R q=>by
  rw[hK]
  obtain⟨ρ,P,N,S,h⟩:=q
  refine⟨ρ,P,N,S,h.bind.mono fun x P1 N1 H1 e1 a1 h1 v rv=>?_⟩
  obtain⟨N2,a2,rv⟩:=rv.freeze a1
  simp only[e1,RE.bind_ok] at h
  have h2:=res.adv a2 h
  refine⟨ρ,P1,N2,S.adv a2,(res.bind h2).mono fun y P3 N3 H3 e3 a3 h3 u ru=>?_⟩
  obtain⟨N4,a4,ru⟩:=ru.freeze a3
  have r4:=((S.adv a2).adv a4).reg
  simp only[e3,RE.bind_ok] at h2
  have h4:=res.adv a4 h2
  have rv4:=rv.adv a4
  split at h4
  ·rename_i ds es q q2
   obtain⟨p,xs,rfl,z1,z2,z3⟩:=rv4.frz_lst r4 q
   obtain⟨p2,ys,rfl,y1,y2,y3⟩:=ru.frz_lst r4 q2
   refine⟨p,p2,xs,ys,rfl,z1,y1,h4.now r4 _ ⟨fun H=>SqL C.G.K H p xs∧SqL C.G.K H p2 ys,YPair (fun i=>xs[i]?) (fun i=>ys[i]?),?_,fun H2 e=>⟨L2.Same.seq e z1,L2.Same.seq e y1⟩,fun e P2 N2 H2 e1 e2 r2=>?_,fun i P2 N2 H2 x H3 hi e1 e2 r2 y=>?_⟩⟩
   ·have:=walk_zip (K:=C.G.K) (a:=p) (b:=p2) (xs:=xs) (ys:=ys) rfl
    rw[z2.length,y2.length] at this
    simpa using this
   ·simp only[Bool.or_eq_false_iff] at e
    exact⟨LNb.seq r2.pH r2.nH r2.rH _ _ (LNb.mono e1 e2 _ _ (z3 (by rw[qdK];exact e.1))),LNb.seq r2.pH r2.nH r2.rH _ _ (LNb.mono e1 e2 _ _ (y3 (by rw[qdK];exact e.2)))⟩
   ·obtain⟨T,x,y,rfl,hT,eH,ex,ey⟩:=y
    have hi':i<ds.length∧i<es.length:=by
     have:i<min ds.length es.length:=by simpa using hi
     omega
    replace ex:xs[i]? = some x:=ex
    replace ey:ys[i]? = some y:=ey
    obtain⟨v,q1,q2⟩:=Reps.get z2 (List.getElem?_eq_getElem hi'.1)
    rw[q1] at ex;cases ex
    obtain⟨v,q5,q6⟩:=Reps.get y2 (List.getElem?_eq_getElem hi'.2)
    rw[q5] at ey;cases ey
    obtain⟨P3,q3,q4⟩:=qhC r2 hT eH (RepB.adv e1 e2 (RepB.and1 q2)) (RepB.adv e1 e2 (RepB.and2 q6))
    exact⟨P3,q3,_,by rw[List.getElem?_zipWith,List.getElem?_eq_getElem hi'.1,List.getElem?_eq_getElem hi'.2],q4⟩
  ·exact h4.elim
end
end Cm
namespace Cm
open PySem PySem.Spec PyProof.Rows L2
def Ctx.nx (C:Ctx):Ctx:={ C with W:=fun _ _ _ _=>False }
section
variable {C:Ctx} {X:Cx}
theorem Reg.nx {P N H:Hp} (r:Reg C P N H):Reg C.nx P N H:=⟨r.pH,r.nH,r.bH,r.rB,r.p0,r.pn,r.nw,r.dj⟩
theorem Reg.unx {P N H:Hp} (r:Reg C.nx P N H):Reg C P N H:=⟨r.pH,r.nH,r.bH,r.rB,r.p0,r.pn,r.nw,r.dj⟩
theorem SlR.nx {P N H:Hp} {s:Sl} {o:Option V} (h:SlR C P N H s o):SlR C.nx P N H s o:=by cases s<;>exact h
theorem SR.nx {P N H:Hp} {ρ:List Sl} {σ:L2.St} (S:SR C P N H ρ σ):SR C.nx P N H ρ σ:=⟨S.reg.nx,S.len,fun i s e=>by
 obtain⟨o,h1,h2⟩:=S.sl i s e
 exact⟨o,h1,h2.nx⟩,S.ap,S.ad,S.ar⟩
theorem ERr.unx {P N H H0:Hp} {er:ER} {v:V} (h:ERr C.nx P N H H0 er v):ERr C P N H H0 er v:=by cases er<;>exact h
theorem qa6 {σ:L2.St}:∀{vs:List Nat} {j:Nat},j∉vs→(wipe σ vs)[j]? = σ[j]?
 |[],_,_=>rfl
 |v::vs,j,h=>by
  simp only[List.mem_cons,not_or] at h
  unfold wipe
  rw[List.getElem?_set_ne (fun z=>h.1 z.symm)]
  exact qa6 h.2
theorem qg9 {σ:L2.St}:∀{vs:List Nat} {j:Nat},j∈vs→j<σ.length→(wipe σ vs)[j]? = some none
 |v::vs,j,h,hj=>by
  unfold wipe
  by_cases q:v=j
  ·subst q
   rw[List.getElem?_set_self (by rw[wipe_length];exact hj)]
  ·rw[List.getElem?_set_ne q]
   rcases List.mem_cons.mp h with h | h
   ·exact absurd h.symm q
   ·exact qg9 h hj
theorem qi8 {σ σ':L2.St} {vs:List Nat} (hl:σ'.length=σ.length) (h:∀j,j∉vs→σ'[j]? = σ[j]?):wipe σ' vs=wipe σ vs:=by
 apply List.ext_getElem?
 intro j
 by_cases q:j∈vs
 ·by_cases hj:j<σ.length
  ·rw[qg9 q hj,qg9 q (by rw[hl];exact hj)]
  ·rw[List.getElem?_eq_none (by rw[wipe_length];omega),List.getElem?_eq_none (by rw[wipe_length];omega)]
 ·rw[qa6 q,qa6 q,h j q]
theorem qjV {σ:L2.St} {vs:List Nat}:wipe (wipe σ vs) vs=wipe σ vs:=by
 refine qi8 (wipe_length _ _) fun j h=>qa6 h
theorem qd7 {ρ:List Sl}:∀{vs:List Nat},(wipeS ρ vs).length=ρ.length
 |[]=>rfl
 |v::vs=>by unfold wipeS;rw[List.length_set];exact qd7
theorem qbu {ρ:List Sl}:∀{vs:List Nat} {j:Nat} {s:Sl},(wipeS ρ vs)[j]? = some s→s=.non∨(j∉vs∧ρ[j]? = some s)
 |[],_,_,h=>.inr ⟨by simp,h⟩
 |v::vs,j,s,h=>by
  unfold wipeS at h
  by_cases q:v=j
  ·subst q
   by_cases hv:v<(wipeS ρ vs).length
   ·rw[List.getElem?_set_self hv] at h;cases h;exact .inl rfl
   ·rw[List.getElem?_eq_none (by simpa using hv)] at h;cases h
  ·rw[List.getElem?_set_ne q] at h
   rcases qbu h with h | h
   ·exact .inl h
   ·exact .inr ⟨by simp only[List.mem_cons,not_or];exact⟨fun z=>q z.symm,h.1⟩,h.2⟩
theorem SR.wiped {P N H:Hp} {ρ:List Sl} {σ:L2.St} (S:SR C P N H ρ σ) (vs:List Nat):SR C P N H (wipeS ρ vs) (wipe σ vs) where
 reg:=S.reg
 len:=by rw[wipe_length,qd7,S.len]
 sl:=fun i s e=>by
  rcases qbu e with rfl | ⟨h1,h2⟩
  ·have hi:i<(wipeS ρ vs).length:=by
    rcases Nat.lt_or_ge i (wipeS ρ vs).length with z | z
    ·exact z
    ·rw[List.getElem?_eq_none z] at e;cases e
   rw[qd7,←S.len,←wipe_length σ vs] at hi
   exact⟨_,List.getElem?_eq_getElem hi,trivial⟩
  ·rw[qa6 h1]
   exact S.sl i s h2
 ap:=fun i j p ds b es c e1 e2 e3 e4=>by
  rcases qbu e1 with z | ⟨h1,h2⟩
  ·cases z
  rcases qbu e2 with z | ⟨h3,h4⟩
  ·cases z
  rw[qa6 h1] at e3
  rw[qa6 h3] at e4
  exact S.ap i j p ds b es c h2 h4 e3 e4
 ad:=S.ad.sub fun i m b e=>by
  rcases qbu e with z | ⟨h1,h2⟩
  ·cases z
  ·exact⟨qa6 h1,_,_,h2⟩
 ar:=⟨fun i j dss t o u a e1 e2 e3 e4 k1 k2=>by
  rcases qbu e1 with z | ⟨h1,h2⟩
  ·cases z
  rcases qbu e2 with z | ⟨h3,h4⟩
  ·subst z;cases k2
  rw[qa6 h1] at e3
  rw[qa6 h3] at e4
  exact S.ar.un i j dss t o u a h2 h4 e3 e4 k1 k2⟩
def tIl (C:Ctx) (g:List Sl→RE Wk):TI:=fun σ H R=>∃ρ P N,SR C P N H ρ σ∧res C σ P N H (g ρ) fun w P' N' H'=>∀J,Wok C P' N' H' w J→w.xs.length≤sizeLine→R J H'
abbrev gLc (own tg:List Nat) (gi:List Sl→RE Wk) (gc:List Sl→RE Bool) (ge:List Sl→RE ER):List Sl→RE ER:=fun ρ=>(gi ρ).bind fun xs=>gd (leB xs.xs.length) ((lcl (fun x=>match qce tg x xs.b (wipeS ρ own) with
   |some ρ'=>noX ((gc ρ').bind fun k=>if k=true then (ge ρ').bind fun y=>match y with
    |.brw _ _=>.bad
    |y=>.ok (some (y.d,y.b)) else .ok none)
   |none=>.bad) xs.xs).bind fun r=>.ok (.fre r.1 r.2))
theorem qkN {f:D→RE (Option (D × Bool))} {x:D} {xs:List D} {r:List D × Bool} (h:lcl f (x::xs)=.ok r):∃a q,f x=.ok a∧lcl f xs=.ok q∧r=match a with
  |none=>q
  |some y=>(y.1::q.1,y.2&&q.2):=by
 unfold lcl at h
 cases e:f x with
 |bad=>rw[e] at h;cases h
 |exc c fs=>rw[e] at h;cases h
 |ok a =>
  rw[e] at h
  cases e2:lcl f xs with
  |bad=>rw[e2] at h;cases h
  |exc c fs=>rw[e2] at h;cases h
  |ok q =>
   rw[e2] at h
   refine⟨a,q,rfl,rfl,?_⟩
   cases a<;>cases h<;>rfl
theorem qmP {f:D→RE (Option (D × Bool))} (hf:∀x,qev (f x)):∀xs,qev (lcl f xs)
 |[]=>trivial
 |x::xs=>by
  unfold lcl
  have h1:=hf x
  have h2:=qmP hf xs
  cases e:f x with
  |bad=>trivial
  |exc c fs=>rw[e] at h1;exact h1.elim
  |ok a =>
   cases e2:lcl f xs with
   |bad=>trivial
   |exc c fs=>rw[e2] at h2;exact h2.elim
   |ok q=>cases a<;>trivial
theorem qpC {α:Type} (r:RE α):qev (noX r):=by cases r<;>trivial
theorem qp1 {α:Type} {r:RE α} {a:α} (h:noX r=.ok a):r=.ok a:=by
 cases r with
 |bad=>cases h
 |ok b=>exact h
 |exc c fs=>cases h
theorem qmq {own tg:List Nat} {gi:List Sl→RE Wk} {gc:List Sl→RE Bool} {ge:List Sl→RE ER} (hsub:∀i∈tg,i∈own) {σ:L2.St} {H:Hp} {Q:VK} (h:tE C (gLc own tg gi gc ge) σ H Q) :
  tLc (tI C gi) (tG C.nx tg) (tT C.nx gc) (tE C.nx ge) own σ H Q:=by
 obtain⟨ρ,P,N,S,h⟩:=h
 refine⟨ρ,P,N,S,h.bind.mono fun w P1 N1 H1 e1 a1 h1 J wj D hD=>?_⟩
 have S1:=S.adv a1
 simp only[qb7,qag] at h1
 split at h1
 case isFalse=>exact h1.elim
 rename_i hlen
 generalize hf:(fun x=>match qce tg x w.b (wipeS ρ own) with
   |some ρ'=>noX ((gc ρ').bind fun k=>if k=true then (ge ρ').bind fun y=>match y with
    |.brw _ _=>.bad
    |y=>.ok (some (y.d,y.b)) else .ok none)
   |none=>.bad)=f at h1
 have fnx:∀x,qev (f x):=fun x=>by
  subst hf
  simp only
  split
  ·exact qpC _
  ·trivial
 cases e2:lcl f w.xs with
 |bad=>rw[e2] at h1;exact h1.elim
 |exc c fs=>have:=qmP fnx w.xs;rw[e2] at this;exact this.elim
 |ok tot =>
  rw[e2] at h1
  obtain⟨Gd,Y,wk,grow,_,item⟩:=wj
  refine lc_it wk (Pv:=fun i Hi=>∃(P N:Hp) (acc:List V) (ds:List Cm.D) (b:Bool) (rest:List Cm.D × Bool),Adv P1 N1 H1 P N Hi∧Hi D=some (.lst acc)∧P D=none∧N D=none∧RepsB C P N b ds acc∧ds.length≤i∧lcl f (w.xs.drop i)=.ok rest∧tot.1=ds++rest.1∧tot.2=(b&&rest.2)) ?_ (fun i Hi hi p=>?_) (fun i x Hi H' hi p y=>?_) (fun Hi p=>?_)
  ·exact⟨P1,N1,[],[],true,tot,(Adv.refl S1.reg.pH S1.reg.nH).heap (qan hD),upd_same,S1.reg.pH.free hD,S1.reg.nH.free hD,rfl,Nat.le_refl _,by simpa using e2,rfl,by simp⟩
  ·obtain⟨P,N,acc,ds,b,rest,a,_⟩:=p
   exact grow Hi a.hh
  ·obtain⟨P2,N2,acc,ds,b,rest,a,hDi,pD,nD,rr,hdl,el,et,eb⟩:=p
   obtain⟨P3,a3,d,ed,rd⟩:=item i P2 N2 Hi x H' hi a.pp a.nn (S1.adv a).reg y
   have hdrop:w.xs.drop i=d::w.xs.drop (i+1):=by
    obtain⟨hi',e⟩:=List.getElem?_eq_some_iff.mp ed
    rw[List.drop_eq_getElem_cons hi',e]
   rw[hdrop] at el
   obtain⟨r1,q,ef,eq,er⟩:=qkN el
   have aa:=a.trans a3
   have hD':=a3.hh _ _ hDi
   have pD3:=a3.off hDi pD
   subst hf
   simp only at ef
   split at ef
   case h_2=>cases ef
   rename_i ρ' eb'
   have ef:=qp1 ef
   refine⟨wipeS ρ own,P3,N2,d,w.b,ρ',((S1.adv aa).wiped own).nx,rd,eb',fun σ' S' hj hl=>⟨?_,?_⟩⟩
   ·rw[qi8 (σ:=wipe σ own) hl fun j h=>hj j fun z=>h (hsub j z),qjV]
   ·cases e5:gc ρ' with
    |bad=>rw[e5] at ef;cases ef
    |exc c fs=>rw[e5] at ef;cases ef
    |ok k =>
     rw[e5,RE.bind_ok] at ef
     refine⟨ρ',P3,N2,S',?_⟩
     rw[e5]
     intro P4 N4 H4 a4
     have hD4:=a4.hh _ _ hD'
     have pD4:=a4.off hD' pD3
     have nD4:=a4.offN hD' nD
     cases k with
     |false =>
      simp only[Bool.false_eq_true,if_false] at ef ⊢
      cases ef
      have er':rest=q:=er
      exact⟨P4,N4,acc,ds,b,q,aa.trans a4,hD4,pD4,nD4,RepsB.adv (a3.pp.trans a4.pp) a4.nn rr,Nat.le_succ_of_le hdl,eq,by rw[et,er'],by rw[eb,er']⟩
     |true =>
      simp only[if_true] at ef ⊢
      cases e6:ge ρ' with
      |bad=>rw[e6] at ef;cases ef
      |exc c fs=>rw[e6] at ef;cases ef
      |ok y =>
       rw[e6,RE.bind_ok] at ef
       refine⟨ρ',P4,N4,S'.adv a4,?_⟩
       rw[e6]
       intro P5 N5 H5 a5 v rv
       have rv:=rv.unx
       obtain⟨N6,a6,rv6⟩:=rv.freeze a5
       have hD6:=a6.hh _ _ hD4
       have pD6:=a6.off hD4 pD4
       have nD6:=a6.offN hD4 nD4
       have ry:r1=some (y.d,y.b)∧RepB C P5 N6 y.b y.d v:=by
        cases y with
        |val d' b'=>exact⟨(RE.ok.inj ef).symm,rv6⟩
        |fre d' b'=>exact⟨(RE.ok.inj ef).symm,rv6⟩
        |brw d' b'=>cases ef
       obtain⟨rfl,rv7⟩:=ry
       have er':rest=(y.d::q.1,y.b&&q.2):=er
       have full:=((a.trans a3).trans a4).trans a6
       have hl2:acc.length=ds.length:=rr.length
       refine⟨acc,hD6,?_,P5,N6,acc++[v],ds++[y.d],b&&y.b,q,⟨?_,full.pp,full.nn,qak full.pH pD6,qak full.nH nD6,full.pn,full.nw,full.dj⟩,upd_same,pD6,nD6,?_,?_,eq,?_,?_⟩
       ·have:w.xs.length≤sizeLine:=hlen
        omega
       ·exact qak full.hh hD
       ·exact Reps.append (RepsB.and1 (RepsB.adv ((a3.pp.trans a4.pp).trans a6.pp) (a4.nn.trans a6.nn) rr)) (Reps.one (RepB.and2 rv7))
       ·simp only[List.length_append,List.length_singleton];omega
       ·rw[et,er'];simp
       ·rw[eb,er'];simp[Bool.and_assoc]
  ·obtain⟨P2,N2,acc,ds,b,rest,a,hDi,pD,nD,rr,hdl,el,et,eb⟩:=p
   rw[List.drop_length] at el
   cases el
   have et':tot.1=ds:=by simpa using et
   have eb':tot.2=b:=by simpa using eb
   refine h1 P2 N2 Hi a _ ⟨D,acc,rfl,hDi,a1.hh.free hD,pD,nD,?_⟩
   rw[et',eb']
   exact rr
end
end Cm
namespace Cm
open PySem PySem.Spec PyProof.Rows L2
section
variable (C:Ctx)
def outS (P0 N0:Hp) (D:Ends) (o:Out):Prop:=
 match o with
 |.bad=>False
 |.nx ρ=>∀σ P N H,SR C P N H ρ σ→L2.Same P0 P→L2.Same N0 N→D.nx σ H
 |.brk ρ=>∀σ P N H,SR C P N H ρ σ→L2.Same P0 P→L2.Same N0 N→D.bk σ H
 |.cnt ρ=>∀σ P N H,SR C P N H ρ σ→L2.Same P0 P→L2.Same N0 N→D.ct σ H
 |.ret er=>∀v P N H,Reg C P N H→ERr C P N H C.B er v→D.rt v H
 |.exc c fs=>∀σ d P N H,Reg C P N H→ExR C P N H fs d→C.W (.ref (C.G.ca c)) d σ H
def tS (g:List Sl→Out):TS:=fun D σ H=>∃ρ P N,SR C P N H ρ σ∧outS C P N D (g ρ)
end
section
variable {C:Ctx} {X:Cx}
theorem outS.res {α:Type} {D:Ends} {σ:L2.St} {P N H:Hp} {r:RE α} {f:α→Out} (rg:Reg C P N H) (h:outS C P N D (r.out f)):res C σ P N H r fun a _ _ _=>outS C P N D (f a):=by
 cases r with
 |bad=>exact h
 |ok a=>exact fun _ _ _ _=>h
 |exc c fs=>exact fun d P' N' H' a x=>h σ d P' N' H' (rg.adv a) x
theorem outS.adv {P N P' N':Hp} {D:Ends} {o:Out} (h:outS C P N D o) (hp:L2.Same P P') (hn:L2.Same N N'):outS C P' N' D o:=by
 cases o with
 |bad=>exact h
 |nx ρ=>exact fun σ P2 N2 H S e1 e2=>h σ P2 N2 H S (hp.trans e1) (hn.trans e2)
 |brk ρ=>exact fun σ P2 N2 H S e1 e2=>h σ P2 N2 H S (hp.trans e1) (hn.trans e2)
 |cnt ρ=>exact fun σ P2 N2 H S e1 e2=>h σ P2 N2 H S (hp.trans e1) (hn.trans e2)
 |ret er=>exact h
 |exc c fs=>exact h
theorem outS.mono {P0 N0:Hp} {D D':Ends} {o:Out} (h:outS C P0 N0 D o) (h1:∀σ H,D.nx σ H→D'.nx σ H) (h2:∀v H,D.rt v H→D'.rt v H) (h3:∀σ H,D.bk σ H→D'.bk σ H) (h4:∀σ H,D.ct σ H→D'.ct σ H):outS C P0 N0 D' o:=by
 cases o with
 |bad=>exact h
 |nx ρ=>exact fun σ P N H S e1 e2=>h1 _ _ (h σ P N H S e1 e2)
 |brk ρ=>exact fun σ P N H S e1 e2=>h3 _ _ (h σ P N H S e1 e2)
 |cnt ρ=>exact fun σ P N H S e1 e2=>h4 _ _ (h σ P N H S e1 e2)
 |ret er=>exact fun v P N H S e=>h2 _ _ (h v P N H S e)
 |exc c fs=>exact h
theorem qae {s:Stmt} {t u:TS} (h:PS X s t) (f:∀D σ H,u D σ H→t D σ H):PS X s u:=⟨fun pins s σ H D I q=>h.run pins s σ H D I (f _ _ _ q)⟩
theorem qax {s:List Stmt} {t u:TS} (h:PSs X s t) (f:∀D σ H,u D σ H→t D σ H):PSs X s u:=⟨fun pins s σ H D I q=>h.run pins s σ H D I (f _ _ _ q)⟩
theorem qgO {s:Stmt}:PS X s (tS C fun _=>.bad):=qae ps_never fun D σ H q=>by obtain⟨ρ,P,N,S,h⟩:=q;exact h
theorem qkO {pos:Pos}:PS X (.Pass pos) (tS C fun ρ=>.nx ρ):=qae ps_pass fun D σ H q=>by obtain⟨ρ,P,N,S,h⟩:=q;exact h σ P N H S (L2.Same.refl _) (L2.Same.refl _)
theorem qnJ {x:Str} {j:Nat} {pos pos':Pos}:PS X (.Expr (.Constant (.str x) j pos) pos') (tS C fun ρ=>.nx ρ):=qae ps_doc fun D σ H q=>by obtain⟨ρ,P,N,S,h⟩:=q;exact h σ P N H S (L2.Same.refl _) (L2.Same.refl _)
theorem qnV {pos:Pos}:PS X (.Break pos) (tS C fun ρ=>.brk ρ):=qae ps_break fun D σ H q=>by obtain⟨ρ,P,N,S,h⟩:=q;exact h σ P N H S (L2.Same.refl _) (L2.Same.refl _)
theorem qoc {pos:Pos}:PS X (.Continue pos) (tS C fun ρ=>.cnt ρ):=qae ps_continue fun D σ H q=>by obtain⟨ρ,P,N,S,h⟩:=q;exact h σ P N H S (L2.Same.refl _) (L2.Same.refl _)
theorem ql4 {pos:Pos}:PS X (.Return none pos) (tS C fun _=>.ret (.val .non true)):=qae ps_retN fun D σ H q=>by obtain⟨ρ,P,N,S,h⟩:=q;exact h .non P N H S.reg rfl
theorem qnX {e:Expr} {g:List Sl→RE ER} {pos:Pos} (h:PE X e (tE C g)):PS X (.Return (some e) pos) (tS C fun ρ=>(g ρ).out fun x=>.ret (qrf x)):=
 qae (ps_ret h) fun D σ H q=>by
  obtain⟨ρ,P,N,S,h⟩:=q
  refine⟨ρ,P,N,S,(h.res S.reg).mono fun x P1 N1 H1 _ a1 h1 v rv=>?_⟩
  have r1:=(S.adv a1).reg
  refine h1 v P1 N1 H1 r1 ?_
  cases x with
  |val d b=>exact rv
  |fre ds b=>exact rv.from S.reg.bH
  |brw ds b =>
   obtain⟨p,xs,e,z1,z2,z3,z4,z5⟩:=rv
   exact⟨p,xs,e,z1,z4,z2,z3,z5⟩
theorem qkE {e:Expr} {g:List Sl→RE ER} {pos:Pos} (h:PE X e (tE C g)) (hs:swapsWith e none pos.line X.env=pure false):PS X (.Expr e pos) (tS C fun ρ=>(g ρ).out fun _=>.nx ρ):=
 qae (ps_expr h hs) fun D σ H q=>by
  obtain⟨ρ,P,N,S,h⟩:=q
  exact⟨ρ,P,N,S,(h.res S.reg).mono fun x P1 N1 H1 _ a1 h1 v rv=>h1 σ P1 N1 H1 (S.adv a1) a1.pp a1.nn⟩
theorem qnl {c:Expr} {a b:List Stmt} {gc:List Sl→RE Bool} {ga gb:List Sl→Out} {pos:Pos} (hc:PT X c (tT C gc)) (ha:PSs X a (tS C ga)) (hb:PSs X b (tS C gb)):PS X (.If c a b pos) (tS C fun ρ=>(gc ρ).out fun k=>if k=true then ga ρ else gb ρ):=
 qae (ps_if hc ha hb) fun D σ H q=>by
  obtain⟨ρ,P,N,S,h⟩:=q
  refine⟨ρ,P,N,S,(h.res S.reg).mono fun k P1 N1 H1 _ a1 h1=>?_⟩
  cases k
  ·exact⟨ρ,P1,N1,S.adv a1,h1.adv a1.pp a1.nn⟩
  ·exact⟨ρ,P1,N1,S.adv a1,h1.adv a1.pp a1.nn⟩
theorem ERr.held {P1 N1 H0 P N H:Hp} {er:ER} {v:V} {f:Cm.D→Bool→Out} {D:Ends} (a:Adv P1 N1 H0 P N H) (h:ERr C P N H H0 er v) (o:outS C P1 N1 D (held er f)):∃N2 d b,Adv P1 N1 H0 P N2 H∧RepB C P N2 b d v∧outS C P1 N1 D (f d b):=by
 cases er with
 |brw ds b=>exact o.elim
 |val d b=>exact⟨N,d,b,a,h,o⟩
 |fre ds b =>
  obtain⟨N2,a2,r2⟩:=h.freeze a
  exact⟨N2,.lst ds,b,a2,r2,o⟩
theorem qnU {i:Nat} {g:List Sl→RE ER} {D:Ends} {σ:L2.St} {H:Hp} (q:tS C (fun ρ=>(g ρ).out fun x=>held x fun d b=>.nx (ρ.set i (.val d b))) D σ H):tAsg (tE C g) (gName i) D σ H:=by
 obtain⟨ρ,P,N,S,h⟩:=q
 refine⟨ρ,P,N,S,(h.res S.reg).mono fun x P1 N1 H1 _ a1 h1 v rv=>?_⟩
 obtain⟨N2,d,b,a2,r2,o⟩:=rv.held a1 h1
 exact o _ P1 N2 H1 ((S.adv a2).setV r2) a2.pp a2.nn
theorem SR.newW {P0 N0 H0 H:Hp} {ρ:List Sl} {σ:L2.St} (S0:SR C P0 N0 H0 ρ σ) (hs:L2.Same H0 H) {p:Addr} (h0:H0 p=none) {j:Nat} {dss:List (List Cm.D)} {u:Option V} (e1:ρ[j]? = some (.row dss)) (e2:σ[j]? = some u):¬Held H (.row dss) u p:=fun k=>by
 obtain⟨o,z1,z2⟩:=S0.sl j _ e1
 rw[z1] at e2;cases e2
 have k0:Held H0 (.row dss) u p:=by
  obtain⟨q,ps,rfl,y1,_⟩:=z2
  cases k with
  |rt=>exact .rt
  |it e m =>
   rw[hs _ _ y1] at e
   injection e with e
   injection e with e
   rw[←qcR e] at m
   exact .it y1 m
 obtain⟨⟨xs,q⟩,_⟩:=z2.held k0
 rw[h0] at q;cases q
theorem SR.setO {P0 N0 H0 P N H:Hp} {ρ:List Sl} {σ:L2.St} (S0:SR C P0 N0 H0 ρ σ) (S:SR C P N H ρ σ) (hs:L2.Same H0 H) {i:Nat} {ds:List Cm.D} {b:Bool} {p:Addr} {xs:List V} (h0:H0 p=none) (hp:H p=some (.lst xs)) (pP:P p=none) (pN:N p=none) (h:RepsB C P N b ds xs):SR C P N H (ρ.set i (.own ds b)) (σ.set i (some (.ref p))) where
 reg:=S.reg
 len:=by simp[S.len]
 sl:=fun j s e=>by
  by_cases q:i=j
  ·subst q
   have hi:i<ρ.length:=by
    rcases Nat.lt_or_ge i ρ.length with z | z
    ·exact z
    ·rw[List.getElem?_eq_none (by simpa using z)] at e;cases e
   rw[List.getElem?_set_self hi] at e
   cases e
   exact⟨_,List.getElem?_set_self (by rw[S.len];exact hi),p,xs,rfl,hp,pP,pN,S0.reg.bH.free h0,h⟩
  ·rw[List.getElem?_set_ne q] at e
   rw[List.getElem?_set_ne q]
   exact S.sl j s e
 ap:=fun j k r ds' c es c' e1 e2 e3 e4=>by
  have old:∀{m:Nat} {r:Addr} {es:List Cm.D} {c:Bool},i≠m→(ρ.set i (.own ds b))[m]? = some (.own es c)→(σ.set i (some (.ref p)))[m]? = some (some (.ref r))→H0 r≠none:=fun {m r es c} hm e1 e2=>by
   rw[List.getElem?_set_ne hm] at e1 e2
   obtain⟨o,z1,q,ys,z2,z3,_⟩:=S0.sl m _ e1
   rw[z1] at e2
   cases e2
   cases z2
   rw[z3];simp
  have here:∀{m:Nat} {r:Addr},i=m→m<σ.length→(σ.set i (some (.ref p)))[m]? = some (some (.ref r))→r=p:=fun {m r} hm hl e=>by
   subst hm
   rw[List.getElem?_set_self hl] at e
   cases e;rfl
  have lt:∀{m:Nat} {o:Option V},(σ.set i (some (.ref p)))[m]? = some o→m<σ.length:=fun {m o} e=>by
   rcases Nat.lt_or_ge m σ.length with z | z
   ·exact z
   ·rw[List.getElem?_eq_none (by simpa using z)] at e;cases e
  by_cases q:i=j
  ·by_cases q2:i=k
   ·omega
   ·have:=here q (lt e3) e3
    subst this
    exact absurd h0 (old q2 e2 e4)
  ·by_cases q2:i=k
   ·have:=here q2 (lt e4) e4
    subst this
    exact absurd h0 (old q e1 e3)
   ·rw[List.getElem?_set_ne q] at e1 e3
    rw[List.getElem?_set_ne q2] at e2 e4
    exact S.ap j k r ds' c es c' e1 e2 e3 e4
 ad:=S.ad.set rfl
 ar:=S.ar.setO fun j dss u _ e1 e2=>S0.newW hs h0 e1 e2
theorem qoW {i:Nat} {g:List Sl→RE ER} {D:Ends} {σ:L2.St} {H:Hp} (q:tS C (fun ρ=>(g ρ).out fun x=>match x with
  |.fre ds b=>.nx (ρ.set i (.own ds b))
  |.val .non _=>.nx (ρ.set i (.val .non true))
  |_=>.bad) D σ H):tAsg (tE C g) (gName i) D σ H:=by
 obtain⟨ρ,P,N,S,h⟩:=q
 refine⟨ρ,P,N,S,(h.res S.reg).mono fun x P1 N1 H1 _ a1 h1 v rv=>?_⟩
 cases x with
 |fre ds b =>
  obtain⟨p,xs,rfl,z1,z2,z3,z4,z5⟩:=rv
  exact h1 _ P1 N1 H1 (S.setO (S.adv a1) a1.hh z2 z1 z3 z4 z5) a1.pp a1.nn
 |val d b =>
  cases d with
  |non=>exact h1 _ P1 N1 H1 ((S.adv a1).setV rv) a1.pp a1.nn
  |_=>exact h1.elim
 |brw _ _=>exact h1.elim
theorem qlE {t e:Expr} {tg:List Nat} {g:List Sl→RE ER} {pos:Pos} (h:PE X e (tE C g)) (ht:PG X t (tG C tg)) (hs:swapsWithSole [t] e pos.line X.env=pure false) (hw:swappedStores [t] e X.env=pure none) (h1:(assignEach [t] X.env).map (·.2)=[assign t X.env]) :
  PS X (.Assign [t] e pos) (tS C fun ρ=>(g ρ).out fun x=>held x fun d b=>onB (qce tg d b ρ) .nx):=
 qae (ps_asg h ht hs hw h1) fun D σ H q=>by
  obtain⟨ρ,P,N,S,h⟩:=q
  refine⟨ρ,P,N,S,(h.res S.reg).mono fun x P1 N1 H1 _ a1 h1 v rv=>?_⟩
  obtain⟨N2,d,b,a2,r2,o⟩:=rv.held a1 h1
  cases e:qce tg d b ρ with
  |some ρ' =>
   rw[e] at o
   exact⟨ρ,P1,N2,d,b,ρ',S.adv a2,r2,e,fun σ' S' _ _=>o σ' P1 N2 H1 S' a2.pp a2.nn⟩
  |none=>rw[e] at o;exact o.elim
theorem qa7 {P N:Hp} {D:Ends} {ρ:List Sl} {i:Nat} {f:List Cm.D→Bool→Out} (h:outS C P N D (qaI ρ i f)):∃ds b,ρ[i]? = some (.own ds b)∧outS C P N D (f ds b):=by
 unfold qaI at h
 split at h
 ·rename_i ds b e
  exact⟨ds,b,e,h⟩
 ·exact h.elim
theorem SR.write {P N H:Hp} {ρ:List Sl} {σ:L2.St} (S:SR C P N H ρ σ) {i:Nat} {ds ds':List Cm.D} {b b':Bool} {p:Addr} {xs':List V} (e:ρ[i]? = some (.own ds b)) (eσ:σ[i]? = some (some (.ref p))) (h:RepsB C P N b' ds' xs'):SR C P N (upd H p (.lst xs')) (ρ.set i (.own ds' b')) σ:=by
 obtain⟨o,z1,q,xs,z2,z3,z4,z5,z6,z7⟩:=S.sl i _ e
 rw[z1] at eσ;cases eσ;cases z2
 have hi:i<ρ.length:=(List.getElem?_eq_some_iff.mp e).1
 refine⟨⟨qak S.reg.pH z4,qak S.reg.nH z5,qak S.reg.bH z6,S.reg.rB,S.reg.p0,S.reg.pn,S.reg.nw,S.reg.dj⟩,by simp[S.len],fun j s ej=>?_,fun j k r ds1 c es c' e1 e2 e3 e4=>?_,S.ad.setS rfl,(S.ar.own e).heap fun j dss r ej ej2=>upd_ne fun er=>?_⟩
 ·by_cases q:i=j
  ·subst q
   rw[List.getElem?_set_self hi] at ej
   cases ej
   exact⟨_,z1,p,xs',rfl,upd_same,z4,z5,z6,h⟩
  ·rw[List.getElem?_set_ne q] at ej
   obtain⟨o,y1,y2⟩:=S.sl j s ej
   refine⟨o,y1,?_⟩
   cases s with
   |non=>trivial
   |val d b=>exact y2
   |own es c =>
    obtain⟨r,ys,y3,y4,y5⟩:=y2
    have hr:r≠p:=fun er=>q (S.ap i j p ds b es c e ej z1 (by rw[y1,y3,er]))
    exact⟨r,ys,y3,by rw[upd_ne hr];exact y4,y5⟩
   |slf c fs =>
    obtain⟨r,dx,ys,y3,y4,y5⟩:=y2
    have hr:r≠p:=fun er=>by rw[er,z3] at y4;cases y4
    exact⟨r,dx,ys,y3,by rw[upd_ne hr];exact y4,y5⟩
   |fxd d k=>exact y2
   |dct m c =>
    obtain⟨r,es,y3,y4,y5⟩:=y2
    have hr:r≠p:=fun er=>by rw[er,z3] at y4;cases y4
    exact⟨r,es,y3,by rw[upd_ne hr];exact y4,y5⟩
   |row dss =>
    have far:∀a,Held H (.row dss) o a→a≠p:=fun a k er=>q (S.ar.un j i dss _ _ _ a ej e y1 z1 k (by rw[er];exact .own)).symm
    obtain⟨r,ps,rfl,y4,y5,y6,y7,y8,y9⟩:=y2
    refine⟨r,ps,rfl,by rw[upd_ne (far r .rt)];exact y4,y5,y6,y7,?_,y9⟩
    exact y8.sub fun a m ds ⟨xs,g1,g2⟩=>⟨xs,by rw[upd_ne (far a (.it y4 m))];exact g1,g2⟩
 ·have un:∀{m:Nat} {es:List Cm.D} {c:Bool},(ρ.set i (.own ds' b'))[m]? = some (.own es c)→∃es' c',ρ[m]? = some (.own es' c'):=fun {m es c} em=>by
   by_cases q:i=m
   ·subst q;exact⟨_,_,e⟩
   ·rw[List.getElem?_set_ne q] at em;exact⟨_,_,em⟩
  obtain⟨_,_,f1⟩:=un e1
  obtain⟨_,_,f2⟩:=un e2
  exact S.ap j k r _ _ _ _ f1 f2 e3 e4
 ·rcases qal ej with⟨_,z⟩ | ⟨qn,z⟩
  ·cases z
  ·exact qn (S.ar.un j i dss _ _ _ p z e ej2 z1 (by rw[er];exact .rt) .own).symm
theorem SR.root {P N H:Hp} {ρ:List Sl} {σ:L2.St} (S:SR C P N H ρ σ) {i:Nat} {ds:List Cm.D} {b:Bool} (e:ρ[i]? = some (.own ds b)):∃p xs,σ[i]? = some (some (.ref p))∧H p=some (.lst xs)∧P p=none∧N p=none∧C.B p=none∧RepsB C P N b ds xs:=by
 obtain⟨o,z1,p,xs,rfl,z2⟩:=S.sl i _ e
 exact⟨p,xs,z1,z2⟩
theorem qox {i:Nat} {g:List Sl→Out} {D:Ends} {σ:L2.St} {H:Hp} (q:tS C (fun ρ=>qaI ρ i fun ds b=>g (ρ.set i (.val (.lst ds) b))) D σ H):tS C g D σ H:=by
 obtain⟨ρ,P,N,S,h⟩:=q
 obtain⟨ds,b,e,o⟩:=qa7 h
 obtain⟨p,xs,z1,z2,z3,z4,z5,z6⟩:=S.root e
 have hi:i<ρ.length:=(List.getElem?_eq_some_iff.mp e).1
 have sn:L2.Same N (upd N p (.lst xs)):=qan z4
 refine⟨ρ.set i (.val (.lst ds) b),P,upd N p (.lst xs),⟨⟨S.reg.pH,qjU S.reg.nH z2,S.reg.bH,S.reg.rB,S.reg.p0,S.reg.pn,fun a ha=>?_,fun a ha=>?_⟩,by simp[S.len],fun j s ej=>?_,fun j k r ds1 c es c' e1 e2 e3 e4=>?_,S.ad.setS rfl,S.ar.setS rfl⟩,o.adv (L2.Same.refl _) sn⟩
 ·by_cases q:a=p
  ·rw[q];exact z5
  ·rw[upd_ne q] at ha;exact S.reg.nw a ha
 ·by_cases q:a=p
  ·rw[q];exact z3
  ·rw[upd_ne q] at ha;exact S.reg.dj a ha
 ·by_cases q:i=j
  ·subst q
   rw[List.getElem?_set_self hi] at ej
   cases ej
   exact⟨_,z1,_,rfl,p,xs,rfl,.inl upd_same,RepsB.adv (L2.Same.refl _) sn z6⟩
  ·rw[List.getElem?_set_ne q] at ej
   obtain⟨o,y1,y2⟩:=S.sl j s ej
   refine⟨o,y1,?_⟩
   cases s with
   |non=>trivial
   |val d b=>obtain⟨v,y3,y4⟩:=y2;exact⟨v,y3,RepB.adv (L2.Same.refl _) sn y4⟩
   |own es c =>
    obtain⟨r,ys,y3,y4,y5,y6,y7,y8⟩:=y2
    have hr:r≠p:=fun er=>q (S.ap i j p ds b es c e ej z1 (by rw[y1,y3,er]))
    exact⟨r,ys,y3,y4,y5,by rw[upd_ne hr];exact y6,y7,RepsB.adv (L2.Same.refl _) sn y8⟩
   |slf c fs =>
    obtain⟨r,dx,ys,y3,y4,y5,y6,y7,y8,y9⟩:=y2
    have hr:r≠p:=fun er=>by rw[er,z2] at y4;cases y4
    exact⟨r,dx,ys,y3,y4,y5,by rw[upd_ne hr];exact y6,y7,y8,RepsB.adv (L2.Same.refl _) sn y9⟩
   |fxd d k=>obtain⟨v,y3,y4,y5⟩:=y2;exact⟨v,y3,y4,RepB.adv (L2.Same.refl _) sn y5⟩
   |dct m c =>
    obtain⟨r,es,y3,y4,y5,y6,y7,y8⟩:=y2
    have hr:r≠p:=fun er=>by rw[er,z2] at y4;cases y4
    exact⟨r,es,y3,y4,y5,by rw[upd_ne hr];exact y6,y7,y8.adv (L2.Same.refl _) sn⟩
   |row dss =>
    have far:∀a,Held H (.row dss) o a→a≠p:=fun a k er=>q (S.ar.un j i dss _ _ _ a ej e y1 z1 k (by rw[er];exact .own)).symm
    obtain⟨r,ps,rfl,y4,y5,y6,y7,y8,y9⟩:=y2
    refine⟨r,ps,rfl,y4,y5,by rw[upd_ne (far r .rt)];exact y6,y7,?_,y9⟩
    exact y8.sub fun a m ds ⟨xs,g1,g2,g3,g4,g5,g6⟩=>⟨xs,g1,g2,by rw[upd_ne (far a (.it y4 m))];exact g3,g4,g5,RepsB.adv (L2.Same.refl _) sn g6⟩
 ·have un:∀{m:Nat} {es:List Cm.D} {c:Bool},(ρ.set i (.val (.lst ds) b))[m]? = some (.own es c)→ρ[m]? = some (.own es c):=fun {m es c} em=>by
   by_cases q:i=m
   ·subst q;rw[List.getElem?_set_self hi] at em;cases em
   ·rw[List.getElem?_set_ne q] at em;exact em
  exact S.ap j k r _ _ _ _ (un e1) (un e2) e3 e4
end
end Cm
namespace Cm
open PySem PySem.Spec PyProof.Rows L2
section
variable {C:Ctx} {X:Cx}
theorem qnp {i:Nat} {g:List Sl→RE ER} {D:Ends} {σ:L2.St} {H:Hp} {K:PySem.W.Frag} (q:tS C (fun ρ=>qaI ρ i fun ds c=>(g ρ).out fun x=>held x fun d b=>gdO (leB (ds.length+1)) (.nx (ρ.set i (.own (ds++[d]) (b&&c))))) D σ H) :
  tDrop (tBM K "list" rAppend (tVar i) (tCons (tE C g) tNil)) D σ H:=by
 obtain⟨ρ,P,N,S,h⟩:=q
 obtain⟨ds,c,e,o⟩:=qa7 h
 obtain⟨p,xs,z1,z2,z3,z4,z5,z6⟩:=S.root e
 refine⟨_,z1,.inl ⟨rfl,xs,.inl (.inl z2)⟩,ρ,P,N,S,(o.res S.reg).mono fun x P1 N1 H1 _ a1 h1 v rv=>?_⟩
 obtain⟨N2,d,b,a2,r2,o⟩:=rv.held a1 h1
 simp only[qas,qag] at o
 split at o
 ·rename_i hl
  refine⟨p,xs,v,rfl,rfl,a1.hh _ _ z2,by rw[z6.length];exact hl,?_⟩
  exact o _ P1 N2 _ ((S.adv a2).write e z1 (Reps.append (RepsB.and2 (RepsB.adv a2.pp a2.nn z6)) (Reps.one (RepB.and1 r2)))) a2.pp a2.nn
 ·exact o.elim
theorem qnD {i:Nat} {g:List Sl→RE ER} {D:Ends} {σ:L2.St} {H:Hp} {K:PySem.W.Frag} (q:tS C (fun ρ=>qaI ρ i fun ds c=>(g ρ).out fun x=>match x with
  |.fre es b=>gdO (leB (ds.length+es.length)) (.nx (ρ.set i (.own (ds++es) (b&&c))))
  |_=>.bad) D σ H) :
  tDrop (tBM K "list" rExtend (tVar i) (tCons (tE C g) tNil)) D σ H:=by
 obtain⟨ρ,P,N,S,h⟩:=q
 obtain⟨ds,c,e,o⟩:=qa7 h
 obtain⟨p,xs,z1,z2,z3,z4,z5,z6⟩:=S.root e
 refine⟨_,z1,.inl ⟨rfl,xs,.inl (.inl z2)⟩,ρ,P,N,S,(o.res S.reg).mono fun x P1 N1 H1 _ a1 h1 v rv=>?_⟩
 cases x with
 |fre es b =>
  obtain⟨q,ys,rfl,y1,y2,y3,y4,y5⟩:=rv
  simp only[qas,qag] at h1
  split at h1
  ·rename_i hl
   refine⟨p,q,xs,ys,rfl,rfl,a1.hh _ _ z2,y1,by rw[z6.length,y5.length];exact hl,?_⟩
   exact h1 _ P1 N1 _ ((S.adv a1).write e z1 (Reps.append (RepsB.and2 (RepsB.adv a1.pp a1.nn z6)) (RepsB.and1 y5))) a1.pp a1.nn
  ·exact h1.elim
 |val _ _=>exact h1.elim
 |brw _ _=>exact h1.elim
theorem qmS {i:Nat} {D:Ends} {σ:L2.St} {H:Hp} {K:PySem.W.Frag} (q:tS C (fun ρ=>qaI ρ i fun _ _=>.nx (ρ.set i (.own [] true))) D σ H):tDrop (tBM0 K "list" rClear (tVar i)) D σ H:=by
 obtain⟨ρ,P,N,S,h⟩:=q
 obtain⟨ds,c,e,o⟩:=qa7 h
 obtain⟨p,xs,z1,z2,z3,z4,z5,z6⟩:=S.root e
 exact⟨_,z1,.inl ⟨rfl,xs,.inl (.inl z2)⟩,p,xs,rfl,rfl,z2,o _ P N _ (S.write e z1 rfl) (L2.Same.refl _) (L2.Same.refl _)⟩
theorem qko {P N:Hp} {b:Bool}:∀{ds:List Cm.D} {xs:List V} {d:Cm.D},RepsB C P N b ds xs→ds.getLast? = some d→∃v,xs[xs.length - 1]? = some v∧RepB C P N b d v:=fun {ds xs d} h e=>by
 rw[List.getLast?_eq_getElem?] at e
 rw[h.length]
 exact h.get e
theorem qfE {P N:Hp} {b:Bool} {ds:List Cm.D} {xs:List V} (h:RepsB C P N b ds xs):RepsB C P N b ds.dropLast xs.dropLast:=by
 rw[List.dropLast_eq_take,List.dropLast_eq_take,h.length]
 exact Reps.take _ h
theorem qkM {i j:Nat} {D:Ends} {σ:L2.St} {H:Hp} {K:PySem.W.Frag} (q:tS C (fun ρ=>qaI ρ i fun ds c=>match ds.getLast? with
  |some d=>.nx ((ρ.set i (.own ds.dropLast c)).set j (.val d c))
  |none=>.bad) D σ H):tAsg (tBM0 K "list" rPop (tVar i)) (gName j) D σ H:=by
 obtain⟨ρ,P,N,S,h⟩:=q
 obtain⟨ds,c,e,o⟩:=qa7 h
 obtain⟨p,xs,z1,z2,z3,z4,z5,z6⟩:=S.root e
 split at o
 ·rename_i d e2
  obtain⟨v,q1,q2⟩:=qko z6 e2
  refine⟨_,z1,.inl ⟨rfl,xs,.inl (.inl z2)⟩,p,xs,v,rfl,rfl,z2,q1,?_⟩
  exact o _ P N _ ((S.write e z1 (qfE z6)).setV q2) (L2.Same.refl _) (L2.Same.refl _)
 ·exact o.elim
theorem qoB {i:Nat} {g gi:List Sl→RE ER} {D:Ends} {σ:L2.St} {H:Hp} (q:tS C (fun ρ=>(g ρ).out fun x=>held x fun d b=>qaI ρ i fun ds c=>(gi ρ).out fun k=>match k.d with
  |.int k=>match ixN ds.length k with
   |some j=>.nx (ρ.set i (.own (ds.set j d) (b&&c)))
   |none=>.bad
  |_=>.bad) D σ H):tAsg (tE C g) (gSub (tVar i) (tE C gi) rSetL) D σ H:=by
 obtain⟨ρ,P,N,S,h⟩:=q
 refine⟨ρ,P,N,S,(h.res S.reg).mono fun x P1 N1 H1 _ a1 h1 v rv=>?_⟩
 obtain⟨N2,d,b,a2,r2,o⟩:=rv.held a1 h1
 have S2:=S.adv a2
 obtain⟨ds,c,e,o⟩:=qa7 o
 obtain⟨p,xs,z1,z2,z3,z4,z5,z6⟩:=S2.root e
 refine⟨_,z1,ρ,P1,N2,S2,((o.adv a2.pp a2.nn).res S2.reg).mono fun k P3 N3 H3 _ a3 h3 u ru=>?_⟩
 have r3:=(S2.adv a3).reg
 split at h3
 ·rename_i k' ek
  have w:=ru.w r3
  rw[ek] at w
  cases w.int
  split at h3
  ·rename_i j ej
   refine⟨p,xs,k',j,rfl,rfl,a3.hh _ _ z2,by rw[z6.length];exact ej,?_⟩
   exact h3 _ P3 N3 _ ((S2.adv a3).write e z1 (Reps.set (RepB.and1 (RepB.adv a3.pp a3.nn r2)) j (RepsB.and2 (RepsB.adv a3.pp a3.nn z6)))) a3.pp a3.nn
  ·exact h3.elim
 ·exact h3.elim
theorem qm8 {gi:List Sl→RE Wk} {tg:List Nat} {gb:List Sl→Out} {D:Ends} {σ:L2.St} {H:Hp} (q:tS C (fun ρ=>(gi ρ).out fun w=>if w.own=true then .bad else qdc (fun x ρ=>onB (qce tg x w.b ρ) gb) w.xs ρ) D σ H):tFor (tI C gi) (tG C tg) (tS C gb) D σ H:=by
 obtain⟨ρ,P,N,S,h⟩:=q
 refine⟨ρ,P,N,S,(h.res S.reg).mono fun w P1 N1 H1 _ a1 h1 J wj=>?_⟩
 split at h1
 ·exact h1.elim
 rename_i how
 have how:w.own=false:=by simpa using how
 obtain⟨Gd,Y,wk,_,stay,item⟩:=wj
 generalize hf:(fun x ρ=>onB (qce tg x w.b ρ) gb)=f at h1
 have r1:=(S.adv a1).reg
 refine for_it wk (Pv:=fun i σ' H'=>∃ρ' P' N',SR C P' N' H' ρ' σ'∧L2.Same P1 P'∧L2.Same N1 N'∧outS C P1 N1 D (qdc f (w.xs.drop i) ρ')) ?_ (fun i σ' H' hi p=>?_) (fun i x σ' H' H'' hi p y=>?_) (fun σ' H' p=>?_)
 ·exact⟨ρ,P1,N1,S.adv a1,L2.Same.refl _,L2.Same.refl _,by simpa using h1.adv a1.pp a1.nn⟩
 ·obtain⟨ρ',P',N',S',s1,s2,_⟩:=p
  exact stay how P' N' H' s1 s2 S'.reg
 ·obtain⟨ρ',P',N',S',s1,s2,o⟩:=p
  obtain⟨P3,a3,d,ed,rd⟩:=item i P' N' H' x H'' hi s1 s2 S'.reg y
  have hdrop:w.xs.drop i=d::w.xs.drop (i+1):=by
   obtain⟨hi',e⟩:=List.getElem?_eq_some_iff.mp ed
   rw[List.drop_eq_getElem_cons hi',e]
  rw[hdrop] at o
  have o2:outS C P1 N1 D (match f d ρ' with
   |.nx ρ'=>qdc f (w.xs.drop (i+1)) ρ'
   |.cnt ρ'=>qdc f (w.xs.drop (i+1)) ρ'
   |.brk ρ'=>.nx ρ'
   |o=>o):=o
  have ef:f d ρ'=onB (qce tg d w.b ρ') gb:=by rw[←hf]
  cases eb:qce tg d w.b ρ' with
  |none=>rw[ef,eb] at o2;exact o2.elim
  |some ρ2 =>
   rw[ef,eb,qhw] at o2
   refine⟨ρ',P3,N',d,w.b,ρ2,S'.adv a3,rd,eb,fun σ2 S2 _ _=>⟨ρ2,P3,N',S2,?_⟩⟩
   have t1:=s1.trans a3.pp
   cases e3:gb ρ2 with
   |bad=>simp only[e3] at o2;exact o2
   |nx ρ3=>simp only[e3] at o2;exact fun σ4 P4 N4 H4 S4 e1 e2=>⟨ρ3,P4,N4,S4,t1.trans e1,s2.trans e2,o2⟩
   |cnt ρ3=>simp only[e3] at o2;exact fun σ4 P4 N4 H4 S4 e1 e2=>⟨ρ3,P4,N4,S4,t1.trans e1,s2.trans e2,o2⟩
   |brk ρ3=>simp only[e3] at o2;exact fun σ4 P4 N4 H4 S4 e1 e2=>o2 σ4 P4 N4 H4 S4 (t1.trans e1) (s2.trans e2)
   |ret er=>simp only[e3] at o2;exact o2
   |exc c fs=>simp only[e3] at o2;exact o2
 ·obtain⟨ρ',P',N',S',s1,s2,o⟩:=p
  rw[List.drop_length] at o
  exact o σ' P' N' H' S' s1 s2
theorem qnM {gc:List Sl→RE Bool} {gb:List Sl→Out} {n:Nat} {D:Ends} {σ:L2.St} {H:Hp} (q:tS C (fun ρ=>qdu gc gb n ρ) D σ H):tWhile (tT C gc) (tS C gb) D σ H:=by
 obtain⟨ρ,P,N,S,h⟩:=q
 refine⟨fun m σ' H'=>∃ρ' P' N',SR C P' N' H' ρ' σ'∧L2.Same P P'∧L2.Same N N'∧outS C P N D (qdu gc gb m ρ'),⟨n,ρ,P,N,S,L2.Same.refl _,L2.Same.refl _,h⟩,fun m σ' H' p=>?_⟩
 obtain⟨ρ',P',N',S',s1,s2,o⟩:=p
 cases m with
 |zero=>exact o.elim
 |succ m =>
  have o2:outS C P N D ((gc ρ').out fun k=>if k=true then (match gb ρ' with
   |.nx ρ'=>qdu gc gb m ρ'
   |.cnt ρ'=>qdu gc gb m ρ'
   |.brk ρ'=>.nx ρ'
   |o=>o) else .nx ρ'):=o
  refine⟨ρ',P',N',S',((o2.adv s1 s2).res S'.reg).mono fun k P1 N1 H1 _ a1 h1=>?_⟩
  cases k with
  |false=>exact h1 σ' P1 N1 H1 (S'.adv a1) a1.pp a1.nn
  |true =>
   simp only[if_true] at h1 ⊢
   refine⟨fun σ' H'=>∃ρ' P' N',SR C P' N' H' ρ' σ'∧L2.Same P P'∧L2.Same N N'∧outS C P N D (qdu gc gb m ρ'),fun σ2 H2 z=>⟨m,Nat.lt_succ_self m,z⟩,ρ',P1,N1,S'.adv a1,?_⟩
   have t1:=s1.trans a1.pp
   have t2:=s2.trans a1.nn
   have o3:gc ρ'=.ok true:=by assumption
   rw[o3] at o2
   simp only[RE.out_ok,if_true] at o2
   cases e3:gb ρ' with
   |bad=>simp only[e3] at o2;exact o2
   |nx ρ3=>simp only[e3] at o2;exact fun σ4 P4 N4 H4 S4 e1 e2=>⟨ρ3,P4,N4,S4,t1.trans e1,t2.trans e2,o2⟩
   |cnt ρ3=>simp only[e3] at o2;exact fun σ4 P4 N4 H4 S4 e1 e2=>⟨ρ3,P4,N4,S4,t1.trans e1,t2.trans e2,o2⟩
   |brk ρ3=>simp only[e3] at o2;exact fun σ4 P4 N4 H4 S4 e1 e2=>o2 σ4 P4 N4 H4 S4 (t1.trans e1) (t2.trans e2)
   |ret er=>simp only[e3] at o2;exact o2
   |exc c fs=>simp only[e3] at o2;exact o2
end
end Cm
namespace Cm
open PySem PySem.Spec PyProof.Rows L2
structure Tb where
 N:List Str
 fn:List (Str × Nat)
 gc:List Str
 mn:List (Str × Nat)
 fs:List Str
 nw:List (Str × Nat):=[]
 ck:List (Str × Bool):=[]
 xk:List Str:=[]
 dc:List Str:=[]
def qen (sc:Scope) (x:Str):Bool:=match sc.names.lookup x with
 |some .local=>true
 |some .cell=>true
 |some .free=>true
 |_=>false
def glB (sc:Scope) (x:Str):Bool:=match sc.names.lookup x with
 |some .globalImplicit=>true
 |_=>false
def tgB (fc:Option Scope) (sc:Scope) (x:Str):Bool:=match sc.names.lookup x with
 |some .local=>true
 |some .cell=>(match fc with
  |none=>true
  |some so=>so.names.lookup x == some .cell)
 |_=>false
def nmB (x:Str):Bool:=!(x == ("__debug__" : Str)) && !(x == ("__classdict__" : Str))
def qac:Expr→Bool
 |.Starred _ _=>false
 |_=>true
def qbG:Expr→Bool
 |.Slice _ _ _ _=>false
 |_=>true
def qdt:Expr→Bool
 |.Call (.Name _ _) [] [] _=>false
 |_=>true
def qhI:Expr→Bool
 |.Set _ _ _=>false
 |_=>true
def qbJ:Expr→Bool
 |.ListComp _ _ _ _=>false
 |.SetComp _ _ _ _=>false
 |.DictComp _ _ _ _ _=>false
 |_=>true
theorem qaa {e:Expr} {es:List Expr} {env:PySem.Env} (h:qac e=true):starEach (e::es) env=(false,eval e env)::starEach es env:=by
 cases e<;>first | rfl | cases h
theorem qcm {env:PySem.Env} {pos:Pos}:∀{es:List Expr},es.all qac=true→(backTo pos (starEach es env)).any (·.1)=false
 |[],_=>rfl
 |e::es,h=>by
  simp only[List.all_cons,Bool.and_eq_true] at h
  rw[qaa h.1]
  have:=qcm (env:=env) (pos:=pos) h.2
  unfold backTo at this ⊢
  simpa using this
theorem qbW {X:Cx} {es:List Expr} (h:es.all qac=true):qh3 X es:=⟨fun e r q=>by
 subst q
 simp only[List.all_cons,Bool.and_eq_true] at h
 exact qaa h.1,fun pos e r q=>by
 subst q
 simp only[List.all_cons,Bool.and_eq_true] at h
 exact qcm h.2⟩
theorem qbs {o:Expr} {m:Str} {env:PySem.Env} {w:Sem Value} (h:qdt o=true):attributeBase o m env w=w:=by
 cases o with
 |Call f as ks p =>
  cases f with
  |Name x q =>
   cases as with
   |nil =>
    cases ks with
    |nil=>cases h
    |cons _ _=>rfl
   |cons _ _=>rfl
  |_=>rfl
 |_=>rfl
theorem qlb {o:Expr} {m:Str} {apos pos:Pos} {es:List Expr} {env:PySem.Env} (hb:qdt o=true) (hs:es.all qac=true) (hn:es.length<20) (hl:(apos.endLine == pos.line)=true) :
  eval (.Call (.Attribute o m apos) es [] pos) env=(do
   let ov ←eval o env
   standAt apos.atName
   let (f,first) ←holding [ov] (getMethod ov m (plainOf o env))
   callWith pos f first (backTo pos (starEach es env)) (backToKw pos (keywordEach [] env))):=by
 have e1:eval (.Call (.Attribute o m apos) es [] pos) env=(do
   let ov ←attributeBase o m env (eval o env)
   standAt apos.atName
   methodCall o m apos pos env ov (es.length+([]:List Keyword).length) (backTo pos (starEach es env)) (backToKw pos (keywordEach [] env))):=by
  rfl
 rw[e1,qbs hb]
 have hf:methodCallForm (es.length+([]:List Keyword).length) (backTo pos (starEach es env)) (backToKw pos (keywordEach [] env))=true:=by
  unfold methodCallForm
  have:=qcm (env:=env) (pos:=pos) hs
  have e:(backTo pos (starEach es env)).all (fun x=>!x.1)=true:=by
   rw[List.all_eq_not_any_not]
   simpa using this
  rw[e]
  simp[backToKw,keywordEach]
  omega
 have:∀ov,methodCall o m apos pos env ov (es.length+([]:List Keyword).length) (backTo pos (starEach es env)) (backToKw pos (keywordEach [] env))=_:=fun ov=>mcall_line hf hl
 simp only[this]
theorem qqk {e:Expr} {env:PySem.Env} (h:(match e with
  |.UnaryOp .Not _ _=>false
  |.BoolOp _ _ _=>false
  |.IfExp _ _ _ _=>false
  |.Compare _ _ _ _=>false
  |_=>true)=true):∀whole,isTrue e env whole=(do let v ←whole;standAt e.pos;holding [v] (truthy v)):=by
 cases e with
 |UnaryOp o a p=>cases o<;>first | (intro _;rfl) | cases h
 |BoolOp _ _ _=>cases h
 |IfExp _ _ _ _=>cases h
 |Compare _ _ _ _=>cases h
 |_=>intro _;rfl
theorem qcJ {e:Expr} {t:Option Expr} {l:Nat} {env:PySem.Env} (h:qbJ e=true):swapsWith e t l env=pure false:=by
 cases e<;>first | rfl | cases h
theorem qfD {e:Expr} {env:PySem.Env} (h:qhI e=true):∀x,foldedSetIterable e env x=pure x:=by
 cases e<;>first | (intro _;rfl) | cases h
theorem qod {e:Expr} (h:qbG e=true):PlainIx e:=by
 cases e<;>first | (intro _ _;rfl) | cases h
end Cm
set_option maxHeartbeats 1000000
namespace Cm
open PySem PySem.Spec PyProof.Rows L2
section
variable {C:Ctx} {X:Cx}
theorem qf8 {P N:Hp} {b c:Bool} {y:D} {u:V} (hy:RepB C P N b y u) (fy:y.fit 0=true):∀{ds:List D} {xs:List V} {j:Nat},RepsB C P N c ds xs→D.fits ds 0=true→idxD y ds=some j →
  ∃z,xs[j]? = some z∧eqV z u=true∧∀(m:Nat) (z':V),m<j→xs[m]? = some z'→eqV z' u=false
 |[],_,_,_,_,e=>by cases e
 |d::ds,xs,j,⟨v,r,ex,h1,h2⟩,f,e=>by
  subst ex
  simp only[D.fits,Bool.and_eq_true] at f
  have q:=qiL h1 hy f.1 fy
  unfold idxD at e
  split at e
  ·rename_i t
   cases e
   exact⟨v,rfl,by rw[q];exact t,fun m _ hm _=>absurd hm (Nat.not_lt_zero m)⟩
  ·rename_i t
   cases k:idxD y ds with
   |none=>rw[k] at e;cases e
   |some i =>
    rw[k] at e
    cases e
    obtain⟨z,z1,z2,z3⟩:=qf8 hy fy h2 f.2 k
    refine⟨z,by simpa using z1,z2,fun m z' hm hz=>?_⟩
    cases m with
    |zero =>
     simp at hz
     subst hz
     rw[q]
     simpa using t
    |succ m=>exact z3 m z' (Nat.lt_of_succ_lt_succ hm) (by simpa using hz)
abbrev qqC (go g:List Sl→RE ER):List Sl→RE ER:=fun ρ=>(go ρ).bind fun x=>match x.d with
  |.lst xs=>(g ρ).bind fun y=>qdm xs y.d
  |_=>.bad
abbrev qqB (go g:List Sl→RE ER):List Sl→RE ER:=fun ρ=>(go ρ).bind fun x=>match x.d with
  |.str s=>(g ρ).bind fun y=>qhB s y.d
  |_=>.bad
theorem qld {go g:List Sl→RE ER} {σ:L2.St} {H:Hp} {Q:VK} (h:tE C (qqC go g) σ H Q):tBM C.G.K "list" (rIndex C.G.K) (tE C go) (tCons (tE C g) tNil) σ H Q:=by
 obtain⟨ρ,P,N,S,h⟩:=h
 refine⟨ρ,P,N,S,h.bind.mono fun x P1 N1 H1 _ a1 h1 v rv=>?_⟩
 have r1:=(S.adv a1).reg
 split at h1
 ·rename_i ds hd
  have w:=rv.w r1
  rw[hd] at w
  obtain⟨p,xs,rfl,z1,z2⟩:=w
  refine⟨.inl ⟨rfl,xs,z1⟩,ρ,P1,N1,S.adv a1,(res.bind h1).mono fun y P2 N2 H2 _ a2 h2 u ru=>?_⟩
  have r2:=(S.adv (a1.trans a2)).reg
  unfold qdm at h2
  split at h2
  ·rename_i f
   simp only[Bool.and_eq_true] at f
   split at h2
   ·rename_i j e
    have wy:=ru.w r2
    have ry:RepB C P2 N2 y.b y.d u:=by
     cases q:y.d with
     |lst es=>rw[q] at f;have:=f.1;simp[D.fit] at this
     |_=>rw[q] at wy;exact wy
    have z3:=RepsB.adv a2.pp a2.nn z2
    obtain⟨z,y1,y2,y3⟩:=qf8 ry f.1 z3 f.2 e
    exact⟨p,xs,u,j,z,rfl,rfl,L2.Same.seq a2.hh z1,qd3 (H:=H2) ry f.1,qdg (H:=H2) z3 f.2,y1,y2,y3,h2.val r2 rfl⟩
   ·exact h2.elim
  ·exact h2.elim
 ·exact h1.elim
theorem qkA {o a:Expr} {go g:List Sl→RE ER} {apos pos:Pos} (hK:X.K=C.G.K) (ho:PE X o (tE C go)) (ha:PE X a (tE C g)) (hs:qac a=true) (hbase:attributeBase o "index" X.env (eval o X.env)=eval o X.env) (hline:(apos.endLine == pos.line)=true)
  (hf:((backTo pos (starEach [a] X.env)).all (fun x=>!x.1)&&(backToKw pos (keywordEach [] X.env)).all (fun x=>x.1.isSome)
   && decide ([a].length+([]:List Keyword).length+(if ([]:List Keyword).isEmpty then 0 else 1)<30))=true) :
  PE X (.Call (.Attribute o "index" apos) [a] [] pos) (tE C (qqC go g)):=
 qad (pe_bm PySem.F.plainAttrs_list PySem.F.slot_list_index PySem.F.type_list_index mt_index ho (pa_cons ha pa_nil (qaa hs)) hbase hf hline (qaa hs) rfl) fun σ H Q q=>by rw[hK];exact qld q
theorem qlY {go g:List Sl→RE ER} {σ:L2.St} {H:Hp} {Q:VK} (h:tE C (qqB go g) σ H Q):tM1 (fun x xs H Q=>∃a b i rest,x=.str a∧xs=[.str b]∧Builtin.Str.occurrences a b 0 a.length 1=i::rest∧Q (.int (i:Nat)) H) (tE C go) (tE C g) σ H Q:=by
 obtain⟨ρ,P,N,S,h⟩:=h
 refine⟨ρ,P,N,S,h.bind.mono fun x P1 N1 H1 _ a1 h1 v rv=>?_⟩
 have r1:=(S.adv a1).reg
 split at h1
 ·rename_i s q
  have w:=rv.w r1
  rw[q] at w
  cases w.str
  refine⟨⟨_,rfl⟩,ρ,P1,N1,S.adv a1,(res.bind h1).mono fun y P2 N2 H2 _ a2 h2 u ru=>?_⟩
  have r2:=(S.adv (a1.trans a2)).reg
  have w2:=ru.w r2
  unfold qhB at h2
  split at h2
  ·rename_i t q2
   rw[q2] at w2
   cases w2.str
   split at h2
   ·rename_i j rest e
    exact⟨qar s,qar t,j,rest,rfl,rfl,by rw[show(qar s).length=s.length from qbf s];exact e,h2.val r2 rfl⟩
   ·exact h2.elim
  ·exact h2.elim
 ·exact h1.elim
theorem qle {o a:Expr} {go g:List Sl→RE ER} {apos pos:Pos} (ho:PE X o (tE C go)) (ha:PE X a (tE C g)) (hs:qac a=true) (hbase:attributeBase o "index" X.env (eval o X.env)=eval o X.env) (hline:(apos.endLine == pos.line)=true) :
  PE X (.Call (.Attribute o "index" apos) [a] [] pos) (tE C (qqB go g)):=
 qad (pe_m1 PySem.F.slot_str_index PySem.F.type_str_index mt_sindex ho ha (qaa hs) hbase hline) fun σ H Q q=>qlY q
theorem qlg {a:Expr} {g:List Sl→RE ER} {p p2 q pos:Pos} (hK:X.K=C.G.K) (hc:X.calm=true) (hg:Gl X "len") (hm:X.mg "len" = none) (hg2:Gl X "set") (hm2:X.mg "set" = none) (ha:PE X a (tE C g))
  (na:qac a=true):PE X (.Call (.Name "len" p) [.Call (.Name "set" p2) [a] [] q] [] pos) (tE C fun ρ=>(g ρ).bind fun x=>qhq x.d):=by
 have na:=qaa (es:=[]) (env:=X.env) na
 refine⟨fun pins s σ H Q I h=>Call_ (ld_blt I hg hm PySem.boot_len (PyProof.Rows.callWith_builtin1 (PyProof.Rows.args_cons ?_ rfl) rfl rfl))⟩
 refine Call_ (ld_blt I hg2 hm2 PyProof.Rows.boot_set (PyProof.Rows.callWith_type1 (PyProof.Rows.args_cons ?_ na) na rfl))
 have body:tE C g σ H fun x H1=>∃(l:Addr) (ns:List Int),x=V.ref l∧SqL X.K H1 l (ns.map V.int)∧ns.length≤1000∧Q (.int (qoY ns)) H1:=by
  obtain⟨ρ,P,N,S,h⟩:=h
  refine⟨ρ,P,N,S,h.bind.mono fun x P1 N1 H1 _ a1 h1 v rv=>?_⟩
  have r1:=(S.adv a1).reg
  unfold qhq at h1
  split at h1
  ·rename_i ds hd
   split at h1
   ·rename_i ns hn
    have w:=rv.w r1
    rw[hd] at w
    obtain⟨l,xs,rfl,z1,z2⟩:=w
    rw[qb7] at h1
    split at h1
    ·rename_i hl
     rw[Nat.ble_eq] at hl
     exact⟨l,ns,rfl,by rw[hK,←qaN hn z2];exact z1,hl,h1.val r1 rfl⟩
    ·exact h1.elim
   ·exact h1.elim
  ·exact h1.elim
 refine thn (ha.run pins s σ H _ I body) fun v s1 ⟨x,H1,I1,r1,q1⟩=>PyProof.Rows.args_nil ?_
 obtain⟨l,ns,rfl,hq,hl,q1⟩:=q1
 cases r1
 obtain⟨its,r,pl,_⟩:=I1.list hq
 have hz:its.toArray.size=ns.length:=by rw[List.size_toArray,←r.length,List.length_map]
 refine call_set_list (I1.ok.hd hc) pl.isList (ns:=ns) (by simpa using r.ints) (by unfold scanBound;omega) fun h' tk hS hk=>PyProof.Rows.args_nil ?_
 rw[hz] at hS
 obtain⟨o,es,ep,t,ho,hex,hd,_,_,_,hf,hn⟩:=hS
 have I2:Inv X pins σ H1 { s1 with heap:=h',toks:=tk }:=I1.kept fun b o e=>hk b o (Heap.lt_size e) e
 have le:qoY ns≤ns.length:=PyProof.Rows.firstMet_length_le (fun i=>ns.getD i 0) ns.length
 have hn':es.size=qoY ns:=hn
 exact call_len_set ho hex hd hf (by rw[hn'];omega) ⟨.int (qoY ns),H1,I2.tok _,⟨_,by rw[hn']⟩,q1⟩
theorem qiI {n:Nat} {k:Int} {m:Nat} (h:ixN n k=some m) (hn:n≤16777216):seqIndex? k n=some m ∧ -(2 ^ 63)≤k∧k<2 ^ 63:=by
 unfold ixN at h
 unfold seqIndex?
 split at h
 ·rename_i h0
  split at h
  ·rename_i h1
   cases h
   have e:¬k<0:=by omega
   refine⟨?_,by omega,by omega⟩
   simp only[e,if_false]
   rw[if_pos (by simp;omega)]
  ·cases h
 ·rename_i h0
  split at h
  ·rename_i h1
   cases h
   have e:k<0:=by omega
   refine⟨?_,by omega,by omega⟩
   simp only[e,if_true]
   rw[if_pos (by simp;omega)]
  ·cases h
theorem qgB {z:Int}:∀{ns:List Int} {j:Nat},qmz z ns=some j→ns[j]? = some z∧∀m:Nat,m<j→ns[m]? ≠ some z
 |[],_,h=>by cases h
 |s::ss,j,h=>by
  simp only[qmz] at h
  split at h
  ·rename_i e
   cases h
   exact⟨by rw[e];rfl,fun m hm=>by omega⟩
  ·rename_i e
   cases q:qmz z ss with
   |none=>rw[q] at h;cases h
   |some i =>
    rw[q] at h
    cases h
    obtain⟨a,b⟩:=qgB q
    refine⟨a,fun m hm=>?_⟩
    cases m with
    |zero=>intro h;injection h with h;exact e h
    |succ m=>exact b m (Nat.lt_of_succ_lt_succ hm)
theorem qlo {i:Nat} {g:List Sl→RE ER} {D:Ends} {σ:L2.St} {H:Hp} {K:PySem.W.Frag} (q:tS C (fun ρ=>qaI ρ i fun ds c=>(g ρ).out fun k=>match k.d with
  |.int k=>match ixN ds.length k with
   |some m=>match ds[m]? with
    |some _=>gdO (leB ds.length) (.nx (ρ.set i (.own (ds.eraseIdx m) c)))
    |none=>.bad
   |none=>.bad
  |_=>.bad) D σ H):tDrop (tBM K "list" rPopAt (tVar i) (tCons (tE C g) tNil)) D σ H:=by
 obtain⟨ρ,P,N,S,h⟩:=q
 obtain⟨ds,c,e,o⟩:=qa7 h
 obtain⟨p,xs,z1,z2,z3,z4,z5,z6⟩:=S.root e
 refine⟨_,z1,.inl ⟨rfl,xs,.inl (.inl z2)⟩,ρ,P,N,S,(o.res S.reg).mono fun k P1 N1 H1 _ a1 h1 v rv=>?_⟩
 have S1:=S.adv a1
 split at h1
 ·rename_i k' ek
  have w:=rv.w S1.reg
  rw[ek] at w
  cases w.int
  split at h1
  ·rename_i m em
   split at h1
   ·rename_i d ed
    simp only[qas,qag] at h1
    split at h1
    case isFalse=>exact h1.elim
    rename_i le2
    have r2:=RepsB.adv a1.pp a1.nn z6
    obtain⟨w,w1,w2⟩:=r2.get ed
    have le2:xs.length≤16777216:=by rw[z6.length];exact le2
    rw[←z6.length] at em
    obtain⟨b1,b2,b3⟩:=qiI em le2
    have Sw:=S1.write e z1 (b':=c) (xs':=xs.eraseIdx m) (Reps.eraseIdx m r2)
    exact⟨p,xs,k',m,w,rfl,rfl,a1.hh _ _ z2,b2,b3,b1,w1,h1 _ P1 N1 _ Sw a1.pp a1.nn⟩
   ·exact h1.elim
  ·exact h1.elim
 ·exact h1.elim
theorem qhN {α β:Type} (f:α→β):∀(l:List α) (i:Nat),(l.map f).eraseIdx i=(l.eraseIdx i).map f
 |[],_=>rfl
 |_::_,0=>rfl
 |a::l,i+1=>by simp[List.eraseIdx,qhN f l i]
theorem qnT {i:Nat} {g:List Sl→RE ER} {D:Ends} {σ:L2.St} {H:Hp} {K:PySem.W.Frag} (q:tS C (fun ρ=>qaI ρ i fun ds c=>(g ρ).out fun k=>match k.d with
  |.int k=>match qaq ds with
   |some ns=>match qmz k ns with
    |some m=>.nx (ρ.set i (.own (ds.eraseIdx m) c))
    |none=>.bad
   |none=>.bad
  |_=>.bad) D σ H):tDrop (tBM K "list" rRemI (tVar i) (tCons (tE C g) tNil)) D σ H:=by
 obtain⟨ρ,P,N,S,h⟩:=q
 obtain⟨ds,c,e,o⟩:=qa7 h
 obtain⟨p,xs,z1,z2,z3,z4,z5,z6⟩:=S.root e
 refine⟨_,z1,.inl ⟨rfl,xs,.inl (.inl z2)⟩,ρ,P,N,S,(o.res S.reg).mono fun k P1 N1 H1 _ a1 h1 v rv=>?_⟩
 have S1:=S.adv a1
 split at h1
 ·rename_i k' ek
  have w:=rv.w S1.reg
  rw[ek] at w
  cases w.int
  split at h1
  ·rename_i ns hn
   split at h1
   ·rename_i m em
    have r2:=RepsB.adv a1.pp a1.nn z6
    have ex:xs=ns.map V.int:=qaN hn r2
    obtain⟨b1,b2⟩:=qgB em
    have Sw:=S1.write e z1 (b':=c) (xs':=xs.eraseIdx m) (Reps.eraseIdx m r2)
    refine⟨p,ns,k',m,rfl,rfl,by rw[←ex];exact a1.hh _ _ z2,b1,b2,?_⟩
    rw[←qhN,←ex]
    exact h1 _ P1 N1 _ Sw a1.pp a1.nn
   ·exact h1.elim
  ·exact h1.elim
 ·exact h1.elim
theorem qkP {i j:Nat} {g:List Sl→RE ER} {D:Ends} {σ:L2.St} {H:Hp} {K:PySem.W.Frag} (q:tS C (fun ρ=>if i=j then .bad else qaI ρ i fun ds c=>qaI ρ j fun es c2=>(g ρ).out fun k=>match k.d with
  |.int k=>match ixN es.length k with
   |some m=>match es[m]? with
    |some d=>gdO (leB es.length) (gdO (leB (ds.length+1)) (.nx ((ρ.set j (.own (es.eraseIdx m) c2)).set i (.own (ds++[d]) (c2&&c)))))
    |none=>.bad
   |none=>.bad
  |_=>.bad) D σ H) :
  tDrop (tBM K "list" rAppend (tVar i) (tCons (tBM K "list" rPopAt (tVar j) (tCons (tE C g) tNil)) tNil)) D σ H:=by
 obtain⟨ρ,P,N,S,h⟩:=q
 split at h
 ·exact h.elim
 rename_i hij
 obtain⟨ds,c,e,o⟩:=qa7 h
 obtain⟨es,c2,e2,o⟩:=qa7 o
 obtain⟨p,xs,z1,z2,z3,z4,z5,z6⟩:=S.root e
 obtain⟨p2,xs2,y1,y2,y3,y4,y5,y6⟩:=S.root e2
 refine⟨_,z1,.inl ⟨rfl,xs,.inl (.inl z2)⟩,_,y1,.inl ⟨rfl,xs2,.inl (.inl y2)⟩,ρ,P,N,S,(o.res S.reg).mono fun k P1 N1 H1 _ a1 h1 v rv=>?_⟩
 have S1:=S.adv a1
 split at h1
 ·rename_i k' ek
  have w:=rv.w S1.reg
  rw[ek] at w
  cases w.int
  split at h1
  ·rename_i m em
   split at h1
   ·rename_i d ed
    simp only[qas,qag] at h1
    split at h1
    case isFalse=>exact h1.elim
    rename_i le2
    split at h1
    ·rename_i hl
     have r2:=RepsB.adv a1.pp a1.nn y6
     have r1:=RepsB.adv a1.pp a1.nn z6
     obtain⟨w,w1,w2⟩:=r2.get ed
     have hne:p≠p2:=fun z=>hij (S.ap i j p ds c es c2 e e2 z1 (by rw[z];exact y1))
     have le2:xs2.length≤16777216:=by rw[y6.length];exact le2
     rw[←y6.length] at em
     obtain⟨b1,b2,b3⟩:=qiI em le2
     refine⟨p2,xs2,k',m,w,rfl,rfl,a1.hh _ _ y2,b2,b3,b1,w1,?_⟩
     have Sw:=S1.write e2 y1 (b':=c2) (xs':=xs2.eraseIdx m) (Reps.eraseIdx m r2)
     have e':(ρ.set j (.own (es.eraseIdx m) c2))[i]? = some (.own ds c):=by rw[List.getElem?_set_ne (fun z=>hij z.symm)];exact e
     have Sw2:=Sw.write e' z1 (b':=c2&&c) (xs':=xs++[w]) (Reps.append (RepsB.and2 r1) (Reps.one (RepB.and1 w2)))
     refine⟨p,xs,w,rfl,rfl,by rw[upd_ne hne];exact a1.hh _ _ z2,by rw[z6.length];exact hl,h1 _ P1 N1 _ Sw2 a1.pp a1.nn⟩
    ·exact h1.elim
   ·exact h1.elim
  ·exact h1.elim
 ·exact h1.elim
theorem qnx {i:Nat} {f:Str} {fi:Nat→Option Nat} {σ:L2.St} {H:Hp} {Q:VK} (hf:∀c k,fi c=some k→FdOk C X f c k) (h:tE C (fun ρ=>match ρ[i]? with
  |some (.slf c fs)=>match fi c with
   |some k=>match fs[k]? with
    |some d=>.ok (.val d true)
    |none=>.bad
   |none=>.bad
  |_=>.bad) σ H Q):tFld X.K (tVar i) f σ H Q:=by
 obtain⟨ρ,P,N,S,h⟩:=h
 dsimp only at h
 split at h
 ·rename_i c fs e
  split at h
  ·rename_i k ek
   split at h
   ·rename_i d ed
    obtain⟨o,z1,p,dx,xs,⟨ep,rfl⟩,z2,z3,z4,z5,z6,z7⟩:=S.sl i _ e
    obtain⟨c1,c2,c3,c4⟩:=hf _ _ ek
    obtain⟨u,q4,q5⟩:=Reps.get z7 ed
    exact⟨_,z1,p,_,dx,_,u,rfl,z2,c1,c2,qda c4 c3 q4,h.val S.reg q5⟩
   ·exact h.elim
  ·exact h.elim
 ·exact h.elim
theorem qhT {f:Str} {v:V}:∀{l:List Str} {xs:List V},l[xs.length]? = some f→f∉l.take xs.length→putF f v (l.zip xs)=l.zip (xs++[v])
 |[],_,h,_=>by simp at h
 |g::l,[],h,_=>by
  simp at h
  subst h
  simp[putF]
 |g::l,x::xs,h,hn=>by
  simp only[List.length_cons,List.take_succ_cons,List.mem_cons,not_or] at hn
  simp only[List.zip_cons_cons,List.cons_append,putF]
  rw[if_neg (fun e=>hn.1 e.symm),qhT (by simpa using h) hn.2]
theorem qeL {f:Str}:∀{l:List Str} {k:Nat},l.Nodup→l[k]? = some f→f∉l.take k
 |[],_,_,h=>by simp at h
 |g::l,0,_,_=>by simp
 |g::l,k+1,hn,h=>by
  simp only[List.nodup_cons] at hn
  simp only[List.take_succ_cons,List.mem_cons,not_or]
  have h':l[k]? = some f:=by simpa using h
  exact⟨fun e=>hn.1 (e ▸ List.mem_of_getElem? h'),qeL hn.2 h'⟩
theorem qfH:∀{ρ:List Sl} {j c:Nat} {fs:List Cm.D},qlx ρ=true→ρ[j]? ≠ some (.slf c fs)
 |[],j,c,fs,_,e=>by simp at e
 |s::ρ,0,c,fs,h,e=>by
  simp at e
  subst e
  cases h
 |s::ρ,j+1,c,fs,h,e=>by
  refine qfH (ρ:=ρ) (j:=j) (c:=c) (fs:=fs) ?_ (by simpa using e)
  cases s<;>first | exact h | cases h
theorem ERr.heldF {P1 N1 H0 P N H:Hp} {er:ER} {v:V} {f:Cm.D→Out} {D:Ends} (a:Adv P1 N1 H0 P N H) (h:ERr C P N H H0 er v) (o:outS C P1 N1 D (heldF er f)):∃N2 d,Adv P1 N1 H0 P N2 H∧RepB C P N2 true d v∧outS C P1 N1 D (f d):=by
 cases er with
 |brw ds b=>exact o.elim
 |val d b =>
  simp only[Cm.heldF,qas] at o
  split at o
  ·rename_i z
   exact⟨N,d,a,by have:=RepB.nf (C:=C) h;rw[z] at this;exact this,o⟩
  ·exact o.elim
 |fre ds b =>
  simp only[Cm.heldF,qas] at o
  split at o
  ·rename_i z
   obtain⟨p,xs,rfl,h1,h2,h3,h4,h5⟩:=h
   have sn:L2.Same N (upd N p (.lst xs)):=qan h4
   refine⟨upd N p (.lst xs),.lst ds,a.holdN h2 h1 h4 h3,⟨p,xs,rfl,.inl upd_same,?_⟩,o⟩
   have h6:=RepsB.adv (C:=C) (L2.Same.refl P) sn h5
   cases b with
   |true=>exact h6
   |false=>exact Reps.flat _ _ (by simpa using z) h6
  ·exact o.elim
theorem qlL {f:Str} {fi:Nat→Option Nat} {g:List Sl→RE ER} {D:Ends} {σ:L2.St} {H:Hp} (hf:∀c k,fi c=some k→FdOk C X f c k) (q:tS C (fun ρ=>(g ρ).out fun x=>heldF x fun d=>qlG ρ fun c fs r=>match fi c with
  |some k=>if k=fs.length then gdO (Nat.ble k 900) (.nx (.slf c (fs++[d])::r)) else .bad
  |none=>.bad) D σ H):sFld X.K (tVar 0) (tE C g) f D σ H:=by
 obtain⟨ρ,P,N,S,h⟩:=q
 refine⟨ρ,P,N,S,(h.res S.reg).mono fun x P1 N1 H1 _ a1 h1 v rv=>?_⟩
 obtain⟨N2,d,a2,r2,o⟩:=ERr.heldF a1 rv h1
 have S2:=S.adv a2
 unfold qlG at o
 split at o
 ·rename_i c fs r zz
  split at o
  ·rename_i hn
   dsimp only at o
   split at o
   ·rename_i k ek
    split at o
    ·rename_i hk
     rw[qas] at o
     split at o
     case isFalse=>exact o.elim
     rename_i hk9
     rw[Nat.ble_eq] at hk9
     obtain⟨o',z1,p,dx,xs,⟨ep,rfl⟩,z2,z3,z4,z5,z6,z7⟩:=S2.sl 0 _ rfl
     obtain⟨c1,c2,c3,c4⟩:=hf _ _ ek
     have lx:xs.length=fs.length:=z7.length
     have lf:(C.G.fl c)[xs.length]? = some f:=by rw[lx,←hk];exact c3
     have lt:fs.length<(C.G.fl c).length:=by
      have:=(List.getElem?_eq_some_iff.mp lf).1
      omega
     have few:((C.G.fl c).zip xs).length<1000:=by
      rw[List.length_zip];omega
     refine⟨_,z1,p,_,dx,_,rfl,z2,c1,c2,few,?_⟩
     rw[qhT lf (qeL c4 lf)]
     refine o _ P1 N2 _ ⟨⟨qak S2.reg.pH z3,qak S2.reg.nH z4,qak S2.reg.bH z5,S2.reg.rB,S2.reg.p0,S2.reg.pn,S2.reg.nw,S2.reg.dj⟩,by simpa using S2.len,fun j s ej=>?_,fun j l r ds1 c es c' e1 e2 e3 e4=>?_,S2.ad.sub fun j m b e=>by
      cases j with
      |zero=>cases e
      |succ j=>exact⟨rfl,_,_,by simpa using e⟩,⟨fun j l dss t o1 o2 a e1 e2 e3 e4 k1 k2=>by
      have un:∀{l:Nat} {t:Sl},(Sl.slf c (fs++[d])::r)[l]? = some t→t.isH=true→(Sl.slf c fs::r)[l]? = some t:=fun {l t} e ht=>by
       cases l with
       |zero=>simp at e;subst e;cases ht
       |succ l=>simpa using e
      have old:∀{l:Nat} {t:Sl} {o:Option V} {a:Addr},(Sl.slf c fs::r)[l]? = some t→σ[l]? = some o→Held (upd H1 p (.ins (C.G.ca c) dx ((C.G.fl c).zip (xs++[v])))) t o a→Held H1 t o a:=fun {l t o a} e e2 k=>by
       cases k with
       |own=>exact .own
       |rt=>exact .rt
       |it q m =>
        refine .it ?_ m
        obtain⟨o,g1,g2⟩:=S2.sl l _ e
        rw[g1] at e2;cases e2
        obtain⟨⟨us,q2⟩,_⟩:=g2.held .rt
        rwa [upd_ne (fun z=>by rw[z,z2] at q2;cases q2)] at q
      exact S2.ar.un j l dss t o1 o2 a (un e1 rfl) (un e2 k2.not) e3 e4 (old (un e1 rfl) e3 k1) (old (un e2 k2.not) e4 k2)⟩⟩ a2.pp a2.nn
     ·cases j with
      |zero =>
       simp at ej
       subst ej
       exact⟨_,z1,p,dx,xs++[v],⟨ep,rfl⟩,upd_same,z3,z4,z5,by simp only[List.length_append,List.length_cons,List.length_nil];omega,Reps.append z7 (Reps.one r2)⟩
      |succ j =>
       have ej':r[j]? = some s:=by simpa using ej
       obtain⟨o,y1,y2⟩:=S2.sl (j+1) s (by simpa using ej')
       refine⟨o,y1,?_⟩
       cases s with
       |non=>trivial
       |val d b=>exact y2
       |own es c =>
        obtain⟨q,ys,y3,y4,y5⟩:=y2
        have hr:q≠p:=fun er=>by rw[er,z2] at y4;cases y4
        exact⟨q,ys,y3,by rw[upd_ne hr];exact y4,y5⟩
       |slf c fs=>exact absurd ej' (qfH hn)
       |fxd d k=>exact y2
       |dct m c =>
        obtain⟨q,es,y3,y4,y5⟩:=y2
        have hr:q≠p:=fun er=>by rw[er,z2] at y4;cases y4
        exact⟨q,es,y3,by rw[upd_ne hr];exact y4,y5⟩
       |row dss =>
        have far:∀a,Held H1 (.row dss) o a→a≠p:=fun a k er=>by
         obtain⟨⟨us,q⟩,_⟩:=y2.held k
         rw[er,z2] at q;cases q
        obtain⟨q,ps,rfl,y4,y5,y6,y7,y8,y9⟩:=y2
        refine⟨q,ps,rfl,by rw[upd_ne (far q .rt)];exact y4,y5,y6,y7,?_,y9⟩
        exact y8.sub fun a m ds ⟨us,g1,g2⟩=>⟨us,by rw[upd_ne (far a (.it y4 m))];exact g1,g2⟩
     ·cases j with
      |zero=>simp at e1
      |succ j =>
       cases l with
       |zero=>simp at e2
       |succ l=>exact S2.ap (j+1) (l+1) r ds1 c es c' (by simpa using e1) (by simpa using e2) e3 e4
    ·exact o.elim
   ·exact o.elim
  ·exact o.elim
 ·exact o.elim
theorem qgQ {P N H H0:Hp} (r:Reg C P N H):∀{es:List ER} {vs:List V},ERs C P N H H0 es vs→Reps C.G P (SqL C.G.K H) (es.map ER.d) vs
 |[],_,h=>by cases h;rfl
 |e::es,_,⟨v,u,ex,h1,h2⟩=>by
  subst ex
  refine⟨v,u,rfl,?_,qgQ r h2⟩
  have w:=h1.w r
  have mm:=fun a xs=>LNb.seq (K:=C.G.K) (b:=e.b) r.pH r.nH r.rH a xs
  cases q:e.d with
  |lst ds =>
   rw[q] at w
   obtain⟨p,xs,rfl,h3,h4⟩:=w
   exact⟨p,xs,rfl,h3,Reps.mono (L2.Same.refl _) _ _ mm h4⟩
  |non=>rw[q] at w;exact Rep.mono (L2.Same.refl _) _ _ mm w
  |bl _=>rw[q] at w;exact Rep.mono (L2.Same.refl _) _ _ mm w
  |int _=>rw[q] at w;exact Rep.mono (L2.Same.refl _) _ _ mm w
  |str _=>rw[q] at w;exact Rep.mono (L2.Same.refl _) _ _ mm w
  |tup _=>rw[q] at w;exact Rep.mono (L2.Same.refl _) _ _ mm w
  |ins _ _=>rw[q] at w;exact Rep.mono (L2.Same.refl _) _ _ mm w
  |exc _ _=>rw[q] at w;exact Rep.mono (L2.Same.refl _) _ _ mm w
theorem qoz {P N H H0:Hp} {σ:L2.St} {c n:Nat} {g:List Cm.D→RE (List Cm.D)} {Q:VK} {es:List ER} {vs:List V} (r:Reg C P N H) (hv:ERs C P N H H0 es vs) (hn:es.length=n)
  (h:res C σ P N H ((g (es.map ER.d)).bind fun fs=>.ok (.val (.ins c fs) true)) (kE C H0 Q)):∀x dx,H x=none→H dx=none→dx≠x →
  spI C.G c n g (.ref x::vs) (upd (upd H dx (.own x)) x (.ins (C.G.ca c) dx [])) (fun v H2=>v=.non∧Q (.ref x) H2) (fun cls d H'=>C.W cls d σ H'):=by
 intro x dx hx hdx _
 refine⟨x,dx,H,P,H,es.map ER.d,vs,rfl,rfl,hx,hdx,r.pH,L2.Same.refl _,qgQ r hv,by rw[List.length_map,hn],?_⟩
 cases e:g (es.map ER.d) with
 |bad=>rw[e] at h;exact h.elim
 |ok fs =>
  rw[e] at h
  intro H' P' hh pp pH pn hr
  exact⟨rfl,h P' N H' ⟨hh,pp,L2.Same.refl _,pH,r.nH.trans hh,pn,fun _ q=>.inl q,fun _ q _=>q⟩ _ hr⟩
 |exc c' fs =>
  rw[e] at h
  intro d H' P' N' ad hx
  refine h d _ _ _ (ad.back r.nH) ?_
  have mono:∀a xs,LNb C.G.K P' N' H true a xs→LNb C.G.K P' (un2 N N' H') C.R true a xs:=fun a xs q=>by
   rcases q with q | ⟨hb,q⟩
   ·exact .inl (qe5 ad.nH _ _ q)
   ·cases hb
  rcases hx with hx | ⟨dd,f,v,h1,h2,h3,h4⟩
  ·exact .inl hx
  ·exact .inr ⟨dd,f,v,h1,h2,h3,Rep.mono (L2.Same.refl _) _ _ mono h4⟩
theorem qgx {k:Nat} {f K0:Addr} {fd:FuncData} {ps:List Str} {sp:Sp} {W:WX} {pins:List (Addr × Obj)} {σ:L2.St} {H:Hp} {s:Shared} {Q:VK} {us:List Value} {vs:List V} (M:Mk X.K K0 f) (F:FnOk X.prog X.w X.K X.mg X.base (L2.CX X.prog X.w) k f fd ps sp) (hr:Room (k+1) X.A) (hb:Binds X.K fd ps [])
  (tk:Takes X W) (I:Inv X pins σ H s) (r:Vals vs us)
  (h:∀x dx,H x=none→H dx=none→dx≠x→sp (.ref x::vs) (upd (upd H dx (.own x)) x (.ins K0 dx [])) (fun v H2=>v=.non∧Q (.ref x) H2) (fun cls d H'=>W cls d σ H')) :
  wpAny (model X.prog X.w) X.A (call (.ref K0) us) (EP X pins σ Q) X.xe s:=by
 have lt:=Nat.lt_succ_self s.heap.objs.size
 have hq:=h _ _ (I.hok.fresh (Nat.le_of_lt lt)) (I.hok.fresh (Nat.le_refl _)) (Nat.ne_of_lt lt)
 have J:=Inv.made (C:=K0) I
 have rr:Vals (V.ref (s.heap.objs.size+1)::vs) (Value.ref (s.heap.objs.size+1)::us):=.cons rfl r
 have hl:(Value.ref (s.heap.objs.size+1)::us).length=ps.length:=by
  rw[←rr.length]
  exact F.len _ _ _ _ hq
 have hb':=hb _ (Value.ref (s.heap.objs.size+1)::us) J.kIn (by rw[List.append_nil];exact hl)
 rw[List.append_nil] at hb'
 refine wpAny_call (make_map (f:=f) I.kIn M.makes M.init (beq_iff_eq.mp M.fn) (codeAny_mono (F.run _ X.stack _ _ ⟨Value.ref (s.heap.objs.size+1)::us,[]⟩ _ _ _ _ (hr.make K0 us []) (J.env0.make K0 us []) hb' rr hq) fun res s' hq'=>?_))
 cases res with
 |error e=>exact tk e s' (XE.of_call J (fun cls d H' q=>q) hq')
 |ok fl =>
  cases fl with
  |ret u =>
   obtain⟨v,H',J2,rv,ev,q3⟩:=J.after hq'
   subst ev
   exact⟨rv,V.ref _,H',J2,rfl,q3⟩
  |next=>exact False.elim hq'
  |brk=>exact False.elim hq'
  |cont=>exact False.elim hq'
structure Mk0 (K:PySem.W.Frag) (c:Addr):Prop where
 makes:PySem.W.makesIn K c=true
 init:PySem.W.findIn K (.ref c) "__init__" = some (some (.builtin "object.__init__"))
 kp:PySem.W.keepIn K (.ref c)=true
theorem qja {K0:Addr} {pins:List (Addr × Obj)} {σ:L2.St} {H:Hp} {s:Shared} {Q:VK} (M:Mk0 X.K K0) (I:Inv X pins σ H s)
  (h:∀x dx,H x=none→H dx=none→dx≠x→Q (.ref x) (upd (upd H dx (.own x)) x (.ins K0 dx []))) :
  wpAny (model X.prog X.w) X.A (call (.ref K0) []) (EP X pins σ Q) X.xe s:=by
 have lt:=Nat.lt_succ_self s.heap.objs.size
 have hq:=h _ _ (I.hok.fresh (Nat.le_of_lt lt)) (I.hok.fresh (Nat.le_refl _)) (Nat.ne_of_lt lt)
 have J:=Inv.made (C:=K0) I
 have Y:=PySem.W.makes_of (M:=model X.prog X.w) I.kIn M.makes
 refine wpAny_call (make_map0 I.kIn M.makes M.init (fun self=>PySem.W.Looks.of_pure (PySem.W.oi_bind self)) ?_)
 have hg:((s.heap.push PySem.W.emptyDict).push (PySem.W.instObj K0 s.heap.objs.size)).get? (s.heap.objs.size+1)=some (PySem.W.instObj K0 s.heap.objs.size):=by
  have:=Heap.get?_push_size (s.heap.push PySem.W.emptyDict) (o:=PySem.W.instObj K0 s.heap.objs.size) rfl
  rwa [Heap.size_push] at this
 have t1:PySem.W.Looks (model X.prog X.w) ((s.heap.push PySem.W.emptyDict).push (PySem.W.instObj K0 s.heap.objs.size)) (typeOf (.ref (s.heap.objs.size+1))) (.ref K0):=(PySem.W.Looks.ld hg).andThen .now
 have t2:PySem.W.Looks (model X.prog X.w) ((s.heap.push PySem.W.emptyDict).push (PySem.W.instObj K0 s.heap.objs.size)) (isInstance (.ref (s.heap.objs.size+1)) (.type "object")) true:=t1.andThen (Y.top.keeps fun b o e=>Heap.get?_push_of_some _ (Heap.get?_push_of_some _ e))
 refine codeAny_call_builtin PySem.W.oi_plain PySem.W.entry_oi (@PySem.W.check_slot (model X.prog X.w) _ _ _ "object.__init__" "object" "__init__" (.ref (s.heap.objs.size+1)) [] [] _ PySem.W.oi_kind PySem.W.oi_split t2 (PySem.W.oi_args (.ref (s.heap.objs.size+1))) ?_)
 rw[PySem.W.oi_run]
 exact wpAny_pure (And.intro rfl ⟨V.ref _,_,J,rfl,hq⟩)
structure NwOk (C:Ctx) (X:Cx) (x:Str) (c n:Nat) (g:List D→RE (List D)):Prop where
 ex:(∃k f fd ps,Mk X.K (C.G.ca c) f∧FnOk X.prog X.w X.K X.mg X.base (L2.CX X.prog X.w) k f fd ps (spI C.G c n g)∧Room (k+1) X.A∧X.mg x=some (.ref (C.G.ca c))∧Binds X.K fd ps []) ∨
  (n=0∧g []=.ok []∧Mk0 X.K (C.G.ca c)∧C.G.fl c=[]∧X.mg x=some (.ref (C.G.ca c)))
theorem qmU {x:Str} {c n:Nat} {g':List Cm.D→RE (List Cm.D)} {g:List Sl→RE (List ER)} {es:List Expr} {p pos:Pos} (nw:NwOk C X x c n g') (hg:Gl X x)
  (tk:Takes X C.W) (ha:PA X es (tA C g)) (hdb:(x == ("__debug__" : Str))=false) (hs:qh3 X es) (hl:∀ρ r,g ρ=.ok r→r.length=n) (h0:es=[]→∀ρ,g ρ=.ok []) (hn:es.length=n) :
  PE X (.Call (.Name x p) es [] pos) (tE C fun ρ=>(g ρ).bind fun r=>(g' (r.map ER.d)).bind fun fs=>.ok (.val (.ins c fs) true)):=by
 rcases nw.ex with⟨k,f,fd,ps,M,F,hr,hm,hb⟩ | ⟨rfl,hg0,M,hfl,hm⟩
 case inr =>
  by_cases hes:es=[]
  ·subst hes
   refine⟨fun pins s σ H Q I h=>wpAny_Call_Name_kw (ld_glob I hg hm ?_ hdb)⟩
   refine PySem.W.callWith_K0 I.kIn M.kp ?_
   refine qja M I fun a dx ha hdx hne=>?_
   obtain⟨ρ,P,N,S,h⟩:=h
   dsimp only at h
   rw[h0 rfl ρ] at h
   simp only[RE.bind_ok,List.map_nil,hg0] at h
   have r:=S.reg
   have n1:∀{Y:Hp} {b:Addr},L2.Same Y H→H b=none→Y b=none:=fun {Y b} hs hb=>by
    cases e:Y b with
    |none=>rfl
    |some o=>have:=hs _ _ e;rw[hb] at this;cases this
   have pa:=n1 r.pH ha
   have sH:L2.Same H (upd (upd H dx (.own a)) a (.ins (C.G.ca c) dx [])):=(qan hdx).trans (qan (by rw[upd_ne (Ne.symm hne)];exact ha))
   refine h (upd P a (.ins (C.G.ca c) dx [])) N _ ⟨sH,qan pa,L2.Same.refl _,fun b o e=>?_,r.nH.trans sH,fun b hb=>?_,fun _ q=>.inl q,fun _ q _=>q⟩ _ ?_
   ·by_cases hba:b=a
    ·subst hba
     rw[upd_same] at e ⊢
     exact e
    ·rw[upd_ne hba] at e
     exact sH _ _ (r.pH _ _ e)
   ·by_cases hba:b=a
    ·subst hba;exact .inr ha
    ·rw[upd_ne hba] at hb;exact .inl hb
   ·refine⟨a,dx,[],rfl,?_,by rw[hfl];rfl,rfl⟩
    rw[hfl]
    exact upd_same
  ·exact absurd (List.length_eq_zero_iff.mp hn) hes
 have body:PE X (.Call (.Name x p) es [] pos) (fun σ H Q=>tA C g σ H fun vs H1=>∀x dx,H1 x=none→H1 dx=none→dx≠x →
   spI C.G c n g' (.ref x::vs) (upd (upd H1 dx (.own x)) x (.ins (C.G.ca c) dx [])) (fun v H2=>v=.non∧Q (.ref x) H2) (fun cls d H'=>C.W cls d σ H')):=by
  cases es with
  |nil =>
   refine⟨fun pins s σ H Q I h=>wpAny_Call_Name_kw (ld_glob I hg hm ?_ hdb)⟩
   refine PySem.W.callWith_K0 I.kIn M.kp ?_
   obtain⟨ρ,P,N,S,h⟩:=h
   rw[h0 rfl ρ] at h
   exact qgx (us:=[]) M F hr hb tk I .nil (h.now S.reg [] rfl)
  |cons e es =>
   refine⟨fun pins s σ H Q I h=>wpAny_Call_Name_kw (ld_glob I hg hm ?_ hdb)⟩
   refine PySem.W.callWith_K (h₀:=X.base) I.ok.mod.kin M.kp (thn (ha.run pos pins s σ H _ I h) fun us s1 ⟨vs,H1,I1,r,q⟩=>⟨I1.kIn,?_⟩) (hs.1 _ _ rfl) (hs.2 _ _ _ rfl)
   exact qgx M F hr hb tk I1 r q
 refine qad body fun σ H Q q=>?_
 obtain⟨ρ,P,N,S,h⟩:=q
 exact⟨ρ,P,N,S,h.bind.mono fun r P1 N1 H1 e a1 h1 vs rv=>qoz (S.adv a1).reg rv (hl _ _ e) h1⟩
end
section
variable {prog:Program} {w:World} {A:Around} {E:Value→Shared→Prop} {s:Shared} {l:Addr} {its:List Value} {ns:List Int} {Q:Value→Shared→Prop} {d:Value}
theorem qls (hh:A.handled=none) (hl:s.heap.IsList l its.toArray) (hi:IntsAre its ns)
  (h0:ns=[]→∀h' tk,(∀b o,s.heap.get? b=some o→h'.get? b=some o)→Q d { s with heap:=h',toks:=tk })
  (h:∀h' tk M t',(∀b o,s.heap.get? b=some o→h'.get? b=some o)→M∈ns→(∀a,a∈ns→a≤M)→Q (.int M t') { s with heap:=h',toks:=tk }):wpAny (model prog w) A (call (.builtin "max") [.ref l] [(Str.ofString "default",d)]) Q E s:=by
 obtain⟨xs,e⟩:=hi.allInts.items
 have hn:numsOf (intItems xs).toList=ns:=by rw[←e];exact hi.numsOf
 rw[nums_intItems] at hn
 subst hn
 rw[e] at hl
 have sz:(intItems xs).size=xs.size:=by simp[intItems]
 refine call_max_walkD (PySem.W.iter_listW (A:=A.in1) hh hl fun s₂ e2 W st hfp hw hk=>?_)
 refine⟨_,_,_,_,_,_,_,s.heap,(fun i j=>decide (numAt xs i>numAt xs j)),rfl,W,st,hfp,hw,hk,fun hz s' m=>?_,fun hp=>⟨fun i j vi vj s Q E _ hi hj hq=>CmpOf.ints_gt (numAt xs) (fun _ _=>intItems_at) i j vi vj s Q E hi hj hq,fun v s' hP m=>?_⟩⟩
 ·obtain⟨h',tk,rfl,hk'⟩:=PySem.W.moved_old e2 rfl m
  exact h0 (List.eq_nil_of_length_eq_zero (by rw[List.length_map,Array.length_toList];omega)) h' tk hk'
 ·obtain⟨h',tk,rfl,hk'⟩:=PySem.W.moved_old e2 rfl m
  obtain⟨t,rfl⟩:=intItems_at hP
  obtain⟨h1,h2⟩:=argBest_gt (numAt xs) ((intItems xs).size - 1)
  refine h h' tk _ t hk' ?_ fun a ha=>?_
  ·rw[numAt_eq];exact PySem.getD_mem (by rw[List.length_map,Array.length_toList];omega)
  ·obtain⟨j,hj,rfl⟩:=mem_getD ha
   rw[List.length_map,Array.length_toList] at hj
   rw[←numAt_eq];exact h2 j (by omega)
theorem qlv (hh:A.handled=none) (hl:s.heap.IsList l its.toArray) (hi:IntsAre its ns)
  (h0:ns=[]→∀h' tk,(∀b o,s.heap.get? b=some o→h'.get? b=some o)→Q d { s with heap:=h',toks:=tk })
  (h:∀h' tk M t',(∀b o,s.heap.get? b=some o→h'.get? b=some o)→M∈ns→(∀a,a∈ns→M≤a)→Q (.int M t') { s with heap:=h',toks:=tk }):wpAny (model prog w) A (call (.builtin "min") [.ref l] [(Str.ofString "default",d)]) Q E s:=by
 obtain⟨xs,e⟩:=hi.allInts.items
 have hn:numsOf (intItems xs).toList=ns:=by rw[←e];exact hi.numsOf
 rw[nums_intItems] at hn
 subst hn
 rw[e] at hl
 have sz:(intItems xs).size=xs.size:=by simp[intItems]
 refine call_min_walkD (PySem.W.iter_listW (A:=A.in1) hh hl fun s₂ e2 W st hfp hw hk=>?_)
 refine⟨_,_,_,_,_,_,_,s.heap,(fun i j=>decide (numAt xs i<numAt xs j)),rfl,W,st,hfp,hw,hk,fun hz s' m=>?_,fun hp=>⟨fun i j vi vj s Q E _ hi hj hq=>CmpOf.ints_lt (numAt xs) (fun _ _=>intItems_at) i j vi vj s Q E hi hj hq,fun v s' hP m=>?_⟩⟩
 ·obtain⟨h',tk,rfl,hk'⟩:=PySem.W.moved_old e2 rfl m
  exact h0 (List.eq_nil_of_length_eq_zero (by rw[List.length_map,Array.length_toList];omega)) h' tk hk'
 ·obtain⟨h',tk,rfl,hk'⟩:=PySem.W.moved_old e2 rfl m
  obtain⟨t,rfl⟩:=intItems_at hP
  obtain⟨h1,h2⟩:=argBest_lt (numAt xs) ((intItems xs).size - 1)
  refine h h' tk _ t hk' ?_ fun a ha=>?_
  ·rw[numAt_eq];exact PySem.getD_mem (by rw[List.length_map,Array.length_toList];omega)
  ·obtain⟨j,hj,rfl⟩:=mem_getD ha
   rw[List.length_map,Array.length_toList] at hj
   rw[←numAt_eq];exact h2 j (by omega)
end
def qr6 (k:Bool) (ns:List Int) (d m:Int):Prop:=(ns=[]∧m=d)∨(m∈ns∧∀y∈ns,if k=true then y≤m else m≤y)
def rMm (K:PySem.W.Frag) (k:Bool):List V→List V→Hp→VK→Prop:=fun vs zs H Q=>∃(a:Addr) (ns:List Int) (d:Int),vs=[V.ref a]∧zs=[V.int d]∧SqL K H a (ns.map V.int)∧∀m,qr6 k ns d m→Q (.int m) H
def mmN (k:Bool):String:=if k=true then "max" else "min"
theorem qmr {x:V} {ws:List Value} (r:Vals [x] ws):∃w,ws=[w]∧RelV x w:=by
 cases r with
 |cons r t=>cases t;exact⟨_,rfl,r⟩
section
variable {C:Ctx} {X:Cx}
theorem qrI (hc:X.calm=true):∀k,CallRK X (.builtin (mmN k)) [Str.ofString "default"] (rMm X.K k)
 |true=>by
  intro pins s σ H vs zs us ws Q I r rz h
  obtain⟨a,ns,d,rfl,rfl,hs,q⟩:=h
  obtain⟨its,rv,hl,_⟩:=I.list hs
  obtain rfl:=Vals.ref1 r
  obtain⟨w1,rfl,rw1⟩:=qmr rz
  exact qls (I.ok.hd hc) hl.isList rv.ints (fun e h' tk hk=>⟨.int d,H,I.kept hk,rw1,q d (.inl ⟨e,rfl⟩)⟩) fun h' tk m t' hk h1 h2=>⟨.int _,H,I.kept hk,⟨_,rfl⟩,q m (.inr ⟨h1,h2⟩)⟩
 |false=>by
  intro pins s σ H vs zs us ws Q I r rz h
  obtain⟨a,ns,d,rfl,rfl,hs,q⟩:=h
  obtain⟨its,rv,hl,_⟩:=I.list hs
  obtain rfl:=Vals.ref1 r
  obtain⟨w1,rfl,rw1⟩:=qmr rz
  exact qlv (I.ok.hd hc) hl.isList rv.ints (fun e h' tk hk=>⟨.int d,H,I.kept hk,rw1,q d (.inl ⟨e,rfl⟩)⟩) fun h' tk m t' hk h1 h2=>⟨.int _,H,I.kept hk,⟨_,rfl⟩,q m (.inr ⟨h1,fun y hy=>h2 y hy⟩)⟩
abbrev gMm (k:Bool) (go g:List Sl→RE ER):List Sl→RE ER:=fun ρ=>(go ρ).bind fun x=>(g ρ).bind fun y=>qpI k x.d y.d
theorem qrw {k:Bool} {ns:List Int} {d m:Int} (h:qr6 k ns d m):m=qpT k ns d:=by
 rcases h with⟨rfl,rfl⟩ | ⟨h1,h2⟩
 ·rfl
 ·cases ns with
  |nil=>cases h1
  |cons n ns =>
   cases k with
   |true =>
    obtain⟨z1,z2⟩:=qg1 n ns
    have a:=h2 _ z1
    have b:=z2 _ h1
    simp only[if_true] at a
    show m=qib (n::ns)
    omega
   |false =>
    obtain⟨z1,z2⟩:=qg3 n ns
    have a:=h2 _ z1
    have b:=z2 _ h1
    simp only[Bool.false_eq_true,if_false] at a
    show m=qh4 (n::ns)
    omega
theorem qo7 {k:Bool} {go g:List Sl→RE ER} {σ:L2.St} {H:Hp} {Q:VK} (h:tE C (gMm k go g) σ H Q):tCKw (rMm C.G.K k) (tCons (tE C go) tNil) (tCons (tE C g) tNil) σ H Q:=by
 obtain⟨ρ,P,N,S,h⟩:=h
 refine⟨ρ,P,N,S,h.bind.mono fun x P1 N1 H1 _ a1 h1 v rv=>?_⟩
 have r1:=(S.adv a1).reg
 refine⟨ρ,P1,N1,S.adv a1,(res.bind h1).mono fun y P2 N2 H2 _ a2 h2 u ru=>?_⟩
 have r2:=(S.adv (a1.trans a2)).reg
 unfold qpI at h2
 split at h2
 ·rename_i ds hd
  have w:=rv.w r1
  rw[hd] at w
  obtain⟨p,xs,rfl,z1,z2⟩:=w
  split at h2
  ·rename_i ns q2
   have e:=qaN q2 z2
   subst e
   split at h2
   ·rename_i d hy
    have wy:=ru.w r2
    rw[hy] at wy
    cases wy.int
    exact⟨p,ns,d,rfl,rfl,L2.Same.seq a2.hh z1,fun m hm=>by rw[qrw hm];exact h2.val r2 rfl⟩
   ·exact h2.elim
  ·exact h2.elim
 ·exact h2.elim
theorem qnm:∀k,bootBuiltins (mmN k:Str)=some (.builtin (mmN k))
 |true=>by decide +kernel
 |false=>by decide +kernel
theorem qmF:∀k,(mmN k:Str) ≠ "__name__" ∧ ((mmN k:Str) == ("__debug__" : Str))=false:=by intro k;cases k<;>decide
theorem qqh {k:Bool} {a d:Expr} {go g:List Sl→RE ER} {p pos kp:Pos} (hK:X.K=C.G.K) (hc:X.calm=true) (hg:Gl X (mmN k)) (hm:X.mg (mmN k)=none) (ha:PE X a (tE C go)) (hd:PE X d (tE C g)) (hs:starEach [a] X.env=[(false,eval a X.env)]) :
  PE X (.Call (.Name (mmN k) p) [a] [⟨some "default",d,kp⟩] pos) (tE C (gMm k go g)):=
 qad (pe_callBK (qrI hc k) hg hm (qnm k) (pa_cons ha pa_nil (by rw[hs];rfl)) (pk_cons hd pk_nil) (qmF k).1 (qmF k).2 (by rw[hs];rfl) (by rw[hs];rfl) rfl rfl rfl) fun σ H Q q=>by rw[hK];exact qo7 q
end
def qsp (G:Glo) (K:PySem.W.Frag) (a:Addr) (s:List Nat) (o:Option Cm.D):Prop:=
 match o with
 |none=>PySem.W.nsIn K a (qar s)=some none
 |some d=>∃u v,PySem.W.nsIn K a (qar s)=some (some u)∧RelV v u∧∀P N R,Rep G P (LNb G.K P N R true) d v
def qo2 (G:Glo) (K:PySem.W.Frag) (w:World) (mg:Str→Option Value) (x:Str) (t:List (List Nat × Option Cm.D)):Prop:=
 ∃a es n,mg x=some (.ref a)∧KDict K w a es n∧∀s o,t.lookup s=some o→qsp G K a s o
section
variable {C:Ctx} {X:Cx}
theorem qns {e:Expr} {x:Str} {g:List Sl→RE ER} {t:List (List Nat × Option Cm.D)} {p pos:Pos} {n:Bool} {op:CmpOp} (hop:op=(match n with | true=>.In | false=>.NotIn)) (hg:Gl X x) (hx:(x == ("__debug__" : Str))=false) (hd:qo2 C.G X.K X.w X.mg x t) (he:PE X e (tE C g)) :
  PE X (.Compare e [op] [.Name x p] pos) (tE C fun ρ=>(g ρ).bind fun z=>qly t n z.d):=by
 obtain⟨a,es,m,h1,h2,h3⟩:=hd
 have pn:PE X (.Name x p) (tC (.ref a)):=pe_glob hg h1 rfl hx
 have key:∀{P N H:Hp} {z:ER} {v:V} {H0:Hp} {σ:L2.St} {Q:VK} {H1:Hp},Reg C P N H→ERr C P N H H1 z v→res C σ P N H (qly t n z.d) (kE C H0 Q)→∃(s:Str) (r:Option Value),v=.str s∧PySem.W.nsIn X.K a s=some r∧Q (.bl (r.isSome == n)) H:=fun {P N H z v H0 σ Q H1} r hz h=>by
  unfold qly at h
  split at h
  ·rename_i s q
   have w:=hz.w r
   rw[q] at w
   split at h
   ·rename_i o eo
    have:=h3 s o eo
    cases o with
    |none=>exact⟨_,none,w.str,this,h.val r rfl⟩
    |some d =>
     obtain⟨u,v',e1,_,_⟩:=this
     exact⟨_,some u,w.str,e1,h.val r rfl⟩
   ·exact h.elim
  ·exact h.elim
 cases n with
 |true =>
  subst hop
  refine qad (pe_cmpR (op_in_kd h2) he pn rfl) fun σ H Q q=>?_
  obtain⟨ρ,P,N,S,h⟩:=q
  refine⟨ρ,P,N,S,h.bind.mono fun z P1 N1 H1 _ a1 h1 v rv=>?_⟩
  obtain⟨s,r,e1,e2,e3⟩:=key (S.adv a1).reg rv h1
  exact⟨s,r,e1,rfl,e2,by simpa using e3⟩
 |false =>
  subst hop
  refine qad (pe_cmpR (op_notIn_kd h2) he pn rfl) fun σ H Q q=>?_
  obtain⟨ρ,P,N,S,h⟩:=q
  refine⟨ρ,P,N,S,h.bind.mono fun z P1 N1 H1 _ a1 h1 v rv=>?_⟩
  obtain⟨s,r,e1,e2,e3⟩:=key (S.adv a1).reg rv h1
  exact⟨s,r,e1,rfl,e2,by simpa using e3⟩
theorem qnS {e:Expr} {x:Str} {g:List Sl→RE ER} {t:List (List Nat × Option Cm.D)} {p pos:Pos} (hg:Gl X x) (hx:(x == ("__debug__" : Str))=false) (hs:PlainIx e) (hd:qo2 C.G X.K X.w X.mg x t) (he:PE X e (tE C g)) :
  PE X (.Subscript (.Name x p) e pos) (tE C fun ρ=>(g ρ).bind fun z=>qnB t z.d):=by
 obtain⟨a,es,m,h1,h2,h3⟩:=hd
 refine qad (pe_ix ix_kdict (pe_glob hg h1 rfl hx:PE X (.Name x p) (tC (.ref a))) he hs) fun σ H Q q=>?_
 obtain⟨ρ,P,N,S,h⟩:=q
 refine⟨ρ,P,N,S,h.bind.mono fun z P1 N1 H1 _ a1 h1 v rv=>?_⟩
 have r:=(S.adv a1).reg
 unfold qnB at h1
 split at h1
 ·rename_i s q
  have w:=rv.w r
  rw[q] at w
  split at h1
  ·rename_i d eo
   obtain⟨u,v',e1,e2,e3⟩:=h3 s _ eo
   exact⟨a,qar s,v',rfl,w.str,⟨es,m,u,h2.at_,h2.lit,e1,e2⟩,h1.val r (e3 _ _ _)⟩
  ·exact h1.elim
 ·exact h1.elim
end
end Cm
namespace Cm
open PySem PySem.Spec PyProof.Rows L2
theorem qcH:∀x y:List Int,qcC x y=true→qcC y x=false
 |[],[],h=>by cases h
 |[],_::_,_=>rfl
 |_::_,[],h=>by cases h
 |a::as,b::bs,h=>by
  unfold qcC at h ⊢
  by_cases e:a=b
  ·rw[if_pos e] at h
   rw[if_pos e.symm]
   exact qcH as bs h
  ·rw[if_neg e] at h
   rw[if_neg fun q=>e q.symm]
   have:=of_decide_eq_true h
   exact decide_eq_false (by omega)
theorem qgX:∀x y z:List Int,qcC y x=false→qcC z y=false→qcC z x=false
 |[],y,z,h1,h2=>by
  cases y with
  |nil=>exact h2
  |cons b bs=>cases z with
   |nil=>cases h2
   |cons c cs=>rfl
 |a::as,[],z,h1,h2=>by cases h1
 |a::as,b::bs,[],h1,h2=>by cases h2
 |a::as,b::bs,c::cs,h1,h2=>by
  unfold qcC at h1 h2 ⊢
  by_cases e1:b=a
  ·rw[if_pos e1] at h1
   by_cases e2:c=b
   ·rw[if_pos e2] at h2
    rw[if_pos (e2.trans e1)]
    exact qgX as bs cs h1 h2
   ·rw[if_neg e2] at h2
    rw[if_neg (by omega)]
    have:=of_decide_eq_false h2
    exact decide_eq_false (by omega)
  ·rw[if_neg e1] at h1
   have h1:=of_decide_eq_false h1
   by_cases e2:c=b
   ·rw[if_neg (by omega)]
    exact decide_eq_false (by omega)
   ·rw[if_neg e2] at h2
    have h2:=of_decide_eq_false h2
    rw[if_neg (by omega)]
    exact decide_eq_false (by omega)
theorem qef (e r:Nat→Bool) (fin:Bool) (f:Nat→Nat):∀l:List Nat,SeqAt.firstLt e r fin (l.map f)=SeqAt.firstLt (fun j=>e (f j)) (fun j=>r (f j)) fin l
 |[]=>rfl
 |j::l=>by
  show(if e (f j)=true then _ else _)=(if e (f j)=true then _ else _)
  rw[qef e r fin f l]
theorem qd4:∀ns ms:List Int,SeqAt.firstLt (fun j=>ns.getD j 0 == ms.getD j 0) (fun j=>decide (ns.getD j 0<ms.getD j 0)) (decide (ns.length<ms.length)) (List.range (min ns.length ms.length))=qcC ns ms
 |[],[]=>rfl
 |[],m::ms=>by simp[SeqAt.firstLt,qcC]
 |n::ns,[]=>by simp[SeqAt.firstLt,qcC]
 |n::ns,m::ms=>by
  have e1:min (n::ns).length (m::ms).length=min ns.length ms.length+1:=by simp only[List.length_cons];omega
  rw[e1,List.range_succ_eq_map]
  show(if (n == m)=true then SeqAt.firstLt _ _ _ ((List.range (min ns.length ms.length)).map Nat.succ) else decide (n<m))=_
  rw[qef]
  unfold qcC
  have ih:=qd4 ns ms
  have e2:decide ((n::ns).length<(m::ms).length)=decide (ns.length<ms.length):=by simp
  rw[e2]
  by_cases e:n=m
  ·rw[if_pos (by simpa using e),if_pos e]
   exact ih
  ·rw[if_neg (by simpa using e),if_neg e]
def IsLI (h:Heap) (v:Value) (ns:List Int):Prop:=∃a its,v=.ref a∧h.IsList a its∧IntsAre its.toList ns
section
variable {prog:Program} {w:World} {A:Around} {s:Shared}
theorem qd1:∀{vs:List Value} {ns:List Int},IntsAre vs ns→∀(j:Nat) (h:j<vs.length),∃t,vs[j]=.int (ns.getD j 0) t
 |_,_,.nil,j,h=>by simp at h
 |_,_,.cons n t r,0,_=>⟨t,rfl⟩
 |_,_,.cons n t r,j+1,h=>by
  obtain⟨u,e⟩:=qd1 r j (by simpa using h)
  exact⟨u,by simpa using e⟩
theorem qpA {vs:List Value} {k:Value→List Int} (hu:A.units<cLine) (hp:∀v∈vs,IsLI s.heap v (k v)):SrtO.Cmp prog w A s oneType' (fun p=>p.1∈vs) (SrtO.lt2 fun v u=>qcC (k v) (k u)):=by
 intro p q hm hm'
 obtain⟨a,its,e1,l1,i1⟩:=hp _ hm
 obtain⟨b,its2,e2,l2,i2⟩:=hp _ hm'
 show wpAny (model prog w) A (keyLt' oneType' p.1 q.1) (fun r s'=>s'=s∧r=qcC (k p.1) (k q.1)) (fun _ _=>False) s
 generalize k p.1=ns at i1 ⊢
 generalize k q.1=ms at i2 ⊢
 rw[e1,e2,keyLt'_oneType,oneLt'_eq]
 simp only[if_true]
 refine wpAny_bind (wpAny_cRoomFor hu ?_)
 have n1:its.size=ns.length:=by have:=i1.length;simpa using this
 have n2:its2.size=ms.length:=by have:=i2.length;simpa using this
 refine wpAny_bind (wpAny_callSpecialIfBound?_slot l1.typeIs F.slot_list_lt (SeqAt.call_list_lt (e:=fun j=>ns.getD j 0 == ms.getD j 0) (r:=fun j=>decide (ns.getD j 0<ms.getD j 0)) l1 l2 (fun j h1 h2=>?_) (fun j h1 h2 _=>?_) ?_))
 ·obtain⟨t,q1⟩:=qd1 i1 j (by simpa using h1)
  obtain⟨u,q2⟩:=qd1 i2 j (by simpa using h2)
  rw[show its[j]=_ from q1,show its2[j]=_ from q2]
  exact SeqAt.EqAt.int_int _ t _ u
 ·obtain⟨t,q1⟩:=qd1 i1 j (by simpa using h1)
  obtain⟨u,q2⟩:=qd1 i2 j (by simpa using h2)
  rw[show its[j]=_ from q1,show its2[j]=_ from q2]
  exact fun prog w E Q h=>HT.rcLt_int _ s _ t _ u prog w E Q h
 ·rw[n1,n2,qd4]
  exact wpAny_truthy_bool ⟨rfl,rfl⟩
theorem qgL {a:Addr} {vs:List Value} {k:Value→List Int} (hu:A.units<cLine) (h2:2≤vs.length) (hp:∀v∈vs,IsLI s.heap v (k v)) (ha:∀b,Value.ref b∈vs→b≠a):SrtO.SortableO prog w A s a vs fun v u=>qcC (k v) (k u):=by
 intro h' keep
 have hp':∀v∈vs,IsLI h' v (k v):=fun v hm=>by
  obtain⟨b,its,e,⟨o,ho,hc,n,hd⟩,hi⟩:=hp v hm
  subst e
  exact⟨b,its,rfl,⟨o,keep b o (ha b hm) ho,hc,n,hd⟩,hi⟩
 refine⟨oneType',fun Q E hq=>?_,qpA (s:={ s with heap:=h' }) hu hp'⟩
 refine PySem.W.kas_kind (T:=.type "list") h2 (fun v hv=>?_) (by decide) (by decide) hq
 obtain⟨b,its,e,⟨o,ho,hc,n,hd⟩,hi⟩:=hp' v hv
 subst e
 exact fun A Q E s k q=>wpAny_typeOf_ref (k _ _ ho) (by rw[hc];exact q)
theorem qk4 (k:Value→List Int):SrtO.Swo fun v u=>qcC (k v) (k u):=⟨fun x y=>qcH (k x) (k y),fun x y z=>qgX (k x) (k y) (k z)⟩
theorem qhU:∀{vs:List Value} {ns ms:List Int},IntsAre vs ns→IntsAre vs ms→ns=ms
 |_,_,_,.nil,h=>by cases h;rfl
 |_,_,_,.cons n t r,h=>by cases h with
  |cons _ _ r'=>rw[qhU r r']
theorem IsLI.inj {h:Heap} {v:Value} {ns ms:List Int} (h1:IsLI h v ns) (h2:IsLI h v ms):ns=ms:=by
 obtain⟨a,its,rfl,⟨o,ho,hc,n,hd⟩,hi⟩:=h1
 obtain⟨b,its2,e,⟨o2,ho2,hc2,n2,hd2⟩,hi2⟩:=h2
 cases e
 rw[ho] at ho2;cases ho2
 rw[hd] at hd2;cases hd2
 exact qhU hi hi2
open Classical in
noncomputable def qo0 (h:Heap) (v:Value):List Int:=if q:∃ns,IsLI h v ns then q.choose else []
theorem qm9 {h:Heap} {v:Value} {ns:List Int} (q:IsLI h v ns):qo0 h v=ns:=by
 unfold qo0
 rw[dif_pos ⟨ns,q⟩]
 exact IsLI.inj (Exists.choose_spec (⟨ns,q⟩:∃ns,IsLI h v ns)) q
end
def qed (K:PySem.W.Frag) (H:Hp):List V→List (List Int)→Prop
 |[],[]=>True
 |x::xs,n::ns=>(∃t,x=.ref t∧SqL K H t (n.map V.int))∧qed K H xs ns
 |_,_=>False
def qjJ (K:PySem.W.Frag):List V→Hp→VK→Prop:=fun vs H Q=>∃(a:Addr) (xs:List V) (ls:List (List Int)),vs=[V.ref a]∧SqL K H a xs∧qed K H xs ls ∧
 ∀ys ms p,ys.length=ms.length→(ys.zip ms).Perm (xs.zip ls)→(ms.Pairwise fun x y=>qcC y x=false)→H p=none→Q (.ref p) (upd H p (.lst ys))
theorem qgl {K:PySem.W.Frag} {H:Hp}:∀{xs:List V} {ls:List (List Int)},qed K H xs ls→xs.length=ls.length
 |[],[],_=>rfl
 |[],_::_,h=>h.elim
 |_::_,[],h=>h.elim
 |_::xs,_::ls,h=>by simp[qgl h.2]
theorem qgN {X:Cx} (hu:X.A.units+65<cLine):CallR X (.builtin "sorted") (qjJ X.K):=by
 intro pins s σ H vs us Q I r h
 obtain⟨a,xs,ls,rfl,hs,hx,q⟩:=h
 obtain⟨its,rv,hl,hz⟩:=I.list hs
 rw[Vals.ref1 r]
 have key:∀{xs:List V} {ls:List (List Int)} {its:List Value},Vals xs its→qed X.K H xs ls→(∀v∈its,IsLI s.heap v (qo0 s.heap v))∧its.map (qo0 s.heap)=ls∧its.map backV=xs∧∀v∈its,∃a,v=Value.ref a:=by
  intro xs
  induction xs with
  |nil =>
   intro ls its rv hx
   cases rv
   cases ls with
   |nil=>exact⟨by simp,rfl,rfl,by simp⟩
   |cons _ _=>exact hx.elim
  |cons x xs ih =>
   intro ls its rv hx
   cases rv with
   |cons r1 r2 =>
    cases ls with
    |nil=>exact hx.elim
    |cons n ns =>
     obtain⟨⟨t,rfl,ht⟩,hx2⟩:=hx
     obtain⟨its2,rv2,pl,_⟩:=I.list ht
     cases r1
     have li:IsLI s.heap (.ref t) n:=⟨t,its2.toArray,rfl,pl.isList,by simpa using rv2.ints⟩
     obtain⟨q1,q2,q3,q4⟩:=ih r2 hx2
     have e:=qm9 li
     refine⟨fun v hv=>?_,by rw[List.map_cons,e,q2],by rw[List.map_cons,q3];rfl,fun v hv=>?_⟩
     ·rcases List.mem_cons.mp hv with z | z
      ·rw[z,e];exact li
      ·exact q1 v z
     ·rcases List.mem_cons.mp hv with z | z
      ·exact⟨t,z⟩
      ·exact q4 v z
 obtain⟨k1,k2,k3,k4⟩:=key rv hx
 refine SrtO.sorted_ord (qk4 (qo0 s.heap)) hl.isList (by rw[←rv.length];exact hz) (fun h2 h₁ d hd kp=>?_) fun out h1 h2=>?_
 ·refine qgL (s:={ s with heap:=h₁ }) (by show X.A.units+1+1<cLine;omega) h2 (fun v hv=>?_) fun b hb=>?_
  ·obtain⟨b,its2,e,⟨o,ho,hc,n,hdd⟩,hi⟩:=k1 v hv
   exact⟨b,its2,e,⟨o,(kp b o ho).2,hc,n,hdd⟩,hi⟩
  ·obtain⟨b',its2,e,⟨o,ho,_⟩,_⟩:=k1 _ hb
   cases e
   exact(kp b o ho).1
 ·have h3:∀u∈out,∃a,u=Value.ref a:=fun u hu=>k4 u (h2.perm.mem_iff.mp hu)
  obtain⟨ep,he'⟩:=PyProof.Rows.sortedAll_at s.heap its out.toArray
  have hlen:(out.map backV).length≤sizeLine:=by
   rw[List.length_map,h2.perm.length_eq,←rv.length];exact hz
  refine⟨.ref _,upd H (s.heap.objs.size+1) (.lst (out.map backV)),I.laid (t':=s.toks) (fun _ _=>PyProof.Rows.sortedAll_old) (Nat.le_succ _) ⟨hlen,out,ep,vals_back h3,he'⟩,rfl,q _ (out.map (qo0 s.heap)) _ (by simp) ?_ ?_ (I.hok.fresh (Nat.le_succ _))⟩
  ·rw[←k2,←k3,List.zip_map',List.zip_map']
   exact h2.perm.map _
  ·exact List.pairwise_map.mpr h1
theorem qfZ:∀x y:List Int,qcC x y=false→qcC y x=false→x=y
 |[],[],_,_=>rfl
 |[],_::_,h,_=>by cases h
 |_::_,[],_,h=>by cases h
 |a::as,b::bs,h1,h2=>by
  unfold qcC at h1 h2
  by_cases e:a=b
  ·rw[if_pos e] at h1
   rw[if_pos e.symm] at h2
   rw[e,qfZ as bs h1 h2]
  ·rw[if_neg e] at h1
   rw[if_neg fun q=>e q.symm] at h2
   have:=of_decide_eq_false h1
   have:=of_decide_eq_false h2
   omega
theorem qgs:∀{l m:List (List Int)},l.Perm m→(l.Pairwise fun x y=>qcC y x=false)→(m.Pairwise fun x y=>qcC y x=false)→l=m
 |[],m,h,_,_=>(List.Perm.eq_nil h.symm).symm
 |x::l,[],h,_,_=>absurd h.length_eq (by simp)
 |x::l,y::m,h,hl,hm=>by
  have rf:∀z:List Int,qcC z z=false:=fun z=>by
   cases e:qcC z z with
   |false=>rfl
   |true=>rw[qcH z z e] at e;cases e
  have h1:qcC x y=false:=by
   rcases List.mem_cons.mp (h.mem_iff.mp (List.mem_cons_self (a:=x) (l:=l))) with e | hx
   ·rw[e];exact rf y
   ·exact(List.pairwise_cons.mp hm).1 x hx
  have h2:qcC y x=false:=by
   rcases List.mem_cons.mp (h.mem_iff.mpr (List.mem_cons_self (a:=y) (l:=m))) with e | hy
   ·rw[e];exact rf x
   ·exact(List.pairwise_cons.mp hl).1 y hy
  have e:=qfZ x y h1 h2
  subst e
  rw[qgs h.cons_inv (List.pairwise_cons.mp hl).2 (List.pairwise_cons.mp hm).2]
theorem qdN (x:List Int):∀l:List (List Int),(qo3 x l).Perm (x::l)
 |[]=>List.Perm.refl _
 |y::ys=>by
  unfold qo3
  split
  ·exact((qdN x ys).cons y).trans (List.Perm.swap x y ys)
  ·exact List.Perm.refl _
theorem qdR:∀l:List (List Int),(qdn l).Perm l
 |[]=>List.Perm.refl _
 |x::xs=>(qdN x _).trans ((qdR xs).cons x)
theorem qhL (x:List Int):∀{l:List (List Int)},(l.Pairwise fun x y=>qcC y x=false)→((qo3 x l).Pairwise fun x y=>qcC y x=false)
 |[],_=>List.pairwise_singleton _ _
 |y::ys,h=>by
  have hc:=List.pairwise_cons.mp h
  unfold qo3
  split
  ·rename_i q
   refine List.pairwise_cons.mpr ⟨fun z hz=>?_,qhL x hc.2⟩
   rcases List.mem_cons.mp ((qdN x ys).mem_iff.mp hz) with e | e
   ·rw[e];exact qcH y x q
   ·exact hc.1 z e
  ·rename_i q
   have q:qcC y x=false:=by simpa using q
   refine List.pairwise_cons.mpr ⟨fun z hz=>?_,h⟩
   rcases List.mem_cons.mp hz with e | e
   ·rw[e];exact q
   ·exact qgX x y z q (hc.1 z e)
theorem qeD:∀l:List (List Int),(qdn l).Pairwise fun x y=>qcC y x=false
 |[]=>.nil
 |x::xs=>qhL x (qeD xs)
theorem qhz:∀{ds:List Cm.D} {ns:List Int},qaq ds=some ns→ds=ns.map Cm.D.int
 |[],ns,h=>by cases h;rfl
 |.int i::ds,ns,h=>by
  unfold qaq at h
  cases e:qaq ds with
  |none=>rw[e] at h;cases h
  |some ms=>rw[e] at h;cases h;rw[qhz e];rfl
 |.non::_,_,h=>by cases h
 |.bl _::_,_,h=>by cases h
 |.str _::_,_,h=>by cases h
 |.lst _::_,_,h=>by cases h
 |.tup _::_,_,h=>by cases h
 |.ins _ _::_,_,h=>by cases h
 |.exc _ _::_,_,h=>by cases h
theorem qjk:∀{ds:List Cm.D} {ls:List (List Int)},qmb ds=some ls→ds=ls.map liV
 |[],ls,h=>by cases h;rfl
 |d::ds,ls,h=>by
  unfold qmb at h
  cases d with
  |lst es =>
   have h:(match qaq es with
    |some n=>(qmb ds).map (n :: ·)
    |none=>none)=some ls:=h
   cases e:qaq es with
   |none=>rw[e] at h;cases h
   |some ns =>
    rw[e] at h
    cases e2:qmb ds with
    |none=>rw[e2] at h;cases h
    |some ms =>
     rw[e2] at h
     cases h
     rw[qjk e2,qhz e]
     rfl
  |non=>cases h
  |bl _=>cases h
  |int _=>cases h
  |str _=>cases h
  |tup _=>cases h
  |ins _ _=>cases h
  |exc _ _=>cases h
section
variable {C:Ctx} {X:Cx}
theorem qeW {P N H:Hp} {b:Bool} (r:Reg C P N H):∀{ls:List (List Int)} {xs:List V},RepsB C P N b (ls.map liV) xs→qed C.G.K H xs ls∧∀p∈xs.zip ls,RepB C P N b (liV p.2) p.1
 |[],xs,h=>by cases h;exact⟨trivial,by simp⟩
 |n::ls,xs,⟨v,u,e,h1,h2⟩=>by
  subst e
  obtain⟨q1,q2⟩:=qeW r h2
  obtain⟨a,ys,rfl,z1,z2⟩:=id h1
  have:=Reps.ints.mp z2
  subst this
  refine⟨⟨⟨a,rfl,LNb.seq r.pH r.nH r.rH _ _ z1⟩,q1⟩,fun p hp=>?_⟩
  rw[List.zip_cons_cons] at hp
  rcases List.mem_cons.mp hp with e | e
  ·rw[e];exact h1
  ·exact q2 p e
theorem qdI {P N:Hp} {b:Bool}:∀{ms:List (List Int)} {ys:List V},ys.length=ms.length→(∀p∈ys.zip ms,RepB C P N b (liV p.2) p.1)→RepsB C P N b (ms.map liV) ys
 |[],[],_,_=>rfl
 |[],_::_,h,_=>by simp at h
 |_::_,[],h,_=>by simp at h
 |m::ms,y::ys,h,hp=>⟨y,ys,rfl,hp (y,m) (by simp),qdI (by simpa using h) fun p q=>hp p (by rw[List.zip_cons_cons];exact List.mem_cons_of_mem _ q)⟩
theorem qnz {a:Expr} {g:List Sl→RE ER} {p pos:Pos} (hK:X.K=C.G.K) (hu:X.A.units+65<cLine) (hg:Gl X "sorted") (hm:X.mg "sorted" = none) (ha:PE X a (tE C g)) (hs:starEach [a] X.env=[(false,eval a X.env)]) :
  PE X (.Call (.Name "sorted" p) [a] [] pos) (tE C fun ρ=>(g ρ).bind fun x=>qok x.d x.b):=
 qad (qdD (qgN hu) PyProof.Rows.boot_sorted (.inl ⟨_,rfl⟩) hg hm (pa_cons ha pa_nil (by rw[hs];rfl)) (by decide) (by decide) (by rw[hs];rfl) (by rfl)) fun σ H Q q=>by
  obtain⟨ρ,P,N,S,h⟩:=q
  refine⟨ρ,P,N,S,h.bind.mono fun x P1 N1 H1 _ a1 h1 v rv=>?_⟩
  have r1:=(S.adv a1).reg
  unfold qok at h1
  split at h1
  ·rename_i ds q
   split at h1
   ·rename_i ls e
    have w:=rv.w r1
    rw[q] at w
    obtain⟨l,xs,rfl,z1,z2⟩:=w.lst
    have:=qjk e
    subst this
    obtain⟨k1,k2⟩:=qeW r1 z2
    refine⟨l,xs,ls,rfl,by rw[hK];exact z1,by rw[hK];exact k1,fun ys ms p hl hp hm hn=>?_⟩
    have e1:ms.Perm ls:=by
     have:=hp.map Prod.snd
     rwa [List.map_snd_zip (by omega),List.map_snd_zip (by have:=qgl k1;omega)] at this
    have e2:ms=qdn ls:=qgs (e1.trans (qdR ls).symm) hm (qeD ls)
    refine h1.fre r1 a1.hh ?_ hn
    rw[←e2]
    exact qdI hl fun p hp2=>k2 p (hp.mem_iff.mp hp2)
   ·exact h1.elim
  ·exact h1.elim
end
end Cm
set_option maxHeartbeats 3200000
namespace Cm
open PySem PySem.Spec PyProof.Rows L2
def qr1 (w:World):Obj:={ cls:=.type "set",dict:=none,data:=.set #[] 0 (.fresh 0 0 (!w.params.followText "set-order")) }
section
variable {P:Program} {w:World} {A:Around} {E:Value→Shared→Prop} {s:Shared}
abbrev Kp (h h':Heap):Prop:=∀b o,h.get? b=some o→h'.get? b=some o
theorem qrt {l:Addr} {its:Array Value} (ns:List Int) {Q:Value→Shared→Prop} (hh:A.handled=none) (hl:s.heap.IsList l its)
  (hi:IntsAre its.toList ns) (hb:ns.length+1<scanBound)
  (fin:∀h' tk c,SetR w h' s.heap.objs.size (fun j=>decide (j∈ns)) c→c≤ns.length→Kp s.heap h'→Q (.ref s.heap.objs.size) { s with heap:=h',toks:=tk }) :
  wpAny (model P w) A (call (.type "set") [.ref l]) Q E s:=by
 have size:its.size=ns.length:=by
  rw[←Array.length_toList];exact IntsAre.length hi
 have tcs:=F.called_set
 obtain⟨c,tl,m0⟩:=tcs.mro
 have m1:=tcs.made
 have m2:=tcs.sub
 have m3:=tcs.notType
 have m4:=tcs.canCreate
 have m5:=F.typeCall_set_1 (.ref l)
 refine wpAny_call (codeAny_of_tree ?_)
 show wpAny _ _ (callAny (.type "set") _) _ _ _
 refine wpAny_pure ⟨Code.quiet_builtin _ (by kernel_rfl),codeAny_builtin F.entry_type_call ?_⟩
 rw[Around.under_plain (weight_type_call_type "set" [.ref l] []) rfl]
 repeat (any_goals (first | assumption | wp_step))
 let N:=s.heap.objs.size
 let S1:Shared:={ s with heap:=s.heap.push (qr1 w) }
 refine codeAny_mono (code_set_led1 (.ref l) (E:=E) (Q₁:=fun o t=>o=.ref N∧t=S1) ⟨rfl,rfl⟩) fun r t hr=>?_
 cases r with
 |error e=>exact hr
 |ok fl =>
  cases fl with
  |ret ob =>
   obtain⟨rfl,rfl⟩:=hr
   have born:S1.heap.get? N=some (qr1 w):=Heap.get?_push_size _ rfl
   have ty:S1.TypeIs (.ref N) "set":=⟨_,born,rfl⟩
   have i1:=tcs.init.lookup
   have i2:=tcs.init.bind (.ref N)
   repeat (any_goals (first | assumption | wp_step))
   refine codeAny_mono (codeAny_call_builtin (R:=wants (fun r t=>r=.none∧∃h' tk c,t={ s with heap:=h',toks:=tk }∧SetR w h' N (fun j=>decide (j∈ns)) c∧c≤ns.length∧Kp s.heap h') E) tcs.init.plain F.entry_set_init (check_set_init_1 ty ?_)) fun r2 t2 hr2=>?_
   ·obtain⟨ol,hol,hcl,nl,hdl⟩:=hl
    obtain⟨oc,od,oda,osl⟩:=ol
    dsimp only at hcl hdl
    subst hcl;subst hdl
    have up:S1.heap.get? l=some { cls:=.type "list",dict:=od,data:=.seq its nl,slots:=osl }:=Heap.get?_push_of_some _ hol
    have f1:=F.sub_list_set
    have f2:=F.sub_list_frozenset
    have f3:(Value.type "list" == Value.type "dict")=false:=rfl
    have il:S1.heap.IsList l its:=⟨_,up,rfl,nl,rfl⟩
    have lt:l<N:=Heap.lt_size hol
    have sz:S1.heap.objs.size=N+1:=Heap.size_push ..
    unfold Builtin.«set.__init__» noKeywords Builtin.Frozenset.updateFrom
    generalize hPI:pyIter=PI
    wp_walk
    subst hPI
    refine wpAny_pyIter_list il ?_
    refine wpAny_bind (wpAny_runValue ?_)
    have h3:A.in1.in1.in1.handled=none:=by simp[hh]
    have ne:l≠S1.heap.objs.size:=by rw[sz];exact Nat.ne_of_lt (Nat.lt_succ_of_lt lt)
    have off:N∉[S1.heap.objs.size,l]:=by
     rw[sz];simp only[List.mem_cons,List.not_mem_nil,or_false,not_or]
     exact⟨Nat.ne_of_lt (Nat.lt_succ_self _),Nat.ne_of_gt lt⟩
    have vals:∀i v,its[i]? = some v→∃k t,ns[i]? = some k∧v=Value.int k t:=fun i v hv=>by
     have lt2:i<ns.length:=size ▸ (Array.getElem?_eq_some_iff.mp hv).1
     obtain⟨t,e⟩:=IntsAre.int_at hi i v (by rwa [Array.getElem?_toList])
     rw[List.getD_eq_getElem?_getD,List.getElem?_eq_getElem lt2] at e
     exact⟨ns[i],t,List.getElem?_eq_getElem lt2,e⟩
    refine set_update_ints ((Walks.list h3 _ l ne its).toS) N off ns size hb vals its.size 0 _ rfl (Nat.zero_le _) ⟨⟨_,Heap.get?_push_size _ rfl,rfl,rfl⟩,il.push _⟩ ?z0 ?zR
    case z0=>exact⟨0,Nat.le_refl 0,setR_new_at (Heap.get?_push_of_some _ born)⟩
    case zR =>
     intro t c' mv le R
     obtain⟨h2,g2,d2,k2,o2⟩:=t
     have eg:g2=s.gens:=mv.gens
     have ed:d2=s.drawn:=mv.drawn
     have eo:o2=s.os:=mv.os
     subst eg ed eo
     rw[size] at le
     show wpAny _ _ _ _ _ _
     refine wpAny_pure ?_
     show wpAny _ _ (ret Value.none) _ _ _
     refine wpAny_pure ⟨rfl,h2,k2,c',rfl,R,le,fun b o e=>?_⟩
     have b0:b<N:=Heap.lt_size e
     refine mv.heap b o ?_ (Heap.get?_push_of_some _ (Heap.get?_push_of_some _ e))
     rw[sz]
     simp only[List.mem_cons,List.not_mem_nil,or_false,not_or]
     exact⟨Nat.ne_of_lt b0,Nat.ne_of_lt (Nat.lt_succ_of_lt b0)⟩
   ·cases r2 with
    |error e=>exact hr2
    |ok f2 =>
     cases f2 with
     |ret r =>
      obtain⟨rfl,h2,tk,c2,rfl,R,le,kp⟩:=hr2
      repeat (any_goals (first | assumption | wp_step))
      exact fin _ _ _ R le kp
     |_=>exact hr2.elim
  |_=>exact hr.elim
end
section
variable {C:Ctx} {X:Cx}
theorem qlf {a:Expr} {g:List Sl→RE ER} {p p2 q pos:Pos} (hK:X.K=C.G.K) (hc:X.calm=true) (hg:Gl X "sorted") (hm:X.mg "sorted" = none) (hg2:Gl X "set") (hm2:X.mg "set" = none) (ha:PE X a (tE C g))
  (na:qac a=true):PE X (.Call (.Name "sorted" p) [.Call (.Name "set" p2) [a] [] q] [] pos) (tE C fun ρ=>(g ρ).bind fun x=>qjR x.d):=by
 have na:=qaa (es:=[]) (env:=X.env) na
 refine⟨fun pins s σ H Q I h=>Call_ (ld_blt I hg hm PyProof.Rows.boot_sorted (PyProof.Rows.callWith_builtin1 (PyProof.Rows.args_cons ?_ rfl) rfl rfl))⟩
 refine Call_ (ld_blt I hg2 hm2 PyProof.Rows.boot_set (PyProof.Rows.callWith_type1 (PyProof.Rows.args_cons ?_ na) na rfl))
 have body:tE C g σ H fun x H1=>∃(l:Addr) (ns:List Int),x=V.ref l∧SqL X.K H1 l (ns.map V.int)∧ns.length<64∧∀p,H1 p=none→Q (.ref p) (upd H1 p (.lst ((qiy ns).map V.int))):=by
  obtain⟨ρ,P,N,S,h⟩:=h
  refine⟨ρ,P,N,S,h.bind.mono fun x P1 N1 H1 _ a1 h1 v rv=>?_⟩
  have r1:=(S.adv a1).reg
  unfold qjR at h1
  split at h1
  ·rename_i ds hd
   split at h1
   ·rename_i ns hn
    have w:=rv.w r1
    rw[hd] at w
    obtain⟨l,xs,rfl,z1,z2⟩:=w
    rw[qb7] at h1
    split at h1
    ·rename_i hl
     rw[Nat.ble_eq] at hl
     refine⟨l,ns,rfl,by rw[hK,←qaN hn z2];exact z1,by omega,fun p hp=>?_⟩
     exact h1.fre r1 a1.hh (Reps.ints.mpr rfl) hp
    ·exact h1.elim
   ·exact h1.elim
  ·exact h1.elim
 refine thn (ha.run pins s σ H _ I body) fun v s1 ⟨x,H1,I1,r1,q1⟩=>PyProof.Rows.args_nil ?_
 obtain⟨l,ns,rfl,hq,hl,q1⟩:=q1
 cases r1
 obtain⟨its,r,pl,_⟩:=I1.list hq
 refine qrt ns (I1.ok.hd hc) pl.isList (by simpa using r.ints) (by unfold scanBound;omega) fun h' tk c R le kp=>PyProof.Rows.args_nil ?_
 have I2:Inv X pins σ H1 { s1 with heap:=h',toks:=tk }:=I1.kept kp
 refine sorted_set (s:={ s1 with heap:=h',toks:=tk }) R (I2.ok.hd hc) (by omega) fun s' p out c ms k g o hp hgt hi hs hmm hln=>?_
 have fresh:H1 p=none:=I2.hok.fresh hp
 have em:ms=qiy ns:=qhQ hs (qho ns) fun k=>by rw[hmm,qhO,decide_eq_true_eq]
 subst em
 have fits:((qiy ns).map V.int).length≤sizeLine:=by rw[List.length_map,hln,sizeLine_eq];omega
 have J:Inv X pins σ (upd H1 p (.lst ((qiy ns).map V.int))) { { s1 with heap:=h',toks:=tk } with heap:=s'.heap,gens:=s'.gens,drawn:=s'.drawn,toks:=s'.toks }:=
  I2.call (ch:=[]) (Un.laid k hp fresh) (I2.hok.laid k hp ⟨fits,out.toList,c,vals_of_ints hi,hgt⟩) (by rw[g];exact I2.bare) (fun _ z=>nomatch z)
 have same:s'={ { s1 with heap:=h',toks:=tk } with heap:=s'.heap,gens:=s'.gens,drawn:=s'.drawn,toks:=s'.toks }:=by
  obtain⟨a1,a2,a3,a4,a5⟩:=s'
  have o:a5=s1.os:=o
  subst o;rfl
 rw[same]
 exact⟨.ref p,_,J,rfl,q1 p fresh⟩
theorem qgy {z:List Nat}:∀{ss:List (List Nat)} {j:Nat},qmh z ss=some j→ss[j]? = some z∧∀m,m<j→ss[m]? ≠ some z
 |[],_,h=>by cases h
 |s::ss,j,h=>by
  unfold qmh at h
  split at h
  ·rename_i e
   cases h;subst e
   exact⟨rfl,fun m hm=>absurd hm (Nat.not_lt_zero m)⟩
  ·rename_i ne
   cases e:qmh z ss with
   |none=>rw[e] at h;cases h
   |some i =>
    rw[e] at h
    cases h
    obtain⟨h1,h2⟩:=qgy e
    refine⟨by simpa using h1,fun m hm=>?_⟩
    cases m with
    |zero=>intro q;simp at q;exact ne q
    |succ m=>intro q;exact h2 m (Nat.lt_of_succ_lt_succ hm) (by simpa using q)
theorem qjD {a b:List Nat} (h:qar a=qar b):a=b:=by
 have:=congrArg (fun s:Str=>s.cps.toList) h
 simpa[qar] using this
theorem qiM {zs:List D} {ss:List (List Nat)} (h:qcV zs=some ss):zs=ss.map D.str:=by
 induction zs generalizing ss with
 |nil=>cases h;rfl
 |cons d ds ih =>
  cases d<;>simp only[qcV] at h<;>try cases h
  rename_i x
  cases e:qcV ds with
  |none=>rw[e] at h;cases h
  |some rs =>
   rw[e] at h
   cases h
   rw[ih e];rfl
theorem qhK {P:Hp} {LN:Addr→List V→Prop} {G:Glo}:∀{ss:List (List Nat)} {xs:List V},Reps G P LN (ss.map D.str) xs→xs=(ss.map qar).map V.str
 |[],_,h=>h
 |s::ss,_,⟨v,r,e,h1,h2⟩=>by
  rw[e,qhK h2]
  cases h1;rfl
theorem ql5 {x:Str} {c:D} {ss:List (List Nat)} {u:Value} {w:V} {a:Expr} {g:List Sl→RE ER} {p apos pos:Pos} (hK:X.K=C.G.K) (hg:Gl X x) (hm:X.mg x=some u) (hr:RelV w u) (hdb:(x == ("__debug__" : Str))=false) (h3:∀P N,RepB C P N true c w) (h4:WrT C.G w)
  (hc:qkW c=some ss) (ha:PE X a (tE C g)) (hs:qac a=true) (hline:(apos.endLine == pos.line)=true) :
  PE X (.Call (.Attribute (.Name x p) "index" apos) [a] [] pos) (tE C fun ρ=>(g ρ).bind fun y=>qjY ss y.d):=
 qad (pe_bm PySem.F.plainAttrs_tuple PySem.F.slot_tuple_index PySem.F.type_tuple_index mt_tup_index (pe_glob hg hm hr hdb) (pa_cons ha pa_nil (qaa hs)) rfl (by rw[qaa hs];rfl) hline (qaa hs) rfl) fun σ H Q q=>by
  obtain⟨ρ,P,N,S,h⟩:=q
  cases c with
  |tup zs =>
   have hz:=qiM (show qcV zs=some ss from hc)
   subst hz
   obtain⟨t,xs,rfl,k1,k2⟩:=h3 (fun _=>none) (fun _=>none)
   have k2:=qhK k2
   subst k2
   obtain⟨o,o1,o2,o3⟩:=h4 t rfl
   have kt:∀H:Hp,SqT C.G.K H t ((ss.map qar).map V.str):=fun H=>by
    rcases k1 with(z | ⟨_,z⟩) | z
    ·cases z
    ·cases z
    ·exact .inr z
   refine⟨.inr (.inl ⟨rfl,o,hK ▸ o1,o2,o3⟩),ρ,P,N,S,h.bind.mono fun y P2 N2 H2 _ a2 h2 v rv=>?_⟩
   have r2:=(S.adv a2).reg
   have w2:=rv.w r2
   unfold qjY at h2
   split at h2
   ·rename_i z q2
    rw[q2] at w2
    cases w2.str
    split at h2
    ·rename_i j e
     obtain⟨e1,e2⟩:=qgy e
     refine⟨t,ss.map qar,qar z,j,rfl,rfl,hK ▸ kt H2,by rw[List.getElem?_map,e1];rfl,fun m hm q=>?_,h2.val r2 rfl⟩
     rw[List.getElem?_map] at q
     cases em:ss[m]? with
     |none=>rw[em] at q;cases q
     |some y =>
      rw[em] at q
      have:qar y=qar z:=by simpa using q
      exact e2 m hm (by rw[em,qjD this])
    ·exact h2.elim
   ·exact h2.elim
  |_=>cases hc
end
end Cm
namespace Cm
open PySem PySem.Spec PyProof.Rows L2
section
variable {prog:Program} {w:World} {A:Around} {E:Value→Shared→Prop} {s:Shared} {R:Result→Shared→Prop}
theorem qig {it l:Addr} {items:Array Value} {G:Array GenState→Array GenState→Prop} (W:WalksS prog w A.in1 it [it,l] [it] G items.size (fun i v=>items[items.size - 1 - i]? = some v) (fun i s=>i≤items.size∧s.heap.IsRevIter it l ((items.size:Int) - 1 - (i:Int))∧s.heap.IsList l items))
  (S:Addr) (res:Value) (c₀:Nat) (hit:s.heap.IsRevIter it l ((items.size:Int) - 1)) (hl:s.heap.IsList l items) (hSf:S∉[it,l])
  (hS:s.heap.get? S=some { cls:=.type "list",data:=.seq #[] c₀ }) (hn:items.size≤sizeLine)
  (hR:∀s' acc' c',Moved (S::[it]) G s s'→s'.heap.get? S=some { cls:=.type "list",dict:=none,data:=.seq acc' c',slots:=#[] }→ItemsOf (fun i v=>items[items.size - 1 - i]? = some v) acc' items.size→R (.ok (.ret res)) s') :
  wpAny (model prog w) A.in1 (Builtin.List.listExtendWith (.ref S) (.ref it) res)
   (fun fin s'=>match fin with | .done f=>R (.ok f) s' | .again c'=>c'.quiet=true∧codeAny (model prog w) A c' R s') (fun e s'=>R (.error e) s') s:=by
 have hSI:S≠it:=fun e=>hSf (by rw[e];simp)
 have hT:s.TypeIs (.ref it) "list_reverseiterator":=hit.typeIs
 have e0:((items.size:Nat):Int) - 1 - ((0:Nat):Int)=(items.size:Int) - 1:=by omega
 unfold Builtin.List.listExtendWith
 refine wpAny_bind (wpAny_typeOf hT ?_)
 have h1:Builtin.List.listSameRef (.ref S) (.ref it)=false:=by simp[Builtin.List.listSameRef,hSI]
 rw[if_neg (by rw[h1];decide)]
 refine wpAny_bind (wpAny_pyIter_revIter hit ?_)
 refine wpAny_bind (wpAny_holding ?_)
 unfold Builtin.List.listLengthHint
 refine wpAny_bind (wpAny_specialOf hT RT.nolen_lri ?_)
 show wpAny _ A.in1 (specialOf (Value.ref it) (Str.ofString "__length_hint__") >>= _) _ _ _
 refine wpAny_bind (wpAny_specialOf hT RT.hint_lri ?_)
 generalize hid:("list_reverseiterator.__length_hint__" : String)=id0
 wp_delta
 rw[show splitId id0=some ("list_reverseiterator","__length_hint__") from by subst hid;decide +kernel]
 subst hid
 refine wpAny_bind (wpAny_isInstance (b:=true) hT (by rw[isSubtype_type];kernel_rfl) ?_)
 refine wpAny_pure ?_
 rw[if_neg (by decide)]
 refine wpAny_pure ⟨plainId_quiet F.plain_extend_loop _,codeAny_extend_loopS W hn _ hSf _ items.size 0 _ _ _ rfl (Nat.zero_le _) ⟨Nat.zero_le _,by rw[e0];exact hit,hl⟩ hS (ItemsOf.nil _) fun s' acc' c' hm hS' hacc=>?_⟩
 exact hR s' acc' c' hm hS' hacc
theorem qfv {it l:Addr} {items:Array Value} {G:Array GenState→Array GenState→Prop} (W:WalksS prog w A.in1 it [it,l] [it] G items.size (fun i v=>items[items.size - 1 - i]? = some v) (fun i s=>i≤items.size∧s.heap.IsRevIter it l ((items.size:Int) - 1 - (i:Int))∧s.heap.IsList l items))
  (S:Addr) (hit:s.heap.IsRevIter it l ((items.size:Int) - 1)) (hl:s.heap.IsList l items) (hSf:S∉[it,l])
  (hS:s.heap.get? S=some { cls:=.type "list",data:=.seq #[] }) (hn:items.size≤sizeLine)
  (hR:∀s' acc' c',Moved (S::[it]) G s s'→s'.heap.get? S=some { cls:=.type "list",dict:=none,data:=.seq acc' c',slots:=#[] }→ItemsOf (fun i v=>items[items.size - 1 - i]? = some v) acc' items.size→R (.ok (.ret .none)) s') :
  wpAny (model prog w) A.in1 (Builtin.«list.__init__» ⟨[.ref S,.ref it],[]⟩)
   (fun fin s'=>match fin with | .done f=>R (.ok f) s' | .again c'=>c'.quiet=true∧codeAny (model prog w) A c' R s') (fun e s'=>R (.error e) s') s:=by
 show wpAny _ A.in1 (do let old ←Builtin.List.listItems (.ref S);Builtin.List.listUpdate (.ref S) (fun _=>#[]);letGo old.toList.reverse;Builtin.List.listExtendWith (.ref S) (.ref it) .none) _ _ s
 refine wpAny_bind ?_
 unfold Builtin.List.listItems
 refine wpAny_bind (wpAny_seqItems hS rfl (wpAny_pure ?_))
 show wpAny _ A.in1 (updateSeq S (fun _=>#[]) >>= fun _=>letGo (#[]:Array Value).toList.reverse >>= fun _=>Builtin.List.listExtendWith (.ref S) (.ref it) .none) _ _ s
 refine wpAny_bind (wpAny_updateSeq hS rfl ?_)
 have hS₂:=Heap.get?_update_self (Obj.mapSeq (fun _=>(#[]:Array Value))) hS rfl
 have oth:∀b o,b≠S→s.heap.get? b=some o→(s.heap.update S (Obj.mapSeq (fun _=>(#[]:Array Value)))).get? b=some o:=
  fun b o hb e=>(Heap.get?_update_other _ _ (Ne.symm hb)).trans e
 have n1:it≠S:=fun e=>hSf (by rw[←e];simp)
 have n2:l≠S:=fun e=>hSf (by rw[←e];simp)
 refine wpAny_bind (wpAny_letGo ?_)
 have hl2:(s.heap.update S (Obj.mapSeq (fun _=>(#[]:Array Value)))).IsList l items:=by
  obtain⟨o,ho,r⟩:=hl
  exact⟨o,oth l o n2 ho,r⟩
 refine qig W S .none _ (hit.at fun o e=>oth it o n1 e) hl2 hSf hS₂ hn fun s' acc' c' hm hS' hacc=>?_
 exact hR s' acc' c' (Moved.trans W.gtrans ((Moved.refl W.grefl).then_heap (Nat.le_refl _) fun b o hb e=>oth b o (fun h=>hb (h ▸ List.mem_cons_self)) e) hm) hS' hacc
theorem qe2 {it l:Addr} {items:Array Value} {Q:Value→Shared→Prop} (hh:A.handled=none) (hit:s.heap.IsRevIter it l ((items.size:Int) - 1)) (hl:s.heap.IsList l items) (hne:l≠it) (hn:items.size≤sizeLine)
  (hQ:∀(h':Heap) (tk:Nat) (acc':Array Value) (c':Nat),(∀b o,b≠it→s.heap.get? b=some o→h'.get? b=some o)→h'.get? s.heap.objs.size=some { cls:=.type "list",dict:=none,data:=.seq acc' c',slots:=#[] }→ItemsOf (fun i v=>items[items.size - 1 - i]? = some v) acc' items.size→Q (.ref s.heap.objs.size) { s with heap:=h',toks:=tk }) :
  wpAny (model prog w) A (call (.type "list") [.ref it]) Q E s:=by
 obtain⟨oi,hoi,_⟩:=id hit
 obtain⟨ol,hol,_⟩:=id hl
 have hSi:s.heap.objs.size≠it:=Nat.ne_of_gt (Heap.lt_size hoi)
 have hSl:s.heap.objs.size≠l:=Nat.ne_of_gt (Heap.lt_size hol)
 have hSf:s.heap.objs.size∉[it,l]:=by simp only[List.mem_cons,List.not_mem_nil,or_false,not_or];exact⟨hSi,hSl⟩
 have h2:A.in1.in1.handled=none:=by simp[hh]
 have W:=(Walks.listRev (prog:=prog) (w:=w) (A:=A.in1.in1) h2 it l hne items).toS
 refine callType_codes (Q₁:=fun obj s₁=>obj=.ref s.heap.objs.size∧s₁={ s with heap:=s.heap.push { cls:=.type "list",data:=.seq #[] } }) F.called_list (F.typeCall_list_1 _) F.entry_list_init
  (code_list_new _ ⟨rfl,rfl⟩) fun obj s₁ h₁=>?_
 obtain⟨rfl,rfl⟩:=h₁
 have hS:(s.heap.push { cls:=.type "list",data:=.seq #[] }).get? s.heap.objs.size=some { cls:=.type "list",data:=.seq #[] }:=Heap.get?_push_size _ rfl
 refine⟨⟨_,hS,rfl⟩,F.args_list_init_2 _ _,qfv W _ (hit.at fun o e=>Heap.get?_push_of_some _ e) (hl.push _) hSf hS hn fun s' acc' c' hm hS' hacc=>?_⟩
 refine⟨rfl,?_⟩
 rw[Moved.eq_with hm]
 refine hQ s'.heap s'.toks acc' c' (fun b o hb e=>hm.heap b o (fun hmem=>?_) (Heap.get?_push_of_some _ e)) hS' hacc
 rcases List.mem_cons.mp hmem with e' | hmem
 ·exact absurd (Heap.lt_size e) (by rw[e'];exact Nat.lt_irrefl _)
 ·exact hb (List.mem_singleton.mp hmem)
end
theorem qhl:∀{vs:List Value} {xs:List Int} {ws:List Value} {ys:List Int},IntsAre vs xs→IntsAre ws ys→IntsAre (vs++ws) (xs++ys)
 |_,_,_,_,.nil,k=>k
 |_,_,_,_,.cons n t h,k=>.cons n t (qhl h k)
theorem qhs:∀{vs:List Value} {xs:List Int},IntsAre vs xs→IntsAre vs.reverse xs.reverse
 |_,_,.nil=>.nil
 |_,_,.cons n t h=>by
  rw[List.reverse_cons,List.reverse_cons]
  exact qhl (qhs h) (.cons n t .nil)
theorem qkd {items acc:Array Value} (h:ItemsOf (fun i v=>items[items.size - 1 - i]? = some v) acc items.size):acc.toList=items.toList.reverse:=by
 refine List.ext_getElem? fun i=>?_
 by_cases hi:i<items.size
 ·have h1:i<acc.size:=by rw[h.1];exact hi
  have h2:=h.2 i acc[i] (Array.getElem?_eq_getElem h1)
  rw[List.getElem?_reverse (by simpa using hi),Array.getElem?_toList,Array.getElem?_toList,Array.length_toList]
  have h2:items[items.size - 1 - i]? = some acc[i]:=h2
  rw[h2,Array.getElem?_eq_getElem h1]
 ·rw[List.getElem?_eq_none (by rw[Array.length_toList,h.1];omega),List.getElem?_eq_none (by rw[List.length_reverse,Array.length_toList];omega)]
section
variable {C:Ctx} {X:Cx}
theorem qlM {a:Expr} {g:List Sl→RE ER} {p p2 q pos:Pos} (hK:X.K=C.G.K) (hc:X.calm=true) (hg:Gl X "list") (hm:X.mg "list" = none) (hg2:Gl X "reversed") (hm2:X.mg "reversed" = none) (ha:PE X a (tE C g))
  (na:qac a=true):PE X (.Call (.Name "list" p) [.Call (.Name "reversed" p2) [a] [] q] [] pos) (tE C fun ρ=>(g ρ).bind fun x=>qjt x.d):=by
 have na:=qaa (es:=[]) (env:=X.env) na
 refine⟨fun pins s σ H Q I h=>Call_ (ld_blt I hg hm PyProof.Rows.boot_list (PyProof.Rows.callWith_type1 (PyProof.Rows.args_cons ?_ rfl) rfl rfl))⟩
 refine Call_ (ld_blt I hg2 hm2 PyProof.Rows.boot_reversed (PyProof.Rows.callWith_type1 (PyProof.Rows.args_cons ?_ na) na rfl))
 have body:tE C g σ H fun x H1=>∃(l:Addr) (ns:List Int),x=V.ref l∧SqL X.K H1 l (ns.map V.int)∧ns.length≤16777216∧∀p,H1 p=none→Q (.ref p) (upd H1 p (.lst (ns.reverse.map V.int))):=by
  obtain⟨ρ,P,N,S,h⟩:=h
  refine⟨ρ,P,N,S,h.bind.mono fun x P1 N1 H1 _ a1 h1 v rv=>?_⟩
  have r1:=(S.adv a1).reg
  unfold qjt at h1
  split at h1
  ·rename_i ds hd
   split at h1
   ·rename_i ns hn
    have w:=rv.w r1
    rw[hd] at w
    obtain⟨l,xs,rfl,z1,z2⟩:=w
    rw[qb7] at h1
    split at h1
    ·rename_i hl
     unfold leB at hl
     rw[Nat.ble_eq] at hl
     refine⟨l,ns,rfl,by rw[hK,←qaN hn z2];exact z1,hl,fun p hp=>?_⟩
     exact h1.fre r1 a1.hh (Reps.ints.mpr rfl) hp
    ·exact h1.elim
   ·exact h1.elim
  ·exact h1.elim
 refine thn (ha.run pins s σ H _ I body) fun v s1 ⟨x,H1,I1,r1,q1⟩=>PyProof.Rows.args_nil ?_
 obtain⟨l,ns,rfl,hq,hl,q1⟩:=q1
 cases r1
 obtain⟨its,r,pl,_⟩:=I1.list hq
 have ia:IntsAre its.toArray.toList ns:=by simpa using r.ints
 have size:its.toArray.size=ns.length:=by
  rw[←Array.length_toList];exact IntsAre.length ia
 have sz:its.toArray.size≤sizeLine:=by rw[size,sizeLine_eq];omega
 have lt:l<s1.heap.objs.size:=by
  obtain⟨o,ho,_⟩:=pl.isList
  exact Heap.lt_size ho
 refine PySem.call_reversed_list pl.isList (PyProof.Rows.args_nil ?_)
 have hit:(s1.heap.push (revObj l ((its.toArray.size:Int) - 1))).IsRevIter s1.heap.objs.size l ((its.toArray.size:Int) - 1):=⟨_,Heap.get?_push_size _ rfl,rfl,rfl⟩
 refine qe2 (s:={ s1 with heap:=s1.heap.push (revObj l ((its.toArray.size:Int) - 1)) }) (I1.ok.hd hc) hit (pl.isList.push _) (Nat.ne_of_lt lt) sz fun h' tk acc c' kp hget hacc=>?_
 have e:=qkd hacc
 have k:∀b o,s1.heap.get? b=some o→h'.get? b=some o:=fun b o hb=>kp b o (Nat.ne_of_lt (Heap.lt_size hb)) (Heap.get?_push_of_some _ hb)
 have hi:IntsAre acc.toList ns.reverse:=by rw[e];exact qhs ia
 have hp:s1.heap.objs.size≤(s1.heap.push (revObj l ((its.toArray.size:Int) - 1))).objs.size:=by rw[Heap.size_push];omega
 have fresh:=I1.hok.fresh hp
 have fits:(ns.reverse.map V.int).length≤sizeLine:=by rw[List.length_map,List.length_reverse,sizeLine_eq];omega
 have J:Inv X pins σ (upd H1 (s1.heap.push (revObj l ((its.toArray.size:Int) - 1))).objs.size (.lst (ns.reverse.map V.int))) { s1 with heap:=h',toks:=tk }:=
  I1.call (ch:=[]) (Un.laid k hp fresh) (I1.hok.laid k hp ⟨fits,acc.toList,c',vals_of_ints hi,hget⟩) I1.bare (fun _ z=>nomatch z)
 exact⟨.ref (s1.heap.push (revObj l ((its.toArray.size:Int) - 1))).objs.size,_,J,rfl,q1 _ fresh⟩
end
end Cm
set_option maxHeartbeats 2000000
namespace Cm
open PySem PySem.Spec PyProof.Rows L2
def wK (K:PySem.W.Frag) (c:Value) (i j:Nat) (Wout:WX) (D:Ends):WX:=fun cls d σ H =>
 ∃b,PySem.W.exmOne K cls c=some b∧(b=true→d=none∧∀a,H a=none→D.nx ((σ.set j (some (.ref a))).set i none) (upd H a (exK cls a)))∧(b=false→Wout cls d σ H)
section
variable {X:Cx} {pins:List (Addr × Obj)} {σ:L2.St} {H:Hp} {s:Shared}
theorem qjs {a:Addr} {oe:Obj} {o:HO} (I:Inv X ((a,oe)::pins) σ H s) (hn:H a=none) (h0:X.s_0.heap.get? a=none) (hp:∀p∈X.pn++pins,p.1≠a) (hc:∀x c,X.env.cells.lookup x=some c→c≠a) (new:ObjOk X.prog X.w (upd H a o) s.heap a o):Inv X pins σ (upd H a o) s where
 ok:=I.ok
 os:=I.os
 bare:=I.bare
 base:=by
  have b:=I.base
  refine⟨fun x o' e n hb hx=>b.keep x o' e n hb hx,fun x o' e n hb hx=>b.slot x o' e n hb hx,fun x o' e n hx=>?_,fun x o' e hx=>b.there x o' e hx,fun x xs q=>?_,fun x u xs q=>?_,fun x ps q=>?_⟩
  ·rw[upd_ne (fun z=>by rw[z,h0] at e;cases e)];exact b.free x o' e n hx
  ·have z:=b.tups x xs q;rw[upd_ne (ne_of_none z hn)];exact z
  ·have z:=b.frzs x u xs q;rw[upd_ne (ne_of_none z hn)];exact z
  ·obtain⟨m,z⟩:=b.tbls x ps q;exact⟨m,by rw[upd_ne (ne_of_none z hn)];exact z⟩
 loc:=I.loc
 cell:=I.cell
 free:=by
  have hL:X.env.locals≠a:=fun z=>by
   obtain⟨_,_,ne,_,_⟩:=I.pin (a,oe) (List.mem_append.mpr (.inr List.mem_cons_self))
   exact ne z.symm
  rw[upd_ne hL];exact I.free
 freeC:=fun x c e=>by rw[upd_ne (hc x c e)];exact I.freeC x c e
 pin:=fun p hp'=>by
  obtain⟨e,n,ne,nf,d⟩:=I.pin p (by
   rcases List.mem_append.mp hp' with z | z
   ·exact List.mem_append.mpr (.inl z)
   ·exact List.mem_append.mpr (.inr (List.mem_cons_of_mem _ z)))
  exact⟨e,by rw[upd_ne (hp p hp')];exact n,ne,nf,d⟩
 hok:=HOk.laidN (h:=s.heap) I.hok (fun _ _ q=>q) hn new
 len:=I.len
end
section
variable {X:Cx} {x n m:Str} {c:Value} {i j:Nat} {body:List Stmt} {np p1 p2 pa pos pos':Pos} {tb:WX→TS} {Wout:WX}
theorem qoI (hs:X.stack=X.env::X.outer) (hf:X.env.frame=some X.env.locals) (hex:X.ex=[]) (hN:X.N.Nodup) (hi:X.N[i]? = some n) (hj:X.N[j]? = some m) (hln:X.env.kindOf n=some .local) (hlm:X.env.kindOf m=some .local) (hd:(n == ("__debug__" : Str))=false∧(n == ("__classdict__" : Str))=false)
  (hc:Names X x c) (tk:Takes X Wout) (hij:i≠j)
  (hb:∀(W:WX) (pn:List (Addr × Obj)) (xe:Value→Shared→Prop),Takes (X.tr pn xe) W→PassesOwn (model X.prog X.w) X.A X.env xe→PSs (X.tr pn xe) body (tb W)) :
  PS X (.Try body [.ExceptHandler (some (.Name x np)) (some n) [.Assign [.Name m p1] (.Name n p2) pa] pos'] [] [] pos) (fun D σ H=>tb (wK X.K c i j Wout D) D σ H):=by
 refine⟨fun pins s σ H D I h=>?_⟩
 have ok:=I.ok
 have hfr:X.A.frames=some (X.env::X.outer):=by rw[ok.frames,hs]
 have hloc:Loc X.env.scope n:=.inl hln
 refine wpAny_Try_except ?_
 refine wpAny_mono ((hb (wK X.K c i j Wout D) (X.pn++pins) (fun e s₁=>wpAny (model X.prog X.w) X.A (noteFrame e X.env) (fun _ s₂=>wpAny (model X.prog X.w) X.A (setFlight e none) (fun _ s₃ =>
  wpAny (model X.prog X.w) X.A (handleBy e X.env [.ExceptHandler (some (.Name x np)) (some n) [.Assign [.Name m p1] (.Name n p2) pa] pos']) (SP X pins D) X.xe s₃) X.xe s₂) X.xe s₁) (fun u s' xx=>?_) PassesOwn.looking).run [] s σ H D (I.toTry _) h) (fun f s1 hsp=>?_) (fun e s1 he=>he)
 ·-- the catch
  obtain⟨a,B,sI,pins',σ',H',cls,d,rfl,J',nb,up,sky,na,os,ag,b,hb1,hyes,hno⟩:=xx
  have J:Inv X pins σ' H' sI:=J'.ofTry ok
  have sky':Sky B (X.env::X.outer) a (Zc cls d) X.env.locals s'.heap:=by rw[←hs];exact sky
  show wpAny (model X.prog X.w) X.A (noteFrame (.ref a) X.env) _ _ _
  refine Sky.land Zc.steady hfr hf sky' fun h3 fl3 up3=>?_
  have J3:Inv X pins σ' H' { s' with heap:=h3 }:=J.landed nb fl3.1 (up.trans up3) os ag
  obtain⟨oe3,vs3,he3,hz3,hd3⟩:=fl3.there
  have notFr:∀{h:Heap} {o:Obj} {vs:Array Value},h.FunFrames B (X.env::X.outer)→h.get? a=some o→o.data=.fields vs→a∉frs (X.env::X.outer):=fun {h o vs} ff e dd hm=>by
   obtain⟨_,o',e',hnf⟩:=ff.mem hm
   rw[e] at e';cases e'
   exact hnf _ dd
  have nfr:=notFr fl3.2.2.1 he3 hd3
  have nL:a≠X.env.locals:=fun z=>nfr (List.mem_filterMap.mpr ⟨X.env,List.mem_cons_self,by rw[hf,z]⟩)
  have nF:a∉X.fs:=fun hm=>by
   obtain⟨e,he,q⟩:=List.mem_filterMap.mp hm
   exact nfr (List.mem_filterMap.mpr ⟨e,List.mem_cons_of_mem _ he,q⟩)
  -- it is new
  have nfr':a∉frs X.stack:=by rw[hs];exact nfr
  have aI:∀o,sI.heap.get? a≠some o:=fun o e=>by
   have z:=nb a o e nfr'
   rw[fl3.2.1] at z
   cases z
  have n0:X.s_0.heap.get? a=none:=by
   cases e:X.s_0.heap.get? a with
   |none=>rfl
   |some o =>
    obtain⟨o',e'⟩:=J.base.there a o e (by
     intro z
     first
      |exact nF z
      |(rw[hex] at z;cases z)
      |exact(List.mem_append.mp z).elim nF fun z=>by rw[hex] at z;cases z)
    exact absurd e' (aI o')
  have np':∀p∈X.pn++pins,p.1≠a:=fun p hp z=>by
   obtain⟨e,_⟩:=J.pin p hp
   rw[z] at e
   exact aI _ e
  have nc':∀x c,X.env.cells.lookup x=some c→c≠a:=fun x c e z=>by
   obtain⟨v,o,ho,_⟩:=J.cell x c e
   rw[z] at ho
   exact aI _ ho
  have S3:=J3.suite he3 hd3 na nL nF
  refine wpAny_handleBy_cons (codeAny_handlers_test ?_) (by intro q;cases q)
  have LT:PySem.W.Looks (model X.prog X.w) h3 (typeOf (.ref a)) cls:=fun A Q E s k q=>wpAny_typeOf_ref (k _ _ he3) (by rw[hz3.1];exact q)
  have LM:=PySem.W.exm_one (M:=model X.prog X.w) (J3.kIn) LT hb1
  have test:∀{Q:Value→Shared→Prop} {E:Value→Shared→Prop},Q c { s' with heap:=h3 }→wpAny (model X.prog X.w) (X.A.mark (some (.ref a))) (eval (.Name x np) X.env) Q E { s' with heap:=h3 }:=fun {Q E} q=>by
   obtain⟨hg,hdbg,hm | ⟨hm,hv,hnn⟩⟩:=hc
   ·exact ld_glob (X:=X.suite a ((a,oe3)::(X.pn++pins))) S3 hg hm q hdbg
   ·exact ld_blt (X:=X.suite a ((a,oe3)::(X.pn++pins))) S3 hg hm hv q hnn hdbg
  refine test (LM.here ?_)
  cases b with
  |true =>
   refine codeAny_handlers_suite_as ?_
   refine HandSPX.lands_againZ fl3 fun h4 fl4 up4=>?_
   have J4:Inv X pins σ' H' { s' with heap:=h4 }:=J.landed nb fl4.1 ((up.trans up3).trans up4) os ag
   obtain⟨oe4,vs4,he4,hz4,hd4⟩:=fl4.there
   have S4:=J4.suite he4 hd4 na nL nF
   refine store_ok (X:=X.suite a ((a,oe4)::(X.pn++pins))) (v:=.ref a) S4 hN hi hloc rfl (fun s5 S5=>?_) (.inr hln)
   have ts:PSs (X.suite a ((a,oe4)::(X.pn++pins))) [.Assign [.Name m p1] (.Name n p2) pa] _:=
    pss_cons (ps_set (X:=X.suite a ((a,oe4)::(X.pn++pins))) hN hj (.inl hlm) (pe_var (X:=X.suite a ((a,oe4)::(X.pn++pins))) hi (.inl hln) hd.1 hd.2) rfl (.inr hlm)) pss_nil
   have hil:i<σ'.length:=by
    rw[J.len]
    exact(List.getElem?_eq_some_iff.mp hi).1
   have hjl:j<σ'.length:=by
    rw[J.len]
    exact(List.getElem?_eq_some_iff.mp hj).1
   obtain⟨hdn,hy2⟩:=hyes rfl
   subst hdn
   refine wpAny_mono (ts.run [] s5 _ H' { nx:=fun σ6 H6=>σ6=(σ'.set i (some (.ref a))).set j (some (.ref a))∧H6=H',rt:=fun _ _=>False,bk:=fun _ _=>False,ct:=fun _ _=>False } S5 ?_) (fun f s6 hsp=>?_) (fun _ _ z=>False.elim z)
   ·exact⟨.ref a,by rw[List.getElem?_set_self hil],rfl,rfl⟩
   ·cases f with
    |next =>
     obtain⟨σ6,H6,S6,rfl,rfl⟩:=hsp
     have S6':Inv X ((a,oe4)::pins) ((σ'.set i (some (.ref a))).set j (some (.ref a))) H6 s6:=⟨ok,S6.os,S6.bare,S6.base,S6.loc,S6.cell,S6.free,S6.freeC,fun p hp=>S6.pin p (by
      rcases List.mem_append.mp hp with z | z
      ·exact List.mem_append.mpr (.inl (List.mem_cons_of_mem _ (List.mem_append.mpr (.inl z))))
      ·rcases List.mem_cons.mp z with z | z
       ·rw[z];exact List.mem_append.mpr (.inl List.mem_cons_self)
       ·exact List.mem_append.mpr (.inl (List.mem_cons_of_mem _ (List.mem_append.mpr (.inr z))))),S6.hok,S6.len⟩
     refine gone_ok S6' hN hi hln fun s7 J7=>?_
     obtain⟨e7,n7,_⟩:=J7.pin (a,oe4) (List.mem_append.mpr (.inr List.mem_cons_self))
     have J8:=qjs (o:=exK cls a) J7 n7 n0 np' nc' (qpt e7 hz4 hd4)
     have es:((σ'.set i (some (V.ref a))).set j (some (.ref a))).set i none=(σ'.set j (some (.ref a))).set i none:=by
      rw[List.set_comm _ _ hij,List.set_set]
     rw[es] at J8
     exact⟨_,_,J8,hy2 a na⟩
    |brk=>obtain⟨_,_,_,z⟩:=hsp;exact z.elim
    |cont=>obtain⟨_,_,_,z⟩:=hsp;exact z.elim
    |ret u=>obtain⟨_,_,_,_,_,z⟩:=hsp;exact z.elim
  |false =>
   show wpAny _ X.A (handleBy (.ref a) X.env []) _ _ _
   refine wpAny_handleBy_nil ?_
   obtain⟨k1,k2,k3,oe,vs,T,oT,ts',he,hz,hd,h1,hr⟩:=id fl3
   unfold PySem.passOn
   refine wpAny_bind (wpAny_field he hd h1 ?_)
   rw[if_neg (show ¬((Value.ref T == Value.none)=true) from by simp)]
   have fin:wpAny (model X.prog X.w) X.A (setFlight (.ref a) X.env.frame) (fun _ s4=>wpAny (model X.prog X.w) X.A (throw (.ref a):Sem Flow) (SP X pins D) X.xe s4) X.xe { s' with heap:=h3 }:=by
    rw[hf]
    refine HandSPX.setFlight_upZ fl3 fun h4 hh4 up4=>wpAny_throw (tk _ _ ?_)
    exact⟨a,B,sI,pins,σ',H',cls,d,rfl,J,nb,(up.trans up3).trans up4,.inr (.inr (by rw[hs];exact hh4)),na,os,ag,hno rfl⟩
   first
    |exact wpAny_bind (wpAny_pure (wpAny_bind fin))
    |exact wpAny_bind fin
 ·cases f with
  |next =>
   obtain⟨σ',H',J',q⟩:=hsp
   exact wpAny_execs_nil ⟨σ',H',J'.ofTry ok,q⟩
  |brk =>
   obtain⟨σ',H',J',q⟩:=hsp
   exact⟨σ',H',J'.ofTry ok,q⟩
  |cont =>
   obtain⟨σ',H',J',q⟩:=hsp
   exact⟨σ',H',J'.ofTry ok,q⟩
  |ret u =>
   obtain⟨v,σ',H',J',r,q⟩:=hsp
   exact⟨v,σ',H',J'.ofTry ok,r,q⟩
end
def qqT (K:PySem.W.Frag):List V→Hp→VK→Prop:=fun xs H Q=>rIsi K xs H Q∨∃(a D:Addr) (c:V) (u:Value) (b:Bool),xs=[.ref a,c]∧ClsV c u∧H a=some (exK (.ref D) a)∧ExcC K D∧PySem.W.kitOne K (.ref D) u=some b∧Q (.bl b) H
theorem qk1 {X:Cx}:CallR X (.builtin "isinstance") (qqT X.K):=by
 intro pins s σ H xs us Q I r h
 rcases h with h | ⟨a,D,c,u,b,rfl,k,ha,C,e,q⟩
 ·exact call_isi pins s σ H xs us Q I r h
 ·cases r with
  |cons rx rr =>
   cases rr with
   |cons rt rr =>
    cases rr
    cases rx
    have ec:=k.eq rt
    subst ec
    obtain⟨⟨oe,vs,ho,hz,hd⟩,_,_⟩:=I.hok a _ ha
    have J:PySem.W.InstAt s.heap a oe D none:=by
     obtain⟨oc,od,oda,osl⟩:=oe
     obtain⟨h1,h2⟩:=hz
     dsimp only at h1 h2 hd
     subst h1 h2 hd
     exact⟨ho,rfl,rfl,trivial⟩
    exact PySem.W.kia_one (PySem.W.handS_kitx_exc C.hg C.hk C.hs C.hd C.ha C.hn C.ht C.hm) I.kIn J e (fun z=>nomatch z) fun tk=>⟨.bl b,H,I.kept (t':=tk) fun _ _ z=>z,rfl,q⟩
structure InsC (K:PySem.W.Frag) (D:Addr):Prop where
 cl:Cls K D
 ha:PySem.W.findIn K (.ref D) "__class__" = some (some (.builtin "object.__class__"))
 hn:PySem.W.specialIn K (.builtin "object.__class__") "__get__" = some (some (.builtin "getset_descriptor.__get__"))
 ht:PySem.W.takesIn K (.builtin "object.__class__")=some true
 hm:PySem.W.mroIn K D (.type "object")=some true
def NmC (mg:Str→Option Value) (x:Str) (own:Bool) (v:V) (u:Value):Prop:=ClsV v u∧(match own with
 |true=>mg x=some u
 |false=>x=("ValueError" : Str)∧u=.type "ValueError")
theorem qhx {v:V} {u:Value} (k:ClsV v u):RelV v u:=by cases k<;>rfl
theorem qjT:bootBuiltins "ValueError" = some (.type "ValueError"):=by decide +kernel
structure RsOk (K:PySem.W.Frag) (mg:Str→Option Value) (D:Addr) (x:Str):Prop where
 mg:mg x=some (.ref D)
 exc:PySem.W.excIn K D He.veBase "ValueError.__new__" = true
 keep:PySem.W.keepIn K (.ref D)=true
 sub:PySem.W.subIn K (.ref D) (.type "BaseException")=some true
 ty:PySem.W.typeIn K (.ref D)=some (.type "type")
structure CkOk (G:Glo) (K:PySem.W.Frag) (mg:Str→Option Value) (x:Str) (own:Bool) (ck ik:Option (Nat→Option Bool)):Prop where
 ex:∃v u,NmC mg x own v u∧(∀g,ck=some g→∀c b,g c=some b→PySem.W.kitOne K (.ref (G.ca c)) u=some b∧PySem.W.exmOne K (.ref (G.ca c)) u=some b∧ExcC K (G.ca c)) ∧
  (∀g,ik=some g→∀c b,g c=some b→PySem.W.kitOne K (.ref (G.ca c)) u=some b∧InsC K (G.ca c))
section
variable {C:Ctx} {X:Cx} {x:Str} {own:Bool} {v:V} {u:Value} {p p2 pos:Pos}
theorem qmC (hg:Gl X x) (hm:X.mg "ValueError" = none) (hd:(x == ("__debug__" : Str))=false) (h:NmC X.mg x own v u):PE X (.Name x p) (tC v):=by
 obtain⟨k,h⟩:=h
 cases own with
 |true=>exact pe_glob hg h (qhx k) hd
 |false =>
  obtain⟨rfl,rfl⟩:=h
  exact pe_bltn hg hm qjT (qhx k) (by decide) hd
theorem qjZ (hg:Gl X x) (hm:X.mg "ValueError" = none) (hd:(x == ("__debug__" : Str))=false) (h:NmC X.mg x own v u):Names X x u:=by
 obtain⟨k,h⟩:=h
 cases own with
 |true=>exact⟨hg,hd,.inl h⟩
 |false =>
  obtain⟨rfl,rfl⟩:=h
  exact⟨hg,hd,.inr ⟨hm,qjT,by decide⟩⟩
theorem qm5 {g:List Sl→RE ER} {ck ik:Option (Nat→Option Bool)} {σ:L2.St} {H:Hp} {Q:VK} (k:ClsV v u) (h1:∀g,ck=some g→∀c b,g c=some b→PySem.W.kitOne C.G.K (.ref (C.G.ca c)) u=some b∧PySem.W.exmOne C.G.K (.ref (C.G.ca c)) u=some b∧ExcC C.G.K (C.G.ca c))
  (h2:∀g,ik=some g→∀c b,g c=some b→PySem.W.kitOne C.G.K (.ref (C.G.ca c)) u=some b∧InsC C.G.K (C.G.ca c))
  (h:tE C (fun ρ=>(g ρ).bind fun x=>qkY ck ik x.d) σ H Q):tCB (qqT C.G.K) (tCons (tE C g) (tCons (tC v) tNil)) σ H Q:=by
 obtain⟨ρ,P,N,S,h⟩:=h
 refine⟨ρ,P,N,S,h.bind.mono fun x P1 N1 H1 e1 a1 h3 w rv=>?_⟩
 have r1:=(S.adv a1).reg
 have rw':=rv.w r1
 show qqT C.G.K [w,v] H1 Q
 unfold qkY at h3
 split at h3
 ·rename_i c fs q
  rw[q] at rw'
  split at h3
  ·split at h3
   ·rename_i g'
    split at h3
    ·rename_i b e
     obtain⟨_,a,rfl,z⟩:=rw'
     obtain⟨z1,z2,z3⟩:=h1 _ rfl _ _ e
     exact .inr ⟨a,_,v,u,b,rfl,k,r1.pH _ _ z,z3,z1,h3.val r1 rfl⟩
    ·exact h3.elim
   ·exact h3.elim
  ·exact h3.elim
 ·rename_i c fs q
  rw[q] at rw'
  split at h3
  ·split at h3
   ·rename_i b e
    obtain⟨a,dx,xs,rfl,z,_⟩:=rw'
    obtain⟨z1,z2⟩:=h2 _ rfl _ _ e
    exact .inl ⟨_,v,_,u,b,rfl,k,.base (.ins (r1.pH _ _ z) z2.cl z2.ha z2.hn z2.ht z2.hm),z1,h3.val r1 rfl⟩
   ·exact h3.elim
  ·exact h3.elim
 ·exact h3.elim
theorem qow {a:Expr} {g:List Sl→RE ER} {ck ik:Option (Nat→Option Bool)} (hK:X.K=C.G.K) (hg:Gl X "isinstance") (hm:X.mg "isinstance" = none) (hv:X.mg "ValueError" = none) (hg2:Gl X x) (hd:(x == ("__debug__" : Str))=false) (ok:CkOk C.G X.K X.mg x own ck ik) (h:PE X a (tE C g))
  (hs:starEach [a,.Name x p2] X.env=(false,eval a X.env)::starEach [.Name x p2] X.env) (hpl:(backTo pos (starEach [.Name x p2] X.env)).any (·.1)=false):PE X (.Call (.Name "isinstance" p) [a,.Name x p2] [] pos) (tE C fun ρ=>(g ρ).bind fun x=>qkY ck ik x.d):=by
 obtain⟨v,u,z,h1,h2⟩:=ok
 rw[hK] at h1 h2
 exact qad (qdD qk1 qhp (.inl ⟨_,rfl⟩) hg hm (pa_cons h (pa_cons (qmC hg2 hv hd z) pa_nil) hs) (by decide) (by decide) hs hpl) fun σ H Q q=>by rw[hK];exact qm5 z.1 h1 h2 q
abbrev qrZ (go g:List Sl→RE ER):List Sl→RE ER:=fun ρ=>(go ρ).bind fun x=>match x.d with
  |.lst xs=>(g ρ).bind fun y=>qlt xs y.d
  |_=>.bad
theorem qeH:∀{ds:List D} {ns:List Int},qaq ds=some ns→ds=ns.map D.int
 |[],ns,h=>by cases h;rfl
 |d::ds,ns,h=>by
  cases d with
  |int i =>
   unfold qaq at h
   cases e:qaq ds with
   |none=>rw[e] at h;cases h
   |some r=>rw[e] at h;cases h;rw[qeH e];rfl
  |_=>cases h
theorem qnW {go g:List Sl→RE ER} {σ:L2.St} {H:Hp} {Q:VK} (h:tE C (qrZ go g) σ H Q):tBM C.G.K "list" (rCntI C.G.K) (tE C go) (tCons (tE C g) tNil) σ H Q:=by
 obtain⟨ρ,P,N,S,h⟩:=h
 refine⟨ρ,P,N,S,h.bind.mono fun x P1 N1 H1 _ a1 h1 v rv=>?_⟩
 have r1:=(S.adv a1).reg
 split at h1
 ·rename_i ds hd
  have w:=rv.w r1
  rw[hd] at w
  obtain⟨p,xs,rfl,z1,z2⟩:=w
  refine⟨.inl ⟨rfl,xs,z1⟩,ρ,P1,N1,S.adv a1,(res.bind h1).mono fun y P2 N2 H2 _ a2 h2 u ru=>?_⟩
  have r2:=(S.adv (a1.trans a2)).reg
  unfold qlt at h2
  split at h2
  ·rename_i ns e
   split at h2
   ·rename_i k q
    have wy:=ru.w r2
    rw[q] at wy
    cases wy.int
    have en:=qeH e
    subst en
    have ex:=Reps.ints.mp z2
    subst ex
    exact⟨p,ns,k,rfl,rfl,L2.Same.seq a2.hh z1,h2.val r2 rfl⟩
   ·exact h2.elim
  ·exact h2.elim
 ·exact h1.elim
theorem qoF {o a:Expr} {go g:List Sl→RE ER} {apos pos:Pos} (hK:X.K=C.G.K) (ho:PE X o (tE C go)) (ha:PE X a (tE C g)) (hs:qac a=true) (hbase:attributeBase o "count" X.env (eval o X.env)=eval o X.env) (hline:(apos.endLine == pos.line)=true)
  (hf:((backTo pos (starEach [a] X.env)).all (fun x=>!x.1)&&(backToKw pos (keywordEach [] X.env)).all (fun x=>x.1.isSome)
   && decide ([a].length+([]:List Keyword).length+(if ([]:List Keyword).isEmpty then 0 else 1)<30))=true) :
  PE X (.Call (.Attribute o "count" apos) [a] [] pos) (tE C (qrZ go g)):=
 qad (pe_bm PySem.F.plainAttrs_list PySem.F.slot_list_count PySem.F.type_list_count mt_lcount ho (pa_cons ha pa_nil (qaa hs)) hbase hf hline (qaa hs) rfl) fun σ H Q q=>by rw[hK];exact qnW q
theorem qoH {c:Nat} {m:Str} {j:Nat} {pos':Pos} (hK:X.K=C.G.K) (hc:X.calm=true) (tk:Takes X C.W) (hg:Gl X x) (hd:(x == ("__debug__" : Str))=false) (h:RsOk X.K X.mg (C.G.ca c) x) :
  PS X (.Raise (some (.Call (.Name x p) [.Constant (.str m) j p2] [] pos)) none pos') (tS C fun _=>.exc c []):=
 qae (ps_raise hc tk (pmk_own PySem.F.excBase_ValueError h.exc h.mg h.keep (raises_own h.sub h.ty) hg hd)) fun D σ H q=>by
  obtain⟨ρ,P,N,S,h⟩:=q
  exact h σ none P N H S.reg (.inl ⟨rfl,rfl⟩)
end
def tR (C:Ctx) (g:List Sl→RE (List Sl)):TS:=fun D σ H=>∃ρ P N,SR C P N H ρ σ∧res C σ P N H (g ρ) fun ρ' _ _ H'=>∀σ' P2 N2,Same P P2→Same N N2→SR C P2 N2 H' ρ' σ'→D.nx σ' H'
section
variable {C:Ctx} {X:Cx}
theorem SR.wish {W:WX} {P N H:Hp} {ρ:List Sl} {σ:L2.St} (S:SR C P N H ρ σ):SR { C with W:=W } P N H ρ σ:=
 ⟨⟨S.reg.pH,S.reg.nH,S.reg.bH,S.reg.rB,S.reg.p0,S.reg.pn,S.reg.nw,S.reg.dj⟩,S.len,fun i s e=>by
  obtain⟨o,h1,h2⟩:=S.sl i s e
  exact⟨o,h1,by cases s<;>exact h2⟩,S.ap,S.ad,S.ar⟩
theorem SR.unwish {W:WX} {P N H:Hp} {ρ:List Sl} {σ:L2.St} (S:SR { C with W:=W } P N H ρ σ):SR C P N H ρ σ:=
 ⟨⟨S.reg.pH,S.reg.nH,S.reg.bH,S.reg.rB,S.reg.p0,S.reg.pn,S.reg.nw,S.reg.dj⟩,S.len,fun i s e=>by
  obtain⟨o,h1,h2⟩:=S.sl i s e
  exact⟨o,h1,by cases s<;>exact h2⟩,S.ap,S.ad,S.ar⟩
theorem SR.setN {P N H:Hp} {ρ:List Sl} {σ:L2.St} (S:SR C P N H ρ σ) (i:Nat) (o:Option V):SR C P N H (ρ.set i .non) (σ.set i o) where
 reg:=S.reg
 len:=by simp[S.len]
 sl:=fun j s e=>by
  by_cases q:i=j
  ·subst q
   have hi:i<ρ.length:=by
    rcases Nat.lt_or_ge i ρ.length with z | z
    ·exact z
    ·rw[List.getElem?_eq_none (by simpa using z)] at e;cases e
   rw[List.getElem?_set_self hi] at e
   cases e
   exact⟨_,List.getElem?_set_self (by rw[S.len];exact hi),trivial⟩
  ·rw[List.getElem?_set_ne q] at e
   rw[List.getElem?_set_ne q]
   exact S.sl j s e
 ap:=fun j k p ds b es c e1 e2 e3 e4=>by
  have nj:i≠j:=fun z=>by
   subst z
   rw[List.getElem?_set] at e1
   split at e1
   ·split at e1<;>cases e1
   ·rename_i z;exact z rfl
  have nk:i≠k:=fun z=>by
   subst z
   rw[List.getElem?_set] at e2
   split at e2
   ·split at e2<;>cases e2
   ·rename_i z;exact z rfl
  rw[List.getElem?_set_ne nj] at e1 e3
  rw[List.getElem?_set_ne nk] at e2 e4
  exact S.ap j k p ds b es c e1 e2 e3 e4
 ad:=S.ad.set rfl
 ar:=S.ar.set rfl
theorem qoa {i j:Nat} {g:List Sl→RE (List Sl)} {ck ik:Option (Nat→Option Bool)} {x n m:Str} {own:Bool} {body:List Stmt} {np p1 p2 pa pos pos':Pos} (hK:X.K=C.G.K) (hs:X.stack=X.env::X.outer) (hf:X.env.frame=some X.env.locals) (hex:X.ex=[]) (hN:X.N.Nodup) (hi:X.N[i]? = some n) (hj:X.N[j]? = some m) (hln:X.env.kindOf n=some .local) (hlm:X.env.kindOf m=some .local) (hd:(n == ("__debug__" : Str))=false∧(n == ("__classdict__" : Str))=false)
  (hg:Gl X x) (hv:X.mg "ValueError" = none) (hdx:(x == ("__debug__" : Str))=false) (ok:CkOk C.G X.K X.mg x own ck ik) (tk:Takes X C.W) (hij:i≠j)
  (hb:∀(W:WX) (pn:List (Addr × Obj)) (xe:Value→Shared→Prop),Takes (X.tr pn xe) W→PassesOwn (model X.prog X.w) X.A X.env xe→PSs (X.tr pn xe) body (tR { C with W:=W } g)) :
  PS X (.Try body [.ExceptHandler (some (.Name x np)) (some n) [.Assign [.Name m p1] (.Name n p2) pa] pos'] [] [] pos) (tS C fun ρ=>trX ck i j ρ (g ρ)):=by
 obtain⟨v,u,z,h1,_⟩:=ok
 refine qae (qoI (tb:=fun W=>tR { C with W:=W } g) hs hf hex hN hi hj hln hlm hd (qjZ hg hv hdx z) tk hij hb) fun D σ H q=>?_
 obtain⟨ρ,P,N,S,h⟩:=q
 have h:outS C P N D (trX ck i j ρ (g ρ)):=h
 refine⟨ρ,P,N,S.wish,?_⟩
 cases e:g ρ with
 |bad=>rw[e] at h;exact h.elim
 |ok ρ' =>
  rw[e] at h
  intro P' N' H' a σ' P2 N2 e1 e2 S2
  exact h σ' P2 N2 H' S2.unwish e1 e2
 |exc c fs =>
  rw[e] at h
  intro d P' N' H' a x'
  have a':Adv P N H P' N' H':=a
  have S1:=S.adv a'
  show ∃b,PySem.W.exmOne X.K (.ref (C.G.ca c)) u=some b∧_
  unfold trX at h
  simp only at h
  split at h
  ·rename_i g'
   split at h
   ·rename_i ec
    obtain⟨_,z2,_⟩:=h1 _ rfl _ _ ec
    rw[if_neg hij] at h
    split at h
    ·refine⟨true,z2,fun _=>?_,fun z=>(by cases z)⟩
     rcases x' with⟨_,rfl⟩ | ⟨dd,f,v',e1,_⟩
     ·refine⟨rfl,fun ad na=>?_⟩
      have a2:Adv P N H (upd P' ad (exK (.ref (C.G.ca c)) ad)) N' (upd H' ad (exK (.ref (C.G.ca c)) ad)):=a'.newP na
      have S2:=S.adv a2
      exact h _ _ _ _ ((S2.setV (i:=j) (d:=.exc c []) (b:=true) (v:=.ref ad) ⟨rfl,ad,rfl,upd_same⟩).setN i none) a2.pp a2.nn
     ·cases e1
    ·exact h.elim
   ·rename_i ec
    obtain⟨_,z2,_⟩:=h1 _ rfl _ _ ec
    refine⟨false,z2,fun z=>(by cases z),fun _=>?_⟩
    exact h σ d P' N' H' S1.reg (by
     rcases x' with z | ⟨dd,f,v',e1,e2,e3,e4⟩
     ·exact .inl z
     ·exact .inr ⟨dd,f,v',e1,e2,e3,e4⟩)
   ·exact h.elim
  ·exact h.elim
end
end Cm
namespace Cm
open PySem PySem.Spec PyProof.Rows L2
inductive ClsVs:List V→List Value→Prop where
 |nil:ClsVs [] []
 |cons {v:V} {u:Value} {vs:List V} {us:List Value}:ClsV v u→ClsVs vs us→ClsVs (v::vs) (u::us)
theorem ClsVs.eq {vs:List V} {us its:List Value} (h:ClsVs vs us) (r:Vals vs its):its=us:=by
 induction h generalizing its with
 |nil=>cases r;rfl
 |cons k _ ih =>
  cases r with
  |cons rx rr=>rw[k.eq rx,ih rr]
def tVs (vs:List V):TA:=fun _ H Q=>Q vs H
section
variable {C:Ctx} {X:Cx}
theorem qkI {a:Expr} {g:List Sl→RE ER} {es:List Expr} {k1:Nat} {vs:List V} {us:List Value} {cks:List (Option (Nat→Option Bool))} {p tp pos:Pos} (hK:X.K=C.G.K) (hg:Gl X "isinstance") (hm:X.mg "isinstance" = none) (hes:PA X es (tVs vs)) (kv:ClsVs vs us) (hl:us.length≤sizeLine)
  (ok:∀c b,qkF cks c=some b→PySem.W.kitAny C.G.K (.ref (C.G.ca c)) us=some b∧ExcC C.G.K (C.G.ca c)) (ha:PE X a (tE C g)) (na:qac a=true) :
  PE X (.Call (.Name "isinstance" p) [a,.Tuple es k1 tp] [] pos) (tE C fun ρ=>(g ρ).bind fun x=>qiD cks x.d):=by
 have na:=qaa (es:=[.Tuple es k1 tp]) (env:=X.env) na
 refine⟨fun pins s σ H Q I h=>Call_ (ld_blt I hg hm PyProof.Rows.boot_isinstance (PyProof.Rows.callWith_builtin1 (PyProof.Rows.args_cons ?_ na) na rfl))⟩
 have body:tE C g σ H fun x H1=>∃(e D:Addr) (b:Bool),x=V.ref e∧H1 e=some (exK (.ref D) e)∧ExcC X.K D∧PySem.W.kitAny X.K (.ref D) us=some b∧Q (.bl b) H1:=by
  obtain⟨ρ,P,N,S,h⟩:=h
  refine⟨ρ,P,N,S,h.bind.mono fun x P1 N1 H1 _ a1 h1 v rv=>?_⟩
  have r1:=(S.adv a1).reg
  have w:=rv.w r1
  unfold qiD at h1
  split at h1
  ·rename_i c q
   rw[q] at w
   split at h1
   ·rename_i b e
    obtain⟨_,e2,rfl,z⟩:=w
    obtain⟨z1,z2⟩:=ok c b e
    exact⟨e2,_,b,rfl,r1.pH _ _ z,by rw[hK];exact z2,by rw[hK];exact z1,h1.val r1 rfl⟩
   ·exact h1.elim
  ·exact h1.elim
 refine thn (ha.run pins s σ H _ I body) fun v s1 ⟨x,H1,I1,r1,q1⟩=>PyProof.Rows.args_cons (wpAny_Tuple_spliced (thn (hes.run tp pins s1 σ H1 (fun xs H2=>xs=vs∧H2=H1) I1 ⟨rfl,rfl⟩) fun ws s2 ⟨xs,H2,I2,r2,q2⟩=>?_)) rfl
 obtain⟨rfl,rfl⟩:=q2
 obtain⟨e,D,b,rfl,he,C1,ek,q1⟩:=q1
 cases r1
 have ew:=kv.eq r2
 subst ew
 refine⟨hl,PyProof.Rows.args_nil ?_⟩
 have I3:L2.Inv X pins σ H2 { s2 with heap:=s2.heap.push { cls:=.type "tuple",data:=.seq ws.toArray } }:=I2.kept (t':=s2.toks) fun _ _ z=>Heap.get?_push_of_some _ z
 obtain⟨⟨oe,vs',ho,hz,hd⟩,_,_⟩:=I3.hok e _ he
 have J:PySem.W.InstAt (s2.heap.push { cls:=.type "tuple",data:=.seq ws.toArray }) e oe D none:=by
  obtain⟨oc,od,oda,osl⟩:=oe
  obtain⟨h1,h2⟩:=hz
  dsimp only at h1 h2 hd
  subst h1 h2 hd
  exact⟨ho,rfl,rfl,trivial⟩
 exact PySem.W.kia_tup (s:={ s2 with heap:=s2.heap.push { cls:=.type "tuple",data:=.seq ws.toArray } }) (PySem.W.handS_kitx_exc C1.hg C1.hk C1.hs C1.hd C1.ha C1.hn C1.ht C1.hm) I3.kIn J (Heap.get?_push_size _ rfl) ek (fun z=>nomatch z) fun tk=>⟨.bl b,_,I3.kept (t':=tk) fun _ _ z=>z,rfl,q1⟩
end
end Cm
namespace Cm
open PySem PySem.Spec PyProof.Rows L2
section
variable {R:Cm.D→V→Prop}
theorem DctR.fnd:∀{m:List (Int × Cm.D)} {es:List (Key × V)} {k:Int},DctR R m es→match qfF k m with
  |some d=>∃v,valV es (.inl k)=some v∧R d v
  |none=>valV es (.inl k)=none
 |[],_,_,h=>by cases h;rfl
 |e::m,_,k,⟨v,r,he,h1,h2⟩=>by
  subst he
  unfold qfF
  by_cases q:e.1=k
  ·rw[if_pos q]
   exact⟨v,valV_pos (by rw[←q]),h1⟩
  ·rw[if_neg q,valV_neg (fun z=>q (Sum.inl.inj z))]
   exact DctR.fnd h2
theorem DctR.some {m:List (Int × Cm.D)} {es:List (Key × V)} (h:DctR R m es) {k:Int} {d:Cm.D} (e:qfF k m=some d):∃v,valV es (.inl k)=some v∧R d v:=by
 have:=h.fnd (k:=k)
 rw[e] at this;exact this
theorem DctR.has {m:List (Int × Cm.D)} {es:List (Key × V)} (h:DctR R m es) (k:Int):(valV es (.inl k)).isSome=(qfF k m).isSome:=by
 have:=h.fnd (k:=k)
 cases e:qfF k m with
 |none=>rw[e] at this;rw[this];rfl
 |some d=>rw[e] at this;obtain⟨v,q,_⟩:=this;rw[q];rfl
theorem DctR.len:∀{m:List (Int × Cm.D)} {es:List (Key × V)},DctR R m es→es.length=m.length
 |[],_,h=>by cases h;rfl
 |e::m,_,⟨v,r,he,h1,h2⟩=>by subst he;simp[DctR.len h2]
theorem DctR.set {k:Int} {d:Cm.D} {v:V} (hr:R d v):∀{m:List (Int × Cm.D)} {es:List (Key × V)},DctR R m es→DctR R (qqP k d m) (es.map fun kv=>if kv.1=.inl k then (kv.1,v) else kv)
 |[],_,h=>by cases h;rfl
 |e::m,_,⟨w,r,he,h1,h2⟩=>by
  subst he
  have ih:=DctR.set (k:=k) hr h2
  unfold qqP at ih ⊢
  rw[List.map_cons,List.map_cons]
  by_cases q:e.1=k
  ·rw[if_pos q,if_pos (by show Sum.inl e.1=Sum.inl k;rw[q])]
   exact⟨v,_,rfl,hr,ih⟩
  ·rw[if_neg q,if_neg (fun z=>q (Sum.inl.inj z))]
   exact⟨w,_,rfl,h1,ih⟩
theorem DctR.snoc {k:Int} {d:Cm.D} {v:V} (hr:R d v):∀{m:List (Int × Cm.D)} {es:List (Key × V)},DctR R m es→DctR R (m++[(k,d)]) (es++[(.inl k,v)])
 |[],_,h=>by cases h;exact⟨v,[],rfl,hr,rfl⟩
 |e::m,_,⟨w,r,he,h1,h2⟩=>by subst he;exact⟨w,_,rfl,h1,DctR.snoc hr h2⟩
theorem DctR.put {m:List (Int × Cm.D)} {es:List (Key × V)} (h:DctR R m es) {k:Int} {d:Cm.D} {v:V} (hr:R d v):DctR R (dput k d m) (putK es (.inl k) v):=by
 unfold dput putK
 rw[valV_any,h.has]
 split
 ·exact h.set hr
 ·exact h.snoc hr
end
section
variable {C:Ctx} {X:Cx} {P N H:Hp} {ρ:List Sl} {σ:L2.St}
theorem SR.setD {P0 N0 H0:Hp} (S0:SR C P0 N0 H0 ρ σ) (S:SR C P N H ρ σ) {i:Nat} {m:List (Int × Cm.D)} {b:Bool} {p:Addr} {es:List (Key × V)} (h0:H0 p=none) (hp:H p=some (.dK es)) (pP:P p=none) (pN:N p=none) (h:DctR (RepB C P N b) m es):SR C P N H (ρ.set i (.dct m b)) (σ.set i (some (.ref p))) where
 reg:=S.reg
 len:=by simp[S.len]
 sl:=fun j s e=>by
  by_cases q:i=j
  ·subst q
   have hi:i<ρ.length:=by
    rcases Nat.lt_or_ge i ρ.length with z | z
    ·exact z
    ·rw[List.getElem?_eq_none (by simpa using z)] at e;cases e
   rw[List.getElem?_set_self hi] at e
   cases e
   exact⟨_,List.getElem?_set_self (by rw[S.len];exact hi),p,es,rfl,hp,pP,pN,S0.reg.bH.free h0,h⟩
  ·rw[List.getElem?_set_ne q] at e
   rw[List.getElem?_set_ne q]
   exact S.sl j s e
 ap:=fun j k r ds c es c' e1 e2 e3 e4=>by
  have ne:∀{l:Nat} {ds:List Cm.D} {c:Bool},(ρ.set i (.dct m b))[l]? = some (.own ds c)→i≠l:=fun {l ds c} e q=>by
   subst q
   rw[List.getElem?_set] at e
   simp only[if_true] at e
   split at e<;>cases e
  have n1:=ne e1
  have n2:=ne e2
  rw[List.getElem?_set_ne n1] at e1 e3
  rw[List.getElem?_set_ne n2] at e2 e4
  exact S.ap j k r ds c es c' e1 e2 e3 e4
 ad:=⟨fun j k r ds' c es' c' e1 e2 e3 e4=>by
  have old:∀{l:Nat} {r:Addr} {es:List (Int × Cm.D)} {c:Bool},i≠l→(ρ.set i (.dct m b))[l]? = some (.dct es c)→(σ.set i (some (.ref p)))[l]? = some (some (.ref r))→H0 r≠none:=fun {l r es c} hm e1 e2=>by
   rw[List.getElem?_set_ne hm] at e1 e2
   obtain⟨o,z1,q,ys,z2,z3,_⟩:=S0.sl l _ e1
   rw[z1] at e2
   cases e2
   cases z2
   rw[z3];simp
  have here:∀{l:Nat} {r:Addr},i=l→l<σ.length→(σ.set i (some (.ref p)))[l]? = some (some (.ref r))→r=p:=fun {l r} hm hl e=>by
   subst hm
   rw[List.getElem?_set_self hl] at e
   cases e;rfl
  have lt:∀{l:Nat} {o:Option V},(σ.set i (some (.ref p)))[l]? = some o→l<σ.length:=fun {l o} e=>by
   rcases Nat.lt_or_ge l σ.length with z | z
   ·exact z
   ·rw[List.getElem?_eq_none (by simpa using z)] at e;cases e
  by_cases q:i=j
  ·by_cases q2:i=k
   ·omega
   ·have:=here q (lt e3) e3
    subst this
    exact absurd h0 (old q2 e2 e4)
  ·by_cases q2:i=k
   ·have:=here q2 (lt e4) e4
    subst this
    exact absurd h0 (old q e1 e3)
   ·rw[List.getElem?_set_ne q] at e1 e3
    rw[List.getElem?_set_ne q2] at e2 e4
    exact S.ad.un j k r _ _ _ _ e1 e2 e3 e4⟩
 ar:=S.ar.set rfl
theorem qk8 {D:Ends} {i:Nat} {f:List (Int × Cm.D)→Bool→Out} (h:outS C P N D (qis ρ i f)):∃m b,ρ[i]? = some (.dct m b)∧outS C P N D (f m b):=by
 unfold qis at h
 split at h
 ·rename_i ds b e
  exact⟨ds,b,e,h⟩
 ·exact h.elim
theorem SR.rootD (S:SR C P N H ρ σ) {i:Nat} {m:List (Int × Cm.D)} {b:Bool} (e:ρ[i]? = some (.dct m b)):∃p es,σ[i]? = some (some (.ref p))∧H p=some (.dK es)∧P p=none∧N p=none∧C.B p=none∧DctR (RepB C P N b) m es:=by
 obtain⟨o,z1,p,xs,rfl,z2⟩:=S.sl i _ e
 exact⟨p,xs,z1,z2⟩
theorem SR.writeD (S:SR C P N H ρ σ) {i:Nat} {m m':List (Int × Cm.D)} {b b':Bool} {p:Addr} {es':List (Key × V)} (e:ρ[i]? = some (.dct m b)) (eσ:σ[i]? = some (some (.ref p))) (h:DctR (RepB C P N b') m' es'):SR C P N (upd H p (.dK es')) (ρ.set i (.dct m' b')) σ:=by
 obtain⟨o,z1,q,xs,z2,z3,z4,z5,z6,z7⟩:=S.sl i _ e
 rw[z1] at eσ;cases eσ;cases z2
 have hi:i<ρ.length:=(List.getElem?_eq_some_iff.mp e).1
 refine⟨⟨qak S.reg.pH z4,qak S.reg.nH z5,qak S.reg.bH z6,S.reg.rB,S.reg.p0,S.reg.pn,S.reg.nw,S.reg.dj⟩,by simp[S.len],fun j s ej=>?_,fun j k r ds1 c es c' e1 e2 e3 e4=>?_,S.ad.sub fun j m1 b1 ej=>⟨rfl,?_⟩,(S.ar.setS rfl).heap fun j dss r ej ej2=>upd_ne fun er=>?_⟩
 ·by_cases q:i=j
  ·subst q
   rw[List.getElem?_set_self hi] at ej
   cases ej
   exact⟨_,z1,p,es',rfl,upd_same,z4,z5,z6,h⟩
  ·rw[List.getElem?_set_ne q] at ej
   obtain⟨o,y1,y2⟩:=S.sl j s ej
   refine⟨o,y1,?_⟩
   cases s with
   |non=>trivial
   |val d b=>exact y2
   |own es c =>
    obtain⟨r,ys,y3,y4,y5⟩:=y2
    have hr:r≠p:=fun er=>by rw[er,z3] at y4;cases y4
    exact⟨r,ys,y3,by rw[upd_ne hr];exact y4,y5⟩
   |slf c fs =>
    obtain⟨r,dx,ys,y3,y4,y5⟩:=y2
    have hr:r≠p:=fun er=>by rw[er,z3] at y4;cases y4
    exact⟨r,dx,ys,y3,by rw[upd_ne hr];exact y4,y5⟩
   |fxd d k=>exact y2
   |dct m2 c =>
    obtain⟨r,ys,y3,y4,y5⟩:=y2
    have hr:r≠p:=fun er=>q (S.ad.un i j p m b m2 c e ej z1 (by rw[y1,y3,er]))
    exact⟨r,ys,y3,by rw[upd_ne hr];exact y4,y5⟩
   |row dss =>
    have far:∀a,Held H (.row dss) o a→a≠p:=fun a k er=>by
     obtain⟨⟨us,q⟩,_⟩:=y2.held k
     rw[er,z3] at q;cases q
    obtain⟨r,ps,rfl,y4,y5,y6,y7,y8,y9⟩:=y2
    refine⟨r,ps,rfl,by rw[upd_ne (far r .rt)];exact y4,y5,y6,y7,?_,y9⟩
    exact y8.sub fun a m ds ⟨us,g1,g2⟩=>⟨us,by rw[upd_ne (far a (.it y4 m))];exact g1,g2⟩
 ·have un:∀{l:Nat} {es:List Cm.D} {c:Bool},(ρ.set i (.dct m' b'))[l]? = some (.own es c)→ρ[l]? = some (.own es c):=fun {l es c} em=>by
   by_cases q:i=l
   ·subst q;rw[List.getElem?_set_self hi] at em;cases em
   ·rw[List.getElem?_set_ne q] at em;exact em
  exact S.ap j k r _ _ _ _ (un e1) (un e2) e3 e4
 ·by_cases q:i=j
  ·subst q;exact⟨_,_,e⟩
  ·rw[List.getElem?_set_ne q] at ej;exact⟨_,_,ej⟩
 ·rcases qal ej with⟨_,z⟩ | ⟨qn,z⟩
  ·cases z
  ·obtain⟨o,w1,w2⟩:=S.sl j _ z
   rw[w1] at ej2;cases ej2
   obtain⟨⟨us,q⟩,_⟩:=w2.held .rt
   rw[er,z3] at q;cases q
theorem qkR {i:Nat} {D:Ends} (q:tS C (fun ρ=>.nx (ρ.set i (.dct [] true))) D σ H):tAsg tDNewK (gName i) D σ H:=by
 obtain⟨ρ,P,N,S,o⟩:=q
 intro p hp
 have a:Adv P N H P N (upd H p (.dK [])):=(Adv.refl S.reg.pH S.reg.nH).heap (qan hp)
 exact o _ P N _ (SR.setD S (S.adv a) hp upd_same (S.reg.pH.free hp) (S.reg.nH.free hp) rfl) (L2.Same.refl _) (L2.Same.refl _)
theorem qkV {i:Nat} {g gi:List Sl→RE ER} {D:Ends} (q:tS C (fun ρ=>(g ρ).out fun x=>held x fun d b=>qis ρ i fun m c=>(gi ρ).out fun k=>match k.d with
  |.int k=>gdO (leB (m.length+1)) (.nx (ρ.set i (.dct (dput k d m) (b&&c))))
  |_=>.bad) D σ H):sDPut (tVar i) (tE C gi) (tE C g) D σ H:=by
 obtain⟨ρ,P,N,S,h⟩:=q
 refine⟨ρ,P,N,S,(h.res S.reg).mono fun x P1 N1 H1 _ a1 h1 v rv=>?_⟩
 obtain⟨N2,d,b,a2,r2,o⟩:=rv.held a1 h1
 have S2:=S.adv a2
 obtain⟨m,c,e,o⟩:=qk8 o
 obtain⟨p,es,z1,z2,z3,z4,z5,z6⟩:=S2.rootD e
 refine⟨_,z1,ρ,P1,N2,S2,((o.adv a2.pp a2.nn).res S2.reg).mono fun k P3 N3 H3 _ a3 h3 u ru=>?_⟩
 have r3:=(S2.adv a3).reg
 split at h3
 ·rename_i k' ek
  have w:=ru.w r3
  rw[ek] at w
  cases w.int
  simp only[qas,qag] at h3
  split at h3
  ·rename_i hl
   refine⟨p,_,rfl,DPut.k (k:=.inl k') (a3.hh _ _ z2) (by rw[z6.len];exact Nat.lt_of_lt_of_le (Nat.lt_succ_self _) hl),?_⟩
   exact h3 _ P3 N3 _ ((S2.adv a3).writeD e z1 (DctR.put ((z6.adv a3.pp a3.nn).mono fun _ _=>RepB.and2) (RepB.and1 (RepB.adv a3.pp a3.nn r2)))) a3.pp a3.nn
  ·exact h3.elim
 ·exact h3.elim
theorem qdE {n:Bool} {i:Nat} {g:List Sl→RE ER} {Q:VK} (h:tE C (fun ρ=>match ρ[i]? with
  |some (.dct m _)=>(g ρ).bind fun x=>qd5 m n x.d
  |_=>.bad) σ H Q):(match n with
   |true=>tDIn (tE C g) (tVar i)
   |false=>tDNotIn (tE C g) (tVar i)) σ H Q:=by
 obtain⟨ρ,P,N,S,h⟩:=h
 cases e:ρ[i]? with
 |none=>simp only[e] at h;exact h.elim
 |some s =>
  cases s with
  |dct m b =>
   simp only[e] at h
   have go:tE C g σ H fun y H1=>tVar i σ H1 fun x H2=>∃a o,x=.ref a∧DGet H2 a y o∧Q (.bl (o.isSome == n)) H2:=by
    refine⟨ρ,P,N,S,h.bind.mono fun x P1 N1 H1 _ a1 h1 v rv=>?_⟩
    have S1:=S.adv a1
    unfold qd5 at h1
    split at h1
    ·rename_i k ek
     have w:=rv.w S1.reg
     rw[ek] at w
     cases w.int
     obtain⟨p,es,z1,z2,z3,z4,z5,z6⟩:=S1.rootD e
     refine⟨_,z1,p,_,rfl,DGet.k (k:=.inl k) z2,?_⟩
     rw[z6.has]
     exact h1.val S1.reg rfl
    ·exact h1.elim
   cases n with
   |true =>
    have eb:∀b:Bool,(b == true)=b:=by decide
    simp only[eb] at go;exact go
   |false =>
    have eb:∀b:Bool,(b == false) = !b:=by decide
    simp only[eb] at go;exact go
  |_=>simp only[e] at h;exact h.elim
theorem qoe {i:Nat} {g:List Sl→RE ER} {Q:VK} (h:tE C (fun ρ=>match ρ[i]? with
  |some (.dct m b)=>(g ρ).bind fun x=>qkD m b x.d
  |_=>.bad) σ H Q):tDGet (tVar i) (tE C g) σ H Q:=by
 obtain⟨ρ,P,N,S,h⟩:=h
 cases e:ρ[i]? with
 |none=>simp only[e] at h;exact h.elim
 |some s =>
  cases s with
  |dct m b =>
   simp only[e] at h
   obtain⟨p,es,z1,_⟩:=S.rootD e
   refine⟨_,z1,ρ,P,N,S,h.bind.mono fun x P1 N1 H1 _ a1 h1 v rv=>?_⟩
   have S1:=S.adv a1
   unfold qkD at h1
   split at h1
   ·rename_i k ek
    have w:=rv.w S1.reg
    rw[ek] at w
    cases w.int
    split at h1
    ·rename_i d ed
     obtain⟨p',es,y1,z2,z3,z4,z5,z6⟩:=S1.rootD e
     rw[z1] at y1
     cases y1
     obtain⟨u,q1,q2⟩:=z6.some ed
     refine⟨p,u,rfl,?_,h1.val S1.reg (RepB.nf (C:=C) q2)⟩
     rw[←q1]
     exact DGet.k (k:=.inl k) z2
    ·exact h1.elim
   ·exact h1.elim
  |_=>simp only[e] at h;exact h.elim
theorem qll {n:Bool} {op:CmpOp} {i:Nat} {x:Expr} {y:Str} {g:List Sl→RE ER} {p pos:Pos} (hu:X.A.units+65<cLine) (hop:op=(match n with | true=>.In | false=>.NotIn)) (hN:X.N[i]? = some y) (hv:Vis X.env.scope y) (n1:(y == ("__debug__" : Str))=false) (n2:(y == ("__classdict__" : Str))=false) (he:PE X x (tE C g)) :
  PE X (.Compare x [op] [.Name y p] pos) (tE C fun ρ=>match ρ[i]? with
  |some (.dct m _)=>(g ρ).bind fun x=>qd5 m n x.d
  |_=>.bad):=by
 cases n with
 |true=>subst hop;exact qad (pe_cmp (pc_din (by omega) he (pe_var (i:=i) hN hv n1 n2)) rfl) fun σ H Q q=>qdE q
 |false=>subst hop;exact qad (pe_cmp (pc_dnotin (by omega) he (pe_var (i:=i) hN hv n1 n2)) rfl) fun σ H Q q=>qdE q
theorem qkC {n:Bool} {op:CmpOp} {i:Nat} {x:Expr} {y:Str} {g:List Sl→RE ER} {p pos:Pos} (hu:X.A.units+65<cLine) (hop:op=(match n with | true=>.In | false=>.NotIn)) (hN:X.N[i]? = some y) (hv:Vis X.env.scope y) (n1:(y == ("__debug__" : Str))=false) (n2:(y == ("__classdict__" : Str))=false) (he:PE X x (tE C g)) :
  PT X (.Compare x [op] [.Name y p] pos) (tT C fun ρ=>(match ρ[i]? with
  |some (.dct m _)=>(g ρ).bind fun x=>qd5 m n x.d
  |_=>.bad).bind fun x=>qdv x.d):=by
 have key:∀(ρ:List Sl) (er:ER),(match ρ[i]? with
  |some (Sl.dct m _)=>(g ρ).bind fun x=>qd5 m n x.d
  |_=>RE.bad)=RE.ok er→∃k,er=ER.val (.bl k) true:=fun ρ er e=>by
  split at e
  ·cases e1:g ρ<;>simp only[e1,RE.bind_ok,RE.bind_bad,RE.bind_exc] at e<;>try cases e
   unfold qd5 at e
   split at e
   ·cases e;exact⟨_,rfl⟩
   ·cases e
  ·cases e
 cases n with
 |true=>subst hop;exact qbQ (pt_cmp (pc_din (by omega) he (pe_var (i:=i) hN hv n1 n2)) rfl) fun σ H Q q=>qdE (qde key q)
 |false=>subst hop;exact qbQ (pt_cmp (pc_dnotin (by omega) he (pe_var (i:=i) hN hv n1 n2)) rfl) fun σ H Q q=>qdE (qde key q)
theorem qof {i:Nat} {x:Expr} {y:Str} {g:List Sl→RE ER} {p pos:Pos} (hu:X.A.units+65<cLine) (hN:X.N[i]? = some y) (hv:Vis X.env.scope y) (n1:(y == ("__debug__" : Str))=false) (n2:(y == ("__classdict__" : Str))=false) (he:PE X x (tE C g)) (hs:qbG x=true) :
  PE X (.Subscript (.Name y p) x pos) (tE C fun ρ=>match ρ[i]? with
  |some (.dct m b)=>(g ρ).bind fun x=>qkD m b x.d
  |_=>.bad):=qad (pe_dget (by omega) (pe_var (i:=i) hN hv n1 n2) he (fun o v=>qod hs o v)) fun σ H Q q=>qoe q
theorem qlj {i:Nat} {x:Str} {p p2 pos:Pos} (hN:X.N.Nodup) (hi:X.N[i]? = some x) (hx:Loc X.env.scope x) (hf:X.fn x=true∨X.env.scope.names.lookup x=some .local):PS X (.Assign [.Name x p] (.Dict [] [] p2) pos) (tS C fun ρ=>.nx (ρ.set i (.dct [] true))):=
 qae (ps_asg pe_dnewK (pg_name hN hi hx hf)) fun D σ H q=>qkR q
theorem ql8 {i:Nat} {x:Str} {y v:Expr} {g gi:List Sl→RE ER} {p p2 pos:Pos} (hu:X.A.units+65<cLine) (hN:X.N[i]? = some x) (hv:Vis X.env.scope x) (n1:(x == ("__debug__" : Str))=false) (n2:(x == ("__classdict__" : Str))=false) (hy:PE X y (tE C gi)) (hg:PE X v (tE C g)):PS X (.Assign [.Subscript (.Name x p) y p2] v pos) (tS C fun ρ=>(g ρ).out fun x=>held x fun d b=>qis ρ i fun m c=>(gi ρ).out fun k=>match k.d with
  |.int k=>gdO (leB (m.length+1)) (.nx (ρ.set i (.dct (dput k d m) (b&&c))))
  |_=>.bad):=
 qae (ps_dput (by omega) (pe_var (i:=i) hN hv n1 n2) hy hg (by cases v<;>rfl)) fun D σ H q=>qkV q
theorem SR.offp {P0 N0 H0:Hp} {p:Addr} {u:HO} (S0:SR C P0 N0 H0 ρ σ) (hs:L2.Same H0 H) (h0:H0 p=none) (S:SR C P N H ρ σ) (pP:P p=none) (pN:N p=none):SR C P N (upd H p u) ρ σ where
 reg:=⟨qak S.reg.pH pP,qak S.reg.nH pN,qak S.reg.bH (S0.reg.bH.free h0),S.reg.rB,S.reg.p0,S.reg.pn,S.reg.nw,S.reg.dj⟩
 len:=S.len
 sl:=fun j s ej=>by
  obtain⟨o,y1,y2⟩:=S.sl j s ej
  obtain⟨o',w1,w2⟩:=S0.sl j s ej
  rw[y1] at w1
  cases w1
  refine⟨o,y1,?_⟩
  cases s with
  |non=>trivial
  |val d b=>exact y2
  |own es c =>
   obtain⟨r,ys,y3,y4,y5⟩:=y2
   obtain⟨r',ys',x3,x4,_⟩:=w2
   rw[y3] at x3;cases x3
   have hr:r≠p:=fun er=>by rw[er,h0] at x4;cases x4
   exact⟨r,ys,y3,by rw[upd_ne hr];exact y4,y5⟩
  |slf c fs =>
   obtain⟨r,dx,ys,y3,y4,y5⟩:=y2
   obtain⟨r',dx',ys',x3,x4,_⟩:=w2
   have e:r=r':=y3.1.trans x3.1.symm
   have hr:r≠p:=fun er=>by rw[←e,er,h0] at x4;cases x4
   exact⟨r,dx,ys,y3,by rw[upd_ne hr];exact y4,y5⟩
  |fxd d k=>exact y2
  |dct m c =>
   obtain⟨r,ys,y3,y4,y5⟩:=y2
   obtain⟨r',ys',x3,x4,_⟩:=w2
   rw[y3] at x3;cases x3
   have hr:r≠p:=fun er=>by rw[er,h0] at x4;cases x4
   exact⟨r,ys,y3,by rw[upd_ne hr];exact y4,y5⟩
  |row dss =>
   have far:∀a,Held H (.row dss) o a→a≠p:=fun a k er=>S0.newW hs h0 ej y1 (er ▸ k)
   obtain⟨r,ps,rfl,y4,y5,y6,y7,y8,y9⟩:=y2
   refine⟨r,ps,rfl,by rw[upd_ne (far r .rt)];exact y4,y5,y6,y7,?_,y9⟩
   exact y8.sub fun a m ds ⟨us,g1,g2⟩=>⟨us,by rw[upd_ne (far a (.it y4 m))];exact g1,g2⟩
 ap:=S.ap
 ad:=S.ad
 ar:=S.ar.heap fun i dss q e1 e2=>upd_ne fun er=>S0.newW hs h0 e1 e2 (by rw[er];exact .rt)
theorem qmc {go g:List Sl→RE ER} {D:Ends} {K:PySem.W.Frag} (q:tS C (fun ρ=>(go ρ).out fun x=>match x with
  |.fre ds _=>(g ρ).out fun y=>held y fun _ _=>gdO (leB (ds.length+1)) (.nx ρ)
  |_=>.bad) D σ H):tDrop (tBM K "list" rAppend (tE C go) (tCons (tE C g) tNil)) D σ H:=by
 obtain⟨ρ,P,N,S,h⟩:=q
 refine⟨ρ,P,N,S,(h.res S.reg).mono fun x P1 N1 H1 _ a1 h1 v rv=>?_⟩
 have S1:=S.adv a1
 cases x with
 |val _ _=>exact h1.elim
 |brw _ _=>exact h1.elim
 |fre ds b =>
  obtain⟨p,xs,rfl,z1,z2,z3,z4,z5⟩:=rv
  refine⟨.inl ⟨rfl,xs,.inl (.inl z1)⟩,ρ,P1,N1,S1,((h1.adv a1.pp a1.nn).res S1.reg).mono fun y P2 N2 H2 _ a2 h2 u ru=>?_⟩
  obtain⟨N3,d,b2,a3,r3,o⟩:=ru.held a2 h2
  simp only[qas,qag] at o
  split at o
  ·rename_i hl
   refine⟨p,xs,u,rfl,rfl,a2.hh _ _ z1,by rw[z5.length];exact hl,?_⟩
   exact o σ P2 N3 _ (SR.offp S (a1.hh.trans a3.hh) z2 (S1.adv a3) (a3.off z1 z3) (a3.offN z1 z4)) a3.pp a3.nn
  ·exact o.elim
theorem ql3 {go:List Sl→RE ER} {D:Ends} {K:PySem.W.Frag} (q:tS C (fun ρ=>(go ρ).out fun x=>match x with
  |.fre _ _=>.nx ρ
  |_=>.bad) D σ H):tDrop (tBM0 K "list" rClear (tE C go)) D σ H:=by
 obtain⟨ρ,P,N,S,h⟩:=q
 refine⟨ρ,P,N,S,(h.res S.reg).mono fun x P1 N1 H1 _ a1 h1 v rv=>?_⟩
 cases x with
 |val _ _=>exact h1.elim
 |brw _ _=>exact h1.elim
 |fre ds b =>
  obtain⟨p,xs,rfl,z1,z2,z3,z4,z5⟩:=rv
  exact⟨.inl ⟨rfl,xs,.inl (.inl z1)⟩,p,xs,rfl,rfl,z1,h1 σ P1 N1 _ (SR.offp S a1.hh z2 (S.adv a1) z3 z4) a1.pp a1.nn⟩
end
end Cm
namespace Cm
open PySem PySem.Spec PyProof.Rows L2
section
variable {C:Ctx} {X:Cx} {P N H:Hp} {ρ:List Sl} {σ:L2.St}
noncomputable def NW (H:Hp) (ρ:List Sl) (σ:L2.St) (N:Hp):Hp:=fun a=>@ite _ (∃(j:Nat) (dss:List (List Cm.D)) (u:Option V),ρ[j]? = some (.row dss)∧σ[j]? = some u∧Held H (.row dss) u a) (Classical.propDecidable _) (H a) (N a)
theorem qoE {a:Addr} {j:Nat} {dss:List (List Cm.D)} {u:Option V} (e1:ρ[j]? = some (.row dss)) (e2:σ[j]? = some u) (k:Held H (.row dss) u a):NW H ρ σ N a=H a:=if_pos ⟨j,dss,u,e1,e2,k⟩
theorem qeg {a:Addr} (h:¬∃(j:Nat) (dss:List (List Cm.D)) (u:Option V),ρ[j]? = some (.row dss)∧σ[j]? = some u∧Held H (.row dss) u a):NW H ρ σ N a=N a:=if_neg h
theorem SR.heldW (S:SR C P N H ρ σ) {a:Addr} {j:Nat} {dss:List (List Cm.D)} {u:Option V} (e1:ρ[j]? = some (.row dss)) (e2:σ[j]? = some u) (k:Held H (.row dss) u a):(∃xs,H a=some (.lst xs))∧P a=none∧N a=none∧C.B a=none:=by
 obtain⟨o,z1,z2⟩:=S.sl j _ e1
 rw[z1] at e2;cases e2
 exact z2.held k
theorem SR.nwN (S:SR C P N H ρ σ):L2.Same N (NW H ρ σ N):=fun a o e=>by
 by_cases h:∃(j:Nat) (dss:List (List Cm.D)) (u:Option V),ρ[j]? = some (.row dss)∧σ[j]? = some u∧Held H (.row dss) u a
 ·obtain⟨j,dss,u,e1,e2,k⟩:=h
  rw[(S.heldW e1 e2 k).2.2.1] at e;cases e
 ·rw[qeg h];exact e
theorem qe6 {α β:Type} {f:α→β} {xs:List α} {i:Nat} {y:β} (h:(xs.map f)[i]? = some y):∃x,xs[i]? = some x∧y=f x:=by
 rw[List.getElem?_map] at h
 cases e:xs[i]? with
 |none=>rw[e] at h;cases h
 |some x=>rw[e] at h;cases h;exact⟨x,rfl,rfl⟩
theorem SR.peek (S:SR C P N H ρ σ):SR C P (NW H ρ σ N) H (ρ.map pkS) σ where
 reg:=by
  have sn:=S.nwN
  refine⟨S.reg.pH,fun a o e=>?_,S.reg.bH,S.reg.rB,S.reg.p0,S.reg.pn,fun a e=>?_,fun a e=>?_⟩
  ·by_cases h:∃(j:Nat) (dss:List (List Cm.D)) (u:Option V),ρ[j]? = some (.row dss)∧σ[j]? = some u∧Held H (.row dss) u a
   ·obtain⟨j,dss,u,e1,e2,k⟩:=h
    rwa [qoE e1 e2 k] at e
   ·rw[qeg h] at e;exact S.reg.nH _ _ e
  ·by_cases h:∃(j:Nat) (dss:List (List Cm.D)) (u:Option V),ρ[j]? = some (.row dss)∧σ[j]? = some u∧Held H (.row dss) u a
   ·obtain⟨j,dss,u,e1,e2,k⟩:=h
    exact(S.heldW e1 e2 k).2.2.2
   ·rw[qeg h] at e;exact S.reg.nw _ e
  ·by_cases h:∃(j:Nat) (dss:List (List Cm.D)) (u:Option V),ρ[j]? = some (.row dss)∧σ[j]? = some u∧Held H (.row dss) u a
   ·obtain⟨j,dss,u,e1,e2,k⟩:=h
    exact(S.heldW e1 e2 k).2.1
   ·rw[qeg h] at e;exact S.reg.dj _ e
 len:=by rw[List.length_map];exact S.len
 sl:=fun i s e=>by
  have sn:=S.nwN
  obtain⟨s0,e0,rfl⟩:=qe6 e
  obtain⟨o,z1,z2⟩:=S.sl i s0 e0
  refine⟨o,z1,?_⟩
  have far:∀a,N a=none→(∀(j:Nat) (dss:List (List Cm.D)) (u:Option V),ρ[j]? = some (.row dss)→σ[j]? = some u→¬Held H (.row dss) u a)→NW H ρ σ N a=none:=fun a hn k=>by
   rw[qeg (fun⟨j,dss,u,e1,e2,h⟩=>k j dss u e1 e2 h)];exact hn
  cases s0 with
  |non=>trivial
  |val d b =>
   obtain⟨v,y1,y2⟩:=z2
   exact⟨v,y1,RepB.adv (L2.Same.refl _) sn y2⟩
  |own ds b =>
   obtain⟨p,xs,rfl,y2,y3,y4,y5,y6⟩:=z2
   refine⟨p,xs,rfl,y2,y3,far p y4 fun j dss u e1 e2 h=>?_,y5,RepsB.adv (L2.Same.refl _) sn y6⟩
   have:=S.ar.un j i dss _ _ _ p e1 e0 e2 z1 h .own
   subst this
   rw[e0] at e1;cases e1
  |slf c fs =>
   obtain⟨p,dx,xs,y1,y2,y3,y4,y5⟩:=z2
   refine⟨p,dx,xs,y1,y2,y3,far p y4 fun j dss u e1 e2 h=>?_,y5.1,y5.2.1,RepsB.adv (L2.Same.refl _) sn y5.2.2⟩
   obtain⟨⟨us,q⟩,_⟩:=S.heldW e1 e2 h
   rw[y2] at q;cases q
  |fxd d k =>
   obtain⟨v,y1,y2,y3⟩:=z2
   exact⟨v,y1,y2,RepB.adv (L2.Same.refl _) sn y3⟩
  |dct m b =>
   obtain⟨p,es,rfl,y2,y3,y4,y5,y6⟩:=z2
   refine⟨p,es,rfl,y2,y3,far p y4 fun j dss u e1 e2 h=>?_,y5,y6.adv (L2.Same.refl _) sn⟩
   obtain⟨⟨us,q⟩,_⟩:=S.heldW e1 e2 h
   rw[y2] at q;cases q
  |row dss =>
   obtain⟨p,ps,rfl,y2,y3,y4,y5,y6,y7⟩:=z2
   refine⟨.ref p,rfl,p,ps.map V.ref,rfl,.inl ?_,?_⟩
   ·rw[qoE e0 z1 .rt];exact y2
   ·have go:∀{dss:List (List Cm.D)} {qs:List Addr},(∀a∈qs,NW H ρ σ N a=H a)→RowR (fun a ds=>∃xs,H a=some (.lst xs)∧P a=none∧N a=none∧C.B a=none∧D.flats ds=true∧RepsB C P N true ds xs) dss qs→RepsB C P (NW H ρ σ N) true (dss.map D.lst) (qs.map V.ref):=fun {dss}=>by
     induction dss with
     |nil=>intro qs _ h;cases h;exact rfl
     |cons ds r ih =>
      intro qs hq ⟨a,q,e,⟨xs,g1,_,_,_,_,g6⟩,h2⟩
      subst e
      refine⟨.ref a,q.map V.ref,rfl,⟨a,xs,rfl,.inl ?_,RepsB.adv (L2.Same.refl _) sn g6⟩,ih (fun b hb=>hq b (List.mem_cons_of_mem _ hb)) h2⟩
      rw[hq a (by simp)];exact g1
    exact go (fun a m=>qoE e0 z1 (.it y2 m)) y6
 ap:=fun i j p ds b es c e1 e2 e3 e4=>by
  have un:∀{m:Nat} {es:List Cm.D} {c:Bool},(ρ.map pkS)[m]? = some (.own es c)→ρ[m]? = some (.own es c):=fun {m es c} e=>by
   obtain⟨s0,e0,h⟩:=qe6 e
   rw[e0]
   cases s0 with
   |own _ _=>exact congrArg some h.symm
   |_=>cases h
  exact S.ap i j p ds b es c (un e1) (un e2) e3 e4
 ad:=S.ad.sub fun i m b e=>by
  obtain⟨s0,e0,h⟩:=qe6 e
  refine⟨rfl,?_⟩
  rw[e0]
  cases s0 with
  |dct m' b'=>exact⟨_,_,rfl⟩
  |_=>cases h
 ar:=AR.no fun i s e=>by
  obtain⟨s0,e0,rfl⟩:=qe6 e
  cases s0<;>rfl
noncomputable def NB (H:Hp) (ρ:List Sl) (σ:L2.St) (N2:Hp):Hp:=fun a=>@ite _ (∃(j:Nat) (dss:List (List Cm.D)) (u:Option V),ρ[j]? = some (.row dss)∧σ[j]? = some u∧Held H (.row dss) u a) (Classical.propDecidable _) none (N2 a)
theorem qnk {N2:Hp} {a:Addr} (h:N2 a=none):NB H ρ σ N2 a=none:=by
 unfold NB
 split
 ·rfl
 ·exact h
theorem SR.unpeek (S:SR C P N H ρ σ) {P2 N2 H2:Hp} (a:Adv P (NW H ρ σ N) H P2 N2 H2):Adv P N H P2 (NB H ρ σ N2) H2 where
 hh:=a.hh
 pp:=a.pp
 nn:=fun b o e=>by
  by_cases h:∃(j:Nat) (dss:List (List Cm.D)) (u:Option V),ρ[j]? = some (.row dss)∧σ[j]? = some u∧Held H (.row dss) u b
  ·obtain⟨j,dss,u,e1,e2,k⟩:=h
   rw[(S.heldW e1 e2 k).2.2.1] at e;cases e
  ·unfold NB
   rw[if_neg h]
   exact a.nn b o (S.nwN b o e)
 pH:=a.pH
 nH:=fun b o e=>by
  unfold NB at e
  split at e
  ·cases e
  ·exact a.nH b o e
 pn:=a.pn
 nw:=fun b e=>by
  unfold NB at e
  split at e
  ·exact absurd rfl e
  ·rename_i h
   rcases a.nw b e with z | z
   ·rw[qeg h] at z;exact .inl z
   ·exact .inr z
 dj:=fun b e e2=>by
  unfold NB at e
  split at e
  ·exact absurd rfl e
  ·rename_i h
   have:=a.dj b e e2
   rwa [qeg h] at this
theorem ExR.flat {P2 N2 N3 H2:Hp} {fs:List Cm.D} {d:Option Addr} (f:D.flats fs=true) (h:ExR C P2 N2 H2 fs d):ExR C P2 N3 H2 fs d:=by
 rcases h with h | ⟨dd,g,v,e1,e2,e3,e4⟩
 ·exact .inl h
 ·subst e1
  simp only[D.flats,Bool.and_true] at f
  exact .inr ⟨dd,g,v,rfl,e2,e3,Rep.flat g v f e4⟩
theorem qqv {g:List Sl→RE ER} {Q:VK} (h:tE C (fun ρ=>pkR (g (ρ.map pkS))) σ H Q):tE C g σ H Q:=by
 obtain⟨ρ,P,N,S,h⟩:=h
 refine⟨ρ.map pkS,P,_,S.peek,?_⟩
 cases e:g (ρ.map pkS) with
 |bad=>simp only[e,pkR] at h;exact h.elim
 |exc c fs =>
  simp only[e,pkR] at h
  split at h
  ·rename_i f
   exact fun d P2 N2 H2 a x=>h d P2 _ H2 (S.unpeek a) (x.flat f)
  ·exact h.elim
 |ok er =>
  simp only[e,pkR] at h
  intro P2 N2 H2 a v rv
  cases er with
  |brw _ _=>exact h.elim
  |val d b =>
   simp only at h
   split at h
   ·rename_i f
    exact h P2 _ H2 (S.unpeek a) v (Rep.flat d v f rv)
   ·exact h.elim
  |fre ds b =>
   simp only at h
   split at h
   ·rename_i f
    obtain⟨p,xs,y1,y2,y3,y4,y5,y6⟩:=rv
    exact h P2 _ H2 (S.unpeek a) v ⟨p,xs,y1,y2,y3,y4,qnk y5,Reps.flat ds xs f y6⟩
   ·exact h.elim
theorem qoO {g:List Sl→RE ER} {Q:Bool→Hp→Prop} (h:tT C (fun ρ=>(pkR (g (ρ.map pkS))).bind fun x=>qdv x.d) σ H Q):tT C (fun ρ=>(g ρ).bind fun x=>qdv x.d) σ H Q:=by
 obtain⟨ρ,P,N,S,h⟩:=h
 refine⟨ρ.map pkS,P,_,S.peek,?_⟩
 show res C σ P (NW H ρ σ N) H ((g (ρ.map pkS)).bind fun x=>qdv x.d) fun k _ _ H'=>Q k H'
 cases e:g (ρ.map pkS) with
 |bad=>simp only[e,pkR] at h;exact h.elim
 |exc c fs =>
  simp only[e,pkR] at h
  split at h
  ·rename_i f
   exact fun d P2 N2 H2 a x=>h d P2 _ H2 (S.unpeek a) (x.flat f)
  ·exact h.elim
 |ok er =>
  simp only[e,pkR] at h
  have key:res C σ P N H (qdv er.d) fun k _ _ H'=>Q k H':=by
   cases er with
   |brw _ _=>exact h.elim
   |val d b =>
    simp only at h
    split at h
    ·exact h
    ·exact h.elim
   |fre ds b =>
    simp only at h
    split at h
    ·exact h
    ·exact h.elim
  rw[RE.bind_ok]
  have nx:=qgZ er.d
  cases e2:qdv er.d with
  |bad=>rw[e2] at key;exact key.elim
  |exc c fs=>rw[e2] at nx;exact nx.elim
  |ok k =>
   rw[e2] at key
   exact fun P2 N2 H2 a=>key P2 _ H2 (S.unpeek a)
theorem qpV {x:Expr} {g:List Sl→RE ER} (h:PE X x (tE C g)):PE X x (tE C fun ρ=>pkR (g (ρ.map pkS))):=qad h fun σ H Q q=>qqv q
theorem qp7 {x:Expr} {g:List Sl→RE ER} (h:PT X x (tT C fun ρ=>(g ρ).bind fun x=>qdv x.d)):PT X x (tT C fun ρ=>(pkR (g (ρ.map pkS))).bind fun x=>qdv x.d):=qbQ h fun σ H Q q=>qoO q
def FrR (C:Ctx) (P N H H0:Hp) (dss:List (List Cm.D)) (ps:List Addr):Prop:=RowR (fun a ds=>∃xs,H a=some (.lst xs)∧H0 a=none∧P a=none∧N a=none∧D.flats ds=true∧RepsB C P N true ds xs) dss ps∧ps.Nodup
def tF (C:Ctx) (g:List Sl→RE (List (List Cm.D))):TA:=fun σ H Q=>∃ρ P N,SR C P N H ρ σ∧res C σ P N H (g ρ) fun dss P' N' H'=>∀ps,FrR C P' N' H' H dss ps→Q (ps.map V.ref) H'
theorem qno:PA X [] (tF C fun _=>.ok []):=qc3 pa_nil fun σ H Q q=>by
 obtain⟨ρ,P,N,S,h⟩:=q
 exact h.now S.reg [] ⟨rfl,List.nodup_nil⟩
theorem qlz {e:Expr} {es:List Expr} {ge:List Sl→RE ER} {g:List Sl→RE (List (List Cm.D))} (he:PE X e (tE C ge)) (hr:PA X es (tF C g)) (hs:starEach (e::es) X.env=(false,eval e X.env)::starEach es X.env) :
  PA X (e::es) (tF C fun ρ=>(ge ρ).bind fun x=>match x with
  |.fre ds _=>if D.flats ds=true then (g ρ).bind fun r=>.ok (ds::r) else .bad
  |_=>.bad):=qc3 (pa_cons he hr hs) fun σ H Q q=>by
 obtain⟨ρ,P,N,S,h⟩:=q
 refine⟨ρ,P,N,S,h.bind.mono fun x P1 N1 H1 _ a1 h1 v rv=>?_⟩
 have S1:=S.adv a1
 cases x with
 |val _ _=>exact h1.elim
 |brw _ _=>exact h1.elim
 |fre ds b =>
  simp only at h1
  split at h1
  case isFalse=>exact h1.elim
  rename_i f
  obtain⟨p,xs,rfl,y1,y2,y3,y4,y5⟩:=rv
  refine⟨ρ,P1,N1,S1,h1.bind.mono fun r P2 N2 H2 _ a2 h2 ps fr=>?_⟩
  obtain⟨k1,k2⟩:=fr
  refine h2.now (S1.adv a2).reg (p::ps) ⟨⟨p,ps,rfl,⟨xs,a2.hh _ _ y1,y2,a2.off y1 y3,a2.offN y1 y4,f,RepsB.adv a2.pp a2.nn (Reps.flat ds xs f y5)⟩,?_⟩,?_⟩
  ·exact k1.mono fun a ds ⟨xs,g1,g2,g3⟩=>⟨xs,g1,a1.hh.free g2,g3⟩
  ·rw[List.nodup_cons]
   refine⟨fun m=>?_,k2⟩
   obtain⟨ds,xs,g1,g2,_⟩:=k1.all p m
   rw[y1] at g2;cases g2
theorem AR.setW {i:Nat} {dss:List (List Cm.D)} {p:Addr} (h:AR H ρ σ) (k:∀(j:Nat) (t:Sl) (u:Option V) (a:Addr),i≠j→ρ[j]? = some t→σ[j]? = some u→Held H t u a→¬Held H (.row dss) (some (.ref p)) a):AR H (ρ.set i (.row dss)) (σ.set i (some (.ref p))):=⟨fun j l es t o u a e1 e2 e3 e4 h1 h2=>by
 rcases qal e1 with⟨q1,z1⟩ | ⟨q1,z1⟩
 ·cases z1
  rcases qal e3 with⟨_,z3⟩ | ⟨q3,_⟩
  ·rcases qal e2 with⟨q2,z2⟩ | ⟨q2,z2⟩
   ·omega
   ·rw[List.getElem?_set_ne q2] at e4
    rw[z3] at h1
    exact absurd h1 (k l t u a q2 z2 e4 h2)
  ·exact absurd q1 q3
 ·rw[List.getElem?_set_ne q1] at e3
  rcases qal e2 with⟨q2,z2⟩ | ⟨q2,z2⟩
  ·rcases qal e4 with⟨_,z4⟩ | ⟨q4,_⟩
   ·rw[z2,z4] at h2
    exact absurd h2 (k j _ o a q1 z1 e3 h1)
   ·exact absurd q2 q4
  ·rw[List.getElem?_set_ne q2] at e4
   exact h.un j l es t o u a z1 z2 e3 e4 h1 h2⟩
theorem SR.setW {P0 N0 H0:Hp} (S0:SR C P0 N0 H0 ρ σ) (S:SR C P N H ρ σ) (hs:L2.Same H0 H) {i:Nat} {dss:List (List Cm.D)} {p:Addr} {ps:List Addr} (h0:H0 p=none) (hp:H p=some (.lst (ps.map V.ref))) (pP:P p=none) (pN:N p=none) (fr:FrR C P N H H0 dss ps) (hn:p∉ps):SR C P N H (ρ.set i (.row dss)) (σ.set i (some (.ref p))) where
 reg:=S.reg
 len:=by simp[S.len]
 sl:=fun j s e=>by
  by_cases q:i=j
  ·subst q
   have hi:i<ρ.length:=by
    rcases Nat.lt_or_ge i ρ.length with z | z
    ·exact z
    ·rw[List.getElem?_eq_none (by simpa using z)] at e;cases e
   rw[List.getElem?_set_self hi] at e
   cases e
   exact⟨_,List.getElem?_set_self (by rw[S.len];exact hi),p,ps,rfl,hp,pP,pN,S0.reg.bH.free h0,fr.1.mono fun a ds ⟨xs,g1,g2,g3,g4,g5⟩=>⟨xs,g1,g3,g4,S0.reg.bH.free g2,g5⟩,List.nodup_cons.mpr ⟨hn,fr.2⟩⟩
  ·rw[List.getElem?_set_ne q] at e
   rw[List.getElem?_set_ne q]
   exact S.sl j s e
 ap:=fun j k r ds c es c' e1 e2 e3 e4=>by
  rcases qal e1 with⟨_,z⟩ | ⟨q1,z1⟩
  ·cases z
  ·rcases qal e2 with⟨_,z⟩ | ⟨q2,z2⟩
   ·cases z
   ·rw[List.getElem?_set_ne q1] at e3
    rw[List.getElem?_set_ne q2] at e4
    exact S.ap j k r ds c es c' z1 z2 e3 e4
 ad:=S.ad.set rfl
 ar:=S.ar.setW fun j t u a hj e1 e2 k1 k2=>by
  have fresh:H0 a=none:=by
   cases k2 with
   |rt=>exact h0
   |it e m =>
    rw[hp] at e
    injection e with e
    injection e with e
    rw[←qcR e] at m
    obtain⟨ds,xs,g1,g2,_⟩:=fr.1.all a m
    exact g2
  cases k1 with
  |own =>
   obtain⟨o,z1,z2⟩:=S0.sl j _ e1
   rw[z1] at e2;cases e2
   obtain⟨q,xs,y1,y2,_⟩:=z2
   cases y1
   rw[fresh] at y2;cases y2
  |rt=>exact S0.newW hs fresh e1 e2 .rt
  |it e m=>exact S0.newW hs fresh e1 e2 (.it e m)
theorem qmX {i:Nat} {g:List Sl→RE (List (List Cm.D))} {D:Ends} (q:tS C (fun ρ=>(g ρ).out fun dss=>gdO (leB dss.length) (.nx (ρ.set i (.row dss)))) D σ H):tAsg (tLst (tF C g)) (gName i) D σ H:=by
 obtain⟨ρ,P,N,S,h⟩:=q
 refine⟨ρ,P,N,S,(h.res S.reg).mono fun dss P1 N1 H1 _ a1 h1 ps fr=>?_⟩
 simp only[qas,qag] at h1
 split at h1
 case isFalse=>exact h1.elim
 rename_i hl
 have ln:∀{dss:List (List Cm.D)} {ps:List Addr} {R:Addr→List Cm.D→Prop},RowR R dss ps→ps.length=dss.length:=fun {dss}=>by
  induction dss with
  |nil=>intro ps R h;cases h;rfl
  |cons d r ih=>intro ps R ⟨a,q,e,_,h2⟩;subst e;simp[ih h2]
 refine⟨by rw[List.length_map,ln fr.1];exact hl,fun p hp=>?_⟩
 have S1:=S.adv a1
 have a2:Adv P1 N1 H1 P1 N1 (upd H1 p (.lst (ps.map V.ref))):=(Adv.refl S1.reg.pH S1.reg.nH).heap (qan hp)
 have S2:=S1.adv a2
 have ne:p∉ps:=fun m=>by
  obtain⟨ds,xs,g1,_⟩:=fr.1.all p m
  rw[hp] at g1;cases g1
 refine h1 _ P1 N1 _ (SR.setW S S2 (a1.hh.trans a2.hh) (a1.hh.free hp) upd_same (S1.reg.pH.free hp) (S1.reg.nH.free hp) ⟨fr.1.sub fun a m ds ⟨xs,g1,g2⟩=>⟨xs,a2.hh _ _ g1,g2⟩,fr.2⟩ ne) a1.pp a1.nn
theorem qfn {D:Ends} {i k:Nat} {f:List (List Cm.D)→List Cm.D→Out} (h:outS C P N D (qez ρ i k f)):∃dss ds,ρ[i]? = some (.row dss)∧dss[k]? = some ds∧outS C P N D (f dss ds):=by
 unfold qez at h
 split at h
 ·rename_i dss e
  split at h
  ·rename_i ds e2
   exact⟨dss,ds,e,e2,h⟩
  ·exact h.elim
 ·exact h.elim
theorem RowR.get {R:Addr→List Cm.D→Prop}:∀{dss:List (List Cm.D)} {ps:List Addr} {k:Nat} {ds:List Cm.D},RowR R dss ps→dss[k]? = some ds→∃a,ps[k]? = some a∧R a ds
 |[],_,_,_,_,e=>by simp at e
 |d::r,_,0,ds,⟨a,q,e,h1,h2⟩,e2=>by subst e;cases e2;exact⟨a,rfl,h1⟩
 |d::r,_,k+1,ds,⟨a,q,e,h1,h2⟩,e2=>by
  subst e
  obtain⟨b,g1,g2⟩:=RowR.get (k:=k) h2 (by simpa using e2)
  exact⟨b,by simpa using g1,g2⟩
theorem RowR.put {R R':Addr→List Cm.D→Prop}:∀{dss:List (List Cm.D)} {ps:List Addr} {k:Nat} {a:Addr} {ds':List Cm.D},RowR R dss ps→ps[k]? = some a→ps.Nodup→R' a ds'→(∀b∈ps,b≠a→∀ds,R b ds→R' b ds)→RowR R' (dss.set k ds') ps
 |[],_,_,_,_,h,e,_,_,_=>by cases h;simp at e
 |d::r,_,0,a,ds',⟨b,q,e,h1,h2⟩,e2,nd,h3,h4=>by
  subst e
  cases e2
  rw[List.nodup_cons] at nd
  exact⟨_,q,rfl,h3,h2.sub fun c m ds g=>h4 c (List.mem_cons_of_mem _ m) (fun z=>nd.1 (z ▸ m)) ds g⟩
 |d::r,_,k+1,a,ds',⟨b,q,e,h1,h2⟩,e2,nd,h3,h4=>by
  subst e
  rw[List.nodup_cons] at nd
  have e2:q[k]? = some a:=by simpa using e2
  exact⟨b,q,rfl,h4 b (by simp) (fun z=>nd.1 (z ▸ List.mem_of_getElem? e2)) _ h1,RowR.put h2 e2 nd.2 h3 fun c m=>h4 c (List.mem_cons_of_mem _ m)⟩
theorem AR.row {i:Nat} {dss dss':List (List Cm.D)} (h:AR H ρ σ) (e:ρ[i]? = some (.row dss)):AR H (ρ.set i (.row dss')) σ:=⟨fun j l es t o u a e1 e2 e3 e4 h1 h2=>by
 have back:∀{m:Nat} {t:Sl} {o:Option V},(ρ.set i (.row dss'))[m]? = some t→Held H t o a→∃t',ρ[m]? = some t'∧Held H t' o a∧(t.isW=true→t'.isW=true):=fun {m t o} em hh=>by
  rcases qal em with⟨q,z⟩ | ⟨q,z⟩
  ·subst q
   rw[z] at hh
   refine⟨_,e,?_,fun _=>rfl⟩
   cases hh with
   |rt=>exact .rt
   |it e m=>exact .it e m
  ·exact⟨t,z,hh,id⟩
 obtain⟨t1,f1,g1,w1⟩:=back e1 h1
 obtain⟨t2,f2,g2,_⟩:=back e2 h2
 have w1:=w1 rfl
 cases t1 with
 |row es'=>exact h.un j l es' t2 o u a f1 f2 e3 e4 g1 g2
 |_=>cases w1⟩
theorem SR.rootW (S:SR C P N H ρ σ) {i:Nat} {dss:List (List Cm.D)} (e:ρ[i]? = some (.row dss)):∃p ps,σ[i]? = some (some (.ref p))∧H p=some (.lst (ps.map V.ref))∧P p=none∧N p=none∧C.B p=none∧RowR (fun a ds=>∃xs,H a=some (.lst xs)∧P a=none∧N a=none∧C.B a=none∧D.flats ds=true∧RepsB C P N true ds xs) dss ps∧(p::ps).Nodup:=by
 obtain⟨o,z1,p,ps,rfl,z2⟩:=S.sl i _ e
 exact⟨p,ps,z1,z2⟩
theorem SR.writeW (S:SR C P N H ρ σ) {i k:Nat} {dss:List (List Cm.D)} {ds':List Cm.D} {p a:Addr} {ps:List Addr} {xs':List V} (e:ρ[i]? = some (.row dss)) (eσ:σ[i]? = some (some (.ref p))) (hp:H p=some (.lst (ps.map V.ref))) (ha:ps[k]? = some a) (hf:D.flats ds'=true) (h:RepsB C P N true ds' xs'):SR C P N (upd H a (.lst xs')) (ρ.set i (.row (dss.set k ds'))) σ:=by
 obtain⟨p',ps',z1,z2,z3,z4,z5,z6,z7⟩:=S.rootW e
 rw[z1] at eσ;cases eσ
 rw[hp] at z2
 injection z2 with z2
 injection z2 with z2
 have z2:=qcR z2
 subst z2
 have ma:=List.mem_of_getElem? ha
 have hk:Held H (.row dss) (some (.ref p)) a:=.it hp ma
 obtain⟨⟨us,ha0⟩,a1,a2,a3⟩:=S.heldW e z1 hk
 have nd:=List.nodup_cons.mp z7
 have pa:p≠a:=fun z=>nd.1 (z ▸ ma)
 have hi:i<ρ.length:=(List.getElem?_eq_some_iff.mp e).1
 refine⟨⟨qak S.reg.pH a1,qak S.reg.nH a2,qak S.reg.bH a3,S.reg.rB,S.reg.p0,S.reg.pn,S.reg.nw,S.reg.dj⟩,by simp[S.len],fun j s ej=>?_,fun j l r ds1 c es c' e1 e2 e3 e4=>?_,S.ad.setS rfl,(S.ar.row e).heap fun j es r ej ej2=>upd_ne fun er=>?_⟩
 ·by_cases q:i=j
  ·subst q
   rw[List.getElem?_set_self hi] at ej
   cases ej
   refine⟨_,z1,p,ps,rfl,by rw[upd_ne pa];exact hp,z3,z4,z5,?_,z7⟩
   exact RowR.put z6 ha nd.2 ⟨xs',upd_same,a1,a2,a3,hf,h⟩ fun b m nb ds ⟨ys,g1,g2⟩=>⟨ys,by rw[upd_ne nb];exact g1,g2⟩
  ·rw[List.getElem?_set_ne q] at ej
   obtain⟨o,y1,y2⟩:=S.sl j s ej
   refine⟨o,y1,?_⟩
   cases s with
   |non=>trivial
   |val d b=>exact y2
   |own es c =>
    obtain⟨r,ys,rfl,y4,y5⟩:=y2
    have hr:r≠a:=fun er=>q (S.ar.un i j dss _ _ _ a e ej z1 y1 hk (by rw[er];exact .own))
    exact⟨r,ys,rfl,by rw[upd_ne hr];exact y4,y5⟩
   |slf c fs =>
    obtain⟨r,dx,ys,y3,y4,y5⟩:=y2
    have hr:r≠a:=fun er=>by rw[er,ha0] at y4;cases y4
    exact⟨r,dx,ys,y3,by rw[upd_ne hr];exact y4,y5⟩
   |fxd d k=>exact y2
   |dct m c =>
    obtain⟨r,ys,y3,y4,y5⟩:=y2
    have hr:r≠a:=fun er=>by rw[er,ha0] at y4;cases y4
    exact⟨r,ys,y3,by rw[upd_ne hr];exact y4,y5⟩
   |row es =>
    have far:∀b,Held H (.row es) o b→b≠a:=fun b kb er=>q (S.ar.un i j dss _ _ _ a e ej z1 y1 hk (er ▸ kb))
    obtain⟨r,qs,rfl,y4,y5,y6,y7,y8,y9⟩:=y2
    refine⟨r,qs,rfl,by rw[upd_ne (far r .rt)];exact y4,y5,y6,y7,?_,y9⟩
    exact y8.sub fun b m ds ⟨us,g1,g2⟩=>⟨us,by rw[upd_ne (far b (.it y4 m))];exact g1,g2⟩
 ·rcases qal e1 with⟨_,z⟩ | ⟨_,f1⟩
  ·cases z
  ·rcases qal e2 with⟨_,z⟩ | ⟨_,f2⟩
   ·cases z
   ·exact S.ap j l r _ _ _ _ f1 f2 e3 e4
 ·rcases qal ej with⟨qn,z⟩ | ⟨qn,z⟩
  ·subst qn
   rw[z1] at ej2;cases ej2
   exact pa er
  ·exact qn (S.ar.un i j dss _ _ _ a e z z1 ej2 hk (by rw[er];exact .rt))
abbrev tRx (K:PySem.W.Frag) (i k:Nat):TE:=tOp (rIx K) (tVar i) (tC (.int k))
theorem qkh {K:PySem.W.Frag} (S:SR C P N H ρ σ) {i k:Nat} {dss:List (List Cm.D)} {ds:List Cm.D} (e:ρ[i]? = some (.row dss)) (e2:dss[k]? = some ds):∃(p:Addr) (ps:List Addr) (a:Addr) (xs:List V),σ[i]? = some (some (.ref p))∧H p=some (.lst (ps.map V.ref))∧ps[k]? = some a∧H a=some (.lst xs)∧D.flats ds=true∧RepsB C P N true ds xs∧∀{Q:VK},Q (.ref a) H→tRx K i k σ H Q:=by
 obtain⟨p,ps,z1,z2,z3,z4,z5,z6,z7⟩:=S.rootW e
 obtain⟨a,g1,xs,g2,_,_,_,g5,g6⟩:=z6.get e2
 refine⟨p,ps,a,xs,z1,z2,g1,g2,g5,g6,fun {Q} q=>⟨_,z1,.inl ⟨p,ps.map V.ref,k,.ref a,rfl,rfl,.inl (.inl z2),?_,q⟩⟩⟩
 have lt:=(List.getElem?_eq_some_iff.mp g1).1
 unfold atI
 have hix:ixN (ps.map V.ref).length (k:Int)=some k:=by
  unfold ixN
  rw[List.length_map,if_pos (by omega),if_pos (by omega)]
  simp
 rw[hix]
 show(ps.map V.ref)[k]? = some (.ref a)
 rw[List.getElem?_map,g1];rfl
theorem qlZ {i k:Nat} {D:Ends} {K K':PySem.W.Frag} (q:tS C (fun ρ=>qez ρ i k fun dss _=>.nx (ρ.set i (.row (dss.set k [])))) D σ H):tDrop (tBM0 K "list" rClear (tRx K' i k)) D σ H:=by
 obtain⟨ρ,P,N,S,h⟩:=q
 obtain⟨dss,ds,e,e2,o⟩:=qfn h
 obtain⟨p,ps,a,xs,z1,z2,g1,g2,g5,g6,w⟩:=qkh (K:=K') S e e2
 refine w ⟨.inl ⟨rfl,xs,.inl (.inl g2)⟩,a,xs,rfl,rfl,g2,?_⟩
 exact o σ P N _ (S.writeW (ds':=[]) (xs':=[]) e z1 z2 g1 rfl rfl) (L2.Same.refl _) (L2.Same.refl _)
theorem qeF {d:Cm.D}:∀{ds:List Cm.D},D.flats ds=true→d.flat=true→D.flats (ds++[d])=true
 |[],_,h=>by simp[D.flats,h]
 |x::ds,h,h2=>by
  simp only[D.flats,Bool.and_eq_true,List.cons_append] at h ⊢
  exact⟨h.1,qeF h.2 h2⟩
theorem qga {d:Cm.D} (h2:d.flat=true):∀{ds:List Cm.D} {j:Nat},D.flats ds=true→D.flats (ds.set j d)=true
 |[],_,_=>rfl
 |x::ds,0,h=>by
  simp only[D.flats,Bool.and_eq_true,List.set_cons_zero] at h ⊢
  exact⟨h2,h.2⟩
 |x::ds,j+1,h=>by
  simp only[D.flats,Bool.and_eq_true,List.set_cons_succ] at h ⊢
  exact⟨h.1,qga h2 h.2⟩
theorem qlO {i k:Nat} {g:List Sl→RE ER} {D:Ends} {K K':PySem.W.Frag} (q:tS C (fun ρ=>qez ρ i k fun dss ds=>(g ρ).out fun x=>held x fun d _=>gdO (d.flat&&leB (ds.length+1)) (.nx (ρ.set i (.row (dss.set k (ds++[d])))))) D σ H):tDrop (tBM K "list" rAppend (tRx K' i k) (tCons (tE C g) tNil)) D σ H:=by
 obtain⟨ρ,P,N,S,h⟩:=q
 obtain⟨dss,ds,e,e2,o⟩:=qfn h
 obtain⟨p,ps,a,xs,z1,z2,g1,g2,g5,g6,w⟩:=qkh (K:=K') S e e2
 refine w ⟨.inl ⟨rfl,xs,.inl (.inl g2)⟩,ρ,P,N,S,(o.res S.reg).mono fun x P1 N1 H1 _ a1 h1 v rv=>?_⟩
 obtain⟨N2,d,b,a2,r2,o2⟩:=rv.held a1 h1
 simp only[qas,qag,Bool.and_eq_true] at o2
 split at o2
 ·rename_i hl
  refine⟨a,xs,v,rfl,rfl,a1.hh _ _ g2,by rw[g6.length];exact hl.2,?_⟩
  exact o2 σ P1 N2 _ ((S.adv a2).writeW e z1 (a2.hh _ _ z2) g1 (qeF g5 hl.1) (Reps.append (RepsB.adv a2.pp a2.nn g6) (Reps.one (Rep.flat d v hl.1 r2)))) a2.pp a2.nn
 ·exact o2.elim
theorem qlX {z:Bool} {i k:Nat} {g gi:List Sl→RE ER} {D:Ends} {K':PySem.W.Frag} (q:tS C (fun ρ=>(g ρ).out fun x=>held x fun d _=>qez ρ i k fun dss ds=>(gi ρ).out fun m=>match m.d with
  |.int m=>match ixN ds.length m with
   |some j=>gdO d.flat (.nx (frz z (ρ.set i (.row (dss.set k (ds.set j d))))))
   |none=>.bad
  |_=>.bad) D σ H):tAsg (tE C g) (gSub (tRx K' i k) (tE C gi) rSetL) D σ H:=by
 obtain⟨ρ,P,N,S,h⟩:=q
 refine⟨ρ,P,N,S,(h.res S.reg).mono fun x P1 N1 H1 _ a1 h1 v rv=>?_⟩
 obtain⟨N2,d,b,a2,r2,o⟩:=rv.held a1 h1
 have S2:=S.adv a2
 obtain⟨dss,ds,e,e2,o⟩:=qfn o
 obtain⟨p,ps,a,xs,z1,z2,g1,g2,g5,g6,w⟩:=qkh (K:=K') S2 e e2
 refine w ⟨ρ,P1,N2,S2,((o.adv a2.pp a2.nn).res S2.reg).mono fun m P3 N3 H3 _ a3 h3 u ru=>?_⟩
 have r3:=(S2.adv a3).reg
 split at h3
 ·rename_i k' ek
  have w3:=ru.w r3
  rw[ek] at w3
  cases w3.int
  split at h3
  ·rename_i j ej
   simp only[qas] at h3
   split at h3
   ·rename_i hf
    refine⟨a,xs,k',j,rfl,rfl,a3.hh _ _ g2,by rw[g6.length];exact ej,?_⟩
    have SS:=(S2.adv a3).writeW e z1 (a3.hh _ _ z2) g1 (qga hf g5) (Reps.set (Rep.flat d v hf (RepB.adv a3.pp a3.nn r2)) j (RepsB.adv a3.pp a3.nn g6))
    unfold frz at h3
    cases z with
    |false=>exact h3 _ P3 N3 _ SS a3.pp a3.nn
    |true=>exact h3 _ P3 _ _ SS.peek a3.pp (a3.nn.trans SS.nwN)
   ·exact h3.elim
  ·exact h3.elim
 ·exact h3.elim
end
end Cm
namespace Cm
open PySem PySem.Spec PyProof.Rows L2
def qnu:Ex→Bool
 |.cmp _ _ _=>true
 |.chn _ _ _ _ _=>true
 |.isN _=>true
 |.notN _=>true
 |.dhas _ _ _=>true
 |.pk e=>qnu e
 |_=>false
def qqg:Expr→Bool
 |.UnaryOp .Not _ _=>false
 |.BoolOp _ _ _=>false
 |.IfExp _ _ _ _=>false
 |.Compare _ _ _ _=>false
 |_=>true
def tgE (T:Tb) (fc:Option Scope) (sc:Scope):List Nat→List Expr→Bool
 |[],[]=>true
 |i::is,.Name x _::es=>decide (T.N[i]? = some x)&&tgB fc sc x&&tgE T fc sc is es
 |_,_=>false
def qgT (T:Tb) (fc:Option Scope) (sc:Scope) (tg:List Nat) (t:Expr):Bool:=
 match t with
 |.Name x _=>match tg with
  |[i]=>decide (T.N[i]? = some x)&&tgB fc sc x
  |_=>false
 |.Tuple es _ _=>decide (tg.length≠1)&&tgE T fc sc tg es
 |_=>false
def qiN:Expr→Bool
 |.Tuple _ _ _=>true
 |_=>false
def qqD (T:Tb) (sc:Scope):List Nat→List Expr→Bool
 |[],[]=>true
 |k::ks,.Name n _::es=>decide ((T.ck[k]?).map (·.1)=some n)&&glB sc n&&nmB n&&qqD T sc ks es
 |_,_=>false
mutual
def qaf (T:Tb):Ex→Option Scope→Scope→Expr→Bool
 |.nev,_,_,_=>true
 |.var i,_,sc,e=>match e with
  |.Name x _=>decide (T.N[i]? = some x)&&qen sc x&&nmB x
  |_=>false
 |.cint i,_,_,e=>match e with
  |.Constant (.int j) _ _=>decide (i=j)
  |_=>false
 |.cbl i,_,_,e=>match e with
  |.Constant (.bool j) _ _=>decide (i=j)
  |_=>false
 |.cnon,_,_,e=>match e with
  |.Constant .none _ _=>true
  |_=>false
 |.cstr s,_,_,e=>match e with
  |.Constant (.str x) _ _=>decide (x=qar s)
  |_=>false
 |.glo k,_,sc,e=>match e with
  |.Name x _=>decide (T.gc[k]? = some x)&&glB sc x&&nmB x
  |_=>false
 |.bin o a b,fc,sc,e=>match e with
  |.BinOp x op y _=>decide (op=qr2 o)&&qaf T a fc sc x&&qaf T b fc sc y
  |_=>false
 |.cmp o a b,fc,sc,e=>match e with
  |.Compare x [op] [y] _=>decide (op=qe9 o) && !behindInMarks (qe9 o) y&&qaf T a fc sc x&&qaf T b fc sc y
  |_=>false
 |.chn o p a b c,fc,sc,e=>match e with
  |.Compare x [op,op'] [y,z] _=>decide (op=qe9 o)&&decide (op'=qe9 p) && !lastMarks [qe9 o,qe9 p] [y,z]&&qaf T a fc sc x&&qaf T b fc sc y&&qaf T c fc sc z
  |_=>false
 |.isN a,fc,sc,e=>match e with
  |.Compare x [.Is] [.Constant .none _ _] _=>qaf T a fc sc x
  |_=>false
 |.notN a,fc,sc,e=>match e with
  |.Compare x [.IsNot] [.Constant .none _ _] _=>qaf T a fc sc x
  |_=>false
 |.bop c es,fc,sc,e=>match e with
  |.BoolOp op xs _=>decide (op=qkt c) && !xs.isEmpty&&qaz T es fc sc xs
  |_=>false
 |.bnot a,fc,sc,e=>match e with
  |.UnaryOp .Not x _=>qaf T a fc sc x
  |_=>false
 |.neg a,fc,sc,e=>match e with
  |.UnaryOp .USub x _=>qaf T a fc sc x
  |_=>false
 |.ife c a b,fc,sc,e=>match e with
  |.IfExp t x y _=>qi5 T c fc sc t&&qaf T a fc sc x&&qaf T b fc sc y
  |_=>false
 |.tup es,fc,sc,e=>match e with
  |.Tuple xs _ _=>qaz T es fc sc xs&&xs.all qac&&decide (xs.length<1000)
  |_=>false
 |.lst es,fc,sc,e=>match e with
  |.List xs _=>qaz T es fc sc xs&&xs.all qac&&decide (xs.length<1000)
  |_=>false
 |.idx a i,fc,sc,e=>match e with
  |.Subscript x y _=>qaf T a fc sc x&&qaf T i fc sc y&&qbG y
  |_=>false
 |.slc a lo hi,fc,sc,e=>match e with
  |.Subscript x (.Slice l h none _) _=>qaf T a fc sc x&&qpc T lo fc sc l&&qpc T hi fc sc h
  |_=>false
 |.rev a,fc,sc,e=>match e with
  |.Subscript x (.Slice none none (some (.UnaryOp .USub (.Constant (.int j) _ _) _)) _) _=>decide (j=1)&&qaf T a fc sc x
  |_=>false
 |.call f es,fc,sc,e=>match e with
  |.Call (.Name x _) xs [] _=>decide (T.fn[f]? = some (x,xs.length))&&glB sc x&&nmB x&&qaz T es fc sc xs&&xs.all qac
  |_=>false
 |.callc f es,fc,sc,e=>match e with
  |.Call (.Name x _) xs [] _=>decide (T.fn[f]? = some (x,xs.length))&&glB sc x&&nmB x&&qaz T es fc sc xs&&xs.all qac
  |_=>false
 |.pri p es,fc,sc,e=>match e with
  |.Call (.Name x _) xs [] _=>decide (x=qmR p)&&glB sc x && !xs.isEmpty&&qaz T es fc sc xs&&xs.all qac
  |_=>false
 |.lrng es,fc,sc,e=>match e with
  |.Call (.Name l _) [.Call (.Name r _) xs [] _] [] _=>decide (l=("list" : Str))&&decide (r=("range" : Str))&&glB sc "list" && glB sc "range" && qaz T es fc sc xs&&xs.all qac&&decide (xs.length=1∨xs.length=2)
  |_=>false
 |.mth m o es,fc,sc,e=>match e with
  |.Call (.Attribute x mn apos) xs [] pos=>decide (T.mn[m]? = some (mn,xs.length))&&qaf T o fc sc x&&qaz T es fc sc xs&&xs.all qac&&qdt x&&decide (xs.length<20)&&(apos.endLine == pos.line)
  |_=>false
 |.bm1 m o a,fc,sc,e=>match e with
  |.Call (.Attribute x mn apos) [y] [] pos=>decide (mn=bmN m)&&qaf T o fc sc x&&qaf T a fc sc y&&qac y&&qdt x&&(apos.endLine == pos.line)
  |_=>false
 |.blen o,fc,sc,e=>match e with
  |.Call (.Attribute x mn apos) [] [] pos=>decide (mn=("bit_length" : Str))&&qaf T o fc sc x&&qdt x&&(apos.endLine == pos.line)
  |_=>false
 |.fld o f,fc,sc,e=>match e with
  |.Attribute x fn _=>decide (T.fs[f]? = some fn)&&qaf T o fc sc x&&qdt x
  |_=>false
 |.isi a t,fc,sc,e=>match e with
  |.Call (.Name x _) [y,.Name n _] [] _=>decide (x=("isinstance" : Str))&&decide (n=tyN t)&&glB sc "isinstance" && glB sc (tyN t)&&qaf T a fc sc y&&qac y
  |_=>false
 |.lc own it tg cnd e',fc,sc,e=>match e with
  |.ListComp elt [⟨tgt,iter,ifs,0⟩] scope _=>blkC T.N sc scope (own.map fun i=>(T.N.getD i Str.empty,i))&&qma T it fc sc tgt iter&&qgT T (some scope) (relS scope sc) tg tgt&&tg.all (fun i=>decide (i∈own))&&qmd T cnd (some scope) (relS scope sc) ifs&&qaf T e' (some scope) (relS scope sc) elt&&qhI iter
  |_=>false
 |.inxL o a,fc,sc,e=>match e with
  |.Call (.Attribute x mn apos) [y] [] pos=>decide (mn=("index" : Str))&&qaf T o fc sc x&&qaf T a fc sc y&&qac y&&qdt x&&(apos.endLine == pos.line)
  |_=>false
 |.inxS o a,fc,sc,e=>match e with
  |.Call (.Attribute x mn apos) [y] [] pos=>decide (mn=("index" : Str))&&qaf T o fc sc x&&qaf T a fc sc y&&qac y&&qdt x&&(apos.endLine == pos.line)
  |_=>false
 |.isc a k,fc,sc,e=>match e with
  |.Call (.Name x _) [y,.Name n _] [] _=>decide (x=("isinstance" : Str))&&glB sc "isinstance" && decide ((T.ck[k]?).map (·.1)=some n)&&glB sc n&&nmB n&&qaf T a fc sc y&&qac y
  |_=>false
 |.iscT a ks,fc,sc,e=>match e with
  |.Call (.Name x _) [y,.Tuple ns _ _] [] _=>decide (x=("isinstance" : Str))&&glB sc "isinstance" && decide (ks≠[])&&Nat.ble ks.length 100&&qqD T sc ks ns&&qaf T a fc sc y&&qac y
  |_=>false
 |.cntL o a,fc,sc,e=>match e with
  |.Call (.Attribute x mn apos) [y] [] pos=>decide (mn=("count" : Str))&&qaf T o fc sc x&&qaf T a fc sc y&&qac y&&qdt x&&(apos.endLine == pos.line)
  |_=>false
 |.mmd k a d,fc,sc,e=>match e with
  |.Call (.Name x _) [y] [⟨some n,z,_⟩] _=>decide (x=(mmN k:Str))&&decide (n=("default" : Str))&&glB sc x&&qaf T a fc sc y&&qac y&&qaf T d fc sc z
  |_=>false
 |.din n k a,fc,sc,e=>match e with
  |.Compare x [op] [.Name y _] _=>decide (op=(match n with | true=>.In | false=>.NotIn))&&decide (T.dc[k]? = some y)&&glB sc y&&nmB y&&qaf T a fc sc x
  |_=>false
 |.dgi k a,fc,sc,e=>match e with
  |.Subscript (.Name y _) x _=>decide (T.dc[k]? = some y)&&glB sc y&&nmB y&&qaf T a fc sc x&&qbG x
  |_=>false
 |.srtL a,fc,sc,e=>match e with
  |.Call (.Name x _) [y] [] _=>decide (x=("sorted" : Str))&&glB sc "sorted" && qaf T a fc sc y&&qac y
  |_=>false
 |.sset a,fc,sc,e=>match e with
  |.Call (.Name l _) [.Call (.Name r _) [y] [] _] [] _=>decide (l=("sorted" : Str))&&decide (r=("set" : Str))&&glB sc "sorted" && glB sc "set" && qaf T a fc sc y&&qac y
  |_=>false
 |.lrev a,fc,sc,e=>match e with
  |.Call (.Name l _) [.Call (.Name r _) [y] [] _] [] _=>decide (l=("list" : Str))&&decide (r=("reversed" : Str))&&glB sc "list" && glB sc "reversed" && qaf T a fc sc y&&qac y
  |_=>false
 |.inxT k a,fc,sc,e=>match e with
  |.Call (.Attribute (.Name x _) mn apos) [y] [] pos=>decide (T.gc[k]? = some x)&&glB sc x&&nmB x&&decide (mn=("index" : Str))&&qaf T a fc sc y&&qac y&&(apos.endLine == pos.line)
  |_=>false
 |.lset a,fc,sc,e=>match e with
  |.Call (.Name l _) [.Call (.Name r _) [y] [] _] [] _=>decide (l=("len" : Str))&&decide (r=("set" : Str))&&glB sc "len" && glB sc "set" && qaf T a fc sc y&&qac y
  |_=>false
 |.new k es,fc,sc,e=>match e with
  |.Call (.Name x _) xs [] _=>decide (T.nw[k]? = some (x,xs.length))&&glB sc x&&nmB x&&qaz T es fc sc xs&&xs.all qac
  |_=>false
 |.pk a,fc,sc,e=>qaf T a fc sc e
 |.dhas n i a,fc,sc,e=>match e with
  |.Compare x [op] [.Name y _] _=>decide (op=(match n with | true=>.In | false=>.NotIn))&&decide (T.N[i]? = some y)&&qen sc y&&nmB y&&qaf T a fc sc x
  |_=>false
 |.dat i a,fc,sc,e=>match e with
  |.Subscript (.Name y _) x _=>decide (T.N[i]? = some y)&&qen sc y&&nmB y&&qaf T a fc sc x&&qbG x
  |_=>false
 |.sfd i f,_,sc,e=>match e with
  |.Attribute (.Name x _) fn _=>decide (T.N[i]? = some x)&&qen sc x&&nmB x&&decide (T.fs[f]? = some fn)
  |_=>false
def qaz (T:Tb):Exs→Option Scope→Scope→List Expr→Bool
 |.nil,_,_,xs=>xs.isEmpty
 |.cons e es,fc,sc,xs=>match xs with
  |x::xs=>qaf T e fc sc x&&qaz T es fc sc xs
  |[]=>false
def qpc (T:Tb):Exs→Option Scope→Scope→Option Expr→Bool
 |.nil,_,_,x=>x.isNone
 |.cons e _,fc,sc,x=>match x with
  |some x=>qaf T e fc sc x
  |none=>false
def qi5 (T:Tb):Te→Option Scope→Scope→Expr→Bool
 |.val e,fc,sc,x=>qaf T e fc sc x&&(qnu e||qqg x)
 |.bop c ts,fc,sc,x=>match x with
  |.BoolOp op xs _=>decide (op=qkt c) && !xs.isEmpty&&qh5 T ts fc sc xs
  |_=>false
 |.not t,fc,sc,x=>match x with
  |.UnaryOp .Not x _=>qi5 T t fc sc x
  |_=>false
def qh5 (T:Tb):Tes→Option Scope→Scope→List Expr→Bool
 |.nil,_,_,xs=>xs.isEmpty
 |.cons t ts,fc,sc,xs=>match xs with
  |x::xs=>qi5 T t fc sc x&&qh5 T ts fc sc xs
  |[]=>false
def qmd (T:Tb):Tes→Option Scope→Scope→List Expr→Bool
 |.nil,_,_,xs=>xs.isEmpty
 |.cons t ts,fc,sc,xs=>match xs with
  |[x]=>qi5 T t fc sc x&&(match ts with
   |.nil=>true
   |_=>false)
  |_=>false
def qma (T:Tb):Itx→Option Scope→Scope→Expr→Expr→Bool
 |.any e,fc,sc,_,x=>qaf T e fc sc x
 |.rng es,fc,sc,_,x=>match x with
  |.Call (.Name r _) xs [] _=>decide (r=("range" : Str))&&glB sc "range" && qaz T es fc sc xs&&xs.all qac&&decide (xs.length=1∨xs.length=2∨xs.length=3)
  |_=>false
 |.zp a b,fc,sc,t,x=>match x with
  |.Call (.Name r _) [y,z] [] _=>decide (r=("zip" : Str))&&glB sc "zip" && qaf T a fc sc y&&qaf T b fc sc z&&qac y&&qac z&&qiN t
  |_=>false
 |.en a,fc,sc,t,x=>match x with
  |.Call (.Name r _) [y] [] _=>decide (r=("enumerate" : Str))&&glB sc "enumerate" && qaf T a fc sc y&&qac y&&qiN t
  |_=>false
 |.rv a,fc,sc,_,x=>match x with
  |.Call (.Name r _) [y] [] _=>decide (r=("reversed" : Str))&&glB sc "reversed" && qaf T a fc sc y&&qac y
  |_=>false
 |.rvr a,fc,sc,_,x=>match x with
  |.Call (.Name r _) [.Call (.Name r2 _) [y] [] _] [] _=>decide (r=("reversed" : Str))&&decide (r2=("range" : Str))&&glB sc "reversed" && glB sc "range" && qaf T a fc sc y&&qac y
  |_=>false
end
structure XOk (T:Tb) (Γ:Env) (C:Ctx) (X:Cx) (fc:Option Scope) (sc:Scope):Prop where
 nm:X.N=T.N
 nd:X.N.Nodup
 sc:X.env.scope=sc
 K:X.K=C.G.K
 tk:Takes X C.W
 calm:X.calm=true
 un:X.A.units+65<cLine
 blt:∀x∈bltNames,X.mg x=none
 fnc:match fc with
  |none=>X.fn=fun _=>true
  |some so=>X.fn=fun x=>so.names.lookup x == some .cell
 fn:∀(f:Nat) (x:Str) (n:Nat),T.fn[f]? = some (x,n)→∀g,Γ.fn[f]? = some g→∃(k:Nat) (a:Addr) (fd:FuncData) (ps:List Str) (m:Nat) (gf:List Cm.D→RE ER),FnOk X.prog X.w X.K X.mg X.base (L2.CX X.prog X.w) k a fd ps (spD C.G (n+m) gf)∧Room k X.A∧X.mg x=some (.ref a)∧PySem.W.keepIn X.K (.ref a)=true∧Part X.K C.G fd ps n m g.2 gf
 gc:∀(k:Nat) (x:Str),T.gc[k]? = some x→∀c,Γ.gc[k]? = some c→∃u v,X.mg x=some u∧RelV v u∧(∀P N,RepB C P N true c.2 v)∧WrT C.G v
 mt:∀(m:Nat) (x:Str) (n:Nat),T.mn[m]? = some (x,n)→∀c g,Γ.mt c m=some g→MtOk C X x c n g
 fs:∀(f:Nat) (x:Str),T.fs[f]? = some x→∀c k,Γ.fi c f=some k→FdOk C X x c k
 nw:∀(k:Nat) (x:Str) (n:Nat),T.nw[k]? = some (x,n)→∀g,Γ.nw[k]? = some g→NwOk C X x g.1 n g.2
 ck:∀(k:Nat) (x:Str) (own:Bool),T.ck[k]? = some (x,own)→CkOk C.G X.K X.mg x own Γ.ck[k]? Γ.ik[k]?
 xk:∀(k:Nat) (x:Str),T.xk[k]? = some x→∀c,Γ.xk[k]? = some c→RsOk X.K X.mg (C.G.ca c) x
 dc:∀(k:Nat) (x:Str),T.dc[k]? = some x→∀t,Γ.dc[k]? = some t→qo2 C.G X.K X.w X.mg x t.2
end Cm
namespace Cm
open PySem PySem.Spec PyProof.Rows L2
theorem qah {C:Ctx} {X:Cx} {e:Expr} {g g':List Sl→RE ER} (h:PE X e (tE C g')) (q:∀ρ,g ρ=g' ρ):PE X e (tE C g):=by
 have:g=g':=funext q
 rw[this];exact h
theorem qeu {C:Ctx} {X:Cx} {e:Expr} {g g':List Sl→RE Bool} (h:PT X e (tT C g')) (q:∀ρ,g ρ=g' ρ):PT X e (tT C g):=by
 have:g=g':=funext q
 rw[this];exact h
theorem qo9 {C:Ctx} {X:Cx} {e:Expr} {g g':List Sl→RE Bool} (h:PW X e (tT C g')) (q:∀ρ,g ρ=g' ρ):PW X e (tT C g):=by
 have:g=g':=funext q
 rw[this];exact h
theorem qpX {C:Ctx} {X:Cx} {e:List Expr} {g g':List Sl→RE (List ER)} (h:PA X e (tA C g')) (q:∀ρ,g ρ=g' ρ):PA X e (tA C g):=by
 have:g=g':=funext q
 rw[this];exact h
theorem qqx {C:Ctx} {X:Cx} {e:Option Expr} {g g':List Sl→RE (Option Int)} (h:PO X e (tO C g')) (q:∀ρ,g ρ=g' ρ):PO X e (tO C g):=by
 have:g=g':=funext q
 rw[this];exact h
theorem qfJ {C:Ctx} {X:Cx} {t e:Expr} {g g':List Sl→RE Wk} (h:PI X t e (tI C g')) (q:∀ρ,g ρ=g' ρ):PI X t e (tI C g):=by
 have:g=g':=funext q
 rw[this];exact h
theorem qaw {C:Ctx} {X:Cx} {e:Stmt} {g g':List Sl→Out} (h:PS X e (tS C g')) (q:∀ρ,g ρ=g' ρ):PS X e (tS C g):=by
 have:g=g':=funext q
 rw[this];exact h
section
variable {T:Tb} {Γ:Env} {C:Ctx} {X:Cx} {fc:Option Scope} {sc:Scope}
theorem qaM (hs:X.env.scope=sc) {x:Str} (h:qen sc x=true):Vis X.env.scope x:=by
 rw[hs]
 unfold qen at h
 unfold Vis
 split at h
 ·exact .inl (by assumption)
 ·exact .inr (.inl (by assumption))
 ·exact .inr (.inr (by assumption))
 ·cases h
theorem qav (hs:X.env.scope=sc) {x:Str} (h:glB sc x=true):Gl X x:=by
 unfold glB at h
 show X.env.scope.names.lookup x=_
 rw[hs]
 split at h
 ·assumption
 ·cases h
theorem qaG {x:Str} (h:nmB x=true):(x == ("__debug__" : Str))=false∧(x == ("__classdict__" : Str))=false:=by
 unfold nmB at h
 simp only[Bool.and_eq_true,Bool.not_eq_true'] at h
 exact h
theorem qfN (I:XOk T Γ C X fc sc) {x:Str} (h:tgB fc sc x=true):Loc X.env.scope x∧(X.fn x=true∨X.env.scope.names.lookup x=some .local):=by
 rw[I.sc]
 unfold tgB at h
 split at h
 ·rename_i e
  exact⟨.inl e,.inr e⟩
 ·rename_i e
  refine⟨.inr e,.inl ?_⟩
  have:=I.fnc
  cases fc with
  |none=>simp only at this;rw[this]
  |some so=>simp only at this h;rw[this];exact h
 ·cases h
theorem qiW {Γ:Env}:∀(es:Exs) (ρ:List Sl) (r:List ER),evs Γ es ρ=.ok r→∀e∈r,e.noF=true
 |.nil,ρ,r,h,e,he=>by
  rw[evs] at h
  cases h
  cases he
 |.cons a es,ρ,r,h,e,he=>by
  rw[evs] at h
  cases q:ev Γ a ρ with
  |bad=>rw[q] at h;cases h
  |exc c fs=>rw[q] at h;cases h
  |ok x =>
   rw[q] at h
   simp only[RE.bind_ok] at h
   cases q2:evs Γ es ρ with
   |bad=>rw[q2] at h;cases h
   |exc c fs=>rw[q2] at h;cases h
   |ok u =>
    rw[q2] at h
    cases h
    rcases List.mem_cons.mp he with z | z
    ·rw[z];exact qne x
    ·exact qiW es ρ u q2 e z
theorem qbg:∀(es:Exs) (ρ:List Sl) (r:List ER) (xs:List Expr),qaz T es fc sc xs=true→evs Γ es ρ=.ok r→r.length=xs.length
 |.nil,ρ,r,xs,h,e=>by
  unfold qaz at h
  rw[evs] at e
  cases e
  cases xs with
  |nil=>rfl
  |cons _ _=>cases h
 |.cons a es,ρ,r,xs,h,e=>by
  unfold qaz at h
  cases xs with
  |nil=>cases h
  |cons x xs =>
   simp only[Bool.and_eq_true] at h
   rw[evs] at e
   cases e1:ev Γ a ρ with
   |bad=>rw[e1] at e;cases e
   |exc c fs=>rw[e1] at e;cases e
   |ok v =>
    rw[e1] at e
    cases e2:evs Γ es ρ with
    |bad=>rw[RE.bind_ok,e2] at e;cases e
    |exc c fs=>rw[RE.bind_ok,e2] at e;cases e
    |ok q =>
     rw[RE.bind_ok,e2] at e
     cases e
     simp[qbg es ρ q xs h.2 e2]
theorem qc9 {es:Exs} {xs:List Expr} (h:qaz T es fc sc xs=true) (e:xs=[]) (ρ:List Sl):evs Γ es ρ=.ok []:=by
 subst e
 cases es with
 |nil=>rw[evs]
 |cons a es=>unfold qaz at h;cases h
theorem XOk.blk (I:XOk T Γ C X fc sc) {s:Shared} {H:Hp} {scope:Scope} {cl:List (Str × Addr)} {A:Addr} {fp:List Addr}:XOk T Γ C.nx (X.blk s H scope (compEnvC scope cl A X.env) fp) (some scope) (relS scope sc) where
 nm:=I.nm
 nd:=I.nd
 sc:=by
  have:=I.sc
  subst this
  rfl
 K:=I.K
 tk:=takes0
 calm:=I.calm
 un:=I.un
 blt:=I.blt
 fnc:=rfl
 fn:=I.fn
 gc:=I.gc
 mt:=fun m x n h c g e=>by
  obtain⟨h1,h2,h3⟩:=I.mt m x n h c g e
  exact⟨h1,h2,h3⟩
 fs:=fun f x h c k e=>by
  obtain⟨h1,h2,h3,h4⟩:=I.fs f x h c k e
  exact⟨h1,h2,h3,h4⟩
 nw:=fun k x n h g e=>by
  obtain⟨h1⟩:=I.nw k x n h g e
  exact⟨h1⟩
 ck:=I.ck
 xk:=I.xk
 dc:=I.dc
theorem XOk.tr {W:WX} {pn:List (Addr × Obj)} {xe:Value→Shared→Prop} (I:XOk T Γ C X fc sc) (tk:Takes (X.tr pn xe) W):XOk T Γ { C with W:=W } (X.tr pn xe) fc sc where
 nm:=I.nm
 nd:=I.nd
 sc:=I.sc
 K:=I.K
 tk:=tk
 calm:=I.calm
 un:=I.un
 blt:=I.blt
 fnc:=I.fnc
 fn:=I.fn
 gc:=I.gc
 mt:=fun m x n h c g e=>by
  obtain⟨h1,h2,h3⟩:=I.mt m x n h c g e
  exact⟨h1,h2,h3⟩
 fs:=fun f x h c k e=>by
  obtain⟨h1,h2,h3,h4⟩:=I.fs f x h c k e
  exact⟨h1,h2,h3,h4⟩
 nw:=fun k x n h g e=>by
  obtain⟨h1⟩:=I.nw k x n h g e
  exact⟨h1⟩
 ck:=I.ck
 xk:=I.xk
 dc:=I.dc
theorem qdV (I:XOk T Γ C X fc sc):∀(tg:List Nat) (es:List Expr),tgE T fc sc tg es=true→PGs X es (qf3 tg)∧es.length=tg.length∧(assignEach es X.env).length=es.length∧(assignEach es X.env).findIdx? (·.1)=none
 |[],[],_=>⟨pgs_nil,rfl,rfl,rfl⟩
 |i::is,.Name x p::es,h=>by
  unfold tgE at h
  simp only[Bool.and_eq_true,decide_eq_true_eq] at h
  obtain⟨h1,h2⟩:=qfN I h.1.2
  obtain⟨h3,h4,h5,h6⟩:=qdV I is es h.2
  refine⟨pgs_cons (pg_name I.nd (by rw[I.nm];exact h.1.1) h1 h2) h3 rfl,by simp[h4],?_,?_⟩
  ·show(_::assignEach es X.env).length=_
   simp[h5]
  ·show List.findIdx? (·.1) ((false,_)::assignEach es X.env)=none
   rw[List.findIdx?_cons]
   simp[h6]
 |[],_::_,h=>by cases h
 |_::_,[],h=>by cases h
theorem qdC (I:XOk T Γ C X fc sc) {tg:List Nat} {t:Expr} (h:qgT T fc sc tg t=true):PG X t (tG C tg):=by
 unfold qgT at h
 split at h
 ·split at h
  ·simp only[Bool.and_eq_true,decide_eq_true_eq] at h
   obtain⟨h1,h2⟩:=qfN I h.2
   exact qlp I.nd (by rw[I.nm];exact h.1) h1 h2
  ·cases h
 ·simp only[Bool.and_eq_true,decide_eq_true_eq] at h
  obtain⟨h3,h4,h5,h6⟩:=qdV I _ _ h.2
  exact qmW I.K I.calm h3 h4 h.1 h5 h6
 ·cases h
end
theorem qmp {T:Tb} {Γ:Env} {C:Ctx} {X:Cx} {fc:Option Scope} {sc:Scope} (I:XOk T Γ C X fc sc):∀{ks:List Nat} {es:List Expr},qqD T sc ks es=true→∃(vs:List V) (us:List Value),PA X es (tVs vs)∧ClsVs vs us∧us.length=ks.length ∧
  ∀c b,qkF (ks.map fun k=>Γ.ck[k]?) c=some b→PySem.W.kitAny C.G.K (.ref (C.G.ca c)) us=some b∧(ks≠[]→ExcC C.G.K (C.G.ca c))
 |[],[],_=>⟨[],[],pa_nil,.nil,rfl,fun c b e=>⟨by cases e;rfl,fun h=>absurd rfl h⟩⟩
 |[],_::_,h=>by cases h
 |_::_,[],h=>by cases h
 |k::ks,e::es,h=>by
  unfold qqD at h
  split at h
  ·rename_i heq1 heq2
   cases heq1
  ·rename_i n p heq1 heq2
   cases heq1
   cases heq2
   simp only[Bool.and_eq_true,decide_eq_true_eq] at h
   obtain⟨⟨⟨hk,hg⟩,hn⟩,hr⟩:=h
   obtain⟨vs,us,pa,kv,ul,ok⟩:=qmp I hr
   cases q:T.ck[k]? with
   |none=>rw[q] at hk;cases hk
   |some t =>
    obtain⟨x,own⟩:=t
    rw[q] at hk
    cases hk
    obtain⟨v,u,z,h1,_⟩:=I.ck k _ own q
    refine⟨v::vs,u::us,pa_cons (qmC (qav I.sc hg) (I.blt _ (by decide)) (qaG hn).1 (by rw[I.K] at *;exact z)) pa,.cons z.1 kv,by simp[ul],fun c b e=>?_⟩
    rw[List.map_cons] at e
    cases gq:Γ.ck[k]? with
    |none=>rw[gq] at e;cases e
    |some g =>
     rw[gq] at e
     unfold qkF at e
     cases gc:g c with
     |none=>rw[gc] at e;cases e
     |some b1 =>
      rw[gc] at e
      obtain⟨k1,_,k3⟩:=h1 g gq c b1 gc
      rw[I.K] at k1 k3
      refine⟨?_,fun _=>k3⟩
      unfold PySem.W.kitAny
      rw[k1]
      cases b1 with
      |true=>exact e
      |false=>exact(ok c b e).1
  ·cases h
end Cm
set_option maxHeartbeats 1000000
namespace Cm
open PySem PySem.Spec PyProof.Rows L2
theorem qps (p:Pri):qmR p∈bltNames:=by cases p<;>decide
theorem qrc (k:Bool):(mmN k:Str)∈bltNames:=by cases k<;>decide
theorem qrq (t:Ty):tyN t∈bltNames:=by cases t<;>decide
theorem qmV {l:List Expr} (h:l.length=1):∃a,l=[a]:=by
 match l,h with
 |[a],_=>exact⟨a,rfl⟩
theorem qg8 {l:List Expr} (h:l.length=2):∃a b,l=[a,b]:=by
 match l,h with
 |[a,b],_=>exact⟨a,b,rfl⟩
theorem qdZ {l:List Expr} (h:l.length=3):∃a b c,l=[a,b,c]:=by
 match l,h with
 |[a,b,c],_=>exact⟨a,b,c,rfl⟩
mutual
theorem qab {T:Tb} {Γ:Env}:∀(ir:Ex) {C:Ctx} {X:Cx} {fc:Option Scope} {sc:Scope} {e:Expr},XOk T Γ C X fc sc→qaf T ir fc sc e=true→PE X e (tE C (ev Γ ir))∧(qnu ir=true→PT X e (tT C fun ρ=>(ev Γ ir ρ).bind fun x=>qdv x.d))
 |.nev,C,X,fc,sc,e,I,h=>by
  exact⟨qah qbS fun ρ=>by rw[ev],fun z=>by cases z⟩
 |.var i,C,X,fc,sc,e,I,h=>by
  unfold qaf at h
  split at h
  case h_2=>cases h
  rename_i x p
  simp only[Bool.and_eq_true,decide_eq_true_eq] at h
  obtain⟨n1,n2⟩:=qaG h.2
  exact⟨qah (qoL (by rw[I.nm];exact h.1.1) (qaM I.sc h.1.2) n1 n2) fun ρ=>by rw[ev]<;>rfl,fun z=>by cases z⟩
 |.cint i,C,X,fc,sc,e,I,h=>by
  unfold qaf at h
  split at h
  case h_2=>cases h
  simp only[decide_eq_true_eq] at h
  subst h
  exact⟨qah (qiH (d:=.int i) pe_int fun _ _=>rfl) fun ρ=>by rw[ev];rfl,fun z=>by cases z⟩
 |.cbl i,C,X,fc,sc,e,I,h=>by
  unfold qaf at h
  split at h
  case h_2=>cases h
  simp only[decide_eq_true_eq] at h
  subst h
  exact⟨qah (qiH (d:=.bl i) pe_bl fun _ _=>rfl) fun ρ=>by rw[ev];rfl,fun z=>by cases z⟩
 |.cnon,C,X,fc,sc,e,I,h=>by
  unfold qaf at h
  split at h
  case h_2=>cases h
  exact⟨qah (qiH (d:=.non) pe_non fun _ _=>rfl) fun ρ=>by rw[ev];rfl,fun z=>by cases z⟩
 |.cstr s,C,X,fc,sc,e,I,h=>by
  unfold qaf at h
  split at h
  case h_2=>cases h
  simp only[decide_eq_true_eq] at h
  subst h
  exact⟨qah (qiH (d:=.str s) pe_str fun _ _=>rfl) fun ρ=>by rw[ev];rfl,fun z=>by cases z⟩
 |.glo k,C,X,fc,sc,e,I,h=>by
  unfold qaf at h
  split at h
  case h_2=>cases h
  rename_i x p
  simp only[Bool.and_eq_true,decide_eq_true_eq] at h
  obtain⟨n1,n2⟩:=qaG h.2
  cases q:Γ.gc[k]? with
  |none=>exact⟨qah qbS fun ρ=>by rw[ev,q],fun z=>by cases z⟩
  |some c =>
   obtain⟨u,v,h1,h2,h3,_⟩:=I.gc k x h.1.1 c q
   exact⟨qah (qiH (d:=c.2) (pe_glob (qav I.sc h.1.2) h1 h2 n1) h3) fun ρ=>by rw[ev,q],fun z=>by cases z⟩
 |.bin o a b,C,X,fc,sc,e,I,h=>by
  unfold qaf at h
  split at h
  case h_2=>cases h
  simp only[Bool.and_eq_true,decide_eq_true_eq] at h
  obtain⟨⟨rfl,ha⟩,hb⟩:=h
  exact⟨qah (qpl (qpf o) (I.K ▸ qqz o) (qab a I ha).1 (qab b I hb).1) fun ρ=>by rw[ev],fun z=>by cases z⟩
 |.cmp o a b,C,X,fc,sc,e,I,h=>by
  unfold qaf at h
  split at h
  case h_2=>cases h
  simp only[Bool.and_eq_true,decide_eq_true_eq,Bool.not_eq_true'] at h
  obtain⟨⟨⟨rfl,hm⟩,ha⟩,hb⟩:=h
  exact⟨qah (qnH I.un I.K (qab a I ha).1 (qab b I hb).1 hm) fun ρ=>by rw[ev],fun _=>qeu (qoP I.un I.K (qab a I ha).1 (qab b I hb).1 hm) fun ρ=>by rw[ev]⟩
 |.chn o p a b c,C,X,fc,sc,e,I,h=>by
  unfold qaf at h
  split at h
  case h_2=>cases h
  simp only[Bool.and_eq_true,decide_eq_true_eq,Bool.not_eq_true'] at h
  obtain⟨⟨⟨⟨⟨rfl,rfl⟩,hm⟩,ha⟩,hb⟩,hc⟩:=h
  exact⟨qah (qnC I.un I.K (qab a I ha).1 (qab b I hb).1 (qab c I hc).1 hm) fun ρ=>by rw[ev],fun _=>qeu (qmT I.un I.K (qab a I ha).1 (qab b I hb).1 (qab c I hc).1 hm) fun ρ=>by rw[ev]⟩
 |.isN a,C,X,fc,sc,e,I,h=>by
  unfold qaf at h
  split at h
  case h_2=>cases h
  exact⟨qah (qnA (qab a I h).1) fun ρ=>by rw[ev];rfl,fun _=>qeu (qnf (qab a I h).1) fun ρ=>by rw[ev];rfl⟩
 |.notN a,C,X,fc,sc,e,I,h=>by
  unfold qaf at h
  split at h
  case h_2=>cases h
  exact⟨qah (qlT (qab a I h).1) fun ρ=>by rw[ev];rfl,fun _=>qeu (ql6 (qab a I h).1) fun ρ=>by rw[ev];rfl⟩
 |.bop c es,C,X,fc,sc,e,I,h=>by
  unfold qaf at h
  split at h
  case h_2=>cases h
  rename_i op xs p
  simp only[Bool.and_eq_true,decide_eq_true_eq,Bool.not_eq_true'] at h
  obtain⟨⟨rfl,hx⟩,he⟩:=h
  exact⟨qah (qjq c es I he (by rintro rfl;cases hx)) fun ρ=>by rw[ev],fun z=>by cases z⟩
 |.bnot a,C,X,fc,sc,e,I,h=>by
  unfold qaf at h
  split at h
  case h_2=>cases h
  exact⟨qah (qky I.K (qab a I h).1) fun ρ=>by rw[ev],fun z=>by cases z⟩
 |.neg a,C,X,fc,sc,e,I,h=>by
  unfold qaf at h
  split at h
  case h_2=>cases h
  exact⟨qah (qoi (qab a I h).1) fun ρ=>by rw[ev]<;>rfl,fun z=>by cases z⟩
 |.ife c a b,C,X,fc,sc,e,I,h=>by
  unfold qaf at h
  split at h
  case h_2=>cases h
  simp only[Bool.and_eq_true] at h
  exact⟨qah (qnv (qdq c I h.1.1) (qab a I h.1.2).1 (qab b I h.2).1) fun ρ=>by rw[ev],fun z=>by cases z⟩
 |.tup es,C,X,fc,sc,e,I,h=>by
  unfold qaf at h
  split at h
  case h_2=>cases h
  rename_i xs k p
  simp only[Bool.and_eq_true,decide_eq_true_eq] at h
  refine⟨qah (qoR (qbe es I h.1.1 h.1.2) fun ρ r e=>?_) fun ρ=>by rw[ev],fun z=>by cases z⟩
  rw[qbg es ρ r xs h.1.1 e]
  have:(1000:Nat)≤LIM:=by decide
  omega
 |.lst es,C,X,fc,sc,e,I,h=>by
  unfold qaf at h
  split at h
  case h_2=>cases h
  rename_i xs p
  simp only[Bool.and_eq_true,decide_eq_true_eq] at h
  refine⟨qah (qog (qbe es I h.1.1 h.1.2) fun ρ r e=>?_) fun ρ=>by rw[ev],fun z=>by cases z⟩
  rw[qbg es ρ r xs h.1.1 e]
  have:(1000:Nat)≤LIM:=by decide
  omega
 |.idx a i,C,X,fc,sc,e,I,h=>by
  unfold qaf at h
  split at h
  case h_2=>cases h
  simp only[Bool.and_eq_true] at h
  exact⟨qah (qny I.K (qab a I h.1.1).1 (qab i I h.1.2).1 (qod h.2)) fun ρ=>by rw[ev],fun z=>by cases z⟩
 |.slc a lo hi,C,X,fc,sc,e,I,h=>by
  unfold qaf at h
  split at h
  case h_2=>cases h
  simp only[Bool.and_eq_true] at h
  exact⟨qah (qoU I.K (qab a I h.1.1).1 (qmk lo I h.1.2) (qmk hi I h.2)) fun ρ=>by rw[ev],fun z=>by cases z⟩
 |.rev a,C,X,fc,sc,e,I,h=>by
  unfold qaf at h
  split at h
  case h_2=>cases h
  simp only[Bool.and_eq_true,decide_eq_true_eq] at h
  obtain⟨rfl,h⟩:=h
  exact⟨qah (qn7 I.K (qab a I h).1) fun ρ=>by rw[ev]<;>rfl,fun z=>by cases z⟩
 |.call f es,C,X,fc,sc,e,I,h=>by
  unfold qaf at h
  split at h
  case h_2=>cases h
  rename_i x p xs q
  simp only[Bool.and_eq_true,decide_eq_true_eq] at h
  obtain⟨⟨⟨⟨hf,hg⟩,hn⟩,he⟩,hs⟩:=h
  cases e:Γ.fn[f]? with
  |none=>exact⟨qah qbS fun ρ=>by rw[ev,e],fun z=>by cases z⟩
  |some g =>
   obtain⟨k,a,fd,ps,m,gf,F,hr,hm,hk,dv,dvs,dus,hb,hdv,hdm,hdr,hgf⟩:=I.fn f x xs.length hf g e
   exact⟨qah (qlm F hr (qav I.sc hg) hm hk hb hdv hdm hdr hgf I.tk (qbe es I he hs) (qaG hn).1 (qbW hs) (fun ρ r e=>qbg es ρ r xs he e) (fun z ρ=>qc9 he z ρ)) fun ρ=>by rw[ev,e],fun z=>by cases z⟩
 |.callc f es,C,X,fc,sc,e,I,h=>by
  unfold qaf at h
  split at h
  case h_2=>cases h
  rename_i x p xs q
  simp only[Bool.and_eq_true,decide_eq_true_eq] at h
  obtain⟨⟨⟨⟨hf,hg⟩,hn⟩,he⟩,hs⟩:=h
  cases e:Γ.fn[f]? with
  |none=>exact⟨qah qbS fun ρ=>by rw[ev,e],fun z=>by cases z⟩
  |some g =>
   obtain⟨k,a,fd,ps,m,gf,F,hr,hm,hk,dv,dvs,dus,hb,hdv,hdm,hdr,hgf⟩:=I.fn f x xs.length hf g e
   exact⟨qah (qkJ F hr (qav I.sc hg) hm hk hb hdv hdm hdr hgf I.tk (qbe es I he hs) (qaG hn).1 (qbW hs) (fun ρ r e=>qbg es ρ r xs he e) (fun ρ r e=>qiW es ρ r e) (fun z ρ=>qc9 he z ρ)) fun ρ=>by rw[ev,e]<;>rfl,fun z=>by cases z⟩
 |.pri p es,C,X,fc,sc,e,I,h=>by
  unfold qaf at h
  split at h
  case h_2=>cases h
  rename_i x p' xs q
  simp only[Bool.and_eq_true,decide_eq_true_eq,Bool.not_eq_true'] at h
  obtain⟨⟨⟨⟨rfl,hg⟩,hx⟩,he⟩,hs⟩:=h
  cases xs with
  |nil=>cases hx
  |cons y ys =>
   have pl:=qbW (X:=X) hs
   exact⟨qah (qoN I.K I.calm (qav I.sc hg) (I.blt _ (qps p)) (qbe es I he hs) (pl.1 _ _ rfl) (pl.2 _ _ _ rfl)) fun ρ=>by rw[ev],fun z=>by cases z⟩
 |.din n k a,C,X,fc,sc,e,I,h=>by
  unfold qaf at h
  split at h
  case h_2=>cases h
  rename_i x op y p pos
  simp only[Bool.and_eq_true,decide_eq_true_eq] at h
  obtain⟨⟨⟨⟨hop,hk⟩,hg⟩,hn⟩,ha⟩:=h
  cases q:Γ.dc[k]? with
  |none=>exact⟨qah qbS fun ρ=>by rw[ev,q],fun z=>by cases z⟩
  |some t=>exact⟨qah (qns hop (qav I.sc hg) (qaG hn).1 (I.dc k y hk t q) (qab a I ha).1) fun ρ=>by rw[ev,q],fun z=>by cases z⟩
 |.dgi k a,C,X,fc,sc,e,I,h=>by
  unfold qaf at h
  split at h
  case h_2=>cases h
  rename_i y p x pos
  simp only[Bool.and_eq_true,decide_eq_true_eq] at h
  obtain⟨⟨⟨⟨hk,hg⟩,hn⟩,ha⟩,hs⟩:=h
  cases q:Γ.dc[k]? with
  |none=>exact⟨qah qbS fun ρ=>by rw[ev,q],fun z=>by cases z⟩
  |some t=>exact⟨qah (qnS (qav I.sc hg) (qaG hn).1 (qod hs) (I.dc k y hk t q) (qab a I ha).1) fun ρ=>by rw[ev,q],fun z=>by cases z⟩
 |.pk a,C,X,fc,sc,e,I,h=>by
  unfold qaf at h
  exact⟨qah (qpV (qab a I h).1) fun ρ=>by rw[ev],fun z=>qeu (qp7 ((qab a I h).2 z)) fun ρ=>by rw[ev]⟩
 |.dhas n i a,C,X,fc,sc,e,I,h=>by
  unfold qaf at h
  split at h
  case h_2=>cases h
  rename_i x op y p pos
  simp only[Bool.and_eq_true,decide_eq_true_eq] at h
  obtain⟨⟨⟨⟨hop,h1⟩,h2⟩,h3⟩,ha⟩:=h
  obtain⟨n1,n2⟩:=qaG h3
  exact⟨qah (qll I.un hop (by rw[I.nm];exact h1) (qaM I.sc h2) n1 n2 (qab a I ha).1) fun ρ=>by rw[ev]<;>rfl,fun _=>qeu (qkC I.un hop (by rw[I.nm];exact h1) (qaM I.sc h2) n1 n2 (qab a I ha).1) fun ρ=>by rw[ev]<;>rfl⟩
 |.dat i a,C,X,fc,sc,e,I,h=>by
  unfold qaf at h
  split at h
  case h_2=>cases h
  rename_i y p x pos
  simp only[Bool.and_eq_true,decide_eq_true_eq] at h
  obtain⟨⟨⟨⟨h1,h2⟩,h3⟩,ha⟩,hs⟩:=h
  obtain⟨n1,n2⟩:=qaG h3
  exact⟨qah (qof I.un (by rw[I.nm];exact h1) (qaM I.sc h2) n1 n2 (qab a I ha).1 hs) fun ρ=>by rw[ev]<;>rfl,fun z=>by cases z⟩
 |.srtL a,C,X,fc,sc,e,I,h=>by
  unfold qaf at h
  split at h
  case h_2=>cases h
  simp only[Bool.and_eq_true,decide_eq_true_eq] at h
  obtain⟨⟨⟨rfl,hg⟩,ha⟩,hs⟩:=h
  exact⟨qah (qnz I.K I.un (qav I.sc hg) (I.blt _ (by decide)) (qab a I ha).1 (qaa hs)) fun ρ=>by rw[ev],fun z=>by cases z⟩
 |.lrng es,C,X,fc,sc,e,I,h=>by
  unfold qaf at h
  split at h
  case h_2=>cases h
  rename_i l p1 r p2 xs p3 p4
  simp only[Bool.and_eq_true,decide_eq_true_eq] at h
  obtain⟨⟨⟨⟨⟨⟨rfl,rfl⟩,hg⟩,hg2⟩,he⟩,hs⟩,hl⟩:=h
  refine⟨?_,fun z=>by cases z⟩
  have m1:=I.blt "list" (by decide)
  have m2:=I.blt "range" (by decide)
  cases es with
  |nil =>
   cases xs with
   |nil=>simp at hl
   |cons _ _=>unfold qaz at he;cases he
  |cons a es =>
   cases xs with
   |nil=>simp at hl
   |cons x xs =>
    unfold qaz at he
    simp only[Bool.and_eq_true] at he
    simp only[List.all_cons,Bool.and_eq_true] at hs
    have h1:=(qab a I he.1).1
    cases es with
    |nil =>
     cases xs with
     |cons _ _=>have:=he.2;unfold qaz at this;cases this
     |nil =>
      refine qah (qad (pe_listRg I.calm (qav I.sc hg) m1 (prg_1 (qav I.sc hg2) m2 h1 (qaa hs.1)) rfl) fun σ H Q q=>qj3 q) fun ρ=>?_
      rw[ev,evs,evs]
    |cons b es =>
     cases xs with
     |nil=>have:=he.2;unfold qaz at this;cases this
     |cons y xs =>
      have he2:=he.2
      unfold qaz at he2
      simp only[Bool.and_eq_true] at he2
      simp only[List.all_cons,Bool.and_eq_true] at hs
      have h2:=(qab b I he2.1).1
      cases xs with
      |cons _ _=>simp at hl
      |nil =>
       cases es with
       |cons _ _=>have:=he2.2;unfold qaz at this;cases this
       |nil =>
        refine qah (qad (pe_listRg I.calm (qav I.sc hg) m1 (prg_2 (qav I.sc hg2) m2 h1 h2 (qaa hs.1) (qaa hs.2.1) (qcm (by simp[hs.2.1]))) rfl) fun σ H Q q=>qi7 q) fun ρ=>?_
        rw[ev,evs,evs,evs]
 |.mth m o es,C,X,fc,sc,e,I,h=>by
  unfold qaf at h
  split at h
  case h_2=>cases h
  rename_i x mn apos xs pos
  simp only[Bool.and_eq_true,decide_eq_true_eq] at h
  obtain⟨⟨⟨⟨⟨⟨hm,ho⟩,he⟩,hs⟩,hb⟩,hn⟩,hl⟩:=h
  exact⟨qah (qoG (mt:=fun c=>Γ.mt c m) (fun c g' e=>I.mt m mn xs.length hm c g' e) I.tk (qab o I ho).1 (qbe es I he hs) (qbW hs) (fun ρ r e=>qbg es ρ r xs he e) (fun z ρ=>qc9 he z ρ) (qlb hb hs hn hl)) fun ρ=>by rw[ev]<;>rfl,fun z=>by cases z⟩
 |.bm1 m o a,C,X,fc,sc,e,I,h=>by
  unfold qaf at h
  split at h
  case h_2=>cases h
  simp only[Bool.and_eq_true,decide_eq_true_eq] at h
  obtain⟨⟨⟨⟨⟨rfl,ho⟩,ha⟩,hs⟩,hb⟩,hl⟩:=h
  exact⟨qah (qpx I.K (qab o I ho).1 (qab a I ha).1 (qaa hs) (qbs hb) hl) fun ρ=>by rw[ev]<;>rfl,fun z=>by cases z⟩
 |.blen o,C,X,fc,sc,e,I,h=>by
  unfold qaf at h
  split at h
  case h_2=>cases h
  simp only[Bool.and_eq_true,decide_eq_true_eq] at h
  obtain⟨⟨⟨rfl,ho⟩,hb⟩,hl⟩:=h
  exact⟨qah (qkx (qab o I ho).1 (qbs hb) hl) fun ρ=>by rw[ev]<;>rfl,fun z=>by cases z⟩
 |.fld o f,C,X,fc,sc,e,I,h=>by
  unfold qaf at h
  split at h
  case h_2=>cases h
  rename_i x fn p
  simp only[Bool.and_eq_true,decide_eq_true_eq] at h
  obtain⟨⟨hf,ho⟩,hb⟩:=h
  exact⟨qah (qov (fi:=fun c=>Γ.fi c f) I.K (fun c k e=>I.fs f fn hf c k e) (qab o I ho).1 (qbs hb)) fun ρ=>by rw[ev]<;>rfl,fun z=>by cases z⟩
 |.isc a k,C,X,fc,sc,e,I,h=>by
  unfold qaf at h
  split at h
  case h_2=>cases h
  simp only[Bool.and_eq_true,decide_eq_true_eq] at h
  obtain⟨⟨⟨⟨⟨⟨rfl,hg⟩,hk⟩,hg2⟩,hn⟩,ha⟩,hs⟩:=h
  obtain⟨n1,n2⟩:=qaG hn
  cases q:T.ck[k]? with
  |none=>rw[q] at hk;cases hk
  |some t =>
   obtain⟨x,own⟩:=t
   rw[q] at hk
   cases hk
   exact⟨qah (qow I.K (qav I.sc hg) (I.blt _ (by decide)) (I.blt _ (by decide)) (qav I.sc hg2) n1 (I.ck k x own q) (qab a I ha).1 (qaa hs) rfl) fun ρ=>by rw[ev],fun z=>by cases z⟩
 |.mmd k a d,C,X,fc,sc,e,I,h=>by
  unfold qaf at h
  split at h
  case h_2=>cases h
  simp only[Bool.and_eq_true,decide_eq_true_eq] at h
  obtain⟨⟨⟨⟨⟨rfl,rfl⟩,hg⟩,ha⟩,hs⟩,hd⟩:=h
  exact⟨qah (qqh I.K I.calm (qav I.sc hg) (I.blt _ (qrc k)) (qab a I ha).1 (qab d I hd).1 (qaa hs)) fun ρ=>by rw[ev],fun z=>by cases z⟩
 |.cntL o a,C,X,fc,sc,e,I,h=>by
  unfold qaf at h
  split at h
  case h_2=>cases h
  simp only[Bool.and_eq_true,decide_eq_true_eq] at h
  obtain⟨⟨⟨⟨⟨rfl,ho⟩,ha⟩,hs⟩,hb⟩,hl⟩:=h
  exact⟨qah (qoF I.K (qab o I ho).1 (qab a I ha).1 hs (qbs hb) hl (by rw[qaa hs];rfl)) fun ρ=>by rw[ev]<;>rfl,fun z=>by cases z⟩
 |.isi a t,C,X,fc,sc,e,I,h=>by
  unfold qaf at h
  split at h
  case h_2=>cases h
  simp only[Bool.and_eq_true,decide_eq_true_eq] at h
  obtain⟨⟨⟨⟨⟨rfl,rfl⟩,hg⟩,hg2⟩,ha⟩,hs⟩:=h
  exact⟨qah (qoT I.K (qav I.sc hg) (I.blt _ (by decide)) (qav I.sc hg2) (I.blt _ (qrq t)) (qab a I ha).1 (qaa hs) rfl) fun ρ=>by rw[ev],fun z=>by cases z⟩
 |.lc own it tg cnd e',C,X,fc,sc,e,I,h=>by
  unfold qaf at h
  split at h
  case h_2=>cases h
  rename_i elt tgt iter ifs scope p
  simp only[Bool.and_eq_true] at h
  obtain⟨⟨⟨⟨⟨⟨hb,hi⟩,ht⟩,hsub⟩,hc⟩,he⟩,hs⟩:=h
  have hsub':∀i∈tg,i∈own:=fun i hi=>by simpa using List.all_eq_true.mp hsub i hi
  have hb':BlkOk X.N X.env.scope scope (own.map fun i=>(T.N.getD i Str.empty,i)):=by
   rw[I.nm,I.sc];exact blkOk_by hb
  have ho:((own.map fun i=>(T.N.getD i Str.empty,i)).map (·.2))=own:=by
   rw[List.map_map]
   exact List.map_id' own
  have lc:=pe_lc (elt:=elt) (pos:=p) I.calm I.nd (qkj it I hi) hb' (fun s H Cd cl fp=>qdC (I.blk (s:=s) (H:=H) (cl:=cl) (A:=Cd) (fp:=fp)) ht) (fun s H Cd cl fp=>qjI cnd (I.blk (s:=s) (H:=H) (cl:=cl) (A:=Cd) (fp:=fp)) hc) (fun s H Cd cl fp=>(qab e' (I.blk (s:=s) (H:=H) (cl:=cl) (A:=Cd) (fp:=fp)) he).1) (qfD hs)
  rw[ho] at lc
  exact⟨qah (qad lc fun σ H Q q=>qmq hsub' q) fun ρ=>by rw[ev]<;>rfl,fun z=>by cases z⟩
 |.inxL o a,C,X,fc,sc,e,I,h=>by
  unfold qaf at h
  split at h
  case h_2=>cases h
  simp only[Bool.and_eq_true,decide_eq_true_eq] at h
  obtain⟨⟨⟨⟨⟨rfl,ho⟩,ha⟩,hs⟩,hb⟩,hl⟩:=h
  exact⟨qah (qkA I.K (qab o I ho).1 (qab a I ha).1 hs (qbs hb) hl (by rw[qaa hs];rfl)) fun ρ=>by rw[ev]<;>rfl,fun z=>by cases z⟩
 |.inxS o a,C,X,fc,sc,e,I,h=>by
  unfold qaf at h
  split at h
  case h_2=>cases h
  simp only[Bool.and_eq_true,decide_eq_true_eq] at h
  obtain⟨⟨⟨⟨⟨rfl,ho⟩,ha⟩,hs⟩,hb⟩,hl⟩:=h
  exact⟨qah (qle (qab o I ho).1 (qab a I ha).1 hs (qbs hb) hl) fun ρ=>by rw[ev]<;>rfl,fun z=>by cases z⟩
 |.lset a,C,X,fc,sc,e,I,h=>by
  unfold qaf at h
  split at h
  case h_2=>cases h
  simp only[Bool.and_eq_true,decide_eq_true_eq] at h
  obtain⟨⟨⟨⟨⟨rfl,rfl⟩,hg⟩,hg2⟩,ha⟩,hs⟩:=h
  exact⟨qah (qlg I.K I.calm (qav I.sc hg) (I.blt _ (by decide)) (qav I.sc hg2) (I.blt _ (by decide)) (qab a I ha).1 hs) fun ρ=>by rw[ev],fun z=>by cases z⟩
 |.sset a,C,X,fc,sc,e,I,h=>by
  unfold qaf at h
  split at h
  case h_2=>cases h
  simp only[Bool.and_eq_true,decide_eq_true_eq] at h
  obtain⟨⟨⟨⟨⟨rfl,rfl⟩,hg⟩,hg2⟩,ha⟩,hs⟩:=h
  exact⟨qah (qlf I.K I.calm (qav I.sc hg) (I.blt _ (by decide)) (qav I.sc hg2) (I.blt _ (by decide)) (qab a I ha).1 hs) fun ρ=>by rw[ev],fun z=>by cases z⟩
 |.iscT a ks,C,X,fc,sc,e,I,h=>by
  unfold qaf at h
  split at h
  case h_2=>cases h
  simp only[Bool.and_eq_true,decide_eq_true_eq] at h
  obtain⟨⟨⟨⟨⟨⟨rfl,hg⟩,hz⟩,hl⟩,hn⟩,ha⟩,hs⟩:=h
  obtain⟨vs,us,pa,kv,ul,ok⟩:=qmp I hn
  exact⟨qah (qkI I.K (qav I.sc hg) (I.blt _ (by decide)) pa kv (by rw[ul,sizeLine_eq];rw[Nat.ble_eq] at hl;omega) (fun c b e=>⟨(ok c b e).1,(ok c b e).2 hz⟩) (qab a I ha).1 hs) fun ρ=>by rw[ev],fun z=>by cases z⟩
 |.lrev a,C,X,fc,sc,e,I,h=>by
  unfold qaf at h
  split at h
  case h_2=>cases h
  simp only[Bool.and_eq_true,decide_eq_true_eq] at h
  obtain⟨⟨⟨⟨⟨rfl,rfl⟩,hg⟩,hg2⟩,ha⟩,hs⟩:=h
  exact⟨qah (qlM I.K I.calm (qav I.sc hg) (I.blt _ (by decide)) (qav I.sc hg2) (I.blt _ (by decide)) (qab a I ha).1 hs) fun ρ=>by rw[ev],fun z=>by cases z⟩
 |.inxT k a,C,X,fc,sc,e,I,h=>by
  unfold qaf at h
  split at h
  case h_2=>cases h
  rename_i x p mn apos y pos
  simp only[Bool.and_eq_true,decide_eq_true_eq] at h
  obtain⟨⟨⟨⟨⟨⟨hk,hg⟩,hn⟩,rfl⟩,ha⟩,hs⟩,hl⟩:=h
  cases q:Γ.gc[k]? with
  |none=>exact⟨qah qbS fun ρ=>by rw[ev,q],fun z=>by cases z⟩
  |some c =>
   obtain⟨u,v,h1,h2,h3,h4⟩:=I.gc k x hk c q
   cases q2:qkW c.2 with
   |none=>exact⟨qah qbS fun ρ=>by simp only[ev,q,q2],fun z=>by cases z⟩
   |some ss=>exact⟨qah (ql5 I.K (qav I.sc hg) h1 h2 (qaG hn).1 h3 h4 q2 (qab a I ha).1 hs hl) fun ρ=>by simp only[ev,q,q2],fun z=>by cases z⟩
 |.new k es,C,X,fc,sc,e,I,h=>by
  unfold qaf at h
  split at h
  case h_2=>cases h
  rename_i x p xs q
  simp only[Bool.and_eq_true,decide_eq_true_eq] at h
  obtain⟨⟨⟨⟨hf,hg⟩,hn⟩,he⟩,hs⟩:=h
  cases e:Γ.nw[k]? with
  |none=>exact⟨qah qbS fun ρ=>by rw[ev,e],fun z=>by cases z⟩
  |some g=>exact⟨qah (qmU (I.nw k x xs.length hf g e) (qav I.sc hg) I.tk (qbe es I he hs) (qaG hn).1 (qbW hs) (fun ρ r e=>qbg es ρ r xs he e) (fun z ρ=>qc9 he z ρ) rfl) fun ρ=>by rw[ev,e],fun z=>by cases z⟩
 |.sfd i f,C,X,fc,sc,e,I,h=>by
  unfold qaf at h
  split at h
  case h_2=>cases h
  rename_i x p fn p'
  simp only[Bool.and_eq_true,decide_eq_true_eq] at h
  obtain⟨⟨⟨h1,h2⟩,h3⟩,h4⟩:=h
  obtain⟨n1,n2⟩:=qaG h3
  exact⟨qah (qad (pe_fld (pe_var (i:=i) (by rw[I.nm];exact h1) (qaM I.sc h2) n1 n2) rfl) fun σ H Q q=>qnx (fi:=fun c=>Γ.fi c f) (fun c k e=>I.fs f fn h4 c k e) q) fun ρ=>by rw[ev]<;>rfl,fun z=>by cases z⟩
theorem qbe {T:Tb} {Γ:Env}:∀(ir:Exs) {C:Ctx} {X:Cx} {fc:Option Scope} {sc:Scope} {xs:List Expr},XOk T Γ C X fc sc→qaz T ir fc sc xs=true→xs.all qac=true→PA X xs (tA C (evs Γ ir))
 |.nil,C,X,fc,sc,xs,I,h,hs=>by
  unfold qaz at h
  cases xs with
  |nil=>exact qpX qm4 fun ρ=>by rw[evs]
  |cons _ _=>cases h
 |.cons a es,C,X,fc,sc,xs,I,h,hs=>by
  unfold qaz at h
  cases xs with
  |nil=>cases h
  |cons x xs =>
   simp only[Bool.and_eq_true] at h
   simp only[List.all_cons,Bool.and_eq_true] at hs
   exact qpX (qkS (qab a I h.1).1 (qbe es I h.2 hs.2) (qaa hs.1)) fun ρ=>by rw[evs]
theorem qjq {T:Tb} {Γ:Env}:∀(c:Bool) (ir:Exs) {C:Ctx} {X:Cx} {fc:Option Scope} {sc:Scope} {xs:List Expr} {pos:Pos},XOk T Γ C X fc sc→qaz T ir fc sc xs=true→xs≠[]→PE X (.BoolOp (qkt c) xs pos) (tE C (qi3 Γ c ir))
 |c,.nil,C,X,fc,sc,xs,pos,I,h,hn=>by
  unfold qaz at h
  cases xs with
  |nil=>exact absurd rfl hn
  |cons _ _=>cases h
 |c,.cons a es,C,X,fc,sc,xs,pos,I,h,hn=>by
  unfold qaz at h
  cases xs with
  |nil=>cases h
  |cons x xs =>
   simp only[Bool.and_eq_true] at h
   cases xs with
   |nil =>
    cases es with
    |nil=>exact qah (qqd (qab a I h.1).1) fun ρ=>by rw[qi3,qi3]<;>rfl
    |cons _ _=>have:=h.2;unfold qaz at this;cases this
   |cons y ys=>exact qah (qrG (qab a I h.1).1 (qjq c es I h.2 (by simp))) fun ρ=>by rw[qi3]<;>rfl
theorem qmk {T:Tb} {Γ:Env}:∀(ir:Exs) {C:Ctx} {X:Cx} {fc:Option Scope} {sc:Scope} {x:Option Expr},XOk T Γ C X fc sc→qpc T ir fc sc x=true→PO X x (tO C (evO Γ ir))
 |.nil,C,X,fc,sc,x,I,h=>by
  unfold qpc at h
  cases x with
  |none=>exact qqx qlD fun ρ=>by rw[evO]
  |some _=>cases h
 |.cons a es,C,X,fc,sc,x,I,h=>by
  unfold qpc at h
  cases x with
  |none=>cases h
  |some x=>exact qqx (qlw (qab a I h).1) fun ρ=>by rw[evO]<;>rfl
theorem qdq {T:Tb} {Γ:Env}:∀(ir:Te) {C:Ctx} {X:Cx} {fc:Option Scope} {sc:Scope} {x:Expr},XOk T Γ C X fc sc→qi5 T ir fc sc x=true→PT X x (tT C (evT Γ ir))
 |.val e,C,X,fc,sc,x,I,h=>by
  unfold qi5 at h
  simp only[Bool.and_eq_true,Bool.or_eq_true] at h
  obtain⟨h1,h2⟩:=qab e I h.1
  rcases h.2 with q | q
  ·exact qeu (h2 q) fun ρ=>by rw[evT]
  ·exact qeu (qnw I.K h1 (qqk q)) fun ρ=>by rw[evT]
 |.bop c ts,C,X,fc,sc,x,I,h=>by
  unfold qi5 at h
  split at h
  case h_2=>cases h
  simp only[Bool.and_eq_true,decide_eq_true_eq,Bool.not_eq_true'] at h
  obtain⟨⟨rfl,hx⟩,he⟩:=h
  exact qeu (qjy c ts I he (by rintro rfl;cases hx)).pt fun ρ=>by rw[evT]
 |.not t,C,X,fc,sc,x,I,h=>by
  unfold qi5 at h
  split at h
  case h_2=>cases h
  exact qeu (qoD (qdq t I h)) fun ρ=>by rw[evT]
theorem qjy {T:Tb} {Γ:Env}:∀(c:Bool) (ir:Tes) {C:Ctx} {X:Cx} {fc:Option Scope} {sc:Scope} {xs:List Expr} {pos:Pos},XOk T Γ C X fc sc→qh5 T ir fc sc xs=true→xs≠[]→PW X (.BoolOp (qkt c) xs pos) (tT C (qfw Γ c ir))
 |c,.nil,C,X,fc,sc,xs,pos,I,h,hn=>by
  unfold qh5 at h
  cases xs with
  |nil=>exact absurd rfl hn
  |cons _ _=>cases h
 |c,.cons a es,C,X,fc,sc,xs,pos,I,h,hn=>by
  unfold qh5 at h
  cases xs with
  |nil=>cases h
  |cons x xs =>
   simp only[Bool.and_eq_true] at h
   cases xs with
   |nil =>
    cases es with
    |nil=>exact qo9 (qql (qdq a I h.1)) fun ρ=>by rw[qfw,qfw]
    |cons _ _=>have:=h.2;unfold qh5 at this;cases this
   |cons y ys=>exact qo9 (qq0 (qdq a I h.1) (qjy c es I h.2 (by simp))) fun ρ=>by rw[qfw]
theorem qjI {T:Tb} {Γ:Env}:∀(ir:Tes) {C:Ctx} {X:Cx} {fc:Option Scope} {sc:Scope} {xs:List Expr},XOk T Γ C X fc sc→qmd T ir fc sc xs=true→PTs X xs (tT C (qfw Γ true ir))
 |.nil,C,X,fc,sc,xs,I,h=>by
  unfold qmd at h
  cases xs with
  |nil =>
   refine⟨fun pins s σ H Q J q=>pts_nil.run pins s σ H Q J ?_⟩
   obtain⟨ρ,P,N,S,q⟩:=q
   rw[qfw] at q
   exact q.now S.reg
  |cons _ _=>cases h
 |.cons t ts,C,X,fc,sc,xs,I,h=>by
  unfold qmd at h
  split at h
  case h_2=>cases h
  simp only[Bool.and_eq_true] at h
  cases ts with
  |cons _ _=>have:=h.2;cases this
  |nil =>
   have p:=qdq t I h.1
   refine⟨fun pins s σ H Q J q=>(pts_one p).run pins s σ H Q J ?_⟩
   obtain⟨ρ,P,N,S,q⟩:=q
   rw[qfw,qfw] at q
   refine⟨ρ,P,N,S,q.bind.mono fun k P1 N1 H1 e a1 h1=>?_⟩
   split at h1
   ·rename_i e;subst e;exact h1.now (S.adv a1).reg
   ·exact h1.now (S.adv a1).reg
theorem qkj {T:Tb} {Γ:Env}:∀(ir:Itx) {C:Ctx} {X:Cx} {fc:Option Scope} {sc:Scope} {t x:Expr},XOk T Γ C X fc sc→qma T ir fc sc t x=true→PI X t x (tI C (evI Γ ir))
 |.any e,C,X,fc,sc,t,x,I,h=>by
  unfold qma at h
  exact qfJ (qnt I.K (qab e I h).1) fun ρ=>by rw[evI]
 |.rng es,C,X,fc,sc,t,x,I,h=>by
  unfold qma at h
  split at h
  case h_2=>cases h
  rename_i r p xs q
  simp only[Bool.and_eq_true,decide_eq_true_eq] at h
  obtain⟨⟨⟨⟨rfl,hg⟩,he⟩,hs⟩,hl⟩:=h
  have m2:=I.blt "range" (by decide)
  have pa:=qbe es I he hs
  rcases hl with hl | hl | hl
  ·obtain⟨a,rfl⟩:=qmV hl
   simp only[List.all_cons,Bool.and_eq_true] at hs
   exact qfJ (qme (qav I.sc hg) m2 pa (fun ρ r e=>qbg es ρ r _ he e) (qaa hs.1)) fun ρ=>by rw[evI]
  ·obtain⟨a,b,rfl⟩:=qg8 hl
   have hs':=hs
   simp only[List.all_cons,Bool.and_eq_true] at hs
   exact qfJ (qk7 (qav I.sc hg) m2 pa (fun ρ r e=>qbg es ρ r _ he e) (by rw[qaa hs.1,qaa hs.2.1];rfl) (qaa hs.2.1)) fun ρ=>by rw[evI]
  ·obtain⟨a,b,c,rfl⟩:=qdZ hl
   simp only[List.all_cons,Bool.and_eq_true] at hs
   exact qfJ (qlu (qav I.sc hg) m2 pa (fun ρ r e=>qbg es ρ r _ he e) (qaa hs.1) (qcm (by simp[hs.2.1,hs.2.2.1]))) fun ρ=>by rw[evI]
 |.zp a b,C,X,fc,sc,t,x,I,h=>by
  unfold qma at h
  split at h
  case h_2=>cases h
  simp only[Bool.and_eq_true,decide_eq_true_eq] at h
  obtain⟨⟨⟨⟨⟨⟨rfl,hg⟩,ha⟩,hb⟩,hs⟩,hs2⟩,ht⟩:=h
  cases t<;>try cases ht
  exact qfJ (qpQ I.K (qav I.sc hg) (I.blt _ (by decide)) (qab a I ha).1 (qab b I hb).1 (qaa hs) (qaa hs2) (qcm (by simp[hs2]))) fun ρ=>by rw[evI]<;>rfl
 |.en a,C,X,fc,sc,t,x,I,h=>by
  unfold qma at h
  split at h
  case h_2=>cases h
  simp only[Bool.and_eq_true,decide_eq_true_eq] at h
  obtain⟨⟨⟨⟨rfl,hg⟩,ha⟩,hs⟩,ht⟩:=h
  cases t<;>try cases ht
  exact qfJ (qqe I.K (qav I.sc hg) (I.blt _ (by decide)) (qab a I ha).1 (qaa hs)) fun ρ=>by rw[evI]<;>rfl
 |.rv a,C,X,fc,sc,t,x,I,h=>by
  unfold qma at h
  split at h
  case h_2=>cases h
  simp only[Bool.and_eq_true,decide_eq_true_eq] at h
  obtain⟨⟨⟨rfl,hg⟩,ha⟩,hs⟩:=h
  exact qfJ (qp5 I.K (qav I.sc hg) (I.blt _ (by decide)) (qab a I ha).1 (qaa hs)) fun ρ=>by rw[evI]<;>rfl
 |.rvr a,C,X,fc,sc,t,x,I,h=>by
  unfold qma at h
  split at h
  case h_2=>cases h
  simp only[Bool.and_eq_true,decide_eq_true_eq] at h
  obtain⟨⟨⟨⟨⟨rfl,rfl⟩,hg⟩,hg2⟩,ha⟩,hs⟩:=h
  exact qfJ (qoA (qav I.sc hg) (I.blt _ (by decide)) (qav I.sc hg2) (I.blt _ (by decide)) (qab a I ha).1 (qaa hs)) fun ρ=>by rw[evI]<;>rfl
end
end Cm
namespace Cm
open PySem PySem.Spec PyProof.Rows L2
def swB (sc:Scope) (x:Str) (pn:Pos) (v:Expr):Bool:=match v with
 |.ListComp _ _ scope pos=>decide (sc.names.lookup x≠some .local)||(match sc.kind with
  |.function=>true
  |_=>false)&&decide (sc.names.lookup x=some .local)&&(pn.line == pos.line) && !(scope.names.any fun(n,k)=>n == x&&(k == .local||k == .cell))
 |.SetComp _ _ _ _=>false
 |.DictComp _ _ _ _ _=>false
 |_=>true
def qpm:Ex→Bool
 |.lc _ _ _ _ _=>true
 |_=>false
def qmG:Expr→Bool
 |.Tuple _ _ _=>false
 |_=>true
def qms (T:Tb) (sc:Scope):List Nat→List Expr→Nat→Bool
 |[],[],_=>true
 |i::is,.Name x p::es,l=>decide (T.N[i]? = some x)&&decide (sc.names.lookup x=some .local)&&(p.line == l)&&qms T sc is es l
 |_,_,_=>false
def qgJ (T:Tb) (sc:Scope):Tr→List Stmt→Bool
 |.ex e,ss=>match ss with
  |[.Expr v _]=>qaf T e none sc v&&qbJ v
  |_=>false
 |.as j e,ss=>match ss with
  |[.Assign [.Name x pn] v _]=>decide (T.N[j]? = some x)&&tgB none sc x&&qaf T e none sc v&&(if qpm e then swB sc x pn v else qbJ v)
  |_=>false
 |.iff t a b,ss=>match ss with
  |[.If c xs ys _]=>qi5 T t none sc c&&qgJ T sc a xs&&qgJ T sc b ys
  |_=>false
def qiP (T:Tb) (sc:Scope):Pth→Expr→Bool
 |.var j,e=>match e with
  |.Name x _=>decide (T.N[j]? = some x)&&qen sc x&&nmB x
  |_=>false
 |.ix p k,e=>match e with
  |.Subscript a (.Constant (.int m) _ _) _=>decide (m=(k:Int))&&qiP T sc p a
  |_=>false
def qh6 (T:Tb) (sc:Scope):Ch1→Stmt→Bool
 |.clr p,s=>match s with
  |.Expr (.Call (.Attribute o mn apos) [] [] cpos) _=>decide (mn=("clear" : Str))&&qiP T sc p o&&(apos.endLine == cpos.line)
  |_=>false
 |.app p e,s=>match s with
  |.Expr (.Call (.Attribute o mn apos) [y] [] cpos) _=>decide (mn=("append" : Str))&&qiP T sc p o&&(apos.endLine == cpos.line)&&qaf T e none sc y&&qac y
  |_=>false
 |.put p k e,s=>match s with
  |.Assign [.Subscript o (.Constant (.int m) _ _) _] v _=>decide (m=(k:Int))&&qiP T sc p o&&qaf T e none sc v
  |_=>false
def qk5 (T:Tb) (sc:Scope):List Ch1→List Stmt→Bool
 |[],[]=>true
 |c::cs,s::ss=>qh6 T sc c s&&qk5 T sc cs ss
 |_,_=>false
def qdS (T:Tb) (sc:Scope):Ch→List Stmt→Bool
 |.nil,ss=>ss.isEmpty
 |.one c r,ss=>match ss with
  |s::ss=>qh6 T sc c s&&qdS T sc r ss
  |[]=>false
 |.wlk l p b r,ss=>match ss with
  |.For (.Name x _) iter body [] _::ss=>decide (T.N[l]? = some x)&&tgB none sc x&&qiP T sc p iter&&qk5 T sc b body&&qdS T sc r ss
  |_=>false
 |.ifs j b r,ss=>match ss with
  |.If (.Compare (.Name x _) [.IsNot] [.Constant .none _ _] _) body [] _::ss=>decide (T.N[j]? = some x)&&qen sc x&&nmB x&&qdS T sc b body&&qdS T sc r ss
  |_=>false
def qm1 (T:Tb) (sc:Scope) (i f:Nat) (es:Exs):Stmt→Bool
 |.Assign [.Name x _] (.Call (.Name g _) xs [] _) _=>decide (T.N[i]? = some x)&&tgB none sc x&&decide (T.fn[f]? = some (g,xs.length))&&glB sc g&&nmB g&&qaz T es none sc xs&&xs.all qac
 |_=>false
mutual
def qcf (T:Tb) (sc:Scope):Sm→Stmt→Bool
 |.nev,_=>true
 |.rse k,s=>match s with
  |.Raise (some (.Call (.Name x _) [.Constant (.str _) _ _] [] _)) none _=>decide (T.xk[k]? = some x)&&glB sc x&&nmB x
  |_=>false
 |.tryx k i j b,s=>match s with
  |.Try body [.ExceptHandler (some (.Name x _)) (some n) [.Assign [.Name m _] (.Name n2 _) _] _] [] [] _=>decide ((T.ck[k]?).map (·.1)=some x)&&glB sc x&&nmB x&&decide (T.N[i]? = some n)&&decide (T.N[j]? = some m)&&decide (n2=n)&&decide (sc.names.lookup n=some .local)&&decide (sc.names.lookup m=some .local)&&nmB n&&decide (i≠j)&&qgJ T sc b body
  |_=>false
 |.asg i e,s=>match s with
  |.Assign [.Name x pn] v _=>decide (T.N[i]? = some x)&&tgB none sc x&&qaf T e none sc v&&(if qpm e then swB sc x pn v else qbJ v)
  |_=>false
 |.own i e,s=>match s with
  |.Assign [.Name x pn] v _=>decide (T.N[i]? = some x)&&tgB none sc x&&qaf T e none sc v&&(if qpm e then swB sc x pn v else qbJ v)
  |_=>false
 |.asgT tg e,s=>match s with
  |.Assign [t] v _=>qgT T none sc tg t&&qiN t&&qaf T e none sc v&&qbJ v&&qmG v
  |_=>false
 |.par tg es,s=>match s with
  |.Assign [.Tuple ts _ _] (.Tuple vs _ _) _=>qaz T es none sc vs&&vs.all qac&&qms T sc tg ts ((ts.head?.map (·.pos.line)).getD 0) && !vs.all (foldedForSure 8) && !vs.all (constantsAlone 8)&&decide (tg.Nodup)&&decide (ts.length=vs.length)&&decide (ts.length=2∨ts.length=3)&&(match sc.kind with
   |.function=>true
   |_=>false)
  |_=>false
 |.put i ix e,s=>match s with
  |.Assign [.Subscript (.Name x _) y _] v _=>decide (T.N[i]? = some x)&&qen sc x&&nmB x&&qbG y&&qaf T ix none sc y&&qaf T e none sc v
  |_=>false
 |.app i e,s=>match s with
  |.Expr (.Call (.Attribute (.Name x _) mn apos) [y] [] cpos) _=>decide (T.N[i]? = some x)&&qen sc x&&nmB x&&decide (mn=("append" : Str))&&qaf T e none sc y&&qac y&&(apos.endLine == cpos.line)
  |_=>false
 |.ext i e,s=>match s with
  |.Expr (.Call (.Attribute (.Name x _) mn apos) [y] [] cpos) _=>decide (T.N[i]? = some x)&&qen sc x&&nmB x&&decide (mn=("extend" : Str))&&qaf T e none sc y&&qac y&&(apos.endLine == cpos.line)
  |_=>false
 |.popv j i,s=>match s with
  |.Assign [.Name z _] (.Call (.Attribute (.Name x _) mn apos) [] [] cpos) _=>decide (T.N[j]? = some z)&&tgB none sc z&&decide (T.N[i]? = some x)&&qen sc x&&nmB x&&decide (mn=("pop" : Str))&&(apos.endLine == cpos.line)
  |_=>false
 |.clr i,s=>match s with
  |.Expr (.Call (.Attribute (.Name x _) mn apos) [] [] cpos) _=>decide (T.N[i]? = some x)&&qen sc x&&nmB x&&decide (mn=("clear" : Str))&&(apos.endLine == cpos.line)
  |_=>false
 |.expr e,s=>match s with
  |.Expr v _=>qaf T e none sc v&&qbJ v
  |_=>false
 |.ret e,s=>match s with
  |.Return (some v) _=>qaf T e none sc v
  |_=>false
 |.retN,s=>match s with
  |.Return none _=>true
  |_=>false
 |.pas,s=>match s with
  |.Pass _=>true
  |.Expr (.Constant (.str _) _ _) _=>true
  |_=>false
 |.brk,s=>match s with
  |.Break _=>true
  |_=>false
 |.cnt,s=>match s with
  |.Continue _=>true
  |_=>false
 |.iff c a b,s=>match s with
  |.If t xs ys _=>qi5 T c none sc t&&qau T sc a xs&&qau T sc b ys
  |_=>false
 |.for it tg b,s=>match s with
  |.For t iter body [] _=>qma T it none sc t iter&&qgT T none sc tg t&&qau T sc b body&&qhI iter
  |_=>false
 |.apop i j ix,s=>match s with
  |.Expr (.Call (.Attribute (.Name x _) mn apos) [.Call (.Attribute (.Name y _) mn2 apos2) [z] [] cpos2] [] cpos) _=>decide (T.N[i]? = some x)&&qen sc x&&nmB x&&decide (mn=("append" : Str))&&(apos.endLine == cpos.line)&&decide (T.N[j]? = some y)&&qen sc y&&nmB y&&decide (mn2=("pop" : Str))&&(apos2.endLine == cpos2.line)&&qaf T ix none sc z&&qac z
  |_=>false
 |.popx i e,s=>match s with
  |.Expr (.Call (.Attribute (.Name x _) mn apos) [y] [] cpos) _=>decide (T.N[i]? = some x)&&qen sc x&&nmB x&&decide (mn=("pop" : Str))&&qaf T e none sc y&&qac y&&(apos.endLine == cpos.line)
  |_=>false
 |.rmv i e,s=>match s with
  |.Expr (.Call (.Attribute (.Name x _) mn apos) [y] [] cpos) _=>decide (T.N[i]? = some x)&&qen sc x&&nmB x&&decide (mn=("remove" : Str))&&qaf T e none sc y&&qac y&&(apos.endLine == cpos.line)
  |_=>false
 |.fset f e,s=>match s with
  |.Assign [.Attribute (.Name x _) fn _] v _=>decide (T.N[0]? = some x)&&qen sc x&&nmB x&&decide (T.fs[f]? = some fn)&&qaf T e none sc v
  |_=>false
 |.row i es,s=>match s with
  |.Assign [.Name x _] (.List xs _) _=>decide (T.N[i]? = some x)&&tgB none sc x&&qaz T es none sc xs&&xs.all qac
  |_=>false
 |.rapp i k e,s=>match s with
  |.Expr (.Call (.Attribute (.Subscript (.Name x _) (.Constant (.int m) _ _) _) mn apos) [y] [] cpos) _=>decide (T.N[i]? = some x)&&qen sc x&&nmB x&&decide (m=(k:Int))&&decide (mn=("append" : Str))&&qaf T e none sc y&&qac y&&(apos.endLine == cpos.line)
  |_=>false
 |.rclr i k,s=>match s with
  |.Expr (.Call (.Attribute (.Subscript (.Name x _) (.Constant (.int m) _ _) _) mn apos) [] [] cpos) _=>decide (T.N[i]? = some x)&&qen sc x&&nmB x&&decide (m=(k:Int))&&decide (mn=("clear" : Str))&&(apos.endLine == cpos.line)
  |_=>false
 |.rput _ i k ix e,s=>match s with
  |.Assign [.Subscript (.Subscript (.Name x _) (.Constant (.int m) _ _) _) y _] v _=>decide (T.N[i]? = some x)&&qen sc x&&nmB x&&decide (m=(k:Int))&&qbG y&&qaf T ix none sc y&&qaf T e none sc v
  |_=>false
 |.tapp o e,s=>match s with
  |.Expr (.Call (.Attribute x mn apos) [y] [] cpos) _=>decide (mn=("append" : Str))&&qaf T o none sc x&&qaf T e none sc y&&qac y&&qdt x&&(apos.endLine == cpos.line)
  |_=>false
 |.tclr o,s=>match s with
  |.Expr (.Call (.Attribute x mn apos) [] [] cpos) _=>decide (mn=("clear" : Str))&&qaf T o none sc x&&qdt x&&(apos.endLine == cpos.line)
  |_=>false
 |.dnew i,s=>match s with
  |.Assign [.Name x _] (.Dict [] [] _) _=>decide (T.N[i]? = some x)&&tgB none sc x
  |_=>false
 |.dput i ix e,s=>match s with
  |.Assign [.Subscript (.Name x _) y _] v _=>decide (T.N[i]? = some x)&&qen sc x&&nmB x&&qaf T ix none sc y&&qaf T e none sc v
  |_=>false
 |.asgO i j f es,s=>match s with
  |.Assign [t] (.Call (.Name g _) xs [] _) _=>qgT T none sc [i,j] t&&qiN t&&decide (T.fn[f]? = some (g,xs.length))&&glB sc g&&nmB g&&qaz T es none sc xs&&xs.all qac
  |_=>false
 |.whl c b,s=>match s with
  |.While t body [] _=>qi5 T c none sc t&&qau T sc b body
  |_=>false
def qau (T:Tb) (sc:Scope):Sms→List Stmt→Bool
 |.nil,ss=>ss.isEmpty
 |.cons s ir,ss=>match ss with
  |st::ss=>qcf T sc s st&&qau T sc ir ss
  |[]=>false
 |.frz _ ir,ss=>qau T sc ir ss
 |.hav i f es rd cs ir,ss=>match ss with
  |st::ss=>qm1 T sc i f es st&&qau T sc rd (ss.take rd.len)&&qdS T sc cs ((ss.drop rd.len).take cs.len)&&qau T sc ir ((ss.drop rd.len).drop cs.len)
  |[]=>false
end
theorem qkz {T:Tb} {own:List Nat} {it:Itx} {tg:List Nat} {cnd:Tes} {e':Ex} {fc:Option Scope} {sc:Scope} {v:Expr} (h:qaf T (.lc own it tg cnd e') fc sc v=true):∃elt tgt iter ifs scope p,v=.ListComp elt [⟨tgt,iter,ifs,0⟩] scope p:=by
 unfold qaf at h
 split at h
 case h_2=>cases h
 exact⟨_,_,_,_,_,_,rfl⟩
theorem qlU {elt:Expr} {gs:List Comprehension} {scope:Scope} {pos py:Pos} {y:Str} {l:Nat} {env:PySem.Env} (hy:env.scope.names.lookup y≠some .local):swapsWith (.ListComp elt gs scope pos) (some (.Name y py)) l env=pure false:=by
 have ky:(env.kindOf y == some .local)=false:=beq_eq_false_iff_ne.mpr hy
 unfold swapsWith
 simp only[ky]
 simp
section
variable {T:Tb} {Γ:Env} {C:Ctx} {X:Cx} {sc:Scope}
theorem qgS {i:Nat} {e:Ex} {x:Str} {pn pos:Pos} {v:Expr} (I:XOk T Γ C X none sc) (hi:T.N[i]? = some x) (ht:tgB none sc x=true) (hv:qaf T e none sc v=true) (hw:(if qpm e then swB sc x pn v else qbJ v)=true):PS X (.Assign [.Name x pn] v pos) (tAsg (tE C (ev Γ e)) (gName i)):=by
 obtain⟨h1,h2⟩:=qfN I ht
 cases e with
 |lc own it tg cnd e' =>
  obtain⟨elt,tgt,iter,ifs,scope,p,rfl⟩:=qkz hv
  have hv0:=hv
  unfold qaf at hv
  simp only[Bool.and_eq_true] at hv
  obtain⟨⟨⟨⟨⟨⟨hb,hi'⟩,ht'⟩,hsub⟩,hc⟩,he⟩,hs⟩:=hv
  simp only[qpm,if_true,swB,Bool.or_eq_true,Bool.and_eq_true,decide_eq_true_eq,Bool.not_eq_true'] at hw
  rcases hw with hw | hw
  ·exact ps_set I.nd (by rw[I.nm];exact hi) h1 (qab (.lc own it tg cnd e') I hv0).1 (qlU (by rw[I.sc];exact hw)) h2
  obtain⟨⟨⟨hk,hl⟩,hline⟩,hany⟩:=hw
  have hsub':∀i∈tg,i∈own:=fun i hi=>by simpa using List.all_eq_true.mp hsub i hi
  have hb':BlkOk X.N X.env.scope scope (own.map fun i=>(T.N.getD i Str.empty,i)):=by
   rw[I.nm,I.sc];exact blkOk_by hb
  have ho:((own.map fun i=>(T.N.getD i Str.empty,i)).map (·.2))=own:=by
   rw[List.map_map]
   exact List.map_id' own
  have hk':X.env.scope.kind=.function:=by
   rw[I.sc]
   cases e:sc.kind<;>simp_all
  have hl':X.env.scope.names.lookup x=some .local:=by rw[I.sc];exact hl
  have lc:=ps_setLc (i:=i) (y:=x) (py:=pn) (spos:=pos) (elt:=elt) (pos:=p) I.calm I.nd (by rw[I.nm];exact hi) hl' (sw_true hk' hl' hline hany) (qkj it I hi') hb' (fun s H Cd cl fp=>qdC (I.blk (s:=s) (H:=H) (cl:=cl) (A:=Cd) (fp:=fp)) ht') (fun s H Cd cl fp=>qjI cnd (I.blk (s:=s) (H:=H) (cl:=cl) (A:=Cd) (fp:=fp)) hc) (fun s H Cd cl fp=>(qab e' (I.blk (s:=s) (H:=H) (cl:=cl) (A:=Cd) (fp:=fp)) he).1) (qfD hs)
  rw[ho] at lc
  refine qae lc fun D σ H q=>?_
  have eg:(ev Γ (.lc own it tg cnd e'))=gLc own tg (evI Γ it) (qfw Γ true cnd) (ev Γ e'):=by funext ρ;rw[ev]<;>rfl
  unfold tAsg at q ⊢
  rw[eg] at q
  exact qmq hsub' q
 |_ =>
  have hc:qbJ v=true:=hw
  exact ps_set I.nd (by rw[I.nm];exact hi) h1 (qab _ I hv).1 (qcJ hc) h2
theorem qfc {x y:Expr} {p:Pos} {v:Expr} {l:Nat} {env:PySem.Env}:swapsWithSole [.Subscript x y p] v l env=pure false:=by
 cases v<;>rfl
theorem qc7 {x y:Expr} {p:Pos} {v:Expr} {env:PySem.Env}:swappedStores [.Subscript x y p] v env=pure none:=by
 cases v<;>rfl
theorem qgt {t v:Expr} {env:PySem.Env} (h:qmG v=true):swappedStores [t] v env=pure none:=by
 cases v<;>first | (cases t<;>rfl) | cases h
theorem qjx {t v:Expr} {l:Nat} {env:PySem.Env} (h:qbJ v=true):swapsWithSole [t] v l env=pure false:=qcJ h
theorem qg4 {x y:Expr} {p:Pos} {env:PySem.Env} (h:qbG y=true) (v:Value):assign (.Subscript x y p) env v=(do
   let ov ←holding [v] (eval x env)
   let iv ←holding [v,ov] (eval y env)
   standAt p
   holding [v,ov,iv] (setItem ov iv v)
   release [v,ov,iv] []):=by
 cases y<;>first | rfl | cases h
theorem qjw {t:Expr} {env:PySem.Env} (h:qiN t=true):(assignEach [t] env).map (·.2)=[assign t env]:=by
 cases t<;>first | rfl | cases h
theorem qb8 {e:Expr} {env:PySem.Env} {cpos:Pos} (h:qac e=true):((backTo cpos (starEach [e] env)).all (fun x=>!x.1)&&(backToKw cpos (keywordEach [] env)).all (fun x=>x.1.isSome)
   && decide ([e].length+([]:List Keyword).length+(if ([]:List Keyword).isEmpty then 0 else 1)<30))=true:=by
 rw[qaa h];rfl
end
theorem qiR {e:Expr} (h:(match e with
    |Expr.Starred _ _=>true
    |_=>false)=true) (n:qac e=true):False:=by
 cases e<;>first | exact(Bool.false_ne_true n).elim | exact(Bool.false_ne_true h).elim
theorem qm0 {x y:Str} {px py pt pt2:Pos} {kt k2:Nat} {a b:Expr} {env:PySem.Env} (hk:env.scope.kind=.function) (hx:env.scope.names.lookup x=some .local) (hy:env.scope.names.lookup y=some .local) (hl:(py.line == px.line)=true) (hxy:x≠y)
  (hs:[a,b].all qac=true) (hf:[a,b].all (foldedForSure 8)=false) (hc:[a,b].all (constantsAlone 8)=false) :
  swappedStores [.Tuple [.Name x px,.Name y py] kt pt] (.Tuple [a,b] k2 pt2) env=pure (some [x,y]):=by
 have kx:env.kindOf x=some .local:=hx
 have ky:env.kindOf y=some .local:=hy
 have bk:env.blockKind=.function:=by unfold Env.blockKind;rw[hk];rfl
 unfold swappedStores
 simp only[List.length_cons,List.length_nil,bk,hf,hc,List.filterMap_cons,List.filterMap_nil,kx,ky,List.head?_cons,Option.map_some,Option.getD_some]
 have hl':py.line=px.line:=by simpa using hl
 have hyx:(y == x)=false:=by simpa using fun z=>hxy z.symm
 simp[Expr.pos,hl',List.eraseDups_cons,hyx]
 simp only[List.all_cons,Bool.and_eq_true] at hs
 rintro(z | z)
 ·exact(qiR z hs.1).elim
 ·exact(qiR z hs.2.1).elim
theorem qoQ {x y w:Str} {px py pw pt pt2:Pos} {kt k2:Nat} {a b c:Expr} {env:PySem.Env} (hk:env.scope.kind=.function) (hx:env.scope.names.lookup x=some .local) (hy:env.scope.names.lookup y=some .local) (hw:env.scope.names.lookup w=some .local) (hl:(py.line == px.line)=true) (hl2:(pw.line == px.line)=true) (hxy:x≠y) (hxw:x≠w) (hyw:y≠w)
  (hs:[a,b,c].all qac=true) (hf:[a,b,c].all (foldedForSure 8)=false) (hc:[a,b,c].all (constantsAlone 8)=false) :
  swappedStores [.Tuple [.Name x px,.Name y py,.Name w pw] kt pt] (.Tuple [a,b,c] k2 pt2) env=pure (some [x,y,w]):=by
 have kx:env.kindOf x=some .local:=hx
 have ky:env.kindOf y=some .local:=hy
 have kw:env.kindOf w=some .local:=hw
 have bk:env.blockKind=.function:=by unfold Env.blockKind;rw[hk];rfl
 unfold swappedStores
 simp only[List.length_cons,List.length_nil,bk,hf,hc,List.filterMap_cons,List.filterMap_nil,kx,ky,kw,List.head?_cons,Option.map_some,Option.getD_some]
 have hl':py.line=px.line:=by simpa using hl
 have hl2':pw.line=px.line:=by simpa using hl2
 have hyx:(y == x)=false:=by simpa using fun z=>hxy z.symm
 have hwx:(w == x)=false:=by simpa using fun z=>hxw z.symm
 have hwy:(w == y)=false:=by simpa using fun z=>hyw z.symm
 simp[Expr.pos,hl',hl2',List.eraseDups_cons,hyx,hwx,hwy]
 simp only[List.all_cons,Bool.and_eq_true] at hs
 rintro(z | z | z)
 ·exact(qiR z hs.1).elim
 ·exact(qiR z hs.2.1).elim
 ·exact(qiR z hs.2.2.1).elim
section
variable {T:Tb} {Γ:Env} {C:Ctx} {X:Cx} {sc:Scope}
theorem qcO {P N H H0:Hp} {er:ER} {v:V} {f:D→Bool→Out} {D:Ends} {P0 N0:Hp} (h:ERr C P N H H0 er v) (hf:er.frz=er) (o:outS C P0 N0 D (held er f)):∃d b,er=.val d b∧RepB C P N b d v∧outS C P0 N0 D (f d b):=by
 cases er with
 |val d b=>exact⟨d,b,rfl,h,o⟩
 |fre d b=>cases hf
 |brw d b=>exact o.elim
theorem qg5:∀{es:Exs} {ρ:List Sl} {r:List ER},evs Γ es ρ=.ok r→∀e∈r,e.frz=e
 |.nil,ρ,r,h=>by rw[evs] at h;cases h;intro e he;cases he
 |.cons a es,ρ,r,h=>by
  rw[evs] at h
  cases e1:ev Γ a ρ with
  |bad=>rw[e1] at h;cases h
  |exc c fs=>rw[e1] at h;cases h
  |ok v =>
   rw[e1,RE.bind_ok] at h
   cases e2:evs Γ es ρ with
   |bad=>rw[e2] at h;cases h
   |exc c fs=>rw[e2] at h;cases h
   |ok q =>
    rw[e2,RE.bind_ok] at h
    cases h
    intro e he
    rcases List.mem_cons.mp he with rfl | he
    ·cases v<;>rfl
    ·exact qg5 e2 e he
theorem qkG {i j:Nat} {es:Exs} {D:Ends} {σ:L2.St} {H:Hp} (q:tS C (fun ρ=>(evs Γ es ρ).out fun r=>qi2 [i,j] r ρ) D σ H):tPar i j (tA C (evs Γ es)) D σ H:=by
 obtain⟨ρ,P,N,S,h⟩:=q
 refine⟨ρ,P,N,S,(h.res S.reg).mono fun r P1 N1 H1 er a1 h1 vs rv=>?_⟩
 have hf:=qg5 er
 cases r with
 |nil=>exact h1.elim
 |cons e1 r1 =>
  obtain⟨v1,u1,rfl,w1,rv⟩:=rv
  obtain⟨d1,b1,rfl,y1,o1⟩:=qcO w1 (hf e1 (by simp)) h1
  cases r1 with
  |nil=>exact o1.elim
  |cons e2 r2 =>
   obtain⟨v2,u2,rfl,w2,rv⟩:=rv
   obtain⟨d2,b2,rfl,y2,o2⟩:=qcO w2 (hf e2 (by simp)) o1
   cases r2 with
   |nil =>
    cases rv
    exact⟨v1,v2,rfl,o2 _ P1 N1 H1 (((S.adv a1).setV y1).setV y2) a1.pp a1.nn⟩
   |cons _ _=>exact o2.elim
theorem ql2 {i j k:Nat} {es:Exs} {D:Ends} {σ:L2.St} {H:Hp} (q:tS C (fun ρ=>(evs Γ es ρ).out fun r=>qi2 [i,j,k] r ρ) D σ H):tPar3 i j k (tA C (evs Γ es)) D σ H:=by
 obtain⟨ρ,P,N,S,h⟩:=q
 refine⟨ρ,P,N,S,(h.res S.reg).mono fun r P1 N1 H1 er a1 h1 vs rv=>?_⟩
 have hf:=qg5 er
 cases r with
 |nil=>exact h1.elim
 |cons e1 r1 =>
  obtain⟨v1,u1,rfl,w1,rv⟩:=rv
  obtain⟨d1,b1,rfl,y1,o1⟩:=qcO w1 (hf e1 (by simp)) h1
  cases r1 with
  |nil=>exact o1.elim
  |cons e2 r2 =>
   obtain⟨v2,u2,rfl,w2,rv⟩:=rv
   obtain⟨d2,b2,rfl,y2,o2⟩:=qcO w2 (hf e2 (by simp)) o1
   cases r2 with
   |nil=>exact o2.elim
   |cons e3 r3 =>
    obtain⟨v3,u3,rfl,w3,rv⟩:=rv
    obtain⟨d3,b3,rfl,y3,o3⟩:=qcO w3 (hf e3 (by simp)) o2
    cases r3 with
    |nil =>
     cases rv
     exact⟨v1,v2,v3,rfl,o3 _ P1 N1 H1 ((((S.adv a1).setV y1).setV y2).setV y3) a1.pp a1.nn⟩
    |cons _ _=>exact o3.elim
end
theorem qd9 {T:Tb} {sc:Scope} {tg:List Nat} {t:Expr} {ts:List Expr} {l:Nat} (h:qms T sc tg (t::ts) l=true):∃i is x p,tg=i::is∧t=.Name x p∧T.N[i]? = some x∧sc.names.lookup x=some .local∧(p.line == l)=true∧qms T sc is ts l=true:=by
 cases tg with
 |nil=>cases t<;>cases h
 |cons i is =>
  cases t<;>try exact(Bool.false_ne_true h).elim
  simp only[qms,Bool.and_eq_true,decide_eq_true_eq] at h
  exact⟨i,is,_,_,rfl,rfl,h.1.1.1,h.1.1.2,h.1.2,h.2⟩
theorem qiT {T:Tb} {sc:Scope} {tg:List Nat} {l:Nat} (h:qms T sc tg [] l=true):tg=[]:=by
 cases tg with
 |nil=>rfl
 |cons i is=>cases h
theorem qnn {T:Tb} {sc:Scope} {tg:List Nat} {t1 t2:Expr} (h:qms T sc tg [t1,t2] (([t1,t2].head?.map (·.pos.line)).getD 0)=true):∃i j x y px py,tg=[i,j]∧t1=.Name x px∧t2=.Name y py∧T.N[i]? = some x∧sc.names.lookup x=some .local∧T.N[j]? = some y∧sc.names.lookup y=some .local∧(py.line == px.line)=true:=by
 obtain⟨i,is,x,px,rfl,rfl,a1,a2,a3,h⟩:=qd9 h
 obtain⟨j,js,y,py,rfl,rfl,b1,b2,b3,h⟩:=qd9 h
 rw[qiT h]
 exact⟨i,j,x,y,px,py,rfl,rfl,rfl,a1,a2,b1,b2,b3⟩
theorem qkb {T:Tb} {sc:Scope} {tg:List Nat} {t1 t2 t3:Expr} (h:qms T sc tg [t1,t2,t3] (([t1,t2,t3].head?.map (·.pos.line)).getD 0)=true):∃i j k x y z px py pz,tg=[i,j,k]∧t1=.Name x px∧t2=.Name y py∧t3=.Name z pz∧T.N[i]? = some x∧sc.names.lookup x=some .local∧T.N[j]? = some y∧sc.names.lookup y=some .local∧(py.line == px.line)=true ∧
  T.N[k]? = some z∧sc.names.lookup z=some .local∧(pz.line == px.line)=true:=by
 obtain⟨i,is,x,px,rfl,rfl,a1,a2,a3,h⟩:=qd9 h
 obtain⟨j,js,y,py,rfl,rfl,b1,b2,b3,h⟩:=qd9 h
 obtain⟨k,ks,z,pz,rfl,rfl,c1,c2,c3,h⟩:=qd9 h
 rw[qiT h]
 exact⟨i,j,k,x,y,z,px,py,pz,rfl,rfl,rfl,rfl,a1,a2,b1,b2,b3,c1,c2,c3⟩
theorem qhc {T:Tb} {Γ:Env} {sc:Scope}:∀(b:Tr) {C:Ctx} {X:Cx} {ss:List Stmt},XOk T Γ C X none sc→qgJ T sc b ss=true→PSs X ss (tR C (trB Γ b))
 |.ex e,C,X,ss,I,h=>by
  unfold qgJ at h
  split at h
  case h_2=>cases h
  simp only[Bool.and_eq_true] at h
  refine qax (pss_cons (ps_expr (qab e I h.1).1 (qcJ h.2)) pss_nil) fun D σ H q=>?_
  obtain⟨ρ,P,N,S,h⟩:=q
  have h:res C σ P N H ((ev Γ e ρ).bind fun _=>.ok ρ) fun ρ' _ _ H'=>∀σ' P2 N2,Same P P2→Same N N2→SR C P2 N2 H' ρ' σ'→D.nx σ' H':=by rw[trB] at h;exact h
  exact⟨ρ,P,N,S,h.bind.mono fun x P1 N1 H1 _ a1 h1 v rv=>(res.now (S.adv a1).reg h1) σ P1 N1 a1.pp a1.nn (S.adv a1)⟩
 |.as j e,C,X,ss,I,h=>by
  unfold qgJ at h
  split at h
  case h_2=>cases h
  simp only[Bool.and_eq_true,decide_eq_true_eq] at h
  obtain⟨⟨⟨h1,h2⟩,h3⟩,h4⟩:=h
  refine qax (pss_cons (qgS I h1 h2 h3 h4) pss_nil) fun D σ H q=>?_
  obtain⟨ρ,P,N,S,h⟩:=q
  rw[trB] at h
  refine⟨ρ,P,N,S,h.bind.mono fun x P1 N1 H1 _ a1 h1 v rv=>?_⟩
  cases x with
  |brw ds b=>exact h1.elim
  |val d b =>
   exact(res.now (S.adv a1).reg h1) _ P1 N1 a1.pp a1.nn ((S.adv a1).setV rv)
  |fre ds b =>
   obtain⟨N2,a2,r2⟩:=rv.freeze a1
   exact(res.now (S.adv a1).reg h1) _ P1 N2 a2.pp a2.nn ((S.adv a2).setV r2)
 |.iff t a b,C,X,ss,I,h=>by
  unfold qgJ at h
  split at h
  case h_2=>cases h
  simp only[Bool.and_eq_true] at h
  refine qax (pss_cons (ps_if (qdq t I h.1.1) (qhc a I h.1.2) (qhc b I h.2)) pss_nil) fun D σ H q=>?_
  obtain⟨ρ,P,N,S,h⟩:=q
  rw[trB] at h
  refine⟨ρ,P,N,S,h.bind.mono fun k P1 N1 H1 _ a1 h1=>?_⟩
  cases k with
  |true =>
   rw[if_pos rfl] at h1
   exact⟨ρ,P1,N1,S.adv a1,h1.mono fun ρ' _ _ H' _ _ q σ' P2 N2 e1 e2 S2=>q σ' P2 N2 (a1.pp.trans e1) (a1.nn.trans e2) S2⟩
  |false =>
   rw[if_neg Bool.false_ne_true] at h1
   exact⟨ρ,P1,N1,S.adv a1,h1.mono fun ρ' _ _ H' _ _ q σ' P2 N2 e1 e2 S2=>q σ' P2 N2 (a1.pp.trans e1) (a1.nn.trans e2) S2⟩
end Cm
namespace Cm
open PySem PySem.Spec PyProof.Rows L2
abbrev TL:=Addr→Option (List V)
def LT (T:TL):Addr→List V→Prop:=fun a xs=>T a=some xs
def qj9:V→Bool
 |.ref _=>true
 |_=>false
def clV (xs:List V):Nat:=if xs.isEmpty then 0 else if xs.any qj9 then 2 else 1
section
variable {G:Glo} {P:Hp} {LN:Addr→List V→Prop}
theorem qjP:∀{d:D} {v:V},Rep G P LN d v→qj9 v=d.isRef:=fun {d v} h=>by
 cases d with
 |non=>cases h;rfl
 |bl b=>cases h;rfl
 |int i=>cases h;rfl
 |str s=>cases h;rfl
 |lst ds=>obtain⟨a,xs,rfl,_⟩:=h;rfl
 |tup ds=>obtain⟨a,xs,rfl,_⟩:=h;rfl
 |ins c ds=>obtain⟨a,dx,xs,rfl,_⟩:=h;rfl
 |exc c fs=>obtain⟨_,a,rfl,_⟩:=h;rfl
theorem qhP:∀{ds:List D} {vs:List V},Reps G P LN ds vs→vs.any qj9=ds.any D.isRef
 |[],_,h=>by cases h;rfl
 |d::ds,vs,⟨v,r,e,h1,h2⟩=>by
  subst e
  rw[List.any_cons,List.any_cons,qjP h1,qhP h2]
theorem qbH {ds:List D} {vs:List V} (h:Reps G P LN ds vs):clV vs=clD ds:=by
 unfold clV clD
 rw[qhP h]
 have hl:=h.length
 have:vs.isEmpty=ds.isEmpty:=by
  cases vs<;>cases ds<;>first | rfl | cases hl
 rw[this]
end
section
variable (C:Ctx)
structure Raw (P N H:Hp) (ρ:List Sl) (σ:L2.St) (T:TL) (Z:Zs) (τ:List (Nat × D)):Prop where
 sr:SR C P N H ρ σ
 h:∀a xs,T a=some xs→∃ys,H a=some (.lst ys)∧(clV xs∉Z.1→ys=xs)∧ys.length≤xs.length+Z.2
 o:∀a xs,T a=some xs→P a=none∧N a=none∧C.B a=none
 ow:∀(j:Nat) (ds:List Cm.D) (b:Bool) (p:Addr),ρ[j]? = some (.own ds b)→σ[j]? = some (some (.ref p))→T p=none
 tr:∀(j:Nat) (d:Cm.D),(j,d)∈τ→ρ[j]? = some .non∧∃v,σ[j]? = some (some v)∧Rep C.G P (LT T) d v
 nr:∀(j:Nat) (s:Sl),ρ[j]? = some s→s.isW=false
end
section
variable {C:Ctx} {P N H P' N' H':Hp} {ρ:List Sl} {σ:L2.St} {T:TL} {Z:Zs} {τ:List (Nat × D)}
theorem Raw.sub {τ':List (Nat × D)} (h:Raw C P N H ρ σ T Z τ) (hs:∀e∈τ',e∈τ):Raw C P N H ρ σ T Z τ':=⟨h.sr,h.h,h.o,h.ow,fun j d m=>h.tr j d (hs _ m),h.nr⟩
theorem Raw.adv (h:Raw C P N H ρ σ T Z τ) (a:Adv P N H P' N' H'):Raw C P' N' H' ρ σ T Z τ where
 sr:=h.sr.adv a
 h:=fun b xs e=>by
  obtain⟨ys,h1,h2⟩:=h.h b xs e
  exact⟨ys,a.hh _ _ h1,h2⟩
 o:=fun b xs e=>by
  obtain⟨ys,h1,_⟩:=h.h b xs e
  obtain⟨o1,o2,o3⟩:=h.o b xs e
  exact⟨a.off h1 o1,a.offN h1 o2,o3⟩
 ow:=h.ow
 tr:=fun j d m=>by
  obtain⟨h1,v,h2,h3⟩:=h.tr j d m
  exact⟨h1,v,h2,Rep.mono a.pp d v (fun _ _ q=>q) h3⟩
 nr:=h.nr
theorem Raw.write {Z':Zs} {a:Addr} {xs ys:List V} (h:Raw C P N H ρ σ T Z τ) (e:T a=some xs) (hz:∀k,k∈Z.1→k∈Z'.1) (hc:clV xs∈Z'.1) (hn:Z.2≤Z'.2) (hl:ys.length≤xs.length+Z'.2):Raw C P N (upd H a (.lst ys)) ρ σ T Z' τ:=by
 obtain⟨o1,o2,o3⟩:=h.o a xs e
 obtain⟨zs,z1,_⟩:=h.h a xs e
 refine⟨⟨⟨qak h.sr.reg.pH o1,qak h.sr.reg.nH o2,qak h.sr.reg.bH o3,h.sr.reg.rB,h.sr.reg.p0,h.sr.reg.pn,h.sr.reg.nw,h.sr.reg.dj⟩,h.sr.len,fun j s ej=>?_,h.sr.ap,h.sr.ad,AR.no h.nr⟩,fun b us eb=>?_,h.o,h.ow,h.tr,h.nr⟩
 ·obtain⟨o,y1,y2⟩:=h.sr.sl j s ej
  refine⟨o,y1,?_⟩
  cases s with
  |non=>trivial
  |val d b=>exact y2
  |own es c =>
   obtain⟨r,vs,rfl,y4,y5⟩:=y2
   have hr:r≠a:=fun er=>by
    have:=h.ow j es c r ej y1
    rw[er,e] at this;cases this
   exact⟨r,vs,rfl,by rw[upd_ne hr];exact y4,y5⟩
  |slf c fs =>
   obtain⟨r,dx,vs,y3,y4,y5⟩:=y2
   have hr:r≠a:=fun er=>by rw[er,z1] at y4;cases y4
   exact⟨r,dx,vs,y3,by rw[upd_ne hr];exact y4,y5⟩
  |fxd d k=>exact y2
  |dct m c =>
   obtain⟨r,es,y3,y4,y5⟩:=y2
   have hr:r≠a:=fun er=>by rw[er,z1] at y4;cases y4
   exact⟨r,es,y3,by rw[upd_ne hr];exact y4,y5⟩
  |row dss=>have:=h.nr j _ ej;cases this
 ·by_cases q:b=a
  ·subst q
   rw[e] at eb;cases eb
   exact⟨ys,upd_same,fun hk=>absurd hc hk,hl⟩
  ·obtain⟨vs,h1,h2,h3⟩:=h.h b us eb
   exact⟨vs,by rw[upd_ne q];exact h1,fun hk=>h2 fun hk'=>hk (hz _ hk'),by omega⟩
theorem Raw.bind {l:Nat} {d:D} {v:V} (h:Raw C P N H ρ σ T Z τ) (hl:ρ[l]? = some .non) (r:Rep C.G P (LT T) d v):Raw C P N H ρ (σ.set l (some v)) T Z ((l,d)::drp l τ) where
 sr:=by
  refine⟨h.sr.reg,by rw[List.length_set];exact h.sr.len,fun j s ej=>?_,fun i j p ds b es c e1 e2 e3 e4=>?_,h.sr.ad.sub fun j m b e=>⟨List.getElem?_set_ne (fun q=>by subst q;rw[hl] at e;cases e),_,_,e⟩,AR.no h.nr⟩
  ·by_cases q:l=j
   ·subst q
    rw[hl] at ej;cases ej
    have hlt:l<σ.length:=by rw[h.sr.len];exact(List.getElem?_eq_some_iff.mp hl).1
    exact⟨some v,List.getElem?_set_self hlt,trivial⟩
   ·rw[List.getElem?_set_ne q];exact h.sr.sl j s ej
  ·have n1:l≠i:=fun q=>by subst q;rw[hl] at e1;cases e1
   have n2:l≠j:=fun q=>by subst q;rw[hl] at e2;cases e2
   rw[List.getElem?_set_ne n1] at e3
   rw[List.getElem?_set_ne n2] at e4
   exact h.sr.ap i j p ds b es c e1 e2 e3 e4
 h:=h.h
 o:=h.o
 ow:=fun j ds b p e1 e2=>by
  have n1:l≠j:=fun q=>by subst q;rw[hl] at e1;cases e1
  rw[List.getElem?_set_ne n1] at e2
  exact h.ow j ds b p e1 e2
 tr:=fun j e m=>by
  rcases List.mem_cons.mp m with m | m
  ·cases m
   have hlt:l<σ.length:=by rw[h.sr.len];exact(List.getElem?_eq_some_iff.mp hl).1
   exact⟨hl,v,List.getElem?_set_self hlt,r⟩
  ·have m':=List.mem_filter.mp m
   have n1:l≠j:=fun q=>by subst q;simp at m'
   obtain⟨h1,u,h2,h3⟩:=h.tr j e m'.1
   exact⟨h1,u,by rw[List.getElem?_set_ne n1];exact h2,h3⟩
 nr:=h.nr
theorem qdf {j:Nat} {d:D}:∀{τ:List (Nat × D)},τ.lookup j=some d→(j,d)∈τ
 |[],h=>by cases h
 |(k,e)::τ,h=>by
  rw[List.lookup_cons] at h
  by_cases q:j=k
  ·subst q
   simp at h
   subst h
   exact List.mem_cons_self
  ·have:(j == k)=false:=by simpa using q
   rw[this] at h
   exact List.mem_cons_of_mem _ (qdf h)
def tP (C:Ctx) (p:Pth):TE:=fun σ H Q=>∃P N ρ T Z τ d,Raw C P N H ρ σ T Z τ∧qkK τ Z p=some d∧∀v,Rep C.G P (LT T) d v→Q v H
end
theorem qjd {α:Type} {xs:List α} {k:Nat} {x:α} (h:xs[k]? = some x):atI xs (k:Int)=some x:=by
 have hk:=(List.getElem?_eq_some_iff.mp h).1
 unfold atI ixN
 have h1:(0:Int)≤k∧(k:Int)<xs.length:=⟨by omega,by omega⟩
 simp[h1,h]
mutual
theorem qhd {Γ:Env}:∀(e:Ex),qbk e=true→∀ρ,∃er,ev Γ e ρ=.ok er∧er.isB=false
 |.cint i,_,ρ=>⟨_,by rw[ev];rfl,rfl⟩
 |.cstr s,_,ρ=>⟨_,by rw[ev];rfl,rfl⟩
 |.cbl b,_,ρ=>⟨_,by rw[ev];rfl,rfl⟩
 |.cnon,_,ρ=>⟨_,by rw[ev];rfl,rfl⟩
 |.tup es,h,ρ=>by
  rw[qbk] at h
  obtain⟨r,e1,e2⟩:=qfx es h ρ
  refine⟨.val (.tup (r.map ER.d)) (r.all ER.b),?_,rfl⟩
  rw[ev,e1,RE.bind_ok,dis,if_pos e2]
 |.lst es,h,ρ=>by
  rw[qbk] at h
  obtain⟨r,e1,e2⟩:=qfx es h ρ
  refine⟨.fre (r.map ER.d) (r.all ER.b),?_,rfl⟩
  rw[ev,e1,RE.bind_ok,dis,if_pos e2]
 |.nev,h,_=>by simp[qbk] at h
 |.var _,h,_=>by simp[qbk] at h
 |.glo _,h,_=>by simp[qbk] at h
 |.bin _ _ _,h,_=>by simp[qbk] at h
 |.cmp _ _ _,h,_=>by simp[qbk] at h
 |.chn _ _ _ _ _,h,_=>by simp[qbk] at h
 |.isN _,h,_=>by simp[qbk] at h
 |.notN _,h,_=>by simp[qbk] at h
 |.bop _ _,h,_=>by simp[qbk] at h
 |.bnot _,h,_=>by simp[qbk] at h
 |.neg _,h,_=>by simp[qbk] at h
 |.ife _ _ _,h,_=>by simp[qbk] at h
 |.idx _ _,h,_=>by simp[qbk] at h
 |.slc _ _ _,h,_=>by simp[qbk] at h
 |.rev _,h,_=>by simp[qbk] at h
 |.call _ _,h,_=>by simp[qbk] at h
 |.pri _ _,h,_=>by simp[qbk] at h
 |.lrng _,h,_=>by simp[qbk] at h
 |.mth _ _ _,h,_=>by simp[qbk] at h
 |.bm1 _ _ _,h,_=>by simp[qbk] at h
 |.blen _,h,_=>by simp[qbk] at h
 |.fld _ _,h,_=>by simp[qbk] at h
 |.isi _ _,h,_=>by simp[qbk] at h
 |.lc _ _ _ _ _,h,_=>by simp[qbk] at h
 |.inxL _ _,h,_=>by simp[qbk] at h
 |.inxS _ _,h,_=>by simp[qbk] at h
 |.lset _,h,_=>by simp[qbk] at h
 |.new _ _,h,_=>by simp[qbk] at h
 |.sfd _ _,h,_=>by simp[qbk] at h
 |.dhas _ _ _,h,_=>by simp[qbk] at h
 |.pk _,h,_=>by simp[qbk] at h
 |.dat _ _,h,_=>by simp[qbk] at h
 |.isc _ _,h,_=>by simp[qbk] at h
 |.cntL _ _,h,_=>by simp[qbk] at h
 |.mmd _ _ _,h,_=>by simp[qbk] at h
 |.din _ _ _,h,_=>by simp[qbk] at h
 |.dgi _ _,h,_=>by simp[qbk] at h
 |.srtL _,h,_=>by simp[qbk] at h
 |.sset _,h,_=>by simp[qbk] at h
 |.iscT _ _,h,_=>by simp[qbk] at h
 |.lrev _,h,_=>by simp[qbk] at h
 |.callc _ _,h,_=>by simp[qbk] at h
 |.inxT _ _,h,_=>by simp[qbk] at h
theorem qfx {Γ:Env}:∀(es:Exs),qki es=true→∀ρ,∃r,evs Γ es ρ=.ok r∧r.all ER.isV=true
 |.nil,_,ρ=>⟨[],by rw[evs],rfl⟩
 |.cons e es,h,ρ=>by
  rw[qki,Bool.and_eq_true] at h
  obtain⟨x,e1,e2⟩:=qhd e h.1 ρ
  obtain⟨r,e3,e4⟩:=qfx es h.2 ρ
  refine⟨x.frz::r,by rw[evs,e1,RE.bind_ok,e3,RE.bind_ok],?_⟩
  rw[List.all_cons,e4,Bool.and_true]
  cases x<;>first | rfl | cases e2
end
theorem qj1 {G:Glo} {P:Hp} {LN:Addr→List V→Prop} {d:D} {v:V} (h:Rep G P LN d v):d.isNon=decide (v=.non):=by
 cases d with
 |non=>cases h;rfl
 |bl b=>cases h;rfl
 |int i=>cases h;rfl
 |str s=>cases h;rfl
 |lst ds=>obtain⟨a,xs,rfl,_⟩:=h;rfl
 |tup ds=>obtain⟨a,xs,rfl,_⟩:=h;rfl
 |ins c ds=>obtain⟨a,dx,xs,rfl,_⟩:=h;rfl
 |exc c fs=>obtain⟨_,a,rfl,_⟩:=h;rfl
section
variable {T:Tb} {Γ:Env} {C:Ctx} {X:Cx} {sc:Scope}
theorem qdd:∀{p:Pth} {e:Expr},qiP T sc p e=true→qhI e=true∧qdt e=true
 |.var j,e,h=>by
  unfold qiP at h
  split at h
  ·exact⟨rfl,rfl⟩
  ·cases h
 |.ix p k,e,h=>by
  unfold qiP at h
  split at h
  ·exact⟨rfl,rfl⟩
  ·cases h
theorem qfT (I:XOk T Γ C X none sc):∀(p:Pth) {e:Expr},qiP T sc p e=true→PE X e (tP C p)
 |.var j,e,h=>by
  unfold qiP at h
  split at h
  case h_2=>cases h
  simp only[Bool.and_eq_true,decide_eq_true_eq] at h
  obtain⟨⟨h1,h2⟩,h3⟩:=h
  obtain⟨n1,n2⟩:=qaG h3
  refine qad (pe_var (i:=j) (by rw[I.nm];exact h1) (qaM I.sc h2) n1 n2) fun σ H Q q=>?_
  obtain⟨P,N,ρ,TT,Z,τ,d,R,e,k⟩:=q
  obtain⟨_,v,e2,r⟩:=R.tr j d (qdf (by simpa[qkK] using e))
  exact⟨v,e2,k v r⟩
 |.ix p k,e,h=>by
  unfold qiP at h
  split at h
  case h_2=>cases h
  simp only[Bool.and_eq_true,decide_eq_true_eq] at h
  obtain⟨rfl,h2⟩:=h
  refine qad (pe_ix ix_seq (qfT I p h2) pe_int (fun _ _=>rfl)) fun σ H Q q=>?_
  obtain⟨P,N,ρ,TT,Z,τ,d,R,e,kk⟩:=q
  rw[qkK] at e
  split at e
  ·rename_i ds e1
   refine⟨P,N,ρ,TT,Z,τ,_,R,e1,fun v r=>?_⟩
   obtain⟨a,xs,rfl,z1,z2⟩:=r
   obtain⟨u,q1,q2⟩:=z2.get e
   exact .inr (.inl ⟨a,xs,k,u,rfl,rfl,I.K ▸ Same.seqT R.sr.reg.pH z1,qjd q1,kk u q2⟩)
  ·rename_i ds e1
   split at e
   ·cases e
   ·rename_i hz
    refine⟨P,N,ρ,TT,Z,τ,_,R,e1,fun v r=>?_⟩
    obtain⟨a,xs,rfl,z1,z2⟩:=r
    obtain⟨u,q1,q2⟩:=z2.get e
    obtain⟨ys,y1,y2,_⟩:=R.h a xs z1
    have:=y2 (by rw[qbH z2];exact hz)
    subst this
    exact .inl ⟨a,ys,k,u,rfl,rfl,.inl (.inl y1),qjd q1,kk u q2⟩
  ·cases e
theorem qj4 {τ:List (Nat × D)} {Z Z':Zs} {c:Ch1} (h:qh9 τ Z c=some Z'):(∀k,k∈Z.1→k∈Z'.1)∧Z.2≤Z'.2:=by
 cases c with
 |clr p =>
  simp only[qh9] at h
  split at h
  ·cases h;exact⟨fun k hk=>List.mem_cons_of_mem _ hk,Nat.le_refl _⟩
  ·cases h
 |app p e =>
  simp only[qh9] at h
  split at h
  ·split at h
   ·cases h;exact⟨fun k hk=>List.mem_cons_of_mem _ hk,Nat.le_succ _⟩
   ·cases h
  ·cases h
 |put p k e =>
  simp only[qh9] at h
  split at h
  ·split at h
   ·cases h
   ·split at h
    ·cases h;exact⟨fun k hk=>List.mem_cons_of_mem _ hk,Nat.le_refl _⟩
    ·cases h
  ·cases h
theorem qgj {τ:List (Nat × D)}:∀{cs:List Ch1} {Z Z':Zs},qjo τ cs Z=some Z'→(∀k,k∈Z.1→k∈Z'.1)∧Z.2≤Z'.2
 |[],Z,Z',h=>by cases h;exact⟨fun _ h=>h,Nat.le_refl _⟩
 |c::cs,Z,Z',h=>by
  rw[qjo] at h
  cases e:qh9 τ Z c with
  |none=>rw[e] at h;cases h
  |some Z1 =>
   rw[e] at h
   obtain⟨a1,a2⟩:=qj4 e
   obtain⟨b1,b2⟩:=qgj (cs:=cs) h
   exact⟨fun k hk=>b1 k (a1 k hk),Nat.le_trans a2 b2⟩
theorem qee {f:D→Zs→Option Zs} (hf:∀d Z Z',f d Z=some Z'→(∀k,k∈Z.1→k∈Z'.1)∧Z.2≤Z'.2):∀{ds:List D} {Z Z':Zs},ql7 f ds Z=some Z'→(∀k,k∈Z.1→k∈Z'.1)∧Z.2≤Z'.2
 |[],Z,Z',h=>by cases h;exact⟨fun _ h=>h,Nat.le_refl _⟩
 |d::ds,Z,Z',h=>by
  rw[ql7] at h
  cases e:f d Z with
  |none=>rw[e] at h;cases h
  |some Z1 =>
   rw[e] at h
   obtain⟨a1,a2⟩:=hf _ _ _ e
   obtain⟨b1,b2⟩:=qee hf (ds:=ds) h
   exact⟨fun k hk=>b1 k (a1 k hk),Nat.le_trans a2 b2⟩
def tC1 (C:Ctx) (c:Ch1):TS:=fun D σ H=>∃P N ρ T Z τ Z',Raw C P N H ρ σ T Z τ∧qh9 τ Z c=some Z'∧∀P' N' H',Raw C P' N' H' ρ σ T Z' τ→L2.Same P P'→L2.Same N N'→D.nx σ H'
theorem qfA {G:Glo} {P:Hp} {LN:Addr→List V→Prop} {ds:List D} {v:V} (h:Rep G P LN (.lst ds) v):∃a xs,v=.ref a∧LN a xs∧Reps G P LN ds xs:=h
theorem qjj (I:XOk T Γ C X none sc):∀(c:Ch1) {s:Stmt},qh6 T sc c s=true→PS X s (tC1 C c)
 |.clr p,s,h=>by
  simp only[qh6] at h
  split at h
  case h_2=>cases h
  simp only[Bool.and_eq_true,decide_eq_true_eq] at h
  obtain⟨⟨rfl,h2⟩,h3⟩:=h
  refine qae (ps_expr (pe_bm0 PySem.F.plainAttrs_list PySem.F.slot_list_clear PySem.F.type_list_clear mt_clear (qfT I p h2) (qbs (qdd h2).2) h3) rfl) fun D σ H q=>?_
  obtain⟨P,N,ρ,TT,Z,τ,Z',R,e,k⟩:=q
  simp only[qh9] at e
  split at e
  ·rename_i ds e1
   cases e
   refine⟨P,N,ρ,TT,Z,τ,_,R,e1,fun v r=>?_⟩
   obtain⟨a,xs,rfl,z1,z2⟩:=qfA r
   obtain⟨ys,y1,_⟩:=R.h a xs z1
   refine⟨.inl ⟨rfl,ys,.inl (.inl y1)⟩,a,ys,rfl,rfl,y1,k P N _ (R.write z1 (fun k hk=>List.mem_cons_of_mem _ hk) ?_ (Nat.le_refl _) (Nat.zero_le _)) (L2.Same.refl _) (L2.Same.refl _)⟩
   rw[qbH z2];exact List.mem_cons_self
  ·cases e
 |.app p ex,s,h=>by
  simp only[qh6] at h
  split at h
  case h_2=>cases h
  simp only[Bool.and_eq_true,decide_eq_true_eq] at h
  obtain⟨⟨⟨⟨rfl,h2⟩,h3⟩,h4⟩,h5⟩:=h
  refine qae (ps_expr (pe_bm PySem.F.plainAttrs_list PySem.F.slot_list_append PySem.F.type_list_append mt_append (qfT I p h2) (pa_cons (qab ex I h4).1 pa_nil (qaa h5)) (qbs (qdd h2).2) (qb8 h5) h3 (qaa h5) rfl) rfl) fun D σ H q=>?_
  obtain⟨P,N,ρ,TT,Z,τ,Z',R,e,k⟩:=q
  simp only[qh9] at e
  split at e
  ·rename_i ds e1
   split at e
   ·rename_i hc
    cases e
    simp only[Bool.and_eq_true,qag] at hc
    refine⟨P,N,ρ,TT,Z,τ,_,R,e1,fun v r=>?_⟩
    obtain⟨a,xs,rfl,z1,z2⟩:=qfA r
    obtain⟨ys,y1,y2,y3⟩:=R.h a xs z1
    obtain⟨er,q1,q2⟩:=qhd (Γ:=Γ) ex hc.1 ρ
    refine⟨.inl ⟨rfl,ys,.inl (.inl y1)⟩,ρ,P,N,R.sr,?_⟩
    rw[q1]
    intro P1 N1 H1 a1 u ru
    have hl:=z2.length
    have h6:ys.length+1≤LIM:=by have:=hc.2;omega
    refine⟨a,ys,u,rfl,rfl,a1.hh _ _ y1,h6,?_⟩
    refine k P1 N1 _ ((R.adv a1).write z1 (fun k hk=>List.mem_cons_of_mem _ hk) ?_ (Nat.le_succ _) ?_) a1.pp a1.nn
    ·rw[qbH z2];exact List.mem_cons_self
    ·rw[List.length_append,List.length_singleton];show ys.length+1≤xs.length+(Z.2+1);omega
   ·cases e
  ·cases e
 |.put p m ex,s,h=>by
  simp only[qh6] at h
  split at h
  case h_2=>cases h
  simp only[Bool.and_eq_true,decide_eq_true_eq] at h
  obtain⟨⟨rfl,h2⟩,h4⟩:=h
  refine qae (ps_asg (qab ex I h4).1 (pg_sub (qfT I p h2) pe_int set_list (qg4 rfl)) qfc qc7 rfl) fun D σ H q=>?_
  obtain⟨P,N,ρ,TT,Z,τ,Z',R,e,k⟩:=q
  simp only[qh9] at e
  split at e
  ·rename_i ds e1
   split at e
   ·cases e
   ·rename_i hz
    split at e
    ·rename_i hc
     cases e
     simp only[Bool.and_eq_true,decide_eq_true_eq] at hc
     obtain⟨er,q1,q2⟩:=qhd (Γ:=Γ) ex hc.1 ρ
     refine⟨ρ,P,N,R.sr,?_⟩
     rw[q1]
     intro P1 N1 H1 a1 u ru
     refine⟨P1,N1,ρ,TT,Z,τ,_,R.adv a1,e1,fun v r=>?_⟩
     obtain⟨a,xs,rfl,z1,z2⟩:=qfA r
     obtain⟨ys,y1,y2,y3⟩:=(R.adv a1).h a xs z1
     have hy:=y2 (by rw[qbH z2];exact hz)
     subst hy
     have hl:=z2.length
     have hix:ixN ys.length (m:Int)=some m:=by
      unfold ixN
      rw[if_pos (by omega),if_pos (by omega)]
      simp
     refine⟨a,ys,m,m,rfl,rfl,y1,hix,k P1 N1 _ ((R.adv a1).write z1 (fun k hk=>List.mem_cons_of_mem _ hk) ?_ (Nat.le_refl _) ?_) a1.pp a1.nn⟩
     ·rw[qbH z2];exact List.mem_cons_self
     ·rw[List.length_set];exact Nat.le_add_right _ _
    ·cases e
  ·cases e
def tCL (C:Ctx) (cs:List Ch1):TS:=fun D σ H=>∃P N ρ T Z τ Z',Raw C P N H ρ σ T Z τ∧qjo τ cs Z=some Z'∧∀P' N' H',Raw C P' N' H' ρ σ T Z' τ→L2.Same P P'→L2.Same N N'→D.nx σ H'
theorem qiS (I:XOk T Γ C X none sc):∀(cs:List Ch1) {ss:List Stmt},qk5 T sc cs ss=true→PSs X ss (tCL C cs)
 |[],[],_=>qax pss_nil fun D σ H q=>by
  obtain⟨P,N,ρ,TT,Z,τ,Z',R,e,k⟩:=q
  cases e
  exact k P N H R (L2.Same.refl _) (L2.Same.refl _)
 |c::cs,s::ss,h=>by
  simp only[qk5,Bool.and_eq_true] at h
  refine qax (pss_cons (qjj I c h.1) (qiS I cs h.2)) fun D σ H q=>?_
  obtain⟨P,N,ρ,TT,Z,τ,Z',R,e,k⟩:=q
  rw[qjo] at e
  cases e1:qh9 τ Z c with
  |none=>rw[e1] at e;cases e
  |some Z1 =>
   rw[e1] at e
   exact⟨P,N,ρ,TT,Z,τ,Z1,R,e1,fun P1 N1 H1 R1 s1 s2=>⟨P1,N1,ρ,TT,Z1,τ,Z',R1,e,fun P2 N2 H2 R2 s3 s4=>k P2 N2 H2 R2 (s1.trans s3) (s2.trans s4)⟩⟩
 |[],_::_,h=>by cases h
 |_::_,[],h=>by cases h
end
end Cm
namespace Cm
open PySem PySem.Spec PyProof.Rows L2
section
variable {T:Tb} {Γ:Env} {C:Ctx} {X:Cx} {sc:Scope}
theorem qni {l:Nat} {τ:List (Nat × D)}:drp l (drp l τ)=drp l τ:=by
 unfold drp
 rw[List.filter_filter]
 simp
theorem qm7 {l:Nat} {τ:List (Nat × D)} {e:Nat × D} (h:e∈drp l τ):e∈τ:=(List.mem_filter.mp h).1
theorem qhE {ls:List Nat} {τ:List (Nat × D)} {e:Nat × D} (h:e∈qjE ls τ):e∈τ:=(List.mem_filter.mp h).1
theorem qlq {l:Nat} {ls:List Nat} {τ:List (Nat × D)} {e:Nat × D} (h:e∈qjE (l::ls) τ):e∈qjE ls (drp l τ):=by
 unfold qjE drp at *
 rw[List.filter_filter]
 have:=List.mem_filter.mp h
 refine List.mem_filter.mpr ⟨this.1,?_⟩
 simpa[not_or,and_comm] using this.2
theorem qhR {l ls:List Nat} {τ:List (Nat × D)} {e:Nat × D} (h:e∈qjE (l++ls) τ):e∈qjE ls (qjE l τ):=by
 unfold qjE at *
 rw[List.filter_filter]
 have:=List.mem_filter.mp h
 refine List.mem_filter.mpr ⟨this.1,?_⟩
 simpa[not_or,and_comm] using this.2
theorem qoK (hK:X.K=C.G.K) {l:Nat} {p:Pth} {b:List Ch1} {D:Ends} {σ:L2.St} {H:Hp} {P N:Hp} {ρ:List Sl} {TT:TL} {Z Z1:Zs} {τ:List (Nat × Cm.D)} {ds:List Cm.D} (R:Raw C P N H ρ σ TT Z τ) (hl:ρ[l]? = some .non)
  (e:qkK τ Z p=some (.lst ds)) (ew:ql7 (fun d Z=>qjo ((l,d)::drp l τ) b Z) ds Z=some Z1) (hz:clD ds∉Z1.1)
  (k:∀σ' P' N' H',Raw C P' N' H' ρ σ' TT Z1 (drp l τ)→L2.Same P P'→L2.Same N N'→D.nx σ' H'):tFor (qrD X.K (tP C p)) (gName l) (tCL C b) D σ H:=by
 have hm:∀d Z Z',qjo ((l,d)::drp l τ) b Z=some Z'→(∀k,k∈Z.1→k∈Z'.1)∧Z.2≤Z'.2:=fun d Z Z'=>qgj
 refine⟨P,N,ρ,TT,Z,τ,_,R,e,fun v r=>?_⟩
 obtain⟨a,xs,rfl,z1,z2⟩:=qfA r
 have hlen:=z2.length
 have seq:∀{P' N' H':Hp} {σ':L2.St} {Z2:Zs} {τ':List (Nat × Cm.D)},Raw C P' N' H' ρ σ' TT Z2 τ'→(∀k,k∈Z2.1→k∈Z1.1)→SqL X.K H' a xs:=fun {P' N' H' σ' Z2 τ'} R' hs=>by
  obtain⟨ys,y1,y2,_⟩:=R'.h a xs z1
  have:=y2 fun q=>hz (by rw[←qbH z2];exact hs _ q)
  subst this
  exact .inl (.inl y1)
 refine .inl (.inl ⟨a,rfl,⟨xs,seq R (qee hm ew).1⟩,?_⟩)
 refine for_it (walk_list (K:=X.K) (a:=a) (xs:=xs)) (Pv:=fun i σ' H'=>∃P' N' Z2,Raw C P' N' H' ρ σ' TT Z2 (drp l τ)∧L2.Same P P'∧L2.Same N N'∧ql7 (fun d Z=>qjo ((l,d)::drp l τ) b Z) (ds.drop i) Z2=some Z1) ?_ (fun i σ' H' hi q=>?_) (fun i x σ' H' H'' hi q y=>?_) (fun σ' H' q=>?_)
 ·exact⟨P,N,Z,R.sub fun _=>qm7,L2.Same.refl _,L2.Same.refl _,by simpa using ew⟩
 ·obtain⟨P',N',Z2,R',_,_,e'⟩:=q
  exact seq R' (qee hm e').1
 ·obtain⟨P',N',Z2,R',s1,s2,e'⟩:=q
  obtain⟨rfl,ex⟩:=y
  have hi':i<ds.length:=by omega
  obtain⟨v,q1,q2⟩:=Reps.get z2 (List.getElem?_eq_getElem hi')
  rw[q1] at ex;cases ex
  rw[List.drop_eq_getElem_cons hi',ql7] at e'
  cases e2:qjo ((l,ds[i])::drp l τ) b Z2 with
  |none=>rw[e2] at e';cases e'
  |some Z3 =>
   rw[e2] at e'
   have RB:=R'.bind hl (Rep.mono s1 _ _ (fun _ _ q=>q) q2)
   rw[qni] at RB
   exact⟨P',N',ρ,TT,Z2,_,Z3,RB,e2,fun P4 N4 H4 R4 s3 s4=>⟨P4,N4,Z3,R4.sub fun _ h=>List.mem_cons_of_mem _ h,s1.trans s3,s2.trans s4,e'⟩⟩
 ·obtain⟨P',N',Z2,R',s1,s2,e'⟩:=q
  rw[hlen,List.drop_length,ql7] at e'
  cases e'
  exact k σ' P' N' H' R' s1 s2
def tCk (C:Ctx) (c:Ch) (u:TS):TS:=fun D σ H=>∃P N ρ T Z τ Z',Raw C P N H ρ σ T Z τ∧(∀l∈c.tgs,ρ[l]? = some .non)∧chg c τ Z=some Z'∧∀σ' P' N' H',Raw C P' N' H' ρ σ' T Z' (qjE c.tgs τ)→L2.Same P P'→L2.Same N N'→u D σ' H'
theorem qdG (I:XOk T Γ C X none sc) (hp:PassesOwn (model X.prog X.w) X.A X.env X.xe):∀(c:Ch) {ss rest:List Stmt} {u:TS},qdS T sc c ss=true→PSs X rest u→PSs X (ss++rest) (tCk C c u)
 |.nil,ss,rest,u,h,hr=>by
  simp only[qdS,List.isEmpty_iff] at h
  subst h
  refine qax hr fun D σ H q=>?_
  obtain⟨P,N,ρ,TT,Z,τ,Z',R,_,e,k⟩:=q
  cases e
  exact k σ P N H (R.sub fun _=>qhE) (L2.Same.refl _) (L2.Same.refl _)
 |.one c r,ss,rest,u,h,hr=>by
  cases ss with
  |nil=>simp[qdS] at h
  |cons s ss =>
   simp only[qdS,Bool.and_eq_true] at h
   refine qax (pss_cons (qjj I c h.1) (qdG I hp r h.2 hr)) fun D σ H q=>?_
   obtain⟨P,N,ρ,TT,Z,τ,Z',R,hn,e,k⟩:=q
   rw[chg] at e
   cases e1:qh9 τ Z c with
   |none=>rw[e1] at e;cases e
   |some Z1 =>
    rw[e1] at e
    exact⟨P,N,ρ,TT,Z,τ,Z1,R,e1,fun P1 N1 H1 R1 s1 s2=>⟨P1,N1,ρ,TT,Z1,τ,Z',R1,hn,e,fun σ2 P2 N2 H2 R2 s3 s4=>k σ2 P2 N2 H2 R2 (s1.trans s3) (s2.trans s4)⟩⟩
 |.wlk l p b r,ss,rest,u,h,hr=>by
  simp only[qdS] at h
  split at h
  case h_2=>cases h
  simp only[Bool.and_eq_true,decide_eq_true_eq] at h
  obtain⟨⟨⟨⟨h1,h2⟩,h3⟩,h4⟩,h5⟩:=h
  obtain⟨t1,t2⟩:=qfN I h2
  refine qax (pss_cons (ps_for hp I.calm (qmv (qfT I p h3)) (pg_name I.nd (by rw[I.nm];exact h1) t1 t2) (qiS I b h4) (qfD (qdd h3).1)) (qdG I hp r h5 hr)) fun D σ H q=>?_
  obtain⟨P,N,ρ,TT,Z,τ,Z',R,hn,e,k⟩:=q
  rw[chg] at e
  split at e
  ·rename_i ds e1
   cases ew:ql7 (fun d Z=>qjo ((l,d)::drp l τ) b Z) ds Z with
   |none=>rw[ew] at e;cases e
   |some Z1 =>
    rw[ew] at e
    simp only[Option.bind_some] at e
    split at e
    ·cases e
    ·rename_i hz
     refine qoK I.K R (hn l (by simp[Ch.tgs])) e1 ew hz fun σ1 P1 N1 H1 R1 s1 s2=>?_
     exact⟨P1,N1,ρ,TT,Z1,_,Z',R1,fun m hm=>hn m (by simp[Ch.tgs,hm]),e,fun σ2 P2 N2 H2 R2 s3 s4=>k σ2 P2 N2 H2 (R2.sub fun _ h=>qlq h) (s1.trans s3) (s2.trans s4)⟩
  ·cases e
 |.ifs j b r,ss,rest,u,h,hr=>by
  simp only[qdS] at h
  split at h
  case h_2=>cases h
  simp only[Bool.and_eq_true,decide_eq_true_eq] at h
  obtain⟨⟨⟨⟨h1,h2⟩,h3⟩,h4⟩,h5⟩:=h
  obtain⟨n1,n2⟩:=qaG h3
  have hb:=qdG I hp b (rest:=[]) (u:=tNext) h4 pss_nil
  rw[List.append_nil] at hb
  refine qax (pss_cons (ps_if (pt_cmp (pc_notN (pe_var (i:=j) (by rw[I.nm];exact h1) (qaM I.sc h2) n1 n2))) hb pss_nil) (qdG I hp r h5 hr)) fun D σ H q=>?_
  obtain⟨P,N,ρ,TT,Z,τ,Z',R,hn,e,k⟩:=q
  rw[chg] at e
  split at e
  ·rename_i d ed
   obtain⟨_,v,ev,rv⟩:=R.tr j d (qdf ed)
   refine⟨v,ev,_,rfl,?_⟩
   rw[←qj1 rv]
   have hnb:∀l∈b.tgs,ρ[l]? = some .non:=fun m hm=>hn m (by simp[Ch.tgs,hm])
   have hnr:∀l∈r.tgs,ρ[l]? = some .non:=fun m hm=>hn m (by simp[Ch.tgs,hm])
   cases hd:d.isNon with
   |true =>
    rw[hd] at e
    simp only[if_true] at e
    exact⟨P,N,ρ,TT,Z,_,Z',R.sub fun _=>qhE,hnr,e,fun σ2 P2 N2 H2 R2 s3 s4=>k σ2 P2 N2 H2 (R2.sub fun _ h=>qhR h) s3 s4⟩
   |false =>
    rw[hd] at e
    simp only[Bool.false_eq_true,if_false] at e
    cases eb:chg b τ Z with
    |none=>rw[eb] at e;cases e
    |some Z1 =>
     rw[eb] at e
     simp only[Option.bind_some] at e
     exact⟨P,N,ρ,TT,Z,τ,Z1,R,hnb,eb,fun σ1 P1 N1 H1 R1 s1 s2=>⟨P1,N1,ρ,TT,Z1,_,Z',R1,hnr,e,fun σ2 P2 N2 H2 R2 s3 s4=>k σ2 P2 N2 H2 (R2.sub fun _ h=>qhR h) (s1.trans s3) (s2.trans s4)⟩⟩
  ·cases e
end
end Cm
namespace Cm
open PySem PySem.Spec PyProof.Rows L2
def tSk (C:Ctx) (g:List Sl→Out) (u:TS):TS:=fun D σ H=>∃ρ P N,SR C P N H ρ σ∧outS C P N { D with nx:=u D } (g ρ)
structure HvR (P H P' H':Hp) (T:TL):Prop where
 hh:Same H H'
 pp:Same P P'
 pH:Same P' H'
 pn:∀a,P' a≠none→P a≠none∨H a=none
 t:∀a xs,T a=some xs→H' a=some (.lst xs)∧H a=none∧P' a=none
def TR (T:TL) (R:Hp):Hp:=fun a=>match T a with
 |some xs=>some (.lst xs)
 |none=>R a
theorem qea {T:TL} {R:Hp} {a:Addr} {xs:List V} (h:T a=some xs):TR T R a=some (.lst xs):=by unfold TR;rw[h]
theorem qcA {T:TL} {R:Hp} {a:Addr} (h:T a=none):TR T R a=R a:=by unfold TR;rw[h]
theorem qfO {T:TL} {R:Hp} {a:Addr} (h:TR T R a=none):T a=none∧R a=none:=by
 unfold TR at h
 split at h
 ·cases h
 ·exact⟨by assumption,h⟩
section
variable {C:Ctx}
theorem qhH {P N H H0:Hp} {σ:L2.St} {n:Nat} {g':List D→RE ER} {Q:VK} {es:List ER} {vs:List V} (r:Reg C P N H) (hv:ERs C P N H H0 es vs) (hn:es.length=n)
  (h:match g' (es.map ER.d) with
   |.bad=>False
   |.ok er=>∃d,qir er=some d∧∀v H' P' T,HvR P H P' H' T→Rep C.G P' (LT T) d v→Q v H'
   |.exc c fs=>∀d P' N' H',Adv P N H P' N' H'→ExR C P' N' H' fs d→C.W (.ref (C.G.ca c)) d σ H'):spD C.G n g' vs H Q (fun cls d H'=>C.W cls d σ H'):=by
 have rH:=r.rH
 have hr:Reps C.G P (SqL C.G.K H) (es.map ER.d) vs:=qgQ r hv
 refine⟨P,H,es.map ER.d,r.pH,L2.Same.refl _,hr,by rw[List.length_map,hn],?_⟩
 cases e:g' (es.map ER.d) with
 |bad=>rw[e] at h;exact h.elim
 |exc c fs =>
  rw[e] at h
  intro d H' P' N' ad hx
  refine h d _ _ _ (ad.back r.nH) ?_
  rcases hx with hx | ⟨dd,f,v,h1,h2,h3,h4⟩
  ·exact .inl hx
  ·refine .inr ⟨dd,f,v,h1,h2,h3,Rep.mono (L2.Same.refl _) _ _ (fun a xs q=>?_) h4⟩
   rcases q with q | ⟨hb,q⟩
   ·exact .inl (qe5 ad.nH _ _ q)
   ·cases hb
 |ok er =>
  rw[e] at h
  obtain⟨d,ed,h⟩:=h
  intro v H' P' N' ad hx
  have base:∀a xs,N' a=some (.lst xs)→H' a=some (.lst xs)∧H a=none∧P' a=none:=fun a xs q=>by
   have hne:N' a≠none:=by rw[q];exact fun z=>nomatch z
   refine⟨ad.nH _ _ q,?_,?_⟩
   ·rcases ad.nw a hne with z | z
    ·exact absurd rfl z
    ·exact z
   ·cases e2:P' a with
    |none=>rfl
    |some o=>exact absurd rfl (ad.dj a hne (by rw[e2];exact fun z=>nomatch z))
  let T:TL:=fun a=>match N' a with
   |some (.lst xs)=>some xs
   |_=>none
  have hT:∀a xs,N' a=some (.lst xs)→T a=some xs:=fun a xs q=>by show(match N' a with | some (.lst xs)=>some xs | _=>none)=some xs;rw[q]
  have hT':∀a xs,T a=some xs→N' a=some (.lst xs):=fun a xs q=>by
   have q:(match N' a with | some (.lst xs)=>some xs | _=>none)=some xs:=q
   split at q
   ·rename_i ys e2;cases q;exact e2
   ·cases q
  cases er with
  |brw ds b=>cases ed
  |val d' b =>
   simp only[qir] at ed
   split at ed
   ·rename_i hb
    cases ed
    refine h v H' P' T ⟨ad.hh,ad.pp,ad.pH,ad.pn,fun a xs q=>base a xs (hT' a xs q)⟩ ?_
    cases b with
    |true=>exact Rep.mono (L2.Same.refl _) _ _ (fun a xs q=>by
     rcases q with q | ⟨hb,_⟩
     ·exact hT a xs q
     ·cases hb) hx
    |false=>exact Rep.flat _ _ (by simpa using hb) hx
   ·cases ed
  |fre ds b =>
   simp only[qir] at ed
   split at ed
   ·rename_i hb
    cases ed
    obtain⟨p,xs,rfl,h1,h2,h3,h4,h5⟩:=hx
    refine h _ H' P' (fun a=>if a=p then some xs else T a) ⟨ad.hh,ad.pp,ad.pH,ad.pn,fun a ys q=>?_⟩ ⟨p,xs,rfl,if_pos rfl,?_⟩
    ·split at q
     ·rename_i ea
      cases q
      subst ea
      exact⟨h1,h2,h3⟩
     ·exact base a ys (hT' a ys q)
    ·have mono:∀a ys,LNb C.G.K P' N' H true a ys→LT (fun a=>if a=p then some xs else T a) a ys:=fun a ys q=>by
      rcases q with q | ⟨hb,_⟩
      ·have:a≠p:=fun ea=>by rw[ea,h4] at q;cases q
       show(if a=p then some xs else T a)=some ys
       rw[if_neg this];exact hT a ys q
      ·cases hb
     cases b with
     |true=>exact Reps.mono (L2.Same.refl _) _ _ mono h5
     |false=>exact Reps.flat _ _ (by simpa using hb) h5
   ·cases ed
def Ctx.hv (C:Ctx) (T:TL) (fx:Nat→Option V):Ctx:={ C with R:=TR T C.R,B:=TR T C.B,fx:=fx }
theorem qcN:∀{ρ:List Sl} {k j:Nat} {s:Sl},(qg6 k ρ)[j]? = some s→∃q,ρ[j]? = some q∧s=ent (k+j) q
 |[],k,j,s,h=>by simp[qg6] at h
 |q::qs,k,0,s,h=>by simp[qg6] at h;exact⟨q,rfl,h.symm⟩
 |q::qs,k,j+1,s,h=>by
  simp[qg6] at h
  obtain⟨r,h1,h2⟩:=qcN h
  exact⟨r,by simpa using h1,by rw[h2];congr 1;omega⟩
theorem qfd:∀{ρ:List Sl} {k:Nat},(qg6 k ρ).length=ρ.length
 |[],_=>rfl
 |q::qs,k=>by simp[qg6,qfd]
theorem qco {ρ0:List Sl}:∀{ρ:List Sl} {k j:Nat} {s:Sl},(qgG ρ0 k ρ)[j]? = some s→∃q,ρ[j]? = some q∧s=ext (k+j) (ρ0[k+j]?.getD .non) q
 |[],k,j,s,h=>by simp[qgG] at h
 |q::qs,k,0,s,h=>by simp[qgG] at h;exact⟨q,rfl,h.symm⟩
 |q::qs,k,j+1,s,h=>by
  simp[qgG] at h
  obtain⟨r,h1,h2⟩:=qco h
  have:k+1+j=k+(j+1):=by omega
  exact⟨r,by simpa using h1,by rw[h2,this]⟩
theorem qdA {ρ0:List Sl}:∀{ρ:List Sl} {k:Nat},(qgG ρ0 k ρ).length=ρ.length
 |[],_=>rfl
 |q::qs,k=>by simp[qgG,qdA]
theorem LNb.up {K:PySem.W.Frag} {P N R R':Hp} {b:Bool} (h:L2.Same R R'):∀a xs,LNb K P N R b a xs→LNb K P N R' b a xs:=fun a xs q=>by
 rcases q with q | ⟨hb,q | q | q⟩
 ·exact .inl q
 ·exact .inr ⟨hb,.inl q⟩
 ·exact .inr ⟨hb,.inr (.inl q)⟩
 ·exact .inr ⟨hb,.inr (.inr (L2.Same.seq h q))⟩
theorem RepB.dn {C C':Ctx} {P N:Hp} {b:Bool} {d:Cm.D} {v:V} (hG:C'.G=C.G) (hb:(b||d.flat)=true) (h:RepB C' P N b d v):RepB C P N b d v:=by
 unfold RepB at *
 rw[hG] at h
 cases b with
 |true=>exact Rep.mono (L2.Same.refl _) _ _ (fun a xs q=>by
  rcases q with q | ⟨hb,_⟩
  ·exact .inl q
  ·cases hb) h
 |false=>exact Rep.flat _ _ (by simpa using hb) h
theorem RepsB.dn {C C':Ctx} {P N:Hp} {b:Bool} {d:List Cm.D} {v:List V} (hG:C'.G=C.G) (hb:(b||D.flats d)=true) (h:RepsB C' P N b d v):RepsB C P N b d v:=by
 unfold RepsB at *
 rw[hG] at h
 cases b with
 |true=>exact Reps.mono (L2.Same.refl _) _ _ (fun a xs q=>by
  rcases q with q | ⟨hb,_⟩
  ·exact .inl q
  ·cases hb) h
 |false=>exact Reps.flat _ _ (by simpa using hb) h
end
section
variable {C:Ctx} {P N H P' H':Hp} {ρ:List Sl} {σ:L2.St} {T:TL}
theorem HvR.tn (a:HvR P H P' H' T) {b:Addr} (h:H b≠none):T b=none:=by
 cases e:T b with
 |none=>rfl
 |some xs=>exact absurd (a.t b xs e).2.1 h
theorem HvR.tp (a:HvR P H P' H' T) {b:Addr} (h:P' b≠none):T b=none:=by
 cases e:T b with
 |none=>rfl
 |some xs=>exact absurd (a.t b xs e).2.2 h
theorem HvR.sR (a:HvR P H P' H' T) {R:Hp} (h:L2.Same R H):L2.Same R (TR T R):=fun b o e=>by
 rw[qcA (a.tn (b:=b) (by rw[h _ _ e];exact fun z=>nomatch z))];exact e
theorem HvR.reg (a:HvR P H P' H' T) (r:Reg C P N H) {fx:Nat→Option V}:Reg (C.hv T fx) P' N H' where
 pH:=a.pH
 nH:=r.nH.trans a.hh
 bH:=fun b o e=>by
  have e:TR T C.B b=some o:=e
  cases q:T b with
  |none=>rw[qcA q] at e;exact a.hh _ _ (r.bH _ _ e)
  |some xs=>rw[qea q] at e;cases e;exact(a.t b xs q).1
 rB:=fun b o e=>by
  have e:TR T C.R b=some o:=e
  show TR T C.B b=some o
  cases q:T b with
  |none=>rw[qcA q] at e ⊢;exact r.rB _ _ e
  |some xs=>rw[qea q] at e ⊢;exact e
 p0:=r.p0.trans a.pp
 pn:=fun b h=>by
  have t:=a.tp h
  show C.P0 b≠none∨TR T C.B b=none
  rw[qcA t]
  rcases a.pn b h with z | z
  ·exact r.pn b z
  ·exact .inr (r.bH.free z)
 nw:=fun b h=>by
  have hb:H b≠none:=fun z=>h (r.nH.free z)
  show TR T C.B b=none
  rw[qcA (a.tn hb)];exact r.nw b h
 dj:=fun b h=>by
  cases q:P' b with
  |none=>rfl
  |some o =>
   rcases a.pn b (by rw[q];exact fun z=>nomatch z) with z | z
   ·exact absurd (r.dj b h) z
   ·exact absurd (r.nH.free z) h
theorem qlh {i:Nat} {v w:V} (hi:i<σ.length) (h:((σ.set i (some v))[i]?).join=some w):w=v:=by
 rw[List.getElem?_set_self hi] at h
 cases h;rfl
theorem HvR.into (a:HvR P H P' H' T) (S:SR C P N H ρ σ) {i:Nat} {d:D} {v:V} (hi:i<σ.length) (rv:Rep C.G P' (LT T) d v):SR (C.hv T fun k=>((σ.set i (some v))[k]?).join) P' N H' ((qg6 0 ρ).set i (.fxd d i)) (σ.set i (some v)) where
 reg:=a.reg S.reg
 len:=by simp[S.len,qfd]
 sl:=fun j s e=>by
  by_cases q:i=j
  ·subst q
   rw[List.getElem?_set_self (by rw[qfd,←S.len];exact hi)] at e
   cases e
   refine⟨some v,List.getElem?_set_self hi,v,rfl,?_,?_⟩
   ·show((σ.set i (some v))[i]?).join=some v
    rw[List.getElem?_set_self hi];rfl
   ·exact Rep.mono (L2.Same.refl _) _ _ (fun b xs z=>.inr ⟨rfl,.inr (.inr (.inl (.inl (qea z))))⟩) rv
  ·rw[List.getElem?_set_ne q] at e
   obtain⟨s0,e0,rfl⟩:=qcN e
   obtain⟨o,y1,y2⟩:=S.sl j s0 e0
   rw[List.getElem?_set_ne q]
   refine⟨o,y1,?_⟩
   have mR:=a.sR S.reg.rH
   have up:∀{b:Bool} {d:D} {v:V},RepB C P N b d v→RepB (C.hv T fun k=>((σ.set i (some v))[k]?).join) P' N b d v:=fun {b d v} h =>
    Rep.mono a.pp _ _ (fun c xs z=>LNb.up mR c xs (LNb.mono a.pp (L2.Same.refl _) c xs z)) h
   have ups:∀{b:Bool} {d:List D} {v:List V},RepsB C P N b d v→RepsB (C.hv T fun k=>none) P' N b d v:=fun {b d v} h =>
    Reps.mono a.pp _ _ (fun c xs z=>LNb.up mR c xs (LNb.mono a.pp (L2.Same.refl _) c xs z)) h
   have hfx:∀w,o=some w→((σ.set i (some v))[j]?).join=some w:=fun w ew=>by rw[List.getElem?_set_ne q,y1,ew];rfl
   rw[Nat.zero_add]
   cases s0 with
   |non=>trivial
   |val d b =>
    obtain⟨w,rfl,h3⟩:=y2
    by_cases hb:(b||d.flat)=true
    ·rw[show ent j (.val d b)=.val d b from if_pos hb]
     exact⟨w,rfl,up h3⟩
    ·rw[show ent j (.val d b)=.fxd d j from if_neg hb]
     have hb':b=false:=by cases b with
      |false=>rfl
      |true=>simp at hb
     subst hb'
     exact⟨w,rfl,hfx w rfl,up h3⟩
   |own ds b =>
    obtain⟨p,xs,rfl,h3,h4,h5,h6,h7⟩:=y2
    have hne:H p≠none:=by rw[h3];exact fun z=>nomatch z
    refine⟨p,xs,rfl,a.hh _ _ h3,?_,h5,?_,ups h7⟩
    ·cases q2:P' p with
     |none=>rfl
     |some o =>
      rcases a.pn p (by rw[q2];exact fun z=>nomatch z) with z | z
      ·exact absurd h4 z
      ·exact absurd z hne
    ·show TR T C.B p=none
     rw[qcA (a.tn hne)];exact h6
   |slf c fs=>trivial
   |fxd d k =>
    obtain⟨w,rfl,_,h3⟩:=y2
    exact⟨w,rfl,hfx w rfl,up h3⟩
   |dct m c=>trivial
   |row _=>trivial
 ap:=fun j k p ds b es c e1 e2 e3 e4=>by
  have old:∀{m:Nat} {es:List D} {c:Bool},((qg6 0 ρ).set i (.fxd d i))[m]? = some (.own es c)→i≠m∧ρ[m]? = some (.own es c):=fun {m es c} e=>by
   by_cases q:i=m
   ·subst q
    rcases Nat.lt_or_ge i (qg6 0 ρ).length with z | z
    ·rw[List.getElem?_set_self z] at e;cases e
    ·rw[List.getElem?_eq_none (by simpa using z)] at e;cases e
   ·rw[List.getElem?_set_ne q] at e
    obtain⟨s0,e0,es0⟩:=qcN e
    refine⟨q,?_⟩
    rw[e0]
    cases s0 with
    |own ds' b'=>simp only[ent] at es0;rw[es0]
    |val d b =>
     by_cases hb:(b||d.flat)=true
     ·rw[show ent (0+m) (.val d b)=.val d b from if_pos hb] at es0;cases es0
     ·rw[show ent (0+m) (.val d b)=.fxd d (0+m) from if_neg hb] at es0;cases es0
    |_=>cases es0
  obtain⟨n1,o1⟩:=old e1
  obtain⟨n2,o2⟩:=old e2
  rw[List.getElem?_set_ne n1] at e3
  rw[List.getElem?_set_ne n2] at e4
  exact S.ap j k p ds b es c o1 o2 e3 e4
 ad:=AD.setS (AD.no fun j s e=>by
  obtain⟨s0,e0,rfl⟩:=qcN e
  cases s0 with
  |val d b=>simp only[ent];split<;>rfl
  |_=>rfl) rfl
 ar:=AR.no fun j s e=>by
  rcases qal e with⟨_,z⟩ | ⟨_,z⟩
  ·rw[z];rfl
  ·obtain⟨s0,e0,rfl⟩:=qcN z
   cases s0 with
   |val d b=>simp only[ent];split<;>rfl
   |_=>rfl
theorem HvR.regO (a:HvR P H P' H' T) (r:Reg C P N H) {fx:Nat→Option V} {P2 N2 H2:Hp} (r2:Reg (C.hv T fx) P2 N2 H2):Reg C P2 N2 H2 where
 pH:=r2.pH
 nH:=r2.nH
 bH:=fun b o e=>r2.bH b o (by
  show TR T C.B b=some o
  rw[qcA (a.tn (b:=b) (by rw[r.bH _ _ e];exact fun z=>nomatch z))];exact e)
 rB:=r.rB
 p0:=r2.p0
 pn:=fun b h=>by
  rcases r2.pn b h with z | z
  ·exact .inl z
  ·exact .inr (qfO z).2
 nw:=fun b h=>(qfO (r2.nw b h)).2
 dj:=r2.dj
theorem SR.drop {P N H:Hp} {ρ:List Sl} {σ:L2.St} (S:SR C P N H ρ σ) (i:Nat):SR C P N H (ρ.set i .non) σ where
 reg:=S.reg
 len:=by simp[S.len]
 sl:=fun j s e=>by
  by_cases q:i=j
  ·subst q
   rcases Nat.lt_or_ge i ρ.length with z | z
   ·rw[List.getElem?_set_self z] at e
    cases e
    exact⟨_,List.getElem?_eq_getElem (by rw[S.len];exact z),trivial⟩
   ·rw[List.getElem?_eq_none (by simpa using z)] at e;cases e
  ·rw[List.getElem?_set_ne q] at e
   exact S.sl j s e
 ap:=fun j k p ds b es c e1 e2 e3 e4=>by
  have old:∀{m:Nat} {es:List D} {c:Bool},(ρ.set i .non)[m]? = some (.own es c)→ρ[m]? = some (.own es c):=fun {m es c} e=>by
   by_cases q:i=m
   ·subst q
    rcases Nat.lt_or_ge i ρ.length with z | z
    ·rw[List.getElem?_set_self z] at e;cases e
    ·rw[List.getElem?_eq_none (by simpa using z)] at e;cases e
   ·rw[List.getElem?_set_ne q] at e;exact e
  exact S.ap j k p ds b es c (old e1) (old e2) e3 e4
 ad:=S.ad.setS rfl
 ar:=S.ar.setS rfl
theorem SR.wipeS {P N H:Hp} {ρ:List Sl} {σ:L2.St} (S:SR C P N H ρ σ):∀vs:List Nat,SR C P N H (Cm.wipeS ρ vs) σ
 |[]=>S
 |v::vs=>(SR.wipeS S vs).drop v
theorem qc6 {ρ:List Sl}:∀vs:List Nat,(wipeS ρ vs).length=ρ.length
 |[]=>rfl
 |v::vs=>by simp[wipeS,qc6 vs]
theorem qhn {ρ:List Sl} {v:Nat} (hv:v<ρ.length):∀{vs:List Nat},v∈vs→(wipeS ρ vs)[v]? = some .non
 |[],h=>by cases h
 |w::vs,h=>by
  unfold wipeS
  by_cases q:w=v
  ·subst q;rw[List.getElem?_set_self (by rw[qc6];exact hv)]
  ·rw[List.getElem?_set_ne q]
   rcases List.mem_cons.mp h with h | h
   ·exact absurd h.symm q
   ·exact qhn hv h
theorem qgD {ρ:List Sl} {j:Nat} {s:Sl} (hs:s≠.non):∀{vs:List Nat},(wipeS ρ vs)[j]? = some s→ρ[j]? = some s
 |[],h=>h
 |w::vs,h=>by
  unfold wipeS at h
  by_cases q:w=j
  ·subst q
   rcases Nat.lt_or_ge w (wipeS ρ vs).length with z | z
   ·rw[List.getElem?_set_self z] at h;cases h;exact absurd rfl hs
   ·rw[List.getElem?_eq_none (by simpa using z)] at h;cases h
  ·rw[List.getElem?_set_ne q] at h;exact qgD hs h
theorem qf1 {ρ:List Sl} {j:Nat} (h:ρ[j]? = some .non):∀{vs:List Nat},(wipeS ρ vs)[j]? = some .non
 |[]=>h
 |w::vs=>by
  unfold wipeS
  by_cases q:w=j
  ·subst q
   rw[List.getElem?_set_self (by rw[qc6];exact(List.getElem?_eq_some_iff.mp h).1)]
  ·rw[List.getElem?_set_ne q];exact qf1 h
theorem qhY {ρ:List Sl} (h:∀(j:Nat) (s:Sl),ρ[j]? = some s→s.isW=false):∀{vs:List Nat} (j:Nat) (s:Sl),(Cm.wipeS ρ vs)[j]? = some s→s.isW=false
 |[],j,s,e=>h j s e
 |v::vs,j,s,e=>by
  unfold Cm.wipeS at e
  rcases qal e with⟨_,z⟩ | ⟨_,z⟩
  ·rw[z];rfl
  ·exact qhY h j s z
theorem HvR.out (a:HvR P H P' H' T) (S:SR C P N H ρ σ) {i:Nat} {d d2:D} {v:V} (hi:i<σ.length) (rv:Rep C.G P' (LT T) d v) {P2 N2 H2:Hp} {ρ2:List Sl} {σ2:L2.St}
  (S2:SR (C.hv T fun k=>((σ.set i (some v))[k]?).join) P2 N2 H2 ρ2 σ2) (sp:L2.Same P' P2) (sn:L2.Same N N2) (e2:ρ2[i]? = some (.fxd d2 i)) (vs:List Nat) :
  Raw C P2 N2 H2 (wipeS (qgG (ρ.set i .non) 0 ρ2) vs) σ2 T ([],0) [(i,d)]:=by
 have rg:=a.regO S.reg S2.reg
 have own:∀{j:Nat} {ds:List D} {b:Bool},(qgG (ρ.set i .non) 0 ρ2)[j]? = some (.own ds b)→ρ2[j]? = some (.own ds b)∧(b||D.flats ds)=true:=fun {j ds b} e=>by
  obtain⟨q,h1,h2⟩:=qco e
  cases q with
  |own es c =>
   simp only[ext] at h2
   split at h2
   ·cases h2;exact⟨h1,by assumption⟩
   ·cases h2
  |val d' b' =>
   simp only[ext] at h2
   split at h2<;>cases h2
  |non=>cases h2
  |slf _ _=>cases h2
  |fxd _ k =>
   simp only[ext] at h2
   split at h2
   ·split at h2<;>cases h2
   ·cases h2
  |dct _ _=>cases h2
  |row _=>cases h2
 have ei:(qgG (ρ.set i .non) 0 ρ2)[i]? = some .non:=by
  have hl:i<ρ2.length:=(List.getElem?_eq_some_iff.mp e2).1
  have:i<(qgG (ρ.set i .non) 0 ρ2).length:=by rw[qdA];exact hl
  obtain⟨q,h1,h2⟩:=qco (List.getElem?_eq_getElem this)
  rw[e2] at h1;cases h1
  rw[List.getElem?_eq_getElem this,h2]
  simp only[Nat.zero_add,ext,if_true]
  rw[List.getElem?_set_self (by rw[←S.len];exact hi)]
  rfl
 have noW:∀(j:Nat) (s:Sl),(qgG (ρ.set i .non) 0 ρ2)[j]? = some s→s.isW=false:=fun j s e=>by
  obtain⟨q,h1,rfl⟩:=qco e
  cases q with
  |val d b=>simp only[ext];split<;>rfl
  |own d b=>simp only[ext];split<;>rfl
  |fxd d k =>
   simp only[ext]
   split
   ·split<;>rfl
   ·rfl
  |_=>rfl
 have sr:SR C P2 N2 H2 (qgG (ρ.set i .non) 0 ρ2) σ2:=by
  refine⟨rg,by rw[qdA,S2.len],fun j s e=>?_,fun j k p ds b es c e1 e3 e4 e5=>S2.ap j k p ds b es c (own e1).1 (own e3).1 e4 e5,AD.no fun j s e=>by
   obtain⟨q,h1,rfl⟩:=qco e
   cases q with
   |val d b=>simp only[ext];split<;>rfl
   |own d b=>simp only[ext];split<;>rfl
   |fxd d k =>
    simp only[ext]
    split
    ·split<;>rfl
    ·rfl
   |_=>rfl,AR.no noW⟩
  obtain⟨q,h1,h2⟩:=qco e
  obtain⟨o,y1,y2⟩:=S2.sl j q h1
  refine⟨o,y1,?_⟩
  rw[h2,Nat.zero_add]
  cases q with
  |non=>trivial
  |slf _ _=>trivial
  |dct _ _=>trivial
  |row _=>trivial
  |val d b =>
   simp only[ext]
   split
   ·rename_i hb
    obtain⟨w,rfl,h3⟩:=y2
    exact⟨w,rfl,RepB.dn (C':=C.hv T fun k=>((σ.set i (some v))[k]?).join) rfl hb h3⟩
   ·trivial
  |own ds b =>
   simp only[ext]
   split
   ·rename_i hb
    obtain⟨p,xs,rfl,h3,h4,h5,h6,h7⟩:=y2
    exact⟨p,xs,rfl,h3,h4,h5,(qfO h6).2,RepsB.dn (C':=C.hv T fun k=>((σ.set i (some v))[k]?).join) rfl hb h7⟩
   ·trivial
  |fxd d' k =>
   simp only[ext]
   split
   ·rename_i hk
    subst hk
    by_cases hki:i=k
    ·subst hki
     rw[List.getElem?_set_self (by rw[←S.len];exact hi)]
     trivial
    ·rw[List.getElem?_set_ne hki]
     obtain⟨w,rfl,h3,_⟩:=y2
     have h3:((σ.set i (some v))[k]?).join=some w:=h3
     rw[List.getElem?_set_ne hki] at h3
     cases e0:ρ[k]? with
     |none=>trivial
     |some s0 =>
      obtain⟨o,z1,z2⟩:=S.sl k s0 e0
      have ho:o=some w:=by
       rw[z1] at h3
       exact h3
      subst ho
      cases s0 with
      |val d b =>
       obtain⟨u,eu,h4⟩:=z2
       cases eu
       exact⟨w,rfl,RepB.adv (a.pp.trans sp) sn h4⟩
      |fxd d m =>
       obtain⟨u,eu,h5,h4⟩:=z2
       cases eu
       exact⟨w,rfl,h5,RepB.adv (a.pp.trans sp) sn h4⟩
      |non=>trivial
      |own _ _=>trivial
      |slf _ _=>trivial
      |dct _ _=>trivial
      |row _=>trivial
   ·trivial
 have tb:∀{b:Addr} {xs:List V},T b=some xs→TR T C.B b≠none:=fun {b xs} e=>by rw[qea e];exact fun z=>nomatch z
 refine⟨sr.wipeS vs,fun b xs e=>⟨xs,S2.reg.bH b _ (qea e),fun _=>rfl,Nat.le_add_right _ _⟩,fun b xs e=>⟨?_,?_,?_⟩,fun j ds b p e1 e3=>?_,fun j d' m=>?_,qhY noW⟩
 ·cases q:P2 b with
  |none=>rfl
  |some o =>
   rcases S2.reg.pn b (by rw[q];exact fun z=>nomatch z) with z | z
   ·have hb:=(a.t b xs e).2.1
    exact absurd (S.reg.p0.free (S.reg.pH.free hb)) z
   ·exact absurd z (tb e)
 ·cases q:N2 b with
  |none=>rfl
  |some o=>exact absurd (S2.reg.nw b (by rw[q];exact fun z=>nomatch z)) (tb e)
 ·exact S.reg.bH.free (a.t b xs e).2.1
 ·obtain⟨h1,_⟩:=own (qgD (by simp) e1)
  obtain⟨o,y1,p',xs,rfl,h3,h4,h5,h6,h7⟩:=S2.sl j _ h1
  rw[y1] at e3;cases e3
  exact(qfO h6).1
 ·simp only[List.mem_singleton,Prod.mk.injEq] at m
  obtain⟨rfl,rfl⟩:=m
  refine⟨qf1 ei,v,?_,Rep.mono sp _ _ (fun _ _ q=>q) rv⟩
  obtain⟨o,y1,w,rfl,h3,_⟩:=S2.sl j _ e2
  have:=qlh hi h3
  subst this
  exact y1
end
section
variable {T:Tb} {Γ:Env} {C:Ctx} {X:Cx} {sc:Scope}
theorem XOk.hv {fc:Option Scope} {TT:TL} {fx:Nat→Option V} (I:XOk T Γ C X fc sc):XOk T Γ (C.hv TT fx) X fc sc where
 nm:=I.nm
 nd:=I.nd
 sc:=I.sc
 K:=I.K
 tk:=I.tk
 calm:=I.calm
 un:=I.un
 blt:=I.blt
 fnc:=I.fnc
 fn:=I.fn
 gc:=fun k x h c e=>by
  obtain⟨u,v,h1,h2,h3,h4⟩:=I.gc k x h c e
  refine⟨u,v,h1,h2,fun P N=>?_,h4⟩
  exact Rep.mono (L2.Same.refl _) _ _ (fun a xs q=>by
   rcases q with q | ⟨hb,_⟩
   ·exact .inl q
   ·cases hb) (h3 P N)
 mt:=fun m x n h c g e=>by
  obtain⟨h1,h2,h3⟩:=I.mt m x n h c g e
  exact⟨h1,h2,h3⟩
 fs:=fun f x h c k e=>by
  obtain⟨h1,h2,h3,h4⟩:=I.fs f x h c k e
  exact⟨h1,h2,h3,h4⟩
 nw:=fun k x n h g e=>by
  obtain⟨h1⟩:=I.nw k x n h g e
  exact⟨h1⟩
 ck:=I.ck
 xk:=I.xk
 dc:=I.dc
def tHv (C:Ctx) (i n:Nat) (g:List Sl→RE (List ER)) (g':List Cm.D→RE ER):TS:=tAsg (fun σ H Q=>tA C g σ H fun vs H1=>spD C.G n g' vs H1 Q (fun cls d H'=>C.W cls d σ H')) (gName i)
theorem qpj {i f:Nat} {es:Exs} {st:Stmt} (I:XOk T Γ C X none sc) (h:qm1 T sc i f es st=true):∀g,Γ.fn[f]? = some g→∃n,(∀ρ r,evs Γ es ρ=.ok r→r.length=n)∧PS X st (tHv C i n (evs Γ es) g.2):=fun g e=>by
 unfold qm1 at h
 split at h
 case h_2=>cases h
 rename_i x pn y p xs q pos
 simp only[Bool.and_eq_true,decide_eq_true_eq] at h
 obtain⟨⟨⟨⟨⟨⟨h1,h2⟩,h3⟩,h4⟩,h5⟩,h6⟩,h7⟩:=h
 obtain⟨t1,t2⟩:=qfN I h2
 obtain⟨k,a,fd,ps,m,gf,F,hr,hm,hk,dv,dvs,dus,hb,hdv,hdm,hdr,hgf⟩:=I.fn f y xs.length h3 g e
 refine⟨xs.length,fun ρ r er=>qbg es ρ r xs h6 er,?_⟩
 exact ps_set I.nd (by rw[I.nm];exact h1) t1 (qdz (C:=C) F hr (qav I.sc h4) hm hk hb hdv hdm hdr hgf I.tk (qbe es I h6 h7) (qaG h5).1 (qbW h7) (fun z ρ=>qc9 h6 z ρ)) rfl t2
def tIn (C:Ctx) (g:List Sl→Out) (u:TS):TS:=fun D σ H=>∃TT fx,tSk (C.hv TT fx) g u D σ H
theorem qp6 {i n:Nat} {es:Exs} {g':List Cm.D→RE ER} {rd:List Sl→Out} {cs:Ch} {f:List Sl→Out} {D:Ends} {σ:L2.St} {H:Hp} {u:TS} (hn:∀ρ r,evs Γ es ρ=.ok r→r.length=n)
  (q:tSk C (fun ρ=>(evs Γ es ρ).out fun r=>(g' (r.map ER.d)).out fun er=>match qir er with
   |some d=>gdO (Nat.blt i ρ.length) ((rd ((qg6 0 ρ).set i (.fxd d i))).hv ρ i d cs f)
   |none=>.bad) u D σ H):tHv C i n (evs Γ es) g' { D with nx:=tIn C rd (tCk C cs (tSk C f u)) D } σ H:=by
 obtain⟨ρ,P,N,S,o⟩:=q
 refine⟨ρ,P,N,S,(o.res S.reg).mono fun r P1 N1 H1 e1 a1 o1 vs rv=>?_⟩
 have S1:=S.adv a1
 refine qhH S1.reg rv (hn _ _ e1) ?_
 cases eg:g' (r.map ER.d) with
 |bad=>rw[eg] at o1;exact o1
 |exc c fs =>
  rw[eg] at o1
  exact fun d P' N' H' ad hx=>o1 σ d P' N' H' (S1.reg.adv ad) hx
 |ok er =>
  rw[eg] at o1
  simp only[RE.out_ok] at o1
  cases ed:qir er with
  |none=>rw[ed] at o1;exact o1.elim
  |some d =>
   rw[ed] at o1
   simp only[qas] at o1
   split at o1
   case isFalse=>exact o1.elim
   rename_i hi
   have hi:i<σ.length:=by rw[S.len];exact Nat.blt_eq.mp hi
   refine⟨d,ed,fun v H' P' TT a rvT=>?_⟩
   refine⟨TT,_,_,P',N1,a.into S1 hi rvT,?_⟩
   cases er2:rd ((qg6 0 ρ).set i (.fxd d i)) with
   |bad=>rw[er2] at o1;exact o1.elim
   |brk _=>rw[er2] at o1;exact o1.elim
   |cnt _=>rw[er2] at o1;exact o1.elim
   |exc c fs =>
    rw[er2] at o1
    intro σ2 d2 P2 N2 H2 r2 x2
    refine o1 σ2 d2 P2 N2 H2 (a.regO S1.reg r2) ?_
    rcases x2 with x2 | ⟨dd,f2,v2,h1,h2,h3,h4⟩
    ·exact .inl x2
    ·exact .inr ⟨dd,f2,v2,h1,h2,h3,RepB.dn (C':=C.hv TT fun k=>((σ.set i (some v))[k]?).join) rfl (by simp) h4⟩
   |ret er3 =>
    rw[er2] at o1
    simp only[Out.hv] at o1
    cases en:qir er3 with
    |none=>rw[en] at o1;exact o1.elim
    |some d3 =>
     rw[en] at o1
     intro v2 P2 N2 H2 r2 x2
     refine o1 v2 P2 N2 H2 (a.regO S1.reg r2) ?_
     cases er3 with
     |brw _ _=>cases en
     |val d4 b4 =>
      simp only[qir] at en
      split at en
      ·exact RepB.dn (C':=C.hv TT fun k=>((σ.set i (some v))[k]?).join) rfl (by assumption) x2
      ·cases en
     |fre d4 b4 =>
      simp only[qir] at en
      split at en
      ·obtain⟨p,xs,rfl,h1,h2,h3,h4,h5⟩:=x2
       exact⟨p,xs,rfl,h1,(qfO h2).2,h3,h4,RepsB.dn (C':=C.hv TT fun k=>((σ.set i (some v))[k]?).join) rfl (by assumption) h5⟩
      ·cases en
   |nx ρ2 =>
    rw[er2] at o1
    simp only[Out.hv] at o1
    intro σ2 P2 N2 H2 S2 sp sn
    split at o1
    case h_2=>exact o1.elim
    rename_i d2 k2 e2
    simp only[qas] at o1
    split at o1
    case isFalse=>exact o1.elim
    rename_i hk
    simp only[Bool.and_eq_true,beq_iff_eq,List.all_eq_true,Nat.blt_eq] at hk
    obtain⟨hk,htg⟩:=hk
    subst hk
    cases ec:chg cs [(k2,d)] ([],0) with
    |none=>rw[ec] at o1;exact o1.elim
    |some Z' =>
     rw[ec] at o1
     simp only at o1
     have R:=a.out S1 hi rvT S2 sp sn e2 cs.tgs
     exact⟨P2,N2,_,TT,_,_,Z',R,fun l hl=>qhn (by rw[qdA];exact htg l hl) hl,ec,fun σ3 P3 N3 H3 R3 s3 s4=>⟨_,P3,N3,R3.sr,o1.adv ((a1.pp.trans a.pp).trans (sp.trans s3)) (a1.nn.trans (sn.trans s4))⟩⟩
end
end Cm
namespace Cm
open PySem PySem.Spec PyProof.Rows L2
section
variable {G:Glo} {P:Hp} {T:TL}
mutual
theorem qnR {p:Addr} {ys:List V} (hp:T p=some ys):∀(d:D) (v:V) {N:Hp},(∀a xs,T a=some xs→a≠p→N a=some (.lst xs))→noK (clV ys) d=true→Rep G P (LT T) d v→Rep G P (fun a xs=>N a=some (.lst xs)) d v
 |.non,_,_,_,_,h=>h
 |.bl _,_,_,_,_,h=>h
 |.int _,_,_,_,_,h=>h
 |.str _,_,_,_,_,h=>h
 |.lst ds,v,N,hN,hk,⟨a,xs,e,h1,h2⟩=>by
  simp only[noK,Bool.and_eq_true,bne_iff_ne] at hk
  have h1:T a=some xs:=h1
  refine⟨a,xs,e,hN a xs h1 fun z=>hk.1 ?_,qdB hp ds xs hN hk.2 h2⟩
  subst z
  rw[hp] at h1;cases h1
  exact(qbH h2).symm
 |.tup ds,v,N,hN,hk,⟨a,xs,e,h1,h2⟩=>⟨a,xs,e,h1,qdB hp ds xs hN hk h2⟩
 |.ins _ _,_,_,_,_,h=>h
 |.exc _ _,_,_,_,_,h=>h
theorem qdB {p:Addr} {ys:List V} (hp:T p=some ys):∀(ds:List D) (vs:List V) {N:Hp},(∀a xs,T a=some xs→a≠p→N a=some (.lst xs))→qmE (clV ys) ds=true→Reps G P (LT T) ds vs→Reps G P (fun a xs=>N a=some (.lst xs)) ds vs
 |[],_,_,_,_,h=>h
 |d::ds,vs,N,hN,hk,⟨v,r,e,h1,h2⟩=>by
  simp only[qmE,Bool.and_eq_true] at hk
  exact⟨v,r,e,qnR hp d v hN hk.1 h1,qdB hp ds r hN hk.2 h2⟩
end
end
def NT (T:TL) (p:Addr) (N:Hp):Hp:=fun b=>if b=p then none else match T b with
 |some xs=>some (.lst xs)
 |none=>N b
section
variable {C:Ctx} {P N H P' H':Hp} {T:TL} {p:Addr} {ys:List V}
theorem qqH:NT T p N p=none:=if_pos rfl
theorem qq4 {b:Addr} {xs:List V} (h:T b=some xs) (ne:b≠p):NT T p N b=some (.lst xs):=by unfold NT;rw[if_neg ne,h]
theorem qqG {b:Addr} (h:T b=none) (ne:b≠p):NT T p N b=N b:=by unfold NT;rw[if_neg ne,h]
theorem HvR.advNT (a:HvR P H P' H' T) (r:Reg C P N H) (hp:T p=some ys):Adv P N H P' (NT T p N) H' where
 hh:=a.hh
 pp:=a.pp
 nn:=fun b o e=>by
  have hb:H b≠none:=by rw[r.nH _ _ e];exact fun z=>nomatch z
  have ne:b≠p:=fun z=>hb (z ▸ (a.t p ys hp).2.1)
  rw[qqG (a.tn hb) ne];exact e
 pH:=a.pH
 nH:=fun b o e=>by
  by_cases ne:b=p
  ·subst ne;rw[qqH] at e;cases e
  ·cases q:T b with
   |none=>rw[qqG q ne] at e;exact a.hh _ _ (r.nH _ _ e)
   |some xs=>rw[qq4 q ne] at e;cases e;exact(a.t b xs q).1
 pn:=a.pn
 nw:=fun b h=>by
  by_cases ne:b=p
  ·subst ne;exact absurd qqH h
  ·cases q:T b with
   |none=>rw[qqG q ne] at h;exact .inl h
   |some xs=>exact .inr (a.t b xs q).2.1
 dj:=fun b h h2=>by
  by_cases ne:b=p
  ·subst ne;exact absurd qqH h
  ·cases q:T b with
   |none=>rw[qqG q ne] at h;exact h
   |some xs=>exact absurd (a.t b xs q).2.2 h2
theorem SR.setO2 {H0 P N H:Hp} {ρ:List Sl} {σ:L2.St} (S:SR C P N H ρ σ) {i:Nat} {ds:List Cm.D} {b:Bool} {p:Addr} {xs:List V} (old0:∀(m:Nat) (r:Addr) (es:List Cm.D) (c:Bool),ρ[m]? = some (.own es c)→σ[m]? = some (some (.ref r))→H0 r≠none) (oldW:∀(m:Nat) (dss:List (List Cm.D)) (u:Option V),i≠m→ρ[m]? = some (.row dss)→σ[m]? = some u→¬Held H (.row dss) u p) (hB:C.B p=none) (h0:H0 p=none) (hp:H p=some (.lst xs)) (pP:P p=none) (pN:N p=none) (h:RepsB C P N b ds xs):SR C P N H (ρ.set i (.own ds b)) (σ.set i (some (.ref p))) where
 reg:=S.reg
 len:=by simp[S.len]
 sl:=fun j s e=>by
  by_cases q:i=j
  ·subst q
   have hi:i<ρ.length:=by
    rcases Nat.lt_or_ge i ρ.length with z | z
    ·exact z
    ·rw[List.getElem?_eq_none (by simpa using z)] at e;cases e
   rw[List.getElem?_set_self hi] at e
   cases e
   exact⟨_,List.getElem?_set_self (by rw[S.len];exact hi),p,xs,rfl,hp,pP,pN,hB,h⟩
  ·rw[List.getElem?_set_ne q] at e
   rw[List.getElem?_set_ne q]
   exact S.sl j s e
 ap:=fun j k r ds' c es c' e1 e2 e3 e4=>by
  have old:∀{m:Nat} {r:Addr} {es:List Cm.D} {c:Bool},i≠m→(ρ.set i (.own ds b))[m]? = some (.own es c)→(σ.set i (some (.ref p)))[m]? = some (some (.ref r))→H0 r≠none:=fun {m r es c} hm e1 e2=>by
   rw[List.getElem?_set_ne hm] at e1 e2
   exact old0 m r es c e1 e2
  have here:∀{m:Nat} {r:Addr},i=m→m<σ.length→(σ.set i (some (.ref p)))[m]? = some (some (.ref r))→r=p:=fun {m r} hm hl e=>by
   subst hm
   rw[List.getElem?_set_self hl] at e
   cases e;rfl
  have lt:∀{m:Nat} {o:Option V},(σ.set i (some (.ref p)))[m]? = some o→m<σ.length:=fun {m o} e=>by
   rcases Nat.lt_or_ge m σ.length with z | z
   ·exact z
   ·rw[List.getElem?_eq_none (by simpa using z)] at e;cases e
  by_cases q:i=j
  ·by_cases q2:i=k
   ·omega
   ·have:=here q (lt e3) e3
    subst this
    exact absurd h0 (old q2 e2 e4)
  ·by_cases q2:i=k
   ·have:=here q2 (lt e4) e4
    subst this
    exact absurd h0 (old q e1 e3)
   ·rw[List.getElem?_set_ne q] at e1 e3
    rw[List.getElem?_set_ne q2] at e2 e4
    exact S.ap j k r ds' c es c' e1 e2 e3 e4
 ad:=S.ad.set rfl
 ar:=S.ar.setO oldW
end
section
variable {T:Tb} {Γ:Env} {C:Ctx} {X:Cx} {sc:Scope}
theorem qlA {er:ER} {p:List Cm.D × List Cm.D} (h:qgV er=some p):er=.val (.tup [.lst p.1,.lst p.2]) true∧D.flats p.1=true∧clD p.1≠clD p.2∧qmE (clD p.2) p.2=true:=by
 unfold qgV at h
 split at h
 ·split at h
  ·rename_i k
   cases h
   simp only[Bool.and_eq_true,bne_iff_ne] at k
   exact⟨rfl,k.1.1,k.1.2,k.2⟩
  ·cases h
 ·cases h
theorem qlr {i j n:Nat} {es:Exs} {g':List Cm.D→RE ER} {D:Ends} {σ:L2.St} {H:Hp} (hK:X.K=C.G.K) (hn:∀ρ r,evs Γ es ρ=.ok r→r.length=n)
  (q:tS C (fun ρ=>(evs Γ es ρ).out fun r=>(g' (r.map ER.d)).out fun er=>match qgV er with
   |some p=>if i=j then .bad else .nx ((ρ.set i (.val (.lst p.1) true)).set j (.own p.2 true))
   |none=>.bad) D σ H):tAsg (fun σ H Q=>tA C (evs Γ es) σ H fun vs H1=>spD C.G n g' vs H1 Q (fun cls d H'=>C.W cls d σ H')) (gTup X.K 2 (qf3 [i,j])) D σ H:=by
 obtain⟨ρ,P,N,S,o⟩:=q
 refine⟨ρ,P,N,S,(o.res S.reg).mono fun r P1 N1 H1 e1 a1 o1 vs rv=>?_⟩
 have S1:=S.adv a1
 refine qhH S1.reg rv (hn _ _ e1) ?_
 cases eg:g' (r.map ER.d) with
 |bad=>rw[eg] at o1;exact o1
 |exc c fs =>
  rw[eg] at o1
  exact fun d P' N' H' ad hx=>o1 σ d P' N' H' (S1.reg.adv ad) hx
 |ok er =>
  rw[eg] at o1
  simp only[RE.out_ok] at o1
  cases ed:qgV er with
  |none=>rw[ed] at o1;exact o1.elim
  |some pr =>
   rw[ed] at o1
   obtain⟨ds,ys⟩:=pr
   obtain⟨rfl,f1,f2,f3⟩:=qlA ed
   by_cases hij:i=j
   ·simp only[if_pos hij] at o1;exact o1.elim
   simp only[if_neg hij] at o1
   refine⟨.tup [.lst ds,.lst ys],rfl,fun v H' P' TT a rvT=>?_⟩
   obtain⟨t,xs,rfl,ht,v1,r1,rfl,w1,v2,r2,rfl,w2,e3⟩:=rvT
   have e3:r2=[]:=e3
   subst e3
   obtain⟨p1,x1,rfl,t1,z1⟩:=w1
   obtain⟨p2,x2,rfl,t2,z2⟩:=w2
   have t1:TT p1=some x1:=t1
   have t2:TT p2=some x2:=t2
   have ne:p1≠p2:=fun z=>by
    subst z
    rw[t1] at t2;cases t2
    exact f2 ((qbH z1).symm.trans (qbH z2))
   have ad:=a.advNT (N:=N1) S1.reg t2
   have SA:=S1.adv ad
   have q1:RepB C P' (NT TT p2 N1) true (.lst ds) (.ref p1):=⟨p1,x1,rfl,.inl (qq4 t1 ne),Reps.flat ds x1 f1 z1⟩
   have q2:RepsB C P' (NT TT p2 N1) true ys x2:=by
    have k:=qdB (N:=NT TT p2 N1) t2 ys x2 (fun a xs e ne=>qq4 e ne) (by rw[qbH z2];exact f3) z2
    exact Reps.mono (L2.Same.refl _) ys x2 (fun a xs h=>.inl h) k
   refine⟨t,[.ref p1,.ref p2],rfl,hK ▸ Same.seqT ad.pH ht,rfl,_,_,rfl,_,_,rfl,rfl,?_⟩
   have S2:=SA.setV (i:=i) q1
   have hb:=a.t p2 x2 t2
   refine o1 _ P' (NT TT p2 N1) H' (SR.setO2 (H0:=H1) S2 (fun m r es c e1 e2=>?_) (fun m dss u _ e1 e2=>?_) (S1.reg.bH.free hb.2.1) hb.2.1 hb.1 hb.2.2 qqH q2) (a1.pp.trans ad.pp) (a1.nn.trans ad.nn)
   by_cases q:i=m
   ·subst q
    rcases Nat.lt_or_ge i ρ.length with z | z
    ·rw[List.getElem?_set_self z] at e1;cases e1
    ·rw[List.getElem?_eq_none (by simpa using z)] at e1;cases e1
   ·rw[List.getElem?_set_ne q] at e1 e2
    obtain⟨o,y1,p,xs,rfl,y3,_⟩:=S1.sl m _ e1
    rw[y1] at e2;cases e2
    rw[y3];exact fun z=>nomatch z
   rcases qal e1 with⟨_,z⟩ | ⟨q,z⟩
   ·cases z
   ·rw[List.getElem?_set_ne q] at e2
    exact S1.newW ad.hh hb.2.1 z e2
end
end Cm
namespace Cm
open PySem PySem.Spec PyProof.Rows L2
section
variable {C:Ctx} {X:Cx}
theorem qgk {ss:List Stmt} {g:List Sl→Out} (h:PSs X (ss++[]) (tSk C g tNext)):PSs X ss (tS C g):=by rw[List.append_nil] at h;exact h
theorem qkB {g g':List Sl→Out} {u:TS} {D:Ends} {σ:L2.St} {H:Hp} (q:tSk C g u D σ H) (e:∀ρ,g ρ=g' ρ):tSk C g' u D σ H:=by
 have:g=g':=funext e
 rw[←this];exact q
theorem qpy {u:TS} {D:Ends} {σ:L2.St} {H:Hp} (q:tSk C (fun ρ=>Out.nx ρ) u D σ H):u D σ H:=by
 obtain⟨ρ,P,N,S,o⟩:=q
 exact o σ P N H S (L2.Same.refl _) (L2.Same.refl _)
theorem qnb {g g':List Sl→Out} {u:TS} {D:Ends} {σ:L2.St} {H:Hp} (q:tSk C (fun ρ=>(g ρ).seq g') u D σ H):tSeq (tS C g) (tSk C g' u) D σ H:=by
 obtain⟨ρ,P,N,S,h⟩:=q
 refine⟨ρ,P,N,S,?_⟩
 show outS C P N { D with nx:=tSk C g' u D } (g ρ)
 cases e:g ρ with
 |nx ρ'=>simp only[e,Out.seq_nx] at h;exact fun σ P' N' H' S e1 e2=>⟨ρ',P',N',S,h.adv e1 e2⟩
 |bad=>simp only[e] at h;exact h
 |brk ρ'=>simp only[e] at h;exact h
 |cnt ρ'=>simp only[e] at h;exact h
 |ret er=>simp only[e] at h;exact h
 |exc c fs=>simp only[e] at h;exact h
theorem qpb {i:Nat} {g:List Sl→Out} {u:TS} {D:Ends} {σ:L2.St} {H:Hp} (q:tSk C (fun ρ=>qaI ρ i fun ds b=>g (ρ.set i (.val (.lst ds) b))) u D σ H):tSk C g u D σ H:=qox (D:={ D with nx:=u D }) q
end
theorem qmy {T:Tb} {Γ:Env} {C:Ctx} {X:Cx} {sc:Scope} (I:XOk T Γ C X none sc):∀(es:Exs) {xs:List Expr},qaz T es none sc xs=true→xs.all qac=true→PA X xs (tF C (evF Γ es))
 |.nil,xs,h,_=>by
  unfold qaz at h
  cases xs with
  |nil=>exact qc3 qno fun σ H Q q=>q
  |cons _ _=>cases h
 |.cons e es,xs,h,hs=>by
  unfold qaz at h
  cases xs with
  |nil=>cases h
  |cons x xs =>
   simp only[Bool.and_eq_true,List.all_cons] at h hs
   have:=qlz (qab e I h.1).1 (qmy I es h.2 hs.2) (qaa hs.1)
   exact qc3 this fun σ H Q q=>by
    obtain⟨ρ,P,N,S,k⟩:=q
    exact⟨ρ,P,N,S,by rw[evF] at k;exact k⟩
structure FrOk (X:Cx):Prop where
 st:X.stack=X.env::X.outer
 fr:X.env.frame=some X.env.locals
 ex:X.ex=[]
mutual
theorem qpZ {T:Tb} {Γ:Env} {C:Ctx} {X:Cx} {sc:Scope} (I:XOk T Γ C X none sc) (hp:PassesOwn (model X.prog X.w) X.A X.env X.xe) (hF:FrOk X):∀(ir:Sm) {s:Stmt},qcf T sc ir s=true→PS X s (tS C (run Γ ir))
 |.nev,s,h=>qaw qgO fun ρ=>by rw[run]
 |.rse k,s,h=>by
  unfold qcf at h
  split at h
  case h_2=>cases h
  simp only[Bool.and_eq_true,decide_eq_true_eq] at h
  obtain⟨⟨h1,h2⟩,h3⟩:=h
  cases q:Γ.xk[k]? with
  |none=>exact qaw qgO fun ρ=>by rw[run,q]
  |some c=>exact qaw (qoH I.K I.calm I.tk (qav I.sc h2) (qaG h3).1 (I.xk k _ h1 c q)) fun ρ=>by rw[run,q]
 |.tryx k i j b,s,h=>by
  unfold qcf at h
  split at h
  case h_2=>cases h
  simp only[Bool.and_eq_true,decide_eq_true_eq] at h
  obtain⟨⟨⟨⟨⟨⟨⟨⟨⟨⟨h1,h2⟩,h3⟩,h4⟩,h5⟩,rfl⟩,h7⟩,h8⟩,h9⟩,h10⟩,h11⟩:=h
  cases q:T.ck[k]? with
  |none=>rw[q] at h1;cases h1
  |some t =>
   obtain⟨x,own⟩:=t
   rw[q] at h1
   cases h1
   exact qaw (qoa I.K hF.st hF.fr hF.ex I.nd (by rw[I.nm];exact h4) (by rw[I.nm];exact h5) (by unfold Env.kindOf;rw[I.sc];exact h7) (by unfold Env.kindOf;rw[I.sc];exact h8) (qaG h9) (qav I.sc h2) (I.blt _ (by decide)) (qaG h3).1 (I.ck k x own q) I.tk h10 (fun W pn xe tk _=>qhc b (I.tr tk) h11)) fun ρ=>by rw[run]
 |.asg i e,s,h=>by
  unfold qcf at h
  split at h
  case h_2=>cases h
  simp only[Bool.and_eq_true,decide_eq_true_eq] at h
  obtain⟨⟨⟨h1,h2⟩,h3⟩,h4⟩:=h
  exact qaw (qae (qgS I h1 h2 h3 h4) fun D σ H q=>qnU q) fun ρ=>by rw[run]
 |.own i e,s,h=>by
  unfold qcf at h
  split at h
  case h_2=>cases h
  simp only[Bool.and_eq_true,decide_eq_true_eq] at h
  obtain⟨⟨⟨h1,h2⟩,h3⟩,h4⟩:=h
  exact qaw (qae (qgS I h1 h2 h3 h4) fun D σ H q=>qoW q) fun ρ=>by rw[run]<;>rfl
 |.asgT tg e,s,h=>by
  unfold qcf at h
  split at h
  case h_2=>cases h
  simp only[Bool.and_eq_true] at h
  obtain⟨⟨⟨⟨h1,h2⟩,h3⟩,h4⟩,h5⟩:=h
  exact qaw (qlE (qab e I h3).1 (qdC I h1) (qjx h4) (qgt h5) (qjw h2)) fun ρ=>by rw[run]<;>rfl
 |.par tg es,s,h=>by
  unfold qcf at h
  split at h
  case h_2=>cases h
  rename_i ts kt pt vs k2 pt2 pos
  simp only[Bool.and_eq_true,decide_eq_true_eq,Bool.not_eq_true'] at h
  obtain⟨⟨⟨⟨⟨⟨⟨⟨h1,h2⟩,h3⟩,h4⟩,h5⟩,h6⟩,h7⟩,h8⟩,h9⟩:=h
  have hk:X.env.scope.kind=.function:=by
   rw[I.sc]
   cases e:sc.kind<;>simp_all
  have pa:=qbe es I h1 h2
  rcases h8 with h8 | h8
  ·obtain⟨t1,t2,rfl⟩:=qg8 h8
   obtain⟨v1,v2,rfl⟩:=qg8 (h7 ▸ h8)
   obtain⟨i,j,x,y,px,py,rfl,rfl,rfl,a1,a2,b1,b2,b3⟩:=qnn h3
   have hij:i≠j:=by simpa using h6
   have hxy:x≠y:=fun e=>by
    subst e
    exact hij (nodup_ix (by rw[←I.nm];exact I.nd) a1 b1)
   exact qaw (qae (ps_par I.calm I.nd (by rw[I.nm];exact a1) (by rw[I.nm];exact b1) hij (by rw[I.sc];exact a2) (by rw[I.sc];exact b2) pa (qm0 hk (by rw[I.sc];exact a2) (by rw[I.sc];exact b2) b3 hxy h2 h4 h5)) fun D σ H q=>qkG q) fun ρ=>by rw[run]
  ·obtain⟨t1,t2,t3,rfl⟩:=qdZ h8
   obtain⟨v1,v2,v3,rfl⟩:=qdZ (h7 ▸ h8)
   obtain⟨i,j,k,x,y,z,px,py,pz,rfl,rfl,rfl,rfl,a1,a2,b1,b2,b3,c1,c2,c3⟩:=qkb h3
   have hij:i≠j∧i≠k∧j≠k:=by
    simp at h6;omega
   have ne:∀{m n:Nat} {x y:Str},m≠n→T.N[m]? = some x→T.N[n]? = some y→x≠y:=fun {m n x y} hmn e1 e2 e=>by
    subst e
    exact hmn (nodup_ix (by rw[←I.nm];exact I.nd) e1 e2)
   exact qaw (qae (ps_par3 I.calm I.nd (by rw[I.nm];exact a1) (by rw[I.nm];exact b1) (by rw[I.nm];exact c1) hij.1 hij.2.1 hij.2.2 (by rw[I.sc];exact a2) (by rw[I.sc];exact b2) (by rw[I.sc];exact c2) pa (qoQ hk (by rw[I.sc];exact a2) (by rw[I.sc];exact b2) (by rw[I.sc];exact c2) b3 c3 (ne hij.1 a1 b1) (ne hij.2.1 a1 c1) (ne hij.2.2 b1 c1) h2 h4 h5)) fun D σ H q=>ql2 q) fun ρ=>by rw[run]
 |.put i ix e,s,h=>by
  unfold qcf at h
  split at h
  case h_2=>cases h
  simp only[Bool.and_eq_true,decide_eq_true_eq] at h
  obtain⟨⟨⟨⟨⟨h1,h2⟩,h3⟩,h4⟩,h5⟩,h6⟩:=h
  obtain⟨n1,n2⟩:=qaG h3
  refine qaw (qae (ps_asg (qab e I h6).1 (pg_sub (pe_var (i:=i) (by rw[I.nm];exact h1) (qaM I.sc h2) n1 n2) (qab ix I h5).1 set_list (qg4 h4)) qfc qc7 rfl) fun D σ H q=>qoB q) fun ρ=>by rw[run]<;>rfl
 |.app i e,s,h=>by
  unfold qcf at h
  split at h
  case h_2=>cases h
  simp only[Bool.and_eq_true,decide_eq_true_eq] at h
  obtain⟨⟨⟨⟨⟨⟨h1,h2⟩,h3⟩,rfl⟩,h5⟩,h6⟩,h7⟩:=h
  obtain⟨n1,n2⟩:=qaG h3
  refine qaw (qae (ps_expr (pe_bm PySem.F.plainAttrs_list PySem.F.slot_list_append PySem.F.type_list_append mt_append (pe_var (i:=i) (by rw[I.nm];exact h1) (qaM I.sc h2) n1 n2) (pa_cons (qab e I h5).1 pa_nil (qaa h6)) rfl (qb8 h6) h7 (qaa h6) rfl) rfl) fun D σ H q=>qnp q) fun ρ=>by rw[run]
 |.ext i e,s,h=>by
  unfold qcf at h
  split at h
  case h_2=>cases h
  simp only[Bool.and_eq_true,decide_eq_true_eq] at h
  obtain⟨⟨⟨⟨⟨⟨h1,h2⟩,h3⟩,rfl⟩,h5⟩,h6⟩,h7⟩:=h
  obtain⟨n1,n2⟩:=qaG h3
  refine qaw (qae (ps_expr (pe_bm PySem.F.plainAttrs_list PySem.F.slot_list_extend PySem.F.type_list_extend mt_extend (pe_var (i:=i) (by rw[I.nm];exact h1) (qaM I.sc h2) n1 n2) (pa_cons (qab e I h5).1 pa_nil (qaa h6)) rfl (qb8 h6) h7 (qaa h6) rfl) rfl) fun D σ H q=>qnD q) fun ρ=>by rw[run]<;>rfl
 |.popv j i,s,h=>by
  unfold qcf at h
  split at h
  case h_2=>cases h
  simp only[Bool.and_eq_true,decide_eq_true_eq] at h
  obtain⟨⟨⟨⟨⟨⟨h0,h0'⟩,h1⟩,h2⟩,h3⟩,rfl⟩,h7⟩:=h
  obtain⟨n1,n2⟩:=qaG h3
  obtain⟨t1,t2⟩:=qfN I h0'
  refine qaw (qae (ps_set (i:=j) I.nd (by rw[I.nm];exact h0) t1 (pe_bm0 PySem.F.plainAttrs_list PySem.F.slot_list_pop PySem.F.type_list_pop mt_pop (pe_var (i:=i) (by rw[I.nm];exact h1) (qaM I.sc h2) n1 n2) rfl h7) rfl t2) fun D σ H q=>qkM q) fun ρ=>by rw[run]<;>rfl
 |.clr i,s,h=>by
  unfold qcf at h
  split at h
  case h_2=>cases h
  simp only[Bool.and_eq_true,decide_eq_true_eq] at h
  obtain⟨⟨⟨⟨h1,h2⟩,h3⟩,rfl⟩,h7⟩:=h
  obtain⟨n1,n2⟩:=qaG h3
  refine qaw (qae (ps_expr (pe_bm0 PySem.F.plainAttrs_list PySem.F.slot_list_clear PySem.F.type_list_clear mt_clear (pe_var (i:=i) (by rw[I.nm];exact h1) (qaM I.sc h2) n1 n2) rfl h7) rfl) fun D σ H q=>qmS q) fun ρ=>by rw[run]
 |.expr e,s,h=>by
  unfold qcf at h
  split at h
  case h_2=>cases h
  simp only[Bool.and_eq_true] at h
  exact qaw (qkE (qab e I h.1).1 (qcJ h.2)) fun ρ=>by rw[run]
 |.ret e,s,h=>by
  unfold qcf at h
  split at h
  case h_2=>cases h
  exact qaw (qnX (qab e I h).1) fun ρ=>by rw[run]
 |.retN,s,h=>by
  unfold qcf at h
  split at h
  case h_2=>cases h
  exact qaw ql4 fun ρ=>by rw[run]
 |.pas,s,h=>by
  unfold qcf at h
  split at h
  ·exact qaw qkO fun ρ=>by rw[run]
  ·exact qaw qnJ fun ρ=>by rw[run]
  ·cases h
 |.brk,s,h=>by
  unfold qcf at h
  split at h
  case h_2=>cases h
  exact qaw qnV fun ρ=>by rw[run]
 |.cnt,s,h=>by
  unfold qcf at h
  split at h
  case h_2=>cases h
  exact qaw qoc fun ρ=>by rw[run]
 |.iff c a b,s,h=>by
  unfold qcf at h
  split at h
  case h_2=>cases h
  simp only[Bool.and_eq_true] at h
  exact qaw (qnl (qdq c I h.1.1) (qgk (qbX I hp hF a h.1.2 pss_nil)) (qgk (qbX I hp hF b h.2 pss_nil))) fun ρ=>by rw[run]
 |.for it tg b,s,h=>by
  unfold qcf at h
  split at h
  case h_2=>cases h
  simp only[Bool.and_eq_true] at h
  obtain⟨⟨⟨h1,h2⟩,h3⟩,h4⟩:=h
  exact qaw (qae (ps_for hp I.calm (qkj it I h1) (qdC I h2) (qgk (qbX I hp hF b h3 pss_nil)) (qfD h4)) fun D σ H q=>qm8 q) fun ρ=>by rw[run]<;>rfl
 |.apop i j ix,s,h=>by
  unfold qcf at h
  split at h
  case h_2=>cases h
  simp only[Bool.and_eq_true,decide_eq_true_eq] at h
  obtain⟨⟨⟨⟨⟨⟨⟨⟨⟨⟨⟨h1,h2⟩,h3⟩,rfl⟩,h4⟩,g1⟩,g2⟩,g3⟩,rfl⟩,g4⟩,h5⟩,h6⟩:=h
  obtain⟨n1,n2⟩:=qaG h3
  obtain⟨m1,m2⟩:=qaG g3
  refine qaw (qae (ps_expr (pe_bm PySem.F.plainAttrs_list PySem.F.slot_list_append PySem.F.type_list_append mt_append (pe_var (i:=i) (by rw[I.nm];exact h1) (qaM I.sc h2) n1 n2) (pa_cons (pe_bm PySem.F.plainAttrs_list PySem.F.slot_list_pop PySem.F.type_list_pop mt_popAt (pe_var (i:=j) (by rw[I.nm];exact g1) (qaM I.sc g2) m1 m2) (pa_cons (qab ix I h5).1 pa_nil (qaa h6)) rfl (qb8 h6) g4 (qaa h6) rfl) pa_nil rfl) rfl rfl h4 rfl rfl) rfl) fun D σ H q=>qkP q) fun ρ=>by rw[run]<;>rfl
 |.popx i e,s,h=>by
  unfold qcf at h
  split at h
  case h_2=>cases h
  simp only[Bool.and_eq_true,decide_eq_true_eq] at h
  obtain⟨⟨⟨⟨⟨⟨h1,h2⟩,h3⟩,rfl⟩,h5⟩,h6⟩,h7⟩:=h
  obtain⟨n1,n2⟩:=qaG h3
  refine qaw (qae (ps_expr (pe_bm PySem.F.plainAttrs_list PySem.F.slot_list_pop PySem.F.type_list_pop mt_popAt (pe_var (i:=i) (by rw[I.nm];exact h1) (qaM I.sc h2) n1 n2) (pa_cons (qab e I h5).1 pa_nil (qaa h6)) rfl (qb8 h6) h7 (qaa h6) rfl) rfl) fun D σ H q=>qlo q) fun ρ=>by rw[run]<;>rfl
 |.rmv i e,s,h=>by
  unfold qcf at h
  split at h
  case h_2=>cases h
  simp only[Bool.and_eq_true,decide_eq_true_eq] at h
  obtain⟨⟨⟨⟨⟨⟨h1,h2⟩,h3⟩,rfl⟩,h5⟩,h6⟩,h7⟩:=h
  obtain⟨n1,n2⟩:=qaG h3
  refine qaw (qae (ps_expr (pe_bm PySem.F.plainAttrs_list PySem.F.slot_list_remove PySem.F.type_list_remove mt_remove (pe_var (i:=i) (by rw[I.nm];exact h1) (qaM I.sc h2) n1 n2) (pa_cons (qab e I h5).1 pa_nil (qaa h6)) rfl (qb8 h6) h7 (qaa h6) rfl) rfl) fun D σ H q=>qnT q) fun ρ=>by rw[run]<;>rfl
 |.fset f e,s,h=>by
  unfold qcf at h
  split at h
  case h_2=>cases h
  rename_i x p fn p' v pos
  simp only[Bool.and_eq_true,decide_eq_true_eq] at h
  obtain⟨⟨⟨⟨h1,h2⟩,h3⟩,h4⟩,h5⟩:=h
  obtain⟨n1,n2⟩:=qaG h3
  refine qaw (qae (ps_fld (pe_var (i:=0) (by rw[I.nm];exact h1) (qaM I.sc h2) n1 n2) (qab e I h5).1 (by cases v<;>rfl)) fun D σ H q=>qlL (fi:=fun c=>Γ.fi c f) (fun c k e=>I.fs f fn h4 c k e) q) fun ρ=>by rw[run]<;>rfl
 |.row i es,s,h=>by
  unfold qcf at h
  split at h
  case h_2=>cases h
  simp only[Bool.and_eq_true,decide_eq_true_eq] at h
  obtain⟨⟨⟨h1,h2⟩,h3⟩,h4⟩:=h
  obtain⟨t1,t2⟩:=qfN I h2
  exact qaw (qae (ps_asg (pe_lst (qmy I es h3 h4)) (pg_name I.nd (by rw[I.nm];exact h1) t1 t2)) fun D σ H q=>qmX q) fun ρ=>by rw[run]
 |.rapp i k e,s,h=>by
  unfold qcf at h
  split at h
  case h_2=>cases h
  simp only[Bool.and_eq_true,decide_eq_true_eq] at h
  obtain⟨⟨⟨⟨⟨⟨⟨h1,h2⟩,h3⟩,rfl⟩,rfl⟩,h5⟩,h6⟩,h7⟩:=h
  obtain⟨n1,n2⟩:=qaG h3
  exact qaw (qae (ps_expr (pe_bm PySem.F.plainAttrs_list PySem.F.slot_list_append PySem.F.type_list_append mt_append (pe_ix ix_seq (pe_var (i:=i) (by rw[I.nm];exact h1) (qaM I.sc h2) n1 n2) pe_int (fun _ _=>rfl)) (pa_cons (qab e I h5).1 pa_nil (qaa h6)) rfl (qb8 h6) h7 (qaa h6) rfl) rfl) fun D σ H q=>qlO q) fun ρ=>by rw[run]
 |.rclr i k,s,h=>by
  unfold qcf at h
  split at h
  case h_2=>cases h
  simp only[Bool.and_eq_true,decide_eq_true_eq] at h
  obtain⟨⟨⟨⟨⟨h1,h2⟩,h3⟩,rfl⟩,rfl⟩,h7⟩:=h
  obtain⟨n1,n2⟩:=qaG h3
  exact qaw (qae (ps_expr (pe_bm0 PySem.F.plainAttrs_list PySem.F.slot_list_clear PySem.F.type_list_clear mt_clear (pe_ix ix_seq (pe_var (i:=i) (by rw[I.nm];exact h1) (qaM I.sc h2) n1 n2) pe_int (fun _ _=>rfl)) rfl h7) rfl) fun D σ H q=>qlZ q) fun ρ=>by rw[run]
 |.rput z i k ix e,s,h=>by
  unfold qcf at h
  split at h
  case h_2=>cases h
  simp only[Bool.and_eq_true,decide_eq_true_eq] at h
  obtain⟨⟨⟨⟨⟨⟨h1,h2⟩,h3⟩,rfl⟩,h4⟩,h5⟩,h6⟩:=h
  obtain⟨n1,n2⟩:=qaG h3
  exact qaw (qae (ps_asg (qab e I h6).1 (pg_sub (pe_ix ix_seq (pe_var (i:=i) (by rw[I.nm];exact h1) (qaM I.sc h2) n1 n2) pe_int (fun _ _=>rfl)) (qab ix I h5).1 set_list (qg4 h4)) qfc qc7 rfl) fun D σ H q=>qlX q) fun ρ=>by rw[run]<;>rfl
 |.tapp o e,s,h=>by
  unfold qcf at h
  split at h
  case h_2=>cases h
  simp only[Bool.and_eq_true,decide_eq_true_eq] at h
  obtain⟨⟨⟨⟨⟨rfl,ho⟩,h5⟩,h6⟩,hb⟩,h7⟩:=h
  refine qaw (qae (ps_expr (pe_bm PySem.F.plainAttrs_list PySem.F.slot_list_append PySem.F.type_list_append mt_append (qab o I ho).1 (pa_cons (qab e I h5).1 pa_nil (qaa h6)) (qbs hb) (qb8 h6) h7 (qaa h6) rfl) rfl) fun D σ H q=>qmc q) fun ρ=>by rw[run]<;>rfl
 |.tclr o,s,h=>by
  unfold qcf at h
  split at h
  case h_2=>cases h
  simp only[Bool.and_eq_true,decide_eq_true_eq] at h
  obtain⟨⟨⟨rfl,ho⟩,hb⟩,h7⟩:=h
  refine qaw (qae (ps_expr (pe_bm0 PySem.F.plainAttrs_list PySem.F.slot_list_clear PySem.F.type_list_clear mt_clear (qab o I ho).1 (qbs hb) h7) rfl) fun D σ H q=>ql3 q) fun ρ=>by rw[run]<;>rfl
 |.dnew i,s,h=>by
  unfold qcf at h
  split at h
  case h_2=>cases h
  simp only[Bool.and_eq_true,decide_eq_true_eq] at h
  obtain⟨h1,h2⟩:=h
  obtain⟨t1,t2⟩:=qfN I h2
  exact qaw (qlj I.nd (by rw[I.nm];exact h1) t1 t2) fun ρ=>by rw[run]
 |.dput i ix e,s,h=>by
  unfold qcf at h
  split at h
  case h_2=>cases h
  simp only[Bool.and_eq_true,decide_eq_true_eq] at h
  obtain⟨⟨⟨⟨h1,h2⟩,h3⟩,h4⟩,h5⟩:=h
  obtain⟨n1,n2⟩:=qaG h3
  exact qaw (ql8 I.un (by rw[I.nm];exact h1) (qaM I.sc h2) n1 n2 (qab ix I h4).1 (qab e I h5).1) fun ρ=>by rw[run]<;>rfl
 |.asgO i j f es,s,h=>by
  unfold qcf at h
  split at h
  case h_2=>cases h
  rename_i t y p xs q pos
  simp only[Bool.and_eq_true,decide_eq_true_eq] at h
  obtain⟨⟨⟨⟨⟨⟨h1,h2⟩,h3⟩,h4⟩,h5⟩,h6⟩,h7⟩:=h
  cases e:Γ.fn[f]? with
  |none=>exact qaw qgO fun ρ=>by rw[run,e]
  |some g =>
   obtain⟨k,a,fd,ps,m,gf,F,hr,hm,hk,dv,dvs,dus,hb,hdv,hdm,hdr,hgf⟩:=I.fn f y xs.length h3 g e
   have pe:=qdz (C:=C) F hr (qav I.sc h4) hm hk hb hdv hdm hdr hgf I.tk (qbe es I h6 h7) (qaG h5).1 (qbW h7) (fun z ρ=>qc9 h6 z ρ) (p:=p) (pos:=q)
   cases t<;>try exact(Bool.false_ne_true h2).elim
   rename_i ts kt tp
   simp only[qgT,Bool.and_eq_true] at h1
   obtain⟨g3,g4,g5,g6⟩:=qdV I _ _ h1.2
   refine qaw (qae (ps_asg pe (pg_tup I.calm g3 (by rw[g5,g4];rfl) g6) (qjx rfl) (qgt rfl) (qjw h2)) fun D σ H q=>qlr I.K (fun ρ r er=>qbg es ρ r xs h6 er) q) fun ρ=>by rw[run,e]<;>rfl
 |.whl c b,s,h=>by
  unfold qcf at h
  split at h
  case h_2=>cases h
  simp only[Bool.and_eq_true] at h
  exact qaw (qae (ps_while hp (qdq c I h.1) (qgk (qbX I hp hF b h.2 pss_nil))) fun D σ H q=>qnM q) fun ρ=>by rw[run]
theorem qbX {T:Tb} {Γ:Env} {C:Ctx} {X:Cx} {sc:Scope} (I:XOk T Γ C X none sc) (hp:PassesOwn (model X.prog X.w) X.A X.env X.xe) (hF:FrOk X):∀(ir:Sms) {ss rest:List Stmt} {u:TS},qau T sc ir ss=true→PSs X rest u→PSs X (ss++rest) (tSk C (qaj Γ ir) u)
 |.nil,ss,rest,u,h,hr=>by
  unfold qau at h
  cases ss with
  |nil=>exact qax hr fun D σ H q=>qpy (qkB q fun ρ=>by rw[qaj])
  |cons _ _=>cases h
 |.cons s ir,ss,rest,u,h,hr=>by
  unfold qau at h
  cases ss with
  |nil=>cases h
  |cons st ss =>
   simp only[Bool.and_eq_true] at h
   refine qax (pss_cons (qpZ I hp hF s h.1) (qbX I hp hF ir h.2 hr)) fun D σ H q=>qnb (qkB q fun ρ=>by rw[qaj])
 |.frz i ir,ss,rest,u,h,hr=>by
  unfold qau at h
  refine qax (qbX I hp hF ir h hr) fun D σ H q=>qpb (i:=i) (qkB q fun ρ=>by rw[qaj])
 |.hav i f es rd cs ir,ss,rest,u,h,hr=>by
  unfold qau at h
  cases ss with
  |nil=>cases h
  |cons st ss =>
   simp only[Bool.and_eq_true] at h
   obtain⟨⟨⟨h1,h2⟩,h3⟩,h4⟩:=h
   cases e:Γ.fn[f]? with
   |none =>
    refine qax pss_never fun D σ H q=>?_
    obtain⟨ρ,P,N,S,o⟩:=q
    rw[qaj,e] at o
    exact o.elim
   |some g =>
    obtain⟨n,hn,hs⟩:=qpj I h1 g e
    have in_:PSs X (ss++rest) (tIn C (qaj Γ rd) (tCk C cs (tSk C (qaj Γ ir) u))):=by
     have e1:ss++rest=ss.take rd.len++((ss.drop rd.len).take cs.len++((ss.drop rd.len).drop cs.len++rest)):=by
      rw[←List.append_assoc ((ss.drop rd.len).take cs.len),List.take_append_drop,←List.append_assoc,List.take_append_drop]
     rw[e1]
     have k:=qdG (C:=C) I hp cs h3 (qbX I hp hF ir h4 hr)
     exact⟨fun pins s σ H D I' q=>by
      obtain⟨TT,fx,q⟩:=q
      exact(qbX (I.hv (TT:=TT) (fx:=fx)) hp hF rd h2 k).run pins s σ H D I' q⟩
    refine qax (pss_cons hs in_) fun D σ H q=>qp6 hn (qkB q fun ρ=>by rw[qaj,e]<;>rfl)
end
theorem qnF {T:Tb} {Γ:Env} {C:Ctx} {X:Cx} {sc:Scope} (I:XOk T Γ C X none sc) (hp:PassesOwn (model X.prog X.w) X.A X.env X.xe) (hF:FrOk X) (ir:Sms) {ss:List Stmt} (h:qau T sc ir ss=true):PSs X ss (tS C (qaj Γ ir)):=qgk (qbX I hp hF ir h pss_nil)
end Cm
namespace Cm
open PySem PySem.Spec PyProof.Rows L2
structure TabOk (P:Program) (w:World) (K:PySem.W.Frag) (mg:Str→Option Value) (base:Heap) (T:Tb) (Γ:Env) (G:Glo) (k:Nat):Prop where
 blt:∀x∈bltNames,mg x=none
 fn:∀(f:Nat) (x:Str) (n:Nat),T.fn[f]? = some (x,n)→∀g,Γ.fn[f]? = some g→∃(j:Nat) (a:Addr) (fd:FuncData) (ps:List Str) (m:Nat) (gf:List D→RE ER),j≤k∧FnOk P w K mg base (L2.CX P w) j a fd ps (spD G (n+m) gf)∧mg x=some (.ref a)∧PySem.W.keepIn K (.ref a)=true∧Part K G fd ps n m g.2 gf
 gc:∀(i:Nat) (x:Str),T.gc[i]? = some x→∀c,Γ.gc[i]? = some c→∃u v,mg x=some u∧RelV v u∧(∀(P N R:Hp),Rep G P (LNb G.K P N R true) c.2 v)∧WrT G v
 mt:∀(m:Nat) (x:Str) (n:Nat),T.mn[m]? = some (x,n)→∀c g,Γ.mt c m=some g→Cls K (G.ca c)∧x∉G.fl c∧∃(j:Nat) (a:Addr) (fd:FuncData) (ps:List Str),j≤k∧Meth K (G.ca c) x a∧FnOk P w K mg base (L2.CX P w) j a fd ps (spD G (n+1) g)∧Binds K fd ps []
 fs:∀(f:Nat) (x:Str),T.fs[f]? = some x→∀c i,Γ.fi c f=some i→Cls K (G.ca c)∧NoAttr K (G.ca c) x∧(G.fl c)[i]? = some x∧(G.fl c).Nodup
 nw:∀(i:Nat) (x:Str) (n:Nat),T.nw[i]? = some (x,n)→∀g,Γ.nw[i]? = some g→(∃(j:Nat) (a:Addr) (fd:FuncData) (ps:List Str),j+1≤k∧Mk K (G.ca g.1) a∧FnOk P w K mg base (L2.CX P w) j a fd ps (spI G g.1 n g.2)∧mg x=some (.ref (G.ca g.1))∧Binds K fd ps []) ∨
  (n=0∧g.2 []=.ok []∧Mk0 K (G.ca g.1)∧G.fl g.1=[]∧mg x=some (.ref (G.ca g.1)))
 ck:∀(i:Nat) (x:Str) (own:Bool),T.ck[i]? = some (x,own)→CkOk G K mg x own Γ.ck[i]? Γ.ik[i]?
 xk:∀(i:Nat) (x:Str),T.xk[i]? = some x→∀c,Γ.xk[i]? = some c→RsOk K mg (G.ca c) x
 dc:∀(i:Nat) (x:Str),T.dc[i]? = some x→∀t,Γ.dc[i]? = some t→qo2 G K w mg x t.2
theorem qkX {G:Glo} {P N R:Hp}:∀{ds:List D} {vs:List V},Reps G P (SqL G.K R) ds vs→Reps G P (LNb G.K P N R false) ds vs:=fun {ds vs} h=>Reps.mono (L2.Same.refl _) ds vs LNb.ofR h
theorem qlS {C:Ctx} {ds:List D} {vs:List V} {N:List Str} {m:Nat} (hp:Same C.P0 C.B) (hr:Same C.R C.B) (h:Reps C.G C.P0 (SqL C.G.K C.R) ds vs) (hm:N.length=ds.length+m) :
  SR C C.P0 (fun _=>none) C.B (ds.map (fun d=>Sl.val d d.flat)++List.replicate m .non) (L2.start N vs) where
 reg:=⟨hp,fun _ _ e=>(nomatch e),L2.Same.refl _,hr,L2.Same.refl _,fun _ e=>.inl e,fun _ e=>absurd rfl e,fun _ e=>absurd rfl e⟩
 len:=by
  have:=h.length
  simp only[L2.start,List.length_append,List.length_map,List.length_replicate]
  try omega
 sl:=fun i s e=>by
  have hl:=h.length
  by_cases hi:i<ds.length
  ·rw[List.getElem?_append_left (by simpa using hi),List.getElem?_map,List.getElem?_eq_getElem hi] at e
   cases e
   obtain⟨v,q1,q2⟩:=(qkX (N:=fun _=>none) h).get (List.getElem?_eq_getElem hi)
   refine⟨some v,?_,v,rfl,RepB.nf (C:=C) q2⟩
   unfold L2.start
   rw[List.getElem?_append_left (by simp;omega),List.getElem?_map,q1]
   rfl
  ·rw[List.getElem?_append_right (by simpa using hi),List.getElem?_replicate] at e
   split at e
   ·rename_i hm'
    cases e
    refine⟨none,?_,trivial⟩
    unfold L2.start
    simp only[List.length_map] at hm'
    rw[List.getElem?_append_right (by simp;omega),List.getElem?_replicate,if_pos]
    simp only[List.length_map]
    omega
   ·cases e
 ap:=fun i j p es b es' c e1 _ _ _=>by
  exfalso
  have:=List.mem_of_getElem? e1
  rcases List.mem_append.mp this with z | z
  ·obtain⟨_,_,z⟩:=List.mem_map.mp z;cases z
  ·have:=List.eq_of_mem_replicate z;cases this
 ad:=AD.no fun i s e=>by
  rcases List.mem_append.mp (List.mem_of_getElem? e) with z | z
  ·obtain⟨_,_,rfl⟩:=List.mem_map.mp z;rfl
  ·rw[List.eq_of_mem_replicate z];rfl
 ar:=AR.no fun i s e=>by
  rcases List.mem_append.mp (List.mem_of_getElem? e) with z | z
  ·obtain⟨_,_,rfl⟩:=List.mem_map.mp z;rfl
  ·rw[List.eq_of_mem_replicate z];rfl
theorem qiX {P:Program} {w:World} {K:PySem.W.Frag} {mg:Str→Option Value} {base:Heap} {x qual:Str} {params:Arguments} {body:List Stmt} {scope:Scope} {dvs:List V} {kws:List (Str × V)} {f:Addr} {fd:FuncData} {T:Tb} {Γ:Env} {G:Glo} {k m:Nat} {ps:List Str} {ir:Sms}
  (F:FunD K x qual params body scope dvs kws f fd) (S:FnScope T.N ps scope) (hG:G.K=K) (tab:TabOk P w K mg base T Γ G k) (hm:T.N.length=ps.length+m) (hc:qau T scope ir body=true) :
  FnOk P w K mg base (L2.CX P w) (k+1) f fd ps (spD G ps.length (qcr Γ ps.length m ir)):=by
 refine F.ok S (fun vs H Q E h=>qnZ h) (fun cdv A outer s H vs Q E hr h=>?_)
 obtain⟨Pr,R,ds,h1,h2,h3,h4,h5⟩:=h
 let C:Ctx:=⟨G,R,H,Pr,fun cls d _ H'=>E cls d H',0,fun _=>none⟩
 have I:XOk T Γ C (cxOf (L2.CX P w) P w K mg base T.N qual scope f cdv A outer s H E) none scope:={
  nm:=rfl
  nd:=S.nd
  sc:=rfl
  K:=hG.symm
  tk:=takes_of rfl rfl rfl rfl
  calm:=rfl
  un:=by
   have h:=hr.un
   have e:(cxOf (L2.CX P w) P w K mg base T.N qual scope f cdv A outer s H E).A=A.deeper (envOfC qual scope s.heap.objs.size f cdv):=rfl
   rw[e]
   omega
  blt:=tab.blt
  fnc:=rfl
  fn:=fun i y n e g eg=>by
   obtain⟨j,a,fd',ps',m',gf,hj,q1,q2,q3,q4⟩:=tab.fn i y n e g eg
   exact⟨j,a,fd',ps',m',gf,q1,hr.mono hj,q2,q3,q4⟩
  gc:=fun i y e c ec=>by
   obtain⟨u,v,q1,q2,q3,q4⟩:=tab.gc i y e c ec
   exact⟨u,v,q1,q2,fun P N=>q3 P N R,q4⟩
  mt:=fun i y n e c g eg=>by
   obtain⟨q0,q1,j,a,fd',ps',hj,q2,q3,q4⟩:=tab.mt i y n e c g eg
   exact⟨q0,q1,j,a,fd',ps',q2,q3,hr.mono hj,q4⟩
  fs:=fun i y e c j ej=>by
   obtain⟨q0,q1,q2,q3⟩:=tab.fs i y e c j ej
   exact⟨q0,q1,q2,q3⟩
  nw:=fun i y n e g eg=>by
   rcases tab.nw i y n e g eg with⟨j,a,fd',ps',hj,q1,q2,q3,q4⟩ | q
   ·exact⟨.inl ⟨j,a,fd',ps',q1,q2,hr.mono hj,q3,q4⟩⟩
   ·exact⟨.inr q⟩
  ck:=tab.ck
  xk:=tab.xk
  dc:=tab.dc }
 have hp:PassesOwn (model (cxOf (L2.CX P w) P w K mg base T.N qual scope f cdv A outer s H E).prog (cxOf (L2.CX P w) P w K mg base T.N qual scope f cdv A outer s H E).w) (cxOf (L2.CX P w) P w K mg base T.N qual scope f cdv A outer s H E).A (cxOf (L2.CX P w) P w K mg base T.N qual scope f cdv A outer s H E).env (cxOf (L2.CX P w) P w K mg base T.N qual scope f cdv A outer s H E).xe:=
  passes_of (K:=fun e s''=>L2.CX P w outer H s E e s'') rfl
 refine⟨tS C (qaj Γ ir),qnF I hp ⟨rfl,rfl,rfl⟩ ir hc,ds.map (fun d=>Sl.val d d.flat)++List.replicate m .non,Pr,fun _=>none,qlS (C:=C) h1 h2 h3 (by rw[hm,h4]),?_⟩
 unfold qcr at h5
 rw[if_pos h4] at h5
 have adv:∀{P' N' H':Hp},Reg C P' N' H'→Adv Pr (fun _=>none) H P' N' H':=fun {P' N' H'} r=>⟨r.bH,r.p0,fun _ _ e=>(nomatch e),r.pH,r.nH,r.pn,fun a q=>.inr (r.nw a q),fun a q q2=>absurd (r.dj a q) q2⟩
 cases e:qaj Γ ir (ds.map (fun d=>Sl.val d d.flat)++List.replicate m .non) with
 |bad=>rw[e] at h5;exact h5.elim
 |brk ρ=>rw[e] at h5;exact h5.elim
 |cnt ρ=>rw[e] at h5;exact h5.elim
 |nx ρ=>rw[e] at h5;exact fun σ P' N' H' S' _ _=>h5 .non H' P' N' (adv S'.reg) rfl
 |ret er =>
  rw[e] at h5
  intro v P' N' H' r q
  exact h5 v H' P' N' (adv r) (by cases er<;>exact q)
 |exc c fs =>
  rw[e] at h5
  intro σ d P' N' H' r q
  exact h5 d H' P' N' (adv r) q
end Cm
namespace Cm
open PySem PySem.Spec PyProof.Rows L2 PySem.W
structure DefAt (P:Program) (w:World) (K:PySem.W.Frag) (mg:Str→Option Value) (base:Heap) (G:Glo) (k:Nat) (x:Str) (n:Nat) (g:List D→RE ER):Prop where
 ex:∃(j:Nat) (a:Addr) (fd:FuncData) (ps:List Str) (m:Nat) (gf:List D→RE ER),j≤k∧FnOk P w K mg base (L2.CX P w) j a fd ps (spD G (n+m) gf)∧mg x=some (.ref a)∧PySem.W.keepIn K (.ref a)=true∧Part K G fd ps n m g gf
theorem DefAt.mono {P:Program} {w:World} {K:PySem.W.Frag} {mg:Str→Option Value} {base:Heap} {G:Glo} {k k':Nat} {x:Str} {n:Nat} {g:List D→RE ER} (h:DefAt P w K mg base G k x n g) (e:k≤k'):DefAt P w K mg base G k' x n g:=by
 obtain⟨⟨j,a,fd,ps,m,gf,q,r⟩⟩:=h
 exact⟨⟨j,a,fd,ps,m,gf,Nat.le_trans q e,r⟩⟩
def FnsOk (P:Program) (w:World) (K:PySem.W.Frag) (mg:Str→Option Value) (base:Heap) (G:Glo) (k:Nat):List (Str × Nat)→List (Str × (List D→RE ER))→Prop
 |t::ts,g::gs=>DefAt P w K mg base G k t.1 t.2 g.2∧FnsOk P w K mg base G k ts gs
 |_,_=>True
theorem FnsOk.get {P:Program} {w:World} {K:PySem.W.Frag} {mg:Str→Option Value} {base:Heap} {G:Glo} {k:Nat}:∀{ts:List (Str × Nat)} {gs:List (Str × (List D→RE ER))},FnsOk P w K mg base G k ts gs →
  ∀(f:Nat) (x:Str) (n:Nat),ts[f]? = some (x,n)→∀g,gs[f]? = some g→∃(j:Nat) (a:Addr) (fd:FuncData) (ps:List Str) (m:Nat) (gf:List D→RE ER),j≤k∧FnOk P w K mg base (L2.CX P w) j a fd ps (spD G (n+m) gf)∧mg x=some (.ref a)∧PySem.W.keepIn K (.ref a)=true∧Part K G fd ps n m g.2 gf
 |[],_,_,f,x,n,e,_,_=>by simp at e
 |_::_,[],_,f,x,n,_,g,e=>by simp at e
 |t::ts,g::gs,⟨h,hs⟩,0,x,n,e,g',e'=>by
  simp at e e'
  subst e e'
  exact h.ex
 |t::ts,g::gs,⟨h,hs⟩,f+1,x,n,e,g',e'=>FnsOk.get hs f x n (by simpa using e) g' (by simpa using e')
theorem qpe {fa:List He.Fa} {fn:List He.DefD} {K:PySem.W.Frag} {h:Heap} {mg:Str→Option Value} (c:He.SaysD (bltNames.map He.Fa.free++fa) fn K) (X:K.In h) (N:h.Ns mainGlobals mg):∀x∈bltNames,mg x=none:=fun x hx=>by
 have hm:He.Fa.free x∈bltNames.map He.Fa.free++fa:=List.mem_append_left _ (List.mem_map_of_mem hx)
 obtain⟨i,hi⟩:=List.getElem?_of_mem hm
 exact He.free_ok X N (c.fact i hi)
structure MthAt (P:Program) (w:World) (K:PySem.W.Frag) (mg:Str→Option Value) (base:Heap) (G:Glo) (k:Nat) (c:Nat) (x:Str) (n:Nat) (g:List D→RE ER):Prop where
 ex:Cls K (G.ca c)∧x∉G.fl c∧∃(j:Nat) (a:Addr) (fd:FuncData) (ps:List Str),j≤k∧Meth K (G.ca c) x a∧FnOk P w K mg base (L2.CX P w) j a fd ps (spD G (n+1) g)∧Binds K fd ps []
theorem MthAt.mono {P:Program} {w:World} {K:PySem.W.Frag} {mg:Str→Option Value} {base:Heap} {G:Glo} {k k' c:Nat} {x:Str} {n:Nat} {g:List D→RE ER} (h:MthAt P w K mg base G k c x n g) (e:k≤k'):MthAt P w K mg base G k' c x n g:=by
 obtain⟨h1,h2,j,a,fd,ps,q,r⟩:=h
 exact⟨h1,h2,j,a,fd,ps,Nat.le_trans q e,r⟩
def MtsOk (P:Program) (w:World) (K:PySem.W.Frag) (mg:Str→Option Value) (base:Heap) (G:Glo) (k:Nat) (mn:List (Str × Nat)):List (Nat × Nat × (List D→RE ER))→Prop
 |[]=>True
 |t::ts=>(∀x n,mn[t.2.1]? = some (x,n)→MthAt P w K mg base G k t.1 x n t.2.2)∧MtsOk P w K mg base G k mn ts
theorem MtsOk.get {P:Program} {w:World} {K:PySem.W.Frag} {mg:Str→Option Value} {base:Heap} {G:Glo} {k:Nat} {mn:List (Str × Nat)}:∀{ts:List (Nat × Nat × (List D→RE ER))},MtsOk P w K mg base G k mn ts →
  ∀(m:Nat) (x:Str) (n:Nat),mn[m]? = some (x,n)→∀c g,qbj ts c m=some g→MthAt P w K mg base G k c x n g
 |[],_,m,x,n,_,c,g,e=>by cases e
 |t::ts,⟨h,hs⟩,m,x,n,e,c,g,e'=>by
  unfold qbj at e'
  split at e'
  ·rename_i h1
   split at e'
   ·rename_i h2
    subst h1 h2
    cases e'
    exact h x n e
   ·exact MtsOk.get hs m x n e c g e'
  ·exact MtsOk.get hs m x n e c g e'
def qrJ (K:PySem.W.Frag) (G:Glo) (c i:Nat) (x:Str):Prop:=Cls K (G.ca c)∧NoAttr K (G.ca c) x∧(G.fl c)[i]? = some x∧(G.fl c).Nodup
def FdsOk (K:PySem.W.Frag) (G:Glo) (fs:List Str):List (Nat × Nat × Nat)→Prop
 |[]=>True
 |t::ts=>(∀x,fs[t.2.1]? = some x→qrJ K G t.1 t.2.2 x)∧FdsOk K G fs ts
theorem FdsOk.get {K:PySem.W.Frag} {G:Glo} {fs:List Str}:∀{ts:List (Nat × Nat × Nat)},FdsOk K G fs ts→∀(f:Nat) (x:Str),fs[f]? = some x→∀c i,qbp ts c f=some i→qrJ K G c i x
 |[],_,f,x,_,c,i,e=>by cases e
 |t::ts,⟨h,hs⟩,f,x,e,c,i,e'=>by
  unfold qbp at e'
  split at e'
  ·rename_i h1
   split at e'
   ·rename_i h2
    subst h1 h2
    cases e'
    exact h x e
   ·exact FdsOk.get hs f x e c i e'
  ·exact FdsOk.get hs f x e c i e'
structure NwAt (P:Program) (w:World) (K:PySem.W.Frag) (mg:Str→Option Value) (base:Heap) (G:Glo) (k:Nat) (x:Str) (n:Nat) (c:Nat) (g:List D→RE (List D)):Prop where
 ex:(∃(j:Nat) (a:Addr) (fd:FuncData) (ps:List Str),j+1≤k∧Mk K (G.ca c) a∧FnOk P w K mg base (L2.CX P w) j a fd ps (spI G c n g)∧mg x=some (.ref (G.ca c))∧Binds K fd ps []) ∨
  (n=0∧g []=.ok []∧Mk0 K (G.ca c)∧G.fl c=[]∧mg x=some (.ref (G.ca c)))
theorem NwAt.mono {P:Program} {w:World} {K:PySem.W.Frag} {mg:Str→Option Value} {base:Heap} {G:Glo} {k k':Nat} {x:Str} {n c:Nat} {g:List D→RE (List D)} (h:NwAt P w K mg base G k x n c g) (e:k≤k'):NwAt P w K mg base G k' x n c g:=by
 rcases h.ex with⟨j,a,fd,ps,q,r⟩ | q
 ·exact⟨.inl ⟨j,a,fd,ps,Nat.le_trans q e,r⟩⟩
 ·exact⟨.inr q⟩
def NwsOk (P:Program) (w:World) (K:PySem.W.Frag) (mg:Str→Option Value) (base:Heap) (G:Glo) (k:Nat):List (Str × Nat)→List (Nat × (List D→RE (List D)))→Prop
 |t::ts,g::gs=>NwAt P w K mg base G k t.1 t.2 g.1 g.2∧NwsOk P w K mg base G k ts gs
 |_,_=>True
theorem NwsOk.get {P:Program} {w:World} {K:PySem.W.Frag} {mg:Str→Option Value} {base:Heap} {G:Glo} {k:Nat}:∀{ts:List (Str × Nat)} {gs:List (Nat × (List D→RE (List D)))},NwsOk P w K mg base G k ts gs →
  ∀(f:Nat) (x:Str) (n:Nat),ts[f]? = some (x,n)→∀g,gs[f]? = some g→NwAt P w K mg base G k x n g.1 g.2
 |[],_,_,f,x,n,e,_,_=>by simp at e
 |_::_,[],_,f,x,n,_,g,e=>by simp at e
 |t::ts,g::gs,⟨h,hs⟩,0,x,n,e,g',e'=>by
  simp at e e'
  subst e e'
  exact h
 |t::ts,g::gs,⟨h,hs⟩,f+1,x,n,e,g',e'=>NwsOk.get hs f x n (by simpa using e) g' (by simpa using e')
def qrR (G:Glo) (mg:Str→Option Value) (x:Str) (c:D):Prop:=∃u v,mg x=some u∧RelV v u∧(∀(P N R:Hp),Rep G P (LNb G.K P N R true) c v)∧WrT G v
def GcsOk (G:Glo) (mg:Str→Option Value):List Str→List (Str × D)→Prop
 |t::ts,g::gs=>qrR G mg t g.2∧GcsOk G mg ts gs
 |_,_=>True
theorem GcsOk.get {G:Glo} {mg:Str→Option Value}:∀{ts:List Str} {gs:List (Str × D)},GcsOk G mg ts gs→∀(f:Nat) (x:Str),ts[f]? = some x→∀g,gs[f]? = some g→qrR G mg x g.2
 |[],_,_,f,x,e,_,_=>by simp at e
 |_::_,[],_,f,x,_,g,e=>by simp at e
 |t::ts,g::gs,⟨h,hs⟩,0,x,e,g',e'=>by
  simp at e e'
  subst e e'
  exact h
 |t::ts,g::gs,⟨h,hs⟩,f+1,x,e,g',e'=>GcsOk.get hs f x (by simpa using e) g' (by simpa using e')
theorem qqq {xa:List Xa} {K:PySem.W.Frag} (h:qpd xa K=true) {i:Nat} {a:Xa} (e:xa[i]? = some a):a.ok K=true:=List.all_eq_true.mp h a (List.mem_of_getElem? e)
theorem qqc {K:PySem.W.Frag} {x d:Str} {own b:Bool} (h:(Xa.ck x own d b).ok K=true):PySem.W.kitOne K (.ref (He.ga K d)) (cv K x own)=some b∧PySem.W.exmOne K (.ref (He.ga K d)) (cv K x own)=some b∧ExcC K (He.ga K d):=by
 unfold Xa.ok at h
 simp only[Bool.and_eq_true,decide_eq_true_eq] at h
 obtain⟨h1,h2,h3,h4,h5,h6,h7,h8,h9,h10⟩:=h
 exact⟨h1,h2,⟨He.eqO_ok h3,He.eqO_ok h4,h5,h6,He.eqO_ok h7,He.eqO_ok h8,h9,h10⟩⟩
def qo8 (G:Glo) (K:PySem.W.Frag) (x:Str) (own:Bool) (t:List (Nat × Bool)):Prop:=∀c b,t.lookup c=some b→PySem.W.kitOne K (.ref (G.ca c)) (cv K x own)=some b∧PySem.W.exmOne K (.ref (G.ca c)) (cv K x own)=some b∧ExcC K (G.ca c)
def qq3 (G:Glo) (K:PySem.W.Frag) (x:Str) (own:Bool) (t:List (Nat × Bool)):Prop:=∀c b,t.lookup c=some b→PySem.W.kitOne K (.ref (G.ca c)) (cv K x own)=some b∧InsC K (G.ca c)
theorem qeI {G:Glo} {K:PySem.W.Frag} {x:Str} {own:Bool}:qo8 G K x own []:=fun c b e=>by cases e
theorem qeZ {G:Glo} {K:PySem.W.Frag} {x:Str} {own:Bool}:qq3 G K x own []:=fun c b e=>by cases e
theorem qc4 {G:Glo} {K:PySem.W.Frag} {x d:Str} {own b0:Bool} {c0 j:Nat} {t:List (Nat × Bool)} {xa:List Xa} (h:qpd xa K=true) (e:xa[j]? = some (.ck x own d b0)) (hc:G.ca c0=He.ga K d) (ht:qo8 G K x own t):qo8 G K x own ((c0,b0)::t):=fun c b q=>by
 rw[List.lookup_cons] at q
 split at q
 ·rename_i z
  have z:c=c0:=by simpa using z
  subst z
  cases q
  rw[hc]
  exact qqc (qqq h e)
 ·exact ht c b q
theorem qgA {K:PySem.W.Frag} {h:Heap} {mg:Str→Option Value} {G:Glo} {fa:List He.Fa} {fn:List He.DefD} {x:Str} {j:Nat} {t1 t2:List (Nat × Bool)} (c:He.SaysD fa fn K) (X:K.In h) (N:h.Ns mainGlobals mg) (hx:fa[j]? = some (.glo x)) (h1:qo8 G K x true t1) (h2:qq3 G K x true t2) :
  CkOk G K mg x true (some fun c=>t1.lookup c) (some fun c=>t2.lookup c):=
 ⟨.ref (He.ga K x),.ref (He.ga K x),⟨.own _,He.glo_ok X N (c.fact j hx)⟩,fun g e c b q=>by cases e;exact h1 c b q,fun g e c b q=>by cases e;exact h2 c b q⟩
theorem qrb {K:PySem.W.Frag} {mg:Str→Option Value} {G:Glo} {t1 t2:List (Nat × Bool)} (h1:qo8 G K "ValueError" false t1) (h2:qq3 G K "ValueError" false t2) :
  CkOk G K mg "ValueError" false (some fun c=>t1.lookup c) (some fun c=>t2.lookup c):=
 ⟨.ty "ValueError",.type "ValueError",⟨.ty _,rfl,rfl⟩,fun g e c b q=>by cases e;exact h1 c b q,fun g e c b q=>by cases e;exact h2 c b q⟩
def CksOk (G:Glo) (K:PySem.W.Frag) (mg:Str→Option Value):List (Str × Bool)→List (Nat→Option Bool)→List (Nat→Option Bool)→Prop
 |t::ts,a::as,b::bs=>CkOk G K mg t.1 t.2 (some a) (some b)∧CksOk G K mg ts as bs
 |[],_,_=>True
 |_,_,_=>False
theorem CksOk.get {G:Glo} {K:PySem.W.Frag} {mg:Str→Option Value}:∀{ts:List (Str × Bool)} {as bs:List (Nat→Option Bool)},CksOk G K mg ts as bs→∀(f:Nat) (x:Str) (own:Bool),ts[f]? = some (x,own)→CkOk G K mg x own as[f]? bs[f]?
 |[],_,_,_,f,x,own,e=>by simp at e
 |_::_,[],_,h,f,x,own,e=>h.elim
 |_::_,_::_,[],h,f,x,own,e=>h.elim
 |t::ts,a::as,b::bs,⟨h,hs⟩,0,x,own,e=>by
  simp at e
  subst e
  exact h
 |t::ts,a::as,b::bs,⟨h,hs⟩,f+1,x,own,e=>by
  simp only[List.getElem?_cons_succ]
  exact CksOk.get hs f x own (by simpa using e)
theorem rs1 {K:PySem.W.Frag} {h:Heap} {mg:Str→Option Value} {G:Glo} {fa:List He.Fa} {fn:List He.DefD} {x:Str} {j j2 c0:Nat} (c:He.SaysD fa fn K) (X:K.In h) (N:h.Ns mainGlobals mg) (hx:fa[j]? = some (.glo x)) (hx2:fa[j2]? = some (.exc x)) (hc:G.ca c0=He.ga K x):RsOk K mg (G.ca c0) x:=by
 obtain⟨h1,h2,h3,h4⟩:=He.exc_ok (c.fact j2 hx2)
 rw[hc]
 exact⟨He.glo_ok X N (c.fact j hx),h1,h2,h3,h4⟩
def XksOk (G:Glo) (K:PySem.W.Frag) (mg:Str→Option Value):List Str→List Nat→Prop
 |t::ts,c::cs=>RsOk K mg (G.ca c) t∧XksOk G K mg ts cs
 |_,_=>True
theorem XksOk.get {G:Glo} {K:PySem.W.Frag} {mg:Str→Option Value}:∀{ts:List Str} {cs:List Nat},XksOk G K mg ts cs→∀(f:Nat) (x:Str),ts[f]? = some x→∀c,cs[f]? = some c→RsOk K mg (G.ca c) x
 |[],_,_,f,x,e,_,_=>by simp at e
 |_::_,[],_,f,x,_,c,e=>by simp at e
 |t::ts,g::gs,⟨h,hs⟩,0,x,e,g',e'=>by
  simp at e e'
  subst e e'
  exact h
 |t::ts,g::gs,⟨h,hs⟩,f+1,x,e,g',e'=>XksOk.get hs f x (by simpa using e) g' (by simpa using e')
def DcsOk (G:Glo) (K:PySem.W.Frag) (w:World) (mg:Str→Option Value):List Str→List (Str × List (List Nat × Option D))→Prop
 |t::ts,g::gs=>qo2 G K w mg t g.2∧DcsOk G K w mg ts gs
 |_,_=>True
theorem DcsOk.get {G:Glo} {K:PySem.W.Frag} {w:World} {mg:Str→Option Value}:∀{ts:List Str} {gs:List (Str × List (List Nat × Option D))},DcsOk G K w mg ts gs→∀(f:Nat) (x:Str),ts[f]? = some x→∀g,gs[f]? = some g→qo2 G K w mg x g.2
 |[],_,_,f,x,e,_,_=>by simp at e
 |_::_,[],_,f,x,_,g,e=>by simp at e
 |t::ts,g::gs,⟨h,hs⟩,0,x,e,g',e'=>by
  simp at e e'
  subst e e'
  exact h
 |t::ts,g::gs,⟨h,hs⟩,f+1,x,e,g',e'=>DcsOk.get hs f x (by simpa using e) g' (by simpa using e')
theorem qe8 {P:Program} {w:World} {K:PySem.W.Frag} {h:Heap} {mg:Str→Option Value} {base:Heap} {G:Glo} {fa:List He.Fa} {fn:List He.DefD} {T:Tb} {Γ:Env} {k:Nat} {mts:List (Nat × Nat × (List D→RE ER))} {fds:List (Nat × Nat × Nat)}
  (c:He.SaysD (bltNames.map He.Fa.free++fa) fn K) (X:K.In h) (N:h.Ns mainGlobals mg) (hf:FnsOk P w K mg base G k T.fn Γ.fn) (hgc:GcsOk G mg T.gc Γ.gc) (hmt:Γ.mt=qbj mts) (hm:MtsOk P w K mg base G k T.mn mts)
  (hfi:Γ.fi=qbp fds) (hfd:FdsOk K G T.fs fds) (hnw:NwsOk P w K mg base G k T.nw Γ.nw) (hck:CksOk G K mg T.ck Γ.ck Γ.ik) (hxk:XksOk G K mg T.xk Γ.xk) (hdc:DcsOk G K w mg T.dc Γ.dc):TabOk P w K mg base T Γ G k where
 blt:=qpe c X N
 fn:=hf.get
 gc:=hgc.get
 mt:=fun m x n e c g e'=>by
  rw[hmt] at e'
  exact(hm.get m x n e c g e').ex
 fs:=fun f x e c i e'=>by
  rw[hfi] at e'
  exact hfd.get f x e c i e'
 nw:=fun i x n e g e'=>(hnw.get i x n e g e').ex
 ck:=hck.get
 xk:=hxk.get
 dc:=hdc.get
section
variable {P:Program} {w:World} {K:PySem.W.Frag} {h:Heap} {mg:Str→Option Value} {base:Heap} {G:Glo} {fa:List He.Fa} {fn:List He.DefD} {T:Tb} {Γ:Env} {k m i j:Nat} {ir:Sms} {ps:List Str} {d:He.DefD} {x y:Str}
theorem qgw (c:He.SaysD fa fn K) (X:K.In h) (N:h.Ns mainGlobals mg) (hG:G.K=K) (hd:fn[i]? = some d) (hat:d.at_=(x,none)) (hdf:d.dfl=[]) (hkw:d.kwd=[]) (hx:fa[j]? = some (.glo x))
  (S:FnScope T.N ps d.scope) (hm:T.N.length=ps.length+m) (hc:qau T d.scope ir d.body=true)
  (hb:∀(kV doc pm:Value) (an:Option Addr) (cdv ct:Value) (us:List Value),us.length=ps.length→bindArgs (PySem.W.fnOf d.name d.qual d.params d.body d.scope .none kV doc pm an cdv ct) ⟨us,[]⟩=pure (ps.zip us))
  (tab:TabOk P w K mg base T Γ G k):DefAt P w K mg base G (k+1) x ps.length (qcr Γ ps.length m ir):=by
 obtain⟨fd,F⟩:=c.def_ i hd
 have e1:d.dvs K=[]:=by unfold He.DefD.dvs;rw[hdf];rfl
 have e2:d.kws K=[]:=by unfold He.DefD.kws;rw[hkw];rfl
 rw[e1,e2,hat] at F
 exact⟨⟨k+1,_,fd,ps,0,_,Nat.le_refl _,qiX F S hG tab hm hc,He.glo_ok X N (c.fact j hx),F.kp,Part.all (FunD.bindsN F hb)⟩⟩
theorem FnOk.bad {P:Program} {w:World} {K:PySem.W.Frag} {mg:Str→Option Value} {base:Heap} {CX:CXT} {k n:Nat} {f:Addr} {fd:FuncData} {ps:List Str} {G:Glo}:FnOk P w K mg base CX k f fd ps (spD G n fun _=>.bad):=
 ⟨fun _ _ _ _ ⟨_,_,_,_,_,_,_,h⟩=>h.elim,fun _ _ _ _ _ _ _ _ _ _ _ _ _ ⟨_,_,_,_,_,_,_,h⟩=>h.elim⟩
theorem qrv {dl:List He.Dv} (c:He.SaysD fa fn K) (X:K.In h) (N:h.Ns mainGlobals mg) (hG:G.K=K) (hd:fn[i]? = some d) (hat:d.at_=(x,none)) (hdf:d.dfl=dl) (hdl:dl≠[]) (hkw:d.kwd=[]) (hx:fa[j]? = some (.glo x))
  (S:FnScope T.N ps d.scope) (hm:T.N.length=ps.length+m) (hc:qau T d.scope ir d.body=true)
  (hb:∀(T:Addr) (kV doc pm:Value) (an:Option Addr) (cdv ct:Value) (us its:List Value),us.length=ps.length→its.length=dl.length →
   ∃k,bindArgs (PySem.W.fnOf d.name d.qual d.params d.body d.scope (.ref T) kV doc pm an cdv ct) ⟨us,[]⟩=seqItems? (.ref T) >>= k∧k (some its.toArray)=pure (ps.zip us))
  (tab:TabOk P w K mg base T Γ G k):DefAt P w K mg base G (k+1) x ps.length (qcr Γ ps.length m ir):=by
 obtain⟨fd,F⟩:=c.def_ i hd
 have e1:d.dvs K=dl.map (He.Dv.v K):=by unfold He.DefD.dvs;rw[hdf]
 have e2:d.kws K=[]:=by unfold He.DefD.kws;rw[hkw];rfl
 rw[e1,e2,hat] at F
 obtain⟨ds,hv,hB⟩:=FunD.binds1 (ps:=ps) F ps.length dl.length (by simpa using hdl) (by simp) fun T kV doc pm an cdv ct us its h1 h2=>by
  rw[List.length_map] at h2
  obtain⟨k,q1,q2⟩:=hb T kV doc pm an cdv ct us its h1 h2
  refine⟨k,q1,?_⟩
  rw[List.drop_of_length_le (by omega),List.append_nil]
  exact q2
 rw[List.drop_of_length_le (by simp)] at hv
 cases hv
 exact⟨⟨k+1,_,fd,ps,0,_,Nat.le_refl _,qiX F S hG tab hm hc,He.glo_ok X N (c.fact j hx),F.kp,Part.all hB⟩⟩
theorem qq8 {dl:List He.Dv} {n r:Nat} (dv:List D) (c:He.SaysD fa fn K) (X:K.In h) (N:h.Ns mainGlobals mg) (hG:G.K=K) (hd:fn[i]? = some d) (hat:d.at_=(x,none)) (hdf:d.dfl=dl) (hdl:dl≠[]) (hkw:d.kwd=[]) (hx:fa[j]? = some (.glo x))
  (S:FnScope T.N ps d.scope) (hm:T.N.length=ps.length+m) (hc:qau T d.scope ir d.body=true) (hn:ps.length=n+(dl.length - r))
  (hb:∀(T:Addr) (kV doc pm:Value) (an:Option Addr) (cdv ct:Value) (us its:List Value),us.length=n→its.length=dl.length →
   ∃k,bindArgs (PySem.W.fnOf d.name d.qual d.params d.body d.scope (.ref T) kV doc pm an cdv ct) ⟨us,[]⟩=seqItems? (.ref T) >>= k∧k (some its.toArray)=pure (ps.zip (us++its.drop r)))
  (hl:dv.length=dl.length - r) (hv:∀P LN,Reps G P LN dv ((dl.map (He.Dv.v K)).drop r))
  (tab:TabOk P w K mg base T Γ G k):DefAt P w K mg base G (k+1) x n (fun ds=>qcr Γ ps.length m ir (ds++dv)):=by
 obtain⟨fd,F⟩:=c.def_ i hd
 have e1:d.dvs K=dl.map (He.Dv.v K):=by unfold He.DefD.dvs;rw[hdf]
 have e2:d.kws K=[]:=by unfold He.DefD.kws;rw[hkw];rfl
 rw[e1,e2,hat] at F
 obtain⟨ds,hv2,hB⟩:=FunD.binds1 (ps:=ps) F n r (by simpa using hdl) (by rw[List.length_map];omega) fun T kV doc pm an cdv ct us its h1 h2=>hb T kV doc pm an cdv ct us its h1 (by rw[h2,List.length_map])
 exact⟨⟨k+1,_,fd,ps,dl.length - r,qcr Γ ps.length m ir,Nat.le_refl _,hn ▸ qiX F S hG tab hm hc,He.glo_ok X N (c.fact j hx),F.kp,dv,_,ds,hB,hv2,hl,hv,fun _ _=>rfl⟩⟩
theorem qsO {cn n j2:Nat} (c:He.SaysD fa fn K) (hG:G.K=K) (hd:fn[i]? = some d) (hat:d.at_=(x,some y)) (hdf:d.dfl=[]) (hkw:d.kwd=[]) (hx:fa[j]? = some (.meth x y)) (hx2:fa[j2]? = some (.cls x)) (hca:G.ca cn=He.ga K x) (hfl:y∉G.fl cn) (hn:ps.length=n+1)
  (S:FnScope T.N ps d.scope) (hm:T.N.length=ps.length+m) (hc:qau T d.scope ir d.body=true)
  (hb:∀(kV doc pm:Value) (an:Option Addr) (cdv ct:Value) (us:List Value),us.length=ps.length→bindArgs (PySem.W.fnOf d.name d.qual d.params d.body d.scope .none kV doc pm an cdv ct) ⟨us,[]⟩=pure (ps.zip us))
  (tab:TabOk P w K mg base T Γ G k):MthAt P w K mg base G (k+1) cn y n (qcr Γ (n+1) m ir):=by
 obtain⟨fd,F⟩:=c.def_ i hd
 have e1:d.dvs K=[]:=by unfold He.DefD.dvs;rw[hdf];rfl
 have e2:d.kws K=[]:=by unfold He.DefD.kws;rw[hkw];rfl
 rw[e1,e2,hat] at F
 have M:=He.meth_ok (c.fact j hx)
 have O:=qiX F S hG tab hm hc
 rw[hn] at O
 exact⟨hca ▸ He.cls_ok (c.fact j2 hx2),hfl,k+1,_,fd,ps,Nat.le_refl _,hca ▸ M,O,FunD.bindsN F hb⟩
end
theorem qsv {P:Program} {w:World} {K:PySem.W.Frag} {h:Heap} {mg:Str→Option Value} {G:Glo} {fa:List He.Fa} {fn:List He.DefD} {T:Tb} {Γ:Env} {k m i j:Nat} {ir:Sms} {y:Str} {d:He.DefD} {x:Str} {f:Addr}
  (c:He.SaysD fa fn K) (X:K.In h) (N:h.Ns mainGlobals mg) (hG:G.K=K) (hd:fn[i]? = some d) (hat:d.at_=(x,none)) (hdf:d.dfl=[]) (hkw:d.kwd=[]) (hx:fa[j]? = some (.glo x)) (hfa:mg x=some (.ref f))
  (S:FnScope T.N [y] d.scope) (hm:T.N.length=1+m) (hc:qau T d.scope ir d.body=true)
  (hb:∀(kV doc pm:Value) (an:Option Addr) (cdv ct:Value) (us:List Value),us.length=1→bindArgs (PySem.W.fnOf d.name d.qual d.params d.body d.scope .none kV doc pm an cdv ct) ⟨us,[]⟩=pure ([y].zip us))
  (tab:∀base:Heap,K.In base→base.Ns mainGlobals mg→TabOk P w K mg base T Γ G k) :
  ∃fd:FuncData,(∀(s:Shared) (u:Value),BindsTo s fd ⟨[u],[]⟩ [(y,u)])∧∀base:Heap,K.In base→base.Ns mainGlobals mg→FnOk P w K mg base (L2.CX P w) (k+1) f fd [y] (spD G 1 (qcr Γ 1 m ir)):=by
 obtain⟨fd,F⟩:=c.def_ i hd
 have e1:d.dvs K=[]:=by unfold He.DefD.dvs;rw[hdf];rfl
 have e2:d.kws K=[]:=by unfold He.DefD.kws;rw[hkw];rfl
 rw[e1,e2,hat] at F
 have e:=hfa.symm.trans (He.glo_ok X N (c.fact j hx))
 cases e
 exact⟨fd,fun s u=>FunD.bindsA (ps:=[y]) F hb s [u] rfl,fun base hB hN=>qiX F S hG (tab base hB hN) hm hc⟩
theorem law_at {l:PySem.W.OpenLaw} {w:World} {K:PySem.W.Frag} {mg:Str→Option Value} {f:Addr} {h:Heap} {G:Glo} {g:List D→RE ER} {k n:Nat} {y:Str} (hG:G.K=K)
  (ok:∃fd:FuncData,(∀(s:Shared) (u:Value),BindsTo s fd ⟨[u],[]⟩ [(y,u)])∧∀base:Heap,K.In base→base.Ns mainGlobals mg→FnOk l.prog w K mg base (L2.CX l.prog w) k f fd [y] (spD G 1 g))
  (tr:∀ns:List Int,ns.length≤n→(∀z∈ns,Builtin.Int.intBits z≤1048576)→∃b,g [.lst (ns.map D.int)]=.ok (.val (.bl true) b)):LamX.LawAtS l w K (L2.CX l.prog w) k n y mg f h:=by
 obtain⟨fd,hb,hF⟩:=ok
 refine⟨fd,[],spD G 1 g,fun p hp=>(nomatch hp),fun p hp=>(nomatch hp),fun p hp=>(nomatch hp),hb,fun H a ns hl hz _ hS=>?_,fun base h1 h2 _=>hF base h1 h2⟩
 obtain⟨b,e⟩:=tr ns hl hz
 refine⟨fun _=>none,H,[.lst (ns.map D.int)],fun _ _ q=>(nomatch q),L2.Same.refl _,⟨_,[],rfl,⟨a,_,rfl,hG ▸ hS,Reps.ints.mpr rfl⟩,rfl⟩,rfl,?_⟩
 rw[e]
 intro v H' P' N' _ q
 exact q
theorem cx_end {P:Program} {w:World} (H:Hp) (s:Shared) (e:Value) (s':Shared) (h:L2.CX P w [] H s (fun _ _ _=>False) e s'):False:=by
 obtain⟨a,B,H',cls,d,_,_,_,_,_,_,_,z⟩:=h
 exact z
end Cm
namespace K66
open Cm
def qcd:Sms:=(.cons (.iff (.val (.cmp .lt (.var 1) (.pri .len (.cons (.var 0) .nil)))) (.cons (.ret (.idx (.var 0) (.var 1)))
  .nil) .nil)
  (.cons (.asg 2 (.bin .add (.bin .mul (.cint 7) (.var 1)) (.cint 3)))
  (.cons (.iff (.val (.cmp .gt (.pri .len (.cons (.var 0) .nil)) (.cint 0))) (.cons (.asg 2 (.bin .add (.var 2) (.bin .mul (.bin .mdl (.idx (.var 0) (.bin .mdl (.var 1) (.pri .len (.cons (.var 0) .nil)))) (.cint 1000003)) (.bin .add (.var 1) (.cint 1)))))
  .nil) .nil)
  (.cons (.ret (.bin .add (.bin .mdl (.bin .mul (.var 2) (.var 2)) (.cint 999979)) (.bin .mdl (.var 2) (.cint 101))))
  .nil))))
def qcX:Env:={ fn:=[],gc:=[],mn:=[],mt:=qbj [],fs:=[],fi:=qbp [],nw:=[],ck:=[],ik:=[],xk:=[] }
def g__law_at:List D→RE ER:=qcr qcX 2 1 qcd
def qbc:Sms:=(.cons (.asg 1 (.bin .add (.cint 1) (.bin .mdl (.call 0 (.cons (.var 0) (.cons (.cint 0) .nil))) (.cint 6))))
  (.cons (.asg 2 (.bin .add (.cint 1) (.bin .mdl (.call 0 (.cons (.var 0) (.cons (.cint 1) .nil))) (.pri .min2 (.cons (.cint 6) (.cons (.bin .fdv (.cint 16) (.var 1)) .nil))))))
  (.cons (.ret (.tup (.cons (.var 1) (.cons (.var 2) (.cons (.bin .add (.cint 1) (.bin .mdl (.call 0 (.cons (.var 0) (.cons (.cint 2) .nil))) (.cint 6))) .nil)))))
  .nil)))
def qbA:Env:={ fn:=[("_law_at",g__law_at)],gc:=[],mn:=[],mt:=qbj [],fs:=[],fi:=qbp [],nw:=[],ck:=[],ik:=[],xk:=[] }
def g__law_floor:List D→RE ER:=qcr qbA 1 2 qbc
def qaA:Sms:=(.cons (.own 2 (.lrng (.cons (.cint 1) (.cons (.bin .add (.var 1) (.cint 1)) .nil))))
  (.cons (.own 3 (.lst .nil))
  (.cons (.for (.rng (.cons (.var 1) .nil)) [4] (.cons (.apop 3 2 (.bin .mdl (.bin .fdv (.var 0) (.bin .add (.bin .mul (.cint 3) (.var 4)) (.cint 1))) (.pri .len (.cons (.var 2) .nil))))
  .nil))
  (.cons (.ret (.var 3))
  .nil))))
def qa0:Env:={ fn:=[],gc:=[],mn:=[],mt:=qbj [],fs:=[],fi:=qbp [],nw:=[],ck:=[],ik:=[],xk:=[] }
def g__law_exchange:List D→RE ER:=qcr qa0 2 3 qaA
def qbb:Sms:=(.cons (.ret (.bop true (.cons (.isi (.var 0) .int) (.cons (.bnot (.isi (.var 0) .bool)) .nil))))
  .nil)
def qbE:Env:={ fn:=[],gc:=[],mn:=[],mt:=qbj [],fs:=[],fi:=qbp [],nw:=[],ck:=[],ik:=[],xk:=[] }
def g__law_whole:List D→RE ER:=qcr qbE 1 0 qbb
def qbM:Sms:=(.cons (.iff (.bop false (.cons (.not (.val (.isi (.var 0) .list))) (.cons (.val (.cmp .ne (.var 0) (.var 1))) .nil))) (.cons (.ret (.cbl false))
  .nil) .nil)
  (.cons (.ret (.cmp .eq (.pri .len (.cons (.lc [2] (.any (.var 0)) [2] (.cons (.val (.call 0 (.cons (.var 2) .nil))) .nil) (.var 2)) .nil)) (.pri .len (.cons (.var 1) .nil))))
  .nil))
def qci:Env:={ fn:=[("_law_whole",g__law_whole)],gc:=[],mn:=[],mt:=qbj [],fs:=[],fi:=qbp [],nw:=[],ck:=[],ik:=[],xk:=[] }
def g__law_are:List D→RE ER:=qcr qci 2 1 qbM
def qbv:Sms:=(.cons (.ret (.lrng (.cons (.cint 1) (.cons (.bin .add (.idx (.var 0) (.cint 2)) (.cint 1)) .nil))))
  .nil)
def qbY:Env:={ fn:=[],gc:=[],mn:=[],mt:=qbj [],fs:=[],fi:=qbp [],nw:=[],ck:=[],ik:=[],xk:=[] }
def g_all_signs:List D→RE ER:=qcr qbY 1 0 qbv
def qbL:Sms:=(.cons (.iff (.val (.isN (.var 1))) (.cons (.ret (.call 0 (.cons (.var 0) .nil)))
  .nil) .nil)
  (.cons (.iff (.val (.cmp .ne (.pri .sorted (.cons (.var 1) .nil)) (.call 0 (.cons (.var 0) .nil)))) (.cons (.rse 0)
  .nil) .nil)
  (.cons (.ret (.pri .list (.cons (.var 1) .nil)))
  .nil)))
def qcl:Env:={ fn:=[("all_signs",g_all_signs)],gc:=[],mn:=[],mt:=qbj [],fs:=[],fi:=qbp [],nw:=[],ck:=[],ik:=[],xk:=[38] }
def g_signs_by:List D→RE ER:=qcr qcl 2 0 qbL
def qaJ:Sms:=(.cons (.iff (.not (.val (.chn .le .le (.cint 0) (.var 0) (.cint 7)))) (.cons (.rse 0)
  .nil) .nil)
  .nil)
def qa9:Env:={ fn:=[],gc:=[],mn:=[],mt:=qbj [],fs:=[],fi:=qbp [],nw:=[],ck:=[],ik:=[],xk:=[38] }
def g_look_at_move:List D→RE ER:=qcr qa9 1 0 qaJ
def qba:Sms:=(.cons (.ret (.bin .mul (.idx (.var 0) (.cint 0)) (.idx (.var 0) (.cint 1))))
  .nil)
def qbF:Env:={ fn:=[],gc:=[],mn:=[],mt:=qbj [],fs:=[],fi:=qbp [],nw:=[],ck:=[],ik:=[],xk:=[] }
def g_many_cells:List D→RE ER:=qcr qbF 1 0 qba
def qb4:Sms:=(.cons (.ret (.tup (.cons (.bin .fdv (.var 1) (.idx (.var 0) (.cint 1))) (.cons (.bin .mdl (.var 1) (.idx (.var 0) (.cint 1))) .nil))))
  .nil)
def qcU:Env:={ fn:=[],gc:=[],mn:=[],mt:=qbj [],fs:=[],fi:=qbp [],nw:=[],ck:=[],ik:=[],xk:=[] }
def g_spot_of:List D→RE ER:=qcr qcU 2 0 qb4
def qaW:Sms:=(.cons (.ret (.tup (.cons (.idx (.var 1) (.cint 1)) (.cons (.bin .sub (.bin .sub (.var 0) (.cint 1)) (.idx (.var 1) (.cint 0))) .nil))))
  .nil)
def qbh:Env:={ fn:=[],gc:=[],mn:=[],mt:=qbj [],fs:=[],fi:=qbp [],nw:=[],ck:=[],ik:=[],xk:=[] }
def g_turned_spot:List D→RE ER:=qcr qbh 2 0 qaW
def qaZ:Sms:=(.cons (.expr (.call 0 (.cons (.var 1) .nil)))
  (.cons (.own 2 (.lst .nil))
  (.cons (.for (.rng (.cons (.call 1 (.cons (.var 0) .nil)) .nil)) [3] (.cons (.asgT [4,5,6] (.var 0))
  (.cons (.asg 7 (.call 2 (.cons (.var 0) (.cons (.var 3) .nil))))
  (.cons (.iff (.val (.cmp .ge (.var 1) (.cint 4))) (.cons (.asg 7 (.tup (.cons (.idx (.var 7) (.cint 0)) (.cons (.bin .sub (.bin .sub (.var 5) (.cint 1)) (.idx (.var 7) (.cint 1))) .nil))))
  .nil) .nil)
  (.cons (.for (.rng (.cons (.bin .mdl (.var 1) (.cint 4)) .nil)) [8] (.cons (.asg 7 (.call 3 (.cons (.var 4) (.cons (.var 7) .nil))))
  (.cons (.par [4,5] (.cons (.var 5) (.cons (.var 4) .nil)))
  .nil)))
  (.cons (.app 2 (.bin .add (.bin .mul (.idx (.var 7) (.cint 0)) (.var 5)) (.idx (.var 7) (.cint 1))))
  .nil))))))
  (.cons (.ret (.var 2))
  .nil))))
def qbq:Env:={ fn:=[("look_at_move",g_look_at_move),("many_cells",g_many_cells),("spot_of",g_spot_of),("turned_spot",g_turned_spot)],gc:=[],mn:=[],mt:=qbj [],fs:=[],fi:=qbp [],nw:=[],ck:=[],ik:=[],xk:=[] }
def g_moved_cells:List D→RE ER:=qcr qbq 2 7 qaZ
def qao:Sms:=(.cons (.asg 4 (.bin .add (.lst (.cons (.cint 0) .nil)) (.call 0 (.cons (.var 0) (.cons (.var 3) .nil)))))
  (.cons (.own 5 (.lc [6] (.any (.var 1)) [6] .nil (.cint 0)))
  (.cons (.for (.zp (.var 1) (.call 1 (.cons (.var 0) (.cons (.var 2) .nil)))) [7,6] (.cons (.put 5 (.var 6) (.idx (.var 4) (.var 7)))
  .nil))
  (.cons (.ret (.var 5))
  .nil))))
def qaD:Env:={ fn:=[("signs_by",g_signs_by),("moved_cells",g_moved_cells)],gc:=[],mn:=[],mt:=qbj [],fs:=[],fi:=qbp [],nw:=[],ck:=[],ik:=[],xk:=[] }
def g_moved_filling:List D→RE ER:=qcr qaD 4 4 qao
def qbx:Sms:=(.cons (.asgT [3,4,5] (.var 0))
  (.cons (.asg 6 (.bin .fdv (.var 1) (.var 4)))
  (.cons (.asg 7 (.bin .mdl (.var 1) (.var 4)))
  (.cons (.iff (.val (.cmp .gt (.var 2) (.cint 3))) (.cons (.asg 7 (.bin .sub (.bin .sub (.var 4) (.cint 1)) (.var 7)))
  .nil) .nil)
  (.cons (.for (.rng (.cons (.bin .mdl (.var 2) (.cint 4)) .nil)) [8] (.cons (.par [6,7] (.cons (.var 7) (.cons (.bin .sub (.bin .sub (.var 3) (.cint 1)) (.var 6)) .nil)))
  (.cons (.par [3,4] (.cons (.var 4) (.cons (.var 3) .nil)))
  .nil)))
  (.cons (.ret (.bin .add (.bin .mul (.var 6) (.var 4)) (.var 7)))
  .nil))))))
def qbT:Env:={ fn:=[],gc:=[],mn:=[],mt:=qbj [],fs:=[],fi:=qbp [],nw:=[],ck:=[],ik:=[],xk:=[] }
def g__law_spot:List D→RE ER:=qcr qbT 3 6 qbx
def qbO:Sms:=(.cons (.own 4 (.pri .list (.cons (.var 1) .nil)))
  (.cons (.for (.en (.var 1)) [5,6] (.cons (.put 4 (.call 0 (.cons (.var 0) (.cons (.var 5) (.cons (.var 2) .nil)))) (.idx (.bin .add (.lst (.cons (.cint 0) .nil)) (.var 3)) (.var 6)))
  .nil))
  (.cons (.ret (.var 4))
  .nil)))
def qcn:Env:={ fn:=[("_law_spot",g__law_spot)],gc:=[],mn:=[],mt:=qbj [],fs:=[],fi:=qbp [],nw:=[],ck:=[],ik:=[],xk:=[] }
def g__law_due:List D→RE ER:=qcr qcn 4 3 qbO
def qaU:Sms:=(.cons (.expr (.call 0 (.cons (.var 1) .nil)))
  (.cons (.asgT [2,3,4] (.var 0))
  (.cons (.iff (.val (.cmp .eq (.bin .mdl (.var 1) (.cint 2)) (.cint 1))) (.cons (.ret (.tup (.cons (.var 3) (.cons (.var 2) (.cons (.var 4) .nil)))))
  .nil) .nil)
  (.cons (.ret (.tup (.cons (.var 2) (.cons (.var 3) (.cons (.var 4) .nil)))))
  .nil))))
def qbo:Env:={ fn:=[("look_at_move",g_look_at_move)],gc:=[],mn:=[],mt:=qbj [],fs:=[],fi:=qbp [],nw:=[],ck:=[],ik:=[],xk:=[] }
def g_moved_floor:List D→RE ER:=qcr qbo 2 3 qaU
def qaL:Sms:=(.cons (.asg 4 .cnon)
  (.cons (.tryx 0 5 4 (.ex (.call 0 (.cons (.var 0) (.cons (.var 1) (.cons (.var 2) (.cons (.var 3) .nil)))))))
  (.cons (.asg 6 (.lst (.cons (.isc (.var 4) 1) (.cons (.isc (.var 4) 2) (.cons (.isc (.var 4) 3) .nil)))))
  (.cons (.ret (.bop true (.cons (.isc (.var 4) 4) (.cons (.isc (.var 4) 5) (.cons (.bnot (.pri .any (.cons (.var 6) .nil))) .nil)))))
  .nil))))
def qa5:Env:={ fn:=[("moved_filling",g_moved_filling)],gc:=[],mn:=[],mt:=qbj [],fs:=[],fi:=qbp [],nw:=[],ck:=[fun c=>List.lookup c [(38,true)],fun c=>List.lookup c [(38,false)],fun c=>List.lookup c [(38,false)],fun c=>List.lookup c [(38,false)],fun c=>List.lookup c [(38,true)],fun c=>List.lookup c [(38,true)]],ik:=[fun c=>List.lookup c [],fun c=>List.lookup c [],fun c=>List.lookup c [],fun c=>List.lookup c [],fun c=>List.lookup c [],fun c=>List.lookup c []],xk:=[] }
def g__law_refused:List D→RE ER:=qcr qa5 4 3 qaL
def qaB:Sms:=(.cons (.asg 2 (.bin .mdl (.bin .fdv (.var 1) (.cint 5)) (.pri .len (.cons (.var 0) .nil))))
  (.cons (.iff (.val (.cmp .eq (.bin .mdl (.var 1) (.cint 5)) (.cint 0))) (.cons (.ret (.slc (.var 0) (.cons (.cint 1) .nil) .nil))
  .nil) .nil)
  (.cons (.iff (.val (.cmp .eq (.bin .mdl (.var 1) (.cint 5)) (.cint 1))) (.cons (.ret (.bin .add (.var 0) (.lst (.cons (.idx (.var 0) (.var 2)) .nil))))
  .nil) .nil)
  (.cons (.iff (.bop true (.cons (.val (.cmp .eq (.bin .mdl (.var 1) (.cint 5)) (.cint 2))) (.cons (.val (.cmp .gt (.pri .len (.cons (.var 0) .nil)) (.cint 1))) .nil))) (.cons (.ret (.bin .add (.bin .add (.slc (.var 0) .nil (.cons (.var 2) .nil)) (.lst (.cons (.idx (.var 0) (.bin .sub (.var 2) (.cint 1))) .nil))) (.slc (.var 0) (.cons (.bin .add (.var 2) (.cint 1)) .nil) .nil)))
  .nil) .nil)
  (.cons (.iff (.val (.cmp .eq (.bin .mdl (.var 1) (.cint 5)) (.cint 3))) (.cons (.ret (.bin .add (.bin .add (.slc (.var 0) .nil (.cons (.var 2) .nil)) (.lst (.cons (.cint 0) .nil))) (.slc (.var 0) (.cons (.bin .add (.var 2) (.cint 1)) .nil) .nil)))
  .nil) .nil)
  (.cons (.ret (.bin .add (.bin .add (.slc (.var 0) .nil (.cons (.var 2) .nil)) (.lst (.cons (.bin .add (.bin .add (.pri .len (.cons (.var 0) .nil)) (.cint 1)) (.bin .mdl (.bin .fdv (.var 1) (.cint 64)) (.bin .pow (.cint 10) (.cint 9)))) .nil))) (.slc (.var 0) (.cons (.bin .add (.var 2) (.cint 1)) .nil) .nil)))
  .nil))))))
def qa1:Env:={ fn:=[],gc:=[],mn:=[],mt:=qbj [],fs:=[],fi:=qbp [],nw:=[],ck:=[],ik:=[],xk:=[] }
def g__law_bad_list:List D→RE ER:=qcr qa1 2 1 qaB
def qkk:Sms:=(.cons (.asg 1 (.call 0 (.cons (.var 0) .nil)))
  (.cons (.asg 2 (.lc [3] (.rng (.cons (.bin .mul (.idx (.var 1) (.cint 0)) (.idx (.var 1) (.cint 1))) .nil)) [3] .nil (.bin .mdl (.call 1 (.cons (.var 0) (.cons (.bin .add (.cint 7) (.var 3)) .nil))) (.bin .add (.idx (.var 1) (.cint 2)) (.cint 1)))))
  (.cons (.asg 4 (.bin .mdl (.call 1 (.cons (.var 0) (.cons (.cint 3) .nil))) (.cint 8)))
  (.cons (.asg 5 (.idx (.lst (.cons (.cint 0) (.cons (.cint 3) (.cons (.cint 2) (.cons (.cint 1) (.cons (.cint 4) (.cons (.cint 5) (.cons (.cint 6) (.cons (.cint 7) .nil))))))))) (.var 4)))
  (.cons (.asg 6 (.lrng (.cons (.cint 1) (.cons (.bin .add (.idx (.var 1) (.cint 2)) (.cint 1)) .nil))))
  (.cons (.asg 7 (.call 2 (.cons (.call 1 (.cons (.var 0) (.cons (.cint 4) .nil))) (.cons (.idx (.var 1) (.cint 2)) .nil))))
  (.cons (.iff (.not (.val (.call 3 (.cons (.call 4 (.cons (.var 1) (.cons (.pri .list (.cons (.var 2) .nil)) (.cons (.var 4) .nil)))) (.cons (.call 5 (.cons (.var 1) (.cons (.var 2) (.cons (.var 4) (.cons (.var 6) .nil))))) .nil))))) (.cons (.ret (.cbl false))
  .nil) .nil)
  (.cons (.iff (.not (.val (.call 3 (.cons (.call 6 (.cons (.var 1) (.cons (.pri .list (.cons (.var 2) .nil)) (.cons (.var 4) (.cons .cnon .nil))))) (.cons (.call 5 (.cons (.var 1) (.cons (.var 2) (.cons (.var 4) (.cons (.var 6) .nil))))) .nil))))) (.cons (.ret (.cbl false))
  .nil) .nil)
  (.cons (.asg 8 (.call 5 (.cons (.var 1) (.cons (.var 2) (.cons (.var 4) (.cons (.var 7) .nil))))))
  (.cons (.row 9 (.cons (.pri .list (.cons (.var 2) .nil)) (.cons (.pri .list (.cons (.var 7) .nil)) .nil)))
  (.cons (.own 10 (.pk (.call 6 (.cons (.var 1) (.cons (.idx (.var 9) (.cint 0)) (.cons (.var 4) (.cons (.idx (.var 9) (.cint 1)) .nil)))))))
  (.cons (.iff (.bop false (.cons (.not (.val (.call 3 (.cons (.var 10) (.cons (.var 8) .nil))))) (.cons (.val (.pk (.cmp .ne (.var 9) (.lst (.cons (.var 2) (.cons (.var 7) .nil)))))) .nil))) (.cons (.ret (.cbl false))
  .nil) .nil)
  (.cons (.asg 11 (.call 7 (.cons (.var 1) (.cons (.var 4) .nil))))
  (.cons (.asg 12 (.lc [13] (.any (.var 6)) [13] .nil (.bin .add (.inxL (.var 7) (.var 13)) (.cint 1))))
  (.cons (.iff (.not (.val (.call 3 (.cons (.call 6 (.cons (.var 11) (.cons (.var 10) (.cons (.var 5) (.cons (.var 12) .nil))))) (.cons (.var 2) .nil))))) (.cons (.ret (.cbl false))
  .nil) .nil)
  (.cons (.iff (.not (.val (.pk (.call 8 (.cons (.var 1) (.cons (.idx (.var 9) (.cint 0)) (.cons (.var 4) (.cons (.call 9 (.cons (.var 7) (.cons (.call 1 (.cons (.var 0) (.cons (.cint 5) .nil))) .nil))) .nil)))))))) (.cons (.ret (.cbl false))
  .nil) .nil)
  (.cons (.asg 14 (.idx (.lst (.cons (.neg (.cint 1)) (.cons (.cint 8) (.cons (.neg (.cint 9)) (.cons (.bin .add (.bin .pow (.cint 10) (.cint 20)) (.var 4)) .nil))))) (.bin .mdl (.call 1 (.cons (.var 0) (.cons (.cint 6) .nil))) (.cint 4))))
  (.cons (.iff (.bop false (.cons (.not (.val (.pk (.call 8 (.cons (.var 1) (.cons (.idx (.var 9) (.cint 0)) (.cons (.var 14) (.cons .cnon .nil)))))))) (.cons (.not (.val (.pk (.call 8 (.cons (.var 1) (.cons (.idx (.var 9) (.cint 0)) (.cons (.var 14) (.cons (.var 7) .nil)))))))) .nil))) (.cons (.ret (.cbl false))
  .nil) .nil)
  (.cons (.clr 10)
  (.cons (.rclr 9 1)
  (.cons (.ret (.pk (.call 3 (.cons (.call 6 (.cons (.var 1) (.cons (.idx (.var 9) (.cint 0)) (.cons (.var 4) (.cons (.pri .list (.cons (.var 7) .nil)) .nil))))) (.cons (.var 8) .nil)))))
  .nil)))))))))))))))))))))
def qlP:Env:={ fn:=[("_law_floor",g__law_floor),("_law_at",g__law_at),("_law_exchange",g__law_exchange),("_law_are",g__law_are),("moved_filling",fun ds=>g_moved_filling (ds++[.non])),("_law_due",g__law_due),("moved_filling",g_moved_filling),("moved_floor",g_moved_floor),("_law_refused",g__law_refused),("_law_bad_list",g__law_bad_list)],gc:=[],mn:=[],mt:=qbj [],fs:=[],fi:=qbp [],nw:=[],ck:=[],ik:=[],xk:=[] }
def g_law:List D→RE ER:=qcr qlP 1 14 qkk
end K66
namespace Cm
theorem qaY:∀ns:List Int,qaq (ns.map D.int)=some ns
 |[]=>rfl
 |n::ns=>by simp[qaq,qaY ns]
theorem qcW (n:Nat):∀ns:List Int,D.fits (ns.map D.int) n=true
 |[]=>rfl
 |m::ns=>by simp[D.fits,D.fit,qcW n ns]
theorem qei:∀ns ms:List Int,D.eqbs (ns.map D.int) (ms.map D.int)=decide (ns=ms)
 |[],[]=>by simp[D.eqbs]
 |[],_::_=>by simp[D.eqbs]
 |_::_,[]=>by simp[D.eqbs]
 |n::ns,m::ms=>by
  simp only[List.map_cons,D.eqbs,D.eqb,qei ns ms]
  by_cases h:n=m<;>simp[h]
theorem qmY (ns ms:List Int):qiu (.lst (ns.map D.int)) (.lst (ms.map D.int))=.ok (decide (ns=ms)):=by
 simp[qiu,D.fit,qcW,D.eqb,qei]
theorem qcT {α β:Type} (f:α→β):∀(l:List α) (i:Nat),(l.map f).eraseIdx i=(l.eraseIdx i).map f
 |[],_=>rfl
 |a::l,0=>rfl
 |a::l,i+1=>by simp[qcT f l i]
theorem qeX {α:Type}:∀(l:List α) (i:Nat) (h:i<l.length),(l[i]::l.eraseIdx i).Perm l
 |[],_,h=>absurd h (Nat.not_lt_zero _)
 |a::l,0,_=>List.Perm.refl _
 |a::l,i+1,h=>(List.Perm.swap a _ _).trans ((qeX l i (Nat.lt_of_succ_lt_succ h)).cons a)
def IC (cs:List Nat):List Int:=cs.map fun c=>((c:Nat):Int)
theorem qrl {j:Int} (h:qkg j):qnG j=true:=by rw[qaH];exact h
theorem qrg {i j:Int} (h:qjc i j):qoh i j=true:=by rw[qaE];exact h
theorem qsm {j:Int} (h:j≠0):nzB j=true:=by rw[qaS];exact h
theorem qpo {n:Nat} (h:n≤LIM):leB n=true:=by rw[qag];exact h
theorem qnq {i:Int} (h:-1000000≤i∧i≤1000000):qor i=true:=by
 unfold qor
 rw[Nat.ble_eq]
 omega
theorem qqZ {n:Nat} (h:n≤1000000):qit (n:Int)=true:=by
 have:LIM=16777216:=rfl
 unfold qit
 rw[Bool.and_eq_true,qag]
 exact⟨qnq (by omega),by omega⟩
theorem qqX {i j:Int} (h:-1000000≤i∧i≤1000000 ∧ -1000000≤j∧j≤1000000):qo5 i j=true:=by
 have:LIM=16777216:=rfl
 unfold qo5
 rw[Bool.and_eq_true,Bool.and_eq_true,qag]
 exact⟨qnq (by omega),qnq (by omega),by omega⟩
section
variable {Γ:Env} {ss a b:Sms} {ρ ρ':List Sl} {i:Nat} {e ix:Ex} {d:D} {ds:List D} {f c:Bool}
theorem qg7 {n k:Nat} (h:k<n):L2.ixN n (k:Int)=some k:=by
 unfold L2.ixN
 rw[if_pos (by omega),if_pos (by omega)]
 simp
end
def qsS (r:RE ER):Bool:=match r with
 |.ok (.val (.bl true) _)=>true
 |_=>false
end Cm
namespace Cm
theorem RE.bind_assoc {α β γ:Type} (m:RE α) (f:α→RE β) (g:β→RE γ):(m.bind f).bind g=m.bind fun x=>(f x).bind g:=by cases m<;>rfl
@[simp] theorem RE.bind_pure {α:Type} (m:RE α):m.bind RE.ok=m:=by cases m<;>rfl
inductive Sh where
 |v | f | b | n | o
def ER.isF:ER→Bool
 |.fre _ _=>true
 |_=>false
def qfh:Sh→ER→Prop
 |.v,er=>er.isV=true
 |.f,er=>er.isF=true
 |.b,er=>er.isB=true
 |.n,er=>er.isB=false
 |.o,er=>er.isF=true∨(er.isV=true∧er.d=.non)
def Sh.nb:Sh→Bool
 |.b=>false
 |_=>true
def Sh.ret:Sh→Sh
 |.b=>.f
 |s=>s
structure Is (s:Sh) (t:Bool) (d:D) (er:ER):Prop where
 d:er.d=d
 s:qfh s er
 t:t=true→er.b=true
def XR {α β:Type} (r:RE β) (m:RE α) (R:α→β→Prop):Prop:=match m with
 |.bad=>True
 |.ok v=>∃x,r=.ok x∧R v x
 |.exc c fs=>r=.exc c fs
theorem XR.bind {α β γ δ:Type} {r:RE β} {m:RE α} {R:α→β→Prop} {f:β→RE γ} {g:α→RE δ} {S:δ→γ→Prop} (h:XR r m R) (k:∀v x,R v x→XR (f x) (g v) S):XR (r.bind f) (m.bind g) S:=by
 cases m with
 |bad=>trivial
 |ok v=>obtain⟨x,e,hx⟩:=h;rw[e];exact k v x hx
 |exc c fs=>have h:r=_:=h;rw[h];rfl
theorem XR.mono {α β:Type} {r:RE β} {m:RE α} {R S:α→β→Prop} (h:XR r m R) (k:∀v x,R v x→S v x):XR r m S:=by
 cases m with
 |bad=>trivial
 |ok v=>obtain⟨x,e,hx⟩:=h;exact⟨x,e,k v x hx⟩
 |exc c fs=>exact h
theorem XR.pure {α β:Type} {v:α} {x:β} {R:α→β→Prop} (h:R v x):XR (.ok x) (.ok v) R:=⟨x,rfl,h⟩
theorem XR.to {α β:Type} {r:RE β} {v:α} {R:α→β→Prop} (h:XR r (.ok v) R):∃x,r=.ok x∧R v x:=h
abbrev XE {α:Type} (Γ:Env) (e:Ex) (ρ:List Sl) (m:RE α) (en:α→D) (s:Sh) (t:Bool):Prop:=XR (ev Γ e ρ) m fun v er=>Is s t (en v) er
abbrev XT (Γ:Env) (e:Te) (ρ:List Sl) (m:RE Bool):Prop:=XR (evT Γ e ρ) m fun v x=>x=v
abbrev XI {α:Type} (Γ:Env) (e:Itx) (ρ:List Sl) (m:RE (List α)) (en:α→D) (t o:Bool):Prop:=XR (evI Γ e ρ) m fun xs w=>w.xs=xs.map en∧(t=true→w.b=true)∧(o=false→w.own=false)
abbrev Rf {α:Type} (r:RE ER) (m:RE α) (en:α→D) (s:Sh) (t:Bool):Prop:=XR r m fun v er=>Is s t (en v) er
theorem Is.val {d:D} {b t:Bool} (h:t=true→b=true):Is .v t d (.val d b):=⟨rfl,rfl,h⟩
theorem Is.fre {ds:List D} {b t:Bool} (h:t=true→b=true):Is .f t (.lst ds) (.fre ds b):=⟨rfl,rfl,h⟩
theorem xok {α:Type} {v:α} {d:D} {en:α→D} {t:Bool} (h:d=en v):XR (ok d) (.ok v) fun v er=>Is .v t (en v) er:=⟨_,rfl,h,rfl,fun _=>rfl⟩
theorem qpM {α:Type} {v:α} {d:D} {b t:Bool} {en:α→D} (h:d=en v) (k:t=true→b=true):XR (RE.ok (.val d b)) (.ok v) fun v er=>Is .v t (en v) er:=⟨_,rfl,h,rfl,k⟩
theorem qiv {α:Type} {v:α} {ds:List D} {b t:Bool} {en:α→D} (h:.lst ds=en v) (k:t=true→b=true):XR (RE.ok (.fre ds b)) (.ok v) fun v er=>Is .f t (en v) er:=⟨_,rfl,h,rfl,k⟩
theorem Is.weak {s:Sh} {t:Bool} {d:D} {er:ER} (h:Is s t d er) (hs:s.nb=true):Is .n t d er:=⟨h.d,by
 have:=h.s
 cases s<;>cases er<;>simp_all[qfh,ER.isF,Sh.nb],h.t⟩
theorem Is.low {s:Sh} {t:Bool} {d:D} {er:ER} (h:Is s t d er):Is s false d er:=⟨h.d,h.s,fun e=>nomatch e⟩
abbrev eI:Int→D:=D.int
abbrev eB:Bool→D:=D.bl
abbrev eS:List Nat→D:=D.str
def eC (c:Nat):D:=.str [c]
def eU (_:Unit):D:=.non
def eD (d:D):D:=d
def eL {α:Type} (en:α→D) (xs:List α):D:=.lst (xs.map en)
def eO {α:Type} (en:α→D):Option α→D
 |none=>.non
 |some x=>en x
def eT1 {α:Type} (a:α→D) (p:α):D:=.tup [a p]
def eT2 {α β:Type} (a:α→D) (b:β→D) (p:α × β):D:=.tup [a p.1,b p.2]
def eT3 {α β γ:Type} (a:α→D) (b:β→D) (c:γ→D) (p:α × β × γ):D:=.tup [a p.1,b p.2.1,c p.2.2]
def eT4 {α β γ δ:Type} (a:α→D) (b:β→D) (c:γ→D) (d:δ→D) (p:α × β × γ × δ):D:=.tup [a p.1,b p.2.1,c p.2.2.1,d p.2.2.2]
def eT5 {α β γ δ ε:Type} (a:α→D) (b:β→D) (c:γ→D) (d:δ→D) (e:ε→D) (p:α × β × γ × δ × ε):D:=.tup [a p.1,b p.2.1,c p.2.2.1,d p.2.2.2.1,e p.2.2.2.2]
def eT6 {α β γ δ ε ζ:Type} (a:α→D) (b:β→D) (c:γ→D) (d:δ→D) (e:ε→D) (f:ζ→D) (p:α × β × γ × δ × ε × ζ):D:=.tup [a p.1,b p.2.1,c p.2.2.1,d p.2.2.2.1,e p.2.2.2.2.1,f p.2.2.2.2.2]
def eX (c:Nat):D:=.exc c []
class Flat {α:Type} (en:α→D):Prop where
 flat:∀v,(en v).flat=true
instance:Flat eI:=⟨fun _=>rfl⟩
instance:Flat eB:=⟨fun _=>rfl⟩
instance:Flat eS:=⟨fun _=>rfl⟩
instance:Flat eC:=⟨fun _=>rfl⟩
instance:Flat eU:=⟨fun _=>rfl⟩
instance:Flat eX:=⟨fun _=>rfl⟩
instance {α:Type} {en:α→D} [Flat en]:Flat (eO en):=⟨fun v=>by cases v with
 |none=>rfl
 |some x=>exact Flat.flat (en:=en) x⟩
instance {α β:Type} {a:α→D} {b:β→D} [ha:Flat a] [hb:Flat b]:Flat (eT2 a b):=⟨fun v=>by simp[eT2,ha.flat,hb.flat]⟩
instance {α β γ:Type} {a:α→D} {b:β→D} {c:γ→D} [ha:Flat a] [hb:Flat b] [hc:Flat c]:Flat (eT3 a b c):=⟨fun v=>by simp[eT3,ha.flat,hb.flat,hc.flat]⟩
instance {α β γ δ:Type} {a:α→D} {b:β→D} {c:γ→D} {d:δ→D} [ha:Flat a] [hb:Flat b] [hc:Flat c] [hd:Flat d]:Flat (eT4 a b c d):=⟨fun v=>by simp[eT4,ha.flat,hb.flat,hc.flat,hd.flat]⟩
theorem qek {α:Type} {en:α→D} [h:Flat en]:∀xs:List α,D.flats (xs.map en)=true
 |[]=>rfl
 |x::xs=>by simp[h.flat,qek xs]
def qiw {α:Type} (s:Sh) (t:Bool) (en:α→D):Prop:=t=true∨(s=.v∧∀v,(en v).flat=true)∨(s=.f∧∀v ds,en v=.lst ds→D.flats ds=true)
theorem qpB {α:Type} {s:Sh} {en:α→D}:qiw s true en:=.inl rfl
def Sl.rd:Sl→Sl
 |.fxd d _=>.val d false
 |s=>s
def SlV (t:Bool) (d:D) (s:Sl):Prop:=∃f,s.rd=.val d f∧(t=true→f=true)
theorem qjN {s:Sl} {d:D} {f:Bool} (h:s.rd=.val d f):s=.val d f∨(f=false∧∃k,s=.fxd d k):=by
 cases s with
 |fxd d' k=>cases h;exact .inr ⟨rfl,k,rfl⟩
 |val _ _=>exact .inl h
 |own _ _=>cases h
 |non=>cases h
 |slf _ _=>cases h
 |dct _ _=>cases h
 |row _=>cases h
def SlO (t:Bool) (ds:List D) (s:Sl):Prop:=∃f,s=.own ds f∧(t=true→f=true)
theorem SlV.low {t:Bool} {d:D} {s:Sl} (h:SlV t d s):SlV false d s:=by
 obtain⟨f,e,_⟩:=h
 exact⟨f,e,fun e=>nomatch e⟩
theorem SlO.low {t:Bool} {d:List D} {s:Sl} (h:SlO t d s):SlO false d s:=by
 obtain⟨f,e,_⟩:=h
 exact⟨f,e,fun e=>nomatch e⟩
theorem SlV.flat {α:Type} {en:α→D} [h:Flat en] {v:α}:SlV true (en v) (.val (en v) (en v).flat):=⟨_,rfl,fun _=>h.flat v⟩
theorem SlV.any {d:D} {b:Bool}:SlV false d (.val d b):=⟨_,rfl,fun e=>nomatch e⟩
section
variable {Γ:Env} {ρ:List Sl} {α β γ δ ε:Type} {en:α→D} {en2:β→D} {en3:γ→D} {a b c e:Ex} {s s1 s2 s3:Sh} {t t1 t2 t3:Bool} {m:RE α} {x:α} {y:β} {z:γ}
theorem XE.weak {m:RE α} (h:XE Γ e ρ m en s t) (hs:s.nb=true):XE Γ e ρ m en .n t:=XR.mono h fun _ _ k=>k.weak hs
theorem XE.low {m:RE α} (h:XE Γ e ρ m en s t):XE Γ e ρ m en s false:=XR.mono h fun _ _ k=>k.low
theorem XE.coe {x:α} {f:α→β} (h:XE Γ e ρ (.ok x) en s t) (k:∀v,en v=en2 (f v)):XE Γ e ρ (.ok (f x)) en2 s t:=by
 obtain⟨er,q,r⟩:=h
 exact⟨er,q,by rw[←k];exact r.d,r.s,r.t⟩
theorem XE.coeG {m:RE α} {f:α→β} (h:XE Γ e ρ m en s t) (k:∀v,en v=en2 (f v)):XE Γ e ρ (m.bind fun x=>.ok (f x)) en2 s t:=by
 cases m with
 |bad=>trivial
 |ok x=>exact XE.coe h k
 |exc c fs=>exact h
theorem XE.cast {m m':RE α} (h:XE Γ e ρ m en s t) (k:m'=m):XE Γ e ρ m' en s t:=by rw[k];exact h
theorem XE.var {i:Nat} {q:Sl} (h:ρ[i]? = some q) (hs:SlV t (en x) q):XE Γ (.var i) ρ (.ok x) en .v t:=by
 obtain⟨f,e,k⟩:=hs
 rcases qjN e with rfl | ⟨rfl,j,rfl⟩
 ·exact⟨.val (en x) f,by rw[ev,h],rfl,rfl,k⟩
 ·exact⟨.val (en x) false,by rw[ev,h],rfl,rfl,k⟩
theorem XE.varO {i:Nat} {q:Sl} {xs:List α} (h:ρ[i]? = some q) (hs:SlO t (xs.map en) q):XE Γ (.var i) ρ (.ok xs) (eL en) .b t:=by
 obtain⟨f,rfl,k⟩:=hs
 exact⟨.brw (xs.map en) f,by rw[ev,h],rfl,rfl,k⟩
theorem XE.cint {i:Int}:XE Γ (.cint i) ρ (.ok i) eI .v true:=by unfold XE;rw[ev];exact xok rfl
theorem XE.cbl {i:Bool}:XE Γ (.cbl i) ρ (.ok i) eB .v true:=by unfold XE;rw[ev];exact xok rfl
theorem XE.cnon:XE Γ .cnon ρ (.ok ()) eU .v true:=by unfold XE;rw[ev];exact xok rfl
theorem XE.cstr {i:List Nat}:XE Γ (.cstr i) ρ (.ok i) eS .v true:=by unfold XE;rw[ev];exact xok rfl
theorem XE.glo {i:Nat} {nm:PySem.Str} {d:D} (h:Γ.gc[i]? = some (nm,d)) (k:d=en x):XE Γ (.glo i) ρ (.ok x) en .v true:=by unfold XE;rw[ev,h];exact qpM k fun _=>rfl
theorem XE.bin {o:Bop} {m1:RE α} {m2:RE β} {f:α→β→RE γ} (ha:XE Γ a ρ m1 en s1 t1) (hb:XE Γ b ρ m2 en2 s2 t2) (h:∀x y bb,((t1&&t2)=true→bb=true)→XR (evB o (en x) (en2 y) bb) (f x y) fun v er=>Is s t (en3 v) er) :
  XE Γ (.bin o a b) ρ (m1.bind fun x=>m2.bind fun y=>f x y) en3 s t:=by
 unfold XE
 rw[ev]
 exact XR.bind ha fun x ex hx=>XR.bind hb fun y ey hy=>by
  rw[hx.d,hy.d]
  exact h x y _ fun k=>by
   rw[Bool.and_eq_true] at k
   rw[hx.t k.1,hy.t k.2];rfl
theorem XE.binP {o:Bop} {f:RE γ} (ha:XE Γ a ρ (.ok x) en s1 t1) (hb:XE Γ b ρ (.ok y) en2 s2 t2) (h:∀bb,((t1&&t2)=true→bb=true)→XR (evB o (en x) (en2 y) bb) f fun v er=>Is s t (en3 v) er) :
  XE Γ (.bin o a b) ρ f en3 s t:=by
 obtain⟨ex,e1,h1⟩:=ha
 obtain⟨ey,e2,h2⟩:=hb
 unfold XE
 rw[ev,e1,e2]
 simp only[RE.bind_ok]
 rw[h1.d,h2.d]
 exact h _ fun k=>by
  rw[Bool.and_eq_true] at k
  rw[h1.t k.1,h2.t k.2];rfl
theorem xgd {b:Bool} {r:RE ER} {m:RE α} {R:α→ER→Prop} (h:XR r m R):XR (gd b r) (gd b m) R:=by
 cases b
 ·trivial
 ·exact h
theorem qby (x y:Int) (bb:Bool) (_:(t1&&t2)=true→bb=true):XR (evB .add (eI x) (eI y) bb) (.ok (x+y)) fun v er=>Is .v true (eI v) er:=xok rfl
theorem qfe (x y:Int) (bb:Bool) (_:(t1&&t2)=true→bb=true):XR (evB .sub (eI x) (eI y) bb) (.ok (x - y)) fun v er=>Is .v true (eI v) er:=xok rfl
theorem qmA (x y:Int) (h:qmI x y=true) (bb:Bool) (_:(t1&&t2)=true→bb=true):XR (evB .mul (eI x) (eI y) bb) (.ok (x*y)) fun v er=>Is .v true (eI v) er:=by
 show XR (gd (qmI x y) _) _ _
 rw[h];exact xok rfl
theorem qjv {x y:Int} (h:Nat.ble x.natAbs 18446744073709551615=true):qmI x y=true:=by unfold qmI;rw[h];rfl
def qix (x y:Int):RE Int:=gd (qmI x y) (.ok (x*y))
theorem qii (x y:Int) (bb:Bool) (_:(t1&&t2)=true→bb=true):XR (evB .mul (eI x) (eI y) bb) (qix x y) fun v er=>Is .v true (eI v) er:=xgd (xok rfl)
def qks (x y:Int):RE Int:=gd (qnG y) (.ok (x.fdiv y))
theorem qlV (x y:Int) (bb:Bool) (_:(t1&&t2)=true→bb=true):XR (evB .fdv (eI x) (eI y) bb) (qks x y) fun v er=>Is .v true (eI v) er:=xgd (xok rfl)
theorem qmK (x y:Int) (h:qnG y=true) (bb:Bool) (_:(t1&&t2)=true→bb=true):XR (evB .fdv (eI x) (eI y) bb) (.ok (x.fdiv y)) fun v er=>Is .v true (eI v) er:=by
 show XR (gd (qnG y) _) _ _
 rw[h];exact xok rfl
def qgF (x y:Int):RE Int:=gd (nzB y) (.ok (x.fmod y))
theorem qf2 (x y:Int) (bb:Bool) (_:(t1&&t2)=true→bb=true):XR (evB .mdl (eI x) (eI y) bb) (qgF x y) fun v er=>Is .v true (eI v) er:=xgd (xok rfl)
theorem qbB (x y:Int) (h:nzB y=true) (bb:Bool) (_:(t1&&t2)=true→bb=true):XR (evB .mdl (eI x) (eI y) bb) (.ok (x.fmod y)) fun v er=>Is .v true (eI v) er:=by
 show XR (gd (nzB y) _) _ _
 rw[h];exact xok rfl
def qoZ (x y:Int):RE Int:=gd (qoh x y) (.ok (x ^ y.toNat))
theorem qp9 (x y:Int) (bb:Bool) (_:(t1&&t2)=true→bb=true):XR (evB .pow (eI x) (eI y) bb) (qoZ x y) fun v er=>Is .v true (eI v) er:=xgd (xok rfl)
def qrV (x y:Int):RE Int:=gd (qoh x y) (.ok (x*2 ^ y.toNat))
def qsQ (x y:Int):RE Int:=gd (nnB y) (.ok (x / 2 ^ y.toNat))
def qsq (x y:List Nat):RE (List Nat):=gd (leB (x.length+y.length)) (.ok (x++y))
def qcE (x y:List α):RE (List α):=gd (leB (x.length+y.length)) (.ok (x++y))
theorem qcM (x y:List α) (bb:Bool) (h:(t1&&t2)=true→bb=true):XR (evB .add (eL en x) (eL en y) bb) (qcE x y) fun v er=>Is .f (t1&&t2) (eL en v) er:=by
 show XR (gd (leB ((x.map en).length+(y.map en).length)) _) (gd _ _) _
 rw[List.length_map,List.length_map]
 exact xgd (qiv (by simp[eL]) h)
def qsP (x:List α) (k:Int):RE (List α):=gd (qqO x.length k) (.ok (List.replicate k.toNat x).flatten)
theorem XE.cmp {o:Cop} {m1:RE α} {m2:RE β} {f:α→β→RE Bool} (ha:XE Γ a ρ m1 en s1 t1) (hb:XE Γ b ρ m2 en2 s2 t2) (h:∀x y,evC o (en x) (en2 y)=f x y):XE Γ (.cmp o a b) ρ (m1.bind fun x=>m2.bind fun y=>f x y) eB .v true:=by
 unfold XE
 rw[ev]
 exact XR.bind ha fun x ex hx=>XR.bind hb fun y ey hy=>by
  rw[hx.d,hy.d,h]
  cases f x y with
  |bad=>trivial
  |ok v=>exact xok rfl
  |exc c fs=>rfl
theorem XE.cmpP {o:Cop} {f:RE Bool} (ha:XE Γ a ρ (.ok x) en s1 t1) (hb:XE Γ b ρ (.ok y) en2 s2 t2) (h:evC o (en x) (en2 y)=f):XE Γ (.cmp o a b) ρ f eB .v true:=by
 have:=XE.cmp (o:=o) ha hb (f:=fun x y=>evC o (en x) (en2 y)) (fun _ _=>rfl)
 rw[←h];exact this
theorem qil (x y:Int):evC .eq (eI x) (eI y)=.ok (decide (x=y)):=rfl
theorem qq9 (x y:Int):evC .lt (eI x) (eI y)=.ok (decide (x<y)):=rfl
theorem qqw (x y:Int):evC .le (eI x) (eI y)=.ok (decide (x≤y)):=rfl
theorem qnK (x y:Int):evC .gt (eI x) (eI y)=.ok (decide (y<x)):=rfl
theorem qrm (x y:Int):evC .ge (eI x) (eI y)=.ok (decide (y≤x)):=rfl
theorem qmH (x y:List Int):evC .ne (eL eI x) (eL eI y)=.ok (!decide (x=y)):=by
 show(qiu (eL eI x) (eL eI y)).bind _=_
 rw[show qiu (eL eI x) (eL eI y)=.ok (decide (x=y)) from qmY x y];rfl
theorem eq_nil {xs:List α}:D.eqb (.lst (xs.map en)) (.lst [])=xs.isEmpty:=by cases xs<;>rfl
def qsI (d:D) {α:Type} (r:RE α):RE α:=gd (d.fit 64) r
theorem XE.chn {o p:Cop} {m1:RE α} {m2:RE β} {m3:RE γ} {f:α→β→Bool} {g:β→γ→Bool} (ha:XE Γ a ρ m1 en s1 t1) (hb:XE Γ b ρ m2 en2 s2 t2) (hc:XE Γ c ρ m3 en3 s3 t3) (h:∀x y,evC o (en x) (en2 y)=.ok (f x y)) (k:∀x y,evC p (en2 x) (en3 y)=.ok (g x y)) :
  XE Γ (.chn o p a b c) ρ (m1.bind fun x=>m2.bind fun y=>if f x y=true then m3.bind fun z=>.ok (g y z) else .ok false) eB .v true:=by
 unfold XE
 rw[ev]
 refine XR.bind ha fun x ex hx=>XR.bind hb fun y ey hy=>?_
 ·rw[hx.d,hy.d,h]
  simp only[RE.bind_ok]
  cases f x y with
  |false=>exact xok rfl
  |true=>exact XR.bind hc fun z ez hz=>(by rw[hz.d,k];exact xok rfl)
theorem XE.chnP {o p:Cop} {f g:Bool} (ha:XE Γ a ρ (.ok x) en s1 t1) (hb:XE Γ b ρ (.ok y) en2 s2 t2) (hc:XE Γ c ρ (.ok z) en3 s3 t3) (h:evC o (en x) (en2 y)=.ok f) (k:evC p (en2 y) (en3 z)=.ok g) :
  XE Γ (.chn o p a b c) ρ (.ok (f&&g)) eB .v true:=by
 obtain⟨ex,e1,h1⟩:=ha
 obtain⟨ey,e2,h2⟩:=hb
 obtain⟨ez,e3,h3⟩:=hc
 unfold XE
 rw[ev,e1,e2]
 simp only[RE.bind_ok]
 rw[h1.d,h2.d,h]
 simp only[RE.bind_ok]
 cases f with
 |false=>exact xok rfl
 |true =>
  simp only[if_true,e3,RE.bind_ok]
  rw[h3.d,k]
  exact xok rfl
theorem XE.isN {x:Option α} (h:XE Γ a ρ (.ok x) (eO en) s1 t1) (k:∀v,(en v).isNon=false):XE Γ (.isN a) ρ (.ok x.isNone) eB .v true:=by
 obtain⟨ex,e1,h1⟩:=h
 unfold XE
 rw[ev,e1]
 simp only[RE.bind_ok]
 rw[h1.d]
 refine xok ?_
 cases x with
 |none=>rfl
 |some v=>show D.bl (en v).isNon=_;rw[k];rfl
theorem XE.notN {x:Option α} (h:XE Γ a ρ (.ok x) (eO en) s1 t1) (k:∀v,(en v).isNon=false):XE Γ (.notN a) ρ (.ok x.isSome) eB .v true:=by
 obtain⟨ex,e1,h1⟩:=h
 unfold XE
 rw[ev,e1]
 simp only[RE.bind_ok]
 rw[h1.d]
 refine xok ?_
 cases x with
 |none=>rfl
 |some v=>show D.bl (!(en v).isNon)=_;rw[k];rfl
def unO:Option α→RE α
 |none=>.bad
 |some x=>.ok x
theorem XE.unO {x:Option α} (h:XE Γ e ρ (.ok x) (eO en) s t):XE Γ e ρ (unO x) en s t:=by
 cases x with
 |none=>trivial
 |some v=>exact h
abbrev XV (Γ:Env) (c:Bool) (es:Exs) (ρ:List Sl) (m:RE Bool):Prop:=XR (qi3 Γ c es ρ) m fun v er=>Is .v true (eB v) er
abbrev XTs (Γ:Env) (c:Bool) (es:Tes) (ρ:List Sl) (m:RE Bool):Prop:=XR (qfw Γ c es ρ) m fun v x=>x=v
theorem XV.one {es:Ex} {c:Bool} {m:RE Bool} (h:XE Γ es ρ m eB s t):XV Γ c (.cons es .nil) ρ m:=by
 unfold XV
 rw[qi3]
 have:m=m.bind fun k=>.ok k:=by cases m<;>rfl
 rw[this]
 exact XR.bind h fun v er k=>by
  rw[k.d]
  simp only[qi3]
  split
  ·subst_vars;exact xok rfl
  ·exact xok rfl
theorem XV.and {e:Ex} {es:Exs} {m1 m2:RE Bool} (h:XE Γ e ρ m1 eB s t) (k:XV Γ true es ρ m2):XV Γ true (.cons e es) ρ (m1.bind fun x=>if x=true then m2 else .ok false):=by
 unfold XV
 rw[qi3]
 exact XR.bind h fun v er q=>by
  rw[q.d]
  cases v with
  |true=>exact k
  |false=>exact xok rfl
theorem XV.or {e:Ex} {es:Exs} {m1 m2:RE Bool} (h:XE Γ e ρ m1 eB s t) (k:XV Γ false es ρ m2):XV Γ false (.cons e es) ρ (m1.bind fun x=>if x=true then .ok true else m2):=by
 unfold XV
 rw[qi3]
 exact XR.bind h fun v er q=>by
  rw[q.d]
  cases v with
  |true=>exact xok rfl
  |false=>exact k
theorem XV.andP {e:Ex} {es:Exs} {x y:Bool} (h:XE Γ e ρ (.ok x) eB s t) (k:XV Γ true es ρ (.ok y)):XV Γ true (.cons e es) ρ (.ok (x&&y)):=by
 have:=XV.and h k
 cases x<;>exact this
theorem XV.orP {e:Ex} {es:Exs} {x y:Bool} (h:XE Γ e ρ (.ok x) eB s t) (k:XV Γ false es ρ (.ok y)):XV Γ false (.cons e es) ρ (.ok (x||y)):=by
 have:=XV.or h k
 cases x<;>exact this
theorem XE.bop {c:Bool} {es:Exs} {m:RE Bool} (h:XV Γ c es ρ m):XE Γ (.bop c es) ρ m eB .v true:=by unfold XE;rw[ev];exact h
class Tru {α:Type} (en:α→D) (f:outParam (α→Bool)):Prop where
 tru:∀v,qdv (en v)=.ok (f v)
instance:Tru eB id:=⟨fun _=>rfl⟩
instance:Tru eI (fun i=>i != 0):=⟨fun _=>rfl⟩
instance {α:Type} {en:α→D}:Tru (eL en) (fun xs=>!xs.isEmpty):=⟨fun v=>by cases v<;>rfl⟩
theorem XE.bnot {m:RE Bool} (h:XE Γ a ρ m eB s t):XE Γ (.bnot a) ρ (m.bind fun x=>.ok (!x)) eB .v true:=by
 unfold XE;rw[ev]
 exact XR.bind h fun v er k=>by rw[k.d];exact xok rfl
theorem XE.bnotP {x:Bool} (h:XE Γ a ρ (.ok x) eB s t):XE Γ (.bnot a) ρ (.ok (!x)) eB .v true:=XE.bnot h
theorem XE.neg {m:RE Int} (h:XE Γ a ρ m eI s t):XE Γ (.neg a) ρ (m.bind fun x=>.ok (-x)) eI .v true:=by
 unfold XE;rw[ev]
 exact XR.bind h fun v er k=>by rw[k.d];exact xok rfl
theorem XE.negP {x:Int} (h:XE Γ a ρ (.ok x) eI s t):XE Γ (.neg a) ρ (.ok (-x)) eI .v true:=XE.neg h
theorem XE.ife {ct:Te} {mt:RE Bool} {m1 m2:RE α} (h:XT Γ ct ρ mt) (ha:XE Γ a ρ m1 en s t) (hb:XE Γ b ρ m2 en s t):XE Γ (.ife ct a b) ρ (mt.bind fun k=>if k=true then m1 else m2) en s t:=by
 unfold XE;rw[ev]
 exact XR.bind h fun v er k=>by
  subst k
  cases er
  ·exact hb
  ·exact ha
theorem XT.val {m:RE Bool} (h:XE Γ a ρ m eB s t):XT Γ (.val a) ρ m:=by
 unfold XT;rw[evT]
 have:m=m.bind fun k=>.ok k:=by cases m<;>rfl
 rw[this]
 exact XR.bind h fun v er k=>by rw[k.d];exact⟨_,rfl,rfl⟩
theorem XT.not {q:Te} {m:RE Bool} (h:XT Γ q ρ m):XT Γ (.not q) ρ (m.bind fun x=>.ok (!x)):=by
 unfold XT;rw[evT]
 exact XR.bind h fun v er k=>by subst k;exact⟨_,rfl,rfl⟩
theorem XT.notP {q:Te} {x:Bool} (h:XT Γ q ρ (.ok x)):XT Γ (.not q) ρ (.ok (!x)):=XT.not h
theorem XTs.one {q:Te} {c:Bool} {m:RE Bool} (h:XT Γ q ρ m):XTs Γ c (.cons q .nil) ρ m:=by
 unfold XTs;rw[qfw]
 have:m=m.bind fun k=>.ok k:=by cases m<;>rfl
 rw[this]
 exact XR.bind h fun v er k=>by
  subst k
  simp only[qfw]
  split
  ·subst_vars;exact⟨_,rfl,rfl⟩
  ·exact⟨_,rfl,rfl⟩
theorem XTs.and {q:Te} {es:Tes} {m1 m2:RE Bool} (h:XT Γ q ρ m1) (k:XTs Γ true es ρ m2):XTs Γ true (.cons q es) ρ (m1.bind fun x=>if x=true then m2 else .ok false):=by
 unfold XTs;rw[qfw]
 exact XR.bind h fun v er q=>by
  subst q
  cases er
  ·exact⟨_,rfl,rfl⟩
  ·exact k
theorem XTs.or {q:Te} {es:Tes} {m1 m2:RE Bool} (h:XT Γ q ρ m1) (k:XTs Γ false es ρ m2):XTs Γ false (.cons q es) ρ (m1.bind fun x=>if x=true then .ok true else m2):=by
 unfold XTs;rw[qfw]
 exact XR.bind h fun v er q=>by
  subst q
  cases er
  ·exact k
  ·exact⟨_,rfl,rfl⟩
theorem XTs.andP {q:Te} {es:Tes} {x y:Bool} (h:XT Γ q ρ (.ok x)) (k:XTs Γ true es ρ (.ok y)):XTs Γ true (.cons q es) ρ (.ok (x&&y)):=by
 have:=XTs.and h k
 cases x<;>exact this
theorem XTs.orP {q:Te} {es:Tes} {x y:Bool} (h:XT Γ q ρ (.ok x)) (k:XTs Γ false es ρ (.ok y)):XTs Γ false (.cons q es) ρ (.ok (x||y)):=by
 have:=XTs.or h k
 cases x<;>exact this
theorem XT.bop {c:Bool} {es:Tes} {m:RE Bool} (h:XTs Γ c es ρ m):XT Γ (.bop c es) ρ m:=by unfold XT;rw[evT];exact h
def atE (xs:List α) (k:Int):RE α:=match L2.atI xs k with
 |some x=>.ok x
 |none=>.bad
theorem qj0 (f:α→β) (xs:List α) (k:Int):L2.atI (xs.map f) k=(L2.atI xs k).map f:=by
 unfold L2.atI
 rw[List.length_map]
 cases L2.ixN xs.length k<;>simp
theorem XE.idx {m1:RE (List α)} {m2:RE Int} (ha:XE Γ a ρ m1 (eL en) s1 t) (hb:XE Γ b ρ m2 eI s2 t2):XE Γ (.idx a b) ρ (m1.bind fun xs=>m2.bind fun k=>atE xs k) en .v t:=by
 unfold XE;rw[ev]
 exact XR.bind ha fun xs ex hx=>XR.bind hb fun k ek hk=>by
  rw[hx.d,hk.d]
  show XR (match L2.atI (xs.map en) k with
   |some x=>RE.ok (ER.val x (ex.b||x.flat))
   |none=>.bad) _ _
  rw[qj0]
  unfold atE
  cases L2.atI xs k with
  |none=>trivial
  |some x=>exact⟨_,rfl,rfl,rfl,fun z=>by show(_||_)=true;rw[hx.t z];rfl⟩
theorem XE.idxP {xs:List α} {k:Int} (ha:XE Γ a ρ (.ok xs) (eL en) s1 t) (hb:XE Γ b ρ (.ok k) eI s2 t2):XE Γ (.idx a b) ρ (atE xs k) en .v t:=XE.idx ha hb
theorem XE.flat [h:Flat en] {m:RE α} (k:XE Γ e ρ m en .v t) (q:∀x b,ev Γ e ρ=.ok (.val (en x) b)→b=true):XE Γ e ρ m en .v true:=by
 cases m with
 |bad=>trivial
 |ok x =>
  obtain⟨er,e1,e2⟩:=k
  refine⟨er,e1,e2.d,e2.s,fun _=>?_⟩
  cases er with
  |val d b =>
   have:=e2.d
   simp only[ER.d_val] at this
   subst this
   exact q _ _ e1
  |fre ds b=>exact nomatch e2.s
  |brw ds b=>exact nomatch e2.s
 |exc c fs=>exact k
theorem XE.idxF [h:Flat en] {m1:RE (List α)} {m2:RE Int} (ha:XE Γ a ρ m1 (eL en) s1 t) (hb:XE Γ b ρ m2 eI s2 t2):XE Γ (.idx a b) ρ (m1.bind fun xs=>m2.bind fun k=>atE xs k) en .v true:=by
 unfold XE;rw[ev]
 exact XR.bind ha fun xs ex hx=>XR.bind hb fun k ek hk=>by
  rw[hx.d,hk.d]
  show XR (match L2.atI (xs.map en) k with
   |some x=>RE.ok (ER.val x (ex.b||x.flat))
   |none=>.bad) _ _
  rw[qj0]
  unfold atE
  cases L2.atI xs k with
  |none=>trivial
  |some x=>exact⟨_,rfl,rfl,rfl,fun z=>by show(_||(en x).flat)=true;rw[h.flat x];simp⟩
theorem XE.idxFP [h:Flat en] {xs:List α} {k:Int} (ha:XE Γ a ρ (.ok xs) (eL en) s1 t) (hb:XE Γ b ρ (.ok k) eI s2 t2):XE Γ (.idx a b) ρ (atE xs k) en .v true:=XE.idxF ha hb
def qr8 (xs:List Nat) (k:Int):RE Nat:=gd (leB xs.length) (atE xs k)
theorem XE.prt {k:Int} {f:α→β} {m1:RE α} (ha:XE Γ a ρ m1 en s1 t) (h:∀v b,qot (en v) (.int k) b=.ok (.val (en2 (f v)) (b||(en2 (f v)).flat))) (ht:t2=true→t=true∨Flat en2):XE Γ (.idx a (.cint k)) ρ (m1.bind fun x=>.ok (f x)) en2 .v t2:=by
 unfold XE;rw[ev]
 exact XR.bind ha fun x ex hx=>by
  rw[hx.d,ev]
  simp only[RE.bind_ok,ok,ER.d_val]
  rw[h]
  refine qpM rfl fun z=>?_
  rcases ht z with q | q
  ·rw[hx.t q];rfl
  ·rw[q.flat];simp
theorem XE.prtP {k:Int} {f:α→β} (ha:XE Γ a ρ (.ok x) en s1 t) (h:∀v b,qot (en v) (.int k) b=.ok (.val (en2 (f v)) (b||(en2 (f v)).flat))) (ht:t2=true→t=true∨Flat en2):XE Γ (.idx a (.cint k)) ρ (.ok (f x)) en2 .v t2:=XE.prt ha h ht
theorem qkZ (f:α→β) (xs:List α) (lo hi:Option Int):qcq (xs.map f) lo hi=(qcq xs lo hi).map f:=by
 unfold qcq
 rw[List.length_map,List.map_take,List.map_drop]
abbrev XO (Γ:Env) (es:Exs) (ρ:List Sl) (m:RE (Option Int)):Prop:=XR (evO Γ es ρ) m fun v x=>x=v
theorem XO.nil:XO Γ .nil ρ (.ok none):=by unfold XO;rw[evO];exact⟨_,rfl,rfl⟩
theorem XO.one {m:RE Int} (h:XE Γ a ρ m eI s t):XO Γ (.cons a .nil) ρ (m.bind fun k=>.ok (some k)):=by
 unfold XO;rw[evO]
 exact XR.bind h fun v er k=>by rw[k.d];exact⟨_,rfl,rfl⟩
theorem XO.oneP {k:Int} (h:XE Γ a ρ (.ok k) eI s t):XO Γ (.cons a .nil) ρ (.ok (some k)):=XO.one h
theorem XE.slc {m1:RE (List α)} {lo hi:Exs} {m2 m3:RE (Option Int)} (ha:XE Γ a ρ m1 (eL en) s1 t) (hb:XO Γ lo ρ m2) (hc:XO Γ hi ρ m3):XE Γ (.slc a lo hi) ρ (m1.bind fun xs=>m2.bind fun l=>m3.bind fun h=>.ok (qcq xs l h)) (eL en) .f t:=by
 unfold XE;rw[ev]
 exact XR.bind ha fun xs ex hx=>XR.bind hb fun l el hl=>XR.bind hc fun h eh hh=>by
  subst hl;subst hh
  rw[hx.d]
  exact qiv (by rw[qkZ];rfl) hx.t
theorem XE.slcP {xs:List α} {lo hi:Exs} {l h:Option Int} (ha:XE Γ a ρ (.ok xs) (eL en) s1 t) (hb:XO Γ lo ρ (.ok l)) (hc:XO Γ hi ρ (.ok h)):XE Γ (.slc a lo hi) ρ (.ok (qcq xs l h)) (eL en) .f t:=XE.slc ha hb hc
def qsF (xs:List Nat) (l h:Option Int):RE (List Nat):=gd (leB xs.length) (.ok (qcq xs l h))
theorem XE.rev {m1:RE (List α)} (ha:XE Γ a ρ m1 (eL en) s1 t):XE Γ (.rev a) ρ (m1.bind fun xs=>.ok xs.reverse) (eL en) .f t:=by
 unfold XE;rw[ev]
 exact XR.bind ha fun xs ex hx=>by
  rw[hx.d]
  exact qiv (by simp[eL]) hx.t
theorem XE.blen {m1:RE Int} (ha:XE Γ a ρ m1 eI s1 t):XE Γ (.blen a) ρ (m1.bind fun x=>.ok (PySem.Builtin.Int.intBits x:Int)) eI .v true:=by
 unfold XE;rw[ev]
 exact XR.bind ha fun xs ex hx=>by rw[hx.d];exact xok rfl
theorem XE.isi {ty:Ty} {f:α→Bool} {m1:RE α} (ha:XE Γ a ρ m1 en s1 t) (h:∀v,qo4 (en v) ty=ok (.bl (f v))):XE Γ (.isi a ty) ρ (m1.bind fun x=>.ok (f x)) eB .v true:=by
 unfold XE;rw[ev]
 exact XR.bind ha fun xs ex hx=>by rw[hx.d,h];exact xok rfl
theorem XE.isiP {ty:Ty} {f:α→Bool} (ha:XE Γ a ρ (.ok x) en s1 t) (h:∀v,qo4 (en v) ty=ok (.bl (f v))):XE Γ (.isi a ty) ρ (.ok (f x)) eB .v true:=XE.isi ha h
def tyE (d:D) (ty:Ty):RE Bool:=(qo4 d ty).bind fun x=>match x.d with
 |.bl b=>.ok b
 |_=>.bad
theorem qn3 (Γ:Env) (ρ:List Sl) (a:Ex):evs Γ (.cons a .nil) ρ=(ev Γ a ρ).bind fun x=>.ok [x.frz]:=by
 rw[evs,evs];rfl
theorem qds (x:ER):x.frz.d=x.d:=by cases x<;>rfl
theorem qj5 (x:ER):x.frz.b=x.b:=by cases x<;>rfl
theorem XE.pri1 {p:Pri} {m1:RE α} {f:α→RE β} (ha:XE Γ a ρ m1 en s1 t1) (h:∀x e,e.d=en x→(t1=true→e.b=true)→XR (evP p [e]) (f x) fun v er=>Is s t (en2 v) er):XE Γ (.pri p (.cons a .nil)) ρ (m1.bind f) en2 s t:=by
 unfold XE;rw[ev,qn3,RE.bind_assoc]
 exact XR.bind ha fun x ex hx=>h x _ (by rw[qds,hx.d]) fun z=>by rw[qj5];exact hx.t z
theorem XE.pri1P {p:Pri} {f:RE β} (ha:XE Γ a ρ (.ok x) en s1 t1) (h:∀e,e.d=en x→(t1=true→e.b=true)→XR (evP p [e]) f fun v er=>Is s t (en2 v) er):XE Γ (.pri p (.cons a .nil)) ρ f en2 s t:=by
 obtain⟨er,e1,e2⟩:=ha
 unfold XE;rw[ev,qn3,e1]
 simp only[RE.bind_ok]
 exact h _ (by rw[qds,e2.d]) fun z=>by rw[qj5];exact e2.t z
theorem XE.pri2 {p:Pri} {m1:RE α} {m2:RE β} {f:α→β→RE γ} (ha:XE Γ a ρ m1 en s1 t1) (hb:XE Γ b ρ m2 en2 s2 t2) (h:∀x y e e',e.d=en x→e'.d=en2 y→XR (evP p [e,e']) (f x y) fun v er=>Is s t (en3 v) er):XE Γ (.pri p (.cons a (.cons b .nil))) ρ (m1.bind fun x=>m2.bind fun y=>f x y) en3 s t:=by
 unfold XE;rw[ev,evs,qn3,RE.bind_assoc]
 exact XR.bind ha fun x ex hx=>by
  rw[RE.bind_assoc,RE.bind_assoc]
  exact XR.bind hb fun y ey hy=>h x y _ _ (by rw[qds,hx.d]) (by rw[qds,hy.d])
theorem qfz (x:List α) (e:ER) (h:e.d=eL en x) (_:t=true→e.b=true):XR (evP .len [e]) (.ok (x.length:Int)) fun v er=>Is .v true (eI v) er:=by
 simp only[evP,h,eL,List.length_map];exact xok rfl
def qph (x:List Nat):RE Int:=gd (leB x.length) (.ok (x.length:Int))
theorem qpg (x y:Int) (e e':ER) (h:e.d=eI x) (h':e'.d=eI y):XR (evP .min2 [e,e']) (.ok (if y<x then y else x)) fun v er=>Is .v true (eI v) er:=by
 simp only[evP,h,h'];exact xok rfl
def qsJ (x y:Int):RE (Int × Int):=gd (dmB y) (.ok (x / y,x % y))
def qsD (x:List Int):RE Int:=match x with
 |[]=>.bad
 |n::ns=>.ok (qh4 (n::ns))
def qq2 (x:List Int):RE Int:=match x with
 |[]=>.bad
 |n::ns=>.ok (qib (n::ns))
theorem qkQ (x:List Int) (e:ER) (h:e.d=eL eI x) (_:t=true→e.b=true):XR (evP .sorted [e]) (.ok (qbZ x)) fun v er=>Is .f true (eL eI v) er:=by
 simp only[evP,h,eL,qaY];exact qiv rfl fun _=>rfl
theorem qeQ:∀bs:List Bool,qdk (bs.map D.bl)=some bs
 |[]=>rfl
 |b::bs=>by simp[qdk,qeQ bs]
theorem qeE:∀bs:List (List Nat),qcV (bs.map D.str)=some bs
 |[]=>rfl
 |b::bs=>by simp[qcV,qeE bs]
theorem qry (x:List Bool) (e:ER) (h:e.d=eL eB x) (_:t=true→e.b=true):XR (evP .any [e]) (.ok (x.any id)) fun v er=>Is .v true (eB v) er:=by
 simp only[evP,h,eL,qeQ];exact xok rfl
theorem qcx [hf:Flat en] (x:List α) (e:ER) (h:e.d=eL en x) (k:t=true→e.b=true):XR (evP .list [e]) (.ok x) fun v er=>Is .f true (eL en v) er:=by
 simp only[evP,h,eL];exact qiv rfl fun _=>by rw[qek];simp
def qq1 (s:List Nat):RE Int:=match PySem.intText? (qar s) with
 |some n=>gd (Nat.ble s.length 640) (.ok n)
 |none=>.bad
def qsi (i:Int):RE (List Nat):=gd (qqM i) (.ok (toString i:PySem.Str).cps.toList)
def qa2 (n:Int):RE (List Int):=gd (qit n) (.ok (qcD 0 1 n.toNat))
def qf4 (i j:Int):RE (List Int):=gd (qo5 i j) (.ok (qcD i 1 (j - i).toNat))
def qrp (i j c:Int):RE (List Int):=gd (qqN i j c) (.ok (qcD i c (qo1 i j c)))
abbrev XRg (Γ:Env) (es:Exs) (ρ:List Sl) (m:RE (List Int)):Prop:=XR ((evs Γ es ρ).bind qcp) m fun v x=>x=v
theorem qqY {α:Type} {b:Bool} {x:α}:XR (gd b (.ok x)) (gd b (.ok x)) fun v y=>y=v:=by
 cases b
 ·trivial
 ·exact⟨_,rfl,rfl⟩
theorem XRg.r1 {m1:RE Int} (ha:XE Γ a ρ m1 eI s1 t1):XRg Γ (.cons a .nil) ρ (m1.bind qa2):=by
 unfold XRg;rw[qn3,RE.bind_assoc]
 exact XR.bind ha fun x ex hx=>by
  simp only[RE.bind_ok,qcp,qds,hx.d];exact qqY
theorem XRg.r2 {m1 m2:RE Int} (ha:XE Γ a ρ m1 eI s1 t1) (hb:XE Γ b ρ m2 eI s2 t2):XRg Γ (.cons a (.cons b .nil)) ρ (m1.bind fun x=>m2.bind fun y=>qf4 x y):=by
 unfold XRg;rw[evs,qn3,RE.bind_assoc]
 exact XR.bind ha fun x ex hx=>by
  rw[RE.bind_assoc,RE.bind_assoc]
  exact XR.bind hb fun y ey hy=>by
   simp only[RE.bind_ok,qcp,qds,hx.d,hy.d];exact qqY
theorem XRg.r3 {m1 m2 m3:RE Int} (ha:XE Γ a ρ m1 eI s1 t1) (hb:XE Γ b ρ m2 eI s2 t2) (hc:XE Γ c ρ m3 eI s3 t3):XRg Γ (.cons a (.cons b (.cons c .nil))) ρ (m1.bind fun x=>m2.bind fun y=>m3.bind fun z=>qrp x y z):=by
 unfold XRg;rw[evs,evs,qn3,RE.bind_assoc]
 exact XR.bind ha fun x ex hx=>by
  simp only[RE.bind_assoc]
  exact XR.bind hb fun y ey hy=>XR.bind hc fun z ez hz=>by
   simp only[RE.bind_ok,qcp,qds,hx.d,hy.d,hz.d];exact qqY
theorem XRg.r1P {x:Int} (ha:XE Γ a ρ (.ok x) eI s1 t1):XRg Γ (.cons a .nil) ρ (qa2 x):=XRg.r1 ha
theorem XRg.r2P {x y:Int} (ha:XE Γ a ρ (.ok x) eI s1 t1) (hb:XE Γ b ρ (.ok y) eI s2 t2):XRg Γ (.cons a (.cons b .nil)) ρ (qf4 x y):=XRg.r2 ha hb
theorem XE.lrng {es:Exs} {m1:RE (List Int)} (h:XRg Γ es ρ m1):XE Γ (.lrng es) ρ m1 (eL eI) .f true:=by
 unfold XE;rw[ev]
 have e:m1=m1.bind fun k=>.ok k:=by cases m1<;>rfl
 rw[e,←RE.bind_assoc]
 exact XR.bind h fun v x k=>by subst k;exact qiv rfl fun _=>rfl
theorem XI.list {m1:RE (List α)} (h:XE Γ a ρ m1 (eL en) s t) (hs:s.nb=true):XI Γ (.any a) ρ m1 en t false:=by
 unfold XI;rw[evI]
 have e:m1=m1.bind fun k=>.ok k:=by cases m1<;>rfl
 rw[e]
 exact XR.bind h fun v er k=>by
  simp only[qgb,k.d,eL]
  refine⟨_,rfl,rfl,k.t,fun _=>?_⟩
  have:=k.s
  cases s<;>cases er<;>simp_all[qfh,ER.isF,Sh.nb]
theorem XI.str {m1:RE (List Nat)} (h:XE Γ a ρ m1 eS s t):XI Γ (.any a) ρ m1 eC true false:=by
 unfold XI;rw[evI]
 have e:m1=m1.bind fun k=>.ok k:=by cases m1<;>rfl
 rw[e]
 exact XR.bind h fun v er k=>by
  simp only[qgb,k.d]
  exact⟨_,rfl,rfl,fun _=>rfl,fun _=>rfl⟩
theorem XI.tup {m1:RE α} {f:α→List β} (h:XE Γ a ρ m1 en s t) (k:∀v,en v=.tup ((f v).map en2)):XI Γ (.any a) ρ (m1.bind fun x=>.ok (f x)) en2 t false:=by
 unfold XI;rw[evI]
 exact XR.bind h fun v er q=>by
  simp only[qgb,q.d,k]
  exact⟨_,rfl,rfl,q.t,fun _=>rfl⟩
theorem XI.rng {es:Exs} {m1:RE (List Int)} (h:XRg Γ es ρ m1):XI Γ (.rng es) ρ m1 eI true false:=by
 unfold XI;rw[evI]
 have e:m1=m1.bind fun k=>.ok k:=by cases m1<;>rfl
 rw[e,←RE.bind_assoc]
 exact XR.bind h fun v x k=>by subst k;exact⟨_,rfl,rfl,fun _=>rfl,fun _=>rfl⟩
theorem zip_map' (f:α→D) (g:β→D):∀(xs:List α) (ys:List β),List.zipWith (fun u v=>D.tup [u,v]) (xs.map f) (ys.map g)=(xs.zip ys).map (eT2 f g)
 |[],_=>rfl
 |_::_,[]=>rfl
 |x::xs,y::ys=>by simp[zip_map' f g xs ys,eT2]
theorem XI.zp {m1:RE (List α)} {m2:RE (List β)} (ha:XE Γ a ρ m1 (eL en) s1 t1) (hb:XE Γ b ρ m2 (eL en2) s2 t2):XI Γ (.zp a b) ρ (m1.bind fun xs=>m2.bind fun ys=>.ok (xs.zip ys)) (eT2 en en2) (t1&&t2) (!(s1.nb&&s2.nb)):=by
 unfold XI;rw[evI]
 exact XR.bind ha fun x ex hx=>XR.bind hb fun y ey hy=>by
  simp only[hx.d,hy.d,eL]
  refine⟨_,rfl,zip_map' _ _ _ _,fun z=>?_,fun z=>?_⟩
  ·rw[Bool.and_eq_true] at z
   show(_&&_)=true
   rw[hx.t z.1,hy.t z.2];rfl
  ·have h1:=hx.s
   have h2:=hy.s
   show(_||_)=false
   cases s1<;>cases s2<;>cases ex<;>cases ey<;>simp_all[qfh,ER.isF,Sh.nb]
def qf5 (xs:List α):List (Int × α):=xs.zipIdx.map fun p=>((p.2:Int),p.1)
theorem qeb (f:α→D):∀(xs:List α) (k:Nat),((xs.map f).zipIdx k).map (fun p=>D.tup [.int p.2,p.1])=((xs.zipIdx k).map fun p=>((p.2:Int),p.1)).map (eT2 eI f)
 |[],_=>rfl
 |x::xs,k=>by simp[qeb f xs (k+1),eT2]
theorem XI.enum {m1:RE (List α)} (ha:XE Γ a ρ m1 (eL en) s1 t1):XI Γ (.en a) ρ (m1.bind fun xs=>.ok (qf5 xs)) (eT2 eI en) t1 (!s1.nb):=by
 unfold XI;rw[evI]
 exact XR.bind ha fun x ex hx=>by
  simp only[hx.d,eL]
  refine⟨_,rfl,qeb _ _ 0,hx.t,fun z=>?_⟩
  have h1:=hx.s
  show ex.isB=false
  cases s1<;>cases ex<;>simp_all[qfh,ER.isF,Sh.nb]
theorem XI.enumP {x:List α} (ha:XE Γ a ρ (.ok x) (eL en) s1 t1):XI Γ (.en a) ρ (.ok (qf5 x)) (eT2 eI en) t1 (!s1.nb):=XI.enum ha
theorem XI.rv {m1:RE (List α)} (ha:XE Γ a ρ m1 (eL en) s1 t1):XI Γ (.rv a) ρ (m1.bind fun xs=>.ok xs.reverse) en t1 (!s1.nb):=by
 unfold XI;rw[evI]
 exact XR.bind ha fun x ex hx=>by
  simp only[hx.d,eL]
  refine⟨_,rfl,by simp,hx.t,fun z=>?_⟩
  have h1:=hx.s
  show ex.isB=false
  cases s1<;>cases ex<;>simp_all[qfh,ER.isF,Sh.nb]
def lcE (c:α→RE Bool) (f:α→RE β):List α→RE (List β)
 |[]=>.ok []
 |x::xs=>(noX (c x)).bind fun k=>if k=true then (noX (f x)).bind fun y=>(lcE c f xs).bind fun ys=>.ok (y::ys) else lcE c f xs
def qqy (f:α→RE β):List α→RE (List β)
 |[]=>.ok []
 |x::xs=>(noX (f x)).bind fun y=>(qqy f xs).bind fun ys=>.ok (y::ys)
theorem qjG (f:α→RE β):∀xs,lcE (fun _=>.ok true) f xs=qqy f xs
 |[]=>rfl
 |x::xs=>by
  rw[lcE,qqy,qjG f xs]
  rfl
theorem qiO (f:α→β):∀xs:List α,qqy (fun x=>.ok (f x)) xs=.ok (xs.map f)
 |[]=>rfl
 |x::xs=>by rw[qqy,qiO f xs];rfl
theorem qmB {cc:α→RE Bool} {ff:α→RE β} {F:D→RE (Option (D × Bool))} {t:Bool}:∀{xs:List α},(∀x∈xs,XR (F (en x)) ((noX (cc x)).bind fun k=>if k=true then (noX (ff x)).bind fun y=>.ok (some y) else .ok none) fun v r=>match v with
  |none=>r=none
  |some y=>∃f,r=some (en2 y,f)∧(t=true→f=true))→XR (lcl F (xs.map en)) (lcE cc ff xs) fun ys r=>r.1=ys.map en2∧(t=true→r.2=true)
 |[],_=>⟨_,rfl,rfl,fun _=>rfl⟩
 |x::xs,h=>by
  have ih:=qmB (F:=F) (xs:=xs) fun y hy=>h y (List.mem_cons_of_mem _ hy)
  have h0:=h x (by simp)
  simp only[List.map_cons,lcl,lcE]
  cases hc:noX (cc x) with
  |bad=>trivial
  |exc c fs=>cases e:cc x<;>rw[e] at hc<;>cases hc
  |ok k =>
   rw[hc] at h0
   simp only[RE.bind_ok] at h0 ⊢
   cases k with
   |false =>
    simp only[Bool.false_eq_true,if_false] at h0 ⊢
    obtain⟨r,e1,e2⟩:=h0
    cases e2
    rw[e1]
    simp only[RE.bind_ok]
    cases hl:lcE cc ff xs with
    |bad=>trivial
    |ok ys=>rw[hl] at ih;obtain⟨q,e3,e4⟩:=ih;rw[e3];exact⟨_,rfl,e4⟩
    |exc c fs=>rw[hl] at ih;have ih:lcl F (xs.map en)=_:=ih;rw[ih];rfl
   |true =>
    simp only[if_true] at h0 ⊢
    cases hf:noX (ff x) with
    |bad=>trivial
    |exc c fs=>cases e:ff x<;>rw[e] at hf<;>cases hf
    |ok y =>
     rw[hf] at h0
     obtain⟨r,e1,f,e2,e2'⟩:=h0
     subst e2
     rw[e1]
     simp only[RE.bind_ok]
     cases hl:lcE cc ff xs with
     |bad=>trivial
     |ok ys =>
      rw[hl] at ih
      obtain⟨q,e3,e4,e5⟩:=ih
      rw[e3]
      refine⟨_,rfl,by simp[e4],fun z=>?_⟩
      show(f&&q.2)=true
      rw[e2' z,e5 z];rfl
     |exc c fs=>rw[hl] at ih;have ih:lcl F (xs.map en)=_:=ih;rw[ih];rfl
theorem qoS {cnd:Tes} {e:Ex} {ρ':List Sl} {mc:RE Bool} {mf:RE β} (hc:XTs Γ true cnd ρ' mc) (hf:mc=.ok true→XE Γ e ρ' mf en2 s t) (hs:s.nb=true):XR (noX ((qfw Γ true cnd ρ').bind fun k=>if k=true then (ev Γ e ρ').bind fun y=>match y with
    |.brw _ _=>.bad
    |y=>.ok (some (y.d,y.b)) else .ok none)) ((noX mc).bind fun k=>if k=true then (noX mf).bind fun y=>.ok (some y) else .ok none) fun v r=>match v with
  |none=>r=none
  |some y=>∃f,r=some (en2 y,f)∧(t=true→f=true):=by
 cases mc with
 |bad=>trivial
 |exc c fs=>trivial
 |ok k =>
  obtain⟨x,e1,e2⟩:=hc
  subst e2
  rw[e1]
  cases x with
  |false=>exact⟨_,rfl,rfl⟩
  |true =>
   have hf:=hf rfl
   simp only[RE.bind_ok,if_true,noX]
   cases mf with
   |bad=>trivial
   |exc c fs=>trivial
   |ok y =>
    obtain⟨er,e3,e4⟩:=hf
    rw[e3]
    simp only[RE.bind_ok,noX]
    have hsh:=e4.s
    cases er with
    |brw ds b=>cases s<;>simp_all[qfh,ER.isF,Sh.nb]
    |val d b=>exact⟨_,rfl,_,by rw[←e4.d],e4.t⟩
    |fre d b=>exact⟨_,rfl,_,by rw[←e4.d],e4.t⟩
theorem XE.lc {own:List Nat} {it:Itx} {i:Nat} {cnd:Tes} {m1:RE (List α)} {o t0:Bool} {mc:α→RE Bool} {mf:α→RE β} (ρ₂:Sl→List Sl) (hi:XI Γ it ρ m1 en t1 o) (ht:t0=true→t1=true∨Flat en) (hset:∀q,(wipeS ρ own).set i q=ρ₂ q)
  (hc:∀x q,SlV t0 (en x) q→XTs Γ true cnd (ρ₂ q) (mc x)) (hf:∀x q,SlV t0 (en x) q→mc x=.ok true→XE Γ e (ρ₂ q) (mf x) en2 s t) (hs:s.nb=true) :
  XE Γ (.lc own it [i] cnd e) ρ (m1.bind fun xs=>gd (leB xs.length) (lcE mc mf xs)) (eL en2) .f t:=by
 unfold XE;rw[ev]
 refine XR.bind hi fun xs w hw=>?_
 obtain⟨w1,w2,_⟩:=hw
 rw[w1,List.length_map]
 cases hl:leB xs.length with
 |false=>trivial
 |true =>
  simp only[qgR]
  have e:lcE mc mf xs=(lcE mc mf xs).bind fun k=>.ok k:=by cases lcE mc mf xs<;>rfl
  rw[e]
  refine XR.bind (qmB (t:=t) (en2:=en2) fun x _=>?_) fun ys r hr=>qiv (by rw[hr.1];rfl) hr.2
  simp only[qce,hset]
  have hq:SlV t0 (en x) (.val (en x) (w.b||(en x).flat)):=⟨_,rfl,fun z=>by
   rcases ht z with q | q
   ·simp[w2 q]
   ·rw[q.flat];simp⟩
  exact qoS (hc x _ hq) (hf x _ hq) hs
theorem XTs.nil {c:Bool}:XTs Γ c .nil ρ (.ok c):=by unfold XTs;rw[qfw];exact⟨_,rfl,rfl⟩
end
end Cm
namespace Cm
def Out.rt:Out→RE ER
 |.ret er=>.ok er
 |.exc c fs=>.exc c fs
 |_=>.bad
inductive Fl (β σ:Type) where
 |nx (s:σ) | rt (b:β) | bk (s:σ)
def XN {σ:Type} (o:Out) (m:RE σ) (S:σ→List Sl→Prop):Prop:=match m with
 |.bad=>True
 |.ok v=>∃ρ',o=.nx ρ'∧S v ρ'
 |.exc c fs=>o=.exc c fs
def XL {σ:Type} (o:Out) (m:RE σ) (S:σ→List Sl→Prop):Prop:=match m with
 |.bad=>True
 |.ok v=>∃ρ',(o=.nx ρ'∨o=.cnt ρ')∧S v ρ'
 |.exc c fs=>o=.exc c fs
def XF {β σ:Type} (o:Out) (m:RE (Fl β σ)) (R:β→ER→Prop) (S:σ→List Sl→Prop):Prop:=match m with
 |.bad=>True
 |.ok (.nx v)=>∃ρ',(o=.nx ρ'∨o=.cnt ρ')∧S v ρ'
 |.ok (.rt b)=>∃er,o=.ret er∧R b er
 |.ok (.bk v)=>∃ρ',o=.brk ρ'∧S v ρ'
 |.exc c fs=>o=.exc c fs
def XX {β σ:Type} (o:Out) (m:RE (Fl β σ)) (R:β→ER→Prop) (S:σ→List Sl→Prop):Prop:=match m with
 |.bad=>True
 |.ok (.nx v)=>∃ρ',o=.cnt ρ'∧S v ρ'
 |.ok (.rt b)=>∃er,o=.ret er∧R b er
 |.ok (.bk v)=>∃ρ',o=.brk ρ'∧S v ρ'
 |.exc c fs=>o=.exc c fs
abbrev BR {β:Type} (Γ:Env) (ss:Sms) (ρ:List Sl) (m:RE β) (en:β→D) (s:Sh) (t:Bool):Prop:=XR (qaj Γ ss ρ).rt m fun v er=>Is s t (en v) er
abbrev BN {σ:Type} (Γ:Env) (ss:Sms) (ρ:List Sl) (m:RE σ) (S:σ→List Sl→Prop):Prop:=XN (qaj Γ ss ρ) m S
abbrev BL {σ:Type} (Γ:Env) (ss:Sms) (ρ:List Sl) (m:RE σ) (S:σ→List Sl→Prop):Prop:=XL (qaj Γ ss ρ) m S
abbrev BF {β σ:Type} (Γ:Env) (ss:Sms) (ρ:List Sl) (m:RE (Fl β σ)) (R:β→ER→Prop) (S:σ→List Sl→Prop):Prop:=XF (qaj Γ ss ρ) m R S
abbrev BX {β σ:Type} (Γ:Env) (ss:Sms) (ρ:List Sl) (m:RE (Fl β σ)) (R:β→ER→Prop) (S:σ→List Sl→Prop):Prop:=XX (qaj Γ ss ρ) m R S
def XG {β σ:Type} (o:Out) (m:RE (Fl β σ)) (R:β→ER→Prop) (S:σ→List Sl→Prop):Prop:=match m with
 |.bad=>True
 |.ok (.nx v)=>∃ρ',o=.nx ρ'∧S v ρ'
 |.ok (.rt b)=>∃er,o=.ret er∧R b er
 |.ok (.bk v)=>False
 |.exc c fs=>o=.exc c fs
abbrev BG {β σ:Type} (Γ:Env) (ss:Sms) (ρ:List Sl) (m:RE (Fl β σ)) (R:β→ER→Prop) (S:σ→List Sl→Prop):Prop:=XG (qaj Γ ss ρ) m R S
def Fl.bR {β σ:Type} (m:RE (Fl β σ)) (k:σ→RE β):RE β:=m.bind fun f=>match f with
 |.nx v=>k v
 |.rt b=>.ok b
 |.bk _=>.bad
def Fl.bF {β σ τ:Type} (m:RE (Fl β σ)) (k:σ→RE (Fl β τ)):RE (Fl β τ):=m.bind fun f=>match f with
 |.nx v=>k v
 |.rt b=>.ok (.rt b)
 |.bk _=>.bad
abbrev SN {σ:Type} (Γ:Env) (s:Sm) (ρ:List Sl) (m:RE σ) (S:σ→List Sl→Prop):Prop:=XN (run Γ s ρ) m S
abbrev SF {β σ:Type} (Γ:Env) (s:Sm) (ρ:List Sl) (m:RE (Fl β σ)) (R:β→ER→Prop) (S:σ→List Sl→Prop):Prop:=XG (run Γ s ρ) m R S
section
variable {Γ:Env} {ρ:List Sl} {α β γ δ σ τ:Type} {en:α→D} {en2:β→D} {e a b:Ex} {s s1 s2:Sh} {t t1 t2:Bool} {ss sa sb:Sms} {q:Sm} {R:β→ER→Prop} {S:σ→List Sl→Prop} {S':τ→List Sl→Prop}
theorem BR.cons {m:RE σ} {k:σ→RE β} (h:SN Γ q ρ m S) (hk:∀v ρ',S v ρ'→BR Γ ss ρ' (k v) en2 s t):BR Γ (.cons q ss) ρ (m.bind k) en2 s t:=by
 unfold BR
 rw[qaj]
 cases m with
 |bad=>trivial
 |ok v=>obtain⟨ρ',e,h⟩:=h;rw[e];exact hk v ρ' h
 |exc c fs=>have h:run Γ q ρ=_:=h;rw[h];rfl
theorem BN.cons {m:RE σ} {k:σ→RE τ} (h:SN Γ q ρ m S) (hk:∀v ρ',S v ρ'→BN Γ ss ρ' (k v) S'):BN Γ (.cons q ss) ρ (m.bind k) S':=by
 unfold BN
 rw[qaj]
 cases m with
 |bad=>trivial
 |ok v=>obtain⟨ρ',e,h⟩:=h;rw[e];exact hk v ρ' h
 |exc c fs=>have h:run Γ q ρ=_:=h;rw[h];rfl
theorem BL.cons {m:RE σ} {k:σ→RE τ} (h:SN Γ q ρ m S) (hk:∀v ρ',S v ρ'→BL Γ ss ρ' (k v) S'):BL Γ (.cons q ss) ρ (m.bind k) S':=by
 unfold BL
 rw[qaj]
 cases m with
 |bad=>trivial
 |ok v=>obtain⟨ρ',e,h⟩:=h;rw[e];exact hk v ρ' h
 |exc c fs=>have h:run Γ q ρ=_:=h;rw[h];rfl
theorem BF.cons {m:RE σ} {k:σ→RE (Fl β τ)} (h:SN Γ q ρ m S) (hk:∀v ρ',S v ρ'→BF Γ ss ρ' (k v) R S'):BF Γ (.cons q ss) ρ (m.bind k) R S':=by
 unfold BF
 rw[qaj]
 cases m with
 |bad=>trivial
 |ok v=>obtain⟨ρ',e,h⟩:=h;rw[e];exact hk v ρ' h
 |exc c fs=>have h:run Γ q ρ=_:=h;rw[h];rfl
theorem BX.cons {m:RE σ} {k:σ→RE (Fl β τ)} (h:SN Γ q ρ m S) (hk:∀v ρ',S v ρ'→BX Γ ss ρ' (k v) R S'):BX Γ (.cons q ss) ρ (m.bind k) R S':=by
 unfold BX
 rw[qaj]
 cases m with
 |bad=>trivial
 |ok v=>obtain⟨ρ',e,h⟩:=h;rw[e];exact hk v ρ' h
 |exc c fs=>have h:run Γ q ρ=_:=h;rw[h];rfl
theorem BG.cons {m:RE σ} {k:σ→RE (Fl β τ)} (h:SN Γ q ρ m S) (hk:∀v ρ',S v ρ'→BG Γ ss ρ' (k v) R S'):BG Γ (.cons q ss) ρ (m.bind k) R S':=by
 unfold BG
 rw[qaj]
 cases m with
 |bad=>trivial
 |ok v=>obtain⟨ρ',e,h⟩:=h;rw[e];exact hk v ρ' h
 |exc c fs=>have h:run Γ q ρ=_:=h;rw[h];rfl
theorem BG.nil {v:σ} (h:S v ρ):BG Γ .nil ρ (.ok (.nx v)) R S:=by unfold BG;rw[qaj];exact⟨_,rfl,h⟩
theorem BN.nil {v:σ} (h:S v ρ):BN Γ .nil ρ (.ok v) S:=by unfold BN;rw[qaj];exact⟨_,rfl,h⟩
theorem BL.nil {v:σ} (h:S v ρ):BL Γ .nil ρ (.ok v) S:=by unfold BL;rw[qaj];exact⟨_,.inl rfl,h⟩
theorem BF.nil {v:σ} (h:S v ρ):BF Γ .nil ρ (.ok (.nx v)) R S:=by unfold BF;rw[qaj];exact⟨_,.inl rfl,h⟩
theorem BL.cnt {v:σ} (h:S v ρ):BL Γ (.cons .cnt ss) ρ (.ok v) S:=by unfold BL;rw[qaj,Cm.run];exact⟨_,.inr rfl,h⟩
theorem BF.cnt {v:σ} (h:S v ρ):BF Γ (.cons .cnt ss) ρ (.ok (.nx v)) R S:=by unfold BF;rw[qaj,Cm.run];exact⟨_,.inr rfl,h⟩
theorem BX.cnt {v:σ} (h:S v ρ):BX Γ (.cons .cnt ss) ρ (.ok (.nx v)) R S:=by unfold BX;rw[qaj,Cm.run];exact⟨_,rfl,h⟩
theorem BF.brk {v:σ} (h:S v ρ):BF Γ (.cons .brk ss) ρ (.ok (.bk v)) R S:=by unfold BF;rw[qaj,Cm.run];exact⟨_,rfl,h⟩
theorem BX.brk {v:σ} (h:S v ρ):BX Γ (.cons .brk ss) ρ (.ok (.bk v)) R S:=by unfold BX;rw[qaj,Cm.run];exact⟨_,rfl,h⟩
theorem BX.F {m:RE (Fl β σ)} (h:BX Γ ss ρ m R S):BF Γ ss ρ m R S:=by
 unfold BF
 cases m with
 |bad=>trivial
 |ok v =>
  cases v with
  |nx v=>obtain⟨ρ',e,h⟩:=h;exact⟨ρ',.inr e,h⟩
  |rt b=>exact h
  |bk v=>exact h
 |exc c fs=>exact h
theorem BR.X {m:RE β} (h:BR Γ ss ρ m en2 s t):BX (σ:=σ) Γ ss ρ (m.bind fun b=>.ok (.rt b)) (fun v er=>Is s t (en2 v) er) S:=by
 unfold BX
 cases m with
 |bad=>trivial
 |ok v =>
  obtain⟨er,e,h⟩:=h
  cases hr:qaj Γ ss ρ<;>rw[hr] at e<;>cases e
  exact⟨_,rfl,h⟩
 |exc c fs =>
  have h:(qaj Γ ss ρ).rt=_:=h
  cases hr:qaj Γ ss ρ<;>rw[hr] at h<;>cases h
  rfl
theorem Is.ret {d:D} {er:ER} (h:Is s t d er):Is s.ret t d (qrf er):=by
 have:=h.s
 have:=h.d
 have:=h.t
 cases s<;>cases er<;>simp_all[qfh,ER.isF,Sh.ret]<;>exact⟨by assumption,rfl,by simpa using h.t⟩
theorem BR.ret {m:RE α} (h:XE Γ e ρ m en s1 t) (hs:s1.ret=s):BR Γ (.cons (.ret e) ss) ρ m en s t:=by
 unfold BR
 rw[qaj,Cm.run]
 subst hs
 cases m with
 |bad=>trivial
 |ok v=>obtain⟨er,e,h⟩:=h;rw[e];exact⟨_,rfl,h.ret⟩
 |exc c fs=>have h:ev Γ _ ρ=_:=h;rw[h];rfl
theorem BR.retN:BR Γ (.cons .retN ss) ρ (.ok ()) eU .v true:=by unfold BR;rw[qaj,Cm.run];exact⟨_,rfl,rfl,rfl,fun _=>rfl⟩
theorem BR.rse {k c:Nat} (h:Γ.xk[k]? = some c):BR Γ (.cons (.rse k) ss) ρ (.exc c []) en s t:=by unfold BR;rw[qaj,Cm.run,h];rfl
theorem BR.weak {m:RE α} (h:BR Γ ss ρ m en s t) (hs:s.nb=true):BR Γ ss ρ m en .n t:=XR.mono h fun _ _ k=>k.weak hs
theorem BR.low {m:RE α} (h:BR Γ ss ρ m en s t):BR Γ ss ρ m en s false:=XR.mono h fun _ _ k=>k.low
theorem BR.coe {m:RE α} {f:α→β} (h:BR Γ ss ρ m en s t) (k:∀v,en v=en2 (f v)):BR Γ ss ρ (m.bind fun x=>.ok (f x)) en2 s t:=by
 cases m with
 |bad=>trivial
 |ok v=>obtain⟨er,e,h⟩:=h;exact⟨_,e,by rw[←k];exact h.d,h.s,h.t⟩
 |exc c fs=>exact h
theorem BR.iff {c:Te} {mt:RE Bool} {m1 m2:RE β} (h:XT Γ c ρ mt) (ha:BR Γ sa ρ m1 en2 s t) (hb:BR Γ sb ρ m2 en2 s t):BR Γ (.cons (.iff c sa sb) ss) ρ (mt.bind fun k=>if k=true then m1 else m2) en2 s t:=by
 unfold BR
 rw[qaj,Cm.run]
 cases mt with
 |bad=>trivial
 |exc c fs=>have h:evT Γ _ ρ=_:=h;rw[h];rfl
 |ok v =>
  obtain⟨x,e,rfl⟩:=h
  rw[e]
  simp only[RE.out_ok,RE.bind_ok]
  have key:∀{sx:Sms} {m:RE β},BR Γ sx ρ m en2 s t→XR (((qaj Γ sx ρ).seq fun ρ'=>qaj Γ ss ρ').rt) m fun v er=>Is s t (en2 v) er:=fun {sx m} hx=>by
   cases m with
   |bad=>trivial
   |ok v =>
    obtain⟨er,e,h⟩:=hx
    cases hr:qaj Γ sx ρ<;>rw[hr] at e<;>cases e
    exact⟨_,rfl,h⟩
   |exc c fs =>
    have h:(qaj Γ sx ρ).rt=_:=hx
    cases hr:qaj Γ sx ρ<;>rw[hr] at h<;>cases h
    rfl
  cases x
  ·exact key hb
  ·exact key ha
theorem BR.ifR {c:Te} {mt:RE Bool} {m1 m2:RE β} (h:XT Γ c ρ mt) (ha:BR Γ sa ρ m1 en2 s t) (hb:BR Γ ss ρ m2 en2 s t):BR Γ (.cons (.iff c sa .nil) ss) ρ (mt.bind fun k=>if k=true then m1 else m2) en2 s t:=by
 unfold BR
 rw[qaj,Cm.run]
 cases mt with
 |bad=>trivial
 |exc c fs=>have h:evT Γ _ ρ=_:=h;rw[h];rfl
 |ok v =>
  obtain⟨x,e,rfl⟩:=h
  rw[e]
  simp only[RE.out_ok,RE.bind_ok]
  cases x with
  |false=>simp only[Bool.false_eq_true,if_false,qaj];exact hb
  |true =>
   simp only[if_true]
   cases m1 with
   |bad=>trivial
   |ok v =>
    obtain⟨er,e,h⟩:=ha
    cases hr:qaj Γ sa ρ<;>rw[hr] at e<;>cases e
    exact⟨_,rfl,h⟩
   |exc c fs =>
    have h:(qaj Γ sa ρ).rt=_:=ha
    cases hr:qaj Γ sa ρ<;>rw[hr] at h<;>cases h
    rfl
theorem BF.iff {c:Te} {mt:RE Bool} {m1 m2:RE (Fl β σ)} (h:XT Γ c ρ mt) (ha:BF Γ sa ρ m1 R S) (hb:BF Γ sb ρ m2 R S):BF Γ (.cons (.iff c sa sb) .nil) ρ (mt.bind fun k=>if k=true then m1 else m2) R S:=by
 unfold BF
 rw[qaj,Cm.run]
 cases mt with
 |bad=>trivial
 |exc c fs=>have h:evT Γ _ ρ=_:=h;rw[h];rfl
 |ok v =>
  obtain⟨x,e,rfl⟩:=h
  rw[e]
  simp only[RE.out_ok,RE.bind_ok]
  have key:∀{sx:Sms} {m:RE (Fl β σ)},BF Γ sx ρ m R S→XF ((qaj Γ sx ρ).seq fun ρ'=>qaj Γ .nil ρ') m R S:=fun {sx m} hx=>by
   have:((qaj Γ sx ρ).seq fun ρ'=>qaj Γ .nil ρ')=qaj Γ sx ρ:=by
    cases qaj Γ sx ρ<;>simp only[Out.seq,qaj]
   rw[this];exact hx
  cases x
  ·exact key hb
  ·exact key ha
theorem BX.iff {c:Te} {mt:RE Bool} {m1 m2:RE (Fl β σ)} (h:XT Γ c ρ mt) (ha:BX Γ sa ρ m1 R S) (hb:BX Γ sb ρ m2 R S):BX Γ (.cons (.iff c sa sb) .nil) ρ (mt.bind fun k=>if k=true then m1 else m2) R S:=by
 unfold BX
 rw[qaj,Cm.run]
 cases mt with
 |bad=>trivial
 |exc c fs=>have h:evT Γ _ ρ=_:=h;rw[h];rfl
 |ok v =>
  obtain⟨x,e,rfl⟩:=h
  rw[e]
  simp only[RE.out_ok,RE.bind_ok]
  have key:∀{sx:Sms} {m:RE (Fl β σ)},BX Γ sx ρ m R S→XX ((qaj Γ sx ρ).seq fun ρ'=>qaj Γ .nil ρ') m R S:=fun {sx m} hx=>by
   have:((qaj Γ sx ρ).seq fun ρ'=>qaj Γ .nil ρ')=qaj Γ sx ρ:=by
    cases qaj Γ sx ρ<;>simp only[Out.seq,qaj]
   rw[this];exact hx
  cases x
  ·exact key hb
  ·exact key ha
theorem SN.iff {c:Te} {mt:RE Bool} {m1 m2:RE σ} (h:XT Γ c ρ mt) (ha:BN Γ sa ρ m1 S) (hb:BN Γ sb ρ m2 S):SN Γ (.iff c sa sb) ρ (mt.bind fun k=>if k=true then m1 else m2) S:=by
 unfold SN
 rw[Cm.run]
 cases mt with
 |bad=>trivial
 |exc c fs=>have h:evT Γ _ ρ=_:=h;rw[h];rfl
 |ok v =>
  obtain⟨x,e,rfl⟩:=h
  rw[e]
  cases x
  ·exact hb
  ·exact ha
theorem SF.iff {c:Te} {mt:RE Bool} {m1 m2:RE (Fl β σ)} (h:XT Γ c ρ mt) (ha:BG Γ sa ρ m1 R S) (hb:BG Γ sb ρ m2 R S):SF Γ (.iff c sa sb) ρ (mt.bind fun k=>if k=true then m1 else m2) R S:=by
 unfold SF
 rw[Cm.run]
 cases mt with
 |bad=>trivial
 |exc c fs=>have h:evT Γ _ ρ=_:=h;rw[h];rfl
 |ok v =>
  obtain⟨x,e,rfl⟩:=h
  rw[e]
  cases x
  ·exact hb
  ·exact ha
theorem BX.G {m:RE β} {en2:β→D} (h:BR Γ ss ρ m en2 s t):BG (σ:=σ) Γ ss ρ (m.bind fun b=>.ok (.rt b)) (fun v er=>Is s t (en2 v) er) S:=by
 unfold BG
 cases m with
 |bad=>trivial
 |ok v =>
  obtain⟨er,e,h⟩:=h
  cases hr:qaj Γ ss ρ<;>rw[hr] at e<;>cases e
  exact⟨_,rfl,h⟩
 |exc c fs =>
  have h:(qaj Γ ss ρ).rt=_:=h
  cases hr:qaj Γ ss ρ<;>rw[hr] at h<;>cases h
  rfl
theorem BG.ifR {c:Te} {mt:RE Bool} {m1:RE β} {m2:RE (Fl β σ)} {en2:β→D} (h:XT Γ c ρ mt) (ha:BR Γ sa ρ m1 en2 s t) (hb:BG Γ ss ρ m2 (fun v er=>Is s t (en2 v) er) S):BG Γ (.cons (.iff c sa .nil) ss) ρ (mt.bind fun k=>if k=true then m1.bind fun b=>.ok (.rt b) else m2) (fun v er=>Is s t (en2 v) er) S:=by
 unfold BG
 rw[qaj,Cm.run]
 cases mt with
 |bad=>trivial
 |exc c fs=>have h:evT Γ _ ρ=_:=h;rw[h];rfl
 |ok v =>
  obtain⟨x,e,rfl⟩:=h
  rw[e]
  simp only[RE.out_ok,RE.bind_ok]
  cases x with
  |false=>simp only[Bool.false_eq_true,if_false,qaj];exact hb
  |true =>
   simp only[if_true]
   cases m1 with
   |bad=>trivial
   |ok v =>
    obtain⟨er,e,h⟩:=ha
    cases hr:qaj Γ sa ρ<;>rw[hr] at e<;>cases e
    exact⟨_,rfl,h⟩
   |exc c fs =>
    have h:(qaj Γ sa ρ).rt=_:=ha
    cases hr:qaj Γ sa ρ<;>rw[hr] at h<;>cases h
    rfl
theorem qcB {k c:Nat} (h:Γ.xk[k]? = some c):qaj Γ (.cons (.rse k) ss) ρ=.exc c []:=by rw[qaj,Cm.run,h];rfl
theorem BN.rse {k c:Nat} (h:Γ.xk[k]? = some c):BN Γ (.cons (.rse k) ss) ρ (.exc c []) S:=by unfold BN;rw[qcB h];rfl
theorem BL.rse {k c:Nat} (h:Γ.xk[k]? = some c):BL Γ (.cons (.rse k) ss) ρ (.exc c []) S:=by unfold BL;rw[qcB h];rfl
theorem BF.rse {k c:Nat} (h:Γ.xk[k]? = some c):BF Γ (.cons (.rse k) ss) ρ (.exc c []) R S:=by unfold BF;rw[qcB h];rfl
theorem BX.rse {k c:Nat} (h:Γ.xk[k]? = some c):BX Γ (.cons (.rse k) ss) ρ (.exc c []) R S:=by unfold BX;rw[qcB h];rfl
theorem BG.rse {k c:Nat} (h:Γ.xk[k]? = some c):BG Γ (.cons (.rse k) ss) ρ (.exc c []) R S:=by unfold BG;rw[qcB h];rfl
theorem qmg {c:Te} {v:Bool} (h:evT Γ c ρ=.ok v):qaj Γ (.cons (.iff c sa .nil) ss) ρ=(if v=true then qaj Γ sa ρ else .nx ρ).seq fun ρ'=>qaj Γ ss ρ':=by
 rw[qaj,Cm.run,h]
 cases v<;>simp only[RE.out_ok,qaj,if_true,if_false,Bool.false_eq_true]
theorem BN.ifE {c:Te} {k n:Nat} {mt:RE Bool} {m2:RE σ} (ha:sa=.cons (.rse k) .nil) (h:XT Γ c ρ mt) (hk:Γ.xk[k]? = some n) (hb:BN Γ ss ρ m2 S):BN Γ (.cons (.iff c sa .nil) ss) ρ (mt.bind fun k=>if k=true then .exc n [] else m2) S:=by
 subst ha
 unfold BN
 cases mt with
 |bad=>trivial
 |exc c fs=>have h:evT Γ _ ρ=_:=h;rw[qaj,Cm.run,h];rfl
 |ok v =>
  obtain⟨x,e,rfl⟩:=h
  rw[qmg e]
  cases x with
  |false=>exact hb
  |true=>simp only[if_true,qcB hk];rfl
theorem BL.ifE {c:Te} {k n:Nat} {mt:RE Bool} {m2:RE σ} (ha:sa=.cons (.rse k) .nil) (h:XT Γ c ρ mt) (hk:Γ.xk[k]? = some n) (hb:BL Γ ss ρ m2 S):BL Γ (.cons (.iff c sa .nil) ss) ρ (mt.bind fun k=>if k=true then .exc n [] else m2) S:=by
 subst ha
 unfold BL
 cases mt with
 |bad=>trivial
 |exc c fs=>have h:evT Γ _ ρ=_:=h;rw[qaj,Cm.run,h];rfl
 |ok v =>
  obtain⟨x,e,rfl⟩:=h
  rw[qmg e]
  cases x with
  |false=>exact hb
  |true=>simp only[if_true,qcB hk];rfl
theorem SN.asg {i:Nat} {m:RE α} (ρ₂:Sl→List Sl) (h:XE Γ e ρ m en s t) (hs:s.nb=true) (hset:∀q,ρ.set i q=ρ₂ q):SN Γ (.asg i e) ρ m fun v ρ'=>∃q,ρ'=ρ₂ q∧SlV t (en v) q:=by
 unfold SN
 rw[Cm.run]
 cases m with
 |bad=>trivial
 |ok v =>
  obtain⟨er,e,h⟩:=h
  rw[e]
  have h1:=h.s
  have h2:=h.d
  have h3:=h.t
  cases er with
  |val d b=>simp only[RE.out_ok,held];exact⟨_,rfl,_,hset _,b,by rw[←h2];rfl,h3⟩
  |fre d b=>simp only[RE.out_ok,held];exact⟨_,rfl,_,hset _,b,by rw[←h2];rfl,h3⟩
  |brw d b=>cases s<;>simp_all[qfh,ER.isF,Sh.nb]
 |exc c fs=>have h:ev Γ _ ρ=_:=h;rw[h];rfl
theorem SN.own {i:Nat} {m:RE (List α)} (ρ₂:Sl→List Sl) (h:XE Γ e ρ m (eL en) .f t) (hset:∀q,ρ.set i q=ρ₂ q):SN Γ (.own i e) ρ m fun v ρ'=>∃q,ρ'=ρ₂ q∧SlO t (v.map en) q:=by
 unfold SN
 rw[Cm.run]
 cases m with
 |bad=>trivial
 |ok v =>
  obtain⟨er,e,h⟩:=h
  rw[e]
  have h1:=h.s
  have h2:=h.d
  have h3:=h.t
  cases er with
  |val d b=>cases h1
  |fre d b =>
   simp only[RE.out_ok]
   refine⟨_,rfl,_,hset _,b,?_,h3⟩
   cases h2
   rfl
  |brw d b=>cases h1
 |exc c fs=>have h:ev Γ _ ρ=_:=h;rw[h];rfl
theorem SN.expr {m:RE α} (h:XE Γ e ρ m en s t):SN Γ (.expr e) ρ m fun _ ρ'=>ρ'=ρ:=by
 unfold SN
 rw[Cm.run]
 cases m with
 |bad=>trivial
 |ok v=>obtain⟨er,e,h⟩:=h;rw[e];exact⟨_,rfl,rfl⟩
 |exc c fs=>have h:ev Γ _ ρ=_:=h;rw[h];rfl
theorem SN.pas:SN Γ .pas ρ (.ok ()) fun _ ρ'=>ρ'=ρ:=by unfold SN;rw[Cm.run];exact⟨_,rfl,rfl⟩
def qoM (ds es:List D):Bool:=D.flats ds&&(clD ds != clD es)&&qmE (clD es) es
def qe4 {γ:Type} (e1:α→D) (e2:γ→D) (p:List α × List γ):RE (List α × List γ):=gd (qoM (p.1.map e1) (p.2.map e2)) (.ok p)
theorem SN.asgO {γ δ:Type} {en3:γ→D} {en4:δ→D} {f:γ→δ} {i j k:Nat} {es:Exs} {m:RE (List α × List γ)} (ρ₂:Sl→Sl→List Sl) (h:XE Γ (.call k es) ρ m (eT2 (eL en) (eL en3)) .v true) (hij:i≠j) (hf:∀x,en4 (f x)=en3 x) (hset:∀q r,(ρ.set i q).set j r=ρ₂ q r) :
  SN Γ (.asgO i j k es) ρ (m.bind (qe4 en en3)) fun v ρ'=>∃q r,ρ'=ρ₂ q r∧SlV true (eL en v.1) q∧SlO true ((v.2.map f).map en4) r:=by
 have fm:∀l:List γ,(l.map f).map en4=l.map en3:=fun l=>by
  rw[List.map_map];exact List.map_congr_left fun x _=>hf x
 unfold SN
 rw[Cm.run]
 unfold XE at h
 rw[ev] at h
 cases eg:Γ.fn[k]? with
 |none =>
  rw[eg] at h
  cases m with
  |bad=>trivial
  |ok v=>obtain⟨x,e,_⟩:=h;cases e
  |exc c fs=>have h:RE.bad=_:=h;cases h
 |some g =>
  rw[eg] at h
  simp only at h ⊢
  cases e1:evs Γ es ρ with
  |bad=>rw[e1] at h;cases m with
   |bad=>trivial
   |ok v=>obtain⟨x,e,_⟩:=h;cases e
   |exc c fs=>have h:RE.bad=_:=h;cases h
  |exc c fs=>rw[e1] at h;cases m with
   |bad=>trivial
   |ok v=>obtain⟨x,e,_⟩:=h;cases e
   |exc c' fs'=>have h:RE.exc c fs=_:=h;rw[RE.out_exc];cases h;rfl
  |ok r =>
   rw[e1] at h
   simp only[RE.bind_ok,RE.out_ok] at h ⊢
   cases e2:g.2 (r.map ER.d) with
   |bad=>rw[e2] at h;cases m with
    |bad=>trivial
    |ok v=>obtain⟨x,e,_⟩:=h;cases e
    |exc c fs=>have h:RE.bad=_:=h;cases h
   |exc c fs=>rw[e2] at h;cases m with
    |bad=>trivial
    |ok v=>obtain⟨x,e,_⟩:=h;cases e
    |exc c' fs'=>have h:RE.exc c fs=_:=h;rw[RE.out_exc];cases h;rfl
   |ok er =>
    rw[e2] at h
    cases m with
    |bad=>trivial
    |exc c fs =>
     have h:qbt (!r.all ER.isV) er=.exc c fs:=h
     exfalso
     revert h
     cases (!r.all ER.isV)<;>cases er<;>simp only[qbt]<;>intro h<;>first | (cases h;done) | (split at h<;>cases h)
    |ok v =>
     obtain⟨x,ex,hx⟩:=h
     have h1:ER.isV x=true:=hx.s
     have h2:x.d=.tup [eL en v.1,eL en3 v.2]:=hx.d
     have h3:x.b=true:=hx.t rfl
     have hx':x=.val (.tup [eL en v.1,eL en3 v.2]) true:=by
      cases x with
      |val d b=>cases h2;cases h3;rfl
      |fre _ _=>cases h1
      |brw _ _=>cases h1
     subst hx'
     have nf:(D.tup [eL en v.1,eL en3 v.2]).flat=false:=by simp[eL]
     have he:er=.val (.tup [eL en v.1,eL en3 v.2]) true:=by
      have ex:qbt (!r.all ER.isV) er=.ok _:=ex
      cases er with
      |brw _ _=>cases q:(!r.all ER.isV)<;>rw[q] at ex<;>cases ex
      |fre _ _ =>
       cases q:(!r.all ER.isV)<;>rw[q] at ex<;>simp only[qbt] at ex
       ·cases ex
       ·split at ex<;>cases ex
      |val d b =>
       cases q:(!r.all ER.isV)<;>rw[q] at ex<;>simp only[qbt] at ex
       ·injection ex with ex
        injection ex with ex1 ex2
        subst ex1
        rw[nf,Bool.or_false] at ex2
        rw[ex2]
       ·split at ex
        ·rename_i q2
         injection ex with ex
         injection ex with ex1 ex2
         subst ex1
         rw[nf,Bool.or_false] at q2
         rw[q2]
        ·cases ex
     subst he
     rw[RE.out_ok]
     show XN (match qgV (.val (.tup [.lst (v.1.map en),.lst (v.2.map en3)]) true) with
      |some p=>if i=j then .bad else .nx ((ρ.set i (.val (.lst p.1) true)).set j (.own p.2 true))
      |none=>.bad) (qe4 en en3 v) _
     unfold qe4 qgV
     show XN (match (if qoM (v.1.map en) (v.2.map en3)=true then some (v.1.map en,v.2.map en3) else none) with
      |some p=>if i=j then .bad else .nx ((ρ.set i (.val (.lst p.1) true)).set j (.own p.2 true))
      |none=>.bad) _ _
     cases qoM (v.1.map en) (v.2.map en3) with
     |false=>trivial
     |true =>
      simp only[if_true,if_neg hij,qgR]
      exact⟨_,rfl,_,_,hset _ _,⟨_,rfl,fun _=>rfl⟩,⟨_,by rw[fm],fun _=>rfl⟩⟩
theorem SN.asg3 {γ δ:Type} {en3:γ→D} {en4:δ→D} {i j k:Nat} {m:RE (α × γ × δ)} {t3 t4 t5:Bool} (ρ₂:Sl→Sl→Sl→List Sl) (h:XE Γ e ρ m (eT3 en en3 en4) s t) (ht:t3=true→t=true∨Flat en) (ht':t4=true→t=true∨Flat en3) (ht2:t5=true→t=true∨Flat en4) (hset:∀q r u,((ρ.set i q).set j r).set k u=ρ₂ q r u) :
  SN Γ (.asgT [i,j,k] e) ρ m fun v ρ'=>∃q r u,ρ'=ρ₂ q r u∧SlV t3 (en v.1) q∧SlV t4 (en3 v.2.1) r∧SlV t5 (en4 v.2.2) u:=by
 unfold SN
 rw[Cm.run]
 cases m with
 |bad=>trivial
 |ok v =>
  obtain⟨er,e,h⟩:=h
  rw[e]
  have h1:=h.s
  have h2:=h.d
  have h3:=h.t
  cases er with
  |val d b =>
   have h2:d=.tup [en v.1,en3 v.2.1,en4 v.2.2]:=h2
   subst h2
   simp only[RE.out_ok,held,qce,qip,qhw]
   refine⟨_,rfl,_,_,_,hset _ _ _,⟨_,rfl,fun z=>?_⟩,⟨_,rfl,fun z=>?_⟩,⟨_,rfl,fun z=>?_⟩⟩
   ·rcases ht z with q | q
    ·have:b=true:=h3 q
     rw[this];rfl
    ·rw[q.flat];simp
   ·rcases ht' z with q | q
    ·have:b=true:=h3 q
     rw[this];rfl
    ·rw[q.flat];simp
   ·rcases ht2 z with q | q
    ·have:b=true:=h3 q
     rw[this];rfl
    ·rw[q.flat];simp
  |fre d b=>cases h2
  |brw d b=>cases h2
 |exc c fs=>have h:ev Γ _ ρ=_:=h;rw[h];rfl
theorem qcy {d:D} {er:ER} (h:Is s t d er) (hs:s.nb=true):∃b,(∀f:D→Bool→Out,held er f=f d b)∧(t=true→b=true):=by
 have h1:=h.s
 have h2:=h.d
 have h3:=h.t
 cases er with
 |val d' b=>cases h2;exact⟨b,fun _=>rfl,h3⟩
 |fre d' b=>cases h2;exact⟨b,fun _=>rfl,h3⟩
 |brw d' b=>cases s<;>simp_all[qfh,ER.isF,Sh.nb]
theorem Is.frz {d:D} {er:ER} (h:Is s t d er) (hs:s.nb=true):Is .v t d er.frz:=by
 have h1:=h.s
 have h2:=h.d
 have h3:=h.t
 cases er with
 |val d' b=>exact⟨h2,rfl,h3⟩
 |fre d' b=>exact⟨h2,rfl,h3⟩
 |brw d' b=>cases s<;>simp_all[qfh,ER.isF,Sh.nb]
theorem SN.par2 {γ:Type} {en3:γ→D} {i j:Nat} {m1:RE α} {m2:RE γ} (ρ₂:Sl→Sl→List Sl) (ha:XE Γ a ρ m1 en s1 t1) (hb:XE Γ b ρ m2 en3 s2 t2) (h1:s1.nb=true) (h2:s2.nb=true) (hset:∀q r,(ρ.set i q).set j r=ρ₂ q r) :
  SN Γ (.par [i,j] (.cons a (.cons b .nil))) ρ (m1.bind fun x=>m2.bind fun y=>.ok (x,y)) fun v ρ'=>∃q r,ρ'=ρ₂ q r∧SlV t1 (en v.1) q∧SlV t2 (en3 v.2) r:=by
 unfold SN
 rw[Cm.run,evs,qn3]
 cases m1 with
 |bad=>trivial
 |exc c fs=>have h:ev Γ _ ρ=_:=ha;rw[h];rfl
 |ok v =>
  obtain⟨er,e,h⟩:=ha
  rw[e]
  simp only[RE.bind_ok]
  cases m2 with
  |bad=>trivial
  |exc c fs=>have h:ev Γ _ ρ=_:=hb;rw[h];rfl
  |ok y =>
   obtain⟨er',e',h'⟩:=hb
   rw[e']
   simp only[RE.bind_ok,RE.out_ok,qi2]
   obtain⟨b1,q1,r1⟩:=qcy (h.frz h1) rfl
   obtain⟨b2,q2,r2⟩:=qcy (h'.frz h2) rfl
   rw[q1,q2]
   exact⟨_,rfl,_,_,hset _ _,⟨_,rfl,r1⟩,⟨_,rfl,r2⟩⟩
theorem SN.put {i:Nat} {ix:Ex} {m1:RE α} {m2:RE Int} {xs:List α} {q0:Sl} (ρ₂:Sl→List Sl) (h:XE Γ e ρ m1 en s t1) (hs:s.nb=true) (h0:ρ[i]? = some q0) (hq:SlO t2 (xs.map en) q0) (hi:XE Γ ix ρ m2 eI s2 t) (hset:∀q,ρ.set i q=ρ₂ q) :
  SN Γ (.put i ix e) ρ (m1.bind fun x=>m2.bind fun k=>(match L2.ixN xs.length k with
   |some j=>.ok (xs.set j x)
   |none=>.bad)) fun v ρ'=>∃q,ρ'=ρ₂ q∧SlO (t1&&t2) (v.map en) q:=by
 unfold SN
 rw[Cm.run]
 obtain⟨f,rfl,hf⟩:=hq
 cases m1 with
 |bad=>trivial
 |exc c fs=>have h:ev Γ _ ρ=_:=h;rw[h];rfl
 |ok x =>
  obtain⟨er,e1,h1⟩:=h
  rw[e1]
  simp only[RE.out_ok,RE.bind_ok]
  obtain⟨b1,q1,r1⟩:=qcy h1 hs
  rw[q1,qaI,h0]
  simp only
  cases m2 with
  |bad=>trivial
  |exc c fs=>have h:ev Γ _ ρ=_:=hi;rw[h];rfl
  |ok k =>
   obtain⟨er2,e2,h2⟩:=hi
   rw[e2]
   simp only[RE.out_ok,RE.bind_ok,h2.d,List.length_map]
   cases L2.ixN xs.length k with
   |none=>trivial
   |some j =>
    refine⟨_,rfl,_,hset _,_,by rw[List.map_set],fun z=>?_⟩
    rw[Bool.and_eq_true] at z
    rw[r1 z.1,hf z.2];rfl
def qif (xs:List α) (k:Int) (x:α):RE (List α):=match L2.ixN xs.length k with
 |some j=>.ok (xs.set j x)
 |none=>.bad
theorem SN.putG {i:Nat} {ix:Ex} {m1:RE α} {m2:RE Int} {xs:List α} {q0:Sl} (ρ₂:Sl→List Sl) (h:XE Γ e ρ m1 en s t1) (hs:s.nb=true) (h0:ρ[i]? = some q0) (hq:SlO t2 (xs.map en) q0) (hi:XE Γ ix ρ m2 eI s2 t) (hset:∀q,ρ.set i q=ρ₂ q) :
  SN Γ (.put i ix e) ρ (m1.bind fun x=>m2.bind fun k=>qif xs k x) fun v ρ'=>∃q,ρ'=ρ₂ q∧SlO (t1&&t2) (v.map en) q:=SN.put ρ₂ h hs h0 hq hi hset
def qdp (xs:List α) (x:α):RE (List α):=gd (leB (xs.length+1)) (.ok (xs++[x]))
theorem SN.app {i:Nat} {m1:RE α} {xs:List α} {q0:Sl} (ρ₂:Sl→List Sl) (h:XE Γ e ρ m1 en s t1) (hs:s.nb=true) (h0:ρ[i]? = some q0) (hq:SlO t2 (xs.map en) q0) (hset:∀q,ρ.set i q=ρ₂ q) :
  SN Γ (.app i e) ρ (m1.bind fun x=>qdp xs x) fun v ρ'=>∃q,ρ'=ρ₂ q∧SlO (t1&&t2) (v.map en) q:=by
 unfold SN
 rw[Cm.run]
 obtain⟨f,rfl,hf⟩:=hq
 rw[qaI,h0]
 simp only
 cases m1 with
 |bad=>trivial
 |exc c fs=>have h:ev Γ _ ρ=_:=h;rw[h];rfl
 |ok x =>
  obtain⟨er,e1,h1⟩:=h
  rw[e1]
  simp only[RE.out_ok,RE.bind_ok]
  obtain⟨b1,q1,r1⟩:=qcy h1 hs
  rw[q1,List.length_map,qdp]
  cases leB (xs.length+1) with
  |false=>trivial
  |true =>
   refine⟨_,rfl,_,hset _,(b1&&f),by simp,fun z=>?_⟩
   rw[Bool.and_eq_true] at z
   rw[r1 z.1,hf z.2];rfl
def qrQ (xs ys:List α):RE (List α):=gd (leB (xs.length+ys.length)) (.ok (xs++ys))
theorem SN.ext {i:Nat} {m1:RE (List α)} {xs:List α} {q0:Sl} (ρ₂:Sl→List Sl) (h:XE Γ e ρ m1 (eL en) .f t1) (h0:ρ[i]? = some q0) (hq:SlO t2 (xs.map en) q0) (hset:∀q,ρ.set i q=ρ₂ q) :
  SN Γ (.ext i e) ρ (m1.bind fun ys=>qrQ xs ys) fun v ρ'=>∃q,ρ'=ρ₂ q∧SlO (t1&&t2) (v.map en) q:=by
 unfold SN
 rw[Cm.run]
 obtain⟨f,rfl,hf⟩:=hq
 rw[qaI,h0]
 simp only
 cases m1 with
 |bad=>trivial
 |exc c fs=>have h:ev Γ _ ρ=_:=h;rw[h];rfl
 |ok ys =>
  obtain⟨er,e1,h1⟩:=h
  rw[e1]
  have h2:=h1.s
  have h3:=h1.d
  have h4:=h1.t
  cases er with
  |val d b=>cases h2
  |brw d b=>cases h2
  |fre ds b =>
   cases h3
   simp only[RE.out_ok,RE.bind_ok,List.length_map,qrQ]
   cases leB (xs.length+ys.length) with
   |false=>trivial
   |true =>
    refine⟨_,rfl,_,hset _,(b&&f),by simp,fun z=>?_⟩
    rw[Bool.and_eq_true] at z
    have:b=true:=h4 z.1
    rw[this,hf z.2];rfl
def qrN (xs:List α):RE (α × List α):=match xs.getLast? with
 |some x=>.ok (x,xs.dropLast)
 |none=>.bad
theorem SN.popv {i j:Nat} {xs:List α} {q0:Sl} (ρ₂:Sl→Sl→List Sl) (h0:ρ[i]? = some q0) (hq:SlO t (xs.map en) q0) (hset:∀q r,(ρ.set i q).set j r=ρ₂ q r) :
  SN Γ (.popv j i) ρ (qrN xs) fun v ρ'=>∃q r,ρ'=ρ₂ q r∧SlO t (v.2.map en) q∧SlV t (en v.1) r:=by
 unfold SN
 rw[Cm.run]
 obtain⟨f,rfl,hf⟩:=hq
 rw[qaI,h0]
 simp only[qrN,List.getLast?_map]
 cases xs.getLast? with
 |none=>trivial
 |some x=>exact⟨_,rfl,_,_,hset _ _,⟨_,by rw[List.map_dropLast],hf⟩,⟨_,rfl,hf⟩⟩
theorem SN.clr {i:Nat} {xs:List α} {q0:Sl} (ρ₂:Sl→List Sl) (h0:ρ[i]? = some q0) (hq:SlO t (xs.map en) q0) (hset:∀q,ρ.set i q=ρ₂ q) :
  SN Γ (.clr i) ρ (.ok ([]:List α)) fun v ρ'=>∃q,ρ'=ρ₂ q∧SlO true (v.map en) q:=by
 unfold SN
 rw[Cm.run]
 obtain⟨f,rfl,hf⟩:=hq
 rw[qaI,h0]
 exact⟨_,rfl,_,hset _,_,rfl,fun _=>rfl⟩
def qjF (xs ys:List α) (k:Int):RE (List α × List α):=match L2.ixN ys.length k with
 |some m=>match ys[m]? with
  |some d=>gd (leB ys.length) (gd (leB (xs.length+1)) (.ok (xs++[d],ys.eraseIdx m)))
  |none=>.bad
 |none=>.bad
theorem SN.apop {i j:Nat} {ix:Ex} {m1:RE Int} {xs ys:List α} {q0 r0:Sl} (ρ₂:Sl→Sl→List Sl) (hij:(if i=j then false else true)=true) (h0:ρ[i]? = some q0) (hq:SlO t1 (xs.map en) q0) (h1:ρ[j]? = some r0) (hr:SlO t2 (ys.map en) r0) (hi:XE Γ ix ρ m1 eI s t) (hset:∀q r,(ρ.set j r).set i q=ρ₂ q r) :
  SN Γ (.apop i j ix) ρ (m1.bind fun k=>qjF xs ys k) fun v ρ'=>∃q r,ρ'=ρ₂ q r∧SlO (t2&&t1) (v.1.map en) q∧SlO t2 (v.2.map en) r:=by
 have hij:i≠j:=fun e=>by rw[if_pos e] at hij;cases hij
 unfold SN
 rw[Cm.run]
 obtain⟨f,rfl,hf⟩:=hq
 obtain⟨g,rfl,hg⟩:=hr
 rw[if_neg hij,qaI,h0]
 simp only[qaI,h1]
 cases m1 with
 |bad=>trivial
 |exc c fs=>have h:ev Γ _ ρ=_:=hi;rw[h];rfl
 |ok k =>
  obtain⟨er,e1,h1⟩:=hi
  rw[e1]
  simp only[RE.out_ok,RE.bind_ok,h1.d,List.length_map,qjF]
  cases L2.ixN ys.length k with
  |none=>trivial
  |some m =>
   simp only[List.getElem?_map]
   cases ys[m]? with
   |none=>trivial
   |some d =>
    simp only[Option.map_some]
    cases leB ys.length with
    |false=>trivial
    |true =>
     cases leB (xs.length+1) with
     |false=>trivial
     |true =>
      refine⟨_,rfl,_,_,hset _ _,⟨(g&&f),by simp,fun z=>?_⟩,⟨g,by rw[qcT],hg⟩⟩
      rw[Bool.and_eq_true] at z
      rw[hg z.1,hf z.2];rfl
def qqj (xs:List α) (k:Int):RE (List α):=match L2.ixN xs.length k with
 |some m=>match xs[m]? with
  |some _=>gd (leB xs.length) (.ok (xs.eraseIdx m))
  |none=>.bad
 |none=>.bad
theorem SN.popx {i:Nat} {ix:Ex} {m1:RE Int} {xs:List α} {q0:Sl} (ρ₂:Sl→List Sl) (hi:XE Γ ix ρ m1 eI s t1) (h0:ρ[i]? = some q0) (hq:SlO t (xs.map en) q0) (hset:∀q,ρ.set i q=ρ₂ q) :
  SN Γ (.popx i ix) ρ (m1.bind fun k=>qqj xs k) fun v ρ'=>∃q,ρ'=ρ₂ q∧SlO t (v.map en) q:=by
 unfold SN
 rw[Cm.run]
 obtain⟨f,rfl,hf⟩:=hq
 rw[qaI,h0]
 cases m1 with
 |bad=>trivial
 |exc c fs=>have h:ev Γ _ ρ=_:=hi;simp only[h];rfl
 |ok k =>
  obtain⟨er,e1,h1⟩:=hi
  simp only[e1,RE.out_ok,RE.bind_ok,h1.d,List.length_map,qqj]
  cases L2.ixN xs.length k with
  |none=>trivial
  |some m =>
   simp only[List.getElem?_map]
   cases xs[m]? with
   |none=>trivial
   |some d =>
    simp only[Option.map_some]
    cases leB xs.length with
    |false=>trivial
    |true=>exact⟨_,rfl,_,hset _,f,by rw[qcT],hf⟩
def qrL (xs:List Int) (k:Int):RE (List Int):=match qmz k xs with
 |some m=>.ok (xs.eraseIdx m)
 |none=>.bad
theorem SN.rmv {i:Nat} {e:Ex} {m1:RE Int} {xs:List Int} {q0:Sl} (ρ₂:Sl→List Sl) (hi:XE Γ e ρ m1 eI s t1) (h0:ρ[i]? = some q0) (hq:SlO t (xs.map eI) q0) (hset:∀q,ρ.set i q=ρ₂ q) :
  SN Γ (.rmv i e) ρ (m1.bind fun k=>qrL xs k) fun v ρ'=>∃q,ρ'=ρ₂ q∧SlO t (v.map eI) q:=by
 unfold SN
 rw[Cm.run]
 obtain⟨f,rfl,hf⟩:=hq
 rw[qaI,h0]
 cases m1 with
 |bad=>trivial
 |exc c fs=>have h:ev Γ _ ρ=_:=hi;simp only[h];rfl
 |ok k =>
  obtain⟨er,e1,h1⟩:=hi
  have hx:qaq (xs.map eI)=some xs:=qaY xs
  simp only[e1,RE.out_ok,RE.bind_ok,h1.d,hx,qrL]
  cases qmz k xs with
  |none=>trivial
  |some m=>exact⟨_,rfl,_,hset _,f,by rw[qcT],hf⟩
theorem qgp {i:Nat} {ds:List D} {q0:Sl} (ρ₂:Sl→List Sl) (h0:ρ[i]? = some q0) (hq:SlO t ds q0) (hset:∀q,ρ.set i q=ρ₂ q):∃q,qaj Γ (.frz i ss) ρ=qaj Γ ss (ρ₂ q)∧SlV t (.lst ds) q:=by
 obtain⟨f,rfl,hf⟩:=hq
 refine⟨.val (.lst ds) f,?_,_,rfl,hf⟩
 rw[qaj,qaI,h0,←hset]
theorem BR.frz {i:Nat} {xs:List α} {q0:Sl} {m:RE β} {k1:Sh} {k2:Bool} (ρ₂:Sl→List Sl) (h0:ρ[i]? = some q0) (hq:SlO t (xs.map en) q0) (hset:∀q,ρ.set i q=ρ₂ q) (h:∀q,SlV t (eL en xs) q→BR Γ ss (ρ₂ q) m en2 k1 k2):BR Γ (.frz i ss) ρ m en2 k1 k2:=by
 obtain⟨q,e,r⟩:=qgp (Γ:=Γ) (ss:=ss) ρ₂ h0 hq hset
 unfold BR
 rw[e];exact h q r
theorem BN.frz {i:Nat} {xs:List α} {q0:Sl} {m:RE σ} (ρ₂:Sl→List Sl) (h0:ρ[i]? = some q0) (hq:SlO t (xs.map en) q0) (hset:∀q,ρ.set i q=ρ₂ q) (h:∀q,SlV t (eL en xs) q→BN Γ ss (ρ₂ q) m S):BN Γ (.frz i ss) ρ m S:=by
 obtain⟨q,e,r⟩:=qgp (Γ:=Γ) (ss:=ss) ρ₂ h0 hq hset
 unfold BN
 rw[e];exact h q r
theorem BL.frz {i:Nat} {xs:List α} {q0:Sl} {m:RE σ} (ρ₂:Sl→List Sl) (h0:ρ[i]? = some q0) (hq:SlO t (xs.map en) q0) (hset:∀q,ρ.set i q=ρ₂ q) (h:∀q,SlV t (eL en xs) q→BL Γ ss (ρ₂ q) m S):BL Γ (.frz i ss) ρ m S:=by
 obtain⟨q,e,r⟩:=qgp (Γ:=Γ) (ss:=ss) ρ₂ h0 hq hset
 unfold BL
 rw[e];exact h q r
theorem BF.frz {i:Nat} {xs:List α} {q0:Sl} {m:RE (Fl β σ)} (ρ₂:Sl→List Sl) (h0:ρ[i]? = some q0) (hq:SlO t (xs.map en) q0) (hset:∀q,ρ.set i q=ρ₂ q) (h:∀q,SlV t (eL en xs) q→BF Γ ss (ρ₂ q) m R S):BF Γ (.frz i ss) ρ m R S:=by
 obtain⟨q,e,r⟩:=qgp (Γ:=Γ) (ss:=ss) ρ₂ h0 hq hset
 unfold BF
 rw[e];exact h q r
theorem BX.frz {i:Nat} {xs:List α} {q0:Sl} {m:RE (Fl β σ)} (ρ₂:Sl→List Sl) (h0:ρ[i]? = some q0) (hq:SlO t (xs.map en) q0) (hset:∀q,ρ.set i q=ρ₂ q) (h:∀q,SlV t (eL en xs) q→BX Γ ss (ρ₂ q) m R S):BX Γ (.frz i ss) ρ m R S:=by
 obtain⟨q,e,r⟩:=qgp (Γ:=Γ) (ss:=ss) ρ₂ h0 hq hset
 unfold BX
 rw[e];exact h q r
theorem SlV.ent {d:D} {k:Nat} {q:Sl} (h:SlV t d q):SlV t d (Cm.ent k q):=by
 obtain⟨f,e,ht⟩:=h
 rcases qjN e with rfl | ⟨rfl,j,rfl⟩
 ·by_cases hb:(f||d.flat)=true
  ·rw[show Cm.ent k (.val d f)=.val d f from if_pos hb]
   exact⟨f,rfl,ht⟩
  ·rw[show Cm.ent k (.val d f)=.fxd d k from if_neg hb]
   exact⟨false,rfl,fun z=>by rw[ht z] at hb;exact absurd rfl hb⟩
 ·exact⟨false,rfl,ht⟩
theorem SlO.ent {ds:List D} {k:Nat} {q:Sl} (h:SlO t ds q):SlO t ds (Cm.ent k q):=by
 obtain⟨f,rfl,ht⟩:=h
 exact⟨f,rfl,ht⟩
def qsU (_:Nat):Sl:=.non
def qqK (cs:Ch) (i:Nat) (d:D):RE Unit:=match chg cs [(i,d)] ([],0) with
 |some _=>.ok ()
 |none=>.bad
theorem qiZ {er er':ER} {k:Bool} {d:D} (h:qbt k er=.ok er') (hd:er'.d=d) (hb:er'.b=true):qir er=some d:=by
 subst hd
 cases k with
 |false =>
  cases er with
  |brw _ _=>cases h
  |val d b=>cases h;exact if_pos hb
  |fre ds b=>cases h;exact if_pos (by rw[show b=true from hb];rfl)
 |true =>
  cases er with
  |brw _ _=>cases h
  |val d b =>
   simp only[qbt] at h
   split at h
   ·rename_i z;cases h;exact if_pos z
   ·cases h
  |fre ds b =>
   simp only[qbt] at h
   split at h
   ·rename_i z;cases h;exact if_pos z
   ·cases h
theorem BR.hav {i f:Nat} {es:Exs} {rd:Sms} {cs:Ch} {m:RE α} {k1:α→RE (Fl β σ)} {k2:α→σ→RE β} {s1:Sh} (S:α→σ→List Sl→Prop) (h:XE Γ (.call f es) ρ m en s1 true) (hsf:qiw s t en2) (hsv:s=.v) (hi:Nat.blt i ρ.length=true)
  (h1:∀x,BG Γ rd ((qg6 0 ρ).set i (.fxd (en x) i)) (k1 x) (fun v er=>Is s t (en2 v) er) (S x))
  (h2:∀x st ρ',S x st ρ'→(∃d,ρ'[i]? = some (.fxd d i))∧(cs.tgs.all fun l=>Nat.blt l ρ'.length)=true∧BR Γ ss (wipeS (qgG (ρ.set i .non) 0 ρ') cs.tgs) (k2 x st) en2 s t) :
  BR Γ (.hav i f es rd cs ss) ρ (m.bind fun x=>Fl.bR (k1 x) fun st=>(qqK cs i (en x)).bind fun _=>k2 x st) en2 s t:=by
 unfold BR
 rw[qaj]
 unfold XE at h
 rw[ev] at h
 cases eg:Γ.fn[f]? with
 |none =>
  rw[eg] at h
  cases m with
  |bad=>trivial
  |ok v=>obtain⟨er,e,_⟩:=h;cases e
  |exc c fs=>have h:RE.bad=_:=h;cases h
 |some g =>
  rw[eg] at h
  simp only at h ⊢
  cases m with
  |bad=>trivial
  |exc c fs =>
   have h:_=RE.exc c fs:=h
   cases e1:evs Γ es ρ with
   |bad=>rw[e1] at h;cases h
   |exc c' fs'=>rw[e1] at h;cases h;rfl
   |ok r =>
    rw[e1] at h
    simp only[RE.bind_ok,RE.out_ok] at h ⊢
    cases e2:g.2 (r.map ER.d) with
    |bad=>rw[e2] at h;cases h
    |exc c' fs'=>rw[e2] at h;cases h;rfl
    |ok er =>
     rw[e2] at h
     simp only[RE.bind_ok] at h
     exfalso
     revert h
     cases (!r.all ER.isV)<;>cases er<;>simp only[qbt]<;>first | (intro z;cases z) | (split<;>intro z<;>cases z)
  |ok v =>
   obtain⟨er',e,his⟩:=h
   cases e1:evs Γ es ρ with
   |bad=>rw[e1] at e;cases e
   |exc c' fs'=>rw[e1] at e;cases e
   |ok r =>
    rw[e1] at e
    simp only[RE.bind_ok,RE.out_ok] at e ⊢
    cases e2:g.2 (r.map ER.d) with
    |bad=>rw[e2] at e;cases e
    |exc c' fs'=>rw[e2] at e;cases e
    |ok er =>
     rw[e2] at e
     simp only[RE.bind_ok] at e
     simp only[RE.out_ok,qiZ e his.d (his.t rfl),hi,qbP,RE.bind_ok]
     have h1:=h1 v
     cases ek:k1 v with
     |bad=>trivial
     |exc c fs =>
      rw[ek] at h1
      have h1:qaj Γ rd _=_:=h1
      rw[h1];rfl
     |ok fl =>
      rw[ek] at h1
      cases fl with
      |bk _=>exact h1.elim
      |rt b =>
       obtain⟨er3,e3,h3⟩:=h1
       rw[e3]
       simp only[Out.hv]
       have hn:∃d,qir er3=some d:=by
        subst hsv
        cases er3 with
        |fre _ _=>cases h3.s
        |brw _ _=>cases h3.s
        |val d b3 =>
         refine⟨d,if_pos ?_⟩
         have hd:d=en2 b:=h3.d
         rcases hsf with z | ⟨_,z⟩ | ⟨z,_⟩
         ·have:b3=true:=h3.t z
          rw[this];rfl
         ·rw[hd,z b];simp
         ·cases z
       obtain⟨d,hn⟩:=hn
       rw[hn]
       exact⟨er3,rfl,h3⟩
      |nx st =>
       obtain⟨ρ',e3,h3⟩:=h1
       obtain⟨⟨d2,q1⟩,q2,q3⟩:=h2 v st ρ' h3
       rw[e3]
       simp only[Out.hv,q1,q2,beq_self_eq_true,Bool.true_and,qbP,Fl.bR,RE.bind_ok,qqK]
       cases ec:chg cs [(i,en v)] ([],0) with
       |none=>trivial
       |some _=>exact q3
theorem BF.hav {i f:Nat} {es:Exs} {rd:Sms} {cs:Ch} {m:RE α} {k1:α→RE (Fl β σ)} {k2:α→σ→RE (Fl β τ)} {s1:Sh} (S:α→σ→List Sl→Prop) (h:XE Γ (.call f es) ρ m en s1 true) (hsf:qiw s t en2) (hsv:s=.v) (hi:Nat.blt i ρ.length=true)
  (h1:∀x,BG Γ rd ((qg6 0 ρ).set i (.fxd (en x) i)) (k1 x) (fun v er=>Is s t (en2 v) er) (S x))
  (h2:∀x st ρ',S x st ρ'→(∃d,ρ'[i]? = some (.fxd d i))∧(cs.tgs.all fun l=>Nat.blt l ρ'.length)=true∧BF Γ ss (wipeS (qgG (ρ.set i .non) 0 ρ') cs.tgs) (k2 x st) (fun v er=>Is s t (en2 v) er) S') :
  BF Γ (.hav i f es rd cs ss) ρ (m.bind fun x=>Fl.bF (k1 x) fun st=>(qqK cs i (en x)).bind fun _=>k2 x st) (fun v er=>Is s t (en2 v) er) S':=by
 unfold BF
 rw[qaj]
 unfold XE at h
 rw[ev] at h
 cases eg:Γ.fn[f]? with
 |none =>
  rw[eg] at h
  cases m with
  |bad=>trivial
  |ok v=>obtain⟨er,e,_⟩:=h;cases e
  |exc c fs=>have h:RE.bad=_:=h;cases h
 |some g =>
  rw[eg] at h
  simp only at h ⊢
  cases m with
  |bad=>trivial
  |exc c fs =>
   have h:_=RE.exc c fs:=h
   cases e1:evs Γ es ρ with
   |bad=>rw[e1] at h;cases h
   |exc c' fs'=>rw[e1] at h;cases h;rfl
   |ok r =>
    rw[e1] at h
    simp only[RE.bind_ok,RE.out_ok] at h ⊢
    cases e2:g.2 (r.map ER.d) with
    |bad=>rw[e2] at h;cases h
    |exc c' fs'=>rw[e2] at h;cases h;rfl
    |ok er =>
     rw[e2] at h
     simp only[RE.bind_ok] at h
     exfalso
     revert h
     cases (!r.all ER.isV)<;>cases er<;>simp only[qbt]<;>first | (intro z;cases z) | (split<;>intro z<;>cases z)
  |ok v =>
   obtain⟨er',e,his⟩:=h
   cases e1:evs Γ es ρ with
   |bad=>rw[e1] at e;cases e
   |exc c' fs'=>rw[e1] at e;cases e
   |ok r =>
    rw[e1] at e
    simp only[RE.bind_ok,RE.out_ok] at e ⊢
    cases e2:g.2 (r.map ER.d) with
    |bad=>rw[e2] at e;cases e
    |exc c' fs'=>rw[e2] at e;cases e
    |ok er =>
     rw[e2] at e
     simp only[RE.bind_ok] at e
     simp only[RE.out_ok,qiZ e his.d (his.t rfl),hi,qbP,RE.bind_ok]
     have h1:=h1 v
     cases ek:k1 v with
     |bad=>trivial
     |exc c fs =>
      rw[ek] at h1
      have h1:qaj Γ rd _=_:=h1
      rw[h1];rfl
     |ok fl =>
      rw[ek] at h1
      cases fl with
      |bk _=>exact h1.elim
      |rt b =>
       obtain⟨er3,e3,h3⟩:=h1
       rw[e3]
       simp only[Out.hv]
       have hn:∃d,qir er3=some d:=by
        subst hsv
        cases er3 with
        |fre _ _=>cases h3.s
        |brw _ _=>cases h3.s
        |val d b3 =>
         refine⟨d,if_pos ?_⟩
         have hd:d=en2 b:=h3.d
         rcases hsf with z | ⟨_,z⟩ | ⟨z,_⟩
         ·have:b3=true:=h3.t z
          rw[this];rfl
         ·rw[hd,z b];simp
         ·cases z
       obtain⟨d,hn⟩:=hn
       rw[hn]
       exact⟨er3,rfl,h3⟩
      |nx st =>
       obtain⟨ρ',e3,h3⟩:=h1
       obtain⟨⟨d2,q1⟩,q2,q3⟩:=h2 v st ρ' h3
       rw[e3]
       simp only[Out.hv,q1,q2,beq_self_eq_true,Bool.true_and,qbP,Fl.bF,RE.bind_ok,qqK]
       cases ec:chg cs [(i,en v)] ([],0) with
       |none=>trivial
       |some _=>exact q3
end
end Cm
namespace Cm
def qai {α σ:Type} (f:α→σ→RE σ):List α→σ→RE σ
 |[],s=>.ok s
 |x::xs,s=>(f x s).bind (qai f xs)
def qbi {α β σ:Type} (f:α→σ→RE (Fl β σ)):List α→σ→RE (Fl β σ)
 |[],s=>.ok (.nx s)
 |x::xs,s=>(f x s).bind fun r=>match r with
  |.nx s'=>qbi f xs s'
  |.rt b=>.ok (.rt b)
  |.bk s'=>.ok (.nx s')
def qpL {σ:Type} (c:σ→RE Bool) (f:σ→RE σ):Nat→σ→RE σ
 |0,_=>.bad
 |n+1,s=>(c s).bind fun k=>if k=true then (f s).bind (qpL c f n) else .ok s
section
variable {Γ:Env} {ρ:List Sl} {α β γ σ:Type} {en:α→D} {en2:β→D} {en3:γ→D} {it:Itx} {i j:Nat} {b:Sms} {m:RE (List α)} {t t0 t0' t1:Bool} {s:Sh} {R:γ→ER→Prop} {S:σ→List Sl→Prop}
theorem qj2 {F:D→List Sl→Out} {f:α→σ→RE σ} (h:∀x st ρ',S st ρ'→XL (F (en x) ρ') (f x st) S):∀{xs:List α} {st:σ} {ρ':List Sl},S st ρ'→XN (qdc F (xs.map en) ρ') (qai f xs st) S
 |[],st,ρ',hs=>⟨ρ',rfl,hs⟩
 |x::xs,st,ρ',hs=>by
  have h0:=h x st ρ' hs
  simp only[List.map_cons,qai]
  unfold qdc
  cases e:f x st with
  |bad=>trivial
  |exc c fs=>rw[e] at h0;have h0:F (en x) ρ'=_:=h0;rw[h0];rfl
  |ok st' =>
   rw[e] at h0
   obtain⟨ρ2,e2,h2⟩:=h0
   rcases e2 with e2 | e2<;>rw[e2]<;>exact qj2 h h2
theorem qhA {F:D→List Sl→Out} {f:α→σ→RE (Fl γ σ)} (h:∀x st ρ',S st ρ'→XF (F (en x) ρ') (f x st) R S):∀{xs:List α} {st:σ} {ρ':List Sl},S st ρ'→(match qbi f xs st with
  |.bad=>True
  |.ok (.nx v)=>∃ρ2,qdc F (xs.map en) ρ'=.nx ρ2∧S v ρ2
  |.ok (.rt b)=>∃er,qdc F (xs.map en) ρ'=.ret er∧R b er
  |.ok (.bk v)=>False
  |.exc c fs=>qdc F (xs.map en) ρ'=.exc c fs)
 |[],st,ρ',hs=>⟨ρ',rfl,hs⟩
 |x::xs,st,ρ',hs=>by
  have h0:=h x st ρ' hs
  simp only[List.map_cons,qbi]
  unfold qdc
  cases e:f x st with
  |bad=>trivial
  |exc c fs=>rw[e] at h0;have h0:F (en x) ρ'=_:=h0;rw[h0];rfl
  |ok r =>
   rw[e] at h0
   simp only[RE.bind_ok]
   cases r with
   |nx st' =>
    obtain⟨ρ2,e2,h2⟩:=h0
    rcases e2 with e2 | e2<;>rw[e2]<;>exact qhA h h2
   |rt b=>obtain⟨er,e2,h2⟩:=h0;rw[e2];exact⟨_,rfl,h2⟩
   |bk st'=>obtain⟨ρ2,e2,h2⟩:=h0;rw[e2];exact⟨_,rfl,h2⟩
theorem SN.forG {tg:List Nat} {f:α→σ→RE σ} {s0:σ} (hi:XI Γ it ρ m en t1 false) (h0:S s0 ρ) (hb:∀x st ρ' b',(t1=true→b'=true)→S st ρ'→XL (onB (qce tg (en x) b' ρ') fun ρ'=>qaj Γ b ρ') (f x st) S) :
  SN Γ (.for it tg b) ρ (m.bind fun xs=>qai f xs s0) S:=by
 unfold SN
 rw[Cm.run]
 cases m with
 |bad=>trivial
 |exc c fs=>have h:evI Γ it ρ=_:=hi;rw[h];rfl
 |ok xs =>
  obtain⟨w,e,w1,w2,w3⟩:=hi
  rw[e]
  simp only[RE.out_ok,w3 rfl,Bool.false_eq_true,if_false,RE.bind_ok,w1]
  exact qj2 (fun x st ρ' hs=>hb x st ρ' w.b w2 hs) h0
theorem SF.forG {tg:List Nat} {f:α→σ→RE (Fl γ σ)} {s0:σ} (hi:XI Γ it ρ m en t1 false) (h0:S s0 ρ) (hb:∀x st ρ' b',(t1=true→b'=true)→S st ρ'→XF (onB (qce tg (en x) b' ρ') fun ρ'=>qaj Γ b ρ') (f x st) R S) :
  SF Γ (.for it tg b) ρ (m.bind fun xs=>qbi f xs s0) R S:=by
 unfold SF
 rw[Cm.run]
 cases m with
 |bad=>trivial
 |exc c fs=>have h:evI Γ it ρ=_:=hi;rw[h];rfl
 |ok xs =>
  obtain⟨w,e,w1,w2,w3⟩:=hi
  rw[e]
  simp only[RE.out_ok,w3 rfl,Bool.false_eq_true,if_false,RE.bind_ok,w1]
  exact qhA (fun x st ρ' hs=>hb x st ρ' w.b w2 hs) h0
theorem qeN {b':Bool} (ht:t0=true→t1=true∨Flat en) (h:t1=true→b'=true) (x:α):SlV t0 (en x) (.val (en x) (b'||(en x).flat)):=⟨_,rfl,fun z=>by
 rcases ht z with q | q
 ·simp[h q]
 ·rw[q.flat];simp⟩
theorem SN.for1 {f:α→σ→RE σ} {s0:σ} (S:σ→List Sl→Prop) (hi:XI Γ it ρ m en t1 false) (ht:t0=true→t1=true∨Flat en) (h0:S s0 ρ) (hb:∀x st ρ' q,S st ρ'→SlV t0 (en x) q→BL Γ b (ρ'.set i q) (f x st) S) :
  SN Γ (.for it [i] b) ρ (m.bind fun xs=>qai f xs s0) S:=
 SN.forG hi h0 fun x st ρ' b' h1 hs=>hb x st ρ' _ hs (qeN ht h1 x)
theorem SF.for1 {f:α→σ→RE (Fl γ σ)} {s0:σ} (S:σ→List Sl→Prop) (hi:XI Γ it ρ m en t1 false) (ht:t0=true→t1=true∨Flat en) (h0:S s0 ρ) (hb:∀x st ρ' q,S st ρ'→SlV t0 (en x) q→BF Γ b (ρ'.set i q) (f x st) R S) :
  SF Γ (.for it [i] b) ρ (m.bind fun xs=>qbi f xs s0) R S:=
 SF.forG hi h0 fun x st ρ' b' h1 hs=>hb x st ρ' _ hs (qeN ht h1 x)
theorem SN.for2 {m:RE (List (α × β))} {f:α × β→σ→RE σ} {s0:σ} (S:σ→List Sl→Prop) (hi:XI Γ it ρ m (eT2 en en2) t1 false) (ht:t0=true→t1=true∨Flat en) (ht':t0'=true→t1=true∨Flat en2) (h0:S s0 ρ) (hb:∀x st ρ' q r,S st ρ'→SlV t0 (en x.1) q→SlV t0' (en2 x.2) r→BL Γ b ((ρ'.set i q).set j r) (f x st) S) :
  SN Γ (.for it [i,j] b) ρ (m.bind fun xs=>qai f xs s0) S:=
 SN.forG hi h0 fun x st ρ' b' h1 hs=>hb x st ρ' _ _ hs (qeN ht h1 x.1) (qeN ht' h1 x.2)
theorem SF.for2 {m:RE (List (α × β))} {f:α × β→σ→RE (Fl γ σ)} {s0:σ} (S:σ→List Sl→Prop) (hi:XI Γ it ρ m (eT2 en en2) t1 false) (ht:t0=true→t1=true∨Flat en) (ht':t0'=true→t1=true∨Flat en2) (h0:S s0 ρ) (hb:∀x st ρ' q r,S st ρ'→SlV t0 (en x.1) q→SlV t0' (en2 x.2) r→BF Γ b ((ρ'.set i q).set j r) (f x st) R S) :
  SF Γ (.for it [i,j] b) ρ (m.bind fun xs=>qbi f xs s0) R S:=
 SF.forG hi h0 fun x st ρ' b' h1 hs=>hb x st ρ' _ _ hs (qeN ht h1 x.1) (qeN ht' h1 x.2)
theorem qmi {c:Te} {cc:σ→RE Bool} {f:σ→RE σ} (hc:∀st ρ',S st ρ'→XT Γ c ρ' (cc st)) (hb:∀st ρ',S st ρ'→BL Γ b ρ' (f st) S):∀{n:Nat} {st:σ} {ρ':List Sl},S st ρ'→XN (qdu (fun ρ=>evT Γ c ρ) (fun ρ=>qaj Γ b ρ) n ρ') (qpL cc f n st) S
 |0,st,ρ',hs=>trivial
 |n+1,st,ρ',hs=>by
  have h0:=hc st ρ' hs
  have h1:=hb st ρ' hs
  unfold qpL qdu
  cases e:cc st with
  |bad=>trivial
  |exc c fs=>rw[e] at h0;have h0:evT Γ _ ρ'=_:=h0;simp only[h0];rfl
  |ok k =>
   rw[e] at h0
   obtain⟨k',e0,rfl⟩:=h0
   simp only[e0,RE.bind_ok,RE.out_ok]
   cases k' with
   |false=>exact⟨ρ',rfl,hs⟩
   |true =>
    simp only[if_true]
    cases e1:f st with
    |bad=>trivial
    |exc c fs=>rw[e1] at h1;have h1:qaj Γ b ρ'=_:=h1;simp only[h1];rfl
    |ok st' =>
     rw[e1] at h1
     obtain⟨ρ2,e2,h2⟩:=h1
     rcases e2 with e2 | e2<;>simp only[e2]<;>exact qmi hc hb h2
theorem SN.whl {c:Te} {cc:σ→RE Bool} {f:σ→RE σ} {s0:σ} (S:σ→List Sl→Prop) (h0:S s0 ρ) (hc:∀st ρ',S st ρ'→XT Γ c ρ' (cc st)) (hb:∀st ρ',S st ρ'→BL Γ b ρ' (f st) S):SN Γ (.whl c b) ρ (qpL cc f qp2 s0) S:=by
 unfold SN
 rw[Cm.run]
 exact qmi hc hb h0
def qqm {σ γ:Type} (c:σ→RE Bool) (f:σ→RE (Fl γ σ)):Nat→σ→RE (Fl γ σ)
 |0,_=>.bad
 |n+1,s=>(c s).bind fun k=>if k=true then (f s).bind (fun r=>match r with
  |.nx s'=>qqm c f n s'
  |.rt b=>.ok (.rt b)
  |.bk s'=>.ok (.nx s')) else .ok (.nx s)
theorem qiG {c:Te} {cc:σ→RE Bool} {f:σ→RE (Fl γ σ)} (hc:∀st ρ',S st ρ'→XT Γ c ρ' (cc st)) (hb:∀st ρ',S st ρ'→BF Γ b ρ' (f st) R S):∀{n:Nat} {st:σ} {ρ':List Sl},S st ρ'→XG (qdu (fun ρ=>evT Γ c ρ) (fun ρ=>qaj Γ b ρ) n ρ') (qqm cc f n st) R S
 |0,st,ρ',hs=>trivial
 |n+1,st,ρ',hs=>by
  have h0:=hc st ρ' hs
  have h1:=hb st ρ' hs
  unfold qqm qdu
  cases e:cc st with
  |bad=>trivial
  |exc c fs=>rw[e] at h0;have h0:evT Γ _ ρ'=_:=h0;simp only[h0];rfl
  |ok k =>
   rw[e] at h0
   obtain⟨k',e0,rfl⟩:=h0
   simp only[e0,RE.bind_ok,RE.out_ok]
   cases k' with
   |false=>exact⟨ρ',rfl,hs⟩
   |true =>
    simp only[if_true]
    cases e1:f st with
    |bad=>trivial
    |exc c fs=>rw[e1] at h1;have h1:qaj Γ b ρ'=_:=h1;simp only[h1];rfl
    |ok r =>
     rw[e1] at h1
     simp only[RE.bind_ok]
     cases r with
     |nx st' =>
      obtain⟨ρ2,e2,h2⟩:=h1
      rcases e2 with e2 | e2<;>simp only[e2]<;>exact qiG hc hb h2
     |rt z=>obtain⟨er,e2,h2⟩:=h1;simp only[e2];exact⟨_,rfl,h2⟩
     |bk st'=>obtain⟨ρ2,e2,h2⟩:=h1;simp only[e2];exact⟨_,rfl,h2⟩
theorem SF.whl {c:Te} {cc:σ→RE Bool} {f:σ→RE (Fl γ σ)} {s0:σ} (S:σ→List Sl→Prop) (h0:S s0 ρ) (hc:∀st ρ',S st ρ'→XT Γ c ρ' (cc st)) (hb:∀st ρ',S st ρ'→BF Γ b ρ' (f st) R S):SF Γ (.whl c b) ρ (qqm cc f qp2 s0) R S:=by
 unfold SF
 rw[Cm.run]
 exact qiG hc hb h0
end
abbrev XS {α:Type} (Γ:Env) (es:Exs) (ρ:List Sl) (m:RE α) (enl:α→List D) (nb t:Bool):Prop:=XR (evs Γ es ρ) m fun v ers=>ers.map ER.d=enl v∧ers.all ER.isV=nb∧(t=true→ers.all ER.b=true)
section
variable {Γ:Env} {ρ:List Sl} {α β γ σ:Type} {en:α→D} {en2:β→D} {a b:Ex} {es:Exs} {s s1:Sh} {t t1 t2 nb:Bool} {m1:RE α} {m2:RE β} {enl:β→List D} {x:α} {y:β} {k:Nat} {nm:PySem.Str} {g:List D→RE ER}
theorem XS.nil:XS Γ .nil ρ (.ok ()) (fun _=>[]) true true:=by unfold XS;rw[evs];exact⟨_,rfl,rfl,rfl,fun _=>rfl⟩
theorem XS.cons (h:XE Γ a ρ m1 en s t1) (hs:XS Γ es ρ m2 enl nb t2):XS Γ (.cons a es) ρ (m1.bind fun v=>m2.bind fun w=>.ok (v,w)) (fun p=>en p.1::enl p.2) (s.nb&&nb) (t1&&t2):=by
 unfold XS
 rw[evs]
 exact XR.bind h fun v er h1=>XR.bind hs fun w ers h2=>by
  refine⟨_,rfl,?_,?_,fun z=>?_⟩
  ·simp only[List.map_cons,qds,h1.d,h2.1]
  ·simp only[List.all_cons,h2.2.1]
   have:=h1.s
   cases s<;>cases er<;>simp_all[qfh,ER.isF,Sh.nb]
  ·rw[Bool.and_eq_true] at z
   simp only[List.all_cons,Bool.and_eq_true,qj5]
   exact⟨h1.t z.1,h2.2.2 z.2⟩
theorem XS.consP (h:XE Γ a ρ (.ok x) en s t1) (hs:XS Γ es ρ (.ok y) enl nb t2):XS Γ (.cons a es) ρ (.ok (x,y)) (fun p=>en p.1::enl p.2) (s.nb&&nb) (t1&&t2):=XS.cons h hs
theorem qlK {d:D} {er:ER} (h:Is s t d er) (hs:s.nb=true):∃er',qbt false er=.ok er'∧Is s t d er':=by
 have h1:=h.s
 have h2:=h.d
 have h3:=h.t
 cases er with
 |val d' b=>exact⟨_,rfl,h2,by cases s<;>simp_all[qfh,ER.isF,Sh.nb],fun z=>by have:=h3 z;show(_||_)=true;simp only[ER.b_val] at this;rw[this];rfl⟩
 |fre d' b=>exact⟨_,rfl,h⟩
 |brw d' b=>cases s<;>simp_all[qfh,ER.isF,Sh.nb]
theorem qj8 {v:α} {er:ER} (h:Is s t (en v) er) (hs:qiw s t en) (hn:s.nb=true):∃er',qbt true er=.ok er'∧Is s true (en v) er':=by
 have h1:=h.s
 have h2:=h.d
 have h3:=h.t
 cases er with
 |val d' b =>
  have h2:d'=en v:=h2
  subst h2
  have:(b||(en v).flat)=true:=by
   rcases hs with q | q | q
   ·have:b=true:=h3 q
    rw[this];rfl
   ·rw[q.2];simp
   ·rw[q.1] at h1;cases h1
  simp only[qbt,this,if_true]
  exact⟨_,rfl,rfl,by cases s<;>simp_all[qfh,ER.isF,Sh.nb],fun z=>rfl⟩
 |fre d' b =>
  have h2:D.lst d'=en v:=h2
  have:(b||D.flats d')=true:=by
   rcases hs with q | q | q
   ·have:b=true:=h3 q
    rw[this];rfl
   ·rw[q.1] at h1;cases h1
   ·rw[q.2 v d' h2.symm];simp
  simp only[qbt,this,if_true]
  exact⟨_,rfl,h2,by cases s<;>simp_all[qfh,ER.isF,Sh.nb],fun z=>rfl⟩
 |brw d' b=>cases s<;>simp_all[qfh,ER.isF,Sh.nb]
theorem qfq {r:List ER} {e:RE ER} {m:RE α} (h:XR e m fun v er=>Is s t (en v) er) (hr:r.all ER.isV=true) (hn:s.nb=true):XR (e.bind (qbt (!r.all ER.isV))) m fun v er=>Is s t (en v) er:=by
 rw[hr]
 cases m with
 |bad=>trivial
 |exc c fs=>have h:e=_:=h;rw[h];rfl
 |ok v=>obtain⟨er,e1,h1⟩:=h;rw[e1];exact qlK h1 hn
theorem qdw {r:List ER} {e:RE ER} {m:RE α} (h:XR e m fun v er=>Is s t (en v) er) (hs:qiw s t en) (hr:r.all ER.isV=false) (hn:s.nb=true):XR (e.bind (qbt (!r.all ER.isV))) m fun v er=>Is s true (en v) er:=by
 rw[hr]
 cases m with
 |bad=>trivial
 |exc c fs=>have h:e=_:=h;rw[h];rfl
 |ok v=>obtain⟨er,e1,h1⟩:=h;rw[e1];exact qj8 h1 hs hn
theorem XE.callS {F:β→RE α} (hg:Γ.fn[k]? = some (nm,g)) (ha:XS Γ es ρ m2 enl nb t2) (hr:∀w,XR (g (enl w)) (F w) fun v er=>Is s t (en v) er) (hs:nb=true) (hn:s.nb=true):XE Γ (.call k es) ρ (m2.bind F) en s t:=by
 unfold XE;rw[ev,hg]
 exact XR.bind ha fun w ers h=>by
  show XR ((g (ers.map ER.d)).bind _) _ _
  rw[h.1];exact qfq (hr w) (h.2.1.trans hs) hn
theorem XE.callSb {F:β→RE α} (hg:Γ.fn[k]? = some (nm,g)) (ha:XS Γ es ρ m2 enl nb t2) (hr:∀w,XR (g (enl w)) (F w) fun v er=>Is s t (en v) er) (hs:nb=false) (hn:s.nb=true) (hf:qiw s t en):XE Γ (.call k es) ρ (m2.bind F) en s true:=by
 unfold XE;rw[ev,hg]
 exact XR.bind ha fun w ers h=>by
  show XR ((g (ers.map ER.d)).bind _) _ _
  rw[h.1];exact qdw (hr w) hf (h.2.1.trans hs) hn
theorem XE.callSP {m:RE α} (hg:Γ.fn[k]? = some (nm,g)) (ha:XS Γ es ρ (.ok y) enl nb t2) (hr:XR (g (enl y)) m fun v er=>Is s t (en v) er) (hs:nb=true) (hn:s.nb=true):XE Γ (.call k es) ρ m en s t:=by
 obtain⟨ers,e,h⟩:=ha
 unfold XE;rw[ev,hg,e]
 show XR ((g (ers.map ER.d)).bind _) _ _
 rw[h.1];exact qfq hr (h.2.1.trans hs) hn
theorem XE.callSPb {m:RE α} (hg:Γ.fn[k]? = some (nm,g)) (ha:XS Γ es ρ (.ok y) enl nb t2) (hr:XR (g (enl y)) m fun v er=>Is s t (en v) er) (hs:nb=false) (hn:s.nb=true) (hf:qiw s t en):XE Γ (.call k es) ρ m en s true:=by
 obtain⟨ers,e,h⟩:=ha
 unfold XE;rw[ev,hg,e]
 show XR ((g (ers.map ER.d)).bind _) _ _
 rw[h.1];exact qdw hr hf (h.2.1.trans hs) hn
end
section
variable {Γ:Env} {ρ:List Sl} {α β γ σ τ:Type} {en:α→D} {en2:β→D} {e:τ→D} {a b:Ex} {es:Exs} {s s1 s0:Sh} {t t1 t2 t0 nb:Bool} {m0:RE τ} {m1:RE α} {m2:RE β} {enl:β→List D} {x:τ} {y:β} {k:Nat} {cl:τ→Nat} {fs:τ→List D}
theorem XE.mthS {F:τ→β→RE α} (h:XE Γ a ρ m0 e s0 t0) (hI:∀v,e v=.ins (cl v) (fs v)) (ha:XS Γ es ρ m2 enl nb t2) (hr:∀x,∃g,Γ.mt (cl x) k=some g∧∀w,XR (g (e x::enl w)) (F x w) fun v er=>Is s t (en v) er) (hs:nb=true) (hn:s.nb=true):XE Γ (.mth k a es) ρ (m0.bind fun x=>m2.bind fun w=>F x w) en s t:=by
 unfold XE;rw[ev]
 exact XR.bind h fun v er h1=>by
  obtain⟨g,hg,hr⟩:=hr v
  rw[h1.d,hI]
  simp only[hg]
  exact XR.bind ha fun w ers h=>by rw[h.1,←hI];exact qfq (hr w) (h.2.1.trans hs) hn
theorem XE.mthSb {F:τ→β→RE α} (h:XE Γ a ρ m0 e s0 t0) (hI:∀v,e v=.ins (cl v) (fs v)) (ha:XS Γ es ρ m2 enl nb t2) (hr:∀x,∃g,Γ.mt (cl x) k=some g∧∀w,XR (g (e x::enl w)) (F x w) fun v er=>Is s t (en v) er) (hs:nb=false) (hn:s.nb=true) (hf:qiw s t en):XE Γ (.mth k a es) ρ (m0.bind fun x=>m2.bind fun w=>F x w) en s true:=by
 unfold XE;rw[ev]
 exact XR.bind h fun v er h1=>by
  obtain⟨g,hg,hr⟩:=hr v
  rw[h1.d,hI]
  simp only[hg]
  exact XR.bind ha fun w ers h=>by rw[h.1,←hI];exact qdw (hr w) hf (h.2.1.trans hs) hn
theorem XE.mthSP {m:RE α} (h:XE Γ a ρ (.ok x) e s0 t0) (hI:∀v,e v=.ins (cl v) (fs v)) (ha:XS Γ es ρ (.ok y) enl nb t2) (hr:∃g,Γ.mt (cl x) k=some g∧XR (g (e x::enl y)) m fun v er=>Is s t (en v) er) (hs:nb=true) (hn:s.nb=true):XE Γ (.mth k a es) ρ m en s t:=by
 obtain⟨er,e1,h1⟩:=h
 obtain⟨ers,e2,h2⟩:=ha
 obtain⟨g,hg,hr⟩:=hr
 unfold XE;rw[ev,e1]
 simp only[RE.bind_ok]
 rw[h1.d,hI]
 simp only[hg,e2,RE.bind_ok]
 rw[h2.1,←hI];exact qfq hr (h2.2.1.trans hs) hn
theorem XE.mthSPb {m:RE α} (h:XE Γ a ρ (.ok x) e s0 t0) (hI:∀v,e v=.ins (cl v) (fs v)) (ha:XS Γ es ρ (.ok y) enl nb t2) (hr:∃g,Γ.mt (cl x) k=some g∧XR (g (e x::enl y)) m fun v er=>Is s t (en v) er) (hs:nb=false) (hn:s.nb=true) (hf:qiw s t en):XE Γ (.mth k a es) ρ m en s true:=by
 obtain⟨er,e1,h1⟩:=h
 obtain⟨ers,e2,h2⟩:=ha
 obtain⟨g,hg,hr⟩:=hr
 unfold XE;rw[ev,e1]
 simp only[RE.bind_ok]
 rw[h1.d,hI]
 simp only[hg,e2,RE.bind_ok]
 rw[h2.1,←hI];exact qdw hr hf (h2.2.1.trans hs) hn
theorem XE.newS {c:Nat} {g:List D→RE (List D)} {F:β→RE α} (hg:Γ.nw[k]? = some (c,g)) (ha:XS Γ es ρ m2 enl nb t2) (hr:∀w,XR (g (enl w)) (F w) fun v fs=>en v=.ins c fs):XE Γ (.new k es) ρ (m2.bind F) en .v true:=by
 unfold XE;rw[ev,hg]
 exact XR.bind ha fun w ers h=>by
  show XR ((g (ers.map ER.d)).bind _) _ _
  rw[h.1]
  have e:F w=(F w).bind RE.ok:=by simp
  rw[e]
  exact XR.bind (hr w) fun v fs q=>⟨_,rfl,q.symm,rfl,fun _=>rfl⟩
theorem XE.newSP {c:Nat} {g:List D→RE (List D)} {m:RE α} (hg:Γ.nw[k]? = some (c,g)) (ha:XS Γ es ρ (.ok y) enl nb t2) (hr:XR (g (enl y)) m fun v fs=>en v=.ins c fs):XE Γ (.new k es) ρ m en .v true:=by
 obtain⟨ers,e,h⟩:=ha
 unfold XE;rw[ev,hg,e]
 show XR ((g (ers.map ER.d)).bind _) _ _
 rw[h.1]
 have e:m=m.bind RE.ok:=by simp
 rw[e]
 exact XR.bind hr fun v fs q=>⟨_,rfl,q.symm,rfl,fun _=>rfl⟩
theorem XE.fldG {f:Nat} {p:τ→α} {t:Bool} (ht:t=true→∀v,(en v).flat=true) (h:XE Γ a ρ m0 e s0 t0) (hI:∀v,e v=.ins (cl v) (fs v)) (hk:∀v,∃i,Γ.fi (cl v) f=some i∧(fs v)[i]? = some (en (p v))):XE Γ (.fld a f) ρ (m0.bind fun x=>.ok (p x)) en .v t:=by
 unfold XE;rw[ev]
 exact XR.bind h fun v er h1=>by
  obtain⟨i,e1,e2⟩:=hk v
  rw[h1.d,hI]
  simp only[e1,e2]
  exact qpM rfl fun q=>ht q _
theorem XE.fld {f:Nat} {p:τ→α} (h:XE Γ a ρ m0 e s0 t0) (hI:∀v,e v=.ins (cl v) (fs v)) (hk:∀v,∃i,Γ.fi (cl v) f=some i∧(fs v)[i]? = some (en (p v))):XE Γ (.fld a f) ρ (m0.bind fun x=>.ok (p x)) en .v false:=XE.fldG (fun q=>nomatch q) h hI hk
theorem XE.tupS {F:β→α} (ha:XS Γ es ρ m2 enl nb t) (hf:∀w,en (F w)=.tup (enl w)) (hs:nb=true):XE Γ (.tup es) ρ (m2.bind fun w=>.ok (F w)) en .v t:=by
 unfold XE;rw[ev]
 exact XR.bind ha fun w ers h=>by
  show XR (if ers.all ER.isV=true then _ else _) _ _
  rw[if_pos (h.2.1.trans hs)]
  exact qpM (by rw[hf,h.1]) h.2.2
theorem XE.lstS {F:β→List α} (ha:XS Γ es ρ m2 enl nb t) (hf:∀w,(F w).map en=enl w) (hs:nb=true):XE Γ (.lst es) ρ (m2.bind fun w=>.ok (F w)) (eL en) .f t:=by
 unfold XE;rw[ev]
 exact XR.bind ha fun w ers h=>by
  show XR (if ers.all ER.isV=true then _ else _) _ _
  rw[if_pos (h.2.1.trans hs)]
  exact qiv (by rw[eL,hf,h.1]) h.2.2
abbrev XLs (Γ:Env) (es:Exs) (ρ:List Sl) (xs:List α) (en:α→D) (t:Bool):Prop:=XS Γ es ρ (.ok xs) (fun xs=>xs.map en) true t
theorem XLs.nil:XLs Γ .nil ρ [] en true:=by unfold XLs;unfold XS;rw[evs];exact⟨_,rfl,rfl,rfl,fun _=>rfl⟩
theorem XLs.cons {x:α} {xs:List α} (h:XE Γ a ρ (.ok x) en s t1) (hn:s.nb=true) (hs:XLs Γ es ρ xs en t2):XLs Γ (.cons a es) ρ (x::xs) en (t1&&t2):=by
 have:=XS.consP h hs
 obtain⟨ers,e1,h1,h2,h3⟩:=this
 exact⟨ers,e1,h1,by rw[h2,hn];rfl,h3⟩
theorem XE.lstL {xs:List α} (ha:XLs Γ es ρ xs en t):XE Γ (.lst es) ρ (.ok xs) (eL en) .f t:=XE.lstS (F:=fun xs=>xs) ha (fun _=>rfl) rfl
theorem Rf.run {n m:Nat} {b:Sms} {as:List D} {mm:RE α} (hn:as.length=n) (h:BR Γ b (as.map (fun d=>Sl.val d d.flat)++List.replicate m .non) mm en s t):XR (qcr Γ n m b as) mm fun v er=>Is s t (en v) er:=by
 unfold qcr
 rw[if_pos hn]
 cases mm with
 |bad=>trivial
 |ok v =>
  obtain⟨er,e,h⟩:=h
  cases hr:qaj Γ b (as.map (fun d=>Sl.val d d.flat)++List.replicate m .non)<;>rw[hr] at e<;>cases e
  exact⟨_,rfl,h⟩
 |exc c fs =>
  have h:(qaj Γ b (as.map (fun d=>Sl.val d d.flat)++List.replicate m .non)).rt=_:=h
  cases hr:qaj Γ b (as.map (fun d=>Sl.val d d.flat)++List.replicate m .non)<;>rw[hr] at h<;>cases h
  rfl
theorem Rf.runN {n m:Nat} {b:Sms} {as:List D} {mm:RE σ} {S:σ→List Sl→Prop} (hn:as.length=n) (h:BN Γ b (as.map (fun d=>Sl.val d d.flat)++List.replicate m .non) mm S):XR (qcr Γ n m b as) (mm.bind fun _=>.ok ()) fun v er=>Is .v true (eU v) er:=by
 unfold qcr
 rw[if_pos hn]
 cases mm with
 |bad=>trivial
 |ok v=>obtain⟨er,e,h⟩:=h;rw[e];exact xok rfl
 |exc c fs=>have h:qaj Γ b _=_:=h;rw[h];rfl
theorem Rf.weak {r:RE ER} {m:RE α} (h:Rf r m en s t) (hs:s.nb=true):Rf r m en .n t:=XR.mono h fun _ _ k=>k.weak hs
theorem Rf.low {r:RE ER} {m:RE α} (h:Rf r m en s t):Rf r m en s false:=XR.mono h fun _ _ k=>k.low
theorem Rf.mono {r:RE ER} {m:RE α} (h:Rf r m en s t) (hs:s.nb=true):Rf r m en .n false:=XR.mono h fun _ _ k=>(k.weak hs).low
end
end Cm
namespace Cm
section
variable {Γ:Env} {ρ:List Sl} {α:Type} {en:α→D} {s:Sh} {t:Bool}
theorem XE.call1P {k:Nat} {nm:PySem.Str} {g:List D→RE ER} {τ0:Type} {e0:τ0→D} {a0:Ex} {s0:Sh} {t0:Bool} {x0:τ0} {m:RE α} (hg:Γ.fn[k]? = some (nm,g)) (h0:XE Γ a0 ρ (.ok x0) e0 s0 t0) (hr:XR (g [e0 x0]) m fun v er=>Is s t (en v) er) (hs:(s0.nb&&true)=true) (hn:s.nb=true):XE Γ (.call k (.cons a0 .nil)) ρ m en s t:=XE.callSP hg (XS.consP h0 XS.nil) hr hs hn
theorem XE.call2 {k:Nat} {nm:PySem.Str} {g:List D→RE ER} {τ0:Type} {e0:τ0→D} {a0:Ex} {s0:Sh} {t0:Bool} {τ1:Type} {e1:τ1→D} {a1:Ex} {s1:Sh} {t1:Bool} {m0:RE τ0} {m1:RE τ1} {F:τ0→τ1→RE α} (hg:Γ.fn[k]? = some (nm,g)) (h0:XE Γ a0 ρ m0 e0 s0 t0) (h1:XE Γ a1 ρ m1 e1 s1 t1) (hr:∀x0 x1,XR (g [e0 x0,e1 x1]) (F x0 x1) fun v er=>Is s t (en v) er) (hs:(s0.nb&&(s1.nb&&true))=true) (hn:s.nb=true):XE Γ (.call k (.cons a0 (.cons a1 .nil))) ρ (m0.bind fun x0=>m1.bind fun x1=>F x0 x1) en s t:=
 (XE.callS (F:=fun w=>F w.1 w.2.1) hg (XS.cons h0 (XS.cons h1 XS.nil)) (fun w=>hr _ _) hs hn).cast (by simp only[RE.bind_assoc,RE.bind_ok])
theorem XE.call2P {k:Nat} {nm:PySem.Str} {g:List D→RE ER} {τ0:Type} {e0:τ0→D} {a0:Ex} {s0:Sh} {t0:Bool} {τ1:Type} {e1:τ1→D} {a1:Ex} {s1:Sh} {t1:Bool} {x0:τ0} {x1:τ1} {m:RE α} (hg:Γ.fn[k]? = some (nm,g)) (h0:XE Γ a0 ρ (.ok x0) e0 s0 t0) (h1:XE Γ a1 ρ (.ok x1) e1 s1 t1) (hr:XR (g [e0 x0,e1 x1]) m fun v er=>Is s t (en v) er) (hs:(s0.nb&&(s1.nb&&true))=true) (hn:s.nb=true):XE Γ (.call k (.cons a0 (.cons a1 .nil))) ρ m en s t:=XE.callSP hg (XS.consP h0 (XS.consP h1 XS.nil)) hr hs hn
theorem XE.call2Pb {k:Nat} {nm:PySem.Str} {g:List D→RE ER} {τ0:Type} {e0:τ0→D} {a0:Ex} {s0:Sh} {t0:Bool} {τ1:Type} {e1:τ1→D} {a1:Ex} {s1:Sh} {t1:Bool} {x0:τ0} {x1:τ1} {m:RE α} (hg:Γ.fn[k]? = some (nm,g)) (h0:XE Γ a0 ρ (.ok x0) e0 s0 t0) (h1:XE Γ a1 ρ (.ok x1) e1 s1 t1) (hr:XR (g [e0 x0,e1 x1]) m fun v er=>Is s t (en v) er) (hs:(s0.nb&&(s1.nb&&true))=false) (hn:s.nb=true) (hf:qiw s t en):XE Γ (.call k (.cons a0 (.cons a1 .nil))) ρ m en s true:=XE.callSPb hg (XS.consP h0 (XS.consP h1 XS.nil)) hr hs hn hf
theorem XE.tup2 {τ0:Type} {e0:τ0→D} {a0:Ex} {s0:Sh} {t0:Bool} {τ1:Type} {e1:τ1→D} {a1:Ex} {s1:Sh} {t1:Bool} {m0:RE τ0} {m1:RE τ1} (h0:XE Γ a0 ρ m0 e0 s0 t0) (h1:XE Γ a1 ρ m1 e1 s1 t1) (hs:(s0.nb&&(s1.nb&&true))=true):XE Γ (.tup (.cons a0 (.cons a1 .nil))) ρ (m0.bind fun x0=>m1.bind fun x1=>.ok (x0,x1)) (eT2 e0 e1) .v (t0&&(t1&&true)):=
 (XE.tupS (F:=fun w=>(w.1,w.2.1)) (en:=eT2 e0 e1) (XS.cons h0 (XS.cons h1 XS.nil)) (fun w=>rfl) hs).cast (by simp only[RE.bind_assoc,RE.bind_ok])
theorem XE.tup2P {τ0:Type} {e0:τ0→D} {a0:Ex} {s0:Sh} {t0:Bool} {τ1:Type} {e1:τ1→D} {a1:Ex} {s1:Sh} {t1:Bool} {x0:τ0} {x1:τ1} (h0:XE Γ a0 ρ (.ok x0) e0 s0 t0) (h1:XE Γ a1 ρ (.ok x1) e1 s1 t1) (hs:(s0.nb&&(s1.nb&&true))=true):XE Γ (.tup (.cons a0 (.cons a1 .nil))) ρ (.ok (x0,x1)) (eT2 e0 e1) .v (t0&&(t1&&true)):=XE.tup2 h0 h1 hs
theorem XE.call3P {k:Nat} {nm:PySem.Str} {g:List D→RE ER} {τ0:Type} {e0:τ0→D} {a0:Ex} {s0:Sh} {t0:Bool} {τ1:Type} {e1:τ1→D} {a1:Ex} {s1:Sh} {t1:Bool} {τ2:Type} {e2:τ2→D} {a2:Ex} {s2:Sh} {t2:Bool} {x0:τ0} {x1:τ1} {x2:τ2} {m:RE α} (hg:Γ.fn[k]? = some (nm,g)) (h0:XE Γ a0 ρ (.ok x0) e0 s0 t0) (h1:XE Γ a1 ρ (.ok x1) e1 s1 t1) (h2:XE Γ a2 ρ (.ok x2) e2 s2 t2) (hr:XR (g [e0 x0,e1 x1,e2 x2]) m fun v er=>Is s t (en v) er) (hs:(s0.nb&&(s1.nb&&(s2.nb&&true)))=true) (hn:s.nb=true):XE Γ (.call k (.cons a0 (.cons a1 (.cons a2 .nil)))) ρ m en s t:=XE.callSP hg (XS.consP h0 (XS.consP h1 (XS.consP h2 XS.nil))) hr hs hn
theorem XE.tup3 {τ0:Type} {e0:τ0→D} {a0:Ex} {s0:Sh} {t0:Bool} {τ1:Type} {e1:τ1→D} {a1:Ex} {s1:Sh} {t1:Bool} {τ2:Type} {e2:τ2→D} {a2:Ex} {s2:Sh} {t2:Bool} {m0:RE τ0} {m1:RE τ1} {m2:RE τ2} (h0:XE Γ a0 ρ m0 e0 s0 t0) (h1:XE Γ a1 ρ m1 e1 s1 t1) (h2:XE Γ a2 ρ m2 e2 s2 t2) (hs:(s0.nb&&(s1.nb&&(s2.nb&&true)))=true):XE Γ (.tup (.cons a0 (.cons a1 (.cons a2 .nil)))) ρ (m0.bind fun x0=>m1.bind fun x1=>m2.bind fun x2=>.ok (x0,x1,x2)) (eT3 e0 e1 e2) .v (t0&&(t1&&(t2&&true))):=
 (XE.tupS (F:=fun w=>(w.1,w.2.1,w.2.2.1)) (en:=eT3 e0 e1 e2) (XS.cons h0 (XS.cons h1 (XS.cons h2 XS.nil))) (fun w=>rfl) hs).cast (by simp only[RE.bind_assoc,RE.bind_ok])
theorem XE.tup3P {τ0:Type} {e0:τ0→D} {a0:Ex} {s0:Sh} {t0:Bool} {τ1:Type} {e1:τ1→D} {a1:Ex} {s1:Sh} {t1:Bool} {τ2:Type} {e2:τ2→D} {a2:Ex} {s2:Sh} {t2:Bool} {x0:τ0} {x1:τ1} {x2:τ2} (h0:XE Γ a0 ρ (.ok x0) e0 s0 t0) (h1:XE Γ a1 ρ (.ok x1) e1 s1 t1) (h2:XE Γ a2 ρ (.ok x2) e2 s2 t2) (hs:(s0.nb&&(s1.nb&&(s2.nb&&true)))=true):XE Γ (.tup (.cons a0 (.cons a1 (.cons a2 .nil)))) ρ (.ok (x0,x1,x2)) (eT3 e0 e1 e2) .v (t0&&(t1&&(t2&&true))):=XE.tup3 h0 h1 h2 hs
theorem XE.call4 {k:Nat} {nm:PySem.Str} {g:List D→RE ER} {τ0:Type} {e0:τ0→D} {a0:Ex} {s0:Sh} {t0:Bool} {τ1:Type} {e1:τ1→D} {a1:Ex} {s1:Sh} {t1:Bool} {τ2:Type} {e2:τ2→D} {a2:Ex} {s2:Sh} {t2:Bool} {τ3:Type} {e3:τ3→D} {a3:Ex} {s3:Sh} {t3:Bool} {m0:RE τ0} {m1:RE τ1} {m2:RE τ2} {m3:RE τ3} {F:τ0→τ1→τ2→τ3→RE α} (hg:Γ.fn[k]? = some (nm,g)) (h0:XE Γ a0 ρ m0 e0 s0 t0) (h1:XE Γ a1 ρ m1 e1 s1 t1) (h2:XE Γ a2 ρ m2 e2 s2 t2) (h3:XE Γ a3 ρ m3 e3 s3 t3) (hr:∀x0 x1 x2 x3,XR (g [e0 x0,e1 x1,e2 x2,e3 x3]) (F x0 x1 x2 x3) fun v er=>Is s t (en v) er) (hs:(s0.nb&&(s1.nb&&(s2.nb&&(s3.nb&&true))))=true) (hn:s.nb=true):XE Γ (.call k (.cons a0 (.cons a1 (.cons a2 (.cons a3 .nil))))) ρ (m0.bind fun x0=>m1.bind fun x1=>m2.bind fun x2=>m3.bind fun x3=>F x0 x1 x2 x3) en s t:=
 (XE.callS (F:=fun w=>F w.1 w.2.1 w.2.2.1 w.2.2.2.1) hg (XS.cons h0 (XS.cons h1 (XS.cons h2 (XS.cons h3 XS.nil)))) (fun w=>hr _ _ _ _) hs hn).cast (by simp only[RE.bind_assoc,RE.bind_ok])
theorem XE.call4P {k:Nat} {nm:PySem.Str} {g:List D→RE ER} {τ0:Type} {e0:τ0→D} {a0:Ex} {s0:Sh} {t0:Bool} {τ1:Type} {e1:τ1→D} {a1:Ex} {s1:Sh} {t1:Bool} {τ2:Type} {e2:τ2→D} {a2:Ex} {s2:Sh} {t2:Bool} {τ3:Type} {e3:τ3→D} {a3:Ex} {s3:Sh} {t3:Bool} {x0:τ0} {x1:τ1} {x2:τ2} {x3:τ3} {m:RE α} (hg:Γ.fn[k]? = some (nm,g)) (h0:XE Γ a0 ρ (.ok x0) e0 s0 t0) (h1:XE Γ a1 ρ (.ok x1) e1 s1 t1) (h2:XE Γ a2 ρ (.ok x2) e2 s2 t2) (h3:XE Γ a3 ρ (.ok x3) e3 s3 t3) (hr:XR (g [e0 x0,e1 x1,e2 x2,e3 x3]) m fun v er=>Is s t (en v) er) (hs:(s0.nb&&(s1.nb&&(s2.nb&&(s3.nb&&true))))=true) (hn:s.nb=true):XE Γ (.call k (.cons a0 (.cons a1 (.cons a2 (.cons a3 .nil))))) ρ m en s t:=XE.callSP hg (XS.consP h0 (XS.consP h1 (XS.consP h2 (XS.consP h3 XS.nil)))) hr hs hn
theorem XE.call4Pb {k:Nat} {nm:PySem.Str} {g:List D→RE ER} {τ0:Type} {e0:τ0→D} {a0:Ex} {s0:Sh} {t0:Bool} {τ1:Type} {e1:τ1→D} {a1:Ex} {s1:Sh} {t1:Bool} {τ2:Type} {e2:τ2→D} {a2:Ex} {s2:Sh} {t2:Bool} {τ3:Type} {e3:τ3→D} {a3:Ex} {s3:Sh} {t3:Bool} {x0:τ0} {x1:τ1} {x2:τ2} {x3:τ3} {m:RE α} (hg:Γ.fn[k]? = some (nm,g)) (h0:XE Γ a0 ρ (.ok x0) e0 s0 t0) (h1:XE Γ a1 ρ (.ok x1) e1 s1 t1) (h2:XE Γ a2 ρ (.ok x2) e2 s2 t2) (h3:XE Γ a3 ρ (.ok x3) e3 s3 t3) (hr:XR (g [e0 x0,e1 x1,e2 x2,e3 x3]) m fun v er=>Is s t (en v) er) (hs:(s0.nb&&(s1.nb&&(s2.nb&&(s3.nb&&true))))=false) (hn:s.nb=true) (hf:qiw s t en):XE Γ (.call k (.cons a0 (.cons a1 (.cons a2 (.cons a3 .nil))))) ρ m en s true:=XE.callSPb hg (XS.consP h0 (XS.consP h1 (XS.consP h2 (XS.consP h3 XS.nil)))) hr hs hn hf
end
end Cm
namespace Cm
open PySem PySem.Spec PyProof.Rows L2
section
variable {Γ:Env} {ρ:List Sl} {α β γ δ:Type} {en:α→D} {en2:β→D} {en3:γ→D} {a b c e:Ex} {s s1 s2 s3:Sh} {t t1 t2 t3:Bool} {m:RE α} {x:α} {y:β} {z:γ}
theorem XE.binR {o:Bop} {m1:RE α} {f:α→RE γ} (ha:XE Γ a ρ m1 en s1 t1) (hb:XE Γ b ρ (.ok y) en2 s2 t2) (h:∀x bb,((t1&&t2)=true→bb=true)→XR (evB o (en x) (en2 y) bb) (f x) fun v er=>Is s t (en3 v) er):XE Γ (.bin o a b) ρ (m1.bind f) en3 s t:=by
 cases m1 with
 |bad=>trivial
 |ok x=>exact XE.binP ha hb (h x)
 |exc c fs=>have ha:ev Γ a ρ=_:=ha;unfold XE;rw[ev,ha];rfl
theorem XE.binL {o:Bop} {m2:RE β} {f:β→RE γ} (ha:XE Γ a ρ (.ok x) en s1 t1) (hb:XE Γ b ρ m2 en2 s2 t2) (h:∀y bb,((t1&&t2)=true→bb=true)→XR (evB o (en x) (en2 y) bb) (f y) fun v er=>Is s t (en3 v) er):XE Γ (.bin o a b) ρ (m2.bind f) en3 s t:=by
 cases m2 with
 |bad=>trivial
 |ok y=>exact XE.binP ha hb (h y)
 |exc c fs =>
  obtain⟨er,e1,_⟩:=ha
  have hb:ev Γ b ρ=_:=hb
  unfold XE;rw[ev,e1,hb];rfl
theorem XE.cmpR {o:Cop} {m1:RE α} {f:α→RE Bool} (ha:XE Γ a ρ m1 en s1 t1) (hb:XE Γ b ρ (.ok y) en2 s2 t2) (h:∀x,evC o (en x) (en2 y)=f x):XE Γ (.cmp o a b) ρ (m1.bind f) eB .v true:=by
 cases m1 with
 |bad=>trivial
 |ok x=>exact XE.cmpP ha hb (h x)
 |exc c fs=>have ha:ev Γ a ρ=_:=ha;unfold XE;rw[ev,ha];rfl
theorem XE.nev {e:Ex}:XE Γ e ρ (.bad:RE α) en s t:=trivial
def eTL {α:Type} (en:α→D) (xs:List α):D:=.tup (xs.map en)
def qrA (x:List Nat) (ts:List (List Nat)):RE Bool:=if ((D.str x).fit 0&&D.fits (ts.map eS) 0)=true then .ok (decide (x∈ts)) else .bad
def qrC (x:List Nat) (ts:List (List Nat)):RE Bool:=(qrA x ts).bind fun b=>.ok (!b)
theorem qq7 {α β:Type} (o:Cop) (e1:α→D) (e2:β→D) (x:α) (y:β):evC o (e1 x) (e2 y)=evC o (e1 x) (e2 y):=rfl
theorem SlV.coe {f:α→β} {q:Sl} (h:SlV t (en x) q) (k:∀v,en v=en2 (f v)):SlV t (en2 (f x)) q:=by rw[←k];exact h
def Dec {α β:Type} (en:α→D) (en2:β→D) (f:α→RE β):Prop:=∀v,f v=.bad∨∃w,f v=.ok w∧en v=en2 w
theorem XE.dec {f:α→RE β} (h:XE Γ e ρ (.ok x) en s t) (k:Dec en en2 f):XE Γ e ρ (f x) en2 s t:=by
 rcases k x with k | ⟨w,q,k⟩
 ·rw[k];trivial
 ·rw[q];obtain⟨er,e1,e2⟩:=h;exact⟨er,e1,by rw[←k];exact e2.d,e2.s,e2.t⟩
def dI:D→RE Int
 |.int i=>.ok i
 |_=>.bad
def dS:D→RE (List Nat)
 |.str i=>.ok i
 |_=>.bad
def dLs (f:α→RE β):List α→RE (List β)
 |[]=>.ok []
 |x::xs=>(f x).bind fun y=>(dLs f xs).bind fun ys=>.ok (y::ys)
def dL (f:D→RE β):D→RE (List β)
 |.lst xs=>dLs f xs
 |_=>.bad
def dT5 {α0 α1 α2 α3:Type} (f:α→RE β) (p:α0 × α1 × α2 × α3 × α):RE (α0 × α1 × α2 × α3 × β):=(f p.2.2.2.2).bind fun y=>.ok (p.1,p.2.1,p.2.2.1,p.2.2.2.1,y)
def dTH:D→RE (List Nat × Int × Int × Int × List D)
 |.tup [.str k,.int r,.int c,.int g,.lst m]=>.ok (k,r,c,g,m)
 |_=>.bad
def dP2:D→RE (D × D)
 |.tup [a,b]=>.ok (a,b)
 |_=>.bad
theorem qr3:Dec (eO en) en Cm.unO:=fun v=>by cases v<;>first | exact .inl rfl | exact .inr ⟨_,rfl,rfl⟩
def thD (p:List Nat × Int × Int × Int × List Int):List Nat × Int × Int × Int × List D:=(p.1,p.2.1,p.2.2.1,p.2.2.2.1,p.2.2.2.2.map eI)
def t5L {α0 α1 α2 α3 α:Type} (g:α→D) (p:α0 × α1 × α2 × α3 × List α):α0 × α1 × α2 × α3 × List D:=(p.1,p.2.1,p.2.2.1,p.2.2.2.1,p.2.2.2.2.map g)
def qkm (x:List Int):RE Int:=gd (Nat.ble x.length 1000) (.ok (qoY x:Int))
theorem XE.lset {m:RE (List Int)} (h:XE Γ a ρ m (eL eI) s t):XE Γ (.lset a) ρ (m.bind qkm) eI .v true:=by
 unfold XE;rw[ev]
 exact XR.bind h fun v er k=>by
  rw[k.d]
  simp only[qhq,eL,qaY]
  exact xgd (xok rfl)
def qmf (x y:List Nat):RE (List (List Nat)):=gd (qqE y.length x.length) (.ok ((Txt.split (qar x) (qar y)).map fun z=>z.cps.toList))
def qrj (x y:List Nat):RE Int:=.ok (Txt.find (qar x) (qar y))
def qpv (s:List Nat) (ss:List (List Nat)):RE (List Nat):=gd (leB ((ss.map List.length).sum+ss.length*s.length)) (.ok (Txt.join (qar s) (ss.map qar)).cps.toList)
theorem XE.split {m1 m2:RE (List Nat)} (ha:XE Γ a ρ m1 eS s1 t1) (hb:XE Γ b ρ m2 eS s2 t2):XE Γ (.bm1 .split a b) ρ (m1.bind fun x=>m2.bind fun y=>qmf x y) (eL eS) .f true:=by
 unfold XE;rw[ev]
 exact XR.bind ha fun v er k=>by
  rw[k.d]
  exact XR.bind hb fun w er' k'=>by
   rw[k'.d]
   exact xgd (qiv (by simp[eL,List.map_map,Function.comp_def]) fun _=>rfl)
theorem XE.find {m1 m2:RE (List Nat)} (ha:XE Γ a ρ m1 eS s1 t1) (hb:XE Γ b ρ m2 eS s2 t2):XE Γ (.bm1 .find a b) ρ (m1.bind fun x=>m2.bind fun y=>qrj x y) eI .v true:=by
 unfold XE;rw[ev]
 exact XR.bind ha fun v er k=>by
  rw[k.d]
  exact XR.bind hb fun w er' k'=>by rw[k'.d];exact xok rfl
theorem XE.join {m1:RE (List Nat)} {m2:RE (List (List Nat))} (ha:XE Γ a ρ m1 eS s1 t1) (hb:XE Γ b ρ m2 (eL eS) s2 t2):XE Γ (.bm1 .join a b) ρ (m1.bind fun x=>m2.bind fun y=>qpv x y) eS .v true:=by
 unfold XE;rw[ev]
 exact XR.bind ha fun v er k=>by
  rw[k.d]
  exact XR.bind hb fun w er' k'=>by
   rw[k'.d]
   simp only[evM,eL,qeE]
   exact xgd (xok rfl)
def qpN (x y:List Nat):RE Int:=match PySem.Builtin.Str.occurrences (qar x) (qar y) 0 x.length 1 with
 |j::_=>.ok ((j:Nat):Int)
 |[]=>.bad
theorem XE.inxS {m1 m2:RE (List Nat)} (ha:XE Γ a ρ m1 eS s1 t1) (hb:XE Γ b ρ m2 eS s2 t2):XE Γ (.inxS a b) ρ (m1.bind fun x=>m2.bind fun y=>qpN x y) eI .v true:=by
 unfold XE;rw[ev]
 exact XR.bind ha fun v er k=>by
  rw[k.d]
  exact XR.bind hb fun w er' k'=>by
   rw[k'.d]
   simp only[qhB,qpN]
   cases PySem.Builtin.Str.occurrences (qar v) (qar w) 0 v.length 1 with
   |nil=>trivial
   |cons j js=>exact xok rfl
def qfk (xs:List Int) (y:Int):RE Int:=match xs.findIdx? (fun x=>decide (x=y)) with
 |some j=>.ok (j:Int)
 |none=>.bad
theorem qhD (y:Int):∀xs:List Int,idxD (.int y) (xs.map D.int)=xs.findIdx? (fun x=>decide (x=y))
 |[]=>rfl
 |x::xs=>by
  rw[List.map_cons,idxD,List.findIdx?_cons,qhD y xs]
  simp only[D.eqb]
  by_cases h:x=y<;>simp[h]
theorem XE.inxI {m1:RE (List Int)} {m2:RE Int} (ha:XE Γ a ρ m1 (eL eI) s1 t1) (hb:XE Γ b ρ m2 eI s2 t2):XE Γ (.inxL a b) ρ (m1.bind fun x=>m2.bind fun y=>qfk x y) eI .v true:=by
 unfold XE;rw[ev]
 exact XR.bind ha fun v er k=>by
  rw[k.d]
  exact XR.bind hb fun w er' k'=>by
   rw[k'.d]
   show XR (qdm (v.map D.int) (.int w)) _ _
   unfold qdm qfk
   rw[qcW,qhD]
   simp only[D.fit,Bool.and_self,if_true]
   cases v.findIdx? (fun x=>decide (x=w)) with
   |none=>trivial
   |some j=>exact xok rfl
theorem XE.inxIP {x:List Int} {y:Int} (ha:XE Γ a ρ (.ok x) (eL eI) s1 t1) (hb:XE Γ b ρ (.ok y) eI s2 t2):XE Γ (.inxL a b) ρ (qfk x y) eI .v true:=XE.inxI ha hb
def mmE (k:Bool) (x:List Int) (y:Int):RE Int:=.ok (qpT k x y)
theorem XE.mmd {k:Bool} {m1:RE (List Int)} {m2:RE Int} (ha:XE Γ a ρ m1 (eL eI) s1 t1) (hb:XE Γ b ρ m2 eI s2 t2):XE Γ (.mmd k a b) ρ (m1.bind fun x=>m2.bind fun y=>mmE k x y) eI .v true:=by
 unfold XE;rw[ev]
 exact XR.bind ha fun v er q=>by
  rw[q.d]
  exact XR.bind hb fun w er' q'=>by
   rw[q'.d]
   show XR (qpI k (.lst (v.map D.int)) (.int w)) _ _
   unfold qpI mmE
   simp only[qaY]
   exact xok rfl
def qpw (en:α→D) (en2:β→D) (xs:List α) (y:β):RE Int:=(qdm (xs.map en) (en2 y)).bind fun r=>match r.d with
 |.int i=>.ok i
 |_=>.bad
theorem XE.inxL {m1:RE (List α)} {m2:RE β} (ha:XE Γ a ρ m1 (eL en) s1 t1) (hb:XE Γ b ρ m2 en2 s2 t2):XE Γ (.inxL a b) ρ (m1.bind fun x=>m2.bind fun y=>qpw en en2 x y) eI .v true:=by
 unfold XE;rw[ev]
 exact XR.bind ha fun v er k=>by
  rw[k.d]
  exact XR.bind hb fun w er' k'=>by
   rw[k'.d]
   show XR (qdm (v.map en) (en2 w)) _ _
   unfold qpw qdm
   split
   ·cases idxD (en2 w) (v.map en) with
    |none=>trivial
    |some j=>exact xok rfl
   ·trivial
theorem XE.cntL {m1:RE (List Int)} {m2:RE Int} (ha:XE Γ a ρ m1 (eL eI) s1 t1) (hb:XE Γ b ρ m2 eI s2 t2):XE Γ (.cntL a b) ρ (m1.bind fun x=>m2.bind fun y=>.ok (List.count y x:Int)) eI .v true:=by
 unfold XE;rw[ev]
 exact XR.bind ha fun v er k=>by
  rw[k.d]
  exact XR.bind hb fun w er' k'=>by
   rw[k'.d]
   simp only[qlt,qaY]
   exact xok rfl
def qkr (d:D) (k:Int):RE D:=match d with
 |.lst xs=>atE xs k
 |.tup xs=>atE xs k
 |_=>.bad
theorem XE.idxD {m1:RE D} {m2:RE Int} (ha:XE Γ a ρ m1 eD s1 t) (hb:XE Γ b ρ m2 eI s2 t2):XE Γ (.idx a b) ρ (m1.bind fun x=>m2.bind fun k=>qkr x k) eD .v t:=by
 unfold XE;rw[ev]
 exact XR.bind ha fun v er k=>XR.bind hb fun w er' k'=>by
  rw[k.d,k'.d]
  unfold eD eI qkr atE
  cases v with
  |lst xs =>
   simp only[qot]
   cases L2.atI xs w with
   |none=>trivial
   |some x=>exact⟨_,rfl,rfl,rfl,fun z=>by show(_||_)=true;rw[k.t z];rfl⟩
  |tup xs =>
   simp only[qot]
   cases L2.atI xs w with
   |none=>trivial
   |some x=>exact⟨_,rfl,rfl,rfl,fun z=>by show(_||_)=true;rw[k.t z];rfl⟩
  |_=>trivial
def qsH (d:D):RE Int:=match d with
 |.lst xs=>.ok xs.length
 |.tup xs=>.ok xs.length
 |_=>.bad
def qsd (d:D):RE (List D):=match d with
 |.lst xs=>.ok xs
 |.tup xs=>.ok xs
 |_=>.bad
theorem qpU {α β:Type} (f:α→β) (m:RE (List α)):(m.bind fun xs=>gd (leB xs.length) (.ok (xs.map f)))=m.bind fun xs=>gd (leB xs.length) (lcE (fun _=>.ok true) (fun x=>.ok (f x)) xs):=by
 congr 1;funext xs;rw[qjG,qiO]
theorem Rf.runU {n m:Nat} {b:Sms} {as:List D} {mm:RE Unit} {S:Unit→List Sl→Prop} (hn:as.length=n) (h:BN Γ b (as.map (fun d=>Sl.val d d.flat)++List.replicate m .non) mm S):XR (qcr Γ n m b as) mm fun v er=>Is .v true (eU v) er:=by
 have:=Rf.runN (m:=m) hn h
 have e:(mm.bind fun _=>.ok ())=mm:=by cases mm<;>rfl
 rw[e] at this;exact this
end
theorem qqu {g:List D→RE ER} {ns:List Int} {m:RE Bool} {t:Bool} (h:Rf (g [eL eI ns]) m eB .v t) (e:m=.ok true):∃b,g [.lst (ns.map D.int)]=.ok (.val (.bl true) b):=by
 rw[e] at h
 obtain⟨er,e1,e2⟩:=h
 have h1:=e2.d
 have h2:=e2.s
 cases er with
 |val d b=>cases h1;exact⟨b,e1⟩
 |fre d b=>cases h2
 |brw d b=>cases h2
def tryE {α:Type} (T:Nat→Option Bool) (x:Option Nat):RE α→RE (Option Nat)
 |.bad=>.bad
 |.ok _=>.ok x
 |.exc c fs=>match T c,fs with
  |some true,[]=>.ok (some c)
  |some false,fs=>.exc c fs
  |_,_=>.bad
def tryA {α:Type} (T:Nat→Option Bool) (x:Option Nat) (y:α):RE α→RE (Option Nat × α)
 |.bad=>.bad
 |.ok v=>.ok (x,v)
 |.exc c fs=>match T c,fs with
  |some true,[]=>.ok (some c,y)
  |some false,fs=>.exc c fs
  |_,_=>.bad
section
variable {Γ:Env} {ρ:List Sl} {α:Type} {en:α→D} {e a:Ex} {s:Sh} {t t1:Bool} {m:RE α}
theorem SN.tryE {T:Nat→Option Bool} {k i j:Nat} {x:Option Nat} {qi qj:Sl} (h:XE Γ e ρ m en s t1) (hT:Γ.ck[k]? = some T) (hij:(if i=j then false else true)=true) (h0:ρ[j]? = some qj) (hq:SlV t (eO eX x) qj) (ρ₂:Sl→Sl→List Sl) (hset:∀q r,(ρ.set j q).set i r=ρ₂ q r) (hid:∀r,ρ[i]? = some r→ρ=ρ₂ qj r) (hi:i<ρ.length) :
  SN Γ (.tryx k i j (.ex e)) ρ (Cm.tryE T x m) fun v ρ'=>∃q r,ρ'=ρ₂ q r∧SlV t (eO eX v) q:=by
 have hij:i≠j:=fun e=>by rw[if_pos e] at hij;cases hij
 unfold SN
 rw[Cm.run,trB,hT]
 cases m with
 |bad=>trivial
 |ok v =>
  obtain⟨er,e1,e2⟩:=h
  rw[e1]
  exact⟨ρ,rfl,qj,ρ[i],hid _ (List.getElem?_eq_getElem hi),hq⟩
 |exc c fs =>
  have h:ev Γ e ρ=_:=h
  rw[h]
  simp only[Cm.tryE,RE.bind_exc,trX,if_neg hij]
  cases hc:T c with
  |none=>trivial
  |some b =>
   cases b with
   |false=>exact rfl
   |true =>
    cases fs with
    |nil=>exact⟨_,rfl,_,_,hset _ _,_,rfl,fun _=>rfl⟩
    |cons _ _=>trivial
theorem SN.tryA {T:Nat→Option Bool} {k i j z:Nat} {x:Option Nat} {y:α} {qj qz:Sl} (h:XE Γ e ρ m en s t1) (hs:s.nb=true) (hT:Γ.ck[k]? = some T) (hij:(if i=j then false else true)=true) (h0:ρ[j]? = some qj) (hq:SlV t (eO eX x) qj) (h1:ρ[z]? = some qz) (hz:SlV t1 (en y) qz) (ρ₂:Sl→Sl→Sl→List Sl)
  (hset:∀q r,(ρ.set j q).set i r=ρ₂ q qz r) (hset2:∀r q,ρ[i]? = some r→ρ.set z q=ρ₂ qj q r) (hi:i<ρ.length) :
  SN Γ (.tryx k i j (.as z e)) ρ (Cm.tryA T x y m) fun v ρ'=>∃q r u,ρ'=ρ₂ q r u∧SlV t (eO eX v.1) q∧SlV t1 (en v.2) r:=by
 have hij:i≠j:=fun e=>by rw[if_pos e] at hij;cases hij
 unfold SN
 rw[Cm.run,trB,hT]
 cases m with
 |bad=>trivial
 |ok v =>
  obtain⟨er,e1,e2⟩:=h
  rw[e1]
  have h1:=e2.s
  have h2:=e2.d
  have h3:=e2.t
  cases er with
  |val d b=>simp only[RE.bind_ok,trX,Cm.tryA];exact⟨_,rfl,qj,_,_,hset2 _ _ (List.getElem?_eq_getElem hi),hq,b,by rw[←h2];rfl,h3⟩
  |fre d b=>simp only[RE.bind_ok,trX,Cm.tryA];exact⟨_,rfl,qj,_,_,hset2 _ _ (List.getElem?_eq_getElem hi),hq,b,by rw[←h2];rfl,h3⟩
  |brw d b=>cases s<;>simp_all[qfh,ER.isF,Sh.nb]
 |exc c fs =>
  have h:ev Γ e ρ=_:=h
  rw[h]
  simp only[Cm.tryA,RE.bind_exc,trX,if_neg hij]
  cases hc:T c with
  |none=>trivial
  |some b =>
   cases b with
   |false=>exact rfl
   |true =>
    cases fs with
    |nil=>exact⟨_,rfl,_,qz,_,hset _ _,⟨_,rfl,fun _=>rfl⟩,hz⟩
    |cons _ _=>trivial
def ql0 (T:Nat→Option Bool):Option Nat→RE Bool
 |some c=>match T c with
  |some b=>.ok b
  |none=>.bad
 |none=>.bad
theorem XE.isc {T:Nat→Option Bool} {k:Nat} {x:Option Nat} (h:XE Γ a ρ (.ok x) (eO eX) s t) (hT:Γ.ck[k]? = some T):XE Γ (.isc a k) ρ (ql0 T x) eB .v true:=by
 obtain⟨er,e1,e2⟩:=h
 unfold XE;rw[ev,e1]
 simp only[RE.bind_ok]
 rw[e2.d,hT]
 cases x with
 |none=>trivial
 |some c =>
  show XR (match T c with
   |some b=>ok (.bl b)
   |none=>.bad) (match T c with
   |some b=>.ok b
   |none=>.bad) _
  cases T c with
  |none=>trivial
  |some b=>exact xok rfl
def qru (Ts:List (Option (Nat→Option Bool))):Option Nat→RE Bool
 |some c=>match qkF Ts c with
  |some b=>.ok b
  |none=>.bad
 |none=>.bad
theorem XE.iscT {Ts:List (Option (Nat→Option Bool))} {ks:List Nat} {x:Option Nat} (h:XE Γ a ρ (.ok x) (eO eX) s t) (hT:(ks.map fun k=>Γ.ck[k]?)=Ts):XE Γ (.iscT a ks) ρ (qru Ts x) eB .v true:=by
 obtain⟨er,e1,e2⟩:=h
 unfold XE;rw[ev,e1]
 simp only[RE.bind_ok]
 rw[e2.d,hT]
 cases x with
 |none=>trivial
 |some c =>
  show XR (match qkF Ts c with
   |some b=>ok (.bl b)
   |none=>.bad) (match qkF Ts c with
   |some b=>.ok b
   |none=>.bad) _
  cases qkF Ts c with
  |none=>trivial
  |some b=>exact xok rfl
def qsN (T:Nat→Option Bool) (cl:α→Nat) (x:α):RE Bool:=match T (cl x) with
 |some b=>.ok b
 |none=>.bad
def qrU (n:Int):RE (List Int):=gd (qit n) (.ok (qcD 0 1 n.toNat).reverse)
theorem qkw (n:Nat):qcD (0+(n:Int) - 1) (-1) n=(qcD 0 1 n).reverse:=by
 apply List.ext_getElem
 ·simp[qcD]
 ·intro i h1 h2
  simp[qcD] at h1 h2 ⊢
  omega
theorem XI.rvr {m1:RE Int} (h:XE Γ a ρ m1 eI s t):XI Γ (.rvr a) ρ (m1.bind qrU) eI true false:=by
 unfold XI;rw[evI]
 exact XR.bind h fun n er h1=>by
  rw[h1.d]
  show XR (gd (qit n) _) (gd (qit n) _) _
  cases qit n
  ·trivial
  ·refine⟨_,rfl,?_,fun _=>rfl,fun _=>rfl⟩
   show(qcD (0+(((n - 0).toNat:Nat):Int) - 1) (-1) (n - 0).toNat).map D.int=_
   rw[Int.sub_zero,qkw]
end
inductive RK where
 |unlike | total | rising | seen | counted | joined | nosquare | ring
deriving DecidableEq
def RK.c:RK→Nat
 |.unlike=>0 | .total=>1 | .rising=>2 | .seen=>3 | .counted=>4 | .joined=>5 | .nosquare=>6 | .ring=>7
structure RuleT where
 k:RK
 ground:Int × Int × Int
 cells:List Int
 wanted:Int
 sign:Int
def qp8 (r:RuleT):List D:=[eT3 eI eI eI r.ground,eL eI r.cells,eI r.wanted,eI r.sign]
def eRule (r:RuleT):D:=.ins r.k.c (qp8 r)
inductive KK where
 |clue | only | place | pair | count | step | sums | ways | square | reach | turn
deriving DecidableEq
def KK.c:KK→Nat
 |.clue=>10 | .only=>11 | .place=>12 | .pair=>13 | .count=>14 | .step=>15 | .sums=>16 | .ways=>17 | .square=>18 | .reach=>19 | .turn=>20
def eKind (k:KK):D:=.ins k.c []
structure PuzT where
 ground:Int × Int × Int
 rules:List RuleT
 clues:List Int
def qq6 (p:PuzT):List D:=[eT3 eI eI eI p.ground,eL eRule p.rules,eL eI p.clues]
def ePuz (p:PuzT):D:=.ins 25 (qq6 p)
instance:Flat eRule:=⟨fun _=>rfl⟩
instance:Flat eKind:=⟨fun _=>rfl⟩
instance:Flat ePuz:=⟨fun _=>rfl⟩
section
variable {Γ:Env} {ρ:List Sl} {α:Type} {en:α→D} {e a:Ex} {s:Sh} {t t1:Bool} {m:RE α} {ss:Sms}
theorem XE.sfd {i f c k:Nat} {fs:List D} {x:α} (h:ρ[i]? = some (.slf c fs)) (hf:Γ.fi c f=some k) (hk:fs[k]? = some (en x)):XE Γ (.sfd i f) ρ (.ok x) en .v true:=by
 unfold XE;rw[ev,h]
 simp only[hf,hk]
 exact qpM rfl fun _=>rfl
theorem SN.fset {f c:Nat} {fs:List D} {r:List Sl} (h:XE Γ e ρ m en s t) (hs:s.nb=true) (hS:qiw s t en) (h0:ρ=.slf c fs::r) (hr:qlx r=true) (hf:Γ.fi c f=some fs.length) (h9:Nat.ble fs.length 900=true):SN Γ (.fset f e) ρ m fun v ρ'=>ρ'=.slf c (fs++[en v])::r:=by
 unfold SN
 rw[Cm.run]
 cases m with
 |bad=>trivial
 |exc c fs=>have h:ev Γ e ρ=_:=h;rw[h];rfl
 |ok v =>
  obtain⟨er,e1,e2⟩:=h
  rw[e1]
  have h1:=e2.s
  have h2:=e2.d
  have h3:=e2.t
  have key:∀g:D→Out,heldF er g=g (en v):=fun g=>by
   cases er with
   |val d b =>
    have h2:d=en v:=h2
    subst h2
    have:(b||(en v).flat)=true:=by
     rcases hS with q | q | q
     ·have:b=true:=h3 q
      rw[this];rfl
     ·rw[q.2];simp
     ·rw[q.1] at h1;cases h1
    simp only[heldF,this,qbP]
   |fre d b =>
    have h2:D.lst d=en v:=h2
    have:(b||D.flats d)=true:=by
     rcases hS with q | q | q
     ·have:b=true:=h3 q
      rw[this];rfl
     ·rw[q.1] at h1;cases h1
     ·rw[q.2 v d h2.symm];simp
    simp only[heldF,this,qbP,h2]
   |brw d b=>cases s<;>simp_all[qfh,ER.isF,Sh.nb]
  simp only[RE.out_ok]
  rw[key]
  subst h0
  simp only[qlG,hr,if_true,hf,h9,qbP]
  exact⟨_,rfl,rfl⟩
theorem Ini.run {c nf n k:Nat} {b:Sms} {as:List D} {mm:RE α} {fs:α→List D} (hn:as.length=n) (h:BN Γ b (.slf c []::(as.map (fun d=>Sl.val d d.flat)++List.replicate k .non)) mm fun v ρ'=>∃r,ρ'=.slf c (fs v)::r∧(fs v).length=nf) (he:∀v,mm=.ok v→en v=.ins c (fs v)):XR (qrS Γ c nf n k b as) mm fun v gs=>en v=.ins c gs:=by
 unfold qrS
 rw[if_pos hn]
 cases mm with
 |bad=>trivial
 |exc c fs=>have h:qaj Γ b _=_:=h;rw[h];rfl
 |ok v =>
  obtain⟨ρ',e,r,e2,e3⟩:=h
  rw[e,e2]
  simp only[if_true,e3]
  exact⟨_,rfl,he v rfl⟩
end
instance:Flat (eTL eS):=⟨fun v=>by
 show D.flats (v.map eS)=true
 exact qek v⟩
section
variable {Γ:Env} {ρ:List Sl} {a b:Ex} {s s1 s2:Sh} {t t1 t2:Bool}
theorem qhS:∀xs:List (List Int),qmb (xs.map (eL eI))=some xs
 |[]=>rfl
 |x::xs=>by
  have h1:qaq (x.map eI)=some x:=qaY x
  show(match qaq (x.map eI) with
   |some n=>(qmb (xs.map (eL eI))).map (n :: ·)
   |none=>none)=_
  rw[h1,qhS xs]
  rfl
theorem XE.srtL {m:RE (List (List Int))} (ha:XE Γ a ρ m (eL (eL eI)) s t):XE Γ (.srtL a) ρ (m.bind fun x=>.ok (qdn x)) (eL (eL eI)) .f t:=by
 unfold XE;rw[ev]
 exact XR.bind ha fun x er hx=>by
  rw[hx.d]
  show XR (match qmb (x.map (eL eI)) with
   |some ls=>RE.ok (ER.fre ((qdn ls).map liV) er.b)
   |none=>.bad) _ _
  rw[qhS]
  exact qiv rfl hx.t
def qnc (x:List Int):RE (List Int):=gd (Nat.ble x.length 63) (.ok (qiy x))
theorem XE.sset {m:RE (List Int)} (h:XE Γ a ρ m (eL eI) s t):XE Γ (.sset a) ρ (m.bind qnc) (eL eI) .f true:=by
 unfold XE;rw[ev]
 exact XR.bind h fun x er hx=>by
  rw[hx.d]
  show XR (match qaq (x.map eI) with
   |some ns=>gd (Nat.ble ns.length 63) (RE.ok (ER.fre ((qiy ns).map D.int) true))
   |none=>.bad) _ _
  rw[show qaq (x.map eI)=some x from qaY x]
  unfold qnc
  show XR (gd _ _) (gd _ _) _
  cases Nat.ble x.length 63 with
  |true=>exact qiv rfl fun z=>rfl
  |false=>trivial
def qsT {α:Type} (en:α→D) (os:List (List Int)) (v:α):RE α:=if qml os (en v)=true then .ok v else .bad
def qqr (x:List Int):RE (List Int):=gd (leB x.length) (.ok x.reverse)
theorem XE.lrev {m:RE (List Int)} (h:XE Γ a ρ m (eL eI) s t):XE Γ (.lrev a) ρ (m.bind qqr) (eL eI) .f true:=by
 unfold XE;rw[ev]
 exact XR.bind h fun x er hx=>by
  rw[hx.d]
  show XR (match qaq (x.map eI) with
   |some ns=>gd (leB ns.length) (RE.ok (ER.fre (ns.reverse.map D.int) true))
   |none=>.bad) _ _
  rw[show qaq (x.map eI)=some x from qaY x]
  unfold qqr
  show XR (gd _ _) (gd _ _) _
  cases leB x.length with
  |true=>exact qiv rfl fun z=>rfl
  |false=>trivial
def qqf (T:List (List Nat)) (x:List Nat):RE Int:=match qmh x T with
 |some j=>.ok (j:Int)
 |none=>.bad
theorem qhX:∀(T:List (List Nat)),qcV (T.map eS)=some T
 |[]=>rfl
 |t::T=>by
  show(qcV (T.map eS)).map (t :: ·)=_
  rw[qhX T];rfl
theorem XE.inxT {k:Nat} {m:RE (List Nat)} {T:List (List Nat)} {nm:PySem.Str} {c:D} (ha:XE Γ a ρ m eS s t) (h:Γ.gc[k]? = some (nm,c)) (hT:c=eTL eS T):XE Γ (.inxT k a) ρ (m.bind fun x=>qqf T x) eI .v true:=by
 unfold XE;rw[ev,h]
 have e:qkW c=some T:=by rw[hT];exact qhX T
 simp only[e]
 exact XR.bind ha fun x er hx=>by
  rw[hx.d]
  show XR (match qmh x T with
   |some j=>ok (.int j)
   |none=>.bad) _ _
  unfold qqf
  cases qmh x T with
  |none=>trivial
  |some j=>exact xok rfl
abbrev DTb:Type:=List (List Nat × Option (List (List Nat)))
def dtD (t:DTb):List (List Nat × Option D):=t.map fun p=>(p.1,p.2.map (eTL eS))
theorem qiz (t:DTb) (x:List Nat):(dtD t).lookup x=(t.lookup x).map fun o=>o.map (eTL eS):=by
 unfold dtD
 induction t with
 |nil=>rfl
 |cons p t ih =>
  rw[List.map_cons,List.lookup_cons,List.lookup_cons]
  cases x == p.1 with
  |true=>rfl
  |false=>exact ih
def qrz (t:DTb) (n:Bool) (x:List Nat):RE Bool:=match t.lookup x with
 |some o=>.ok (o.isSome == n)
 |none=>.bad
def qrx (t:DTb) (x:List Nat):RE (List (List Nat)):=match t.lookup x with
 |some (some z)=>.ok z
 |_=>.bad
theorem XE.din {k:Nat} {n:Bool} {m:RE (List Nat)} {T:DTb} {nm:PySem.Str} {T':List (List Nat × Option D)} (ha:XE Γ a ρ m eS s t) (h:Γ.dc[k]? = some (nm,T')) (hT:T'=dtD T):XE Γ (.din n k a) ρ (m.bind fun x=>qrz T n x) eB .v true:=by
 unfold XE;rw[ev,h]
 exact XR.bind ha fun x er hx=>by
  rw[hx.d]
  show XR (match T'.lookup x with
   |some o=>ok (.bl (o.isSome == n))
   |none=>.bad) _ _
  rw[hT,qiz]
  unfold qrz
  cases T.lookup x with
  |none=>trivial
  |some o=>cases o<;>exact xok rfl
theorem XE.dgi {k:Nat} {m:RE (List Nat)} {T:DTb} {nm:PySem.Str} {T':List (List Nat × Option D)} (ha:XE Γ a ρ m eS s t) (h:Γ.dc[k]? = some (nm,T')) (hT:T'=dtD T):XE Γ (.dgi k a) ρ (m.bind fun x=>qrx T x) (eTL eS) .v true:=by
 unfold XE;rw[ev,h]
 exact XR.bind ha fun x er hx=>by
  rw[hx.d]
  show XR (match T'.lookup x with
   |some (some d)=>ok d
   |_=>.bad) _ _
  rw[hT,qiz]
  unfold qrx
  cases T.lookup x with
  |none=>trivial
  |some o=>cases o with
   |none=>trivial
   |some z=>exact xok rfl
end
theorem XE.bad {Γ:Env} {ρ:List Sl} {α:Type} {en:α→D} {e:Ex} {s:Sh} {t:Bool}:XE Γ e ρ (RE.bad:RE α) en s t:=trivial
def qhv {α:Type} (en:α→D) (m:List (Int × α)):List (Int × D):=m.map fun e=>(e.1,en e.2)
def SlM (t:Bool) (m:List (Int × D)) (s:Sl):Prop:=∃f,s=.dct m f∧(t=true→f=true)
theorem SlM.low {t:Bool} {m:List (Int × D)} {s:Sl} (h:SlM t m s):SlM false m s:=by
 obtain⟨f,e,_⟩:=h
 exact⟨f,e,fun e=>nomatch e⟩
theorem qdy {α:Type} {en:α→D} {k:Int}:∀{m:List (Int × α)},qfF k (qhv en m)=(qfF k m).map en
 |[]=>rfl
 |e::m=>by
  show qfF k ((e.1,en e.2)::qhv en m)=_
  unfold qfF
  by_cases q:e.1=k
  ·rw[if_pos q,if_pos q];rfl
  ·rw[if_neg q,if_neg q];exact qdy
theorem qla {α:Type} {en:α→D} {k:Int} {x:α} {m:List (Int × α)}:dput k (en x) (qhv en m)=qhv en (dput k x m):=by
 unfold dput
 rw[qdy,Option.isSome_map]
 split
 ·unfold qqP qhv
  rw[List.map_map,List.map_map]
  refine List.map_congr_left fun e _=>?_
  show(if e.1=k then (e.1,en x) else (e.1,en e.2))=(fun e=>(e.1,en e.2)) (if e.1=k then (e.1,x) else e)
  split<;>rfl
 ·unfold qhv
  rw[List.map_append];rfl
def qpR {α:Type} (m:List (Int × α)) (k:Int):RE α:=match qfF k m with
 |some x=>.ok x
 |none=>.bad
def qpq {α:Type} (m:List (Int × α)) (k:Int) (x:α):RE (List (Int × α)):=gd (leB (m.length+1)) (.ok (dput k x m))
section
variable {Γ:Env} {ρ:List Sl} {α:Type} {en:α→D} {e b ix:Ex} {s s2:Sh} {t t1 t2:Bool} {q0:Sl} {m:List (Int × α)} {i:Nat}
theorem XE.dhas {n:Bool} {m2:RE Int} (h0:ρ[i]? = some q0) (hq:SlM t (qhv en m) q0) (hb:XE Γ b ρ m2 eI s2 t2):XE Γ (.dhas n i b) ρ (m2.bind fun k=>.ok ((qfF k m).isSome == n)) eB .v true:=by
 obtain⟨f,rfl,hf⟩:=hq
 unfold XE;rw[ev,h0]
 exact XR.bind hb fun k ek hk=>by
  rw[hk.d]
  show XR (ok (.bl ((qfF k (qhv en m)).isSome == n))) _ _
  rw[qdy,Option.isSome_map]
  exact xok rfl
theorem XE.dat {m2:RE Int} (h0:ρ[i]? = some q0) (hq:SlM t (qhv en m) q0) (hb:XE Γ b ρ m2 eI s2 t2):XE Γ (.dat i b) ρ (m2.bind fun k=>qpR m k) en .v t:=by
 obtain⟨f,rfl,hf⟩:=hq
 unfold XE;rw[ev,h0]
 exact XR.bind hb fun k ek hk=>by
  rw[hk.d]
  show XR (match qfF k (qhv en m) with
   |some d=>RE.ok (ER.val d (f||d.flat))
   |none=>.bad) _ _
  rw[qdy]
  unfold qpR
  cases qfF k m with
  |none=>trivial
  |some x=>exact⟨_,rfl,rfl,rfl,fun z=>by show(f||_)=true;rw[hf z];rfl⟩
theorem SN.dnew {en:α→D} (ρ₂:Sl→List Sl) (hset:∀q,ρ.set i q=ρ₂ q):SN Γ (.dnew i) ρ (RE.ok ([]:List (Int × α))) fun v ρ'=>∃q,ρ'=ρ₂ q∧SlM true (qhv en v) q:=by
 unfold SN
 rw[Cm.run]
 exact⟨_,rfl,_,hset _,true,rfl,fun _=>rfl⟩
theorem SN.dput {m1:RE α} {m2:RE Int} (ρ₂:Sl→List Sl) (h:XE Γ e ρ m1 en s t1) (hs:s.nb=true) (h0:ρ[i]? = some q0) (hq:SlM t2 (qhv en m) q0) (hi:XE Γ ix ρ m2 eI s2 t) (hset:∀q,ρ.set i q=ρ₂ q) :
  SN Γ (.dput i ix e) ρ (m1.bind fun x=>m2.bind fun k=>qpq m k x) fun v ρ'=>∃q,ρ'=ρ₂ q∧SlM (t1&&t2) (qhv en v) q:=by
 unfold SN
 rw[Cm.run]
 obtain⟨f,rfl,hf⟩:=hq
 cases m1 with
 |bad=>trivial
 |exc c fs=>have h:ev Γ _ ρ=_:=h;rw[h];rfl
 |ok x =>
  obtain⟨er,e1,h1⟩:=h
  rw[e1]
  simp only[RE.out_ok,RE.bind_ok]
  obtain⟨b1,q1,r1⟩:=qcy h1 hs
  rw[q1,qis,h0]
  simp only
  cases m2 with
  |bad=>trivial
  |exc c fs=>have h:ev Γ _ ρ=_:=hi;rw[h];rfl
  |ok k =>
   obtain⟨er2,e2,h2⟩:=hi
   rw[e2]
   have hl:(qhv en m).length=m.length:=List.length_map _
   simp only[RE.out_ok,RE.bind_ok,h2.d,hl,qpq]
   cases leB (m.length+1) with
   |false=>trivial
   |true =>
    refine⟨_,rfl,_,hset _,_,by rw[qla],fun z=>?_⟩
    rw[Bool.and_eq_true] at z
    rw[r1 z.1,hf z.2];rfl
def qp4 (xs:List α) (_:α):RE Unit:=gd (leB (xs.length+1)) (.ok ())
theorem SN.tapp {o:Ex} {t1:Bool} {m1:RE (List α)} {m2:RE α} (ho:XE Γ o ρ m1 (eL en) .f t1) (h:XE Γ e ρ m2 en s t) (hs:s.nb=true):SN Γ (.tapp o e) ρ (m1.bind fun xs=>m2.bind fun x=>qp4 xs x) fun _ ρ'=>ρ'=ρ:=by
 unfold SN
 rw[Cm.run]
 cases m1 with
 |bad=>trivial
 |exc c fs=>have h:ev Γ _ ρ=_:=ho;rw[h];rfl
 |ok xs =>
  obtain⟨er,e1,h1⟩:=ho
  rw[e1]
  have k1:=h1.s
  have k2:=h1.d
  cases er with
  |val _ _=>cases k1
  |brw _ _=>cases k1
  |fre ds b =>
   cases k2
   simp only[RE.out_ok,RE.bind_ok]
   cases m2 with
   |bad=>trivial
   |exc c fs=>have h:ev Γ _ ρ=_:=h;rw[h];rfl
   |ok x =>
    obtain⟨er2,e2,h2⟩:=h
    rw[e2]
    simp only[RE.out_ok,RE.bind_ok]
    obtain⟨b1,q1,r1⟩:=qcy h2 hs
    rw[q1,List.length_map,qp4]
    cases leB (xs.length+1) with
    |false=>trivial
    |true=>exact⟨_,rfl,rfl⟩
theorem SN.tclr {o:Ex} {t1:Bool} {m1:RE (List α)} (ho:XE Γ o ρ m1 (eL en) .f t1):SN Γ (.tclr o) ρ (m1.bind fun _=>.ok ()) fun _ ρ'=>ρ'=ρ:=by
 unfold SN
 rw[Cm.run]
 cases m1 with
 |bad=>trivial
 |exc c fs=>have h:ev Γ _ ρ=_:=ho;rw[h];rfl
 |ok xs =>
  obtain⟨er,e1,h1⟩:=ho
  rw[e1]
  have k1:=h1.s
  cases er with
  |val _ _=>cases k1
  |brw _ _=>cases k1
  |fre ds b=>exact⟨_,rfl,rfl⟩
end
end Cm
set_option maxHeartbeats 2000000
namespace Cm
open PySem PySem.Spec PyProof.Rows L2
def SlW {α:Type} (en:α→D) (v:List (List α)) (s:Sl):Prop:=s=.row (v.map (List.map en))
theorem SlV.pk {t:Bool} {d:D} {s:Sl} (h:SlV t d s):SlV t d (pkS s):=by
 obtain⟨f,e,k⟩:=h
 rcases qjN e with rfl | ⟨rfl,j,rfl⟩
 ·exact⟨f,rfl,k⟩
 ·exact⟨false,rfl,k⟩
theorem SlO.pk {t:Bool} {ds:List D} {s:Sl} (h:SlO t ds s):SlO t ds (pkS s):=by
 obtain⟨f,rfl,k⟩:=h
 exact⟨f,rfl,k⟩
theorem SlM.pk {t:Bool} {m:List (Int × D)} {s:Sl} (h:SlM t m s):SlM t m (pkS s):=by
 obtain⟨f,rfl,k⟩:=h
 exact⟨f,rfl,k⟩
theorem SlW.pk {α:Type} {en:α→D} {v:List (List α)} {s:Sl} (h:SlW en v s):SlV true (eL (eL en) v) (pkS s):=by
 rw[show s=.row (v.map (List.map en)) from h]
 refine⟨true,?_,fun _=>rfl⟩
 show Sl.rd (.val (.lst ((v.map (List.map en)).map D.lst)) true)=.val (.lst (v.map (eL en))) true
 rw[List.map_map];rfl
def pkM {α:Type}:RE α→RE α
 |.exc c fs=>if D.flats fs=true then .exc c fs else .bad
 |m=>m
@[simp] theorem qfI {α:Type} (x:α):pkM (.ok x)=.ok x:=rfl
theorem qff {α:Type} {en:α→D} (h:∀v,(en v).flat=true):∀xs:List α,D.flats (xs.map en)=true
 |[]=>rfl
 |x::xs=>by
  show((en x).flat&&D.flats (xs.map en))=true
  rw[h x,qff h xs];rfl
def qsa {α:Type} (v:List (List α)) (k:Nat) (x:α):RE (List (List α)):=match v[k]? with
 |some xs=>gd (leB (xs.length+1)) (.ok (v.set k (xs++[x])))
 |none=>.bad
def ql1 {α:Type} (v:List (List α)) (k:Nat):RE (List (List α)):=match v[k]? with
 |some _=>.ok (v.set k [])
 |none=>.bad
def qqt {α:Type} (v:List (List α)) (k:Nat) (m:Int) (x:α):RE (List (List α)):=match v[k]? with
 |some xs=>match ixN xs.length m with
  |some j=>.ok (v.set k (xs.set j x))
  |none=>.bad
 |none=>.bad
section
variable {Γ:Env} {ρ:List Sl} {α β τ:Type} {en:α→D} {e ix:Ex} {es:Exs} {s s2:Sh} {t t1 t2:Bool} {q0:Sl} {i k:Nat} {v:List (List α)}
theorem XE.pkV {m:RE α} (h:XE Γ e (ρ.map pkS) m en .v t) (hf:∀v,(en v).flat=true):XE Γ (.pk e) ρ (pkM m) en .v true:=by
 unfold XE;rw[ev]
 cases m with
 |bad=>trivial
 |exc c fs =>
  have h:ev Γ e _=_:=h
  rw[h]
  show XR (if D.flats fs=true then RE.exc c fs else RE.bad) (if D.flats fs=true then RE.exc c fs else RE.bad) _
  split
  ·rfl
  ·trivial
 |ok v =>
  obtain⟨er,e1,h1⟩:=h
  rw[e1]
  have k1:=h1.s
  have k2:=h1.d
  cases er with
  |val d b =>
   have k2:d=en v:=k2
   subst k2
   refine⟨.val (en v) true,?_,rfl,rfl,fun _=>rfl⟩
   show(if (en v).flat=true then RE.ok (ER.val (en v) true) else .bad)=_
   rw[if_pos (hf v)]
  |fre _ _=>cases k1
  |brw _ _=>cases k1
theorem XE.pkF {m:RE (List α)} (h:XE Γ e (ρ.map pkS) m (eL en) .f t) (hf:∀v,(en v).flat=true):XE Γ (.pk e) ρ (pkM m) (eL en) .f true:=by
 unfold XE;rw[ev]
 cases m with
 |bad=>trivial
 |exc c fs =>
  have h:ev Γ e _=_:=h
  rw[h]
  show XR (if D.flats fs=true then RE.exc c fs else RE.bad) (if D.flats fs=true then RE.exc c fs else RE.bad) _
  split
  ·rfl
  ·trivial
 |ok v =>
  obtain⟨er,e1,h1⟩:=h
  rw[e1]
  have k1:=h1.s
  have k2:=h1.d
  cases er with
  |fre ds b =>
   have k2:D.lst ds=eL en v:=k2
   injection k2 with k2
   subst k2
   refine⟨.fre (v.map en) true,?_,rfl,rfl,fun _=>rfl⟩
   show(if D.flats (v.map en)=true then RE.ok (ER.fre (v.map en) true) else .bad)=_
   rw[if_pos (qff hf v)]
  |val _ _=>cases k1
  |brw _ _=>cases k1
abbrev XEF (Γ:Env) (es:Exs) (ρ:List Sl) (m:RE (List (List α))) (en:α→D):Prop:=XR (evF Γ es ρ) m fun v dss=>dss=v.map (List.map en)
theorem XEF.nil:XEF Γ .nil ρ (.ok []) en:=by unfold XEF;rw[evF];exact⟨_,rfl,rfl⟩
theorem XEF.cons {m1:RE (List α)} {m2:RE (List (List α))} (h:XE Γ e ρ m1 (eL en) .f t) (hf:∀v,(en v).flat=true) (hs:XEF Γ es ρ m2 en):XEF Γ (.cons e es) ρ (m1.bind fun x=>m2.bind fun r=>.ok (x::r)) en:=by
 unfold XEF;rw[evF]
 refine XR.bind h fun x er h1=>?_
 have k1:=h1.s
 have k2:=h1.d
 cases er with
 |val _ _=>cases k1
 |brw _ _=>cases k1
 |fre ds b =>
  have k2:D.lst ds=eL en x:=k2
  injection k2 with k2
  subst k2
  show XR (if D.flats (x.map en)=true then _ else _) _ _
  rw[if_pos (qff hf x)]
  exact XR.bind hs fun r dss e=>⟨_,rfl,by rw[e];rfl⟩
theorem SN.row {m:RE (List (List α))} (ρ₂:Sl→List Sl) (h:XEF Γ es ρ m en) (hset:∀q,ρ.set i q=ρ₂ q) :
  SN Γ (.row i es) ρ (m.bind fun v=>gd (leB v.length) (.ok v)) fun v ρ'=>∃q,ρ'=ρ₂ q∧SlW en v q:=by
 unfold SN
 rw[Cm.run]
 cases m with
 |bad=>trivial
 |exc c fs=>have h:evF Γ _ ρ=_:=h;rw[h];rfl
 |ok v =>
  obtain⟨dss,e1,rfl⟩:=h
  rw[e1]
  have hl:(v.map (List.map en)).length=v.length:=List.length_map _
  simp only[RE.out_ok,RE.bind_ok,hl]
  cases leB v.length with
  |false=>trivial
  |true=>exact⟨_,rfl,_,hset _,rfl⟩
theorem SN.rclr (ρ₂:Sl→List Sl) (h0:ρ[i]? = some q0) (hq:SlW en v q0) (hset:∀q,ρ.set i q=ρ₂ q) :
  SN Γ (.rclr i k) ρ (ql1 v k) fun v ρ'=>∃q,ρ'=ρ₂ q∧SlW en v q:=by
 unfold SN
 rw[Cm.run]
 have hq:q0=_:=hq
 subst hq
 rw[qez,h0]
 simp only[List.getElem?_map,ql1]
 cases e:v[k]? with
 |none=>trivial
 |some xs=>exact⟨_,rfl,_,hset _,by show Sl.row _=.row _;rw[List.map_set];rfl⟩
theorem SN.rput {m1:RE α} {m2:RE Int} (ρ₂:Sl→List Sl) (h:XE Γ e ρ m1 en s t1) (hs:s.nb=true) (hf:∀v,(en v).flat=true) (hk:(v[k]?).isSome=true) (h0:ρ[i]? = some q0) (hq:SlW en v q0) (hi:XE Γ ix ρ m2 eI s2 t) (hset:∀q,ρ.set i q=ρ₂ q) :
  SN Γ (.rput false i k ix e) ρ (m1.bind fun x=>m2.bind fun m=>qqt v k m x) fun v ρ'=>∃q,ρ'=ρ₂ q∧SlW en v q:=by
 unfold SN
 rw[Cm.run]
 have hq:q0=_:=hq
 subst hq
 cases m1 with
 |bad=>trivial
 |exc c fs=>have h:ev Γ _ ρ=_:=h;rw[h];rfl
 |ok x =>
  obtain⟨er,e1,h1⟩:=h
  rw[e1]
  simp only[RE.out_ok,RE.bind_ok]
  obtain⟨b1,q1,r1⟩:=qcy h1 hs
  rw[q1,qez,h0]
  simp only[List.getElem?_map]
  cases ek:v[k]? with
  |none=>rw[ek] at hk;cases hk
  |some xs =>
   simp only[Option.map_some]
   cases m2 with
   |bad=>trivial
   |exc c fs=>have h:ev Γ _ ρ=_:=hi;rw[h];rfl
   |ok m =>
    obtain⟨er2,e2,h2⟩:=hi
    rw[e2]
    have hl:(xs.map en).length=xs.length:=List.length_map _
    simp only[RE.out_ok,RE.bind_ok,h2.d,hl,qqt,ek]
    cases ixN xs.length m with
    |none=>trivial
    |some j =>
     simp only[hf x]
     refine⟨_,rfl,_,hset _,?_⟩
     show Sl.row _=.row _
     rw[List.map_set,List.map_set]
end
end Cm
namespace Cm
def qay:List (List Nat):=[[99,108,117,101],[111,110,108,121],[112,108,97,99,101],[99,111,117,110,116],[115,116,101,112],[115,117,109],[115,113,117,97,114,101],[114,101,97,99,104],[116,117,114,110],[112,97,105,114],[119,97,121,115]]
def qdQ:DTb:=[([111,110,108,121],some [[117,110,108,105,107,101]]),([112,108,97,99,101],some [[117,110,108,105,107,101]]),([99,111,117,110,116],some [[99,111,117,110,116]]),([115,116,101,112],some [[114,105,115,105,110,103]]),([115,117,109],some [[115,117,109]]),([115,113,117,97,114,101],some [[110,111,115,113,117,97,114,101]]),([114,101,97,99,104],some [[106,111,105,110,101,100],[114,105,110,103]]),([116,117,114,110],some [[114,105,110,103]]),([112,97,105,114],some [[117,110,108,105,107,101]]),([99,108,117,101],none),([119,97,121,115],none)]
def F.floor_of (aE:Int) (aQ:Int) (am:Int):RE (Int × Int × Int):=
 ((RE.ok (!(decide (1≤aE)&&decide (aE≤6)))).bind fun k4=>if k4=true then RE.ok true else ((RE.ok (!(decide (1≤aQ)&&decide (aQ≤6)))).bind fun k3=>if k3=true then RE.ok true else ((qix aE aQ).bind fun x1=>RE.ok (decide (16<x1))))).bind fun k5=>if k5=true then (RE.exc 31 []) else ((RE.ok (!(decide (1≤am)&&decide (am≤6)))).bind fun k6=>if k6=true then (RE.exc 31 []) else (RE.ok (aE,aQ,am)))
def F.many_cells (ah:Int × Int × Int):RE Int:=
 qix ah.1 ah.2.1
def F.spot_of (ah:Int × Int × Int) (ab:Int):RE (Int × Int):=
 (qks ab ah.2.1).bind fun x1=>(qgF ab ah.2.1).bind fun x2=>RE.ok (x1,x2)
def F.beside (ah:Int × Int × Int) (ab:Int):RE (List Int):=
 (RE.ok ah).bind fun p1=>(F.spot_of ah ab).bind fun p2=>(RE.ok ([]:List Int)).bind fun ai=>((RE.ok (decide (0<p2.1))).bind fun k3=>if k3=true then ((qdp ai (ab - p1.2.1)).bind fun ai=>RE.ok ai) else (RE.ok ai)).bind fun(p4:List Int)=>((RE.ok (decide (0<p2.2))).bind fun k5=>if k5=true then ((qdp p4 (ab - 1)).bind fun ai=>RE.ok ai) else (RE.ok p4)).bind fun(p6:List Int)=>((RE.ok (decide (p2.2<(p1.2.1 - 1)))).bind fun k7=>if k7=true then ((qdp p6 (ab+1)).bind fun ai=>RE.ok ai) else (RE.ok p6)).bind fun(p8:List Int)=>((RE.ok (decide (p2.1<(p1.1 - 1)))).bind fun k9=>if k9=true then ((qdp p8 (ab+p1.2.1)).bind fun ai=>RE.ok ai) else (RE.ok p8)).bind fun(p10:List Int)=>RE.ok p10
def F.squares (ah:Int × Int × Int):RE (List (List Int)):=
 (RE.ok ah).bind fun p1=>(RE.ok ([]:List (List Int))).bind fun ai=>(((F.many_cells ah).bind qa2).bind fun y10=>qai (fun(ab:Int) (s5:List (List Int))=>(F.spot_of ah ab).bind fun p6=>((RE.ok ((decide (p6.1<(p1.1 - 1)))&&(decide (p6.2<(p1.2.1 - 1))))).bind fun k7=>if k7=true then ((qdp s5 ([ab,ab+1,ab+p1.2.1,(ab+p1.2.1)+1])).bind fun ai=>RE.ok ai) else (RE.ok s5)).bind fun(p8:List (List Int))=>RE.ok p8) y10 ai).bind fun(p9:List (List Int))=>RE.ok p9
def F.reached (ah:Int × Int × Int) (az:List Int) (b5:Int):RE (List Int):=
 (RE.ok (!decide (b5∈az))).bind fun k1=>if k1=true then (RE.ok []) else ((RE.ok ([b5]:List Int)).bind fun ai=>(RE.ok (0:Int)).bind fun aK=>(qpL (fun(s10:(List Int) × Int)=>(RE.ok (decide (s10.2<(List.length s10.1:Int))))) (fun(s10:(List Int) × Int)=>(((RE.ok ah).bind fun x11=>(atE s10.1 s10.2).bind fun x12=>F.beside x11 x12).bind fun y18=>qai (fun(ab:Int) (s14:List Int)=>((RE.ok ((decide (ab∈az))&&(!decide (ab∈s14)))).bind fun k15=>if k15=true then ((qdp s14 ab).bind fun ai=>RE.ok ai) else (RE.ok s14)).bind fun(p16:List Int)=>RE.ok p16) y18 s10.1).bind fun(p17:List Int)=>(RE.ok (s10.2+1:Int)).bind fun aK=>RE.ok (p17,aK)) qp2 (ai,aK)).bind fun(p19:(List Int) × Int)=>RE.ok (qbZ p19.1))
def F.bit (aj:Int):RE Int:=
 qrV 1 (aj - 1)
def F.stands (aL:Int) (aj:Int):RE Bool:=
 ((F.bit aj).bind fun x2=>RE.ok (PySem.Builtin.bitAnd aL x2)).bind fun x3=>RE.ok (!decide (x3=0))
def F.has_only (aL:Int) (aj:Int):RE Bool:=
 ((F.bit aj).bind fun x2=>RE.ok (PySem.Builtin.bitOr aL x2)).bind fun x3=>(F.bit aj).bind fun x4=>RE.ok (decide (x3=x4))
def F.signs_in (aL:Int):RE (List Int):=
 (qf4 1 ((PySem.Builtin.Int.intBits aL:Int)+1)).bind fun x1=>gd (leB x1.length) (lcE (fun(aj:Int)=>(F.stands aL aj)) (fun(aj:Int)=>(RE.ok aj)) x1)
def F.Clue_word (ae:KK):RE (List Nat):=
 RE.ok ([99,108,117,101])
def F.Clue_fits (ae:KK) (ac:PuzT) (ak:Option RuleT) (ao:List Nat × Int × Int × Int × (List Int)):RE Bool:=
 RE.ok ((decide (ao.2.1=0))&&(decide (ao.2.2.2.2=[])))
def F.Only_word (ae:KK):RE (List Nat):=
 RE.ok ([111,110,108,121])
def F.Only_strikes (ae:KK) (ac:PuzT) (al:List Int) (ak:Option RuleT) (ao:List Nat × Int × Int × Int × (List Int)):RE Bool:=
 ((RE.ok al).bind fun x1=>(atE ao.2.2.2.2 0).bind fun x2=>atE x1 x2).bind fun x3=>(RE.ok ao.2.2.2.1).bind fun x4=>F.has_only x3 x4
def F.Place_word (ae:KK):RE (List Nat):=
 RE.ok ([112,108,97,99,101])
def F.Pair_word (ae:KK):RE (List Nat):=
 RE.ok ([112,97,105,114])
def F.Pair_strikes (ae:KK) (ac:PuzT) (al:List Int) (ak:Option RuleT) (ao:List Nat × Int × Int × Int × (List Int)):RE Bool:=
 ((((RE.ok al).bind fun x1=>(atE ao.2.2.2.2 0).bind fun x2=>atE x1 x2).bind fun x5=>((RE.ok al).bind fun x3=>(atE ao.2.2.2.2 1).bind fun x4=>atE x3 x4).bind fun x6=>RE.ok (PySem.Builtin.bitOr x5 x6)).bind fun x7=>F.signs_in x7).bind fun am=>(((RE.ok am).bind fun x8=>gd (leB x8.length) (RE.ok (List.filter (fun(aj:Int)=>!decide (aj=ao.2.2.2.1)) x8))).bind fun x9=>RE.ok (List.length x9:Int)).bind fun x10=>RE.ok (decide (x10≤1))
def F.Count_word (ae:KK):RE (List Nat):=
 RE.ok ([99,111,117,110,116])
def F.Step_word (ae:KK):RE (List Nat):=
 RE.ok ([115,116,101,112])
def F.Sums_word (ae:KK):RE (List Nat):=
 RE.ok ([115,117,109])
def F.Ways_word (ae:KK):RE (List Nat):=
 RE.ok ([119,97,121,115])
def F.may_have (al:List Int) (aj:Int):RE (List Int):=
 (qa2 (List.length al:Int)).bind fun x3=>gd (leB x3.length) (lcE (fun(ab:Int)=>((atE al ab).bind fun x1=>(RE.ok aj).bind fun x2=>F.stands x1 x2)) (fun(ab:Int)=>(RE.ok ab)) x3)
def F.Square_word (ae:KK):RE (List Nat):=
 RE.ok ([115,113,117,97,114,101])
def F.Reach_word (ae:KK):RE (List Nat):=
 RE.ok ([114,101,97,99,104])
def F.Turn_word (ae:KK):RE (List Nat):=
 RE.ok ([116,117,114,110])
def F.all_kinds  : RE (List KK):=
 (RE.ok ([KK.clue,KK.only,KK.place]:List KK)).bind fun aV=>qcE aV ([KK.count,KK.step,KK.sums,KK.square,KK.reach,KK.turn,KK.pair,KK.ways])
def F.m_word (r:KK)  : RE (List Nat):=match r with
 |.clue=>F.Clue_word r
 |.only=>F.Only_word r
 |.place=>F.Place_word r
 |.pair=>F.Pair_word r
 |.count=>F.Count_word r
 |.step=>F.Step_word r
 |.sums=>F.Sums_word r
 |.ways=>F.Ways_word r
 |.square=>F.Square_word r
 |.reach=>F.Reach_word r
 |.turn=>F.Turn_word r
def F.is_filling (ah:Int × Int × Int) (aq:List Int):RE Bool:=
 ((F.many_cells ah).bind fun x2=>RE.ok (!decide ((List.length aq:Int)=x2))).bind fun k3=>if k3=true then (RE.ok false) else (((RE.ok aq).bind fun x4=>gd (leB x4.length) (RE.ok (List.map (fun(aj:Int)=>(decide (0≤aj)&&decide (aj≤ah.2.2))) x4))).bind fun x5=>RE.ok (List.all x5 id))
def F.Rule_spots (ae:RuleT):RE (List Int):=
 RE.ok ae.cells
def F.Rule_number (ae:RuleT):RE Int:=
 RE.ok ae.wanted
def F.Rule_sign (ae:RuleT):RE Int:=
 RE.ok ae.sign
def F.Rule_told_numbers (ae:RuleT):RE (List Int):=
 RE.ok ae.cells
def F.Unlike_name (ae:RuleT):RE (List Nat):=
 RE.ok ([117,110,108,105,107,101])
def F.Unlike_holds (ae:RuleT) (aq:List Int):RE Bool:=
 (((RE.ok ae.cells).bind fun x1=>gd (leB x1.length) (lcE (fun(ab:Int)=>(RE.ok true)) (fun(ab:Int)=>(atE aq ab)) x1)).bind qkm).bind fun x2=>RE.ok (decide (x2=(List.length ae.cells:Int)))
def F.Total_name (ae:RuleT):RE (List Nat):=
 RE.ok ([115,117,109])
def F.Total_holds (ae:RuleT) (aq:List Int):RE Bool:=
 (((RE.ok ae.cells).bind fun x1=>gd (leB x1.length) (lcE (fun(ab:Int)=>(RE.ok true)) (fun(ab:Int)=>(atE aq ab)) x1)).bind fun x2=>RE.ok (List.sum x2)).bind fun x3=>RE.ok (decide (x3=ae.wanted))
def F.Total_told_numbers (ae:RuleT):RE (List Int):=
 qcE [ae.wanted] ae.cells
def F.Rising_name (ae:RuleT):RE (List Nat):=
 RE.ok ([114,105,115,105,110,103])
def F.Rising_holds (ae:RuleT) (aq:List Int):RE Bool:=
 Fl.bR ((RE.ok (List.zip ae.cells (qcq ae.cells (some 1) none))).bind fun y11=>qbi (fun(p5:Int × Int) (s4:Unit)=>(((atE aq p5.1).bind fun x6=>(atE aq p5.2).bind fun x7=>RE.ok (decide (x7≤x6))).bind fun k8=>if k8=true then (RE.ok (.rt false)) else (RE.ok (.nx ())):RE (Fl (Bool) (Unit)))) y11 ()) fun(p10:Unit)=>RE.ok true
def F.Seen_name (ae:RuleT):RE (List Nat):=
 RE.ok ([115,101,101,110])
def F.Seen_holds (ae:RuleT) (aq:List Int):RE Bool:=
 (RE.ok (0:Int)).bind fun aC=>(RE.ok (0:Int)).bind fun bn=>((RE.ok ae.cells).bind fun y10=>qai (fun(ab:Int) (s4:Int × Int)=>(((atE aq ab).bind fun x5=>RE.ok (decide (s4.2<x5))).bind fun k7=>if k7=true then ((RE.ok (s4.1+1:Int)).bind fun aC=>(atE aq ab).bind fun bn=>RE.ok (aC,bn)) else (RE.ok (s4.1,s4.2))).bind fun(p8:Int × Int)=>RE.ok (p8.1,p8.2)) y10 (aC,bn)).bind fun(p9:Int × Int)=>RE.ok (decide (p9.1=ae.wanted))
def F.Seen_told_numbers (ae:RuleT):RE (List Int):=
 qcE [ae.wanted] ae.cells
def F.Counted_name (ae:RuleT):RE (List Nat):=
 RE.ok ([99,111,117,110,116])
def F.Counted_holds (ae:RuleT) (aq:List Int):RE Bool:=
 (((RE.ok ae.cells).bind fun x3=>gd (leB x3.length) (lcE (fun(ab:Int)=>((atE aq ab).bind fun x1=>RE.ok (decide (x1=ae.sign)))) (fun(ab:Int)=>(RE.ok ab)) x3)).bind fun x4=>RE.ok (List.length x4:Int)).bind fun x5=>RE.ok (decide (x5=ae.wanted))
def F.Counted_told_numbers (ae:RuleT):RE (List Int):=
 qcE ([ae.wanted,ae.sign]) ae.cells
def F.cells_with (ak:RuleT) (aq:List Int):RE (List Int):=
 (F.Rule_spots ak).bind fun x3=>gd (leB x3.length) (lcE (fun(ab:Int)=>((atE aq ab).bind fun x1=>(F.Rule_sign ak).bind fun x2=>RE.ok (decide (x1=x2)))) (fun(ab:Int)=>(RE.ok ab)) x3)
def F.are_joined (ah:Int × Int × Int) (az:List Int):RE Bool:=
 (RE.ok (decide (az=[]))).bind fun k7=>if k7=true then RE.ok true else ((((RE.ok ah).bind fun x1=>(RE.ok az).bind fun x2=>(atE az 0).bind fun x3=>F.reached x1 x2 x3).bind fun x4=>RE.ok (List.length x4:Int)).bind fun x5=>RE.ok (decide (x5=(List.length az:Int))))
def F.Joined_name (ae:RuleT):RE (List Nat):=
 RE.ok ([106,111,105,110,101,100])
def F.Joined_holds (ae:RuleT) (aq:List Int):RE Bool:=
 (RE.ok ae.ground).bind fun x1=>(F.cells_with ae aq).bind fun x2=>F.are_joined x1 x2
def F.Joined_told_numbers (ae:RuleT):RE (List Int):=
 RE.ok [ae.sign]
def F.NoSquare_name (ae:RuleT):RE (List Nat):=
 RE.ok ([110,111,115,113,117,97,114,101])
def F.NoSquare_holds (ae:RuleT) (aq:List Int):RE Bool:=
 Fl.bR ((F.squares ae.ground).bind fun y18=>qbi (fun(aT:List Int) (s8:Unit)=>(((((RE.ok aT).bind fun x11=>gd (leB x11.length) (lcE (fun(ab:Int)=>((atE aq ab).bind fun x9=>RE.ok (decide (x9=ae.sign)))) (fun(ab:Int)=>(RE.ok ab)) x11)).bind fun x12=>RE.ok (List.length x12:Int)).bind fun x13=>RE.ok (decide (x13=4))).bind fun k15=>if k15=true then (RE.ok (.rt false)) else (RE.ok (.nx ())):RE (Fl (Bool) (Unit)))) y18 ()) fun(p17:Unit)=>RE.ok true
def F.NoSquare_told_numbers (ae:RuleT):RE (List Int):=
 RE.ok [ae.sign]
def F.Ring_name (ae:RuleT):RE (List Nat):=
 RE.ok ([114,105,110,103])
def F.Ring_holds (ae:RuleT) (aq:List Int):RE Bool:=
 (F.cells_with ae aq).bind fun ai=>Fl.bR ((RE.ok ai).bind fun y14=>qbi (fun(ab:Int) (s6:Unit)=>(((((F.beside ae.ground ab).bind fun x7=>gd (leB x7.length) (RE.ok (List.filter (fun(ay:Int)=>decide (ay∈ai)) x7))).bind fun x8=>RE.ok (List.length x8:Int)).bind fun x9=>RE.ok (!decide (x9=2))).bind fun k11=>if k11=true then (RE.ok (.rt false)) else (RE.ok (.nx ())):RE (Fl (Bool) (Unit)))) y14 ()) fun(p13:Unit)=>F.are_joined ae.ground ai
def F.Ring_told_numbers (ae:RuleT):RE (List Int):=
 RE.ok [ae.sign]
def F.number_of (aG:List Nat):RE Int:=
 ((((RE.ok 1).bind fun x1=>(qph aG).bind fun x2=>if decide (x1≤x2)=true then (RE.ok 2).bind fun x3=>RE.ok (decide (x2≤x3)) else RE.ok false).bind fun x4=>RE.ok (!x4)).bind fun k10=>if k10=true then RE.ok true else (((qr8 aG 0).bind fun x5=>RE.ok (decide ([x5]=[48]))).bind fun k9=>if k9=true then ((qph aG).bind fun x7=>RE.ok (decide (1<x7))) else RE.ok false)).bind fun k11=>if k11=true then (RE.exc 33 []) else (((RE.ok aG).bind fun y16=>qai (fun(aj:Nat) (s13:Unit)=>(RE.ok (!decide (aj∈([48,49,50,51,52,53,54,55,56,57])))).bind fun k14=>if k14=true then RE.exc 33 [] else (RE.ok ())) y16 ()).bind fun(p15:Unit)=>qq1 aG)
def F.sign_told (ah:Int × Int × Int) (a9:List Int) (aK:Int):RE Int:=
 ((RE.ok (decide ((List.length a9:Int)≤aK))).bind fun k5=>if k5=true then RE.ok true else (((RE.ok 1).bind fun x1=>(atE a9 aK).bind fun x2=>if decide (x1≤x2)=true then (RE.ok ah.2.2).bind fun x3=>RE.ok (decide (x2≤x3)) else RE.ok false).bind fun x4=>RE.ok (!x4))).bind fun k6=>if k6=true then (RE.exc 33 []) else (atE a9 aK)
def F.cells_told (ah:Int × Int × Int) (a9:List Int):RE (List Int):=
 ((RE.ok (decide (a9=[]))).bind fun k6=>if k6=true then RE.ok true else (((qkm a9).bind fun x1=>RE.ok (!decide (x1=(List.length a9:Int)))).bind fun k5=>if k5=true then RE.ok true else ((qq2 a9).bind fun x3=>(F.many_cells ah).bind fun x4=>RE.ok (decide (x4≤x3))))).bind fun k7=>if k7=true then (RE.exc 33 []) else (RE.ok a9)
def F.whole_rule (ah:Int × Int × Int) (aG:List Nat) (a9:List Int):RE RuleT:=
 (RE.ok (!decide ((List.length a9:Int)=1))).bind fun k1=>if k1=true then (RE.exc 33 []) else ((F.sign_told ah a9 0).bind fun aj=>((F.many_cells ah).bind qa2).bind fun az=>(RE.ok (decide (aG=([106,111,105,110,101,100])))).bind fun k3=>if k3=true then (RE.ok (RuleT.mk .joined ah az 0 aj)) else ((RE.ok (decide (aG=([110,111,115,113,117,97,114,101])))).bind fun k4=>if k4=true then (RE.ok (RuleT.mk .nosquare ah az 0 aj)) else (RE.ok (RuleT.mk .ring ah az 0 aj))))
def F.read_rule (ah:Int × Int × Int) (be:D):RE RuleT:=
 ((tyE (eD be) .str).bind fun x1=>RE.ok (!x1)).bind fun k2=>if k2=true then (RE.exc 33 []) else (((dS be).bind fun x3=>(RE.ok [32]).bind fun x4=>qmf x3 x4).bind fun bi=>(atE bi 0).bind fun aG=>(qrC aG ([[117,110,108,105,107,101],[115,117,109],[114,105,115,105,110,103],[115,101,101,110],[99,111,117,110,116],[106,111,105,110,101,100],[110,111,115,113,117,97,114,101],[114,105,110,103]])).bind fun k5=>if k5=true then (RE.exc 33 []) else (((RE.ok (qcq bi (some 1) none)).bind fun x6=>gd (leB x6.length) (lcE (fun(aM:List Nat)=>(RE.ok true)) (fun(aM:List Nat)=>(F.number_of aM)) x6)).bind fun a9=>(qrA aG ([[106,111,105,110,101,100],[110,111,115,113,117,97,114,101],[114,105,110,103]])).bind fun k7=>if k7=true then (F.whole_rule ah aG a9) else ((RE.ok (decide (aG=([117,110,108,105,107,101])))).bind fun k8=>if k8=true then ((RE.ok ah).bind fun x9=>(F.cells_told ah a9).bind fun x10=>(RE.ok 0).bind fun x11=>(RE.ok 0).bind fun x12=>RE.ok (RuleT.mk .unlike x9 x10 x11 x12)) else ((RE.ok (decide (aG=([114,105,115,105,110,103])))).bind fun k13=>if k13=true then ((RE.ok ah).bind fun x14=>(F.cells_told ah a9).bind fun x15=>(RE.ok 0).bind fun x16=>(RE.ok 0).bind fun x17=>RE.ok (RuleT.mk .rising x14 x15 x16 x17)) else ((RE.ok (decide (aG=([99,111,117,110,116])))).bind fun k18=>if k18=true then ((F.sign_told ah a9 1).bind fun aj=>(RE.ok ah).bind fun x19=>(F.cells_told ah (qcq a9 (some 2) none)).bind fun x20=>(atE a9 0).bind fun x21=>(RE.ok aj).bind fun x22=>RE.ok (RuleT.mk .counted x19 x20 x21 x22)) else ((F.cells_told ah (qcq a9 (some 1) none)).bind fun az=>(RE.ok (decide (aG=([115,117,109])))).bind fun k23=>if k23=true then ((RE.ok ah).bind fun x24=>(RE.ok az).bind fun x25=>(atE a9 0).bind fun x26=>(RE.ok 0).bind fun x27=>RE.ok (RuleT.mk .total x24 x25 x26 x27)) else ((RE.ok ah).bind fun x28=>(RE.ok az).bind fun x29=>(atE a9 0).bind fun x30=>(RE.ok 0).bind fun x31=>RE.ok (RuleT.mk .seen x28 x29 x30 x31))))))))
def F.Puzzle_place (ae:PuzT):RE (Int × Int × Int):=
 RE.ok ae.ground
def F.Puzzle_many (ae:PuzT):RE Int:=
 F.many_cells ae.ground
def F.Puzzle_clues (ae:PuzT):RE (List Int):=
 RE.ok ae.clues
def F.Puzzle_rules (ae:PuzT):RE (List RuleT):=
 RE.ok ae.rules
def F.Puzzle_rule_at (ae:PuzT) (a7:Int):RE RuleT:=
 atE ae.rules a7
def F.Puzzle_many_rules (ae:PuzT):RE Int:=
 RE.ok (List.length ae.rules:Int)
def F.Puzzle_clue_at (ae:PuzT) (ab:Int):RE Int:=
 atE ae.clues ab
def F.m_holds (r:RuleT) (a0:List Int):RE Bool:=match r.k with
 |.unlike=>F.Unlike_holds r a0
 |.total=>F.Total_holds r a0
 |.rising=>F.Rising_holds r a0
 |.seen=>F.Seen_holds r a0
 |.counted=>F.Counted_holds r a0
 |.joined=>F.Joined_holds r a0
 |.nosquare=>F.NoSquare_holds r a0
 |.ring=>F.Ring_holds r a0
def F.Puzzle_meets (ae:PuzT) (aq:List Int):RE Bool:=
 (((F.is_filling ae.ground aq).bind fun x1=>RE.ok (!x1)).bind fun k2=>if k2=true then RE.ok true else (RE.ok (decide (0∈aq)))).bind fun k3=>if k3=true then (RE.ok false) else (Fl.bR ((RE.ok (List.zip ae.clues aq)).bind fun y12=>qbi (fun(p6:Int × Int) (s5:Unit)=>((RE.ok ((!decide (p6.1=0))&&(!decide (p6.1=p6.2)))).bind fun k7=>if k7=true then (RE.ok (.rt false)) else (RE.ok (.nx ())):RE (Fl (Bool) (Unit)))) y12 ()) fun(p9:Unit)=>((RE.ok ae.rules).bind fun x10=>gd (leB x10.length) (lcE (fun(ak:RuleT)=>(RE.ok true)) (fun(ak:RuleT)=>(F.m_holds ak aq)) x10)).bind fun x11=>RE.ok (List.all x11 id))
def F.Puzzle_new (ah:Int × Int × Int) (aV:List D) (aN:List Int):RE PuzT:=
 (RE.ok (!decide (3=3))).bind fun k1=>if k1=true then RE.exc 31 [] else ((F.floor_of ah.1 ah.2.1 ah.2.2).bind fun w_ground=>(RE.ok (decide (12<(List.length aV:Int)))).bind fun k2=>if k2=true then RE.exc 34 [] else (((RE.ok aV).bind fun x3=>gd (leB x3.length) (lcE (fun(be:D)=>(RE.ok true)) (fun(be:D)=>(F.read_rule w_ground be)) x3)).bind fun w_rule_list=>((F.is_filling w_ground aN).bind fun x4=>RE.ok (!x4)).bind fun k5=>if k5=true then RE.exc 34 [] else ((RE.ok aN).bind fun w_clue_list=>RE.ok (PuzT.mk w_ground w_rule_list w_clue_list))))
def F.others_of (ak:RuleT) (ab:Int):RE (List Int):=
 (F.Rule_spots ak).bind fun x1=>gd (leB x1.length) (RE.ok (List.filter (fun(ay:Int)=>!decide (ay=ab)) x1))
def F.are_others (ak:RuleT) (ab:Int) (aR:List Int):RE Bool:=
 (F.others_of ak ab).bind fun aH=>((((RE.ok aR).bind fun x1=>gd (leB x1.length) (RE.ok (List.filter (fun(ay:Int)=>!decide (ay∈aH)) x1))).bind fun x2=>RE.ok (List.length x2:Int)).bind fun x3=>RE.ok (decide (x3=0))).bind fun k7=>if k7=true then ((qkm aR).bind fun x5=>RE.ok (decide (x5=(List.length aR:Int)))) else RE.ok false
def F.Clue_strikes (ae:KK) (ac:PuzT) (al:List Int) (ak:Option RuleT) (ao:List Nat × Int × Int × Int × (List Int)):RE Bool:=
 (F.Puzzle_clue_at ac ao.2.2.1).bind fun bj=>RE.ok ((!decide (bj=0))&&(!decide (bj=ao.2.2.2.1)))
def F.m_name (r:RuleT)  : RE (List Nat):=match r.k with
 |.unlike=>F.Unlike_name r
 |.total=>F.Total_name r
 |.rising=>F.Rising_name r
 |.seen=>F.Seen_name r
 |.counted=>F.Counted_name r
 |.joined=>F.Joined_name r
 |.nosquare=>F.NoSquare_name r
 |.ring=>F.Ring_name r
def F.is_unlike (ak:Option RuleT) (ab:Int):RE Bool:=
 (RE.ok ak.isSome).bind fun k8=>if k8=true then ((((unO ak).bind fun x1=>F.m_name x1).bind fun x2=>RE.ok (decide (x2=([117,110,108,105,107,101])))).bind fun k7=>if k7=true then (((unO ak).bind fun x4=>F.Rule_spots x4).bind fun x6=>RE.ok (decide (ab∈x6))) else RE.ok false) else RE.ok false
def F.Only_fits (ae:KK) (ac:PuzT) (ak:Option RuleT) (ao:List Nat × Int × Int × Int × (List Int)):RE Bool:=
 (RE.ok (ao.2.2.2.2:List Int)).bind fun aB=>(F.is_unlike ak ao.2.2.1).bind fun k5=>if k5=true then ((RE.ok (decide ((List.length aB:Int)=1))).bind fun k4=>if k4=true then ((unO ak).bind fun x1=>(RE.ok ao.2.2.1).bind fun x2=>(RE.ok aB).bind fun x3=>F.are_others x1 x2 x3) else RE.ok false) else RE.ok false
def F.Place_fits (ae:KK) (ac:PuzT) (ak:Option RuleT) (ao:List Nat × Int × Int × Int × (List Int)):RE Bool:=
 (RE.ok (ao.2.2.2.2:List Int)).bind fun aB=>((F.Puzzle_place ac).bind fun x1=>RE.ok x1.2.2).bind fun am=>(((F.is_unlike ak ao.2.2.1).bind fun x2=>RE.ok (!x2)).bind fun k8=>if k8=true then RE.ok true else (((((unO ak).bind fun x3=>F.Rule_spots x3).bind fun x4=>RE.ok (List.length x4:Int)).bind fun x5=>RE.ok (!decide (x5=am))).bind fun k7=>if k7=true then RE.ok true else (RE.ok (!decide ((List.length aB:Int)=1))))).bind fun k9=>if k9=true then (RE.ok false) else (((RE.ok 1).bind fun x10=>(atE aB 0).bind fun x11=>if decide (x10≤x11)=true then (RE.ok am).bind fun x12=>RE.ok (decide (x11≤x12)) else RE.ok false).bind fun k15=>if k15=true then ((atE aB 0).bind fun x13=>RE.ok (!decide (x13=ao.2.2.2.1))) else RE.ok false)
def F.Place_strikes (ae:KK) (ac:PuzT) (al:List Int) (ak:Option RuleT) (ao:List Nat × Int × Int × Int × (List Int)):RE Bool:=
 Fl.bR (((unO ak).bind fun x1=>(RE.ok ao.2.2.1).bind fun x2=>F.others_of x1 x2).bind fun y12=>qbi (fun(ay:Int) (s6:Unit)=>(((atE al ay).bind fun x7=>(atE ao.2.2.2.2 0).bind fun x8=>F.stands x7 x8).bind fun k9=>if k9=true then (RE.ok (.rt false)) else (RE.ok (.nx ())):RE (Fl (Bool) (Unit)))) y12 ()) fun(p11:Unit)=>RE.ok true
def F.Pair_fits (ae:KK) (ac:PuzT) (ak:Option RuleT) (ao:List Nat × Int × Int × Int × (List Int)):RE Bool:=
 (RE.ok (ao.2.2.2.2:List Int)).bind fun aB=>(((F.is_unlike ak ao.2.2.1).bind fun x1=>RE.ok (!x1)).bind fun k7=>if k7=true then RE.ok true else ((RE.ok (!decide ((List.length aB:Int)=2))).bind fun k6=>if k6=true then RE.ok true else (((unO ak).bind fun x2=>(RE.ok ao.2.2.1).bind fun x3=>(RE.ok aB).bind fun x4=>F.are_others x2 x3 x4).bind fun x5=>RE.ok (!x5)))).bind fun k8=>if k8=true then (RE.ok false) else (((unO ak).bind fun x9=>F.Rule_spots x9).bind fun aU=>((RE.ok aU).bind fun x10=>(atE aB 0).bind fun x11=>qfk x10 x11).bind fun x14=>((RE.ok aU).bind fun x12=>(atE aB 1).bind fun x13=>qfk x12 x13).bind fun x15=>RE.ok (decide (x14<x15)))
def F.is_of (ak:Option RuleT) (aG:List Nat) (ab:Int):RE Bool:=
 (RE.ok ak.isSome).bind fun k8=>if k8=true then ((((unO ak).bind fun x1=>F.m_name x1).bind fun x2=>RE.ok (decide (x2=aG))).bind fun k7=>if k7=true then (((unO ak).bind fun x4=>F.Rule_spots x4).bind fun x6=>RE.ok (decide (ab∈x6))) else RE.ok false) else RE.ok false
def F.Count_fits (ae:KK) (ac:PuzT) (ak:Option RuleT) (ao:List Nat × Int × Int × Int × (List Int)):RE Bool:=
 (RE.ok (decide (ao.2.2.2.2=[]))).bind fun k1=>if k1=true then (F.is_of ak ([99,111,117,110,116]) ao.2.2.1) else RE.ok false
def F.Count_strikes (ae:KK) (ac:PuzT) (al:List Int) (ak:Option RuleT) (ao:List Nat × Int × Int × Int × (List Int)):RE Bool:=
 ((unO ak).bind fun x1=>F.Rule_sign x1).bind fun aj=>((unO ak).bind fun x2=>(RE.ok ao.2.2.1).bind fun x3=>F.others_of x2 x3).bind fun aH=>(RE.ok (decide (ao.2.2.2.1=aj))).bind fun k4=>if k4=true then ((((RE.ok aH).bind fun x7=>gd (leB x7.length) (lcE (fun(ay:Int)=>((atE al ay).bind fun x5=>(RE.ok aj).bind fun x6=>F.has_only x5 x6)) (fun(ay:Int)=>(RE.ok ay)) x7)).bind fun x8=>RE.ok (List.length x8:Int)).bind fun x10=>((unO ak).bind fun x9=>F.Rule_number x9).bind fun x11=>RE.ok (decide (x11≤x10))) else ((((RE.ok aH).bind fun x14=>gd (leB x14.length) (lcE (fun(ay:Int)=>((atE al ay).bind fun x12=>(RE.ok aj).bind fun x13=>F.stands x12 x13)) (fun(ay:Int)=>(RE.ok ay)) x14)).bind fun x15=>RE.ok (List.length x15:Int)).bind fun x17=>((unO ak).bind fun x16=>F.Rule_number x16).bind fun x18=>RE.ok (decide (x17<x18)))
def F.neighbours_of (ak:RuleT) (ab:Int):RE ((Option Int) × (Option Int)):=
 (F.Rule_spots ak).bind fun aU=>(qfk aU ab).bind fun aK=>(RE.ok (():Unit)).bind fun b6=>(RE.ok (():Unit)).bind fun b7=>((RE.ok (decide (0<aK))).bind fun k1=>if k1=true then ((atE aU (aK - 1)).bind fun b6=>RE.ok (some b6)) else (RE.ok (none:Option Int))).bind fun(p2:Option Int)=>((RE.ok (decide ((aK+1)<(List.length aU:Int)))).bind fun k3=>if k3=true then ((atE aU (aK+1)).bind fun b7=>RE.ok (some b7)) else (RE.ok (none:Option Int))).bind fun(p4:Option Int)=>RE.ok (p2,p4)
def F.Step_fits (ae:KK) (ac:PuzT) (ak:Option RuleT) (ao:List Nat × Int × Int × Int × (List Int)):RE Bool:=
 (RE.ok (decide (ao.2.2.2.2=[]))).bind fun k1=>if k1=true then (F.is_of ak ([114,105,115,105,110,103]) ao.2.2.1) else RE.ok false
def F.Step_strikes (ae:KK) (ac:PuzT) (al:List Int) (ak:Option RuleT) (ao:List Nat × Int × Int × Int × (List Int)):RE Bool:=
 ((unO ak).bind fun x1=>(RE.ok ao.2.2.1).bind fun x2=>F.neighbours_of x1 x2).bind fun p3=>((RE.ok p3.1.isSome).bind fun k11=>if k11=true then (((((RE.ok al).bind fun x4=>(unO p3.1).bind fun x5=>atE x4 x5).bind fun x6=>F.signs_in x6).bind fun x7=>(RE.ok ao.2.2.2.1).bind fun x8=>mmE false x7 x8).bind fun x9=>RE.ok (decide (ao.2.2.2.1≤x9))) else RE.ok false).bind fun k12=>if k12=true then (RE.ok true) else ((RE.ok p3.2.isSome).bind fun k20=>if k20=true then (((((RE.ok al).bind fun x13=>(unO p3.2).bind fun x14=>atE x13 x14).bind fun x15=>F.signs_in x15).bind fun x16=>(RE.ok ao.2.2.2.1).bind fun x17=>mmE true x16 x17).bind fun x18=>RE.ok (decide (x18≤ao.2.2.2.1))) else RE.ok false)
def F.Sums_fits (ae:KK) (ac:PuzT) (ak:Option RuleT) (ao:List Nat × Int × Int × Int × (List Int)):RE Bool:=
 (RE.ok (decide (ao.2.2.2.2=[]))).bind fun k1=>if k1=true then (F.is_of ak ([115,117,109]) ao.2.2.1) else RE.ok false
def F.Sums_strikes (ae:KK) (ac:PuzT) (al:List Int) (ak:Option RuleT) (ao:List Nat × Int × Int × Int × (List Int)):RE Bool:=
 (RE.ok (ao.2.2.2.1:Int)).bind fun bo=>(RE.ok (ao.2.2.2.1:Int)).bind fun aE=>Fl.bR (((unO ak).bind fun x1=>(RE.ok ao.2.2.1).bind fun x2=>F.others_of x1 x2).bind fun y25=>qbi (fun(ay:Int) (s9:Int × Int)=>(((atE al ay).bind fun x10=>F.signs_in x10).bind fun am=>(RE.ok (decide (am=[]))).bind fun k11=>if k11=true then (RE.ok (.rt true)) else (((atE am 0).bind fun x14=>RE.ok (s9.1+x14)).bind fun bo=>((atE am (-1)).bind fun x16=>RE.ok (s9.2+x16)).bind fun aE=>RE.ok (.nx (bo,aE))):RE (Fl (Bool) (Int × Int)))) y25 (bo,aE)) fun(p17:Int × Int)=>(((unO ak).bind fun x18=>F.Rule_number x18).bind fun x20=>RE.ok (decide (x20<p17.1))).bind fun k24=>if k24=true then RE.ok true else (((unO ak).bind fun x21=>F.Rule_number x21).bind fun x23=>RE.ok (decide (p17.2<x23)))
def F.Ways_fits (ae:KK) (ac:PuzT) (ak:Option RuleT) (ao:List Nat × Int × Int × Int × (List Int)):RE Bool:=
 (RE.ok (decide (ao.2.2.2.2=[]))).bind fun k5=>if k5=true then ((RE.ok ak.isSome).bind fun k4=>if k4=true then (((unO ak).bind fun x1=>F.Rule_spots x1).bind fun x3=>RE.ok (decide (ao.2.2.1∈x3))) else RE.ok false) else RE.ok false
def F.Ways_strikes (ae:KK) (ac:PuzT) (al:List Int) (ak:Option RuleT) (ao:List Nat × Int × Int × Int × (List Int)):RE Bool:=
 ((unO ak).bind fun x1=>(RE.ok ao.2.2.1).bind fun x2=>F.others_of x1 x2).bind fun aH=>((RE.ok aH).bind fun x4=>gd (leB x4.length) (lcE (fun(ay:Int)=>(RE.ok true)) (fun(ay:Int)=>((atE al ay).bind fun x3=>F.signs_in x3)) x4)).bind fun b9=>(RE.ok (1:Int)).bind fun aC=>((RE.ok b9).bind fun y43=>qai (fun(am:List Int) (s5:Int)=>(qix s5 (List.length am:Int)).bind fun aC=>RE.ok aC) y43 aC).bind fun(p6:Int)=>(RE.ok (decide (32<p6))).bind fun k7=>if k7=true then (RE.ok false) else (((qa2 (List.length al:Int)).bind fun x8=>gd (leB x8.length) (RE.ok (List.map (fun(ab:Int)=>0) x8))).bind fun aq=>(qif aq ao.2.2.1 ao.2.2.2.1).bind fun aq=>Fl.bR ((qa2 p6).bind fun y42=>qbi (fun(a7:Int) (s24:List Int)=>(((RE.ok (List.zip aH b9)).bind fun y40=>qai (fun(p30:Int × (List Int)) (s29:(List Int) × Int)=>(((RE.ok p30.2).bind fun x31=>(qgF s29.2 (List.length p30.2:Int)).bind fun x32=>atE x31 x32).bind fun x33=>(RE.ok p30.1).bind fun x34=>qif s29.1 x34 x33).bind fun aq=>(qks s29.2 (List.length p30.2:Int)).bind fun a7=>RE.ok (aq,a7)) y40 (s24,a7)).bind fun(p35:(List Int) × Int)=>((unO ak).bind fun x37=>(RE.ok p35.1).bind fun x36=>F.m_holds x37 x36).bind fun k38=>if k38=true then (RE.ok (.rt false)) else (RE.ok (.nx p35.1)):RE (Fl (Bool) (List Int)))) y42 aq) fun(p41:List Int)=>RE.ok true)
def F.square_at (ac:PuzT) (bG:Int):RE (List Int):=
 Fl.bR (((F.Puzzle_place ac).bind fun x1=>F.squares x1).bind fun y11=>qbi (fun(aT:List Int) (s5:Unit)=>(((atE aT 0).bind fun x6=>RE.ok (decide (x6=bG))).bind fun k8=>if k8=true then (RE.ok (.rt aT)) else (RE.ok (.nx ())):RE (Fl (List Int) (Unit)))) y11 ()) fun(p10:Unit)=>RE.ok []
def F.Square_fits (ae:KK) (ac:PuzT) (ak:Option RuleT) (ao:List Nat × Int × Int × Int × (List Int)):RE Bool:=
 ((RE.ok ak.isNone).bind fun k9=>if k9=true then RE.ok true else ((((unO ak).bind fun x1=>F.m_name x1).bind fun x2=>RE.ok (!decide (x2=([110,111,115,113,117,97,114,101])))).bind fun k8=>if k8=true then RE.ok true else ((((unO ak).bind fun x4=>F.Rule_sign x4).bind fun x5=>RE.ok (!decide (x5=ao.2.2.2.1))).bind fun k7=>if k7=true then RE.ok true else (RE.ok (!decide ((List.length ao.2.2.2.2:Int)=1)))))).bind fun k10=>if k10=true then (RE.ok false) else (((RE.ok ac).bind fun x11=>(atE ao.2.2.2.2 0).bind fun x12=>F.square_at x11 x12).bind fun x14=>RE.ok (decide (ao.2.2.1∈x14)))
def F.Square_strikes (ae:KK) (ac:PuzT) (al:List Int) (ak:Option RuleT) (ao:List Nat × Int × Int × Int × (List Int)):RE Bool:=
 Fl.bR (((RE.ok ac).bind fun x1=>(atE ao.2.2.2.2 0).bind fun x2=>F.square_at x1 x2).bind fun y16=>qbi (fun(ab:Int) (s8:Unit)=>(((RE.ok (!decide (ab=ao.2.2.1))).bind fun k12=>if k12=true then (((atE al ab).bind fun x9=>(RE.ok ao.2.2.2.1).bind fun x10=>F.has_only x9 x10).bind fun x11=>RE.ok (!x11)) else RE.ok false).bind fun k13=>if k13=true then (RE.ok (.rt false)) else (RE.ok (.nx ())):RE (Fl (Bool) (Unit)))) y16 ()) fun(p15:Unit)=>RE.ok true
def F.Reach_fits (ae:KK) (ac:PuzT) (ak:Option RuleT) (ao:List Nat × Int × Int × Int × (List Int)):RE Bool:=
 ((RE.ok ak.isNone).bind fun k8=>if k8=true then RE.ok true else ((((unO ak).bind fun x1=>F.m_name x1).bind fun x2=>RE.ok (!decide (x2=([106,111,105,110,101,100])))).bind fun k7=>if k7=true then (((unO ak).bind fun x4=>F.m_name x4).bind fun x5=>RE.ok (!decide (x5=([114,105,110,103])))) else RE.ok false)).bind fun k9=>if k9=true then (RE.ok false) else ((RE.ok (ao.2.2.2.2:List Int)).bind fun aB=>(((((unO ak).bind fun x10=>F.Rule_sign x10).bind fun x11=>RE.ok (decide (x11=ao.2.2.2.1))).bind fun x13=>RE.ok (if x13=true then 1 else 0:Int)).bind fun x15=>RE.ok (2 - x15)).bind fun bA=>((RE.ok (!decide ((List.length aB:Int)=bA))).bind fun k18=>if k18=true then RE.ok true else ((qkm aB).bind fun x16=>RE.ok (!decide (x16=bA)))).bind fun k19=>if k19=true then (RE.ok false) else ((((RE.ok aB).bind fun x24=>gd (leB x24.length) (lcE (fun(aM:Int)=>((RE.ok (decide (aM=ao.2.2.1))).bind fun k23=>if k23=true then RE.ok true else ((RE.ok (decide (aM<0))).bind fun k22=>if k22=true then RE.ok true else ((F.Puzzle_many ac).bind fun x21=>RE.ok (decide (x21≤aM)))))) (fun(aM:Int)=>(RE.ok aM)) x24)).bind fun x25=>RE.ok (List.length x25:Int)).bind fun x26=>RE.ok (decide (x26=0))))
def F.Reach_strikes (ae:KK) (ac:PuzT) (al:List Int) (ak:Option RuleT) (ao:List Nat × Int × Int × Int × (List Int)):RE Bool:=
 ((unO ak).bind fun x1=>F.Rule_sign x1).bind fun aj=>(RE.ok (ao.2.2.1:Int)).bind fun ab=>(RE.ok (ao.2.2.2.2:List Int)).bind fun aB=>Fl.bR ((RE.ok aB).bind fun y25=>qbi (fun(aM:Int) (s6:Unit)=>((((atE al aM).bind fun x7=>(RE.ok aj).bind fun x8=>F.has_only x7 x8).bind fun x9=>RE.ok (!x9)).bind fun k10=>if k10=true then (RE.ok (.rt false)) else (RE.ok (.nx ())):RE (Fl (Bool) (Unit)))) y25 ()) fun(p12:Unit)=>((F.may_have al aj).bind fun x13=>gd (leB x13.length) (RE.ok (List.filter (fun(ay:Int)=>!decide (ay=ab)) x13))).bind fun aR=>(RE.ok (decide (aj=ao.2.2.2.1))).bind fun k14=>if k14=true then ((atE aB 0).bind fun x18=>((F.Puzzle_place ac).bind fun x15=>(qcE aR [ab]).bind fun x16=>(RE.ok ab).bind fun x17=>F.reached x15 x16 x17).bind fun x19=>RE.ok (!decide (x18∈x19))) else ((atE aB 1).bind fun x23=>((F.Puzzle_place ac).bind fun x20=>(RE.ok aR).bind fun x21=>(atE aB 0).bind fun x22=>F.reached x20 x21 x22).bind fun x24=>RE.ok (!decide (x23∈x24)))
def F.Turn_fits (ae:KK) (ac:PuzT) (ak:Option RuleT) (ao:List Nat × Int × Int × Int × (List Int)):RE Bool:=
 ((RE.ok ak.isNone).bind fun k4=>if k4=true then RE.ok true else (((unO ak).bind fun x1=>F.m_name x1).bind fun x2=>RE.ok (!decide (x2=([114,105,110,103]))))).bind fun k5=>if k5=true then (RE.ok false) else ((RE.ok (decide (ao.2.2.2.2=[]))).bind fun k6=>if k6=true then (((unO ak).bind fun x7=>F.Rule_sign x7).bind fun x8=>RE.ok (decide (x8=ao.2.2.2.1))) else ((RE.ok (decide ((List.length ao.2.2.2.2:Int)=1))).bind fun k14=>if k14=true then ((atE ao.2.2.2.2 0).bind fun x12=>((F.Puzzle_place ac).bind fun x10=>(RE.ok ao.2.2.1).bind fun x11=>F.beside x10 x11).bind fun x13=>RE.ok (decide (x12∈x13))) else RE.ok false))
def F.Turn_strikes (ae:KK) (ac:PuzT) (al:List Int) (ak:Option RuleT) (ao:List Nat × Int × Int × Int × (List Int)):RE Bool:=
 ((unO ak).bind fun x1=>F.Rule_sign x1).bind fun aj=>(RE.ok (ao.2.2.1:Int)).bind fun aK=>Fl.bR ((RE.ok (!decide (ao.2.2.2.2=[]))).bind fun k2=>if k2=true then ((atE ao.2.2.2.2 0).bind fun aK=>(((atE al aK).bind fun x7=>(RE.ok aj).bind fun x8=>F.has_only x7 x8).bind fun x9=>RE.ok (!x9)).bind fun k10=>if k10=true then (RE.ok false).bind fun b=>RE.ok (.rt b) else (RE.ok (.nx aK))) else (RE.ok (.nx aK)):RE (Fl (Bool) (Int))) fun p11=>(((F.Puzzle_place ac).bind fun x12=>(RE.ok p11).bind fun x13=>F.beside x12 x13).bind fun x14=>gd (leB x14.length) (RE.ok (List.filter (fun(ab:Int)=>!decide (ab=ao.2.2.1)) x14))).bind fun bB=>(((RE.ok bB).bind fun x17=>gd (leB x17.length) (lcE (fun(ab:Int)=>((atE al ab).bind fun x15=>(RE.ok aj).bind fun x16=>F.has_only x15 x16)) (fun(ab:Int)=>(RE.ok ab)) x17)).bind fun x18=>RE.ok (List.length x18:Int)).bind fun aW=>(((RE.ok bB).bind fun x21=>gd (leB x21.length) (lcE (fun(ab:Int)=>((atE al ab).bind fun x19=>(RE.ok aj).bind fun x20=>F.stands x19 x20)) (fun(ab:Int)=>(RE.ok ab)) x21)).bind fun x22=>RE.ok (List.length x22:Int)).bind fun bC=>(RE.ok (decide (ao.2.2.2.2=[]))).bind fun k23=>if k23=true then (RE.ok ((decide (bC<2))||(decide (2<aW)))) else ((RE.ok (decide (aj=ao.2.2.2.1))).bind fun k24=>if k24=true then (RE.ok (decide (2≤aW))) else (RE.ok (decide (bC<2))))
def F.m_strikes (r:KK) (a0:PuzT) (a1:List Int) (a2:Option RuleT) (a3:List Nat × Int × Int × Int × (List Int)):RE Bool:=match r with
 |.clue=>F.Clue_strikes r a0 a1 a2 a3
 |.only=>F.Only_strikes r a0 a1 a2 a3
 |.place=>F.Place_strikes r a0 a1 a2 a3
 |.pair=>F.Pair_strikes r a0 a1 a2 a3
 |.count=>F.Count_strikes r a0 a1 a2 a3
 |.step=>F.Step_strikes r a0 a1 a2 a3
 |.sums=>F.Sums_strikes r a0 a1 a2 a3
 |.ways=>F.Ways_strikes r a0 a1 a2 a3
 |.square=>F.Square_strikes r a0 a1 a2 a3
 |.reach=>F.Reach_strikes r a0 a1 a2 a3
 |.turn=>F.Turn_strikes r a0 a1 a2 a3
def F.m_fits (r:KK) (a0:PuzT) (a1:Option RuleT) (a2:List Nat × Int × Int × Int × (List Int)):RE Bool:=match r with
 |.clue=>F.Clue_fits r a0 a1 a2
 |.only=>F.Only_fits r a0 a1 a2
 |.place=>F.Place_fits r a0 a1 a2
 |.pair=>F.Pair_fits r a0 a1 a2
 |.count=>F.Count_fits r a0 a1 a2
 |.step=>F.Step_fits r a0 a1 a2
 |.sums=>F.Sums_fits r a0 a1 a2
 |.ways=>F.Ways_fits r a0 a1 a2
 |.square=>F.Square_fits r a0 a1 a2
 |.reach=>F.Reach_fits r a0 a1 a2
 |.turn=>F.Turn_fits r a0 a1 a2
def F.m_told_numbers (r:RuleT)  : RE (List Int):=match r.k with
 |.unlike=>F.Rule_told_numbers r
 |.total=>F.Total_told_numbers r
 |.rising=>F.Rule_told_numbers r
 |.seen=>F.Seen_told_numbers r
 |.counted=>F.Counted_told_numbers r
 |.joined=>F.Joined_told_numbers r
 |.nosquare=>F.NoSquare_told_numbers r
 |.ring=>F.Ring_told_numbers r
def F.Rule_line (ae:RuleT):RE (List Nat):=
 (RE.ok [32]).bind fun x5=>(((F.m_name ae).bind fun x1=>RE.ok [x1]).bind fun x3=>((F.m_told_numbers ae).bind fun x2=>gd (leB x2.length) (lcE (fun(a7:Int)=>(RE.ok true)) (fun(a7:Int)=>(qsi a7)) x2)).bind fun x4=>qcE x3 x4).bind fun x6=>qpv x5 x6
def F.Puzzle_lines (ae:PuzT):RE (List (List Nat)):=
 (RE.ok ae.rules).bind fun x1=>gd (leB x1.length) (lcE (fun(ak:RuleT)=>(RE.ok true)) (fun(ak:RuleT)=>(F.Rule_line ak)) x1)
def F.look_at_move (au:Int):RE Unit:=
 (RE.ok (!(decide (0≤au)&&decide (au≤7)))).bind fun k1=>if k1=true then RE.exc 38 [] else (RE.ok ())
def F.turned_spot (aE:Int) (aA:Int × Int):RE (Int × Int):=
 RE.ok (aA.2,(aE - 1) - aA.1)
def F.moved_floor (ah:Int × Int × Int) (au:Int):RE (Int × Int × Int):=
 (F.look_at_move au).bind fun _=>(RE.ok ah).bind fun p1=>(RE.ok (decide ((Int.fmod au 2)=1))).bind fun k2=>if k2=true then (RE.ok (p1.2.1,p1.1,p1.2.2)) else (RE.ok (p1.1,p1.2.1,p1.2.2))
def F.moved_cells (ah:Int × Int × Int) (au:Int):RE (List Int):=
 (F.look_at_move au).bind fun _=>(RE.ok ([]:List Int)).bind fun ai=>(((F.many_cells ah).bind qa2).bind fun y33=>qai (fun(ab:Int) (s16:List Int)=>(RE.ok ah).bind fun p17=>(F.spot_of ah ab).bind fun aA=>((RE.ok (decide (4≤au))).bind fun k18=>if k18=true then ((RE.ok ((aA.1,(p17.2.1 - 1) - aA.2):Int × Int)).bind fun aA=>RE.ok aA) else (RE.ok aA)).bind fun(p19:Int × Int)=>((qa2 (Int.fmod au 4)).bind fun y31=>qai (fun(bf:Int) (s23:Int × Int × (Int × Int))=>(F.turned_spot s23.1 s23.2.2).bind fun aA=>((RE.ok s23.2.1).bind fun x25=>(RE.ok s23.1).bind fun x26=>RE.ok (x25,x26)).bind fun p24=>RE.ok (p24.1,p24.2,aA)) y31 (p17.1,p17.2.1,p19)).bind fun(p27:Int × Int × (Int × Int))=>(((qix p27.2.2.1 p27.2.1).bind fun x28=>RE.ok (x28+p27.2.2.2)).bind fun x30=>qdp s16 x30).bind fun ai=>RE.ok ai) y33 ai).bind fun(p32:List Int)=>RE.ok p32
def F.full (ah:Int × Int × Int):RE (List Int):=
 ((F.many_cells ah).bind qa2).bind fun x4=>gd (leB x4.length) (lcE (fun(ab:Int)=>(RE.ok true)) (fun(ab:Int)=>((F.bit (ah.2.2+1)).bind fun x2=>RE.ok (x2 - 1))) x4)
def F.filling_by (al:List Int):RE (List Int):=
 (RE.ok ([]:List Int)).bind fun aq=>((RE.ok al).bind fun y9=>qai (fun(aL:Int) (s3:List Int)=>(F.signs_in aL).bind fun am=>((RE.ok (decide ((List.length am:Int)=1))).bind fun k4=>if k4=true then (((atE am 0).bind fun x6=>qdp s3 x6).bind fun aq=>RE.ok aq) else ((qdp s3 0).bind fun aq=>RE.ok aq)).bind fun(p7:List Int)=>RE.ok p7) y9 aq).bind fun(p8:List Int)=>RE.ok p8
def F.many_floors (ac:PuzT):RE Int:=
 (RE.ok (1:Int)).bind fun aC=>((F.Puzzle_clues ac).bind fun y21=>qai (fun(bj:Int) (s7:Int)=>((RE.ok (decide (bj=0))).bind fun k8=>if k8=true then ((((F.Puzzle_place ac).bind fun x15=>RE.ok x15.2.2).bind fun x17=>qix s7 x17).bind fun aC=>(RE.ok (decide (1024<aC))).bind fun k18=>if k18=true then RE.exc 36 [] else (RE.ok aC)) else (RE.ok s7)).bind fun(p19:Int)=>RE.ok p19) y21 aC).bind fun(p20:Int)=>RE.ok p20
def F.laid (ac:PuzT) (bg:List Int) (a7:Int):RE (List Int):=
 ((F.Puzzle_place ac).bind fun x1=>RE.ok x1.2.2).bind fun am=>(F.Puzzle_clues ac).bind fun aq=>(((F.Puzzle_many ac).bind qrU).bind fun y35=>qai (fun(ab:Int) (s13:Int × (List Int))=>(((atE s13.2 ab).bind fun x14=>RE.ok (decide (x14=0))).bind fun k16=>if k16=true then ((((((atE bg ab).bind fun x25=>RE.ok (x25+s13.1)).bind fun x27=>qgF x27 am).bind fun x30=>RE.ok (1+x30)).bind fun x31=>(RE.ok ab).bind fun x32=>qif s13.2 x32 x31).bind fun aq=>(qks s13.1 am).bind fun a7=>RE.ok (a7,aq)) else (RE.ok (s13.1,s13.2))).bind fun(p33:Int × (List Int))=>RE.ok (p33.1,p33.2)) y35 (a7,aq)).bind fun(p34:Int × (List Int))=>RE.ok p34.2
def F.answers (ac:PuzT) (bI:Int):RE (List (List Int)):=
 (((F.Puzzle_many ac).bind qa2).bind fun x2=>gd (leB x2.length) (RE.ok (List.map (fun(ab:Int)=>0) x2))).bind fun bg=>(RE.ok ([]:List (List Int))).bind fun ai=>Fl.bR (((F.many_floors ac).bind qa2).bind fun y11=>qbi (fun(a7:Int) (s6:List (List Int))=>((F.laid ac bg a7).bind fun aq=>(F.Puzzle_meets ac aq).bind fun k7=>if k7=true then ((qdp s6 aq).bind fun ai=>(RE.ok (decide ((List.length ai:Int)=bI))).bind fun k8=>if k8=true then (RE.ok (.rt ai)) else (RE.ok (.nx ai))) else (RE.ok (.nx s6)):RE (Fl (List (List Int)) (List (List Int))))) y11 ai) fun(p10:List (List Int))=>RE.ok p10
def F.filled (ac:PuzT) (a9:List Int):RE (Option (List Int)):=
 ((F.Puzzle_place ac).bind fun x1=>RE.ok x1.2.2).bind fun am=>((RE.ok a9).bind fun x2=>gd (leB x2.length) (lcE (fun(a7:Int)=>(RE.ok true)) (fun(a7:Int)=>(qgF a7 am)) x2)).bind fun bg=>Fl.bR (((F.many_floors ac).bind qa2).bind fun y9=>qbi (fun(a7:Int) (s5:Unit)=>((F.laid ac bg a7).bind fun aq=>(F.Puzzle_meets ac aq).bind fun k6=>if k6=true then (RE.ok (.rt (some aq))) else (RE.ok (.nx ())):RE (Fl (Option (List Int)) (Unit)))) y9 ()) fun(p8:Unit)=>RE.ok (none:Option (List Int))
def F.struck (al:List Int) (ab:Int) (aj:Int):RE (List Int):=
 (RE.ok (al:List Int)).bind fun ai=>(((atE ai ab).bind fun x1=>(RE.ok aj).bind fun x2=>F.stands x1 x2).bind fun k3=>if k3=true then ((((atE ai ab).bind fun x8=>(F.bit aj).bind fun x9=>RE.ok (x8 - x9)).bind fun x10=>(RE.ok ab).bind fun x11=>qif ai x11 x10).bind fun ai=>RE.ok ai) else (RE.ok ai)).bind fun(p12:List Int)=>RE.ok p12
def F.clashes (al:List Int):RE Bool:=
 RE.ok (decide (0∈al))
def F.is_settled (al:List Int):RE Bool:=
 ((RE.ok al).bind fun x4=>gd (leB x4.length) (lcE (fun(aL:Int)=>(RE.ok true)) (fun(aL:Int)=>(((F.signs_in aL).bind fun x1=>RE.ok (List.length x1:Int)).bind fun x2=>RE.ok (decide (x2=1)))) x4)).bind fun x5=>RE.ok (List.all x5 id)
def F.ways (al:List Int):RE Int:=
 (RE.ok (1:Int)).bind fun bp=>((RE.ok al).bind fun y11=>qai (fun(aL:Int) (s5:Int)=>(((F.signs_in aL).bind fun x7=>RE.ok (List.length x7:Int)).bind fun x9=>qix s5 x9).bind fun bp=>RE.ok bp) y11 bp).bind fun(p10:Int)=>RE.ok p10
def F.Rule_reckons (ae:RuleT):RE Bool:=
 RE.ok false
def F.Total_reckons (ae:RuleT):RE Bool:=
 RE.ok true
def F.Rising_reckons (ae:RuleT):RE Bool:=
 RE.ok true
def F.Seen_reckons (ae:RuleT):RE Bool:=
 RE.ok true
def F.Puzzle_clued (ae:PuzT) (aN:List Int):RE PuzT:=
 (RE.ok ae.ground).bind fun x2=>((F.Puzzle_lines ae).bind fun x1=>RE.ok ((List.map (eS)) x1)).bind fun x3=>(RE.ok aN).bind fun x4=>F.Puzzle_new x2 x3 x4
def F.Kind_mores (ae:KK) (ac:PuzT) (al:List Int) (ak:Option RuleT) (ab:Int) (aj:Int):RE (List (List Int)):=
 RE.ok [[]]
def F.Only_mores (ae:KK) (ac:PuzT) (al:List Int) (ak:Option RuleT) (ab:Int) (aj:Int):RE (List (List Int)):=
 (((unO ak).bind fun x1=>(RE.ok ab).bind fun x2=>F.others_of x1 x2).bind fun x3=>RE.ok (qbZ x3)).bind fun x4=>gd (leB x4.length) (RE.ok (List.map (fun(ay:Int)=>[ay]) x4))
def F.Place_mores (ae:KK) (ac:PuzT) (al:List Int) (ak:Option RuleT) (ab:Int) (aj:Int):RE (List (List Int)):=
 ((RE.ok 1).bind fun x4=>(((F.Puzzle_place ac).bind fun x1=>RE.ok x1.2.2).bind fun x2=>RE.ok (x2+1)).bind fun x5=>qf4 x4 x5).bind fun x6=>gd (leB x6.length) (RE.ok (List.map (fun(ay:Int)=>[ay]) x6))
def F.Pair_mores (ae:KK) (ac:PuzT) (al:List Int) (ak:Option RuleT) (ab:Int) (aj:Int):RE (List (List Int)):=
 ((unO ak).bind fun x1=>(RE.ok ab).bind fun x2=>F.others_of x1 x2).bind fun aH=>(RE.ok ([]:List (List Int))).bind fun ai=>((qa2 (List.length aH:Int)).bind fun y23=>qai (fun(a8:Int) (s12:List (List Int))=>((RE.ok (qcq aH (some (a8+1)) none)).bind fun y21=>qai (fun(ay:Int) (s16:List (List Int))=>(((atE aH a8).bind fun x17=>(RE.ok ay).bind fun x18=>RE.ok [x17,x18]).bind fun x19=>qdp s16 x19).bind fun ai=>RE.ok ai) y21 s12).bind fun(p20:List (List Int))=>RE.ok p20) y23 ai).bind fun(p22:List (List Int))=>RE.ok (qdn p22)
def F.must_have (al:List Int) (aj:Int):RE (List Int):=
 (qa2 (List.length al:Int)).bind fun x3=>gd (leB x3.length) (lcE (fun(ab:Int)=>((atE al ab).bind fun x1=>(RE.ok aj).bind fun x2=>F.has_only x1 x2)) (fun(ab:Int)=>(RE.ok ab)) x3)
def F.Square_mores (ae:KK) (ac:PuzT) (al:List Int) (ak:Option RuleT) (ab:Int) (aj:Int):RE (List (List Int)):=
 ((F.Puzzle_place ac).bind fun x1=>F.squares x1).bind fun x3=>gd (leB x3.length) (lcE (fun(aT:List Int)=>(RE.ok (decide (ab∈aT)))) (fun(aT:List Int)=>((atE aT 0).bind fun x2=>RE.ok [x2])) x3)
def F.Reach_mores (ae:KK) (ac:PuzT) (al:List Int) (ak:Option RuleT) (ab:Int) (aj:Int):RE (List (List Int)):=
 (((RE.ok al).bind fun x2=>((unO ak).bind fun x1=>F.Rule_sign x1).bind fun x3=>F.must_have x2 x3).bind fun x4=>gd (leB x4.length) (RE.ok (List.filter (fun(ay:Int)=>!decide (ay=ab)) x4))).bind fun aW=>(((unO ak).bind fun x5=>F.Rule_sign x5).bind fun x7=>RE.ok (decide (aj=x7))).bind fun k8=>if k8=true then ((RE.ok aW).bind fun x9=>gd (leB x9.length) (RE.ok (List.map (fun(ay:Int)=>[ay]) x9))) else ((RE.ok (qcq aW (some 1) none)).bind fun x12=>gd (leB x12.length) (lcE (fun(ay:Int)=>(RE.ok true)) (fun(ay:Int)=>((atE aW 0).bind fun x10=>(RE.ok ay).bind fun x11=>RE.ok [x10,x11])) x12))
def F.Turn_mores (ae:KK) (ac:PuzT) (al:List Int) (ak:Option RuleT) (ab:Int) (aj:Int):RE (List (List Int)):=
 (((F.Puzzle_place ac).bind fun x1=>(RE.ok ab).bind fun x2=>F.beside x1 x2).bind fun x3=>gd (leB x3.length) (RE.ok (List.map (fun(ay:Int)=>[ay]) x3))).bind fun x5=>qcE [[]] x5
def F.kinds_by (bi:List (List Nat)):RE (List KK):=
 F.all_kinds.bind fun x3=>gd (leB x3.length) (lcE (fun(aJ:KK)=>((F.m_word aJ).bind fun x1=>evC .isin (eS x1) ((eL eS) bi))) (fun(aJ:KK)=>(RE.ok aJ)) x3)
def F.m_mores (r:KK) (a0:PuzT) (a1:List Int) (a2:Option RuleT) (a3:Int) (a4:Int):RE (List (List Int)):=match r with
 |.clue=>F.Kind_mores r a0 a1 a2 a3 a4
 |.only=>F.Only_mores r a0 a1 a2 a3 a4
 |.place=>F.Place_mores r a0 a1 a2 a3 a4
 |.pair=>F.Pair_mores r a0 a1 a2 a3 a4
 |.count=>F.Kind_mores r a0 a1 a2 a3 a4
 |.step=>F.Kind_mores r a0 a1 a2 a3 a4
 |.sums=>F.Kind_mores r a0 a1 a2 a3 a4
 |.ways=>F.Kind_mores r a0 a1 a2 a3 a4
 |.square=>F.Square_mores r a0 a1 a2 a3 a4
 |.reach=>F.Reach_mores r a0 a1 a2 a3 a4
 |.turn=>F.Turn_mores r a0 a1 a2 a3 a4
def F.thought_at (ac:PuzT) (al:List Int) (aJ:KK) (a7:Int) (ab:Int):RE (Option (List Nat × Int × Int × Int × (List Int))):=
 (RE.ok (():Unit)).bind fun ak=>(((F.Puzzle_many_rules ac).bind fun x2=>RE.ok (decide (a7<x2))).bind fun k3=>if k3=true then ((F.Puzzle_rule_at ac a7).bind fun ak=>RE.ok (some ak)) else (RE.ok (none:Option RuleT))).bind fun(p4:Option RuleT)=>Fl.bR (((atE al ab).bind fun x5=>F.signs_in x5).bind fun y44=>qbi (fun(aj:Int) (s24:Unit)=>(Fl.bF ((F.m_mores aJ ac al p4 ab aj).bind fun y42=>qbi (fun(aB:List Int) (s32:Unit)=>(((F.m_word aJ).bind fun x33=>(RE.ok a7).bind fun x34=>(RE.ok ab).bind fun x35=>(RE.ok aj).bind fun x36=>(RE.ok aB).bind fun x37=>RE.ok (x33,x34,x35,x36,x37)).bind fun ao=>((F.m_fits aJ ac p4 ao).bind fun k38=>if k38=true then (F.m_strikes aJ ac al p4 ao) else RE.ok false).bind fun k39=>if k39=true then (RE.ok (.rt (some ao))) else (RE.ok (.nx ())):RE (Fl (Option (List Nat × Int × Int × Int × (List Int))) (Unit)))) y42 ()) fun(p41:Unit)=>RE.ok (.nx ()):RE (Fl (Option (List Nat × Int × Int × Int × (List Int))) (Unit)))) y44 ()) fun(p43:Unit)=>RE.ok (none:Option (List Nat × Int × Int × Int × (List Int)))
def F.first_of (ac:PuzT) (al:List Int) (aJ:KK) (a7:Int) (az:List Int):RE (Option (List Nat × Int × Int × Int × (List Int))):=
 Fl.bR ((RE.ok az).bind fun y6=>qbi (fun(ab:Int) (s2:Unit)=>((F.thought_at ac al aJ a7 ab).bind fun ai=>(RE.ok ai.isSome).bind fun k3=>if k3=true then (RE.ok (.rt ai)) else (RE.ok (.nx ())):RE (Fl (Option (List Nat × Int × Int × Int × (List Int))) (Unit)))) y6 ()) fun(p5:Unit)=>RE.ok (none:Option (List Nat × Int × Int × Int × (List Int)))
def F.is_for (aJ:KK) (ak:RuleT):RE Bool:=
 ((F.m_word aJ).bind fun x1=>qrz qdQ false x1).bind fun k5=>if k5=true then RE.ok true else ((F.m_name ak).bind fun x3=>((F.m_word aJ).bind fun x2=>qrx qdQ x2).bind fun x4=>qrA x3 x4)
def F.next_thought (ac:PuzT) (al:List Int) (aS:List (List Nat)):RE (Option (List Nat × Int × Int × Int × (List Int))):=
 (F.clashes al).bind fun k1=>if k1=true then (RE.ok (none:Option (List Nat × Int × Int × Int × (List Int)))) else (Fl.bR ((F.kinds_by aS).bind fun y113=>qbi (fun(aJ:KK) (s39:Unit)=>((RE.ok (():Unit)).bind fun ai=>(((F.m_word aJ).bind fun x40=>(atE qay 0).bind fun x41=>RE.ok (decide (x40=x41))).bind fun k42=>if k42=true then (((RE.ok ac).bind fun x77=>(RE.ok al).bind fun x78=>(RE.ok aJ).bind fun x79=>(RE.ok 0).bind fun x80=>((F.Puzzle_many ac).bind qa2).bind fun x81=>F.first_of x77 x78 x79 x80 x81).bind fun ai=>RE.ok ai) else ((((F.Puzzle_many_rules ac).bind qa2).bind fun y108=>qai (fun(a7:Int) (s91:Option (List Nat × Int × Int × Int × (List Int)))=>(F.Puzzle_rule_at ac a7).bind fun ak=>(((RE.ok s91.isNone).bind fun k92=>if k92=true then (F.is_for aJ ak) else RE.ok false).bind fun k93=>if k93=true then (((RE.ok ac).bind fun x101=>(RE.ok al).bind fun x102=>(RE.ok aJ).bind fun x103=>(RE.ok a7).bind fun x104=>((F.Rule_spots ak).bind fun x100=>RE.ok (qbZ x100)).bind fun x105=>F.first_of x101 x102 x103 x104 x105).bind fun ai=>RE.ok ai) else (RE.ok s91)).bind fun(p106:Option (List Nat × Int × Int × Int × (List Int)))=>RE.ok p106) y108 (none:Option (List Nat × Int × Int × Int × (List Int)))).bind fun(p107:Option (List Nat × Int × Int × Int × (List Int)))=>RE.ok p107)).bind fun(p109:Option (List Nat × Int × Int × Int × (List Int)))=>(RE.ok p109.isSome).bind fun k110=>if k110=true then (RE.ok (.rt p109)) else (RE.ok (.nx ())):RE (Fl (Option (List Nat × Int × Int × Int × (List Int))) (Unit)))) y113 ()) fun(p112:Unit)=>RE.ok (none:Option (List Nat × Int × Int × Int × (List Int))))
def F.think (ac:PuzT) (al:List Int) (aS:List (List Nat)):RE ((List Int) × (List (List Nat × Int × Int × Int × (List Int)))):=
 (RE.ok (al:List Int)).bind fun av=>(RE.ok ([]:List (List Nat × Int × Int × Int × (List Int)))).bind fun aF=>Fl.bR (qqm (fun(s8:(List Int) × (List (List Nat × Int × Int × Int × (List Int))))=>((F.clashes s8.1).bind fun x9=>RE.ok (!x9))) (fun(s8:(List Int) × (List (List Nat × Int × Int × Int × (List Int))))=>((F.next_thought ac s8.1 aS).bind fun ao=>(RE.ok ao.isNone).bind fun k10=>if k10=true then (RE.ok (.bk (s8.1,s8.2))) else (((RE.ok s8.1).bind fun x13=>((unO ao).bind fun x11=>RE.ok x11.2.2.1).bind fun x14=>((unO ao).bind fun x12=>RE.ok x12.2.2.2.1).bind fun x15=>F.struck x13 x14 x15).bind fun av=>((unO ao).bind fun x16=>qdp s8.2 x16).bind fun aF=>RE.ok (.nx (av,aF))):RE (Fl ((List Int) × (List (List Nat × Int × Int × Int × (List Int)))) ((List Int) × (List (List Nat × Int × Int × Int × (List Int))))))) qp2 (av,aF)) fun(p17:(List Int) × (List (List Nat × Int × Int × Int × (List Int))))=>RE.ok (p17.1,p17.2)
def F.settles (ac:PuzT) (aS:List (List Nat)):RE Bool:=
 (((RE.ok ac).bind fun x2=>((F.Puzzle_place ac).bind fun x1=>F.full x1).bind fun x3=>(RE.ok aS).bind fun x4=>F.think x2 x3 x4).bind fun x5=>RE.ok x5.1).bind fun av=>(F.is_settled av).bind fun k8=>if k8=true then ((RE.ok ac).bind fun x7=>(F.filling_by av).bind fun x6=>F.Puzzle_meets x7 x6) else RE.ok false
def F.with_only (al:List Int) (ab:Int) (aj:Int):RE (List Int):=
 (RE.ok (al:List Int)).bind fun av=>((qrV 1 (aj - 1)).bind fun x1=>(RE.ok ab).bind fun x2=>qif av x2 x1).bind fun av=>RE.ok av
def F.first_open (al:List Int):RE Int:=
 Fl.bR ((qa2 (List.length al:Int)).bind fun y14=>qbi (fun(ab:Int) (s6:Unit)=>(((((atE al ab).bind fun x7=>F.signs_in x7).bind fun x8=>RE.ok (List.length x8:Int)).bind fun x9=>RE.ok (decide (1<x9))).bind fun k11=>if k11=true then (RE.ok (.rt ab)) else (RE.ok (.nx ())):RE (Fl (Int) (Unit)))) y14 ()) fun(p13:Unit)=>RE.ok 0
def F.answers_in__1 (ac:PuzT) (al:List Int):RE (List (List Int)):=
 ((F.think ac al qay).bind fun x1=>RE.ok x1.1).bind fun av=>(F.clashes av).bind fun k2=>if k2=true then (RE.ok []) else ((F.is_settled av).bind fun k3=>if k3=true then ((F.filling_by av).bind fun x4=>RE.ok [x4]) else ((F.first_open av).bind fun ab=>(RE.ok ([]:List (List Int))).bind fun ai=>(((atE av ab).bind fun x5=>F.signs_in x5).bind fun y17=>qai (fun(aj:Int) (s9:List (List Int))=>((RE.ok (decide ((List.length s9:Int)<2))).bind fun k10=>if k10=true then (((RE.bad:RE (List (List Int))).bind fun x14=>qcE s9 x14).bind fun ai=>RE.ok ai) else (RE.ok s9)).bind fun(p15:List (List Int))=>RE.ok p15) y17 ai).bind fun(p16:List (List Int))=>RE.ok p16))
def F.answers_in__2 (ac:PuzT) (al:List Int):RE (List (List Int)):=
 ((F.think ac al qay).bind fun x1=>RE.ok x1.1).bind fun av=>(F.clashes av).bind fun k2=>if k2=true then (RE.ok []) else ((F.is_settled av).bind fun k3=>if k3=true then ((F.filling_by av).bind fun x4=>RE.ok [x4]) else ((F.first_open av).bind fun ab=>(RE.ok ([]:List (List Int))).bind fun ai=>(((atE av ab).bind fun x5=>F.signs_in x5).bind fun y23=>qai (fun(aj:Int) (s11:List (List Int))=>((RE.ok (decide ((List.length s11:Int)<2))).bind fun k12=>if k12=true then ((((RE.ok ac).bind fun x17=>(F.with_only av ab aj).bind fun x18=>F.answers_in__1 x17 x18).bind fun x20=>qcE s11 x20).bind fun ai=>RE.ok ai) else (RE.ok s11)).bind fun(p21:List (List Int))=>RE.ok p21) y23 ai).bind fun(p22:List (List Int))=>RE.ok p22))
def F.answers_in__3 (ac:PuzT) (al:List Int):RE (List (List Int)):=
 ((F.think ac al qay).bind fun x1=>RE.ok x1.1).bind fun av=>(F.clashes av).bind fun k2=>if k2=true then (RE.ok []) else ((F.is_settled av).bind fun k3=>if k3=true then ((F.filling_by av).bind fun x4=>RE.ok [x4]) else ((F.first_open av).bind fun ab=>(RE.ok ([]:List (List Int))).bind fun ai=>(((atE av ab).bind fun x5=>F.signs_in x5).bind fun y23=>qai (fun(aj:Int) (s11:List (List Int))=>((RE.ok (decide ((List.length s11:Int)<2))).bind fun k12=>if k12=true then ((((RE.ok ac).bind fun x17=>(F.with_only av ab aj).bind fun x18=>F.answers_in__2 x17 x18).bind fun x20=>qcE s11 x20).bind fun ai=>RE.ok ai) else (RE.ok s11)).bind fun(p21:List (List Int))=>RE.ok p21) y23 ai).bind fun(p22:List (List Int))=>RE.ok p22))
def F.answers_in__4 (ac:PuzT) (al:List Int):RE (List (List Int)):=
 ((F.think ac al qay).bind fun x1=>RE.ok x1.1).bind fun av=>(F.clashes av).bind fun k2=>if k2=true then (RE.ok []) else ((F.is_settled av).bind fun k3=>if k3=true then ((F.filling_by av).bind fun x4=>RE.ok [x4]) else ((F.first_open av).bind fun ab=>(RE.ok ([]:List (List Int))).bind fun ai=>(((atE av ab).bind fun x5=>F.signs_in x5).bind fun y23=>qai (fun(aj:Int) (s11:List (List Int))=>((RE.ok (decide ((List.length s11:Int)<2))).bind fun k12=>if k12=true then ((((RE.ok ac).bind fun x17=>(F.with_only av ab aj).bind fun x18=>F.answers_in__3 x17 x18).bind fun x20=>qcE s11 x20).bind fun ai=>RE.ok ai) else (RE.ok s11)).bind fun(p21:List (List Int))=>RE.ok p21) y23 ai).bind fun(p22:List (List Int))=>RE.ok p22))
def F.answers_in__5 (ac:PuzT) (al:List Int):RE (List (List Int)):=
 ((F.think ac al qay).bind fun x1=>RE.ok x1.1).bind fun av=>(F.clashes av).bind fun k2=>if k2=true then (RE.ok []) else ((F.is_settled av).bind fun k3=>if k3=true then ((F.filling_by av).bind fun x4=>RE.ok [x4]) else ((F.first_open av).bind fun ab=>(RE.ok ([]:List (List Int))).bind fun ai=>(((atE av ab).bind fun x5=>F.signs_in x5).bind fun y23=>qai (fun(aj:Int) (s11:List (List Int))=>((RE.ok (decide ((List.length s11:Int)<2))).bind fun k12=>if k12=true then ((((RE.ok ac).bind fun x17=>(F.with_only av ab aj).bind fun x18=>F.answers_in__4 x17 x18).bind fun x20=>qcE s11 x20).bind fun ai=>RE.ok ai) else (RE.ok s11)).bind fun(p21:List (List Int))=>RE.ok p21) y23 ai).bind fun(p22:List (List Int))=>RE.ok p22))
def F.supposed__1 (ac:PuzT) (al:List Int) (ab:Int) (aj:Int):RE D:=
 ((RE.ok ([115,117,112,112,111,115,101])).bind fun x1=>(RE.ok 0).bind fun x2=>(RE.ok ab).bind fun x3=>(RE.ok aj).bind fun x4=>(RE.bad:RE (List D)).bind fun x5=>RE.ok (x1,x2,x3,x4,x5)).bind fun x6=>RE.ok (((eT5 eS eI eI eI (eL eD))) x6)
def F.refuted__1 (ac:PuzT) (al:List Int):RE (List D):=
 ((F.think ac al qay).bind (qe4 eI (eT5 eS eI eI eI (eL eI)))).bind fun p1=>(F.clashes p1.1).bind fun k2=>if k2=true then (RE.ok (List.map ((eT5 eS eI eI eI (eL eI))) p1.2)) else ((F.first_open p1.1).bind fun ab=>(((atE p1.1 ab).bind fun x3=>F.signs_in x3).bind fun y8=>qai (fun(aj:Int) (s5:List D)=>((F.supposed__1 ac p1.1 ab aj).bind fun x6=>qdp s5 x6).bind fun aF=>RE.ok aF) y8 (List.map ((eT5 eS eI eI eI (eL eI))) p1.2)).bind fun(p7:List D)=>RE.ok p7)
def F.supposed__2 (ac:PuzT) (al:List Int) (ab:Int) (aj:Int):RE D:=
 ((RE.ok ([115,117,112,112,111,115,101])).bind fun x3=>(RE.ok 0).bind fun x4=>(RE.ok ab).bind fun x5=>(RE.ok aj).bind fun x6=>((RE.ok ac).bind fun x1=>(F.with_only al ab aj).bind fun x2=>F.refuted__1 x1 x2).bind fun x7=>RE.ok (x3,x4,x5,x6,x7)).bind fun x8=>RE.ok (((eT5 eS eI eI eI (eL eD))) x8)
def F.refuted__2 (ac:PuzT) (al:List Int):RE (List D):=
 ((F.think ac al qay).bind (qe4 eI (eT5 eS eI eI eI (eL eI)))).bind fun p1=>(F.clashes p1.1).bind fun k2=>if k2=true then (RE.ok (List.map ((eT5 eS eI eI eI (eL eI))) p1.2)) else ((F.first_open p1.1).bind fun ab=>(((atE p1.1 ab).bind fun x3=>F.signs_in x3).bind fun y8=>qai (fun(aj:Int) (s5:List D)=>((F.supposed__2 ac p1.1 ab aj).bind fun x6=>qdp s5 x6).bind fun aF=>RE.ok aF) y8 (List.map ((eT5 eS eI eI eI (eL eI))) p1.2)).bind fun(p7:List D)=>RE.ok p7)
def F.supposed__3 (ac:PuzT) (al:List Int) (ab:Int) (aj:Int):RE D:=
 ((RE.ok ([115,117,112,112,111,115,101])).bind fun x3=>(RE.ok 0).bind fun x4=>(RE.ok ab).bind fun x5=>(RE.ok aj).bind fun x6=>((RE.ok ac).bind fun x1=>(F.with_only al ab aj).bind fun x2=>F.refuted__2 x1 x2).bind fun x7=>RE.ok (x3,x4,x5,x6,x7)).bind fun x8=>RE.ok (((eT5 eS eI eI eI (eL eD))) x8)
def F.refuted__3 (ac:PuzT) (al:List Int):RE (List D):=
 ((F.think ac al qay).bind (qe4 eI (eT5 eS eI eI eI (eL eI)))).bind fun p1=>(F.clashes p1.1).bind fun k2=>if k2=true then (RE.ok (List.map ((eT5 eS eI eI eI (eL eI))) p1.2)) else ((F.first_open p1.1).bind fun ab=>(((atE p1.1 ab).bind fun x3=>F.signs_in x3).bind fun y8=>qai (fun(aj:Int) (s5:List D)=>((F.supposed__3 ac p1.1 ab aj).bind fun x6=>qdp s5 x6).bind fun aF=>RE.ok aF) y8 (List.map ((eT5 eS eI eI eI (eL eI))) p1.2)).bind fun(p7:List D)=>RE.ok p7)
def F.supposed__4 (ac:PuzT) (al:List Int) (ab:Int) (aj:Int):RE D:=
 ((RE.ok ([115,117,112,112,111,115,101])).bind fun x3=>(RE.ok 0).bind fun x4=>(RE.ok ab).bind fun x5=>(RE.ok aj).bind fun x6=>((RE.ok ac).bind fun x1=>(F.with_only al ab aj).bind fun x2=>F.refuted__3 x1 x2).bind fun x7=>RE.ok (x3,x4,x5,x6,x7)).bind fun x8=>RE.ok (((eT5 eS eI eI eI (eL eD))) x8)
def F.refuted__4 (ac:PuzT) (al:List Int):RE (List D):=
 ((F.think ac al qay).bind (qe4 eI (eT5 eS eI eI eI (eL eI)))).bind fun p1=>(F.clashes p1.1).bind fun k2=>if k2=true then (RE.ok (List.map ((eT5 eS eI eI eI (eL eI))) p1.2)) else ((F.first_open p1.1).bind fun ab=>(((atE p1.1 ab).bind fun x3=>F.signs_in x3).bind fun y8=>qai (fun(aj:Int) (s5:List D)=>((F.supposed__4 ac p1.1 ab aj).bind fun x6=>qdp s5 x6).bind fun aF=>RE.ok aF) y8 (List.map ((eT5 eS eI eI eI (eL eI))) p1.2)).bind fun(p7:List D)=>RE.ok p7)
def F.supposed__5 (ac:PuzT) (al:List Int) (ab:Int) (aj:Int):RE D:=
 ((RE.ok ([115,117,112,112,111,115,101])).bind fun x3=>(RE.ok 0).bind fun x4=>(RE.ok ab).bind fun x5=>(RE.ok aj).bind fun x6=>((RE.ok ac).bind fun x1=>(F.with_only al ab aj).bind fun x2=>F.refuted__4 x1 x2).bind fun x7=>RE.ok (x3,x4,x5,x6,x7)).bind fun x8=>RE.ok (((eT5 eS eI eI eI (eL eD))) x8)
def F.refuted__5 (ac:PuzT) (al:List Int):RE (List D):=
 ((F.think ac al qay).bind (qe4 eI (eT5 eS eI eI eI (eL eI)))).bind fun p1=>(F.clashes p1.1).bind fun k2=>if k2=true then (RE.ok (List.map ((eT5 eS eI eI eI (eL eI))) p1.2)) else ((F.first_open p1.1).bind fun ab=>(((atE p1.1 ab).bind fun x3=>F.signs_in x3).bind fun y8=>qai (fun(aj:Int) (s5:List D)=>((F.supposed__5 ac p1.1 ab aj).bind fun x6=>qdp s5 x6).bind fun aF=>RE.ok aF) y8 (List.map ((eT5 eS eI eI eI (eL eI))) p1.2)).bind fun(p7:List D)=>RE.ok p7)
def F.answers_in (ac:PuzT) (al:List Int):RE (List (List Int)):=
 ((F.think ac al qay).bind fun x1=>RE.ok x1.1).bind fun av=>(F.clashes av).bind fun k2=>if k2=true then (RE.ok []) else ((F.is_settled av).bind fun k3=>if k3=true then ((F.filling_by av).bind fun x4=>RE.ok [x4]) else ((F.first_open av).bind fun ab=>(RE.ok ([]:List (List Int))).bind fun ai=>(((atE av ab).bind fun x5=>F.signs_in x5).bind fun y23=>qai (fun(aj:Int) (s11:List (List Int))=>((RE.ok (decide ((List.length s11:Int)<2))).bind fun k12=>if k12=true then ((((RE.ok ac).bind fun x17=>(F.with_only av ab aj).bind fun x18=>F.answers_in__5 x17 x18).bind fun x20=>qcE s11 x20).bind fun ai=>RE.ok ai) else (RE.ok s11)).bind fun(p21:List (List Int))=>RE.ok p21) y23 ai).bind fun(p22:List (List Int))=>RE.ok p22))
def F.supposed (ac:PuzT) (al:List Int) (ab:Int) (aj:Int):RE D:=
 ((RE.ok ([115,117,112,112,111,115,101])).bind fun x3=>(RE.ok 0).bind fun x4=>(RE.ok ab).bind fun x5=>(RE.ok aj).bind fun x6=>((RE.ok ac).bind fun x1=>(F.with_only al ab aj).bind fun x2=>F.refuted__5 x1 x2).bind fun x7=>RE.ok (x3,x4,x5,x6,x7)).bind fun x8=>RE.ok (((eT5 eS eI eI eI (eL eD))) x8)
def F.refuted (ac:PuzT) (al:List Int):RE (List D):=
 ((F.think ac al qay).bind (qe4 eI (eT5 eS eI eI eI (eL eI)))).bind fun p1=>(F.clashes p1.1).bind fun k2=>if k2=true then (RE.ok (List.map ((eT5 eS eI eI eI (eL eI))) p1.2)) else ((F.first_open p1.1).bind fun ab=>(((atE p1.1 ab).bind fun x3=>F.signs_in x3).bind fun y8=>qai (fun(aj:Int) (s5:List D)=>((F.supposed ac p1.1 ab aj).bind fun x6=>qdp s5 x6).bind fun aF=>RE.ok aF) y8 (List.map ((eT5 eS eI eI eI (eL eI))) p1.2)).bind fun(p7:List D)=>RE.ok p7)
def F.left_alone (ac:PuzT) (al:List Int) (bD:List Int):RE (List D):=
 (RE.ok (al:List Int)).bind fun av=>(RE.ok ([]:List D)).bind fun aF=>((qa2 (List.length bD:Int)).bind fun y43=>qai (fun(ab:Int) (s21:(List Int) × (List D))=>(((atE s21.1 ab).bind fun x22=>F.signs_in x22).bind fun y41=>qai (fun(aj:Int) (s30:(List Int) × (List D))=>((((atE bD ab).bind fun x32=>RE.ok (!decide (aj=x32))).bind fun k35=>if k35=true then ((atE s30.1 ab).bind fun x33=>(RE.ok aj).bind fun x34=>F.stands x33 x34) else RE.ok false).bind fun k36=>if k36=true then (((F.supposed ac s30.1 ab aj).bind fun x38=>qdp s30.2 x38).bind fun aF=>(F.struck s30.1 ab aj).bind fun av=>RE.ok (av,aF)) else (RE.ok (s30.1,s30.2))).bind fun(p39:(List Int) × (List D))=>RE.ok (p39.1,p39.2)) y41 (s21.1,s21.2)).bind fun(p40:(List Int) × (List D))=>RE.ok (p40.1,p40.2)) y43 (av,aF)).bind fun(p42:(List Int) × (List D))=>RE.ok p42.2
def F.solve (ac:PuzT):RE D:=
 ((RE.ok ac).bind fun x2=>((F.Puzzle_place ac).bind fun x1=>F.full x1).bind fun x3=>(RE.ok qay).bind fun x4=>F.think x2 x3 x4).bind fun p5=>(F.clashes p5.1).bind fun k6=>if k6=true then (RE.ok ((eT2 eS (eL (eT5 eS eI eI eI (eL eI)))) ([110,111,110,101],p5.2))) else (((F.ways p5.1).bind fun x7=>RE.ok (decide (32<x7))).bind fun k9=>if k9=true then (RE.ok ((eT3 eS (eL eI) (eL (eT5 eS eI eI eI (eL eI)))) ([114,101,115,116,115],p5.1,p5.2))) else ((F.answers_in ac p5.1).bind fun ai=>(RE.ok (decide ((List.length ai:Int)=0))).bind fun k10=>if k10=true then (((RE.ok ([110,111,110,101])).bind fun x13=>((F.refuted ac p5.1).bind fun x12=>qcE (List.map ((eT5 eS eI eI eI (eL eI))) p5.2) x12).bind fun x14=>RE.ok (x13,x14)).bind fun x15=>RE.ok (((eT2 eS (eL eD))) x15)) else ((RE.ok (decide (1<(List.length ai:Int)))).bind fun k16=>if k16=true then (((RE.ok ([116,119,111])).bind fun x17=>(atE ai 0).bind fun x18=>(atE ai 1).bind fun x19=>RE.ok (x17,x18,x19)).bind fun x20=>RE.ok (((eT3 eS (eL eI) (eL eI))) x20)) else (((RE.ok ([111,110,101])).bind fun x26=>(atE ai 0).bind fun x27=>(((RE.ok ac).bind fun x21=>(RE.ok p5.1).bind fun x22=>(atE ai 0).bind fun x23=>F.left_alone x21 x22 x23).bind fun x25=>qcE (List.map ((eT5 eS eI eI eI (eL eI))) p5.2) x25).bind fun x28=>RE.ok (x26,x27,x28)).bind fun x29=>RE.ok (((eT3 eS (eL eI) (eL eD))) x29)))))
def F.without (aN:List Int) (ab:Int):RE (List Int):=
 (RE.ok (aN:List Int)).bind fun bt=>(qif bt ab 0).bind fun bt=>RE.ok bt
def F.taken (ac:PuzT) (bh:List Int) (aS:List (List Nat)):RE (Option ((List Int) × (List (Int × (List Int))))):=
 ((F.settles ac aS).bind fun x1=>RE.ok (!x1)).bind fun k2=>if k2=true then (RE.ok (none:Option ((List Int) × (List (Int × (List Int)))))) else ((F.Puzzle_clues ac).bind fun aN=>((RE.ok bh).bind fun y62=>qai (fun(ab:Int) (s11:List Int)=>((((atE s11 ab).bind fun x12=>RE.ok (!decide (x12=0))).bind fun k18=>if k18=true then (((RE.ok ac).bind fun x15=>(F.without s11 ab).bind fun x14=>F.Puzzle_clued x15 x14).bind fun x16=>(RE.ok aS).bind fun x17=>F.settles x16 x17) else RE.ok false).bind fun k19=>if k19=true then ((F.without s11 ab).bind fun aN=>RE.ok aN) else (RE.ok s11)).bind fun(p20:List Int)=>RE.ok p20) y62 aN).bind fun(p21:List Int)=>(RE.ok ([]:List (Int × (List Int)))).bind fun bu=>((qnc bh).bind fun y61=>qai (fun(ab:Int) (s35:List (Int × (List Int)))=>(((atE p21 ab).bind fun x36=>RE.ok (!decide (x36=0))).bind fun k38=>if k38=true then (((RE.ok ac).bind fun x50=>(F.without p21 ab).bind fun x49=>F.Puzzle_clued x50 x49).bind fun bJ=>(((RE.ok ab).bind fun x56=>(((RE.ok bJ).bind fun x52=>((F.Puzzle_place ac).bind fun x51=>F.full x51).bind fun x53=>(RE.ok aS).bind fun x54=>F.think x52 x53 x54).bind fun x55=>RE.ok x55.1).bind fun x57=>RE.ok (x56,x57)).bind fun x58=>qdp s35 x58).bind fun bu=>RE.ok bu) else (RE.ok s35)).bind fun(p59:List (Int × (List Int)))=>RE.ok p59) y61 bu).bind fun(p60:List (Int × (List Int)))=>RE.ok (some (p21,p60)))
def F.other_answer (ai:D) (ab:Int) (aj:Int):RE D:=
 (((qkr ai 1).bind fun x1=>(RE.ok ab).bind fun x2=>qkr x1 x2).bind fun x3=>evC .ne (eD x3) (eI aj)).bind fun k5=>if k5=true then (qkr ai 1) else (qkr ai 2)
def F.least (ac:PuzT):RE D:=
 (((F.solve ac).bind fun x1=>(RE.ok 0).bind fun x2=>qkr x1 x2).bind fun x3=>evC .ne (eD x3) (eS ([111,110,101]))).bind fun k5=>if k5=true then (RE.exc 37 []) else ((F.Puzzle_clues ac).bind fun aN=>(RE.ok ([]:List (Int × D))).bind fun aH=>Fl.bR ((RE.ok (qf5 aN)).bind fun y54=>qbi (fun(p33:Int × Int) (s32:List (Int × D))=>((RE.ok (!decide (p33.2=0))).bind fun k34=>if k34=true then ((((RE.ok ac).bind fun x36=>(F.without aN p33.1).bind fun x35=>F.Puzzle_clued x36 x35).bind fun x37=>F.solve x37).bind fun ai=>((qkr ai 0).bind fun x38=>evC .eq (eD x38) (eS ([111,110,101]))).bind fun k40=>if k40=true then ((((RE.ok ([115,112,97,114,101])).bind fun x41=>(RE.ok p33.1).bind fun x42=>(qkr ai 2).bind fun x43=>RE.ok (x41,x42,x43)).bind fun x44=>RE.ok (((eT3 eS eI eD)) x44)).bind fun x45=>RE.ok (.rt x45)) else (((qkr ai 0).bind fun x46=>evC .eq (eD x46) (eS ([114,101,115,116,115]))).bind fun k48=>if k48=true then (RE.ok (.rt ((eT2 eS eI) ([114,101,115,116,115],p33.1)))) else ((((RE.ok p33.1).bind fun x50=>(F.other_answer ai p33.1 p33.2).bind fun x51=>RE.ok (x50,x51)).bind fun x52=>qdp s32 x52).bind fun aH=>RE.ok (.nx aH)))) else (RE.ok (.nx s32)):RE (Fl (D) (List (Int × D))))) y54 aH) fun(p53:List (Int × D))=>RE.ok ((eT2 eS (eL (eT2 eI eD))) ([108,101,97,115,116],p53)))
def F.all_signs (ah:Int × Int × Int):RE (List Int):=
 qf4 1 (ah.2.2+1)
def F.signs_by (ah:Int × Int × Int) (am:Option (List Int)):RE (List Int):=
 (RE.ok am.isNone).bind fun k1=>if k1=true then (F.all_signs ah) else ((((unO am).bind fun x2=>RE.ok (qbZ x2)).bind fun x3=>(F.all_signs ah).bind fun x4=>RE.ok (!decide (x3=x4))).bind fun k5=>if k5=true then (RE.exc 38 []) else ((unO am).bind fun x6=>RE.ok x6))
def F.moved_filling (ah:Int × Int × Int) (aq:List Int) (au:Int) (am:Option (List Int)):RE (List Int):=
 ((F.signs_by ah am).bind fun x2=>qcE [0] x2).bind fun aX=>((RE.ok aq).bind fun x3=>gd (leB x3.length) (RE.ok (List.map (fun(ab:Int)=>0) x3))).bind fun ai=>(((RE.ok aq).bind fun x4=>(F.moved_cells ah au).bind fun x5=>RE.ok (List.zip x4 x5)).bind fun y13=>qai (fun(p9:Int × Int) (s8:List Int)=>((atE aX p9.1).bind fun x10=>(RE.ok p9.2).bind fun x11=>qif s8 x11 x10).bind fun ai=>RE.ok ai) y13 ai).bind fun(p12:List Int)=>RE.ok p12
def F.gone (ak:RuleT) (az:List Int):RE (List Int):=
 (F.Rule_spots ak).bind fun x1=>gd (leB x1.length) (lcE (fun(ab:Int)=>(RE.ok true)) (fun(ab:Int)=>(atE az ab)) x1)
def F.Unlike_carried (ae:RuleT) (ah:Int × Int × Int) (az:List Int) (am:List Int):RE RuleT:=
 (RE.ok ah).bind fun x1=>(F.gone ae az).bind fun x2=>(RE.ok 0).bind fun x3=>(RE.ok 0).bind fun x4=>RE.ok (RuleT.mk .unlike x1 x2 x3 x4)
def F.Total_carried (ae:RuleT) (ah:Int × Int × Int) (az:List Int) (am:List Int):RE RuleT:=
 (RE.ok ah).bind fun x1=>(F.gone ae az).bind fun x2=>(RE.ok ae.wanted).bind fun x3=>(RE.ok 0).bind fun x4=>RE.ok (RuleT.mk .total x1 x2 x3 x4)
def F.Rising_carried (ae:RuleT) (ah:Int × Int × Int) (az:List Int) (am:List Int):RE RuleT:=
 (RE.ok ah).bind fun x1=>(F.gone ae az).bind fun x2=>(RE.ok 0).bind fun x3=>(RE.ok 0).bind fun x4=>RE.ok (RuleT.mk .rising x1 x2 x3 x4)
def F.Seen_carried (ae:RuleT) (ah:Int × Int × Int) (az:List Int) (am:List Int):RE RuleT:=
 (RE.ok ah).bind fun x1=>(F.gone ae az).bind fun x2=>(RE.ok ae.wanted).bind fun x3=>(RE.ok 0).bind fun x4=>RE.ok (RuleT.mk .seen x1 x2 x3 x4)
def F.Counted_carried (ae:RuleT) (ah:Int × Int × Int) (az:List Int) (am:List Int):RE RuleT:=
 (RE.ok ah).bind fun x1=>(F.gone ae az).bind fun x2=>(RE.ok ae.wanted).bind fun x3=>(atE am (ae.sign - 1)).bind fun x4=>RE.ok (RuleT.mk .counted x1 x2 x3 x4)
def F.Joined_carried (ae:RuleT) (ah:Int × Int × Int) (az:List Int) (am:List Int):RE RuleT:=
 (RE.ok ah).bind fun x2=>((F.many_cells ah).bind qa2).bind fun x3=>(RE.ok 0).bind fun x4=>(atE am (ae.sign - 1)).bind fun x5=>RE.ok (RuleT.mk .joined x2 x3 x4 x5)
def F.NoSquare_carried (ae:RuleT) (ah:Int × Int × Int) (az:List Int) (am:List Int):RE RuleT:=
 (RE.ok ah).bind fun x2=>((F.many_cells ah).bind qa2).bind fun x3=>(RE.ok 0).bind fun x4=>(atE am (ae.sign - 1)).bind fun x5=>RE.ok (RuleT.mk .nosquare x2 x3 x4 x5)
def F.Ring_carried (ae:RuleT) (ah:Int × Int × Int) (az:List Int) (am:List Int):RE RuleT:=
 (RE.ok ah).bind fun x2=>((F.many_cells ah).bind qa2).bind fun x3=>(RE.ok 0).bind fun x4=>(atE am (ae.sign - 1)).bind fun x5=>RE.ok (RuleT.mk .ring x2 x3 x4 x5)
def F.m_reckons (r:RuleT)  : RE Bool:=match r.k with
 |.unlike=>F.Rule_reckons r
 |.total=>F.Total_reckons r
 |.rising=>F.Rising_reckons r
 |.seen=>F.Seen_reckons r
 |.counted=>F.Rule_reckons r
 |.joined=>F.Rule_reckons r
 |.nosquare=>F.Rule_reckons r
 |.ring=>F.Rule_reckons r
def F.reckons (ac:PuzT):RE Bool:=
 ((F.Puzzle_rules ac).bind fun x1=>gd (leB x1.length) (lcE (fun(ak:RuleT)=>(RE.ok true)) (fun(ak:RuleT)=>(F.m_reckons ak)) x1)).bind fun x2=>RE.ok (List.any x2 id)
def F.m_carried (r:RuleT) (a0:Int × Int × Int) (a1:List Int) (a2:List Int):RE RuleT:=match r.k with
 |.unlike=>F.Unlike_carried r a0 a1 a2
 |.total=>F.Total_carried r a0 a1 a2
 |.rising=>F.Rising_carried r a0 a1 a2
 |.seen=>F.Seen_carried r a0 a1 a2
 |.counted=>F.Counted_carried r a0 a1 a2
 |.joined=>F.Joined_carried r a0 a1 a2
 |.nosquare=>F.NoSquare_carried r a0 a1 a2
 |.ring=>F.Ring_carried r a0 a1 a2
def F.moved (ac:PuzT) (au:Int) (am:Option (List Int)):RE PuzT:=
 (F.Puzzle_place ac).bind fun ah=>(F.look_at_move au).bind fun _=>(F.signs_by ah am).bind fun aX=>(((F.all_signs ah).bind fun x2=>RE.ok (!decide (aX=x2))).bind fun k3=>if k3=true then (F.reckons ac) else RE.ok false).bind fun k4=>if k4=true then (RE.exc 38 []) else ((F.moved_floor ah au).bind fun aY=>(F.moved_cells ah au).bind fun az=>((F.Puzzle_rules ac).bind fun x6=>gd (leB x6.length) (lcE (fun(ak:RuleT)=>(RE.ok true)) (fun(ak:RuleT)=>((F.m_carried ak aY az aX).bind fun x5=>F.Rule_line x5)) x6)).bind fun aV=>(RE.ok aY).bind fun x11=>(RE.ok (List.map (eS) aV)).bind fun x12=>((RE.ok ah).bind fun x7=>(F.Puzzle_clues ac).bind fun x8=>(RE.ok au).bind fun x9=>(RE.ok (some aX)).bind fun x10=>F.moved_filling x7 x8 x9 x10).bind fun x13=>F.Puzzle_new x11 x12 x13)
def F.orders (aR:List Int):RE (List (List Int)):=
 (RE.ok ([[]]:List (List Int))).bind fun ai=>((RE.ok aR).bind fun y45=>qai (fun(bf:Int) (s22:List (List Int))=>(RE.ok ([]:List (List Int))).bind fun bw=>((RE.ok s22).bind fun y43=>qai (fun(bh:List Int) (s32:List (List Int))=>((RE.ok aR).bind fun y41=>qai (fun(aM:Int) (s35:List (List Int))=>((RE.ok (!decide (aM∈bh))).bind fun k36=>if k36=true then (((qcE bh [aM]).bind fun x38=>qdp s35 x38).bind fun bw=>RE.ok bw) else (RE.ok s35)).bind fun(p39:List (List Int))=>RE.ok p39) y41 s32).bind fun(p40:List (List Int))=>RE.ok p40) y43 bw).bind fun(p42:List (List Int))=>(RE.ok (p42:List (List Int))).bind fun ai=>RE.ok ai) y45 ai).bind fun(p44:List (List Int))=>RE.ok p44
end Cm
namespace Cm
section
variable {α β γ σ:Type}
def W (m:RE α) (Q:α→Prop):Prop:=∃v,m=.ok v∧Q v
theorem W.ok {v:α} {Q:α→Prop} (h:Q v):W (.ok v) Q:=⟨v,rfl,h⟩
theorem W.of {m:RE α} {v:α} {Q:α→Prop} (e:m=.ok v) (h:Q v):W m Q:=⟨v,e,h⟩
theorem W.bind {m:RE α} {f:α→RE β} {P:α→Prop} {Q:β→Prop} (h:W m P) (k:∀v,P v→W (f v) Q):W (m.bind f) Q:=by
 obtain⟨v,e,h⟩:=h;rw[e];exact k v h
theorem W.mono {m:RE α} {P Q:α→Prop} (h:W m P) (k:∀v,P v→Q v):W m Q:=by
 obtain⟨v,e,h⟩:=h;exact⟨v,e,k v h⟩
theorem W.eq {m:RE α} {v:α} (h:W m fun x=>x=v):m=.ok v:=by obtain⟨w,e,rfl⟩:=h;exact e
theorem W.get {m:RE α} {v:α} {Q:α→Prop} (h:W m Q) (e:m=.ok v):Q v:=by
 obtain⟨w,e',h⟩:=h;rw[e] at e';cases e';exact h
theorem qku {b:Bool} {r:RE α} (h:b=true):gd b r=r:=by rw[h];rfl
theorem qfb {f:α→σ→RE σ}:∀{xs:List α} {s:σ} (I:Nat→σ→Prop),I 0 s→(∀i x s,xs[i]? = some x→I i s→W (f x s) (I (i+1)))→W (qai f xs s) (I xs.length)
 |[],s,I,h0,_=>⟨s,rfl,h0⟩
 |x::xs,s,I,h0,hs=>by
  obtain⟨v,e,h⟩:=hs 0 x s rfl h0
  unfold qai
  rw[e]
  exact qfb (xs:=xs) (fun i=>I (i+1)) h fun i y s hy=>hs (i+1) y s (by simpa using hy)
theorem qhM {f:α→σ→RE σ} {g:σ→α→σ}:∀{xs:List α} {s:σ} (I:σ→Prop),I s→(∀x∈xs,∀s,I s→f x s=.ok (g s x)∧I (g s x))→qai f xs s=.ok (xs.foldl g s)
 |[],s,_,_,_=>rfl
 |x::xs,s,I,h0,hs=>by
  obtain⟨e,h⟩:=hs x (by simp) s h0
  unfold qai
  rw[e]
  exact qhM I h fun y hy=>hs y (List.mem_cons_of_mem _ hy)
theorem qkH {f:α→σ→RE σ} {g:σ→α→σ} {xs:List α} {s:σ} (hs:∀x∈xs,∀s,f x s=.ok (g s x)):qai f xs s=.ok (xs.foldl g s):=qhM (fun _=>True) trivial fun x hx s _=>⟨hs x hx s,trivial⟩
@[simp] theorem qsz {b:β} {k:σ→RE β}:Fl.bR (.ok (.rt b)) k=.ok b:=rfl
@[simp] theorem qss {s:σ} {k:σ→RE β}:Fl.bR (.ok (.nx s)) k=k s:=rfl
@[simp] theorem qsw {b:β} {τ:Type} {k:σ→RE (Fl β τ)}:Fl.bF (.ok (.rt b)) k=.ok (.rt b):=rfl
@[simp] theorem qst {s:σ} {τ:Type} {k:σ→RE (Fl β τ)}:Fl.bF (.ok (.nx s)) k=k s:=rfl
theorem qgP {f:α→RE β} {g:α→β} {xs:List α} (h:∀x∈xs,f x=.ok (g x)):lcE (fun _=>.ok true) f xs=.ok (xs.map g):=by
 induction xs with
 |nil=>rfl
 |cons x xs ih =>
  rw[lcE,h x (by simp),ih fun y hy=>h y (List.mem_cons_of_mem _ hy)]
  rfl
theorem qdH {xs:List α} {k:Int} {v:α} (h0:0≤k) (h:xs[k.toNat]? = some v):atE xs k=.ok v:=by
 have hl:k.toNat<xs.length:=by
  rcases Nat.lt_or_ge k.toNat xs.length with h' | h'
  ·exact h'
  ·rw[List.getElem?_eq_none h'] at h;cases h
 unfold atE L2.atI
 have:L2.ixN xs.length k=some k.toNat:=by
  have:=qg7 hl
  rwa [show((k.toNat:Nat):Int)=k from by omega] at this
 rw[this]
 show(match xs[k.toNat]? with
  |some x=>RE.ok x
  |none=>.bad)=_
 rw[h]
def gI (xs:List Int) (k:Int):Int:=xs.getD k.toNat 0
theorem qie {xs:List Int} {k:Int} (h0:0≤k) (h1:k<xs.length):atE xs k=.ok (gI xs k):=by
 refine qdH h0 ?_
 rw[gI,List.getD_eq_getElem?_getD,List.getElem?_eq_getElem (by omega)];rfl
@[simp] theorem qoJ {x:α} {xs:List α}:atE (x::xs) 0=.ok x:=qdH (by decide) rfl
@[simp] theorem qpJ {x y:α} {xs:List α}:atE (x::y::xs) 1=.ok y:=qdH (by decide) rfl
@[simp] theorem qrs {x y z:α} {xs:List α}:atE (x::y::z::xs) 2=.ok z:=qdH (by decide) rfl
@[simp] theorem qr9 {x y z u:α} {xs:List α}:atE (x::y::z::u::xs) 3=.ok u:=qdH (by decide) rfl
theorem qi4 {xs:List α} {x:α} (h:xs.length<16777216):qdp xs x=.ok (xs++[x]):=qku (qpo (by have:LIM=16777216:=rfl;omega))
theorem qdb {xs ys:List α} (h:xs.length+ys.length≤16777216):qcE xs ys=.ok (xs++ys):=qku (qpo (by have:LIM=16777216:=rfl;omega))
theorem gdl {xs:List α} {r:RE β} (h:xs.length≤16777216):gd (leB xs.length) r=r:=qku (qpo (by have:LIM=16777216:=rfl;omega))
theorem qjl {xs:List α} {k:Int} {x:α} (h0:0≤k) (h1:k<xs.length):qif xs k x=.ok (xs.set k.toNat x):=by
 unfold qif
 have:=qg7 (n:=xs.length) (k:=k.toNat) (by omega)
 rw[show((k.toNat:Nat):Int)=k from by omega] at this
 rw[this]
theorem qeK {x y:Int} (h:x.natAbs≤18446744073709551615):qix x y=.ok (x*y):=qku (qjv (by rw[Nat.ble_eq];exact h))
theorem qhi {x y:Int} (h0:y≠0) (h:y.natAbs<1073741824):qks x y=.ok (x.fdiv y):=qku (qrl ⟨h0,h⟩)
theorem qb9 {x y:Int} (h0:y≠0):qgF x y=.ok (x.fmod y):=qku (qsm h0)
theorem qi6 {x y:Int} (h0:0≤y) (h1:y≤1000000) (h2:x.natAbs<2 ^ 64):qoZ x y=.ok (x ^ y.toNat):=qku (qrg ⟨h0,h1,h2⟩)
def qcY (n:Nat):List Int:=(List.range n).map fun(i:Nat)=>(i:Int)
theorem qbU (n:Nat):(qcY n).length=n:=by simp[qcY]
theorem qcS {n:Nat} {x:Int}:x∈qcY n↔0≤x∧x<n:=by
 unfold qcY
 rw[List.mem_map]
 constructor
 ·rintro⟨i,h,rfl⟩
  have:=List.mem_range.mp h
  omega
 ·rintro⟨h0,h1⟩
  exact⟨x.toNat,List.mem_range.mpr (by omega),by omega⟩
theorem qhy {n i:Nat} {x:Int} (h:(qcY n)[i]? = some x):x=i∧i<n:=by
 unfold qcY at h
 rw[List.getElem?_map] at h
 rcases Nat.lt_or_ge i n with q | q
 ·rw[List.getElem?_range q] at h;cases h;exact⟨rfl,q⟩
 ·rw[List.getElem?_eq_none (by simpa using q)] at h;cases h
theorem qdx {n:Int} (h:n≤1000000) (h0:0≤n):qa2 n=.ok (qcY n.toNat):=by
 have h2:qit n=true:=by
  have:=qqZ (n:=n.toNat) (by omega)
  rwa [show((n.toNat:Nat):Int)=n from by omega] at this
 rw[qa2,h2]
 simp only[qgR,qcY,qcD]
 congr 1
 exact List.map_congr_left fun i _=>by omega
def qam (i j:Int):List Int:=qcD i 1 (j - i).toNat
theorem qaF {i j x:Int}:x∈qam i j↔i≤x∧x<j:=by
 unfold qam qcD
 rw[List.mem_map]
 constructor
 ·rintro⟨k,h,rfl⟩
  have:=List.mem_range.mp h
  omega
 ·rintro⟨h0,h1⟩
  exact⟨(x - i).toNat,List.mem_range.mpr (by omega),by omega⟩
theorem qbK (i j:Int):(qam i j).length=(j - i).toNat:=by simp[qam,qcD]
theorem qfo {i j:Int} (h:-1000000≤i∧i≤1000000 ∧ -1000000≤j∧j≤1000000):qf4 i j=.ok (qam i j):=qku (qqX h)
theorem qb0 (a:Int) {n:Int} (h:0<n):0≤a.fmod n∧a.fmod n<n:=by
 rw[Int.fmod_eq_emod_of_nonneg _ (Int.le_of_lt h)]
 exact⟨Int.emod_nonneg _ (by omega),Int.emod_lt_of_pos _ h⟩
theorem qf0 {a n:Int} (h:0<n):a.fmod n=a % n:=Int.fmod_eq_emod_of_nonneg _ (Int.le_of_lt h)
theorem qfL {a n:Int} (h:0<n):a.fdiv n=a / n:=Int.fdiv_eq_ediv_of_nonneg _ (Int.le_of_lt h)
theorem qfX {p:Prop} [Decidable p] {x y:α}:(if decide p=true then x else y)=if p then x else y:=by
 by_cases h:p<;>simp[h]
end
end Cm
namespace Cm
structure FOk (fl:Int × Int × Int):Prop where
 h1:1≤fl.1
 h2:fl.1≤6
 w1:1≤fl.2.1
 w2:fl.2.1≤6
 n:fl.1*fl.2.1≤16
 s1:1≤fl.2.2
 s2:fl.2.2≤6
abbrev nC (fl:Int × Int × Int):Int:=fl.1*fl.2.1
section
variable {fl:Int × Int × Int}
theorem FOk.n1 (h:FOk fl):1≤nC fl:=by
 have:=Int.mul_le_mul h.h1 h.w1 (by decide) (by have:=h.h1;omega)
 simpa using this
theorem qnO (h:FOk fl):F.many_cells fl=.ok (nC fl):=qeK (by have:=h.h1;have:=h.h2;omega)
theorem qn4 (h:FOk fl) (c:Int):F.spot_of fl c=.ok (c / fl.2.1,c % fl.2.1):=by
 have:=h.w1;have:=h.w2
 unfold F.spot_of
 rw[qhi (by omega) (by omega),qb9 (by omega),qfL (by omega),qf0 (by omega)]
 rfl
def qew (fl:Int × Int × Int) (c:Int):List Int:=(if 0<c / fl.2.1 then [c - fl.2.1] else [])++(if 0<c % fl.2.1 then [c - 1] else [])++(if c % fl.2.1<fl.2.1 - 1 then [c+1] else [])++(if c / fl.2.1<fl.1 - 1 then [c+fl.2.1] else [])
abbrev inC (fl:Int × Int × Int) (c:Int):Prop:=0≤c∧c<nC fl
theorem qeY (h:FOk fl) {c:Int} (hc:inC fl c):c=c / fl.2.1*fl.2.1+c % fl.2.1∧0≤c / fl.2.1∧c / fl.2.1<fl.1∧0≤c % fl.2.1∧c % fl.2.1<fl.2.1:=by
 have w:=h.w1
 refine⟨?_,Int.ediv_nonneg hc.1 (by omega),?_,Int.emod_nonneg _ (by omega),Int.emod_lt_of_pos _ (by omega)⟩
 ·have:=Int.mul_ediv_add_emod c fl.2.1
  rw[Int.mul_comm] at this;omega
 ·exact Int.ediv_lt_of_lt_mul (by omega) hc.2
theorem qgE {w r q:Int} (h1:0≤q) (h2:q<w):(r*w+q) / w=r∧(r*w+q) % w=q:=by
 constructor
 ·rw[Int.add_comm,Int.add_mul_ediv_right _ _ (by omega),Int.ediv_eq_zero_of_lt h1 h2];omega
 ·rw[Int.add_comm,Int.add_mul_emod_self_right,Int.emod_eq_of_lt h1 h2]
end
def stB (m s:Int):Bool:=m.toNat.testBit (s - 1).toNat
def hoB (m s:Int):Bool:=decide (m.toNat ||| 2 ^ (s - 1).toNat=2 ^ (s - 1).toNat)
theorem qjS {m s:Int} (h1:1≤s):hoB m s=true↔∀t,1≤t→stB m t=true→t=s:=by
 unfold hoB stB
 rw[decide_eq_true_eq]
 constructor
 ·intro h t h0 ht
  have:=congrArg (fun n=>Nat.testBit n (t - 1).toNat) h
  simp only[Nat.testBit_or,Nat.testBit_two_pow,ht,Bool.true_or] at this
  have:=of_decide_eq_true this.symm
  omega
 ·intro h
  refine Nat.eq_of_testBit_eq fun i=>?_
  rw[Nat.testBit_or,Nat.testBit_two_pow]
  cases e:m.toNat.testBit i
  ·rfl
  ·have:=h (i+1) (by omega) (by rw[show((i:Int)+1 - 1).toNat=i from by omega];exact e)
   have:(s - 1).toNat=i:=by omega
   simp[this]
def sgn (m:Int):List Int:=(qam 1 7).filter (stB m)
def MOk (fl:Int × Int × Int) (ms:List Int):Prop:=(ms.length:Int)=nC fl∧∀m∈ms,0≤m∧m<64
theorem qi9 {ms:List Int} {k:Int} (h0:0≤k) (h1:k<ms.length):gI ms k∈ms:=by
 unfold gI
 rw[List.getD_eq_getElem?_getD,List.getElem?_eq_getElem (by omega)]
 exact List.getElem_mem (by omega)
theorem MOk.at_ {fl:Int × Int × Int} {ms:List Int} (h:MOk fl ms) {c:Int} (hc:inC fl c):atE ms c=.ok (gI ms c):=qie hc.1 (by have:=hc.2;have:=h.1;omega)
theorem MOk.b {fl:Int × Int × Int} {ms:List Int} (h:MOk fl ms) {c:Int} (hc:inC fl c):0≤gI ms c∧gI ms c<64:=h.2 _ (qi9 hc.1 (by have:=hc.2;have:=h.1;omega))
end Cm
namespace Cm
def dg (n:Nat):List Nat:=if n<10 then [48+n] else [48+n / 10,48+n % 10]
def dgI (n:Int):List Nat:=dg n.toNat
def isI (r:RE Int) (n:Nat):Bool:=match r with
 |.ok (.ofNat m)=>Nat.beq m n
 |_=>false
theorem qsC {α:Type} (x:α) (xs:List α):qcq (x::xs) (some 1) none=xs:=by
 have h1:HT.sIx (x::xs).length 0 (some 1)=1:=by simp[HT.sIx]
 have h2:HT.sIx (x::xs).length (x::xs).length none=xs.length+1:=by simp[HT.sIx]
 unfold qcq
 rw[h1,h2]
 simp
theorem qka:∀{n:Nat} {cs:List Int},cs.Nodup→(∀c∈cs,0≤c∧c<n)→cs.length≤n
 |0,[],_,_=>Nat.le_refl _
 |0,c::cs,_,h=>by have:=h c (by simp);omega
 |n+1,cs,hn,h=>by
  have ih:=qka (n:=n) (cs:=cs.erase n) (hn.erase _) fun c hc=>by
   have h1:=(List.Nodup.mem_erase_iff hn).mp hc
   have:=h c h1.2
   have:=h1.1
   omega
  by_cases hm:(n:Int)∈cs
  ·have:=List.length_erase_of_mem hm
   omega
  ·rw[List.erase_of_not_mem hm] at ih
   omega
structure CsOk (fl:Int × Int × Int) (cs:List Int):Prop where
 ne:cs≠[]
 nd:cs.Nodup
 inn:∀c∈cs,inC fl c
theorem CsOk.len {fl:Int × Int × Int} {cs:List Int} (h:CsOk fl cs) (hf:FOk fl):cs.length≤16:=by
 have:=qka (n:=(nC fl).toNat) h.nd fun c hc=>by have q:=h.inn c hc;have q1:=q.1;have q2:=q.2;exact⟨q1,by omega⟩
 have:=hf.n
 have:=hf.n1
 have e:nC fl=fl.1*fl.2.1:=rfl
 omega
def qsf (w:List Nat) (ns:List Int):List Nat:=TL.joinL [32] (w::ns.map dgI)
def qr5:List (List Nat):=[[117,110,108,105,107,101],[115,117,109],[114,105,115,105,110,103],[115,101,101,110],[99,111,117,110,116],[106,111,105,110,101,100],[110,111,115,113,117,97,114,101],[114,105,110,103]]
def qr0 (fl:Int × Int × Int) (w:List Nat) (ns:List Int):RE RuleT:=
 if w∈[[106,111,105,110,101,100],[110,111,115,113,117,97,114,101],[114,105,110,103]] then F.whole_rule fl w ns
 else if w=[117,110,108,105,107,101] then (F.cells_told fl ns).bind fun cs=>.ok (RuleT.mk .unlike fl cs 0 0)
 else if w=[114,105,115,105,110,103] then (F.cells_told fl ns).bind fun cs=>.ok (RuleT.mk .rising fl cs 0 0)
 else if w=[99,111,117,110,116] then (F.sign_told fl ns 1).bind fun s=>(F.cells_told fl (qcq ns (some 2) none)).bind fun cs=>(atE ns 0).bind fun n=>.ok (RuleT.mk .counted fl cs n s)
 else (F.cells_told fl (qcq ns (some 1) none)).bind fun cs=>if w=[115,117,109] then (atE ns 0).bind fun n=>.ok (RuleT.mk .total fl cs n 0) else (atE ns 0).bind fun n=>.ok (RuleT.mk .seen fl cs n 0)
def qlN (fl:Int × Int × Int) (fi:List Int):Prop:=(fi.length:Int)=nC fl∧∀s∈fi,0≤s∧s≤fl.2.2
instance (fl:Int × Int × Int) (fi:List Int):Decidable (qlN fl fi):=by unfold qlN;infer_instance
end Cm
namespace Cm
abbrev TI:=List Nat × Int × Int × Int × List Int
def qct (p:PuzT) (r:Int):Option RuleT:=if 0≤r∧r<(p.rules.length:Int) then p.rules[r.toNat]? else none
def qsk (p:PuzT) (c s:Int):Bool:=decide (0≤c∧c<nC p.ground∧1≤s∧s≤p.ground.2.2)
def RK.w:RK→List Nat
 |.unlike=>[117,110,108,105,107,101]
 |.total=>[115,117,109]
 |.rising=>[114,105,115,105,110,103]
 |.seen=>[115,101,101,110]
 |.counted=>[99,111,117,110,116]
 |.joined=>[106,111,105,110,101,100]
 |.nosquare=>[110,111,115,113,117,97,114,101]
 |.ring=>[114,105,110,103]
def rk (o:Option RuleT) (k:RK):Option RuleT:=o.bind fun r=>if r.k=k then some r else none
def qm6 (o:Option RuleT) (fl:Int × Int × Int) (c s:Int) (more:List Int):Bool:=match o with
 |none=>false
 |some r=>decide (r.k=.ring)&&(if more=[] then decide (r.sign=s) else decide (more.length=1)&&decide (gI more 0∈qew fl c))
def qnj (r:RuleT) (fl:Int × Int × Int) (ms:List Int) (c s:Int) (more:List Int):Bool:=
 let at_:=if more=[] then c else gI more 0
 let near:=(qew fl at_).filter fun d=>!decide (d=c)
 let must:=(near.filter fun d=>hoB (gI ms d) r.sign).length
 let may:=(near.filter fun d=>stB (gI ms d) r.sign).length
 if more=[] then decide (may<2)||decide (2<must) else hoB (gI ms at_) r.sign&&if r.sign=s then decide (2≤must) else decide (may<2)
end Cm
namespace Cm
theorem qcP {xs:List Int}:∀{ys:List Int},xs.Nodup→(∀x∈xs,x∈ys)→xs.length≤ys.length:=by
 induction xs with
 |nil=>intro ys _ _;exact Nat.zero_le _
 |cons x xs ih =>
  intro ys hn hs
  rw[List.nodup_cons] at hn
  have hx:=hs x (by simp)
  have:=ih (ys:=ys.erase x) hn.2 fun y hy=>by
   have:y≠x:=fun e=>hn.1 (e ▸ hy)
   exact(List.mem_erase_of_ne this).mpr (hs y (List.mem_cons_of_mem _ hy))
  rw[List.length_erase_of_mem hx] at this
  have:=List.length_pos_of_mem hx
  simp only[List.length_cons]
  omega
theorem qou (n:Nat):(qcY n).Pairwise (· < ·):=by
 unfold qcY
 rw[List.pairwise_map]
 exact List.pairwise_lt_range.imp fun h=>by omega
inductive Rch (fl:Int × Int × Int) (cs:List Int) (a:Int):Int→Prop where
 |base:a∈cs→Rch fl cs a a
 |step {b c:Int}:Rch fl cs a b→c∈qew fl b→c∈cs→Rch fl cs a c
section
variable {fl:Int × Int × Int} {cs:List Int} {a:Int}
theorem Rch.start {b:Int} (h:Rch fl cs a b):a∈cs:=by induction h with
 |base h=>exact h
 |step _ _ _ ih=>exact ih
theorem Rch.mem {b:Int} (h:Rch fl cs a b):b∈cs:=by cases h with
 |base h=>exact h
 |step _ _ h=>exact h
theorem Rch.mono {cs':List Int} (hs:∀x∈cs,x∈cs') {b:Int} (h:Rch fl cs a b):Rch fl cs' a b:=by induction h with
 |base h=>exact .base (hs _ h)
 |step _ h1 h2 ih=>exact .step ih h1 (hs _ h2)
theorem qmm {xs:List Int} {k:Int} (h0:0≤k) (h1:k<xs.length):xs[k.toNat]? = some (gI xs k):=by
 rw[gI,List.getD_eq_getElem?_getD,List.getElem?_eq_getElem (by omega)];rfl
end
theorem qhV {fl:Int × Int × Int} (hf:FOk fl) {c d:Int} (hc:inC fl c) (hd:inC fl d):d∈qew fl c↔((c / fl.2.1=d / fl.2.1∧(c % fl.2.1=d % fl.2.1+1∨d % fl.2.1=c % fl.2.1+1))∨(c % fl.2.1=d % fl.2.1∧(c / fl.2.1=d / fl.2.1+1∨d / fl.2.1=c / fl.2.1+1))):=by
 obtain⟨e,a1,a2,b1,b2⟩:=qeY hf hc
 obtain⟨e',a1',a2',b1',b2'⟩:=qeY hf hd
 have w:=hf.w1
 unfold qew
 simp only[List.mem_append]
 have k:∀{p:Prop} [Decidable p] (x:Int),d∈(if p then [x] else [])↔p∧d=x:=fun {p} _ x=>by
  by_cases h:p<;>simp[h]
 simp only[k]
 generalize c / fl.2.1=R at *
 generalize c % fl.2.1=Q at *
 generalize d / fl.2.1=R' at *
 generalize d % fl.2.1=Q' at *
 generalize hw:fl.2.1=W at *
 have same:∀{x y:Int} {p q:Int},0≤p→p<W→0≤q→q<W→x*W+p=y*W+q→x=y∧p=q:=fun {x y p q} p0 p1 q0 q1 h=>by
  have h1:=qgE (r:=x) p0 p1
  have h2:=qgE (r:=y) q0 q1
  rw[h] at h1
  exact⟨h1.1.symm.trans h2.1,h1.2.symm.trans h2.2⟩
 constructor
 ·rintro(((⟨h,q⟩ | ⟨h,q⟩) | ⟨h,q⟩) | ⟨h,q⟩)
  ·have:=same (x:=R') (y:=R - 1) b1' b2' b1 b2 (by rw[Int.sub_mul];omega)
   omega
  ·have:=same (x:=R') (y:=R) b1' b2' (q:=Q - 1) (by omega) (by omega) (by omega)
   omega
  ·have:=same (x:=R') (y:=R) b1' b2' (q:=Q+1) (by omega) (by omega) (by omega)
   omega
  ·have:=same (x:=R') (y:=R+1) b1' b2' b1 b2 (by rw[Int.add_mul];omega)
   omega
 ·rintro(⟨h,q | q⟩ | ⟨h,q | q⟩)
  ·exact .inl (.inl (.inr ⟨by omega,by rw[e,e',h];omega⟩))
  ·exact .inl (.inr ⟨by omega,by rw[e,e',h];omega⟩)
  ·refine .inl (.inl (.inl ⟨by omega,?_⟩))
   have:R*W=R'*W+W:=by rw[q,Int.add_mul];omega
   omega
  ·refine .inr ⟨by omega,?_⟩
   have:R'*W=R*W+W:=by rw[q,Int.add_mul];omega
   omega
end Cm
namespace Cm
noncomputable def dec (p:Prop):Bool:=@decide p (Classical.propDecidable p)
def qrP (ms:List Int) (s:Int):List Int:=(qcY ms.length).filter fun c=>stB (gI ms c) s
def qsg (k:RK):Bool:=decide (k=.joined∨k=.ring)
def qln (o:Option RuleT) (fl:Int × Int × Int) (c s:Int) (more:List Int):Bool:=match o with
 |none=>false
 |some r=>qsg r.k&&(decide ((more.length:Int)=2 - (if r.sign=s then 1 else 0))&&(decide more.Nodup&&more.all fun d=>!(decide (d=c)||(decide (d<0)||decide (nC fl≤d)))))
noncomputable def qk9 (r:RuleT) (fl:Int × Int × Int) (ms:List Int) (c s:Int) (more:List Int):Bool:=
 (more.all fun d=>hoB (gI ms d) r.sign)&&(if r.sign=s then !dec (Rch fl (((qrP ms r.sign).filter fun d=>!decide (d=c))++[c]) c (gI more 0)) else !dec (Rch fl ((qrP ms r.sign).filter fun d=>!decide (d=c)) (gI more 0) (gI more 1)))
end Cm
namespace Cm
def qom (r:RuleT) (c:Int):List Int:=r.cells.filter fun d=>!decide (d=c)
def ofB (o:Option RuleT) (k:RK) (c:Int):Bool:=match o with
 |none=>false
 |some r=>decide (r.k=k)&&decide (c∈r.cells)
def qiJ (r:RuleT) (c:Int) (more:List Int):Bool:=(more.all fun d=>decide (d∈qom r c))&&decide more.Nodup
def qn1 (i:Int) (more:List Int):Bool:=decide (i=0)&&decide (more=[])
def qnP (p:PuzT) (c s:Int):Bool:=!decide (gI p.clues c=0) && !decide (gI p.clues c=s)
def qoX (o:Option RuleT) (c:Int) (more:List Int):Bool:=match o with
 |none=>false
 |some r=>ofB o .unlike c&&(decide (more.length=1)&&qiJ r c more)
def qob (ms:List Int) (s:Int) (more:List Int):Bool:=hoB (gI ms (gI more 0)) s
def qlW (o:Option RuleT) (sg c s:Int) (more:List Int):Bool:=match o with
 |none=>false
 |some r=>ofB o .unlike c&&(decide ((r.cells.length:Int)=sg)&&(decide (more.length=1)&&(decide (1≤gI more 0∧gI more 0≤sg) && !decide (gI more 0=s))))
def ql9 (r:RuleT) (ms:List Int) (c:Int) (more:List Int):Bool:=(qom r c).all fun d=>!stB (gI ms d) (gI more 0)
def inR (fl:Int × Int × Int) (r:RuleT):Prop:=r.cells.length≤1000∧∀d∈r.cells,inC fl d
def qfG (xs:List Int) (x:Int):Nat:=xs.findIdx fun y=>decide (y=x)
theorem qnr {xs:List Int} {x:Int} (h:x∈xs):qfk xs x=.ok (qfG xs x:Int):=by
 unfold qfk qfG
 rw[List.findIdx?_eq_some_of_exists ⟨x,h,by simp⟩]
def qop (o:Option RuleT) (c:Int) (more:List Int):Bool:=match o with
 |none=>false
 |some r=>ofB o .unlike c&&(decide (more.length=2)&&(qiJ r c more&&decide (qfG r.cells (gI more 0)<qfG r.cells (gI more 1))))
def qmZ (ms:List Int) (s:Int) (more:List Int):Bool:=decide (((sgn (PySem.Builtin.bitOr (gI ms (gI more 0)) (gI ms (gI more 1)))).filter fun t=>!decide (t=s)).length≤1)
def qlJ (o:Option RuleT) (c:Int) (more:List Int):Bool:=decide (more=[])&&ofB o .counted c
def qlR (r:RuleT) (ms:List Int) (c s:Int):Bool:=if s=r.sign then decide (r.wanted≤(((qom r c).filter fun d=>hoB (gI ms d) r.sign).length:Int)) else decide ((((qom r c).filter fun d=>stB (gI ms d) r.sign).length:Int)<r.wanted)
end Cm
namespace Cm
theorem qnY {xs ys:List Int} {k:Int} (h0:0≤k) (h1:k<ys.length) (hx:xs.length<16777216) (hy:ys.length≤16777216):∃d,qjF xs ys k=.ok (xs++[d],ys.eraseIdx k.toNat)∧((xs++[d])++ys.eraseIdx k.toNat).Perm (xs++ys):=by
 have hk:k.toNat<ys.length:=by omega
 have i:=qg7 hk
 rw[show((k.toNat:Nat):Int)=k from by omega] at i
 refine⟨ys[k.toNat],?_,?_⟩
 ·unfold qjF
  have l:LIM=16777216:=rfl
  simp only[i,List.getElem?_eq_getElem hk]
  rw[qku (qpo (by omega)),qku (qpo (by omega))]
 ·rw[List.append_assoc]
  exact(qeX ys k.toNat hk).append_left xs
end Cm
namespace Cm
def qmo (cs:List Int) (c:Int):Option Int:=if 0<qfG cs c then some (gI cs ((qfG cs c:Int) - 1)) else none
def qjO (cs:List Int) (c:Int):Option Int:=if qfG cs c+1<cs.length then some (gI cs ((qfG cs c:Int)+1)) else none
def qn8 (o:Option RuleT) (c:Int) (more:List Int):Bool:=decide (more=[])&&ofB o .rising c
def qn0 (r:RuleT) (ms:List Int) (c s:Int):Bool:=(match qmo r.cells c with
 |some d=>decide (s≤qpT false (sgn (gI ms d)) s)
 |none=>false)||(match qjO r.cells c with
 |some d=>decide (qpT true (sgn (gI ms d)) s≤s)
 |none=>false)
theorem qj6 {m t:Int}:t∈sgn m↔(1≤t∧t<7)∧stB m t=true:=by
 unfold sgn
 rw[List.mem_filter,qaF]
end Cm
namespace Cm
theorem qos (m:Int):(sgn m).Pairwise (· < ·):=List.Pairwise.filter _ (by decide)
theorem qlF {xs:List Int} (h:xs≠[]):atE xs (-1)=.ok (gI xs ((xs.length:Int) - 1)):=by
 have:=List.length_pos_iff.mpr h
 have i:L2.ixN xs.length (-1)=some (xs.length - 1):=by
  unfold L2.ixN
  simp
  omega
 unfold atE L2.atI
 rw[i]
 simp only[Option.bind_some]
 rw[List.getElem?_eq_getElem (by omega),gI,List.getD_eq_getElem?_getD,List.getElem?_eq_getElem (by omega)]
 simp only[Option.getD_some]
 congr 2
 omega
def qrk (cs ms:List Int) (c s:Int):Option (Int × Int):=
 let os:=cs.filter fun d=>!decide (d=c)
 if (os.any fun d=>decide (sgn (gI ms d)=[]))=true then none else some (s+(os.map fun d=>qh4 (sgn (gI ms d))).sum,s+(os.map fun d=>qib (sgn (gI ms d))).sum)
def qpD (o:Option RuleT) (c:Int) (more:List Int):Bool:=decide (more=[])&&ofB o .total c
def qqn (r:RuleT) (ms:List Int) (c s:Int):Bool:=match qrk r.cells ms c s with
 |none=>true
 |some e=>decide (r.wanted<e.1)||decide (e.2<r.wanted)
end Cm
namespace Cm
def Snd (fl:Int × Int × Int) (ms fi:List Int):Prop:=∀c,inC fl c→stB (gI ms c) (gI fi c)=true∧1≤gI fi c∧gI fi c≤fl.2.2
def UnL (cs fi:List Int):Prop:=∀d∈cs,∀e∈cs,d≠e→gI fi d≠gI fi e
end Cm
namespace Cm
section
variable {α β γ:Type}
theorem qhZ {f:α→List β→RE (List β)} {p:α→Bool} {g:α→β}:∀{xs:List α} {s:List β},s.length+xs.length≤16777215→(∀x∈xs,∀s:List β,s.length<16777216→f x s=.ok (s++if p x=true then [g x] else []))→qai f xs s=.ok (s++(xs.filter p).map g)
 |[],s,_,_=>by simp[qai]
 |x::xs,s,hl,h=>by
  simp only[List.length_cons] at hl
  unfold qai
  rw[h x (by simp) s (by omega)]
  simp only[RE.bind_ok]
  have l1:(if p x=true then [g x] else []).length≤1:=by by_cases q:p x=true<;>simp[q]
  rw[qhZ (xs:=xs) (by rw[List.length_append];omega) fun y hy=>h y (List.mem_cons_of_mem _ hy)]
  by_cases q:p x=true<;>simp[q]
end
def qrr (fl:Int × Int × Int) (c:Int):Bool:=decide (c / fl.2.1<fl.1 - 1)&&decide (c % fl.2.1<fl.2.1 - 1)
def sqL (fl:Int × Int × Int) (c:Int):List Int:=[c,c+1,c+fl.2.1,c+fl.2.1+1]
def qrO (fl:Int × Int × Int):List Int:=(qcY (nC fl).toNat).filter (qrr fl)
def qsy (fl:Int × Int × Int):List (List Int):=(qrO fl).map (sqL fl)
section
variable {fl:Int × Int × Int}
theorem qlk (hf:FOk fl):(nC fl).toNat≤16:=by
 have:=hf.n
 have e:nC fl=fl.1*fl.2.1:=rfl
 omega
def qrB (fl:Int × Int × Int) (c:Int):List Int:=if c∈qrO fl then sqL fl c else []
end
def qjM (o:Option RuleT) (fl:Int × Int × Int) (c s:Int) (more:List Int):Bool:=match o with
 |none=>false
 |some r=>decide (r.k=.nosquare)&&(decide (r.sign=s)&&(decide (more.length=1)&&decide (c∈qrB fl (gI more 0))))
def qjQ (fl:Int × Int × Int) (ms:List Int) (c s:Int) (more:List Int):Bool:=(qrB fl (gI more 0)).all fun d=>decide (d=c)||hoB (gI ms d) s
end Cm
namespace Cm
section
variable {fl:Int × Int × Int} {cs:List Int}
theorem qlQ (hf:FOk fl) {c d:Int} (hc:inC fl c) (hd:inC fl d):d∈qew fl c↔c∈qew fl d:=by
 rw[qhV hf hc hd,qhV hf hd hc]
 omega
theorem Rch.trans {a b c:Int} (h:Rch fl cs a b) (k:Rch fl cs b c):Rch fl cs a c:=by induction k with
 |base _=>exact h
 |step _ h1 h2 ih=>exact .step ih h1 h2
theorem Rch.symm (hf:FOk fl) (hi:∀x∈cs,inC fl x) {a b:Int} (h:Rch fl cs a b):Rch fl cs b a:=by induction h with
 |base h=>exact .base h
 |step h h1 h2 ih=>exact(Rch.step (.base h2) ((qlQ hf (hi _ h.mem) (hi _ h2)).mp h1) h.mem).trans ih
theorem qoo {L cs:List Int} (h1:L.Nodup) (h2:∀x∈L,x∈cs) (h3:cs.Nodup):L.length=cs.length↔∀x∈cs,x∈L:=by
 constructor
 ·intro e x hx
  refine Decidable.byContradiction fun hn=>?_
  have:=qcP (xs:=x::L) (ys:=cs) (List.nodup_cons.mpr ⟨hn,h1⟩) fun y hy=>by
   rcases List.mem_cons.mp hy with q | q
   ·rw[q];exact hx
   ·exact h2 y q
  simp only[List.length_cons] at this
  omega
 ·intro h
  have:=qcP h1 h2
  have:=qcP h3 h
  omega
noncomputable def jnB (fl:Int × Int × Int) (cs:List Int):Bool:=dec (∀a∈cs,∀b∈cs,Rch fl cs a b)
theorem qhh {L:List Int} (h:L.Pairwise (· < ·)):L.Nodup:=h.imp fun h e=>by omega
end
theorem qqR {α:Type} (xs:List α):qcq xs (some 1) none=xs.drop 1:=by
 cases xs with
 |nil=>rfl
 |cons x xs=>rw[qsC];rfl
def qrn (xs:List Int):Int × Int:=xs.foldl (fun s x=>if s.2<x then (s.1+1,x) else s) (0,0)
noncomputable def qpp (r:RuleT) (g:Int→Int):Bool:=match r.k with
 |.unlike=>decide (r.cells.map g).Nodup
 |.total=>decide ((r.cells.map g).sum=r.wanted)
 |.rising=>(r.cells.zip (r.cells.drop 1)).all fun p=>decide (g p.1<g p.2)
 |.seen=>decide ((qrn (r.cells.map g)).1=r.wanted)
 |.counted=>decide (((r.cells.filter fun d=>decide (g d=r.sign)).length:Int)=r.wanted)
 |.joined=>jnB r.ground (r.cells.filter fun d=>decide (g d=r.sign))
 |.nosquare=>(qsy r.ground).all fun q=>!decide ((q.filter fun d=>decide (g d=r.sign)).length=4)
 |.ring=>((r.cells.filter fun d=>decide (g d=r.sign)).all fun c=>decide (((qew r.ground c).filter fun d=>decide (d∈r.cells.filter fun d=>decide (g d=r.sign))).length=2))&&jnB r.ground (r.cells.filter fun d=>decide (g d=r.sign))
def qkn:RK→Bool
 |.joined=>true
 |.nosquare=>true
 |.ring=>true
 |_=>false
structure WfR (fl:Int × Int × Int) (r:RuleT):Prop where
 g:r.ground=fl
 cs:CsOk fl r.cells
 w:qkn r.k=true→r.cells=qcY (nC fl).toNat
 s:qkn r.k=true∨r.k=.counted→1≤r.sign∧r.sign≤fl.2.2
 s0:¬(qkn r.k=true∨r.k=.counted)→r.sign=0
 n0:0≤r.wanted
 n1:r.wanted<100
 n2:¬(r.k=.total∨r.k=.seen∨r.k=.counted)→r.wanted=0
theorem WfR.inR {fl:Int × Int × Int} (hf:FOk fl) {r:RuleT} (h:WfR fl r):inR fl r:=⟨by have:=h.cs.len hf;omega,h.cs.inn⟩
section
variable {fl:Int × Int × Int} {r:RuleT} {fi:List Int}
end
end Cm
namespace Cm
def qpE:List Int→Int
 |[]=>1
 |x::xs=>x*qpE xs
def lay:List (Int × List Int)→List Int→Int→List Int × Int
 |[],fi,n=>(fi,n)
 |p::os,fi,n=>lay os (fi.set p.1.toNat (gI p.2 (n % (p.2.length:Int)))) (n / (p.2.length:Int))
theorem qpW {xs:List Int} {k j x:Int} (hj:0≤j) (hk:0≤k) (h:k<xs.length):gI (xs.set k.toNat x) j=if j=k then x else gI xs j:=by
 unfold gI
 rw[List.getD_eq_getElem?_getD,List.getD_eq_getElem?_getD,List.getElem?_set]
 by_cases e:j=k
 ·subst e
  rw[if_pos rfl,if_pos rfl,if_pos (by omega)];rfl
 ·rw[if_neg e,if_neg (by omega)]
structure LyOk (n:Nat) (os:List (Int × List Int)):Prop where
 nd:(os.map Prod.fst).Nodup
 inn:∀p∈os,0≤p.1∧p.1<(n:Int)
 ne:∀p∈os,1≤p.2.length∧p.2.length≤6
theorem LyOk.tl {n:Nat} {p:Int × List Int} {os:List (Int × List Int)} (h:LyOk n (p::os)):LyOk n os∧∀q∈os,q.1≠p.1:=by
 have nd:=h.nd
 rw[List.map_cons,List.nodup_cons] at nd
 exact⟨⟨nd.2,fun q hq=>h.inn q (List.mem_cons_of_mem _ hq),fun q hq=>h.ne q (List.mem_cons_of_mem _ hq)⟩,fun q hq e=>nd.1 (List.mem_map.mpr ⟨q,hq,e⟩)⟩
def qn6 (o:Option RuleT) (c:Int) (more:List Int):Bool:=decide (more=[])&&match o with
 |none=>false
 |some r=>decide (c∈r.cells)
def qqQ (r:RuleT) (ms:List Int) (c:Int):Int:=qpE ((qom r c).map fun d=>((sgn (gI ms d)).length:Int))
noncomputable def qnh (r:RuleT) (ms:List Int) (c s:Int):Bool:=decide (qqQ r ms c≤32)&&dec (∀g:Int→Int,g c=s→(∀d∈qom r c,g d∈sgn (gI ms d))→qpp r g=false)
end Cm
namespace Cm
def qjf:List KK:=[.clue,.only,.place,.count,.step,.sums,.square,.reach,.turn,.pair,.ways]
def KK.w:KK→List Nat
 |.clue=>[99,108,117,101]
 |.only=>[111,110,108,121]
 |.place=>[112,108,97,99,101]
 |.count=>[99,111,117,110,116]
 |.step=>[115,116,101,112]
 |.sums=>[115,117,109]
 |.square=>[115,113,117,97,114,101]
 |.reach=>[114,101,97,99,104]
 |.turn=>[116,117,114,110]
 |.pair=>[112,97,105,114]
 |.ways=>[119,97,121,115]
def qrW (w:List Nat):Option KK:=qjf.find? fun k=>decide (k.w=w)
structure WfP (p:PuzT):Prop where
 f:FOk p.ground
 r:∀r∈p.rules,WfR p.ground r
 c:qlN p.ground p.clues
 n:p.rules.length≤12
def qsx (k:KK) (p:PuzT) (o:Option RuleT) (th:TI):Bool:=match k with
 |.clue=>qn1 th.2.1 th.2.2.2.2
 |.only=>qoX o th.2.2.1 th.2.2.2.2
 |.place=>qlW o p.ground.2.2 th.2.2.1 th.2.2.2.1 th.2.2.2.2
 |.count=>qlJ o th.2.2.1 th.2.2.2.2
 |.step=>qn8 o th.2.2.1 th.2.2.2.2
 |.sums=>qpD o th.2.2.1 th.2.2.2.2
 |.square=>qjM o p.ground th.2.2.1 th.2.2.2.1 th.2.2.2.2
 |.reach=>qln o p.ground th.2.2.1 th.2.2.2.1 th.2.2.2.2
 |.turn=>qm6 o p.ground th.2.2.1 th.2.2.2.1 th.2.2.2.2
 |.pair=>qop o th.2.2.1 th.2.2.2.2
 |.ways=>qn6 o th.2.2.1 th.2.2.2.2
noncomputable def qsn (k:KK) (p:PuzT) (ms:List Int) (r:RuleT) (th:TI):Bool:=match k with
 |.clue=>qnP p th.2.2.1 th.2.2.2.1
 |.only=>qob ms th.2.2.2.1 th.2.2.2.2
 |.place=>ql9 r ms th.2.2.1 th.2.2.2.2
 |.count=>qlR r ms th.2.2.1 th.2.2.2.1
 |.step=>qn0 r ms th.2.2.1 th.2.2.2.1
 |.sums=>qqn r ms th.2.2.1 th.2.2.2.1
 |.square=>qjQ p.ground ms th.2.2.1 th.2.2.2.1 th.2.2.2.2
 |.reach=>qk9 r p.ground ms th.2.2.1 th.2.2.2.1 th.2.2.2.2
 |.turn=>qnj r p.ground ms th.2.2.1 th.2.2.2.1 th.2.2.2.2
 |.pair=>qmZ ms th.2.2.2.1 th.2.2.2.2
 |.ways=>qnh r ms th.2.2.1 th.2.2.2.1
def noR:RuleT:=⟨.unlike,(1,1,1),[],0,0⟩
noncomputable def qsc (k:KK) (p:PuzT) (ms:List Int) (th:TI):Bool:=qsn k p ms ((qct p th.2.1).getD noR) th
noncomputable def alB (p:PuzT) (ms:List Int) (th:TI):Bool:=match qrW th.1 with
 |none=>false
 |some k=>qsk p th.2.2.1 th.2.2.2.1&&(qsx k p (qct p th.2.1) th&&qsc k p ms th)
section
variable {p:PuzT} {ms:List Int} {th:TI}
end
end Cm
namespace Cm
def qra (k:KK) (p:PuzT) (r:RuleT) (th:TI):List Int:=match k with
 |.clue=>[]
 |.only=>th.2.2.2.2
 |.step=>qbZ ((match qmo r.cells th.2.2.1 with
  |some d=>[d]
  |none=>[])++match qjO r.cells th.2.2.1 with
  |some d=>[d]
  |none=>[])
 |.square=>(qrB p.ground (gI th.2.2.2.2 0)).filter fun d=>!decide (d=th.2.2.1)
 |.reach=>(qcY (nC p.ground).toNat).filter fun d=>!decide (d=th.2.2.1)
 |.turn=>if th.2.2.2.2=[] then qew p.ground th.2.2.1 else qbZ ((qew p.ground (gI th.2.2.2.2 0)++[gI th.2.2.2.2 0]).filter fun d=>!decide (d=th.2.2.1))
 |.pair=>qbZ th.2.2.2.2
 |_=>qbZ (qom r th.2.2.1)
def Sb (m' m:Int):Prop:=∀t,1≤t→stB m' t=true→stB m t=true
theorem Sb.refl (m:Int):Sb m m:=fun _ _ h=>h
theorem Sb.ho {m' m s:Int} (h:Sb m' m) (s1:1≤s) (k:hoB m s=true):hoB m' s=true:=(qjS s1).mpr fun t t1 ht=>(qjS s1).mp k t t1 (h t t1 ht)
theorem Sb.sg {m' m:Int} (h:Sb m' m):∀t∈sgn m',t∈sgn m:=fun t ht=>by
 obtain⟨⟨a,b⟩,c⟩:=qj6.mp ht
 exact qj6.mpr ⟨⟨a,b⟩,h t a c⟩
theorem qpS (m:Int):(sgn m).Nodup:=qhh (qos m)
theorem Sb.ln {m' m:Int} (h:Sb m' m):(sgn m').length≤(sgn m).length:=qcP (qpS m') h.sg
section
variable {p:PuzT} {ms ms':List Int} {th:TI}
def qsl (p:PuzT) (th:TI):List Int:=match qrW th.1 with
 |none=>[]
 |some k=>qra k p ((qct p th.2.1).getD noR) th
end
end Cm
namespace Cm
section
variable {p:PuzT} {ms fi:List Int} {th:TI}
end
end Cm
namespace Cm
theorem qhm (n:Nat):(qcY n).Nodup:=qhh (qou n)
def qrE (r:RuleT):List Int:=match r.k with
 |.unlike=>r.cells
 |.rising=>r.cells
 |.total=>r.wanted::r.cells
 |.seen=>r.wanted::r.cells
 |.counted=>r.wanted::r.sign::r.cells
 |_=>[r.sign]
def qsB (r:RuleT):List Nat:=qsf r.k.w (qrE r)
section
variable {fl:Int × Int × Int}
end
def ThP (k:Nat) (L:List TI):Prop:=L.length≤k∧∀th∈L,th.2.2.2.2.length≤2
theorem ThP.app {k:Nat} {L:List TI} {th:TI} (h:ThP k L) (hl:th.2.2.2.2.length≤2) (hk:k<1000):qdp L th=.ok (L++[th])∧ThP (k+1) (L++[th]):=by
 refine⟨qi4 (by have:=h.1;omega),by have:=h.1;rw[List.length_append,List.length_singleton];omega,fun x hx=>?_⟩
 rcases List.mem_append.mp hx with q | q
 ·exact h.2 x q
 ·rw[List.mem_singleton.mp q];exact hl
theorem ThP.mono {k j:Nat} {L:List TI} (h:ThP k L) (hk:k≤j):ThP j L:=⟨by have:=h.1;omega,h.2⟩
end Cm
namespace Cm
def qsr (k:KK) (p:PuzT) (th:TI):Prop:=match k with
 |.place=>∃r,qct p th.2.1=some r
 |.count=>∃r,qct p th.2.1=some r
 |.sums=>∃r,qct p th.2.1=some r
 |.ways=>∃r,qct p th.2.1=some r
 |.step=>∃r,qct p th.2.1=some r∧th.2.2.1∈r.cells
 |.square=>th.2.2.2.2≠[]
 |_=>True
end Cm
namespace Cm
def zc (cs:List Int):Nat:=cs.count 0
def qrK (s:Int):List (Int × Int)→Int→List Int
 |[],_=>[]
 |p::r,i=>(if p.1=0 then 1+(p.2+i / s ^ zc (r.map Prod.fst)) % s else p.1)::qrK s r i
def qsj (s:Int):List (Int × Int)→List Int→Prop
 |[],[]=>True
 |p::r,x::g=>(if p.1=0 then 1≤x∧x≤s else x=p.1)∧qsj s r g
 |_,_=>False
def qsb (s:Int):List (Int × Int)→List Int→Int
 |p::r,x::g=>(if p.1=0 then (x - 1 - p.2) % s*s ^ zc (r.map Prod.fst) else 0)+qsb s r g
 |_,_=>0
section
variable {s:Int}
end
def mtB (p:PuzT) (g:List Int):Bool:=match F.Puzzle_meets p g with
 |.ok b=>b
 |_=>false
def nFl (p:PuzT):Int:=p.ground.2.2 ^ zc p.clues
def flo (p:PuzT) (st:List Int):List (List Int):=(qcY (nFl p).toNat).map (qrK p.ground.2.2 (p.clues.zip st))
section
variable {p:PuzT}
def qsL (p:PuzT) (st:List Int):List (List Int):=(flo p st).filter (mtB p)
end
end Cm
namespace Cm
section
variable {p:PuzT} {ms:List Int} {c s:Int}
def qsu (L:List (List Int)):Prop:=L.length≤300∧∀m∈L,m.length≤2
def MSg (fl:Int × Int × Int) (ms:List Int):Prop:=∀m∈ms,m<((2 ^ fl.2.2.toNat:Nat):Int)
def qsG (p:PuzT) (ms:List Int) (k:KK) (n c s:Int):List (List Int):=match F.m_mores k p ms (qct p n) c s with
 |.ok L=>L
 |_=>[]
noncomputable def qrX (p:PuzT) (ms:List Int) (k:KK) (n c:Int):Option TI:=(sgn (gI ms c)).findSome? fun s=>(qsG p ms k n c s).findSome? fun m=>if alB p ms (k.w,n,c,s,m)=true then some (k.w,n,c,s,m) else none
end
end Cm
namespace Cm
section
variable {p:PuzT} {ms:List Int}
def qse (ws:List (List Nat)):List KK:=qjf.filter fun k=>decide (k.w∈ws)
def qpn:KK→RK→Bool
 |.only,k=>decide (k=.unlike)
 |.place,k=>decide (k=.unlike)
 |.pair,k=>decide (k=.unlike)
 |.count,k=>decide (k=.counted)
 |.step,k=>decide (k=.rising)
 |.sums,k=>decide (k=.total)
 |.square,k=>decide (k=.nosquare)
 |.reach,k=>decide (k=.joined∨k=.ring)
 |.turn,k=>decide (k=.ring)
 |.clue,_=>true
 |.ways,_=>true
def qsK (r:RE Bool) (b:Bool):Bool:=match r with
 |.ok c=>c == b
 |_=>false
noncomputable def nK (p:PuzT) (ms:List Int) (k:KK):Option TI:=
 if k=.clue then (qcY (nC p.ground).toNat).findSome? (qrX p ms k 0)
 else (qcY p.rules.length).findSome? fun n=>match qct p n with
  |some r=>if qpn k r.k=true then (qbZ r.cells).findSome? (qrX p ms k n) else none
  |none=>none
noncomputable def nT (p:PuzT) (ms:List Int) (ws:List (List Nat)):Option TI:=if 0∈ms then none else (qse ws).findSome? (nK p ms)
end
end Cm
namespace Cm
section
variable {p:PuzT} {ms:List Int}
end
end Cm
namespace Cm
section
variable {fl:Int × Int × Int} {ms:List Int} {c s:Int}
def stk (ms:List Int) (c s:Int):List Int:=ms.set c.toNat (gI ms c - ((2 ^ (s - 1).toNat:Nat):Int))
end
end Cm
namespace Cm
section
variable {p:PuzT} {ms:List Int} {ws:List (List Nat)}
def Nx (p:PuzT) (ws:List (List Nat)) (ms:List Int) (th:TI):Prop:=alB p ms th=true∧stB (gI ms th.2.2.1) th.2.2.2.1=true∧(∃k:KK,th.1=k.w∧k.w∈ws)∧0∉ms
inductive Steps (p:PuzT) (ws:List (List Nat)) (ms:List Int):List TI→List Int→Prop
 |nil:Steps p ws ms [] ms
 |snoc {book:List TI} {left:List Int} {th:TI}:Steps p ws ms book left→nT p left ws=some th→Steps p ws ms (book++[th]) (stk left th.2.2.1 th.2.2.2.1)
def wgt (ms:List Int):Nat:=(ms.map Int.toNat).sum
end
end Cm
namespace Cm
variable {fl:Int × Int × Int} {p:PuzT}
theorem qeV {k:Nat}:∀ys:List (List Int),D.fits (ys.map (eL eI)) (k+1)=true
 |[]=>rfl
 |y::ys=>by
  rw[List.map_cons,D.fits,qeV ys]
  show((D.lst (y.map eI)).fit (k+1)&&true)=true
  simp[D.fit,qcW]
theorem qkv (x y:List Int):D.eqb (eL eI x) (eL eI y)=decide (x=y):=by
 show D.eqb (D.lst _) (D.lst _)=_
 rw[D.eqb]
 exact qei x y
theorem qeT:∀(xs ys:List (List Int)),D.eqbs (xs.map (eL eI)) (ys.map (eL eI))=decide (xs=ys)
 |[],[]=>by simp[D.eqbs]
 |[],_::_=>by simp[D.eqbs]
 |_::_,[]=>by simp[D.eqbs]
 |x::xs,y::ys=>by
  rw[List.map_cons,List.map_cons,D.eqbs,qeT xs ys,qkv]
  by_cases e:x=y
  ·subst e;simp
  ·simp[e]
theorem qlC (xs ys:List (List Int)):evC .eq ((eL (eL eI)) xs) ((eL (eL eI)) ys)=.ok (decide (xs=ys)):=by
 show(if ((D.lst (xs.map (eL eI))).fit 64&&(D.lst (ys.map (eL eI))).fit 64)=true then RE.ok ((D.lst (xs.map (eL eI))).eqb (D.lst (ys.map (eL eI)))) else .bad)=_
 rw[if_pos (by simp[D.fit,qeV (k:=62)])]
 rw[D.eqb]
 exact congrArg RE.ok (qeT xs ys)
theorem qk0 (xs ys:List (List Int)):evC .ne ((eL (eL eI)) xs) ((eL (eL eI)) ys)=.ok (!decide (xs=ys)):=by
 have h:=qlC xs ys
 simp only[evC] at h ⊢
 rw[h];rfl
end Cm
namespace Cm
section
variable {p:PuzT} {ms:List Int} {ws:List (List Nat)} {th:TI}
inductive Run (p:PuzT) (ws:List (List Nat)):List TI→List Int→List Int→Prop
 |nil {ms:List Int}:Run p ws [] ms ms
 |cons {ms left:List Int} {th:TI} {ths:List TI}:nT p ms ws=some th→Run p ws ths (stk ms th.2.2.1 th.2.2.2.1) left→Run p ws (th::ths) ms left
theorem Run.app {a b c:List Int} {xs ys:List TI} (h:Run p ws xs a b) (k:Run p ws ys b c):Run p ws (xs++ys) a c:=by
 induction h with
 |nil=>exact k
 |cons nx _ ih=>exact .cons nx (ih k)
theorem Steps.run {book:List TI} {left:List Int} (h:Steps p ws ms book left):Run p ws book ms left:=by
 induction h with
 |nil=>exact .nil
 |snoc _ nx ih=>exact ih.app (.cons nx .nil)
end
end Cm
namespace Cm
section
variable {p:PuzT} {ms:List Int} {ws:List (List Nat)} {fl:Int × Int × Int}
def qrH (fl:Int × Int × Int):Int:=((2 ^ fl.2.2.toNat:Nat):Int) - 1
def qsM (fl:Int × Int × Int) (v:Int):Int:=if 0<v then ((2 ^ (v - 1).toNat:Nat):Int) else qrH fl
theorem qkL {α:Type} {xs:List α} {i:Nat} {q:Int × α} (h:(qf5 xs)[i]? = some q):q.1=i∧xs[i]? = some q.2:=by
 unfold qf5 at h
 rw[List.getElem?_map,List.getElem?_zipIdx] at h
 cases e:xs[i]? with
 |none=>rw[e] at h;cases h
 |some x =>
  rw[e] at h
  simp at h
  subst h
  exact⟨rfl,rfl⟩
end
end Cm
namespace Cm
def trn:Nat→Int × Int × Int × Int→Int × Int × Int × Int
 |0,s=>s
 |n+1,s=>trn n (s.2.1,s.1,s.2.2.2,s.1 - 1 - s.2.2.1)
structure InS (s:Int × Int × Int × Int):Prop where
 h:1≤s.1∧s.1≤6
 w:1≤s.2.1∧s.2.1≤6
 r:0≤s.2.2.1∧s.2.2.1<s.1
 c:0≤s.2.2.2∧s.2.2.2<s.2.1
theorem qmx:∀{n:Nat} {s:Int × Int × Int × Int},InS s→InS (trn n s)
 |0,_,h=>h
 |n+1,s,h=>qmx (n:=n) (s:=(s.2.1,s.1,s.2.2.2,s.1 - 1 - s.2.2.1)) ⟨h.w,h.h,h.c,by have:=h.r;show 0≤s.1 - 1 - s.2.2.1∧s.1 - 1 - s.2.2.1<s.1;omega⟩
theorem qhu:∀{n:Nat} {s:Int × Int × Int × Int},(trn n s).1*(trn n s).2.1=s.1*s.2.1
 |0,_=>rfl
 |n+1,s=>by rw[trn,qhu];exact Int.mul_comm _ _
theorem qpz:∀{n:Nat} {h w r c r' c':Int},(trn n (h,w,r,c)).2.1=(trn n (h,w,r',c')).2.1
 |0,_,_,_,_,_,_=>rfl
 |n+1,h,w,r,c,r',c'=>by rw[trn,trn];exact qpz
theorem qjz:∀{n:Nat} {h w r c r' c':Int},(trn n (h,w,r,c)).2.2=(trn n (h,w,r',c')).2.2→r=r'∧c=c'
 |0,_,_,_,_,_,_,e=>by cases e;exact⟨rfl,rfl⟩
 |n+1,h,w,r,c,r',c',e=>by
  rw[trn,trn] at e
  obtain⟨a,b⟩:=qjz (n:=n) (h:=w) (w:=h) (r:=c) (c:=h - 1 - r) (r':=c') (c':=h - 1 - r') e
  exact⟨by omega,a⟩
theorem qgu:∀(xs:List Int) (s:Int × Int × Int × Int),xs.foldl (fun s _=>(s.2.1,s.1,s.2.2.2,s.1 - 1 - s.2.2.1)) s=trn xs.length s
 |[],_=>rfl
 |_::xs,s=>qgu xs _
def spS (fl:Int × Int × Int) (mv c:Int):Int × Int × Int × Int:=trn (mv.fmod 4).toNat (fl.1,fl.2.1,c / fl.2.1,if 3<mv then fl.2.1 - 1 - c % fl.2.1 else c % fl.2.1)
def spF (fl:Int × Int × Int) (mv c:Int):Int:=(spS fl mv c).2.2.1*(spS fl mv c).2.1+(spS fl mv c).2.2.2
def grF (fl:Int × Int × Int) (mv:Int):Int × Int × Int:=if mv.fmod 2=1 then (fl.2.1,fl.1,fl.2.2) else fl
section
variable {fl:Int × Int × Int} {mv:Int}
theorem qpP (hf:FOk fl):FOk (grF fl mv)∧nC (grF fl mv)=nC fl∧(grF fl mv).2.2=fl.2.2:=by
 unfold grF
 split
 ·exact⟨⟨hf.w1,hf.w2,hf.h1,hf.h2,by have:=hf.n;rw[Int.mul_comm];exact this,hf.s1,hf.s2⟩,Int.mul_comm _ _,rfl⟩
 ·exact⟨hf,rfl,rfl⟩
theorem qfR (hf:FOk fl) {c:Int} (hc:inC fl c):InS (spS fl mv c):=by
 refine qmx ⟨⟨hf.h1,hf.h2⟩,⟨hf.w1,hf.w2⟩,?_,?_⟩
 ·have h1:c<fl.1*fl.2.1:=hc.2
  have w:=hf.w1
  exact⟨Int.ediv_nonneg hc.1 (by omega),(Int.ediv_lt_iff_lt_mul (by omega)).mpr h1⟩
 ·have w:=hf.w1
  have a:=Int.emod_nonneg c (b:=fl.2.1) (by omega)
  have b:=Int.emod_lt_of_pos c (b:=fl.2.1) (by omega)
  show 0≤(if 3<mv then fl.2.1 - 1 - c % fl.2.1 else c % fl.2.1)∧(if 3<mv then fl.2.1 - 1 - c % fl.2.1 else c % fl.2.1)<fl.2.1
  split<;>omega
theorem qij (hf:FOk fl) {c:Int} (hc:inC fl c):inC fl (spF fl mv c):=by
 have h:=qfR (mv:=mv) hf hc
 have a:(spS fl mv c).1*(spS fl mv c).2.1=fl.1*fl.2.1:=qhu
 obtain⟨h1,h2,h3,h4⟩:=h
 unfold spF
 show 0≤_∧_<fl.1*fl.2.1
 rw[←a]
 generalize (spS fl mv c).1=x1 at *
 generalize (spS fl mv c).2.1=x2 at *
 generalize (spS fl mv c).2.2.1=x3 at *
 generalize (spS fl mv c).2.2.2=x4 at *
 have p:0≤x3*x2:=Int.mul_nonneg h3.1 (by omega)
 have q:(x3+1)*x2≤x1*x2:=Int.mul_le_mul_of_nonneg_right (by omega) (by omega)
 rw[Int.add_mul] at q
 omega
theorem qpr {w a b c d:Int} (w1:1≤w) (hb:0≤b∧b<w) (hd:0≤d∧d<w) (e:a*w+b=c*w+d):a=c∧b=d:=by
 have h1:(a*w+b) / w=a:=by
  rw[Int.add_comm,Int.add_mul_ediv_right _ _ (by omega),Int.ediv_eq_zero_of_lt hb.1 hb.2];omega
 have h2:(c*w+d) / w=c:=by
  rw[Int.add_comm,Int.add_mul_ediv_right _ _ (by omega),Int.ediv_eq_zero_of_lt hd.1 hd.2];omega
 have:a=c:=by rw[←h1,←h2,e]
 subst this
 exact⟨rfl,by omega⟩
theorem qmt (hf:FOk fl) {c d:Int} (hc:inC fl c) (hd:inC fl d) (e:spF fl mv c=spF fl mv d):c=d:=by
 have h1:=qfR (mv:=mv) hf hc
 have h2:=qfR (mv:=mv) hf hd
 have w:=hf.w1
 have ew:(spS fl mv c).2.1=(spS fl mv d).2.1:=qpz
 unfold spF at e
 have c1:=h1.c
 have c2:=h2.c
 rw[ew] at e c1
 obtain⟨e1,e2⟩:=qpr h2.w.1 c1 c2 e
 have e3:(spS fl mv c).2.2=(spS fl mv d).2.2:=Prod.ext e1 e2
 obtain⟨q1,q2⟩:=qjz e3
 have q3:c % fl.2.1=d % fl.2.1:=by
  split at q2<;>omega
 have m1:=Int.mul_ediv_add_emod c fl.2.1
 have m2:=Int.mul_ediv_add_emod d fl.2.1
 rw[q1,q3] at m1
 omega
theorem qjb (h0:0≤mv) (h7:mv≤7):F.look_at_move mv=.ok ():=by
 unfold F.look_at_move
 simp[h0,h7]
theorem qoV (h:¬(0≤mv∧mv≤7)):F.look_at_move mv=.exc 38 []:=by
 unfold F.look_at_move
 by_cases a:0≤mv<;>by_cases b:mv≤7<;>simp[a,b]<;>exact absurd ⟨a,b⟩ h
theorem qq5 (h0:0≤mv) (h7:mv≤7):F.moved_floor fl mv=.ok (grF fl mv):=by
 unfold F.moved_floor grF
 rw[qjb h0 h7]
 simp only[RE.bind_ok,qfX]
 split<;>rfl
theorem qgi {f:Int→Int × Int × Int × Int→RE (Int × Int × Int × Int)} (hfn:∀k s,f k s=.ok (s.2.1,s.1,s.2.2.2,s.1 - 1 - s.2.2.1)) (s:Int × Int × Int × Int):(qa2 (mv.fmod 4)).bind (fun y=>qai f y s)=.ok (trn (mv.fmod 4).toNat s):=by
 have b:=qb0 mv (n:=4) (by decide)
 rw[qdx (by omega) b.1]
 simp only[RE.bind_ok]
 rw[qkH (g:=fun s _=>(s.2.1,s.1,s.2.2.2,s.1 - 1 - s.2.2.1)) fun k _ s=>hfn k s,qgu,qbU]
theorem qli (hf:FOk fl) (h0:0≤mv) (h7:mv≤7):F.moved_cells fl mv=.ok ((qcY (nC fl).toNat).map (spF fl mv)):=by
 have n1:=hf.n1
 have n16:=qlk hf
 unfold F.moved_cells
 rw[qjb h0 h7]
 simp only[RE.bind_ok]
 rw[qnO hf]
 simp only[RE.bind_ok]
 rw[qdx (by omega) (by omega)]
 simp only[RE.bind_ok]
 rw[qhZ (p:=fun _=>true) (g:=spF fl mv) (by rw[qbU];simp;omega) fun c hc s hs=>?_]
 ·simp only[RE.bind_ok]
  rw[List.filter_eq_self.mpr (by simp),List.nil_append]
 ·have hc:=qcS.mp hc
  have ic:inC fl c:=⟨hc.1,by omega⟩
  have i:=qfR (mv:=mv) hf ic
  rw[qn4 hf]
  simp only[RE.bind_ok,qfX]
  have br:(if 4≤mv then RE.ok ((c / fl.2.1,fl.2.1 - 1 - c % fl.2.1):Int × Int) else RE.ok (c / fl.2.1,c % fl.2.1))=.ok (c / fl.2.1,if 3<mv then fl.2.1 - 1 - c % fl.2.1 else c % fl.2.1):=by
   by_cases q:4≤mv
   ·rw[if_pos q,if_pos (by omega)]
   ·rw[if_neg q,if_neg (by omega)]
  rw[br]
  simp only[RE.bind_ok]
  have tf:=qgi (mv:=mv) (f:=fun(bf:Int) (s23:Int × Int × (Int × Int))=>(F.turned_spot s23.1 s23.2.2).bind fun aA=>RE.ok (s23.2.1,s23.1,aA)) (fun k s=>rfl) (fl.1,fl.2.1,c / fl.2.1,if 3<mv then fl.2.1 - 1 - c % fl.2.1 else c % fl.2.1)
  rw[tf]
  simp only[RE.bind_ok]
  have e:(trn (mv.fmod 4).toNat (fl.1,fl.2.1,c / fl.2.1,if 3<mv then fl.2.1 - 1 - c % fl.2.1 else c % fl.2.1))=spS fl mv c:=rfl
  rw[e,qeK (by have:=i.r;have:=i.h;omega)]
  simp only[RE.bind_ok]
  rw[qi4 hs]
  rfl
theorem qkf (hf:FOk fl) {d:Int} (hd:inC fl d):∃c,inC fl c∧spF fl mv c=d:=by
 have n1:=hf.n1
 have mem:∀c∈qcY (nC fl).toNat,inC fl c:=fun c hc=>by have:=qcS.mp hc;exact⟨this.1,by omega⟩
 have nd:((qcY (nC fl).toNat).map (spF fl mv)).Nodup:=by
  rw[List.Nodup,List.pairwise_map]
  refine List.Pairwise.imp_of_mem (fun {a b} ha hb h e=>h (qmt hf (mem a ha) (mem b hb) e)) (qhm _)
 have:=(qoo nd (fun x hx=>by
  obtain⟨c,hc,rfl⟩:=List.mem_map.mp hx
  have i:=qij (mv:=mv) hf (mem c hc)
  exact qcS.mpr ⟨i.1,by have:=i.2;omega⟩) (qhm (nC fl).toNat)).mp (by rw[List.length_map]) d (qcS.mpr ⟨hd.1,by have:=hd.2;omega⟩)
 obtain⟨c,hc,e⟩:=List.mem_map.mp this
 exact⟨c,mem c hc,e⟩
def qeo (fl:Int × Int × Int) (sg:List Int):Prop:=sg.Perm (qam 1 (fl.2.2+1))
theorem qim (i j:Int):(qam i j).Pairwise (· < ·):=by
 unfold qam qcD
 rw[List.pairwise_map]
 refine List.Pairwise.imp ?_ List.pairwise_lt_range
 intro a b h
 omega
theorem qnd {sg:List Int} (h:qeo fl sg):qbZ sg=qam 1 (fl.2.2+1):=
 qc2 ((qcg sg).trans h) (qdF sg) ((qim _ _).imp fun h=>Int.le_of_lt h)
theorem qrF {sg:List Int} (h:qbZ sg=qam 1 (fl.2.2+1)):qeo fl sg:=by
 have:=qcg sg
 rw[h] at this
 exact this.symm
theorem qd6 (hf:FOk fl) {sg:List Int} (h:qeo fl sg):(sg.length:Int)=fl.2.2:=by
 have:=h.length_eq
 rw[qbK] at this
 have:=hf.s1
 omega
theorem qpu {sg:List Int} (h:qeo fl sg):∀x∈sg,1≤x∧x≤fl.2.2:=fun x hx=>by
 have:=qaF.mp (h.mem_iff.mp hx)
 omega
theorem qjC (hf:FOk fl):F.all_signs fl=.ok (qam 1 (fl.2.2+1)):=by
 have:=hf.s1
 have:=hf.s2
 unfold F.all_signs
 rw[qfo (by omega)]
theorem qhj (hf:FOk fl) {sg:List Int} (h:qeo fl sg):F.signs_by fl (some sg)=.ok sg:=by
 unfold F.signs_by
 rw[qjC hf]
 simp[unO,qnd h]
theorem qpG (hf:FOk fl) {sg:List Int} (h:¬qeo fl sg):F.signs_by fl (some sg)=.exc 38 []:=by
 unfold F.signs_by
 rw[qjC hf]
 have:¬qbZ sg=qam 1 (fl.2.2+1):=fun e=>h (qrF e)
 simp[unO,this]
theorem qkc (hf:FOk fl):F.signs_by fl none=.ok (qam 1 (fl.2.2+1)):=by
 unfold F.signs_by
 rw[qjC hf]
 rfl
def qsR (fl:Int × Int × Int) (mv:Int) (sg:List Int) (r:RuleT):RuleT:=match r.k with
 |.unlike=>⟨.unlike,grF fl mv,r.cells.map (spF fl mv),0,0⟩
 |.rising=>⟨.rising,grF fl mv,r.cells.map (spF fl mv),0,0⟩
 |.total=>⟨.total,grF fl mv,r.cells.map (spF fl mv),r.wanted,0⟩
 |.seen=>⟨.seen,grF fl mv,r.cells.map (spF fl mv),r.wanted,0⟩
 |.counted=>⟨.counted,grF fl mv,r.cells.map (spF fl mv),r.wanted,gI sg (r.sign - 1)⟩
 |.joined=>⟨.joined,grF fl mv,qcY (nC (grF fl mv)).toNat,0,gI sg (r.sign - 1)⟩
 |.nosquare=>⟨.nosquare,grF fl mv,qcY (nC (grF fl mv)).toNat,0,gI sg (r.sign - 1)⟩
 |.ring=>⟨.ring,grF fl mv,qcY (nC (grF fl mv)).toNat,0,gI sg (r.sign - 1)⟩
variable {r:RuleT} {sg:List Int}
theorem qkl (hf:FOk fl) {f:Int × Int→List Int→RE (List Int)} {v:Int→Int} {ps:List (Int × Int)} {a:List Int} (hl:(a.length:Int)=nC fl) (hp:(ps.length:Int)=nC fl) (hfn:∀(i:Nat) (q:Int × Int) (s:List Int),ps[i]? = some q→inC fl (i:Int)→(s.length:Int)=nC fl→f q s=.ok (s.set (spF fl mv (i:Int)).toNat (v (i:Int)))):∃b,qai f ps a=.ok b∧(b.length:Int)=nC fl∧∀c,inC fl c→gI b (spF fl mv c)=v c:=by
 suffices h:W (qai f ps a) fun b=>(b.length:Int)=nC fl∧∀c,inC fl c→gI b (spF fl mv c)=v c by
  obtain⟨b,e,h⟩:=h;exact⟨b,e,h⟩
 refine W.mono (qfb (fun i b=>(b.length:Int)=nC fl∧∀c,inC fl c→c<(i:Int)→gI b (spF fl mv c)=v c) ⟨hl,fun c hc h=>by have:=hc.1;omega⟩ fun i q s hq ⟨h1,h2⟩=>?_) fun b ⟨h1,h2⟩=>⟨h1,fun c hc=>h2 c hc (by have:=hc.2;omega)⟩
 have hi:=(List.getElem?_eq_some_iff.mp hq).1
 have ic:inC fl (i:Int):=⟨by omega,by omega⟩
 rw[hfn i q s hq ic h1]
 have si:=qij (mv:=mv) hf ic
 refine W.ok ⟨by rw[List.length_set];exact h1,fun c hc hlt=>?_⟩
 have sc:=qij (mv:=mv) hf hc
 rw[qpW sc.1 si.1 (by have:=si.2;omega)]
 by_cases e:spF fl mv c=spF fl mv (i:Int)
 ·rw[if_pos e,qmt hf hc ic e]
 ·rw[if_neg e]
  exact h2 c hc (by
   have:c≠(i:Int):=fun q=>e (by rw[q])
   omega)
theorem qgn (hf:FOk fl) {a b:List Int} {v:Int→Int} (ha:(a.length:Int)=nC fl) (hb:(b.length:Int)=nC fl) (h1:∀c,inC fl c→gI a (spF fl mv c)=v c) (h2:∀c,inC fl c→gI b (spF fl mv c)=v c):a=b:=by
 refine List.ext_getElem (by omega) fun i hi hj=>?_
 obtain⟨c,hc,e⟩:=qkf (mv:=mv) hf (d:=(i:Int)) ⟨by omega,by omega⟩
 have e1:gI a (i:Int)=a[i]:=by unfold gI;rw[List.getD_eq_getElem?_getD,Int.toNat_natCast,List.getElem?_eq_getElem hi];rfl
 have e2:gI b (i:Int)=b[i]:=by unfold gI;rw[List.getD_eq_getElem?_getD,Int.toNat_natCast,List.getElem?_eq_getElem hj];rfl
 rw[←e1,←e2,←e,h1 c hc,h2 c hc]
theorem qkq (hf:FOk fl) (hs:qeo fl sg) {v:Int} (v0:0≤v) (v1:v≤fl.2.2):atE (0::sg) v=.ok (gI (0::sg) v)∧0≤gI (0::sg) v∧gI (0::sg) v≤fl.2.2:=by
 have l:=qd6 hf hs
 have s1:=hf.s1
 refine⟨qie v0 (by rw[List.length_cons];omega),?_⟩
 have m:=qi9 (ms:=0::sg) v0 (by rw[List.length_cons];omega)
 rcases List.mem_cons.mp m with q | q
 ·rw[q];omega
 ·have:=qpu hs _ q;omega
theorem qhb (hf:FOk fl) (hs:qeo fl sg) {cl:List Int} (hc:qlN fl cl) (h0:0≤mv) (h7:mv≤7):∃b,F.moved_filling fl cl mv (some sg)=.ok b∧(b.length:Int)=nC fl∧∀c,inC fl c→gI b (spF fl mv c)=gI (0::sg) (gI cl c):=by
 have n1:=hf.n1
 have n16:=qlk hf
 have l:=qd6 hf hs
 have s2:=hf.s2
 have cl_:=hc.1
 unfold F.moved_filling
 rw[qhj hf hs]
 simp only[RE.bind_ok]
 rw[qdb (by simp;omega)]
 simp only[RE.bind_ok]
 rw[gdl (by omega)]
 simp only[RE.bind_ok]
 rw[qli hf h0 h7]
 simp only[RE.bind_ok]
 obtain⟨b,eb,h⟩:=qkl (mv:=mv) hf (f:=fun(p9:Int × Int) (s8:List Int)=>((atE ([0]++sg) p9.1).bind fun x10=>qif s8 p9.2 x10).bind fun ai=>RE.ok ai) (v:=fun c=>gI (0::sg) (gI cl c)) (ps:=cl.zip ((qcY (nC fl).toNat).map (spF fl mv))) (a:=cl.map fun _=>0) (by rw[List.length_map];exact cl_) (by rw[List.length_zip,List.length_map,qbU];omega) fun i q s hq ic sl=>by
  rw[List.getElem?_zip_eq_some] at hq
  obtain⟨q1,q2⟩:=hq
  rw[List.getElem?_map] at q2
  have hi:=(List.getElem?_eq_some_iff.mp q1).1
  have u:(qcY (nC fl).toNat)[i]? = some (i:Int):=by
   have hl:i<(qcY (nC fl).toNat).length:=by rw[qbU];omega
   have e:=List.getElem?_eq_getElem hl
   rw[e]
   congr 1
   have:=qhy e
   exact this.1
  rw[u] at q2
  simp only[Option.map_some,Option.some.injEq] at q2
  have gq:gI cl (i:Int)=q.1:=by unfold gI;rw[List.getD_eq_getElem?_getD,Int.toNat_natCast,q1];rfl
  have bq:=hc.2 _ (List.mem_of_getElem? q1)
  have si:=qij (mv:=mv) hf ic
  show((atE (0::sg) q.1).bind _).bind _=_
  rw[(qkq hf hs bq.1 bq.2).1]
  simp only[RE.bind_ok]
  rw[←q2,qjl si.1 (by have:=si.2;omega),←gq]
  rfl
 rw[eb]
 exact⟨b,rfl,h⟩
theorem qqS (hf:FOk fl) (hs:qeo fl sg) {cl b:List Int} (hc:qlN fl cl) (hl:(b.length:Int)=nC fl) (hv:∀c,inC fl c→gI b (spF fl mv c)=gI (0::sg) (gI cl c)):qlN (grF fl mv) b:=by
 have g:=qpP (mv:=mv) hf
 refine⟨by rw[g.2.1];exact hl,fun x hx=>?_⟩
 obtain⟨i,hi,rfl⟩:=List.getElem_of_mem hx
 obtain⟨c,ic,e⟩:=qkf (mv:=mv) hf (d:=(i:Int)) ⟨by omega,by omega⟩
 have e1:gI b (i:Int)=b[i]:=by unfold gI;rw[List.getD_eq_getElem?_getD,Int.toNat_natCast,List.getElem?_eq_getElem hi];rfl
 rw[←e1,←e,hv c ic,g.2.2]
 have bq:=hc.2 _ (qi9 (ms:=cl) ic.1 (by have:=hc.1;have:=ic.2;omega))
 exact(qkq hf hs bq.1 bq.2).2
def rcK:RK→Bool
 |.total=>true
 |.rising=>true
 |.seen=>true
 |_=>false
end
end Cm
set_option maxHeartbeats 400000
namespace K66
open Cm
def qdr:Nat→Option Bool:=fun c=>List.lookup c [(38,true)]
def qmw:Nat→Option Bool:=fun c=>List.lookup c []
def qb3:Nat→Option Bool:=fun c=>List.lookup c [(38,false)]
def qmj:Nat→Option Bool:=fun c=>List.lookup c []
def qcz:Nat→Option Bool:=fun c=>List.lookup c [(38,false)]
def qoq:Nat→Option Bool:=fun c=>List.lookup c []
def qdi:Nat→Option Bool:=fun c=>List.lookup c [(38,false)]
def qo6:Nat→Option Bool:=fun c=>List.lookup c []
def qfY:Nat→Option Bool:=fun c=>List.lookup c [(38,true)]
def qpY:Nat→Option Bool:=fun c=>List.lookup c []
def qcI:Nat→Option Bool:=fun c=>List.lookup c [(38,true)]
def qlH:Nat→Option Bool:=fun c=>List.lookup c []
def qgH (ax:List Int) (a8:Int):RE Int:=
 (RE.ok (decide (a8<(List.length ax:Int)))).bind fun k1=>if k1=true then (atE ax a8) else ((RE.ok ((7*a8)+3:Int)).bind fun aZ=>((RE.ok (decide (0<(List.length ax:Int)))).bind fun k2=>if k2=true then ((((((RE.ok ax).bind fun x19=>(qgF a8 (List.length ax:Int)).bind fun x20=>atE x19 x20).bind fun x21=>RE.ok (Int.fmod x21 1000003)).bind fun x23=>qix x23 (a8+1)).bind fun x26=>RE.ok (aZ+x26)).bind fun aZ=>RE.ok aZ) else (RE.ok aZ)).bind fun(p27:Int)=>((qix p27 p27).bind fun x28=>RE.ok (Int.fmod x28 999979)).bind fun x30=>RE.ok (x30+(Int.fmod p27 101)))
def qc1 (ax:List Int):RE (Int × Int × Int):=
 (((qgH ax 0).bind fun x1=>RE.ok (Int.fmod x1 6)).bind fun x4=>RE.ok (1+x4)).bind fun aE=>(((qgH ax 1).bind fun x7=>((RE.ok 6).bind fun x5=>(qks 16 aE).bind fun x6=>RE.ok (if x6<x5 then x6 else x5)).bind fun x8=>qgF x7 x8).bind fun x10=>RE.ok (1+x10)).bind fun aQ=>(RE.ok aE).bind fun x15=>(RE.ok aQ).bind fun x16=>(((qgH ax 2).bind fun x11=>RE.ok (Int.fmod x11 6)).bind fun x14=>RE.ok (1+x14)).bind fun x17=>RE.ok (x15,x16,x17)
def qa3 (ab:Int) (aC:Int):RE (List Int):=
 (qf4 1 (aC+1)).bind fun av=>(RE.ok ([]:List Int)).bind fun ai=>((qa2 aC).bind fun y11=>qai (fun(a8:Int) (s5:(List Int) × (List Int))=>(((qks ab ((3*a8)+1)).bind fun x6=>qgF x6 (List.length s5.1:Int)).bind fun x9=>qjF s5.2 s5.1 x9).bind fun p8=>RE.ok (p8.2,p8.1)) y11 (av,ai)).bind fun(p10:(List Int) × (List Int))=>RE.ok p10.2
def qd0 (aw:Int × Int × Int) (ab:Int) (au:Int):RE Int:=
 (RE.ok aw).bind fun p1=>(qks ab p1.2.1).bind fun bE=>(qgF ab p1.2.1).bind fun ba=>((RE.ok (decide (3<au))).bind fun k2=>if k2=true then ((RE.ok ((p1.2.1 - 1) - ba:Int)).bind fun ba=>RE.ok ba) else (RE.ok ba)).bind fun(p3:Int)=>((qa2 (Int.fmod au 4)).bind fun y20=>qai (fun(bf:Int) (s10:Int × Int × Int × Int)=>((RE.ok s10.2.2.2).bind fun x15=>(RE.ok ((s10.1 - 1) - s10.2.2.1)).bind fun x16=>RE.ok (x15,x16)).bind fun p11=>((RE.ok s10.2.1).bind fun x13=>(RE.ok s10.1).bind fun x14=>RE.ok (x13,x14)).bind fun p12=>RE.ok (p12.1,p12.2,p11.1,p11.2)) y20 (p1.1,p1.2.1,bE,p3)).bind fun(p17:Int × Int × Int × Int)=>(qix p17.2.2.1 p17.2.1).bind fun x18=>RE.ok (x18+p17.2.2.2)
def qge (aw:Int × Int × Int) (aq:List Int) (au:Int) (am:List Int):RE (List Int):=
 (RE.ok (aq:List Int)).bind fun aD=>((RE.ok (qf5 aq)).bind fun y12=>qai (fun(p6:Int × Int) (s5:List Int)=>(((qcE [0] am).bind fun x7=>(RE.ok p6.2).bind fun x8=>atE x7 x8).bind fun x9=>(qd0 aw p6.1 au).bind fun x10=>qif s5 x10 x9).bind fun aD=>RE.ok aD) y12 aD).bind fun(p11:List Int)=>RE.ok p11
def qej (ai:Int):RE Bool:=
 RE.ok (true && !false)
def qc8 (ai:List Int) (aD:List Int):RE Bool:=
 (RE.ok (!true||(!decide (ai=aD)))).bind fun k1=>if k1=true then (RE.ok false) else ((((RE.ok ai).bind fun x2=>gd (leB x2.length) (lcE (fun(aj:Int)=>(qej aj)) (fun(aj:Int)=>(RE.ok aj)) x2)).bind fun x3=>RE.ok (List.length x3:Int)).bind fun x4=>RE.ok (decide (x4=(List.length aD:Int))))
def qbr (am:List Int) (ab:Int):RE (List Int):=
 (qgF (Int.fdiv ab 5) (List.length am:Int)).bind fun aO=>(RE.ok (decide ((Int.fmod ab 5)=0))).bind fun k1=>if k1=true then (RE.ok (qcq am (some 1) none)) else ((RE.ok (decide ((Int.fmod ab 5)=1))).bind fun k2=>if k2=true then (((atE am aO).bind fun x3=>RE.ok [x3]).bind fun x5=>qcE am x5) else ((RE.ok ((decide ((Int.fmod ab 5)=2))&&(decide (1<(List.length am:Int))))).bind fun k6=>if k6=true then ((((atE am (aO - 1)).bind fun x7=>RE.ok [x7]).bind fun x9=>qcE (qcq am none (some aO)) x9).bind fun x10=>qcE x10 (qcq am (some (aO+1)) none)) else ((RE.ok (decide ((Int.fmod ab 5)=3))).bind fun k12=>if k12=true then ((qcE (qcq am none (some aO)) [0]).bind fun x13=>qcE x13 (qcq am (some (aO+1)) none)) else ((((((qoZ 10 9).bind fun x16=>qgF (Int.fdiv ab 64) x16).bind fun x18=>RE.ok (((List.length am:Int)+1)+x18)).bind fun x19=>RE.ok [x19]).bind fun x21=>qcE (qcq am none (some aO)) x21).bind fun x22=>qcE x22 (qcq am (some (aO+1)) none)))))
def qaK (aw:Int × Int × Int) (aq:List Int) (au:Int) (am:Option (List Int)):RE Bool:=
 (RE.ok (():Unit)).bind fun bK=>(tryE qdr (none:Option Nat) (F.moved_filling aw aq au am)).bind fun p1=>((ql0 qb3 p1).bind fun x2=>(ql0 qcz p1).bind fun x3=>(ql0 qdi p1).bind fun x4=>RE.ok [x2,x3,x4]).bind fun aH=>(ql0 qfY p1).bind fun k6=>if k6=true then ((ql0 qcI p1).bind fun k5=>if k5=true then (RE.ok (!(List.any aH id))) else RE.ok false) else RE.ok false
def qjh (ax:List Int):RE Bool:=
 (qc1 ax).bind fun aw=>(((qix aw.1 aw.2.1).bind qa2).bind fun x4=>gd (leB x4.length) (lcE (fun(a8:Int)=>(RE.ok true)) (fun(a8:Int)=>((qgH ax (7+a8)).bind fun x2=>qgF x2 (aw.2.2+1))) x4)).bind fun aq=>((qgH ax 3).bind fun x5=>RE.ok (Int.fmod x5 8)).bind fun au=>(atE ([0,3,2,1,4,5,6,7]) au).bind fun bx=>(qf4 1 (aw.2.2+1)).bind fun bc=>((qgH ax 4).bind fun x7=>(RE.ok aw.2.2).bind fun x8=>qa3 x7 x8).bind fun am=>(((F.moved_filling aw aq au (none:Option (List Int))).bind fun x9=>(qge aw aq au bc).bind fun x10=>qc8 x9 x10).bind fun x11=>RE.ok (!x11)).bind fun k12=>if k12=true then (RE.ok false) else ((((F.moved_filling aw aq au (none:Option (List Int))).bind fun x13=>(qge aw aq au bc).bind fun x14=>qc8 x13 x14).bind fun x15=>RE.ok (!x15)).bind fun k16=>if k16=true then (RE.ok false) else ((qge aw aq au am).bind fun aD=>(((RE.ok aq).bind fun x19=>((RE.ok am).bind fun x17=>(RE.ok ([]:List (List Int))).bind fun x18=>RE.ok (x17::x18)).bind fun x20=>RE.ok (x19::x20)).bind fun x79=>gd (leB x79.length) (RE.ok x79)).bind fun aP=>(pkM ((RE.ok aw).bind fun x22=>(atE aP 0).bind fun x23=>(RE.ok au).bind fun x24=>((atE aP 1).bind fun x21=>RE.ok ((some) x21)).bind fun x25=>F.moved_filling x22 x23 x24 x25)).bind fun ai=>(((qc8 ai aD).bind fun x26=>RE.ok (!x26)).bind fun k27=>if k27=true then RE.ok true else (pkM (evC .ne ((eL (eL eI)) aP) ((eL (eL eI)) ([aq,am]))))).bind fun k28=>if k28=true then (RE.ok false) else ((F.moved_floor aw au).bind fun aY=>((RE.ok bc).bind fun x31=>gd (leB x31.length) (lcE (fun(aj:Int)=>(RE.ok true)) (fun(aj:Int)=>((qfk am aj).bind fun x29=>RE.ok (x29+1))) x31)).bind fun bm=>(((F.moved_filling aY ai bx (some bm)).bind fun x32=>(RE.ok aq).bind fun x33=>qc8 x32 x33).bind fun x34=>RE.ok (!x34)).bind fun k35=>if k35=true then (RE.ok false) else (((pkM ((RE.ok aw).bind fun x41=>(atE aP 0).bind fun x42=>(RE.ok au).bind fun x43=>(((RE.ok am).bind fun x38=>(qgH ax 5).bind fun x39=>qbr x38 x39).bind fun x40=>RE.ok ((some) x40)).bind fun x44=>qaK x41 x42 x43 x44)).bind fun x45=>RE.ok (!x45)).bind fun k46=>if k46=true then (RE.ok false) else ((((RE.ok (-1)).bind fun x49=>(RE.ok 8).bind fun x50=>(RE.ok (-9)).bind fun x51=>((qoZ 10 20).bind fun x47=>RE.ok (x47+au)).bind fun x52=>RE.ok [x49,x50,x51,x52]).bind fun x55=>((qgH ax 6).bind fun x53=>RE.ok (Int.fmod x53 4)).bind fun x56=>atE x55 x56).bind fun bz=>(((pkM ((RE.ok aw).bind fun x57=>(atE aP 0).bind fun x58=>(RE.ok bz).bind fun x59=>(RE.ok (none:Option (List Int))).bind fun x60=>qaK x57 x58 x59 x60)).bind fun x61=>RE.ok (!x61)).bind fun k67=>if k67=true then RE.ok true else ((pkM ((RE.ok aw).bind fun x62=>(atE aP 0).bind fun x63=>(RE.ok bz).bind fun x64=>(RE.ok (some am)).bind fun x65=>qaK x62 x63 x64 x65)).bind fun x66=>RE.ok (!x66))).bind fun k68=>if k68=true then (RE.ok false) else ((RE.ok ([]:List Int)).bind fun ai=>(ql1 aP 1).bind fun aP=>pkM (((RE.ok aw).bind fun x73=>(atE aP 0).bind fun x74=>(RE.ok au).bind fun x75=>(RE.ok (some am)).bind fun x76=>F.moved_filling x73 x74 x75 x76).bind fun x77=>(RE.ok aD).bind fun x78=>qc8 x77 x78)))))))
theorem qbd (ax:List Int) (a8:Int):Rf (g__law_at [(eL eI) ax,eI a8]) (qgH ax a8) eI .v true:=by
 have key:∀q0 q1 q2:Sl,SlV false ((eL eI) ax) q0→SlV true (eI a8) q1→BR qcX qcd [q0,q1,q2] (qgH ax a8) eI .v true:=by
  intro q0 q1 q2 h0 h1;unfold qgH qcd;refine BR.ifR (XT.val (XE.cmpP (XE.var (i:=1) rfl h1) (XE.pri1P (XE.var (i:=0) rfl h0) (qfz _)) (qq9 _ _))) ?_ ?_
  ·exact BR.ret (XE.idxFP (XE.var (i:=0) rfl h0) (XE.var (i:=1) rfl h1)) rfl
  refine BR.cons (SN.asg (en:=eI) (fun q2=>[q0,q1,q2]) (XE.binP (XE.binP XE.cint (XE.var (i:=1) rfl h1) (qmA _ _ (qjv rfl))) XE.cint (qby _ _)) rfl fun _=>rfl) ?_;rintro aZ _ ⟨q2,rfl,h2⟩;refine BR.cons (S:=(fun(st:Int) ρ=>∃q2,ρ=[q0,q1,q2]∧SlV true (eI st) q2)) (SN.iff (XT.val (XE.cmpP (XE.pri1P (XE.var (i:=0) rfl h0) (qfz _)) XE.cint (qnK _ _))) ?_ ?_) ?_
  ·refine BN.cons (SN.asg (en:=eI) (fun q2=>[q0,q1,q2]) (XE.binL (XE.var (i:=2) rfl h2) (XE.binR (XE.binR (XE.idxF (XE.var (i:=0) rfl h0) (XE.binP (XE.var (i:=1) rfl h1) (XE.pri1P (XE.var (i:=0) rfl h0) (qfz _)) (qf2 _ _))) XE.cint (fun x=>qbB x _ rfl)) (XE.binP (XE.var (i:=1) rfl h1) XE.cint (qby _ _)) (fun x=>qii x _)) (fun y=>qby _ y)) rfl fun _=>rfl) ?_;rintro aZ _ ⟨q2,rfl,h2⟩;exact BN.nil ⟨_,rfl,h2⟩
  ·exact BN.nil ⟨_,rfl,h2⟩
  rintro p27 _ ⟨q2,rfl,h2⟩;exact BR.ret (XE.binR (XE.binR (XE.binP (XE.var (i:=2) rfl h2) (XE.var (i:=2) rfl h2) (qii _ _)) XE.cint (fun x=>qbB x _ rfl)) (XE.binP (XE.var (i:=2) rfl h2) XE.cint (qbB _ _ rfl)) (fun x=>qby x _)) rfl
 exact Rf.run rfl (key _ _ .non SlV.any SlV.flat)
theorem qf6 (ax:List Int):Rf (g__law_floor [(eL eI) ax]) (qc1 ax) (eT3 eI eI eI) .v true:=by
 have key:∀q0 q1 q2:Sl,SlV false ((eL eI) ax) q0→BR qbA qbc [q0,q1,q2] (qc1 ax) (eT3 eI eI eI) .v true:=by
  intro q0 q1 q2 h0;unfold qc1 qbc;refine BR.cons (SN.asg (en:=eI) (fun q1=>[q0,q1,q2]) (XE.binL XE.cint (XE.binR (XE.call2P rfl (XE.var (i:=0) rfl h0) XE.cint (qbd ax 0) rfl rfl) XE.cint (fun x=>qbB x _ rfl)) (fun y=>qby _ y)) rfl fun _=>rfl) ?_;rintro aE _ ⟨q1,rfl,h1⟩;refine BR.cons (SN.asg (en:=eI) (fun q2=>[q0,q1,q2]) (XE.binL XE.cint (XE.bin (XE.call2P rfl (XE.var (i:=0) rfl h0) XE.cint (qbd ax 1) rfl rfl) (XE.pri2 XE.cint (XE.binP XE.cint (XE.var (i:=1) rfl h1) (qlV _ _)) (fun x y=>qpg x y)) (fun x y=>qf2 x y)) (fun y=>qby _ y)) rfl fun _=>rfl) ?_;rintro aQ _ ⟨q2,rfl,h2⟩;exact BR.ret (XE.tup3 (XE.var (i:=1) rfl h1) (XE.var (i:=2) rfl h2) (XE.binL XE.cint (XE.binR (XE.call2P rfl (XE.var (i:=0) rfl h0) XE.cint (qbd ax 2) rfl rfl) XE.cint (fun x=>qbB x _ rfl)) (fun y=>qby _ y)) rfl) rfl
 exact Rf.run rfl (key _ .non .non SlV.any)
theorem qeh (ab:Int) (aC:Int):Rf (g__law_exchange [eI ab,eI aC]) (qa3 ab aC) (eL eI) .f true:=by
 have key:∀q0 q1 q2 q3 q4:Sl,SlV true (eI ab) q0→SlV true (eI aC) q1→BR qa0 qaA [q0,q1,q2,q3,q4] (qa3 ab aC) (eL eI) .f true:=by
  intro q0 q1 q2 q3 q4 h0 h1;unfold qa3 qaA;refine BR.cons (SN.own (en:=eI) (fun q2=>[q0,q1,q2,q3,q4]) (XE.lrng (XRg.r2P XE.cint (XE.binP (XE.var (i:=1) rfl h1) XE.cint (qby _ _)))) fun _=>rfl) ?_;rintro av _ ⟨q2,rfl,h2⟩;refine BR.cons (SN.own (en:=eI) (fun q3=>[q0,q1,q2,q3,q4]) (XE.lstL XLs.nil) fun _=>rfl) ?_;rintro ai _ ⟨q3,rfl,h3⟩;refine BR.cons (S:=(fun(st:(List Int) × (List Int)) ρ=>∃q2 q3 q4,ρ=[q0,q1,q2,q3,q4]∧SlO true (List.map eI st.1) q2∧SlO true (List.map eI st.2) q3)) (SN.for1 (t0:=true) _ (XI.rng (XRg.r1P (XE.var (i:=1) rfl h1))) (fun _=>.inl rfl) ⟨_,_,_,rfl,h2,h3⟩ ?_) ?_
  ·intro a8 s5 ρ1 q4 hS h4;obtain⟨q2,q3,_,rfl,h2,h3⟩:=hS;change BL _ _ [q0,q1,q2,q3,q4] _ _;refine BL.cons (SN.apop (en:=eI) (fun q3 q2=>[q0,q1,q2,q3,q4]) rfl rfl h3 rfl h2 (XE.binR (XE.binP (XE.var (i:=0) rfl h0) (XE.binP (XE.binP XE.cint (XE.var (i:=4) rfl h4) (qmA _ _ (qjv rfl))) XE.cint (qby _ _)) (qlV _ _)) (XE.pri1P (XE.varO (i:=2) rfl h2) (qfz _)) (fun x=>qf2 x _)) (fun _ _=>rfl)) ?_;rintro p8 _ ⟨q3,q2,rfl,h3,h2⟩;exact BL.nil ⟨_,_,_,rfl,h2,h3⟩
  rintro p10 _ ⟨q2,q3,q4,rfl,h2,h3⟩;exact BR.ret (XE.varO (i:=3) rfl h3) rfl
 exact Rf.run rfl (key _ _ .non .non .non SlV.flat SlV.flat)
theorem qem (ah:Int × Int × Int):Rf (g_all_signs [(eT3 eI eI eI) ah]) (F.all_signs ah) (eL eI) .f true:=by
 have key:∀q0:Sl,SlV true ((eT3 eI eI eI) ah) q0→BR qbY qbv [q0] (F.all_signs ah) (eL eI) .f true:=by
  intro q0 h0;unfold F.all_signs qbv;exact BR.ret (XE.lrng (XRg.r2P XE.cint (XE.binP (XE.prtP (x:=ah) (t2:=true) (f:=fun p=>p.2.2) (en2:=eI) (XE.var (i:=0) rfl h0) (fun _ _=>rfl) (fun _=>.inl rfl)) XE.cint (qby _ _)))) rfl
 exact Rf.run rfl (key _  SlV.flat)
theorem qin (ah:Int × Int × Int) (am:Option (List Int)):Rf (g_signs_by [(eT3 eI eI eI) ah,(eO (eL eI)) am]) (F.signs_by ah am) (eL eI) .f true:=by
 have key:∀q0 q1:Sl,SlV true ((eT3 eI eI eI) ah) q0→SlV false ((eO (eL eI)) am) q1→BR qcl qbL [q0,q1] (F.signs_by ah am) (eL eI) .f true:=by
  intro q0 q1 h0 h1;unfold F.signs_by qbL;refine BR.ifR (XT.val (XE.isN (XE.var (i:=1) rfl h1) (fun _=>rfl))) ?_ ?_
  ·exact BR.ret (XE.call1P rfl (XE.var (i:=0) rfl h0) (qem ah) rfl rfl) rfl
  refine BR.ifR (XT.val (XE.cmp (XE.pri1 (XE.dec (f:=unO) (XE.var (i:=1) rfl h1) qr3) (fun x=>qkQ x)) (XE.call1P rfl (XE.var (i:=0) rfl h0) (qem ah) rfl rfl) (fun x y=>qmH x y))) ?_ ?_
  ·exact BR.rse rfl
  exact BR.ret (XE.pri1 (XE.dec (f:=unO) (XE.var (i:=1) rfl h1) qr3) (fun x=>qcx x)) rfl
 exact Rf.run rfl (key _ _  SlV.flat SlV.any)
theorem qcv (au:Int):Rf (g_look_at_move [eI au]) (F.look_at_move au) eU .v true:=by
 have key:∀q0:Sl,SlV true (eI au) q0→BN qa9 qaJ [q0] (F.look_at_move au) (fun _ _=>True):=by
  intro q0 h0;unfold F.look_at_move qaJ;refine BN.ifE rfl (XT.notP (XT.val (XE.chnP XE.cint (XE.var (i:=0) rfl h0) XE.cint (qqw _ _) (qqw _ _)))) rfl ?_;exact BN.nil trivial
 exact Rf.runU (S:=fun _ _=>True) rfl (key _  SlV.flat)
theorem qfP (ah:Int × Int × Int):Rf (g_many_cells [(eT3 eI eI eI) ah]) (F.many_cells ah) eI .v true:=by
 have key:∀q0:Sl,SlV true ((eT3 eI eI eI) ah) q0→BR qbF qba [q0] (F.many_cells ah) eI .v true:=by
  intro q0 h0;unfold F.many_cells qba;exact BR.ret (XE.binP (XE.prtP (x:=ah) (t2:=true) (f:=fun p=>p.1) (en2:=eI) (XE.var (i:=0) rfl h0) (fun _ _=>rfl) (fun _=>.inl rfl)) (XE.prtP (x:=ah) (t2:=true) (f:=fun p=>p.2.1) (en2:=eI) (XE.var (i:=0) rfl h0) (fun _ _=>rfl) (fun _=>.inl rfl)) (qii _ _)) rfl
 exact Rf.run rfl (key _  SlV.flat)
theorem qjL (ah:Int × Int × Int) (ab:Int):Rf (g_spot_of [(eT3 eI eI eI) ah,eI ab]) (F.spot_of ah ab) (eT2 eI eI) .v true:=by
 have key:∀q0 q1:Sl,SlV true ((eT3 eI eI eI) ah) q0→SlV true (eI ab) q1→BR qcU qb4 [q0,q1] (F.spot_of ah ab) (eT2 eI eI) .v true:=by
  intro q0 q1 h0 h1;unfold F.spot_of qb4;exact BR.ret (XE.tup2 (XE.binP (XE.var (i:=1) rfl h1) (XE.prtP (x:=ah) (t2:=true) (f:=fun p=>p.2.1) (en2:=eI) (XE.var (i:=0) rfl h0) (fun _ _=>rfl) (fun _=>.inl rfl)) (qlV _ _)) (XE.binP (XE.var (i:=1) rfl h1) (XE.prtP (x:=ah) (t2:=true) (f:=fun p=>p.2.1) (en2:=eI) (XE.var (i:=0) rfl h0) (fun _ _=>rfl) (fun _=>.inl rfl)) (qf2 _ _)) rfl) rfl
 exact Rf.run rfl (key _ _  SlV.flat SlV.flat)
theorem qft (aE:Int) (aA:Int × Int):Rf (g_turned_spot [eI aE,(eT2 eI eI) aA]) (F.turned_spot aE aA) (eT2 eI eI) .v true:=by
 have key:∀q0 q1:Sl,SlV true (eI aE) q0→SlV true ((eT2 eI eI) aA) q1→BR qbh qaW [q0,q1] (F.turned_spot aE aA) (eT2 eI eI) .v true:=by
  intro q0 q1 h0 h1;unfold F.turned_spot qaW;exact BR.ret (XE.tup2P (XE.prtP (x:=aA) (t2:=true) (f:=fun p=>p.2) (en2:=eI) (XE.var (i:=1) rfl h1) (fun _ _=>rfl) (fun _=>.inl rfl)) (XE.binP (XE.binP (XE.var (i:=0) rfl h0) XE.cint (qfe _ _)) (XE.prtP (x:=aA) (t2:=true) (f:=fun p=>p.1) (en2:=eI) (XE.var (i:=1) rfl h1) (fun _ _=>rfl) (fun _=>.inl rfl)) (qfe _ _)) rfl) rfl
 exact Rf.run rfl (key _ _  SlV.flat SlV.flat)
theorem qe1 (ah:Int × Int × Int) (au:Int):Rf (g_moved_cells [(eT3 eI eI eI) ah,eI au]) (F.moved_cells ah au) (eL eI) .f true:=by
 have key:∀q0 q1 q2 q3 q4 q5 q6 q7 q8:Sl,SlV true ((eT3 eI eI eI) ah) q0→SlV true (eI au) q1→BR qbq qaZ [q0,q1,q2,q3,q4,q5,q6,q7,q8] (F.moved_cells ah au) (eL eI) .f true:=by
  intro q0 q1 q2 q3 q4 q5 q6 q7 q8 h0 h1;unfold F.moved_cells qaZ;refine BR.cons (SN.expr (XE.call1P rfl (XE.var (i:=1) rfl h1) (qcv au) rfl rfl)) ?_;rintro _ _ rfl;refine BR.cons (SN.own (en:=eI) (fun q2=>[q0,q1,q2,q3,q4,q5,q6,q7,q8]) (XE.lstL XLs.nil) fun _=>rfl) ?_;rintro ai _ ⟨q2,rfl,h2⟩;refine BR.cons (S:=(fun(st:List Int) ρ=>∃q2 q3 q4 q5 q6 q7 q8,ρ=[q0,q1,q2,q3,q4,q5,q6,q7,q8]∧SlO true (List.map eI st) q2)) (SN.for1 (t0:=true) _ (XI.rng (XRg.r1 (XE.call1P rfl (XE.var (i:=0) rfl h0) (qfP ah) rfl rfl))) (fun _=>.inl rfl) ⟨_,_,_,_,_,_,_,rfl,h2⟩ ?_) ?_
  ·intro ab s16 ρ1 q3 hS h3;obtain⟨q2,_,q4,q5,q6,q7,q8,rfl,h2⟩:=hS;change BL _ _ [q0,q1,q2,q3,q4,q5,q6,q7,q8] _ _;refine BL.cons (SN.asg3 (t3:=true) (t4:=true) (t5:=true) (fun q4 q5 q6=>[q0,q1,q2,q3,q4,q5,q6,q7,q8]) (XE.var (i:=0) rfl h0) (fun _=>.inl rfl) (fun _=>.inl rfl) (fun _=>.inl rfl) (fun _ _ _=>rfl)) ?_;rintro p17 _ ⟨q4,q5,q6,rfl,h4,h5,h6⟩;refine BL.cons (SN.asg (en:=(eT2 eI eI)) (fun q7=>[q0,q1,q2,q3,q4,q5,q6,q7,q8]) (XE.call2P rfl (XE.var (i:=0) rfl h0) (XE.var (i:=3) rfl h3) (qjL ah ab) rfl rfl) rfl fun _=>rfl) ?_;rintro aA _ ⟨q7,rfl,h7⟩;refine BL.cons (S:=(fun(st:Int × Int) ρ=>∃q7,ρ=[q0,q1,q2,q3,q4,q5,q6,q7,q8]∧SlV true ((eT2 eI eI) st) q7)) (SN.iff (XT.val (XE.cmpP (XE.var (i:=1) rfl h1) XE.cint (qrm _ _))) ?_ ?_) ?_
   ·refine BN.cons (SN.asg (en:=(eT2 eI eI)) (fun q7=>[q0,q1,q2,q3,q4,q5,q6,q7,q8]) (XE.tup2P (XE.prtP (x:=aA) (t2:=true) (f:=fun p=>p.1) (en2:=eI) (XE.var (i:=7) rfl h7) (fun _ _=>rfl) (fun _=>.inl rfl)) (XE.binP (XE.binP (XE.var (i:=5) rfl h5) XE.cint (qfe _ _)) (XE.prtP (x:=aA) (t2:=true) (f:=fun p=>p.2) (en2:=eI) (XE.var (i:=7) rfl h7) (fun _ _=>rfl) (fun _=>.inl rfl)) (qfe _ _)) rfl) rfl fun _=>rfl) ?_;rintro aA _ ⟨q7,rfl,h7⟩;exact BN.nil ⟨_,rfl,h7⟩
   ·exact BN.nil ⟨_,rfl,h7⟩
   rintro p19 _ ⟨q7,rfl,h7⟩;refine BL.cons (S:=(fun(st:Int × Int × (Int × Int)) ρ=>∃q4 q5 q7 q8,ρ=[q0,q1,q2,q3,q4,q5,q6,q7,q8]∧SlV true (eI st.1) q4∧SlV true (eI st.2.1) q5∧SlV true ((eT2 eI eI) st.2.2) q7)) (SN.for1 (t0:=true) _ (XI.rng (XRg.r1P (XE.binP (XE.var (i:=1) rfl h1) XE.cint (qbB _ _ rfl)))) (fun _=>.inl rfl) ⟨_,_,_,_,rfl,h4,h5,h7⟩ ?_) ?_
   ·intro bf s23 ρ1 q8 hS h8;obtain⟨q4,q5,q7,_,rfl,h4,h5,h7⟩:=hS;change BL _ _ [q0,q1,q2,q3,q4,q5,q6,q7,q8] _ _;refine BL.cons (SN.asg (en:=(eT2 eI eI)) (fun q7=>[q0,q1,q2,q3,q4,q5,q6,q7,q8]) (XE.call2P rfl (XE.var (i:=4) rfl h4) (XE.var (i:=7) rfl h7) (qft s23.1 s23.2.2) rfl rfl) rfl fun _=>rfl) ?_;rintro aA _ ⟨q7,rfl,h7⟩;refine BL.cons (SN.par2 (fun q4 q5=>[q0,q1,q2,q3,q4,q5,q6,q7,q8]) (XE.var (i:=5) rfl h5) (XE.var (i:=4) rfl h4) rfl rfl (fun _ _=>rfl)) ?_;rintro p24 _ ⟨q4,q5,rfl,h4,h5⟩;exact BL.nil ⟨_,_,_,_,rfl,h4,h5,h7⟩
   rintro p27 _ ⟨q4,q5,q7,q8,rfl,h4,h5,h7⟩;refine BL.cons (SN.app (en:=eI) (fun q2=>[q0,q1,q2,q3,q4,q5,q6,q7,q8]) (XE.binR (XE.binP (XE.prtP (x:=p27.2.2) (t2:=true) (f:=fun p=>p.1) (en2:=eI) (XE.var (i:=7) rfl h7) (fun _ _=>rfl) (fun _=>.inl rfl)) (XE.var (i:=5) rfl h5) (qii _ _)) (XE.prtP (x:=p27.2.2) (t2:=true) (f:=fun p=>p.2) (en2:=eI) (XE.var (i:=7) rfl h7) (fun _ _=>rfl) (fun _=>.inl rfl)) (fun x=>qby x _)) rfl rfl h2 (fun _=>rfl)) ?_;rintro ai _ ⟨q2,rfl,h2⟩;exact BL.nil ⟨_,_,_,_,_,_,_,rfl,h2⟩
  rintro p32 _ ⟨q2,q3,q4,q5,q6,q7,q8,rfl,h2⟩;exact BR.ret (XE.varO (i:=2) rfl h2) rfl
 exact Rf.run rfl (key _ _ .non .non .non .non .non .non .non SlV.flat SlV.flat)
theorem qap (ah:Int × Int × Int) (aq:List Int) (au:Int) (am:Option (List Int)):Rf (g_moved_filling [(eT3 eI eI eI) ah,(eL eI) aq,eI au,(eO (eL eI)) am]) (F.moved_filling ah aq au am) (eL eI) .f true:=by
 have key:∀q0 q1 q2 q3 q4 q5 q6 q7:Sl,SlV true ((eT3 eI eI eI) ah) q0→SlV false ((eL eI) aq) q1→SlV true (eI au) q2→SlV false ((eO (eL eI)) am) q3→BR qaD qao [q0,q1,q2,q3,q4,q5,q6,q7] (F.moved_filling ah aq au am) (eL eI) .f true:=by
  intro q0 q1 q2 q3 q4 q5 q6 q7 h0 h1 h2 h3;unfold F.moved_filling qao;refine BR.cons (SN.asg (en:=(eL eI)) (fun q4=>[q0,q1,q2,q3,q4,q5,q6,q7]) (XE.binL (XE.lstL (en:=eI) (XLs.cons XE.cint rfl XLs.nil)) (XE.call2P rfl (XE.var (i:=0) rfl h0) (XE.var (i:=3) rfl h3) (qin ah am) rfl rfl) (fun y=>qcM (en:=eI) _ y)) rfl fun _=>rfl) ?_;rintro aX _ ⟨q4,rfl,h4⟩;refine BR.cons (SN.own (en:=eI) (fun q5=>[q0,q1,q2,q3,q4,q5,q6,q7]) ((XE.lc (t0:=true) (fun q6=>[q0,q1,q2,q3,q4,q5,q6,q7]) (XI.list (XE.var (i:=1) rfl h1) rfl) (fun _=>.inr inferInstance) (fun _=>rfl) (fun ab q6 h6=>XTs.nil) (fun ab q6 h6 _=>XE.cint) rfl).cast (qpU _ _)) fun _=>rfl) ?_;rintro ai _ ⟨q5,rfl,h5⟩;refine BR.cons (S:=(fun(st:List Int) ρ=>∃q5 q6 q7,ρ=[q0,q1,q2,q3,q4,q5,q6,q7]∧SlO true (List.map eI st) q5)) (SN.for2 (t0:=true) (t0':=true) _ (XI.zp (XE.var (i:=1) rfl h1) (XE.call2P rfl (XE.var (i:=0) rfl h0) (XE.var (i:=2) rfl h2) (qe1 ah au) rfl rfl)) (fun _=>.inr inferInstance) (fun _=>.inr inferInstance) ⟨_,_,_,rfl,h5⟩ ?_) ?_
  ·intro p9 s8 ρ1 q7 q6 hS h7 h6;obtain⟨q5,_,_,rfl,h5⟩:=hS;change BL _ _ [q0,q1,q2,q3,q4,q5,q6,q7] _ _;refine BL.cons (SN.putG (en:=eI) (fun q5=>[q0,q1,q2,q3,q4,q5,q6,q7]) (XE.idxFP (XE.var (i:=4) rfl h4) (XE.var (i:=7) rfl h7)) rfl rfl h5 (XE.var (i:=6) rfl h6) (fun _=>rfl)) ?_;rintro ai _ ⟨q5,rfl,h5⟩;exact BL.nil ⟨_,_,_,rfl,h5⟩
  rintro p12 _ ⟨q5,q6,q7,rfl,h5⟩;exact BR.ret (XE.varO (i:=5) rfl h5) rfl
 exact Rf.run rfl (key _ _ _ _ .non .non .non .non SlV.flat SlV.any SlV.flat SlV.any)
theorem qgI (aw:Int × Int × Int) (ab:Int) (au:Int):Rf (g__law_spot [(eT3 eI eI eI) aw,eI ab,eI au]) (qd0 aw ab au) eI .v true:=by
 have key:∀q0 q1 q2 q3 q4 q5 q6 q7 q8:Sl,SlV true ((eT3 eI eI eI) aw) q0→SlV true (eI ab) q1→SlV true (eI au) q2→BR qbT qbx [q0,q1,q2,q3,q4,q5,q6,q7,q8] (qd0 aw ab au) eI .v true:=by
  intro q0 q1 q2 q3 q4 q5 q6 q7 q8 h0 h1 h2;unfold qd0 qbx;refine BR.cons (SN.asg3 (t3:=true) (t4:=true) (t5:=true) (fun q3 q4 q5=>[q0,q1,q2,q3,q4,q5,q6,q7,q8]) (XE.var (i:=0) rfl h0) (fun _=>.inl rfl) (fun _=>.inl rfl) (fun _=>.inl rfl) (fun _ _ _=>rfl)) ?_;rintro p1 _ ⟨q3,q4,q5,rfl,h3,h4,h5⟩;refine BR.cons (SN.asg (en:=eI) (fun q6=>[q0,q1,q2,q3,q4,q5,q6,q7,q8]) (XE.binP (XE.var (i:=1) rfl h1) (XE.var (i:=4) rfl h4) (qlV _ _)) rfl fun _=>rfl) ?_;rintro bE _ ⟨q6,rfl,h6⟩;refine BR.cons (SN.asg (en:=eI) (fun q7=>[q0,q1,q2,q3,q4,q5,q6,q7,q8]) (XE.binP (XE.var (i:=1) rfl h1) (XE.var (i:=4) rfl h4) (qf2 _ _)) rfl fun _=>rfl) ?_;rintro ba _ ⟨q7,rfl,h7⟩;refine BR.cons (S:=(fun(st:Int) ρ=>∃q7,ρ=[q0,q1,q2,q3,q4,q5,q6,q7,q8]∧SlV true (eI st) q7)) (SN.iff (XT.val (XE.cmpP (XE.var (i:=2) rfl h2) XE.cint (qnK _ _))) ?_ ?_) ?_
  ·refine BN.cons (SN.asg (en:=eI) (fun q7=>[q0,q1,q2,q3,q4,q5,q6,q7,q8]) (XE.binP (XE.binP (XE.var (i:=4) rfl h4) XE.cint (qfe _ _)) (XE.var (i:=7) rfl h7) (qfe _ _)) rfl fun _=>rfl) ?_;rintro ba _ ⟨q7,rfl,h7⟩;exact BN.nil ⟨_,rfl,h7⟩
  ·exact BN.nil ⟨_,rfl,h7⟩
  rintro p3 _ ⟨q7,rfl,h7⟩;refine BR.cons (S:=(fun(st:Int × Int × Int × Int) ρ=>∃q3 q4 q6 q7 q8,ρ=[q0,q1,q2,q3,q4,q5,q6,q7,q8]∧SlV true (eI st.1) q3∧SlV true (eI st.2.1) q4∧SlV true (eI st.2.2.1) q6∧SlV true (eI st.2.2.2) q7)) (SN.for1 (t0:=true) _ (XI.rng (XRg.r1P (XE.binP (XE.var (i:=2) rfl h2) XE.cint (qbB _ _ rfl)))) (fun _=>.inl rfl) ⟨_,_,_,_,_,rfl,h3,h4,h6,h7⟩ ?_) ?_
  ·intro bf s10 ρ1 q8 hS h8;obtain⟨q3,q4,q6,q7,_,rfl,h3,h4,h6,h7⟩:=hS;change BL _ _ [q0,q1,q2,q3,q4,q5,q6,q7,q8] _ _;refine BL.cons (SN.par2 (fun q6 q7=>[q0,q1,q2,q3,q4,q5,q6,q7,q8]) (XE.var (i:=7) rfl h7) (XE.binP (XE.binP (XE.var (i:=3) rfl h3) XE.cint (qfe _ _)) (XE.var (i:=6) rfl h6) (qfe _ _)) rfl rfl (fun _ _=>rfl)) ?_;rintro p11 _ ⟨q6,q7,rfl,h6,h7⟩;refine BL.cons (SN.par2 (fun q3 q4=>[q0,q1,q2,q3,q4,q5,q6,q7,q8]) (XE.var (i:=4) rfl h4) (XE.var (i:=3) rfl h3) rfl rfl (fun _ _=>rfl)) ?_;rintro p12 _ ⟨q3,q4,rfl,h3,h4⟩;exact BL.nil ⟨_,_,_,_,_,rfl,h3,h4,h6,h7⟩
  rintro p17 _ ⟨q3,q4,q6,q7,q8,rfl,h3,h4,h6,h7⟩;exact BR.ret (XE.binR (XE.binP (XE.var (i:=6) rfl h6) (XE.var (i:=4) rfl h4) (qii _ _)) (XE.var (i:=7) rfl h7) (fun x=>qby x _)) rfl
 exact Rf.run rfl (key _ _ _ .non .non .non .non .non .non SlV.flat SlV.flat SlV.flat)
theorem qc5 (aw:Int × Int × Int) (aq:List Int) (au:Int) (am:List Int):Rf (g__law_due [(eT3 eI eI eI) aw,(eL eI) aq,eI au,(eL eI) am]) (qge aw aq au am) (eL eI) .f true:=by
 have key:∀q0 q1 q2 q3 q4 q5 q6:Sl,SlV true ((eT3 eI eI eI) aw) q0→SlV false ((eL eI) aq) q1→SlV true (eI au) q2→SlV false ((eL eI) am) q3→BR qcn qbO [q0,q1,q2,q3,q4,q5,q6] (qge aw aq au am) (eL eI) .f true:=by
  intro q0 q1 q2 q3 q4 q5 q6 h0 h1 h2 h3;unfold qge qbO;refine BR.cons (SN.own (en:=eI) (fun q4=>[q0,q1,q2,q3,q4,q5,q6]) (XE.pri1P (XE.var (i:=1) rfl h1) (qcx _)) fun _=>rfl) ?_;rintro aD _ ⟨q4,rfl,h4⟩;refine BR.cons (S:=(fun(st:List Int) ρ=>∃q4 q5 q6,ρ=[q0,q1,q2,q3,q4,q5,q6]∧SlO true (List.map eI st) q4)) (SN.for2 (t0:=true) (t0':=true) _ (XI.enumP (XE.var (i:=1) rfl h1)) (fun _=>.inr inferInstance) (fun _=>.inr inferInstance) ⟨_,_,_,rfl,h4⟩ ?_) ?_
  ·intro p6 s5 ρ1 q5 q6 hS h5 h6;obtain⟨q4,_,_,rfl,h4⟩:=hS;change BL _ _ [q0,q1,q2,q3,q4,q5,q6] _ _;refine BL.cons (SN.putG (en:=eI) (fun q4=>[q0,q1,q2,q3,q4,q5,q6]) (XE.idxF (XE.binP (XE.lstL (en:=eI) (XLs.cons XE.cint rfl XLs.nil)) (XE.var (i:=3) rfl h3) (qcM (en:=eI) _ _)) (XE.var (i:=6) rfl h6)) rfl rfl h4 (XE.call3P rfl (XE.var (i:=0) rfl h0) (XE.var (i:=5) rfl h5) (XE.var (i:=2) rfl h2) (qgI aw p6.1 au) rfl rfl) (fun _=>rfl)) ?_;rintro aD _ ⟨q4,rfl,h4⟩;exact BL.nil ⟨_,_,_,rfl,h4⟩
  rintro p11 _ ⟨q4,q5,q6,rfl,h4⟩;exact BR.ret (XE.varO (i:=4) rfl h4) rfl
 exact Rf.run rfl (key _ _ _ _ .non .non .non SlV.flat SlV.any SlV.flat SlV.any)
theorem qgz (ai:Int):Rf (g__law_whole [eI ai]) (qej ai) eB .v true:=by
 have key:∀q0:Sl,SlV true (eI ai) q0→BR qbE qbb [q0] (qej ai) eB .v true:=by
  intro q0 h0;unfold qej qbb;exact BR.ret (XE.bop (XV.andP (XE.isiP (f:=fun _=>true) (XE.var (i:=0) rfl h0) (fun _=>rfl)) (XV.one (XE.bnotP (XE.isiP (f:=fun _=>false) (XE.var (i:=0) rfl h0) (fun _=>rfl)))))) rfl
 exact Rf.run rfl (key _  SlV.flat)
theorem qbN (ai:List Int) (aD:List Int):Rf (g__law_are [(eL eI) ai,(eL eI) aD]) (qc8 ai aD) eB .v true:=by
 have key:∀q0 q1 q2:Sl,SlV false ((eL eI) ai) q0→SlV false ((eL eI) aD) q1→BR qci qbM [q0,q1,q2] (qc8 ai aD) eB .v true:=by
  intro q0 q1 q2 h0 h1;unfold qc8 qbM;refine BR.ifR (XT.bop (XTs.orP (XT.notP (XT.val (XE.isiP (f:=fun _=>true) (XE.var (i:=0) rfl h0) (fun _=>rfl)))) (XTs.one (XT.val (XE.cmpP (XE.var (i:=0) rfl h0) (XE.var (i:=1) rfl h1) (qmH _ _)))))) ?_ ?_
  ·exact BR.ret XE.cbl rfl
  exact BR.ret (XE.cmpR (XE.pri1 (XE.lc (t0:=true) (fun q2=>[q0,q1,q2]) (XI.list (XE.var (i:=0) rfl h0) rfl) (fun _=>.inr inferInstance) (fun _=>rfl) (fun aj q2 h2=>(XTs.one (XT.val (XE.call1P rfl (XE.var (i:=2) rfl h2) (qgz aj) rfl rfl)))) (fun aj q2 h2 _=>(XE.var (i:=2) rfl h2)) rfl) (fun x=>qfz x)) (XE.pri1P (XE.var (i:=1) rfl h1) (qfz _)) (fun x=>qil x _)) rfl
 exact Rf.run rfl (key _ _ .non SlV.any SlV.any)
theorem qe3 (ah:Int × Int × Int) (au:Int):Rf (g_moved_floor [(eT3 eI eI eI) ah,eI au]) (F.moved_floor ah au) (eT3 eI eI eI) .v true:=by
 have key:∀q0 q1 q2 q3 q4:Sl,SlV true ((eT3 eI eI eI) ah) q0→SlV true (eI au) q1→BR qbo qaU [q0,q1,q2,q3,q4] (F.moved_floor ah au) (eT3 eI eI eI) .v true:=by
  intro q0 q1 q2 q3 q4 h0 h1;unfold F.moved_floor qaU;refine BR.cons (SN.expr (XE.call1P rfl (XE.var (i:=1) rfl h1) (qcv au) rfl rfl)) ?_;rintro _ _ rfl;refine BR.cons (SN.asg3 (t3:=true) (t4:=true) (t5:=true) (fun q2 q3 q4=>[q0,q1,q2,q3,q4]) (XE.var (i:=0) rfl h0) (fun _=>.inl rfl) (fun _=>.inl rfl) (fun _=>.inl rfl) (fun _ _ _=>rfl)) ?_;rintro p1 _ ⟨q2,q3,q4,rfl,h2,h3,h4⟩;refine BR.ifR (XT.val (XE.cmpP (XE.binP (XE.var (i:=1) rfl h1) XE.cint (qbB _ _ rfl)) XE.cint (qil _ _))) ?_ ?_
  ·exact BR.ret (XE.tup3P (XE.var (i:=3) rfl h3) (XE.var (i:=2) rfl h2) (XE.var (i:=4) rfl h4) rfl) rfl
  exact BR.ret (XE.tup3P (XE.var (i:=2) rfl h2) (XE.var (i:=3) rfl h3) (XE.var (i:=4) rfl h4) rfl) rfl
 exact Rf.run rfl (key _ _ .non .non .non SlV.flat SlV.flat)
theorem qdT (am:List Int) (ab:Int):Rf (g__law_bad_list [(eL eI) am,eI ab]) (qbr am ab) (eL eI) .f false:=by
 have key:∀q0 q1 q2:Sl,SlV false ((eL eI) am) q0→SlV true (eI ab) q1→BR qa1 qaB [q0,q1,q2] (qbr am ab) (eL eI) .f false:=by
  intro q0 q1 q2 h0 h1;unfold qbr qaB;refine BR.cons (SN.asg (en:=eI) (fun q2=>[q0,q1,q2]) (XE.binP (XE.binP (XE.var (i:=1) rfl h1) XE.cint (qmK _ _ rfl)) (XE.pri1P (XE.var (i:=0) rfl h0) (qfz _)) (qf2 _ _)) rfl fun _=>rfl) ?_;rintro aO _ ⟨q2,rfl,h2⟩;refine BR.ifR (XT.val (XE.cmpP (XE.binP (XE.var (i:=1) rfl h1) XE.cint (qbB _ _ rfl)) XE.cint (qil _ _))) ?_ ?_
  ·exact BR.ret (XE.slcP (XE.var (i:=0) rfl h0) (XO.oneP XE.cint) XO.nil) rfl
  refine BR.ifR (XT.val (XE.cmpP (XE.binP (XE.var (i:=1) rfl h1) XE.cint (qbB _ _ rfl)) XE.cint (qil _ _))) ?_ ?_
  ·exact BR.ret (XE.binL (XE.var (i:=0) rfl h0) (XE.cast (m':=(atE am aO).bind fun x3=>RE.ok [x3]) (XE.lstS (F:=fun w=>[w.1]) (en:=eI) (XS.cons (XE.idxFP (XE.var (i:=0) rfl h0) (XE.var (i:=2) rfl h2)) XS.nil) (fun _=>rfl) rfl) (by simp only[RE.bind_assoc,RE.bind_ok])) (fun y=>qcM (en:=eI) _ y)) rfl
  refine BR.ifR (XT.bop (XTs.andP (XT.val (XE.cmpP (XE.binP (XE.var (i:=1) rfl h1) XE.cint (qbB _ _ rfl)) XE.cint (qil _ _))) (XTs.one (XT.val (XE.cmpP (XE.pri1P (XE.var (i:=0) rfl h0) (qfz _)) XE.cint (qnK _ _)))))) ?_ ?_
  ·exact BR.ret (XE.binR (XE.binL (XE.slcP (XE.var (i:=0) rfl h0) XO.nil (XO.oneP (XE.var (i:=2) rfl h2))) (XE.cast (m':=(atE am (aO - 1)).bind fun x7=>RE.ok [x7]) (XE.lstS (F:=fun w=>[w.1]) (en:=eI) (XS.cons (XE.idxFP (XE.var (i:=0) rfl h0) (XE.binP (XE.var (i:=2) rfl h2) XE.cint (qfe _ _))) XS.nil) (fun _=>rfl) rfl) (by simp only[RE.bind_assoc,RE.bind_ok])) (fun y=>qcM (en:=eI) _ y)) (XE.slcP (XE.var (i:=0) rfl h0) (XO.oneP (XE.binP (XE.var (i:=2) rfl h2) XE.cint (qby _ _))) XO.nil) (fun x=>qcM (en:=eI) x _)) rfl
  refine BR.ifR (XT.val (XE.cmpP (XE.binP (XE.var (i:=1) rfl h1) XE.cint (qbB _ _ rfl)) XE.cint (qil _ _))) ?_ ?_
  ·exact BR.ret (XE.binR (XE.binP (XE.slcP (XE.var (i:=0) rfl h0) XO.nil (XO.oneP (XE.var (i:=2) rfl h2))) (XE.lstL (en:=eI) (XLs.cons XE.cint rfl XLs.nil)) (qcM (en:=eI) _ _)) (XE.slcP (XE.var (i:=0) rfl h0) (XO.oneP (XE.binP (XE.var (i:=2) rfl h2) XE.cint (qby _ _))) XO.nil) (fun x=>qcM (en:=eI) x _)) rfl
  exact BR.ret (XE.binR (XE.binL (XE.slcP (XE.var (i:=0) rfl h0) XO.nil (XO.oneP (XE.var (i:=2) rfl h2))) (XE.cast (m':=(((qoZ 10 9).bind fun x16=>qgF (Int.fdiv ab 64) x16).bind fun x18=>RE.ok (((List.length am:Int)+1)+x18)).bind fun x19=>RE.ok [x19]) (XE.lstS (F:=fun w=>[w.1]) (en:=eI) (XS.cons (XE.binL (XE.binP (XE.pri1P (XE.var (i:=0) rfl h0) (qfz _)) XE.cint (qby _ _)) (XE.binL (XE.binP (XE.var (i:=1) rfl h1) XE.cint (qmK _ _ rfl)) (XE.binP XE.cint XE.cint (qp9 _ _)) (fun y=>qf2 _ y)) (fun y=>qby _ y)) XS.nil) (fun _=>rfl) rfl) (by simp only[RE.bind_assoc,RE.bind_ok])) (fun y=>qcM (en:=eI) _ y)) (XE.slcP (XE.var (i:=0) rfl h0) (XO.oneP (XE.binP (XE.var (i:=2) rfl h2) XE.cint (qby _ _))) XO.nil) (fun x=>qcM (en:=eI) x _)) rfl
 exact Rf.run rfl (key _ _ .non SlV.any SlV.flat)
theorem qbI (aw:Int × Int × Int) (aq:List Int) (au:Int) (am:Option (List Int)):Rf (g__law_refused [(eT3 eI eI eI) aw,(eL eI) aq,eI au,(eO (eL eI)) am]) (qaK aw aq au am) eB .v true:=by
 have key:∀q0 q1 q2 q3 q4 q5 q6:Sl,SlV true ((eT3 eI eI eI) aw) q0→SlV false ((eL eI) aq) q1→SlV true (eI au) q2→SlV false ((eO (eL eI)) am) q3→BR qa5 qaL [q0,q1,q2,q3,q4,q5,q6] (qaK aw aq au am) eB .v true:=by
  intro q0 q1 q2 q3 q4 q5 q6 h0 h1 h2 h3;unfold qaK qaL;refine BR.cons (SN.asg (en:=eU) (fun q4=>[q0,q1,q2,q3,q4,q5,q6]) XE.cnon rfl fun _=>rfl) ?_;rintro bK _ ⟨q4,rfl,h4⟩;refine BR.cons (SN.tryE (T:=qdr) (t:=true) (qi:=.non) (XE.call4P rfl (XE.var (i:=0) rfl h0) (XE.var (i:=1) rfl h1) (XE.var (i:=2) rfl h2) (XE.var (i:=3) rfl h3) (qap aw aq au am) rfl rfl) rfl rfl rfl (SlV.coe (f:=fun _=>none) h4 (fun _=>rfl)) (fun q4 q5=>[q0,q1,q2,q3,q4,q5,q6]) (fun _ _=>rfl) (fun r h=>by cases h;rfl) (by simp)) ?_;rintro p1 _ ⟨q4,q5,rfl,h4⟩;refine BR.cons (SN.asg (en:=(eL eB)) (fun q6=>[q0,q1,q2,q3,q4,q5,q6]) (XE.cast (m':=(ql0 qb3 p1).bind fun x2=>(ql0 qcz p1).bind fun x3=>(ql0 qdi p1).bind fun x4=>RE.ok [x2,x3,x4]) (XE.lstS (F:=fun w=>[w.1,w.2.1,w.2.2.1]) (en:=eB) (XS.cons (XE.isc (T:=qb3) (XE.var (i:=4) rfl h4) rfl) (XS.cons (XE.isc (T:=qcz) (XE.var (i:=4) rfl h4) rfl) (XS.cons (XE.isc (T:=qdi) (XE.var (i:=4) rfl h4) rfl) XS.nil))) (fun _=>rfl) rfl) (by simp only[RE.bind_assoc,RE.bind_ok])) rfl fun _=>rfl) ?_;rintro aH _ ⟨q6,rfl,h6⟩;exact BR.ret (XE.bop (XV.and (XE.isc (T:=qfY) (XE.var (i:=4) rfl h4) rfl) (XV.and (XE.isc (T:=qcI) (XE.var (i:=4) rfl h4) rfl) (XV.one (XE.bnotP (XE.pri1P (XE.var (i:=6) rfl h6) (qry _))))))) rfl
 exact Rf.run rfl (key _ _ _ _ .non .non .non SlV.flat SlV.any SlV.flat SlV.any)
theorem qrh (ax:List Int):Rf (g_law [(eL eI) ax]) (qjh ax) eB .v true:=by
 have key:∀q0 q1 q2 q3 q4 q5 q6 q7 q8 q9 q10 q11 q12 q13 q14:Sl,SlV false ((eL eI) ax) q0→BR qlP qkk [q0,q1,q2,q3,q4,q5,q6,q7,q8,q9,q10,q11,q12,q13,q14] (qjh ax) eB .v true:=by
  intro q0 q1 q2 q3 q4 q5 q6 q7 q8 q9 q10 q11 q12 q13 q14 h0;unfold qjh qkk;refine BR.cons (SN.asg (en:=(eT3 eI eI eI)) (fun q1=>[q0,q1,q2,q3,q4,q5,q6,q7,q8,q9,q10,q11,q12,q13,q14]) (XE.call1P rfl (XE.var (i:=0) rfl h0) (qf6 ax) rfl rfl) rfl fun _=>rfl) ?_;rintro aw _ ⟨q1,rfl,h1⟩;refine BR.cons (SN.asg (en:=(eL eI)) (fun q2=>[q0,q1,q2,q3,q4,q5,q6,q7,q8,q9,q10,q11,q12,q13,q14]) (XE.lc (t0:=true) (fun q3=>[q0,q1,q2,q3,q4,q5,q6,q7,q8,q9,q10,q11,q12,q13,q14]) (XI.rng (XRg.r1 (XE.binP (XE.prtP (x:=aw) (t2:=true) (f:=fun p=>p.1) (en2:=eI) (XE.var (i:=1) rfl h1) (fun _ _=>rfl) (fun _=>.inl rfl)) (XE.prtP (x:=aw) (t2:=true) (f:=fun p=>p.2.1) (en2:=eI) (XE.var (i:=1) rfl h1) (fun _ _=>rfl) (fun _=>.inl rfl)) (qii _ _)))) (fun _=>.inl rfl) (fun _=>rfl) (fun a8 q3 h3=>XTs.nil) (fun a8 q3 h3 _=>(XE.binR (XE.call2P rfl (XE.var (i:=0) rfl h0) (XE.binP XE.cint (XE.var (i:=3) rfl h3) (qby _ _)) (qbd ax (7+a8)) rfl rfl) (XE.binP (XE.prtP (x:=aw) (t2:=true) (f:=fun p=>p.2.2) (en2:=eI) (XE.var (i:=1) rfl h1) (fun _ _=>rfl) (fun _=>.inl rfl)) XE.cint (qby _ _)) (fun x=>qf2 x _))) rfl) rfl fun _=>rfl) ?_;rintro aq _ ⟨q2,rfl,h2⟩;refine BR.cons (SN.asg (en:=eI) (fun q4=>[q0,q1,q2,q3,q4,q5,q6,q7,q8,q9,q10,q11,q12,q13,q14]) (XE.binR (XE.call2P rfl (XE.var (i:=0) rfl h0) XE.cint (qbd ax 3) rfl rfl) XE.cint (fun x=>qbB x _ rfl)) rfl fun _=>rfl) ?_;rintro au _ ⟨q4,rfl,h4⟩;refine BR.cons (SN.asg (en:=eI) (fun q5=>[q0,q1,q2,q3,q4,q5,q6,q7,q8,q9,q10,q11,q12,q13,q14]) (XE.idxFP (XE.lstL (en:=eI) (XLs.cons XE.cint rfl (XLs.cons XE.cint rfl (XLs.cons XE.cint rfl (XLs.cons XE.cint rfl (XLs.cons XE.cint rfl (XLs.cons XE.cint rfl (XLs.cons XE.cint rfl (XLs.cons XE.cint rfl XLs.nil))))))))) (XE.var (i:=4) rfl h4)) rfl fun _=>rfl) ?_;rintro bx _ ⟨q5,rfl,h5⟩;refine BR.cons (SN.asg (en:=(eL eI)) (fun q6=>[q0,q1,q2,q3,q4,q5,q6,q7,q8,q9,q10,q11,q12,q13,q14]) (XE.lrng (XRg.r2P XE.cint (XE.binP (XE.prtP (x:=aw) (t2:=true) (f:=fun p=>p.2.2) (en2:=eI) (XE.var (i:=1) rfl h1) (fun _ _=>rfl) (fun _=>.inl rfl)) XE.cint (qby _ _)))) rfl fun _=>rfl) ?_;rintro bc _ ⟨q6,rfl,h6⟩;refine BR.cons (SN.asg (en:=(eL eI)) (fun q7=>[q0,q1,q2,q3,q4,q5,q6,q7,q8,q9,q10,q11,q12,q13,q14]) (XE.call2 rfl (XE.call2P rfl (XE.var (i:=0) rfl h0) XE.cint (qbd ax 4) rfl rfl) (XE.prtP (x:=aw) (t2:=true) (f:=fun p=>p.2.2) (en2:=eI) (XE.var (i:=1) rfl h1) (fun _ _=>rfl) (fun _=>.inl rfl)) (fun x0 x1=>qeh x0 x1) rfl rfl) rfl fun _=>rfl) ?_;rintro am _ ⟨q7,rfl,h7⟩;refine BR.ifR (XT.not (XT.val (XE.call2 rfl (XE.call3P rfl (XE.var (i:=1) rfl h1) (XE.pri1P (XE.var (i:=2) rfl h2) (qcx _)) (XE.var (i:=4) rfl h4) (qap aw aq au (none:Option (List Int))) rfl rfl) (XE.call4P rfl (XE.var (i:=1) rfl h1) (XE.var (i:=2) rfl h2) (XE.var (i:=4) rfl h4) (XE.var (i:=6) rfl h6) (qc5 aw aq au bc) rfl rfl) (fun x0 x1=>qbN x0 x1) rfl rfl))) ?_ ?_
  ·exact BR.ret XE.cbl rfl
  refine BR.ifR (XT.not (XT.val (XE.call2 rfl (XE.call4P rfl (XE.var (i:=1) rfl h1) (XE.pri1P (XE.var (i:=2) rfl h2) (qcx _)) (XE.var (i:=4) rfl h4) (XE.coe (x:=()) (f:=fun _=>none) (en2:=(eO (eL eI))) XE.cnon (fun _=>rfl)) (qap aw aq au (none:Option (List Int))) rfl rfl) (XE.call4P rfl (XE.var (i:=1) rfl h1) (XE.var (i:=2) rfl h2) (XE.var (i:=4) rfl h4) (XE.var (i:=6) rfl h6) (qc5 aw aq au bc) rfl rfl) (fun x0 x1=>qbN x0 x1) rfl rfl))) ?_ ?_
  ·exact BR.ret XE.cbl rfl
  refine BR.cons (SN.asg (en:=(eL eI)) (fun q8=>[q0,q1,q2,q3,q4,q5,q6,q7,q8,q9,q10,q11,q12,q13,q14]) (XE.call4P rfl (XE.var (i:=1) rfl h1) (XE.var (i:=2) rfl h2) (XE.var (i:=4) rfl h4) (XE.var (i:=7) rfl h7) (qc5 aw aq au am) rfl rfl) rfl fun _=>rfl) ?_;rintro aD _ ⟨q8,rfl,h8⟩;refine BR.cons (SN.row (en:=eI) (fun q9=>[q0,q1,q2,q3,q4,q5,q6,q7,q8,q9,q10,q11,q12,q13,q14]) (XEF.cons (XE.pri1P (XE.var (i:=2) rfl h2) (qcx _)) (fun _=>rfl) (XEF.cons (XE.pri1P (XE.var (i:=7) rfl h7) (qcx _)) (fun _=>rfl) XEF.nil)) fun _=>rfl) ?_;rintro aP _ ⟨q9,rfl,h9⟩;refine BR.cons (SN.own (en:=eI) (fun q10=>[q0,q1,q2,q3,q4,q5,q6,q7,q8,q9,q10,q11,q12,q13,q14]) (XE.pkF (XE.call4 rfl (XE.var (i:=1) rfl h1.pk) (XE.idxP (XE.var (i:=9) rfl h9.pk) XE.cint) (XE.var (i:=4) rfl h4.pk) (XE.coeG (f:=some) (en2:=(eO (eL eI))) (XE.idxP (XE.var (i:=9) rfl h9.pk) XE.cint) (fun _=>rfl)) (fun x0 x1 x2 x3=>qap x0 x1 x2 x3) rfl rfl) fun _=>rfl) fun _=>rfl) ?_;rintro ai _ ⟨q10,rfl,h10⟩;refine BR.ifR (XT.bop (XTs.or (XT.not (XT.val (XE.call2Pb rfl (XE.varO (i:=10) rfl h10) (XE.var (i:=8) rfl h8) (qbN ai aD) rfl rfl qpB))) (XTs.one (XT.val (XE.pkV (XE.cmpP (XE.var (i:=9) rfl h9.pk) (XE.lstL (en:=(eL eI)) (XLs.cons (XE.var (i:=2) rfl h2.pk) rfl (XLs.cons (XE.var (i:=7) rfl h7.pk) rfl XLs.nil))) ((qq7 .ne ((eL (eL eI))) ((eL (eL eI)))) _ _)) fun _=>rfl))))) ?_ ?_
  ·exact BR.ret XE.cbl rfl
  refine BR.cons (SN.asg (en:=(eT3 eI eI eI)) (fun q11=>[q0,q1,q2,q3,q4,q5,q6,q7,q8,q9,q10,q11,q12,q13,q14]) (XE.call2P rfl (XE.var (i:=1) rfl h1) (XE.var (i:=4) rfl h4) (qe3 aw au) rfl rfl) rfl fun _=>rfl) ?_;rintro aY _ ⟨q11,rfl,h11⟩;refine BR.cons (SN.asg (en:=(eL eI)) (fun q12=>[q0,q1,q2,q3,q4,q5,q6,q7,q8,q9,q10,q11,q12,q13,q14]) (XE.lc (t0:=true) (fun q13=>[q0,q1,q2,q3,q4,q5,q6,q7,q8,q9,q10,q11,q12,q13,q14]) (XI.list (XE.var (i:=6) rfl h6) rfl) (fun _=>.inl rfl) (fun _=>rfl) (fun aj q13 h13=>XTs.nil) (fun aj q13 h13 _=>(XE.binR (XE.inxIP (XE.var (i:=7) rfl h7) (XE.var (i:=13) rfl h13)) XE.cint (fun x=>qby x _))) rfl) rfl fun _=>rfl) ?_;rintro bm _ ⟨q12,rfl,h12⟩;refine BR.ifR (XT.not (XT.val (XE.call2 rfl (XE.call4Pb rfl (XE.var (i:=11) rfl h11) (XE.varO (i:=10) rfl h10) (XE.var (i:=5) rfl h5) (XE.coe (x:=bm) (f:=some) (en2:=(eO (eL eI))) (XE.var (i:=12) rfl h12) (fun _=>rfl)) (qap aY ai bx (some bm)) rfl rfl qpB) (XE.var (i:=2) rfl h2) (fun x0 x1=>qbN x0 x1) rfl rfl))) ?_ ?_
  ·exact BR.ret XE.cbl rfl
  refine BR.ifR (XT.not (XT.val (XE.pkV (XE.call4 rfl (XE.var (i:=1) rfl h1.pk) (XE.idxP (XE.var (i:=9) rfl h9.pk) XE.cint) (XE.var (i:=4) rfl h4.pk) (XE.coeG (f:=some) (en2:=(eO (eL eI))) (XE.call2 rfl (XE.var (i:=7) rfl h7.pk) (XE.call2P rfl (XE.var (i:=0) rfl h0.pk) XE.cint (qbd ax 5) rfl rfl) (fun x0 x1=>qdT x0 x1) rfl rfl) (fun _=>rfl)) (fun x0 x1 x2 x3=>qbI x0 x1 x2 x3) rfl rfl) fun _=>rfl))) ?_ ?_
  ·exact BR.ret XE.cbl rfl
  refine BR.cons (SN.asg (en:=eI) (fun q14=>[q0,q1,q2,q3,q4,q5,q6,q7,q8,q9,q10,q11,q12,q13,q14]) (XE.idxF (XE.cast (m':=(RE.ok (-1)).bind fun x49=>(RE.ok 8).bind fun x50=>(RE.ok (-9)).bind fun x51=>((qoZ 10 20).bind fun x47=>RE.ok (x47+au)).bind fun x52=>RE.ok [x49,x50,x51,x52]) (XE.lstS (F:=fun w=>[w.1,w.2.1,w.2.2.1,w.2.2.2.1]) (en:=eI) (XS.cons (XE.negP XE.cint) (XS.cons XE.cint (XS.cons (XE.negP XE.cint) (XS.cons (XE.binR (XE.binP XE.cint XE.cint (qp9 _ _)) (XE.var (i:=4) rfl h4) (fun x=>qby x _)) XS.nil)))) (fun _=>rfl) rfl) (by simp only[RE.bind_assoc,RE.bind_ok])) (XE.binR (XE.call2P rfl (XE.var (i:=0) rfl h0) XE.cint (qbd ax 6) rfl rfl) XE.cint (fun x=>qbB x _ rfl))) rfl fun _=>rfl) ?_;rintro bz _ ⟨q14,rfl,h14⟩;refine BR.ifR (XT.bop (XTs.or (XT.not (XT.val (XE.pkV (XE.call4 rfl (XE.var (i:=1) rfl h1.pk) (XE.idxP (XE.var (i:=9) rfl h9.pk) XE.cint) (XE.var (i:=14) rfl h14.pk) (XE.coe (x:=()) (f:=fun _=>none) (en2:=(eO (eL eI))) XE.cnon (fun _=>rfl)) (fun x0 x1 x2 x3=>qbI x0 x1 x2 x3) rfl rfl) fun _=>rfl))) (XTs.one (XT.not (XT.val (XE.pkV (XE.call4 rfl (XE.var (i:=1) rfl h1.pk) (XE.idxP (XE.var (i:=9) rfl h9.pk) XE.cint) (XE.var (i:=14) rfl h14.pk) (XE.coe (x:=am) (f:=some) (en2:=(eO (eL eI))) (XE.var (i:=7) rfl h7.pk) (fun _=>rfl)) (fun x0 x1 x2 x3=>qbI x0 x1 x2 x3) rfl rfl) fun _=>rfl)))))) ?_ ?_
  ·exact BR.ret XE.cbl rfl
  refine BR.cons (SN.clr (en:=eI) (fun q10=>[q0,q1,q2,q3,q4,q5,q6,q7,q8,q9,q10,q11,q12,q13,q14]) rfl h10 (fun _=>rfl)) ?_;rintro ai _ ⟨q10,rfl,h10⟩;refine BR.cons (SN.rclr (en:=eI) (fun q9=>[q0,q1,q2,q3,q4,q5,q6,q7,q8,q9,q10,q11,q12,q13,q14]) rfl h9 (fun _=>rfl)) ?_;rintro aP _ ⟨q9,rfl,h9⟩;exact BR.ret (XE.pkV (XE.call2 rfl (XE.call4 rfl (XE.var (i:=1) rfl h1.pk) (XE.idxP (XE.var (i:=9) rfl h9.pk) XE.cint) (XE.var (i:=4) rfl h4.pk) (XE.coe (x:=am) (f:=some) (en2:=(eO (eL eI))) (XE.pri1P (XE.var (i:=7) rfl h7.pk) (qcx _)) (fun _=>rfl)) (fun x0 x1 x2 x3=>qap x0 x1 x2 x3) rfl rfl) (XE.var (i:=8) rfl h8.pk) (fun x0 x1=>qbN x0 x1) rfl rfl) fun _=>rfl) rfl
 exact Rf.run rfl (key _ .non .non .non .non .non .non .non .non .non .non .non .non .non .non SlV.any)
end K66
namespace K66
open Cm
def cv (ns:List Int) (k:Int):Int:=match qgH ns k with
 |.ok v=>v
 |_=>0
theorem qgh (ns:List Int) {k:Int} (h0:0≤k) (h1:k≤1000):qgH ns k=.ok (cv ns k):=by
 suffices h:W (qgH ns k) fun _=>True by
  obtain⟨v,e,_⟩:=h
  have:cv ns k=v:=by unfold cv;rw[e]
  rw[this];exact e
 unfold qgH
 simp only[RE.bind_ok,qfX]
 by_cases e:k<(ns.length:Int)
 ·rw[if_pos e,qie h0 e];exact W.ok trivial
 ·rw[if_neg e]
  refine W.bind (P:=fun p:Int=>0≤p∧p≤2000000000) ?_ fun p hp=>?_
  ·by_cases q:(0:Int)<(ns.length:Int)
   ·rw[if_pos q,qb9 (by omega)]
    have b:=qb0 k q
    simp only[RE.bind_ok]
    rw[qie b.1 b.2]
    simp only[RE.bind_ok]
    have b2:=qb0 (gI ns (k.fmod (ns.length:Int))) (n:=1000003) (by decide)
    generalize (gI ns (k.fmod (ns.length:Int))).fmod 1000003=z at b2
    rw[qeK (by omega)]
    simp only[RE.bind_ok]
    have m0:0≤z*(k+1):=Int.mul_nonneg b2.1 (by omega)
    have m1:z*(k+1)≤1000003*1001:=Int.mul_le_mul (by omega) (by omega) (by omega) (by decide)
    exact W.ok ⟨by omega,by omega⟩
   ·rw[if_neg q]
    exact W.ok ⟨by omega,by omega⟩
  ·rw[qeK (by omega)]
   exact W.ok trivial
theorem qqp {α:Type} {xs:List α} {m:Int} (h:0≤m):qcq xs none (some m)=xs.take m.toNat:=by
 have h1:HT.sIx xs.length 0 none=0:=by simp[HT.sIx]
 have h2:HT.sIx xs.length xs.length (some m)=min m.toNat xs.length:=by
  have:=HT.sIx_nat xs.length xs.length m.toNat
  rwa [show((m.toNat:Nat):Int)=m by omega] at this
 unfold qcq
 rw[h1,h2,List.drop_zero,Nat.sub_zero]
 rcases Nat.le_total m.toNat xs.length with q | q
 ·rw[Nat.min_eq_left q]
 ·rw[Nat.min_eq_right q,List.take_length,List.take_of_length_le q]
theorem qlc (ns:List Int):∃fl,qc1 ns=.ok fl∧FOk fl:=by
 unfold qc1
 simp only[RE.bind_ok,qgh ns (k:=0) (by decide) (by decide),qgh ns (k:=1) (by decide) (by decide),qgh ns (k:=2) (by decide) (by decide)]
 have b1:=qb0 (cv ns 0) (n:=6) (by decide)
 have b2:=qb0 (cv ns 2) (n:=6) (by decide)
 generalize (cv ns 0).fmod 6=i at b1
 generalize (cv ns 2).fmod 6=j at b2
 generalize cv ns 1=z
 have:i=0∨i=1∨i=2∨i=3∨i=4∨i=5:=by omega
 have go:∀(h m:Int),1≤h→h≤6→1≤m→m≤6→h*m≤16→qks 16 h=.ok (Int.fdiv 16 h)→(if (Int.fdiv 16 h)<6 then (Int.fdiv 16 h) else 6)=m→∃fl,((((qks 16 h).bind fun x6=>RE.ok (if x6<6 then x6 else 6)).bind fun x8=>qgF z x8).bind fun x10=>RE.ok (1+x10)).bind (fun aQ=>RE.ok (h,aQ,1+j))=.ok fl∧FOk fl:=fun h m h1 h6 m1 m6 hm e1 e2=>by
  rw[e1]
  simp only[RE.bind_ok]
  rw[e2,qb9 (by omega)]
  have b:=qb0 z (n:=m) (by omega)
  refine⟨_,rfl,h1,h6,by show 1≤1+z.fmod m;omega,by show 1+z.fmod m≤6;omega,?_,by show 1≤1+j;omega,by show 1+j≤6;omega⟩
  show h*(1+z.fmod m)≤16
  exact Int.le_trans (Int.mul_le_mul_of_nonneg_left (by omega) (by omega)) hm
 rcases this with e | e | e | e | e | e<;>subst e
 ·exact go 1 6 (by decide) (by decide) (by decide) (by decide) (by decide) rfl rfl
 ·exact go 2 6 (by decide) (by decide) (by decide) (by decide) (by decide) rfl rfl
 ·exact go 3 5 (by decide) (by decide) (by decide) (by decide) (by decide) rfl rfl
 ·exact go 4 4 (by decide) (by decide) (by decide) (by decide) (by decide) rfl rfl
 ·exact go 5 3 (by decide) (by decide) (by decide) (by decide) (by decide) rfl rfl
 ·exact go 6 2 (by decide) (by decide) (by decide) (by decide) (by decide) rfl rfl
theorem qng (z:Int) {fl:Int × Int × Int} (hf:FOk fl):∃sg,qa3 z fl.2.2=.ok sg∧qeo fl sg:=by
 have s1:=hf.s1
 have s2:=hf.s2
 suffices h:W (qa3 z fl.2.2) fun sg=>qeo fl sg by
  obtain⟨v,e,h⟩:=h;exact⟨v,e,h⟩
 unfold qa3
 rw[qfo (by omega),qdx (by omega) (by omega)]
 simp only[RE.bind_ok]
 refine W.bind (P:=fun s:List Int × List Int=>s.2.Perm (qam 1 (fl.2.2+1))) ?_ fun s h=>W.ok h
 have fl0:(qam 1 (fl.2.2+1)).length=fl.2.2.toNat:=by rw[qbK];omega
 refine W.mono (qfb (fun i s=>s.2.length=i∧(s.2++s.1).Perm (qam 1 (fl.2.2+1))) ⟨rfl,by simp⟩ fun i x s hx ⟨hl,hp⟩=>?_) fun s ⟨hl,hp⟩=>?_
 ·obtain⟨rfl,hi⟩:=qhy hx
  have:=hp.length_eq
  rw[List.length_append,fl0] at this
  rw[qhi (by omega) (by omega)]
  simp only[RE.bind_ok]
  rw[qb9 (by omega)]
  simp only[RE.bind_ok]
  have b:=qb0 (z.fdiv (3*(i:Int)+1)) (n:=(s.1.length:Int)) (by omega)
  obtain⟨d,e2,p2⟩:=qnY (xs:=s.2) (ys:=s.1) b.1 b.2 (by omega) (by omega)
  rw[e2]
  exact W.ok ⟨by simp[hl],p2.trans hp⟩
 ·have:=hp.length_eq
  rw[qbU] at hl
  rw[List.length_append,fl0,hl] at this
  have:s.1=[]:=List.length_eq_zero_iff.mp (by omega)
  rwa [this,List.append_nil] at hp
theorem qm3 {fl:Int × Int × Int} (hf:FOk fl) {mv c:Int} (hc:inC fl c):qd0 fl c mv=.ok (spF fl mv c):=by
 have w1:=hf.w1
 have w2:=hf.w2
 have i:=qfR (mv:=mv) hf hc
 unfold qd0
 simp only[RE.bind_ok]
 rw[qhi (by omega) (by omega),qb9 (by omega),qfL (by omega),qf0 (by omega)]
 simp only[RE.bind_ok,qfX]
 have br:(if 3<mv then RE.ok (fl.2.1 - 1 - c % fl.2.1) else RE.ok (c % fl.2.1))=.ok (if 3<mv then fl.2.1 - 1 - c % fl.2.1 else c % fl.2.1):=by split<;>rfl
 rw[br]
 simp only[RE.bind_ok]
 rw[qgi (mv:=mv) (fun k s=>rfl)]
 have e:(trn (mv.fmod 4).toNat (fl.1,fl.2.1,c / fl.2.1,if 3<mv then fl.2.1 - 1 - c % fl.2.1 else c % fl.2.1))=spS fl mv c:=rfl
 simp only[RE.bind_ok]
 rw[e,qeK (by have:=i.r;have:=i.h;omega)]
 rfl
theorem qpK (z:Int) {fl:Int × Int × Int} (hf:FOk fl) {sg:List Int} (hs:qeo fl sg):∃bad,qbr sg z=.ok bad∧¬qeo fl bad:=by
 have s1:=hf.s1
 have s2:=hf.s2
 have sl:=qd6 hf hs
 have sb:=qpu hs
 have nd:sg.Nodup:=hs.nodup_iff.mpr (qhh (qim _ _))
 have len:∀{bad:List Int},qeo fl bad→(bad.length:Int)=fl.2.2:=fun h=>qd6 hf h
 unfold qbr
 rw[qb9 (by omega)]
 simp only[RE.bind_ok]
 have b:=qb0 (z.fdiv 5) (n:=(sg.length:Int)) (by omega)
 generalize (z.fdiv 5).fmod (sg.length:Int)=a at b
 have cd:qcq sg (some (a+1)) none=sg.drop (a+1).toNat:=by
  unfold qcq
  have h1:HT.sIx sg.length 0 (some (a+1))=(a+1).toNat:=by
   have:=HT.sIx_nat sg.length 0 (a+1).toNat
   rw[show(((a+1).toNat:Nat):Int)=a+1 by omega] at this
   rw[this];omega
  have h2:HT.sIx sg.length sg.length none=sg.length:=by simp[HT.sIx]
  rw[h1,h2,List.take_of_length_le (by simp)]
 have tl:∀x:Int,(((sg.take a.toNat++[x])++sg.drop (a+1).toNat).length:Int)=fl.2.2:=fun x=>by
  simp only[List.length_append,List.length_take,List.length_drop,List.length_cons,List.length_nil];omega
 have mix:∀x:Int,(qcE (sg.take a.toNat) [x]).bind (fun y=>qcE y (sg.drop (a+1).toNat))=.ok ((sg.take a.toNat++[x])++sg.drop (a+1).toNat):=fun x=>by
  have t:=tl x
  have t2:(sg.take a.toNat).length≤6:=by rw[List.length_take];omega
  rw[qdb (by simp only[List.length_cons,List.length_nil];omega)]
  simp only[RE.bind_ok]
  rw[qdb (by rw[←List.length_append];omega)]
 simp only[qfX]
 by_cases q0:z.fmod 5=0
 ·rw[if_pos q0]
  refine⟨_,rfl,fun h=>?_⟩
  have:=len h
  rw[qqR,List.length_drop] at this
  omega
 rw[if_neg q0]
 by_cases q1:z.fmod 5=1
 ·rw[if_pos q1,qie b.1 b.2]
  simp only[RE.bind_ok]
  rw[qdb (by simp;omega)]
  refine⟨_,rfl,fun h=>?_⟩
  have:=len h
  simp only[List.length_append,List.length_cons,List.length_nil] at this
  omega
 rw[if_neg q1,qqp b.1,cd]
 by_cases q2:((decide (z.fmod 5=2))&&(decide (1<(sg.length:Int))))=true
 ·rw[if_pos q2]
  simp only[Bool.and_eq_true,decide_eq_true_eq] at q2
  obtain⟨d,ed,dm⟩:∃d:Int,atE sg (a - 1)=.ok d∧∃j:Nat,j≠a.toNat∧sg[j]? = some d:=by
   by_cases a0:a=0
   ·subst a0
    have ne:sg≠[]:=fun e=>by rw[e] at q2;simp at q2
    refine⟨_,qlF ne,sg.length - 1,by have:=q2.2;simp;omega,?_⟩
    have:=qmm (xs:=sg) (k:=(sg.length:Int) - 1) (by omega) (by omega)
    rw[show((sg.length:Int) - 1).toNat=sg.length - 1 by omega] at this
    exact this
   ·refine⟨_,qie (by omega) (by omega),(a - 1).toNat,by omega,qmm (by omega) (by omega)⟩
  rw[ed]
  simp only[RE.bind_ok]
  rw[mix]
  refine⟨_,rfl,fun h=>?_⟩
  have nd2:((sg.take a.toNat++[d])++sg.drop (a+1).toNat).Nodup:=h.nodup_iff.mpr (qhh (qim _ _))
  obtain⟨j,ja,ej⟩:=dm
  rw[List.append_assoc,List.nodup_append] at nd2
  obtain⟨_,n2,n3⟩:=nd2
  have hj:=(List.getElem?_eq_some_iff.mp ej).1
  rcases Nat.lt_or_ge j a.toNat with l | l
  ·have m:d∈sg.take a.toNat:=List.mem_of_getElem? (i:=j) (by rw[List.getElem?_take,if_pos l];exact ej)
   exact n3 d m d (by simp) rfl
  ·have m:d∈sg.drop (a+1).toNat:=List.mem_of_getElem? (i:=j - (a+1).toNat) (by rw[List.getElem?_drop,show(a+1).toNat+(j - (a+1).toNat)=j by omega];exact ej)
   rw[List.cons_append,List.nodup_cons] at n2
   exact n2.1 m
 rw[if_neg q2]
 have no:∀x:Int,¬(1≤x∧x≤fl.2.2)→¬qeo fl ((sg.take a.toNat++[x])++sg.drop (a+1).toNat):=fun x hx h=>hx (qpu h x (by simp))
 by_cases q3:z.fmod 5=3
 ·rw[if_pos q3,mix]
  exact⟨_,rfl,no 0 (by omega)⟩
 ·rw[if_neg q3,qi6 (by decide) (by decide) (by decide)]
  simp only[RE.bind_ok]
  rw[qb9 (by decide)]
  simp only[RE.bind_ok]
  rw[mix]
  have b2:=qb0 (z.fdiv 64) (n:=10 ^ (9:Int).toNat) (by decide)
  exact⟨_,rfl,no _ (by omega)⟩
end K66
namespace K66
open Cm
theorem qn2 (ns:List Int) {fl:Int × Int × Int} (hf:FOk fl):∃f,(gd (leB (qcY (nC fl).toNat).length) (lcE (fun(a8:Int)=>(RE.ok true)) (fun(a8:Int)=>((qgH ns (7+a8)).bind fun x2=>qgF x2 (fl.2.2+1))) (qcY (nC fl).toNat)))=.ok f∧qlN fl f:=by
 have n1:=hf.n1
 have n16:=qlk hf
 have s1:=hf.s1
 rw[gdl (by rw[qbU];omega),qgP (g:=fun k=>(cv ns (7+k)).fmod (fl.2.2+1)) fun k hk=>by
  have:=qcS.mp hk
  rw[qgh ns (by omega) (by omega)]
  simp only[RE.bind_ok]
  rw[qb9 (by omega)]]
 refine⟨_,rfl,by rw[List.length_map,qbU];omega,fun x hx=>?_⟩
 obtain⟨k,_,rfl⟩:=List.mem_map.mp hx
 have b:=qb0 (cv ns (7+k)) (n:=fl.2.2+1) (by omega)
 omega
theorem qmO {fl:Int × Int × Int} (hf:FOk fl) {sg fi:List Int} (hs:qeo fl sg) (hc:qlN fl fi) {mv:Int}:∃b,qge fl fi mv sg=.ok b∧(b.length:Int)=nC fl∧∀c,inC fl c→gI b (spF fl mv c)=gI (0::sg) (gI fi c):=by
 have l:=qd6 hf hs
 have s2:=hf.s2
 have cl_:=hc.1
 unfold qge
 simp only[RE.bind_ok]
 obtain⟨b,eb,h⟩:=qkl (mv:=mv) hf (f:=fun(p6:Int × Int) (s5:List Int)=>(((qcE [0] sg).bind fun x7=>(RE.ok p6.2).bind fun x8=>atE x7 x8).bind fun x9=>(qd0 fl p6.1 mv).bind fun x10=>qif s5 x10 x9).bind fun aD=>RE.ok aD) (v:=fun c=>gI (0::sg) (gI fi c)) (ps:=qf5 fi) (a:=fi) cl_ (by unfold qf5;simp;exact cl_) fun i q s hq ic sl=>by
  obtain⟨q1,q2⟩:=Cm.qkL hq
  have bq:=hc.2 _ (List.mem_of_getElem? q2)
  have gq:gI fi (i:Int)=q.2:=by unfold gI;rw[List.getD_eq_getElem?_getD,Int.toNat_natCast,q2];rfl
  have si:=qij (mv:=mv) hf ic
  rw[qdb (by simp;omega)]
  simp only[RE.bind_ok]
  rw[show([0]++sg)=0::sg from rfl,(qkq hf hs bq.1 bq.2).1]
  simp only[RE.bind_ok]
  rw[q1,qm3 hf ic]
  simp only[RE.bind_ok]
  rw[qjl si.1 (by have:=si.2;omega),←gq]
  rfl
 simp only[RE.bind_ok] at eb ⊢
 rw[eb]
 exact⟨b,rfl,h⟩
theorem qkp {b:List Int} (h:b.length≤1000):qc8 b b=.ok true:=by
 unfold qc8 qej
 simp only[RE.bind_ok]
 rw[gdl (by omega),show(fun(aj:Int)=>RE.ok (true && !false))=fun _=>RE.ok true from rfl,qgP (g:=fun x=>x) fun _ _=>rfl]
 simp
theorem mfn {fl:Int × Int × Int} (hf:FOk fl) {fi:List Int} {mv:Int}:F.moved_filling fl fi mv none=F.moved_filling fl fi mv (some (qam 1 (fl.2.2+1))):=by
 unfold F.moved_filling
 rw[qkc hf,qhj hf (List.Perm.refl _)]
def bkI (mv:Int):Int:=if mv=1 then 3 else if mv=3 then 1 else mv
theorem qre {mv:Int} (h0:0≤mv) (h7:mv≤7):atE ([0,3,2,1,4,5,6,7]:List Int) mv=.ok (bkI mv):=by
 have:mv=0∨mv=1∨mv=2∨mv=3∨mv=4∨mv=5∨mv=6∨mv=7:=by omega
 rcases this with e | e | e | e | e | e | e | e<;>subst e<;>rfl
theorem dm (r w c:Int) (h0:0≤c) (h1:c<w):(r*w+c) / w=r∧(r*w+c) % w=c:=by
 have w0:w≠0:=by omega
 constructor
 ·rw[Int.add_comm,Int.add_mul_ediv_right _ _ w0,Int.ediv_eq_zero_of_lt h0 h1,Int.zero_add]
 ·rw[Int.add_comm,Int.add_mul_emod_self_right,Int.emod_eq_of_lt h0 h1]
theorem qm2 {fl:Int × Int × Int} (hf:FOk fl) {mv c:Int} (h0:0≤mv) (h7:mv≤7) (hc:inC fl c):spF (grF fl mv) (bkI mv) (spF fl mv c)=c:=by
 obtain⟨h,w,s⟩:=fl
 have w1:1≤w:=hf.w1
 have hr:0≤c / w∧c / w<h:=⟨Int.ediv_nonneg hc.1 (by omega),(Int.ediv_lt_iff_lt_mul (by omega)).mpr hc.2⟩
 have hq:0≤c % w∧c % w<w:=⟨Int.emod_nonneg c (by omega),Int.emod_lt_of_pos c (by omega)⟩
 have ec:c / w*w+c % w=c:=by rw[Int.mul_comm];exact Int.mul_ediv_add_emod c w
 have fin:∀R Q:Int,R=c / w→Q=c % w→R*w+Q=c:=fun R Q e1 e2=>by rw[e1,e2];exact ec
 have:mv=0∨mv=1∨mv=2∨mv=3∨mv=4∨mv=5∨mv=6∨mv=7:=by omega
 rcases this with e | e | e | e | e | e | e | e<;>subst e
 ·show spF (h,w,s) 0 (spF (h,w,s) 0 c)=c
  have e1:spF (h,w,s) 0 c=(c / w)*w+(c % w):=rfl
  have e2:∀d,spF (h,w,s) 0 d=(d / w)*w+(d % w):=fun d=>rfl
  obtain⟨d1,d2⟩:=dm (c / w) w (c % w) (by omega) (by omega)
  rw[e1,e2]
  exact fin _ _ (by omega) (by omega)
 ·show spF (w,h,s) 3 (spF (h,w,s) 1 c)=c
  have e1:spF (h,w,s) 1 c=(c % w)*h+(h - 1 - (c / w)):=rfl
  have e2:∀d,spF (w,h,s) 3 d=(h - 1 - d % h)*w+(w - 1 - (w - 1 - d / h)):=fun d=>rfl
  obtain⟨d1,d2⟩:=dm (c % w) h (h - 1 - (c / w)) (by omega) (by omega)
  rw[e1,e2]
  exact fin _ _ (by omega) (by omega)
 ·show spF (h,w,s) 2 (spF (h,w,s) 2 c)=c
  have e1:spF (h,w,s) 2 c=(h - 1 - (c / w))*w+(w - 1 - (c % w)):=rfl
  have e2:∀d,spF (h,w,s) 2 d=(h - 1 - d / w)*w+(w - 1 - d % w):=fun d=>rfl
  obtain⟨d1,d2⟩:=dm (h - 1 - (c / w)) w (w - 1 - (c % w)) (by omega) (by omega)
  rw[e1,e2]
  exact fin _ _ (by omega) (by omega)
 ·show spF (w,h,s) 1 (spF (h,w,s) 3 c)=c
  have e1:spF (h,w,s) 3 c=(w - 1 - (c % w))*h+(h - 1 - (h - 1 - (c / w))):=rfl
  have e2:∀d,spF (w,h,s) 1 d=(d % h)*w+(w - 1 - d / h):=fun d=>rfl
  obtain⟨d1,d2⟩:=dm (w - 1 - (c % w)) h (h - 1 - (h - 1 - (c / w))) (by omega) (by omega)
  rw[e1,e2]
  exact fin _ _ (by omega) (by omega)
 ·show spF (h,w,s) 4 (spF (h,w,s) 4 c)=c
  have e1:spF (h,w,s) 4 c=(c / w)*w+(w - 1 - (c % w)):=rfl
  have e2:∀d,spF (h,w,s) 4 d=(d / w)*w+(w - 1 - d % w):=fun d=>rfl
  obtain⟨d1,d2⟩:=dm (c / w) w (w - 1 - (c % w)) (by omega) (by omega)
  rw[e1,e2]
  exact fin _ _ (by omega) (by omega)
 ·show spF (w,h,s) 5 (spF (h,w,s) 5 c)=c
  have e1:spF (h,w,s) 5 c=(w - 1 - (c % w))*h+(h - 1 - (c / w)):=rfl
  have e2:∀d,spF (w,h,s) 5 d=(h - 1 - d % h)*w+(w - 1 - d / h):=fun d=>rfl
  obtain⟨d1,d2⟩:=dm (w - 1 - (c % w)) h (h - 1 - (c / w)) (by omega) (by omega)
  rw[e1,e2]
  exact fin _ _ (by omega) (by omega)
 ·show spF (h,w,s) 6 (spF (h,w,s) 6 c)=c
  have e1:spF (h,w,s) 6 c=(h - 1 - (c / w))*w+(w - 1 - (w - 1 - (c % w))):=rfl
  have e2:∀d,spF (h,w,s) 6 d=(h - 1 - d / w)*w+(w - 1 - (w - 1 - d % w)):=fun d=>rfl
  obtain⟨d1,d2⟩:=dm (h - 1 - (c / w)) w (w - 1 - (w - 1 - (c % w))) (by omega) (by omega)
  rw[e1,e2]
  exact fin _ _ (by omega) (by omega)
 ·show spF (w,h,s) 7 (spF (h,w,s) 7 c)=c
  have e1:spF (h,w,s) 7 c=(w - 1 - (w - 1 - (c % w)))*h+(h - 1 - (h - 1 - (c / w))):=rfl
  have e2:∀d,spF (w,h,s) 7 d=(h - 1 - (h - 1 - d % h))*w+(w - 1 - (w - 1 - d / h)):=fun d=>rfl
  obtain⟨d1,d2⟩:=dm (w - 1 - (w - 1 - (c % w))) h (h - 1 - (h - 1 - (c / w))) (by omega) (by omega)
  rw[e1,e2]
  exact fin _ _ (by omega) (by omega)
theorem qpa {fl:Int × Int × Int} (hf:FOk fl) {sg:List Int} (hs:qeo fl sg):qeo fl ((qam 1 (fl.2.2+1)).map fun s=>(qfG sg s:Int)+1)∧∀v,0≤v→v≤fl.2.2→gI (0::(qam 1 (fl.2.2+1)).map fun s=>(qfG sg s:Int)+1) (gI (0::sg) v)=v:=by
 have l:=qd6 hf hs
 have s1:=hf.s1
 have s2:=hf.s2
 have nd:sg.Nodup:=hs.nodup_iff.mpr (qhh (qim _ _))
 have pos:∀i:Nat,(h:i<sg.length)→qfG sg sg[i]=i:=fun i h=>by
  unfold qfG
  rw[List.findIdx_eq h]
  refine⟨by simp,fun j hj=>?_⟩
  simp only[decide_eq_false_iff_not]
  intro e
  have:=(List.getElem_inj nd).mp e
  omega
 have mem:∀s,1≤s→s≤fl.2.2→s∈sg:=fun s h1 h2=>hs.mem_iff.mpr (qaF.mpr ⟨h1,by omega⟩)
 have pm:∀s,1≤s→s≤fl.2.2→qfG sg s<sg.length∧gI sg (qfG sg s:Int)=s:=fun s h1 h2=>by
  obtain⟨i,hi,e⟩:=List.getElem_of_mem (mem s h1 h2)
  rw[←e,pos i hi]
  refine⟨hi,?_⟩
  unfold gI
  rw[List.getD_eq_getElem?_getD,Int.toNat_natCast,List.getElem?_eq_getElem hi];rfl
 constructor
 ·refine(List.perm_ext_iff_of_nodup ?_ (qhh (qim _ _))).mpr fun x=>?_
  ·refine List.Pairwise.map (R:=fun a b=>a∈qam 1 (fl.2.2+1)∧b∈qam 1 (fl.2.2+1)∧a≠b) _ (fun a b ⟨ha,hb,n⟩ e=>n ?_) ?_
   ·have ha:=qaF.mp ha
    have hb:=qaF.mp hb
    have pa:=(pm a (by omega) (by omega)).2
    have pb:=(pm b (by omega) (by omega)).2
    rw[←pa,←pb]
    congr 1
    omega
   ·exact List.Pairwise.imp_of_mem (fun ha hb n=>⟨ha,hb,n⟩) (qhh (qim _ _))
  ·rw[List.mem_map,qaF]
   constructor
   ·rintro⟨s,hs',rfl⟩
    have:=qaF.mp hs'
    have:=(pm s (by omega) (by omega)).1
    omega
   ·intro⟨x1,x2⟩
    have hi:(x - 1).toNat<sg.length:=by omega
    refine⟨sg[(x - 1).toNat],?_,?_⟩
    ·have:=qpu hs _ (List.getElem_mem hi)
     exact qaF.mpr ⟨this.1,by omega⟩
    ·rw[pos _ hi];omega
 ·intro v v0 v1
  by_cases z:v=0
  ·subst z;rfl
  ·have hi:(v - 1).toNat<sg.length:=by omega
   have e1:gI (0::sg) v=sg[(v - 1).toNat]:=by
    unfold gI
    rw[List.getD_eq_getElem?_getD,show v.toNat=(v - 1).toNat+1 by omega,List.getElem?_cons_succ,List.getElem?_eq_getElem hi];rfl
   have b:=qpu hs _ (List.getElem_mem hi)
   rw[e1]
   generalize hx:sg[(v - 1).toNat]=x at b
   have hj:(x - 1).toNat<(qam 1 (fl.2.2+1)).length:=by rw[qbK];omega
   unfold gI
   rw[List.getD_eq_getElem?_getD,show x.toNat=(x - 1).toNat+1 by omega,List.getElem?_cons_succ,List.getElem?_map,List.getElem?_eq_getElem hj]
   have:(qam 1 (fl.2.2+1))[(x - 1).toNat]=x:=by
    simp only[qam,qcD,List.getElem_map,List.getElem_range];omega
   rw[this]
   show(qfG sg x:Int)+1=v
   rw[←hx,pos _ hi];omega
theorem qpi {fl:Int × Int × Int} (hf:FOk fl) {sg fi b:List Int} (hs:qeo fl sg) (hc:qlN fl fi) {mv:Int} (h0:0≤mv) (h7:mv≤7) (bl:(b.length:Int)=nC fl) (bv:∀c,inC fl c→gI b (spF fl mv c)=gI (0::sg) (gI fi c)):F.moved_filling (grF fl mv) b (bkI mv) (some ((qam 1 (fl.2.2+1)).map fun s=>(qfG sg s:Int)+1))=.ok fi:=by
 have g:=qpP (mv:=mv) hf
 obtain⟨t1,t2⟩:=qpa hf hs
 have t1':qeo (grF fl mv) ((qam 1 (fl.2.2+1)).map fun s=>(qfG sg s:Int)+1):=by
  unfold qeo at t1 ⊢;rw[g.2.2];exact t1
 have bk:0≤bkI mv∧bkI mv≤7:=by unfold bkI;split<;>(try split)<;>omega
 obtain⟨b2,e2,l2,v2⟩:=qhb (mv:=bkI mv) g.1 t1' (qqS hf hs hc bl bv) bk.1 bk.2
 rw[e2]
 congr 1
 have hl:=hc.1
 rw[g.2.1] at l2
 refine List.ext_getElem (by omega) fun i hi hj=>?_
 have ic:inC fl (i:Int):=⟨by omega,by omega⟩
 have si:=qij (mv:=mv) hf ic
 have:=v2 (spF fl mv (i:Int)) (show inC (grF fl mv) _ from⟨si.1,by rw[g.2.1];exact si.2⟩)
 rw[qm2 hf h0 h7 ic,bv _ ic] at this
 have e1:gI fi (i:Int)=fi[i]:=by unfold gI;rw[List.getD_eq_getElem?_getD,Int.toNat_natCast,List.getElem?_eq_getElem hj];rfl
 have e3:gI b2 (i:Int)=b2[i]:=by unfold gI;rw[List.getD_eq_getElem?_getD,Int.toNat_natCast,List.getElem?_eq_getElem hi];rfl
 have q:=hc.2 _ (List.getElem_mem hj)
 rw[e1,e3,t2 _ q.1 q.2] at this
 exact this
theorem qeO {fl:Int × Int × Int} {fi:List Int} {mv:Int} {o:Option (List Int)} (h:F.moved_filling fl fi mv o=.exc 38 []):qaK fl fi mv o=.ok true:=by
 unfold qaK
 rw[h]
 rfl
theorem main (ns:List Int):qjh ns=.ok true:=by
 obtain⟨fl,ef,hf⟩:=qlc ns
 obtain⟨fi,ei,hc⟩:=qn2 ns hf
 have n1:=hf.n1
 have n16:=qlk hf
 have s1:=hf.s1
 have s2:=hf.s2
 have fl_:=hc.1
 have en:nC fl=fl.1*fl.2.1:=rfl
 unfold qjh
 rw[ef]
 simp only[RE.bind_ok]
 rw[qeK (by have:=hf.h1;have:=hf.h2;omega)]
 simp only[RE.bind_ok]
 rw[qdx (by omega) (by omega)]
 simp only[RE.bind_ok]
 rw[ei,qgh ns (k:=3) (by decide) (by decide),qgh ns (k:=4) (by decide) (by decide),qgh ns (k:=5) (by decide) (by decide),qgh ns (k:=6) (by decide) (by decide)]
 simp only[RE.bind_ok]
 have b8:=qb0 (cv ns 3) (n:=8) (by decide)
 generalize (cv ns 3).fmod 8=mv at b8
 rw[qre b8.1 (by omega),qfo (by omega)]
 simp only[RE.bind_ok]
 obtain⟨sg,es,hs⟩:=qng (cv ns 4) hf
 rw[es]
 have hsame:qeo fl (qam 1 (fl.2.2+1)):=List.Perm.refl _
 obtain⟨b0,eb0,l0,v0⟩:=qhb (mv:=mv) hf hsame hc b8.1 (by omega)
 obtain⟨d0,ed0,ld0,w0⟩:=qmO (mv:=mv) hf hsame hc
 have q0:=qgn hf l0 ld0 v0 w0
 subst q0
 obtain⟨b1,eb1,l1,v1⟩:=qhb (mv:=mv) hf hs hc b8.1 (by omega)
 obtain⟨d1,ed1,ld1,w1⟩:=qmO (mv:=mv) hf hs hc
 have q1:=qgn hf l1 ld1 v1 w1
 subst q1
 have a0:qc8 b0 b0=.ok true:=qkp (by omega)
 have a1:qc8 b1 b1=.ok true:=qkp (by omega)
 have af:qc8 fi fi=.ok true:=qkp (by omega)
 simp only[RE.bind_ok]
 rw[mfn hf,eb0,ed0]
 simp only[RE.bind_ok]
 rw[a0]
 simp only[RE.bind_ok,Bool.not_true,Bool.false_eq_true,if_false]
 rw[ed1]
 simp only[RE.bind_ok]
 rw[gdl (by simp)]
 simp only[RE.bind_ok,qoJ,qpJ,qfI]
 rw[eb1]
 simp only[RE.bind_ok,qfI]
 rw[a1,qk0]
 simp only[RE.bind_ok,qfI,Bool.not_true,Bool.false_eq_true,if_false,decide_true]
 rw[qq5 b8.1 (by omega)]
 simp only[RE.bind_ok]
 rw[gdl (by rw[qbK];omega),qgP (g:=fun s=>(qfG sg s:Int)+1) fun s h=>by
  have:=qaF.mp h
  rw[qnr (hs.mem_iff.mpr h)]
  rfl]
 simp only[RE.bind_ok]
 rw[qpi hf hs hc b8.1 (by omega) l1 v1]
 simp only[RE.bind_ok]
 rw[af]
 simp only[RE.bind_ok,Bool.not_true,Bool.false_eq_true,if_false]
 obtain⟨bad,eb,hb⟩:=qpK (cv ns 5) hf hs
 obtain⟨odd,eo,ho⟩:∃odd:Int,atE ([-1,8,-9,10 ^ (20:Int).toNat+mv]:List Int) ((cv ns 6).fmod 4)=.ok odd∧¬(0≤odd∧odd≤7):=by
  have b3:=qb0 (cv ns 6) (n:=4) (by decide)
  have:(cv ns 6).fmod 4=0∨(cv ns 6).fmod 4=1∨(cv ns 6).fmod 4=2∨(cv ns 6).fmod 4=3:=by omega
  rcases this with e | e | e | e<;>rw[e]
  ·exact⟨-1,by rw[qoJ],by decide⟩
  ·exact⟨8,by rw[qpJ],by decide⟩
  ·exact⟨-9,by rw[qrs],by decide⟩
  ·refine⟨10 ^ (20:Int).toNat+mv,rfl,?_⟩
   have:(10:Int) ^ (20:Int).toNat=100000000000000000000:=rfl
   omega
 have ro:∀{o:Option (List Int)} {s:List Int},F.signs_by fl o=.ok s→s.length≤1000→qaK fl fi odd o=.ok true:=fun h hl=>qeO (by
  unfold F.moved_filling
  rw[h]
  simp only[RE.bind_ok]
  rw[qdb (by simp;omega)]
  simp only[RE.bind_ok]
  rw[gdl (by omega)]
  simp only[RE.bind_ok]
  unfold F.moved_cells
  rw[qoV ho]
  rfl)
 have rb:qaK fl fi mv (some bad)=.ok true:=qeO (by
  unfold F.moved_filling
  rw[qpG hf hb]
  rfl)
 have sl:=qd6 hf hs
 have ro1:=ro (qkc hf) (by rw[qbK];omega)
 have ro2:=ro (qhj hf hs) (by omega)
 rw[eb]
 simp only[RE.bind_ok]
 rw[rb,qi6 (by decide) (by decide) (by decide)]
 simp only[RE.bind_ok,qfI,Bool.not_true,Bool.false_eq_true,if_false]
 rw[eo]
 simp only[RE.bind_ok]
 rw[ro1,ro2]
 simp only[RE.bind_ok,qfI,Bool.not_true,Bool.false_eq_true,if_false]
 rw[show ql1 [fi,sg] 1=.ok [fi,[]] from rfl]
 simp only[RE.bind_ok,qoJ]
 rw[eb1]
 simp only[RE.bind_ok]
 rw[a1]
 rfl
theorem law_true:∀ns:List Int,ns.length≤63→(∀z∈ns,PySem.Builtin.Int.intBits z≤1048576)→∃b,g_law [.lst (ns.map D.int)]=.ok (.val (.bl true) b):=
 fun ns _ _=>qqu (qrh ns) (main ns)
end K66
set_option maxHeartbeats 0
namespace K66
open Cm PySem PySem.Spec PyProof.Rows L2
def FL:Nat→List Str:=fun c=>match c with
 |_=>[]
def GK (K:PySem.W.Frag):Glo:=⟨K,fun c=>match c with
 |38=>He.ga K "NoMove"
 |_=>0,FL⟩
def qcQ:Tb:={ N:=["_law_script","_law_k","_law_mixed"],fn:=[],gc:=[],mn:=[],fs:=[],nw:=[],ck:=[],xk:=[],dc:=[] }
theorem qjr:FnScope qcQ.N ["_law_script","_law_k"] (defScope (top 18)):=⟨rfl,rfl,rfl,by decide +kernel,rfl,by decide +kernel,by decide +kernel⟩
theorem qi0:qau qcQ (defScope (top 18)) qcd (defBody (top 18))=true:=by decide +kernel
def qbz:Tb:={ N:=["_law_script","_law_high","_law_wide"],fn:=[("_law_at",2)],gc:=[],mn:=[],fs:=[],nw:=[],ck:=[],xk:=[],dc:=[] }
theorem qgc:FnScope qbz.N ["_law_script"] (defScope (top 20)):=⟨rfl,rfl,rfl,by decide +kernel,rfl,by decide +kernel,by decide +kernel⟩
theorem qfW:qau qbz (defScope (top 20)) qbc (defBody (top 20))=true:=by decide +kernel
def qaV:Tb:={ N:=["_law_cell","_law_many","_law_left","_law_found","_law_k"],fn:=[],gc:=[],mn:=[],fs:=[],nw:=[],ck:=[],xk:=[],dc:=[] }
theorem qdO:FnScope qaV.N ["_law_cell","_law_many"] (defScope (top 23)):=⟨rfl,rfl,rfl,by decide +kernel,rfl,by decide +kernel,by decide +kernel⟩
theorem qdY:qau qaV (defScope (top 23)) qaA (defBody (top 23))=true:=by decide +kernel
def qbD:Tb:={ N:=["_law_found"],fn:=[],gc:=[],mn:=[],fs:=[],nw:=[],ck:=[],xk:=[],dc:=[] }
theorem qgr:FnScope qbD.N ["_law_found"] (defScope (top 19)):=⟨rfl,rfl,rfl,by decide +kernel,rfl,by decide +kernel,by decide +kernel⟩
theorem qfV:qau qbD (defScope (top 19)) qbb (defBody (top 19))=true:=by decide +kernel
def qck:Tb:={ N:=["_law_found","_law_due_here","_law_sign"],fn:=[("_law_whole",1)],gc:=[],mn:=[],fs:=[],nw:=[],ck:=[],xk:=[],dc:=[] }
theorem qh1:FnScope qck.N ["_law_found","_law_due_here"] (defScope (top 27)):=⟨rfl,rfl,rfl,by decide +kernel,rfl,by decide +kernel,by decide +kernel⟩
theorem qic:qau qck (defScope (top 27)) qbM (defBody (top 27))=true:=by decide +kernel
def qbR:Tb:={ N:=["floor"],fn:=[],gc:=[],mn:=[],fs:=[],nw:=[],ck:=[],xk:=[],dc:=[] }
theorem qg0:FnScope qbR.N ["floor"] (defScope (top 14)):=⟨rfl,rfl,rfl,by decide +kernel,rfl,by decide +kernel,by decide +kernel⟩
theorem qgU:qau qbR (defScope (top 14)) qbv (defBody (top 14))=true:=by decide +kernel
def qch:Tb:={ N:=["floor","signs"],fn:=[("all_signs",1)],gc:=[],mn:=[],fs:=[],nw:=[],ck:=[],xk:=["NoMove"],dc:=[] }
theorem qh2:FnScope qch.N ["floor","signs"] (defScope (top 15)):=⟨rfl,rfl,rfl,by decide +kernel,rfl,by decide +kernel,by decide +kernel⟩
theorem qik:qau qch (defScope (top 15)) qbL (defBody (top 15))=true:=by decide +kernel
def qa4:Tb:={ N:=["move"],fn:=[],gc:=[],mn:=[],fs:=[],nw:=[],ck:=[],xk:=["NoMove"],dc:=[] }
theorem qey:FnScope qa4.N ["move"] (defScope (top 10)):=⟨rfl,rfl,rfl,by decide +kernel,rfl,by decide +kernel,by decide +kernel⟩
theorem qer:qau qa4 (defScope (top 10)) qaJ (defBody (top 10))=true:=by decide +kernel
def qbC:Tb:={ N:=["floor"],fn:=[],gc:=[],mn:=[],fs:=[],nw:=[],ck:=[],xk:=[],dc:=[] }
theorem qgo:FnScope qbC.N ["floor"] (defScope (top 7)):=⟨rfl,rfl,rfl,by decide +kernel,rfl,by decide +kernel,by decide +kernel⟩
theorem qgd:qau qbC (defScope (top 7)) qba (defBody (top 7))=true:=by decide +kernel
def qcF:Tb:={ N:=["floor","cell"],fn:=[],gc:=[],mn:=[],fs:=[],nw:=[],ck:=[],xk:=[],dc:=[] }
theorem qju:FnScope qcF.N ["floor","cell"] (defScope (top 8)):=⟨rfl,rfl,rfl,by decide +kernel,rfl,by decide +kernel,by decide +kernel⟩
theorem qiA:qau qcF (defScope (top 8)) qb4 (defBody (top 8))=true:=by decide +kernel
def qbm:Tb:={ N:=["high","spot"],fn:=[],gc:=[],mn:=[],fs:=[],nw:=[],ck:=[],xk:=[],dc:=[] }
theorem qe7:FnScope qbm.N ["high","spot"] (defScope (top 11)):=⟨rfl,rfl,rfl,by decide +kernel,rfl,by decide +kernel,by decide +kernel⟩
theorem qfa:qau qbm (defScope (top 11)) qaW (defBody (top 11))=true:=by decide +kernel
def qbn:Tb:={ N:=["floor","move","found","cell","high","wide","signs","spot","turn"],fn:=[("look_at_move",1),("many_cells",1),("spot_of",2),("turned_spot",2)],gc:=[],mn:=[],fs:=[],nw:=[],ck:=[],xk:=[],dc:=[] }
theorem qfs:FnScope qbn.N ["floor","move"] (defScope (top 13)):=⟨rfl,rfl,rfl,by decide +kernel,rfl,by decide +kernel,by decide +kernel⟩
theorem qfg:qau qbn (defScope (top 13)) qaZ (defBody (top 13))=true:=by decide +kernel
def qaC:Tb:={ N:=["floor","filling","move","signs","changed","found","cell","sign"],fn:=[("signs_by",2),("moved_cells",2)],gc:=[],mn:=[],fs:=[],nw:=[],ck:=[],xk:=[],dc:=[] }
theorem qb6:FnScope qaC.N ["floor","filling","move","signs"] (defScope (top 16)):=⟨rfl,rfl,rfl,by decide +kernel,rfl,by decide +kernel,by decide +kernel⟩
theorem qb5:qau qaC (defScope (top 16)) qao (defBody (top 16))=true:=by decide +kernel
def qbV:Tb:={ N:=["_law_floor_here","_law_cell","_law_move","_law_high","_law_wide","_law_signs","_law_row","_law_column","_law_turn"],fn:=[],gc:=[],mn:=[],fs:=[],nw:=[],ck:=[],xk:=[],dc:=[] }
theorem qg2:FnScope qbV.N ["_law_floor_here","_law_cell","_law_move"] (defScope (top 21)):=⟨rfl,rfl,rfl,by decide +kernel,rfl,by decide +kernel,by decide +kernel⟩
theorem qhg:qau qbV (defScope (top 21)) qbx (defBody (top 21))=true:=by decide +kernel
def qcj:Tb:={ N:=["_law_floor_here","_law_filling","_law_move","_law_signs","_law_due_here","_law_cell","_law_sign"],fn:=[("_law_spot",3)],gc:=[],mn:=[],fs:=[],nw:=[],ck:=[],xk:=[],dc:=[] }
theorem qio:FnScope qcj.N ["_law_floor_here","_law_filling","_law_move","_law_signs"] (defScope (top 26)):=⟨rfl,rfl,rfl,by decide +kernel,rfl,by decide +kernel,by decide +kernel⟩
theorem qih:qau qcj (defScope (top 26)) qbO (defBody (top 26))=true:=by decide +kernel
def qbl:Tb:={ N:=["floor","move","high","wide","signs"],fn:=[("look_at_move",1)],gc:=[],mn:=[],fs:=[],nw:=[],ck:=[],xk:=[],dc:=[] }
theorem qfC:FnScope qbl.N ["floor","move"] (defScope (top 12)):=⟨rfl,rfl,rfl,by decide +kernel,rfl,by decide +kernel,by decide +kernel⟩
theorem qe0:qau qbl (defScope (top 12)) qaU (defBody (top 12))=true:=by decide +kernel
def qa8:Tb:={ N:=["_law_floor_here","_law_filling","_law_move","_law_signs","_law_caught","error","_law_others"],fn:=[("moved_filling",4)],gc:=[],mn:=[],fs:=[],nw:=[],ck:=[("ClueError",true),("NoFilling",true),("NoPuzzle",true),("TooMany",true),("NoMove",true),("ValueError",false)],xk:=[],dc:=[] }
theorem qex:FnScope qa8.N ["_law_floor_here","_law_filling","_law_move","_law_signs"] (defScope (top 25)):=⟨rfl,rfl,rfl,by decide +kernel,rfl,by decide +kernel,by decide +kernel⟩
theorem qet:qau qa8 (defScope (top 25)) qaL (defBody (top 25))=true:=by decide +kernel
def qaT:Tb:={ N:=["_law_signs","_law_cell","_law_at_here"],fn:=[],gc:=[],mn:=[],fs:=[],nw:=[],ck:=[],xk:=[],dc:=[] }
theorem qec:FnScope qaT.N ["_law_signs","_law_cell"] (defScope (top 24)):=⟨rfl,rfl,rfl,by decide +kernel,rfl,by decide +kernel,by decide +kernel⟩
theorem qdX:qau qaT (defScope (top 24)) qaB (defBody (top 24))=true:=by decide +kernel
def qkU:Tb:={ N:=["_law_script","_law_floor_here","_law_filling","_law_k","_law_move","_law_back","_law_plain_signs","_law_signs","_law_due_here","_law_handed","_law_found","_law_there","_law_turned_signs","_law_sign","_law_odd"],fn:=[("_law_floor",1),("_law_at",2),("_law_exchange",2),("_law_are",2),("moved_filling",3),("_law_due",4),("moved_filling",4),("moved_floor",2),("_law_refused",4),("_law_bad_list",2)],gc:=[],mn:=[],fs:=[],nw:=[],ck:=[],xk:=[],dc:=[] }
theorem qrd:FnScope qkU.N ["_law_script"] (defScope (top 28)):=⟨rfl,rfl,rfl,by decide +kernel,rfl,by decide +kernel,by decide +kernel⟩
theorem qqV:qau qkU (defScope (top 28)) qkk (defBody (top 28))=true:=by decide +kernel
section
variable {P:Program} {w:World} {K:PySem.W.Frag} {h:Heap} {mg:Str→Option Value} {base:Heap}
section
variable (c:He.SaysD fa fn K) (cx:qpd xa K=true) (ct:qr4 ts w K) (X:K.In h) (N:h.Ns mainGlobals mg)
include c cx ct X N
theorem qjA:TabOk P w K mg base qcQ qcX (GK K) 0:=
 qe8 (mts:=[]) (fds:=[]) c X N trivial trivial rfl trivial rfl trivial trivial trivial trivial trivial
theorem qgg:DefAt P w K mg base (GK K) 1 "_law_at" 2 g__law_at:=
 qgw (G:=GK K) (T:=qcQ) (Γ:=qcX) (k:=0) (m:=1) (i:=0) (j:=21) (ir:=qcd) (ps:=["_law_script","_law_k"]) (d:=qgm) c X N rfl rfl rfl rfl rfl rfl qjr rfl qi0 (fun _ _ _ _ _ _ us hl=>match us,hl with | [_,_],_=>rfl) (qjA c cx ct X N)
theorem qf7:TabOk P w K mg base qbz qbA (GK K) 1:=
 qe8 (mts:=[]) (fds:=[]) c X N ⟨(qgg c cx ct X N).mono (by decide),trivial⟩ trivial rfl trivial rfl trivial trivial trivial trivial trivial
theorem qgC:DefAt P w K mg base (GK K) 2 "_law_floor" 1 g__law_floor:=
 qgw (G:=GK K) (T:=qbz) (Γ:=qbA) (k:=1) (m:=2) (i:=1) (j:=22) (ir:=qbc) (ps:=["_law_script"]) (d:=qdo) c X N rfl rfl rfl rfl rfl rfl qgc rfl qfW (fun _ _ _ _ _ _ us hl=>match us,hl with | [_],_=>rfl) (qf7 c cx ct X N)
theorem qdM:TabOk P w K mg base qaV qa0 (GK K) 0:=
 qe8 (mts:=[]) (fds:=[]) c X N trivial trivial rfl trivial rfl trivial trivial trivial trivial trivial
theorem qdW:DefAt P w K mg base (GK K) 1 "_law_exchange" 2 g__law_exchange:=
 qgw (G:=GK K) (T:=qaV) (Γ:=qa0) (k:=0) (m:=3) (i:=2) (j:=23) (ir:=qaA) (ps:=["_law_cell","_law_many"]) (d:=qb2) c X N rfl rfl rfl rfl rfl rfl qdO rfl qdY (fun _ _ _ _ _ _ us hl=>match us,hl with | [_,_],_=>rfl) (qdM c cx ct X N)
theorem qgv:TabOk P w K mg base qbD qbE (GK K) 0:=
 qe8 (mts:=[]) (fds:=[]) c X N trivial trivial rfl trivial rfl trivial trivial trivial trivial trivial
theorem qgq:DefAt P w K mg base (GK K) 1 "_law_whole" 1 g__law_whole:=
 qgw (G:=GK K) (T:=qbD) (Γ:=qbE) (k:=0) (m:=0) (i:=3) (j:=24) (ir:=qbb) (ps:=["_law_found"]) (d:=qdj) c X N rfl rfl rfl rfl rfl rfl qgr rfl qfV (fun _ _ _ _ _ _ us hl=>match us,hl with | [_],_=>rfl) (qgv c cx ct X N)
theorem qh7:TabOk P w K mg base qck qci (GK K) 1:=
 qe8 (mts:=[]) (fds:=[]) c X N ⟨(qgq c cx ct X N).mono (by decide),trivial⟩ trivial rfl trivial rfl trivial trivial trivial trivial trivial
theorem qh8:DefAt P w K mg base (GK K) 2 "_law_are" 2 g__law_are:=
 qgw (G:=GK K) (T:=qck) (Γ:=qci) (k:=1) (m:=1) (i:=4) (j:=25) (ir:=qbM) (ps:=["_law_found","_law_due_here"]) (d:=qeG) c X N rfl rfl rfl rfl rfl rfl qh1 rfl qic (fun _ _ _ _ _ _ us hl=>match us,hl with | [_,_],_=>rfl) (qh7 c cx ct X N)
theorem qhe:TabOk P w K mg base qbR qbY (GK K) 0:=
 qe8 (mts:=[]) (fds:=[]) c X N trivial trivial rfl trivial rfl trivial trivial trivial trivial trivial
theorem qha:DefAt P w K mg base (GK K) 1 "all_signs" 1 g_all_signs:=
 qgw (G:=GK K) (T:=qbR) (Γ:=qbY) (k:=0) (m:=0) (i:=5) (j:=26) (ir:=qbv) (ps:=["floor"]) (d:=qel) c X N rfl rfl rfl rfl rfl rfl qg0 rfl qgU (fun _ _ _ _ _ _ us hl=>match us,hl with | [_],_=>rfl) (qhe c cx ct X N)
theorem qh0:TabOk P w K mg base qch qcl (GK K) 1:=
 qe8 (mts:=[]) (fds:=[]) c X N ⟨(qha c cx ct X N).mono (by decide),trivial⟩ trivial rfl trivial rfl trivial trivial trivial ⟨rs1 (j:=27) (j2:=28) c X N rfl rfl rfl,trivial⟩ trivial
theorem qid:DefAt P w K mg base (GK K) 2 "signs_by" 2 g_signs_by:=
 qgw (G:=GK K) (T:=qch) (Γ:=qcl) (k:=1) (m:=0) (i:=6) (j:=29) (ir:=qbL) (ps:=["floor","signs"]) (d:=qeC) c X N rfl rfl rfl rfl rfl rfl qh2 rfl qik (fun _ _ _ _ _ _ us hl=>match us,hl with | [_,_],_=>rfl) (qh0 c cx ct X N)
theorem qep:TabOk P w K mg base qa4 qa9 (GK K) 0:=
 qe8 (mts:=[]) (fds:=[]) c X N trivial trivial rfl trivial rfl trivial trivial trivial ⟨rs1 (j:=27) (j2:=28) c X N rfl rfl rfl,trivial⟩ trivial
theorem qcs:DefAt P w K mg base (GK K) 1 "look_at_move" 1 g_look_at_move:=
 qgw (G:=GK K) (T:=qa4) (Γ:=qa9) (k:=0) (m:=0) (i:=7) (j:=30) (ir:=qaJ) (ps:=["move"]) (d:=qcu) c X N rfl rfl rfl rfl rfl rfl qey rfl qer (fun _ _ _ _ _ _ us hl=>match us,hl with | [_],_=>rfl) (qep c cx ct X N)
theorem qfU:TabOk P w K mg base qbC qbF (GK K) 0:=
 qe8 (mts:=[]) (fds:=[]) c X N trivial trivial rfl trivial rfl trivial trivial trivial trivial trivial
theorem qfK:DefAt P w K mg base (GK K) 1 "many_cells" 1 g_many_cells:=
 qgw (G:=GK K) (T:=qbC) (Γ:=qbF) (k:=0) (m:=0) (i:=8) (j:=31) (ir:=qba) (ps:=["floor"]) (d:=qdl) c X N rfl rfl rfl rfl rfl rfl qgo rfl qgd (fun _ _ _ _ _ _ us hl=>match us,hl with | [_],_=>rfl) (qfU c cx ct X N)
theorem qiC:TabOk P w K mg base qcF qcU (GK K) 0:=
 qe8 (mts:=[]) (fds:=[]) c X N trivial trivial rfl trivial rfl trivial trivial trivial trivial trivial
theorem qj7:DefAt P w K mg base (GK K) 1 "spot_of" 2 g_spot_of:=
 qgw (G:=GK K) (T:=qcF) (Γ:=qcU) (k:=0) (m:=0) (i:=9) (j:=32) (ir:=qb4) (ps:=["floor","cell"]) (d:=qfM) c X N rfl rfl rfl rfl rfl rfl qju rfl qiA (fun _ _ _ _ _ _ us hl=>match us,hl with | [_,_],_=>rfl) (qiC c cx ct X N)
theorem qfl:TabOk P w K mg base qbm qbh (GK K) 0:=
 qe8 (mts:=[]) (fds:=[]) c X N trivial trivial rfl trivial rfl trivial trivial trivial trivial trivial
theorem qfu:DefAt P w K mg base (GK K) 1 "turned_spot" 2 g_turned_spot:=
 qgw (G:=GK K) (T:=qbm) (Γ:=qbh) (k:=0) (m:=0) (i:=10) (j:=33) (ir:=qaW) (ps:=["high","spot"]) (d:=qcG) c X N rfl rfl rfl rfl rfl rfl qe7 rfl qfa (fun _ _ _ _ _ _ us hl=>match us,hl with | [_,_],_=>rfl) (qfl c cx ct X N)
theorem qfp:TabOk P w K mg base qbn qbq (GK K) 1:=
 qe8 (mts:=[]) (fds:=[]) c X N ⟨(qcs c cx ct X N).mono (by decide),(qfK c cx ct X N).mono (by decide),(qj7 c cx ct X N).mono (by decide),(qfu c cx ct X N).mono (by decide),trivial⟩ trivial rfl trivial rfl trivial trivial trivial trivial trivial
theorem qfj:DefAt P w K mg base (GK K) 2 "moved_cells" 2 g_moved_cells:=
 qgw (G:=GK K) (T:=qbn) (Γ:=qbq) (k:=1) (m:=7) (i:=11) (j:=34) (ir:=qaZ) (ps:=["floor","move"]) (d:=qcL) c X N rfl rfl rfl rfl rfl rfl qfs rfl qfg (fun _ _ _ _ _ _ us hl=>match us,hl with | [_,_],_=>rfl) (qfp c cx ct X N)
theorem qcc:TabOk P w K mg base qaC qaD (GK K) 2:=
 qe8 (mts:=[]) (fds:=[]) c X N ⟨(qid c cx ct X N).mono (by decide),(qfj c cx ct X N).mono (by decide),trivial⟩ trivial rfl trivial rfl trivial trivial trivial trivial trivial
theorem qcb:DefAt P w K mg base (GK K) 3 "moved_filling" 4 g_moved_filling:=
 qrv (dl:=[.non]) (G:=GK K) (T:=qaC) (Γ:=qaD) (k:=2) (m:=4) (i:=12) (j:=35) (ir:=qao) (ps:=["floor","filling","move","signs"]) (d:=qbw) c X N rfl rfl rfl rfl (by decide) rfl rfl qb6 rfl qb5 (fun _ _ _ _ _ _ _ us its hl hi=>match us,its,hl,hi with | [_,_,_,_],[_],_,_=>⟨_,rfl,rfl⟩) (qcc c cx ct X N)
theorem qc0:DefAt P w K mg base (GK K) 3 "moved_filling" 3 (fun ds=>g_moved_filling (ds++[.non])):=
 qq8 (dl:=[.non]) (n:=3) (r:=0) [.non] (G:=GK K) (T:=qaC) (Γ:=qaD) (k:=2) (m:=4) (i:=12) (j:=35) (ir:=qao) (ps:=["floor","filling","move","signs"]) (d:=qbw) c X N rfl rfl rfl rfl (by decide) rfl rfl qb6 rfl qb5 rfl (fun _ _ _ _ _ _ _ us its hl hi=>match us,its,hl,hi with | [_,_,_],[_],_,_=>⟨_,rfl,rfl⟩) rfl (fun _ _=>⟨_,_,rfl,rfl,rfl⟩) (qcc c cx ct X N)
theorem qgW:TabOk P w K mg base qbV qbT (GK K) 0:=
 qe8 (mts:=[]) (fds:=[]) c X N trivial trivial rfl trivial rfl trivial trivial trivial trivial trivial
theorem qhf:DefAt P w K mg base (GK K) 1 "_law_spot" 3 g__law_spot:=
 qgw (G:=GK K) (T:=qbV) (Γ:=qbT) (k:=0) (m:=6) (i:=13) (j:=36) (ir:=qbx) (ps:=["_law_floor_here","_law_cell","_law_move"]) (d:=qdU) c X N rfl rfl rfl rfl rfl rfl qg2 rfl qhg (fun _ _ _ _ _ _ us hl=>match us,hl with | [_,_,_],_=>rfl) (qgW c cx ct X N)
theorem qia:TabOk P w K mg base qcj qcn (GK K) 1:=
 qe8 (mts:=[]) (fds:=[]) c X N ⟨(qhf c cx ct X N).mono (by decide),trivial⟩ trivial rfl trivial rfl trivial trivial trivial trivial trivial
theorem qiq:DefAt P w K mg base (GK K) 2 "_law_due" 4 g__law_due:=
 qgw (G:=GK K) (T:=qcj) (Γ:=qcn) (k:=1) (m:=3) (i:=14) (j:=37) (ir:=qbO) (ps:=["_law_floor_here","_law_filling","_law_move","_law_signs"]) (d:=qeS) c X N rfl rfl rfl rfl rfl rfl qio rfl qih (fun _ _ _ _ _ _ us hl=>match us,hl with | [_,_,_,_],_=>rfl) (qia c cx ct X N)
theorem qfr:TabOk P w K mg base qbl qbo (GK K) 1:=
 qe8 (mts:=[]) (fds:=[]) c X N ⟨(qcs c cx ct X N).mono (by decide),trivial⟩ trivial rfl trivial rfl trivial trivial trivial trivial trivial
theorem qfm:DefAt P w K mg base (GK K) 2 "moved_floor" 2 g_moved_floor:=
 qgw (G:=GK K) (T:=qbl) (Γ:=qbo) (k:=1) (m:=3) (i:=15) (j:=38) (ir:=qaU) (ps:=["floor","move"]) (d:=qcK) c X N rfl rfl rfl rfl rfl rfl qfC rfl qe0 (fun _ _ _ _ _ _ us hl=>match us,hl with | [_,_],_=>rfl) (qfr c cx ct X N)
theorem qes:TabOk P w K mg base qa8 qa5 (GK K) 3:=
 qe8 (mts:=[]) (fds:=[]) c X N ⟨(qcb c cx ct X N).mono (by decide),trivial⟩ trivial rfl trivial rfl trivial trivial ⟨qgA (j:=39) c X N rfl (qc4 (j:=0) cx rfl rfl qeI) qeZ,qgA (j:=40) c X N rfl (qc4 (j:=1) cx rfl rfl qeI) qeZ,qgA (j:=41) c X N rfl (qc4 (j:=2) cx rfl rfl qeI) qeZ,qgA (j:=42) c X N rfl (qc4 (j:=3) cx rfl rfl qeI) qeZ,qgA (j:=27) c X N rfl (qc4 (j:=4) cx rfl rfl qeI) qeZ,qrb (qc4 (j:=5) cx rfl rfl qeI) qeZ,trivial⟩ trivial trivial
theorem qeq:DefAt P w K mg base (GK K) 4 "_law_refused" 4 g__law_refused:=
 qgw (G:=GK K) (T:=qa8) (Γ:=qa5) (k:=3) (m:=3) (i:=16) (j:=43) (ir:=qaL) (ps:=["_law_floor_here","_law_filling","_law_move","_law_signs"]) (d:=qcw) c X N rfl rfl rfl rfl rfl rfl qex rfl qet (fun _ _ _ _ _ _ us hl=>match us,hl with | [_,_,_,_],_=>rfl) (qes c cx ct X N)
theorem qdP:TabOk P w K mg base qaT qa1 (GK K) 0:=
 qe8 (mts:=[]) (fds:=[]) c X N trivial trivial rfl trivial rfl trivial trivial trivial trivial trivial
theorem qd8:DefAt P w K mg base (GK K) 1 "_law_bad_list" 2 g__law_bad_list:=
 qgw (G:=GK K) (T:=qaT) (Γ:=qa1) (k:=0) (m:=1) (i:=17) (j:=44) (ir:=qaB) (ps:=["_law_signs","_law_cell"]) (d:=qca) c X N rfl rfl rfl rfl rfl rfl qec rfl qdX (fun _ _ _ _ _ _ us hl=>match us,hl with | [_,_],_=>rfl) (qdP c cx ct X N)
theorem qqU:TabOk P w K mg base qkU qlP (GK K) 4:=
 qe8 (mts:=[]) (fds:=[]) c X N ⟨(qgC c cx ct X N).mono (by decide),(qgg c cx ct X N).mono (by decide),(qdW c cx ct X N).mono (by decide),(qh8 c cx ct X N).mono (by decide),(qc0 c cx ct X N).mono (by decide),(qiq c cx ct X N).mono (by decide),(qcb c cx ct X N).mono (by decide),(qfm c cx ct X N).mono (by decide),(qeq c cx ct X N).mono (by decide),(qd8 c cx ct X N).mono (by decide),trivial⟩ trivial rfl trivial rfl trivial trivial trivial trivial trivial
theorem o_law {fa0:Addr} (e:mg "law" = some (.ref fa0)):∃fd:FuncData,(∀(s:Shared) (u:Value),BindsTo s fd ⟨[u],[]⟩ [("_law_script",u)])∧∀base:Heap,K.In base→base.Ns mainGlobals mg→FnOk P w K mg base (L2.CX P w) 5 fa0 fd ["_law_script"] (spD (GK K) 1 g_law):=
 qsv (G:=GK K) (T:=qkU) (Γ:=qlP) (k:=4) (m:=14) (i:=18) (j:=45) (ir:=qkk) (d:=qpk) c X N rfl rfl rfl rfl rfl rfl e qrd rfl qqV (fun _ _ _ _ _ _ us hl=>match us,hl with | [_],_=>rfl) (fun base _ _=>qqU c cx ct X N)
end
end
end K66
open PySem PySem.W PySem.Calls PyProof.Rows
theorem PySem.Challenge.cw_cluemaker_k66_fillings_moved_holds : PySem.Challenge.rw_cluemaker_k66_fillings_moved.Holds := by
  w_on; o_law
  refine HandSHeadRun.head_any (r := K66.R) (q := K66.vw) (H := Cm.hookL K66.as K66.fa K66.fn K66.xa K66.ts) (ob := Cm.obT K66.as K66.fa K66.fn K66.xa K66.ts) (M := 1715) (loose := K66.loose) (d := HandSHeadRun.topDef K66.R.prog 28) (kwd := []) Cm.obT_eq
    (by kernel_rfl) (fun s => by kernel_rfl) K66.run (by kernel_rfl) (by kernel_rfl) (by kernel_rfl) (by rfl) (by first | assumption | decide +kernel) (by decide +kernel) ⟨rfl, rfl, rfl, rfl, rfl, by decide +kernel⟩ ?hw ?hc
  case hw => w_witness2
  case hc =>
    refine LamX.walk_ofTsE (l := PySem.Challenge.rw_cluemaker_k66_fillings_moved) (n := 63) (k := 5) (x := "_law_script") (CX := fun w => L2.CX PySem.Challenge.rw_cluemaker_k66_fillings_moved.prog w) rfl (by decide) (by kernel_rfl) ⟨rfl, by decide, by decide⟩ ?F (fun w => Cm.cx_end)
    intro w mg fa0 h Y N hmg0
    obtain ⟨K, KX, c, cx, ct⟩ := Y
    have hmg : mg ("law" : PySem.Str) = some (.ref fa0) := by
      have e : (HandSHeadRun.topDef K66.R.prog 28).name = ("law" : PySem.Str) := by kernel_rfl
      rw [← e]
      exact hmg0
    exact ⟨K, KX, Cm.law_at (G := K66.GK K) (g := K66.g_law) rfl (K66.o_law c cx ct KX N hmg) K66.law_true⟩
