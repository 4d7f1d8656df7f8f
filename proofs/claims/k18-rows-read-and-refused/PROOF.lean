import PyProof.Rows.All
import HandS.Head0
import HandS.Head1
import HandS.Head2
import HandS.HeadEnd
import HandS.HeadHook1
import HandS.HeadHook2
import HandS.HeadHook3
import HandS.HeadWalk
import Wide.All
import OpenK.AllK
import Wide.FinOn
import HandS.ForMost
import HandS.Exc
import HandS.TryOnly
import HandS.ExcOwn
import HandS.WordsExc
import HandS.Deep
import HandS.IsInst
import HandS.SortInts
import HandS.Walk
import HandS.Flow
import HandS.Style
import HandS.Conv
import HandS.Defaults
import HandS.WideBits
import HandS.ExcIs
import HandS.ExcValue
import HandS.SetFor
import HandS.RevRange
import KE.KUnpack
import KE.GoesRaise
import HandS.Replace
import HandS.SortKw
import KE.DataMinMax
import KE.LtSeq
import KE.KSortAsk
import HandS.SortRule
import HandS.Strs
import PyProof.FactsAll.tuple_0
import PyProof.FactsAll.tuple_2
import HandS.RevTup
import PyProof.ListNew
import KE.KLam
import KE.SortKeyHeap
import KE.KSortKey
import HandS.Dict
import HandS.Codes
import KE.OsSetLaws
import PySem.Challenge.RW_cluemaker_k18_rows_read_and_refused
set_option Elab.async false
set_option linter.all false
set_option maxRecDepth 100000
set_option maxHeartbeats 1000000
namespace Cm
open PySem PySem.Spec PyProof.Rows L2 PySem.W
def bltNames:List Str:=["len","abs","min","max","sum","sorted","all","any","list","int","str","bool","tuple","isinstance","range","zip","enumerate","reversed","set","divmod","ValueError"]
inductive Xa where
 |ck (x:Str) (own:Bool) (d:Str) (b:Bool)
 |ik (x:Str) (own:Bool) (d:Str) (b:Bool)
 |mk0 (x:Str)
 |tup (x:Str) (zs:List Str)
 |dno (x z:Str)
 |dtu (x z:Str) (zs:List Str)
 |tab (x:Str) (c P:Addr)
def qwN:Value→Option Str
 |.str z _=>some z
 |_=>none
def qol (K:PySem.W.Frag) (u:Option (Option Value)) (zs:List Str):Bool:=match u with
 |some (some (.ref a))=>match K.lookup a with
  |some ⟨cls,dct,.seq its _,_⟩=>decide (cls=.type "tuple")&&decide (its.size≤1000)&&decide (its.toList.map qwN=zs.map some)&&dct.isNone
  |_=>false
 |_=>false
def cv (K:PySem.W.Frag) (x:Str) (own:Bool):Value:=match own with
 |true=>.ref (He.ga K x)
 |false=>.type "ValueError"
def qs9 (K:PySem.W.Frag) (f c:Addr):Bool:=match K.lookup f with
 |some ⟨_,_,.func fd,_⟩=>(match fd.code with
  |.ref a=>decide (a=c)
  |_=>false)
 |_=>false
def Xa.ok (K:PySem.W.Frag):Xa→Bool
 |.ck x own d b=>decide (PySem.W.kitOne K (.ref (He.ga K d)) (cv K x own)=some b)&&(decide (PySem.W.exmOne K (.ref (He.ga K d)) (cv K x own)=some b) &&
  (He.eqO (PySem.W.findIn K (.ref (He.ga K d)) "__getattribute__") (some (some (.builtin "BaseException.__getattribute__")))&&(He.eqO (PySem.W.findIn K (.ref (He.ga K d)) "__getattr__") (some none) &&
  (decide (PySem.W.subIn K (.ref (He.ga K d)) (.type "BaseException")=some true)&&(PySem.W.hasDictIn K (He.ga K d)&&(He.eqO (PySem.W.findIn K (.ref (He.ga K d)) "__class__") (some (some (.builtin "object.__class__"))) &&
  (He.eqO (PySem.W.specialIn K (.builtin "object.__class__") "__get__") (some (some (.builtin "getset_descriptor.__get__")))&&(decide (PySem.W.takesIn K (.builtin "object.__class__")=some true)&&decide (PySem.W.mroIn K (He.ga K d) (.type "object")=some true)))))))))
 |.ik x own d b=>decide (PySem.W.kitOne K (.ref (He.ga K d)) (cv K x own)=some b)&&((He.Fa.cls d).ok K&&(He.eqO (PySem.W.findIn K (.ref (He.ga K d)) "__class__") (some (some (.builtin "object.__class__"))) &&
  (He.eqO (PySem.W.specialIn K (.builtin "object.__class__") "__get__") (some (some (.builtin "getset_descriptor.__get__")))&&(decide (PySem.W.takesIn K (.builtin "object.__class__")=some true)&&decide (PySem.W.mroIn K (He.ga K d) (.type "object")=some true)))))
 |.mk0 x=>PySem.W.makesIn K (He.ga K x)&&(He.eqO (PySem.W.findIn K (.ref (He.ga K x)) "__init__") (some (some (.builtin "object.__init__")))&&PySem.W.keepIn K (.ref (He.ga K x)))
 |.tup x zs=>qol K (PySem.W.nsIn K mainGlobals x) zs
 |.dno x z=>He.eqO (PySem.W.nsIn K (He.ga K x) z) (some none)
 |.dtu x z zs=>qol K (PySem.W.nsIn K (He.ga K x) z) zs
 |.tab x c P=>qs9 K (He.ga K x) c&&(PySem.W.codeHdIn K c P&&((K.lookup P).isNone&&decide (mainGlobals≠P)))
def qs5 (xa:List Xa) (K:PySem.W.Frag):Bool:=xa.all (Xa.ok K)
def qvY (ts:List (Str × List Str)) (w:World) (K:PySem.W.Frag):Prop:=(ts.map fun t=>He.dicW K (He.ga K t.1))=ts.map fun t=>some (He.keysIn w.params t.2)
theorem qwC {r:PySem.W.OpenRow} {q:Program} {H:PySem.W.Hook} {ob:PySem.W.SharedT→H.α} {M:Nat} {loose:List Str} {w:World}
  (a:∀os:OsState,(HandSHeadRun.endF (HandSHeadRun.stepQ (HandSHeadRun.denQ HandSHeadRun.tabQ) r.prog w) M r.prog w os).map (fun s=>HandSHeadRun.looksF r.prog (boot_heap w.params) s.abs)=some true)
  (b:∀os:OsState,(HandSHeadRun.endF (HandSHeadRun.stepQ (HandSHeadRun.denQ HandSHeadRun.tabQ) r.prog w) M r.prog w os).map (fun s=>HandSHeadRun.seenQ q loose (PySem.importedModules r.prog.main.body) (fun s=>PySem.W.xlAt q [] s&&PySem.W.recOk r.toRowW.records s) s.abs)=some (PySem.W.openGood q loose))
  (c:∀os:OsState,(HandSHeadRun.endF (HandSHeadRun.stepQ (HandSHeadRun.denQ HandSHeadRun.tabQ) r.prog w) M r.prog w os).map ob=some (H.val w)):HandSHeadRun.RunEq r q H ob M loose w:=by
 intro os
 have a:=a os
 have b:=b os
 have c:=c os
 cases e:HandSHeadRun.endF (HandSHeadRun.stepQ (HandSHeadRun.denQ HandSHeadRun.tabQ) r.prog w) M r.prog w os with
 |none=>rw[e] at a;cases a
 |some s =>
  rw[e] at a b c
  simp only[Option.map_some,Option.some.injEq] at a b c ⊢
  rw[a,b,c]
abbrev AlL:Type:=(He.AlD × Bool) × List (Option (List (Option (Str × Int))))
def obL (as:List Addr) (fa:List He.Fa) (fn:List He.DefD) (xa:List Xa) (ts:List (Str × List Str)) (g:Addr→Option Obj):AlL:=((He.obsD fa fn (He.frG g as),qs5 xa (He.frG g as)),ts.map fun(t:Str × List Str)=>He.dicW (He.frG g as) (He.ga (He.frG g as) t.1))
def hookL (as:List Addr) (fa:List He.Fa) (fn:List He.DefD) (xa:List Xa) (ts:List (Str × List Str)):PySem.W.Hook where
 α:=AlL
 obs:=fun s=>obL as fa fn xa ts s.heap.get?
 val:=fun w=>((He.valD fn,true),ts.map fun(t:Str × List Str)=>some (He.keysIn w.params t.2))
 says:=fun w h=>∃K:PySem.W.Frag,K.In h∧He.SaysD fa fn K∧qs5 xa K=true∧qvY ts w K
 of:=fun _ _ e=>⟨_,He.frG_in,congrArg (fun z:AlL=>z.1.1) e,congrArg (fun z:AlL=>z.1.2) e,congrArg (fun z:AlL=>z.2) e⟩
 keeps:=fun _ _ _ ⟨K,kin,says⟩ st=>⟨K,PySem.W.Frag.In.keeps kin st,says⟩
def obT (as:List Addr) (fa:List He.Fa) (fn:List He.DefD) (xa:List Xa) (ts:List (Str × List Str)) (s:PySem.W.SharedT):AlL:=obL as fa fn xa ts (HandSHeadRun.getT s)
theorem obT_eq {as:List Addr} {fa:List He.Fa} {fn:List He.DefD} {xa:List Xa} {ts:List (Str × List Str)} (s:PySem.W.SharedT):obT as fa fn xa ts s=(hookL as fa fn xa ts).obs s.abs:=by
 have:HandSHeadRun.getT s=s.abs.heap.get?:=funext fun a=>HandSHeadRun.getT_eq s a
 show obL as fa fn xa ts (HandSHeadRun.getT s)=obL as fa fn xa ts s.abs.heap.get?
 rw[this]
end Cm
set_option maxHeartbeats 0
namespace K18
open Cm PySem PySem.Spec PyProof.Rows L2
def top (i:Nat):Stmt:=PySem.Challenge.pw_cluemaker_k18_rows_read_and_refused.main.body.getD i (.Pass ⟨0,0,0,0⟩)
def sub (i j:Nat):Stmt:=match top i with
 |.ClassDef _ _ _ body _ _ _ _ _ _ _=>body.getD j (.Pass ⟨0,0,0,0⟩)
 |_=>.Pass ⟨0,0,0,0⟩
def mkF (n:Str) (e:Stmt):He.DefD:=⟨(n,none),n,n,defArgs e,defBody e,defScope e,[],[]⟩
def mkD (n:Str × Option Str) (a b:Str) (e:Stmt):He.DefD:=⟨n,a,b,defArgs e,defBody e,defScope e,[],[]⟩
def qgf:He.DefD:=mkF "_law_floor" (top 36)
def qgb:He.DefD:=mkF "_law_mixed" (top 35)
def qf1:He.DefD:=mkF "_law_cells" (top 37)
def qhO:He.DefD:=mkF "_law_row" (top 42)
def qgC:He.DefD:=mkF "_law_sign" (top 43)
def qeQ:He.DefD:=mkF "_law_spoiled" (top 44)
def qhq:He.DefD:=mkF "number_of" (top 29)
def qhc:He.DefD:=mkF "sign_told" (top 30)
def qf6:He.DefD:=mkF "many_cells" (top 15)
def qgg:He.DefD:=mkF "whole_rule" (top 32)
def qgc:He.DefD:=mkF "cells_told" (top 31)
def qg3:He.DefD:=mkF "read_rule" (top 33)
def qgd:He.DefD:=mkF "_law_whole" (top 38)
def qhf:He.DefD:=mkF "_law_read" (top 45)
def qfE:He.DefD:=mkF "_law_number" (top 39)
def qek:He.DefD:=mkF "_law_of_cells" (top 40)
def qhT:He.DefD:=mkF "_law_due" (top 41)
def quJ:He.DefD:=mkF "law" (top 46)
def qfb:He.DefD:=mkD ("Unlike",some "name") "name" "Unlike.name" (sub 18 0)
def qfZ:He.DefD:=mkD ("Total",some "name") "name" "Total.name" (sub 19 0)
def qfh:He.DefD:=mkD ("Rising",some "name") "name" "Rising.name" (sub 20 0)
def qgN:He.DefD:=mkD ("Seen",some "name") "name" "Seen.name" (sub 21 0)
def qeH:He.DefD:=mkD ("Counted",some "name") "name" "Counted.name" (sub 22 0)
def qfl:He.DefD:=mkD ("Joined",some "name") "name" "Joined.name" (sub 23 0)
def qel:He.DefD:=mkD ("NoSquare",some "name") "name" "NoSquare.name" (sub 24 0)
def qgU:He.DefD:=mkD ("Ring",some "name") "name" "Ring.name" (sub 25 0)
def qb7:He.DefD:=mkD ("Unlike",some "told_numbers") "told_numbers" "Rule.told_numbers" (sub 17 8)
def qci:He.DefD:=mkD ("Total",some "told_numbers") "told_numbers" "Total.told_numbers" (sub 19 3)
def qb6:He.DefD:=mkD ("Rising",some "told_numbers") "told_numbers" "Rule.told_numbers" (sub 17 8)
def qct:He.DefD:=mkD ("Seen",some "told_numbers") "told_numbers" "Seen.told_numbers" (sub 21 3)
def qbY:He.DefD:=mkD ("Counted",some "told_numbers") "told_numbers" "Counted.told_numbers" (sub 22 2)
def qcd:He.DefD:=mkD ("Joined",some "told_numbers") "told_numbers" "Joined.told_numbers" (sub 23 2)
def qbU:He.DefD:=mkD ("NoSquare",some "told_numbers") "told_numbers" "NoSquare.told_numbers" (sub 24 2)
def qcD:He.DefD:=mkD ("Ring",some "told_numbers") "told_numbers" "Ring.told_numbers" (sub 25 2)
def qeN:He.DefD:=mkD ("Unlike",some "spots") "spots" "Rule.spots" (sub 17 2)
def qfD:He.DefD:=mkD ("Total",some "spots") "spots" "Rule.spots" (sub 17 2)
def qeP:He.DefD:=mkD ("Rising",some "spots") "spots" "Rule.spots" (sub 17 2)
def qf2:He.DefD:=mkD ("Seen",some "spots") "spots" "Rule.spots" (sub 17 2)
def qej:He.DefD:=mkD ("Counted",some "spots") "spots" "Rule.spots" (sub 17 2)
def qeL:He.DefD:=mkD ("Joined",some "spots") "spots" "Rule.spots" (sub 17 2)
def qdQ:He.DefD:=mkD ("NoSquare",some "spots") "spots" "Rule.spots" (sub 17 2)
def qfW:He.DefD:=mkD ("Ring",some "spots") "spots" "Rule.spots" (sub 17 2)
def qd5:He.DefD:=mkD ("Unlike",some "number") "number" "Rule.number" (sub 17 4)
def qeI:He.DefD:=mkD ("Total",some "number") "number" "Rule.number" (sub 17 4)
def qdX:He.DefD:=mkD ("Rising",some "number") "number" "Rule.number" (sub 17 4)
def qfd:He.DefD:=mkD ("Seen",some "number") "number" "Rule.number" (sub 17 4)
def qdP:He.DefD:=mkD ("Counted",some "number") "number" "Rule.number" (sub 17 4)
def qei:He.DefD:=mkD ("Joined",some "number") "number" "Rule.number" (sub 17 4)
def qdh:He.DefD:=mkD ("NoSquare",some "number") "number" "Rule.number" (sub 17 4)
def qfx:He.DefD:=mkD ("Ring",some "number") "number" "Rule.number" (sub 17 4)
def qfy:He.DefD:=mkD ("Unlike",some "sign") "sign" "Rule.sign" (sub 17 5)
def qga:He.DefD:=mkD ("Total",some "sign") "sign" "Rule.sign" (sub 17 5)
def qfA:He.DefD:=mkD ("Rising",some "sign") "sign" "Rule.sign" (sub 17 5)
def qhs:He.DefD:=mkD ("Seen",some "sign") "sign" "Rule.sign" (sub 17 5)
def qeR:He.DefD:=mkD ("Counted",some "sign") "sign" "Rule.sign" (sub 17 5)
def qfi:He.DefD:=mkD ("Joined",some "sign") "sign" "Rule.sign" (sub 17 5)
def qec:He.DefD:=mkD ("NoSquare",some "sign") "sign" "Rule.sign" (sub 17 5)
def qhr:He.DefD:=mkD ("Ring",some "sign") "sign" "Rule.sign" (sub 17 5)
def qff:He.DefD:=mkD ("Unlike",some "line") "line" "Rule.line" (sub 17 7)
def qfX:He.DefD:=mkD ("Total",some "line") "line" "Rule.line" (sub 17 7)
def qfz:He.DefD:=mkD ("Rising",some "line") "line" "Rule.line" (sub 17 7)
def qgX:He.DefD:=mkD ("Seen",some "line") "line" "Rule.line" (sub 17 7)
def qeM:He.DefD:=mkD ("Counted",some "line") "line" "Rule.line" (sub 17 7)
def qfm:He.DefD:=mkD ("Joined",some "line") "line" "Rule.line" (sub 17 7)
def qen:He.DefD:=mkD ("NoSquare",some "line") "line" "Rule.line" (sub 17 7)
def qg6:He.DefD:=mkD ("Ring",some "line") "line" "Rule.line" (sub 17 7)
def qdk:He.DefD:=mkD ("Unlike",some "__init__") "__init__" "Rule.__init__" (sub 17 0)
def qdN:He.DefD:=mkD ("Total",some "__init__") "__init__" "Rule.__init__" (sub 17 0)
def qdf:He.DefD:=mkD ("Rising",some "__init__") "__init__" "Rule.__init__" (sub 17 0)
def qd8:He.DefD:=mkD ("Seen",some "__init__") "__init__" "Rule.__init__" (sub 17 0)
def qc5:He.DefD:=mkD ("Counted",some "__init__") "__init__" "Rule.__init__" (sub 17 0)
def qdg:He.DefD:=mkD ("Joined",some "__init__") "__init__" "Rule.__init__" (sub 17 0)
def qcE:He.DefD:=mkD ("NoSquare",some "__init__") "__init__" "Rule.__init__" (sub 17 0)
def qem:He.DefD:=mkD ("Ring",some "__init__") "__init__" "Rule.__init__" (sub 17 0)
def fnA:List He.DefD:=[qgf,qgb,qf1,qhO,qgC,qeQ,qhq,qhc,qf6,qgg,qgc,qg3,qgd,qhf,qfE,qek,qhT,quJ,qfb,qfZ,qfh,qgN,qeH,qfl,qel,qgU,qb7,qci,qb6,qct,qbY,qcd,qbU,qcD,qeN,qfD,qeP]
def fnB:List He.DefD:=[qf2,qej,qeL,qdQ,qfW,qd5,qeI,qdX,qfd,qdP,qei,qdh,qfx,qfy,qga,qfA,qhs,qeR,qfi,qec,qhr,qff,qfX,qfz,qgX,qeM,qfm,qen,qg6,qdk,qdN,qdf,qd8,qc5,qdg,qcE,qem]
def fn:List He.DefD:=fnA++fnB
def fa0:List He.Fa:=[.glo "_law_floor",.glo "_law_mixed",.glo "_law_cells",.glo "_law_row",.glo "_law_sign",.glo "_law_spoiled",.glo "NoRule",.exc "NoRule",.int "LONGEST" 2,.str "FIGURES" "0123456789",.glo "number_of",.glo "sign_told",.glo "many_cells",.cls "Unlike",.noat "Unlike" "ground",.cls "Total",.noat "Total" "ground",.cls "Rising",.noat "Rising" "ground",.cls "Seen",.noat "Seen" "ground",.cls "Counted",.noat "Counted" "ground",.cls "Joined",.noat "Joined" "ground",.cls "NoSquare",.noat "NoSquare" "ground",.cls "Ring",.noat "Ring" "ground",.noat "Unlike" "cells",.noat "Total" "cells",.noat "Rising" "cells",.noat "Seen" "cells",.noat "Counted" "cells",.noat "Joined" "cells",.noat "NoSquare" "cells",.noat "Ring" "cells",.noat "Unlike" "wanted",.noat "Total" "wanted",.noat "Rising" "wanted",.noat "Seen" "wanted",.noat "Counted" "wanted",.noat "Joined" "wanted",.noat "NoSquare" "wanted",.noat "Ring" "wanted",.noat "Unlike" "of_sign",.noat "Total" "of_sign",.noat "Rising" "of_sign",.noat "Seen" "of_sign",.noat "Counted" "of_sign",.noat "Joined" "of_sign",.noat "NoSquare" "of_sign",.noat "Ring" "of_sign",.mkr "Unlike",.glo "Unlike",.mkr "Total",.glo "Total",.mkr "Rising",.glo "Rising",.mkr "Seen",.glo "Seen",.mkr "Counted",.glo "Counted",.mkr "Joined",.glo "Joined",.mkr "NoSquare",.glo "NoSquare",.mkr "Ring",.glo "Ring",.glo "whole_rule",.glo "cells_told",.glo "read_rule",.glo "_law_whole",.meth "Unlike" "name",.meth "Total" "name",.meth "Rising" "name",.meth "Seen" "name",.meth "Counted" "name",.meth "Joined" "name",.meth "NoSquare" "name",.meth "Ring" "name",.meth "Unlike" "spots",.meth "Total" "spots",.meth "Rising" "spots",.meth "Seen" "spots",.meth "Counted" "spots",.meth "Joined" "spots",.meth "NoSquare" "spots",.meth "Ring" "spots",.meth "Unlike" "number",.meth "Total" "number",.meth "Rising" "number",.meth "Seen" "number",.meth "Counted" "number",.meth "Joined" "number",.meth "NoSquare" "number",.meth "Ring" "number",.meth "Unlike" "sign",.meth "Total" "sign",.meth "Rising" "sign",.meth "Seen" "sign",.meth "Counted" "sign",.meth "Joined" "sign",.meth "NoSquare" "sign",.meth "Ring" "sign",.meth "Unlike" "told_numbers",.meth "Rising" "told_numbers",.meth "Total" "told_numbers",.meth "Seen" "told_numbers",.meth "Counted" "told_numbers",.meth "Joined" "told_numbers",.meth "NoSquare" "told_numbers",.meth "Ring" "told_numbers",.meth "Unlike" "line",.meth "Total" "line",.meth "Rising" "line",.meth "Seen" "line",.meth "Counted" "line",.meth "Joined" "line",.meth "NoSquare" "line",.meth "Ring" "line",.glo "ClueError",.glo "NoFloor",.glo "NoFilling",.glo "NoPuzzle",.glo "TooMany",.glo "NotOne",.glo "NoMove",.glo "NoText",.glo "NoName",.glo "NoRow",.glo "BadThought",.glo "Rule",.glo "_law_read",.glo "_law_number",.glo "_law_of_cells",.glo "_law_due",.glo "law"]
abbrev fa:List He.Fa:=bltNames.map He.Fa.free++fa0
def xa:List Xa:=[.ck "ClueError" true "NoRule" true,.ik "ClueError" true "Ring" false,.ik "ClueError" true "NoSquare" false,.ik "ClueError" true "Joined" false,.ik "ClueError" true "Counted" false,.ik "ClueError" true "Seen" false,.ik "ClueError" true "Rising" false,.ik "ClueError" true "Total" false,.ik "ClueError" true "Unlike" false,.ck "NoRule" true "NoRule" true,.ik "NoRule" true "Ring" false,.ik "NoRule" true "NoSquare" false,.ik "NoRule" true "Joined" false,.ik "NoRule" true "Counted" false,.ik "NoRule" true "Seen" false,.ik "NoRule" true "Rising" false,.ik "NoRule" true "Total" false,.ik "NoRule" true "Unlike" false,.ck "ValueError" false "NoRule" true,.ck "NoFloor" true "NoRule" false,.ik "NoFloor" true "Ring" false,.ik "NoFloor" true "NoSquare" false,.ik "NoFloor" true "Joined" false,.ik "NoFloor" true "Counted" false,.ik "NoFloor" true "Seen" false,.ik "NoFloor" true "Rising" false,.ik "NoFloor" true "Total" false,.ik "NoFloor" true "Unlike" false,.ck "NoFilling" true "NoRule" false,.ik "NoFilling" true "Ring" false,.ik "NoFilling" true "NoSquare" false,.ik "NoFilling" true "Joined" false,.ik "NoFilling" true "Counted" false,.ik "NoFilling" true "Seen" false,.ik "NoFilling" true "Rising" false,.ik "NoFilling" true "Total" false,.ik "NoFilling" true "Unlike" false,.ck "NoPuzzle" true "NoRule" false,.ik "NoPuzzle" true "Ring" false,.ik "NoPuzzle" true "NoSquare" false,.ik "NoPuzzle" true "Joined" false,.ik "NoPuzzle" true "Counted" false,.ik "NoPuzzle" true "Seen" false,.ik "NoPuzzle" true "Rising" false,.ik "NoPuzzle" true "Total" false,.ik "NoPuzzle" true "Unlike" false,.ck "TooMany" true "NoRule" false,.ik "TooMany" true "Ring" false,.ik "TooMany" true "NoSquare" false,.ik "TooMany" true "Joined" false,.ik "TooMany" true "Counted" false,.ik "TooMany" true "Seen" false,.ik "TooMany" true "Rising" false,.ik "TooMany" true "Total" false,.ik "TooMany" true "Unlike" false,.ck "NotOne" true "NoRule" false,.ik "NotOne" true "Ring" false,.ik "NotOne" true "NoSquare" false,.ik "NotOne" true "Joined" false,.ik "NotOne" true "Counted" false,.ik "NotOne" true "Seen" false,.ik "NotOne" true "Rising" false,.ik "NotOne" true "Total" false,.ik "NotOne" true "Unlike" false,.ck "NoMove" true "NoRule" false,.ik "NoMove" true "Ring" false,.ik "NoMove" true "NoSquare" false,.ik "NoMove" true "Joined" false,.ik "NoMove" true "Counted" false,.ik "NoMove" true "Seen" false,.ik "NoMove" true "Rising" false,.ik "NoMove" true "Total" false,.ik "NoMove" true "Unlike" false,.ck "NoText" true "NoRule" false,.ik "NoText" true "Ring" false,.ik "NoText" true "NoSquare" false,.ik "NoText" true "Joined" false,.ik "NoText" true "Counted" false,.ik "NoText" true "Seen" false,.ik "NoText" true "Rising" false,.ik "NoText" true "Total" false,.ik "NoText" true "Unlike" false,.ck "NoName" true "NoRule" false,.ik "NoName" true "Ring" false,.ik "NoName" true "NoSquare" false,.ik "NoName" true "Joined" false,.ik "NoName" true "Counted" false,.ik "NoName" true "Seen" false,.ik "NoName" true "Rising" false,.ik "NoName" true "Total" false,.ik "NoName" true "Unlike" false,.ck "NoRow" true "NoRule" false,.ik "NoRow" true "Ring" false,.ik "NoRow" true "NoSquare" false,.ik "NoRow" true "Joined" false,.ik "NoRow" true "Counted" false,.ik "NoRow" true "Seen" false,.ik "NoRow" true "Rising" false,.ik "NoRow" true "Total" false,.ik "NoRow" true "Unlike" false,.ck "BadThought" true "NoRule" false,.ik "BadThought" true "Ring" false,.ik "BadThought" true "NoSquare" false,.ik "BadThought" true "Joined" false,.ik "BadThought" true "Counted" false,.ik "BadThought" true "Seen" false,.ik "BadThought" true "Rising" false,.ik "BadThought" true "Total" false,.ik "BadThought" true "Unlike" false,.ik "Rule" true "Ring" true,.ik "Rule" true "NoSquare" true,.ik "Rule" true "Joined" true,.ik "Rule" true "Counted" true,.ik "Rule" true "Seen" true,.ik "Rule" true "Rising" true,.ik "Rule" true "Total" true,.ik "Rule" true "Unlike" true]
def ts:List (Str × List Str):=[]
abbrev R:PySem.W.OpenRow:=PySem.W.OpenLaw.row PySem.Challenge.rw_cluemaker_k18_rows_read_and_refused
def as:List Addr:=([3,31,30,44,43,56,55,68,67,80,79,99,98,111,110,123,122,135,134,147,146,159,158,171,170,258,257,293,292,340]:List Addr)++([339,380,379,427,426,467,466,507,506,547,546,587,586,636,635,629,628,643,642,672,671,679,678,686,685,596,595,603,602,180]:List Addr)++([179,194,193,617,616,610,609,622,621,650,649,276,275,309,308,356,355,396,395,443,442,483,482,523,522,563,562,208,207,222]:List Addr)++([221,229,228,248,247,330,329,417,416,457,456,497,496,537,536,577,576,241,240,693,692,655,654,662,661,667,666,700,699]:List Addr)
def loose:List Str:=(["_wall","ClueError","NoFloor","NoFilling","NoRule","NoPuzzle","BadThought","TooMany","NotOne","NoMove","NoText","NoName","NoRow","many_cells","Rule","Unlike","Total","Rising","Seen","Counted","Joined","NoSquare","Ring","FIGURES","LONGEST","number_of","sign_told","cells_told","whole_rule","read_rule"]:List Str)++(["_law_mixed","_law_floor","_law_cells","_law_whole","_law_number","_law_of_cells","_law_due","_law_row","_law_sign","_law_spoiled","_law_read"]:List Str)
abbrev vw:Program:=PySem.W.view R.prog [46]
theorem rA (w:World):∀os:OsState,(HandSHeadRun.endF (HandSHeadRun.stepQ (HandSHeadRun.denQ HandSHeadRun.tabQ) R.prog w) 6482 R.prog w os).map (fun s=>HandSHeadRun.looksF R.prog (PySem.W.boot_heap w.params) s.abs)=some true:=by
 intro os
 kernel_rfl
theorem rB (w:World):∀os:OsState,(HandSHeadRun.endF (HandSHeadRun.stepQ (HandSHeadRun.denQ HandSHeadRun.tabQ) R.prog w) 6482 R.prog w os).map (fun s=>HandSHeadRun.seenQ vw loose (PySem.importedModules R.prog.main.body) (fun s=>PySem.W.xlAt vw [] s&&PySem.W.recOk R.toRowW.records s) s.abs)=some (PySem.W.openGood vw loose):=by
 intro os
 kernel_rfl
theorem rC (w:World):∀os:OsState,(HandSHeadRun.endF (HandSHeadRun.stepQ (HandSHeadRun.denQ HandSHeadRun.tabQ) R.prog w) 6482 R.prog w os).map (obT as fa fn xa ts)=some ((hookL as fa fn xa ts).val w):=by
 intro os
 kernel_rfl
theorem run (w:World):HandSHeadRun.RunEq R vw (hookL as fa fn xa ts) (obT as fa fn xa ts) 6482 loose w:=qwC (rA w) (rB w) (rC w)
end K18
namespace Cm
open PySem PySem.Spec PyProof.Rows L2
inductive D where
 |non | bl (b:Bool) | int (i:Int) | str (s:List Nat)
 |lst (xs:List D) | tup (xs:List D)
 |ins (c:Nat) (fs:List D) | exc (c:Nat) (fs:List D)
mutual
@[simp] def D.flat:D→Bool
 |.lst _=>false
 |.tup xs=>D.flats xs
 |.exc _ fs=>D.flats fs
 |.non=>true
 |.bl _=>true
 |.int _=>true
 |.str _=>true
 |.ins _ _=>true
@[simp] def D.flats:List D→Bool
 |[]=>true
 |d::ds=>d.flat&&D.flats ds
end
mutual
def D.fit:D→Nat→Bool
 |.non,_=>true
 |.bl _,_=>true
 |.int _,_=>true
 |.str s,_=>PyData.strOk ⟨s.toArray⟩
 |.lst xs,n=>decide (0<n)&&D.fits xs (n - 1)
 |.tup xs,n=>decide (0<n)&&D.fits xs (n - 1)
 |.ins _ _,_=>false
 |.exc _ _,_=>false
def D.fits:List D→Nat→Bool
 |[],_=>true
 |d::ds,n=>d.fit n&&D.fits ds n
end
mutual
def D.py:D→PyData
 |.non=>.none
 |.bl b=>.bool b
 |.int i=>.int i
 |.str s=>.str ⟨s.toArray⟩
 |.lst xs=>.list (D.pys xs)
 |.tup xs=>.tuple (D.pys xs)
 |.ins _ _=>.none
 |.exc _ _=>.none
def D.pys:List D→List PyData
 |[]=>[]
 |d::ds=>d.py::D.pys ds
end
mutual
def D.eqb:D→D→Bool
 |.non,y=>match y with
  |.non=>true
  |_=>false
 |.bl a,y=>match y with
  |.bl b=>a == b
  |.int j=>decide ((if a then 1 else 0)=j)
  |_=>false
 |.int i,y=>match y with
  |.bl b=>decide (i=(if b then 1 else 0))
  |.int j=>decide (i=j)
  |_=>false
 |.str x,y=>match y with
  |.str z=>decide (x=z)
  |_=>false
 |.lst xs,y=>match y with
  |.lst ys=>D.eqbs xs ys
  |_=>false
 |.tup xs,y=>match y with
  |.tup ys=>D.eqbs xs ys
  |_=>false
 |.ins _ _,_=>false
 |.exc _ _,_=>false
def D.eqbs:List D→List D→Bool
 |[],ys=>match ys with
  |[]=>true
  |_=>false
 |x::xs,ys=>match ys with
  |[]=>false
  |y::ys=>D.eqb x y&&D.eqbs xs ys
end
mutual
theorem D.canLay:∀(d:D) (n:Nat),d.fit n=true→d.py.canLay0=true∧d.py.depth≤n
 |.non,n,_=>⟨by simp[D.py,PyData.canLay0],by simp[D.py,PyData.depth]⟩
 |.bl _,n,_=>⟨by simp[D.py,PyData.canLay0],by simp[D.py,PyData.depth]⟩
 |.int _,n,_=>⟨by simp[D.py,PyData.canLay0],by simp[D.py,PyData.depth]⟩
 |.str s,n,h=>⟨by simpa[D.py,PyData.canLay0,D.fit] using h,by simp[D.py,PyData.depth]⟩
 |.lst xs,n,h=>by
  simp only[D.fit,Bool.and_eq_true,decide_eq_true_eq] at h
  obtain⟨h1,h2⟩:=D.canLays xs (n - 1) h.2
  refine⟨by simpa[D.py,PyData.canLay0] using h1,?_⟩
  simp only[D.py,PyData.depth]
  omega
 |.tup xs,n,h=>by
  simp only[D.fit,Bool.and_eq_true,decide_eq_true_eq] at h
  obtain⟨h1,h2⟩:=D.canLays xs (n - 1) h.2
  refine⟨by simpa[D.py,PyData.canLay0] using h1,?_⟩
  simp only[D.py,PyData.depth]
  omega
 |.ins _ _,_,h=>by simp[D.fit] at h
 |.exc _ _,_,h=>by simp[D.fit] at h
theorem D.canLays:∀(ds:List D) (n:Nat),D.fits ds n=true→PyData.canLayAll0 (D.pys ds)=true∧PyData.depthAll (D.pys ds)≤n
 |[],n,_=>⟨by simp[D.pys,PyData.canLayAll0],by simp[D.pys,PyData.depthAll]⟩
 |d::ds,n,h=>by
  simp only[D.fits,Bool.and_eq_true] at h
  obtain⟨h1,h2⟩:=D.canLay d n h.1
  obtain⟨h3,h4⟩:=D.canLays ds n h.2
  refine⟨by simp[D.pys,PyData.canLayAll0,h1,h3],?_⟩
  simp only[D.pys,PyData.depthAll]
  omega
end
theorem D.shaped {d:D} (h:d.fit 64=true):SeqAt.shaped d.py=true:=by
 obtain⟨h1,h2⟩:=D.canLay d 64 h
 simp[SeqAt.shaped,h1,h2]
theorem qhk {x z:List Nat}:(x.toArray=z.toArray)↔x=z:=by
 constructor
 ·intro h
  have:=congrArg Array.toList h
  simpa using this
 ·rintro rfl;rfl
mutual
theorem D.eqv_py:∀(a b:D) (n m:Nat),a.fit n=true→b.fit m=true→PyData.eqv a.py b.py=a.eqb b
 |.non,b,_,_,_,hb=>by cases b<;>simp[D.py,D.eqb,PyData.eqv,D.fit] at *
 |.bl x,b,_,_,_,hb=>by
  cases b<;>simp[D.py,D.eqb,PyData.eqv,D.fit] at *
  cases x<;>simp[Bool.beq_eq_decide_eq]<;>rfl
 |.int x,b,_,_,_,hb=>by
  cases b<;>simp[D.py,D.eqb,PyData.eqv,D.fit] at *
  ·rename_i y;cases y<;>simp[Bool.beq_eq_decide_eq]<;>rfl
  ·rfl
 |.str x,b,_,_,_,hb=>by
  cases b<;>simp[D.py,D.eqb,PyData.eqv,D.fit] at *
  rename_i z
  by_cases e:x=z
  ·subst e;simp
  ·rw[decide_eq_false e]
   refine beq_eq_false_iff_ne.mpr fun q=>e ?_
   injection q with q
   exact qhk.mp q
 |.lst xs,b,n,m,ha,hb=>by
  cases b with
  |lst ys =>
   simp only[D.fit,Bool.and_eq_true,decide_eq_true_eq] at ha hb
   simp only[D.py,D.eqb,PyData.eqv]
   exact D.eqv_pys xs ys _ _ ha.2 hb.2
  |_=>simp[D.py,D.eqb,PyData.eqv,D.fit] at *
 |.tup xs,b,n,m,ha,hb=>by
  cases b with
  |tup ys =>
   simp only[D.fit,Bool.and_eq_true,decide_eq_true_eq] at ha hb
   simp only[D.py,D.eqb,PyData.eqv]
   exact D.eqv_pys xs ys _ _ ha.2 hb.2
  |_=>simp[D.py,D.eqb,PyData.eqv,D.fit] at *
 |.ins _ _,_,_,_,h,_=>by simp[D.fit] at h
 |.exc _ _,_,_,_,h,_=>by simp[D.fit] at h
theorem D.eqv_pys:∀(xs ys:List D) (n m:Nat),D.fits xs n=true→D.fits ys m=true→PyData.eqvAll (D.pys xs) (D.pys ys)=D.eqbs xs ys
 |[],ys,_,_,_,_=>by cases ys<;>simp[D.pys,D.eqbs,PyData.eqvAll]
 |x::xs,ys,n,m,ha,hb=>by
  cases ys with
  |nil=>simp[D.pys,D.eqbs,PyData.eqvAll]
  |cons y ys =>
   simp only[D.fits,Bool.and_eq_true] at ha hb
   simp only[D.pys,D.eqbs,PyData.eqvAll]
   rw[D.eqv_py x y n m ha.1 hb.1,D.eqv_pys xs ys n m ha.2 hb.2]
end
structure Glo where
 K:PySem.W.Frag
 ca:Nat→Addr
 fl:Nat→List Str
def exK (cls:Value) (a:Addr):HO:=.ext fun h=>∃(oe:Obj) (vs:Array Value),h.get? a=some oe∧Zc cls none oe∧oe.data=.fields vs
theorem qtK {P:Program} {w:World} {H:Hp} {h:Heap} {a:Addr} {cls:Value} {oe:Obj} {vs:Array Value} (e:h.get? a=some oe) (z:Zc cls none oe) (d:oe.data=.fields vs):ObjOk P w H h a (exK cls a):=
 ⟨⟨oe,vs,e,z,d⟩,⟨oe,e⟩,fun _ _ ⟨o,v,q,r⟩ k=>⟨o,v,k o q,r⟩⟩
mutual
def Rep (G:Glo) (P:Hp) (LN:Addr→List V→Prop):D→V→Prop
 |.non,v=>v=.non
 |.bl b,v=>v=.bl b
 |.int i,v=>v=.int i
 |.str s,v=>v=.str ⟨s.toArray⟩
 |.lst ds,v=>∃a xs,v=.ref a∧LN a xs∧Reps G P LN ds xs
 |.tup ds,v=>∃a xs,v=.ref a∧SqT G.K P a xs∧Reps G P LN ds xs
 |.ins c ds,v=>∃a dx xs,v=.ref a∧P a=some (.ins (G.ca c) dx ((G.fl c).zip xs))∧(G.fl c).length=ds.length∧Reps G P (SqL G.K P) ds xs
 |.exc c fs,v=>fs=[]∧∃a,v=.ref a∧P a=some (exK (.ref (G.ca c)) a)
def Reps (G:Glo) (P:Hp) (LN:Addr→List V→Prop):List D→List V→Prop
 |[],vs=>vs=[]
 |d::ds,vs=>∃v r,vs=v::r∧Rep G P LN d v∧Reps G P LN ds r
end
def ntO:HO→Bool
 |.tbl _=>false
 |_=>true
structure Same (H H':Hp):Prop where
 g0:∀(b:Addr) (o:HO),H b=some o→ntO o=true→H' b=some o
 f0:∀(b:Addr),H' b=none→H b=none
theorem Same.get {H H':Hp} (h:Same H H') (b:Addr) (o:HO) (e:H b=some o) (n:ntO o=true:=by rfl):H' b=some o:=h.g0 b o e n
instance {H H':Hp}:CoeFun (Same H H') (fun _=>∀(b:Addr) (o:HO),H b=some o→(n:ntO o=true:=by rfl)→H' b=some o):=⟨@Same.get H H'⟩
theorem Same.free {H H':Hp} (h:Same H H') {l:Addr} (e:H' l=none):H l=none:=h.f0 l e
theorem Same.refl (H:Hp):Same H H:=⟨fun _ _ e _=>e,fun _ e=>e⟩
theorem Same.trans {H H1 H2:Hp} (h:Same H H1) (k:Same H1 H2):Same H H2:=⟨fun b o e n=>k.g0 b o (h.g0 b o e n) n,fun b e=>h.f0 b (k.f0 b e)⟩
theorem Same.of {H H':Hp} (h:L2.Same H H'):Same H H':=⟨fun b o e _=>h b o e,fun _ e=>h.free e⟩
theorem Same.nil {H:Hp}:Same (fun _=>none) H:=Same.of fun _ _ e=>nomatch e
def TF (H:Hp):Prop:=∀b o,H b=some o→ntO o=true
theorem TF.nil:TF (fun _=>none):=fun _ _ e=>nomatch e
theorem Same.back {P H:Hp} (h:Same P H) (t:TF P) {b:Addr} {o:HO} (e:H b=some o) (q:P b≠none):P b=some o:=by
 obtain⟨u,q⟩:=Option.ne_none_iff_exists'.mp q
 have:=h.g0 b u q (t b u q)
 rw[e] at this;cases this;exact q
def qe3 (H:Hp):Hp:=fun a=>match H a with
 |some o=>if ntO o=true then some o else none
 |none=>none
theorem qi6 {H:Hp} {a:Addr} {o:HO} (h:qe3 H a=some o):H a=some o∧ntO o=true:=by
 unfold qe3 at h
 split at h
 ·split at h
  ·cases h;exact⟨by assumption,by assumption⟩
  ·cases h
 ·cases h
theorem ql7 {H:Hp} {a:Addr} {o:HO} (h:H a=some o) (n:ntO o=true:=by rfl):qe3 H a=some o:=by
 unfold qe3;rw[h];exact if_pos n
theorem qew (H:Hp):Same (qe3 H) H:=Same.of fun _ _ e=>(qi6 e).1
theorem qfg {K:PySem.W.Frag} {H:Hp} {a:Addr} {xs:List V} (h:SqL K H a xs):SqL K (qe3 H) a xs:=by
 rcases h with(h | ⟨o,h⟩) | h
 ·exact .inl (.inl (ql7 h))
 ·exact .inl (.inr ⟨o,ql7 h⟩)
 ·exact .inr h
theorem qgu (H:Hp):TF (qe3 H):=fun _ _ e=>(qi6 e).2
theorem Same.seq {K:PySem.W.Frag} {H H':Hp} {a:Addr} {xs:List V} (e:Same H H') (h:SqL K H a xs):SqL K H' a xs:=by
 rcases h with(h | ⟨o,h⟩) | h
 ·exact .inl (.inl (e _ _ h))
 ·exact .inl (.inr ⟨o,e _ _ h⟩)
 ·exact .inr h
theorem Same.seqT {K:PySem.W.Frag} {H H':Hp} {a:Addr} {xs:List V} (e:Same H H') (h:SqT K H a xs):SqT K H' a xs:=by
 rcases h with(h | ⟨o,h⟩) | h
 ·exact .inl (.inl (e _ _ h))
 ·exact .inl (.inr ⟨o,e _ _ h⟩)
 ·exact .inr h
section
variable {G:Glo} {P P':Hp} {LN LN':Addr→List V→Prop}
mutual
theorem Rep.mono (hp:Same P P'):∀(d:D) (v:V) {LN LN':Addr→List V→Prop} (_:∀a xs,LN a xs→LN' a xs),Rep G P LN d v→Rep G P' LN' d v
 |.non,_,_,_,_,h=>h
 |.bl _,_,_,_,_,h=>h
 |.int _,_,_,_,_,h=>h
 |.str _,_,_,_,_,h=>h
 |.lst ds,v,_,_,hl,⟨a,xs,e,h1,h2⟩=>⟨a,xs,e,hl _ _ h1,Reps.mono hp ds xs hl h2⟩
 |.tup ds,v,_,_,hl,⟨a,xs,e,h1,h2⟩=>⟨a,xs,e,Same.seqT hp h1,Reps.mono hp ds xs hl h2⟩
 |.ins c ds,v,_,_,hl,⟨a,dx,xs,e,h1,h2,h3⟩=>⟨a,dx,xs,e,hp _ _ h1,h2,Reps.mono hp ds xs (fun _ _ q=>Cm.Same.seq hp q) h3⟩
 |.exc _ _,_,_,_,_,⟨e,a,h1,h2⟩=>⟨e,a,h1,hp _ _ h2⟩
theorem Reps.mono (hp:Same P P'):∀(ds:List D) (vs:List V) {LN LN':Addr→List V→Prop} (_:∀a xs,LN a xs→LN' a xs),Reps G P LN ds vs→Reps G P' LN' ds vs
 |[],_,_,_,_,h=>h
 |d::ds,vs,_,_,hl,⟨v,r,e,h1,h2⟩=>⟨v,r,e,Rep.mono hp d v hl h1,Reps.mono hp ds r hl h2⟩
end
mutual
theorem Rep.flat:∀(d:D) (v:V),d.flat=true→Rep G P LN d v→Rep G P LN' d v
 |.non,_,_,h=>h
 |.bl _,_,_,h=>h
 |.int _,_,_,h=>h
 |.str _,_,_,h=>h
 |.lst ds,v,f,_=>by simp[D.flat] at f
 |.tup ds,v,f,⟨a,xs,e,h1,h2⟩=>⟨a,xs,e,h1,Reps.flat ds xs (by simpa[D.flat] using f) h2⟩
 |.ins c ds,v,_,h=>h
 |.exc _ _,_,_,h=>h
theorem Reps.flat:∀(ds:List D) (vs:List V),D.flats ds=true→Reps G P LN ds vs→Reps G P LN' ds vs
 |[],_,_,h=>h
 |d::ds,vs,f,⟨v,r,e,h1,h2⟩=>by
  simp only[D.flats,Bool.and_eq_true] at f
  exact⟨v,r,e,Rep.flat d v f.1 h1,Reps.flat ds r f.2 h2⟩
end
theorem Reps.length:∀{ds:List D} {vs:List V},Reps G P LN ds vs→vs.length=ds.length
 |[],_,h=>by cases h;rfl
 |d::ds,vs,⟨v,r,e,h1,h2⟩=>by subst e;simp[Reps.length h2]
theorem Reps.get:∀{ds:List D} {vs:List V} {i:Nat} {d:D},Reps G P LN ds vs→ds[i]? = some d→∃v,vs[i]? = some v∧Rep G P LN d v
 |[],_,_,_,_,h=>by simp at h
 |d::ds,vs,0,_,⟨v,r,e,h1,h2⟩,h=>by subst e;simp at h;subst h;exact⟨v,rfl,h1⟩
 |d::ds,vs,i+1,_,⟨v,r,e,h1,h2⟩,h=>by subst e;simp at h;obtain⟨w,q1,q2⟩:=Reps.get h2 h;exact⟨w,by simpa using q1,q2⟩
theorem Reps.append:∀{ds es:List D} {vs us:List V},Reps G P LN ds vs→Reps G P LN es us→Reps G P LN (ds++es) (vs++us)
 |[],_,_,_,h,q=>by cases h;exact q
 |d::ds,es,vs,us,⟨v,r,e,h1,h2⟩,q=>by subst e;exact⟨v,r++us,rfl,h1,Reps.append h2 q⟩
theorem Reps.take:∀{ds:List D} {vs:List V} (n:Nat),Reps G P LN ds vs→Reps G P LN (ds.take n) (vs.take n)
 |[],_,_,h=>by cases h;simp[Reps]
 |d::ds,vs,0,_=>by simp[Reps]
 |d::ds,vs,n+1,⟨v,r,e,h1,h2⟩=>by subst e;exact⟨v,r.take n,rfl,h1,Reps.take n h2⟩
theorem Reps.drop:∀{ds:List D} {vs:List V} (n:Nat),Reps G P LN ds vs→Reps G P LN (ds.drop n) (vs.drop n)
 |[],_,_,h=>by cases h;simp[Reps]
 |d::ds,vs,0,h=>h
 |d::ds,vs,n+1,⟨v,r,e,h1,h2⟩=>by subst e;exact Reps.drop n h2
theorem Reps.set {x:D} {u:V} (hx:Rep G P LN x u):∀{ds:List D} {vs:List V} (n:Nat),Reps G P LN ds vs→Reps G P LN (ds.set n x) (vs.set n u)
 |[],_,_,h=>by cases h;simp[Reps]
 |d::ds,vs,0,⟨v,r,e,h1,h2⟩=>by subst e;exact⟨u,r,rfl,hx,h2⟩
 |d::ds,vs,n+1,⟨v,r,e,h1,h2⟩=>by subst e;exact⟨v,r.set n u,rfl,h1,Reps.set hx n h2⟩
theorem Reps.eraseIdx:∀{ds:List D} {vs:List V} (n:Nat),Reps G P LN ds vs→Reps G P LN (ds.eraseIdx n) (vs.eraseIdx n)
 |[],_,_,h=>by cases h;simp[Reps]
 |d::ds,vs,0,⟨v,r,e,h1,h2⟩=>by subst e;exact h2
 |d::ds,vs,n+1,⟨v,r,e,h1,h2⟩=>by subst e;exact⟨v,r.eraseIdx n,rfl,h1,Reps.eraseIdx n h2⟩
theorem Reps.one {d:D} {v:V} (h:Rep G P LN d v):Reps G P LN [d] [v]:=⟨v,[],rfl,h,rfl⟩
theorem Reps.ints:∀{ns:List Int} {vs:List V},Reps G P LN (ns.map D.int) vs↔vs=ns.map V.int
 |[],vs=>Iff.rfl
 |n::ns,vs=>by
  constructor
  ·rintro⟨v,r,e,h1,h2⟩
   rw[e,h1,Reps.ints.mp h2];rfl
  ·intro e
   exact⟨_,_,e,rfl,Reps.ints.mpr rfl⟩
theorem Reps.reverse:∀{ds:List D} {vs:List V},Reps G P LN ds vs→Reps G P LN ds.reverse vs.reverse
 |[],_,h=>by cases h;exact rfl
 |d::ds,vs,⟨v,r,e,h1,h2⟩=>by
  subst e
  simp only[List.reverse_cons]
  exact(Reps.reverse h2).append (Reps.one h1)
theorem Reps.replicate {d:D} {v:V} (h:Rep G P LN d v):∀n,Reps G P LN (List.replicate n d) (List.replicate n v)
 |0=>rfl
 |n+1=>⟨v,_,rfl,h,Reps.replicate h n⟩
mutual
theorem Rep.dp {H:Hp} (hp:Same P H) (hl:∀a xs,LN a xs→SqL G.K H a xs):∀(d:D) (v:V) (n:Nat),d.fit n=true→Rep G P LN d v→Dp G.K H v d.py
 |.non,_,_,_,h=>by cases h;exact .non
 |.bl b,_,_,_,h=>by cases h;exact .bl b
 |.int i,_,_,_,h=>by cases h;exact .int i
 |.str s,_,_,_,h=>by cases h;exact .str _
 |.lst ds,v,n,f,⟨a,xs,e,h1,h2⟩=>by
  subst e
  simp only[D.fit,Bool.and_eq_true] at f
  exact .lst (hl _ _ h1) (Reps.dp hp hl ds xs _ f.2 h2)
 |.tup ds,v,n,f,⟨a,xs,e,h1,h2⟩=>by
  subst e
  simp only[D.fit,Bool.and_eq_true] at f
  exact .tup (Same.seqT hp h1) (Reps.dp hp hl ds xs _ f.2 h2)
 |.ins c ds,v,_,f,_=>by simp[D.fit] at f
 |.exc _ _,_,_,f,_=>by simp[D.fit] at f
theorem Reps.dp {H:Hp} (hp:Same P H) (hl:∀a xs,LN a xs→SqL G.K H a xs):∀(ds:List D) (vs:List V) (n:Nat),D.fits ds n=true→Reps G P LN ds vs→DpAll G.K H vs (D.pys ds)
 |[],_,_,_,h=>by cases h;exact .nil
 |d::ds,vs,n,f,⟨v,r,e,h1,h2⟩=>by
  subst e
  simp only[D.fits,Bool.and_eq_true] at f
  exact .cons (Rep.dp hp hl d v n f.1 h1) (Reps.dp hp hl ds r n f.2 h2)
end
end
end Cm
namespace Cm
open PySem PySem.Spec PyProof.Rows L2
def WrT (G:Glo) (v:V):Prop:=∀a,v=.ref a→∃o,G.K.lookup a=some o∧o.cls=.type "tuple" ∧ o.dict=none
inductive RE (α:Type) where
 |bad | ok (a:α) | exc (c:Nat) (fs:List D)
def RE.bind {α β:Type}:RE α→(α→RE β)→RE β
 |.bad,_=>.bad
 |.ok a,f=>f a
 |.exc c fs,_=>.exc c fs
@[simp] theorem RE.bind_ok {α β:Type} (a:α) (f:α→RE β):(RE.ok a).bind f=f a:=rfl
@[simp] theorem RE.bind_bad {α β:Type} (f:α→RE β):(RE.bad:RE α).bind f=.bad:=rfl
@[simp] theorem RE.bind_exc {α β:Type} (c:Nat) (fs:List D) (f:α→RE β):(RE.exc c fs:RE α).bind f=.exc c fs:=rfl
inductive Sl where
 |non | val (d:D) (b:Bool) | own (ds:List D) (b:Bool)
 |slf (c:Nat) (fs:List D)
 |fxd (d:D) (k:Nat)
 |dct (m:List (Int × D)) (b:Bool)
 |row (dss:List (List D))
inductive ER where
 |val (d:D) (b:Bool) | fre (ds:List D) (b:Bool) | brw (ds:List D) (b:Bool)
def ER.d:ER→D
 |.val d _=>d
 |.fre ds _=>.lst ds
 |.brw ds _=>.lst ds
def ER.b:ER→Bool
 |.val _ b=>b
 |.fre _ b=>b
 |.brw _ b=>b
@[simp] theorem ER.d_val {d:D} {b:Bool}:(ER.val d b).d=d:=rfl
@[simp] theorem ER.d_fre {d:List D} {b:Bool}:(ER.fre d b).d=.lst d:=rfl
@[simp] theorem ER.d_brw {d:List D} {b:Bool}:(ER.brw d b).d=.lst d:=rfl
@[simp] theorem ER.b_val {d:D} {b:Bool}:(ER.val d b).b=b:=rfl
@[simp] theorem ER.b_fre {d:List D} {b:Bool}:(ER.fre d b).b=b:=rfl
@[simp] theorem ER.b_brw {d:List D} {b:Bool}:(ER.brw d b).b=b:=rfl
@[simp] def ER.isB:ER→Bool
 |.brw _ _=>true
 |_=>false
@[simp] def ER.isV:ER→Bool
 |.val _ _=>true
 |_=>false
@[simp] def ER.frz:ER→ER
 |.fre ds b=>.val (.lst ds) b
 |e=>e
def LNb (K:PySem.W.Frag) (P N R:Hp) (b:Bool):Addr→List V→Prop:=fun a xs=>N a=some (.lst xs)∨(b=false∧(SqL K P a xs∨SqL K N a xs∨SqL K R a xs))
theorem LNb.mono {K:PySem.W.Frag} {P N R P' N':Hp} {b:Bool} (hp:Same P P') (hn:Same N N'):∀a xs,LNb K P N R b a xs→LNb K P' N' R b a xs:=fun a xs h=>by
 rcases h with h | ⟨h1,h | h | h⟩
 ·exact .inl (hn _ _ h)
 ·exact .inr ⟨h1,.inl (Cm.Same.seq hp h)⟩
 ·exact .inr ⟨h1,.inr (.inl (Cm.Same.seq hn h))⟩
 ·exact .inr ⟨h1,.inr (.inr h)⟩
theorem LNb.weak {K:PySem.W.Frag} {P N R:Hp} {b:Bool}:∀a xs,LNb K P N R b a xs→LNb K P N R false a xs:=fun a xs h=>by
 rcases h with h | h
 ·exact .inl h
 ·exact .inr ⟨rfl,h.2⟩
theorem LNb.and1 {K:PySem.W.Frag} {P N R:Hp} {b c:Bool}:∀a xs,LNb K P N R b a xs→LNb K P N R (b&&c) a xs:=fun a xs h=>by
 rcases h with h | ⟨h1,h2⟩
 ·exact .inl h
 ·exact .inr ⟨by simp[h1],h2⟩
theorem LNb.and2 {K:PySem.W.Frag} {P N R:Hp} {b c:Bool}:∀a xs,LNb K P N R c a xs→LNb K P N R (b&&c) a xs:=fun a xs h=>by
 rcases h with h | ⟨h1,h2⟩
 ·exact .inl h
 ·exact .inr ⟨by simp[h1],h2⟩
theorem LNb.seq {K:PySem.W.Frag} {P N R H:Hp} {b:Bool} (hp:Same P H) (hn:Same N H) (hr:Same R H):∀a xs,LNb K P N R b a xs→SqL K H a xs:=fun a xs h=>by
 rcases h with h | ⟨_,h | h | h⟩
 ·exact .inl (.inl (hn _ _ h))
 ·exact Cm.Same.seq hp h
 ·exact Cm.Same.seq hn h
 ·exact Cm.Same.seq hr h
theorem LNb.ofP {K:PySem.W.Frag} {P N R:Hp}:∀a xs,SqL K P a xs→LNb K P N R false a xs:=fun a xs h=>.inr ⟨rfl,.inl h⟩
theorem LNb.ofR {K:PySem.W.Frag} {P N R:Hp}:∀a xs,SqL K R a xs→LNb K P N R false a xs:=fun a xs h=>.inr ⟨rfl,.inr (.inr h)⟩
class HasT where
 T:List (Addr × Str)
instance (priority:=low) noTabs:HasT:=⟨[]⟩
variable [HasT]
abbrev qgm (H:Hp):Prop:=LamX.Tabs HasT.T H
structure HX (H H':Hp):Prop where
 s:Same H H'
 tb:qgm H→qgm H'
instance {H H':Hp}:Coe (HX H H') (Same H H'):=⟨HX.s⟩
theorem HX.get {H H':Hp} (h:HX H H') (b:Addr) (o:HO) (e:H b=some o) (n:ntO o=true:=by rfl):H' b=some o:=h.s.g0 b o e n
instance {H H':Hp}:CoeFun (HX H H') (fun _=>∀(b:Addr) (o:HO),H b=some o→(n:ntO o=true:=by rfl)→H' b=some o):=⟨@HX.get _ H H'⟩
theorem HX.free {H H':Hp} (h:HX H H') {l:Addr} (e:H' l=none):H l=none:=h.s.free e
theorem HX.refl (H:Hp):HX H H:=⟨Same.refl _,fun h=>h⟩
theorem HX.trans {H H1 H2:Hp} (h:HX H H1) (k:HX H1 H2):HX H H2:=⟨h.s.trans k.s,fun t=>k.tb (h.tb t)⟩
theorem HX.of {H H':Hp} (h:L2.Same H H'):HX H H':=⟨Same.of h,fun t=>t.ext h⟩
def wrO:HO→Bool
 |.lst _=>true
 |.dK _=>true
 |.ins _ _ _=>true
 |.own _=>true
 |_=>false
theorem qgn {H:Hp} {p:Addr} {o u:HO} (e:H p=some o) (t:qgm H) (w:wrO o=true:=by rfl) (w2:wrO u=true:=by rfl):qgm (upd H p u):=fun x hx=>by
 obtain⟨ps,h1,h2,h3⟩:=t x hx
 refine⟨ps,?_,h2,fun pos cv hc=>?_⟩
 ·rw[upd_ne fun z=>by rw[z,e] at h1;cases h1;cases w];exact h1
 ·obtain⟨c,q1,q2⟩:=h3 pos cv hc
  refine⟨c,q1,?_⟩
  rw[upd_ne fun z=>by rw[z,e] at q2;cases q2;cases w];exact q2
theorem qqa {H He:Hp} {p:Addr} {o:HO} (e:H p=some o) (t:qgm H) (h:∀a,a≠p→He a=H a) (w:wrO o=true:=by rfl):qgm He:=fun x hx=>by
 obtain⟨ps,h1,h2,h3⟩:=t x hx
 refine⟨ps,?_,h2,fun pos cv hc=>?_⟩
 ·rw[h _ fun z=>by rw[z,e] at h1;cases h1;cases w];exact h1
 ·obtain⟨c,q1,q2⟩:=h3 pos cv hc
  refine⟨c,q1,?_⟩
  rw[h _ fun z=>by rw[z,e] at q2;cases q2;cases w];exact q2
structure Adv (P N H P' N' H':Hp):Prop where
 hh:HX H H'
 pp:Same P P'
 nn:Same N N'
 pH:Same P' H'
 nH:Same N' H'
 pn:∀a,P' a≠none→P a≠none∨H a=none
 nw:∀a,N' a≠none→N a≠none∨H a=none
 dj:∀a,N' a≠none→P' a≠none→N a≠none
 tp:TF P→TF P'
 tn:TF N→TF N'
theorem Adv.refl {P N H:Hp} (hp:Same P H) (hn:Same N H):Adv P N H P N H:=⟨HX.refl _,Cm.Same.refl _,Cm.Same.refl _,hp,hn,fun _ h=>.inl h,fun _ h=>.inl h,fun _ h _=>h,id,id⟩
theorem Adv.trans {P N H P' N' H' P'' N'' H'':Hp} (s:Adv P N H P' N' H') (t:Adv P' N' H' P'' N'' H''):Adv P N H P'' N'' H'' where
 hh:=s.hh.trans t.hh
 pp:=s.pp.trans t.pp
 nn:=s.nn.trans t.nn
 pH:=t.pH
 nH:=t.nH
 pn:=fun a h=>by
  rcases t.pn a h with h | h
  ·exact s.pn a h
  ·exact .inr (s.hh.free h)
 nw:=fun a h=>by
  rcases t.nw a h with h | h
  ·exact s.nw a h
  ·exact .inr (s.hh.free h)
 dj:=fun a h h2=>by
  have h3:=t.dj a h h2
  rcases t.pn a h2 with q | q
  ·exact s.dj a h3 q
  ·exact absurd (s.nH.free q) h3
 tp:=fun h=>t.tp (s.tp h)
 tn:=fun h=>t.tn (s.tn h)
theorem Adv.heap {P N H P' N' H' H'':Hp} (s:Adv P N H P' N' H') (e:HX H' H''):Adv P N H P' N' H'':=
 ⟨s.hh.trans e,s.pp,s.nn,s.pH.trans e.s,s.nH.trans e.s,s.pn,s.nw,s.dj,s.tp,s.tn⟩
theorem qfa {H:Hp} {p:Addr} {o:HO} (h:H p=none):HX H (upd H p o):=HX.of fun b u e=>by
 rw[upd_ne (ne_of_none e h)];exact e
theorem qbN {H:Hp} {p:Addr} {o:HO} (h:H p=none):Same H (upd H p o):=Same.of fun b u e=>by
 rw[upd_ne (ne_of_none e h)];exact e
theorem qma {H:Hp} {p b:Addr} {o:HO} (h:upd H p o b=none):b≠p∧H b=none:=by
 by_cases q:b=p
 ·subst q;rw[upd_same] at h;cases h
 ·rw[upd_ne q] at h;exact⟨q,h⟩
theorem qko {P H:Hp} {p:Addr} {o:HO} (h:Same P H):Same (upd P p o) (upd H p o):=⟨fun b u e n=>by
 by_cases q:b=p
 ·subst q;rw[upd_same] at e ⊢;exact e
 ·rw[upd_ne q] at e ⊢;exact h.g0 _ _ e n,fun b e=>by
 obtain⟨q,e⟩:=qma e
 rw[upd_ne q];exact h.free e⟩
theorem qbg {P H:Hp} {p:Addr} {o:HO} (h:Same P H) (n:P p=none):Same P (upd H p o):=⟨fun b u e m=>by
 rw[upd_ne (ne_of_none e n)];exact h.g0 _ _ e m,fun b e=>h.free (qma e).2⟩
theorem TF.upd {P:Hp} {p:Addr} {o:HO} (t:TF P) (n:ntO o=true:=by rfl):TF (upd P p o):=fun b u e=>by
 by_cases q:b=p
 ·subst q;rw[upd_same] at e;cases e;exact n
 ·rw[upd_ne q] at e;exact t b u e
theorem qqK {A H:Hp} {p:Addr} {o u:HO} (h:HX A H) (n:A p=none) (e:H p=some o) (w:wrO o=true:=by rfl) (w2:wrO u=true:=by rfl):HX A (upd H p u):=⟨qbg h.s n,fun t=>qgn e (h.tb t) w w2⟩
theorem qlh {P H:Hp} {p:Addr} {o:HO} (h:Same P H) (e:H p=some o):Same (upd P p o) H:=⟨fun b u q m=>by
 by_cases z:b=p
 ·subst z;rw[upd_same] at q;cases q;exact e
 ·rw[upd_ne z] at q;exact h.g0 _ _ q m,fun b q=>by
 have z:b≠p:=fun z=>by rw[z,e] at q;cases q
 rw[upd_ne z];exact h.free q⟩
theorem Adv.newP {P N H P' N' H':Hp} (s:Adv P N H P' N' H') {p:Addr} {o:HO} (hp:H' p=none) (no:ntO o=true:=by rfl):Adv P N H (upd P' p o) N' (upd H' p o) where
 hh:=s.hh.trans (qfa hp)
 tp:=fun h=>(s.tp h).upd no
 tn:=s.tn
 pp:=s.pp.trans (qbN (s.pH.free hp))
 nn:=s.nn
 pH:=qko s.pH
 nH:=s.nH.trans (qbN hp)
 pn:=fun a h=>by
  by_cases q:a=p
  ·exact .inr (by rw[q];exact s.hh.free hp)
  ·rw[upd_ne q] at h;exact s.pn a h
 nw:=s.nw
 dj:=fun a h h2=>by
  by_cases q:a=p
  ·exact absurd (s.nH.free hp) (q ▸ h)
  ·rw[upd_ne q] at h2;exact s.dj a h h2
theorem Adv.holdN {P N H P' N' H':Hp} (s:Adv P N H P' N' H') {p:Addr} {o:HO} (h0:H p=none) (hp:H' p=some o) (hn:N' p=none) (hP:P' p=none) (no:ntO o=true:=by rfl):Adv P N H P' (upd N' p o) H' where
 hh:=s.hh
 tp:=s.tp
 tn:=fun h=>(s.tn h).upd no
 pp:=s.pp
 nn:=s.nn.trans (qbN hn)
 pH:=s.pH
 nH:=qlh s.nH hp
 pn:=s.pn
 nw:=fun a h=>by
  by_cases q:a=p
  ·exact .inr (by rw[q];exact h0)
  ·rw[upd_ne q] at h;exact s.nw a h
 dj:=fun a h h2=>by
  by_cases q:a=p
  ·exact absurd hP (q ▸ h2)
  ·rw[upd_ne q] at h;exact s.dj a h h2
structure Ctx where
 G:Glo
 R:Hp
 B:Hp
 P0:Hp
 W:WX
 S:Addr
 fx:Nat→Option V:=fun _=>none
section
variable (C:Ctx) (P N H:Hp)
abbrev RepB (b:Bool) (d:D) (v:V):Prop:=Rep C.G P (LNb C.G.K P N C.R b) d v
abbrev RepsB (b:Bool) (ds:List D) (vs:List V):Prop:=Reps C.G P (LNb C.G.K P N C.R b) ds vs
def RowR (R:Addr→List D→Prop):List (List D)→List Addr→Prop
 |[],ps=>ps=[]
 |ds::r,ps=>∃a q,ps=a::q∧R a ds∧RowR R r q
def DctR (R:D→V→Prop):List (Int × D)→List (Key × V)→Prop
 |[],es=>es=[]
 |e::m,es=>∃v r,es=(.inl e.1,v)::r∧R e.2 v∧DctR R m r
def SlR:Sl→Option V→Prop
 |.non,_=>True
 |.val d b,o=>∃v,o=some v∧RepB C P N b d v
 |.own ds b,o=>∃p xs,o=some (.ref p)∧H p=some (.lst xs)∧P p=none∧N p=none∧C.B p=none∧RepsB C P N b ds xs
 |.slf c fs,o=>∃p dx xs,(p=C.S∧o=some (.ref p))∧H p=some (.ins (C.G.ca c) dx ((C.G.fl c).zip xs))∧P p=none∧N p=none∧C.B p=none∧fs.length≤(C.G.fl c).length∧RepsB C P N true fs xs
 |.fxd d k,o=>∃v,o=some v∧C.fx k=some v∧RepB C P N false d v
 |.dct m b,o=>∃p es,o=some (.ref p)∧H p=some (.dK es)∧P p=none∧N p=none∧C.B p=none∧DctR (RepB C P N b) m es
 |.row dss,o=>∃p ps,o=some (.ref p)∧H p=some (.lst (ps.map V.ref))∧P p=none∧N p=none∧C.B p=none∧RowR (fun a ds=>∃xs,H a=some (.lst xs)∧P a=none∧N a=none∧C.B a=none∧D.flats ds=true∧RepsB C P N true ds xs) dss ps∧(p::ps).Nodup
def ERr (H0:Hp):ER→V→Prop
 |.val d b,v=>RepB C P N b d v
 |.fre ds b,v=>∃p xs,v=.ref p∧H p=some (.lst xs)∧H0 p=none∧P p=none∧N p=none∧RepsB C P N b ds xs
 |.brw ds b,v=>∃p xs,v=.ref p∧H p=some (.lst xs)∧P p=none∧N p=none∧C.B p=none∧RepsB C P N b ds xs
def ERs (H0:Hp):List ER→List V→Prop
 |[],vs=>vs=[]
 |e::es,vs=>∃v r,vs=v::r∧ERr C P N H H0 e v∧ERs H0 es r
def ExR (fs:List D) (d:Option Addr):Prop:=(fs=[]∧d=none)∨∃dd f v,fs=[f]∧d=some dd∧H dd=some (.xd [(("at" : Str),v)])∧RepB C P N true f v
structure Reg:Prop where
 pH:Same P H
 nH:Same N H
 bH:Same C.B H
 rB:Same C.R C.B
 p0:Same C.P0 P
 pn:∀a,P a≠none→C.P0 a≠none∨C.B a=none
 nw:∀a,N a≠none→C.B a=none
 dj:∀a,N a≠none→P a=none
 tb:qgm H
 tf:TF P∧TF N∧TF C.R
structure AD (ρ:List Sl) (σ:L2.St):Prop where
 un:∀(i j:Nat) (p:Addr) (m:List (Int × D)) (b:Bool) (m':List (Int × D)) (c:Bool),ρ[i]? = some (.dct m b)→ρ[j]? = some (.dct m' c)→σ[i]? = some (some (.ref p))→σ[j]? = some (some (.ref p))→i=j
inductive Held (H:Hp):Sl→Option V→Addr→Prop
 |own {ds:List D} {b:Bool} {a:Addr}:Held H (.own ds b) (some (.ref a)) a
 |rt {dss:List (List D)} {a:Addr}:Held H (.row dss) (some (.ref a)) a
 |it {dss:List (List D)} {p a:Addr} {ps:List Addr}:H p=some (.lst (ps.map V.ref))→a∈ps→Held H (.row dss) (some (.ref p)) a
structure AR (H:Hp) (ρ:List Sl) (σ:L2.St):Prop where
 un:∀(i j:Nat) (dss:List (List D)) (t:Sl) (o u:Option V) (a:Addr),ρ[i]? = some (.row dss)→ρ[j]? = some t→σ[i]? = some o→σ[j]? = some u→Held H (.row dss) o a→Held H t u a→i=j
structure SR (ρ:List Sl) (σ:L2.St):Prop where
 reg:Reg C P N H
 len:σ.length=ρ.length
 sl:∀(i:Nat) (s:Sl),ρ[i]? = some s→∃o,σ[i]? = some o∧SlR C P N H s o
 ap:∀(i j:Nat) (p:Addr) (ds:List D) (b:Bool) (es:List D) (c:Bool),ρ[i]? = some (.own ds b)→ρ[j]? = some (.own es c)→σ[i]? = some (some (.ref p))→σ[j]? = some (some (.ref p))→i=j
 ad:AD ρ σ
 ar:AR H ρ σ
end
def Sl.isD:Sl→Bool
 |.dct _ _=>true
 |_=>false
theorem AD.sub {ρ ρ':List Sl} {σ σ':L2.St} (h:AD ρ σ) (k:∀(i:Nat) (m:List (Int × D)) (b:Bool),ρ'[i]? = some (Sl.dct m b)→σ'[i]? = σ[i]? ∧ ∃m' c,ρ[i]? = some (Sl.dct m' c)):AD ρ' σ':=⟨fun i j p m b m' c e1 e2 e3 e4=>by
 obtain⟨f1,_,_,g1⟩:=k i m b e1
 obtain⟨f2,_,_,g2⟩:=k j m' c e2
 rw[f1] at e3
 rw[f2] at e4
 exact h.un i j p _ _ _ _ g1 g2 e3 e4⟩
theorem AD.no {ρ:List Sl} {σ:L2.St} (h:∀(i:Nat) s,ρ[i]? = some s→s.isD=false):AD ρ σ:=⟨fun i j p m b m' c e1 e2 e3 e4=>by
 have:=h i _ e1
 cases this⟩
def Sl.isW:Sl→Bool
 |.row _=>true
 |_=>false
def Sl.isH:Sl→Bool
 |.row _=>true
 |.own _ _=>true
 |_=>false
theorem Held.not {H:Hp} {s:Sl} {o:Option V} {a:Addr} (h:Held H s o a):s.isH=true:=by cases h<;>rfl
theorem AR.no {H:Hp} {ρ:List Sl} {σ:L2.St} (h:∀(i:Nat) s,ρ[i]? = some s→s.isW=false):AR H ρ σ:=⟨fun i j dss t o u a e1 e2 e3 e4 h1 h2=>by
 have:=h i _ e1
 cases this⟩
theorem AR.heap {H H':Hp} {ρ:List Sl} {σ:L2.St} (h:AR H ρ σ) (k:∀(i:Nat) (dss:List (List D)) (p:Addr),ρ[i]? = some (.row dss)→σ[i]? = some (some (.ref p))→H' p=H p):AR H' ρ σ:=⟨fun i j dss t o u a e1 e2 e3 e4 h1 h2=>by
 refine h.un i j dss t o u a e1 e2 e3 e4 ?_ ?_
 ·cases h1 with
  |rt=>exact .rt
  |it q m=>exact .it ((k i _ _ e1 e3) ▸ q) m
 ·cases h2 with
  |own=>exact .own
  |rt=>exact .rt
  |it q m=>exact .it ((k j _ _ e2 e4) ▸ q) m⟩
theorem qa4 {α:Type} {xs:List α} {i j:Nat} {x y:α} (e:(xs.set i x)[j]? = some y):(i=j∧y=x)∨(i≠j∧xs[j]? = some y):=by
 by_cases q:i=j
 ·subst q
  rw[List.getElem?_set] at e
  simp only[if_true] at e
  split at e
  ·cases e;exact .inl ⟨rfl,rfl⟩
  ·cases e
 ·rw[List.getElem?_set_ne q] at e
  exact .inr ⟨q,e⟩
theorem AR.set {H:Hp} {ρ:List Sl} {σ:L2.St} (h:AR H ρ σ) {i:Nat} {s:Sl} {o:Option V} (hs:s.isH=false):AR H (ρ.set i s) (σ.set i o):=⟨fun j k dss t o1 u a e1 e2 e3 e4 h1 h2=>by
 rcases qa4 e1 with⟨q1,z1⟩ | ⟨q1,z1⟩
 ·rw[z1] at h1;have:=h1.not;rw[hs] at this;cases this
 ·rcases qa4 e2 with⟨q2,z2⟩ | ⟨q2,z2⟩
  ·rw[z2] at h2;have:=h2.not;rw[hs] at this;cases this
  ·rw[List.getElem?_set_ne q1] at e3
   rw[List.getElem?_set_ne q2] at e4
   exact h.un j k dss t o1 u a z1 z2 e3 e4 h1 h2⟩
theorem AR.setS {H:Hp} {ρ:List Sl} {σ:L2.St} (h:AR H ρ σ) {i:Nat} {s:Sl} (hs:s.isH=false):AR H (ρ.set i s) σ:=⟨fun j k dss t o1 u a e1 e2 e3 e4 h1 h2=>by
 rcases qa4 e1 with⟨q1,z1⟩ | ⟨q1,z1⟩
 ·rw[z1] at h1;have:=h1.not;rw[hs] at this;cases this
 ·rcases qa4 e2 with⟨q2,z2⟩ | ⟨q2,z2⟩
  ·rw[z2] at h2;have:=h2.not;rw[hs] at this;cases this
  ·exact h.un j k dss t o1 u a z1 z2 e3 e4 h1 h2⟩
theorem AR.setO {H:Hp} {ρ:List Sl} {σ:L2.St} (h:AR H ρ σ) {i:Nat} {ds:List D} {b:Bool} {p:Addr} (k:∀(j:Nat) (dss:List (List D)) (u:Option V),i≠j→ρ[j]? = some (.row dss)→σ[j]? = some u→¬Held H (.row dss) u p):AR H (ρ.set i (.own ds b)) (σ.set i (some (.ref p))):=⟨fun j l dss t o1 u a e1 e2 e3 e4 h1 h2=>by
 rcases qa4 e1 with⟨q1,z1⟩ | ⟨q1,z1⟩
 ·cases z1
 ·rw[List.getElem?_set_ne q1] at e3
  rcases qa4 e2 with⟨q2,z2⟩ | ⟨q2,z2⟩
  ·rcases qa4 e4 with⟨_,z4⟩ | ⟨q4,_⟩
   ·rw[z2,z4] at h2
    cases h2
    exact absurd h1 (k j dss o1 q1 z1 e3)
   ·exact absurd q2 q4
  ·rw[List.getElem?_set_ne q2] at e4
   exact h.un j l dss t o1 u a z1 z2 e3 e4 h1 h2⟩
theorem AR.own {H:Hp} {ρ:List Sl} {σ:L2.St} (h:AR H ρ σ) {i:Nat} {ds ds':List D} {b b':Bool} (e:ρ[i]? = some (.own ds b)):AR H (ρ.set i (.own ds' b')) σ:=⟨fun j l dss t o1 u a e1 e2 e3 e4 h1 h2=>by
 rcases qa4 e1 with⟨q1,z1⟩ | ⟨q1,z1⟩
 ·cases z1
 ·rcases qa4 e2 with⟨q2,z2⟩ | ⟨q2,z2⟩
  ·subst q2
   rw[z2] at h2
   cases h2
   exact h.un j i dss (.own ds b) o1 _ a z1 e e3 e4 h1 .own
  ·exact h.un j l dss t o1 u a z1 z2 e3 e4 h1 h2⟩
theorem AD.set {ρ:List Sl} {σ:L2.St} (h:AD ρ σ) {i:Nat} {s:Sl} {o:Option V} (hs:s.isD=false):AD (ρ.set i s) (σ.set i o):=h.sub fun j m b e=>by
 by_cases q:i=j
 ·subst q
  rw[List.getElem?_set] at e
  simp only[if_true] at e
  split at e
  ·cases e;cases hs
  ·cases e
 ·rw[List.getElem?_set_ne q] at e
  rw[List.getElem?_set_ne q]
  exact⟨rfl,_,_,e⟩
theorem AD.setS {ρ:List Sl} {σ:L2.St} (h:AD ρ σ) {i:Nat} {s:Sl} (hs:s.isD=false):AD (ρ.set i s) σ:=h.sub fun j m b e=>by
 by_cases q:i=j
 ·subst q
  rw[List.getElem?_set] at e
  simp only[if_true] at e
  split at e
  ·cases e;cases hs
  ·cases e
 ·rw[List.getElem?_set_ne q] at e
  exact⟨rfl,_,_,e⟩
section
variable {C:Ctx} {P N H P' N' H':Hp} {ρ:List Sl} {σ:L2.St}
theorem Reg.rH (h:Reg C P N H):Same C.R H:=h.rB.trans h.bH
theorem Reg.adv (h:Reg C P N H) (a:Adv P N H P' N' H'):Reg C P' N' H' where
 pH:=a.pH
 nH:=a.nH
 bH:=h.bH.trans a.hh
 rB:=h.rB
 p0:=h.p0.trans a.pp
 tb:=a.hh.tb h.tb
 tf:=⟨a.tp h.tf.1,a.tn h.tf.2.1,h.tf.2.2⟩
 pn:=fun q e=>by
  rcases a.pn q e with e | e
  ·exact h.pn q e
  ·exact .inr (h.bH.free e)
 nw:=fun q e=>by
  rcases a.nw q e with e | e
  ·exact h.nw q e
  ·exact h.bH.free e
 dj:=fun q e=>by
  cases e2:P' q with
  |none=>rfl
  |some o =>
   have e3:P' q≠none:=by rw[e2];exact fun z=>nomatch z
   have e4:=a.dj q e e3
   rcases a.pn q e3 with z | z
   ·exact absurd (h.dj q e4) z
   ·exact absurd (h.nH.free z) e4
theorem RepB.adv {b:Bool} {d:D} {v:V} (hp:Same P P') (hn:Same N N') (h:RepB C P N b d v):RepB C P' N' b d v:=Rep.mono hp d v (LNb.mono hp hn) h
theorem RepsB.adv {b:Bool} {ds:List D} {vs:List V} (hp:Same P P') (hn:Same N N') (h:RepsB C P N b ds vs):RepsB C P' N' b ds vs:=Reps.mono hp ds vs (LNb.mono hp hn) h
theorem RepB.and1 {b c:Bool} {d:D} {v:V} (h:RepB C P N b d v):RepB C P N (b&&c) d v:=Rep.mono (Cm.Same.refl _) d v LNb.and1 h
theorem RepB.and2 {b c:Bool} {d:D} {v:V} (h:RepB C P N c d v):RepB C P N (b&&c) d v:=Rep.mono (Cm.Same.refl _) d v LNb.and2 h
theorem RepsB.and1 {b c:Bool} {d:List D} {v:List V} (h:RepsB C P N b d v):RepsB C P N (b&&c) d v:=Reps.mono (Cm.Same.refl _) d v LNb.and1 h
theorem RepsB.and2 {b c:Bool} {d:List D} {v:List V} (h:RepsB C P N c d v):RepsB C P N (b&&c) d v:=Reps.mono (Cm.Same.refl _) d v LNb.and2 h
theorem RepB.nf {b:Bool} {d:D} {v:V} (h:RepB C P N b d v):RepB C P N (b||d.flat) d v:=by
 cases b with
 |true=>exact h
 |false =>
  cases e:d.flat with
  |true=>exact Rep.flat d v e h
  |false=>exact h
theorem RepsB.nf {b:Bool} {d:List D} {v:List V} (h:RepsB C P N b d v):RepsB C P N (b||D.flats d) d v:=by
 cases b with
 |true=>exact h
 |false =>
  cases e:D.flats d with
  |true=>exact Reps.flat d v e h
  |false=>exact h
theorem Adv.off (a:Adv P N H P' N' H') {p:Addr} {o:HO} (h:H p=some o) (hp:P p=none):P' p=none:=by
 cases q:P' p with
 |none=>rfl
 |some u =>
  rcases a.pn p (by rw[q];simp) with z | z
  ·exact absurd hp z
  ·rw[h] at z;cases z
theorem Adv.offN (a:Adv P N H P' N' H') {p:Addr} {o:HO} (h:H p=some o) (hn:N p=none):N' p=none:=by
 cases q:N' p with
 |none=>rfl
 |some u =>
  rcases a.nw p (by rw[q];simp) with z | z
  ·exact absurd hn z
  ·rw[h] at z;cases z
theorem RowR.mono {R R':Addr→List D→Prop} (k:∀a ds,R a ds→R' a ds):∀{dss:List (List D)} {ps:List Addr},RowR R dss ps→RowR R' dss ps
 |[],_,h=>h
 |_::_,_,⟨a,q,e,h1,h2⟩=>⟨a,q,e,k _ _ h1,RowR.mono k h2⟩
theorem RowR.sub {R R':Addr→List D→Prop}:∀{dss:List (List D)} {ps:List Addr},RowR R dss ps→(∀a∈ps,∀ds,R a ds→R' a ds)→RowR R' dss ps
 |[],_,h,_=>h
 |_::_,_,⟨a,q,e,h1,h2⟩,k=>by
  subst e
  exact⟨a,q,rfl,k a (by simp) _ h1,RowR.sub h2 fun b hb=>k b (List.mem_cons_of_mem _ hb)⟩
theorem RowR.all {R:Addr→List D→Prop}:∀{dss:List (List D)} {ps:List Addr},RowR R dss ps→∀a∈ps,∃ds,R a ds
 |[],_,h,a,m=>by cases h;cases m
 |ds::_,_,⟨b,q,e,h1,h2⟩,a,m=>by
  subst e
  rcases List.mem_cons.mp m with z | z
  ·rw[z];exact⟨ds,h1⟩
  ·exact RowR.all h2 a z
theorem qgs:∀{ps qs:List Addr},ps.map V.ref=qs.map V.ref→ps=qs
 |[],[],_=>rfl
 |[],_::_,h=>nomatch h
 |_::_,[],h=>nomatch h
 |p::ps,q::qs,h=>by
  simp only[List.map_cons,List.cons.injEq] at h
  obtain⟨h1,h2⟩:=h
  cases h1
  rw[qgs h2]
theorem SlR.held {C:Ctx} {P N H:Hp} {dss:List (List D)} {o:Option V} {a:Addr} (h:SlR C P N H (.row dss) o) (k:Held H (.row dss) o a):(∃xs,H a=some (.lst xs))∧P a=none∧N a=none∧C.B a=none:=by
 obtain⟨p,ps,rfl,h1,h2,h3,h4,h5,h6⟩:=h
 cases k with
 |rt=>exact⟨⟨_,h1⟩,h2,h3,h4⟩
 |it q m =>
  rw[h1] at q
  injection q with q
  injection q with q
  have:=qgs q
  subst this
  obtain⟨ds,xs,g1,g2,g3,g4,_⟩:=h5.all a m
  exact⟨⟨xs,g1⟩,g2,g3,g4⟩
theorem DctR.mono {R R':D→V→Prop} (k:∀d v,R d v→R' d v):∀{m:List (Int × D)} {es:List (Key × V)},DctR R m es→DctR R' m es
 |[],_,h=>h
 |_::_,_,⟨v,r,e,h1,h2⟩=>⟨v,r,e,k _ _ h1,DctR.mono k h2⟩
theorem DctR.adv {b:Bool} (hp:Same P P') (hn:Same N N') {m:List (Int × D)} {es:List (Key × V)} (h:DctR (RepB C P N b) m es):DctR (RepB C P' N' b) m es:=h.mono fun _ _=>RepB.adv hp hn
theorem SlR.adv (a:Adv P N H P' N' H') {s:Sl} {o:Option V} (h:SlR C P N H s o):SlR C P' N' H' s o:=by
 cases s with
 |non=>trivial
 |val d b =>
  obtain⟨v,h3,h4⟩:=h
  exact⟨v,h3,RepB.adv a.pp a.nn h4⟩
 |own ds b =>
  obtain⟨p,xs,h3,h4,h5,h6,h7,h8⟩:=h
  exact⟨p,xs,h3,a.hh _ _ h4,a.off h4 h5,a.offN h4 h6,h7,RepsB.adv a.pp a.nn h8⟩
 |slf c fs =>
  obtain⟨p,dx,xs,h3,h4,h5,h6,h7,h8,h9⟩:=h
  exact⟨p,dx,xs,h3,a.hh _ _ h4,a.off h4 h5,a.offN h4 h6,h7,h8,RepsB.adv a.pp a.nn h9⟩
 |fxd d k =>
  obtain⟨v,h3,h4,h5⟩:=h
  exact⟨v,h3,h4,RepB.adv a.pp a.nn h5⟩
 |dct m b =>
  obtain⟨p,es,h3,h4,h5,h6,h7,h8⟩:=h
  exact⟨p,es,h3,a.hh _ _ h4,a.off h4 h5,a.offN h4 h6,h7,h8.adv a.pp a.nn⟩
 |row dss =>
  obtain⟨p,ps,h3,h4,h5,h6,h7,h8,h9⟩:=h
  exact⟨p,ps,h3,a.hh _ _ h4,a.off h4 h5,a.offN h4 h6,h7,h8.mono fun b ds ⟨xs,g1,g2,g3,g4,g5,g6⟩=>⟨xs,a.hh _ _ g1,a.off g1 g2,a.offN g1 g3,g4,g5,RepsB.adv a.pp a.nn g6⟩,h9⟩
theorem SR.adv (S:SR C P N H ρ σ) (a:Adv P N H P' N' H'):SR C P' N' H' ρ σ where
 reg:=S.reg.adv a
 len:=S.len
 sl:=fun i s e=>by
  obtain⟨o,h1,h2⟩:=S.sl i s e
  exact⟨o,h1,h2.adv a⟩
 ap:=S.ap
 ad:=S.ad
 ar:=S.ar.heap fun i dss p e1 e2=>by
  obtain⟨o,z1,z2⟩:=S.sl i _ e1
  rw[z1] at e2;cases e2
  obtain⟨⟨xs,q⟩,_⟩:=z2.held .rt
  rw[q];exact a.hh _ _ q
theorem ERr.adv (a:Adv P N H P' N' H') {H0:Hp} {er:ER} {v:V} (h:ERr C P N H H0 er v):ERr C P' N' H' H0 er v:=by
 cases er with
 |val d b=>exact RepB.adv a.pp a.nn h
 |fre ds b =>
  obtain⟨p,xs,h3,h4,h5,h6,h7,h8⟩:=h
  exact⟨p,xs,h3,a.hh _ _ h4,h5,a.off h4 h6,a.offN h4 h7,RepsB.adv a.pp a.nn h8⟩
 |brw ds b =>
  obtain⟨p,xs,h3,h4,h5,h6,h7,h8⟩:=h
  exact⟨p,xs,h3,a.hh _ _ h4,a.off h4 h5,a.offN h4 h6,h7,RepsB.adv a.pp a.nn h8⟩
theorem ERs.adv (a:Adv P N H P' N' H') {H0:Hp}:∀{er:List ER} {v:List V},ERs C P N H H0 er v→ERs C P' N' H' H0 er v
 |[],_,h=>h
 |e::es,_,⟨v,r,h1,h2,h3⟩=>⟨v,r,h1,h2.adv a,ERs.adv a h3⟩
theorem ERr.from {H0 H1:Hp} (e:Same H1 H0) {er:ER} {v:V} (h:ERr C P N H H0 er v):ERr C P N H H1 er v:=by
 cases er with
 |val d b=>exact h
 |fre ds b =>
  obtain⟨p,xs,h3,h4,h5,h6⟩:=h
  exact⟨p,xs,h3,h4,e.free h5,h6⟩
 |brw ds b=>exact h
theorem ERs.from {H0 H1:Hp} (e:Same H1 H0):∀{er:List ER} {v:List V},ERs C P N H H0 er v→ERs C P N H H1 er v
 |[],_,h=>h
 |_::_,_,⟨v,r,h1,h2,h3⟩=>⟨v,r,h1,h2.from e,ERs.from e h3⟩
theorem ERr.freeze {P1 N1 H0:Hp} {er:ER} {v:V} (a:Adv P1 N1 H0 P N H) (h:ERr C P N H H0 er v):∃N'',Adv P1 N1 H0 P N'' H∧ERr C P N'' H H0 er.frz v:=by
 cases er with
 |val d b=>exact⟨N,a,h⟩
 |brw d b=>exact⟨N,a,h⟩
 |fre ds b =>
  obtain⟨p,xs,rfl,h1,h2,h3,h4,h5⟩:=h
  have sn:Same N (upd N p (.lst xs)):=qbN h4
  exact⟨upd N p (.lst xs),a.holdN h2 h1 h4 h3,p,xs,rfl,.inl upd_same,RepsB.adv (Cm.Same.refl _) sn h5⟩
def ERw (C:Ctx) (P N H:Hp) (d:D) (b:Bool) (v:V):Prop:=
 match d with
 |.lst ds=>∃p xs,v=.ref p∧SqL C.G.K H p xs∧RepsB C P N b ds xs
 |d=>RepB C P N b d v
theorem ERr.w (r:Reg C P N H) {H0:Hp} {er:ER} {v:V} (h:ERr C P N H H0 er v):ERw C P N H er.d er.b v:=by
 cases er with
 |val d b =>
  cases d with
  |lst ds =>
   obtain⟨p,xs,e,h1,h2⟩:=h
   exact⟨p,xs,e,LNb.seq r.pH r.nH r.rH _ _ h1,h2⟩
  |_=>exact h
 |fre ds b =>
  obtain⟨p,xs,h3,h4,_,_,_,h5⟩:=h
  exact⟨p,xs,h3,.inl (.inl h4),h5⟩
 |brw ds b =>
  obtain⟨p,xs,h3,h4,_,_,_,h5⟩:=h
  exact⟨p,xs,h3,.inl (.inl h4),h5⟩
end
def spD (G:Glo) (n:Nat) (g:List D→RE ER):Sp:=fun vs H Q E=>∃P R ds,Same P H∧(Same R H∧qgm H∧TF P∧TF R)∧Reps G P (SqL G.K R) ds vs∧ds.length=n∧match g ds with
 |.bad=>False
 |.ok er=>∀v H' P' N',Adv P (fun _=>none) H P' N' H'→ERr ⟨G,R,H,P,fun _ _ _ _=>False,0,fun _=>none⟩ P' N' H' H er v→Q v H'
 |.exc c fs=>∀d H' P' N',Adv P (fun _=>none) H P' N' H'→ExR ⟨G,R,H,P,fun _ _ _ _=>False,0,fun _=>none⟩ P' N' H' fs d→E (.ref (G.ca c)) d H'
theorem qrO {G:Glo} {n:Nat} {g:List D→RE ER} {vs:List V} {H:Hp} {Q:VK} {E:XK} (h:spD G n g vs H Q E):vs.length=n:=by
 obtain⟨P,R,ds,_,_,h1,h2,_⟩:=h
 rw[h1.length,h2]
def spO (G:Glo) (n q:Nat) (g:List D→RE ER):Sp:=fun vs H Q _=>∃p xs H0 P ds dq,vs[q]? = some (.ref p)∧H=upd H0 p (.lst xs)∧H0 p=none∧(Same P H0∧qgm H0∧TF P)∧ds[q]? = some (.lst dq)∧D.flats dq=true∧Reps G P (fun _ _=>False) dq xs∧ds.length=n∧vs.length=n ∧
  (∀i d,i≠q→ds[i]? = some d→d.flat=true∧∃v,vs[i]? = some v∧Rep G P (fun _ _=>False) d v)∧match g ds with
 |.ok er=>∀v H' P' N',Adv P (fun _=>none) H0 P' N' H'→ERr ⟨G,fun _=>none,H0,P,fun _ _ _ _=>False,0,fun _=>none⟩ P' N' H' H0 er v→Q v H'
 |_=>False
def spI (G:Glo) (c n:Nat) (g:List D→RE (List D)):Sp:=fun vs H Q E=>∃x dx H0 P R ds us,vs=.ref x::us∧H=upd (upd H0 dx (.own x)) x (.ins (G.ca c) dx [])∧H0 x=none∧H0 dx=none∧Same P H0∧(Same R H0∧qgm H0∧TF P∧TF R)∧Reps G P (SqL G.K R) ds us∧ds.length=n∧match g ds with
 |.bad=>False
 |.ok fs=>∀H' P',HX H0 H'→(Same P P'∧(TF P→TF P'))→Same P' H'→(∀a,P' a≠none→P a≠none∨H0 a=none)→Rep G P' (fun _ _=>False) (.ins c fs) (.ref x)→Q .non H'
 |.exc c fs=>∀d H' P' N',Adv P (fun _=>none) H0 P' N' H'→ExR ⟨G,R,H0,P,fun _ _ _ _=>False,0,fun _=>none⟩ P' N' H' fs d→E (.ref (G.ca c)) d H'
theorem qsI {G:Glo} {c n:Nat} {g:List D→RE (List D)} {vs:List V} {H:Hp} {Q:VK} {E:XK} (h:spI G c n g vs H Q E):vs.length=n+1:=by
 obtain⟨x,dx,H0,P,R,ds,us,rfl,_,_,_,_,_,h1,h2,_⟩:=h
 rw[List.length_cons,h1.length,h2]
end Cm
namespace Cm
open PySem PySem.Spec PyProof.Rows L2
def qa1 (s:List Nat):Str:=⟨s.toArray⟩
inductive Bop where
 |add | sub | mul | fdv | mdl | pow | shl | shr | and | or
inductive Cop where
 |eq | ne | lt | le | gt | ge | isin | nin
inductive Pri where
 |len | abs | min2 | max2 | min1 | max1 | sum | sorted | all | any | list | tupl | int | str | dmd
inductive Bme where
 |split | join | find
inductive Ty where
 |bool | int | str | list | tuple
mutual
inductive Ex where
 |nev
 |var (i:Nat)
 |cint (i:Int)
 |cbl (b:Bool)
 |cnon
 |cstr (s:List Nat)
 |glo (k:Nat)
 |bin (o:Bop) (a b:Ex)
 |cmp (o:Cop) (a b:Ex)
 |chn (o p:Cop) (a b c:Ex)
 |isN (a:Ex)
 |bop (and:Bool) (es:Exs)
 |bnot (a:Ex)
 |tup (es:Exs)
 |lst (es:Exs)
 |idx (a i:Ex)
 |slc (a:Ex) (lo hi:Exs)
 |call (f:Nat) (es:Exs)
 |pri (p:Pri) (es:Exs)
 |lrng (es:Exs)
 |mth (m:Nat) (o:Ex) (es:Exs)
 |bm1 (m:Bme) (o a:Ex)
 |fld (o:Ex) (f:Nat)
 |isi (a:Ex) (t:Ty)
 |lc (own:List Nat) (it:Itx) (tg:List Nat) (cnd:Tes) (e:Ex)
 |lcx (own:List Nat) (it:Itx) (tg:List Nat) (cnd:Tes) (e:Ex)
 |inxS (o a:Ex)
 |lset (a:Ex)
 |new (k:Nat) (es:Exs)
 |isc (a:Ex) (k:Nat)
 |iscT (a:Ex) (ks:List Nat)
 |upr (o:Ex)
inductive Te where
 |val (e:Ex)
 |bop (and:Bool) (ts:Tes)
 |not (t:Te)
inductive Tes where
 |nil
 |cons (t:Te) (ts:Tes)
inductive Exs where
 |nil
 |cons (e:Ex) (es:Exs)
inductive Itx where
 |any (e:Ex)
 |rng (es:Exs)
 |zp (a b:Ex)
 |en (a:Ex)
 |rv (a:Ex)
 |rvr (a:Ex)
end
@[simp] def ok (d:D):RE ER:=.ok (.val d true)
def qpz (i j:Int):Prop:=(-(2 ^ 64)<i∧i<2 ^ 64)∨(-(2 ^ 64)<j∧j<2 ^ 64)
instance (i j:Int):Decidable (qpz i j):=by unfold qpz;infer_instance
def qos (j:Int):Prop:=j≠0∧j.natAbs<1073741824
instance (j:Int):Decidable (qos j):=by unfold qos;infer_instance
def qm5 (i j:Int):Prop:=0≤j∧j≤1000000∧i.natAbs<2 ^ 64
instance (i j:Int):Decidable (qm5 i j):=by unfold qm5;infer_instance
def LIM:Nat:=16777216
def gd {α:Type} (b:Bool) (r:RE α):RE α:=match b with
 |true=>r
 |false=>.bad
@[simp] theorem qky {α:Type} (r:RE α):gd true r=r:=rfl
theorem qef {α:Type} (b:Bool) (r:RE α):gd b r=if b=true then r else .bad:=by cases b<;>rfl
/- (they look at the first numeral alone: where it isn't known they stand still) -/
def qoQ (i j:Int):Bool:=Nat.ble i.natAbs 18446744073709551615||(Nat.ble j.natAbs 18446744073709551615||Nat.ble (Builtin.Int.intBits i+Builtin.Int.intBits j) 134217728)
def nzB (j:Int):Bool:=Nat.ble 1 j.natAbs
def qrJ (j:Int):Bool:=nzB j&&Nat.ble j.natAbs 1073741823
def dmB (j:Int):Bool:=Nat.ble 1 j.toNat&&Nat.ble j.natAbs 1073741823
def nnB (j:Int):Bool:=match j with
 |.ofNat _=>true
 |.negSucc _=>false
def qrb (i j:Int):Bool:=nnB j&&(Nat.ble j.natAbs 1000000&&Nat.ble i.natAbs 18446744073709551615)
def leB (n:Nat):Bool:=Nat.ble n LIM
def qs2 (n:Nat) (k:Int):Bool:=Nat.ble k.natAbs 9223372036854775807&&leB (n*k.toNat)
def qs6 (i:Int):Bool:=Nat.ble i.natAbs.log2 1919
def qu0 (t s:Nat):Bool:=Nat.ble 1 t&&leB (s+2)
theorem qbC (j:Int):(nzB j=true)=(j≠0):=by
 unfold nzB
 rw[Nat.ble_eq]
 exact propext ⟨fun h=>by omega,fun h=>by omega⟩
theorem qat (n:Nat):(leB n=true)=(n≤LIM):=by
 unfold leB
 rw[Nat.ble_eq]
theorem qbR (j:Int):(nnB j=true)=(0≤j):=by
 cases j with
 |ofNat n=>exact propext ⟨fun _=>Int.natCast_nonneg n,fun _=>rfl⟩
 |negSucc n=>exact propext ⟨fun h=>(by cases h),fun h=>(by omega)⟩
theorem qbB (i j:Int):(qoQ i j=true)=(qpz i j∨CMulX i j):=by
 unfold qoQ qpz CMulX
 rw[Bool.or_eq_true,Bool.or_eq_true,Nat.ble_eq,Nat.ble_eq,Nat.ble_eq]
 refine propext ⟨fun h=>?_,fun h=>?_⟩
 ·rcases h with h | h | h
  ·exact .inl (.inl (by omega))
  ·exact .inl (.inr (by omega))
  ·exact .inr (by omega)
 ·rcases h with(h | h) | h
  ·exact .inl (by omega)
  ·exact .inr (.inl (by omega))
  ·exact .inr (.inr (by omega))
theorem qbr (j:Int):(qrJ j=true)=qos j:=by
 unfold qrJ qos
 rw[Bool.and_eq_true,qbC,Nat.ble_eq]
 exact propext ⟨fun h=>⟨h.1,by omega⟩,fun h=>⟨h.1,by omega⟩⟩
theorem qrh (j:Int):(dmB j=true)=(0<j∧j<1073741824):=by
 unfold dmB
 rw[Bool.and_eq_true,Nat.ble_eq,Nat.ble_eq]
 exact propext ⟨fun h=>by omega,fun h=>by omega⟩
theorem qbt (i j:Int):(qrb i j=true)=qm5 i j:=by
 unfold qrb qm5
 rw[Bool.and_eq_true,Bool.and_eq_true,qbR,Nat.ble_eq,Nat.ble_eq]
 exact propext ⟨fun h=>⟨h.1,by omega,by omega⟩,fun h=>⟨h.1,by omega,by omega⟩⟩
theorem qnF {n:Nat} {k:Int} (h:qs2 n k=true):-(2 ^ 63)≤k∧k<2 ^ 63∧n*k.toNat≤LIM:=by
 unfold qs2 at h
 rw[Bool.and_eq_true,qat,Nat.ble_eq] at h
 exact⟨by omega,by omega,h.2⟩
theorem qbA (i:Int):(qs6 i=true)=(i.natAbs.log2<1920):=by
 unfold qs6
 rw[Nat.ble_eq]
 exact propext ⟨fun h=>by omega,fun h=>by omega⟩
theorem qbs (t s:Nat):(qu0 t s=true)=(t≠0∧s+2≤LIM):=by
 unfold qu0
 rw[Bool.and_eq_true,qat,Nat.ble_eq]
 exact propext ⟨fun h=>⟨by omega,h.2⟩,fun h=>⟨by omega,h.2⟩⟩
@[simp] def evB (o:Bop) (x y:D) (b:Bool):RE ER:=
 match o with
 |.add=>match x,y with
  |.int i,.int j=>ok (.int (i+j))
  |.str s,.str t=>gd (leB (s.length+t.length)) (ok (.str (s++t)))
  |.lst xs,.lst ys=>gd (leB (xs.length+ys.length)) (.ok (.fre (xs++ys) b))
  |.tup xs,.tup ys=>gd (leB (xs.length+ys.length)&&(Nat.ble 1 xs.length&&Nat.ble 1 ys.length)) (.ok (.val (.tup (xs++ys)) b))
  |_,_=>.bad
 |.sub=>match x,y with
  |.int i,.int j=>ok (.int (i - j))
  |_,_=>.bad
 |.mul=>match x,y with
  |.int i,.int j=>gd (qoQ i j) (ok (.int (i*j)))
  |.lst xs,.int k=>gd (qs2 xs.length k) (.ok (.fre (List.replicate k.toNat xs).flatten b))
  |.str s,.int k=>gd (qs2 s.length k&&(Nat.ble 1 k.toNat&&Nat.ble 1 s.length)) (ok (.str (List.replicate k.toNat s).flatten))
  |_,_=>.bad
 |.fdv=>match x,y with
  |.int i,.int j=>gd (qrJ j) (ok (.int (i.fdiv j)))
  |_,_=>.bad
 |.mdl=>match x,y with
  |.int i,.int j=>gd (nzB j) (ok (.int (i.fmod j)))
  |_,_=>.bad
 |.pow=>match x,y with
  |.int i,.int j=>gd (qrb i j) (ok (.int (i ^ j.toNat)))
  |_,_=>.bad
 |.shl=>match x,y with
  |.int i,.int j=>gd (qrb i j) (ok (.int (i*2 ^ j.toNat)))
  |_,_=>.bad
 |.shr=>match x,y with
  |.int i,.int j=>gd (nnB j) (ok (.int (i / 2 ^ j.toNat)))
  |_,_=>.bad
 |.and=>match x,y with
  |.int i,.int j=>ok (.int (Builtin.bitAnd i j))
  |_,_=>.bad
 |.or=>match x,y with
  |.int i,.int j=>ok (.int (Builtin.bitOr i j))
  |_,_=>.bad
def qkv (x y:D):RE Bool:=
 match x,y with
 |.int i,.int j=>.ok (decide (i=j))
 |.str s,.str t=>.ok (decide (s=t))
 |.bl a,.bl b=>.ok (a == b)
 |x,y=>if (x.fit 64&&y.fit 64)=true then .ok (x.eqb y) else .bad
def qoO (x y:D):RE Bool:=
 match y with
 |.lst ys=>if (x.fit 64&&(D.lst ys).fit 64)=true then .ok (ys.any fun z=>z.eqb x) else .bad
 |.tup ys=>if (x.fit 0&&D.fits ys 0)=true then .ok (ys.any fun z=>z.eqb x) else .bad
 |.str t=>match x with
  |.str [c]=>.ok (decide (c∈t))
  |_=>.bad
 |_=>.bad
@[simp] def evC (o:Cop) (x y:D):RE Bool:=
 match o with
 |.eq=>qkv x y
 |.ne=>(qkv x y).bind fun b=>.ok (!b)
 |.isin=>qoO x y
 |.nin=>(qoO x y).bind fun b=>.ok (!b)
 |.lt=>match x,y with
  |.int i,.int j=>.ok (decide (i<j))
  |_,_=>.bad
 |.le=>match x,y with
  |.int i,.int j=>.ok (decide (i≤j))
  |_,_=>.bad
 |.gt=>match x,y with
  |.int i,.int j=>.ok (decide (j<i))
  |_,_=>.bad
 |.ge=>match x,y with
  |.int i,.int j=>.ok (decide (j≤i))
  |_,_=>.bad
@[simp] def qkx (x:D):RE Bool:=
 match x with
 |.bl b=>.ok b
 |.int i=>.ok (i != 0)
 |.non=>.ok false
 |.lst xs=>.ok (!xs.isEmpty)
 |.tup xs=>.ok (!xs.isEmpty)
 |_=>.bad
@[simp] def qrZ (a i:D) (b:Bool):RE ER:=
 match a,i with
 |.lst xs,.int i=>match atI xs i with
  |some x=>.ok (.val x (b||x.flat))
  |none=>.bad
 |.tup xs,.int i=>match atI xs i with
  |some x=>.ok (.val x (b||x.flat))
  |none=>.bad
 |.str s,.int i=>gd (leB s.length) (match atI s i with
  |some c=>ok (.str [c])
  |none=>.bad)
 |_,_=>.bad
def qdu {α:Type} (xs:List α) (lo hi:Option Int):List α:=(xs.drop (HT.sIx xs.length 0 lo)).take (HT.sIx xs.length xs.length hi - HT.sIx xs.length 0 lo)
@[simp] def qu8 (a:D) (lo hi:Option Int) (b:Bool):RE ER:=
 match a with
 |.lst xs=>.ok (.fre (qdu xs lo hi) b)
 |.tup xs=>gd (!(decide (HT.sIx xs.length 0 lo=0)&&decide (HT.sIx xs.length xs.length hi=xs.length))) (.ok (.val (.tup (qdu xs lo hi)) b))
 |.str s=>gd (leB s.length) (ok (.str (qdu s lo hi)))
 |_=>.bad
def qb9:List D→Option (List Int)
 |[]=>some []
 |.int i::ds=>(qb9 ds).map (i :: ·)
 |_::_=>none
def qia:List D→Option (List Bool)
 |[]=>some []
 |.bl i::ds=>(qia ds).map (i :: ·)
 |_::_=>none
def qkf:List D→Option (List (List Nat))
 |[]=>some []
 |.str i::ds=>(qkf ds).map (i :: ·)
 |_::_=>none
def qhM:List Int→Int
 |[]=>0
 |[x]=>x
 |x::xs=>max x (qhM xs)
def qmT:List Int→Int
 |[]=>0
 |[x]=>x
 |x::xs=>min x (qmT xs)
def qsM (x:Int):List Int→List Int
 |[]=>[x]
 |y::ys=>if x≤y then x::y::ys else y::qsM x ys
def qe9:List Int→List Int
 |[]=>[]
 |x::xs=>qsM x (qe9 xs)
def qvI:List Int→List Int→Bool
 |[],[]=>false
 |[],_::_=>true
 |_::_,[]=>false
 |a::as,b::bs=>if a=b then qvI as bs else decide (a<b)
def qwc (x:List Int):List (List Int)→List (List Int)
 |[]=>[x]
 |y::ys=>if qvI y x=true then y::qwc x ys else x::y::ys
def qm1:List (List Int)→List (List Int)
 |[]=>[]
 |x::xs=>qwc x (qm1 xs)
def liD:D→Option (List Int)
 |.lst ds=>qb9 ds
 |_=>none
def qv7:List D→Option (List (List Int))
 |[]=>some []
 |d::ds=>match liD d with
  |some n=>(qv7 ds).map (n :: ·)
  |none=>none
def liV (n:List Int):D:=.lst (n.map D.int)
def qwL (x:D) (b:Bool):RE ER:=match x with
 |.lst xs=>match qv7 xs with
  |some ls=>.ok (.fre ((qm1 ls).map liV) b)
  |none=>.bad
 |_=>.bad
def quW (k:Bool) (ns:List Int) (d:Int):Int:=match ns with
 |[]=>d
 |n::ns=>if k=true then qhM (n::ns) else qmT (n::ns)
def qwE (k:Bool) (x y:D):RE ER:=match x with
 |.lst xs=>match qb9 xs with
  |some ns=>match y with
   |.int d=>ok (.int (quW k ns d))
   |_=>.bad
  |none=>.bad
 |_=>.bad
@[simp] def evP (p:Pri) (es:List ER):RE ER:=
 match p,es with
 |.len,[e]=>match e.d with
  |.lst xs=>ok (.int xs.length)
  |.tup xs=>ok (.int xs.length)
  |.str s=>gd (leB s.length) (ok (.int s.length))
  |_=>.bad
 |.abs,[e]=>match e.d with
  |.int i=>ok (.int (if i<0 then -i else i))
  |_=>.bad
 |.min2,[e,f]=>match e.d,f.d with
  |.int i,.int j=>ok (.int (if j<i then j else i))
  |_,_=>.bad
 |.max2,[e,f]=>match e.d,f.d with
  |.int i,.int j=>ok (.int (if j>i then j else i))
  |_,_=>.bad
 |.min1,[e]=>match e.d with
  |.lst xs=>match qb9 xs with
   |some (n::ns)=>ok (.int (qmT (n::ns)))
   |_=>.bad
  |_=>.bad
 |.max1,[e]=>match e.d with
  |.lst xs=>match qb9 xs with
   |some (n::ns)=>ok (.int (qhM (n::ns)))
   |_=>.bad
  |_=>.bad
 |.sum,[e]=>match e.d with
  |.lst xs=>match qb9 xs with
   |some ns=>ok (.int ns.sum)
   |none=>.bad
  |_=>.bad
 |.sorted,[e]=>match e.d with
  |.lst xs=>match qb9 xs with
   |some ns=>.ok (.fre ((qe9 ns).map D.int) true)
   |none=>.bad
  |_=>.bad
 |.all,[e]=>match e.d with
  |.lst xs=>match qia xs with
   |some bs=>ok (.bl (bs.all id))
   |none=>.bad
  |_=>.bad
 |.any,[e]=>match e.d with
  |.lst xs=>match qia xs with
   |some bs=>ok (.bl (bs.any id))
   |none=>.bad
  |_=>.bad
 |.list,[e]=>match e.d with
  |.lst xs=>.ok (.fre xs (e.b||D.flats xs))
  |.tup xs=>.ok (.fre xs (e.b||D.flats xs))
  |_=>.bad
 |.tupl,[e]=>match e.d with
  |.lst xs=>.ok (.val (.tup xs) (e.b||D.flats xs))
  |_=>.bad
 |.int,[e]=>match e.d with
  |.int i=>ok (.int i)
  |.bl c=>ok (.int (if c then 1 else 0))
  |.str s=>match intText? (qa1 s) with
   |some n=>gd (Nat.ble s.length 640) (ok (.int n))
   |none=>.bad
  |_=>.bad
 |.dmd,[e,f]=>match e.d,f.d with
  |.int i,.int j=>gd (dmB j) (ok (.tup [.int (i / j),.int (i % j)]))
  |_,_=>.bad
 |.str,[e]=>match e.d with
  |.int i=>gd (qs6 i) (ok (.str (toString i:Str).cps.toList))
  |_=>.bad
 |_,_=>.bad
def idxD (y:D):List D→Option Nat
 |[]=>none
 |x::xs=>if x.eqb y=true then some 0 else (idxD y xs).map (· + 1)
def qqQ (xs:List D) (y:D):RE ER:=
 if (y.fit 0&&D.fits xs 0)=true then (match idxD y xs with
  |some j=>ok (.int j)
  |none=>.bad) else .bad
def qv8 (x:Int):List Int→List Int
 |[]=>[x]
 |y::ys=>if x<y then x::y::ys else if x=y then y::ys else y::qv8 x ys
def qsZ:List Int→List Int
 |[]=>[]
 |x::xs=>qv8 x (qsZ xs)
def qwq (x:D):RE ER:=match x with
 |.lst xs=>match qb9 xs with
  |some ns=>gd (Nat.ble ns.length 4000&&Nat.ble (qsZ ns).length 63) (.ok (.fre ((qsZ ns).map D.int) true))
  |none=>.bad
 |_=>.bad
def qxj (x:D):RE ER:=match x with
 |.bl b=>.ok (.val (.bl b) true)
 |_=>.bad
def qtS (ks ns:List Int):List Int:=ns.mergeSort fun a b=>decide (ks.getD a.toNat 0≤ks.getD b.toNat 0)
def qwe (x y:D):RE ER:=match x with
 |.lst xs=>match qb9 xs with
  |some ns=>match y with
   |.lst zs=>match qb9 zs with
    |some ks=>gd (leB ns.length&&(leB ks.length&&decide (∀n∈ns,0≤n∧n<ks.length))) (.ok (.fre ((qtS ks ns).map D.int) true))
    |none=>.bad
   |_=>.bad
  |none=>.bad
 |_=>.bad
def slD:Option Sl→RE D
 |some (.val d _)=>.ok d
 |some (.fxd d _)=>.ok d
 |_=>.bad
def qwl (x:D):RE ER:=match x with
 |.lst xs=>match qb9 xs with
  |some ns=>gd (leB ns.length) (.ok (.fre (ns.reverse.map D.int) true))
  |none=>.bad
 |_=>.bad
def qv1 (z:Int):List Int→Option Nat
 |[]=>none
 |s::ss=>if s=z then some 0 else (qv1 z ss).map (· + 1)
def qvA (z:List Nat):List (List Nat)→Option Nat
 |[]=>none
 |s::ss=>if s=z then some 0 else (qvA z ss).map (· + 1)
def qv4 (ss:List (List Nat)) (y:D):RE ER:=match y with
 |.str z=>(match qvA z ss with
  |some j=>ok (.int j)
  |none=>.bad)
 |_=>.bad
def qwy:D→Option (List (List Nat))
 |.tup xs=>qkf xs
 |_=>none
def qvk (xs:List D) (y:D):RE ER:=
 match qb9 xs with
 |some ns=>match y with
  |.int k=>ok (.int (ns.count k:Nat))
  |_=>.bad
 |none=>.bad
def qlQ (s:List Nat) (y:D):RE ER:=
 match y with
 |.str t=>(match Builtin.Str.occurrences (qa1 s) (qa1 t) 0 s.length 1 with
  |j::_=>ok (.int (j:Nat))
  |[]=>.bad)
 |_=>.bad
def qlD (ns:List Int):Nat:=(PyProof.Rows.firstMet (fun i=>ns.getD i 0) ns.length).length
@[simp] def qmc (x:D):RE ER:=
 match x with
 |.lst xs=>match qb9 xs with
  |some ns=>gd (Nat.ble ns.length 1000) (ok (.int (qlD ns)))
  |none=>.bad
 |_=>.bad
@[simp] def evM (m:Bme) (s:List Nat) (y:D):RE ER:=
 match m with
 |.split=>match y with
  |.str t=>gd (qu0 t.length s.length) (.ok (.fre ((Txt.split (qa1 s) (qa1 t)).map fun z=>.str z.cps.toList) true))
  |_=>.bad
 |.join=>match y with
  |.lst xs=>match qkf xs with
   |some ss=>gd (leB ((ss.map List.length).sum+ss.length*s.length)) (ok (.str (Txt.join (qa1 s) (ss.map qa1)).cps.toList))
   |none=>.bad
  |_=>.bad
 |.find=>match y with
  |.str t=>ok (.int (Txt.find (qa1 s) (qa1 t)))
  |_=>.bad
@[simp] def qsW (x:D) (t:Ty):RE ER:=
 match x,t with
 |.bl _,.bool=>ok (.bl true)
 |.bl _,.int=>ok (.bl true)
 |.int _,.int=>ok (.bl true)
 |.str _,.str=>ok (.bl true)
 |.lst _,.list=>ok (.bl true)
 |.tup _,.tuple=>ok (.bl true)
 |.ins _ _,_=>.bad
 |.exc _ _,_=>.bad
 |_,_=>ok (.bl false)
def qfN (lo c:Int) (n:Nat):List Int:=(List.range n).map fun(i:Nat)=>lo+(i:Int)*c
def inB (i:Int):Prop:=-(2 ^ 62)≤i∧i<2 ^ 62
instance (i:Int):Decidable (inB i):=by unfold inB;infer_instance
def qsY (i j c:Int):Nat:=(Builtin.Range.rangeSize i j c).toNat
def qqZ (i:Int):Bool:=Nat.ble i.natAbs 4611686018427387903
def qmE (n:Int):Bool:=qqZ n&&leB n.toNat
def quS (i j:Int):Bool:=qqZ i&&(qqZ j&&leB (j - i).toNat)
def quZ (i j c:Int):Bool:=nzB c&&(Nat.ble c.natAbs 1073741823&&(Builtin.Range.small i j c&&(nnB (Builtin.Range.rangeSize i j c)&&leB (qsY i j c))))
theorem qkY {i:Int} (h:qqZ i=true):inB i:=by
 unfold qqZ at h
 rw[Nat.ble_eq] at h
 exact⟨by omega,by omega⟩
theorem qkV {n:Int} (h:qmE n=true):inB n∧n.toNat≤LIM:=by
 unfold qmE at h
 rw[Bool.and_eq_true,qat] at h
 exact⟨qkY h.1,h.2⟩
theorem qmW {i j:Int} (h:quS i j=true):inB i∧inB j∧(j - i).toNat≤LIM:=by
 unfold quS at h
 rw[Bool.and_eq_true,Bool.and_eq_true,qat] at h
 exact⟨qkY h.1,qkY h.2.1,h.2.2⟩
theorem qbz (i j c:Int):(quZ i j c=true)=(c≠0∧c.natAbs<1073741824∧Builtin.Range.small i j c=true∧0≤Builtin.Range.rangeSize i j c∧qsY i j c≤LIM):=by
 unfold quZ
 rw[Bool.and_eq_true,Bool.and_eq_true,Bool.and_eq_true,Bool.and_eq_true,qbC,Nat.ble_eq,qbR,qat]
 exact propext ⟨fun h=>⟨h.1,by omega,h.2.2⟩,fun h=>⟨h.1,by omega,h.2.2⟩⟩
@[simp] def qeF (es:List ER):RE (List Int):=
 match es with
 |[a]=>match a.d with
  |.int n=>gd (qmE n) (.ok (qfN 0 1 n.toNat))
  |_=>.bad
 |[a,b]=>match a.d,b.d with
  |.int i,.int j=>gd (quS i j) (.ok (qfN i 1 (j - i).toNat))
  |_,_=>.bad
 |[a,b,c]=>match a.d,b.d,c.d with
  |.int i,.int j,.int c=>gd (quZ i j c) (.ok (qfN i c (qsY i j c)))
  |_,_,_=>.bad
 |_=>.bad
structure Env where
 fn:List (Str × (List D→RE ER))
 gc:List (Str × D)
 mn:List Str
 mt:Nat→Nat→Option (List D→RE ER)
 fs:List Str
 fi:Nat→Nat→Option Nat
 nw:List (Nat × (List D→RE (List D))):=[]
 ck:List (Nat→Option Bool):=[]
 ik:List (Nat→Option Bool):=[]
 xk:List Nat:=[]
 dc:List (Str × List (List Nat × Option D)):=[]
 fo:List (Nat × (List D→RE ER)):=[]
def qaZ:List (Nat × Nat × (List D→RE ER))→Nat→Nat→Option (List D→RE ER)
 |[],_,_=>none
 |t::r,c,m=>if t.1=c then (if t.2.1=m then some t.2.2 else qaZ r c m) else qaZ r c m
def qa0:List (Nat × Nat × Nat)→Nat→Nat→Option Nat
 |[],_,_=>none
 |t::r,c,m=>if t.1=c then (if t.2.1=m then some t.2.2 else qa0 r c m) else qa0 r c m
@[simp] def qdT (k:Bool) (er:ER):RE ER:=
 match k with
 |false=>match er with
  |.brw _ _=>.bad
  |.val d b=>.ok (.val d (b||d.flat))
  |.fre ds b=>.ok (.fre ds b)
 |true=>match er with
  |.val d b=>if (b||d.flat)=true then .ok (.val d true) else .bad
  |.fre ds b=>if (b||D.flats ds)=true then .ok (.fre ds true) else .bad
  |.brw _ _=>.bad
def qrQ:List ER→Option (List (List Int))
 |[]=>some []
 |.brw ds _::es=>match qb9 ds with
  |some ns=>(qrQ es).map (ns :: ·)
  |none=>none
 |.val _ _::es=>qrQ es
 |.fre _ _::es=>qrQ es
mutual
def qqq (os:List (List Int)):D→Bool
 |.lst ds=>match qb9 ds with
  |some ns=>!decide (ns∈os)
  |none=>false
 |.tup ds=>qpi os ds
 |.ins _ _=>false
 |.exc _ _=>false
 |.non=>true
 |.bl _=>true
 |.int _=>true
 |.str _=>true
def qpi (os:List (List Int)):List D→Bool
 |[]=>true
 |d::ds=>qqq os d&&qpi os ds
end
def qxD (os:List (List Int)) (er:ER):RE ER:=match er with
 |.val d _=>if qqq os d=true then .ok (.val d d.flat) else .bad
 |_=>.bad
@[simp] def wipeS (ρ:List Sl):List Nat→List Sl
 |[]=>ρ
 |v::vs=>(wipeS ρ vs).set v .non
@[simp] def qkS:List Nat→List D→Bool→List Sl→Option (List Sl)
 |[],[],_,ρ=>some ρ
 |i::is,d::ds,b,ρ=>qkS is ds b (ρ.set i (.val d (b||d.flat)))
 |_,_,_,_=>none
@[simp] def qcx (tg:List Nat) (x:D) (b:Bool) (ρ:List Sl):Option (List Sl):=
 match tg with
 |[i]=>some (ρ.set i (.val x (b||x.flat)))
 |tg=>match x with
  |.tup ds=>qkS tg ds b ρ
  |.lst ds=>qkS tg ds b ρ
  |_=>none
def lcl (f:D→RE (Option (D × Bool))):List D→RE (List D × Bool)
 |[]=>.ok ([],true)
 |x::xs=>(f x).bind fun r=>(lcl f xs).bind fun q=>match r with
  |none=>.ok q
  |some y=>.ok (y.1::q.1,y.2&&q.2)
@[simp] def noX {α:Type}:RE α→RE α
 |.exc _ _=>.bad
 |r=>r
@[simp] def dis (f:List D→Bool→ER) (es:List ER):RE ER:=if (es.all ER.isV)=true then .ok (f (es.map ER.d) (es.all ER.b)) else .bad
structure Wk where
 xs:List D
 b:Bool
 own:Bool
@[simp] def qir (e:ER):RE Wk:=
 match e.d with
 |.lst xs=>.ok ⟨xs,e.b,e.isB⟩
 |.tup xs=>.ok ⟨xs,e.b,false⟩
 |.str s=>.ok ⟨s.map fun c=>.str [c],true,false⟩
 |_=>.bad
def qqc:List (Option (Nat→Option Bool))→Nat→Option Bool
 |[],_=>some false
 |none::_,_=>none
 |some g::r,c=>match g c with
  |some true=>some true
  |some false=>qqc r c
  |none=>none
def qnI (cks:List (Option (Nat→Option Bool))) (x:D):RE ER:=match x with
 |.exc c []=>match qqc cks c with
  |some b=>ok (.bl b)
  |none=>.bad
 |_=>.bad
def qpl (ck ik:Option (Nat→Option Bool)) (x:D):RE ER:=
 match x with
 |.exc c fs=>match fs with
  |[]=>match ck with
   |some g=>match g c with
    |some b=>ok (.bl b)
    |none=>.bad
   |none=>.bad
  |_=>.bad
 |.ins c _=>match ik with
  |some g=>match g c with
   |some b=>ok (.bl b)
   |none=>.bad
  |none=>.bad
 |_=>.bad
def pkS:Sl→Sl
 |.row dss=>.val (.lst (dss.map D.lst)) true
 |s=>s
def frz (z:Bool) (ρ:List Sl):List Sl:=if z=true then ρ.map pkS else ρ
def pkR:RE ER→RE ER
 |.bad=>.bad
 |.exc c fs=>if D.flats fs=true then .exc c fs else .bad
 |.ok er=>match er with
  |.val d _=>if d.flat=true then .ok (.val d true) else .bad
  |.fre ds _=>if D.flats ds=true then .ok (.fre ds true) else .bad
  |.brw _ _=>.bad
def qfs {α:Type} (k:Int):List (Int × α)→Option α
 |[]=>none
 |e::r=>if e.1=k then some e.2 else qfs k r
def qs1 {α:Type} (k:Int) (x:α) (m:List (Int × α)):List (Int × α):=m.map fun e=>if e.1=k then (e.1,x) else e
def qoN {α:Type} (k:Int) (x:α) (m:List (Int × α)):List (Int × α):=if (qfs k m).isSome=true then qs1 k x m else m++[(k,x)]
def qwi (m:List (Int × D)) (n:Bool) (x:D):RE ER:=match x with
 |.int k=>ok (.bl ((qfs k m).isSome == n))
 |_=>.bad
def qxg (m:List (Int × D)) (b:Bool) (x:D):RE ER:=match x with
 |.int k=>match qfs k m with
  |some d=>.ok (.val d (b||d.flat))
  |none=>.bad
 |_=>.bad
def qw5 (t:List (List Nat × Option D)) (n:Bool) (x:D):RE ER:=
 match x with
 |.str s=>match t.lookup s with
  |some o=>ok (.bl (o.isSome == n))
  |none=>.bad
 |_=>.bad
def qxv (t:List (List Nat × Option D)) (x:D):RE ER:=
 match x with
 |.str s=>match t.lookup s with
  |some (some d)=>ok d
  |_=>.bad
 |_=>.bad
def upT (s:List Nat):List Nat:=(PySem.Txt.upper (qa1 s)).cps.toList
def qvZ:List (List Nat)→List ER→List Nat→Option ER
 |k::ks,r::rs,s=>if k=s then some r else qvZ ks rs s
 |_,_,_=>none
def qv5 (ks:List (List Nat)) (r:List ER) (x:D):RE ER:=
 match x with
 |.str s=>match qvZ ks r s with
  |some (.val d b)=>.ok (.val d b)
  |_=>.bad
 |_=>.bad
@[simp] def D.isNon:D→Bool
 |.non=>true
 |_=>false
mutual
@[simp] def ev (Γ:Env):Ex→List Sl→RE ER
 |.nev,_=>.bad
 |.var i,ρ=>match ρ[i]? with
  |some (.val d b)=>.ok (.val d b)
  |some (.own ds b)=>.ok (.brw ds b)
  |some (.fxd d _)=>.ok (.val d false)
  |_=>.bad
 |.cint i,_=>ok (.int i)
 |.cbl b,_=>ok (.bl b)
 |.cnon,_=>ok .non
 |.cstr s,_=>ok (.str s)
 |.glo k,_=>match Γ.gc[k]? with
  |some c=>.ok (.val c.2 true)
  |none=>.bad
 |.bin o a b,ρ=>(ev Γ a ρ).bind fun x=>(ev Γ b ρ).bind fun y=>evB o x.d y.d (x.b&&y.b)
 |.cmp o a b,ρ=>(ev Γ a ρ).bind fun x=>(ev Γ b ρ).bind fun y=>(evC o x.d y.d).bind fun c=>ok (.bl c)
 |.chn o p a b c,ρ=>(ev Γ a ρ).bind fun x=>(ev Γ b ρ).bind fun y=>(evC o x.d y.d).bind fun k=>if k=true then (ev Γ c ρ).bind fun z=>(evC p y.d z.d).bind fun k'=>ok (.bl k') else ok (.bl false)
 |.isN a,ρ=>(ev Γ a ρ).bind fun x=>ok (.bl x.d.isNon)
 |.bop c es,ρ=>qnA Γ c es ρ
 |.bnot a,ρ=>(ev Γ a ρ).bind fun x=>(qkx x.d).bind fun k=>ok (.bl (!k))
 |.tup es,ρ=>(evs Γ es ρ).bind fun r=>dis (fun ds b=>.val (.tup ds) b) r
 |.lst es,ρ=>(evs Γ es ρ).bind fun r=>dis .fre r
 |.idx a i,ρ=>(ev Γ a ρ).bind fun x=>(ev Γ i ρ).bind fun y=>qrZ x.d y.d x.b
 |.slc a lo hi,ρ=>(ev Γ a ρ).bind fun x=>(evO Γ lo ρ).bind fun l=>(evO Γ hi ρ).bind fun h=>qu8 x.d l h x.b
 |.call f es,ρ=>match Γ.fn[f]? with
  |some g=>(evs Γ es ρ).bind fun r=>(g.2 (r.map ER.d)).bind (qdT (!r.all ER.isV))
  |none=>.bad
 |.pri p es,ρ=>(evs Γ es ρ).bind fun r=>evP p r
 |.lrng es,ρ=>(evs Γ es ρ).bind fun r=>(qeF r).bind fun ns=>.ok (.fre (ns.map D.int) true)
 |.mth m o es,ρ=>(ev Γ o ρ).bind fun x=>match x.d with
  |.ins c fs=>match Γ.mt c m with
   |some g=>(evs Γ es ρ).bind fun r=>(g (.ins c fs::r.map ER.d)).bind (qdT (!r.all ER.isV))
   |none=>.bad
  |_=>.bad
 |.bm1 m o a,ρ=>(ev Γ o ρ).bind fun x=>match x.d with
  |.str s=>(ev Γ a ρ).bind fun y=>evM m s y.d
  |_=>.bad
 |.fld o f,ρ=>(ev Γ o ρ).bind fun x=>match x.d with
  |.ins c fs=>match Γ.fi c f with
   |some k=>match fs[k]? with
    |some d=>.ok (.val d d.flat)
    |none=>.bad
   |none=>.bad
  |_=>.bad
 |.isi a t,ρ=>(ev Γ a ρ).bind fun x=>qsW x.d t
 |.lc own it tg cnd e,ρ=>(evI Γ it ρ).bind fun xs=>gd (leB xs.xs.length) ((lcl (fun x=>match qcx tg x xs.b (wipeS ρ own) with
   |some ρ'=>noX ((qg8 Γ true cnd ρ').bind fun k=>if k=true then (ev Γ e ρ').bind fun y=>match y with
    |.brw _ _=>.bad
    |y=>.ok (some (y.d,y.b)) else .ok none)
   |none=>.bad) xs.xs).bind fun r=>.ok (.fre r.1 r.2))
 |.lcx own it tg cnd e,ρ=>(evI Γ it ρ).bind fun xs=>gd (leB xs.xs.length) ((lcl (fun x=>match qcx tg x xs.b (wipeS ρ own) with
   |some ρ'=>(qg8 Γ true cnd ρ').bind fun k=>if k=true then (ev Γ e ρ').bind fun y=>match y with
    |.brw _ _=>.bad
    |y=>.ok (some (y.d,y.b)) else .ok none
   |none=>.bad) xs.xs).bind fun r=>.ok (.fre r.1 r.2))
 |.inxS o a,ρ=>(ev Γ o ρ).bind fun x=>match x.d with
  |.str s=>(ev Γ a ρ).bind fun y=>qlQ s y.d
  |_=>.bad
 |.lset a,ρ=>(ev Γ a ρ).bind fun x=>qmc x.d
 |.new k es,ρ=>match Γ.nw[k]? with
  |some g=>(evs Γ es ρ).bind fun r=>(g.2 (r.map ER.d)).bind fun fs=>.ok (.val (.ins g.1 fs) true)
  |none=>.bad
 |.isc a k,ρ=>(ev Γ a ρ).bind fun x=>qpl (Γ.ck[k]?) (Γ.ik[k]?) x.d
 |.iscT a ks,ρ=>(ev Γ a ρ).bind fun x=>qnI (ks.map fun k=>Γ.ck[k]?) x.d
 |.upr o,ρ=>(ev Γ o ρ).bind fun x=>match x.d with
  |.str s=>gd (Nat.ble s.length 5592405) (ok (.str (upT s)))
  |_=>.bad
@[simp] def evs (Γ:Env):Exs→List Sl→RE (List ER)
 |.nil,_=>.ok []
 |.cons e es,ρ=>(ev Γ e ρ).bind fun x=>(evs Γ es ρ).bind fun r=>.ok (x.frz::r)
@[simp] def evO (Γ:Env):Exs→List Sl→RE (Option Int)
 |.nil,_=>.ok none
 |.cons e es,ρ=>(ev Γ e ρ).bind fun x=>match x.d with
  |.int i=>.ok (some i)
  |_=>.bad
@[simp] def evT (Γ:Env):Te→List Sl→RE Bool
 |.bop c es,ρ=>qg8 Γ c es ρ
 |.not a,ρ=>(evT Γ a ρ).bind fun k=>.ok (!k)
 |.val e,ρ=>(ev Γ e ρ).bind fun x=>qkx x.d
@[simp] def qg8 (Γ:Env) (c:Bool):Tes→List Sl→RE Bool
 |.nil,_=>.ok c
 |.cons e es,ρ=>(evT Γ e ρ).bind fun k=>if k=c then qg8 Γ c es ρ else .ok k
@[simp] def qnA (Γ:Env) (c:Bool):Exs→List Sl→RE ER
 |.nil,_=>ok (.bl c)
 |.cons e es,ρ=>(ev Γ e ρ).bind fun x=>match x.d with
  |.bl k=>if k=c then qnA Γ c es ρ else ok (.bl k)
  |_=>.bad
@[simp] def evI (Γ:Env):Itx→List Sl→RE Wk
 |.any e,ρ=>(ev Γ e ρ).bind qir
 |.rng es,ρ=>(evs Γ es ρ).bind fun r=>(qeF r).bind fun ns=>.ok ⟨ns.map D.int,true,false⟩
 |.zp a b,ρ=>(ev Γ a ρ).bind fun x=>(ev Γ b ρ).bind fun y=>match x.d,y.d with
  |.lst xs,.lst ys=>.ok ⟨List.zipWith (fun u v=>.tup [u,v]) xs ys,x.b&&y.b,x.isB||y.isB⟩
  |_,_=>.bad
 |.en a,ρ=>(ev Γ a ρ).bind fun x=>match x.d with
  |.lst xs=>.ok ⟨xs.zipIdx.map fun p=>.tup [.int p.2,p.1],x.b,x.isB⟩
  |_=>.bad
 |.rv a,ρ=>(ev Γ a ρ).bind fun x=>match x.d with
  |.lst xs=>.ok ⟨xs.reverse,x.b,x.isB⟩
  |_=>.bad
 |.rvr a,ρ=>(ev Γ a ρ).bind fun x=>match x.d with
  |.int n=>gd (qmE n) (.ok ⟨(qfN (0+(((n - 0).toNat:Nat):Int) - 1) (-1) (n - 0).toNat).map D.int,true,false⟩)
  |_=>.bad
end
inductive Pth where
 |var (j:Nat)
 |ix (p:Pth) (k:Nat)
inductive Ch1 where
 |clr (p:Pth)
 |app (p:Pth) (e:Ex)
 |put (p:Pth) (k:Nat) (e:Ex)
inductive Ch where
 |nil
 |one (c:Ch1) (r:Ch)
 |wlk (l:Nat) (p:Pth) (b:List Ch1) (r:Ch)
 |ifs (j:Nat) (b r:Ch)
 |ifl (p:Pth) (b r:Ch)
mutual
def qeO:Ex→Bool
 |.cint _=>true
 |.cstr _=>true
 |.cbl _=>true
 |.cnon=>true
 |.tup es=>qoJ es
 |.lst es=>qoJ es
 |_=>false
def qoJ:Exs→Bool
 |.nil=>true
 |.cons e es=>qeO e&&qoJ es
end
@[simp] def D.isRef:D→Bool
 |.lst _=>true
 |.tup _=>true
 |.ins _ _=>true
 |.exc _ _=>true
 |_=>false
def clD (ds:List D):Nat:=if ds.isEmpty then 0 else if ds.any D.isRef then 2 else 1
abbrev Zs:=List Nat × Nat
def qoS (τ:List (Nat × D)) (Z:Zs):Pth→Option D
 |.var j=>τ.lookup j
 |.ix p k=>match qoS τ Z p with
  |some (.tup ds)=>ds[k]?
  |some (.lst ds)=>if clD ds∈Z.1 then none else ds[k]?
  |_=>none
def qmu (τ:List (Nat × D)) (Z:Zs):Ch1→Option Zs
 |.clr p=>match qoS τ Z p with
  |some (.lst ds)=>some (clD ds::Z.1,Z.2)
  |_=>none
 |.app p e=>match qoS τ Z p with
  |some (.lst ds)=>if (qeO e&&leB (ds.length+(Z.2+1)))=true then some (clD ds::Z.1,Z.2+1) else none
  |_=>none
 |.put p k e=>match qoS τ Z p with
  |some (.lst ds)=>if clD ds∈Z.1 then none else if (qeO e&&decide (k<ds.length))=true then some (clD ds::Z.1,Z.2) else none
  |_=>none
def qoA (τ:List (Nat × D)):List Ch1→Zs→Option Zs
 |[],Z=>some Z
 |c::cs,Z=>(qmu τ Z c).bind (qoA τ cs)
def qp4 (f:D→Zs→Option Zs):List D→Zs→Option Zs
 |[],Z=>some Z
 |d::ds,Z=>(f d Z).bind (qp4 f ds)
def drp (l:Nat) (τ:List (Nat × D)):List (Nat × D):=τ.filter fun e=>e.1 != l
def qmQ (ls:List Nat) (τ:List (Nat × D)):List (Nat × D):=τ.filter fun e=>!ls.contains e.1
def Ch.tgs:Ch→List Nat
 |.nil=>[]
 |.one _ r=>r.tgs
 |.wlk l _ _ r=>l::r.tgs
 |.ifs _ b r=>b.tgs++r.tgs
 |.ifl _ b r=>b.tgs++r.tgs
def chg:Ch→List (Nat × D)→Zs→Option Zs
 |.nil,_,Z=>some Z
 |.one c r,τ,Z=>(qmu τ Z c).bind (chg r τ)
 |.wlk l p b r,τ,Z=>match qoS τ Z p with
  |some (.lst ds)=>(qp4 (fun d Z=>qoA ((l,d)::drp l τ) b Z) ds Z).bind fun Z'=>if clD ds∈Z'.1 then none else chg r (drp l τ) Z'
  |_=>none
 |.ifs j b r,τ,Z=>match τ.lookup j with
  |some d=>if d.isNon=true then chg r (qmQ b.tgs τ) Z else (chg b τ Z).bind (chg r (qmQ b.tgs τ))
  |none=>none
 |.ifl p b r,τ,Z=>match qoS τ Z p with
  |some (.lst _)=>(chg b τ Z).bind (chg r (qmQ b.tgs τ))
  |_=>none
def Ch1.len:List Ch1→Nat:=List.length
def Ch.len:Ch→Nat
 |.nil=>0
 |.one _ r=>r.len+1
 |.wlk _ _ _ r=>r.len+1
 |.ifs _ _ r=>r.len+1
 |.ifl _ _ r=>r.len+1
def ent (k:Nat):Sl→Sl
 |.val d b=>if (b||d.flat)=true then .val d b else .fxd d k
 |.own ds b=>.own ds b
 |.fxd d _=>.fxd d k
 |_=>.non
def qkw:Nat→List Sl→List Sl
 |_,[]=>[]
 |k,q::qs=>ent k q::qkw (k+1) qs
def ext (k:Nat) (q:Sl):Sl→Sl
 |.val d b=>if (b||d.flat)=true then .val d b else .non
 |.own ds b=>if (b||D.flats ds)=true then .own ds b else .non
 |.fxd _ j=>if j=k then (match q with
  |.val d b=>.val d b
  |.fxd d m=>.fxd d m
  |_=>.non) else .non
 |_=>.non
def qj1 (ρ:List Sl):Nat→List Sl→List Sl
 |_,[]=>[]
 |k,r::rs=>ext k (ρ[k]?.getD .non) r::qj1 ρ (k+1) rs
def ql3:ER→Option D
 |.val d b=>if (b||d.flat)=true then some d else none
 |.fre ds b=>if (b||D.flats ds)=true then some (.lst ds) else none
 |.brw _ _=>none
mutual
def noK (k:Nat):D→Bool
 |.lst ds=>(clD ds != k)&&qr4 k ds
 |.tup ds=>qr4 k ds
 |_=>true
def qr4 (k:Nat):List D→Bool
 |[]=>true
 |d::ds=>noK k d&&qr4 k ds
end
def qwx:ER→Option (List D × List D)
 |.val (.tup [.lst ds,.lst es]) true=>if (D.flats ds&&(clD ds != clD es)&&qr4 (clD es) es)=true then some (ds,es) else none
 |_=>none
inductive Tr where
 |ex (e:Ex)
 |as (j:Nat) (e:Ex)
 |iff (t:Te) (a b:Tr)
mutual
inductive Sm where
 |nev
 |rse (k:Nat)
 |tryx (k i j:Nat) (b:Tr)
 |asg (i:Nat) (e:Ex)
 |own (i:Nat) (e:Ex)
 |asgT (tg:List Nat) (e:Ex)
 |put (i:Nat) (ix e:Ex)
 |app (i:Nat) (e:Ex)
 |clr (i:Nat)
 |expr (e:Ex)
 |ret (e:Ex)
 |retN
 |pas
 |brk
 |cnt
 |iff (c:Te) (a b:Sms)
 |for (it:Itx) (tg:List Nat) (b:Sms)
 |whl (c:Te) (b:Sms)
 |apop (i j:Nat) (ix:Ex)
 |popx (i:Nat) (ix:Ex)
 |ins (i:Nat) (ix e:Ex)
 |fset (f:Nat) (e:Ex)
 |row (i:Nat) (es:Exs)
inductive Sms where
 |nil
 |cons (s:Sm) (ss:Sms)
 |frz (i:Nat) (ss:Sms)
 |hav (i f:Nat) (es:Exs) (rd:Sms) (cs:Ch) (ss:Sms)
end
inductive Out where
 |bad | nx (ρ:List Sl) | brk (ρ:List Sl) | cnt (ρ:List Sl) | ret (er:ER) | exc (c:Nat) (fs:List D)
def RE.out {α:Type}:RE α→(α→Out)→Out
 |.bad,_=>.bad
 |.ok a,f=>f a
 |.exc c fs,_=>.exc c fs
@[simp] theorem RE.out_ok {α:Type} (a:α) (f:α→Out):(RE.ok a).out f=f a:=rfl
@[simp] theorem RE.out_bad {α:Type} (f:α→Out):(RE.bad:RE α).out f=.bad:=rfl
@[simp] theorem RE.out_exc {α:Type} (c:Nat) (fs:List D) (f:α→Out):(RE.exc c fs:RE α).out f=.exc c fs:=rfl
def gdO (b:Bool) (o:Out):Out:=match b with
 |true=>o
 |false=>.bad
@[simp] theorem qdB (o:Out):gdO true o=o:=rfl
theorem qbu (b:Bool) (o:Out):gdO b o=if b=true then o else .bad:=by cases b<;>rfl
def Out.seq:Out→(List Sl→Out)→Out
 |.nx ρ,f=>f ρ
 |o,_=>o
@[simp] theorem Out.seq_nx (ρ:List Sl) (f:List Sl→Out):(Out.nx ρ).seq f=f ρ:=rfl
@[simp] theorem Out.seq_ret (e:ER) (f:List Sl→Out):(Out.ret e).seq f=.ret e:=rfl
@[simp] theorem Out.seq_brk (ρ:List Sl) (f:List Sl→Out):(Out.brk ρ).seq f=.brk ρ:=rfl
@[simp] theorem Out.seq_cnt (ρ:List Sl) (f:List Sl→Out):(Out.cnt ρ).seq f=.cnt ρ:=rfl
@[simp] theorem Out.seq_bad (f:List Sl→Out):Out.bad.seq f=.bad:=rfl
@[simp] theorem Out.seq_exc (c:Nat) (fs:List D) (f:List Sl→Out):(Out.exc c fs).seq f=.exc c fs:=rfl
def qfR (f:D→List Sl→Out):List D→List Sl→Out
 |[],ρ=>.nx ρ
 |x::xs,ρ=>match f x ρ with
  |.nx ρ'=>qfR f xs ρ'
  |.cnt ρ'=>qfR f xs ρ'
  |.brk ρ'=>.nx ρ'
  |o=>o
def qgi (c:List Sl→RE Bool) (f:List Sl→Out):Nat→List Sl→Out
 |0,_=>.bad
 |n+1,ρ=>(c ρ).out fun k=>if k=true then (match f ρ with
  |.nx ρ'=>qgi c f n ρ'
  |.cnt ρ'=>qgi c f n ρ'
  |.brk ρ'=>.nx ρ'
  |o=>o) else .nx ρ
def qtW:Nat:=1000000000
@[simp] def qvj:ER→ER
 |.brw ds b=>.fre ds b
 |e=>e
def qbX (ρ:List Sl) (i:Nat) (f:List D→Bool→Out):Out:=
 match ρ[i]? with
 |some (.own ds b)=>f ds b
 |_=>.bad
def qww (ρ:List Sl) (i:Nat) (f:List (Int × D)→Bool→Out):Out:=
 match ρ[i]? with
 |some (.dct m b)=>f m b
 |_=>.bad
def qw6 (ρ:List Sl) (i k:Nat) (f:List (List D)→List D→Out):Out:=
 match ρ[i]? with
 |some (.row dss)=>match dss[k]? with
  |some ds=>f dss ds
  |none=>.bad
 |_=>.bad
def evF (Γ:Env):Exs→List Sl→RE (List (List D))
 |.nil,_=>.ok []
 |.cons e es,ρ=>(ev Γ e ρ).bind fun x=>match x with
  |.fre ds _=>if D.flats ds=true then (evF Γ es ρ).bind fun r=>.ok (ds::r) else .bad
  |_=>.bad
def qwX (ρ:List Sl) (i:Nat) (f:D→Bool→Out):Out:=
 match ρ[i]? with
 |some (.val d b)=>f d b
 |_=>.bad
@[simp] def held (er:ER) (f:D→Bool→Out):Out:=
 match er with
 |.brw _ _=>.bad
 |.val d b=>f d b
 |.fre ds b=>f (.lst ds) b
def onB (o:Option (List Sl)) (k:List Sl→Out):Out:=
 match o with
 |some ρ=>k ρ
 |none=>.bad
@[simp] def heldF (er:ER) (f:D→Out):Out:=
 match er with
 |.brw _ _=>.bad
 |.val d b=>gdO (b||d.flat) (f d)
 |.fre ds b=>gdO (b||D.flats ds) (f (.lst ds))
def qpy:List Sl→Bool
 |[]=>true
 |.slf _ _::_=>false
 |_::ρ=>qpy ρ
def qpZ (ρ:List Sl) (f:Nat→List D→List Sl→Out):Out:=
 match ρ with
 |.slf c fs::r=>if qpy r=true then f c fs r else .bad
 |_=>.bad
@[simp] theorem qlA (ρ:List Sl) (k:List Sl→Out):onB (some ρ) k=k ρ:=rfl
@[simp] theorem quM (k:List Sl→Out):onB none k=.bad:=rfl
@[simp] def qvn:List Nat→List ER→List Sl→Out
 |[],[],ρ=>.nx ρ
 |i::tg,e::es,ρ=>held e fun d b=>qvn tg es (ρ.set i (.val d b))
 |_,_,_=>.bad
def Out.hv (o:Out) (ρ:List Sl) (i:Nat) (d:D) (cs:Ch) (f:List Sl→Out):Out:=
 match o with
 |.nx ρ'=>(match ρ'[i]? with
  |some (.fxd _ k)=>gdO (k == i&&cs.tgs.all fun l=>Nat.blt l ρ'.length) (match chg cs [(i,d)] ([],0) with
   |some _=>f (wipeS (qj1 (ρ.set i .non) 0 ρ') cs.tgs)
   |none=>.bad)
  |_=>.bad)
 |.ret er=>(match ql3 er with
  |some _=>.ret er
  |none=>.bad)
 |.exc c fs=>.exc c fs
 |_=>.bad
def Out.hd (o:Out) (ρ:List Sl) (i:Nat):Out:=
 match o with
 |.nx ρ'=>(match ρ'[i]? with
  |some (.fxd _ k)=>gdO (k == i) (.nx ((qj1 (ρ.set i .non) 0 ρ').set i (ρ[i]?.getD .non)))
  |_=>.bad)
 |.ret er=>(match ql3 er with
  |some _=>.ret er
  |none=>.bad)
 |.exc c fs=>.exc c fs
 |_=>.bad
def trB (Γ:Env):Tr→List Sl→RE (List Sl)
 |.ex e,ρ=>(ev Γ e ρ).bind fun _=>.ok ρ
 |.as j e,ρ=>(ev Γ e ρ).bind fun x=>match x with
  |.brw _ _=>.bad
  |.val d b=>.ok (ρ.set j (.val d b))
  |.fre ds b=>.ok (ρ.set j (.val (.lst ds) b))
 |.iff t a b,ρ=>(evT Γ t ρ).bind fun k=>if k=true then trB Γ a ρ else trB Γ b ρ
def trX (g:Option (Nat→Option Bool)) (i j:Nat) (ρ:List Sl):RE (List Sl)→Out
 |.ok ρ'=>.nx ρ'
 |.bad=>.bad
 |.exc c fs=>match g with
  |some g=>match g c with
   |some true=>if i=j then .bad else (match fs with
    |[]=>.nx ((ρ.set j (.val (.exc c []) true)).set i .non)
    |_=>.bad)
   |some false=>.exc c fs
   |none=>.bad
  |none=>.bad
def qwD (q:Nat):Nat→List ER→Bool
 |_,[]=>true
 |i,e::r=>(decide (i=q)||(e.isV&&e.d.flat))&&qwD q (i+1) r
mutual
@[simp] def run (Γ:Env):Sm→List Sl→Out
 |.nev,_=>.bad
 |.rse k,_=>match Γ.xk[k]? with
  |some c=>.exc c []
  |none=>.bad
 |.tryx k i j b,ρ=>trX Γ.ck[k]? i j ρ (trB Γ b ρ)
 |.asg i e,ρ=>(ev Γ e ρ).out fun x=>held x fun d b=>.nx (ρ.set i (.val d b))
 |.own i e,ρ=>(ev Γ e ρ).out fun x=>match x with
  |.fre ds b=>.nx (ρ.set i (.own ds b))
  |.val .non _=>.nx (ρ.set i (.val .non true))
  |_=>.bad
 |.asgT tg e,ρ=>(ev Γ e ρ).out fun x=>held x fun d b=>onB (qcx tg d b ρ) .nx
 |.put i ix e,ρ=>(ev Γ e ρ).out fun x=>held x fun d b=>qbX ρ i fun ds c=>(ev Γ ix ρ).out fun k=>match k.d with
  |.int k=>match ixN ds.length k with
   |some j=>.nx (ρ.set i (.own (ds.set j d) (b&&c)))
   |none=>.bad
  |_=>.bad
 |.app i e,ρ=>qbX ρ i fun ds c=>(ev Γ e ρ).out fun x=>held x fun d b=>gdO (leB (ds.length+1)) (.nx (ρ.set i (.own (ds++[d]) (b&&c))))
 |.clr i,ρ=>qbX ρ i fun _ _=>.nx (ρ.set i (.own [] true))
 |.expr e,ρ=>(ev Γ e ρ).out fun _=>.nx ρ
 |.ret e,ρ=>(ev Γ e ρ).out fun x=>.ret (qvj x)
 |.retN,_=>.ret (.val .non true)
 |.pas,ρ=>.nx ρ
 |.brk,ρ=>.brk ρ
 |.cnt,ρ=>.cnt ρ
 |.iff c a b,ρ=>(evT Γ c ρ).out fun k=>if k=true then qak Γ a ρ else qak Γ b ρ
 |.for it tg b,ρ=>(evI Γ it ρ).out fun w=>if w.own=true then .bad else qfR (fun x ρ=>onB (qcx tg x w.b ρ) fun ρ'=>qak Γ b ρ') w.xs ρ
 |.apop i j ix,ρ=>if i=j then .bad else qbX ρ i fun ds c=>qbX ρ j fun es c2=>(ev Γ ix ρ).out fun k=>match k.d with
  |.int k=>match ixN es.length k with
   |some m=>match es[m]? with
    |some d=>gdO (leB es.length) (gdO (leB (ds.length+1)) (.nx ((ρ.set j (.own (es.eraseIdx m) c2)).set i (.own (ds++[d]) (c2&&c)))))
    |none=>.bad
   |none=>.bad
  |_=>.bad
 |.ins i ix e,ρ=>qbX ρ i fun ds c=>(ev Γ ix ρ).out fun k=>match k.d with
  |.int k=>(ev Γ e ρ).out fun x=>held x fun d b=>gdO (decide (0≤k∧k≤ds.length)&&leB (ds.length+1)) (.nx (ρ.set i (.own (ds.take k.toNat++[d]++ds.drop k.toNat) (b&&c))))
  |_=>.bad
 |.popx i ix,ρ=>qbX ρ i fun ds c=>(ev Γ ix ρ).out fun k=>match k.d with
  |.int k=>match ixN ds.length k with
   |some m=>match ds[m]? with
    |some _=>gdO (leB ds.length) (.nx (ρ.set i (.own (ds.eraseIdx m) c)))
    |none=>.bad
   |none=>.bad
  |_=>.bad
 |.fset f e,ρ=>(ev Γ e ρ).out fun x=>heldF x fun d=>qpZ ρ fun c fs r=>match Γ.fi c f with
  |some k=>if k=fs.length then gdO (Nat.ble k 900) (.nx (.slf c (fs++[d])::r)) else .bad
  |none=>.bad
 |.row i es,ρ=>(evF Γ es ρ).out fun dss=>gdO (leB dss.length) (.nx (ρ.set i (.row dss)))
 |.whl c b,ρ=>qgi (fun ρ=>evT Γ c ρ) (fun ρ=>qak Γ b ρ) qtW ρ
@[simp] def qak (Γ:Env):Sms→List Sl→Out
 |.nil,ρ=>.nx ρ
 |.cons s ss,ρ=>(run Γ s ρ).seq fun ρ'=>qak Γ ss ρ'
 |.frz i ss,ρ=>qbX ρ i fun ds b=>qak Γ ss (ρ.set i (.val (.lst ds) b))
 |.hav i f es rd cs ss,ρ=>match Γ.fn[f]? with
  |some g=>(evs Γ es ρ).out fun r=>(g.2 (r.map ER.d)).out fun er=>match ql3 er with
   |some d=>gdO (Nat.blt i ρ.length) ((qak Γ rd ((qkw 0 ρ).set i (.fxd d i))).hv ρ i d cs fun ρ2=>qak Γ ss ρ2)
   |none=>.bad
  |none=>.bad
end
@[simp] def Out.fin:Out→RE ER
 |.ret er=>.ok er
 |.nx _=>ok .non
 |.exc c fs=>.exc c fs
 |_=>.bad
def qc7 (Γ:Env) (n m:Nat) (b:Sms) (ds:List D):RE ER:=
 if ds.length=n then (qak Γ b (ds.map (fun d=>Sl.val d d.flat)++List.replicate m .non)).fin else .bad
def slO (q:Nat) (ds:List D):List Sl:=match ds[q]? with
 |some (.lst dq)=>(ds.map fun d=>Sl.val d d.flat).set q (.own dq true)
 |_=>[]
def qxH (Γ:Env) (n m q:Nat) (b:Sms) (ds:List D):RE ER:=
 if ds.length=n then (qak Γ b (slO q ds++List.replicate m .non)).fin else .bad
def qmy (Γ:Env) (c nf n m:Nat) (b:Sms) (ds:List D):RE (List D):=
 if ds.length=n then (match qak Γ b (.slf c []::(ds.map (fun d=>Sl.val d d.flat)++List.replicate m .non)) with
  |.nx (.slf c' fs::_)=>if c'=c then (if fs.length=nf then .ok fs else .bad) else .bad
  |.exc c fs=>.exc c fs
  |_=>.bad) else .bad
def Sms.hd:Sms→Sm
 |.cons s _=>s
 |_=>.nev
def Sms.tl:Sms→Sms
 |.cons _ ss=>ss
 |.frz _ ss=>ss
 |.hav _ _ _ _ _ ss=>ss
 |.nil=>.nil
def Sms.len:Sms→Nat
 |.nil=>0
 |.cons _ ss=>ss.len+1
 |.frz _ ss=>ss.len
 |.hav _ _ _ rd cs ss=>rd.len+(cs.len+(ss.len+1))
def Sm.bd:Sm→Sms
 |.for _ _ b=>b
 |.whl _ b=>b
 |.iff _ a _=>a
 |_=>.nil
def Out.fst:Out→Option (Sl × Nat)
 |.nx (t::r)=>some (t,r.length)
 |_=>none
end Cm
namespace Cm
open PySem PySem.Spec PyProof.Rows L2
variable [HasT]
section
variable (C:Ctx)
def res {α:Type} (σ:L2.St) (P N H:Hp) (r:RE α) (K:α→Hp→Hp→Hp→Prop):Prop:=
 match r with
 |.bad=>False
 |.ok a=>∀P' N' H',Adv P N H P' N' H'→K a P' N' H'
 |.exc c fs=>∀d P' N' H',Adv P N H P' N' H'→ExR C P' N' H' fs d→C.W (.ref (C.G.ca c)) d σ H'
def kE (H:Hp) (Q:VK):ER→Hp→Hp→Hp→Prop:=fun er P' N' H'=>∀v,ERr C P' N' H' H er v→Q v H'
def tE (g:List Sl→RE ER):TE:=fun σ H Q=>∃ρ P N,SR C P N H ρ σ∧res C σ P N H (g ρ) (kE C H Q)
def tT (g:List Sl→RE Bool):TT:=fun σ H Q=>∃ρ P N,SR C P N H ρ σ∧res C σ P N H (g ρ) fun k _ _ H'=>Q k H'
def tA (g:List Sl→RE (List ER)):TA:=fun σ H Q=>∃ρ P N,SR C P N H ρ σ∧res C σ P N H (g ρ) fun es P' N' H'=>∀vs,ERs C P' N' H' H es vs→Q vs H'
def tO (g:List Sl→RE (Option Int)):TO:=fun σ H Q=>∃ρ P N,SR C P N H ρ σ∧res C σ P N H (g ρ) fun k _ _ H'=>Q k H'
end
section
variable {C:Ctx} {σ:L2.St} {P N H P1 N1 H1:Hp} {α β:Type} {K K':α→Hp→Hp→Hp→Prop}
theorem res.adv {r:RE α} (a:Adv P N H P1 N1 H1) (h:res C σ P N H r K):res C σ P1 N1 H1 r K:=by
 cases r with
 |bad=>exact h
 |ok x=>exact fun P' N' H' b=>h P' N' H' (a.trans b)
 |exc c fs=>exact fun d P' N' H' b=>h d P' N' H' (a.trans b)
theorem res.mono {r:RE α} (h:res C σ P N H r K) (f:∀a P' N' H',r=.ok a→Adv P N H P' N' H'→K a P' N' H'→K' a P' N' H'):res C σ P N H r K':=by
 cases r with
 |bad=>exact h
 |ok x=>exact fun P' N' H' b=>f _ _ _ _ rfl b (h P' N' H' b)
 |exc c fs=>exact h
theorem res.bind {r:RE α} {f:α→RE β} {K:β→Hp→Hp→Hp→Prop} (h:res C σ P N H (r.bind f) K):res C σ P N H r fun a P1 N1 H1=>res C σ P1 N1 H1 (f a) K:=by
 cases r with
 |bad=>exact h
 |ok x=>exact fun P' N' H' b=>res.adv b h
 |exc c fs=>exact h
theorem res.now {a:α} (r:Reg C P N H) (h:res C σ P N H (.ok a) K):K a P N H:=h _ _ _ (Adv.refl r.pH r.nH)
theorem res.val {H0:Hp} {Q:VK} {d:D} {b:Bool} {v:V} (r:Reg C P N H) (h:res C σ P N H (.ok (.val d b)) (kE C H0 Q)) (x:RepB C P N b d v):Q v H:=h _ _ _ (Adv.refl r.pH r.nH) v x
theorem res.fre {H0:Hp} {Q:VK} {ds:List D} {b:Bool} {xs:List V} {p:Addr} (r:Reg C P N H) (h:res C σ P N H (.ok (.fre ds b)) (kE C H0 Q)) (e:Cm.Same H0 H) (x:RepsB C P N b ds xs) (hp:H p=none):Q (.ref p) (upd H p (.lst xs)):=
 h P N (upd H p (.lst xs)) ((Adv.refl r.pH r.nH).heap (qfa hp)) _ ⟨p,xs,rfl,upd_same,e.free hp,r.pH.free hp,r.nH.free hp,x⟩
theorem res.tup {H0:Hp} {Q:VK} {ds:List D} {b:Bool} {xs:List V} {p:Addr} (r:Reg C P N H) (h:res C σ P N H (.ok (.val (.tup ds) b)) (kE C H0 Q)) (x:RepsB C P N b ds xs) (hp:H p=none):Q (.ref p) (upd H p (.tup xs)):=
 h (upd P p (.tup xs)) N (upd H p (.tup xs)) ((Adv.refl r.pH r.nH).newP hp) _ ⟨p,xs,rfl,.inl (.inl upd_same),RepsB.adv (qbN (r.pH.free hp)) (Cm.Same.refl _) x⟩
theorem ERw.int {i:Int} {b:Bool} {v:V} (h:ERw C P N H (.int i) b v):v=.int i:=h
theorem ERw.bl {i:Bool} {b:Bool} {v:V} (h:ERw C P N H (.bl i) b v):v=.bl i:=h
theorem ERw.str {s:List Nat} {b:Bool} {v:V} (h:ERw C P N H (.str s) b v):v=.str ⟨s.toArray⟩:=h
theorem ERw.lst {ds:List D} {b:Bool} {v:V} (h:ERw C P N H (.lst ds) b v):∃p xs,v=.ref p∧SqL C.G.K H p xs∧RepsB C P N b ds xs:=h
theorem ERw.tup {ds:List D} {b:Bool} {v:V} (r:Reg C P N H) (h:ERw C P N H (.tup ds) b v):∃p xs,v=.ref p∧SqT C.G.K H p xs∧RepsB C P N b ds xs:=by
 obtain⟨a,xs,e,h1,h2⟩:=h
 exact⟨a,xs,e,Same.seqT r.pH h1,h2⟩
theorem ERw.dp {d:D} {b:Bool} {v:V} {n:Nat} (r:Reg C P N H) (h:ERw C P N H d b v) (f:d.fit n=true):Dp C.G.K H v d.py:=by
 have hl:∀a xs,LNb C.G.K P N C.R b a xs→SqL C.G.K H a xs:=LNb.seq r.pH r.nH r.rH
 cases d with
 |lst ds =>
  obtain⟨p,xs,rfl,h1,h2⟩:=h
  simp only[D.fit,Bool.and_eq_true] at f
  exact .lst h1 (Reps.dp r.pH hl ds xs _ f.2 h2)
 |_=>exact Rep.dp r.pH hl _ v n f h
def qwd (C:Ctx) (op:D→D→Bool→RE ER) (r:R2):Prop:=∀{P N H H0:Hp} {σ:L2.St} {x y:D} {b c:Bool} {v u:V} {Q:VK},Reg C P N H→ERw C P N H x b v→ERw C P N H y c u→Cm.Same H0 H →
 res C σ P N H (op x y (b&&c)) (kE C H0 Q)→r v u H Q
theorem qt4 {X:Cx} {op:Operator} {f:D→D→Bool→RE ER} {r:R2} {a b:Expr} {ga gb:List Sl→RE ER} {pos:Pos} (ho:OpR X (binaryOp op) r) (hf:qwd C f r) (ha:PE X a (tE C ga)) (hb:PE X b (tE C gb)) :
  PE X (.BinOp a op b pos) (tE C fun ρ=>(ga ρ).bind fun x=>(gb ρ).bind fun y=>f x.d y.d (x.b&&y.b)):=by
 refine⟨fun pins s σ H Q I h=>(pe_op ho ha hb).run pins s σ H Q I ?_⟩
 obtain⟨ρ,P,N,S,h⟩:=h
 refine⟨ρ,P,N,S,h.bind.mono fun x P1 N1 H1 _ a1 h1 v rv=>⟨ρ,P1,N1,S.adv a1,h1.bind.mono fun y P2 N2 H2 _ a2 h2 u ru=>?_⟩⟩
 have r2:=(S.adv (a1.trans a2)).reg
 exact hf r2 ((rv.adv a2).w r2) (ru.w r2) (a1.trans a2).hh h2
def qxf (C:Ctx) (op:D→D→RE Bool) (r:R2):Prop:=∀{P N H:Hp} {x y:D} {b c:Bool} {v u:V} {Q:VK} {k:Bool},Reg C P N H→ERw C P N H x b v→ERw C P N H y c u→op x y=.ok k→Q (.bl k) H→r v u H Q
def qhE {α:Type}:RE α→Prop
 |.exc _ _=>False
 |_=>True
theorem qmU (x y:D):qhE (qkv x y):=by
 unfold qkv
 split<;>first | trivial | (split<;>trivial)
theorem qn7 (x y:D):qhE (qoO x y):=by
 unfold qoO
 split
 ·split<;>trivial
 ·split<;>trivial
 ·split<;>trivial
 ·trivial
theorem qng (o:Cop) (x y:D):qhE (evC o x y):=by
 cases o<;>simp only[evC]
 ·exact qmU x y
 ·have:=qmU x y
  cases h:qkv x y<;>simp_all[qhE]
 ·split<;>trivial
 ·split<;>trivial
 ·split<;>trivial
 ·split<;>trivial
 ·exact qn7 x y
 ·have:=qn7 x y
  cases h:qoO x y<;>simp_all[qhE]
end
end Cm
namespace Cm
open PySem PySem.Spec PyProof.Rows L2
variable [HasT]
section
variable {X:Cx}
def quf (K:PySem.W.Frag):R2:=fun x y H Q=>∃l b xs zs,x=.ref l∧y=.ref b∧SqL K H l xs∧SqL K H b zs∧xs.length+zs.length≤sizeLine∧∀p,H p=none→Q (.ref p) (upd H p (.lst (xs++zs)))
theorem qrq:OpR X (binaryOp .Add) (quf X.K):=by
 intro pins s σ H x y v u Q I rx ry hh
 obtain⟨l,b,xs,zs,rfl,rfl,hH,hB,hz,qq⟩:=hh
 cases rx
 cases ry
 obtain⟨its,r,p,_⟩:=I.list hH
 obtain⟨its2,r2,p2,_⟩:=I.list hB
 obtain⟨⟨cls,dd,data,sl⟩,n,ho,hc,hdd,hd⟩:=p
 obtain⟨⟨cls2,dd2,data2,sl2⟩,n2,ho2,hc2,hdd2,hd2⟩:=p2
 simp only at hc hd hdd hc2 hd2 hdd2
 subst hc hd hdd hc2 hd2 hdd2
 have l1:=r.length
 have l2:=r2.length
 refine concat_meets ⟨_,ho,rfl⟩ ⟨_,ho2,rfl⟩ noFill_list_add seq_list_add PySem.F.slot_list_add PySem.F.entry_list_add (PySem.F.args_list_add_2 _ _) (list_addW l b its.toArray its2.toArray n n2 _ _ sl sl2 (by simp only[List.size_toArray];omega)) ⟨ho,ho2,?_⟩
 have ea:its.toArray++its2.toArray=(its++its2).toArray:=by simp
 rw[ea]
 exact⟨.ref _,_,I.lnew (t':=s.toks) (r.append r2) (by rw[List.length_append];omega),rfl,qq _ I.fresh⟩
def qtp (K:PySem.W.Frag):R2:=fun x y H Q=>∃l k xs,x=.ref l∧y=.int k∧SqL K H l xs ∧ -(2 ^ 63)≤k∧k<2 ^ 63∧xs.length*k.toNat≤sizeLine ∧
 ∀p,H p=none→Q (.ref p) (upd H p (.lst (List.replicate k.toNat xs).flatten))
theorem qr1:OpR X (binaryOp .Mult) (qtp X.K):=by
 intro pins s σ H x y v u Q I rx ry hh
 obtain⟨l,k,xs,rfl,rfl,hH,h1,h2,hz,qq⟩:=hh
 cases rx
 obtain⟨t,rfl⟩:=ry
 obtain⟨its,r,p,_⟩:=I.list hH
 obtain⟨⟨cls,dd,data,sl⟩,n,ho,hc,hdd,hd⟩:=p
 simp only at hc hd hdd
 subst hc hd hdd
 have l1:=r.length
 have hsz:its.length*k.toNat≤16777216:=by rw[←l1];exact hz
 refine wpAny_binaryOp_repeat_ref (T:="list") (U:="int") (by decide) ⟨_,ho,rfl⟩ (fun s'=>typeIs_int s' k t) noFill_list_mul F.fills_int_mul F.slot_int_rmul repeat_list F.slot_int_index.lookup
  (call_meets F.slot_int_rmul (typeIs_int s k t) F.entry_int_rmul (F.args_int_rmul_2 _ _) (lm_int_rmul_list_any k t l its.toArray n _ sl)
   ⟨ho,rfl,⟨_,ho,rfl⟩,call_meets F.slot_list_mul ⟨_,ho,rfl⟩ F.entry_list_mul (F.args_list_mul_2 _ _)
    (lm_list_mul_any l its.toArray n _ sl k t (by simp[Builtin.List.listFitsIndex];omega) (by simp only[List.size_toArray];omega) (by simp[Builtin.List.listTooLong,sizeLine];omega))
    ⟨ho,?_⟩⟩)
 rw[listMul_foldl_if]
 exact⟨.ref _,_,I.lnew (t':=s.toks) (r.rep k.toNat) (by rw[PyProof.Rows.lm_len_rep_flat,Nat.mul_comm];exact hz),rfl,qq _ I.fresh⟩
theorem qmB {n:Nat} (h:n≤16777216):Builtin.Str.tooLong n=false:=by
 unfold Builtin.Str.tooLong
 exact decide_eq_false (show ¬n>16777216 by omega)
def rRepT:R2:=fun x y H Q=>∃(i:Str) (k:Int),x=.str i∧y=.int k∧1≤k∧k<2 ^ 63∧1≤i.length∧i.length*k.toNat≤sizeLine∧Q (.str ⟨(List.replicate k.toNat i.cps).foldl (· ++ ·) #[]⟩) H
theorem qra:OpR X (binaryOp .Mult) rRepT:=by
 intro pins s σ H x y v u Q I rx ry h
 obtain⟨i,k,rfl,rfl,k1,k2,l1,hz,q⟩:=h
 obtain⟨t,rfl⟩:=rx
 obtain⟨t',rfl⟩:=ry
 have hz:i.length*k.toNat≤16777216:=hz
 have tl:Builtin.Str.tooLong (i.length*k.toNat)=false:=qmB hz
 refine P.mul_str (by rw[decide_eq_false (by omega),decide_eq_false (by omega)];rfl) (fun _ _ hb=>?_) (fun _ _=>tl) ?_
 ·have e:((i.length*k.toNat:Nat):Int)=(i.length:Int)*k:=by rw[Int.natCast_mul,Int.toNat_of_nonneg (by omega)]
  have h3:(2 ^ 63 - 1) / k<(i.length:Int):=hb
  have h4:(2:Int) ^ 63 - 1<(i.length:Int)*k:=(Int.ediv_lt_iff_lt_mul (by omega)).mp h3
  rw[←e] at h4
  omega
 ·rw[if_neg (by omega)]
  by_cases e:k=1
  ·subst e
   rw[if_pos (by simp)]
   have eq:(⟨(List.replicate (1:Int).toNat i.cps).foldl (· ++ ·) #[]⟩:Str)=i:=by
    show(⟨#[]++i.cps⟩:Str)=i
    rw[Array.empty_append]
   rw[eq] at q
   exact⟨.str i,H,I,⟨_,rfl⟩,q⟩
  ·rw[if_neg (by simp;omega)]
   exact⟨by
    have:=fits_reps (x:=i) (k:=k.toNat) tl
    exact this,⟨.str _,H,I.tok _,⟨_,rfl⟩,q⟩⟩
end
def qws:Bop→Operator
 |.add=>.Add | .sub=>.Sub | .mul=>.Mult | .fdv=>.FloorDiv | .mdl=>.Mod | .pow=>.Pow | .shl=>.LShift | .shr=>.RShift | .and=>.BitAnd | .or=>.BitOr
def qv0 (K:PySem.W.Frag):Bop→R2
 |.add=>fun x y H Q=>(rI0 (fun i j=>.int (i+j)) x y H Q∨(fun x y H Q=>∃i j,x=.str i∧y=.str j∧i.length+j.length≤sizeLine∧Q (.str (i++j)) H:R2) x y H Q)∨(quf K x y H Q∨rCatT K x y H Q)
 |.sub=>rI0 fun i j=>.int (i - j)
 |.mul=>fun x y H Q=>(rI CMul (fun i j=>.int (i*j)) x y H Q∨rI CMulX (fun i j=>.int (i*j)) x y H Q)∨(qtp K x y H Q∨rRepT x y H Q)
 |.fdv=>rI CDivN fun i j=>.int (i.fdiv j)
 |.mdl=>rI (fun _ j=>j≠0) fun i j=>.int (i.fmod j)
 |.pow=>rI CPow fun i j=>.int (i ^ j.toNat)
 |.shl=>rI CPow fun i j=>.int (i*2 ^ j.toNat)
 |.shr=>rI (fun _ j=>0≤j) fun i j=>.int (i / 2 ^ j.toNat)
 |.and=>rI0 fun i j=>.int (Builtin.bitAnd i j)
 |.or=>rI0 fun i j=>.int (Builtin.bitOr i j)
theorem qtQ {X:Cx}:∀o,OpR X (binaryOp (qws o)) (qv0 X.K o)
 |.add=>(op_add.or op_add_str).or (qrq.or op_catT)
 |.sub=>op_sub
 |.mul=>(op_mul.or op_mulX).or (qr1.or qra)
 |.fdv=>op_fdivN
 |.mdl=>op_modN
 |.pow=>op_pow
 |.shl=>op_shl
 |.shr=>op_shr
 |.and=>op_and
 |.or=>op_or
theorem qrB (s t:List Nat):(⟨s.toArray⟩:Str)++(⟨t.toArray⟩:Str)=⟨(s++t).toArray⟩:=by
 show(⟨s.toArray++t.toArray⟩:Str)=⟨(s++t).toArray⟩
 simp
theorem qbE (s:List Nat):(⟨s.toArray⟩:Str).length=s.length:=by
 show s.toArray.size=s.length
 simp
theorem RepsB.rep {C:Ctx} {P N:Hp} {b:Bool} {ds:List D} {vs:List V} (h:RepsB C P N b ds vs):∀k,RepsB C P N b (List.replicate k ds).flatten (List.replicate k vs).flatten
 |0=>rfl
 |k+1=>by simpa[List.replicate_succ] using Reps.append h (RepsB.rep h k)
theorem qsl (s:List Nat) (n:Nat):(⟨(List.replicate n (⟨s.toArray⟩:Str).cps).foldl (· ++ ·) #[]⟩:Str)=⟨((List.replicate n s).flatten).toArray⟩:=by
 have go:∀(n:Nat) (a:Array Nat),(List.replicate n s.toArray).foldl (· ++ ·) a=a++((List.replicate n s).flatten).toArray:=fun n=>by
  induction n with
  |zero=>intro a;simp
  |succ n ih=>intro a;rw[List.replicate_succ,List.foldl_cons,ih,List.replicate_succ,List.flatten_cons];simp
 show(⟨(List.replicate n s.toArray).foldl (· ++ ·) #[]⟩:Str)=_
 rw[go]
 simp
theorem qt7 {C:Ctx} (o:Bop):qwd C (evB o) (qv0 C.G.K o):=by
 intro P N H H0 σ x y b c v u Q r hx hy e h
 unfold evB at h
 simp only[qef,qbu,qat,qbr,qbC,qbt,qbR,qbA,qbs,qbz] at h
 cases o<;>simp only at h<;>split at h<;>try exact h.elim
 ·cases hx.int;cases hy.int
  exact .inl (.inl ⟨_,_,rfl,rfl,h.val r rfl⟩)
 ·cases hx.str;cases hy.str
  split at h
  ·rename_i hl
   refine .inl (.inr ⟨_,_,rfl,rfl,?_,?_⟩)
   ·rw[qbE,qbE];exact hl
   ·rw[qrB];exact h.val r rfl
  ·exact h.elim
 ·obtain⟨p,xs,rfl,h1,h2⟩:=hx.lst
  obtain⟨q,zs,rfl,h3,h4⟩:=hy.lst
  split at h
  ·rename_i hl
   refine .inr (.inl ⟨_,_,_,_,rfl,rfl,h1,h3,?_,fun p hp=>h.fre r e (Reps.append h2.and1 h4.and2) hp⟩)
   rw[h2.length,h4.length];exact hl
  ·exact h.elim
 ·obtain⟨p,xs,rfl,h1,h2⟩:=hx.tup r
  obtain⟨q,zs,rfl,h3,h4⟩:=hy.tup r
  split at h
  ·rename_i hl
   simp only[Bool.and_eq_true,qat,Nat.ble_eq] at hl
   have l2:=h2.length
   have l4:=h4.length
   refine .inr (.inr ⟨_,_,_,_,rfl,rfl,h1,h3,?_,?_,?_,fun _ p hp=>h.tup r (Reps.append h2.and1 h4.and2) hp⟩)
   ·intro z;rw[z] at l2;simp at l2;omega
   ·rw[l2,l4];exact hl.1
   ·intro z;rw[z] at l4;simp at l4;omega
  ·exact h.elim
 ·cases hx.int;cases hy.int
  exact⟨_,_,rfl,rfl,h.val r rfl⟩
 ·cases hx.int;cases hy.int
  split at h
  ·rename_i hl
   have hl:=qbB _ _ ▸ hl
   rcases hl with hl | hl
   ·exact .inl (.inl ⟨_,_,rfl,rfl,hl,h.val r rfl⟩)
   ·exact .inl (.inr ⟨_,_,rfl,rfl,hl,h.val r rfl⟩)
  ·exact h.elim
 ·obtain⟨p,xs,rfl,h1,h2⟩:=hx.lst
  cases hy.int
  split at h
  ·rename_i hl
   have hl:=qnF hl
   refine .inr (.inl ⟨_,_,_,rfl,rfl,h1,hl.1,hl.2.1,?_,fun p hp=>h.fre r e (RepsB.rep h2.and1 _) hp⟩)
   rw[h2.length];exact hl.2.2
  ·exact h.elim
 ·cases hx.str;cases hy.int
  split at h
  ·rename_i hl
   rw[Bool.and_eq_true,Bool.and_eq_true,Nat.ble_eq,Nat.ble_eq] at hl
   obtain⟨h1,h2,h3⟩:=hl
   have h1:=qnF h1
   refine .inr (.inr ⟨_,_,rfl,rfl,by omega,h1.2.1,by rw[qbE];exact h3,by rw[qbE];exact h1.2.2,?_⟩)
   rw[qsl]
   exact h.val r rfl
  ·exact h.elim
 ·cases hx.int;cases hy.int
  split at h
  ·rename_i hl
   exact⟨_,_,rfl,rfl,hl,h.val r rfl⟩
  ·exact h.elim
 ·cases hx.int;cases hy.int
  split at h
  ·rename_i hl
   exact⟨_,_,rfl,rfl,hl,h.val r rfl⟩
  ·exact h.elim
 ·cases hx.int;cases hy.int
  split at h
  ·rename_i hl
   exact⟨_,_,rfl,rfl,hl,h.val r rfl⟩
  ·exact h.elim
 ·cases hx.int;cases hy.int
  split at h
  ·rename_i hl
   exact⟨_,_,rfl,rfl,hl,h.val r rfl⟩
  ·exact h.elim
 ·cases hx.int;cases hy.int
  split at h
  ·rename_i hl
   exact⟨_,_,rfl,rfl,hl,h.val r rfl⟩
  ·exact h.elim
 ·cases hx.int;cases hy.int
  exact⟨_,_,rfl,rfl,h.val r rfl⟩
 ·cases hx.int;cases hy.int
  exact⟨_,_,rfl,rfl,h.val r rfl⟩
def qiP:Cop→CmpOp
 |.eq=>.Eq | .ne=>.NotEq | .lt=>.Lt | .le=>.LtE | .gt=>.Gt | .ge=>.GtE | .isin=>.In | .nin=>.NotIn
def qtM (K:PySem.W.Frag):Cop→R2
 |.eq=>fun x y H Q=>rEq x y H Q∨rEqD K x y H Q
 |.ne=>fun x y H Q=>rNe x y H Q∨rNeD K x y H Q
 |.lt=>rI0 fun i j=>.bl (decide (i<j))
 |.le=>rI0 fun i j=>.bl (decide (i≤j))
 |.gt=>rI0 fun i j=>.bl (decide (j<i))
 |.ge=>rI0 fun i j=>.bl (decide (j≤i))
 |.isin=>fun x y H Q=>(rInD K x y H Q∨rIn K false x y H Q)∨(fun x y H Q=>∃(c:Nat) (z:Str),x=.str ⟨#[c]⟩∧y=.str z∧Q (.bl (decide (c∈z.cps.toList))) H:R2) x y H Q
 |.nin=>fun x y H Q=>(rNotInD K x y H Q∨rIn K true x y H Q)∨(fun x y H Q=>∃(c:Nat) (z:Str),x=.str ⟨#[c]⟩∧y=.str z∧Q (.bl (!decide (c∈z.cps.toList))) H:R2) x y H Q
theorem qib {X:Cx} (hu:X.A.units+65<cLine):∀o,OpR X (compareOp (qiP o)) (qtM X.K o)
 |.eq=>op_eq.or (op_eqD (by omega))
 |.ne=>op_ne.or (op_neD (by omega))
 |.lt=>op_lt
 |.le=>op_le
 |.gt=>op_gt
 |.ge=>op_ge
 |.isin=>((op_inD hu).or op_in_seq).or op_in_sign
 |.nin=>((op_notInD hu).or op_notIn_seq).or op_notIn_sign
theorem qhN {C:Ctx} {P N H:Hp} {x y:D} {b c:Bool} {v u:V} {k:Bool} (r:Reg C P N H) (hx:ERw C P N H x b v) (hy:ERw C P N H y c u) (h:qkv x y=.ok k) :
  (scal v u=true∧decide (v=u)=k)∨∃d e,Dp C.G.K H v d∧Dp C.G.K H u e∧SeqAt.shaped d=true∧SeqAt.shaped e=true∧PyData.eqv d e=k:=by
 unfold qkv at h
 split at h
 ·cases hx.int;cases hy.int;cases h
  exact .inl ⟨rfl,by simp⟩
 ·cases hx.str;cases hy.str;cases h
  refine .inl ⟨rfl,?_⟩
  simp
 ·cases hx.bl;cases hy.bl;cases h
  exact .inl ⟨rfl,by rw[dec_bl]⟩
 ·split at h
  ·rename_i f
   simp only[Bool.and_eq_true] at f
   cases h
   exact .inr ⟨_,_,hx.dp r f.1,hy.dp r f.2,D.shaped f.1,D.shaped f.2,D.eqv_py _ _ _ _ f.1 f.2⟩
  ·cases h
theorem qqC {x:D} {n m:Nat} (hx:x.fit n=true):∀{ys:List D},D.fits ys m=true→((D.pys ys).any fun z=>PyData.eqv z x.py)=ys.any fun z=>z.eqb x
 |[],_=>rfl
 |y::ys,h=>by
  simp only[D.fits,Bool.and_eq_true] at h
  simp only[D.pys,List.any_cons]
  rw[qqC hx h.2,D.eqv_py y x m n h.1 hx]
theorem qkp {C:Ctx} {P N H:Hp} {x:D} {b:Bool} {v:V} (hx:Rep C.G P (LNb C.G.K P N C.R b) x v) (f:x.fit 0=true):flatV v=true:=by
 cases x<;>simp[D.fit] at f<;>cases hx<;>rfl
theorem qhY {C:Ctx} {P N H:Hp} {b:Bool}:∀{xs:List D} {vs:List V},RepsB C P N b xs vs→D.fits xs 0=true→vs.all flatV=true
 |[],_,h,_=>by cases h;rfl
 |x::xs,_,⟨v,r,e,h1,h2⟩,f=>by
  subst e
  simp only[D.fits,Bool.and_eq_true] at f
  simp only[List.all_cons,Bool.and_eq_true]
  exact⟨qkp (H:=H) h1 f.1,qhY (H:=H) h2 f.2⟩
theorem qrz {C:Ctx} {P N:Hp} {x y:D} {b c:Bool} {v u:V} (hx:RepB C P N b x v) (hy:RepB C P N c y u) (fx:x.fit 0=true) (fy:y.fit 0=true):eqV v u=x.eqb y:=by
 cases x<;>simp[D.fit] at fx<;>cases y<;>simp[D.fit] at fy<;>cases hx<;>cases hy<;>simp[eqV,D.eqb]
 ·rw[Bool.eq_iff_iff,beq_iff_eq,decide_eq_true_iff]
 ·rw[Bool.eq_iff_iff,beq_iff_eq,decide_eq_true_iff]
 ·rw[Bool.eq_iff_iff,beq_iff_eq,decide_eq_true_iff]
 ·rw[Bool.eq_iff_iff,beq_iff_eq,decide_eq_true_iff]
  exact⟨fun q=>by injection q with q;exact qhk.mp q,fun q=>by rw[q]⟩
theorem qnp {C:Ctx} {P N:Hp} {x:D} {b c:Bool} {v:V} (hx:RepB C P N b x v) (fx:x.fit 0=true):∀{ys:List D} {us:List V},RepsB C P N c ys us→D.fits ys 0=true→inV v us=ys.any fun z=>z.eqb x
 |[],_,h,_=>by cases h;rfl
 |y::ys,_,⟨u,r,e,h1,h2⟩,f=>by
  subst e
  simp only[D.fits,Bool.and_eq_true] at f
  have:=qnp hx fx h2 f.2
  unfold inV at this ⊢
  simp only[List.any_cons]
  rw[this,qrz h1 hx f.1 fx]
theorem qh8 {C:Ctx} {P N H:Hp} {x y:D} {b c:Bool} {v u:V} {k:Bool} (r:Reg C P N H) (hx:ERw C P N H x b v) (hy:ERw C P N H y c u) (h:qoO x y=.ok k) :
  (∃d ds,Dp C.G.K H v d∧Dp C.G.K H u (.list ds)∧SeqAt.shaped d=true∧SeqAt.shaped (.list ds)=true∧(ds.any fun z=>PyData.eqv z d)=k) ∨
  (∃p xs,u=.ref p∧(SqL C.G.K H p xs∨SqT C.G.K H p xs)∧flatV v=true∧xs.all flatV=true∧inV v xs=k) ∨
  ∃(c:Nat) (z:Str),v=.str ⟨#[c]⟩∧u=.str z∧decide (c∈z.cps.toList)=k:=by
 unfold qoO at h
 split at h
 ·split at h
  ·rename_i ys f
   simp only[Bool.and_eq_true] at f
   cases h
   have f2:=f.2
   simp only[D.fit,Bool.and_eq_true] at f2
   refine .inl ⟨x.py,D.pys ys,hx.dp r f.1,hy.dp r f.2,D.shaped f.1,D.shaped f.2,qqC f.1 f2.2⟩
  ·cases h
 ·split at h
  ·rename_i ys f
   simp only[Bool.and_eq_true] at f
   cases h
   obtain⟨p,xs,rfl,h1,h2⟩:=hy.tup r
   have hx':RepB C P N b x v:=by
    cases x with
    |lst ds=>simp[D.fit] at f
    |_=>exact hx
   exact .inr (.inl ⟨p,xs,rfl,.inr h1,qkp (H:=H) hx' f.1,qhY (H:=H) h2 f.2,qnp hx' f.1 h2 f.2⟩)
  ·cases h
 ·split at h
  ·cases hx.str;cases hy.str;cases h
   exact .inr (.inr ⟨_,_,rfl,rfl,rfl⟩)
  ·cases h
 ·cases h
theorem qov {C:Ctx} (o:Cop):qxf C (evC o) (qtM C.G.K o):=by
 intro P N H x y b c v u Q k r hx hy h q
 cases o<;>simp only[evC] at h
 ·rcases qhN r hx hy h with⟨h1,rfl⟩ | ⟨d,e,h1,h2,h3,h4,rfl⟩
  ·exact .inl ⟨h1,q⟩
  ·exact .inr ⟨d,e,h1,h2,h3,h4,q⟩
 ·cases e:qkv x y with
  |bad=>rw[e] at h;cases h
  |exc c fs=>rw[e] at h;cases h
  |ok k' =>
   rw[e] at h;cases h
   rcases qhN r hx hy e with⟨h1,rfl⟩ | ⟨d,d2,h1,h2,h3,h4,rfl⟩
   ·exact .inl ⟨h1,q⟩
   ·exact .inr ⟨d,d2,h1,h2,h3,h4,q⟩
 ·split at h
  ·cases hx.int;cases hy.int;cases h
   exact⟨_,_,rfl,rfl,q⟩
  ·cases h
 ·split at h
  ·cases hx.int;cases hy.int;cases h
   exact⟨_,_,rfl,rfl,q⟩
  ·cases h
 ·split at h
  ·cases hx.int;cases hy.int;cases h
   exact⟨_,_,rfl,rfl,q⟩
  ·cases h
 ·split at h
  ·cases hx.int;cases hy.int;cases h
   exact⟨_,_,rfl,rfl,q⟩
  ·cases h
 ·rcases qh8 r hx hy h with⟨d,e,h1,h2,h3,h4,rfl⟩ | ⟨p,xs,h1,h2,h3,h4,rfl⟩ | ⟨c,z,h1,h2,rfl⟩
  ·exact .inl (.inl ⟨d,e,h1,h2,h3,h4,q⟩)
  ·exact .inl (.inr ⟨p,xs,h1,h2,h3,h4,q⟩)
  ·exact .inr ⟨c,z,h1,h2,q⟩
 ·cases e:qoO x y with
  |bad=>rw[e] at h;cases h
  |exc c fs=>rw[e] at h;cases h
  |ok k' =>
   rw[e] at h;cases h
   rcases qh8 r hx hy e with⟨d,d2,h1,h2,h3,h4,rfl⟩ | ⟨p,xs,h1,h2,h3,h4,rfl⟩ | ⟨c,z,h1,h2,rfl⟩
   ·exact .inl (.inl ⟨d,d2,h1,h2,h3,h4,q⟩)
   ·exact .inl (.inr ⟨p,xs,h1,h2,h3,h4,q⟩)
   ·exact .inr ⟨c,z,h1,h2,q⟩
end Cm
namespace Cm
open PySem PySem.Spec PyProof.Rows L2
variable [HasT]
section
variable {C:Ctx} {X:Cx}
theorem qal {X:Cx} {e:Expr} {t u:TE} (h:PE X e t) (f:∀σ H Q,u σ H Q→t σ H Q):PE X e u:=⟨fun pins s σ H Q I q=>h.run pins s σ H Q I (f _ _ _ q)⟩
theorem qg7 {X:Cx} {e:Expr} {t u:TT} (h:PT X e t) (f:∀σ H Q,u σ H Q→t σ H Q):PT X e u:=⟨fun pins s σ H Q I q=>h.run pins s σ H Q I (f _ _ _ q)⟩
theorem qfG {X:Cx} {e:List Expr} {t u:TA} (h:PA X e t) (f:∀σ H Q,u σ H Q→t σ H Q):PA X e u:=⟨fun pos pins s σ H Q I q=>h.run pos pins s σ H Q I (f _ _ _ q)⟩
theorem qit {e:Expr}:PE X e (tE C fun _=>.bad):=⟨fun pins s σ H Q I h=>by obtain⟨ρ,P,N,S,h⟩:=h;exact h.elim⟩
theorem qsD {i:Nat} {x:Str} {pos:Pos} (hN:X.N[i]? = some x) (hv:Vis X.env.scope x) (hd:(x == ("__debug__" : Str))=false) (hcd:(x == ("__classdict__" : Str))=false) :
  PE X (.Name x pos) (tE C fun ρ=>match ρ[i]? with
  |some (.val d b)=>.ok (.val d b)
  |some (.own ds b)=>.ok (.brw ds b)
  |some (.fxd d _)=>.ok (.val d false)
  |_=>.bad):=by
 refine qal (pe_var (i:=i) hN hv hd hcd) fun σ H Q h=>?_
 obtain⟨ρ,P,N,S,h⟩:=h
 cases e:ρ[i]? with
 |none=>simp only[e] at h;exact h.elim
 |some s =>
  obtain⟨o,h1,h2⟩:=S.sl i s e
  simp only[e] at h
  cases s with
  |non=>exact h.elim
  |val d b =>
   obtain⟨v,rfl,h3⟩:=h2
   exact⟨v,h1,h.val S.reg h3⟩
  |own ds b =>
   obtain⟨p,xs,rfl,h3,h4,h5,h6,h7⟩:=h2
   exact⟨.ref p,h1,h.now S.reg _ ⟨p,xs,rfl,h3,h4,h5,h6,h7⟩⟩
  |slf c fs=>exact h.elim
  |fxd d k =>
   obtain⟨v,rfl,_,h3⟩:=h2
   exact⟨v,h1,h.val S.reg h3⟩
  |dct m b=>exact h.elim
  |row _=>exact h.elim
theorem qnz {e:Expr} {v:V} {d:D} (h:PE X e (tC v)) (r:∀P N,RepB C P N true d v):PE X e (tE C fun _=>.ok (.val d true)):=by
 refine qal h fun σ H Q h=>?_
 obtain⟨ρ,P,N,S,h⟩:=h
 exact h.val S.reg (r P N)
theorem qkL {g:List Sl→RE ER} (hg:∀ρ er,g ρ=.ok er→∃k,er=.val (.bl k) true) {σ:L2.St} {H:Hp} {Q:Bool→Hp→Prop} (h:tT C (fun ρ=>(g ρ).bind fun x=>qkx x.d) σ H Q) :
  tE C g σ H fun x H'=>∃k,x=.bl k∧Q k H':=by
 obtain⟨ρ,P,N,S,h⟩:=h
 refine⟨ρ,P,N,S,h.bind.mono fun x P1 N1 H1 e a1 h1 v rv=>?_⟩
 obtain⟨k,rfl⟩:=hg ρ x e
 exact⟨k,rv,h1.now (S.adv a1).reg⟩
abbrev quO (o p:Cop) (ga gb gc:List Sl→RE ER):List Sl→RE ER:=fun ρ=>(ga ρ).bind fun x=>(gb ρ).bind fun y=>(evC o x.d y.d).bind fun k=>if k=true then (gc ρ).bind fun z=>(evC p y.d z.d).bind fun k'=>ok (.bl k') else ok (.bl false)
theorem qm4 {o p:Cop} {ga gb gc:List Sl→RE ER} {σ:L2.St} {H:Hp} {Q:VK} (h:tE C (quO o p ga gb gc) σ H Q):tChain (qtM C.G.K o) (qtM C.G.K p) (tE C ga) (tE C gb) (tE C gc) σ H Q:=by
 obtain⟨ρ,P,N,S,h⟩:=h
 refine⟨ρ,P,N,S,h.bind.mono fun x P1 N1 H1 _ a1 h1 v rv=>⟨ρ,P1,N1,S.adv a1,h1.bind.mono fun y P2 N2 H2 _ a2 h2 u ru=>?_⟩⟩
 have r2:=(S.adv (a1.trans a2)).reg
 have n1:=qng o x.d y.d
 cases e:evC o x.d y.d with
 |bad=>rw[e] at h2;exact h2.elim
 |exc c fs=>rw[e] at n1;exact n1.elim
 |ok k =>
  rw[e] at h2
  refine qov o r2 ((rv.adv a2).w r2) (ru.w r2) e ⟨k,rfl,?_⟩
  cases k with
  |false=>exact h2.val r2 rfl
  |true =>
   refine iteT ⟨ρ,P2,N2,S.adv (a1.trans a2),res.mono (res.bind h2) fun z P3 N3 H3 _ a3 h3 w rw'=>?_⟩
   have r3:=(S.adv ((a1.trans a2).trans a3)).reg
   have n2:=qng p y.d z.d
   cases e3:evC p y.d z.d with
   |bad=>rw[e3] at h3;exact h3.elim
   |exc c fs=>rw[e3] at n2;exact n2.elim
   |ok k' =>
    rw[e3] at h3
    exact qov p r3 ((ru.adv a3).w r3) (rw'.w r3) e3 (h3.val r3 rfl)
theorem qsc {o p:Cop} {a b c:Expr} {ga gb gc:List Sl→RE ER} {pos:Pos} (hu:X.A.units+65<cLine) (hK:X.K=C.G.K) (ha:PE X a (tE C ga)) (hb:PE X b (tE C gb)) (hc:PE X c (tE C gc)) (hm:lastMarks [qiP o,qiP p] [b,c]=false) :
  PE X (.Compare a [qiP o,qiP p] [b,c] pos) (tE C (quO o p ga gb gc)):=
 qal (pe_chain (qib hu o) (qib hu p) ha hb hc hm) fun σ H Q h=>by rw[hK];exact qm4 h
theorem qsR {o p:Cop} {a b c:Expr} {ga gb gc:List Sl→RE ER} {pos:Pos} (hu:X.A.units+65<cLine) (hK:X.K=C.G.K) (ha:PE X a (tE C ga)) (hb:PE X b (tE C gb)) (hc:PE X c (tE C gc)) (hm:lastMarks [qiP o,qiP p] [b,c]=false) :
  PT X (.Compare a [qiP o,qiP p] [b,c] pos) (tT C fun ρ=>(quO o p ga gb gc ρ).bind fun x=>qkx x.d):=
 qg7 (pt_chain (qib hu o) (qib hu p) ha hb hc hm) fun σ H Q h=>by
  rw[hK]
  refine qm4 (qkL (fun ρ er e=>?_) h)
  cases e1:ga ρ<;>simp only[quO,e1,RE.bind_ok,RE.bind_bad,RE.bind_exc] at e<;>try cases e
  cases e2:gb ρ<;>simp only[e2,RE.bind_ok,RE.bind_bad,RE.bind_exc] at e<;>try cases e
  rename_i x y
  cases e3:evC o x.d y.d<;>simp only[e3,RE.bind_ok,RE.bind_bad,RE.bind_exc] at e<;>try cases e
  split at e
  ·cases e4:gc ρ<;>simp only[e4,RE.bind_ok,RE.bind_bad,RE.bind_exc] at e<;>try cases e
   rename_i z
   cases e5:evC p y.d z.d<;>simp only[e5,RE.bind_ok,RE.bind_bad,RE.bind_exc] at e<;>try cases e
   exact⟨_,rfl⟩
  ·cases e
   exact⟨_,rfl⟩
abbrev quT (o:Cop) (ga gb:List Sl→RE ER):List Sl→RE ER:=fun ρ=>(ga ρ).bind fun x=>(gb ρ).bind fun y=>(evC o x.d y.d).bind fun c=>ok (.bl c)
theorem qoz {o:Cop} {ga gb:List Sl→RE ER} {σ:L2.St} {H:Hp} {Q:VK} (h:tE C (quT o ga gb) σ H Q):tOp (qtM C.G.K o) (tE C ga) (tE C gb) σ H Q:=by
 obtain⟨ρ,P,N,S,h⟩:=h
 refine⟨ρ,P,N,S,h.bind.mono fun x P1 N1 H1 _ a1 h1 v rv=>⟨ρ,P1,N1,S.adv a1,h1.bind.mono fun y P2 N2 H2 _ a2 h2 u ru=>?_⟩⟩
 have r2:=(S.adv (a1.trans a2)).reg
 have n1:=qng o x.d y.d
 cases e:evC o x.d y.d with
 |bad=>rw[e] at h2;exact h2.elim
 |exc c fs=>rw[e] at n1;exact n1.elim
 |ok k =>
  rw[e] at h2
  exact qov o r2 ((rv.adv a2).w r2) (ru.w r2) e (h2.val r2 rfl)
theorem qrv {o:Cop} {a b:Expr} {ga gb:List Sl→RE ER} {pos:Pos} (hu:X.A.units+65<cLine) (hK:X.K=C.G.K) (ha:PE X a (tE C ga)) (hb:PE X b (tE C gb)) (hm:behindInMarks (qiP o) b=false) :
  PE X (.Compare a [qiP o] [b] pos) (tE C (quT o ga gb)):=
 qal (pe_cmpR (qib hu o) ha hb hm) fun σ H Q h=>by rw[hK];exact qoz h
theorem qrA {o:Cop} {a b:Expr} {ga gb:List Sl→RE ER} {pos:Pos} (hu:X.A.units+65<cLine) (hK:X.K=C.G.K) (ha:PE X a (tE C ga)) (hb:PE X b (tE C gb)) (hm:behindInMarks (qiP o) b=false) :
  PT X (.Compare a [qiP o] [b] pos) (tT C fun ρ=>(quT o ga gb ρ).bind fun x=>qkx x.d):=
 qg7 (pt_cmpR (qib hu o) ha hb hm) fun σ H Q h=>by
  rw[hK]
  refine qoz (qkL (fun ρ er e=>?_) h)
  cases e1:ga ρ<;>simp only[quT,e1,RE.bind_ok,RE.bind_bad,RE.bind_exc] at e<;>try cases e
  cases e2:gb ρ<;>simp only[e2,RE.bind_ok,RE.bind_bad,RE.bind_exc] at e<;>try cases e
  rename_i x y
  cases e3:evC o x.d y.d<;>simp only[e3,RE.bind_ok,RE.bind_bad,RE.bind_exc] at e<;>try cases e
  exact⟨_,rfl⟩
theorem qh3 {P N H:Hp} {d:D} {b:Bool} {v:V} {k:Bool} (r:Reg C P N H) (h:ERw C P N H d b v) (e:qkx d=.ok k):TruV C.G.K v H k:=by
 cases d<;>simp only[qkx] at e<;>cases e
 ·have e:v=.non:=h
  subst e;rfl
 ·cases h.bl;rfl
 ·cases h.int;rfl
 ·obtain⟨p,xs,rfl,h1,h2⟩:=h.lst
  refine .inl ⟨xs,h1,?_⟩
  have:=h2.length
  rw[Bool.eq_iff_iff]
  simp[←List.length_eq_zero_iff,this]
 ·obtain⟨p,xs,rfl,h1,h2⟩:=h.tup r
  refine .inr (.inl ⟨xs,h1,?_⟩)
  have:=h2.length
  rw[Bool.eq_iff_iff]
  simp[←List.length_eq_zero_iff,this]
theorem qod (d:D):qhE (qkx d):=by cases d<;>trivial
theorem qsq {g:List Sl→RE ER} {σ:L2.St} {H:Hp} {Q:Bool→Hp→Prop} (h:tT C (fun ρ=>(g ρ).bind fun x=>qkx x.d) σ H Q):tE C g σ H fun x H'=>∃k,TruV C.G.K x H' k∧Q k H':=by
 obtain⟨ρ,P,N,S,h⟩:=h
 refine⟨ρ,P,N,S,h.bind.mono fun x P1 N1 H1 e a1 h1 v rv=>?_⟩
 have r1:=(S.adv a1).reg
 have n1:=qod x.d
 cases e:qkx x.d with
 |bad=>rw[e] at h1;exact h1.elim
 |exc c fs=>rw[e] at n1;exact n1.elim
 |ok k =>
  rw[e] at h1
  exact⟨k,qh3 r1 (rv.w r1) e,h1.now r1⟩
theorem qsz {e:Expr} {g:List Sl→RE ER} (hK:X.K=C.G.K) (h:PE X e (tE C g)) (he:∀whole,isTrue e X.env whole=(do let v ←whole;standAt e.pos;holding [v] (truthy v))):PT X e (tT C fun ρ=>(g ρ).bind fun x=>qkx x.d):=
 qg7 (pt_truth h he) fun σ H Q q=>by rw[hK];exact qsq q
theorem ERw.non {P N H:Hp} {d:D} {b:Bool} {v:V} (h:ERw C P N H d b v):decide (v=V.non)=d.isNon:=by
 cases d with
 |non=>have e:v=.non:=h;subst e;rfl
 |bl _=>cases h.bl;rfl
 |int _=>cases h.int;rfl
 |str _=>cases h.str;rfl
 |lst _=>obtain⟨p,xs,rfl,_⟩:=h;rfl
 |tup _=>obtain⟨p,xs,rfl,_⟩:=h;rfl
 |ins _ _=>obtain⟨p,dx,xs,rfl,_⟩:=h;rfl
 |exc _ _=>obtain⟨_,a,rfl,_⟩:=h;rfl
abbrev qtc (k:Bool) (g:List Sl→RE ER):List Sl→RE ER:=fun ρ=>(g ρ).bind fun x=>ok (.bl (if k=true then x.d.isNon else !x.d.isNon))
theorem qnE {k:Bool} {g:List Sl→RE ER} {σ:L2.St} {H:Hp} {Q:VK} (h:tE C (qtc k g) σ H Q):tE C g σ H fun x H1=>Q (.bl (if k=true then decide (x=.non) else !decide (x=.non))) H1:=by
 obtain⟨ρ,P,N,S,h⟩:=h
 refine⟨ρ,P,N,S,h.bind.mono fun x P1 N1 H1 e a1 h1 v rv=>?_⟩
 have r1:=(S.adv a1).reg
 show Q _ H1
 rw[(rv.w r1).non]
 exact h1.val r1 rfl
theorem quH {k:Bool} {g:List Sl→RE ER} (ρ:List Sl) (er:ER) (e:qtc k g ρ=.ok er):∃k,er=.val (.bl k) true:=by
 cases e1:g ρ<;>simp only[qtc,e1,RE.bind_ok,RE.bind_bad,RE.bind_exc] at e<;>cases e
 exact⟨_,rfl⟩
theorem qrS {a:Expr} {g:List Sl→RE ER} {j:Nat} {pos pos':Pos} (h:PE X a (tE C g)):PE X (.Compare a [.Is] [.Constant .none j pos'] pos) (tE C (qtc true g)):=
 qal (pe_cmp (pc_isN h)) fun σ H Q q=>qnE q
theorem qsO {a:Expr} {g:List Sl→RE ER} {j:Nat} {pos pos':Pos} (h:PE X a (tE C g)):PT X (.Compare a [.Is] [.Constant .none j pos'] pos) (tT C fun ρ=>(qtc true g ρ).bind fun x=>qkx x.d):=
 qg7 (pt_cmp (pc_isN h)) fun σ H Q q=>qnE (qkL quH q)
abbrev gBv (c:Bool) (g g':List Sl→RE ER):List Sl→RE ER:=fun ρ=>(g ρ).bind fun x=>match x.d with
  |.bl k=>if k=c then g' ρ else ok (.bl k)
  |_=>.bad
def qoU (c:Bool):BoolOp:=if c=true then .And else .Or
theorem qtv {a:Expr} {c:Bool} {g:List Sl→RE ER} {pos:Pos} (h:PE X a (tE C g)):PE X (.BoolOp (qoU c) [a] pos) (tE C (gBv c g fun _=>ok (.bl c))):=by
 refine qal (pe_one h) fun σ H Q q=>?_
 obtain⟨ρ,P,N,S,h⟩:=q
 refine⟨ρ,P,N,S,h.bind.mono fun x P1 N1 H1 e a1 h1 v rv=>?_⟩
 have r1:=(S.adv a1).reg
 split at h1
 ·rename_i k e
  have w:=rv.w r1
  rw[e] at w
  cases w.bl
  split at h1
  ·rename_i e;subst e;exact h1.val r1 rfl
  ·exact h1.val r1 rfl
 ·exact h1.elim
theorem qvq {a b:Expr} {rest:List Expr} {c:Bool} {g g':List Sl→RE ER} {pos:Pos} (h:PE X a (tE C g)) (h':PE X (.BoolOp (qoU c) (b::rest) pos) (tE C g')):PE X (.BoolOp (qoU c) (a::b::rest) pos) (tE C (gBv c g g')):=by
 have z:∀σ H Q,tE C (gBv c g g') σ H Q→tE C g σ H fun x H1=>∃k,x=.bl k∧if k=c then tE C g' σ H1 Q else Q (.bl k) H1:=fun σ H Q q=>by
  obtain⟨ρ,P,N,S,h⟩:=q
  refine⟨ρ,P,N,S,h.bind.mono fun x P1 N1 H1 e a1 h1 v rv=>?_⟩
  have r1:=(S.adv a1).reg
  split at h1
  ·rename_i k e
   have w:=rv.w r1
   rw[e] at w
   refine⟨k,w.bl,?_⟩
   split at h1
   ·rename_i e
    rw[if_pos e]
    exact⟨ρ,P1,N1,S.adv a1,h1.mono fun y P2 N2 H2 _ a2 h2 v rv=>h2 v (rv.from a1.hh.s)⟩
   ·rename_i e
    rw[if_neg e]
    exact h1.val r1 rfl
  ·exact h1.elim
 cases c with
 |true =>
  refine qal (pe_and h h') fun σ H Q q=>?_
  obtain⟨ρ,P,N,S,q⟩:=z σ H Q q
  refine⟨ρ,P,N,S,q.mono fun x P1 N1 H1 e a1 h1 v rv=>?_⟩
  obtain⟨k,e,h2⟩:=h1 v rv
  refine⟨k,e,?_⟩
  cases k
  ·exact h2
  ·exact h2
 |false =>
  refine qal (pe_or h h') fun σ H Q q=>?_
  obtain⟨ρ,P,N,S,q⟩:=z σ H Q q
  refine⟨ρ,P,N,S,q.mono fun x P1 N1 H1 e a1 h1 v rv=>?_⟩
  obtain⟨k,e,h2⟩:=h1 v rv
  refine⟨k,e,?_⟩
  cases k
  ·exact h2
  ·exact h2
theorem qp6 {a:Expr} {g:List Sl→RE ER} {pos:Pos} (hK:X.K=C.G.K) (h:PE X a (tE C g)):PE X (.UnaryOp .Not a pos) (tE C fun ρ=>(g ρ).bind fun x=>(qkx x.d).bind fun k=>ok (.bl (!k))):=by
 refine qal (pe_notT h) fun σ H Q q=>?_
 rw[hK]
 obtain⟨ρ,P,N,S,h⟩:=q
 refine⟨ρ,P,N,S,h.bind.mono fun x P1 N1 H1 e a1 h1 v rv=>?_⟩
 have r1:=(S.adv a1).reg
 have n1:=qod x.d
 cases e:qkx x.d with
 |bad=>rw[e] at h1;exact h1.elim
 |exc c fs=>rw[e] at n1;exact n1.elim
 |ok k =>
  rw[e] at h1
  exact⟨k,qh3 r1 (rv.w r1) e,h1.val r1 rfl⟩
theorem qrx {a:Expr} {g:List Sl→RE Bool} {pos:Pos} (h:PT X a (tT C g)):PT X (.UnaryOp .Not a pos) (tT C fun ρ=>(g ρ).bind fun k=>.ok (!k)):=by
 refine qg7 (pt_not h) fun σ H Q q=>?_
 obtain⟨ρ,P,N,S,h⟩:=q
 exact⟨ρ,P,N,S,h.bind.mono fun x P1 N1 H1 e a1 h1=>h1.now (S.adv a1).reg⟩
abbrev gBs (c:Bool) (g g':List Sl→RE Bool):List Sl→RE Bool:=fun ρ=>(g ρ).bind fun k=>if k=c then g' ρ else .ok k
theorem qim {e:Expr} {t u:TT} (h:PW X e t) (f:∀σ H Q,u σ H Q→t σ H Q):PW X e u:=⟨fun w pins s σ H Q I q=>h.run w pins s σ H Q I (f _ _ _ q)⟩
theorem qtR {a:Expr} {c:Bool} {g:List Sl→RE Bool} {pos:Pos} (h:PT X a (tT C g)):PW X (.BoolOp (qoU c) [a] pos) (tT C (gBs c g fun _=>.ok c)):=by
 have z:∀σ H Q,tT C (gBs c g fun _=>.ok c) σ H Q→tT C g σ H Q:=fun σ H Q q=>by
  obtain⟨ρ,P,N,S,h⟩:=q
  refine⟨ρ,P,N,S,h.bind.mono fun k P1 N1 H1 e a1 h1=>?_⟩
  split at h1
  ·rename_i e;subst e;exact h1.now (S.adv a1).reg
  ·exact h1.now (S.adv a1).reg
 cases c with
 |true=>exact qim (pw_and1 h) z
 |false=>exact qim (pw_or1 h) z
theorem qvK {a b:Expr} {rest:List Expr} {c:Bool} {g g':List Sl→RE Bool} {pos:Pos} (h:PT X a (tT C g)) (h':PW X (.BoolOp (qoU c) (b::rest) pos) (tT C g')):PW X (.BoolOp (qoU c) (a::b::rest) pos) (tT C (gBs c g g')):=by
 have z:∀σ H Q,tT C (gBs c g g') σ H Q→tT C g σ H fun k H1=>if k=c then tT C g' σ H1 Q else Q k H1:=fun σ H Q q=>by
  obtain⟨ρ,P,N,S,h⟩:=q
  refine⟨ρ,P,N,S,h.bind.mono fun k P1 N1 H1 e a1 h1=>?_⟩
  split at h1
  ·rename_i e;rw[if_pos e];exact⟨ρ,P1,N1,S.adv a1,h1⟩
  ·rename_i e;rw[if_neg e];exact h1.now (S.adv a1).reg
 cases c with
 |true =>
  refine qim (pw_and h h') fun σ H Q q=>?_
  obtain⟨ρ,P,N,S,q⟩:=z σ H Q q
  refine⟨ρ,P,N,S,q.mono fun k P1 N1 H1 e a1 h1=>?_⟩
  cases k<;>exact h1
 |false =>
  refine qim (pw_or h h') fun σ H Q q=>?_
  obtain⟨ρ,P,N,S,q⟩:=z σ H Q q
  refine⟨ρ,P,N,S,q.mono fun k P1 N1 H1 e a1 h1=>?_⟩
  cases k<;>exact h1
theorem qq9:PA X [] (tA C fun _=>.ok []):=by
 refine qfG pa_nil fun σ H Q q=>?_
 obtain⟨ρ,P,N,S,h⟩:=q
 exact h.now S.reg [] rfl
theorem qp1 {e:Expr} {es:List Expr} {g:List Sl→RE ER} {g':List Sl→RE (List ER)} (h:PE X e (tE C g)) (h':PA X es (tA C g')) (hs:starEach (e::es) X.env=(false,eval e X.env)::starEach es X.env) :
  PA X (e::es) (tA C fun ρ=>(g ρ).bind fun x=>(g' ρ).bind fun r=>.ok (x.frz::r)):=by
 refine qfG (pa_cons h h' hs) fun σ H Q q=>?_
 obtain⟨ρ,P,N,S,h⟩:=q
 refine⟨ρ,P,N,S,h.bind.mono fun x P1 N1 H1 e a1 h1 v rv=>?_⟩
 obtain⟨N2,a2,r2⟩:=rv.freeze a1
 have h2:res C σ P1 N2 H1 ((g' ρ).bind fun r=>.ok (x.frz::r)) fun es P' N' H'=>∀vs,ERs C P' N' H' H es vs→Q vs H':=by
  simp only[e,RE.bind_ok] at h
  exact res.adv a2 h
 exact⟨ρ,P1,N2,S.adv a2,h2.bind.mono fun es P3 N3 H3 e a3 h3 vs rvs=>h3.now ((S.adv a2).adv a3).reg _ ⟨v,vs,rfl,r2.adv a3,rvs.from a2.hh.s⟩⟩
end
end Cm
namespace Cm
open PySem PySem.Spec PyProof.Rows L2
variable [HasT]
section
variable {C:Ctx} {X:Cx}
theorem ERs.reps {P N H H0:Hp}:∀{es:List ER} {vs:List V},ERs C P N H H0 es vs→es.all ER.isV=true→RepsB C P N (es.all ER.b) (es.map ER.d) vs
 |[],_,h,_=>h
 |e::es,_,⟨v,r,q,h2,h3⟩,z=>by
  subst q
  simp only[List.all_cons,Bool.and_eq_true] at z
  cases e with
  |val d b=>exact⟨v,r,rfl,RepB.and1 h2,RepsB.and2 (ERs.reps h3 z.2)⟩
  |fre d b=>exact absurd z.1 (by simp[ER.isV])
  |brw d b=>exact absurd z.1 (by simp[ER.isV])
theorem ERs.w {P N H H0:Hp} (r:Reg C P N H) {e:ER} {es:List ER} {vs:List V} (h:ERs C P N H H0 (e::es) vs):∃v u,vs=v::u∧ERw C P N H e.d e.b v∧ERs C P N H H0 es u:=by
 obtain⟨v,u,q,h2,h3⟩:=h
 exact⟨v,u,q,h2.w r,h3⟩
theorem qsp {es:List Expr} {k:Nat} {g:List Sl→RE (List ER)} {pos:Pos} (h:PA X es (tA C g)) (hl:∀ρ r,g ρ=.ok r→r.length≤LIM):PE X (.Tuple es k pos) (tE C fun ρ=>(g ρ).bind fun r=>dis (fun ds b=>.val (.tup ds) b) r):=by
 refine qal (pe_tup h) fun σ H Q q=>?_
 obtain⟨ρ,P,N,S,h⟩:=q
 refine⟨ρ,P,N,S,h.bind.mono fun r P1 N1 H1 e a1 h1 vs rv=>?_⟩
 have r1:=(S.adv a1).reg
 unfold dis at h1
 split at h1
 ·rename_i z
  have rr:=rv.reps z
  refine⟨?_,fun p hp=>h1.tup r1 rr hp⟩
  rw[rr.length,List.length_map]
  exact hl _ _ e
 ·exact h1.elim
theorem qsh {es:List Expr} {g:List Sl→RE (List ER)} {pos:Pos} (h:PA X es (tA C g)) (hl:∀ρ r,g ρ=.ok r→r.length≤LIM):PE X (.List es pos) (tE C fun ρ=>(g ρ).bind fun r=>dis .fre r):=by
 refine qal (pe_lst h) fun σ H Q q=>?_
 obtain⟨ρ,P,N,S,h⟩:=q
 refine⟨ρ,P,N,S,h.bind.mono fun r P1 N1 H1 e a1 h1 vs rv=>?_⟩
 have r1:=(S.adv a1).reg
 unfold dis at h1
 split at h1
 ·rename_i z
  have rr:=rv.reps z
  refine⟨?_,fun p hp=>h1.fre r1 a1.hh rr hp⟩
  rw[rr.length,List.length_map]
  exact hl _ _ e
 ·exact h1.elim
theorem qmY {P N:Hp} {b:Bool} {ds:List D} {xs:List V} {i:Int} {d:D} (h:RepsB C P N b ds xs) (e:atI ds i=some d):∃v,atI xs i=some v∧RepB C P N b d v:=by
 unfold atI at e ⊢
 rw[h.length]
 cases q:ixN ds.length i with
 |none=>rw[q] at e;cases e
 |some j =>
  rw[q] at e
  exact h.get e
theorem qq5 {a i:Expr} {ga gi:List Sl→RE ER} {pos:Pos} (hK:X.K=C.G.K) (ha:PE X a (tE C ga)) (hi:PE X i (tE C gi)) (hs:PlainIx i):PE X (.Subscript a i pos) (tE C fun ρ=>(ga ρ).bind fun x=>(gi ρ).bind fun y=>qrZ x.d y.d x.b):=by
 refine qal (pe_ix ix_seq ha hi hs) fun σ H Q q=>?_
 rw[hK]
 obtain⟨ρ,P,N,S,h⟩:=q
 refine⟨ρ,P,N,S,h.bind.mono fun x P1 N1 H1 _ a1 h1 v rv=>⟨ρ,P1,N1,S.adv a1,h1.bind.mono fun y P2 N2 H2 _ a2 h2 u ru=>?_⟩⟩
 have r2:=(S.adv (a1.trans a2)).reg
 have wx:=(rv.adv a2).w r2
 have wy:=ru.w r2
 unfold qrZ at h2
 simp only[qef,qbu,qat,qbB,qbr,qbC,qbt,qbR,qbA,qbs,qbz] at h2
 split at h2
 ·rename_i ds i e1 e2
  rw[e1] at wx;rw[e2] at wy
  obtain⟨p,xs,rfl,h3,h4⟩:=wx.lst
  cases wy.int
  split at h2
  ·rename_i d e
   obtain⟨v,e',h5⟩:=qmY h4 e
   exact .inl ⟨p,xs,i,v,rfl,rfl,h3,e',h2.val r2 h5.nf⟩
  ·exact h2.elim
 ·rename_i ds i e1 e2
  rw[e1] at wx;rw[e2] at wy
  obtain⟨p,xs,rfl,h3,h4⟩:=wx.tup r2
  cases wy.int
  split at h2
  ·rename_i d e
   obtain⟨v,e',h5⟩:=qmY h4 e
   exact .inr (.inl ⟨p,xs,i,v,rfl,rfl,h3,e',h2.val r2 h5.nf⟩)
  ·exact h2.elim
 ·rename_i s i e1 e2
  rw[e1] at wx;rw[e2] at wy
  cases wx.str
  cases wy.int
  split at h2
  ·rename_i hl
   split at h2
   ·rename_i c e
    refine .inr (.inr ⟨_,i,c,rfl,rfl,?_,?_,?_⟩)
    ·rw[qbE];exact hl
    ·exact e
    ·exact h2.val r2 rfl
   ·exact h2.elim
  ·exact h2.elim
 ·exact h2.elim
theorem qpw:PO X none (tO C fun _=>.ok none):=⟨fun pins s σ H Q I q=>by
 obtain⟨ρ,P,N,S,h⟩:=q
 exact po_none.run pins s σ H Q I (h.now S.reg)⟩
theorem qpr {e:Expr} {g:List Sl→RE ER} (h:PE X e (tE C g)):PO X (some e) (tO C fun ρ=>(g ρ).bind fun x=>match x.d with
  |.int i=>.ok (some i)
  |_=>.bad):=⟨fun pins s σ H Q I q=>by
 obtain⟨ρ,P,N,S,h'⟩:=q
 refine(po_some h).run pins s σ H Q I ⟨ρ,P,N,S,h'.bind.mono fun x P1 N1 H1 _ a1 h1 v rv=>?_⟩
 have r1:=(S.adv a1).reg
 split at h1
 ·rename_i i e
  have w:=rv.w r1
  rw[e] at w
  exact⟨i,w.int,h1.now r1⟩
 ·exact h1.elim⟩
theorem qot {P N:Hp} {b:Bool} {ds:List D} {xs:List V} (h:RepsB C P N b ds xs) (lo hi:Option Int):RepsB C P N b (qdu ds lo hi) (cutV xs lo hi):=by
 unfold qdu cutV
 rw[h.length]
 exact Reps.take _ (Reps.drop _ h)
theorem qsy {a:Expr} {lo hi:Option Expr} {ga:List Sl→RE ER} {gl gh:List Sl→RE (Option Int)} {pos p2:Pos} (hK:X.K=C.G.K) (ha:PE X a (tE C ga)) (hl:PO X lo (tO C gl)) (hh:PO X hi (tO C gh)) :
  PE X (.Subscript a (.Slice lo hi none p2) pos) (tE C fun ρ=>(ga ρ).bind fun x=>(gl ρ).bind fun l=>(gh ρ).bind fun h=>qu8 x.d l h x.b):=by
 refine qal (pe_slice (sl_list.or (sl_tup.or sl_str)) ha hl hh) fun σ H Q q=>?_
 rw[hK]
 obtain⟨ρ,P,N,S,h⟩:=q
 refine⟨ρ,P,N,S,h.bind.mono fun x P1 N1 H1 _ a1 h1 v rv=>⟨ρ,P1,N1,S.adv a1,h1.bind.mono fun l P2 N2 H2 _ a2 h2=>⟨ρ,P2,N2,S.adv (a1.trans a2),res.mono (res.bind h2) fun u P3 N3 H3 _ a3 h3=>?_⟩⟩⟩
 have a:=(a1.trans a2).trans a3
 have r3:=(S.adv a).reg
 have wx:=(rv.adv (a2.trans a3)).w r3
 unfold qu8 at h3
 simp only[qef,qbu,qat,qbB,qbr,qbC,qbt,qbR,qbA,qbs,qbz] at h3
 split at h3
 ·rename_i ds e1
  rw[e1] at wx
  obtain⟨p,xs,rfl,h4,h5⟩:=wx.lst
  exact .inl ⟨p,xs,rfl,h4,fun p hp=>h3.fre r3 a.hh (qot h5 l u) hp⟩
 ·rename_i ds e1
  rw[e1] at wx
  obtain⟨p,xs,rfl,h4,h5⟩:=wx.tup r3
  split at h3
  ·rename_i hw
   refine .inr (.inl ⟨p,xs,rfl,h4,?_,fun p hp=>h3.tup r3 (qot h5 l u) hp⟩)
   rw[h5.length]
   rintro⟨q1,q2⟩
   simp[q1,q2] at hw
  ·exact h3.elim
 ·rename_i s e1
  rw[e1] at wx
  cases wx.str
  split at h3
  ·rename_i hl
   refine .inr (.inr ⟨_,rfl,?_,?_⟩)
   ·rw[qbE];exact hl
   ·exact h3.val r3 rfl
  ·exact h3.elim
 ·exact h3.elim
def qwK (K:PySem.W.Frag) (te:TE):TE:=fun σ H Q=>te σ H fun x H1=>(∃a xs,x=.ref a∧SqL K H1 a xs∧∀p,H1 p=none→Q (.ref p) (upd H1 p (.lst xs.reverse))) ∨
 (∃a xs,x=.ref a∧SqT K H1 a xs∧∀p,H1 p=none→Q (.ref p) (upd H1 p (.tup xs.reverse)))
def qwk:Pri→Value
 |.len=>.builtin "len" |.abs=>.builtin "abs" |.min2=>.builtin "min" |.max2=>.builtin "max" |.min1=>.builtin "min" |.max1=>.builtin "max" |.sum=>.builtin "sum" |.sorted=>.builtin "sorted"
 |.all=>.builtin "all" |.any=>.builtin "any" |.list=>.type "list" |.tupl=>.type "tuple" |.int=>.type "int" |.str=>.type "str" |.dmd=>.builtin "divmod"
def qqB:Pri→Str
 |.len=>"len" |.abs=>"abs" |.min2=>"min" |.max2=>"max" |.min1=>"min" |.max1=>"max" |.sum=>"sum" |.sorted=>"sorted"
 |.all=>"all" |.any=>"any" |.list=>"list" |.tupl=>"tuple" |.int=>"int" |.str=>"str" |.dmd=>"divmod"
def qwf (K:PySem.W.Frag):Pri→List V→Hp→VK→Prop
 |.len=>fun xs H Q=>(∃x n,xs=[x]∧LenV K x H n∧Q (.int n) H)
 |.abs=>fun xs H Q=>∃i,xs=[.int i]∧Q (.int (if i<0 then -i else i)) H
 |.min2=>fun xs H Q=>∃i j,xs=[.int i,.int j]∧Q (.int (if j<i then j else i)) H
 |.max2=>fun xs H Q=>∃i j,xs=[.int i,.int j]∧Q (.int (if j>i then j else i)) H
 |.min1=>rMin K
 |.max1=>rMax K
 |.sum=>rSum K
 |.sorted=>rSortedI K
 |.all=>rAll K
 |.any=>rAny K
 |.list=>fun xs H Q=>∃p ys,xs=[.ref p]∧(SqL K H p ys∨SqT K H p ys)∧∀l,H l=none→Q (.ref l) (upd H l (.lst ys))
 |.tupl=>fun xs H Q=>∃p ys,xs=[.ref p]∧SqL K H p ys∧∀l,H l=none→Q (.ref l) (upd H l (.tup ys))
 |.int=>fun xs H Q=>((∃i,xs=[.int i]∧Q (.int i) H)∨∃k,xs=[.bl k]∧Q (.int (if k then 1 else 0)) H)∨∃a n,xs=[.str a]∧intText? a=some n∧a.length≤640∧Q (.int n) H
 |.dmd=>fun xs H Q=>∃i j,xs=[.int i,.int j]∧CDiv i j∧∀p,H p=none→Q (.ref p) (upd H p (.tup [.int (i / j),.int (i % j)]))
 |.str=>fun xs H Q=>∃i,xs=[.int i]∧i.natAbs.log2<1920∧Q (.str (toString i)) H
theorem qt1 (hc:X.calm=true):∀p,CallR X (qwk p) (qwf X.K p)
 |.len=>call_len
 |.abs=>call_abs
 |.min2=>call_min2 hc
 |.max2=>call_max2 hc
 |.min1=>cr_min hc
 |.max1=>cr_max hc
 |.sum=>cr_sum hc
 |.sorted=>cr_sortedI
 |.all=>cr_all hc
 |.any=>cr_any hc
 |.list=>call_list_of
 |.tupl=>fun pins s σ H vs us Q I r q=>by
  obtain⟨p,ys,e,h1,h2⟩:=q
  exact call_tuple_of pins s σ H vs us Q I r ⟨p,ys,e,.inl ⟨h1,h2⟩⟩
 |.int=>fun pins s σ H vs us Q I r q=>by
  rcases q with q | q
  ·exact call_int1 pins s σ H vs us Q I r q
  ·exact call_int_str pins s σ H vs us Q I r q
 |.dmd=>call_divmod
 |.str=>call_str_int
theorem qdm {P N:Hp} {b:Bool}:∀{ds:List D} {ns:List Int} {xs:List V},qb9 ds=some ns→RepsB C P N b ds xs→xs=ns.map V.int
 |[],ns,xs,e,h=>by cases e;cases h;rfl
 |d::ds,ns,xs,e,⟨v,r,q,h1,h2⟩=>by
  cases d<;>simp only[qb9] at e<;>try cases e
  rename_i i
  cases e2:qb9 ds with
  |none=>rw[e2] at e;cases e
  |some ms =>
   rw[e2] at e;cases e
   have q1:v=.int i:=h1
   rw[q,q1,qdm e2 h2];rfl
theorem qfQ {P N:Hp} {b:Bool}:∀{ds:List D} {ns:List Bool} {xs:List V},qia ds=some ns→RepsB C P N b ds xs→xs=ns.map V.bl
 |[],ns,xs,e,h=>by cases e;cases h;rfl
 |d::ds,ns,xs,e,⟨v,r,q,h1,h2⟩=>by
  cases d<;>simp only[qia] at e<;>try cases e
  rename_i i
  cases e2:qia ds with
  |none=>rw[e2] at e;cases e
  |some ms =>
   rw[e2] at e;cases e
   have q1:v=.bl i:=h1
   rw[q,q1,qfQ e2 h2];rfl
theorem qja {P N:Hp} {b:Bool}:∀{ds:List D} {ns:List (List Nat)} {xs:List V},qkf ds=some ns→RepsB C P N b ds xs→xs=(ns.map qa1).map V.str
 |[],ns,xs,e,h=>by cases e;cases h;rfl
 |d::ds,ns,xs,e,⟨v,r,q,h1,h2⟩=>by
  cases d<;>simp only[qkf] at e<;>try cases e
  rename_i i
  cases e2:qkf ds with
  |none=>rw[e2] at e;cases e
  |some ms =>
   rw[e2] at e;cases e
   have q1:v=.str (qa1 i):=h1
   rw[q,q1,qja e2 h2];rfl
theorem qof:∀(n:Int) (ns:List Int),qmT (n::ns)∈n::ns∧∀y∈n::ns,qmT (n::ns)≤y
 |n,[]=>by simp[qmT]
 |n,m::ns=>by
  obtain⟨h1,h2⟩:=qof m ns
  have e:qmT (n::m::ns)=min n (qmT (m::ns)):=rfl
  rw[e]
  constructor
  ·rcases Int.le_total n (qmT (m::ns)) with h | h
   ·rw[Int.min_eq_left h];simp
   ·rw[Int.min_eq_right h];exact List.mem_cons_of_mem _ h1
  ·intro y hy
   rcases List.mem_cons.mp hy with rfl | hy
   ·exact Int.min_le_left _ _
   ·exact Int.le_trans (Int.min_le_right _ _) (h2 y hy)
theorem qm8:∀(n:Int) (ns:List Int),qhM (n::ns)∈n::ns∧∀y∈n::ns,y≤qhM (n::ns)
 |n,[]=>by simp[qhM]
 |n,m::ns=>by
  obtain⟨h1,h2⟩:=qm8 m ns
  have e:qhM (n::m::ns)=max n (qhM (m::ns)):=rfl
  rw[e]
  constructor
  ·rcases Int.le_total n (qhM (m::ns)) with h | h
   ·rw[Int.max_eq_right h];exact List.mem_cons_of_mem _ h1
   ·rw[Int.max_eq_left h];simp
  ·intro y hy
   rcases List.mem_cons.mp hy with rfl | hy
   ·exact Int.le_max_left _ _
   ·exact Int.le_trans (h2 y hy) (Int.le_max_right _ _)
theorem qgM (x:Int):∀ns:List Int,(qsM x ns).Perm (x::ns)
 |[]=>.refl _
 |y::ys=>by
  unfold qsM
  split
  ·exact .refl _
  ·exact((qgM x ys).cons y).trans (List.Perm.swap x y ys)
theorem qh9:∀ns:List Int,(qe9 ns).Perm ns
 |[]=>.refl _
 |x::xs=>(qgM x (qe9 xs)).trans ((qh9 xs).cons x)
theorem qlL (x:Int):∀ns:List Int,ns.Pairwise (· ≤ ·)→(qsM x ns).Pairwise (· ≤ ·)
 |[],_=>by simp[qsM]
 |y::ys,h=>by
  unfold qsM
  have h':=List.pairwise_cons.mp h
  split
  ·rename_i hxy
   refine List.pairwise_cons.mpr ⟨fun z hz=>?_,h⟩
   rcases List.mem_cons.mp hz with rfl | hz
   ·exact hxy
   ·exact Int.le_trans hxy (h'.1 z hz)
  ·rename_i hxy
   refine List.pairwise_cons.mpr ⟨fun z hz=>?_,qlL x ys h'.2⟩
   rcases List.mem_cons.mp ((qgM x ys).mem_iff.mp hz) with rfl | hz
   ·omega
   ·exact h'.1 z hz
theorem qjv:∀ns:List Int,(qe9 ns).Pairwise (· ≤ ·)
 |[]=>.nil
 |x::xs=>qlL x _ (qjv xs)
theorem qhX:∀{l m:List Int},l.Perm m→l.Pairwise (· ≤ ·)→m.Pairwise (· ≤ ·)→l=m
 |[],m,p,_,_=>(List.nil_perm.mp p).symm
 |x::l,[],p,_,_=>(List.perm_nil.mp p)
 |x::l,y::m,p,h,h'=>by
  have a:=List.pairwise_cons.mp h
  have b:=List.pairwise_cons.mp h'
  have e:x=y:=by
   have h1:x∈y::m:=p.mem_iff.mp (by simp)
   have h2:y∈x::l:=p.mem_iff.mpr (by simp)
   rcases List.mem_cons.mp h1 with h1 | h1
   ·exact h1
   ·rcases List.mem_cons.mp h2 with h2 | h2
    ·exact h2.symm
    ·have:=a.1 y h2;have:=b.1 x h1;omega
  subst e
  rw[qhX (List.Perm.cons_inv p) a.2 b.2]
theorem qrl (p:Pri) {g:List Sl→RE (List ER)} {σ:L2.St} {H:Hp} {Q:VK} (h:tE C (fun ρ=>(g ρ).bind (evP p)) σ H Q):tCB (qwf C.G.K p) (tA C g) σ H Q:=by
 obtain⟨ρ,P,N,S,h⟩:=h
 refine⟨ρ,P,N,S,h.bind.mono fun es P1 N1 H1 _ a1 h1 vs rv=>?_⟩
 have r:=(S.adv a1).reg
 have hh:=a1.hh
 clear h S a1
 unfold evP at h1
 simp only[qef,qbu,qat,qbB,qbr,qbC,qbt,qbR,qbA,qbs,qbz] at h1
 split at h1
 all_goals try exact h1.elim
 all_goals obtain⟨v,u,rfl,w,rv⟩:=rv.w r
 all_goals first
  |(obtain⟨v2,u2,rfl,w2,rv⟩:=rv.w r;cases rv)
  |cases rv
 all_goals split at h1
 all_goals try exact h1.elim
 all_goals rename_i q1
 -- len
 ·rw[q1] at w
  obtain⟨p,xs,rfl,h4,h5⟩:=w.lst
  exact⟨_,xs.length,rfl,.inl ⟨xs,h4,rfl⟩,by rw[h5.length];exact h1.val r rfl⟩
 ·rw[q1] at w
  obtain⟨p,xs,rfl,h4,h5⟩:=w.tup r
  exact⟨_,xs.length,rfl,.inr ⟨xs,h4,rfl⟩,by rw[h5.length];exact h1.val r rfl⟩
 ·rw[q1] at w
  cases w.str
  split at h1
  ·rename_i hl
   exact⟨_,_,rfl,⟨by rw[qbE];exact hl,rfl⟩,by rw[qbE];exact h1.val r rfl⟩
  ·exact h1.elim
 -- abs
 ·rw[q1] at w
  cases w.int
  exact⟨_,rfl,h1.val r rfl⟩
 -- min2 max2
 ·rename_i q2
  rw[q2] at w;rw[q1] at w2
  cases w.int;cases w2.int
  exact⟨_,_,rfl,h1.val r rfl⟩
 ·rename_i q2
  rw[q2] at w;rw[q1] at w2
  cases w.int;cases w2.int
  exact⟨_,_,rfl,h1.val r rfl⟩
 -- min1 max1
 ·rw[q1] at w
  obtain⟨p,xs,rfl,h4,h5⟩:=w.lst
  split at h1
  ·rename_i n ns q2
   have e:=qdm q2 h5
   subst e
   obtain⟨z1,z2⟩:=qof n ns
   refine⟨p,n::ns,rfl,h4,by simp,fun m hm hy=>?_⟩
   have:m=qmT (n::ns):=by
    have:=hy _ z1
    have:=z2 _ hm
    omega
   rw[this]
   exact h1.val r rfl
  ·exact h1.elim
 ·rw[q1] at w
  obtain⟨p,xs,rfl,h4,h5⟩:=w.lst
  split at h1
  ·rename_i n ns q2
   have e:=qdm q2 h5
   subst e
   obtain⟨z1,z2⟩:=qm8 n ns
   refine⟨p,n::ns,rfl,h4,by simp,fun m hm hy=>?_⟩
   have:m=qhM (n::ns):=by
    have:=hy _ z1
    have:=z2 _ hm
    omega
   rw[this]
   exact h1.val r rfl
  ·exact h1.elim
 -- sum
 ·rw[q1] at w
  obtain⟨p,xs,rfl,h4,h5⟩:=w.lst
  split at h1
  ·rename_i ns q2
   have e:=qdm q2 h5
   subst e
   exact⟨p,ns,rfl,h4,h1.val r rfl⟩
  ·exact h1.elim
 -- sorted
 ·rw[q1] at w
  obtain⟨p,xs,rfl,h4,h5⟩:=w.lst
  split at h1
  ·rename_i ns q2
   have e:=qdm q2 h5
   subst e
   refine⟨p,ns,rfl,h4,fun ns' p z1 z2 hp=>?_⟩
   have:ns'=qe9 ns:=qhX (z1.trans (qh9 ns).symm) z2 (qjv ns)
   rw[this]
   exact h1.fre r hh (Reps.ints.mpr rfl) hp
  ·exact h1.elim
 -- all any
 ·rw[q1] at w
  obtain⟨p,xs,rfl,h4,h5⟩:=w.lst
  split at h1
  ·rename_i ns q2
   have e:=qfQ q2 h5
   subst e
   exact⟨p,ns,rfl,h4,h1.val r rfl⟩
  ·exact h1.elim
 ·rw[q1] at w
  obtain⟨p,xs,rfl,h4,h5⟩:=w.lst
  split at h1
  ·rename_i ns q2
   have e:=qfQ q2 h5
   subst e
   exact⟨p,ns,rfl,h4,h1.val r rfl⟩
  ·exact h1.elim
 -- list
 ·rw[q1] at w
  obtain⟨p,xs,rfl,h4,h5⟩:=w.lst
  exact⟨p,xs,rfl,.inl h4,fun l hl=>h1.fre r hh h5.nf hl⟩
 ·rw[q1] at w
  obtain⟨p,xs,rfl,h4,h5⟩:=w.tup r
  exact⟨p,xs,rfl,.inr h4,fun l hl=>h1.fre r hh h5.nf hl⟩
 -- tuple
 ·rw[q1] at w
  obtain⟨p,xs,rfl,h4,h5⟩:=w.lst
  exact⟨p,xs,rfl,h4,fun l hl=>h1.tup r h5.nf hl⟩
 -- int
 ·rw[q1] at w
  cases w.int
  exact .inl (.inl ⟨_,rfl,h1.val r rfl⟩)
 ·rw[q1] at w
  cases w.bl
  exact .inl (.inr ⟨_,rfl,h1.val r rfl⟩)
 ·rw[q1] at w
  cases w.str
  split at h1
  ·rename_i n q2
   split at h1
   ·rename_i hl
    rw[Nat.ble_eq] at hl
    exact .inr ⟨_,n,rfl,q2,by rw[qbE];exact hl,h1.val r rfl⟩
   ·exact h1.elim
  ·exact h1.elim
 -- divmod
 ·rename_i q2
  rw[q2] at w;rw[q1] at w2
  cases w.int;cases w2.int
  split at h1
  ·rename_i hl
   rw[qrh] at hl
   exact⟨_,_,rfl,hl,fun p hp=>h1.tup r ⟨_,_,rfl,rfl,_,_,rfl,rfl,rfl⟩ hp⟩
  ·exact h1.elim
 -- str
 ·rw[q1] at w
  cases w.int
  split at h1
  ·rename_i hl
   refine⟨_,rfl,hl,h1.val r ?_⟩
   show V.str _=V.str _
   rfl
  ·exact h1.elim
theorem qpP:∀p,bootBuiltins (qqB p)=some (qwk p)
 |.len=>boot_len
 |.abs=>by decide +kernel
 |.min2=>by decide +kernel
 |.max2=>by decide +kernel
 |.min1=>by decide +kernel
 |.max1=>by decide +kernel
 |.sum=>by decide +kernel
 |.sorted=>by decide +kernel
 |.all=>by decide +kernel
 |.any=>by decide +kernel
 |.list=>by decide +kernel
 |.tupl=>by decide +kernel
 |.int=>by decide +kernel
 |.str=>by decide +kernel
 |.dmd=>by decide +kernel
theorem qno:∀p,qqB p ≠ "__name__" ∧ (qqB p == ("__debug__" : Str))=false:=by intro p;cases p<;>decide
theorem qgq {x:Str} {f:Value} {r:List V→Hp→VK→Prop} {e:Expr} {es:List Expr} {t:TA} {p pos:Pos} (hc:CallR X f r) (hv:bootBuiltins x=some f) (hf:(∃id,f=.builtin id)∨∃T,f=.type T) (hg:Gl X x) (hm:X.mg x=none) (ha:PA X (e::es) t) (hn:x ≠ "__name__") (hdb:(x == ("__debug__" : Str))=false)
  (he:starEach (e::es) X.env=(false,eval e X.env)::starEach es X.env) (hpl:(backTo pos (starEach es X.env)).any (·.1)=false):PE X (.Call (.Name x p) (e::es) [] pos) (tCB r t):=by
 rcases hf with⟨id,rfl⟩ | ⟨T,rfl⟩
 ·exact pe_callB hc hg hm hv ha hn hdb he hpl
 ·exact pe_callTy hc hg hm hv ha hn hdb he hpl
theorem qrD {q:Pri} {g:List Sl→RE (List ER)} {e:Expr} {es:List Expr} {p pos:Pos} (hK:X.K=C.G.K) (hc:X.calm=true) (hg:Gl X (qqB q)) (hm:X.mg (qqB q)=none) (ha:PA X (e::es) (tA C g))
  (he:starEach (e::es) X.env=(false,eval e X.env)::starEach es X.env) (hpl:(backTo pos (starEach es X.env)).any (·.1)=false):PE X (.Call (.Name (qqB q) p) (e::es) [] pos) (tE C fun ρ=>(g ρ).bind (evP q)):=
 qal (qgq (qt1 hc q) (qpP q) (by cases q<;>first | exact .inl ⟨_,rfl⟩ | exact .inr ⟨_,rfl⟩) hg hm ha (qno q).1 (qno q).2 he hpl) fun σ H Q h=>by rw[hK];exact qrl q h
end
end Cm
namespace Cm
open PySem PySem.Spec PyProof.Rows L2
variable [HasT]
section
variable {C:Ctx} {X:Cx}
open Classical in
noncomputable def un3 (P N R H:Hp):Hp:=fun a=>if P a≠none∨N a≠none∨R a≠none then H a else none
open Classical in
noncomputable def un2 (N N' H:Hp):Hp:=fun a=>if N a≠none∨N' a≠none then H a else none
theorem qvH {P N R H:Hp}:Same (un3 P N R H) H:=Same.of fun a o e=>by
 unfold un3 at e
 split at e
 ·exact e
 ·cases e
theorem qns {P N R H A:Hp} (h:Same A H) (k:∀a,A a≠none→un3 P N R H a=H a):Same A (un3 P N R H):=⟨fun a o e n=>by
 rw[k a (by rw[e];simp)];exact h.g0 _ _ e n,fun a e=>by
 cases q:A a with
 |none=>rfl
 |some u=>rw[k a (by rw[q];simp)] at e;have:=h.free e;rw[q] at this;cases this⟩
theorem qvf {P N R H:Hp} (h:Same P H):Same P (un3 P N R H):=qns h fun a e=>if_pos (.inl e)
theorem qtP {P N R H:Hp} (h:Same N H):Same N (un3 P N R H):=qns h fun a e=>if_pos (.inr (.inl e))
theorem qvv {P N R H:Hp} (h:Same R H):Same R (un3 P N R H):=qns h fun a e=>if_pos (.inr (.inr e))
theorem qnR {P N R H:Hp} (hp:Same P H) (hn:Same N H) (hr:Same R H) (t:TF P∧TF N∧TF R) {a:Addr} {o:HO} (e:un3 P N R H a=some o):P a=some o∨N a=some o∨R a=some o:=by
 unfold un3 at e
 split at e
 ·rename_i h
  rcases h with h | h | h
  ·exact .inl (hp.back t.1 e h)
  ·exact .inr (.inl (hn.back t.2.1 e h))
  ·exact .inr (.inr (hr.back t.2.2 e h))
 ·cases e
theorem quu {P N R H:Hp} (hp:Same P H) (hn:Same N H) (hr:Same R H) (t:TF P∧TF N∧TF R):TF (un3 P N R H):=fun a o e=>by
 rcases qnR hp hn hr t e with q | q | q
 ·exact t.1 a o q
 ·exact t.2.1 a o q
 ·exact t.2.2 a o q
theorem qq7 {K:PySem.W.Frag} {P N R H:Hp} (hp:Same P H) (hn:Same N H) (hr:Same R H) (t:TF P∧TF N∧TF R) {a:Addr} {xs:List V} (h:SqL K (un3 P N R H) a xs):SqL K P a xs∨SqL K N a xs∨SqL K R a xs:=by
 rcases h with(h | ⟨o,h⟩) | h
 ·rcases qnR hp hn hr t h with h | h | h
  ·exact .inl (.inl (.inl h))
  ·exact .inr (.inl (.inl (.inl h)))
  ·exact .inr (.inr (.inl (.inl h)))
 ·rcases qnR hp hn hr t h with h | h | h
  ·exact .inl (.inl (.inr ⟨o,h⟩))
  ·exact .inr (.inl (.inl (.inr ⟨o,h⟩)))
  ·exact .inr (.inr (.inl (.inr ⟨o,h⟩)))
 ·exact .inl (.inr h)
theorem qt3 {N N' H:Hp}:Same (un2 N N' H) H:=Same.of fun a o e=>by
 unfold un2 at e
 split at e
 ·exact e
 ·cases e
theorem qqm {N N' H A:Hp} (h:Same A H) (k:∀a,A a≠none→un2 N N' H a=H a):Same A (un2 N N' H):=⟨fun a o e n=>by
 rw[k a (by rw[e];simp)];exact h.g0 _ _ e n,fun a e=>by
 cases q:A a with
 |none=>rfl
 |some u=>rw[k a (by rw[q];simp)] at e;have:=h.free e;rw[q] at this;cases this⟩
theorem qpm {N N' H:Hp} (h:Same N H):Same N (un2 N N' H):=qqm h fun a e=>if_pos (.inl e)
theorem qmf {N N' H:Hp} (h:Same N' H):Same N' (un2 N N' H):=qqm h fun a e=>if_pos (.inr e)
theorem qun {N A H:Hp} (hn:Same N H) (ha:Same A H) (t1:TF N) (t2:TF A) {a:Addr} {o:HO} (e:un2 N A H a=some o):N a=some o∨A a=some o:=by
 unfold un2 at e
 split at e
 ·rename_i h
  rcases h with h | h
  ·exact .inl (hn.back t1 e h)
  ·exact .inr (ha.back t2 e h)
 ·cases e
theorem qtX {N A H:Hp} (hn:Same N H) (ha:Same A H) (t1:TF N) (t2:TF A):TF (un2 N A H):=fun a o e=>by
 rcases qun hn ha t1 t2 e with q | q
 ·exact t1 a o q
 ·exact t2 a o q
theorem Adv.back {P N H P' N' H':Hp} (hn:Same N H) (a:Adv P (fun _=>none) H P' N' H'):Adv P N H P' (un2 N N' H') H' where
 hh:=a.hh
 pp:=a.pp
 nn:=qpm (hn.trans a.hh)
 pH:=a.pH
 nH:=qt3
 pn:=a.pn
 nw:=fun q h=>by
  unfold un2 at h
  split at h
  ·rename_i z
   rcases z with z | z
   ·exact .inl z
   ·rcases a.nw q z with z | z
    ·exact absurd rfl z
    ·exact .inr z
  ·exact absurd rfl h
 dj:=fun q h h2=>by
  unfold un2 at h
  split at h
  ·rename_i z
   rcases z with z | z
   ·exact z
   ·exact absurd rfl (a.dj q z h2)
  ·exact absurd rfl h
 tp:=a.tp
 tn:=fun t=>qtX (hn.trans a.hh) a.nH t (a.tn TF.nil)
theorem qmd {P N H H0:Hp} {σ:L2.St} {n:Nat} {g':List D→RE ER} {Q:VK} {es:List ER} {vs:List V} (r:Reg C P N H) (e0:Cm.Same H0 H) (hv:ERs C P N H H0 es vs) (hn:es.length=n)
  (h:res C σ P N H ((g' (es.map ER.d)).bind (qdT (!es.all ER.isV))) (kE C H0 Q)):spD C.G n g' vs H Q (fun cls d H'=>C.W cls d σ H'):=by
 have rH:=r.rH
 cases ha:es.all ER.isV with
 |true =>
  rw[ha] at h
  have hr:=hv.reps ha
  refine⟨P,un3 P N C.R H,es.map ER.d,r.pH,⟨qvH,r.tb,r.tf.1,quu r.pH r.nH rH r.tf⟩,Reps.mono (Cm.Same.refl _) _ _ (fun a xs q=>?_) hr,by rw[List.length_map,hn],?_⟩
  ·rcases q with q | ⟨_,q | q | q⟩
   ·exact .inl (.inl (qtP r.nH _ _ q))
   ·exact Cm.Same.seq (qvf r.pH) q
   ·exact Cm.Same.seq (qtP r.nH) q
   ·exact Cm.Same.seq (qvv rH) q
  ·have mono:∀{P' N' H':Hp} {b:Bool},Adv P (fun _=>none) H P' N' H'→∀a xs,LNb C.G.K P' N' (un3 P N C.R H) b a xs→LNb C.G.K P' (un2 N N' H') C.R b a xs:=fun {P' N' H' b} ad a xs q=>by
    rcases q with q | ⟨hb,q | q | q⟩
    ·exact .inl (qmf ad.nH _ _ q)
    ·exact .inr ⟨hb,.inl q⟩
    ·exact .inr ⟨hb,.inr (.inl (Cm.Same.seq (qmf ad.nH) q))⟩
    ·rcases qq7 r.pH r.nH rH r.tf q with q | q | q
     ·exact .inr ⟨hb,.inl (Cm.Same.seq ad.pp q)⟩
     ·exact .inr ⟨hb,.inr (.inl (Cm.Same.seq (qpm (r.nH.trans ad.hh)) q))⟩
     ·exact .inr ⟨hb,.inr (.inr q)⟩
   cases e:g' (es.map ER.d) with
   |bad=>rw[e] at h;exact h.elim
   |exc c fs =>
    rw[e] at h
    intro d H' P' N' ad hx
    refine h d _ _ _ (ad.back r.nH) ?_
    rcases hx with hx | ⟨dd,f,v,h1,h2,h3,h4⟩
    ·exact .inl hx
    ·exact .inr ⟨dd,f,v,h1,h2,h3,Rep.mono (Cm.Same.refl _) _ _ (mono ad) h4⟩
   |ok er =>
    rw[e] at h
    intro v H' P' N' ad hx
    cases er with
    |brw ds b=>exact h.elim
    |val d b=>exact h _ _ _ (ad.back r.nH) v (RepB.nf (C:=C) (Rep.mono (Cm.Same.refl _) _ _ (mono ad) hx))
    |fre ds b =>
     obtain⟨p,xs,rfl,h1,h2,h3,h4,h5⟩:=hx
     refine h _ _ _ (ad.back r.nH) _ ⟨p,xs,rfl,h1,e0.free h2,h3,?_,Reps.mono (Cm.Same.refl _) _ _ (mono ad) h5⟩
     unfold un2
     rw[if_neg]
     rintro(z | z)
     ·exact z (r.nH.free h2)
     ·exact z h4
 |false =>
  rw[ha] at h
  have hr:Reps C.G P (SqL C.G.K H) (es.map ER.d) vs:=by
   clear h ha hn
   induction es generalizing vs with
   |nil=>cases hv;rfl
   |cons e es ih =>
    obtain⟨v,u,rfl,h1,h2⟩:=hv
    refine⟨v,u,rfl,?_,ih h2⟩
    have w:=h1.w r
    have mm:=fun a xs=>LNb.seq (K:=C.G.K) (b:=e.b) r.pH r.nH rH a xs
    cases q:e.d with
    |lst ds =>
     rw[q] at w
     obtain⟨p,xs,rfl,h3,h4⟩:=w
     exact⟨p,xs,rfl,h3,Reps.mono (Cm.Same.refl _) _ _ mm h4⟩
    |non=>rw[q] at w;exact Rep.mono (Cm.Same.refl _) _ _ mm w
    |bl _=>rw[q] at w;exact Rep.mono (Cm.Same.refl _) _ _ mm w
    |int _=>rw[q] at w;exact Rep.mono (Cm.Same.refl _) _ _ mm w
    |str _=>rw[q] at w;exact Rep.mono (Cm.Same.refl _) _ _ mm w
    |tup _=>rw[q] at w;exact Rep.mono (Cm.Same.refl _) _ _ mm w
    |ins _ _=>rw[q] at w;exact Rep.mono (Cm.Same.refl _) _ _ mm w
    |exc _ _=>rw[q] at w;exact Rep.mono (Cm.Same.refl _) _ _ mm w
  refine⟨P,qe3 H,es.map ER.d,r.pH,⟨qew H,r.tb,r.tf.1,qgu H⟩,Reps.mono (Cm.Same.refl _) _ _ (fun _ _=>qfg) hr,by rw[List.length_map,hn],?_⟩
  have mono:∀{P' N' H':Hp},Adv P (fun _=>none) H P' N' H'→∀a xs,LNb C.G.K P' N' (qe3 H) true a xs→LNb C.G.K P' (un2 N N' H') C.R true a xs:=fun {P' N' H'} ad a xs q=>by
   rcases q with q | ⟨hb,q⟩
   ·exact .inl (qmf ad.nH _ _ q)
   ·cases hb
  cases e:g' (es.map ER.d) with
  |bad=>rw[e] at h;exact h.elim
  |exc c fs =>
   rw[e] at h
   intro d H' P' N' ad hx
   refine h d _ _ _ (ad.back r.nH) ?_
   rcases hx with hx | ⟨dd,f,v,h1,h2,h3,h4⟩
   ·exact .inl hx
   ·exact .inr ⟨dd,f,v,h1,h2,h3,Rep.mono (Cm.Same.refl _) _ _ (mono ad) h4⟩
  |ok er =>
   rw[e] at h
   intro v H' P' N' ad hx
   cases er with
   |brw ds b=>exact h.elim
   |val d b =>
    simp only[Bool.not_false,RE.bind_ok,qdT] at h
    split at h
    ·rename_i z
     refine h _ _ _ (ad.back r.nH) v ?_
     cases b with
     |true=>exact Rep.mono (Cm.Same.refl _) _ _ (mono ad) hx
     |false=>exact Rep.flat _ _ (by simpa using z) hx
    ·exact h.elim
   |fre ds b =>
    simp only[Bool.not_false,RE.bind_ok,qdT] at h
    obtain⟨p,xs,rfl,h1,h2,h3,h4,h5⟩:=hx
    split at h
    ·rename_i z
     refine h _ _ _ (ad.back r.nH) _ ⟨p,xs,rfl,h1,e0.free h2,h3,?_,?_⟩
     ·unfold un2
      rw[if_neg]
      rintro(z | z)
      ·exact z (r.nH.free h2)
      ·exact z h4
     ·cases b with
      |true=>exact Reps.mono (Cm.Same.refl _) _ _ (mono ad) h5
      |false=>exact Reps.flat _ _ (by simpa using z) h5
    ·exact h.elim
theorem ql4 {G:Glo} {n m:Nat} {g gf:List D→RE ER} {dv:List D} {dvs vs:List V} {H:Hp} {Q:VK} {E:XK} (hm:dv.length=m) (hd:∀P LN,Reps G P LN dv dvs) (hg:∀xs,xs.length=n→g xs=gf (xs++dv)) (h:spD G n g vs H Q E):spD G (n+m) gf (vs++dvs) H Q E:=by
 obtain⟨P,R,ds,h1,h2,h3,h4,h5⟩:=h
 rw[hg ds h4] at h5
 exact⟨P,R,ds++dv,h1,h2,Reps.append h3 (hd _ _),by rw[List.length_append,h4,hm],h5⟩
theorem qoh {k:Nat} {f:Addr} {fd:FuncData} {ps:List Str} {sp:Sp} {W:WX} {pins:List (Addr × Obj)} {σ:L2.St} {H:Hp} {s:Shared} {Q:VK} {us dus:List Value} {vs dvs:List V} (F:FnOk X.prog X.w X.K X.mg X.base (L2.CX X.prog X.w) k f fd ps sp) (hr:Room k X.A) (hb:Binds X.K fd ps dus) (hd:Vals dvs dus)
  (tk:Takes X W) (I:Inv X pins σ H s) (r:Vals vs us) (h:sp (vs++dvs) H Q (fun cls d H'=>W cls d σ H')):wpAny (model X.prog X.w) X.A (call (.ref f) us) (EP X pins σ Q) X.xe s:=by
 have r2:Vals (vs++dvs) (us++dus):=r.append hd
 have hl:(us++dus).length=ps.length:=by rw[←r2.length];exact F.len _ _ _ _ h
 refine wpAny_call (codeAny_mono (F.run X.A X.stack s H ⟨us,[]⟩ (us++dus) (vs++dvs) Q _ hr I.env0 (hb s us I.kIn hl) r2 h) fun r s' hq=>?_)
 cases r with
 |error e=>exact tk e s' (XE.of_call I (fun cls d H' q=>q) hq)
 |ok fl =>
  cases fl with
  |ret u=>exact I.after hq
  |next=>exact False.elim hq
  |brk=>exact False.elim hq
  |cont=>exact False.elim hq
theorem qnk {k:Nat} {f:Addr} {fd:FuncData} {ps:List Str} {sp:Sp} {W:WX} {pins:List (Addr × Obj)} {σ:L2.St} {H:Hp} {s:Shared} {Q:VK} {us:List Value} {vs:List V} (F:FnOk X.prog X.w X.K X.mg X.base (L2.CX X.prog X.w) k f fd ps sp) (hr:Room k X.A) (hb:Binds X.K fd ps [])
  (tk:Takes X W) (I:Inv X pins σ H s) (r:Vals vs us) (h:sp vs H Q (fun cls d H'=>W cls d σ H')):wpAny (model X.prog X.w) X.A (call (.ref f) us) (EP X pins σ Q) X.xe s:=by
 have hl:us.length=ps.length:=by rw[←r.length];exact F.len _ _ _ _ h
 have hb':=hb s us I.kIn (by rw[List.append_nil];exact hl)
 rw[List.append_nil] at hb'
 refine wpAny_call (codeAny_mono (F.run X.A X.stack s H ⟨us,[]⟩ us vs Q _ hr I.env0 hb' r h) fun r s' hq=>?_)
 cases r with
 |error e=>exact tk e s' (XE.of_call I (fun cls d H' q=>q) hq)
 |ok fl =>
  cases fl with
  |ret u=>exact I.after hq
  |next=>exact False.elim hq
  |brk=>exact False.elim hq
  |cont=>exact False.elim hq
def qoo (X:Cx) (es:List Expr):Prop:=(∀e r,es=e::r→starEach (e::r) X.env=(false,eval e X.env)::starEach r X.env)∧∀pos e r,es=e::r→(backTo pos (starEach r X.env)).any (·.1)=false
def Part (K:PySem.W.Frag) (G:Glo) (fd:FuncData) (ps:List Str) (n m:Nat) (g gf:List D→RE ER):Prop:=
 ∃(dv:List D) (dvs:List V) (dus:List Value),Binds K fd ps dus∧Vals dvs dus∧dv.length=m∧(∀P LN,Reps G P LN dv dvs)∧∀xs,xs.length=n→g xs=gf (xs++dv)
theorem Part.all {K:PySem.W.Frag} {G:Glo} {fd:FuncData} {ps:List Str} {n:Nat} {g:List D→RE ER} (h:Binds K fd ps []):Part K G fd ps n 0 g g:=⟨[],[],[],h,.nil,rfl,fun _ _=>rfl,fun xs _=>by rw[List.append_nil]⟩
theorem ql6 {x:Str} {k:Nat} {f:Addr} {fd:FuncData} {ps:List Str} {n m:Nat} {g' gf:List D→RE ER} {dv:List D} {dvs:List V} {dus:List Value} {g:List Sl→RE (List ER)} {es:List Expr} {p pos:Pos} (F:FnOk X.prog X.w X.K X.mg X.base (L2.CX X.prog X.w) k f fd ps (spD C.G (n+m) gf)) (hr:Room k X.A) (hg:Gl X x) (hm:X.mg x=some (.ref f)) (hk:PySem.W.keepIn X.K (.ref f)=true)
  (hb:Binds X.K fd ps dus) (hdv:Vals dvs dus) (hdm:dv.length=m) (hdr:∀P LN,Reps C.G P LN dv dvs) (hgf:∀xs,xs.length=n→g' xs=gf (xs++dv)) (tk:Takes X C.W) (ha:PA X es (tA C g)) (hdb:(x == ("__debug__" : Str))=false) (hs:qoo X es) (h0:es=[]→∀ρ,g ρ=.ok []) :
  PE X (.Call (.Name x p) es [] pos) (fun σ H Q=>tA C g σ H fun vs H1=>spD C.G n g' vs H1 Q (fun cls d H'=>C.W cls d σ H')):=by
  cases es with
  |nil =>
   refine⟨fun pins s σ H Q I h=>?_⟩
   refine wpAny_Call_Name_kw (ld_glob I hg hm ?_ hdb)
   refine PySem.W.callWith_K0 I.kIn hk ?_
   obtain⟨ρ,P,N,S,h⟩:=h
   rw[h0 rfl ρ] at h
   exact qoh F hr hb hdv tk I .nil (ql4 hdm hdr hgf (h.now S.reg [] rfl))
  |cons e es =>
   refine⟨fun pins s σ H Q I h=>?_⟩
   refine wpAny_Call_Name_kw (ld_glob I hg hm ?_ hdb)
   refine PySem.W.callWith_K (h₀:=X.base) I.ok.mod.kin hk (thn (ha.run pos pins s σ H _ I h) fun us s1 ⟨vs,H1,I1,r,q⟩=>⟨I1.kIn,?_⟩) (hs.1 _ _ rfl) (hs.2 _ _ _ rfl)
   exact qoh F hr hb hdv tk I1 r (ql4 hdm hdr hgf q)
theorem qpJ {x:Str} {k:Nat} {f:Addr} {fd:FuncData} {ps:List Str} {n m:Nat} {g' gf:List D→RE ER} {dv:List D} {dvs:List V} {dus:List Value} {g:List Sl→RE (List ER)} {es:List Expr} {p pos:Pos} (F:FnOk X.prog X.w X.K X.mg X.base (L2.CX X.prog X.w) k f fd ps (spD C.G (n+m) gf)) (hr:Room k X.A) (hg:Gl X x) (hm:X.mg x=some (.ref f)) (hk:PySem.W.keepIn X.K (.ref f)=true)
  (hb:Binds X.K fd ps dus) (hdv:Vals dvs dus) (hdm:dv.length=m) (hdr:∀P LN,Reps C.G P LN dv dvs) (hgf:∀xs,xs.length=n→g' xs=gf (xs++dv)) (tk:Takes X C.W) (ha:PA X es (tA C g)) (hdb:(x == ("__debug__" : Str))=false) (hs:qoo X es) (hl:∀ρ r,g ρ=.ok r→r.length=n) (h0:es=[]→∀ρ,g ρ=.ok []) :
  PE X (.Call (.Name x p) es [] pos) (tE C fun ρ=>(g ρ).bind fun r=>(g' (r.map ER.d)).bind (qdT (!r.all ER.isV))):=by
 refine qal (ql6 F hr hg hm hk hb hdv hdm hdr hgf tk ha hdb hs h0) fun σ H Q q=>?_
 obtain⟨ρ,P,N,S,h⟩:=q
 exact⟨ρ,P,N,S,h.bind.mono fun r P1 N1 H1 e a1 h1 vs rv=>qmd (S.adv a1).reg a1.hh rv (hl _ _ e) h1⟩
def ER.noF:ER→Bool
 |.fre _ _=>false
 |_=>true
theorem qhP {G:Glo} {P:Hp} {LN:Addr→List V→Prop}:∀{ds:List D} {ns:List Int} {xs:List V},qb9 ds=some ns→Reps G P LN ds xs→xs=ns.map V.int
 |[],ns,xs,e,h=>by cases e;cases h;rfl
 |d::ds,ns,xs,e,⟨v,r,q,h1,h2⟩=>by
  cases d<;>simp only[qb9] at e<;>try cases e
  rename_i i
  cases k:qb9 ds with
  |none=>rw[k] at e;cases e
  |some ms =>
   rw[k] at e
   cases e
   have h1:v=.int i:=h1
   rw[q,h1,qhP k h2]
   rfl
theorem qh5:∀{ds:List D} {ns:List Int},qb9 ds=some ns→D.flats ds=true
 |[],_,_=>rfl
 |d::ds,ns,e=>by
  cases d<;>simp only[qb9] at e<;>try cases e
  cases k:qb9 ds with
  |none=>rw[k] at e;cases e
  |some ms =>
   simp only[D.flats,D.flat,Bool.true_and]
   exact qh5 k
mutual
theorem Rep.off {G:Glo} {P:Hp} {LN LN':Addr→List V→Prop} {os:List (List Int)} (h:∀a (ns:List Int),LN a (ns.map V.int)→ns∉os→LN' a (ns.map V.int)):∀(d:D) (v:V),qqq os d=true→Rep G P LN d v→Rep G P LN' d v
 |.non,_,_,q=>q
 |.bl _,_,_,q=>q
 |.int _,_,_,q=>q
 |.str _,_,_,q=>q
 |.lst ds,v,f,⟨a,xs,e,h1,h2⟩=>by
  unfold qqq at f
  split at f
  ·rename_i ns hn
   have ex:xs=ns.map V.int:=qhP hn h2
   refine⟨a,xs,e,?_,Reps.flat ds xs (qh5 hn) h2⟩
   rw[ex] at h1 ⊢
   exact h a ns h1 (by simpa using f)
  ·cases f
 |.tup ds,v,f,⟨a,xs,e,h1,h2⟩=>⟨a,xs,e,h1,Reps.off h ds xs (by simpa[qqq] using f) h2⟩
 |.ins c ds,v,f,_=>by simp[qqq] at f
 |.exc _ _,v,f,_=>by simp[qqq] at f
theorem Reps.off {G:Glo} {P:Hp} {LN LN':Addr→List V→Prop} {os:List (List Int)} (h:∀a (ns:List Int),LN a (ns.map V.int)→ns∉os→LN' a (ns.map V.int)):∀(ds:List D) (vs:List V),qpi os ds=true→Reps G P LN ds vs→Reps G P LN' ds vs
 |[],_,_,q=>q
 |d::ds,vs,f,⟨v,r,e,h1,h2⟩=>by
  simp only[qpi,Bool.and_eq_true] at f
  exact⟨v,r,e,Rep.off h d v f.1 h1,Reps.off h ds r f.2 h2⟩
end
open Classical in
noncomputable def atO (os:List (List Int)) (H:Hp):Hp:=fun a=>if ∃ns∈os,H a=some (.lst (ns.map V.int)) then H a else none
structure MtOk (C:Ctx) (X:Cx) (m:Str) (c:Nat) (n:Nat) (g':List D→RE ER):Prop where
 cls:Cls X.K (C.G.ca c)
 nf:m∉C.G.fl c
 fn:∃k f fd ps,Meth X.K (C.G.ca c) m f∧FnOk X.prog X.w X.K X.mg X.base (L2.CX X.prog X.w) k f fd ps (spD C.G (n+1) g')∧Room k X.A∧Binds X.K fd ps []
theorem qic {α β:Type} [BEq α] [LawfulBEq α] {m:α}:∀{l:List α} {xs:List β},m∉l→(l.zip xs).lookup m=none
 |[],_,_=>rfl
 |a::l,[],_=>rfl
 |a::l,x::xs,h=>by
  simp only[List.mem_cons,not_or] at h
  have:(m == a)=false:=by simpa using h.1
  simp only[List.zip_cons_cons,List.lookup_cons,this]
  exact qic h.2
theorem qr8 {m:Str} {n:Nat} {mt:Nat→Option (List D→RE ER)} {o:Expr} {go:List Sl→RE ER} {g:List Sl→RE (List ER)} {es:List Expr} {apos pos:Pos} (hm:∀c g',mt c=some g'→MtOk C X m c n g')
  (tk:Takes X C.W) (ho:PE X o (tE C go)) (ha:PA X es (tA C g)) (hs:qoo X es) (hl:∀ρ r,g ρ=.ok r→r.length=n) (h0:es=[]→∀ρ,g ρ=.ok [])
  {pl:Sem Bool} (ht:eval (.Call (.Attribute o m apos) es [] pos) X.env=(do
   let ov ←eval o X.env
   standAt apos.atName
   let (f,first) ←holding [ov] (getMethod ov m pl)
   callWith pos f first (backTo pos (starEach es X.env)) (backToKw pos (keywordEach [] X.env)))) :
  PE X (.Call (.Attribute o m apos) es [] pos) (tE C fun ρ=>(go ρ).bind fun x=>match x.d with
  |.ins c fs=>match mt c with
   |some g'=>(g ρ).bind fun r=>(g' (.ins c fs::r.map ER.d)).bind (qdT (!r.all ER.isV))
   |none=>.bad
  |_=>.bad):=by
 refine⟨fun pins s σ H Q I h=>?_⟩
 have body:tE C go σ H fun x H1=>∃(a Ca dx:Addr) (fs:List (Str × V)) (f:Addr) (k:Nat) (fd:FuncData) (ps:List Str) (g':List D→RE ER),x=.ref a∧H1 a=some (.ins Ca dx fs)∧Cls X.K Ca∧Meth X.K Ca m f∧fs.lookup m=none ∧
   FnOk X.prog X.w X.K X.mg X.base (L2.CX X.prog X.w) k f fd ps (spD C.G (n+1) g')∧Room k X.A∧Binds X.K fd ps [] ∧
   ∃ρ P N r0,SR C P N H1 ρ σ∧(r0=g ρ)∧res C σ P N H1 r0 fun es' P' N' H'=>∀vs,ERs C P' N' H' H1 es' vs→spD C.G (n+1) g' (.ref a::vs) H' Q (fun cls d H'=>C.W cls d σ H'):=by
  obtain⟨ρ,P,N,S,h⟩:=h
  refine⟨ρ,P,N,S,h.bind.mono fun x P1 N1 H1 e1 a1 h1 v rv=>?_⟩
  have r1:=(S.adv a1).reg
  split at h1
  ·rename_i c fs q
   split at h1
   ·rename_i g' q2
    obtain⟨c1,c2,k,f,fd,ps,c3,c4,c5,c6⟩:=hm _ _ q2
    have w:=rv.w r1
    rw[q] at w
    have w':=w
    obtain⟨a,dx,xs,rfl,z1,z2,z3⟩:=w'
    refine⟨a,C.G.ca c,dx,_,f,k,fd,ps,g',rfl,r1.pH _ _ z1,c1,c3,qic c2,c4,c5,c6,ρ,P1,N1,_,S.adv a1,rfl,?_⟩
    refine(res.bind h1).mono fun r P2 N2 H2 e2 a2 h2 vs rvs=>?_
    have r2:=(S.adv (a1.trans a2)).reg
    refine qmd (es:=.val (.ins c fs) x.b::r) r2 (a1.trans a2).hh ⟨_,vs,rfl,RepB.adv a2.pp a2.nn w,rvs.from a1.hh.s⟩ ?_ ?_
    ·rw[List.length_cons,hl _ _ e2]
    ·simpa[ER.isV] using h2
   ·exact h1.elim
  ·exact h1.elim
 refine PySem.W.methodCall_KW (pl:=pl) (thn (ho.run pins s σ H _ I body) fun u s1 ⟨x,H1,I1,rx,a,Ca,dx,fs,f,k,fd,ps,g',ex,ea,c,k',l,F,hr,hb,ρ,P,N,r0,S,e0,q⟩=>?_) ht
 subst ex
 obtain rfl:u=Value.ref a:=rx
 refine getmeth_ok I1 ea c k' l ?_
 subst e0
 cases es with
 |nil =>
  refine PySem.W.callWith_K0 (first:=[.ref a]) I1.kIn k'.kp ?_
  rw[h0 rfl ρ] at q
  exact qnk (us:=[.ref a]) (vs:=[.ref a]) F hr hb tk I1 (.cons rfl .nil) (q.now S.reg [] rfl)
 |cons e es =>
  refine PySem.W.callWith_K (first:=[.ref a]) (h₀:=X.base) I1.ok.mod.kin k'.kp (thn (ha.run pos pins s1 σ H1 (fun vs H'=>spD C.G (n+1) g' (.ref a::vs) H' Q (fun cls d H'=>C.W cls d σ H')) I1 ⟨ρ,P,N,S,q⟩) fun us s2 ⟨vs,H2,I2,r,q2⟩=>⟨I2.kIn,?_⟩) (hs.1 _ _ rfl) (hs.2 _ _ _ rfl)
  exact qnk (us:=.ref a::us) (vs:=.ref a::vs) F hr hb tk I2 (.cons rfl r) q2
structure FdOk (C:Ctx) (X:Cx) (f:Str) (c:Nat) (k:Nat):Prop where
 cls:Cls X.K (C.G.ca c)
 no:NoAttr X.K (C.G.ca c) f
 at_:(C.G.fl c)[k]? = some f
 nd:(C.G.fl c).Nodup
theorem qhR {f:Str}:∀{l:List Str} {xs:List V} {k:Nat} {v:V},l.Nodup→l[k]? = some f→xs[k]? = some v→(l.zip xs).lookup f=some v
 |[],_,_,_,_,h,_=>by simp at h
 |a::l,[],_,_,_,_,h=>by simp at h
 |a::l,x::xs,0,v,_,h,h'=>by
  simp at h h';subst h;subst h'
  simp
 |a::l,x::xs,k+1,v,nd,h,h'=>by
  have nd':=List.nodup_cons.mp nd
  have hl:l[k]? = some f:=by simpa using h
  have:f≠a:=fun e=>nd'.1 (e ▸ List.mem_of_getElem? hl)
  have e:(f == a)=false:=by simpa using this
  simp only[List.zip_cons_cons,List.lookup_cons,e]
  exact qhR nd'.2 hl (by simpa using h')
theorem qsb {f:Str} {fi:Nat→Option Nat} {o:Expr} {go:List Sl→RE ER} {pos:Pos} (hK:X.K=C.G.K) (hf:∀c k,fi c=some k→FdOk C X f c k) (ho:PE X o (tE C go)) (hb:attributeBase o f X.env (eval o X.env)=eval o X.env) :
  PE X (.Attribute o f pos) (tE C fun ρ=>(go ρ).bind fun x=>match x.d with
  |.ins c fs=>match fi c with
   |some k=>match fs[k]? with
    |some d=>.ok (.val d d.flat)
    |none=>.bad
   |none=>.bad
  |_=>.bad):=by
 refine qal (pe_fld ho hb) fun σ H Q q=>?_
 obtain⟨ρ,P,N,S,h⟩:=q
 refine⟨ρ,P,N,S,h.bind.mono fun x P1 N1 H1 e1 a1 h1 v rv=>?_⟩
 have r1:=(S.adv a1).reg
 split at h1
 ·rename_i c fs q
  split at h1
  ·rename_i k q2
   obtain⟨c1,c2,c3,c4⟩:=hf _ _ q2
   have w:=rv.w r1
   rw[q] at w
   obtain⟨a,dx,xs,rfl,z1,z2,z3⟩:=w
   split at h1
   ·rename_i d q3
    obtain⟨u,q4,q5⟩:=Reps.get z3 q3
    refine⟨a,_,dx,_,u,rfl,r1.pH _ _ z1,c1,c2,qhR c4 c3 q4,h1.val r1 ?_⟩
    exact RepB.nf (b:=false) (Rep.mono (Cm.Same.refl _) _ _ LNb.ofP q5)
   ·exact h1.elim
  ·exact h1.elim
 ·exact h1.elim
end
end Cm
namespace Cm
open PySem PySem.Spec PyProof.Rows L2
variable [HasT]
section
variable {C:Ctx} {X:Cx}
def tyS:Ty→String
 |.bool=>"bool" |.int=>"int" |.str=>"str" |.list=>"list" |.tuple=>"tuple"
def tyN:Ty→Str
 |.bool=>"bool" |.int=>"int" |.str=>"str" |.list=>"list" |.tuple=>"tuple"
theorem qny:∀t,bootBuiltins (tyN t)=some (.type (tyS t))
 |.bool=>by decide +kernel
 |.int=>by decide +kernel
 |.str=>by decide +kernel
 |.list=>by decide +kernel
 |.tuple=>by decide +kernel
theorem qlu:∀t,tyN t ≠ "__name__" ∧ (tyN t == ("__debug__" : Str))=false:=by intro t;cases t<;>decide
theorem qh6 {K:PySem.W.Frag} {H:Hp} {a:Addr} {xs:List V} (h:SqL K H a xs):TyX K H (.ref a) (.type "list"):=by
 rcases h with(h | ⟨o,h⟩) | ⟨o,its,n,h1,h2,_⟩
 ·exact .base (.lst h)
 ·exact .base (.frz h)
 ·exact .kList h1 h2
theorem qkc {K:PySem.W.Frag} {H:Hp} {a:Addr} {xs:List V} (h:SqT K H a xs):TyX K H (.ref a) (.type "tuple"):=by
 rcases h with(h | ⟨o,h⟩) | ⟨o,its,n,h1,h2,_⟩
 ·exact .base (.tup h)
 ·exact .fTuple h
 ·exact .kTuple h1 h2
theorem qa5 (a b:String) (r:Bool) (h:kitB a b=some r) {K:PySem.W.Frag}:PySem.W.kitOne K (.type a) (.type b)=some r:=kit_ty h
theorem qsL {g:List Sl→RE ER} {t:Ty} {σ:L2.St} {H:Hp} {Q:VK} (h:tE C (fun ρ=>(g ρ).bind fun x=>qsW x.d t) σ H Q):tCB (rIsi C.G.K) (tCons (tE C g) (tCons (tC (.ty (tyS t))) tNil)) σ H Q:=by
 obtain⟨ρ,P,N,S,h⟩:=h
 refine⟨ρ,P,N,S,h.bind.mono fun x P1 N1 H1 e1 a1 h1 v rv=>?_⟩
 have r1:=(S.adv a1).reg
 have w:=rv.w r1
 show ∃(x c:V) (t' u:Value) (b:Bool),[v,V.ty (tyS t)]=[x,c]∧ClsV c u∧TyX C.G.K H1 x t'∧PySem.W.kitOne C.G.K t' u=some b∧Q (.bl b) H1
 cases q:x.d with
 |non =>
  rw[q] at w h1
  obtain rfl:v=.non:=w
  refine⟨_,_,.type "NoneType",_,false,rfl,.ty _,.base .non,?_,?_⟩
  ·cases t<;>exact qa5 _ _ _ (by decide +kernel)
  ·cases t<;>exact h1.val r1 rfl
 |bl b =>
  rw[q] at w h1
  obtain rfl:=w.bl
  cases t
  ·exact⟨_,_,_,_,true,rfl,.ty _,.base (.bl b),qa5 _ _ _ (by decide +kernel),h1.val r1 rfl⟩
  ·exact⟨_,_,_,_,true,rfl,.ty _,.base (.bl b),qa5 _ _ _ (by decide +kernel),h1.val r1 rfl⟩
  ·exact⟨_,_,_,_,false,rfl,.ty _,.base (.bl b),qa5 _ _ _ (by decide +kernel),h1.val r1 rfl⟩
  ·exact⟨_,_,_,_,false,rfl,.ty _,.base (.bl b),qa5 _ _ _ (by decide +kernel),h1.val r1 rfl⟩
  ·exact⟨_,_,_,_,false,rfl,.ty _,.base (.bl b),qa5 _ _ _ (by decide +kernel),h1.val r1 rfl⟩
 |int b =>
  rw[q] at w h1
  obtain rfl:=w.int
  cases t
  ·exact⟨_,_,_,_,false,rfl,.ty _,.base (.int b),qa5 _ _ _ (by decide +kernel),h1.val r1 rfl⟩
  ·exact⟨_,_,_,_,true,rfl,.ty _,.base (.int b),qa5 _ _ _ (by decide +kernel),h1.val r1 rfl⟩
  ·exact⟨_,_,_,_,false,rfl,.ty _,.base (.int b),qa5 _ _ _ (by decide +kernel),h1.val r1 rfl⟩
  ·exact⟨_,_,_,_,false,rfl,.ty _,.base (.int b),qa5 _ _ _ (by decide +kernel),h1.val r1 rfl⟩
  ·exact⟨_,_,_,_,false,rfl,.ty _,.base (.int b),qa5 _ _ _ (by decide +kernel),h1.val r1 rfl⟩
 |str b =>
  rw[q] at w h1
  obtain rfl:=w.str
  cases t
  ·exact⟨_,_,_,_,false,rfl,.ty _,.base (.str _),qa5 _ _ _ (by decide +kernel),h1.val r1 rfl⟩
  ·exact⟨_,_,_,_,false,rfl,.ty _,.base (.str _),qa5 _ _ _ (by decide +kernel),h1.val r1 rfl⟩
  ·exact⟨_,_,_,_,true,rfl,.ty _,.base (.str _),qa5 _ _ _ (by decide +kernel),h1.val r1 rfl⟩
  ·exact⟨_,_,_,_,false,rfl,.ty _,.base (.str _),qa5 _ _ _ (by decide +kernel),h1.val r1 rfl⟩
  ·exact⟨_,_,_,_,false,rfl,.ty _,.base (.str _),qa5 _ _ _ (by decide +kernel),h1.val r1 rfl⟩
 |lst ds =>
  rw[q] at w h1
  obtain⟨p,xs,rfl,z,_⟩:=w.lst
  cases t
  ·exact⟨_,_,_,_,false,rfl,.ty _,qh6 z,qa5 _ _ _ (by decide +kernel),h1.val r1 rfl⟩
  ·exact⟨_,_,_,_,false,rfl,.ty _,qh6 z,qa5 _ _ _ (by decide +kernel),h1.val r1 rfl⟩
  ·exact⟨_,_,_,_,false,rfl,.ty _,qh6 z,qa5 _ _ _ (by decide +kernel),h1.val r1 rfl⟩
  ·exact⟨_,_,_,_,true,rfl,.ty _,qh6 z,qa5 _ _ _ (by decide +kernel),h1.val r1 rfl⟩
  ·exact⟨_,_,_,_,false,rfl,.ty _,qh6 z,qa5 _ _ _ (by decide +kernel),h1.val r1 rfl⟩
 |tup ds =>
  rw[q] at w h1
  obtain⟨p,xs,rfl,z,_⟩:=w.tup r1
  cases t
  ·exact⟨_,_,_,_,false,rfl,.ty _,qkc z,qa5 _ _ _ (by decide +kernel),h1.val r1 rfl⟩
  ·exact⟨_,_,_,_,false,rfl,.ty _,qkc z,qa5 _ _ _ (by decide +kernel),h1.val r1 rfl⟩
  ·exact⟨_,_,_,_,false,rfl,.ty _,qkc z,qa5 _ _ _ (by decide +kernel),h1.val r1 rfl⟩
  ·exact⟨_,_,_,_,false,rfl,.ty _,qkc z,qa5 _ _ _ (by decide +kernel),h1.val r1 rfl⟩
  ·exact⟨_,_,_,_,true,rfl,.ty _,qkc z,qa5 _ _ _ (by decide +kernel),h1.val r1 rfl⟩
 |ins c fs=>rw[q] at h1;exact h1.elim
 |exc c fs=>rw[q] at h1;exact h1.elim
theorem qiD:bootBuiltins "isinstance" = some (.builtin "isinstance"):=by decide +kernel
theorem qr2 {a:Expr} {g:List Sl→RE ER} {t:Ty} {p p2 pos:Pos} (hK:X.K=C.G.K) (hg:Gl X "isinstance") (hm:X.mg "isinstance" = none) (hg2:Gl X (tyN t)) (hm2:X.mg (tyN t)=none) (h:PE X a (tE C g))
  (hs:starEach [a,.Name (tyN t) p2] X.env=(false,eval a X.env)::starEach [.Name (tyN t) p2] X.env) (hpl:(backTo pos (starEach [.Name (tyN t) p2] X.env)).any (·.1)=false):PE X (.Call (.Name "isinstance" p) [a,.Name (tyN t) p2] [] pos) (tE C fun ρ=>(g ρ).bind fun x=>qsW x.d t):=
 qal (qgq call_isi qiD (.inl ⟨_,rfl⟩) hg hm (pa_cons h (pa_cons (pe_bltn (v:=.ty (tyS t)) hg2 hm2 (qny t) rfl (qlu t).1 (qlu t).2) pa_nil) hs) (by decide) (by decide) hs hpl) fun σ H Q q=>by rw[hK];exact qsL q
theorem ql1 {P N:Hp} {b:Bool}:∀ys:List Str,RepsB C P N b (ys.map fun z=>.str z.cps.toList) (ys.map V.str)
 |[]=>rfl
 |y::ys=>⟨_,_,rfl,rfl,ql1 ys⟩
def rBm (K:PySem.W.Frag):Bme→V→List V→Hp→VK→Prop
 |.split=>fun x xs H Q=>∃a b,x=.str a∧xs=[.str b]∧(b.length == 0)=false∧a.length+2≤sizeLine∧rNewStrs (Txt.split a b) H Q
 |.join=>fun x xs H Q=>∃a p,∃ys:List Str,x=.str a∧xs=[.ref p]∧(SqL K H p (ys.map V.str)∨SqT K H p (ys.map V.str))∧(ys.map (·.length)).sum+ys.length*a.length≤16777216∧Q (.str (Txt.join a ys)) H
 |.find=>fun x xs H Q=>∃a b,x=.str a∧xs=[.str b]∧Q (.int (Txt.find a b)) H
def bmN:Bme→Str
 |.split=>"split" |.join=>"join" |.find=>"find"
abbrev gBm (m:Bme) (go g:List Sl→RE ER):List Sl→RE ER:=fun ρ=>(go ρ).bind fun x=>match x.d with
  |.str s=>(g ρ).bind fun y=>evM m s y.d
  |_=>.bad
theorem qoD {m:Bme} {go g:List Sl→RE ER} {σ:L2.St} {H:Hp} {Q:VK} (h:tE C (gBm m go g) σ H Q):tM1 (rBm C.G.K m) (tE C go) (tE C g) σ H Q:=by
 obtain⟨ρ,P,N,S,h⟩:=h
 refine⟨ρ,P,N,S,h.bind.mono fun x P1 N1 H1 e1 a1 h1 v rv=>?_⟩
 have r1:=(S.adv a1).reg
 split at h1
 ·rename_i s q
  have w:=rv.w r1
  rw[q] at w
  cases w.str
  refine⟨⟨_,rfl⟩,ρ,P1,N1,S.adv a1,(res.bind h1).mono fun y P2 N2 H2 e2 a2 h2 u ru=>?_⟩
  have r2:=(S.adv (a1.trans a2)).reg
  have w2:=ru.w r2
  cases m with
  |split =>
   simp only[evM,qef,qbu,qat,qbB,qbr,qbC,qbt,qbR,qbA,qbs,qbz] at h2
   split at h2
   ·rename_i t q2
    rw[q2] at w2
    cases w2.str
    split at h2
    ·rename_i hl
     refine⟨_,_,rfl,rfl,?_,?_,fun p hp=>?_⟩
     ·rw[qbE];simpa using hl.1
     ·rw[qbE];exact hl.2
     ·exact h2.fre r2 (a1.trans a2).hh (ql1 _) hp
    ·exact h2.elim
   ·exact h2.elim
  |join =>
   simp only[evM,qef,qbu,qat,qbB,qbr,qbC,qbt,qbR,qbA,qbs,qbz] at h2
   split at h2
   ·rename_i xs q2
    rw[q2] at w2
    obtain⟨p,us,rfl,z1,z2⟩:=w2.lst
    split at h2
    ·rename_i ss q3
     have e:=qja q3 z2
     subst e
     split at h2
     ·rename_i hl
      refine⟨_,p,ss.map qa1,rfl,rfl,.inl z1,?_,h2.val r2 rfl⟩
      have e1:((ss.map qa1).map fun z=>z.length)=ss.map List.length:=by
       rw[List.map_map]
       exact List.map_congr_left fun a _=>qbE a
      rw[e1,List.length_map,qbE]
      exact hl
     ·exact h2.elim
    ·exact h2.elim
   ·exact h2.elim
  |find =>
   simp only[evM,qef,qbu,qat,qbB,qbr,qbC,qbt,qbR,qbA,qbs,qbz] at h2
   split at h2
   ·rename_i t q2
    rw[q2] at w2
    cases w2.str
    exact⟨_,_,rfl,rfl,h2.val r2 rfl⟩
   ·exact h2.elim
 ·exact h1.elim
theorem qtr {m:Bme} {o a:Expr} {go g:List Sl→RE ER} {apos pos:Pos} (hK:X.K=C.G.K) (ho:PE X o (tE C go)) (ha:PE X a (tE C g)) (hs:starEach [a] X.env=[(false,eval a X.env)]) (hbase:attributeBase o (bmN m) X.env (eval o X.env)=eval o X.env) (hline:(apos.endLine == pos.line)=true) :
  PE X (.Call (.Attribute o (bmN m) apos) [a] [] pos) (tE C (gBm m go g)):=by
 cases m with
 |split=>exact qal (pe_m1 PySem.F.slot_str_split PySem.F.type_str_split mt_split ho ha hs hbase hline) fun σ H Q q=>qoD (m:=.split) q
 |join=>exact qal (pe_m1 PySem.F.slot_str_join PySem.F.type_str_join mt_join ho ha hs hbase hline) fun σ H Q q=>by rw[hK];exact qoD (m:=.join) q
 |find=>exact qal (pe_m1 PySem.F.slot_str_find PySem.F.type_str_find mt_find ho ha hs hbase hline) fun σ H Q q=>qoD (m:=.find) q
theorem qlU (a b:Int):rgV a b=(qfN a 1 (b - a).toNat).map V.int:=by
 unfold rgV qfN
 rw[List.map_map]
 exact List.map_congr_left fun i _=>by simp
theorem qnl {g:List Sl→RE ER} {σ:L2.St} {H:Hp} {Q:VK} (h:tE C (fun ρ=>((g ρ).bind fun x=>(RE.ok []).bind fun r=>.ok (x.frz::r)).bind fun r=>(qeF r).bind fun ns=>.ok (.fre (ns.map D.int) true)) σ H Q):tLstRg (tRg1 (tE C g)) σ H Q:=by
 obtain⟨ρ,P,N,S,h⟩:=h
 refine⟨ρ,P,N,S,(res.bind (res.bind h)).mono fun x P1 N1 H1 e1 a1 h1 v rv=>?_⟩
 have r1:=(S.adv a1).reg
 have hd:x.frz.d=x.d:=by cases x<;>rfl
 have h2:res C σ P1 N1 H1 ((qeF [x.frz]).bind fun ns=>.ok (.fre (ns.map D.int) true)) (kE C H Q):=h1.now r1
 unfold qeF at h2
 simp only[hd,qef,qbu,qat,qbB,qbr,qbC,qbt,qbR,qbA,qbs,qbz] at h2
 split at h2
 ·rename_i n q
  have w:=rv.w r1
  rw[q] at w
  split at h2
  ·rename_i hl
   have hl:=qkV hl
   refine⟨n,w.int,⟨by decide,by decide,hl.1.1,hl.1.2,by simpa[LIM] using hl.2⟩,fun p hp=>?_⟩
   rw[qlU,Int.sub_zero]
   exact h2.fre r1 a1.hh (Reps.ints.mpr rfl) hp
  ·exact h2.elim
 ·exact h2.elim
theorem qnu {g g':List Sl→RE ER} {σ:L2.St} {H:Hp} {Q:VK} (h:tE C (fun ρ=>((g ρ).bind fun x=>((g' ρ).bind fun y=>(RE.ok []).bind fun r=>.ok (y.frz::r)).bind fun r=>.ok (x.frz::r)).bind fun r=>(qeF r).bind fun ns=>.ok (.fre (ns.map D.int) true)) σ H Q):tLstRg (tRg2 (tE C g) (tE C g')) σ H Q:=by
 obtain⟨ρ,P,N,S,h⟩:=h
 refine⟨ρ,P,N,S,(res.bind (res.bind h)).mono fun x P1 N1 H1 e1 a1 h1 v rv=>⟨ρ,P1,N1,S.adv a1,(res.bind (res.bind h1)).mono fun y P2 N2 H2 e2 a2 h2 u ru=>?_⟩⟩
 have r2:=(S.adv (a1.trans a2)).reg
 have hd:x.frz.d=x.d:=by cases x<;>rfl
 have hd2:y.frz.d=y.d:=by cases y<;>rfl
 have h3:res C σ P2 N2 H2 ((qeF [x.frz,y.frz]).bind fun ns=>.ok (.fre (ns.map D.int) true)) (kE C H Q):=(h2.now r2).now r2
 unfold qeF at h3
 simp only[hd,hd2,qef,qbu,qat,qbB,qbr,qbC,qbt,qbR,qbA,qbs,qbz] at h3
 split at h3
 ·rename_i i j q q2
  have w:=(rv.adv a2).w r2
  rw[q] at w
  have w2:=ru.w r2
  rw[q2] at w2
  split at h3
  ·rename_i hl
   have hl:=qmW hl
   refine⟨i,j,w.int,w2.int,⟨hl.1.1,hl.1.2,hl.2.1.1,hl.2.1.2,by simpa[LIM] using hl.2.2⟩,fun p hp=>?_⟩
   rw[qlU]
   exact h3.fre r2 (a1.trans a2).hh (Reps.ints.mpr rfl) hp
  ·exact h3.elim
 ·exact h3.elim
end
end Cm
namespace Cm
open PySem PySem.Spec PyProof.Rows L2
variable [HasT]
section
variable {C:Ctx} {X:Cx}
theorem SR.setV {P N H:Hp} {ρ:List Sl} {σ:L2.St} (S:SR C P N H ρ σ) {i:Nat} {d:D} {b:Bool} {v:V} (h:RepB C P N b d v):SR C P N H (ρ.set i (.val d b)) (σ.set i (some v)) where
 reg:=S.reg
 len:=by simp[S.len]
 sl:=fun j s e=>by
  by_cases q:i=j
  ·subst q
   have hi:i<ρ.length:=by
    rcases Nat.lt_or_ge i ρ.length with z | z
    ·exact z
    ·rw[List.getElem?_eq_none (by simpa using z)] at e;cases e
   rw[List.getElem?_set_self hi] at e
   cases e
   exact⟨some v,List.getElem?_set_self (by rw[S.len];exact hi),v,rfl,h⟩
  ·rw[List.getElem?_set_ne q] at e
   rw[List.getElem?_set_ne q]
   exact S.sl j s e
 ap:=fun j k p ds c es c' e1 e2 e3 e4=>by
  by_cases q:i=j
  ·subst q
   rcases Nat.lt_or_ge i ρ.length with z | z
   ·rw[List.getElem?_set_self z] at e1;cases e1
   ·rw[List.getElem?_eq_none (by simpa using z)] at e1;cases e1
  ·by_cases q2:i=k
   ·subst q2
    rcases Nat.lt_or_ge i ρ.length with z | z
    ·rw[List.getElem?_set_self z] at e2;cases e2
    ·rw[List.getElem?_eq_none (by simpa using z)] at e2;cases e2
   ·rw[List.getElem?_set_ne q] at e1 e3
    rw[List.getElem?_set_ne q2] at e2 e4
    exact S.ap j k p ds c es c' e1 e2 e3 e4
 ad:=S.ad.set rfl
 ar:=S.ar.set rfl
def qmb:List Nat→TGs
 |[]=>gNil
 |i::is=>gCons (gName i) (qmb is)
def tG (C:Ctx) (tg:List Nat):TG:=fun v σ H Q=>∃ρ P N d b ρ',SR C P N H ρ σ∧RepB C P N b d v∧qcx tg d b ρ=some ρ'∧∀σ',SR C P N H ρ' σ'→(∀j,j∉tg→σ'[j]? = σ[j]?)→σ'.length=σ.length→Q σ' H
theorem qgV {P N H:Hp} {b:Bool}:∀{tg:List Nat} {ds:List D} {xs:List V} {ρ ρ':List Sl} {σ:L2.St} {Q:L2.St→Hp→Prop},SR C P N H ρ σ→RepsB C P N b ds xs→qkS tg ds b ρ=some ρ' →
  (∀σ',SR C P N H ρ' σ'→(∀j,j∉tg→σ'[j]? = σ[j]?)→σ'.length=σ.length→Q σ' H)→qmb tg xs σ H Q
 |[],[],xs,ρ,ρ',σ,Q,S,h,e,q=>by
  cases h;cases e
  exact⟨rfl,q σ S (fun _ _=>rfl) rfl⟩
 |i::tg,d::ds,xs,ρ,ρ',σ,Q,S,⟨v,r,ex,h1,h2⟩,e,q=>by
  refine⟨v,r,ex,qgV (S.setV (RepB.nf (C:=C) h1)) h2 e fun σ' S' hj hl=>q σ' S' (fun j hj'=>?_) (by rw[hl];simp)⟩
  simp only[List.mem_cons,not_or] at hj'
  rw[hj j hj'.2,List.getElem?_set_ne (fun z=>hj'.1 z.symm)]
 |[],d::ds,xs,ρ,ρ',σ,Q,S,h,e,q=>by cases e
 |i::tg,[],xs,ρ,ρ',σ,Q,S,h,e,q=>by cases e
theorem qmV {t:Expr} {g g':TG} (h:PG X t g) (f:∀v σ H Q,g' v σ H Q→g v σ H Q):PG X t g':=⟨fun pins s σ H v u Q I r q=>h.run pins s σ H v u Q I r (f _ _ _ _ q)⟩
theorem qo5 {i:Nat} {x:Str} {pos:Pos} (hN:X.N.Nodup) (hi:X.N[i]? = some x) (hx:Loc X.env.scope x) (hf:X.fn x=true∨X.env.scope.names.lookup x=some .local):PG X (.Name x pos) (tG C [i]):=
 qmV (pg_name hN hi hx hf) fun v σ H Q q=>by
  obtain⟨ρ,P,N,d,b,ρ',S,h,e,q⟩:=q
  cases e
  refine q _ (S.setV (RepB.nf (C:=C) h)) (fun j hj=>?_) (by simp)
  rw[List.getElem?_set_ne (fun z=>hj (by simp[z]))]
def qwY (K:PySem.W.Frag) (n:Nat) (t:TGs):TG:=fun v σ H Q=>∃a xs,v=.ref a∧SqL K H a xs∧xs.length=n∧t xs σ H Q
theorem qt2 {es:List Expr} {k:Nat} {t:TGs} {n:Nat} {pos:Pos} (hc:X.calm=true) (h:PGs X es t) (hn:(assignEach es X.env).length=n) (hst:(assignEach es X.env).findIdx? (·.1)=none):PG X (.Tuple es k pos) (qwY X.K n t):=by
 refine⟨fun pins s σ H v u Q I r hw=>?_⟩
 obtain⟨a,xs,e1,hq,hl,hw⟩:=hw
 subst e1
 cases r
 obtain⟨its,rv,p,hz⟩:=I.list hq
 rw[assign_Tuple]
 refine wpAny_bind (wpAny_standAt ?_)
 unfold unpack
 rw[show(assignEach es X.env).length=its.toArray.size by rw[hn,←hl,List.size_toArray,rv.length],hst]
 refine wpAny_bind (wpAny_holding (PySem.W.kun_itemsOf (I.ok.hd hc) p.isList fun h' hx=>?_))
 have I1:Inv X pins σ H { s with heap:=h' }:=I.kept (t':=s.toks) fun b o e=>hx b o (Nat.ne_of_lt (Heap.lt_size e)) e
 exact h.run pins _ σ H xs _ Q I1 (by simpa using rv) hw
theorem qu9 {t:Expr} {g g':TG} (h:PG X t g) (h':PG X t g'):PG X t (fun v σ H Q=>g v σ H Q∨g' v σ H Q):=⟨fun pins s σ H v u Q I r q=>by
 rcases q with q | q
 ·exact h.run pins s σ H v u Q I r q
 ·exact h'.run pins s σ H v u Q I r q⟩
theorem qr7 {es:List Expr} {k:Nat} {tg:List Nat} {pos:Pos} (hK:X.K=C.G.K) (hc:X.calm=true) (h:PGs X es (qmb tg)) (hl:es.length=tg.length) (h2:tg.length≠1) (hn:(assignEach es X.env).length=es.length) (hst:(assignEach es X.env).findIdx? (·.1)=none):PG X (.Tuple es k pos) (tG C tg):=
 qmV (qu9 (pg_tup hc h rfl hst) (qt2 hc h rfl hst)) fun v σ H Q q=>by
  obtain⟨ρ,P,N,d,b,ρ',S,h,e,q⟩:=q
  have e':∃ds,(d=.tup ds∨d=.lst ds)∧qkS tg ds b ρ=some ρ':=by
   unfold qcx at e
   split at e
   ·exact absurd rfl h2
   ·split at e
    ·exact⟨_,.inl rfl,e⟩
    ·exact⟨_,.inr rfl,e⟩
    ·cases e
  clear e
  obtain⟨ds,hd,e⟩:=e'
  have hlen:∀{tg:List Nat} {ds:List D} {ρ:List Sl},qkS tg ds b ρ=some ρ'→ds.length=tg.length:=by
   intro tg
   induction tg with
   |nil=>intro ds ρ e;cases ds with
    |nil=>rfl
    |cons _ _=>cases e
   |cons i tg ih=>intro ds ρ e;cases ds with
    |nil=>cases e
    |cons d ds=>simp only[List.length_cons];rw[ih e]
  rcases hd with rfl | rfl
  ·obtain⟨a,xs,rfl,z1,z2⟩:=h
   refine .inl ⟨a,xs,rfl,hK ▸ Same.seqT S.reg.pH z1,?_,qgV S z2 e q⟩
   rw[z2.length,hlen e,hn,hl]
  ·obtain⟨a,xs,rfl,z1,z2⟩:=h
   refine .inr ⟨a,xs,rfl,hK ▸ LNb.seq S.reg.pH S.reg.nH S.reg.rH _ _ z1,?_,qgV S z2 e q⟩
   rw[z2.length,hlen e,hn,hl]
def Wok (C:Ctx) (P N H:Hp) (w:Wk) (J:It):Prop:=
 ∃(Gd:Hp→Prop) (Y:Nat→Hp→V→Hp→Prop),Walk J w.xs.length Gd Y∧(∀H2,Cm.Same H H2→Gd H2)∧(w.own=false→∀P2 N2 H2,Cm.Same P P2→Cm.Same N N2→Reg C P2 N2 H2→Gd H2) ∧
  ∀i P2 N2 H2 x H3,i<w.xs.length→Cm.Same P P2→Cm.Same N N2→Reg C P2 N2 H2→Y i H2 x H3→∃P3,Adv P2 N2 H2 P3 N2 H3∧∃d,w.xs[i]? = some d∧RepB C P3 N2 w.b d x
def tI (C:Ctx) (g:List Sl→RE Wk):TI:=fun σ H R=>∃ρ P N,SR C P N H ρ σ∧res C σ P N H (g ρ) fun w P' N' H'=>∀J,Wok C P' N' H' w J→R J H'
theorem qed {tg e:Expr} {t u:TI} (h:PI X tg e t) (f:∀σ H R,u σ H R→t σ H R):PI X tg e u:=⟨fun pins s σ H R I q=>h.run pins s σ H R I (f _ _ _ q)⟩
theorem qpN {P N H:Hp} {er:ER} {ds:List D} {p:Addr} {xs:List V} (r:Reg C P N H) (hd:er.d=.lst ds) {H0:Hp} (h:ERr C P N H H0 er.frz (.ref p)) (h2:SqL C.G.K H p xs) (h3:RepsB C P N er.b ds xs) (hs:er.frz.isB=false→LNb C.G.K P N C.R er.b p xs):Wok C P N H ⟨ds,er.b,er.frz.isB⟩ (Itl C.G.K p):=by
 refine⟨fun H=>SqL C.G.K H p xs,YAt xs,?_,fun H2 e=>Cm.Same.seq e h2,fun e P2 N2 H2 e1 e2 r2=>?_,fun i P2 N2 H2 x H3 hi e1 e2 r2 y=>?_⟩
 ·have:=walk_list (K:=C.G.K) (a:=p) (xs:=xs)
  rw[h3.length] at this
  exact this
 ·exact LNb.seq r2.pH r2.nH r2.rH _ _ (LNb.mono e1 e2 _ _ (hs e))
 ·obtain⟨rfl,e⟩:=y
  refine⟨P2,Adv.refl r2.pH r2.nH,ds[i]'hi,by simp,?_⟩
  obtain⟨v,q1,q2⟩:=Reps.get h3 (List.getElem?_eq_getElem hi)
  rw[q1] at e;cases e
  exact RepB.adv e1 e2 q2
theorem ERr.frz_lst {P N H H0:Hp} (r:Reg C P N H) {er:ER} {ds:List D} {v:V} (hd:er.d=.lst ds) (h:ERr C P N H H0 er.frz v):∃p xs,v=.ref p∧SqL C.G.K H p xs∧RepsB C P N er.b ds xs∧(er.frz.isB=false→LNb C.G.K P N C.R er.b p xs):=by
 cases er with
 |val d b =>
  have hd:d=.lst ds:=hd
  subst hd
  obtain⟨p,xs,e,h1,h2⟩:=h
  exact⟨p,xs,e,LNb.seq r.pH r.nH r.rH _ _ h1,h2,fun _=>h1⟩
 |fre d b =>
  have hd:D.lst d=.lst ds:=hd
  cases hd
  obtain⟨p,xs,e,h1,h2⟩:=h
  exact⟨p,xs,e,LNb.seq r.pH r.nH r.rH _ _ h1,h2,fun _=>h1⟩
 |brw d b =>
  have hd:D.lst d=.lst ds:=hd
  cases hd
  obtain⟨p,xs,e,h1,_,_,_,h2⟩:=h
  exact⟨p,xs,e,.inl (.inl h1),h2,fun z=>by cases z⟩
theorem qtJ (er:ER):er.frz.d=er.d:=by cases er<;>rfl
theorem qvb (er:ER):er.frz.b=er.b:=by cases er<;>rfl
theorem qgO (er:ER):er.frz.isB=er.isB:=by cases er<;>rfl
def qvh (K:PySem.W.Frag) (t:TE):TI:=fun σ H R=>t σ H fun v H1=>((∃a,v=.ref a∧(∃xs,SqL K H1 a xs)∧R (Itl K a) H1)∨(∃a,v=.ref a∧(∃xs,SqT K H1 a xs)∧R (Itt K a) H1))∨∃x,v=.str x∧R (Its x) H1
theorem qqA {tg e:Expr} {t:TE} (h:PE X e t):PI X tg e (qvh X.K t):=by
 refine⟨fun pins s σ H R I q=>?_⟩
 refine thn (h.run pins s σ H _ I q) fun v s1 ⟨x,H1,I1,r1,q1⟩=>?_
 rcases q1 with(⟨a,e,⟨xs,sq⟩,q⟩ | ⟨a,e,⟨xs,sq⟩,q⟩) | ⟨z,e,q⟩
 ·subst e
  cases r1
  obtain⟨vl,rw0,p,zl⟩:=I1.list sq
  refine wpAny_pyIter_list p.isList ?_
  refine⟨s1.heap.objs.size,[s1.heap.objs.size],_,_,H1,rfl,I1.kept (t':=s1.toks) fun b o e=>Heap.get?_push_of_some _ e,turn_list a _,⟨_,Heap.get?_push_size _ rfl,rfl,rfl⟩,fun b hb0=>?_,q⟩
  have eb:b=s1.heap.objs.size:=by simpa using hb0
  subst eb
  exact I1.fpOk (Nat.le_refl s1.heap.objs.size) (I1.hok.fresh (Nat.le_refl s1.heap.objs.size))
 ·subst e
  cases r1
  obtain⟨vl,rw0,p,zl⟩:=I1.tuple sq
  refine wpAny_pyIter_tuple (show s1.heap.IsTuple a vl.toArray from p) ?_
  refine⟨s1.heap.objs.size,[s1.heap.objs.size],_,_,H1,rfl,I1.kept (t':=s1.toks) fun b o e=>Heap.get?_push_of_some _ e,turn_tuple a _,⟨_,Heap.get?_push_size _ rfl,rfl,rfl⟩,fun b hb0=>?_,q⟩
  have eb:b=s1.heap.objs.size:=by simpa using hb0
  subst eb
  exact I1.fpOk (Nat.le_refl s1.heap.objs.size) (I1.hok.fresh (Nat.le_refl s1.heap.objs.size))
 ·subst e
  obtain⟨t,rfl⟩:=r1
  cases ha:z.cps.all (· < 128)
  ·exact wpAny_pyIter_wide ha (pi_one (tk:=s1.toks) I1 _ (turn_str _ z t "str_iterator" (.inr rfl)) ⟨_,Heap.get?_push_size _ rfl,rfl,rfl⟩ q)
  ·exact wpAny_pyIter_ascii ha (pi_one (tk:=s1.toks) I1 _ (turn_str _ z t "str_ascii_iterator" (.inl rfl)) ⟨_,Heap.get?_push_size _ rfl,rfl,rfl⟩ q)
theorem qsd {g:List Sl→RE ER} {σ:L2.St} {H:Hp} {R:It→Hp→Prop} (h:tI C (fun ρ=>(g ρ).bind qir) σ H R):qvh C.G.K (tE C g) σ H R:=by
 obtain⟨ρ,P,N,S,h⟩:=h
 refine⟨ρ,P,N,S,h.bind.mono fun x P1 N1 H1 e1 a1 h1 v rv=>?_⟩
 obtain⟨N2,a2,rv⟩:=rv.freeze a1
 have r2:=(S.adv a2).reg
 have h2:res C σ P1 N2 H1 (qir x) fun w P' N' H'=>∀J,Wok C P' N' H' w J→R J H':=by
  simp only[e1,RE.bind_ok] at h
  exact res.adv a2 h
 unfold qir at h2
 split at h2
 ·rename_i ds q
  obtain⟨p,xs,rfl,z1,z2,z3⟩:=rv.frz_lst r2 q
  have:=qpN r2 q rv z1 z2 z3
  rw[qgO] at this
  exact .inl (.inl ⟨p,rfl,⟨xs,z1⟩,h2.now r2 _ this⟩)
 ·rename_i ds q
  have w:=rv.w r2
  rw[qtJ,q] at w
  have w0:=w
  obtain⟨p,xs,rfl,z1,z2⟩:=w
  rw[qvb] at z2
  refine .inl (.inr ⟨p,rfl,⟨xs,Same.seqT r2.pH z1⟩,h2.now r2 _ ⟨fun H=>SqT C.G.K H p xs,YAt xs,?_,fun H2 e=>Same.seqT (r2.pH.trans e) z1,fun _ P2 N2 H2 e1 e2 r3=>Same.seqT (e1.trans r3.pH) z1,fun i P2 N2 H2 x H3 hi e1 e2 r2 y=>?_⟩⟩)
  ·have:=walk_tup (K:=C.G.K) (a:=p) (xs:=xs)
   rw[z2.length] at this
   exact this
  ·obtain⟨rfl,e⟩:=y
   refine⟨P2,Adv.refl r2.pH r2.nH,ds[i]'hi,by simp,?_⟩
   obtain⟨v,q1,q2⟩:=Reps.get z2 (List.getElem?_eq_getElem hi)
   rw[q1] at e;cases e
   exact RepB.adv e1 e2 q2
 ·rename_i s q
  have w:=rv.w r2
  rw[qtJ,q] at w
  cases w.str
  refine .inr ⟨_,rfl,h2.now r2 _ ⟨fun _=>True,fun i H v H'=>H'=H∧∃c,s[i]? = some c∧v=.str ⟨#[c]⟩,?_,fun _ _=>trivial,fun _ _ _ _ _ _ _=>trivial,fun i P2 N2 H2 x H3 hi e1 e2 r2 y=>?_⟩⟩
  ·have:=walk_str (z:=(⟨s.toArray⟩:Str))
   simpa using this
  ·obtain⟨rfl,c,e,rfl⟩:=y
   refine⟨P2,Adv.refl r2.pH r2.nH,.str [c],?_,rfl⟩
   simp[e]
 ·exact h2.elim
theorem qsm {tg e:Expr} {g:List Sl→RE ER} (hK:X.K=C.G.K) (h:PE X e (tE C g)):PI X tg e (tI C fun ρ=>(g ρ).bind qir):=
 qed (qqA h) fun σ H R q=>by rw[hK];exact qsd q
theorem qoa {P N H:Hp} (i:Int) (n:Nat):Wok C P N H ⟨(qfN i 1 n).map D.int,true,false⟩ (Itr i n):=by
 refine⟨fun _=>True,YFn fun k=>.int (i+k),?_,fun _ _=>trivial,fun _ _ _ _ _ _ _=>trivial,fun k P2 N2 H2 x H3 hi e1 e2 r2 y=>?_⟩
 ·have:=walk_range (lo:=i) (n:=n)
  simpa[qfN] using this
 ·obtain⟨rfl,rfl⟩:=y
  have hk:k<n:=by simpa[qfN] using hi
  refine⟨P2,Adv.refl r2.pH r2.nH,.int (i+k),?_,rfl⟩
  simp[qfN,hk]
theorem qlz {P N H:Hp} (i c:Int) (n:Nat):Wok C P N H ⟨(qfN i c n).map D.int,true,false⟩ (Itc i c n):=by
 refine⟨fun _=>True,YFn fun k=>.int (i+(k:Nat)*c),?_,fun _ _=>trivial,fun _ _ _ _ _ _ _=>trivial,fun k P2 N2 H2 x H3 hi e1 e2 r2 y=>?_⟩
 ·have:=walk_rangeC (lo:=i) (c:=c) (n:=n)
  simpa[qfN] using this
 ·obtain⟨rfl,rfl⟩:=y
  have hk:k<n:=by simpa[qfN] using hi
  refine⟨P2,Adv.refl r2.pH r2.nH,.int (i+k*c),?_,rfl⟩
  simp[qfN,hk]
abbrev qvE (g:List Sl→RE (List ER)):List Sl→RE Wk:=fun ρ=>(g ρ).bind fun r=>(qeF r).bind fun ns=>.ok ⟨ns.map D.int,true,false⟩
theorem qpo {tg a:Expr} {g:List Sl→RE (List ER)} {p pos:Pos} (hg:Gl X "range") (hm:X.mg "range" = none) (ha:PA X [a] (tA C g)) (hl:∀ρ r,g ρ=.ok r→r.length=1) (hs:starEach [a] X.env=[(false,eval a X.env)]):PI X tg (.Call (.Name "range" p) [a] [] pos) (tI C (qvE g)):=
 qed (pi_range1 hg hm ha hs) fun σ H R q=>by
  obtain⟨ρ,P,N,S,h⟩:=q
  refine⟨ρ,P,N,S,h.bind.mono fun r P1 N1 H1 e1 a1 h1 vs rv=>?_⟩
  have r1:=(S.adv a1).reg
  match r,hl _ _ e1,rv,h1 with
  |[x],_,rv,h1 =>
   obtain⟨v,u,rfl,w,rv⟩:=rv.w r1
   cases rv
   simp only[qeF,qef,qbu,qat,qbB,qbr,qbC,qbt,qbR,qbA,qbs,qbz] at h1
   split at h1
   ·rename_i n q
    rw[q] at w
    split at h1
    ·rename_i hl
     have hl:=qkV hl
     refine⟨n,by rw[w.int],hl.1.1,hl.1.2,?_⟩
     exact h1.now r1 _ (qoa 0 n.toNat)
    ·exact h1.elim
   ·exact h1.elim
theorem qp5 {tg a b:Expr} {g:List Sl→RE (List ER)} {p pos:Pos} (hg:Gl X "range") (hm:X.mg "range" = none) (ha:PA X [a,b] (tA C g)) (hl:∀ρ r,g ρ=.ok r→r.length=2) (hs:starEach [a,b] X.env=[(false,eval a X.env),(false,eval b X.env)]) (hs2:starEach [b] X.env=[(false,eval b X.env)]) :
  PI X tg (.Call (.Name "range" p) [a,b] [] pos) (tI C (qvE g)):=
 qed (pi_range2 hg hm ha hs hs2) fun σ H R q=>by
  obtain⟨ρ,P,N,S,h⟩:=q
  refine⟨ρ,P,N,S,h.bind.mono fun r P1 N1 H1 e1 a1 h1 vs rv=>?_⟩
  have r1:=(S.adv a1).reg
  match r,hl _ _ e1,rv,h1 with
  |[x,y],_,rv,h1 =>
   obtain⟨v,u,rfl,w,rv⟩:=rv.w r1
   obtain⟨v2,u2,rfl,w2,rv⟩:=rv.w r1
   cases rv
   simp only[qeF,qef,qbu,qat,qbB,qbr,qbC,qbt,qbR,qbA,qbs,qbz] at h1
   split at h1
   ·rename_i i j q q2
    rw[q] at w
    rw[q2] at w2
    split at h1
    ·rename_i hl
     have hl:=qmW hl
     refine⟨i,j,by rw[w.int,w2.int],⟨hl.1.1,hl.1.2,hl.2.1.1,hl.2.1.2⟩,?_⟩
     exact h1.now r1 _ (qoa i (j - i).toNat)
    ·exact h1.elim
   ·exact h1.elim
theorem qrc {tg a:Expr} {g:List Sl→RE ER} {p p2 pos pos2:Pos} (hg:Gl X "reversed") (hm:X.mg "reversed" = none) (hg2:Gl X "range") (hm2:X.mg "range" = none) (ha:PE X a (tE C g)) (hs:starEach [a] X.env=[(false,eval a X.env)]) :
  PI X tg (.Call (.Name "reversed" p2) [.Call (.Name "range" p) [a] [] pos] [] pos2) (tI C fun ρ=>(g ρ).bind fun x=>match x.d with
  |.int n=>gd (qmE n) (.ok ⟨(qfN (0+(((n - 0).toNat:Nat):Int) - 1) (-1) (n - 0).toNat).map D.int,true,false⟩)
  |_=>.bad):=
 qed (pi_revR hg hm (prg_1 hg2 hm2 ha hs)) fun σ H R q=>by
  obtain⟨ρ,P,N,S,h⟩:=q
  refine⟨ρ,P,N,S,h.bind.mono fun x P1 N1 H1 e1 a1 h1 v rv=>?_⟩
  have r1:=(S.adv a1).reg
  split at h1
  ·rename_i n q
   have w:=rv.w r1
   rw[q] at w
   simp only[qef] at h1
   split at h1
   ·rename_i hl
    have hl:=qkV hl
    refine⟨n,w.int,by decide,by decide,hl.1.1,hl.1.2,?_⟩
    exact h1.now r1 _ (qlz _ (-1) _)
   ·exact h1.elim
  ·exact h1.elim
theorem quL {i j c:Int} (h:c≠0∧c.natAbs<1073741824∧Builtin.Range.small i j c=true∧0≤Builtin.Range.rangeSize i j c∧qsY i j c≤LIM):RgC i j c (qsY i j c):=
 ⟨h.1,h.2.1,h.2.2.1,(Int.toNat_of_nonneg h.2.2.2.1).symm⟩
theorem qpI {tg a b c:Expr} {g:List Sl→RE (List ER)} {p pos:Pos} (hg:Gl X "range") (hm:X.mg "range" = none) (ha:PA X [a,b,c] (tA C g)) (hl:∀ρ r,g ρ=.ok r→r.length=3) (hs:starEach [a,b,c] X.env=(false,eval a X.env)::starEach [b,c] X.env) (hpl:(backTo pos (starEach [b,c] X.env)).any (·.1)=false) :
  PI X tg (.Call (.Name "range" p) [a,b,c] [] pos) (tI C (qvE g)):=
 qed (pi_range3 hg hm ha hs hpl) fun σ H R q=>by
  obtain⟨ρ,P,N,S,h⟩:=q
  refine⟨ρ,P,N,S,h.bind.mono fun r P1 N1 H1 e1 a1 h1 vs rv=>?_⟩
  have r1:=(S.adv a1).reg
  match r,hl _ _ e1,rv,h1 with
  |[x,y,z],_,rv,h1 =>
   obtain⟨v,u,rfl,w,rv⟩:=rv.w r1
   obtain⟨v2,u2,rfl,w2,rv⟩:=rv.w r1
   obtain⟨v3,u3,rfl,w3,rv⟩:=rv.w r1
   cases rv
   simp only[qeF,qef,qbu,qat,qbB,qbr,qbC,qbt,qbR,qbA,qbs,qbz] at h1
   split at h1
   ·rename_i i j c q q2 q3
    rw[q] at w
    rw[q2] at w2
    rw[q3] at w3
    split at h1
    ·rename_i hl
     exact⟨i,j,c,_,by rw[w.int,w2.int,w3.int],quL hl,h1.now r1 _ (qlz i c _)⟩
    ·exact h1.elim
   ·exact h1.elim
theorem ql5 {P N H H':Hp} (r:Reg C P N H) {T:Addr} {x y:V} {d e:D} {b:Bool} (hT:H T=none) (eH:H'=upd H T (.tup [x,y])) (h:RepB C P N b d x) (h':RepB C P N b e y):∃P3,Adv P N H P3 N H'∧RepB C P3 N b (.tup [d,e]) (.ref T):=by
 subst eH
 have sp:=qfa (o:=.tup [x,y]) (r.pH.free hT)
 exact⟨upd P T (.tup [x,y]),(Adv.refl r.pH r.nH).newP hT,T,[x,y],rfl,.inl (.inl upd_same),x,[y],rfl,RepB.adv sp (Cm.Same.refl _) h,y,[],rfl,RepB.adv sp (Cm.Same.refl _) h',rfl⟩
theorem quD {a:Expr} {elts:List Expr} {kk:Nat} {g:List Sl→RE ER} {p pos tpos:Pos} (hK:X.K=C.G.K) (hg:Gl X "enumerate") (hm:X.mg "enumerate" = none) (h:PE X a (tE C g)) (hs:starEach [a] X.env=[(false,eval a X.env)]) :
  PI X (.Tuple elts kk tpos) (.Call (.Name "enumerate" p) [a] [] pos) (tI C fun ρ=>(g ρ).bind fun x=>match x.d with
  |.lst xs=>.ok ⟨xs.zipIdx.map fun p=>.tup [.int p.2,p.1],x.b,x.isB⟩
  |_=>.bad):=
 qed (pi_enum hg hm (pa_cons h pa_nil hs) hs) fun σ H R q=>by
  rw[hK]
  obtain⟨ρ,P,N,S,h⟩:=q
  refine⟨ρ,P,N,S,h.bind.mono fun x P1 N1 H1 e1 a1 h1 v rv=>?_⟩
  obtain⟨N2,a2,rv⟩:=rv.freeze a1
  have r2:=(S.adv a2).reg
  cases q:x.d with
  |lst ds =>
   simp only[e1,RE.bind_ok,q] at h
   have h2:=res.adv a2 h
   obtain⟨p,xs,rfl,z1,z2,z3⟩:=rv.frz_lst r2 q
   refine⟨p,xs,rfl,z1,h2.now r2 _ ⟨fun H=>SqL C.G.K H p xs,YPair (fun i=>some (.int (i:Nat))) (fun i=>xs[i]?),?_,fun H2 e=>Cm.Same.seq e z1,fun e P2 N2 H2 e1 e2 r2=>?_,fun i P2 N2 H2 x H3 hi e1 e2 r2 y=>?_⟩⟩
   ·have:=walk_enum (K:=C.G.K) (a:=p) (xs:=xs)
    rw[z2.length] at this
    simpa using this
   ·exact LNb.seq r2.pH r2.nH r2.rH _ _ (LNb.mono e1 e2 _ _ (z3 (by rw[qgO];exact e)))
   ·obtain⟨T,x,y,rfl,hT,eH,ex,ey⟩:=y
    cases ex
    have hi:i<ds.length:=by simpa using hi
    obtain⟨v,q1,q2⟩:=Reps.get z2 (List.getElem?_eq_getElem hi)
    replace ey:xs[i]? = some y:=ey
    rw[q1] at ey;cases ey
    obtain⟨P3,q3,q4⟩:=ql5 r2 hT eH (d:=.int i) rfl (RepB.adv e1 e2 q2)
    exact⟨P3,q3,_,by simp[hi],q4⟩
  |_=>simp only[q] at h1;exact h1.elim
theorem quk {tg a:Expr} {g:List Sl→RE ER} {p pos:Pos} (hK:X.K=C.G.K) (hg:Gl X "reversed") (hm:X.mg "reversed" = none) (h:PE X a (tE C g)) (hs:starEach [a] X.env=[(false,eval a X.env)]) :
  PI X tg (.Call (.Name "reversed" p) [a] [] pos) (tI C fun ρ=>(g ρ).bind fun x=>match x.d with
  |.lst xs=>.ok ⟨xs.reverse,x.b,x.isB⟩
  |_=>.bad):=
 qed (pi_reversed hg hm (pa_cons h pa_nil hs) hs) fun σ H R q=>by
  rw[hK]
  obtain⟨ρ,P,N,S,h⟩:=q
  refine⟨ρ,P,N,S,h.bind.mono fun x P1 N1 H1 e1 a1 h1 v rv=>?_⟩
  obtain⟨N2,a2,rv⟩:=rv.freeze a1
  have r2:=(S.adv a2).reg
  cases q:x.d with
  |lst ds =>
   simp only[e1,RE.bind_ok,q] at h
   have h2:=res.adv a2 h
   obtain⟨p,xs,rfl,z1,z2,z3⟩:=rv.frz_lst r2 q
   refine⟨p,xs,rfl,z1,h2.now r2 _ ⟨fun H=>SqL C.G.K H p xs,fun i H x H'=>H'=H∧xs[xs.length - 1 - i]? = some x,?_,fun H2 e=>Cm.Same.seq e z1,fun e P2 N2 H2 e1 e2 r2=>?_,fun i P2 N2 H2 x H3 hi e1 e2 r2 y=>?_⟩⟩
   ·have:=walk_rev (K:=C.G.K) (a:=p) (xs:=xs)
    have e:=z2.length
    simp only[List.length_reverse]
    rw[←e]
    exact this
   ·exact LNb.seq r2.pH r2.nH r2.rH _ _ (LNb.mono e1 e2 _ _ (z3 (by rw[qgO];exact e)))
   ·obtain⟨rfl,ex⟩:=y
    have hi:i<ds.length:=by simpa using hi
    have hj:ds.length - 1 - i<ds.length:=by omega
    rw[z2.length] at ex
    obtain⟨v,q1,q2⟩:=Reps.get z2 (List.getElem?_eq_getElem hj)
    rw[q1] at ex;cases ex
    refine⟨P2,Adv.refl r2.pH r2.nH,_,?_,RepB.adv e1 e2 q2⟩
    rw[List.getElem?_reverse hi,List.getElem?_eq_getElem]
  |_=>simp only[q] at h1;exact h1.elim
theorem qtb {a a':Expr} {elts:List Expr} {kk:Nat} {g g':List Sl→RE ER} {p pos tpos:Pos} (hK:X.K=C.G.K) (hg:Gl X "zip") (hm:X.mg "zip" = none) (h:PE X a (tE C g)) (h':PE X a' (tE C g')) (hs:starEach [a,a'] X.env=(false,eval a X.env)::starEach [a'] X.env) (hs2:starEach [a'] X.env=[(false,eval a' X.env)]) (hpl:(backTo pos (starEach [a'] X.env)).any (·.1)=false) :
  PI X (.Tuple elts kk tpos) (.Call (.Name "zip" p) [a,a'] [] pos) (tI C fun ρ=>(g ρ).bind fun x=>(g' ρ).bind fun y=>match x.d,y.d with
  |.lst xs,.lst ys=>.ok ⟨List.zipWith (fun u v=>.tup [u,v]) xs ys,x.b&&y.b,x.isB||y.isB⟩
  |_,_=>.bad):=
 qed (pi_zip hg hm (pa_cons h (pa_cons h' pa_nil hs2) hs) hs hpl) fun σ H R q=>by
  rw[hK]
  obtain⟨ρ,P,N,S,h⟩:=q
  refine⟨ρ,P,N,S,h.bind.mono fun x P1 N1 H1 e1 a1 h1 v rv=>?_⟩
  obtain⟨N2,a2,rv⟩:=rv.freeze a1
  simp only[e1,RE.bind_ok] at h
  have h2:=res.adv a2 h
  refine⟨ρ,P1,N2,S.adv a2,(res.bind h2).mono fun y P3 N3 H3 e3 a3 h3 u ru=>?_⟩
  obtain⟨N4,a4,ru⟩:=ru.freeze a3
  have r4:=((S.adv a2).adv a4).reg
  simp only[e3,RE.bind_ok] at h2
  have h4:=res.adv a4 h2
  have rv4:=rv.adv a4
  split at h4
  ·rename_i ds es q q2
   obtain⟨p,xs,rfl,z1,z2,z3⟩:=rv4.frz_lst r4 q
   obtain⟨p2,ys,rfl,y1,y2,y3⟩:=ru.frz_lst r4 q2
   refine⟨p,p2,xs,ys,rfl,z1,y1,h4.now r4 _ ⟨fun H=>SqL C.G.K H p xs∧SqL C.G.K H p2 ys,YPair (fun i=>xs[i]?) (fun i=>ys[i]?),?_,fun H2 e=>⟨Cm.Same.seq e z1,Cm.Same.seq e y1⟩,fun e P2 N2 H2 e1 e2 r2=>?_,fun i P2 N2 H2 x H3 hi e1 e2 r2 y=>?_⟩⟩
   ·have:=walk_zip (K:=C.G.K) (a:=p) (b:=p2) (xs:=xs) (ys:=ys) rfl
    rw[z2.length,y2.length] at this
    simpa using this
   ·simp only[Bool.or_eq_false_iff] at e
    exact⟨LNb.seq r2.pH r2.nH r2.rH _ _ (LNb.mono e1 e2 _ _ (z3 (by rw[qgO];exact e.1))),LNb.seq r2.pH r2.nH r2.rH _ _ (LNb.mono e1 e2 _ _ (y3 (by rw[qgO];exact e.2)))⟩
   ·obtain⟨T,x,y,rfl,hT,eH,ex,ey⟩:=y
    have hi':i<ds.length∧i<es.length:=by
     have:i<min ds.length es.length:=by simpa using hi
     omega
    replace ex:xs[i]? = some x:=ex
    replace ey:ys[i]? = some y:=ey
    obtain⟨v,q1,q2⟩:=Reps.get z2 (List.getElem?_eq_getElem hi'.1)
    rw[q1] at ex;cases ex
    obtain⟨v,q5,q6⟩:=Reps.get y2 (List.getElem?_eq_getElem hi'.2)
    rw[q5] at ey;cases ey
    obtain⟨P3,q3,q4⟩:=ql5 r2 hT eH (RepB.adv e1 e2 (RepB.and1 q2)) (RepB.adv e1 e2 (RepB.and2 q6))
    exact⟨P3,q3,_,by rw[List.getElem?_zipWith,List.getElem?_eq_getElem hi'.1,List.getElem?_eq_getElem hi'.2],q4⟩
  ·exact h4.elim
end
end Cm
namespace Cm
open PySem PySem.Spec PyProof.Rows L2
variable [HasT]
def Ctx.nx (C:Ctx):Ctx:={ C with W:=fun _ _ _ _=>False }
section
variable {C:Ctx} {X:Cx}
theorem Reg.nx {P N H:Hp} (r:Reg C P N H):Reg C.nx P N H:=⟨r.pH,r.nH,r.bH,r.rB,r.p0,r.pn,r.nw,r.dj,r.tb,r.tf⟩
theorem Reg.unx {P N H:Hp} (r:Reg C.nx P N H):Reg C P N H:=⟨r.pH,r.nH,r.bH,r.rB,r.p0,r.pn,r.nw,r.dj,r.tb,r.tf⟩
theorem SlR.nx {P N H:Hp} {s:Sl} {o:Option V} (h:SlR C P N H s o):SlR C.nx P N H s o:=by cases s<;>exact h
theorem SR.nx {P N H:Hp} {ρ:List Sl} {σ:L2.St} (S:SR C P N H ρ σ):SR C.nx P N H ρ σ:=⟨S.reg.nx,S.len,fun i s e=>by
 obtain⟨o,h1,h2⟩:=S.sl i s e
 exact⟨o,h1,h2.nx⟩,S.ap,S.ad,S.ar⟩
theorem ERr.unx {P N H H0:Hp} {er:ER} {v:V} (h:ERr C.nx P N H H0 er v):ERr C P N H H0 er v:=by cases er<;>exact h
theorem qb3 {σ:L2.St}:∀{vs:List Nat} {j:Nat},j∉vs→(wipe σ vs)[j]? = σ[j]?
 |[],_,_=>rfl
 |v::vs,j,h=>by
  simp only[List.mem_cons,not_or] at h
  unfold wipe
  rw[List.getElem?_set_ne (fun z=>h.1 z.symm)]
  exact qb3 h.2
theorem qk9 {σ:L2.St}:∀{vs:List Nat} {j:Nat},j∈vs→j<σ.length→(wipe σ vs)[j]? = some none
 |v::vs,j,h,hj=>by
  unfold wipe
  by_cases q:v=j
  ·subst q
   rw[List.getElem?_set_self (by rw[wipe_length];exact hj)]
  ·rw[List.getElem?_set_ne q]
   rcases List.mem_cons.mp h with h | h
   ·exact absurd h.symm q
   ·exact qk9 h hj
theorem qkU {σ σ':L2.St} {vs:List Nat} (hl:σ'.length=σ.length) (h:∀j,j∉vs→σ'[j]? = σ[j]?):wipe σ' vs=wipe σ vs:=by
 apply List.ext_getElem?
 intro j
 by_cases q:j∈vs
 ·by_cases hj:j<σ.length
  ·rw[qk9 q hj,qk9 q (by rw[hl];exact hj)]
  ·rw[List.getElem?_eq_none (by rw[wipe_length];omega),List.getElem?_eq_none (by rw[wipe_length];omega)]
 ·rw[qb3 q,qb3 q,h j q]
theorem qjs {σ:L2.St} {vs:List Nat}:wipe (wipe σ vs) vs=wipe σ vs:=by
 refine qkU (wipe_length _ _) fun j h=>qb3 h
theorem qgH {ρ:List Sl}:∀{vs:List Nat},(wipeS ρ vs).length=ρ.length
 |[]=>rfl
 |v::vs=>by unfold wipeS;rw[List.length_set];exact qgH
theorem qcB {ρ:List Sl}:∀{vs:List Nat} {j:Nat} {s:Sl},(wipeS ρ vs)[j]? = some s→s=.non∨(j∉vs∧ρ[j]? = some s)
 |[],_,_,h=>.inr ⟨by simp,h⟩
 |v::vs,j,s,h=>by
  unfold wipeS at h
  by_cases q:v=j
  ·subst q
   by_cases hv:v<(wipeS ρ vs).length
   ·rw[List.getElem?_set_self hv] at h;cases h;exact .inl rfl
   ·rw[List.getElem?_eq_none (by simpa using hv)] at h;cases h
  ·rw[List.getElem?_set_ne q] at h
   rcases qcB h with h | h
   ·exact .inl h
   ·exact .inr ⟨by simp only[List.mem_cons,not_or];exact⟨fun z=>q z.symm,h.1⟩,h.2⟩
theorem SR.wiped {P N H:Hp} {ρ:List Sl} {σ:L2.St} (S:SR C P N H ρ σ) (vs:List Nat):SR C P N H (wipeS ρ vs) (wipe σ vs) where
 reg:=S.reg
 len:=by rw[wipe_length,qgH,S.len]
 sl:=fun i s e=>by
  rcases qcB e with rfl | ⟨h1,h2⟩
  ·have hi:i<(wipeS ρ vs).length:=by
    rcases Nat.lt_or_ge i (wipeS ρ vs).length with z | z
    ·exact z
    ·rw[List.getElem?_eq_none z] at e;cases e
   rw[qgH,←S.len,←wipe_length σ vs] at hi
   exact⟨_,List.getElem?_eq_getElem hi,trivial⟩
  ·rw[qb3 h1]
   exact S.sl i s h2
 ap:=fun i j p ds b es c e1 e2 e3 e4=>by
  rcases qcB e1 with z | ⟨h1,h2⟩
  ·cases z
  rcases qcB e2 with z | ⟨h3,h4⟩
  ·cases z
  rw[qb3 h1] at e3
  rw[qb3 h3] at e4
  exact S.ap i j p ds b es c h2 h4 e3 e4
 ad:=S.ad.sub fun i m b e=>by
  rcases qcB e with z | ⟨h1,h2⟩
  ·cases z
  ·exact⟨qb3 h1,_,_,h2⟩
 ar:=⟨fun i j dss t o u a e1 e2 e3 e4 k1 k2=>by
  rcases qcB e1 with z | ⟨h1,h2⟩
  ·cases z
  rcases qcB e2 with z | ⟨h3,h4⟩
  ·subst z;cases k2
  rw[qb3 h1] at e3
  rw[qb3 h3] at e4
  exact S.ar.un i j dss t o u a h2 h4 e3 e4 k1 k2⟩
def tIl (C:Ctx) (g:List Sl→RE Wk):TI:=fun σ H R=>∃ρ P N,SR C P N H ρ σ∧res C σ P N H (g ρ) fun w P' N' H'=>∀J,Wok C P' N' H' w J→w.xs.length≤sizeLine→R J H'
abbrev gLc (own tg:List Nat) (gi:List Sl→RE Wk) (gc:List Sl→RE Bool) (ge:List Sl→RE ER):List Sl→RE ER:=fun ρ=>(gi ρ).bind fun xs=>gd (leB xs.xs.length) ((lcl (fun x=>match qcx tg x xs.b (wipeS ρ own) with
   |some ρ'=>noX ((gc ρ').bind fun k=>if k=true then (ge ρ').bind fun y=>match y with
    |.brw _ _=>.bad
    |y=>.ok (some (y.d,y.b)) else .ok none)
   |none=>.bad) xs.xs).bind fun r=>.ok (.fre r.1 r.2))
theorem qpe {f:D→RE (Option (D × Bool))} {x:D} {xs:List D} {r:List D × Bool} (h:lcl f (x::xs)=.ok r):∃a q,f x=.ok a∧lcl f xs=.ok q∧r=match a with
  |none=>q
  |some y=>(y.1::q.1,y.2&&q.2):=by
 unfold lcl at h
 cases e:f x with
 |bad=>rw[e] at h;cases h
 |exc c fs=>rw[e] at h;cases h
 |ok a =>
  rw[e] at h
  cases e2:lcl f xs with
  |bad=>rw[e2] at h;cases h
  |exc c fs=>rw[e2] at h;cases h
  |ok q =>
   rw[e2] at h
   refine⟨a,q,rfl,rfl,?_⟩
   cases a<;>cases h<;>rfl
theorem qqS {f:D→RE (Option (D × Bool))} (hf:∀x,qhE (f x)):∀xs,qhE (lcl f xs)
 |[]=>trivial
 |x::xs=>by
  unfold lcl
  have h1:=hf x
  have h2:=qqS hf xs
  cases e:f x with
  |bad=>trivial
  |exc c fs=>rw[e] at h1;exact h1.elim
  |ok a =>
   cases e2:lcl f xs with
   |bad=>trivial
   |exc c fs=>rw[e2] at h2;exact h2.elim
   |ok q=>cases a<;>trivial
theorem quw {α:Type} (r:RE α):qhE (noX r):=by cases r<;>trivial
theorem qtf {α:Type} {r:RE α} {a:α} (h:noX r=.ok a):r=.ok a:=by
 cases r with
 |bad=>cases h
 |ok b=>exact h
 |exc c fs=>cases h
theorem qqh {own tg:List Nat} {gi:List Sl→RE Wk} {gc:List Sl→RE Bool} {ge:List Sl→RE ER} (hsub:∀i∈tg,i∈own) {σ:L2.St} {H:Hp} {Q:VK} (h:tE C (gLc own tg gi gc ge) σ H Q) :
  tLc (tI C gi) (tG C.nx tg) (tT C.nx gc) (tE C.nx ge) own σ H Q:=by
 obtain⟨ρ,P,N,S,h⟩:=h
 refine⟨ρ,P,N,S,h.bind.mono fun w P1 N1 H1 e1 a1 h1 J wj D hD=>?_⟩
 have S1:=S.adv a1
 simp only[qef,qat] at h1
 split at h1
 case isFalse=>exact h1.elim
 rename_i hlen
 generalize hf:(fun x=>match qcx tg x w.b (wipeS ρ own) with
   |some ρ'=>noX ((gc ρ').bind fun k=>if k=true then (ge ρ').bind fun y=>match y with
    |.brw _ _=>.bad
    |y=>.ok (some (y.d,y.b)) else .ok none)
   |none=>.bad)=f at h1
 have fnx:∀x,qhE (f x):=fun x=>by
  subst hf
  simp only
  split
  ·exact quw _
  ·trivial
 cases e2:lcl f w.xs with
 |bad=>rw[e2] at h1;exact h1.elim
 |exc c fs=>have:=qqS fnx w.xs;rw[e2] at this;exact this.elim
 |ok tot =>
  rw[e2] at h1
  obtain⟨Gd,Y,wk,grow,_,item⟩:=wj
  refine lc_it wk (Pv:=fun i Hi=>∃(P N:Hp) (acc:List V) (ds:List Cm.D) (b:Bool) (rest:List Cm.D × Bool),Adv P1 N1 H1 P N Hi∧Hi D=some (.lst acc)∧P D=none∧N D=none∧RepsB C P N b ds acc∧ds.length≤i∧lcl f (w.xs.drop i)=.ok rest∧tot.1=ds++rest.1∧tot.2=(b&&rest.2)) ?_ (fun i Hi hi p=>?_) (fun i x Hi H' hi p y=>?_) (fun Hi p=>?_)
  ·exact⟨P1,N1,[],[],true,tot,(Adv.refl S1.reg.pH S1.reg.nH).heap (qfa hD),upd_same,S1.reg.pH.free hD,S1.reg.nH.free hD,rfl,Nat.le_refl _,by simpa using e2,rfl,by simp⟩
  ·obtain⟨P,N,acc,ds,b,rest,a,_⟩:=p
   exact grow Hi a.hh
  ·obtain⟨P2,N2,acc,ds,b,rest,a,hDi,pD,nD,rr,hdl,el,et,eb⟩:=p
   obtain⟨P3,a3,d,ed,rd⟩:=item i P2 N2 Hi x H' hi a.pp a.nn (S1.adv a).reg y
   have hdrop:w.xs.drop i=d::w.xs.drop (i+1):=by
    obtain⟨hi',e⟩:=List.getElem?_eq_some_iff.mp ed
    rw[List.drop_eq_getElem_cons hi',e]
   rw[hdrop] at el
   obtain⟨r1,q,ef,eq,er⟩:=qpe el
   have aa:=a.trans a3
   have hD':=a3.hh _ _ hDi
   have pD3:=a3.off hDi pD
   subst hf
   simp only at ef
   split at ef
   case h_2=>cases ef
   rename_i ρ' eb'
   have ef:=qtf ef
   refine⟨wipeS ρ own,P3,N2,d,w.b,ρ',((S1.adv aa).wiped own).nx,rd,eb',fun σ' S' hj hl=>⟨?_,?_⟩⟩
   ·rw[qkU (σ:=wipe σ own) hl fun j h=>hj j fun z=>h (hsub j z),qjs]
   ·cases e5:gc ρ' with
    |bad=>rw[e5] at ef;cases ef
    |exc c fs=>rw[e5] at ef;cases ef
    |ok k =>
     rw[e5,RE.bind_ok] at ef
     refine⟨ρ',P3,N2,S',?_⟩
     rw[e5]
     intro P4 N4 H4 a4
     have hD4:=a4.hh _ _ hD'
     have pD4:=a4.off hD' pD3
     have nD4:=a4.offN hD' nD
     cases k with
     |false =>
      simp only[Bool.false_eq_true,if_false] at ef ⊢
      cases ef
      have er':rest=q:=er
      exact⟨P4,N4,acc,ds,b,q,aa.trans a4,hD4,pD4,nD4,RepsB.adv (a3.pp.trans a4.pp) a4.nn rr,Nat.le_succ_of_le hdl,eq,by rw[et,er'],by rw[eb,er']⟩
     |true =>
      simp only[if_true] at ef ⊢
      cases e6:ge ρ' with
      |bad=>rw[e6] at ef;cases ef
      |exc c fs=>rw[e6] at ef;cases ef
      |ok y =>
       rw[e6,RE.bind_ok] at ef
       refine⟨ρ',P4,N4,S'.adv a4,?_⟩
       rw[e6]
       intro P5 N5 H5 a5 v rv
       have rv:=rv.unx
       obtain⟨N6,a6,rv6⟩:=rv.freeze a5
       have hD6:=a6.hh _ _ hD4
       have pD6:=a6.off hD4 pD4
       have nD6:=a6.offN hD4 nD4
       have ry:r1=some (y.d,y.b)∧RepB C P5 N6 y.b y.d v:=by
        cases y with
        |val d' b'=>exact⟨(RE.ok.inj ef).symm,rv6⟩
        |fre d' b'=>exact⟨(RE.ok.inj ef).symm,rv6⟩
        |brw d' b'=>cases ef
       obtain⟨rfl,rv7⟩:=ry
       have er':rest=(y.d::q.1,y.b&&q.2):=er
       have full:=((a.trans a3).trans a4).trans a6
       have hl2:acc.length=ds.length:=rr.length
       refine⟨acc,hD6,?_,P5,N6,acc++[v],ds++[y.d],b&&y.b,q,⟨?_,full.pp,full.nn,qbg full.pH pD6,qbg full.nH nD6,full.pn,full.nw,full.dj,full.tp,full.tn⟩,upd_same,pD6,nD6,?_,?_,eq,?_,?_⟩
       ·have:w.xs.length≤sizeLine:=hlen
        omega
       ·exact qqK full.hh hD hD6
       ·exact Reps.append (RepsB.and1 (RepsB.adv ((a3.pp.trans a4.pp).trans a6.pp) (a4.nn.trans a6.nn) rr)) (Reps.one (RepB.and2 rv7))
       ·simp only[List.length_append,List.length_singleton];omega
       ·rw[et,er'];simp
       ·rw[eb,er'];simp[Bool.and_assoc]
  ·obtain⟨P2,N2,acc,ds,b,rest,a,hDi,pD,nD,rr,hdl,el,et,eb⟩:=p
   rw[List.drop_length] at el
   cases el
   have et':tot.1=ds:=by simpa using et
   have eb':tot.2=b:=by simpa using eb
   refine h1 P2 N2 Hi a _ ⟨D,acc,rfl,hDi,a1.hh.free hD,pD,nD,?_⟩
   rw[et',eb']
   exact rr
end
end Cm
set_option maxHeartbeats 2000000
namespace PySem
section
variable {M:Model} {A:Around} {E:Value→Shared→Prop} {s:Shared} {Z:Obj→Prop} {base:Heap} {env:Env} {outer l:List Env} {L L' C e:Addr}
theorem qeK {h B B':Heap} (k:∀b,B.get? b=none→B'.get? b=none):∀{l:List Env},h.FunFrames B l→h.FunFrames B' l
 |[],_=>trivial
 |_::_,⟨h1,⟨L,o,e1,e2,e3,e4⟩,h3⟩=>⟨h1,⟨L,o,e1,k L e2,e3,e4⟩,qeK k h3⟩
theorem qih {B:Heap} {b C:Addr} (e:B.get? b=none):(PySem.W.hideAll B [C]).get? b=none:=by
 cases q:(PySem.W.hideAll B [C]).get? b with
 |none=>rfl
 |some o=>rw[PySem.W.of_hideAll _ q] at e;cases e
theorem qmk {h B:Heap} (hh:HandSPX.HeldZ B l e Z L h):HandSPX.HeldZ (PySem.W.hideAll B [C]) l e Z L h:=by
 obtain⟨h1,h2,h3,oe,vs,T,oT,ts,he,hz,hd,g1,hnT,r⟩:=hh
 exact⟨fun b o q=>h1 b o (PySem.W.of_hideAll _ q),qih h2,qeK (fun b=>qih) h3,oe,vs,T,oT,ts,he,hz,hd,g1,qih hnT,r⟩
theorem qgD {h:Heap} {C b:Addr} {m:Str→Option Value} {o:Obj} {vs:Array Value} (hn:h.Ns C m) (e:h.get? b=some o) (d:o.data=.fields vs):b≠C:=fun q=>by
 subst q
 obtain⟨oL,es,ep,e1,e2,_⟩:=hn
 rw[e] at e1;cases e1
 rw[d] at e2;cases e2
theorem qmO {h h' B:Heap} {m m':Str→Option Value} (hh:HandSPX.HeldZ B l e Z L h) (hB:B.get? C=none) (hn:h.Ns C m) (hs:Heap.SameBut C h h') (hn':h'.Ns C m'):HandSPX.HeldZ B l e Z L h':=by
 obtain⟨h1,h2,h3,oe,vs,T,oT,ts,he,hz,hd,g1,hnT,hTe,hT,hdT,g3⟩:=hh
 exact⟨fun b o q=>(hs.2 b fun z=>by rw[z,hB] at q;cases q).trans (h1 b o q),h2,Heap.FunFrames.sameBut hs hn' h3,oe,vs,T,oT,ts,(hs.2 _ (qgD hn he hd)).trans he,hz,hd,g1,hnT,hTe,(hs.2 _ (qgD hn hT hdT)).trans hT,hdT,g3⟩
theorem qi3 {Q:Unit→Shared→Prop} (hZ:HandSPX.Steady Z) (hfr:A.frames=some (env::outer)) (hf:env.frame=some L) (hn:L'≠L) (hfl:HandSPX.HeldZ base (env::outer) e Z L' s.heap)
  (hQ:∀h',HandSPX.HeldZ base (env::outer) e Z L h'→s.heap.UpToSlots h'→Q () { s with heap:=h' }):wpAny M A (noteFrame (.ref e) env) Q E s:=by
 obtain⟨hkb,hen,hl,oe,vs,T,oT,ts,he,hz,hd,h1,hnT,hTe,hT,hdT,h3⟩:=hfl
 unfold noteFrame
 simp only[hf]
 refine wpAny_bind (wpAny_field he hd h1 ?_)
 rw[if_pos (show(Value.ref T != Value.none)=true from by simp)]
 refine wpAny_bind (wpAny_field hT hdT h3 ?_)
 rw[if_neg (show ¬((rawInt L' == rawInt L)=true) from fun q=>hn (Int.ofNat.inj (by simpa[rawInt] using q)))]
 refine wpAny_bind (wpAny_setField hT hdT (Array.getElem?_eq_some_iff.mp h3).1 ?_)
 have other:∀b,b≠T→(s.heap.update T (Obj.mapFields (·.setIfInBounds 3 Value.none))).get? b=s.heap.get? b:=fun b hb=>Heap.get?_update_other _ _ (Ne.symm hb)
 have noRecord:∀b o,s.heap.get? b=some o→(∀vs,o.data≠.fields vs)→b≠T:=fun b o hb hnf q=>by
  rw[q,hT] at hb;injection hb with hb;subst hb;exact hnf ts hdT
 refine HandSPX.wpAny_entryZ hZ hfr (hl.of_keeps fun b o hb hnf=>⟨o,(other b (noRecord b o hb hnf)).trans hb,rfl⟩) hf ((other e (Ne.symm hTe)).trans he)
  (fun b o hbo=>(other b fun q=>by rw[q,hnT] at hbo;cases hbo).trans (hkb b o hbo)) hen hd (Array.getElem?_eq_some_iff.mp h1).1 hz fun h' hN=>?_
 obtain⟨x1,x2,x3,x4⟩:=hN
 exact hQ h' ⟨x1,hen,x2,x3⟩ fun b o hb hnf=>x4 b o ((other b (noRecord b o hb hnf)).trans hb) hnf
end
end PySem
namespace Cm
open PySem PySem.Spec PyProof.Rows L2
variable [HasT]
structure FrOk (X:Cx):Prop where
 st:X.stack=X.env::X.outer
 fr:X.env.frame=some X.env.locals
 ex:X.ex=[]
section
variable {X:Cx} {W:WX} {pins:List (Addr × Obj)} {σ:L2.St} {H3:Hp} {s3:Shared} {fp:List Addr} {scope:Scope} {ce:PySem.Env}
abbrev qku (X:Cx) (ce:PySem.Env):Value→Shared→Prop:=notedBy (model X.prog X.w) X.A ce (CompFails (model X.prog X.w) X.A X.xe ce)
theorem qm2 (tk:Takes X W) (F:FrOk X) (I3:Inv X pins σ H3 s3) (hfp:∀b∈fp,FpOk X pins H3 b∧b<s3.heap.objs.size) (cL:ce.locals=s3.heap.objs.size) (cF:ce.frame=X.env.frame) :
  Takes ((X.blk s3 H3 scope ce fp).wish (qku X ce)) (fun c d _ H=>W c d σ H):=fun u s' x=>by
 obtain⟨a,B,sI,pins',σ',H',cls,d,rfl,I',nb,up,sky,na,os,ag,w⟩:=x
 have I6:Inv (X.blk s3 H3 scope ce fp) pins' σ' H' sI:=I'.unwish
 have I7:Inv X pins σ H' sI:=I3.call' (ch:=fp) I6.os I6.base I6.hok I6.bare fun b hb=>⟨(hfp b hb).1.2.2.2.1,(hfp b hb).1.2.1,(hfp b hb).1.2.2.2.2.1,(hfp b hb).1.2.2.2.2.2⟩
 have nC:H' s3.heap.objs.size=none:=by
  have z:H' ce.locals=none:=I6.free
  rwa [cL] at z
 obtain⟨f0,f1,f2,f3,f4,f5⟩:=I3.fpOk (H':=H') (Nat.le_refl _) nC
 have I8:=I7.turned (t':=sI.toks) (h':=PySem.W.hideAll sI.heap [s3.heap.objs.size]) (it:=s3.heap.objs.size) (fun b o hb e=>PySem.W.hideAll_get _ e (by simp[hb])) f0 f1 f3 f4 f5
 obtain⟨m,hnI,_⟩:=I6.loc
 have hnI:sI.heap.Ns ce.locals m:=hnI
 have hn:s'.heap.Ns ce.locals m:=hnI.upToSlots up
 have hfr:X.A.frames=some (X.env::X.outer):=by rw[I3.ok.frames,F.st]
 have ne:ce.locals≠X.env.locals:=by rw[cL];exact Nat.ne_of_gt I3.lt
 have key:∀h1,HandSPX.HeldZ B (X.env::X.outer) a (Zc cls d) X.env.locals h1→s'.heap.UpToSlots h1→CompFails (model X.prog X.w) X.A X.xe ce (.ref a) { s' with heap:=h1 }:=fun h1 hh1 up1=>by
  have hn1:h1.Ns ce.locals m:=hn.upToSlots up1
  refine⟨m,hn1,fun h2 m2 hn2 hs2=>?_⟩
  have hB:(PySem.W.hideAll B [ce.locals]).get? ce.locals=none:=PySem.W.hideAll_none _ (by simp)
  have hh2:HandSPX.HeldZ (PySem.W.hideAll B [ce.locals]) (X.env::X.outer) a (Zc cls d) X.env.locals h2:=qmO (qmk hh1) hB hn1 hs2 hn2
  obtain⟨k1,k2,k3,oe,vs,T,oT,ts',he,hz,hd,h1',hr⟩:=id hh2
  unfold PySem.passOn
  refine wpAny_bind (wpAny_field he hd h1' ?_)
  rw[if_neg (show ¬((Value.ref T == Value.none)=true) from by simp)]
  rw[cF,F.fr]
  refine wpAny_bind (HandSPX.setFlight_onZ (s:={ s' with heap:=h2 }) hh2 fun h3 hh3 up3=>wpAny_throw (tk _ _ ?_))
  refine⟨a,PySem.W.hideAll B [ce.locals],_,pins,σ,H',cls,d,rfl,I8,fun b o e hb=>?_,fun b o e hnf=>?_,.inr (.inr (by rw[F.st];exact hh3)),na,os,ag,w⟩
  ·have hbC:b≠ce.locals:=fun z=>by
    rw[z,cL,PySem.W.hideAll_none _ (by simp)] at e;cases e
   exact PySem.W.hideAll_get _ (nb b o (PySem.W.of_hideAll _ e) hb) (by simp[hbC])
  ·have hbC:b≠ce.locals:=fun z=>by
    rw[z,cL,PySem.W.hideAll_none _ (by simp)] at e;cases e
   obtain⟨sl,e1⟩:=up b o (PySem.W.of_hideAll _ e) hnf
   obtain⟨sl1,e2⟩:=up1 b _ e1 hnf
   exact up3 b { o with slots:=sl1 } ((hs2.2 b hbC).trans e2) hnf
 show wpAny (model X.prog X.w) X.A (noteFrame (.ref a) ce) _ _ s'
 rw[noteFrame_env _ cF]
 have sky:Sky B X.stack a (Zc cls d) ce.locals s'.heap:=sky
 rw[F.st] at sky
 rcases sky with⟨hB,hnB,hl,oe,vs,he,hz,hd,h1⟩ | fl | hh
 ·exact HandSPX.look_newZ Zc.steady hfr hl F.fr he hB hnB hd h1 hz key
 ·exact HandSPX.looks_onZ Zc.steady hfr F.fr fl key
 ·exact qi3 Zc.steady hfr F.fr ne hh key
end
end Cm
namespace Cm
open PySem PySem.Spec PyProof.Rows L2
variable [HasT]
theorem qwg {α:Type} {t:Sem α} {Q Q':α→Shared→Prop} {M:Model} {A:Around} {E E':Value→Shared→Prop} {s:Shared} (h:wpAny M A t Q E s) (hQ:∀a s,Q a s→Q' a s) (k:∀e s,E e s→E' e s):wpAny M A t Q' E' s:=wpAny_mono h hQ k
section
variable {X:Cx} {W:WX}
theorem ql0 {pins:List (Addr × Obj)} {s:Shared} {σ:L2.St} {H:Hp} {Q:VK} {elt tg iter:Expr} {ifs:List Expr} {scope:Scope} {own:List (Str × Nat)} {pos pos':Pos} {wi:TI} {g:TG} {tt:TT} {te:TE} {use:Option (Value→Sem Unit)} {Qf:Value→Shared→Prop}
  (tk:Takes X W) (F:FrOk X) (hc:X.calm=true) (hN:X.N.Nodup) (I:Inv X pins σ H s) (hi:PI X tg iter wi) (ok:BlkOk X.N X.env.scope scope own)
  (hg:∀(s:Shared) (H:Hp) (C:Addr) (cl:List (Str × Addr)) (fp:List Addr),PG (X.blk s H scope (compEnvC scope cl C X.env) fp) tg g)
  (ht:∀(s:Shared) (H:Hp) (C:Addr) (cl:List (Str × Addr)) (fp:List Addr),Takes ((X.blk s H scope (compEnvC scope cl C X.env) fp).wish (qku X (compEnvC scope cl C X.env))) (fun c d _ H=>W c d σ H)→PTs ((X.blk s H scope (compEnvC scope cl C X.env) fp).wish (qku X (compEnvC scope cl C X.env))) ifs tt)
  (he:∀(s:Shared) (H:Hp) (C:Addr) (cl:List (Str × Addr)) (fp:List Addr),Takes ((X.blk s H scope (compEnvC scope cl C X.env) fp).wish (qku X (compEnvC scope cl C X.env))) (fun c d _ H=>W c d σ H)→PE ((X.blk s H scope (compEnvC scope cl C X.env) fp).wish (qku X (compEnvC scope cl C X.env))) elt te)
  (hs:∀x,foldedSetIterable iter X.env x=pure x)
  (h:tLc wi g tt te (own.map (·.2)) σ H Q)
  (hRR:∀D (ce:PySem.Env) s' m H',Inv X pins σ H' s'→Q (.ref D) H'→s'.heap.Ns ce.locals m→FpOk X pins H' ce.locals→compEnds (model X.prog X.w) X.A X.xe use Qf (.ref D) ce (.ok .next) s') :
  wpAny (model X.prog X.w) X.A (comprehension (.ListComp elt [⟨tg,iter,ifs,0⟩] scope pos) scope X.env pos' (newList []) false (eval iter X.env) use) Qf X.xe s:=by
 have hfree:∀y∈scope.names,y.2=.free→∃c,X.env.cells.lookup y.1=some c:=fun y hy e=>by
  rcases ok.free y hy e with k | k
  ·exact I.ok.has _ (.inl k)
  ·exact I.ok.has _ (.inr k)
 refine comprehension_at (use:=use) rfl hs (closure_ok hfree) ok.kind (fun y hy e=>by rw[ok.uniq y hy,e])
  (thn (hi.run pins s σ H _ I h) fun xv s1 hx=>thn hx fun itv s2 h2=>?_)
 obtain⟨it,fp,tn,J,H2,e,I2,T,st2,f2,q⟩:=h2
 subst e
 refine wpAny_newObj_type (newEnv_comp ?_) (by show 0≤sizeLine;decide)
 generalize hD:s2.heap.objs.size=D
 have hDn:H2 D=none:=I2.hok.fresh (Nat.le_of_eq hD)
 obtain⟨WW,⟨m0,w0⟩,turn⟩:=q D hDn
 generalize hs3:({ s2 with heap:=s2.heap.push { cls:=.type "list",data:=.seq ([]:List Value).toArray } }:Shared)=s3
 have I3:Inv X pins σ (upd H2 D (.lst [])) s3:=by
  rw[←hs3]
  refine I2.laid (t':=s2.toks) (fun b o e=>Heap.get?_push_of_some _ e) (Nat.le_of_eq hD) ⟨Nat.zero_le _,[],0,.nil,?_⟩
  rw[←hD]
  exact Heap.get?_push_size _ rfl
 have h3:s3.heap=s2.heap.push { cls:=.type "list",data:=.seq ([]:List Value).toArray }:=by rw[←hs3]
 have sz:∀b∈fp,b<s2.heap.objs.size:=fun b hb=>by
  obtain⟨o,e,_⟩:=T.obj _ _ st2 b hb
  exact Heap.lt_size e
 have f3:∀b∈fp,FpOk X pins (upd H2 D (.lst [])) b∧b<s3.heap.objs.size:=fun b hb=>by
  have hlt:=sz b hb
  refine⟨⟨?_,(f2 b hb).2⟩,by rw[h3,Heap.size_push];exact Nat.lt_succ_of_lt hlt⟩
  rw[upd_ne (by rw[←hD];exact Nat.ne_of_lt hlt)]
  exact(f2 b hb).1
 have st3:tn 0 s3.heap:=T.keep _ _ _ st2 fun b _ o e=>by rw[h3];exact Heap.get?_push_of_some _ e
 have I4:=block_start I3 ok hN f3
 generalize hcl:cellsFrom (s3.heap.objs.size+1) scope.names (cloFrom X.env.cells scope.names [])=cl at I4
 have pg:=hg s3 (upd H2 D (.lst [])) s3.heap.objs.size cl fp
 have tb:=qm2 (scope:=scope) (ce:=compEnvC scope cl s3.heap.objs.size X.env) tk F I3 f3 rfl rfl
 have pt:=ht s3 (upd H2 D (.lst [])) s3.heap.objs.size cl fp tb
 have pe:=he s3 (upd H2 D (.lst [])) s3.heap.objs.size cl fp tb
 show codeAny _ _ (.compStart (.ListComp elt [⟨tg,iter,ifs,0⟩] scope pos) 0 (.ref it) (.ref D) (compEnvC scope cl s3.heap.objs.size X.env)) (compEnds (model X.prog X.w) X.A X.xe use Qf (.ref D) (compEnvC scope cl s3.heap.objs.size X.env)) { s3 with heap:=pushCells (s3.heap.push { cls:=.type "dict",data:=.dict #[] }) scope.names }
 have nfp:∀b∈fp,(upd H2 D (.lst [])) b=none:=fun b hb=>(f3 b hb).1.1
 generalize hce:compEnvC scope cl s3.heap.objs.size X.env=ce at I4 pg pt pe tb ⊢
 have cL:ce.locals=s3.heap.objs.size:=by subst hce;rfl
 generalize hH3:upd H2 D (.lst [])=H3 at I3 I4 pg pt pe tb w0 nfp f3
 generalize hs4:({ s3 with heap:=pushCells (s3.heap.push { cls:=.type "dict",data:=.dict #[] }) scope.names }:Shared)=s4 at I4 ⊢
 have st4:tn 0 s4.heap:=T.keep _ _ _ st3 fun b _ o e=>by rw[←hs4];exact pushCells_keeps _ _ _ _ (Heap.get?_push_of_some _ e)
 have stat:∀{σ':L2.St} {H':Hp} {s':Shared},Inv (X.blk s3 H3 scope ce fp) [] σ' H' s'→(∀b∈fp,H' b=none)→∀b∈fp,FpOk (X.blk s3 H3 scope ce fp) [] H' b:=fun {σ' H' s'} I' hn b hb =>
  ⟨hn b hb,(I'.ok.exf b hb).1,I'.ok.exfs b hb,.inl hb,fun x c e=>(I'.ok.exf b hb).2 x c e,fun p hp=>absurd (show p∈([]:List (Addr × Obj))++[] from hp) (by simp)⟩
 have hE:∀u s',qku X ce u s'→notedBy (model X.prog X.w) X.A ce (fun e s'=>compEnds (model X.prog X.w) X.A X.xe use Qf (.ref D) ce (.error e) s') u s':=fun u s' q=>wpAny_mono q (fun _ s'' z=>by cases use<;>exact z) fun _ _ z=>by cases use<;>exact z
 have loop:codeAny (model X.prog X.w) X.A (.compLoop (.ListComp elt [⟨tg,iter,ifs,0⟩] scope pos) 0 (.ref it) (.ref D) ce) (compEnds (model X.prog X.w) X.A X.xe use Qf (.ref D) ce) s4:=by
  refine compLoop_any (fun n s'=>∃i H',Inv (X.blk s3 H3 scope ce fp) [] (wipe σ (own.map (·.2))) H' s'∧tn i s'.heap∧(∀b∈fp,H' b=none)∧WW i n H') ?_ m0 ⟨0,H3,I4,st4,nfp,w0⟩
  rintro n s5 ⟨i,H5,I5,st5,n5,w5⟩
  rcases turn i n H5 w5 with⟨stop,qq⟩ | ⟨go,Nx,hNx,step⟩
  ·have td:=T.done (X.blk s3 H3 scope ce fp) rfl rfl rfl hc i [] s5 _ H5 (fun _ _=>False) I5 (stat I5 n5) st5 stop
   refine thnF td fun r s6 ⟨hr,I6⟩=>?_
   subst hr
   have I7:Inv X pins σ H5 s6:=I3.call' (ch:=fp) I6.os I6.base I6.hok I6.bare fun b hb=>⟨(f3 b hb).1.2.2.2.1,(f3 b hb).1.2.1,(f3 b hb).1.2.2.2.2.1,(f3 b hb).1.2.2.2.2.2⟩
   have nC:H5 ce.locals=none:=I6.free
   obtain⟨m,hn,_⟩:=I6.loc
   exact hRR D ce s6 m H5 I7 qq hn (I3.fpOk (by rw[cL];exact Nat.le_refl _) nC)
  ·have ti:=T.item (X.blk s3 H3 scope ce fp) rfl rfl rfl hc i [] s5 _ H5 (fun _ _=>False) I5 (stat I5 n5) st5 go
   refine thnF ti fun r s6 ⟨u,hr,h6⟩=>?_
   subst hr
   refine thnF h6 fun _ s7 ⟨x,H7,I7,r7,y7,st7,n7⟩=>?_
   have I7':=I7.pinned (stat I7 n7) (T.obj _ _ st7)
   refine thnF (pg.run _ s7 _ H7 x u _ I7' r7 (step x H7 y7)) fun _ s8 ⟨σ8,H8,I8,hw8,q8⟩=>?_
   refine qwg (pt.run _ s8 σ8 H8 _ (I8.wish _) q8) (fun b s9 ⟨H9,I9,q9⟩=>?_) hE
   have fin:∀{s':Shared} {H':Hp},Inv (X.blk s3 H3 scope ce fp) ([]++pinsAt fp s7.heap) σ8 H' s'→Nx H'→∃m,m<n∧∃i H',Inv (X.blk s3 H3 scope ce fp) [] (wipe σ (own.map (·.2))) H' s'∧tn i s'.heap∧(∀b∈fp,H' b=none)∧WW i m H':=fun {s' H'} I' nx=>by
    obtain⟨m',hm,w'⟩:=hNx H' nx
    have pin':∀b∈fp,∀o,s7.heap.get? b=some o→s'.heap.get? b=some o∧H' b=none:=fun b hb o e =>
     let z:=I'.pin (b,o) (List.mem_append_right _ (List.mem_append_right _ (mem_pinsAt hb e)))
     ⟨z.1,z.2.1⟩
    have hl:(wipe σ (own.map (·.2))).length=σ8.length:=by rw[←hw8,wipe_length]
    refine⟨m',hm,i+1,H',(I'.unpinned (pins:=[])).weak hl (fun j v e=>?_),T.keep _ _ _ st7 fun b hb o e=>(pin' b hb o e).1,fun b hb=>?_,w'⟩
    ·rw[←hw8] at e
     exact(wipe_some e).1
    ·obtain⟨o,e,_⟩:=T.obj _ _ st7 b hb
     exact(pin' b hb o e).2
   cases b with
   |false =>
    simp only[Bool.false_eq_true,if_false] at q9 ⊢
    exact fin I9.unwish q9
   |true =>
    simp only[if_true] at q9 ⊢
    refine qwg (pe.run _ s9 σ8 H9 _ I9 q9) (fun z s10 ⟨yv,H10,I10,r10,acc,hD10,hz10,nx⟩=>?_) hE
    exact app_ok (X:=X.blk s3 H3 scope ce fp) I10.unwish hD10 hz10 r10 fun s11 I11=>fin I11 nx
 exact codeAny_compStart_list loop (T.self X.A 0 _ _ _ st4 loop)
end
end Cm
namespace Cm
open PySem PySem.Spec PyProof.Rows L2
variable [HasT]
section
variable {X:Cx} {W:WX} {elt tg iter:Expr} {ifs:List Expr} {scope:Scope} {own:List (Str × Nat)} {pos:Pos} {wi:TI} {g:TG} {tt:L2.St→TT} {te:L2.St→TE}
theorem qtC (tk:Takes X W) (F:FrOk X) (hc:X.calm=true) (hN:X.N.Nodup) (hi:PI X tg iter wi) (ok:BlkOk X.N X.env.scope scope own)
  (hg:∀(s:Shared) (H:Hp) (C:Addr) (cl:List (Str × Addr)) (fp:List Addr),PG (X.blk s H scope (compEnvC scope cl C X.env) fp) tg g)
  (ht:∀(σ:L2.St) (s:Shared) (H:Hp) (C:Addr) (cl:List (Str × Addr)) (fp:List Addr),Takes ((X.blk s H scope (compEnvC scope cl C X.env) fp).wish (qku X (compEnvC scope cl C X.env))) (fun c d _ H=>W c d σ H)→PTs ((X.blk s H scope (compEnvC scope cl C X.env) fp).wish (qku X (compEnvC scope cl C X.env))) ifs (tt σ))
  (he:∀(σ:L2.St) (s:Shared) (H:Hp) (C:Addr) (cl:List (Str × Addr)) (fp:List Addr),Takes ((X.blk s H scope (compEnvC scope cl C X.env) fp).wish (qku X (compEnvC scope cl C X.env))) (fun c d _ H=>W c d σ H)→PE ((X.blk s H scope (compEnvC scope cl C X.env) fp).wish (qku X (compEnvC scope cl C X.env))) elt (te σ))
  (hs:∀x,foldedSetIterable iter X.env x=pure x:=by intro _;rfl) :
  PE X (.ListComp elt [⟨tg,iter,ifs,0⟩] scope pos) (fun σ H Q=>tLc wi g (tt σ) (te σ) (own.map (·.2)) σ H Q):=by
 refine⟨fun pins s σ H Q I h=>?_⟩
 rw[eval_ListComp]
 refine ql0 tk F hc hN I hi ok hg (ht σ) (he σ) hs h fun D ce s' m H' I' q hn f=>⟨m,hn,fun h'' sb=>?_⟩
 obtain⟨f0,f1,f2,f3,f4,f5⟩:=f
 exact⟨.ref D,H',I'.turned (t':=s'.toks) (fun b o hb e=>(sb.2 b hb).trans e) f0 f1 f3 f4 f5,rfl,q⟩
theorem qm7 {i:Nat} {y:Str} {py spos:Pos} (tk:Takes X W) (F:FrOk X) (hc:X.calm=true) (hN:X.N.Nodup) (hy:X.N[i]? = some y) (hyl:X.env.scope.names.lookup y=some .local)
  (hsw:swapsWith (.ListComp elt [⟨tg,iter,ifs,0⟩] scope pos) (some (.Name y py)) spos.line X.env=pure true) (hi:PI X tg iter wi) (ok:BlkOk X.N X.env.scope scope own)
  (hg:∀(s:Shared) (H:Hp) (C:Addr) (cl:List (Str × Addr)) (fp:List Addr),PG (X.blk s H scope (compEnvC scope cl C X.env) fp) tg g)
  (ht:∀(σ:L2.St) (s:Shared) (H:Hp) (C:Addr) (cl:List (Str × Addr)) (fp:List Addr),Takes ((X.blk s H scope (compEnvC scope cl C X.env) fp).wish (qku X (compEnvC scope cl C X.env))) (fun c d _ H=>W c d σ H)→PTs ((X.blk s H scope (compEnvC scope cl C X.env) fp).wish (qku X (compEnvC scope cl C X.env))) ifs (tt σ))
  (he:∀(σ:L2.St) (s:Shared) (H:Hp) (C:Addr) (cl:List (Str × Addr)) (fp:List Addr),Takes ((X.blk s H scope (compEnvC scope cl C X.env) fp).wish (qku X (compEnvC scope cl C X.env))) (fun c d _ H=>W c d σ H)→PE ((X.blk s H scope (compEnvC scope cl C X.env) fp).wish (qku X (compEnvC scope cl C X.env))) elt (te σ))
  (hs:∀x,foldedSetIterable iter X.env x=pure x:=by intro _;rfl) :
  PS X (.Assign [.Name y py] (.ListComp elt [⟨tg,iter,ifs,0⟩] scope pos) spos) (tAsg (fun σ H Q=>tLc wi g (tt σ) (te σ) (own.map (·.2)) σ H Q) (gName i)):=by
 refine⟨fun pins s σ H D I h=>?_⟩
 rw[exec_Assign_Name_used _ _ _ _ hsw]
 refine wpAny_bind (wpAny_standAt (wpAny_bind ?_))
 show wpAny _ X.A (do let _ ←comprehension (.ListComp elt [⟨tg,iter,ifs,0⟩] scope pos) scope X.env (firstIterPos [⟨tg,iter,ifs,0⟩] pos) (newList []) false (eval iter X.env) (some (assign (.Name y py) X.env))) _ _ s
 have h:tLc wi g (tt σ) (te σ) (own.map (·.2)) σ H (fun x H1=>gName i x σ H1 D.nx):=h
 refine wpAny_bind (thn (ql0 (Qf:=fun _ s'=>SP X pins D .next s') tk F hc hN I hi ok hg (ht σ) (he σ) hs h fun L ce s' m H' I' q hn f=>?_) fun _ s' hq=>wpAny_pure (wpAny_pure hq))
 show wpAny _ _ (assign (.Name y py) X.env (.ref L)) _ _ _
 refine wpAny_assign_Name (store_ok2 (v:=V.ref L) I' hN hy (.inl hyl) rfl (fun s2 I2 ⟨a,sb,ha⟩=>?_) (.inr hyl))
 obtain⟨f0,f1,f2,f3,f4,f5⟩:=f
 have haC:ce.locals≠a:=by
  rcases ha with z | z
  ·rw[z];exact f1
  ·exact fun z'=>f4 _ _ z z'.symm
 refine⟨m,hn.sameBut sb haC,fun h3 sb3=>?_⟩
 exact⟨_,H',I2.turned (t':=s2.toks) (fun b o hb e=>(sb3.2 b hb).trans e) f0 f1 f3 f4 f5,q⟩
end
end Cm
namespace Cm
open PySem PySem.Spec PyProof.Rows L2
variable [HasT]
def Ctx.bx (C:Ctx) (σ:L2.St):Ctx:={ C with W:=fun c d _ H=>C.W c d σ H }
section
variable {C:Ctx} {X:Cx}
theorem Reg.bx {P N H:Hp} {σ:L2.St} (r:Reg C.nx P N H):Reg (C.bx σ) P N H:=⟨r.pH,r.nH,r.bH,r.rB,r.p0,r.pn,r.nw,r.dj,r.tb,r.tf⟩
theorem SlR.bx {P N H:Hp} {s:Sl} {o:Option V} {σ:L2.St} (h:SlR C.nx P N H s o):SlR (C.bx σ) P N H s o:=by cases s<;>exact h
theorem SR.bx {P N H:Hp} {ρ:List Sl} {σ' σ:L2.St} (S:SR C.nx P N H ρ σ'):SR (C.bx σ) P N H ρ σ':=⟨S.reg.bx,S.len,fun i s e=>by
 obtain⟨o,h1,h2⟩:=S.sl i s e
 exact⟨o,h1,h2.bx⟩,S.ap,S.ad,S.ar⟩
theorem ERr.unbx {P N H H0:Hp} {er:ER} {v:V} {σ:L2.St} (h:ERr (C.bx σ) P N H H0 er v):ERr C P N H H0 er v:=by cases er<;>exact h
theorem ExR.unbx {P N H:Hp} {fs:List Cm.D} {d:Option Addr} {σ:L2.St} (h:ExR (C.bx σ) P N H fs d):ExR C P N H fs d:=h
abbrev qwm (own tg:List Nat) (gi:List Sl→RE Wk) (gc:List Sl→RE Bool) (ge:List Sl→RE ER):List Sl→RE ER:=fun ρ=>(gi ρ).bind fun xs=>gd (leB xs.xs.length) ((lcl (fun x=>match qcx tg x xs.b (wipeS ρ own) with
   |some ρ'=>(gc ρ').bind fun k=>if k=true then (ge ρ').bind fun y=>match y with
    |.brw _ _=>.bad
    |y=>.ok (some (y.d,y.b)) else .ok none
   |none=>.bad) xs.xs).bind fun r=>.ok (.fre r.1 r.2))
theorem qn2 {own tg:List Nat} {gi:List Sl→RE Wk} {gc:List Sl→RE Bool} {ge:List Sl→RE ER} (hsub:∀i∈tg,i∈own) {σ:L2.St} {H:Hp} {Q:VK} (h:tE C (qwm own tg gi gc ge) σ H Q) :
  tLc (tI C gi) (tG C.nx tg) (tT (C.bx σ) gc) (tE (C.bx σ) ge) own σ H Q:=by
 obtain⟨ρ,P,N,S,h⟩:=h
 refine⟨ρ,P,N,S,h.bind.mono fun w P1 N1 H1 e1 a1 h1 J wj D hD=>?_⟩
 have S1:=S.adv a1
 simp only[qef,qat] at h1
 split at h1
 case isFalse=>exact h1.elim
 rename_i hlen
 generalize hf:(fun x=>match qcx tg x w.b (wipeS ρ own) with
   |some ρ'=>(gc ρ').bind fun k=>if k=true then (ge ρ').bind fun y=>match y with
    |.brw _ _=>.bad
    |y=>.ok (some (y.d,y.b)) else .ok none
   |none=>.bad)=f at h1
 generalize ht:lcl f w.xs=tot at h1
 obtain⟨Gd,Y,wk,grow,_,item⟩:=wj
 have raise:∀{c fs},tot=.exc c fs→∀{P2 N2 H2:Hp},Adv P1 N1 H1 P2 N2 H2→∀(σ':L2.St) d P' N' H',Adv P2 N2 H2 P' N' H'→ExR (C.bx σ) P' N' H' fs d→(C.bx σ).W (.ref ((C.bx σ).G.ca c)) d σ' H':=fun {c fs} e {P2 N2 H2} a σ' d P' N' H' a' x=>by
  rw[e] at h1
  exact h1 d P' N' H' (a.trans a') x
 have nobad:tot≠.bad:=fun e=>by rw[e] at h1;exact h1
 refine lc_it wk (Pv:=fun i Hi=>∃(P N:Hp) (acc:List V) (ds:List Cm.D) (b:Bool),Adv P1 N1 H1 P N Hi∧Hi D=some (.lst acc)∧P D=none∧N D=none∧RepsB C P N b ds acc∧ds.length≤i∧tot=(lcl f (w.xs.drop i)).bind fun r=>.ok (ds++r.1,b&&r.2)) ?_ (fun i Hi hi p=>?_) (fun i x Hi H' hi p y=>?_) (fun Hi p=>?_)
 ·refine⟨P1,N1,[],[],true,(Adv.refl S1.reg.pH S1.reg.nH).heap (qfa hD),upd_same,S1.reg.pH.free hD,S1.reg.nH.free hD,rfl,Nat.le_refl _,?_⟩
  rw[List.drop_zero,ht]
  cases tot<;>simp
 ·obtain⟨P,N,acc,ds,b,a,_⟩:=p
  exact grow Hi a.hh
 ·obtain⟨P2,N2,acc,ds,b,a,hDi,pD,nD,rr,hdl,et⟩:=p
  obtain⟨P3,a3,d,ed,rd⟩:=item i P2 N2 Hi x H' hi a.pp a.nn (S1.adv a).reg y
  have hdrop:w.xs.drop i=d::w.xs.drop (i+1):=by
   obtain⟨hi',e⟩:=List.getElem?_eq_some_iff.mp ed
   rw[List.drop_eq_getElem_cons hi',e]
  rw[hdrop,lcl] at et
  have aa:=a.trans a3
  have hD':=a3.hh _ _ hDi
  have pD3:=a3.off hDi pD
  have ef:f d=match qcx tg d w.b (wipeS ρ own) with
   |some ρ'=>(gc ρ').bind fun k=>if k=true then (ge ρ').bind fun y=>match y with
    |.brw _ _=>.bad
    |y=>.ok (some (y.d,y.b)) else .ok none
   |none=>.bad:=by rw[←hf]
  rw[ef] at et
  cases eb':qcx tg d w.b (wipeS ρ own) with
  |none=>rw[eb'] at et;exact absurd et nobad
  |some ρ' =>
   rw[eb'] at et
   simp only at et
   refine⟨wipeS ρ own,P3,N2,d,w.b,ρ',((S1.adv aa).wiped own).nx,rd,eb',fun σ' S' hj hl=>⟨?_,?_⟩⟩
   ·rw[qkU (σ:=wipe σ own) hl fun j h=>hj j fun z=>h (hsub j z),qjs]
   ·cases e5:gc ρ' with
    |bad=>rw[e5] at et;exact absurd et nobad
    |exc c fs =>
     rw[e5] at et
     refine⟨ρ',P3,N2,S'.bx,?_⟩
     rw[e5]
     exact raise et aa σ'
    |ok k =>
     simp only[e5,RE.bind_ok] at et
     refine⟨ρ',P3,N2,S'.bx,?_⟩
     rw[e5]
     intro P4 N4 H4 a4
     have hD4:=a4.hh _ _ hD'
     have pD4:=a4.off hD' pD3
     have nD4:=a4.offN hD' nD
     cases k with
     |false =>
      simp only[Bool.false_eq_true,if_false,RE.bind_ok] at et ⊢
      refine⟨P4,N4,acc,ds,b,aa.trans a4,hD4,pD4,nD4,RepsB.adv (a3.pp.trans a4.pp) a4.nn rr,Nat.le_succ_of_le hdl,?_⟩
      rw[et]
      cases lcl f (w.xs.drop (i+1))<;>rfl
     |true =>
      simp only[if_true] at et ⊢
      cases e6:ge ρ' with
      |bad=>rw[e6] at et;exact absurd et nobad
      |exc c fs =>
       rw[e6] at et
       refine⟨ρ',P4,N4,(S'.adv a4).bx,?_⟩
       rw[e6]
       exact raise et (aa.trans a4) σ'
      |ok y =>
       simp only[e6,RE.bind_ok] at et
       refine⟨ρ',P4,N4,(S'.adv a4).bx,?_⟩
       rw[e6]
       intro P5 N5 H5 a5 v rv
       have rv:=rv.unbx
       obtain⟨N6,a6,rv6⟩:=rv.freeze a5
       have hD6:=a6.hh _ _ hD4
       have pD6:=a6.off hD4 pD4
       have nD6:=a6.offN hD4 nD4
       have ry:(tot=(lcl f (w.xs.drop (i+1))).bind fun r=>.ok ((ds++[y.d])++r.1,(b&&y.b)&&r.2))∧RepB C P5 N6 y.b y.d v:=by
        have two:∀(q:RE (List Cm.D × Bool)) (u:Cm.D) (k:Bool),((q.bind fun q=>RE.ok (u::q.1,k&&q.2)).bind fun r=>RE.ok (ds++r.1,b&&r.2))=q.bind fun r=>RE.ok ((ds++[u])++r.1,(b&&k)&&r.2):=fun q u k=>by
         cases q<;>simp[Bool.and_assoc]
        cases y with
        |val d' b'=>exact⟨et.trans (two _ _ _),rv6⟩
        |fre d' b'=>exact⟨et.trans (two _ _ _),rv6⟩
        |brw d' b'=>exact absurd et nobad
       obtain⟨et',rv7⟩:=ry
       have full:=((a.trans a3).trans a4).trans a6
       have hl2:acc.length=ds.length:=rr.length
       refine⟨acc,hD6,?_,P5,N6,acc++[v],ds++[y.d],b&&y.b,⟨?_,full.pp,full.nn,qbg full.pH pD6,qbg full.nH nD6,full.pn,full.nw,full.dj,full.tp,full.tn⟩,upd_same,pD6,nD6,?_,?_,et'⟩
       ·have:w.xs.length≤sizeLine:=hlen
        omega
       ·exact qqK full.hh hD hD6
       ·exact Reps.append (RepsB.and1 (RepsB.adv ((a3.pp.trans a4.pp).trans a6.pp) (a4.nn.trans a6.nn) rr)) (Reps.one (RepB.and2 rv7))
       ·simp only[List.length_append,List.length_singleton];omega
 ·obtain⟨P2,N2,acc,ds,b,a,hDi,pD,nD,rr,hdl,et⟩:=p
  rw[List.drop_length,lcl,RE.bind_ok] at et
  have et:tot=.ok (ds,b):=by simpa using et
  rw[et] at h1
  exact h1 P2 N2 Hi a _ ⟨D,acc,rfl,hDi,a1.hh.free hD,pD,nD,rr⟩
end
end Cm
namespace Cm
open PySem PySem.Spec PyProof.Rows L2
variable [HasT]
section
variable (C:Ctx)
def outS (P0 N0:Hp) (D:Ends) (o:Out):Prop:=
 match o with
 |.bad=>False
 |.nx ρ=>∀σ P N H,SR C P N H ρ σ→Cm.Same P0 P→Cm.Same N0 N→D.nx σ H
 |.brk ρ=>∀σ P N H,SR C P N H ρ σ→Cm.Same P0 P→Cm.Same N0 N→D.bk σ H
 |.cnt ρ=>∀σ P N H,SR C P N H ρ σ→Cm.Same P0 P→Cm.Same N0 N→D.ct σ H
 |.ret er=>∀v P N H,Reg C P N H→ERr C P N H C.B er v→D.rt v H
 |.exc c fs=>∀σ d P N H,Reg C P N H→ExR C P N H fs d→C.W (.ref (C.G.ca c)) d σ H
def tS (g:List Sl→Out):TS:=fun D σ H=>∃ρ P N,SR C P N H ρ σ∧outS C P N D (g ρ)
end
section
variable {C:Ctx} {X:Cx}
theorem outS.res {α:Type} {D:Ends} {σ:L2.St} {P N H:Hp} {r:RE α} {f:α→Out} (rg:Reg C P N H) (h:outS C P N D (r.out f)):res C σ P N H r fun a _ _ _=>outS C P N D (f a):=by
 cases r with
 |bad=>exact h
 |ok a=>exact fun _ _ _ _=>h
 |exc c fs=>exact fun d P' N' H' a x=>h σ d P' N' H' (rg.adv a) x
theorem outS.adv {P N P' N':Hp} {D:Ends} {o:Out} (h:outS C P N D o) (hp:Cm.Same P P') (hn:Cm.Same N N'):outS C P' N' D o:=by
 cases o with
 |bad=>exact h
 |nx ρ=>exact fun σ P2 N2 H S e1 e2=>h σ P2 N2 H S (hp.trans e1) (hn.trans e2)
 |brk ρ=>exact fun σ P2 N2 H S e1 e2=>h σ P2 N2 H S (hp.trans e1) (hn.trans e2)
 |cnt ρ=>exact fun σ P2 N2 H S e1 e2=>h σ P2 N2 H S (hp.trans e1) (hn.trans e2)
 |ret er=>exact h
 |exc c fs=>exact h
theorem outS.mono {P0 N0:Hp} {D D':Ends} {o:Out} (h:outS C P0 N0 D o) (h1:∀σ H,D.nx σ H→D'.nx σ H) (h2:∀v H,D.rt v H→D'.rt v H) (h3:∀σ H,D.bk σ H→D'.bk σ H) (h4:∀σ H,D.ct σ H→D'.ct σ H):outS C P0 N0 D' o:=by
 cases o with
 |bad=>exact h
 |nx ρ=>exact fun σ P N H S e1 e2=>h1 _ _ (h σ P N H S e1 e2)
 |brk ρ=>exact fun σ P N H S e1 e2=>h3 _ _ (h σ P N H S e1 e2)
 |cnt ρ=>exact fun σ P N H S e1 e2=>h4 _ _ (h σ P N H S e1 e2)
 |ret er=>exact fun v P N H S e=>h2 _ _ (h v P N H S e)
 |exc c fs=>exact h
theorem qao {s:Stmt} {t u:TS} (h:PS X s t) (f:∀D σ H,u D σ H→t D σ H):PS X s u:=⟨fun pins s σ H D I q=>h.run pins s σ H D I (f _ _ _ q)⟩
theorem qbc {s:List Stmt} {t u:TS} (h:PSs X s t) (f:∀D σ H,u D σ H→t D σ H):PSs X s u:=⟨fun pins s σ H D I q=>h.run pins s σ H D I (f _ _ _ q)⟩
theorem qoc {s:Stmt}:PS X s (tS C fun _=>.bad):=qao ps_never fun D σ H q=>by obtain⟨ρ,P,N,S,h⟩:=q;exact h
theorem qpn {pos:Pos}:PS X (.Pass pos) (tS C fun ρ=>.nx ρ):=qao ps_pass fun D σ H q=>by obtain⟨ρ,P,N,S,h⟩:=q;exact h σ P N H S (Cm.Same.refl _) (Cm.Same.refl _)
theorem qr5 {x:Str} {j:Nat} {pos pos':Pos}:PS X (.Expr (.Constant (.str x) j pos) pos') (tS C fun ρ=>.nx ρ):=qao ps_doc fun D σ H q=>by obtain⟨ρ,P,N,S,h⟩:=q;exact h σ P N H S (Cm.Same.refl _) (Cm.Same.refl _)
theorem qrd {pos:Pos}:PS X (.Break pos) (tS C fun ρ=>.brk ρ):=qao ps_break fun D σ H q=>by obtain⟨ρ,P,N,S,h⟩:=q;exact h σ P N H S (Cm.Same.refl _) (Cm.Same.refl _)
theorem qsC {pos:Pos}:PS X (.Continue pos) (tS C fun ρ=>.cnt ρ):=qao ps_continue fun D σ H q=>by obtain⟨ρ,P,N,S,h⟩:=q;exact h σ P N H S (Cm.Same.refl _) (Cm.Same.refl _)
theorem qo1 {pos:Pos}:PS X (.Return none pos) (tS C fun _=>.ret (.val .non true)):=qao ps_retN fun D σ H q=>by obtain⟨ρ,P,N,S,h⟩:=q;exact h .non P N H S.reg rfl
theorem qrG {e:Expr} {g:List Sl→RE ER} {pos:Pos} (h:PE X e (tE C g)):PS X (.Return (some e) pos) (tS C fun ρ=>(g ρ).out fun x=>.ret (qvj x)):=
 qao (ps_ret h) fun D σ H q=>by
  obtain⟨ρ,P,N,S,h⟩:=q
  refine⟨ρ,P,N,S,(h.res S.reg).mono fun x P1 N1 H1 _ a1 h1 v rv=>?_⟩
  have r1:=(S.adv a1).reg
  refine h1 v P1 N1 H1 r1 ?_
  cases x with
  |val d b=>exact rv
  |fre ds b=>exact rv.from S.reg.bH
  |brw ds b =>
   obtain⟨p,xs,e,z1,z2,z3,z4,z5⟩:=rv
   exact⟨p,xs,e,z1,z4,z2,z3,z5⟩
theorem qqb {e:Expr} {g:List Sl→RE ER} {pos:Pos} (h:PE X e (tE C g)) (hs:swapsWith e none pos.line X.env=pure false):PS X (.Expr e pos) (tS C fun ρ=>(g ρ).out fun _=>.nx ρ):=
 qao (ps_expr h hs) fun D σ H q=>by
  obtain⟨ρ,P,N,S,h⟩:=q
  exact⟨ρ,P,N,S,(h.res S.reg).mono fun x P1 N1 H1 _ a1 h1 v rv=>h1 σ P1 N1 H1 (S.adv a1) a1.pp a1.nn⟩
theorem qr3 {c:Expr} {a b:List Stmt} {gc:List Sl→RE Bool} {ga gb:List Sl→Out} {pos:Pos} (hc:PT X c (tT C gc)) (ha:PSs X a (tS C ga)) (hb:PSs X b (tS C gb)):PS X (.If c a b pos) (tS C fun ρ=>(gc ρ).out fun k=>if k=true then ga ρ else gb ρ):=
 qao (ps_if hc ha hb) fun D σ H q=>by
  obtain⟨ρ,P,N,S,h⟩:=q
  refine⟨ρ,P,N,S,(h.res S.reg).mono fun k P1 N1 H1 _ a1 h1=>?_⟩
  cases k
  ·exact⟨ρ,P1,N1,S.adv a1,h1.adv a1.pp a1.nn⟩
  ·exact⟨ρ,P1,N1,S.adv a1,h1.adv a1.pp a1.nn⟩
theorem ERr.held {P1 N1 H0 P N H:Hp} {er:ER} {v:V} {f:Cm.D→Bool→Out} {D:Ends} (a:Adv P1 N1 H0 P N H) (h:ERr C P N H H0 er v) (o:outS C P1 N1 D (held er f)):∃N2 d b,Adv P1 N1 H0 P N2 H∧RepB C P N2 b d v∧outS C P1 N1 D (f d b):=by
 cases er with
 |brw ds b=>exact o.elim
 |val d b=>exact⟨N,d,b,a,h,o⟩
 |fre ds b =>
  obtain⟨N2,a2,r2⟩:=h.freeze a
  exact⟨N2,.lst ds,b,a2,r2,o⟩
theorem qso {i:Nat} {g:List Sl→RE ER} {D:Ends} {σ:L2.St} {H:Hp} (q:tS C (fun ρ=>(g ρ).out fun x=>held x fun d b=>.nx (ρ.set i (.val d b))) D σ H):tAsg (tE C g) (gName i) D σ H:=by
 obtain⟨ρ,P,N,S,h⟩:=q
 refine⟨ρ,P,N,S,(h.res S.reg).mono fun x P1 N1 H1 _ a1 h1 v rv=>?_⟩
 obtain⟨N2,d,b,a2,r2,o⟩:=rv.held a1 h1
 exact o _ P1 N2 H1 ((S.adv a2).setV r2) a2.pp a2.nn
theorem SR.newW {P0 N0 H0 H:Hp} {ρ:List Sl} {σ:L2.St} (S0:SR C P0 N0 H0 ρ σ) (hs:Cm.Same H0 H) {p:Addr} (h0:H0 p=none) {j:Nat} {dss:List (List Cm.D)} {u:Option V} (e1:ρ[j]? = some (.row dss)) (e2:σ[j]? = some u):¬Held H (.row dss) u p:=fun k=>by
 obtain⟨o,z1,z2⟩:=S0.sl j _ e1
 rw[z1] at e2;cases e2
 have k0:Held H0 (.row dss) u p:=by
  obtain⟨q,ps,rfl,y1,_⟩:=z2
  cases k with
  |rt=>exact .rt
  |it e m =>
   rw[hs _ _ y1] at e
   injection e with e
   injection e with e
   rw[←qgs e] at m
   exact .it y1 m
 obtain⟨⟨xs,q⟩,_⟩:=z2.held k0
 rw[h0] at q;cases q
theorem SR.setO {P0 N0 H0 P N H:Hp} {ρ:List Sl} {σ:L2.St} (S0:SR C P0 N0 H0 ρ σ) (S:SR C P N H ρ σ) (hs:Cm.Same H0 H) {i:Nat} {ds:List Cm.D} {b:Bool} {p:Addr} {xs:List V} (h0:H0 p=none) (hp:H p=some (.lst xs)) (pP:P p=none) (pN:N p=none) (h:RepsB C P N b ds xs):SR C P N H (ρ.set i (.own ds b)) (σ.set i (some (.ref p))) where
 reg:=S.reg
 len:=by simp[S.len]
 sl:=fun j s e=>by
  by_cases q:i=j
  ·subst q
   have hi:i<ρ.length:=by
    rcases Nat.lt_or_ge i ρ.length with z | z
    ·exact z
    ·rw[List.getElem?_eq_none (by simpa using z)] at e;cases e
   rw[List.getElem?_set_self hi] at e
   cases e
   exact⟨_,List.getElem?_set_self (by rw[S.len];exact hi),p,xs,rfl,hp,pP,pN,S0.reg.bH.free h0,h⟩
  ·rw[List.getElem?_set_ne q] at e
   rw[List.getElem?_set_ne q]
   exact S.sl j s e
 ap:=fun j k r ds' c es c' e1 e2 e3 e4=>by
  have old:∀{m:Nat} {r:Addr} {es:List Cm.D} {c:Bool},i≠m→(ρ.set i (.own ds b))[m]? = some (.own es c)→(σ.set i (some (.ref p)))[m]? = some (some (.ref r))→H0 r≠none:=fun {m r es c} hm e1 e2=>by
   rw[List.getElem?_set_ne hm] at e1 e2
   obtain⟨o,z1,q,ys,z2,z3,_⟩:=S0.sl m _ e1
   rw[z1] at e2
   cases e2
   cases z2
   rw[z3];simp
  have here:∀{m:Nat} {r:Addr},i=m→m<σ.length→(σ.set i (some (.ref p)))[m]? = some (some (.ref r))→r=p:=fun {m r} hm hl e=>by
   subst hm
   rw[List.getElem?_set_self hl] at e
   cases e;rfl
  have lt:∀{m:Nat} {o:Option V},(σ.set i (some (.ref p)))[m]? = some o→m<σ.length:=fun {m o} e=>by
   rcases Nat.lt_or_ge m σ.length with z | z
   ·exact z
   ·rw[List.getElem?_eq_none (by simpa using z)] at e;cases e
  by_cases q:i=j
  ·by_cases q2:i=k
   ·omega
   ·have:=here q (lt e3) e3
    subst this
    exact absurd h0 (old q2 e2 e4)
  ·by_cases q2:i=k
   ·have:=here q2 (lt e4) e4
    subst this
    exact absurd h0 (old q e1 e3)
   ·rw[List.getElem?_set_ne q] at e1 e3
    rw[List.getElem?_set_ne q2] at e2 e4
    exact S.ap j k r ds' c es c' e1 e2 e3 e4
 ad:=S.ad.set rfl
 ar:=S.ar.setO fun j dss u _ e1 e2=>S0.newW hs h0 e1 e2
theorem qrs {i:Nat} {g:List Sl→RE ER} {D:Ends} {σ:L2.St} {H:Hp} (q:tS C (fun ρ=>(g ρ).out fun x=>match x with
  |.fre ds b=>.nx (ρ.set i (.own ds b))
  |.val .non _=>.nx (ρ.set i (.val .non true))
  |_=>.bad) D σ H):tAsg (tE C g) (gName i) D σ H:=by
 obtain⟨ρ,P,N,S,h⟩:=q
 refine⟨ρ,P,N,S,(h.res S.reg).mono fun x P1 N1 H1 _ a1 h1 v rv=>?_⟩
 cases x with
 |fre ds b =>
  obtain⟨p,xs,rfl,z1,z2,z3,z4,z5⟩:=rv
  exact h1 _ P1 N1 H1 (S.setO (S.adv a1) a1.hh z2 z1 z3 z4 z5) a1.pp a1.nn
 |val d b =>
  cases d with
  |non=>exact h1 _ P1 N1 H1 ((S.adv a1).setV rv) a1.pp a1.nn
  |_=>exact h1.elim
 |brw _ _=>exact h1.elim
theorem qpS {t e:Expr} {tg:List Nat} {g:List Sl→RE ER} {pos:Pos} (h:PE X e (tE C g)) (ht:PG X t (tG C tg)) (hs:swapsWithSole [t] e pos.line X.env=pure false) (hw:swappedStores [t] e X.env=pure none) (h1:(assignEach [t] X.env).map (·.2)=[assign t X.env]) :
  PS X (.Assign [t] e pos) (tS C fun ρ=>(g ρ).out fun x=>held x fun d b=>onB (qcx tg d b ρ) .nx):=
 qao (ps_asg h ht hs hw h1) fun D σ H q=>by
  obtain⟨ρ,P,N,S,h⟩:=q
  refine⟨ρ,P,N,S,(h.res S.reg).mono fun x P1 N1 H1 _ a1 h1 v rv=>?_⟩
  obtain⟨N2,d,b,a2,r2,o⟩:=rv.held a1 h1
  cases e:qcx tg d b ρ with
  |some ρ' =>
   rw[e] at o
   exact⟨ρ,P1,N2,d,b,ρ',S.adv a2,r2,e,fun σ' S' _ _=>o σ' P1 N2 H1 S' a2.pp a2.nn⟩
  |none=>rw[e] at o;exact o.elim
theorem qc9 {P N:Hp} {D:Ends} {ρ:List Sl} {i:Nat} {f:List Cm.D→Bool→Out} (h:outS C P N D (qbX ρ i f)):∃ds b,ρ[i]? = some (.own ds b)∧outS C P N D (f ds b):=by
 unfold qbX at h
 split at h
 ·rename_i ds b e
  exact⟨ds,b,e,h⟩
 ·exact h.elim
theorem SR.write {P N H:Hp} {ρ:List Sl} {σ:L2.St} (S:SR C P N H ρ σ) {i:Nat} {ds ds':List Cm.D} {b b':Bool} {p:Addr} {xs':List V} (e:ρ[i]? = some (.own ds b)) (eσ:σ[i]? = some (some (.ref p))) (h:RepsB C P N b' ds' xs'):SR C P N (upd H p (.lst xs')) (ρ.set i (.own ds' b')) σ:=by
 obtain⟨o,z1,q,xs,z2,z3,z4,z5,z6,z7⟩:=S.sl i _ e
 rw[z1] at eσ;cases eσ;cases z2
 have hi:i<ρ.length:=(List.getElem?_eq_some_iff.mp e).1
 refine⟨⟨qbg S.reg.pH z4,qbg S.reg.nH z5,qbg S.reg.bH z6,S.reg.rB,S.reg.p0,S.reg.pn,S.reg.nw,S.reg.dj,qgn z3 S.reg.tb,S.reg.tf⟩,by simp[S.len],fun j s ej=>?_,fun j k r ds1 c es c' e1 e2 e3 e4=>?_,S.ad.setS rfl,(S.ar.own e).heap fun j dss r ej ej2=>upd_ne fun er=>?_⟩
 ·by_cases q:i=j
  ·subst q
   rw[List.getElem?_set_self hi] at ej
   cases ej
   exact⟨_,z1,p,xs',rfl,upd_same,z4,z5,z6,h⟩
  ·rw[List.getElem?_set_ne q] at ej
   obtain⟨o,y1,y2⟩:=S.sl j s ej
   refine⟨o,y1,?_⟩
   cases s with
   |non=>trivial
   |val d b=>exact y2
   |own es c =>
    obtain⟨r,ys,y3,y4,y5⟩:=y2
    have hr:r≠p:=fun er=>q (S.ap i j p ds b es c e ej z1 (by rw[y1,y3,er]))
    exact⟨r,ys,y3,by rw[upd_ne hr];exact y4,y5⟩
   |slf c fs =>
    obtain⟨r,dx,ys,y3,y4,y5⟩:=y2
    have hr:r≠p:=fun er=>by rw[er,z3] at y4;cases y4
    exact⟨r,dx,ys,y3,by rw[upd_ne hr];exact y4,y5⟩
   |fxd d k=>exact y2
   |dct m c =>
    obtain⟨r,es,y3,y4,y5⟩:=y2
    have hr:r≠p:=fun er=>by rw[er,z3] at y4;cases y4
    exact⟨r,es,y3,by rw[upd_ne hr];exact y4,y5⟩
   |row dss =>
    have far:∀a,Held H (.row dss) o a→a≠p:=fun a k er=>q (S.ar.un j i dss _ _ _ a ej e y1 z1 k (by rw[er];exact .own)).symm
    obtain⟨r,ps,rfl,y4,y5,y6,y7,y8,y9⟩:=y2
    refine⟨r,ps,rfl,by rw[upd_ne (far r .rt)];exact y4,y5,y6,y7,?_,y9⟩
    exact y8.sub fun a m ds ⟨xs,g1,g2⟩=>⟨xs,by rw[upd_ne (far a (.it y4 m))];exact g1,g2⟩
 ·have un:∀{m:Nat} {es:List Cm.D} {c:Bool},(ρ.set i (.own ds' b'))[m]? = some (.own es c)→∃es' c',ρ[m]? = some (.own es' c'):=fun {m es c} em=>by
   by_cases q:i=m
   ·subst q;exact⟨_,_,e⟩
   ·rw[List.getElem?_set_ne q] at em;exact⟨_,_,em⟩
  obtain⟨_,_,f1⟩:=un e1
  obtain⟨_,_,f2⟩:=un e2
  exact S.ap j k r _ _ _ _ f1 f2 e3 e4
 ·rcases qa4 ej with⟨_,z⟩ | ⟨qn,z⟩
  ·cases z
  ·exact qn (S.ar.un j i dss _ _ _ p z e ej2 z1 (by rw[er];exact .rt) .own).symm
theorem SR.root {P N H:Hp} {ρ:List Sl} {σ:L2.St} (S:SR C P N H ρ σ) {i:Nat} {ds:List Cm.D} {b:Bool} (e:ρ[i]? = some (.own ds b)):∃p xs,σ[i]? = some (some (.ref p))∧H p=some (.lst xs)∧P p=none∧N p=none∧C.B p=none∧RepsB C P N b ds xs:=by
 obtain⟨o,z1,p,xs,rfl,z2⟩:=S.sl i _ e
 exact⟨p,xs,z1,z2⟩
theorem qrr {i:Nat} {g:List Sl→Out} {D:Ends} {σ:L2.St} {H:Hp} (q:tS C (fun ρ=>qbX ρ i fun ds b=>g (ρ.set i (.val (.lst ds) b))) D σ H):tS C g D σ H:=by
 obtain⟨ρ,P,N,S,h⟩:=q
 obtain⟨ds,b,e,o⟩:=qc9 h
 obtain⟨p,xs,z1,z2,z3,z4,z5,z6⟩:=S.root e
 have hi:i<ρ.length:=(List.getElem?_eq_some_iff.mp e).1
 have sn:Cm.Same N (upd N p (.lst xs)):=qbN z4
 refine⟨ρ.set i (.val (.lst ds) b),P,upd N p (.lst xs),⟨⟨S.reg.pH,qlh S.reg.nH z2,S.reg.bH,S.reg.rB,S.reg.p0,S.reg.pn,fun a ha=>?_,fun a ha=>?_,S.reg.tb,⟨S.reg.tf.1,S.reg.tf.2.1.upd,S.reg.tf.2.2⟩⟩,by simp[S.len],fun j s ej=>?_,fun j k r ds1 c es c' e1 e2 e3 e4=>?_,S.ad.setS rfl,S.ar.setS rfl⟩,o.adv (Cm.Same.refl _) sn⟩
 ·by_cases q:a=p
  ·rw[q];exact z5
  ·rw[upd_ne q] at ha;exact S.reg.nw a ha
 ·by_cases q:a=p
  ·rw[q];exact z3
  ·rw[upd_ne q] at ha;exact S.reg.dj a ha
 ·by_cases q:i=j
  ·subst q
   rw[List.getElem?_set_self hi] at ej
   cases ej
   exact⟨_,z1,_,rfl,p,xs,rfl,.inl upd_same,RepsB.adv (Cm.Same.refl _) sn z6⟩
  ·rw[List.getElem?_set_ne q] at ej
   obtain⟨o,y1,y2⟩:=S.sl j s ej
   refine⟨o,y1,?_⟩
   cases s with
   |non=>trivial
   |val d b=>obtain⟨v,y3,y4⟩:=y2;exact⟨v,y3,RepB.adv (Cm.Same.refl _) sn y4⟩
   |own es c =>
    obtain⟨r,ys,y3,y4,y5,y6,y7,y8⟩:=y2
    have hr:r≠p:=fun er=>q (S.ap i j p ds b es c e ej z1 (by rw[y1,y3,er]))
    exact⟨r,ys,y3,y4,y5,by rw[upd_ne hr];exact y6,y7,RepsB.adv (Cm.Same.refl _) sn y8⟩
   |slf c fs =>
    obtain⟨r,dx,ys,y3,y4,y5,y6,y7,y8,y9⟩:=y2
    have hr:r≠p:=fun er=>by rw[er,z2] at y4;cases y4
    exact⟨r,dx,ys,y3,y4,y5,by rw[upd_ne hr];exact y6,y7,y8,RepsB.adv (Cm.Same.refl _) sn y9⟩
   |fxd d k=>obtain⟨v,y3,y4,y5⟩:=y2;exact⟨v,y3,y4,RepB.adv (Cm.Same.refl _) sn y5⟩
   |dct m c =>
    obtain⟨r,es,y3,y4,y5,y6,y7,y8⟩:=y2
    have hr:r≠p:=fun er=>by rw[er,z2] at y4;cases y4
    exact⟨r,es,y3,y4,y5,by rw[upd_ne hr];exact y6,y7,y8.adv (Cm.Same.refl _) sn⟩
   |row dss =>
    have far:∀a,Held H (.row dss) o a→a≠p:=fun a k er=>q (S.ar.un j i dss _ _ _ a ej e y1 z1 k (by rw[er];exact .own)).symm
    obtain⟨r,ps,rfl,y4,y5,y6,y7,y8,y9⟩:=y2
    refine⟨r,ps,rfl,y4,y5,by rw[upd_ne (far r .rt)];exact y6,y7,?_,y9⟩
    exact y8.sub fun a m ds ⟨xs,g1,g2,g3,g4,g5,g6⟩=>⟨xs,g1,g2,by rw[upd_ne (far a (.it y4 m))];exact g3,g4,g5,RepsB.adv (Cm.Same.refl _) sn g6⟩
 ·have un:∀{m:Nat} {es:List Cm.D} {c:Bool},(ρ.set i (.val (.lst ds) b))[m]? = some (.own es c)→ρ[m]? = some (.own es c):=fun {m es c} em=>by
   by_cases q:i=m
   ·subst q;rw[List.getElem?_set_self hi] at em;cases em
   ·rw[List.getElem?_set_ne q] at em;exact em
  exact S.ap j k r _ _ _ _ (un e1) (un e2) e3 e4
end
end Cm
namespace Cm
open PySem PySem.Spec PyProof.Rows L2
variable [HasT]
section
variable {C:Ctx} {X:Cx}
theorem qss {i:Nat} {g:List Sl→RE ER} {D:Ends} {σ:L2.St} {H:Hp} {K:PySem.W.Frag} (q:tS C (fun ρ=>qbX ρ i fun ds c=>(g ρ).out fun x=>held x fun d b=>gdO (leB (ds.length+1)) (.nx (ρ.set i (.own (ds++[d]) (b&&c))))) D σ H) :
  tDrop (tBM K "list" rAppend (tVar i) (tCons (tE C g) tNil)) D σ H:=by
 obtain⟨ρ,P,N,S,h⟩:=q
 obtain⟨ds,c,e,o⟩:=qc9 h
 obtain⟨p,xs,z1,z2,z3,z4,z5,z6⟩:=S.root e
 refine⟨_,z1,.inl ⟨rfl,xs,.inl (.inl z2)⟩,ρ,P,N,S,(o.res S.reg).mono fun x P1 N1 H1 _ a1 h1 v rv=>?_⟩
 obtain⟨N2,d,b,a2,r2,o⟩:=rv.held a1 h1
 simp only[qbu,qat] at o
 split at o
 ·rename_i hl
  refine⟨p,xs,v,rfl,rfl,a1.hh _ _ z2,by rw[z6.length];exact hl,?_⟩
  exact o _ P1 N2 _ ((S.adv a2).write e z1 (Reps.append (RepsB.and2 (RepsB.adv a2.pp a2.nn z6)) (Reps.one (RepB.and1 r2)))) a2.pp a2.nn
 ·exact o.elim
theorem qrI {i:Nat} {D:Ends} {σ:L2.St} {H:Hp} {K:PySem.W.Frag} (q:tS C (fun ρ=>qbX ρ i fun _ _=>.nx (ρ.set i (.own [] true))) D σ H):tDrop (tBM0 K "list" rClear (tVar i)) D σ H:=by
 obtain⟨ρ,P,N,S,h⟩:=q
 obtain⟨ds,c,e,o⟩:=qc9 h
 obtain⟨p,xs,z1,z2,z3,z4,z5,z6⟩:=S.root e
 exact⟨_,z1,.inl ⟨rfl,xs,.inl (.inl z2)⟩,p,xs,rfl,rfl,z2,o _ P N _ (S.write e z1 rfl) (Cm.Same.refl _) (Cm.Same.refl _)⟩
theorem qse {i:Nat} {g gi:List Sl→RE ER} {D:Ends} {σ:L2.St} {H:Hp} (q:tS C (fun ρ=>(g ρ).out fun x=>held x fun d b=>qbX ρ i fun ds c=>(gi ρ).out fun k=>match k.d with
  |.int k=>match ixN ds.length k with
   |some j=>.nx (ρ.set i (.own (ds.set j d) (b&&c)))
   |none=>.bad
  |_=>.bad) D σ H):tAsg (tE C g) (gSub (tVar i) (tE C gi) rSetL) D σ H:=by
 obtain⟨ρ,P,N,S,h⟩:=q
 refine⟨ρ,P,N,S,(h.res S.reg).mono fun x P1 N1 H1 _ a1 h1 v rv=>?_⟩
 obtain⟨N2,d,b,a2,r2,o⟩:=rv.held a1 h1
 have S2:=S.adv a2
 obtain⟨ds,c,e,o⟩:=qc9 o
 obtain⟨p,xs,z1,z2,z3,z4,z5,z6⟩:=S2.root e
 refine⟨_,z1,ρ,P1,N2,S2,((o.adv a2.pp a2.nn).res S2.reg).mono fun k P3 N3 H3 _ a3 h3 u ru=>?_⟩
 have r3:=(S2.adv a3).reg
 split at h3
 ·rename_i k' ek
  have w:=ru.w r3
  rw[ek] at w
  cases w.int
  split at h3
  ·rename_i j ej
   refine⟨p,xs,k',j,rfl,rfl,a3.hh _ _ z2,by rw[z6.length];exact ej,?_⟩
   exact h3 _ P3 N3 _ ((S2.adv a3).write e z1 (Reps.set (RepB.and1 (RepB.adv a3.pp a3.nn r2)) j (RepsB.and2 (RepsB.adv a3.pp a3.nn z6)))) a3.pp a3.nn
  ·exact h3.elim
 ·exact h3.elim
theorem qsg {gi:List Sl→RE Wk} {tg:List Nat} {gb:List Sl→Out} {D:Ends} {σ:L2.St} {H:Hp} (q:tS C (fun ρ=>(gi ρ).out fun w=>if w.own=true then .bad else qfR (fun x ρ=>onB (qcx tg x w.b ρ) gb) w.xs ρ) D σ H):tFor (tI C gi) (tG C tg) (tS C gb) D σ H:=by
 obtain⟨ρ,P,N,S,h⟩:=q
 refine⟨ρ,P,N,S,(h.res S.reg).mono fun w P1 N1 H1 _ a1 h1 J wj=>?_⟩
 split at h1
 ·exact h1.elim
 rename_i how
 have how:w.own=false:=by simpa using how
 obtain⟨Gd,Y,wk,_,stay,item⟩:=wj
 generalize hf:(fun x ρ=>onB (qcx tg x w.b ρ) gb)=f at h1
 have r1:=(S.adv a1).reg
 refine for_it wk (Pv:=fun i σ' H'=>∃ρ' P' N',SR C P' N' H' ρ' σ'∧Cm.Same P1 P'∧Cm.Same N1 N'∧outS C P1 N1 D (qfR f (w.xs.drop i) ρ')) ?_ (fun i σ' H' hi p=>?_) (fun i x σ' H' H'' hi p y=>?_) (fun σ' H' p=>?_)
 ·exact⟨ρ,P1,N1,S.adv a1,Cm.Same.refl _,Cm.Same.refl _,by simpa using h1.adv a1.pp a1.nn⟩
 ·obtain⟨ρ',P',N',S',s1,s2,_⟩:=p
  exact stay how P' N' H' s1 s2 S'.reg
 ·obtain⟨ρ',P',N',S',s1,s2,o⟩:=p
  obtain⟨P3,a3,d,ed,rd⟩:=item i P' N' H' x H'' hi s1 s2 S'.reg y
  have hdrop:w.xs.drop i=d::w.xs.drop (i+1):=by
   obtain⟨hi',e⟩:=List.getElem?_eq_some_iff.mp ed
   rw[List.drop_eq_getElem_cons hi',e]
  rw[hdrop] at o
  have o2:outS C P1 N1 D (match f d ρ' with
   |.nx ρ'=>qfR f (w.xs.drop (i+1)) ρ'
   |.cnt ρ'=>qfR f (w.xs.drop (i+1)) ρ'
   |.brk ρ'=>.nx ρ'
   |o=>o):=o
  have ef:f d ρ'=onB (qcx tg d w.b ρ') gb:=by rw[←hf]
  cases eb:qcx tg d w.b ρ' with
  |none=>rw[ef,eb] at o2;exact o2.elim
  |some ρ2 =>
   rw[ef,eb,qlA] at o2
   refine⟨ρ',P3,N',d,w.b,ρ2,S'.adv a3,rd,eb,fun σ2 S2 _ _=>⟨ρ2,P3,N',S2,?_⟩⟩
   have t1:=s1.trans a3.pp
   cases e3:gb ρ2 with
   |bad=>simp only[e3] at o2;exact o2
   |nx ρ3=>simp only[e3] at o2;exact fun σ4 P4 N4 H4 S4 e1 e2=>⟨ρ3,P4,N4,S4,t1.trans e1,s2.trans e2,o2⟩
   |cnt ρ3=>simp only[e3] at o2;exact fun σ4 P4 N4 H4 S4 e1 e2=>⟨ρ3,P4,N4,S4,t1.trans e1,s2.trans e2,o2⟩
   |brk ρ3=>simp only[e3] at o2;exact fun σ4 P4 N4 H4 S4 e1 e2=>o2 σ4 P4 N4 H4 S4 (t1.trans e1) (s2.trans e2)
   |ret er=>simp only[e3] at o2;exact o2
   |exc c fs=>simp only[e3] at o2;exact o2
 ·obtain⟨ρ',P',N',S',s1,s2,o⟩:=p
  rw[List.drop_length] at o
  exact o σ' P' N' H' S' s1 s2
theorem qq0 {gc:List Sl→RE Bool} {gb:List Sl→Out} {n:Nat} {D:Ends} {σ:L2.St} {H:Hp} (q:tS C (fun ρ=>qgi gc gb n ρ) D σ H):tWhile (tT C gc) (tS C gb) D σ H:=by
 obtain⟨ρ,P,N,S,h⟩:=q
 refine⟨fun m σ' H'=>∃ρ' P' N',SR C P' N' H' ρ' σ'∧Cm.Same P P'∧Cm.Same N N'∧outS C P N D (qgi gc gb m ρ'),⟨n,ρ,P,N,S,Cm.Same.refl _,Cm.Same.refl _,h⟩,fun m σ' H' p=>?_⟩
 obtain⟨ρ',P',N',S',s1,s2,o⟩:=p
 cases m with
 |zero=>exact o.elim
 |succ m =>
  have o2:outS C P N D ((gc ρ').out fun k=>if k=true then (match gb ρ' with
   |.nx ρ'=>qgi gc gb m ρ'
   |.cnt ρ'=>qgi gc gb m ρ'
   |.brk ρ'=>.nx ρ'
   |o=>o) else .nx ρ'):=o
  refine⟨ρ',P',N',S',((o2.adv s1 s2).res S'.reg).mono fun k P1 N1 H1 _ a1 h1=>?_⟩
  cases k with
  |false=>exact h1 σ' P1 N1 H1 (S'.adv a1) a1.pp a1.nn
  |true =>
   simp only[if_true] at h1 ⊢
   refine⟨fun σ' H'=>∃ρ' P' N',SR C P' N' H' ρ' σ'∧Cm.Same P P'∧Cm.Same N N'∧outS C P N D (qgi gc gb m ρ'),fun σ2 H2 z=>⟨m,Nat.lt_succ_self m,z⟩,ρ',P1,N1,S'.adv a1,?_⟩
   have t1:=s1.trans a1.pp
   have t2:=s2.trans a1.nn
   have o3:gc ρ'=.ok true:=by assumption
   rw[o3] at o2
   simp only[RE.out_ok,if_true] at o2
   cases e3:gb ρ' with
   |bad=>simp only[e3] at o2;exact o2
   |nx ρ3=>simp only[e3] at o2;exact fun σ4 P4 N4 H4 S4 e1 e2=>⟨ρ3,P4,N4,S4,t1.trans e1,t2.trans e2,o2⟩
   |cnt ρ3=>simp only[e3] at o2;exact fun σ4 P4 N4 H4 S4 e1 e2=>⟨ρ3,P4,N4,S4,t1.trans e1,t2.trans e2,o2⟩
   |brk ρ3=>simp only[e3] at o2;exact fun σ4 P4 N4 H4 S4 e1 e2=>o2 σ4 P4 N4 H4 S4 (t1.trans e1) (t2.trans e2)
   |ret er=>simp only[e3] at o2;exact o2
   |exc c fs=>simp only[e3] at o2;exact o2
end
end Cm
namespace Cm
open PySem PySem.Spec PyProof.Rows L2
variable [HasT]
structure Tb where
 N:List Str
 fn:List (Str × Nat)
 gc:List Str
 mn:List (Str × Nat)
 fs:List Str
 nw:List (Str × Nat):=[]
 ck:List (Str × Bool):=[]
 xk:List Str:=[]
 dc:List Str:=[]
 fo:List (Str × Nat):=[]
 lm:Option (Addr × Addr):=none
def qmt (sc:Scope) (x:Str):Bool:=match sc.names.lookup x with
 |some .local=>true
 |some .cell=>true
 |some .free=>true
 |_=>false
def glB (sc:Scope) (x:Str):Bool:=match sc.names.lookup x with
 |some .globalImplicit=>true
 |_=>false
def tgB (fc:Option Scope) (sc:Scope) (x:Str):Bool:=match sc.names.lookup x with
 |some .local=>true
 |some .cell=>(match fc with
  |none=>true
  |some so=>so.names.lookup x == some .cell)
 |_=>false
def nmB (x:Str):Bool:=!(x == ("__debug__" : Str)) && !(x == ("__classdict__" : Str))
def qag:Expr→Bool
 |.Starred _ _=>false
 |_=>true
def qgo:Expr→Bool
 |.Slice _ _ _ _=>false
 |_=>true
def qjN:Expr→Bool
 |.Call (.Name _ _) [] [] _=>false
 |_=>true
def qjq:Expr→Bool
 |.Set _ _ _=>false
 |_=>true
def qd2:Expr→Bool
 |.ListComp _ _ _ _=>false
 |.SetComp _ _ _ _=>false
 |.DictComp _ _ _ _ _=>false
 |_=>true
theorem qac {e:Expr} {es:List Expr} {env:PySem.Env} (h:qag e=true):starEach (e::es) env=(false,eval e env)::starEach es env:=by
 cases e<;>first | rfl | cases h
theorem qet {env:PySem.Env} {pos:Pos}:∀{es:List Expr},es.all qag=true→(backTo pos (starEach es env)).any (·.1)=false
 |[],_=>rfl
 |e::es,h=>by
  simp only[List.all_cons,Bool.and_eq_true] at h
  rw[qac h.1]
  have:=qet (env:=env) (pos:=pos) h.2
  unfold backTo at this ⊢
  simpa using this
theorem qfo {X:Cx} {es:List Expr} (h:es.all qag=true):qoo X es:=⟨fun e r q=>by
 subst q
 simp only[List.all_cons,Bool.and_eq_true] at h
 exact qac h.1,fun pos e r q=>by
 subst q
 simp only[List.all_cons,Bool.and_eq_true] at h
 exact qet h.2⟩
theorem qeV {o:Expr} {m:Str} {env:PySem.Env} {w:Sem Value} (h:qjN o=true):attributeBase o m env w=w:=by
 cases o with
 |Call f as ks p =>
  cases f with
  |Name x q =>
   cases as with
   |nil =>
    cases ks with
    |nil=>cases h
    |cons _ _=>rfl
   |cons _ _=>rfl
  |_=>rfl
 |_=>rfl
theorem qps {o:Expr} {m:Str} {apos pos:Pos} {es:List Expr} {env:PySem.Env} (hb:qjN o=true) (hs:es.all qag=true) (hn:es.length<20) (hl:(apos.endLine == pos.line)=true) :
  eval (.Call (.Attribute o m apos) es [] pos) env=(do
   let ov ←eval o env
   standAt apos.atName
   let (f,first) ←holding [ov] (getMethod ov m (plainOf o env))
   callWith pos f first (backTo pos (starEach es env)) (backToKw pos (keywordEach [] env))):=by
 have e1:eval (.Call (.Attribute o m apos) es [] pos) env=(do
   let ov ←attributeBase o m env (eval o env)
   standAt apos.atName
   methodCall o m apos pos env ov (es.length+([]:List Keyword).length) (backTo pos (starEach es env)) (backToKw pos (keywordEach [] env))):=by
  rfl
 rw[e1,qeV hb]
 have hf:methodCallForm (es.length+([]:List Keyword).length) (backTo pos (starEach es env)) (backToKw pos (keywordEach [] env))=true:=by
  unfold methodCallForm
  have:=qet (env:=env) (pos:=pos) hs
  have e:(backTo pos (starEach es env)).all (fun x=>!x.1)=true:=by
   rw[List.all_eq_not_any_not]
   simpa using this
  rw[e]
  simp[backToKw,keywordEach]
  omega
 have:∀ov,methodCall o m apos pos env ov (es.length+([]:List Keyword).length) (backTo pos (starEach es env)) (backToKw pos (keywordEach [] env))=_:=fun ov=>mcall_line hf hl
 simp only[this]
theorem qtZ {e:Expr} {env:PySem.Env} (h:(match e with
  |.UnaryOp .Not _ _=>false
  |.BoolOp _ _ _=>false
  |.IfExp _ _ _ _=>false
  |.Compare _ _ _ _=>false
  |_=>true)=true):∀whole,isTrue e env whole=(do let v ←whole;standAt e.pos;holding [v] (truthy v)):=by
 cases e with
 |UnaryOp o a p=>cases o<;>first | (intro _;rfl) | cases h
 |BoolOp _ _ _=>cases h
 |IfExp _ _ _ _=>cases h
 |Compare _ _ _ _=>cases h
 |_=>intro _;rfl
theorem qgG {e:Expr} {t:Option Expr} {l:Nat} {env:PySem.Env} (h:qd2 e=true):swapsWith e t l env=pure false:=by
 cases e<;>first | rfl | cases h
theorem qfJ {e:Expr} {env:PySem.Env} (h:qjq e=true):∀x,foldedSetIterable e env x=pure x:=by
 cases e<;>first | (intro _;rfl) | cases h
theorem qvR {e:Expr} (h:qgo e=true):PlainIx e:=by
 cases e<;>first | (intro _ _;rfl) | cases h
end Cm
set_option maxHeartbeats 1000000
namespace Cm
open PySem PySem.Spec PyProof.Rows L2
variable [HasT]
section
variable {C:Ctx} {X:Cx}
abbrev qwB (go g:List Sl→RE ER):List Sl→RE ER:=fun ρ=>(go ρ).bind fun x=>match x.d with
  |.lst xs=>(g ρ).bind fun y=>qqQ xs y.d
  |_=>.bad
abbrev quc (go g:List Sl→RE ER):List Sl→RE ER:=fun ρ=>(go ρ).bind fun x=>match x.d with
  |.str s=>(g ρ).bind fun y=>qlQ s y.d
  |_=>.bad
theorem qph {go g:List Sl→RE ER} {σ:L2.St} {H:Hp} {Q:VK} (h:tE C (quc go g) σ H Q):tM1 (fun x xs H Q=>∃a b i rest,x=.str a∧xs=[.str b]∧Builtin.Str.occurrences a b 0 a.length 1=i::rest∧Q (.int (i:Nat)) H) (tE C go) (tE C g) σ H Q:=by
 obtain⟨ρ,P,N,S,h⟩:=h
 refine⟨ρ,P,N,S,h.bind.mono fun x P1 N1 H1 _ a1 h1 v rv=>?_⟩
 have r1:=(S.adv a1).reg
 split at h1
 ·rename_i s q
  have w:=rv.w r1
  rw[q] at w
  cases w.str
  refine⟨⟨_,rfl⟩,ρ,P1,N1,S.adv a1,(res.bind h1).mono fun y P2 N2 H2 _ a2 h2 u ru=>?_⟩
  have r2:=(S.adv (a1.trans a2)).reg
  have w2:=ru.w r2
  unfold qlQ at h2
  split at h2
  ·rename_i t q2
   rw[q2] at w2
   cases w2.str
   split at h2
   ·rename_i j rest e
    exact⟨qa1 s,qa1 t,j,rest,rfl,rfl,by rw[show(qa1 s).length=s.length from qbE s];exact e,h2.val r2 rfl⟩
   ·exact h2.elim
  ·exact h2.elim
 ·exact h1.elim
theorem qpV {o a:Expr} {go g:List Sl→RE ER} {apos pos:Pos} (ho:PE X o (tE C go)) (ha:PE X a (tE C g)) (hs:qag a=true) (hbase:attributeBase o "index" X.env (eval o X.env)=eval o X.env) (hline:(apos.endLine == pos.line)=true) :
  PE X (.Call (.Attribute o "index" apos) [a] [] pos) (tE C (quc go g)):=
 qal (pe_m1 PySem.F.slot_str_index PySem.F.type_str_index mt_sindex ho ha (qac hs) hbase hline) fun σ H Q q=>qph q
theorem qp0 {a:Expr} {g:List Sl→RE ER} {p p2 q pos:Pos} (hK:X.K=C.G.K) (hc:X.calm=true) (hg:Gl X "len") (hm:X.mg "len" = none) (hg2:Gl X "set") (hm2:X.mg "set" = none) (ha:PE X a (tE C g))
  (na:qag a=true):PE X (.Call (.Name "len" p) [.Call (.Name "set" p2) [a] [] q] [] pos) (tE C fun ρ=>(g ρ).bind fun x=>qmc x.d):=by
 have na:=qac (es:=[]) (env:=X.env) na
 refine⟨fun pins s σ H Q I h=>Call_ (ld_blt I hg hm PySem.boot_len (PyProof.Rows.callWith_builtin1 (PyProof.Rows.args_cons ?_ rfl) rfl rfl))⟩
 refine Call_ (ld_blt I hg2 hm2 PyProof.Rows.boot_set (PyProof.Rows.callWith_type1 (PyProof.Rows.args_cons ?_ na) na rfl))
 have body:tE C g σ H fun x H1=>∃(l:Addr) (ns:List Int),x=V.ref l∧SqL X.K H1 l (ns.map V.int)∧ns.length≤1000∧Q (.int (qlD ns)) H1:=by
  obtain⟨ρ,P,N,S,h⟩:=h
  refine⟨ρ,P,N,S,h.bind.mono fun x P1 N1 H1 _ a1 h1 v rv=>?_⟩
  have r1:=(S.adv a1).reg
  unfold qmc at h1
  split at h1
  ·rename_i ds hd
   split at h1
   ·rename_i ns hn
    have w:=rv.w r1
    rw[hd] at w
    obtain⟨l,xs,rfl,z1,z2⟩:=w
    rw[qef] at h1
    split at h1
    ·rename_i hl
     rw[Nat.ble_eq] at hl
     exact⟨l,ns,rfl,by rw[hK,←qdm hn z2];exact z1,hl,h1.val r1 rfl⟩
    ·exact h1.elim
   ·exact h1.elim
  ·exact h1.elim
 refine thn (ha.run pins s σ H _ I body) fun v s1 ⟨x,H1,I1,r1,q1⟩=>PyProof.Rows.args_nil ?_
 obtain⟨l,ns,rfl,hq,hl,q1⟩:=q1
 cases r1
 obtain⟨its,r,pl,_⟩:=I1.list hq
 have hz:its.toArray.size=ns.length:=by rw[List.size_toArray,←r.length,List.length_map]
 refine call_set_list (I1.ok.hd hc) pl.isList (ns:=ns) (by simpa using r.ints) (by unfold scanBound;omega) fun h' tk hS hk=>PyProof.Rows.args_nil ?_
 rw[hz] at hS
 obtain⟨o,es,ep,t,ho,hex,hd,_,_,_,hf,hn⟩:=hS
 have I2:Inv X pins σ H1 { s1 with heap:=h',toks:=tk }:=I1.kept fun b o e=>hk b o (Heap.lt_size e) e
 have le:qlD ns≤ns.length:=PyProof.Rows.firstMet_length_le (fun i=>ns.getD i 0) ns.length
 have hn':es.size=qlD ns:=hn
 exact call_len_set ho hex hd hf (by rw[hn'];omega) ⟨.int (qlD ns),H1,I2.tok _,⟨_,by rw[hn']⟩,q1⟩
theorem qoC {n:Nat} {k:Int} {m:Nat} (h:ixN n k=some m) (hn:n≤16777216):seqIndex? k n=some m ∧ -(2 ^ 63)≤k∧k<2 ^ 63:=by
 unfold ixN at h
 unfold seqIndex?
 split at h
 ·rename_i h0
  split at h
  ·rename_i h1
   cases h
   have e:¬k<0:=by omega
   refine⟨?_,by omega,by omega⟩
   simp only[e,if_false]
   rw[if_pos (by simp;omega)]
  ·cases h
 ·rename_i h0
  split at h
  ·rename_i h1
   cases h
   have e:k<0:=by omega
   refine⟨?_,by omega,by omega⟩
   simp only[e,if_true]
   rw[if_pos (by simp;omega)]
  ·cases h
theorem qpu {i:Nat} {g:List Sl→RE ER} {D:Ends} {σ:L2.St} {H:Hp} {K:PySem.W.Frag} (q:tS C (fun ρ=>qbX ρ i fun ds c=>(g ρ).out fun k=>match k.d with
  |.int k=>match ixN ds.length k with
   |some m=>match ds[m]? with
    |some _=>gdO (leB ds.length) (.nx (ρ.set i (.own (ds.eraseIdx m) c)))
    |none=>.bad
   |none=>.bad
  |_=>.bad) D σ H):tDrop (tBM K "list" rPopAt (tVar i) (tCons (tE C g) tNil)) D σ H:=by
 obtain⟨ρ,P,N,S,h⟩:=q
 obtain⟨ds,c,e,o⟩:=qc9 h
 obtain⟨p,xs,z1,z2,z3,z4,z5,z6⟩:=S.root e
 refine⟨_,z1,.inl ⟨rfl,xs,.inl (.inl z2)⟩,ρ,P,N,S,(o.res S.reg).mono fun k P1 N1 H1 _ a1 h1 v rv=>?_⟩
 have S1:=S.adv a1
 split at h1
 ·rename_i k' ek
  have w:=rv.w S1.reg
  rw[ek] at w
  cases w.int
  split at h1
  ·rename_i m em
   split at h1
   ·rename_i d ed
    simp only[qbu,qat] at h1
    split at h1
    case isFalse=>exact h1.elim
    rename_i le2
    have r2:=RepsB.adv a1.pp a1.nn z6
    obtain⟨w,w1,w2⟩:=r2.get ed
    have le2:xs.length≤16777216:=by rw[z6.length];exact le2
    rw[←z6.length] at em
    obtain⟨b1,b2,b3⟩:=qoC em le2
    have Sw:=S1.write e z1 (b':=c) (xs':=xs.eraseIdx m) (Reps.eraseIdx m r2)
    exact⟨p,xs,k',m,w,rfl,rfl,a1.hh _ _ z2,b2,b3,b1,w1,h1 _ P1 N1 _ Sw a1.pp a1.nn⟩
   ·exact h1.elim
  ·exact h1.elim
 ·exact h1.elim
def qw9:V→List V→Hp→VK→Prop:=fun x vs H Q=>∃(l:Addr) (xs:List V) (i:Int) (y:V),x=.ref l∧vs=[.int i,y]∧H l=some (.lst xs)∧xs.length<sizeLine∧0≤i∧i<2 ^ 63∧Q .non (upd H l (.lst (xs.take i.toNat++[y]++xs.drop i.toNat)))
theorem qsH {i:Nat} {g g2:List Sl→RE ER} {D:Ends} {σ:L2.St} {H:Hp} {K:PySem.W.Frag} (q:tS C (fun ρ=>qbX ρ i fun ds c=>(g ρ).out fun k=>match k.d with
  |.int k=>(g2 ρ).out fun x=>held x fun d b=>gdO (decide (0≤k∧k≤ds.length)&&leB (ds.length+1)) (.nx (ρ.set i (.own (ds.take k.toNat++[d]++ds.drop k.toNat) (b&&c))))
  |_=>.bad) D σ H):tDrop (tBM K "list" qw9 (tVar i) (tCons (tE C g) (tCons (tE C g2) tNil))) D σ H:=by
 obtain⟨ρ,P,N,S,h⟩:=q
 obtain⟨ds,c,e,o⟩:=qc9 h
 obtain⟨p,xs,z1,z2,z3,z4,z5,z6⟩:=S.root e
 refine⟨_,z1,.inl ⟨rfl,xs,.inl (.inl z2)⟩,ρ,P,N,S,(o.res S.reg).mono fun k P1 N1 H1 _ a1 h1 v rv=>?_⟩
 have S1:=S.adv a1
 split at h1
 ·rename_i k' ek
  have w:=rv.w S1.reg
  rw[ek] at w
  cases w.int
  refine⟨ρ,P1,N1,S1,((h1.adv a1.pp a1.nn).res S1.reg).mono fun x P2 N2 H2 _ a2 h2 u ru=>?_⟩
  obtain⟨N3,d,b,a3,r3,o⟩:=ru.held a2 h2
  simp only[qbu,Bool.and_eq_true,decide_eq_true_eq,qat] at o
  split at o
  ·rename_i hl
   have len:=z6.length
   have r6:=RepsB.and2 (b:=b) (RepsB.adv a3.pp a3.nn (RepsB.adv a1.pp a1.nn z6))
   have hz:xs.length<sizeLine:=by rw[len];exact hl.2
   refine⟨p,xs,k',u,rfl,rfl,a2.hh _ _ (a1.hh _ _ z2),hz,hl.1.1,?_,?_⟩
   ·have h1:=hl.1.2
    have h2:=hl.2
    have:LIM=16777216:=rfl
    omega
   ·exact o _ P2 N3 _ ((S1.adv a3).write e z1 (Reps.append (Reps.append (Reps.take _ r6) (Reps.one (RepB.and1 r3))) (Reps.drop _ r6))) a3.pp a3.nn
  ·exact o.elim
 ·exact h1.elim
theorem qpM {i j:Nat} {g:List Sl→RE ER} {D:Ends} {σ:L2.St} {H:Hp} {K:PySem.W.Frag} (q:tS C (fun ρ=>if i=j then .bad else qbX ρ i fun ds c=>qbX ρ j fun es c2=>(g ρ).out fun k=>match k.d with
  |.int k=>match ixN es.length k with
   |some m=>match es[m]? with
    |some d=>gdO (leB es.length) (gdO (leB (ds.length+1)) (.nx ((ρ.set j (.own (es.eraseIdx m) c2)).set i (.own (ds++[d]) (c2&&c)))))
    |none=>.bad
   |none=>.bad
  |_=>.bad) D σ H) :
  tDrop (tBM K "list" rAppend (tVar i) (tCons (tBM K "list" rPopAt (tVar j) (tCons (tE C g) tNil)) tNil)) D σ H:=by
 obtain⟨ρ,P,N,S,h⟩:=q
 split at h
 ·exact h.elim
 rename_i hij
 obtain⟨ds,c,e,o⟩:=qc9 h
 obtain⟨es,c2,e2,o⟩:=qc9 o
 obtain⟨p,xs,z1,z2,z3,z4,z5,z6⟩:=S.root e
 obtain⟨p2,xs2,y1,y2,y3,y4,y5,y6⟩:=S.root e2
 refine⟨_,z1,.inl ⟨rfl,xs,.inl (.inl z2)⟩,_,y1,.inl ⟨rfl,xs2,.inl (.inl y2)⟩,ρ,P,N,S,(o.res S.reg).mono fun k P1 N1 H1 _ a1 h1 v rv=>?_⟩
 have S1:=S.adv a1
 split at h1
 ·rename_i k' ek
  have w:=rv.w S1.reg
  rw[ek] at w
  cases w.int
  split at h1
  ·rename_i m em
   split at h1
   ·rename_i d ed
    simp only[qbu,qat] at h1
    split at h1
    case isFalse=>exact h1.elim
    rename_i le2
    split at h1
    ·rename_i hl
     have r2:=RepsB.adv a1.pp a1.nn y6
     have r1:=RepsB.adv a1.pp a1.nn z6
     obtain⟨w,w1,w2⟩:=r2.get ed
     have hne:p≠p2:=fun z=>hij (S.ap i j p ds c es c2 e e2 z1 (by rw[z];exact y1))
     have le2:xs2.length≤16777216:=by rw[y6.length];exact le2
     rw[←y6.length] at em
     obtain⟨b1,b2,b3⟩:=qoC em le2
     refine⟨p2,xs2,k',m,w,rfl,rfl,a1.hh _ _ y2,b2,b3,b1,w1,?_⟩
     have Sw:=S1.write e2 y1 (b':=c2) (xs':=xs2.eraseIdx m) (Reps.eraseIdx m r2)
     have e':(ρ.set j (.own (es.eraseIdx m) c2))[i]? = some (.own ds c):=by rw[List.getElem?_set_ne (fun z=>hij z.symm)];exact e
     have Sw2:=Sw.write e' z1 (b':=c2&&c) (xs':=xs++[w]) (Reps.append (RepsB.and2 r1) (Reps.one (RepB.and1 w2)))
     refine⟨p,xs,w,rfl,rfl,by rw[upd_ne hne];exact a1.hh _ _ z2,by rw[z6.length];exact hl,h1 _ P1 N1 _ Sw2 a1.pp a1.nn⟩
    ·exact h1.elim
   ·exact h1.elim
  ·exact h1.elim
 ·exact h1.elim
theorem ql2 {f:Str} {v:V}:∀{l:List Str} {xs:List V},l[xs.length]? = some f→f∉l.take xs.length→putF f v (l.zip xs)=l.zip (xs++[v])
 |[],_,h,_=>by simp at h
 |g::l,[],h,_=>by
  simp at h
  subst h
  simp[putF]
 |g::l,x::xs,h,hn=>by
  simp only[List.length_cons,List.take_succ_cons,List.mem_cons,not_or] at hn
  simp only[List.zip_cons_cons,List.cons_append,putF]
  rw[if_neg (fun e=>hn.1 e.symm),ql2 (by simpa using h) hn.2]
theorem qhU {f:Str}:∀{l:List Str} {k:Nat},l.Nodup→l[k]? = some f→f∉l.take k
 |[],_,_,h=>by simp at h
 |g::l,0,_,_=>by simp
 |g::l,k+1,hn,h=>by
  simp only[List.nodup_cons] at hn
  simp only[List.take_succ_cons,List.mem_cons,not_or]
  have h':l[k]? = some f:=by simpa using h
  exact⟨fun e=>hn.1 (e ▸ List.mem_of_getElem? h'),qhU hn.2 h'⟩
theorem qi9:∀{ρ:List Sl} {j c:Nat} {fs:List Cm.D},qpy ρ=true→ρ[j]? ≠ some (.slf c fs)
 |[],j,c,fs,_,e=>by simp at e
 |s::ρ,0,c,fs,h,e=>by
  simp at e
  subst e
  cases h
 |s::ρ,j+1,c,fs,h,e=>by
  refine qi9 (ρ:=ρ) (j:=j) (c:=c) (fs:=fs) ?_ (by simpa using e)
  cases s<;>first | exact h | cases h
theorem ERr.heldF {P1 N1 H0 P N H:Hp} {er:ER} {v:V} {f:Cm.D→Out} {D:Ends} (a:Adv P1 N1 H0 P N H) (h:ERr C P N H H0 er v) (o:outS C P1 N1 D (heldF er f)):∃N2 d,Adv P1 N1 H0 P N2 H∧RepB C P N2 true d v∧outS C P1 N1 D (f d):=by
 cases er with
 |brw ds b=>exact o.elim
 |val d b =>
  simp only[Cm.heldF,qbu] at o
  split at o
  ·rename_i z
   exact⟨N,d,a,by have:=RepB.nf (C:=C) h;rw[z] at this;exact this,o⟩
  ·exact o.elim
 |fre ds b =>
  simp only[Cm.heldF,qbu] at o
  split at o
  ·rename_i z
   obtain⟨p,xs,rfl,h1,h2,h3,h4,h5⟩:=h
   have sn:Cm.Same N (upd N p (.lst xs)):=qbN h4
   refine⟨upd N p (.lst xs),.lst ds,a.holdN h2 h1 h4 h3,⟨p,xs,rfl,.inl upd_same,?_⟩,o⟩
   have h6:=RepsB.adv (C:=C) (Cm.Same.refl P) sn h5
   cases b with
   |true=>exact h6
   |false=>exact Reps.flat _ _ (by simpa using z) h6
  ·exact o.elim
theorem qp2 {f:Str} {fi:Nat→Option Nat} {g:List Sl→RE ER} {D:Ends} {σ:L2.St} {H:Hp} (hf:∀c k,fi c=some k→FdOk C X f c k) (q:tS C (fun ρ=>(g ρ).out fun x=>heldF x fun d=>qpZ ρ fun c fs r=>match fi c with
  |some k=>if k=fs.length then gdO (Nat.ble k 900) (.nx (.slf c (fs++[d])::r)) else .bad
  |none=>.bad) D σ H):sFld X.K (tVar 0) (tE C g) f D σ H:=by
 obtain⟨ρ,P,N,S,h⟩:=q
 refine⟨ρ,P,N,S,(h.res S.reg).mono fun x P1 N1 H1 _ a1 h1 v rv=>?_⟩
 obtain⟨N2,d,a2,r2,o⟩:=ERr.heldF a1 rv h1
 have S2:=S.adv a2
 unfold qpZ at o
 split at o
 ·rename_i c fs r zz
  split at o
  ·rename_i hn
   dsimp only at o
   split at o
   ·rename_i k ek
    split at o
    ·rename_i hk
     rw[qbu] at o
     split at o
     case isFalse=>exact o.elim
     rename_i hk9
     rw[Nat.ble_eq] at hk9
     obtain⟨o',z1,p,dx,xs,⟨ep,rfl⟩,z2,z3,z4,z5,z6,z7⟩:=S2.sl 0 _ rfl
     obtain⟨c1,c2,c3,c4⟩:=hf _ _ ek
     have lx:xs.length=fs.length:=z7.length
     have lf:(C.G.fl c)[xs.length]? = some f:=by rw[lx,←hk];exact c3
     have lt:fs.length<(C.G.fl c).length:=by
      have:=(List.getElem?_eq_some_iff.mp lf).1
      omega
     have few:((C.G.fl c).zip xs).length<1000:=by
      rw[List.length_zip];omega
     refine⟨_,z1,p,_,dx,_,rfl,z2,c1,c2,few,?_⟩
     rw[ql2 lf (qhU c4 lf)]
     refine o _ P1 N2 _ ⟨⟨qbg S2.reg.pH z3,qbg S2.reg.nH z4,qbg S2.reg.bH z5,S2.reg.rB,S2.reg.p0,S2.reg.pn,S2.reg.nw,S2.reg.dj,qgn z2 S2.reg.tb,S2.reg.tf⟩,by simpa using S2.len,fun j s ej=>?_,fun j l r ds1 c es c' e1 e2 e3 e4=>?_,S2.ad.sub fun j m b e=>by
      cases j with
      |zero=>cases e
      |succ j=>exact⟨rfl,_,_,by simpa using e⟩,⟨fun j l dss t o1 o2 a e1 e2 e3 e4 k1 k2=>by
      have un:∀{l:Nat} {t:Sl},(Sl.slf c (fs++[d])::r)[l]? = some t→t.isH=true→(Sl.slf c fs::r)[l]? = some t:=fun {l t} e ht=>by
       cases l with
       |zero=>simp at e;subst e;cases ht
       |succ l=>simpa using e
      have old:∀{l:Nat} {t:Sl} {o:Option V} {a:Addr},(Sl.slf c fs::r)[l]? = some t→σ[l]? = some o→Held (upd H1 p (.ins (C.G.ca c) dx ((C.G.fl c).zip (xs++[v])))) t o a→Held H1 t o a:=fun {l t o a} e e2 k=>by
       cases k with
       |own=>exact .own
       |rt=>exact .rt
       |it q m =>
        refine .it ?_ m
        obtain⟨o,g1,g2⟩:=S2.sl l _ e
        rw[g1] at e2;cases e2
        obtain⟨⟨us,q2⟩,_⟩:=g2.held .rt
        rwa [upd_ne (fun z=>by rw[z,z2] at q2;cases q2)] at q
      exact S2.ar.un j l dss t o1 o2 a (un e1 rfl) (un e2 k2.not) e3 e4 (old (un e1 rfl) e3 k1) (old (un e2 k2.not) e4 k2)⟩⟩ a2.pp a2.nn
     ·cases j with
      |zero =>
       simp at ej
       subst ej
       exact⟨_,z1,p,dx,xs++[v],⟨ep,rfl⟩,upd_same,z3,z4,z5,by simp only[List.length_append,List.length_cons,List.length_nil];omega,Reps.append z7 (Reps.one r2)⟩
      |succ j =>
       have ej':r[j]? = some s:=by simpa using ej
       obtain⟨o,y1,y2⟩:=S2.sl (j+1) s (by simpa using ej')
       refine⟨o,y1,?_⟩
       cases s with
       |non=>trivial
       |val d b=>exact y2
       |own es c =>
        obtain⟨q,ys,y3,y4,y5⟩:=y2
        have hr:q≠p:=fun er=>by rw[er,z2] at y4;cases y4
        exact⟨q,ys,y3,by rw[upd_ne hr];exact y4,y5⟩
       |slf c fs=>exact absurd ej' (qi9 hn)
       |fxd d k=>exact y2
       |dct m c =>
        obtain⟨q,es,y3,y4,y5⟩:=y2
        have hr:q≠p:=fun er=>by rw[er,z2] at y4;cases y4
        exact⟨q,es,y3,by rw[upd_ne hr];exact y4,y5⟩
       |row dss =>
        have far:∀a,Held H1 (.row dss) o a→a≠p:=fun a k er=>by
         obtain⟨⟨us,q⟩,_⟩:=y2.held k
         rw[er,z2] at q;cases q
        obtain⟨q,ps,rfl,y4,y5,y6,y7,y8,y9⟩:=y2
        refine⟨q,ps,rfl,by rw[upd_ne (far q .rt)];exact y4,y5,y6,y7,?_,y9⟩
        exact y8.sub fun a m ds ⟨us,g1,g2⟩=>⟨us,by rw[upd_ne (far a (.it y4 m))];exact g1,g2⟩
     ·cases j with
      |zero=>simp at e1
      |succ j =>
       cases l with
       |zero=>simp at e2
       |succ l=>exact S2.ap (j+1) (l+1) r ds1 c es c' (by simpa using e1) (by simpa using e2) e3 e4
    ·exact o.elim
   ·exact o.elim
  ·exact o.elim
 ·exact o.elim
theorem qkO {P N H H0:Hp} (r:Reg C P N H):∀{es:List ER} {vs:List V},ERs C P N H H0 es vs→Reps C.G P (SqL C.G.K H) (es.map ER.d) vs
 |[],_,h=>by cases h;rfl
 |e::es,_,⟨v,u,ex,h1,h2⟩=>by
  subst ex
  refine⟨v,u,rfl,?_,qkO r h2⟩
  have w:=h1.w r
  have mm:=fun a xs=>LNb.seq (K:=C.G.K) (b:=e.b) r.pH r.nH r.rH a xs
  cases q:e.d with
  |lst ds =>
   rw[q] at w
   obtain⟨p,xs,rfl,h3,h4⟩:=w
   exact⟨p,xs,rfl,h3,Reps.mono (Cm.Same.refl _) _ _ mm h4⟩
  |non=>rw[q] at w;exact Rep.mono (Cm.Same.refl _) _ _ mm w
  |bl _=>rw[q] at w;exact Rep.mono (Cm.Same.refl _) _ _ mm w
  |int _=>rw[q] at w;exact Rep.mono (Cm.Same.refl _) _ _ mm w
  |str _=>rw[q] at w;exact Rep.mono (Cm.Same.refl _) _ _ mm w
  |tup _=>rw[q] at w;exact Rep.mono (Cm.Same.refl _) _ _ mm w
  |ins _ _=>rw[q] at w;exact Rep.mono (Cm.Same.refl _) _ _ mm w
  |exc _ _=>rw[q] at w;exact Rep.mono (Cm.Same.refl _) _ _ mm w
theorem qsF {P N H H0:Hp} {σ:L2.St} {c n:Nat} {g:List Cm.D→RE (List Cm.D)} {Q:VK} {es:List ER} {vs:List V} (r:Reg C P N H) (hv:ERs C P N H H0 es vs) (hn:es.length=n)
  (h:res C σ P N H ((g (es.map ER.d)).bind fun fs=>.ok (.val (.ins c fs) true)) (kE C H0 Q)):∀x dx,H x=none→H dx=none→dx≠x →
  spI C.G c n g (.ref x::vs) (upd (upd H dx (.own x)) x (.ins (C.G.ca c) dx [])) (fun v H2=>v=.non∧Q (.ref x) H2) (fun cls d H'=>C.W cls d σ H'):=by
 intro x dx hx hdx _
 refine⟨x,dx,H,P,qe3 H,es.map ER.d,vs,rfl,rfl,hx,hdx,r.pH,⟨qew H,r.tb,r.tf.1,qgu H⟩,Reps.mono (Cm.Same.refl _) _ _ (fun _ _=>qfg) (qkO r hv),by rw[List.length_map,hn],?_⟩
 cases e:g (es.map ER.d) with
 |bad=>rw[e] at h;exact h.elim
 |ok fs =>
  rw[e] at h
  intro H' P' hh pp pH pn hr
  exact⟨rfl,h P' N H' ⟨hh,pp.1,Cm.Same.refl _,pH,r.nH.trans hh,pn,fun _ q=>.inl q,fun _ q _=>q,pp.2,id⟩ _ hr⟩
 |exc c' fs =>
  rw[e] at h
  intro d H' P' N' ad hx
  refine h d _ _ _ (ad.back r.nH) ?_
  have mono:∀a xs,LNb C.G.K P' N' (qe3 H) true a xs→LNb C.G.K P' (un2 N N' H') C.R true a xs:=fun a xs q=>by
   rcases q with q | ⟨hb,q⟩
   ·exact .inl (qmf ad.nH _ _ q)
   ·cases hb
  rcases hx with hx | ⟨dd,f,v,h1,h2,h3,h4⟩
  ·exact .inl hx
  ·exact .inr ⟨dd,f,v,h1,h2,h3,Rep.mono (Cm.Same.refl _) _ _ mono h4⟩
theorem qi4 {k:Nat} {f K0:Addr} {fd:FuncData} {ps:List Str} {sp:Sp} {W:WX} {pins:List (Addr × Obj)} {σ:L2.St} {H:Hp} {s:Shared} {Q:VK} {us:List Value} {vs:List V} (M:Mk X.K K0 f) (F:FnOk X.prog X.w X.K X.mg X.base (L2.CX X.prog X.w) k f fd ps sp) (hr:Room (k+1) X.A) (hb:Binds X.K fd ps [])
  (tk:Takes X W) (I:Inv X pins σ H s) (r:Vals vs us)
  (h:∀x dx,H x=none→H dx=none→dx≠x→sp (.ref x::vs) (upd (upd H dx (.own x)) x (.ins K0 dx [])) (fun v H2=>v=.non∧Q (.ref x) H2) (fun cls d H'=>W cls d σ H')) :
  wpAny (model X.prog X.w) X.A (call (.ref K0) us) (EP X pins σ Q) X.xe s:=by
 have lt:=Nat.lt_succ_self s.heap.objs.size
 have hq:=h _ _ (I.hok.fresh (Nat.le_of_lt lt)) (I.hok.fresh (Nat.le_refl _)) (Nat.ne_of_lt lt)
 have J:=Inv.made (C:=K0) I
 have rr:Vals (V.ref (s.heap.objs.size+1)::vs) (Value.ref (s.heap.objs.size+1)::us):=.cons rfl r
 have hl:(Value.ref (s.heap.objs.size+1)::us).length=ps.length:=by
  rw[←rr.length]
  exact F.len _ _ _ _ hq
 have hb':=hb _ (Value.ref (s.heap.objs.size+1)::us) J.kIn (by rw[List.append_nil];exact hl)
 rw[List.append_nil] at hb'
 refine wpAny_call (make_map (f:=f) I.kIn M.makes M.init (beq_iff_eq.mp M.fn) (codeAny_mono (F.run _ X.stack _ _ ⟨Value.ref (s.heap.objs.size+1)::us,[]⟩ _ _ _ _ (hr.make K0 us []) (J.env0.make K0 us []) hb' rr hq) fun res s' hq'=>?_))
 cases res with
 |error e=>exact tk e s' (XE.of_call J (fun cls d H' q=>q) hq')
 |ok fl =>
  cases fl with
  |ret u =>
   obtain⟨v,H',J2,rv,ev,q3⟩:=J.after hq'
   subst ev
   exact⟨rv,V.ref _,H',J2,rfl,q3⟩
  |next=>exact False.elim hq'
  |brk=>exact False.elim hq'
  |cont=>exact False.elim hq'
structure Mk0 (K:PySem.W.Frag) (c:Addr):Prop where
 makes:PySem.W.makesIn K c=true
 init:PySem.W.findIn K (.ref c) "__init__" = some (some (.builtin "object.__init__"))
 kp:PySem.W.keepIn K (.ref c)=true
theorem qn0 {K0:Addr} {pins:List (Addr × Obj)} {σ:L2.St} {H:Hp} {s:Shared} {Q:VK} (M:Mk0 X.K K0) (I:Inv X pins σ H s)
  (h:∀x dx,H x=none→H dx=none→dx≠x→Q (.ref x) (upd (upd H dx (.own x)) x (.ins K0 dx []))) :
  wpAny (model X.prog X.w) X.A (call (.ref K0) []) (EP X pins σ Q) X.xe s:=by
 have lt:=Nat.lt_succ_self s.heap.objs.size
 have hq:=h _ _ (I.hok.fresh (Nat.le_of_lt lt)) (I.hok.fresh (Nat.le_refl _)) (Nat.ne_of_lt lt)
 have J:=Inv.made (C:=K0) I
 have Y:=PySem.W.makes_of (M:=model X.prog X.w) I.kIn M.makes
 refine wpAny_call (make_map0 I.kIn M.makes M.init (fun self=>PySem.W.Looks.of_pure (PySem.W.oi_bind self)) ?_)
 have hg:((s.heap.push PySem.W.emptyDict).push (PySem.W.instObj K0 s.heap.objs.size)).get? (s.heap.objs.size+1)=some (PySem.W.instObj K0 s.heap.objs.size):=by
  have:=Heap.get?_push_size (s.heap.push PySem.W.emptyDict) (o:=PySem.W.instObj K0 s.heap.objs.size) rfl
  rwa [Heap.size_push] at this
 have t1:PySem.W.Looks (model X.prog X.w) ((s.heap.push PySem.W.emptyDict).push (PySem.W.instObj K0 s.heap.objs.size)) (typeOf (.ref (s.heap.objs.size+1))) (.ref K0):=(PySem.W.Looks.ld hg).andThen .now
 have t2:PySem.W.Looks (model X.prog X.w) ((s.heap.push PySem.W.emptyDict).push (PySem.W.instObj K0 s.heap.objs.size)) (isInstance (.ref (s.heap.objs.size+1)) (.type "object")) true:=t1.andThen (Y.top.keeps fun b o e=>Heap.get?_push_of_some _ (Heap.get?_push_of_some _ e))
 refine codeAny_call_builtin PySem.W.oi_plain PySem.W.entry_oi (@PySem.W.check_slot (model X.prog X.w) _ _ _ "object.__init__" "object" "__init__" (.ref (s.heap.objs.size+1)) [] [] _ PySem.W.oi_kind PySem.W.oi_split t2 (PySem.W.oi_args (.ref (s.heap.objs.size+1))) ?_)
 rw[PySem.W.oi_run]
 exact wpAny_pure (And.intro rfl ⟨V.ref _,_,J,rfl,hq⟩)
structure NwOk (C:Ctx) (X:Cx) (x:Str) (c n:Nat) (g:List D→RE (List D)):Prop where
 ex:(∃k f fd ps,Mk X.K (C.G.ca c) f∧FnOk X.prog X.w X.K X.mg X.base (L2.CX X.prog X.w) k f fd ps (spI C.G c n g)∧Room (k+1) X.A∧X.mg x=some (.ref (C.G.ca c))∧Binds X.K fd ps []) ∨
  (n=0∧g []=.ok []∧Mk0 X.K (C.G.ca c)∧C.G.fl c=[]∧X.mg x=some (.ref (C.G.ca c)))
theorem qry {x:Str} {c n:Nat} {g':List Cm.D→RE (List Cm.D)} {g:List Sl→RE (List ER)} {es:List Expr} {p pos:Pos} (nw:NwOk C X x c n g') (hg:Gl X x)
  (tk:Takes X C.W) (ha:PA X es (tA C g)) (hdb:(x == ("__debug__" : Str))=false) (hs:qoo X es) (hl:∀ρ r,g ρ=.ok r→r.length=n) (h0:es=[]→∀ρ,g ρ=.ok []) (hn:es.length=n) :
  PE X (.Call (.Name x p) es [] pos) (tE C fun ρ=>(g ρ).bind fun r=>(g' (r.map ER.d)).bind fun fs=>.ok (.val (.ins c fs) true)):=by
 rcases nw.ex with⟨k,f,fd,ps,M,F,hr,hm,hb⟩ | ⟨rfl,hg0,M,hfl,hm⟩
 case inr =>
  by_cases hes:es=[]
  ·subst hes
   refine⟨fun pins s σ H Q I h=>wpAny_Call_Name_kw (ld_glob I hg hm ?_ hdb)⟩
   refine PySem.W.callWith_K0 I.kIn M.kp ?_
   refine qn0 M I fun a dx ha hdx hne=>?_
   obtain⟨ρ,P,N,S,h⟩:=h
   dsimp only at h
   rw[h0 rfl ρ] at h
   simp only[RE.bind_ok,List.map_nil,hg0] at h
   have r:=S.reg
   have pa:=r.pH.free ha
   have sH:HX H (upd (upd H dx (.own a)) a (.ins (C.G.ca c) dx [])):=(qfa hdx).trans (qfa (by rw[upd_ne (Ne.symm hne)];exact ha))
   refine h (upd P a (.ins (C.G.ca c) dx [])) N _ ⟨sH,qbN pa,Cm.Same.refl _,qko (r.pH.trans (qfa hdx).s),r.nH.trans sH.s,fun b hb=>?_,fun _ q=>.inl q,fun _ q _=>q,fun t=>t.upd,id⟩ _ ?_
   ·by_cases hba:b=a
    ·subst hba;exact .inr ha
    ·rw[upd_ne hba] at hb;exact .inl hb
   ·refine⟨a,dx,[],rfl,?_,by rw[hfl];rfl,rfl⟩
    rw[hfl]
    exact upd_same
  ·exact absurd (List.length_eq_zero_iff.mp hn) hes
 have body:PE X (.Call (.Name x p) es [] pos) (fun σ H Q=>tA C g σ H fun vs H1=>∀x dx,H1 x=none→H1 dx=none→dx≠x →
   spI C.G c n g' (.ref x::vs) (upd (upd H1 dx (.own x)) x (.ins (C.G.ca c) dx [])) (fun v H2=>v=.non∧Q (.ref x) H2) (fun cls d H'=>C.W cls d σ H')):=by
  cases es with
  |nil =>
   refine⟨fun pins s σ H Q I h=>wpAny_Call_Name_kw (ld_glob I hg hm ?_ hdb)⟩
   refine PySem.W.callWith_K0 I.kIn M.kp ?_
   obtain⟨ρ,P,N,S,h⟩:=h
   rw[h0 rfl ρ] at h
   exact qi4 (us:=[]) M F hr hb tk I .nil (h.now S.reg [] rfl)
  |cons e es =>
   refine⟨fun pins s σ H Q I h=>wpAny_Call_Name_kw (ld_glob I hg hm ?_ hdb)⟩
   refine PySem.W.callWith_K (h₀:=X.base) I.ok.mod.kin M.kp (thn (ha.run pos pins s σ H _ I h) fun us s1 ⟨vs,H1,I1,r,q⟩=>⟨I1.kIn,?_⟩) (hs.1 _ _ rfl) (hs.2 _ _ _ rfl)
   exact qi4 M F hr hb tk I1 r q
 refine qal body fun σ H Q q=>?_
 obtain⟨ρ,P,N,S,h⟩:=q
 exact⟨ρ,P,N,S,h.bind.mono fun r P1 N1 H1 e a1 h1 vs rv=>qsF (S.adv a1).reg rv (hl _ _ e) h1⟩
end
section
variable {prog:Program} {w:World} {A:Around} {E:Value→Shared→Prop} {s:Shared} {l:Addr} {its:List Value} {ns:List Int} {Q:Value→Shared→Prop} {d:Value}
end
def qxb (k:Bool) (ns:List Int) (d m:Int):Prop:=(ns=[]∧m=d)∨(m∈ns∧∀y∈ns,if k=true then y≤m else m≤y)
def rMm (K:PySem.W.Frag) (k:Bool):List V→List V→Hp→VK→Prop:=fun vs zs H Q=>∃(a:Addr) (ns:List Int) (d:Int),vs=[V.ref a]∧zs=[V.int d]∧SqL K H a (ns.map V.int)∧∀m,qxb k ns d m→Q (.int m) H
def mmN (k:Bool):String:=if k=true then "max" else "min"
section
variable {C:Ctx} {X:Cx}
abbrev gMm (k:Bool) (go g:List Sl→RE ER):List Sl→RE ER:=fun ρ=>(go ρ).bind fun x=>(g ρ).bind fun y=>qwE k x.d y.d
end
def qwO (G:Glo) (K:PySem.W.Frag) (a:Addr) (s:List Nat) (o:Option Cm.D):Prop:=
 match o with
 |none=>PySem.W.nsIn K a (qa1 s)=some none
 |some d=>∃u v,PySem.W.nsIn K a (qa1 s)=some (some u)∧RelV v u∧∀P N R,Rep G P (LNb G.K P N R true) d v
def quR (G:Glo) (K:PySem.W.Frag) (w:World) (mg:Str→Option Value) (x:Str) (t:List (List Nat × Option Cm.D)):Prop:=
 ∃a es n,mg x=some (.ref a)∧KDict K w a es n∧∀s o,t.lookup s=some o→qwO G K a s o
section
variable {C:Ctx} {X:Cx}
end
end Cm
namespace Cm
open PySem PySem.Spec PyProof.Rows L2
variable [HasT]
def IsLI (h:Heap) (v:Value) (ns:List Int):Prop:=∃a its,v=.ref a∧h.IsList a its∧IntsAre its.toList ns
section
variable {prog:Program} {w:World} {A:Around} {s:Shared}
theorem qlX:∀{vs:List Value} {ns ms:List Int},IntsAre vs ns→IntsAre vs ms→ns=ms
 |_,_,_,.nil,h=>by cases h;rfl
 |_,_,_,.cons n t r,h=>by cases h with
  |cons _ _ r'=>rw[qlX r r']
theorem IsLI.inj {h:Heap} {v:Value} {ns ms:List Int} (h1:IsLI h v ns) (h2:IsLI h v ms):ns=ms:=by
 obtain⟨a,its,rfl,⟨o,ho,hc,n,hd⟩,hi⟩:=h1
 obtain⟨b,its2,e,⟨o2,ho2,hc2,n2,hd2⟩,hi2⟩:=h2
 cases e
 rw[ho] at ho2;cases ho2
 rw[hd] at hd2;cases hd2
 exact qlX hi hi2
open Classical in
noncomputable def qxN (h:Heap) (v:Value):List Int:=if q:∃ns,IsLI h v ns then q.choose else []
end
def qom (K:PySem.W.Frag) (H:Hp):List V→List (List Int)→Prop
 |[],[]=>True
 |x::xs,n::ns=>(∃t,x=.ref t∧SqL K H t (n.map V.int))∧qom K H xs ns
 |_,_=>False
def qtB (K:PySem.W.Frag):List V→Hp→VK→Prop:=fun vs H Q=>∃(a:Addr) (xs:List V) (ls:List (List Int)),vs=[V.ref a]∧SqL K H a xs∧qom K H xs ls ∧
 ∀ys ms p,ys.length=ms.length→(ys.zip ms).Perm (xs.zip ls)→(ms.Pairwise fun x y=>qvI y x=false)→H p=none→Q (.ref p) (upd H p (.lst ys))
section
variable {C:Ctx} {X:Cx}
end
end Cm
set_option maxHeartbeats 3200000
namespace Cm
open PySem PySem.Spec PyProof.Rows L2
variable [HasT]
def qxV (w:World):Obj:={ cls:=.type "set",dict:=none,data:=.set #[] 0 (.fresh 0 0 (!w.params.followText "set-order")) }
section
variable {P:Program} {w:World} {A:Around} {E:Value→Shared→Prop} {s:Shared}
abbrev Kp (h h':Heap):Prop:=∀b o,h.get? b=some o→h'.get? b=some o
end
section
variable {C:Ctx} {X:Cx}
end
end Cm
namespace Cm
open PySem PySem.Spec PyProof.Rows L2
variable [HasT]
section
variable {prog:Program} {w:World} {A:Around} {E:Value→Shared→Prop} {s:Shared} {R:Result→Shared→Prop}
end
section
variable {C:Ctx} {X:Cx}
end
end Cm
set_option maxHeartbeats 2000000
namespace Cm
open PySem PySem.Spec PyProof.Rows L2
structure LamP (scope:Scope) (x y:Str):Prop where
 kind:scope.kind=.function
 co:scope.isCoroutine=false
 gen:scope.isGenerator=false
 own:∀z∈scope.names,z.2≠.cell
 loc:scope.names.lookup y=some .local
 fre:scope.names.lookup x=some .free
def qw1 (scope:Scope) (x:Str):Bool:=scope.names.all fun z=>!decide (z.2=.free)||decide (z.1=x)
def qw8 (scope:Scope) (x y:Str):Bool:=decide (scope.kind=.function)&&(!scope.isCoroutine&&(!scope.isGenerator&&((scope.names.all fun z=>!decide (z.2=.cell))&&(decide (scope.names.lookup y=some .local)&&decide (scope.names.lookup x=some .free)))))
section
variable {prog:Program} {w:World} {A:Around} {s:Shared}
end
section
variable [HasT]
variable {X:Cx} {pins:List (Addr × Obj)} {σ:L2.St} {H:Hp} {s:Shared}
end
section
variable [HasT]
variable {C:Ctx} {X:Cx}
end
end Cm
namespace Cm
open PySem PySem.Spec PyProof.Rows L2
variable [HasT]
def wK (K:PySem.W.Frag) (c:Value) (i j:Nat) (Wout:WX) (D:Ends):WX:=fun cls d σ H =>
 ∃b,PySem.W.exmOne K cls c=some b∧(b=true→d=none∧∀a,H a=none→D.nx ((σ.set j (some (.ref a))).set i none) (upd H a (exK cls a)))∧(b=false→Wout cls d σ H)
section
variable {X:Cx} {pins:List (Addr × Obj)} {σ:L2.St} {H:Hp} {s:Shared}
theorem qnC {a:Addr} {oe:Obj} {o:HO} (I:Inv X ((a,oe)::pins) σ H s) (hn:H a=none) (h0:X.s_0.heap.get? a=none) (hp:∀p∈X.pn++pins,p.1≠a) (hc:∀x c,X.env.cells.lookup x=some c→c≠a) (new:ObjOk X.prog X.w (upd H a o) s.heap a o):Inv X pins σ (upd H a o) s where
 ok:=I.ok
 os:=I.os
 bare:=I.bare
 base:=by
  have b:=I.base
  refine⟨fun x o' e n hb hx=>b.keep x o' e n hb hx,fun x o' e n hb hx=>b.slot x o' e n hb hx,fun x o' e n hx=>?_,fun x o' e hx=>b.there x o' e hx,fun x xs q=>?_,fun x u xs q=>?_,fun x ps q=>?_⟩
  ·rw[upd_ne (fun z=>by rw[z,h0] at e;cases e)];exact b.free x o' e n hx
  ·have z:=b.tups x xs q;rw[upd_ne (ne_of_none z hn)];exact z
  ·have z:=b.frzs x u xs q;rw[upd_ne (ne_of_none z hn)];exact z
  ·obtain⟨m,z⟩:=b.tbls x ps q;exact⟨m,by rw[upd_ne (ne_of_none z hn)];exact z⟩
 loc:=I.loc
 cell:=I.cell
 free:=by
  have hL:X.env.locals≠a:=fun z=>by
   obtain⟨_,_,ne,_,_⟩:=I.pin (a,oe) (List.mem_append.mpr (.inr List.mem_cons_self))
   exact ne z.symm
  rw[upd_ne hL];exact I.free
 freeC:=fun x c e=>by rw[upd_ne (hc x c e)];exact I.freeC x c e
 pin:=fun p hp'=>by
  obtain⟨e,n,ne,nf,d⟩:=I.pin p (by
   rcases List.mem_append.mp hp' with z | z
   ·exact List.mem_append.mpr (.inl z)
   ·exact List.mem_append.mpr (.inr (List.mem_cons_of_mem _ z)))
  exact⟨e,by rw[upd_ne (hp p hp')];exact n,ne,nf,d⟩
 hok:=HOk.laidN (h:=s.heap) I.hok (fun _ _ q=>q) hn new
 len:=I.len
end
section
variable {X:Cx} {x n m:Str} {c:Value} {i j:Nat} {body:List Stmt} {np p1 p2 pa pos pos':Pos} {tb:WX→TS} {Wout:WX}
theorem qrM (hs:X.stack=X.env::X.outer) (hf:X.env.frame=some X.env.locals) (hex:X.ex=[]) (hN:X.N.Nodup) (hi:X.N[i]? = some n) (hj:X.N[j]? = some m) (hln:X.env.kindOf n=some .local) (hlm:X.env.kindOf m=some .local) (hd:(n == ("__debug__" : Str))=false∧(n == ("__classdict__" : Str))=false)
  (hc:Names X x c) (tk:Takes X Wout) (hij:i≠j)
  (hb:∀(W:WX) (pn:List (Addr × Obj)) (xe:Value→Shared→Prop),Takes (X.tr pn xe) W→PassesOwn (model X.prog X.w) X.A X.env xe→PSs (X.tr pn xe) body (tb W)) :
  PS X (.Try body [.ExceptHandler (some (.Name x np)) (some n) [.Assign [.Name m p1] (.Name n p2) pa] pos'] [] [] pos) (fun D σ H=>tb (wK X.K c i j Wout D) D σ H):=by
 refine⟨fun pins s σ H D I h=>?_⟩
 have ok:=I.ok
 have hfr:X.A.frames=some (X.env::X.outer):=by rw[ok.frames,hs]
 have hloc:Loc X.env.scope n:=.inl hln
 refine wpAny_Try_except ?_
 refine wpAny_mono ((hb (wK X.K c i j Wout D) (X.pn++pins) (fun e s₁=>wpAny (model X.prog X.w) X.A (noteFrame e X.env) (fun _ s₂=>wpAny (model X.prog X.w) X.A (setFlight e none) (fun _ s₃ =>
  wpAny (model X.prog X.w) X.A (handleBy e X.env [.ExceptHandler (some (.Name x np)) (some n) [.Assign [.Name m p1] (.Name n p2) pa] pos']) (SP X pins D) X.xe s₃) X.xe s₂) X.xe s₁) (fun u s' xx=>?_) PassesOwn.looking).run [] s σ H D (I.toTry _) h) (fun f s1 hsp=>?_) (fun e s1 he=>he)
 ·-- the catch
  obtain⟨a,B,sI,pins',σ',H',cls,d,rfl,J',nb,up,sky,na,os,ag,b,hb1,hyes,hno⟩:=xx
  have J:Inv X pins σ' H' sI:=J'.ofTry ok
  have sky':Sky B (X.env::X.outer) a (Zc cls d) X.env.locals s'.heap:=by rw[←hs];exact sky
  show wpAny (model X.prog X.w) X.A (noteFrame (.ref a) X.env) _ _ _
  refine Sky.land Zc.steady hfr hf sky' fun h3 fl3 up3=>?_
  have J3:Inv X pins σ' H' { s' with heap:=h3 }:=J.landed nb fl3.1 (up.trans up3) os ag
  obtain⟨oe3,vs3,he3,hz3,hd3⟩:=fl3.there
  have notFr:∀{h:Heap} {o:Obj} {vs:Array Value},h.FunFrames B (X.env::X.outer)→h.get? a=some o→o.data=.fields vs→a∉frs (X.env::X.outer):=fun {h o vs} ff e dd hm=>by
   obtain⟨_,o',e',hnf⟩:=ff.mem hm
   rw[e] at e';cases e'
   exact hnf _ dd
  have nfr:=notFr fl3.2.2.1 he3 hd3
  have nL:a≠X.env.locals:=fun z=>nfr (List.mem_filterMap.mpr ⟨X.env,List.mem_cons_self,by rw[hf,z]⟩)
  have nF:a∉X.fs:=fun hm=>by
   obtain⟨e,he,q⟩:=List.mem_filterMap.mp hm
   exact nfr (List.mem_filterMap.mpr ⟨e,List.mem_cons_of_mem _ he,q⟩)
  -- it is new
  have nfr':a∉frs X.stack:=by rw[hs];exact nfr
  have aI:∀o,sI.heap.get? a≠some o:=fun o e=>by
   have z:=nb a o e nfr'
   rw[fl3.2.1] at z
   cases z
  have n0:X.s_0.heap.get? a=none:=by
   cases e:X.s_0.heap.get? a with
   |none=>rfl
   |some o =>
    obtain⟨o',e'⟩:=J.base.there a o e (by
     intro z
     first
      |exact nF z
      |(rw[hex] at z;cases z)
      |exact(List.mem_append.mp z).elim nF fun z=>by rw[hex] at z;cases z)
    exact absurd e' (aI o')
  have np':∀p∈X.pn++pins,p.1≠a:=fun p hp z=>by
   obtain⟨e,_⟩:=J.pin p hp
   rw[z] at e
   exact aI _ e
  have nc':∀x c,X.env.cells.lookup x=some c→c≠a:=fun x c e z=>by
   obtain⟨v,o,ho,_⟩:=J.cell x c e
   rw[z] at ho
   exact aI _ ho
  have S3:=J3.suite he3 hd3 na nL nF
  refine wpAny_handleBy_cons (codeAny_handlers_test ?_) (by intro q;cases q)
  have LT:PySem.W.Looks (model X.prog X.w) h3 (typeOf (.ref a)) cls:=fun A Q E s k q=>wpAny_typeOf_ref (k _ _ he3) (by rw[hz3.1];exact q)
  have LM:=PySem.W.exm_one (M:=model X.prog X.w) (J3.kIn) LT hb1
  have test:∀{Q:Value→Shared→Prop} {E:Value→Shared→Prop},Q c { s' with heap:=h3 }→wpAny (model X.prog X.w) (X.A.mark (some (.ref a))) (eval (.Name x np) X.env) Q E { s' with heap:=h3 }:=fun {Q E} q=>by
   obtain⟨hg,hdbg,hm | ⟨hm,hv,hnn⟩⟩:=hc
   ·exact ld_glob (X:=X.suite a ((a,oe3)::(X.pn++pins))) S3 hg hm q hdbg
   ·exact ld_blt (X:=X.suite a ((a,oe3)::(X.pn++pins))) S3 hg hm hv q hnn hdbg
  refine test (LM.here ?_)
  cases b with
  |true =>
   refine codeAny_handlers_suite_as ?_
   refine HandSPX.lands_againZ fl3 fun h4 fl4 up4=>?_
   have J4:Inv X pins σ' H' { s' with heap:=h4 }:=J.landed nb fl4.1 ((up.trans up3).trans up4) os ag
   obtain⟨oe4,vs4,he4,hz4,hd4⟩:=fl4.there
   have S4:=J4.suite he4 hd4 na nL nF
   refine store_ok (X:=X.suite a ((a,oe4)::(X.pn++pins))) (v:=.ref a) S4 hN hi hloc rfl (fun s5 S5=>?_) (.inr hln)
   have ts:PSs (X.suite a ((a,oe4)::(X.pn++pins))) [.Assign [.Name m p1] (.Name n p2) pa] _:=
    pss_cons (ps_set (X:=X.suite a ((a,oe4)::(X.pn++pins))) hN hj (.inl hlm) (pe_var (X:=X.suite a ((a,oe4)::(X.pn++pins))) hi (.inl hln) hd.1 hd.2) rfl (.inr hlm)) pss_nil
   have hil:i<σ'.length:=by
    rw[J.len]
    exact(List.getElem?_eq_some_iff.mp hi).1
   have hjl:j<σ'.length:=by
    rw[J.len]
    exact(List.getElem?_eq_some_iff.mp hj).1
   obtain⟨hdn,hy2⟩:=hyes rfl
   subst hdn
   refine wpAny_mono (ts.run [] s5 _ H' { nx:=fun σ6 H6=>σ6=(σ'.set i (some (.ref a))).set j (some (.ref a))∧H6=H',rt:=fun _ _=>False,bk:=fun _ _=>False,ct:=fun _ _=>False } S5 ?_) (fun f s6 hsp=>?_) (fun _ _ z=>False.elim z)
   ·exact⟨.ref a,by rw[List.getElem?_set_self hil],rfl,rfl⟩
   ·cases f with
    |next =>
     obtain⟨σ6,H6,S6,rfl,rfl⟩:=hsp
     have S6':Inv X ((a,oe4)::pins) ((σ'.set i (some (.ref a))).set j (some (.ref a))) H6 s6:=⟨ok,S6.os,S6.bare,S6.base,S6.loc,S6.cell,S6.free,S6.freeC,fun p hp=>S6.pin p (by
      rcases List.mem_append.mp hp with z | z
      ·exact List.mem_append.mpr (.inl (List.mem_cons_of_mem _ (List.mem_append.mpr (.inl z))))
      ·rcases List.mem_cons.mp z with z | z
       ·rw[z];exact List.mem_append.mpr (.inl List.mem_cons_self)
       ·exact List.mem_append.mpr (.inl (List.mem_cons_of_mem _ (List.mem_append.mpr (.inr z))))),S6.hok,S6.len⟩
     refine gone_ok S6' hN hi hln fun s7 J7=>?_
     obtain⟨e7,n7,_⟩:=J7.pin (a,oe4) (List.mem_append.mpr (.inr List.mem_cons_self))
     have J8:=qnC (o:=exK cls a) J7 n7 n0 np' nc' (qtK e7 hz4 hd4)
     have es:((σ'.set i (some (V.ref a))).set j (some (.ref a))).set i none=(σ'.set j (some (.ref a))).set i none:=by
      rw[List.set_comm _ _ hij,List.set_set]
     rw[es] at J8
     exact⟨_,_,J8,hy2 a na⟩
    |brk=>obtain⟨_,_,_,z⟩:=hsp;exact z.elim
    |cont=>obtain⟨_,_,_,z⟩:=hsp;exact z.elim
    |ret u=>obtain⟨_,_,_,_,_,z⟩:=hsp;exact z.elim
  |false =>
   show wpAny _ X.A (handleBy (.ref a) X.env []) _ _ _
   refine wpAny_handleBy_nil ?_
   obtain⟨k1,k2,k3,oe,vs,T,oT,ts',he,hz,hd,h1,hr⟩:=id fl3
   unfold PySem.passOn
   refine wpAny_bind (wpAny_field he hd h1 ?_)
   rw[if_neg (show ¬((Value.ref T == Value.none)=true) from by simp)]
   have fin:wpAny (model X.prog X.w) X.A (setFlight (.ref a) X.env.frame) (fun _ s4=>wpAny (model X.prog X.w) X.A (throw (.ref a):Sem Flow) (SP X pins D) X.xe s4) X.xe { s' with heap:=h3 }:=by
    rw[hf]
    refine HandSPX.setFlight_upZ fl3 fun h4 hh4 up4=>wpAny_throw (tk _ _ ?_)
    exact⟨a,B,sI,pins,σ',H',cls,d,rfl,J,nb,(up.trans up3).trans up4,.inr (.inr (by rw[hs];exact hh4)),na,os,ag,hno rfl⟩
   first
    |exact wpAny_bind (wpAny_pure (wpAny_bind fin))
    |exact wpAny_bind fin
 ·cases f with
  |next =>
   obtain⟨σ',H',J',q⟩:=hsp
   exact wpAny_execs_nil ⟨σ',H',J'.ofTry ok,q⟩
  |brk =>
   obtain⟨σ',H',J',q⟩:=hsp
   exact⟨σ',H',J'.ofTry ok,q⟩
  |cont =>
   obtain⟨σ',H',J',q⟩:=hsp
   exact⟨σ',H',J'.ofTry ok,q⟩
  |ret u =>
   obtain⟨v,σ',H',J',r,q⟩:=hsp
   exact⟨v,σ',H',J'.ofTry ok,r,q⟩
end
def qvp (K:PySem.W.Frag):List V→Hp→VK→Prop:=fun xs H Q=>rIsi K xs H Q∨∃(a D:Addr) (c:V) (u:Value) (b:Bool),xs=[.ref a,c]∧ClsV c u∧H a=some (exK (.ref D) a)∧ExcC K D∧PySem.W.kitOne K (.ref D) u=some b∧Q (.bl b) H
theorem qo2 {X:Cx}:CallR X (.builtin "isinstance") (qvp X.K):=by
 intro pins s σ H xs us Q I r h
 rcases h with h | ⟨a,D,c,u,b,rfl,k,ha,C,e,q⟩
 ·exact call_isi pins s σ H xs us Q I r h
 ·cases r with
  |cons rx rr =>
   cases rr with
   |cons rt rr =>
    cases rr
    cases rx
    have ec:=k.eq rt
    subst ec
    obtain⟨⟨oe,vs,ho,hz,hd⟩,_,_⟩:=I.hok a _ ha
    have J:PySem.W.InstAt s.heap a oe D none:=by
     obtain⟨oc,od,oda,osl⟩:=oe
     obtain⟨h1,h2⟩:=hz
     dsimp only at h1 h2 hd
     subst h1 h2 hd
     exact⟨ho,rfl,rfl,trivial⟩
    exact PySem.W.kia_one (PySem.W.handS_kitx_exc C.hg C.hk C.hs C.hd C.ha C.hn C.ht C.hm) I.kIn J e (fun z=>nomatch z) fun tk=>⟨.bl b,H,I.kept (t':=tk) fun _ _ z=>z,rfl,q⟩
structure InsC (K:PySem.W.Frag) (D:Addr):Prop where
 cl:Cls K D
 ha:PySem.W.findIn K (.ref D) "__class__" = some (some (.builtin "object.__class__"))
 hn:PySem.W.specialIn K (.builtin "object.__class__") "__get__" = some (some (.builtin "getset_descriptor.__get__"))
 ht:PySem.W.takesIn K (.builtin "object.__class__")=some true
 hm:PySem.W.mroIn K D (.type "object")=some true
def NmC (mg:Str→Option Value) (x:Str) (own:Bool) (v:V) (u:Value):Prop:=ClsV v u∧(match own with
 |true=>mg x=some u
 |false=>x=("ValueError" : Str)∧u=.type "ValueError")
theorem qlM {v:V} {u:Value} (k:ClsV v u):RelV v u:=by cases k<;>rfl
theorem qoB:bootBuiltins "ValueError" = some (.type "ValueError"):=by decide +kernel
structure RsOk (K:PySem.W.Frag) (mg:Str→Option Value) (D:Addr) (x:Str):Prop where
 mg:mg x=some (.ref D)
 exc:PySem.W.excIn K D He.veBase "ValueError.__new__" = true
 keep:PySem.W.keepIn K (.ref D)=true
 sub:PySem.W.subIn K (.ref D) (.type "BaseException")=some true
 ty:PySem.W.typeIn K (.ref D)=some (.type "type")
structure CkOk (G:Glo) (K:PySem.W.Frag) (mg:Str→Option Value) (x:Str) (own:Bool) (ck ik:Option (Nat→Option Bool)):Prop where
 ex:∃v u,NmC mg x own v u∧(∀g,ck=some g→∀c b,g c=some b→PySem.W.kitOne K (.ref (G.ca c)) u=some b∧PySem.W.exmOne K (.ref (G.ca c)) u=some b∧ExcC K (G.ca c)) ∧
  (∀g,ik=some g→∀c b,g c=some b→PySem.W.kitOne K (.ref (G.ca c)) u=some b∧InsC K (G.ca c))
section
variable {C:Ctx} {X:Cx} {x:Str} {own:Bool} {v:V} {u:Value} {p p2 pos:Pos}
theorem qqp (hg:Gl X x) (hm:X.mg "ValueError" = none) (hd:(x == ("__debug__" : Str))=false) (h:NmC X.mg x own v u):PE X (.Name x p) (tC v):=by
 obtain⟨k,h⟩:=h
 cases own with
 |true=>exact pe_glob hg h (qlM k) hd
 |false =>
  obtain⟨rfl,rfl⟩:=h
  exact pe_bltn hg hm qoB (qlM k) (by decide) hd
theorem qoy (hg:Gl X x) (hm:X.mg "ValueError" = none) (hd:(x == ("__debug__" : Str))=false) (h:NmC X.mg x own v u):Names X x u:=by
 obtain⟨k,h⟩:=h
 cases own with
 |true=>exact⟨hg,hd,.inl h⟩
 |false =>
  obtain⟨rfl,rfl⟩:=h
  exact⟨hg,hd,.inr ⟨hm,qoB,by decide⟩⟩
theorem qq4 {g:List Sl→RE ER} {ck ik:Option (Nat→Option Bool)} {σ:L2.St} {H:Hp} {Q:VK} (k:ClsV v u) (h1:∀g,ck=some g→∀c b,g c=some b→PySem.W.kitOne C.G.K (.ref (C.G.ca c)) u=some b∧PySem.W.exmOne C.G.K (.ref (C.G.ca c)) u=some b∧ExcC C.G.K (C.G.ca c))
  (h2:∀g,ik=some g→∀c b,g c=some b→PySem.W.kitOne C.G.K (.ref (C.G.ca c)) u=some b∧InsC C.G.K (C.G.ca c))
  (h:tE C (fun ρ=>(g ρ).bind fun x=>qpl ck ik x.d) σ H Q):tCB (qvp C.G.K) (tCons (tE C g) (tCons (tC v) tNil)) σ H Q:=by
 obtain⟨ρ,P,N,S,h⟩:=h
 refine⟨ρ,P,N,S,h.bind.mono fun x P1 N1 H1 e1 a1 h3 w rv=>?_⟩
 have r1:=(S.adv a1).reg
 have rw':=rv.w r1
 show qvp C.G.K [w,v] H1 Q
 unfold qpl at h3
 split at h3
 ·rename_i c fs q
  rw[q] at rw'
  split at h3
  ·split at h3
   ·rename_i g'
    split at h3
    ·rename_i b e
     obtain⟨_,a,rfl,z⟩:=rw'
     obtain⟨z1,z2,z3⟩:=h1 _ rfl _ _ e
     exact .inr ⟨a,_,v,u,b,rfl,k,r1.pH _ _ z,z3,z1,h3.val r1 rfl⟩
    ·exact h3.elim
   ·exact h3.elim
  ·exact h3.elim
 ·rename_i c fs q
  rw[q] at rw'
  split at h3
  ·split at h3
   ·rename_i b e
    obtain⟨a,dx,xs,rfl,z,_⟩:=rw'
    obtain⟨z1,z2⟩:=h2 _ rfl _ _ e
    exact .inl ⟨_,v,_,u,b,rfl,k,.base (.ins (r1.pH _ _ z) z2.cl z2.ha z2.hn z2.ht z2.hm),z1,h3.val r1 rfl⟩
   ·exact h3.elim
  ·exact h3.elim
 ·exact h3.elim
theorem qq3 {a:Expr} {g:List Sl→RE ER} {ck ik:Option (Nat→Option Bool)} (hK:X.K=C.G.K) (hg:Gl X "isinstance") (hm:X.mg "isinstance" = none) (hv:X.mg "ValueError" = none) (hg2:Gl X x) (hd:(x == ("__debug__" : Str))=false) (ok:CkOk C.G X.K X.mg x own ck ik) (h:PE X a (tE C g))
  (hs:starEach [a,.Name x p2] X.env=(false,eval a X.env)::starEach [.Name x p2] X.env) (hpl:(backTo pos (starEach [.Name x p2] X.env)).any (·.1)=false):PE X (.Call (.Name "isinstance" p) [a,.Name x p2] [] pos) (tE C fun ρ=>(g ρ).bind fun x=>qpl ck ik x.d):=by
 obtain⟨v,u,z,h1,h2⟩:=ok
 rw[hK] at h1 h2
 exact qal (qgq qo2 qiD (.inl ⟨_,rfl⟩) hg hm (pa_cons h (pa_cons (qqp hg2 hv hd z) pa_nil) hs) (by decide) (by decide) hs hpl) fun σ H Q q=>by rw[hK];exact qq4 z.1 h1 h2 q
abbrev qxO (go g:List Sl→RE ER):List Sl→RE ER:=fun ρ=>(go ρ).bind fun x=>match x.d with
  |.lst xs=>(g ρ).bind fun y=>qvk xs y.d
  |_=>.bad
theorem qst {c:Nat} {m:Str} {j:Nat} {pos':Pos} (hK:X.K=C.G.K) (hc:X.calm=true) (tk:Takes X C.W) (hg:Gl X x) (hd:(x == ("__debug__" : Str))=false) (h:RsOk X.K X.mg (C.G.ca c) x) :
  PS X (.Raise (some (.Call (.Name x p) [.Constant (.str m) j p2] [] pos)) none pos') (tS C fun _=>.exc c []):=
 qao (ps_raise hc tk (pmk_own PySem.F.excBase_ValueError h.exc h.mg h.keep (raises_own h.sub h.ty) hg hd)) fun D σ H q=>by
  obtain⟨ρ,P,N,S,h⟩:=q
  exact h σ none P N H S.reg (.inl ⟨rfl,rfl⟩)
end
def tR (C:Ctx) (g:List Sl→RE (List Sl)):TS:=fun D σ H=>∃ρ P N,SR C P N H ρ σ∧res C σ P N H (g ρ) fun ρ' _ _ H'=>∀σ' P2 N2,Same P P2→Same N N2→SR C P2 N2 H' ρ' σ'→D.nx σ' H'
section
variable {C:Ctx} {X:Cx}
theorem SR.wish {W:WX} {P N H:Hp} {ρ:List Sl} {σ:L2.St} (S:SR C P N H ρ σ):SR { C with W:=W } P N H ρ σ:=
 ⟨⟨S.reg.pH,S.reg.nH,S.reg.bH,S.reg.rB,S.reg.p0,S.reg.pn,S.reg.nw,S.reg.dj,S.reg.tb,S.reg.tf⟩,S.len,fun i s e=>by
  obtain⟨o,h1,h2⟩:=S.sl i s e
  exact⟨o,h1,by cases s<;>exact h2⟩,S.ap,S.ad,S.ar⟩
theorem SR.unwish {W:WX} {P N H:Hp} {ρ:List Sl} {σ:L2.St} (S:SR { C with W:=W } P N H ρ σ):SR C P N H ρ σ:=
 ⟨⟨S.reg.pH,S.reg.nH,S.reg.bH,S.reg.rB,S.reg.p0,S.reg.pn,S.reg.nw,S.reg.dj,S.reg.tb,S.reg.tf⟩,S.len,fun i s e=>by
  obtain⟨o,h1,h2⟩:=S.sl i s e
  exact⟨o,h1,by cases s<;>exact h2⟩,S.ap,S.ad,S.ar⟩
theorem SR.setN {P N H:Hp} {ρ:List Sl} {σ:L2.St} (S:SR C P N H ρ σ) (i:Nat) (o:Option V):SR C P N H (ρ.set i .non) (σ.set i o) where
 reg:=S.reg
 len:=by simp[S.len]
 sl:=fun j s e=>by
  by_cases q:i=j
  ·subst q
   have hi:i<ρ.length:=by
    rcases Nat.lt_or_ge i ρ.length with z | z
    ·exact z
    ·rw[List.getElem?_eq_none (by simpa using z)] at e;cases e
   rw[List.getElem?_set_self hi] at e
   cases e
   exact⟨_,List.getElem?_set_self (by rw[S.len];exact hi),trivial⟩
  ·rw[List.getElem?_set_ne q] at e
   rw[List.getElem?_set_ne q]
   exact S.sl j s e
 ap:=fun j k p ds b es c e1 e2 e3 e4=>by
  have nj:i≠j:=fun z=>by
   subst z
   rw[List.getElem?_set] at e1
   split at e1
   ·split at e1<;>cases e1
   ·rename_i z;exact z rfl
  have nk:i≠k:=fun z=>by
   subst z
   rw[List.getElem?_set] at e2
   split at e2
   ·split at e2<;>cases e2
   ·rename_i z;exact z rfl
  rw[List.getElem?_set_ne nj] at e1 e3
  rw[List.getElem?_set_ne nk] at e2 e4
  exact S.ap j k p ds b es c e1 e2 e3 e4
 ad:=S.ad.set rfl
 ar:=S.ar.set rfl
theorem qrw {i j:Nat} {g:List Sl→RE (List Sl)} {ck ik:Option (Nat→Option Bool)} {x n m:Str} {own:Bool} {body:List Stmt} {np p1 p2 pa pos pos':Pos} (hK:X.K=C.G.K) (hs:X.stack=X.env::X.outer) (hf:X.env.frame=some X.env.locals) (hex:X.ex=[]) (hN:X.N.Nodup) (hi:X.N[i]? = some n) (hj:X.N[j]? = some m) (hln:X.env.kindOf n=some .local) (hlm:X.env.kindOf m=some .local) (hd:(n == ("__debug__" : Str))=false∧(n == ("__classdict__" : Str))=false)
  (hg:Gl X x) (hv:X.mg "ValueError" = none) (hdx:(x == ("__debug__" : Str))=false) (ok:CkOk C.G X.K X.mg x own ck ik) (tk:Takes X C.W) (hij:i≠j)
  (hb:∀(W:WX) (pn:List (Addr × Obj)) (xe:Value→Shared→Prop),Takes (X.tr pn xe) W→PassesOwn (model X.prog X.w) X.A X.env xe→PSs (X.tr pn xe) body (tR { C with W:=W } g)) :
  PS X (.Try body [.ExceptHandler (some (.Name x np)) (some n) [.Assign [.Name m p1] (.Name n p2) pa] pos'] [] [] pos) (tS C fun ρ=>trX ck i j ρ (g ρ)):=by
 obtain⟨v,u,z,h1,_⟩:=ok
 refine qao (qrM (tb:=fun W=>tR { C with W:=W } g) hs hf hex hN hi hj hln hlm hd (qoy hg hv hdx z) tk hij hb) fun D σ H q=>?_
 obtain⟨ρ,P,N,S,h⟩:=q
 have h:outS C P N D (trX ck i j ρ (g ρ)):=h
 refine⟨ρ,P,N,S.wish,?_⟩
 cases e:g ρ with
 |bad=>rw[e] at h;exact h.elim
 |ok ρ' =>
  rw[e] at h
  intro P' N' H' a σ' P2 N2 e1 e2 S2
  exact h σ' P2 N2 H' S2.unwish e1 e2
 |exc c fs =>
  rw[e] at h
  intro d P' N' H' a x'
  have a':Adv P N H P' N' H':=a
  have S1:=S.adv a'
  show ∃b,PySem.W.exmOne X.K (.ref (C.G.ca c)) u=some b∧_
  unfold trX at h
  simp only at h
  split at h
  ·rename_i g'
   split at h
   ·rename_i ec
    obtain⟨_,z2,_⟩:=h1 _ rfl _ _ ec
    rw[if_neg hij] at h
    split at h
    ·refine⟨true,z2,fun _=>?_,fun z=>(by cases z)⟩
     rcases x' with⟨_,rfl⟩ | ⟨dd,f,v',e1,_⟩
     ·refine⟨rfl,fun ad na=>?_⟩
      have a2:Adv P N H (upd P' ad (exK (.ref (C.G.ca c)) ad)) N' (upd H' ad (exK (.ref (C.G.ca c)) ad)):=a'.newP na
      have S2:=S.adv a2
      exact h _ _ _ _ ((S2.setV (i:=j) (d:=.exc c []) (b:=true) (v:=.ref ad) ⟨rfl,ad,rfl,upd_same⟩).setN i none) a2.pp a2.nn
     ·cases e1
    ·exact h.elim
   ·rename_i ec
    obtain⟨_,z2,_⟩:=h1 _ rfl _ _ ec
    refine⟨false,z2,fun z=>(by cases z),fun _=>?_⟩
    exact h σ d P' N' H' S1.reg (by
     rcases x' with z | ⟨dd,f,v',e1,e2,e3,e4⟩
     ·exact .inl z
     ·exact .inr ⟨dd,f,v',e1,e2,e3,e4⟩)
   ·exact h.elim
  ·exact h.elim
end
end Cm
namespace Cm
open PySem PySem.Spec PyProof.Rows L2
variable [HasT]
inductive ClsVs:List V→List Value→Prop where
 |nil:ClsVs [] []
 |cons {v:V} {u:Value} {vs:List V} {us:List Value}:ClsV v u→ClsVs vs us→ClsVs (v::vs) (u::us)
theorem ClsVs.eq {vs:List V} {us its:List Value} (h:ClsVs vs us) (r:Vals vs its):its=us:=by
 induction h generalizing its with
 |nil=>cases r;rfl
 |cons k _ ih =>
  cases r with
  |cons rx rr=>rw[k.eq rx,ih rr]
def tVs (vs:List V):TA:=fun _ H Q=>Q vs H
section
variable {C:Ctx} {X:Cx}
theorem qpx {a:Expr} {g:List Sl→RE ER} {es:List Expr} {k1:Nat} {vs:List V} {us:List Value} {cks:List (Option (Nat→Option Bool))} {p tp pos:Pos} (hK:X.K=C.G.K) (hg:Gl X "isinstance") (hm:X.mg "isinstance" = none) (hes:PA X es (tVs vs)) (kv:ClsVs vs us) (hl:us.length≤sizeLine)
  (ok:∀c b,qqc cks c=some b→PySem.W.kitAny C.G.K (.ref (C.G.ca c)) us=some b∧ExcC C.G.K (C.G.ca c)) (ha:PE X a (tE C g)) (na:qag a=true) :
  PE X (.Call (.Name "isinstance" p) [a,.Tuple es k1 tp] [] pos) (tE C fun ρ=>(g ρ).bind fun x=>qnI cks x.d):=by
 have na:=qac (es:=[.Tuple es k1 tp]) (env:=X.env) na
 refine⟨fun pins s σ H Q I h=>Call_ (ld_blt I hg hm PyProof.Rows.boot_isinstance (PyProof.Rows.callWith_builtin1 (PyProof.Rows.args_cons ?_ na) na rfl))⟩
 have body:tE C g σ H fun x H1=>∃(e D:Addr) (b:Bool),x=V.ref e∧H1 e=some (exK (.ref D) e)∧ExcC X.K D∧PySem.W.kitAny X.K (.ref D) us=some b∧Q (.bl b) H1:=by
  obtain⟨ρ,P,N,S,h⟩:=h
  refine⟨ρ,P,N,S,h.bind.mono fun x P1 N1 H1 _ a1 h1 v rv=>?_⟩
  have r1:=(S.adv a1).reg
  have w:=rv.w r1
  unfold qnI at h1
  split at h1
  ·rename_i c q
   rw[q] at w
   split at h1
   ·rename_i b e
    obtain⟨_,e2,rfl,z⟩:=w
    obtain⟨z1,z2⟩:=ok c b e
    exact⟨e2,_,b,rfl,r1.pH _ _ z,by rw[hK];exact z2,by rw[hK];exact z1,h1.val r1 rfl⟩
   ·exact h1.elim
  ·exact h1.elim
 refine thn (ha.run pins s σ H _ I body) fun v s1 ⟨x,H1,I1,r1,q1⟩=>PyProof.Rows.args_cons (wpAny_Tuple_spliced (thn (hes.run tp pins s1 σ H1 (fun xs H2=>xs=vs∧H2=H1) I1 ⟨rfl,rfl⟩) fun ws s2 ⟨xs,H2,I2,r2,q2⟩=>?_)) rfl
 obtain⟨rfl,rfl⟩:=q2
 obtain⟨e,D,b,rfl,he,C1,ek,q1⟩:=q1
 cases r1
 have ew:=kv.eq r2
 subst ew
 refine⟨hl,PyProof.Rows.args_nil ?_⟩
 have I3:L2.Inv X pins σ H2 { s2 with heap:=s2.heap.push { cls:=.type "tuple",data:=.seq ws.toArray } }:=I2.kept (t':=s2.toks) fun _ _ z=>Heap.get?_push_of_some _ z
 obtain⟨⟨oe,vs',ho,hz,hd⟩,_,_⟩:=I3.hok e _ he
 have J:PySem.W.InstAt (s2.heap.push { cls:=.type "tuple",data:=.seq ws.toArray }) e oe D none:=by
  obtain⟨oc,od,oda,osl⟩:=oe
  obtain⟨h1,h2⟩:=hz
  dsimp only at h1 h2 hd
  subst h1 h2 hd
  exact⟨ho,rfl,rfl,trivial⟩
 exact PySem.W.kia_tup (s:={ s2 with heap:=s2.heap.push { cls:=.type "tuple",data:=.seq ws.toArray } }) (PySem.W.handS_kitx_exc C1.hg C1.hk C1.hs C1.hd C1.ha C1.hn C1.ht C1.hm) I3.kIn J (Heap.get?_push_size _ rfl) ek (fun z=>nomatch z) fun tk=>⟨.bl b,_,I3.kept (t':=tk) fun _ _ z=>z,rfl,q1⟩
end
end Cm
namespace Cm
open PySem PySem.Spec PyProof.Rows L2
variable [HasT]
section
variable {R:Cm.D→V→Prop}
theorem DctR.fnd:∀{m:List (Int × Cm.D)} {es:List (Key × V)} {k:Int},DctR R m es→match qfs k m with
  |some d=>∃v,valV es (.inl k)=some v∧R d v
  |none=>valV es (.inl k)=none
 |[],_,_,h=>by cases h;rfl
 |e::m,_,k,⟨v,r,he,h1,h2⟩=>by
  subst he
  unfold qfs
  by_cases q:e.1=k
  ·rw[if_pos q]
   exact⟨v,valV_pos (by rw[←q]),h1⟩
  ·rw[if_neg q,valV_neg (fun z=>q (Sum.inl.inj z))]
   exact DctR.fnd h2
theorem DctR.some {m:List (Int × Cm.D)} {es:List (Key × V)} (h:DctR R m es) {k:Int} {d:Cm.D} (e:qfs k m=some d):∃v,valV es (.inl k)=some v∧R d v:=by
 have:=h.fnd (k:=k)
 rw[e] at this;exact this
theorem DctR.has {m:List (Int × Cm.D)} {es:List (Key × V)} (h:DctR R m es) (k:Int):(valV es (.inl k)).isSome=(qfs k m).isSome:=by
 have:=h.fnd (k:=k)
 cases e:qfs k m with
 |none=>rw[e] at this;rw[this];rfl
 |some d=>rw[e] at this;obtain⟨v,q,_⟩:=this;rw[q];rfl
theorem DctR.len:∀{m:List (Int × Cm.D)} {es:List (Key × V)},DctR R m es→es.length=m.length
 |[],_,h=>by cases h;rfl
 |e::m,_,⟨v,r,he,h1,h2⟩=>by subst he;simp[DctR.len h2]
theorem DctR.set {k:Int} {d:Cm.D} {v:V} (hr:R d v):∀{m:List (Int × Cm.D)} {es:List (Key × V)},DctR R m es→DctR R (qs1 k d m) (es.map fun kv=>if kv.1=.inl k then (kv.1,v) else kv)
 |[],_,h=>by cases h;rfl
 |e::m,_,⟨w,r,he,h1,h2⟩=>by
  subst he
  have ih:=DctR.set (k:=k) hr h2
  unfold qs1 at ih ⊢
  rw[List.map_cons,List.map_cons]
  by_cases q:e.1=k
  ·rw[if_pos q,if_pos (by show Sum.inl e.1=Sum.inl k;rw[q])]
   exact⟨v,_,rfl,hr,ih⟩
  ·rw[if_neg q,if_neg (fun z=>q (Sum.inl.inj z))]
   exact⟨w,_,rfl,h1,ih⟩
theorem DctR.snoc {k:Int} {d:Cm.D} {v:V} (hr:R d v):∀{m:List (Int × Cm.D)} {es:List (Key × V)},DctR R m es→DctR R (m++[(k,d)]) (es++[(.inl k,v)])
 |[],_,h=>by cases h;exact⟨v,[],rfl,hr,rfl⟩
 |e::m,_,⟨w,r,he,h1,h2⟩=>by subst he;exact⟨w,_,rfl,h1,DctR.snoc hr h2⟩
theorem DctR.put {m:List (Int × Cm.D)} {es:List (Key × V)} (h:DctR R m es) {k:Int} {d:Cm.D} {v:V} (hr:R d v):DctR R (qoN k d m) (putK es (.inl k) v):=by
 unfold qoN putK
 rw[valV_any,h.has]
 split
 ·exact h.set hr
 ·exact h.snoc hr
end
section
variable {C:Ctx} {X:Cx} {P N H:Hp} {ρ:List Sl} {σ:L2.St}
def qu1:List (List Nat)→List (Option Expr)→Bool
 |[],[]=>true
 |k::ks,some (.Constant (.str x) _ _)::es=>decide (x=qa1 k)&&qu1 ks es
 |_,_=>false
def qui (C:Ctx) (Γ:Env):List (List Nat)→Exs→List (TE × TE)
 |k::ks,.cons e es=>(tC (.str (qa1 k)),tE C (ev Γ e))::qui C Γ ks es
 |_,_=>[]
def kys (ks:List (List Nat)):List Key:=ks.map fun k=>.inr (qa1 k)
def Exs.ln:Exs→Nat
 |.nil=>0
 |.cons _ es=>es.ln+1
theorem qre {o:Expr} {go:List Sl→RE ER} {apos pos:Pos} (ho:PE X o (tE C go)) (hbase:attributeBase o "upper" X.env (eval o X.env)=eval o X.env) (hline:(apos.endLine == pos.line)=true):PE X (.Call (.Attribute o "upper" apos) [] [] pos) (tE C fun ρ=>(go ρ).bind fun x=>match x.d with
  |.str s=>gd (Nat.ble s.length 5592405) (ok (.str (upT s)))
  |_=>.bad):=qal (pe_upper ho hbase hline) fun σ H Q q=>by
 obtain⟨ρ,P,N,S,h⟩:=q
 refine⟨ρ,P,N,S,h.bind.mono fun x P1 N1 H1 _ a1 h1 v rv=>?_⟩
 have S1:=S.adv a1
 split at h1
 ·rename_i s es
  have w:=rv.w S1.reg
  rw[es] at w
  cases w.str
  simp only[qef,Nat.ble_eq] at h1
  split at h1
  ·rename_i hl
   refine⟨⟨_,rfl⟩,_,rfl,rfl,by rw[qbE];exact hl,?_⟩
   exact h1.val S1.reg rfl
  ·exact h1.elim
 ·exact h1.elim
end
end Cm
namespace Cm
open PySem PySem.Spec PyProof.Rows L2
variable [HasT]
section
variable {C:Ctx} {X:Cx} {P N H:Hp} {ρ:List Sl} {σ:L2.St}
noncomputable def NW (H:Hp) (ρ:List Sl) (σ:L2.St) (N:Hp):Hp:=fun a=>@ite _ (∃(j:Nat) (dss:List (List Cm.D)) (u:Option V),ρ[j]? = some (.row dss)∧σ[j]? = some u∧Held H (.row dss) u a) (Classical.propDecidable _) (H a) (N a)
noncomputable def NB (H:Hp) (ρ:List Sl) (σ:L2.St) (N2:Hp):Hp:=fun a=>@ite _ (∃(j:Nat) (dss:List (List Cm.D)) (u:Option V),ρ[j]? = some (.row dss)∧σ[j]? = some u∧Held H (.row dss) u a) (Classical.propDecidable _) none (N2 a)
theorem ExR.flat {P2 N2 N3 H2:Hp} {fs:List Cm.D} {d:Option Addr} (f:D.flats fs=true) (h:ExR C P2 N2 H2 fs d):ExR C P2 N3 H2 fs d:=by
 rcases h with h | ⟨dd,g,v,e1,e2,e3,e4⟩
 ·exact .inl h
 ·subst e1
  simp only[D.flats,Bool.and_true] at f
  exact .inr ⟨dd,g,v,rfl,e2,e3,Rep.flat g v f e4⟩
def FrR (C:Ctx) (P N H H0:Hp) (dss:List (List Cm.D)) (ps:List Addr):Prop:=RowR (fun a ds=>∃xs,H a=some (.lst xs)∧H0 a=none∧P a=none∧N a=none∧D.flats ds=true∧RepsB C P N true ds xs) dss ps∧ps.Nodup
def tF (C:Ctx) (g:List Sl→RE (List (List Cm.D))):TA:=fun σ H Q=>∃ρ P N,SR C P N H ρ σ∧res C σ P N H (g ρ) fun dss P' N' H'=>∀ps,FrR C P' N' H' H dss ps→Q (ps.map V.ref) H'
theorem qsG:PA X [] (tF C fun _=>.ok []):=qfG pa_nil fun σ H Q q=>by
 obtain⟨ρ,P,N,S,h⟩:=q
 exact h.now S.reg [] ⟨rfl,List.nodup_nil⟩
theorem qo8 {e:Expr} {es:List Expr} {ge:List Sl→RE ER} {g:List Sl→RE (List (List Cm.D))} (he:PE X e (tE C ge)) (hr:PA X es (tF C g)) (hs:starEach (e::es) X.env=(false,eval e X.env)::starEach es X.env) :
  PA X (e::es) (tF C fun ρ=>(ge ρ).bind fun x=>match x with
  |.fre ds _=>if D.flats ds=true then (g ρ).bind fun r=>.ok (ds::r) else .bad
  |_=>.bad):=qfG (pa_cons he hr hs) fun σ H Q q=>by
 obtain⟨ρ,P,N,S,h⟩:=q
 refine⟨ρ,P,N,S,h.bind.mono fun x P1 N1 H1 _ a1 h1 v rv=>?_⟩
 have S1:=S.adv a1
 cases x with
 |val _ _=>exact h1.elim
 |brw _ _=>exact h1.elim
 |fre ds b =>
  simp only at h1
  split at h1
  case isFalse=>exact h1.elim
  rename_i f
  obtain⟨p,xs,rfl,y1,y2,y3,y4,y5⟩:=rv
  refine⟨ρ,P1,N1,S1,h1.bind.mono fun r P2 N2 H2 _ a2 h2 ps fr=>?_⟩
  obtain⟨k1,k2⟩:=fr
  refine h2.now (S1.adv a2).reg (p::ps) ⟨⟨p,ps,rfl,⟨xs,a2.hh _ _ y1,y2,a2.off y1 y3,a2.offN y1 y4,f,RepsB.adv a2.pp a2.nn (Reps.flat ds xs f y5)⟩,?_⟩,?_⟩
  ·exact k1.mono fun a ds ⟨xs,g1,g2,g3⟩=>⟨xs,g1,a1.hh.free g2,g3⟩
  ·rw[List.nodup_cons]
   refine⟨fun m=>?_,k2⟩
   obtain⟨ds,xs,g1,g2,_⟩:=k1.all p m
   rw[y1] at g2;cases g2
theorem AR.setW {i:Nat} {dss:List (List Cm.D)} {p:Addr} (h:AR H ρ σ) (k:∀(j:Nat) (t:Sl) (u:Option V) (a:Addr),i≠j→ρ[j]? = some t→σ[j]? = some u→Held H t u a→¬Held H (.row dss) (some (.ref p)) a):AR H (ρ.set i (.row dss)) (σ.set i (some (.ref p))):=⟨fun j l es t o u a e1 e2 e3 e4 h1 h2=>by
 rcases qa4 e1 with⟨q1,z1⟩ | ⟨q1,z1⟩
 ·cases z1
  rcases qa4 e3 with⟨_,z3⟩ | ⟨q3,_⟩
  ·rcases qa4 e2 with⟨q2,z2⟩ | ⟨q2,z2⟩
   ·omega
   ·rw[List.getElem?_set_ne q2] at e4
    rw[z3] at h1
    exact absurd h1 (k l t u a q2 z2 e4 h2)
  ·exact absurd q1 q3
 ·rw[List.getElem?_set_ne q1] at e3
  rcases qa4 e2 with⟨q2,z2⟩ | ⟨q2,z2⟩
  ·rcases qa4 e4 with⟨_,z4⟩ | ⟨q4,_⟩
   ·rw[z2,z4] at h2
    exact absurd h2 (k j _ o a q1 z1 e3 h1)
   ·exact absurd q2 q4
  ·rw[List.getElem?_set_ne q2] at e4
   exact h.un j l es t o u a z1 z2 e3 e4 h1 h2⟩
theorem SR.setW {P0 N0 H0:Hp} (S0:SR C P0 N0 H0 ρ σ) (S:SR C P N H ρ σ) (hs:Cm.Same H0 H) {i:Nat} {dss:List (List Cm.D)} {p:Addr} {ps:List Addr} (h0:H0 p=none) (hp:H p=some (.lst (ps.map V.ref))) (pP:P p=none) (pN:N p=none) (fr:FrR C P N H H0 dss ps) (hn:p∉ps):SR C P N H (ρ.set i (.row dss)) (σ.set i (some (.ref p))) where
 reg:=S.reg
 len:=by simp[S.len]
 sl:=fun j s e=>by
  by_cases q:i=j
  ·subst q
   have hi:i<ρ.length:=by
    rcases Nat.lt_or_ge i ρ.length with z | z
    ·exact z
    ·rw[List.getElem?_eq_none (by simpa using z)] at e;cases e
   rw[List.getElem?_set_self hi] at e
   cases e
   exact⟨_,List.getElem?_set_self (by rw[S.len];exact hi),p,ps,rfl,hp,pP,pN,S0.reg.bH.free h0,fr.1.mono fun a ds ⟨xs,g1,g2,g3,g4,g5⟩=>⟨xs,g1,g3,g4,S0.reg.bH.free g2,g5⟩,List.nodup_cons.mpr ⟨hn,fr.2⟩⟩
  ·rw[List.getElem?_set_ne q] at e
   rw[List.getElem?_set_ne q]
   exact S.sl j s e
 ap:=fun j k r ds c es c' e1 e2 e3 e4=>by
  rcases qa4 e1 with⟨_,z⟩ | ⟨q1,z1⟩
  ·cases z
  ·rcases qa4 e2 with⟨_,z⟩ | ⟨q2,z2⟩
   ·cases z
   ·rw[List.getElem?_set_ne q1] at e3
    rw[List.getElem?_set_ne q2] at e4
    exact S.ap j k r ds c es c' z1 z2 e3 e4
 ad:=S.ad.set rfl
 ar:=S.ar.setW fun j t u a hj e1 e2 k1 k2=>by
  have fresh:H0 a=none:=by
   cases k2 with
   |rt=>exact h0
   |it e m =>
    rw[hp] at e
    injection e with e
    injection e with e
    rw[←qgs e] at m
    obtain⟨ds,xs,g1,g2,_⟩:=fr.1.all a m
    exact g2
  cases k1 with
  |own =>
   obtain⟨o,z1,z2⟩:=S0.sl j _ e1
   rw[z1] at e2;cases e2
   obtain⟨q,xs,y1,y2,_⟩:=z2
   cases y1
   rw[fresh] at y2;cases y2
  |rt=>exact S0.newW hs fresh e1 e2 .rt
  |it e m=>exact S0.newW hs fresh e1 e2 (.it e m)
theorem qsB {i:Nat} {g:List Sl→RE (List (List Cm.D))} {D:Ends} (q:tS C (fun ρ=>(g ρ).out fun dss=>gdO (leB dss.length) (.nx (ρ.set i (.row dss)))) D σ H):tAsg (tLst (tF C g)) (gName i) D σ H:=by
 obtain⟨ρ,P,N,S,h⟩:=q
 refine⟨ρ,P,N,S,(h.res S.reg).mono fun dss P1 N1 H1 _ a1 h1 ps fr=>?_⟩
 simp only[qbu,qat] at h1
 split at h1
 case isFalse=>exact h1.elim
 rename_i hl
 have ln:∀{dss:List (List Cm.D)} {ps:List Addr} {R:Addr→List Cm.D→Prop},RowR R dss ps→ps.length=dss.length:=fun {dss}=>by
  induction dss with
  |nil=>intro ps R h;cases h;rfl
  |cons d r ih=>intro ps R ⟨a,q,e,_,h2⟩;subst e;simp[ih h2]
 refine⟨by rw[List.length_map,ln fr.1];exact hl,fun p hp=>?_⟩
 have S1:=S.adv a1
 have a2:Adv P1 N1 H1 P1 N1 (upd H1 p (.lst (ps.map V.ref))):=(Adv.refl S1.reg.pH S1.reg.nH).heap (qfa hp)
 have S2:=S1.adv a2
 have ne:p∉ps:=fun m=>by
  obtain⟨ds,xs,g1,_⟩:=fr.1.all p m
  rw[hp] at g1;cases g1
 refine h1 _ P1 N1 _ (SR.setW S S2 (a1.hh.trans a2.hh) (a1.hh.free hp) upd_same (S1.reg.pH.free hp) (S1.reg.nH.free hp) ⟨fr.1.sub fun a m ds ⟨xs,g1,g2⟩=>⟨xs,a2.hh _ _ g1,g2⟩,fr.2⟩ ne) a1.pp a1.nn
theorem RowR.get {R:Addr→List Cm.D→Prop}:∀{dss:List (List Cm.D)} {ps:List Addr} {k:Nat} {ds:List Cm.D},RowR R dss ps→dss[k]? = some ds→∃a,ps[k]? = some a∧R a ds
 |[],_,_,_,_,e=>by simp at e
 |d::r,_,0,ds,⟨a,q,e,h1,h2⟩,e2=>by subst e;cases e2;exact⟨a,rfl,h1⟩
 |d::r,_,k+1,ds,⟨a,q,e,h1,h2⟩,e2=>by
  subst e
  obtain⟨b,g1,g2⟩:=RowR.get (k:=k) h2 (by simpa using e2)
  exact⟨b,by simpa using g1,g2⟩
theorem RowR.put {R R':Addr→List Cm.D→Prop}:∀{dss:List (List Cm.D)} {ps:List Addr} {k:Nat} {a:Addr} {ds':List Cm.D},RowR R dss ps→ps[k]? = some a→ps.Nodup→R' a ds'→(∀b∈ps,b≠a→∀ds,R b ds→R' b ds)→RowR R' (dss.set k ds') ps
 |[],_,_,_,_,h,e,_,_,_=>by cases h;simp at e
 |d::r,_,0,a,ds',⟨b,q,e,h1,h2⟩,e2,nd,h3,h4=>by
  subst e
  cases e2
  rw[List.nodup_cons] at nd
  exact⟨_,q,rfl,h3,h2.sub fun c m ds g=>h4 c (List.mem_cons_of_mem _ m) (fun z=>nd.1 (z ▸ m)) ds g⟩
 |d::r,_,k+1,a,ds',⟨b,q,e,h1,h2⟩,e2,nd,h3,h4=>by
  subst e
  rw[List.nodup_cons] at nd
  have e2:q[k]? = some a:=by simpa using e2
  exact⟨b,q,rfl,h4 b (by simp) (fun z=>nd.1 (z ▸ List.mem_of_getElem? e2)) _ h1,RowR.put h2 e2 nd.2 h3 fun c m=>h4 c (List.mem_cons_of_mem _ m)⟩
theorem AR.row {i:Nat} {dss dss':List (List Cm.D)} (h:AR H ρ σ) (e:ρ[i]? = some (.row dss)):AR H (ρ.set i (.row dss')) σ:=⟨fun j l es t o u a e1 e2 e3 e4 h1 h2=>by
 have back:∀{m:Nat} {t:Sl} {o:Option V},(ρ.set i (.row dss'))[m]? = some t→Held H t o a→∃t',ρ[m]? = some t'∧Held H t' o a∧(t.isW=true→t'.isW=true):=fun {m t o} em hh=>by
  rcases qa4 em with⟨q,z⟩ | ⟨q,z⟩
  ·subst q
   rw[z] at hh
   refine⟨_,e,?_,fun _=>rfl⟩
   cases hh with
   |rt=>exact .rt
   |it e m=>exact .it e m
  ·exact⟨t,z,hh,id⟩
 obtain⟨t1,f1,g1,w1⟩:=back e1 h1
 obtain⟨t2,f2,g2,_⟩:=back e2 h2
 have w1:=w1 rfl
 cases t1 with
 |row es'=>exact h.un j l es' t2 o u a f1 f2 e3 e4 g1 g2
 |_=>cases w1⟩
abbrev tRx (K:PySem.W.Frag) (i k:Nat):TE:=tOp (rIx K) (tVar i) (tC (.int k))
end
end Cm
namespace Cm
open PySem PySem.Spec PyProof.Rows L2
variable [HasT]
def qt5:Ex→Bool
 |.cmp _ _ _=>true
 |.chn _ _ _ _ _=>true
 |.isN _=>true
 |_=>false
def qtE:Expr→Bool
 |.UnaryOp .Not _ _=>false
 |.BoolOp _ _ _=>false
 |.IfExp _ _ _ _=>false
 |.Compare _ _ _ _=>false
 |_=>true
def tgE (T:Tb) (fc:Option Scope) (sc:Scope):List Nat→List Expr→Bool
 |[],[]=>true
 |i::is,.Name x _::es=>decide (T.N[i]? = some x)&&tgB fc sc x&&tgE T fc sc is es
 |_,_=>false
def qmF (T:Tb) (fc:Option Scope) (sc:Scope) (tg:List Nat) (t:Expr):Bool:=
 match t with
 |.Name x _=>match tg with
  |[i]=>decide (T.N[i]? = some x)&&tgB fc sc x
  |_=>false
 |.Tuple es _ _=>decide (tg.length≠1)&&tgE T fc sc tg es
 |_=>false
def qoG:Expr→Bool
 |.Tuple _ _ _=>true
 |_=>false
def quX (T:Tb) (sc:Scope):List Nat→List Expr→Bool
 |[],[]=>true
 |k::ks,.Name n _::es=>decide ((T.ck[k]?).map (·.1)=some n)&&glB sc n&&nmB n&&quX T sc ks es
 |_,_=>false
mutual
def qaT (T:Tb):Ex→Option Scope→Scope→Expr→Bool
 |.nev,_,_,_=>true
 |.var i,_,sc,e=>match e with
  |.Name x _=>decide (T.N[i]? = some x)&&qmt sc x&&nmB x
  |_=>false
 |.cint i,_,_,e=>match e with
  |.Constant (.int j) _ _=>decide (i=j)
  |_=>false
 |.cbl i,_,_,e=>match e with
  |.Constant (.bool j) _ _=>decide (i=j)
  |_=>false
 |.cnon,_,_,e=>match e with
  |.Constant .none _ _=>true
  |_=>false
 |.cstr s,_,_,e=>match e with
  |.Constant (.str x) _ _=>decide (x=qa1 s)
  |_=>false
 |.glo k,_,sc,e=>match e with
  |.Name x _=>decide (T.gc[k]? = some x)&&glB sc x&&nmB x
  |_=>false
 |.bin o a b,fc,sc,e=>match e with
  |.BinOp x op y _=>decide (op=qws o)&&qaT T a fc sc x&&qaT T b fc sc y
  |_=>false
 |.cmp o a b,fc,sc,e=>match e with
  |.Compare x [op] [y] _=>decide (op=qiP o) && !behindInMarks (qiP o) y&&qaT T a fc sc x&&qaT T b fc sc y
  |_=>false
 |.chn o p a b c,fc,sc,e=>match e with
  |.Compare x [op,op'] [y,z] _=>decide (op=qiP o)&&decide (op'=qiP p) && !lastMarks [qiP o,qiP p] [y,z]&&qaT T a fc sc x&&qaT T b fc sc y&&qaT T c fc sc z
  |_=>false
 |.isN a,fc,sc,e=>match e with
  |.Compare x [.Is] [.Constant .none _ _] _=>qaT T a fc sc x
  |_=>false
 |.bop c es,fc,sc,e=>match e with
  |.BoolOp op xs _=>decide (op=qoU c) && !xs.isEmpty&&qbh T es fc sc xs
  |_=>false
 |.bnot a,fc,sc,e=>match e with
  |.UnaryOp .Not x _=>qaT T a fc sc x
  |_=>false
 |.tup es,fc,sc,e=>match e with
  |.Tuple xs _ _=>qbh T es fc sc xs&&xs.all qag&&decide (xs.length<1000)
  |_=>false
 |.lst es,fc,sc,e=>match e with
  |.List xs _=>qbh T es fc sc xs&&xs.all qag&&decide (xs.length<1000)
  |_=>false
 |.idx a i,fc,sc,e=>match e with
  |.Subscript x y _=>qaT T a fc sc x&&qaT T i fc sc y&&qgo y
  |_=>false
 |.slc a lo hi,fc,sc,e=>match e with
  |.Subscript x (.Slice l h none _) _=>qaT T a fc sc x&&quy T lo fc sc l&&quy T hi fc sc h
  |_=>false
 |.call f es,fc,sc,e=>match e with
  |.Call (.Name x _) xs [] _=>decide (T.fn[f]? = some (x,xs.length))&&glB sc x&&nmB x&&qbh T es fc sc xs&&xs.all qag
  |_=>false
 |.pri p es,fc,sc,e=>match e with
  |.Call (.Name x _) xs [] _=>decide (x=qqB p)&&glB sc x && !xs.isEmpty&&qbh T es fc sc xs&&xs.all qag
  |_=>false
 |.lrng es,fc,sc,e=>match e with
  |.Call (.Name l _) [.Call (.Name r _) xs [] _] [] _=>decide (l=("list" : Str))&&decide (r=("range" : Str))&&glB sc "list" && glB sc "range" && qbh T es fc sc xs&&xs.all qag&&decide (xs.length=1∨xs.length=2)
  |_=>false
 |.mth m o es,fc,sc,e=>match e with
  |.Call (.Attribute x mn apos) xs [] pos=>decide (T.mn[m]? = some (mn,xs.length))&&qaT T o fc sc x&&qbh T es fc sc xs&&xs.all qag&&qjN x&&decide (xs.length<20)&&(apos.endLine == pos.line)
  |_=>false
 |.bm1 m o a,fc,sc,e=>match e with
  |.Call (.Attribute x mn apos) [y] [] pos=>decide (mn=bmN m)&&qaT T o fc sc x&&qaT T a fc sc y&&qag y&&qjN x&&(apos.endLine == pos.line)
  |_=>false
 |.fld o f,fc,sc,e=>match e with
  |.Attribute x fn _=>decide (T.fs[f]? = some fn)&&qaT T o fc sc x&&qjN x
  |_=>false
 |.isi a t,fc,sc,e=>match e with
  |.Call (.Name x _) [y,.Name n _] [] _=>decide (x=("isinstance" : Str))&&decide (n=tyN t)&&glB sc "isinstance" && glB sc (tyN t)&&qaT T a fc sc y&&qag y
  |_=>false
 |.lc own it tg cnd e',fc,sc,e=>match e with
  |.ListComp elt [⟨tgt,iter,ifs,0⟩] scope _=>blkC T.N sc scope (own.map fun i=>(T.N.getD i Str.empty,i))&&qoM T it fc sc tgt iter&&qmF T (some scope) (relS scope sc) tg tgt&&tg.all (fun i=>decide (i∈own))&&qnM T cnd (some scope) (relS scope sc) ifs&&qaT T e' (some scope) (relS scope sc) elt&&qjq iter
  |_=>false
 |.lcx own it tg cnd e',fc,sc,e=>match e with
  |.ListComp elt [⟨tgt,iter,ifs,0⟩] scope _=>blkC T.N sc scope (own.map fun i=>(T.N.getD i Str.empty,i))&&qoM T it fc sc tgt iter&&qmF T (some scope) (relS scope sc) tg tgt&&tg.all (fun i=>decide (i∈own))&&qnM T cnd (some scope) (relS scope sc) ifs&&qaT T e' (some scope) (relS scope sc) elt&&qjq iter&&fc.isNone
  |_=>false
 |.inxS o a,fc,sc,e=>match e with
  |.Call (.Attribute x mn apos) [y] [] pos=>decide (mn=("index" : Str))&&qaT T o fc sc x&&qaT T a fc sc y&&qag y&&qjN x&&(apos.endLine == pos.line)
  |_=>false
 |.isc a k,fc,sc,e=>match e with
  |.Call (.Name x _) [y,.Name n _] [] _=>decide (x=("isinstance" : Str))&&glB sc "isinstance" && decide ((T.ck[k]?).map (·.1)=some n)&&glB sc n&&nmB n&&qaT T a fc sc y&&qag y
  |_=>false
 |.iscT a ks,fc,sc,e=>match e with
  |.Call (.Name x _) [y,.Tuple ns _ _] [] _=>decide (x=("isinstance" : Str))&&glB sc "isinstance" && decide (ks≠[])&&Nat.ble ks.length 100&&quX T sc ks ns&&qaT T a fc sc y&&qag y
  |_=>false
 |.upr o,fc,sc,e=>match e with
  |.Call (.Attribute x mn apos) [] [] pos=>decide (mn=("upper" : Str))&&qaT T o fc sc x&&qjN x&&(apos.endLine == pos.line)
  |_=>false
 |.lset a,fc,sc,e=>match e with
  |.Call (.Name l _) [.Call (.Name r _) [y] [] _] [] _=>decide (l=("len" : Str))&&decide (r=("set" : Str))&&glB sc "len" && glB sc "set" && qaT T a fc sc y&&qag y
  |_=>false
 |.new k es,fc,sc,e=>match e with
  |.Call (.Name x _) xs [] _=>decide (T.nw[k]? = some (x,xs.length))&&glB sc x&&nmB x&&qbh T es fc sc xs&&xs.all qag
  |_=>false
def qbh (T:Tb):Exs→Option Scope→Scope→List Expr→Bool
 |.nil,_,_,xs=>xs.isEmpty
 |.cons e es,fc,sc,xs=>match xs with
  |x::xs=>qaT T e fc sc x&&qbh T es fc sc xs
  |[]=>false
def quy (T:Tb):Exs→Option Scope→Scope→Option Expr→Bool
 |.nil,_,_,x=>x.isNone
 |.cons e _,fc,sc,x=>match x with
  |some x=>qaT T e fc sc x
  |none=>false
def qoT (T:Tb):Te→Option Scope→Scope→Expr→Bool
 |.val e,fc,sc,x=>qaT T e fc sc x&&(qt5 e||qtE x)
 |.bop c ts,fc,sc,x=>match x with
  |.BoolOp op xs _=>decide (op=qoU c) && !xs.isEmpty&&qmi T ts fc sc xs
  |_=>false
 |.not t,fc,sc,x=>match x with
  |.UnaryOp .Not x _=>qoT T t fc sc x
  |_=>false
def qmi (T:Tb):Tes→Option Scope→Scope→List Expr→Bool
 |.nil,_,_,xs=>xs.isEmpty
 |.cons t ts,fc,sc,xs=>match xs with
  |x::xs=>qoT T t fc sc x&&qmi T ts fc sc xs
  |[]=>false
def qnM (T:Tb):Tes→Option Scope→Scope→List Expr→Bool
 |.nil,_,_,xs=>xs.isEmpty
 |.cons t ts,fc,sc,xs=>match xs with
  |[x]=>qoT T t fc sc x&&(match ts with
   |.nil=>true
   |_=>false)
  |_=>false
def qoM (T:Tb):Itx→Option Scope→Scope→Expr→Expr→Bool
 |.any e,fc,sc,_,x=>qaT T e fc sc x
 |.rng es,fc,sc,_,x=>match x with
  |.Call (.Name r _) xs [] _=>decide (r=("range" : Str))&&glB sc "range" && qbh T es fc sc xs&&xs.all qag&&decide (xs.length=1∨xs.length=2∨xs.length=3)
  |_=>false
 |.zp a b,fc,sc,t,x=>match x with
  |.Call (.Name r _) [y,z] [] _=>decide (r=("zip" : Str))&&glB sc "zip" && qaT T a fc sc y&&qaT T b fc sc z&&qag y&&qag z&&qoG t
  |_=>false
 |.en a,fc,sc,t,x=>match x with
  |.Call (.Name r _) [y] [] _=>decide (r=("enumerate" : Str))&&glB sc "enumerate" && qaT T a fc sc y&&qag y&&qoG t
  |_=>false
 |.rv a,fc,sc,_,x=>match x with
  |.Call (.Name r _) [y] [] _=>decide (r=("reversed" : Str))&&glB sc "reversed" && qaT T a fc sc y&&qag y
  |_=>false
 |.rvr a,fc,sc,_,x=>match x with
  |.Call (.Name r _) [.Call (.Name r2 _) [y] [] _] [] _=>decide (r=("reversed" : Str))&&decide (r2=("range" : Str))&&glB sc "reversed" && glB sc "range" && qaT T a fc sc y&&qag y
  |_=>false
end
structure XOk (T:Tb) (Γ:Env) (C:Ctx) (X:Cx) (fc:Option Scope) (sc:Scope):Prop where
 nm:X.N=T.N
 nd:X.N.Nodup
 sc:X.env.scope=sc
 K:X.K=C.G.K
 tk:Takes X C.W
 calm:X.calm=true
 un:X.A.units+65<cLine
 blt:∀x∈bltNames,X.mg x=none
 fnc:match fc with
  |none=>X.fn=fun _=>true
  |some so=>X.fn=fun x=>so.names.lookup x == some .cell
 fn:∀(f:Nat) (x:Str) (n:Nat),T.fn[f]? = some (x,n)→∀g,Γ.fn[f]? = some g→∃(k:Nat) (a:Addr) (fd:FuncData) (ps:List Str) (m:Nat) (gf:List Cm.D→RE ER),FnOk X.prog X.w X.K X.mg X.base (L2.CX X.prog X.w) k a fd ps (spD C.G (n+m) gf)∧Room k X.A∧X.mg x=some (.ref a)∧PySem.W.keepIn X.K (.ref a)=true∧Part X.K C.G fd ps n m g.2 gf
 gc:∀(k:Nat) (x:Str),T.gc[k]? = some x→∀c,Γ.gc[k]? = some c→∃u v,X.mg x=some u∧RelV v u∧(∀P N,RepB C P N true c.2 v)∧WrT C.G v
 mt:∀(m:Nat) (x:Str) (n:Nat),T.mn[m]? = some (x,n)→∀c g,Γ.mt c m=some g→MtOk C X x c n g
 fs:∀(f:Nat) (x:Str),T.fs[f]? = some x→∀c k,Γ.fi c f=some k→FdOk C X x c k
 nw:∀(k:Nat) (x:Str) (n:Nat),T.nw[k]? = some (x,n)→∀g,Γ.nw[k]? = some g→NwOk C X x g.1 n g.2
 ck:∀(k:Nat) (x:Str) (own:Bool),T.ck[k]? = some (x,own)→CkOk C.G X.K X.mg x own Γ.ck[k]? Γ.ik[k]?
 xk:∀(k:Nat) (x:Str),T.xk[k]? = some x→∀c,Γ.xk[k]? = some c→RsOk X.K X.mg (C.G.ca c) x
 dc:∀(k:Nat) (x:Str),T.dc[k]? = some x→∀t,Γ.dc[k]? = some t→quR C.G X.K X.w X.mg x t.2
 fr:fc=none→FrOk X
 lam:fc=none→∀c P,T.lm=some (c,P)→X.env.code=.ref c∧LamX.TabB X.base X.mg c P∧(P,X.env.qual ++ "<lambda>")∈HasT.T∧(∀p∈HasT.T,p.1=P→p.2=X.env.qual ++ "<lambda>")∧X.A.depth<recursionLimit
 fo:∀(f:Nat) (x:Str) (n:Nat),T.fo[f]? = some (x,n)→∀g,Γ.fo[f]? = some g→∃(k:Nat) (a:Addr) (fd:FuncData) (ps:List Str),FnOk X.prog X.w X.K X.mg X.base (L2.CX X.prog X.w) k a fd ps (spO C.G n g.1 g.2)∧Room k X.A∧X.mg x=some (.ref a)∧PySem.W.keepIn X.K (.ref a)=true∧Binds X.K fd ps []
end Cm
namespace Cm
open PySem PySem.Spec PyProof.Rows L2
variable [HasT]
theorem qbf {C:Ctx} {X:Cx} {e:Expr} {g g':List Sl→RE ER} (h:PE X e (tE C g')) (q:∀ρ,g ρ=g' ρ):PE X e (tE C g):=by
 have:g=g':=funext q
 rw[this];exact h
theorem qk2 {C:Ctx} {X:Cx} {e:Expr} {g g':List Sl→RE Bool} (h:PT X e (tT C g')) (q:∀ρ,g ρ=g' ρ):PT X e (tT C g):=by
 have:g=g':=funext q
 rw[this];exact h
theorem qus {C:Ctx} {X:Cx} {e:Expr} {g g':List Sl→RE Bool} (h:PW X e (tT C g')) (q:∀ρ,g ρ=g' ρ):PW X e (tT C g):=by
 have:g=g':=funext q
 rw[this];exact h
theorem qtw {C:Ctx} {X:Cx} {e:List Expr} {g g':List Sl→RE (List ER)} (h:PA X e (tA C g')) (q:∀ρ,g ρ=g' ρ):PA X e (tA C g):=by
 have:g=g':=funext q
 rw[this];exact h
theorem quA {C:Ctx} {X:Cx} {e:Option Expr} {g g':List Sl→RE (Option Int)} (h:PO X e (tO C g')) (q:∀ρ,g ρ=g' ρ):PO X e (tO C g):=by
 have:g=g':=funext q
 rw[this];exact h
theorem qjr {C:Ctx} {X:Cx} {t e:Expr} {g g':List Sl→RE Wk} (h:PI X t e (tI C g')) (q:∀ρ,g ρ=g' ρ):PI X t e (tI C g):=by
 have:g=g':=funext q
 rw[this];exact h
theorem qch {C:Ctx} {X:Cx} {e:Stmt} {g g':List Sl→Out} (h:PS X e (tS C g')) (q:∀ρ,g ρ=g' ρ):PS X e (tS C g):=by
 have:g=g':=funext q
 rw[this];exact h
section
variable {T:Tb} {Γ:Env} {C:Ctx} {X:Cx} {fc:Option Scope} {sc:Scope}
theorem qd6 (hs:X.env.scope=sc) {x:Str} (h:qmt sc x=true):Vis X.env.scope x:=by
 rw[hs]
 unfold qmt at h
 unfold Vis
 split at h
 ·exact .inl (by assumption)
 ·exact .inr (.inl (by assumption))
 ·exact .inr (.inr (by assumption))
 ·cases h
theorem qbP (hs:X.env.scope=sc) {x:Str} (h:glB sc x=true):Gl X x:=by
 unfold glB at h
 show X.env.scope.names.lookup x=_
 rw[hs]
 split at h
 ·assumption
 ·cases h
theorem qdl {x:Str} (h:nmB x=true):(x == ("__debug__" : Str))=false∧(x == ("__classdict__" : Str))=false:=by
 unfold nmB at h
 simp only[Bool.and_eq_true,Bool.not_eq_true'] at h
 exact h
theorem qmw (I:XOk T Γ C X fc sc) {x:Str} (h:tgB fc sc x=true):Loc X.env.scope x∧(X.fn x=true∨X.env.scope.names.lookup x=some .local):=by
 rw[I.sc]
 unfold tgB at h
 split at h
 ·rename_i e
  exact⟨.inl e,.inr e⟩
 ·rename_i e
  refine⟨.inr e,.inl ?_⟩
  have:=I.fnc
  cases fc with
  |none=>simp only at this;rw[this]
  |some so=>simp only at this h;rw[this];exact h
 ·cases h
theorem qdb:∀(es:Exs) (ρ:List Sl) (r:List ER) (xs:List Expr),qbh T es fc sc xs=true→evs Γ es ρ=.ok r→r.length=xs.length
 |.nil,ρ,r,xs,h,e=>by
  unfold qbh at h
  rw[evs] at e
  cases e
  cases xs with
  |nil=>rfl
  |cons _ _=>cases h
 |.cons a es,ρ,r,xs,h,e=>by
  unfold qbh at h
  cases xs with
  |nil=>cases h
  |cons x xs =>
   simp only[Bool.and_eq_true] at h
   rw[evs] at e
   cases e1:ev Γ a ρ with
   |bad=>rw[e1] at e;cases e
   |exc c fs=>rw[e1] at e;cases e
   |ok v =>
    rw[e1] at e
    cases e2:evs Γ es ρ with
    |bad=>rw[RE.bind_ok,e2] at e;cases e
    |exc c fs=>rw[RE.bind_ok,e2] at e;cases e
    |ok q =>
     rw[RE.bind_ok,e2] at e
     cases e
     simp[qdb es ρ q xs h.2 e2]
theorem qiz {es:Exs} {xs:List Expr} (h:qbh T es fc sc xs=true) (e:xs=[]) (ρ:List Sl):evs Γ es ρ=.ok []:=by
 subst e
 cases es with
 |nil=>rw[evs]
 |cons a es=>unfold qbh at h;cases h
theorem XOk.blk (I:XOk T Γ C X fc sc) {s:Shared} {H:Hp} {scope:Scope} {cl:List (Str × Addr)} {A:Addr} {fp:List Addr}:XOk T Γ C.nx (X.blk s H scope (compEnvC scope cl A X.env) fp) (some scope) (relS scope sc) where
 nm:=I.nm
 nd:=I.nd
 sc:=by
  have:=I.sc
  subst this
  rfl
 K:=I.K
 tk:=takes0
 fr:=fun z=>nomatch z
 lam:=fun z=>nomatch z
 fo:=I.fo
 calm:=I.calm
 un:=I.un
 blt:=I.blt
 fnc:=rfl
 fn:=I.fn
 gc:=I.gc
 mt:=fun m x n h c g e=>by
  obtain⟨h1,h2,h3⟩:=I.mt m x n h c g e
  exact⟨h1,h2,h3⟩
 fs:=fun f x h c k e=>by
  obtain⟨h1,h2,h3,h4⟩:=I.fs f x h c k e
  exact⟨h1,h2,h3,h4⟩
 nw:=fun k x n h g e=>by
  obtain⟨h1⟩:=I.nw k x n h g e
  exact⟨h1⟩
 ck:=I.ck
 xk:=I.xk
 dc:=I.dc
theorem XOk.blkx (I:XOk T Γ C X fc sc) {σ0:L2.St} {s:Shared} {H:Hp} {scope:Scope} {cl:List (Str × Addr)} {A:Addr} {fp:List Addr} (tk:Takes ((X.blk s H scope (compEnvC scope cl A X.env) fp).wish (qku X (compEnvC scope cl A X.env))) (fun c d _ H=>C.W c d σ0 H)):XOk T Γ (C.bx σ0) ((X.blk s H scope (compEnvC scope cl A X.env) fp).wish (qku X (compEnvC scope cl A X.env))) (some scope) (relS scope sc) where
 nm:=I.nm
 nd:=I.nd
 sc:=by
  have:=I.sc
  subst this
  rfl
 K:=I.K
 tk:=tk
 fr:=fun z=>nomatch z
 lam:=fun z=>nomatch z
 fo:=I.fo
 calm:=I.calm
 un:=I.un
 blt:=I.blt
 fnc:=rfl
 fn:=I.fn
 gc:=I.gc
 mt:=fun m x n h c g e=>by
  obtain⟨h1,h2,h3⟩:=I.mt m x n h c g e
  exact⟨h1,h2,h3⟩
 fs:=fun f x h c k e=>by
  obtain⟨h1,h2,h3,h4⟩:=I.fs f x h c k e
  exact⟨h1,h2,h3,h4⟩
 nw:=fun k x n h g e=>by
  obtain⟨h1⟩:=I.nw k x n h g e
  exact⟨h1⟩
 ck:=I.ck
 xk:=I.xk
 dc:=I.dc
theorem XOk.tr {W:WX} {pn:List (Addr × Obj)} {xe:Value→Shared→Prop} (I:XOk T Γ C X fc sc) (tk:Takes (X.tr pn xe) W):XOk T Γ { C with W:=W } (X.tr pn xe) fc sc where
 nm:=I.nm
 nd:=I.nd
 sc:=I.sc
 K:=I.K
 tk:=tk
 fr:=fun z=>⟨(I.fr z).st,(I.fr z).fr,(I.fr z).ex⟩
 lam:=I.lam
 fo:=I.fo
 calm:=I.calm
 un:=I.un
 blt:=I.blt
 fnc:=I.fnc
 fn:=I.fn
 gc:=I.gc
 mt:=fun m x n h c g e=>by
  obtain⟨h1,h2,h3⟩:=I.mt m x n h c g e
  exact⟨h1,h2,h3⟩
 fs:=fun f x h c k e=>by
  obtain⟨h1,h2,h3,h4⟩:=I.fs f x h c k e
  exact⟨h1,h2,h3,h4⟩
 nw:=fun k x n h g e=>by
  obtain⟨h1⟩:=I.nw k x n h g e
  exact⟨h1⟩
 ck:=I.ck
 xk:=I.xk
 dc:=I.dc
theorem qjH (I:XOk T Γ C X fc sc):∀(tg:List Nat) (es:List Expr),tgE T fc sc tg es=true→PGs X es (qmb tg)∧es.length=tg.length∧(assignEach es X.env).length=es.length∧(assignEach es X.env).findIdx? (·.1)=none
 |[],[],_=>⟨pgs_nil,rfl,rfl,rfl⟩
 |i::is,.Name x p::es,h=>by
  unfold tgE at h
  simp only[Bool.and_eq_true,decide_eq_true_eq] at h
  obtain⟨h1,h2⟩:=qmw I h.1.2
  obtain⟨h3,h4,h5,h6⟩:=qjH I is es h.2
  refine⟨pgs_cons (pg_name I.nd (by rw[I.nm];exact h.1.1) h1 h2) h3 rfl,by simp[h4],?_,?_⟩
  ·show(_::assignEach es X.env).length=_
   simp[h5]
  ·show List.findIdx? (·.1) ((false,_)::assignEach es X.env)=none
   rw[List.findIdx?_cons]
   simp[h6]
 |[],_::_,h=>by cases h
 |_::_,[],h=>by cases h
theorem qep (I:XOk T Γ C X fc sc) {tg:List Nat} {t:Expr} (h:qmF T fc sc tg t=true):PG X t (tG C tg):=by
 unfold qmF at h
 split at h
 ·split at h
  ·simp only[Bool.and_eq_true,decide_eq_true_eq] at h
   obtain⟨h1,h2⟩:=qmw I h.2
   exact qo5 I.nd (by rw[I.nm];exact h.1) h1 h2
  ·cases h
 ·simp only[Bool.and_eq_true,decide_eq_true_eq] at h
  obtain⟨h3,h4,h5,h6⟩:=qjH I _ _ h.2
  exact qr7 I.K I.calm h3 h4 h.1 h5 h6
 ·cases h
end
theorem qqE {T:Tb} {Γ:Env} {C:Ctx} {X:Cx} {fc:Option Scope} {sc:Scope} (I:XOk T Γ C X fc sc):∀{ks:List Nat} {es:List Expr},quX T sc ks es=true→∃(vs:List V) (us:List Value),PA X es (tVs vs)∧ClsVs vs us∧us.length=ks.length ∧
  ∀c b,qqc (ks.map fun k=>Γ.ck[k]?) c=some b→PySem.W.kitAny C.G.K (.ref (C.G.ca c)) us=some b∧(ks≠[]→ExcC C.G.K (C.G.ca c))
 |[],[],_=>⟨[],[],pa_nil,.nil,rfl,fun c b e=>⟨by cases e;rfl,fun h=>absurd rfl h⟩⟩
 |[],_::_,h=>by cases h
 |_::_,[],h=>by cases h
 |k::ks,e::es,h=>by
  unfold quX at h
  split at h
  ·rename_i heq1 heq2
   cases heq1
  ·rename_i n p heq1 heq2
   cases heq1
   cases heq2
   simp only[Bool.and_eq_true,decide_eq_true_eq] at h
   obtain⟨⟨⟨hk,hg⟩,hn⟩,hr⟩:=h
   obtain⟨vs,us,pa,kv,ul,ok⟩:=qqE I hr
   cases q:T.ck[k]? with
   |none=>rw[q] at hk;cases hk
   |some t =>
    obtain⟨x,own⟩:=t
    rw[q] at hk
    cases hk
    obtain⟨v,u,z,h1,_⟩:=I.ck k _ own q
    refine⟨v::vs,u::us,pa_cons (qqp (qbP I.sc hg) (I.blt _ (by decide)) (qdl hn).1 (by rw[I.K] at *;exact z)) pa,.cons z.1 kv,by simp[ul],fun c b e=>?_⟩
    rw[List.map_cons] at e
    cases gq:Γ.ck[k]? with
    |none=>rw[gq] at e;cases e
    |some g =>
     rw[gq] at e
     unfold qqc at e
     cases gc:g c with
     |none=>rw[gc] at e;cases e
     |some b1 =>
      rw[gc] at e
      obtain⟨k1,_,k3⟩:=h1 g gq c b1 gc
      rw[I.K] at k1 k3
      refine⟨?_,fun _=>k3⟩
      unfold PySem.W.kitAny
      rw[k1]
      cases b1 with
      |true=>exact e
      |false=>exact(ok c b e).1
  ·cases h
end Cm
set_option maxHeartbeats 1000000
namespace Cm
open PySem PySem.Spec PyProof.Rows L2
variable [HasT]
theorem qtj (p:Pri):qqB p∈bltNames:=by cases p<;>decide
theorem qty (t:Ty):tyN t∈bltNames:=by cases t<;>decide
theorem qsE {l:List Expr} (h:l.length=1):∃a,l=[a]:=by
 match l,h with
 |[a],_=>exact⟨a,rfl⟩
theorem qsx {l:List Expr} (h:l.length=2):∃a b,l=[a,b]:=by
 match l,h with
 |[a,b],_=>exact⟨a,b,rfl⟩
theorem qm6 {l:List Expr} (h:l.length=3):∃a b c,l=[a,b,c]:=by
 match l,h with
 |[a,b,c],_=>exact⟨a,b,c,rfl⟩
mutual
theorem qae {T:Tb} {Γ:Env}:∀(ir:Ex) {C:Ctx} {X:Cx} {fc:Option Scope} {sc:Scope} {e:Expr},XOk T Γ C X fc sc→qaT T ir fc sc e=true→PE X e (tE C (ev Γ ir))∧(qt5 ir=true→PT X e (tT C fun ρ=>(ev Γ ir ρ).bind fun x=>qkx x.d))
 |.nev,C,X,fc,sc,e,I,h=>by
  exact⟨qbf qit fun ρ=>by rw[ev],fun z=>by cases z⟩
 |.var i,C,X,fc,sc,e,I,h=>by
  unfold qaT at h
  split at h
  case h_2=>cases h
  rename_i x p
  simp only[Bool.and_eq_true,decide_eq_true_eq] at h
  obtain⟨n1,n2⟩:=qdl h.2
  exact⟨qbf (qsD (by rw[I.nm];exact h.1.1) (qd6 I.sc h.1.2) n1 n2) fun ρ=>by rw[ev]<;>rfl,fun z=>by cases z⟩
 |.cint i,C,X,fc,sc,e,I,h=>by
  unfold qaT at h
  split at h
  case h_2=>cases h
  simp only[decide_eq_true_eq] at h
  subst h
  exact⟨qbf (qnz (d:=.int i) pe_int fun _ _=>rfl) fun ρ=>by rw[ev];rfl,fun z=>by cases z⟩
 |.cbl i,C,X,fc,sc,e,I,h=>by
  unfold qaT at h
  split at h
  case h_2=>cases h
  simp only[decide_eq_true_eq] at h
  subst h
  exact⟨qbf (qnz (d:=.bl i) pe_bl fun _ _=>rfl) fun ρ=>by rw[ev];rfl,fun z=>by cases z⟩
 |.cnon,C,X,fc,sc,e,I,h=>by
  unfold qaT at h
  split at h
  case h_2=>cases h
  exact⟨qbf (qnz (d:=.non) pe_non fun _ _=>rfl) fun ρ=>by rw[ev];rfl,fun z=>by cases z⟩
 |.cstr s,C,X,fc,sc,e,I,h=>by
  unfold qaT at h
  split at h
  case h_2=>cases h
  simp only[decide_eq_true_eq] at h
  subst h
  exact⟨qbf (qnz (d:=.str s) pe_str fun _ _=>rfl) fun ρ=>by rw[ev];rfl,fun z=>by cases z⟩
 |.glo k,C,X,fc,sc,e,I,h=>by
  unfold qaT at h
  split at h
  case h_2=>cases h
  rename_i x p
  simp only[Bool.and_eq_true,decide_eq_true_eq] at h
  obtain⟨n1,n2⟩:=qdl h.2
  cases q:Γ.gc[k]? with
  |none=>exact⟨qbf qit fun ρ=>by rw[ev,q],fun z=>by cases z⟩
  |some c =>
   obtain⟨u,v,h1,h2,h3,_⟩:=I.gc k x h.1.1 c q
   exact⟨qbf (qnz (d:=c.2) (pe_glob (qbP I.sc h.1.2) h1 h2 n1) h3) fun ρ=>by rw[ev,q],fun z=>by cases z⟩
 |.bin o a b,C,X,fc,sc,e,I,h=>by
  unfold qaT at h
  split at h
  case h_2=>cases h
  simp only[Bool.and_eq_true,decide_eq_true_eq] at h
  obtain⟨⟨rfl,ha⟩,hb⟩:=h
  exact⟨qbf (qt4 (qtQ o) (I.K ▸ qt7 o) (qae a I ha).1 (qae b I hb).1) fun ρ=>by rw[ev],fun z=>by cases z⟩
 |.cmp o a b,C,X,fc,sc,e,I,h=>by
  unfold qaT at h
  split at h
  case h_2=>cases h
  simp only[Bool.and_eq_true,decide_eq_true_eq,Bool.not_eq_true'] at h
  obtain⟨⟨⟨rfl,hm⟩,ha⟩,hb⟩:=h
  exact⟨qbf (qrv I.un I.K (qae a I ha).1 (qae b I hb).1 hm) fun ρ=>by rw[ev],fun _=>qk2 (qrA I.un I.K (qae a I ha).1 (qae b I hb).1 hm) fun ρ=>by rw[ev]⟩
 |.chn o p a b c,C,X,fc,sc,e,I,h=>by
  unfold qaT at h
  split at h
  case h_2=>cases h
  simp only[Bool.and_eq_true,decide_eq_true_eq,Bool.not_eq_true'] at h
  obtain⟨⟨⟨⟨⟨rfl,rfl⟩,hm⟩,ha⟩,hb⟩,hc⟩:=h
  exact⟨qbf (qsc I.un I.K (qae a I ha).1 (qae b I hb).1 (qae c I hc).1 hm) fun ρ=>by rw[ev],fun _=>qk2 (qsR I.un I.K (qae a I ha).1 (qae b I hb).1 (qae c I hc).1 hm) fun ρ=>by rw[ev]⟩
 |.isN a,C,X,fc,sc,e,I,h=>by
  unfold qaT at h
  split at h
  case h_2=>cases h
  exact⟨qbf (qrS (qae a I h).1) fun ρ=>by rw[ev];rfl,fun _=>qk2 (qsO (qae a I h).1) fun ρ=>by rw[ev];rfl⟩
 |.bop c es,C,X,fc,sc,e,I,h=>by
  unfold qaT at h
  split at h
  case h_2=>cases h
  rename_i op xs p
  simp only[Bool.and_eq_true,decide_eq_true_eq,Bool.not_eq_true'] at h
  obtain⟨⟨rfl,hx⟩,he⟩:=h
  exact⟨qbf (qnB c es I he (by rintro rfl;cases hx)) fun ρ=>by rw[ev],fun z=>by cases z⟩
 |.bnot a,C,X,fc,sc,e,I,h=>by
  unfold qaT at h
  split at h
  case h_2=>cases h
  exact⟨qbf (qp6 I.K (qae a I h).1) fun ρ=>by rw[ev],fun z=>by cases z⟩
 |.tup es,C,X,fc,sc,e,I,h=>by
  unfold qaT at h
  split at h
  case h_2=>cases h
  rename_i xs k p
  simp only[Bool.and_eq_true,decide_eq_true_eq] at h
  refine⟨qbf (qsp (qdv es I h.1.1 h.1.2) fun ρ r e=>?_) fun ρ=>by rw[ev],fun z=>by cases z⟩
  rw[qdb es ρ r xs h.1.1 e]
  have:(1000:Nat)≤LIM:=by decide
  omega
 |.lst es,C,X,fc,sc,e,I,h=>by
  unfold qaT at h
  split at h
  case h_2=>cases h
  rename_i xs p
  simp only[Bool.and_eq_true,decide_eq_true_eq] at h
  refine⟨qbf (qsh (qdv es I h.1.1 h.1.2) fun ρ r e=>?_) fun ρ=>by rw[ev],fun z=>by cases z⟩
  rw[qdb es ρ r xs h.1.1 e]
  have:(1000:Nat)≤LIM:=by decide
  omega
 |.idx a i,C,X,fc,sc,e,I,h=>by
  unfold qaT at h
  split at h
  case h_2=>cases h
  simp only[Bool.and_eq_true] at h
  exact⟨qbf (qq5 I.K (qae a I h.1.1).1 (qae i I h.1.2).1 (qvR h.2)) fun ρ=>by rw[ev],fun z=>by cases z⟩
 |.slc a lo hi,C,X,fc,sc,e,I,h=>by
  unfold qaT at h
  split at h
  case h_2=>cases h
  simp only[Bool.and_eq_true] at h
  exact⟨qbf (qsy I.K (qae a I h.1.1).1 (qqn lo I h.1.2) (qqn hi I h.2)) fun ρ=>by rw[ev],fun z=>by cases z⟩
 |.call f es,C,X,fc,sc,e,I,h=>by
  unfold qaT at h
  split at h
  case h_2=>cases h
  rename_i x p xs q
  simp only[Bool.and_eq_true,decide_eq_true_eq] at h
  obtain⟨⟨⟨⟨hf,hg⟩,hn⟩,he⟩,hs⟩:=h
  cases e:Γ.fn[f]? with
  |none=>exact⟨qbf qit fun ρ=>by rw[ev,e],fun z=>by cases z⟩
  |some g =>
   obtain⟨k,a,fd,ps,m,gf,F,hr,hm,hk,dv,dvs,dus,hb,hdv,hdm,hdr,hgf⟩:=I.fn f x xs.length hf g e
   exact⟨qbf (qpJ F hr (qbP I.sc hg) hm hk hb hdv hdm hdr hgf I.tk (qdv es I he hs) (qdl hn).1 (qfo hs) (fun ρ r e=>qdb es ρ r xs he e) (fun z ρ=>qiz he z ρ)) fun ρ=>by rw[ev,e],fun z=>by cases z⟩
 |.pri p es,C,X,fc,sc,e,I,h=>by
  unfold qaT at h
  split at h
  case h_2=>cases h
  rename_i x p' xs q
  simp only[Bool.and_eq_true,decide_eq_true_eq,Bool.not_eq_true'] at h
  obtain⟨⟨⟨⟨rfl,hg⟩,hx⟩,he⟩,hs⟩:=h
  cases xs with
  |nil=>cases hx
  |cons y ys =>
   have pl:=qfo (X:=X) hs
   exact⟨qbf (qrD I.K I.calm (qbP I.sc hg) (I.blt _ (qtj p)) (qdv es I he hs) (pl.1 _ _ rfl) (pl.2 _ _ _ rfl)) fun ρ=>by rw[ev],fun z=>by cases z⟩
 |.upr o,C,X,fc,sc,e,I,h=>by
  unfold qaT at h
  split at h
  case h_2=>cases h
  simp only[Bool.and_eq_true,decide_eq_true_eq] at h
  obtain⟨⟨⟨rfl,ho⟩,hb⟩,hl⟩:=h
  exact⟨qbf (qre (qae o I ho).1 (qeV hb) hl) fun ρ=>by rw[ev]<;>rfl,fun z=>by cases z⟩
 |.lrng es,C,X,fc,sc,e,I,h=>by
  unfold qaT at h
  split at h
  case h_2=>cases h
  rename_i l p1 r p2 xs p3 p4
  simp only[Bool.and_eq_true,decide_eq_true_eq] at h
  obtain⟨⟨⟨⟨⟨⟨rfl,rfl⟩,hg⟩,hg2⟩,he⟩,hs⟩,hl⟩:=h
  refine⟨?_,fun z=>by cases z⟩
  have m1:=I.blt "list" (by decide)
  have m2:=I.blt "range" (by decide)
  cases es with
  |nil =>
   cases xs with
   |nil=>simp at hl
   |cons _ _=>unfold qbh at he;cases he
  |cons a es =>
   cases xs with
   |nil=>simp at hl
   |cons x xs =>
    unfold qbh at he
    simp only[Bool.and_eq_true] at he
    simp only[List.all_cons,Bool.and_eq_true] at hs
    have h1:=(qae a I he.1).1
    cases es with
    |nil =>
     cases xs with
     |cons _ _=>have:=he.2;unfold qbh at this;cases this
     |nil =>
      refine qbf (qal (pe_listRg I.calm (qbP I.sc hg) m1 (prg_1 (qbP I.sc hg2) m2 h1 (qac hs.1)) rfl) fun σ H Q q=>qnl q) fun ρ=>?_
      rw[ev,evs,evs]
    |cons b es =>
     cases xs with
     |nil=>have:=he.2;unfold qbh at this;cases this
     |cons y xs =>
      have he2:=he.2
      unfold qbh at he2
      simp only[Bool.and_eq_true] at he2
      simp only[List.all_cons,Bool.and_eq_true] at hs
      have h2:=(qae b I he2.1).1
      cases xs with
      |cons _ _=>simp at hl
      |nil =>
       cases es with
       |cons _ _=>have:=he2.2;unfold qbh at this;cases this
       |nil =>
        refine qbf (qal (pe_listRg I.calm (qbP I.sc hg) m1 (prg_2 (qbP I.sc hg2) m2 h1 h2 (qac hs.1) (qac hs.2.1) (qet (by simp[hs.2.1]))) rfl) fun σ H Q q=>qnu q) fun ρ=>?_
        rw[ev,evs,evs,evs]
 |.mth m o es,C,X,fc,sc,e,I,h=>by
  unfold qaT at h
  split at h
  case h_2=>cases h
  rename_i x mn apos xs pos
  simp only[Bool.and_eq_true,decide_eq_true_eq] at h
  obtain⟨⟨⟨⟨⟨⟨hm,ho⟩,he⟩,hs⟩,hb⟩,hn⟩,hl⟩:=h
  exact⟨qbf (qr8 (mt:=fun c=>Γ.mt c m) (fun c g' e=>I.mt m mn xs.length hm c g' e) I.tk (qae o I ho).1 (qdv es I he hs) (qfo hs) (fun ρ r e=>qdb es ρ r xs he e) (fun z ρ=>qiz he z ρ) (qps hb hs hn hl)) fun ρ=>by rw[ev]<;>rfl,fun z=>by cases z⟩
 |.bm1 m o a,C,X,fc,sc,e,I,h=>by
  unfold qaT at h
  split at h
  case h_2=>cases h
  simp only[Bool.and_eq_true,decide_eq_true_eq] at h
  obtain⟨⟨⟨⟨⟨rfl,ho⟩,ha⟩,hs⟩,hb⟩,hl⟩:=h
  exact⟨qbf (qtr I.K (qae o I ho).1 (qae a I ha).1 (qac hs) (qeV hb) hl) fun ρ=>by rw[ev]<;>rfl,fun z=>by cases z⟩
 |.fld o f,C,X,fc,sc,e,I,h=>by
  unfold qaT at h
  split at h
  case h_2=>cases h
  rename_i x fn p
  simp only[Bool.and_eq_true,decide_eq_true_eq] at h
  obtain⟨⟨hf,ho⟩,hb⟩:=h
  exact⟨qbf (qsb (fi:=fun c=>Γ.fi c f) I.K (fun c k e=>I.fs f fn hf c k e) (qae o I ho).1 (qeV hb)) fun ρ=>by rw[ev]<;>rfl,fun z=>by cases z⟩
 |.isc a k,C,X,fc,sc,e,I,h=>by
  unfold qaT at h
  split at h
  case h_2=>cases h
  simp only[Bool.and_eq_true,decide_eq_true_eq] at h
  obtain⟨⟨⟨⟨⟨⟨rfl,hg⟩,hk⟩,hg2⟩,hn⟩,ha⟩,hs⟩:=h
  obtain⟨n1,n2⟩:=qdl hn
  cases q:T.ck[k]? with
  |none=>rw[q] at hk;cases hk
  |some t =>
   obtain⟨x,own⟩:=t
   rw[q] at hk
   cases hk
   exact⟨qbf (qq3 I.K (qbP I.sc hg) (I.blt _ (by decide)) (I.blt _ (by decide)) (qbP I.sc hg2) n1 (I.ck k x own q) (qae a I ha).1 (qac hs) rfl) fun ρ=>by rw[ev],fun z=>by cases z⟩
 |.isi a t,C,X,fc,sc,e,I,h=>by
  unfold qaT at h
  split at h
  case h_2=>cases h
  simp only[Bool.and_eq_true,decide_eq_true_eq] at h
  obtain⟨⟨⟨⟨⟨rfl,rfl⟩,hg⟩,hg2⟩,ha⟩,hs⟩:=h
  exact⟨qbf (qr2 I.K (qbP I.sc hg) (I.blt _ (by decide)) (qbP I.sc hg2) (I.blt _ (qty t)) (qae a I ha).1 (qac hs) rfl) fun ρ=>by rw[ev],fun z=>by cases z⟩
 |.lc own it tg cnd e',C,X,fc,sc,e,I,h=>by
  unfold qaT at h
  split at h
  case h_2=>cases h
  rename_i elt tgt iter ifs scope p
  simp only[Bool.and_eq_true] at h
  obtain⟨⟨⟨⟨⟨⟨hb,hi⟩,ht⟩,hsub⟩,hc⟩,he⟩,hs⟩:=h
  have hsub':∀i∈tg,i∈own:=fun i hi=>by simpa using List.all_eq_true.mp hsub i hi
  have hb':BlkOk X.N X.env.scope scope (own.map fun i=>(T.N.getD i Str.empty,i)):=by
   rw[I.nm,I.sc];exact blkOk_by hb
  have ho:((own.map fun i=>(T.N.getD i Str.empty,i)).map (·.2))=own:=by
   rw[List.map_map]
   exact List.map_id' own
  have lc:=pe_lc (elt:=elt) (pos:=p) I.calm I.nd (qjn it I hi) hb' (fun s H Cd cl fp=>qep (I.blk (s:=s) (H:=H) (cl:=cl) (A:=Cd) (fp:=fp)) ht) (fun s H Cd cl fp=>qiH cnd (I.blk (s:=s) (H:=H) (cl:=cl) (A:=Cd) (fp:=fp)) hc) (fun s H Cd cl fp=>(qae e' (I.blk (s:=s) (H:=H) (cl:=cl) (A:=Cd) (fp:=fp)) he).1) (qfJ hs)
  rw[ho] at lc
  exact⟨qbf (qal lc fun σ H Q q=>qqh hsub' q) fun ρ=>by rw[ev]<;>rfl,fun z=>by cases z⟩
 |.lcx own it tg cnd e',C,X,fc,sc,e,I,h=>by
  unfold qaT at h
  split at h
  case h_2=>cases h
  rename_i elt tgt iter ifs scope p
  simp only[Bool.and_eq_true] at h
  obtain⟨⟨⟨⟨⟨⟨⟨hb,hi⟩,ht⟩,hsub⟩,hc⟩,he⟩,hs⟩,hfc⟩:=h
  have hfc:fc=none:=by simpa using hfc
  have hsub':∀i∈tg,i∈own:=fun i hi=>by simpa using List.all_eq_true.mp hsub i hi
  have hb':BlkOk X.N X.env.scope scope (own.map fun i=>(T.N.getD i Str.empty,i)):=by
   rw[I.nm,I.sc];exact blkOk_by hb
  have ho:((own.map fun i=>(T.N.getD i Str.empty,i)).map (·.2))=own:=by
   rw[List.map_map]
   exact List.map_id' own
  have lc:=qtC (elt:=elt) (pos:=p) I.tk (I.fr hfc) I.calm I.nd (qjn it I hi) hb' (fun s H Cd cl fp=>qep (I.blk (s:=s) (H:=H) (cl:=cl) (A:=Cd) (fp:=fp)) ht) (fun σ s H Cd cl fp tk=>qiH cnd (I.blkx (σ0:=σ) (s:=s) (H:=H) (cl:=cl) (A:=Cd) (fp:=fp) tk) hc) (fun σ s H Cd cl fp tk=>(qae e' (I.blkx (σ0:=σ) (s:=s) (H:=H) (cl:=cl) (A:=Cd) (fp:=fp) tk) he).1) (qfJ hs)
  rw[ho] at lc
  exact⟨qbf (qal lc fun σ H Q q=>qn2 hsub' q) fun ρ=>by rw[ev]<;>rfl,fun z=>by cases z⟩
 |.inxS o a,C,X,fc,sc,e,I,h=>by
  unfold qaT at h
  split at h
  case h_2=>cases h
  simp only[Bool.and_eq_true,decide_eq_true_eq] at h
  obtain⟨⟨⟨⟨⟨rfl,ho⟩,ha⟩,hs⟩,hb⟩,hl⟩:=h
  exact⟨qbf (qpV (qae o I ho).1 (qae a I ha).1 hs (qeV hb) hl) fun ρ=>by rw[ev]<;>rfl,fun z=>by cases z⟩
 |.lset a,C,X,fc,sc,e,I,h=>by
  unfold qaT at h
  split at h
  case h_2=>cases h
  simp only[Bool.and_eq_true,decide_eq_true_eq] at h
  obtain⟨⟨⟨⟨⟨rfl,rfl⟩,hg⟩,hg2⟩,ha⟩,hs⟩:=h
  exact⟨qbf (qp0 I.K I.calm (qbP I.sc hg) (I.blt _ (by decide)) (qbP I.sc hg2) (I.blt _ (by decide)) (qae a I ha).1 hs) fun ρ=>by rw[ev],fun z=>by cases z⟩
 |.iscT a ks,C,X,fc,sc,e,I,h=>by
  unfold qaT at h
  split at h
  case h_2=>cases h
  simp only[Bool.and_eq_true,decide_eq_true_eq] at h
  obtain⟨⟨⟨⟨⟨⟨rfl,hg⟩,hz⟩,hl⟩,hn⟩,ha⟩,hs⟩:=h
  obtain⟨vs,us,pa,kv,ul,ok⟩:=qqE I hn
  exact⟨qbf (qpx I.K (qbP I.sc hg) (I.blt _ (by decide)) pa kv (by rw[ul,sizeLine_eq];rw[Nat.ble_eq] at hl;omega) (fun c b e=>⟨(ok c b e).1,(ok c b e).2 hz⟩) (qae a I ha).1 hs) fun ρ=>by rw[ev],fun z=>by cases z⟩
 |.new k es,C,X,fc,sc,e,I,h=>by
  unfold qaT at h
  split at h
  case h_2=>cases h
  rename_i x p xs q
  simp only[Bool.and_eq_true,decide_eq_true_eq] at h
  obtain⟨⟨⟨⟨hf,hg⟩,hn⟩,he⟩,hs⟩:=h
  cases e:Γ.nw[k]? with
  |none=>exact⟨qbf qit fun ρ=>by rw[ev,e],fun z=>by cases z⟩
  |some g=>exact⟨qbf (qry (I.nw k x xs.length hf g e) (qbP I.sc hg) I.tk (qdv es I he hs) (qdl hn).1 (qfo hs) (fun ρ r e=>qdb es ρ r xs he e) (fun z ρ=>qiz he z ρ) rfl) fun ρ=>by rw[ev,e],fun z=>by cases z⟩
theorem qdv {T:Tb} {Γ:Env}:∀(ir:Exs) {C:Ctx} {X:Cx} {fc:Option Scope} {sc:Scope} {xs:List Expr},XOk T Γ C X fc sc→qbh T ir fc sc xs=true→xs.all qag=true→PA X xs (tA C (evs Γ ir))
 |.nil,C,X,fc,sc,xs,I,h,hs=>by
  unfold qbh at h
  cases xs with
  |nil=>exact qtw qq9 fun ρ=>by rw[evs]
  |cons _ _=>cases h
 |.cons a es,C,X,fc,sc,xs,I,h,hs=>by
  unfold qbh at h
  cases xs with
  |nil=>cases h
  |cons x xs =>
   simp only[Bool.and_eq_true] at h
   simp only[List.all_cons,Bool.and_eq_true] at hs
   exact qtw (qp1 (qae a I h.1).1 (qdv es I h.2 hs.2) (qac hs.1)) fun ρ=>by rw[evs]
theorem qrC {T:Tb} {Γ:Env}:∀(ks:List (List Nat)) (ir:Exs) {C:Ctx} {X:Cx} {fc:Option Scope} {sc:Scope} {keys:List (Option Expr)} {xs:List Expr} {pos:Pos},XOk T Γ C X fc sc→qu1 ks keys=true→xs.length=ks.length→qbh T ir fc sc xs=true→PPs X pos keys xs (qui C Γ ks ir)
 |ks,.nil,C,X,fc,sc,keys,xs,pos,I,hk,hl,h=>by
  unfold qbh at h
  cases xs with
  |nil =>
   cases ks with
   |nil =>
    cases keys with
    |nil=>exact pps_nil
    |cons _ _=>simp[qu1] at hk
   |cons k ks=>cases hl
  |cons _ _=>cases h
 |ks,.cons a es,C,X,fc,sc,keys,xs,pos,I,hk,hl,h=>by
  unfold qbh at h
  cases xs with
  |nil=>cases h
  |cons x xs =>
   simp only[Bool.and_eq_true] at h
   cases ks with
   |nil=>cases hl
   |cons k ks =>
    unfold qu1 at hk
    split at hk
    ·rename_i e;cases e
    ·rename_i k' ks' y j p keys e
     cases e
     simp only[Bool.and_eq_true,decide_eq_true_eq] at hk
     obtain⟨rfl,hk⟩:=hk
     exact pps_cons pe_str (qae a I h.1).1 (qrC ks es I hk (Nat.succ.inj hl) h.2)
    ·cases hk
theorem qnB {T:Tb} {Γ:Env}:∀(c:Bool) (ir:Exs) {C:Ctx} {X:Cx} {fc:Option Scope} {sc:Scope} {xs:List Expr} {pos:Pos},XOk T Γ C X fc sc→qbh T ir fc sc xs=true→xs≠[]→PE X (.BoolOp (qoU c) xs pos) (tE C (qnA Γ c ir))
 |c,.nil,C,X,fc,sc,xs,pos,I,h,hn=>by
  unfold qbh at h
  cases xs with
  |nil=>exact absurd rfl hn
  |cons _ _=>cases h
 |c,.cons a es,C,X,fc,sc,xs,pos,I,h,hn=>by
  unfold qbh at h
  cases xs with
  |nil=>cases h
  |cons x xs =>
   simp only[Bool.and_eq_true] at h
   cases xs with
   |nil =>
    cases es with
    |nil=>exact qbf (qtv (qae a I h.1).1) fun ρ=>by rw[qnA,qnA]<;>rfl
    |cons _ _=>have:=h.2;unfold qbh at this;cases this
   |cons y ys=>exact qbf (qvq (qae a I h.1).1 (qnB c es I h.2 (by simp))) fun ρ=>by rw[qnA]<;>rfl
theorem qqn {T:Tb} {Γ:Env}:∀(ir:Exs) {C:Ctx} {X:Cx} {fc:Option Scope} {sc:Scope} {x:Option Expr},XOk T Γ C X fc sc→quy T ir fc sc x=true→PO X x (tO C (evO Γ ir))
 |.nil,C,X,fc,sc,x,I,h=>by
  unfold quy at h
  cases x with
  |none=>exact quA qpw fun ρ=>by rw[evO]
  |some _=>cases h
 |.cons a es,C,X,fc,sc,x,I,h=>by
  unfold quy at h
  cases x with
  |none=>cases h
  |some x=>exact quA (qpr (qae a I h).1) fun ρ=>by rw[evO]<;>rfl
theorem qg9 {T:Tb} {Γ:Env}:∀(ir:Te) {C:Ctx} {X:Cx} {fc:Option Scope} {sc:Scope} {x:Expr},XOk T Γ C X fc sc→qoT T ir fc sc x=true→PT X x (tT C (evT Γ ir))
 |.val e,C,X,fc,sc,x,I,h=>by
  unfold qoT at h
  simp only[Bool.and_eq_true,Bool.or_eq_true] at h
  obtain⟨h1,h2⟩:=qae e I h.1
  rcases h.2 with q | q
  ·exact qk2 (h2 q) fun ρ=>by rw[evT]
  ·exact qk2 (qsz I.K h1 (qtZ q)) fun ρ=>by rw[evT]
 |.bop c ts,C,X,fc,sc,x,I,h=>by
  unfold qoT at h
  split at h
  case h_2=>cases h
  simp only[Bool.and_eq_true,decide_eq_true_eq,Bool.not_eq_true'] at h
  obtain⟨⟨rfl,hx⟩,he⟩:=h
  exact qk2 (qnT c ts I he (by rintro rfl;cases hx)).pt fun ρ=>by rw[evT]
 |.not t,C,X,fc,sc,x,I,h=>by
  unfold qoT at h
  split at h
  case h_2=>cases h
  exact qk2 (qrx (qg9 t I h)) fun ρ=>by rw[evT]
theorem qnT {T:Tb} {Γ:Env}:∀(c:Bool) (ir:Tes) {C:Ctx} {X:Cx} {fc:Option Scope} {sc:Scope} {xs:List Expr} {pos:Pos},XOk T Γ C X fc sc→qmi T ir fc sc xs=true→xs≠[]→PW X (.BoolOp (qoU c) xs pos) (tT C (qg8 Γ c ir))
 |c,.nil,C,X,fc,sc,xs,pos,I,h,hn=>by
  unfold qmi at h
  cases xs with
  |nil=>exact absurd rfl hn
  |cons _ _=>cases h
 |c,.cons a es,C,X,fc,sc,xs,pos,I,h,hn=>by
  unfold qmi at h
  cases xs with
  |nil=>cases h
  |cons x xs =>
   simp only[Bool.and_eq_true] at h
   cases xs with
   |nil =>
    cases es with
    |nil=>exact qus (qtR (qg9 a I h.1)) fun ρ=>by rw[qg8,qg8]
    |cons _ _=>have:=h.2;unfold qmi at this;cases this
   |cons y ys=>exact qus (qvK (qg9 a I h.1) (qnT c es I h.2 (by simp))) fun ρ=>by rw[qg8]
theorem qiH {T:Tb} {Γ:Env}:∀(ir:Tes) {C:Ctx} {X:Cx} {fc:Option Scope} {sc:Scope} {xs:List Expr},XOk T Γ C X fc sc→qnM T ir fc sc xs=true→PTs X xs (tT C (qg8 Γ true ir))
 |.nil,C,X,fc,sc,xs,I,h=>by
  unfold qnM at h
  cases xs with
  |nil =>
   refine⟨fun pins s σ H Q J q=>pts_nil.run pins s σ H Q J ?_⟩
   obtain⟨ρ,P,N,S,q⟩:=q
   rw[qg8] at q
   exact q.now S.reg
  |cons _ _=>cases h
 |.cons t ts,C,X,fc,sc,xs,I,h=>by
  unfold qnM at h
  split at h
  case h_2=>cases h
  simp only[Bool.and_eq_true] at h
  cases ts with
  |cons _ _=>have:=h.2;cases this
  |nil =>
   have p:=qg9 t I h.1
   refine⟨fun pins s σ H Q J q=>(pts_one p).run pins s σ H Q J ?_⟩
   obtain⟨ρ,P,N,S,q⟩:=q
   rw[qg8,qg8] at q
   refine⟨ρ,P,N,S,q.bind.mono fun k P1 N1 H1 e a1 h1=>?_⟩
   split at h1
   ·rename_i e;subst e;exact h1.now (S.adv a1).reg
   ·exact h1.now (S.adv a1).reg
theorem qjn {T:Tb} {Γ:Env}:∀(ir:Itx) {C:Ctx} {X:Cx} {fc:Option Scope} {sc:Scope} {t x:Expr},XOk T Γ C X fc sc→qoM T ir fc sc t x=true→PI X t x (tI C (evI Γ ir))
 |.any e,C,X,fc,sc,t,x,I,h=>by
  unfold qoM at h
  exact qjr (qsm I.K (qae e I h).1) fun ρ=>by rw[evI]
 |.rng es,C,X,fc,sc,t,x,I,h=>by
  unfold qoM at h
  split at h
  case h_2=>cases h
  rename_i r p xs q
  simp only[Bool.and_eq_true,decide_eq_true_eq] at h
  obtain⟨⟨⟨⟨rfl,hg⟩,he⟩,hs⟩,hl⟩:=h
  have m2:=I.blt "range" (by decide)
  have pa:=qdv es I he hs
  rcases hl with hl | hl | hl
  ·obtain⟨a,rfl⟩:=qsE hl
   simp only[List.all_cons,Bool.and_eq_true] at hs
   exact qjr (qpo (qbP I.sc hg) m2 pa (fun ρ r e=>qdb es ρ r _ he e) (qac hs.1)) fun ρ=>by rw[evI]
  ·obtain⟨a,b,rfl⟩:=qsx hl
   have hs':=hs
   simp only[List.all_cons,Bool.and_eq_true] at hs
   exact qjr (qp5 (qbP I.sc hg) m2 pa (fun ρ r e=>qdb es ρ r _ he e) (by rw[qac hs.1,qac hs.2.1];rfl) (qac hs.2.1)) fun ρ=>by rw[evI]
  ·obtain⟨a,b,c,rfl⟩:=qm6 hl
   simp only[List.all_cons,Bool.and_eq_true] at hs
   exact qjr (qpI (qbP I.sc hg) m2 pa (fun ρ r e=>qdb es ρ r _ he e) (qac hs.1) (qet (by simp[hs.2.1,hs.2.2.1]))) fun ρ=>by rw[evI]
 |.zp a b,C,X,fc,sc,t,x,I,h=>by
  unfold qoM at h
  split at h
  case h_2=>cases h
  simp only[Bool.and_eq_true,decide_eq_true_eq] at h
  obtain⟨⟨⟨⟨⟨⟨rfl,hg⟩,ha⟩,hb⟩,hs⟩,hs2⟩,ht⟩:=h
  cases t<;>try cases ht
  exact qjr (qtb I.K (qbP I.sc hg) (I.blt _ (by decide)) (qae a I ha).1 (qae b I hb).1 (qac hs) (qac hs2) (qet (by simp[hs2]))) fun ρ=>by rw[evI]<;>rfl
 |.en a,C,X,fc,sc,t,x,I,h=>by
  unfold qoM at h
  split at h
  case h_2=>cases h
  simp only[Bool.and_eq_true,decide_eq_true_eq] at h
  obtain⟨⟨⟨⟨rfl,hg⟩,ha⟩,hs⟩,ht⟩:=h
  cases t<;>try cases ht
  exact qjr (quD I.K (qbP I.sc hg) (I.blt _ (by decide)) (qae a I ha).1 (qac hs)) fun ρ=>by rw[evI]<;>rfl
 |.rv a,C,X,fc,sc,t,x,I,h=>by
  unfold qoM at h
  split at h
  case h_2=>cases h
  simp only[Bool.and_eq_true,decide_eq_true_eq] at h
  obtain⟨⟨⟨rfl,hg⟩,ha⟩,hs⟩:=h
  exact qjr (quk I.K (qbP I.sc hg) (I.blt _ (by decide)) (qae a I ha).1 (qac hs)) fun ρ=>by rw[evI]<;>rfl
 |.rvr a,C,X,fc,sc,t,x,I,h=>by
  unfold qoM at h
  split at h
  case h_2=>cases h
  simp only[Bool.and_eq_true,decide_eq_true_eq] at h
  obtain⟨⟨⟨⟨⟨rfl,rfl⟩,hg⟩,hg2⟩,ha⟩,hs⟩:=h
  exact qjr (qrc (qbP I.sc hg) (I.blt _ (by decide)) (qbP I.sc hg2) (I.blt _ (by decide)) (qae a I ha).1 (qac hs)) fun ρ=>by rw[evI]<;>rfl
end
end Cm
namespace Cm
open PySem PySem.Spec PyProof.Rows L2
variable [HasT]
section
variable {C:Ctx} {X:Cx}
variable {P N H H0 P1 N1 H1:Hp}
theorem ERs.get:∀{es:List ER} {vs:List V} {i:Nat} {e:ER},ERs C P N H H0 es vs→es[i]? = some e→∃v,vs[i]? = some v∧ERr C P N H H0 e v
 |[],_,i,_,_,e=>by simp at e
 |x::es,_,0,e,⟨v,r,q,h1,h2⟩,e1=>by
  subst q
  simp at e1;subst e1
  exact⟨v,rfl,h1⟩
 |x::es,_,i+1,e,⟨v,r,q,h1,h2⟩,e1=>by
  subst q
  obtain⟨u,e2,k⟩:=ERs.get (i:=i) h2 (by simpa using e1)
  exact⟨u,by simpa using e2,k⟩
theorem ERs.length:∀{es:List ER} {vs:List V},ERs C P N H H0 es vs→vs.length=es.length
 |[],_,h=>by cases h;rfl
 |x::es,_,⟨v,r,q,h1,h2⟩=>by subst q;rw[List.length_cons,List.length_cons,ERs.length h2]
end
end Cm
namespace Cm
open PySem PySem.Spec PyProof.Rows L2
variable [HasT]
def swB (sc:Scope) (x:Str) (pn:Pos) (v:Expr):Bool:=match v with
 |.ListComp _ _ scope pos=>decide (sc.names.lookup x≠some .local)||(match sc.kind with
  |.function=>true
  |_=>false)&&decide (sc.names.lookup x=some .local)&&(pn.line == pos.line) && !(scope.names.any fun(n,k)=>n == x&&(k == .local||k == .cell))
 |.SetComp _ _ _ _=>false
 |.DictComp _ _ _ _ _=>false
 |_=>true
def qs8:Ex→Bool
 |.lc _ _ _ _ _=>true
 |.lcx _ _ _ _ _=>true
 |_=>false
def qql:Expr→Bool
 |.Tuple _ _ _=>false
 |_=>true
def qwZ (T:Tb) (sc:Scope):List Nat→List Expr→Nat→Bool
 |[],[],_=>true
 |i::is,.Name x p::es,l=>decide (T.N[i]? = some x)&&decide (sc.names.lookup x=some .local)&&(p.line == l)&&qwZ T sc is es l
 |_,_,_=>false
def qkM (T:Tb) (sc:Scope):Tr→List Stmt→Bool
 |.ex e,ss=>match ss with
  |[.Expr v _]=>qaT T e none sc v&&qd2 v
  |_=>false
 |.as j e,ss=>match ss with
  |[.Assign [.Name x pn] v _]=>decide (T.N[j]? = some x)&&tgB none sc x&&qaT T e none sc v&&(if qs8 e then swB sc x pn v else qd2 v)
  |_=>false
 |.iff t a b,ss=>match ss with
  |[.If c xs ys _]=>qoT T t none sc c&&qkM T sc a xs&&qkM T sc b ys
  |_=>false
def qmR (T:Tb) (sc:Scope):Pth→Expr→Bool
 |.var j,e=>match e with
  |.Name x _=>decide (T.N[j]? = some x)&&qmt sc x&&nmB x
  |_=>false
 |.ix p k,e=>match e with
  |.Subscript a (.Constant (.int m) _ _) _=>decide (m=(k:Int))&&qmR T sc p a
  |_=>false
def qmA (T:Tb) (sc:Scope):Ch1→Stmt→Bool
 |.clr p,s=>match s with
  |.Expr (.Call (.Attribute o mn apos) [] [] cpos) _=>decide (mn=("clear" : Str))&&qmR T sc p o&&(apos.endLine == cpos.line)
  |_=>false
 |.app p e,s=>match s with
  |.Expr (.Call (.Attribute o mn apos) [y] [] cpos) _=>decide (mn=("append" : Str))&&qmR T sc p o&&(apos.endLine == cpos.line)&&qaT T e none sc y&&qag y
  |_=>false
 |.put p k e,s=>match s with
  |.Assign [.Subscript o (.Constant (.int m) _ _) _] v _=>decide (m=(k:Int))&&qmR T sc p o&&qaT T e none sc v
  |_=>false
def qpG (T:Tb) (sc:Scope):List Ch1→List Stmt→Bool
 |[],[]=>true
 |c::cs,s::ss=>qmA T sc c s&&qpG T sc cs ss
 |_,_=>false
def qfn (T:Tb) (sc:Scope):Ch→List Stmt→Bool
 |.nil,ss=>ss.isEmpty
 |.one c r,ss=>match ss with
  |s::ss=>qmA T sc c s&&qfn T sc r ss
  |[]=>false
 |.wlk l p b r,ss=>match ss with
  |.For (.Name x _) iter body [] _::ss=>decide (T.N[l]? = some x)&&tgB none sc x&&qmR T sc p iter&&qpG T sc b body&&qfn T sc r ss
  |_=>false
 |.ifs j b r,ss=>match ss with
  |.If (.Compare (.Name x _) [.IsNot] [.Constant .none _ _] _) body [] _::ss=>decide (T.N[j]? = some x)&&qmt sc x&&nmB x&&qfn T sc b body&&qfn T sc r ss
  |_=>false
 |.ifl p b r,ss=>match ss with
  |.If (.Call (.Name x _) [y,.Name n _] [] _) body [] _::ss=>decide (x=("isinstance" : Str))&&decide (n=tyN .list)&&glB sc "isinstance" && glB sc (tyN .list)&&qmR T sc p y&&qag y&&qfn T sc b body&&qfn T sc r ss
  |_=>false
def qsv (T:Tb) (sc:Scope) (i f:Nat) (es:Exs):Stmt→Bool
 |.Assign [.Name x _] (.Call (.Name g _) xs [] _) _=>decide (T.N[i]? = some x)&&tgB none sc x&&decide (T.fn[f]? = some (g,xs.length))&&glB sc g&&nmB g&&qbh T es none sc xs&&xs.all qag
 |_=>false
mutual
def qgv (T:Tb) (sc:Scope):Sm→Stmt→Bool
 |.nev,_=>true
 |.rse k,s=>match s with
  |.Raise (some (.Call (.Name x _) [.Constant (.str _) _ _] [] _)) none _=>decide (T.xk[k]? = some x)&&glB sc x&&nmB x
  |_=>false
 |.tryx k i j b,s=>match s with
  |.Try body [.ExceptHandler (some (.Name x _)) (some n) [.Assign [.Name m _] (.Name n2 _) _] _] [] [] _=>decide ((T.ck[k]?).map (·.1)=some x)&&glB sc x&&nmB x&&decide (T.N[i]? = some n)&&decide (T.N[j]? = some m)&&decide (n2=n)&&decide (sc.names.lookup n=some .local)&&decide (sc.names.lookup m=some .local)&&nmB n&&decide (i≠j)&&qkM T sc b body
  |_=>false
 |.asg i e,s=>match s with
  |.Assign [.Name x pn] v _=>decide (T.N[i]? = some x)&&tgB none sc x&&qaT T e none sc v&&(if qs8 e then swB sc x pn v else qd2 v)
  |_=>false
 |.own i e,s=>match s with
  |.Assign [.Name x pn] v _=>decide (T.N[i]? = some x)&&tgB none sc x&&qaT T e none sc v&&(if qs8 e then swB sc x pn v else qd2 v)
  |_=>false
 |.asgT tg e,s=>match s with
  |.Assign [t] v _=>qmF T none sc tg t&&qoG t&&qaT T e none sc v&&qql v
  |_=>false
 |.put i ix e,s=>match s with
  |.Assign [.Subscript (.Name x _) y _] v _=>decide (T.N[i]? = some x)&&qmt sc x&&nmB x&&qgo y&&qaT T ix none sc y&&qaT T e none sc v
  |_=>false
 |.app i e,s=>match s with
  |.Expr (.Call (.Attribute (.Name x _) mn apos) [y] [] cpos) _=>decide (T.N[i]? = some x)&&qmt sc x&&nmB x&&decide (mn=("append" : Str))&&qaT T e none sc y&&qag y&&(apos.endLine == cpos.line)
  |_=>false
 |.clr i,s=>match s with
  |.Expr (.Call (.Attribute (.Name x _) mn apos) [] [] cpos) _=>decide (T.N[i]? = some x)&&qmt sc x&&nmB x&&decide (mn=("clear" : Str))&&(apos.endLine == cpos.line)
  |_=>false
 |.expr e,s=>match s with
  |.Expr v _=>qaT T e none sc v&&qd2 v
  |_=>false
 |.ret e,s=>match s with
  |.Return (some v) _=>qaT T e none sc v
  |_=>false
 |.retN,s=>match s with
  |.Return none _=>true
  |_=>false
 |.pas,s=>match s with
  |.Pass _=>true
  |.Expr (.Constant (.str _) _ _) _=>true
  |_=>false
 |.brk,s=>match s with
  |.Break _=>true
  |_=>false
 |.cnt,s=>match s with
  |.Continue _=>true
  |_=>false
 |.iff c a b,s=>match s with
  |.If t xs ys _=>qoT T c none sc t&&qar T sc a xs&&qar T sc b ys
  |_=>false
 |.for it tg b,s=>match s with
  |.For t iter body [] _=>qoM T it none sc t iter&&qmF T none sc tg t&&qar T sc b body&&qjq iter
  |_=>false
 |.apop i j ix,s=>match s with
  |.Expr (.Call (.Attribute (.Name x _) mn apos) [.Call (.Attribute (.Name y _) mn2 apos2) [z] [] cpos2] [] cpos) _=>decide (T.N[i]? = some x)&&qmt sc x&&nmB x&&decide (mn=("append" : Str))&&(apos.endLine == cpos.line)&&decide (T.N[j]? = some y)&&qmt sc y&&nmB y&&decide (mn2=("pop" : Str))&&(apos2.endLine == cpos2.line)&&qaT T ix none sc z&&qag z
  |_=>false
 |.ins i ix e,s=>match s with
  |.Expr (.Call (.Attribute (.Name x _) mn apos) [y,z] [] cpos) _=>decide (T.N[i]? = some x)&&qmt sc x&&nmB x&&decide (mn=("insert" : Str))&&qaT T ix none sc y&&qag y&&qaT T e none sc z&&qag z&&(apos.endLine == cpos.line)
  |_=>false
 |.popx i e,s=>match s with
  |.Expr (.Call (.Attribute (.Name x _) mn apos) [y] [] cpos) _=>decide (T.N[i]? = some x)&&qmt sc x&&nmB x&&decide (mn=("pop" : Str))&&qaT T e none sc y&&qag y&&(apos.endLine == cpos.line)
  |_=>false
 |.fset f e,s=>match s with
  |.Assign [.Attribute (.Name x _) fn _] v _=>decide (T.N[0]? = some x)&&qmt sc x&&nmB x&&decide (T.fs[f]? = some fn)&&qaT T e none sc v
  |_=>false
 |.row i es,s=>match s with
  |.Assign [.Name x _] (.List xs _) _=>decide (T.N[i]? = some x)&&tgB none sc x&&qbh T es none sc xs&&xs.all qag
  |_=>false
 |.whl c b,s=>match s with
  |.While t body [] _=>qoT T c none sc t&&qar T sc b body
  |_=>false
def qar (T:Tb) (sc:Scope):Sms→List Stmt→Bool
 |.nil,ss=>ss.isEmpty
 |.cons s ir,ss=>match ss with
  |st::ss=>qgv T sc s st&&qar T sc ir ss
  |[]=>false
 |.frz _ ir,ss=>qar T sc ir ss
 |.hav i f es rd cs ir,ss=>match ss with
  |st::ss=>qsv T sc i f es st&&qar T sc rd (ss.take rd.len)&&qfn T sc cs ((ss.drop rd.len).take cs.len)&&qar T sc ir ((ss.drop rd.len).drop cs.len)
  |[]=>false
end
theorem qpd {T:Tb} {own:List Nat} {it:Itx} {tg:List Nat} {cnd:Tes} {e':Ex} {fc:Option Scope} {sc:Scope} {v:Expr} (h:qaT T (.lc own it tg cnd e') fc sc v=true):∃elt tgt iter ifs scope p,v=.ListComp elt [⟨tgt,iter,ifs,0⟩] scope p:=by
 unfold qaT at h
 split at h
 case h_2=>cases h
 exact⟨_,_,_,_,_,_,rfl⟩
theorem qnL {T:Tb} {own:List Nat} {it:Itx} {tg:List Nat} {cnd:Tes} {e':Ex} {fc:Option Scope} {sc:Scope} {v:Expr} (h:qaT T (.lcx own it tg cnd e') fc sc v=true):∃elt tgt iter ifs scope p,v=.ListComp elt [⟨tgt,iter,ifs,0⟩] scope p:=by
 unfold qaT at h
 split at h
 case h_2=>cases h
 exact⟨_,_,_,_,_,_,rfl⟩
theorem qlI {elt:Expr} {gs:List Comprehension} {scope:Scope} {pos py:Pos} {y:Str} {l:Nat} {env:PySem.Env} (hy:env.scope.names.lookup y≠some .local):swapsWith (.ListComp elt gs scope pos) (some (.Name y py)) l env=pure false:=by
 have ky:(env.kindOf y == some .local)=false:=beq_eq_false_iff_ne.mpr hy
 unfold swapsWith
 simp only[ky]
 simp
section
variable {T:Tb} {Γ:Env} {C:Ctx} {X:Cx} {sc:Scope}
theorem qkX {i:Nat} {e:Ex} {x:Str} {pn pos:Pos} {v:Expr} (I:XOk T Γ C X none sc) (hi:T.N[i]? = some x) (ht:tgB none sc x=true) (hv:qaT T e none sc v=true) (hw:(if qs8 e then swB sc x pn v else qd2 v)=true):PS X (.Assign [.Name x pn] v pos) (tAsg (tE C (ev Γ e)) (gName i)):=by
 obtain⟨h1,h2⟩:=qmw I ht
 cases e with
 |lc own it tg cnd e' =>
  obtain⟨elt,tgt,iter,ifs,scope,p,rfl⟩:=qpd hv
  have hv0:=hv
  unfold qaT at hv
  simp only[Bool.and_eq_true] at hv
  obtain⟨⟨⟨⟨⟨⟨hb,hi'⟩,ht'⟩,hsub⟩,hc⟩,he⟩,hs⟩:=hv
  simp only[qs8,if_true,swB,Bool.or_eq_true,Bool.and_eq_true,decide_eq_true_eq,Bool.not_eq_true'] at hw
  rcases hw with hw | hw
  ·exact ps_set I.nd (by rw[I.nm];exact hi) h1 (qae (.lc own it tg cnd e') I hv0).1 (qlI (by rw[I.sc];exact hw)) h2
  obtain⟨⟨⟨hk,hl⟩,hline⟩,hany⟩:=hw
  have hsub':∀i∈tg,i∈own:=fun i hi=>by simpa using List.all_eq_true.mp hsub i hi
  have hb':BlkOk X.N X.env.scope scope (own.map fun i=>(T.N.getD i Str.empty,i)):=by
   rw[I.nm,I.sc];exact blkOk_by hb
  have ho:((own.map fun i=>(T.N.getD i Str.empty,i)).map (·.2))=own:=by
   rw[List.map_map]
   exact List.map_id' own
  have hk':X.env.scope.kind=.function:=by
   rw[I.sc]
   cases e:sc.kind<;>simp_all
  have hl':X.env.scope.names.lookup x=some .local:=by rw[I.sc];exact hl
  have lc:=ps_setLc (i:=i) (y:=x) (py:=pn) (spos:=pos) (elt:=elt) (pos:=p) I.calm I.nd (by rw[I.nm];exact hi) hl' (sw_true hk' hl' hline hany) (qjn it I hi') hb' (fun s H Cd cl fp=>qep (I.blk (s:=s) (H:=H) (cl:=cl) (A:=Cd) (fp:=fp)) ht') (fun s H Cd cl fp=>qiH cnd (I.blk (s:=s) (H:=H) (cl:=cl) (A:=Cd) (fp:=fp)) hc) (fun s H Cd cl fp=>(qae e' (I.blk (s:=s) (H:=H) (cl:=cl) (A:=Cd) (fp:=fp)) he).1) (qfJ hs)
  rw[ho] at lc
  refine qao lc fun D σ H q=>?_
  have eg:(ev Γ (.lc own it tg cnd e'))=gLc own tg (evI Γ it) (qg8 Γ true cnd) (ev Γ e'):=by funext ρ;rw[ev]<;>rfl
  unfold tAsg at q ⊢
  rw[eg] at q
  exact qqh hsub' q
 |lcx own it tg cnd e' =>
  obtain⟨elt,tgt,iter,ifs,scope,p,rfl⟩:=qnL hv
  have hv0:=hv
  unfold qaT at hv
  simp only[Bool.and_eq_true] at hv
  obtain⟨⟨⟨⟨⟨⟨⟨hb,hi'⟩,ht'⟩,hsub⟩,hc⟩,he⟩,hs⟩,_⟩:=hv
  simp only[qs8,if_true,swB,Bool.or_eq_true,Bool.and_eq_true,decide_eq_true_eq,Bool.not_eq_true'] at hw
  rcases hw with hw | hw
  ·exact ps_set I.nd (by rw[I.nm];exact hi) h1 (qae (.lcx own it tg cnd e') I hv0).1 (qlI (by rw[I.sc];exact hw)) h2
  obtain⟨⟨⟨hk,hl⟩,hline⟩,hany⟩:=hw
  have hsub':∀i∈tg,i∈own:=fun i hi=>by simpa using List.all_eq_true.mp hsub i hi
  have hb':BlkOk X.N X.env.scope scope (own.map fun i=>(T.N.getD i Str.empty,i)):=by
   rw[I.nm,I.sc];exact blkOk_by hb
  have ho:((own.map fun i=>(T.N.getD i Str.empty,i)).map (·.2))=own:=by
   rw[List.map_map]
   exact List.map_id' own
  have hk':X.env.scope.kind=.function:=by
   rw[I.sc]
   cases e:sc.kind<;>simp_all
  have hl':X.env.scope.names.lookup x=some .local:=by rw[I.sc];exact hl
  have lc:=qm7 (i:=i) (y:=x) (py:=pn) (spos:=pos) (elt:=elt) (pos:=p) I.tk (I.fr rfl) I.calm I.nd (by rw[I.nm];exact hi) hl' (sw_true hk' hl' hline hany) (qjn it I hi') hb' (fun s H Cd cl fp=>qep (I.blk (s:=s) (H:=H) (cl:=cl) (A:=Cd) (fp:=fp)) ht') (fun σ s H Cd cl fp tk=>qiH cnd (I.blkx (σ0:=σ) (s:=s) (H:=H) (cl:=cl) (A:=Cd) (fp:=fp) tk) hc) (fun σ s H Cd cl fp tk=>(qae e' (I.blkx (σ0:=σ) (s:=s) (H:=H) (cl:=cl) (A:=Cd) (fp:=fp) tk) he).1) (qfJ hs)
  rw[ho] at lc
  refine qao lc fun D σ H q=>?_
  have eg:(ev Γ (.lcx own it tg cnd e'))=qwm own tg (evI Γ it) (qg8 Γ true cnd) (ev Γ e'):=by funext ρ;rw[ev]<;>rfl
  unfold tAsg at q ⊢
  rw[eg] at q
  exact qn2 hsub' q
 |_ =>
  have hc:qd2 v=true:=hw
  exact ps_set I.nd (by rw[I.nm];exact hi) h1 (qae _ I hv).1 (qgG hc) h2
theorem qlO {x y:Expr} {p:Pos} {v:Expr} {l:Nat} {env:PySem.Env}:swapsWithSole [.Subscript x y p] v l env=pure false:=by
 cases v<;>rfl
theorem qh2 {x y:Expr} {p:Pos} {v:Expr} {env:PySem.Env}:swappedStores [.Subscript x y p] v env=pure none:=by
 cases v<;>rfl
theorem qn9 {t v:Expr} {env:PySem.Env} (h:qql v=true):swappedStores [t] v env=pure none:=by
 cases v<;>first | (cases t<;>rfl) | cases h
theorem qob {x y:Expr} {p:Pos} {env:PySem.Env} (h:qgo y=true) (v:Value):assign (.Subscript x y p) env v=(do
   let ov ←holding [v] (eval x env)
   let iv ←holding [v,ov] (eval y env)
   standAt p
   holding [v,ov,iv] (setItem ov iv v)
   release [v,ov,iv] []):=by
 cases y<;>first | rfl | cases h
theorem qp9 {t v:Expr} {l:Nat} {env:PySem.Env} (h:qoG t=true):swapsWithSole [t] v l env=pure false:=by
 cases t<;>first | (cases h;done) | (cases v<;>rfl)
theorem qqW {t:Expr} {env:PySem.Env} (h:qoG t=true):(assignEach [t] env).map (·.2)=[assign t env]:=by
 cases t<;>first | rfl | cases h
theorem qsf {e f:Expr} {env:PySem.Env} {cpos:Pos} (h:qag e=true) (k:qag f=true):((backTo cpos (starEach [e,f] env)).all (fun x=>!x.1)&&(backToKw cpos (keywordEach [] env)).all (fun x=>x.1.isSome)
   && decide ([e,f].length+([]:List Keyword).length+(if ([]:List Keyword).isEmpty then 0 else 1)<30))=true:=by
 rw[qac h,qac k];rfl
theorem qqU {e:Expr} {env:PySem.Env} {cpos:Pos} (h:qag e=true):((backTo cpos (starEach [e] env)).any fun x=>x.1)=false:=by
 rw[qac h];rfl
theorem qiw {e:Expr} {env:PySem.Env} {cpos:Pos} (h:qag e=true):((backTo cpos (starEach [e] env)).all (fun x=>!x.1)&&(backToKw cpos (keywordEach [] env)).all (fun x=>x.1.isSome)
   && decide ([e].length+([]:List Keyword).length+(if ([]:List Keyword).isEmpty then 0 else 1)<30))=true:=by
 rw[qac h];rfl
end
section
variable {T:Tb} {Γ:Env} {C:Ctx} {X:Cx} {sc:Scope}
end
theorem qk0 {T:Tb} {Γ:Env} {sc:Scope}:∀(b:Tr) {C:Ctx} {X:Cx} {ss:List Stmt},XOk T Γ C X none sc→qkM T sc b ss=true→PSs X ss (tR C (trB Γ b))
 |.ex e,C,X,ss,I,h=>by
  unfold qkM at h
  split at h
  case h_2=>cases h
  simp only[Bool.and_eq_true] at h
  refine qbc (pss_cons (ps_expr (qae e I h.1).1 (qgG h.2)) pss_nil) fun D σ H q=>?_
  obtain⟨ρ,P,N,S,h⟩:=q
  have h:res C σ P N H ((ev Γ e ρ).bind fun _=>.ok ρ) fun ρ' _ _ H'=>∀σ' P2 N2,Same P P2→Same N N2→SR C P2 N2 H' ρ' σ'→D.nx σ' H':=by rw[trB] at h;exact h
  exact⟨ρ,P,N,S,h.bind.mono fun x P1 N1 H1 _ a1 h1 v rv=>(res.now (S.adv a1).reg h1) σ P1 N1 a1.pp a1.nn (S.adv a1)⟩
 |.as j e,C,X,ss,I,h=>by
  unfold qkM at h
  split at h
  case h_2=>cases h
  simp only[Bool.and_eq_true,decide_eq_true_eq] at h
  obtain⟨⟨⟨h1,h2⟩,h3⟩,h4⟩:=h
  refine qbc (pss_cons (qkX I h1 h2 h3 h4) pss_nil) fun D σ H q=>?_
  obtain⟨ρ,P,N,S,h⟩:=q
  rw[trB] at h
  refine⟨ρ,P,N,S,h.bind.mono fun x P1 N1 H1 _ a1 h1 v rv=>?_⟩
  cases x with
  |brw ds b=>exact h1.elim
  |val d b =>
   exact(res.now (S.adv a1).reg h1) _ P1 N1 a1.pp a1.nn ((S.adv a1).setV rv)
  |fre ds b =>
   obtain⟨N2,a2,r2⟩:=rv.freeze a1
   exact(res.now (S.adv a1).reg h1) _ P1 N2 a2.pp a2.nn ((S.adv a2).setV r2)
 |.iff t a b,C,X,ss,I,h=>by
  unfold qkM at h
  split at h
  case h_2=>cases h
  simp only[Bool.and_eq_true] at h
  refine qbc (pss_cons (ps_if (qg9 t I h.1.1) (qk0 a I h.1.2) (qk0 b I h.2)) pss_nil) fun D σ H q=>?_
  obtain⟨ρ,P,N,S,h⟩:=q
  rw[trB] at h
  refine⟨ρ,P,N,S,h.bind.mono fun k P1 N1 H1 _ a1 h1=>?_⟩
  cases k with
  |true =>
   rw[if_pos rfl] at h1
   exact⟨ρ,P1,N1,S.adv a1,h1.mono fun ρ' _ _ H' _ _ q σ' P2 N2 e1 e2 S2=>q σ' P2 N2 (a1.pp.trans e1) (a1.nn.trans e2) S2⟩
  |false =>
   rw[if_neg Bool.false_ne_true] at h1
   exact⟨ρ,P1,N1,S.adv a1,h1.mono fun ρ' _ _ H' _ _ q σ' P2 N2 e1 e2 S2=>q σ' P2 N2 (a1.pp.trans e1) (a1.nn.trans e2) S2⟩
end Cm
namespace Cm
open PySem PySem.Spec PyProof.Rows L2
variable [HasT]
abbrev TL:=Addr→Option (List V)
def LT (T:TL):Addr→List V→Prop:=fun a xs=>T a=some xs
def qor:V→Bool
 |.ref _=>true
 |_=>false
def clV (xs:List V):Nat:=if xs.isEmpty then 0 else if xs.any qor then 2 else 1
section
variable {G:Glo} {P:Hp} {LN:Addr→List V→Prop}
theorem qnf:∀{d:D} {v:V},Rep G P LN d v→qor v=d.isRef:=fun {d v} h=>by
 cases d with
 |non=>cases h;rfl
 |bl b=>cases h;rfl
 |int i=>cases h;rfl
 |str s=>cases h;rfl
 |lst ds=>obtain⟨a,xs,rfl,_⟩:=h;rfl
 |tup ds=>obtain⟨a,xs,rfl,_⟩:=h;rfl
 |ins c ds=>obtain⟨a,dx,xs,rfl,_⟩:=h;rfl
 |exc c fs=>obtain⟨_,a,rfl,_⟩:=h;rfl
theorem qlV:∀{ds:List D} {vs:List V},Reps G P LN ds vs→vs.any qor=ds.any D.isRef
 |[],_,h=>by cases h;rfl
 |d::ds,vs,⟨v,r,e,h1,h2⟩=>by
  subst e
  rw[List.any_cons,List.any_cons,qnf h1,qlV h2]
theorem qe8 {ds:List D} {vs:List V} (h:Reps G P LN ds vs):clV vs=clD ds:=by
 unfold clV clD
 rw[qlV h]
 have hl:=h.length
 have:vs.isEmpty=ds.isEmpty:=by
  cases vs<;>cases ds<;>first | rfl | cases hl
 rw[this]
end
section
variable (C:Ctx)
structure Raw (P N H:Hp) (ρ:List Sl) (σ:L2.St) (T:TL) (Z:Zs) (τ:List (Nat × D)):Prop where
 sr:SR C P N H ρ σ
 h:∀a xs,T a=some xs→∃ys,H a=some (.lst ys)∧(clV xs∉Z.1→ys=xs)∧ys.length≤xs.length+Z.2
 o:∀a xs,T a=some xs→P a=none∧N a=none∧C.B a=none
 ow:∀(j:Nat) (ds:List Cm.D) (b:Bool) (p:Addr),ρ[j]? = some (.own ds b)→σ[j]? = some (some (.ref p))→T p=none
 tr:∀(j:Nat) (d:Cm.D),(j,d)∈τ→ρ[j]? = some .non∧∃v,σ[j]? = some (some v)∧Rep C.G P (LT T) d v
 nr:∀(j:Nat) (s:Sl),ρ[j]? = some s→s.isW=false
end
section
variable {C:Ctx} {P N H P' N' H':Hp} {ρ:List Sl} {σ:L2.St} {T:TL} {Z:Zs} {τ:List (Nat × D)}
theorem Raw.sub {τ':List (Nat × D)} (h:Raw C P N H ρ σ T Z τ) (hs:∀e∈τ',e∈τ):Raw C P N H ρ σ T Z τ':=⟨h.sr,h.h,h.o,h.ow,fun j d m=>h.tr j d (hs _ m),h.nr⟩
theorem Raw.adv (h:Raw C P N H ρ σ T Z τ) (a:Adv P N H P' N' H'):Raw C P' N' H' ρ σ T Z τ where
 sr:=h.sr.adv a
 h:=fun b xs e=>by
  obtain⟨ys,h1,h2⟩:=h.h b xs e
  exact⟨ys,a.hh _ _ h1,h2⟩
 o:=fun b xs e=>by
  obtain⟨ys,h1,_⟩:=h.h b xs e
  obtain⟨o1,o2,o3⟩:=h.o b xs e
  exact⟨a.off h1 o1,a.offN h1 o2,o3⟩
 ow:=h.ow
 tr:=fun j d m=>by
  obtain⟨h1,v,h2,h3⟩:=h.tr j d m
  exact⟨h1,v,h2,Rep.mono a.pp d v (fun _ _ q=>q) h3⟩
 nr:=h.nr
theorem Raw.write {Z':Zs} {a:Addr} {xs ys:List V} (h:Raw C P N H ρ σ T Z τ) (e:T a=some xs) (hz:∀k,k∈Z.1→k∈Z'.1) (hc:clV xs∈Z'.1) (hn:Z.2≤Z'.2) (hl:ys.length≤xs.length+Z'.2):Raw C P N (upd H a (.lst ys)) ρ σ T Z' τ:=by
 obtain⟨o1,o2,o3⟩:=h.o a xs e
 obtain⟨zs,z1,_⟩:=h.h a xs e
 refine⟨⟨⟨qbg h.sr.reg.pH o1,qbg h.sr.reg.nH o2,qbg h.sr.reg.bH o3,h.sr.reg.rB,h.sr.reg.p0,h.sr.reg.pn,h.sr.reg.nw,h.sr.reg.dj,qgn z1 h.sr.reg.tb,h.sr.reg.tf⟩,h.sr.len,fun j s ej=>?_,h.sr.ap,h.sr.ad,AR.no h.nr⟩,fun b us eb=>?_,h.o,h.ow,h.tr,h.nr⟩
 ·obtain⟨o,y1,y2⟩:=h.sr.sl j s ej
  refine⟨o,y1,?_⟩
  cases s with
  |non=>trivial
  |val d b=>exact y2
  |own es c =>
   obtain⟨r,vs,rfl,y4,y5⟩:=y2
   have hr:r≠a:=fun er=>by
    have:=h.ow j es c r ej y1
    rw[er,e] at this;cases this
   exact⟨r,vs,rfl,by rw[upd_ne hr];exact y4,y5⟩
  |slf c fs =>
   obtain⟨r,dx,vs,y3,y4,y5⟩:=y2
   have hr:r≠a:=fun er=>by rw[er,z1] at y4;cases y4
   exact⟨r,dx,vs,y3,by rw[upd_ne hr];exact y4,y5⟩
  |fxd d k=>exact y2
  |dct m c =>
   obtain⟨r,es,y3,y4,y5⟩:=y2
   have hr:r≠a:=fun er=>by rw[er,z1] at y4;cases y4
   exact⟨r,es,y3,by rw[upd_ne hr];exact y4,y5⟩
  |row dss=>have:=h.nr j _ ej;cases this
 ·by_cases q:b=a
  ·subst q
   rw[e] at eb;cases eb
   exact⟨ys,upd_same,fun hk=>absurd hc hk,hl⟩
  ·obtain⟨vs,h1,h2,h3⟩:=h.h b us eb
   exact⟨vs,by rw[upd_ne q];exact h1,fun hk=>h2 fun hk'=>hk (hz _ hk'),by omega⟩
theorem Raw.bind {l:Nat} {d:D} {v:V} (h:Raw C P N H ρ σ T Z τ) (hl:ρ[l]? = some .non) (r:Rep C.G P (LT T) d v):Raw C P N H ρ (σ.set l (some v)) T Z ((l,d)::drp l τ) where
 sr:=by
  refine⟨h.sr.reg,by rw[List.length_set];exact h.sr.len,fun j s ej=>?_,fun i j p ds b es c e1 e2 e3 e4=>?_,h.sr.ad.sub fun j m b e=>⟨List.getElem?_set_ne (fun q=>by subst q;rw[hl] at e;cases e),_,_,e⟩,AR.no h.nr⟩
  ·by_cases q:l=j
   ·subst q
    rw[hl] at ej;cases ej
    have hlt:l<σ.length:=by rw[h.sr.len];exact(List.getElem?_eq_some_iff.mp hl).1
    exact⟨some v,List.getElem?_set_self hlt,trivial⟩
   ·rw[List.getElem?_set_ne q];exact h.sr.sl j s ej
  ·have n1:l≠i:=fun q=>by subst q;rw[hl] at e1;cases e1
   have n2:l≠j:=fun q=>by subst q;rw[hl] at e2;cases e2
   rw[List.getElem?_set_ne n1] at e3
   rw[List.getElem?_set_ne n2] at e4
   exact h.sr.ap i j p ds b es c e1 e2 e3 e4
 h:=h.h
 o:=h.o
 ow:=fun j ds b p e1 e2=>by
  have n1:l≠j:=fun q=>by subst q;rw[hl] at e1;cases e1
  rw[List.getElem?_set_ne n1] at e2
  exact h.ow j ds b p e1 e2
 tr:=fun j e m=>by
  rcases List.mem_cons.mp m with m | m
  ·cases m
   have hlt:l<σ.length:=by rw[h.sr.len];exact(List.getElem?_eq_some_iff.mp hl).1
   exact⟨hl,v,List.getElem?_set_self hlt,r⟩
  ·have m':=List.mem_filter.mp m
   have n1:l≠j:=fun q=>by subst q;simp at m'
   obtain⟨h1,u,h2,h3⟩:=h.tr j e m'.1
   exact⟨h1,u,by rw[List.getElem?_set_ne n1];exact h2,h3⟩
 nr:=h.nr
theorem qfS {j:Nat} {d:D}:∀{τ:List (Nat × D)},τ.lookup j=some d→(j,d)∈τ
 |[],h=>by cases h
 |(k,e)::τ,h=>by
  rw[List.lookup_cons] at h
  by_cases q:j=k
  ·subst q
   simp at h
   subst h
   exact List.mem_cons_self
  ·have:(j == k)=false:=by simpa using q
   rw[this] at h
   exact List.mem_cons_of_mem _ (qfS h)
def tP (C:Ctx) (p:Pth):TE:=fun σ H Q=>∃P N ρ T Z τ d,Raw C P N H ρ σ T Z τ∧qoS τ Z p=some d∧∀v,Rep C.G P (LT T) d v→Q v H
end
theorem qn3 {α:Type} {xs:List α} {k:Nat} {x:α} (h:xs[k]? = some x):atI xs (k:Int)=some x:=by
 have hk:=(List.getElem?_eq_some_iff.mp h).1
 unfold atI ixN
 have h1:(0:Int)≤k∧(k:Int)<xs.length:=⟨by omega,by omega⟩
 simp[h1,h]
mutual
theorem qk5 {Γ:Env}:∀(e:Ex),qeO e=true→∀ρ,∃er,ev Γ e ρ=.ok er∧er.isB=false
 |.cint i,_,ρ=>⟨_,by rw[ev];rfl,rfl⟩
 |.cstr s,_,ρ=>⟨_,by rw[ev];rfl,rfl⟩
 |.cbl b,_,ρ=>⟨_,by rw[ev];rfl,rfl⟩
 |.cnon,_,ρ=>⟨_,by rw[ev];rfl,rfl⟩
 |.tup es,h,ρ=>by
  rw[qeO] at h
  obtain⟨r,e1,e2⟩:=qiQ es h ρ
  refine⟨.val (.tup (r.map ER.d)) (r.all ER.b),?_,rfl⟩
  rw[ev,e1,RE.bind_ok,dis,if_pos e2]
 |.lst es,h,ρ=>by
  rw[qeO] at h
  obtain⟨r,e1,e2⟩:=qiQ es h ρ
  refine⟨.fre (r.map ER.d) (r.all ER.b),?_,rfl⟩
  rw[ev,e1,RE.bind_ok,dis,if_pos e2]
 |.nev,h,_=>by simp[qeO] at h
 |.var _,h,_=>by simp[qeO] at h
 |.glo _,h,_=>by simp[qeO] at h
 |.bin _ _ _,h,_=>by simp[qeO] at h
 |.cmp _ _ _,h,_=>by simp[qeO] at h
 |.chn _ _ _ _ _,h,_=>by simp[qeO] at h
 |.isN _,h,_=>by simp[qeO] at h
 |.bop _ _,h,_=>by simp[qeO] at h
 |.bnot _,h,_=>by simp[qeO] at h
 |.idx _ _,h,_=>by simp[qeO] at h
 |.slc _ _ _,h,_=>by simp[qeO] at h
 |.call _ _,h,_=>by simp[qeO] at h
 |.pri _ _,h,_=>by simp[qeO] at h
 |.lrng _,h,_=>by simp[qeO] at h
 |.mth _ _ _,h,_=>by simp[qeO] at h
 |.bm1 _ _ _,h,_=>by simp[qeO] at h
 |.fld _ _,h,_=>by simp[qeO] at h
 |.isi _ _,h,_=>by simp[qeO] at h
 |.lc _ _ _ _ _,h,_=>by simp[qeO] at h
 |.lcx _ _ _ _ _,h,_=>by simp[qeO] at h
 |.inxS _ _,h,_=>by simp[qeO] at h
 |.lset _,h,_=>by simp[qeO] at h
 |.new _ _,h,_=>by simp[qeO] at h
 |.isc _ _,h,_=>by simp[qeO] at h
 |.iscT _ _,h,_=>by simp[qeO] at h
 |.upr _,h,_=>by simp[qeO] at h
theorem qiQ {Γ:Env}:∀(es:Exs),qoJ es=true→∀ρ,∃r,evs Γ es ρ=.ok r∧r.all ER.isV=true
 |.nil,_,ρ=>⟨[],by rw[evs],rfl⟩
 |.cons e es,h,ρ=>by
  rw[qoJ,Bool.and_eq_true] at h
  obtain⟨x,e1,e2⟩:=qk5 e h.1 ρ
  obtain⟨r,e3,e4⟩:=qiQ es h.2 ρ
  refine⟨x.frz::r,by rw[evs,e1,RE.bind_ok,e3,RE.bind_ok],?_⟩
  rw[List.all_cons,e4,Bool.and_true]
  cases x<;>first | rfl | cases e2
end
theorem qnV {G:Glo} {P:Hp} {LN:Addr→List V→Prop} {d:D} {v:V} (h:Rep G P LN d v):d.isNon=decide (v=.non):=by
 cases d with
 |non=>cases h;rfl
 |bl b=>cases h;rfl
 |int i=>cases h;rfl
 |str s=>cases h;rfl
 |lst ds=>obtain⟨a,xs,rfl,_⟩:=h;rfl
 |tup ds=>obtain⟨a,xs,rfl,_⟩:=h;rfl
 |ins c ds=>obtain⟨a,dx,xs,rfl,_⟩:=h;rfl
 |exc c fs=>obtain⟨_,a,rfl,_⟩:=h;rfl
section
variable {T:Tb} {Γ:Env} {C:Ctx} {X:Cx} {sc:Scope}
theorem qfH:∀{p:Pth} {e:Expr},qmR T sc p e=true→qjq e=true∧qjN e=true
 |.var j,e,h=>by
  unfold qmR at h
  split at h
  ·exact⟨rfl,rfl⟩
  ·cases h
 |.ix p k,e,h=>by
  unfold qmR at h
  split at h
  ·exact⟨rfl,rfl⟩
  ·cases h
theorem qh4 (I:XOk T Γ C X none sc):∀(p:Pth) {e:Expr},qmR T sc p e=true→PE X e (tP C p)
 |.var j,e,h=>by
  unfold qmR at h
  split at h
  case h_2=>cases h
  simp only[Bool.and_eq_true,decide_eq_true_eq] at h
  obtain⟨⟨h1,h2⟩,h3⟩:=h
  obtain⟨n1,n2⟩:=qdl h3
  refine qal (pe_var (i:=j) (by rw[I.nm];exact h1) (qd6 I.sc h2) n1 n2) fun σ H Q q=>?_
  obtain⟨P,N,ρ,TT,Z,τ,d,R,e,k⟩:=q
  obtain⟨_,v,e2,r⟩:=R.tr j d (qfS (by simpa[qoS] using e))
  exact⟨v,e2,k v r⟩
 |.ix p k,e,h=>by
  unfold qmR at h
  split at h
  case h_2=>cases h
  simp only[Bool.and_eq_true,decide_eq_true_eq] at h
  obtain⟨rfl,h2⟩:=h
  refine qal (pe_ix ix_seq (qh4 I p h2) pe_int (fun _ _=>rfl)) fun σ H Q q=>?_
  obtain⟨P,N,ρ,TT,Z,τ,d,R,e,kk⟩:=q
  rw[qoS] at e
  split at e
  ·rename_i ds e1
   refine⟨P,N,ρ,TT,Z,τ,_,R,e1,fun v r=>?_⟩
   obtain⟨a,xs,rfl,z1,z2⟩:=r
   obtain⟨u,q1,q2⟩:=z2.get e
   exact .inr (.inl ⟨a,xs,k,u,rfl,rfl,I.K ▸ Same.seqT R.sr.reg.pH z1,qn3 q1,kk u q2⟩)
  ·rename_i ds e1
   split at e
   ·cases e
   ·rename_i hz
    refine⟨P,N,ρ,TT,Z,τ,_,R,e1,fun v r=>?_⟩
    obtain⟨a,xs,rfl,z1,z2⟩:=r
    obtain⟨u,q1,q2⟩:=z2.get e
    obtain⟨ys,y1,y2,_⟩:=R.h a xs z1
    have:=y2 (by rw[qe8 z2];exact hz)
    subst this
    exact .inl ⟨a,ys,k,u,rfl,rfl,.inl (.inl y1),qn3 q1,kk u q2⟩
  ·cases e
theorem qou {τ:List (Nat × D)} {Z Z':Zs} {c:Ch1} (h:qmu τ Z c=some Z'):(∀k,k∈Z.1→k∈Z'.1)∧Z.2≤Z'.2:=by
 cases c with
 |clr p =>
  simp only[qmu] at h
  split at h
  ·cases h;exact⟨fun k hk=>List.mem_cons_of_mem _ hk,Nat.le_refl _⟩
  ·cases h
 |app p e =>
  simp only[qmu] at h
  split at h
  ·split at h
   ·cases h;exact⟨fun k hk=>List.mem_cons_of_mem _ hk,Nat.le_succ _⟩
   ·cases h
  ·cases h
 |put p k e =>
  simp only[qmu] at h
  split at h
  ·split at h
   ·cases h
   ·split at h
    ·cases h;exact⟨fun k hk=>List.mem_cons_of_mem _ hk,Nat.le_refl _⟩
    ·cases h
  ·cases h
theorem qjC {τ:List (Nat × D)}:∀{cs:List Ch1} {Z Z':Zs},qoA τ cs Z=some Z'→(∀k,k∈Z.1→k∈Z'.1)∧Z.2≤Z'.2
 |[],Z,Z',h=>by cases h;exact⟨fun _ h=>h,Nat.le_refl _⟩
 |c::cs,Z,Z',h=>by
  rw[qoA] at h
  cases e:qmu τ Z c with
  |none=>rw[e] at h;cases h
  |some Z1 =>
   rw[e] at h
   obtain⟨a1,a2⟩:=qou e
   obtain⟨b1,b2⟩:=qjC (cs:=cs) h
   exact⟨fun k hk=>b1 k (a1 k hk),Nat.le_trans a2 b2⟩
theorem qg2 {f:D→Zs→Option Zs} (hf:∀d Z Z',f d Z=some Z'→(∀k,k∈Z.1→k∈Z'.1)∧Z.2≤Z'.2):∀{ds:List D} {Z Z':Zs},qp4 f ds Z=some Z'→(∀k,k∈Z.1→k∈Z'.1)∧Z.2≤Z'.2
 |[],Z,Z',h=>by cases h;exact⟨fun _ h=>h,Nat.le_refl _⟩
 |d::ds,Z,Z',h=>by
  rw[qp4] at h
  cases e:f d Z with
  |none=>rw[e] at h;cases h
  |some Z1 =>
   rw[e] at h
   obtain⟨a1,a2⟩:=hf _ _ _ e
   obtain⟨b1,b2⟩:=qg2 hf (ds:=ds) h
   exact⟨fun k hk=>b1 k (a1 k hk),Nat.le_trans a2 b2⟩
def tC1 (C:Ctx) (c:Ch1):TS:=fun D σ H=>∃P N ρ T Z τ Z',Raw C P N H ρ σ T Z τ∧qmu τ Z c=some Z'∧∀P' N' H',Raw C P' N' H' ρ σ T Z' τ→Cm.Same P P'→Cm.Same N N'→D.nx σ H'
theorem qhp {G:Glo} {P:Hp} {LN:Addr→List V→Prop} {ds:List D} {v:V} (h:Rep G P LN (.lst ds) v):∃a xs,v=.ref a∧LN a xs∧Reps G P LN ds xs:=h
theorem qnc (I:XOk T Γ C X none sc):∀(c:Ch1) {s:Stmt},qmA T sc c s=true→PS X s (tC1 C c)
 |.clr p,s,h=>by
  simp only[qmA] at h
  split at h
  case h_2=>cases h
  simp only[Bool.and_eq_true,decide_eq_true_eq] at h
  obtain⟨⟨rfl,h2⟩,h3⟩:=h
  refine qao (ps_expr (pe_bm0 PySem.F.plainAttrs_list PySem.F.slot_list_clear PySem.F.type_list_clear mt_clear (qh4 I p h2) (qeV (qfH h2).2) h3) rfl) fun D σ H q=>?_
  obtain⟨P,N,ρ,TT,Z,τ,Z',R,e,k⟩:=q
  simp only[qmu] at e
  split at e
  ·rename_i ds e1
   cases e
   refine⟨P,N,ρ,TT,Z,τ,_,R,e1,fun v r=>?_⟩
   obtain⟨a,xs,rfl,z1,z2⟩:=qhp r
   obtain⟨ys,y1,_⟩:=R.h a xs z1
   refine⟨.inl ⟨rfl,ys,.inl (.inl y1)⟩,a,ys,rfl,rfl,y1,k P N _ (R.write z1 (fun k hk=>List.mem_cons_of_mem _ hk) ?_ (Nat.le_refl _) (Nat.zero_le _)) (Cm.Same.refl _) (Cm.Same.refl _)⟩
   rw[qe8 z2];exact List.mem_cons_self
  ·cases e
 |.app p ex,s,h=>by
  simp only[qmA] at h
  split at h
  case h_2=>cases h
  simp only[Bool.and_eq_true,decide_eq_true_eq] at h
  obtain⟨⟨⟨⟨rfl,h2⟩,h3⟩,h4⟩,h5⟩:=h
  refine qao (ps_expr (pe_bm PySem.F.plainAttrs_list PySem.F.slot_list_append PySem.F.type_list_append mt_append (qh4 I p h2) (pa_cons (qae ex I h4).1 pa_nil (qac h5)) (qeV (qfH h2).2) (qiw h5) h3 (qac h5) rfl) rfl) fun D σ H q=>?_
  obtain⟨P,N,ρ,TT,Z,τ,Z',R,e,k⟩:=q
  simp only[qmu] at e
  split at e
  ·rename_i ds e1
   split at e
   ·rename_i hc
    cases e
    simp only[Bool.and_eq_true,qat] at hc
    refine⟨P,N,ρ,TT,Z,τ,_,R,e1,fun v r=>?_⟩
    obtain⟨a,xs,rfl,z1,z2⟩:=qhp r
    obtain⟨ys,y1,y2,y3⟩:=R.h a xs z1
    obtain⟨er,q1,q2⟩:=qk5 (Γ:=Γ) ex hc.1 ρ
    refine⟨.inl ⟨rfl,ys,.inl (.inl y1)⟩,ρ,P,N,R.sr,?_⟩
    rw[q1]
    intro P1 N1 H1 a1 u ru
    have hl:=z2.length
    have h6:ys.length+1≤LIM:=by have:=hc.2;omega
    refine⟨a,ys,u,rfl,rfl,a1.hh _ _ y1,h6,?_⟩
    refine k P1 N1 _ ((R.adv a1).write z1 (fun k hk=>List.mem_cons_of_mem _ hk) ?_ (Nat.le_succ _) ?_) a1.pp a1.nn
    ·rw[qe8 z2];exact List.mem_cons_self
    ·rw[List.length_append,List.length_singleton];show ys.length+1≤xs.length+(Z.2+1);omega
   ·cases e
  ·cases e
 |.put p m ex,s,h=>by
  simp only[qmA] at h
  split at h
  case h_2=>cases h
  simp only[Bool.and_eq_true,decide_eq_true_eq] at h
  obtain⟨⟨rfl,h2⟩,h4⟩:=h
  refine qao (ps_asg (qae ex I h4).1 (pg_sub (qh4 I p h2) pe_int set_list (qob rfl)) qlO qh2 rfl) fun D σ H q=>?_
  obtain⟨P,N,ρ,TT,Z,τ,Z',R,e,k⟩:=q
  simp only[qmu] at e
  split at e
  ·rename_i ds e1
   split at e
   ·cases e
   ·rename_i hz
    split at e
    ·rename_i hc
     cases e
     simp only[Bool.and_eq_true,decide_eq_true_eq] at hc
     obtain⟨er,q1,q2⟩:=qk5 (Γ:=Γ) ex hc.1 ρ
     refine⟨ρ,P,N,R.sr,?_⟩
     rw[q1]
     intro P1 N1 H1 a1 u ru
     refine⟨P1,N1,ρ,TT,Z,τ,_,R.adv a1,e1,fun v r=>?_⟩
     obtain⟨a,xs,rfl,z1,z2⟩:=qhp r
     obtain⟨ys,y1,y2,y3⟩:=(R.adv a1).h a xs z1
     have hy:=y2 (by rw[qe8 z2];exact hz)
     subst hy
     have hl:=z2.length
     have hix:ixN ys.length (m:Int)=some m:=by
      unfold ixN
      rw[if_pos (by omega),if_pos (by omega)]
      simp
     refine⟨a,ys,m,m,rfl,rfl,y1,hix,k P1 N1 _ ((R.adv a1).write z1 (fun k hk=>List.mem_cons_of_mem _ hk) ?_ (Nat.le_refl _) ?_) a1.pp a1.nn⟩
     ·rw[qe8 z2];exact List.mem_cons_self
     ·rw[List.length_set];exact Nat.le_add_right _ _
    ·cases e
  ·cases e
def tCL (C:Ctx) (cs:List Ch1):TS:=fun D σ H=>∃P N ρ T Z τ Z',Raw C P N H ρ σ T Z τ∧qoA τ cs Z=some Z'∧∀P' N' H',Raw C P' N' H' ρ σ T Z' τ→Cm.Same P P'→Cm.Same N N'→D.nx σ H'
theorem qnS (I:XOk T Γ C X none sc):∀(cs:List Ch1) {ss:List Stmt},qpG T sc cs ss=true→PSs X ss (tCL C cs)
 |[],[],_=>qbc pss_nil fun D σ H q=>by
  obtain⟨P,N,ρ,TT,Z,τ,Z',R,e,k⟩:=q
  cases e
  exact k P N H R (Cm.Same.refl _) (Cm.Same.refl _)
 |c::cs,s::ss,h=>by
  simp only[qpG,Bool.and_eq_true] at h
  refine qbc (pss_cons (qnc I c h.1) (qnS I cs h.2)) fun D σ H q=>?_
  obtain⟨P,N,ρ,TT,Z,τ,Z',R,e,k⟩:=q
  rw[qoA] at e
  cases e1:qmu τ Z c with
  |none=>rw[e1] at e;cases e
  |some Z1 =>
   rw[e1] at e
   exact⟨P,N,ρ,TT,Z,τ,Z1,R,e1,fun P1 N1 H1 R1 s1 s2=>⟨P1,N1,ρ,TT,Z1,τ,Z',R1,e,fun P2 N2 H2 R2 s3 s4=>k P2 N2 H2 R2 (s1.trans s3) (s2.trans s4)⟩⟩
 |[],_::_,h=>by cases h
 |_::_,[],h=>by cases h
end
end Cm
namespace Cm
open PySem PySem.Spec PyProof.Rows L2
variable [HasT]
section
variable {T:Tb} {Γ:Env} {C:Ctx} {X:Cx} {sc:Scope}
theorem qsU {l:Nat} {τ:List (Nat × D)}:drp l (drp l τ)=drp l τ:=by
 unfold drp
 rw[List.filter_filter]
 simp
theorem qrg {l:Nat} {τ:List (Nat × D)} {e:Nat × D} (h:e∈drp l τ):e∈τ:=(List.mem_filter.mp h).1
theorem qlP {ls:List Nat} {τ:List (Nat × D)} {e:Nat × D} (h:e∈qmQ ls τ):e∈τ:=(List.mem_filter.mp h).1
theorem qpK {l:Nat} {ls:List Nat} {τ:List (Nat × D)} {e:Nat × D} (h:e∈qmQ (l::ls) τ):e∈qmQ ls (drp l τ):=by
 unfold qmQ drp at *
 rw[List.filter_filter]
 have:=List.mem_filter.mp h
 refine List.mem_filter.mpr ⟨this.1,?_⟩
 simpa[not_or,and_comm] using this.2
theorem qiR {l ls:List Nat} {τ:List (Nat × D)} {e:Nat × D} (h:e∈qmQ (l++ls) τ):e∈qmQ ls (qmQ l τ):=by
 unfold qmQ at *
 rw[List.filter_filter]
 have:=List.mem_filter.mp h
 refine List.mem_filter.mpr ⟨this.1,?_⟩
 simpa[not_or,and_comm] using this.2
theorem qrP (hK:X.K=C.G.K) {l:Nat} {p:Pth} {b:List Ch1} {D:Ends} {σ:L2.St} {H:Hp} {P N:Hp} {ρ:List Sl} {TT:TL} {Z Z1:Zs} {τ:List (Nat × Cm.D)} {ds:List Cm.D} (R:Raw C P N H ρ σ TT Z τ) (hl:ρ[l]? = some .non)
  (e:qoS τ Z p=some (.lst ds)) (ew:qp4 (fun d Z=>qoA ((l,d)::drp l τ) b Z) ds Z=some Z1) (hz:clD ds∉Z1.1)
  (k:∀σ' P' N' H',Raw C P' N' H' ρ σ' TT Z1 (drp l τ)→Cm.Same P P'→Cm.Same N N'→D.nx σ' H'):tFor (qvh X.K (tP C p)) (gName l) (tCL C b) D σ H:=by
 have hm:∀d Z Z',qoA ((l,d)::drp l τ) b Z=some Z'→(∀k,k∈Z.1→k∈Z'.1)∧Z.2≤Z'.2:=fun d Z Z'=>qjC
 refine⟨P,N,ρ,TT,Z,τ,_,R,e,fun v r=>?_⟩
 obtain⟨a,xs,rfl,z1,z2⟩:=qhp r
 have hlen:=z2.length
 have seq:∀{P' N' H':Hp} {σ':L2.St} {Z2:Zs} {τ':List (Nat × Cm.D)},Raw C P' N' H' ρ σ' TT Z2 τ'→(∀k,k∈Z2.1→k∈Z1.1)→SqL X.K H' a xs:=fun {P' N' H' σ' Z2 τ'} R' hs=>by
  obtain⟨ys,y1,y2,_⟩:=R'.h a xs z1
  have:=y2 fun q=>hz (by rw[←qe8 z2];exact hs _ q)
  subst this
  exact .inl (.inl y1)
 refine .inl (.inl ⟨a,rfl,⟨xs,seq R (qg2 hm ew).1⟩,?_⟩)
 refine for_it (walk_list (K:=X.K) (a:=a) (xs:=xs)) (Pv:=fun i σ' H'=>∃P' N' Z2,Raw C P' N' H' ρ σ' TT Z2 (drp l τ)∧Cm.Same P P'∧Cm.Same N N'∧qp4 (fun d Z=>qoA ((l,d)::drp l τ) b Z) (ds.drop i) Z2=some Z1) ?_ (fun i σ' H' hi q=>?_) (fun i x σ' H' H'' hi q y=>?_) (fun σ' H' q=>?_)
 ·exact⟨P,N,Z,R.sub fun _=>qrg,Cm.Same.refl _,Cm.Same.refl _,by simpa using ew⟩
 ·obtain⟨P',N',Z2,R',_,_,e'⟩:=q
  exact seq R' (qg2 hm e').1
 ·obtain⟨P',N',Z2,R',s1,s2,e'⟩:=q
  obtain⟨rfl,ex⟩:=y
  have hi':i<ds.length:=by omega
  obtain⟨v,q1,q2⟩:=Reps.get z2 (List.getElem?_eq_getElem hi')
  rw[q1] at ex;cases ex
  rw[List.drop_eq_getElem_cons hi',qp4] at e'
  cases e2:qoA ((l,ds[i])::drp l τ) b Z2 with
  |none=>rw[e2] at e';cases e'
  |some Z3 =>
   rw[e2] at e'
   have RB:=R'.bind hl (Rep.mono s1 _ _ (fun _ _ q=>q) q2)
   rw[qsU] at RB
   exact⟨P',N',ρ,TT,Z2,_,Z3,RB,e2,fun P4 N4 H4 R4 s3 s4=>⟨P4,N4,Z3,R4.sub fun _ h=>List.mem_cons_of_mem _ h,s1.trans s3,s2.trans s4,e'⟩⟩
 ·obtain⟨P',N',Z2,R',s1,s2,e'⟩:=q
  rw[hlen,List.drop_length,qp4] at e'
  cases e'
  exact k σ' P' N' H' R' s1 s2
def tCk (C:Ctx) (c:Ch) (u:TS):TS:=fun D σ H=>∃P N ρ T Z τ Z',Raw C P N H ρ σ T Z τ∧(∀l∈c.tgs,ρ[l]? = some .non)∧chg c τ Z=some Z'∧∀σ' P' N' H',Raw C P' N' H' ρ σ' T Z' (qmQ c.tgs τ)→Cm.Same P P'→Cm.Same N N'→u D σ' H'
theorem qeS (I:XOk T Γ C X none sc) (hp:PassesOwn (model X.prog X.w) X.A X.env X.xe):∀(c:Ch) {ss rest:List Stmt} {u:TS},qfn T sc c ss=true→PSs X rest u→PSs X (ss++rest) (tCk C c u)
 |.nil,ss,rest,u,h,hr=>by
  simp only[qfn,List.isEmpty_iff] at h
  subst h
  refine qbc hr fun D σ H q=>?_
  obtain⟨P,N,ρ,TT,Z,τ,Z',R,_,e,k⟩:=q
  cases e
  exact k σ P N H (R.sub fun _=>qlP) (Cm.Same.refl _) (Cm.Same.refl _)
 |.one c r,ss,rest,u,h,hr=>by
  cases ss with
  |nil=>simp[qfn] at h
  |cons s ss =>
   simp only[qfn,Bool.and_eq_true] at h
   refine qbc (pss_cons (qnc I c h.1) (qeS I hp r h.2 hr)) fun D σ H q=>?_
   obtain⟨P,N,ρ,TT,Z,τ,Z',R,hn,e,k⟩:=q
   rw[chg] at e
   cases e1:qmu τ Z c with
   |none=>rw[e1] at e;cases e
   |some Z1 =>
    rw[e1] at e
    exact⟨P,N,ρ,TT,Z,τ,Z1,R,e1,fun P1 N1 H1 R1 s1 s2=>⟨P1,N1,ρ,TT,Z1,τ,Z',R1,hn,e,fun σ2 P2 N2 H2 R2 s3 s4=>k σ2 P2 N2 H2 R2 (s1.trans s3) (s2.trans s4)⟩⟩
 |.wlk l p b r,ss,rest,u,h,hr=>by
  simp only[qfn] at h
  split at h
  case h_2=>cases h
  simp only[Bool.and_eq_true,decide_eq_true_eq] at h
  obtain⟨⟨⟨⟨h1,h2⟩,h3⟩,h4⟩,h5⟩:=h
  obtain⟨t1,t2⟩:=qmw I h2
  refine qbc (pss_cons (ps_for hp I.calm (qqA (qh4 I p h3)) (pg_name I.nd (by rw[I.nm];exact h1) t1 t2) (qnS I b h4) (qfJ (qfH h3).1)) (qeS I hp r h5 hr)) fun D σ H q=>?_
  obtain⟨P,N,ρ,TT,Z,τ,Z',R,hn,e,k⟩:=q
  rw[chg] at e
  split at e
  ·rename_i ds e1
   cases ew:qp4 (fun d Z=>qoA ((l,d)::drp l τ) b Z) ds Z with
   |none=>rw[ew] at e;cases e
   |some Z1 =>
    rw[ew] at e
    simp only[Option.bind_some] at e
    split at e
    ·cases e
    ·rename_i hz
     refine qrP I.K R (hn l (by simp[Ch.tgs])) e1 ew hz fun σ1 P1 N1 H1 R1 s1 s2=>?_
     exact⟨P1,N1,ρ,TT,Z1,_,Z',R1,fun m hm=>hn m (by simp[Ch.tgs,hm]),e,fun σ2 P2 N2 H2 R2 s3 s4=>k σ2 P2 N2 H2 (R2.sub fun _ h=>qpK h) (s1.trans s3) (s2.trans s4)⟩
  ·cases e
 |.ifs j b r,ss,rest,u,h,hr=>by
  simp only[qfn] at h
  split at h
  case h_2=>cases h
  simp only[Bool.and_eq_true,decide_eq_true_eq] at h
  obtain⟨⟨⟨⟨h1,h2⟩,h3⟩,h4⟩,h5⟩:=h
  obtain⟨n1,n2⟩:=qdl h3
  have hb:=qeS I hp b (rest:=[]) (u:=tNext) h4 pss_nil
  rw[List.append_nil] at hb
  refine qbc (pss_cons (ps_if (pt_cmp (pc_notN (pe_var (i:=j) (by rw[I.nm];exact h1) (qd6 I.sc h2) n1 n2))) hb pss_nil) (qeS I hp r h5 hr)) fun D σ H q=>?_
  obtain⟨P,N,ρ,TT,Z,τ,Z',R,hn,e,k⟩:=q
  rw[chg] at e
  split at e
  ·rename_i d ed
   obtain⟨_,v,ev,rv⟩:=R.tr j d (qfS ed)
   refine⟨v,ev,_,rfl,?_⟩
   rw[←qnV rv]
   have hnb:∀l∈b.tgs,ρ[l]? = some .non:=fun m hm=>hn m (by simp[Ch.tgs,hm])
   have hnr:∀l∈r.tgs,ρ[l]? = some .non:=fun m hm=>hn m (by simp[Ch.tgs,hm])
   cases hd:d.isNon with
   |true =>
    rw[hd] at e
    simp only[if_true] at e
    exact⟨P,N,ρ,TT,Z,_,Z',R.sub fun _=>qlP,hnr,e,fun σ2 P2 N2 H2 R2 s3 s4=>k σ2 P2 N2 H2 (R2.sub fun _ h=>qiR h) s3 s4⟩
   |false =>
    rw[hd] at e
    simp only[Bool.false_eq_true,if_false] at e
    cases eb:chg b τ Z with
    |none=>rw[eb] at e;cases e
    |some Z1 =>
     rw[eb] at e
     simp only[Option.bind_some] at e
     exact⟨P,N,ρ,TT,Z,τ,Z1,R,hnb,eb,fun σ1 P1 N1 H1 R1 s1 s2=>⟨P1,N1,ρ,TT,Z1,_,Z',R1,hnr,e,fun σ2 P2 N2 H2 R2 s3 s4=>k σ2 P2 N2 H2 (R2.sub fun _ h=>qiR h) (s1.trans s3) (s2.trans s4)⟩⟩
  ·cases e
 |.ifl p b r,ss,rest,u,h,hr=>by
  simp only[qfn] at h
  split at h
  case h_2=>cases h
  simp only[Bool.and_eq_true,decide_eq_true_eq] at h
  obtain⟨⟨⟨⟨⟨⟨⟨rfl,rfl⟩,h1⟩,h2⟩,h3⟩,h4⟩,h5⟩,h6⟩:=h
  have hb:=qeS I hp b (rest:=[]) (u:=tNext) h5 pss_nil
  rw[List.append_nil] at hb
  refine qbc (pss_cons (ps_if (pt_truth (qgq call_isi qiD (.inl ⟨_,rfl⟩) (qbP I.sc h1) (I.blt _ (by decide)) (pa_cons (qh4 I p h3) (pa_cons (pe_bltn (v:=.ty (tyS .list)) (qbP I.sc h2) (I.blt _ (qty .list)) (qny .list) rfl (qlu .list).1 (qlu .list).2) pa_nil) (qac h4)) (by decide) (by decide) (qac h4) rfl) (by intro _;rfl)) hb pss_nil) (qeS I hp r h6 hr)) fun D σ H q=>?_
  obtain⟨P,N,ρ,TT,Z,τ,Z',R,hn,e,k⟩:=q
  rw[chg] at e
  split at e
  ·rename_i ds ed
   cases eb:chg b τ Z with
   |none=>rw[eb] at e;cases e
   |some Z1 =>
    rw[eb] at e
    simp only[Option.bind_some] at e
    have hnb:∀l∈b.tgs,ρ[l]? = some .non:=fun m hm=>hn m (by simp[Ch.tgs,hm])
    have hnr:∀l∈r.tgs,ρ[l]? = some .non:=fun m hm=>hn m (by simp[Ch.tgs,hm])
    refine⟨P,N,ρ,TT,Z,τ,_,R,ed,fun v rv=>?_⟩
    obtain⟨a,xs,rfl,z1,z2⟩:=qhp rv
    obtain⟨ys,y1,_⟩:=R.h a xs z1
    refine⟨.ref a,.ty (tyS .list),_,_,true,rfl,.ty _,qh6 (.inl (.inl y1)),qa5 _ _ _ (by decide +kernel),true,rfl,?_⟩
    exact⟨P,N,ρ,TT,Z,τ,Z1,R,hnb,eb,fun σ1 P1 N1 H1 R1 s1 s2=>⟨P1,N1,ρ,TT,Z1,_,Z',R1,hnr,e,fun σ2 P2 N2 H2 R2 s3 s4=>k σ2 P2 N2 H2 (R2.sub fun _ h=>qiR h) (s1.trans s3) (s2.trans s4)⟩⟩
  ·cases e
end
end Cm
namespace Cm
open PySem PySem.Spec PyProof.Rows L2
variable [HasT]
def tSk (C:Ctx) (g:List Sl→Out) (u:TS):TS:=fun D σ H=>∃ρ P N,SR C P N H ρ σ∧outS C P N { D with nx:=u D } (g ρ)
structure HvR (P H P' H':Hp) (T:TL):Prop where
 hh:HX H H'
 pp:Same P P'
 pH:Same P' H'
 tp:TF P→TF P'
 pn:∀a,P' a≠none→P a≠none∨H a=none
 t:∀a xs,T a=some xs→H' a=some (.lst xs)∧H a=none∧P' a=none
def TR (T:TL) (R:Hp):Hp:=fun a=>match T a with
 |some xs=>some (.lst xs)
 |none=>R a
theorem qeU {T:TL} {R:Hp} {a:Addr} {xs:List V} (h:T a=some xs):TR T R a=some (.lst xs):=by unfold TR;rw[h]
theorem qda {T:TL} {R:Hp} {a:Addr} (h:T a=none):TR T R a=R a:=by unfold TR;rw[h]
theorem qhS {T:TL} {R:Hp} {a:Addr} (h:TR T R a=none):T a=none∧R a=none:=by
 unfold TR at h
 split at h
 ·cases h
 ·exact⟨by assumption,h⟩
section
variable {C:Ctx}
theorem qpC {P N H H0:Hp} {σ:L2.St} {n:Nat} {g':List D→RE ER} {Q:VK} {es:List ER} {vs:List V} (r:Reg C P N H) (hv:ERs C P N H H0 es vs) (hn:es.length=n)
  (h:match g' (es.map ER.d) with
   |.bad=>False
   |.ok er=>∃d,ql3 er=some d∧∀v H' P' T,HvR P H P' H' T→Rep C.G P' (LT T) d v→Q v H'
   |.exc c fs=>∀d P' N' H',Adv P N H P' N' H'→ExR C P' N' H' fs d→C.W (.ref (C.G.ca c)) d σ H'):spD C.G n g' vs H Q (fun cls d H'=>C.W cls d σ H'):=by
 have rH:=r.rH
 have hr:Reps C.G P (SqL C.G.K (qe3 H)) (es.map ER.d) vs:=Reps.mono (Cm.Same.refl _) _ _ (fun _ _=>qfg) (qkO r hv)
 refine⟨P,qe3 H,es.map ER.d,r.pH,⟨qew H,r.tb,r.tf.1,qgu H⟩,hr,by rw[List.length_map,hn],?_⟩
 cases e:g' (es.map ER.d) with
 |bad=>rw[e] at h;exact h.elim
 |exc c fs =>
  rw[e] at h
  intro d H' P' N' ad hx
  refine h d _ _ _ (ad.back r.nH) ?_
  rcases hx with hx | ⟨dd,f,v,h1,h2,h3,h4⟩
  ·exact .inl hx
  ·refine .inr ⟨dd,f,v,h1,h2,h3,Rep.mono (Cm.Same.refl _) _ _ (fun a xs q=>?_) h4⟩
   rcases q with q | ⟨hb,q⟩
   ·exact .inl (qmf ad.nH _ _ q)
   ·cases hb
 |ok er =>
  rw[e] at h
  obtain⟨d,ed,h⟩:=h
  intro v H' P' N' ad hx
  have base:∀a xs,N' a=some (.lst xs)→H' a=some (.lst xs)∧H a=none∧P' a=none:=fun a xs q=>by
   have hne:N' a≠none:=by rw[q];exact fun z=>nomatch z
   refine⟨ad.nH _ _ q,?_,?_⟩
   ·rcases ad.nw a hne with z | z
    ·exact absurd rfl z
    ·exact z
   ·cases e2:P' a with
    |none=>rfl
    |some o=>exact absurd rfl (ad.dj a hne (by rw[e2];exact fun z=>nomatch z))
  let T:TL:=fun a=>match N' a with
   |some (.lst xs)=>some xs
   |_=>none
  have hT:∀a xs,N' a=some (.lst xs)→T a=some xs:=fun a xs q=>by show(match N' a with | some (.lst xs)=>some xs | _=>none)=some xs;rw[q]
  have hT':∀a xs,T a=some xs→N' a=some (.lst xs):=fun a xs q=>by
   have q:(match N' a with | some (.lst xs)=>some xs | _=>none)=some xs:=q
   split at q
   ·rename_i ys e2;cases q;exact e2
   ·cases q
  cases er with
  |brw ds b=>cases ed
  |val d' b =>
   simp only[ql3] at ed
   split at ed
   ·rename_i hb
    cases ed
    refine h v H' P' T ⟨ad.hh,ad.pp,ad.pH,ad.tp,ad.pn,fun a xs q=>base a xs (hT' a xs q)⟩ ?_
    cases b with
    |true=>exact Rep.mono (Cm.Same.refl _) _ _ (fun a xs q=>by
     rcases q with q | ⟨hb,_⟩
     ·exact hT a xs q
     ·cases hb) hx
    |false=>exact Rep.flat _ _ (by simpa using hb) hx
   ·cases ed
  |fre ds b =>
   simp only[ql3] at ed
   split at ed
   ·rename_i hb
    cases ed
    obtain⟨p,xs,rfl,h1,h2,h3,h4,h5⟩:=hx
    refine h _ H' P' (fun a=>if a=p then some xs else T a) ⟨ad.hh,ad.pp,ad.pH,ad.tp,ad.pn,fun a ys q=>?_⟩ ⟨p,xs,rfl,if_pos rfl,?_⟩
    ·split at q
     ·rename_i ea
      cases q
      subst ea
      exact⟨h1,h2,h3⟩
     ·exact base a ys (hT' a ys q)
    ·have mono:∀a ys,LNb C.G.K P' N' (qe3 H) true a ys→LT (fun a=>if a=p then some xs else T a) a ys:=fun a ys q=>by
      rcases q with q | ⟨hb,_⟩
      ·have:a≠p:=fun ea=>by rw[ea,h4] at q;cases q
       show(if a=p then some xs else T a)=some ys
       rw[if_neg this];exact hT a ys q
      ·cases hb
     cases b with
     |true=>exact Reps.mono (Cm.Same.refl _) _ _ mono h5
     |false=>exact Reps.flat _ _ (by simpa using hb) h5
   ·cases ed
def Ctx.hv (C:Ctx) (T:TL) (fx:Nat→Option V):Ctx:={ C with R:=TR T C.R,B:=TR T C.B,fx:=fx }
theorem qfq:∀{ρ:List Sl} {k j:Nat} {s:Sl},(qkw k ρ)[j]? = some s→∃q,ρ[j]? = some q∧s=ent (k+j) q
 |[],k,j,s,h=>by simp[qkw] at h
 |q::qs,k,0,s,h=>by simp[qkw] at h;exact⟨q,rfl,h.symm⟩
 |q::qs,k,j+1,s,h=>by
  simp[qkw] at h
  obtain⟨r,h1,h2⟩:=qfq h
  exact⟨r,by simpa using h1,by rw[h2];congr 1;omega⟩
theorem qiX:∀{ρ:List Sl} {k:Nat},(qkw k ρ).length=ρ.length
 |[],_=>rfl
 |q::qs,k=>by simp[qkw,qiX]
theorem qev {ρ0:List Sl}:∀{ρ:List Sl} {k j:Nat} {s:Sl},(qj1 ρ0 k ρ)[j]? = some s→∃q,ρ[j]? = some q∧s=ext (k+j) (ρ0[k+j]?.getD .non) q
 |[],k,j,s,h=>by simp[qj1] at h
 |q::qs,k,0,s,h=>by simp[qj1] at h;exact⟨q,rfl,h.symm⟩
 |q::qs,k,j+1,s,h=>by
  simp[qj1] at h
  obtain⟨r,h1,h2⟩:=qev h
  have:k+1+j=k+(j+1):=by omega
  exact⟨r,by simpa using h1,by rw[h2,this]⟩
theorem qgw {ρ0:List Sl}:∀{ρ:List Sl} {k:Nat},(qj1 ρ0 k ρ).length=ρ.length
 |[],_=>rfl
 |q::qs,k=>by simp[qj1,qgw]
theorem LNb.up {K:PySem.W.Frag} {P N R R':Hp} {b:Bool} (h:Cm.Same R R'):∀a xs,LNb K P N R b a xs→LNb K P N R' b a xs:=fun a xs q=>by
 rcases q with q | ⟨hb,q | q | q⟩
 ·exact .inl q
 ·exact .inr ⟨hb,.inl q⟩
 ·exact .inr ⟨hb,.inr (.inl q)⟩
 ·exact .inr ⟨hb,.inr (.inr (Cm.Same.seq h q))⟩
theorem RepB.dn {C C':Ctx} {P N:Hp} {b:Bool} {d:Cm.D} {v:V} (hG:C'.G=C.G) (hb:(b||d.flat)=true) (h:RepB C' P N b d v):RepB C P N b d v:=by
 unfold RepB at *
 rw[hG] at h
 cases b with
 |true=>exact Rep.mono (Cm.Same.refl _) _ _ (fun a xs q=>by
  rcases q with q | ⟨hb,_⟩
  ·exact .inl q
  ·cases hb) h
 |false=>exact Rep.flat _ _ (by simpa using hb) h
theorem RepsB.dn {C C':Ctx} {P N:Hp} {b:Bool} {d:List Cm.D} {v:List V} (hG:C'.G=C.G) (hb:(b||D.flats d)=true) (h:RepsB C' P N b d v):RepsB C P N b d v:=by
 unfold RepsB at *
 rw[hG] at h
 cases b with
 |true=>exact Reps.mono (Cm.Same.refl _) _ _ (fun a xs q=>by
  rcases q with q | ⟨hb,_⟩
  ·exact .inl q
  ·cases hb) h
 |false=>exact Reps.flat _ _ (by simpa using hb) h
end
section
variable {C:Ctx} {P N H P' H':Hp} {ρ:List Sl} {σ:L2.St} {T:TL}
theorem HvR.tn (a:HvR P H P' H' T) {b:Addr} (h:H b≠none):T b=none:=by
 cases e:T b with
 |none=>rfl
 |some xs=>exact absurd (a.t b xs e).2.1 h
theorem HvR.tp0 (a:HvR P H P' H' T) {b:Addr} (h:P' b≠none):T b=none:=by
 cases e:T b with
 |none=>rfl
 |some xs=>exact absurd (a.t b xs e).2.2 h
theorem HvR.sR (a:HvR P H P' H' T) {R:Hp} (h:Cm.Same R H):Cm.Same R (TR T R):=Same.of fun b o e=>by
 rw[qda (a.tn (b:=b) fun z=>by have:=h.free z;rw[e] at this;cases this)];exact e
theorem HvR.reg (a:HvR P H P' H' T) (r:Reg C P N H) {fx:Nat→Option V}:Reg (C.hv T fx) P' N H' where
 pH:=a.pH
 nH:=r.nH.trans a.hh
 bH:=⟨fun b o e n=>by
  have e:TR T C.B b=some o:=e
  cases q:T b with
  |none=>rw[qda q] at e;exact a.hh.s.g0 _ _ (r.bH.g0 _ _ e n) n
  |some xs=>rw[qeU q] at e;cases e;exact(a.t b xs q).1,fun b e=>by
  show TR T C.B b=none
  cases q:T b with
  |none=>rw[qda q];exact r.bH.free (a.hh.free e)
  |some xs=>rw[(a.t b xs q).1] at e;cases e⟩
 rB:=⟨fun b o e n=>by
  have e:TR T C.R b=some o:=e
  show TR T C.B b=some o
  cases q:T b with
  |none=>rw[qda q] at e ⊢;exact r.rB.g0 _ _ e n
  |some xs=>rw[qeU q] at e ⊢;exact e,fun b e=>by
  have e:TR T C.B b=none:=e
  show TR T C.R b=none
  cases q:T b with
  |none=>rw[qda q] at e ⊢;exact r.rB.free e
  |some xs=>rw[qeU q] at e;cases e⟩
 tb:=a.hh.tb r.tb
 tf:=⟨a.tp r.tf.1,r.tf.2.1,fun b o e=>by
  have e:TR T C.R b=some o:=e
  cases q:T b with
  |none=>rw[qda q] at e;exact r.tf.2.2 b o e
  |some xs=>rw[qeU q] at e;cases e;rfl⟩
 p0:=r.p0.trans a.pp
 pn:=fun b h=>by
  have t:=a.tp0 h
  show C.P0 b≠none∨TR T C.B b=none
  rw[qda t]
  rcases a.pn b h with z | z
  ·exact r.pn b z
  ·exact .inr (r.bH.free z)
 nw:=fun b h=>by
  have hb:H b≠none:=fun z=>h (r.nH.free z)
  show TR T C.B b=none
  rw[qda (a.tn hb)];exact r.nw b h
 dj:=fun b h=>by
  cases q:P' b with
  |none=>rfl
  |some o =>
   rcases a.pn b (by rw[q];exact fun z=>nomatch z) with z | z
   ·exact absurd (r.dj b h) z
   ·exact absurd (r.nH.free z) h
theorem qo9 {i:Nat} {v w:V} (hi:i<σ.length) (h:((σ.set i (some v))[i]?).join=some w):w=v:=by
 rw[List.getElem?_set_self hi] at h
 cases h;rfl
theorem HvR.into (a:HvR P H P' H' T) (S:SR C P N H ρ σ) {i:Nat} {d:D} {v:V} (hi:i<σ.length) (rv:Rep C.G P' (LT T) d v):SR (C.hv T fun k=>((σ.set i (some v))[k]?).join) P' N H' ((qkw 0 ρ).set i (.fxd d i)) (σ.set i (some v)) where
 reg:=a.reg S.reg
 len:=by simp[S.len,qiX]
 sl:=fun j s e=>by
  by_cases q:i=j
  ·subst q
   rw[List.getElem?_set_self (by rw[qiX,←S.len];exact hi)] at e
   cases e
   refine⟨some v,List.getElem?_set_self hi,v,rfl,?_,?_⟩
   ·show((σ.set i (some v))[i]?).join=some v
    rw[List.getElem?_set_self hi];rfl
   ·exact Rep.mono (Cm.Same.refl _) _ _ (fun b xs z=>.inr ⟨rfl,.inr (.inr (.inl (.inl (qeU z))))⟩) rv
  ·rw[List.getElem?_set_ne q] at e
   obtain⟨s0,e0,rfl⟩:=qfq e
   obtain⟨o,y1,y2⟩:=S.sl j s0 e0
   rw[List.getElem?_set_ne q]
   refine⟨o,y1,?_⟩
   have mR:=a.sR S.reg.rH
   have up:∀{b:Bool} {d:D} {v:V},RepB C P N b d v→RepB (C.hv T fun k=>((σ.set i (some v))[k]?).join) P' N b d v:=fun {b d v} h =>
    Rep.mono a.pp _ _ (fun c xs z=>LNb.up mR c xs (LNb.mono a.pp (Cm.Same.refl _) c xs z)) h
   have ups:∀{b:Bool} {d:List D} {v:List V},RepsB C P N b d v→RepsB (C.hv T fun k=>none) P' N b d v:=fun {b d v} h =>
    Reps.mono a.pp _ _ (fun c xs z=>LNb.up mR c xs (LNb.mono a.pp (Cm.Same.refl _) c xs z)) h
   have hfx:∀w,o=some w→((σ.set i (some v))[j]?).join=some w:=fun w ew=>by rw[List.getElem?_set_ne q,y1,ew];rfl
   rw[Nat.zero_add]
   cases s0 with
   |non=>trivial
   |val d b =>
    obtain⟨w,rfl,h3⟩:=y2
    by_cases hb:(b||d.flat)=true
    ·rw[show ent j (.val d b)=.val d b from if_pos hb]
     exact⟨w,rfl,up h3⟩
    ·rw[show ent j (.val d b)=.fxd d j from if_neg hb]
     have hb':b=false:=by cases b with
      |false=>rfl
      |true=>simp at hb
     subst hb'
     exact⟨w,rfl,hfx w rfl,up h3⟩
   |own ds b =>
    obtain⟨p,xs,rfl,h3,h4,h5,h6,h7⟩:=y2
    have hne:H p≠none:=by rw[h3];exact fun z=>nomatch z
    refine⟨p,xs,rfl,a.hh _ _ h3,?_,h5,?_,ups h7⟩
    ·cases q2:P' p with
     |none=>rfl
     |some o =>
      rcases a.pn p (by rw[q2];exact fun z=>nomatch z) with z | z
      ·exact absurd h4 z
      ·exact absurd z hne
    ·show TR T C.B p=none
     rw[qda (a.tn hne)];exact h6
   |slf c fs=>trivial
   |fxd d k =>
    obtain⟨w,rfl,_,h3⟩:=y2
    exact⟨w,rfl,hfx w rfl,up h3⟩
   |dct m c=>trivial
   |row _=>trivial
 ap:=fun j k p ds b es c e1 e2 e3 e4=>by
  have old:∀{m:Nat} {es:List D} {c:Bool},((qkw 0 ρ).set i (.fxd d i))[m]? = some (.own es c)→i≠m∧ρ[m]? = some (.own es c):=fun {m es c} e=>by
   by_cases q:i=m
   ·subst q
    rcases Nat.lt_or_ge i (qkw 0 ρ).length with z | z
    ·rw[List.getElem?_set_self z] at e;cases e
    ·rw[List.getElem?_eq_none (by simpa using z)] at e;cases e
   ·rw[List.getElem?_set_ne q] at e
    obtain⟨s0,e0,es0⟩:=qfq e
    refine⟨q,?_⟩
    rw[e0]
    cases s0 with
    |own ds' b'=>simp only[ent] at es0;rw[es0]
    |val d b =>
     by_cases hb:(b||d.flat)=true
     ·rw[show ent (0+m) (.val d b)=.val d b from if_pos hb] at es0;cases es0
     ·rw[show ent (0+m) (.val d b)=.fxd d (0+m) from if_neg hb] at es0;cases es0
    |_=>cases es0
  obtain⟨n1,o1⟩:=old e1
  obtain⟨n2,o2⟩:=old e2
  rw[List.getElem?_set_ne n1] at e3
  rw[List.getElem?_set_ne n2] at e4
  exact S.ap j k p ds b es c o1 o2 e3 e4
 ad:=AD.setS (AD.no fun j s e=>by
  obtain⟨s0,e0,rfl⟩:=qfq e
  cases s0 with
  |val d b=>simp only[ent];split<;>rfl
  |_=>rfl) rfl
 ar:=AR.no fun j s e=>by
  rcases qa4 e with⟨_,z⟩ | ⟨_,z⟩
  ·rw[z];rfl
  ·obtain⟨s0,e0,rfl⟩:=qfq z
   cases s0 with
   |val d b=>simp only[ent];split<;>rfl
   |_=>rfl
theorem HvR.regO (a:HvR P H P' H' T) (r:Reg C P N H) {fx:Nat→Option V} {P2 N2 H2:Hp} (r2:Reg (C.hv T fx) P2 N2 H2):Reg C P2 N2 H2 where
 pH:=r2.pH
 nH:=r2.nH
 bH:=⟨fun b o e n=>r2.bH.g0 b o (by
  show TR T C.B b=some o
  rw[qda (a.tn (b:=b) fun z=>by have:=r.bH.free z;rw[e] at this;cases this)];exact e) n,fun b e=>(qhS (r2.bH.free e)).2⟩
 tb:=r2.tb
 tf:=⟨r2.tf.1,r2.tf.2.1,r.tf.2.2⟩
 rB:=r.rB
 p0:=r2.p0
 pn:=fun b h=>by
  rcases r2.pn b h with z | z
  ·exact .inl z
  ·exact .inr (qhS z).2
 nw:=fun b h=>(qhS (r2.nw b h)).2
 dj:=r2.dj
theorem SR.drop {P N H:Hp} {ρ:List Sl} {σ:L2.St} (S:SR C P N H ρ σ) (i:Nat):SR C P N H (ρ.set i .non) σ where
 reg:=S.reg
 len:=by simp[S.len]
 sl:=fun j s e=>by
  by_cases q:i=j
  ·subst q
   rcases Nat.lt_or_ge i ρ.length with z | z
   ·rw[List.getElem?_set_self z] at e
    cases e
    exact⟨_,List.getElem?_eq_getElem (by rw[S.len];exact z),trivial⟩
   ·rw[List.getElem?_eq_none (by simpa using z)] at e;cases e
  ·rw[List.getElem?_set_ne q] at e
   exact S.sl j s e
 ap:=fun j k p ds b es c e1 e2 e3 e4=>by
  have old:∀{m:Nat} {es:List D} {c:Bool},(ρ.set i .non)[m]? = some (.own es c)→ρ[m]? = some (.own es c):=fun {m es c} e=>by
   by_cases q:i=m
   ·subst q
    rcases Nat.lt_or_ge i ρ.length with z | z
    ·rw[List.getElem?_set_self z] at e;cases e
    ·rw[List.getElem?_eq_none (by simpa using z)] at e;cases e
   ·rw[List.getElem?_set_ne q] at e;exact e
  exact S.ap j k p ds b es c (old e1) (old e2) e3 e4
 ad:=S.ad.setS rfl
 ar:=S.ar.setS rfl
theorem SR.wipeS {P N H:Hp} {ρ:List Sl} {σ:L2.St} (S:SR C P N H ρ σ):∀vs:List Nat,SR C P N H (Cm.wipeS ρ vs) σ
 |[]=>S
 |v::vs=>(SR.wipeS S vs).drop v
theorem qfO {ρ:List Sl}:∀vs:List Nat,(wipeS ρ vs).length=ρ.length
 |[]=>rfl
 |v::vs=>by simp[wipeS,qfO vs]
theorem qlv {ρ:List Sl} {v:Nat} (hv:v<ρ.length):∀{vs:List Nat},v∈vs→(wipeS ρ vs)[v]? = some .non
 |[],h=>by cases h
 |w::vs,h=>by
  unfold wipeS
  by_cases q:w=v
  ·subst q;rw[List.getElem?_set_self (by rw[qfO];exact hv)]
  ·rw[List.getElem?_set_ne q]
   rcases List.mem_cons.mp h with h | h
   ·exact absurd h.symm q
   ·exact qlv hv h
theorem qj0 {ρ:List Sl} {j:Nat} {s:Sl} (hs:s≠.non):∀{vs:List Nat},(wipeS ρ vs)[j]? = some s→ρ[j]? = some s
 |[],h=>h
 |w::vs,h=>by
  unfold wipeS at h
  by_cases q:w=j
  ·subst q
   rcases Nat.lt_or_ge w (wipeS ρ vs).length with z | z
   ·rw[List.getElem?_set_self z] at h;cases h;exact absurd rfl hs
   ·rw[List.getElem?_eq_none (by simpa using z)] at h;cases h
  ·rw[List.getElem?_set_ne q] at h;exact qj0 hs h
theorem qkg {ρ:List Sl} {j:Nat} (h:ρ[j]? = some .non):∀{vs:List Nat},(wipeS ρ vs)[j]? = some .non
 |[]=>h
 |w::vs=>by
  unfold wipeS
  by_cases q:w=j
  ·subst q
   rw[List.getElem?_set_self (by rw[qfO];exact(List.getElem?_eq_some_iff.mp h).1)]
  ·rw[List.getElem?_set_ne q];exact qkg h
theorem qlR {ρ:List Sl} (h:∀(j:Nat) (s:Sl),ρ[j]? = some s→s.isW=false):∀{vs:List Nat} (j:Nat) (s:Sl),(Cm.wipeS ρ vs)[j]? = some s→s.isW=false
 |[],j,s,e=>h j s e
 |v::vs,j,s,e=>by
  unfold Cm.wipeS at e
  rcases qa4 e with⟨_,z⟩ | ⟨_,z⟩
  ·rw[z];rfl
  ·exact qlR h j s z
theorem HvR.out (a:HvR P H P' H' T) (S:SR C P N H ρ σ) {i:Nat} {d d2:D} {v:V} (hi:i<σ.length) (rv:Rep C.G P' (LT T) d v) {P2 N2 H2:Hp} {ρ2:List Sl} {σ2:L2.St}
  (S2:SR (C.hv T fun k=>((σ.set i (some v))[k]?).join) P2 N2 H2 ρ2 σ2) (sp:Cm.Same P' P2) (sn:Cm.Same N N2) (e2:ρ2[i]? = some (.fxd d2 i)) (vs:List Nat) :
  Raw C P2 N2 H2 (wipeS (qj1 (ρ.set i .non) 0 ρ2) vs) σ2 T ([],0) [(i,d)]:=by
 have rg:=a.regO S.reg S2.reg
 have own:∀{j:Nat} {ds:List D} {b:Bool},(qj1 (ρ.set i .non) 0 ρ2)[j]? = some (.own ds b)→ρ2[j]? = some (.own ds b)∧(b||D.flats ds)=true:=fun {j ds b} e=>by
  obtain⟨q,h1,h2⟩:=qev e
  cases q with
  |own es c =>
   simp only[ext] at h2
   split at h2
   ·cases h2;exact⟨h1,by assumption⟩
   ·cases h2
  |val d' b' =>
   simp only[ext] at h2
   split at h2<;>cases h2
  |non=>cases h2
  |slf _ _=>cases h2
  |fxd _ k =>
   simp only[ext] at h2
   split at h2
   ·split at h2<;>cases h2
   ·cases h2
  |dct _ _=>cases h2
  |row _=>cases h2
 have ei:(qj1 (ρ.set i .non) 0 ρ2)[i]? = some .non:=by
  have hl:i<ρ2.length:=(List.getElem?_eq_some_iff.mp e2).1
  have:i<(qj1 (ρ.set i .non) 0 ρ2).length:=by rw[qgw];exact hl
  obtain⟨q,h1,h2⟩:=qev (List.getElem?_eq_getElem this)
  rw[e2] at h1;cases h1
  rw[List.getElem?_eq_getElem this,h2]
  simp only[Nat.zero_add,ext,if_true]
  rw[List.getElem?_set_self (by rw[←S.len];exact hi)]
  rfl
 have noW:∀(j:Nat) (s:Sl),(qj1 (ρ.set i .non) 0 ρ2)[j]? = some s→s.isW=false:=fun j s e=>by
  obtain⟨q,h1,rfl⟩:=qev e
  cases q with
  |val d b=>simp only[ext];split<;>rfl
  |own d b=>simp only[ext];split<;>rfl
  |fxd d k =>
   simp only[ext]
   split
   ·split<;>rfl
   ·rfl
  |_=>rfl
 have sr:SR C P2 N2 H2 (qj1 (ρ.set i .non) 0 ρ2) σ2:=by
  refine⟨rg,by rw[qgw,S2.len],fun j s e=>?_,fun j k p ds b es c e1 e3 e4 e5=>S2.ap j k p ds b es c (own e1).1 (own e3).1 e4 e5,AD.no fun j s e=>by
   obtain⟨q,h1,rfl⟩:=qev e
   cases q with
   |val d b=>simp only[ext];split<;>rfl
   |own d b=>simp only[ext];split<;>rfl
   |fxd d k =>
    simp only[ext]
    split
    ·split<;>rfl
    ·rfl
   |_=>rfl,AR.no noW⟩
  obtain⟨q,h1,h2⟩:=qev e
  obtain⟨o,y1,y2⟩:=S2.sl j q h1
  refine⟨o,y1,?_⟩
  rw[h2,Nat.zero_add]
  cases q with
  |non=>trivial
  |slf _ _=>trivial
  |dct _ _=>trivial
  |row _=>trivial
  |val d b =>
   simp only[ext]
   split
   ·rename_i hb
    obtain⟨w,rfl,h3⟩:=y2
    exact⟨w,rfl,RepB.dn (C':=C.hv T fun k=>((σ.set i (some v))[k]?).join) rfl hb h3⟩
   ·trivial
  |own ds b =>
   simp only[ext]
   split
   ·rename_i hb
    obtain⟨p,xs,rfl,h3,h4,h5,h6,h7⟩:=y2
    exact⟨p,xs,rfl,h3,h4,h5,(qhS h6).2,RepsB.dn (C':=C.hv T fun k=>((σ.set i (some v))[k]?).join) rfl hb h7⟩
   ·trivial
  |fxd d' k =>
   simp only[ext]
   split
   ·rename_i hk
    subst hk
    by_cases hki:i=k
    ·subst hki
     rw[List.getElem?_set_self (by rw[←S.len];exact hi)]
     trivial
    ·rw[List.getElem?_set_ne hki]
     obtain⟨w,rfl,h3,_⟩:=y2
     have h3:((σ.set i (some v))[k]?).join=some w:=h3
     rw[List.getElem?_set_ne hki] at h3
     cases e0:ρ[k]? with
     |none=>trivial
     |some s0 =>
      obtain⟨o,z1,z2⟩:=S.sl k s0 e0
      have ho:o=some w:=by
       rw[z1] at h3
       exact h3
      subst ho
      cases s0 with
      |val d b =>
       obtain⟨u,eu,h4⟩:=z2
       cases eu
       exact⟨w,rfl,RepB.adv (a.pp.trans sp) sn h4⟩
      |fxd d m =>
       obtain⟨u,eu,h5,h4⟩:=z2
       cases eu
       exact⟨w,rfl,h5,RepB.adv (a.pp.trans sp) sn h4⟩
      |non=>trivial
      |own _ _=>trivial
      |slf _ _=>trivial
      |dct _ _=>trivial
      |row _=>trivial
   ·trivial
 have tb:∀{b:Addr} {xs:List V},T b=some xs→TR T C.B b≠none:=fun {b xs} e=>by rw[qeU e];exact fun z=>nomatch z
 refine⟨sr.wipeS vs,fun b xs e=>⟨xs,S2.reg.bH b _ (qeU e),fun _=>rfl,Nat.le_add_right _ _⟩,fun b xs e=>⟨?_,?_,?_⟩,fun j ds b p e1 e3=>?_,fun j d' m=>?_,qlR noW⟩
 ·cases q:P2 b with
  |none=>rfl
  |some o =>
   rcases S2.reg.pn b (by rw[q];exact fun z=>nomatch z) with z | z
   ·have hb:=(a.t b xs e).2.1
    exact absurd (S.reg.p0.free (S.reg.pH.free hb)) z
   ·exact absurd z (tb e)
 ·cases q:N2 b with
  |none=>rfl
  |some o=>exact absurd (S2.reg.nw b (by rw[q];exact fun z=>nomatch z)) (tb e)
 ·exact S.reg.bH.free (a.t b xs e).2.1
 ·obtain⟨h1,_⟩:=own (qj0 (by simp) e1)
  obtain⟨o,y1,p',xs,rfl,h3,h4,h5,h6,h7⟩:=S2.sl j _ h1
  rw[y1] at e3;cases e3
  exact(qhS h6).1
 ·simp only[List.mem_singleton,Prod.mk.injEq] at m
  obtain⟨rfl,rfl⟩:=m
  refine⟨qkg ei,v,?_,Rep.mono sp _ _ (fun _ _ q=>q) rv⟩
  obtain⟨o,y1,w,rfl,h3,_⟩:=S2.sl j _ e2
  have:=qo9 hi h3
  subst this
  exact y1
end
section
variable {T:Tb} {Γ:Env} {C:Ctx} {X:Cx} {sc:Scope}
theorem XOk.hv {fc:Option Scope} {TT:TL} {fx:Nat→Option V} (I:XOk T Γ C X fc sc):XOk T Γ (C.hv TT fx) X fc sc where
 nm:=I.nm
 nd:=I.nd
 sc:=I.sc
 K:=I.K
 tk:=I.tk
 fr:=I.fr
 lam:=I.lam
 fo:=I.fo
 calm:=I.calm
 un:=I.un
 blt:=I.blt
 fnc:=I.fnc
 fn:=I.fn
 gc:=fun k x h c e=>by
  obtain⟨u,v,h1,h2,h3,h4⟩:=I.gc k x h c e
  refine⟨u,v,h1,h2,fun P N=>?_,h4⟩
  exact Rep.mono (Cm.Same.refl _) _ _ (fun a xs q=>by
   rcases q with q | ⟨hb,_⟩
   ·exact .inl q
   ·cases hb) (h3 P N)
 mt:=fun m x n h c g e=>by
  obtain⟨h1,h2,h3⟩:=I.mt m x n h c g e
  exact⟨h1,h2,h3⟩
 fs:=fun f x h c k e=>by
  obtain⟨h1,h2,h3,h4⟩:=I.fs f x h c k e
  exact⟨h1,h2,h3,h4⟩
 nw:=fun k x n h g e=>by
  obtain⟨h1⟩:=I.nw k x n h g e
  exact⟨h1⟩
 ck:=I.ck
 xk:=I.xk
 dc:=I.dc
def tHv (C:Ctx) (i n:Nat) (g:List Sl→RE (List ER)) (g':List Cm.D→RE ER):TS:=tAsg (fun σ H Q=>tA C g σ H fun vs H1=>spD C.G n g' vs H1 Q (fun cls d H'=>C.W cls d σ H')) (gName i)
theorem qtx {i f:Nat} {es:Exs} {st:Stmt} (I:XOk T Γ C X none sc) (h:qsv T sc i f es st=true):∀g,Γ.fn[f]? = some g→∃n,(∀ρ r,evs Γ es ρ=.ok r→r.length=n)∧PS X st (tHv C i n (evs Γ es) g.2):=fun g e=>by
 unfold qsv at h
 split at h
 case h_2=>cases h
 rename_i x pn y p xs q pos
 simp only[Bool.and_eq_true,decide_eq_true_eq] at h
 obtain⟨⟨⟨⟨⟨⟨h1,h2⟩,h3⟩,h4⟩,h5⟩,h6⟩,h7⟩:=h
 obtain⟨t1,t2⟩:=qmw I h2
 obtain⟨k,a,fd,ps,m,gf,F,hr,hm,hk,dv,dvs,dus,hb,hdv,hdm,hdr,hgf⟩:=I.fn f y xs.length h3 g e
 refine⟨xs.length,fun ρ r er=>qdb es ρ r xs h6 er,?_⟩
 exact ps_set I.nd (by rw[I.nm];exact h1) t1 (ql6 (C:=C) F hr (qbP I.sc h4) hm hk hb hdv hdm hdr hgf I.tk (qdv es I h6 h7) (qdl h5).1 (qfo h7) (fun z ρ=>qiz h6 z ρ)) rfl t2
def tIn (C:Ctx) (g:List Sl→Out) (u:TS):TS:=fun D σ H=>∃TT fx,tSk (C.hv TT fx) g u D σ H
theorem quG {i n:Nat} {es:Exs} {g':List Cm.D→RE ER} {rd:List Sl→Out} {cs:Ch} {f:List Sl→Out} {D:Ends} {σ:L2.St} {H:Hp} {u:TS} (hn:∀ρ r,evs Γ es ρ=.ok r→r.length=n)
  (q:tSk C (fun ρ=>(evs Γ es ρ).out fun r=>(g' (r.map ER.d)).out fun er=>match ql3 er with
   |some d=>gdO (Nat.blt i ρ.length) ((rd ((qkw 0 ρ).set i (.fxd d i))).hv ρ i d cs f)
   |none=>.bad) u D σ H):tHv C i n (evs Γ es) g' { D with nx:=tIn C rd (tCk C cs (tSk C f u)) D } σ H:=by
 obtain⟨ρ,P,N,S,o⟩:=q
 refine⟨ρ,P,N,S,(o.res S.reg).mono fun r P1 N1 H1 e1 a1 o1 vs rv=>?_⟩
 have S1:=S.adv a1
 refine qpC S1.reg rv (hn _ _ e1) ?_
 cases eg:g' (r.map ER.d) with
 |bad=>rw[eg] at o1;exact o1
 |exc c fs =>
  rw[eg] at o1
  exact fun d P' N' H' ad hx=>o1 σ d P' N' H' (S1.reg.adv ad) hx
 |ok er =>
  rw[eg] at o1
  simp only[RE.out_ok] at o1
  cases ed:ql3 er with
  |none=>rw[ed] at o1;exact o1.elim
  |some d =>
   rw[ed] at o1
   simp only[qbu] at o1
   split at o1
   case isFalse=>exact o1.elim
   rename_i hi
   have hi:i<σ.length:=by rw[S.len];exact Nat.blt_eq.mp hi
   refine⟨d,ed,fun v H' P' TT a rvT=>?_⟩
   refine⟨TT,_,_,P',N1,a.into S1 hi rvT,?_⟩
   cases er2:rd ((qkw 0 ρ).set i (.fxd d i)) with
   |bad=>rw[er2] at o1;exact o1.elim
   |brk _=>rw[er2] at o1;exact o1.elim
   |cnt _=>rw[er2] at o1;exact o1.elim
   |exc c fs =>
    rw[er2] at o1
    intro σ2 d2 P2 N2 H2 r2 x2
    refine o1 σ2 d2 P2 N2 H2 (a.regO S1.reg r2) ?_
    rcases x2 with x2 | ⟨dd,f2,v2,h1,h2,h3,h4⟩
    ·exact .inl x2
    ·exact .inr ⟨dd,f2,v2,h1,h2,h3,RepB.dn (C':=C.hv TT fun k=>((σ.set i (some v))[k]?).join) rfl (by simp) h4⟩
   |ret er3 =>
    rw[er2] at o1
    simp only[Out.hv] at o1
    cases en:ql3 er3 with
    |none=>rw[en] at o1;exact o1.elim
    |some d3 =>
     rw[en] at o1
     intro v2 P2 N2 H2 r2 x2
     refine o1 v2 P2 N2 H2 (a.regO S1.reg r2) ?_
     cases er3 with
     |brw _ _=>cases en
     |val d4 b4 =>
      simp only[ql3] at en
      split at en
      ·exact RepB.dn (C':=C.hv TT fun k=>((σ.set i (some v))[k]?).join) rfl (by assumption) x2
      ·cases en
     |fre d4 b4 =>
      simp only[ql3] at en
      split at en
      ·obtain⟨p,xs,rfl,h1,h2,h3,h4,h5⟩:=x2
       exact⟨p,xs,rfl,h1,(qhS h2).2,h3,h4,RepsB.dn (C':=C.hv TT fun k=>((σ.set i (some v))[k]?).join) rfl (by assumption) h5⟩
      ·cases en
   |nx ρ2 =>
    rw[er2] at o1
    simp only[Out.hv] at o1
    intro σ2 P2 N2 H2 S2 sp sn
    split at o1
    case h_2=>exact o1.elim
    rename_i d2 k2 e2
    simp only[qbu] at o1
    split at o1
    case isFalse=>exact o1.elim
    rename_i hk
    simp only[Bool.and_eq_true,beq_iff_eq,List.all_eq_true,Nat.blt_eq] at hk
    obtain⟨hk,htg⟩:=hk
    subst hk
    cases ec:chg cs [(k2,d)] ([],0) with
    |none=>rw[ec] at o1;exact o1.elim
    |some Z' =>
     rw[ec] at o1
     simp only at o1
     have R:=a.out S1 hi rvT S2 sp sn e2 cs.tgs
     exact⟨P2,N2,_,TT,_,_,Z',R,fun l hl=>qlv (by rw[qgw];exact htg l hl) hl,ec,fun σ3 P3 N3 H3 R3 s3 s4=>⟨_,P3,N3,R3.sr,o1.adv ((a1.pp.trans a.pp).trans (sp.trans s3)) (a1.nn.trans (sn.trans s4))⟩⟩
end
end Cm
namespace Cm
open PySem PySem.Spec PyProof.Rows L2
variable [HasT]
section
variable {G:Glo} {P:Hp} {T:TL}
mutual
theorem qsN {p:Addr} {ys:List V} (hp:T p=some ys):∀(d:D) (v:V) {N:Hp},(∀a xs,T a=some xs→a≠p→N a=some (.lst xs))→noK (clV ys) d=true→Rep G P (LT T) d v→Rep G P (fun a xs=>N a=some (.lst xs)) d v
 |.non,_,_,_,_,h=>h
 |.bl _,_,_,_,_,h=>h
 |.int _,_,_,_,_,h=>h
 |.str _,_,_,_,_,h=>h
 |.lst ds,v,N,hN,hk,⟨a,xs,e,h1,h2⟩=>by
  simp only[noK,Bool.and_eq_true,bne_iff_ne] at hk
  have h1:T a=some xs:=h1
  refine⟨a,xs,e,hN a xs h1 fun z=>hk.1 ?_,qig hp ds xs hN hk.2 h2⟩
  subst z
  rw[hp] at h1;cases h1
  exact(qe8 h2).symm
 |.tup ds,v,N,hN,hk,⟨a,xs,e,h1,h2⟩=>⟨a,xs,e,h1,qig hp ds xs hN hk h2⟩
 |.ins _ _,_,_,_,_,h=>h
 |.exc _ _,_,_,_,_,h=>h
theorem qig {p:Addr} {ys:List V} (hp:T p=some ys):∀(ds:List D) (vs:List V) {N:Hp},(∀a xs,T a=some xs→a≠p→N a=some (.lst xs))→qr4 (clV ys) ds=true→Reps G P (LT T) ds vs→Reps G P (fun a xs=>N a=some (.lst xs)) ds vs
 |[],_,_,_,_,h=>h
 |d::ds,vs,N,hN,hk,⟨v,r,e,h1,h2⟩=>by
  simp only[qr4,Bool.and_eq_true] at hk
  exact⟨v,r,e,qsN hp d v hN hk.1 h1,qig hp ds r hN hk.2 h2⟩
end
end
def NT (T:TL) (p:Addr) (N:Hp):Hp:=fun b=>if b=p then none else match T b with
 |some xs=>some (.lst xs)
 |none=>N b
section
variable {C:Ctx} {P N H P' H':Hp} {T:TL} {p:Addr} {ys:List V}
end
section
variable {T:Tb} {Γ:Env} {C:Ctx} {X:Cx} {sc:Scope}
end
end Cm
namespace Cm
open PySem PySem.Spec PyProof.Rows L2
variable [HasT]
def qxQ (p:Addr) (xs:List V):TL:=fun a=>if a=p then some xs else none
def offH (p:Addr) (H:Hp):Hp:=fun a=>if a=p then none else H a
theorem qdI {p a:Addr} {H:Hp} (h:a≠p):offH p H a=H a:=if_neg h
theorem qhv {P H:Hp} {p:Addr} (h:Cm.Same P H) (n:P p=none):Cm.Same P (offH p H):=⟨fun b u e m=>by
 rw[qdI (ne_of_none e n)];exact h.g0 _ _ e m,fun b e=>by
 by_cases z:b=p
 ·rw[z];exact n
 ·rw[qdI z] at e;exact h.free e⟩
section
variable {C:Ctx} {P N H:Hp} {ρ:List Sl} {σ:L2.St}
theorem SR.offH (S:SR C P N H ρ σ) {i:Nat} {ds:List D} {b:Bool} (e:ρ[i]? = some (.own ds b)) {p:Addr} {xs:List V} (eo:σ[i]? = some (some (.ref p))) (hp:H p=some (.lst xs)) (h1:P p=none) (h2:N p=none) (h3:C.B p=none):SR C P N (offH p H) (ρ.set i .non) σ:=by
 have D:=S.drop i
 have wn:∀(j:Nat) (dss:List (List Cm.D)) (u:Option V),(ρ.set i .non)[j]? = some (.row dss)→σ[j]? = some u→¬Held H (.row dss) u p:=fun j dss u ej eu hh=>by
  have q:i≠j:=fun z=>by
   subst z
   rw[List.getElem?_set_self (List.getElem?_eq_some_iff.mp e).1] at ej
   cases ej
  rw[List.getElem?_set_ne q] at ej
  exact q (S.ar.un j i dss _ u _ p ej e eu eo hh .own).symm
 refine⟨⟨qhv D.reg.pH h1,qhv D.reg.nH h2,qhv D.reg.bH h3,D.reg.rB,D.reg.p0,D.reg.pn,D.reg.nw,D.reg.dj,qqa hp D.reg.tb fun a ha=>qdI ha,D.reg.tf⟩,D.len,fun j s ej=>?_,D.ap,D.ad,D.ar.heap fun j dss q ej eq=>qdI fun z=>wn j dss _ ej eq (z ▸ .rt)⟩
 obtain⟨o,y1,y2⟩:=D.sl j s ej
 refine⟨o,y1,?_⟩
 cases s with
 |non=>trivial
 |val d b=>exact y2
 |fxd d k=>exact y2
 |own es c =>
  obtain⟨q,ys,rfl,g1,g2⟩:=y2
  refine⟨q,ys,rfl,?_,g2⟩
  have z:i≠j:=fun z=>by
   subst z
   rw[List.getElem?_set_self (List.getElem?_eq_some_iff.mp e).1] at ej
   cases ej
  rw[List.getElem?_set_ne z] at ej
  rw[qdI (p:=p) (a:=q) fun w=>z (S.ap i j p ds b es c e ej eo (by rw[←w];exact y1))]
  exact g1
 |slf c fs =>
  obtain⟨q,dx,ys,g0,g1,g2⟩:=y2
  exact⟨q,dx,ys,g0,by rw[qdI fun w=>by rw[w,hp] at g1;cases g1];exact g1,g2⟩
 |dct m c =>
  obtain⟨q,es,rfl,g1,g2⟩:=y2
  exact⟨q,es,rfl,by rw[qdI fun w=>by rw[w,hp] at g1;cases g1];exact g1,g2⟩
 |row dss =>
  obtain⟨q,ps,rfl,g1,g2,g3,g4,g5,g6⟩:=y2
  refine⟨q,ps,rfl,by rw[qdI (p:=p) (a:=q) fun w=>wn j dss _ ej y1 (by rw[←w];exact .rt)];exact g1,g2,g3,g4,RowR.sub g5 fun a ha es ⟨ys,k1,k2⟩=>⟨ys,?_,k2⟩,g6⟩
  rw[qdI (p:=p) (a:=a) fun w=>wn j dss _ ej y1 (by rw[←w];exact .it g1 ha)]
  exact k1
def qxB (i:Nat) (g:List Sl→Out) (ρ:List Sl):Out:=qbX ρ i fun ds _=>if D.flats ds=true then (g ((qkw 0 (ρ.set i .non)).set i (.fxd (.lst ds) i))).hd ρ i else .bad
end
end Cm
namespace Cm
open PySem PySem.Spec PyProof.Rows L2
variable [HasT]
section
variable {C:Ctx} {X:Cx}
theorem qkh {ss:List Stmt} {g:List Sl→Out} (h:PSs X (ss++[]) (tSk C g tNext)):PSs X ss (tS C g):=by rw[List.append_nil] at h;exact h
theorem qoX {g g':List Sl→Out} {u:TS} {D:Ends} {σ:L2.St} {H:Hp} (q:tSk C g u D σ H) (e:∀ρ,g ρ=g' ρ):tSk C g' u D σ H:=by
 have:g=g':=funext e
 rw[←this];exact q
theorem qtL {u:TS} {D:Ends} {σ:L2.St} {H:Hp} (q:tSk C (fun ρ=>Out.nx ρ) u D σ H):u D σ H:=by
 obtain⟨ρ,P,N,S,o⟩:=q
 exact o σ P N H S (Cm.Same.refl _) (Cm.Same.refl _)
theorem qr0 {g g':List Sl→Out} {u:TS} {D:Ends} {σ:L2.St} {H:Hp} (q:tSk C (fun ρ=>(g ρ).seq g') u D σ H):tSeq (tS C g) (tSk C g' u) D σ H:=by
 obtain⟨ρ,P,N,S,h⟩:=q
 refine⟨ρ,P,N,S,?_⟩
 show outS C P N { D with nx:=tSk C g' u D } (g ρ)
 cases e:g ρ with
 |nx ρ'=>simp only[e,Out.seq_nx] at h;exact fun σ P' N' H' S e1 e2=>⟨ρ',P',N',S,h.adv e1 e2⟩
 |bad=>simp only[e] at h;exact h
 |brk ρ'=>simp only[e] at h;exact h
 |cnt ρ'=>simp only[e] at h;exact h
 |ret er=>simp only[e] at h;exact h
 |exc c fs=>simp only[e] at h;exact h
theorem quo {i:Nat} {g:List Sl→Out} {u:TS} {D:Ends} {σ:L2.St} {H:Hp} (q:tSk C (fun ρ=>qbX ρ i fun ds b=>g (ρ.set i (.val (.lst ds) b))) u D σ H):tSk C g u D σ H:=qrr (D:={ D with nx:=u D }) q
end
theorem qqv {T:Tb} {Γ:Env} {C:Ctx} {X:Cx} {sc:Scope} (I:XOk T Γ C X none sc):∀(es:Exs) {xs:List Expr},qbh T es none sc xs=true→xs.all qag=true→PA X xs (tF C (evF Γ es))
 |.nil,xs,h,_=>by
  unfold qbh at h
  cases xs with
  |nil=>exact qfG qsG fun σ H Q q=>q
  |cons _ _=>cases h
 |.cons e es,xs,h,hs=>by
  unfold qbh at h
  cases xs with
  |nil=>cases h
  |cons x xs =>
   simp only[Bool.and_eq_true,List.all_cons] at h hs
   have:=qo8 (qae e I h.1).1 (qqv I es h.2 hs.2) (qac hs.1)
   exact qfG this fun σ H Q q=>by
    obtain⟨ρ,P,N,S,k⟩:=q
    exact⟨ρ,P,N,S,by rw[evF] at k;exact k⟩
mutual
theorem qtU {T:Tb} {Γ:Env} {C:Ctx} {X:Cx} {sc:Scope} (I:XOk T Γ C X none sc) (hp:PassesOwn (model X.prog X.w) X.A X.env X.xe) (hF:FrOk X):∀(ir:Sm) {s:Stmt},qgv T sc ir s=true→PS X s (tS C (run Γ ir))
 |.nev,s,h=>qch qoc fun ρ=>by rw[run]
 |.rse k,s,h=>by
  unfold qgv at h
  split at h
  case h_2=>cases h
  simp only[Bool.and_eq_true,decide_eq_true_eq] at h
  obtain⟨⟨h1,h2⟩,h3⟩:=h
  cases q:Γ.xk[k]? with
  |none=>exact qch qoc fun ρ=>by rw[run,q]
  |some c=>exact qch (qst I.K I.calm I.tk (qbP I.sc h2) (qdl h3).1 (I.xk k _ h1 c q)) fun ρ=>by rw[run,q]
 |.tryx k i j b,s,h=>by
  unfold qgv at h
  split at h
  case h_2=>cases h
  simp only[Bool.and_eq_true,decide_eq_true_eq] at h
  obtain⟨⟨⟨⟨⟨⟨⟨⟨⟨⟨h1,h2⟩,h3⟩,h4⟩,h5⟩,rfl⟩,h7⟩,h8⟩,h9⟩,h10⟩,h11⟩:=h
  cases q:T.ck[k]? with
  |none=>rw[q] at h1;cases h1
  |some t =>
   obtain⟨x,own⟩:=t
   rw[q] at h1
   cases h1
   exact qch (qrw I.K hF.st hF.fr hF.ex I.nd (by rw[I.nm];exact h4) (by rw[I.nm];exact h5) (by unfold Env.kindOf;rw[I.sc];exact h7) (by unfold Env.kindOf;rw[I.sc];exact h8) (qdl h9) (qbP I.sc h2) (I.blt _ (by decide)) (qdl h3).1 (I.ck k x own q) I.tk h10 (fun W pn xe tk _=>qk0 b (I.tr tk) h11)) fun ρ=>by rw[run]
 |.asg i e,s,h=>by
  unfold qgv at h
  split at h
  case h_2=>cases h
  simp only[Bool.and_eq_true,decide_eq_true_eq] at h
  obtain⟨⟨⟨h1,h2⟩,h3⟩,h4⟩:=h
  exact qch (qao (qkX I h1 h2 h3 h4) fun D σ H q=>qso q) fun ρ=>by rw[run]
 |.own i e,s,h=>by
  unfold qgv at h
  split at h
  case h_2=>cases h
  simp only[Bool.and_eq_true,decide_eq_true_eq] at h
  obtain⟨⟨⟨h1,h2⟩,h3⟩,h4⟩:=h
  exact qch (qao (qkX I h1 h2 h3 h4) fun D σ H q=>qrs q) fun ρ=>by rw[run]<;>rfl
 |.asgT tg e,s,h=>by
  unfold qgv at h
  split at h
  case h_2=>cases h
  simp only[Bool.and_eq_true] at h
  obtain⟨⟨⟨h1,h2⟩,h3⟩,h5⟩:=h
  exact qch (qpS (qae e I h3).1 (qep I h1) (qp9 h2) (qn9 h5) (qqW h2)) fun ρ=>by rw[run]<;>rfl
 |.put i ix e,s,h=>by
  unfold qgv at h
  split at h
  case h_2=>cases h
  simp only[Bool.and_eq_true,decide_eq_true_eq] at h
  obtain⟨⟨⟨⟨⟨h1,h2⟩,h3⟩,h4⟩,h5⟩,h6⟩:=h
  obtain⟨n1,n2⟩:=qdl h3
  refine qch (qao (ps_asg (qae e I h6).1 (pg_sub (pe_var (i:=i) (by rw[I.nm];exact h1) (qd6 I.sc h2) n1 n2) (qae ix I h5).1 set_list (qob h4)) qlO qh2 rfl) fun D σ H q=>qse q) fun ρ=>by rw[run]<;>rfl
 |.app i e,s,h=>by
  unfold qgv at h
  split at h
  case h_2=>cases h
  simp only[Bool.and_eq_true,decide_eq_true_eq] at h
  obtain⟨⟨⟨⟨⟨⟨h1,h2⟩,h3⟩,rfl⟩,h5⟩,h6⟩,h7⟩:=h
  obtain⟨n1,n2⟩:=qdl h3
  refine qch (qao (ps_expr (pe_bm PySem.F.plainAttrs_list PySem.F.slot_list_append PySem.F.type_list_append mt_append (pe_var (i:=i) (by rw[I.nm];exact h1) (qd6 I.sc h2) n1 n2) (pa_cons (qae e I h5).1 pa_nil (qac h6)) rfl (qiw h6) h7 (qac h6) rfl) rfl) fun D σ H q=>qss q) fun ρ=>by rw[run]
 |.clr i,s,h=>by
  unfold qgv at h
  split at h
  case h_2=>cases h
  simp only[Bool.and_eq_true,decide_eq_true_eq] at h
  obtain⟨⟨⟨⟨h1,h2⟩,h3⟩,rfl⟩,h7⟩:=h
  obtain⟨n1,n2⟩:=qdl h3
  refine qch (qao (ps_expr (pe_bm0 PySem.F.plainAttrs_list PySem.F.slot_list_clear PySem.F.type_list_clear mt_clear (pe_var (i:=i) (by rw[I.nm];exact h1) (qd6 I.sc h2) n1 n2) rfl h7) rfl) fun D σ H q=>qrI q) fun ρ=>by rw[run]
 |.expr e,s,h=>by
  unfold qgv at h
  split at h
  case h_2=>cases h
  simp only[Bool.and_eq_true] at h
  exact qch (qqb (qae e I h.1).1 (qgG h.2)) fun ρ=>by rw[run]
 |.ret e,s,h=>by
  unfold qgv at h
  split at h
  case h_2=>cases h
  exact qch (qrG (qae e I h).1) fun ρ=>by rw[run]
 |.retN,s,h=>by
  unfold qgv at h
  split at h
  case h_2=>cases h
  exact qch qo1 fun ρ=>by rw[run]
 |.pas,s,h=>by
  unfold qgv at h
  split at h
  ·exact qch qpn fun ρ=>by rw[run]
  ·exact qch qr5 fun ρ=>by rw[run]
  ·cases h
 |.brk,s,h=>by
  unfold qgv at h
  split at h
  case h_2=>cases h
  exact qch qrd fun ρ=>by rw[run]
 |.cnt,s,h=>by
  unfold qgv at h
  split at h
  case h_2=>cases h
  exact qch qsC fun ρ=>by rw[run]
 |.iff c a b,s,h=>by
  unfold qgv at h
  split at h
  case h_2=>cases h
  simp only[Bool.and_eq_true] at h
  exact qch (qr3 (qg9 c I h.1.1) (qkh (qdx I hp hF a h.1.2 pss_nil)) (qkh (qdx I hp hF b h.2 pss_nil))) fun ρ=>by rw[run]
 |.for it tg b,s,h=>by
  unfold qgv at h
  split at h
  case h_2=>cases h
  simp only[Bool.and_eq_true] at h
  obtain⟨⟨⟨h1,h2⟩,h3⟩,h4⟩:=h
  exact qch (qao (ps_for hp I.calm (qjn it I h1) (qep I h2) (qkh (qdx I hp hF b h3 pss_nil)) (qfJ h4)) fun D σ H q=>qsg q) fun ρ=>by rw[run]<;>rfl
 |.apop i j ix,s,h=>by
  unfold qgv at h
  split at h
  case h_2=>cases h
  simp only[Bool.and_eq_true,decide_eq_true_eq] at h
  obtain⟨⟨⟨⟨⟨⟨⟨⟨⟨⟨⟨h1,h2⟩,h3⟩,rfl⟩,h4⟩,g1⟩,g2⟩,g3⟩,rfl⟩,g4⟩,h5⟩,h6⟩:=h
  obtain⟨n1,n2⟩:=qdl h3
  obtain⟨m1,m2⟩:=qdl g3
  refine qch (qao (ps_expr (pe_bm PySem.F.plainAttrs_list PySem.F.slot_list_append PySem.F.type_list_append mt_append (pe_var (i:=i) (by rw[I.nm];exact h1) (qd6 I.sc h2) n1 n2) (pa_cons (pe_bm PySem.F.plainAttrs_list PySem.F.slot_list_pop PySem.F.type_list_pop mt_popAt (pe_var (i:=j) (by rw[I.nm];exact g1) (qd6 I.sc g2) m1 m2) (pa_cons (qae ix I h5).1 pa_nil (qac h6)) rfl (qiw h6) g4 (qac h6) rfl) pa_nil rfl) rfl rfl h4 rfl rfl) rfl) fun D σ H q=>qpM q) fun ρ=>by rw[run]<;>rfl
 |.ins i ix e,s,h=>by
  unfold qgv at h
  split at h
  case h_2=>cases h
  simp only[Bool.and_eq_true,decide_eq_true_eq] at h
  obtain⟨⟨⟨⟨⟨⟨⟨⟨h1,h2⟩,h3⟩,rfl⟩,h5⟩,h6⟩,h8⟩,h9⟩,h7⟩:=h
  obtain⟨n1,n2⟩:=qdl h3
  refine qch (qao (ps_expr (pe_bm PySem.F.plainAttrs_list PySem.F.slot_list_insert PySem.F.type_list_insert mt_insert (pe_var (i:=i) (by rw[I.nm];exact h1) (qd6 I.sc h2) n1 n2) (pa_cons (qae ix I h5).1 (pa_cons (qae e I h8).1 pa_nil (qac h9)) (qac h6)) rfl (qsf h6 h9) h7 (qac h6) (qqU h9)) rfl) fun D σ H q=>qsH q) fun ρ=>by rw[run]<;>rfl
 |.popx i e,s,h=>by
  unfold qgv at h
  split at h
  case h_2=>cases h
  simp only[Bool.and_eq_true,decide_eq_true_eq] at h
  obtain⟨⟨⟨⟨⟨⟨h1,h2⟩,h3⟩,rfl⟩,h5⟩,h6⟩,h7⟩:=h
  obtain⟨n1,n2⟩:=qdl h3
  refine qch (qao (ps_expr (pe_bm PySem.F.plainAttrs_list PySem.F.slot_list_pop PySem.F.type_list_pop mt_popAt (pe_var (i:=i) (by rw[I.nm];exact h1) (qd6 I.sc h2) n1 n2) (pa_cons (qae e I h5).1 pa_nil (qac h6)) rfl (qiw h6) h7 (qac h6) rfl) rfl) fun D σ H q=>qpu q) fun ρ=>by rw[run]<;>rfl
 |.fset f e,s,h=>by
  unfold qgv at h
  split at h
  case h_2=>cases h
  rename_i x p fn p' v pos
  simp only[Bool.and_eq_true,decide_eq_true_eq] at h
  obtain⟨⟨⟨⟨h1,h2⟩,h3⟩,h4⟩,h5⟩:=h
  obtain⟨n1,n2⟩:=qdl h3
  refine qch (qao (ps_fld (pe_var (i:=0) (by rw[I.nm];exact h1) (qd6 I.sc h2) n1 n2) (qae e I h5).1 (by cases v<;>rfl)) fun D σ H q=>qp2 (fi:=fun c=>Γ.fi c f) (fun c k e=>I.fs f fn h4 c k e) q) fun ρ=>by rw[run]<;>rfl
 |.row i es,s,h=>by
  unfold qgv at h
  split at h
  case h_2=>cases h
  simp only[Bool.and_eq_true,decide_eq_true_eq] at h
  obtain⟨⟨⟨h1,h2⟩,h3⟩,h4⟩:=h
  obtain⟨t1,t2⟩:=qmw I h2
  exact qch (qao (ps_asg (pe_lst (qqv I es h3 h4)) (pg_name I.nd (by rw[I.nm];exact h1) t1 t2)) fun D σ H q=>qsB q) fun ρ=>by rw[run]
 |.whl c b,s,h=>by
  unfold qgv at h
  split at h
  case h_2=>cases h
  simp only[Bool.and_eq_true] at h
  exact qch (qao (ps_while hp (qg9 c I h.1) (qkh (qdx I hp hF b h.2 pss_nil))) fun D σ H q=>qq0 q) fun ρ=>by rw[run]
theorem qdx {T:Tb} {Γ:Env} {C:Ctx} {X:Cx} {sc:Scope} (I:XOk T Γ C X none sc) (hp:PassesOwn (model X.prog X.w) X.A X.env X.xe) (hF:FrOk X):∀(ir:Sms) {ss rest:List Stmt} {u:TS},qar T sc ir ss=true→PSs X rest u→PSs X (ss++rest) (tSk C (qak Γ ir) u)
 |.nil,ss,rest,u,h,hr=>by
  unfold qar at h
  cases ss with
  |nil=>exact qbc hr fun D σ H q=>qtL (qoX q fun ρ=>by rw[qak])
  |cons _ _=>cases h
 |.cons s ir,ss,rest,u,h,hr=>by
  unfold qar at h
  cases ss with
  |nil=>cases h
  |cons st ss =>
   simp only[Bool.and_eq_true] at h
   refine qbc (pss_cons (qtU I hp hF s h.1) (qdx I hp hF ir h.2 hr)) fun D σ H q=>qr0 (qoX q fun ρ=>by rw[qak])
 |.frz i ir,ss,rest,u,h,hr=>by
  unfold qar at h
  refine qbc (qdx I hp hF ir h hr) fun D σ H q=>quo (i:=i) (qoX q fun ρ=>by rw[qak])
 |.hav i f es rd cs ir,ss,rest,u,h,hr=>by
  unfold qar at h
  cases ss with
  |nil=>cases h
  |cons st ss =>
   simp only[Bool.and_eq_true] at h
   obtain⟨⟨⟨h1,h2⟩,h3⟩,h4⟩:=h
   cases e:Γ.fn[f]? with
   |none =>
    refine qbc pss_never fun D σ H q=>?_
    obtain⟨ρ,P,N,S,o⟩:=q
    rw[qak,e] at o
    exact o.elim
   |some g =>
    obtain⟨n,hn,hs⟩:=qtx I h1 g e
    have in_:PSs X (ss++rest) (tIn C (qak Γ rd) (tCk C cs (tSk C (qak Γ ir) u))):=by
     have e1:ss++rest=ss.take rd.len++((ss.drop rd.len).take cs.len++((ss.drop rd.len).drop cs.len++rest)):=by
      rw[←List.append_assoc ((ss.drop rd.len).take cs.len),List.take_append_drop,←List.append_assoc,List.take_append_drop]
     rw[e1]
     have k:=qeS (C:=C) I hp cs h3 (qdx I hp hF ir h4 hr)
     exact⟨fun pins s σ H D I' q=>by
      obtain⟨TT,fx,q⟩:=q
      exact(qdx (I.hv (TT:=TT) (fx:=fx)) hp hF rd h2 k).run pins s σ H D I' q⟩
    refine qbc (pss_cons hs in_) fun D σ H q=>quG hn (qoX q fun ρ=>by rw[qak,e]<;>rfl)
end
theorem qoL {T:Tb} {Γ:Env} {C:Ctx} {X:Cx} {sc:Scope} (I:XOk T Γ C X none sc) (hp:PassesOwn (model X.prog X.w) X.A X.env X.xe) (hF:FrOk X) (ir:Sms) {ss:List Stmt} (h:qar T sc ir ss=true):PSs X ss (tS C (qak Γ ir)):=qkh (qdx I hp hF ir h pss_nil)
end Cm
namespace Cm
open PySem PySem.Spec PyProof.Rows L2
variable [HasT]
structure TabOk (P:Program) (w:World) (K:PySem.W.Frag) (mg:Str→Option Value) (base:Heap) (T:Tb) (Γ:Env) (G:Glo) (k:Nat):Prop where
 blt:∀x∈bltNames,mg x=none
 fn:∀(f:Nat) (x:Str) (n:Nat),T.fn[f]? = some (x,n)→∀g,Γ.fn[f]? = some g→∃(j:Nat) (a:Addr) (fd:FuncData) (ps:List Str) (m:Nat) (gf:List D→RE ER),j≤k∧FnOk P w K mg base (L2.CX P w) j a fd ps (spD G (n+m) gf)∧mg x=some (.ref a)∧PySem.W.keepIn K (.ref a)=true∧Part K G fd ps n m g.2 gf
 gc:∀(i:Nat) (x:Str),T.gc[i]? = some x→∀c,Γ.gc[i]? = some c→∃u v,mg x=some u∧RelV v u∧(∀(P N R:Hp),Rep G P (LNb G.K P N R true) c.2 v)∧WrT G v
 mt:∀(m:Nat) (x:Str) (n:Nat),T.mn[m]? = some (x,n)→∀c g,Γ.mt c m=some g→Cls K (G.ca c)∧x∉G.fl c∧∃(j:Nat) (a:Addr) (fd:FuncData) (ps:List Str),j≤k∧Meth K (G.ca c) x a∧FnOk P w K mg base (L2.CX P w) j a fd ps (spD G (n+1) g)∧Binds K fd ps []
 fs:∀(f:Nat) (x:Str),T.fs[f]? = some x→∀c i,Γ.fi c f=some i→Cls K (G.ca c)∧NoAttr K (G.ca c) x∧(G.fl c)[i]? = some x∧(G.fl c).Nodup
 nw:∀(i:Nat) (x:Str) (n:Nat),T.nw[i]? = some (x,n)→∀g,Γ.nw[i]? = some g→(∃(j:Nat) (a:Addr) (fd:FuncData) (ps:List Str),j+1≤k∧Mk K (G.ca g.1) a∧FnOk P w K mg base (L2.CX P w) j a fd ps (spI G g.1 n g.2)∧mg x=some (.ref (G.ca g.1))∧Binds K fd ps []) ∨
  (n=0∧g.2 []=.ok []∧Mk0 K (G.ca g.1)∧G.fl g.1=[]∧mg x=some (.ref (G.ca g.1)))
 ck:∀(i:Nat) (x:Str) (own:Bool),T.ck[i]? = some (x,own)→CkOk G K mg x own Γ.ck[i]? Γ.ik[i]?
 xk:∀(i:Nat) (x:Str),T.xk[i]? = some x→∀c,Γ.xk[i]? = some c→RsOk K mg (G.ca c) x
 dc:∀(i:Nat) (x:Str),T.dc[i]? = some x→∀t,Γ.dc[i]? = some t→quR G K w mg x t.2
 fo:∀(f:Nat) (x:Str) (n:Nat),T.fo[f]? = some (x,n)→∀g,Γ.fo[f]? = some g→∃(j:Nat) (a:Addr) (fd:FuncData) (ps:List Str),j≤k∧FnOk P w K mg base (L2.CX P w) j a fd ps (spO G n g.1 g.2)∧mg x=some (.ref a)∧PySem.W.keepIn K (.ref a)=true∧Binds K fd ps []
def LmOk (K:PySem.W.Frag) (base:Heap) (mg:Str→Option Value) (lm:Option (Addr × Addr)) (f:Addr) (qual:Str):Prop:=∀c P,lm=some (c,P)→(∀o fd,K.lookup f=some o→o.data=.func fd→fd.code=.ref c)∧LamX.TabB base mg c P ∧
 (P,(qual ++ ".<locals>.") ++ "<lambda>")∈HasT.T∧∀p∈HasT.T,p.1=P→p.2=(qual ++ ".<locals>.") ++ "<lambda>"
theorem LmOk.no {K:PySem.W.Frag} {base:Heap} {mg:Str→Option Value} {lm:Option (Addr × Addr)} {f:Addr} {qual:Str} (h:lm=none):LmOk K base mg lm f qual:=fun c P e=>by rw[h] at e;cases e
theorem qp8 {P:Program} {w:World} {K:PySem.W.Frag} {mg:Str→Option Value} {base:Heap} {x qual:Str} {params:Arguments} {body:List Stmt} {scope:Scope} {dvs:List V} {kws:List (Str × V)} {f:Addr} {fd:FuncData} {CX:CXT} {N ps:List Str} {k:Nat} {sp:Sp} (F:FunD K x qual params body scope dvs kws f fd) (S:FnScope N ps scope) (len:∀vs H Q E,sp vs H Q E→vs.length=ps.length)
  (hbody:∀(cdv:Value),(∃o fd',K.lookup f=some o∧o.data=.func fd'∧fd'.code=cdv)→∀(A:Around) (outer:List PySem.Env) (s:Shared) (H:Hp) (vs:List V) (Q:VK) (E:XK),Room k (A.deeper (envOfC qual scope s.heap.objs.size f cdv))→sp vs H Q E →
   ∃t,PSs (cxOf CX P w K mg base N qual scope f cdv A outer s H E) body t∧t { nx:=fun _ H'=>Q .non H',rt:=Q } (L2.start N vs) H):FnOk P w K mg base CX (k+1) f fd ps sp:=by
 obtain⟨oc,od,dV,kV,doc,pm,an,cdv,ct,osl,rfl,lk,hcd,_,_⟩:=F.ex
 exact fn_of lk hcd S len fun A outer s H vs Q E hr hsp=>hbody cdv ⟨_,_,lk,rfl,rfl⟩ A outer s H vs Q E hr hsp
theorem qlG {G:Glo} {P N R:Hp}:∀{ds:List D} {vs:List V},Reps G P (SqL G.K R) ds vs→Reps G P (LNb G.K P N R false) ds vs:=fun {ds vs} h=>Reps.mono (Cm.Same.refl _) ds vs LNb.ofR h
theorem qp7 {C:Ctx} {ds:List D} {vs:List V} {N:List Str} {m:Nat} (hp:Same C.P0 C.B) (hr:Same C.R C.B∧qgm C.B∧TF C.P0∧TF C.R) (h:Reps C.G C.P0 (SqL C.G.K C.R) ds vs) (hm:N.length=ds.length+m) :
  SR C C.P0 (fun _=>none) C.B (ds.map (fun d=>Sl.val d d.flat)++List.replicate m .non) (L2.start N vs) where
 reg:=⟨hp,Same.nil,Cm.Same.refl _,hr.1,Cm.Same.refl _,fun _ e=>.inl e,fun _ e=>absurd rfl e,fun _ e=>absurd rfl e,hr.2.1,⟨hr.2.2.1,TF.nil,hr.2.2.2⟩⟩
 len:=by
  have:=h.length
  simp only[L2.start,List.length_append,List.length_map,List.length_replicate]
  try omega
 sl:=fun i s e=>by
  have hl:=h.length
  by_cases hi:i<ds.length
  ·rw[List.getElem?_append_left (by simpa using hi),List.getElem?_map,List.getElem?_eq_getElem hi] at e
   cases e
   obtain⟨v,q1,q2⟩:=(qlG (N:=fun _=>none) h).get (List.getElem?_eq_getElem hi)
   refine⟨some v,?_,v,rfl,RepB.nf (C:=C) q2⟩
   unfold L2.start
   rw[List.getElem?_append_left (by simp;omega),List.getElem?_map,q1]
   rfl
  ·rw[List.getElem?_append_right (by simpa using hi),List.getElem?_replicate] at e
   split at e
   ·rename_i hm'
    cases e
    refine⟨none,?_,trivial⟩
    unfold L2.start
    simp only[List.length_map] at hm'
    rw[List.getElem?_append_right (by simp;omega),List.getElem?_replicate,if_pos]
    simp only[List.length_map]
    omega
   ·cases e
 ap:=fun i j p es b es' c e1 _ _ _=>by
  exfalso
  have:=List.mem_of_getElem? e1
  rcases List.mem_append.mp this with z | z
  ·obtain⟨_,_,z⟩:=List.mem_map.mp z;cases z
  ·have:=List.eq_of_mem_replicate z;cases this
 ad:=AD.no fun i s e=>by
  rcases List.mem_append.mp (List.mem_of_getElem? e) with z | z
  ·obtain⟨_,_,rfl⟩:=List.mem_map.mp z;rfl
  ·rw[List.eq_of_mem_replicate z];rfl
 ar:=AR.no fun i s e=>by
  rcases List.mem_append.mp (List.mem_of_getElem? e) with z | z
  ·obtain⟨_,_,rfl⟩:=List.mem_map.mp z;rfl
  ·rw[List.eq_of_mem_replicate z];rfl
theorem qsw {P:Program} {w:World} {K:PySem.W.Frag} {mg:Str→Option Value} {base:Heap} {x qual:Str} {params:Arguments} {body:List Stmt} {scope:Scope} {dvs:List V} {kws:List (Str × V)} {f:Addr} {fd:FuncData} {T:Tb} {Γ:Env} {G:Glo} {k m:Nat} {ps:List Str} {ir:Sms}
  (F:FunD K x qual params body scope dvs kws f fd) (S:FnScope T.N ps scope) (hG:G.K=K) (tab:TabOk P w K mg base T Γ G k) (hm:T.N.length=ps.length+m) (hc:qar T scope ir body=true) (hlm:LmOk K base mg T.lm f qual) :
  FnOk P w K mg base (L2.CX P w) (k+1) f fd ps (spD G ps.length (qc7 Γ ps.length m ir)):=by
 refine qp8 F S (fun vs H Q E h=>qrO h) (fun cdv hcd A outer s H vs Q E hr h=>?_)
 obtain⟨Pr,R,ds,h1,h2,h3,h4,h5⟩:=h
 let C:Ctx:=⟨G,R,H,Pr,fun cls d _ H'=>E cls d H',0,fun _=>none⟩
 have I:XOk T Γ C (cxOf (L2.CX P w) P w K mg base T.N qual scope f cdv A outer s H E) none scope:={
  nm:=rfl
  nd:=S.nd
  sc:=rfl
  K:=hG.symm
  tk:=takes_of rfl rfl rfl rfl
  fr:=fun _=>⟨rfl,rfl,rfl⟩
  lam:=fun _ c P e=>by
   obtain⟨a1,a2,a3,a4⟩:=hlm c P e
   obtain⟨o,fd',b1,b2,b3⟩:=hcd
   exact⟨b3.symm.trans (a1 o fd' b1 b2),a2,a3,a4,hr.depth⟩
  fo:=fun i y n e g eg=>by
   obtain⟨j,a,fd',ps',hj,q1,q2,q3,q4⟩:=tab.fo i y n e g eg
   exact⟨j,a,fd',ps',q1,hr.mono hj,q2,q3,q4⟩
  calm:=rfl
  un:=by
   have h:=hr.un
   have e:(cxOf (L2.CX P w) P w K mg base T.N qual scope f cdv A outer s H E).A=A.deeper (envOfC qual scope s.heap.objs.size f cdv):=rfl
   rw[e]
   omega
  blt:=tab.blt
  fnc:=rfl
  fn:=fun i y n e g eg=>by
   obtain⟨j,a,fd',ps',m',gf,hj,q1,q2,q3,q4⟩:=tab.fn i y n e g eg
   exact⟨j,a,fd',ps',m',gf,q1,hr.mono hj,q2,q3,q4⟩
  gc:=fun i y e c ec=>by
   obtain⟨u,v,q1,q2,q3,q4⟩:=tab.gc i y e c ec
   exact⟨u,v,q1,q2,fun P N=>q3 P N R,q4⟩
  mt:=fun i y n e c g eg=>by
   obtain⟨q0,q1,j,a,fd',ps',hj,q2,q3,q4⟩:=tab.mt i y n e c g eg
   exact⟨q0,q1,j,a,fd',ps',q2,q3,hr.mono hj,q4⟩
  fs:=fun i y e c j ej=>by
   obtain⟨q0,q1,q2,q3⟩:=tab.fs i y e c j ej
   exact⟨q0,q1,q2,q3⟩
  nw:=fun i y n e g eg=>by
   rcases tab.nw i y n e g eg with⟨j,a,fd',ps',hj,q1,q2,q3,q4⟩ | q
   ·exact⟨.inl ⟨j,a,fd',ps',q1,q2,hr.mono hj,q3,q4⟩⟩
   ·exact⟨.inr q⟩
  ck:=tab.ck
  xk:=tab.xk
  dc:=tab.dc }
 have hp:PassesOwn (model (cxOf (L2.CX P w) P w K mg base T.N qual scope f cdv A outer s H E).prog (cxOf (L2.CX P w) P w K mg base T.N qual scope f cdv A outer s H E).w) (cxOf (L2.CX P w) P w K mg base T.N qual scope f cdv A outer s H E).A (cxOf (L2.CX P w) P w K mg base T.N qual scope f cdv A outer s H E).env (cxOf (L2.CX P w) P w K mg base T.N qual scope f cdv A outer s H E).xe:=
  passes_of (K:=fun e s''=>L2.CX P w outer H s E e s'') rfl
 refine⟨tS C (qak Γ ir),qoL I hp ⟨rfl,rfl,rfl⟩ ir hc,ds.map (fun d=>Sl.val d d.flat)++List.replicate m .non,Pr,fun _=>none,qp7 (C:=C) h1 h2 h3 (by rw[hm,h4]),?_⟩
 unfold qc7 at h5
 rw[if_pos h4] at h5
 have adv:∀{P' N' H':Hp},Reg C P' N' H'→Adv Pr (fun _=>none) H P' N' H':=fun {P' N' H'} r=>⟨⟨r.bH,fun _=>r.tb⟩,r.p0,Same.nil,r.pH,r.nH,r.pn,fun a q=>.inr (r.nw a q),fun a q q2=>absurd (r.dj a q) q2,fun _=>r.tf.1,fun _=>r.tf.2.1⟩
 cases e:qak Γ ir (ds.map (fun d=>Sl.val d d.flat)++List.replicate m .non) with
 |bad=>rw[e] at h5;exact h5.elim
 |brk ρ=>rw[e] at h5;exact h5.elim
 |cnt ρ=>rw[e] at h5;exact h5.elim
 |nx ρ=>rw[e] at h5;exact fun σ P' N' H' S' _ _=>h5 .non H' P' N' (adv S'.reg) rfl
 |ret er =>
  rw[e] at h5
  intro v P' N' H' r q
  exact h5 v H' P' N' (adv r) (by cases er<;>exact q)
 |exc c fs =>
  rw[e] at h5
  intro σ d P' N' H' r q
  exact h5 d H' P' N' (adv r) q
theorem qtA {C:Ctx} {P N P2:Hp} (hp:Same P P2) (hn:Same N P2) {ds:List D} {vs:List V} (h:RepsB C P N true ds vs):Reps C.G P2 (SqL C.G.K P2) ds vs:=Reps.mono hp ds vs (fun a xs q=>by
 rcases q with q | ⟨z,_⟩
 ·exact .inl (.inl (hn _ _ q))
 ·cases z) h
theorem qu3 {P:Program} {w:World} {K:PySem.W.Frag} {mg:Str→Option Value} {base:Heap} {x qual:Str} {params:Arguments} {body:List Stmt} {scope:Scope} {dvs:List V} {kws:List (Str × V)} {f:Addr} {fd:FuncData} {T:Tb} {Γ:Env} {G:Glo} {k m n c nf:Nat} {ps:List Str} {ir:Sms}
  (F:FunD K x qual params body scope dvs kws f fd) (S:FnScope T.N ps scope) (hG:G.K=K) (tab:TabOk P w K mg base T Γ G k) (hm:T.N.length=ps.length+m) (hn:ps.length=n+1) (hc:qar T scope ir body=true) (hlm:T.lm=none) (hf:(G.fl c).length=nf) :
  FnOk P w K mg base (L2.CX P w) (k+1) f fd ps (spI G c n (qmy Γ c nf n m ir)):=by
 refine F.ok S (fun vs H Q E h=>by rw[qsI h,hn]) (fun cdv A outer s H vs Q E hr h=>?_)
 obtain⟨x0,dx,H0,Pr,R,ds,us,rfl,rfl,hx,hdx,h1,h2,h3,h4,h5⟩:=h
 let C:Ctx:=⟨G,R,H0,Pr,fun cls d _ H'=>E cls d H',x0,fun _=>none⟩
 generalize eH:upd (upd H0 dx (.own x0)) x0 (.ins (G.ca c) dx [])=H at hr ⊢
 have H0x:HX H0 H:=HX.of fun a o e=>by
  rw[←eH,upd_ne (ne_of_none e hx),upd_ne (ne_of_none e hdx)]
  exact e
 have Hx:H x0=some (.ins (C.G.ca c) dx []):=by rw[←eH];exact upd_same
 have I:XOk T Γ C (cxOf (L2.CX P w) P w K mg base T.N qual scope f cdv A outer s H E) none scope:={
  nm:=rfl
  nd:=S.nd
  sc:=rfl
  K:=hG.symm
  tk:=takes_of rfl rfl rfl rfl
  fr:=fun _=>⟨rfl,rfl,rfl⟩
  lam:=fun _ c P e=>by rw[hlm] at e;cases e
  fo:=fun i y n e g eg=>by
   obtain⟨j,a,fd',ps',hj,q1,q2,q3,q4⟩:=tab.fo i y n e g eg
   exact⟨j,a,fd',ps',q1,hr.mono hj,q2,q3,q4⟩
  calm:=rfl
  un:=by
   have h:=hr.un
   have e:(cxOf (L2.CX P w) P w K mg base T.N qual scope f cdv A outer s H E).A=A.deeper (envOfC qual scope s.heap.objs.size f cdv):=rfl
   rw[e]
   omega
  blt:=tab.blt
  fnc:=rfl
  fn:=fun i y n e g eg=>by
   obtain⟨j,a,fd',ps',m',gf,hj,q1,q2,q3,q4⟩:=tab.fn i y n e g eg
   exact⟨j,a,fd',ps',m',gf,q1,hr.mono hj,q2,q3,q4⟩
  gc:=fun i y e c ec=>by
   obtain⟨u,v,q1,q2,q3,q4⟩:=tab.gc i y e c ec
   exact⟨u,v,q1,q2,fun P N=>q3 P N R,q4⟩
  mt:=fun i y n e c g eg=>by
   obtain⟨q0,q1,j,a,fd',ps',hj,q2,q3,q4⟩:=tab.mt i y n e c g eg
   exact⟨q0,q1,j,a,fd',ps',q2,q3,hr.mono hj,q4⟩
  fs:=fun i y e c j ej=>by
   obtain⟨q0,q1,q2,q3⟩:=tab.fs i y e c j ej
   exact⟨q0,q1,q2,q3⟩
  nw:=fun i y n e g eg=>by
   rcases tab.nw i y n e g eg with⟨j,a,fd',ps',hj,q1,q2,q3,q4⟩ | q
   ·exact⟨.inl ⟨j,a,fd',ps',q1,q2,hr.mono hj,q3,q4⟩⟩
   ·exact⟨.inr q⟩
  ck:=tab.ck
  xk:=tab.xk
  dc:=tab.dc }
 have hp:PassesOwn (model (cxOf (L2.CX P w) P w K mg base T.N qual scope f cdv A outer s H E).prog (cxOf (L2.CX P w) P w K mg base T.N qual scope f cdv A outer s H E).w) (cxOf (L2.CX P w) P w K mg base T.N qual scope f cdv A outer s H E).A (cxOf (L2.CX P w) P w K mg base T.N qual scope f cdv A outer s H E).env (cxOf (L2.CX P w) P w K mg base T.N qual scope f cdv A outer s H E).xe:=
  passes_of (K:=fun e s''=>L2.CX P w outer H s E e s'') rfl
 have hl:=h3.length
 have st0:SR C Pr (fun _=>none) H (.slf c []::(ds.map (fun d=>Sl.val d d.flat)++List.replicate m .non)) (L2.start T.N (.ref x0::us)):=by
  refine⟨⟨h1.trans H0x.s,Same.nil,H0x.s,h2.1,Cm.Same.refl _,fun _ e=>.inl e,fun _ e=>absurd rfl e,fun _ e=>absurd rfl e,H0x.tb h2.2.1,⟨h2.2.2.1,TF.nil,h2.2.2.2⟩⟩,?_,fun i s e=>?_,fun i j p es b es' c' e1 _ _ _=>?_,AD.no fun i s e=>by
   cases i with
   |zero=>simp at e;subst e;rfl
   |succ i =>
    rcases List.mem_append.mp (List.mem_of_getElem? (show(ds.map (fun d=>Sl.val d d.flat)++List.replicate m .non)[i]? = some s by simpa using e)) with z | z
    ·obtain⟨_,_,rfl⟩:=List.mem_map.mp z;rfl
    ·rw[List.eq_of_mem_replicate z];rfl,AR.no fun i s e=>by
   cases i with
   |zero=>simp at e;subst e;rfl
   |succ i =>
    rcases List.mem_append.mp (List.mem_of_getElem? (show(ds.map (fun d=>Sl.val d d.flat)++List.replicate m .non)[i]? = some s by simpa using e)) with z | z
    ·obtain⟨_,_,rfl⟩:=List.mem_map.mp z;rfl
    ·rw[List.eq_of_mem_replicate z];rfl⟩
  ·simp only[L2.start,List.length_append,List.length_map,List.length_replicate,List.length_cons]
   omega
  ·cases i with
   |zero =>
    simp at e
    subst e
    exact⟨_,by simp[L2.start],x0,dx,[],⟨rfl,rfl⟩,by rw[Hx];simp,h1.free hx,rfl,hx,Nat.zero_le _,rfl⟩
   |succ i =>
    have e:(ds.map (fun d=>Sl.val d d.flat)++List.replicate m .non)[i]? = some s:=by simpa using e
    by_cases hi:i<ds.length
    ·rw[List.getElem?_append_left (by simpa using hi),List.getElem?_map,List.getElem?_eq_getElem hi] at e
     cases e
     obtain⟨v,q1,q2⟩:=(qlG (N:=fun _=>none) h3).get (List.getElem?_eq_getElem hi)
     refine⟨some v,?_,v,rfl,RepB.nf (C:=C) q2⟩
     unfold L2.start
     rw[List.getElem?_append_left (by simp;omega),List.getElem?_map,List.getElem?_cons_succ,q1]
     rfl
    ·rw[List.getElem?_append_right (by simpa using hi),List.getElem?_replicate] at e
     split at e
     ·rename_i hm'
      cases e
      refine⟨none,?_,trivial⟩
      unfold L2.start
      simp only[List.length_map] at hm'
      rw[List.getElem?_append_right (by simp;omega),List.getElem?_replicate,if_pos]
      simp only[List.length_map,List.length_cons]
      omega
     ·cases e
  ·exfalso
   cases i with
   |zero=>simp at e1
   |succ i =>
    have:=List.mem_of_getElem? (show(ds.map (fun d=>Sl.val d d.flat)++List.replicate m .non)[i]? = some (.own es b) by simpa using e1)
    rcases List.mem_append.mp this with z | z
    ·obtain⟨_,_,z⟩:=List.mem_map.mp z;cases z
    ·have:=List.eq_of_mem_replicate z;cases this
 refine⟨tS C (qak Γ ir),qoL I hp ⟨rfl,rfl,rfl⟩ ir hc,_,Pr,fun _=>none,st0,?_⟩
 unfold qmy at h5
 rw[if_pos h4] at h5
 cases e:qak Γ ir (.slf c []::(ds.map (fun d=>Sl.val d d.flat)++List.replicate m .non)) with
 |bad=>rw[e] at h5;exact h5.elim
 |brk ρ=>rw[e] at h5;exact h5.elim
 |cnt ρ=>rw[e] at h5;exact h5.elim
 |ret er=>rw[e] at h5;exact h5.elim
 |exc c fs =>
  rw[e] at h5
  intro σ d P' N' H' r q
  exact h5 d H' P' N' ⟨⟨r.bH,fun _=>r.tb⟩,r.p0,Same.nil,r.pH,r.nH,r.pn,fun a q=>.inr (r.nw a q),fun a q q2=>absurd (r.dj a q) q2,fun _=>r.tf.1,fun _=>r.tf.2.1⟩ q
 |nx ρ =>
  rw[e] at h5
  intro σ P' N' H' S' e1 e2
  cases ρ with
  |nil=>exact h5.elim
  |cons s0 r =>
   cases s0 with
   |non=>exact h5.elim
   |val _ _=>exact h5.elim
   |own _ _=>exact h5.elim
   |fxd _ _=>exact h5.elim
   |dct _ _=>exact h5.elim
   |row _=>exact h5.elim
   |slf c' fs =>
    simp only at h5
    by_cases hc':c'=c
    ·rw[if_pos hc'] at h5
     by_cases hfs:fs.length=nf
     ·rw[if_pos hfs] at h5
      subst hc'
      obtain⟨o,z1,p,dx',xs,⟨ep,rfl⟩,z2,z3,z4,z5,z6,z7⟩:=S'.sl 0 _ rfl
      have ep:p=x0:=ep
      subst ep
      have rg:=S'.reg
      have z3':un2 P' N' H' p=none:=by
       unfold un2
       rw[if_neg]
       rintro(z | z)
       ·exact z z3
       ·exact z z4
      have ut:TF (un2 P' N' H'):=fun b o e=>by
       unfold un2 at e
       split at e
       ·rename_i z
        rcases z with z | z
        ·exact rg.tf.1 b o (rg.pH.back rg.tf.1 e z)
        ·exact rg.tf.2.1 b o (rg.nH.back rg.tf.2.1 e z)
       ·cases e
      refine h5 H' (upd (un2 P' N' H') p (.ins (G.ca c') dx' ((G.fl c').zip xs))) ⟨rg.bH,fun _=>rg.tb⟩ ⟨(rg.p0.trans (qpm rg.pH)).trans (qbN z3'),fun _=>ut.upd⟩ (qlh qt3 z2) (fun a ha=>?_) ⟨p,dx',xs,rfl,upd_same,by rw[hfs,hf],qtA (C:=C) ((qpm rg.pH).trans (qbN z3')) ((qmf rg.nH).trans (qbN z3')) z7⟩
      by_cases q:a=p
      ·rw[q];exact .inr hx
      ·rw[upd_ne q] at ha
       unfold un2 at ha
       split at ha
       ·rename_i z
        rcases z with z | z
        ·exact rg.pn a z
        ·exact .inr (rg.nw a z)
       ·exact absurd rfl ha
     ·rw[if_neg hfs] at h5;exact h5.elim
    ·rw[if_neg hc'] at h5;exact h5.elim
end Cm
namespace Cm
open PySem PySem.Spec PyProof.Rows L2 PySem.W
variable [HasT]
structure DefAt (P:Program) (w:World) (K:PySem.W.Frag) (mg:Str→Option Value) (base:Heap) (G:Glo) (k:Nat) (x:Str) (n:Nat) (g:List D→RE ER):Prop where
 ex:∃(j:Nat) (a:Addr) (fd:FuncData) (ps:List Str) (m:Nat) (gf:List D→RE ER),j≤k∧FnOk P w K mg base (L2.CX P w) j a fd ps (spD G (n+m) gf)∧mg x=some (.ref a)∧PySem.W.keepIn K (.ref a)=true∧Part K G fd ps n m g gf
theorem DefAt.mono {P:Program} {w:World} {K:PySem.W.Frag} {mg:Str→Option Value} {base:Heap} {G:Glo} {k k':Nat} {x:Str} {n:Nat} {g:List D→RE ER} (h:DefAt P w K mg base G k x n g) (e:k≤k'):DefAt P w K mg base G k' x n g:=by
 obtain⟨⟨j,a,fd,ps,m,gf,q,r⟩⟩:=h
 exact⟨⟨j,a,fd,ps,m,gf,Nat.le_trans q e,r⟩⟩
def FnsOk (P:Program) (w:World) (K:PySem.W.Frag) (mg:Str→Option Value) (base:Heap) (G:Glo) (k:Nat):List (Str × Nat)→List (Str × (List D→RE ER))→Prop
 |t::ts,g::gs=>DefAt P w K mg base G k t.1 t.2 g.2∧FnsOk P w K mg base G k ts gs
 |_,_=>True
theorem FnsOk.get {P:Program} {w:World} {K:PySem.W.Frag} {mg:Str→Option Value} {base:Heap} {G:Glo} {k:Nat}:∀{ts:List (Str × Nat)} {gs:List (Str × (List D→RE ER))},FnsOk P w K mg base G k ts gs →
  ∀(f:Nat) (x:Str) (n:Nat),ts[f]? = some (x,n)→∀g,gs[f]? = some g→∃(j:Nat) (a:Addr) (fd:FuncData) (ps:List Str) (m:Nat) (gf:List D→RE ER),j≤k∧FnOk P w K mg base (L2.CX P w) j a fd ps (spD G (n+m) gf)∧mg x=some (.ref a)∧PySem.W.keepIn K (.ref a)=true∧Part K G fd ps n m g.2 gf
 |[],_,_,f,x,n,e,_,_=>by simp at e
 |_::_,[],_,f,x,n,_,g,e=>by simp at e
 |t::ts,g::gs,⟨h,hs⟩,0,x,n,e,g',e'=>by
  simp at e e'
  subst e e'
  exact h.ex
 |t::ts,g::gs,⟨h,hs⟩,f+1,x,n,e,g',e'=>FnsOk.get hs f x n (by simpa using e) g' (by simpa using e')
theorem quv {fa:List He.Fa} {fn:List He.DefD} {K:PySem.W.Frag} {h:Heap} {mg:Str→Option Value} (c:He.SaysD (bltNames.map He.Fa.free++fa) fn K) (X:K.In h) (N:h.Ns mainGlobals mg):∀x∈bltNames,mg x=none:=fun x hx=>by
 have hm:He.Fa.free x∈bltNames.map He.Fa.free++fa:=List.mem_append_left _ (List.mem_map_of_mem hx)
 obtain⟨i,hi⟩:=List.getElem?_of_mem hm
 exact He.free_ok X N (c.fact i hi)
structure MthAt (P:Program) (w:World) (K:PySem.W.Frag) (mg:Str→Option Value) (base:Heap) (G:Glo) (k:Nat) (c:Nat) (x:Str) (n:Nat) (g:List D→RE ER):Prop where
 ex:Cls K (G.ca c)∧x∉G.fl c∧∃(j:Nat) (a:Addr) (fd:FuncData) (ps:List Str),j≤k∧Meth K (G.ca c) x a∧FnOk P w K mg base (L2.CX P w) j a fd ps (spD G (n+1) g)∧Binds K fd ps []
theorem MthAt.mono {P:Program} {w:World} {K:PySem.W.Frag} {mg:Str→Option Value} {base:Heap} {G:Glo} {k k' c:Nat} {x:Str} {n:Nat} {g:List D→RE ER} (h:MthAt P w K mg base G k c x n g) (e:k≤k'):MthAt P w K mg base G k' c x n g:=by
 obtain⟨h1,h2,j,a,fd,ps,q,r⟩:=h
 exact⟨h1,h2,j,a,fd,ps,Nat.le_trans q e,r⟩
def MtsOk (P:Program) (w:World) (K:PySem.W.Frag) (mg:Str→Option Value) (base:Heap) (G:Glo) (k:Nat) (mn:List (Str × Nat)):List (Nat × Nat × (List D→RE ER))→Prop
 |[]=>True
 |t::ts=>(∀x n,mn[t.2.1]? = some (x,n)→MthAt P w K mg base G k t.1 x n t.2.2)∧MtsOk P w K mg base G k mn ts
theorem MtsOk.get {P:Program} {w:World} {K:PySem.W.Frag} {mg:Str→Option Value} {base:Heap} {G:Glo} {k:Nat} {mn:List (Str × Nat)}:∀{ts:List (Nat × Nat × (List D→RE ER))},MtsOk P w K mg base G k mn ts →
  ∀(m:Nat) (x:Str) (n:Nat),mn[m]? = some (x,n)→∀c g,qaZ ts c m=some g→MthAt P w K mg base G k c x n g
 |[],_,m,x,n,_,c,g,e=>by cases e
 |t::ts,⟨h,hs⟩,m,x,n,e,c,g,e'=>by
  unfold qaZ at e'
  split at e'
  ·rename_i h1
   split at e'
   ·rename_i h2
    subst h1 h2
    cases e'
    exact h x n e
   ·exact MtsOk.get hs m x n e c g e'
  ·exact MtsOk.get hs m x n e c g e'
def qu6 (K:PySem.W.Frag) (G:Glo) (c i:Nat) (x:Str):Prop:=Cls K (G.ca c)∧NoAttr K (G.ca c) x∧(G.fl c)[i]? = some x∧(G.fl c).Nodup
def FdsOk (K:PySem.W.Frag) (G:Glo) (fs:List Str):List (Nat × Nat × Nat)→Prop
 |[]=>True
 |t::ts=>(∀x,fs[t.2.1]? = some x→qu6 K G t.1 t.2.2 x)∧FdsOk K G fs ts
theorem FdsOk.get {K:PySem.W.Frag} {G:Glo} {fs:List Str}:∀{ts:List (Nat × Nat × Nat)},FdsOk K G fs ts→∀(f:Nat) (x:Str),fs[f]? = some x→∀c i,qa0 ts c f=some i→qu6 K G c i x
 |[],_,f,x,_,c,i,e=>by cases e
 |t::ts,⟨h,hs⟩,f,x,e,c,i,e'=>by
  unfold qa0 at e'
  split at e'
  ·rename_i h1
   split at e'
   ·rename_i h2
    subst h1 h2
    cases e'
    exact h x e
   ·exact FdsOk.get hs f x e c i e'
  ·exact FdsOk.get hs f x e c i e'
structure NwAt (P:Program) (w:World) (K:PySem.W.Frag) (mg:Str→Option Value) (base:Heap) (G:Glo) (k:Nat) (x:Str) (n:Nat) (c:Nat) (g:List D→RE (List D)):Prop where
 ex:(∃(j:Nat) (a:Addr) (fd:FuncData) (ps:List Str),j+1≤k∧Mk K (G.ca c) a∧FnOk P w K mg base (L2.CX P w) j a fd ps (spI G c n g)∧mg x=some (.ref (G.ca c))∧Binds K fd ps []) ∨
  (n=0∧g []=.ok []∧Mk0 K (G.ca c)∧G.fl c=[]∧mg x=some (.ref (G.ca c)))
theorem NwAt.mono {P:Program} {w:World} {K:PySem.W.Frag} {mg:Str→Option Value} {base:Heap} {G:Glo} {k k':Nat} {x:Str} {n c:Nat} {g:List D→RE (List D)} (h:NwAt P w K mg base G k x n c g) (e:k≤k'):NwAt P w K mg base G k' x n c g:=by
 rcases h.ex with⟨j,a,fd,ps,q,r⟩ | q
 ·exact⟨.inl ⟨j,a,fd,ps,Nat.le_trans q e,r⟩⟩
 ·exact⟨.inr q⟩
def NwsOk (P:Program) (w:World) (K:PySem.W.Frag) (mg:Str→Option Value) (base:Heap) (G:Glo) (k:Nat):List (Str × Nat)→List (Nat × (List D→RE (List D)))→Prop
 |t::ts,g::gs=>NwAt P w K mg base G k t.1 t.2 g.1 g.2∧NwsOk P w K mg base G k ts gs
 |_,_=>True
theorem NwsOk.get {P:Program} {w:World} {K:PySem.W.Frag} {mg:Str→Option Value} {base:Heap} {G:Glo} {k:Nat}:∀{ts:List (Str × Nat)} {gs:List (Nat × (List D→RE (List D)))},NwsOk P w K mg base G k ts gs →
  ∀(f:Nat) (x:Str) (n:Nat),ts[f]? = some (x,n)→∀g,gs[f]? = some g→NwAt P w K mg base G k x n g.1 g.2
 |[],_,_,f,x,n,e,_,_=>by simp at e
 |_::_,[],_,f,x,n,_,g,e=>by simp at e
 |t::ts,g::gs,⟨h,hs⟩,0,x,n,e,g',e'=>by
  simp at e e'
  subst e e'
  exact h
 |t::ts,g::gs,⟨h,hs⟩,f+1,x,n,e,g',e'=>NwsOk.get hs f x n (by simpa using e) g' (by simpa using e')
def quV (G:Glo) (mg:Str→Option Value) (x:Str) (c:D):Prop:=∃u v,mg x=some u∧RelV v u∧(∀(P N R:Hp),Rep G P (LNb G.K P N R true) c v)∧WrT G v
def GcsOk (G:Glo) (mg:Str→Option Value):List Str→List (Str × D)→Prop
 |t::ts,g::gs=>quV G mg t g.2∧GcsOk G mg ts gs
 |_,_=>True
theorem GcsOk.get {G:Glo} {mg:Str→Option Value}:∀{ts:List Str} {gs:List (Str × D)},GcsOk G mg ts gs→∀(f:Nat) (x:Str),ts[f]? = some x→∀g,gs[f]? = some g→quV G mg x g.2
 |[],_,_,f,x,e,_,_=>by simp at e
 |_::_,[],_,f,x,_,g,e=>by simp at e
 |t::ts,g::gs,⟨h,hs⟩,0,x,e,g',e'=>by
  simp at e e'
  subst e e'
  exact h
 |t::ts,g::gs,⟨h,hs⟩,f+1,x,e,g',e'=>GcsOk.get hs f x (by simpa using e) g' (by simpa using e')
theorem quC {K:PySem.W.Frag} {h:Heap} {mg:Str→Option Value} {G:Glo} {fa:List He.Fa} {fn:List He.DefD} {x:Str} {s:List Nat} {j:Nat} (c:He.SaysD fa fn K) (X:K.In h) (N:h.Ns mainGlobals mg) (hx:fa[j]? = some (.str x ⟨s.toArray⟩)):quV G mg x (.str s):=by
 obtain⟨t,e⟩:=He.str_ok X N (c.fact j hx)
 exact⟨_,.str ⟨s.toArray⟩,e,⟨t,rfl⟩,fun _ _ _=>rfl,fun _ z=>nomatch z⟩
theorem qt9 {K:PySem.W.Frag} {h:Heap} {mg:Str→Option Value} {G:Glo} {fa:List He.Fa} {fn:List He.DefD} {x:Str} {i:Int} {j:Nat} (c:He.SaysD fa fn K) (X:K.In h) (N:h.Ns mainGlobals mg) (hx:fa[j]? = some (.int x i)):quV G mg x (.int i):=by
 obtain⟨t,e⟩:=He.int_ok X N (c.fact j hx)
 exact⟨_,.int i,e,⟨t,rfl⟩,fun _ _ _=>rfl,fun _ z=>nomatch z⟩
theorem qqH {xa:List Xa} {K:PySem.W.Frag} (h:qs5 xa K=true) {i:Nat} {a:Xa} (e:xa[i]? = some a):a.ok K=true:=List.all_eq_true.mp h a (List.mem_of_getElem? e)
theorem quK {K:PySem.W.Frag} {x d:Str} {own b:Bool} (h:(Xa.ck x own d b).ok K=true):PySem.W.kitOne K (.ref (He.ga K d)) (cv K x own)=some b∧PySem.W.exmOne K (.ref (He.ga K d)) (cv K x own)=some b∧ExcC K (He.ga K d):=by
 unfold Xa.ok at h
 simp only[Bool.and_eq_true,decide_eq_true_eq] at h
 obtain⟨h1,h2,h3,h4,h5,h6,h7,h8,h9,h10⟩:=h
 exact⟨h1,h2,⟨He.eqO_ok h3,He.eqO_ok h4,h5,h6,He.eqO_ok h7,He.eqO_ok h8,h9,h10⟩⟩
theorem qtn {K:PySem.W.Frag} {x d:Str} {own b:Bool} (h:(Xa.ik x own d b).ok K=true):PySem.W.kitOne K (.ref (He.ga K d)) (cv K x own)=some b∧InsC K (He.ga K d):=by
 unfold Xa.ok at h
 simp only[Bool.and_eq_true,decide_eq_true_eq] at h
 obtain⟨h1,h2,h3,h4,h5,h6⟩:=h
 exact⟨h1,⟨He.cls_ok h2,He.eqO_ok h3,He.eqO_ok h4,h5,h6⟩⟩
def qtN (G:Glo) (K:PySem.W.Frag) (x:Str) (own:Bool) (t:List (Nat × Bool)):Prop:=∀c b,t.lookup c=some b→PySem.W.kitOne K (.ref (G.ca c)) (cv K x own)=some b∧PySem.W.exmOne K (.ref (G.ca c)) (cv K x own)=some b∧ExcC K (G.ca c)
def qt8 (G:Glo) (K:PySem.W.Frag) (x:Str) (own:Bool) (t:List (Nat × Bool)):Prop:=∀c b,t.lookup c=some b→PySem.W.kitOne K (.ref (G.ca c)) (cv K x own)=some b∧InsC K (G.ca c)
theorem qcQ {G:Glo} {K:PySem.W.Frag} {x:Str} {own:Bool}:qtN G K x own []:=fun c b e=>by cases e
theorem qcU {G:Glo} {K:PySem.W.Frag} {x:Str} {own:Bool}:qt8 G K x own []:=fun c b e=>by cases e
theorem qbZ {G:Glo} {K:PySem.W.Frag} {x d:Str} {own b0:Bool} {c0 j:Nat} {t:List (Nat × Bool)} {xa:List Xa} (h:qs5 xa K=true) (e:xa[j]? = some (.ck x own d b0)) (hc:G.ca c0=He.ga K d) (ht:qtN G K x own t):qtN G K x own ((c0,b0)::t):=fun c b q=>by
 rw[List.lookup_cons] at q
 split at q
 ·rename_i z
  have z:c=c0:=by simpa using z
  subst z
  cases q
  rw[hc]
  exact quK (qqH h e)
 ·exact ht c b q
theorem qaa {G:Glo} {K:PySem.W.Frag} {x d:Str} {own b0:Bool} {c0 j:Nat} {t:List (Nat × Bool)} {xa:List Xa} (h:qs5 xa K=true) (e:xa[j]? = some (.ik x own d b0)) (hc:G.ca c0=He.ga K d) (ht:qt8 G K x own t):qt8 G K x own ((c0,b0)::t):=fun c b q=>by
 rw[List.lookup_cons] at q
 split at q
 ·rename_i z
  have z:c=c0:=by simpa using z
  subst z
  cases q
  rw[hc]
  exact qtn (qqH h e)
 ·exact ht c b q
theorem qdj {K:PySem.W.Frag} {h:Heap} {mg:Str→Option Value} {G:Glo} {fa:List He.Fa} {fn:List He.DefD} {x:Str} {j:Nat} {t1 t2:List (Nat × Bool)} (c:He.SaysD fa fn K) (X:K.In h) (N:h.Ns mainGlobals mg) (hx:fa[j]? = some (.glo x)) (h1:qtN G K x true t1) (h2:qt8 G K x true t2) :
  CkOk G K mg x true (some fun c=>t1.lookup c) (some fun c=>t2.lookup c):=
 ⟨.ref (He.ga K x),.ref (He.ga K x),⟨.own _,He.glo_ok X N (c.fact j hx)⟩,fun g e c b q=>by cases e;exact h1 c b q,fun g e c b q=>by cases e;exact h2 c b q⟩
theorem qvy {K:PySem.W.Frag} {mg:Str→Option Value} {G:Glo} {t1 t2:List (Nat × Bool)} (h1:qtN G K "ValueError" false t1) (h2:qt8 G K "ValueError" false t2) :
  CkOk G K mg "ValueError" false (some fun c=>t1.lookup c) (some fun c=>t2.lookup c):=
 ⟨.ty "ValueError",.type "ValueError",⟨.ty _,rfl,rfl⟩,fun g e c b q=>by cases e;exact h1 c b q,fun g e c b q=>by cases e;exact h2 c b q⟩
def CksOk (G:Glo) (K:PySem.W.Frag) (mg:Str→Option Value):List (Str × Bool)→List (Nat→Option Bool)→List (Nat→Option Bool)→Prop
 |t::ts,a::as,b::bs=>CkOk G K mg t.1 t.2 (some a) (some b)∧CksOk G K mg ts as bs
 |[],_,_=>True
 |_,_,_=>False
theorem CksOk.get {G:Glo} {K:PySem.W.Frag} {mg:Str→Option Value}:∀{ts:List (Str × Bool)} {as bs:List (Nat→Option Bool)},CksOk G K mg ts as bs→∀(f:Nat) (x:Str) (own:Bool),ts[f]? = some (x,own)→CkOk G K mg x own as[f]? bs[f]?
 |[],_,_,_,f,x,own,e=>by simp at e
 |_::_,[],_,h,f,x,own,e=>h.elim
 |_::_,_::_,[],h,f,x,own,e=>h.elim
 |t::ts,a::as,b::bs,⟨h,hs⟩,0,x,own,e=>by
  simp at e
  subst e
  exact h
 |t::ts,a::as,b::bs,⟨h,hs⟩,f+1,x,own,e=>by
  simp only[List.getElem?_cons_succ]
  exact CksOk.get hs f x own (by simpa using e)
theorem rs1 {K:PySem.W.Frag} {h:Heap} {mg:Str→Option Value} {G:Glo} {fa:List He.Fa} {fn:List He.DefD} {x:Str} {j j2 c0:Nat} (c:He.SaysD fa fn K) (X:K.In h) (N:h.Ns mainGlobals mg) (hx:fa[j]? = some (.glo x)) (hx2:fa[j2]? = some (.exc x)) (hc:G.ca c0=He.ga K x):RsOk K mg (G.ca c0) x:=by
 obtain⟨h1,h2,h3,h4⟩:=He.exc_ok (c.fact j2 hx2)
 rw[hc]
 exact⟨He.glo_ok X N (c.fact j hx),h1,h2,h3,h4⟩
def XksOk (G:Glo) (K:PySem.W.Frag) (mg:Str→Option Value):List Str→List Nat→Prop
 |t::ts,c::cs=>RsOk K mg (G.ca c) t∧XksOk G K mg ts cs
 |_,_=>True
theorem XksOk.get {G:Glo} {K:PySem.W.Frag} {mg:Str→Option Value}:∀{ts:List Str} {cs:List Nat},XksOk G K mg ts cs→∀(f:Nat) (x:Str),ts[f]? = some x→∀c,cs[f]? = some c→RsOk K mg (G.ca c) x
 |[],_,_,f,x,e,_,_=>by simp at e
 |_::_,[],_,f,x,_,c,e=>by simp at e
 |t::ts,g::gs,⟨h,hs⟩,0,x,e,g',e'=>by
  simp at e e'
  subst e e'
  exact h
 |t::ts,g::gs,⟨h,hs⟩,f+1,x,e,g',e'=>XksOk.get hs f x (by simpa using e) g' (by simpa using e')
def DcsOk (G:Glo) (K:PySem.W.Frag) (w:World) (mg:Str→Option Value):List Str→List (Str × List (List Nat × Option D))→Prop
 |t::ts,g::gs=>quR G K w mg t g.2∧DcsOk G K w mg ts gs
 |_,_=>True
theorem DcsOk.get {G:Glo} {K:PySem.W.Frag} {w:World} {mg:Str→Option Value}:∀{ts:List Str} {gs:List (Str × List (List Nat × Option D))},DcsOk G K w mg ts gs→∀(f:Nat) (x:Str),ts[f]? = some x→∀g,gs[f]? = some g→quR G K w mg x g.2
 |[],_,_,f,x,e,_,_=>by simp at e
 |_::_,[],_,f,x,_,g,e=>by simp at e
 |t::ts,g::gs,⟨h,hs⟩,0,x,e,g',e'=>by
  simp at e e'
  subst e e'
  exact h
 |t::ts,g::gs,⟨h,hs⟩,f+1,x,e,g',e'=>DcsOk.get hs f x (by simpa using e) g' (by simpa using e')
structure FoAt (P:Program) (w:World) (K:PySem.W.Frag) (mg:Str→Option Value) (base:Heap) (G:Glo) (k:Nat) (x:Str) (n q:Nat) (g:List D→RE ER):Prop where
 ex:∃(j:Nat) (a:Addr) (fd:FuncData) (ps:List Str),j≤k∧FnOk P w K mg base (L2.CX P w) j a fd ps (spO G n q g)∧mg x=some (.ref a)∧PySem.W.keepIn K (.ref a)=true∧Binds K fd ps []
theorem FoAt.mono {P:Program} {w:World} {K:PySem.W.Frag} {mg:Str→Option Value} {base:Heap} {G:Glo} {k k':Nat} {x:Str} {n q:Nat} {g:List D→RE ER} (h:FoAt P w K mg base G k x n q g) (e:k≤k'):FoAt P w K mg base G k' x n q g:=by
 obtain⟨⟨j,a,fd,ps,h1,r⟩⟩:=h
 exact⟨⟨j,a,fd,ps,Nat.le_trans h1 e,r⟩⟩
def FosOk (P:Program) (w:World) (K:PySem.W.Frag) (mg:Str→Option Value) (base:Heap) (G:Glo) (k:Nat):List (Str × Nat)→List (Nat × (List D→RE ER))→Prop
 |t::ts,g::gs=>FoAt P w K mg base G k t.1 t.2 g.1 g.2∧FosOk P w K mg base G k ts gs
 |_,_=>True
theorem FosOk.get {P:Program} {w:World} {K:PySem.W.Frag} {mg:Str→Option Value} {base:Heap} {G:Glo} {k:Nat}:∀{ts:List (Str × Nat)} {gs:List (Nat × (List D→RE ER))},FosOk P w K mg base G k ts gs →
  ∀(f:Nat) (x:Str) (n:Nat),ts[f]? = some (x,n)→∀g,gs[f]? = some g→∃(j:Nat) (a:Addr) (fd:FuncData) (ps:List Str),j≤k∧FnOk P w K mg base (L2.CX P w) j a fd ps (spO G n g.1 g.2)∧mg x=some (.ref a)∧PySem.W.keepIn K (.ref a)=true∧Binds K fd ps []
 |[],_,_,f,x,n,e,_,_=>by simp at e
 |_::_,[],_,f,x,n,_,g,e=>by simp at e
 |t::ts,g::gs,⟨h,hs⟩,0,x,n,e,g',e'=>by
  simp at e e'
  subst e e'
  exact h.ex
 |t::ts,g::gs,⟨h,hs⟩,f+1,x,n,e,g',e'=>FosOk.get hs f x n (by simpa using e) g' (by simpa using e')
theorem qdO {P:Program} {w:World} {K:PySem.W.Frag} {h:Heap} {mg:Str→Option Value} {base:Heap} {G:Glo} {fa:List He.Fa} {fn:List He.DefD} {T:Tb} {Γ:Env} {k:Nat} {mts:List (Nat × Nat × (List D→RE ER))} {fds:List (Nat × Nat × Nat)}
  (c:He.SaysD (bltNames.map He.Fa.free++fa) fn K) (X:K.In h) (N:h.Ns mainGlobals mg) (hf:FnsOk P w K mg base G k T.fn Γ.fn) (hgc:GcsOk G mg T.gc Γ.gc) (hmt:Γ.mt=qaZ mts) (hm:MtsOk P w K mg base G k T.mn mts)
  (hfi:Γ.fi=qa0 fds) (hfd:FdsOk K G T.fs fds) (hnw:NwsOk P w K mg base G k T.nw Γ.nw) (hck:CksOk G K mg T.ck Γ.ck Γ.ik) (hxk:XksOk G K mg T.xk Γ.xk) (hdc:DcsOk G K w mg T.dc Γ.dc) (hfo:FosOk P w K mg base G k T.fo Γ.fo:=by exact True.intro):TabOk P w K mg base T Γ G k where
 blt:=quv c X N
 fn:=hf.get
 gc:=hgc.get
 mt:=fun m x n e c g e'=>by
  rw[hmt] at e'
  exact(hm.get m x n e c g e').ex
 fs:=fun f x e c i e'=>by
  rw[hfi] at e'
  exact hfd.get f x e c i e'
 nw:=fun i x n e g e'=>(hnw.get i x n e g e').ex
 ck:=hck.get
 xk:=hxk.get
 dc:=hdc.get
 fo:=hfo.get
section
variable {P:Program} {w:World} {K:PySem.W.Frag} {h:Heap} {mg:Str→Option Value} {base:Heap} {G:Glo} {fa:List He.Fa} {fn:List He.DefD} {T:Tb} {Γ:Env} {k m i j:Nat} {ir:Sms} {ps:List Str} {d:He.DefD} {x y:Str}
theorem qjG (c:He.SaysD fa fn K) (X:K.In h) (N:h.Ns mainGlobals mg) (hG:G.K=K) (hd:fn[i]? = some d) (hat:d.at_=(x,none)) (hdf:d.dfl=[]) (hkw:d.kwd=[]) (hx:fa[j]? = some (.glo x))
  (S:FnScope T.N ps d.scope) (hm:T.N.length=ps.length+m) (hc:qar T d.scope ir d.body=true)
  (hb:∀(kV doc pm:Value) (an:Option Addr) (cdv ct:Value) (us:List Value),us.length=ps.length→bindArgs (PySem.W.fnOf d.name d.qual d.params d.body d.scope .none kV doc pm an cdv ct) ⟨us,[]⟩=pure (ps.zip us))
  (tab:TabOk P w K mg base T Γ G k) (hlm:T.lm=none∨LmOk K base mg T.lm (He.fAd K (x,none)) d.qual:=by exact .inl rfl):DefAt P w K mg base G (k+1) x ps.length (qc7 Γ ps.length m ir):=by
 obtain⟨fd,F⟩:=c.def_ i hd
 have e1:d.dvs K=[]:=by unfold He.DefD.dvs;rw[hdf];rfl
 have e2:d.kws K=[]:=by unfold He.DefD.kws;rw[hkw];rfl
 rw[e1,e2,hat] at F
 exact⟨⟨k+1,_,fd,ps,0,_,Nat.le_refl _,qsw F S hG tab hm hc (hlm.elim LmOk.no id),He.glo_ok X N (c.fact j hx),F.kp,Part.all (FunD.bindsN F hb)⟩⟩
theorem FnOk.bad {P:Program} {w:World} {K:PySem.W.Frag} {mg:Str→Option Value} {base:Heap} {CX:CXT} {k n:Nat} {f:Addr} {fd:FuncData} {ps:List Str} {G:Glo}:FnOk P w K mg base CX k f fd ps (spD G n fun _=>.bad):=
 ⟨fun _ _ _ _ ⟨_,_,_,_,_,_,_,h⟩=>h.elim,fun _ _ _ _ _ _ _ _ _ _ _ _ _ ⟨_,_,_,_,_,_,_,h⟩=>h.elim⟩
theorem qcr {cn n j2:Nat} (c:He.SaysD fa fn K) (hG:G.K=K) (hd:fn[i]? = some d) (hat:d.at_=(x,some y)) (hdf:d.dfl=[]) (hkw:d.kwd=[]) (hx:fa[j]? = some (.meth x y)) (hx2:fa[j2]? = some (.cls x)) (hca:G.ca cn=He.ga K x) (hfl:y∉G.fl cn) (hn:ps.length=n+1)
  (S:FnScope T.N ps d.scope) (hm:T.N.length=ps.length+m) (hc:qar T d.scope ir d.body=true)
  (hb:∀(kV doc pm:Value) (an:Option Addr) (cdv ct:Value) (us:List Value),us.length=ps.length→bindArgs (PySem.W.fnOf d.name d.qual d.params d.body d.scope .none kV doc pm an cdv ct) ⟨us,[]⟩=pure (ps.zip us))
  (tab:TabOk P w K mg base T Γ G k) (hlm:T.lm=none:=by rfl):MthAt P w K mg base G (k+1) cn y n (qc7 Γ (n+1) m ir):=by
 obtain⟨fd,F⟩:=c.def_ i hd
 have e1:d.dvs K=[]:=by unfold He.DefD.dvs;rw[hdf];rfl
 have e2:d.kws K=[]:=by unfold He.DefD.kws;rw[hkw];rfl
 rw[e1,e2,hat] at F
 have M:=He.meth_ok (c.fact j hx)
 have O:=qsw F S hG tab hm hc (LmOk.no hlm)
 rw[hn] at O
 exact⟨hca ▸ He.cls_ok (c.fact j2 hx2),hfl,k+1,_,fd,ps,Nat.le_refl _,hca ▸ M,O,FunD.bindsN F hb⟩
theorem qqP {cn n nf j2:Nat} (c:He.SaysD fa fn K) (X:K.In h) (N:h.Ns mainGlobals mg) (hG:G.K=K) (hd:fn[i]? = some d) (hat:d.at_=(x,some ("__init__" : Str))) (hdf:d.dfl=[]) (hkw:d.kwd=[]) (hx:fa[j]? = some (.mkr x)) (hx2:fa[j2]? = some (.glo x)) (hca:G.ca cn=He.ga K x) (hn:ps.length=n+1) (hnf:(G.fl cn).length=nf)
  (S:FnScope T.N ps d.scope) (hm:T.N.length=ps.length+m) (hc:qar T d.scope ir d.body=true)
  (hb:∀(kV doc pm:Value) (an:Option Addr) (cdv ct:Value) (us:List Value),us.length=ps.length→bindArgs (PySem.W.fnOf d.name d.qual d.params d.body d.scope .none kV doc pm an cdv ct) ⟨us,[]⟩=pure (ps.zip us))
  (tab:TabOk P w K mg base T Γ G k) (hlm:T.lm=none:=by rfl):NwAt P w K mg base G (k+2) x n cn (qmy Γ cn nf n m ir):=by
 obtain⟨fd,F⟩:=c.def_ i hd
 have e1:d.dvs K=[]:=by unfold He.DefD.dvs;rw[hdf];rfl
 have e2:d.kws K=[]:=by unfold He.DefD.kws;rw[hkw];rfl
 rw[e1,e2,hat] at F
 have M:=He.mkr_ok (c.fact j hx)
 exact⟨.inl ⟨k+1,_,fd,ps,Nat.le_refl _,hca ▸ M,qu3 F S hG tab hm hn hc hlm hnf,hca ▸ He.glo_ok X N (c.fact j2 hx2),FunD.bindsN F hb⟩⟩
theorem fd1 {cn n j2:Nat} (c:He.SaysD fa fn K) (hx:fa[j]? = some (.cls x)) (hx2:fa[j2]? = some (.noat x y)) (hca:G.ca cn=He.ga K x) (h1:(G.fl cn)[n]? = some y) (h2:(G.fl cn).Nodup):qu6 K G cn n y:=
 ⟨hca ▸ He.cls_ok (c.fact j hx),hca ▸ He.noat_ok (c.fact j2 hx2),h1,h2⟩
end
theorem qxk {P:Program} {w:World} {K:PySem.W.Frag} {h:Heap} {mg:Str→Option Value} {G:Glo} {fa:List He.Fa} {fn:List He.DefD} {T:Tb} {Γ:Env} {k m i j:Nat} {ir:Sms} {y:Str} {d:He.DefD} {x:Str} {f:Addr}
  (c:He.SaysD fa fn K) (X:K.In h) (N:h.Ns mainGlobals mg) (hG:G.K=K) (hd:fn[i]? = some d) (hat:d.at_=(x,none)) (hdf:d.dfl=[]) (hkw:d.kwd=[]) (hx:fa[j]? = some (.glo x)) (hfa:mg x=some (.ref f))
  (S:FnScope T.N [y] d.scope) (hm:T.N.length=1+m) (hc:qar T d.scope ir d.body=true)
  (hb:∀(kV doc pm:Value) (an:Option Addr) (cdv ct:Value) (us:List Value),us.length=1→bindArgs (PySem.W.fnOf d.name d.qual d.params d.body d.scope .none kV doc pm an cdv ct) ⟨us,[]⟩=pure ([y].zip us))
  (tab:∀base:Heap,K.In base→base.Ns mainGlobals mg→TabOk P w K mg base T Γ G k) (hlm:T.lm=none:=by rfl) :
  ∃fd:FuncData,(∀(s:Shared) (u:Value),BindsTo s fd ⟨[u],[]⟩ [(y,u)])∧∀base:Heap,K.In base→base.Ns mainGlobals mg→FnOk P w K mg base (L2.CX P w) (k+1) f fd [y] (spD G 1 (qc7 Γ 1 m ir)):=by
 obtain⟨fd,F⟩:=c.def_ i hd
 have e1:d.dvs K=[]:=by unfold He.DefD.dvs;rw[hdf];rfl
 have e2:d.kws K=[]:=by unfold He.DefD.kws;rw[hkw];rfl
 rw[e1,e2,hat] at F
 have e:=hfa.symm.trans (He.glo_ok X N (c.fact j hx))
 cases e
 exact⟨fd,fun s u=>FunD.bindsA (ps:=[y]) F hb s [u] rfl,fun base hB hN=>qsw F S hG (tab base hB hN) hm hc (LmOk.no hlm)⟩
theorem qsu {l:PySem.W.OpenLaw} {w:World} {K:PySem.W.Frag} {mg:Str→Option Value} {f:Addr} {h:Heap} {G:Glo} {g:List D→RE ER} {k n:Nat} {y:Str} (hG:G.K=K)
  {cs:List (Addr × Addr)} (hcs:∀x∈HasT.T,∃p∈cs,p.2=x.1) (c1:∀p∈cs,h.get? p.2=some { cls:=.none,data:=.fields #[] }) (c2:∀p∈cs,K.lookup p.2=none) (c3:∀p∈cs,PySem.W.CodeHd h p.1 p.2)
  (ok:∃fd:FuncData,(∀(s:Shared) (u:Value),BindsTo s fd ⟨[u],[]⟩ [(y,u)])∧∀base:Heap,K.In base→base.Ns mainGlobals mg→(∀p∈cs,LamX.TabB base mg p.1 p.2)→FnOk l.prog w K mg base (L2.CX l.prog w) k f fd [y] (spD G 1 g))
  (tr:∀ns:List Int,ns.length≤n→(∀z∈ns,Builtin.Int.intBits z≤1048576)→∃b,g [.lst (ns.map D.int)]=.ok (.val (.bl true) b)):LamX.LawAtS l w K (L2.CX l.prog w) k n y mg f h:=by
 obtain⟨fd,hb,hF⟩:=ok
 refine⟨fd,cs,spD G 1 g,c1,c2,c3,hb,fun H a ns hl hz hH hS=>?_,fun base h1 h2 h3=>hF base h1 h2 h3⟩
 obtain⟨b,e⟩:=tr ns hl hz
 have ht:qgm H:=fun x hx=>by
  obtain⟨p,hp,e⟩:=hcs x hx
  exact LamX.TabS.nil (e ▸ hH p hp)
 refine⟨fun _=>none,qe3 H,[.lst (ns.map D.int)],Same.nil,⟨qew H,ht,TF.nil,qgu H⟩,⟨_,[],rfl,⟨a,_,rfl,hG ▸ qfg hS,Reps.ints.mpr rfl⟩,rfl⟩,rfl,?_⟩
 rw[e]
 intro v H' P' N' _ q
 exact q
theorem law_at {l:PySem.W.OpenLaw} {w:World} {K:PySem.W.Frag} {mg:Str→Option Value} {f:Addr} {h:Heap} {G:Glo} {g:List D→RE ER} {k n:Nat} {y:Str} (hG:G.K=K)
  (ok:∃fd:FuncData,(∀(s:Shared) (u:Value),BindsTo s fd ⟨[u],[]⟩ [(y,u)])∧∀base:Heap,K.In base→base.Ns mainGlobals mg→FnOk l.prog w K mg base (L2.CX l.prog w) k f fd [y] (spD G 1 g))
  (tr:∀ns:List Int,ns.length≤n→(∀z∈ns,Builtin.Int.intBits z≤1048576)→∃b,g [.lst (ns.map D.int)]=.ok (.val (.bl true) b)) (h0:HasT.T=[]:=by rfl):LamX.LawAtS l w K (L2.CX l.prog w) k n y mg f h:=
 qsu hG (cs:=[]) (by rw[h0];intro x hx;cases hx) (fun p hp=>(nomatch hp)) (fun p hp=>(nomatch hp)) (fun p hp=>(nomatch hp)) (let ⟨fd,hb,hF⟩:=ok;⟨fd,hb,fun base h1 h2 _=>hF base h1 h2⟩) tr
def qxT (q:Program) (mg:Str→Option Value) (h:Heap):Prop:=∀d∈recsOf q,∃a o fd c P,mg d.name=some (.ref a)∧h.get? a=some o∧o.data=.func fd∧fd.code=.ref c∧h.IsCode c P #[]∧h.TableAt c P #[]
theorem cx_end {P:Program} {w:World} (H:Hp) (s:Shared) (e:Value) (s':Shared) (h:L2.CX P w [] H s (fun _ _ _=>False) e s'):False:=by
 obtain⟨a,B,H',cls,d,_,_,_,_,_,_,_,z⟩:=h
 exact z
end Cm
namespace K18
open Cm
def qce:Sms:=(.cons (.own 1 (.lst .nil))
  (.cons (.for (.rng (.cons (.cint 1) (.cons (.cint 7) .nil))) [2] (.cons (.for (.rng (.cons (.cint 1) (.cons (.cint 7) .nil))) [3] (.cons (.iff (.val (.cmp .le (.bin .mul (.var 2) (.var 3)) (.cint 16))) (.cons (.app 1 (.tup (.cons (.var 2) (.cons (.var 3) .nil))))
  .nil) .nil)
  .nil))
  .nil))
  (.cons (.asgT [2,3] (.idx (.var 1) (.bin .mdl (.var 0) (.pri .len (.cons (.var 1) .nil)))))
  (.cons (.ret (.tup (.cons (.var 2) (.cons (.var 3) (.cons (.bin .add (.cint 1) (.bin .mdl (.bin .fdv (.var 0) (.cint 100)) (.cint 6))) .nil)))))
  .nil))))
def qcW:Env:={ fn:=[],gc:=[],mn:=[],mt:=qaZ [],fs:=[],fi:=qa0 [],nw:=[],ck:=[],ik:=[],xk:=[] }
def g__law_floor:List D→RE ER:=qc7 qcW 1 3 qce
def qcc:Sms:=(.cons (.asg 2 (.bin .add (.bin .add (.bin .mul (.bin .mul (.var 1) (.var 1)) (.cint 7919)) (.bin .mul (.cint 104729) (.var 1))) (.cint 11)))
  (.cons (.iff (.val (.cmp .gt (.pri .len (.cons (.var 0) .nil)) (.cint 0))) (.cons (.asg 3 (.bin .mdl (.idx (.var 0) (.bin .mdl (.var 1) (.pri .len (.cons (.var 0) .nil)))) (.bin .pow (.cint 10) (.cint 30))))
  (.cons (.asg 2 (.bin .add (.var 2) (.bin .mul (.var 3) (.bin .add (.cint 48271) (.bin .fdv (.var 1) (.pri .len (.cons (.var 0) .nil)))))))
  .nil)) .nil)
  (.cons (.ret (.bin .mdl (.var 2) (.cint 2147483629)))
  .nil)))
def qcX:Env:={ fn:=[],gc:=[],mn:=[],mt:=qaZ [],fs:=[],fi:=qa0 [],nw:=[],ck:=[],ik:=[],xk:=[] }
def g__law_mixed:List D→RE ER:=qc7 qcX 2 2 qcc
def qca:Sms:=(.cons (.own 4 (.lrng (.cons (.var 2) .nil)))
  (.cons (.own 5 (.lst .nil))
  (.cons (.for (.rng (.cons (.var 3) .nil)) [6] (.cons (.apop 5 4 (.bin .mdl (.call 0 (.cons (.var 0) (.cons (.bin .add (.var 1) (.var 6)) .nil))) (.pri .len (.cons (.var 4) .nil))))
  .nil))
  (.cons (.ret (.var 5))
  .nil))))
def qcR:Env:={ fn:=[("_law_mixed",g__law_mixed)],gc:=[],mn:=[],mt:=qaZ [],fs:=[],fi:=qa0 [],nw:=[],ck:=[],ik:=[],xk:=[] }
def g__law_cells:List D→RE ER:=qc7 qcR 4 3 qca
def qdd:Sms:=(.cons (.asg 3 (.call 0 (.cons (.var 0) (.cons (.var 1) .nil))))
  (.cons (.asg 4 (.bin .mul (.idx (.var 2) (.cint 0)) (.idx (.var 2) (.cint 1))))
  (.cons (.asg 5 (.idx (.lst (.cons (.cstr [117,110,108,105,107,101]) (.cons (.cstr [115,117,109]) (.cons (.cstr [114,105,115,105,110,103]) (.cons (.cstr [115,101,101,110]) (.cons (.cstr [99,111,117,110,116]) (.cons (.cstr [106,111,105,110,101,100]) (.cons (.cstr [110,111,115,113,117,97,114,101]) (.cons (.cstr [114,105,110,103]) .nil))))))))) (.bin .mdl (.var 3) (.cint 8))))
  (.cons (.own 6 (.call 1 (.cons (.var 0) (.cons (.bin .add (.var 1) (.cint 1)) (.cons (.var 4) (.cons (.bin .add (.cint 1) (.bin .mdl (.bin .fdv (.var 3) (.cint 8)) (.var 4))) .nil))))))
  (.cons (.iff (.val (.cmp .eq (.bin .mdl (.bin .fdv (.var 3) (.cint 128)) (.cint 6)) (.cint 0))) (.cons (.ins 6 (.bin .mdl (.bin .fdv (.var 3) (.cint 768)) (.bin .add (.pri .len (.cons (.var 6) .nil)) (.cint 1))) (.idx (.lst (.cons (.var 4) (.cons (.idx (.var 6) (.cint 0)) (.cons (.bin .add (.var 4) (.bin .mdl (.bin .fdv (.var 3) (.cint 768)) (.cint 90))) .nil)))) (.bin .mdl (.bin .fdv (.var 3) (.cint 768)) (.cint 3))))
  .nil) .nil)
  (.cons (.asg 7 (.bin .add (.cint 1) (.bin .mdl (.bin .fdv (.var 3) (.cint 768)) (.idx (.var 2) (.cint 2)))))
  (.cons (.iff (.val (.cmp .eq (.bin .mdl (.bin .fdv (.var 3) (.cint 6144)) (.cint 7)) (.cint 0))) (.cons (.asg 7 (.idx (.lst (.cons (.cint 0) (.cons (.bin .add (.idx (.var 2) (.cint 2)) (.cint 1)) .nil))) (.bin .mdl (.bin .fdv (.var 3) (.cint 768)) (.cint 2))))
  .nil) .nil)
  (.cons (.asg 8 (.idx (.lst (.cons (.bin .mdl (.bin .fdv (.var 3) (.cint 50000)) (.cint 100)) (.cons (.bin .mdl (.bin .fdv (.var 3) (.cint 50000)) (.cint 12)) (.cons (.cint 99) (.cons (.cint 100) .nil))))) (.bin .mdl (.bin .fdv (.var 3) (.cint 43008)) (.cint 4))))
  (.cons (.own 9 (.lst (.cons (.var 5) .nil)))
  (.cons (.iff (.val (.cmp .isin (.var 5) (.tup (.cons (.cstr [115,117,109]) (.cons (.cstr [115,101,101,110]) (.cons (.cstr [99,111,117,110,116]) .nil)))))) (.cons (.app 9 (.pri .str (.cons (.var 8) .nil)))
  .nil) .nil)
  (.cons (.iff (.val (.cmp .isin (.var 5) (.tup (.cons (.cstr [99,111,117,110,116]) (.cons (.cstr [106,111,105,110,101,100]) (.cons (.cstr [110,111,115,113,117,97,114,101]) (.cons (.cstr [114,105,110,103]) .nil))))))) (.cons (.app 9 (.pri .str (.cons (.var 7) .nil)))
  .nil) .nil)
  (.cons (.iff (.val (.cmp .isin (.var 5) (.tup (.cons (.cstr [117,110,108,105,107,101]) (.cons (.cstr [115,117,109]) (.cons (.cstr [114,105,115,105,110,103]) (.cons (.cstr [115,101,101,110]) (.cons (.cstr [99,111,117,110,116]) .nil)))))))) (.cons (.own 9 (.bin .add (.var 9) (.lc [10] (.any (.var 6)) [10] .nil (.pri .str (.cons (.var 10) .nil)))))
  .nil) .nil)
  (.cons (.iff (.val (.cmp .eq (.bin .mdl (.bin .fdv (.var 3) (.cint 43008)) (.cint 9)) (.cint 0))) (.cons (.popx 9 (.bin .mdl (.bin .fdv (.var 3) (.cint 128)) (.pri .len (.cons (.var 9) .nil))))
  .nil) .nil)
  (.cons (.ret (.bm1 .join (.cstr [32]) (.var 9)))
  .nil))))))))))))))
def qeq:Env:={ fn:=[("_law_mixed",g__law_mixed),("_law_cells",g__law_cells)],gc:=[],mn:=[],mt:=qaZ [],fs:=[],fi:=qa0 [],nw:=[],ck:=[],ik:=[],xk:=[] }
def g__law_row:List D→RE ER:=qc7 qeq 3 8 qdd
def qcs:Sms:=(.cons (.asg 1 (.cstr [48,49,50,51,52,53,54,55,56,57,32,48,49,50,51,52,53,54,55,56,57,32,108,107,101,115,116,114,105,103,109,111,32,33,34,35,36,38,39,40,41,42,43,44,45,46,47,58,59,60,61,62,63,64,65,66,67,68,69,70,71,72,73,74,75,76,77,78,79,80,81,82,83,84,85,86,87,88,89,90,91,93,94,95,96,123,124,125,126]))
  (.cons (.asg 1 (.bin .add (.var 1) (.cstr [97,98,99,100,101,102,103,104,105,106,107,108,109,110,111,112,113,114,115,116,117,118,119,120,121,122,92])))
  (.cons (.ret (.idx (.var 1) (.bin .mdl (.var 0) (.pri .len (.cons (.var 1) .nil)))))
  .nil)))
def qdK:Env:={ fn:=[],gc:=[],mn:=[],mt:=qaZ [],fs:=[],fi:=qa0 [],nw:=[],ck:=[],ik:=[],xk:=[] }
def g__law_sign:List D→RE ER:=qc7 qdK 1 1 qcs
def qbx:Sms:=(.cons (.asg 2 (.bin .mdl (.var 1) (.cint 10)))
  (.cons (.asg 3 (.bin .mdl (.bin .fdv (.var 1) (.cint 10)) (.bin .add (.pri .len (.cons (.var 0) .nil)) (.cint 1))))
  (.cons (.iff (.val (.cmp .eq (.var 2) (.cint 0))) (.cons (.ret (.bin .add (.bin .add (.slc (.var 0) .nil (.cons (.var 3) .nil)) (.call 0 (.cons (.bin .fdv (.var 1) (.cint 1000)) .nil))) (.slc (.var 0) (.cons (.var 3) .nil) .nil)))
  .nil) .nil)
  (.cons (.iff (.val (.cmp .eq (.var 2) (.cint 1))) (.cons (.ret (.bin .add (.bin .add (.slc (.var 0) .nil (.cons (.var 3) .nil)) (.call 0 (.cons (.bin .fdv (.var 1) (.cint 1000)) .nil))) (.slc (.var 0) (.cons (.bin .add (.var 3) (.cint 1)) .nil) .nil)))
  .nil) .nil)
  (.cons (.iff (.val (.cmp .eq (.var 2) (.cint 2))) (.cons (.ret (.bin .add (.slc (.var 0) .nil (.cons (.var 3) .nil)) (.slc (.var 0) (.cons (.bin .add (.var 3) (.cint 1)) .nil) .nil)))
  .nil) .nil)
  (.cons (.iff (.val (.cmp .eq (.var 2) (.cint 3))) (.cons (.ret (.bin .add (.slc (.var 0) .nil (.cons (.var 3) .nil)) (.slc (.var 0) (.cons (.bin .mdl (.bin .fdv (.var 1) (.cint 1000)) (.bin .add (.pri .len (.cons (.var 0) .nil)) (.cint 1))) .nil) .nil)))
  .nil) .nil)
  (.cons (.iff (.val (.cmp .eq (.var 2) (.cint 4))) (.cons (.ret (.idx (.lst (.cons .cnon (.cons (.cbl true) (.cons (.var 1) (.cons (.lst (.cons (.var 0) .nil)) (.cons (.tup (.cons (.var 0) .nil)) (.cons (.cstr []) (.cons (.bin .add (.cstr [32]) (.var 0)) (.cons (.bin .add (.var 0) (.cstr [32])) (.cons (.upr (.var 0)) .nil)))))))))) (.bin .mdl (.bin .fdv (.var 1) (.cint 10)) (.cint 9))))
  .nil) .nil)
  (.cons (.ret (.var 0))
  .nil))))))))
def qb0:Env:={ fn:=[("_law_sign",g__law_sign)],gc:=[],mn:=[],mt:=qaZ [],fs:=[],fi:=qa0 [],nw:=[],ck:=[],ik:=[],xk:=[] }
def g__law_spoiled:List D→RE ER:=qc7 qb0 2 2 qbx
def qcI:Sms:=(.cons (.iff (.bop false (.cons (.not (.val (.chn .le .le (.cint 1) (.pri .len (.cons (.var 0) .nil)) (.glo 0)))) (.cons (.bop true (.cons (.val (.cmp .eq (.idx (.var 0) (.cint 0)) (.cstr [48]))) (.cons (.val (.cmp .gt (.pri .len (.cons (.var 0) .nil)) (.cint 1))) .nil))) .nil))) (.cons (.rse 0)
  .nil) .nil)
  (.cons (.for (.any (.var 0)) [1] (.cons (.iff (.val (.cmp .nin (.var 1) (.glo 1))) (.cons (.rse 0)
  .nil) .nil)
  .nil))
  (.cons (.ret (.pri .int (.cons (.var 0) .nil)))
  .nil)))
def qdH:Env:={ fn:=[],gc:=[("LONGEST",.int 2),("FIGURES",.str [48,49,50,51,52,53,54,55,56,57])],mn:=[],mt:=qaZ [],fs:=[],fi:=qa0 [],nw:=[],ck:=[],ik:=[],xk:=[33] }
def g_number_of:List D→RE ER:=qc7 qdH 1 1 qcI
def qcv:Sms:=(.cons (.iff (.bop false (.cons (.val (.cmp .ge (.var 2) (.pri .len (.cons (.var 1) .nil)))) (.cons (.not (.val (.chn .le .le (.cint 1) (.idx (.var 1) (.var 2)) (.idx (.var 0) (.cint 2))))) .nil))) (.cons (.rse 0)
  .nil) .nil)
  (.cons (.ret (.idx (.var 1) (.var 2)))
  .nil))
def qdG:Env:={ fn:=[],gc:=[],mn:=[],mt:=qaZ [],fs:=[],fi:=qa0 [],nw:=[],ck:=[],ik:=[],xk:=[33] }
def g_sign_told:List D→RE ER:=qc7 qdG 3 0 qcv
def qcf:Sms:=(.cons (.ret (.bin .mul (.idx (.var 0) (.cint 0)) (.idx (.var 0) (.cint 1))))
  .nil)
def qc3:Env:={ fn:=[],gc:=[],mn:=[],mt:=qaZ [],fs:=[],fi:=qa0 [],nw:=[],ck:=[],ik:=[],xk:=[] }
def g_many_cells:List D→RE ER:=qc7 qc3 1 0 qcf
def qab:Sms:=(.cons (.fset 0 (.var 1))
  (.cons (.fset 1 (.pri .list (.cons (.var 2) .nil)))
  (.cons (.fset 2 (.var 3))
  (.cons (.fset 3 (.var 4))
  .nil))))
def qad:Env:={ fn:=[],gc:=[],mn:=[],mt:=qaZ [],fs:=[],fi:=qa0 [(0,0,0),(1,0,0),(2,0,0),(3,0,0),(4,0,0),(5,0,0),(6,0,0),(7,0,0),(0,1,1),(1,1,1),(2,1,1),(3,1,1),(4,1,1),(5,1,1),(6,1,1),(7,1,1),(0,2,2),(1,2,2),(2,2,2),(3,2,2),(4,2,2),(5,2,2),(6,2,2),(7,2,2),(0,3,3),(1,3,3),(2,3,3),(3,3,3),(4,3,3),(5,3,3),(6,3,3),(7,3,3)],nw:=[],ck:=[],ik:=[],xk:=[] }
def ini_Unlike:List D→RE (List D):=qmy qad 0 4 4 0 qab
def ini_Total:List D→RE (List D):=qmy qad 1 4 4 0 qab
def ini_Rising:List D→RE (List D):=qmy qad 2 4 4 0 qab
def ini_Seen:List D→RE (List D):=qmy qad 3 4 4 0 qab
def ini_Counted:List D→RE (List D):=qmy qad 4 4 4 0 qab
def ini_Joined:List D→RE (List D):=qmy qad 5 4 4 0 qab
def ini_NoSquare:List D→RE (List D):=qmy qad 6 4 4 0 qab
def ini_Ring:List D→RE (List D):=qmy qad 7 4 4 0 qab
def qcg:Sms:=(.cons (.iff (.val (.cmp .ne (.pri .len (.cons (.var 2) .nil)) (.cint 1))) (.cons (.rse 0)
  .nil) .nil)
  (.cons (.asg 3 (.call 0 (.cons (.var 0) (.cons (.var 2) (.cons (.cint 0) .nil)))))
  (.cons (.asg 4 (.lrng (.cons (.call 1 (.cons (.var 0) .nil)) .nil)))
  (.cons (.iff (.val (.cmp .eq (.var 1) (.cstr [106,111,105,110,101,100]))) (.cons (.ret (.new 0 (.cons (.var 0) (.cons (.var 4) (.cons (.cint 0) (.cons (.var 3) .nil))))))
  .nil) .nil)
  (.cons (.iff (.val (.cmp .eq (.var 1) (.cstr [110,111,115,113,117,97,114,101]))) (.cons (.ret (.new 1 (.cons (.var 0) (.cons (.var 4) (.cons (.cint 0) (.cons (.var 3) .nil))))))
  .nil) .nil)
  (.cons (.ret (.new 2 (.cons (.var 0) (.cons (.var 4) (.cons (.cint 0) (.cons (.var 3) .nil))))))
  .nil))))))
def qcT:Env:={ fn:=[("sign_told",g_sign_told),("many_cells",g_many_cells)],gc:=[],mn:=[],mt:=qaZ [],fs:=[],fi:=qa0 [],nw:=[(5,ini_Joined),(6,ini_NoSquare),(7,ini_Ring)],ck:=[],ik:=[],xk:=[33] }
def g_whole_rule:List D→RE ER:=qc7 qcT 3 2 qcg
def qb5:Sms:=(.cons (.iff (.bop false (.cons (.val (.cmp .eq (.var 1) (.lst .nil))) (.cons (.val (.cmp .ne (.lset (.var 1)) (.pri .len (.cons (.var 1) .nil)))) (.cons (.val (.cmp .ge (.pri .max1 (.cons (.var 1) .nil)) (.call 0 (.cons (.var 0) .nil)))) .nil)))) (.cons (.rse 0)
  .nil) .nil)
  (.cons (.ret (.var 1))
  .nil))
def qc1:Env:={ fn:=[("many_cells",g_many_cells)],gc:=[],mn:=[],mt:=qaZ [],fs:=[],fi:=qa0 [],nw:=[],ck:=[],ik:=[],xk:=[33] }
def g_cells_told:List D→RE ER:=qc7 qc1 2 0 qb5
def qcA:Sms:=(.cons (.iff (.not (.val (.isi (.var 1) .str))) (.cons (.rse 0)
  .nil) .nil)
  (.cons (.asg 2 (.bm1 .split (.var 1) (.cstr [32])))
  (.cons (.asg 3 (.idx (.var 2) (.cint 0)))
  (.cons (.iff (.val (.cmp .nin (.var 3) (.tup (.cons (.cstr [117,110,108,105,107,101]) (.cons (.cstr [115,117,109]) (.cons (.cstr [114,105,115,105,110,103]) (.cons (.cstr [115,101,101,110]) (.cons (.cstr [99,111,117,110,116]) (.cons (.cstr [106,111,105,110,101,100]) (.cons (.cstr [110,111,115,113,117,97,114,101]) (.cons (.cstr [114,105,110,103]) .nil))))))))))) (.cons (.rse 0)
  .nil) .nil)
  (.cons (.asg 4 (.lcx [5] (.any (.slc (.var 2) (.cons (.cint 1) .nil) .nil)) [5] .nil (.call 0 (.cons (.var 5) .nil))))
  (.cons (.iff (.val (.cmp .isin (.var 3) (.tup (.cons (.cstr [106,111,105,110,101,100]) (.cons (.cstr [110,111,115,113,117,97,114,101]) (.cons (.cstr [114,105,110,103]) .nil)))))) (.cons (.ret (.call 1 (.cons (.var 0) (.cons (.var 3) (.cons (.var 4) .nil)))))
  .nil) .nil)
  (.cons (.iff (.val (.cmp .eq (.var 3) (.cstr [117,110,108,105,107,101]))) (.cons (.ret (.new 0 (.cons (.var 0) (.cons (.call 2 (.cons (.var 0) (.cons (.var 4) .nil))) (.cons (.cint 0) (.cons (.cint 0) .nil))))))
  .nil) .nil)
  (.cons (.iff (.val (.cmp .eq (.var 3) (.cstr [114,105,115,105,110,103]))) (.cons (.ret (.new 1 (.cons (.var 0) (.cons (.call 2 (.cons (.var 0) (.cons (.var 4) .nil))) (.cons (.cint 0) (.cons (.cint 0) .nil))))))
  .nil) .nil)
  (.cons (.iff (.val (.cmp .eq (.var 3) (.cstr [99,111,117,110,116]))) (.cons (.asg 6 (.call 3 (.cons (.var 0) (.cons (.var 4) (.cons (.cint 1) .nil)))))
  (.cons (.ret (.new 2 (.cons (.var 0) (.cons (.call 2 (.cons (.var 0) (.cons (.slc (.var 4) (.cons (.cint 2) .nil) .nil) .nil))) (.cons (.idx (.var 4) (.cint 0)) (.cons (.var 6) .nil))))))
  .nil)) .nil)
  (.cons (.asg 7 (.call 2 (.cons (.var 0) (.cons (.slc (.var 4) (.cons (.cint 1) .nil) .nil) .nil))))
  (.cons (.iff (.val (.cmp .eq (.var 3) (.cstr [115,117,109]))) (.cons (.ret (.new 3 (.cons (.var 0) (.cons (.var 7) (.cons (.idx (.var 4) (.cint 0)) (.cons (.cint 0) .nil))))))
  .nil) .nil)
  (.cons (.ret (.new 4 (.cons (.var 0) (.cons (.var 7) (.cons (.idx (.var 4) (.cint 0)) (.cons (.cint 0) .nil))))))
  .nil))))))))))))
def qdr:Env:={ fn:=[("number_of",g_number_of),("whole_rule",g_whole_rule),("cells_told",g_cells_told),("sign_told",g_sign_told)],gc:=[],mn:=[],mt:=qaZ [],fs:=[],fi:=qa0 [],nw:=[(0,ini_Unlike),(2,ini_Rising),(4,ini_Counted),(1,ini_Total),(3,ini_Seen)],ck:=[],ik:=[],xk:=[33] }
def g_read_rule:List D→RE ER:=qc7 qdr 2 6 qcA
def qb8:Sms:=(.cons (.ret (.bop true (.cons (.isi (.var 0) .int) (.cons (.bnot (.isi (.var 0) .bool)) .nil))))
  .nil)
def qc8:Env:={ fn:=[],gc:=[],mn:=[],mt:=qaZ [],fs:=[],fi:=qa0 [],nw:=[],ck:=[],ik:=[],xk:=[] }
def g__law_whole:List D→RE ER:=qc7 qc8 1 0 qb8
def qbM:Sms:=(.cons (.ret (.cstr [117,110,108,105,107,101]))
  .nil)
def qck:Env:={ fn:=[],gc:=[],mn:=[],mt:=qaZ [],fs:=[],fi:=qa0 [],nw:=[],ck:=[],ik:=[],xk:=[] }
def g_Unlike_name:List D→RE ER:=qc7 qck 1 0 qbM
def qcb:Sms:=(.cons (.ret (.cstr [115,117,109]))
  .nil)
def qc6:Env:={ fn:=[],gc:=[],mn:=[],mt:=qaZ [],fs:=[],fi:=qa0 [],nw:=[],ck:=[],ik:=[],xk:=[] }
def g_Total_name:List D→RE ER:=qc7 qc6 1 0 qcb
def qbT:Sms:=(.cons (.ret (.cstr [114,105,115,105,110,103]))
  .nil)
def qcm:Env:={ fn:=[],gc:=[],mn:=[],mt:=qaZ [],fs:=[],fi:=qa0 [],nw:=[],ck:=[],ik:=[],xk:=[] }
def g_Rising_name:List D→RE ER:=qc7 qcm 1 0 qbT
def qcJ:Sms:=(.cons (.ret (.cstr [115,101,101,110]))
  .nil)
def qdp:Env:={ fn:=[],gc:=[],mn:=[],mt:=qaZ [],fs:=[],fi:=qa0 [],nw:=[],ck:=[],ik:=[],xk:=[] }
def g_Seen_name:List D→RE ER:=qc7 qdp 1 0 qcJ
def qbw:Sms:=(.cons (.ret (.cstr [99,111,117,110,116]))
  .nil)
def qb4:Env:={ fn:=[],gc:=[],mn:=[],mt:=qaZ [],fs:=[],fi:=qa0 [],nw:=[],ck:=[],ik:=[],xk:=[] }
def g_Counted_name:List D→RE ER:=qc7 qb4 1 0 qbw
def qbI:Sms:=(.cons (.ret (.cstr [106,111,105,110,101,100]))
  .nil)
def qcp:Env:={ fn:=[],gc:=[],mn:=[],mt:=qaZ [],fs:=[],fi:=qa0 [],nw:=[],ck:=[],ik:=[],xk:=[] }
def g_Joined_name:List D→RE ER:=qc7 qcp 1 0 qbI
def qbi:Sms:=(.cons (.ret (.cstr [110,111,115,113,117,97,114,101]))
  .nil)
def qbJ:Env:={ fn:=[],gc:=[],mn:=[],mt:=qaZ [],fs:=[],fi:=qa0 [],nw:=[],ck:=[],ik:=[],xk:=[] }
def g_NoSquare_name:List D→RE ER:=qc7 qbJ 1 0 qbi
def qcy:Sms:=(.cons (.ret (.cstr [114,105,110,103]))
  .nil)
def qdC:Env:={ fn:=[],gc:=[],mn:=[],mt:=qaZ [],fs:=[],fi:=qa0 [],nw:=[],ck:=[],ik:=[],xk:=[] }
def g_Ring_name:List D→RE ER:=qc7 qdC 1 0 qcy
def qas:Sms:=(.cons (.ret (.pri .list (.cons (.fld (.var 0) 0) .nil)))
  .nil)
def qay:Env:={ fn:=[],gc:=[],mn:=[],mt:=qaZ [],fs:=[],fi:=qa0 [(0,0,1),(1,0,1),(2,0,1),(3,0,1),(4,0,1),(5,0,1),(6,0,1),(7,0,1)],nw:=[],ck:=[],ik:=[],xk:=[] }
def g_Rule_spots:List D→RE ER:=qc7 qay 1 0 qas
def qaj:Sms:=(.cons (.ret (.fld (.var 0) 0))
  .nil)
def qan:Env:={ fn:=[],gc:=[],mn:=[],mt:=qaZ [],fs:=[],fi:=qa0 [(0,0,2),(1,0,2),(2,0,2),(3,0,2),(4,0,2),(5,0,2),(6,0,2),(7,0,2)],nw:=[],ck:=[],ik:=[],xk:=[] }
def g_Rule_number:List D→RE ER:=qc7 qan 1 0 qaj
def qaE:Sms:=(.cons (.ret (.fld (.var 0) 0))
  .nil)
def qaQ:Env:={ fn:=[],gc:=[],mn:=[],mt:=qaZ [],fs:=[],fi:=qa0 [(0,0,3),(1,0,3),(2,0,3),(3,0,3),(4,0,3),(5,0,3),(6,0,3),(7,0,3)],nw:=[],ck:=[],ik:=[],xk:=[] }
def g_Rule_sign:List D→RE ER:=qc7 qaQ 1 0 qaE
def qav:Sms:=(.cons (.ret (.pri .list (.cons (.fld (.var 0) 0) .nil)))
  .nil)
def qaK:Env:={ fn:=[],gc:=[],mn:=[],mt:=qaZ [],fs:=[],fi:=qa0 [(0,0,1),(1,0,1),(2,0,1),(3,0,1),(4,0,1),(5,0,1),(6,0,1),(7,0,1)],nw:=[],ck:=[],ik:=[],xk:=[] }
def g_Rule_told_numbers:List D→RE ER:=qc7 qaK 1 0 qav
def qaG:Sms:=(.cons (.ret (.bin .add (.lst (.cons (.fld (.var 0) 0) .nil)) (.fld (.var 0) 1)))
  .nil)
def qa3:Env:={ fn:=[],gc:=[],mn:=[],mt:=qaZ [],fs:=[],fi:=qa0 [(0,0,2),(1,0,2),(2,0,2),(3,0,2),(4,0,2),(5,0,2),(6,0,2),(7,0,2),(0,1,1),(1,1,1),(2,1,1),(3,1,1),(4,1,1),(5,1,1),(6,1,1),(7,1,1)],nw:=[],ck:=[],ik:=[],xk:=[] }
def g_Total_told_numbers:List D→RE ER:=qc7 qa3 1 0 qaG
def qaP:Sms:=(.cons (.ret (.bin .add (.lst (.cons (.fld (.var 0) 0) .nil)) (.fld (.var 0) 1)))
  .nil)
def qbb:Env:={ fn:=[],gc:=[],mn:=[],mt:=qaZ [],fs:=[],fi:=qa0 [(0,0,2),(1,0,2),(2,0,2),(3,0,2),(4,0,2),(5,0,2),(6,0,2),(7,0,2),(0,1,1),(1,1,1),(2,1,1),(3,1,1),(4,1,1),(5,1,1),(6,1,1),(7,1,1)],nw:=[],ck:=[],ik:=[],xk:=[] }
def g_Seen_told_numbers:List D→RE ER:=qc7 qbb 1 0 qaP
def qau:Sms:=(.cons (.ret (.bin .add (.lst (.cons (.fld (.var 0) 0) (.cons (.fld (.var 0) 1) .nil))) (.fld (.var 0) 2)))
  .nil)
def qaS:Env:={ fn:=[],gc:=[],mn:=[],mt:=qaZ [],fs:=[],fi:=qa0 [(0,0,2),(1,0,2),(2,0,2),(3,0,2),(4,0,2),(5,0,2),(6,0,2),(7,0,2),(0,1,3),(1,1,3),(2,1,3),(3,1,3),(4,1,3),(5,1,3),(6,1,3),(7,1,3),(0,2,1),(1,2,1),(2,2,1),(3,2,1),(4,2,1),(5,2,1),(6,2,1),(7,2,1)],nw:=[],ck:=[],ik:=[],xk:=[] }
def g_Counted_told_numbers:List D→RE ER:=qc7 qaS 1 0 qau
def qaw:Sms:=(.cons (.ret (.lst (.cons (.fld (.var 0) 0) .nil)))
  .nil)
def qaX:Env:={ fn:=[],gc:=[],mn:=[],mt:=qaZ [],fs:=[],fi:=qa0 [(0,0,3),(1,0,3),(2,0,3),(3,0,3),(4,0,3),(5,0,3),(6,0,3),(7,0,3)],nw:=[],ck:=[],ik:=[],xk:=[] }
def g_Joined_told_numbers:List D→RE ER:=qc7 qaX 1 0 qaw
def qaq:Sms:=(.cons (.ret (.lst (.cons (.fld (.var 0) 0) .nil)))
  .nil)
def qaH:Env:={ fn:=[],gc:=[],mn:=[],mt:=qaZ [],fs:=[],fi:=qa0 [(0,0,3),(1,0,3),(2,0,3),(3,0,3),(4,0,3),(5,0,3),(6,0,3),(7,0,3)],nw:=[],ck:=[],ik:=[],xk:=[] }
def g_NoSquare_told_numbers:List D→RE ER:=qc7 qaH 1 0 qaq
def qaN:Sms:=(.cons (.ret (.lst (.cons (.fld (.var 0) 0) .nil)))
  .nil)
def qbe:Env:={ fn:=[],gc:=[],mn:=[],mt:=qaZ [],fs:=[],fi:=qa0 [(0,0,3),(1,0,3),(2,0,3),(3,0,3),(4,0,3),(5,0,3),(6,0,3),(7,0,3)],nw:=[],ck:=[],ik:=[],xk:=[] }
def g_Ring_told_numbers:List D→RE ER:=qc7 qbe 1 0 qaN
def qaD:Sms:=(.cons (.ret (.bm1 .join (.cstr [32]) (.bin .add (.lst (.cons (.mth 0 (.var 0) .nil) .nil)) (.lc [1] (.any (.mth 1 (.var 0) .nil)) [1] .nil (.pri .str (.cons (.var 1) .nil))))))
  .nil)
def qaL:Env:={ fn:=[],gc:=[],mn:=[],mt:=qaZ [(0,0,g_Unlike_name),(1,0,g_Total_name),(2,0,g_Rising_name),(3,0,g_Seen_name),(4,0,g_Counted_name),(5,0,g_Joined_name),(6,0,g_NoSquare_name),(7,0,g_Ring_name),(0,1,g_Rule_told_numbers),(1,1,g_Total_told_numbers),(2,1,g_Rule_told_numbers),(3,1,g_Seen_told_numbers),(4,1,g_Counted_told_numbers),(5,1,g_Joined_told_numbers),(6,1,g_NoSquare_told_numbers),(7,1,g_Ring_told_numbers)],fs:=[],fi:=qa0 [],nw:=[],ck:=[],ik:=[],xk:=[] }
def g_Rule_line:List D→RE ER:=qc7 qaL 1 1 qaD
def qcu:Sms:=(.cons (.asg 3 .cnon)
  (.cons (.asg 4 .cnon)
  (.cons (.tryx 0 5 4 (.as 3 (.call 0 (.cons (.var 0) (.cons (.var 1) .nil)))))
  (.cons (.iff (.val (.isN (.var 2))) (.cons (.iff (.bop false (.cons (.val (.isN (.var 4))) (.cons (.not (.val (.isc (.var 4) 1))) (.cons (.not (.val (.isc (.var 4) 2))) .nil)))) (.cons (.ret (.cbl false))
  .nil) .nil)
  (.cons (.iff (.val (.iscT (.var 4) [3,4,5,6,7,8])) (.cons (.ret (.cbl false))
  .nil) .nil)
  (.cons (.ret (.bnot (.iscT (.var 4) [9,10,11,12])))
  .nil))) .nil)
  (.cons (.iff (.not (.val (.isc (.var 3) 13))) (.cons (.ret (.cbl false))
  .nil) .nil)
  (.cons (.iff (.val (.cmp .ne (.tup (.cons (.mth 0 (.var 3) .nil) (.cons (.mth 1 (.var 3) .nil) (.cons (.mth 2 (.var 3) .nil) (.cons (.mth 3 (.var 3) .nil) .nil))))) (.var 2))) (.cons (.ret (.cbl false))
  .nil) .nil)
  (.cons (.ret (.bop true (.cons (.call 1 (.cons (.mth 2 (.var 3) .nil) .nil)) (.cons (.call 1 (.cons (.mth 3 (.var 3) .nil) .nil)) (.cons (.cmp .eq (.mth 4 (.var 3) .nil) (.var 1)) .nil)))))
  .nil)))))))
def qdM:Env:={ fn:=[("read_rule",g_read_rule),("_law_whole",g__law_whole)],gc:=[],mn:=[],mt:=qaZ [(0,0,g_Unlike_name),(1,0,g_Total_name),(2,0,g_Rising_name),(3,0,g_Seen_name),(4,0,g_Counted_name),(5,0,g_Joined_name),(6,0,g_NoSquare_name),(7,0,g_Ring_name),(0,1,g_Rule_spots),(1,1,g_Rule_spots),(2,1,g_Rule_spots),(3,1,g_Rule_spots),(4,1,g_Rule_spots),(5,1,g_Rule_spots),(6,1,g_Rule_spots),(7,1,g_Rule_spots),(0,2,g_Rule_number),(1,2,g_Rule_number),(2,2,g_Rule_number),(3,2,g_Rule_number),(4,2,g_Rule_number),(5,2,g_Rule_number),(6,2,g_Rule_number),(7,2,g_Rule_number),(0,3,g_Rule_sign),(1,3,g_Rule_sign),(2,3,g_Rule_sign),(3,3,g_Rule_sign),(4,3,g_Rule_sign),(5,3,g_Rule_sign),(6,3,g_Rule_sign),(7,3,g_Rule_sign),(0,4,g_Rule_line),(1,4,g_Rule_line),(2,4,g_Rule_line),(3,4,g_Rule_line),(4,4,g_Rule_line),(5,4,g_Rule_line),(6,4,g_Rule_line),(7,4,g_Rule_line)],fs:=[],fi:=qa0 [],nw:=[],ck:=[fun c=>List.lookup c [(33,true)],fun c=>List.lookup c [(33,true)],fun c=>List.lookup c [(33,true)],fun c=>List.lookup c [(33,false)],fun c=>List.lookup c [(33,false)],fun c=>List.lookup c [(33,false)],fun c=>List.lookup c [(33,false)],fun c=>List.lookup c [(33,false)],fun c=>List.lookup c [(33,false)],fun c=>List.lookup c [(33,false)],fun c=>List.lookup c [(33,false)],fun c=>List.lookup c [(33,false)],fun c=>List.lookup c [(33,false)],fun c=>List.lookup c []],ik:=[fun c=>List.lookup c [(0,false),(1,false),(2,false),(3,false),(4,false),(5,false),(6,false),(7,false)],fun c=>List.lookup c [(0,false),(1,false),(2,false),(3,false),(4,false),(5,false),(6,false),(7,false)],fun c=>List.lookup c [],fun c=>List.lookup c [(0,false),(1,false),(2,false),(3,false),(4,false),(5,false),(6,false),(7,false)],fun c=>List.lookup c [(0,false),(1,false),(2,false),(3,false),(4,false),(5,false),(6,false),(7,false)],fun c=>List.lookup c [(0,false),(1,false),(2,false),(3,false),(4,false),(5,false),(6,false),(7,false)],fun c=>List.lookup c [(0,false),(1,false),(2,false),(3,false),(4,false),(5,false),(6,false),(7,false)],fun c=>List.lookup c [(0,false),(1,false),(2,false),(3,false),(4,false),(5,false),(6,false),(7,false)],fun c=>List.lookup c [(0,false),(1,false),(2,false),(3,false),(4,false),(5,false),(6,false),(7,false)],fun c=>List.lookup c [(0,false),(1,false),(2,false),(3,false),(4,false),(5,false),(6,false),(7,false)],fun c=>List.lookup c [(0,false),(1,false),(2,false),(3,false),(4,false),(5,false),(6,false),(7,false)],fun c=>List.lookup c [(0,false),(1,false),(2,false),(3,false),(4,false),(5,false),(6,false),(7,false)],fun c=>List.lookup c [(0,false),(1,false),(2,false),(3,false),(4,false),(5,false),(6,false),(7,false)],fun c=>List.lookup c [(0,true),(1,true),(2,true),(3,true),(4,true),(5,true),(6,true),(7,true)]],xk:=[] }
def g__law_read:List D→RE ER:=qc7 qdM 3 3 qcu
def qbW:Sms:=(.cons (.iff (.bop false (.cons (.val (.cmp .eq (.pri .len (.cons (.var 0) .nil)) (.cint 0))) (.cons (.val (.cmp .gt (.pri .len (.cons (.lc [1] (.any (.var 0)) [1] (.cons (.val (.cmp .nin (.var 1) (.cstr [48,49,50,51,52,53,54,55,56,57]))) .nil) (.var 1)) .nil)) (.cint 0))) .nil))) (.cons (.ret .cnon)
  .nil) .nil)
  (.cons (.iff (.bop false (.cons (.val (.cmp .gt (.pri .len (.cons (.var 0) .nil)) (.cint 2))) (.cons (.bop true (.cons (.val (.cmp .eq (.pri .len (.cons (.var 0) .nil)) (.cint 2))) (.cons (.val (.cmp .eq (.idx (.var 0) (.cint 0)) (.cstr [48]))) .nil))) .nil))) (.cons (.ret .cnon)
  .nil) .nil)
  (.cons (.asg 2 (.cint 0))
  (.cons (.for (.any (.var 0)) [1] (.cons (.asg 2 (.bin .add (.bin .mul (.cint 10) (.var 2)) (.inxS (.cstr [48,49,50,51,52,53,54,55,56,57]) (.var 1))))
  .nil))
  (.cons (.ret (.var 2))
  .nil)))))
def qcj:Env:={ fn:=[],gc:=[],mn:=[],mt:=qaZ [],fs:=[],fi:=qa0 [],nw:=[],ck:=[],ik:=[],xk:=[] }
def g__law_number:List D→RE ER:=qc7 qcj 1 2 qbW
def qbq:Sms:=(.cons (.asg 5 (.bin .mul (.idx (.var 0) (.cint 0)) (.idx (.var 0) (.cint 1))))
  (.cons (.iff (.bop false (.cons (.val (.cmp .eq (.pri .len (.cons (.var 4) .nil)) (.cint 0))) (.cons (.val (.cmp .lt (.lset (.var 4)) (.pri .len (.cons (.var 4) .nil)))) (.cons (.val (.cmp .ge (.pri .max1 (.cons (.var 4) .nil)) (.var 5))) .nil)))) (.cons (.ret .cnon)
  .nil) .nil)
  (.cons (.iff (.bop true (.cons (.val (.cmp .eq (.var 1) (.cstr [99,111,117,110,116]))) (.cons (.not (.val (.chn .le .le (.cint 1) (.var 3) (.idx (.var 0) (.cint 2))))) .nil))) (.cons (.ret .cnon)
  .nil) .nil)
  (.cons (.ret (.tup (.cons (.var 1) (.cons (.var 4) (.cons (.var 2) (.cons (.var 3) .nil))))))
  .nil))))
def qbS:Env:={ fn:=[],gc:=[],mn:=[],mt:=qaZ [],fs:=[],fi:=qa0 [],nw:=[],ck:=[],ik:=[],xk:=[] }
def g__law_of_cells:List D→RE ER:=qc7 qbS 5 1 qbq
def qdn:Sms:=(.cons (.iff (.not (.val (.isi (.var 1) .str))) (.cons (.ret .cnon)
  .nil) .nil)
  (.cons (.asg 2 (.bm1 .split (.var 1) (.cstr [32])))
  (.cons (.asg 3 (.idx (.var 2) (.cint 0)))
  (.cons (.asg 4 (.lc [5] (.any (.slc (.var 2) (.cons (.cint 1) .nil) .nil)) [5] .nil (.call 0 (.cons (.var 5) .nil))))
  (.cons (.iff (.val (.cmp .isin .cnon (.var 4))) (.cons (.ret .cnon)
  .nil) .nil)
  (.cons (.iff (.val (.cmp .isin (.var 3) (.tup (.cons (.cstr [106,111,105,110,101,100]) (.cons (.cstr [110,111,115,113,117,97,114,101]) (.cons (.cstr [114,105,110,103]) .nil)))))) (.cons (.iff (.bop false (.cons (.val (.cmp .ne (.pri .len (.cons (.var 4) .nil)) (.cint 1))) (.cons (.not (.val (.chn .le .le (.cint 1) (.idx (.var 4) (.cint 0)) (.idx (.var 0) (.cint 2))))) .nil))) (.cons (.ret .cnon)
  .nil) .nil)
  (.cons (.ret (.tup (.cons (.var 3) (.cons (.lrng (.cons (.bin .mul (.idx (.var 0) (.cint 0)) (.idx (.var 0) (.cint 1))) .nil)) (.cons (.cint 0) (.cons (.idx (.var 4) (.cint 0)) .nil))))))
  .nil)) .nil)
  (.cons (.iff (.val (.cmp .isin (.var 3) (.tup (.cons (.cstr [117,110,108,105,107,101]) (.cons (.cstr [114,105,115,105,110,103]) .nil))))) (.cons (.ret (.call 1 (.cons (.var 0) (.cons (.var 3) (.cons (.cint 0) (.cons (.cint 0) (.cons (.var 4) .nil)))))))
  .nil) .nil)
  (.cons (.iff (.bop true (.cons (.val (.cmp .isin (.var 3) (.tup (.cons (.cstr [115,117,109]) (.cons (.cstr [115,101,101,110]) .nil))))) (.cons (.val (.cmp .gt (.pri .len (.cons (.var 4) .nil)) (.cint 1))) .nil))) (.cons (.ret (.call 1 (.cons (.var 0) (.cons (.var 3) (.cons (.idx (.var 4) (.cint 0)) (.cons (.cint 0) (.cons (.slc (.var 4) (.cons (.cint 1) .nil) .nil) .nil)))))))
  .nil) .nil)
  (.cons (.iff (.bop true (.cons (.val (.cmp .eq (.var 3) (.cstr [99,111,117,110,116]))) (.cons (.val (.cmp .gt (.pri .len (.cons (.var 4) .nil)) (.cint 2))) .nil))) (.cons (.ret (.call 1 (.cons (.var 0) (.cons (.var 3) (.cons (.idx (.var 4) (.cint 0)) (.cons (.idx (.var 4) (.cint 1)) (.cons (.slc (.var 4) (.cons (.cint 2) .nil) .nil) .nil)))))))
  .nil) .nil)
  (.cons (.ret .cnon)
  .nil))))))))))
def qex:Env:={ fn:=[("_law_number",g__law_number),("_law_of_cells",g__law_of_cells)],gc:=[],mn:=[],mt:=qaZ [],fs:=[],fi:=qa0 [],nw:=[],ck:=[],ik:=[],xk:=[] }
def g__law_due:List D→RE ER:=qc7 qex 2 4 qdn
def qnv:Sms:=(.cons (.asg 1 (.call 0 (.cons (.call 1 (.cons (.var 0) (.cons (.cint 400) .nil))) .nil)))
  (.cons (.for (.rng (.cons (.pri .min2 (.cons (.cint 12) (.cons (.bin .add (.cint 1) (.bin .fdv (.pri .len (.cons (.var 0) .nil)) (.cint 3))) .nil))) .nil)) [2] (.cons (.asg 3 (.call 2 (.cons (.var 0) (.cons (.bin .add (.cint 500) (.bin .mul (.cint 40) (.var 2))) (.cons (.var 1) .nil)))))
  (.cons (.asg 3 (.call 3 (.cons (.var 3) (.cons (.call 1 (.cons (.var 0) (.cons (.bin .add (.cint 530) (.bin .mul (.cint 40) (.var 2))) .nil))) .nil))))
  (.cons (.iff (.not (.val (.call 4 (.cons (.var 1) (.cons (.var 3) (.cons (.call 5 (.cons (.var 1) (.cons (.var 3) .nil))) .nil)))))) (.cons (.ret (.cbl false))
  .nil) .nil)
  (.cons (.iff (.not (.val (.call 4 (.cons (.var 1) (.cons (.cstr [114,105,115,105,110,103,32,48]) (.cons (.tup (.cons (.cstr [114,105,115,105,110,103]) (.cons (.lst (.cons (.cint 0) .nil)) (.cons (.cint 0) (.cons (.cint 0) .nil))))) .nil)))))) (.cons (.ret (.cbl false))
  .nil) .nil)
  .nil)))))
  (.cons (.ret (.cbl true))
  .nil)))
def qpQ:Env:={ fn:=[("_law_floor",g__law_floor),("_law_mixed",g__law_mixed),("_law_row",g__law_row),("_law_spoiled",g__law_spoiled),("_law_read",g__law_read),("_law_due",g__law_due)],gc:=[],mn:=[],mt:=qaZ [],fs:=[],fi:=qa0 [],nw:=[],ck:=[],ik:=[],xk:=[] }
def g_law:List D→RE ER:=qc7 qpQ 1 3 qnv
end K18
namespace Cm
theorem qhm:∀ns:List Int,qb9 (ns.map D.int)=some ns
 |[]=>rfl
 |n::ns=>by simp[qb9,qhm ns]
theorem qjQ (n:Nat):∀ns:List Int,D.fits (ns.map D.int) n=true
 |[]=>rfl
 |m::ns=>by simp[D.fits,D.fit,qjQ n ns]
theorem qkt:∀ns ms:List Int,D.eqbs (ns.map D.int) (ms.map D.int)=decide (ns=ms)
 |[],[]=>by simp[D.eqbs]
 |[],_::_=>by simp[D.eqbs]
 |_::_,[]=>by simp[D.eqbs]
 |n::ns,m::ms=>by
  simp only[List.map_cons,D.eqbs,D.eqb,qkt ns ms]
  by_cases h:n=m<;>simp[h]
theorem qrH (ns ms:List Int):qkv (.lst (ns.map D.int)) (.lst (ms.map D.int))=.ok (decide (ns=ms)):=by
 simp[qkv,D.fit,qjQ,D.eqb,qkt]
theorem qhi {α β:Type} (f:α→β):∀(l:List α) (i:Nat),(l.map f).eraseIdx i=(l.eraseIdx i).map f
 |[],_=>rfl
 |a::l,0=>rfl
 |a::l,i+1=>by simp[qhi f l i]
theorem qh7 {α:Type}:∀(l:List α) (i:Nat) (h:i<l.length),(l[i]::l.eraseIdx i).Perm l
 |[],_,h=>absurd h (Nat.not_lt_zero _)
 |a::l,0,_=>List.Perm.refl _
 |a::l,i+1,h=>(List.Perm.swap a _ _).trans ((qh7 l i (Nat.lt_of_succ_lt_succ h)).cons a)
def IC (cs:List Nat):List Int:=cs.map fun c=>((c:Nat):Int)
theorem qvF {j:Int} (h:qos j):qrJ j=true:=by rw[qbr];exact h
theorem qvT {i j:Int} (h:qm5 i j):qrb i j=true:=by rw[qbt];exact h
theorem qxa {j:Int} (h:j≠0):nzB j=true:=by rw[qbC];exact h
theorem ql9 {n:Nat} (h:n≤LIM):leB n=true:=by rw[qat];exact h
theorem qvS {i:Int} (h:-1000000≤i∧i≤1000000):qqZ i=true:=by
 unfold qqZ
 rw[Nat.ble_eq]
 omega
theorem qvi {n:Nat} (h:n≤1000000):qmE (n:Int)=true:=by
 have:LIM=16777216:=rfl
 unfold qmE
 rw[Bool.and_eq_true,qat]
 exact⟨qvS (by omega),by omega⟩
section
variable {Γ:Env} {ss a b:Sms} {ρ ρ':List Sl} {i:Nat} {e ix:Ex} {d:D} {ds:List D} {f c:Bool}
theorem qok {n k:Nat} (h:k<n):L2.ixN n (k:Int)=some k:=by
 unfold L2.ixN
 rw[if_pos (by omega),if_pos (by omega)]
 simp
end
def qxG (r:RE ER):Bool:=match r with
 |.ok (.val (.bl true) _)=>true
 |_=>false
end Cm
namespace Cm
theorem RE.bind_assoc {α β γ:Type} (m:RE α) (f:α→RE β) (g:β→RE γ):(m.bind f).bind g=m.bind fun x=>(f x).bind g:=by cases m<;>rfl
@[simp] theorem RE.bind_pure {α:Type} (m:RE α):m.bind RE.ok=m:=by cases m<;>rfl
inductive Sh where
 |v | f | b | n | o
def ER.isF:ER→Bool
 |.fre _ _=>true
 |_=>false
def qiY:Sh→ER→Prop
 |.v,er=>er.isV=true
 |.f,er=>er.isF=true
 |.b,er=>er.isB=true
 |.n,er=>er.isB=false
 |.o,er=>er.isF=true∨(er.isV=true∧er.d=.non)
def Sh.nb:Sh→Bool
 |.b=>false
 |_=>true
def Sh.ret:Sh→Sh
 |.b=>.f
 |s=>s
structure Is (s:Sh) (t:Bool) (d:D) (er:ER):Prop where
 d:er.d=d
 s:qiY s er
 t:t=true→er.b=true
def XR {α β:Type} (r:RE β) (m:RE α) (R:α→β→Prop):Prop:=match m with
 |.bad=>True
 |.ok v=>∃x,r=.ok x∧R v x
 |.exc c fs=>r=.exc c fs
theorem XR.bind {α β γ δ:Type} {r:RE β} {m:RE α} {R:α→β→Prop} {f:β→RE γ} {g:α→RE δ} {S:δ→γ→Prop} (h:XR r m R) (k:∀v x,R v x→XR (f x) (g v) S):XR (r.bind f) (m.bind g) S:=by
 cases m with
 |bad=>trivial
 |ok v=>obtain⟨x,e,hx⟩:=h;rw[e];exact k v x hx
 |exc c fs=>have h:r=_:=h;rw[h];rfl
theorem XR.mono {α β:Type} {r:RE β} {m:RE α} {R S:α→β→Prop} (h:XR r m R) (k:∀v x,R v x→S v x):XR r m S:=by
 cases m with
 |bad=>trivial
 |ok v=>obtain⟨x,e,hx⟩:=h;exact⟨x,e,k v x hx⟩
 |exc c fs=>exact h
theorem XR.pure {α β:Type} {v:α} {x:β} {R:α→β→Prop} (h:R v x):XR (.ok x) (.ok v) R:=⟨x,rfl,h⟩
theorem XR.to {α β:Type} {r:RE β} {v:α} {R:α→β→Prop} (h:XR r (.ok v) R):∃x,r=.ok x∧R v x:=h
abbrev XE {α:Type} (Γ:Env) (e:Ex) (ρ:List Sl) (m:RE α) (en:α→D) (s:Sh) (t:Bool):Prop:=XR (ev Γ e ρ) m fun v er=>Is s t (en v) er
abbrev XT (Γ:Env) (e:Te) (ρ:List Sl) (m:RE Bool):Prop:=XR (evT Γ e ρ) m fun v x=>x=v
abbrev XI {α:Type} (Γ:Env) (e:Itx) (ρ:List Sl) (m:RE (List α)) (en:α→D) (t o:Bool):Prop:=XR (evI Γ e ρ) m fun xs w=>w.xs=xs.map en∧(t=true→w.b=true)∧(o=false→w.own=false)
abbrev Rf {α:Type} (r:RE ER) (m:RE α) (en:α→D) (s:Sh) (t:Bool):Prop:=XR r m fun v er=>Is s t (en v) er
theorem Is.val {d:D} {b t:Bool} (h:t=true→b=true):Is .v t d (.val d b):=⟨rfl,rfl,h⟩
theorem Is.fre {ds:List D} {b t:Bool} (h:t=true→b=true):Is .f t (.lst ds) (.fre ds b):=⟨rfl,rfl,h⟩
theorem xok {α:Type} {v:α} {d:D} {en:α→D} {t:Bool} (h:d=en v):XR (ok d) (.ok v) fun v er=>Is .v t (en v) er:=⟨_,rfl,h,rfl,fun _=>rfl⟩
theorem quN {α:Type} {v:α} {d:D} {b t:Bool} {en:α→D} (h:d=en v) (k:t=true→b=true):XR (RE.ok (.val d b)) (.ok v) fun v er=>Is .v t (en v) er:=⟨_,rfl,h,rfl,k⟩
theorem qqR {α:Type} {v:α} {ds:List D} {b t:Bool} {en:α→D} (h:.lst ds=en v) (k:t=true→b=true):XR (RE.ok (.fre ds b)) (.ok v) fun v er=>Is .f t (en v) er:=⟨_,rfl,h,rfl,k⟩
theorem Is.weak {s:Sh} {t:Bool} {d:D} {er:ER} (h:Is s t d er) (hs:s.nb=true):Is .n t d er:=⟨h.d,by
 have:=h.s
 cases s<;>cases er<;>simp_all[qiY,ER.isF,Sh.nb],h.t⟩
theorem Is.low {s:Sh} {t:Bool} {d:D} {er:ER} (h:Is s t d er):Is s false d er:=⟨h.d,h.s,fun e=>nomatch e⟩
abbrev eI:Int→D:=D.int
abbrev eB:Bool→D:=D.bl
abbrev eS:List Nat→D:=D.str
def eC (c:Nat):D:=.str [c]
def eU (_:Unit):D:=.non
def eD (d:D):D:=d
def eL {α:Type} (en:α→D) (xs:List α):D:=.lst (xs.map en)
def eO {α:Type} (en:α→D):Option α→D
 |none=>.non
 |some x=>en x
def eT1 {α:Type} (a:α→D) (p:α):D:=.tup [a p]
def eT2 {α β:Type} (a:α→D) (b:β→D) (p:α × β):D:=.tup [a p.1,b p.2]
def eT3 {α β γ:Type} (a:α→D) (b:β→D) (c:γ→D) (p:α × β × γ):D:=.tup [a p.1,b p.2.1,c p.2.2]
def eT4 {α β γ δ:Type} (a:α→D) (b:β→D) (c:γ→D) (d:δ→D) (p:α × β × γ × δ):D:=.tup [a p.1,b p.2.1,c p.2.2.1,d p.2.2.2]
def eT5 {α β γ δ ε:Type} (a:α→D) (b:β→D) (c:γ→D) (d:δ→D) (e:ε→D) (p:α × β × γ × δ × ε):D:=.tup [a p.1,b p.2.1,c p.2.2.1,d p.2.2.2.1,e p.2.2.2.2]
def eT6 {α β γ δ ε ζ:Type} (a:α→D) (b:β→D) (c:γ→D) (d:δ→D) (e:ε→D) (f:ζ→D) (p:α × β × γ × δ × ε × ζ):D:=.tup [a p.1,b p.2.1,c p.2.2.1,d p.2.2.2.1,e p.2.2.2.2.1,f p.2.2.2.2.2]
def eX (c:Nat):D:=.exc c []
class Flat {α:Type} (en:α→D):Prop where
 flat:∀v,(en v).flat=true
instance:Flat eI:=⟨fun _=>rfl⟩
instance:Flat eB:=⟨fun _=>rfl⟩
instance:Flat eS:=⟨fun _=>rfl⟩
instance:Flat eC:=⟨fun _=>rfl⟩
instance:Flat eU:=⟨fun _=>rfl⟩
instance:Flat eX:=⟨fun _=>rfl⟩
instance {α:Type} {en:α→D} [Flat en]:Flat (eO en):=⟨fun v=>by cases v with
 |none=>rfl
 |some x=>exact Flat.flat (en:=en) x⟩
instance {α β:Type} {a:α→D} {b:β→D} [ha:Flat a] [hb:Flat b]:Flat (eT2 a b):=⟨fun v=>by simp[eT2,ha.flat,hb.flat]⟩
instance {α β γ:Type} {a:α→D} {b:β→D} {c:γ→D} [ha:Flat a] [hb:Flat b] [hc:Flat c]:Flat (eT3 a b c):=⟨fun v=>by simp[eT3,ha.flat,hb.flat,hc.flat]⟩
instance {α β γ δ:Type} {a:α→D} {b:β→D} {c:γ→D} {d:δ→D} [ha:Flat a] [hb:Flat b] [hc:Flat c] [hd:Flat d]:Flat (eT4 a b c d):=⟨fun v=>by simp[eT4,ha.flat,hb.flat,hc.flat,hd.flat]⟩
theorem qgI {α:Type} {en:α→D} [h:Flat en]:∀xs:List α,D.flats (xs.map en)=true
 |[]=>rfl
 |x::xs=>by simp[h.flat,qgI xs]
def qoV {α:Type} (s:Sh) (t:Bool) (en:α→D):Prop:=t=true∨(s=.v∧∀v,(en v).flat=true)∨(s=.f∧∀v ds,en v=.lst ds→D.flats ds=true)
theorem qby {α:Type} {s:Sh} {en:α→D}:qoV s true en:=.inl rfl
def Sl.rd:Sl→Sl
 |.fxd d _=>.val d false
 |s=>s
def SlV (t:Bool) (d:D) (s:Sl):Prop:=∃f,s.rd=.val d f∧(t=true→f=true)
theorem qqz {s:Sl} {d:D} {f:Bool} (h:s.rd=.val d f):s=.val d f∨(f=false∧∃k,s=.fxd d k):=by
 cases s with
 |fxd d' k=>cases h;exact .inr ⟨rfl,k,rfl⟩
 |val _ _=>exact .inl h
 |own _ _=>cases h
 |non=>cases h
 |slf _ _=>cases h
 |dct _ _=>cases h
 |row _=>cases h
def SlO (t:Bool) (ds:List D) (s:Sl):Prop:=∃f,s=.own ds f∧(t=true→f=true)
theorem SlV.low {t:Bool} {d:D} {s:Sl} (h:SlV t d s):SlV false d s:=by
 obtain⟨f,e,_⟩:=h
 exact⟨f,e,fun e=>nomatch e⟩
theorem SlO.low {t:Bool} {d:List D} {s:Sl} (h:SlO t d s):SlO false d s:=by
 obtain⟨f,e,_⟩:=h
 exact⟨f,e,fun e=>nomatch e⟩
theorem SlV.flat {α:Type} {en:α→D} [h:Flat en] {v:α}:SlV true (en v) (.val (en v) (en v).flat):=⟨_,rfl,fun _=>h.flat v⟩
theorem SlV.any {d:D} {b:Bool}:SlV false d (.val d b):=⟨_,rfl,fun e=>nomatch e⟩
section
variable {Γ:Env} {ρ:List Sl} {α β γ δ ε:Type} {en:α→D} {en2:β→D} {en3:γ→D} {a b c e:Ex} {s s1 s2 s3:Sh} {t t1 t2 t3:Bool} {m:RE α} {x:α} {y:β} {z:γ}
theorem XE.weak {m:RE α} (h:XE Γ e ρ m en s t) (hs:s.nb=true):XE Γ e ρ m en .n t:=XR.mono h fun _ _ k=>k.weak hs
theorem XE.low {m:RE α} (h:XE Γ e ρ m en s t):XE Γ e ρ m en s false:=XR.mono h fun _ _ k=>k.low
theorem XE.coe {x:α} {f:α→β} (h:XE Γ e ρ (.ok x) en s t) (k:∀v,en v=en2 (f v)):XE Γ e ρ (.ok (f x)) en2 s t:=by
 obtain⟨er,q,r⟩:=h
 exact⟨er,q,by rw[←k];exact r.d,r.s,r.t⟩
theorem XE.coeG {m:RE α} {f:α→β} (h:XE Γ e ρ m en s t) (k:∀v,en v=en2 (f v)):XE Γ e ρ (m.bind fun x=>.ok (f x)) en2 s t:=by
 cases m with
 |bad=>trivial
 |ok x=>exact XE.coe h k
 |exc c fs=>exact h
theorem XE.cast {m m':RE α} (h:XE Γ e ρ m en s t) (k:m'=m):XE Γ e ρ m' en s t:=by rw[k];exact h
theorem XE.var {i:Nat} {q:Sl} (h:ρ[i]? = some q) (hs:SlV t (en x) q):XE Γ (.var i) ρ (.ok x) en .v t:=by
 obtain⟨f,e,k⟩:=hs
 rcases qqz e with rfl | ⟨rfl,j,rfl⟩
 ·exact⟨.val (en x) f,by rw[ev,h],rfl,rfl,k⟩
 ·exact⟨.val (en x) false,by rw[ev,h],rfl,rfl,k⟩
theorem XE.varO {i:Nat} {q:Sl} {xs:List α} (h:ρ[i]? = some q) (hs:SlO t (xs.map en) q):XE Γ (.var i) ρ (.ok xs) (eL en) .b t:=by
 obtain⟨f,rfl,k⟩:=hs
 exact⟨.brw (xs.map en) f,by rw[ev,h],rfl,rfl,k⟩
theorem XE.cint {i:Int}:XE Γ (.cint i) ρ (.ok i) eI .v true:=by unfold XE;rw[ev];exact xok rfl
theorem XE.cbl {i:Bool}:XE Γ (.cbl i) ρ (.ok i) eB .v true:=by unfold XE;rw[ev];exact xok rfl
theorem XE.cnon:XE Γ .cnon ρ (.ok ()) eU .v true:=by unfold XE;rw[ev];exact xok rfl
theorem XE.cstr {i:List Nat}:XE Γ (.cstr i) ρ (.ok i) eS .v true:=by unfold XE;rw[ev];exact xok rfl
theorem XE.glo {i:Nat} {nm:PySem.Str} {d:D} (h:Γ.gc[i]? = some (nm,d)) (k:d=en x):XE Γ (.glo i) ρ (.ok x) en .v true:=by unfold XE;rw[ev,h];exact quN k fun _=>rfl
theorem XE.bin {o:Bop} {m1:RE α} {m2:RE β} {f:α→β→RE γ} (ha:XE Γ a ρ m1 en s1 t1) (hb:XE Γ b ρ m2 en2 s2 t2) (h:∀x y bb,((t1&&t2)=true→bb=true)→XR (evB o (en x) (en2 y) bb) (f x y) fun v er=>Is s t (en3 v) er) :
  XE Γ (.bin o a b) ρ (m1.bind fun x=>m2.bind fun y=>f x y) en3 s t:=by
 unfold XE
 rw[ev]
 exact XR.bind ha fun x ex hx=>XR.bind hb fun y ey hy=>by
  rw[hx.d,hy.d]
  exact h x y _ fun k=>by
   rw[Bool.and_eq_true] at k
   rw[hx.t k.1,hy.t k.2];rfl
theorem XE.binP {o:Bop} {f:RE γ} (ha:XE Γ a ρ (.ok x) en s1 t1) (hb:XE Γ b ρ (.ok y) en2 s2 t2) (h:∀bb,((t1&&t2)=true→bb=true)→XR (evB o (en x) (en2 y) bb) f fun v er=>Is s t (en3 v) er) :
  XE Γ (.bin o a b) ρ f en3 s t:=by
 obtain⟨ex,e1,h1⟩:=ha
 obtain⟨ey,e2,h2⟩:=hb
 unfold XE
 rw[ev,e1,e2]
 simp only[RE.bind_ok]
 rw[h1.d,h2.d]
 exact h _ fun k=>by
  rw[Bool.and_eq_true] at k
  rw[h1.t k.1,h2.t k.2];rfl
theorem xgd {b:Bool} {r:RE ER} {m:RE α} {R:α→ER→Prop} (h:XR r m R):XR (gd b r) (gd b m) R:=by
 cases b
 ·trivial
 ·exact h
theorem qde (x y:Int) (bb:Bool) (_:(t1&&t2)=true→bb=true):XR (evB .add (eI x) (eI y) bb) (.ok (x+y)) fun v er=>Is .v true (eI v) er:=xok rfl
theorem qj3 (x y:Int) (h:qoQ x y=true) (bb:Bool) (_:(t1&&t2)=true→bb=true):XR (evB .mul (eI x) (eI y) bb) (.ok (x*y)) fun v er=>Is .v true (eI v) er:=by
 show XR (gd (qoQ x y) _) _ _
 rw[h];exact xok rfl
theorem qjx {x y:Int} (h:Nat.ble x.natAbs 18446744073709551615=true):qoQ x y=true:=by unfold qoQ;rw[h];rfl
theorem qqM {x y:Int} (h:Nat.ble y.natAbs 18446744073709551615=true):qoQ x y=true:=by unfold qoQ;rw[h];simp
def qip (x y:Int):RE Int:=gd (qoQ x y) (.ok (x*y))
theorem qk8 (x y:Int) (bb:Bool) (_:(t1&&t2)=true→bb=true):XR (evB .mul (eI x) (eI y) bb) (qip x y) fun v er=>Is .v true (eI v) er:=xgd (xok rfl)
def qsV (x y:Int):RE Int:=gd (qrJ y) (.ok (x.fdiv y))
theorem qvW (x y:Int) (bb:Bool) (_:(t1&&t2)=true→bb=true):XR (evB .fdv (eI x) (eI y) bb) (qsV x y) fun v er=>Is .v true (eI v) er:=xgd (xok rfl)
theorem qbF (x y:Int) (h:qrJ y=true) (bb:Bool) (_:(t1&&t2)=true→bb=true):XR (evB .fdv (eI x) (eI y) bb) (.ok (x.fdiv y)) fun v er=>Is .v true (eI v) er:=by
 show XR (gd (qrJ y) _) _ _
 rw[h];exact xok rfl
def qjU (x y:Int):RE Int:=gd (nzB y) (.ok (x.fmod y))
theorem qhj (x y:Int) (bb:Bool) (_:(t1&&t2)=true→bb=true):XR (evB .mdl (eI x) (eI y) bb) (qjU x y) fun v er=>Is .v true (eI v) er:=xgd (xok rfl)
theorem qcO (x y:Int) (h:nzB y=true) (bb:Bool) (_:(t1&&t2)=true→bb=true):XR (evB .mdl (eI x) (eI y) bb) (.ok (x.fmod y)) fun v er=>Is .v true (eI v) er:=by
 show XR (gd (nzB y) _) _ _
 rw[h];exact xok rfl
def qvU (x y:Int):RE Int:=gd (qrb x y) (.ok (x ^ y.toNat))
theorem qvd (x y:Int) (bb:Bool) (_:(t1&&t2)=true→bb=true):XR (evB .pow (eI x) (eI y) bb) (qvU x y) fun v er=>Is .v true (eI v) er:=xgd (xok rfl)
def qvo (x y:Int):RE Int:=gd (qrb x y) (.ok (x*2 ^ y.toNat))
def qxI (x y:Int):RE Int:=gd (nnB y) (.ok (x / 2 ^ y.toNat))
def qfC (x y:List Nat):RE (List Nat):=gd (leB (x.length+y.length)) (.ok (x++y))
theorem qfF (x y:List Nat) (bb:Bool) (_:(t1&&t2)=true→bb=true):XR (evB .add (eS x) (eS y) bb) (qfC x y) fun v er=>Is .v true (eS v) er:=xgd (xok rfl)
def qgr (x y:List α):RE (List α):=gd (leB (x.length+y.length)) (.ok (x++y))
theorem qka (x y:List α) (bb:Bool) (h:(t1&&t2)=true→bb=true):XR (evB .add (eL en x) (eL en y) bb) (qgr x y) fun v er=>Is .f (t1&&t2) (eL en v) er:=by
 show XR (gd (leB ((x.map en).length+(y.map en).length)) _) (gd _ _) _
 rw[List.length_map,List.length_map]
 exact xgd (qqR (by simp[eL]) h)
def qx5 (x:List α) (k:Int):RE (List α):=gd (qs2 x.length k) (.ok (List.replicate k.toNat x).flatten)
theorem XE.cmp {o:Cop} {m1:RE α} {m2:RE β} {f:α→β→RE Bool} (ha:XE Γ a ρ m1 en s1 t1) (hb:XE Γ b ρ m2 en2 s2 t2) (h:∀x y,evC o (en x) (en2 y)=f x y):XE Γ (.cmp o a b) ρ (m1.bind fun x=>m2.bind fun y=>f x y) eB .v true:=by
 unfold XE
 rw[ev]
 exact XR.bind ha fun x ex hx=>XR.bind hb fun y ey hy=>by
  rw[hx.d,hy.d,h]
  cases f x y with
  |bad=>trivial
  |ok v=>exact xok rfl
  |exc c fs=>rfl
theorem XE.cmpP {o:Cop} {f:RE Bool} (ha:XE Γ a ρ (.ok x) en s1 t1) (hb:XE Γ b ρ (.ok y) en2 s2 t2) (h:evC o (en x) (en2 y)=f):XE Γ (.cmp o a b) ρ f eB .v true:=by
 have:=XE.cmp (o:=o) ha hb (f:=fun x y=>evC o (en x) (en2 y)) (fun _ _=>rfl)
 rw[←h];exact this
theorem qgP (x y:Int):evC .eq (eI x) (eI y)=.ok (decide (x=y)):=rfl
theorem qrk (x y:Int):evC .ne (eI x) (eI y)=.ok (!decide (x=y)):=rfl
theorem qvl (x y:Int):evC .lt (eI x) (eI y)=.ok (decide (x<y)):=rfl
theorem qiS (x y:Int):evC .le (eI x) (eI y)=.ok (decide (x≤y)):=rfl
theorem qmx (x y:Int):evC .gt (eI x) (eI y)=.ok (decide (y<x)):=rfl
theorem qsj (x y:Int):evC .ge (eI x) (eI y)=.ok (decide (y≤x)):=rfl
theorem qkq (x y:List Nat):evC .eq (eS x) (eS y)=.ok (decide (x=y)):=rfl
theorem qt0 (x y:List Int):evC .eq (eL eI x) (eL eI y)=.ok (decide (x=y)):=qrH x y
def qx4 (d:D) {α:Type} (r:RE α):RE α:=gd (d.fit 64) r
theorem qqJ (x:Nat) (y:List Nat):evC .nin (eC x) (eS y)=.ok (!decide (x∈y)):=rfl
theorem quq (x:Nat) (y:List Nat):evC .eq (eC x) (eS y)=.ok (decide ([x]=y)):=rfl
theorem XE.chn {o p:Cop} {m1:RE α} {m2:RE β} {m3:RE γ} {f:α→β→Bool} {g:β→γ→Bool} (ha:XE Γ a ρ m1 en s1 t1) (hb:XE Γ b ρ m2 en2 s2 t2) (hc:XE Γ c ρ m3 en3 s3 t3) (h:∀x y,evC o (en x) (en2 y)=.ok (f x y)) (k:∀x y,evC p (en2 x) (en3 y)=.ok (g x y)) :
  XE Γ (.chn o p a b c) ρ (m1.bind fun x=>m2.bind fun y=>if f x y=true then m3.bind fun z=>.ok (g y z) else .ok false) eB .v true:=by
 unfold XE
 rw[ev]
 refine XR.bind ha fun x ex hx=>XR.bind hb fun y ey hy=>?_
 ·rw[hx.d,hy.d,h]
  simp only[RE.bind_ok]
  cases f x y with
  |false=>exact xok rfl
  |true=>exact XR.bind hc fun z ez hz=>(by rw[hz.d,k];exact xok rfl)
theorem XE.isN {x:Option α} (h:XE Γ a ρ (.ok x) (eO en) s1 t1) (k:∀v,(en v).isNon=false):XE Γ (.isN a) ρ (.ok x.isNone) eB .v true:=by
 obtain⟨ex,e1,h1⟩:=h
 unfold XE
 rw[ev,e1]
 simp only[RE.bind_ok]
 rw[h1.d]
 refine xok ?_
 cases x with
 |none=>rfl
 |some v=>show D.bl (en v).isNon=_;rw[k];rfl
def unO:Option α→RE α
 |none=>.bad
 |some x=>.ok x
theorem XE.unO {x:Option α} (h:XE Γ e ρ (.ok x) (eO en) s t):XE Γ e ρ (unO x) en s t:=by
 cases x with
 |none=>trivial
 |some v=>exact h
abbrev XV (Γ:Env) (c:Bool) (es:Exs) (ρ:List Sl) (m:RE Bool):Prop:=XR (qnA Γ c es ρ) m fun v er=>Is .v true (eB v) er
abbrev XTs (Γ:Env) (c:Bool) (es:Tes) (ρ:List Sl) (m:RE Bool):Prop:=XR (qg8 Γ c es ρ) m fun v x=>x=v
theorem XV.one {es:Ex} {c:Bool} {m:RE Bool} (h:XE Γ es ρ m eB s t):XV Γ c (.cons es .nil) ρ m:=by
 unfold XV
 rw[qnA]
 have:m=m.bind fun k=>.ok k:=by cases m<;>rfl
 rw[this]
 exact XR.bind h fun v er k=>by
  rw[k.d]
  simp only[qnA]
  split
  ·subst_vars;exact xok rfl
  ·exact xok rfl
theorem XV.and {e:Ex} {es:Exs} {m1 m2:RE Bool} (h:XE Γ e ρ m1 eB s t) (k:XV Γ true es ρ m2):XV Γ true (.cons e es) ρ (m1.bind fun x=>if x=true then m2 else .ok false):=by
 unfold XV
 rw[qnA]
 exact XR.bind h fun v er q=>by
  rw[q.d]
  cases v with
  |true=>exact k
  |false=>exact xok rfl
theorem XV.or {e:Ex} {es:Exs} {m1 m2:RE Bool} (h:XE Γ e ρ m1 eB s t) (k:XV Γ false es ρ m2):XV Γ false (.cons e es) ρ (m1.bind fun x=>if x=true then .ok true else m2):=by
 unfold XV
 rw[qnA]
 exact XR.bind h fun v er q=>by
  rw[q.d]
  cases v with
  |true=>exact xok rfl
  |false=>exact k
theorem XV.andP {e:Ex} {es:Exs} {x y:Bool} (h:XE Γ e ρ (.ok x) eB s t) (k:XV Γ true es ρ (.ok y)):XV Γ true (.cons e es) ρ (.ok (x&&y)):=by
 have:=XV.and h k
 cases x<;>exact this
theorem XE.bop {c:Bool} {es:Exs} {m:RE Bool} (h:XV Γ c es ρ m):XE Γ (.bop c es) ρ m eB .v true:=by unfold XE;rw[ev];exact h
class Tru {α:Type} (en:α→D) (f:outParam (α→Bool)):Prop where
 tru:∀v,qkx (en v)=.ok (f v)
instance:Tru eB id:=⟨fun _=>rfl⟩
instance:Tru eI (fun i=>i != 0):=⟨fun _=>rfl⟩
instance {α:Type} {en:α→D}:Tru (eL en) (fun xs=>!xs.isEmpty):=⟨fun v=>by cases v<;>rfl⟩
theorem XE.bnot {m:RE Bool} (h:XE Γ a ρ m eB s t):XE Γ (.bnot a) ρ (m.bind fun x=>.ok (!x)) eB .v true:=by
 unfold XE;rw[ev]
 exact XR.bind h fun v er k=>by rw[k.d];exact xok rfl
theorem XE.bnotP {x:Bool} (h:XE Γ a ρ (.ok x) eB s t):XE Γ (.bnot a) ρ (.ok (!x)) eB .v true:=XE.bnot h
theorem XT.val {m:RE Bool} (h:XE Γ a ρ m eB s t):XT Γ (.val a) ρ m:=by
 unfold XT;rw[evT]
 have:m=m.bind fun k=>.ok k:=by cases m<;>rfl
 rw[this]
 exact XR.bind h fun v er k=>by rw[k.d];exact⟨_,rfl,rfl⟩
theorem XT.not {q:Te} {m:RE Bool} (h:XT Γ q ρ m):XT Γ (.not q) ρ (m.bind fun x=>.ok (!x)):=by
 unfold XT;rw[evT]
 exact XR.bind h fun v er k=>by subst k;exact⟨_,rfl,rfl⟩
theorem XTs.one {q:Te} {c:Bool} {m:RE Bool} (h:XT Γ q ρ m):XTs Γ c (.cons q .nil) ρ m:=by
 unfold XTs;rw[qg8]
 have:m=m.bind fun k=>.ok k:=by cases m<;>rfl
 rw[this]
 exact XR.bind h fun v er k=>by
  subst k
  simp only[qg8]
  split
  ·subst_vars;exact⟨_,rfl,rfl⟩
  ·exact⟨_,rfl,rfl⟩
theorem XTs.and {q:Te} {es:Tes} {m1 m2:RE Bool} (h:XT Γ q ρ m1) (k:XTs Γ true es ρ m2):XTs Γ true (.cons q es) ρ (m1.bind fun x=>if x=true then m2 else .ok false):=by
 unfold XTs;rw[qg8]
 exact XR.bind h fun v er q=>by
  subst q
  cases er
  ·exact⟨_,rfl,rfl⟩
  ·exact k
theorem XTs.or {q:Te} {es:Tes} {m1 m2:RE Bool} (h:XT Γ q ρ m1) (k:XTs Γ false es ρ m2):XTs Γ false (.cons q es) ρ (m1.bind fun x=>if x=true then .ok true else m2):=by
 unfold XTs;rw[qg8]
 exact XR.bind h fun v er q=>by
  subst q
  cases er
  ·exact k
  ·exact⟨_,rfl,rfl⟩
theorem XTs.andP {q:Te} {es:Tes} {x y:Bool} (h:XT Γ q ρ (.ok x)) (k:XTs Γ true es ρ (.ok y)):XTs Γ true (.cons q es) ρ (.ok (x&&y)):=by
 have:=XTs.and h k
 cases x<;>exact this
theorem XT.bop {c:Bool} {es:Tes} {m:RE Bool} (h:XTs Γ c es ρ m):XT Γ (.bop c es) ρ m:=by unfold XT;rw[evT];exact h
def atE (xs:List α) (k:Int):RE α:=match L2.atI xs k with
 |some x=>.ok x
 |none=>.bad
theorem qon (f:α→β) (xs:List α) (k:Int):L2.atI (xs.map f) k=(L2.atI xs k).map f:=by
 unfold L2.atI
 rw[List.length_map]
 cases L2.ixN xs.length k<;>simp
theorem XE.idx {m1:RE (List α)} {m2:RE Int} (ha:XE Γ a ρ m1 (eL en) s1 t) (hb:XE Γ b ρ m2 eI s2 t2):XE Γ (.idx a b) ρ (m1.bind fun xs=>m2.bind fun k=>atE xs k) en .v t:=by
 unfold XE;rw[ev]
 exact XR.bind ha fun xs ex hx=>XR.bind hb fun k ek hk=>by
  rw[hx.d,hk.d]
  show XR (match L2.atI (xs.map en) k with
   |some x=>RE.ok (ER.val x (ex.b||x.flat))
   |none=>.bad) _ _
  rw[qon]
  unfold atE
  cases L2.atI xs k with
  |none=>trivial
  |some x=>exact⟨_,rfl,rfl,rfl,fun z=>by show(_||_)=true;rw[hx.t z];rfl⟩
theorem XE.flat [h:Flat en] {m:RE α} (k:XE Γ e ρ m en .v t) (q:∀x b,ev Γ e ρ=.ok (.val (en x) b)→b=true):XE Γ e ρ m en .v true:=by
 cases m with
 |bad=>trivial
 |ok x =>
  obtain⟨er,e1,e2⟩:=k
  refine⟨er,e1,e2.d,e2.s,fun _=>?_⟩
  cases er with
  |val d b =>
   have:=e2.d
   simp only[ER.d_val] at this
   subst this
   exact q _ _ e1
  |fre ds b=>exact nomatch e2.s
  |brw ds b=>exact nomatch e2.s
 |exc c fs=>exact k
theorem XE.idxF [h:Flat en] {m1:RE (List α)} {m2:RE Int} (ha:XE Γ a ρ m1 (eL en) s1 t) (hb:XE Γ b ρ m2 eI s2 t2):XE Γ (.idx a b) ρ (m1.bind fun xs=>m2.bind fun k=>atE xs k) en .v true:=by
 unfold XE;rw[ev]
 exact XR.bind ha fun xs ex hx=>XR.bind hb fun k ek hk=>by
  rw[hx.d,hk.d]
  show XR (match L2.atI (xs.map en) k with
   |some x=>RE.ok (ER.val x (ex.b||x.flat))
   |none=>.bad) _ _
  rw[qon]
  unfold atE
  cases L2.atI xs k with
  |none=>trivial
  |some x=>exact⟨_,rfl,rfl,rfl,fun z=>by show(_||(en x).flat)=true;rw[h.flat x];simp⟩
theorem XE.idxFP [h:Flat en] {xs:List α} {k:Int} (ha:XE Γ a ρ (.ok xs) (eL en) s1 t) (hb:XE Γ b ρ (.ok k) eI s2 t2):XE Γ (.idx a b) ρ (atE xs k) en .v true:=XE.idxF ha hb
def qoR (xs:List Nat) (k:Int):RE Nat:=gd (leB xs.length) (atE xs k)
theorem XE.idxS {m1:RE (List Nat)} {m2:RE Int} (ha:XE Γ a ρ m1 eS s1 t) (hb:XE Γ b ρ m2 eI s2 t2):XE Γ (.idx a b) ρ (m1.bind fun xs=>m2.bind fun k=>qoR xs k) eC .v true:=by
 unfold XE;rw[ev]
 exact XR.bind ha fun xs ex hx=>XR.bind hb fun k ek hk=>by
  rw[hx.d,hk.d]
  refine xgd ?_
  unfold atE
  cases L2.atI xs k with
  |none=>trivial
  |some x=>exact⟨_,rfl,rfl,rfl,fun _=>rfl⟩
theorem XE.idxSP {xs:List Nat} {k:Int} (ha:XE Γ a ρ (.ok xs) eS s1 t) (hb:XE Γ b ρ (.ok k) eI s2 t2):XE Γ (.idx a b) ρ (qoR xs k) eC .v true:=XE.idxS ha hb
theorem XE.prt {k:Int} {f:α→β} {m1:RE α} (ha:XE Γ a ρ m1 en s1 t) (h:∀v b,qrZ (en v) (.int k) b=.ok (.val (en2 (f v)) (b||(en2 (f v)).flat))) (ht:t2=true→t=true∨Flat en2):XE Γ (.idx a (.cint k)) ρ (m1.bind fun x=>.ok (f x)) en2 .v t2:=by
 unfold XE;rw[ev]
 exact XR.bind ha fun x ex hx=>by
  rw[hx.d,ev]
  simp only[RE.bind_ok,ok,ER.d_val]
  rw[h]
  refine quN rfl fun z=>?_
  rcases ht z with q | q
  ·rw[hx.t q];rfl
  ·rw[q.flat];simp
theorem XE.prtP {k:Int} {f:α→β} (ha:XE Γ a ρ (.ok x) en s1 t) (h:∀v b,qrZ (en v) (.int k) b=.ok (.val (en2 (f v)) (b||(en2 (f v)).flat))) (ht:t2=true→t=true∨Flat en2):XE Γ (.idx a (.cint k)) ρ (.ok (f x)) en2 .v t2:=XE.prt ha h ht
theorem qpg (f:α→β) (xs:List α) (lo hi:Option Int):qdu (xs.map f) lo hi=(qdu xs lo hi).map f:=by
 unfold qdu
 rw[List.length_map,List.map_take,List.map_drop]
abbrev XO (Γ:Env) (es:Exs) (ρ:List Sl) (m:RE (Option Int)):Prop:=XR (evO Γ es ρ) m fun v x=>x=v
theorem XO.nil:XO Γ .nil ρ (.ok none):=by unfold XO;rw[evO];exact⟨_,rfl,rfl⟩
theorem XO.one {m:RE Int} (h:XE Γ a ρ m eI s t):XO Γ (.cons a .nil) ρ (m.bind fun k=>.ok (some k)):=by
 unfold XO;rw[evO]
 exact XR.bind h fun v er k=>by rw[k.d];exact⟨_,rfl,rfl⟩
theorem XO.oneP {k:Int} (h:XE Γ a ρ (.ok k) eI s t):XO Γ (.cons a .nil) ρ (.ok (some k)):=XO.one h
theorem XE.slc {m1:RE (List α)} {lo hi:Exs} {m2 m3:RE (Option Int)} (ha:XE Γ a ρ m1 (eL en) s1 t) (hb:XO Γ lo ρ m2) (hc:XO Γ hi ρ m3):XE Γ (.slc a lo hi) ρ (m1.bind fun xs=>m2.bind fun l=>m3.bind fun h=>.ok (qdu xs l h)) (eL en) .f t:=by
 unfold XE;rw[ev]
 exact XR.bind ha fun xs ex hx=>XR.bind hb fun l el hl=>XR.bind hc fun h eh hh=>by
  subst hl;subst hh
  rw[hx.d]
  exact qqR (by rw[qpg];rfl) hx.t
theorem XE.slcP {xs:List α} {lo hi:Exs} {l h:Option Int} (ha:XE Γ a ρ (.ok xs) (eL en) s1 t) (hb:XO Γ lo ρ (.ok l)) (hc:XO Γ hi ρ (.ok h)):XE Γ (.slc a lo hi) ρ (.ok (qdu xs l h)) (eL en) .f t:=XE.slc ha hb hc
def qhg (xs:List Nat) (l h:Option Int):RE (List Nat):=gd (leB xs.length) (.ok (qdu xs l h))
theorem XE.slcS {m1:RE (List Nat)} {lo hi:Exs} {m2 m3:RE (Option Int)} (ha:XE Γ a ρ m1 eS s1 t) (hb:XO Γ lo ρ m2) (hc:XO Γ hi ρ m3):XE Γ (.slc a lo hi) ρ (m1.bind fun xs=>m2.bind fun l=>m3.bind fun h=>qhg xs l h) eS .v true:=by
 unfold XE;rw[ev]
 exact XR.bind ha fun xs ex hx=>XR.bind hb fun l el hl=>XR.bind hc fun h eh hh=>by
  subst hl;subst hh
  rw[hx.d]
  exact xgd (xok rfl)
theorem XE.slcSP {xs:List Nat} {lo hi:Exs} {l h:Option Int} (ha:XE Γ a ρ (.ok xs) eS s1 t) (hb:XO Γ lo ρ (.ok l)) (hc:XO Γ hi ρ (.ok h)):XE Γ (.slc a lo hi) ρ (qhg xs l h) eS .v true:=XE.slcS ha hb hc
theorem XE.isi {ty:Ty} {f:α→Bool} {m1:RE α} (ha:XE Γ a ρ m1 en s1 t) (h:∀v,qsW (en v) ty=ok (.bl (f v))):XE Γ (.isi a ty) ρ (m1.bind fun x=>.ok (f x)) eB .v true:=by
 unfold XE;rw[ev]
 exact XR.bind ha fun xs ex hx=>by rw[hx.d,h];exact xok rfl
theorem XE.isiP {ty:Ty} {f:α→Bool} (ha:XE Γ a ρ (.ok x) en s1 t) (h:∀v,qsW (en v) ty=ok (.bl (f v))):XE Γ (.isi a ty) ρ (.ok (f x)) eB .v true:=XE.isi ha h
def tyE (d:D) (ty:Ty):RE Bool:=(qsW d ty).bind fun x=>match x.d with
 |.bl b=>.ok b
 |_=>.bad
theorem XE.isiD {ty:Ty} (ha:XE Γ a ρ (.ok x) en s1 t):XE Γ (.isi a ty) ρ (tyE (en x) ty) eB .v true:=by
 obtain⟨er,e1,e2⟩:=ha
 unfold XE;rw[ev,e1]
 simp only[RE.bind_ok]
 rw[e2.d,tyE]
 cases en x<;>cases ty<;>first | trivial | exact xok rfl
theorem qs0 (Γ:Env) (ρ:List Sl) (a:Ex):evs Γ (.cons a .nil) ρ=(ev Γ a ρ).bind fun x=>.ok [x.frz]:=by
 rw[evs,evs];rfl
theorem qgh (x:ER):x.frz.d=x.d:=by cases x<;>rfl
theorem qnq (x:ER):x.frz.b=x.b:=by cases x<;>rfl
theorem XE.pri1 {p:Pri} {m1:RE α} {f:α→RE β} (ha:XE Γ a ρ m1 en s1 t1) (h:∀x e,e.d=en x→(t1=true→e.b=true)→XR (evP p [e]) (f x) fun v er=>Is s t (en2 v) er):XE Γ (.pri p (.cons a .nil)) ρ (m1.bind f) en2 s t:=by
 unfold XE;rw[ev,qs0,RE.bind_assoc]
 exact XR.bind ha fun x ex hx=>h x _ (by rw[qgh,hx.d]) fun z=>by rw[qnq];exact hx.t z
theorem XE.pri1P {p:Pri} {f:RE β} (ha:XE Γ a ρ (.ok x) en s1 t1) (h:∀e,e.d=en x→(t1=true→e.b=true)→XR (evP p [e]) f fun v er=>Is s t (en2 v) er):XE Γ (.pri p (.cons a .nil)) ρ f en2 s t:=by
 obtain⟨er,e1,e2⟩:=ha
 unfold XE;rw[ev,qs0,e1]
 simp only[RE.bind_ok]
 exact h _ (by rw[qgh,e2.d]) fun z=>by rw[qnq];exact e2.t z
theorem XE.pri2P {p:Pri} {f:RE γ} (ha:XE Γ a ρ (.ok x) en s1 t1) (hb:XE Γ b ρ (.ok y) en2 s2 t2) (h:∀e e',e.d=en x→e'.d=en2 y→XR (evP p [e,e']) f fun v er=>Is s t (en3 v) er):XE Γ (.pri p (.cons a (.cons b .nil))) ρ f en3 s t:=by
 obtain⟨er,e1,e2⟩:=ha
 obtain⟨er',e1',e2'⟩:=hb
 unfold XE;rw[ev,evs,qs0,e1,e1']
 simp only[RE.bind_ok]
 exact h _ _ (by rw[qgh,e2.d]) (by rw[qgh,e2'.d])
theorem qdZ (x:List α) (e:ER) (h:e.d=eL en x) (_:t=true→e.b=true):XR (evP .len [e]) (.ok (x.length:Int)) fun v er=>Is .v true (eI v) er:=by
 simp only[evP,h,eL,List.length_map];exact xok rfl
def qfM (x:List Nat):RE Int:=gd (leB x.length) (.ok (x.length:Int))
theorem qf4 (x:List Nat) (e:ER) (h:e.d=eS x) (_:t=true→e.b=true):XR (evP .len [e]) (qfM x) fun v er=>Is .v true (eI v) er:=by
 simp only[evP,h];exact xgd (xok rfl)
theorem qut (x y:Int) (e e':ER) (h:e.d=eI x) (h':e'.d=eI y):XR (evP .min2 [e,e']) (.ok (if y<x then y else x)) fun v er=>Is .v true (eI v) er:=by
 simp only[evP,h,h'];exact xok rfl
def qxF (x y:Int):RE (Int × Int):=gd (dmB y) (.ok (x / y,x % y))
def qwA (x:List Int):RE Int:=match x with
 |[]=>.bad
 |n::ns=>.ok (qmT (n::ns))
def qmm (x:List Int):RE Int:=match x with
 |[]=>.bad
 |n::ns=>.ok (qhM (n::ns))
theorem qqD (x:List Int) (e:ER) (h:e.d=eL eI x) (_:t=true→e.b=true):XR (evP .max1 [e]) (qmm x) fun v er=>Is .v true (eI v) er:=by
 simp only[evP,h,eL,qhm]
 cases x with
 |nil=>trivial
 |cons n ns=>exact xok rfl
theorem qhV:∀bs:List (List Nat),qkf (bs.map D.str)=some bs
 |[]=>rfl
 |b::bs=>by simp[qkf,qhV bs]
theorem qdc [hf:Flat en] (x:List α) (e:ER) (h:e.d=eL en x) (k:t=true→e.b=true):XR (evP .list [e]) (.ok x) fun v er=>Is .f true (eL en v) er:=by
 simp only[evP,h,eL];exact qqR rfl fun _=>by rw[qgI];simp
def qnY (s:List Nat):RE Int:=match PySem.intText? (qa1 s) with
 |some n=>gd (Nat.ble s.length 640) (.ok n)
 |none=>.bad
theorem qua (x:List Nat) (e:ER) (h:e.d=eS x) (_:t=true→e.b=true):XR (evP .int [e]) (qnY x) fun v er=>Is .v true (eI v) er:=by
 simp only[evP,h,qnY]
 cases PySem.intText? (qa1 x) with
 |none=>trivial
 |some n=>exact xgd (xok rfl)
def qoW (i:Int):RE (List Nat):=gd (qs6 i) (.ok (toString i:PySem.Str).cps.toList)
theorem qpH (x:Int) (e:ER) (h:e.d=eI x) (_:t=true→e.b=true):XR (evP .str [e]) (qoW x) fun v er=>Is .v true (eS v) er:=by
 simp only[evP,h];exact xgd (xok rfl)
def qbD (n:Int):RE (List Int):=gd (qmE n) (.ok (qfN 0 1 n.toNat))
def qiy (i j:Int):RE (List Int):=gd (quS i j) (.ok (qfN i 1 (j - i).toNat))
def qtT (i j c:Int):RE (List Int):=gd (quZ i j c) (.ok (qfN i c (qsY i j c)))
abbrev XRg (Γ:Env) (es:Exs) (ρ:List Sl) (m:RE (List Int)):Prop:=XR ((evs Γ es ρ).bind qeF) m fun v x=>x=v
theorem qvN {α:Type} {b:Bool} {x:α}:XR (gd b (.ok x)) (gd b (.ok x)) fun v y=>y=v:=by
 cases b
 ·trivial
 ·exact⟨_,rfl,rfl⟩
theorem XRg.r1 {m1:RE Int} (ha:XE Γ a ρ m1 eI s1 t1):XRg Γ (.cons a .nil) ρ (m1.bind qbD):=by
 unfold XRg;rw[qs0,RE.bind_assoc]
 exact XR.bind ha fun x ex hx=>by
  simp only[RE.bind_ok,qeF,qgh,hx.d];exact qvN
theorem XRg.r2 {m1 m2:RE Int} (ha:XE Γ a ρ m1 eI s1 t1) (hb:XE Γ b ρ m2 eI s2 t2):XRg Γ (.cons a (.cons b .nil)) ρ (m1.bind fun x=>m2.bind fun y=>qiy x y):=by
 unfold XRg;rw[evs,qs0,RE.bind_assoc]
 exact XR.bind ha fun x ex hx=>by
  rw[RE.bind_assoc,RE.bind_assoc]
  exact XR.bind hb fun y ey hy=>by
   simp only[RE.bind_ok,qeF,qgh,hx.d,hy.d];exact qvN
theorem XRg.r3 {m1 m2 m3:RE Int} (ha:XE Γ a ρ m1 eI s1 t1) (hb:XE Γ b ρ m2 eI s2 t2) (hc:XE Γ c ρ m3 eI s3 t3):XRg Γ (.cons a (.cons b (.cons c .nil))) ρ (m1.bind fun x=>m2.bind fun y=>m3.bind fun z=>qtT x y z):=by
 unfold XRg;rw[evs,evs,qs0,RE.bind_assoc]
 exact XR.bind ha fun x ex hx=>by
  simp only[RE.bind_assoc]
  exact XR.bind hb fun y ey hy=>XR.bind hc fun z ez hz=>by
   simp only[RE.bind_ok,qeF,qgh,hx.d,hy.d,hz.d];exact qvN
theorem XRg.r1P {x:Int} (ha:XE Γ a ρ (.ok x) eI s1 t1):XRg Γ (.cons a .nil) ρ (qbD x):=XRg.r1 ha
theorem XRg.r2P {x y:Int} (ha:XE Γ a ρ (.ok x) eI s1 t1) (hb:XE Γ b ρ (.ok y) eI s2 t2):XRg Γ (.cons a (.cons b .nil)) ρ (qiy x y):=XRg.r2 ha hb
theorem XE.lrng {es:Exs} {m1:RE (List Int)} (h:XRg Γ es ρ m1):XE Γ (.lrng es) ρ m1 (eL eI) .f true:=by
 unfold XE;rw[ev]
 have e:m1=m1.bind fun k=>.ok k:=by cases m1<;>rfl
 rw[e,←RE.bind_assoc]
 exact XR.bind h fun v x k=>by subst k;exact qqR rfl fun _=>rfl
theorem XI.list {m1:RE (List α)} (h:XE Γ a ρ m1 (eL en) s t) (hs:s.nb=true):XI Γ (.any a) ρ m1 en t false:=by
 unfold XI;rw[evI]
 have e:m1=m1.bind fun k=>.ok k:=by cases m1<;>rfl
 rw[e]
 exact XR.bind h fun v er k=>by
  simp only[qir,k.d,eL]
  refine⟨_,rfl,rfl,k.t,fun _=>?_⟩
  have:=k.s
  cases s<;>cases er<;>simp_all[qiY,ER.isF,Sh.nb]
theorem XI.listO {m1:RE (List α)} (h:XE Γ a ρ m1 (eL en) s t):XI Γ (.any a) ρ m1 en t true:=by
 unfold XI;rw[evI]
 have e:m1=m1.bind fun k=>.ok k:=by cases m1<;>rfl
 rw[e]
 exact XR.bind h fun v er k=>by
  simp only[qir,k.d,eL]
  exact⟨_,rfl,rfl,k.t,fun z=>nomatch z⟩
theorem XI.str {m1:RE (List Nat)} (h:XE Γ a ρ m1 eS s t):XI Γ (.any a) ρ m1 eC true false:=by
 unfold XI;rw[evI]
 have e:m1=m1.bind fun k=>.ok k:=by cases m1<;>rfl
 rw[e]
 exact XR.bind h fun v er k=>by
  simp only[qir,k.d]
  exact⟨_,rfl,rfl,fun _=>rfl,fun _=>rfl⟩
theorem XI.tup {m1:RE α} {f:α→List β} (h:XE Γ a ρ m1 en s t) (k:∀v,en v=.tup ((f v).map en2)):XI Γ (.any a) ρ (m1.bind fun x=>.ok (f x)) en2 t false:=by
 unfold XI;rw[evI]
 exact XR.bind h fun v er q=>by
  simp only[qir,q.d,k]
  exact⟨_,rfl,rfl,q.t,fun _=>rfl⟩
theorem XI.rng {es:Exs} {m1:RE (List Int)} (h:XRg Γ es ρ m1):XI Γ (.rng es) ρ m1 eI true false:=by
 unfold XI;rw[evI]
 have e:m1=m1.bind fun k=>.ok k:=by cases m1<;>rfl
 rw[e,←RE.bind_assoc]
 exact XR.bind h fun v x k=>by subst k;exact⟨_,rfl,rfl,fun _=>rfl,fun _=>rfl⟩
theorem qlS (f:α→D) (g:β→D):∀(xs:List α) (ys:List β),List.zipWith (fun u v=>D.tup [u,v]) (xs.map f) (ys.map g)=(xs.zip ys).map (eT2 f g)
 |[],_=>rfl
 |_::_,[]=>rfl
 |x::xs,y::ys=>by simp[qlS f g xs ys,eT2]
theorem XI.zp {m1:RE (List α)} {m2:RE (List β)} (ha:XE Γ a ρ m1 (eL en) s1 t1) (hb:XE Γ b ρ m2 (eL en2) s2 t2):XI Γ (.zp a b) ρ (m1.bind fun xs=>m2.bind fun ys=>.ok (xs.zip ys)) (eT2 en en2) (t1&&t2) (!(s1.nb&&s2.nb)):=by
 unfold XI;rw[evI]
 exact XR.bind ha fun x ex hx=>XR.bind hb fun y ey hy=>by
  simp only[hx.d,hy.d,eL]
  refine⟨_,rfl,qlS _ _ _ _,fun z=>?_,fun z=>?_⟩
  ·rw[Bool.and_eq_true] at z
   show(_&&_)=true
   rw[hx.t z.1,hy.t z.2];rfl
  ·have h1:=hx.s
   have h2:=hy.s
   show(_||_)=false
   cases s1<;>cases s2<;>cases ex<;>cases ey<;>simp_all[qiY,ER.isF,Sh.nb]
def qqV (xs:List α):List (Int × α):=xs.zipIdx.map fun p=>((p.2:Int),p.1)
theorem XI.rv {m1:RE (List α)} (ha:XE Γ a ρ m1 (eL en) s1 t1):XI Γ (.rv a) ρ (m1.bind fun xs=>.ok xs.reverse) en t1 (!s1.nb):=by
 unfold XI;rw[evI]
 exact XR.bind ha fun x ex hx=>by
  simp only[hx.d,eL]
  refine⟨_,rfl,by simp,hx.t,fun z=>?_⟩
  have h1:=hx.s
  show ex.isB=false
  cases s1<;>cases ex<;>simp_all[qiY,ER.isF,Sh.nb]
def lcE (c:α→RE Bool) (f:α→RE β):List α→RE (List β)
 |[]=>.ok []
 |x::xs=>(noX (c x)).bind fun k=>if k=true then (noX (f x)).bind fun y=>(lcE c f xs).bind fun ys=>.ok (y::ys) else lcE c f xs
def qwV (f:α→RE β):List α→RE (List β)
 |[]=>.ok []
 |x::xs=>(noX (f x)).bind fun y=>(qwV f xs).bind fun ys=>.ok (y::ys)
theorem qqy (c:α→Bool) (f:α→β):∀xs:List α,lcE (fun x=>.ok (c x)) (fun x=>.ok (f x)) xs=.ok ((xs.filter c).map f)
 |[]=>rfl
 |x::xs=>by
  rw[lcE,qqy c f xs]
  simp only[noX,RE.bind_ok]
  cases h:c x<;>simp[h]
theorem qqG {cc:α→RE Bool} {ff:α→RE β} {F:D→RE (Option (D × Bool))} {t:Bool}:∀{xs:List α},(∀x∈xs,XR (F (en x)) ((noX (cc x)).bind fun k=>if k=true then (noX (ff x)).bind fun y=>.ok (some y) else .ok none) fun v r=>match v with
  |none=>r=none
  |some y=>∃f,r=some (en2 y,f)∧(t=true→f=true))→XR (lcl F (xs.map en)) (lcE cc ff xs) fun ys r=>r.1=ys.map en2∧(t=true→r.2=true)
 |[],_=>⟨_,rfl,rfl,fun _=>rfl⟩
 |x::xs,h=>by
  have ih:=qqG (F:=F) (xs:=xs) fun y hy=>h y (List.mem_cons_of_mem _ hy)
  have h0:=h x (by simp)
  simp only[List.map_cons,lcl,lcE]
  cases hc:noX (cc x) with
  |bad=>trivial
  |exc c fs=>cases e:cc x<;>rw[e] at hc<;>cases hc
  |ok k =>
   rw[hc] at h0
   simp only[RE.bind_ok] at h0 ⊢
   cases k with
   |false =>
    simp only[Bool.false_eq_true,if_false] at h0 ⊢
    obtain⟨r,e1,e2⟩:=h0
    cases e2
    rw[e1]
    simp only[RE.bind_ok]
    cases hl:lcE cc ff xs with
    |bad=>trivial
    |ok ys=>rw[hl] at ih;obtain⟨q,e3,e4⟩:=ih;rw[e3];exact⟨_,rfl,e4⟩
    |exc c fs=>rw[hl] at ih;have ih:lcl F (xs.map en)=_:=ih;rw[ih];rfl
   |true =>
    simp only[if_true] at h0 ⊢
    cases hf:noX (ff x) with
    |bad=>trivial
    |exc c fs=>cases e:ff x<;>rw[e] at hf<;>cases hf
    |ok y =>
     rw[hf] at h0
     obtain⟨r,e1,f,e2,e2'⟩:=h0
     subst e2
     rw[e1]
     simp only[RE.bind_ok]
     cases hl:lcE cc ff xs with
     |bad=>trivial
     |ok ys =>
      rw[hl] at ih
      obtain⟨q,e3,e4,e5⟩:=ih
      rw[e3]
      refine⟨_,rfl,by simp[e4],fun z=>?_⟩
      show(f&&q.2)=true
      rw[e2' z,e5 z];rfl
     |exc c fs=>rw[hl] at ih;have ih:lcl F (xs.map en)=_:=ih;rw[ih];rfl
theorem qrY {cnd:Tes} {e:Ex} {ρ':List Sl} {mc:RE Bool} {mf:RE β} (hc:XTs Γ true cnd ρ' mc) (hf:mc=.ok true→XE Γ e ρ' mf en2 s t) (hs:s.nb=true):XR (noX ((qg8 Γ true cnd ρ').bind fun k=>if k=true then (ev Γ e ρ').bind fun y=>match y with
    |.brw _ _=>.bad
    |y=>.ok (some (y.d,y.b)) else .ok none)) ((noX mc).bind fun k=>if k=true then (noX mf).bind fun y=>.ok (some y) else .ok none) fun v r=>match v with
  |none=>r=none
  |some y=>∃f,r=some (en2 y,f)∧(t=true→f=true):=by
 cases mc with
 |bad=>trivial
 |exc c fs=>trivial
 |ok k =>
  obtain⟨x,e1,e2⟩:=hc
  subst e2
  rw[e1]
  cases x with
  |false=>exact⟨_,rfl,rfl⟩
  |true =>
   have hf:=hf rfl
   simp only[RE.bind_ok,if_true,noX]
   cases mf with
   |bad=>trivial
   |exc c fs=>trivial
   |ok y =>
    obtain⟨er,e3,e4⟩:=hf
    rw[e3]
    simp only[RE.bind_ok,noX]
    have hsh:=e4.s
    cases er with
    |brw ds b=>cases s<;>simp_all[qiY,ER.isF,Sh.nb]
    |val d b=>exact⟨_,rfl,_,by rw[←e4.d],e4.t⟩
    |fre d b=>exact⟨_,rfl,_,by rw[←e4.d],e4.t⟩
theorem XE.lc {own:List Nat} {it:Itx} {i:Nat} {cnd:Tes} {m1:RE (List α)} {o t0:Bool} {mc:α→RE Bool} {mf:α→RE β} (ρ₂:Sl→List Sl) (hi:XI Γ it ρ m1 en t1 o) (ht:t0=true→t1=true∨Flat en) (hset:∀q,(wipeS ρ own).set i q=ρ₂ q)
  (hc:∀x q,SlV t0 (en x) q→XTs Γ true cnd (ρ₂ q) (mc x)) (hf:∀x q,SlV t0 (en x) q→mc x=.ok true→XE Γ e (ρ₂ q) (mf x) en2 s t) (hs:s.nb=true) :
  XE Γ (.lc own it [i] cnd e) ρ (m1.bind fun xs=>gd (leB xs.length) (lcE mc mf xs)) (eL en2) .f t:=by
 unfold XE;rw[ev]
 refine XR.bind hi fun xs w hw=>?_
 obtain⟨w1,w2,_⟩:=hw
 rw[w1,List.length_map]
 cases hl:leB xs.length with
 |false=>trivial
 |true =>
  simp only[qky]
  have e:lcE mc mf xs=(lcE mc mf xs).bind fun k=>.ok k:=by cases lcE mc mf xs<;>rfl
  rw[e]
  refine XR.bind (qqG (t:=t) (en2:=en2) fun x _=>?_) fun ys r hr=>qqR (by rw[hr.1];rfl) hr.2
  simp only[qcx,hset]
  have hq:SlV t0 (en x) (.val (en x) (w.b||(en x).flat)):=⟨_,rfl,fun z=>by
   rcases ht z with q | q
   ·simp[w2 q]
   ·rw[q.flat];simp⟩
  exact qrY (hc x _ hq) (hf x _ hq) hs
theorem XTs.nil {c:Bool}:XTs Γ c .nil ρ (.ok c):=by unfold XTs;rw[qg8];exact⟨_,rfl,rfl⟩
end
end Cm
namespace Cm
def Out.rt:Out→RE ER
 |.ret er=>.ok er
 |.exc c fs=>.exc c fs
 |_=>.bad
inductive Fl (β σ:Type) where
 |nx (s:σ) | rt (b:β) | bk (s:σ)
def XN {σ:Type} (o:Out) (m:RE σ) (S:σ→List Sl→Prop):Prop:=match m with
 |.bad=>True
 |.ok v=>∃ρ',o=.nx ρ'∧S v ρ'
 |.exc c fs=>o=.exc c fs
def XL {σ:Type} (o:Out) (m:RE σ) (S:σ→List Sl→Prop):Prop:=match m with
 |.bad=>True
 |.ok v=>∃ρ',(o=.nx ρ'∨o=.cnt ρ')∧S v ρ'
 |.exc c fs=>o=.exc c fs
def XF {β σ:Type} (o:Out) (m:RE (Fl β σ)) (R:β→ER→Prop) (S:σ→List Sl→Prop):Prop:=match m with
 |.bad=>True
 |.ok (.nx v)=>∃ρ',(o=.nx ρ'∨o=.cnt ρ')∧S v ρ'
 |.ok (.rt b)=>∃er,o=.ret er∧R b er
 |.ok (.bk v)=>∃ρ',o=.brk ρ'∧S v ρ'
 |.exc c fs=>o=.exc c fs
def XX {β σ:Type} (o:Out) (m:RE (Fl β σ)) (R:β→ER→Prop) (S:σ→List Sl→Prop):Prop:=match m with
 |.bad=>True
 |.ok (.nx v)=>∃ρ',o=.cnt ρ'∧S v ρ'
 |.ok (.rt b)=>∃er,o=.ret er∧R b er
 |.ok (.bk v)=>∃ρ',o=.brk ρ'∧S v ρ'
 |.exc c fs=>o=.exc c fs
abbrev BR {β:Type} (Γ:Env) (ss:Sms) (ρ:List Sl) (m:RE β) (en:β→D) (s:Sh) (t:Bool):Prop:=XR (qak Γ ss ρ).rt m fun v er=>Is s t (en v) er
abbrev BN {σ:Type} (Γ:Env) (ss:Sms) (ρ:List Sl) (m:RE σ) (S:σ→List Sl→Prop):Prop:=XN (qak Γ ss ρ) m S
abbrev BL {σ:Type} (Γ:Env) (ss:Sms) (ρ:List Sl) (m:RE σ) (S:σ→List Sl→Prop):Prop:=XL (qak Γ ss ρ) m S
abbrev BF {β σ:Type} (Γ:Env) (ss:Sms) (ρ:List Sl) (m:RE (Fl β σ)) (R:β→ER→Prop) (S:σ→List Sl→Prop):Prop:=XF (qak Γ ss ρ) m R S
abbrev BX {β σ:Type} (Γ:Env) (ss:Sms) (ρ:List Sl) (m:RE (Fl β σ)) (R:β→ER→Prop) (S:σ→List Sl→Prop):Prop:=XX (qak Γ ss ρ) m R S
def XG {β σ:Type} (o:Out) (m:RE (Fl β σ)) (R:β→ER→Prop) (S:σ→List Sl→Prop):Prop:=match m with
 |.bad=>True
 |.ok (.nx v)=>∃ρ',o=.nx ρ'∧S v ρ'
 |.ok (.rt b)=>∃er,o=.ret er∧R b er
 |.ok (.bk v)=>False
 |.exc c fs=>o=.exc c fs
abbrev BG {β σ:Type} (Γ:Env) (ss:Sms) (ρ:List Sl) (m:RE (Fl β σ)) (R:β→ER→Prop) (S:σ→List Sl→Prop):Prop:=XG (qak Γ ss ρ) m R S
def Fl.bR {β σ:Type} (m:RE (Fl β σ)) (k:σ→RE β):RE β:=m.bind fun f=>match f with
 |.nx v=>k v
 |.rt b=>.ok b
 |.bk _=>.bad
def Fl.bF {β σ τ:Type} (m:RE (Fl β σ)) (k:σ→RE (Fl β τ)):RE (Fl β τ):=m.bind fun f=>match f with
 |.nx v=>k v
 |.rt b=>.ok (.rt b)
 |.bk _=>.bad
abbrev SN {σ:Type} (Γ:Env) (s:Sm) (ρ:List Sl) (m:RE σ) (S:σ→List Sl→Prop):Prop:=XN (run Γ s ρ) m S
abbrev SF {β σ:Type} (Γ:Env) (s:Sm) (ρ:List Sl) (m:RE (Fl β σ)) (R:β→ER→Prop) (S:σ→List Sl→Prop):Prop:=XG (run Γ s ρ) m R S
section
variable {Γ:Env} {ρ:List Sl} {α β γ δ σ τ:Type} {en:α→D} {en2:β→D} {e a b:Ex} {s s1 s2:Sh} {t t1 t2:Bool} {ss sa sb:Sms} {q:Sm} {R:β→ER→Prop} {S:σ→List Sl→Prop} {S':τ→List Sl→Prop}
theorem BR.cons {m:RE σ} {k:σ→RE β} (h:SN Γ q ρ m S) (hk:∀v ρ',S v ρ'→BR Γ ss ρ' (k v) en2 s t):BR Γ (.cons q ss) ρ (m.bind k) en2 s t:=by
 unfold BR
 rw[qak]
 cases m with
 |bad=>trivial
 |ok v=>obtain⟨ρ',e,h⟩:=h;rw[e];exact hk v ρ' h
 |exc c fs=>have h:run Γ q ρ=_:=h;rw[h];rfl
theorem BN.cons {m:RE σ} {k:σ→RE τ} (h:SN Γ q ρ m S) (hk:∀v ρ',S v ρ'→BN Γ ss ρ' (k v) S'):BN Γ (.cons q ss) ρ (m.bind k) S':=by
 unfold BN
 rw[qak]
 cases m with
 |bad=>trivial
 |ok v=>obtain⟨ρ',e,h⟩:=h;rw[e];exact hk v ρ' h
 |exc c fs=>have h:run Γ q ρ=_:=h;rw[h];rfl
theorem BL.cons {m:RE σ} {k:σ→RE τ} (h:SN Γ q ρ m S) (hk:∀v ρ',S v ρ'→BL Γ ss ρ' (k v) S'):BL Γ (.cons q ss) ρ (m.bind k) S':=by
 unfold BL
 rw[qak]
 cases m with
 |bad=>trivial
 |ok v=>obtain⟨ρ',e,h⟩:=h;rw[e];exact hk v ρ' h
 |exc c fs=>have h:run Γ q ρ=_:=h;rw[h];rfl
theorem BF.cons {m:RE σ} {k:σ→RE (Fl β τ)} (h:SN Γ q ρ m S) (hk:∀v ρ',S v ρ'→BF Γ ss ρ' (k v) R S'):BF Γ (.cons q ss) ρ (m.bind k) R S':=by
 unfold BF
 rw[qak]
 cases m with
 |bad=>trivial
 |ok v=>obtain⟨ρ',e,h⟩:=h;rw[e];exact hk v ρ' h
 |exc c fs=>have h:run Γ q ρ=_:=h;rw[h];rfl
theorem BX.cons {m:RE σ} {k:σ→RE (Fl β τ)} (h:SN Γ q ρ m S) (hk:∀v ρ',S v ρ'→BX Γ ss ρ' (k v) R S'):BX Γ (.cons q ss) ρ (m.bind k) R S':=by
 unfold BX
 rw[qak]
 cases m with
 |bad=>trivial
 |ok v=>obtain⟨ρ',e,h⟩:=h;rw[e];exact hk v ρ' h
 |exc c fs=>have h:run Γ q ρ=_:=h;rw[h];rfl
theorem BR.consF {m:RE (Fl β σ)} {k:σ→RE β} (h:SF Γ q ρ m (fun v er=>Is s t (en2 v) er) S) (hk:∀v ρ',S v ρ'→BR Γ ss ρ' (k v) en2 s t):BR Γ (.cons q ss) ρ (Fl.bR m k) en2 s t:=by
 unfold BR
 rw[qak]
 cases m with
 |bad=>trivial
 |ok v =>
  cases v with
  |nx v=>obtain⟨ρ',e,h⟩:=h;rw[e];exact hk v ρ' h
  |rt b=>obtain⟨er,e,h⟩:=h;rw[e];exact⟨_,rfl,h⟩
  |bk v=>trivial
 |exc c fs=>have h:run Γ q ρ=_:=h;rw[h];rfl
theorem BF.consF {m:RE (Fl β σ)} {k:σ→RE (Fl β τ)} (h:SF Γ q ρ m R S) (hk:∀v ρ',S v ρ'→BF Γ ss ρ' (k v) R S'):BF Γ (.cons q ss) ρ (Fl.bF m k) R S':=by
 unfold BF
 rw[qak]
 cases m with
 |bad=>trivial
 |ok v =>
  cases v with
  |nx v=>obtain⟨ρ',e,h⟩:=h;rw[e];exact hk v ρ' h
  |rt b=>obtain⟨er,e,h⟩:=h;rw[e];exact⟨_,rfl,h⟩
  |bk v=>trivial
 |exc c fs=>have h:run Γ q ρ=_:=h;rw[h];rfl
theorem BG.consF {m:RE (Fl β σ)} {k:σ→RE (Fl β τ)} (h:SF Γ q ρ m R S) (hk:∀v ρ',S v ρ'→BG Γ ss ρ' (k v) R S'):BG Γ (.cons q ss) ρ (Fl.bF m k) R S':=by
 unfold BG
 rw[qak]
 cases m with
 |bad=>trivial
 |ok v =>
  cases v with
  |nx v=>obtain⟨ρ',e,h⟩:=h;rw[e];exact hk v ρ' h
  |rt b=>obtain⟨er,e,h⟩:=h;rw[e];exact⟨_,rfl,h⟩
  |bk v=>trivial
 |exc c fs=>have h:run Γ q ρ=_:=h;rw[h];rfl
theorem BG.cons {m:RE σ} {k:σ→RE (Fl β τ)} (h:SN Γ q ρ m S) (hk:∀v ρ',S v ρ'→BG Γ ss ρ' (k v) R S'):BG Γ (.cons q ss) ρ (m.bind k) R S':=by
 unfold BG
 rw[qak]
 cases m with
 |bad=>trivial
 |ok v=>obtain⟨ρ',e,h⟩:=h;rw[e];exact hk v ρ' h
 |exc c fs=>have h:run Γ q ρ=_:=h;rw[h];rfl
theorem BG.nil {v:σ} (h:S v ρ):BG Γ .nil ρ (.ok (.nx v)) R S:=by unfold BG;rw[qak];exact⟨_,rfl,h⟩
theorem BN.nil {v:σ} (h:S v ρ):BN Γ .nil ρ (.ok v) S:=by unfold BN;rw[qak];exact⟨_,rfl,h⟩
theorem BL.nil {v:σ} (h:S v ρ):BL Γ .nil ρ (.ok v) S:=by unfold BL;rw[qak];exact⟨_,.inl rfl,h⟩
theorem BF.nil {v:σ} (h:S v ρ):BF Γ .nil ρ (.ok (.nx v)) R S:=by unfold BF;rw[qak];exact⟨_,.inl rfl,h⟩
theorem BL.cnt {v:σ} (h:S v ρ):BL Γ (.cons .cnt ss) ρ (.ok v) S:=by unfold BL;rw[qak,Cm.run];exact⟨_,.inr rfl,h⟩
theorem BF.cnt {v:σ} (h:S v ρ):BF Γ (.cons .cnt ss) ρ (.ok (.nx v)) R S:=by unfold BF;rw[qak,Cm.run];exact⟨_,.inr rfl,h⟩
theorem BX.cnt {v:σ} (h:S v ρ):BX Γ (.cons .cnt ss) ρ (.ok (.nx v)) R S:=by unfold BX;rw[qak,Cm.run];exact⟨_,rfl,h⟩
theorem BF.brk {v:σ} (h:S v ρ):BF Γ (.cons .brk ss) ρ (.ok (.bk v)) R S:=by unfold BF;rw[qak,Cm.run];exact⟨_,rfl,h⟩
theorem BX.brk {v:σ} (h:S v ρ):BX Γ (.cons .brk ss) ρ (.ok (.bk v)) R S:=by unfold BX;rw[qak,Cm.run];exact⟨_,rfl,h⟩
theorem BX.F {m:RE (Fl β σ)} (h:BX Γ ss ρ m R S):BF Γ ss ρ m R S:=by
 unfold BF
 cases m with
 |bad=>trivial
 |ok v =>
  cases v with
  |nx v=>obtain⟨ρ',e,h⟩:=h;exact⟨ρ',.inr e,h⟩
  |rt b=>exact h
  |bk v=>exact h
 |exc c fs=>exact h
theorem BR.X {m:RE β} (h:BR Γ ss ρ m en2 s t):BX (σ:=σ) Γ ss ρ (m.bind fun b=>.ok (.rt b)) (fun v er=>Is s t (en2 v) er) S:=by
 unfold BX
 cases m with
 |bad=>trivial
 |ok v =>
  obtain⟨er,e,h⟩:=h
  cases hr:qak Γ ss ρ<;>rw[hr] at e<;>cases e
  exact⟨_,rfl,h⟩
 |exc c fs =>
  have h:(qak Γ ss ρ).rt=_:=h
  cases hr:qak Γ ss ρ<;>rw[hr] at h<;>cases h
  rfl
theorem BR.XP {v:β} (h:BR Γ ss ρ (.ok v) en2 s t):BX (σ:=σ) Γ ss ρ (.ok (.rt v)) (fun v er=>Is s t (en2 v) er) S:=BR.X h
theorem Is.ret {d:D} {er:ER} (h:Is s t d er):Is s.ret t d (qvj er):=by
 have:=h.s
 have:=h.d
 have:=h.t
 cases s<;>cases er<;>simp_all[qiY,ER.isF,Sh.ret]<;>exact⟨by assumption,rfl,by simpa using h.t⟩
theorem BR.ret {m:RE α} (h:XE Γ e ρ m en s1 t) (hs:s1.ret=s):BR Γ (.cons (.ret e) ss) ρ m en s t:=by
 unfold BR
 rw[qak,Cm.run]
 subst hs
 cases m with
 |bad=>trivial
 |ok v=>obtain⟨er,e,h⟩:=h;rw[e];exact⟨_,rfl,h.ret⟩
 |exc c fs=>have h:ev Γ _ ρ=_:=h;rw[h];rfl
theorem BR.retN:BR Γ (.cons .retN ss) ρ (.ok ()) eU .v true:=by unfold BR;rw[qak,Cm.run];exact⟨_,rfl,rfl,rfl,fun _=>rfl⟩
theorem BR.rse {k c:Nat} (h:Γ.xk[k]? = some c):BR Γ (.cons (.rse k) ss) ρ (.exc c []) en s t:=by unfold BR;rw[qak,Cm.run,h];rfl
theorem BR.weak {m:RE α} (h:BR Γ ss ρ m en s t) (hs:s.nb=true):BR Γ ss ρ m en .n t:=XR.mono h fun _ _ k=>k.weak hs
theorem BR.low {m:RE α} (h:BR Γ ss ρ m en s t):BR Γ ss ρ m en s false:=XR.mono h fun _ _ k=>k.low
theorem BR.coe {m:RE α} {f:α→β} (h:BR Γ ss ρ m en s t) (k:∀v,en v=en2 (f v)):BR Γ ss ρ (m.bind fun x=>.ok (f x)) en2 s t:=by
 cases m with
 |bad=>trivial
 |ok v=>obtain⟨er,e,h⟩:=h;exact⟨_,e,by rw[←k];exact h.d,h.s,h.t⟩
 |exc c fs=>exact h
theorem BR.iff {c:Te} {mt:RE Bool} {m1 m2:RE β} (h:XT Γ c ρ mt) (ha:BR Γ sa ρ m1 en2 s t) (hb:BR Γ sb ρ m2 en2 s t):BR Γ (.cons (.iff c sa sb) ss) ρ (mt.bind fun k=>if k=true then m1 else m2) en2 s t:=by
 unfold BR
 rw[qak,Cm.run]
 cases mt with
 |bad=>trivial
 |exc c fs=>have h:evT Γ _ ρ=_:=h;rw[h];rfl
 |ok v =>
  obtain⟨x,e,rfl⟩:=h
  rw[e]
  simp only[RE.out_ok,RE.bind_ok]
  have key:∀{sx:Sms} {m:RE β},BR Γ sx ρ m en2 s t→XR (((qak Γ sx ρ).seq fun ρ'=>qak Γ ss ρ').rt) m fun v er=>Is s t (en2 v) er:=fun {sx m} hx=>by
   cases m with
   |bad=>trivial
   |ok v =>
    obtain⟨er,e,h⟩:=hx
    cases hr:qak Γ sx ρ<;>rw[hr] at e<;>cases e
    exact⟨_,rfl,h⟩
   |exc c fs =>
    have h:(qak Γ sx ρ).rt=_:=hx
    cases hr:qak Γ sx ρ<;>rw[hr] at h<;>cases h
    rfl
  cases x
  ·exact key hb
  ·exact key ha
theorem BR.ifR {c:Te} {mt:RE Bool} {m1 m2:RE β} (h:XT Γ c ρ mt) (ha:BR Γ sa ρ m1 en2 s t) (hb:BR Γ ss ρ m2 en2 s t):BR Γ (.cons (.iff c sa .nil) ss) ρ (mt.bind fun k=>if k=true then m1 else m2) en2 s t:=by
 unfold BR
 rw[qak,Cm.run]
 cases mt with
 |bad=>trivial
 |exc c fs=>have h:evT Γ _ ρ=_:=h;rw[h];rfl
 |ok v =>
  obtain⟨x,e,rfl⟩:=h
  rw[e]
  simp only[RE.out_ok,RE.bind_ok]
  cases x with
  |false=>simp only[Bool.false_eq_true,if_false,qak];exact hb
  |true =>
   simp only[if_true]
   cases m1 with
   |bad=>trivial
   |ok v =>
    obtain⟨er,e,h⟩:=ha
    cases hr:qak Γ sa ρ<;>rw[hr] at e<;>cases e
    exact⟨_,rfl,h⟩
   |exc c fs =>
    have h:(qak Γ sa ρ).rt=_:=ha
    cases hr:qak Γ sa ρ<;>rw[hr] at h<;>cases h
    rfl
theorem BF.ifX {c:Te} {mt:RE Bool} {m1 m2:RE (Fl β σ)} (h:XT Γ c ρ mt) (ha:BX Γ sa ρ m1 R S) (hb:BF Γ ss ρ m2 R S):BF Γ (.cons (.iff c sa .nil) ss) ρ (mt.bind fun k=>if k=true then m1 else m2) R S:=by
 unfold BF
 rw[qak,Cm.run]
 cases mt with
 |bad=>trivial
 |exc c fs=>have h:evT Γ _ ρ=_:=h;rw[h];rfl
 |ok v =>
  obtain⟨x,e,rfl⟩:=h
  rw[e]
  simp only[RE.out_ok,RE.bind_ok]
  cases x with
  |false=>simp only[Bool.false_eq_true,if_false,qak];exact hb
  |true =>
   simp only[if_true]
   cases m1 with
   |bad=>trivial
   |ok v =>
    cases v with
    |nx v=>obtain⟨ρ',e,h⟩:=ha;rw[e];exact⟨_,.inr rfl,h⟩
    |rt b=>obtain⟨er,e,h⟩:=ha;rw[e];exact⟨_,rfl,h⟩
    |bk v=>obtain⟨ρ',e,h⟩:=ha;rw[e];exact⟨_,rfl,h⟩
   |exc c fs=>have h:qak Γ sa ρ=_:=ha;rw[h];rfl
theorem BX.ifX {c:Te} {mt:RE Bool} {m1 m2:RE (Fl β σ)} (h:XT Γ c ρ mt) (ha:BX Γ sa ρ m1 R S) (hb:BX Γ ss ρ m2 R S):BX Γ (.cons (.iff c sa .nil) ss) ρ (mt.bind fun k=>if k=true then m1 else m2) R S:=by
 unfold BX
 rw[qak,Cm.run]
 cases mt with
 |bad=>trivial
 |exc c fs=>have h:evT Γ _ ρ=_:=h;rw[h];rfl
 |ok v =>
  obtain⟨x,e,rfl⟩:=h
  rw[e]
  simp only[RE.out_ok,RE.bind_ok]
  cases x with
  |false=>simp only[Bool.false_eq_true,if_false,qak];exact hb
  |true =>
   simp only[if_true]
   cases m1 with
   |bad=>trivial
   |ok v =>
    cases v with
    |nx v=>obtain⟨ρ',e,h⟩:=ha;rw[e];exact⟨_,rfl,h⟩
    |rt b=>obtain⟨er,e,h⟩:=ha;rw[e];exact⟨_,rfl,h⟩
    |bk v=>obtain⟨ρ',e,h⟩:=ha;rw[e];exact⟨_,rfl,h⟩
   |exc c fs=>have h:qak Γ sa ρ=_:=ha;rw[h];rfl
theorem BL.ifX {c:Te} {mt:RE Bool} {m1 m2:RE σ} {v:σ} (h:XT Γ c ρ mt) (ha:sa=.cons .cnt .nil) (hs:S v ρ) (hb:BL Γ ss ρ m2 S):BL Γ (.cons (.iff c sa .nil) ss) ρ (mt.bind fun k=>if k=true then .ok v else m2) S:=by
 unfold BL
 subst ha
 rw[qak,Cm.run]
 cases mt with
 |bad=>trivial
 |exc c fs=>have h:evT Γ _ ρ=_:=h;rw[h];rfl
 |ok v =>
  obtain⟨x,e,rfl⟩:=h
  rw[e]
  simp only[RE.out_ok,RE.bind_ok]
  cases x with
  |false=>simp only[Bool.false_eq_true,if_false,qak];exact hb
  |true=>simp only[if_true,qak,Cm.run];exact⟨_,.inr rfl,hs⟩
theorem BF.iff {c:Te} {mt:RE Bool} {m1 m2:RE (Fl β σ)} (h:XT Γ c ρ mt) (ha:BF Γ sa ρ m1 R S) (hb:BF Γ sb ρ m2 R S):BF Γ (.cons (.iff c sa sb) .nil) ρ (mt.bind fun k=>if k=true then m1 else m2) R S:=by
 unfold BF
 rw[qak,Cm.run]
 cases mt with
 |bad=>trivial
 |exc c fs=>have h:evT Γ _ ρ=_:=h;rw[h];rfl
 |ok v =>
  obtain⟨x,e,rfl⟩:=h
  rw[e]
  simp only[RE.out_ok,RE.bind_ok]
  have key:∀{sx:Sms} {m:RE (Fl β σ)},BF Γ sx ρ m R S→XF ((qak Γ sx ρ).seq fun ρ'=>qak Γ .nil ρ') m R S:=fun {sx m} hx=>by
   have:((qak Γ sx ρ).seq fun ρ'=>qak Γ .nil ρ')=qak Γ sx ρ:=by
    cases qak Γ sx ρ<;>simp only[Out.seq,qak]
   rw[this];exact hx
  cases x
  ·exact key hb
  ·exact key ha
theorem BX.iff {c:Te} {mt:RE Bool} {m1 m2:RE (Fl β σ)} (h:XT Γ c ρ mt) (ha:BX Γ sa ρ m1 R S) (hb:BX Γ sb ρ m2 R S):BX Γ (.cons (.iff c sa sb) .nil) ρ (mt.bind fun k=>if k=true then m1 else m2) R S:=by
 unfold BX
 rw[qak,Cm.run]
 cases mt with
 |bad=>trivial
 |exc c fs=>have h:evT Γ _ ρ=_:=h;rw[h];rfl
 |ok v =>
  obtain⟨x,e,rfl⟩:=h
  rw[e]
  simp only[RE.out_ok,RE.bind_ok]
  have key:∀{sx:Sms} {m:RE (Fl β σ)},BX Γ sx ρ m R S→XX ((qak Γ sx ρ).seq fun ρ'=>qak Γ .nil ρ') m R S:=fun {sx m} hx=>by
   have:((qak Γ sx ρ).seq fun ρ'=>qak Γ .nil ρ')=qak Γ sx ρ:=by
    cases qak Γ sx ρ<;>simp only[Out.seq,qak]
   rw[this];exact hx
  cases x
  ·exact key hb
  ·exact key ha
theorem SN.iff {c:Te} {mt:RE Bool} {m1 m2:RE σ} (h:XT Γ c ρ mt) (ha:BN Γ sa ρ m1 S) (hb:BN Γ sb ρ m2 S):SN Γ (.iff c sa sb) ρ (mt.bind fun k=>if k=true then m1 else m2) S:=by
 unfold SN
 rw[Cm.run]
 cases mt with
 |bad=>trivial
 |exc c fs=>have h:evT Γ _ ρ=_:=h;rw[h];rfl
 |ok v =>
  obtain⟨x,e,rfl⟩:=h
  rw[e]
  cases x
  ·exact hb
  ·exact ha
theorem SF.iff {c:Te} {mt:RE Bool} {m1 m2:RE (Fl β σ)} (h:XT Γ c ρ mt) (ha:BG Γ sa ρ m1 R S) (hb:BG Γ sb ρ m2 R S):SF Γ (.iff c sa sb) ρ (mt.bind fun k=>if k=true then m1 else m2) R S:=by
 unfold SF
 rw[Cm.run]
 cases mt with
 |bad=>trivial
 |exc c fs=>have h:evT Γ _ ρ=_:=h;rw[h];rfl
 |ok v =>
  obtain⟨x,e,rfl⟩:=h
  rw[e]
  cases x
  ·exact hb
  ·exact ha
theorem BX.G {m:RE β} {en2:β→D} (h:BR Γ ss ρ m en2 s t):BG (σ:=σ) Γ ss ρ (m.bind fun b=>.ok (.rt b)) (fun v er=>Is s t (en2 v) er) S:=by
 unfold BG
 cases m with
 |bad=>trivial
 |ok v =>
  obtain⟨er,e,h⟩:=h
  cases hr:qak Γ ss ρ<;>rw[hr] at e<;>cases e
  exact⟨_,rfl,h⟩
 |exc c fs =>
  have h:(qak Γ ss ρ).rt=_:=h
  cases hr:qak Γ ss ρ<;>rw[hr] at h<;>cases h
  rfl
theorem BG.ifR {c:Te} {mt:RE Bool} {m1:RE β} {m2:RE (Fl β σ)} {en2:β→D} (h:XT Γ c ρ mt) (ha:BR Γ sa ρ m1 en2 s t) (hb:BG Γ ss ρ m2 (fun v er=>Is s t (en2 v) er) S):BG Γ (.cons (.iff c sa .nil) ss) ρ (mt.bind fun k=>if k=true then m1.bind fun b=>.ok (.rt b) else m2) (fun v er=>Is s t (en2 v) er) S:=by
 unfold BG
 rw[qak,Cm.run]
 cases mt with
 |bad=>trivial
 |exc c fs=>have h:evT Γ _ ρ=_:=h;rw[h];rfl
 |ok v =>
  obtain⟨x,e,rfl⟩:=h
  rw[e]
  simp only[RE.out_ok,RE.bind_ok]
  cases x with
  |false=>simp only[Bool.false_eq_true,if_false,qak];exact hb
  |true =>
   simp only[if_true]
   cases m1 with
   |bad=>trivial
   |ok v =>
    obtain⟨er,e,h⟩:=ha
    cases hr:qak Γ sa ρ<;>rw[hr] at e<;>cases e
    exact⟨_,rfl,h⟩
   |exc c fs =>
    have h:(qak Γ sa ρ).rt=_:=ha
    cases hr:qak Γ sa ρ<;>rw[hr] at h<;>cases h
    rfl
theorem qeY {k c:Nat} (h:Γ.xk[k]? = some c):qak Γ (.cons (.rse k) ss) ρ=.exc c []:=by rw[qak,Cm.run,h];rfl
theorem BN.rse {k c:Nat} (h:Γ.xk[k]? = some c):BN Γ (.cons (.rse k) ss) ρ (.exc c []) S:=by unfold BN;rw[qeY h];rfl
theorem BL.rse {k c:Nat} (h:Γ.xk[k]? = some c):BL Γ (.cons (.rse k) ss) ρ (.exc c []) S:=by unfold BL;rw[qeY h];rfl
theorem BF.rse {k c:Nat} (h:Γ.xk[k]? = some c):BF Γ (.cons (.rse k) ss) ρ (.exc c []) R S:=by unfold BF;rw[qeY h];rfl
theorem BX.rse {k c:Nat} (h:Γ.xk[k]? = some c):BX Γ (.cons (.rse k) ss) ρ (.exc c []) R S:=by unfold BX;rw[qeY h];rfl
theorem BG.rse {k c:Nat} (h:Γ.xk[k]? = some c):BG Γ (.cons (.rse k) ss) ρ (.exc c []) R S:=by unfold BG;rw[qeY h];rfl
theorem qqi {c:Te} {v:Bool} (h:evT Γ c ρ=.ok v):qak Γ (.cons (.iff c sa .nil) ss) ρ=(if v=true then qak Γ sa ρ else .nx ρ).seq fun ρ'=>qak Γ ss ρ':=by
 rw[qak,Cm.run,h]
 cases v<;>simp only[RE.out_ok,qak,if_true,if_false,Bool.false_eq_true]
theorem BN.ifE {c:Te} {k n:Nat} {mt:RE Bool} {m2:RE σ} (ha:sa=.cons (.rse k) .nil) (h:XT Γ c ρ mt) (hk:Γ.xk[k]? = some n) (hb:BN Γ ss ρ m2 S):BN Γ (.cons (.iff c sa .nil) ss) ρ (mt.bind fun k=>if k=true then .exc n [] else m2) S:=by
 subst ha
 unfold BN
 cases mt with
 |bad=>trivial
 |exc c fs=>have h:evT Γ _ ρ=_:=h;rw[qak,Cm.run,h];rfl
 |ok v =>
  obtain⟨x,e,rfl⟩:=h
  rw[qqi e]
  cases x with
  |false=>exact hb
  |true=>simp only[if_true,qeY hk];rfl
theorem BL.ifE {c:Te} {k n:Nat} {mt:RE Bool} {m2:RE σ} (ha:sa=.cons (.rse k) .nil) (h:XT Γ c ρ mt) (hk:Γ.xk[k]? = some n) (hb:BL Γ ss ρ m2 S):BL Γ (.cons (.iff c sa .nil) ss) ρ (mt.bind fun k=>if k=true then .exc n [] else m2) S:=by
 subst ha
 unfold BL
 cases mt with
 |bad=>trivial
 |exc c fs=>have h:evT Γ _ ρ=_:=h;rw[qak,Cm.run,h];rfl
 |ok v =>
  obtain⟨x,e,rfl⟩:=h
  rw[qqi e]
  cases x with
  |false=>exact hb
  |true=>simp only[if_true,qeY hk];rfl
theorem SN.asg {i:Nat} {m:RE α} (ρ₂:Sl→List Sl) (h:XE Γ e ρ m en s t) (hs:s.nb=true) (hset:∀q,ρ.set i q=ρ₂ q):SN Γ (.asg i e) ρ m fun v ρ'=>∃q,ρ'=ρ₂ q∧SlV t (en v) q:=by
 unfold SN
 rw[Cm.run]
 cases m with
 |bad=>trivial
 |ok v =>
  obtain⟨er,e,h⟩:=h
  rw[e]
  have h1:=h.s
  have h2:=h.d
  have h3:=h.t
  cases er with
  |val d b=>simp only[RE.out_ok,held];exact⟨_,rfl,_,hset _,b,by rw[←h2];rfl,h3⟩
  |fre d b=>simp only[RE.out_ok,held];exact⟨_,rfl,_,hset _,b,by rw[←h2];rfl,h3⟩
  |brw d b=>cases s<;>simp_all[qiY,ER.isF,Sh.nb]
 |exc c fs=>have h:ev Γ _ ρ=_:=h;rw[h];rfl
theorem SN.own {i:Nat} {m:RE (List α)} (ρ₂:Sl→List Sl) (h:XE Γ e ρ m (eL en) .f t) (hset:∀q,ρ.set i q=ρ₂ q):SN Γ (.own i e) ρ m fun v ρ'=>∃q,ρ'=ρ₂ q∧SlO t (v.map en) q:=by
 unfold SN
 rw[Cm.run]
 cases m with
 |bad=>trivial
 |ok v =>
  obtain⟨er,e,h⟩:=h
  rw[e]
  have h1:=h.s
  have h2:=h.d
  have h3:=h.t
  cases er with
  |val d b=>cases h1
  |fre d b =>
   simp only[RE.out_ok]
   refine⟨_,rfl,_,hset _,b,?_,h3⟩
   cases h2
   rfl
  |brw d b=>cases h1
 |exc c fs=>have h:ev Γ _ ρ=_:=h;rw[h];rfl
theorem SN.expr {m:RE α} (h:XE Γ e ρ m en s t):SN Γ (.expr e) ρ m fun _ ρ'=>ρ'=ρ:=by
 unfold SN
 rw[Cm.run]
 cases m with
 |bad=>trivial
 |ok v=>obtain⟨er,e,h⟩:=h;rw[e];exact⟨_,rfl,rfl⟩
 |exc c fs=>have h:ev Γ _ ρ=_:=h;rw[h];rfl
theorem SN.pas:SN Γ .pas ρ (.ok ()) fun _ ρ'=>ρ'=ρ:=by unfold SN;rw[Cm.run];exact⟨_,rfl,rfl⟩
theorem SN.asg2 {γ:Type} {en3:γ→D} {i j:Nat} {m:RE (α × γ)} {t3 t4:Bool} (ρ₂:Sl→Sl→List Sl) (h:XE Γ e ρ m (eT2 en en3) s t) (ht:t3=true→t=true∨Flat en) (ht':t4=true→t=true∨Flat en3) (hset:∀q r,(ρ.set i q).set j r=ρ₂ q r) :
  SN Γ (.asgT [i,j] e) ρ m fun v ρ'=>∃q r,ρ'=ρ₂ q r∧SlV t3 (en v.1) q∧SlV t4 (en3 v.2) r:=by
 unfold SN
 rw[Cm.run]
 cases m with
 |bad=>trivial
 |ok v =>
  obtain⟨er,e,h⟩:=h
  rw[e]
  have h1:=h.s
  have h2:=h.d
  have h3:=h.t
  cases er with
  |val d b =>
   have h2:d=.tup [en v.1,en3 v.2]:=h2
   subst h2
   simp only[RE.out_ok,held,qcx,qkS,qlA]
   refine⟨_,rfl,_,_,hset _ _,⟨_,rfl,fun z=>?_⟩,⟨_,rfl,fun z=>?_⟩⟩
   ·rcases ht z with q | q
    ·have:b=true:=h3 q
     rw[this];rfl
    ·rw[q.flat];simp
   ·rcases ht' z with q | q
    ·have:b=true:=h3 q
     rw[this];rfl
    ·rw[q.flat];simp
  |fre d b=>cases h2
  |brw d b=>cases h2
 |exc c fs=>have h:ev Γ _ ρ=_:=h;rw[h];rfl
def qvc (ds es:List D):Bool:=D.flats ds&&(clD ds != clD es)&&qr4 (clD es) es
def qkz {γ:Type} (e1:α→D) (e2:γ→D) (p:List α × List γ):RE (List α × List γ):=gd (qvc (p.1.map e1) (p.2.map e2)) (.ok p)
theorem qkN {d:D} {er:ER} (h:Is s t d er) (hs:s.nb=true):∃b,(∀f:D→Bool→Out,held er f=f d b)∧(t=true→b=true):=by
 have h1:=h.s
 have h2:=h.d
 have h3:=h.t
 cases er with
 |val d' b=>cases h2;exact⟨b,fun _=>rfl,h3⟩
 |fre d' b=>cases h2;exact⟨b,fun _=>rfl,h3⟩
 |brw d' b=>cases s<;>simp_all[qiY,ER.isF,Sh.nb]
theorem Is.frz {d:D} {er:ER} (h:Is s t d er) (hs:s.nb=true):Is .v t d er.frz:=by
 have h1:=h.s
 have h2:=h.d
 have h3:=h.t
 cases er with
 |val d' b=>exact⟨h2,rfl,h3⟩
 |fre d' b=>exact⟨h2,rfl,h3⟩
 |brw d' b=>cases s<;>simp_all[qiY,ER.isF,Sh.nb]
theorem SN.put {i:Nat} {ix:Ex} {m1:RE α} {m2:RE Int} {xs:List α} {q0:Sl} (ρ₂:Sl→List Sl) (h:XE Γ e ρ m1 en s t1) (hs:s.nb=true) (h0:ρ[i]? = some q0) (hq:SlO t2 (xs.map en) q0) (hi:XE Γ ix ρ m2 eI s2 t) (hset:∀q,ρ.set i q=ρ₂ q) :
  SN Γ (.put i ix e) ρ (m1.bind fun x=>m2.bind fun k=>(match L2.ixN xs.length k with
   |some j=>.ok (xs.set j x)
   |none=>.bad)) fun v ρ'=>∃q,ρ'=ρ₂ q∧SlO (t1&&t2) (v.map en) q:=by
 unfold SN
 rw[Cm.run]
 obtain⟨f,rfl,hf⟩:=hq
 cases m1 with
 |bad=>trivial
 |exc c fs=>have h:ev Γ _ ρ=_:=h;rw[h];rfl
 |ok x =>
  obtain⟨er,e1,h1⟩:=h
  rw[e1]
  simp only[RE.out_ok,RE.bind_ok]
  obtain⟨b1,q1,r1⟩:=qkN h1 hs
  rw[q1,qbX,h0]
  simp only
  cases m2 with
  |bad=>trivial
  |exc c fs=>have h:ev Γ _ ρ=_:=hi;rw[h];rfl
  |ok k =>
   obtain⟨er2,e2,h2⟩:=hi
   rw[e2]
   simp only[RE.out_ok,RE.bind_ok,h2.d,List.length_map]
   cases L2.ixN xs.length k with
   |none=>trivial
   |some j =>
    refine⟨_,rfl,_,hset _,_,by rw[List.map_set],fun z=>?_⟩
    rw[Bool.and_eq_true] at z
    rw[r1 z.1,hf z.2];rfl
def qoP (xs:List α) (k:Int) (x:α):RE (List α):=match L2.ixN xs.length k with
 |some j=>.ok (xs.set j x)
 |none=>.bad
def qeA (xs:List α) (x:α):RE (List α):=gd (leB (xs.length+1)) (.ok (xs++[x]))
theorem SN.app {i:Nat} {m1:RE α} {xs:List α} {q0:Sl} (ρ₂:Sl→List Sl) (h:XE Γ e ρ m1 en s t1) (hs:s.nb=true) (h0:ρ[i]? = some q0) (hq:SlO t2 (xs.map en) q0) (hset:∀q,ρ.set i q=ρ₂ q) :
  SN Γ (.app i e) ρ (m1.bind fun x=>qeA xs x) fun v ρ'=>∃q,ρ'=ρ₂ q∧SlO (t1&&t2) (v.map en) q:=by
 unfold SN
 rw[Cm.run]
 obtain⟨f,rfl,hf⟩:=hq
 rw[qbX,h0]
 simp only
 cases m1 with
 |bad=>trivial
 |exc c fs=>have h:ev Γ _ ρ=_:=h;rw[h];rfl
 |ok x =>
  obtain⟨er,e1,h1⟩:=h
  rw[e1]
  simp only[RE.out_ok,RE.bind_ok]
  obtain⟨b1,q1,r1⟩:=qkN h1 hs
  rw[q1,List.length_map,qeA]
  cases leB (xs.length+1) with
  |false=>trivial
  |true =>
   refine⟨_,rfl,_,hset _,(b1&&f),by simp,fun z=>?_⟩
   rw[Bool.and_eq_true] at z
   rw[r1 z.1,hf z.2];rfl
theorem SN.appP {i:Nat} {x:α} {xs:List α} {q0:Sl} (ρ₂:Sl→List Sl) (h:XE Γ e ρ (.ok x) en s t1) (hs:s.nb=true) (h0:ρ[i]? = some q0) (hq:SlO t2 (xs.map en) q0) (hset:∀q,ρ.set i q=ρ₂ q) :
  SN Γ (.app i e) ρ (qeA xs x) fun v ρ'=>∃q,ρ'=ρ₂ q∧SlO (t1&&t2) (v.map en) q:=SN.app ρ₂ h hs h0 hq hset
def qx1 (xs ys:List α):RE (List α):=gd (leB (xs.length+ys.length)) (.ok (xs++ys))
def qxJ (xs:List α):RE (α × List α):=match xs.getLast? with
 |some x=>.ok (x,xs.dropLast)
 |none=>.bad
theorem SN.clr {i:Nat} {xs:List α} {q0:Sl} (ρ₂:Sl→List Sl) (h0:ρ[i]? = some q0) (hq:SlO t (xs.map en) q0) (hset:∀q,ρ.set i q=ρ₂ q) :
  SN Γ (.clr i) ρ (.ok ([]:List α)) fun v ρ'=>∃q,ρ'=ρ₂ q∧SlO true (v.map en) q:=by
 unfold SN
 rw[Cm.run]
 obtain⟨f,rfl,hf⟩:=hq
 rw[qbX,h0]
 exact⟨_,rfl,_,hset _,_,rfl,fun _=>rfl⟩
def qmp (xs ys:List α) (k:Int):RE (List α × List α):=match L2.ixN ys.length k with
 |some m=>match ys[m]? with
  |some d=>gd (leB ys.length) (gd (leB (xs.length+1)) (.ok (xs++[d],ys.eraseIdx m)))
  |none=>.bad
 |none=>.bad
theorem SN.apop {i j:Nat} {ix:Ex} {m1:RE Int} {xs ys:List α} {q0 r0:Sl} (ρ₂:Sl→Sl→List Sl) (hij:(if i=j then false else true)=true) (h0:ρ[i]? = some q0) (hq:SlO t1 (xs.map en) q0) (h1:ρ[j]? = some r0) (hr:SlO t2 (ys.map en) r0) (hi:XE Γ ix ρ m1 eI s t) (hset:∀q r,(ρ.set j r).set i q=ρ₂ q r) :
  SN Γ (.apop i j ix) ρ (m1.bind fun k=>qmp xs ys k) fun v ρ'=>∃q r,ρ'=ρ₂ q r∧SlO (t2&&t1) (v.1.map en) q∧SlO t2 (v.2.map en) r:=by
 have hij:i≠j:=fun e=>by rw[if_pos e] at hij;cases hij
 unfold SN
 rw[Cm.run]
 obtain⟨f,rfl,hf⟩:=hq
 obtain⟨g,rfl,hg⟩:=hr
 rw[if_neg hij,qbX,h0]
 simp only[qbX,h1]
 cases m1 with
 |bad=>trivial
 |exc c fs=>have h:ev Γ _ ρ=_:=hi;rw[h];rfl
 |ok k =>
  obtain⟨er,e1,h1⟩:=hi
  rw[e1]
  simp only[RE.out_ok,RE.bind_ok,h1.d,List.length_map,qmp]
  cases L2.ixN ys.length k with
  |none=>trivial
  |some m =>
   simp only[List.getElem?_map]
   cases ys[m]? with
   |none=>trivial
   |some d =>
    simp only[Option.map_some]
    cases leB ys.length with
    |false=>trivial
    |true =>
     cases leB (xs.length+1) with
     |false=>trivial
     |true =>
      refine⟨_,rfl,_,_,hset _ _,⟨(g&&f),by simp,fun z=>?_⟩,⟨g,by rw[qhi],hg⟩⟩
      rw[Bool.and_eq_true] at z
      rw[hg z.1,hf z.2];rfl
def qnK (xs:List α) (k:Int):RE (List α):=match L2.ixN xs.length k with
 |some m=>match xs[m]? with
  |some _=>gd (leB xs.length) (.ok (xs.eraseIdx m))
  |none=>.bad
 |none=>.bad
theorem SN.popx {i:Nat} {ix:Ex} {m1:RE Int} {xs:List α} {q0:Sl} (ρ₂:Sl→List Sl) (hi:XE Γ ix ρ m1 eI s t1) (h0:ρ[i]? = some q0) (hq:SlO t (xs.map en) q0) (hset:∀q,ρ.set i q=ρ₂ q) :
  SN Γ (.popx i ix) ρ (m1.bind fun k=>qnK xs k) fun v ρ'=>∃q,ρ'=ρ₂ q∧SlO t (v.map en) q:=by
 unfold SN
 rw[Cm.run]
 obtain⟨f,rfl,hf⟩:=hq
 rw[qbX,h0]
 cases m1 with
 |bad=>trivial
 |exc c fs=>have h:ev Γ _ ρ=_:=hi;simp only[h];rfl
 |ok k =>
  obtain⟨er,e1,h1⟩:=hi
  simp only[e1,RE.out_ok,RE.bind_ok,h1.d,List.length_map,qnK]
  cases L2.ixN xs.length k with
  |none=>trivial
  |some m =>
   simp only[List.getElem?_map]
   cases xs[m]? with
   |none=>trivial
   |some d =>
    simp only[Option.map_some]
    cases leB xs.length with
    |false=>trivial
    |true=>exact⟨_,rfl,_,hset _,f,by rw[qhi],hf⟩
def qur (xs:List α) (k:Int) (x:α):RE (List α):=gd (decide (0≤k∧k≤xs.length)&&leB (xs.length+1)) (.ok (xs.take k.toNat++[x]++xs.drop k.toNat))
theorem SN.ins {i:Nat} {ix:Ex} {m1:RE Int} {m2:RE α} {xs:List α} {q0:Sl} {s1:Sh} (ρ₂:Sl→List Sl) (hi:XE Γ ix ρ m1 eI s1 t1) (h:XE Γ e ρ m2 en s t) (hs:s.nb=true) (h0:ρ[i]? = some q0) (hq:SlO t2 (xs.map en) q0) (hset:∀q,ρ.set i q=ρ₂ q) :
  SN Γ (.ins i ix e) ρ (m1.bind fun k=>m2.bind fun x=>qur xs k x) fun v ρ'=>∃q,ρ'=ρ₂ q∧SlO (t&&t2) (v.map en) q:=by
 unfold SN
 rw[Cm.run]
 obtain⟨f,rfl,hf⟩:=hq
 rw[qbX,h0]
 simp only
 cases m1 with
 |bad=>trivial
 |exc c fs=>have h:ev Γ _ ρ=_:=hi;rw[h];rfl
 |ok k =>
  obtain⟨er0,e0,g0⟩:=hi
  simp only[e0,RE.out_ok,RE.bind_ok,g0.d]
  cases m2 with
  |bad=>trivial
  |exc c fs=>have h:ev Γ _ ρ=_:=h;simp only[h];rfl
  |ok x =>
   obtain⟨er,e1,h1⟩:=h
   simp only[e1,RE.out_ok,RE.bind_ok]
   obtain⟨b1,q1,r1⟩:=qkN h1 hs
   rw[q1,List.length_map,qur]
   cases (decide (0≤k∧k≤xs.length)&&leB (xs.length+1)) with
   |false=>trivial
   |true =>
    refine⟨_,rfl,_,hset _,(b1&&f),by simp[List.map_take,List.map_drop],fun z=>?_⟩
    rw[Bool.and_eq_true] at z
    rw[r1 z.1,hf z.2];rfl
def qxK (xs:List Int) (k:Int):RE (List Int):=match qv1 k xs with
 |some m=>.ok (xs.eraseIdx m)
 |none=>.bad
theorem qkb {i:Nat} {ds:List D} {q0:Sl} (ρ₂:Sl→List Sl) (h0:ρ[i]? = some q0) (hq:SlO t ds q0) (hset:∀q,ρ.set i q=ρ₂ q):∃q,qak Γ (.frz i ss) ρ=qak Γ ss (ρ₂ q)∧SlV t (.lst ds) q:=by
 obtain⟨f,rfl,hf⟩:=hq
 refine⟨.val (.lst ds) f,?_,_,rfl,hf⟩
 rw[qak,qbX,h0,←hset]
theorem BR.frz {i:Nat} {xs:List α} {q0:Sl} {m:RE β} {k1:Sh} {k2:Bool} (ρ₂:Sl→List Sl) (h0:ρ[i]? = some q0) (hq:SlO t (xs.map en) q0) (hset:∀q,ρ.set i q=ρ₂ q) (h:∀q,SlV t (eL en xs) q→BR Γ ss (ρ₂ q) m en2 k1 k2):BR Γ (.frz i ss) ρ m en2 k1 k2:=by
 obtain⟨q,e,r⟩:=qkb (Γ:=Γ) (ss:=ss) ρ₂ h0 hq hset
 unfold BR
 rw[e];exact h q r
theorem BN.frz {i:Nat} {xs:List α} {q0:Sl} {m:RE σ} (ρ₂:Sl→List Sl) (h0:ρ[i]? = some q0) (hq:SlO t (xs.map en) q0) (hset:∀q,ρ.set i q=ρ₂ q) (h:∀q,SlV t (eL en xs) q→BN Γ ss (ρ₂ q) m S):BN Γ (.frz i ss) ρ m S:=by
 obtain⟨q,e,r⟩:=qkb (Γ:=Γ) (ss:=ss) ρ₂ h0 hq hset
 unfold BN
 rw[e];exact h q r
theorem BL.frz {i:Nat} {xs:List α} {q0:Sl} {m:RE σ} (ρ₂:Sl→List Sl) (h0:ρ[i]? = some q0) (hq:SlO t (xs.map en) q0) (hset:∀q,ρ.set i q=ρ₂ q) (h:∀q,SlV t (eL en xs) q→BL Γ ss (ρ₂ q) m S):BL Γ (.frz i ss) ρ m S:=by
 obtain⟨q,e,r⟩:=qkb (Γ:=Γ) (ss:=ss) ρ₂ h0 hq hset
 unfold BL
 rw[e];exact h q r
theorem BF.frz {i:Nat} {xs:List α} {q0:Sl} {m:RE (Fl β σ)} (ρ₂:Sl→List Sl) (h0:ρ[i]? = some q0) (hq:SlO t (xs.map en) q0) (hset:∀q,ρ.set i q=ρ₂ q) (h:∀q,SlV t (eL en xs) q→BF Γ ss (ρ₂ q) m R S):BF Γ (.frz i ss) ρ m R S:=by
 obtain⟨q,e,r⟩:=qkb (Γ:=Γ) (ss:=ss) ρ₂ h0 hq hset
 unfold BF
 rw[e];exact h q r
theorem BX.frz {i:Nat} {xs:List α} {q0:Sl} {m:RE (Fl β σ)} (ρ₂:Sl→List Sl) (h0:ρ[i]? = some q0) (hq:SlO t (xs.map en) q0) (hset:∀q,ρ.set i q=ρ₂ q) (h:∀q,SlV t (eL en xs) q→BX Γ ss (ρ₂ q) m R S):BX Γ (.frz i ss) ρ m R S:=by
 obtain⟨q,e,r⟩:=qkb (Γ:=Γ) (ss:=ss) ρ₂ h0 hq hset
 unfold BX
 rw[e];exact h q r
theorem SlV.ent {d:D} {k:Nat} {q:Sl} (h:SlV t d q):SlV t d (Cm.ent k q):=by
 obtain⟨f,e,ht⟩:=h
 rcases qqz e with rfl | ⟨rfl,j,rfl⟩
 ·by_cases hb:(f||d.flat)=true
  ·rw[show Cm.ent k (.val d f)=.val d f from if_pos hb]
   exact⟨f,rfl,ht⟩
  ·rw[show Cm.ent k (.val d f)=.fxd d k from if_neg hb]
   exact⟨false,rfl,fun z=>by rw[ht z] at hb;exact absurd rfl hb⟩
 ·exact⟨false,rfl,ht⟩
theorem SlO.ent {ds:List D} {k:Nat} {q:Sl} (h:SlO t ds q):SlO t ds (Cm.ent k q):=by
 obtain⟨f,rfl,ht⟩:=h
 exact⟨f,rfl,ht⟩
def qx0 (_:Nat):Sl:=.non
def quQ (cs:Ch) (i:Nat) (d:D):RE Unit:=match chg cs [(i,d)] ([],0) with
 |some _=>.ok ()
 |none=>.bad
theorem qnw {er er':ER} {k:Bool} {d:D} (h:qdT k er=.ok er') (hd:er'.d=d) (hb:er'.b=true):ql3 er=some d:=by
 subst hd
 cases k with
 |false =>
  cases er with
  |brw _ _=>cases h
  |val d b=>cases h;exact if_pos hb
  |fre ds b=>cases h;exact if_pos (by rw[show b=true from hb];rfl)
 |true =>
  cases er with
  |brw _ _=>cases h
  |val d b =>
   simp only[qdT] at h
   split at h
   ·rename_i z;cases h;exact if_pos z
   ·cases h
  |fre ds b =>
   simp only[qdT] at h
   split at h
   ·rename_i z;cases h;exact if_pos z
   ·cases h
theorem BR.hav {i f:Nat} {es:Exs} {rd:Sms} {cs:Ch} {m:RE α} {k1:α→RE (Fl β σ)} {k2:α→σ→RE β} {s1:Sh} (S:α→σ→List Sl→Prop) (h:XE Γ (.call f es) ρ m en s1 true) (hsf:qoV s t en2) (hsv:s=.v) (hi:Nat.blt i ρ.length=true)
  (h1:∀x,BG Γ rd ((qkw 0 ρ).set i (.fxd (en x) i)) (k1 x) (fun v er=>Is s t (en2 v) er) (S x))
  (h2:∀x st ρ',S x st ρ'→(∃d,ρ'[i]? = some (.fxd d i))∧(cs.tgs.all fun l=>Nat.blt l ρ'.length)=true∧BR Γ ss (wipeS (qj1 (ρ.set i .non) 0 ρ') cs.tgs) (k2 x st) en2 s t) :
  BR Γ (.hav i f es rd cs ss) ρ (m.bind fun x=>Fl.bR (k1 x) fun st=>(quQ cs i (en x)).bind fun _=>k2 x st) en2 s t:=by
 unfold BR
 rw[qak]
 unfold XE at h
 rw[ev] at h
 cases eg:Γ.fn[f]? with
 |none =>
  rw[eg] at h
  cases m with
  |bad=>trivial
  |ok v=>obtain⟨er,e,_⟩:=h;cases e
  |exc c fs=>have h:RE.bad=_:=h;cases h
 |some g =>
  rw[eg] at h
  simp only at h ⊢
  cases m with
  |bad=>trivial
  |exc c fs =>
   have h:_=RE.exc c fs:=h
   cases e1:evs Γ es ρ with
   |bad=>rw[e1] at h;cases h
   |exc c' fs'=>rw[e1] at h;cases h;rfl
   |ok r =>
    rw[e1] at h
    simp only[RE.bind_ok,RE.out_ok] at h ⊢
    cases e2:g.2 (r.map ER.d) with
    |bad=>rw[e2] at h;cases h
    |exc c' fs'=>rw[e2] at h;cases h;rfl
    |ok er =>
     rw[e2] at h
     simp only[RE.bind_ok] at h
     exfalso
     revert h
     cases (!r.all ER.isV)<;>cases er<;>simp only[qdT]<;>first | (intro z;cases z) | (split<;>intro z<;>cases z)
  |ok v =>
   obtain⟨er',e,his⟩:=h
   cases e1:evs Γ es ρ with
   |bad=>rw[e1] at e;cases e
   |exc c' fs'=>rw[e1] at e;cases e
   |ok r =>
    rw[e1] at e
    simp only[RE.bind_ok,RE.out_ok] at e ⊢
    cases e2:g.2 (r.map ER.d) with
    |bad=>rw[e2] at e;cases e
    |exc c' fs'=>rw[e2] at e;cases e
    |ok er =>
     rw[e2] at e
     simp only[RE.bind_ok] at e
     simp only[RE.out_ok,qnw e his.d (his.t rfl),hi,qdB,RE.bind_ok]
     have h1:=h1 v
     cases ek:k1 v with
     |bad=>trivial
     |exc c fs =>
      rw[ek] at h1
      have h1:qak Γ rd _=_:=h1
      rw[h1];rfl
     |ok fl =>
      rw[ek] at h1
      cases fl with
      |bk _=>exact h1.elim
      |rt b =>
       obtain⟨er3,e3,h3⟩:=h1
       rw[e3]
       simp only[Out.hv]
       have hn:∃d,ql3 er3=some d:=by
        subst hsv
        cases er3 with
        |fre _ _=>cases h3.s
        |brw _ _=>cases h3.s
        |val d b3 =>
         refine⟨d,if_pos ?_⟩
         have hd:d=en2 b:=h3.d
         rcases hsf with z | ⟨_,z⟩ | ⟨z,_⟩
         ·have:b3=true:=h3.t z
          rw[this];rfl
         ·rw[hd,z b];simp
         ·cases z
       obtain⟨d,hn⟩:=hn
       rw[hn]
       exact⟨er3,rfl,h3⟩
      |nx st =>
       obtain⟨ρ',e3,h3⟩:=h1
       obtain⟨⟨d2,q1⟩,q2,q3⟩:=h2 v st ρ' h3
       rw[e3]
       simp only[Out.hv,q1,q2,beq_self_eq_true,Bool.true_and,qdB,Fl.bR,RE.bind_ok,quQ]
       cases ec:chg cs [(i,en v)] ([],0) with
       |none=>trivial
       |some _=>exact q3
theorem BF.hav {i f:Nat} {es:Exs} {rd:Sms} {cs:Ch} {m:RE α} {k1:α→RE (Fl β σ)} {k2:α→σ→RE (Fl β τ)} {s1:Sh} (S:α→σ→List Sl→Prop) (h:XE Γ (.call f es) ρ m en s1 true) (hsf:qoV s t en2) (hsv:s=.v) (hi:Nat.blt i ρ.length=true)
  (h1:∀x,BG Γ rd ((qkw 0 ρ).set i (.fxd (en x) i)) (k1 x) (fun v er=>Is s t (en2 v) er) (S x))
  (h2:∀x st ρ',S x st ρ'→(∃d,ρ'[i]? = some (.fxd d i))∧(cs.tgs.all fun l=>Nat.blt l ρ'.length)=true∧BF Γ ss (wipeS (qj1 (ρ.set i .non) 0 ρ') cs.tgs) (k2 x st) (fun v er=>Is s t (en2 v) er) S') :
  BF Γ (.hav i f es rd cs ss) ρ (m.bind fun x=>Fl.bF (k1 x) fun st=>(quQ cs i (en x)).bind fun _=>k2 x st) (fun v er=>Is s t (en2 v) er) S':=by
 unfold BF
 rw[qak]
 unfold XE at h
 rw[ev] at h
 cases eg:Γ.fn[f]? with
 |none =>
  rw[eg] at h
  cases m with
  |bad=>trivial
  |ok v=>obtain⟨er,e,_⟩:=h;cases e
  |exc c fs=>have h:RE.bad=_:=h;cases h
 |some g =>
  rw[eg] at h
  simp only at h ⊢
  cases m with
  |bad=>trivial
  |exc c fs =>
   have h:_=RE.exc c fs:=h
   cases e1:evs Γ es ρ with
   |bad=>rw[e1] at h;cases h
   |exc c' fs'=>rw[e1] at h;cases h;rfl
   |ok r =>
    rw[e1] at h
    simp only[RE.bind_ok,RE.out_ok] at h ⊢
    cases e2:g.2 (r.map ER.d) with
    |bad=>rw[e2] at h;cases h
    |exc c' fs'=>rw[e2] at h;cases h;rfl
    |ok er =>
     rw[e2] at h
     simp only[RE.bind_ok] at h
     exfalso
     revert h
     cases (!r.all ER.isV)<;>cases er<;>simp only[qdT]<;>first | (intro z;cases z) | (split<;>intro z<;>cases z)
  |ok v =>
   obtain⟨er',e,his⟩:=h
   cases e1:evs Γ es ρ with
   |bad=>rw[e1] at e;cases e
   |exc c' fs'=>rw[e1] at e;cases e
   |ok r =>
    rw[e1] at e
    simp only[RE.bind_ok,RE.out_ok] at e ⊢
    cases e2:g.2 (r.map ER.d) with
    |bad=>rw[e2] at e;cases e
    |exc c' fs'=>rw[e2] at e;cases e
    |ok er =>
     rw[e2] at e
     simp only[RE.bind_ok] at e
     simp only[RE.out_ok,qnw e his.d (his.t rfl),hi,qdB,RE.bind_ok]
     have h1:=h1 v
     cases ek:k1 v with
     |bad=>trivial
     |exc c fs =>
      rw[ek] at h1
      have h1:qak Γ rd _=_:=h1
      rw[h1];rfl
     |ok fl =>
      rw[ek] at h1
      cases fl with
      |bk _=>exact h1.elim
      |rt b =>
       obtain⟨er3,e3,h3⟩:=h1
       rw[e3]
       simp only[Out.hv]
       have hn:∃d,ql3 er3=some d:=by
        subst hsv
        cases er3 with
        |fre _ _=>cases h3.s
        |brw _ _=>cases h3.s
        |val d b3 =>
         refine⟨d,if_pos ?_⟩
         have hd:d=en2 b:=h3.d
         rcases hsf with z | ⟨_,z⟩ | ⟨z,_⟩
         ·have:b3=true:=h3.t z
          rw[this];rfl
         ·rw[hd,z b];simp
         ·cases z
       obtain⟨d,hn⟩:=hn
       rw[hn]
       exact⟨er3,rfl,h3⟩
      |nx st =>
       obtain⟨ρ',e3,h3⟩:=h1
       obtain⟨⟨d2,q1⟩,q2,q3⟩:=h2 v st ρ' h3
       rw[e3]
       simp only[Out.hv,q1,q2,beq_self_eq_true,Bool.true_and,qdB,Fl.bF,RE.bind_ok,quQ]
       cases ec:chg cs [(i,en v)] ([],0) with
       |none=>trivial
       |some _=>exact q3
end
end Cm
namespace Cm
def qam {α σ:Type} (f:α→σ→RE σ):List α→σ→RE σ
 |[],s=>.ok s
 |x::xs,s=>(f x s).bind (qam f xs)
def qbL {α β σ:Type} (f:α→σ→RE (Fl β σ)):List α→σ→RE (Fl β σ)
 |[],s=>.ok (.nx s)
 |x::xs,s=>(f x s).bind fun r=>match r with
  |.nx s'=>qbL f xs s'
  |.rt b=>.ok (.rt b)
  |.bk s'=>.ok (.nx s')
def qtt {σ:Type} (c:σ→RE Bool) (f:σ→RE σ):Nat→σ→RE σ
 |0,_=>.bad
 |n+1,s=>(c s).bind fun k=>if k=true then (f s).bind (qtt c f n) else .ok s
section
variable {Γ:Env} {ρ:List Sl} {α β γ σ:Type} {en:α→D} {en2:β→D} {en3:γ→D} {it:Itx} {i j:Nat} {b:Sms} {m:RE (List α)} {t t0 t0' t1:Bool} {s:Sh} {R:γ→ER→Prop} {S:σ→List Sl→Prop}
theorem qnX {F:D→List Sl→Out} {f:α→σ→RE σ} (h:∀x st ρ',S st ρ'→XL (F (en x) ρ') (f x st) S):∀{xs:List α} {st:σ} {ρ':List Sl},S st ρ'→XN (qfR F (xs.map en) ρ') (qam f xs st) S
 |[],st,ρ',hs=>⟨ρ',rfl,hs⟩
 |x::xs,st,ρ',hs=>by
  have h0:=h x st ρ' hs
  simp only[List.map_cons,qam]
  unfold qfR
  cases e:f x st with
  |bad=>trivial
  |exc c fs=>rw[e] at h0;have h0:F (en x) ρ'=_:=h0;rw[h0];rfl
  |ok st' =>
   rw[e] at h0
   obtain⟨ρ2,e2,h2⟩:=h0
   rcases e2 with e2 | e2<;>rw[e2]<;>exact qnX h h2
theorem qlJ {F:D→List Sl→Out} {f:α→σ→RE (Fl γ σ)} (h:∀x st ρ',S st ρ'→XF (F (en x) ρ') (f x st) R S):∀{xs:List α} {st:σ} {ρ':List Sl},S st ρ'→(match qbL f xs st with
  |.bad=>True
  |.ok (.nx v)=>∃ρ2,qfR F (xs.map en) ρ'=.nx ρ2∧S v ρ2
  |.ok (.rt b)=>∃er,qfR F (xs.map en) ρ'=.ret er∧R b er
  |.ok (.bk v)=>False
  |.exc c fs=>qfR F (xs.map en) ρ'=.exc c fs)
 |[],st,ρ',hs=>⟨ρ',rfl,hs⟩
 |x::xs,st,ρ',hs=>by
  have h0:=h x st ρ' hs
  simp only[List.map_cons,qbL]
  unfold qfR
  cases e:f x st with
  |bad=>trivial
  |exc c fs=>rw[e] at h0;have h0:F (en x) ρ'=_:=h0;rw[h0];rfl
  |ok r =>
   rw[e] at h0
   simp only[RE.bind_ok]
   cases r with
   |nx st' =>
    obtain⟨ρ2,e2,h2⟩:=h0
    rcases e2 with e2 | e2<;>rw[e2]<;>exact qlJ h h2
   |rt b=>obtain⟨er,e2,h2⟩:=h0;rw[e2];exact⟨_,rfl,h2⟩
   |bk st'=>obtain⟨ρ2,e2,h2⟩:=h0;rw[e2];exact⟨_,rfl,h2⟩
theorem SN.forG {tg:List Nat} {f:α→σ→RE σ} {s0:σ} (hi:XI Γ it ρ m en t1 false) (h0:S s0 ρ) (hb:∀x st ρ' b',(t1=true→b'=true)→S st ρ'→XL (onB (qcx tg (en x) b' ρ') fun ρ'=>qak Γ b ρ') (f x st) S) :
  SN Γ (.for it tg b) ρ (m.bind fun xs=>qam f xs s0) S:=by
 unfold SN
 rw[Cm.run]
 cases m with
 |bad=>trivial
 |exc c fs=>have h:evI Γ it ρ=_:=hi;rw[h];rfl
 |ok xs =>
  obtain⟨w,e,w1,w2,w3⟩:=hi
  rw[e]
  simp only[RE.out_ok,w3 rfl,Bool.false_eq_true,if_false,RE.bind_ok,w1]
  exact qnX (fun x st ρ' hs=>hb x st ρ' w.b w2 hs) h0
theorem SF.forG {tg:List Nat} {f:α→σ→RE (Fl γ σ)} {s0:σ} (hi:XI Γ it ρ m en t1 false) (h0:S s0 ρ) (hb:∀x st ρ' b',(t1=true→b'=true)→S st ρ'→XF (onB (qcx tg (en x) b' ρ') fun ρ'=>qak Γ b ρ') (f x st) R S) :
  SF Γ (.for it tg b) ρ (m.bind fun xs=>qbL f xs s0) R S:=by
 unfold SF
 rw[Cm.run]
 cases m with
 |bad=>trivial
 |exc c fs=>have h:evI Γ it ρ=_:=hi;rw[h];rfl
 |ok xs =>
  obtain⟨w,e,w1,w2,w3⟩:=hi
  rw[e]
  simp only[RE.out_ok,w3 rfl,Bool.false_eq_true,if_false,RE.bind_ok,w1]
  exact qlJ (fun x st ρ' hs=>hb x st ρ' w.b w2 hs) h0
theorem qqw {b':Bool} (ht:t0=true→t1=true∨Flat en) (h:t1=true→b'=true) (x:α):SlV t0 (en x) (.val (en x) (b'||(en x).flat)):=⟨_,rfl,fun z=>by
 rcases ht z with q | q
 ·simp[h q]
 ·rw[q.flat];simp⟩
theorem SN.for1 {f:α→σ→RE σ} {s0:σ} (S:σ→List Sl→Prop) (hi:XI Γ it ρ m en t1 false) (ht:t0=true→t1=true∨Flat en) (h0:S s0 ρ) (hb:∀x st ρ' q,S st ρ'→SlV t0 (en x) q→BL Γ b (ρ'.set i q) (f x st) S) :
  SN Γ (.for it [i] b) ρ (m.bind fun xs=>qam f xs s0) S:=
 SN.forG hi h0 fun x st ρ' b' h1 hs=>hb x st ρ' _ hs (qqw ht h1 x)
theorem SF.for1 {f:α→σ→RE (Fl γ σ)} {s0:σ} (S:σ→List Sl→Prop) (hi:XI Γ it ρ m en t1 false) (ht:t0=true→t1=true∨Flat en) (h0:S s0 ρ) (hb:∀x st ρ' q,S st ρ'→SlV t0 (en x) q→BF Γ b (ρ'.set i q) (f x st) R S) :
  SF Γ (.for it [i] b) ρ (m.bind fun xs=>qbL f xs s0) R S:=
 SF.forG hi h0 fun x st ρ' b' h1 hs=>hb x st ρ' _ hs (qqw ht h1 x)
theorem qqN {c:Te} {cc:σ→RE Bool} {f:σ→RE σ} (hc:∀st ρ',S st ρ'→XT Γ c ρ' (cc st)) (hb:∀st ρ',S st ρ'→BL Γ b ρ' (f st) S):∀{n:Nat} {st:σ} {ρ':List Sl},S st ρ'→XN (qgi (fun ρ=>evT Γ c ρ) (fun ρ=>qak Γ b ρ) n ρ') (qtt cc f n st) S
 |0,st,ρ',hs=>trivial
 |n+1,st,ρ',hs=>by
  have h0:=hc st ρ' hs
  have h1:=hb st ρ' hs
  unfold qtt qgi
  cases e:cc st with
  |bad=>trivial
  |exc c fs=>rw[e] at h0;have h0:evT Γ _ ρ'=_:=h0;simp only[h0];rfl
  |ok k =>
   rw[e] at h0
   obtain⟨k',e0,rfl⟩:=h0
   simp only[e0,RE.bind_ok,RE.out_ok]
   cases k' with
   |false=>exact⟨ρ',rfl,hs⟩
   |true =>
    simp only[if_true]
    cases e1:f st with
    |bad=>trivial
    |exc c fs=>rw[e1] at h1;have h1:qak Γ b ρ'=_:=h1;simp only[h1];rfl
    |ok st' =>
     rw[e1] at h1
     obtain⟨ρ2,e2,h2⟩:=h1
     rcases e2 with e2 | e2<;>simp only[e2]<;>exact qqN hc hb h2
theorem SN.whl {c:Te} {cc:σ→RE Bool} {f:σ→RE σ} {s0:σ} (S:σ→List Sl→Prop) (h0:S s0 ρ) (hc:∀st ρ',S st ρ'→XT Γ c ρ' (cc st)) (hb:∀st ρ',S st ρ'→BL Γ b ρ' (f st) S):SN Γ (.whl c b) ρ (qtt cc f qtW s0) S:=by
 unfold SN
 rw[Cm.run]
 exact qqN hc hb h0
def qtd {σ γ:Type} (c:σ→RE Bool) (f:σ→RE (Fl γ σ)):Nat→σ→RE (Fl γ σ)
 |0,_=>.bad
 |n+1,s=>(c s).bind fun k=>if k=true then (f s).bind (fun r=>match r with
  |.nx s'=>qtd c f n s'
  |.rt b=>.ok (.rt b)
  |.bk s'=>.ok (.nx s')) else .ok (.nx s)
theorem qm3 {c:Te} {cc:σ→RE Bool} {f:σ→RE (Fl γ σ)} (hc:∀st ρ',S st ρ'→XT Γ c ρ' (cc st)) (hb:∀st ρ',S st ρ'→BF Γ b ρ' (f st) R S):∀{n:Nat} {st:σ} {ρ':List Sl},S st ρ'→XG (qgi (fun ρ=>evT Γ c ρ) (fun ρ=>qak Γ b ρ) n ρ') (qtd cc f n st) R S
 |0,st,ρ',hs=>trivial
 |n+1,st,ρ',hs=>by
  have h0:=hc st ρ' hs
  have h1:=hb st ρ' hs
  unfold qtd qgi
  cases e:cc st with
  |bad=>trivial
  |exc c fs=>rw[e] at h0;have h0:evT Γ _ ρ'=_:=h0;simp only[h0];rfl
  |ok k =>
   rw[e] at h0
   obtain⟨k',e0,rfl⟩:=h0
   simp only[e0,RE.bind_ok,RE.out_ok]
   cases k' with
   |false=>exact⟨ρ',rfl,hs⟩
   |true =>
    simp only[if_true]
    cases e1:f st with
    |bad=>trivial
    |exc c fs=>rw[e1] at h1;have h1:qak Γ b ρ'=_:=h1;simp only[h1];rfl
    |ok r =>
     rw[e1] at h1
     simp only[RE.bind_ok]
     cases r with
     |nx st' =>
      obtain⟨ρ2,e2,h2⟩:=h1
      rcases e2 with e2 | e2<;>simp only[e2]<;>exact qm3 hc hb h2
     |rt z=>obtain⟨er,e2,h2⟩:=h1;simp only[e2];exact⟨_,rfl,h2⟩
     |bk st'=>obtain⟨ρ2,e2,h2⟩:=h1;simp only[e2];exact⟨_,rfl,h2⟩
theorem SF.whl {c:Te} {cc:σ→RE Bool} {f:σ→RE (Fl γ σ)} {s0:σ} (S:σ→List Sl→Prop) (h0:S s0 ρ) (hc:∀st ρ',S st ρ'→XT Γ c ρ' (cc st)) (hb:∀st ρ',S st ρ'→BF Γ b ρ' (f st) R S):SF Γ (.whl c b) ρ (qtd cc f qtW s0) R S:=by
 unfold SF
 rw[Cm.run]
 exact qm3 hc hb h0
end
abbrev XS {α:Type} (Γ:Env) (es:Exs) (ρ:List Sl) (m:RE α) (enl:α→List D) (nb t:Bool):Prop:=XR (evs Γ es ρ) m fun v ers=>ers.map ER.d=enl v∧ers.all ER.isV=nb∧(t=true→ers.all ER.b=true)
section
variable {Γ:Env} {ρ:List Sl} {α β γ σ:Type} {en:α→D} {en2:β→D} {a b:Ex} {es:Exs} {s s1:Sh} {t t1 t2 nb:Bool} {m1:RE α} {m2:RE β} {enl:β→List D} {x:α} {y:β} {k:Nat} {nm:PySem.Str} {g:List D→RE ER}
theorem XS.nil:XS Γ .nil ρ (.ok ()) (fun _=>[]) true true:=by unfold XS;rw[evs];exact⟨_,rfl,rfl,rfl,fun _=>rfl⟩
theorem XS.cons (h:XE Γ a ρ m1 en s t1) (hs:XS Γ es ρ m2 enl nb t2):XS Γ (.cons a es) ρ (m1.bind fun v=>m2.bind fun w=>.ok (v,w)) (fun p=>en p.1::enl p.2) (s.nb&&nb) (t1&&t2):=by
 unfold XS
 rw[evs]
 exact XR.bind h fun v er h1=>XR.bind hs fun w ers h2=>by
  refine⟨_,rfl,?_,?_,fun z=>?_⟩
  ·simp only[List.map_cons,qgh,h1.d,h2.1]
  ·simp only[List.all_cons,h2.2.1]
   have:=h1.s
   cases s<;>cases er<;>simp_all[qiY,ER.isF,Sh.nb]
  ·rw[Bool.and_eq_true] at z
   simp only[List.all_cons,Bool.and_eq_true,qnq]
   exact⟨h1.t z.1,h2.2.2 z.2⟩
theorem XS.consP (h:XE Γ a ρ (.ok x) en s t1) (hs:XS Γ es ρ (.ok y) enl nb t2):XS Γ (.cons a es) ρ (.ok (x,y)) (fun p=>en p.1::enl p.2) (s.nb&&nb) (t1&&t2):=XS.cons h hs
theorem qpv {d:D} {er:ER} (h:Is s t d er) (hs:s.nb=true):∃er',qdT false er=.ok er'∧Is s t d er':=by
 have h1:=h.s
 have h2:=h.d
 have h3:=h.t
 cases er with
 |val d' b=>exact⟨_,rfl,h2,by cases s<;>simp_all[qiY,ER.isF,Sh.nb],fun z=>by have:=h3 z;show(_||_)=true;simp only[ER.b_val] at this;rw[this];rfl⟩
 |fre d' b=>exact⟨_,rfl,h⟩
 |brw d' b=>cases s<;>simp_all[qiY,ER.isF,Sh.nb]
theorem qnx {v:α} {er:ER} (h:Is s t (en v) er) (hs:qoV s t en) (hn:s.nb=true):∃er',qdT true er=.ok er'∧Is s true (en v) er':=by
 have h1:=h.s
 have h2:=h.d
 have h3:=h.t
 cases er with
 |val d' b =>
  have h2:d'=en v:=h2
  subst h2
  have:(b||(en v).flat)=true:=by
   rcases hs with q | q | q
   ·have:b=true:=h3 q
    rw[this];rfl
   ·rw[q.2];simp
   ·rw[q.1] at h1;cases h1
  simp only[qdT,this,if_true]
  exact⟨_,rfl,rfl,by cases s<;>simp_all[qiY,ER.isF,Sh.nb],fun z=>rfl⟩
 |fre d' b =>
  have h2:D.lst d'=en v:=h2
  have:(b||D.flats d')=true:=by
   rcases hs with q | q | q
   ·have:b=true:=h3 q
    rw[this];rfl
   ·rw[q.1] at h1;cases h1
   ·rw[q.2 v d' h2.symm];simp
  simp only[qdT,this,if_true]
  exact⟨_,rfl,h2,by cases s<;>simp_all[qiY,ER.isF,Sh.nb],fun z=>rfl⟩
 |brw d' b=>cases s<;>simp_all[qiY,ER.isF,Sh.nb]
theorem qiE {r:List ER} {e:RE ER} {m:RE α} (h:XR e m fun v er=>Is s t (en v) er) (hr:r.all ER.isV=true) (hn:s.nb=true):XR (e.bind (qdT (!r.all ER.isV))) m fun v er=>Is s t (en v) er:=by
 rw[hr]
 cases m with
 |bad=>trivial
 |exc c fs=>have h:e=_:=h;rw[h];rfl
 |ok v=>obtain⟨er,e1,h1⟩:=h;rw[e1];exact qpv h1 hn
theorem qgp {r:List ER} {e:RE ER} {m:RE α} (h:XR e m fun v er=>Is s t (en v) er) (hs:qoV s t en) (hr:r.all ER.isV=false) (hn:s.nb=true):XR (e.bind (qdT (!r.all ER.isV))) m fun v er=>Is s true (en v) er:=by
 rw[hr]
 cases m with
 |bad=>trivial
 |exc c fs=>have h:e=_:=h;rw[h];rfl
 |ok v=>obtain⟨er,e1,h1⟩:=h;rw[e1];exact qnx h1 hs hn
theorem XE.callS {F:β→RE α} (hg:Γ.fn[k]? = some (nm,g)) (ha:XS Γ es ρ m2 enl nb t2) (hr:∀w,XR (g (enl w)) (F w) fun v er=>Is s t (en v) er) (hs:nb=true) (hn:s.nb=true):XE Γ (.call k es) ρ (m2.bind F) en s t:=by
 unfold XE;rw[ev,hg]
 exact XR.bind ha fun w ers h=>by
  show XR ((g (ers.map ER.d)).bind _) _ _
  rw[h.1];exact qiE (hr w) (h.2.1.trans hs) hn
theorem XE.callSb {F:β→RE α} (hg:Γ.fn[k]? = some (nm,g)) (ha:XS Γ es ρ m2 enl nb t2) (hr:∀w,XR (g (enl w)) (F w) fun v er=>Is s t (en v) er) (hs:nb=false) (hn:s.nb=true) (hf:qoV s t en):XE Γ (.call k es) ρ (m2.bind F) en s true:=by
 unfold XE;rw[ev,hg]
 exact XR.bind ha fun w ers h=>by
  show XR ((g (ers.map ER.d)).bind _) _ _
  rw[h.1];exact qgp (hr w) hf (h.2.1.trans hs) hn
theorem XE.callSP {m:RE α} (hg:Γ.fn[k]? = some (nm,g)) (ha:XS Γ es ρ (.ok y) enl nb t2) (hr:XR (g (enl y)) m fun v er=>Is s t (en v) er) (hs:nb=true) (hn:s.nb=true):XE Γ (.call k es) ρ m en s t:=by
 obtain⟨ers,e,h⟩:=ha
 unfold XE;rw[ev,hg,e]
 show XR ((g (ers.map ER.d)).bind _) _ _
 rw[h.1];exact qiE hr (h.2.1.trans hs) hn
theorem XE.callSPb {m:RE α} (hg:Γ.fn[k]? = some (nm,g)) (ha:XS Γ es ρ (.ok y) enl nb t2) (hr:XR (g (enl y)) m fun v er=>Is s t (en v) er) (hs:nb=false) (hn:s.nb=true) (hf:qoV s t en):XE Γ (.call k es) ρ m en s true:=by
 obtain⟨ers,e,h⟩:=ha
 unfold XE;rw[ev,hg,e]
 show XR ((g (ers.map ER.d)).bind _) _ _
 rw[h.1];exact qgp hr hf (h.2.1.trans hs) hn
end
section
variable {Γ:Env} {ρ:List Sl} {α β γ σ τ:Type} {en:α→D} {en2:β→D} {e:τ→D} {a b:Ex} {es:Exs} {s s1 s0:Sh} {t t1 t2 t0 nb:Bool} {m0:RE τ} {m1:RE α} {m2:RE β} {enl:β→List D} {x:τ} {y:β} {k:Nat} {cl:τ→Nat} {fs:τ→List D}
theorem XE.mthS {F:τ→β→RE α} (h:XE Γ a ρ m0 e s0 t0) (hI:∀v,e v=.ins (cl v) (fs v)) (ha:XS Γ es ρ m2 enl nb t2) (hr:∀x,∃g,Γ.mt (cl x) k=some g∧∀w,XR (g (e x::enl w)) (F x w) fun v er=>Is s t (en v) er) (hs:nb=true) (hn:s.nb=true):XE Γ (.mth k a es) ρ (m0.bind fun x=>m2.bind fun w=>F x w) en s t:=by
 unfold XE;rw[ev]
 exact XR.bind h fun v er h1=>by
  obtain⟨g,hg,hr⟩:=hr v
  rw[h1.d,hI]
  simp only[hg]
  exact XR.bind ha fun w ers h=>by rw[h.1,←hI];exact qiE (hr w) (h.2.1.trans hs) hn
theorem XE.mthSb {F:τ→β→RE α} (h:XE Γ a ρ m0 e s0 t0) (hI:∀v,e v=.ins (cl v) (fs v)) (ha:XS Γ es ρ m2 enl nb t2) (hr:∀x,∃g,Γ.mt (cl x) k=some g∧∀w,XR (g (e x::enl w)) (F x w) fun v er=>Is s t (en v) er) (hs:nb=false) (hn:s.nb=true) (hf:qoV s t en):XE Γ (.mth k a es) ρ (m0.bind fun x=>m2.bind fun w=>F x w) en s true:=by
 unfold XE;rw[ev]
 exact XR.bind h fun v er h1=>by
  obtain⟨g,hg,hr⟩:=hr v
  rw[h1.d,hI]
  simp only[hg]
  exact XR.bind ha fun w ers h=>by rw[h.1,←hI];exact qgp (hr w) hf (h.2.1.trans hs) hn
theorem XE.mthSP {m:RE α} (h:XE Γ a ρ (.ok x) e s0 t0) (hI:∀v,e v=.ins (cl v) (fs v)) (ha:XS Γ es ρ (.ok y) enl nb t2) (hr:∃g,Γ.mt (cl x) k=some g∧XR (g (e x::enl y)) m fun v er=>Is s t (en v) er) (hs:nb=true) (hn:s.nb=true):XE Γ (.mth k a es) ρ m en s t:=by
 obtain⟨er,e1,h1⟩:=h
 obtain⟨ers,e2,h2⟩:=ha
 obtain⟨g,hg,hr⟩:=hr
 unfold XE;rw[ev,e1]
 simp only[RE.bind_ok]
 rw[h1.d,hI]
 simp only[hg,e2,RE.bind_ok]
 rw[h2.1,←hI];exact qiE hr (h2.2.1.trans hs) hn
theorem XE.mthSPb {m:RE α} (h:XE Γ a ρ (.ok x) e s0 t0) (hI:∀v,e v=.ins (cl v) (fs v)) (ha:XS Γ es ρ (.ok y) enl nb t2) (hr:∃g,Γ.mt (cl x) k=some g∧XR (g (e x::enl y)) m fun v er=>Is s t (en v) er) (hs:nb=false) (hn:s.nb=true) (hf:qoV s t en):XE Γ (.mth k a es) ρ m en s true:=by
 obtain⟨er,e1,h1⟩:=h
 obtain⟨ers,e2,h2⟩:=ha
 obtain⟨g,hg,hr⟩:=hr
 unfold XE;rw[ev,e1]
 simp only[RE.bind_ok]
 rw[h1.d,hI]
 simp only[hg,e2,RE.bind_ok]
 rw[h2.1,←hI];exact qgp hr hf (h2.2.1.trans hs) hn
theorem XE.newS {c:Nat} {g:List D→RE (List D)} {F:β→RE α} (hg:Γ.nw[k]? = some (c,g)) (ha:XS Γ es ρ m2 enl nb t2) (hr:∀w,XR (g (enl w)) (F w) fun v fs=>en v=.ins c fs):XE Γ (.new k es) ρ (m2.bind F) en .v true:=by
 unfold XE;rw[ev,hg]
 exact XR.bind ha fun w ers h=>by
  show XR ((g (ers.map ER.d)).bind _) _ _
  rw[h.1]
  have e:F w=(F w).bind RE.ok:=by simp
  rw[e]
  exact XR.bind (hr w) fun v fs q=>⟨_,rfl,q.symm,rfl,fun _=>rfl⟩
theorem XE.newSP {c:Nat} {g:List D→RE (List D)} {m:RE α} (hg:Γ.nw[k]? = some (c,g)) (ha:XS Γ es ρ (.ok y) enl nb t2) (hr:XR (g (enl y)) m fun v fs=>en v=.ins c fs):XE Γ (.new k es) ρ m en .v true:=by
 obtain⟨ers,e,h⟩:=ha
 unfold XE;rw[ev,hg,e]
 show XR ((g (ers.map ER.d)).bind _) _ _
 rw[h.1]
 have e:m=m.bind RE.ok:=by simp
 rw[e]
 exact XR.bind hr fun v fs q=>⟨_,rfl,q.symm,rfl,fun _=>rfl⟩
theorem XE.fldG {f:Nat} {p:τ→α} {t:Bool} (ht:t=true→∀v,(en v).flat=true) (h:XE Γ a ρ m0 e s0 t0) (hI:∀v,e v=.ins (cl v) (fs v)) (hk:∀v,∃i,Γ.fi (cl v) f=some i∧(fs v)[i]? = some (en (p v))):XE Γ (.fld a f) ρ (m0.bind fun x=>.ok (p x)) en .v t:=by
 unfold XE;rw[ev]
 exact XR.bind h fun v er h1=>by
  obtain⟨i,e1,e2⟩:=hk v
  rw[h1.d,hI]
  simp only[e1,e2]
  exact quN rfl fun q=>ht q _
theorem XE.fld {f:Nat} {p:τ→α} (h:XE Γ a ρ m0 e s0 t0) (hI:∀v,e v=.ins (cl v) (fs v)) (hk:∀v,∃i,Γ.fi (cl v) f=some i∧(fs v)[i]? = some (en (p v))):XE Γ (.fld a f) ρ (m0.bind fun x=>.ok (p x)) en .v false:=XE.fldG (fun q=>nomatch q) h hI hk
theorem XE.fldP {f:Nat} {p:τ→α} (h:XE Γ a ρ (.ok x) e s0 t0) (hI:∀v,e v=.ins (cl v) (fs v)) (hk:∀v,∃i,Γ.fi (cl v) f=some i∧(fs v)[i]? = some (en (p v))):XE Γ (.fld a f) ρ (.ok (p x)) en .v false:=XE.fld h hI hk
theorem XE.fldF [Flat en] {f:Nat} {p:τ→α} (h:XE Γ a ρ m0 e s0 t0) (hI:∀v,e v=.ins (cl v) (fs v)) (hk:∀v,∃i,Γ.fi (cl v) f=some i∧(fs v)[i]? = some (en (p v))):XE Γ (.fld a f) ρ (m0.bind fun x=>.ok (p x)) en .v true:=XE.fldG (fun _=>Flat.flat (en:=en)) h hI hk
theorem XE.fldFP [Flat en] {f:Nat} {p:τ→α} (h:XE Γ a ρ (.ok x) e s0 t0) (hI:∀v,e v=.ins (cl v) (fs v)) (hk:∀v,∃i,Γ.fi (cl v) f=some i∧(fs v)[i]? = some (en (p v))):XE Γ (.fld a f) ρ (.ok (p x)) en .v true:=XE.fldF h hI hk
theorem XE.tupS {F:β→α} (ha:XS Γ es ρ m2 enl nb t) (hf:∀w,en (F w)=.tup (enl w)) (hs:nb=true):XE Γ (.tup es) ρ (m2.bind fun w=>.ok (F w)) en .v t:=by
 unfold XE;rw[ev]
 exact XR.bind ha fun w ers h=>by
  show XR (if ers.all ER.isV=true then _ else _) _ _
  rw[if_pos (h.2.1.trans hs)]
  exact quN (by rw[hf,h.1]) h.2.2
theorem XE.lstS {F:β→List α} (ha:XS Γ es ρ m2 enl nb t) (hf:∀w,(F w).map en=enl w) (hs:nb=true):XE Γ (.lst es) ρ (m2.bind fun w=>.ok (F w)) (eL en) .f t:=by
 unfold XE;rw[ev]
 exact XR.bind ha fun w ers h=>by
  show XR (if ers.all ER.isV=true then _ else _) _ _
  rw[if_pos (h.2.1.trans hs)]
  exact qqR (by rw[eL,hf,h.1]) h.2.2
abbrev XLs (Γ:Env) (es:Exs) (ρ:List Sl) (xs:List α) (en:α→D) (t:Bool):Prop:=XS Γ es ρ (.ok xs) (fun xs=>xs.map en) true t
theorem XLs.nil:XLs Γ .nil ρ [] en true:=by unfold XLs;unfold XS;rw[evs];exact⟨_,rfl,rfl,rfl,fun _=>rfl⟩
theorem XLs.cons {x:α} {xs:List α} (h:XE Γ a ρ (.ok x) en s t1) (hn:s.nb=true) (hs:XLs Γ es ρ xs en t2):XLs Γ (.cons a es) ρ (x::xs) en (t1&&t2):=by
 have:=XS.consP h hs
 obtain⟨ers,e1,h1,h2,h3⟩:=this
 exact⟨ers,e1,h1,by rw[h2,hn];rfl,h3⟩
theorem XE.lstL {xs:List α} (ha:XLs Γ es ρ xs en t):XE Γ (.lst es) ρ (.ok xs) (eL en) .f t:=XE.lstS (F:=fun xs=>xs) ha (fun _=>rfl) rfl
theorem Rf.run {n m:Nat} {b:Sms} {as:List D} {mm:RE α} (hn:as.length=n) (h:BR Γ b (as.map (fun d=>Sl.val d d.flat)++List.replicate m .non) mm en s t):XR (qc7 Γ n m b as) mm fun v er=>Is s t (en v) er:=by
 unfold qc7
 rw[if_pos hn]
 cases mm with
 |bad=>trivial
 |ok v =>
  obtain⟨er,e,h⟩:=h
  cases hr:qak Γ b (as.map (fun d=>Sl.val d d.flat)++List.replicate m .non)<;>rw[hr] at e<;>cases e
  exact⟨_,rfl,h⟩
 |exc c fs =>
  have h:(qak Γ b (as.map (fun d=>Sl.val d d.flat)++List.replicate m .non)).rt=_:=h
  cases hr:qak Γ b (as.map (fun d=>Sl.val d d.flat)++List.replicate m .non)<;>rw[hr] at h<;>cases h
  rfl
theorem Rf.weak {r:RE ER} {m:RE α} (h:Rf r m en s t) (hs:s.nb=true):Rf r m en .n t:=XR.mono h fun _ _ k=>k.weak hs
theorem Rf.low {r:RE ER} {m:RE α} (h:Rf r m en s t):Rf r m en s false:=XR.mono h fun _ _ k=>k.low
theorem Rf.mono {r:RE ER} {m:RE α} (h:Rf r m en s t) (hs:s.nb=true):Rf r m en .n false:=XR.mono h fun _ _ k=>(k.weak hs).low
end
end Cm
namespace Cm
section
variable {Γ:Env} {ρ:List Sl} {α:Type} {en:α→D} {s:Sh} {t:Bool}
theorem XE.mth0 {k:Nat} {τ:Type} {e:τ→D} {a:Ex} {sR:Sh} {tR:Bool}  {mR:RE τ}  {cl:τ→Nat} {fs:τ→List D} {F:τ→RE α} (h:XE Γ a ρ mR e sR tR) (hI:∀v,e v=.ins (cl v) (fs v))  (hr:∀x,∃g,Γ.mt (cl x) k=some g∧XR (g (e x::[])) (F x ) fun v er=>Is s t (en v) er) (hs:true=true) (hn:s.nb=true):XE Γ (.mth k a .nil) ρ (mR.bind fun x=>F x ) en s t:=
 (XE.mthS (F:=fun x w=>F x ) h hI XS.nil (fun x=>by obtain⟨g,h1,h2⟩:=hr x;exact⟨g,h1,fun w=>h2 ⟩) hs hn).cast (by simp only[RE.bind_assoc,RE.bind_ok])
theorem XE.mth0P {k:Nat} {τ:Type} {e:τ→D} {a:Ex} {sR:Sh} {tR:Bool} {x:τ}   {cl:τ→Nat} {fs:τ→List D} {F:τ→RE α} (h:XE Γ a ρ (.ok x) e sR tR) (hI:∀v,e v=.ins (cl v) (fs v))  (hr:∀x,∃g,Γ.mt (cl x) k=some g∧XR (g (e x::[])) (F x) fun v er=>Is s t (en v) er) (hs:true=true) (hn:s.nb=true):XE Γ (.mth k a .nil) ρ (F x) en s t:=XE.mthSP h hI XS.nil (hr x) hs hn
theorem XE.call1 {k:Nat} {nm:PySem.Str} {g:List D→RE ER} {τ0:Type} {e0:τ0→D} {a0:Ex} {s0:Sh} {t0:Bool} {m0:RE τ0} {F:τ0→RE α} (hg:Γ.fn[k]? = some (nm,g)) (h0:XE Γ a0 ρ m0 e0 s0 t0) (hr:∀x0,XR (g [e0 x0]) (F x0) fun v er=>Is s t (en v) er) (hs:(s0.nb&&true)=true) (hn:s.nb=true):XE Γ (.call k (.cons a0 .nil)) ρ (m0.bind fun x0=>F x0) en s t:=
 (XE.callS (F:=fun w=>F w.1) hg (XS.cons h0 XS.nil) (fun w=>hr _) hs hn).cast (by simp only[RE.bind_assoc,RE.bind_ok])
theorem XE.call1P {k:Nat} {nm:PySem.Str} {g:List D→RE ER} {τ0:Type} {e0:τ0→D} {a0:Ex} {s0:Sh} {t0:Bool} {x0:τ0} {m:RE α} (hg:Γ.fn[k]? = some (nm,g)) (h0:XE Γ a0 ρ (.ok x0) e0 s0 t0) (hr:XR (g [e0 x0]) m fun v er=>Is s t (en v) er) (hs:(s0.nb&&true)=true) (hn:s.nb=true):XE Γ (.call k (.cons a0 .nil)) ρ m en s t:=XE.callSP hg (XS.consP h0 XS.nil) hr hs hn
theorem XE.tup1 {τ0:Type} {e0:τ0→D} {a0:Ex} {s0:Sh} {t0:Bool} {m0:RE τ0} (h0:XE Γ a0 ρ m0 e0 s0 t0) (hs:(s0.nb&&true)=true):XE Γ (.tup (.cons a0 .nil)) ρ (m0.bind fun x0=>.ok x0) (eT1 e0) .v (t0&&true):=
 (XE.tupS (F:=fun w=>w.1) (en:=eT1 e0) (XS.cons h0 XS.nil) (fun w=>rfl) hs).cast (by simp only[RE.bind_assoc,RE.bind_ok])
theorem XE.tup1P {τ0:Type} {e0:τ0→D} {a0:Ex} {s0:Sh} {t0:Bool} {x0:τ0} (h0:XE Γ a0 ρ (.ok x0) e0 s0 t0) (hs:(s0.nb&&true)=true):XE Γ (.tup (.cons a0 .nil)) ρ (.ok x0) (eT1 e0) .v (t0&&true):=XE.tup1 h0 hs
theorem XE.call2 {k:Nat} {nm:PySem.Str} {g:List D→RE ER} {τ0:Type} {e0:τ0→D} {a0:Ex} {s0:Sh} {t0:Bool} {τ1:Type} {e1:τ1→D} {a1:Ex} {s1:Sh} {t1:Bool} {m0:RE τ0} {m1:RE τ1} {F:τ0→τ1→RE α} (hg:Γ.fn[k]? = some (nm,g)) (h0:XE Γ a0 ρ m0 e0 s0 t0) (h1:XE Γ a1 ρ m1 e1 s1 t1) (hr:∀x0 x1,XR (g [e0 x0,e1 x1]) (F x0 x1) fun v er=>Is s t (en v) er) (hs:(s0.nb&&(s1.nb&&true))=true) (hn:s.nb=true):XE Γ (.call k (.cons a0 (.cons a1 .nil))) ρ (m0.bind fun x0=>m1.bind fun x1=>F x0 x1) en s t:=
 (XE.callS (F:=fun w=>F w.1 w.2.1) hg (XS.cons h0 (XS.cons h1 XS.nil)) (fun w=>hr _ _) hs hn).cast (by simp only[RE.bind_assoc,RE.bind_ok])
theorem XE.call2P {k:Nat} {nm:PySem.Str} {g:List D→RE ER} {τ0:Type} {e0:τ0→D} {a0:Ex} {s0:Sh} {t0:Bool} {τ1:Type} {e1:τ1→D} {a1:Ex} {s1:Sh} {t1:Bool} {x0:τ0} {x1:τ1} {m:RE α} (hg:Γ.fn[k]? = some (nm,g)) (h0:XE Γ a0 ρ (.ok x0) e0 s0 t0) (h1:XE Γ a1 ρ (.ok x1) e1 s1 t1) (hr:XR (g [e0 x0,e1 x1]) m fun v er=>Is s t (en v) er) (hs:(s0.nb&&(s1.nb&&true))=true) (hn:s.nb=true):XE Γ (.call k (.cons a0 (.cons a1 .nil))) ρ m en s t:=XE.callSP hg (XS.consP h0 (XS.consP h1 XS.nil)) hr hs hn
theorem XE.tup2 {τ0:Type} {e0:τ0→D} {a0:Ex} {s0:Sh} {t0:Bool} {τ1:Type} {e1:τ1→D} {a1:Ex} {s1:Sh} {t1:Bool} {m0:RE τ0} {m1:RE τ1} (h0:XE Γ a0 ρ m0 e0 s0 t0) (h1:XE Γ a1 ρ m1 e1 s1 t1) (hs:(s0.nb&&(s1.nb&&true))=true):XE Γ (.tup (.cons a0 (.cons a1 .nil))) ρ (m0.bind fun x0=>m1.bind fun x1=>.ok (x0,x1)) (eT2 e0 e1) .v (t0&&(t1&&true)):=
 (XE.tupS (F:=fun w=>(w.1,w.2.1)) (en:=eT2 e0 e1) (XS.cons h0 (XS.cons h1 XS.nil)) (fun w=>rfl) hs).cast (by simp only[RE.bind_assoc,RE.bind_ok])
theorem XE.tup2P {τ0:Type} {e0:τ0→D} {a0:Ex} {s0:Sh} {t0:Bool} {τ1:Type} {e1:τ1→D} {a1:Ex} {s1:Sh} {t1:Bool} {x0:τ0} {x1:τ1} (h0:XE Γ a0 ρ (.ok x0) e0 s0 t0) (h1:XE Γ a1 ρ (.ok x1) e1 s1 t1) (hs:(s0.nb&&(s1.nb&&true))=true):XE Γ (.tup (.cons a0 (.cons a1 .nil))) ρ (.ok (x0,x1)) (eT2 e0 e1) .v (t0&&(t1&&true)):=XE.tup2 h0 h1 hs
theorem XE.call3 {k:Nat} {nm:PySem.Str} {g:List D→RE ER} {τ0:Type} {e0:τ0→D} {a0:Ex} {s0:Sh} {t0:Bool} {τ1:Type} {e1:τ1→D} {a1:Ex} {s1:Sh} {t1:Bool} {τ2:Type} {e2:τ2→D} {a2:Ex} {s2:Sh} {t2:Bool} {m0:RE τ0} {m1:RE τ1} {m2:RE τ2} {F:τ0→τ1→τ2→RE α} (hg:Γ.fn[k]? = some (nm,g)) (h0:XE Γ a0 ρ m0 e0 s0 t0) (h1:XE Γ a1 ρ m1 e1 s1 t1) (h2:XE Γ a2 ρ m2 e2 s2 t2) (hr:∀x0 x1 x2,XR (g [e0 x0,e1 x1,e2 x2]) (F x0 x1 x2) fun v er=>Is s t (en v) er) (hs:(s0.nb&&(s1.nb&&(s2.nb&&true)))=true) (hn:s.nb=true):XE Γ (.call k (.cons a0 (.cons a1 (.cons a2 .nil)))) ρ (m0.bind fun x0=>m1.bind fun x1=>m2.bind fun x2=>F x0 x1 x2) en s t:=
 (XE.callS (F:=fun w=>F w.1 w.2.1 w.2.2.1) hg (XS.cons h0 (XS.cons h1 (XS.cons h2 XS.nil))) (fun w=>hr _ _ _) hs hn).cast (by simp only[RE.bind_assoc,RE.bind_ok])
theorem XE.call3P {k:Nat} {nm:PySem.Str} {g:List D→RE ER} {τ0:Type} {e0:τ0→D} {a0:Ex} {s0:Sh} {t0:Bool} {τ1:Type} {e1:τ1→D} {a1:Ex} {s1:Sh} {t1:Bool} {τ2:Type} {e2:τ2→D} {a2:Ex} {s2:Sh} {t2:Bool} {x0:τ0} {x1:τ1} {x2:τ2} {m:RE α} (hg:Γ.fn[k]? = some (nm,g)) (h0:XE Γ a0 ρ (.ok x0) e0 s0 t0) (h1:XE Γ a1 ρ (.ok x1) e1 s1 t1) (h2:XE Γ a2 ρ (.ok x2) e2 s2 t2) (hr:XR (g [e0 x0,e1 x1,e2 x2]) m fun v er=>Is s t (en v) er) (hs:(s0.nb&&(s1.nb&&(s2.nb&&true)))=true) (hn:s.nb=true):XE Γ (.call k (.cons a0 (.cons a1 (.cons a2 .nil)))) ρ m en s t:=XE.callSP hg (XS.consP h0 (XS.consP h1 (XS.consP h2 XS.nil))) hr hs hn
theorem XE.tup3 {τ0:Type} {e0:τ0→D} {a0:Ex} {s0:Sh} {t0:Bool} {τ1:Type} {e1:τ1→D} {a1:Ex} {s1:Sh} {t1:Bool} {τ2:Type} {e2:τ2→D} {a2:Ex} {s2:Sh} {t2:Bool} {m0:RE τ0} {m1:RE τ1} {m2:RE τ2} (h0:XE Γ a0 ρ m0 e0 s0 t0) (h1:XE Γ a1 ρ m1 e1 s1 t1) (h2:XE Γ a2 ρ m2 e2 s2 t2) (hs:(s0.nb&&(s1.nb&&(s2.nb&&true)))=true):XE Γ (.tup (.cons a0 (.cons a1 (.cons a2 .nil)))) ρ (m0.bind fun x0=>m1.bind fun x1=>m2.bind fun x2=>.ok (x0,x1,x2)) (eT3 e0 e1 e2) .v (t0&&(t1&&(t2&&true))):=
 (XE.tupS (F:=fun w=>(w.1,w.2.1,w.2.2.1)) (en:=eT3 e0 e1 e2) (XS.cons h0 (XS.cons h1 (XS.cons h2 XS.nil))) (fun w=>rfl) hs).cast (by simp only[RE.bind_assoc,RE.bind_ok])
theorem XE.tup3P {τ0:Type} {e0:τ0→D} {a0:Ex} {s0:Sh} {t0:Bool} {τ1:Type} {e1:τ1→D} {a1:Ex} {s1:Sh} {t1:Bool} {τ2:Type} {e2:τ2→D} {a2:Ex} {s2:Sh} {t2:Bool} {x0:τ0} {x1:τ1} {x2:τ2} (h0:XE Γ a0 ρ (.ok x0) e0 s0 t0) (h1:XE Γ a1 ρ (.ok x1) e1 s1 t1) (h2:XE Γ a2 ρ (.ok x2) e2 s2 t2) (hs:(s0.nb&&(s1.nb&&(s2.nb&&true)))=true):XE Γ (.tup (.cons a0 (.cons a1 (.cons a2 .nil)))) ρ (.ok (x0,x1,x2)) (eT3 e0 e1 e2) .v (t0&&(t1&&(t2&&true))):=XE.tup3 h0 h1 h2 hs
theorem XE.call4 {k:Nat} {nm:PySem.Str} {g:List D→RE ER} {τ0:Type} {e0:τ0→D} {a0:Ex} {s0:Sh} {t0:Bool} {τ1:Type} {e1:τ1→D} {a1:Ex} {s1:Sh} {t1:Bool} {τ2:Type} {e2:τ2→D} {a2:Ex} {s2:Sh} {t2:Bool} {τ3:Type} {e3:τ3→D} {a3:Ex} {s3:Sh} {t3:Bool} {m0:RE τ0} {m1:RE τ1} {m2:RE τ2} {m3:RE τ3} {F:τ0→τ1→τ2→τ3→RE α} (hg:Γ.fn[k]? = some (nm,g)) (h0:XE Γ a0 ρ m0 e0 s0 t0) (h1:XE Γ a1 ρ m1 e1 s1 t1) (h2:XE Γ a2 ρ m2 e2 s2 t2) (h3:XE Γ a3 ρ m3 e3 s3 t3) (hr:∀x0 x1 x2 x3,XR (g [e0 x0,e1 x1,e2 x2,e3 x3]) (F x0 x1 x2 x3) fun v er=>Is s t (en v) er) (hs:(s0.nb&&(s1.nb&&(s2.nb&&(s3.nb&&true))))=true) (hn:s.nb=true):XE Γ (.call k (.cons a0 (.cons a1 (.cons a2 (.cons a3 .nil))))) ρ (m0.bind fun x0=>m1.bind fun x1=>m2.bind fun x2=>m3.bind fun x3=>F x0 x1 x2 x3) en s t:=
 (XE.callS (F:=fun w=>F w.1 w.2.1 w.2.2.1 w.2.2.2.1) hg (XS.cons h0 (XS.cons h1 (XS.cons h2 (XS.cons h3 XS.nil)))) (fun w=>hr _ _ _ _) hs hn).cast (by simp only[RE.bind_assoc,RE.bind_ok])
theorem XE.new4 {k c:Nat} {g:List D→RE (List D)} {τ0:Type} {e0:τ0→D} {a0:Ex} {s0:Sh} {t0:Bool} {τ1:Type} {e1:τ1→D} {a1:Ex} {s1:Sh} {t1:Bool} {τ2:Type} {e2:τ2→D} {a2:Ex} {s2:Sh} {t2:Bool} {τ3:Type} {e3:τ3→D} {a3:Ex} {s3:Sh} {t3:Bool} {m0:RE τ0} {m1:RE τ1} {m2:RE τ2} {m3:RE τ3} {F:τ0→τ1→τ2→τ3→RE α} (hg:Γ.nw[k]? = some (c,g)) (h0:XE Γ a0 ρ m0 e0 s0 t0) (h1:XE Γ a1 ρ m1 e1 s1 t1) (h2:XE Γ a2 ρ m2 e2 s2 t2) (h3:XE Γ a3 ρ m3 e3 s3 t3) (hr:∀x0 x1 x2 x3,XR (g [e0 x0,e1 x1,e2 x2,e3 x3]) (F x0 x1 x2 x3) fun v fs=>en v=.ins c fs):XE Γ (.new k (.cons a0 (.cons a1 (.cons a2 (.cons a3 .nil))))) ρ (m0.bind fun x0=>m1.bind fun x1=>m2.bind fun x2=>m3.bind fun x3=>F x0 x1 x2 x3) en .v true:=
 (XE.newS (F:=fun w=>F w.1 w.2.1 w.2.2.1 w.2.2.2.1) hg (XS.cons h0 (XS.cons h1 (XS.cons h2 (XS.cons h3 XS.nil)))) (fun w=>hr _ _ _ _)).cast (by simp only[RE.bind_assoc,RE.bind_ok])
theorem XE.new4P {k c:Nat} {g:List D→RE (List D)} {τ0:Type} {e0:τ0→D} {a0:Ex} {s0:Sh} {t0:Bool} {τ1:Type} {e1:τ1→D} {a1:Ex} {s1:Sh} {t1:Bool} {τ2:Type} {e2:τ2→D} {a2:Ex} {s2:Sh} {t2:Bool} {τ3:Type} {e3:τ3→D} {a3:Ex} {s3:Sh} {t3:Bool} {x0:τ0} {x1:τ1} {x2:τ2} {x3:τ3} {m:RE α} (hg:Γ.nw[k]? = some (c,g)) (h0:XE Γ a0 ρ (.ok x0) e0 s0 t0) (h1:XE Γ a1 ρ (.ok x1) e1 s1 t1) (h2:XE Γ a2 ρ (.ok x2) e2 s2 t2) (h3:XE Γ a3 ρ (.ok x3) e3 s3 t3) (hr:XR (g [e0 x0,e1 x1,e2 x2,e3 x3]) m fun v fs=>en v=.ins c fs):XE Γ (.new k (.cons a0 (.cons a1 (.cons a2 (.cons a3 .nil))))) ρ m en .v true:=XE.newSP hg (XS.consP h0 (XS.consP h1 (XS.consP h2 (XS.consP h3 XS.nil)))) hr
theorem XE.tup4 {τ0:Type} {e0:τ0→D} {a0:Ex} {s0:Sh} {t0:Bool} {τ1:Type} {e1:τ1→D} {a1:Ex} {s1:Sh} {t1:Bool} {τ2:Type} {e2:τ2→D} {a2:Ex} {s2:Sh} {t2:Bool} {τ3:Type} {e3:τ3→D} {a3:Ex} {s3:Sh} {t3:Bool} {m0:RE τ0} {m1:RE τ1} {m2:RE τ2} {m3:RE τ3} (h0:XE Γ a0 ρ m0 e0 s0 t0) (h1:XE Γ a1 ρ m1 e1 s1 t1) (h2:XE Γ a2 ρ m2 e2 s2 t2) (h3:XE Γ a3 ρ m3 e3 s3 t3) (hs:(s0.nb&&(s1.nb&&(s2.nb&&(s3.nb&&true))))=true):XE Γ (.tup (.cons a0 (.cons a1 (.cons a2 (.cons a3 .nil))))) ρ (m0.bind fun x0=>m1.bind fun x1=>m2.bind fun x2=>m3.bind fun x3=>.ok (x0,x1,x2,x3)) (eT4 e0 e1 e2 e3) .v (t0&&(t1&&(t2&&(t3&&true)))):=
 (XE.tupS (F:=fun w=>(w.1,w.2.1,w.2.2.1,w.2.2.2.1)) (en:=eT4 e0 e1 e2 e3) (XS.cons h0 (XS.cons h1 (XS.cons h2 (XS.cons h3 XS.nil)))) (fun w=>rfl) hs).cast (by simp only[RE.bind_assoc,RE.bind_ok])
theorem XE.tup4P {τ0:Type} {e0:τ0→D} {a0:Ex} {s0:Sh} {t0:Bool} {τ1:Type} {e1:τ1→D} {a1:Ex} {s1:Sh} {t1:Bool} {τ2:Type} {e2:τ2→D} {a2:Ex} {s2:Sh} {t2:Bool} {τ3:Type} {e3:τ3→D} {a3:Ex} {s3:Sh} {t3:Bool} {x0:τ0} {x1:τ1} {x2:τ2} {x3:τ3} (h0:XE Γ a0 ρ (.ok x0) e0 s0 t0) (h1:XE Γ a1 ρ (.ok x1) e1 s1 t1) (h2:XE Γ a2 ρ (.ok x2) e2 s2 t2) (h3:XE Γ a3 ρ (.ok x3) e3 s3 t3) (hs:(s0.nb&&(s1.nb&&(s2.nb&&(s3.nb&&true))))=true):XE Γ (.tup (.cons a0 (.cons a1 (.cons a2 (.cons a3 .nil))))) ρ (.ok (x0,x1,x2,x3)) (eT4 e0 e1 e2 e3) .v (t0&&(t1&&(t2&&(t3&&true)))):=XE.tup4 h0 h1 h2 h3 hs
theorem XE.call5 {k:Nat} {nm:PySem.Str} {g:List D→RE ER} {τ0:Type} {e0:τ0→D} {a0:Ex} {s0:Sh} {t0:Bool} {τ1:Type} {e1:τ1→D} {a1:Ex} {s1:Sh} {t1:Bool} {τ2:Type} {e2:τ2→D} {a2:Ex} {s2:Sh} {t2:Bool} {τ3:Type} {e3:τ3→D} {a3:Ex} {s3:Sh} {t3:Bool} {τ4:Type} {e4:τ4→D} {a4:Ex} {s4:Sh} {t4:Bool} {m0:RE τ0} {m1:RE τ1} {m2:RE τ2} {m3:RE τ3} {m4:RE τ4} {F:τ0→τ1→τ2→τ3→τ4→RE α} (hg:Γ.fn[k]? = some (nm,g)) (h0:XE Γ a0 ρ m0 e0 s0 t0) (h1:XE Γ a1 ρ m1 e1 s1 t1) (h2:XE Γ a2 ρ m2 e2 s2 t2) (h3:XE Γ a3 ρ m3 e3 s3 t3) (h4:XE Γ a4 ρ m4 e4 s4 t4) (hr:∀x0 x1 x2 x3 x4,XR (g [e0 x0,e1 x1,e2 x2,e3 x3,e4 x4]) (F x0 x1 x2 x3 x4) fun v er=>Is s t (en v) er) (hs:(s0.nb&&(s1.nb&&(s2.nb&&(s3.nb&&(s4.nb&&true)))))=true) (hn:s.nb=true):XE Γ (.call k (.cons a0 (.cons a1 (.cons a2 (.cons a3 (.cons a4 .nil)))))) ρ (m0.bind fun x0=>m1.bind fun x1=>m2.bind fun x2=>m3.bind fun x3=>m4.bind fun x4=>F x0 x1 x2 x3 x4) en s t:=
 (XE.callS (F:=fun w=>F w.1 w.2.1 w.2.2.1 w.2.2.2.1 w.2.2.2.2.1) hg (XS.cons h0 (XS.cons h1 (XS.cons h2 (XS.cons h3 (XS.cons h4 XS.nil))))) (fun w=>hr _ _ _ _ _) hs hn).cast (by simp only[RE.bind_assoc,RE.bind_ok])
theorem XE.call5P {k:Nat} {nm:PySem.Str} {g:List D→RE ER} {τ0:Type} {e0:τ0→D} {a0:Ex} {s0:Sh} {t0:Bool} {τ1:Type} {e1:τ1→D} {a1:Ex} {s1:Sh} {t1:Bool} {τ2:Type} {e2:τ2→D} {a2:Ex} {s2:Sh} {t2:Bool} {τ3:Type} {e3:τ3→D} {a3:Ex} {s3:Sh} {t3:Bool} {τ4:Type} {e4:τ4→D} {a4:Ex} {s4:Sh} {t4:Bool} {x0:τ0} {x1:τ1} {x2:τ2} {x3:τ3} {x4:τ4} {m:RE α} (hg:Γ.fn[k]? = some (nm,g)) (h0:XE Γ a0 ρ (.ok x0) e0 s0 t0) (h1:XE Γ a1 ρ (.ok x1) e1 s1 t1) (h2:XE Γ a2 ρ (.ok x2) e2 s2 t2) (h3:XE Γ a3 ρ (.ok x3) e3 s3 t3) (h4:XE Γ a4 ρ (.ok x4) e4 s4 t4) (hr:XR (g [e0 x0,e1 x1,e2 x2,e3 x3,e4 x4]) m fun v er=>Is s t (en v) er) (hs:(s0.nb&&(s1.nb&&(s2.nb&&(s3.nb&&(s4.nb&&true)))))=true) (hn:s.nb=true):XE Γ (.call k (.cons a0 (.cons a1 (.cons a2 (.cons a3 (.cons a4 .nil)))))) ρ m en s t:=XE.callSP hg (XS.consP h0 (XS.consP h1 (XS.consP h2 (XS.consP h3 (XS.consP h4 XS.nil))))) hr hs hn
end
end Cm
namespace Cm
open PySem PySem.Spec PyProof.Rows L2
section
variable {Γ:Env} {ρ:List Sl} {α β γ δ:Type} {en:α→D} {en2:β→D} {en3:γ→D} {a b c e:Ex} {s s1 s2 s3:Sh} {t t1 t2 t3:Bool} {m:RE α} {x:α} {y:β} {z:γ}
theorem XE.binR {o:Bop} {m1:RE α} {f:α→RE γ} (ha:XE Γ a ρ m1 en s1 t1) (hb:XE Γ b ρ (.ok y) en2 s2 t2) (h:∀x bb,((t1&&t2)=true→bb=true)→XR (evB o (en x) (en2 y) bb) (f x) fun v er=>Is s t (en3 v) er):XE Γ (.bin o a b) ρ (m1.bind f) en3 s t:=by
 cases m1 with
 |bad=>trivial
 |ok x=>exact XE.binP ha hb (h x)
 |exc c fs=>have ha:ev Γ a ρ=_:=ha;unfold XE;rw[ev,ha];rfl
theorem XE.binL {o:Bop} {m2:RE β} {f:β→RE γ} (ha:XE Γ a ρ (.ok x) en s1 t1) (hb:XE Γ b ρ m2 en2 s2 t2) (h:∀y bb,((t1&&t2)=true→bb=true)→XR (evB o (en x) (en2 y) bb) (f y) fun v er=>Is s t (en3 v) er):XE Γ (.bin o a b) ρ (m2.bind f) en3 s t:=by
 cases m2 with
 |bad=>trivial
 |ok y=>exact XE.binP ha hb (h y)
 |exc c fs =>
  obtain⟨er,e1,_⟩:=ha
  have hb:ev Γ b ρ=_:=hb
  unfold XE;rw[ev,e1,hb];rfl
theorem XE.cmpR {o:Cop} {m1:RE α} {f:α→RE Bool} (ha:XE Γ a ρ m1 en s1 t1) (hb:XE Γ b ρ (.ok y) en2 s2 t2) (h:∀x,evC o (en x) (en2 y)=f x):XE Γ (.cmp o a b) ρ (m1.bind f) eB .v true:=by
 cases m1 with
 |bad=>trivial
 |ok x=>exact XE.cmpP ha hb (h x)
 |exc c fs=>have ha:ev Γ a ρ=_:=ha;unfold XE;rw[ev,ha];rfl
theorem XE.nev {e:Ex}:XE Γ e ρ (.bad:RE α) en s t:=trivial
def eTL {α:Type} (en:α→D) (xs:List α):D:=.tup (xs.map en)
theorem XE.tupL {es:Exs} {xs:List α} (ha:XLs Γ es ρ xs en t):XE Γ (.tup es) ρ (.ok xs) (eTL en) .v t:=XE.tupS (F:=fun xs=>xs) ha (fun _=>rfl) rfl
def qj7 (x:List Nat) (ts:List (List Nat)):RE Bool:=if ((D.str x).fit 0&&D.fits (ts.map eS) 0)=true then .ok (decide (x∈ts)) else .bad
def qn5 (x:List Nat) (ts:List (List Nat)):RE Bool:=(qj7 x ts).bind fun b=>.ok (!b)
theorem qlF (x:List Nat):∀ts:List (List Nat),((ts.map D.str).any fun z=>z.eqb (.str x))=decide (x∈ts)
 |[]=>by simp
 |n::ts=>by
  show(D.eqb (.str n) (.str x)||(ts.map D.str).any fun z=>z.eqb (.str x))=_
  rw[qlF x ts]
  simp only[D.eqb,List.mem_cons]
  by_cases h:n=x
  ·subst h;simp
  ·have:¬x=n:=fun e=>h e.symm
   simp[h,this]
theorem qrU {α β:Type} (o:Cop) (e1:α→D) (e2:β→D) (x:α) (y:β):evC o (e1 x) (e2 y)=evC o (e1 x) (e2 y):=rfl
theorem qf5 (x:List Nat) (ts:List (List Nat)):evC .isin (eS x) (eTL eS ts)=qj7 x ts:=by
 show(if ((D.str x).fit 0&&D.fits (ts.map eS) 0)=true then RE.ok ((ts.map D.str).any fun z=>z.eqb (.str x)) else .bad)=_
 rw[qlF];rfl
theorem qsn (x:List Nat) (ts:List (List Nat)):evC .nin (eS x) (eTL eS ts)=qn5 x ts:=by
 show(evC .isin (eS x) (eTL eS ts)).bind _=_
 rw[qf5];rfl
theorem qqt {f:α→β} (k:∀v,en v=en2 (f v)) (v:List α):eL en v=eL en2 (v.map f):=by
 unfold eL
 rw[List.map_map]
 congr 1
 exact List.map_congr_left fun x _=>k x
theorem qnb {α0 α1 α2 α3 β0 β1 β2 β3:Type} {e0:α0→D} {e1:α1→D} {e2:α2→D} {e3:α3→D} {f0:β0→D} {f1:β1→D} {f2:β2→D} {f3:β3→D} {g0:α0→β0} {g1:α1→β1} {g2:α2→β2} {g3:α3→β3}
  (k0:∀v,e0 v=f0 (g0 v)) (k1:∀v,e1 v=f1 (g1 v)) (k2:∀v,e2 v=f2 (g2 v)) (k3:∀v,e3 v=f3 (g3 v)) (p:α0 × α1 × α2 × α3) :
  eT4 e0 e1 e2 e3 p=eT4 f0 f1 f2 f3 (g0 p.1,g1 p.2.1,g2 p.2.2.1,g3 p.2.2.2):=by simp[eT4,←k0,←k1,←k2,←k3]
theorem SlV.coe {f:α→β} {q:Sl} (h:SlV t (en x) q) (k:∀v,en v=en2 (f v)):SlV t (en2 (f x)) q:=by rw[←k];exact h
def Dec {α β:Type} (en:α→D) (en2:β→D) (f:α→RE β):Prop:=∀v,f v=.bad∨∃w,f v=.ok w∧en v=en2 w
theorem XE.dec {f:α→RE β} (h:XE Γ e ρ (.ok x) en s t) (k:Dec en en2 f):XE Γ e ρ (f x) en2 s t:=by
 rcases k x with k | ⟨w,q,k⟩
 ·rw[k];trivial
 ·rw[q];obtain⟨er,e1,e2⟩:=h;exact⟨er,e1,by rw[←k];exact e2.d,e2.s,e2.t⟩
theorem XE.decG {f:α→RE β} (h:XE Γ e ρ m en s t) (k:Dec en en2 f):XE Γ e ρ (m.bind f) en2 s t:=by
 cases m with
 |bad=>trivial
 |ok x=>exact XE.dec (x:=x) h k
 |exc c fs=>exact h
def dI:D→RE Int
 |.int i=>.ok i
 |_=>.bad
def dS:D→RE (List Nat)
 |.str i=>.ok i
 |_=>.bad
def dLs (f:α→RE β):List α→RE (List β)
 |[]=>.ok []
 |x::xs=>(f x).bind fun y=>(dLs f xs).bind fun ys=>.ok (y::ys)
def dL (f:D→RE β):D→RE (List β)
 |.lst xs=>dLs f xs
 |_=>.bad
def dT5 {α0 α1 α2 α3:Type} (f:α→RE β) (p:α0 × α1 × α2 × α3 × α):RE (α0 × α1 × α2 × α3 × β):=(f p.2.2.2.2).bind fun y=>.ok (p.1,p.2.1,p.2.2.1,p.2.2.2.1,y)
def dTH:D→RE (List Nat × Int × Int × Int × List D)
 |.tup [.str k,.int r,.int c,.int g,.lst m]=>.ok (k,r,c,g,m)
 |_=>.bad
theorem qwj:Dec eD eS dS:=fun v=>by cases v<;>first | exact .inl rfl | exact .inr ⟨_,rfl,rfl⟩
theorem qbv {α β:Type} {e1:α→D} {e2:β→D} {f:α→β} (h:∀x,e1 x=e2 (f x)):∀x,e1 x=eO e2 (some (f x)):=h
def dP2:D→RE (D × D)
 |.tup [a,b]=>.ok (a,b)
 |_=>.bad
theorem qmS:Dec (eO en) en Cm.unO:=fun v=>by cases v<;>first | exact .inl rfl | exact .inr ⟨_,rfl,rfl⟩
theorem qqT {f:α→RE β} (h:Dec en en2 f):∀xs,dLs f xs=.bad∨∃ys,dLs f xs=.ok ys∧xs.map en=ys.map en2
 |[]=>.inr ⟨_,rfl,rfl⟩
 |x::xs=>by
  unfold dLs
  rcases h x with h1 | ⟨y,h1,h1'⟩
  ·rw[h1];exact .inl rfl
  ·rw[h1]
   rcases qqT h xs with h2 | ⟨ys,h2,h2'⟩
   ·rw[h2];exact .inl rfl
   ·rw[h2];exact .inr ⟨_,rfl,by simp[h1',h2']⟩
theorem qtF {f:α→RE β} (h:Dec en en2 f):Dec (eL en) (eL en2) (dLs f):=fun v=>by
 rcases qqT h v with h2 | ⟨ys,h2,h2'⟩
 ·exact .inl h2
 ·exact .inr ⟨ys,h2,by simp only[eL,h2']⟩
def thD (p:List Nat × Int × Int × Int × List Int):List Nat × Int × Int × Int × List D:=(p.1,p.2.1,p.2.2.1,p.2.2.2.1,p.2.2.2.2.map eI)
def t5L {α0 α1 α2 α3 α:Type} (g:α→D) (p:α0 × α1 × α2 × α3 × List α):α0 × α1 × α2 × α3 × List D:=(p.1,p.2.1,p.2.2.1,p.2.2.2.1,p.2.2.2.2.map g)
def qio (x:List Int):RE Int:=gd (Nat.ble x.length 1000) (.ok (qlD x:Int))
theorem XE.lset {m:RE (List Int)} (h:XE Γ a ρ m (eL eI) s t):XE Γ (.lset a) ρ (m.bind qio) eI .v true:=by
 unfold XE;rw[ev]
 exact XR.bind h fun v er k=>by
  rw[k.d]
  simp only[qmc,eL,qhm]
  exact xgd (xok rfl)
theorem XE.lsetP {x:List Int} (h:XE Γ a ρ (.ok x) (eL eI) s t):XE Γ (.lset a) ρ (qio x) eI .v true:=XE.lset h
def qhd (x y:List Nat):RE (List (List Nat)):=gd (qu0 y.length x.length) (.ok ((Txt.split (qa1 x) (qa1 y)).map fun z=>z.cps.toList))
def qvs (x y:List Nat):RE Int:=.ok (Txt.find (qa1 x) (qa1 y))
def qj6 (s:List Nat) (ss:List (List Nat)):RE (List Nat):=gd (leB ((ss.map List.length).sum+ss.length*s.length)) (.ok (Txt.join (qa1 s) (ss.map qa1)).cps.toList)
theorem XE.split {m1 m2:RE (List Nat)} (ha:XE Γ a ρ m1 eS s1 t1) (hb:XE Γ b ρ m2 eS s2 t2):XE Γ (.bm1 .split a b) ρ (m1.bind fun x=>m2.bind fun y=>qhd x y) (eL eS) .f true:=by
 unfold XE;rw[ev]
 exact XR.bind ha fun v er k=>by
  rw[k.d]
  exact XR.bind hb fun w er' k'=>by
   rw[k'.d]
   exact xgd (qqR (by simp[eL,List.map_map,Function.comp_def]) fun _=>rfl)
theorem XE.find {m1 m2:RE (List Nat)} (ha:XE Γ a ρ m1 eS s1 t1) (hb:XE Γ b ρ m2 eS s2 t2):XE Γ (.bm1 .find a b) ρ (m1.bind fun x=>m2.bind fun y=>qvs x y) eI .v true:=by
 unfold XE;rw[ev]
 exact XR.bind ha fun v er k=>by
  rw[k.d]
  exact XR.bind hb fun w er' k'=>by rw[k'.d];exact xok rfl
theorem XE.join {m1:RE (List Nat)} {m2:RE (List (List Nat))} (ha:XE Γ a ρ m1 eS s1 t1) (hb:XE Γ b ρ m2 (eL eS) s2 t2):XE Γ (.bm1 .join a b) ρ (m1.bind fun x=>m2.bind fun y=>qj6 x y) eS .v true:=by
 unfold XE;rw[ev]
 exact XR.bind ha fun v er k=>by
  rw[k.d]
  exact XR.bind hb fun w er' k'=>by
   rw[k'.d]
   simp only[evM,eL,qhV]
   exact xgd (xok rfl)
theorem XE.joinP {x:List Nat} {y:List (List Nat)} (ha:XE Γ a ρ (.ok x) eS s1 t1) (hb:XE Γ b ρ (.ok y) (eL eS) s2 t2):XE Γ (.bm1 .join a b) ρ (qj6 x y) eS .v true:=XE.join ha hb
def qmH (x y:List Nat):RE Int:=match PySem.Builtin.Str.occurrences (qa1 x) (qa1 y) 0 x.length 1 with
 |j::_=>.ok ((j:Nat):Int)
 |[]=>.bad
theorem XE.inxS {m1 m2:RE (List Nat)} (ha:XE Γ a ρ m1 eS s1 t1) (hb:XE Γ b ρ m2 eS s2 t2):XE Γ (.inxS a b) ρ (m1.bind fun x=>m2.bind fun y=>qmH x y) eI .v true:=by
 unfold XE;rw[ev]
 exact XR.bind ha fun v er k=>by
  rw[k.d]
  exact XR.bind hb fun w er' k'=>by
   rw[k'.d]
   simp only[qlQ,qmH]
   cases PySem.Builtin.Str.occurrences (qa1 v) (qa1 w) 0 v.length 1 with
   |nil=>trivial
   |cons j js=>exact xok rfl
theorem XE.inxSP {x y:List Nat} (ha:XE Γ a ρ (.ok x) eS s1 t1) (hb:XE Γ b ρ (.ok y) eS s2 t2):XE Γ (.inxS a b) ρ (qmH x y) eI .v true:=XE.inxS ha hb
def qrp (xs:List Int) (y:Int):RE Int:=match xs.findIdx? (fun x=>decide (x=y)) with
 |some j=>.ok (j:Int)
 |none=>.bad
def mmE (k:Bool) (x:List Int) (y:Int):RE Int:=.ok (quW k x y)
def qwR (en:α→D) (en2:β→D) (xs:List α) (y:β):RE Int:=(qqQ (xs.map en) (en2 y)).bind fun r=>match r.d with
 |.int i=>.ok i
 |_=>.bad
def qlC (d:D) (k:Int):RE D:=match d with
 |.lst xs=>atE xs k
 |.tup xs=>atE xs k
 |_=>.bad
theorem XE.idxD {m1:RE D} {m2:RE Int} (ha:XE Γ a ρ m1 eD s1 t) (hb:XE Γ b ρ m2 eI s2 t2):XE Γ (.idx a b) ρ (m1.bind fun x=>m2.bind fun k=>qlC x k) eD .v t:=by
 unfold XE;rw[ev]
 exact XR.bind ha fun v er k=>XR.bind hb fun w er' k'=>by
  rw[k.d,k'.d]
  unfold eD eI qlC atE
  cases v with
  |lst xs =>
   simp only[qrZ]
   cases L2.atI xs w with
   |none=>trivial
   |some x=>exact⟨_,rfl,rfl,rfl,fun z=>by show(_||_)=true;rw[k.t z];rfl⟩
  |tup xs =>
   simp only[qrZ]
   cases L2.atI xs w with
   |none=>trivial
   |some x=>exact⟨_,rfl,rfl,rfl,fun z=>by show(_||_)=true;rw[k.t z];rfl⟩
  |_=>trivial
def qxy (d:D):RE Int:=match d with
 |.lst xs=>.ok xs.length
 |.tup xs=>.ok xs.length
 |_=>.bad
def qxd (d:D):RE (List D):=match d with
 |.lst xs=>.ok xs
 |.tup xs=>.ok xs
 |_=>.bad
theorem qto {α:Type} (c:α→Bool) (m:RE (List α)):(m.bind fun xs=>gd (leB xs.length) (.ok (xs.filter c)))=m.bind fun xs=>gd (leB xs.length) (lcE (fun x=>.ok (c x)) (fun x=>.ok x) xs):=by
 congr 1;funext xs;rw[qqy c fun x=>x,List.map_id']
end
theorem qts {g:List D→RE ER} {ns:List Int} {m:RE Bool} {t:Bool} (h:Rf (g [eL eI ns]) m eB .v t) (e:m=.ok true):∃b,g [.lst (ns.map D.int)]=.ok (.val (.bl true) b):=by
 rw[e] at h
 obtain⟨er,e1,e2⟩:=h
 have h1:=e2.d
 have h2:=e2.s
 cases er with
 |val d b=>cases h1;exact⟨b,e1⟩
 |fre d b=>cases h2
 |brw d b=>cases h2
def tryE {α:Type} (T:Nat→Option Bool) (x:Option Nat):RE α→RE (Option Nat)
 |.bad=>.bad
 |.ok _=>.ok x
 |.exc c fs=>match T c,fs with
  |some true,[]=>.ok (some c)
  |some false,fs=>.exc c fs
  |_,_=>.bad
def tryA {α:Type} (T:Nat→Option Bool) (x:Option Nat) (y:α):RE α→RE (Option Nat × α)
 |.bad=>.bad
 |.ok v=>.ok (x,v)
 |.exc c fs=>match T c,fs with
  |some true,[]=>.ok (some c,y)
  |some false,fs=>.exc c fs
  |_,_=>.bad
section
variable {Γ:Env} {ρ:List Sl} {α:Type} {en:α→D} {e a:Ex} {s:Sh} {t t1:Bool} {m:RE α}
theorem SN.tryE {T:Nat→Option Bool} {k i j:Nat} {x:Option Nat} {qi qj:Sl} (h:XE Γ e ρ m en s t1) (hT:Γ.ck[k]? = some T) (hij:(if i=j then false else true)=true) (h0:ρ[j]? = some qj) (hq:SlV t (eO eX x) qj) (ρ₂:Sl→Sl→List Sl) (hset:∀q r,(ρ.set j q).set i r=ρ₂ q r) (hid:∀r,ρ[i]? = some r→ρ=ρ₂ qj r) (hi:i<ρ.length) :
  SN Γ (.tryx k i j (.ex e)) ρ (Cm.tryE T x m) fun v ρ'=>∃q r,ρ'=ρ₂ q r∧SlV t (eO eX v) q:=by
 have hij:i≠j:=fun e=>by rw[if_pos e] at hij;cases hij
 unfold SN
 rw[Cm.run,trB,hT]
 cases m with
 |bad=>trivial
 |ok v =>
  obtain⟨er,e1,e2⟩:=h
  rw[e1]
  exact⟨ρ,rfl,qj,ρ[i],hid _ (List.getElem?_eq_getElem hi),hq⟩
 |exc c fs =>
  have h:ev Γ e ρ=_:=h
  rw[h]
  simp only[Cm.tryE,RE.bind_exc,trX,if_neg hij]
  cases hc:T c with
  |none=>trivial
  |some b =>
   cases b with
   |false=>exact rfl
   |true =>
    cases fs with
    |nil=>exact⟨_,rfl,_,_,hset _ _,_,rfl,fun _=>rfl⟩
    |cons _ _=>trivial
theorem SN.tryA {T:Nat→Option Bool} {k i j z:Nat} {x:Option Nat} {y:α} {qj qz:Sl} (h:XE Γ e ρ m en s t1) (hs:s.nb=true) (hT:Γ.ck[k]? = some T) (hij:(if i=j then false else true)=true) (h0:ρ[j]? = some qj) (hq:SlV t (eO eX x) qj) (h1:ρ[z]? = some qz) (hz:SlV t1 (en y) qz) (ρ₂:Sl→Sl→Sl→List Sl)
  (hset:∀q r,(ρ.set j q).set i r=ρ₂ q qz r) (hset2:∀r q,ρ[i]? = some r→ρ.set z q=ρ₂ qj q r) (hi:i<ρ.length) :
  SN Γ (.tryx k i j (.as z e)) ρ (Cm.tryA T x y m) fun v ρ'=>∃q r u,ρ'=ρ₂ q r u∧SlV t (eO eX v.1) q∧SlV t1 (en v.2) r:=by
 have hij:i≠j:=fun e=>by rw[if_pos e] at hij;cases hij
 unfold SN
 rw[Cm.run,trB,hT]
 cases m with
 |bad=>trivial
 |ok v =>
  obtain⟨er,e1,e2⟩:=h
  rw[e1]
  have h1:=e2.s
  have h2:=e2.d
  have h3:=e2.t
  cases er with
  |val d b=>simp only[RE.bind_ok,trX,Cm.tryA];exact⟨_,rfl,qj,_,_,hset2 _ _ (List.getElem?_eq_getElem hi),hq,b,by rw[←h2];rfl,h3⟩
  |fre d b=>simp only[RE.bind_ok,trX,Cm.tryA];exact⟨_,rfl,qj,_,_,hset2 _ _ (List.getElem?_eq_getElem hi),hq,b,by rw[←h2];rfl,h3⟩
  |brw d b=>cases s<;>simp_all[qiY,ER.isF,Sh.nb]
 |exc c fs =>
  have h:ev Γ e ρ=_:=h
  rw[h]
  simp only[Cm.tryA,RE.bind_exc,trX,if_neg hij]
  cases hc:T c with
  |none=>trivial
  |some b =>
   cases b with
   |false=>exact rfl
   |true =>
    cases fs with
    |nil=>exact⟨_,rfl,_,qz,_,hset _ _,⟨_,rfl,fun _=>rfl⟩,hz⟩
    |cons _ _=>trivial
def qu5 (T:Nat→Option Bool):Option Nat→RE Bool
 |some c=>match T c with
  |some b=>.ok b
  |none=>.bad
 |none=>.bad
theorem XE.isc {T:Nat→Option Bool} {k:Nat} {x:Option Nat} (h:XE Γ a ρ (.ok x) (eO eX) s t) (hT:Γ.ck[k]? = some T):XE Γ (.isc a k) ρ (qu5 T x) eB .v true:=by
 obtain⟨er,e1,e2⟩:=h
 unfold XE;rw[ev,e1]
 simp only[RE.bind_ok]
 rw[e2.d,hT]
 cases x with
 |none=>trivial
 |some c =>
  show XR (match T c with
   |some b=>ok (.bl b)
   |none=>.bad) (match T c with
   |some b=>.ok b
   |none=>.bad) _
  cases T c with
  |none=>trivial
  |some b=>exact xok rfl
def qrR (Ts:List (Option (Nat→Option Bool))):Option Nat→RE Bool
 |some c=>match qqc Ts c with
  |some b=>.ok b
  |none=>.bad
 |none=>.bad
theorem XE.iscT {Ts:List (Option (Nat→Option Bool))} {ks:List Nat} {x:Option Nat} (h:XE Γ a ρ (.ok x) (eO eX) s t) (hT:(ks.map fun k=>Γ.ck[k]?)=Ts):XE Γ (.iscT a ks) ρ (qrR Ts x) eB .v true:=by
 obtain⟨er,e1,e2⟩:=h
 unfold XE;rw[ev,e1]
 simp only[RE.bind_ok]
 rw[e2.d,hT]
 cases x with
 |none=>trivial
 |some c =>
  show XR (match qqc Ts c with
   |some b=>ok (.bl b)
   |none=>.bad) (match qqc Ts c with
   |some b=>.ok b
   |none=>.bad) _
  cases qqc Ts c with
  |none=>trivial
  |some b=>exact xok rfl
def quU (T:Nat→Option Bool) (cl:α→Nat) (x:α):RE Bool:=match T (cl x) with
 |some b=>.ok b
 |none=>.bad
theorem XE.isik {T:Nat→Option Bool} {k:Nat} {x:α} {cl:α→Nat} {fs:α→List D} (h:XE Γ a ρ (.ok x) en s t) (hI:∀v,en v=.ins (cl v) (fs v)) (hT:Γ.ik[k]? = some T):XE Γ (.isc a k) ρ (quU T cl x) eB .v true:=by
 obtain⟨er,e1,e2⟩:=h
 unfold XE;rw[ev,e1]
 simp only[RE.bind_ok]
 rw[e2.d,hT,hI]
 show XR (match T (cl x) with
   |some b=>ok (.bl b)
   |none=>.bad) (match T (cl x) with
   |some b=>.ok b
   |none=>.bad) _
 cases T (cl x) with
 |none=>trivial
 |some b=>exact xok rfl
def qwr (n:Int):RE (List Int):=gd (qmE n) (.ok (qfN 0 1 n.toNat).reverse)
theorem qpj (n:Nat):qfN (0+(n:Int) - 1) (-1) n=(qfN 0 1 n).reverse:=by
 apply List.ext_getElem
 ·simp[qfN]
 ·intro i h1 h2
  simp[qfN] at h1 h2 ⊢
  omega
theorem XI.rvr {m1:RE Int} (h:XE Γ a ρ m1 eI s t):XI Γ (.rvr a) ρ (m1.bind qwr) eI true false:=by
 unfold XI;rw[evI]
 exact XR.bind h fun n er h1=>by
  rw[h1.d]
  show XR (gd (qmE n) _) (gd (qmE n) _) _
  cases qmE n
  ·trivial
  ·refine⟨_,rfl,?_,fun _=>rfl,fun _=>rfl⟩
   show(qfN (0+(((n - 0).toNat:Nat):Int) - 1) (-1) (n - 0).toNat).map D.int=_
   rw[Int.sub_zero,qpj]
end
inductive RK where
 |unlike | total | rising | seen | counted | joined | nosquare | ring
deriving DecidableEq
def RK.c:RK→Nat
 |.unlike=>0 | .total=>1 | .rising=>2 | .seen=>3 | .counted=>4 | .joined=>5 | .nosquare=>6 | .ring=>7
structure RuleT where
 k:RK
 ground:Int × Int × Int
 cells:List Int
 wanted:Int
 sign:Int
def qaF (r:RuleT):List D:=[eT3 eI eI eI r.ground,eL eI r.cells,eI r.wanted,eI r.sign]
def eRule (r:RuleT):D:=.ins r.k.c (qaF r)
inductive KK where
 |clue | only | place | pair | count | step | sums | ways | square | reach | turn
deriving DecidableEq
def KK.c:KK→Nat
 |.clue=>10 | .only=>11 | .place=>12 | .pair=>13 | .count=>14 | .step=>15 | .sums=>16 | .ways=>17 | .square=>18 | .reach=>19 | .turn=>20
def eKind (k:KK):D:=.ins k.c []
structure PuzT where
 ground:Int × Int × Int
 rules:List RuleT
 clues:List Int
def qvD (p:PuzT):List D:=[eT3 eI eI eI p.ground,eL eRule p.rules,eL eI p.clues]
def ePuz (p:PuzT):D:=.ins 25 (qvD p)
instance:Flat eRule:=⟨fun _=>rfl⟩
instance:Flat eKind:=⟨fun _=>rfl⟩
instance:Flat ePuz:=⟨fun _=>rfl⟩
section
variable {Γ:Env} {ρ:List Sl} {α:Type} {en:α→D} {e a:Ex} {s:Sh} {t t1:Bool} {m:RE α} {ss:Sms}
theorem SN.fset {f c:Nat} {fs:List D} {r:List Sl} (h:XE Γ e ρ m en s t) (hs:s.nb=true) (hS:qoV s t en) (h0:ρ=.slf c fs::r) (hr:qpy r=true) (hf:Γ.fi c f=some fs.length) (h9:Nat.ble fs.length 900=true):SN Γ (.fset f e) ρ m fun v ρ'=>ρ'=.slf c (fs++[en v])::r:=by
 unfold SN
 rw[Cm.run]
 cases m with
 |bad=>trivial
 |exc c fs=>have h:ev Γ e ρ=_:=h;rw[h];rfl
 |ok v =>
  obtain⟨er,e1,e2⟩:=h
  rw[e1]
  have h1:=e2.s
  have h2:=e2.d
  have h3:=e2.t
  have key:∀g:D→Out,heldF er g=g (en v):=fun g=>by
   cases er with
   |val d b =>
    have h2:d=en v:=h2
    subst h2
    have:(b||(en v).flat)=true:=by
     rcases hS with q | q | q
     ·have:b=true:=h3 q
      rw[this];rfl
     ·rw[q.2];simp
     ·rw[q.1] at h1;cases h1
    simp only[heldF,this,qdB]
   |fre d b =>
    have h2:D.lst d=en v:=h2
    have:(b||D.flats d)=true:=by
     rcases hS with q | q | q
     ·have:b=true:=h3 q
      rw[this];rfl
     ·rw[q.1] at h1;cases h1
     ·rw[q.2 v d h2.symm];simp
    simp only[heldF,this,qdB,h2]
   |brw d b=>cases s<;>simp_all[qiY,ER.isF,Sh.nb]
  simp only[RE.out_ok]
  rw[key]
  subst h0
  simp only[qpZ,hr,if_true,hf,h9,qdB]
  exact⟨_,rfl,rfl⟩
theorem Ini.run {c nf n k:Nat} {b:Sms} {as:List D} {mm:RE α} {fs:α→List D} (hn:as.length=n) (h:BN Γ b (.slf c []::(as.map (fun d=>Sl.val d d.flat)++List.replicate k .non)) mm fun v ρ'=>∃r,ρ'=.slf c (fs v)::r∧(fs v).length=nf) (he:∀v,mm=.ok v→en v=.ins c (fs v)):XR (qmy Γ c nf n k b as) mm fun v gs=>en v=.ins c gs:=by
 unfold qmy
 rw[if_pos hn]
 cases mm with
 |bad=>trivial
 |exc c fs=>have h:qak Γ b _=_:=h;rw[h];rfl
 |ok v =>
  obtain⟨ρ',e,r,e2,e3⟩:=h
  rw[e,e2]
  simp only[if_true,e3]
  exact⟨_,rfl,he v rfl⟩
end
instance:Flat (eTL eS):=⟨fun v=>by
 show D.flats (v.map eS)=true
 exact qgI v⟩
section
variable {Γ:Env} {ρ:List Sl} {a b:Ex} {s s1 s2:Sh} {t t1 t2:Bool}
def qvO (x:List Int):RE (List Int):=gd (Nat.ble x.length 4000&&Nat.ble (qsZ x).length 63) (.ok (qsZ x))
def qwv (y x:List Int):RE (List Int):=gd (leB x.length&&(leB y.length&&decide (∀n∈x,0≤n∧n<y.length))) (.ok (qtS y x))
def qxA {α:Type} (en:α→D) (os:List (List Int)) (v:α):RE α:=if qqq os (en v)=true then .ok v else .bad
def qwW (x:List Int):RE (List Int):=gd (leB x.length) (.ok x.reverse)
def qwS (T:List (List Nat)) (x:List Nat):RE Int:=match qvA x T with
 |some j=>.ok (j:Int)
 |none=>.bad
abbrev DTb:Type:=List (List Nat × Option (List (List Nat)))
def dtD (t:DTb):List (List Nat × Option D):=t.map fun p=>(p.1,p.2.map (eTL eS))
def qwt (t:DTb) (n:Bool) (x:List Nat):RE Bool:=match t.lookup x with
 |some o=>.ok (o.isSome == n)
 |none=>.bad
def qwQ (t:DTb) (x:List Nat):RE (List (List Nat)):=match t.lookup x with
 |some (some z)=>.ok z
 |_=>.bad
end
theorem XE.bad {Γ:Env} {ρ:List Sl} {α:Type} {en:α→D} {e:Ex} {s:Sh} {t:Bool}:XE Γ e ρ (RE.bad:RE α) en s t:=trivial
def qxZ {α:Type} (en:α→D) (m:List (Int × α)):List (Int × D):=m.map fun e=>(e.1,en e.2)
def SlM (t:Bool) (m:List (Int × D)) (s:Sl):Prop:=∃f,s=.dct m f∧(t=true→f=true)
theorem SlM.low {t:Bool} {m:List (Int × D)} {s:Sl} (h:SlM t m s):SlM false m s:=by
 obtain⟨f,e,_⟩:=h
 exact⟨f,e,fun e=>nomatch e⟩
def qla {α:Type} (m:List (Int × α)) (k:Int):RE α:=match qfs k m with
 |some x=>.ok x
 |none=>.bad
def qmG {α:Type} (m:List (Int × α)) (k:Int) (x:α):RE (List (Int × α)):=gd (leB (m.length+1)) (.ok (qoN k x m))
section
variable {Γ:Env} {ρ:List Sl} {α:Type} {en:α→D} {e b ix:Ex} {s s2:Sh} {t t1 t2:Bool} {q0:Sl} {m:List (Int × α)} {i:Nat}
def qwI (xs:List α) (_:α):RE Unit:=gd (leB (xs.length+1)) (.ok ())
end
section
variable {Γ:Env} {ρ:List Sl} {α β γ:Type} {en:α→D} {en2:β→D} {en3:γ→D} {t t1 t2 s1t:Bool} {s1:Sh} {es:Exs} {w:Ex}
def qvQ {α:Type} (ks:List (List Nat)) (vs:List α) (s:List Nat):RE α:=match ks,vs with
 |k::ks,v::vs=>if k=s then .ok v else qvQ ks vs s
 |_,_=>.bad
def qrm (s:List Nat):RE (List Nat):=gd (Nat.ble s.length 5592405) (.ok (upT s))
theorem XE.upr {m:RE (List Nat)} (h:XE Γ w ρ m eS s1 t1):XE Γ (.upr w) ρ (m.bind qrm) eS .v true:=by
 unfold XE;rw[ev]
 exact XR.bind h fun s er h=>by
  rw[h.d]
  show XR (gd (Nat.ble s.length 5592405) (ok (.str (upT s)))) (qrm s) _
  unfold qrm
  cases Nat.ble s.length 5592405 with
  |false=>trivial
  |true=>exact xok rfl
theorem XE.uprP {x:List Nat} (h:XE Γ w ρ (.ok x) eS s1 t1):XE Γ (.upr w) ρ (qrm x) eS .v true:=XE.upr h
theorem XE.isikG {T:Nat→Option Bool} {k:Nat} {m:RE α} {cl:α→Nat} {fs:α→List D} (h:XE Γ w ρ m en s1 t) (hI:∀v,en v=.ins (cl v) (fs v)) (hT:Γ.ik[k]? = some T):XE Γ (.isc w k) ρ (m.bind (quU T cl)) eB .v true:=by
 cases m with
 |bad=>trivial
 |ok x=>exact XE.isik h hI hT
 |exc c fs=>have h:ev Γ w ρ=_:=h;unfold XE;rw[ev,h];rfl
end
end Cm
set_option maxHeartbeats 2000000
namespace Cm
open PySem PySem.Spec PyProof.Rows L2
def SlW {α:Type} (en:α→D) (v:List (List α)) (s:Sl):Prop:=s=.row (v.map (List.map en))
def pkM {α:Type}:RE α→RE α
 |.exc c fs=>if D.flats fs=true then .exc c fs else .bad
 |m=>m
@[simp] theorem qwh {α:Type} (x:α):pkM (.ok x)=.ok x:=rfl
theorem qlT {α:Type} {en:α→D} (h:∀v,(en v).flat=true):∀xs:List α,D.flats (xs.map en)=true
 |[]=>rfl
 |x::xs=>by
  show((en x).flat&&D.flats (xs.map en))=true
  rw[h x,qlT h xs];rfl
def qxw {α:Type} (v:List (List α)) (k:Nat) (x:α):RE (List (List α)):=match v[k]? with
 |some xs=>gd (leB (xs.length+1)) (.ok (v.set k (xs++[x])))
 |none=>.bad
def qxo {α:Type} (v:List (List α)) (k:Nat):RE (List (List α)):=match v[k]? with
 |some _=>.ok (v.set k [])
 |none=>.bad
def qwH {α:Type} (v:List (List α)) (k:Nat) (m:Int) (x:α):RE (List (List α)):=match v[k]? with
 |some xs=>match ixN xs.length m with
  |some j=>.ok (v.set k (xs.set j x))
  |none=>.bad
 |none=>.bad
section
variable {Γ:Env} {ρ:List Sl} {α β τ:Type} {en:α→D} {e ix:Ex} {es:Exs} {s s2:Sh} {t t1 t2:Bool} {q0:Sl} {i k:Nat} {v:List (List α)}
abbrev XEF (Γ:Env) (es:Exs) (ρ:List Sl) (m:RE (List (List α))) (en:α→D):Prop:=XR (evF Γ es ρ) m fun v dss=>dss=v.map (List.map en)
theorem XEF.nil:XEF Γ .nil ρ (.ok []) en:=by unfold XEF;rw[evF];exact⟨_,rfl,rfl⟩
theorem XEF.cons {m1:RE (List α)} {m2:RE (List (List α))} (h:XE Γ e ρ m1 (eL en) .f t) (hf:∀v,(en v).flat=true) (hs:XEF Γ es ρ m2 en):XEF Γ (.cons e es) ρ (m1.bind fun x=>m2.bind fun r=>.ok (x::r)) en:=by
 unfold XEF;rw[evF]
 refine XR.bind h fun x er h1=>?_
 have k1:=h1.s
 have k2:=h1.d
 cases er with
 |val _ _=>cases k1
 |brw _ _=>cases k1
 |fre ds b =>
  have k2:D.lst ds=eL en x:=k2
  injection k2 with k2
  subst k2
  show XR (if D.flats (x.map en)=true then _ else _) _ _
  rw[if_pos (qlT hf x)]
  exact XR.bind hs fun r dss e=>⟨_,rfl,by rw[e];rfl⟩
theorem SN.row {m:RE (List (List α))} (ρ₂:Sl→List Sl) (h:XEF Γ es ρ m en) (hset:∀q,ρ.set i q=ρ₂ q) :
  SN Γ (.row i es) ρ (m.bind fun v=>gd (leB v.length) (.ok v)) fun v ρ'=>∃q,ρ'=ρ₂ q∧SlW en v q:=by
 unfold SN
 rw[Cm.run]
 cases m with
 |bad=>trivial
 |exc c fs=>have h:evF Γ _ ρ=_:=h;rw[h];rfl
 |ok v =>
  obtain⟨dss,e1,rfl⟩:=h
  rw[e1]
  have hl:(v.map (List.map en)).length=v.length:=List.length_map _
  simp only[RE.out_ok,RE.bind_ok,hl]
  cases leB v.length with
  |false=>trivial
  |true=>exact⟨_,rfl,_,hset _,rfl⟩
end
section
variable {Γ:Env} {ρ:List Sl} {α:Type} {en:α→D} {a:Ex} {s1:Sh} {t:Bool}
end
def qwM (s:List Nat) (k:Int):RE (List Nat):=gd (qs2 s.length k&&(Nat.ble 1 k.toNat&&Nat.ble 1 s.length)) (.ok (List.replicate k.toNat s).flatten)
end Cm
namespace Cm
open PySem PySem.Spec PyProof.Rows L2
def qmj {α β:Type} (c:α→RE Bool) (f:α→RE β):List α→RE (List β)
 |[]=>.ok []
 |x::xs=>(c x).bind fun k=>if k=true then (f x).bind fun y=>(qmj c f xs).bind fun ys=>.ok (y::ys) else qmj c f xs
section
variable {Γ:Env} {ρ:List Sl} {α β:Type} {en:α→D} {en2:β→D} {e:Ex} {s:Sh} {t t1:Bool}
theorem qqx {cc:α→RE Bool} {ff:α→RE β} {F:D→RE (Option (D × Bool))} {t:Bool}:∀{xs:List α},(∀x∈xs,XR (F (en x)) ((cc x).bind fun k=>if k=true then (ff x).bind fun y=>.ok (some y) else .ok none) fun v r=>match v with
  |none=>r=none
  |some y=>∃f,r=some (en2 y,f)∧(t=true→f=true))→XR (lcl F (xs.map en)) (qmj cc ff xs) fun ys r=>r.1=ys.map en2∧(t=true→r.2=true)
 |[],_=>⟨_,rfl,rfl,fun _=>rfl⟩
 |x::xs,h=>by
  have ih:=qqx (F:=F) (xs:=xs) fun y hy=>h y (List.mem_cons_of_mem _ hy)
  have h0:=h x (by simp)
  simp only[List.map_cons,lcl,qmj]
  cases hc:cc x with
  |bad=>trivial
  |exc c fs =>
   rw[hc] at h0
   have h0:F (en x)=_:=h0
   rw[h0];rfl
  |ok k =>
   rw[hc] at h0
   simp only[RE.bind_ok] at h0 ⊢
   cases k with
   |false =>
    simp only[Bool.false_eq_true,if_false] at h0 ⊢
    obtain⟨r,e1,e2⟩:=h0
    cases e2
    rw[e1]
    simp only[RE.bind_ok]
    cases hl:qmj cc ff xs with
    |bad=>trivial
    |ok ys=>rw[hl] at ih;obtain⟨q,e3,e4⟩:=ih;rw[e3];exact⟨_,rfl,e4⟩
    |exc c fs=>rw[hl] at ih;have ih:lcl F (xs.map en)=_:=ih;rw[ih];rfl
   |true =>
    simp only[if_true] at h0 ⊢
    cases hf:ff x with
    |bad=>trivial
    |exc c fs =>
     rw[hf] at h0
     have h0:F (en x)=_:=h0
     rw[h0];rfl
    |ok y =>
     rw[hf] at h0
     obtain⟨r,e1,f,e2,e2'⟩:=h0
     subst e2
     rw[e1]
     simp only[RE.bind_ok]
     cases hl:qmj cc ff xs with
     |bad=>trivial
     |ok ys =>
      rw[hl] at ih
      obtain⟨q,e3,e4,e5⟩:=ih
      rw[e3]
      refine⟨_,rfl,by simp[e4],fun z=>?_⟩
      show(f&&q.2)=true
      rw[e2' z,e5 z];rfl
     |exc c fs=>rw[hl] at ih;have ih:lcl F (xs.map en)=_:=ih;rw[ih];rfl
theorem qpD {cnd:Tes} {e:Ex} {ρ':List Sl} {mc:RE Bool} {mf:RE β} (hc:XTs Γ true cnd ρ' mc) (hf:mc=.ok true→XE Γ e ρ' mf en2 s t) (hs:s.nb=true):XR ((qg8 Γ true cnd ρ').bind fun k=>if k=true then (ev Γ e ρ').bind fun y=>match y with
    |.brw _ _=>.bad
    |y=>.ok (some (y.d,y.b)) else .ok none) (mc.bind fun k=>if k=true then mf.bind fun y=>.ok (some y) else .ok none) fun v r=>match v with
  |none=>r=none
  |some y=>∃f,r=some (en2 y,f)∧(t=true→f=true):=by
 cases mc with
 |bad=>trivial
 |exc c fs =>
  have hc:qg8 Γ true cnd ρ'=_:=hc
  rw[hc];rfl
 |ok k =>
  obtain⟨x,e1,e2⟩:=hc
  subst e2
  rw[e1]
  cases x with
  |false=>exact⟨_,rfl,rfl⟩
  |true =>
   have hf:=hf rfl
   simp only[RE.bind_ok,if_true]
   cases mf with
   |bad=>trivial
   |exc c fs =>
    have hf:ev Γ e ρ'=_:=hf
    rw[hf];rfl
   |ok y =>
    obtain⟨er,e3,e4⟩:=hf
    rw[e3]
    simp only[RE.bind_ok]
    have hsh:=e4.s
    cases er with
    |brw ds b=>cases s<;>simp_all[qiY,ER.isF,Sh.nb]
    |val d b=>exact⟨_,rfl,_,by rw[←e4.d],e4.t⟩
    |fre d b=>exact⟨_,rfl,_,by rw[←e4.d],e4.t⟩
theorem XE.lcx {own:List Nat} {it:Itx} {i:Nat} {cnd:Tes} {m1:RE (List α)} {o t0:Bool} {mc:α→RE Bool} {mf:α→RE β} (ρ₂:Sl→List Sl) (hi:XI Γ it ρ m1 en t1 o) (ht:t0=true→t1=true∨Flat en) (hset:∀q,(wipeS ρ own).set i q=ρ₂ q)
  (hc:∀x q,SlV t0 (en x) q→XTs Γ true cnd (ρ₂ q) (mc x)) (hf:∀x q,SlV t0 (en x) q→mc x=.ok true→XE Γ e (ρ₂ q) (mf x) en2 s t) (hs:s.nb=true) :
  XE Γ (.lcx own it [i] cnd e) ρ (m1.bind fun xs=>gd (leB xs.length) (qmj mc mf xs)) (eL en2) .f t:=by
 unfold XE;rw[ev]
 refine XR.bind hi fun xs w hw=>?_
 obtain⟨w1,w2,_⟩:=hw
 rw[w1,List.length_map]
 cases hl:leB xs.length with
 |false=>trivial
 |true =>
  simp only[qky]
  have e:qmj mc mf xs=(qmj mc mf xs).bind fun k=>.ok k:=by cases qmj mc mf xs<;>rfl
  rw[e]
  refine XR.bind (qqx (t:=t) (en2:=en2) fun x _=>?_) fun ys r hr=>qqR (by rw[hr.1];rfl) hr.2
  simp only[qcx,hset]
  have hq:SlV t0 (en x) (.val (en x) (w.b||(en x).flat)):=⟨_,rfl,fun z=>by
   rcases ht z with q | q
   ·simp[w2 q]
   ·rw[q.flat];simp⟩
  exact qpD (hc x _ hq) (hf x _ hq) hs
end
end Cm
namespace Cm
open PySem PySem.Spec PyProof.Rows L2
def qxL {α:Type}:List α→RE (α × α × α)
 |[a,b,c]=>.ok (a,b,c)
 |_=>.bad
theorem SlO.new {ds:List D}:SlO true ds (.own ds true):=⟨true,rfl,fun _=>rfl⟩
end Cm
namespace Cm
def qaC:List (List Nat):=[[99,108,117,101],[111,110,108,121],[112,108,97,99,101],[99,111,117,110,116],[115,116,101,112],[115,117,109],[115,113,117,97,114,101],[114,101,97,99,104],[116,117,114,110],[112,97,105,114],[119,97,121,115]]
def qhl:DTb:=[([111,110,108,121],some [[117,110,108,105,107,101]]),([112,108,97,99,101],some [[117,110,108,105,107,101]]),([99,111,117,110,116],some [[99,111,117,110,116]]),([115,116,101,112],some [[114,105,115,105,110,103]]),([115,117,109],some [[115,117,109]]),([115,113,117,97,114,101],some [[110,111,115,113,117,97,114,101]]),([114,101,97,99,104],some [[106,111,105,110,101,100],[114,105,110,103]]),([116,117,114,110],some [[114,105,110,103]]),([112,97,105,114],some [[117,110,108,105,107,101]]),([99,108,117,101],none),([119,97,121,115],none)]
def F.are_numbers (aY:List D):RE Bool:=
 (((RE.ok aY).bind fun x3=>gd (leB x3.length) (lcE (fun(aJ:D)=>(((tyE (eD aJ) .int).bind fun x1=>RE.ok (!x1)).bind fun k2=>if k2=true then RE.ok true else (tyE (eD aJ) .bool))) (fun(aJ:D)=>(RE.ok aJ)) x3)).bind fun x4=>RE.ok (List.length x4:Int)).bind fun x5=>RE.ok (decide (x5=0))
def F.floor_of (aR:Int) (aZ:Int) (aA:Int):RE (Int × Int × Int):=
 ((RE.ok (!(decide (1≤aR)&&decide (aR≤6)))).bind fun k4=>if k4=true then RE.ok true else ((RE.ok (!(decide (1≤aZ)&&decide (aZ≤6)))).bind fun k3=>if k3=true then RE.ok true else ((qip aR aZ).bind fun x1=>RE.ok (decide (16<x1))))).bind fun k5=>if k5=true then (RE.exc 31 []) else ((RE.ok (!(decide (1≤aA)&&decide (aA≤6)))).bind fun k6=>if k6=true then (RE.exc 31 []) else (RE.ok (aR,aZ,aA)))
def F.many_cells (af:Int × Int × Int):RE Int:=
 qip af.1 af.2.1
def F.spot_of (af:Int × Int × Int) (ac:Int):RE (Int × Int):=
 (qsV ac af.2.1).bind fun x1=>(qjU ac af.2.1).bind fun x2=>RE.ok (x1,x2)
def F.beside (af:Int × Int × Int) (ac:Int):RE (List Int):=
 (RE.ok af).bind fun p1=>(F.spot_of af ac).bind fun p2=>(RE.ok ([]:List Int)).bind fun aj=>((RE.ok (decide (0<p2.1))).bind fun k3=>if k3=true then ((qeA aj (ac - p1.2.1)).bind fun aj=>RE.ok aj) else (RE.ok aj)).bind fun(p4:List Int)=>((RE.ok (decide (0<p2.2))).bind fun k5=>if k5=true then ((qeA p4 (ac - 1)).bind fun aj=>RE.ok aj) else (RE.ok p4)).bind fun(p6:List Int)=>((RE.ok (decide (p2.2<(p1.2.1 - 1)))).bind fun k7=>if k7=true then ((qeA p6 (ac+1)).bind fun aj=>RE.ok aj) else (RE.ok p6)).bind fun(p8:List Int)=>((RE.ok (decide (p2.1<(p1.1 - 1)))).bind fun k9=>if k9=true then ((qeA p8 (ac+p1.2.1)).bind fun aj=>RE.ok aj) else (RE.ok p8)).bind fun(p10:List Int)=>RE.ok p10
def F.squares (af:Int × Int × Int):RE (List (List Int)):=
 (RE.ok af).bind fun p1=>(RE.ok ([]:List (List Int))).bind fun aj=>(((F.many_cells af).bind qbD).bind fun y10=>qam (fun(ac:Int) (s5:List (List Int))=>(F.spot_of af ac).bind fun p6=>((RE.ok ((decide (p6.1<(p1.1 - 1)))&&(decide (p6.2<(p1.2.1 - 1))))).bind fun k7=>if k7=true then ((qeA s5 ([ac,ac+1,ac+p1.2.1,(ac+p1.2.1)+1])).bind fun aj=>RE.ok aj) else (RE.ok s5)).bind fun(p8:List (List Int))=>RE.ok p8) y10 aj).bind fun(p9:List (List Int))=>RE.ok p9
def F.reached (af:Int × Int × Int) (ao:List Int) (bB:Int):RE (List Int):=
 (RE.ok (!decide (bB∈ao))).bind fun k1=>if k1=true then (RE.ok []) else ((RE.ok ([bB]:List Int)).bind fun aj=>(RE.ok (0:Int)).bind fun aC=>(qtt (fun(s10:(List Int) × Int)=>(RE.ok (decide (s10.2<(List.length s10.1:Int))))) (fun(s10:(List Int) × Int)=>(((RE.ok af).bind fun x11=>(atE s10.1 s10.2).bind fun x12=>F.beside x11 x12).bind fun y18=>qam (fun(ac:Int) (s14:List Int)=>((RE.ok ((decide (ac∈ao))&&(!decide (ac∈s14)))).bind fun k15=>if k15=true then ((qeA s14 ac).bind fun aj=>RE.ok aj) else (RE.ok s14)).bind fun(p16:List Int)=>RE.ok p16) y18 s10.1).bind fun(p17:List Int)=>(RE.ok (s10.2+1:Int)).bind fun aC=>RE.ok (p17,aC)) qtW (aj,aC)).bind fun(p19:(List Int) × Int)=>RE.ok (qe9 p19.1))
def F.bit (ak:Int):RE Int:=
 qvo 1 (ak - 1)
def F.stands (aV:Int) (ak:Int):RE Bool:=
 ((F.bit ak).bind fun x2=>RE.ok (PySem.Builtin.bitAnd aV x2)).bind fun x3=>RE.ok (!decide (x3=0))
def F.has_only (aV:Int) (ak:Int):RE Bool:=
 ((F.bit ak).bind fun x2=>RE.ok (PySem.Builtin.bitOr aV x2)).bind fun x3=>(F.bit ak).bind fun x4=>RE.ok (decide (x3=x4))
def F.signs_in (aV:Int):RE (List Int):=
 (qiy 1 ((PySem.Builtin.Int.intBits aV:Int)+1)).bind fun x1=>gd (leB x1.length) (lcE (fun(ak:Int)=>(F.stands aV ak)) (fun(ak:Int)=>(RE.ok ak)) x1)
def F.Clue_word (ab:KK):RE (List Nat):=
 RE.ok ([99,108,117,101])
def F.Clue_fits (ab:KK) (ae:PuzT) (am:Option RuleT) (ah:List Nat × Int × Int × Int × (List Int)):RE Bool:=
 RE.ok ((decide (ah.2.1=0))&&(decide (ah.2.2.2.2=[])))
def F.Only_word (ab:KK):RE (List Nat):=
 RE.ok ([111,110,108,121])
def F.Only_strikes (ab:KK) (ae:PuzT) (ai:List Int) (am:Option RuleT) (ah:List Nat × Int × Int × Int × (List Int)):RE Bool:=
 ((RE.ok ai).bind fun x1=>(atE ah.2.2.2.2 0).bind fun x2=>atE x1 x2).bind fun x3=>(RE.ok ah.2.2.2.1).bind fun x4=>F.has_only x3 x4
def F.Place_word (ab:KK):RE (List Nat):=
 RE.ok ([112,108,97,99,101])
def F.Pair_word (ab:KK):RE (List Nat):=
 RE.ok ([112,97,105,114])
def F.Pair_strikes (ab:KK) (ae:PuzT) (ai:List Int) (am:Option RuleT) (ah:List Nat × Int × Int × Int × (List Int)):RE Bool:=
 ((((RE.ok ai).bind fun x1=>(atE ah.2.2.2.2 0).bind fun x2=>atE x1 x2).bind fun x5=>((RE.ok ai).bind fun x3=>(atE ah.2.2.2.2 1).bind fun x4=>atE x3 x4).bind fun x6=>RE.ok (PySem.Builtin.bitOr x5 x6)).bind fun x7=>F.signs_in x7).bind fun aA=>(((RE.ok aA).bind fun x8=>gd (leB x8.length) (RE.ok (List.filter (fun(ak:Int)=>!decide (ak=ah.2.2.2.1)) x8))).bind fun x9=>RE.ok (List.length x9:Int)).bind fun x10=>RE.ok (decide (x10≤1))
def F.Count_word (ab:KK):RE (List Nat):=
 RE.ok ([99,111,117,110,116])
def F.Step_word (ab:KK):RE (List Nat):=
 RE.ok ([115,116,101,112])
def F.Sums_word (ab:KK):RE (List Nat):=
 RE.ok ([115,117,109])
def F.Ways_word (ab:KK):RE (List Nat):=
 RE.ok ([119,97,121,115])
def F.may_have (ai:List Int) (ak:Int):RE (List Int):=
 (qbD (List.length ai:Int)).bind fun x3=>gd (leB x3.length) (lcE (fun(ac:Int)=>((atE ai ac).bind fun x1=>(RE.ok ak).bind fun x2=>F.stands x1 x2)) (fun(ac:Int)=>(RE.ok ac)) x3)
def F.Square_word (ab:KK):RE (List Nat):=
 RE.ok ([115,113,117,97,114,101])
def F.Reach_word (ab:KK):RE (List Nat):=
 RE.ok ([114,101,97,99,104])
def F.Turn_word (ab:KK):RE (List Nat):=
 RE.ok ([116,117,114,110])
def F.all_kinds  : RE (List KK):=
 (RE.ok ([KK.clue,KK.only,KK.place]:List KK)).bind fun bn=>qgr bn ([KK.count,KK.step,KK.sums,KK.square,KK.reach,KK.turn,KK.pair,KK.ways])
def F.m_word (r:KK)  : RE (List Nat):=match r with
 |.clue=>F.Clue_word r
 |.only=>F.Only_word r
 |.place=>F.Place_word r
 |.pair=>F.Pair_word r
 |.count=>F.Count_word r
 |.step=>F.Step_word r
 |.sums=>F.Sums_word r
 |.ways=>F.Ways_word r
 |.square=>F.Square_word r
 |.reach=>F.Reach_word r
 |.turn=>F.Turn_word r
def F.kind_of (ax:List Nat):RE (Option KK):=
 Fl.bR (F.all_kinds.bind fun y10=>qbL (fun(aL:KK) (s4:Unit)=>(((F.m_word aL).bind fun x5=>RE.ok (decide (x5=ax))).bind fun k7=>if k7=true then (RE.ok (.rt (some aL))) else (RE.ok (.nx ())):RE (Fl (Option KK) (Unit)))) y10 ()) fun(p9:Unit)=>RE.ok (none:Option KK)
def F.is_filling (af:Int × Int × Int) (a9:List Int):RE Bool:=
 ((F.many_cells af).bind fun x2=>RE.ok (!decide ((List.length a9:Int)=x2))).bind fun k3=>if k3=true then (RE.ok false) else (((RE.ok a9).bind fun x4=>gd (leB x4.length) (RE.ok (List.map (fun(ak:Int)=>(decide (0≤ak)&&decide (ak≤af.2.2))) x4))).bind fun x5=>RE.ok (List.all x5 id))
def F.Rule_spots (ab:RuleT):RE (List Int):=
 RE.ok ab.cells
def F.Rule_number (ab:RuleT):RE Int:=
 RE.ok ab.wanted
def F.Rule_sign (ab:RuleT):RE Int:=
 RE.ok ab.sign
def F.Rule_told_numbers (ab:RuleT):RE (List Int):=
 RE.ok ab.cells
def F.Unlike_name (ab:RuleT):RE (List Nat):=
 RE.ok ([117,110,108,105,107,101])
def F.Unlike_holds (ab:RuleT) (a9:List Int):RE Bool:=
 (((RE.ok ab.cells).bind fun x1=>gd (leB x1.length) (lcE (fun(ac:Int)=>(RE.ok true)) (fun(ac:Int)=>(atE a9 ac)) x1)).bind qio).bind fun x2=>RE.ok (decide (x2=(List.length ab.cells:Int)))
def F.Total_name (ab:RuleT):RE (List Nat):=
 RE.ok ([115,117,109])
def F.Total_holds (ab:RuleT) (a9:List Int):RE Bool:=
 (((RE.ok ab.cells).bind fun x1=>gd (leB x1.length) (lcE (fun(ac:Int)=>(RE.ok true)) (fun(ac:Int)=>(atE a9 ac)) x1)).bind fun x2=>RE.ok (List.sum x2)).bind fun x3=>RE.ok (decide (x3=ab.wanted))
def F.Total_told_numbers (ab:RuleT):RE (List Int):=
 qgr [ab.wanted] ab.cells
def F.Rising_name (ab:RuleT):RE (List Nat):=
 RE.ok ([114,105,115,105,110,103])
def F.Rising_holds (ab:RuleT) (a9:List Int):RE Bool:=
 Fl.bR ((RE.ok (List.zip ab.cells (qdu ab.cells (some 1) none))).bind fun y11=>qbL (fun(p5:Int × Int) (s4:Unit)=>(((atE a9 p5.1).bind fun x6=>(atE a9 p5.2).bind fun x7=>RE.ok (decide (x7≤x6))).bind fun k8=>if k8=true then (RE.ok (.rt false)) else (RE.ok (.nx ())):RE (Fl (Bool) (Unit)))) y11 ()) fun(p10:Unit)=>RE.ok true
def F.Seen_name (ab:RuleT):RE (List Nat):=
 RE.ok ([115,101,101,110])
def F.Seen_holds (ab:RuleT) (a9:List Int):RE Bool:=
 (RE.ok (0:Int)).bind fun aF=>(RE.ok (0:Int)).bind fun b7=>((RE.ok ab.cells).bind fun y10=>qam (fun(ac:Int) (s4:Int × Int)=>(((atE a9 ac).bind fun x5=>RE.ok (decide (s4.2<x5))).bind fun k7=>if k7=true then ((RE.ok (s4.1+1:Int)).bind fun aF=>(atE a9 ac).bind fun b7=>RE.ok (aF,b7)) else (RE.ok (s4.1,s4.2))).bind fun(p8:Int × Int)=>RE.ok (p8.1,p8.2)) y10 (aF,b7)).bind fun(p9:Int × Int)=>RE.ok (decide (p9.1=ab.wanted))
def F.Seen_told_numbers (ab:RuleT):RE (List Int):=
 qgr [ab.wanted] ab.cells
def F.Counted_name (ab:RuleT):RE (List Nat):=
 RE.ok ([99,111,117,110,116])
def F.Counted_holds (ab:RuleT) (a9:List Int):RE Bool:=
 (((RE.ok ab.cells).bind fun x3=>gd (leB x3.length) (lcE (fun(ac:Int)=>((atE a9 ac).bind fun x1=>RE.ok (decide (x1=ab.sign)))) (fun(ac:Int)=>(RE.ok ac)) x3)).bind fun x4=>RE.ok (List.length x4:Int)).bind fun x5=>RE.ok (decide (x5=ab.wanted))
def F.Counted_told_numbers (ab:RuleT):RE (List Int):=
 qgr ([ab.wanted,ab.sign]) ab.cells
def F.cells_with (am:RuleT) (a9:List Int):RE (List Int):=
 (F.Rule_spots am).bind fun x3=>gd (leB x3.length) (lcE (fun(ac:Int)=>((atE a9 ac).bind fun x1=>(F.Rule_sign am).bind fun x2=>RE.ok (decide (x1=x2)))) (fun(ac:Int)=>(RE.ok ac)) x3)
def F.are_joined (af:Int × Int × Int) (ao:List Int):RE Bool:=
 (RE.ok (decide (ao=[]))).bind fun k7=>if k7=true then RE.ok true else ((((RE.ok af).bind fun x1=>(RE.ok ao).bind fun x2=>(atE ao 0).bind fun x3=>F.reached x1 x2 x3).bind fun x4=>RE.ok (List.length x4:Int)).bind fun x5=>RE.ok (decide (x5=(List.length ao:Int))))
def F.Joined_name (ab:RuleT):RE (List Nat):=
 RE.ok ([106,111,105,110,101,100])
def F.Joined_holds (ab:RuleT) (a9:List Int):RE Bool:=
 (RE.ok ab.ground).bind fun x1=>(F.cells_with ab a9).bind fun x2=>F.are_joined x1 x2
def F.Joined_told_numbers (ab:RuleT):RE (List Int):=
 RE.ok [ab.sign]
def F.NoSquare_name (ab:RuleT):RE (List Nat):=
 RE.ok ([110,111,115,113,117,97,114,101])
def F.NoSquare_holds (ab:RuleT) (a9:List Int):RE Bool:=
 Fl.bR ((F.squares ab.ground).bind fun y18=>qbL (fun(bf:List Int) (s8:Unit)=>(((((RE.ok bf).bind fun x11=>gd (leB x11.length) (lcE (fun(ac:Int)=>((atE a9 ac).bind fun x9=>RE.ok (decide (x9=ab.sign)))) (fun(ac:Int)=>(RE.ok ac)) x11)).bind fun x12=>RE.ok (List.length x12:Int)).bind fun x13=>RE.ok (decide (x13=4))).bind fun k15=>if k15=true then (RE.ok (.rt false)) else (RE.ok (.nx ())):RE (Fl (Bool) (Unit)))) y18 ()) fun(p17:Unit)=>RE.ok true
def F.NoSquare_told_numbers (ab:RuleT):RE (List Int):=
 RE.ok [ab.sign]
def F.Ring_name (ab:RuleT):RE (List Nat):=
 RE.ok ([114,105,110,103])
def F.Ring_holds (ab:RuleT) (a9:List Int):RE Bool:=
 (F.cells_with ab a9).bind fun aj=>Fl.bR ((RE.ok aj).bind fun y14=>qbL (fun(ac:Int) (s6:Unit)=>(((((F.beside ab.ground ac).bind fun x7=>gd (leB x7.length) (RE.ok (List.filter (fun(aE:Int)=>decide (aE∈aj)) x7))).bind fun x8=>RE.ok (List.length x8:Int)).bind fun x9=>RE.ok (!decide (x9=2))).bind fun k11=>if k11=true then (RE.ok (.rt false)) else (RE.ok (.nx ())):RE (Fl (Bool) (Unit)))) y14 ()) fun(p13:Unit)=>F.are_joined ab.ground aj
def F.Ring_told_numbers (ab:RuleT):RE (List Int):=
 RE.ok [ab.sign]
def F.number_of (ax:List Nat):RE Int:=
 ((((RE.ok 1).bind fun x1=>(qfM ax).bind fun x2=>if decide (x1≤x2)=true then (RE.ok 2).bind fun x3=>RE.ok (decide (x2≤x3)) else RE.ok false).bind fun x4=>RE.ok (!x4)).bind fun k10=>if k10=true then RE.ok true else (((qoR ax 0).bind fun x5=>RE.ok (decide ([x5]=[48]))).bind fun k9=>if k9=true then ((qfM ax).bind fun x7=>RE.ok (decide (1<x7))) else RE.ok false)).bind fun k11=>if k11=true then (RE.exc 33 []) else (((RE.ok ax).bind fun y16=>qam (fun(ak:Nat) (s13:Unit)=>(RE.ok (!decide (ak∈([48,49,50,51,52,53,54,55,56,57])))).bind fun k14=>if k14=true then RE.exc 33 [] else (RE.ok ())) y16 ()).bind fun(p15:Unit)=>qnY ax)
def F.sign_told (af:Int × Int × Int) (au:List Int) (aC:Int):RE Int:=
 ((RE.ok (decide ((List.length au:Int)≤aC))).bind fun k5=>if k5=true then RE.ok true else (((RE.ok 1).bind fun x1=>(atE au aC).bind fun x2=>if decide (x1≤x2)=true then (RE.ok af.2.2).bind fun x3=>RE.ok (decide (x2≤x3)) else RE.ok false).bind fun x4=>RE.ok (!x4))).bind fun k6=>if k6=true then (RE.exc 33 []) else (atE au aC)
def F.cells_told (af:Int × Int × Int) (au:List Int):RE (List Int):=
 ((RE.ok (decide (au=[]))).bind fun k6=>if k6=true then RE.ok true else (((qio au).bind fun x1=>RE.ok (!decide (x1=(List.length au:Int)))).bind fun k5=>if k5=true then RE.ok true else ((qmm au).bind fun x3=>(F.many_cells af).bind fun x4=>RE.ok (decide (x4≤x3))))).bind fun k7=>if k7=true then (RE.exc 33 []) else (RE.ok au)
def F.whole_rule (af:Int × Int × Int) (ax:List Nat) (au:List Int):RE RuleT:=
 (RE.ok (!decide ((List.length au:Int)=1))).bind fun k1=>if k1=true then (RE.exc 33 []) else ((F.sign_told af au 0).bind fun ak=>((F.many_cells af).bind qbD).bind fun ao=>(RE.ok (decide (ax=([106,111,105,110,101,100])))).bind fun k3=>if k3=true then (RE.ok (RuleT.mk .joined af ao 0 ak)) else ((RE.ok (decide (ax=([110,111,115,113,117,97,114,101])))).bind fun k4=>if k4=true then (RE.ok (RuleT.mk .nosquare af ao 0 ak)) else (RE.ok (RuleT.mk .ring af ao 0 ak))))
def F.read_rule (af:Int × Int × Int) (aW:D):RE RuleT:=
 ((tyE (eD aW) .str).bind fun x1=>RE.ok (!x1)).bind fun k2=>if k2=true then (RE.exc 33 []) else (((dS aW).bind fun x3=>(RE.ok [32]).bind fun x4=>qhd x3 x4).bind fun aH=>(atE aH 0).bind fun ax=>(qn5 ax ([[117,110,108,105,107,101],[115,117,109],[114,105,115,105,110,103],[115,101,101,110],[99,111,117,110,116],[106,111,105,110,101,100],[110,111,115,113,117,97,114,101],[114,105,110,103]])).bind fun k5=>if k5=true then (RE.exc 33 []) else (((RE.ok (qdu aH (some 1) none)).bind fun x6=>gd (leB x6.length) (lcE (fun(aJ:List Nat)=>(RE.ok true)) (fun(aJ:List Nat)=>(F.number_of aJ)) x6)).bind fun au=>(qj7 ax ([[106,111,105,110,101,100],[110,111,115,113,117,97,114,101],[114,105,110,103]])).bind fun k7=>if k7=true then (F.whole_rule af ax au) else ((RE.ok (decide (ax=([117,110,108,105,107,101])))).bind fun k8=>if k8=true then ((RE.ok af).bind fun x9=>(F.cells_told af au).bind fun x10=>(RE.ok 0).bind fun x11=>(RE.ok 0).bind fun x12=>RE.ok (RuleT.mk .unlike x9 x10 x11 x12)) else ((RE.ok (decide (ax=([114,105,115,105,110,103])))).bind fun k13=>if k13=true then ((RE.ok af).bind fun x14=>(F.cells_told af au).bind fun x15=>(RE.ok 0).bind fun x16=>(RE.ok 0).bind fun x17=>RE.ok (RuleT.mk .rising x14 x15 x16 x17)) else ((RE.ok (decide (ax=([99,111,117,110,116])))).bind fun k18=>if k18=true then ((F.sign_told af au 1).bind fun ak=>(RE.ok af).bind fun x19=>(F.cells_told af (qdu au (some 2) none)).bind fun x20=>(atE au 0).bind fun x21=>(RE.ok ak).bind fun x22=>RE.ok (RuleT.mk .counted x19 x20 x21 x22)) else ((F.cells_told af (qdu au (some 1) none)).bind fun ao=>(RE.ok (decide (ax=([115,117,109])))).bind fun k23=>if k23=true then ((RE.ok af).bind fun x24=>(RE.ok ao).bind fun x25=>(atE au 0).bind fun x26=>(RE.ok 0).bind fun x27=>RE.ok (RuleT.mk .total x24 x25 x26 x27)) else ((RE.ok af).bind fun x28=>(RE.ok ao).bind fun x29=>(atE au 0).bind fun x30=>(RE.ok 0).bind fun x31=>RE.ok (RuleT.mk .seen x28 x29 x30 x31))))))))
def F.Puzzle_place (ab:PuzT):RE (Int × Int × Int):=
 RE.ok ab.ground
def F.Puzzle_many (ab:PuzT):RE Int:=
 F.many_cells ab.ground
def F.Puzzle_clues (ab:PuzT):RE (List Int):=
 RE.ok ab.clues
def F.Puzzle_rules (ab:PuzT):RE (List RuleT):=
 RE.ok ab.rules
def F.Puzzle_rule_at (ab:PuzT) (aG:Int):RE RuleT:=
 atE ab.rules aG
def F.Puzzle_many_rules (ab:PuzT):RE Int:=
 RE.ok (List.length ab.rules:Int)
def F.Puzzle_clue_at (ab:PuzT) (ac:Int):RE Int:=
 atE ab.clues ac
def F.m_holds (r:RuleT) (a0:List Int):RE Bool:=match r.k with
 |.unlike=>F.Unlike_holds r a0
 |.total=>F.Total_holds r a0
 |.rising=>F.Rising_holds r a0
 |.seen=>F.Seen_holds r a0
 |.counted=>F.Counted_holds r a0
 |.joined=>F.Joined_holds r a0
 |.nosquare=>F.NoSquare_holds r a0
 |.ring=>F.Ring_holds r a0
def F.Puzzle_meets (ab:PuzT) (a9:List Int):RE Bool:=
 (((F.is_filling ab.ground a9).bind fun x1=>RE.ok (!x1)).bind fun k2=>if k2=true then RE.ok true else (RE.ok (decide (0∈a9)))).bind fun k3=>if k3=true then (RE.ok false) else (Fl.bR ((RE.ok (List.zip ab.clues a9)).bind fun y12=>qbL (fun(p6:Int × Int) (s5:Unit)=>((RE.ok ((!decide (p6.1=0))&&(!decide (p6.1=p6.2)))).bind fun k7=>if k7=true then (RE.ok (.rt false)) else (RE.ok (.nx ())):RE (Fl (Bool) (Unit)))) y12 ()) fun(p9:Unit)=>((RE.ok ab.rules).bind fun x10=>gd (leB x10.length) (lcE (fun(am:RuleT)=>(RE.ok true)) (fun(am:RuleT)=>(F.m_holds am a9)) x10)).bind fun x11=>RE.ok (List.all x11 id))
def F.Puzzle_new (af:Int × Int × Int) (bn:List D) (aX:List Int):RE PuzT:=
 (RE.ok (!decide (3=3))).bind fun k1=>if k1=true then RE.exc 31 [] else ((F.floor_of af.1 af.2.1 af.2.2).bind fun w_ground=>(RE.ok (decide (12<(List.length bn:Int)))).bind fun k2=>if k2=true then RE.exc 34 [] else (((RE.ok bn).bind fun x3=>gd (leB x3.length) (lcE (fun(aW:D)=>(RE.ok true)) (fun(aW:D)=>(F.read_rule w_ground aW)) x3)).bind fun w_rule_list=>((F.is_filling w_ground aX).bind fun x4=>RE.ok (!x4)).bind fun k5=>if k5=true then RE.exc 34 [] else ((RE.ok aX).bind fun w_clue_list=>RE.ok (PuzT.mk w_ground w_rule_list w_clue_list))))
def F.others_of (am:RuleT) (ac:Int):RE (List Int):=
 (F.Rule_spots am).bind fun x1=>gd (leB x1.length) (RE.ok (List.filter (fun(aE:Int)=>!decide (aE=ac)) x1))
def F.are_others (am:RuleT) (ac:Int) (aY:List Int):RE Bool:=
 (F.others_of am ac).bind fun aU=>((((RE.ok aY).bind fun x1=>gd (leB x1.length) (RE.ok (List.filter (fun(aE:Int)=>!decide (aE∈aU)) x1))).bind fun x2=>RE.ok (List.length x2:Int)).bind fun x3=>RE.ok (decide (x3=0))).bind fun k7=>if k7=true then ((qio aY).bind fun x5=>RE.ok (decide (x5=(List.length aY:Int)))) else RE.ok false
def F.Clue_strikes (ab:KK) (ae:PuzT) (ai:List Int) (am:Option RuleT) (ah:List Nat × Int × Int × Int × (List Int)):RE Bool:=
 (F.Puzzle_clue_at ae ah.2.2.1).bind fun b6=>RE.ok ((!decide (b6=0))&&(!decide (b6=ah.2.2.2.1)))
def F.m_name (r:RuleT)  : RE (List Nat):=match r.k with
 |.unlike=>F.Unlike_name r
 |.total=>F.Total_name r
 |.rising=>F.Rising_name r
 |.seen=>F.Seen_name r
 |.counted=>F.Counted_name r
 |.joined=>F.Joined_name r
 |.nosquare=>F.NoSquare_name r
 |.ring=>F.Ring_name r
def F.is_unlike (am:Option RuleT) (ac:Int):RE Bool:=
 (RE.ok am.isSome).bind fun k8=>if k8=true then ((((unO am).bind fun x1=>F.m_name x1).bind fun x2=>RE.ok (decide (x2=([117,110,108,105,107,101])))).bind fun k7=>if k7=true then (((unO am).bind fun x4=>F.Rule_spots x4).bind fun x6=>RE.ok (decide (ac∈x6))) else RE.ok false) else RE.ok false
def F.Only_fits (ab:KK) (ae:PuzT) (am:Option RuleT) (ah:List Nat × Int × Int × Int × (List Int)):RE Bool:=
 (RE.ok (ah.2.2.2.2:List Int)).bind fun aP=>(F.is_unlike am ah.2.2.1).bind fun k5=>if k5=true then ((RE.ok (decide ((List.length aP:Int)=1))).bind fun k4=>if k4=true then ((unO am).bind fun x1=>(RE.ok ah.2.2.1).bind fun x2=>(RE.ok aP).bind fun x3=>F.are_others x1 x2 x3) else RE.ok false) else RE.ok false
def F.Place_fits (ab:KK) (ae:PuzT) (am:Option RuleT) (ah:List Nat × Int × Int × Int × (List Int)):RE Bool:=
 (RE.ok (ah.2.2.2.2:List Int)).bind fun aP=>((F.Puzzle_place ae).bind fun x1=>RE.ok x1.2.2).bind fun aA=>(((F.is_unlike am ah.2.2.1).bind fun x2=>RE.ok (!x2)).bind fun k8=>if k8=true then RE.ok true else (((((unO am).bind fun x3=>F.Rule_spots x3).bind fun x4=>RE.ok (List.length x4:Int)).bind fun x5=>RE.ok (!decide (x5=aA))).bind fun k7=>if k7=true then RE.ok true else (RE.ok (!decide ((List.length aP:Int)=1))))).bind fun k9=>if k9=true then (RE.ok false) else (((RE.ok 1).bind fun x10=>(atE aP 0).bind fun x11=>if decide (x10≤x11)=true then (RE.ok aA).bind fun x12=>RE.ok (decide (x11≤x12)) else RE.ok false).bind fun k15=>if k15=true then ((atE aP 0).bind fun x13=>RE.ok (!decide (x13=ah.2.2.2.1))) else RE.ok false)
def F.Place_strikes (ab:KK) (ae:PuzT) (ai:List Int) (am:Option RuleT) (ah:List Nat × Int × Int × Int × (List Int)):RE Bool:=
 Fl.bR (((unO am).bind fun x1=>(RE.ok ah.2.2.1).bind fun x2=>F.others_of x1 x2).bind fun y12=>qbL (fun(aE:Int) (s6:Unit)=>(((atE ai aE).bind fun x7=>(atE ah.2.2.2.2 0).bind fun x8=>F.stands x7 x8).bind fun k9=>if k9=true then (RE.ok (.rt false)) else (RE.ok (.nx ())):RE (Fl (Bool) (Unit)))) y12 ()) fun(p11:Unit)=>RE.ok true
def F.Pair_fits (ab:KK) (ae:PuzT) (am:Option RuleT) (ah:List Nat × Int × Int × Int × (List Int)):RE Bool:=
 (RE.ok (ah.2.2.2.2:List Int)).bind fun aP=>(((F.is_unlike am ah.2.2.1).bind fun x1=>RE.ok (!x1)).bind fun k7=>if k7=true then RE.ok true else ((RE.ok (!decide ((List.length aP:Int)=2))).bind fun k6=>if k6=true then RE.ok true else (((unO am).bind fun x2=>(RE.ok ah.2.2.1).bind fun x3=>(RE.ok aP).bind fun x4=>F.are_others x2 x3 x4).bind fun x5=>RE.ok (!x5)))).bind fun k8=>if k8=true then (RE.ok false) else (((unO am).bind fun x9=>F.Rule_spots x9).bind fun bg=>((RE.ok bg).bind fun x10=>(atE aP 0).bind fun x11=>qrp x10 x11).bind fun x14=>((RE.ok bg).bind fun x12=>(atE aP 1).bind fun x13=>qrp x12 x13).bind fun x15=>RE.ok (decide (x14<x15)))
def F.is_of (am:Option RuleT) (ax:List Nat) (ac:Int):RE Bool:=
 (RE.ok am.isSome).bind fun k8=>if k8=true then ((((unO am).bind fun x1=>F.m_name x1).bind fun x2=>RE.ok (decide (x2=ax))).bind fun k7=>if k7=true then (((unO am).bind fun x4=>F.Rule_spots x4).bind fun x6=>RE.ok (decide (ac∈x6))) else RE.ok false) else RE.ok false
def F.Count_fits (ab:KK) (ae:PuzT) (am:Option RuleT) (ah:List Nat × Int × Int × Int × (List Int)):RE Bool:=
 (RE.ok (decide (ah.2.2.2.2=[]))).bind fun k1=>if k1=true then (F.is_of am ([99,111,117,110,116]) ah.2.2.1) else RE.ok false
def F.Count_strikes (ab:KK) (ae:PuzT) (ai:List Int) (am:Option RuleT) (ah:List Nat × Int × Int × Int × (List Int)):RE Bool:=
 ((unO am).bind fun x1=>F.Rule_sign x1).bind fun ak=>((unO am).bind fun x2=>(RE.ok ah.2.2.1).bind fun x3=>F.others_of x2 x3).bind fun aU=>(RE.ok (decide (ah.2.2.2.1=ak))).bind fun k4=>if k4=true then ((((RE.ok aU).bind fun x7=>gd (leB x7.length) (lcE (fun(aE:Int)=>((atE ai aE).bind fun x5=>(RE.ok ak).bind fun x6=>F.has_only x5 x6)) (fun(aE:Int)=>(RE.ok aE)) x7)).bind fun x8=>RE.ok (List.length x8:Int)).bind fun x10=>((unO am).bind fun x9=>F.Rule_number x9).bind fun x11=>RE.ok (decide (x11≤x10))) else ((((RE.ok aU).bind fun x14=>gd (leB x14.length) (lcE (fun(aE:Int)=>((atE ai aE).bind fun x12=>(RE.ok ak).bind fun x13=>F.stands x12 x13)) (fun(aE:Int)=>(RE.ok aE)) x14)).bind fun x15=>RE.ok (List.length x15:Int)).bind fun x17=>((unO am).bind fun x16=>F.Rule_number x16).bind fun x18=>RE.ok (decide (x17<x18)))
def F.neighbours_of (am:RuleT) (ac:Int):RE ((Option Int) × (Option Int)):=
 (F.Rule_spots am).bind fun bg=>(qrp bg ac).bind fun aC=>(RE.ok (():Unit)).bind fun bC=>(RE.ok (():Unit)).bind fun bD=>((RE.ok (decide (0<aC))).bind fun k1=>if k1=true then ((atE bg (aC - 1)).bind fun bC=>RE.ok (some bC)) else (RE.ok (none:Option Int))).bind fun(p2:Option Int)=>((RE.ok (decide ((aC+1)<(List.length bg:Int)))).bind fun k3=>if k3=true then ((atE bg (aC+1)).bind fun bD=>RE.ok (some bD)) else (RE.ok (none:Option Int))).bind fun(p4:Option Int)=>RE.ok (p2,p4)
def F.Step_fits (ab:KK) (ae:PuzT) (am:Option RuleT) (ah:List Nat × Int × Int × Int × (List Int)):RE Bool:=
 (RE.ok (decide (ah.2.2.2.2=[]))).bind fun k1=>if k1=true then (F.is_of am ([114,105,115,105,110,103]) ah.2.2.1) else RE.ok false
def F.Step_strikes (ab:KK) (ae:PuzT) (ai:List Int) (am:Option RuleT) (ah:List Nat × Int × Int × Int × (List Int)):RE Bool:=
 ((unO am).bind fun x1=>(RE.ok ah.2.2.1).bind fun x2=>F.neighbours_of x1 x2).bind fun p3=>((RE.ok p3.1.isSome).bind fun k11=>if k11=true then (((((RE.ok ai).bind fun x4=>(unO p3.1).bind fun x5=>atE x4 x5).bind fun x6=>F.signs_in x6).bind fun x7=>(RE.ok ah.2.2.2.1).bind fun x8=>mmE false x7 x8).bind fun x9=>RE.ok (decide (ah.2.2.2.1≤x9))) else RE.ok false).bind fun k12=>if k12=true then (RE.ok true) else ((RE.ok p3.2.isSome).bind fun k20=>if k20=true then (((((RE.ok ai).bind fun x13=>(unO p3.2).bind fun x14=>atE x13 x14).bind fun x15=>F.signs_in x15).bind fun x16=>(RE.ok ah.2.2.2.1).bind fun x17=>mmE true x16 x17).bind fun x18=>RE.ok (decide (x18≤ah.2.2.2.1))) else RE.ok false)
def F.Sums_fits (ab:KK) (ae:PuzT) (am:Option RuleT) (ah:List Nat × Int × Int × Int × (List Int)):RE Bool:=
 (RE.ok (decide (ah.2.2.2.2=[]))).bind fun k1=>if k1=true then (F.is_of am ([115,117,109]) ah.2.2.1) else RE.ok false
def F.Sums_strikes (ab:KK) (ae:PuzT) (ai:List Int) (am:Option RuleT) (ah:List Nat × Int × Int × Int × (List Int)):RE Bool:=
 (RE.ok (ah.2.2.2.1:Int)).bind fun be=>(RE.ok (ah.2.2.2.1:Int)).bind fun aR=>Fl.bR (((unO am).bind fun x1=>(RE.ok ah.2.2.1).bind fun x2=>F.others_of x1 x2).bind fun y25=>qbL (fun(aE:Int) (s9:Int × Int)=>(((atE ai aE).bind fun x10=>F.signs_in x10).bind fun aA=>(RE.ok (decide (aA=[]))).bind fun k11=>if k11=true then (RE.ok (.rt true)) else (((atE aA 0).bind fun x14=>RE.ok (s9.1+x14)).bind fun be=>((atE aA (-1)).bind fun x16=>RE.ok (s9.2+x16)).bind fun aR=>RE.ok (.nx (be,aR))):RE (Fl (Bool) (Int × Int)))) y25 (be,aR)) fun(p17:Int × Int)=>(((unO am).bind fun x18=>F.Rule_number x18).bind fun x20=>RE.ok (decide (x20<p17.1))).bind fun k24=>if k24=true then RE.ok true else (((unO am).bind fun x21=>F.Rule_number x21).bind fun x23=>RE.ok (decide (p17.2<x23)))
def F.Ways_fits (ab:KK) (ae:PuzT) (am:Option RuleT) (ah:List Nat × Int × Int × Int × (List Int)):RE Bool:=
 (RE.ok (decide (ah.2.2.2.2=[]))).bind fun k5=>if k5=true then ((RE.ok am.isSome).bind fun k4=>if k4=true then (((unO am).bind fun x1=>F.Rule_spots x1).bind fun x3=>RE.ok (decide (ah.2.2.1∈x3))) else RE.ok false) else RE.ok false
def F.Ways_strikes (ab:KK) (ae:PuzT) (ai:List Int) (am:Option RuleT) (ah:List Nat × Int × Int × Int × (List Int)):RE Bool:=
 ((unO am).bind fun x1=>(RE.ok ah.2.2.1).bind fun x2=>F.others_of x1 x2).bind fun aU=>((RE.ok aU).bind fun x4=>gd (leB x4.length) (lcE (fun(aE:Int)=>(RE.ok true)) (fun(aE:Int)=>((atE ai aE).bind fun x3=>F.signs_in x3)) x4)).bind fun bE=>(RE.ok (1:Int)).bind fun aF=>((RE.ok bE).bind fun y43=>qam (fun(aA:List Int) (s5:Int)=>(qip s5 (List.length aA:Int)).bind fun aF=>RE.ok aF) y43 aF).bind fun(p6:Int)=>(RE.ok (decide (32<p6))).bind fun k7=>if k7=true then (RE.ok false) else (((qbD (List.length ai:Int)).bind fun x8=>gd (leB x8.length) (RE.ok (List.map (fun(ac:Int)=>0) x8))).bind fun a9=>(qoP a9 ah.2.2.1 ah.2.2.2.1).bind fun a9=>Fl.bR ((qbD p6).bind fun y42=>qbL (fun(aG:Int) (s24:List Int)=>(((RE.ok (List.zip aU bE)).bind fun y40=>qam (fun(p30:Int × (List Int)) (s29:(List Int) × Int)=>(((RE.ok p30.2).bind fun x31=>(qjU s29.2 (List.length p30.2:Int)).bind fun x32=>atE x31 x32).bind fun x33=>(RE.ok p30.1).bind fun x34=>qoP s29.1 x34 x33).bind fun a9=>(qsV s29.2 (List.length p30.2:Int)).bind fun aG=>RE.ok (a9,aG)) y40 (s24,aG)).bind fun(p35:(List Int) × Int)=>((unO am).bind fun x37=>(RE.ok p35.1).bind fun x36=>F.m_holds x37 x36).bind fun k38=>if k38=true then (RE.ok (.rt false)) else (RE.ok (.nx p35.1)):RE (Fl (Bool) (List Int)))) y42 a9) fun(p41:List Int)=>RE.ok true)
def F.square_at (ae:PuzT) (bL:Int):RE (List Int):=
 Fl.bR (((F.Puzzle_place ae).bind fun x1=>F.squares x1).bind fun y11=>qbL (fun(bf:List Int) (s5:Unit)=>(((atE bf 0).bind fun x6=>RE.ok (decide (x6=bL))).bind fun k8=>if k8=true then (RE.ok (.rt bf)) else (RE.ok (.nx ())):RE (Fl (List Int) (Unit)))) y11 ()) fun(p10:Unit)=>RE.ok []
def F.Square_fits (ab:KK) (ae:PuzT) (am:Option RuleT) (ah:List Nat × Int × Int × Int × (List Int)):RE Bool:=
 ((RE.ok am.isNone).bind fun k9=>if k9=true then RE.ok true else ((((unO am).bind fun x1=>F.m_name x1).bind fun x2=>RE.ok (!decide (x2=([110,111,115,113,117,97,114,101])))).bind fun k8=>if k8=true then RE.ok true else ((((unO am).bind fun x4=>F.Rule_sign x4).bind fun x5=>RE.ok (!decide (x5=ah.2.2.2.1))).bind fun k7=>if k7=true then RE.ok true else (RE.ok (!decide ((List.length ah.2.2.2.2:Int)=1)))))).bind fun k10=>if k10=true then (RE.ok false) else (((RE.ok ae).bind fun x11=>(atE ah.2.2.2.2 0).bind fun x12=>F.square_at x11 x12).bind fun x14=>RE.ok (decide (ah.2.2.1∈x14)))
def F.Square_strikes (ab:KK) (ae:PuzT) (ai:List Int) (am:Option RuleT) (ah:List Nat × Int × Int × Int × (List Int)):RE Bool:=
 Fl.bR (((RE.ok ae).bind fun x1=>(atE ah.2.2.2.2 0).bind fun x2=>F.square_at x1 x2).bind fun y16=>qbL (fun(ac:Int) (s8:Unit)=>(((RE.ok (!decide (ac=ah.2.2.1))).bind fun k12=>if k12=true then (((atE ai ac).bind fun x9=>(RE.ok ah.2.2.2.1).bind fun x10=>F.has_only x9 x10).bind fun x11=>RE.ok (!x11)) else RE.ok false).bind fun k13=>if k13=true then (RE.ok (.rt false)) else (RE.ok (.nx ())):RE (Fl (Bool) (Unit)))) y16 ()) fun(p15:Unit)=>RE.ok true
def F.Reach_fits (ab:KK) (ae:PuzT) (am:Option RuleT) (ah:List Nat × Int × Int × Int × (List Int)):RE Bool:=
 ((RE.ok am.isNone).bind fun k8=>if k8=true then RE.ok true else ((((unO am).bind fun x1=>F.m_name x1).bind fun x2=>RE.ok (!decide (x2=([106,111,105,110,101,100])))).bind fun k7=>if k7=true then (((unO am).bind fun x4=>F.m_name x4).bind fun x5=>RE.ok (!decide (x5=([114,105,110,103])))) else RE.ok false)).bind fun k9=>if k9=true then (RE.ok false) else ((RE.ok (ah.2.2.2.2:List Int)).bind fun aP=>(((((unO am).bind fun x10=>F.Rule_sign x10).bind fun x11=>RE.ok (decide (x11=ah.2.2.2.1))).bind fun x13=>RE.ok (if x13=true then 1 else 0:Int)).bind fun x15=>RE.ok (2 - x15)).bind fun aw=>((RE.ok (!decide ((List.length aP:Int)=aw))).bind fun k18=>if k18=true then RE.ok true else ((qio aP).bind fun x16=>RE.ok (!decide (x16=aw)))).bind fun k19=>if k19=true then (RE.ok false) else ((((RE.ok aP).bind fun x24=>gd (leB x24.length) (lcE (fun(aJ:Int)=>((RE.ok (decide (aJ=ah.2.2.1))).bind fun k23=>if k23=true then RE.ok true else ((RE.ok (decide (aJ<0))).bind fun k22=>if k22=true then RE.ok true else ((F.Puzzle_many ae).bind fun x21=>RE.ok (decide (x21≤aJ)))))) (fun(aJ:Int)=>(RE.ok aJ)) x24)).bind fun x25=>RE.ok (List.length x25:Int)).bind fun x26=>RE.ok (decide (x26=0))))
def F.Reach_strikes (ab:KK) (ae:PuzT) (ai:List Int) (am:Option RuleT) (ah:List Nat × Int × Int × Int × (List Int)):RE Bool:=
 ((unO am).bind fun x1=>F.Rule_sign x1).bind fun ak=>(RE.ok (ah.2.2.1:Int)).bind fun ac=>(RE.ok (ah.2.2.2.2:List Int)).bind fun aP=>Fl.bR ((RE.ok aP).bind fun y25=>qbL (fun(aJ:Int) (s6:Unit)=>((((atE ai aJ).bind fun x7=>(RE.ok ak).bind fun x8=>F.has_only x7 x8).bind fun x9=>RE.ok (!x9)).bind fun k10=>if k10=true then (RE.ok (.rt false)) else (RE.ok (.nx ())):RE (Fl (Bool) (Unit)))) y25 ()) fun(p12:Unit)=>((F.may_have ai ak).bind fun x13=>gd (leB x13.length) (RE.ok (List.filter (fun(aE:Int)=>!decide (aE=ac)) x13))).bind fun aY=>(RE.ok (decide (ak=ah.2.2.2.1))).bind fun k14=>if k14=true then ((atE aP 0).bind fun x18=>((F.Puzzle_place ae).bind fun x15=>(qgr aY [ac]).bind fun x16=>(RE.ok ac).bind fun x17=>F.reached x15 x16 x17).bind fun x19=>RE.ok (!decide (x18∈x19))) else ((atE aP 1).bind fun x23=>((F.Puzzle_place ae).bind fun x20=>(RE.ok aY).bind fun x21=>(atE aP 0).bind fun x22=>F.reached x20 x21 x22).bind fun x24=>RE.ok (!decide (x23∈x24)))
def F.Turn_fits (ab:KK) (ae:PuzT) (am:Option RuleT) (ah:List Nat × Int × Int × Int × (List Int)):RE Bool:=
 ((RE.ok am.isNone).bind fun k4=>if k4=true then RE.ok true else (((unO am).bind fun x1=>F.m_name x1).bind fun x2=>RE.ok (!decide (x2=([114,105,110,103]))))).bind fun k5=>if k5=true then (RE.ok false) else ((RE.ok (decide (ah.2.2.2.2=[]))).bind fun k6=>if k6=true then (((unO am).bind fun x7=>F.Rule_sign x7).bind fun x8=>RE.ok (decide (x8=ah.2.2.2.1))) else ((RE.ok (decide ((List.length ah.2.2.2.2:Int)=1))).bind fun k14=>if k14=true then ((atE ah.2.2.2.2 0).bind fun x12=>((F.Puzzle_place ae).bind fun x10=>(RE.ok ah.2.2.1).bind fun x11=>F.beside x10 x11).bind fun x13=>RE.ok (decide (x12∈x13))) else RE.ok false))
def F.Turn_strikes (ab:KK) (ae:PuzT) (ai:List Int) (am:Option RuleT) (ah:List Nat × Int × Int × Int × (List Int)):RE Bool:=
 ((unO am).bind fun x1=>F.Rule_sign x1).bind fun ak=>(RE.ok (ah.2.2.1:Int)).bind fun aC=>Fl.bR ((RE.ok (!decide (ah.2.2.2.2=[]))).bind fun k2=>if k2=true then ((atE ah.2.2.2.2 0).bind fun aC=>(((atE ai aC).bind fun x7=>(RE.ok ak).bind fun x8=>F.has_only x7 x8).bind fun x9=>RE.ok (!x9)).bind fun k10=>if k10=true then (RE.ok false).bind fun b=>RE.ok (.rt b) else (RE.ok (.nx aC))) else (RE.ok (.nx aC)):RE (Fl (Bool) (Int))) fun p11=>(((F.Puzzle_place ae).bind fun x12=>(RE.ok p11).bind fun x13=>F.beside x12 x13).bind fun x14=>gd (leB x14.length) (RE.ok (List.filter (fun(ac:Int)=>!decide (ac=ah.2.2.1)) x14))).bind fun bG=>(((RE.ok bG).bind fun x17=>gd (leB x17.length) (lcE (fun(ac:Int)=>((atE ai ac).bind fun x15=>(RE.ok ak).bind fun x16=>F.has_only x15 x16)) (fun(ac:Int)=>(RE.ok ac)) x17)).bind fun x18=>RE.ok (List.length x18:Int)).bind fun bo=>(((RE.ok bG).bind fun x21=>gd (leB x21.length) (lcE (fun(ac:Int)=>((atE ai ac).bind fun x19=>(RE.ok ak).bind fun x20=>F.stands x19 x20)) (fun(ac:Int)=>(RE.ok ac)) x21)).bind fun x22=>RE.ok (List.length x22:Int)).bind fun bI=>(RE.ok (decide (ah.2.2.2.2=[]))).bind fun k23=>if k23=true then (RE.ok ((decide (bI<2))||(decide (2<bo)))) else ((RE.ok (decide (ak=ah.2.2.2.1))).bind fun k24=>if k24=true then (RE.ok (decide (2≤bo))) else (RE.ok (decide (bI<2))))
def F.is_in_bounds (ae:PuzT) (ah:List Nat × Int × Int × Int × (List D)):RE Bool:=
 ((RE.ok 0).bind fun x1=>(RE.ok ah.2.2.1).bind fun x2=>if decide (x1≤x2)=true then (F.Puzzle_many ae).bind fun x3=>RE.ok (decide (x2<x3)) else RE.ok false).bind fun k8=>if k8=true then ((RE.ok 1).bind fun x5=>(RE.ok ah.2.2.2.1).bind fun x6=>if decide (x5≤x6)=true then ((F.Puzzle_place ae).bind fun x4=>RE.ok x4.2.2).bind fun x7=>RE.ok (decide (x6≤x7)) else RE.ok false) else RE.ok false
def F.rule_of (ae:PuzT) (ah:List Nat × Int × Int × Int × (List D)):RE (Option RuleT):=
 ((RE.ok 0).bind fun x1=>(RE.ok ah.2.1).bind fun x2=>if decide (x1≤x2)=true then (F.Puzzle_many_rules ae).bind fun x3=>RE.ok (decide (x2<x3)) else RE.ok false).bind fun k4=>if k4=true then ((F.Puzzle_rule_at ae ah.2.1).bind fun x5=>RE.ok ((some) x5)) else (RE.ok (none:Option RuleT))
def F.m_fits (r:KK) (a0:PuzT) (a1:Option RuleT) (a2:List Nat × Int × Int × Int × (List Int)):RE Bool:=match r with
 |.clue=>F.Clue_fits r a0 a1 a2
 |.only=>F.Only_fits r a0 a1 a2
 |.place=>F.Place_fits r a0 a1 a2
 |.pair=>F.Pair_fits r a0 a1 a2
 |.count=>F.Count_fits r a0 a1 a2
 |.step=>F.Step_fits r a0 a1 a2
 |.sums=>F.Sums_fits r a0 a1 a2
 |.ways=>F.Ways_fits r a0 a1 a2
 |.square=>F.Square_fits r a0 a1 a2
 |.reach=>F.Reach_fits r a0 a1 a2
 |.turn=>F.Turn_fits r a0 a1 a2
def F.m_strikes (r:KK) (a0:PuzT) (a1:List Int) (a2:Option RuleT) (a3:List Nat × Int × Int × Int × (List Int)):RE Bool:=match r with
 |.clue=>F.Clue_strikes r a0 a1 a2 a3
 |.only=>F.Only_strikes r a0 a1 a2 a3
 |.place=>F.Place_strikes r a0 a1 a2 a3
 |.pair=>F.Pair_strikes r a0 a1 a2 a3
 |.count=>F.Count_strikes r a0 a1 a2 a3
 |.step=>F.Step_strikes r a0 a1 a2 a3
 |.sums=>F.Sums_strikes r a0 a1 a2 a3
 |.ways=>F.Ways_strikes r a0 a1 a2 a3
 |.square=>F.Square_strikes r a0 a1 a2 a3
 |.reach=>F.Reach_strikes r a0 a1 a2 a3
 |.turn=>F.Turn_strikes r a0 a1 a2 a3
def F.allowed (ae:PuzT) (ai:List Int) (ah:List Nat × Int × Int × Int × (List D)):RE Bool:=
 (F.kind_of ah.1).bind fun aL=>((RE.ok aL.isNone).bind fun k4=>if k4=true then RE.ok true else (((F.is_in_bounds ae ah).bind fun x1=>RE.ok (!x1)).bind fun k3=>if k3=true then RE.ok true else ((F.are_numbers ah.2.2.2.2).bind fun x2=>RE.ok (!x2)))).bind fun k5=>if k5=true then (RE.ok false) else ((F.rule_of ae ah).bind fun am=>((unO aL).bind fun x9=>(RE.ok ae).bind fun x6=>(RE.ok am).bind fun x7=>(dT5 (dLs dI) ah).bind fun x8=>F.m_fits x9 x6 x7 x8).bind fun k15=>if k15=true then ((unO aL).bind fun x14=>(RE.ok ae).bind fun x10=>(RE.ok ai).bind fun x11=>(RE.ok am).bind fun x12=>(dT5 (dLs dI) ah).bind fun x13=>F.m_strikes x14 x10 x11 x12 x13) else RE.ok false)
def F.m_told_numbers (r:RuleT)  : RE (List Int):=match r.k with
 |.unlike=>F.Rule_told_numbers r
 |.total=>F.Total_told_numbers r
 |.rising=>F.Rule_told_numbers r
 |.seen=>F.Seen_told_numbers r
 |.counted=>F.Counted_told_numbers r
 |.joined=>F.Joined_told_numbers r
 |.nosquare=>F.NoSquare_told_numbers r
 |.ring=>F.Ring_told_numbers r
def F.Rule_line (ab:RuleT):RE (List Nat):=
 (RE.ok [32]).bind fun x5=>(((F.m_name ab).bind fun x1=>RE.ok [x1]).bind fun x3=>((F.m_told_numbers ab).bind fun x2=>gd (leB x2.length) (lcE (fun(aG:Int)=>(RE.ok true)) (fun(aG:Int)=>(qoW aG)) x2)).bind fun x4=>qgr x3 x4).bind fun x6=>qj6 x5 x6
def F.Puzzle_lines (ab:PuzT):RE (List (List Nat)):=
 (RE.ok ab.rules).bind fun x1=>gd (leB x1.length) (lcE (fun(am:RuleT)=>(RE.ok true)) (fun(am:RuleT)=>(F.Rule_line am)) x1)
def F.look_at_move (aS:Int):RE Unit:=
 (RE.ok (!(decide (0≤aS)&&decide (aS≤7)))).bind fun k1=>if k1=true then RE.exc 38 [] else (RE.ok ())
def F.turned_spot (aR:Int) (ba:Int × Int):RE (Int × Int):=
 RE.ok (ba.2,(aR - 1) - ba.1)
def F.moved_floor (af:Int × Int × Int) (aS:Int):RE (Int × Int × Int):=
 (F.look_at_move aS).bind fun _=>(RE.ok af).bind fun p1=>(RE.ok (decide ((Int.fmod aS 2)=1))).bind fun k2=>if k2=true then (RE.ok (p1.2.1,p1.1,p1.2.2)) else (RE.ok (p1.1,p1.2.1,p1.2.2))
def F.moved_cells (af:Int × Int × Int) (aS:Int):RE (List Int):=
 (F.look_at_move aS).bind fun _=>(RE.ok ([]:List Int)).bind fun aj=>(((F.many_cells af).bind qbD).bind fun y33=>qam (fun(ac:Int) (s16:List Int)=>(RE.ok af).bind fun p17=>(F.spot_of af ac).bind fun ba=>((RE.ok (decide (4≤aS))).bind fun k18=>if k18=true then ((RE.ok ((ba.1,(p17.2.1 - 1) - ba.2):Int × Int)).bind fun ba=>RE.ok ba) else (RE.ok ba)).bind fun(p19:Int × Int)=>((qbD (Int.fmod aS 4)).bind fun y31=>qam (fun(bM:Int) (s23:Int × Int × (Int × Int))=>(F.turned_spot s23.1 s23.2.2).bind fun ba=>((RE.ok s23.2.1).bind fun x25=>(RE.ok s23.1).bind fun x26=>RE.ok (x25,x26)).bind fun p24=>RE.ok (p24.1,p24.2,ba)) y31 (p17.1,p17.2.1,p19)).bind fun(p27:Int × Int × (Int × Int))=>(((qip p27.2.2.1 p27.2.1).bind fun x28=>RE.ok (x28+p27.2.2.2)).bind fun x30=>qeA s16 x30).bind fun aj=>RE.ok aj) y33 aj).bind fun(p32:List Int)=>RE.ok p32
def F.full (af:Int × Int × Int):RE (List Int):=
 ((F.many_cells af).bind qbD).bind fun x4=>gd (leB x4.length) (lcE (fun(ac:Int)=>(RE.ok true)) (fun(ac:Int)=>((F.bit (af.2.2+1)).bind fun x2=>RE.ok (x2 - 1))) x4)
def F.filling_by (ai:List Int):RE (List Int):=
 (RE.ok ([]:List Int)).bind fun a9=>((RE.ok ai).bind fun y9=>qam (fun(aV:Int) (s3:List Int)=>(F.signs_in aV).bind fun aA=>((RE.ok (decide ((List.length aA:Int)=1))).bind fun k4=>if k4=true then (((atE aA 0).bind fun x6=>qeA s3 x6).bind fun a9=>RE.ok a9) else ((qeA s3 0).bind fun a9=>RE.ok a9)).bind fun(p7:List Int)=>RE.ok p7) y9 a9).bind fun(p8:List Int)=>RE.ok p8
def F.masks_by (af:Int × Int × Int) (a9:List Int):RE (List Int):=
 (F.full af).bind fun ai=>((RE.ok (qqV a9)).bind fun y13=>qam (fun(p5:Int × Int) (s4:List Int)=>((RE.ok (decide (0<p5.2))).bind fun k6=>if k6=true then (((F.bit p5.2).bind fun x9=>(RE.ok p5.1).bind fun x10=>qoP s4 x10 x9).bind fun ai=>RE.ok ai) else (RE.ok s4)).bind fun(p11:List Int)=>RE.ok p11) y13 ai).bind fun(p12:List Int)=>RE.ok p12
def F.many_floors (ae:PuzT):RE Int:=
 (RE.ok (1:Int)).bind fun aF=>((F.Puzzle_clues ae).bind fun y21=>qam (fun(b6:Int) (s7:Int)=>((RE.ok (decide (b6=0))).bind fun k8=>if k8=true then ((((F.Puzzle_place ae).bind fun x15=>RE.ok x15.2.2).bind fun x17=>qip s7 x17).bind fun aF=>(RE.ok (decide (1024<aF))).bind fun k18=>if k18=true then RE.exc 36 [] else (RE.ok aF)) else (RE.ok s7)).bind fun(p19:Int)=>RE.ok p19) y21 aF).bind fun(p20:Int)=>RE.ok p20
def F.laid (ae:PuzT) (bt:List Int) (aG:Int):RE (List Int):=
 ((F.Puzzle_place ae).bind fun x1=>RE.ok x1.2.2).bind fun aA=>(F.Puzzle_clues ae).bind fun a9=>(((F.Puzzle_many ae).bind qwr).bind fun y35=>qam (fun(ac:Int) (s13:Int × (List Int))=>(((atE s13.2 ac).bind fun x14=>RE.ok (decide (x14=0))).bind fun k16=>if k16=true then ((((((atE bt ac).bind fun x25=>RE.ok (x25+s13.1)).bind fun x27=>qjU x27 aA).bind fun x30=>RE.ok (1+x30)).bind fun x31=>(RE.ok ac).bind fun x32=>qoP s13.2 x32 x31).bind fun a9=>(qsV s13.1 aA).bind fun aG=>RE.ok (aG,a9)) else (RE.ok (s13.1,s13.2))).bind fun(p33:Int × (List Int))=>RE.ok (p33.1,p33.2)) y35 (aG,a9)).bind fun(p34:Int × (List Int))=>RE.ok p34.2
def F.answers (ae:PuzT) (bN:Int):RE (List (List Int)):=
 (((F.Puzzle_many ae).bind qbD).bind fun x2=>gd (leB x2.length) (RE.ok (List.map (fun(ac:Int)=>0) x2))).bind fun bt=>(RE.ok ([]:List (List Int))).bind fun aj=>Fl.bR (((F.many_floors ae).bind qbD).bind fun y11=>qbL (fun(aG:Int) (s6:List (List Int))=>((F.laid ae bt aG).bind fun a9=>(F.Puzzle_meets ae a9).bind fun k7=>if k7=true then ((qeA s6 a9).bind fun aj=>(RE.ok (decide ((List.length aj:Int)=bN))).bind fun k8=>if k8=true then (RE.ok (.rt aj)) else (RE.ok (.nx aj))) else (RE.ok (.nx s6)):RE (Fl (List (List Int)) (List (List Int))))) y11 aj) fun(p10:List (List Int))=>RE.ok p10
def F.filled (ae:PuzT) (au:List Int):RE (Option (List Int)):=
 ((F.Puzzle_place ae).bind fun x1=>RE.ok x1.2.2).bind fun aA=>((RE.ok au).bind fun x2=>gd (leB x2.length) (lcE (fun(aG:Int)=>(RE.ok true)) (fun(aG:Int)=>(qjU aG aA)) x2)).bind fun bt=>Fl.bR (((F.many_floors ae).bind qbD).bind fun y9=>qbL (fun(aG:Int) (s5:Unit)=>((F.laid ae bt aG).bind fun a9=>(F.Puzzle_meets ae a9).bind fun k6=>if k6=true then (RE.ok (.rt (some a9))) else (RE.ok (.nx ())):RE (Fl (Option (List Int)) (Unit)))) y9 ()) fun(p8:Unit)=>RE.ok (none:Option (List Int))
def F.struck (ai:List Int) (ac:Int) (ak:Int):RE (List Int):=
 (RE.ok (ai:List Int)).bind fun aj=>(((atE aj ac).bind fun x1=>(RE.ok ak).bind fun x2=>F.stands x1 x2).bind fun k3=>if k3=true then ((((atE aj ac).bind fun x8=>(F.bit ak).bind fun x9=>RE.ok (x8 - x9)).bind fun x10=>(RE.ok ac).bind fun x11=>qoP aj x11 x10).bind fun aj=>RE.ok aj) else (RE.ok aj)).bind fun(p12:List Int)=>RE.ok p12
def F.clashes (ai:List Int):RE Bool:=
 RE.ok (decide (0∈ai))
def F.is_settled (ai:List Int):RE Bool:=
 ((RE.ok ai).bind fun x4=>gd (leB x4.length) (lcE (fun(aV:Int)=>(RE.ok true)) (fun(aV:Int)=>(((F.signs_in aV).bind fun x1=>RE.ok (List.length x1:Int)).bind fun x2=>RE.ok (decide (x2=1)))) x4)).bind fun x5=>RE.ok (List.all x5 id)
def F.ways (ai:List Int):RE Int:=
 (RE.ok (1:Int)).bind fun b8=>((RE.ok ai).bind fun y11=>qam (fun(aV:Int) (s5:Int)=>(((F.signs_in aV).bind fun x7=>RE.ok (List.length x7:Int)).bind fun x9=>qip s5 x9).bind fun b8=>RE.ok b8) y11 b8).bind fun(p10:Int)=>RE.ok p10
def F.Rule_reckons (ab:RuleT):RE Bool:=
 RE.ok false
def F.Total_reckons (ab:RuleT):RE Bool:=
 RE.ok true
def F.Rising_reckons (ab:RuleT):RE Bool:=
 RE.ok true
def F.Seen_reckons (ab:RuleT):RE Bool:=
 RE.ok true
def F.Puzzle_clued (ab:PuzT) (aX:List Int):RE PuzT:=
 (RE.ok ab.ground).bind fun x2=>((F.Puzzle_lines ab).bind fun x1=>RE.ok ((List.map (eS)) x1)).bind fun x3=>(RE.ok aX).bind fun x4=>F.Puzzle_new x2 x3 x4
def F.is_standing (ae:PuzT) (ai:List Int) (ah:List Nat × Int × Int × Int × (List D)):RE Bool:=
 (F.is_in_bounds ae ah).bind fun k3=>if k3=true then ((atE ai ah.2.2.1).bind fun x1=>(RE.ok ah.2.2.2.1).bind fun x2=>F.stands x1 x2) else RE.ok false
def F.Kind_mores (ab:KK) (ae:PuzT) (ai:List Int) (am:Option RuleT) (ac:Int) (ak:Int):RE (List (List Int)):=
 RE.ok [[]]
def F.Only_mores (ab:KK) (ae:PuzT) (ai:List Int) (am:Option RuleT) (ac:Int) (ak:Int):RE (List (List Int)):=
 (((unO am).bind fun x1=>(RE.ok ac).bind fun x2=>F.others_of x1 x2).bind fun x3=>RE.ok (qe9 x3)).bind fun x4=>gd (leB x4.length) (RE.ok (List.map (fun(aE:Int)=>[aE]) x4))
def F.Place_mores (ab:KK) (ae:PuzT) (ai:List Int) (am:Option RuleT) (ac:Int) (ak:Int):RE (List (List Int)):=
 ((RE.ok 1).bind fun x4=>(((F.Puzzle_place ae).bind fun x1=>RE.ok x1.2.2).bind fun x2=>RE.ok (x2+1)).bind fun x5=>qiy x4 x5).bind fun x6=>gd (leB x6.length) (RE.ok (List.map (fun(aE:Int)=>[aE]) x6))
def F.Pair_mores (ab:KK) (ae:PuzT) (ai:List Int) (am:Option RuleT) (ac:Int) (ak:Int):RE (List (List Int)):=
 ((unO am).bind fun x1=>(RE.ok ac).bind fun x2=>F.others_of x1 x2).bind fun aU=>(RE.ok ([]:List (List Int))).bind fun aj=>((qbD (List.length aU:Int)).bind fun y23=>qam (fun(aN:Int) (s12:List (List Int))=>((RE.ok (qdu aU (some (aN+1)) none)).bind fun y21=>qam (fun(aE:Int) (s16:List (List Int))=>(((atE aU aN).bind fun x17=>(RE.ok aE).bind fun x18=>RE.ok [x17,x18]).bind fun x19=>qeA s16 x19).bind fun aj=>RE.ok aj) y21 s12).bind fun(p20:List (List Int))=>RE.ok p20) y23 aj).bind fun(p22:List (List Int))=>RE.ok (qm1 p22)
def F.must_have (ai:List Int) (ak:Int):RE (List Int):=
 (qbD (List.length ai:Int)).bind fun x3=>gd (leB x3.length) (lcE (fun(ac:Int)=>((atE ai ac).bind fun x1=>(RE.ok ak).bind fun x2=>F.has_only x1 x2)) (fun(ac:Int)=>(RE.ok ac)) x3)
def F.Square_mores (ab:KK) (ae:PuzT) (ai:List Int) (am:Option RuleT) (ac:Int) (ak:Int):RE (List (List Int)):=
 ((F.Puzzle_place ae).bind fun x1=>F.squares x1).bind fun x3=>gd (leB x3.length) (lcE (fun(bf:List Int)=>(RE.ok (decide (ac∈bf)))) (fun(bf:List Int)=>((atE bf 0).bind fun x2=>RE.ok [x2])) x3)
def F.Reach_mores (ab:KK) (ae:PuzT) (ai:List Int) (am:Option RuleT) (ac:Int) (ak:Int):RE (List (List Int)):=
 (((RE.ok ai).bind fun x2=>((unO am).bind fun x1=>F.Rule_sign x1).bind fun x3=>F.must_have x2 x3).bind fun x4=>gd (leB x4.length) (RE.ok (List.filter (fun(aE:Int)=>!decide (aE=ac)) x4))).bind fun bo=>(((unO am).bind fun x5=>F.Rule_sign x5).bind fun x7=>RE.ok (decide (ak=x7))).bind fun k8=>if k8=true then ((RE.ok bo).bind fun x9=>gd (leB x9.length) (RE.ok (List.map (fun(aE:Int)=>[aE]) x9))) else ((RE.ok (qdu bo (some 1) none)).bind fun x12=>gd (leB x12.length) (lcE (fun(aE:Int)=>(RE.ok true)) (fun(aE:Int)=>((atE bo 0).bind fun x10=>(RE.ok aE).bind fun x11=>RE.ok [x10,x11])) x12))
def F.Turn_mores (ab:KK) (ae:PuzT) (ai:List Int) (am:Option RuleT) (ac:Int) (ak:Int):RE (List (List Int)):=
 (((F.Puzzle_place ae).bind fun x1=>(RE.ok ac).bind fun x2=>F.beside x1 x2).bind fun x3=>gd (leB x3.length) (RE.ok (List.map (fun(aE:Int)=>[aE]) x3))).bind fun x5=>qgr [[]] x5
def F.kinds_by (aH:List (List Nat)):RE (List KK):=
 F.all_kinds.bind fun x3=>gd (leB x3.length) (lcE (fun(aL:KK)=>((F.m_word aL).bind fun x1=>evC .isin (eS x1) ((eL eS) aH))) (fun(aL:KK)=>(RE.ok aL)) x3)
def F.m_mores (r:KK) (a0:PuzT) (a1:List Int) (a2:Option RuleT) (a3:Int) (a4:Int):RE (List (List Int)):=match r with
 |.clue=>F.Kind_mores r a0 a1 a2 a3 a4
 |.only=>F.Only_mores r a0 a1 a2 a3 a4
 |.place=>F.Place_mores r a0 a1 a2 a3 a4
 |.pair=>F.Pair_mores r a0 a1 a2 a3 a4
 |.count=>F.Kind_mores r a0 a1 a2 a3 a4
 |.step=>F.Kind_mores r a0 a1 a2 a3 a4
 |.sums=>F.Kind_mores r a0 a1 a2 a3 a4
 |.ways=>F.Kind_mores r a0 a1 a2 a3 a4
 |.square=>F.Square_mores r a0 a1 a2 a3 a4
 |.reach=>F.Reach_mores r a0 a1 a2 a3 a4
 |.turn=>F.Turn_mores r a0 a1 a2 a3 a4
def F.thought_at (ae:PuzT) (ai:List Int) (aL:KK) (aG:Int) (ac:Int):RE (Option (List Nat × Int × Int × Int × (List Int))):=
 (RE.ok (():Unit)).bind fun am=>(((F.Puzzle_many_rules ae).bind fun x2=>RE.ok (decide (aG<x2))).bind fun k3=>if k3=true then ((F.Puzzle_rule_at ae aG).bind fun am=>RE.ok (some am)) else (RE.ok (none:Option RuleT))).bind fun(p4:Option RuleT)=>Fl.bR (((atE ai ac).bind fun x5=>F.signs_in x5).bind fun y44=>qbL (fun(ak:Int) (s24:Unit)=>(Fl.bF ((F.m_mores aL ae ai p4 ac ak).bind fun y42=>qbL (fun(aP:List Int) (s32:Unit)=>(((F.m_word aL).bind fun x33=>(RE.ok aG).bind fun x34=>(RE.ok ac).bind fun x35=>(RE.ok ak).bind fun x36=>(RE.ok aP).bind fun x37=>RE.ok (x33,x34,x35,x36,x37)).bind fun ah=>((F.m_fits aL ae p4 ah).bind fun k38=>if k38=true then (F.m_strikes aL ae ai p4 ah) else RE.ok false).bind fun k39=>if k39=true then (RE.ok (.rt (some ah))) else (RE.ok (.nx ())):RE (Fl (Option (List Nat × Int × Int × Int × (List Int))) (Unit)))) y42 ()) fun(p41:Unit)=>RE.ok (.nx ()):RE (Fl (Option (List Nat × Int × Int × Int × (List Int))) (Unit)))) y44 ()) fun(p43:Unit)=>RE.ok (none:Option (List Nat × Int × Int × Int × (List Int)))
def F.first_of (ae:PuzT) (ai:List Int) (aL:KK) (aG:Int) (ao:List Int):RE (Option (List Nat × Int × Int × Int × (List Int))):=
 Fl.bR ((RE.ok ao).bind fun y6=>qbL (fun(ac:Int) (s2:Unit)=>((F.thought_at ae ai aL aG ac).bind fun aj=>(RE.ok aj.isSome).bind fun k3=>if k3=true then (RE.ok (.rt aj)) else (RE.ok (.nx ())):RE (Fl (Option (List Nat × Int × Int × Int × (List Int))) (Unit)))) y6 ()) fun(p5:Unit)=>RE.ok (none:Option (List Nat × Int × Int × Int × (List Int)))
def F.is_for (aL:KK) (am:RuleT):RE Bool:=
 ((F.m_word aL).bind fun x1=>qwt qhl false x1).bind fun k5=>if k5=true then RE.ok true else ((F.m_name am).bind fun x3=>((F.m_word aL).bind fun x2=>qwQ qhl x2).bind fun x4=>qj7 x3 x4)
def F.next_thought (ae:PuzT) (ai:List Int) (aT:List (List Nat)):RE (Option (List Nat × Int × Int × Int × (List Int))):=
 (F.clashes ai).bind fun k1=>if k1=true then (RE.ok (none:Option (List Nat × Int × Int × Int × (List Int)))) else (Fl.bR ((F.kinds_by aT).bind fun y113=>qbL (fun(aL:KK) (s39:Unit)=>((RE.ok (():Unit)).bind fun aj=>(((F.m_word aL).bind fun x40=>(atE qaC 0).bind fun x41=>RE.ok (decide (x40=x41))).bind fun k42=>if k42=true then (((RE.ok ae).bind fun x77=>(RE.ok ai).bind fun x78=>(RE.ok aL).bind fun x79=>(RE.ok 0).bind fun x80=>((F.Puzzle_many ae).bind qbD).bind fun x81=>F.first_of x77 x78 x79 x80 x81).bind fun aj=>RE.ok aj) else ((((F.Puzzle_many_rules ae).bind qbD).bind fun y108=>qam (fun(aG:Int) (s91:Option (List Nat × Int × Int × Int × (List Int)))=>(F.Puzzle_rule_at ae aG).bind fun am=>(((RE.ok s91.isNone).bind fun k92=>if k92=true then (F.is_for aL am) else RE.ok false).bind fun k93=>if k93=true then (((RE.ok ae).bind fun x101=>(RE.ok ai).bind fun x102=>(RE.ok aL).bind fun x103=>(RE.ok aG).bind fun x104=>((F.Rule_spots am).bind fun x100=>RE.ok (qe9 x100)).bind fun x105=>F.first_of x101 x102 x103 x104 x105).bind fun aj=>RE.ok aj) else (RE.ok s91)).bind fun(p106:Option (List Nat × Int × Int × Int × (List Int)))=>RE.ok p106) y108 (none:Option (List Nat × Int × Int × Int × (List Int)))).bind fun(p107:Option (List Nat × Int × Int × Int × (List Int)))=>RE.ok p107)).bind fun(p109:Option (List Nat × Int × Int × Int × (List Int)))=>(RE.ok p109.isSome).bind fun k110=>if k110=true then (RE.ok (.rt p109)) else (RE.ok (.nx ())):RE (Fl (Option (List Nat × Int × Int × Int × (List Int))) (Unit)))) y113 ()) fun(p112:Unit)=>RE.ok (none:Option (List Nat × Int × Int × Int × (List Int))))
def F.think (ae:PuzT) (ai:List Int) (aT:List (List Nat)):RE ((List Int) × (List (List Nat × Int × Int × Int × (List Int)))):=
 (RE.ok (ai:List Int)).bind fun aq=>(RE.ok ([]:List (List Nat × Int × Int × Int × (List Int)))).bind fun aM=>Fl.bR (qtd (fun(s8:(List Int) × (List (List Nat × Int × Int × Int × (List Int))))=>((F.clashes s8.1).bind fun x9=>RE.ok (!x9))) (fun(s8:(List Int) × (List (List Nat × Int × Int × Int × (List Int))))=>((F.next_thought ae s8.1 aT).bind fun ah=>(RE.ok ah.isNone).bind fun k10=>if k10=true then (RE.ok (.bk (s8.1,s8.2))) else (((RE.ok s8.1).bind fun x13=>((unO ah).bind fun x11=>RE.ok x11.2.2.1).bind fun x14=>((unO ah).bind fun x12=>RE.ok x12.2.2.2.1).bind fun x15=>F.struck x13 x14 x15).bind fun aq=>((unO ah).bind fun x16=>qeA s8.2 x16).bind fun aM=>RE.ok (.nx (aq,aM))):RE (Fl ((List Int) × (List (List Nat × Int × Int × Int × (List Int)))) ((List Int) × (List (List Nat × Int × Int × Int × (List Int))))))) qtW (aq,aM)) fun(p17:(List Int) × (List (List Nat × Int × Int × Int × (List Int))))=>RE.ok (p17.1,p17.2)
def F.settles (ae:PuzT) (aT:List (List Nat)):RE Bool:=
 (((RE.ok ae).bind fun x2=>((F.Puzzle_place ae).bind fun x1=>F.full x1).bind fun x3=>(RE.ok aT).bind fun x4=>F.think x2 x3 x4).bind fun x5=>RE.ok x5.1).bind fun aq=>(F.is_settled aq).bind fun k8=>if k8=true then ((RE.ok ae).bind fun x7=>(F.filling_by aq).bind fun x6=>F.Puzzle_meets x7 x6) else RE.ok false
def F.with_only (ai:List Int) (ac:Int) (ak:Int):RE (List Int):=
 (RE.ok (ai:List Int)).bind fun aq=>((qvo 1 (ak - 1)).bind fun x1=>(RE.ok ac).bind fun x2=>qoP aq x2 x1).bind fun aq=>RE.ok aq
def F.first_open (ai:List Int):RE Int:=
 Fl.bR ((qbD (List.length ai:Int)).bind fun y14=>qbL (fun(ac:Int) (s6:Unit)=>(((((atE ai ac).bind fun x7=>F.signs_in x7).bind fun x8=>RE.ok (List.length x8:Int)).bind fun x9=>RE.ok (decide (1<x9))).bind fun k11=>if k11=true then (RE.ok (.rt ac)) else (RE.ok (.nx ())):RE (Fl (Int) (Unit)))) y14 ()) fun(p13:Unit)=>RE.ok 0
def F.answers_in__1 (ae:PuzT) (ai:List Int):RE (List (List Int)):=
 ((F.think ae ai qaC).bind fun x1=>RE.ok x1.1).bind fun aq=>(F.clashes aq).bind fun k2=>if k2=true then (RE.ok []) else ((F.is_settled aq).bind fun k3=>if k3=true then ((F.filling_by aq).bind fun x4=>RE.ok [x4]) else ((F.first_open aq).bind fun ac=>(RE.ok ([]:List (List Int))).bind fun aj=>(((atE aq ac).bind fun x5=>F.signs_in x5).bind fun y17=>qam (fun(ak:Int) (s9:List (List Int))=>((RE.ok (decide ((List.length s9:Int)<2))).bind fun k10=>if k10=true then (((RE.bad:RE (List (List Int))).bind fun x14=>qgr s9 x14).bind fun aj=>RE.ok aj) else (RE.ok s9)).bind fun(p15:List (List Int))=>RE.ok p15) y17 aj).bind fun(p16:List (List Int))=>RE.ok p16))
def F.answers_in__2 (ae:PuzT) (ai:List Int):RE (List (List Int)):=
 ((F.think ae ai qaC).bind fun x1=>RE.ok x1.1).bind fun aq=>(F.clashes aq).bind fun k2=>if k2=true then (RE.ok []) else ((F.is_settled aq).bind fun k3=>if k3=true then ((F.filling_by aq).bind fun x4=>RE.ok [x4]) else ((F.first_open aq).bind fun ac=>(RE.ok ([]:List (List Int))).bind fun aj=>(((atE aq ac).bind fun x5=>F.signs_in x5).bind fun y23=>qam (fun(ak:Int) (s11:List (List Int))=>((RE.ok (decide ((List.length s11:Int)<2))).bind fun k12=>if k12=true then ((((RE.ok ae).bind fun x17=>(F.with_only aq ac ak).bind fun x18=>F.answers_in__1 x17 x18).bind fun x20=>qgr s11 x20).bind fun aj=>RE.ok aj) else (RE.ok s11)).bind fun(p21:List (List Int))=>RE.ok p21) y23 aj).bind fun(p22:List (List Int))=>RE.ok p22))
def F.answers_in__3 (ae:PuzT) (ai:List Int):RE (List (List Int)):=
 ((F.think ae ai qaC).bind fun x1=>RE.ok x1.1).bind fun aq=>(F.clashes aq).bind fun k2=>if k2=true then (RE.ok []) else ((F.is_settled aq).bind fun k3=>if k3=true then ((F.filling_by aq).bind fun x4=>RE.ok [x4]) else ((F.first_open aq).bind fun ac=>(RE.ok ([]:List (List Int))).bind fun aj=>(((atE aq ac).bind fun x5=>F.signs_in x5).bind fun y23=>qam (fun(ak:Int) (s11:List (List Int))=>((RE.ok (decide ((List.length s11:Int)<2))).bind fun k12=>if k12=true then ((((RE.ok ae).bind fun x17=>(F.with_only aq ac ak).bind fun x18=>F.answers_in__2 x17 x18).bind fun x20=>qgr s11 x20).bind fun aj=>RE.ok aj) else (RE.ok s11)).bind fun(p21:List (List Int))=>RE.ok p21) y23 aj).bind fun(p22:List (List Int))=>RE.ok p22))
def F.answers_in__4 (ae:PuzT) (ai:List Int):RE (List (List Int)):=
 ((F.think ae ai qaC).bind fun x1=>RE.ok x1.1).bind fun aq=>(F.clashes aq).bind fun k2=>if k2=true then (RE.ok []) else ((F.is_settled aq).bind fun k3=>if k3=true then ((F.filling_by aq).bind fun x4=>RE.ok [x4]) else ((F.first_open aq).bind fun ac=>(RE.ok ([]:List (List Int))).bind fun aj=>(((atE aq ac).bind fun x5=>F.signs_in x5).bind fun y23=>qam (fun(ak:Int) (s11:List (List Int))=>((RE.ok (decide ((List.length s11:Int)<2))).bind fun k12=>if k12=true then ((((RE.ok ae).bind fun x17=>(F.with_only aq ac ak).bind fun x18=>F.answers_in__3 x17 x18).bind fun x20=>qgr s11 x20).bind fun aj=>RE.ok aj) else (RE.ok s11)).bind fun(p21:List (List Int))=>RE.ok p21) y23 aj).bind fun(p22:List (List Int))=>RE.ok p22))
def F.answers_in__5 (ae:PuzT) (ai:List Int):RE (List (List Int)):=
 ((F.think ae ai qaC).bind fun x1=>RE.ok x1.1).bind fun aq=>(F.clashes aq).bind fun k2=>if k2=true then (RE.ok []) else ((F.is_settled aq).bind fun k3=>if k3=true then ((F.filling_by aq).bind fun x4=>RE.ok [x4]) else ((F.first_open aq).bind fun ac=>(RE.ok ([]:List (List Int))).bind fun aj=>(((atE aq ac).bind fun x5=>F.signs_in x5).bind fun y23=>qam (fun(ak:Int) (s11:List (List Int))=>((RE.ok (decide ((List.length s11:Int)<2))).bind fun k12=>if k12=true then ((((RE.ok ae).bind fun x17=>(F.with_only aq ac ak).bind fun x18=>F.answers_in__4 x17 x18).bind fun x20=>qgr s11 x20).bind fun aj=>RE.ok aj) else (RE.ok s11)).bind fun(p21:List (List Int))=>RE.ok p21) y23 aj).bind fun(p22:List (List Int))=>RE.ok p22))
def F.supposed__1 (ae:PuzT) (ai:List Int) (ac:Int) (ak:Int):RE D:=
 ((RE.ok ([115,117,112,112,111,115,101])).bind fun x1=>(RE.ok 0).bind fun x2=>(RE.ok ac).bind fun x3=>(RE.ok ak).bind fun x4=>(RE.bad:RE (List D)).bind fun x5=>RE.ok (x1,x2,x3,x4,x5)).bind fun x6=>RE.ok (((eT5 eS eI eI eI (eL eD))) x6)
def F.refuted__1 (ae:PuzT) (ai:List Int):RE (List D):=
 ((F.think ae ai qaC).bind (qkz eI (eT5 eS eI eI eI (eL eI)))).bind fun p1=>(F.clashes p1.1).bind fun k2=>if k2=true then (RE.ok (List.map ((eT5 eS eI eI eI (eL eI))) p1.2)) else ((F.first_open p1.1).bind fun ac=>(((atE p1.1 ac).bind fun x3=>F.signs_in x3).bind fun y8=>qam (fun(ak:Int) (s5:List D)=>((F.supposed__1 ae p1.1 ac ak).bind fun x6=>qeA s5 x6).bind fun aM=>RE.ok aM) y8 (List.map ((eT5 eS eI eI eI (eL eI))) p1.2)).bind fun(p7:List D)=>RE.ok p7)
def F.supposed__2 (ae:PuzT) (ai:List Int) (ac:Int) (ak:Int):RE D:=
 ((RE.ok ([115,117,112,112,111,115,101])).bind fun x3=>(RE.ok 0).bind fun x4=>(RE.ok ac).bind fun x5=>(RE.ok ak).bind fun x6=>((RE.ok ae).bind fun x1=>(F.with_only ai ac ak).bind fun x2=>F.refuted__1 x1 x2).bind fun x7=>RE.ok (x3,x4,x5,x6,x7)).bind fun x8=>RE.ok (((eT5 eS eI eI eI (eL eD))) x8)
def F.refuted__2 (ae:PuzT) (ai:List Int):RE (List D):=
 ((F.think ae ai qaC).bind (qkz eI (eT5 eS eI eI eI (eL eI)))).bind fun p1=>(F.clashes p1.1).bind fun k2=>if k2=true then (RE.ok (List.map ((eT5 eS eI eI eI (eL eI))) p1.2)) else ((F.first_open p1.1).bind fun ac=>(((atE p1.1 ac).bind fun x3=>F.signs_in x3).bind fun y8=>qam (fun(ak:Int) (s5:List D)=>((F.supposed__2 ae p1.1 ac ak).bind fun x6=>qeA s5 x6).bind fun aM=>RE.ok aM) y8 (List.map ((eT5 eS eI eI eI (eL eI))) p1.2)).bind fun(p7:List D)=>RE.ok p7)
def F.supposed__3 (ae:PuzT) (ai:List Int) (ac:Int) (ak:Int):RE D:=
 ((RE.ok ([115,117,112,112,111,115,101])).bind fun x3=>(RE.ok 0).bind fun x4=>(RE.ok ac).bind fun x5=>(RE.ok ak).bind fun x6=>((RE.ok ae).bind fun x1=>(F.with_only ai ac ak).bind fun x2=>F.refuted__2 x1 x2).bind fun x7=>RE.ok (x3,x4,x5,x6,x7)).bind fun x8=>RE.ok (((eT5 eS eI eI eI (eL eD))) x8)
def F.refuted__3 (ae:PuzT) (ai:List Int):RE (List D):=
 ((F.think ae ai qaC).bind (qkz eI (eT5 eS eI eI eI (eL eI)))).bind fun p1=>(F.clashes p1.1).bind fun k2=>if k2=true then (RE.ok (List.map ((eT5 eS eI eI eI (eL eI))) p1.2)) else ((F.first_open p1.1).bind fun ac=>(((atE p1.1 ac).bind fun x3=>F.signs_in x3).bind fun y8=>qam (fun(ak:Int) (s5:List D)=>((F.supposed__3 ae p1.1 ac ak).bind fun x6=>qeA s5 x6).bind fun aM=>RE.ok aM) y8 (List.map ((eT5 eS eI eI eI (eL eI))) p1.2)).bind fun(p7:List D)=>RE.ok p7)
def F.supposed__4 (ae:PuzT) (ai:List Int) (ac:Int) (ak:Int):RE D:=
 ((RE.ok ([115,117,112,112,111,115,101])).bind fun x3=>(RE.ok 0).bind fun x4=>(RE.ok ac).bind fun x5=>(RE.ok ak).bind fun x6=>((RE.ok ae).bind fun x1=>(F.with_only ai ac ak).bind fun x2=>F.refuted__3 x1 x2).bind fun x7=>RE.ok (x3,x4,x5,x6,x7)).bind fun x8=>RE.ok (((eT5 eS eI eI eI (eL eD))) x8)
def F.refuted__4 (ae:PuzT) (ai:List Int):RE (List D):=
 ((F.think ae ai qaC).bind (qkz eI (eT5 eS eI eI eI (eL eI)))).bind fun p1=>(F.clashes p1.1).bind fun k2=>if k2=true then (RE.ok (List.map ((eT5 eS eI eI eI (eL eI))) p1.2)) else ((F.first_open p1.1).bind fun ac=>(((atE p1.1 ac).bind fun x3=>F.signs_in x3).bind fun y8=>qam (fun(ak:Int) (s5:List D)=>((F.supposed__4 ae p1.1 ac ak).bind fun x6=>qeA s5 x6).bind fun aM=>RE.ok aM) y8 (List.map ((eT5 eS eI eI eI (eL eI))) p1.2)).bind fun(p7:List D)=>RE.ok p7)
def F.supposed__5 (ae:PuzT) (ai:List Int) (ac:Int) (ak:Int):RE D:=
 ((RE.ok ([115,117,112,112,111,115,101])).bind fun x3=>(RE.ok 0).bind fun x4=>(RE.ok ac).bind fun x5=>(RE.ok ak).bind fun x6=>((RE.ok ae).bind fun x1=>(F.with_only ai ac ak).bind fun x2=>F.refuted__4 x1 x2).bind fun x7=>RE.ok (x3,x4,x5,x6,x7)).bind fun x8=>RE.ok (((eT5 eS eI eI eI (eL eD))) x8)
def F.refuted__5 (ae:PuzT) (ai:List Int):RE (List D):=
 ((F.think ae ai qaC).bind (qkz eI (eT5 eS eI eI eI (eL eI)))).bind fun p1=>(F.clashes p1.1).bind fun k2=>if k2=true then (RE.ok (List.map ((eT5 eS eI eI eI (eL eI))) p1.2)) else ((F.first_open p1.1).bind fun ac=>(((atE p1.1 ac).bind fun x3=>F.signs_in x3).bind fun y8=>qam (fun(ak:Int) (s5:List D)=>((F.supposed__5 ae p1.1 ac ak).bind fun x6=>qeA s5 x6).bind fun aM=>RE.ok aM) y8 (List.map ((eT5 eS eI eI eI (eL eI))) p1.2)).bind fun(p7:List D)=>RE.ok p7)
def F.answers_in (ae:PuzT) (ai:List Int):RE (List (List Int)):=
 ((F.think ae ai qaC).bind fun x1=>RE.ok x1.1).bind fun aq=>(F.clashes aq).bind fun k2=>if k2=true then (RE.ok []) else ((F.is_settled aq).bind fun k3=>if k3=true then ((F.filling_by aq).bind fun x4=>RE.ok [x4]) else ((F.first_open aq).bind fun ac=>(RE.ok ([]:List (List Int))).bind fun aj=>(((atE aq ac).bind fun x5=>F.signs_in x5).bind fun y23=>qam (fun(ak:Int) (s11:List (List Int))=>((RE.ok (decide ((List.length s11:Int)<2))).bind fun k12=>if k12=true then ((((RE.ok ae).bind fun x17=>(F.with_only aq ac ak).bind fun x18=>F.answers_in__5 x17 x18).bind fun x20=>qgr s11 x20).bind fun aj=>RE.ok aj) else (RE.ok s11)).bind fun(p21:List (List Int))=>RE.ok p21) y23 aj).bind fun(p22:List (List Int))=>RE.ok p22))
def F.supposed (ae:PuzT) (ai:List Int) (ac:Int) (ak:Int):RE D:=
 ((RE.ok ([115,117,112,112,111,115,101])).bind fun x3=>(RE.ok 0).bind fun x4=>(RE.ok ac).bind fun x5=>(RE.ok ak).bind fun x6=>((RE.ok ae).bind fun x1=>(F.with_only ai ac ak).bind fun x2=>F.refuted__5 x1 x2).bind fun x7=>RE.ok (x3,x4,x5,x6,x7)).bind fun x8=>RE.ok (((eT5 eS eI eI eI (eL eD))) x8)
def F.refuted (ae:PuzT) (ai:List Int):RE (List D):=
 ((F.think ae ai qaC).bind (qkz eI (eT5 eS eI eI eI (eL eI)))).bind fun p1=>(F.clashes p1.1).bind fun k2=>if k2=true then (RE.ok (List.map ((eT5 eS eI eI eI (eL eI))) p1.2)) else ((F.first_open p1.1).bind fun ac=>(((atE p1.1 ac).bind fun x3=>F.signs_in x3).bind fun y8=>qam (fun(ak:Int) (s5:List D)=>((F.supposed ae p1.1 ac ak).bind fun x6=>qeA s5 x6).bind fun aM=>RE.ok aM) y8 (List.map ((eT5 eS eI eI eI (eL eI))) p1.2)).bind fun(p7:List D)=>RE.ok p7)
def F.left_alone (ae:PuzT) (ai:List Int) (bJ:List Int):RE (List D):=
 (RE.ok (ai:List Int)).bind fun aq=>(RE.ok ([]:List D)).bind fun aM=>((qbD (List.length bJ:Int)).bind fun y43=>qam (fun(ac:Int) (s21:(List Int) × (List D))=>(((atE s21.1 ac).bind fun x22=>F.signs_in x22).bind fun y41=>qam (fun(ak:Int) (s30:(List Int) × (List D))=>((((atE bJ ac).bind fun x32=>RE.ok (!decide (ak=x32))).bind fun k35=>if k35=true then ((atE s30.1 ac).bind fun x33=>(RE.ok ak).bind fun x34=>F.stands x33 x34) else RE.ok false).bind fun k36=>if k36=true then (((F.supposed ae s30.1 ac ak).bind fun x38=>qeA s30.2 x38).bind fun aM=>(F.struck s30.1 ac ak).bind fun aq=>RE.ok (aq,aM)) else (RE.ok (s30.1,s30.2))).bind fun(p39:(List Int) × (List D))=>RE.ok (p39.1,p39.2)) y41 (s21.1,s21.2)).bind fun(p40:(List Int) × (List D))=>RE.ok (p40.1,p40.2)) y43 (aq,aM)).bind fun(p42:(List Int) × (List D))=>RE.ok p42.2
def F.solve (ae:PuzT):RE D:=
 ((RE.ok ae).bind fun x2=>((F.Puzzle_place ae).bind fun x1=>F.full x1).bind fun x3=>(RE.ok qaC).bind fun x4=>F.think x2 x3 x4).bind fun p5=>(F.clashes p5.1).bind fun k6=>if k6=true then (RE.ok ((eT2 eS (eL (eT5 eS eI eI eI (eL eI)))) ([110,111,110,101],p5.2))) else (((F.ways p5.1).bind fun x7=>RE.ok (decide (32<x7))).bind fun k9=>if k9=true then (RE.ok ((eT3 eS (eL eI) (eL (eT5 eS eI eI eI (eL eI)))) ([114,101,115,116,115],p5.1,p5.2))) else ((F.answers_in ae p5.1).bind fun aj=>(RE.ok (decide ((List.length aj:Int)=0))).bind fun k10=>if k10=true then (((RE.ok ([110,111,110,101])).bind fun x13=>((F.refuted ae p5.1).bind fun x12=>qgr (List.map ((eT5 eS eI eI eI (eL eI))) p5.2) x12).bind fun x14=>RE.ok (x13,x14)).bind fun x15=>RE.ok (((eT2 eS (eL eD))) x15)) else ((RE.ok (decide (1<(List.length aj:Int)))).bind fun k16=>if k16=true then (((RE.ok ([116,119,111])).bind fun x17=>(atE aj 0).bind fun x18=>(atE aj 1).bind fun x19=>RE.ok (x17,x18,x19)).bind fun x20=>RE.ok (((eT3 eS (eL eI) (eL eI))) x20)) else (((RE.ok ([111,110,101])).bind fun x26=>(atE aj 0).bind fun x27=>(((RE.ok ae).bind fun x21=>(RE.ok p5.1).bind fun x22=>(atE aj 0).bind fun x23=>F.left_alone x21 x22 x23).bind fun x25=>qgr (List.map ((eT5 eS eI eI eI (eL eI))) p5.2) x25).bind fun x28=>RE.ok (x26,x27,x28)).bind fun x29=>RE.ok (((eT3 eS (eL eI) (eL eD))) x29)))))
def F.without (aX:List Int) (ac:Int):RE (List Int):=
 (RE.ok (aX:List Int)).bind fun bc=>(qoP bc ac 0).bind fun bc=>RE.ok bc
def F.taken (ae:PuzT) (bu:List Int) (aT:List (List Nat)):RE (Option ((List Int) × (List (Int × (List Int))))):=
 ((F.settles ae aT).bind fun x1=>RE.ok (!x1)).bind fun k2=>if k2=true then (RE.ok (none:Option ((List Int) × (List (Int × (List Int)))))) else ((F.Puzzle_clues ae).bind fun aX=>((RE.ok bu).bind fun y62=>qam (fun(ac:Int) (s11:List Int)=>((((atE s11 ac).bind fun x12=>RE.ok (!decide (x12=0))).bind fun k18=>if k18=true then (((RE.ok ae).bind fun x15=>(F.without s11 ac).bind fun x14=>F.Puzzle_clued x15 x14).bind fun x16=>(RE.ok aT).bind fun x17=>F.settles x16 x17) else RE.ok false).bind fun k19=>if k19=true then ((F.without s11 ac).bind fun aX=>RE.ok aX) else (RE.ok s11)).bind fun(p20:List Int)=>RE.ok p20) y62 aX).bind fun(p21:List Int)=>(RE.ok ([]:List (Int × (List Int)))).bind fun bh=>((qvO bu).bind fun y61=>qam (fun(ac:Int) (s35:List (Int × (List Int)))=>(((atE p21 ac).bind fun x36=>RE.ok (!decide (x36=0))).bind fun k38=>if k38=true then (((RE.ok ae).bind fun x50=>(F.without p21 ac).bind fun x49=>F.Puzzle_clued x50 x49).bind fun bO=>(((RE.ok ac).bind fun x56=>(((RE.ok bO).bind fun x52=>((F.Puzzle_place ae).bind fun x51=>F.full x51).bind fun x53=>(RE.ok aT).bind fun x54=>F.think x52 x53 x54).bind fun x55=>RE.ok x55.1).bind fun x57=>RE.ok (x56,x57)).bind fun x58=>qeA s35 x58).bind fun bh=>RE.ok bh) else (RE.ok s35)).bind fun(p59:List (Int × (List Int)))=>RE.ok p59) y61 bh).bind fun(p60:List (Int × (List Int)))=>RE.ok (some (p21,p60)))
def F.other_answer (aj:D) (ac:Int) (ak:Int):RE D:=
 (((qlC aj 1).bind fun x1=>(RE.ok ac).bind fun x2=>qlC x1 x2).bind fun x3=>evC .ne (eD x3) (eI ak)).bind fun k5=>if k5=true then (qlC aj 1) else (qlC aj 2)
def F.least (ae:PuzT):RE D:=
 (((F.solve ae).bind fun x1=>(RE.ok 0).bind fun x2=>qlC x1 x2).bind fun x3=>evC .ne (eD x3) (eS ([111,110,101]))).bind fun k5=>if k5=true then (RE.exc 37 []) else ((F.Puzzle_clues ae).bind fun aX=>(RE.ok ([]:List (Int × D))).bind fun aU=>Fl.bR ((RE.ok (qqV aX)).bind fun y54=>qbL (fun(p33:Int × Int) (s32:List (Int × D))=>((RE.ok (!decide (p33.2=0))).bind fun k34=>if k34=true then ((((RE.ok ae).bind fun x36=>(F.without aX p33.1).bind fun x35=>F.Puzzle_clued x36 x35).bind fun x37=>F.solve x37).bind fun aj=>((qlC aj 0).bind fun x38=>evC .eq (eD x38) (eS ([111,110,101]))).bind fun k40=>if k40=true then ((((RE.ok ([115,112,97,114,101])).bind fun x41=>(RE.ok p33.1).bind fun x42=>(qlC aj 2).bind fun x43=>RE.ok (x41,x42,x43)).bind fun x44=>RE.ok (((eT3 eS eI eD)) x44)).bind fun x45=>RE.ok (.rt x45)) else (((qlC aj 0).bind fun x46=>evC .eq (eD x46) (eS ([114,101,115,116,115]))).bind fun k48=>if k48=true then (RE.ok (.rt ((eT2 eS eI) ([114,101,115,116,115],p33.1)))) else ((((RE.ok p33.1).bind fun x50=>(F.other_answer aj p33.1 p33.2).bind fun x51=>RE.ok (x50,x51)).bind fun x52=>qeA s32 x52).bind fun aU=>RE.ok (.nx aU)))) else (RE.ok (.nx s32)):RE (Fl (D) (List (Int × D))))) y54 aU) fun(p53:List (Int × D))=>RE.ok ((eT2 eS (eL (eT2 eI eD))) ([108,101,97,115,116],p53)))
def F.thought_out (ae:PuzT) (bp:List Int) (aT:List (List Nat)):RE ((List Int) × (List (List Nat × Int × Int × Int × (List Int)))):=
 (RE.ok ae).bind fun x3=>((F.Puzzle_place ae).bind fun x1=>(RE.ok bp).bind fun x2=>F.masks_by x1 x2).bind fun x4=>(RE.ok aT).bind fun x5=>F.think x3 x4 x5
def F.left_out (bp:List Int) (ac:Int):RE (List Int):=
 (RE.ok (bp:List Int)).bind fun bc=>(qoP bc ac 0).bind fun bc=>RE.ok bc
def F.wrong (ae:PuzT) (bp:List Int) (aT:List (List Nat)):RE (Option ((List Int) × (List (List Nat × Int × Int × Int × (List Int))) × (List (Int × (List Int))))):=
 ((((F.thought_out ae bp aT).bind fun x1=>RE.ok x1.1).bind fun x2=>F.clashes x2).bind fun x3=>RE.ok (!x3)).bind fun k4=>if k4=true then (RE.ok (none:Option ((List Int) × (List (List Nat × Int × Int × Int × (List Int))) × (List (Int × (List Int)))))) else ((RE.ok (bp:List Int)).bind fun aq=>((qtT ((List.length aq:Int) - 1) (-1) (-1)).bind fun y49=>qam (fun(ac:Int) (s11:List Int)=>(((atE s11 ac).bind fun x12=>RE.ok (!decide (x12=0))).bind fun k14=>if k14=true then ((F.left_out s11 ac).bind fun bc=>((((F.thought_out ae bc aT).bind fun x18=>RE.ok x18.1).bind fun x19=>F.clashes x19).bind fun k20=>if k20=true then ((RE.ok (bc:List Int)).bind fun aq=>RE.ok aq) else (RE.ok s11)).bind fun(p21:List Int)=>RE.ok p21) else (RE.ok s11)).bind fun(p22:List Int)=>RE.ok p22) y49 aq).bind fun(p23:List Int)=>((qbD (List.length p23:Int)).bind fun x26=>gd (leB x26.length) (lcE (fun(ac:Int)=>((atE p23 ac).bind fun x24=>RE.ok (!decide (x24=0)))) (fun(ac:Int)=>(RE.ok ac)) x26)).bind fun ao=>(RE.ok ([]:List (Int × (List Int)))).bind fun bh=>((RE.ok ao).bind fun y48=>qam (fun(ac:Int) (s34:List (Int × (List Int)))=>(((RE.ok ac).bind fun x39=>(((RE.ok ae).bind fun x35=>(F.left_out p23 ac).bind fun x36=>(RE.ok aT).bind fun x37=>F.thought_out x35 x36 x37).bind fun x38=>RE.ok x38.1).bind fun x40=>RE.ok (x39,x40)).bind fun x41=>qeA s34 x41).bind fun bh=>RE.ok bh) y48 bh).bind fun(p42:List (Int × (List Int)))=>((RE.ok ao).bind fun x44=>((F.thought_out ae p23 aT).bind fun x43=>RE.ok x43.2).bind fun x45=>(RE.ok p42).bind fun x46=>RE.ok (x44,x45,x46)).bind fun x47=>RE.ok ((some) x47))
def F.all_signs (af:Int × Int × Int):RE (List Int):=
 qiy 1 (af.2.2+1)
def F.signs_by (af:Int × Int × Int) (aA:Option (List Int)):RE (List Int):=
 (RE.ok aA.isNone).bind fun k1=>if k1=true then (F.all_signs af) else ((((unO aA).bind fun x2=>RE.ok (qe9 x2)).bind fun x3=>(F.all_signs af).bind fun x4=>RE.ok (!decide (x3=x4))).bind fun k5=>if k5=true then (RE.exc 38 []) else ((unO aA).bind fun x6=>RE.ok x6))
def F.moved_filling (af:Int × Int × Int) (a9:List Int) (aS:Int) (aA:Option (List Int)):RE (List Int):=
 ((F.signs_by af aA).bind fun x2=>qgr [0] x2).bind fun bv=>((RE.ok a9).bind fun x3=>gd (leB x3.length) (RE.ok (List.map (fun(ac:Int)=>0) x3))).bind fun aj=>(((RE.ok a9).bind fun x4=>(F.moved_cells af aS).bind fun x5=>RE.ok (List.zip x4 x5)).bind fun y13=>qam (fun(p9:Int × Int) (s8:List Int)=>((atE bv p9.1).bind fun x10=>(RE.ok p9.2).bind fun x11=>qoP s8 x11 x10).bind fun aj=>RE.ok aj) y13 aj).bind fun(p12:List Int)=>RE.ok p12
def F.gone (am:RuleT) (ao:List Int):RE (List Int):=
 (F.Rule_spots am).bind fun x1=>gd (leB x1.length) (lcE (fun(ac:Int)=>(RE.ok true)) (fun(ac:Int)=>(atE ao ac)) x1)
def F.Unlike_carried (ab:RuleT) (af:Int × Int × Int) (ao:List Int) (aA:List Int):RE RuleT:=
 (RE.ok af).bind fun x1=>(F.gone ab ao).bind fun x2=>(RE.ok 0).bind fun x3=>(RE.ok 0).bind fun x4=>RE.ok (RuleT.mk .unlike x1 x2 x3 x4)
def F.Total_carried (ab:RuleT) (af:Int × Int × Int) (ao:List Int) (aA:List Int):RE RuleT:=
 (RE.ok af).bind fun x1=>(F.gone ab ao).bind fun x2=>(RE.ok ab.wanted).bind fun x3=>(RE.ok 0).bind fun x4=>RE.ok (RuleT.mk .total x1 x2 x3 x4)
def F.Rising_carried (ab:RuleT) (af:Int × Int × Int) (ao:List Int) (aA:List Int):RE RuleT:=
 (RE.ok af).bind fun x1=>(F.gone ab ao).bind fun x2=>(RE.ok 0).bind fun x3=>(RE.ok 0).bind fun x4=>RE.ok (RuleT.mk .rising x1 x2 x3 x4)
def F.Seen_carried (ab:RuleT) (af:Int × Int × Int) (ao:List Int) (aA:List Int):RE RuleT:=
 (RE.ok af).bind fun x1=>(F.gone ab ao).bind fun x2=>(RE.ok ab.wanted).bind fun x3=>(RE.ok 0).bind fun x4=>RE.ok (RuleT.mk .seen x1 x2 x3 x4)
def F.Counted_carried (ab:RuleT) (af:Int × Int × Int) (ao:List Int) (aA:List Int):RE RuleT:=
 (RE.ok af).bind fun x1=>(F.gone ab ao).bind fun x2=>(RE.ok ab.wanted).bind fun x3=>(atE aA (ab.sign - 1)).bind fun x4=>RE.ok (RuleT.mk .counted x1 x2 x3 x4)
def F.Joined_carried (ab:RuleT) (af:Int × Int × Int) (ao:List Int) (aA:List Int):RE RuleT:=
 (RE.ok af).bind fun x2=>((F.many_cells af).bind qbD).bind fun x3=>(RE.ok 0).bind fun x4=>(atE aA (ab.sign - 1)).bind fun x5=>RE.ok (RuleT.mk .joined x2 x3 x4 x5)
def F.NoSquare_carried (ab:RuleT) (af:Int × Int × Int) (ao:List Int) (aA:List Int):RE RuleT:=
 (RE.ok af).bind fun x2=>((F.many_cells af).bind qbD).bind fun x3=>(RE.ok 0).bind fun x4=>(atE aA (ab.sign - 1)).bind fun x5=>RE.ok (RuleT.mk .nosquare x2 x3 x4 x5)
def F.Ring_carried (ab:RuleT) (af:Int × Int × Int) (ao:List Int) (aA:List Int):RE RuleT:=
 (RE.ok af).bind fun x2=>((F.many_cells af).bind qbD).bind fun x3=>(RE.ok 0).bind fun x4=>(atE aA (ab.sign - 1)).bind fun x5=>RE.ok (RuleT.mk .ring x2 x3 x4 x5)
def F.m_reckons (r:RuleT)  : RE Bool:=match r.k with
 |.unlike=>F.Rule_reckons r
 |.total=>F.Total_reckons r
 |.rising=>F.Rising_reckons r
 |.seen=>F.Seen_reckons r
 |.counted=>F.Rule_reckons r
 |.joined=>F.Rule_reckons r
 |.nosquare=>F.Rule_reckons r
 |.ring=>F.Rule_reckons r
def F.reckons (ae:PuzT):RE Bool:=
 ((F.Puzzle_rules ae).bind fun x1=>gd (leB x1.length) (lcE (fun(am:RuleT)=>(RE.ok true)) (fun(am:RuleT)=>(F.m_reckons am)) x1)).bind fun x2=>RE.ok (List.any x2 id)
def F.m_carried (r:RuleT) (a0:Int × Int × Int) (a1:List Int) (a2:List Int):RE RuleT:=match r.k with
 |.unlike=>F.Unlike_carried r a0 a1 a2
 |.total=>F.Total_carried r a0 a1 a2
 |.rising=>F.Rising_carried r a0 a1 a2
 |.seen=>F.Seen_carried r a0 a1 a2
 |.counted=>F.Counted_carried r a0 a1 a2
 |.joined=>F.Joined_carried r a0 a1 a2
 |.nosquare=>F.NoSquare_carried r a0 a1 a2
 |.ring=>F.Ring_carried r a0 a1 a2
def F.moved (ae:PuzT) (aS:Int) (aA:Option (List Int)):RE PuzT:=
 (F.Puzzle_place ae).bind fun af=>(F.look_at_move aS).bind fun _=>(F.signs_by af aA).bind fun bv=>(((F.all_signs af).bind fun x2=>RE.ok (!decide (bv=x2))).bind fun k3=>if k3=true then (F.reckons ae) else RE.ok false).bind fun k4=>if k4=true then (RE.exc 38 []) else ((F.moved_floor af aS).bind fun bK=>(F.moved_cells af aS).bind fun ao=>((F.Puzzle_rules ae).bind fun x6=>gd (leB x6.length) (lcE (fun(am:RuleT)=>(RE.ok true)) (fun(am:RuleT)=>((F.m_carried am bK ao bv).bind fun x5=>F.Rule_line x5)) x6)).bind fun bn=>(RE.ok bK).bind fun x11=>(RE.ok (List.map (eS) bn)).bind fun x12=>((RE.ok af).bind fun x7=>(F.Puzzle_clues ae).bind fun x8=>(RE.ok aS).bind fun x9=>(RE.ok (some bv)).bind fun x10=>F.moved_filling x7 x8 x9 x10).bind fun x13=>F.Puzzle_new x11 x12 x13)
def F.orders (aY:List Int):RE (List (List Int)):=
 (RE.ok ([[]]:List (List Int))).bind fun aj=>((RE.ok aY).bind fun y45=>qam (fun(bM:Int) (s22:List (List Int))=>(RE.ok ([]:List (List Int))).bind fun b9=>((RE.ok s22).bind fun y43=>qam (fun(bu:List Int) (s32:List (List Int))=>((RE.ok aY).bind fun y41=>qam (fun(aJ:Int) (s35:List (List Int))=>((RE.ok (!decide (aJ∈bu))).bind fun k36=>if k36=true then (((qgr bu [aJ]).bind fun x38=>qeA s35 x38).bind fun b9=>RE.ok b9) else (RE.ok s35)).bind fun(p39:List (List Int))=>RE.ok p39) y41 s32).bind fun(p40:List (List Int))=>RE.ok p40) y43 b9).bind fun(p42:List (List Int))=>(RE.ok (p42:List (List Int))).bind fun aj=>RE.ok aj) y45 aj).bind fun(p44:List (List Int))=>RE.ok p44
end Cm
namespace Cm
section
variable {α β γ σ:Type}
def W (m:RE α) (Q:α→Prop):Prop:=∃v,m=.ok v∧Q v
theorem W.ok {v:α} {Q:α→Prop} (h:Q v):W (.ok v) Q:=⟨v,rfl,h⟩
theorem W.of {m:RE α} {v:α} {Q:α→Prop} (e:m=.ok v) (h:Q v):W m Q:=⟨v,e,h⟩
theorem W.bind {m:RE α} {f:α→RE β} {P:α→Prop} {Q:β→Prop} (h:W m P) (k:∀v,P v→W (f v) Q):W (m.bind f) Q:=by
 obtain⟨v,e,h⟩:=h;rw[e];exact k v h
theorem W.mono {m:RE α} {P Q:α→Prop} (h:W m P) (k:∀v,P v→Q v):W m Q:=by
 obtain⟨v,e,h⟩:=h;exact⟨v,e,k v h⟩
theorem W.eq {m:RE α} {v:α} (h:W m fun x=>x=v):m=.ok v:=by obtain⟨w,e,rfl⟩:=h;exact e
theorem W.get {m:RE α} {v:α} {Q:α→Prop} (h:W m Q) (e:m=.ok v):Q v:=by
 obtain⟨w,e',h⟩:=h;rw[e] at e';cases e';exact h
theorem qgt {b:Bool} {r:RE α} (h:b=true):gd b r=r:=by rw[h];rfl
theorem qiM {f:α→σ→RE σ}:∀{xs:List α} {s:σ} (I:Nat→σ→Prop),I 0 s→(∀i x s,xs[i]? = some x→I i s→W (f x s) (I (i+1)))→W (qam f xs s) (I xs.length)
 |[],s,I,h0,_=>⟨s,rfl,h0⟩
 |x::xs,s,I,h0,hs=>by
  obtain⟨v,e,h⟩:=hs 0 x s rfl h0
  unfold qam
  rw[e]
  exact qiM (xs:=xs) (fun i=>I (i+1)) h fun i y s hy=>hs (i+1) y s (by simpa using hy)
theorem qo6 {f:α→σ→RE (Fl β σ)} (I:σ→Prop) {xs:List α} {s:σ} (h0:I s) (hs:∀x∈xs,∀s,I s→∃s',f x s=.ok (.nx s')∧I s'):∃s',qbL f xs s=.ok (.nx s')∧I s':=by
 induction xs generalizing s with
 |nil=>exact⟨s,rfl,h0⟩
 |cons x xs ih =>
  obtain⟨s',e,h⟩:=hs x (by simp) s h0
  unfold qbL
  rw[e]
  exact ih h fun y hy=>hs y (List.mem_cons_of_mem _ hy)
theorem qrV {f:α→Unit→RE (Fl β Unit)} {xs:List α} (hs:∀x∈xs,f x ()=.ok (.nx ())):qbL f xs ()=.ok (.nx ()):=by
 obtain⟨s',e,_⟩:=qo6 (f:=f) (fun _=>True) (xs:=xs) (s:=()) trivial fun x hx _ _=>⟨(),hs x hx,trivial⟩
 exact e
@[simp] theorem qxu {b:β} {k:σ→RE β}:Fl.bR (.ok (.rt b)) k=.ok b:=rfl
@[simp] theorem qxt {s:σ} {k:σ→RE β}:Fl.bR (.ok (.nx s)) k=k s:=rfl
@[simp] theorem qwJ {b:β} {τ:Type} {k:σ→RE (Fl β τ)}:Fl.bF (.ok (.rt b)) k=.ok (.rt b):=rfl
@[simp] theorem qxc {s:σ} {τ:Type} {k:σ→RE (Fl β τ)}:Fl.bF (.ok (.nx s)) k=k s:=rfl
theorem qnG {f:α→RE β} {g:α→β} {xs:List α} (h:∀x∈xs,f x=.ok (g x)):lcE (fun _=>.ok true) f xs=.ok (xs.map g):=by
 induction xs with
 |nil=>rfl
 |cons x xs ih =>
  rw[lcE,h x (by simp),ih fun y hy=>h y (List.mem_cons_of_mem _ hy)]
  rfl
theorem qbK {xs:List α} {k:Int} {v:α} (h0:0≤k) (h:xs[k.toNat]? = some v):atE xs k=.ok v:=by
 have hl:k.toNat<xs.length:=by
  rcases Nat.lt_or_ge k.toNat xs.length with h' | h'
  ·exact h'
  ·rw[List.getElem?_eq_none h'] at h;cases h
 unfold atE L2.atI
 have:L2.ixN xs.length k=some k.toNat:=by
  have:=qok hl
  rwa [show((k.toNat:Nat):Int)=k from by omega] at this
 rw[this]
 show(match xs[k.toNat]? with
  |some x=>RE.ok x
  |none=>.bad)=_
 rw[h]
def gI (xs:List Int) (k:Int):Int:=xs.getD k.toNat 0
theorem qpL {xs:List Int} {k:Int} (h0:0≤k) (h1:k<xs.length):atE xs k=.ok (gI xs k):=by
 refine qbK h0 ?_
 rw[gI,List.getD_eq_getElem?_getD,List.getElem?_eq_getElem (by omega)];rfl
@[simp] theorem qkP {x:α} {xs:List α}:atE (x::xs) 0=.ok x:=qbK (by decide) rfl
@[simp] theorem qpE {x y:α} {xs:List α}:atE (x::y::xs) 1=.ok y:=qbK (by decide) rfl
@[simp] theorem qri {x y z:α} {xs:List α}:atE (x::y::z::xs) 2=.ok z:=qbK (by decide) rfl
@[simp] theorem quI {x y z u:α} {xs:List α}:atE (x::y::z::u::xs) 3=.ok u:=qbK (by decide) rfl
theorem qkQ {xs:List α} {x:α} (h:xs.length<16777216):qeA xs x=.ok (xs++[x]):=qgt (ql9 (by have:LIM=16777216:=rfl;omega))
theorem qgy {xs ys:List α} (h:xs.length+ys.length≤16777216):qgr xs ys=.ok (xs++ys):=qgt (ql9 (by have:LIM=16777216:=rfl;omega))
theorem qlH {xs ys:List Nat} (h:xs.length+ys.length≤16777216):qfC xs ys=.ok (xs++ys):=qgt (ql9 (by have:LIM=16777216:=rfl;omega))
theorem gdl {xs:List α} {r:RE β} (h:xs.length≤16777216):gd (leB xs.length) r=r:=qgt (ql9 (by have:LIM=16777216:=rfl;omega))
theorem qqs {x y:Int} (h:x.natAbs≤18446744073709551615):qip x y=.ok (x*y):=qgt (qjx (by rw[Nat.ble_eq];exact h))
theorem quE {x y:Int} (h:y.natAbs≤18446744073709551615):qip x y=.ok (x*y):=qgt (qqM (by rw[Nat.ble_eq];exact h))
theorem qq6 {x y:Int} (h0:y≠0) (h:y.natAbs<1073741824):qsV x y=.ok (x.fdiv y):=qgt (qvF ⟨h0,h⟩)
theorem qcL {x y:Int} (h0:y≠0):qjU x y=.ok (x.fmod y):=qgt (qxa h0)
theorem qrX {x y:Int} (h0:0≤y) (h1:y≤1000000) (h2:x.natAbs<2 ^ 64):qvU x y=.ok (x ^ y.toNat):=qgt (qvT ⟨h0,h1,h2⟩)
def qeD (n:Nat):List Int:=(List.range n).map fun(i:Nat)=>(i:Int)
theorem qii (n:Nat):(qeD n).length=n:=by simp[qeD]
theorem qix {n:Nat} {x:Int}:x∈qeD n↔0≤x∧x<n:=by
 unfold qeD
 rw[List.mem_map]
 constructor
 ·rintro⟨i,h,rfl⟩
  have:=List.mem_range.mp h
  omega
 ·rintro⟨h0,h1⟩
  exact⟨x.toNat,List.mem_range.mpr (by omega),by omega⟩
theorem qpt {n i:Nat} {x:Int} (h:(qeD n)[i]? = some x):x=i∧i<n:=by
 unfold qeD at h
 rw[List.getElem?_map] at h
 rcases Nat.lt_or_ge i n with q | q
 ·rw[List.getElem?_range q] at h;cases h;exact⟨rfl,q⟩
 ·rw[List.getElem?_eq_none (by simpa using q)] at h;cases h
theorem qfu {n:Int} (h:n≤1000000) (h0:0≤n):qbD n=.ok (qeD n.toNat):=by
 have h2:qmE n=true:=by
  have:=qvi (n:=n.toNat) (by omega)
  rwa [show((n.toNat:Nat):Int)=n from by omega] at this
 rw[qbD,h2]
 simp only[qky,qeD,qfN]
 congr 1
 exact List.map_congr_left fun i _=>by omega
def qls (i j:Int):List Int:=qfN i 1 (j - i).toNat
theorem qme {i j x:Int}:x∈qls i j↔i≤x∧x<j:=by
 unfold qls qfN
 rw[List.mem_map]
 constructor
 ·rintro⟨k,h,rfl⟩
  have:=List.mem_range.mp h
  omega
 ·rintro⟨h0,h1⟩
  exact⟨(x - i).toNat,List.mem_range.mpr (by omega),by omega⟩
theorem qbQ (a:Int) {n:Int} (h:0<n):0≤a.fmod n∧a.fmod n<n:=by
 rw[Int.fmod_eq_emod_of_nonneg _ (Int.le_of_lt h)]
 exact⟨Int.emod_nonneg _ (by omega),Int.emod_lt_of_pos _ h⟩
theorem qju {a n:Int} (h:0<n):a.fdiv n=a / n:=Int.fdiv_eq_ediv_of_nonneg _ (Int.le_of_lt h)
theorem qub {p:Prop} [Decidable p] {x y:α}:(if decide p=true then x else y)=if p then x else y:=by
 by_cases h:p<;>simp[h]
end
end Cm
namespace Cm
structure FOk (fl:Int × Int × Int):Prop where
 h1:1≤fl.1
 h2:fl.1≤6
 w1:1≤fl.2.1
 w2:fl.2.1≤6
 n:fl.1*fl.2.1≤16
 s1:1≤fl.2.2
 s2:fl.2.2≤6
abbrev nC (fl:Int × Int × Int):Int:=fl.1*fl.2.1
section
variable {fl:Int × Int × Int}
theorem FOk.n1 (h:FOk fl):1≤nC fl:=by
 have:=Int.mul_le_mul h.h1 h.w1 (by decide) (by have:=h.h1;omega)
 simpa using this
theorem qfK (h:FOk fl):F.many_cells fl=.ok (nC fl):=qqs (by have:=h.h1;have:=h.h2;omega)
def qgl (fl:Int × Int × Int) (c:Int):List Int:=(if 0<c / fl.2.1 then [c - fl.2.1] else [])++(if 0<c % fl.2.1 then [c - 1] else [])++(if c % fl.2.1<fl.2.1 - 1 then [c+1] else [])++(if c / fl.2.1<fl.1 - 1 then [c+fl.2.1] else [])
abbrev inC (fl:Int × Int × Int) (c:Int):Prop:=0≤c∧c<nC fl
theorem qh1 (h:FOk fl) {c:Int} (hc:inC fl c):c=c / fl.2.1*fl.2.1+c % fl.2.1∧0≤c / fl.2.1∧c / fl.2.1<fl.1∧0≤c % fl.2.1∧c % fl.2.1<fl.2.1:=by
 have w:=h.w1
 refine⟨?_,Int.ediv_nonneg hc.1 (by omega),?_,Int.emod_nonneg _ (by omega),Int.emod_lt_of_pos _ (by omega)⟩
 ·have:=Int.mul_ediv_add_emod c fl.2.1
  rw[Int.mul_comm] at this;omega
 ·exact Int.ediv_lt_of_lt_mul (by omega) hc.2
theorem qj5 {w r q:Int} (h1:0≤q) (h2:q<w):(r*w+q) / w=r∧(r*w+q) % w=q:=by
 constructor
 ·rw[Int.add_comm,Int.add_mul_ediv_right _ _ (by omega),Int.ediv_eq_zero_of_lt h1 h2];omega
 ·rw[Int.add_comm,Int.add_mul_emod_self_right,Int.emod_eq_of_lt h1 h2]
end
def stB (m s:Int):Bool:=m.toNat.testBit (s - 1).toNat
def hoB (m s:Int):Bool:=decide (m.toNat ||| 2 ^ (s - 1).toNat=2 ^ (s - 1).toNat)
theorem qnn {m s:Int} (h1:1≤s):hoB m s=true↔∀t,1≤t→stB m t=true→t=s:=by
 unfold hoB stB
 rw[decide_eq_true_eq]
 constructor
 ·intro h t h0 ht
  have:=congrArg (fun n=>Nat.testBit n (t - 1).toNat) h
  simp only[Nat.testBit_or,Nat.testBit_two_pow,ht,Bool.true_or] at this
  have:=of_decide_eq_true this.symm
  omega
 ·intro h
  refine Nat.eq_of_testBit_eq fun i=>?_
  rw[Nat.testBit_or,Nat.testBit_two_pow]
  cases e:m.toNat.testBit i
  ·rfl
  ·have:=h (i+1) (by omega) (by rw[show((i:Int)+1 - 1).toNat=i from by omega];exact e)
   have:(s - 1).toNat=i:=by omega
   simp[this]
def sgn (m:Int):List Int:=(qls 1 7).filter (stB m)
def MOk (fl:Int × Int × Int) (ms:List Int):Prop:=(ms.length:Int)=nC fl∧∀m∈ms,0≤m∧m<64
theorem qqI {ms:List Int} {k:Int} (h0:0≤k) (h1:k<ms.length):gI ms k∈ms:=by
 unfold gI
 rw[List.getD_eq_getElem?_getD,List.getElem?_eq_getElem (by omega)]
 exact List.getElem_mem (by omega)
theorem MOk.at_ {fl:Int × Int × Int} {ms:List Int} (h:MOk fl ms) {c:Int} (hc:inC fl c):atE ms c=.ok (gI ms c):=qpL hc.1 (by have:=hc.2;have:=h.1;omega)
theorem MOk.b {fl:Int × Int × Int} {ms:List Int} (h:MOk fl ms) {c:Int} (hc:inC fl c):0≤gI ms c∧gI ms c<64:=h.2 _ (qqI hc.1 (by have:=hc.2;have:=h.1;omega))
end Cm
namespace Cm
def dg (n:Nat):List Nat:=if n<10 then [48+n] else [48+n / 10,48+n % 10]
def dgI (n:Int):List Nat:=dg n.toNat
theorem qtu:∀n<100,(toString ((n:Nat):Int):PySem.Str).cps.toList=dg n:=by decide +kernel
theorem qsA:∀n<100,qs6 ((n:Nat):Int)=true:=by decide +kernel
theorem qti:∀n<100,(dg n).length≤2∧1≤(dg n).length:=by decide +kernel
theorem qrj {n:Int} (h0:0≤n) (h1:n<100):qoW n=.ok (dgI n):=by
 obtain⟨k,rfl⟩:∃k:Nat,n=k:=⟨n.toNat,by omega⟩
 unfold qoW
 rw[qgt (qsA k (by omega)),qtu k (by omega)]
 simp[dgI]
def isI (r:RE Int) (n:Nat):Bool:=match r with
 |.ok (.ofNat m)=>Nat.beq m n
 |_=>false
theorem qn6 {r:RE Int} {n:Nat} (h:isI r n=true):r=.ok ((n:Nat):Int):=by
 unfold isI at h
 split at h
 ·rename_i m
  rw[Nat.eq_of_beq_eq_true h];rfl
 ·cases h
theorem qrt:∀n<100,isI (F.number_of (dg n)) n=true:=by decide +kernel
theorem qnJ {n:Int} (h0:0≤n) (h1:n<100):F.number_of (dgI n)=.ok n:=by
 obtain⟨k,rfl⟩:∃k:Nat,n=k:=⟨n.toNat,by omega⟩
 have:=qn6 (qrt k (by omega))
 simpa[dgI] using this
theorem qro (c:Nat) (ws:List (List Nat)):(PySem.Txt.join (qa1 [c]) (ws.map qa1)).cps.toList=TL.joinL [c] ws:=by
 have:=SX.join_S [c] ws
 show(PySem.Txt.join (SX.S [c]) (ws.map SX.S)).cps.toList=_
 rw[this]
theorem qjD (c:Nat):∀ws:List (List Nat),(TL.joinL [c] ws).length≤(ws.map List.length).sum+ws.length
 |[]=>by simp[TL.joinL]
 |[p]=>by simp[TL.joinL]
 |p::q::r=>by
  have:=qjD c (q::r)
  simp only[TL.joinL,List.length_append,List.map_cons,List.sum_cons,List.length_cons,List.length_nil] at this ⊢
  omega
theorem qnH {b:Nat}:∀{ws:List (List Nat)},(∀w∈ws,w.length≤b)→(ws.map List.length).sum≤ws.length*b
 |[],_=>by simp
 |w::ws,h=>by
  have h1:=h w (by simp)
  have h2:=qnH (ws:=ws) fun v hv=>h v (List.mem_cons_of_mem _ hv)
  simp only[List.map_cons,List.sum_cons,List.length_cons,Nat.add_mul,Nat.one_mul]
  omega
theorem qlK {c b:Nat} {ws:List (List Nat)} (h:∀w∈ws,w.length≤b) (hb:ws.length*(b+1)≤16777216):qj6 [c] ws=.ok (TL.joinL [c] ws):=by
 unfold qj6
 rw[qro,qgt (ql9 ?_)]
 have:=qnH h
 have l:LIM=16777216:=rfl
 simp only[List.length_cons,List.length_nil]
 rw[Nat.mul_add] at hb
 omega
theorem qvB {α:Type} (x:α) (xs:List α):qdu (x::xs) (some 1) none=xs:=by
 have h1:HT.sIx (x::xs).length 0 (some 1)=1:=by simp[HT.sIx]
 have h2:HT.sIx (x::xs).length (x::xs).length none=xs.length+1:=by simp[HT.sIx]
 unfold qdu
 rw[h1,h2]
 simp
theorem qfj (f:Nat→Int):∀i,(PyProof.Rows.firstMet f i).length=i→((List.range i).map f).Nodup
 |0,_=>by simp
 |i+1,h=>by
  rw[PyProof.Rows.firstMet_succ] at h
  unfold PyProof.Rows.step_dedup at h
  have hle:=PyProof.Rows.firstMet_length_le f i
  split at h
  ·omega
  ·rename_i hn
   rw[List.length_append,List.length_singleton] at h
   have ih:=qfj f i (by omega)
   rw[PyProof.Rows.firstMet_any] at hn
   rw[List.range_succ,List.map_append,List.nodup_append]
   refine⟨ih,by simp,?_⟩
   intro a ha b hb e
   simp only[List.map_cons,List.map_nil,List.mem_singleton] at hb
   subst hb
   subst e
   exact hn (List.any_eq_true.mpr ⟨_,ha,by simp⟩)
theorem qhZ (ns:List Int):(List.range ns.length).map (fun i=>ns.getD i 0)=ns:=by
 apply List.ext_getElem
 ·simp
 ·intro i h1 h2
  simp at h1
  simp[h2]
theorem qhu (f:Nat→Int):∀i,((List.range i).map f).Nodup→(PyProof.Rows.firstMet f i).length=i
 |0,_=>rfl
 |i+1,h=>by
  rw[List.range_succ,List.map_append,List.nodup_append] at h
  have ih:=qhu f i h.1
  rw[PyProof.Rows.firstMet_succ]
  unfold PyProof.Rows.step_dedup
  split
  ·rename_i hn
   rw[PyProof.Rows.firstMet_any] at hn
   obtain⟨a,ha,e⟩:=List.any_eq_true.mp hn
   exact absurd (by simpa using e) (h.2.2 a ha (f i) (by simp))
  ·rw[List.length_append,List.length_singleton,ih]
theorem qha {ns:List Int} (h:ns.Nodup):qlD ns=ns.length:=qhu _ _ (by rwa [qhZ])
theorem qiK (ns:List Int):qlD ns=ns.length↔ns.Nodup:=
 ⟨fun h=>by have:=qfj _ _ h;rwa [qhZ] at this,qha⟩
theorem qiL {ns:List Int} (h:ns.length≤1000):qio ns=.ok (qlD ns:Int):=qgt (by rw[Nat.ble_eq];exact h)
theorem qqX {ns:List Int} (h:ns.length≤1000):((qio ns).bind fun x=>RE.ok (decide (x=(List.length ns:Int))))=.ok (decide ns.Nodup):=by
 rw[qiL h]
 simp only[RE.bind_ok]
 congr 1
 refine decide_eq_decide.mpr ⟨fun e=>(qiK ns).mp (by omega),fun e=>?_⟩
 have:=(qiK ns).mpr e
 omega
theorem qoK:∀{ns:List Int} {b:Int},ns≠[]→(∀n∈ns,n<b)→qhM ns<b
 |[],_,h,_=>absurd rfl h
 |[x],b,_,h=>h x (by simp)
 |x::y::r,b,_,h=>by
  have h1:=h x (by simp)
  have h2:=qoK (ns:=y::r) (b:=b) (by simp) fun n hn=>h n (List.mem_cons_of_mem _ hn)
  show max x (qhM (y::r))<b
  omega
theorem qoH:∀{n:Nat} {cs:List Int},cs.Nodup→(∀c∈cs,0≤c∧c<n)→cs.length≤n
 |0,[],_,_=>Nat.le_refl _
 |0,c::cs,_,h=>by have:=h c (by simp);omega
 |n+1,cs,hn,h=>by
  have ih:=qoH (n:=n) (cs:=cs.erase n) (hn.erase _) fun c hc=>by
   have h1:=(List.Nodup.mem_erase_iff hn).mp hc
   have:=h c h1.2
   have:=h1.1
   omega
  by_cases hm:(n:Int)∈cs
  ·have:=List.length_erase_of_mem hm
   omega
  ·rw[List.erase_of_not_mem hm] at ih
   omega
structure CsOk (fl:Int × Int × Int) (cs:List Int):Prop where
 ne:cs≠[]
 nd:cs.Nodup
 inn:∀c∈cs,inC fl c
theorem CsOk.len {fl:Int × Int × Int} {cs:List Int} (h:CsOk fl cs) (hf:FOk fl):cs.length≤16:=by
 have:=qoH (n:=(nC fl).toNat) h.nd fun c hc=>by have q:=h.inn c hc;have q1:=q.1;have q2:=q.2;exact⟨q1,by omega⟩
 have:=hf.n
 have:=hf.n1
 have e:nC fl=fl.1*fl.2.1:=rfl
 omega
theorem qiT {fl:Int × Int × Int} {cs:List Int} (hf:FOk fl) (h:CsOk fl cs):F.cells_told fl cs=.ok cs:=by
 have hl:=h.len hf
 have e:=qqX (ns:=cs) (by omega)
 unfold F.cells_told
 rw[decide_eq_false h.ne]
 simp only[RE.bind_ok,Bool.false_eq_true,if_false]
 rw[qiL (by omega)] at e ⊢
 simp only[RE.bind_ok] at e ⊢
 rw[RE.ok.inj e,decide_eq_true h.nd]
 simp only[Bool.not_true,Bool.false_eq_true,if_false,qfK hf,RE.bind_ok]
 obtain⟨n0,nr,hI⟩:∃n0 nr,cs=n0::nr:=List.exists_cons_of_ne_nil h.ne
 have mx:=qoK (b:=nC fl) h.ne fun n hn=>(h.inn n hn).2
 have:qmm cs=.ok (qhM cs):=by rw[hI];rfl
 rw[this]
 simp only[RE.bind_ok]
 rw[decide_eq_false (by omega)]
 rfl
def qvX (w:List Nat) (ns:List Int):List Nat:=TL.joinL [32] (w::ns.map dgI)
def wordsL:List (List Nat):=[[117,110,108,105,107,101],[115,117,109],[114,105,115,105,110,103],[115,101,101,110],[99,111,117,110,116],[106,111,105,110,101,100],[110,111,115,113,117,97,114,101],[114,105,110,103]]
theorem qna:∀w∈wordsL,(D.str w).fit 0=true∧w.length≤8∧32∉w:=by decide +kernel
def qwp (fl:Int × Int × Int) (w:List Nat) (ns:List Int):RE RuleT:=
 if w∈[[106,111,105,110,101,100],[110,111,115,113,117,97,114,101],[114,105,110,103]] then F.whole_rule fl w ns
 else if w=[117,110,108,105,107,101] then (F.cells_told fl ns).bind fun cs=>.ok (RuleT.mk .unlike fl cs 0 0)
 else if w=[114,105,115,105,110,103] then (F.cells_told fl ns).bind fun cs=>.ok (RuleT.mk .rising fl cs 0 0)
 else if w=[99,111,117,110,116] then (F.sign_told fl ns 1).bind fun s=>(F.cells_told fl (qdu ns (some 2) none)).bind fun cs=>(atE ns 0).bind fun n=>.ok (RuleT.mk .counted fl cs n s)
 else (F.cells_told fl (qdu ns (some 1) none)).bind fun cs=>if w=[115,117,109] then (atE ns 0).bind fun n=>.ok (RuleT.mk .total fl cs n 0) else (atE ns 0).bind fun n=>.ok (RuleT.mk .seen fl cs n 0)
def quP (fl:Int × Int × Int) (fi:List Int):Prop:=(fi.length:Int)=nC fl∧∀s∈fi,0≤s∧s≤fl.2.2
instance (fl:Int × Int × Int) (fi:List Int):Decidable (quP fl fi):=by unfold quP;infer_instance
end Cm
namespace Cm
abbrev TI:=List Nat × Int × Int × Int × List Int
theorem qni:∀ns:List Int,dLs dI (ns.map eI)=.ok ns
 |[]=>rfl
 |n::ns=>by rw[List.map_cons,dLs,qni ns];rfl
theorem qqk (th:TI):dT5 (dLs dI) (thD th)=.ok th:=by
 unfold dT5 thD
 rw[qni];rfl
def qee (p:PuzT) (r:Int):Option RuleT:=if 0≤r∧r<(p.rules.length:Int) then p.rules[r.toNat]? else none
def qqr (p:PuzT) (c s:Int):Bool:=decide (0≤c∧c<nC p.ground∧1≤s∧s≤p.ground.2.2)
def RK.w:RK→List Nat
 |.unlike=>[117,110,108,105,107,101]
 |.total=>[115,117,109]
 |.rising=>[114,105,115,105,110,103]
 |.seen=>[115,101,101,110]
 |.counted=>[99,111,117,110,116]
 |.joined=>[106,111,105,110,101,100]
 |.nosquare=>[110,111,115,113,117,97,114,101]
 |.ring=>[114,105,110,103]
theorem qnr (r:RuleT):F.m_name r=.ok r.k.w:=by obtain⟨k,_,_,_,_⟩:=r;cases k<;>rfl
def rk (o:Option RuleT) (k:RK):Option RuleT:=o.bind fun r=>if r.k=k then some r else none
def qmZ (o:Option RuleT) (fl:Int × Int × Int) (c s:Int) (more:List Int):Bool:=match o with
 |none=>false
 |some r=>decide (r.k=.ring)&&(if more=[] then decide (r.sign=s) else decide (more.length=1)&&decide (gI more 0∈qgl fl c))
def qsk (r:RuleT) (fl:Int × Int × Int) (ms:List Int) (c s:Int) (more:List Int):Bool:=
 let at_:=if more=[] then c else gI more 0
 let near:=(qgl fl at_).filter fun d=>!decide (d=c)
 let must:=(near.filter fun d=>hoB (gI ms d) r.sign).length
 let may:=(near.filter fun d=>stB (gI ms d) r.sign).length
 if more=[] then decide (may<2)||decide (2<must) else hoB (gI ms at_) r.sign&&if r.sign=s then decide (2≤must) else decide (may<2)
end Cm
namespace Cm
theorem qoq {xs:List Int}:∀{ys:List Int},xs.Nodup→(∀x∈xs,x∈ys)→xs.length≤ys.length:=by
 induction xs with
 |nil=>intro ys _ _;exact Nat.zero_le _
 |cons x xs ih =>
  intro ys hn hs
  rw[List.nodup_cons] at hn
  have hx:=hs x (by simp)
  have:=ih (ys:=ys.erase x) hn.2 fun y hy=>by
   have:y≠x:=fun e=>hn.1 (e ▸ hy)
   exact(List.mem_erase_of_ne this).mpr (hs y (List.mem_cons_of_mem _ hy))
  rw[List.length_erase_of_mem hx] at this
  have:=List.length_pos_of_mem hx
  simp only[List.length_cons]
  omega
theorem qrN (n:Nat):(qeD n).Pairwise (· < ·):=by
 unfold qeD
 rw[List.pairwise_map]
 exact List.pairwise_lt_range.imp fun h=>by omega
inductive Rch (fl:Int × Int × Int) (cs:List Int) (a:Int):Int→Prop where
 |base:a∈cs→Rch fl cs a a
 |step {b c:Int}:Rch fl cs a b→c∈qgl fl b→c∈cs→Rch fl cs a c
section
variable {fl:Int × Int × Int} {cs:List Int} {a:Int}
theorem Rch.start {b:Int} (h:Rch fl cs a b):a∈cs:=by induction h with
 |base h=>exact h
 |step _ _ _ ih=>exact ih
theorem Rch.mem {b:Int} (h:Rch fl cs a b):b∈cs:=by cases h with
 |base h=>exact h
 |step _ _ h=>exact h
theorem Rch.mono {cs':List Int} (hs:∀x∈cs,x∈cs') {b:Int} (h:Rch fl cs a b):Rch fl cs' a b:=by induction h with
 |base h=>exact .base (hs _ h)
 |step _ h1 h2 ih=>exact .step ih h1 (hs _ h2)
theorem quj {xs:List Int} {k:Int} (h0:0≤k) (h1:k<xs.length):xs[k.toNat]? = some (gI xs k):=by
 rw[gI,List.getD_eq_getElem?_getD,List.getElem?_eq_getElem (by omega)];rfl
end
theorem qlN {fl:Int × Int × Int} (hf:FOk fl) {c d:Int} (hc:inC fl c) (hd:inC fl d):d∈qgl fl c↔((c / fl.2.1=d / fl.2.1∧(c % fl.2.1=d % fl.2.1+1∨d % fl.2.1=c % fl.2.1+1))∨(c % fl.2.1=d % fl.2.1∧(c / fl.2.1=d / fl.2.1+1∨d / fl.2.1=c / fl.2.1+1))):=by
 obtain⟨e,a1,a2,b1,b2⟩:=qh1 hf hc
 obtain⟨e',a1',a2',b1',b2'⟩:=qh1 hf hd
 have w:=hf.w1
 unfold qgl
 simp only[List.mem_append]
 have k:∀{p:Prop} [Decidable p] (x:Int),d∈(if p then [x] else [])↔p∧d=x:=fun {p} _ x=>by
  by_cases h:p<;>simp[h]
 simp only[k]
 generalize c / fl.2.1=R at *
 generalize c % fl.2.1=Q at *
 generalize d / fl.2.1=R' at *
 generalize d % fl.2.1=Q' at *
 generalize hw:fl.2.1=W at *
 have same:∀{x y:Int} {p q:Int},0≤p→p<W→0≤q→q<W→x*W+p=y*W+q→x=y∧p=q:=fun {x y p q} p0 p1 q0 q1 h=>by
  have h1:=qj5 (r:=x) p0 p1
  have h2:=qj5 (r:=y) q0 q1
  rw[h] at h1
  exact⟨h1.1.symm.trans h2.1,h1.2.symm.trans h2.2⟩
 constructor
 ·rintro(((⟨h,q⟩ | ⟨h,q⟩) | ⟨h,q⟩) | ⟨h,q⟩)
  ·have:=same (x:=R') (y:=R - 1) b1' b2' b1 b2 (by rw[Int.sub_mul];omega)
   omega
  ·have:=same (x:=R') (y:=R) b1' b2' (q:=Q - 1) (by omega) (by omega) (by omega)
   omega
  ·have:=same (x:=R') (y:=R) b1' b2' (q:=Q+1) (by omega) (by omega) (by omega)
   omega
  ·have:=same (x:=R') (y:=R+1) b1' b2' b1 b2 (by rw[Int.add_mul];omega)
   omega
 ·rintro(⟨h,q | q⟩ | ⟨h,q | q⟩)
  ·exact .inl (.inl (.inr ⟨by omega,by rw[e,e',h];omega⟩))
  ·exact .inl (.inr ⟨by omega,by rw[e,e',h];omega⟩)
  ·refine .inl (.inl (.inl ⟨by omega,?_⟩))
   have:R*W=R'*W+W:=by rw[q,Int.add_mul];omega
   omega
  ·refine .inr ⟨by omega,?_⟩
   have:R'*W=R*W+W:=by rw[q,Int.add_mul];omega
   omega
end Cm
namespace Cm
noncomputable def dec (p:Prop):Bool:=@decide p (Classical.propDecidable p)
def qv3 (ms:List Int) (s:Int):List Int:=(qeD ms.length).filter fun c=>stB (gI ms c) s
def qwu (k:RK):Bool:=decide (k=.joined∨k=.ring)
def qlB (o:Option RuleT) (fl:Int × Int × Int) (c s:Int) (more:List Int):Bool:=match o with
 |none=>false
 |some r=>qwu r.k&&(decide ((more.length:Int)=2 - (if r.sign=s then 1 else 0))&&(decide more.Nodup&&more.all fun d=>!(decide (d=c)||(decide (d<0)||decide (nC fl≤d)))))
noncomputable def qpU (r:RuleT) (fl:Int × Int × Int) (ms:List Int) (c s:Int) (more:List Int):Bool:=
 (more.all fun d=>hoB (gI ms d) r.sign)&&(if r.sign=s then !dec (Rch fl (((qv3 ms r.sign).filter fun d=>!decide (d=c))++[c]) c (gI more 0)) else !dec (Rch fl ((qv3 ms r.sign).filter fun d=>!decide (d=c)) (gI more 0) (gI more 1)))
end Cm
namespace Cm
def qq2 (r:RuleT) (c:Int):List Int:=r.cells.filter fun d=>!decide (d=c)
def ofB (o:Option RuleT) (k:RK) (c:Int):Bool:=match o with
 |none=>false
 |some r=>decide (r.k=k)&&decide (c∈r.cells)
def qnd (r:RuleT) (c:Int) (more:List Int):Bool:=(more.all fun d=>decide (d∈qq2 r c))&&decide more.Nodup
def qoi (i:Int) (more:List Int):Bool:=decide (i=0)&&decide (more=[])
def qrL (p:PuzT) (c s:Int):Bool:=!decide (gI p.clues c=0) && !decide (gI p.clues c=s)
def qow (o:Option RuleT) (c:Int) (more:List Int):Bool:=match o with
 |none=>false
 |some r=>ofB o .unlike c&&(decide (more.length=1)&&qnd r c more)
def qsS (ms:List Int) (s:Int) (more:List Int):Bool:=hoB (gI ms (gI more 0)) s
def qlw (o:Option RuleT) (sg c s:Int) (more:List Int):Bool:=match o with
 |none=>false
 |some r=>ofB o .unlike c&&(decide ((r.cells.length:Int)=sg)&&(decide (more.length=1)&&(decide (1≤gI more 0∧gI more 0≤sg) && !decide (gI more 0=s))))
def qpY (r:RuleT) (ms:List Int) (c:Int) (more:List Int):Bool:=(qq2 r c).all fun d=>!stB (gI ms d) (gI more 0)
def inR (fl:Int × Int × Int) (r:RuleT):Prop:=r.cells.length≤1000∧∀d∈r.cells,inC fl d
def qsX (xs:List Int) (x:Int):Nat:=xs.findIdx fun y=>decide (y=x)
def qoI (o:Option RuleT) (c:Int) (more:List Int):Bool:=match o with
 |none=>false
 |some r=>ofB o .unlike c&&(decide (more.length=2)&&(qnd r c more&&decide (qsX r.cells (gI more 0)<qsX r.cells (gI more 1))))
def qq8 (ms:List Int) (s:Int) (more:List Int):Bool:=decide (((sgn (PySem.Builtin.bitOr (gI ms (gI more 0)) (gI ms (gI more 1)))).filter fun t=>!decide (t=s)).length≤1)
def qlE (o:Option RuleT) (c:Int) (more:List Int):Bool:=decide (more=[])&&ofB o .counted c
def qpa (r:RuleT) (ms:List Int) (c s:Int):Bool:=if s=r.sign then decide (r.wanted≤(((qq2 r c).filter fun d=>hoB (gI ms d) r.sign).length:Int)) else decide ((((qq2 r c).filter fun d=>stB (gI ms d) r.sign).length:Int)<r.wanted)
end Cm
namespace Cm
theorem qsa {xs ys:List Int} {k:Int} (h0:0≤k) (h1:k<ys.length) (hx:xs.length<16777216) (hy:ys.length≤16777216):∃d,qmp xs ys k=.ok (xs++[d],ys.eraseIdx k.toNat)∧((xs++[d])++ys.eraseIdx k.toNat).Perm (xs++ys):=by
 have hk:k.toNat<ys.length:=by omega
 have i:=qok hk
 rw[show((k.toNat:Nat):Int)=k from by omega] at i
 refine⟨ys[k.toNat],?_,?_⟩
 ·unfold qmp
  have l:LIM=16777216:=rfl
  simp only[i,List.getElem?_eq_getElem hk]
  rw[qgt (ql9 (by omega)),qgt (ql9 (by omega))]
 ·rw[List.append_assoc]
  exact(qh7 ys k.toNat hk).append_left xs
end Cm
namespace Cm
def qqu (cs:List Int) (c:Int):Option Int:=if 0<qsX cs c then some (gI cs ((qsX cs c:Int) - 1)) else none
def qnW (cs:List Int) (c:Int):Option Int:=if qsX cs c+1<cs.length then some (gI cs ((qsX cs c:Int)+1)) else none
def qnO (o:Option RuleT) (c:Int) (more:List Int):Bool:=decide (more=[])&&ofB o .rising c
def qrW (r:RuleT) (ms:List Int) (c s:Int):Bool:=(match qqu r.cells c with
 |some d=>decide (s≤quW false (sgn (gI ms d)) s)
 |none=>false)||(match qnW r.cells c with
 |some d=>decide (quW true (sgn (gI ms d)) s≤s)
 |none=>false)
theorem qoe {m t:Int}:t∈sgn m↔(1≤t∧t<7)∧stB m t=true:=by
 unfold sgn
 rw[List.mem_filter,qme]
end Cm
namespace Cm
theorem qsP (m:Int):(sgn m).Pairwise (· < ·):=List.Pairwise.filter _ (by decide)
def qvP (cs ms:List Int) (c s:Int):Option (Int × Int):=
 let os:=cs.filter fun d=>!decide (d=c)
 if (os.any fun d=>decide (sgn (gI ms d)=[]))=true then none else some (s+(os.map fun d=>qmT (sgn (gI ms d))).sum,s+(os.map fun d=>qhM (sgn (gI ms d))).sum)
def qqj (o:Option RuleT) (c:Int) (more:List Int):Bool:=decide (more=[])&&ofB o .total c
def qtI (r:RuleT) (ms:List Int) (c s:Int):Bool:=match qvP r.cells ms c s with
 |none=>true
 |some e=>decide (r.wanted<e.1)||decide (e.2<r.wanted)
end Cm
namespace Cm
def Snd (fl:Int × Int × Int) (ms fi:List Int):Prop:=∀c,inC fl c→stB (gI ms c) (gI fi c)=true∧1≤gI fi c∧gI fi c≤fl.2.2
def UnL (cs fi:List Int):Prop:=∀d∈cs,∀e∈cs,d≠e→gI fi d≠gI fi e
end Cm
namespace Cm
section
variable {α β γ:Type}
end
def qvJ (fl:Int × Int × Int) (c:Int):Bool:=decide (c / fl.2.1<fl.1 - 1)&&decide (c % fl.2.1<fl.2.1 - 1)
def sqL (fl:Int × Int × Int) (c:Int):List Int:=[c,c+1,c+fl.2.1,c+fl.2.1+1]
def qv6 (fl:Int × Int × Int):List Int:=(qeD (nC fl).toNat).filter (qvJ fl)
def qxs (fl:Int × Int × Int):List (List Int):=(qv6 fl).map (sqL fl)
section
variable {fl:Int × Int × Int}
theorem qoZ (hf:FOk fl):(nC fl).toNat≤16:=by
 have:=hf.n
 have e:nC fl=fl.1*fl.2.1:=rfl
 omega
def qu4 (fl:Int × Int × Int) (c:Int):List Int:=if c∈qv6 fl then sqL fl c else []
end
def qj9 (o:Option RuleT) (fl:Int × Int × Int) (c s:Int) (more:List Int):Bool:=match o with
 |none=>false
 |some r=>decide (r.k=.nosquare)&&(decide (r.sign=s)&&(decide (more.length=1)&&decide (c∈qu4 fl (gI more 0))))
def qm0 (fl:Int × Int × Int) (ms:List Int) (c s:Int) (more:List Int):Bool:=(qu4 fl (gI more 0)).all fun d=>decide (d=c)||hoB (gI ms d) s
end Cm
namespace Cm
section
variable {fl:Int × Int × Int} {cs:List Int}
theorem qpO (hf:FOk fl) {c d:Int} (hc:inC fl c) (hd:inC fl d):d∈qgl fl c↔c∈qgl fl d:=by
 rw[qlN hf hc hd,qlN hf hd hc]
 omega
theorem Rch.trans {a b c:Int} (h:Rch fl cs a b) (k:Rch fl cs b c):Rch fl cs a c:=by induction k with
 |base _=>exact h
 |step _ h1 h2 ih=>exact .step ih h1 h2
theorem Rch.symm (hf:FOk fl) (hi:∀x∈cs,inC fl x) {a b:Int} (h:Rch fl cs a b):Rch fl cs b a:=by induction h with
 |base h=>exact .base h
 |step h h1 h2 ih=>exact(Rch.step (.base h2) ((qpO hf (hi _ h.mem) (hi _ h2)).mp h1) h.mem).trans ih
noncomputable def jnB (fl:Int × Int × Int) (cs:List Int):Bool:=dec (∀a∈cs,∀b∈cs,Rch fl cs a b)
theorem quh {L:List Int} (h:L.Pairwise (· < ·)):L.Nodup:=h.imp fun h e=>by omega
end
theorem qp3 {α:Type} (xs:List α):qdu xs (some 1) none=xs.drop 1:=by
 cases xs with
 |nil=>rfl
 |cons x xs=>rw[qvB];rfl
def qva (xs:List Int):Int × Int:=xs.foldl (fun s x=>if s.2<x then (s.1+1,x) else s) (0,0)
noncomputable def qqL (r:RuleT) (g:Int→Int):Bool:=match r.k with
 |.unlike=>decide (r.cells.map g).Nodup
 |.total=>decide ((r.cells.map g).sum=r.wanted)
 |.rising=>(r.cells.zip (r.cells.drop 1)).all fun p=>decide (g p.1<g p.2)
 |.seen=>decide ((qva (r.cells.map g)).1=r.wanted)
 |.counted=>decide (((r.cells.filter fun d=>decide (g d=r.sign)).length:Int)=r.wanted)
 |.joined=>jnB r.ground (r.cells.filter fun d=>decide (g d=r.sign))
 |.nosquare=>(qxs r.ground).all fun q=>!decide ((q.filter fun d=>decide (g d=r.sign)).length=4)
 |.ring=>((r.cells.filter fun d=>decide (g d=r.sign)).all fun c=>decide (((qgl r.ground c).filter fun d=>decide (d∈r.cells.filter fun d=>decide (g d=r.sign))).length=2))&&jnB r.ground (r.cells.filter fun d=>decide (g d=r.sign))
def qd9:RK→Bool
 |.joined=>true
 |.nosquare=>true
 |.ring=>true
 |_=>false
structure WfR (fl:Int × Int × Int) (r:RuleT):Prop where
 g:r.ground=fl
 cs:CsOk fl r.cells
 w:qd9 r.k=true→r.cells=qeD (nC fl).toNat
 s:qd9 r.k=true∨r.k=.counted→1≤r.sign∧r.sign≤fl.2.2
 s0:¬(qd9 r.k=true∨r.k=.counted)→r.sign=0
 n0:0≤r.wanted
 n1:r.wanted<100
 n2:¬(r.k=.total∨r.k=.seen∨r.k=.counted)→r.wanted=0
theorem WfR.inR {fl:Int × Int × Int} (hf:FOk fl) {r:RuleT} (h:WfR fl r):inR fl r:=⟨by have:=h.cs.len hf;omega,h.cs.inn⟩
section
variable {fl:Int × Int × Int} {r:RuleT} {fi:List Int}
end
end Cm
namespace Cm
def qrF:List Int→Int
 |[]=>1
 |x::xs=>x*qrF xs
def lay:List (Int × List Int)→List Int→Int→List Int × Int
 |[],fi,n=>(fi,n)
 |p::os,fi,n=>lay os (fi.set p.1.toNat (gI p.2 (n % (p.2.length:Int)))) (n / (p.2.length:Int))
structure LyOk (n:Nat) (os:List (Int × List Int)):Prop where
 nd:(os.map Prod.fst).Nodup
 inn:∀p∈os,0≤p.1∧p.1<(n:Int)
 ne:∀p∈os,1≤p.2.length∧p.2.length≤6
theorem LyOk.tl {n:Nat} {p:Int × List Int} {os:List (Int × List Int)} (h:LyOk n (p::os)):LyOk n os∧∀q∈os,q.1≠p.1:=by
 have nd:=h.nd
 rw[List.map_cons,List.nodup_cons] at nd
 exact⟨⟨nd.2,fun q hq=>h.inn q (List.mem_cons_of_mem _ hq),fun q hq=>h.ne q (List.mem_cons_of_mem _ hq)⟩,fun q hq e=>nd.1 (List.mem_map.mpr ⟨q,hq,e⟩)⟩
def qnQ (o:Option RuleT) (c:Int) (more:List Int):Bool:=decide (more=[])&&match o with
 |none=>false
 |some r=>decide (c∈r.cells)
def qvV (r:RuleT) (ms:List Int) (c:Int):Int:=qrF ((qq2 r c).map fun d=>((sgn (gI ms d)).length:Int))
noncomputable def qsK (r:RuleT) (ms:List Int) (c s:Int):Bool:=decide (qvV r ms c≤32)&&dec (∀g:Int→Int,g c=s→(∀d∈qq2 r c,g d∈sgn (gI ms d))→qqL r g=false)
end Cm
namespace Cm
def qn8:List KK:=[.clue,.only,.place,.count,.step,.sums,.square,.reach,.turn,.pair,.ways]
def KK.w:KK→List Nat
 |.clue=>[99,108,117,101]
 |.only=>[111,110,108,121]
 |.place=>[112,108,97,99,101]
 |.count=>[99,111,117,110,116]
 |.step=>[115,116,101,112]
 |.sums=>[115,117,109]
 |.square=>[115,113,117,97,114,101]
 |.reach=>[114,101,97,99,104]
 |.turn=>[116,117,114,110]
 |.pair=>[112,97,105,114]
 |.ways=>[119,97,121,115]
def qv2 (w:List Nat):Option KK:=qn8.find? fun k=>decide (k.w=w)
structure WfP (p:PuzT):Prop where
 f:FOk p.ground
 r:∀r∈p.rules,WfR p.ground r
 c:quP p.ground p.clues
 n:p.rules.length≤12
def qv9 (k:KK) (p:PuzT) (o:Option RuleT) (th:TI):Bool:=match k with
 |.clue=>qoi th.2.1 th.2.2.2.2
 |.only=>qow o th.2.2.1 th.2.2.2.2
 |.place=>qlw o p.ground.2.2 th.2.2.1 th.2.2.2.1 th.2.2.2.2
 |.count=>qlE o th.2.2.1 th.2.2.2.2
 |.step=>qnO o th.2.2.1 th.2.2.2.2
 |.sums=>qqj o th.2.2.1 th.2.2.2.2
 |.square=>qj9 o p.ground th.2.2.1 th.2.2.2.1 th.2.2.2.2
 |.reach=>qlB o p.ground th.2.2.1 th.2.2.2.1 th.2.2.2.2
 |.turn=>qmZ o p.ground th.2.2.1 th.2.2.2.1 th.2.2.2.2
 |.pair=>qoI o th.2.2.1 th.2.2.2.2
 |.ways=>qnQ o th.2.2.1 th.2.2.2.2
noncomputable def qwF (k:KK) (p:PuzT) (ms:List Int) (r:RuleT) (th:TI):Bool:=match k with
 |.clue=>qrL p th.2.2.1 th.2.2.2.1
 |.only=>qsS ms th.2.2.2.1 th.2.2.2.2
 |.place=>qpY r ms th.2.2.1 th.2.2.2.2
 |.count=>qpa r ms th.2.2.1 th.2.2.2.1
 |.step=>qrW r ms th.2.2.1 th.2.2.2.1
 |.sums=>qtI r ms th.2.2.1 th.2.2.2.1
 |.square=>qm0 p.ground ms th.2.2.1 th.2.2.2.1 th.2.2.2.2
 |.reach=>qpU r p.ground ms th.2.2.1 th.2.2.2.1 th.2.2.2.2
 |.turn=>qsk r p.ground ms th.2.2.1 th.2.2.2.1 th.2.2.2.2
 |.pair=>qq8 ms th.2.2.2.1 th.2.2.2.2
 |.ways=>qsK r ms th.2.2.1 th.2.2.2.1
def noR:RuleT:=⟨.unlike,(1,1,1),[],0,0⟩
noncomputable def qwz (k:KK) (p:PuzT) (ms:List Int) (th:TI):Bool:=qwF k p ms ((qee p th.2.1).getD noR) th
noncomputable def alB (p:PuzT) (ms:List Int) (th:TI):Bool:=match qv2 th.1 with
 |none=>false
 |some k=>qqr p th.2.2.1 th.2.2.2.1&&(qv9 k p (qee p th.2.1) th&&qwz k p ms th)
theorem qlx {p:PuzT} {c s:Int}:qqr p c s=true↔inC p.ground c∧1≤s∧s≤p.ground.2.2:=by
 unfold qqr
 rw[decide_eq_true_eq]
 exact⟨fun⟨a,b,c,d⟩=>⟨⟨a,b⟩,c,d⟩,fun⟨⟨a,b⟩,c,d⟩=>⟨a,b,c,d⟩⟩
section
variable {p:PuzT} {ms:List Int} {th:TI}
end
end Cm
namespace Cm
def qu2 (k:KK) (p:PuzT) (r:RuleT) (th:TI):List Int:=match k with
 |.clue=>[]
 |.only=>th.2.2.2.2
 |.step=>qe9 ((match qqu r.cells th.2.2.1 with
  |some d=>[d]
  |none=>[])++match qnW r.cells th.2.2.1 with
  |some d=>[d]
  |none=>[])
 |.square=>(qu4 p.ground (gI th.2.2.2.2 0)).filter fun d=>!decide (d=th.2.2.1)
 |.reach=>(qeD (nC p.ground).toNat).filter fun d=>!decide (d=th.2.2.1)
 |.turn=>if th.2.2.2.2=[] then qgl p.ground th.2.2.1 else qe9 ((qgl p.ground (gI th.2.2.2.2 0)++[gI th.2.2.2.2 0]).filter fun d=>!decide (d=th.2.2.1))
 |.pair=>qe9 th.2.2.2.2
 |_=>qe9 (qq2 r th.2.2.1)
def Sb (m' m:Int):Prop:=∀t,1≤t→stB m' t=true→stB m t=true
theorem Sb.refl (m:Int):Sb m m:=fun _ _ h=>h
theorem Sb.ho {m' m s:Int} (h:Sb m' m) (s1:1≤s) (k:hoB m s=true):hoB m' s=true:=(qnn s1).mpr fun t t1 ht=>(qnn s1).mp k t t1 (h t t1 ht)
theorem Sb.sg {m' m:Int} (h:Sb m' m):∀t∈sgn m',t∈sgn m:=fun t ht=>by
 obtain⟨⟨a,b⟩,c⟩:=qoe.mp ht
 exact qoe.mpr ⟨⟨a,b⟩,h t a c⟩
theorem qtV (m:Int):(sgn m).Nodup:=quh (qsP m)
theorem Sb.ln {m' m:Int} (h:Sb m' m):(sgn m').length≤(sgn m).length:=qoq (qtV m') h.sg
section
variable {p:PuzT} {ms ms':List Int} {th:TI}
def qxm (p:PuzT) (th:TI):List Int:=match qv2 th.1 with
 |none=>[]
 |some k=>qu2 k p ((qee p th.2.1).getD noR) th
end
end Cm
namespace Cm
theorem qve {cs:List Int} {k:Int} (h0:0≤k) (h1:k<cs.length):cs[k.toNat]? = some (gI cs k):=quj h0 h1
section
variable {p:PuzT} {ms fi:List Int} {th:TI}
end
end Cm
namespace Cm
theorem ql8 (n:Nat):(qeD n).Nodup:=quh (qrN n)
theorem qnt {f:Int→(List Int × List Int)→RE (List Int × List Int)} {n k:Nat} (hn:n≤1000) (hk:k≤n) (hf:∀(i:Nat) (s:List Int × List Int),i<k→s.1.length=n - i→∃j,0≤j∧j<(s.1.length:Int)∧f i s=(qmp s.2 s.1 j).bind fun p=>.ok (p.2,p.1)):W (qam f (qeD k) (qeD n,[])) fun s=>s.2.length=k∧s.2.Nodup∧∀x∈s.2,0≤x∧x<n:=by
 refine W.mono (qiM (fun i s=>s.2.length=i∧(s.2++s.1).Perm (qeD n)) ⟨rfl,by simp⟩ fun i x s hx ⟨hl,hp⟩=>?_) fun s ⟨hl,hp⟩=>?_
 ·obtain⟨rfl,hi⟩:=qpt hx
  have:=hp.length_eq
  rw[List.length_append,qii] at this
  obtain⟨j,k0,k1,e⟩:=hf i s hi (by omega)
  obtain⟨d,e2,p2⟩:=qsa (xs:=s.2) (ys:=s.1) k0 k1 (by omega) (by omega)
  rw[e,e2]
  exact W.ok ⟨by simp[hl],p2.trans hp⟩
 ·rw[qii] at hl
  have nd:=hp.nodup_iff.mpr (ql8 n)
  rw[List.nodup_append] at nd
  refine⟨hl,nd.1,fun x hx=>?_⟩
  have:=qix.mp (hp.mem_iff.mp (List.mem_append_left _ hx))
  exact this
theorem qrK {x:Int} (h0:0≤x) (h1:x<100):(dgI x).length≤2:=(qti _ (by omega)).1
def qj4 (r:RuleT):List Int:=match r.k with
 |.unlike=>r.cells
 |.rising=>r.cells
 |.total=>r.wanted::r.cells
 |.seen=>r.wanted::r.cells
 |.counted=>r.wanted::r.sign::r.cells
 |_=>[r.sign]
def qm9 (r:RuleT):List Nat:=qvX r.k.w (qj4 r)
theorem qqo (k:RK):k.w∈wordsL:=by cases k<;>decide
section
variable {fl:Int × Int × Int}
theorem qiW (hf:FOk fl) {r:RuleT} (hr:WfR fl r):(qj4 r).length≤18∧(∀n∈qj4 r,0≤n∧n<100)∧qj4 r≠[]:=by
 have l:=hr.cs.len hf
 have s6:=hf.s2
 have n:=qoZ hf
 have ci:∀c∈r.cells,0≤c∧c<100:=fun c hc=>by
  have:=hr.cs.inn c hc
  exact⟨this.1,by have:=this.2;omega⟩
 have n0:=hr.n0
 have n1:=hr.n1
 unfold qj4
 cases hk:r.k with
 |unlike=>exact⟨by show r.cells.length≤18;omega,ci,hr.cs.ne⟩
 |rising=>exact⟨by show r.cells.length≤18;omega,ci,hr.cs.ne⟩
 |total=>exact⟨by simp only[List.length_cons];omega,fun x hx=>by rcases List.mem_cons.mp hx with q | q;omega;exact ci x q,by simp⟩
 |seen=>exact⟨by simp only[List.length_cons];omega,fun x hx=>by rcases List.mem_cons.mp hx with q | q;omega;exact ci x q,by simp⟩
 |counted =>
  have:=hr.s (.inr hk)
  exact⟨by simp only[List.length_cons];omega,fun x hx=>by
   rcases List.mem_cons.mp hx with q | q
   ·omega
   ·rcases List.mem_cons.mp q with q | q
    ·omega
    ·exact ci x q,by simp⟩
 |joined =>
  have:=hr.s (.inl (by rw[hk];rfl))
  exact⟨by simp,fun x hx=>by rw[List.mem_singleton.mp hx];omega,by simp⟩
 |nosquare =>
  have:=hr.s (.inl (by rw[hk];rfl))
  exact⟨by simp,fun x hx=>by rw[List.mem_singleton.mp hx];omega,by simp⟩
 |ring =>
  have:=hr.s (.inl (by rw[hk];rfl))
  exact⟨by simp,fun x hx=>by rw[List.mem_singleton.mp hx];omega,by simp⟩
theorem qho {k:RK} {cs:List Int} {n s:Int} (hk:qd9 k=false) (hc:CsOk fl cs) (hs:k=.counted→1≤s∧s≤fl.2.2) (h0:k≠.counted→s=0) (n0:0≤n) (n1:n<100) (n2:¬(k=.total∨k=.seen∨k=.counted)→n=0):WfR fl ⟨k,fl,cs,n,s⟩:=
 ⟨rfl,hc,fun h=>(by rw[hk] at h;cases h),fun h=>(by rcases h with h | h;rw[hk] at h;cases h;exact hs h),fun h=>h0 fun e=>h (.inr e),n0,n1,n2⟩
theorem csU (hf:FOk fl):CsOk fl (qeD (nC fl).toNat):=by
 have n1:=hf.n1
 refine⟨?_,ql8 _,fun c hc=>?_⟩
 ·intro e
  have:=qii (nC fl).toNat
  rw[e] at this
  simp only[List.length_nil] at this
  omega
 ·have:=qix.mp hc
  exact⟨this.1,by omega⟩
theorem qmX {cs:List Int} (hc:CsOk fl cs):WfR fl ⟨.unlike,fl,cs,0,0⟩:=qho rfl hc (fun h=>nomatch h) (fun _=>rfl) (by decide) (by decide) fun _=>rfl
theorem qnh {cs:List Int} (hc:CsOk fl cs):WfR fl ⟨.rising,fl,cs,0,0⟩:=qho rfl hc (fun h=>nomatch h) (fun _=>rfl) (by decide) (by decide) fun _=>rfl
theorem qpB {cs:List Int} {n:Int} (hc:CsOk fl cs) (n0:0≤n) (n1:n<100):WfR fl ⟨.total,fl,cs,n,0⟩:=qho rfl hc (fun h=>nomatch h) (fun _=>rfl) n0 n1 fun h=>absurd (.inl rfl) h
theorem qru {cs:List Int} {n:Int} (hc:CsOk fl cs) (n0:0≤n) (n1:n<100):WfR fl ⟨.seen,fl,cs,n,0⟩:=qho rfl hc (fun h=>nomatch h) (fun _=>rfl) n0 n1 fun h=>absurd (.inr (.inl rfl)) h
theorem qmP {cs:List Int} {n s:Int} (hc:CsOk fl cs) (n0:0≤n) (n1:n<100) (s1:1≤s) (s2:s≤fl.2.2):WfR fl ⟨.counted,fl,cs,n,s⟩:=qho rfl hc (fun _=>⟨s1,s2⟩) (fun h=>absurd rfl h) n0 n1 fun h=>absurd (.inr (.inr rfl)) h
theorem qoY (hf:FOk fl) {k:RK} {s:Int} (hk:qd9 k=true) (s1:1≤s) (s2:s≤fl.2.2):WfR fl ⟨k,fl,qeD (nC fl).toNat,0,s⟩:=
 ⟨rfl,csU hf,fun _=>rfl,fun _=>⟨s1,s2⟩,fun h=>absurd (.inl hk) h,Int.le_refl _,(by decide:(0:Int)<100),fun _=>rfl⟩
end
def ThP (k:Nat) (L:List TI):Prop:=L.length≤k∧∀th∈L,th.2.2.2.2.length≤2
theorem ThP.app {k:Nat} {L:List TI} {th:TI} (h:ThP k L) (hl:th.2.2.2.2.length≤2) (hk:k<1000):qeA L th=.ok (L++[th])∧ThP (k+1) (L++[th]):=by
 refine⟨qkQ (by have:=h.1;omega),by have:=h.1;rw[List.length_append,List.length_singleton];omega,fun x hx=>?_⟩
 rcases List.mem_append.mp hx with q | q
 ·exact h.2 x q
 ·rw[List.mem_singleton.mp q];exact hl
theorem ThP.mono {k j:Nat} {L:List TI} (h:ThP k L) (hk:k≤j):ThP j L:=⟨by have:=h.1;omega,h.2⟩
end Cm
namespace Cm
def qxx (k:KK) (p:PuzT) (th:TI):Prop:=match k with
 |.place=>∃r,qee p th.2.1=some r
 |.count=>∃r,qee p th.2.1=some r
 |.sums=>∃r,qee p th.2.1=some r
 |.ways=>∃r,qee p th.2.1=some r
 |.step=>∃r,qee p th.2.1=some r∧th.2.2.1∈r.cells
 |.square=>th.2.2.2.2≠[]
 |_=>True
theorem qmK (a:List Nat) {ws:List (List Nat)} (h:ws≠[]):TL.joinL [32] (a::ws)=a++([32]++TL.joinL [32] ws):=by
 obtain⟨b,bs,rfl⟩:=List.exists_cons_of_ne_nil h
 simp[TL.joinL,List.append_assoc]
end Cm
namespace Cm
def zc (cs:List Int):Nat:=cs.count 0
def qwa (s:Int):List (Int × Int)→Int→List Int
 |[],_=>[]
 |p::r,i=>(if p.1=0 then 1+(p.2+i / s ^ zc (r.map Prod.fst)) % s else p.1)::qwa s r i
def qxp (s:Int):List (Int × Int)→List Int→Prop
 |[],[]=>True
 |p::r,x::g=>(if p.1=0 then 1≤x∧x≤s else x=p.1)∧qxp s r g
 |_,_=>False
def qw4 (s:Int):List (Int × Int)→List Int→Int
 |p::r,x::g=>(if p.1=0 then (x - 1 - p.2) % s*s ^ zc (r.map Prod.fst) else 0)+qw4 s r g
 |_,_=>0
section
variable {s:Int}
end
def mtB (p:PuzT) (g:List Int):Bool:=match F.Puzzle_meets p g with
 |.ok b=>b
 |_=>false
def nFl (p:PuzT):Int:=p.ground.2.2 ^ zc p.clues
def flo (p:PuzT) (st:List Int):List (List Int):=(qeD (nFl p).toNat).map (qwa p.ground.2.2 (p.clues.zip st))
section
variable {p:PuzT}
def qxP (p:PuzT) (st:List Int):List (List Int):=(flo p st).filter (mtB p)
end
end Cm
namespace Cm
section
variable {p:PuzT} {ms:List Int} {c s:Int}
def qwP (L:List (List Int)):Prop:=L.length≤300∧∀m∈L,m.length≤2
def MSg (fl:Int × Int × Int) (ms:List Int):Prop:=∀m∈ms,m<((2 ^ fl.2.2.toNat:Nat):Int)
def qxe (p:PuzT) (ms:List Int) (k:KK) (n c s:Int):List (List Int):=match F.m_mores k p ms (qee p n) c s with
 |.ok L=>L
 |_=>[]
noncomputable def qwo (p:PuzT) (ms:List Int) (k:KK) (n c:Int):Option TI:=(sgn (gI ms c)).findSome? fun s=>(qxe p ms k n c s).findSome? fun m=>if alB p ms (k.w,n,c,s,m)=true then some (k.w,n,c,s,m) else none
end
end Cm
namespace Cm
section
variable {p:PuzT} {ms:List Int}
def qwG (ws:List (List Nat)):List KK:=qn8.filter fun k=>decide (k.w∈ws)
def qtk:KK→RK→Bool
 |.only,k=>decide (k=.unlike)
 |.place,k=>decide (k=.unlike)
 |.pair,k=>decide (k=.unlike)
 |.count,k=>decide (k=.counted)
 |.step,k=>decide (k=.rising)
 |.sums,k=>decide (k=.total)
 |.square,k=>decide (k=.nosquare)
 |.reach,k=>decide (k=.joined∨k=.ring)
 |.turn,k=>decide (k=.ring)
 |.clue,_=>true
 |.ways,_=>true
def qx3 (r:RE Bool) (b:Bool):Bool:=match r with
 |.ok c=>c == b
 |_=>false
noncomputable def nK (p:PuzT) (ms:List Int) (k:KK):Option TI:=
 if k=.clue then (qeD (nC p.ground).toNat).findSome? (qwo p ms k 0)
 else (qeD p.rules.length).findSome? fun n=>match qee p n with
  |some r=>if qtk k r.k=true then (qe9 r.cells).findSome? (qwo p ms k n) else none
  |none=>none
noncomputable def nT (p:PuzT) (ms:List Int) (ws:List (List Nat)):Option TI:=if 0∈ms then none else (qwG ws).findSome? (nK p ms)
end
end Cm
namespace Cm
section
variable {p:PuzT} {ms:List Int}
end
end Cm
namespace Cm
section
variable {fl:Int × Int × Int} {ms:List Int} {c s:Int}
theorem qu7 {m:Int} (m0:0≤m) (h:stB m s=true):((2 ^ (s - 1).toNat:Nat):Int)≤m:=by
 unfold stB at h
 have:=Nat.ge_two_pow_of_testBit h
 omega
def stk (ms:List Int) (c s:Int):List Int:=ms.set c.toNat (gI ms c - ((2 ^ (s - 1).toNat:Nat):Int))
theorem qne (hm:MOk fl ms) (hc:inC fl c) (h:stB (gI ms c) s=true):MOk fl (stk ms c s):=by
 have b:=hm.b hc
 have l:=qu7 b.1 h
 have p:=Nat.two_pow_pos (s - 1).toNat
 refine⟨by unfold stk;rw[List.length_set];exact hm.1,fun m hx=>?_⟩
 unfold stk at hx
 rcases List.mem_or_eq_of_mem_set hx with q | q
 ·exact hm.2 m q
 ·rw[q];omega
end
end Cm
namespace Cm
section
variable {p:PuzT} {ms:List Int} {ws:List (List Nat)}
def Nx (p:PuzT) (ws:List (List Nat)) (ms:List Int) (th:TI):Prop:=alB p ms th=true∧stB (gI ms th.2.2.1) th.2.2.2.1=true∧(∃k:KK,th.1=k.w∧k.w∈ws)∧0∉ms
inductive Steps (p:PuzT) (ws:List (List Nat)) (ms:List Int):List TI→List Int→Prop
 |nil:Steps p ws ms [] ms
 |snoc {book:List TI} {left:List Int} {th:TI}:Steps p ws ms book left→nT p left ws=some th→Steps p ws ms (book++[th]) (stk left th.2.2.1 th.2.2.2.1)
def wgt (ms:List Int):Nat:=(ms.map Int.toNat).sum
end
end Cm
namespace Cm
variable {fl:Int × Int × Int} {p:PuzT}
theorem qop (hf:FOk fl) {r:RuleT} (hr:WfR fl r):qj6 [32] (r.k.w::(qj4 r).map dgI)=.ok (qm9 r):=by
 have h:=qiW hf hr
 have hw:r.k.w.length≤8:=(qna _ (qqo r.k)).2.1
 rw[qlK (b:=8) (fun w hw'=>?_) (by simp;omega)]
 ·rfl
 ·rcases List.mem_cons.mp hw' with q | q
  ·rw[q];exact hw
  ·obtain⟨n,hn,rfl⟩:=List.mem_map.mp q
   have:=qrK (h.2.1 n hn).1 (h.2.1 n hn).2
   omega
theorem qqY (hf:FOk fl) {r:RuleT} (hr:WfR fl r):F.m_told_numbers r=.ok (qj4 r):=by
 have h:=(qiW hf hr).1
 obtain⟨k,a,b,c,d⟩:=r
 cases k
 case unlike=>rfl
 case rising=>rfl
 case joined=>rfl
 case nosquare=>rfl
 case ring=>rfl
 case total=>exact qgy (by have:((c::b).length)≤18:=h;simp at this ⊢;omega)
 case seen=>exact qgy (by have:((c::b).length)≤18:=h;simp at this ⊢;omega)
 case counted=>exact qgy (by have:((c::d::b).length)≤18:=h;simp at this ⊢;omega)
theorem qpk (hf:FOk fl) {r:RuleT} (hr:WfR fl r):F.Rule_line r=.ok (qm9 r):=by
 have h:=qiW hf hr
 unfold F.Rule_line
 rw[qnr,qqY hf hr]
 simp only[RE.bind_ok]
 rw[gdl (by omega),qnG (g:=dgI) fun c hc=>qrj (h.2.1 c hc).1 (h.2.1 c hc).2]
 simp only[RE.bind_ok]
 rw[qgy (by simp;omega)]
 exact qop hf hr
theorem qkI {s:List Nat} (h:∀c∈s,c<1000):PySem.PyData.strOk ⟨s.toArray⟩=true:=by
 unfold PySem.PyData.strOk
 simp only[List.all_toArray,List.all_eq_true,decide_eq_true_eq]
 intro c hc
 have:=h c hc
 omega
theorem qpA:∀w∈wordsL,∀c∈w,c<256:=by decide +kernel
theorem qi5 {k:Nat}:∀{xs:List (List Nat)},(∀x∈xs,∀c∈x,c<256)→D.fits (xs.map eS) k=true
 |[],_=>rfl
 |x::xs,h=>by
  rw[List.map_cons,D.fits,qi5 fun y hy=>h y (List.mem_cons_of_mem _ hy)]
  show(PySem.PyData.strOk ⟨x.toArray⟩&&true)=true
  rw[qkI fun c hc=>by have:=h x (by simp) c hc;omega];rfl
end Cm
namespace Cm
section
variable {p:PuzT} {ms:List Int} {ws:List (List Nat)} {th:TI}
theorem quF (h:alB p ms th=true):qqr p th.2.2.1 th.2.2.2.1=true∧th.2.2.2.2.length≤2:=by
 unfold alB at h
 split at h
 ·cases h
 ·rename_i k _
  simp only[Bool.and_eq_true] at h
  refine⟨h.1,?_⟩
  have f:=h.2.1
  generalize qee p th.2.1=o at f
  cases k<;>unfold qv9 at f<;>simp only[qoi,qow,qlw,qlE,qnO,qqj,qj9,qlB,qmZ,qoI,qnQ,Bool.and_eq_true,decide_eq_true_eq] at f
  case clue=>rw[f.2];simp
  case count=>rw[f.1];simp
  case step=>rw[f.1];simp
  case sums=>rw[f.1];simp
  case ways=>rw[f.1];simp
  all_goals (cases o<;>simp only[Bool.and_eq_true,decide_eq_true_eq] at f<;>try exact absurd f Bool.false_ne_true)
  case h_2.only.some=>omega
  case h_2.place.some=>omega
  case h_2.square.some=>omega
  case h_2.pair.some=>omega
  case h_2.reach.some=>have:=f.2.1;split at this<;>omega
  case h_2.turn.some =>
   have:=f.2
   split at this
   ·rename_i e;rw[e];simp
   ·simp only[Bool.and_eq_true,decide_eq_true_eq] at this;omega
inductive Run (p:PuzT) (ws:List (List Nat)):List TI→List Int→List Int→Prop
 |nil {ms:List Int}:Run p ws [] ms ms
 |cons {ms left:List Int} {th:TI} {ths:List TI}:nT p ms ws=some th→Run p ws ths (stk ms th.2.2.1 th.2.2.2.1) left→Run p ws (th::ths) ms left
theorem Run.app {a b c:List Int} {xs ys:List TI} (h:Run p ws xs a b) (k:Run p ws ys b c):Run p ws (xs++ys) a c:=by
 induction h with
 |nil=>exact k
 |cons nx _ ih=>exact .cons nx (ih k)
theorem Steps.run {book:List TI} {left:List Int} (h:Steps p ws ms book left):Run p ws book ms left:=by
 induction h with
 |nil=>exact .nil
 |snoc _ nx ih=>exact ih.app (.cons nx .nil)
theorem qd7 {x:List Nat} {ts:List (List Nat)} (hx:∀c∈x,c<256) (ht:∀y∈ts,∀c∈y,c<256):qj7 x ts=.ok (decide (x∈ts)):=by
 unfold qj7
 rw[if_pos]
 rw[qi5 ht,Bool.and_true]
 exact qkI fun c hc=>by have:=hx c hc;omega
theorem qtH (k:RK):∀c∈k.w,c<256:=qpA _ (qqo k)
end
end Cm
namespace Cm
section
variable {p:PuzT} {ms:List Int} {ws:List (List Nat)} {fl:Int × Int × Int}
def qum (fl:Int × Int × Int):Int:=((2 ^ fl.2.2.toNat:Nat):Int) - 1
def qxl (fl:Int × Int × Int) (v:Int):Int:=if 0<v then ((2 ^ (v - 1).toNat:Nat):Int) else qum fl
end
end Cm
namespace Cm
theorem qsr:∀n<100,isI (qnY (dg n)) n=true:=by decide +kernel
theorem int_ok {n:Int} (h0:0≤n) (h1:n<100):qnY (dgI n)=.ok n:=by
 have:=qn6 (qsr n.toNat (by omega))
 unfold dgI
 rw[this]
 congr 1
 omega
def trn:Nat→Int × Int × Int × Int→Int × Int × Int × Int
 |0,s=>s
 |n+1,s=>trn n (s.2.1,s.1,s.2.2.2,s.1 - 1 - s.2.2.1)
structure InS (s:Int × Int × Int × Int):Prop where
 h:1≤s.1∧s.1≤6
 w:1≤s.2.1∧s.2.1≤6
 r:0≤s.2.2.1∧s.2.2.1<s.1
 c:0≤s.2.2.2∧s.2.2.2<s.2.1
def spS (fl:Int × Int × Int) (mv c:Int):Int × Int × Int × Int:=trn (mv.fmod 4).toNat (fl.1,fl.2.1,c / fl.2.1,if 3<mv then fl.2.1 - 1 - c % fl.2.1 else c % fl.2.1)
def spF (fl:Int × Int × Int) (mv c:Int):Int:=(spS fl mv c).2.2.1*(spS fl mv c).2.1+(spS fl mv c).2.2.2
def grF (fl:Int × Int × Int) (mv:Int):Int × Int × Int:=if mv.fmod 2=1 then (fl.2.1,fl.1,fl.2.2) else fl
section
variable {fl:Int × Int × Int} {mv:Int}
def qxS (fl:Int × Int × Int) (sg:List Int):Prop:=sg.Perm (qls 1 (fl.2.2+1))
def qx6 (fl:Int × Int × Int) (mv:Int) (sg:List Int) (r:RuleT):RuleT:=match r.k with
 |.unlike=>⟨.unlike,grF fl mv,r.cells.map (spF fl mv),0,0⟩
 |.rising=>⟨.rising,grF fl mv,r.cells.map (spF fl mv),0,0⟩
 |.total=>⟨.total,grF fl mv,r.cells.map (spF fl mv),r.wanted,0⟩
 |.seen=>⟨.seen,grF fl mv,r.cells.map (spF fl mv),r.wanted,0⟩
 |.counted=>⟨.counted,grF fl mv,r.cells.map (spF fl mv),r.wanted,gI sg (r.sign - 1)⟩
 |.joined=>⟨.joined,grF fl mv,qeD (nC (grF fl mv)).toNat,0,gI sg (r.sign - 1)⟩
 |.nosquare=>⟨.nosquare,grF fl mv,qeD (nC (grF fl mv)).toNat,0,gI sg (r.sign - 1)⟩
 |.ring=>⟨.ring,grF fl mv,qeD (nC (grF fl mv)).toNat,0,gI sg (r.sign - 1)⟩
variable {r:RuleT} {sg:List Int}
def rcK:RK→Bool
 |.total=>true
 |.rising=>true
 |.seen=>true
 |_=>false
end
end Cm
namespace Cm
section
variable {p:PuzT}
inductive Fol (p:PuzT):List TI→List Int→List Int→Prop
 |nil {ms:List Int}:Fol p [] ms ms
 |cons {ms left:List Int} {th:TI} {ths:List TI}:alB p ms th=true→stB (gI ms th.2.2.1) th.2.2.2.1=true→0∉ms→(∃k:KK,th.1=k.w)→Fol p ths (stk ms th.2.2.1 th.2.2.2.1) left→Fol p (th::ths) ms left
theorem Fol.app {xs ys:List TI} {a b c:List Int} (h:Fol p xs a b) (k:Fol p ys b c):Fol p (xs++ys) a c:=by
 induction h with
 |nil=>exact k
 |cons h1 h2 h3 h4 _ ih=>exact .cons h1 h2 h3 h4 (ih k)
theorem Fol.ok {xs:List TI} {a b:List Int} (h:Fol p xs a b) (hm:MOk p.ground a):MOk p.ground b:=by
 induction h with
 |nil=>exact hm
 |cons h1 h2 h3 _ _ ih=>exact ih (qne hm (qlx.mp (quF h1).1).1 h2)
theorem qrT (k:KK):¬k.w=[115,117,112,112,111,115,101]:=by cases k<;>decide
end
end Cm
namespace Cm
abbrev THT:Type:=List Nat × Int × Int × Int × List D
def qxR (fo:PuzT→List Int→THT→RE (Option (List Int))) (ae:PuzT) (ai:List Int) (aM:List D):RE (Option (List Int)):=
 (RE.ok (ai:List Int)).bind fun aq=>Fl.bR ((qbD (List.length aM:Int)).bind fun y41=>qbL (fun(aN:Int) (s17:List Int)=>((atE aM aN).bind fun ah=>(F.clashes s17).bind fun k18=>if k18=true then (RE.ok (.rt (none:Option (List Int)))) else (((((RE.ok ae).bind fun x20=>(dTH ah).bind fun x21=>F.is_in_bounds x20 x21).bind fun x22=>RE.ok (!x22)).bind fun k26=>if k26=true then RE.ok true else ((RE.ok ae).bind fun x23=>(RE.ok s17).bind fun x24=>(dTH ah).bind fun x25=>F.is_standing x23 x24 x25)).bind fun k27=>if k27=true then (((RE.ok ae).bind fun x28=>(RE.ok s17).bind fun x29=>(dTH ah).bind fun x30=>fo x28 x29 x30).bind fun bw=>(RE.ok bw.isSome).bind fun k31=>if k31=true then ((((unO bw).bind fun x33=>qgr [aN] x33).bind fun x34=>RE.ok ((some) x34)).bind fun x35=>RE.ok (.rt x35)) else (((RE.ok s17).bind fun x36=>((qlC ah 2).bind dI).bind fun x37=>((qlC ah 3).bind dI).bind fun x38=>F.struck x36 x37 x38).bind fun aq=>RE.ok (.nx aq))) else (RE.ok (.nx s17))):RE (Fl (Option (List Int)) (List Int)))) y41 aq) fun(p39:List Int)=>(F.clashes p39).bind fun k40=>if k40=true then (RE.ok (none:Option (List Int))) else (RE.ok (some []))
def qxX (fi:PuzT→List Int→List D→RE (Option (List Int))) (ae:PuzT) (ai:List Int) (ah:THT):RE (Option (List Int)):=
 (RE.ok (!decide (ah.1=([115,117,112,112,111,115,101])))).bind fun k1=>if k1=true then ((F.allowed ae ai ah).bind fun k2=>if k2=true then (RE.ok (none:Option (List Int))) else (RE.ok (some []))) else (((RE.ok (!decide (ah.2.1=0))).bind fun k5=>if k5=true then RE.ok true else (((F.is_in_bounds ae ah).bind fun x3=>RE.ok (!x3)).bind fun k4=>if k4=true then RE.ok true else (RE.ok (decide ((List.length ah.2.2.2.2:Int)=0))))).bind fun k6=>if k6=true then (RE.ok (some [])) else ((RE.ok (ai:List Int)).bind fun aq=>((qvo 1 (ah.2.2.2.1 - 1)).bind fun x7=>(RE.ok ah.2.2.1).bind fun x8=>qoP aq x8 x7).bind fun aq=>fi ae aq ah.2.2.2.2))
abbrev SUP:List Nat:=[115,117,112,112,111,115,101]
def fiL (lo:List Int→THT→Bool) (p:PuzT):List D→List Int→Bool
 |[],ms=>decide (0∈ms)
 |d::ds,ms=>if 0∈ms then true else match dTH d with
  |.ok t=>if (qqr p t.2.2.1 t.2.2.2.1 && !stB (gI ms t.2.2.1) t.2.2.2.1)=true then fiL lo p ds ms else if lo ms t=true then fiL lo p ds (stk ms t.2.2.1 t.2.2.2.1) else false
  |_=>false
noncomputable def lb0 (p:PuzT) (ms:List Int) (t:THT):Bool:=match dT5 (dLs dI) t with
 |.ok th=>alB p ms th
 |_=>false
noncomputable def lb (p:PuzT):Nat→List Int→THT→Bool
 |0,ms,t=>lb0 p ms t
 |m+1,ms,t=>if t.1=SUP then (decide (t.2.1=0)&&qqr p t.2.2.1 t.2.2.2.1 && !decide (t.2.2.2.2.length=0)&&fiL (lb p m) p t.2.2.2.2 (ms.set t.2.2.1.toNat ((2 ^ (t.2.2.2.1 - 1).toNat:Nat):Int))) else lb0 p ms t
def PlT (t:THT):Prop:=∃th:TI,t=thD th∧(∃k:KK,th.1=k.w)∧th.2.2.2.2.length≤1000
def Vt:Nat→THT→Prop
 |0,t=>PlT t
 |m+1,t=>PlT t∨(t.1=SUP∧t.2.2.2.2.length≤1000∧∀d∈t.2.2.2.2,∃t',dTH d=.ok t'∧Vt m t')
def qxM (fo:PuzT→List Int→THT→RE (Option (List Int))) (m:Nat):Prop:=∀{p:PuzT},WfP p→∀{ms:List Int},MOk p.ground ms→∀{t:THT},Vt m t→∃o,fo p ms t=.ok o∧o.isNone=lb p m ms t∧∀l,o=some l→l.length≤m
theorem qvx {p:PuzT} {ms:List Int} {th:TI} (m:Nat) (hk:∃k:KK,th.1=k.w):lb p m ms (thD th)=alB p ms th:=by
 have n:¬(thD th).1=SUP:=by
  obtain⟨k,hk⟩:=hk
  show ¬th.1=_
  rw[hk];exact qrT k
 cases m with
 |zero=>unfold lb lb0;rw[qqk]
 |succ m=>unfold lb;rw[if_neg n];unfold lb0;rw[qqk]
theorem qvz {p:PuzT} {ms:List Int} {m:Nat} {t:THT} (hv:Vt m t) (h:lb p m ms t=true):qqr p t.2.2.1 t.2.2.2.1=true:=by
 have pl:∀m,PlT t→lb p m ms t=true→qqr p t.2.2.1 t.2.2.2.1=true:=fun m ⟨th,e,hk,_⟩ h=>by
  subst e
  rw[qvx m hk] at h
  exact(quF h).1
 cases m with
 |zero=>exact pl 0 hv h
 |succ m =>
  rcases hv with hv | ⟨e,_,_⟩
  ·exact pl _ hv h
  ·unfold lb at h
   rw[if_pos e] at h
   simp only[Bool.and_eq_true] at h
   exact h.1.1.2
section
variable {p:PuzT} {fo:PuzT→List Int→THT→RE (Option (List Int))} {m:Nat}
def qw3 (fo:PuzT→List Int→THT→RE (Option (List Int))) (p:PuzT) (book:List D):Int→List Int→RE (Fl (Option (List Int)) (List Int)):=(fun(aN:Int) (s17:List Int)=>((atE book aN).bind fun ah=>(F.clashes s17).bind fun k18=>if k18=true then (RE.ok (.rt (none:Option (List Int)))) else (((((RE.ok p).bind fun x20=>(dTH ah).bind fun x21=>F.is_in_bounds x20 x21).bind fun x22=>RE.ok (!x22)).bind fun k26=>if k26=true then RE.ok true else ((RE.ok p).bind fun x23=>(RE.ok s17).bind fun x24=>(dTH ah).bind fun x25=>F.is_standing x23 x24 x25)).bind fun k27=>if k27=true then (((RE.ok p).bind fun x28=>(RE.ok s17).bind fun x29=>(dTH ah).bind fun x30=>fo x28 x29 x30).bind fun bw=>(RE.ok bw.isSome).bind fun k31=>if k31=true then ((((unO bw).bind fun x33=>qgr [aN] x33).bind fun x34=>RE.ok ((some) x34)).bind fun x35=>RE.ok (.rt x35)) else (((RE.ok s17).bind fun x36=>((qlC ah 2).bind dI).bind fun x37=>((qlC ah 3).bind dI).bind fun x38=>F.struck x36 x37 x38).bind fun aq=>RE.ok (.nx aq))) else (RE.ok (.nx s17))):RE (Fl (Option (List Int)) (List Int))))
end
end Cm
namespace Cm
section
variable {p:PuzT}
def Le (a b:List Int):Prop:=∀d,Sb (gI a d) (gI b d)
def qxC (p:PuzT) (lo:List Int→THT→Bool) (V:THT→Prop):Prop:=∀t,V t→∀ms ms',MOk p.ground ms→MOk p.ground ms'→Le ms' ms→lo ms t=true→lo ms' t=true
end
end Cm
namespace Cm
section
variable {p:PuzT}
inductive FolS (p:PuzT):List THT→List Int→List Int→Prop
 |nil {ms:List Int}:FolS p [] ms ms
 |cons {ms left:List Int} {t:THT} {ts:List THT}:Vt 5 t→lb p 5 ms t=true→stB (gI ms t.2.2.1) t.2.2.2.1=true→0∉ms→FolS p ts (stk ms t.2.2.1 t.2.2.2.1) left→FolS p (t::ts) ms left
theorem FolS.app {xs ys:List THT} {a b c:List Int} (h:FolS p xs a b) (k:FolS p ys b c):FolS p (xs++ys) a c:=by
 induction h with
 |nil=>exact k
 |cons h0 h1 h2 h3 _ ih=>exact .cons h0 h1 h2 h3 (ih k)
theorem FolS.ok {xs:List THT} {a b:List Int} (h:FolS p xs a b) (hm:MOk p.ground a):MOk p.ground b:=by
 induction h with
 |nil=>exact hm
 |cons h0 h1 h2 h3 _ ih=>exact ih (qne hm (qlx.mp (qvz h0 h1)).1 h2)
end
end Cm
namespace Cm
section
variable {p:PuzT} {ms:List Int} {ws:List (List Nat)} {fl:Int × Int × Int}
abbrev KWs (ws:List (List Nat)):Prop:=∀w∈ws,∃k:KK,w=k.w
def thk (p:PuzT) (ms:List Int) (ws:List (List Nat)):List Int × List TI:=match F.think p ms ws with
 |.ok v=>v
 |_=>([],[])
structure Thk (p:PuzT) (ms:List Int) (ws:List (List Nat)):Prop where
 e:F.think p ms ws=.ok (thk p ms ws)
 s:Steps p ws ms (thk p ms ws).2 (thk p ms ws).1
 m:MOk p.ground (thk p ms ws).1
 g:MSg p.ground (thk p ms ws).1
 n:0∈(thk p ms ws).1∨nT p (thk p ms ws).1 ws=none
def qq1 (fl:Int × Int × Int):List Int:=(qeD (nC fl).toNat).map fun _=>qum fl
def qxn (ms:List Int):Bool:=ms.all fun m=>decide ((sgn m).length=1)
def fb1 (m:Int):Int:=match sgn m with
 |[s]=>s
 |_=>0
def qw2 (p:PuzT) (ws:List (List Nat)):Bool:=qxn (thk p (qq1 p.ground) ws).1&&mtB p ((thk p (qq1 p.ground) ws).1.map fb1)
mutual
theorem qlZ:∀(d:D) (n:Nat),d.fit n=true→d.eqb d=true
 |.non,_,_=>rfl
 |.bl b,_,_=>by simp[D.eqb]
 |.int i,_,_=>by simp[D.eqb]
 |.str s,_,_=>by simp[D.eqb]
 |.lst xs,n,h=>by
  simp only[D.fit,Bool.and_eq_true] at h
  show D.eqbs xs xs=true
  exact qg1 xs (n - 1) h.2
 |.tup xs,n,h=>by
  simp only[D.fit,Bool.and_eq_true] at h
  show D.eqbs xs xs=true
  exact qg1 xs (n - 1) h.2
 |.ins _ _,_,h=>by simp[D.fit] at h
 |.exc _ _,_,h=>by simp[D.fit] at h
theorem qg1:∀(xs:List D) (n:Nat),D.fits xs n=true→D.eqbs xs xs=true
 |[],_,_=>rfl
 |x::xs,n,h=>by
  simp only[D.fits,Bool.and_eq_true] at h
  show(D.eqb x x&&D.eqbs xs xs)=true
  rw[qlZ x n h.1,qg1 xs n h.2];rfl
end
mutual
theorem qth:∀(d:D) (n m:Nat),d.fit n=true→n≤m→d.fit m=true
 |.non,_,_,_,_=>rfl
 |.bl _,_,_,_,_=>rfl
 |.int _,_,_,_,_=>rfl
 |.str _,_,_,h,_=>h
 |.lst xs,n,m,h,hm=>by
  simp only[D.fit,Bool.and_eq_true,decide_eq_true_eq] at h ⊢
  exact⟨by omega,qlp xs (n - 1) (m - 1) h.2 (by omega)⟩
 |.tup xs,n,m,h,hm=>by
  simp only[D.fit,Bool.and_eq_true,decide_eq_true_eq] at h ⊢
  exact⟨by omega,qlp xs (n - 1) (m - 1) h.2 (by omega)⟩
 |.ins _ _,_,_,h,_=>by simp[D.fit] at h
 |.exc _ _,_,_,h,_=>by simp[D.fit] at h
theorem qlp:∀(xs:List D) (n m:Nat),D.fits xs n=true→n≤m→D.fits xs m=true
 |[],_,_,_,_=>rfl
 |x::xs,n,m,h,hm=>by
  simp only[D.fits,Bool.and_eq_true] at h ⊢
  exact⟨qth x n m h.1 hm,qlp xs n m h.2 hm⟩
end
theorem qmM {d:D} (h:d.fit 64=true):evC .eq d d=.ok true:=by
 show qkv d d=_
 unfold qkv
 split
 ·simp
 ·simp
 ·simp
 ·rw[h];simp only[Bool.and_self,if_true];rw[qlZ d 64 h]
theorem qmh {d:D} (h:d.fit 64=true):evC .ne d d=.ok false:=by
 show(qkv d d).bind _=_
 have:=qmM h
 have this:qkv d d=.ok true:=this
 rw[this];rfl
end
end Cm
namespace Cm
section
variable {p:PuzT} {ws:List (List Nat)} {cl:List Int} {fl:Int × Int × Int} {order:List Int}
abbrev pc (p:PuzT) (cl:List Int):PuzT:=⟨p.ground,p.rules,cl⟩
def wo (cl:List Int) (c:Int):List Int:=cl.set c.toNat 0
def tkS (p:PuzT) (ws:List (List Nat)) (cl:List Int) (c:Int):List Int:=if gI cl c≠0∧qw2 (pc p (wo cl c)) ws=true then wo cl c else cl
def tkL (p:PuzT) (ws:List (List Nat)) (order:List Int):List Int:=order.foldl (tkS p ws) p.clues
def qvG (p:PuzT) (ws:List (List Nat)) (cl:List Int) (c:Int):List Int:=(thk (pc p (wo cl c)) (qq1 p.ground) ws).1
def qxq (p:PuzT) (ws:List (List Nat)) (cl:List Int) (order:List Int):List (Int × List Int):=((qsZ order).filter fun c=>!decide (gI cl c=0)).map fun c=>(c,qvG p ws cl c)
end
end Cm
namespace Cm
section
variable {p:PuzT} {ms:List Int} {ws:List (List Nat)} {c s n:Int}
theorem qqO {α:Type} {xs:List α} {m:Nat} (h:m≤xs.length):qdu xs (some (m:Int)) none=xs.drop m:=by
 unfold qdu
 rw[HT.sIx_nat,HT.sIx_none,Nat.min_eq_left h,List.take_of_length_le (by rw[List.length_drop];omega)]
structure MoreP (p p':PuzT):Prop where
 g:p'.ground=p.ground
 r:p'.rules=p.rules
 c:∀c,inC p.ground c→gI p.clues c=0∨gI p'.clues c=gI p.clues c
theorem MoreP.refl (p:PuzT):MoreP p p:=⟨rfl,rfl,fun _ _=>.inr rfl⟩
theorem le_refl (a:List Int):Le a a:=fun d=>Sb.refl _
end
end Cm
namespace Cm
section
variable {α:Type} {k j:Int} {x:α}
theorem qlY:∀{m:List (Int × α)},qfs k (qs1 j x m)=if k=j then (qfs j m).map (fun _=>x) else qfs k m
 |[]=>by
  show none=_
  split<;>rfl
 |e::m=>by
  have ih:=qlY (m:=m)
  unfold qs1 at ih ⊢
  rw[List.map_cons]
  by_cases q:e.1=j
  ·rw[if_pos q]
   unfold qfs
   by_cases z:k=j
   ·rw[if_pos (by rw[q,z]),if_pos z,if_pos q];rfl
   ·rw[if_neg (by rw[q];exact fun h=>z h.symm),if_neg z,if_neg (by rw[q];exact fun h=>z h.symm),ih,if_neg z]
  ·rw[if_neg q]
   unfold qfs
   by_cases z:e.1=k
   ·rw[if_pos z,if_pos z]
    have n:k≠j:=fun h=>q (z.trans h)
    rw[if_neg n]
   ·rw[if_neg z,if_neg z,ih,if_neg q]
theorem qjA:∀{m:List (Int × α)},qfs j m=none→qfs k (m++[(j,x)])=if k=j then some x else qfs k m
 |[],_=>by
  show(if j=k then some x else none)=_
  by_cases z:k=j
  ·rw[if_pos z,if_pos z.symm]
  ·rw[if_neg z,if_neg fun h=>z h.symm];rfl
 |e::m,h=>by
  unfold qfs at h
  by_cases q:e.1=j
  ·rw[if_pos q] at h;cases h
  ·rw[if_neg q] at h
   have ih:=qjA h
   rw[List.cons_append]
   unfold qfs
   by_cases z:e.1=k
   ·rw[if_pos z,if_pos z,if_neg fun h=>q (z.trans h)]
   ·rw[if_neg z,if_neg z,ih]
theorem qpT {m:List (Int × α)}:qfs k (qoN j x m)=if k=j then some x else qfs k m:=by
 unfold qoN
 cases h:qfs j m with
 |none=>exact qjA h
 |some y =>
  rw[if_pos (show(some y).isSome=true from rfl),qlY,h];rfl
theorem qlj {m:List (Int × α)} (h:(qfs j m).isSome=true):(qoN j x m).length=m.length:=by
 unfold qoN qs1
 rw[if_pos h,List.length_map]
theorem qpW {m:List (Int × α)} (h:m.length<16777216):qmG m k x=.ok (qoN k x m):=qgt (ql9 (by have:LIM=16777216:=rfl;omega))
theorem qo0 {m:List (Int × α)} (h:qfs k m=some x):qla m k=.ok x:=by unfold qla;rw[h]
end
end Cm
namespace Cm
section
variable {fl:Int × Int × Int} {cs:List Int} {m:List (Int × Int)} {g g0:Int→Int} {k c o x:Int}
def Mk (cs:List Int) (m:List (Int × Int)) (g:Int→Int):Prop:=(∀k,qfs k m=if k∈cs then some (g k) else none)∧m.length≤100
theorem Mk.get (h:Mk cs m g) (hk:k∈cs):qla m k=.ok (g k):=qo0 (by rw[h.1,if_pos hk])
theorem Mk.put (h:Mk cs m g) (hk:k∈cs):qmG m k x=.ok (qoN k x m)∧Mk cs (qoN k x m) (fun j=>if j=k then x else g j):=by
 have hs:(qfs k m).isSome=true:=by rw[h.1,if_pos hk];rfl
 refine⟨qpW (by have:=h.2;omega),fun j=>?_,by rw[qlj hs];exact h.2⟩
 rw[qpT,h.1]
 by_cases e:j=k
 ·subst e
  rw[if_pos rfl]
  show some x=if j∈cs then some (if j=j then x else g j) else none
  rw[if_pos hk,if_pos rfl]
 ·rw[if_neg e]
  show _=if j∈cs then some (if j=k then x else g j) else none
  rw[if_neg e]
def Pg (fl:Int × Int × Int) (cs:List Int) (g0:Int→Int) (Q:Int→Int→Prop) (m:List (Int × Int)):Prop:=∃g,Mk cs m g∧(∀x∈cs,g x≤g0 x∧Rch fl cs x (g x))∧∀a b,Q a b→a∈cs→b∈cs→g a≤g0 b∧g b≤g0 a
theorem Pg.sub {Q Q':Int→Int→Prop} (h:Pg fl cs g0 Q m) (k:∀a b,a∈cs→b∈cs→Q' a b→Q a b):Pg fl cs g0 Q' m:=by
 obtain⟨g,h1,h2,h3⟩:=h
 exact⟨g,h1,h2,fun a b q ha hb=>h3 a b (k a b ha hb q) ha hb⟩
theorem Pg.edge {Q:Int→Int→Prop} (hf:FOk fl) (hi:∀x∈cs,inC fl x) (h:Pg fl cs g0 Q m) (hc:c∈cs) (ho:o∈cs) (hn:o∈qgl fl c) :
  W (((qla m c).bind fun x113=>(qla m o).bind fun x114=>RE.ok (if x114<x113 then x114 else x113)).bind fun be=>(qmG m c be).bind fun bi=>(qmG bi o be).bind fun bi=>RE.ok bi) (Pg fl cs g0 fun a b=>Q a b∨(a=c∧b=o)):=by
 obtain⟨g,h1,h2,h3⟩:=h
 rw[h1.get hc,h1.get ho]
 simp only[RE.bind_ok]
 have rco:Rch fl cs c o:=.step (.base hc) hn ho
 have roc:Rch fl cs o c:=rco.symm hf hi
 have low:∃lo,(if g o<g c then g o else g c)=lo∧lo≤g o∧lo≤g c∧Rch fl cs c lo∧Rch fl cs o lo:=by
  by_cases q:g o<g c
  ·exact⟨g o,if_pos q,Int.le_refl _,by omega,rco.trans (h2 o ho).2,(h2 o ho).2⟩
  ·exact⟨g c,if_neg q,by omega,Int.le_refl _,(h2 c hc).2,roc.trans (h2 c hc).2⟩
 obtain⟨lo,e,l1,l2,l3,l4⟩:=low
 rw[e]
 obtain⟨p1,m1⟩:=h1.put (x:=lo) hc
 rw[p1]
 simp only[RE.bind_ok]
 obtain⟨p2,m2⟩:=m1.put (x:=lo) ho
 rw[p2]
 have le:∀x∈cs,(fun j=>if j=o then lo else (fun j=>if j=c then lo else g j) j) x≤g x:=fun x hx=>by
  show(if x=o then lo else if x=c then lo else g x)≤g x
  split
  ·rename_i e;rw[e];exact l1
  ·split
   ·rename_i e;rw[e];exact l2
   ·exact Int.le_refl _
 refine W.ok ⟨_,m2,fun x hx=>⟨Int.le_trans (le x hx) (h2 x hx).1,?_⟩,fun a b q ha hb=>?_⟩
 ·show Rch fl cs x (if x=o then lo else if x=c then lo else g x)
  split
  ·rename_i e;rw[e];exact l4
  ·split
   ·rename_i e;rw[e];exact l3
   ·exact(h2 x hx).2
 ·rcases q with q | ⟨rfl,rfl⟩
  ·have:=h3 a b q ha hb
   exact⟨Int.le_trans (le a ha) this.1,Int.le_trans (le b hb) this.2⟩
  ·have e1:(if a=b then lo else if a=a then lo else g a)=lo:=by
    split
    ·rfl
    ·rw[if_pos rfl]
   have e2:(if b=b then lo else if b=a then lo else g b)=lo:=if_pos rfl
   show(if a=b then lo else if a=a then lo else g a)≤g0 b∧(if b=b then lo else if b=a then lo else g b)≤g0 a
   rw[e1,e2]
   exact⟨Int.le_trans l1 (h2 b hb).1,Int.le_trans l2 (h2 a ha).1⟩
theorem Pg.others {Q:Int→Int→Prop} (hf:FOk fl) (hi:∀x∈cs,inC fl x) (h:Pg fl cs g0 Q m) (hc:c∈cs) {os:List Int} (hn:∀o∈os,o∈cs→o∈qgl fl c) :
  W (qam (fun(bA:Int) (s105:List (Int × Int))=>(if ((qfs bA s105).isSome == true)=true then (((qla s105 c).bind fun x113=>(qla s105 bA).bind fun x114=>RE.ok (if x114<x113 then x114 else x113)).bind fun be=>(qmG s105 c be).bind fun bi=>(qmG bi bA be).bind fun bi=>RE.ok bi) else (RE.ok s105)).bind fun(p119:List (Int × Int))=>RE.ok p119) os m) (Pg fl cs g0 fun a b=>Q a b∨(a=c∧b∈os)):=by
 refine W.mono (qiM (fun i=>Pg fl cs g0 fun a b=>Q a b∨(a=c∧b∈os.take i)) (h.sub fun a b _ _ q=>?_) fun i o m hx h=>?_) fun m h=>by rw[List.take_length] at h;exact h
 ·rcases q with q | q
  ·exact q
  ·simp at q
 have tk:os.take (i+1)=os.take i++[o]:=by rw[List.take_add_one,hx];rfl
 have mo:=List.mem_of_getElem? hx
 refine W.bind (P:=Pg fl cs g0 fun a b=>Q a b∨(a=c∧b∈os.take (i+1))) ?_ fun m' h'=>W.ok h'
 have hs:(qfs o m).isSome=decide (o∈cs):=by
  obtain⟨g,h1,_⟩:=h
  rw[h1.1]
  by_cases q:o∈cs
  ·rw[if_pos q,decide_eq_true q];rfl
  ·rw[if_neg q,decide_eq_false q];rfl
 rw[hs]
 by_cases q:o∈cs
 ·rw[decide_eq_true q,if_pos (show(true == true)=true from rfl)]
  refine W.mono (h.edge hf hi hc q (hn o mo q)) fun m' h'=>h'.sub fun a b _ _ z=>?_
  rcases z with z | ⟨z1,z2⟩
  ·exact .inl (.inl z)
  ·rw[tk] at z2
   rcases List.mem_append.mp z2 with w | w
   ·exact .inl (.inr ⟨z1,w⟩)
   ·exact .inr ⟨z1,List.mem_singleton.mp w⟩
 ·rw[decide_eq_false q,if_neg (by decide)]
  refine W.ok (h.sub fun a b _ hb z=>?_)
  rcases z with z | ⟨z1,z2⟩
  ·exact .inl z
  ·rw[tk] at z2
   rcases List.mem_append.mp z2 with w | w
   ·exact .inr ⟨z1,w⟩
   ·rw[List.mem_singleton.mp w] at hb
    exact absurd hb q
def nbL (w c:Int):List Int:=[c+w]++(if 0<(c+1).fmod w then [c+1] else [])
end
end Cm
namespace Cm
theorem qmg {x sep:List Nat} {ws:List (List Nat)} (hl:x.length≤1000000) (hs:sep≠[]) (hk:sep.all (· < 256)=true) (e:TL.spl sep 0 [] x=ws):qhd x sep=.ok ws:=by
 unfold qhd
 have h:=SX.split_S (a:=x) (b:=sep) hs hk
 have e2:(PySem.Txt.split (qa1 x) (qa1 sep))=ws.map SX.S:=by rw[←e];exact h
 rw[e2,List.map_map]
 have:ws.map ((fun z:PySem.Str=>z.cps.toList) ∘ SX.S)=ws.map id:=List.map_congr_left fun w _=>rfl
 rw[this,List.map_id,qgt]
 rw[qbs]
 have l:LIM=16777216:=rfl
 exact⟨fun z=>hs (List.length_eq_zero_iff.mp z),by omega⟩
def MK:List Nat:=[46,49,50,51,52,53,54]
def mkT (s:Int):Nat:=MK.getD s.toNat 46
def qwT (fl:Int × Int × Int) (cl:List Int) (k:Nat):List Nat:=((cl.drop (k*fl.2.1.toNat)).take fl.2.1.toNat).map mkT
def qvu (fl:Int × Int × Int) (cl:List Int):List (List Nat):=(List.range fl.1.toNat).map (qwT fl cl)
def fiT (fl:Int × Int × Int) (cl:List Int):List Nat:=TL.joinL [47] (qvu fl cl)
section
variable {fl:Int × Int × Int} {cl:List Int}
end
def qvM (fl:Int × Int × Int):List Nat:=TL.joinL [32] [dgI fl.1,dgI fl.2.1,dgI fl.2.2]
def qxU (fl:Int × Int × Int) (ls:List (List Nat)) (cl:List Int):List Nat:=(((qvM fl++[32,124,32])++TL.joinL [59,32] ls)++[32,124,32])++fiT fl cl
def PlC (c:Nat):Prop:=c=32∨(48≤c∧c<58)∨(97≤c∧c<123)
section
variable {fl:Int × Int × Int} {cl:List Int} {rs:List RuleT}
end
end Cm
namespace Cm
section
variable {p:PuzT} {ms:List Int} {ws:List (List Nat)} {fi:List Int}
structure Ans (p:PuzT) (fi:List Int):Prop where
 l:(fi.length:Int)=nC p.ground
 b:∀x∈fi,1≤x∧x≤p.ground.2.2
 c:∀c,inC p.ground c→gI p.clues c=0∨gI p.clues c=gI fi c
 r:∀r∈p.rules,qqL r (gI fi)=true
theorem Ans.at_ (h:Ans p fi) {c:Int} (hc:inC p.ground c):1≤gI fi c∧gI fi c≤p.ground.2.2:=h.b _ (qqI hc.1 (by have:=h.l;have:=hc.2;omega))
def mbL (fl:Int × Int × Int) (e:List Int):List Int:=match F.masks_by fl e with
 |.ok v=>v
 |_=>[]
structure Mbs (fl:Int × Int × Int) (en:List Int):Prop where
 e:F.masks_by fl en=.ok (mbL fl en)
 m:MOk fl (mbL fl en)
 g:MSg fl (mbL fl en)
 v:∀c,inC fl c→gI (mbL fl en) c=qxl fl (gI en c)
def tho (p:PuzT) (e:List Int) (ws:List (List Nat)):List Int × List TI:=thk p (mbL p.ground e) ws
def qxi (p:PuzT) (e:List Int) (ws:List (List Nat)):Bool:=decide ((0:Int)∈(tho p e ws).1)
structure Wrg (p:PuzT) (e:List Int) (ws:List (List Nat)) (lf cells:List Int):Prop where
 f:quP p.ground lf
 c:qxi p lf ws=true
 v:∀c,inC p.ground c→gI lf c=0∨gI lf c=gI e c
 cs:cells=(qeD lf.length).filter fun c=>!decide (gI lf c=0)
end
end Cm
namespace Cm
section
variable {p:PuzT} {g:List Int}
abbrev zrs (p:PuzT):List Int:=List.replicate p.clues.length 0
end
end Cm
namespace Cm
section
variable {p p':PuzT} {ms left:List Int} {ws:List (List Nat)} {fi:List Int}
section
variable (hp:WfP p) (hw:KWs ws)
include hp hw
end
theorem MoreP.ans (h:MoreP p p') (ha:Ans p' fi):Ans p fi:=by
 refine⟨by rw[←h.g];exact ha.l,by rw[←h.g];exact ha.b,fun c hc=>?_,fun r hr=>ha.r r (by rw[h.r];exact hr)⟩
 rcases h.c c hc with q | q
 ·exact .inl q
 ·rw[←q]
  exact ha.c c (by rw[h.g];exact hc)
def Sub0 (fl:Int × Int × Int) (a b:List Int):Prop:=∀c,inC fl c→gI a c=0∨gI a c=gI b c
theorem Sub0.trans {fl:Int × Int × Int} {a b c:List Int} (h:Sub0 fl a b) (k:Sub0 fl b c):Sub0 fl a c:=fun d hd=>by
 rcases h d hd with q | q
 ·exact .inl q
 ·rw[q];exact k d hd
end
end Cm
namespace Cm
def wyI (ms:List Int):Int:=qrF (ms.map fun m=>((sgn m).length:Int))
def won (ms:List Int) (c t:Int):List Int:=ms.set c.toNat ((2 ^ (t - 1).toNat:Nat):Int)
section
variable {p p':PuzT} {ms left:List Int} {ws:List (List Nat)} {fi:List Int} {c t:Int}
end
end Cm
namespace Cm
def aB (K:PuzT→List Int→RE (List (List Int))) (ae:PuzT) (ai:List Int):RE (List (List Int)):=
 ((F.think ae ai qaC).bind fun x1=>RE.ok x1.1).bind fun aq=>(F.clashes aq).bind fun k2=>if k2=true then (RE.ok []) else ((F.is_settled aq).bind fun k3=>if k3=true then ((F.filling_by aq).bind fun x4=>RE.ok [x4]) else K ae aq)
def kA0 (ae:PuzT) (aq:List Int):RE (List (List Int)):=
 ((F.first_open aq).bind fun ac=>(RE.ok ([]:List (List Int))).bind fun aj=>(((atE aq ac).bind fun x5=>F.signs_in x5).bind fun y17=>qam (fun(ak:Int) (s9:List (List Int))=>((RE.ok (decide ((List.length s9:Int)<2))).bind fun k10=>if k10=true then (((RE.bad:RE (List (List Int))).bind fun x14=>qgr s9 x14).bind fun aj=>RE.ok aj) else (RE.ok s9)).bind fun(p15:List (List Int))=>RE.ok p15) y17 aj).bind fun(p16:List (List Int))=>RE.ok p16)
def kA (rec:PuzT→List Int→RE (List (List Int))) (ae:PuzT) (aq:List Int):RE (List (List Int)):=
 ((F.first_open aq).bind fun ac=>(RE.ok ([]:List (List Int))).bind fun aj=>(((atE aq ac).bind fun x5=>F.signs_in x5).bind fun y23=>qam (fun(ak:Int) (s11:List (List Int))=>((RE.ok (decide ((List.length s11:Int)<2))).bind fun k12=>if k12=true then ((((RE.ok ae).bind fun x17=>(F.with_only aq ac ak).bind fun x18=>rec x17 x18).bind fun x20=>qgr s11 x20).bind fun aj=>RE.ok aj) else (RE.ok s11)).bind fun(p21:List (List Int))=>RE.ok p21) y23 aj).bind fun(p22:List (List Int))=>RE.ok p22)
def rB (su:PuzT→List Int→Int→Int→RE D) (ae:PuzT) (ai:List Int):RE (List D):=
 ((F.think ae ai qaC).bind (qkz eI (eT5 eS eI eI eI (eL eI)))).bind fun p1=>(F.clashes p1.1).bind fun k2=>if k2=true then (RE.ok (List.map ((eT5 eS eI eI eI (eL eI))) p1.2)) else ((F.first_open p1.1).bind fun ac=>(((atE p1.1 ac).bind fun x3=>F.signs_in x3).bind fun y8=>qam (fun(ak:Int) (s5:List D)=>((su ae p1.1 ac ak).bind fun x6=>qeA s5 x6).bind fun aM=>RE.ok aM) y8 (List.map ((eT5 eS eI eI eI (eL eI))) p1.2)).bind fun(p7:List D)=>RE.ok p7)
def sB (re:PuzT→List Int→RE (List D)) (ae:PuzT) (ai:List Int) (ac:Int) (ak:Int):RE D:=
 ((RE.ok ([115,117,112,112,111,115,101])).bind fun x3=>(RE.ok 0).bind fun x4=>(RE.ok ac).bind fun x5=>(RE.ok ak).bind fun x6=>((RE.ok ae).bind fun x1=>(F.with_only ai ac ak).bind fun x2=>re x1 x2).bind fun x7=>RE.ok (x3,x4,x5,x6,x7)).bind fun x8=>RE.ok (((eT5 eS eI eI eI (eL eD))) x8)
section
variable {p:PuzT} {ms left:List Int} {fi:List Int} {c t:Int}
structure AL (p:PuzT) (b:Nat) (ms:List Int) (L:List (List Int)):Prop where
 a:∀x∈L,Ans p x∧Snd p.ground ms x
 d:L.Nodup
 f:∀x,Ans p x→Snd p.ground ms x→x∈L∨2≤L.length
 n:L.length≤b
def qxY (b w:Nat) (F:PuzT→List Int→RE (List (List Int))):Prop:=∀{p:PuzT},WfP p→∀{ms:List Int},MOk p.ground ms→MSg p.ground ms→wyI ms≤w→W (F p ms) (AL p b ms)
end
end Cm
namespace Cm
def qxE (w:Nat) (re:PuzT→List Int→RE (List D)):Prop:=∀{p:PuzT},WfP p→∀{ms:List Int},MOk p.ground ms→MSg p.ground ms→(∀x,Ans p x→¬Snd p.ground ms x)→wyI ms≤w→W (re p ms) fun b=>b.length≤2000
def qxW (w:Nat) (su:PuzT→List Int→Int→Int→RE D):Prop:=∀{p:PuzT},WfP p→∀{ms:List Int},MOk p.ground ms→MSg p.ground ms→∀{c t:Int},inC p.ground c→1≤t→t≤6→stB (gI ms c) t=true→(∀x,Ans p x→Snd p.ground ms x→gI x c≠t)→wyI (won ms c t)≤w→W (su p ms c t) fun _=>True
section
variable {p:PuzT} {ms left:List Int} {fi ans:List Int} {c t:Int}
def few (p:PuzT):Prop:=(0:Int)∈(thk p (qq1 p.ground) qaC).1∨wyI (thk p (qq1 p.ground) qaC).1≤32
inductive Sol (p:PuzT):D→Prop
 |none {b:List D}:b.length≤100000→few p→(∀x,¬Ans p x)→Sol p (.tup [.str [110,111,110,101],.lst b])
 |rests {b:List D}:¬few p→Sol p (.tup [.str [114,101,115,116,115],.lst ((thk p (qq1 p.ground) qaC).1.map eI),.lst b])
 |two {a b:List Int}:few p→Ans p a→Ans p b→a≠b→Sol p (.tup [.str [116,119,111],.lst (a.map eI),.lst (b.map eI)])
 |one {a:List Int} {b:List D}:b.length≤100000→few p→Ans p a→(∀x,Ans p x→x=a)→Sol p (.tup [.str [111,110,101],.lst (a.map eI),.lst b])
end
end Cm
namespace Cm
section
variable {p p':PuzT} {ms left cl:List Int} {fi ans:List Int} {c t:Int}
def One (p:PuzT):Prop:=∃(a:List Int) (b:List D),F.solve p=.ok (.tup [.str [111,110,101],.lst (a.map eI),.lst b])∧few p∧Ans p a∧∀x,Ans p x→x=a
def Two (p:PuzT):Prop:=∃a b:List Int,F.solve p=.ok (.tup [.str [116,119,111],.lst (a.map eI),.lst (b.map eI)])∧few p∧Ans p a∧Ans p b∧a≠b
def Rst (p:PuzT):Prop:=∃b:List D,F.solve p=.ok (.tup [.str [114,101,115,116,115],.lst ((thk p (qq1 p.ground) qaC).1.map eI),.lst b])∧¬few p
def Oth (p:PuzT) (pre:List (Int × Int)) (xs:List (Int × List Int)):Prop:=xs.map (·.1)=(pre.filter fun q=>!decide (q.2=0)).map (·.1)∧∀q∈xs,inC p.ground q.1∧Ans (pc p (wo p.clues q.1)) q.2∧gI q.2 q.1≠gI p.clues q.1
abbrev qx2 (q:Int × List Int):Int × D:=(q.1,.lst (q.2.map eI))
inductive Lst (p:PuzT):D→Prop
 |spare {k:Int} {b:D}:inC p.ground k→gI p.clues k≠0→One (pc p (wo p.clues k))→(∃a,F.solve (pc p (wo p.clues k))=.ok (.tup [.str [111,110,101],a,b]))→(∀j,0≤j→j<k→gI p.clues j≠0→Two (pc p (wo p.clues j)))→Lst p (.tup [.str [115,112,97,114,101],.int k,b])
 |rests {k:Int}:inC p.ground k→gI p.clues k≠0→Rst (pc p (wo p.clues k))→(∀j,0≤j→j<k→gI p.clues j≠0→Two (pc p (wo p.clues j)))→Lst p (.tup [.str [114,101,115,116,115],.int k])
 |least {xs:List (Int × List Int)}:Oth p (qqV p.clues) xs→(∀j,inC p.ground j→gI p.clues j≠0→Two (pc p (wo p.clues j)))→Lst p (.tup [.str [108,101,97,115,116],.lst (xs.map fun q=>.tup [.int q.1,.lst (q.2.map eI)])])
end
end Cm
set_option maxHeartbeats 400000
namespace K18
open Cm
def qf8:Nat→Option Bool:=fun c=>List.lookup c [(33,true)]
def qqF:Nat→Option Bool:=fun c=>List.lookup c [(0,false),(1,false),(2,false),(3,false),(4,false),(5,false),(6,false),(7,false)]
def qjz:Nat→Option Bool:=fun c=>List.lookup c [(33,true)]
def qt6:Nat→Option Bool:=fun c=>List.lookup c [(0,false),(1,false),(2,false),(3,false),(4,false),(5,false),(6,false),(7,false)]
def qfp:Nat→Option Bool:=fun c=>List.lookup c [(33,true)]
def qpf:Nat→Option Bool:=fun c=>List.lookup c []
def qhQ:Nat→Option Bool:=fun c=>List.lookup c [(33,false)]
def qs7:Nat→Option Bool:=fun c=>List.lookup c [(0,false),(1,false),(2,false),(3,false),(4,false),(5,false),(6,false),(7,false)]
def qf9:Nat→Option Bool:=fun c=>List.lookup c [(33,false)]
def qqg:Nat→Option Bool:=fun c=>List.lookup c [(0,false),(1,false),(2,false),(3,false),(4,false),(5,false),(6,false),(7,false)]
def qht:Nat→Option Bool:=fun c=>List.lookup c [(33,false)]
def qsJ:Nat→Option Bool:=fun c=>List.lookup c [(0,false),(1,false),(2,false),(3,false),(4,false),(5,false),(6,false),(7,false)]
def qhW:Nat→Option Bool:=fun c=>List.lookup c [(33,false)]
def qs3:Nat→Option Bool:=fun c=>List.lookup c [(0,false),(1,false),(2,false),(3,false),(4,false),(5,false),(6,false),(7,false)]
def qjX:Nat→Option Bool:=fun c=>List.lookup c [(33,false)]
def qtm:Nat→Option Bool:=fun c=>List.lookup c [(0,false),(1,false),(2,false),(3,false),(4,false),(5,false),(6,false),(7,false)]
def qje:Nat→Option Bool:=fun c=>List.lookup c [(33,false)]
def qug:Nat→Option Bool:=fun c=>List.lookup c [(0,false),(1,false),(2,false),(3,false),(4,false),(5,false),(6,false),(7,false)]
def qji:Nat→Option Bool:=fun c=>List.lookup c [(33,false)]
def qtO:Nat→Option Bool:=fun c=>List.lookup c [(0,false),(1,false),(2,false),(3,false),(4,false),(5,false),(6,false),(7,false)]
def qjS:Nat→Option Bool:=fun c=>List.lookup c [(33,false)]
def qux:Nat→Option Bool:=fun c=>List.lookup c [(0,false),(1,false),(2,false),(3,false),(4,false),(5,false),(6,false),(7,false)]
def qlt:Nat→Option Bool:=fun c=>List.lookup c [(33,false)]
def quY:Nat→Option Bool:=fun c=>List.lookup c [(0,false),(1,false),(2,false),(3,false),(4,false),(5,false),(6,false),(7,false)]
def qfk:Nat→Option Bool:=fun c=>List.lookup c [(33,false)]
def qpb:Nat→Option Bool:=fun c=>List.lookup c [(0,false),(1,false),(2,false),(3,false),(4,false),(5,false),(6,false),(7,false)]
def qvL:Nat→Option Bool:=fun c=>List.lookup c []
def qkW:Nat→Option Bool:=fun c=>List.lookup c [(0,true),(1,true),(2,true),(3,true),(4,true),(5,true),(6,true),(7,true)]
def qcw (aD:List Int) (aN:Int):RE Int:=
 ((((qip aN aN).bind fun x1=>RE.ok (x1*7919)).bind fun x3=>RE.ok (x3+(104729*aN))).bind fun x5=>RE.ok (x5+11)).bind fun av=>((RE.ok (decide (0<(List.length aD:Int)))).bind fun k7=>if k7=true then ((((RE.ok aD).bind fun x20=>(qjU aN (List.length aD:Int)).bind fun x21=>atE x20 x21).bind fun x22=>(qvU 10 30).bind fun x23=>qjU x22 x23).bind fun ac=>((((qsV aN (List.length aD:Int)).bind fun x27=>RE.ok (48271+x27)).bind fun x29=>qip ac x29).bind fun x31=>RE.ok (av+x31)).bind fun av=>RE.ok av) else (RE.ok av)).bind fun(p32:Int)=>RE.ok (Int.fmod p32 2147483629)
def qfI (av:Int):RE (Int × Int × Int):=
 (RE.ok ([]:List (Int × Int))).bind fun bj=>((qiy 1 7).bind fun y26=>qam (fun(aR:Int) (s11:List (Int × Int))=>((qiy 1 7).bind fun y21=>qam (fun(aZ:Int) (s15:List (Int × Int))=>(((qip aR aZ).bind fun x16=>RE.ok (decide (x16≤16))).bind fun k18=>if k18=true then ((qeA s15 (aR,aZ)).bind fun bj=>RE.ok bj) else (RE.ok s15)).bind fun(p19:List (Int × Int))=>RE.ok p19) y21 s11).bind fun(p20:List (Int × Int))=>RE.ok p20) y26 bj).bind fun(p22:List (Int × Int))=>((RE.ok p22).bind fun x23=>(qjU av (List.length p22:Int)).bind fun x24=>atE x23 x24).bind fun p25=>RE.ok (p25.1,p25.2,1+(Int.fmod (Int.fdiv av 100) 6))
def qe6 (aD:List Int) (aC:Int) (aF:Int) (bq:Int):RE (List Int):=
 (qbD aF).bind fun aq=>(RE.ok ([]:List Int)).bind fun aj=>((qbD bq).bind fun y11=>qam (fun(aN:Int) (s5:(List Int) × (List Int))=>(((qcw aD (aC+aN)).bind fun x6=>qjU x6 (List.length s5.1:Int)).bind fun x9=>qmp s5.2 s5.1 x9).bind fun p8=>RE.ok (p8.2,p8.1)) y11 (aq,aj)).bind fun(p10:(List Int) × (List Int))=>RE.ok p10.2
def qmv (aD:List Int) (aC:Int) (ay:Int × Int × Int):RE (List Nat):=
 (qcw aD aC).bind fun av=>(qip ay.1 ay.2.1).bind fun aF=>(atE ([[117,110,108,105,107,101],[115,117,109],[114,105,115,105,110,103],[115,101,101,110],[99,111,117,110,116],[106,111,105,110,101,100],[110,111,115,113,117,97,114,101],[114,105,110,103]]) (Int.fmod av 8)).bind fun aK=>((RE.ok aD).bind fun x5=>(RE.ok (aC+1)).bind fun x6=>(RE.ok aF).bind fun x7=>((qjU (Int.fdiv av 8) aF).bind fun x4=>RE.ok (1+x4)).bind fun x8=>qe6 x5 x6 x7 x8).bind fun aQ=>((RE.ok (decide ((Int.fmod (Int.fdiv av 128) 6)=0))).bind fun k9=>if k9=true then (((qjU (Int.fdiv av 768) ((List.length aQ:Int)+1)).bind fun x22=>(((RE.ok aF).bind fun x17=>(atE aQ 0).bind fun x18=>(RE.ok (aF+(Int.fmod (Int.fdiv av 768) 90))).bind fun x19=>RE.ok [x17,x18,x19]).bind fun x20=>(RE.ok (Int.fmod (Int.fdiv av 768) 3)).bind fun x21=>atE x20 x21).bind fun x23=>qur aQ x22 x23).bind fun aQ=>RE.ok aQ) else (RE.ok aQ)).bind fun(p24:List Int)=>((qjU (Int.fdiv av 768) ay.2.2).bind fun x26=>RE.ok (1+x26)).bind fun aO=>((RE.ok (decide ((Int.fmod (Int.fdiv av 6144) 7)=0))).bind fun k27=>if k27=true then ((atE ([0,ay.2.2+1]) (Int.fmod (Int.fdiv av 768) 2)).bind fun aO=>RE.ok aO) else (RE.ok aO)).bind fun(p28:Int)=>(atE ([Int.fmod (Int.fdiv av 50000) 100,Int.fmod (Int.fdiv av 50000) 12,99,100]) (Int.fmod (Int.fdiv av 43008) 4)).bind fun aw=>(RE.ok ([aK]:List (List Nat))).bind fun aH=>((qj7 aK ([[115,117,109],[115,101,101,110],[99,111,117,110,116]])).bind fun k29=>if k29=true then (((qoW aw).bind fun x31=>qeA aH x31).bind fun aH=>RE.ok aH) else (RE.ok aH)).bind fun(p32:List (List Nat))=>((qj7 aK ([[99,111,117,110,116],[106,111,105,110,101,100],[110,111,115,113,117,97,114,101],[114,105,110,103]])).bind fun k33=>if k33=true then (((qoW p28).bind fun x35=>qeA p32 x35).bind fun aH=>RE.ok aH) else (RE.ok p32)).bind fun(p36:List (List Nat))=>((qj7 aK ([[117,110,108,105,107,101],[115,117,109],[114,105,115,105,110,103],[115,101,101,110],[99,111,117,110,116]])).bind fun k37=>if k37=true then ((((RE.ok p24).bind fun x41=>gd (leB x41.length) (lcE (fun(ac:Int)=>(RE.ok true)) (fun(ac:Int)=>(qoW ac)) x41)).bind fun x43=>qgr p36 x43).bind fun aH=>RE.ok aH) else (RE.ok p36)).bind fun(p44:List (List Nat))=>((RE.ok (decide ((Int.fmod (Int.fdiv av 43008) 9)=0))).bind fun k45=>if k45=true then (((qjU (Int.fdiv av 128) (List.length p44:Int)).bind fun z=>qnK p44 z).bind fun aH=>RE.ok aH) else (RE.ok p44)).bind fun(p46:List (List Nat))=>qj6 [32] p46
def qfT (av:Int):RE Nat:=
 (RE.ok ([48,49,50,51,52,53,54,55,56,57,32,48,49,50,51,52,53,54,55,56,57,32,108,107,101,115,116,114,105,103,109,111,32,33,34,35,36,38,39,40,41,42,43,44,45,46,47,58,59,60,61,62,63,64,65,66,67,68,69,70,71,72,73,74,75,76,77,78,79,80,81,82,83,84,85,86,87,88,89,90,91,93,94,95,96,123,124,125,126]:List Nat)).bind fun aA=>(qfC aA ([97,98,99,100,101,102,103,104,105,106,107,108,109,110,111,112,113,114,115,116,117,118,119,120,121,122,92])).bind fun aA=>(RE.ok aA).bind fun x3=>((qfM aA).bind fun x2=>qjU av x2).bind fun x4=>qoR x3 x4
def qdi (az:List Nat) (av:Int):RE (Option D):=
 (RE.ok (Int.fmod av 10:Int)).bind fun br=>(((qfM az).bind fun x1=>RE.ok (x1+1)).bind fun x4=>qjU (Int.fdiv av 10) x4).bind fun aC=>(RE.ok (decide (br=0))).bind fun k5=>if k5=true then ((((qhg az none (some aC)).bind fun x7=>((qfT (Int.fdiv av 1000)).bind fun x6=>RE.ok ((fun c=>[c]) x6)).bind fun x8=>qfC x7 x8).bind fun x9=>(qhg az (some aC) none).bind fun x10=>qfC x9 x10).bind fun x11=>RE.ok ((fun x=>some ((eS) x)) x11)) else ((RE.ok (decide (br=1))).bind fun k12=>if k12=true then ((((qhg az none (some aC)).bind fun x14=>((qfT (Int.fdiv av 1000)).bind fun x13=>RE.ok ((fun c=>[c]) x13)).bind fun x15=>qfC x14 x15).bind fun x16=>(qhg az (some (aC+1)) none).bind fun x17=>qfC x16 x17).bind fun x18=>RE.ok ((fun x=>some ((eS) x)) x18)) else ((RE.ok (decide (br=2))).bind fun k19=>if k19=true then (((qhg az none (some aC)).bind fun x20=>(qhg az (some (aC+1)) none).bind fun x21=>qfC x20 x21).bind fun x22=>RE.ok ((fun x=>some ((eS) x)) x22)) else ((RE.ok (decide (br=3))).bind fun k23=>if k23=true then (((qhg az none (some aC)).bind fun x32=>((RE.ok az).bind fun x29=>((((qfM az).bind fun x24=>RE.ok (x24+1)).bind fun x27=>qjU (Int.fdiv av 1000) x27).bind fun x28=>RE.ok (some x28)).bind fun x30=>(RE.ok none).bind fun x31=>qhg x29 x30 x31).bind fun x33=>qfC x32 x33).bind fun x34=>RE.ok ((fun x=>some ((eS) x)) x34)) else ((RE.ok (decide (br=4))).bind fun k35=>if k35=true then (((RE.ok (none:Option D)).bind fun x39=>(RE.ok ((fun x=>some ((eB) x)) true)).bind fun x40=>(RE.ok ((fun x=>some ((eI) x)) av)).bind fun x41=>(RE.ok ((fun x=>some (((eL eS)) x)) [az])).bind fun x42=>(RE.ok ((fun x=>some (((eT1 eS)) x)) (az:List Nat))).bind fun x43=>(RE.ok ((fun x=>some ((eS) x)) [])).bind fun x44=>((qfC [32] az).bind fun x36=>RE.ok ((fun x=>some ((eS) x)) x36)).bind fun x45=>((qfC az [32]).bind fun x37=>RE.ok ((fun x=>some ((eS) x)) x37)).bind fun x46=>((qrm az).bind fun x38=>RE.ok ((fun x=>some ((eS) x)) x38)).bind fun x47=>RE.ok [x39,x40,x41,x42,x43,x44,x45,x46,x47]).bind fun x48=>(RE.ok (Int.fmod (Int.fdiv av 10) 9)).bind fun x49=>atE x48 x49) else (RE.ok ((fun x=>some ((eS) x)) az))))))
def qeu (ax:List Nat):RE (Option Int):=
 (((qfM ax).bind fun x1=>RE.ok (decide (x1=0))).bind fun k7=>if k7=true then RE.ok true else ((((RE.ok ax).bind fun x3=>gd (leB x3.length) (RE.ok (List.filter (fun(aO:Nat)=>!decide (aO∈([48,49,50,51,52,53,54,55,56,57]))) x3))).bind fun x4=>RE.ok (List.length x4:Int)).bind fun x5=>RE.ok (decide (0<x5)))).bind fun k8=>if k8=true then (RE.ok (none:Option Int)) else ((((qfM ax).bind fun x9=>RE.ok (decide (2<x9))).bind fun k16=>if k16=true then RE.ok true else (((qfM ax).bind fun x11=>RE.ok (decide (x11=2))).bind fun k15=>if k15=true then ((qoR ax 0).bind fun x13=>RE.ok (decide ([x13]=[48]))) else RE.ok false)).bind fun k17=>if k17=true then (RE.ok (none:Option Int)) else ((RE.ok (0:Int)).bind fun av=>((RE.ok ax).bind fun y24=>qam (fun(aO:Nat) (s20:Int)=>((qmH ([48,49,50,51,52,53,54,55,56,57]) [aO]).bind fun x22=>RE.ok ((10*s20)+x22)).bind fun av=>RE.ok av) y24 av).bind fun(p23:Int)=>RE.ok (some p23)))
def qbG (ay:Int × Int × Int) (aK:List Nat) (av:Option Int) (aO:Option Int) (aQ:List (Option Int)):RE (Option (List Nat × (List (Option Int)) × (Option Int) × (Option Int))):=
 (qip ay.1 ay.2.1).bind fun aF=>((RE.ok (decide ((List.length aQ:Int)=0))).bind fun k7=>if k7=true then RE.ok true else ((((dLs unO aQ).bind qio).bind fun x1=>RE.ok (decide (x1<(List.length aQ:Int)))).bind fun k6=>if k6=true then RE.ok true else (((dLs unO aQ).bind fun x3=>qmm x3).bind fun x4=>RE.ok (decide (aF≤x4))))).bind fun k8=>if k8=true then (RE.ok (none:Option (List Nat × (List (Option Int)) × (Option Int) × (Option Int)))) else (((RE.ok (decide (aK=([99,111,117,110,116])))).bind fun k13=>if k13=true then (((RE.ok 1).bind fun x9=>(unO aO).bind fun x10=>if decide (x9≤x10)=true then (RE.ok ay.2.2).bind fun x11=>RE.ok (decide (x10≤x11)) else RE.ok false).bind fun x12=>RE.ok (!x12)) else RE.ok false).bind fun k14=>if k14=true then (RE.ok (none:Option (List Nat × (List (Option Int)) × (Option Int) × (Option Int)))) else (RE.ok (some (aK,aQ,av,aO))))
def qgz (ay:Int × Int × Int) (az:Option D):RE (Option (List Nat × (List (Option Int)) × (Option Int) × (Option Int))):=
 ((tyE ((eO eD) az) .str).bind fun x1=>RE.ok (!x1)).bind fun k2=>if k2=true then (RE.ok (none:Option (List Nat × (List (Option Int)) × (Option Int) × (Option Int)))) else (((dS ((eO eD) az)).bind fun x3=>(RE.ok [32]).bind fun x4=>qhd x3 x4).bind fun aH=>(atE aH 0).bind fun aK=>((RE.ok (qdu aH (some 1) none)).bind fun x5=>gd (leB x5.length) (lcE (fun(ax:List Nat)=>(RE.ok true)) (fun(ax:List Nat)=>(qeu ax)) x5)).bind fun au=>(evC .isin (eU ()) ((eL (eO eI)) au)).bind fun k6=>if k6=true then (RE.ok (none:Option (List Nat × (List (Option Int)) × (Option Int) × (Option Int)))) else ((qj7 aK ([[106,111,105,110,101,100],[110,111,115,113,117,97,114,101],[114,105,110,103]])).bind fun k7=>if k7=true then (((RE.ok (!decide ((List.length au:Int)=1))).bind fun k12=>if k12=true then RE.ok true else (((RE.ok 1).bind fun x8=>((atE au 0).bind unO).bind fun x9=>if decide (x8≤x9)=true then (RE.ok ay.2.2).bind fun x10=>RE.ok (decide (x9≤x10)) else RE.ok false).bind fun x11=>RE.ok (!x11))).bind fun k13=>if k13=true then (RE.ok (none:Option (List Nat × (List (Option Int)) × (Option Int) × (Option Int)))) else (((RE.ok aK).bind fun x15=>((qip ay.1 ay.2.1).bind qbD).bind fun x16=>(RE.ok 0).bind fun x17=>(atE au 0).bind fun x18=>RE.ok (x15,x16,x17,x18)).bind fun x19=>RE.ok ((fun x=>some ((fun(p:List Nat × (List Int) × Int × (Option Int))=>(p.1,(List.map (some)) p.2.1,some p.2.2.1,p.2.2.2)) x)) x19))) else ((qj7 aK ([[117,110,108,105,107,101],[114,105,115,105,110,103]])).bind fun k20=>if k20=true then (qbG ay aK (some 0) (some 0) au) else (((qj7 aK ([[115,117,109],[115,101,101,110]])).bind fun k21=>if k21=true then (RE.ok (decide (1<(List.length au:Int)))) else RE.ok false).bind fun k22=>if k22=true then ((RE.ok ay).bind fun x23=>(RE.ok aK).bind fun x24=>(atE au 0).bind fun x25=>(RE.ok (some 0)).bind fun x26=>(RE.ok (qdu au (some 1) none)).bind fun x27=>qbG x23 x24 x25 x26 x27) else ((RE.ok ((decide (aK=([99,111,117,110,116])))&&(decide (2<(List.length au:Int))))).bind fun k28=>if k28=true then ((RE.ok ay).bind fun x29=>(RE.ok aK).bind fun x30=>(atE au 0).bind fun x31=>(atE au 1).bind fun x32=>(RE.ok (qdu au (some 2) none)).bind fun x33=>qbG x29 x30 x31 x32 x33) else (RE.ok (none:Option (List Nat × (List (Option Int)) × (Option Int) × (Option Int)))))))))
def F.read_rule (af:Int × Int × Int) (aW:D):RE RuleT:=
 ((tyE (eD aW) .str).bind fun x1=>RE.ok (!x1)).bind fun k2=>if k2=true then (RE.exc 33 []) else (((dS aW).bind fun x3=>(RE.ok [32]).bind fun x4=>qhd x3 x4).bind fun aH=>(atE aH 0).bind fun ax=>(qn5 ax ([[117,110,108,105,107,101],[115,117,109],[114,105,115,105,110,103],[115,101,101,110],[99,111,117,110,116],[106,111,105,110,101,100],[110,111,115,113,117,97,114,101],[114,105,110,103]])).bind fun k5=>if k5=true then (RE.exc 33 []) else (((RE.ok (qdu aH (some 1) none)).bind fun x6=>gd (leB x6.length) (qmj (fun(aJ:List Nat)=>(RE.ok true)) (fun(aJ:List Nat)=>(F.number_of aJ)) x6)).bind fun au=>(qj7 ax ([[106,111,105,110,101,100],[110,111,115,113,117,97,114,101],[114,105,110,103]])).bind fun k7=>if k7=true then (F.whole_rule af ax au) else ((RE.ok (decide (ax=([117,110,108,105,107,101])))).bind fun k8=>if k8=true then ((RE.ok af).bind fun x9=>(F.cells_told af au).bind fun x10=>(RE.ok 0).bind fun x11=>(RE.ok 0).bind fun x12=>RE.ok (RuleT.mk .unlike x9 x10 x11 x12)) else ((RE.ok (decide (ax=([114,105,115,105,110,103])))).bind fun k13=>if k13=true then ((RE.ok af).bind fun x14=>(F.cells_told af au).bind fun x15=>(RE.ok 0).bind fun x16=>(RE.ok 0).bind fun x17=>RE.ok (RuleT.mk .rising x14 x15 x16 x17)) else ((RE.ok (decide (ax=([99,111,117,110,116])))).bind fun k18=>if k18=true then ((F.sign_told af au 1).bind fun ak=>(RE.ok af).bind fun x19=>(F.cells_told af (qdu au (some 2) none)).bind fun x20=>(atE au 0).bind fun x21=>(RE.ok ak).bind fun x22=>RE.ok (RuleT.mk .counted x19 x20 x21 x22)) else ((F.cells_told af (qdu au (some 1) none)).bind fun ao=>(RE.ok (decide (ax=([115,117,109])))).bind fun k23=>if k23=true then ((RE.ok af).bind fun x24=>(RE.ok ao).bind fun x25=>(atE au 0).bind fun x26=>(RE.ok 0).bind fun x27=>RE.ok (RuleT.mk .total x24 x25 x26 x27)) else ((RE.ok af).bind fun x28=>(RE.ok ao).bind fun x29=>(atE au 0).bind fun x30=>(RE.ok 0).bind fun x31=>RE.ok (RuleT.mk .seen x28 x29 x30 x31))))))))
def qfP (aj:Int):RE Bool:=
 RE.ok (true && !false)
def qcG (ay:Int × Int × Int) (az:Option D) (bm:Option (List Nat × (List (Option Int)) × (Option Int) × (Option Int))):RE Bool:=
 (RE.ok (():Unit)).bind fun aj=>(RE.ok (():Unit)).bind fun bP=>(tryA qf8 (none:Option Nat) (none:Option RuleT) ((F.read_rule ay ((eO eD) az)).bind fun x2=>RE.ok ((some) x2))).bind fun p1=>(RE.ok bm.isNone).bind fun k3=>if k3=true then (((RE.ok p1.1.isNone).bind fun k7=>if k7=true then RE.ok true else (((qu5 qjz p1.1).bind fun x4=>RE.ok (!x4)).bind fun k6=>if k6=true then RE.ok true else ((qu5 qfp p1.1).bind fun x5=>RE.ok (!x5)))).bind fun k8=>if k8=true then (RE.ok false) else ((qrR [some qhQ,some qf9,some qht,some qhW,some qjX,some qje] p1.1).bind fun k9=>if k9=true then (RE.ok false) else ((qrR [some qji,some qjS,some qlt,some qfk] p1.1).bind fun x10=>RE.ok (!x10)))) else ((((unO p1.2).bind (quU qkW (fun r=>r.k.c))).bind fun x11=>RE.ok (!x11)).bind fun k12=>if k12=true then (RE.ok false) else (((((unO p1.2).bind fun x13=>F.m_name x13).bind fun x17=>((unO p1.2).bind fun x14=>F.Rule_spots x14).bind fun x18=>((unO p1.2).bind fun x15=>F.Rule_number x15).bind fun x19=>((unO p1.2).bind fun x16=>F.Rule_sign x16).bind fun x20=>RE.ok (x17,x18,x19,x20)).bind fun x21=>evC .ne ((eT4 eS (eL eI) eI eI) x21) ((eO (eT4 eS (eL (eO eI)) (eO eI) (eO eI))) bm)).bind fun k23=>if k23=true then (RE.ok false) else ((((unO p1.2).bind fun x25=>F.Rule_number x25).bind fun x26=>qfP x26).bind fun k34=>if k34=true then ((((unO p1.2).bind fun x28=>F.Rule_sign x28).bind fun x29=>qfP x29).bind fun k33=>if k33=true then (((unO p1.2).bind fun x30=>F.Rule_line x30).bind fun x31=>evC .eq (eS x31) ((eO eD) az)) else RE.ok false) else RE.ok false)))
def qnP (aD:List Int):RE Bool:=
 ((qcw aD 400).bind fun x1=>qfI x1).bind fun ay=>Fl.bR ((qbD (if (1+(Int.fdiv (List.length aD:Int) 3))<12 then (1+(Int.fdiv (List.length aD:Int) 3)) else 12)).bind fun y24=>qbL (fun(bz:Int) (s11:Unit)=>((qmv aD (500+(40*bz)) ay).bind fun az=>((RE.ok az).bind fun x12=>(qcw aD (530+(40*bz))).bind fun x13=>qdi x12 x13).bind fun az=>(((RE.ok ay).bind fun x14=>(RE.ok az).bind fun x15=>(qgz ay az).bind fun x16=>qcG x14 x15 x16).bind fun x17=>RE.ok (!x17)).bind fun k18=>if k18=true then (RE.ok (.rt false)) else (((qcG ay ((fun x=>some ((eS) x)) ([114,105,115,105,110,103,32,48])) ((fun x=>some ((fun(p:List Nat × (List Int) × Int × Int)=>(p.1,(List.map (some)) p.2.1,some p.2.2.1,some p.2.2.2)) x)) (([114,105,115,105,110,103],[0],0,0):List Nat × (List Int) × Int × Int))).bind fun x20=>RE.ok (!x20)).bind fun k21=>if k21=true then (RE.ok (.rt false)) else (RE.ok (.nx ()))):RE (Fl (Bool) (Unit)))) y24 ()) fun(p23:Unit)=>RE.ok true
theorem qcP (aD:List Int) (aN:Int):Rf (g__law_mixed [(eL eI) aD,eI aN]) (qcw aD aN) eI .v true:=by
 have key:∀q0 q1 q2 q3:Sl,SlV false ((eL eI) aD) q0→SlV true (eI aN) q1→BR qcX qcc [q0,q1,q2,q3] (qcw aD aN) eI .v true:=by
  intro q0 q1 q2 q3 h0 h1;unfold qcw qcc;refine BR.cons (SN.asg (en:=eI) (fun q2=>[q0,q1,q2,q3]) (XE.binR (XE.binR (XE.binR (XE.binP (XE.var (i:=1) rfl h1) (XE.var (i:=1) rfl h1) (qk8 _ _)) XE.cint (fun x=>qj3 x _ (qqM rfl))) (XE.binP XE.cint (XE.var (i:=1) rfl h1) (qj3 _ _ (qjx rfl))) (fun x=>qde x _)) XE.cint (fun x=>qde x _)) rfl fun _=>rfl) ?_;rintro av _ ⟨q2,rfl,h2⟩;refine BR.cons (S:=(fun(st:Int) ρ=>∃q2 q3,ρ=[q0,q1,q2,q3]∧SlV true (eI st) q2)) (SN.iff (XT.val (XE.cmpP (XE.pri1P (XE.var (i:=0) rfl h0) (qdZ _)) XE.cint (qmx _ _))) ?_ ?_) ?_
  ·refine BN.cons (SN.asg (en:=eI) (fun q3=>[q0,q1,q2,q3]) (XE.bin (XE.idxF (XE.var (i:=0) rfl h0) (XE.binP (XE.var (i:=1) rfl h1) (XE.pri1P (XE.var (i:=0) rfl h0) (qdZ _)) (qhj _ _))) (XE.binP XE.cint XE.cint (qvd _ _)) (fun x y=>qhj x y)) rfl fun _=>rfl) ?_;rintro ac _ ⟨q3,rfl,h3⟩;refine BN.cons (SN.asg (en:=eI) (fun q2=>[q0,q1,q2,q3]) (XE.binL (XE.var (i:=2) rfl h2) (XE.binL (XE.var (i:=3) rfl h3) (XE.binL XE.cint (XE.binP (XE.var (i:=1) rfl h1) (XE.pri1P (XE.var (i:=0) rfl h0) (qdZ _)) (qvW _ _)) (fun y=>qde _ y)) (fun y=>qk8 _ y)) (fun y=>qde _ y)) rfl fun _=>rfl) ?_;rintro av _ ⟨q2,rfl,h2⟩;exact BN.nil ⟨_,_,rfl,h2⟩
  ·exact BN.nil ⟨_,_,rfl,h2⟩
  rintro p32 _ ⟨q2,q3,rfl,h2⟩;exact BR.ret (XE.binP (XE.var (i:=2) rfl h2) XE.cint (qcO _ _ rfl)) rfl
 exact Rf.run rfl (key _ _ .non .non SlV.any SlV.flat)
theorem qjb (av:Int):Rf (g__law_floor [eI av]) (qfI av) (eT3 eI eI eI) .v true:=by
 have key:∀q0 q1 q2 q3:Sl,SlV true (eI av) q0→BR qcW qce [q0,q1,q2,q3] (qfI av) (eT3 eI eI eI) .v true:=by
  intro q0 q1 q2 q3 h0;unfold qfI qce;refine BR.cons (SN.own (en:=(eT2 eI eI)) (fun q1=>[q0,q1,q2,q3]) (XE.lstL XLs.nil) fun _=>rfl) ?_;rintro bj _ ⟨q1,rfl,h1⟩;refine BR.cons (S:=(fun(st:List (Int × Int)) ρ=>∃q1 q2 q3,ρ=[q0,q1,q2,q3]∧SlO true (List.map (eT2 eI eI) st) q1)) (SN.for1 (t0:=true) _ (XI.rng (XRg.r2P XE.cint XE.cint)) (fun _=>.inl rfl) ⟨_,_,_,rfl,h1⟩ ?_) ?_
  ·intro aR s11 ρ1 q2 hS h2;obtain⟨q1,_,q3,rfl,h1⟩:=hS;change BL _ _ [q0,q1,q2,q3] _ _;refine BL.cons (S:=(fun(st:List (Int × Int)) ρ=>∃q1 q3,ρ=[q0,q1,q2,q3]∧SlO true (List.map (eT2 eI eI) st) q1)) (SN.for1 (t0:=true) _ (XI.rng (XRg.r2P XE.cint XE.cint)) (fun _=>.inl rfl) ⟨_,_,rfl,h1⟩ ?_) ?_
   ·intro aZ s15 ρ1 q3 hS h3;obtain⟨q1,_,rfl,h1⟩:=hS;change BL _ _ [q0,q1,q2,q3] _ _;refine BL.cons (S:=(fun(st:List (Int × Int)) ρ=>∃q1,ρ=[q0,q1,q2,q3]∧SlO true (List.map (eT2 eI eI) st) q1)) (SN.iff (XT.val (XE.cmpR (XE.binP (XE.var (i:=2) rfl h2) (XE.var (i:=3) rfl h3) (qk8 _ _)) XE.cint (fun x=>qiS x _))) ?_ ?_) ?_
    ·refine BN.cons (SN.appP (en:=(eT2 eI eI)) (fun q1=>[q0,q1,q2,q3]) (XE.tup2P (XE.var (i:=2) rfl h2) (XE.var (i:=3) rfl h3) rfl) rfl rfl h1 (fun _=>rfl)) ?_;rintro bj _ ⟨q1,rfl,h1⟩;exact BN.nil ⟨_,rfl,h1⟩
    ·exact BN.nil ⟨_,rfl,h1⟩
    rintro p19 _ ⟨q1,rfl,h1⟩;exact BL.nil ⟨_,_,rfl,h1⟩
   rintro p20 _ ⟨q1,q3,rfl,h1⟩;exact BL.nil ⟨_,_,_,rfl,h1⟩
  rintro p22 _ ⟨q1,q2,q3,rfl,h1⟩;refine BR.cons (SN.asg2 (t3:=true) (t4:=true) (fun q2 q3=>[q0,q1,q2,q3]) (XE.idxF (XE.varO (i:=1) rfl h1) (XE.binP (XE.var (i:=0) rfl h0) (XE.pri1P (XE.varO (i:=1) rfl h1) (qdZ _)) (qhj _ _))) (fun _=>.inl rfl) (fun _=>.inl rfl) (fun _ _=>rfl)) ?_;rintro p25 _ ⟨q2,q3,rfl,h2,h3⟩;exact BR.ret (XE.tup3P (XE.var (i:=2) rfl h2) (XE.var (i:=3) rfl h3) (XE.binP XE.cint (XE.binP (XE.binP (XE.var (i:=0) rfl h0) XE.cint (qbF _ _ rfl)) XE.cint (qcO _ _ rfl)) (qde _ _)) rfl) rfl
 exact Rf.run rfl (key _ .non .non .non SlV.flat)
theorem qjc (aD:List Int) (aC:Int) (aF:Int) (bq:Int):Rf (g__law_cells [(eL eI) aD,eI aC,eI aF,eI bq]) (qe6 aD aC aF bq) (eL eI) .f true:=by
 have key:∀q0 q1 q2 q3 q4 q5 q6:Sl,SlV false ((eL eI) aD) q0→SlV true (eI aC) q1→SlV true (eI aF) q2→SlV true (eI bq) q3→BR qcR qca [q0,q1,q2,q3,q4,q5,q6] (qe6 aD aC aF bq) (eL eI) .f true:=by
  intro q0 q1 q2 q3 q4 q5 q6 h0 h1 h2 h3;unfold qe6 qca;refine BR.cons (SN.own (en:=eI) (fun q4=>[q0,q1,q2,q3,q4,q5,q6]) (XE.lrng (XRg.r1P (XE.var (i:=2) rfl h2))) fun _=>rfl) ?_;rintro aq _ ⟨q4,rfl,h4⟩;refine BR.cons (SN.own (en:=eI) (fun q5=>[q0,q1,q2,q3,q4,q5,q6]) (XE.lstL XLs.nil) fun _=>rfl) ?_;rintro aj _ ⟨q5,rfl,h5⟩;refine BR.cons (S:=(fun(st:(List Int) × (List Int)) ρ=>∃q4 q5 q6,ρ=[q0,q1,q2,q3,q4,q5,q6]∧SlO true (List.map eI st.1) q4∧SlO true (List.map eI st.2) q5)) (SN.for1 (t0:=true) _ (XI.rng (XRg.r1P (XE.var (i:=3) rfl h3))) (fun _=>.inl rfl) ⟨_,_,_,rfl,h4,h5⟩ ?_) ?_
  ·intro aN s5 ρ1 q6 hS h6;obtain⟨q4,q5,_,rfl,h4,h5⟩:=hS;change BL _ _ [q0,q1,q2,q3,q4,q5,q6] _ _;refine BL.cons (SN.apop (en:=eI) (fun q5 q4=>[q0,q1,q2,q3,q4,q5,q6]) rfl rfl h5 rfl h4 (XE.binR (XE.call2P rfl (XE.var (i:=0) rfl h0) (XE.binP (XE.var (i:=1) rfl h1) (XE.var (i:=6) rfl h6) (qde _ _)) (qcP aD (aC+aN)) rfl rfl) (XE.pri1P (XE.varO (i:=4) rfl h4) (qdZ _)) (fun x=>qhj x _)) (fun _ _=>rfl)) ?_;rintro p8 _ ⟨q5,q4,rfl,h5,h4⟩;exact BL.nil ⟨_,_,_,rfl,h4,h5⟩
  rintro p10 _ ⟨q4,q5,q6,rfl,h4,h5⟩;exact BR.ret (XE.varO (i:=5) rfl h5) rfl
 exact Rf.run rfl (key _ _ _ _ .non .non .non SlV.any SlV.flat SlV.flat SlV.flat)
theorem qmN (aD:List Int) (aC:Int) (ay:Int × Int × Int):Rf (g__law_row [(eL eI) aD,eI aC,(eT3 eI eI eI) ay]) (qmv aD aC ay) eS .v true:=by
 have key:∀q0 q1 q2 q3 q4 q5 q6 q7 q8 q9 q10:Sl,SlV false ((eL eI) aD) q0→SlV true (eI aC) q1→SlV true ((eT3 eI eI eI) ay) q2→BR qeq qdd [q0,q1,q2,q3,q4,q5,q6,q7,q8,q9,q10] (qmv aD aC ay) eS .v true:=by
  intro q0 q1 q2 q3 q4 q5 q6 q7 q8 q9 q10 h0 h1 h2;unfold qmv qdd;refine BR.cons (SN.asg (en:=eI) (fun q3=>[q0,q1,q2,q3,q4,q5,q6,q7,q8,q9,q10]) (XE.call2P rfl (XE.var (i:=0) rfl h0) (XE.var (i:=1) rfl h1) (qcP aD aC) rfl rfl) rfl fun _=>rfl) ?_;rintro av _ ⟨q3,rfl,h3⟩;refine BR.cons (SN.asg (en:=eI) (fun q4=>[q0,q1,q2,q3,q4,q5,q6,q7,q8,q9,q10]) (XE.binP (XE.prtP (x:=ay) (t2:=true) (f:=fun p=>p.1) (en2:=eI) (XE.var (i:=2) rfl h2) (fun _ _=>rfl) (fun _=>.inl rfl)) (XE.prtP (x:=ay) (t2:=true) (f:=fun p=>p.2.1) (en2:=eI) (XE.var (i:=2) rfl h2) (fun _ _=>rfl) (fun _=>.inl rfl)) (qk8 _ _)) rfl fun _=>rfl) ?_;rintro aF _ ⟨q4,rfl,h4⟩;refine BR.cons (SN.asg (en:=eS) (fun q5=>[q0,q1,q2,q3,q4,q5,q6,q7,q8,q9,q10]) (XE.idxFP (XE.lstL (en:=eS) (XLs.cons XE.cstr rfl (XLs.cons XE.cstr rfl (XLs.cons XE.cstr rfl (XLs.cons XE.cstr rfl (XLs.cons XE.cstr rfl (XLs.cons XE.cstr rfl (XLs.cons XE.cstr rfl (XLs.cons XE.cstr rfl XLs.nil))))))))) (XE.binP (XE.var (i:=3) rfl h3) XE.cint (qcO _ _ rfl))) rfl fun _=>rfl) ?_;rintro aK _ ⟨q5,rfl,h5⟩;refine BR.cons (SN.own (en:=eI) (fun q6=>[q0,q1,q2,q3,q4,q5,q6,q7,q8,q9,q10]) (XE.call4 rfl (XE.var (i:=0) rfl h0) (XE.binP (XE.var (i:=1) rfl h1) XE.cint (qde _ _)) (XE.var (i:=4) rfl h4) (XE.binL XE.cint (XE.binP (XE.binP (XE.var (i:=3) rfl h3) XE.cint (qbF _ _ rfl)) (XE.var (i:=4) rfl h4) (qhj _ _)) (fun y=>qde _ y)) (fun x0 x1 x2 x3=>qjc x0 x1 x2 x3) rfl rfl) fun _=>rfl) ?_;rintro aQ _ ⟨q6,rfl,h6⟩;refine BR.cons (S:=(fun(st:List Int) ρ=>∃q6,ρ=[q0,q1,q2,q3,q4,q5,q6,q7,q8,q9,q10]∧SlO true (List.map eI st) q6)) (SN.iff (XT.val (XE.cmpP (XE.binP (XE.binP (XE.var (i:=3) rfl h3) XE.cint (qbF _ _ rfl)) XE.cint (qcO _ _ rfl)) XE.cint (qgP _ _))) ?_ ?_) ?_
  ·refine BN.cons (SN.ins (en:=eI) (fun q6=>[q0,q1,q2,q3,q4,q5,q6,q7,q8,q9,q10]) (XE.binP (XE.binP (XE.var (i:=3) rfl h3) XE.cint (qbF _ _ rfl)) (XE.binP (XE.pri1P (XE.varO (i:=6) rfl h6) (qdZ _)) XE.cint (qde _ _)) (qhj _ _)) (XE.idxF (XE.cast (m':=(RE.ok aF).bind fun x17=>(atE aQ 0).bind fun x18=>(RE.ok (aF+(Int.fmod (Int.fdiv av 768) 90))).bind fun x19=>RE.ok [x17,x18,x19]) (XE.lstS (F:=fun w=>[w.1,w.2.1,w.2.2.1]) (en:=eI) (XS.cons (XE.var (i:=4) rfl h4) (XS.cons (XE.idxFP (XE.varO (i:=6) rfl h6) XE.cint) (XS.cons (XE.binP (XE.var (i:=4) rfl h4) (XE.binP (XE.binP (XE.var (i:=3) rfl h3) XE.cint (qbF _ _ rfl)) XE.cint (qcO _ _ rfl)) (qde _ _)) XS.nil))) (fun _=>rfl) rfl) (by simp only[RE.bind_assoc,RE.bind_ok])) (XE.binP (XE.binP (XE.var (i:=3) rfl h3) XE.cint (qbF _ _ rfl)) XE.cint (qcO _ _ rfl))) rfl rfl h6 (fun _=>rfl)) ?_;rintro aQ _ ⟨q6,rfl,h6⟩;exact BN.nil ⟨_,rfl,h6⟩
  ·exact BN.nil ⟨_,rfl,h6⟩
  rintro p24 _ ⟨q6,rfl,h6⟩;refine BR.cons (SN.asg (en:=eI) (fun q7=>[q0,q1,q2,q3,q4,q5,q6,q7,q8,q9,q10]) (XE.binL XE.cint (XE.binP (XE.binP (XE.var (i:=3) rfl h3) XE.cint (qbF _ _ rfl)) (XE.prtP (x:=ay) (t2:=true) (f:=fun p=>p.2.2) (en2:=eI) (XE.var (i:=2) rfl h2) (fun _ _=>rfl) (fun _=>.inl rfl)) (qhj _ _)) (fun y=>qde _ y)) rfl fun _=>rfl) ?_;rintro aO _ ⟨q7,rfl,h7⟩;refine BR.cons (S:=(fun(st:Int) ρ=>∃q7,ρ=[q0,q1,q2,q3,q4,q5,q6,q7,q8,q9,q10]∧SlV true (eI st) q7)) (SN.iff (XT.val (XE.cmpP (XE.binP (XE.binP (XE.var (i:=3) rfl h3) XE.cint (qbF _ _ rfl)) XE.cint (qcO _ _ rfl)) XE.cint (qgP _ _))) ?_ ?_) ?_
  ·refine BN.cons (SN.asg (en:=eI) (fun q7=>[q0,q1,q2,q3,q4,q5,q6,q7,q8,q9,q10]) (XE.idxFP (XE.lstL (en:=eI) (XLs.cons XE.cint rfl (XLs.cons (XE.binP (XE.prtP (x:=ay) (t2:=true) (f:=fun p=>p.2.2) (en2:=eI) (XE.var (i:=2) rfl h2) (fun _ _=>rfl) (fun _=>.inl rfl)) XE.cint (qde _ _)) rfl XLs.nil))) (XE.binP (XE.binP (XE.var (i:=3) rfl h3) XE.cint (qbF _ _ rfl)) XE.cint (qcO _ _ rfl))) rfl fun _=>rfl) ?_;rintro aO _ ⟨q7,rfl,h7⟩;exact BN.nil ⟨_,rfl,h7⟩
  ·exact BN.nil ⟨_,rfl,h7⟩
  rintro p28 _ ⟨q7,rfl,h7⟩;refine BR.cons (SN.asg (en:=eI) (fun q8=>[q0,q1,q2,q3,q4,q5,q6,q7,q8,q9,q10]) (XE.idxFP (XE.lstL (en:=eI) (XLs.cons (XE.binP (XE.binP (XE.var (i:=3) rfl h3) XE.cint (qbF _ _ rfl)) XE.cint (qcO _ _ rfl)) rfl (XLs.cons (XE.binP (XE.binP (XE.var (i:=3) rfl h3) XE.cint (qbF _ _ rfl)) XE.cint (qcO _ _ rfl)) rfl (XLs.cons XE.cint rfl (XLs.cons XE.cint rfl XLs.nil))))) (XE.binP (XE.binP (XE.var (i:=3) rfl h3) XE.cint (qbF _ _ rfl)) XE.cint (qcO _ _ rfl))) rfl fun _=>rfl) ?_;rintro aw _ ⟨q8,rfl,h8⟩;refine BR.cons (SN.own (en:=eS) (fun q9=>[q0,q1,q2,q3,q4,q5,q6,q7,q8,q9,q10]) (XE.lstL (en:=eS) (XLs.cons (XE.var (i:=5) rfl h5) rfl XLs.nil)) fun _=>rfl) ?_;rintro aH _ ⟨q9,rfl,h9⟩;refine BR.cons (S:=(fun(st:List (List Nat)) ρ=>∃q9,ρ=[q0,q1,q2,q3,q4,q5,q6,q7,q8,q9,q10]∧SlO true (List.map eS st) q9)) (SN.iff (XT.val (XE.cmpP (XE.var (i:=5) rfl h5) (XE.tupL (en:=eS) (XLs.cons XE.cstr rfl (XLs.cons XE.cstr rfl (XLs.cons XE.cstr rfl XLs.nil)))) (qf5 _ _))) ?_ ?_) ?_
  ·refine BN.cons (SN.app (en:=eS) (fun q9=>[q0,q1,q2,q3,q4,q5,q6,q7,q8,q9,q10]) (XE.pri1P (XE.var (i:=8) rfl h8) (qpH _)) rfl rfl h9 (fun _=>rfl)) ?_;rintro aH _ ⟨q9,rfl,h9⟩;exact BN.nil ⟨_,rfl,h9⟩
  ·exact BN.nil ⟨_,rfl,h9⟩
  rintro p32 _ ⟨q9,rfl,h9⟩;refine BR.cons (S:=(fun(st:List (List Nat)) ρ=>∃q9,ρ=[q0,q1,q2,q3,q4,q5,q6,q7,q8,q9,q10]∧SlO true (List.map eS st) q9)) (SN.iff (XT.val (XE.cmpP (XE.var (i:=5) rfl h5) (XE.tupL (en:=eS) (XLs.cons XE.cstr rfl (XLs.cons XE.cstr rfl (XLs.cons XE.cstr rfl (XLs.cons XE.cstr rfl XLs.nil))))) (qf5 _ _))) ?_ ?_) ?_
  ·refine BN.cons (SN.app (en:=eS) (fun q9=>[q0,q1,q2,q3,q4,q5,q6,q7,q8,q9,q10]) (XE.pri1P (XE.var (i:=7) rfl h7) (qpH _)) rfl rfl h9 (fun _=>rfl)) ?_;rintro aH _ ⟨q9,rfl,h9⟩;exact BN.nil ⟨_,rfl,h9⟩
  ·exact BN.nil ⟨_,rfl,h9⟩
  rintro p36 _ ⟨q9,rfl,h9⟩;refine BR.cons (S:=(fun(st:List (List Nat)) ρ=>∃q9,ρ=[q0,q1,q2,q3,q4,q5,q6,q7,q8,q9,q10]∧SlO true (List.map eS st) q9)) (SN.iff (XT.val (XE.cmpP (XE.var (i:=5) rfl h5) (XE.tupL (en:=eS) (XLs.cons XE.cstr rfl (XLs.cons XE.cstr rfl (XLs.cons XE.cstr rfl (XLs.cons XE.cstr rfl (XLs.cons XE.cstr rfl XLs.nil)))))) (qf5 _ _))) ?_ ?_) ?_
  ·refine BN.cons (SN.own (en:=eS) (fun q9=>[q0,q1,q2,q3,q4,q5,q6,q7,q8,q9,q10]) (XE.binL (XE.varO (i:=9) rfl h9) (XE.lc (t0:=true) (fun q10=>[q0,q1,q2,q3,q4,q5,q6,q7,q8,q9,q10]) (XI.listO (XE.varO (i:=6) rfl h6)) (fun _=>.inl rfl) (fun _=>rfl) (fun ac q10 h10=>XTs.nil) (fun ac q10 h10 _=>(XE.pri1P (XE.var (i:=10) rfl h10) (qpH _))) rfl) (fun y=>qka (en:=eS) _ y)) fun _=>rfl) ?_;rintro aH _ ⟨q9,rfl,h9⟩;exact BN.nil ⟨_,rfl,h9⟩
  ·exact BN.nil ⟨_,rfl,h9⟩
  rintro p44 _ ⟨q9,rfl,h9⟩;refine BR.cons (S:=(fun(st:List (List Nat)) ρ=>∃q9,ρ=[q0,q1,q2,q3,q4,q5,q6,q7,q8,q9,q10]∧SlO true (List.map eS st) q9)) (SN.iff (XT.val (XE.cmpP (XE.binP (XE.binP (XE.var (i:=3) rfl h3) XE.cint (qbF _ _ rfl)) XE.cint (qcO _ _ rfl)) XE.cint (qgP _ _))) ?_ ?_) ?_
  ·refine BN.cons (SN.popx (en:=eS) (fun q9=>[q0,q1,q2,q3,q4,q5,q6,q7,q8,q9,q10]) (XE.binP (XE.binP (XE.var (i:=3) rfl h3) XE.cint (qbF _ _ rfl)) (XE.pri1P (XE.varO (i:=9) rfl h9) (qdZ _)) (qhj _ _)) rfl h9 (fun _=>rfl)) ?_;rintro aH _ ⟨q9,rfl,h9⟩;exact BN.nil ⟨_,rfl,h9⟩
  ·exact BN.nil ⟨_,rfl,h9⟩
  rintro p46 _ ⟨q9,rfl,h9⟩;exact BR.ret (XE.joinP XE.cstr (XE.varO (i:=9) rfl h9)) rfl
 exact Rf.run rfl (key _ _ _ .non .non .non .non .non .non .non .non SlV.any SlV.flat SlV.flat)
theorem qgL (av:Int):Rf (g__law_sign [eI av]) (qfT av) eC .v true:=by
 have key:∀q0 q1:Sl,SlV true (eI av) q0→BR qdK qcs [q0,q1] (qfT av) eC .v true:=by
  intro q0 q1 h0;unfold qfT qcs;refine BR.cons (SN.asg (en:=eS) (fun q1=>[q0,q1]) XE.cstr rfl fun _=>rfl) ?_;rintro aA _ ⟨q1,rfl,h1⟩;refine BR.cons (SN.asg (en:=eS) (fun q1=>[q0,q1]) (XE.binP (XE.var (i:=1) rfl h1) XE.cstr (qfF _ _)) rfl fun _=>rfl) ?_;rintro aA _ ⟨q1,rfl,h1⟩;exact BR.ret (XE.idxS (XE.var (i:=1) rfl h1) (XE.binL (XE.var (i:=0) rfl h0) (XE.pri1P (XE.var (i:=1) rfl h1) (qf4 _)) (fun y=>qhj _ y))) rfl
 exact Rf.run rfl (key _ .non SlV.flat)
theorem qhx (az:List Nat) (av:Int):Rf (g__law_spoiled [eS az,eI av]) (qdi az av) (eO eD) .v true:=by
 have key:∀q0 q1 q2 q3:Sl,SlV true (eS az) q0→SlV true (eI av) q1→BR qb0 qbx [q0,q1,q2,q3] (qdi az av) (eO eD) .v true:=by
  intro q0 q1 q2 q3 h0 h1;unfold qdi qbx;refine BR.cons (SN.asg (en:=eI) (fun q2=>[q0,q1,q2,q3]) (XE.binP (XE.var (i:=1) rfl h1) XE.cint (qcO _ _ rfl)) rfl fun _=>rfl) ?_;rintro br _ ⟨q2,rfl,h2⟩;refine BR.cons (SN.asg (en:=eI) (fun q3=>[q0,q1,q2,q3]) (XE.binL (XE.binP (XE.var (i:=1) rfl h1) XE.cint (qbF _ _ rfl)) (XE.binR (XE.pri1P (XE.var (i:=0) rfl h0) (qf4 _)) XE.cint (fun x=>qde x _)) (fun y=>qhj _ y)) rfl fun _=>rfl) ?_;rintro aC _ ⟨q3,rfl,h3⟩;refine BR.ifR (XT.val (XE.cmpP (XE.var (i:=2) rfl h2) XE.cint (qgP _ _))) ?_ ?_
  ·exact BR.ret (XE.coeG (f:=fun x=>some ((eS) x)) (en2:=(eO eD)) (XE.bin (XE.bin (XE.slcSP (XE.var (i:=0) rfl h0) XO.nil (XO.oneP (XE.var (i:=3) rfl h3))) (XE.coeG (f:=fun c=>[c]) (en2:=eS) (XE.call1P rfl (XE.binP (XE.var (i:=1) rfl h1) XE.cint (qbF _ _ rfl)) (qgL (Int.fdiv av 1000)) rfl rfl) (fun _=>rfl)) (fun x y=>qfF x y)) (XE.slcSP (XE.var (i:=0) rfl h0) (XO.oneP (XE.var (i:=3) rfl h3)) XO.nil) (fun x y=>qfF x y)) (qbv (f:=eS) (fun _=>rfl))) rfl
  refine BR.ifR (XT.val (XE.cmpP (XE.var (i:=2) rfl h2) XE.cint (qgP _ _))) ?_ ?_
  ·exact BR.ret (XE.coeG (f:=fun x=>some ((eS) x)) (en2:=(eO eD)) (XE.bin (XE.bin (XE.slcSP (XE.var (i:=0) rfl h0) XO.nil (XO.oneP (XE.var (i:=3) rfl h3))) (XE.coeG (f:=fun c=>[c]) (en2:=eS) (XE.call1P rfl (XE.binP (XE.var (i:=1) rfl h1) XE.cint (qbF _ _ rfl)) (qgL (Int.fdiv av 1000)) rfl rfl) (fun _=>rfl)) (fun x y=>qfF x y)) (XE.slcSP (XE.var (i:=0) rfl h0) (XO.oneP (XE.binP (XE.var (i:=3) rfl h3) XE.cint (qde _ _))) XO.nil) (fun x y=>qfF x y)) (qbv (f:=eS) (fun _=>rfl))) rfl
  refine BR.ifR (XT.val (XE.cmpP (XE.var (i:=2) rfl h2) XE.cint (qgP _ _))) ?_ ?_
  ·exact BR.ret (XE.coeG (f:=fun x=>some ((eS) x)) (en2:=(eO eD)) (XE.bin (XE.slcSP (XE.var (i:=0) rfl h0) XO.nil (XO.oneP (XE.var (i:=3) rfl h3))) (XE.slcSP (XE.var (i:=0) rfl h0) (XO.oneP (XE.binP (XE.var (i:=3) rfl h3) XE.cint (qde _ _))) XO.nil) (fun x y=>qfF x y)) (qbv (f:=eS) (fun _=>rfl))) rfl
  refine BR.ifR (XT.val (XE.cmpP (XE.var (i:=2) rfl h2) XE.cint (qgP _ _))) ?_ ?_
  ·exact BR.ret (XE.coeG (f:=fun x=>some ((eS) x)) (en2:=(eO eD)) (XE.bin (XE.slcSP (XE.var (i:=0) rfl h0) XO.nil (XO.oneP (XE.var (i:=3) rfl h3))) (XE.slcS (XE.var (i:=0) rfl h0) (XO.one (XE.binL (XE.binP (XE.var (i:=1) rfl h1) XE.cint (qbF _ _ rfl)) (XE.binR (XE.pri1P (XE.var (i:=0) rfl h0) (qf4 _)) XE.cint (fun x=>qde x _)) (fun y=>qhj _ y))) XO.nil) (fun x y=>qfF x y)) (qbv (f:=eS) (fun _=>rfl))) rfl
  refine BR.ifR (XT.val (XE.cmpP (XE.var (i:=2) rfl h2) XE.cint (qgP _ _))) ?_ ?_
  ·exact BR.ret (XE.idx (XE.cast (m':=(RE.ok (none:Option D)).bind fun x39=>(RE.ok ((fun x=>some ((eB) x)) true)).bind fun x40=>(RE.ok ((fun x=>some ((eI) x)) av)).bind fun x41=>(RE.ok ((fun x=>some (((eL eS)) x)) [az])).bind fun x42=>(RE.ok ((fun x=>some (((eT1 eS)) x)) (az:List Nat))).bind fun x43=>(RE.ok ((fun x=>some ((eS) x)) [])).bind fun x44=>((qfC [32] az).bind fun x36=>RE.ok ((fun x=>some ((eS) x)) x36)).bind fun x45=>((qfC az [32]).bind fun x37=>RE.ok ((fun x=>some ((eS) x)) x37)).bind fun x46=>((qrm az).bind fun x38=>RE.ok ((fun x=>some ((eS) x)) x38)).bind fun x47=>RE.ok [x39,x40,x41,x42,x43,x44,x45,x46,x47]) (XE.lstS (F:=fun w=>[w.1,w.2.1,w.2.2.1,w.2.2.2.1,w.2.2.2.2.1,w.2.2.2.2.2.1,w.2.2.2.2.2.2.1,w.2.2.2.2.2.2.2.1,w.2.2.2.2.2.2.2.2.1]) (en:=(eO eD)) (XS.cons (XE.coe (x:=()) (f:=fun _=>none) (en2:=(eO eD)) XE.cnon (fun _=>rfl)) (XS.cons (XE.coe (x:=true) (f:=fun x=>some ((eB) x)) (en2:=(eO eD)) XE.cbl (qbv (f:=eB) (fun _=>rfl))) (XS.cons (XE.coe (x:=av) (f:=fun x=>some ((eI) x)) (en2:=(eO eD)) (XE.var (i:=1) rfl h1) (qbv (f:=eI) (fun _=>rfl))) (XS.cons (XE.coe (x:=[az]) (f:=fun x=>some (((eL eS)) x)) (en2:=(eO eD)) (XE.lstL (en:=eS) (XLs.cons (XE.var (i:=0) rfl h0) rfl XLs.nil)) (qbv (f:=(eL eS)) (fun _=>rfl))) (XS.cons (XE.coe (x:=(az:List Nat)) (f:=fun x=>some (((eT1 eS)) x)) (en2:=(eO eD)) (show XE _ _ _ (RE.ok (az:List Nat)) (eT1 eS) _ _ from(XE.tup1P (XE.var (i:=0) rfl h0) rfl)) (qbv (f:=(eT1 eS)) (fun _=>rfl))) (XS.cons (XE.coe (x:=[]) (f:=fun x=>some ((eS) x)) (en2:=(eO eD)) XE.cstr (qbv (f:=eS) (fun _=>rfl))) (XS.cons (XE.coeG (f:=fun x=>some ((eS) x)) (en2:=(eO eD)) (XE.binP XE.cstr (XE.var (i:=0) rfl h0) (qfF _ _)) (qbv (f:=eS) (fun _=>rfl))) (XS.cons (XE.coeG (f:=fun x=>some ((eS) x)) (en2:=(eO eD)) (XE.binP (XE.var (i:=0) rfl h0) XE.cstr (qfF _ _)) (qbv (f:=eS) (fun _=>rfl))) (XS.cons (XE.coeG (f:=fun x=>some ((eS) x)) (en2:=(eO eD)) (XE.uprP (XE.var (i:=0) rfl h0)) (qbv (f:=eS) (fun _=>rfl))) XS.nil))))))))) (fun _=>rfl) rfl) (by simp only[RE.bind_assoc,RE.bind_ok])) (XE.binP (XE.binP (XE.var (i:=1) rfl h1) XE.cint (qbF _ _ rfl)) XE.cint (qcO _ _ rfl))) rfl
  exact BR.ret (XE.coe (x:=az) (f:=fun x=>some ((eS) x)) (en2:=(eO eD)) (XE.var (i:=0) rfl h0) (qbv (f:=eS) (fun _=>rfl))) rfl
 exact Rf.run rfl (key _ _ .non .non SlV.flat SlV.flat)
theorem qiO (ax:List Nat):Rf (g__law_number [eS ax]) (qeu ax) (eO eI) .v true:=by
 have key:∀q0 q1 q2:Sl,SlV true (eS ax) q0→BR qcj qbW [q0,q1,q2] (qeu ax) (eO eI) .v true:=by
  intro q0 q1 q2 h0;unfold qeu qbW;refine BR.ifR (XT.bop (XTs.or (XT.val (XE.cmpR (XE.pri1P (XE.var (i:=0) rfl h0) (qf4 _)) XE.cint (fun x=>qgP x _))) (XTs.one (XT.val (XE.cmpR (XE.pri1 ((XE.lc (t0:=true) (fun q1=>[q0,q1,q2]) (XI.str (XE.var (i:=0) rfl h0)) (fun _=>.inl rfl) (fun _=>rfl) (fun aO q1 h1=>(XTs.one (XT.val (XE.cmpP (XE.var (i:=1) rfl h1) XE.cstr (qqJ _ _))))) (fun aO q1 h1 _=>(XE.var (i:=1) rfl h1)) rfl).cast (qto _ _)) (fun x=>qdZ x)) XE.cint (fun x=>qmx x _)))))) ?_ ?_
  ·exact BR.ret (XE.coe (x:=()) (f:=fun _=>none) (en2:=(eO eI)) XE.cnon (fun _=>rfl)) rfl
  refine BR.ifR (XT.bop (XTs.or (XT.val (XE.cmpR (XE.pri1P (XE.var (i:=0) rfl h0) (qf4 _)) XE.cint (fun x=>qmx x _))) (XTs.one (XT.bop (XTs.and (XT.val (XE.cmpR (XE.pri1P (XE.var (i:=0) rfl h0) (qf4 _)) XE.cint (fun x=>qgP x _))) (XTs.one (XT.val (XE.cmpR (XE.idxSP (XE.var (i:=0) rfl h0) XE.cint) XE.cstr (fun x=>quq x _))))))))) ?_ ?_
  ·exact BR.ret (XE.coe (x:=()) (f:=fun _=>none) (en2:=(eO eI)) XE.cnon (fun _=>rfl)) rfl
  refine BR.cons (SN.asg (en:=eI) (fun q2=>[q0,q1,q2]) XE.cint rfl fun _=>rfl) ?_;rintro av _ ⟨q2,rfl,h2⟩;refine BR.cons (S:=(fun(st:Int) ρ=>∃q1 q2,ρ=[q0,q1,q2]∧SlV true (eI st) q2)) (SN.for1 (t0:=true) _ (XI.str (XE.var (i:=0) rfl h0)) (fun _=>.inl rfl) ⟨_,_,rfl,h2⟩ ?_) ?_
  ·intro aO s20 ρ1 q1 hS h1;obtain⟨_,q2,rfl,h2⟩:=hS;change BL _ _ [q0,q1,q2] _ _;refine BL.cons (SN.asg (en:=eI) (fun q2=>[q0,q1,q2]) (XE.binL (XE.binP XE.cint (XE.var (i:=2) rfl h2) (qj3 _ _ (qjx rfl))) (XE.inxSP XE.cstr (XE.coe (x:=aO) (f:=fun c=>[c]) (en2:=eS) (XE.var (i:=1) rfl h1) (fun _=>rfl))) (fun y=>qde _ y)) rfl fun _=>rfl) ?_;rintro av _ ⟨q2,rfl,h2⟩;exact BL.nil ⟨_,_,rfl,h2⟩
  rintro p23 _ ⟨q1,q2,rfl,h2⟩;exact BR.ret (XE.coe (x:=p23) (f:=some) (en2:=(eO eI)) (XE.var (i:=2) rfl h2) (fun _=>rfl)) rfl
 exact Rf.run rfl (key _ .non .non SlV.flat)
theorem qcz (ay:Int × Int × Int) (aK:List Nat) (av:Option Int) (aO:Option Int) (aQ:List (Option Int)):Rf (g__law_of_cells [(eT3 eI eI eI) ay,eS aK,(eO eI) av,(eO eI) aO,(eL (eO eI)) aQ]) (qbG ay aK av aO aQ) (eO (eT4 eS (eL (eO eI)) (eO eI) (eO eI))) .v false:=by
 have key:∀q0 q1 q2 q3 q4 q5:Sl,SlV true ((eT3 eI eI eI) ay) q0→SlV true (eS aK) q1→SlV true ((eO eI) av) q2→SlV true ((eO eI) aO) q3→SlV false ((eL (eO eI)) aQ) q4→BR qbS qbq [q0,q1,q2,q3,q4,q5] (qbG ay aK av aO aQ) (eO (eT4 eS (eL (eO eI)) (eO eI) (eO eI))) .v false:=by
  intro q0 q1 q2 q3 q4 q5 h0 h1 h2 h3 h4;unfold qbG qbq;refine BR.cons (SN.asg (en:=eI) (fun q5=>[q0,q1,q2,q3,q4,q5]) (XE.binP (XE.prtP (x:=ay) (t2:=true) (f:=fun p=>p.1) (en2:=eI) (XE.var (i:=0) rfl h0) (fun _ _=>rfl) (fun _=>.inl rfl)) (XE.prtP (x:=ay) (t2:=true) (f:=fun p=>p.2.1) (en2:=eI) (XE.var (i:=0) rfl h0) (fun _ _=>rfl) (fun _=>.inl rfl)) (qk8 _ _)) rfl fun _=>rfl) ?_;rintro aF _ ⟨q5,rfl,h5⟩;refine BR.ifR (XT.bop (XTs.or (XT.val (XE.cmpP (XE.pri1P (XE.var (i:=4) rfl h4) (qdZ _)) XE.cint (qgP _ _))) (XTs.or (XT.val (XE.cmpR (XE.lset (XE.dec (f:=dLs unO) (XE.var (i:=4) rfl h4) (qtF qmS))) (XE.pri1P (XE.var (i:=4) rfl h4) (qdZ _)) (fun x=>qvl x _))) (XTs.one (XT.val (XE.cmpR (XE.pri1 (XE.dec (f:=dLs unO) (XE.var (i:=4) rfl h4) (qtF qmS)) (fun x=>qqD x)) (XE.var (i:=5) rfl h5) (fun x=>qsj x _))))))) ?_ ?_
  ·exact(BR.low (BR.ret (XE.coe (x:=()) (f:=fun _=>none) (en2:=(eO (eT4 eS (eL (eO eI)) (eO eI) (eO eI)))) XE.cnon (fun _=>rfl)) rfl))
  refine BR.ifR (XT.bop (XTs.and (XT.val (XE.cmpP (XE.var (i:=1) rfl h1) XE.cstr (qkq _ _))) (XTs.one (XT.not (XT.val (XE.chn (f:=fun x y=>decide (x≤y)) (g:=fun x y=>decide (x≤y)) XE.cint (XE.dec (f:=unO) (XE.var (i:=3) rfl h3) qmS) (XE.prtP (x:=ay) (t2:=true) (f:=fun p=>p.2.2) (en2:=eI) (XE.var (i:=0) rfl h0) (fun _ _=>rfl) (fun _=>.inl rfl)) qiS qiS)))))) ?_ ?_
  ·exact(BR.low (BR.ret (XE.coe (x:=()) (f:=fun _=>none) (en2:=(eO (eT4 eS (eL (eO eI)) (eO eI) (eO eI)))) XE.cnon (fun _=>rfl)) rfl))
  exact BR.ret (XE.coe (x:=((aK,aQ,av,aO):List Nat × (List (Option Int)) × (Option Int) × (Option Int))) (f:=some) (en2:=(eO (eT4 eS (eL (eO eI)) (eO eI) (eO eI)))) (show XE _ _ _ (RE.ok ((aK,aQ,av,aO):List Nat × (List (Option Int)) × (Option Int) × (Option Int))) (eT4 eS (eL (eO eI)) (eO eI) (eO eI)) _ _ from(XE.tup4P (XE.var (i:=1) rfl h1) (XE.var (i:=4) rfl h4) (XE.var (i:=2) rfl h2) (XE.var (i:=3) rfl h3) rfl)) (fun _=>rfl)) rfl
 exact Rf.run rfl (key _ _ _ _ _ .non SlV.flat SlV.flat SlV.flat SlV.flat SlV.any)
theorem qmD (ay:Int × Int × Int) (az:Option D):Rf (g__law_due [(eT3 eI eI eI) ay,(eO eD) az]) (qgz ay az) (eO (eT4 eS (eL (eO eI)) (eO eI) (eO eI))) .v false:=by
 have key:∀q0 q1 q2 q3 q4 q5:Sl,SlV true ((eT3 eI eI eI) ay) q0→SlV false ((eO eD) az) q1→BR qex qdn [q0,q1,q2,q3,q4,q5] (qgz ay az) (eO (eT4 eS (eL (eO eI)) (eO eI) (eO eI))) .v false:=by
  intro q0 q1 q2 q3 q4 q5 h0 h1;unfold qgz qdn;refine BR.ifR (XT.not (XT.val (XE.isiD (XE.var (i:=1) rfl h1)))) ?_ ?_
  ·exact(BR.low (BR.ret (XE.coe (x:=()) (f:=fun _=>none) (en2:=(eO (eT4 eS (eL (eO eI)) (eO eI) (eO eI)))) XE.cnon (fun _=>rfl)) rfl))
  refine BR.cons (SN.asg (en:=(eL eS)) (fun q2=>[q0,q1,q2,q3,q4,q5]) (XE.split (XE.dec (f:=dS) (XE.coe (x:=az) (f:=(eO eD)) (en2:=eD) (XE.var (i:=1) rfl h1) (fun _=>rfl)) qwj) XE.cstr) rfl fun _=>rfl) ?_;rintro aH _ ⟨q2,rfl,h2⟩;refine BR.cons (SN.asg (en:=eS) (fun q3=>[q0,q1,q2,q3,q4,q5]) (XE.idxFP (XE.var (i:=2) rfl h2) XE.cint) rfl fun _=>rfl) ?_;rintro aK _ ⟨q3,rfl,h3⟩;refine BR.cons (SN.asg (en:=(eL (eO eI))) (fun q4=>[q0,q1,q2,q3,q4,q5]) (XE.lc (t0:=true) (fun q5=>[q0,q1,q2,q3,q4,q5]) (XI.list (XE.slcP (XE.var (i:=2) rfl h2) (XO.oneP XE.cint) XO.nil) rfl) (fun _=>.inl rfl) (fun _=>rfl) (fun ax q5 h5=>XTs.nil) (fun ax q5 h5 _=>(XE.call1P rfl (XE.var (i:=5) rfl h5) (qiO ax) rfl rfl)) rfl) rfl fun _=>rfl) ?_;rintro au _ ⟨q4,rfl,h4⟩;refine BR.ifR (XT.val (XE.cmpP XE.cnon (XE.var (i:=4) rfl h4) ((qrU .isin (eU) ((eL (eO eI)))) _ _))) ?_ ?_
  ·exact(BR.low (BR.ret (XE.coe (x:=()) (f:=fun _=>none) (en2:=(eO (eT4 eS (eL (eO eI)) (eO eI) (eO eI)))) XE.cnon (fun _=>rfl)) rfl))
  refine BR.ifR (XT.val (XE.cmpP (XE.var (i:=3) rfl h3) (XE.tupL (en:=eS) (XLs.cons XE.cstr rfl (XLs.cons XE.cstr rfl (XLs.cons XE.cstr rfl XLs.nil)))) (qf5 _ _))) ?_ ?_
  ·refine BR.ifR (XT.bop (XTs.or (XT.val (XE.cmpP (XE.pri1P (XE.var (i:=4) rfl h4) (qdZ _)) XE.cint (qrk _ _))) (XTs.one (XT.not (XT.val (XE.chn (f:=fun x y=>decide (x≤y)) (g:=fun x y=>decide (x≤y)) XE.cint (XE.decG (f:=unO) (XE.idxFP (XE.var (i:=4) rfl h4) XE.cint) qmS) (XE.prtP (x:=ay) (t2:=true) (f:=fun p=>p.2.2) (en2:=eI) (XE.var (i:=0) rfl h0) (fun _ _=>rfl) (fun _=>.inl rfl)) qiS qiS)))))) ?_ ?_
   ·exact(BR.low (BR.ret (XE.coe (x:=()) (f:=fun _=>none) (en2:=(eO (eT4 eS (eL (eO eI)) (eO eI) (eO eI)))) XE.cnon (fun _=>rfl)) rfl))
   exact(BR.low (BR.ret (XE.coeG (f:=fun x=>some ((fun(p:List Nat × (List Int) × Int × (Option Int))=>(p.1,(List.map (some)) p.2.1,some p.2.2.1,p.2.2.2)) x)) (en2:=(eO (eT4 eS (eL (eO eI)) (eO eI) (eO eI)))) (XE.tup4 (XE.var (i:=3) rfl h3) (XE.lrng (XRg.r1 (XE.binP (XE.prtP (x:=ay) (t2:=true) (f:=fun p=>p.1) (en2:=eI) (XE.var (i:=0) rfl h0) (fun _ _=>rfl) (fun _=>.inl rfl)) (XE.prtP (x:=ay) (t2:=true) (f:=fun p=>p.2.1) (en2:=eI) (XE.var (i:=0) rfl h0) (fun _ _=>rfl) (fun _=>.inl rfl)) (qk8 _ _)))) XE.cint (XE.idxFP (XE.var (i:=4) rfl h4) XE.cint) rfl) (qbv (f:=fun(p:List Nat × (List Int) × Int × (Option Int))=>(p.1,(List.map (some)) p.2.1,some p.2.2.1,p.2.2.2)) (fun p=>qnb (e0:=eS) (f0:=eS) (e1:=(eL eI)) (f1:=(eL (eO eI))) (e2:=eI) (f2:=(eO eI)) (e3:=(eO eI)) (f3:=(eO eI)) (g0:=(fun x=>x)) (g1:=List.map (some)) (g2:=some) (g3:=(fun x=>x)) (fun _=>rfl) (qqt (fun _=>rfl)) (fun _=>rfl) (fun _=>rfl) p))) rfl))
  refine BR.ifR (XT.val (XE.cmpP (XE.var (i:=3) rfl h3) (XE.tupL (en:=eS) (XLs.cons XE.cstr rfl (XLs.cons XE.cstr rfl XLs.nil))) (qf5 _ _))) ?_ ?_
  ·exact BR.ret (XE.call5P rfl (XE.var (i:=0) rfl h0) (XE.var (i:=3) rfl h3) (XE.coe (x:=0) (f:=some) (en2:=(eO eI)) XE.cint (fun _=>rfl)) (XE.coe (x:=0) (f:=some) (en2:=(eO eI)) XE.cint (fun _=>rfl)) (XE.var (i:=4) rfl h4) (qcz ay aK (some 0) (some 0) au) rfl rfl) rfl
  refine BR.ifR (XT.bop (XTs.and (XT.val (XE.cmpP (XE.var (i:=3) rfl h3) (XE.tupL (en:=eS) (XLs.cons XE.cstr rfl (XLs.cons XE.cstr rfl XLs.nil))) (qf5 _ _))) (XTs.one (XT.val (XE.cmpP (XE.pri1P (XE.var (i:=4) rfl h4) (qdZ _)) XE.cint (qmx _ _)))))) ?_ ?_
  ·exact BR.ret (XE.call5 rfl (XE.var (i:=0) rfl h0) (XE.var (i:=3) rfl h3) (XE.idxFP (XE.var (i:=4) rfl h4) XE.cint) (XE.coe (x:=0) (f:=some) (en2:=(eO eI)) XE.cint (fun _=>rfl)) (XE.slcP (XE.var (i:=4) rfl h4) (XO.oneP XE.cint) XO.nil) (fun x0 x1 x2 x3 x4=>qcz x0 x1 x2 x3 x4) rfl rfl) rfl
  refine BR.ifR (XT.bop (XTs.andP (XT.val (XE.cmpP (XE.var (i:=3) rfl h3) XE.cstr (qkq _ _))) (XTs.one (XT.val (XE.cmpP (XE.pri1P (XE.var (i:=4) rfl h4) (qdZ _)) XE.cint (qmx _ _)))))) ?_ ?_
  ·exact BR.ret (XE.call5 rfl (XE.var (i:=0) rfl h0) (XE.var (i:=3) rfl h3) (XE.idxFP (XE.var (i:=4) rfl h4) XE.cint) (XE.idxFP (XE.var (i:=4) rfl h4) XE.cint) (XE.slcP (XE.var (i:=4) rfl h4) (XO.oneP XE.cint) XO.nil) (fun x0 x1 x2 x3 x4=>qcz x0 x1 x2 x3 x4) rfl rfl) rfl
  exact(BR.low (BR.ret (XE.coe (x:=()) (f:=fun _=>none) (en2:=(eO (eT4 eS (eL (eO eI)) (eO eI) (eO eI)))) XE.cnon (fun _=>rfl)) rfl))
 exact Rf.run rfl (key _ _ .non .non .non .non SlV.flat SlV.any)
theorem qlc (ax:List Nat):Rf (g_number_of [eS ax]) (F.number_of ax) eI .v true:=by
 have key:∀q0 q1:Sl,SlV true (eS ax) q0→BR qdH qcI [q0,q1] (F.number_of ax) eI .v true:=by
  intro q0 q1 h0;unfold F.number_of qcI;refine BR.ifR (XT.bop (XTs.or (XT.not (XT.val (XE.chn (f:=fun x y=>decide (x≤y)) (g:=fun x y=>decide (x≤y)) XE.cint (XE.pri1P (XE.var (i:=0) rfl h0) (qf4 _)) (XE.glo (x:=(2:Int)) rfl rfl) qiS qiS))) (XTs.one (XT.bop (XTs.and (XT.val (XE.cmpR (XE.idxSP (XE.var (i:=0) rfl h0) XE.cint) XE.cstr (fun x=>quq x _))) (XTs.one (XT.val (XE.cmpR (XE.pri1P (XE.var (i:=0) rfl h0) (qf4 _)) XE.cint (fun x=>qmx x _))))))))) ?_ ?_
  ·exact BR.rse rfl
  refine BR.cons (S:=(fun(st:Unit) ρ=>∃q1,ρ=[q0,q1])) (SN.for1 (t0:=true) _ (XI.str (XE.var (i:=0) rfl h0)) (fun _=>.inl rfl) ⟨_,rfl⟩ ?_) ?_
  ·intro ak s13 ρ1 q1 hS h1;obtain⟨_,rfl⟩:=hS;change BL _ _ [q0,q1] _ _;refine BL.ifE rfl (XT.val (XE.cmpP (XE.var (i:=1) rfl h1) (XE.glo (en:=eS) (x:=[48,49,50,51,52,53,54,55,56,57]) rfl rfl) (qqJ _ _))) rfl ?_;exact BL.nil ⟨_,rfl⟩
  rintro p15 _ ⟨q1,rfl⟩;exact BR.ret (XE.pri1P (XE.var (i:=0) rfl h0) (qua _)) rfl
 exact Rf.run rfl (key _ .non SlV.flat)
theorem qgZ (af:Int × Int × Int) (au:List Int) (aC:Int):Rf (g_sign_told [(eT3 eI eI eI) af,(eL eI) au,eI aC]) (F.sign_told af au aC) eI .v true:=by
 have key:∀q0 q1 q2:Sl,SlV true ((eT3 eI eI eI) af) q0→SlV false ((eL eI) au) q1→SlV true (eI aC) q2→BR qdG qcv [q0,q1,q2] (F.sign_told af au aC) eI .v true:=by
  intro q0 q1 q2 h0 h1 h2;unfold F.sign_told qcv;refine BR.ifR (XT.bop (XTs.or (XT.val (XE.cmpP (XE.var (i:=2) rfl h2) (XE.pri1P (XE.var (i:=1) rfl h1) (qdZ _)) (qsj _ _))) (XTs.one (XT.not (XT.val (XE.chn (f:=fun x y=>decide (x≤y)) (g:=fun x y=>decide (x≤y)) XE.cint (XE.idxFP (XE.var (i:=1) rfl h1) (XE.var (i:=2) rfl h2)) (XE.prtP (x:=af) (t2:=true) (f:=fun p=>p.2.2) (en2:=eI) (XE.var (i:=0) rfl h0) (fun _ _=>rfl) (fun _=>.inl rfl)) qiS qiS)))))) ?_ ?_
  ·exact BR.rse rfl
  exact BR.ret (XE.idxFP (XE.var (i:=1) rfl h1) (XE.var (i:=2) rfl h2)) rfl
 exact Rf.run rfl (key _ _ _  SlV.flat SlV.any SlV.flat)
theorem qge (af:Int × Int × Int):Rf (g_many_cells [(eT3 eI eI eI) af]) (F.many_cells af) eI .v true:=by
 have key:∀q0:Sl,SlV true ((eT3 eI eI eI) af) q0→BR qc3 qcf [q0] (F.many_cells af) eI .v true:=by
  intro q0 h0;unfold F.many_cells qcf;exact BR.ret (XE.binP (XE.prtP (x:=af) (t2:=true) (f:=fun p=>p.1) (en2:=eI) (XE.var (i:=0) rfl h0) (fun _ _=>rfl) (fun _=>.inl rfl)) (XE.prtP (x:=af) (t2:=true) (f:=fun p=>p.2.1) (en2:=eI) (XE.var (i:=0) rfl h0) (fun _ _=>rfl) (fun _=>.inl rfl)) (qk8 _ _)) rfl
 exact Rf.run rfl (key _  SlV.flat)
theorem qjM (a7:Int × Int × Int) (ao:List Int) (aw:Int) (a8:Int):XR (ini_Joined [(eT3 eI eI eI) a7,(eL eI) ao,eI aw,eI a8]) (RE.ok (RuleT.mk .joined a7 ao aw a8)) fun v fs=>eRule v=.ins 5 fs:=by
 have h1:SlV true ((eT3 eI eI eI) a7) (.val ((eT3 eI eI eI) a7) ((eT3 eI eI eI) a7).flat):=SlV.flat
 have h2:SlV false ((eL eI) ao) (.val ((eL eI) ao) ((eL eI) ao).flat):=SlV.any
 have h3:SlV true (eI aw) (.val (eI aw) (eI aw).flat):=SlV.flat
 have h4:SlV true (eI a8) (.val (eI a8) (eI a8).flat):=SlV.flat
 refine Ini.run (fs:=qaF) (nf:=4) (n:=4) rfl ?_ ?_
 ·show BN _ _ _ ((RE.ok a7).bind fun w_ground=>(RE.ok ao).bind fun w_cells=>(RE.ok aw).bind fun w_wanted=>(RE.ok a8).bind fun w_of_sign=>RE.ok (RuleT.mk .joined w_ground w_cells w_wanted w_of_sign)) _
  unfold qab;refine BN.cons (SN.fset (c:=5) (fs:=[]) (en:=(eT3 eI eI eI)) (XE.var (i:=1) rfl h1) rfl qby rfl rfl rfl rfl) ?_;rintro w_ground _ rfl;refine BN.cons (SN.fset (c:=5) (fs:=[(eT3 eI eI eI) w_ground]) (en:=(eL eI)) (XE.pri1P (XE.var (i:=2) rfl h2) (qdc _)) rfl qby rfl rfl rfl rfl) ?_;rintro w_cells _ rfl;refine BN.cons (SN.fset (c:=5) (fs:=[(eT3 eI eI eI) w_ground,(eL eI) w_cells]) (en:=eI) (XE.var (i:=3) rfl h3) rfl qby rfl rfl rfl rfl) ?_;rintro w_wanted _ rfl;refine BN.cons (SN.fset (c:=5) (fs:=[(eT3 eI eI eI) w_ground,(eL eI) w_cells,eI w_wanted]) (en:=eI) (XE.var (i:=4) rfl h4) rfl qby rfl rfl rfl rfl) ?_;rintro w_of_sign _ rfl;exact BN.nil ⟨_,rfl,rfl⟩
 ·intro v e;cases e;rfl
theorem qhD (a7:Int × Int × Int) (ao:List Int) (aw:Int) (a8:Int):XR (ini_NoSquare [(eT3 eI eI eI) a7,(eL eI) ao,eI aw,eI a8]) (RE.ok (RuleT.mk .nosquare a7 ao aw a8)) fun v fs=>eRule v=.ins 6 fs:=by
 have h1:SlV true ((eT3 eI eI eI) a7) (.val ((eT3 eI eI eI) a7) ((eT3 eI eI eI) a7).flat):=SlV.flat
 have h2:SlV false ((eL eI) ao) (.val ((eL eI) ao) ((eL eI) ao).flat):=SlV.any
 have h3:SlV true (eI aw) (.val (eI aw) (eI aw).flat):=SlV.flat
 have h4:SlV true (eI a8) (.val (eI a8) (eI a8).flat):=SlV.flat
 refine Ini.run (fs:=qaF) (nf:=4) (n:=4) rfl ?_ ?_
 ·show BN _ _ _ ((RE.ok a7).bind fun w_ground=>(RE.ok ao).bind fun w_cells=>(RE.ok aw).bind fun w_wanted=>(RE.ok a8).bind fun w_of_sign=>RE.ok (RuleT.mk .nosquare w_ground w_cells w_wanted w_of_sign)) _
  unfold qab;refine BN.cons (SN.fset (c:=6) (fs:=[]) (en:=(eT3 eI eI eI)) (XE.var (i:=1) rfl h1) rfl qby rfl rfl rfl rfl) ?_;rintro w_ground _ rfl;refine BN.cons (SN.fset (c:=6) (fs:=[(eT3 eI eI eI) w_ground]) (en:=(eL eI)) (XE.pri1P (XE.var (i:=2) rfl h2) (qdc _)) rfl qby rfl rfl rfl rfl) ?_;rintro w_cells _ rfl;refine BN.cons (SN.fset (c:=6) (fs:=[(eT3 eI eI eI) w_ground,(eL eI) w_cells]) (en:=eI) (XE.var (i:=3) rfl h3) rfl qby rfl rfl rfl rfl) ?_;rintro w_wanted _ rfl;refine BN.cons (SN.fset (c:=6) (fs:=[(eT3 eI eI eI) w_ground,(eL eI) w_cells,eI w_wanted]) (en:=eI) (XE.var (i:=4) rfl h4) rfl qby rfl rfl rfl rfl) ?_;rintro w_of_sign _ rfl;exact BN.nil ⟨_,rfl,rfl⟩
 ·intro v e;cases e;rfl
theorem qmL (a7:Int × Int × Int) (ao:List Int) (aw:Int) (a8:Int):XR (ini_Ring [(eT3 eI eI eI) a7,(eL eI) ao,eI aw,eI a8]) (RE.ok (RuleT.mk .ring a7 ao aw a8)) fun v fs=>eRule v=.ins 7 fs:=by
 have h1:SlV true ((eT3 eI eI eI) a7) (.val ((eT3 eI eI eI) a7) ((eT3 eI eI eI) a7).flat):=SlV.flat
 have h2:SlV false ((eL eI) ao) (.val ((eL eI) ao) ((eL eI) ao).flat):=SlV.any
 have h3:SlV true (eI aw) (.val (eI aw) (eI aw).flat):=SlV.flat
 have h4:SlV true (eI a8) (.val (eI a8) (eI a8).flat):=SlV.flat
 refine Ini.run (fs:=qaF) (nf:=4) (n:=4) rfl ?_ ?_
 ·show BN _ _ _ ((RE.ok a7).bind fun w_ground=>(RE.ok ao).bind fun w_cells=>(RE.ok aw).bind fun w_wanted=>(RE.ok a8).bind fun w_of_sign=>RE.ok (RuleT.mk .ring w_ground w_cells w_wanted w_of_sign)) _
  unfold qab;refine BN.cons (SN.fset (c:=7) (fs:=[]) (en:=(eT3 eI eI eI)) (XE.var (i:=1) rfl h1) rfl qby rfl rfl rfl rfl) ?_;rintro w_ground _ rfl;refine BN.cons (SN.fset (c:=7) (fs:=[(eT3 eI eI eI) w_ground]) (en:=(eL eI)) (XE.pri1P (XE.var (i:=2) rfl h2) (qdc _)) rfl qby rfl rfl rfl rfl) ?_;rintro w_cells _ rfl;refine BN.cons (SN.fset (c:=7) (fs:=[(eT3 eI eI eI) w_ground,(eL eI) w_cells]) (en:=eI) (XE.var (i:=3) rfl h3) rfl qby rfl rfl rfl rfl) ?_;rintro w_wanted _ rfl;refine BN.cons (SN.fset (c:=7) (fs:=[(eT3 eI eI eI) w_ground,(eL eI) w_cells,eI w_wanted]) (en:=eI) (XE.var (i:=4) rfl h4) rfl qby rfl rfl rfl rfl) ?_;rintro w_of_sign _ rfl;exact BN.nil ⟨_,rfl,rfl⟩
 ·intro v e;cases e;rfl
theorem qjE (af:Int × Int × Int) (ax:List Nat) (au:List Int):Rf (g_whole_rule [(eT3 eI eI eI) af,eS ax,(eL eI) au]) (F.whole_rule af ax au) eRule .v true:=by
 have key:∀q0 q1 q2 q3 q4:Sl,SlV true ((eT3 eI eI eI) af) q0→SlV true (eS ax) q1→SlV false ((eL eI) au) q2→BR qcT qcg [q0,q1,q2,q3,q4] (F.whole_rule af ax au) eRule .v true:=by
  intro q0 q1 q2 q3 q4 h0 h1 h2;unfold F.whole_rule qcg;refine BR.ifR (XT.val (XE.cmpP (XE.pri1P (XE.var (i:=2) rfl h2) (qdZ _)) XE.cint (qrk _ _))) ?_ ?_
  ·exact BR.rse rfl
  refine BR.cons (SN.asg (en:=eI) (fun q3=>[q0,q1,q2,q3,q4]) (XE.call3P rfl (XE.var (i:=0) rfl h0) (XE.var (i:=2) rfl h2) XE.cint (qgZ af au 0) rfl rfl) rfl fun _=>rfl) ?_;rintro ak _ ⟨q3,rfl,h3⟩;refine BR.cons (SN.asg (en:=(eL eI)) (fun q4=>[q0,q1,q2,q3,q4]) (XE.lrng (XRg.r1 (XE.call1P rfl (XE.var (i:=0) rfl h0) (qge af) rfl rfl))) rfl fun _=>rfl) ?_;rintro ao _ ⟨q4,rfl,h4⟩;refine BR.ifR (XT.val (XE.cmpP (XE.var (i:=1) rfl h1) XE.cstr (qkq _ _))) ?_ ?_
  ·exact BR.ret (XE.new4P rfl (XE.var (i:=0) rfl h0) (XE.var (i:=4) rfl h4) XE.cint (XE.var (i:=3) rfl h3) (qjM _ _ _ _)) rfl
  refine BR.ifR (XT.val (XE.cmpP (XE.var (i:=1) rfl h1) XE.cstr (qkq _ _))) ?_ ?_
  ·exact BR.ret (XE.new4P rfl (XE.var (i:=0) rfl h0) (XE.var (i:=4) rfl h4) XE.cint (XE.var (i:=3) rfl h3) (qhD _ _ _ _)) rfl
  exact BR.ret (XE.new4P rfl (XE.var (i:=0) rfl h0) (XE.var (i:=4) rfl h4) XE.cint (XE.var (i:=3) rfl h3) (qmL _ _ _ _)) rfl
 exact Rf.run rfl (key _ _ _ .non .non SlV.flat SlV.flat SlV.any)
theorem qcM (af:Int × Int × Int) (au:List Int):Rf (g_cells_told [(eT3 eI eI eI) af,(eL eI) au]) (F.cells_told af au) (eL eI) .v false:=by
 have key:∀q0 q1:Sl,SlV true ((eT3 eI eI eI) af) q0→SlV false ((eL eI) au) q1→BR qc1 qb5 [q0,q1] (F.cells_told af au) (eL eI) .v false:=by
  intro q0 q1 h0 h1;unfold F.cells_told qb5;refine BR.ifR (XT.bop (XTs.or (XT.val (XE.cmpP (XE.var (i:=1) rfl h1) (XE.lstL XLs.nil) (qt0 _ _))) (XTs.or (XT.val (XE.cmpR (XE.lsetP (XE.var (i:=1) rfl h1)) (XE.pri1P (XE.var (i:=1) rfl h1) (qdZ _)) (fun x=>qrk x _))) (XTs.one (XT.val (XE.cmp (XE.pri1P (XE.var (i:=1) rfl h1) (qqD _)) (XE.call1P rfl (XE.var (i:=0) rfl h0) (qge af) rfl rfl) (fun x y=>qsj x y))))))) ?_ ?_
  ·exact BR.rse rfl
  exact BR.ret (XE.var (i:=1) rfl h1) rfl
 exact Rf.run rfl (key _ _  SlV.flat SlV.any)
theorem qjL (a7:Int × Int × Int) (ao:List Int) (aw:Int) (a8:Int):XR (ini_Unlike [(eT3 eI eI eI) a7,(eL eI) ao,eI aw,eI a8]) (RE.ok (RuleT.mk .unlike a7 ao aw a8)) fun v fs=>eRule v=.ins 0 fs:=by
 have h1:SlV true ((eT3 eI eI eI) a7) (.val ((eT3 eI eI eI) a7) ((eT3 eI eI eI) a7).flat):=SlV.flat
 have h2:SlV false ((eL eI) ao) (.val ((eL eI) ao) ((eL eI) ao).flat):=SlV.any
 have h3:SlV true (eI aw) (.val (eI aw) (eI aw).flat):=SlV.flat
 have h4:SlV true (eI a8) (.val (eI a8) (eI a8).flat):=SlV.flat
 refine Ini.run (fs:=qaF) (nf:=4) (n:=4) rfl ?_ ?_
 ·show BN _ _ _ ((RE.ok a7).bind fun w_ground=>(RE.ok ao).bind fun w_cells=>(RE.ok aw).bind fun w_wanted=>(RE.ok a8).bind fun w_of_sign=>RE.ok (RuleT.mk .unlike w_ground w_cells w_wanted w_of_sign)) _
  unfold qab;refine BN.cons (SN.fset (c:=0) (fs:=[]) (en:=(eT3 eI eI eI)) (XE.var (i:=1) rfl h1) rfl qby rfl rfl rfl rfl) ?_;rintro w_ground _ rfl;refine BN.cons (SN.fset (c:=0) (fs:=[(eT3 eI eI eI) w_ground]) (en:=(eL eI)) (XE.pri1P (XE.var (i:=2) rfl h2) (qdc _)) rfl qby rfl rfl rfl rfl) ?_;rintro w_cells _ rfl;refine BN.cons (SN.fset (c:=0) (fs:=[(eT3 eI eI eI) w_ground,(eL eI) w_cells]) (en:=eI) (XE.var (i:=3) rfl h3) rfl qby rfl rfl rfl rfl) ?_;rintro w_wanted _ rfl;refine BN.cons (SN.fset (c:=0) (fs:=[(eT3 eI eI eI) w_ground,(eL eI) w_cells,eI w_wanted]) (en:=eI) (XE.var (i:=4) rfl h4) rfl qby rfl rfl rfl rfl) ?_;rintro w_of_sign _ rfl;exact BN.nil ⟨_,rfl,rfl⟩
 ·intro v e;cases e;rfl
theorem qjh (a7:Int × Int × Int) (ao:List Int) (aw:Int) (a8:Int):XR (ini_Rising [(eT3 eI eI eI) a7,(eL eI) ao,eI aw,eI a8]) (RE.ok (RuleT.mk .rising a7 ao aw a8)) fun v fs=>eRule v=.ins 2 fs:=by
 have h1:SlV true ((eT3 eI eI eI) a7) (.val ((eT3 eI eI eI) a7) ((eT3 eI eI eI) a7).flat):=SlV.flat
 have h2:SlV false ((eL eI) ao) (.val ((eL eI) ao) ((eL eI) ao).flat):=SlV.any
 have h3:SlV true (eI aw) (.val (eI aw) (eI aw).flat):=SlV.flat
 have h4:SlV true (eI a8) (.val (eI a8) (eI a8).flat):=SlV.flat
 refine Ini.run (fs:=qaF) (nf:=4) (n:=4) rfl ?_ ?_
 ·show BN _ _ _ ((RE.ok a7).bind fun w_ground=>(RE.ok ao).bind fun w_cells=>(RE.ok aw).bind fun w_wanted=>(RE.ok a8).bind fun w_of_sign=>RE.ok (RuleT.mk .rising w_ground w_cells w_wanted w_of_sign)) _
  unfold qab;refine BN.cons (SN.fset (c:=2) (fs:=[]) (en:=(eT3 eI eI eI)) (XE.var (i:=1) rfl h1) rfl qby rfl rfl rfl rfl) ?_;rintro w_ground _ rfl;refine BN.cons (SN.fset (c:=2) (fs:=[(eT3 eI eI eI) w_ground]) (en:=(eL eI)) (XE.pri1P (XE.var (i:=2) rfl h2) (qdc _)) rfl qby rfl rfl rfl rfl) ?_;rintro w_cells _ rfl;refine BN.cons (SN.fset (c:=2) (fs:=[(eT3 eI eI eI) w_ground,(eL eI) w_cells]) (en:=eI) (XE.var (i:=3) rfl h3) rfl qby rfl rfl rfl rfl) ?_;rintro w_wanted _ rfl;refine BN.cons (SN.fset (c:=2) (fs:=[(eT3 eI eI eI) w_ground,(eL eI) w_cells,eI w_wanted]) (en:=eI) (XE.var (i:=4) rfl h4) rfl qby rfl rfl rfl rfl) ?_;rintro w_of_sign _ rfl;exact BN.nil ⟨_,rfl,rfl⟩
 ·intro v e;cases e;rfl
theorem qiF (a7:Int × Int × Int) (ao:List Int) (aw:Int) (a8:Int):XR (ini_Counted [(eT3 eI eI eI) a7,(eL eI) ao,eI aw,eI a8]) (RE.ok (RuleT.mk .counted a7 ao aw a8)) fun v fs=>eRule v=.ins 4 fs:=by
 have h1:SlV true ((eT3 eI eI eI) a7) (.val ((eT3 eI eI eI) a7) ((eT3 eI eI eI) a7).flat):=SlV.flat
 have h2:SlV false ((eL eI) ao) (.val ((eL eI) ao) ((eL eI) ao).flat):=SlV.any
 have h3:SlV true (eI aw) (.val (eI aw) (eI aw).flat):=SlV.flat
 have h4:SlV true (eI a8) (.val (eI a8) (eI a8).flat):=SlV.flat
 refine Ini.run (fs:=qaF) (nf:=4) (n:=4) rfl ?_ ?_
 ·show BN _ _ _ ((RE.ok a7).bind fun w_ground=>(RE.ok ao).bind fun w_cells=>(RE.ok aw).bind fun w_wanted=>(RE.ok a8).bind fun w_of_sign=>RE.ok (RuleT.mk .counted w_ground w_cells w_wanted w_of_sign)) _
  unfold qab;refine BN.cons (SN.fset (c:=4) (fs:=[]) (en:=(eT3 eI eI eI)) (XE.var (i:=1) rfl h1) rfl qby rfl rfl rfl rfl) ?_;rintro w_ground _ rfl;refine BN.cons (SN.fset (c:=4) (fs:=[(eT3 eI eI eI) w_ground]) (en:=(eL eI)) (XE.pri1P (XE.var (i:=2) rfl h2) (qdc _)) rfl qby rfl rfl rfl rfl) ?_;rintro w_cells _ rfl;refine BN.cons (SN.fset (c:=4) (fs:=[(eT3 eI eI eI) w_ground,(eL eI) w_cells]) (en:=eI) (XE.var (i:=3) rfl h3) rfl qby rfl rfl rfl rfl) ?_;rintro w_wanted _ rfl;refine BN.cons (SN.fset (c:=4) (fs:=[(eT3 eI eI eI) w_ground,(eL eI) w_cells,eI w_wanted]) (en:=eI) (XE.var (i:=4) rfl h4) rfl qby rfl rfl rfl rfl) ?_;rintro w_of_sign _ rfl;exact BN.nil ⟨_,rfl,rfl⟩
 ·intro v e;cases e;rfl
theorem qkJ (a7:Int × Int × Int) (ao:List Int) (aw:Int) (a8:Int):XR (ini_Total [(eT3 eI eI eI) a7,(eL eI) ao,eI aw,eI a8]) (RE.ok (RuleT.mk .total a7 ao aw a8)) fun v fs=>eRule v=.ins 1 fs:=by
 have h1:SlV true ((eT3 eI eI eI) a7) (.val ((eT3 eI eI eI) a7) ((eT3 eI eI eI) a7).flat):=SlV.flat
 have h2:SlV false ((eL eI) ao) (.val ((eL eI) ao) ((eL eI) ao).flat):=SlV.any
 have h3:SlV true (eI aw) (.val (eI aw) (eI aw).flat):=SlV.flat
 have h4:SlV true (eI a8) (.val (eI a8) (eI a8).flat):=SlV.flat
 refine Ini.run (fs:=qaF) (nf:=4) (n:=4) rfl ?_ ?_
 ·show BN _ _ _ ((RE.ok a7).bind fun w_ground=>(RE.ok ao).bind fun w_cells=>(RE.ok aw).bind fun w_wanted=>(RE.ok a8).bind fun w_of_sign=>RE.ok (RuleT.mk .total w_ground w_cells w_wanted w_of_sign)) _
  unfold qab;refine BN.cons (SN.fset (c:=1) (fs:=[]) (en:=(eT3 eI eI eI)) (XE.var (i:=1) rfl h1) rfl qby rfl rfl rfl rfl) ?_;rintro w_ground _ rfl;refine BN.cons (SN.fset (c:=1) (fs:=[(eT3 eI eI eI) w_ground]) (en:=(eL eI)) (XE.pri1P (XE.var (i:=2) rfl h2) (qdc _)) rfl qby rfl rfl rfl rfl) ?_;rintro w_cells _ rfl;refine BN.cons (SN.fset (c:=1) (fs:=[(eT3 eI eI eI) w_ground,(eL eI) w_cells]) (en:=eI) (XE.var (i:=3) rfl h3) rfl qby rfl rfl rfl rfl) ?_;rintro w_wanted _ rfl;refine BN.cons (SN.fset (c:=1) (fs:=[(eT3 eI eI eI) w_ground,(eL eI) w_cells,eI w_wanted]) (en:=eI) (XE.var (i:=4) rfl h4) rfl qby rfl rfl rfl rfl) ?_;rintro w_of_sign _ rfl;exact BN.nil ⟨_,rfl,rfl⟩
 ·intro v e;cases e;rfl
theorem qmC (a7:Int × Int × Int) (ao:List Int) (aw:Int) (a8:Int):XR (ini_Seen [(eT3 eI eI eI) a7,(eL eI) ao,eI aw,eI a8]) (RE.ok (RuleT.mk .seen a7 ao aw a8)) fun v fs=>eRule v=.ins 3 fs:=by
 have h1:SlV true ((eT3 eI eI eI) a7) (.val ((eT3 eI eI eI) a7) ((eT3 eI eI eI) a7).flat):=SlV.flat
 have h2:SlV false ((eL eI) ao) (.val ((eL eI) ao) ((eL eI) ao).flat):=SlV.any
 have h3:SlV true (eI aw) (.val (eI aw) (eI aw).flat):=SlV.flat
 have h4:SlV true (eI a8) (.val (eI a8) (eI a8).flat):=SlV.flat
 refine Ini.run (fs:=qaF) (nf:=4) (n:=4) rfl ?_ ?_
 ·show BN _ _ _ ((RE.ok a7).bind fun w_ground=>(RE.ok ao).bind fun w_cells=>(RE.ok aw).bind fun w_wanted=>(RE.ok a8).bind fun w_of_sign=>RE.ok (RuleT.mk .seen w_ground w_cells w_wanted w_of_sign)) _
  unfold qab;refine BN.cons (SN.fset (c:=3) (fs:=[]) (en:=(eT3 eI eI eI)) (XE.var (i:=1) rfl h1) rfl qby rfl rfl rfl rfl) ?_;rintro w_ground _ rfl;refine BN.cons (SN.fset (c:=3) (fs:=[(eT3 eI eI eI) w_ground]) (en:=(eL eI)) (XE.pri1P (XE.var (i:=2) rfl h2) (qdc _)) rfl qby rfl rfl rfl rfl) ?_;rintro w_cells _ rfl;refine BN.cons (SN.fset (c:=3) (fs:=[(eT3 eI eI eI) w_ground,(eL eI) w_cells]) (en:=eI) (XE.var (i:=3) rfl h3) rfl qby rfl rfl rfl rfl) ?_;rintro w_wanted _ rfl;refine BN.cons (SN.fset (c:=3) (fs:=[(eT3 eI eI eI) w_ground,(eL eI) w_cells,eI w_wanted]) (en:=eI) (XE.var (i:=4) rfl h4) rfl qby rfl rfl rfl rfl) ?_;rintro w_of_sign _ rfl;exact BN.nil ⟨_,rfl,rfl⟩
 ·intro v e;cases e;rfl
theorem qkZ (af:Int × Int × Int) (aW:D):Rf (g_read_rule [(eT3 eI eI eI) af,eD aW]) (F.read_rule af aW) eRule .v true:=by
 have key:∀q0 q1 q2 q3 q4 q5 q6 q7:Sl,SlV true ((eT3 eI eI eI) af) q0→SlV false (eD aW) q1→BR qdr qcA [q0,q1,q2,q3,q4,q5,q6,q7] (F.read_rule af aW) eRule .v true:=by
  intro q0 q1 q2 q3 q4 q5 q6 q7 h0 h1;unfold F.read_rule qcA;refine BR.ifR (XT.not (XT.val (XE.isiD (XE.var (i:=1) rfl h1)))) ?_ ?_
  ·exact BR.rse rfl
  refine BR.cons (SN.asg (en:=(eL eS)) (fun q2=>[q0,q1,q2,q3,q4,q5,q6,q7]) (XE.split (XE.dec (f:=dS) (XE.var (i:=1) rfl h1) qwj) XE.cstr) rfl fun _=>rfl) ?_;rintro aH _ ⟨q2,rfl,h2⟩;refine BR.cons (SN.asg (en:=eS) (fun q3=>[q0,q1,q2,q3,q4,q5,q6,q7]) (XE.idxFP (XE.var (i:=2) rfl h2) XE.cint) rfl fun _=>rfl) ?_;rintro ax _ ⟨q3,rfl,h3⟩;refine BR.ifR (XT.val (XE.cmpP (XE.var (i:=3) rfl h3) (XE.tupL (en:=eS) (XLs.cons XE.cstr rfl (XLs.cons XE.cstr rfl (XLs.cons XE.cstr rfl (XLs.cons XE.cstr rfl (XLs.cons XE.cstr rfl (XLs.cons XE.cstr rfl (XLs.cons XE.cstr rfl (XLs.cons XE.cstr rfl XLs.nil))))))))) (qsn _ _))) ?_ ?_
  ·exact BR.rse rfl
  refine BR.cons (SN.asg (en:=(eL eI)) (fun q4=>[q0,q1,q2,q3,q4,q5,q6,q7]) (XE.lcx (t0:=true) (fun q5=>[q0,q1,q2,q3,q4,q5,q6,q7]) (XI.list (XE.slcP (XE.var (i:=2) rfl h2) (XO.oneP XE.cint) XO.nil) rfl) (fun _=>.inl rfl) (fun _=>rfl) (fun aJ q5 h5=>XTs.nil) (fun aJ q5 h5 _=>(XE.call1P rfl (XE.var (i:=5) rfl h5) (qlc aJ) rfl rfl)) rfl) rfl fun _=>rfl) ?_;rintro au _ ⟨q4,rfl,h4⟩;refine BR.ifR (XT.val (XE.cmpP (XE.var (i:=3) rfl h3) (XE.tupL (en:=eS) (XLs.cons XE.cstr rfl (XLs.cons XE.cstr rfl (XLs.cons XE.cstr rfl XLs.nil)))) (qf5 _ _))) ?_ ?_
  ·exact BR.ret (XE.call3P rfl (XE.var (i:=0) rfl h0) (XE.var (i:=3) rfl h3) (XE.var (i:=4) rfl h4) (qjE af ax au) rfl rfl) rfl
  refine BR.ifR (XT.val (XE.cmpP (XE.var (i:=3) rfl h3) XE.cstr (qkq _ _))) ?_ ?_
  ·exact BR.ret (XE.new4 rfl (XE.var (i:=0) rfl h0) (XE.call2P rfl (XE.var (i:=0) rfl h0) (XE.var (i:=4) rfl h4) (qcM af au) rfl rfl) XE.cint XE.cint (fun _ _ _ _=>qjL _ _ _ _)) rfl
  refine BR.ifR (XT.val (XE.cmpP (XE.var (i:=3) rfl h3) XE.cstr (qkq _ _))) ?_ ?_
  ·exact BR.ret (XE.new4 rfl (XE.var (i:=0) rfl h0) (XE.call2P rfl (XE.var (i:=0) rfl h0) (XE.var (i:=4) rfl h4) (qcM af au) rfl rfl) XE.cint XE.cint (fun _ _ _ _=>qjh _ _ _ _)) rfl
  refine BR.ifR (XT.val (XE.cmpP (XE.var (i:=3) rfl h3) XE.cstr (qkq _ _))) ?_ ?_
  ·refine BR.cons (SN.asg (en:=eI) (fun q6=>[q0,q1,q2,q3,q4,q5,q6,q7]) (XE.call3P rfl (XE.var (i:=0) rfl h0) (XE.var (i:=4) rfl h4) XE.cint (qgZ af au 1) rfl rfl) rfl fun _=>rfl) ?_;rintro ak _ ⟨q6,rfl,h6⟩;exact BR.ret (XE.new4 rfl (XE.var (i:=0) rfl h0) (XE.call2P rfl (XE.var (i:=0) rfl h0) (XE.slcP (XE.var (i:=4) rfl h4) (XO.oneP XE.cint) XO.nil) (qcM af (qdu au (some 2) none)) rfl rfl) (XE.idxFP (XE.var (i:=4) rfl h4) XE.cint) (XE.var (i:=6) rfl h6) (fun _ _ _ _=>qiF _ _ _ _)) rfl
  refine BR.cons (SN.asg (en:=(eL eI)) (fun q7=>[q0,q1,q2,q3,q4,q5,q6,q7]) (XE.call2P rfl (XE.var (i:=0) rfl h0) (XE.slcP (XE.var (i:=4) rfl h4) (XO.oneP XE.cint) XO.nil) (qcM af (qdu au (some 1) none)) rfl rfl) rfl fun _=>rfl) ?_;rintro ao _ ⟨q7,rfl,h7⟩;refine BR.ifR (XT.val (XE.cmpP (XE.var (i:=3) rfl h3) XE.cstr (qkq _ _))) ?_ ?_
  ·exact BR.ret (XE.new4 rfl (XE.var (i:=0) rfl h0) (XE.var (i:=7) rfl h7) (XE.idxFP (XE.var (i:=4) rfl h4) XE.cint) XE.cint (fun _ _ _ _=>qkJ _ _ _ _)) rfl
  exact BR.ret (XE.new4 rfl (XE.var (i:=0) rfl h0) (XE.var (i:=7) rfl h7) (XE.idxFP (XE.var (i:=4) rfl h4) XE.cint) XE.cint (fun _ _ _ _=>qmC _ _ _ _)) rfl
 exact Rf.run rfl (key _ _ .non .non .non .non .non .non SlV.flat SlV.any)
theorem qfB (ab:RuleT):Rf (g_Unlike_name [eRule ab]) (F.Unlike_name ab) eS .v true:=by
 have key:∀q0:Sl,SlV true (eRule ab) q0→BR qck qbM [q0] (F.Unlike_name ab) eS .v true:=by
  intro q0 h0;unfold F.Unlike_name qbM;exact BR.ret XE.cstr rfl
 exact Rf.run rfl (key _  SlV.flat)
theorem qf7 (ab:RuleT):Rf (g_Total_name [eRule ab]) (F.Total_name ab) eS .v true:=by
 have key:∀q0:Sl,SlV true (eRule ab) q0→BR qc6 qcb [q0] (F.Total_name ab) eS .v true:=by
  intro q0 h0;unfold F.Total_name qcb;exact BR.ret XE.cstr rfl
 exact Rf.run rfl (key _  SlV.flat)
theorem qfc (ab:RuleT):Rf (g_Rising_name [eRule ab]) (F.Rising_name ab) eS .v true:=by
 have key:∀q0:Sl,SlV true (eRule ab) q0→BR qcm qbT [q0] (F.Rising_name ab) eS .v true:=by
  intro q0 h0;unfold F.Rising_name qbT;exact BR.ret XE.cstr rfl
 exact Rf.run rfl (key _  SlV.flat)
theorem qg5 (ab:RuleT):Rf (g_Seen_name [eRule ab]) (F.Seen_name ab) eS .v true:=by
 have key:∀q0:Sl,SlV true (eRule ab) q0→BR qdp qcJ [q0] (F.Seen_name ab) eS .v true:=by
  intro q0 h0;unfold F.Seen_name qcJ;exact BR.ret XE.cstr rfl
 exact Rf.run rfl (key _  SlV.flat)
theorem qeG (ab:RuleT):Rf (g_Counted_name [eRule ab]) (F.Counted_name ab) eS .v true:=by
 have key:∀q0:Sl,SlV true (eRule ab) q0→BR qb4 qbw [q0] (F.Counted_name ab) eS .v true:=by
  intro q0 h0;unfold F.Counted_name qbw;exact BR.ret XE.cstr rfl
 exact Rf.run rfl (key _  SlV.flat)
theorem qfw (ab:RuleT):Rf (g_Joined_name [eRule ab]) (F.Joined_name ab) eS .v true:=by
 have key:∀q0:Sl,SlV true (eRule ab) q0→BR qcp qbI [q0] (F.Joined_name ab) eS .v true:=by
  intro q0 h0;unfold F.Joined_name qbI;exact BR.ret XE.cstr rfl
 exact Rf.run rfl (key _  SlV.flat)
theorem qdY (ab:RuleT):Rf (g_NoSquare_name [eRule ab]) (F.NoSquare_name ab) eS .v true:=by
 have key:∀q0:Sl,SlV true (eRule ab) q0→BR qbJ qbi [q0] (F.NoSquare_name ab) eS .v true:=by
  intro q0 h0;unfold F.NoSquare_name qbi;exact BR.ret XE.cstr rfl
 exact Rf.run rfl (key _  SlV.flat)
theorem qgT (ab:RuleT):Rf (g_Ring_name [eRule ab]) (F.Ring_name ab) eS .v true:=by
 have key:∀q0:Sl,SlV true (eRule ab) q0→BR qdC qcy [q0] (F.Ring_name ab) eS .v true:=by
  intro q0 h0;unfold F.Ring_name qcy;exact BR.ret XE.cstr rfl
 exact Rf.run rfl (key _  SlV.flat)
theorem qa7 (ab:RuleT):Rf (g_Rule_spots [eRule ab]) (F.Rule_spots ab) (eL eI) .f true:=by
 have key:∀q0:Sl,SlV true (eRule ab) q0→BR qay qas [q0] (F.Rule_spots ab) (eL eI) .f true:=by
  intro q0 h0;unfold F.Rule_spots qas;exact BR.ret (XE.pri1P (XE.fldP (x:=ab) (cl:=(fun r=>r.k.c)) (fs:=qaF) (p:=fun v=>v.cells) (en:=(eL eI)) (XE.var (i:=0) rfl h0) (fun _=>rfl) (by intro v;obtain⟨k,_,_,_,_⟩:=v;cases k<;>exact⟨_,rfl,rfl⟩)) (qdc _)) rfl
 exact Rf.run rfl (key _  SlV.flat)
theorem qaf (ab:RuleT):Rf (g_Rule_number [eRule ab]) (F.Rule_number ab) eI .v true:=by
 have key:∀q0:Sl,SlV true (eRule ab) q0→BR qan qaj [q0] (F.Rule_number ab) eI .v true:=by
  intro q0 h0;unfold F.Rule_number qaj;exact BR.ret (XE.fldFP (x:=ab) (cl:=(fun r=>r.k.c)) (fs:=qaF) (p:=fun v=>v.wanted) (en:=eI) (XE.var (i:=0) rfl h0) (fun _=>rfl) (by intro v;obtain⟨k,_,_,_,_⟩:=v;cases k<;>exact⟨_,rfl,rfl⟩)) rfl
 exact Rf.run rfl (key _  SlV.flat)
theorem qai (ab:RuleT):Rf (g_Rule_sign [eRule ab]) (F.Rule_sign ab) eI .v true:=by
 have key:∀q0:Sl,SlV true (eRule ab) q0→BR qaQ qaE [q0] (F.Rule_sign ab) eI .v true:=by
  intro q0 h0;unfold F.Rule_sign qaE;exact BR.ret (XE.fldFP (x:=ab) (cl:=(fun r=>r.k.c)) (fs:=qaF) (p:=fun v=>v.sign) (en:=eI) (XE.var (i:=0) rfl h0) (fun _=>rfl) (by intro v;obtain⟨k,_,_,_,_⟩:=v;cases k<;>exact⟨_,rfl,rfl⟩)) rfl
 exact Rf.run rfl (key _  SlV.flat)
theorem qf3 (aj:Int):Rf (g__law_whole [eI aj]) (qfP aj) eB .v true:=by
 have key:∀q0:Sl,SlV true (eI aj) q0→BR qc8 qb8 [q0] (qfP aj) eB .v true:=by
  intro q0 h0;unfold qfP qb8;exact BR.ret (XE.bop (XV.andP (XE.isiP (f:=fun _=>true) (XE.var (i:=0) rfl h0) (fun _=>rfl)) (XV.one (XE.bnotP (XE.isiP (f:=fun _=>false) (XE.var (i:=0) rfl h0) (fun _=>rfl)))))) rfl
 exact Rf.run rfl (key _  SlV.flat)
theorem qcF (ab:RuleT):Rf (g_Rule_told_numbers [eRule ab]) (F.Rule_told_numbers ab) (eL eI) .f true:=by
 have key:∀q0:Sl,SlV true (eRule ab) q0→BR qaK qav [q0] (F.Rule_told_numbers ab) (eL eI) .f true:=by
  intro q0 h0;unfold F.Rule_told_numbers qav;exact BR.ret (XE.pri1P (XE.fldP (x:=ab) (cl:=(fun r=>r.k.c)) (fs:=qaF) (p:=fun v=>v.cells) (en:=(eL eI)) (XE.var (i:=0) rfl h0) (fun _=>rfl) (by intro v;obtain⟨k,_,_,_,_⟩:=v;cases k<;>exact⟨_,rfl,rfl⟩)) (qdc _)) rfl
 exact Rf.run rfl (key _  SlV.flat)
theorem qey (ab:RuleT):Rf (g_Total_told_numbers [eRule ab]) (F.Total_told_numbers ab) (eL eI) .f false:=by
 have key:∀q0:Sl,SlV true (eRule ab) q0→BR qa3 qaG [q0] (F.Total_told_numbers ab) (eL eI) .f false:=by
  intro q0 h0;unfold F.Total_told_numbers qaG;exact BR.ret (XE.binP (XE.lstL (en:=eI) (XLs.cons (XE.fldFP (x:=ab) (cl:=(fun r=>r.k.c)) (fs:=qaF) (p:=fun v=>v.wanted) (en:=eI) (XE.var (i:=0) rfl h0) (fun _=>rfl) (by intro v;obtain⟨k,_,_,_,_⟩:=v;cases k<;>exact⟨_,rfl,rfl⟩)) rfl XLs.nil)) (XE.fldP (x:=ab) (cl:=(fun r=>r.k.c)) (fs:=qaF) (p:=fun v=>v.cells) (en:=(eL eI)) (XE.var (i:=0) rfl h0) (fun _=>rfl) (by intro v;obtain⟨k,_,_,_,_⟩:=v;cases k<;>exact⟨_,rfl,rfl⟩)) (qka (en:=eI) _ _)) rfl
 exact Rf.run rfl (key _  SlV.flat)
theorem qeT (ab:RuleT):Rf (g_Seen_told_numbers [eRule ab]) (F.Seen_told_numbers ab) (eL eI) .f false:=by
 have key:∀q0:Sl,SlV true (eRule ab) q0→BR qbb qaP [q0] (F.Seen_told_numbers ab) (eL eI) .f false:=by
  intro q0 h0;unfold F.Seen_told_numbers qaP;exact BR.ret (XE.binP (XE.lstL (en:=eI) (XLs.cons (XE.fldFP (x:=ab) (cl:=(fun r=>r.k.c)) (fs:=qaF) (p:=fun v=>v.wanted) (en:=eI) (XE.var (i:=0) rfl h0) (fun _=>rfl) (by intro v;obtain⟨k,_,_,_,_⟩:=v;cases k<;>exact⟨_,rfl,rfl⟩)) rfl XLs.nil)) (XE.fldP (x:=ab) (cl:=(fun r=>r.k.c)) (fs:=qaF) (p:=fun v=>v.cells) (en:=(eL eI)) (XE.var (i:=0) rfl h0) (fun _=>rfl) (by intro v;obtain⟨k,_,_,_,_⟩:=v;cases k<;>exact⟨_,rfl,rfl⟩)) (qka (en:=eI) _ _)) rfl
 exact Rf.run rfl (key _  SlV.flat)
theorem qdV (ab:RuleT):Rf (g_Counted_told_numbers [eRule ab]) (F.Counted_told_numbers ab) (eL eI) .f false:=by
 have key:∀q0:Sl,SlV true (eRule ab) q0→BR qaS qau [q0] (F.Counted_told_numbers ab) (eL eI) .f false:=by
  intro q0 h0;unfold F.Counted_told_numbers qau;exact BR.ret (XE.binP (XE.lstL (en:=eI) (XLs.cons (XE.fldFP (x:=ab) (cl:=(fun r=>r.k.c)) (fs:=qaF) (p:=fun v=>v.wanted) (en:=eI) (XE.var (i:=0) rfl h0) (fun _=>rfl) (by intro v;obtain⟨k,_,_,_,_⟩:=v;cases k<;>exact⟨_,rfl,rfl⟩)) rfl (XLs.cons (XE.fldFP (x:=ab) (cl:=(fun r=>r.k.c)) (fs:=qaF) (p:=fun v=>v.sign) (en:=eI) (XE.var (i:=0) rfl h0) (fun _=>rfl) (by intro v;obtain⟨k,_,_,_,_⟩:=v;cases k<;>exact⟨_,rfl,rfl⟩)) rfl XLs.nil))) (XE.fldP (x:=ab) (cl:=(fun r=>r.k.c)) (fs:=qaF) (p:=fun v=>v.cells) (en:=(eL eI)) (XE.var (i:=0) rfl h0) (fun _=>rfl) (by intro v;obtain⟨k,_,_,_,_⟩:=v;cases k<;>exact⟨_,rfl,rfl⟩)) (qka (en:=eI) _ _)) rfl
 exact Rf.run rfl (key _  SlV.flat)
theorem qd0 (ab:RuleT):Rf (g_Joined_told_numbers [eRule ab]) (F.Joined_told_numbers ab) (eL eI) .f true:=by
 have key:∀q0:Sl,SlV true (eRule ab) q0→BR qaX qaw [q0] (F.Joined_told_numbers ab) (eL eI) .f true:=by
  intro q0 h0;unfold F.Joined_told_numbers qaw;exact BR.ret (XE.lstL (en:=eI) (XLs.cons (XE.fldFP (x:=ab) (cl:=(fun r=>r.k.c)) (fs:=qaF) (p:=fun v=>v.sign) (en:=eI) (XE.var (i:=0) rfl h0) (fun _=>rfl) (by intro v;obtain⟨k,_,_,_,_⟩:=v;cases k<;>exact⟨_,rfl,rfl⟩)) rfl XLs.nil)) rfl
 exact Rf.run rfl (key _  SlV.flat)
theorem qds (ab:RuleT):Rf (g_NoSquare_told_numbers [eRule ab]) (F.NoSquare_told_numbers ab) (eL eI) .f true:=by
 have key:∀q0:Sl,SlV true (eRule ab) q0→BR qaH qaq [q0] (F.NoSquare_told_numbers ab) (eL eI) .f true:=by
  intro q0 h0;unfold F.NoSquare_told_numbers qaq;exact BR.ret (XE.lstL (en:=eI) (XLs.cons (XE.fldFP (x:=ab) (cl:=(fun r=>r.k.c)) (fs:=qaF) (p:=fun v=>v.sign) (en:=eI) (XE.var (i:=0) rfl h0) (fun _=>rfl) (by intro v;obtain⟨k,_,_,_,_⟩:=v;cases k<;>exact⟨_,rfl,rfl⟩)) rfl XLs.nil)) rfl
 exact Rf.run rfl (key _  SlV.flat)
theorem qeZ (ab:RuleT):Rf (g_Ring_told_numbers [eRule ab]) (F.Ring_told_numbers ab) (eL eI) .f true:=by
 have key:∀q0:Sl,SlV true (eRule ab) q0→BR qbe qaN [q0] (F.Ring_told_numbers ab) (eL eI) .f true:=by
  intro q0 h0;unfold F.Ring_told_numbers qaN;exact BR.ret (XE.lstL (en:=eI) (XLs.cons (XE.fldFP (x:=ab) (cl:=(fun r=>r.k.c)) (fs:=qaF) (p:=fun v=>v.sign) (en:=eI) (XE.var (i:=0) rfl h0) (fun _=>rfl) (by intro v;obtain⟨k,_,_,_,_⟩:=v;cases k<;>exact⟨_,rfl,rfl⟩)) rfl XLs.nil)) rfl
 exact Rf.run rfl (key _  SlV.flat)
theorem qbk (ab:RuleT):Rf (g_Rule_line [eRule ab]) (F.Rule_line ab) eS .v true:=by
 have key:∀q0 q1:Sl,SlV true (eRule ab) q0→BR qaL qaD [q0,q1] (F.Rule_line ab) eS .v true:=by
  intro q0 q1 h0;unfold F.Rule_line qaD;exact BR.ret (XE.join XE.cstr (XE.bin (XE.cast (m':=(F.m_name ab).bind fun x1=>RE.ok [x1]) (XE.lstS (F:=fun w=>[w.1]) (en:=eS) (XS.cons (XE.mth0P (F:=fun r=>F.m_name r) (cl:=(fun r=>r.k.c)) (fs:=qaF) (XE.var (i:=0) rfl h0) (fun _=>rfl)  (by intro r;obtain⟨k,a0,a1,a2,a3⟩:=r;cases k;exact⟨_,rfl,qfB ⟨.unlike,a0,a1,a2,a3⟩⟩;exact⟨_,rfl,qf7 ⟨.total,a0,a1,a2,a3⟩⟩;exact⟨_,rfl,qfc ⟨.rising,a0,a1,a2,a3⟩⟩;exact⟨_,rfl,qg5 ⟨.seen,a0,a1,a2,a3⟩⟩;exact⟨_,rfl,qeG ⟨.counted,a0,a1,a2,a3⟩⟩;exact⟨_,rfl,qfw ⟨.joined,a0,a1,a2,a3⟩⟩;exact⟨_,rfl,qdY ⟨.nosquare,a0,a1,a2,a3⟩⟩;exact⟨_,rfl,qgT ⟨.ring,a0,a1,a2,a3⟩⟩) rfl rfl) XS.nil) (fun _=>rfl) rfl) (by simp only[RE.bind_assoc,RE.bind_ok])) (XE.lc (t0:=true) (fun q1=>[q0,q1]) (XI.list (XE.mth0P (F:=fun r=>F.m_told_numbers r) (cl:=(fun r=>r.k.c)) (fs:=qaF) (XE.var (i:=0) rfl h0) (fun _=>rfl)  (by intro r;obtain⟨k,a0,a1,a2,a3⟩:=r;cases k;exact⟨_,rfl,Rf.low (qcF ⟨.unlike,a0,a1,a2,a3⟩)⟩;exact⟨_,rfl,qey ⟨.total,a0,a1,a2,a3⟩⟩;exact⟨_,rfl,Rf.low (qcF ⟨.rising,a0,a1,a2,a3⟩)⟩;exact⟨_,rfl,qeT ⟨.seen,a0,a1,a2,a3⟩⟩;exact⟨_,rfl,qdV ⟨.counted,a0,a1,a2,a3⟩⟩;exact⟨_,rfl,Rf.low (qd0 ⟨.joined,a0,a1,a2,a3⟩)⟩;exact⟨_,rfl,Rf.low (qds ⟨.nosquare,a0,a1,a2,a3⟩)⟩;exact⟨_,rfl,Rf.low (qeZ ⟨.ring,a0,a1,a2,a3⟩)⟩) rfl rfl) rfl) (fun _=>.inr inferInstance) (fun _=>rfl) (fun aG q1 h1=>XTs.nil) (fun aG q1 h1 _=>(XE.pri1P (XE.var (i:=1) rfl h1) (qpH _))) rfl) (fun x y=>qka (en:=eS) x y))) rfl
 exact Rf.run rfl (key _ .non SlV.flat)
theorem qgE (ay:Int × Int × Int) (az:Option D) (bm:Option (List Nat × (List (Option Int)) × (Option Int) × (Option Int))):Rf (g__law_read [(eT3 eI eI eI) ay,(eO eD) az,(eO (eT4 eS (eL (eO eI)) (eO eI) (eO eI))) bm]) (qcG ay az bm) eB .v true:=by
 have key:∀q0 q1 q2 q3 q4 q5:Sl,SlV true ((eT3 eI eI eI) ay) q0→SlV false ((eO eD) az) q1→SlV false ((eO (eT4 eS (eL (eO eI)) (eO eI) (eO eI))) bm) q2→BR qdM qcu [q0,q1,q2,q3,q4,q5] (qcG ay az bm) eB .v true:=by
  intro q0 q1 q2 q3 q4 q5 h0 h1 h2;unfold qcG qcu;refine BR.cons (SN.asg (en:=eU) (fun q3=>[q0,q1,q2,q3,q4,q5]) XE.cnon rfl fun _=>rfl) ?_;rintro aj _ ⟨q3,rfl,h3⟩;refine BR.cons (SN.asg (en:=eU) (fun q4=>[q0,q1,q2,q3,q4,q5]) XE.cnon rfl fun _=>rfl) ?_;rintro bP _ ⟨q4,rfl,h4⟩;refine BR.cons (SN.tryA (T:=qf8) (t:=true) (XE.coeG (f:=some) (en2:=(eO eRule)) (XE.call2P rfl (XE.var (i:=0) rfl h0) (XE.coe (x:=az) (f:=(eO eD)) (en2:=eD) (XE.var (i:=1) rfl h1) (fun _=>rfl)) (qkZ ay ((eO eD) az)) rfl rfl) (fun _=>rfl)) rfl rfl rfl rfl (SlV.coe (f:=fun _=>none) h4 (fun _=>rfl)) rfl (SlV.coe (f:=fun _=>none) h3 (fun _=>rfl)) (fun q4 q3 q5=>[q0,q1,q2,q3,q4,q5]) (fun _ _=>rfl) (fun r q h=>by cases h;rfl) (by simp)) ?_;rintro p1 _ ⟨q4,q3,q5,rfl,h4,h3⟩;refine BR.ifR (XT.val (XE.isN (XE.var (i:=2) rfl h2) (fun v=>by cases v<;>rfl))) ?_ ?_
  ·refine BR.ifR (XT.bop (XTs.or (XT.val (XE.isN (XE.var (i:=4) rfl h4) (fun _=>rfl))) (XTs.or (XT.not (XT.val (XE.isc (T:=qjz) (XE.var (i:=4) rfl h4) rfl))) (XTs.one (XT.not (XT.val (XE.isc (T:=qfp) (XE.var (i:=4) rfl h4) rfl))))))) ?_ ?_
   ·exact BR.ret XE.cbl rfl
   refine BR.ifR (XT.val (XE.iscT (Ts:=[some qhQ,some qf9,some qht,some qhW,some qjX,some qje]) (XE.var (i:=4) rfl h4) rfl)) ?_ ?_
   ·exact BR.ret XE.cbl rfl
   exact BR.ret (XE.bnot (XE.iscT (Ts:=[some qji,some qjS,some qlt,some qfk]) (XE.var (i:=4) rfl h4) rfl)) rfl
  refine BR.ifR (XT.not (XT.val (XE.isikG (T:=qkW) (cl:=(fun r=>r.k.c)) (fs:=qaF) (XE.dec (f:=unO) (XE.var (i:=3) rfl h3) qmS) (fun _=>rfl) rfl))) ?_ ?_
  ·exact BR.ret XE.cbl rfl
  refine BR.ifR (XT.val (XE.cmpR (XE.tup4 (XE.mth0 (cl:=(fun r=>r.k.c)) (fs:=qaF) (XE.dec (f:=unO) (XE.var (i:=3) rfl h3) qmS) (fun _=>rfl)  (by intro r;obtain⟨k,a0,a1,a2,a3⟩:=r;cases k;exact⟨_,rfl,qfB ⟨.unlike,a0,a1,a2,a3⟩⟩;exact⟨_,rfl,qf7 ⟨.total,a0,a1,a2,a3⟩⟩;exact⟨_,rfl,qfc ⟨.rising,a0,a1,a2,a3⟩⟩;exact⟨_,rfl,qg5 ⟨.seen,a0,a1,a2,a3⟩⟩;exact⟨_,rfl,qeG ⟨.counted,a0,a1,a2,a3⟩⟩;exact⟨_,rfl,qfw ⟨.joined,a0,a1,a2,a3⟩⟩;exact⟨_,rfl,qdY ⟨.nosquare,a0,a1,a2,a3⟩⟩;exact⟨_,rfl,qgT ⟨.ring,a0,a1,a2,a3⟩⟩) rfl rfl) (XE.mth0 (cl:=(fun r=>r.k.c)) (fs:=qaF) (XE.dec (f:=unO) (XE.var (i:=3) rfl h3) qmS) (fun _=>rfl)  (by intro r;obtain⟨k,a0,a1,a2,a3⟩:=r;cases k;exact⟨_,rfl,qa7 ⟨.unlike,a0,a1,a2,a3⟩⟩;exact⟨_,rfl,qa7 ⟨.total,a0,a1,a2,a3⟩⟩;exact⟨_,rfl,qa7 ⟨.rising,a0,a1,a2,a3⟩⟩;exact⟨_,rfl,qa7 ⟨.seen,a0,a1,a2,a3⟩⟩;exact⟨_,rfl,qa7 ⟨.counted,a0,a1,a2,a3⟩⟩;exact⟨_,rfl,qa7 ⟨.joined,a0,a1,a2,a3⟩⟩;exact⟨_,rfl,qa7 ⟨.nosquare,a0,a1,a2,a3⟩⟩;exact⟨_,rfl,qa7 ⟨.ring,a0,a1,a2,a3⟩⟩) rfl rfl) (XE.mth0 (cl:=(fun r=>r.k.c)) (fs:=qaF) (XE.dec (f:=unO) (XE.var (i:=3) rfl h3) qmS) (fun _=>rfl)  (by intro r;obtain⟨k,a0,a1,a2,a3⟩:=r;cases k;exact⟨_,rfl,qaf ⟨.unlike,a0,a1,a2,a3⟩⟩;exact⟨_,rfl,qaf ⟨.total,a0,a1,a2,a3⟩⟩;exact⟨_,rfl,qaf ⟨.rising,a0,a1,a2,a3⟩⟩;exact⟨_,rfl,qaf ⟨.seen,a0,a1,a2,a3⟩⟩;exact⟨_,rfl,qaf ⟨.counted,a0,a1,a2,a3⟩⟩;exact⟨_,rfl,qaf ⟨.joined,a0,a1,a2,a3⟩⟩;exact⟨_,rfl,qaf ⟨.nosquare,a0,a1,a2,a3⟩⟩;exact⟨_,rfl,qaf ⟨.ring,a0,a1,a2,a3⟩⟩) rfl rfl) (XE.mth0 (cl:=(fun r=>r.k.c)) (fs:=qaF) (XE.dec (f:=unO) (XE.var (i:=3) rfl h3) qmS) (fun _=>rfl)  (by intro r;obtain⟨k,a0,a1,a2,a3⟩:=r;cases k;exact⟨_,rfl,qai ⟨.unlike,a0,a1,a2,a3⟩⟩;exact⟨_,rfl,qai ⟨.total,a0,a1,a2,a3⟩⟩;exact⟨_,rfl,qai ⟨.rising,a0,a1,a2,a3⟩⟩;exact⟨_,rfl,qai ⟨.seen,a0,a1,a2,a3⟩⟩;exact⟨_,rfl,qai ⟨.counted,a0,a1,a2,a3⟩⟩;exact⟨_,rfl,qai ⟨.joined,a0,a1,a2,a3⟩⟩;exact⟨_,rfl,qai ⟨.nosquare,a0,a1,a2,a3⟩⟩;exact⟨_,rfl,qai ⟨.ring,a0,a1,a2,a3⟩⟩) rfl rfl) rfl) (XE.var (i:=2) rfl h2) (fun x=>(qrU .ne ((eT4 eS (eL eI) eI eI)) ((eO (eT4 eS (eL (eO eI)) (eO eI) (eO eI))))) x _))) ?_ ?_
  ·exact BR.ret XE.cbl rfl
  exact BR.ret (XE.bop (XV.and (XE.call1 rfl (XE.mth0 (cl:=(fun r=>r.k.c)) (fs:=qaF) (XE.dec (f:=unO) (XE.var (i:=3) rfl h3) qmS) (fun _=>rfl)  (by intro r;obtain⟨k,a0,a1,a2,a3⟩:=r;cases k;exact⟨_,rfl,qaf ⟨.unlike,a0,a1,a2,a3⟩⟩;exact⟨_,rfl,qaf ⟨.total,a0,a1,a2,a3⟩⟩;exact⟨_,rfl,qaf ⟨.rising,a0,a1,a2,a3⟩⟩;exact⟨_,rfl,qaf ⟨.seen,a0,a1,a2,a3⟩⟩;exact⟨_,rfl,qaf ⟨.counted,a0,a1,a2,a3⟩⟩;exact⟨_,rfl,qaf ⟨.joined,a0,a1,a2,a3⟩⟩;exact⟨_,rfl,qaf ⟨.nosquare,a0,a1,a2,a3⟩⟩;exact⟨_,rfl,qaf ⟨.ring,a0,a1,a2,a3⟩⟩) rfl rfl) (fun x0=>qf3 x0) rfl rfl) (XV.and (XE.call1 rfl (XE.mth0 (cl:=(fun r=>r.k.c)) (fs:=qaF) (XE.dec (f:=unO) (XE.var (i:=3) rfl h3) qmS) (fun _=>rfl)  (by intro r;obtain⟨k,a0,a1,a2,a3⟩:=r;cases k;exact⟨_,rfl,qai ⟨.unlike,a0,a1,a2,a3⟩⟩;exact⟨_,rfl,qai ⟨.total,a0,a1,a2,a3⟩⟩;exact⟨_,rfl,qai ⟨.rising,a0,a1,a2,a3⟩⟩;exact⟨_,rfl,qai ⟨.seen,a0,a1,a2,a3⟩⟩;exact⟨_,rfl,qai ⟨.counted,a0,a1,a2,a3⟩⟩;exact⟨_,rfl,qai ⟨.joined,a0,a1,a2,a3⟩⟩;exact⟨_,rfl,qai ⟨.nosquare,a0,a1,a2,a3⟩⟩;exact⟨_,rfl,qai ⟨.ring,a0,a1,a2,a3⟩⟩) rfl rfl) (fun x0=>qf3 x0) rfl rfl) (XV.one (XE.cmpR (XE.mth0 (cl:=(fun r=>r.k.c)) (fs:=qaF) (XE.dec (f:=unO) (XE.var (i:=3) rfl h3) qmS) (fun _=>rfl)  (by intro r;obtain⟨k,a0,a1,a2,a3⟩:=r;cases k;exact⟨_,rfl,qbk ⟨.unlike,a0,a1,a2,a3⟩⟩;exact⟨_,rfl,qbk ⟨.total,a0,a1,a2,a3⟩⟩;exact⟨_,rfl,qbk ⟨.rising,a0,a1,a2,a3⟩⟩;exact⟨_,rfl,qbk ⟨.seen,a0,a1,a2,a3⟩⟩;exact⟨_,rfl,qbk ⟨.counted,a0,a1,a2,a3⟩⟩;exact⟨_,rfl,qbk ⟨.joined,a0,a1,a2,a3⟩⟩;exact⟨_,rfl,qbk ⟨.nosquare,a0,a1,a2,a3⟩⟩;exact⟨_,rfl,qbk ⟨.ring,a0,a1,a2,a3⟩⟩) rfl rfl) (XE.var (i:=1) rfl h1) (fun x=>(qrU .eq (eS) ((eO eD))) x _)))))) rfl
 exact Rf.run rfl (key _ _ _ .non .non .non SlV.flat SlV.any SlV.any)
theorem qvr (aD:List Int):Rf (g_law [(eL eI) aD]) (qnP aD) eB .v true:=by
 have key:∀q0 q1 q2 q3:Sl,SlV false ((eL eI) aD) q0→BR qpQ qnv [q0,q1,q2,q3] (qnP aD) eB .v true:=by
  intro q0 q1 q2 q3 h0;unfold qnP qnv;refine BR.cons (SN.asg (en:=(eT3 eI eI eI)) (fun q1=>[q0,q1,q2,q3]) (XE.call1 rfl (XE.call2P rfl (XE.var (i:=0) rfl h0) XE.cint (qcP aD 400) rfl rfl) (fun x0=>qjb x0) rfl rfl) rfl fun _=>rfl) ?_;rintro ay _ ⟨q1,rfl,h1⟩;refine BR.consF (S:=(fun(st:Unit) ρ=>∃q2 q3,ρ=[q0,q1,q2,q3])) (SF.for1 (t0:=true) _ (XI.rng (XRg.r1P (XE.pri2P XE.cint (XE.binP XE.cint (XE.binP (XE.pri1P (XE.var (i:=0) rfl h0) (qdZ _)) XE.cint (qbF _ _ rfl)) (qde _ _)) (qut _ _)))) (fun _=>.inl rfl) ⟨_,_,rfl⟩ ?_) ?_
  ·intro bz s11 ρ1 q2 hS h2;obtain⟨_,q3,rfl⟩:=hS;change BF _ _ [q0,q1,q2,q3] _ _ _;refine BF.cons (SN.asg (en:=eS) (fun q3=>[q0,q1,q2,q3]) (XE.call3P rfl (XE.var (i:=0) rfl h0) (XE.binP XE.cint (XE.binP XE.cint (XE.var (i:=2) rfl h2) (qj3 _ _ (qjx rfl))) (qde _ _)) (XE.var (i:=1) rfl h1) (qmN aD (500+(40*bz)) ay) rfl rfl) rfl fun _=>rfl) ?_;rintro az _ ⟨q3,rfl,h3⟩;refine BF.cons (SN.asg (en:=(eO eD)) (fun q3=>[q0,q1,q2,q3]) (XE.call2 rfl (XE.var (i:=3) rfl h3) (XE.call2P rfl (XE.var (i:=0) rfl h0) (XE.binP XE.cint (XE.binP XE.cint (XE.var (i:=2) rfl h2) (qj3 _ _ (qjx rfl))) (qde _ _)) (qcP aD (530+(40*bz))) rfl rfl) (fun x0 x1=>qhx x0 x1) rfl rfl) rfl fun _=>rfl) ?_;rintro az _ ⟨q3,rfl,h3⟩;refine BF.ifX (XT.not (XT.val (XE.call3 rfl (XE.var (i:=1) rfl h1) (XE.var (i:=3) rfl h3) (XE.call2P rfl (XE.var (i:=1) rfl h1) (XE.var (i:=3) rfl h3) (qmD ay az) rfl rfl) (fun x0 x1 x2=>qgE x0 x1 x2) rfl rfl))) ?_ ?_
   ·exact BR.XP (BR.ret XE.cbl rfl)
   refine BF.ifX (XT.not (XT.val (XE.call3P rfl (XE.var (i:=1) rfl h1) (XE.coe (x:=[114,105,115,105,110,103,32,48]) (f:=fun x=>some ((eS) x)) (en2:=(eO eD)) XE.cstr (qbv (f:=eS) (fun _=>rfl))) (XE.coe (x:=(([114,105,115,105,110,103],[0],0,0):List Nat × (List Int) × Int × Int)) (f:=fun x=>some ((fun(p:List Nat × (List Int) × Int × Int)=>(p.1,(List.map (some)) p.2.1,some p.2.2.1,some p.2.2.2)) x)) (en2:=(eO (eT4 eS (eL (eO eI)) (eO eI) (eO eI)))) (show XE _ _ _ (RE.ok (([114,105,115,105,110,103],[0],0,0):List Nat × (List Int) × Int × Int)) (eT4 eS (eL eI) eI eI) _ _ from(XE.tup4P XE.cstr (XE.lstL (en:=eI) (XLs.cons XE.cint rfl XLs.nil)) XE.cint XE.cint rfl)) (qbv (f:=fun(p:List Nat × (List Int) × Int × Int)=>(p.1,(List.map (some)) p.2.1,some p.2.2.1,some p.2.2.2)) (fun p=>qnb (e0:=eS) (f0:=eS) (e1:=(eL eI)) (f1:=(eL (eO eI))) (e2:=eI) (f2:=(eO eI)) (e3:=eI) (f3:=(eO eI)) (g0:=(fun x=>x)) (g1:=List.map (some)) (g2:=some) (g3:=some) (fun _=>rfl) (qqt (fun _=>rfl)) (fun _=>rfl) (fun _=>rfl) p))) (qgE ay ((fun x=>some ((eS) x)) ([114,105,115,105,110,103,32,48])) ((fun x=>some ((fun(p:List Nat × (List Int) × Int × Int)=>(p.1,(List.map (some)) p.2.1,some p.2.2.1,some p.2.2.2)) x)) (([114,105,115,105,110,103],[0],0,0):List Nat × (List Int) × Int × Int))) rfl rfl))) ?_ ?_
   ·exact BR.XP (BR.ret XE.cbl rfl)
   exact BF.nil ⟨_,_,rfl⟩
  rintro p23 _ ⟨q2,q3,rfl⟩;exact BR.ret XE.cbl rfl
 exact Rf.run rfl (key _ .non .non .non SlV.any)
end K18
namespace K18
open Cm
theorem qwn {α:Type} {xs:List α} {m:Int} (h:0≤m):qdu xs none (some m)=xs.take m.toNat:=by
 have h1:HT.sIx xs.length 0 none=0:=by simp[HT.sIx]
 have h2:HT.sIx xs.length xs.length (some m)=min m.toNat xs.length:=by
  have:=HT.sIx_nat xs.length xs.length m.toNat
  rwa [show((m.toNat:Nat):Int)=m by omega] at this
 unfold qdu
 rw[h1,h2,List.drop_zero,Nat.sub_zero]
 rcases Nat.le_total m.toNat xs.length with q | q
 ·rw[Nat.min_eq_left q]
 ·rw[Nat.min_eq_right q,List.take_length,List.take_of_length_le q]
def mv (ns:List Int) (k:Int):Int:=match qcw ns k with
 |.ok v=>v
 |_=>0
theorem qo7 (ns:List Int) (hn:ns.length≤63) {k:Int} (h0:0≤k) (h1:k≤1000):qcw ns k=.ok (mv ns k)∧0≤mv ns k:=by
 have key:W (qcw ns k) fun v=>0≤v:=by
  unfold qcw
  rw[qqs (by omega)]
  simp only[RE.bind_ok,qub]
  by_cases e:(0:Int)<(ns.length:Int)
  ·rw[if_pos e,qcL (by omega)]
   have b:=qbQ k (n:=(ns.length:Int)) e
   simp only[RE.bind_ok]
   rw[qpL b.1 b.2]
   simp only[RE.bind_ok]
   rw[qrX (by decide) (by decide) (by decide)]
   simp only[RE.bind_ok]
   rw[qcL (by decide)]
   simp only[RE.bind_ok]
   rw[qq6 (by omega) (by omega)]
   simp only[RE.bind_ok]
   have q:0≤k.fdiv (ns.length:Int)∧k.fdiv (ns.length:Int)≤1000:=by
    rw[qju e]
    exact⟨Int.ediv_nonneg h0 (by omega),Int.le_trans (Int.ediv_le_self _ h0) h1⟩
   rw[quE (by omega)]
   simp only[RE.bind_ok]
   exact W.ok (qbQ _ (by decide)).1
  ·rw[if_neg e]
   simp only[RE.bind_ok]
   exact W.ok (qbQ _ (by decide)).1
 obtain⟨v,e,h⟩:=key
 have:mv ns k=v:=by unfold mv;rw[e]
 rw[this]
 exact⟨e,h⟩
theorem qo4 (ns:List Int) (hn:ns.length≤63) {a m c:Int} (a0:0≤a) (a1:a≤960) (c0:0≤c) (c1:c≤m) (m16:m≤16):∃cs,qe6 ns a m c=.ok cs∧(cs.length:Int)=c∧cs.Nodup∧∀x∈cs,0≤x∧x<m:=by
 suffices h:W (qe6 ns a m c) fun cs=>(cs.length:Int)=c∧cs.Nodup∧∀x∈cs,0≤x∧x<m by
  obtain⟨v,e,h⟩:=h;exact⟨v,e,h⟩
 unfold qe6
 rw[qfu (by omega) (by omega),qfu (by omega) (by omega)]
 simp only[RE.bind_ok]
 refine W.bind (qnt (n:=m.toNat) (k:=c.toNat) (by omega) (by omega) fun i s hi hl=>?_) fun s ⟨h1,h2,h3⟩=>W.ok ⟨by omega,h2,fun x hx=>by have:=h3 x hx;omega⟩
 have b:=qbQ (mv ns (a+(i:Int))) (n:=(s.1.length:Int)) (by omega)
 refine⟨(mv ns (a+(i:Int))).fmod (s.1.length:Int),b.1,b.2,?_⟩
 rw[(qo7 ns hn (k:=a+(i:Int)) (by omega) (by omega)).1]
 simp only[RE.bind_ok]
 rw[qcL (by omega)]
 rfl
end K18
namespace K18
open Cm
abbrev spW (t:List Nat):List (List Nat):=TL.spl [32] 0 [] t
theorem seg (t:List Nat):(32∉t∧spW t=[t])∨∃p r,t=p++32::r∧32∉p∧spW t=p::spW r:=by
 by_cases h:32∈t
 ·obtain⟨p,r,e,hp⟩:=List.eq_append_cons_of_mem h
  exact .inr ⟨p,r,e,hp,by rw[e];exact TL.spl_part1 (S:=[]) (acc:=[]) hp⟩
 ·exact .inl ⟨h,TL.spl_last1 (S:=[]) (acc:=[]) h⟩
theorem qgJ (a:List Nat) {ws:List (List Nat)} (h:ws≠[]):TL.joinL [32] (a::ws)=a++32::TL.joinL [32] ws:=by
 rw[qmK a h];rfl
structure Wds (t:List Nat) (ws:List (List Nat)):Prop where
 ne:ws≠[]
 j:TL.joinL [32] ws=t
 w:∀w∈ws,w.length≤t.length∧∀c∈w,c∈t
 l:ws.length≤t.length+1
theorem wds:∀(n:Nat) (t:List Nat),t.length≤n→Wds t (spW t)
 |0,t,h=>by
  have:t=[]:=List.eq_nil_of_length_eq_zero (by omega)
  subst this
  exact⟨by decide,rfl,fun w hw=>by rw[show spW []=[[]] from rfl] at hw;rw[List.mem_singleton.mp hw];exact⟨Nat.le_refl _,fun c hc=>hc⟩,by decide⟩
 |n+1,t,h=>by
  rcases seg t with⟨h1,h2⟩ | ⟨p,r,e,h1,h2⟩
  ·rw[h2]
   exact⟨by simp,rfl,fun w hw=>by rw[List.mem_singleton.mp hw];exact⟨Nat.le_refl _,fun c hc=>hc⟩,by simp⟩
  ·have rl:r.length≤n:=by rw[e,List.length_append,List.length_cons] at h;omega
   have ih:=wds n r rl
   rw[h2]
   refine⟨by simp,by rw[qgJ p ih.ne,ih.j,e],fun w hw=>?_,?_⟩
   ·rcases List.mem_cons.mp hw with q | q
    ·rw[q,e]
     exact⟨by rw[List.length_append];omega,fun c hc=>List.mem_append_left _ hc⟩
    ·have:=ih.w w q
     rw[e]
     exact⟨by rw[List.length_append,List.length_cons];omega,fun c hc=>List.mem_append_right _ (List.mem_cons_of_mem _ (this.2 c hc))⟩
   ·have:=ih.l
    rw[e,List.length_cons,List.length_append,List.length_cons]
    omega
theorem qnU {t:List Nat} (h:t.length≤10000):qhd t [32]=.ok (spW t):=qmg (by omega) (by decide) (by decide) rfl
def dgt (c:Nat):Bool:=decide (c∈[48,49,50,51,52,53,54,55,56,57])
theorem qi1 {c:Nat}:dgt c=true↔48≤c∧c≤57:=by
 unfold dgt
 rw[decide_eq_true_eq]
 simp only[List.mem_cons,List.not_mem_nil,or_false]
 omega
def nmO (w:List Nat):Option Int:=match w with
 |[a]=>if dgt a=true then some ((a:Int) - 48) else none
 |[a,b]=>if (dgt a&&dgt b && !decide (a=48))=true then some (10*((a:Int) - 48)+((b:Int) - 48)) else none
 |_=>none
theorem qrf (a:Nat):nmO [a]=if dgt a=true then some ((a:Int) - 48) else none:=rfl
theorem qn4 (a b:Nat):nmO [a,b]=if (dgt a&&dgt b && !decide (a=48))=true then some (10*((a:Int) - 48)+((b:Int) - 48)) else none:=rfl
theorem qr6 {w:List Nat} {n:Int} (h:nmO w=some n):w=dgI n∧0≤n∧n<100:=by
 unfold nmO at h
 split at h
 ·split at h
  ·rename_i a q
   cases h
   have q:=qi1.mp q
   refine⟨?_,by omega,by omega⟩
   unfold dgI dg
   rw[if_pos (by omega)]
   congr 1
   omega
  ·cases h
 ·split at h
  ·rename_i a b q
   cases h
   simp only[Bool.and_eq_true,Bool.not_eq_true',decide_eq_false_iff_not] at q
   obtain⟨⟨q1,q2⟩,q3⟩:=q
   have q1:=qi1.mp q1
   have q2:=qi1.mp q2
   refine⟨?_,by omega,by omega⟩
   unfold dgI dg
   rw[if_neg (by omega)]
   congr 1
   ·omega
   ·congr 1;omega
  ·cases h
 ·cases h
theorem qly:∀(w:List Nat),qam (fun(ak:Nat) (s13:Unit)=>if (!decide (ak∈([48,49,50,51,52,53,54,55,56,57])))=true then (RE.exc 33 []:RE Unit) else (RE.ok ())) w ()=if w.all dgt=true then .ok () else .exc 33 []
 |[]=>rfl
 |c::w=>by
  unfold qam
  rw[List.all_cons]
  show(if (!dgt c)=true then (RE.exc 33 []:RE Unit) else (RE.ok ())).bind _=_
  cases dgt c with
  |true =>
   simp only[RE.bind_ok,Bool.not_true,Bool.false_eq_true,if_false,Bool.true_and]
   exact qly w
  |false=>rfl
theorem qjZ {w:List Nat} (h:w.length≤10000):F.number_of w=match nmO w with
  |some n=>.ok n
  |none=>.exc 33 []:=by
 cases e:nmO w with
 |some n =>
  obtain⟨rfl,n0,n1⟩:=qr6 e
  exact qnJ n0 n1
 |none =>
  have len:qfM w=.ok (w.length:Int):=qgt (ql9 (by have:LIM=16777216:=rfl;omega))
  unfold F.number_of
  simp only[RE.bind_ok]
  rw[qly,len]
  match w,e,len with
  |[],_,_=>rfl
  |[a],e,len =>
   have na:dgt a=false:=by
    rw[qrf] at e
    cases q:dgt a with
    |false=>rfl
    |true=>rw[q] at e;cases e
   have a0:decide ([a]=[48])=false:=decide_eq_false fun q=>by
    cases q
    revert na;decide
   rw[show qoR [a] 0=.ok a from rfl]
   simp only[RE.bind_ok]
   rw[a0,List.all_cons,na]
   rfl
  |[a,b],e,len =>
   rw[show qoR [a,b] 0=.ok a from rfl,List.all_cons,List.all_cons]
   by_cases a0:a=48
   ·subst a0
    rfl
   ·have a0':decide ([a]=[48])=false:=decide_eq_false fun q=>by cases q;exact a0 rfl
    have nab:(dgt a&&(dgt b&&[].all dgt))=false:=by
     rw[qn4] at e
     cases q:dgt a&&dgt b with
     |false=>cases qa:dgt a with
      |false=>rfl
      |true=>rw[qa] at q;simp at q;rw[q];rfl
     |true=>rw[q,decide_eq_false a0] at e;cases e
    simp only[RE.bind_ok]
    rw[a0',nab]
    rfl
  |a::b::c::w,e,len =>
   have h3:decide (((a::b::c::w).length:Int)≤2)=false:=decide_eq_false (by simp only[List.length_cons];omega)
   have h1:decide ((1:Int)≤((a::b::c::w).length:Int))=true:=decide_eq_true (by simp only[List.length_cons];omega)
   simp only[RE.bind_ok,h1,h3,if_true,Bool.not_false]
theorem qte:∀c<58,48≤c→isI (qmH [48,49,50,51,52,53,54,55,56,57] [c]) (c - 48)=true:=by decide +kernel
theorem qrE {c:Nat} (h:dgt c=true):qmH [48,49,50,51,52,53,54,55,56,57] [c]=.ok ((c:Int) - 48):=by
 have q:=qi1.mp h
 rw[qn6 (qte c (by omega) q.1)]
 congr 1
 omega
theorem que {w:List Nat} (h:w.length≤10000):qeu w=.ok (nmO w):=by
 have len:qfM w=.ok (w.length:Int):=qgt (ql9 (by have:LIM=16777216:=rfl;omega))
 unfold qeu
 simp only[RE.bind_ok]
 rw[len,gdl (by omega)]
 simp only[RE.bind_ok]
 have fil:(w.filter fun c=>!decide (c∈[48,49,50,51,52,53,54,55,56,57]))=w.filter fun c=>!dgt c:=rfl
 rw[fil]
 match w,len with
 |[],_=>rfl
 |[a],len =>
  rw[show decide ((([a]:List Nat).length:Int)=0)=false from rfl]
  simp only[Bool.false_eq_true,if_false]
  cases q:dgt a with
  |false =>
   have:([a].filter fun c=>!dgt c)=[a]:=by simp[q]
   rw[this]
   have e:nmO [a]=none:=by rw[qrf,q];rfl
   rw[e];rfl
  |true =>
   have:([a].filter fun c=>!dgt c)=[]:=by simp[q]
   rw[this]
   have e:nmO [a]=some ((a:Int) - 48):=by rw[qrf,q];rfl
   rw[e]
   simp only[qam]
   rw[qrE q]
   simp
 |[a,b],len =>
  rw[show decide ((([a,b]:List Nat).length:Int)=0)=false from rfl]
  simp only[Bool.false_eq_true,if_false]
  rw[show qoR [a,b] 0=.ok a from rfl]
  cases q:dgt a with
  |false =>
   have e:nmO [a,b]=none:=by rw[qn4,q];rfl
   have:0<(([a,b].filter fun c=>!dgt c).length):=List.length_pos_iff.mpr fun z=>by
    have:=List.filter_eq_nil_iff.mp z a (by simp)
    rw[q] at this;simp at this
   rw[e,decide_eq_true (show(0:Int)<(([a,b].filter fun c=>!dgt c).length:Int) by omega)]
   rfl
  |true =>
   cases q2:dgt b with
   |false =>
    have e:nmO [a,b]=none:=by rw[qn4,q,q2];rfl
    have:0<(([a,b].filter fun c=>!dgt c).length):=List.length_pos_iff.mpr fun z=>by
     have:=List.filter_eq_nil_iff.mp z b (by simp)
     rw[q2] at this;simp at this
    rw[e,decide_eq_true (show(0:Int)<(([a,b].filter fun c=>!dgt c).length:Int) by omega)]
    rfl
   |true =>
    have:([a,b].filter fun c=>!dgt c)=[]:=by simp[q,q2]
    rw[this]
    by_cases a0:a=48
    ·subst a0
     have e:nmO [48,b]=none:=by rw[qn4,q2];rfl
     rw[e];rfl
    ·have e:nmO [a,b]=some (10*((a:Int) - 48)+((b:Int) - 48)):=by rw[qn4,q,q2,decide_eq_false a0];rfl
     have a0':decide ([a]=[48])=false:=decide_eq_false fun q=>by cases q;exact a0 rfl
     rw[e]
     simp only[RE.bind_ok]
     rw[a0']
     simp only[qam]
     rw[qrE q,qrE q2]
     simp
 |a::b::c::w,len =>
  rw[show nmO (a::b::c::w)=none from rfl]
  have h2:decide ((2:Int)<((a::b::c::w).length:Int))=true:=decide_eq_true (by simp only[List.length_cons];omega)
  have h0:decide (((a::b::c::w).length:Int)=0)=false:=decide_eq_false (by simp only[List.length_cons];omega)
  simp only[h0,h2,RE.bind_ok,Bool.false_eq_true,if_false,if_true]
  split<;>rfl
end K18
namespace K18
open Cm
def nmI (w:List Nat):Int:=(nmO w).getD 0
theorem qr9 (w:List Nat):0≤nmI w∧nmI w<100:=by
 unfold nmI
 cases e:nmO w with
 |none=>decide
 |some n=>exact(qr6 e).2
def csB (fl:Int × Int × Int) (N:List Int):Bool:=decide (N≠[]∧N.Nodup∧∀c∈N,c<nC fl)
def sgB (fl:Int × Int × Int) (s:Int):Bool:=decide (1≤s)&&decide (s≤fl.2.2)
def qs4 (w:List Nat):Option RK:=[RK.unlike,.total,.rising,.seen,.counted,.joined,.nosquare,.ring].find? fun k=>decide (k.w=w)
theorem qox (k:RK):qs4 k.w=some k:=by cases k<;>rfl
theorem qkj {w:List Nat} {k:RK} (h:qs4 w=some k):k.w=w:=by
 have:=List.find?_some h
 exact of_decide_eq_true this
def qpq (fl:Int × Int × Int) (w:List Nat) (N:List Int):Option RuleT:=match qs4 w with
 |none=>none
 |some .unlike=>if csB fl N=true then some ⟨.unlike,fl,N,0,0⟩ else none
 |some .rising=>if csB fl N=true then some ⟨.rising,fl,N,0,0⟩ else none
 |some .total=>if csB fl (N.drop 1)=true then some ⟨.total,fl,N.drop 1,gI N 0,0⟩ else none
 |some .seen=>if csB fl (N.drop 1)=true then some ⟨.seen,fl,N.drop 1,gI N 0,0⟩ else none
 |some .counted=>if (decide (1<N.length)&&sgB fl (gI N 1)&&csB fl (N.drop 2))=true then some ⟨.counted,fl,N.drop 2,gI N 0,gI N 1⟩ else none
 |some k=>if (decide (N.length=1)&&sgB fl (gI N 0))=true then some ⟨k,fl,qeD (nC fl).toNat,0,gI N 0⟩ else none
def qpp (fl:Int × Int × Int) (t:List Nat):Option RuleT:=match spW t with
 |[]=>none
 |w::ws=>if (ws.all fun x=>(nmO x).isSome)=true then qpq fl w (ws.map nmI) else none
section
variable {fl:Int × Int × Int} {N:List Int}
theorem qdE (hf:FOk fl) (hN:∀n∈N,0≤n):csB fl N=true↔CsOk fl N:=by
 unfold csB
 rw[decide_eq_true_eq]
 exact⟨fun⟨a,b,c⟩=>⟨a,b,fun x h=>⟨hN x h,c x h⟩⟩,fun h=>⟨h.ne,h.nd,fun c hc=>(h.inn c hc).2⟩⟩
theorem qnj:∀{xs:List Int} {x:Int},x∈xs→x≤qhM xs
 |[y],x,h=>by rw[List.mem_singleton.mp h];exact Int.le_refl _
 |y::z::r,x,h=>by
  show x≤max y (qhM (z::r))
  rcases List.mem_cons.mp h with q | q
  ·omega
  ·have:=qnj q;omega
theorem qbV (hf:FOk fl) (hN:∀n∈N,0≤n) (hl:N.length≤1000):F.cells_told fl N=if csB fl N=true then .ok N else .exc 33 []:=by
 by_cases q:csB fl N=true
 ·rw[if_pos q,qiT hf ((qdE hf hN).mp q)]
 ·rw[if_neg q]
  unfold F.cells_told
  by_cases e:N=[]
  ·rw[decide_eq_true e];rfl
  ·rw[decide_eq_false e,qiL hl]
   simp only[RE.bind_ok,Bool.false_eq_true,if_false]
   by_cases nd:N.Nodup
   ·rw[qha nd,decide_eq_true rfl]
    have mx:qmm N=.ok (qhM N):=by
     cases N with
     |nil=>exact absurd rfl e
     |cons _ _=>rfl
    have big:∃c∈N,nC fl≤c:=Classical.byContradiction fun z=>q (by
     unfold csB
     exact decide_eq_true ⟨e,nd,fun c hc=>Classical.byContradiction fun k=>z ⟨c,hc,by omega⟩⟩)
    obtain⟨c,hc,hb⟩:=big
    have:=qnj hc
    rw[mx,qfK hf]
    simp only[RE.bind_ok,Bool.not_true,Bool.false_eq_true,if_false]
    rw[decide_eq_true (by omega)]
    rfl
   ·have ne:¬(qlD N:Int)=(N.length:Int):=fun z=>nd ((qiK N).mp (by omega))
    rw[decide_eq_false ne]
    rfl
theorem qfY {k:Int} (h0:0≤k):F.sign_told fl N k=if (decide (k<N.length)&&sgB fl (gI N k))=true then .ok (gI N k) else .exc 33 []:=by
 unfold F.sign_told
 by_cases q:k<N.length
 ·rw[decide_eq_true q,decide_eq_false (show ¬(N.length:Int)≤k by omega)]
  have a:=qpL h0 q
  rw[a]
  simp only[RE.bind_ok,Bool.false_eq_true,if_false,Bool.true_and]
  unfold sgB
  cases decide (1≤gI N k) with
  |false=>rfl
  |true =>
   simp only[if_true,Bool.true_and,RE.bind_ok]
   cases decide (gI N k≤fl.2.2)<;>rfl
 ·rw[decide_eq_false q,decide_eq_true (show(N.length:Int)≤k by omega)]
  rfl
theorem qiJ (hf:FOk fl) {k:RK} (hk:k=.joined∨k=.nosquare∨k=.ring):F.whole_rule fl k.w N=if (decide (N.length=1)&&sgB fl (gI N 0))=true then .ok ⟨k,fl,qeD (nC fl).toNat,0,gI N 0⟩ else .exc 33 []:=by
 have n1:=hf.n1
 have n16:=qoZ hf
 unfold F.whole_rule
 by_cases q:N.length=1
 ·rw[decide_eq_true q,decide_eq_true (show(N.length:Int)=1 by omega)]
  simp only[RE.bind_ok,Bool.not_true,Bool.false_eq_true,if_false,Bool.true_and]
  rw[qfY (by decide),decide_eq_true (show(0:Int)<N.length by omega),Bool.true_and]
  cases sgB fl (gI N 0) with
  |false=>rfl
  |true =>
   simp only[if_true,RE.bind_ok]
   rw[qfK hf]
   simp only[RE.bind_ok]
   rw[qfu (by omega) (by omega)]
   simp only[RE.bind_ok]
   rcases hk with rfl | rfl | rfl<;>rfl
 ·rw[decide_eq_false q,decide_eq_false (show ¬(N.length:Int)=1 by omega)]
  rfl
theorem at0 (h:N≠[]):atE N 0=.ok (gI N 0):=qpL (by decide) (by have:=List.length_pos_iff.mpr h;omega)
theorem qog:∀{ws:List (List Nat)},(∀w∈ws,w.length≤10000)→qmj (fun(aJ:List Nat)=>(RE.ok true)) (fun(aJ:List Nat)=>(F.number_of aJ)) ws=if (ws.all fun x=>(nmO x).isSome)=true then .ok (ws.map nmI) else .exc 33 []
 |[],_=>rfl
 |w::ws,h=>by
  have hw:=h w (by simp)
  unfold qmj
  rw[qjZ hw,qog fun x hx=>h x (List.mem_cons_of_mem _ hx),List.all_cons]
  unfold nmI
  cases e:nmO w with
  |none=>rfl
  |some n =>
   simp only[RE.bind_ok,if_true,Option.isSome_some,Bool.true_and,List.map_cons,e,Option.getD_some]
   split<;>rfl
theorem qoE:∀{ws:List (List Nat)},(ws.all fun x=>(nmO x).isSome)=true→ws.map nmO=(ws.map nmI).map some
 |[],_=>rfl
 |w::ws,h=>by
  rw[List.all_cons,Bool.and_eq_true] at h
  rw[List.map_cons,List.map_cons,List.map_cons,qoE h.2]
  unfold nmI
  cases e:nmO w with
  |none=>rw[e] at h;cases h.1
  |some n=>rfl
def L8:List (List Nat):=[[117,110,108,105,107,101],[115,117,109],[114,105,115,105,110,103],[115,101,101,110],[99,111,117,110,116],[106,111,105,110,101,100],[110,111,115,113,117,97,114,101],[114,105,110,103]]
theorem l8 {w:List Nat}:w∈L8↔∃k:RK,w=k.w:=by
 constructor
 ·intro h
  unfold L8 at h
  simp only[List.mem_cons,List.not_mem_nil,or_false] at h
  rcases h with h | h | h | h | h | h | h | h
  ·exact⟨.unlike,h⟩
  ·exact⟨.total,h⟩
  ·exact⟨.rising,h⟩
  ·exact⟨.seen,h⟩
  ·exact⟨.counted,h⟩
  ·exact⟨.joined,h⟩
  ·exact⟨.nosquare,h⟩
  ·exact⟨.ring,h⟩
 ·rintro⟨k,rfl⟩
  cases k<;>decide
theorem qjp {w:List Nat} (h:w∉L8):qs4 w=none:=by
 cases e:qs4 w with
 |none=>rfl
 |some k=>exact absurd (l8.mpr ⟨k,(qkj e).symm⟩) h
theorem W3 (k:RK):qj7 k.w [[106,111,105,110,101,100],[110,111,115,113,117,97,114,101],[114,105,110,103]]=.ok (qd9 k):=by
 rw[qd7 (qtH k) (by decide)]
 cases k<;>rfl
def qw7 (fl:Int × Int × Int) (w:List Nat) (N:List Int):RE RuleT:=match qpq fl w N with
 |some r=>.ok r
 |none=>.exc 33 []
theorem qnD (hf:FOk fl) {t:List Nat} (ht:t.length≤1000) (hc:∀c∈t,c<256):F.read_rule fl (.str t)=match qpp fl t with
  |some r=>.ok r
  |none=>.exc 33 []:=by
 have hw:=wds _ t (Nat.le_refl _)
 have e1:tyE (eD (.str t)) .str=.ok true:=rfl
 have e2:dS (.str t)=.ok t:=rfl
 unfold F.read_rule qpp
 rw[e1]
 simp only[RE.bind_ok,Bool.not_true,Bool.false_eq_true,if_false]
 rw[e2]
 simp only[RE.bind_ok]
 rw[qnU (by omega)]
 obtain⟨ne,_,hww,hl⟩:=hw
 cases hs:spW t with
 |nil=>exact absurd hs ne
 |cons w ws =>
  rw[hs] at hww hl
  rw[List.length_cons] at hl
  have wc:∀c∈w,c<256:=fun c h=>hc c ((hww w (by simp)).2 c h)
  simp only[RE.bind_ok]
  rw[show atE (w::ws) 0=.ok w from qkP]
  simp only[RE.bind_ok]
  have n8:qn5 w L8=.ok (!decide (w∈L8)):=by
   unfold qn5
   rw[qd7 wc (by decide)]
   rfl
  unfold L8 at n8
  rw[n8]
  simp only[RE.bind_ok]
  rw[qvB,gdl (by omega),qog fun x hx=>by have:=(hww x (List.mem_cons_of_mem _ hx)).1;omega]
  by_cases q:w∈L8
  ·obtain⟨k,rfl⟩:=l8.mp q
   unfold L8 at q
   rw[decide_eq_true q]
   simp only[Bool.not_true,Bool.false_eq_true,if_false]
   by_cases qa:(ws.all fun x=>(nmO x).isSome)=true
   ·rw[if_pos qa,if_pos qa]
    simp only[RE.bind_ok]
    have hN:∀n∈ws.map nmI,0≤n:=fun n h=>by
     obtain⟨x,_,rfl⟩:=List.mem_map.mp h
     exact(qr9 x).1
    have hNl:(ws.map nmI).length≤1000:=by rw[List.length_map];omega
    generalize ws.map nmI=N at hN hNl
    rw[W3]
    simp only[RE.bind_ok]
    unfold qpq
    rw[qox]
    have hd:∀m,∀n∈N.drop m,0≤n:=fun m n h=>hN n (List.mem_of_mem_drop h)
    have hdl:∀m,(N.drop m).length≤1000:=fun m=>by rw[List.length_drop];omega
    cases k with
    |joined =>
     show F.whole_rule fl RK.joined.w N=_
     rw[qiJ hf (.inl rfl)]
     simp only
     split<;>rfl
    |nosquare =>
     show F.whole_rule fl RK.nosquare.w N=_
     rw[qiJ hf (.inr (.inl rfl))]
     simp only
     split<;>rfl
    |ring =>
     show F.whole_rule fl RK.ring.w N=_
     rw[qiJ hf (.inr (.inr rfl))]
     simp only
     split<;>rfl
    |unlike =>
     rw[show qd9 .unlike=false from rfl,show decide (RK.unlike.w=[117,110,108,105,107,101])=true by decide]
     simp only[Bool.false_eq_true,if_false,if_true]
     rw[qbV hf hN hNl]
     split<;>rfl
    |rising =>
     rw[show qd9 .rising=false from rfl,show decide (RK.rising.w=[117,110,108,105,107,101])=false by decide,show decide (RK.rising.w=[114,105,115,105,110,103])=true by decide]
     simp only[Bool.false_eq_true,if_false,if_true]
     rw[qbV hf hN hNl]
     split<;>rfl
    |total =>
     rw[show qd9 .total=false from rfl,show decide (RK.total.w=[117,110,108,105,107,101])=false by decide,show decide (RK.total.w=[114,105,115,105,110,103])=false by decide,show decide (RK.total.w=[99,111,117,110,116])=false by decide,show decide (RK.total.w=[115,117,109])=true by decide]
     simp only[Bool.false_eq_true,if_false,if_true]
     rw[qp3,qbV hf (hd 1) (hdl 1)]
     by_cases c:csB fl (N.drop 1)=true
     ·rw[if_pos c,if_pos c]
      simp only[RE.bind_ok]
      have nn:N≠[]:=fun z=>by
       have:=((qdE hf (hd 1)).mp c).ne
       rw[z] at this;exact this rfl
      rw[at0 nn]
      rfl
     ·rw[if_neg c,if_neg c]
      rfl
    |seen =>
     rw[show qd9 .seen=false from rfl,show decide (RK.seen.w=[117,110,108,105,107,101])=false by decide,show decide (RK.seen.w=[114,105,115,105,110,103])=false by decide,show decide (RK.seen.w=[99,111,117,110,116])=false by decide,show decide (RK.seen.w=[115,117,109])=false by decide]
     simp only[Bool.false_eq_true,if_false]
     rw[qp3,qbV hf (hd 1) (hdl 1)]
     by_cases c:csB fl (N.drop 1)=true
     ·rw[if_pos c,if_pos c]
      simp only[RE.bind_ok]
      have nn:N≠[]:=fun z=>by
       have:=((qdE hf (hd 1)).mp c).ne
       rw[z] at this;exact this rfl
      rw[at0 nn]
      rfl
     ·rw[if_neg c,if_neg c]
      rfl
    |counted =>
     rw[show qd9 .counted=false from rfl,show decide (RK.counted.w=[117,110,108,105,107,101])=false by decide,show decide (RK.counted.w=[114,105,115,105,110,103])=false by decide,show decide (RK.counted.w=[99,111,117,110,116])=true by decide]
     simp only[Bool.false_eq_true,if_false,if_true]
     rw[qfY (by decide)]
     by_cases l1:1<N.length
     ·rw[decide_eq_true l1,decide_eq_true (show(1:Int)<N.length by omega)]
      simp only[Bool.true_and]
      cases sgB fl (gI N 1) with
      |false=>rfl
      |true =>
       simp only[if_true,RE.bind_ok,Bool.true_and]
       rw[show qdu N (some 2) none=N.drop 2 from qqO (m:=2) (by omega),qbV hf (hd 2) (hdl 2)]
       by_cases c:csB fl (N.drop 2)=true
       ·rw[if_pos c,if_pos c]
        simp only[RE.bind_ok]
        rw[at0 fun z=>by rw[z] at l1;simp at l1]
        rfl
       ·rw[if_neg c,if_neg c]
        rfl
     ·rw[decide_eq_false l1,decide_eq_false (show ¬(1:Int)<N.length by omega)]
      rfl
   ·rw[if_neg qa,if_neg qa]
    rfl
  ·have q':=q
   unfold L8 at q
   rw[decide_eq_false q]
   simp only[Bool.not_false,if_true]
   unfold qpq
   rw[qjp q']
   by_cases qa:(ws.all fun x=>(nmO x).isSome)=true
   ·rw[if_pos qa]
   ·rw[if_neg qa]
end
end K18
namespace K18
open Cm
abbrev DT:=Option (List Nat × (List (Option Int)) × (Option Int) × (Option Int))
def qta (r:RuleT):List Nat × (List (Option Int)) × (Option Int) × (Option Int):=(r.k.w,r.cells.map some,some r.wanted,some r.sign)
section
variable {fl:Int × Int × Int} {N:List Int}
theorem qlW:∀N:List Int,dLs (unO (α:=Int)) (N.map some)=.ok N
 |[]=>rfl
 |n::N=>by
  rw[List.map_cons,dLs,qlW N]
  rfl
theorem qtg (N:List Int):qlD N≤N.length:=PyProof.Rows.firstMet_length_le _ _
theorem qfr (hf:FOk fl) (hN:∀n∈N,0≤n) (hl:N.length≤1000) (w:List Nat) (n s:Int):qbG fl w (some n) (some s) (N.map some)=.ok (if (csB fl N&&(!decide (w=[99,111,117,110,116])||sgB fl s))=true then some (w,N.map some,some n,some s) else none):=by
 have hm:qip fl.1 fl.2.1=.ok (nC fl):=qfK hf
 unfold qbG
 rw[hm]
 simp only[RE.bind_ok]
 rw[List.length_map,qlW]
 simp only[RE.bind_ok]
 have us:unO (some s)=.ok s:=rfl
 rw[us]
 by_cases e:N=[]
 ·subst e
  rfl
 ·have lp:=List.length_pos_iff.mpr e
  rw[decide_eq_false (show ¬(N.length:Int)=0 by omega),qiL hl]
  simp only[RE.bind_ok,Bool.false_eq_true,if_false]
  by_cases nd:N.Nodup
  ·rw[qha nd,decide_eq_false (show ¬(N.length:Int)<(N.length:Int) by omega)]
   have mx:qmm N=.ok (qhM N):=by
    cases N with
    |nil=>exact absurd rfl e
    |cons _ _=>rfl
   rw[mx]
   simp only[RE.bind_ok,Bool.false_eq_true,if_false]
   by_cases big:nC fl≤qhM N
   ·rw[decide_eq_true big]
    simp only[if_true]
    have:csB fl N=false:=by
     cases q:csB fl N with
     |false=>rfl
     |true =>
      have:=qoK e fun c hc=>(((qdE hf hN).mp q).inn c hc).2
      omega
    rw[this]
    rfl
   ·rw[decide_eq_false big]
    have:csB fl N=true:=by
     unfold csB
     exact decide_eq_true ⟨e,nd,fun c hc=>by have:=qnj hc;omega⟩
    rw[this]
    simp only[Bool.false_eq_true,if_false,Bool.true_and]
    cases decide (w=[99,111,117,110,116]) with
    |false=>rfl
    |true =>
     unfold sgB
     simp only[if_true,Bool.not_true,Bool.false_or]
     cases decide (1≤s) with
     |false=>rfl
     |true =>
      simp only[if_true,RE.bind_ok,Bool.true_and]
      cases decide (s≤fl.2.2)<;>rfl
  ·have le:qlD N≤N.length:=qtg N
   have ne:qlD N≠N.length:=fun z=>nd ((qiK N).mp z)
   have:csB fl N=false:=by
    unfold csB
    exact decide_eq_false fun z=>nd z.2.1
   rw[decide_eq_true (show(qlD N:Int)<(N.length:Int) by omega),this]
   rfl
theorem qrn:∀(L:List (Option Int)),evC .isin (eU ()) ((eL (eO eI)) L)=.ok (!L.all Option.isSome):=fun L=>by
 have fit:∀L:List (Option Int),D.fits (L.map (eO eI)) 63=true:=fun L=>by
  induction L with
  |nil=>rfl
  |cons x L ih =>
   rw[List.map_cons,D.fits,ih]
   cases x<;>rfl
 show qoO .non (D.lst (L.map (eO eI)))=_
 unfold qoO
 have h0:(D.non).fit 64=true:=rfl
 have h:(D.lst (L.map (eO eI))).fit 64=true:=by
  simp only[D.fit]
  exact fit L
 simp only[h0,h,Bool.and_self,if_true]
 congr 1
 clear h
 induction L with
 |nil=>rfl
 |cons x L ih =>
  rw[List.map_cons,List.any_cons,ih,List.all_cons]
  cases x with
  |none=>rfl
  |some v =>
   rw[show D.eqb (eO eI (some v)) .non=false from rfl]
   simp
theorem quB (hf:FOk fl) {t:List Nat} (ht:t.length≤1000) (hc:∀c∈t,c<256):qgz fl (some (.str t))=.ok ((qpp fl t).map qta):=by
 have n1:=hf.n1
 have n16:=qoZ hf
 have hw:=wds _ t (Nat.le_refl _)
 have e1:tyE ((eO eD) (some (.str t))) .str=.ok true:=rfl
 have e2:dS ((eO eD) (some (.str t)))=.ok t:=rfl
 have hm:qip fl.1 fl.2.1=.ok (nC fl):=qfK hf
 unfold qgz qpp
 rw[e1]
 simp only[RE.bind_ok,Bool.not_true,Bool.false_eq_true,if_false]
 rw[e2]
 simp only[RE.bind_ok]
 rw[qnU (by omega)]
 obtain⟨ne,_,hww,hl⟩:=hw
 cases hs:spW t with
 |nil=>exact absurd hs ne
 |cons w ws =>
  rw[hs] at hww hl
  rw[List.length_cons] at hl
  have wc:∀c∈w,c<256:=fun c h=>hc c ((hww w (by simp)).2 c h)
  simp only[RE.bind_ok]
  rw[show atE (w::ws) 0=.ok w from qkP]
  simp only[RE.bind_ok]
  rw[qvB,gdl (by omega),qnG (g:=nmO) fun x hx=>que (by have:=(hww x (List.mem_cons_of_mem _ hx)).1;omega)]
  simp only[RE.bind_ok]
  rw[qrn]
  simp only[RE.bind_ok]
  have al:(ws.map nmO).all Option.isSome=ws.all fun x=>(nmO x).isSome:=by rw[List.all_map];rfl
  rw[al]
  by_cases qa:(ws.all fun x=>(nmO x).isSome)=true
  ·rw[qa,qoE qa]
   simp only[Bool.not_true,Bool.false_eq_true,if_false,if_true]
   have hN:∀n∈ws.map nmI,0≤n:=fun n h=>by
    obtain⟨x,_,rfl⟩:=List.mem_map.mp h
    exact(qr9 x).1
   have hNl:(ws.map nmI).length≤1000:=by rw[List.length_map];omega
   generalize ws.map nmI=N at hN hNl
   have hd:∀m,∀n∈N.drop m,0≤n:=fun m n h=>hN n (List.mem_of_mem_drop h)
   have hdl:∀m,(N.drop m).length≤1000:=fun m=>by rw[List.length_drop];omega
   have ato:∀{k:Int},0≤k→k<N.length→atE (N.map some) k=.ok (some (gI N k)):=fun {k} h0 h1=>by
    exact qbK h0 (by
     rw[List.getElem?_map,qve h0 h1]
     rfl)
   have un:∀x:Int,unO (some x)=.ok x:=fun x=>rfl
   have h3:qj7 w [[106,111,105,110,101,100],[110,111,115,113,117,97,114,101],[114,105,110,103]]=.ok (decide (w∈[[106,111,105,110,101,100],[110,111,115,113,117,97,114,101],[114,105,110,103]])):=qd7 wc (by decide)
   have h2:qj7 w [[117,110,108,105,107,101],[114,105,115,105,110,103]]=.ok (decide (w∈[[117,110,108,105,107,101],[114,105,115,105,110,103]])):=qd7 wc (by decide)
   have h2':qj7 w [[115,117,109],[115,101,101,110]]=.ok (decide (w∈[[115,117,109],[115,101,101,110]])):=qd7 wc (by decide)
   rw[h3,h2,h2',List.length_map]
   simp only[RE.bind_ok]
   by_cases q:w∈L8
   ·obtain⟨k,rfl⟩:=l8.mp q
    unfold qpq
    rw[qox]
    have fin:∀k:RK,(RE.ok (if (sgB fl (gI N 0))=true then some (k.w,(qeD (nC fl).toNat).map some,some 0,some (gI N 0)) else none:DT))=RE.ok ((if (decide (N.length=1)&&sgB fl (gI N 0))=true then (some ⟨k,fl,qeD (nC fl).toNat,0,gI N 0⟩:Option RuleT) else none).map qta)∨N.length≠1:=fun k=>by
     by_cases l1:N.length=1
     ·left
      rw[decide_eq_true l1,Bool.true_and]
      cases sgB fl (gI N 0)<;>rfl
     ·exact .inr l1
    have rg:qbD (nC fl)=.ok (qeD (nC fl).toNat):=qfu (by omega) (by omega)
    have gz:N.length=1→atE (N.map some) 0=.ok (some (gI N 0)):=fun h=>ato (by decide) (by omega)
    cases k with
    |joined =>
     rw[show decide (RK.joined.w∈[[106,111,105,110,101,100],[110,111,115,113,117,97,114,101],[114,105,110,103]])=true by decide]
     simp only[if_true]
     by_cases l1:N.length=1
     ·rcases fin .joined with fin | z
      ·rw[decide_eq_true (show(N.length:Int)=1 by omega),gz l1,hm]
       simp only[RE.bind_ok,Bool.not_true,Bool.false_eq_true,if_false,un,rg]
       rw[←fin]
       unfold sgB
       cases decide (1≤gI N 0)<;>cases decide (gI N 0≤fl.2.2)<;>rfl
      ·exact absurd l1 z
     ·rw[decide_eq_false (show ¬(N.length:Int)=1 by omega),decide_eq_false l1]
      rfl
    |nosquare =>
     rw[show decide (RK.nosquare.w∈[[106,111,105,110,101,100],[110,111,115,113,117,97,114,101],[114,105,110,103]])=true by decide]
     simp only[if_true]
     by_cases l1:N.length=1
     ·rcases fin .nosquare with fin | z
      ·rw[decide_eq_true (show(N.length:Int)=1 by omega),gz l1,hm]
       simp only[RE.bind_ok,Bool.not_true,Bool.false_eq_true,if_false,un,rg]
       rw[←fin]
       unfold sgB
       cases decide (1≤gI N 0)<;>cases decide (gI N 0≤fl.2.2)<;>rfl
      ·exact absurd l1 z
     ·rw[decide_eq_false (show ¬(N.length:Int)=1 by omega),decide_eq_false l1]
      rfl
    |ring =>
     rw[show decide (RK.ring.w∈[[106,111,105,110,101,100],[110,111,115,113,117,97,114,101],[114,105,110,103]])=true by decide]
     simp only[if_true]
     by_cases l1:N.length=1
     ·rcases fin .ring with fin | z
      ·rw[decide_eq_true (show(N.length:Int)=1 by omega),gz l1,hm]
       simp only[RE.bind_ok,Bool.not_true,Bool.false_eq_true,if_false,un,rg]
       rw[←fin]
       unfold sgB
       cases decide (1≤gI N 0)<;>cases decide (gI N 0≤fl.2.2)<;>rfl
      ·exact absurd l1 z
     ·rw[decide_eq_false (show ¬(N.length:Int)=1 by omega),decide_eq_false l1]
      rfl
    |unlike =>
     rw[show decide (RK.unlike.w∈[[106,111,105,110,101,100],[110,111,115,113,117,97,114,101],[114,105,110,103]])=false by decide,show decide (RK.unlike.w∈[[117,110,108,105,107,101],[114,105,115,105,110,103]])=true by decide]
     simp only[Bool.false_eq_true,if_false,if_true]
     rw[qfr hf hN hNl,show decide (RK.unlike.w=[99,111,117,110,116])=false by decide]
     cases csB fl N<;>rfl
    |rising =>
     rw[show decide (RK.rising.w∈[[106,111,105,110,101,100],[110,111,115,113,117,97,114,101],[114,105,110,103]])=false by decide,show decide (RK.rising.w∈[[117,110,108,105,107,101],[114,105,115,105,110,103]])=true by decide]
     simp only[Bool.false_eq_true,if_false,if_true]
     rw[qfr hf hN hNl,show decide (RK.rising.w=[99,111,117,110,116])=false by decide]
     cases csB fl N<;>rfl
    |total =>
     rw[show decide (RK.total.w∈[[106,111,105,110,101,100],[110,111,115,113,117,97,114,101],[114,105,110,103]])=false by decide,show decide (RK.total.w∈[[117,110,108,105,107,101],[114,105,115,105,110,103]])=false by decide,show decide (RK.total.w∈[[115,117,109],[115,101,101,110]])=true by decide]
     simp only[Bool.false_eq_true,if_false,if_true,RE.bind_ok]
     by_cases l1:1<N.length
     ·rw[decide_eq_true (show(1:Int)<N.length by omega),ato (by decide) (by omega),qp3,←List.map_drop]
      simp only[if_true,RE.bind_ok]
      rw[qfr hf (hd 1) (hdl 1),show decide (RK.total.w=[99,111,117,110,116])=false by decide]
      cases csB fl (N.drop 1)<;>rfl
     ·have:csB fl (N.drop 1)=false:=by
       unfold csB
       exact decide_eq_false fun z=>z.1 (List.drop_eq_nil_iff.mpr (by omega))
      rw[decide_eq_false (show ¬(1:Int)<N.length by omega),this,show decide (RK.total.w=[99,111,117,110,116])=false by decide]
      rfl
    |seen =>
     rw[show decide (RK.seen.w∈[[106,111,105,110,101,100],[110,111,115,113,117,97,114,101],[114,105,110,103]])=false by decide,show decide (RK.seen.w∈[[117,110,108,105,107,101],[114,105,115,105,110,103]])=false by decide,show decide (RK.seen.w∈[[115,117,109],[115,101,101,110]])=true by decide]
     simp only[Bool.false_eq_true,if_false,if_true,RE.bind_ok]
     by_cases l1:1<N.length
     ·rw[decide_eq_true (show(1:Int)<N.length by omega),ato (by decide) (by omega),qp3,←List.map_drop]
      simp only[if_true,RE.bind_ok]
      rw[qfr hf (hd 1) (hdl 1),show decide (RK.seen.w=[99,111,117,110,116])=false by decide]
      cases csB fl (N.drop 1)<;>rfl
     ·have:csB fl (N.drop 1)=false:=by
       unfold csB
       exact decide_eq_false fun z=>z.1 (List.drop_eq_nil_iff.mpr (by omega))
      rw[decide_eq_false (show ¬(1:Int)<N.length by omega),this,show decide (RK.seen.w=[99,111,117,110,116])=false by decide]
      rfl
    |counted =>
     rw[show decide (RK.counted.w∈[[106,111,105,110,101,100],[110,111,115,113,117,97,114,101],[114,105,110,103]])=false by decide,show decide (RK.counted.w∈[[117,110,108,105,107,101],[114,105,115,105,110,103]])=false by decide,show decide (RK.counted.w∈[[115,117,109],[115,101,101,110]])=false by decide,show decide (RK.counted.w=[99,111,117,110,116])=true by decide]
     simp only[Bool.false_eq_true,if_false,RE.bind_ok,Bool.true_and]
     by_cases l2:2<N.length
     ·rw[decide_eq_true (show(2:Int)<N.length by omega),ato (by decide) (by omega),ato (by decide) (by omega),show qdu (N.map some) (some 2) none=(N.map some).drop 2 from qqO (m:=2) (by rw[List.length_map];omega),←List.map_drop]
      simp only[if_true,RE.bind_ok]
      rw[qfr hf (hd 2) (hdl 2),show decide (RK.counted.w=[99,111,117,110,116])=true by decide,decide_eq_true (show 1<N.length by omega)]
      cases csB fl (N.drop 2)<;>cases sgB fl (gI N 1)<;>rfl
     ·have:csB fl (N.drop 2)=false:=by
       unfold csB
       exact decide_eq_false fun z=>z.1 (List.drop_eq_nil_iff.mpr (by omega))
      rw[decide_eq_false (show ¬(2:Int)<N.length by omega),this,Bool.and_false]
      rfl
   ·have q3:decide (w∈[[106,111,105,110,101,100],[110,111,115,113,117,97,114,101],[114,105,110,103]])=false:=decide_eq_false fun z=>q (by unfold L8;simp only[List.mem_cons,List.not_mem_nil,or_false] at z ⊢;rcases z with z | z | z<;>simp[z])
    have q2:decide (w∈[[117,110,108,105,107,101],[114,105,115,105,110,103]])=false:=decide_eq_false fun z=>q (by unfold L8;simp only[List.mem_cons,List.not_mem_nil,or_false] at z ⊢;rcases z with z | z<;>simp[z])
    have q2':decide (w∈[[115,117,109],[115,101,101,110]])=false:=decide_eq_false fun z=>q (by unfold L8;simp only[List.mem_cons,List.not_mem_nil,or_false] at z ⊢;rcases z with z | z<;>simp[z])
    have q1:decide (w=[99,111,117,110,116])=false:=decide_eq_false fun z=>q (by unfold L8;simp[z])
    unfold qpq
    rw[q3,q2,q2',q1,qjp q]
    rfl
  ·rw[if_neg qa]
   have:(ws.all fun x=>(nmO x).isSome)=false:=by simpa using qa
   rw[this]
   rfl
end
end K18
namespace K18
open Cm
section
variable {fl:Int × Int × Int}
theorem qn1:∀{ws:List (List Nat)},(ws.all fun x=>(nmO x).isSome)=true→(ws.map nmI).map dgI=ws
 |[],_=>rfl
 |w::ws,h=>by
  rw[List.all_cons,Bool.and_eq_true] at h
  rw[List.map_cons,List.map_cons,qn1 h.2]
  unfold nmI
  cases e:nmO w with
  |none=>rw[e] at h;cases h.1
  |some n =>
   rw[Option.getD_some,←(qr6 e).1]
theorem qtD {N:List Int} (h:N.drop 1≠[]):N=gI N 0::N.drop 1:=by
 cases N with
 |nil=>exact absurd rfl h
 |cons a N=>rfl
theorem qnN (hf:FOk fl) {w:List Nat} {N:List Int} {r:RuleT} (hN:∀n∈N,0≤n∧n<100) (h:qpq fl w N=some r):WfR fl r∧r.k.w=w∧qj4 r=N:=by
 have h0:∀n∈N,0≤n:=fun n q=>(hN n q).1
 have hd:∀m,∀n∈N.drop m,0≤n:=fun m n h=>h0 n (List.mem_of_mem_drop h)
 have sg:∀{s},sgB fl s=true→1≤s∧s≤fl.2.2:=fun {s} h=>by
  unfold sgB at h
  rw[Bool.and_eq_true,decide_eq_true_eq,decide_eq_true_eq] at h
  exact h
 unfold qpq at h
 cases e:qs4 w with
 |none=>rw[e] at h;cases h
 |some k =>
  rw[e] at h
  have ew:=qkj e
  subst ew
  cases k with
  |unlike =>
   simp only at h
   split at h
   ·rename_i c
    cases h
    exact⟨qmX ((qdE hf h0).mp c),rfl,rfl⟩
   ·cases h
  |rising =>
   simp only at h
   split at h
   ·rename_i c
    cases h
    exact⟨qnh ((qdE hf h0).mp c),rfl,rfl⟩
   ·cases h
  |total =>
   simp only at h
   split at h
   ·rename_i c
    cases h
    have c:=(qdE hf (hd 1)).mp c
    have q:=qtD c.ne
    have b:=hN (gI N 0) (by rw[q];exact List.mem_cons_self)
    exact⟨qpB c b.1 b.2,rfl,q.symm⟩
   ·cases h
  |seen =>
   simp only at h
   split at h
   ·rename_i c
    cases h
    have c:=(qdE hf (hd 1)).mp c
    have q:=qtD c.ne
    have b:=hN (gI N 0) (by rw[q];exact List.mem_cons_self)
    exact⟨qru c b.1 b.2,rfl,q.symm⟩
   ·cases h
  |counted =>
   simp only at h
   split at h
   ·rename_i c
    cases h
    simp only[Bool.and_eq_true] at c
    obtain⟨⟨l1,c1⟩,c2⟩:=c
    have c:=(qdE hf (hd 2)).mp c2
    have s:=sg c1
    match N,hN,c,s,of_decide_eq_true l1 with
    |a::b::N,hN,c,s,_ =>
     have b:=hN a (by simp)
     exact⟨qmP c b.1 b.2 s.1 s.2,rfl,rfl⟩
   ·cases h
  |joined | nosquare | ring =>
   simp only at h
   split at h
   ·rename_i c
    cases h
    simp only[Bool.and_eq_true] at c
    have s:=sg c.2
    match N,s,of_decide_eq_true c.1 with
    |[a],s,_=>exact⟨qoY hf rfl s.1 s.2,rfl,rfl⟩
   ·cases h
theorem qjO (hf:FOk fl) {t:List Nat} {r:RuleT} (h:qpp fl t=some r):WfR fl r∧qm9 r=t:=by
 have hw:=wds _ t (Nat.le_refl _)
 unfold qpp at h
 cases hs:spW t with
 |nil=>exact absurd hs hw.ne
 |cons w ws =>
  rw[hs] at h
  simp only at h
  split at h
  ·rename_i c
   obtain⟨a,b,d⟩:=qnN hf (fun n q=>by
    obtain⟨x,_,rfl⟩:=List.mem_map.mp q
    exact qr9 x) h
   refine⟨a,?_⟩
   have j:=hw.j
   rw[hs] at j
   unfold qm9 qvX
   rw[b,d,qn1 c,j]
  ·cases h
abbrev S (t:List Nat):Option D:=some (.str t)
theorem qki {v:D} (h:F.read_rule fl v=.exc 33 []):qcG fl (some v) none=.ok true:=by
 unfold qcG
 have:F.read_rule fl ((eO eD) (some v))=.exc 33 []:=h
 rw[this]
 rfl
theorem qjw (hf:FOk fl) {t:List Nat} {r:RuleT} (ht:∀c∈t,c<256) (h:F.read_rule fl (.str t)=.ok r) (hr:WfR fl r) (hl:qm9 r=t):qcG fl (S t) (some (qta r))=.ok true:=by
 unfold qcG
 have:F.read_rule fl ((eO eD) (S t))=.ok r:=h
 rw[this]
 have e1:quU qkW (fun(r:RuleT)=>r.k.c) r=.ok true:=by obtain⟨k,_,_,_,_⟩:=r;cases k<;>rfl
 have e2:evC .ne ((eT4 eS (eL eI) eI eI) (r.k.w,r.cells,r.wanted,r.sign)) ((eO (eT4 eS (eL (eO eI)) (eO eI) (eO eI))) (some (qta r)))=.ok false:=by
  have q:(eO (eT4 eS (eL (eO eI)) (eO eI) (eO eI))) (some (qta r))=(eT4 eS (eL eI) eI eI) (r.k.w,r.cells,r.wanted,r.sign):=by
   show D.tup [.str r.k.w,.lst ((r.cells.map some).map (eO eI)),.int r.wanted,.int r.sign]=D.tup [.str r.k.w,.lst (r.cells.map eI),.int r.wanted,.int r.sign]
   rw[List.map_map]
   rfl
  rw[q]
  refine qmh ?_
  show D.fit (D.tup [.str r.k.w,.lst (r.cells.map eI),.int r.wanted,.int r.sign]) 64=true
  have f1:PySem.PyData.strOk ⟨r.k.w.toArray⟩=true:=qkI fun c hc=>by have:=qtH r.k c hc;omega
  have f2:∀L:List Int,D.fits (L.map eI) 62=true:=fun L=>by
   induction L with
   |nil=>rfl
   |cons x L ih =>
    rw[List.map_cons,D.fits,ih]
    rfl
  simp only[D.fit,D.fits,f1,f2,Bool.and_true,Bool.true_and]
  decide
 simp only[RE.bind_ok,tryA]
 simp only[unO,RE.bind_ok,Option.isNone_some,Bool.false_eq_true,if_false]
 rw[e1]
 simp only[RE.bind_ok,Bool.not_true,Bool.false_eq_true,if_false]
 rw[qnr]
 simp only[RE.bind_ok,F.Rule_spots,F.Rule_number,F.Rule_sign]
 rw[e2]
 simp only[RE.bind_ok,Bool.false_eq_true,if_false,qfP,Bool.not_false,Bool.and_true,if_true]
 rw[qpk hf hr,hl]
 simp only[RE.bind_ok]
 show qkv (.str t) (.str t)=_
 simp[qkv]
theorem qpR (hf:FOk fl) {t:List Nat} (ht:t.length≤1000) (hc:∀c∈t,c<256):∃d,qgz fl (S t)=.ok d∧qcG fl (S t) d=.ok true:=by
 refine⟨_,quB hf ht hc,?_⟩
 have q:=qnD hf ht hc
 cases e:qpp fl t with
 |none =>
  rw[e] at q
  exact qki q
 |some r =>
  rw[e] at q
  obtain⟨a,b⟩:=qjO hf e
  exact qjw hf hc q a b
theorem qqe {v:D} (h:∀t,v≠.str t) (hx:∀c fs,v≠.ins c fs∧v≠.exc c fs):∃d,qgz fl (some v)=.ok d∧qcG fl (some v) d=.ok true:=by
 have e1:tyE v .str=.ok false:=by
  cases v with
  |str t=>exact absurd rfl (h t)
  |ins c fs=>exact absurd rfl (hx c fs).1
  |exc c fs=>exact absurd rfl (hx c fs).2
  |_=>rfl
 refine⟨none,?_,qki ?_⟩
 ·unfold qgz
  have:tyE ((eO eD) (some v)) .str=.ok false:=e1
  rw[this]
  rfl
 ·unfold F.read_rule
  have:tyE (eD v) .str=.ok false:=e1
  rw[this]
  rfl
abbrev R0:List Nat:=[114,105,115,105,110,103,32,48]
theorem qtY:∀c∈R0,c<256:=by decide
theorem qwU:spW R0=[RK.rising.w,[48]]:=by decide +kernel
theorem qxh:([[48]]:List (List Nat)).all (fun x=>(nmO x).isSome)=true:=by decide +kernel
theorem qw0:([[48]]:List (List Nat)).map nmI=[0]:=by decide +kernel
theorem qtG (hf:FOk fl):qpp fl R0=some ⟨.rising,fl,[0],0,0⟩:=by
 have n1:=hf.n1
 have c:csB fl [0]=true:=by
  unfold csB
  refine decide_eq_true ⟨by decide,by decide,fun c hc=>?_⟩
  rw[List.mem_singleton.mp hc]
  omega
 unfold qpp
 rw[qwU]
 simp only
 rw[qxh,if_pos rfl,qw0]
 unfold qpq
 rw[qox]
 simp only
 rw[if_pos c]
theorem qoF (hf:FOk fl):qcG fl (S R0) (some (RK.rising.w,([0]:List Int).map some,some 0,some 0))=.ok true:=by
 have q:=qnD (t:=R0) hf (by decide) qtY
 have e:=qtG hf
 rw[e] at q
 obtain⟨a,b⟩:=qjO hf e
 exact qjw (r:=⟨.rising,fl,[0],0,0⟩) hf qtY q a b
end
end K18
namespace K18
open Cm
theorem qsT {α:Type} {xs:List α} {k:Int} {x:α} (h0:0≤k) (h1:k≤xs.length) (h2:xs.length<16777216):qur xs k x=.ok (xs.take k.toNat++[x]++xs.drop k.toNat):=by
 unfold qur
 refine qgt ?_
 rw[Bool.and_eq_true,decide_eq_true_eq]
 exact⟨⟨h0,h1⟩,ql9 (by have:LIM=16777216:=rfl;omega)⟩
theorem qsQ {α:Type} {xs:List α} {k:Int} (h0:0≤k) (h1:k<xs.length) (hl:xs.length≤16777216):qnK xs k=.ok (xs.eraseIdx k.toNat):=by
 have lt:k.toNat<xs.length:=by omega
 unfold qnK
 have e:L2.ixN xs.length k=some k.toNat:=by
  unfold L2.ixN
  rw[if_pos h0,if_pos (by omega)]
 rw[e]
 simp only[List.getElem?_eq_getElem lt]
 rw[gdl hl]
def szB (r:RE (List (Int × Int))):Bool:=match r with
 |.ok L=>decide (L.length=26)&&L.all fun p=>decide (1≤p.1)&&decide (p.1≤6)&&decide (1≤p.2)&&decide (p.2≤6)&&decide (p.1*p.2≤16)
 |_=>false
theorem qvm {r:RE (List (Int × Int))} (h:szB r=true):∃L,r=.ok L∧L.length=26∧∀p∈L,1≤p.1∧p.1≤6∧1≤p.2∧p.2≤6∧p.1*p.2≤16:=by
 unfold szB at h
 split at h
 ·rename_i L
  rw[Bool.and_eq_true,decide_eq_true_eq,List.all_eq_true] at h
  refine⟨L,rfl,h.1,fun p hp=>?_⟩
  have:=h.2 p hp
  simp only[Bool.and_eq_true,decide_eq_true_eq] at this
  exact⟨this.1.1.1.1,this.1.1.1.2,this.1.1.2,this.1.2,this.2⟩
 ·cases h
theorem qpF {z:Int}:∃fl,qfI z=.ok fl∧FOk fl:=by
 unfold qfI
 rw[RE.bind_ok]
 generalize hr:((qiy 1 7).bind fun y26=>qam (fun(aR:Int) (s11:List (Int × Int))=>((qiy 1 7).bind fun y21=>qam (fun(aZ:Int) (s15:List (Int × Int))=>(((qip aR aZ).bind fun x16=>RE.ok (decide (x16≤16))).bind fun k18=>if k18=true then ((qeA s15 (aR,aZ)).bind fun bj=>RE.ok bj) else (RE.ok s15)).bind fun(p19:List (Int × Int))=>RE.ok p19) y21 s11).bind fun(p20:List (Int × Int))=>RE.ok p20) y26 [])=r
 have q:szB r=true:=by
  subst hr
  decide +kernel
 obtain⟨L,rfl,l1,l2⟩:=qvm q
 have b:=qbQ z (n:=(L.length:Int)) (by omega)
 have c:=qbQ (z.fdiv 100) (n:=6) (by decide)
 simp only[RE.bind_ok]
 rw[qcL (by omega)]
 simp only[RE.bind_ok]
 have lt:(z.fmod (L.length:Int)).toNat<L.length:=by omega
 rw[qbK b.1 (List.getElem?_eq_getElem lt)]
 have m:=l2 _ (List.getElem_mem lt)
 simp only[RE.bind_ok]
 exact⟨_,rfl,m.1,m.2.1,m.2.2.1,m.2.2.2.1,m.2.2.2.2,by show 1≤1+(z.fdiv 100).fmod 6;omega,by show 1+(z.fdiv 100).fmod 6≤6;omega⟩
def WL (n:Nat) (ws:List (List Nat)):Prop:=ws.length≤n∧∀w∈ws,w.length≤8∧∀c∈w,c<128
theorem WL.app {n m:Nat} {a b:List (List Nat)} (h:WL n a) (k:WL m b):WL (n+m) (a++b):=⟨by rw[List.length_append];have:=h.1;have:=k.1;omega,fun w hw=>(List.mem_append.mp hw).elim (h.2 w) (k.2 w)⟩
theorem WL.one {w:List Nat} (h:w.length≤8∧∀c∈w,c<128):WL 1 [w]:=⟨Nat.le_refl _,fun x hx=>by rw[List.mem_singleton.mp hx];exact h⟩
theorem WL.up {n m:Nat} {a:List (List Nat)} (h:WL n a) (k:n≤m):WL m a:=⟨Nat.le_trans h.1 k,h.2⟩
theorem qxz:∀n<200,(qs6 ((n:Nat):Int)&&(decide ((toString ((n:Nat):Int):PySem.Str).cps.toList.length≤8)&&(toString ((n:Nat):Int):PySem.Str).cps.toList.all fun c=>decide (c<128)))=true:=by decide +kernel
theorem str_ok {n:Int} (h0:0≤n) (h1:n<200):∃w,qoW n=.ok w∧w.length≤8∧∀c∈w,c<128:=by
 obtain⟨k,rfl⟩:∃k:Nat,n=k:=⟨n.toNat,by omega⟩
 have:=qxz k (by omega)
 rw[Bool.and_eq_true,Bool.and_eq_true,decide_eq_true_eq,List.all_eq_true] at this
 unfold qoW
 rw[qgt this.1]
 exact⟨_,rfl,this.2.1,fun c hc=>of_decide_eq_true (this.2.2 c hc)⟩
theorem qoj:∀{xs:List Int},(∀x∈xs,0≤x∧x<200)→W (lcE (fun(ac:Int)=>(RE.ok true)) (fun(ac:Int)=>(qoW ac)) xs) fun ws=>WL xs.length ws
 |[],_=>W.ok ⟨Nat.le_refl _,fun _ h=>nomatch h⟩
 |x::xs,h=>by
  obtain⟨w,e,hw⟩:=str_ok (h x (by simp)).1 (h x (by simp)).2
  obtain⟨ws,e2,hws⟩:=qoj fun y hy=>h y (List.mem_cons_of_mem _ hy)
  unfold lcE
  rw[e,e2]
  refine⟨w::ws,rfl,?_⟩
  have:=(WL.one hw).app hws
  rw[List.length_cons,Nat.add_comm]
  exact this
theorem qvg {n:Nat} {ws:List (List Nat)} (h:WL n ws) (k:n≤22):W (qj6 [32] ws) fun t=>t.length≤250∧∀c∈t,c<128:=by
 have q:=h.1
 refine⟨_,qlK (b:=8) (fun w hw=>(h.2 w hw).1) (by omega),?_,?_⟩
 ·have a:=qjD 32 ws
  have b:=qnH (b:=8) (fun w hw=>(h.2 w hw).1)
  omega
 ·have key:∀ws:List (List Nat),(∀w∈ws,∀c∈w,c<128)→∀c∈TL.joinL [32] ws,c<128:=fun ws=>by
   induction ws with
   |nil=>exact fun _ c hc=>nomatch hc
   |cons w ws ih =>
    intro h c hc
    cases ws with
    |nil =>
     have:TL.joinL [32] [w]=w:=rfl
     rw[this] at hc
     exact h w (by simp) c hc
    |cons v ws =>
     rw[qgJ w (by simp)] at hc
     rcases List.mem_append.mp hc with z | z
     ·exact h w (by simp) c z
     ·rcases List.mem_cons.mp z with z | z
      ·omega
      ·exact ih (fun w hw=>h w (List.mem_cons_of_mem _ hw)) c z
  exact key ws fun w hw=>(h.2 w hw).2
theorem qwb:∀w∈L8,w.length≤8∧∀c∈w,c<128:=by decide
theorem W.it {α:Type} {b:Bool} {m1 m2:RE α} {Q:α→Prop} (h1:W m1 Q) (h2:W m2 Q):W (if b=true then m1 else m2) Q:=by
 cases b
 ·exact h2
 ·exact h1
theorem qud (ns:List Int) (hn:ns.length≤63) {fl:Int × Int × Int} (hf:FOk fl) {a:Int} (a0:0≤a) (a1:a≤950):W (qmv ns a fl) fun t=>t.length≤250∧∀c∈t,c<128:=by
 have n1:=hf.n1
 have n16:=qoZ hf
 have s1:=hf.s1
 have s2:=hf.s2
 have hm:qip fl.1 fl.2.1=.ok (nC fl):=qfK hf
 obtain⟨ez,z0⟩:=qo7 ns hn (k:=a) a0 (by omega)
 unfold qmv
 rw[ez,hm]
 simp only[RE.bind_ok]
 generalize mv ns a=z at z0
 refine W.bind (P:=fun w=>w∈L8) ?_ fun nm hnm=>?_
 ·have b:=qbQ z (n:=8) (by decide)
  have lt:(z.fmod 8).toNat<L8.length:=by have:L8.length=8:=rfl;omega
  exact⟨_,qbK b.1 (List.getElem?_eq_getElem lt),List.getElem_mem lt⟩
 have nl:∀c∈nm,c<256:=fun c hc=>by have:=(qwb nm hnm).2 c hc;omega
 have b:=qbQ (z.fdiv 8) (n:=nC fl) (by omega)
 rw[qcL (by omega)]
 simp only[RE.bind_ok]
 obtain⟨cs,ec,cl,_,cb⟩:=qo4 ns hn (a:=a+1) (m:=nC fl) (c:=1+(z.fdiv 8).fmod (nC fl)) (by omega) (by omega) (by omega) (by omega) (by omega)
 rw[ec]
 simp only[RE.bind_ok]
 refine W.bind (P:=fun ds=>ds.length≤17∧∀x∈ds,0≤x∧x<200) (W.it ?_ (W.ok ⟨by omega,fun x hx=>by have:=cb x hx;omega⟩)) fun ds ⟨dl,db⟩=>?_
 ·have b1:=qbQ (z.fdiv 768) (n:=(cs.length:Int)+1) (by omega)
  have b2:=qbQ (z.fdiv 768) (n:=90) (by decide)
  have b3:=qbQ (z.fdiv 768) (n:=3) (by decide)
  obtain⟨c0,cs',rfl⟩:∃c0 cs',cs=c0::cs':=by
   cases cs with
   |nil=>simp at cl;omega
   |cons c0 cs'=>exact⟨c0,cs',rfl⟩
  rw[qcL (by omega),qkP]
  simp only[RE.bind_ok]
  have c0b:=cb c0 (by simp)
  refine W.bind (P:=fun ds=>ds.length≤17∧∀x∈ds,0≤x∧x<200) (W.bind (P:=fun v:Int=>0≤v∧v<200) ?_ fun x hx=>?_) fun ds h=>W.ok h
  ·have:(z.fdiv 768).fmod 3=0∨(z.fdiv 768).fmod 3=1∨(z.fdiv 768).fmod 3=2:=by omega
   rcases this with e | e | e<;>rw[e]
   ·exact⟨_,qkP,by omega,by omega⟩
   ·exact⟨_,qpE,by omega,by omega⟩
   ·exact⟨_,qri,by omega,by omega⟩
  ·have b1':=b1
   rw[List.length_cons] at b1 cl
   rw[qsT b1'.1 (by omega) (by rw[List.length_cons];omega)]
   refine W.ok ⟨?_,fun y hy=>?_⟩
   ·rw[List.length_append,List.length_append,List.length_singleton,List.length_take,List.length_drop,List.length_cons]
    omega
   ·rcases List.mem_append.mp hy with q | q
    ·rcases List.mem_append.mp q with q | q
     ·have:=cb y (List.mem_of_mem_take q)
      omega
     ·rw[List.mem_singleton.mp q];exact hx
    ·have:=cb y (List.mem_of_mem_drop q)
     omega
 have bs:=qbQ (z.fdiv 768) (n:=fl.2.2) (by omega)
 rw[qcL (by omega)]
 simp only[RE.bind_ok]
 refine W.bind (P:=fun s=>0≤s∧s<200) (W.it ?_ (W.ok ⟨by omega,by omega⟩)) fun s hs=>?_
 ·have b2:=qbQ (z.fdiv 768) (n:=2) (by decide)
  have:(z.fdiv 768).fmod 2=0∨(z.fdiv 768).fmod 2=1:=by omega
  rcases this with e | e<;>rw[e]
  ·rw[qkP]
   exact W.ok ⟨by decide,by decide⟩
  ·rw[qpE]
   exact W.ok ⟨by omega,by omega⟩
 refine W.bind (P:=fun s=>0≤s∧s<200) ?_ fun n hn'=>?_
 ·have b1:=qbQ (z.fdiv 50000) (n:=100) (by decide)
  have b2:=qbQ (z.fdiv 50000) (n:=12) (by decide)
  have b3:=qbQ (z.fdiv 43008) (n:=4) (by decide)
  have:(z.fdiv 43008).fmod 4=0∨(z.fdiv 43008).fmod 4=1∨(z.fdiv 43008).fmod 4=2∨(z.fdiv 43008).fmod 4=3:=by omega
  rcases this with e | e | e | e<;>rw[e]
  ·exact⟨_,qkP,by omega,by omega⟩
  ·exact⟨_,qpE,by omega,by omega⟩
  ·exact⟨_,qri,by omega,by omega⟩
  ·exact⟨_,quI,by omega,by omega⟩
 have w1:WL 1 [nm]:=WL.one (qwb nm hnm)
 rw[qd7 nl (by decide)]
 simp only[RE.bind_ok]
 refine W.bind (P:=fun ws=>WL 2 ws∧ws≠[]) (W.it ?_ (W.ok ⟨w1.up (by decide),by simp⟩)) fun ws2 ⟨w2,e2⟩=>?_
 ·obtain⟨w,e,hw⟩:=str_ok hn'.1 hn'.2
  rw[e]
  simp only[RE.bind_ok]
  rw[qkQ (by simp)]
  exact W.ok ⟨w1.app (WL.one hw),by simp⟩
 rw[qd7 nl (by decide)]
 simp only[RE.bind_ok]
 refine W.bind (P:=fun ws=>WL 3 ws∧ws≠[]) (W.it ?_ (W.ok ⟨w2.up (by decide),e2⟩)) fun ws3 ⟨w3,e3⟩=>?_
 ·obtain⟨w,e,hw⟩:=str_ok hs.1 hs.2
  have:=w2.1
  rw[e]
  simp only[RE.bind_ok]
  rw[qkQ (by omega)]
  exact W.ok ⟨w2.app (WL.one hw),by simp⟩
 rw[qd7 nl (by decide)]
 simp only[RE.bind_ok]
 refine W.bind (P:=fun ws=>WL 20 ws∧ws≠[]) (W.it ?_ (W.ok ⟨w3.up (by decide),e3⟩)) fun ws4 ⟨w4,e4⟩=>?_
 ·rw[gdl (by omega)]
  obtain⟨ws,e,hw⟩:=qoj db
  have:=w3.1
  have:=hw.1
  rw[e]
  simp only[RE.bind_ok]
  rw[qgy (by omega)]
  refine W.ok ⟨(w3.app hw).up (by omega),?_⟩
  intro z
  exact e3 (List.append_eq_nil_iff.mp z).1
 have l4:=List.length_pos_iff.mpr e4
 have l4':=w4.1
 refine W.bind (P:=fun ws=>WL 20 ws) (W.it ?_ (W.ok w4)) fun ws5 w5=>qvg w5 (by decide)
 have b5:=qbQ (z.fdiv 128) (n:=(ws4.length:Int)) (by omega)
 rw[qcL (by omega)]
 simp only[RE.bind_ok]
 rw[qsQ b5.1 b5.2 (by omega)]
 simp only[RE.bind_ok]
 exact W.ok ⟨Nat.le_trans (List.length_eraseIdx_le _ _) l4',fun w hw=>w4.2 w (List.mem_of_mem_eraseIdx hw)⟩
end K18
namespace K18
open Cm
def Tx (n:Nat) (t:List Nat):Prop:=t.length≤n∧∀c∈t,c<128
theorem qtq {r:List Nat} {n:Nat} (h:Tx n r) (hn:n≤10000) (l u:Option Int):W (qhg r l u) (Tx n):=by
 have:=h.1
 refine⟨qdu r l u,qgt (ql9 (by have:LIM=16777216:=rfl;omega)),?_,?_⟩
 ·unfold qdu
  rw[List.length_take,List.length_drop]
  omega
 ·intro c hc
  unfold qdu at hc
  exact h.2 c (List.mem_of_mem_drop (List.mem_of_mem_take hc))
theorem qfV {a b:List Nat} {n m:Nat} (h:Tx n a) (k:Tx m b) (hn:n+m≤10000):W (qfC a b) (Tx (n+m)):=by
 have h1:=h.1
 have k1:=k.1
 exact⟨_,qlH (by omega),by rw[List.length_append];omega,fun c hc=>(List.mem_append.mp hc).elim (h.2 c) (k.2 c)⟩
theorem qul {z:Int}:W (qfT z) fun c=>c<128:=by
 unfold qfT
 rw[RE.bind_ok,qlH (by decide)]
 simp only[RE.bind_ok]
 generalize hL:(([48,49,50,51,52,53,54,55,56,57,32,48,49,50,51,52,53,54,55,56,57,32,108,107,101,115,116,114,105,103,109,111,32,33,34,35,36,38,39,40,41,42,43,44,45,46,47,58,59,60,61,62,63,64,65,66,67,68,69,70,71,72,73,74,75,76,77,78,79,80,81,82,83,84,85,86,87,88,89,90,91,93,94,95,96,123,124,125,126]:List Nat)++[97,98,99,100,101,102,103,104,105,106,107,108,109,110,111,112,113,114,115,116,117,118,119,120,121,122,92])=L
 have l1:L.length≤1000∧1≤L.length:=by subst hL;decide
 have l2:∀c∈L,c<128:=by subst hL;decide
 have len:qfM L=.ok (L.length:Int):=qgt (ql9 (by have:LIM=16777216:=rfl;omega))
 have b:=qbQ z (n:=(L.length:Int)) (by omega)
 rw[len]
 simp only[RE.bind_ok]
 rw[qcL (by omega)]
 simp only[RE.bind_ok]
 have lt:(z.fmod (L.length:Int)).toNat<L.length:=by omega
 have e:qoR L (z.fmod (L.length:Int))=.ok L[(z.fmod (L.length:Int)).toNat]:=by
  unfold qoR
  rw[gdl (by omega)]
  exact qbK b.1 (List.getElem?_eq_getElem lt)
 exact⟨_,e,l2 _ (List.getElem_mem lt)⟩
theorem qxr {r:List Nat} {n:Nat} (h:Tx n r) (hn:n≤10000):W (qrm r) (Tx n):=by
 have l:=h.1
 have e:upT r=r.map PyProof.Rows.up1:=by
  unfold upT
  rw[PyProof.Rows.upper_ascii (x:=qa1 r) (by simpa[qa1] using h.2)]
  simp[qa1]
 refine⟨upT r,qgt (Nat.ble_eq_true_of_le (by omega)),?_⟩
 rw[e]
 refine⟨by rw[List.length_map];exact l,fun c hc=>?_⟩
 obtain⟨x,hx,rfl⟩:=List.mem_map.mp hc
 have:=h.2 x hx
 unfold PyProof.Rows.up1
 split<;>omega
def quz (fl:Int × Int × Int) (v:Option D):Prop:=∃d,qgz fl v=.ok d∧qcG fl v d=.ok true
section
variable {fl:Int × Int × Int}
theorem qh0 (hf:FOk fl) {t:List Nat} {n:Nat} (h:Tx n t) (hn:n≤1000):quz fl (some (.str t)):=by
 have:=h.1
 exact qpR hf (by omega) fun c hc=>by have:=h.2 c hc;omega
theorem qtz:quz fl none:=by
 refine⟨none,?_,?_⟩
 ·unfold qgz
  rw[show tyE ((eO eD) (none:Option D)) .str=.ok false from rfl]
  rfl
 ·unfold qcG
  have:F.read_rule fl ((eO eD) (none:Option D))=.exc 33 []:=by
   unfold F.read_rule
   rw[show tyE (eD ((eO eD) (none:Option D))) .str=.ok false from rfl]
   rfl
  rw[this]
  rfl
theorem qpc (hf:FOk fl) {m:RE (List Nat)} {n:Nat} (h:W m (Tx n)) (hn:n≤1000):W (m.bind fun x=>RE.ok ((fun x=>some ((eS) x)) x)) (quz fl):=W.bind h fun t ht=>W.ok (qh0 hf ht hn)
theorem qnZ (hf:FOk fl) {r:List Nat} {z:Int} (h:Tx 250 r):W (qdi r z) (quz fl):=by
 have l:=h.1
 have len:qfM r=.ok (r.length:Int):=qgt (ql9 (by have:LIM=16777216:=rfl;omega))
 have sg:W ((qfT (z.fdiv 1000)).bind fun x6=>RE.ok ((fun c=>[c]) x6)) (Tx 1):=W.bind qul fun c hc=>W.ok ⟨Nat.le_refl _,fun x hx=>by rw[List.mem_singleton.mp hx];exact hc⟩
 have cut:=fun l u=>qtq h (by decide) l u
 unfold qdi
 rw[len]
 simp only[RE.bind_ok]
 rw[qcL (by omega),qcL (by omega)]
 simp only[RE.bind_ok]
 generalize (z.fdiv 10).fmod ((r.length:Int)+1)=at'
 generalize (z.fdiv 1000).fmod ((r.length:Int)+1)=at2
 refine W.it (qpc hf (n:=501) ?_ (by decide)) (W.it (qpc hf (n:=501) ?_ (by decide)) (W.it (qpc hf (n:=500) ?_ (by decide)) (W.it (qpc hf (n:=500) ?_ (by decide)) (W.it ?_ (W.ok (qh0 hf h (by decide)))))))
 ·exact W.bind (W.bind (cut _ _) fun a ha=>W.bind sg fun b hb=>qfV ha hb (by decide)) fun a ha=>W.bind (cut _ _) fun b hb=>qfV ha hb (by decide)
 ·exact W.bind (W.bind (cut _ _) fun a ha=>W.bind sg fun b hb=>qfV ha hb (by decide)) fun a ha=>W.bind (cut _ _) fun b hb=>qfV ha hb (by decide)
 ·exact W.bind (cut _ _) fun a ha=>W.bind (cut _ _) fun b hb=>qfV ha hb (by decide)
 ·exact W.bind (cut _ _) fun a ha=>W.bind (cut _ _) fun b hb=>qfV ha hb (by decide)
 ·have bl:Tx 1 [32]:=⟨Nat.le_refl _,by decide⟩
  obtain⟨t1,e1,h1⟩:=qfV bl h (by decide)
  obtain⟨t2,e2,h2⟩:=qfV h bl (by decide)
  obtain⟨t3,e3,h3⟩:=qxr h (by decide)
  rw[e1,e2,e3]
  simp only[RE.bind_ok]
  have b:=qbQ (z.fdiv 10) (n:=9) (by decide)
  have:(z.fdiv 10).fmod 9=0∨(z.fdiv 10).fmod 9=1∨(z.fdiv 10).fmod 9=2∨(z.fdiv 10).fmod 9=3∨(z.fdiv 10).fmod 9=4∨(z.fdiv 10).fmod 9=5∨(z.fdiv 10).fmod 9=6∨(z.fdiv 10).fmod 9=7∨(z.fdiv 10).fmod 9=8:=by omega
  have oth:∀v:D,(∀t,v≠.str t)→(∀c fs,v≠.ins c fs∧v≠.exc c fs)→quz fl (some v):=fun v h k=>qqe h k
  rcases this with e | e | e | e | e | e | e | e | e<;>rw[e]
  ·exact⟨_,qkP,qtz⟩
  ·exact⟨_,qpE,oth _ (fun t q=>nomatch q) fun c fs=>⟨(fun q=>nomatch q),(fun q=>nomatch q)⟩⟩
  ·exact⟨_,qri,oth _ (fun t q=>nomatch q) fun c fs=>⟨(fun q=>nomatch q),(fun q=>nomatch q)⟩⟩
  ·exact⟨_,quI,oth _ (fun t q=>nomatch q) fun c fs=>⟨(fun q=>nomatch q),(fun q=>nomatch q)⟩⟩
  ·exact⟨_,qbK (by decide) rfl,oth _ (fun t q=>nomatch q) fun c fs=>⟨(fun q=>nomatch q),(fun q=>nomatch q)⟩⟩
  ·exact⟨_,qbK (by decide) rfl,qh0 hf (n:=0) ⟨Nat.le_refl _,fun c hc=>nomatch hc⟩ (by decide)⟩
  ·exact⟨_,qbK (by decide) rfl,qh0 hf h1 (by decide)⟩
  ·exact⟨_,qbK (by decide) rfl,qh0 hf h2 (by decide)⟩
  ·exact⟨_,qbK (by decide) rfl,qh0 hf h3 (by decide)⟩
end
theorem main (ns:List Int) (hn:ns.length≤63):qnP ns=.ok true:=by
 unfold qnP
 rw[(qo7 ns hn (k:=400) (by decide) (by decide)).1]
 simp only[RE.bind_ok]
 obtain⟨fl,ef,hf⟩:=qpF (z:=mv ns 400)
 rw[ef]
 simp only[RE.bind_ok]
 have q:(1:Int)≤1+((ns.length:Int).fdiv 3):=by
  rw[qju (by decide)]
  omega
 generalize hm:(if (1+((ns.length:Int).fdiv 3))<12 then (1+((ns.length:Int).fdiv 3)) else 12)=m
 have hm':0≤m∧m≤12:=by
  subst hm
  split<;>omega
 rw[qfu (by omega) hm'.1]
 simp only[RE.bind_ok]
 rw[qrV fun j hj=>?_]
 ·rfl
 have hj:=qix.mp hj
 have j1:0≤j∧j<12:=by omega
 obtain⟨r,er,hr⟩:=qud ns hn hf (a:=500+40*j) (by omega) (by omega)
 obtain⟨v,ev',hv⟩:=qnZ (fl:=fl) (z:=mv ns (530+40*j)) hf (r:=r) hr
 obtain⟨d,ed,hd⟩:=hv
 simp only[er,RE.bind_ok,(qo7 ns hn (k:=530+40*j) (by omega) (by omega)).1,ev',ed,hd,Bool.not_true,Bool.false_eq_true,if_false]
 have g:qcG fl (some (eS [114,105,115,105,110,103,32,48])) (some ([114,105,115,105,110,103],([0]:List Int).map some,some 0,some 0))=.ok true:=qoF hf
 rw[g]
 rfl
theorem law_true:∀ns:List Int,ns.length≤63→(∀z∈ns,PySem.Builtin.Int.intBits z≤1048576)→∃b,g_law [.lst (ns.map D.int)]=.ok (.val (.bl true) b):=
 fun ns hn _=>qts (qvr ns) (main ns hn)
end K18
set_option maxHeartbeats 0
namespace K18
open Cm PySem PySem.Spec PyProof.Rows L2
def FL:Nat→List Str:=fun c=>match c with
 |0=>["ground","cells","wanted","of_sign"]
 |1=>["ground","cells","wanted","of_sign"]
 |2=>["ground","cells","wanted","of_sign"]
 |3=>["ground","cells","wanted","of_sign"]
 |4=>["ground","cells","wanted","of_sign"]
 |5=>["ground","cells","wanted","of_sign"]
 |6=>["ground","cells","wanted","of_sign"]
 |7=>["ground","cells","wanted","of_sign"]
 |_=>[]
def GK (K:PySem.W.Frag):Glo:=⟨K,fun c=>match c with
 |0=>He.ga K "Unlike"
 |1=>He.ga K "Total"
 |2=>He.ga K "Rising"
 |3=>He.ga K "Seen"
 |4=>He.ga K "Counted"
 |5=>He.ga K "Joined"
 |6=>He.ga K "NoSquare"
 |7=>He.ga K "Ring"
 |33=>He.ga K "NoRule"
 |_=>0,FL⟩
def qcN:Tb:={ N:=["_law_number_here","_law_sizes","_law_high","_law_wide"],fn:=[],gc:=[],mn:=[],fs:=[],nw:=[],ck:=[],xk:=[],dc:=[] }
theorem qjl:FnScope qcN.N ["_law_number_here"] (defScope (top 36)):=⟨rfl,rfl,rfl,by decide +kernel,rfl,by decide +kernel,by decide +kernel⟩
theorem qjt:qar qcN (defScope (top 36)) qce (defBody (top 36))=true:=by decide +kernel
def qcY:Tb:={ N:=["_law_script","_law_k","_law_number_here","_law_cell"],fn:=[],gc:=[],mn:=[],fs:=[],nw:=[],ck:=[],xk:=[],dc:=[] }
theorem qjo:FnScope qcY.N ["_law_script","_law_k"] (defScope (top 35)):=⟨rfl,rfl,rfl,by decide +kernel,rfl,by decide +kernel,by decide +kernel⟩
theorem qkn:qar qcY (defScope (top 35)) qcc (defBody (top 35))=true:=by decide +kernel
def qcS:Tb:={ N:=["_law_script","_law_at","_law_many","_law_count","_law_left","_law_found","_law_k"],fn:=[("_law_mixed",2)],gc:=[],mn:=[],fs:=[],nw:=[],ck:=[],xk:=[],dc:=[] }
theorem qjd:FnScope qcS.N ["_law_script","_law_at","_law_many","_law_count"] (defScope (top 37)):=⟨rfl,rfl,rfl,by decide +kernel,rfl,by decide +kernel,by decide +kernel⟩
theorem qjR:qar qcS (defScope (top 37)) qca (defBody (top 37))=true:=by decide +kernel
def qes:Tb:={ N:=["_law_script","_law_at","_law_floor_here","_law_number_here","_law_many","_law_name","_law_cells_here","_law_sign_here","_law_wanted","_law_words","_law_cell"],fn:=[("_law_mixed",2),("_law_cells",4)],gc:=[],mn:=[],fs:=[],nw:=[],ck:=[],xk:=[],dc:=[] }
theorem qml:FnScope qes.N ["_law_script","_law_at","_law_floor_here"] (defScope (top 42)):=⟨rfl,rfl,rfl,by decide +kernel,rfl,by decide +kernel,by decide +kernel⟩
theorem qmn:qar qes (defScope (top 42)) qdd (defBody (top 42))=true:=by decide +kernel
def qdw:Tb:={ N:=["_law_number_here","_law_signs"],fn:=[],gc:=[],mn:=[],fs:=[],nw:=[],ck:=[],xk:=[],dc:=[] }
theorem qk1:FnScope qdw.N ["_law_number_here"] (defScope (top 43)):=⟨rfl,rfl,rfl,by decide +kernel,rfl,by decide +kernel,by decide +kernel⟩
theorem qlf:qar qdw (defScope (top 43)) qcs (defBody (top 43))=true:=by decide +kernel
def qb1:Tb:={ N:=["_law_row_here","_law_number_here","_law_way","_law_at"],fn:=[("_law_sign",1)],gc:=[],mn:=[],fs:=[],nw:=[],ck:=[],xk:=[],dc:=[] }
theorem qhz:FnScope qb1.N ["_law_row_here","_law_number_here"] (defScope (top 44)):=⟨rfl,rfl,rfl,by decide +kernel,rfl,by decide +kernel,by decide +kernel⟩
theorem qhK:qar qb1 (defScope (top 44)) qbx (defBody (top 44))=true:=by decide +kernel
def qdy:Tb:={ N:=["word","sign"],fn:=[],gc:=["LONGEST","FIGURES"],mn:=[],fs:=[],nw:=[],ck:=[],xk:=["NoRule"],dc:=[] }
theorem qll:FnScope qdy.N ["word"] (defScope (top 29)):=⟨rfl,rfl,rfl,by decide +kernel,rfl,by decide +kernel,by decide +kernel⟩
theorem qkK:qar qdy (defScope (top 29)) qcI (defBody (top 29))=true:=by decide +kernel
def qdJ:Tb:={ N:=["floor","numbers","at"],fn:=[],gc:=[],mn:=[],fs:=[],nw:=[],ck:=[],xk:=["NoRule"],dc:=[] }
theorem qk3:FnScope qdJ.N ["floor","numbers","at"] (defScope (top 30)):=⟨rfl,rfl,rfl,by decide +kernel,rfl,by decide +kernel,by decide +kernel⟩
theorem qle:qar qdJ (defScope (top 30)) qcv (defBody (top 30))=true:=by decide +kernel
def qcZ:Tb:={ N:=["floor"],fn:=[],gc:=[],mn:=[],fs:=[],nw:=[],ck:=[],xk:=[],dc:=[] }
theorem qjT:FnScope qcZ.N ["floor"] (defScope (top 15)):=⟨rfl,rfl,rfl,by decide +kernel,rfl,by decide +kernel,by decide +kernel⟩
theorem qjW:qar qcZ (defScope (top 15)) qcf (defBody (top 15))=true:=by decide +kernel
def qah:Tb:={ N:=["self","ground","cells","wanted","of_sign"],fn:=[],gc:=[],mn:=[],fs:=["ground","cells","wanted","of_sign"],nw:=[],ck:=[],xk:=[],dc:=[] }
theorem qaA:FnScope qah.N ["self","ground","cells","wanted","of_sign"] (defScope (sub 17 0)):=⟨rfl,rfl,rfl,by decide +kernel,rfl,by decide +kernel,by decide +kernel⟩
theorem qax:qar qah (defScope (sub 17 0)) qab (defBody (sub 17 0))=true:=by decide +kernel
def qc0:Tb:={ N:=["floor","word","numbers","sign","cells"],fn:=[("sign_told",3),("many_cells",1)],gc:=[],mn:=[],fs:=[],nw:=[("Joined",4),("NoSquare",4),("Ring",4)],ck:=[],xk:=["NoRule"],dc:=[] }
theorem qks:FnScope qc0.N ["floor","word","numbers"] (defScope (top 32)):=⟨rfl,rfl,rfl,by decide +kernel,rfl,by decide +kernel,by decide +kernel⟩
theorem qjI:qar qc0 (defScope (top 32)) qcg (defBody (top 32))=true:=by decide +kernel
def qcV:Tb:={ N:=["floor","numbers"],fn:=[("many_cells",1)],gc:=[],mn:=[],fs:=[],nw:=[],ck:=[],xk:=["NoRule"],dc:=[] }
theorem qkk:FnScope qcV.N ["floor","numbers"] (defScope (top 31)):=⟨rfl,rfl,rfl,by decide +kernel,rfl,by decide +kernel,by decide +kernel⟩
theorem qjm:qar qcV (defScope (top 31)) qb5 (defBody (top 31))=true:=by decide +kernel
def qdF:Tb:={ N:=["floor","line","words","word","numbers","one","sign","cells"],fn:=[("number_of",1),("whole_rule",3),("cells_told",2),("sign_told",3)],gc:=[],mn:=[],fs:=[],nw:=[("Unlike",4),("Rising",4),("Counted",4),("Total",4),("Seen",4)],ck:=[],xk:=["NoRule"],dc:=[] }
theorem qk4:FnScope qdF.N ["floor","line"] (defScope (top 33)):=⟨rfl,rfl,rfl,by decide +kernel,rfl,by decide +kernel,by decide +kernel⟩
theorem qk6:qar qdF (defScope (top 33)) qcA (defBody (top 33))=true:=by decide +kernel
def qc2:Tb:={ N:=["_law_found"],fn:=[],gc:=[],mn:=[],fs:=[],nw:=[],ck:=[],xk:=[],dc:=[] }
theorem qjF:FnScope qc2.N ["_law_found"] (defScope (top 38)):=⟨rfl,rfl,rfl,by decide +kernel,rfl,by decide +kernel,by decide +kernel⟩
theorem qjj:qar qc2 (defScope (top 38)) qb8 (defBody (top 38))=true:=by decide +kernel
def qcq:Tb:={ N:=["self"],fn:=[],gc:=[],mn:=[],fs:=[],nw:=[],ck:=[],xk:=[],dc:=[] }
theorem qiG:FnScope qcq.N ["self"] (defScope (sub 18 0)):=⟨rfl,rfl,rfl,by decide +kernel,rfl,by decide +kernel,by decide +kernel⟩
theorem qis:qar qcq (defScope (sub 18 0)) qbM (defBody (sub 18 0))=true:=by decide +kernel
def qc4:Tb:={ N:=["self"],fn:=[],gc:=[],mn:=[],fs:=[],nw:=[],ck:=[],xk:=[],dc:=[] }
theorem qkl:FnScope qc4.N ["self"] (defScope (sub 19 0)):=⟨rfl,rfl,rfl,by decide +kernel,rfl,by decide +kernel,by decide +kernel⟩
theorem qke:qar qc4 (defScope (sub 19 0)) qcb (defBody (sub 19 0))=true:=by decide +kernel
def qcn:Tb:={ N:=["self"],fn:=[],gc:=[],mn:=[],fs:=[],nw:=[],ck:=[],xk:=[],dc:=[] }
theorem qiZ:FnScope qcn.N ["self"] (defScope (sub 20 0)):=⟨rfl,rfl,rfl,by decide +kernel,rfl,by decide +kernel,by decide +kernel⟩
theorem qin:qar qcn (defScope (sub 20 0)) qbT (defBody (sub 20 0))=true:=by decide +kernel
def qdD:Tb:={ N:=["self"],fn:=[],gc:=[],mn:=[],fs:=[],nw:=[],ck:=[],xk:=[],dc:=[] }
theorem qkF:FnScope qdD.N ["self"] (defScope (sub 21 0)):=⟨rfl,rfl,rfl,by decide +kernel,rfl,by decide +kernel,by decide +kernel⟩
theorem qkE:qar qdD (defScope (sub 21 0)) qcJ (defBody (sub 21 0))=true:=by decide +kernel
def qb2:Tb:={ N:=["self"],fn:=[],gc:=[],mn:=[],fs:=[],nw:=[],ck:=[],xk:=[],dc:=[] }
theorem qhH:FnScope qb2.N ["self"] (defScope (sub 22 0)):=⟨rfl,rfl,rfl,by decide +kernel,rfl,by decide +kernel,by decide +kernel⟩
theorem qhy:qar qb2 (defScope (sub 22 0)) qbw (defBody (sub 22 0))=true:=by decide +kernel
def qco:Tb:={ N:=["self"],fn:=[],gc:=[],mn:=[],fs:=[],nw:=[],ck:=[],xk:=[],dc:=[] }
theorem qi0:FnScope qco.N ["self"] (defScope (sub 23 0)):=⟨rfl,rfl,rfl,by decide +kernel,rfl,by decide +kernel,by decide +kernel⟩
theorem qiI:qar qco (defScope (sub 23 0)) qbI (defBody (sub 23 0))=true:=by decide +kernel
def qbH:Tb:={ N:=["self"],fn:=[],gc:=[],mn:=[],fs:=[],nw:=[],ck:=[],xk:=[],dc:=[] }
theorem qgW:FnScope qbH.N ["self"] (defScope (sub 24 0)):=⟨rfl,rfl,rfl,by decide +kernel,rfl,by decide +kernel,by decide +kernel⟩
theorem qg0:qar qbH (defScope (sub 24 0)) qbi (defBody (sub 24 0))=true:=by decide +kernel
def qdA:Tb:={ N:=["self"],fn:=[],gc:=[],mn:=[],fs:=[],nw:=[],ck:=[],xk:=[],dc:=[] }
theorem qk7:FnScope qdA.N ["self"] (defScope (sub 25 0)):=⟨rfl,rfl,rfl,by decide +kernel,rfl,by decide +kernel,by decide +kernel⟩
theorem qlr:qar qdA (defScope (sub 25 0)) qcy (defBody (sub 25 0))=true:=by decide +kernel
def qaB:Tb:={ N:=["self"],fn:=[],gc:=[],mn:=[],fs:=["cells"],nw:=[],ck:=[],xk:=[],dc:=[] }
theorem qa8:FnScope qaB.N ["self"] (defScope (sub 17 2)):=⟨rfl,rfl,rfl,by decide +kernel,rfl,by decide +kernel,by decide +kernel⟩
theorem qa9:qar qaB (defScope (sub 17 2)) qas (defBody (sub 17 2))=true:=by decide +kernel
def qap:Tb:={ N:=["self"],fn:=[],gc:=[],mn:=[],fs:=["wanted"],nw:=[],ck:=[],xk:=[],dc:=[] }
theorem qaU:FnScope qap.N ["self"] (defScope (sub 17 4)):=⟨rfl,rfl,rfl,by decide +kernel,rfl,by decide +kernel,by decide +kernel⟩
theorem qaV:qar qap (defScope (sub 17 4)) qaj (defBody (sub 17 4))=true:=by decide +kernel
def qaO:Tb:={ N:=["self"],fn:=[],gc:=[],mn:=[],fs:=["of_sign"],nw:=[],ck:=[],xk:=[],dc:=[] }
theorem qbm:FnScope qaO.N ["self"] (defScope (sub 17 5)):=⟨rfl,rfl,rfl,by decide +kernel,rfl,by decide +kernel,by decide +kernel⟩
theorem qbn:qar qaO (defScope (sub 17 5)) qaE (defBody (sub 17 5))=true:=by decide +kernel
def qaM:Tb:={ N:=["self"],fn:=[],gc:=[],mn:=[],fs:=["cells"],nw:=[],ck:=[],xk:=[],dc:=[] }
theorem qcK:FnScope qaM.N ["self"] (defScope (sub 17 8)):=⟨rfl,rfl,rfl,by decide +kernel,rfl,by decide +kernel,by decide +kernel⟩
theorem qcC:qar qaM (defScope (sub 17 8)) qav (defBody (sub 17 8))=true:=by decide +kernel
def qa2:Tb:={ N:=["self"],fn:=[],gc:=[],mn:=[],fs:=["wanted","cells"],nw:=[],ck:=[],xk:=[],dc:=[] }
theorem qeC:FnScope qa2.N ["self"] (defScope (sub 19 3)):=⟨rfl,rfl,rfl,by decide +kernel,rfl,by decide +kernel,by decide +kernel⟩
theorem qeB:qar qa2 (defScope (sub 19 3)) qaG (defBody (sub 19 3))=true:=by decide +kernel
def qbd:Tb:={ N:=["self"],fn:=[],gc:=[],mn:=[],fs:=["wanted","cells"],nw:=[],ck:=[],xk:=[],dc:=[] }
theorem qe1:FnScope qbd.N ["self"] (defScope (sub 21 3)):=⟨rfl,rfl,rfl,by decide +kernel,rfl,by decide +kernel,by decide +kernel⟩
theorem qe7:qar qbd (defScope (sub 21 3)) qaP (defBody (sub 21 3))=true:=by decide +kernel
def qaR:Tb:={ N:=["self"],fn:=[],gc:=[],mn:=[],fs:=["wanted","of_sign","cells"],nw:=[],ck:=[],xk:=[],dc:=[] }
theorem qdS:FnScope qaR.N ["self"] (defScope (sub 22 2)):=⟨rfl,rfl,rfl,by decide +kernel,rfl,by decide +kernel,by decide +kernel⟩
theorem qdU:qar qaR (defScope (sub 22 2)) qau (defBody (sub 22 2))=true:=by decide +kernel
def qaW:Tb:={ N:=["self"],fn:=[],gc:=[],mn:=[],fs:=["of_sign"],nw:=[],ck:=[],xk:=[],dc:=[] }
theorem qea:FnScope qaW.N ["self"] (defScope (sub 23 2)):=⟨rfl,rfl,rfl,by decide +kernel,rfl,by decide +kernel,by decide +kernel⟩
theorem qd1:qar qaW (defScope (sub 23 2)) qaw (defBody (sub 23 2))=true:=by decide +kernel
def qaI:Tb:={ N:=["self"],fn:=[],gc:=[],mn:=[],fs:=["of_sign"],nw:=[],ck:=[],xk:=[],dc:=[] }
theorem qdq:FnScope qaI.N ["self"] (defScope (sub 24 2)):=⟨rfl,rfl,rfl,by decide +kernel,rfl,by decide +kernel,by decide +kernel⟩
theorem qdz:qar qaI (defScope (sub 24 2)) qaq (defBody (sub 24 2))=true:=by decide +kernel
def qba:Tb:={ N:=["self"],fn:=[],gc:=[],mn:=[],fs:=["of_sign"],nw:=[],ck:=[],xk:=[],dc:=[] }
theorem qe5:FnScope qba.N ["self"] (defScope (sub 25 2)):=⟨rfl,rfl,rfl,by decide +kernel,rfl,by decide +kernel,by decide +kernel⟩
theorem qe4:qar qba (defScope (sub 25 2)) qaN (defBody (sub 25 2))=true:=by decide +kernel
def qaJ:Tb:={ N:=["self","number"],fn:=[],gc:=[],mn:=[("name",0),("told_numbers",0)],fs:=[],nw:=[],ck:=[],xk:=[],dc:=[] }
theorem qbl:FnScope qaJ.N ["self"] (defScope (sub 17 7)):=⟨rfl,rfl,rfl,by decide +kernel,rfl,by decide +kernel,by decide +kernel⟩
theorem qbo:qar qaJ (defScope (sub 17 7)) qaD (defBody (sub 17 7))=true:=by decide +kernel
def qdt:Tb:={ N:=["_law_floor_here","_law_row_here","_law_due_here","_law_found","_law_caught","error"],fn:=[("read_rule",2),("_law_whole",1)],gc:=[],mn:=[("name",0),("spots",0),("number",0),("sign",0),("line",0)],fs:=[],nw:=[],ck:=[("ClueError",true),("NoRule",true),("ValueError",false),("NoFloor",true),("NoFilling",true),("NoPuzzle",true),("TooMany",true),("NotOne",true),("NoMove",true),("NoText",true),("NoName",true),("NoRow",true),("BadThought",true),("Rule",true)],xk:=[],dc:=[] }
theorem qlq:FnScope qdt.N ["_law_floor_here","_law_row_here","_law_due_here"] (defScope (top 45)):=⟨rfl,rfl,rfl,by decide +kernel,rfl,by decide +kernel,by decide +kernel⟩
theorem qli:qar qdt (defScope (top 45)) qcu (defBody (top 45))=true:=by decide +kernel
def qcl:Tb:={ N:=["_law_word","_law_sign_here","_law_number_here"],fn:=[],gc:=[],mn:=[],fs:=[],nw:=[],ck:=[],xk:=[],dc:=[] }
theorem qiN:FnScope qcl.N ["_law_word"] (defScope (top 39)):=⟨rfl,rfl,rfl,by decide +kernel,rfl,by decide +kernel,by decide +kernel⟩
theorem qiV:qar qcl (defScope (top 39)) qbW (defBody (top 39))=true:=by decide +kernel
def qbO:Tb:={ N:=["_law_floor_here","_law_name","_law_number_here","_law_sign_here","_law_cells_here","_law_many"],fn:=[],gc:=[],mn:=[],fs:=[],nw:=[],ck:=[],xk:=[],dc:=[] }
theorem qhn:FnScope qbO.N ["_law_floor_here","_law_name","_law_number_here","_law_sign_here","_law_cells_here"] (defScope (top 40)):=⟨rfl,rfl,rfl,by decide +kernel,rfl,by decide +kernel,by decide +kernel⟩
theorem qgQ:qar qbO (defScope (top 40)) qbq (defBody (top 40))=true:=by decide +kernel
def qer:Tb:={ N:=["_law_floor_here","_law_row_here","_law_words","_law_name","_law_numbers","_law_word"],fn:=[("_law_number",1),("_law_of_cells",5)],gc:=[],mn:=[],fs:=[],nw:=[],ck:=[],xk:=[],dc:=[] }
theorem qmI:FnScope qer.N ["_law_floor_here","_law_row_here"] (defScope (top 41)):=⟨rfl,rfl,rfl,by decide +kernel,rfl,by decide +kernel,by decide +kernel⟩
theorem qmq:qar qer (defScope (top 41)) qdn (defBody (top 41))=true:=by decide +kernel
def qpX:Tb:={ N:=["_law_script","_law_floor_here","_law_j","_law_row_here"],fn:=[("_law_floor",1),("_law_mixed",2),("_law_row",3),("_law_spoiled",2),("_law_read",3),("_law_due",2)],gc:=[],mn:=[],fs:=[],nw:=[],ck:=[],xk:=[],dc:=[] }
theorem qvt:FnScope qpX.N ["_law_script"] (defScope (top 46)):=⟨rfl,rfl,rfl,by decide +kernel,rfl,by decide +kernel,by decide +kernel⟩
theorem qvw:qar qpX (defScope (top 46)) qnv (defBody (top 46))=true:=by decide +kernel
section
variable {P:Program} {w:World} {K:PySem.W.Frag} {h:Heap} {mg:Str→Option Value} {base:Heap}
section
variable (c:He.SaysD fa fn K) (cx:qs5 xa K=true) (ct:qvY ts w K) (X:K.In h) (N:h.Ns mainGlobals mg)
include c cx ct X N
theorem qkd:TabOk P w K mg base qcN qcW (GK K) 0:=
 qdO (mts:=[]) (fds:=[]) c X N trivial trivial rfl trivial rfl trivial trivial trivial trivial trivial
theorem qi7:DefAt P w K mg base (GK K) 1 "_law_floor" 1 g__law_floor:=
 qjG (G:=GK K) (T:=qcN) (Γ:=qcW) (k:=0) (m:=3) (i:=0) (j:=21) (ir:=qce) (ps:=["_law_number_here"]) (d:=qgf) c X N rfl rfl rfl rfl rfl rfl qjl rfl qjt (fun _ _ _ _ _ _ us hl=>match us,hl with | [_],_=>rfl) (qkd c cx ct X N)
theorem qj2:TabOk P w K mg base qcY qcX (GK K) 0:=
 qdO (mts:=[]) (fds:=[]) c X N trivial trivial rfl trivial rfl trivial trivial trivial trivial trivial
theorem qeo:DefAt P w K mg base (GK K) 1 "_law_mixed" 2 g__law_mixed:=
 qjG (G:=GK K) (T:=qcY) (Γ:=qcX) (k:=0) (m:=2) (i:=1) (j:=22) (ir:=qcc) (ps:=["_law_script","_law_k"]) (d:=qgb) c X N rfl rfl rfl rfl rfl rfl qjo rfl qkn (fun _ _ _ _ _ _ us hl=>match us,hl with | [_,_],_=>rfl) (qj2 c cx ct X N)
theorem qjy:TabOk P w K mg base qcS qcR (GK K) 1:=
 qdO (mts:=[]) (fds:=[]) c X N ⟨(qeo c cx ct X N).mono (by decide),trivial⟩ trivial rfl trivial rfl trivial trivial trivial trivial trivial
theorem qj8:DefAt P w K mg base (GK K) 2 "_law_cells" 4 g__law_cells:=
 qjG (G:=GK K) (T:=qcS) (Γ:=qcR) (k:=1) (m:=3) (i:=2) (j:=23) (ir:=qca) (ps:=["_law_script","_law_at","_law_many","_law_count"]) (d:=qf1) c X N rfl rfl rfl rfl rfl rfl qjd rfl qjR (fun _ _ _ _ _ _ us hl=>match us,hl with | [_,_,_,_],_=>rfl) (qjy c cx ct X N)
theorem qmo:TabOk P w K mg base qes qeq (GK K) 2:=
 qdO (mts:=[]) (fds:=[]) c X N ⟨(qeo c cx ct X N).mono (by decide),(qj8 c cx ct X N).mono (by decide),trivial⟩ trivial rfl trivial rfl trivial trivial trivial trivial trivial
theorem qms:DefAt P w K mg base (GK K) 3 "_law_row" 3 g__law_row:=
 qjG (G:=GK K) (T:=qes) (Γ:=qeq) (k:=2) (m:=8) (i:=3) (j:=24) (ir:=qdd) (ps:=["_law_script","_law_at","_law_floor_here"]) (d:=qhO) c X N rfl rfl rfl rfl rfl rfl qml rfl qmn (fun _ _ _ _ _ _ us hl=>match us,hl with | [_,_,_],_=>rfl) (qmo c cx ct X N)
theorem qkR:TabOk P w K mg base qdw qdK (GK K) 0:=
 qdO (mts:=[]) (fds:=[]) c X N trivial trivial rfl trivial rfl trivial trivial trivial trivial trivial
theorem qln:DefAt P w K mg base (GK K) 1 "_law_sign" 1 g__law_sign:=
 qjG (G:=GK K) (T:=qdw) (Γ:=qdK) (k:=0) (m:=1) (i:=4) (j:=25) (ir:=qcs) (ps:=["_law_number_here"]) (d:=qgC) c X N rfl rfl rfl rfl rfl rfl qk1 rfl qlf (fun _ _ _ _ _ _ us hl=>match us,hl with | [_],_=>rfl) (qkR c cx ct X N)
theorem qhw:TabOk P w K mg base qb1 qb0 (GK K) 1:=
 qdO (mts:=[]) (fds:=[]) c X N ⟨(qln c cx ct X N).mono (by decide),trivial⟩ trivial rfl trivial rfl trivial trivial trivial trivial trivial
theorem qhB:DefAt P w K mg base (GK K) 2 "_law_spoiled" 2 g__law_spoiled:=
 qjG (G:=GK K) (T:=qb1) (Γ:=qb0) (k:=1) (m:=2) (i:=5) (j:=26) (ir:=qbx) (ps:=["_law_row_here","_law_number_here"]) (d:=qeQ) c X N rfl rfl rfl rfl rfl rfl qhz rfl qhK (fun _ _ _ _ _ _ us hl=>match us,hl with | [_,_],_=>rfl) (qhw c cx ct X N)
theorem qkA:TabOk P w K mg base qdy qdH (GK K) 0:=
 qdO (mts:=[]) (fds:=[]) c X N trivial ⟨qt9 (j:=29) c X N rfl,quC (j:=30) c X N rfl,trivial⟩ rfl trivial rfl trivial trivial trivial ⟨rs1 (j:=27) (j2:=28) c X N rfl rfl rfl,trivial⟩ trivial
theorem qlb:DefAt P w K mg base (GK K) 1 "number_of" 1 g_number_of:=
 qjG (G:=GK K) (T:=qdy) (Γ:=qdH) (k:=0) (m:=1) (i:=6) (j:=31) (ir:=qcI) (ps:=["word"]) (d:=qhq) c X N rfl rfl rfl rfl rfl rfl qll rfl qkK (fun _ _ _ _ _ _ us hl=>match us,hl with | [_],_=>rfl) (qkA c cx ct X N)
theorem qlg:TabOk P w K mg base qdJ qdG (GK K) 0:=
 qdO (mts:=[]) (fds:=[]) c X N trivial trivial rfl trivial rfl trivial trivial trivial ⟨rs1 (j:=27) (j2:=28) c X N rfl rfl rfl,trivial⟩ trivial
theorem qhh:DefAt P w K mg base (GK K) 1 "sign_told" 3 g_sign_told:=
 qjG (G:=GK K) (T:=qdJ) (Γ:=qdG) (k:=0) (m:=0) (i:=7) (j:=32) (ir:=qcv) (ps:=["floor","numbers","at"]) (d:=qhc) c X N rfl rfl rfl rfl rfl rfl qk3 rfl qle (fun _ _ _ _ _ _ us hl=>match us,hl with | [_,_,_],_=>rfl) (qlg c cx ct X N)
theorem qkr:TabOk P w K mg base qcZ qc3 (GK K) 0:=
 qdO (mts:=[]) (fds:=[]) c X N trivial trivial rfl trivial rfl trivial trivial trivial trivial trivial
theorem qf0:DefAt P w K mg base (GK K) 1 "many_cells" 1 g_many_cells:=
 qjG (G:=GK K) (T:=qcZ) (Γ:=qc3) (k:=0) (m:=0) (i:=8) (j:=33) (ir:=qcf) (ps:=["floor"]) (d:=qf6) c X N rfl rfl rfl rfl rfl rfl qjT rfl qjW (fun _ _ _ _ _ _ us hl=>match us,hl with | [_],_=>rfl) (qkr c cx ct X N)
theorem qaz:TabOk P w K mg base qah qad (GK K) 0:=
 qdO (mts:=[]) (fds:=[(0,0,0),(1,0,0),(2,0,0),(3,0,0),(4,0,0),(5,0,0),(6,0,0),(7,0,0),(0,1,1),(1,1,1),(2,1,1),(3,1,1),(4,1,1),(5,1,1),(6,1,1),(7,1,1),(0,2,2),(1,2,2),(2,2,2),(3,2,2),(4,2,2),(5,2,2),(6,2,2),(7,2,2),(0,3,3),(1,3,3),(2,3,3),(3,3,3),(4,3,3),(5,3,3),(6,3,3),(7,3,3)]) c X N trivial trivial rfl trivial rfl ⟨fun x e=>by cases e;exact fd1 (j:=34) (j2:=35) c rfl rfl rfl rfl (show(FL 0).Nodup by decide),fun x e=>by cases e;exact fd1 (j:=36) (j2:=37) c rfl rfl rfl rfl (show(FL 1).Nodup by decide),fun x e=>by cases e;exact fd1 (j:=38) (j2:=39) c rfl rfl rfl rfl (show(FL 2).Nodup by decide),fun x e=>by cases e;exact fd1 (j:=40) (j2:=41) c rfl rfl rfl rfl (show(FL 3).Nodup by decide),fun x e=>by cases e;exact fd1 (j:=42) (j2:=43) c rfl rfl rfl rfl (show(FL 4).Nodup by decide),fun x e=>by cases e;exact fd1 (j:=44) (j2:=45) c rfl rfl rfl rfl (show(FL 5).Nodup by decide),fun x e=>by cases e;exact fd1 (j:=46) (j2:=47) c rfl rfl rfl rfl (show(FL 6).Nodup by decide),fun x e=>by cases e;exact fd1 (j:=48) (j2:=49) c rfl rfl rfl rfl (show(FL 7).Nodup by decide),fun x e=>by cases e;exact fd1 (j:=34) (j2:=50) c rfl rfl rfl rfl (show(FL 0).Nodup by decide),fun x e=>by cases e;exact fd1 (j:=36) (j2:=51) c rfl rfl rfl rfl (show(FL 1).Nodup by decide),fun x e=>by cases e;exact fd1 (j:=38) (j2:=52) c rfl rfl rfl rfl (show(FL 2).Nodup by decide),fun x e=>by cases e;exact fd1 (j:=40) (j2:=53) c rfl rfl rfl rfl (show(FL 3).Nodup by decide),fun x e=>by cases e;exact fd1 (j:=42) (j2:=54) c rfl rfl rfl rfl (show(FL 4).Nodup by decide),fun x e=>by cases e;exact fd1 (j:=44) (j2:=55) c rfl rfl rfl rfl (show(FL 5).Nodup by decide),fun x e=>by cases e;exact fd1 (j:=46) (j2:=56) c rfl rfl rfl rfl (show(FL 6).Nodup by decide),fun x e=>by cases e;exact fd1 (j:=48) (j2:=57) c rfl rfl rfl rfl (show(FL 7).Nodup by decide),fun x e=>by cases e;exact fd1 (j:=34) (j2:=58) c rfl rfl rfl rfl (show(FL 0).Nodup by decide),fun x e=>by cases e;exact fd1 (j:=36) (j2:=59) c rfl rfl rfl rfl (show(FL 1).Nodup by decide),fun x e=>by cases e;exact fd1 (j:=38) (j2:=60) c rfl rfl rfl rfl (show(FL 2).Nodup by decide),fun x e=>by cases e;exact fd1 (j:=40) (j2:=61) c rfl rfl rfl rfl (show(FL 3).Nodup by decide),fun x e=>by cases e;exact fd1 (j:=42) (j2:=62) c rfl rfl rfl rfl (show(FL 4).Nodup by decide),fun x e=>by cases e;exact fd1 (j:=44) (j2:=63) c rfl rfl rfl rfl (show(FL 5).Nodup by decide),fun x e=>by cases e;exact fd1 (j:=46) (j2:=64) c rfl rfl rfl rfl (show(FL 6).Nodup by decide),fun x e=>by cases e;exact fd1 (j:=48) (j2:=65) c rfl rfl rfl rfl (show(FL 7).Nodup by decide),fun x e=>by cases e;exact fd1 (j:=34) (j2:=66) c rfl rfl rfl rfl (show(FL 0).Nodup by decide),fun x e=>by cases e;exact fd1 (j:=36) (j2:=67) c rfl rfl rfl rfl (show(FL 1).Nodup by decide),fun x e=>by cases e;exact fd1 (j:=38) (j2:=68) c rfl rfl rfl rfl (show(FL 2).Nodup by decide),fun x e=>by cases e;exact fd1 (j:=40) (j2:=69) c rfl rfl rfl rfl (show(FL 3).Nodup by decide),fun x e=>by cases e;exact fd1 (j:=42) (j2:=70) c rfl rfl rfl rfl (show(FL 4).Nodup by decide),fun x e=>by cases e;exact fd1 (j:=44) (j2:=71) c rfl rfl rfl rfl (show(FL 5).Nodup by decide),fun x e=>by cases e;exact fd1 (j:=46) (j2:=72) c rfl rfl rfl rfl (show(FL 6).Nodup by decide),fun x e=>by cases e;exact fd1 (j:=48) (j2:=73) c rfl rfl rfl rfl (show(FL 7).Nodup by decide),trivial⟩ trivial trivial trivial trivial
theorem qo3:NwAt P w K mg base (GK K) 2 "Unlike" 4 0 ini_Unlike:=
 qqP (G:=GK K) (T:=qah) (Γ:=qad) (k:=0) (m:=0) (i:=66) (j:=74) (j2:=75) (ir:=qab) (ps:=["self","ground","cells","wanted","of_sign"]) (d:=qdk) (cn:=0) c X N rfl rfl rfl rfl rfl rfl rfl rfl rfl rfl qaA rfl qax (fun _ _ _ _ _ _ us hl=>match us,hl with | [_,_,_,_,_],_=>rfl) (qaz c cx ct X N)
theorem qsi:NwAt P w K mg base (GK K) 2 "Total" 4 1 ini_Total:=
 qqP (G:=GK K) (T:=qah) (Γ:=qad) (k:=0) (m:=0) (i:=67) (j:=76) (j2:=77) (ir:=qab) (ps:=["self","ground","cells","wanted","of_sign"]) (d:=qdN) (cn:=1) c X N rfl rfl rfl rfl rfl rfl rfl rfl rfl rfl qaA rfl qax (fun _ _ _ _ _ _ us hl=>match us,hl with | [_,_,_,_,_],_=>rfl) (qaz c cx ct X N)
theorem qqf:NwAt P w K mg base (GK K) 2 "Rising" 4 2 ini_Rising:=
 qqP (G:=GK K) (T:=qah) (Γ:=qad) (k:=0) (m:=0) (i:=68) (j:=78) (j2:=79) (ir:=qab) (ps:=["self","ground","cells","wanted","of_sign"]) (d:=qdf) (cn:=2) c X N rfl rfl rfl rfl rfl rfl rfl rfl rfl rfl qaA rfl qax (fun _ _ _ _ _ _ us hl=>match us,hl with | [_,_,_,_,_],_=>rfl) (qaz c cx ct X N)
theorem qtl:NwAt P w K mg base (GK K) 2 "Seen" 4 3 ini_Seen:=
 qqP (G:=GK K) (T:=qah) (Γ:=qad) (k:=0) (m:=0) (i:=69) (j:=80) (j2:=81) (ir:=qab) (ps:=["self","ground","cells","wanted","of_sign"]) (d:=qd8) (cn:=3) c X N rfl rfl rfl rfl rfl rfl rfl rfl rfl rfl qaA rfl qax (fun _ _ _ _ _ _ us hl=>match us,hl with | [_,_,_,_,_],_=>rfl) (qaz c cx ct X N)
theorem qnm:NwAt P w K mg base (GK K) 2 "Counted" 4 4 ini_Counted:=
 qqP (G:=GK K) (T:=qah) (Γ:=qad) (k:=0) (m:=0) (i:=70) (j:=82) (j2:=83) (ir:=qab) (ps:=["self","ground","cells","wanted","of_sign"]) (d:=qc5) (cn:=4) c X N rfl rfl rfl rfl rfl rfl rfl rfl rfl rfl qaA rfl qax (fun _ _ _ _ _ _ us hl=>match us,hl with | [_,_,_,_,_],_=>rfl) (qaz c cx ct X N)
theorem qqd:NwAt P w K mg base (GK K) 2 "Joined" 4 5 ini_Joined:=
 qqP (G:=GK K) (T:=qah) (Γ:=qad) (k:=0) (m:=0) (i:=71) (j:=84) (j2:=85) (ir:=qab) (ps:=["self","ground","cells","wanted","of_sign"]) (d:=qdg) (cn:=5) c X N rfl rfl rfl rfl rfl rfl rfl rfl rfl rfl qaA rfl qax (fun _ _ _ _ _ _ us hl=>match us,hl with | [_,_,_,_,_],_=>rfl) (qaz c cx ct X N)
theorem qmz:NwAt P w K mg base (GK K) 2 "NoSquare" 4 6 ini_NoSquare:=
 qqP (G:=GK K) (T:=qah) (Γ:=qad) (k:=0) (m:=0) (i:=72) (j:=86) (j2:=87) (ir:=qab) (ps:=["self","ground","cells","wanted","of_sign"]) (d:=qcE) (cn:=6) c X N rfl rfl rfl rfl rfl rfl rfl rfl rfl rfl qaA rfl qax (fun _ _ _ _ _ _ us hl=>match us,hl with | [_,_,_,_,_],_=>rfl) (qaz c cx ct X N)
theorem qup:NwAt P w K mg base (GK K) 2 "Ring" 4 7 ini_Ring:=
 qqP (G:=GK K) (T:=qah) (Γ:=qad) (k:=0) (m:=0) (i:=73) (j:=88) (j2:=89) (ir:=qab) (ps:=["self","ground","cells","wanted","of_sign"]) (d:=qem) (cn:=7) c X N rfl rfl rfl rfl rfl rfl rfl rfl rfl rfl qaA rfl qax (fun _ _ _ _ _ _ us hl=>match us,hl with | [_,_,_,_,_],_=>rfl) (qaz c cx ct X N)
theorem qjV:TabOk P w K mg base qc0 qcT (GK K) 2:=
 qdO (mts:=[]) (fds:=[]) c X N ⟨(qhh c cx ct X N).mono (by decide),(qf0 c cx ct X N).mono (by decide),trivial⟩ trivial rfl trivial rfl trivial ⟨(qqd c cx ct X N).mono (by decide),(qmz c cx ct X N).mono (by decide),(qup c cx ct X N).mono (by decide),trivial⟩ trivial ⟨rs1 (j:=27) (j2:=28) c X N rfl rfl rfl,trivial⟩ trivial
theorem qjk:DefAt P w K mg base (GK K) 3 "whole_rule" 3 g_whole_rule:=
 qjG (G:=GK K) (T:=qc0) (Γ:=qcT) (k:=2) (m:=2) (i:=9) (j:=90) (ir:=qcg) (ps:=["floor","word","numbers"]) (d:=qgg) c X N rfl rfl rfl rfl rfl rfl qks rfl qjI (fun _ _ _ _ _ _ us hl=>match us,hl with | [_,_,_],_=>rfl) (qjV c cx ct X N)
theorem qjB:TabOk P w K mg base qcV qc1 (GK K) 1:=
 qdO (mts:=[]) (fds:=[]) c X N ⟨(qf0 c cx ct X N).mono (by decide),trivial⟩ trivial rfl trivial rfl trivial trivial trivial ⟨rs1 (j:=27) (j2:=28) c X N rfl rfl rfl,trivial⟩ trivial
theorem qjP:DefAt P w K mg base (GK K) 2 "cells_told" 2 g_cells_told:=
 qjG (G:=GK K) (T:=qcV) (Γ:=qc1) (k:=1) (m:=0) (i:=10) (j:=91) (ir:=qb5) (ps:=["floor","numbers"]) (d:=qgc) c X N rfl rfl rfl rfl rfl rfl qkk rfl qjm (fun _ _ _ _ _ _ us hl=>match us,hl with | [_,_],_=>rfl) (qjB c cx ct X N)
theorem qkT:TabOk P w K mg base qdF qdr (GK K) 3:=
 qdO (mts:=[]) (fds:=[]) c X N ⟨(qlb c cx ct X N).mono (by decide),(qjk c cx ct X N).mono (by decide),(qjP c cx ct X N).mono (by decide),(qhh c cx ct X N).mono (by decide),trivial⟩ trivial rfl trivial rfl trivial ⟨(qo3 c cx ct X N).mono (by decide),(qqf c cx ct X N).mono (by decide),(qnm c cx ct X N).mono (by decide),(qsi c cx ct X N).mono (by decide),(qtl c cx ct X N).mono (by decide),trivial⟩ trivial ⟨rs1 (j:=27) (j2:=28) c X N rfl rfl rfl,trivial⟩ trivial
theorem qkH:DefAt P w K mg base (GK K) 4 "read_rule" 2 g_read_rule:=
 qjG (G:=GK K) (T:=qdF) (Γ:=qdr) (k:=3) (m:=6) (i:=11) (j:=92) (ir:=qcA) (ps:=["floor","line"]) (d:=qg3) c X N rfl rfl rfl rfl rfl rfl qk4 rfl qk6 (fun _ _ _ _ _ _ us hl=>match us,hl with | [_,_],_=>rfl) (qkT c cx ct X N)
theorem qkm:TabOk P w K mg base qc2 qc8 (GK K) 0:=
 qdO (mts:=[]) (fds:=[]) c X N trivial trivial rfl trivial rfl trivial trivial trivial trivial trivial
theorem qi8:DefAt P w K mg base (GK K) 1 "_law_whole" 1 g__law_whole:=
 qjG (G:=GK K) (T:=qc2) (Γ:=qc8) (k:=0) (m:=0) (i:=12) (j:=93) (ir:=qb8) (ps:=["_law_found"]) (d:=qgd) c X N rfl rfl rfl rfl rfl rfl qjF rfl qjj (fun _ _ _ _ _ _ us hl=>match us,hl with | [_],_=>rfl) (qkm c cx ct X N)
theorem qiC:TabOk P w K mg base qcq qck (GK K) 0:=
 qdO (mts:=[]) (fds:=[]) c X N trivial trivial rfl trivial rfl trivial trivial trivial trivial trivial
theorem qft:MthAt P w K mg base (GK K) 1 0 "name" 0 g_Unlike_name:=
 qcr (G:=GK K) (T:=qcq) (Γ:=qck) (k:=0) (m:=0) (i:=18) (j:=94) (j2:=34) (ir:=qbM) (ps:=["self"]) (d:=qfb) (cn:=0) c rfl rfl rfl rfl rfl rfl rfl rfl (show("name" : Str)∉FL 0 by decide) rfl qiG rfl qis (fun _ _ _ _ _ _ us hl=>match us,hl with | [_],_=>rfl) (qiC c cx ct X N)
theorem qjg:TabOk P w K mg base qc4 qc6 (GK K) 0:=
 qdO (mts:=[]) (fds:=[]) c X N trivial trivial rfl trivial rfl trivial trivial trivial trivial trivial
theorem qfU:MthAt P w K mg base (GK K) 1 1 "name" 0 g_Total_name:=
 qcr (G:=GK K) (T:=qc4) (Γ:=qc6) (k:=0) (m:=0) (i:=19) (j:=95) (j2:=36) (ir:=qcb) (ps:=["self"]) (d:=qfZ) (cn:=1) c rfl rfl rfl rfl rfl rfl rfl rfl (show("name" : Str)∉FL 1 by decide) rfl qkl rfl qke (fun _ _ _ _ _ _ us hl=>match us,hl with | [_],_=>rfl) (qjg c cx ct X N)
theorem qiU:TabOk P w K mg base qcn qcm (GK K) 0:=
 qdO (mts:=[]) (fds:=[]) c X N trivial trivial rfl trivial rfl trivial trivial trivial trivial trivial
theorem qfv:MthAt P w K mg base (GK K) 1 2 "name" 0 g_Rising_name:=
 qcr (G:=GK K) (T:=qcn) (Γ:=qcm) (k:=0) (m:=0) (i:=20) (j:=96) (j2:=38) (ir:=qbT) (ps:=["self"]) (d:=qfh) (cn:=2) c rfl rfl rfl rfl rfl rfl rfl rfl (show("name" : Str)∉FL 2 by decide) rfl qiZ rfl qin (fun _ _ _ _ _ _ us hl=>match us,hl with | [_],_=>rfl) (qiU c cx ct X N)
theorem qlm:TabOk P w K mg base qdD qdp (GK K) 0:=
 qdO (mts:=[]) (fds:=[]) c X N trivial trivial rfl trivial rfl trivial trivial trivial trivial trivial
theorem qgS:MthAt P w K mg base (GK K) 1 3 "name" 0 g_Seen_name:=
 qcr (G:=GK K) (T:=qdD) (Γ:=qdp) (k:=0) (m:=0) (i:=21) (j:=97) (j2:=40) (ir:=qcJ) (ps:=["self"]) (d:=qgN) (cn:=3) c rfl rfl rfl rfl rfl rfl rfl rfl (show("name" : Str)∉FL 3 by decide) rfl qkF rfl qkE (fun _ _ _ _ _ _ us hl=>match us,hl with | [_],_=>rfl) (qlm c cx ct X N)
theorem qhL:TabOk P w K mg base qb2 qb4 (GK K) 0:=
 qdO (mts:=[]) (fds:=[]) c X N trivial trivial rfl trivial rfl trivial trivial trivial trivial trivial
theorem qeJ:MthAt P w K mg base (GK K) 1 4 "name" 0 g_Counted_name:=
 qcr (G:=GK K) (T:=qb2) (Γ:=qb4) (k:=0) (m:=0) (i:=22) (j:=98) (j2:=42) (ir:=qbw) (ps:=["self"]) (d:=qeH) (cn:=4) c rfl rfl rfl rfl rfl rfl rfl rfl (show("name" : Str)∉FL 4 by decide) rfl qhH rfl qhy (fun _ _ _ _ _ _ us hl=>match us,hl with | [_],_=>rfl) (qhL c cx ct X N)
theorem qif:TabOk P w K mg base qco qcp (GK K) 0:=
 qdO (mts:=[]) (fds:=[]) c X N trivial trivial rfl trivial rfl trivial trivial trivial trivial trivial
theorem qfe:MthAt P w K mg base (GK K) 1 5 "name" 0 g_Joined_name:=
 qcr (G:=GK K) (T:=qco) (Γ:=qcp) (k:=0) (m:=0) (i:=23) (j:=99) (j2:=44) (ir:=qbI) (ps:=["self"]) (d:=qfl) (cn:=5) c rfl rfl rfl rfl rfl rfl rfl rfl (show("name" : Str)∉FL 5 by decide) rfl qi0 rfl qiI (fun _ _ _ _ _ _ us hl=>match us,hl with | [_],_=>rfl) (qif c cx ct X N)
theorem qhb:TabOk P w K mg base qbH qbJ (GK K) 0:=
 qdO (mts:=[]) (fds:=[]) c X N trivial trivial rfl trivial rfl trivial trivial trivial trivial trivial
theorem qeg:MthAt P w K mg base (GK K) 1 6 "name" 0 g_NoSquare_name:=
 qcr (G:=GK K) (T:=qbH) (Γ:=qbJ) (k:=0) (m:=0) (i:=24) (j:=100) (j2:=46) (ir:=qbi) (ps:=["self"]) (d:=qel) (cn:=6) c rfl rfl rfl rfl rfl rfl rfl rfl (show("name" : Str)∉FL 6 by decide) rfl qgW rfl qg0 (fun _ _ _ _ _ _ us hl=>match us,hl with | [_],_=>rfl) (qhb c cx ct X N)
theorem qkG:TabOk P w K mg base qdA qdC (GK K) 0:=
 qdO (mts:=[]) (fds:=[]) c X N trivial trivial rfl trivial rfl trivial trivial trivial trivial trivial
theorem qgF:MthAt P w K mg base (GK K) 1 7 "name" 0 g_Ring_name:=
 qcr (G:=GK K) (T:=qdA) (Γ:=qdC) (k:=0) (m:=0) (i:=25) (j:=101) (j2:=48) (ir:=qcy) (ps:=["self"]) (d:=qgU) (cn:=7) c rfl rfl rfl rfl rfl rfl rfl rfl (show("name" : Str)∉FL 7 by decide) rfl qk7 rfl qlr (fun _ _ _ _ _ _ us hl=>match us,hl with | [_],_=>rfl) (qkG c cx ct X N)
theorem qa6:TabOk P w K mg base qaB qay (GK K) 0:=
 qdO (mts:=[]) (fds:=[(0,0,1),(1,0,1),(2,0,1),(3,0,1),(4,0,1),(5,0,1),(6,0,1),(7,0,1)]) c X N trivial trivial rfl trivial rfl ⟨fun x e=>by cases e;exact fd1 (j:=34) (j2:=50) c rfl rfl rfl rfl (show(FL 0).Nodup by decide),fun x e=>by cases e;exact fd1 (j:=36) (j2:=51) c rfl rfl rfl rfl (show(FL 1).Nodup by decide),fun x e=>by cases e;exact fd1 (j:=38) (j2:=52) c rfl rfl rfl rfl (show(FL 2).Nodup by decide),fun x e=>by cases e;exact fd1 (j:=40) (j2:=53) c rfl rfl rfl rfl (show(FL 3).Nodup by decide),fun x e=>by cases e;exact fd1 (j:=42) (j2:=54) c rfl rfl rfl rfl (show(FL 4).Nodup by decide),fun x e=>by cases e;exact fd1 (j:=44) (j2:=55) c rfl rfl rfl rfl (show(FL 5).Nodup by decide),fun x e=>by cases e;exact fd1 (j:=46) (j2:=56) c rfl rfl rfl rfl (show(FL 6).Nodup by decide),fun x e=>by cases e;exact fd1 (j:=48) (j2:=57) c rfl rfl rfl rfl (show(FL 7).Nodup by decide),trivial⟩ trivial trivial trivial trivial
theorem qhG:MthAt P w K mg base (GK K) 1 0 "spots" 0 g_Rule_spots:=
 qcr (G:=GK K) (T:=qaB) (Γ:=qay) (k:=0) (m:=0) (i:=34) (j:=102) (j2:=34) (ir:=qas) (ps:=["self"]) (d:=qeN) (cn:=0) c rfl rfl rfl rfl rfl rfl rfl rfl (show("spots" : Str)∉FL 0 by decide) rfl qa8 rfl qa9 (fun _ _ _ _ _ _ us hl=>match us,hl with | [_],_=>rfl) (qa6 c cx ct X N)
theorem qil:MthAt P w K mg base (GK K) 1 1 "spots" 0 g_Rule_spots:=
 qcr (G:=GK K) (T:=qaB) (Γ:=qay) (k:=0) (m:=0) (i:=35) (j:=103) (j2:=36) (ir:=qas) (ps:=["self"]) (d:=qfD) (cn:=1) c rfl rfl rfl rfl rfl rfl rfl rfl (show("spots" : Str)∉FL 1 by decide) rfl qa8 rfl qa9 (fun _ _ _ _ _ _ us hl=>match us,hl with | [_],_=>rfl) (qa6 c cx ct X N)
theorem qhJ:MthAt P w K mg base (GK K) 1 2 "spots" 0 g_Rule_spots:=
 qcr (G:=GK K) (T:=qaB) (Γ:=qay) (k:=0) (m:=0) (i:=36) (j:=104) (j2:=38) (ir:=qas) (ps:=["self"]) (d:=qeP) (cn:=2) c rfl rfl rfl rfl rfl rfl rfl rfl (show("spots" : Str)∉FL 2 by decide) rfl qa8 rfl qa9 (fun _ _ _ _ _ _ us hl=>match us,hl with | [_],_=>rfl) (qa6 c cx ct X N)
theorem qjf:MthAt P w K mg base (GK K) 1 3 "spots" 0 g_Rule_spots:=
 qcr (G:=GK K) (T:=qaB) (Γ:=qay) (k:=0) (m:=0) (i:=37) (j:=105) (j2:=40) (ir:=qas) (ps:=["self"]) (d:=qf2) (cn:=3) c rfl rfl rfl rfl rfl rfl rfl rfl (show("spots" : Str)∉FL 3 by decide) rfl qa8 rfl qa9 (fun _ _ _ _ _ _ us hl=>match us,hl with | [_],_=>rfl) (qa6 c cx ct X N)
theorem qgY:MthAt P w K mg base (GK K) 1 4 "spots" 0 g_Rule_spots:=
 qcr (G:=GK K) (T:=qaB) (Γ:=qay) (k:=0) (m:=0) (i:=38) (j:=106) (j2:=42) (ir:=qas) (ps:=["self"]) (d:=qej) (cn:=4) c rfl rfl rfl rfl rfl rfl rfl rfl (show("spots" : Str)∉FL 4 by decide) rfl qa8 rfl qa9 (fun _ _ _ _ _ _ us hl=>match us,hl with | [_],_=>rfl) (qa6 c cx ct X N)
theorem qhF:MthAt P w K mg base (GK K) 1 5 "spots" 0 g_Rule_spots:=
 qcr (G:=GK K) (T:=qaB) (Γ:=qay) (k:=0) (m:=0) (i:=39) (j:=107) (j2:=44) (ir:=qas) (ps:=["self"]) (d:=qeL) (cn:=5) c rfl rfl rfl rfl rfl rfl rfl rfl (show("spots" : Str)∉FL 5 by decide) rfl qa8 rfl qa9 (fun _ _ _ _ _ _ us hl=>match us,hl with | [_],_=>rfl) (qa6 c cx ct X N)
theorem qgj:MthAt P w K mg base (GK K) 1 6 "spots" 0 g_Rule_spots:=
 qcr (G:=GK K) (T:=qaB) (Γ:=qay) (k:=0) (m:=0) (i:=40) (j:=108) (j2:=46) (ir:=qas) (ps:=["self"]) (d:=qdQ) (cn:=6) c rfl rfl rfl rfl rfl rfl rfl rfl (show("spots" : Str)∉FL 6 by decide) rfl qa8 rfl qa9 (fun _ _ _ _ _ _ us hl=>match us,hl with | [_],_=>rfl) (qa6 c cx ct X N)
theorem qjK:MthAt P w K mg base (GK K) 1 7 "spots" 0 g_Rule_spots:=
 qcr (G:=GK K) (T:=qaB) (Γ:=qay) (k:=0) (m:=0) (i:=41) (j:=109) (j2:=48) (ir:=qas) (ps:=["self"]) (d:=qfW) (cn:=7) c rfl rfl rfl rfl rfl rfl rfl rfl (show("spots" : Str)∉FL 7 by decide) rfl qa8 rfl qa9 (fun _ _ _ _ _ _ us hl=>match us,hl with | [_],_=>rfl) (qa6 c cx ct X N)
theorem qaY:TabOk P w K mg base qap qan (GK K) 0:=
 qdO (mts:=[]) (fds:=[(0,0,2),(1,0,2),(2,0,2),(3,0,2),(4,0,2),(5,0,2),(6,0,2),(7,0,2)]) c X N trivial trivial rfl trivial rfl ⟨fun x e=>by cases e;exact fd1 (j:=34) (j2:=58) c rfl rfl rfl rfl (show(FL 0).Nodup by decide),fun x e=>by cases e;exact fd1 (j:=36) (j2:=59) c rfl rfl rfl rfl (show(FL 1).Nodup by decide),fun x e=>by cases e;exact fd1 (j:=38) (j2:=60) c rfl rfl rfl rfl (show(FL 2).Nodup by decide),fun x e=>by cases e;exact fd1 (j:=40) (j2:=61) c rfl rfl rfl rfl (show(FL 3).Nodup by decide),fun x e=>by cases e;exact fd1 (j:=42) (j2:=62) c rfl rfl rfl rfl (show(FL 4).Nodup by decide),fun x e=>by cases e;exact fd1 (j:=44) (j2:=63) c rfl rfl rfl rfl (show(FL 5).Nodup by decide),fun x e=>by cases e;exact fd1 (j:=46) (j2:=64) c rfl rfl rfl rfl (show(FL 6).Nodup by decide),fun x e=>by cases e;exact fd1 (j:=48) (j2:=65) c rfl rfl rfl rfl (show(FL 7).Nodup by decide),trivial⟩ trivial trivial trivial trivial
theorem qgB:MthAt P w K mg base (GK K) 1 0 "number" 0 g_Rule_number:=
 qcr (G:=GK K) (T:=qap) (Γ:=qan) (k:=0) (m:=0) (i:=42) (j:=110) (j2:=34) (ir:=qaj) (ps:=["self"]) (d:=qd5) (cn:=0) c rfl rfl rfl rfl rfl rfl rfl rfl (show("number" : Str)∉FL 0 by decide) rfl qaU rfl qaV (fun _ _ _ _ _ _ us hl=>match us,hl with | [_],_=>rfl) (qaY c cx ct X N)
theorem qhC:MthAt P w K mg base (GK K) 1 1 "number" 0 g_Rule_number:=
 qcr (G:=GK K) (T:=qap) (Γ:=qan) (k:=0) (m:=0) (i:=43) (j:=111) (j2:=36) (ir:=qaj) (ps:=["self"]) (d:=qeI) (cn:=1) c rfl rfl rfl rfl rfl rfl rfl rfl (show("number" : Str)∉FL 1 by decide) rfl qaU rfl qaV (fun _ _ _ _ _ _ us hl=>match us,hl with | [_],_=>rfl) (qaY c cx ct X N)
theorem qg4:MthAt P w K mg base (GK K) 1 2 "number" 0 g_Rule_number:=
 qcr (G:=GK K) (T:=qap) (Γ:=qan) (k:=0) (m:=0) (i:=44) (j:=112) (j2:=38) (ir:=qaj) (ps:=["self"]) (d:=qdX) (cn:=2) c rfl rfl rfl rfl rfl rfl rfl rfl (show("number" : Str)∉FL 2 by decide) rfl qaU rfl qaV (fun _ _ _ _ _ _ us hl=>match us,hl with | [_],_=>rfl) (qaY c cx ct X N)
theorem qiq:MthAt P w K mg base (GK K) 1 3 "number" 0 g_Rule_number:=
 qcr (G:=GK K) (T:=qap) (Γ:=qan) (k:=0) (m:=0) (i:=45) (j:=113) (j2:=40) (ir:=qaj) (ps:=["self"]) (d:=qfd) (cn:=3) c rfl rfl rfl rfl rfl rfl rfl rfl (show("number" : Str)∉FL 3 by decide) rfl qaU rfl qaV (fun _ _ _ _ _ _ us hl=>match us,hl with | [_],_=>rfl) (qaY c cx ct X N)
theorem qgk:MthAt P w K mg base (GK K) 1 4 "number" 0 g_Rule_number:=
 qcr (G:=GK K) (T:=qap) (Γ:=qan) (k:=0) (m:=0) (i:=46) (j:=114) (j2:=42) (ir:=qaj) (ps:=["self"]) (d:=qdP) (cn:=4) c rfl rfl rfl rfl rfl rfl rfl rfl (show("number" : Str)∉FL 4 by decide) rfl qaU rfl qaV (fun _ _ _ _ _ _ us hl=>match us,hl with | [_],_=>rfl) (qaY c cx ct X N)
theorem qgK:MthAt P w K mg base (GK K) 1 5 "number" 0 g_Rule_number:=
 qcr (G:=GK K) (T:=qap) (Γ:=qan) (k:=0) (m:=0) (i:=47) (j:=115) (j2:=44) (ir:=qaj) (ps:=["self"]) (d:=qei) (cn:=5) c rfl rfl rfl rfl rfl rfl rfl rfl (show("number" : Str)∉FL 5 by decide) rfl qaU rfl qaV (fun _ _ _ _ _ _ us hl=>match us,hl with | [_],_=>rfl) (qaY c cx ct X N)
theorem qfL:MthAt P w K mg base (GK K) 1 6 "number" 0 g_Rule_number:=
 qcr (G:=GK K) (T:=qap) (Γ:=qan) (k:=0) (m:=0) (i:=48) (j:=116) (j2:=46) (ir:=qaj) (ps:=["self"]) (d:=qdh) (cn:=6) c rfl rfl rfl rfl rfl rfl rfl rfl (show("number" : Str)∉FL 6 by decide) rfl qaU rfl qaV (fun _ _ _ _ _ _ us hl=>match us,hl with | [_],_=>rfl) (qaY c cx ct X N)
theorem qie:MthAt P w K mg base (GK K) 1 7 "number" 0 g_Rule_number:=
 qcr (G:=GK K) (T:=qap) (Γ:=qan) (k:=0) (m:=0) (i:=49) (j:=117) (j2:=48) (ir:=qaj) (ps:=["self"]) (d:=qfx) (cn:=7) c rfl rfl rfl rfl rfl rfl rfl rfl (show("number" : Str)∉FL 7 by decide) rfl qaU rfl qaV (fun _ _ _ _ _ _ us hl=>match us,hl with | [_],_=>rfl) (qaY c cx ct X N)
theorem qbj:TabOk P w K mg base qaO qaQ (GK K) 0:=
 qdO (mts:=[]) (fds:=[(0,0,3),(1,0,3),(2,0,3),(3,0,3),(4,0,3),(5,0,3),(6,0,3),(7,0,3)]) c X N trivial trivial rfl trivial rfl ⟨fun x e=>by cases e;exact fd1 (j:=34) (j2:=66) c rfl rfl rfl rfl (show(FL 0).Nodup by decide),fun x e=>by cases e;exact fd1 (j:=36) (j2:=67) c rfl rfl rfl rfl (show(FL 1).Nodup by decide),fun x e=>by cases e;exact fd1 (j:=38) (j2:=68) c rfl rfl rfl rfl (show(FL 2).Nodup by decide),fun x e=>by cases e;exact fd1 (j:=40) (j2:=69) c rfl rfl rfl rfl (show(FL 3).Nodup by decide),fun x e=>by cases e;exact fd1 (j:=42) (j2:=70) c rfl rfl rfl rfl (show(FL 4).Nodup by decide),fun x e=>by cases e;exact fd1 (j:=44) (j2:=71) c rfl rfl rfl rfl (show(FL 5).Nodup by decide),fun x e=>by cases e;exact fd1 (j:=46) (j2:=72) c rfl rfl rfl rfl (show(FL 6).Nodup by decide),fun x e=>by cases e;exact fd1 (j:=48) (j2:=73) c rfl rfl rfl rfl (show(FL 7).Nodup by decide),trivial⟩ trivial trivial trivial trivial
theorem qiv:MthAt P w K mg base (GK K) 1 0 "sign" 0 g_Rule_sign:=
 qcr (G:=GK K) (T:=qaO) (Γ:=qaQ) (k:=0) (m:=0) (i:=50) (j:=118) (j2:=34) (ir:=qaE) (ps:=["self"]) (d:=qfy) (cn:=0) c rfl rfl rfl rfl rfl rfl rfl rfl (show("sign" : Str)∉FL 0 by decide) rfl qbm rfl qbn (fun _ _ _ _ _ _ us hl=>match us,hl with | [_],_=>rfl) (qbj c cx ct X N)
theorem qjY:MthAt P w K mg base (GK K) 1 1 "sign" 0 g_Rule_sign:=
 qcr (G:=GK K) (T:=qaO) (Γ:=qaQ) (k:=0) (m:=0) (i:=51) (j:=119) (j2:=36) (ir:=qaE) (ps:=["self"]) (d:=qga) (cn:=1) c rfl rfl rfl rfl rfl rfl rfl rfl (show("sign" : Str)∉FL 1 by decide) rfl qbm rfl qbn (fun _ _ _ _ _ _ us hl=>match us,hl with | [_],_=>rfl) (qbj c cx ct X N)
theorem qik:MthAt P w K mg base (GK K) 1 2 "sign" 0 g_Rule_sign:=
 qcr (G:=GK K) (T:=qaO) (Γ:=qaQ) (k:=0) (m:=0) (i:=52) (j:=120) (j2:=38) (ir:=qaE) (ps:=["self"]) (d:=qfA) (cn:=2) c rfl rfl rfl rfl rfl rfl rfl rfl (show("sign" : Str)∉FL 2 by decide) rfl qbm rfl qbn (fun _ _ _ _ _ _ us hl=>match us,hl with | [_],_=>rfl) (qbj c cx ct X N)
theorem qkC:MthAt P w K mg base (GK K) 1 3 "sign" 0 g_Rule_sign:=
 qcr (G:=GK K) (T:=qaO) (Γ:=qaQ) (k:=0) (m:=0) (i:=53) (j:=121) (j2:=40) (ir:=qaE) (ps:=["self"]) (d:=qhs) (cn:=3) c rfl rfl rfl rfl rfl rfl rfl rfl (show("sign" : Str)∉FL 3 by decide) rfl qbm rfl qbn (fun _ _ _ _ _ _ us hl=>match us,hl with | [_],_=>rfl) (qbj c cx ct X N)
theorem qhI:MthAt P w K mg base (GK K) 1 4 "sign" 0 g_Rule_sign:=
 qcr (G:=GK K) (T:=qaO) (Γ:=qaQ) (k:=0) (m:=0) (i:=54) (j:=122) (j2:=42) (ir:=qaE) (ps:=["self"]) (d:=qeR) (cn:=4) c rfl rfl rfl rfl rfl rfl rfl rfl (show("sign" : Str)∉FL 4 by decide) rfl qbm rfl qbn (fun _ _ _ _ _ _ us hl=>match us,hl with | [_],_=>rfl) (qbj c cx ct X N)
theorem qi2:MthAt P w K mg base (GK K) 1 5 "sign" 0 g_Rule_sign:=
 qcr (G:=GK K) (T:=qaO) (Γ:=qaQ) (k:=0) (m:=0) (i:=55) (j:=123) (j2:=44) (ir:=qaE) (ps:=["self"]) (d:=qfi) (cn:=5) c rfl rfl rfl rfl rfl rfl rfl rfl (show("sign" : Str)∉FL 5 by decide) rfl qbm rfl qbn (fun _ _ _ _ _ _ us hl=>match us,hl with | [_],_=>rfl) (qbj c cx ct X N)
theorem qgR:MthAt P w K mg base (GK K) 1 6 "sign" 0 g_Rule_sign:=
 qcr (G:=GK K) (T:=qaO) (Γ:=qaQ) (k:=0) (m:=0) (i:=56) (j:=124) (j2:=46) (ir:=qaE) (ps:=["self"]) (d:=qec) (cn:=6) c rfl rfl rfl rfl rfl rfl rfl rfl (show("sign" : Str)∉FL 6 by decide) rfl qbm rfl qbn (fun _ _ _ _ _ _ us hl=>match us,hl with | [_],_=>rfl) (qbj c cx ct X N)
theorem qld:MthAt P w K mg base (GK K) 1 7 "sign" 0 g_Rule_sign:=
 qcr (G:=GK K) (T:=qaO) (Γ:=qaQ) (k:=0) (m:=0) (i:=57) (j:=125) (j2:=48) (ir:=qaE) (ps:=["self"]) (d:=qhr) (cn:=7) c rfl rfl rfl rfl rfl rfl rfl rfl (show("sign" : Str)∉FL 7 by decide) rfl qbm rfl qbn (fun _ _ _ _ _ _ us hl=>match us,hl with | [_],_=>rfl) (qbj c cx ct X N)
theorem qcH:TabOk P w K mg base qaM qaK (GK K) 0:=
 qdO (mts:=[]) (fds:=[(0,0,1),(1,0,1),(2,0,1),(3,0,1),(4,0,1),(5,0,1),(6,0,1),(7,0,1)]) c X N trivial trivial rfl trivial rfl ⟨fun x e=>by cases e;exact fd1 (j:=34) (j2:=50) c rfl rfl rfl rfl (show(FL 0).Nodup by decide),fun x e=>by cases e;exact fd1 (j:=36) (j2:=51) c rfl rfl rfl rfl (show(FL 1).Nodup by decide),fun x e=>by cases e;exact fd1 (j:=38) (j2:=52) c rfl rfl rfl rfl (show(FL 2).Nodup by decide),fun x e=>by cases e;exact fd1 (j:=40) (j2:=53) c rfl rfl rfl rfl (show(FL 3).Nodup by decide),fun x e=>by cases e;exact fd1 (j:=42) (j2:=54) c rfl rfl rfl rfl (show(FL 4).Nodup by decide),fun x e=>by cases e;exact fd1 (j:=44) (j2:=55) c rfl rfl rfl rfl (show(FL 5).Nodup by decide),fun x e=>by cases e;exact fd1 (j:=46) (j2:=56) c rfl rfl rfl rfl (show(FL 6).Nodup by decide),fun x e=>by cases e;exact fd1 (j:=48) (j2:=57) c rfl rfl rfl rfl (show(FL 7).Nodup by decide),trivial⟩ trivial trivial trivial trivial
theorem qeb:MthAt P w K mg base (GK K) 1 0 "told_numbers" 0 g_Rule_told_numbers:=
 qcr (G:=GK K) (T:=qaM) (Γ:=qaK) (k:=0) (m:=0) (i:=26) (j:=126) (j2:=34) (ir:=qav) (ps:=["self"]) (d:=qb7) (cn:=0) c rfl rfl rfl rfl rfl rfl rfl rfl (show("told_numbers" : Str)∉FL 0 by decide) rfl qcK rfl qcC (fun _ _ _ _ _ _ us hl=>match us,hl with | [_],_=>rfl) (qcH c cx ct X N)
theorem qeh:MthAt P w K mg base (GK K) 1 2 "told_numbers" 0 g_Rule_told_numbers:=
 qcr (G:=GK K) (T:=qaM) (Γ:=qaK) (k:=0) (m:=0) (i:=28) (j:=127) (j2:=38) (ir:=qav) (ps:=["self"]) (d:=qb6) (cn:=2) c rfl rfl rfl rfl rfl rfl rfl rfl (show("told_numbers" : Str)∉FL 2 by decide) rfl qcK rfl qcC (fun _ _ _ _ _ _ us hl=>match us,hl with | [_],_=>rfl) (qcH c cx ct X N)
theorem qez:TabOk P w K mg base qa2 qa3 (GK K) 0:=
 qdO (mts:=[]) (fds:=[(0,0,2),(1,0,2),(2,0,2),(3,0,2),(4,0,2),(5,0,2),(6,0,2),(7,0,2),(0,1,1),(1,1,1),(2,1,1),(3,1,1),(4,1,1),(5,1,1),(6,1,1),(7,1,1)]) c X N trivial trivial rfl trivial rfl ⟨fun x e=>by cases e;exact fd1 (j:=34) (j2:=58) c rfl rfl rfl rfl (show(FL 0).Nodup by decide),fun x e=>by cases e;exact fd1 (j:=36) (j2:=59) c rfl rfl rfl rfl (show(FL 1).Nodup by decide),fun x e=>by cases e;exact fd1 (j:=38) (j2:=60) c rfl rfl rfl rfl (show(FL 2).Nodup by decide),fun x e=>by cases e;exact fd1 (j:=40) (j2:=61) c rfl rfl rfl rfl (show(FL 3).Nodup by decide),fun x e=>by cases e;exact fd1 (j:=42) (j2:=62) c rfl rfl rfl rfl (show(FL 4).Nodup by decide),fun x e=>by cases e;exact fd1 (j:=44) (j2:=63) c rfl rfl rfl rfl (show(FL 5).Nodup by decide),fun x e=>by cases e;exact fd1 (j:=46) (j2:=64) c rfl rfl rfl rfl (show(FL 6).Nodup by decide),fun x e=>by cases e;exact fd1 (j:=48) (j2:=65) c rfl rfl rfl rfl (show(FL 7).Nodup by decide),fun x e=>by cases e;exact fd1 (j:=34) (j2:=50) c rfl rfl rfl rfl (show(FL 0).Nodup by decide),fun x e=>by cases e;exact fd1 (j:=36) (j2:=51) c rfl rfl rfl rfl (show(FL 1).Nodup by decide),fun x e=>by cases e;exact fd1 (j:=38) (j2:=52) c rfl rfl rfl rfl (show(FL 2).Nodup by decide),fun x e=>by cases e;exact fd1 (j:=40) (j2:=53) c rfl rfl rfl rfl (show(FL 3).Nodup by decide),fun x e=>by cases e;exact fd1 (j:=42) (j2:=54) c rfl rfl rfl rfl (show(FL 4).Nodup by decide),fun x e=>by cases e;exact fd1 (j:=44) (j2:=55) c rfl rfl rfl rfl (show(FL 5).Nodup by decide),fun x e=>by cases e;exact fd1 (j:=46) (j2:=56) c rfl rfl rfl rfl (show(FL 6).Nodup by decide),fun x e=>by cases e;exact fd1 (j:=48) (j2:=57) c rfl rfl rfl rfl (show(FL 7).Nodup by decide),trivial⟩ trivial trivial trivial trivial
theorem qeE:MthAt P w K mg base (GK K) 1 1 "told_numbers" 0 g_Total_told_numbers:=
 qcr (G:=GK K) (T:=qa2) (Γ:=qa3) (k:=0) (m:=0) (i:=27) (j:=128) (j2:=36) (ir:=qaG) (ps:=["self"]) (d:=qci) (cn:=1) c rfl rfl rfl rfl rfl rfl rfl rfl (show("told_numbers" : Str)∉FL 1 by decide) rfl qeC rfl qeB (fun _ _ _ _ _ _ us hl=>match us,hl with | [_],_=>rfl) (qez c cx ct X N)
theorem qeW:TabOk P w K mg base qbd qbb (GK K) 0:=
 qdO (mts:=[]) (fds:=[(0,0,2),(1,0,2),(2,0,2),(3,0,2),(4,0,2),(5,0,2),(6,0,2),(7,0,2),(0,1,1),(1,1,1),(2,1,1),(3,1,1),(4,1,1),(5,1,1),(6,1,1),(7,1,1)]) c X N trivial trivial rfl trivial rfl ⟨fun x e=>by cases e;exact fd1 (j:=34) (j2:=58) c rfl rfl rfl rfl (show(FL 0).Nodup by decide),fun x e=>by cases e;exact fd1 (j:=36) (j2:=59) c rfl rfl rfl rfl (show(FL 1).Nodup by decide),fun x e=>by cases e;exact fd1 (j:=38) (j2:=60) c rfl rfl rfl rfl (show(FL 2).Nodup by decide),fun x e=>by cases e;exact fd1 (j:=40) (j2:=61) c rfl rfl rfl rfl (show(FL 3).Nodup by decide),fun x e=>by cases e;exact fd1 (j:=42) (j2:=62) c rfl rfl rfl rfl (show(FL 4).Nodup by decide),fun x e=>by cases e;exact fd1 (j:=44) (j2:=63) c rfl rfl rfl rfl (show(FL 5).Nodup by decide),fun x e=>by cases e;exact fd1 (j:=46) (j2:=64) c rfl rfl rfl rfl (show(FL 6).Nodup by decide),fun x e=>by cases e;exact fd1 (j:=48) (j2:=65) c rfl rfl rfl rfl (show(FL 7).Nodup by decide),fun x e=>by cases e;exact fd1 (j:=34) (j2:=50) c rfl rfl rfl rfl (show(FL 0).Nodup by decide),fun x e=>by cases e;exact fd1 (j:=36) (j2:=51) c rfl rfl rfl rfl (show(FL 1).Nodup by decide),fun x e=>by cases e;exact fd1 (j:=38) (j2:=52) c rfl rfl rfl rfl (show(FL 2).Nodup by decide),fun x e=>by cases e;exact fd1 (j:=40) (j2:=53) c rfl rfl rfl rfl (show(FL 3).Nodup by decide),fun x e=>by cases e;exact fd1 (j:=42) (j2:=54) c rfl rfl rfl rfl (show(FL 4).Nodup by decide),fun x e=>by cases e;exact fd1 (j:=44) (j2:=55) c rfl rfl rfl rfl (show(FL 5).Nodup by decide),fun x e=>by cases e;exact fd1 (j:=46) (j2:=56) c rfl rfl rfl rfl (show(FL 6).Nodup by decide),fun x e=>by cases e;exact fd1 (j:=48) (j2:=57) c rfl rfl rfl rfl (show(FL 7).Nodup by decide),trivial⟩ trivial trivial trivial trivial
theorem qeX:MthAt P w K mg base (GK K) 1 3 "told_numbers" 0 g_Seen_told_numbers:=
 qcr (G:=GK K) (T:=qbd) (Γ:=qbb) (k:=0) (m:=0) (i:=29) (j:=129) (j2:=40) (ir:=qaP) (ps:=["self"]) (d:=qct) (cn:=3) c rfl rfl rfl rfl rfl rfl rfl rfl (show("told_numbers" : Str)∉FL 3 by decide) rfl qe1 rfl qe7 (fun _ _ _ _ _ _ us hl=>match us,hl with | [_],_=>rfl) (qeW c cx ct X N)
theorem qdR:TabOk P w K mg base qaR qaS (GK K) 0:=
 qdO (mts:=[]) (fds:=[(0,0,2),(1,0,2),(2,0,2),(3,0,2),(4,0,2),(5,0,2),(6,0,2),(7,0,2),(0,1,3),(1,1,3),(2,1,3),(3,1,3),(4,1,3),(5,1,3),(6,1,3),(7,1,3),(0,2,1),(1,2,1),(2,2,1),(3,2,1),(4,2,1),(5,2,1),(6,2,1),(7,2,1)]) c X N trivial trivial rfl trivial rfl ⟨fun x e=>by cases e;exact fd1 (j:=34) (j2:=58) c rfl rfl rfl rfl (show(FL 0).Nodup by decide),fun x e=>by cases e;exact fd1 (j:=36) (j2:=59) c rfl rfl rfl rfl (show(FL 1).Nodup by decide),fun x e=>by cases e;exact fd1 (j:=38) (j2:=60) c rfl rfl rfl rfl (show(FL 2).Nodup by decide),fun x e=>by cases e;exact fd1 (j:=40) (j2:=61) c rfl rfl rfl rfl (show(FL 3).Nodup by decide),fun x e=>by cases e;exact fd1 (j:=42) (j2:=62) c rfl rfl rfl rfl (show(FL 4).Nodup by decide),fun x e=>by cases e;exact fd1 (j:=44) (j2:=63) c rfl rfl rfl rfl (show(FL 5).Nodup by decide),fun x e=>by cases e;exact fd1 (j:=46) (j2:=64) c rfl rfl rfl rfl (show(FL 6).Nodup by decide),fun x e=>by cases e;exact fd1 (j:=48) (j2:=65) c rfl rfl rfl rfl (show(FL 7).Nodup by decide),fun x e=>by cases e;exact fd1 (j:=34) (j2:=66) c rfl rfl rfl rfl (show(FL 0).Nodup by decide),fun x e=>by cases e;exact fd1 (j:=36) (j2:=67) c rfl rfl rfl rfl (show(FL 1).Nodup by decide),fun x e=>by cases e;exact fd1 (j:=38) (j2:=68) c rfl rfl rfl rfl (show(FL 2).Nodup by decide),fun x e=>by cases e;exact fd1 (j:=40) (j2:=69) c rfl rfl rfl rfl (show(FL 3).Nodup by decide),fun x e=>by cases e;exact fd1 (j:=42) (j2:=70) c rfl rfl rfl rfl (show(FL 4).Nodup by decide),fun x e=>by cases e;exact fd1 (j:=44) (j2:=71) c rfl rfl rfl rfl (show(FL 5).Nodup by decide),fun x e=>by cases e;exact fd1 (j:=46) (j2:=72) c rfl rfl rfl rfl (show(FL 6).Nodup by decide),fun x e=>by cases e;exact fd1 (j:=48) (j2:=73) c rfl rfl rfl rfl (show(FL 7).Nodup by decide),fun x e=>by cases e;exact fd1 (j:=34) (j2:=50) c rfl rfl rfl rfl (show(FL 0).Nodup by decide),fun x e=>by cases e;exact fd1 (j:=36) (j2:=51) c rfl rfl rfl rfl (show(FL 1).Nodup by decide),fun x e=>by cases e;exact fd1 (j:=38) (j2:=52) c rfl rfl rfl rfl (show(FL 2).Nodup by decide),fun x e=>by cases e;exact fd1 (j:=40) (j2:=53) c rfl rfl rfl rfl (show(FL 3).Nodup by decide),fun x e=>by cases e;exact fd1 (j:=42) (j2:=54) c rfl rfl rfl rfl (show(FL 4).Nodup by decide),fun x e=>by cases e;exact fd1 (j:=44) (j2:=55) c rfl rfl rfl rfl (show(FL 5).Nodup by decide),fun x e=>by cases e;exact fd1 (j:=46) (j2:=56) c rfl rfl rfl rfl (show(FL 6).Nodup by decide),fun x e=>by cases e;exact fd1 (j:=48) (j2:=57) c rfl rfl rfl rfl (show(FL 7).Nodup by decide),trivial⟩ trivial trivial trivial trivial
theorem qdW:MthAt P w K mg base (GK K) 1 4 "told_numbers" 0 g_Counted_told_numbers:=
 qcr (G:=GK K) (T:=qaR) (Γ:=qaS) (k:=0) (m:=0) (i:=30) (j:=130) (j2:=42) (ir:=qau) (ps:=["self"]) (d:=qbY) (cn:=4) c rfl rfl rfl rfl rfl rfl rfl rfl (show("told_numbers" : Str)∉FL 4 by decide) rfl qdS rfl qdU (fun _ _ _ _ _ _ us hl=>match us,hl with | [_],_=>rfl) (qdR c cx ct X N)
theorem qd4:TabOk P w K mg base qaW qaX (GK K) 0:=
 qdO (mts:=[]) (fds:=[(0,0,3),(1,0,3),(2,0,3),(3,0,3),(4,0,3),(5,0,3),(6,0,3),(7,0,3)]) c X N trivial trivial rfl trivial rfl ⟨fun x e=>by cases e;exact fd1 (j:=34) (j2:=66) c rfl rfl rfl rfl (show(FL 0).Nodup by decide),fun x e=>by cases e;exact fd1 (j:=36) (j2:=67) c rfl rfl rfl rfl (show(FL 1).Nodup by decide),fun x e=>by cases e;exact fd1 (j:=38) (j2:=68) c rfl rfl rfl rfl (show(FL 2).Nodup by decide),fun x e=>by cases e;exact fd1 (j:=40) (j2:=69) c rfl rfl rfl rfl (show(FL 3).Nodup by decide),fun x e=>by cases e;exact fd1 (j:=42) (j2:=70) c rfl rfl rfl rfl (show(FL 4).Nodup by decide),fun x e=>by cases e;exact fd1 (j:=44) (j2:=71) c rfl rfl rfl rfl (show(FL 5).Nodup by decide),fun x e=>by cases e;exact fd1 (j:=46) (j2:=72) c rfl rfl rfl rfl (show(FL 6).Nodup by decide),fun x e=>by cases e;exact fd1 (j:=48) (j2:=73) c rfl rfl rfl rfl (show(FL 7).Nodup by decide),trivial⟩ trivial trivial trivial trivial
theorem qd3:MthAt P w K mg base (GK K) 1 5 "told_numbers" 0 g_Joined_told_numbers:=
 qcr (G:=GK K) (T:=qaW) (Γ:=qaX) (k:=0) (m:=0) (i:=31) (j:=131) (j2:=44) (ir:=qaw) (ps:=["self"]) (d:=qcd) (cn:=5) c rfl rfl rfl rfl rfl rfl rfl rfl (show("told_numbers" : Str)∉FL 5 by decide) rfl qea rfl qd1 (fun _ _ _ _ _ _ us hl=>match us,hl with | [_],_=>rfl) (qd4 c cx ct X N)
theorem qdo:TabOk P w K mg base qaI qaH (GK K) 0:=
 qdO (mts:=[]) (fds:=[(0,0,3),(1,0,3),(2,0,3),(3,0,3),(4,0,3),(5,0,3),(6,0,3),(7,0,3)]) c X N trivial trivial rfl trivial rfl ⟨fun x e=>by cases e;exact fd1 (j:=34) (j2:=66) c rfl rfl rfl rfl (show(FL 0).Nodup by decide),fun x e=>by cases e;exact fd1 (j:=36) (j2:=67) c rfl rfl rfl rfl (show(FL 1).Nodup by decide),fun x e=>by cases e;exact fd1 (j:=38) (j2:=68) c rfl rfl rfl rfl (show(FL 2).Nodup by decide),fun x e=>by cases e;exact fd1 (j:=40) (j2:=69) c rfl rfl rfl rfl (show(FL 3).Nodup by decide),fun x e=>by cases e;exact fd1 (j:=42) (j2:=70) c rfl rfl rfl rfl (show(FL 4).Nodup by decide),fun x e=>by cases e;exact fd1 (j:=44) (j2:=71) c rfl rfl rfl rfl (show(FL 5).Nodup by decide),fun x e=>by cases e;exact fd1 (j:=46) (j2:=72) c rfl rfl rfl rfl (show(FL 6).Nodup by decide),fun x e=>by cases e;exact fd1 (j:=48) (j2:=73) c rfl rfl rfl rfl (show(FL 7).Nodup by decide),trivial⟩ trivial trivial trivial trivial
theorem qdL:MthAt P w K mg base (GK K) 1 6 "told_numbers" 0 g_NoSquare_told_numbers:=
 qcr (G:=GK K) (T:=qaI) (Γ:=qaH) (k:=0) (m:=0) (i:=32) (j:=132) (j2:=46) (ir:=qaq) (ps:=["self"]) (d:=qbU) (cn:=6) c rfl rfl rfl rfl rfl rfl rfl rfl (show("told_numbers" : Str)∉FL 6 by decide) rfl qdq rfl qdz (fun _ _ _ _ _ _ us hl=>match us,hl with | [_],_=>rfl) (qdo c cx ct X N)
theorem qe2:TabOk P w K mg base qba qbe (GK K) 0:=
 qdO (mts:=[]) (fds:=[(0,0,3),(1,0,3),(2,0,3),(3,0,3),(4,0,3),(5,0,3),(6,0,3),(7,0,3)]) c X N trivial trivial rfl trivial rfl ⟨fun x e=>by cases e;exact fd1 (j:=34) (j2:=66) c rfl rfl rfl rfl (show(FL 0).Nodup by decide),fun x e=>by cases e;exact fd1 (j:=36) (j2:=67) c rfl rfl rfl rfl (show(FL 1).Nodup by decide),fun x e=>by cases e;exact fd1 (j:=38) (j2:=68) c rfl rfl rfl rfl (show(FL 2).Nodup by decide),fun x e=>by cases e;exact fd1 (j:=40) (j2:=69) c rfl rfl rfl rfl (show(FL 3).Nodup by decide),fun x e=>by cases e;exact fd1 (j:=42) (j2:=70) c rfl rfl rfl rfl (show(FL 4).Nodup by decide),fun x e=>by cases e;exact fd1 (j:=44) (j2:=71) c rfl rfl rfl rfl (show(FL 5).Nodup by decide),fun x e=>by cases e;exact fd1 (j:=46) (j2:=72) c rfl rfl rfl rfl (show(FL 6).Nodup by decide),fun x e=>by cases e;exact fd1 (j:=48) (j2:=73) c rfl rfl rfl rfl (show(FL 7).Nodup by decide),trivial⟩ trivial trivial trivial trivial
theorem qe0:MthAt P w K mg base (GK K) 1 7 "told_numbers" 0 g_Ring_told_numbers:=
 qcr (G:=GK K) (T:=qba) (Γ:=qbe) (k:=0) (m:=0) (i:=33) (j:=133) (j2:=48) (ir:=qaN) (ps:=["self"]) (d:=qcD) (cn:=7) c rfl rfl rfl rfl rfl rfl rfl rfl (show("told_numbers" : Str)∉FL 7 by decide) rfl qe5 rfl qe4 (fun _ _ _ _ _ _ us hl=>match us,hl with | [_],_=>rfl) (qe2 c cx ct X N)
theorem qbp:TabOk P w K mg base qaJ qaL (GK K) 1:=
 qdO (mts:=[(0,0,g_Unlike_name),(1,0,g_Total_name),(2,0,g_Rising_name),(3,0,g_Seen_name),(4,0,g_Counted_name),(5,0,g_Joined_name),(6,0,g_NoSquare_name),(7,0,g_Ring_name),(0,1,g_Rule_told_numbers),(1,1,g_Total_told_numbers),(2,1,g_Rule_told_numbers),(3,1,g_Seen_told_numbers),(4,1,g_Counted_told_numbers),(5,1,g_Joined_told_numbers),(6,1,g_NoSquare_told_numbers),(7,1,g_Ring_told_numbers)]) (fds:=[]) c X N trivial trivial rfl ⟨fun x n e=>by cases e;exact(qft c cx ct X N).mono (by decide),fun x n e=>by cases e;exact(qfU c cx ct X N).mono (by decide),fun x n e=>by cases e;exact(qfv c cx ct X N).mono (by decide),fun x n e=>by cases e;exact(qgS c cx ct X N).mono (by decide),fun x n e=>by cases e;exact(qeJ c cx ct X N).mono (by decide),fun x n e=>by cases e;exact(qfe c cx ct X N).mono (by decide),fun x n e=>by cases e;exact(qeg c cx ct X N).mono (by decide),fun x n e=>by cases e;exact(qgF c cx ct X N).mono (by decide),fun x n e=>by cases e;exact(qeb c cx ct X N).mono (by decide),fun x n e=>by cases e;exact(qeE c cx ct X N).mono (by decide),fun x n e=>by cases e;exact(qeh c cx ct X N).mono (by decide),fun x n e=>by cases e;exact(qeX c cx ct X N).mono (by decide),fun x n e=>by cases e;exact(qdW c cx ct X N).mono (by decide),fun x n e=>by cases e;exact(qd3 c cx ct X N).mono (by decide),fun x n e=>by cases e;exact(qdL c cx ct X N).mono (by decide),fun x n e=>by cases e;exact(qe0 c cx ct X N).mono (by decide),trivial⟩ rfl trivial trivial trivial trivial trivial
theorem qiA:MthAt P w K mg base (GK K) 2 0 "line" 0 g_Rule_line:=
 qcr (G:=GK K) (T:=qaJ) (Γ:=qaL) (k:=1) (m:=1) (i:=58) (j:=134) (j2:=34) (ir:=qaD) (ps:=["self"]) (d:=qff) (cn:=0) c rfl rfl rfl rfl rfl rfl rfl rfl (show("line" : Str)∉FL 0 by decide) rfl qbl rfl qbo (fun _ _ _ _ _ _ us hl=>match us,hl with | [_],_=>rfl) (qbp c cx ct X N)
theorem qjJ:MthAt P w K mg base (GK K) 2 1 "line" 0 g_Rule_line:=
 qcr (G:=GK K) (T:=qaJ) (Γ:=qaL) (k:=1) (m:=1) (i:=59) (j:=135) (j2:=36) (ir:=qaD) (ps:=["self"]) (d:=qfX) (cn:=1) c rfl rfl rfl rfl rfl rfl rfl rfl (show("line" : Str)∉FL 1 by decide) rfl qbl rfl qbo (fun _ _ _ _ _ _ us hl=>match us,hl with | [_],_=>rfl) (qbp c cx ct X N)
theorem qij:MthAt P w K mg base (GK K) 2 2 "line" 0 g_Rule_line:=
 qcr (G:=GK K) (T:=qaJ) (Γ:=qaL) (k:=1) (m:=1) (i:=60) (j:=136) (j2:=38) (ir:=qaD) (ps:=["self"]) (d:=qfz) (cn:=2) c rfl rfl rfl rfl rfl rfl rfl rfl (show("line" : Str)∉FL 2 by decide) rfl qbl rfl qbo (fun _ _ _ _ _ _ us hl=>match us,hl with | [_],_=>rfl) (qbp c cx ct X N)
theorem qlo:MthAt P w K mg base (GK K) 2 3 "line" 0 g_Rule_line:=
 qcr (G:=GK K) (T:=qaJ) (Γ:=qaL) (k:=1) (m:=1) (i:=61) (j:=137) (j2:=40) (ir:=qaD) (ps:=["self"]) (d:=qgX) (cn:=3) c rfl rfl rfl rfl rfl rfl rfl rfl (show("line" : Str)∉FL 3 by decide) rfl qbl rfl qbo (fun _ _ _ _ _ _ us hl=>match us,hl with | [_],_=>rfl) (qbp c cx ct X N)
theorem qhA:MthAt P w K mg base (GK K) 2 4 "line" 0 g_Rule_line:=
 qcr (G:=GK K) (T:=qaJ) (Γ:=qaL) (k:=1) (m:=1) (i:=62) (j:=138) (j2:=42) (ir:=qaD) (ps:=["self"]) (d:=qeM) (cn:=4) c rfl rfl rfl rfl rfl rfl rfl rfl (show("line" : Str)∉FL 4 by decide) rfl qbl rfl qbo (fun _ _ _ _ _ _ us hl=>match us,hl with | [_],_=>rfl) (qbp c cx ct X N)
theorem qiB:MthAt P w K mg base (GK K) 2 5 "line" 0 g_Rule_line:=
 qcr (G:=GK K) (T:=qaJ) (Γ:=qaL) (k:=1) (m:=1) (i:=63) (j:=139) (j2:=44) (ir:=qaD) (ps:=["self"]) (d:=qfm) (cn:=5) c rfl rfl rfl rfl rfl rfl rfl rfl (show("line" : Str)∉FL 5 by decide) rfl qbl rfl qbo (fun _ _ _ _ _ _ us hl=>match us,hl with | [_],_=>rfl) (qbp c cx ct X N)
theorem qgA:MthAt P w K mg base (GK K) 2 6 "line" 0 g_Rule_line:=
 qcr (G:=GK K) (T:=qaJ) (Γ:=qaL) (k:=1) (m:=1) (i:=64) (j:=140) (j2:=46) (ir:=qaD) (ps:=["self"]) (d:=qen) (cn:=6) c rfl rfl rfl rfl rfl rfl rfl rfl (show("line" : Str)∉FL 6 by decide) rfl qbl rfl qbo (fun _ _ _ _ _ _ us hl=>match us,hl with | [_],_=>rfl) (qbp c cx ct X N)
theorem qkB:MthAt P w K mg base (GK K) 2 7 "line" 0 g_Rule_line:=
 qcr (G:=GK K) (T:=qaJ) (Γ:=qaL) (k:=1) (m:=1) (i:=65) (j:=141) (j2:=48) (ir:=qaD) (ps:=["self"]) (d:=qg6) (cn:=7) c rfl rfl rfl rfl rfl rfl rfl rfl (show("line" : Str)∉FL 7 by decide) rfl qbl rfl qbo (fun _ _ _ _ _ _ us hl=>match us,hl with | [_],_=>rfl) (qbp c cx ct X N)
theorem qkD:TabOk P w K mg base qdt qdM (GK K) 4:=
 qdO (mts:=[(0,0,g_Unlike_name),(1,0,g_Total_name),(2,0,g_Rising_name),(3,0,g_Seen_name),(4,0,g_Counted_name),(5,0,g_Joined_name),(6,0,g_NoSquare_name),(7,0,g_Ring_name),(0,1,g_Rule_spots),(1,1,g_Rule_spots),(2,1,g_Rule_spots),(3,1,g_Rule_spots),(4,1,g_Rule_spots),(5,1,g_Rule_spots),(6,1,g_Rule_spots),(7,1,g_Rule_spots),(0,2,g_Rule_number),(1,2,g_Rule_number),(2,2,g_Rule_number),(3,2,g_Rule_number),(4,2,g_Rule_number),(5,2,g_Rule_number),(6,2,g_Rule_number),(7,2,g_Rule_number),(0,3,g_Rule_sign),(1,3,g_Rule_sign),(2,3,g_Rule_sign),(3,3,g_Rule_sign),(4,3,g_Rule_sign),(5,3,g_Rule_sign),(6,3,g_Rule_sign),(7,3,g_Rule_sign),(0,4,g_Rule_line),(1,4,g_Rule_line),(2,4,g_Rule_line),(3,4,g_Rule_line),(4,4,g_Rule_line),(5,4,g_Rule_line),(6,4,g_Rule_line),(7,4,g_Rule_line)]) (fds:=[]) c X N ⟨(qkH c cx ct X N).mono (by decide),(qi8 c cx ct X N).mono (by decide),trivial⟩ trivial rfl ⟨fun x n e=>by cases e;exact(qft c cx ct X N).mono (by decide),fun x n e=>by cases e;exact(qfU c cx ct X N).mono (by decide),fun x n e=>by cases e;exact(qfv c cx ct X N).mono (by decide),fun x n e=>by cases e;exact(qgS c cx ct X N).mono (by decide),fun x n e=>by cases e;exact(qeJ c cx ct X N).mono (by decide),fun x n e=>by cases e;exact(qfe c cx ct X N).mono (by decide),fun x n e=>by cases e;exact(qeg c cx ct X N).mono (by decide),fun x n e=>by cases e;exact(qgF c cx ct X N).mono (by decide),fun x n e=>by cases e;exact(qhG c cx ct X N).mono (by decide),fun x n e=>by cases e;exact(qil c cx ct X N).mono (by decide),fun x n e=>by cases e;exact(qhJ c cx ct X N).mono (by decide),fun x n e=>by cases e;exact(qjf c cx ct X N).mono (by decide),fun x n e=>by cases e;exact(qgY c cx ct X N).mono (by decide),fun x n e=>by cases e;exact(qhF c cx ct X N).mono (by decide),fun x n e=>by cases e;exact(qgj c cx ct X N).mono (by decide),fun x n e=>by cases e;exact(qjK c cx ct X N).mono (by decide),fun x n e=>by cases e;exact(qgB c cx ct X N).mono (by decide),fun x n e=>by cases e;exact(qhC c cx ct X N).mono (by decide),fun x n e=>by cases e;exact(qg4 c cx ct X N).mono (by decide),fun x n e=>by cases e;exact(qiq c cx ct X N).mono (by decide),fun x n e=>by cases e;exact(qgk c cx ct X N).mono (by decide),fun x n e=>by cases e;exact(qgK c cx ct X N).mono (by decide),fun x n e=>by cases e;exact(qfL c cx ct X N).mono (by decide),fun x n e=>by cases e;exact(qie c cx ct X N).mono (by decide),fun x n e=>by cases e;exact(qiv c cx ct X N).mono (by decide),fun x n e=>by cases e;exact(qjY c cx ct X N).mono (by decide),fun x n e=>by cases e;exact(qik c cx ct X N).mono (by decide),fun x n e=>by cases e;exact(qkC c cx ct X N).mono (by decide),fun x n e=>by cases e;exact(qhI c cx ct X N).mono (by decide),fun x n e=>by cases e;exact(qi2 c cx ct X N).mono (by decide),fun x n e=>by cases e;exact(qgR c cx ct X N).mono (by decide),fun x n e=>by cases e;exact(qld c cx ct X N).mono (by decide),fun x n e=>by cases e;exact(qiA c cx ct X N).mono (by decide),fun x n e=>by cases e;exact(qjJ c cx ct X N).mono (by decide),fun x n e=>by cases e;exact(qij c cx ct X N).mono (by decide),fun x n e=>by cases e;exact(qlo c cx ct X N).mono (by decide),fun x n e=>by cases e;exact(qhA c cx ct X N).mono (by decide),fun x n e=>by cases e;exact(qiB c cx ct X N).mono (by decide),fun x n e=>by cases e;exact(qgA c cx ct X N).mono (by decide),fun x n e=>by cases e;exact(qkB c cx ct X N).mono (by decide),trivial⟩ rfl trivial trivial ⟨qdj (j:=142) c X N rfl (qbZ (j:=0) cx rfl rfl qcQ) (qaa (j:=8) cx rfl rfl (qaa (j:=7) cx rfl rfl (qaa (j:=6) cx rfl rfl (qaa (j:=5) cx rfl rfl (qaa (j:=4) cx rfl rfl (qaa (j:=3) cx rfl rfl (qaa (j:=2) cx rfl rfl (qaa (j:=1) cx rfl rfl qcU)))))))),qdj (j:=27) c X N rfl (qbZ (j:=9) cx rfl rfl qcQ) (qaa (j:=17) cx rfl rfl (qaa (j:=16) cx rfl rfl (qaa (j:=15) cx rfl rfl (qaa (j:=14) cx rfl rfl (qaa (j:=13) cx rfl rfl (qaa (j:=12) cx rfl rfl (qaa (j:=11) cx rfl rfl (qaa (j:=10) cx rfl rfl qcU)))))))),qvy (qbZ (j:=18) cx rfl rfl qcQ) qcU,qdj (j:=143) c X N rfl (qbZ (j:=19) cx rfl rfl qcQ) (qaa (j:=27) cx rfl rfl (qaa (j:=26) cx rfl rfl (qaa (j:=25) cx rfl rfl (qaa (j:=24) cx rfl rfl (qaa (j:=23) cx rfl rfl (qaa (j:=22) cx rfl rfl (qaa (j:=21) cx rfl rfl (qaa (j:=20) cx rfl rfl qcU)))))))),qdj (j:=144) c X N rfl (qbZ (j:=28) cx rfl rfl qcQ) (qaa (j:=36) cx rfl rfl (qaa (j:=35) cx rfl rfl (qaa (j:=34) cx rfl rfl (qaa (j:=33) cx rfl rfl (qaa (j:=32) cx rfl rfl (qaa (j:=31) cx rfl rfl (qaa (j:=30) cx rfl rfl (qaa (j:=29) cx rfl rfl qcU)))))))),qdj (j:=145) c X N rfl (qbZ (j:=37) cx rfl rfl qcQ) (qaa (j:=45) cx rfl rfl (qaa (j:=44) cx rfl rfl (qaa (j:=43) cx rfl rfl (qaa (j:=42) cx rfl rfl (qaa (j:=41) cx rfl rfl (qaa (j:=40) cx rfl rfl (qaa (j:=39) cx rfl rfl (qaa (j:=38) cx rfl rfl qcU)))))))),qdj (j:=146) c X N rfl (qbZ (j:=46) cx rfl rfl qcQ) (qaa (j:=54) cx rfl rfl (qaa (j:=53) cx rfl rfl (qaa (j:=52) cx rfl rfl (qaa (j:=51) cx rfl rfl (qaa (j:=50) cx rfl rfl (qaa (j:=49) cx rfl rfl (qaa (j:=48) cx rfl rfl (qaa (j:=47) cx rfl rfl qcU)))))))),qdj (j:=147) c X N rfl (qbZ (j:=55) cx rfl rfl qcQ) (qaa (j:=63) cx rfl rfl (qaa (j:=62) cx rfl rfl (qaa (j:=61) cx rfl rfl (qaa (j:=60) cx rfl rfl (qaa (j:=59) cx rfl rfl (qaa (j:=58) cx rfl rfl (qaa (j:=57) cx rfl rfl (qaa (j:=56) cx rfl rfl qcU)))))))),qdj (j:=148) c X N rfl (qbZ (j:=64) cx rfl rfl qcQ) (qaa (j:=72) cx rfl rfl (qaa (j:=71) cx rfl rfl (qaa (j:=70) cx rfl rfl (qaa (j:=69) cx rfl rfl (qaa (j:=68) cx rfl rfl (qaa (j:=67) cx rfl rfl (qaa (j:=66) cx rfl rfl (qaa (j:=65) cx rfl rfl qcU)))))))),qdj (j:=149) c X N rfl (qbZ (j:=73) cx rfl rfl qcQ) (qaa (j:=81) cx rfl rfl (qaa (j:=80) cx rfl rfl (qaa (j:=79) cx rfl rfl (qaa (j:=78) cx rfl rfl (qaa (j:=77) cx rfl rfl (qaa (j:=76) cx rfl rfl (qaa (j:=75) cx rfl rfl (qaa (j:=74) cx rfl rfl qcU)))))))),qdj (j:=150) c X N rfl (qbZ (j:=82) cx rfl rfl qcQ) (qaa (j:=90) cx rfl rfl (qaa (j:=89) cx rfl rfl (qaa (j:=88) cx rfl rfl (qaa (j:=87) cx rfl rfl (qaa (j:=86) cx rfl rfl (qaa (j:=85) cx rfl rfl (qaa (j:=84) cx rfl rfl (qaa (j:=83) cx rfl rfl qcU)))))))),qdj (j:=151) c X N rfl (qbZ (j:=91) cx rfl rfl qcQ) (qaa (j:=99) cx rfl rfl (qaa (j:=98) cx rfl rfl (qaa (j:=97) cx rfl rfl (qaa (j:=96) cx rfl rfl (qaa (j:=95) cx rfl rfl (qaa (j:=94) cx rfl rfl (qaa (j:=93) cx rfl rfl (qaa (j:=92) cx rfl rfl qcU)))))))),qdj (j:=152) c X N rfl (qbZ (j:=100) cx rfl rfl qcQ) (qaa (j:=108) cx rfl rfl (qaa (j:=107) cx rfl rfl (qaa (j:=106) cx rfl rfl (qaa (j:=105) cx rfl rfl (qaa (j:=104) cx rfl rfl (qaa (j:=103) cx rfl rfl (qaa (j:=102) cx rfl rfl (qaa (j:=101) cx rfl rfl qcU)))))))),qdj (j:=153) c X N rfl qcQ (qaa (j:=116) cx rfl rfl (qaa (j:=115) cx rfl rfl (qaa (j:=114) cx rfl rfl (qaa (j:=113) cx rfl rfl (qaa (j:=112) cx rfl rfl (qaa (j:=111) cx rfl rfl (qaa (j:=110) cx rfl rfl (qaa (j:=109) cx rfl rfl qcU)))))))),trivial⟩ trivial trivial
theorem qlk:DefAt P w K mg base (GK K) 5 "_law_read" 3 g__law_read:=
 qjG (G:=GK K) (T:=qdt) (Γ:=qdM) (k:=4) (m:=3) (i:=13) (j:=154) (ir:=qcu) (ps:=["_law_floor_here","_law_row_here","_law_due_here"]) (d:=qhf) c X N rfl rfl rfl rfl rfl rfl qlq rfl qli (fun _ _ _ _ _ _ us hl=>match us,hl with | [_,_,_],_=>rfl) (qkD c cx ct X N)
theorem qid:TabOk P w K mg base qcl qcj (GK K) 0:=
 qdO (mts:=[]) (fds:=[]) c X N trivial trivial rfl trivial rfl trivial trivial trivial trivial trivial
theorem qiu:DefAt P w K mg base (GK K) 1 "_law_number" 1 g__law_number:=
 qjG (G:=GK K) (T:=qcl) (Γ:=qcj) (k:=0) (m:=2) (i:=14) (j:=155) (ir:=qbW) (ps:=["_law_word"]) (d:=qfE) c X N rfl rfl rfl rfl rfl rfl qiN rfl qiV (fun _ _ _ _ _ _ us hl=>match us,hl with | [_],_=>rfl) (qid c cx ct X N)
theorem qhe:TabOk P w K mg base qbO qbS (GK K) 0:=
 qdO (mts:=[]) (fds:=[]) c X N trivial trivial rfl trivial rfl trivial trivial trivial trivial trivial
theorem qgx:DefAt P w K mg base (GK K) 1 "_law_of_cells" 5 g__law_of_cells:=
 qjG (G:=GK K) (T:=qbO) (Γ:=qbS) (k:=0) (m:=1) (i:=15) (j:=156) (ir:=qbq) (ps:=["_law_floor_here","_law_name","_law_number_here","_law_sign_here","_law_cells_here"]) (d:=qek) c X N rfl rfl rfl rfl rfl rfl qhn rfl qgQ (fun _ _ _ _ _ _ us hl=>match us,hl with | [_,_,_,_,_],_=>rfl) (qhe c cx ct X N)
theorem qmJ:TabOk P w K mg base qer qex (GK K) 1:=
 qdO (mts:=[]) (fds:=[]) c X N ⟨(qiu c cx ct X N).mono (by decide),(qgx c cx ct X N).mono (by decide),trivial⟩ trivial rfl trivial rfl trivial trivial trivial trivial trivial
theorem qmr:DefAt P w K mg base (GK K) 2 "_law_due" 2 g__law_due:=
 qjG (G:=GK K) (T:=qer) (Γ:=qex) (k:=1) (m:=4) (i:=16) (j:=157) (ir:=qdn) (ps:=["_law_floor_here","_law_row_here"]) (d:=qhT) c X N rfl rfl rfl rfl rfl rfl qmI rfl qmq (fun _ _ _ _ _ _ us hl=>match us,hl with | [_,_],_=>rfl) (qmJ c cx ct X N)
theorem qvC:TabOk P w K mg base qpX qpQ (GK K) 5:=
 qdO (mts:=[]) (fds:=[]) c X N ⟨(qi7 c cx ct X N).mono (by decide),(qeo c cx ct X N).mono (by decide),(qms c cx ct X N).mono (by decide),(qhB c cx ct X N).mono (by decide),(qlk c cx ct X N).mono (by decide),(qmr c cx ct X N).mono (by decide),trivial⟩ trivial rfl trivial rfl trivial trivial trivial trivial trivial
theorem o_law {fa0:Addr} (e:mg "law" = some (.ref fa0)):∃fd:FuncData,(∀(s:Shared) (u:Value),BindsTo s fd ⟨[u],[]⟩ [("_law_script",u)])∧∀base:Heap,K.In base→base.Ns mainGlobals mg→FnOk P w K mg base (L2.CX P w) 6 fa0 fd ["_law_script"] (spD (GK K) 1 g_law):=
 qxk (G:=GK K) (T:=qpX) (Γ:=qpQ) (k:=5) (m:=3) (i:=17) (j:=158) (ir:=qnv) (d:=quJ) c X N rfl rfl rfl rfl rfl rfl e qvt rfl qvw (fun _ _ _ _ _ _ us hl=>match us,hl with | [_],_=>rfl) (fun base _ _=>qvC c cx ct X N)
end
end
end K18
open PySem PySem.W PySem.Calls PyProof.Rows
theorem PySem.Challenge.cw_cluemaker_k18_rows_read_and_refused_holds : PySem.Challenge.rw_cluemaker_k18_rows_read_and_refused.Holds := by
  w_on; o_law
  refine HandSHeadRun.head_any (r := K18.R) (q := K18.vw) (H := Cm.hookL K18.as K18.fa K18.fn K18.xa K18.ts) (ob := Cm.obT K18.as K18.fa K18.fn K18.xa K18.ts) (M := 6482) (loose := K18.loose) (d := HandSHeadRun.topDef K18.R.prog 46) (kwd := []) Cm.obT_eq
    (by kernel_rfl) (fun s => by kernel_rfl) K18.run (by kernel_rfl) (by kernel_rfl) (by kernel_rfl) (by rfl) (by first | assumption | decide +kernel) (by decide +kernel) ⟨rfl, rfl, rfl, rfl, rfl, by decide +kernel⟩ ?hw ?hc
  case hw => w_witness2
  case hc =>
    refine LamX.walk_ofTsE (l := PySem.Challenge.rw_cluemaker_k18_rows_read_and_refused) (n := 63) (k := 6) (x := "_law_script") (CX := fun w => L2.CX PySem.Challenge.rw_cluemaker_k18_rows_read_and_refused.prog w) rfl (by decide) (by kernel_rfl) ⟨rfl, by decide, by decide⟩ ?F (fun w => Cm.cx_end)
    intro w mg fa0 h Y N hmg0
    obtain ⟨K, KX, c, cx, ct⟩ := Y
    have hmg : mg ("law" : PySem.Str) = some (.ref fa0) := by
      have e : (HandSHeadRun.topDef K18.R.prog 46).name = ("law" : PySem.Str) := by kernel_rfl
      rw [← e]
      exact hmg0
    exact ⟨K, KX, Cm.law_at (G := K18.GK K) (g := K18.g_law) rfl (K18.o_law c cx ct KX N hmg) K18.law_true⟩
