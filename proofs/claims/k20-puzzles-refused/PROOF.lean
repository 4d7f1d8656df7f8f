import PyProof.Rows.All
import HandS.Head0
import HandS.Head1
import HandS.Head2
import HandS.HeadEnd
import HandS.HeadHook1
import HandS.HeadHook2
import HandS.HeadHook3
import HandS.HeadWalk
import Wide.All
import OpenK.AllK
import Wide.FinOn
import HandS.ForMost
import HandS.Exc
import HandS.TryOnly
import HandS.ExcOwn
import HandS.WordsExc
import HandS.Deep
import HandS.IsInst
import HandS.SortInts
import HandS.Walk
import HandS.Flow
import HandS.Style
import HandS.Conv
import HandS.Defaults
import HandS.WideBits
import HandS.ExcIs
import HandS.ExcValue
import HandS.SetFor
import HandS.RevRange
import KE.KUnpack
import KE.GoesRaise
import HandS.Replace
import HandS.SortKw
import KE.DataMinMax
import KE.LtSeq
import KE.KSortAsk
import HandS.SortRule
import HandS.Strs
import PyProof.FactsAll.tuple_0
import PyProof.FactsAll.tuple_2
import HandS.RevTup
import PyProof.ListNew
import HandS.Dict
import HandS.Codes
import KE.OsSetLaws
import PySem.Challenge.RW_cluemaker_k20_puzzles_refused
set_option Elab.async false
set_option linter.all false
set_option maxRecDepth 100000
set_option maxHeartbeats 1000000
namespace Cm
open PySem PySem.Spec PyProof.Rows L2 PySem.W
def bltNames:List Str:=["len","abs","min","max","sum","sorted","all","any","list","int","str","bool","tuple","isinstance","range","zip","enumerate","reversed","set","divmod","ValueError"]
inductive Xa where
 |ck (x:Str) (own:Bool) (d:Str) (b:Bool)
 |ik (x:Str) (own:Bool) (d:Str) (b:Bool)
 |mk0 (x:Str)
 |tup (x:Str) (zs:List Str)
 |dno (x z:Str)
 |dtu (x z:Str) (zs:List Str)
def qwO:Value→Option Str
 |.str z _=>some z
 |_=>none
def qou (K:PySem.W.Frag) (u:Option (Option Value)) (zs:List Str):Bool:=match u with
 |some (some (.ref a))=>match K.lookup a with
  |some ⟨cls,dct,.seq its _,_⟩=>decide (cls=.type "tuple")&&decide (its.size≤1000)&&decide (its.toList.map qwO=zs.map some)&&dct.isNone
  |_=>false
 |_=>false
def cv (K:PySem.W.Frag) (x:Str) (own:Bool):Value:=match own with
 |true=>.ref (He.ga K x)
 |false=>.type "ValueError"
def Xa.ok (K:PySem.W.Frag):Xa→Bool
 |.ck x own d b=>decide (PySem.W.kitOne K (.ref (He.ga K d)) (cv K x own)=some b)&&(decide (PySem.W.exmOne K (.ref (He.ga K d)) (cv K x own)=some b) &&
  (He.eqO (PySem.W.findIn K (.ref (He.ga K d)) "__getattribute__") (some (some (.builtin "BaseException.__getattribute__")))&&(He.eqO (PySem.W.findIn K (.ref (He.ga K d)) "__getattr__") (some none) &&
  (decide (PySem.W.subIn K (.ref (He.ga K d)) (.type "BaseException")=some true)&&(PySem.W.hasDictIn K (He.ga K d)&&(He.eqO (PySem.W.findIn K (.ref (He.ga K d)) "__class__") (some (some (.builtin "object.__class__"))) &&
  (He.eqO (PySem.W.specialIn K (.builtin "object.__class__") "__get__") (some (some (.builtin "getset_descriptor.__get__")))&&(decide (PySem.W.takesIn K (.builtin "object.__class__")=some true)&&decide (PySem.W.mroIn K (He.ga K d) (.type "object")=some true)))))))))
 |.ik x own d b=>decide (PySem.W.kitOne K (.ref (He.ga K d)) (cv K x own)=some b)&&((He.Fa.cls d).ok K&&(He.eqO (PySem.W.findIn K (.ref (He.ga K d)) "__class__") (some (some (.builtin "object.__class__"))) &&
  (He.eqO (PySem.W.specialIn K (.builtin "object.__class__") "__get__") (some (some (.builtin "getset_descriptor.__get__")))&&(decide (PySem.W.takesIn K (.builtin "object.__class__")=some true)&&decide (PySem.W.mroIn K (He.ga K d) (.type "object")=some true)))))
 |.mk0 x=>PySem.W.makesIn K (He.ga K x)&&(He.eqO (PySem.W.findIn K (.ref (He.ga K x)) "__init__") (some (some (.builtin "object.__init__")))&&PySem.W.keepIn K (.ref (He.ga K x)))
 |.tup x zs=>qou K (PySem.W.nsIn K mainGlobals x) zs
 |.dno x z=>He.eqO (PySem.W.nsIn K (He.ga K x) z) (some none)
 |.dtu x z zs=>qou K (PySem.W.nsIn K (He.ga K x) z) zs
def qsP (xa:List Xa) (K:PySem.W.Frag):Bool:=xa.all (Xa.ok K)
def qvF (ts:List (Str × List Str)) (w:World) (K:PySem.W.Frag):Prop:=(ts.map fun t=>He.dicW K (He.ga K t.1))=ts.map fun t=>some (He.keysIn w.params t.2)
theorem qwr {r:PySem.W.OpenRow} {q:Program} {H:PySem.W.Hook} {ob:PySem.W.SharedT→H.α} {M:Nat} {loose:List Str} {w:World}
  (a:∀os:OsState,(HandSHeadRun.endF (HandSHeadRun.stepQ (HandSHeadRun.denQ HandSHeadRun.tabQ) r.prog w) M r.prog w os).map (fun s=>HandSHeadRun.looksF r.prog (boot_heap w.params) s.abs)=some true)
  (b:∀os:OsState,(HandSHeadRun.endF (HandSHeadRun.stepQ (HandSHeadRun.denQ HandSHeadRun.tabQ) r.prog w) M r.prog w os).map (fun s=>HandSHeadRun.seenQ q loose (PySem.importedModules r.prog.main.body) (fun s=>PySem.W.xlAt q [] s&&PySem.W.recOk r.toRowW.records s) s.abs)=some (PySem.W.openGood q loose))
  (c:∀os:OsState,(HandSHeadRun.endF (HandSHeadRun.stepQ (HandSHeadRun.denQ HandSHeadRun.tabQ) r.prog w) M r.prog w os).map ob=some (H.val w)):HandSHeadRun.RunEq r q H ob M loose w:=by
 intro os
 have a:=a os
 have b:=b os
 have c:=c os
 cases e:HandSHeadRun.endF (HandSHeadRun.stepQ (HandSHeadRun.denQ HandSHeadRun.tabQ) r.prog w) M r.prog w os with
 |none=>rw[e] at a;cases a
 |some s =>
  rw[e] at a b c
  simp only[Option.map_some,Option.some.injEq] at a b c ⊢
  rw[a,b,c]
abbrev AlL:Type:=(He.AlD × Bool) × List (Option (List (Option (Str × Int))))
def obL (as:List Addr) (fa:List He.Fa) (fn:List He.DefD) (xa:List Xa) (ts:List (Str × List Str)) (g:Addr→Option Obj):AlL:=((He.obsD fa fn (He.frG g as),qsP xa (He.frG g as)),ts.map fun(t:Str × List Str)=>He.dicW (He.frG g as) (He.ga (He.frG g as) t.1))
def hookL (as:List Addr) (fa:List He.Fa) (fn:List He.DefD) (xa:List Xa) (ts:List (Str × List Str)):PySem.W.Hook where
 α:=AlL
 obs:=fun s=>obL as fa fn xa ts s.heap.get?
 val:=fun w=>((He.valD fn,true),ts.map fun(t:Str × List Str)=>some (He.keysIn w.params t.2))
 says:=fun w h=>∃K:PySem.W.Frag,K.In h∧He.SaysD fa fn K∧qsP xa K=true∧qvF ts w K
 of:=fun _ _ e=>⟨_,He.frG_in,congrArg (fun z:AlL=>z.1.1) e,congrArg (fun z:AlL=>z.1.2) e,congrArg (fun z:AlL=>z.2) e⟩
 keeps:=fun _ _ _ ⟨K,kin,says⟩ st=>⟨K,PySem.W.Frag.In.keeps kin st,says⟩
def obT (as:List Addr) (fa:List He.Fa) (fn:List He.DefD) (xa:List Xa) (ts:List (Str × List Str)) (s:PySem.W.SharedT):AlL:=obL as fa fn xa ts (HandSHeadRun.getT s)
theorem obT_eq {as:List Addr} {fa:List He.Fa} {fn:List He.DefD} {xa:List Xa} {ts:List (Str × List Str)} (s:PySem.W.SharedT):obT as fa fn xa ts s=(hookL as fa fn xa ts).obs s.abs:=by
 have:HandSHeadRun.getT s=s.abs.heap.get?:=funext fun a=>HandSHeadRun.getT_eq s a
 show obL as fa fn xa ts (HandSHeadRun.getT s)=obL as fa fn xa ts s.abs.heap.get?
 rw[this]
end Cm
set_option maxHeartbeats 0
namespace K20
open Cm PySem PySem.Spec PyProof.Rows L2
def top (i:Nat):Stmt:=PySem.Challenge.pw_cluemaker_k20_puzzles_refused.main.body.getD i (.Pass ⟨0,0,0,0⟩)
def sub (i j:Nat):Stmt:=match top i with
 |.ClassDef _ _ _ body _ _ _ _ _ _ _=>body.getD j (.Pass ⟨0,0,0,0⟩)
 |_=>.Pass ⟨0,0,0,0⟩
def mkF (n:Str) (e:Stmt):He.DefD:=⟨(n,none),n,n,defArgs e,defBody e,defScope e,[],[]⟩
def mkD (n:Str × Option Str) (a b:Str) (e:Stmt):He.DefD:=⟨n,a,b,defArgs e,defBody e,defScope e,[],[]⟩
def qjl:He.DefD:=mkF "_law_at" (top 44)
def qge:He.DefD:=mkF "_law_floor" (top 45)
def qeQ:He.DefD:=mkF "_law_filling" (top 51)
def qfl:He.DefD:=mkF "_law_stream" (top 46)
def qfY:He.DefD:=mkF "_law_order" (top 47)
def qgC:He.DefD:=mkF "_law_kept" (top 48)
def qhc:He.DefD:=mkF "_law_seen" (top 49)
def qgG:He.DefD:=mkF "_law_line" (top 50)
def qdY:He.DefD:=mkF "_law_bad_clues" (top 54)
def qeq:He.DefD:=mkF "_law_bad_line" (top 53)
def qdV:He.DefD:=mkF "_law_bad_floor" (top 52)
def qfW:He.DefD:=mkF "_law_named" (top 56)
def qhY:He.DefD:=mkF "floor_of" (top 18)
def qgK:He.DefD:=mkF "number_of" (top 35)
def qhk:He.DefD:=mkF "sign_told" (top 36)
def qf0:He.DefD:=mkF "many_cells" (top 19)
def qf2:He.DefD:=mkF "whole_rule" (top 38)
def qf5:He.DefD:=mkF "cells_told" (top 37)
def qhb:He.DefD:=mkF "read_rule" (top 39)
def qgf:He.DefD:=mkF "is_filling" (top 21)
def qeR:He.DefD:=mkF "_law_refused" (top 55)
def qf1:He.DefD:=mkF "_law_clued" (top 57)
def qs5:He.DefD:=mkF "law" (top 58)
def qft:He.DefD:=mkD ("Unlike",some "name") "name" "Unlike.name" (sub 24 0)
def qf9:He.DefD:=mkD ("Total",some "name") "name" "Total.name" (sub 25 0)
def qfk:He.DefD:=mkD ("Rising",some "name") "name" "Rising.name" (sub 26 0)
def qgT:He.DefD:=mkD ("Seen",some "name") "name" "Seen.name" (sub 27 0)
def qeU:He.DefD:=mkD ("Counted",some "name") "name" "Counted.name" (sub 28 0)
def qfy:He.DefD:=mkD ("Joined",some "name") "name" "Joined.name" (sub 29 0)
def qee:He.DefD:=mkD ("NoSquare",some "name") "name" "NoSquare.name" (sub 30 0)
def qgL:He.DefD:=mkD ("Ring",some "name") "name" "Ring.name" (sub 31 0)
def qcf:He.DefD:=mkD ("Unlike",some "told_numbers") "told_numbers" "Rule.told_numbers" (sub 23 8)
def qco:He.DefD:=mkD ("Total",some "told_numbers") "told_numbers" "Total.told_numbers" (sub 25 3)
def qch:He.DefD:=mkD ("Rising",some "told_numbers") "told_numbers" "Rule.told_numbers" (sub 23 8)
def qcJ:He.DefD:=mkD ("Seen",some "told_numbers") "told_numbers" "Seen.told_numbers" (sub 27 3)
def qbS:He.DefD:=mkD ("Counted",some "told_numbers") "told_numbers" "Counted.told_numbers" (sub 28 2)
def qce:He.DefD:=mkD ("Joined",some "told_numbers") "told_numbers" "Joined.told_numbers" (sub 29 2)
def qbL:He.DefD:=mkD ("NoSquare",some "told_numbers") "told_numbers" "NoSquare.told_numbers" (sub 30 2)
def qcM:He.DefD:=mkD ("Ring",some "told_numbers") "told_numbers" "Ring.told_numbers" (sub 31 2)
def qfq:He.DefD:=mkD ("Unlike",some "line") "line" "Rule.line" (sub 23 7)
def qga:He.DefD:=mkD ("Total",some "line") "line" "Rule.line" (sub 23 7)
def qfs:He.DefD:=mkD ("Rising",some "line") "line" "Rule.line" (sub 23 7)
def qhh:He.DefD:=mkD ("Seen",some "line") "line" "Rule.line" (sub 23 7)
def qeW:He.DefD:=mkD ("Counted",some "line") "line" "Rule.line" (sub 23 7)
def qfi:He.DefD:=mkD ("Joined",some "line") "line" "Rule.line" (sub 23 7)
def qen:He.DefD:=mkD ("NoSquare",some "line") "line" "Rule.line" (sub 23 7)
def qgD:He.DefD:=mkD ("Ring",some "line") "line" "Rule.line" (sub 23 7)
def qeS:He.DefD:=mkD ("Puzzle",some "lines") "lines" "Puzzle.lines" (sub 42 3)
def qeO:He.DefD:=mkD ("Puzzle",some "clued") "clued" "Puzzle.clued" (sub 42 10)
def qeN:He.DefD:=mkD ("Puzzle",some "clues") "clues" "Puzzle.clues" (sub 42 4)
def qdk:He.DefD:=mkD ("Unlike",some "__init__") "__init__" "Rule.__init__" (sub 23 0)
def qdX:He.DefD:=mkD ("Total",some "__init__") "__init__" "Rule.__init__" (sub 23 0)
def qds:He.DefD:=mkD ("Rising",some "__init__") "__init__" "Rule.__init__" (sub 23 0)
def qem:He.DefD:=mkD ("Seen",some "__init__") "__init__" "Rule.__init__" (sub 23 0)
def qdg:He.DefD:=mkD ("Counted",some "__init__") "__init__" "Rule.__init__" (sub 23 0)
def qdo:He.DefD:=mkD ("Joined",some "__init__") "__init__" "Rule.__init__" (sub 23 0)
def qcD:He.DefD:=mkD ("NoSquare",some "__init__") "__init__" "Rule.__init__" (sub 23 0)
def qea:He.DefD:=mkD ("Ring",some "__init__") "__init__" "Rule.__init__" (sub 23 0)
def qdm:He.DefD:=mkD ("Puzzle",some "__init__") "__init__" "Puzzle.__init__" (sub 42 0)
def fnA:List He.DefD:=[qjl,qge,qeQ,qfl,qfY,qgC,qhc,qgG,qdY,qeq,qdV,qfW,qhY,qgK,qhk,qf0,qf2,qf5,qhb,qgf,qeR,qf1,qs5,qft,qf9,qfk,qgT,qeU,qfy,qee]
def fnB:List He.DefD:=[qgL,qcf,qco,qch,qcJ,qbS,qce,qbL,qcM,qfq,qga,qfs,qhh,qeW,qfi,qen,qgD,qeS,qeO,qeN,qdk,qdX,qds,qem,qdg,qdo,qcD,qea,qdm]
def fn:List He.DefD:=fnA++fnB
def fa0:List He.Fa:=[.glo "_law_at",.glo "_law_floor",.glo "_law_filling",.glo "_law_stream",.glo "_law_order",.glo "_law_kept",.glo "_law_seen",.glo "_law_line",.glo "_law_bad_clues",.glo "_law_bad_line",.glo "_law_bad_floor",.glo "BadThought",.glo "NoFilling",.glo "NoMove",.glo "NoName",.glo "NoRow",.glo "NoText",.glo "NotOne",.glo "TooMany",.glo "NoFloor",.glo "NoRule",.glo "NoPuzzle",.glo "_law_named",.exc "NoFloor",.int "MOST_SIDE" 6,.int "MOST_CELLS" 16,.int "MOST_SIGNS" 6,.glo "floor_of",.exc "NoRule",.int "LONGEST" 2,.str "FIGURES" "0123456789",.glo "number_of",.glo "sign_told",.glo "many_cells",.cls "Unlike",.noat "Unlike" "ground",.cls "Total",.noat "Total" "ground",.cls "Rising",.noat "Rising" "ground",.cls "Seen",.noat "Seen" "ground",.cls "Counted",.noat "Counted" "ground",.cls "Joined",.noat "Joined" "ground",.cls "NoSquare",.noat "NoSquare" "ground",.cls "Ring",.noat "Ring" "ground",.cls "Puzzle",.noat "Puzzle" "ground",.noat "Unlike" "cells",.noat "Total" "cells",.noat "Rising" "cells",.noat "Seen" "cells",.noat "Counted" "cells",.noat "Joined" "cells",.noat "NoSquare" "cells",.noat "Ring" "cells",.noat "Unlike" "wanted",.noat "Total" "wanted",.noat "Rising" "wanted",.noat "Seen" "wanted",.noat "Counted" "wanted",.noat "Joined" "wanted",.noat "NoSquare" "wanted",.noat "Ring" "wanted",.noat "Unlike" "of_sign",.noat "Total" "of_sign",.noat "Rising" "of_sign",.noat "Seen" "of_sign",.noat "Counted" "of_sign",.noat "Joined" "of_sign",.noat "NoSquare" "of_sign",.noat "Ring" "of_sign",.mkr "Unlike",.glo "Unlike",.mkr "Total",.glo "Total",.mkr "Rising",.glo "Rising",.mkr "Seen",.glo "Seen",.mkr "Counted",.glo "Counted",.mkr "Joined",.glo "Joined",.mkr "NoSquare",.glo "NoSquare",.mkr "Ring",.glo "Ring",.glo "whole_rule",.glo "cells_told",.glo "read_rule",.glo "is_filling",.noat "Puzzle" "rule_list",.noat "Puzzle" "clue_list",.exc "NoPuzzle",.int "MOST_RULES" 12,.mkr "Puzzle",.glo "Puzzle",.glo "ClueError",.glo "_law_refused",.meth "Unlike" "name",.meth "Total" "name",.meth "Rising" "name",.meth "Seen" "name",.meth "Counted" "name",.meth "Joined" "name",.meth "NoSquare" "name",.meth "Ring" "name",.meth "Unlike" "told_numbers",.meth "Rising" "told_numbers",.meth "Total" "told_numbers",.meth "Seen" "told_numbers",.meth "Counted" "told_numbers",.meth "Joined" "told_numbers",.meth "NoSquare" "told_numbers",.meth "Ring" "told_numbers",.meth "Unlike" "line",.meth "Total" "line",.meth "Rising" "line",.meth "Seen" "line",.meth "Counted" "line",.meth "Joined" "line",.meth "NoSquare" "line",.meth "Ring" "line",.meth "Puzzle" "lines",.meth "Puzzle" "clued",.glo "_law_clued",.meth "Puzzle" "clues",.glo "law"]
abbrev fa:List He.Fa:=bltNames.map He.Fa.free++fa0
def xa:List Xa:=[.ck "BadThought" true "NoPuzzle" false,.ck "BadThought" true "NoRule" false,.ck "BadThought" true "NoFloor" false,.ik "BadThought" true "Puzzle" false,.ik "BadThought" true "Ring" false,.ik "BadThought" true "NoSquare" false,.ik "BadThought" true "Joined" false,.ik "BadThought" true "Counted" false,.ik "BadThought" true "Seen" false,.ik "BadThought" true "Rising" false,.ik "BadThought" true "Total" false,.ik "BadThought" true "Unlike" false,.ck "NoFilling" true "NoPuzzle" false,.ck "NoFilling" true "NoRule" false,.ck "NoFilling" true "NoFloor" false,.ik "NoFilling" true "Puzzle" false,.ik "NoFilling" true "Ring" false,.ik "NoFilling" true "NoSquare" false,.ik "NoFilling" true "Joined" false,.ik "NoFilling" true "Counted" false,.ik "NoFilling" true "Seen" false,.ik "NoFilling" true "Rising" false,.ik "NoFilling" true "Total" false,.ik "NoFilling" true "Unlike" false,.ck "NoMove" true "NoPuzzle" false,.ck "NoMove" true "NoRule" false,.ck "NoMove" true "NoFloor" false,.ik "NoMove" true "Puzzle" false,.ik "NoMove" true "Ring" false,.ik "NoMove" true "NoSquare" false,.ik "NoMove" true "Joined" false,.ik "NoMove" true "Counted" false,.ik "NoMove" true "Seen" false,.ik "NoMove" true "Rising" false,.ik "NoMove" true "Total" false,.ik "NoMove" true "Unlike" false,.ck "NoName" true "NoPuzzle" false,.ck "NoName" true "NoRule" false,.ck "NoName" true "NoFloor" false,.ik "NoName" true "Puzzle" false,.ik "NoName" true "Ring" false,.ik "NoName" true "NoSquare" false,.ik "NoName" true "Joined" false,.ik "NoName" true "Counted" false,.ik "NoName" true "Seen" false,.ik "NoName" true "Rising" false,.ik "NoName" true "Total" false,.ik "NoName" true "Unlike" false,.ck "NoRow" true "NoPuzzle" false,.ck "NoRow" true "NoRule" false,.ck "NoRow" true "NoFloor" false,.ik "NoRow" true "Puzzle" false,.ik "NoRow" true "Ring" false,.ik "NoRow" true "NoSquare" false,.ik "NoRow" true "Joined" false,.ik "NoRow" true "Counted" false,.ik "NoRow" true "Seen" false,.ik "NoRow" true "Rising" false,.ik "NoRow" true "Total" false,.ik "NoRow" true "Unlike" false,.ck "NoText" true "NoPuzzle" false,.ck "NoText" true "NoRule" false,.ck "NoText" true "NoFloor" false,.ik "NoText" true "Puzzle" false,.ik "NoText" true "Ring" false,.ik "NoText" true "NoSquare" false,.ik "NoText" true "Joined" false,.ik "NoText" true "Counted" false,.ik "NoText" true "Seen" false,.ik "NoText" true "Rising" false,.ik "NoText" true "Total" false,.ik "NoText" true "Unlike" false,.ck "NotOne" true "NoPuzzle" false,.ck "NotOne" true "NoRule" false,.ck "NotOne" true "NoFloor" false,.ik "NotOne" true "Puzzle" false,.ik "NotOne" true "Ring" false,.ik "NotOne" true "NoSquare" false,.ik "NotOne" true "Joined" false,.ik "NotOne" true "Counted" false,.ik "NotOne" true "Seen" false,.ik "NotOne" true "Rising" false,.ik "NotOne" true "Total" false,.ik "NotOne" true "Unlike" false,.ck "TooMany" true "NoPuzzle" false,.ck "TooMany" true "NoRule" false,.ck "TooMany" true "NoFloor" false,.ik "TooMany" true "Puzzle" false,.ik "TooMany" true "Ring" false,.ik "TooMany" true "NoSquare" false,.ik "TooMany" true "Joined" false,.ik "TooMany" true "Counted" false,.ik "TooMany" true "Seen" false,.ik "TooMany" true "Rising" false,.ik "TooMany" true "Total" false,.ik "TooMany" true "Unlike" false,.ck "ValueError" false "NoPuzzle" true,.ck "ValueError" false "NoRule" true,.ck "ValueError" false "NoFloor" true,.ck "NoFloor" true "NoPuzzle" false,.ck "NoFloor" true "NoRule" false,.ck "NoFloor" true "NoFloor" true,.ik "NoFloor" true "Puzzle" false,.ik "NoFloor" true "Ring" false,.ik "NoFloor" true "NoSquare" false,.ik "NoFloor" true "Joined" false,.ik "NoFloor" true "Counted" false,.ik "NoFloor" true "Seen" false,.ik "NoFloor" true "Rising" false,.ik "NoFloor" true "Total" false,.ik "NoFloor" true "Unlike" false,.ck "NoRule" true "NoPuzzle" false,.ck "NoRule" true "NoRule" true,.ck "NoRule" true "NoFloor" false,.ik "NoRule" true "Puzzle" false,.ik "NoRule" true "Ring" false,.ik "NoRule" true "NoSquare" false,.ik "NoRule" true "Joined" false,.ik "NoRule" true "Counted" false,.ik "NoRule" true "Seen" false,.ik "NoRule" true "Rising" false,.ik "NoRule" true "Total" false,.ik "NoRule" true "Unlike" false,.ck "NoPuzzle" true "NoPuzzle" true,.ck "NoPuzzle" true "NoRule" false,.ck "NoPuzzle" true "NoFloor" false,.ik "NoPuzzle" true "Puzzle" false,.ik "NoPuzzle" true "Ring" false,.ik "NoPuzzle" true "NoSquare" false,.ik "NoPuzzle" true "Joined" false,.ik "NoPuzzle" true "Counted" false,.ik "NoPuzzle" true "Seen" false,.ik "NoPuzzle" true "Rising" false,.ik "NoPuzzle" true "Total" false,.ik "NoPuzzle" true "Unlike" false,.ck "ClueError" true "NoPuzzle" true,.ck "ClueError" true "NoRule" true,.ck "ClueError" true "NoFloor" true,.ik "ClueError" true "Puzzle" false,.ik "ClueError" true "Ring" false,.ik "ClueError" true "NoSquare" false,.ik "ClueError" true "Joined" false,.ik "ClueError" true "Counted" false,.ik "ClueError" true "Seen" false,.ik "ClueError" true "Rising" false,.ik "ClueError" true "Total" false,.ik "ClueError" true "Unlike" false]
def ts:List (Str × List Str):=[]
abbrev R:PySem.W.OpenRow:=PySem.W.OpenLaw.row PySem.Challenge.rw_cluemaker_k20_puzzles_refused
def as:List Addr:=([3,31,30,44,43,56,55,68,67,80,79,99,98,111,110,123,122,135,134,147,146,159,158,171,170,270,269,305,304,352]:List Addr)++([351,392,391,439,438,479,478,519,518,559,558,599,598,717,716,728,727,735,734,771,770,742,741,749,748,754,753,761,760,766]:List Addr)++([765,792,791,785,784,778,777,806,805,180,179,608,607,615,614,187,186,206,205,629,628,622,621,634,633,192,191,646,645,799]:List Addr)++([798,288,287,321,320,368,367,408,407,455,454,495,494,535,534,575,574,260,259,342,341,429,428,469,468,509,508,549,548,589]:List Addr)++([588,253,252,665,664,714,713,813,812,672,671,818,817]:List Addr)
def loose:List Str:=(["_wall","ClueError","NoFloor","NoFilling","NoRule","NoPuzzle","BadThought","TooMany","NotOne","NoMove","NoText","NoName","NoRow","MOST_SIDE","MOST_CELLS","MOST_SIGNS","floor_of","many_cells","is_filling","Rule","Unlike","Total","Rising","Seen","Counted","Joined","NoSquare","Ring","FIGURES","LONGEST"]:List Str)++(["number_of","sign_told","cells_told","whole_rule","read_rule","MOST_RULES","Puzzle","_law_at","_law_floor","_law_stream","_law_order","_law_kept","_law_seen","_law_line","_law_filling","_law_bad_floor","_law_bad_line","_law_bad_clues","_law_refused","_law_named","_law_clued"]:List Str)
abbrev vw:Program:=PySem.W.view R.prog [58]
theorem rA (w:World):∀os:OsState,(HandSHeadRun.endF (HandSHeadRun.stepQ (HandSHeadRun.denQ HandSHeadRun.tabQ) R.prog w) 7211 R.prog w os).map (fun s=>HandSHeadRun.looksF R.prog (PySem.W.boot_heap w.params) s.abs)=some true:=by
 intro os
 kernel_rfl
theorem rB (w:World):∀os:OsState,(HandSHeadRun.endF (HandSHeadRun.stepQ (HandSHeadRun.denQ HandSHeadRun.tabQ) R.prog w) 7211 R.prog w os).map (fun s=>HandSHeadRun.seenQ vw loose (PySem.importedModules R.prog.main.body) (fun s=>PySem.W.xlAt vw [] s&&PySem.W.recOk R.toRowW.records s) s.abs)=some (PySem.W.openGood vw loose):=by
 intro os
 kernel_rfl
theorem rC (w:World):∀os:OsState,(HandSHeadRun.endF (HandSHeadRun.stepQ (HandSHeadRun.denQ HandSHeadRun.tabQ) R.prog w) 7211 R.prog w os).map (obT as fa fn xa ts)=some ((hookL as fa fn xa ts).val w):=by
 intro os
 kernel_rfl
theorem run (w:World):HandSHeadRun.RunEq R vw (hookL as fa fn xa ts) (obT as fa fn xa ts) 7211 loose w:=qwr (rA w) (rB w) (rC w)
end K20
namespace Cm
open PySem PySem.Spec PyProof.Rows L2
inductive D where
 |non | bl (b:Bool) | int (i:Int) | str (s:List Nat)
 |lst (xs:List D) | tup (xs:List D)
 |ins (c:Nat) (fs:List D) | exc (c:Nat) (fs:List D)
mutual
@[simp] def D.flat:D→Bool
 |.lst _=>false
 |.tup xs=>D.flats xs
 |.exc _ fs=>D.flats fs
 |.non=>true
 |.bl _=>true
 |.int _=>true
 |.str _=>true
 |.ins _ _=>true
@[simp] def D.flats:List D→Bool
 |[]=>true
 |d::ds=>d.flat&&D.flats ds
end
mutual
def D.fit:D→Nat→Bool
 |.non,_=>true
 |.bl _,_=>true
 |.int _,_=>true
 |.str s,_=>PyData.strOk ⟨s.toArray⟩
 |.lst xs,n=>decide (0<n)&&D.fits xs (n - 1)
 |.tup xs,n=>decide (0<n)&&D.fits xs (n - 1)
 |.ins _ _,_=>false
 |.exc _ _,_=>false
def D.fits:List D→Nat→Bool
 |[],_=>true
 |d::ds,n=>d.fit n&&D.fits ds n
end
mutual
def D.py:D→PyData
 |.non=>.none
 |.bl b=>.bool b
 |.int i=>.int i
 |.str s=>.str ⟨s.toArray⟩
 |.lst xs=>.list (D.pys xs)
 |.tup xs=>.tuple (D.pys xs)
 |.ins _ _=>.none
 |.exc _ _=>.none
def D.pys:List D→List PyData
 |[]=>[]
 |d::ds=>d.py::D.pys ds
end
mutual
def D.eqb:D→D→Bool
 |.non,y=>match y with
  |.non=>true
  |_=>false
 |.bl a,y=>match y with
  |.bl b=>a == b
  |.int j=>decide ((if a then 1 else 0)=j)
  |_=>false
 |.int i,y=>match y with
  |.bl b=>decide (i=(if b then 1 else 0))
  |.int j=>decide (i=j)
  |_=>false
 |.str x,y=>match y with
  |.str z=>decide (x=z)
  |_=>false
 |.lst xs,y=>match y with
  |.lst ys=>D.eqbs xs ys
  |_=>false
 |.tup xs,y=>match y with
  |.tup ys=>D.eqbs xs ys
  |_=>false
 |.ins _ _,_=>false
 |.exc _ _,_=>false
def D.eqbs:List D→List D→Bool
 |[],ys=>match ys with
  |[]=>true
  |_=>false
 |x::xs,ys=>match ys with
  |[]=>false
  |y::ys=>D.eqb x y&&D.eqbs xs ys
end
mutual
theorem D.canLay:∀(d:D) (n:Nat),d.fit n=true→d.py.canLay0=true∧d.py.depth≤n
 |.non,n,_=>⟨by simp[D.py,PyData.canLay0],by simp[D.py,PyData.depth]⟩
 |.bl _,n,_=>⟨by simp[D.py,PyData.canLay0],by simp[D.py,PyData.depth]⟩
 |.int _,n,_=>⟨by simp[D.py,PyData.canLay0],by simp[D.py,PyData.depth]⟩
 |.str s,n,h=>⟨by simpa[D.py,PyData.canLay0,D.fit] using h,by simp[D.py,PyData.depth]⟩
 |.lst xs,n,h=>by
  simp only[D.fit,Bool.and_eq_true,decide_eq_true_eq] at h
  obtain⟨h1,h2⟩:=D.canLays xs (n - 1) h.2
  refine⟨by simpa[D.py,PyData.canLay0] using h1,?_⟩
  simp only[D.py,PyData.depth]
  omega
 |.tup xs,n,h=>by
  simp only[D.fit,Bool.and_eq_true,decide_eq_true_eq] at h
  obtain⟨h1,h2⟩:=D.canLays xs (n - 1) h.2
  refine⟨by simpa[D.py,PyData.canLay0] using h1,?_⟩
  simp only[D.py,PyData.depth]
  omega
 |.ins _ _,_,h=>by simp[D.fit] at h
 |.exc _ _,_,h=>by simp[D.fit] at h
theorem D.canLays:∀(ds:List D) (n:Nat),D.fits ds n=true→PyData.canLayAll0 (D.pys ds)=true∧PyData.depthAll (D.pys ds)≤n
 |[],n,_=>⟨by simp[D.pys,PyData.canLayAll0],by simp[D.pys,PyData.depthAll]⟩
 |d::ds,n,h=>by
  simp only[D.fits,Bool.and_eq_true] at h
  obtain⟨h1,h2⟩:=D.canLay d n h.1
  obtain⟨h3,h4⟩:=D.canLays ds n h.2
  refine⟨by simp[D.pys,PyData.canLayAll0,h1,h3],?_⟩
  simp only[D.pys,PyData.depthAll]
  omega
end
theorem D.shaped {d:D} (h:d.fit 64=true):SeqAt.shaped d.py=true:=by
 obtain⟨h1,h2⟩:=D.canLay d 64 h
 simp[SeqAt.shaped,h1,h2]
theorem qg5 {x z:List Nat}:(x.toArray=z.toArray)↔x=z:=by
 constructor
 ·intro h
  have:=congrArg Array.toList h
  simpa using this
 ·rintro rfl;rfl
mutual
theorem D.eqv_py:∀(a b:D) (n m:Nat),a.fit n=true→b.fit m=true→PyData.eqv a.py b.py=a.eqb b
 |.non,b,_,_,_,hb=>by cases b<;>simp[D.py,D.eqb,PyData.eqv,D.fit] at *
 |.bl x,b,_,_,_,hb=>by
  cases b<;>simp[D.py,D.eqb,PyData.eqv,D.fit] at *
  cases x<;>simp[Bool.beq_eq_decide_eq]<;>rfl
 |.int x,b,_,_,_,hb=>by
  cases b<;>simp[D.py,D.eqb,PyData.eqv,D.fit] at *
  ·rename_i y;cases y<;>simp[Bool.beq_eq_decide_eq]<;>rfl
  ·rfl
 |.str x,b,_,_,_,hb=>by
  cases b<;>simp[D.py,D.eqb,PyData.eqv,D.fit] at *
  rename_i z
  by_cases e:x=z
  ·subst e;simp
  ·rw[decide_eq_false e]
   refine beq_eq_false_iff_ne.mpr fun q=>e ?_
   injection q with q
   exact qg5.mp q
 |.lst xs,b,n,m,ha,hb=>by
  cases b with
  |lst ys =>
   simp only[D.fit,Bool.and_eq_true,decide_eq_true_eq] at ha hb
   simp only[D.py,D.eqb,PyData.eqv]
   exact D.eqv_pys xs ys _ _ ha.2 hb.2
  |_=>simp[D.py,D.eqb,PyData.eqv,D.fit] at *
 |.tup xs,b,n,m,ha,hb=>by
  cases b with
  |tup ys =>
   simp only[D.fit,Bool.and_eq_true,decide_eq_true_eq] at ha hb
   simp only[D.py,D.eqb,PyData.eqv]
   exact D.eqv_pys xs ys _ _ ha.2 hb.2
  |_=>simp[D.py,D.eqb,PyData.eqv,D.fit] at *
 |.ins _ _,_,_,_,h,_=>by simp[D.fit] at h
 |.exc _ _,_,_,_,h,_=>by simp[D.fit] at h
theorem D.eqv_pys:∀(xs ys:List D) (n m:Nat),D.fits xs n=true→D.fits ys m=true→PyData.eqvAll (D.pys xs) (D.pys ys)=D.eqbs xs ys
 |[],ys,_,_,_,_=>by cases ys<;>simp[D.pys,D.eqbs,PyData.eqvAll]
 |x::xs,ys,n,m,ha,hb=>by
  cases ys with
  |nil=>simp[D.pys,D.eqbs,PyData.eqvAll]
  |cons y ys =>
   simp only[D.fits,Bool.and_eq_true] at ha hb
   simp only[D.pys,D.eqbs,PyData.eqvAll]
   rw[D.eqv_py x y n m ha.1 hb.1,D.eqv_pys xs ys n m ha.2 hb.2]
end
structure Glo where
 K:PySem.W.Frag
 ca:Nat→Addr
 fl:Nat→List Str
def exK (cls:Value) (a:Addr):HO:=.ext fun h=>∃(oe:Obj) (vs:Array Value),h.get? a=some oe∧Zc cls none oe∧oe.data=.fields vs
theorem qtD {P:Program} {w:World} {H:Hp} {h:Heap} {a:Addr} {cls:Value} {oe:Obj} {vs:Array Value} (e:h.get? a=some oe) (z:Zc cls none oe) (d:oe.data=.fields vs):ObjOk P w H h a (exK cls a):=
 ⟨⟨oe,vs,e,z,d⟩,⟨oe,e⟩,fun _ _ ⟨o,v,q,r⟩ k=>⟨o,v,k o q,r⟩⟩
mutual
def Rep (G:Glo) (P:Hp) (LN:Addr→List V→Prop):D→V→Prop
 |.non,v=>v=.non
 |.bl b,v=>v=.bl b
 |.int i,v=>v=.int i
 |.str s,v=>v=.str ⟨s.toArray⟩
 |.lst ds,v=>∃a xs,v=.ref a∧LN a xs∧Reps G P LN ds xs
 |.tup ds,v=>∃a xs,v=.ref a∧SqT G.K P a xs∧Reps G P LN ds xs
 |.ins c ds,v=>∃a dx xs,v=.ref a∧P a=some (.ins (G.ca c) dx ((G.fl c).zip xs))∧(G.fl c).length=ds.length∧Reps G P (SqL G.K P) ds xs
 |.exc c fs,v=>fs=[]∧∃a,v=.ref a∧P a=some (exK (.ref (G.ca c)) a)
def Reps (G:Glo) (P:Hp) (LN:Addr→List V→Prop):List D→List V→Prop
 |[],vs=>vs=[]
 |d::ds,vs=>∃v r,vs=v::r∧Rep G P LN d v∧Reps G P LN ds r
end
theorem Same.seqT {K:PySem.W.Frag} {H H':Hp} {a:Addr} {xs:List V} (e:Same H H') (h:SqT K H a xs):SqT K H' a xs:=by
 rcases h with(h | ⟨o,h⟩) | h
 ·exact .inl (.inl (e _ _ h))
 ·exact .inl (.inr ⟨o,e _ _ h⟩)
 ·exact .inr h
section
variable {G:Glo} {P P':Hp} {LN LN':Addr→List V→Prop}
mutual
theorem Rep.mono (hp:Same P P'):∀(d:D) (v:V) {LN LN':Addr→List V→Prop} (_:∀a xs,LN a xs→LN' a xs),Rep G P LN d v→Rep G P' LN' d v
 |.non,_,_,_,_,h=>h
 |.bl _,_,_,_,_,h=>h
 |.int _,_,_,_,_,h=>h
 |.str _,_,_,_,_,h=>h
 |.lst ds,v,_,_,hl,⟨a,xs,e,h1,h2⟩=>⟨a,xs,e,hl _ _ h1,Reps.mono hp ds xs hl h2⟩
 |.tup ds,v,_,_,hl,⟨a,xs,e,h1,h2⟩=>⟨a,xs,e,Same.seqT hp h1,Reps.mono hp ds xs hl h2⟩
 |.ins c ds,v,_,_,hl,⟨a,dx,xs,e,h1,h2,h3⟩=>⟨a,dx,xs,e,hp _ _ h1,h2,Reps.mono hp ds xs (fun _ _ q=>L2.Same.seq hp q) h3⟩
 |.exc _ _,_,_,_,_,⟨e,a,h1,h2⟩=>⟨e,a,h1,hp _ _ h2⟩
theorem Reps.mono (hp:Same P P'):∀(ds:List D) (vs:List V) {LN LN':Addr→List V→Prop} (_:∀a xs,LN a xs→LN' a xs),Reps G P LN ds vs→Reps G P' LN' ds vs
 |[],_,_,_,_,h=>h
 |d::ds,vs,_,_,hl,⟨v,r,e,h1,h2⟩=>⟨v,r,e,Rep.mono hp d v hl h1,Reps.mono hp ds r hl h2⟩
end
mutual
theorem Rep.flat:∀(d:D) (v:V),d.flat=true→Rep G P LN d v→Rep G P LN' d v
 |.non,_,_,h=>h
 |.bl _,_,_,h=>h
 |.int _,_,_,h=>h
 |.str _,_,_,h=>h
 |.lst ds,v,f,_=>by simp[D.flat] at f
 |.tup ds,v,f,⟨a,xs,e,h1,h2⟩=>⟨a,xs,e,h1,Reps.flat ds xs (by simpa[D.flat] using f) h2⟩
 |.ins c ds,v,_,h=>h
 |.exc _ _,_,_,h=>h
theorem Reps.flat:∀(ds:List D) (vs:List V),D.flats ds=true→Reps G P LN ds vs→Reps G P LN' ds vs
 |[],_,_,h=>h
 |d::ds,vs,f,⟨v,r,e,h1,h2⟩=>by
  simp only[D.flats,Bool.and_eq_true] at f
  exact⟨v,r,e,Rep.flat d v f.1 h1,Reps.flat ds r f.2 h2⟩
end
theorem Reps.length:∀{ds:List D} {vs:List V},Reps G P LN ds vs→vs.length=ds.length
 |[],_,h=>by cases h;rfl
 |d::ds,vs,⟨v,r,e,h1,h2⟩=>by subst e;simp[Reps.length h2]
theorem Reps.get:∀{ds:List D} {vs:List V} {i:Nat} {d:D},Reps G P LN ds vs→ds[i]? = some d→∃v,vs[i]? = some v∧Rep G P LN d v
 |[],_,_,_,_,h=>by simp at h
 |d::ds,vs,0,_,⟨v,r,e,h1,h2⟩,h=>by subst e;simp at h;subst h;exact⟨v,rfl,h1⟩
 |d::ds,vs,i+1,_,⟨v,r,e,h1,h2⟩,h=>by subst e;simp at h;obtain⟨w,q1,q2⟩:=Reps.get h2 h;exact⟨w,by simpa using q1,q2⟩
theorem Reps.append:∀{ds es:List D} {vs us:List V},Reps G P LN ds vs→Reps G P LN es us→Reps G P LN (ds++es) (vs++us)
 |[],_,_,_,h,q=>by cases h;exact q
 |d::ds,es,vs,us,⟨v,r,e,h1,h2⟩,q=>by subst e;exact⟨v,r++us,rfl,h1,Reps.append h2 q⟩
theorem Reps.take:∀{ds:List D} {vs:List V} (n:Nat),Reps G P LN ds vs→Reps G P LN (ds.take n) (vs.take n)
 |[],_,_,h=>by cases h;simp[Reps]
 |d::ds,vs,0,_=>by simp[Reps]
 |d::ds,vs,n+1,⟨v,r,e,h1,h2⟩=>by subst e;exact⟨v,r.take n,rfl,h1,Reps.take n h2⟩
theorem Reps.drop:∀{ds:List D} {vs:List V} (n:Nat),Reps G P LN ds vs→Reps G P LN (ds.drop n) (vs.drop n)
 |[],_,_,h=>by cases h;simp[Reps]
 |d::ds,vs,0,h=>h
 |d::ds,vs,n+1,⟨v,r,e,h1,h2⟩=>by subst e;exact Reps.drop n h2
theorem Reps.set {x:D} {u:V} (hx:Rep G P LN x u):∀{ds:List D} {vs:List V} (n:Nat),Reps G P LN ds vs→Reps G P LN (ds.set n x) (vs.set n u)
 |[],_,_,h=>by cases h;simp[Reps]
 |d::ds,vs,0,⟨v,r,e,h1,h2⟩=>by subst e;exact⟨u,r,rfl,hx,h2⟩
 |d::ds,vs,n+1,⟨v,r,e,h1,h2⟩=>by subst e;exact⟨v,r.set n u,rfl,h1,Reps.set hx n h2⟩
theorem Reps.eraseIdx:∀{ds:List D} {vs:List V} (n:Nat),Reps G P LN ds vs→Reps G P LN (ds.eraseIdx n) (vs.eraseIdx n)
 |[],_,_,h=>by cases h;simp[Reps]
 |d::ds,vs,0,⟨v,r,e,h1,h2⟩=>by subst e;exact h2
 |d::ds,vs,n+1,⟨v,r,e,h1,h2⟩=>by subst e;exact⟨v,r.eraseIdx n,rfl,h1,Reps.eraseIdx n h2⟩
theorem Reps.one {d:D} {v:V} (h:Rep G P LN d v):Reps G P LN [d] [v]:=⟨v,[],rfl,h,rfl⟩
theorem Reps.ints:∀{ns:List Int} {vs:List V},Reps G P LN (ns.map D.int) vs↔vs=ns.map V.int
 |[],vs=>Iff.rfl
 |n::ns,vs=>by
  constructor
  ·rintro⟨v,r,e,h1,h2⟩
   rw[e,h1,Reps.ints.mp h2];rfl
  ·intro e
   exact⟨_,_,e,rfl,Reps.ints.mpr rfl⟩
theorem Reps.reverse:∀{ds:List D} {vs:List V},Reps G P LN ds vs→Reps G P LN ds.reverse vs.reverse
 |[],_,h=>by cases h;exact rfl
 |d::ds,vs,⟨v,r,e,h1,h2⟩=>by
  subst e
  simp only[List.reverse_cons]
  exact(Reps.reverse h2).append (Reps.one h1)
theorem Reps.replicate {d:D} {v:V} (h:Rep G P LN d v):∀n,Reps G P LN (List.replicate n d) (List.replicate n v)
 |0=>rfl
 |n+1=>⟨v,_,rfl,h,Reps.replicate h n⟩
mutual
theorem Rep.dp {H:Hp} (hp:Same P H) (hl:∀a xs,LN a xs→SqL G.K H a xs):∀(d:D) (v:V) (n:Nat),d.fit n=true→Rep G P LN d v→Dp G.K H v d.py
 |.non,_,_,_,h=>by cases h;exact .non
 |.bl b,_,_,_,h=>by cases h;exact .bl b
 |.int i,_,_,_,h=>by cases h;exact .int i
 |.str s,_,_,_,h=>by cases h;exact .str _
 |.lst ds,v,n,f,⟨a,xs,e,h1,h2⟩=>by
  subst e
  simp only[D.fit,Bool.and_eq_true] at f
  exact .lst (hl _ _ h1) (Reps.dp hp hl ds xs _ f.2 h2)
 |.tup ds,v,n,f,⟨a,xs,e,h1,h2⟩=>by
  subst e
  simp only[D.fit,Bool.and_eq_true] at f
  exact .tup (Same.seqT hp h1) (Reps.dp hp hl ds xs _ f.2 h2)
 |.ins c ds,v,_,f,_=>by simp[D.fit] at f
 |.exc _ _,_,_,f,_=>by simp[D.fit] at f
theorem Reps.dp {H:Hp} (hp:Same P H) (hl:∀a xs,LN a xs→SqL G.K H a xs):∀(ds:List D) (vs:List V) (n:Nat),D.fits ds n=true→Reps G P LN ds vs→DpAll G.K H vs (D.pys ds)
 |[],_,_,_,h=>by cases h;exact .nil
 |d::ds,vs,n,f,⟨v,r,e,h1,h2⟩=>by
  subst e
  simp only[D.fits,Bool.and_eq_true] at f
  exact .cons (Rep.dp hp hl d v n f.1 h1) (Reps.dp hp hl ds r n f.2 h2)
end
end
end Cm
namespace Cm
open PySem PySem.Spec PyProof.Rows L2
def WrT (G:Glo) (v:V):Prop:=∀a,v=.ref a→∃o,G.K.lookup a=some o∧o.cls=.type "tuple" ∧ o.dict=none
inductive RE (α:Type) where
 |bad | ok (a:α) | exc (c:Nat) (fs:List D)
def RE.bind {α β:Type}:RE α→(α→RE β)→RE β
 |.bad,_=>.bad
 |.ok a,f=>f a
 |.exc c fs,_=>.exc c fs
@[simp] theorem RE.bind_ok {α β:Type} (a:α) (f:α→RE β):(RE.ok a).bind f=f a:=rfl
@[simp] theorem RE.bind_bad {α β:Type} (f:α→RE β):(RE.bad:RE α).bind f=.bad:=rfl
@[simp] theorem RE.bind_exc {α β:Type} (c:Nat) (fs:List D) (f:α→RE β):(RE.exc c fs:RE α).bind f=.exc c fs:=rfl
inductive Sl where
 |non | val (d:D) (b:Bool) | own (ds:List D) (b:Bool)
 |slf (c:Nat) (fs:List D)
 |fxd (d:D) (k:Nat)
 |dct (m:List (Int × D)) (b:Bool)
 |row (dss:List (List D))
inductive ER where
 |val (d:D) (b:Bool) | fre (ds:List D) (b:Bool) | brw (ds:List D) (b:Bool)
def ER.d:ER→D
 |.val d _=>d
 |.fre ds _=>.lst ds
 |.brw ds _=>.lst ds
def ER.b:ER→Bool
 |.val _ b=>b
 |.fre _ b=>b
 |.brw _ b=>b
@[simp] theorem ER.d_val {d:D} {b:Bool}:(ER.val d b).d=d:=rfl
@[simp] theorem ER.d_fre {d:List D} {b:Bool}:(ER.fre d b).d=.lst d:=rfl
@[simp] theorem ER.d_brw {d:List D} {b:Bool}:(ER.brw d b).d=.lst d:=rfl
@[simp] theorem ER.b_val {d:D} {b:Bool}:(ER.val d b).b=b:=rfl
@[simp] theorem ER.b_fre {d:List D} {b:Bool}:(ER.fre d b).b=b:=rfl
@[simp] theorem ER.b_brw {d:List D} {b:Bool}:(ER.brw d b).b=b:=rfl
@[simp] def ER.isB:ER→Bool
 |.brw _ _=>true
 |_=>false
@[simp] def ER.isV:ER→Bool
 |.val _ _=>true
 |_=>false
@[simp] def ER.frz:ER→ER
 |.fre ds b=>.val (.lst ds) b
 |e=>e
def LNb (K:PySem.W.Frag) (P N R:Hp) (b:Bool):Addr→List V→Prop:=fun a xs=>N a=some (.lst xs)∨(b=false∧(SqL K P a xs∨SqL K N a xs∨SqL K R a xs))
theorem LNb.mono {K:PySem.W.Frag} {P N R P' N':Hp} {b:Bool} (hp:Same P P') (hn:Same N N'):∀a xs,LNb K P N R b a xs→LNb K P' N' R b a xs:=fun a xs h=>by
 rcases h with h | ⟨h1,h | h | h⟩
 ·exact .inl (hn _ _ h)
 ·exact .inr ⟨h1,.inl (L2.Same.seq hp h)⟩
 ·exact .inr ⟨h1,.inr (.inl (L2.Same.seq hn h))⟩
 ·exact .inr ⟨h1,.inr (.inr h)⟩
theorem LNb.weak {K:PySem.W.Frag} {P N R:Hp} {b:Bool}:∀a xs,LNb K P N R b a xs→LNb K P N R false a xs:=fun a xs h=>by
 rcases h with h | h
 ·exact .inl h
 ·exact .inr ⟨rfl,h.2⟩
theorem LNb.and1 {K:PySem.W.Frag} {P N R:Hp} {b c:Bool}:∀a xs,LNb K P N R b a xs→LNb K P N R (b&&c) a xs:=fun a xs h=>by
 rcases h with h | ⟨h1,h2⟩
 ·exact .inl h
 ·exact .inr ⟨by simp[h1],h2⟩
theorem LNb.and2 {K:PySem.W.Frag} {P N R:Hp} {b c:Bool}:∀a xs,LNb K P N R c a xs→LNb K P N R (b&&c) a xs:=fun a xs h=>by
 rcases h with h | ⟨h1,h2⟩
 ·exact .inl h
 ·exact .inr ⟨by simp[h1],h2⟩
theorem LNb.seq {K:PySem.W.Frag} {P N R H:Hp} {b:Bool} (hp:Same P H) (hn:Same N H) (hr:Same R H):∀a xs,LNb K P N R b a xs→SqL K H a xs:=fun a xs h=>by
 rcases h with h | ⟨_,h | h | h⟩
 ·exact .inl (.inl (hn _ _ h))
 ·exact L2.Same.seq hp h
 ·exact L2.Same.seq hn h
 ·exact L2.Same.seq hr h
theorem LNb.ofP {K:PySem.W.Frag} {P N R:Hp}:∀a xs,SqL K P a xs→LNb K P N R false a xs:=fun a xs h=>.inr ⟨rfl,.inl h⟩
theorem LNb.ofR {K:PySem.W.Frag} {P N R:Hp}:∀a xs,SqL K R a xs→LNb K P N R false a xs:=fun a xs h=>.inr ⟨rfl,.inr (.inr h)⟩
structure Adv (P N H P' N' H':Hp):Prop where
 hh:Same H H'
 pp:Same P P'
 nn:Same N N'
 pH:Same P' H'
 nH:Same N' H'
 pn:∀a,P' a≠none→P a≠none∨H a=none
 nw:∀a,N' a≠none→N a≠none∨H a=none
 dj:∀a,N' a≠none→P' a≠none→N a≠none
theorem Adv.refl {P N H:Hp} (hp:Same P H) (hn:Same N H):Adv P N H P N H:=⟨L2.Same.refl _,L2.Same.refl _,L2.Same.refl _,hp,hn,fun _ h=>.inl h,fun _ h=>.inl h,fun _ h _=>h⟩
theorem Adv.trans {P N H P' N' H' P'' N'' H'':Hp} (s:Adv P N H P' N' H') (t:Adv P' N' H' P'' N'' H''):Adv P N H P'' N'' H'' where
 hh:=s.hh.trans t.hh
 pp:=s.pp.trans t.pp
 nn:=s.nn.trans t.nn
 pH:=t.pH
 nH:=t.nH
 pn:=fun a h=>by
  rcases t.pn a h with h | h
  ·exact s.pn a h
  ·exact .inr (s.hh.free h)
 nw:=fun a h=>by
  rcases t.nw a h with h | h
  ·exact s.nw a h
  ·exact .inr (s.hh.free h)
 dj:=fun a h h2=>by
  have h3:=t.dj a h h2
  rcases t.pn a h2 with q | q
  ·exact s.dj a h3 q
  ·exact absurd (s.nH.free q) h3
theorem Adv.heap {P N H P' N' H' H'':Hp} (s:Adv P N H P' N' H') (e:Same H' H''):Adv P N H P' N' H'':=
 ⟨s.hh.trans e,s.pp,s.nn,s.pH.trans e,s.nH.trans e,s.pn,s.nw,s.dj⟩
theorem qaA {H:Hp} {p:Addr} {o:HO} (h:H p=none):Same H (upd H p o):=fun b u e=>by
 rw[upd_ne (ne_of_none e h)];exact e
theorem qn8 {P H:Hp} {p:Addr} {o:HO} (h:Same P H):Same (upd P p o) (upd H p o):=fun b u e=>by
 by_cases q:b=p
 ·subst q;rw[upd_same] at e ⊢;exact e
 ·rw[upd_ne q] at e ⊢;exact h _ _ e
theorem qaU {P H:Hp} {p:Addr} {o:HO} (h:Same P H) (n:P p=none):Same P (upd H p o):=fun b u e=>by
 rw[upd_ne (ne_of_none e n)];exact h _ _ e
theorem qlg {P H:Hp} {p:Addr} {o:HO} (h:Same P H) (e:H p=some o):Same (upd P p o) H:=fun b u q=>by
 by_cases z:b=p
 ·subst z;rw[upd_same] at q;cases q;exact e
 ·rw[upd_ne z] at q;exact h _ _ q
theorem Adv.newP {P N H P' N' H':Hp} (s:Adv P N H P' N' H') {p:Addr} {o:HO} (hp:H' p=none):Adv P N H (upd P' p o) N' (upd H' p o) where
 hh:=s.hh.trans (qaA hp)
 pp:=s.pp.trans (qaA (s.pH.free hp))
 nn:=s.nn
 pH:=qn8 s.pH
 nH:=s.nH.trans (qaA hp)
 pn:=fun a h=>by
  by_cases q:a=p
  ·exact .inr (by rw[q];exact s.hh.free hp)
  ·rw[upd_ne q] at h;exact s.pn a h
 nw:=s.nw
 dj:=fun a h h2=>by
  by_cases q:a=p
  ·exact absurd (s.nH.free hp) (q ▸ h)
  ·rw[upd_ne q] at h2;exact s.dj a h h2
theorem Adv.holdN {P N H P' N' H':Hp} (s:Adv P N H P' N' H') {p:Addr} {o:HO} (h0:H p=none) (hp:H' p=some o) (hn:N' p=none) (hP:P' p=none):Adv P N H P' (upd N' p o) H' where
 hh:=s.hh
 pp:=s.pp
 nn:=s.nn.trans (qaA hn)
 pH:=s.pH
 nH:=qlg s.nH hp
 pn:=s.pn
 nw:=fun a h=>by
  by_cases q:a=p
  ·exact .inr (by rw[q];exact h0)
  ·rw[upd_ne q] at h;exact s.nw a h
 dj:=fun a h h2=>by
  by_cases q:a=p
  ·exact absurd hP (q ▸ h2)
  ·rw[upd_ne q] at h;exact s.dj a h h2
structure Ctx where
 G:Glo
 R:Hp
 B:Hp
 P0:Hp
 W:WX
 S:Addr
 fx:Nat→Option V:=fun _=>none
section
variable (C:Ctx) (P N H:Hp)
abbrev RepB (b:Bool) (d:D) (v:V):Prop:=Rep C.G P (LNb C.G.K P N C.R b) d v
abbrev RepsB (b:Bool) (ds:List D) (vs:List V):Prop:=Reps C.G P (LNb C.G.K P N C.R b) ds vs
def RowR (R:Addr→List D→Prop):List (List D)→List Addr→Prop
 |[],ps=>ps=[]
 |ds::r,ps=>∃a q,ps=a::q∧R a ds∧RowR R r q
def DctR (R:D→V→Prop):List (Int × D)→List (Key × V)→Prop
 |[],es=>es=[]
 |e::m,es=>∃v r,es=(.inl e.1,v)::r∧R e.2 v∧DctR R m r
def SlR:Sl→Option V→Prop
 |.non,_=>True
 |.val d b,o=>∃v,o=some v∧RepB C P N b d v
 |.own ds b,o=>∃p xs,o=some (.ref p)∧H p=some (.lst xs)∧P p=none∧N p=none∧C.B p=none∧RepsB C P N b ds xs
 |.slf c fs,o=>∃p dx xs,(p=C.S∧o=some (.ref p))∧H p=some (.ins (C.G.ca c) dx ((C.G.fl c).zip xs))∧P p=none∧N p=none∧C.B p=none∧fs.length≤(C.G.fl c).length∧RepsB C P N true fs xs
 |.fxd d k,o=>∃v,o=some v∧C.fx k=some v∧RepB C P N false d v
 |.dct m b,o=>∃p es,o=some (.ref p)∧H p=some (.dK es)∧P p=none∧N p=none∧C.B p=none∧DctR (RepB C P N b) m es
 |.row dss,o=>∃p ps,o=some (.ref p)∧H p=some (.lst (ps.map V.ref))∧P p=none∧N p=none∧C.B p=none∧RowR (fun a ds=>∃xs,H a=some (.lst xs)∧P a=none∧N a=none∧C.B a=none∧D.flats ds=true∧RepsB C P N true ds xs) dss ps∧(p::ps).Nodup
def ERr (H0:Hp):ER→V→Prop
 |.val d b,v=>RepB C P N b d v
 |.fre ds b,v=>∃p xs,v=.ref p∧H p=some (.lst xs)∧H0 p=none∧P p=none∧N p=none∧RepsB C P N b ds xs
 |.brw ds b,v=>∃p xs,v=.ref p∧H p=some (.lst xs)∧P p=none∧N p=none∧C.B p=none∧RepsB C P N b ds xs
def ERs (H0:Hp):List ER→List V→Prop
 |[],vs=>vs=[]
 |e::es,vs=>∃v r,vs=v::r∧ERr C P N H H0 e v∧ERs H0 es r
def ExR (fs:List D) (d:Option Addr):Prop:=(fs=[]∧d=none)∨∃dd f v,fs=[f]∧d=some dd∧H dd=some (.xd [(("at" : Str),v)])∧RepB C P N true f v
structure Reg:Prop where
 pH:Same P H
 nH:Same N H
 bH:Same C.B H
 rB:Same C.R C.B
 p0:Same C.P0 P
 pn:∀a,P a≠none→C.P0 a≠none∨C.B a=none
 nw:∀a,N a≠none→C.B a=none
 dj:∀a,N a≠none→P a=none
structure AD (ρ:List Sl) (σ:L2.St):Prop where
 un:∀(i j:Nat) (p:Addr) (m:List (Int × D)) (b:Bool) (m':List (Int × D)) (c:Bool),ρ[i]? = some (.dct m b)→ρ[j]? = some (.dct m' c)→σ[i]? = some (some (.ref p))→σ[j]? = some (some (.ref p))→i=j
inductive Held (H:Hp):Sl→Option V→Addr→Prop
 |own {ds:List D} {b:Bool} {a:Addr}:Held H (.own ds b) (some (.ref a)) a
 |rt {dss:List (List D)} {a:Addr}:Held H (.row dss) (some (.ref a)) a
 |it {dss:List (List D)} {p a:Addr} {ps:List Addr}:H p=some (.lst (ps.map V.ref))→a∈ps→Held H (.row dss) (some (.ref p)) a
structure AR (H:Hp) (ρ:List Sl) (σ:L2.St):Prop where
 un:∀(i j:Nat) (dss:List (List D)) (t:Sl) (o u:Option V) (a:Addr),ρ[i]? = some (.row dss)→ρ[j]? = some t→σ[i]? = some o→σ[j]? = some u→Held H (.row dss) o a→Held H t u a→i=j
structure SR (ρ:List Sl) (σ:L2.St):Prop where
 reg:Reg C P N H
 len:σ.length=ρ.length
 sl:∀(i:Nat) (s:Sl),ρ[i]? = some s→∃o,σ[i]? = some o∧SlR C P N H s o
 ap:∀(i j:Nat) (p:Addr) (ds:List D) (b:Bool) (es:List D) (c:Bool),ρ[i]? = some (.own ds b)→ρ[j]? = some (.own es c)→σ[i]? = some (some (.ref p))→σ[j]? = some (some (.ref p))→i=j
 ad:AD ρ σ
 ar:AR H ρ σ
end
def Sl.isD:Sl→Bool
 |.dct _ _=>true
 |_=>false
theorem AD.sub {ρ ρ':List Sl} {σ σ':L2.St} (h:AD ρ σ) (k:∀(i:Nat) (m:List (Int × D)) (b:Bool),ρ'[i]? = some (Sl.dct m b)→σ'[i]? = σ[i]? ∧ ∃m' c,ρ[i]? = some (Sl.dct m' c)):AD ρ' σ':=⟨fun i j p m b m' c e1 e2 e3 e4=>by
 obtain⟨f1,_,_,g1⟩:=k i m b e1
 obtain⟨f2,_,_,g2⟩:=k j m' c e2
 rw[f1] at e3
 rw[f2] at e4
 exact h.un i j p _ _ _ _ g1 g2 e3 e4⟩
theorem AD.no {ρ:List Sl} {σ:L2.St} (h:∀(i:Nat) s,ρ[i]? = some s→s.isD=false):AD ρ σ:=⟨fun i j p m b m' c e1 e2 e3 e4=>by
 have:=h i _ e1
 cases this⟩
def Sl.isW:Sl→Bool
 |.row _=>true
 |_=>false
def Sl.isH:Sl→Bool
 |.row _=>true
 |.own _ _=>true
 |_=>false
theorem Held.not {H:Hp} {s:Sl} {o:Option V} {a:Addr} (h:Held H s o a):s.isH=true:=by cases h<;>rfl
theorem AR.no {H:Hp} {ρ:List Sl} {σ:L2.St} (h:∀(i:Nat) s,ρ[i]? = some s→s.isW=false):AR H ρ σ:=⟨fun i j dss t o u a e1 e2 e3 e4 h1 h2=>by
 have:=h i _ e1
 cases this⟩
theorem AR.heap {H H':Hp} {ρ:List Sl} {σ:L2.St} (h:AR H ρ σ) (k:∀(i:Nat) (dss:List (List D)) (p:Addr),ρ[i]? = some (.row dss)→σ[i]? = some (some (.ref p))→H' p=H p):AR H' ρ σ:=⟨fun i j dss t o u a e1 e2 e3 e4 h1 h2=>by
 refine h.un i j dss t o u a e1 e2 e3 e4 ?_ ?_
 ·cases h1 with
  |rt=>exact .rt
  |it q m=>exact .it ((k i _ _ e1 e3) ▸ q) m
 ·cases h2 with
  |own=>exact .own
  |rt=>exact .rt
  |it q m=>exact .it ((k j _ _ e2 e4) ▸ q) m⟩
theorem qaR {α:Type} {xs:List α} {i j:Nat} {x y:α} (e:(xs.set i x)[j]? = some y):(i=j∧y=x)∨(i≠j∧xs[j]? = some y):=by
 by_cases q:i=j
 ·subst q
  rw[List.getElem?_set] at e
  simp only[if_true] at e
  split at e
  ·cases e;exact .inl ⟨rfl,rfl⟩
  ·cases e
 ·rw[List.getElem?_set_ne q] at e
  exact .inr ⟨q,e⟩
theorem AR.set {H:Hp} {ρ:List Sl} {σ:L2.St} (h:AR H ρ σ) {i:Nat} {s:Sl} {o:Option V} (hs:s.isH=false):AR H (ρ.set i s) (σ.set i o):=⟨fun j k dss t o1 u a e1 e2 e3 e4 h1 h2=>by
 rcases qaR e1 with⟨q1,z1⟩ | ⟨q1,z1⟩
 ·rw[z1] at h1;have:=h1.not;rw[hs] at this;cases this
 ·rcases qaR e2 with⟨q2,z2⟩ | ⟨q2,z2⟩
  ·rw[z2] at h2;have:=h2.not;rw[hs] at this;cases this
  ·rw[List.getElem?_set_ne q1] at e3
   rw[List.getElem?_set_ne q2] at e4
   exact h.un j k dss t o1 u a z1 z2 e3 e4 h1 h2⟩
theorem AR.setS {H:Hp} {ρ:List Sl} {σ:L2.St} (h:AR H ρ σ) {i:Nat} {s:Sl} (hs:s.isH=false):AR H (ρ.set i s) σ:=⟨fun j k dss t o1 u a e1 e2 e3 e4 h1 h2=>by
 rcases qaR e1 with⟨q1,z1⟩ | ⟨q1,z1⟩
 ·rw[z1] at h1;have:=h1.not;rw[hs] at this;cases this
 ·rcases qaR e2 with⟨q2,z2⟩ | ⟨q2,z2⟩
  ·rw[z2] at h2;have:=h2.not;rw[hs] at this;cases this
  ·exact h.un j k dss t o1 u a z1 z2 e3 e4 h1 h2⟩
theorem AR.setO {H:Hp} {ρ:List Sl} {σ:L2.St} (h:AR H ρ σ) {i:Nat} {ds:List D} {b:Bool} {p:Addr} (k:∀(j:Nat) (dss:List (List D)) (u:Option V),i≠j→ρ[j]? = some (.row dss)→σ[j]? = some u→¬Held H (.row dss) u p):AR H (ρ.set i (.own ds b)) (σ.set i (some (.ref p))):=⟨fun j l dss t o1 u a e1 e2 e3 e4 h1 h2=>by
 rcases qaR e1 with⟨q1,z1⟩ | ⟨q1,z1⟩
 ·cases z1
 ·rw[List.getElem?_set_ne q1] at e3
  rcases qaR e2 with⟨q2,z2⟩ | ⟨q2,z2⟩
  ·rcases qaR e4 with⟨_,z4⟩ | ⟨q4,_⟩
   ·rw[z2,z4] at h2
    cases h2
    exact absurd h1 (k j dss o1 q1 z1 e3)
   ·exact absurd q2 q4
  ·rw[List.getElem?_set_ne q2] at e4
   exact h.un j l dss t o1 u a z1 z2 e3 e4 h1 h2⟩
theorem AR.own {H:Hp} {ρ:List Sl} {σ:L2.St} (h:AR H ρ σ) {i:Nat} {ds ds':List D} {b b':Bool} (e:ρ[i]? = some (.own ds b)):AR H (ρ.set i (.own ds' b')) σ:=⟨fun j l dss t o1 u a e1 e2 e3 e4 h1 h2=>by
 rcases qaR e1 with⟨q1,z1⟩ | ⟨q1,z1⟩
 ·cases z1
 ·rcases qaR e2 with⟨q2,z2⟩ | ⟨q2,z2⟩
  ·subst q2
   rw[z2] at h2
   cases h2
   exact h.un j i dss (.own ds b) o1 _ a z1 e e3 e4 h1 .own
  ·exact h.un j l dss t o1 u a z1 z2 e3 e4 h1 h2⟩
theorem AD.set {ρ:List Sl} {σ:L2.St} (h:AD ρ σ) {i:Nat} {s:Sl} {o:Option V} (hs:s.isD=false):AD (ρ.set i s) (σ.set i o):=h.sub fun j m b e=>by
 by_cases q:i=j
 ·subst q
  rw[List.getElem?_set] at e
  simp only[if_true] at e
  split at e
  ·cases e;cases hs
  ·cases e
 ·rw[List.getElem?_set_ne q] at e
  rw[List.getElem?_set_ne q]
  exact⟨rfl,_,_,e⟩
theorem AD.setS {ρ:List Sl} {σ:L2.St} (h:AD ρ σ) {i:Nat} {s:Sl} (hs:s.isD=false):AD (ρ.set i s) σ:=h.sub fun j m b e=>by
 by_cases q:i=j
 ·subst q
  rw[List.getElem?_set] at e
  simp only[if_true] at e
  split at e
  ·cases e;cases hs
  ·cases e
 ·rw[List.getElem?_set_ne q] at e
  exact⟨rfl,_,_,e⟩
section
variable {C:Ctx} {P N H P' N' H':Hp} {ρ:List Sl} {σ:L2.St}
theorem Reg.rH (h:Reg C P N H):Same C.R H:=h.rB.trans h.bH
theorem Reg.adv (h:Reg C P N H) (a:Adv P N H P' N' H'):Reg C P' N' H' where
 pH:=a.pH
 nH:=a.nH
 bH:=h.bH.trans a.hh
 rB:=h.rB
 p0:=h.p0.trans a.pp
 pn:=fun q e=>by
  rcases a.pn q e with e | e
  ·exact h.pn q e
  ·exact .inr (h.bH.free e)
 nw:=fun q e=>by
  rcases a.nw q e with e | e
  ·exact h.nw q e
  ·exact h.bH.free e
 dj:=fun q e=>by
  cases e2:P' q with
  |none=>rfl
  |some o =>
   have e3:P' q≠none:=by rw[e2];exact fun z=>nomatch z
   have e4:=a.dj q e e3
   rcases a.pn q e3 with z | z
   ·exact absurd (h.dj q e4) z
   ·exact absurd (h.nH.free z) e4
theorem RepB.adv {b:Bool} {d:D} {v:V} (hp:Same P P') (hn:Same N N') (h:RepB C P N b d v):RepB C P' N' b d v:=Rep.mono hp d v (LNb.mono hp hn) h
theorem RepsB.adv {b:Bool} {ds:List D} {vs:List V} (hp:Same P P') (hn:Same N N') (h:RepsB C P N b ds vs):RepsB C P' N' b ds vs:=Reps.mono hp ds vs (LNb.mono hp hn) h
theorem RepB.and1 {b c:Bool} {d:D} {v:V} (h:RepB C P N b d v):RepB C P N (b&&c) d v:=Rep.mono (L2.Same.refl _) d v LNb.and1 h
theorem RepB.and2 {b c:Bool} {d:D} {v:V} (h:RepB C P N c d v):RepB C P N (b&&c) d v:=Rep.mono (L2.Same.refl _) d v LNb.and2 h
theorem RepsB.and1 {b c:Bool} {d:List D} {v:List V} (h:RepsB C P N b d v):RepsB C P N (b&&c) d v:=Reps.mono (L2.Same.refl _) d v LNb.and1 h
theorem RepsB.and2 {b c:Bool} {d:List D} {v:List V} (h:RepsB C P N c d v):RepsB C P N (b&&c) d v:=Reps.mono (L2.Same.refl _) d v LNb.and2 h
theorem RepB.nf {b:Bool} {d:D} {v:V} (h:RepB C P N b d v):RepB C P N (b||d.flat) d v:=by
 cases b with
 |true=>exact h
 |false =>
  cases e:d.flat with
  |true=>exact Rep.flat d v e h
  |false=>exact h
theorem RepsB.nf {b:Bool} {d:List D} {v:List V} (h:RepsB C P N b d v):RepsB C P N (b||D.flats d) d v:=by
 cases b with
 |true=>exact h
 |false =>
  cases e:D.flats d with
  |true=>exact Reps.flat d v e h
  |false=>exact h
theorem Adv.off (a:Adv P N H P' N' H') {p:Addr} {o:HO} (h:H p=some o) (hp:P p=none):P' p=none:=by
 cases q:P' p with
 |none=>rfl
 |some u =>
  rcases a.pn p (by rw[q];simp) with z | z
  ·exact absurd hp z
  ·rw[h] at z;cases z
theorem Adv.offN (a:Adv P N H P' N' H') {p:Addr} {o:HO} (h:H p=some o) (hn:N p=none):N' p=none:=by
 cases q:N' p with
 |none=>rfl
 |some u =>
  rcases a.nw p (by rw[q];simp) with z | z
  ·exact absurd hn z
  ·rw[h] at z;cases z
theorem RowR.mono {R R':Addr→List D→Prop} (k:∀a ds,R a ds→R' a ds):∀{dss:List (List D)} {ps:List Addr},RowR R dss ps→RowR R' dss ps
 |[],_,h=>h
 |_::_,_,⟨a,q,e,h1,h2⟩=>⟨a,q,e,k _ _ h1,RowR.mono k h2⟩
theorem RowR.sub {R R':Addr→List D→Prop}:∀{dss:List (List D)} {ps:List Addr},RowR R dss ps→(∀a∈ps,∀ds,R a ds→R' a ds)→RowR R' dss ps
 |[],_,h,_=>h
 |_::_,_,⟨a,q,e,h1,h2⟩,k=>by
  subst e
  exact⟨a,q,rfl,k a (by simp) _ h1,RowR.sub h2 fun b hb=>k b (List.mem_cons_of_mem _ hb)⟩
theorem RowR.all {R:Addr→List D→Prop}:∀{dss:List (List D)} {ps:List Addr},RowR R dss ps→∀a∈ps,∃ds,R a ds
 |[],_,h,a,m=>by cases h;cases m
 |ds::_,_,⟨b,q,e,h1,h2⟩,a,m=>by
  subst e
  rcases List.mem_cons.mp m with z | z
  ·rw[z];exact⟨ds,h1⟩
  ·exact RowR.all h2 a z
theorem qgv:∀{ps qs:List Addr},ps.map V.ref=qs.map V.ref→ps=qs
 |[],[],_=>rfl
 |[],_::_,h=>nomatch h
 |_::_,[],h=>nomatch h
 |p::ps,q::qs,h=>by
  simp only[List.map_cons,List.cons.injEq] at h
  obtain⟨h1,h2⟩:=h
  cases h1
  rw[qgv h2]
theorem SlR.held {C:Ctx} {P N H:Hp} {dss:List (List D)} {o:Option V} {a:Addr} (h:SlR C P N H (.row dss) o) (k:Held H (.row dss) o a):(∃xs,H a=some (.lst xs))∧P a=none∧N a=none∧C.B a=none:=by
 obtain⟨p,ps,rfl,h1,h2,h3,h4,h5,h6⟩:=h
 cases k with
 |rt=>exact⟨⟨_,h1⟩,h2,h3,h4⟩
 |it q m =>
  rw[h1] at q
  injection q with q
  injection q with q
  have:=qgv q
  subst this
  obtain⟨ds,xs,g1,g2,g3,g4,_⟩:=h5.all a m
  exact⟨⟨xs,g1⟩,g2,g3,g4⟩
theorem DctR.mono {R R':D→V→Prop} (k:∀d v,R d v→R' d v):∀{m:List (Int × D)} {es:List (Key × V)},DctR R m es→DctR R' m es
 |[],_,h=>h
 |_::_,_,⟨v,r,e,h1,h2⟩=>⟨v,r,e,k _ _ h1,DctR.mono k h2⟩
theorem DctR.adv {b:Bool} (hp:Same P P') (hn:Same N N') {m:List (Int × D)} {es:List (Key × V)} (h:DctR (RepB C P N b) m es):DctR (RepB C P' N' b) m es:=h.mono fun _ _=>RepB.adv hp hn
theorem SlR.adv (a:Adv P N H P' N' H') {s:Sl} {o:Option V} (h:SlR C P N H s o):SlR C P' N' H' s o:=by
 cases s with
 |non=>trivial
 |val d b =>
  obtain⟨v,h3,h4⟩:=h
  exact⟨v,h3,RepB.adv a.pp a.nn h4⟩
 |own ds b =>
  obtain⟨p,xs,h3,h4,h5,h6,h7,h8⟩:=h
  exact⟨p,xs,h3,a.hh _ _ h4,a.off h4 h5,a.offN h4 h6,h7,RepsB.adv a.pp a.nn h8⟩
 |slf c fs =>
  obtain⟨p,dx,xs,h3,h4,h5,h6,h7,h8,h9⟩:=h
  exact⟨p,dx,xs,h3,a.hh _ _ h4,a.off h4 h5,a.offN h4 h6,h7,h8,RepsB.adv a.pp a.nn h9⟩
 |fxd d k =>
  obtain⟨v,h3,h4,h5⟩:=h
  exact⟨v,h3,h4,RepB.adv a.pp a.nn h5⟩
 |dct m b =>
  obtain⟨p,es,h3,h4,h5,h6,h7,h8⟩:=h
  exact⟨p,es,h3,a.hh _ _ h4,a.off h4 h5,a.offN h4 h6,h7,h8.adv a.pp a.nn⟩
 |row dss =>
  obtain⟨p,ps,h3,h4,h5,h6,h7,h8,h9⟩:=h
  exact⟨p,ps,h3,a.hh _ _ h4,a.off h4 h5,a.offN h4 h6,h7,h8.mono fun b ds ⟨xs,g1,g2,g3,g4,g5,g6⟩=>⟨xs,a.hh _ _ g1,a.off g1 g2,a.offN g1 g3,g4,g5,RepsB.adv a.pp a.nn g6⟩,h9⟩
theorem SR.adv (S:SR C P N H ρ σ) (a:Adv P N H P' N' H'):SR C P' N' H' ρ σ where
 reg:=S.reg.adv a
 len:=S.len
 sl:=fun i s e=>by
  obtain⟨o,h1,h2⟩:=S.sl i s e
  exact⟨o,h1,h2.adv a⟩
 ap:=S.ap
 ad:=S.ad
 ar:=S.ar.heap fun i dss p e1 e2=>by
  obtain⟨o,z1,z2⟩:=S.sl i _ e1
  rw[z1] at e2;cases e2
  obtain⟨⟨xs,q⟩,_⟩:=z2.held .rt
  rw[q];exact a.hh _ _ q
theorem ERr.adv (a:Adv P N H P' N' H') {H0:Hp} {er:ER} {v:V} (h:ERr C P N H H0 er v):ERr C P' N' H' H0 er v:=by
 cases er with
 |val d b=>exact RepB.adv a.pp a.nn h
 |fre ds b =>
  obtain⟨p,xs,h3,h4,h5,h6,h7,h8⟩:=h
  exact⟨p,xs,h3,a.hh _ _ h4,h5,a.off h4 h6,a.offN h4 h7,RepsB.adv a.pp a.nn h8⟩
 |brw ds b =>
  obtain⟨p,xs,h3,h4,h5,h6,h7,h8⟩:=h
  exact⟨p,xs,h3,a.hh _ _ h4,a.off h4 h5,a.offN h4 h6,h7,RepsB.adv a.pp a.nn h8⟩
theorem ERs.adv (a:Adv P N H P' N' H') {H0:Hp}:∀{er:List ER} {v:List V},ERs C P N H H0 er v→ERs C P' N' H' H0 er v
 |[],_,h=>h
 |e::es,_,⟨v,r,h1,h2,h3⟩=>⟨v,r,h1,h2.adv a,ERs.adv a h3⟩
theorem ERr.from {H0 H1:Hp} (e:Same H1 H0) {er:ER} {v:V} (h:ERr C P N H H0 er v):ERr C P N H H1 er v:=by
 cases er with
 |val d b=>exact h
 |fre ds b =>
  obtain⟨p,xs,h3,h4,h5,h6⟩:=h
  exact⟨p,xs,h3,h4,e.free h5,h6⟩
 |brw ds b=>exact h
theorem ERs.from {H0 H1:Hp} (e:Same H1 H0):∀{er:List ER} {v:List V},ERs C P N H H0 er v→ERs C P N H H1 er v
 |[],_,h=>h
 |_::_,_,⟨v,r,h1,h2,h3⟩=>⟨v,r,h1,h2.from e,ERs.from e h3⟩
theorem ERr.freeze {P1 N1 H0:Hp} {er:ER} {v:V} (a:Adv P1 N1 H0 P N H) (h:ERr C P N H H0 er v):∃N'',Adv P1 N1 H0 P N'' H∧ERr C P N'' H H0 er.frz v:=by
 cases er with
 |val d b=>exact⟨N,a,h⟩
 |brw d b=>exact⟨N,a,h⟩
 |fre ds b =>
  obtain⟨p,xs,rfl,h1,h2,h3,h4,h5⟩:=h
  have sn:Same N (upd N p (.lst xs)):=qaA h4
  exact⟨upd N p (.lst xs),a.holdN h2 h1 h4 h3,p,xs,rfl,.inl upd_same,RepsB.adv (L2.Same.refl _) sn h5⟩
def ERw (C:Ctx) (P N H:Hp) (d:D) (b:Bool) (v:V):Prop:=
 match d with
 |.lst ds=>∃p xs,v=.ref p∧SqL C.G.K H p xs∧RepsB C P N b ds xs
 |d=>RepB C P N b d v
theorem ERr.w (r:Reg C P N H) {H0:Hp} {er:ER} {v:V} (h:ERr C P N H H0 er v):ERw C P N H er.d er.b v:=by
 cases er with
 |val d b =>
  cases d with
  |lst ds =>
   obtain⟨p,xs,e,h1,h2⟩:=h
   exact⟨p,xs,e,LNb.seq r.pH r.nH r.rH _ _ h1,h2⟩
  |_=>exact h
 |fre ds b =>
  obtain⟨p,xs,h3,h4,_,_,_,h5⟩:=h
  exact⟨p,xs,h3,.inl (.inl h4),h5⟩
 |brw ds b =>
  obtain⟨p,xs,h3,h4,_,_,_,h5⟩:=h
  exact⟨p,xs,h3,.inl (.inl h4),h5⟩
end
def spD (G:Glo) (n:Nat) (g:List D→RE ER):Sp:=fun vs H Q E=>∃P R ds,Same P H∧Same R H∧Reps G P (SqL G.K R) ds vs∧ds.length=n∧match g ds with
 |.bad=>False
 |.ok er=>∀v H' P' N',Adv P (fun _=>none) H P' N' H'→ERr ⟨G,R,H,P,fun _ _ _ _=>False,0,fun _=>none⟩ P' N' H' H er v→Q v H'
 |.exc c fs=>∀d H' P' N',Adv P (fun _=>none) H P' N' H'→ExR ⟨G,R,H,P,fun _ _ _ _=>False,0,fun _=>none⟩ P' N' H' fs d→E (.ref (G.ca c)) d H'
theorem qq7 {G:Glo} {n:Nat} {g:List D→RE ER} {vs:List V} {H:Hp} {Q:VK} {E:XK} (h:spD G n g vs H Q E):vs.length=n:=by
 obtain⟨P,R,ds,_,_,h1,h2,_⟩:=h
 rw[h1.length,h2]
def spI (G:Glo) (c n:Nat) (g:List D→RE (List D)):Sp:=fun vs H Q E=>∃x dx H0 P R ds us,vs=.ref x::us∧H=upd (upd H0 dx (.own x)) x (.ins (G.ca c) dx [])∧H0 x=none∧H0 dx=none∧Same P H0∧Same R H0∧Reps G P (SqL G.K R) ds us∧ds.length=n∧match g ds with
 |.bad=>False
 |.ok fs=>∀H' P',Same H0 H'→Same P P'→Same P' H'→(∀a,P' a≠none→P a≠none∨H0 a=none)→Rep G P' (fun _ _=>False) (.ins c fs) (.ref x)→Q .non H'
 |.exc c fs=>∀d H' P' N',Adv P (fun _=>none) H0 P' N' H'→ExR ⟨G,R,H0,P,fun _ _ _ _=>False,0,fun _=>none⟩ P' N' H' fs d→E (.ref (G.ca c)) d H'
theorem qrY {G:Glo} {c n:Nat} {g:List D→RE (List D)} {vs:List V} {H:Hp} {Q:VK} {E:XK} (h:spI G c n g vs H Q E):vs.length=n+1:=by
 obtain⟨x,dx,H0,P,R,ds,us,rfl,_,_,_,_,_,h1,h2,_⟩:=h
 rw[List.length_cons,h1.length,h2]
end Cm
namespace Cm
open PySem PySem.Spec PyProof.Rows L2
def qbg (s:List Nat):Str:=⟨s.toArray⟩
inductive Bop where
 |add | sub | mul | fdv | mdl | pow | shl | shr | and | or
inductive Cop where
 |eq | ne | lt | le | gt | ge | isin | nin
inductive Pri where
 |len | abs | min2 | max2 | min1 | max1 | sum | sorted | all | any | list | tupl | int | str | dmd
inductive Bme where
 |split | join | find
inductive Ty where
 |bool | int | str | list | tuple
mutual
inductive Ex where
 |nev
 |var (i:Nat)
 |cint (i:Int)
 |cbl (b:Bool)
 |cnon
 |cstr (s:List Nat)
 |glo (k:Nat)
 |bin (o:Bop) (a b:Ex)
 |cmp (o:Cop) (a b:Ex)
 |chn (o p:Cop) (a b c:Ex)
 |bop (and:Bool) (es:Exs)
 |neg (a:Ex)
 |tup (es:Exs)
 |lst (es:Exs)
 |idx (a i:Ex)
 |slc (a:Ex) (lo hi:Exs)
 |call (f:Nat) (es:Exs)
 |pri (p:Pri) (es:Exs)
 |lrng (es:Exs)
 |mth (m:Nat) (o:Ex) (es:Exs)
 |bm1 (m:Bme) (o a:Ex)
 |fld (o:Ex) (f:Nat)
 |isi (a:Ex) (t:Ty)
 |lc (own:List Nat) (it:Itx) (tg:List Nat) (cnd:Tes) (e:Ex)
 |lcx (own:List Nat) (it:Itx) (tg:List Nat) (cnd:Tes) (e:Ex)
 |lset (a:Ex)
 |new (k:Nat) (es:Exs)
 |sfd (i f:Nat)
 |isc (a:Ex) (k:Nat)
inductive Te where
 |val (e:Ex)
 |bop (and:Bool) (ts:Tes)
 |not (t:Te)
inductive Tes where
 |nil
 |cons (t:Te) (ts:Tes)
inductive Exs where
 |nil
 |cons (e:Ex) (es:Exs)
inductive Itx where
 |any (e:Ex)
 |rng (es:Exs)
 |zp (a b:Ex)
 |en (a:Ex)
 |rv (a:Ex)
 |rvr (a:Ex)
end
@[simp] def ok (d:D):RE ER:=.ok (.val d true)
def qpe (i j:Int):Prop:=(-(2 ^ 64)<i∧i<2 ^ 64)∨(-(2 ^ 64)<j∧j<2 ^ 64)
instance (i j:Int):Decidable (qpe i j):=by unfold qpe;infer_instance
def qpN (j:Int):Prop:=j≠0∧j.natAbs<1073741824
instance (j:Int):Decidable (qpN j):=by unfold qpN;infer_instance
def qpO (i j:Int):Prop:=0≤j∧j≤1000000∧i.natAbs<2 ^ 64
instance (i j:Int):Decidable (qpO i j):=by unfold qpO;infer_instance
def LIM:Nat:=16777216
def gd {α:Type} (b:Bool) (r:RE α):RE α:=match b with
 |true=>r
 |false=>.bad
@[simp] theorem qiE {α:Type} (r:RE α):gd true r=r:=rfl
theorem qeM {α:Type} (b:Bool) (r:RE α):gd b r=if b=true then r else .bad:=by cases b<;>rfl
/- (they look at the first numeral alone: where it isn't known they stand still) -/
def qoP (i j:Int):Bool:=Nat.ble i.natAbs 18446744073709551615||(Nat.ble j.natAbs 18446744073709551615||Nat.ble (Builtin.Int.intBits i+Builtin.Int.intBits j) 134217728)
def nzB (j:Int):Bool:=Nat.ble 1 j.natAbs
def qsK (j:Int):Bool:=nzB j&&Nat.ble j.natAbs 1073741823
def dmB (j:Int):Bool:=Nat.ble 1 j.toNat&&Nat.ble j.natAbs 1073741823
def nnB (j:Int):Bool:=match j with
 |.ofNat _=>true
 |.negSucc _=>false
def qsH (i j:Int):Bool:=nnB j&&(Nat.ble j.natAbs 1000000&&Nat.ble i.natAbs 18446744073709551615)
def leB (n:Nat):Bool:=Nat.ble n LIM
def qsL (n:Nat) (k:Int):Bool:=Nat.ble k.natAbs 9223372036854775807&&leB (n*k.toNat)
def qt2 (i:Int):Bool:=Nat.ble i.natAbs.log2 1919
def qui (t s:Nat):Bool:=Nat.ble 1 t&&leB (s+2)
theorem qbA (j:Int):(nzB j=true)=(j≠0):=by
 unfold nzB
 rw[Nat.ble_eq]
 exact propext ⟨fun h=>by omega,fun h=>by omega⟩
theorem qas (n:Nat):(leB n=true)=(n≤LIM):=by
 unfold leB
 rw[Nat.ble_eq]
theorem qbJ (j:Int):(nnB j=true)=(0≤j):=by
 cases j with
 |ofNat n=>exact propext ⟨fun _=>Int.natCast_nonneg n,fun _=>rfl⟩
 |negSucc n=>exact propext ⟨fun h=>(by cases h),fun h=>(by omega)⟩
theorem qbx (i j:Int):(qoP i j=true)=(qpe i j∨CMulX i j):=by
 unfold qoP qpe CMulX
 rw[Bool.or_eq_true,Bool.or_eq_true,Nat.ble_eq,Nat.ble_eq,Nat.ble_eq]
 refine propext ⟨fun h=>?_,fun h=>?_⟩
 ·rcases h with h | h | h
  ·exact .inl (.inl (by omega))
  ·exact .inl (.inr (by omega))
  ·exact .inr (by omega)
 ·rcases h with(h | h) | h
  ·exact .inl (by omega)
  ·exact .inr (.inl (by omega))
  ·exact .inr (.inr (by omega))
theorem qbt (j:Int):(qsK j=true)=qpN j:=by
 unfold qsK qpN
 rw[Bool.and_eq_true,qbA,Nat.ble_eq]
 exact propext ⟨fun h=>⟨h.1,by omega⟩,fun h=>⟨h.1,by omega⟩⟩
theorem qrv (j:Int):(dmB j=true)=(0<j∧j<1073741824):=by
 unfold dmB
 rw[Bool.and_eq_true,Nat.ble_eq,Nat.ble_eq]
 exact propext ⟨fun h=>by omega,fun h=>by omega⟩
theorem qbz (i j:Int):(qsH i j=true)=qpO i j:=by
 unfold qsH qpO
 rw[Bool.and_eq_true,Bool.and_eq_true,qbJ,Nat.ble_eq,Nat.ble_eq]
 exact propext ⟨fun h=>⟨h.1,by omega,by omega⟩,fun h=>⟨h.1,by omega,by omega⟩⟩
theorem qnu {n:Nat} {k:Int} (h:qsL n k=true):-(2 ^ 63)≤k∧k<2 ^ 63∧n*k.toNat≤LIM:=by
 unfold qsL at h
 rw[Bool.and_eq_true,qas,Nat.ble_eq] at h
 exact⟨by omega,by omega,h.2⟩
theorem qbu (i:Int):(qt2 i=true)=(i.natAbs.log2<1920):=by
 unfold qt2
 rw[Nat.ble_eq]
 exact propext ⟨fun h=>by omega,fun h=>by omega⟩
theorem qa4 (t s:Nat):(qui t s=true)=(t≠0∧s+2≤LIM):=by
 unfold qui
 rw[Bool.and_eq_true,qas,Nat.ble_eq]
 exact propext ⟨fun h=>⟨by omega,h.2⟩,fun h=>⟨by omega,h.2⟩⟩
@[simp] def evB (o:Bop) (x y:D) (b:Bool):RE ER:=
 match o with
 |.add=>match x,y with
  |.int i,.int j=>ok (.int (i+j))
  |.str s,.str t=>gd (leB (s.length+t.length)) (ok (.str (s++t)))
  |.lst xs,.lst ys=>gd (leB (xs.length+ys.length)) (.ok (.fre (xs++ys) b))
  |_,_=>.bad
 |.sub=>match x,y with
  |.int i,.int j=>ok (.int (i - j))
  |_,_=>.bad
 |.mul=>match x,y with
  |.int i,.int j=>gd (qoP i j) (ok (.int (i*j)))
  |.lst xs,.int k=>gd (qsL xs.length k) (.ok (.fre (List.replicate k.toNat xs).flatten b))
  |.str s,.int k=>gd (qsL s.length k&&(Nat.ble 1 k.toNat&&Nat.ble 1 s.length)) (ok (.str (List.replicate k.toNat s).flatten))
  |_,_=>.bad
 |.fdv=>match x,y with
  |.int i,.int j=>gd (qsK j) (ok (.int (i.fdiv j)))
  |_,_=>.bad
 |.mdl=>match x,y with
  |.int i,.int j=>gd (nzB j) (ok (.int (i.fmod j)))
  |_,_=>.bad
 |.pow=>match x,y with
  |.int i,.int j=>gd (qsH i j) (ok (.int (i ^ j.toNat)))
  |_,_=>.bad
 |.shl=>match x,y with
  |.int i,.int j=>gd (qsH i j) (ok (.int (i*2 ^ j.toNat)))
  |_,_=>.bad
 |.shr=>match x,y with
  |.int i,.int j=>gd (nnB j) (ok (.int (i / 2 ^ j.toNat)))
  |_,_=>.bad
 |.and=>match x,y with
  |.int i,.int j=>ok (.int (Builtin.bitAnd i j))
  |_,_=>.bad
 |.or=>match x,y with
  |.int i,.int j=>ok (.int (Builtin.bitOr i j))
  |_,_=>.bad
def qoU (x y:D):RE Bool:=
 match x,y with
 |.int i,.int j=>.ok (decide (i=j))
 |.str s,.str t=>.ok (decide (s=t))
 |.bl a,.bl b=>.ok (a == b)
 |x,y=>if (x.fit 64&&y.fit 64)=true then .ok (x.eqb y) else .bad
def qnO (x y:D):RE Bool:=
 match y with
 |.lst ys=>if (x.fit 64&&(D.lst ys).fit 64)=true then .ok (ys.any fun z=>z.eqb x) else .bad
 |.tup ys=>if (x.fit 0&&D.fits ys 0)=true then .ok (ys.any fun z=>z.eqb x) else .bad
 |.str t=>match x with
  |.str [c]=>.ok (decide (c∈t))
  |_=>.bad
 |_=>.bad
@[simp] def evC (o:Cop) (x y:D):RE Bool:=
 match o with
 |.eq=>qoU x y
 |.ne=>(qoU x y).bind fun b=>.ok (!b)
 |.isin=>qnO x y
 |.nin=>(qnO x y).bind fun b=>.ok (!b)
 |.lt=>match x,y with
  |.int i,.int j=>.ok (decide (i<j))
  |_,_=>.bad
 |.le=>match x,y with
  |.int i,.int j=>.ok (decide (i≤j))
  |_,_=>.bad
 |.gt=>match x,y with
  |.int i,.int j=>.ok (decide (j<i))
  |_,_=>.bad
 |.ge=>match x,y with
  |.int i,.int j=>.ok (decide (j≤i))
  |_,_=>.bad
@[simp] def qmS (x:D):RE Bool:=
 match x with
 |.bl b=>.ok b
 |.int i=>.ok (i != 0)
 |.non=>.ok false
 |.lst xs=>.ok (!xs.isEmpty)
 |.tup xs=>.ok (!xs.isEmpty)
 |_=>.bad
@[simp] def qrt (a i:D) (b:Bool):RE ER:=
 match a,i with
 |.lst xs,.int i=>match atI xs i with
  |some x=>.ok (.val x (b||x.flat))
  |none=>.bad
 |.tup xs,.int i=>match atI xs i with
  |some x=>.ok (.val x (b||x.flat))
  |none=>.bad
 |.str s,.int i=>gd (leB s.length) (match atI s i with
  |some c=>ok (.str [c])
  |none=>.bad)
 |_,_=>.bad
def qcR {α:Type} (xs:List α) (lo hi:Option Int):List α:=(xs.drop (HT.sIx xs.length 0 lo)).take (HT.sIx xs.length xs.length hi - HT.sIx xs.length 0 lo)
@[simp] def qvi (a:D) (lo hi:Option Int) (b:Bool):RE ER:=
 match a with
 |.lst xs=>.ok (.fre (qcR xs lo hi) b)
 |.tup xs=>gd (!(decide (HT.sIx xs.length 0 lo=0)&&decide (HT.sIx xs.length xs.length hi=xs.length))) (.ok (.val (.tup (qcR xs lo hi)) b))
 |.str s=>gd (leB s.length) (ok (.str (qcR s lo hi)))
 |_=>.bad
def qcw:List D→Option (List Int)
 |[]=>some []
 |.int i::ds=>(qcw ds).map (i :: ·)
 |_::_=>none
def qf6:List D→Option (List Bool)
 |[]=>some []
 |.bl i::ds=>(qf6 ds).map (i :: ·)
 |_::_=>none
def qkt:List D→Option (List (List Nat))
 |[]=>some []
 |.str i::ds=>(qkt ds).map (i :: ·)
 |_::_=>none
def qkG:List Int→Int
 |[]=>0
 |[x]=>x
 |x::xs=>max x (qkG xs)
def qmR:List Int→Int
 |[]=>0
 |[x]=>x
 |x::xs=>min x (qmR xs)
def qqY (x:Int):List Int→List Int
 |[]=>[x]
 |y::ys=>if x≤y then x::y::ys else y::qqY x ys
def qe5:List Int→List Int
 |[]=>[]
 |x::xs=>qqY x (qe5 xs)
def qvj:List Int→List Int→Bool
 |[],[]=>false
 |[],_::_=>true
 |_::_,[]=>false
 |a::as,b::bs=>if a=b then qvj as bs else decide (a<b)
def qvr (x:List Int):List (List Int)→List (List Int)
 |[]=>[x]
 |y::ys=>if qvj y x=true then y::qvr x ys else x::y::ys
def qoK:List (List Int)→List (List Int)
 |[]=>[]
 |x::xs=>qvr x (qoK xs)
def liD:D→Option (List Int)
 |.lst ds=>qcw ds
 |_=>none
def qvu:List D→Option (List (List Int))
 |[]=>some []
 |d::ds=>match liD d with
  |some n=>(qvu ds).map (n :: ·)
  |none=>none
def liV (n:List Int):D:=.lst (n.map D.int)
def qwT (x:D) (b:Bool):RE ER:=match x with
 |.lst xs=>match qvu xs with
  |some ls=>.ok (.fre ((qoK ls).map liV) b)
  |none=>.bad
 |_=>.bad
def quk (k:Bool) (ns:List Int) (d:Int):Int:=match ns with
 |[]=>d
 |n::ns=>if k=true then qkG (n::ns) else qmR (n::ns)
def qwc (k:Bool) (x y:D):RE ER:=match x with
 |.lst xs=>match qcw xs with
  |some ns=>match y with
   |.int d=>ok (.int (quk k ns d))
   |_=>.bad
  |none=>.bad
 |_=>.bad
@[simp] def evP (p:Pri) (es:List ER):RE ER:=
 match p,es with
 |.len,[e]=>match e.d with
  |.lst xs=>ok (.int xs.length)
  |.tup xs=>ok (.int xs.length)
  |.str s=>gd (leB s.length) (ok (.int s.length))
  |_=>.bad
 |.abs,[e]=>match e.d with
  |.int i=>ok (.int (if i<0 then -i else i))
  |_=>.bad
 |.min2,[e,f]=>match e.d,f.d with
  |.int i,.int j=>ok (.int (if j<i then j else i))
  |_,_=>.bad
 |.max2,[e,f]=>match e.d,f.d with
  |.int i,.int j=>ok (.int (if j>i then j else i))
  |_,_=>.bad
 |.min1,[e]=>match e.d with
  |.lst xs=>match qcw xs with
   |some (n::ns)=>ok (.int (qmR (n::ns)))
   |_=>.bad
  |_=>.bad
 |.max1,[e]=>match e.d with
  |.lst xs=>match qcw xs with
   |some (n::ns)=>ok (.int (qkG (n::ns)))
   |_=>.bad
  |_=>.bad
 |.sum,[e]=>match e.d with
  |.lst xs=>match qcw xs with
   |some ns=>ok (.int ns.sum)
   |none=>.bad
  |_=>.bad
 |.sorted,[e]=>match e.d with
  |.lst xs=>match qcw xs with
   |some ns=>.ok (.fre ((qe5 ns).map D.int) true)
   |none=>.bad
  |_=>.bad
 |.all,[e]=>match e.d with
  |.lst xs=>match qf6 xs with
   |some bs=>ok (.bl (bs.all id))
   |none=>.bad
  |_=>.bad
 |.any,[e]=>match e.d with
  |.lst xs=>match qf6 xs with
   |some bs=>ok (.bl (bs.any id))
   |none=>.bad
  |_=>.bad
 |.list,[e]=>match e.d with
  |.lst xs=>.ok (.fre xs (e.b||D.flats xs))
  |.tup xs=>.ok (.fre xs (e.b||D.flats xs))
  |_=>.bad
 |.tupl,[e]=>match e.d with
  |.lst xs=>.ok (.val (.tup xs) (e.b||D.flats xs))
  |_=>.bad
 |.int,[e]=>match e.d with
  |.int i=>ok (.int i)
  |.bl c=>ok (.int (if c then 1 else 0))
  |.str s=>match intText? (qbg s) with
   |some n=>gd (Nat.ble s.length 640) (ok (.int n))
   |none=>.bad
  |_=>.bad
 |.dmd,[e,f]=>match e.d,f.d with
  |.int i,.int j=>gd (dmB j) (ok (.tup [.int (i / j),.int (i % j)]))
  |_,_=>.bad
 |.str,[e]=>match e.d with
  |.int i=>gd (qt2 i) (ok (.str (toString i:Str).cps.toList))
  |_=>.bad
 |_,_=>.bad
def idxD (y:D):List D→Option Nat
 |[]=>none
 |x::xs=>if x.eqb y=true then some 0 else (idxD y xs).map (· + 1)
def qqq (xs:List D) (y:D):RE ER:=
 if (y.fit 0&&D.fits xs 0)=true then (match idxD y xs with
  |some j=>ok (.int j)
  |none=>.bad) else .bad
def qvI (x:Int):List Int→List Int
 |[]=>[x]
 |y::ys=>if x<y then x::y::ys else if x=y then y::ys else y::qvI x ys
def qun:List Int→List Int
 |[]=>[]
 |x::xs=>qvI x (qun xs)
def qvD (x:D):RE ER:=match x with
 |.lst xs=>match qcw xs with
  |some ns=>gd (Nat.ble ns.length 63) (.ok (.fre ((qun ns).map D.int) true))
  |none=>.bad
 |_=>.bad
def qvG (x:D):RE ER:=match x with
 |.lst xs=>match qcw xs with
  |some ns=>gd (leB ns.length) (.ok (.fre (ns.reverse.map D.int) true))
  |none=>.bad
 |_=>.bad
def qvL (z:Int):List Int→Option Nat
 |[]=>none
 |s::ss=>if s=z then some 0 else (qvL z ss).map (· + 1)
def qvp (z:List Nat):List (List Nat)→Option Nat
 |[]=>none
 |s::ss=>if s=z then some 0 else (qvp z ss).map (· + 1)
def qvz (ss:List (List Nat)) (y:D):RE ER:=match y with
 |.str z=>(match qvp z ss with
  |some j=>ok (.int j)
  |none=>.bad)
 |_=>.bad
def qvT:D→Option (List (List Nat))
 |.tup xs=>qkt xs
 |_=>none
def qvm (xs:List D) (y:D):RE ER:=
 match qcw xs with
 |some ns=>match y with
  |.int k=>ok (.int (ns.count k:Nat))
  |_=>.bad
 |none=>.bad
def qtx (s:List Nat) (y:D):RE ER:=
 match y with
 |.str t=>(match Builtin.Str.occurrences (qbg s) (qbg t) 0 s.length 1 with
  |j::_=>ok (.int (j:Nat))
  |[]=>.bad)
 |_=>.bad
def qpM (ns:List Int):Nat:=(PyProof.Rows.firstMet (fun i=>ns.getD i 0) ns.length).length
@[simp] def qlD (x:D):RE ER:=
 match x with
 |.lst xs=>match qcw xs with
  |some ns=>gd (Nat.ble ns.length 1000) (ok (.int (qpM ns)))
  |none=>.bad
 |_=>.bad
@[simp] def evM (m:Bme) (s:List Nat) (y:D):RE ER:=
 match m with
 |.split=>match y with
  |.str t=>gd (qui t.length s.length) (.ok (.fre ((Txt.split (qbg s) (qbg t)).map fun z=>.str z.cps.toList) true))
  |_=>.bad
 |.join=>match y with
  |.lst xs=>match qkt xs with
   |some ss=>gd (leB ((ss.map List.length).sum+ss.length*s.length)) (ok (.str (Txt.join (qbg s) (ss.map qbg)).cps.toList))
   |none=>.bad
  |_=>.bad
 |.find=>match y with
  |.str t=>ok (.int (Txt.find (qbg s) (qbg t)))
  |_=>.bad
@[simp] def qt1 (x:D) (t:Ty):RE ER:=
 match x,t with
 |.bl _,.bool=>ok (.bl true)
 |.bl _,.int=>ok (.bl true)
 |.int _,.int=>ok (.bl true)
 |.str _,.str=>ok (.bl true)
 |.lst _,.list=>ok (.bl true)
 |.tup _,.tuple=>ok (.bl true)
 |.ins _ _,_=>.bad
 |.exc _ _,_=>.bad
 |_,_=>ok (.bl false)
def qfC (lo c:Int) (n:Nat):List Int:=(List.range n).map fun(i:Nat)=>lo+(i:Int)*c
def inB (i:Int):Prop:=-(2 ^ 62)≤i∧i<2 ^ 62
instance (i:Int):Decidable (inB i):=by unfold inB;infer_instance
def qsJ (i j c:Int):Nat:=(Builtin.Range.rangeSize i j c).toNat
def qq9 (i:Int):Bool:=Nat.ble i.natAbs 4611686018427387903
def qmo (n:Int):Bool:=qq9 n&&leB n.toNat
def qsI (i j:Int):Bool:=qq9 i&&(qq9 j&&leB (j - i).toNat)
def qur (i j c:Int):Bool:=nzB c&&(Nat.ble c.natAbs 1073741823&&(Builtin.Range.small i j c&&(nnB (Builtin.Range.rangeSize i j c)&&leB (qsJ i j c))))
theorem qk4 {i:Int} (h:qq9 i=true):inB i:=by
 unfold qq9 at h
 rw[Nat.ble_eq] at h
 exact⟨by omega,by omega⟩
theorem qk1 {n:Int} (h:qmo n=true):inB n∧n.toNat≤LIM:=by
 unfold qmo at h
 rw[Bool.and_eq_true,qas] at h
 exact⟨qk4 h.1,h.2⟩
theorem qni {i j:Int} (h:qsI i j=true):inB i∧inB j∧(j - i).toNat≤LIM:=by
 unfold qsI at h
 rw[Bool.and_eq_true,Bool.and_eq_true,qas] at h
 exact⟨qk4 h.1,qk4 h.2.1,h.2.2⟩
theorem qbs (i j c:Int):(qur i j c=true)=(c≠0∧c.natAbs<1073741824∧Builtin.Range.small i j c=true∧0≤Builtin.Range.rangeSize i j c∧qsJ i j c≤LIM):=by
 unfold qur
 rw[Bool.and_eq_true,Bool.and_eq_true,Bool.and_eq_true,Bool.and_eq_true,qbA,Nat.ble_eq,qbJ,qas]
 exact propext ⟨fun h=>⟨h.1,by omega,h.2.2⟩,fun h=>⟨h.1,by omega,h.2.2⟩⟩
@[simp] def qeJ (es:List ER):RE (List Int):=
 match es with
 |[a]=>match a.d with
  |.int n=>gd (qmo n) (.ok (qfC 0 1 n.toNat))
  |_=>.bad
 |[a,b]=>match a.d,b.d with
  |.int i,.int j=>gd (qsI i j) (.ok (qfC i 1 (j - i).toNat))
  |_,_=>.bad
 |[a,b,c]=>match a.d,b.d,c.d with
  |.int i,.int j,.int c=>gd (qur i j c) (.ok (qfC i c (qsJ i j c)))
  |_,_,_=>.bad
 |_=>.bad
structure Env where
 fn:List (Str × (List D→RE ER))
 gc:List (Str × D)
 mn:List Str
 mt:Nat→Nat→Option (List D→RE ER)
 fs:List Str
 fi:Nat→Nat→Option Nat
 nw:List (Nat × (List D→RE (List D))):=[]
 ck:List (Nat→Option Bool):=[]
 ik:List (Nat→Option Bool):=[]
 xk:List Nat:=[]
 dc:List (Str × List (List Nat × Option D)):=[]
def qay:List (Nat × Nat × (List D→RE ER))→Nat→Nat→Option (List D→RE ER)
 |[],_,_=>none
 |t::r,c,m=>if t.1=c then (if t.2.1=m then some t.2.2 else qay r c m) else qay r c m
def qaB:List (Nat × Nat × Nat)→Nat→Nat→Option Nat
 |[],_,_=>none
 |t::r,c,m=>if t.1=c then (if t.2.1=m then some t.2.2 else qaB r c m) else qaB r c m
@[simp] def qdZ (k:Bool) (er:ER):RE ER:=
 match k with
 |false=>match er with
  |.brw _ _=>.bad
  |.val d b=>.ok (.val d (b||d.flat))
  |.fre ds b=>.ok (.fre ds b)
 |true=>match er with
  |.val d b=>if (b||d.flat)=true then .ok (.val d true) else .bad
  |.fre ds b=>if (b||D.flats ds)=true then .ok (.fre ds true) else .bad
  |.brw _ _=>.bad
def qq1:List ER→Option (List (List Int))
 |[]=>some []
 |.brw ds _::es=>match qcw ds with
  |some ns=>(qq1 es).map (ns :: ·)
  |none=>none
 |.val _ _::es=>qq1 es
 |.fre _ _::es=>qq1 es
mutual
def qqz (os:List (List Int)):D→Bool
 |.lst ds=>match qcw ds with
  |some ns=>!decide (ns∈os)
  |none=>false
 |.tup ds=>qo6 os ds
 |.ins _ _=>false
 |.exc _ _=>false
 |.non=>true
 |.bl _=>true
 |.int _=>true
 |.str _=>true
def qo6 (os:List (List Int)):List D→Bool
 |[]=>true
 |d::ds=>qqz os d&&qo6 os ds
end
def qxl (os:List (List Int)) (er:ER):RE ER:=match er with
 |.val d _=>if qqz os d=true then .ok (.val d d.flat) else .bad
 |_=>.bad
@[simp] def wipeS (ρ:List Sl):List Nat→List Sl
 |[]=>ρ
 |v::vs=>(wipeS ρ vs).set v .non
@[simp] def qk3:List Nat→List D→Bool→List Sl→Option (List Sl)
 |[],[],_,ρ=>some ρ
 |i::is,d::ds,b,ρ=>qk3 is ds b (ρ.set i (.val d (b||d.flat)))
 |_,_,_,_=>none
@[simp] def qdq (tg:List Nat) (x:D) (b:Bool) (ρ:List Sl):Option (List Sl):=
 match tg with
 |[i]=>some (ρ.set i (.val x (b||x.flat)))
 |tg=>match x with
  |.tup ds=>qk3 tg ds b ρ
  |.lst ds=>qk3 tg ds b ρ
  |_=>none
def lcl (f:D→RE (Option (D × Bool))):List D→RE (List D × Bool)
 |[]=>.ok ([],true)
 |x::xs=>(f x).bind fun r=>(lcl f xs).bind fun q=>match r with
  |none=>.ok q
  |some y=>.ok (y.1::q.1,y.2&&q.2)
@[simp] def noX {α:Type}:RE α→RE α
 |.exc _ _=>.bad
 |r=>r
@[simp] def dis (f:List D→Bool→ER) (es:List ER):RE ER:=if (es.all ER.isV)=true then .ok (f (es.map ER.d) (es.all ER.b)) else .bad
structure Wk where
 xs:List D
 b:Bool
 own:Bool
@[simp] def qj1 (e:ER):RE Wk:=
 match e.d with
 |.lst xs=>.ok ⟨xs,e.b,e.isB⟩
 |.tup xs=>.ok ⟨xs,e.b,false⟩
 |.str s=>.ok ⟨s.map fun c=>.str [c],true,false⟩
 |_=>.bad
def quW:List (Option (Nat→Option Bool))→Nat→Option Bool
 |[],_=>some false
 |none::_,_=>none
 |some g::r,c=>match g c with
  |some true=>some true
  |some false=>quW r c
  |none=>none
def qvP (cks:List (Option (Nat→Option Bool))) (x:D):RE ER:=match x with
 |.exc c []=>match quW cks c with
  |some b=>ok (.bl b)
  |none=>.bad
 |_=>.bad
def qpv (ck ik:Option (Nat→Option Bool)) (x:D):RE ER:=
 match x with
 |.exc c fs=>match fs with
  |[]=>match ck with
   |some g=>match g c with
    |some b=>ok (.bl b)
    |none=>.bad
   |none=>.bad
  |_=>.bad
 |.ins c _=>match ik with
  |some g=>match g c with
   |some b=>ok (.bl b)
   |none=>.bad
  |none=>.bad
 |_=>.bad
def pkS:Sl→Sl
 |.row dss=>.val (.lst (dss.map D.lst)) true
 |s=>s
def frz (z:Bool) (ρ:List Sl):List Sl:=if z=true then ρ.map pkS else ρ
def pkR:RE ER→RE ER
 |.bad=>.bad
 |.exc c fs=>if D.flats fs=true then .exc c fs else .bad
 |.ok er=>match er with
  |.val d _=>if d.flat=true then .ok (.val d true) else .bad
  |.fre ds _=>if D.flats ds=true then .ok (.fre ds true) else .bad
  |.brw _ _=>.bad
def qfu {α:Type} (k:Int):List (Int × α)→Option α
 |[]=>none
 |e::r=>if e.1=k then some e.2 else qfu k r
def qsO {α:Type} (k:Int) (x:α) (m:List (Int × α)):List (Int × α):=m.map fun e=>if e.1=k then (e.1,x) else e
def qoS {α:Type} (k:Int) (x:α) (m:List (Int × α)):List (Int × α):=if (qfu k m).isSome=true then qsO k x m else m++[(k,x)]
def qvy (m:List (Int × D)) (n:Bool) (x:D):RE ER:=match x with
 |.int k=>ok (.bl ((qfu k m).isSome == n))
 |_=>.bad
def qwP (m:List (Int × D)) (b:Bool) (x:D):RE ER:=match x with
 |.int k=>match qfu k m with
  |some d=>.ok (.val d (b||d.flat))
  |none=>.bad
 |_=>.bad
def qwl (t:List (List Nat × Option D)) (n:Bool) (x:D):RE ER:=
 match x with
 |.str s=>match t.lookup s with
  |some o=>ok (.bl (o.isSome == n))
  |none=>.bad
 |_=>.bad
def qwg (t:List (List Nat × Option D)) (x:D):RE ER:=
 match x with
 |.str s=>match t.lookup s with
  |some (some d)=>ok d
  |_=>.bad
 |_=>.bad
@[simp] def D.isNon:D→Bool
 |.non=>true
 |_=>false
mutual
@[simp] def ev (Γ:Env):Ex→List Sl→RE ER
 |.nev,_=>.bad
 |.var i,ρ=>match ρ[i]? with
  |some (.val d b)=>.ok (.val d b)
  |some (.own ds b)=>.ok (.brw ds b)
  |some (.fxd d _)=>.ok (.val d false)
  |_=>.bad
 |.cint i,_=>ok (.int i)
 |.cbl b,_=>ok (.bl b)
 |.cnon,_=>ok .non
 |.cstr s,_=>ok (.str s)
 |.glo k,_=>match Γ.gc[k]? with
  |some c=>.ok (.val c.2 true)
  |none=>.bad
 |.bin o a b,ρ=>(ev Γ a ρ).bind fun x=>(ev Γ b ρ).bind fun y=>evB o x.d y.d (x.b&&y.b)
 |.cmp o a b,ρ=>(ev Γ a ρ).bind fun x=>(ev Γ b ρ).bind fun y=>(evC o x.d y.d).bind fun c=>ok (.bl c)
 |.chn o p a b c,ρ=>(ev Γ a ρ).bind fun x=>(ev Γ b ρ).bind fun y=>(evC o x.d y.d).bind fun k=>if k=true then (ev Γ c ρ).bind fun z=>(evC p y.d z.d).bind fun k'=>ok (.bl k') else ok (.bl false)
 |.bop c es,ρ=>qoo Γ c es ρ
 |.neg a,ρ=>(ev Γ a ρ).bind fun x=>match x.d with
  |.int i=>ok (.int (-i))
  |_=>.bad
 |.tup es,ρ=>(evs Γ es ρ).bind fun r=>dis (fun ds b=>.val (.tup ds) b) r
 |.lst es,ρ=>(evs Γ es ρ).bind fun r=>dis .fre r
 |.idx a i,ρ=>(ev Γ a ρ).bind fun x=>(ev Γ i ρ).bind fun y=>qrt x.d y.d x.b
 |.slc a lo hi,ρ=>(ev Γ a ρ).bind fun x=>(evO Γ lo ρ).bind fun l=>(evO Γ hi ρ).bind fun h=>qvi x.d l h x.b
 |.call f es,ρ=>match Γ.fn[f]? with
  |some g=>(evs Γ es ρ).bind fun r=>(g.2 (r.map ER.d)).bind (qdZ (!r.all ER.isV))
  |none=>.bad
 |.pri p es,ρ=>(evs Γ es ρ).bind fun r=>evP p r
 |.lrng es,ρ=>(evs Γ es ρ).bind fun r=>(qeJ r).bind fun ns=>.ok (.fre (ns.map D.int) true)
 |.mth m o es,ρ=>(ev Γ o ρ).bind fun x=>match x.d with
  |.ins c fs=>match Γ.mt c m with
   |some g=>(evs Γ es ρ).bind fun r=>(g (.ins c fs::r.map ER.d)).bind (qdZ (!r.all ER.isV))
   |none=>.bad
  |_=>.bad
 |.bm1 m o a,ρ=>(ev Γ o ρ).bind fun x=>match x.d with
  |.str s=>(ev Γ a ρ).bind fun y=>evM m s y.d
  |_=>.bad
 |.fld o f,ρ=>(ev Γ o ρ).bind fun x=>match x.d with
  |.ins c fs=>match Γ.fi c f with
   |some k=>match fs[k]? with
    |some d=>.ok (.val d d.flat)
    |none=>.bad
   |none=>.bad
  |_=>.bad
 |.isi a t,ρ=>(ev Γ a ρ).bind fun x=>qt1 x.d t
 |.lc own it tg cnd e,ρ=>(evI Γ it ρ).bind fun xs=>gd (leB xs.xs.length) ((lcl (fun x=>match qdq tg x xs.b (wipeS ρ own) with
   |some ρ'=>noX ((qg7 Γ true cnd ρ').bind fun k=>if k=true then (ev Γ e ρ').bind fun y=>match y with
    |.brw _ _=>.bad
    |y=>.ok (some (y.d,y.b)) else .ok none)
   |none=>.bad) xs.xs).bind fun r=>.ok (.fre r.1 r.2))
 |.lcx own it tg cnd e,ρ=>(evI Γ it ρ).bind fun xs=>gd (leB xs.xs.length) ((lcl (fun x=>match qdq tg x xs.b (wipeS ρ own) with
   |some ρ'=>(qg7 Γ true cnd ρ').bind fun k=>if k=true then (ev Γ e ρ').bind fun y=>match y with
    |.brw _ _=>.bad
    |y=>.ok (some (y.d,y.b)) else .ok none
   |none=>.bad) xs.xs).bind fun r=>.ok (.fre r.1 r.2))
 |.lset a,ρ=>(ev Γ a ρ).bind fun x=>qlD x.d
 |.new k es,ρ=>match Γ.nw[k]? with
  |some g=>(evs Γ es ρ).bind fun r=>(g.2 (r.map ER.d)).bind fun fs=>.ok (.val (.ins g.1 fs) true)
  |none=>.bad
 |.sfd i f,ρ=>match ρ[i]? with
  |some (.slf c fs)=>match Γ.fi c f with
   |some k=>match fs[k]? with
    |some d=>.ok (.val d true)
    |none=>.bad
   |none=>.bad
  |_=>.bad
 |.isc a k,ρ=>(ev Γ a ρ).bind fun x=>qpv (Γ.ck[k]?) (Γ.ik[k]?) x.d
@[simp] def evs (Γ:Env):Exs→List Sl→RE (List ER)
 |.nil,_=>.ok []
 |.cons e es,ρ=>(ev Γ e ρ).bind fun x=>(evs Γ es ρ).bind fun r=>.ok (x.frz::r)
@[simp] def evO (Γ:Env):Exs→List Sl→RE (Option Int)
 |.nil,_=>.ok none
 |.cons e es,ρ=>(ev Γ e ρ).bind fun x=>match x.d with
  |.int i=>.ok (some i)
  |_=>.bad
@[simp] def evT (Γ:Env):Te→List Sl→RE Bool
 |.bop c es,ρ=>qg7 Γ c es ρ
 |.not a,ρ=>(evT Γ a ρ).bind fun k=>.ok (!k)
 |.val e,ρ=>(ev Γ e ρ).bind fun x=>qmS x.d
@[simp] def qg7 (Γ:Env) (c:Bool):Tes→List Sl→RE Bool
 |.nil,_=>.ok c
 |.cons e es,ρ=>(evT Γ e ρ).bind fun k=>if k=c then qg7 Γ c es ρ else .ok k
@[simp] def qoo (Γ:Env) (c:Bool):Exs→List Sl→RE ER
 |.nil,_=>ok (.bl c)
 |.cons e es,ρ=>(ev Γ e ρ).bind fun x=>match x.d with
  |.bl k=>if k=c then qoo Γ c es ρ else ok (.bl k)
  |_=>.bad
@[simp] def evI (Γ:Env):Itx→List Sl→RE Wk
 |.any e,ρ=>(ev Γ e ρ).bind qj1
 |.rng es,ρ=>(evs Γ es ρ).bind fun r=>(qeJ r).bind fun ns=>.ok ⟨ns.map D.int,true,false⟩
 |.zp a b,ρ=>(ev Γ a ρ).bind fun x=>(ev Γ b ρ).bind fun y=>match x.d,y.d with
  |.lst xs,.lst ys=>.ok ⟨List.zipWith (fun u v=>.tup [u,v]) xs ys,x.b&&y.b,x.isB||y.isB⟩
  |_,_=>.bad
 |.en a,ρ=>(ev Γ a ρ).bind fun x=>match x.d with
  |.lst xs=>.ok ⟨xs.zipIdx.map fun p=>.tup [.int p.2,p.1],x.b,x.isB⟩
  |_=>.bad
 |.rv a,ρ=>(ev Γ a ρ).bind fun x=>match x.d with
  |.lst xs=>.ok ⟨xs.reverse,x.b,x.isB⟩
  |_=>.bad
 |.rvr a,ρ=>(ev Γ a ρ).bind fun x=>match x.d with
  |.int n=>gd (qmo n) (.ok ⟨(qfC (0+(((n - 0).toNat:Nat):Int) - 1) (-1) (n - 0).toNat).map D.int,true,false⟩)
  |_=>.bad
end
inductive Pth where
 |var (j:Nat)
 |ix (p:Pth) (k:Nat)
inductive Ch1 where
 |clr (p:Pth)
 |app (p:Pth) (e:Ex)
 |put (p:Pth) (k:Nat) (e:Ex)
inductive Ch where
 |nil
 |one (c:Ch1) (r:Ch)
 |wlk (l:Nat) (p:Pth) (b:List Ch1) (r:Ch)
 |ifs (j:Nat) (b r:Ch)
mutual
def qfm:Ex→Bool
 |.cint _=>true
 |.cstr _=>true
 |.cbl _=>true
 |.cnon=>true
 |.tup es=>qn7 es
 |.lst es=>qn7 es
 |_=>false
def qn7:Exs→Bool
 |.nil=>true
 |.cons e es=>qfm e&&qn7 es
end
@[simp] def D.isRef:D→Bool
 |.lst _=>true
 |.tup _=>true
 |.ins _ _=>true
 |.exc _ _=>true
 |_=>false
def clD (ds:List D):Nat:=if ds.isEmpty then 0 else if ds.any D.isRef then 2 else 1
abbrev Zs:=List Nat × Nat
def qpP (τ:List (Nat × D)) (Z:Zs):Pth→Option D
 |.var j=>τ.lookup j
 |.ix p k=>match qpP τ Z p with
  |some (.tup ds)=>ds[k]?
  |some (.lst ds)=>if clD ds∈Z.1 then none else ds[k]?
  |_=>none
def qmt (τ:List (Nat × D)) (Z:Zs):Ch1→Option Zs
 |.clr p=>match qpP τ Z p with
  |some (.lst ds)=>some (clD ds::Z.1,Z.2)
  |_=>none
 |.app p e=>match qpP τ Z p with
  |some (.lst ds)=>if (qfm e&&leB (ds.length+(Z.2+1)))=true then some (clD ds::Z.1,Z.2+1) else none
  |_=>none
 |.put p k e=>match qpP τ Z p with
  |some (.lst ds)=>if clD ds∈Z.1 then none else if (qfm e&&decide (k<ds.length))=true then some (clD ds::Z.1,Z.2) else none
  |_=>none
def qoF (τ:List (Nat × D)):List Ch1→Zs→Option Zs
 |[],Z=>some Z
 |c::cs,Z=>(qmt τ Z c).bind (qoF τ cs)
def qpL (f:D→Zs→Option Zs):List D→Zs→Option Zs
 |[],Z=>some Z
 |d::ds,Z=>(f d Z).bind (qpL f ds)
def drp (l:Nat) (τ:List (Nat × D)):List (Nat × D):=τ.filter fun e=>e.1 != l
def qm0 (ls:List Nat) (τ:List (Nat × D)):List (Nat × D):=τ.filter fun e=>!ls.contains e.1
def Ch.tgs:Ch→List Nat
 |.nil=>[]
 |.one _ r=>r.tgs
 |.wlk l _ _ r=>l::r.tgs
 |.ifs _ b r=>b.tgs++r.tgs
def chg:Ch→List (Nat × D)→Zs→Option Zs
 |.nil,_,Z=>some Z
 |.one c r,τ,Z=>(qmt τ Z c).bind (chg r τ)
 |.wlk l p b r,τ,Z=>match qpP τ Z p with
  |some (.lst ds)=>(qpL (fun d Z=>qoF ((l,d)::drp l τ) b Z) ds Z).bind fun Z'=>if clD ds∈Z'.1 then none else chg r (drp l τ) Z'
  |_=>none
 |.ifs j b r,τ,Z=>match τ.lookup j with
  |some d=>if d.isNon=true then chg r (qm0 b.tgs τ) Z else (chg b τ Z).bind (chg r (qm0 b.tgs τ))
  |none=>none
def Ch1.len:List Ch1→Nat:=List.length
def Ch.len:Ch→Nat
 |.nil=>0
 |.one _ r=>r.len+1
 |.wlk _ _ _ r=>r.len+1
 |.ifs _ _ r=>r.len+1
def ent (k:Nat):Sl→Sl
 |.val d b=>if (b||d.flat)=true then .val d b else .fxd d k
 |.own ds b=>.own ds b
 |.fxd d _=>.fxd d k
 |_=>.non
def qlv:Nat→List Sl→List Sl
 |_,[]=>[]
 |k,q::qs=>ent k q::qlv (k+1) qs
def ext (k:Nat) (q:Sl):Sl→Sl
 |.val d b=>if (b||d.flat)=true then .val d b else .non
 |.own ds b=>if (b||D.flats ds)=true then .own ds b else .non
 |.fxd _ j=>if j=k then (match q with
  |.val d b=>.val d b
  |.fxd d m=>.fxd d m
  |_=>.non) else .non
 |_=>.non
def qkv (ρ:List Sl):Nat→List Sl→List Sl
 |_,[]=>[]
 |k,r::rs=>ext k (ρ[k]?.getD .non) r::qkv ρ (k+1) rs
def qmA:ER→Option D
 |.val d b=>if (b||d.flat)=true then some d else none
 |.fre ds b=>if (b||D.flats ds)=true then some (.lst ds) else none
 |.brw _ _=>none
mutual
def noK (k:Nat):D→Bool
 |.lst ds=>(clD ds != k)&&qrU k ds
 |.tup ds=>qrU k ds
 |_=>true
def qrU (k:Nat):List D→Bool
 |[]=>true
 |d::ds=>noK k d&&qrU k ds
end
def qwF:ER→Option (List D × List D)
 |.val (.tup [.lst ds,.lst es]) true=>if (D.flats ds&&(clD ds != clD es)&&qrU (clD es) es)=true then some (ds,es) else none
 |_=>none
inductive Tr where
 |ex (e:Ex)
 |as (j:Nat) (e:Ex)
 |iff (t:Te) (a b:Tr)
mutual
inductive Sm where
 |nev
 |rse (k:Nat)
 |tryx (k i j:Nat) (b:Tr)
 |asg (i:Nat) (e:Ex)
 |own (i:Nat) (e:Ex)
 |put (i:Nat) (ix e:Ex)
 |app (i:Nat) (e:Ex)
 |clr (i:Nat)
 |expr (e:Ex)
 |ret (e:Ex)
 |retN
 |pas
 |brk
 |cnt
 |iff (c:Te) (a b:Sms)
 |for (it:Itx) (tg:List Nat) (b:Sms)
 |whl (c:Te) (b:Sms)
 |apop (i j:Nat) (ix:Ex)
 |fset (f:Nat) (e:Ex)
 |row (i:Nat) (es:Exs)
inductive Sms where
 |nil
 |cons (s:Sm) (ss:Sms)
 |frz (i:Nat) (ss:Sms)
 |hav (i f:Nat) (es:Exs) (rd:Sms) (cs:Ch) (ss:Sms)
end
inductive Out where
 |bad | nx (ρ:List Sl) | brk (ρ:List Sl) | cnt (ρ:List Sl) | ret (er:ER) | exc (c:Nat) (fs:List D)
def RE.out {α:Type}:RE α→(α→Out)→Out
 |.bad,_=>.bad
 |.ok a,f=>f a
 |.exc c fs,_=>.exc c fs
@[simp] theorem RE.out_ok {α:Type} (a:α) (f:α→Out):(RE.ok a).out f=f a:=rfl
@[simp] theorem RE.out_bad {α:Type} (f:α→Out):(RE.bad:RE α).out f=.bad:=rfl
@[simp] theorem RE.out_exc {α:Type} (c:Nat) (fs:List D) (f:α→Out):(RE.exc c fs:RE α).out f=.exc c fs:=rfl
def gdO (b:Bool) (o:Out):Out:=match b with
 |true=>o
 |false=>.bad
@[simp] theorem qdw (o:Out):gdO true o=o:=rfl
theorem qbE (b:Bool) (o:Out):gdO b o=if b=true then o else .bad:=by cases b<;>rfl
def Out.seq:Out→(List Sl→Out)→Out
 |.nx ρ,f=>f ρ
 |o,_=>o
@[simp] theorem Out.seq_nx (ρ:List Sl) (f:List Sl→Out):(Out.nx ρ).seq f=f ρ:=rfl
@[simp] theorem Out.seq_ret (e:ER) (f:List Sl→Out):(Out.ret e).seq f=.ret e:=rfl
@[simp] theorem Out.seq_brk (ρ:List Sl) (f:List Sl→Out):(Out.brk ρ).seq f=.brk ρ:=rfl
@[simp] theorem Out.seq_cnt (ρ:List Sl) (f:List Sl→Out):(Out.cnt ρ).seq f=.cnt ρ:=rfl
@[simp] theorem Out.seq_bad (f:List Sl→Out):Out.bad.seq f=.bad:=rfl
@[simp] theorem Out.seq_exc (c:Nat) (fs:List D) (f:List Sl→Out):(Out.exc c fs).seq f=.exc c fs:=rfl
def qfS (f:D→List Sl→Out):List D→List Sl→Out
 |[],ρ=>.nx ρ
 |x::xs,ρ=>match f x ρ with
  |.nx ρ'=>qfS f xs ρ'
  |.cnt ρ'=>qfS f xs ρ'
  |.brk ρ'=>.nx ρ'
  |o=>o
def qgo (c:List Sl→RE Bool) (f:List Sl→Out):Nat→List Sl→Out
 |0,_=>.bad
 |n+1,ρ=>(c ρ).out fun k=>if k=true then (match f ρ with
  |.nx ρ'=>qgo c f n ρ'
  |.cnt ρ'=>qgo c f n ρ'
  |.brk ρ'=>.nx ρ'
  |o=>o) else .nx ρ
def qtH:Nat:=1000000000
@[simp] def quT:ER→ER
 |.brw ds b=>.fre ds b
 |e=>e
def qdh (ρ:List Sl) (i:Nat) (f:List D→Bool→Out):Out:=
 match ρ[i]? with
 |some (.own ds b)=>f ds b
 |_=>.bad
def qwI (ρ:List Sl) (i:Nat) (f:List (Int × D)→Bool→Out):Out:=
 match ρ[i]? with
 |some (.dct m b)=>f m b
 |_=>.bad
def qwH (ρ:List Sl) (i k:Nat) (f:List (List D)→List D→Out):Out:=
 match ρ[i]? with
 |some (.row dss)=>match dss[k]? with
  |some ds=>f dss ds
  |none=>.bad
 |_=>.bad
def evF (Γ:Env):Exs→List Sl→RE (List (List D))
 |.nil,_=>.ok []
 |.cons e es,ρ=>(ev Γ e ρ).bind fun x=>match x with
  |.fre ds _=>if D.flats ds=true then (evF Γ es ρ).bind fun r=>.ok (ds::r) else .bad
  |_=>.bad
def qwE (ρ:List Sl) (i:Nat) (f:D→Bool→Out):Out:=
 match ρ[i]? with
 |some (.val d b)=>f d b
 |_=>.bad
@[simp] def held (er:ER) (f:D→Bool→Out):Out:=
 match er with
 |.brw _ _=>.bad
 |.val d b=>f d b
 |.fre ds b=>f (.lst ds) b
def onB (o:Option (List Sl)) (k:List Sl→Out):Out:=
 match o with
 |some ρ=>k ρ
 |none=>.bad
@[simp] def heldF (er:ER) (f:D→Out):Out:=
 match er with
 |.brw _ _=>.bad
 |.val d b=>gdO (b||d.flat) (f d)
 |.fre ds b=>gdO (b||D.flats ds) (f (.lst ds))
def qpc:List Sl→Bool
 |[]=>true
 |.slf _ _::_=>false
 |_::ρ=>qpc ρ
def qqd (ρ:List Sl) (f:Nat→List D→List Sl→Out):Out:=
 match ρ with
 |.slf c fs::r=>if qpc r=true then f c fs r else .bad
 |_=>.bad
@[simp] theorem qqb (ρ:List Sl) (k:List Sl→Out):onB (some ρ) k=k ρ:=rfl
@[simp] theorem quo (k:List Sl→Out):onB none k=.bad:=rfl
@[simp] def qva:List Nat→List ER→List Sl→Out
 |[],[],ρ=>.nx ρ
 |i::tg,e::es,ρ=>held e fun d b=>qva tg es (ρ.set i (.val d b))
 |_,_,_=>.bad
def Out.hv (o:Out) (ρ:List Sl) (i:Nat) (d:D) (cs:Ch) (f:List Sl→Out):Out:=
 match o with
 |.nx ρ'=>(match ρ'[i]? with
  |some (.fxd _ k)=>gdO (k == i&&cs.tgs.all fun l=>Nat.blt l ρ'.length) (match chg cs [(i,d)] ([],0) with
   |some _=>f (wipeS (qkv (ρ.set i .non) 0 ρ') cs.tgs)
   |none=>.bad)
  |_=>.bad)
 |.ret er=>(match qmA er with
  |some _=>.ret er
  |none=>.bad)
 |.exc c fs=>.exc c fs
 |_=>.bad
def trB (Γ:Env):Tr→List Sl→RE (List Sl)
 |.ex e,ρ=>(ev Γ e ρ).bind fun _=>.ok ρ
 |.as j e,ρ=>(ev Γ e ρ).bind fun x=>match x with
  |.brw _ _=>.bad
  |.val d b=>.ok (ρ.set j (.val d b))
  |.fre ds b=>.ok (ρ.set j (.val (.lst ds) b))
 |.iff t a b,ρ=>(evT Γ t ρ).bind fun k=>if k=true then trB Γ a ρ else trB Γ b ρ
def trX (g:Option (Nat→Option Bool)) (i j:Nat) (ρ:List Sl):RE (List Sl)→Out
 |.ok ρ'=>.nx ρ'
 |.bad=>.bad
 |.exc c fs=>match g with
  |some g=>match g c with
   |some true=>if i=j then .bad else (match fs with
    |[]=>.nx ((ρ.set j (.val (.exc c []) true)).set i .non)
    |_=>.bad)
   |some false=>.exc c fs
   |none=>.bad
  |none=>.bad
mutual
@[simp] def run (Γ:Env):Sm→List Sl→Out
 |.nev,_=>.bad
 |.rse k,_=>match Γ.xk[k]? with
  |some c=>.exc c []
  |none=>.bad
 |.tryx k i j b,ρ=>trX Γ.ck[k]? i j ρ (trB Γ b ρ)
 |.asg i e,ρ=>(ev Γ e ρ).out fun x=>held x fun d b=>.nx (ρ.set i (.val d b))
 |.own i e,ρ=>(ev Γ e ρ).out fun x=>match x with
  |.fre ds b=>.nx (ρ.set i (.own ds b))
  |.val .non _=>.nx (ρ.set i (.val .non true))
  |_=>.bad
 |.put i ix e,ρ=>(ev Γ e ρ).out fun x=>held x fun d b=>qdh ρ i fun ds c=>(ev Γ ix ρ).out fun k=>match k.d with
  |.int k=>match ixN ds.length k with
   |some j=>.nx (ρ.set i (.own (ds.set j d) (b&&c)))
   |none=>.bad
  |_=>.bad
 |.app i e,ρ=>qdh ρ i fun ds c=>(ev Γ e ρ).out fun x=>held x fun d b=>gdO (leB (ds.length+1)) (.nx (ρ.set i (.own (ds++[d]) (b&&c))))
 |.clr i,ρ=>qdh ρ i fun _ _=>.nx (ρ.set i (.own [] true))
 |.expr e,ρ=>(ev Γ e ρ).out fun _=>.nx ρ
 |.ret e,ρ=>(ev Γ e ρ).out fun x=>.ret (quT x)
 |.retN,_=>.ret (.val .non true)
 |.pas,ρ=>.nx ρ
 |.brk,ρ=>.brk ρ
 |.cnt,ρ=>.cnt ρ
 |.iff c a b,ρ=>(evT Γ c ρ).out fun k=>if k=true then qao Γ a ρ else qao Γ b ρ
 |.for it tg b,ρ=>(evI Γ it ρ).out fun w=>if w.own=true then .bad else qfS (fun x ρ=>onB (qdq tg x w.b ρ) fun ρ'=>qao Γ b ρ') w.xs ρ
 |.apop i j ix,ρ=>if i=j then .bad else qdh ρ i fun ds c=>qdh ρ j fun es c2=>(ev Γ ix ρ).out fun k=>match k.d with
  |.int k=>match ixN es.length k with
   |some m=>match es[m]? with
    |some d=>gdO (leB es.length) (gdO (leB (ds.length+1)) (.nx ((ρ.set j (.own (es.eraseIdx m) c2)).set i (.own (ds++[d]) (c2&&c)))))
    |none=>.bad
   |none=>.bad
  |_=>.bad
 |.fset f e,ρ=>(ev Γ e ρ).out fun x=>heldF x fun d=>qqd ρ fun c fs r=>match Γ.fi c f with
  |some k=>if k=fs.length then gdO (Nat.ble k 900) (.nx (.slf c (fs++[d])::r)) else .bad
  |none=>.bad
 |.row i es,ρ=>(evF Γ es ρ).out fun dss=>gdO (leB dss.length) (.nx (ρ.set i (.row dss)))
 |.whl c b,ρ=>qgo (fun ρ=>evT Γ c ρ) (fun ρ=>qao Γ b ρ) qtH ρ
@[simp] def qao (Γ:Env):Sms→List Sl→Out
 |.nil,ρ=>.nx ρ
 |.cons s ss,ρ=>(run Γ s ρ).seq fun ρ'=>qao Γ ss ρ'
 |.frz i ss,ρ=>qdh ρ i fun ds b=>qao Γ ss (ρ.set i (.val (.lst ds) b))
 |.hav i f es rd cs ss,ρ=>match Γ.fn[f]? with
  |some g=>(evs Γ es ρ).out fun r=>(g.2 (r.map ER.d)).out fun er=>match qmA er with
   |some d=>gdO (Nat.blt i ρ.length) ((qao Γ rd ((qlv 0 ρ).set i (.fxd d i))).hv ρ i d cs fun ρ2=>qao Γ ss ρ2)
   |none=>.bad
  |none=>.bad
end
@[simp] def Out.fin:Out→RE ER
 |.ret er=>.ok er
 |.nx _=>ok .non
 |.exc c fs=>.exc c fs
 |_=>.bad
def qcv (Γ:Env) (n m:Nat) (b:Sms) (ds:List D):RE ER:=
 if ds.length=n then (qao Γ b (ds.map (fun d=>Sl.val d d.flat)++List.replicate m .non)).fin else .bad
def qlY (Γ:Env) (c nf n m:Nat) (b:Sms) (ds:List D):RE (List D):=
 if ds.length=n then (match qao Γ b (.slf c []::(ds.map (fun d=>Sl.val d d.flat)++List.replicate m .non)) with
  |.nx (.slf c' fs::_)=>if c'=c then (if fs.length=nf then .ok fs else .bad) else .bad
  |.exc c fs=>.exc c fs
  |_=>.bad) else .bad
def Sms.hd:Sms→Sm
 |.cons s _=>s
 |_=>.nev
def Sms.tl:Sms→Sms
 |.cons _ ss=>ss
 |.frz _ ss=>ss
 |.hav _ _ _ _ _ ss=>ss
 |.nil=>.nil
def Sms.len:Sms→Nat
 |.nil=>0
 |.cons _ ss=>ss.len+1
 |.frz _ ss=>ss.len
 |.hav _ _ _ rd cs ss=>rd.len+(cs.len+(ss.len+1))
def Sm.bd:Sm→Sms
 |.for _ _ b=>b
 |.whl _ b=>b
 |.iff _ a _=>a
 |_=>.nil
def Out.fst:Out→Option (Sl × Nat)
 |.nx (t::r)=>some (t,r.length)
 |_=>none
end Cm
namespace Cm
open PySem PySem.Spec PyProof.Rows L2
section
variable (C:Ctx)
def res {α:Type} (σ:L2.St) (P N H:Hp) (r:RE α) (K:α→Hp→Hp→Hp→Prop):Prop:=
 match r with
 |.bad=>False
 |.ok a=>∀P' N' H',Adv P N H P' N' H'→K a P' N' H'
 |.exc c fs=>∀d P' N' H',Adv P N H P' N' H'→ExR C P' N' H' fs d→C.W (.ref (C.G.ca c)) d σ H'
def kE (H:Hp) (Q:VK):ER→Hp→Hp→Hp→Prop:=fun er P' N' H'=>∀v,ERr C P' N' H' H er v→Q v H'
def tE (g:List Sl→RE ER):TE:=fun σ H Q=>∃ρ P N,SR C P N H ρ σ∧res C σ P N H (g ρ) (kE C H Q)
def tT (g:List Sl→RE Bool):TT:=fun σ H Q=>∃ρ P N,SR C P N H ρ σ∧res C σ P N H (g ρ) fun k _ _ H'=>Q k H'
def tA (g:List Sl→RE (List ER)):TA:=fun σ H Q=>∃ρ P N,SR C P N H ρ σ∧res C σ P N H (g ρ) fun es P' N' H'=>∀vs,ERs C P' N' H' H es vs→Q vs H'
def tO (g:List Sl→RE (Option Int)):TO:=fun σ H Q=>∃ρ P N,SR C P N H ρ σ∧res C σ P N H (g ρ) fun k _ _ H'=>Q k H'
end
section
variable {C:Ctx} {σ:L2.St} {P N H P1 N1 H1:Hp} {α β:Type} {K K':α→Hp→Hp→Hp→Prop}
theorem res.adv {r:RE α} (a:Adv P N H P1 N1 H1) (h:res C σ P N H r K):res C σ P1 N1 H1 r K:=by
 cases r with
 |bad=>exact h
 |ok x=>exact fun P' N' H' b=>h P' N' H' (a.trans b)
 |exc c fs=>exact fun d P' N' H' b=>h d P' N' H' (a.trans b)
theorem res.mono {r:RE α} (h:res C σ P N H r K) (f:∀a P' N' H',r=.ok a→Adv P N H P' N' H'→K a P' N' H'→K' a P' N' H'):res C σ P N H r K':=by
 cases r with
 |bad=>exact h
 |ok x=>exact fun P' N' H' b=>f _ _ _ _ rfl b (h P' N' H' b)
 |exc c fs=>exact h
theorem res.bind {r:RE α} {f:α→RE β} {K:β→Hp→Hp→Hp→Prop} (h:res C σ P N H (r.bind f) K):res C σ P N H r fun a P1 N1 H1=>res C σ P1 N1 H1 (f a) K:=by
 cases r with
 |bad=>exact h
 |ok x=>exact fun P' N' H' b=>res.adv b h
 |exc c fs=>exact h
theorem res.now {a:α} (r:Reg C P N H) (h:res C σ P N H (.ok a) K):K a P N H:=h _ _ _ (Adv.refl r.pH r.nH)
theorem res.val {H0:Hp} {Q:VK} {d:D} {b:Bool} {v:V} (r:Reg C P N H) (h:res C σ P N H (.ok (.val d b)) (kE C H0 Q)) (x:RepB C P N b d v):Q v H:=h _ _ _ (Adv.refl r.pH r.nH) v x
theorem res.fre {H0:Hp} {Q:VK} {ds:List D} {b:Bool} {xs:List V} {p:Addr} (r:Reg C P N H) (h:res C σ P N H (.ok (.fre ds b)) (kE C H0 Q)) (e:L2.Same H0 H) (x:RepsB C P N b ds xs) (hp:H p=none):Q (.ref p) (upd H p (.lst xs)):=
 h P N (upd H p (.lst xs)) ((Adv.refl r.pH r.nH).heap (qaA hp)) _ ⟨p,xs,rfl,upd_same,e.free hp,r.pH.free hp,r.nH.free hp,x⟩
theorem res.tup {H0:Hp} {Q:VK} {ds:List D} {b:Bool} {xs:List V} {p:Addr} (r:Reg C P N H) (h:res C σ P N H (.ok (.val (.tup ds) b)) (kE C H0 Q)) (x:RepsB C P N b ds xs) (hp:H p=none):Q (.ref p) (upd H p (.tup xs)):=
 h (upd P p (.tup xs)) N (upd H p (.tup xs)) ((Adv.refl r.pH r.nH).newP hp) _ ⟨p,xs,rfl,.inl (.inl upd_same),RepsB.adv (qaA (r.pH.free hp)) (L2.Same.refl _) x⟩
theorem ERw.int {i:Int} {b:Bool} {v:V} (h:ERw C P N H (.int i) b v):v=.int i:=h
theorem ERw.bl {i:Bool} {b:Bool} {v:V} (h:ERw C P N H (.bl i) b v):v=.bl i:=h
theorem ERw.str {s:List Nat} {b:Bool} {v:V} (h:ERw C P N H (.str s) b v):v=.str ⟨s.toArray⟩:=h
theorem ERw.lst {ds:List D} {b:Bool} {v:V} (h:ERw C P N H (.lst ds) b v):∃p xs,v=.ref p∧SqL C.G.K H p xs∧RepsB C P N b ds xs:=h
theorem ERw.tup {ds:List D} {b:Bool} {v:V} (r:Reg C P N H) (h:ERw C P N H (.tup ds) b v):∃p xs,v=.ref p∧SqT C.G.K H p xs∧RepsB C P N b ds xs:=by
 obtain⟨a,xs,e,h1,h2⟩:=h
 exact⟨a,xs,e,Same.seqT r.pH h1,h2⟩
theorem ERw.dp {d:D} {b:Bool} {v:V} {n:Nat} (r:Reg C P N H) (h:ERw C P N H d b v) (f:d.fit n=true):Dp C.G.K H v d.py:=by
 have hl:∀a xs,LNb C.G.K P N C.R b a xs→SqL C.G.K H a xs:=LNb.seq r.pH r.nH r.rH
 cases d with
 |lst ds =>
  obtain⟨p,xs,rfl,h1,h2⟩:=h
  simp only[D.fit,Bool.and_eq_true] at f
  exact .lst h1 (Reps.dp r.pH hl ds xs _ f.2 h2)
 |_=>exact Rep.dp r.pH hl _ v n f h
def qvK (C:Ctx) (op:D→D→Bool→RE ER) (r:R2):Prop:=∀{P N H H0:Hp} {σ:L2.St} {x y:D} {b c:Bool} {v u:V} {Q:VK},Reg C P N H→ERw C P N H x b v→ERw C P N H y c u→L2.Same H0 H →
 res C σ P N H (op x y (b&&c)) (kE C H0 Q)→r v u H Q
theorem quf {X:Cx} {op:Operator} {f:D→D→Bool→RE ER} {r:R2} {a b:Expr} {ga gb:List Sl→RE ER} {pos:Pos} (ho:OpR X (binaryOp op) r) (hf:qvK C f r) (ha:PE X a (tE C ga)) (hb:PE X b (tE C gb)) :
  PE X (.BinOp a op b pos) (tE C fun ρ=>(ga ρ).bind fun x=>(gb ρ).bind fun y=>f x.d y.d (x.b&&y.b)):=by
 refine⟨fun pins s σ H Q I h=>(pe_op ho ha hb).run pins s σ H Q I ?_⟩
 obtain⟨ρ,P,N,S,h⟩:=h
 refine⟨ρ,P,N,S,h.bind.mono fun x P1 N1 H1 _ a1 h1 v rv=>⟨ρ,P1,N1,S.adv a1,h1.bind.mono fun y P2 N2 H2 _ a2 h2 u ru=>?_⟩⟩
 have r2:=(S.adv (a1.trans a2)).reg
 exact hf r2 ((rv.adv a2).w r2) (ru.w r2) (a1.trans a2).hh h2
def qwz (C:Ctx) (op:D→D→RE Bool) (r:R2):Prop:=∀{P N H:Hp} {x y:D} {b c:Bool} {v u:V} {Q:VK} {k:Bool},Reg C P N H→ERw C P N H x b v→ERw C P N H y c u→op x y=.ok k→Q (.bl k) H→r v u H Q
def qhM {α:Type}:RE α→Prop
 |.exc _ _=>False
 |_=>True
theorem qnm (x y:D):qhM (qoU x y):=by
 unfold qoU
 split<;>first | trivial | (split<;>trivial)
theorem qnG (x y:D):qhM (qnO x y):=by
 unfold qnO
 split
 ·split<;>trivial
 ·split<;>trivial
 ·split<;>trivial
 ·trivial
theorem qmZ (o:Cop) (x y:D):qhM (evC o x y):=by
 cases o<;>simp only[evC]
 ·exact qnm x y
 ·have:=qnm x y
  cases h:qoU x y<;>simp_all[qhM]
 ·split<;>trivial
 ·split<;>trivial
 ·split<;>trivial
 ·split<;>trivial
 ·exact qnG x y
 ·have:=qnG x y
  cases h:qnO x y<;>simp_all[qhM]
end
end Cm
namespace Cm
open PySem PySem.Spec PyProof.Rows L2
section
variable {X:Cx}
def qtK (K:PySem.W.Frag):R2:=fun x y H Q=>∃l b xs zs,x=.ref l∧y=.ref b∧SqL K H l xs∧SqL K H b zs∧xs.length+zs.length≤sizeLine∧∀p,H p=none→Q (.ref p) (upd H p (.lst (xs++zs)))
theorem qrF:OpR X (binaryOp .Add) (qtK X.K):=by
 intro pins s σ H x y v u Q I rx ry hh
 obtain⟨l,b,xs,zs,rfl,rfl,hH,hB,hz,qq⟩:=hh
 cases rx
 cases ry
 obtain⟨its,r,p,_⟩:=I.list hH
 obtain⟨its2,r2,p2,_⟩:=I.list hB
 obtain⟨⟨cls,dd,data,sl⟩,n,ho,hc,hdd,hd⟩:=p
 obtain⟨⟨cls2,dd2,data2,sl2⟩,n2,ho2,hc2,hdd2,hd2⟩:=p2
 simp only at hc hd hdd hc2 hd2 hdd2
 subst hc hd hdd hc2 hd2 hdd2
 have l1:=r.length
 have l2:=r2.length
 refine concat_meets ⟨_,ho,rfl⟩ ⟨_,ho2,rfl⟩ noFill_list_add seq_list_add PySem.F.slot_list_add PySem.F.entry_list_add (PySem.F.args_list_add_2 _ _) (list_addW l b its.toArray its2.toArray n n2 _ _ sl sl2 (by simp only[List.size_toArray];omega)) ⟨ho,ho2,?_⟩
 have ea:its.toArray++its2.toArray=(its++its2).toArray:=by simp
 rw[ea]
 exact⟨.ref _,_,I.lnew (t':=s.toks) (r.append r2) (by rw[List.length_append];omega),rfl,qq _ I.fresh⟩
def qtj (K:PySem.W.Frag):R2:=fun x y H Q=>∃l k xs,x=.ref l∧y=.int k∧SqL K H l xs ∧ -(2 ^ 63)≤k∧k<2 ^ 63∧xs.length*k.toNat≤sizeLine ∧
 ∀p,H p=none→Q (.ref p) (upd H p (.lst (List.replicate k.toNat xs).flatten))
theorem qr8:OpR X (binaryOp .Mult) (qtj X.K):=by
 intro pins s σ H x y v u Q I rx ry hh
 obtain⟨l,k,xs,rfl,rfl,hH,h1,h2,hz,qq⟩:=hh
 cases rx
 obtain⟨t,rfl⟩:=ry
 obtain⟨its,r,p,_⟩:=I.list hH
 obtain⟨⟨cls,dd,data,sl⟩,n,ho,hc,hdd,hd⟩:=p
 simp only at hc hd hdd
 subst hc hd hdd
 have l1:=r.length
 have hsz:its.length*k.toNat≤16777216:=by rw[←l1];exact hz
 refine wpAny_binaryOp_repeat_ref (T:="list") (U:="int") (by decide) ⟨_,ho,rfl⟩ (fun s'=>typeIs_int s' k t) noFill_list_mul F.fills_int_mul F.slot_int_rmul repeat_list F.slot_int_index.lookup
  (call_meets F.slot_int_rmul (typeIs_int s k t) F.entry_int_rmul (F.args_int_rmul_2 _ _) (lm_int_rmul_list_any k t l its.toArray n _ sl)
   ⟨ho,rfl,⟨_,ho,rfl⟩,call_meets F.slot_list_mul ⟨_,ho,rfl⟩ F.entry_list_mul (F.args_list_mul_2 _ _)
    (lm_list_mul_any l its.toArray n _ sl k t (by simp[Builtin.List.listFitsIndex];omega) (by simp only[List.size_toArray];omega) (by simp[Builtin.List.listTooLong,sizeLine];omega))
    ⟨ho,?_⟩⟩)
 rw[listMul_foldl_if]
 exact⟨.ref _,_,I.lnew (t':=s.toks) (r.rep k.toNat) (by rw[PyProof.Rows.lm_len_rep_flat,Nat.mul_comm];exact hz),rfl,qq _ I.fresh⟩
theorem qms {n:Nat} (h:n≤16777216):Builtin.Str.tooLong n=false:=by
 unfold Builtin.Str.tooLong
 exact decide_eq_false (show ¬n>16777216 by omega)
def rRepT:R2:=fun x y H Q=>∃(i:Str) (k:Int),x=.str i∧y=.int k∧1≤k∧k<2 ^ 63∧1≤i.length∧i.length*k.toNat≤sizeLine∧Q (.str ⟨(List.replicate k.toNat i.cps).foldl (· ++ ·) #[]⟩) H
theorem qrp:OpR X (binaryOp .Mult) rRepT:=by
 intro pins s σ H x y v u Q I rx ry h
 obtain⟨i,k,rfl,rfl,k1,k2,l1,hz,q⟩:=h
 obtain⟨t,rfl⟩:=rx
 obtain⟨t',rfl⟩:=ry
 have hz:i.length*k.toNat≤16777216:=hz
 have tl:Builtin.Str.tooLong (i.length*k.toNat)=false:=qms hz
 refine P.mul_str (by rw[decide_eq_false (by omega),decide_eq_false (by omega)];rfl) (fun _ _ hb=>?_) (fun _ _=>tl) ?_
 ·have e:((i.length*k.toNat:Nat):Int)=(i.length:Int)*k:=by rw[Int.natCast_mul,Int.toNat_of_nonneg (by omega)]
  have h3:(2 ^ 63 - 1) / k<(i.length:Int):=hb
  have h4:(2:Int) ^ 63 - 1<(i.length:Int)*k:=(Int.ediv_lt_iff_lt_mul (by omega)).mp h3
  rw[←e] at h4
  omega
 ·rw[if_neg (by omega)]
  by_cases e:k=1
  ·subst e
   rw[if_pos (by simp)]
   have eq:(⟨(List.replicate (1:Int).toNat i.cps).foldl (· ++ ·) #[]⟩:Str)=i:=by
    show(⟨#[]++i.cps⟩:Str)=i
    rw[Array.empty_append]
   rw[eq] at q
   exact⟨.str i,H,I,⟨_,rfl⟩,q⟩
  ·rw[if_neg (by simp;omega)]
   exact⟨by
    have:=fits_reps (x:=i) (k:=k.toNat) tl
    exact this,⟨.str _,H,I.tok _,⟨_,rfl⟩,q⟩⟩
end
def qvE:Bop→Operator
 |.add=>.Add | .sub=>.Sub | .mul=>.Mult | .fdv=>.FloorDiv | .mdl=>.Mod | .pow=>.Pow | .shl=>.LShift | .shr=>.RShift | .and=>.BitAnd | .or=>.BitOr
def qvw (K:PySem.W.Frag):Bop→R2
 |.add=>fun x y H Q=>(rI0 (fun i j=>.int (i+j)) x y H Q∨(fun x y H Q=>∃i j,x=.str i∧y=.str j∧i.length+j.length≤sizeLine∧Q (.str (i++j)) H:R2) x y H Q)∨qtK K x y H Q
 |.sub=>rI0 fun i j=>.int (i - j)
 |.mul=>fun x y H Q=>(rI CMul (fun i j=>.int (i*j)) x y H Q∨rI CMulX (fun i j=>.int (i*j)) x y H Q)∨(qtj K x y H Q∨rRepT x y H Q)
 |.fdv=>rI CDivN fun i j=>.int (i.fdiv j)
 |.mdl=>rI (fun _ j=>j≠0) fun i j=>.int (i.fmod j)
 |.pow=>rI CPow fun i j=>.int (i ^ j.toNat)
 |.shl=>rI CPow fun i j=>.int (i*2 ^ j.toNat)
 |.shr=>rI (fun _ j=>0≤j) fun i j=>.int (i / 2 ^ j.toNat)
 |.and=>rI0 fun i j=>.int (Builtin.bitAnd i j)
 |.or=>rI0 fun i j=>.int (Builtin.bitOr i j)
theorem qs7 {X:Cx}:∀o,OpR X (binaryOp (qvE o)) (qvw X.K o)
 |.add=>(op_add.or op_add_str).or qrF
 |.sub=>op_sub
 |.mul=>(op_mul.or op_mulX).or (qr8.or qrp)
 |.fdv=>op_fdivN
 |.mdl=>op_modN
 |.pow=>op_pow
 |.shl=>op_shl
 |.shr=>op_shr
 |.and=>op_and
 |.or=>op_or
theorem qqU (s t:List Nat):(⟨s.toArray⟩:Str)++(⟨t.toArray⟩:Str)=⟨(s++t).toArray⟩:=by
 show(⟨s.toArray++t.toArray⟩:Str)=⟨(s++t).toArray⟩
 simp
theorem qbU (s:List Nat):(⟨s.toArray⟩:Str).length=s.length:=by
 show s.toArray.size=s.length
 simp
theorem RepsB.rep {C:Ctx} {P N:Hp} {b:Bool} {ds:List D} {vs:List V} (h:RepsB C P N b ds vs):∀k,RepsB C P N b (List.replicate k ds).flatten (List.replicate k vs).flatten
 |0=>rfl
 |k+1=>by simpa[List.replicate_succ] using Reps.append h (RepsB.rep h k)
theorem qrV (s:List Nat) (n:Nat):(⟨(List.replicate n (⟨s.toArray⟩:Str).cps).foldl (· ++ ·) #[]⟩:Str)=⟨((List.replicate n s).flatten).toArray⟩:=by
 have go:∀(n:Nat) (a:Array Nat),(List.replicate n s.toArray).foldl (· ++ ·) a=a++((List.replicate n s).flatten).toArray:=fun n=>by
  induction n with
  |zero=>intro a;simp
  |succ n ih=>intro a;rw[List.replicate_succ,List.foldl_cons,ih,List.replicate_succ,List.flatten_cons];simp
 show(⟨(List.replicate n s.toArray).foldl (· ++ ·) #[]⟩:Str)=_
 rw[go]
 simp
theorem qtk {C:Ctx} (o:Bop):qvK C (evB o) (qvw C.G.K o):=by
 intro P N H H0 σ x y b c v u Q r hx hy e h
 unfold evB at h
 simp only[qeM,qbE,qas,qbt,qbA,qbz,qbJ,qbu,qa4,qbs] at h
 cases o<;>simp only at h<;>split at h<;>try exact h.elim
 ·cases hx.int;cases hy.int
  exact .inl (.inl ⟨_,_,rfl,rfl,h.val r rfl⟩)
 ·cases hx.str;cases hy.str
  split at h
  ·rename_i hl
   refine .inl (.inr ⟨_,_,rfl,rfl,?_,?_⟩)
   ·rw[qbU,qbU];exact hl
   ·rw[qqU];exact h.val r rfl
  ·exact h.elim
 ·obtain⟨p,xs,rfl,h1,h2⟩:=hx.lst
  obtain⟨q,zs,rfl,h3,h4⟩:=hy.lst
  split at h
  ·rename_i hl
   refine .inr ⟨_,_,_,_,rfl,rfl,h1,h3,?_,fun p hp=>h.fre r e (Reps.append h2.and1 h4.and2) hp⟩
   rw[h2.length,h4.length];exact hl
  ·exact h.elim
 ·cases hx.int;cases hy.int
  exact⟨_,_,rfl,rfl,h.val r rfl⟩
 ·cases hx.int;cases hy.int
  split at h
  ·rename_i hl
   have hl:=qbx _ _ ▸ hl
   rcases hl with hl | hl
   ·exact .inl (.inl ⟨_,_,rfl,rfl,hl,h.val r rfl⟩)
   ·exact .inl (.inr ⟨_,_,rfl,rfl,hl,h.val r rfl⟩)
  ·exact h.elim
 ·obtain⟨p,xs,rfl,h1,h2⟩:=hx.lst
  cases hy.int
  split at h
  ·rename_i hl
   have hl:=qnu hl
   refine .inr (.inl ⟨_,_,_,rfl,rfl,h1,hl.1,hl.2.1,?_,fun p hp=>h.fre r e (RepsB.rep h2.and1 _) hp⟩)
   rw[h2.length];exact hl.2.2
  ·exact h.elim
 ·cases hx.str;cases hy.int
  split at h
  ·rename_i hl
   rw[Bool.and_eq_true,Bool.and_eq_true,Nat.ble_eq,Nat.ble_eq] at hl
   obtain⟨h1,h2,h3⟩:=hl
   have h1:=qnu h1
   refine .inr (.inr ⟨_,_,rfl,rfl,by omega,h1.2.1,by rw[qbU];exact h3,by rw[qbU];exact h1.2.2,?_⟩)
   rw[qrV]
   exact h.val r rfl
  ·exact h.elim
 ·cases hx.int;cases hy.int
  split at h
  ·rename_i hl
   exact⟨_,_,rfl,rfl,hl,h.val r rfl⟩
  ·exact h.elim
 ·cases hx.int;cases hy.int
  split at h
  ·rename_i hl
   exact⟨_,_,rfl,rfl,hl,h.val r rfl⟩
  ·exact h.elim
 ·cases hx.int;cases hy.int
  split at h
  ·rename_i hl
   exact⟨_,_,rfl,rfl,hl,h.val r rfl⟩
  ·exact h.elim
 ·cases hx.int;cases hy.int
  split at h
  ·rename_i hl
   exact⟨_,_,rfl,rfl,hl,h.val r rfl⟩
  ·exact h.elim
 ·cases hx.int;cases hy.int
  split at h
  ·rename_i hl
   exact⟨_,_,rfl,rfl,hl,h.val r rfl⟩
  ·exact h.elim
 ·cases hx.int;cases hy.int
  exact⟨_,_,rfl,rfl,h.val r rfl⟩
 ·cases hx.int;cases hy.int
  exact⟨_,_,rfl,rfl,h.val r rfl⟩
def qiQ:Cop→CmpOp
 |.eq=>.Eq | .ne=>.NotEq | .lt=>.Lt | .le=>.LtE | .gt=>.Gt | .ge=>.GtE | .isin=>.In | .nin=>.NotIn
def qtE (K:PySem.W.Frag):Cop→R2
 |.eq=>fun x y H Q=>rEq x y H Q∨rEqD K x y H Q
 |.ne=>fun x y H Q=>rNe x y H Q∨rNeD K x y H Q
 |.lt=>rI0 fun i j=>.bl (decide (i<j))
 |.le=>rI0 fun i j=>.bl (decide (i≤j))
 |.gt=>rI0 fun i j=>.bl (decide (j<i))
 |.ge=>rI0 fun i j=>.bl (decide (j≤i))
 |.isin=>fun x y H Q=>(rInD K x y H Q∨rIn K false x y H Q)∨(fun x y H Q=>∃(c:Nat) (z:Str),x=.str ⟨#[c]⟩∧y=.str z∧Q (.bl (decide (c∈z.cps.toList))) H:R2) x y H Q
 |.nin=>fun x y H Q=>(rNotInD K x y H Q∨rIn K true x y H Q)∨(fun x y H Q=>∃(c:Nat) (z:Str),x=.str ⟨#[c]⟩∧y=.str z∧Q (.bl (!decide (c∈z.cps.toList))) H:R2) x y H Q
theorem qh2 {X:Cx} (hu:X.A.units+65<cLine):∀o,OpR X (compareOp (qiQ o)) (qtE X.K o)
 |.eq=>op_eq.or (op_eqD (by omega))
 |.ne=>op_ne.or (op_neD (by omega))
 |.lt=>op_lt
 |.le=>op_le
 |.gt=>op_gt
 |.ge=>op_ge
 |.isin=>((op_inD hu).or op_in_seq).or op_in_sign
 |.nin=>((op_notInD hu).or op_notIn_seq).or op_notIn_sign
theorem qh1 {C:Ctx} {P N H:Hp} {x y:D} {b c:Bool} {v u:V} {k:Bool} (r:Reg C P N H) (hx:ERw C P N H x b v) (hy:ERw C P N H y c u) (h:qoU x y=.ok k) :
  (scal v u=true∧decide (v=u)=k)∨∃d e,Dp C.G.K H v d∧Dp C.G.K H u e∧SeqAt.shaped d=true∧SeqAt.shaped e=true∧PyData.eqv d e=k:=by
 unfold qoU at h
 split at h
 ·cases hx.int;cases hy.int;cases h
  exact .inl ⟨rfl,by simp⟩
 ·cases hx.str;cases hy.str;cases h
  refine .inl ⟨rfl,?_⟩
  simp
 ·cases hx.bl;cases hy.bl;cases h
  exact .inl ⟨rfl,by rw[dec_bl]⟩
 ·split at h
  ·rename_i f
   simp only[Bool.and_eq_true] at f
   cases h
   exact .inr ⟨_,_,hx.dp r f.1,hy.dp r f.2,D.shaped f.1,D.shaped f.2,D.eqv_py _ _ _ _ f.1 f.2⟩
  ·cases h
theorem qqG {x:D} {n m:Nat} (hx:x.fit n=true):∀{ys:List D},D.fits ys m=true→((D.pys ys).any fun z=>PyData.eqv z x.py)=ys.any fun z=>z.eqb x
 |[],_=>rfl
 |y::ys,h=>by
  simp only[D.fits,Bool.and_eq_true] at h
  simp only[D.pys,List.any_cons]
  rw[qqG hx h.2,D.eqv_py y x m n h.1 hx]
theorem qi6 {C:Ctx} {P N H:Hp} {x:D} {b:Bool} {v:V} (hx:Rep C.G P (LNb C.G.K P N C.R b) x v) (f:x.fit 0=true):flatV v=true:=by
 cases x<;>simp[D.fit] at f<;>cases hx<;>rfl
theorem qh4 {C:Ctx} {P N H:Hp} {b:Bool}:∀{xs:List D} {vs:List V},RepsB C P N b xs vs→D.fits xs 0=true→vs.all flatV=true
 |[],_,h,_=>by cases h;rfl
 |x::xs,_,⟨v,r,e,h1,h2⟩,f=>by
  subst e
  simp only[D.fits,Bool.and_eq_true] at f
  simp only[List.all_cons,Bool.and_eq_true]
  exact⟨qi6 (H:=H) h1 f.1,qh4 (H:=H) h2 f.2⟩
theorem qrL {C:Ctx} {P N:Hp} {x y:D} {b c:Bool} {v u:V} (hx:RepB C P N b x v) (hy:RepB C P N c y u) (fx:x.fit 0=true) (fy:y.fit 0=true):eqV v u=x.eqb y:=by
 cases x<;>simp[D.fit] at fx<;>cases y<;>simp[D.fit] at fy<;>cases hx<;>cases hy<;>simp[eqV,D.eqb]
 ·rw[Bool.eq_iff_iff,beq_iff_eq,decide_eq_true_iff]
 ·rw[Bool.eq_iff_iff,beq_iff_eq,decide_eq_true_iff]
 ·rw[Bool.eq_iff_iff,beq_iff_eq,decide_eq_true_iff]
 ·rw[Bool.eq_iff_iff,beq_iff_eq,decide_eq_true_iff]
  exact⟨fun q=>by injection q with q;exact qg5.mp q,fun q=>by rw[q]⟩
theorem qnL {C:Ctx} {P N:Hp} {x:D} {b c:Bool} {v:V} (hx:RepB C P N b x v) (fx:x.fit 0=true):∀{ys:List D} {us:List V},RepsB C P N c ys us→D.fits ys 0=true→inV v us=ys.any fun z=>z.eqb x
 |[],_,h,_=>by cases h;rfl
 |y::ys,_,⟨u,r,e,h1,h2⟩,f=>by
  subst e
  simp only[D.fits,Bool.and_eq_true] at f
  have:=qnL hx fx h2 f.2
  unfold inV at this ⊢
  simp only[List.any_cons]
  rw[this,qrL h1 hx f.1 fx]
theorem qif {C:Ctx} {P N H:Hp} {x y:D} {b c:Bool} {v u:V} {k:Bool} (r:Reg C P N H) (hx:ERw C P N H x b v) (hy:ERw C P N H y c u) (h:qnO x y=.ok k) :
  (∃d ds,Dp C.G.K H v d∧Dp C.G.K H u (.list ds)∧SeqAt.shaped d=true∧SeqAt.shaped (.list ds)=true∧(ds.any fun z=>PyData.eqv z d)=k) ∨
  (∃p xs,u=.ref p∧(SqL C.G.K H p xs∨SqT C.G.K H p xs)∧flatV v=true∧xs.all flatV=true∧inV v xs=k) ∨
  ∃(c:Nat) (z:Str),v=.str ⟨#[c]⟩∧u=.str z∧decide (c∈z.cps.toList)=k:=by
 unfold qnO at h
 split at h
 ·split at h
  ·rename_i ys f
   simp only[Bool.and_eq_true] at f
   cases h
   have f2:=f.2
   simp only[D.fit,Bool.and_eq_true] at f2
   refine .inl ⟨x.py,D.pys ys,hx.dp r f.1,hy.dp r f.2,D.shaped f.1,D.shaped f.2,qqG f.1 f2.2⟩
  ·cases h
 ·split at h
  ·rename_i ys f
   simp only[Bool.and_eq_true] at f
   cases h
   obtain⟨p,xs,rfl,h1,h2⟩:=hy.tup r
   have hx':RepB C P N b x v:=by
    cases x with
    |lst ds=>simp[D.fit] at f
    |_=>exact hx
   exact .inr (.inl ⟨p,xs,rfl,.inr h1,qi6 (H:=H) hx' f.1,qh4 (H:=H) h2 f.2,qnL hx' f.1 h2 f.2⟩)
  ·cases h
 ·split at h
  ·cases hx.str;cases hy.str;cases h
   exact .inr (.inr ⟨_,_,rfl,rfl,rfl⟩)
  ·cases h
 ·cases h
theorem qnt {C:Ctx} (o:Cop):qwz C (evC o) (qtE C.G.K o):=by
 intro P N H x y b c v u Q k r hx hy h q
 cases o<;>simp only[evC] at h
 ·rcases qh1 r hx hy h with⟨h1,rfl⟩ | ⟨d,e,h1,h2,h3,h4,rfl⟩
  ·exact .inl ⟨h1,q⟩
  ·exact .inr ⟨d,e,h1,h2,h3,h4,q⟩
 ·cases e:qoU x y with
  |bad=>rw[e] at h;cases h
  |exc c fs=>rw[e] at h;cases h
  |ok k' =>
   rw[e] at h;cases h
   rcases qh1 r hx hy e with⟨h1,rfl⟩ | ⟨d,d2,h1,h2,h3,h4,rfl⟩
   ·exact .inl ⟨h1,q⟩
   ·exact .inr ⟨d,d2,h1,h2,h3,h4,q⟩
 ·split at h
  ·cases hx.int;cases hy.int;cases h
   exact⟨_,_,rfl,rfl,q⟩
  ·cases h
 ·split at h
  ·cases hx.int;cases hy.int;cases h
   exact⟨_,_,rfl,rfl,q⟩
  ·cases h
 ·split at h
  ·cases hx.int;cases hy.int;cases h
   exact⟨_,_,rfl,rfl,q⟩
  ·cases h
 ·split at h
  ·cases hx.int;cases hy.int;cases h
   exact⟨_,_,rfl,rfl,q⟩
  ·cases h
 ·rcases qif r hx hy h with⟨d,e,h1,h2,h3,h4,rfl⟩ | ⟨p,xs,h1,h2,h3,h4,rfl⟩ | ⟨c,z,h1,h2,rfl⟩
  ·exact .inl (.inl ⟨d,e,h1,h2,h3,h4,q⟩)
  ·exact .inl (.inr ⟨p,xs,h1,h2,h3,h4,q⟩)
  ·exact .inr ⟨c,z,h1,h2,q⟩
 ·cases e:qnO x y with
  |bad=>rw[e] at h;cases h
  |exc c fs=>rw[e] at h;cases h
  |ok k' =>
   rw[e] at h;cases h
   rcases qif r hx hy e with⟨d,d2,h1,h2,h3,h4,rfl⟩ | ⟨p,xs,h1,h2,h3,h4,rfl⟩ | ⟨c,z,h1,h2,rfl⟩
   ·exact .inl (.inl ⟨d,d2,h1,h2,h3,h4,q⟩)
   ·exact .inl (.inr ⟨p,xs,h1,h2,h3,h4,q⟩)
   ·exact .inr ⟨c,z,h1,h2,q⟩
end Cm
namespace Cm
open PySem PySem.Spec PyProof.Rows L2
section
variable {C:Ctx} {X:Cx}
theorem qal {X:Cx} {e:Expr} {t u:TE} (h:PE X e t) (f:∀σ H Q,u σ H Q→t σ H Q):PE X e u:=⟨fun pins s σ H Q I q=>h.run pins s σ H Q I (f _ _ _ q)⟩
theorem qiX {X:Cx} {e:Expr} {t u:TT} (h:PT X e t) (f:∀σ H Q,u σ H Q→t σ H Q):PT X e u:=⟨fun pins s σ H Q I q=>h.run pins s σ H Q I (f _ _ _ q)⟩
theorem qfG {X:Cx} {e:List Expr} {t u:TA} (h:PA X e t) (f:∀σ H Q,u σ H Q→t σ H Q):PA X e u:=⟨fun pos pins s σ H Q I q=>h.run pos pins s σ H Q I (f _ _ _ q)⟩
theorem qiH {e:Expr}:PE X e (tE C fun _=>.bad):=⟨fun pins s σ H Q I h=>by obtain⟨ρ,P,N,S,h⟩:=h;exact h.elim⟩
theorem qrZ {i:Nat} {x:Str} {pos:Pos} (hN:X.N[i]? = some x) (hv:Vis X.env.scope x) (hd:(x == ("__debug__" : Str))=false) (hcd:(x == ("__classdict__" : Str))=false) :
  PE X (.Name x pos) (tE C fun ρ=>match ρ[i]? with
  |some (.val d b)=>.ok (.val d b)
  |some (.own ds b)=>.ok (.brw ds b)
  |some (.fxd d _)=>.ok (.val d false)
  |_=>.bad):=by
 refine qal (pe_var (i:=i) hN hv hd hcd) fun σ H Q h=>?_
 obtain⟨ρ,P,N,S,h⟩:=h
 cases e:ρ[i]? with
 |none=>simp only[e] at h;exact h.elim
 |some s =>
  obtain⟨o,h1,h2⟩:=S.sl i s e
  simp only[e] at h
  cases s with
  |non=>exact h.elim
  |val d b =>
   obtain⟨v,rfl,h3⟩:=h2
   exact⟨v,h1,h.val S.reg h3⟩
  |own ds b =>
   obtain⟨p,xs,rfl,h3,h4,h5,h6,h7⟩:=h2
   exact⟨.ref p,h1,h.now S.reg _ ⟨p,xs,rfl,h3,h4,h5,h6,h7⟩⟩
  |slf c fs=>exact h.elim
  |fxd d k =>
   obtain⟨v,rfl,_,h3⟩:=h2
   exact⟨v,h1,h.val S.reg h3⟩
  |dct m b=>exact h.elim
  |row _=>exact h.elim
theorem qn3 {e:Expr} {v:V} {d:D} (h:PE X e (tC v)) (r:∀P N,RepB C P N true d v):PE X e (tE C fun _=>.ok (.val d true)):=by
 refine qal h fun σ H Q h=>?_
 obtain⟨ρ,P,N,S,h⟩:=h
 exact h.val S.reg (r P N)
theorem qnN {g:List Sl→RE ER} (hg:∀ρ er,g ρ=.ok er→∃k,er=.val (.bl k) true) {σ:L2.St} {H:Hp} {Q:Bool→Hp→Prop} (h:tT C (fun ρ=>(g ρ).bind fun x=>qmS x.d) σ H Q) :
  tE C g σ H fun x H'=>∃k,x=.bl k∧Q k H':=by
 obtain⟨ρ,P,N,S,h⟩:=h
 refine⟨ρ,P,N,S,h.bind.mono fun x P1 N1 H1 e a1 h1 v rv=>?_⟩
 obtain⟨k,rfl⟩:=hg ρ x e
 exact⟨k,rv,h1.now (S.adv a1).reg⟩
abbrev qup (o p:Cop) (ga gb gc:List Sl→RE ER):List Sl→RE ER:=fun ρ=>(ga ρ).bind fun x=>(gb ρ).bind fun y=>(evC o x.d y.d).bind fun k=>if k=true then (gc ρ).bind fun z=>(evC p y.d z.d).bind fun k'=>ok (.bl k') else ok (.bl false)
theorem qnv {o p:Cop} {ga gb gc:List Sl→RE ER} {σ:L2.St} {H:Hp} {Q:VK} (h:tE C (qup o p ga gb gc) σ H Q):tChain (qtE C.G.K o) (qtE C.G.K p) (tE C ga) (tE C gb) (tE C gc) σ H Q:=by
 obtain⟨ρ,P,N,S,h⟩:=h
 refine⟨ρ,P,N,S,h.bind.mono fun x P1 N1 H1 _ a1 h1 v rv=>⟨ρ,P1,N1,S.adv a1,h1.bind.mono fun y P2 N2 H2 _ a2 h2 u ru=>?_⟩⟩
 have r2:=(S.adv (a1.trans a2)).reg
 have n1:=qmZ o x.d y.d
 cases e:evC o x.d y.d with
 |bad=>rw[e] at h2;exact h2.elim
 |exc c fs=>rw[e] at n1;exact n1.elim
 |ok k =>
  rw[e] at h2
  refine qnt o r2 ((rv.adv a2).w r2) (ru.w r2) e ⟨k,rfl,?_⟩
  cases k with
  |false=>exact h2.val r2 rfl
  |true =>
   refine iteT ⟨ρ,P2,N2,S.adv (a1.trans a2),res.mono (res.bind h2) fun z P3 N3 H3 _ a3 h3 w rw'=>?_⟩
   have r3:=(S.adv ((a1.trans a2).trans a3)).reg
   have n2:=qmZ p y.d z.d
   cases e3:evC p y.d z.d with
   |bad=>rw[e3] at h3;exact h3.elim
   |exc c fs=>rw[e3] at n2;exact n2.elim
   |ok k' =>
    rw[e3] at h3
    exact qnt p r3 ((ru.adv a3).w r3) (rw'.w r3) e3 (h3.val r3 rfl)
theorem qsi {o p:Cop} {a b c:Expr} {ga gb gc:List Sl→RE ER} {pos:Pos} (hu:X.A.units+65<cLine) (hK:X.K=C.G.K) (ha:PE X a (tE C ga)) (hb:PE X b (tE C gb)) (hc:PE X c (tE C gc)) (hm:lastMarks [qiQ o,qiQ p] [b,c]=false) :
  PE X (.Compare a [qiQ o,qiQ p] [b,c] pos) (tE C (qup o p ga gb gc)):=
 qal (pe_chain (qh2 hu o) (qh2 hu p) ha hb hc hm) fun σ H Q h=>by rw[hK];exact qnv h
theorem qq2 {o p:Cop} {a b c:Expr} {ga gb gc:List Sl→RE ER} {pos:Pos} (hu:X.A.units+65<cLine) (hK:X.K=C.G.K) (ha:PE X a (tE C ga)) (hb:PE X b (tE C gb)) (hc:PE X c (tE C gc)) (hm:lastMarks [qiQ o,qiQ p] [b,c]=false) :
  PT X (.Compare a [qiQ o,qiQ p] [b,c] pos) (tT C fun ρ=>(qup o p ga gb gc ρ).bind fun x=>qmS x.d):=
 qiX (pt_chain (qh2 hu o) (qh2 hu p) ha hb hc hm) fun σ H Q h=>by
  rw[hK]
  refine qnv (qnN (fun ρ er e=>?_) h)
  cases e1:ga ρ<;>simp only[qup,e1,RE.bind_ok,RE.bind_bad,RE.bind_exc] at e<;>try cases e
  cases e2:gb ρ<;>simp only[e2,RE.bind_ok,RE.bind_bad,RE.bind_exc] at e<;>try cases e
  rename_i x y
  cases e3:evC o x.d y.d<;>simp only[e3,RE.bind_ok,RE.bind_bad,RE.bind_exc] at e<;>try cases e
  split at e
  ·cases e4:gc ρ<;>simp only[e4,RE.bind_ok,RE.bind_bad,RE.bind_exc] at e<;>try cases e
   rename_i z
   cases e5:evC p y.d z.d<;>simp only[e5,RE.bind_ok,RE.bind_bad,RE.bind_exc] at e<;>try cases e
   exact⟨_,rfl⟩
  ·cases e
   exact⟨_,rfl⟩
abbrev quh (o:Cop) (ga gb:List Sl→RE ER):List Sl→RE ER:=fun ρ=>(ga ρ).bind fun x=>(gb ρ).bind fun y=>(evC o x.d y.d).bind fun c=>ok (.bl c)
theorem qor {o:Cop} {ga gb:List Sl→RE ER} {σ:L2.St} {H:Hp} {Q:VK} (h:tE C (quh o ga gb) σ H Q):tOp (qtE C.G.K o) (tE C ga) (tE C gb) σ H Q:=by
 obtain⟨ρ,P,N,S,h⟩:=h
 refine⟨ρ,P,N,S,h.bind.mono fun x P1 N1 H1 _ a1 h1 v rv=>⟨ρ,P1,N1,S.adv a1,h1.bind.mono fun y P2 N2 H2 _ a2 h2 u ru=>?_⟩⟩
 have r2:=(S.adv (a1.trans a2)).reg
 have n1:=qmZ o x.d y.d
 cases e:evC o x.d y.d with
 |bad=>rw[e] at h2;exact h2.elim
 |exc c fs=>rw[e] at n1;exact n1.elim
 |ok k =>
  rw[e] at h2
  exact qnt o r2 ((rv.adv a2).w r2) (ru.w r2) e (h2.val r2 rfl)
theorem qsc {o:Cop} {a b:Expr} {ga gb:List Sl→RE ER} {pos:Pos} (hu:X.A.units+65<cLine) (hK:X.K=C.G.K) (ha:PE X a (tE C ga)) (hb:PE X b (tE C gb)) (hm:behindInMarks (qiQ o) b=false) :
  PE X (.Compare a [qiQ o] [b] pos) (tE C (quh o ga gb)):=
 qal (pe_cmpR (qh2 hu o) ha hb hm) fun σ H Q h=>by rw[hK];exact qor h
theorem qso {o:Cop} {a b:Expr} {ga gb:List Sl→RE ER} {pos:Pos} (hu:X.A.units+65<cLine) (hK:X.K=C.G.K) (ha:PE X a (tE C ga)) (hb:PE X b (tE C gb)) (hm:behindInMarks (qiQ o) b=false) :
  PT X (.Compare a [qiQ o] [b] pos) (tT C fun ρ=>(quh o ga gb ρ).bind fun x=>qmS x.d):=
 qiX (pt_cmpR (qh2 hu o) ha hb hm) fun σ H Q h=>by
  rw[hK]
  refine qor (qnN (fun ρ er e=>?_) h)
  cases e1:ga ρ<;>simp only[quh,e1,RE.bind_ok,RE.bind_bad,RE.bind_exc] at e<;>try cases e
  cases e2:gb ρ<;>simp only[e2,RE.bind_ok,RE.bind_bad,RE.bind_exc] at e<;>try cases e
  rename_i x y
  cases e3:evC o x.d y.d<;>simp only[e3,RE.bind_ok,RE.bind_bad,RE.bind_exc] at e<;>try cases e
  exact⟨_,rfl⟩
theorem qmN {P N H:Hp} {d:D} {b:Bool} {v:V} {k:Bool} (r:Reg C P N H) (h:ERw C P N H d b v) (e:qmS d=.ok k):TruV C.G.K v H k:=by
 cases d<;>simp only[qmS] at e<;>cases e
 ·have e:v=.non:=h
  subst e;rfl
 ·cases h.bl;rfl
 ·cases h.int;rfl
 ·obtain⟨p,xs,rfl,h1,h2⟩:=h.lst
  refine .inl ⟨xs,h1,?_⟩
  have:=h2.length
  rw[Bool.eq_iff_iff]
  simp[←List.length_eq_zero_iff,this]
 ·obtain⟨p,xs,rfl,h1,h2⟩:=h.tup r
  refine .inr (.inl ⟨xs,h1,?_⟩)
  have:=h2.length
  rw[Bool.eq_iff_iff]
  simp[←List.length_eq_zero_iff,this]
theorem qrK (d:D):qhM (qmS d):=by cases d<;>trivial
theorem qsB {g:List Sl→RE ER} {σ:L2.St} {H:Hp} {Q:Bool→Hp→Prop} (h:tT C (fun ρ=>(g ρ).bind fun x=>qmS x.d) σ H Q):tE C g σ H fun x H'=>∃k,TruV C.G.K x H' k∧Q k H':=by
 obtain⟨ρ,P,N,S,h⟩:=h
 refine⟨ρ,P,N,S,h.bind.mono fun x P1 N1 H1 e a1 h1 v rv=>?_⟩
 have r1:=(S.adv a1).reg
 have n1:=qrK x.d
 cases e:qmS x.d with
 |bad=>rw[e] at h1;exact h1.elim
 |exc c fs=>rw[e] at n1;exact n1.elim
 |ok k =>
  rw[e] at h1
  exact⟨k,qmN r1 (rv.w r1) e,h1.now r1⟩
theorem qr3 {e:Expr} {g:List Sl→RE ER} (hK:X.K=C.G.K) (h:PE X e (tE C g)) (he:∀whole,isTrue e X.env whole=(do let v ←whole;standAt e.pos;holding [v] (truthy v))):PT X e (tT C fun ρ=>(g ρ).bind fun x=>qmS x.d):=
 qiX (pt_truth h he) fun σ H Q q=>by rw[hK];exact qsB q
theorem ERw.non {P N H:Hp} {d:D} {b:Bool} {v:V} (h:ERw C P N H d b v):decide (v=V.non)=d.isNon:=by
 cases d with
 |non=>have e:v=.non:=h;subst e;rfl
 |bl _=>cases h.bl;rfl
 |int _=>cases h.int;rfl
 |str _=>cases h.str;rfl
 |lst _=>obtain⟨p,xs,rfl,_⟩:=h;rfl
 |tup _=>obtain⟨p,xs,rfl,_⟩:=h;rfl
 |ins _ _=>obtain⟨p,dx,xs,rfl,_⟩:=h;rfl
 |exc _ _=>obtain⟨_,a,rfl,_⟩:=h;rfl
abbrev qw1 (k:Bool) (g:List Sl→RE ER):List Sl→RE ER:=fun ρ=>(g ρ).bind fun x=>ok (.bl (if k=true then x.d.isNon else !x.d.isNon))
abbrev gBv (c:Bool) (g g':List Sl→RE ER):List Sl→RE ER:=fun ρ=>(g ρ).bind fun x=>match x.d with
  |.bl k=>if k=c then g' ρ else ok (.bl k)
  |_=>.bad
def qoQ (c:Bool):BoolOp:=if c=true then .And else .Or
theorem qtM {a:Expr} {c:Bool} {g:List Sl→RE ER} {pos:Pos} (h:PE X a (tE C g)):PE X (.BoolOp (qoQ c) [a] pos) (tE C (gBv c g fun _=>ok (.bl c))):=by
 refine qal (pe_one h) fun σ H Q q=>?_
 obtain⟨ρ,P,N,S,h⟩:=q
 refine⟨ρ,P,N,S,h.bind.mono fun x P1 N1 H1 e a1 h1 v rv=>?_⟩
 have r1:=(S.adv a1).reg
 split at h1
 ·rename_i k e
  have w:=rv.w r1
  rw[e] at w
  cases w.bl
  split at h1
  ·rename_i e;subst e;exact h1.val r1 rfl
  ·exact h1.val r1 rfl
 ·exact h1.elim
theorem quu {a b:Expr} {rest:List Expr} {c:Bool} {g g':List Sl→RE ER} {pos:Pos} (h:PE X a (tE C g)) (h':PE X (.BoolOp (qoQ c) (b::rest) pos) (tE C g')):PE X (.BoolOp (qoQ c) (a::b::rest) pos) (tE C (gBv c g g')):=by
 have z:∀σ H Q,tE C (gBv c g g') σ H Q→tE C g σ H fun x H1=>∃k,x=.bl k∧if k=c then tE C g' σ H1 Q else Q (.bl k) H1:=fun σ H Q q=>by
  obtain⟨ρ,P,N,S,h⟩:=q
  refine⟨ρ,P,N,S,h.bind.mono fun x P1 N1 H1 e a1 h1 v rv=>?_⟩
  have r1:=(S.adv a1).reg
  split at h1
  ·rename_i k e
   have w:=rv.w r1
   rw[e] at w
   refine⟨k,w.bl,?_⟩
   split at h1
   ·rename_i e
    rw[if_pos e]
    exact⟨ρ,P1,N1,S.adv a1,h1.mono fun y P2 N2 H2 _ a2 h2 v rv=>h2 v (rv.from a1.hh)⟩
   ·rename_i e
    rw[if_neg e]
    exact h1.val r1 rfl
  ·exact h1.elim
 cases c with
 |true =>
  refine qal (pe_and h h') fun σ H Q q=>?_
  obtain⟨ρ,P,N,S,q⟩:=z σ H Q q
  refine⟨ρ,P,N,S,q.mono fun x P1 N1 H1 e a1 h1 v rv=>?_⟩
  obtain⟨k,e,h2⟩:=h1 v rv
  refine⟨k,e,?_⟩
  cases k
  ·exact h2
  ·exact h2
 |false =>
  refine qal (pe_or h h') fun σ H Q q=>?_
  obtain⟨ρ,P,N,S,q⟩:=z σ H Q q
  refine⟨ρ,P,N,S,q.mono fun x P1 N1 H1 e a1 h1 v rv=>?_⟩
  obtain⟨k,e,h2⟩:=h1 v rv
  refine⟨k,e,?_⟩
  cases k
  ·exact h2
  ·exact h2
theorem qsh {a:Expr} {g:List Sl→RE Bool} {pos:Pos} (h:PT X a (tT C g)):PT X (.UnaryOp .Not a pos) (tT C fun ρ=>(g ρ).bind fun k=>.ok (!k)):=by
 refine qiX (pt_not h) fun σ H Q q=>?_
 obtain⟨ρ,P,N,S,h⟩:=q
 exact⟨ρ,P,N,S,h.bind.mono fun x P1 N1 H1 e a1 h1=>h1.now (S.adv a1).reg⟩
abbrev gBs (c:Bool) (g g':List Sl→RE Bool):List Sl→RE Bool:=fun ρ=>(g ρ).bind fun k=>if k=c then g' ρ else .ok k
theorem qii {e:Expr} {t u:TT} (h:PW X e t) (f:∀σ H Q,u σ H Q→t σ H Q):PW X e u:=⟨fun w pins s σ H Q I q=>h.run w pins s σ H Q I (f _ _ _ q)⟩
theorem qtV {a:Expr} {c:Bool} {g:List Sl→RE Bool} {pos:Pos} (h:PT X a (tT C g)):PW X (.BoolOp (qoQ c) [a] pos) (tT C (gBs c g fun _=>.ok c)):=by
 have z:∀σ H Q,tT C (gBs c g fun _=>.ok c) σ H Q→tT C g σ H Q:=fun σ H Q q=>by
  obtain⟨ρ,P,N,S,h⟩:=q
  refine⟨ρ,P,N,S,h.bind.mono fun k P1 N1 H1 e a1 h1=>?_⟩
  split at h1
  ·rename_i e;subst e;exact h1.now (S.adv a1).reg
  ·exact h1.now (S.adv a1).reg
 cases c with
 |true=>exact qii (pw_and1 h) z
 |false=>exact qii (pw_or1 h) z
theorem qu4 {a b:Expr} {rest:List Expr} {c:Bool} {g g':List Sl→RE Bool} {pos:Pos} (h:PT X a (tT C g)) (h':PW X (.BoolOp (qoQ c) (b::rest) pos) (tT C g')):PW X (.BoolOp (qoQ c) (a::b::rest) pos) (tT C (gBs c g g')):=by
 have z:∀σ H Q,tT C (gBs c g g') σ H Q→tT C g σ H fun k H1=>if k=c then tT C g' σ H1 Q else Q k H1:=fun σ H Q q=>by
  obtain⟨ρ,P,N,S,h⟩:=q
  refine⟨ρ,P,N,S,h.bind.mono fun k P1 N1 H1 e a1 h1=>?_⟩
  split at h1
  ·rename_i e;rw[if_pos e];exact⟨ρ,P1,N1,S.adv a1,h1⟩
  ·rename_i e;rw[if_neg e];exact h1.now (S.adv a1).reg
 cases c with
 |true =>
  refine qii (pw_and h h') fun σ H Q q=>?_
  obtain⟨ρ,P,N,S,q⟩:=z σ H Q q
  refine⟨ρ,P,N,S,q.mono fun k P1 N1 H1 e a1 h1=>?_⟩
  cases k<;>exact h1
 |false =>
  refine qii (pw_or h h') fun σ H Q q=>?_
  obtain⟨ρ,P,N,S,q⟩:=z σ H Q q
  refine⟨ρ,P,N,S,q.mono fun k P1 N1 H1 e a1 h1=>?_⟩
  cases k<;>exact h1
theorem qsp {a:Expr} {g:List Sl→RE ER} {pos:Pos} (h:PE X a (tE C g)):PE X (.UnaryOp .USub a pos) (tE C fun ρ=>(g ρ).bind fun x=>match x.d with
  |.int i=>ok (.int (-i))
  |_=>.bad):=by
 refine qal (pe_un un_neg h) fun σ H Q q=>?_
 obtain⟨ρ,P,N,S,h⟩:=q
 refine⟨ρ,P,N,S,h.bind.mono fun x P1 N1 H1 e a1 h1 v rv=>?_⟩
 have r1:=(S.adv a1).reg
 split at h1
 ·rename_i i e
  have w:=rv.w r1
  rw[e] at w
  exact⟨i,w.int,h1.val r1 rfl⟩
 ·exact h1.elim
theorem qrg:PA X [] (tA C fun _=>.ok []):=by
 refine qfG pa_nil fun σ H Q q=>?_
 obtain⟨ρ,P,N,S,h⟩:=q
 exact h.now S.reg [] rfl
theorem qoZ {e:Expr} {es:List Expr} {g:List Sl→RE ER} {g':List Sl→RE (List ER)} (h:PE X e (tE C g)) (h':PA X es (tA C g')) (hs:starEach (e::es) X.env=(false,eval e X.env)::starEach es X.env) :
  PA X (e::es) (tA C fun ρ=>(g ρ).bind fun x=>(g' ρ).bind fun r=>.ok (x.frz::r)):=by
 refine qfG (pa_cons h h' hs) fun σ H Q q=>?_
 obtain⟨ρ,P,N,S,h⟩:=q
 refine⟨ρ,P,N,S,h.bind.mono fun x P1 N1 H1 e a1 h1 v rv=>?_⟩
 obtain⟨N2,a2,r2⟩:=rv.freeze a1
 have h2:res C σ P1 N2 H1 ((g' ρ).bind fun r=>.ok (x.frz::r)) fun es P' N' H'=>∀vs,ERs C P' N' H' H es vs→Q vs H':=by
  simp only[e,RE.bind_ok] at h
  exact res.adv a2 h
 exact⟨ρ,P1,N2,S.adv a2,h2.bind.mono fun es P3 N3 H3 e a3 h3 vs rvs=>h3.now ((S.adv a2).adv a3).reg _ ⟨v,vs,rfl,r2.adv a3,rvs.from a2.hh⟩⟩
end
end Cm
namespace Cm
open PySem PySem.Spec PyProof.Rows L2
section
variable {C:Ctx} {X:Cx}
theorem ERs.reps {P N H H0:Hp}:∀{es:List ER} {vs:List V},ERs C P N H H0 es vs→es.all ER.isV=true→RepsB C P N (es.all ER.b) (es.map ER.d) vs
 |[],_,h,_=>h
 |e::es,_,⟨v,r,q,h2,h3⟩,z=>by
  subst q
  simp only[List.all_cons,Bool.and_eq_true] at z
  cases e with
  |val d b=>exact⟨v,r,rfl,RepB.and1 h2,RepsB.and2 (ERs.reps h3 z.2)⟩
  |fre d b=>exact absurd z.1 (by simp[ER.isV])
  |brw d b=>exact absurd z.1 (by simp[ER.isV])
theorem ERs.w {P N H H0:Hp} (r:Reg C P N H) {e:ER} {es:List ER} {vs:List V} (h:ERs C P N H H0 (e::es) vs):∃v u,vs=v::u∧ERw C P N H e.d e.b v∧ERs C P N H H0 es u:=by
 obtain⟨v,u,q,h2,h3⟩:=h
 exact⟨v,u,q,h2.w r,h3⟩
theorem qsr {es:List Expr} {k:Nat} {g:List Sl→RE (List ER)} {pos:Pos} (h:PA X es (tA C g)) (hl:∀ρ r,g ρ=.ok r→r.length≤LIM):PE X (.Tuple es k pos) (tE C fun ρ=>(g ρ).bind fun r=>dis (fun ds b=>.val (.tup ds) b) r):=by
 refine qal (pe_tup h) fun σ H Q q=>?_
 obtain⟨ρ,P,N,S,h⟩:=q
 refine⟨ρ,P,N,S,h.bind.mono fun r P1 N1 H1 e a1 h1 vs rv=>?_⟩
 have r1:=(S.adv a1).reg
 unfold dis at h1
 split at h1
 ·rename_i z
  have rr:=rv.reps z
  refine⟨?_,fun p hp=>h1.tup r1 rr hp⟩
  rw[rr.length,List.length_map]
  exact hl _ _ e
 ·exact h1.elim
theorem qrI {es:List Expr} {g:List Sl→RE (List ER)} {pos:Pos} (h:PA X es (tA C g)) (hl:∀ρ r,g ρ=.ok r→r.length≤LIM):PE X (.List es pos) (tE C fun ρ=>(g ρ).bind fun r=>dis .fre r):=by
 refine qal (pe_lst h) fun σ H Q q=>?_
 obtain⟨ρ,P,N,S,h⟩:=q
 refine⟨ρ,P,N,S,h.bind.mono fun r P1 N1 H1 e a1 h1 vs rv=>?_⟩
 have r1:=(S.adv a1).reg
 unfold dis at h1
 split at h1
 ·rename_i z
  have rr:=rv.reps z
  refine⟨?_,fun p hp=>h1.fre r1 a1.hh rr hp⟩
  rw[rr.length,List.length_map]
  exact hl _ _ e
 ·exact h1.elim
theorem qnZ {P N:Hp} {b:Bool} {ds:List D} {xs:List V} {i:Int} {d:D} (h:RepsB C P N b ds xs) (e:atI ds i=some d):∃v,atI xs i=some v∧RepB C P N b d v:=by
 unfold atI at e ⊢
 rw[h.length]
 cases q:ixN ds.length i with
 |none=>rw[q] at e;cases e
 |some j =>
  rw[q] at e
  exact h.get e
theorem qsq {a i:Expr} {ga gi:List Sl→RE ER} {pos:Pos} (hK:X.K=C.G.K) (ha:PE X a (tE C ga)) (hi:PE X i (tE C gi)) (hs:PlainIx i):PE X (.Subscript a i pos) (tE C fun ρ=>(ga ρ).bind fun x=>(gi ρ).bind fun y=>qrt x.d y.d x.b):=by
 refine qal (pe_ix ix_seq ha hi hs) fun σ H Q q=>?_
 rw[hK]
 obtain⟨ρ,P,N,S,h⟩:=q
 refine⟨ρ,P,N,S,h.bind.mono fun x P1 N1 H1 _ a1 h1 v rv=>⟨ρ,P1,N1,S.adv a1,h1.bind.mono fun y P2 N2 H2 _ a2 h2 u ru=>?_⟩⟩
 have r2:=(S.adv (a1.trans a2)).reg
 have wx:=(rv.adv a2).w r2
 have wy:=ru.w r2
 unfold qrt at h2
 simp only[qeM,qbE,qas,qbx,qbt,qbA,qbz,qbJ,qbu,qa4,qbs] at h2
 split at h2
 ·rename_i ds i e1 e2
  rw[e1] at wx;rw[e2] at wy
  obtain⟨p,xs,rfl,h3,h4⟩:=wx.lst
  cases wy.int
  split at h2
  ·rename_i d e
   obtain⟨v,e',h5⟩:=qnZ h4 e
   exact .inl ⟨p,xs,i,v,rfl,rfl,h3,e',h2.val r2 h5.nf⟩
  ·exact h2.elim
 ·rename_i ds i e1 e2
  rw[e1] at wx;rw[e2] at wy
  obtain⟨p,xs,rfl,h3,h4⟩:=wx.tup r2
  cases wy.int
  split at h2
  ·rename_i d e
   obtain⟨v,e',h5⟩:=qnZ h4 e
   exact .inr (.inl ⟨p,xs,i,v,rfl,rfl,h3,e',h2.val r2 h5.nf⟩)
  ·exact h2.elim
 ·rename_i s i e1 e2
  rw[e1] at wx;rw[e2] at wy
  cases wx.str
  cases wy.int
  split at h2
  ·rename_i hl
   split at h2
   ·rename_i c e
    refine .inr (.inr ⟨_,i,c,rfl,rfl,?_,?_,?_⟩)
    ·rw[qbU];exact hl
    ·exact e
    ·exact h2.val r2 rfl
   ·exact h2.elim
  ·exact h2.elim
 ·exact h2.elim
theorem qpi:PO X none (tO C fun _=>.ok none):=⟨fun pins s σ H Q I q=>by
 obtain⟨ρ,P,N,S,h⟩:=q
 exact po_none.run pins s σ H Q I (h.now S.reg)⟩
theorem qo9 {e:Expr} {g:List Sl→RE ER} (h:PE X e (tE C g)):PO X (some e) (tO C fun ρ=>(g ρ).bind fun x=>match x.d with
  |.int i=>.ok (some i)
  |_=>.bad):=⟨fun pins s σ H Q I q=>by
 obtain⟨ρ,P,N,S,h'⟩:=q
 refine(po_some h).run pins s σ H Q I ⟨ρ,P,N,S,h'.bind.mono fun x P1 N1 H1 _ a1 h1 v rv=>?_⟩
 have r1:=(S.adv a1).reg
 split at h1
 ·rename_i i e
  have w:=rv.w r1
  rw[e] at w
  exact⟨i,w.int,h1.now r1⟩
 ·exact h1.elim⟩
theorem qnX {P N:Hp} {b:Bool} {ds:List D} {xs:List V} (h:RepsB C P N b ds xs) (lo hi:Option Int):RepsB C P N b (qcR ds lo hi) (cutV xs lo hi):=by
 unfold qcR cutV
 rw[h.length]
 exact Reps.take _ (Reps.drop _ h)
theorem qr7 {a:Expr} {lo hi:Option Expr} {ga:List Sl→RE ER} {gl gh:List Sl→RE (Option Int)} {pos p2:Pos} (hK:X.K=C.G.K) (ha:PE X a (tE C ga)) (hl:PO X lo (tO C gl)) (hh:PO X hi (tO C gh)) :
  PE X (.Subscript a (.Slice lo hi none p2) pos) (tE C fun ρ=>(ga ρ).bind fun x=>(gl ρ).bind fun l=>(gh ρ).bind fun h=>qvi x.d l h x.b):=by
 refine qal (pe_slice (sl_list.or (sl_tup.or sl_str)) ha hl hh) fun σ H Q q=>?_
 rw[hK]
 obtain⟨ρ,P,N,S,h⟩:=q
 refine⟨ρ,P,N,S,h.bind.mono fun x P1 N1 H1 _ a1 h1 v rv=>⟨ρ,P1,N1,S.adv a1,h1.bind.mono fun l P2 N2 H2 _ a2 h2=>⟨ρ,P2,N2,S.adv (a1.trans a2),res.mono (res.bind h2) fun u P3 N3 H3 _ a3 h3=>?_⟩⟩⟩
 have a:=(a1.trans a2).trans a3
 have r3:=(S.adv a).reg
 have wx:=(rv.adv (a2.trans a3)).w r3
 unfold qvi at h3
 simp only[qeM,qbE,qas,qbx,qbt,qbA,qbz,qbJ,qbu,qa4,qbs] at h3
 split at h3
 ·rename_i ds e1
  rw[e1] at wx
  obtain⟨p,xs,rfl,h4,h5⟩:=wx.lst
  exact .inl ⟨p,xs,rfl,h4,fun p hp=>h3.fre r3 a.hh (qnX h5 l u) hp⟩
 ·rename_i ds e1
  rw[e1] at wx
  obtain⟨p,xs,rfl,h4,h5⟩:=wx.tup r3
  split at h3
  ·rename_i hw
   refine .inr (.inl ⟨p,xs,rfl,h4,?_,fun p hp=>h3.tup r3 (qnX h5 l u) hp⟩)
   rw[h5.length]
   rintro⟨q1,q2⟩
   simp[q1,q2] at hw
  ·exact h3.elim
 ·rename_i s e1
  rw[e1] at wx
  cases wx.str
  split at h3
  ·rename_i hl
   refine .inr (.inr ⟨_,rfl,?_,?_⟩)
   ·rw[qbU];exact hl
   ·exact h3.val r3 rfl
  ·exact h3.elim
 ·exact h3.elim
def qwq (K:PySem.W.Frag) (te:TE):TE:=fun σ H Q=>te σ H fun x H1=>(∃a xs,x=.ref a∧SqL K H1 a xs∧∀p,H1 p=none→Q (.ref p) (upd H1 p (.lst xs.reverse))) ∨
 (∃a xs,x=.ref a∧SqT K H1 a xs∧∀p,H1 p=none→Q (.ref p) (upd H1 p (.tup xs.reverse)))
def qvH:Pri→Value
 |.len=>.builtin "len" |.abs=>.builtin "abs" |.min2=>.builtin "min" |.max2=>.builtin "max" |.min1=>.builtin "min" |.max1=>.builtin "max" |.sum=>.builtin "sum" |.sorted=>.builtin "sorted"
 |.all=>.builtin "all" |.any=>.builtin "any" |.list=>.type "list" |.tupl=>.type "tuple" |.int=>.type "int" |.str=>.type "str" |.dmd=>.builtin "divmod"
def qqH:Pri→Str
 |.len=>"len" |.abs=>"abs" |.min2=>"min" |.max2=>"max" |.min1=>"min" |.max1=>"max" |.sum=>"sum" |.sorted=>"sorted"
 |.all=>"all" |.any=>"any" |.list=>"list" |.tupl=>"tuple" |.int=>"int" |.str=>"str" |.dmd=>"divmod"
def qvO (K:PySem.W.Frag):Pri→List V→Hp→VK→Prop
 |.len=>fun xs H Q=>(∃x n,xs=[x]∧LenV K x H n∧Q (.int n) H)
 |.abs=>fun xs H Q=>∃i,xs=[.int i]∧Q (.int (if i<0 then -i else i)) H
 |.min2=>fun xs H Q=>∃i j,xs=[.int i,.int j]∧Q (.int (if j<i then j else i)) H
 |.max2=>fun xs H Q=>∃i j,xs=[.int i,.int j]∧Q (.int (if j>i then j else i)) H
 |.min1=>rMin K
 |.max1=>rMax K
 |.sum=>rSum K
 |.sorted=>rSortedI K
 |.all=>rAll K
 |.any=>rAny K
 |.list=>fun xs H Q=>∃p ys,xs=[.ref p]∧(SqL K H p ys∨SqT K H p ys)∧∀l,H l=none→Q (.ref l) (upd H l (.lst ys))
 |.tupl=>fun xs H Q=>∃p ys,xs=[.ref p]∧SqL K H p ys∧∀l,H l=none→Q (.ref l) (upd H l (.tup ys))
 |.int=>fun xs H Q=>((∃i,xs=[.int i]∧Q (.int i) H)∨∃k,xs=[.bl k]∧Q (.int (if k then 1 else 0)) H)∨∃a n,xs=[.str a]∧intText? a=some n∧a.length≤640∧Q (.int n) H
 |.dmd=>fun xs H Q=>∃i j,xs=[.int i,.int j]∧CDiv i j∧∀p,H p=none→Q (.ref p) (upd H p (.tup [.int (i / j),.int (i % j)]))
 |.str=>fun xs H Q=>∃i,xs=[.int i]∧i.natAbs.log2<1920∧Q (.str (toString i)) H
theorem quc (hc:X.calm=true):∀p,CallR X (qvH p) (qvO X.K p)
 |.len=>call_len
 |.abs=>call_abs
 |.min2=>call_min2 hc
 |.max2=>call_max2 hc
 |.min1=>cr_min hc
 |.max1=>cr_max hc
 |.sum=>cr_sum hc
 |.sorted=>cr_sortedI
 |.all=>cr_all hc
 |.any=>cr_any hc
 |.list=>call_list_of
 |.tupl=>fun pins s σ H vs us Q I r q=>by
  obtain⟨p,ys,e,h1,h2⟩:=q
  exact call_tuple_of pins s σ H vs us Q I r ⟨p,ys,e,.inl ⟨h1,h2⟩⟩
 |.int=>fun pins s σ H vs us Q I r q=>by
  rcases q with q | q
  ·exact call_int1 pins s σ H vs us Q I r q
  ·exact call_int_str pins s σ H vs us Q I r q
 |.dmd=>call_divmod
 |.str=>call_str_int
theorem qdl {P N:Hp} {b:Bool}:∀{ds:List D} {ns:List Int} {xs:List V},qcw ds=some ns→RepsB C P N b ds xs→xs=ns.map V.int
 |[],ns,xs,e,h=>by cases e;cases h;rfl
 |d::ds,ns,xs,e,⟨v,r,q,h1,h2⟩=>by
  cases d<;>simp only[qcw] at e<;>try cases e
  rename_i i
  cases e2:qcw ds with
  |none=>rw[e2] at e;cases e
  |some ms =>
   rw[e2] at e;cases e
   have q1:v=.int i:=h1
   rw[q,q1,qdl e2 h2];rfl
theorem qfI {P N:Hp} {b:Bool}:∀{ds:List D} {ns:List Bool} {xs:List V},qf6 ds=some ns→RepsB C P N b ds xs→xs=ns.map V.bl
 |[],ns,xs,e,h=>by cases e;cases h;rfl
 |d::ds,ns,xs,e,⟨v,r,q,h1,h2⟩=>by
  cases d<;>simp only[qf6] at e<;>try cases e
  rename_i i
  cases e2:qf6 ds with
  |none=>rw[e2] at e;cases e
  |some ms =>
   rw[e2] at e;cases e
   have q1:v=.bl i:=h1
   rw[q,q1,qfI e2 h2];rfl
theorem qj5 {P N:Hp} {b:Bool}:∀{ds:List D} {ns:List (List Nat)} {xs:List V},qkt ds=some ns→RepsB C P N b ds xs→xs=(ns.map qbg).map V.str
 |[],ns,xs,e,h=>by cases e;cases h;rfl
 |d::ds,ns,xs,e,⟨v,r,q,h1,h2⟩=>by
  cases d<;>simp only[qkt] at e<;>try cases e
  rename_i i
  cases e2:qkt ds with
  |none=>rw[e2] at e;cases e
  |some ms =>
   rw[e2] at e;cases e
   have q1:v=.str (qbg i):=h1
   rw[q,q1,qj5 e2 h2];rfl
theorem qmV:∀(n:Int) (ns:List Int),qmR (n::ns)∈n::ns∧∀y∈n::ns,qmR (n::ns)≤y
 |n,[]=>by simp[qmR]
 |n,m::ns=>by
  obtain⟨h1,h2⟩:=qmV m ns
  have e:qmR (n::m::ns)=min n (qmR (m::ns)):=rfl
  rw[e]
  constructor
  ·rcases Int.le_total n (qmR (m::ns)) with h | h
   ·rw[Int.min_eq_left h];simp
   ·rw[Int.min_eq_right h];exact List.mem_cons_of_mem _ h1
  ·intro y hy
   rcases List.mem_cons.mp hy with rfl | hy
   ·exact Int.min_le_left _ _
   ·exact Int.le_trans (Int.min_le_right _ _) (h2 y hy)
theorem qna:∀(n:Int) (ns:List Int),qkG (n::ns)∈n::ns∧∀y∈n::ns,y≤qkG (n::ns)
 |n,[]=>by simp[qkG]
 |n,m::ns=>by
  obtain⟨h1,h2⟩:=qna m ns
  have e:qkG (n::m::ns)=max n (qkG (m::ns)):=rfl
  rw[e]
  constructor
  ·rcases Int.le_total n (qkG (m::ns)) with h | h
   ·rw[Int.max_eq_right h];exact List.mem_cons_of_mem _ h1
   ·rw[Int.max_eq_left h];simp
  ·intro y hy
   rcases List.mem_cons.mp hy with rfl | hy
   ·exact Int.le_max_left _ _
   ·exact Int.le_trans (h2 y hy) (Int.le_max_right _ _)
theorem qgB (x:Int):∀ns:List Int,(qqY x ns).Perm (x::ns)
 |[]=>.refl _
 |y::ys=>by
  unfold qqY
  split
  ·exact .refl _
  ·exact((qgB x ys).cons y).trans (List.Perm.swap x y ys)
theorem qh9:∀ns:List Int,(qe5 ns).Perm ns
 |[]=>.refl _
 |x::xs=>(qgB x (qe5 xs)).trans ((qh9 xs).cons x)
theorem qlK (x:Int):∀ns:List Int,ns.Pairwise (· ≤ ·)→(qqY x ns).Pairwise (· ≤ ·)
 |[],_=>by simp[qqY]
 |y::ys,h=>by
  unfold qqY
  have h':=List.pairwise_cons.mp h
  split
  ·rename_i hxy
   refine List.pairwise_cons.mpr ⟨fun z hz=>?_,h⟩
   rcases List.mem_cons.mp hz with rfl | hz
   ·exact hxy
   ·exact Int.le_trans hxy (h'.1 z hz)
  ·rename_i hxy
   refine List.pairwise_cons.mpr ⟨fun z hz=>?_,qlK x ys h'.2⟩
   rcases List.mem_cons.mp ((qgB x ys).mem_iff.mp hz) with rfl | hz
   ·omega
   ·exact h'.1 z hz
theorem qjQ:∀ns:List Int,(qe5 ns).Pairwise (· ≤ ·)
 |[]=>.nil
 |x::xs=>qlK x _ (qjQ xs)
theorem qh5:∀{l m:List Int},l.Perm m→l.Pairwise (· ≤ ·)→m.Pairwise (· ≤ ·)→l=m
 |[],m,p,_,_=>(List.nil_perm.mp p).symm
 |x::l,[],p,_,_=>(List.perm_nil.mp p)
 |x::l,y::m,p,h,h'=>by
  have a:=List.pairwise_cons.mp h
  have b:=List.pairwise_cons.mp h'
  have e:x=y:=by
   have h1:x∈y::m:=p.mem_iff.mp (by simp)
   have h2:y∈x::l:=p.mem_iff.mpr (by simp)
   rcases List.mem_cons.mp h1 with h1 | h1
   ·exact h1
   ·rcases List.mem_cons.mp h2 with h2 | h2
    ·exact h2.symm
    ·have:=a.1 y h2;have:=b.1 x h1;omega
  subst e
  rw[qh5 (List.Perm.cons_inv p) a.2 b.2]
theorem qqX (p:Pri) {g:List Sl→RE (List ER)} {σ:L2.St} {H:Hp} {Q:VK} (h:tE C (fun ρ=>(g ρ).bind (evP p)) σ H Q):tCB (qvO C.G.K p) (tA C g) σ H Q:=by
 obtain⟨ρ,P,N,S,h⟩:=h
 refine⟨ρ,P,N,S,h.bind.mono fun es P1 N1 H1 _ a1 h1 vs rv=>?_⟩
 have r:=(S.adv a1).reg
 have hh:=a1.hh
 clear h S a1
 unfold evP at h1
 simp only[qeM,qbE,qas,qbx,qbt,qbA,qbz,qbJ,qbu,qa4,qbs] at h1
 split at h1
 all_goals try exact h1.elim
 all_goals obtain⟨v,u,rfl,w,rv⟩:=rv.w r
 all_goals first
  |(obtain⟨v2,u2,rfl,w2,rv⟩:=rv.w r;cases rv)
  |cases rv
 all_goals split at h1
 all_goals try exact h1.elim
 all_goals rename_i q1
 -- len
 ·rw[q1] at w
  obtain⟨p,xs,rfl,h4,h5⟩:=w.lst
  exact⟨_,xs.length,rfl,.inl ⟨xs,h4,rfl⟩,by rw[h5.length];exact h1.val r rfl⟩
 ·rw[q1] at w
  obtain⟨p,xs,rfl,h4,h5⟩:=w.tup r
  exact⟨_,xs.length,rfl,.inr ⟨xs,h4,rfl⟩,by rw[h5.length];exact h1.val r rfl⟩
 ·rw[q1] at w
  cases w.str
  split at h1
  ·rename_i hl
   exact⟨_,_,rfl,⟨by rw[qbU];exact hl,rfl⟩,by rw[qbU];exact h1.val r rfl⟩
  ·exact h1.elim
 -- abs
 ·rw[q1] at w
  cases w.int
  exact⟨_,rfl,h1.val r rfl⟩
 -- min2 max2
 ·rename_i q2
  rw[q2] at w;rw[q1] at w2
  cases w.int;cases w2.int
  exact⟨_,_,rfl,h1.val r rfl⟩
 ·rename_i q2
  rw[q2] at w;rw[q1] at w2
  cases w.int;cases w2.int
  exact⟨_,_,rfl,h1.val r rfl⟩
 -- min1 max1
 ·rw[q1] at w
  obtain⟨p,xs,rfl,h4,h5⟩:=w.lst
  split at h1
  ·rename_i n ns q2
   have e:=qdl q2 h5
   subst e
   obtain⟨z1,z2⟩:=qmV n ns
   refine⟨p,n::ns,rfl,h4,by simp,fun m hm hy=>?_⟩
   have:m=qmR (n::ns):=by
    have:=hy _ z1
    have:=z2 _ hm
    omega
   rw[this]
   exact h1.val r rfl
  ·exact h1.elim
 ·rw[q1] at w
  obtain⟨p,xs,rfl,h4,h5⟩:=w.lst
  split at h1
  ·rename_i n ns q2
   have e:=qdl q2 h5
   subst e
   obtain⟨z1,z2⟩:=qna n ns
   refine⟨p,n::ns,rfl,h4,by simp,fun m hm hy=>?_⟩
   have:m=qkG (n::ns):=by
    have:=hy _ z1
    have:=z2 _ hm
    omega
   rw[this]
   exact h1.val r rfl
  ·exact h1.elim
 -- sum
 ·rw[q1] at w
  obtain⟨p,xs,rfl,h4,h5⟩:=w.lst
  split at h1
  ·rename_i ns q2
   have e:=qdl q2 h5
   subst e
   exact⟨p,ns,rfl,h4,h1.val r rfl⟩
  ·exact h1.elim
 -- sorted
 ·rw[q1] at w
  obtain⟨p,xs,rfl,h4,h5⟩:=w.lst
  split at h1
  ·rename_i ns q2
   have e:=qdl q2 h5
   subst e
   refine⟨p,ns,rfl,h4,fun ns' p z1 z2 hp=>?_⟩
   have:ns'=qe5 ns:=qh5 (z1.trans (qh9 ns).symm) z2 (qjQ ns)
   rw[this]
   exact h1.fre r hh (Reps.ints.mpr rfl) hp
  ·exact h1.elim
 -- all any
 ·rw[q1] at w
  obtain⟨p,xs,rfl,h4,h5⟩:=w.lst
  split at h1
  ·rename_i ns q2
   have e:=qfI q2 h5
   subst e
   exact⟨p,ns,rfl,h4,h1.val r rfl⟩
  ·exact h1.elim
 ·rw[q1] at w
  obtain⟨p,xs,rfl,h4,h5⟩:=w.lst
  split at h1
  ·rename_i ns q2
   have e:=qfI q2 h5
   subst e
   exact⟨p,ns,rfl,h4,h1.val r rfl⟩
  ·exact h1.elim
 -- list
 ·rw[q1] at w
  obtain⟨p,xs,rfl,h4,h5⟩:=w.lst
  exact⟨p,xs,rfl,.inl h4,fun l hl=>h1.fre r hh h5.nf hl⟩
 ·rw[q1] at w
  obtain⟨p,xs,rfl,h4,h5⟩:=w.tup r
  exact⟨p,xs,rfl,.inr h4,fun l hl=>h1.fre r hh h5.nf hl⟩
 -- tuple
 ·rw[q1] at w
  obtain⟨p,xs,rfl,h4,h5⟩:=w.lst
  exact⟨p,xs,rfl,h4,fun l hl=>h1.tup r h5.nf hl⟩
 -- int
 ·rw[q1] at w
  cases w.int
  exact .inl (.inl ⟨_,rfl,h1.val r rfl⟩)
 ·rw[q1] at w
  cases w.bl
  exact .inl (.inr ⟨_,rfl,h1.val r rfl⟩)
 ·rw[q1] at w
  cases w.str
  split at h1
  ·rename_i n q2
   split at h1
   ·rename_i hl
    rw[Nat.ble_eq] at hl
    exact .inr ⟨_,n,rfl,q2,by rw[qbU];exact hl,h1.val r rfl⟩
   ·exact h1.elim
  ·exact h1.elim
 -- divmod
 ·rename_i q2
  rw[q2] at w;rw[q1] at w2
  cases w.int;cases w2.int
  split at h1
  ·rename_i hl
   rw[qrv] at hl
   exact⟨_,_,rfl,hl,fun p hp=>h1.tup r ⟨_,_,rfl,rfl,_,_,rfl,rfl,rfl⟩ hp⟩
  ·exact h1.elim
 -- str
 ·rw[q1] at w
  cases w.int
  split at h1
  ·rename_i hl
   refine⟨_,rfl,hl,h1.val r ?_⟩
   show V.str _=V.str _
   rfl
  ·exact h1.elim
theorem qoY:∀p,bootBuiltins (qqH p)=some (qvH p)
 |.len=>boot_len
 |.abs=>by decide +kernel
 |.min2=>by decide +kernel
 |.max2=>by decide +kernel
 |.min1=>by decide +kernel
 |.max1=>by decide +kernel
 |.sum=>by decide +kernel
 |.sorted=>by decide +kernel
 |.all=>by decide +kernel
 |.any=>by decide +kernel
 |.list=>by decide +kernel
 |.tupl=>by decide +kernel
 |.int=>by decide +kernel
 |.str=>by decide +kernel
 |.dmd=>by decide +kernel
theorem qnD:∀p,qqH p ≠ "__name__" ∧ (qqH p == ("__debug__" : Str))=false:=by intro p;cases p<;>decide
theorem qiR {x:Str} {f:Value} {r:List V→Hp→VK→Prop} {e:Expr} {es:List Expr} {t:TA} {p pos:Pos} (hc:CallR X f r) (hv:bootBuiltins x=some f) (hf:(∃id,f=.builtin id)∨∃T,f=.type T) (hg:Gl X x) (hm:X.mg x=none) (ha:PA X (e::es) t) (hn:x ≠ "__name__") (hdb:(x == ("__debug__" : Str))=false)
  (he:starEach (e::es) X.env=(false,eval e X.env)::starEach es X.env) (hpl:(backTo pos (starEach es X.env)).any (·.1)=false):PE X (.Call (.Name x p) (e::es) [] pos) (tCB r t):=by
 rcases hf with⟨id,rfl⟩ | ⟨T,rfl⟩
 ·exact pe_callB hc hg hm hv ha hn hdb he hpl
 ·exact pe_callTy hc hg hm hv ha hn hdb he hpl
theorem qrw {q:Pri} {g:List Sl→RE (List ER)} {e:Expr} {es:List Expr} {p pos:Pos} (hK:X.K=C.G.K) (hc:X.calm=true) (hg:Gl X (qqH q)) (hm:X.mg (qqH q)=none) (ha:PA X (e::es) (tA C g))
  (he:starEach (e::es) X.env=(false,eval e X.env)::starEach es X.env) (hpl:(backTo pos (starEach es X.env)).any (·.1)=false):PE X (.Call (.Name (qqH q) p) (e::es) [] pos) (tE C fun ρ=>(g ρ).bind (evP q)):=
 qal (qiR (quc hc q) (qoY q) (by cases q<;>first | exact .inl ⟨_,rfl⟩ | exact .inr ⟨_,rfl⟩) hg hm ha (qnD q).1 (qnD q).2 he hpl) fun σ H Q h=>by rw[hK];exact qqX q h
end
end Cm
namespace Cm
open PySem PySem.Spec PyProof.Rows L2
section
variable {C:Ctx} {X:Cx}
open Classical in
noncomputable def un3 (P N R H:Hp):Hp:=fun a=>if P a≠none∨N a≠none∨R a≠none then H a else none
open Classical in
noncomputable def un2 (N N' H:Hp):Hp:=fun a=>if N a≠none∨N' a≠none then H a else none
theorem quM {P N R H:Hp}:Same (un3 P N R H) H:=fun a o e=>by
 unfold un3 at e
 split at e
 ·exact e
 ·cases e
theorem qu2 {P N R H:Hp} (h:Same P H):Same P (un3 P N R H):=fun a o e=>by
 unfold un3
 rw[if_pos (.inl (by rw[e];simp))]
 exact h _ _ e
theorem qtf {P N R H:Hp} (h:Same N H):Same N (un3 P N R H):=fun a o e=>by
 unfold un3
 rw[if_pos (.inr (.inl (by rw[e];simp)))]
 exact h _ _ e
theorem qvc {P N R H:Hp} (h:Same R H):Same R (un3 P N R H):=fun a o e=>by
 unfold un3
 rw[if_pos (.inr (.inr (by rw[e];simp)))]
 exact h _ _ e
theorem qqu {P N R H:Hp} (hp:Same P H) (hn:Same N H) (hr:Same R H) {a:Addr} {o:HO} (e:un3 P N R H a=some o):P a=some o∨N a=some o∨R a=some o:=by
 unfold un3 at e
 split at e
 ·rename_i h
  rcases h with h | h | h
  ·obtain⟨u,q⟩:=Option.ne_none_iff_exists'.mp h
   have:=hp _ _ q
   rw[e] at this;cases this
   exact .inl q
  ·obtain⟨u,q⟩:=Option.ne_none_iff_exists'.mp h
   have:=hn _ _ q
   rw[e] at this;cases this
   exact .inr (.inl q)
  ·obtain⟨u,q⟩:=Option.ne_none_iff_exists'.mp h
   have:=hr _ _ q
   rw[e] at this;cases this
   exact .inr (.inr q)
 ·cases e
theorem qq6 {K:PySem.W.Frag} {P N R H:Hp} (hp:Same P H) (hn:Same N H) (hr:Same R H) {a:Addr} {xs:List V} (h:SqL K (un3 P N R H) a xs):SqL K P a xs∨SqL K N a xs∨SqL K R a xs:=by
 rcases h with(h | ⟨o,h⟩) | h
 ·rcases qqu hp hn hr h with h | h | h
  ·exact .inl (.inl (.inl h))
  ·exact .inr (.inl (.inl (.inl h)))
  ·exact .inr (.inr (.inl (.inl h)))
 ·rcases qqu hp hn hr h with h | h | h
  ·exact .inl (.inl (.inr ⟨o,h⟩))
  ·exact .inr (.inl (.inl (.inr ⟨o,h⟩)))
  ·exact .inr (.inr (.inl (.inr ⟨o,h⟩)))
 ·exact .inl (.inr h)
theorem qto {N N' H:Hp}:Same (un2 N N' H) H:=fun a o e=>by
 unfold un2 at e
 split at e
 ·exact e
 ·cases e
theorem qpb {N N' H:Hp} (h:Same N H):Same N (un2 N N' H):=fun a o e=>by
 unfold un2
 rw[if_pos (.inl (by rw[e];simp))]
 exact h _ _ e
theorem qmO {N N' H:Hp} (h:Same N' H):Same N' (un2 N N' H):=fun a o e=>by
 unfold un2
 rw[if_pos (.inr (by rw[e];simp))]
 exact h _ _ e
theorem Adv.back {P N H P' N' H':Hp} (hn:Same N H) (a:Adv P (fun _=>none) H P' N' H'):Adv P N H P' (un2 N N' H') H' where
 hh:=a.hh
 pp:=a.pp
 nn:=qpb (hn.trans a.hh)
 pH:=a.pH
 nH:=qto
 pn:=a.pn
 nw:=fun q h=>by
  unfold un2 at h
  split at h
  ·rename_i z
   rcases z with z | z
   ·exact .inl z
   ·rcases a.nw q z with z | z
    ·exact absurd rfl z
    ·exact .inr z
  ·exact absurd rfl h
 dj:=fun q h h2=>by
  unfold un2 at h
  split at h
  ·rename_i z
   rcases z with z | z
   ·exact z
   ·exact absurd rfl (a.dj q z h2)
  ·exact absurd rfl h
theorem qmf {P N H H0:Hp} {σ:L2.St} {n:Nat} {g':List D→RE ER} {Q:VK} {es:List ER} {vs:List V} (r:Reg C P N H) (e0:L2.Same H0 H) (hv:ERs C P N H H0 es vs) (hn:es.length=n)
  (h:res C σ P N H ((g' (es.map ER.d)).bind (qdZ (!es.all ER.isV))) (kE C H0 Q)):spD C.G n g' vs H Q (fun cls d H'=>C.W cls d σ H'):=by
 have rH:=r.rH
 cases ha:es.all ER.isV with
 |true =>
  rw[ha] at h
  have hr:=hv.reps ha
  refine⟨P,un3 P N C.R H,es.map ER.d,r.pH,quM,Reps.mono (L2.Same.refl _) _ _ (fun a xs q=>?_) hr,by rw[List.length_map,hn],?_⟩
  ·rcases q with q | ⟨_,q | q | q⟩
   ·exact .inl (.inl (qtf r.nH _ _ q))
   ·exact L2.Same.seq (qu2 r.pH) q
   ·exact L2.Same.seq (qtf r.nH) q
   ·exact L2.Same.seq (qvc rH) q
  ·have mono:∀{P' N' H':Hp} {b:Bool},Adv P (fun _=>none) H P' N' H'→∀a xs,LNb C.G.K P' N' (un3 P N C.R H) b a xs→LNb C.G.K P' (un2 N N' H') C.R b a xs:=fun {P' N' H' b} ad a xs q=>by
    rcases q with q | ⟨hb,q | q | q⟩
    ·exact .inl (qmO ad.nH _ _ q)
    ·exact .inr ⟨hb,.inl q⟩
    ·exact .inr ⟨hb,.inr (.inl (L2.Same.seq (qmO ad.nH) q))⟩
    ·rcases qq6 r.pH r.nH rH q with q | q | q
     ·exact .inr ⟨hb,.inl (L2.Same.seq ad.pp q)⟩
     ·exact .inr ⟨hb,.inr (.inl (L2.Same.seq (qpb (r.nH.trans ad.hh)) q))⟩
     ·exact .inr ⟨hb,.inr (.inr q)⟩
   cases e:g' (es.map ER.d) with
   |bad=>rw[e] at h;exact h.elim
   |exc c fs =>
    rw[e] at h
    intro d H' P' N' ad hx
    refine h d _ _ _ (ad.back r.nH) ?_
    rcases hx with hx | ⟨dd,f,v,h1,h2,h3,h4⟩
    ·exact .inl hx
    ·exact .inr ⟨dd,f,v,h1,h2,h3,Rep.mono (L2.Same.refl _) _ _ (mono ad) h4⟩
   |ok er =>
    rw[e] at h
    intro v H' P' N' ad hx
    cases er with
    |brw ds b=>exact h.elim
    |val d b=>exact h _ _ _ (ad.back r.nH) v (RepB.nf (C:=C) (Rep.mono (L2.Same.refl _) _ _ (mono ad) hx))
    |fre ds b =>
     obtain⟨p,xs,rfl,h1,h2,h3,h4,h5⟩:=hx
     refine h _ _ _ (ad.back r.nH) _ ⟨p,xs,rfl,h1,e0.free h2,h3,?_,Reps.mono (L2.Same.refl _) _ _ (mono ad) h5⟩
     unfold un2
     rw[if_neg]
     rintro(z | z)
     ·exact z (r.nH.free h2)
     ·exact z h4
 |false =>
  rw[ha] at h
  have hr:Reps C.G P (SqL C.G.K H) (es.map ER.d) vs:=by
   clear h ha hn
   induction es generalizing vs with
   |nil=>cases hv;rfl
   |cons e es ih =>
    obtain⟨v,u,rfl,h1,h2⟩:=hv
    refine⟨v,u,rfl,?_,ih h2⟩
    have w:=h1.w r
    have mm:=fun a xs=>LNb.seq (K:=C.G.K) (b:=e.b) r.pH r.nH rH a xs
    cases q:e.d with
    |lst ds =>
     rw[q] at w
     obtain⟨p,xs,rfl,h3,h4⟩:=w
     exact⟨p,xs,rfl,h3,Reps.mono (L2.Same.refl _) _ _ mm h4⟩
    |non=>rw[q] at w;exact Rep.mono (L2.Same.refl _) _ _ mm w
    |bl _=>rw[q] at w;exact Rep.mono (L2.Same.refl _) _ _ mm w
    |int _=>rw[q] at w;exact Rep.mono (L2.Same.refl _) _ _ mm w
    |str _=>rw[q] at w;exact Rep.mono (L2.Same.refl _) _ _ mm w
    |tup _=>rw[q] at w;exact Rep.mono (L2.Same.refl _) _ _ mm w
    |ins _ _=>rw[q] at w;exact Rep.mono (L2.Same.refl _) _ _ mm w
    |exc _ _=>rw[q] at w;exact Rep.mono (L2.Same.refl _) _ _ mm w
  refine⟨P,H,es.map ER.d,r.pH,L2.Same.refl _,hr,by rw[List.length_map,hn],?_⟩
  have mono:∀{P' N' H':Hp},Adv P (fun _=>none) H P' N' H'→∀a xs,LNb C.G.K P' N' H true a xs→LNb C.G.K P' (un2 N N' H') C.R true a xs:=fun {P' N' H'} ad a xs q=>by
   rcases q with q | ⟨hb,q⟩
   ·exact .inl (qmO ad.nH _ _ q)
   ·cases hb
  cases e:g' (es.map ER.d) with
  |bad=>rw[e] at h;exact h.elim
  |exc c fs =>
   rw[e] at h
   intro d H' P' N' ad hx
   refine h d _ _ _ (ad.back r.nH) ?_
   rcases hx with hx | ⟨dd,f,v,h1,h2,h3,h4⟩
   ·exact .inl hx
   ·exact .inr ⟨dd,f,v,h1,h2,h3,Rep.mono (L2.Same.refl _) _ _ (mono ad) h4⟩
  |ok er =>
   rw[e] at h
   intro v H' P' N' ad hx
   cases er with
   |brw ds b=>exact h.elim
   |val d b =>
    simp only[Bool.not_false,RE.bind_ok,qdZ] at h
    split at h
    ·rename_i z
     refine h _ _ _ (ad.back r.nH) v ?_
     cases b with
     |true=>exact Rep.mono (L2.Same.refl _) _ _ (mono ad) hx
     |false=>exact Rep.flat _ _ (by simpa using z) hx
    ·exact h.elim
   |fre ds b =>
    simp only[Bool.not_false,RE.bind_ok,qdZ] at h
    obtain⟨p,xs,rfl,h1,h2,h3,h4,h5⟩:=hx
    split at h
    ·rename_i z
     refine h _ _ _ (ad.back r.nH) _ ⟨p,xs,rfl,h1,e0.free h2,h3,?_,?_⟩
     ·unfold un2
      rw[if_neg]
      rintro(z | z)
      ·exact z (r.nH.free h2)
      ·exact z h4
     ·cases b with
      |true=>exact Reps.mono (L2.Same.refl _) _ _ (mono ad) h5
      |false=>exact Reps.flat _ _ (by simpa using z) h5
    ·exact h.elim
theorem qlC {G:Glo} {n m:Nat} {g gf:List D→RE ER} {dv:List D} {dvs vs:List V} {H:Hp} {Q:VK} {E:XK} (hm:dv.length=m) (hd:∀P LN,Reps G P LN dv dvs) (hg:∀xs,xs.length=n→g xs=gf (xs++dv)) (h:spD G n g vs H Q E):spD G (n+m) gf (vs++dvs) H Q E:=by
 obtain⟨P,R,ds,h1,h2,h3,h4,h5⟩:=h
 rw[hg ds h4] at h5
 exact⟨P,R,ds++dv,h1,h2,Reps.append h3 (hd _ _),by rw[List.length_append,h4,hm],h5⟩
theorem qoj {k:Nat} {f:Addr} {fd:FuncData} {ps:List Str} {sp:Sp} {W:WX} {pins:List (Addr × Obj)} {σ:L2.St} {H:Hp} {s:Shared} {Q:VK} {us dus:List Value} {vs dvs:List V} (F:FnOk X.prog X.w X.K X.mg X.base (L2.CX X.prog X.w) k f fd ps sp) (hr:Room k X.A) (hb:Binds X.K fd ps dus) (hd:Vals dvs dus)
  (tk:Takes X W) (I:Inv X pins σ H s) (r:Vals vs us) (h:sp (vs++dvs) H Q (fun cls d H'=>W cls d σ H')):wpAny (model X.prog X.w) X.A (call (.ref f) us) (EP X pins σ Q) X.xe s:=by
 have r2:Vals (vs++dvs) (us++dus):=r.append hd
 have hl:(us++dus).length=ps.length:=by rw[←r2.length];exact F.len _ _ _ _ h
 refine wpAny_call (codeAny_mono (F.run X.A X.stack s H ⟨us,[]⟩ (us++dus) (vs++dvs) Q _ hr I.env0 (hb s us I.kIn hl) r2 h) fun r s' hq=>?_)
 cases r with
 |error e=>exact tk e s' (XE.of_call I (fun cls d H' q=>q) hq)
 |ok fl =>
  cases fl with
  |ret u=>exact I.after hq
  |next=>exact False.elim hq
  |brk=>exact False.elim hq
  |cont=>exact False.elim hq
theorem qog {k:Nat} {f:Addr} {fd:FuncData} {ps:List Str} {sp:Sp} {W:WX} {pins:List (Addr × Obj)} {σ:L2.St} {H:Hp} {s:Shared} {Q:VK} {us:List Value} {vs:List V} (F:FnOk X.prog X.w X.K X.mg X.base (L2.CX X.prog X.w) k f fd ps sp) (hr:Room k X.A) (hb:Binds X.K fd ps [])
  (tk:Takes X W) (I:Inv X pins σ H s) (r:Vals vs us) (h:sp vs H Q (fun cls d H'=>W cls d σ H')):wpAny (model X.prog X.w) X.A (call (.ref f) us) (EP X pins σ Q) X.xe s:=by
 have hl:us.length=ps.length:=by rw[←r.length];exact F.len _ _ _ _ h
 have hb':=hb s us I.kIn (by rw[List.append_nil];exact hl)
 rw[List.append_nil] at hb'
 refine wpAny_call (codeAny_mono (F.run X.A X.stack s H ⟨us,[]⟩ us vs Q _ hr I.env0 hb' r h) fun r s' hq=>?_)
 cases r with
 |error e=>exact tk e s' (XE.of_call I (fun cls d H' q=>q) hq)
 |ok fl =>
  cases fl with
  |ret u=>exact I.after hq
  |next=>exact False.elim hq
  |brk=>exact False.elim hq
  |cont=>exact False.elim hq
def qns (X:Cx) (es:List Expr):Prop:=(∀e r,es=e::r→starEach (e::r) X.env=(false,eval e X.env)::starEach r X.env)∧∀pos e r,es=e::r→(backTo pos (starEach r X.env)).any (·.1)=false
def Part (K:PySem.W.Frag) (G:Glo) (fd:FuncData) (ps:List Str) (n m:Nat) (g gf:List D→RE ER):Prop:=
 ∃(dv:List D) (dvs:List V) (dus:List Value),Binds K fd ps dus∧Vals dvs dus∧dv.length=m∧(∀P LN,Reps G P LN dv dvs)∧∀xs,xs.length=n→g xs=gf (xs++dv)
theorem Part.all {K:PySem.W.Frag} {G:Glo} {fd:FuncData} {ps:List Str} {n:Nat} {g:List D→RE ER} (h:Binds K fd ps []):Part K G fd ps n 0 g g:=⟨[],[],[],h,.nil,rfl,fun _ _=>rfl,fun xs _=>by rw[List.append_nil]⟩
theorem qlL {x:Str} {k:Nat} {f:Addr} {fd:FuncData} {ps:List Str} {n m:Nat} {g' gf:List D→RE ER} {dv:List D} {dvs:List V} {dus:List Value} {g:List Sl→RE (List ER)} {es:List Expr} {p pos:Pos} (F:FnOk X.prog X.w X.K X.mg X.base (L2.CX X.prog X.w) k f fd ps (spD C.G (n+m) gf)) (hr:Room k X.A) (hg:Gl X x) (hm:X.mg x=some (.ref f)) (hk:PySem.W.keepIn X.K (.ref f)=true)
  (hb:Binds X.K fd ps dus) (hdv:Vals dvs dus) (hdm:dv.length=m) (hdr:∀P LN,Reps C.G P LN dv dvs) (hgf:∀xs,xs.length=n→g' xs=gf (xs++dv)) (tk:Takes X C.W) (ha:PA X es (tA C g)) (hdb:(x == ("__debug__" : Str))=false) (hs:qns X es) (h0:es=[]→∀ρ,g ρ=.ok []) :
  PE X (.Call (.Name x p) es [] pos) (fun σ H Q=>tA C g σ H fun vs H1=>spD C.G n g' vs H1 Q (fun cls d H'=>C.W cls d σ H')):=by
  cases es with
  |nil =>
   refine⟨fun pins s σ H Q I h=>?_⟩
   refine wpAny_Call_Name_kw (ld_glob I hg hm ?_ hdb)
   refine PySem.W.callWith_K0 I.kIn hk ?_
   obtain⟨ρ,P,N,S,h⟩:=h
   rw[h0 rfl ρ] at h
   exact qoj F hr hb hdv tk I .nil (qlC hdm hdr hgf (h.now S.reg [] rfl))
  |cons e es =>
   refine⟨fun pins s σ H Q I h=>?_⟩
   refine wpAny_Call_Name_kw (ld_glob I hg hm ?_ hdb)
   refine PySem.W.callWith_K (h₀:=X.base) I.ok.mod.kin hk (thn (ha.run pos pins s σ H _ I h) fun us s1 ⟨vs,H1,I1,r,q⟩=>⟨I1.kIn,?_⟩) (hs.1 _ _ rfl) (hs.2 _ _ _ rfl)
   exact qoj F hr hb hdv tk I1 r (qlC hdm hdr hgf q)
theorem qpG {x:Str} {k:Nat} {f:Addr} {fd:FuncData} {ps:List Str} {n m:Nat} {g' gf:List D→RE ER} {dv:List D} {dvs:List V} {dus:List Value} {g:List Sl→RE (List ER)} {es:List Expr} {p pos:Pos} (F:FnOk X.prog X.w X.K X.mg X.base (L2.CX X.prog X.w) k f fd ps (spD C.G (n+m) gf)) (hr:Room k X.A) (hg:Gl X x) (hm:X.mg x=some (.ref f)) (hk:PySem.W.keepIn X.K (.ref f)=true)
  (hb:Binds X.K fd ps dus) (hdv:Vals dvs dus) (hdm:dv.length=m) (hdr:∀P LN,Reps C.G P LN dv dvs) (hgf:∀xs,xs.length=n→g' xs=gf (xs++dv)) (tk:Takes X C.W) (ha:PA X es (tA C g)) (hdb:(x == ("__debug__" : Str))=false) (hs:qns X es) (hl:∀ρ r,g ρ=.ok r→r.length=n) (h0:es=[]→∀ρ,g ρ=.ok []) :
  PE X (.Call (.Name x p) es [] pos) (tE C fun ρ=>(g ρ).bind fun r=>(g' (r.map ER.d)).bind (qdZ (!r.all ER.isV))):=by
 refine qal (qlL F hr hg hm hk hb hdv hdm hdr hgf tk ha hdb hs h0) fun σ H Q q=>?_
 obtain⟨ρ,P,N,S,h⟩:=q
 exact⟨ρ,P,N,S,h.bind.mono fun r P1 N1 H1 e a1 h1 vs rv=>qmf (S.adv a1).reg a1.hh rv (hl _ _ e) h1⟩
def ER.noF:ER→Bool
 |.fre _ _=>false
 |_=>true
theorem qh3 {G:Glo} {P:Hp} {LN:Addr→List V→Prop}:∀{ds:List D} {ns:List Int} {xs:List V},qcw ds=some ns→Reps G P LN ds xs→xs=ns.map V.int
 |[],ns,xs,e,h=>by cases e;cases h;rfl
 |d::ds,ns,xs,e,⟨v,r,q,h1,h2⟩=>by
  cases d<;>simp only[qcw] at e<;>try cases e
  rename_i i
  cases k:qcw ds with
  |none=>rw[k] at e;cases e
  |some ms =>
   rw[k] at e
   cases e
   have h1:v=.int i:=h1
   rw[q,h1,qh3 k h2]
   rfl
theorem qih:∀{ds:List D} {ns:List Int},qcw ds=some ns→D.flats ds=true
 |[],_,_=>rfl
 |d::ds,ns,e=>by
  cases d<;>simp only[qcw] at e<;>try cases e
  cases k:qcw ds with
  |none=>rw[k] at e;cases e
  |some ms =>
   simp only[D.flats,D.flat,Bool.true_and]
   exact qih k
mutual
theorem Rep.off {G:Glo} {P:Hp} {LN LN':Addr→List V→Prop} {os:List (List Int)} (h:∀a (ns:List Int),LN a (ns.map V.int)→ns∉os→LN' a (ns.map V.int)):∀(d:D) (v:V),qqz os d=true→Rep G P LN d v→Rep G P LN' d v
 |.non,_,_,q=>q
 |.bl _,_,_,q=>q
 |.int _,_,_,q=>q
 |.str _,_,_,q=>q
 |.lst ds,v,f,⟨a,xs,e,h1,h2⟩=>by
  unfold qqz at f
  split at f
  ·rename_i ns hn
   have ex:xs=ns.map V.int:=qh3 hn h2
   refine⟨a,xs,e,?_,Reps.flat ds xs (qih hn) h2⟩
   rw[ex] at h1 ⊢
   exact h a ns h1 (by simpa using f)
  ·cases f
 |.tup ds,v,f,⟨a,xs,e,h1,h2⟩=>⟨a,xs,e,h1,Reps.off h ds xs (by simpa[qqz] using f) h2⟩
 |.ins c ds,v,f,_=>by simp[qqz] at f
 |.exc _ _,v,f,_=>by simp[qqz] at f
theorem Reps.off {G:Glo} {P:Hp} {LN LN':Addr→List V→Prop} {os:List (List Int)} (h:∀a (ns:List Int),LN a (ns.map V.int)→ns∉os→LN' a (ns.map V.int)):∀(ds:List D) (vs:List V),qo6 os ds=true→Reps G P LN ds vs→Reps G P LN' ds vs
 |[],_,_,q=>q
 |d::ds,vs,f,⟨v,r,e,h1,h2⟩=>by
  simp only[qo6,Bool.and_eq_true] at f
  exact⟨v,r,e,Rep.off h d v f.1 h1,Reps.off h ds r f.2 h2⟩
end
open Classical in
noncomputable def atO (os:List (List Int)) (H:Hp):Hp:=fun a=>if ∃ns∈os,H a=some (.lst (ns.map V.int)) then H a else none
structure MtOk (C:Ctx) (X:Cx) (m:Str) (c:Nat) (n:Nat) (g':List D→RE ER):Prop where
 cls:Cls X.K (C.G.ca c)
 nf:m∉C.G.fl c
 fn:∃k f fd ps,Meth X.K (C.G.ca c) m f∧FnOk X.prog X.w X.K X.mg X.base (L2.CX X.prog X.w) k f fd ps (spD C.G (n+1) g')∧Room k X.A∧Binds X.K fd ps []
theorem qid {α β:Type} [BEq α] [LawfulBEq α] {m:α}:∀{l:List α} {xs:List β},m∉l→(l.zip xs).lookup m=none
 |[],_,_=>rfl
 |a::l,[],_=>rfl
 |a::l,x::xs,h=>by
  simp only[List.mem_cons,not_or] at h
  have:(m == a)=false:=by simpa using h.1
  simp only[List.zip_cons_cons,List.lookup_cons,this]
  exact qid h.2
theorem qre {m:Str} {n:Nat} {mt:Nat→Option (List D→RE ER)} {o:Expr} {go:List Sl→RE ER} {g:List Sl→RE (List ER)} {es:List Expr} {apos pos:Pos} (hm:∀c g',mt c=some g'→MtOk C X m c n g')
  (tk:Takes X C.W) (ho:PE X o (tE C go)) (ha:PA X es (tA C g)) (hs:qns X es) (hl:∀ρ r,g ρ=.ok r→r.length=n) (h0:es=[]→∀ρ,g ρ=.ok [])
  {pl:Sem Bool} (ht:eval (.Call (.Attribute o m apos) es [] pos) X.env=(do
   let ov ←eval o X.env
   standAt apos.atName
   let (f,first) ←holding [ov] (getMethod ov m pl)
   callWith pos f first (backTo pos (starEach es X.env)) (backToKw pos (keywordEach [] X.env)))) :
  PE X (.Call (.Attribute o m apos) es [] pos) (tE C fun ρ=>(go ρ).bind fun x=>match x.d with
  |.ins c fs=>match mt c with
   |some g'=>(g ρ).bind fun r=>(g' (.ins c fs::r.map ER.d)).bind (qdZ (!r.all ER.isV))
   |none=>.bad
  |_=>.bad):=by
 refine⟨fun pins s σ H Q I h=>?_⟩
 have body:tE C go σ H fun x H1=>∃(a Ca dx:Addr) (fs:List (Str × V)) (f:Addr) (k:Nat) (fd:FuncData) (ps:List Str) (g':List D→RE ER),x=.ref a∧H1 a=some (.ins Ca dx fs)∧Cls X.K Ca∧Meth X.K Ca m f∧fs.lookup m=none ∧
   FnOk X.prog X.w X.K X.mg X.base (L2.CX X.prog X.w) k f fd ps (spD C.G (n+1) g')∧Room k X.A∧Binds X.K fd ps [] ∧
   ∃ρ P N r0,SR C P N H1 ρ σ∧(r0=g ρ)∧res C σ P N H1 r0 fun es' P' N' H'=>∀vs,ERs C P' N' H' H1 es' vs→spD C.G (n+1) g' (.ref a::vs) H' Q (fun cls d H'=>C.W cls d σ H'):=by
  obtain⟨ρ,P,N,S,h⟩:=h
  refine⟨ρ,P,N,S,h.bind.mono fun x P1 N1 H1 e1 a1 h1 v rv=>?_⟩
  have r1:=(S.adv a1).reg
  split at h1
  ·rename_i c fs q
   split at h1
   ·rename_i g' q2
    obtain⟨c1,c2,k,f,fd,ps,c3,c4,c5,c6⟩:=hm _ _ q2
    have w:=rv.w r1
    rw[q] at w
    have w':=w
    obtain⟨a,dx,xs,rfl,z1,z2,z3⟩:=w'
    refine⟨a,C.G.ca c,dx,_,f,k,fd,ps,g',rfl,r1.pH _ _ z1,c1,c3,qid c2,c4,c5,c6,ρ,P1,N1,_,S.adv a1,rfl,?_⟩
    refine(res.bind h1).mono fun r P2 N2 H2 e2 a2 h2 vs rvs=>?_
    have r2:=(S.adv (a1.trans a2)).reg
    refine qmf (es:=.val (.ins c fs) x.b::r) r2 (a1.trans a2).hh ⟨_,vs,rfl,RepB.adv a2.pp a2.nn w,rvs.from a1.hh⟩ ?_ ?_
    ·rw[List.length_cons,hl _ _ e2]
    ·simpa[ER.isV] using h2
   ·exact h1.elim
  ·exact h1.elim
 refine PySem.W.methodCall_KW (pl:=pl) (thn (ho.run pins s σ H _ I body) fun u s1 ⟨x,H1,I1,rx,a,Ca,dx,fs,f,k,fd,ps,g',ex,ea,c,k',l,F,hr,hb,ρ,P,N,r0,S,e0,q⟩=>?_) ht
 subst ex
 obtain rfl:u=Value.ref a:=rx
 refine getmeth_ok I1 ea c k' l ?_
 subst e0
 cases es with
 |nil =>
  refine PySem.W.callWith_K0 (first:=[.ref a]) I1.kIn k'.kp ?_
  rw[h0 rfl ρ] at q
  exact qog (us:=[.ref a]) (vs:=[.ref a]) F hr hb tk I1 (.cons rfl .nil) (q.now S.reg [] rfl)
 |cons e es =>
  refine PySem.W.callWith_K (first:=[.ref a]) (h₀:=X.base) I1.ok.mod.kin k'.kp (thn (ha.run pos pins s1 σ H1 (fun vs H'=>spD C.G (n+1) g' (.ref a::vs) H' Q (fun cls d H'=>C.W cls d σ H')) I1 ⟨ρ,P,N,S,q⟩) fun us s2 ⟨vs,H2,I2,r,q2⟩=>⟨I2.kIn,?_⟩) (hs.1 _ _ rfl) (hs.2 _ _ _ rfl)
  exact qog (us:=.ref a::us) (vs:=.ref a::vs) F hr hb tk I2 (.cons rfl r) q2
structure FdOk (C:Ctx) (X:Cx) (f:Str) (c:Nat) (k:Nat):Prop where
 cls:Cls X.K (C.G.ca c)
 no:NoAttr X.K (C.G.ca c) f
 at_:(C.G.fl c)[k]? = some f
 nd:(C.G.fl c).Nodup
theorem qfM {f:Str}:∀{l:List Str} {xs:List V} {k:Nat} {v:V},l.Nodup→l[k]? = some f→xs[k]? = some v→(l.zip xs).lookup f=some v
 |[],_,_,_,_,h,_=>by simp at h
 |a::l,[],_,_,_,_,h=>by simp at h
 |a::l,x::xs,0,v,_,h,h'=>by
  simp at h h';subst h;subst h'
  simp
 |a::l,x::xs,k+1,v,nd,h,h'=>by
  have nd':=List.nodup_cons.mp nd
  have hl:l[k]? = some f:=by simpa using h
  have:f≠a:=fun e=>nd'.1 (e ▸ List.mem_of_getElem? hl)
  have e:(f == a)=false:=by simpa using this
  simp only[List.zip_cons_cons,List.lookup_cons,e]
  exact qfM nd'.2 hl (by simpa using h')
theorem qqW {f:Str} {fi:Nat→Option Nat} {o:Expr} {go:List Sl→RE ER} {pos:Pos} (hK:X.K=C.G.K) (hf:∀c k,fi c=some k→FdOk C X f c k) (ho:PE X o (tE C go)) (hb:attributeBase o f X.env (eval o X.env)=eval o X.env) :
  PE X (.Attribute o f pos) (tE C fun ρ=>(go ρ).bind fun x=>match x.d with
  |.ins c fs=>match fi c with
   |some k=>match fs[k]? with
    |some d=>.ok (.val d d.flat)
    |none=>.bad
   |none=>.bad
  |_=>.bad):=by
 refine qal (pe_fld ho hb) fun σ H Q q=>?_
 obtain⟨ρ,P,N,S,h⟩:=q
 refine⟨ρ,P,N,S,h.bind.mono fun x P1 N1 H1 e1 a1 h1 v rv=>?_⟩
 have r1:=(S.adv a1).reg
 split at h1
 ·rename_i c fs q
  split at h1
  ·rename_i k q2
   obtain⟨c1,c2,c3,c4⟩:=hf _ _ q2
   have w:=rv.w r1
   rw[q] at w
   obtain⟨a,dx,xs,rfl,z1,z2,z3⟩:=w
   split at h1
   ·rename_i d q3
    obtain⟨u,q4,q5⟩:=Reps.get z3 q3
    refine⟨a,_,dx,_,u,rfl,r1.pH _ _ z1,c1,c2,qfM c4 c3 q4,h1.val r1 ?_⟩
    exact RepB.nf (b:=false) (Rep.mono (L2.Same.refl _) _ _ LNb.ofP q5)
   ·exact h1.elim
  ·exact h1.elim
 ·exact h1.elim
end
end Cm
namespace Cm
open PySem PySem.Spec PyProof.Rows L2
section
variable {C:Ctx} {X:Cx}
def tyS:Ty→String
 |.bool=>"bool" |.int=>"int" |.str=>"str" |.list=>"list" |.tuple=>"tuple"
def tyN:Ty→Str
 |.bool=>"bool" |.int=>"int" |.str=>"str" |.list=>"list" |.tuple=>"tuple"
theorem qrc:∀t,bootBuiltins (tyN t)=some (.type (tyS t))
 |.bool=>by decide +kernel
 |.int=>by decide +kernel
 |.str=>by decide +kernel
 |.list=>by decide +kernel
 |.tuple=>by decide +kernel
theorem qqx:∀t,tyN t ≠ "__name__" ∧ (tyN t == ("__debug__" : Str))=false:=by intro t;cases t<;>decide
theorem qkr {K:PySem.W.Frag} {H:Hp} {a:Addr} {xs:List V} (h:SqL K H a xs):TyX K H (.ref a) (.type "list"):=by
 rcases h with(h | ⟨o,h⟩) | ⟨o,its,n,h1,h2,_⟩
 ·exact .base (.lst h)
 ·exact .base (.frz h)
 ·exact .kList h1 h2
theorem qjX {K:PySem.W.Frag} {H:Hp} {a:Addr} {xs:List V} (h:SqT K H a xs):TyX K H (.ref a) (.type "tuple"):=by
 rcases h with(h | ⟨o,h⟩) | ⟨o,its,n,h1,h2,_⟩
 ·exact .base (.tup h)
 ·exact .fTuple h
 ·exact .kTuple h1 h2
theorem qaS (a b:String) (r:Bool) (h:kitB a b=some r) {K:PySem.W.Frag}:PySem.W.kitOne K (.type a) (.type b)=some r:=kit_ty h
theorem qrh {g:List Sl→RE ER} {t:Ty} {σ:L2.St} {H:Hp} {Q:VK} (h:tE C (fun ρ=>(g ρ).bind fun x=>qt1 x.d t) σ H Q):tCB (rIsi C.G.K) (tCons (tE C g) (tCons (tC (.ty (tyS t))) tNil)) σ H Q:=by
 obtain⟨ρ,P,N,S,h⟩:=h
 refine⟨ρ,P,N,S,h.bind.mono fun x P1 N1 H1 e1 a1 h1 v rv=>?_⟩
 have r1:=(S.adv a1).reg
 have w:=rv.w r1
 show ∃(x c:V) (t' u:Value) (b:Bool),[v,V.ty (tyS t)]=[x,c]∧ClsV c u∧TyX C.G.K H1 x t'∧PySem.W.kitOne C.G.K t' u=some b∧Q (.bl b) H1
 cases q:x.d with
 |non =>
  rw[q] at w h1
  obtain rfl:v=.non:=w
  refine⟨_,_,.type "NoneType",_,false,rfl,.ty _,.base .non,?_,?_⟩
  ·cases t<;>exact qaS _ _ _ (by decide +kernel)
  ·cases t<;>exact h1.val r1 rfl
 |bl b =>
  rw[q] at w h1
  obtain rfl:=w.bl
  cases t
  ·exact⟨_,_,_,_,true,rfl,.ty _,.base (.bl b),qaS _ _ _ (by decide +kernel),h1.val r1 rfl⟩
  ·exact⟨_,_,_,_,true,rfl,.ty _,.base (.bl b),qaS _ _ _ (by decide +kernel),h1.val r1 rfl⟩
  ·exact⟨_,_,_,_,false,rfl,.ty _,.base (.bl b),qaS _ _ _ (by decide +kernel),h1.val r1 rfl⟩
  ·exact⟨_,_,_,_,false,rfl,.ty _,.base (.bl b),qaS _ _ _ (by decide +kernel),h1.val r1 rfl⟩
  ·exact⟨_,_,_,_,false,rfl,.ty _,.base (.bl b),qaS _ _ _ (by decide +kernel),h1.val r1 rfl⟩
 |int b =>
  rw[q] at w h1
  obtain rfl:=w.int
  cases t
  ·exact⟨_,_,_,_,false,rfl,.ty _,.base (.int b),qaS _ _ _ (by decide +kernel),h1.val r1 rfl⟩
  ·exact⟨_,_,_,_,true,rfl,.ty _,.base (.int b),qaS _ _ _ (by decide +kernel),h1.val r1 rfl⟩
  ·exact⟨_,_,_,_,false,rfl,.ty _,.base (.int b),qaS _ _ _ (by decide +kernel),h1.val r1 rfl⟩
  ·exact⟨_,_,_,_,false,rfl,.ty _,.base (.int b),qaS _ _ _ (by decide +kernel),h1.val r1 rfl⟩
  ·exact⟨_,_,_,_,false,rfl,.ty _,.base (.int b),qaS _ _ _ (by decide +kernel),h1.val r1 rfl⟩
 |str b =>
  rw[q] at w h1
  obtain rfl:=w.str
  cases t
  ·exact⟨_,_,_,_,false,rfl,.ty _,.base (.str _),qaS _ _ _ (by decide +kernel),h1.val r1 rfl⟩
  ·exact⟨_,_,_,_,false,rfl,.ty _,.base (.str _),qaS _ _ _ (by decide +kernel),h1.val r1 rfl⟩
  ·exact⟨_,_,_,_,true,rfl,.ty _,.base (.str _),qaS _ _ _ (by decide +kernel),h1.val r1 rfl⟩
  ·exact⟨_,_,_,_,false,rfl,.ty _,.base (.str _),qaS _ _ _ (by decide +kernel),h1.val r1 rfl⟩
  ·exact⟨_,_,_,_,false,rfl,.ty _,.base (.str _),qaS _ _ _ (by decide +kernel),h1.val r1 rfl⟩
 |lst ds =>
  rw[q] at w h1
  obtain⟨p,xs,rfl,z,_⟩:=w.lst
  cases t
  ·exact⟨_,_,_,_,false,rfl,.ty _,qkr z,qaS _ _ _ (by decide +kernel),h1.val r1 rfl⟩
  ·exact⟨_,_,_,_,false,rfl,.ty _,qkr z,qaS _ _ _ (by decide +kernel),h1.val r1 rfl⟩
  ·exact⟨_,_,_,_,false,rfl,.ty _,qkr z,qaS _ _ _ (by decide +kernel),h1.val r1 rfl⟩
  ·exact⟨_,_,_,_,true,rfl,.ty _,qkr z,qaS _ _ _ (by decide +kernel),h1.val r1 rfl⟩
  ·exact⟨_,_,_,_,false,rfl,.ty _,qkr z,qaS _ _ _ (by decide +kernel),h1.val r1 rfl⟩
 |tup ds =>
  rw[q] at w h1
  obtain⟨p,xs,rfl,z,_⟩:=w.tup r1
  cases t
  ·exact⟨_,_,_,_,false,rfl,.ty _,qjX z,qaS _ _ _ (by decide +kernel),h1.val r1 rfl⟩
  ·exact⟨_,_,_,_,false,rfl,.ty _,qjX z,qaS _ _ _ (by decide +kernel),h1.val r1 rfl⟩
  ·exact⟨_,_,_,_,false,rfl,.ty _,qjX z,qaS _ _ _ (by decide +kernel),h1.val r1 rfl⟩
  ·exact⟨_,_,_,_,false,rfl,.ty _,qjX z,qaS _ _ _ (by decide +kernel),h1.val r1 rfl⟩
  ·exact⟨_,_,_,_,true,rfl,.ty _,qjX z,qaS _ _ _ (by decide +kernel),h1.val r1 rfl⟩
 |ins c fs=>rw[q] at h1;exact h1.elim
 |exc c fs=>rw[q] at h1;exact h1.elim
theorem qlG:bootBuiltins "isinstance" = some (.builtin "isinstance"):=by decide +kernel
theorem qq5 {a:Expr} {g:List Sl→RE ER} {t:Ty} {p p2 pos:Pos} (hK:X.K=C.G.K) (hg:Gl X "isinstance") (hm:X.mg "isinstance" = none) (hg2:Gl X (tyN t)) (hm2:X.mg (tyN t)=none) (h:PE X a (tE C g))
  (hs:starEach [a,.Name (tyN t) p2] X.env=(false,eval a X.env)::starEach [.Name (tyN t) p2] X.env) (hpl:(backTo pos (starEach [.Name (tyN t) p2] X.env)).any (·.1)=false):PE X (.Call (.Name "isinstance" p) [a,.Name (tyN t) p2] [] pos) (tE C fun ρ=>(g ρ).bind fun x=>qt1 x.d t):=
 qal (qiR call_isi qlG (.inl ⟨_,rfl⟩) hg hm (pa_cons h (pa_cons (pe_bltn (v:=.ty (tyS t)) hg2 hm2 (qrc t) rfl (qqx t).1 (qqx t).2) pa_nil) hs) (by decide) (by decide) hs hpl) fun σ H Q q=>by rw[hK];exact qrh q
theorem ql9 {P N:Hp} {b:Bool}:∀ys:List Str,RepsB C P N b (ys.map fun z=>.str z.cps.toList) (ys.map V.str)
 |[]=>rfl
 |y::ys=>⟨_,_,rfl,rfl,ql9 ys⟩
def rBm (K:PySem.W.Frag):Bme→V→List V→Hp→VK→Prop
 |.split=>fun x xs H Q=>∃a b,x=.str a∧xs=[.str b]∧(b.length == 0)=false∧a.length+2≤sizeLine∧rNewStrs (Txt.split a b) H Q
 |.join=>fun x xs H Q=>∃a p,∃ys:List Str,x=.str a∧xs=[.ref p]∧(SqL K H p (ys.map V.str)∨SqT K H p (ys.map V.str))∧(ys.map (·.length)).sum+ys.length*a.length≤16777216∧Q (.str (Txt.join a ys)) H
 |.find=>fun x xs H Q=>∃a b,x=.str a∧xs=[.str b]∧Q (.int (Txt.find a b)) H
def bmN:Bme→Str
 |.split=>"split" |.join=>"join" |.find=>"find"
abbrev gBm (m:Bme) (go g:List Sl→RE ER):List Sl→RE ER:=fun ρ=>(go ρ).bind fun x=>match x.d with
  |.str s=>(g ρ).bind fun y=>evM m s y.d
  |_=>.bad
theorem qnq {m:Bme} {go g:List Sl→RE ER} {σ:L2.St} {H:Hp} {Q:VK} (h:tE C (gBm m go g) σ H Q):tM1 (rBm C.G.K m) (tE C go) (tE C g) σ H Q:=by
 obtain⟨ρ,P,N,S,h⟩:=h
 refine⟨ρ,P,N,S,h.bind.mono fun x P1 N1 H1 e1 a1 h1 v rv=>?_⟩
 have r1:=(S.adv a1).reg
 split at h1
 ·rename_i s q
  have w:=rv.w r1
  rw[q] at w
  cases w.str
  refine⟨⟨_,rfl⟩,ρ,P1,N1,S.adv a1,(res.bind h1).mono fun y P2 N2 H2 e2 a2 h2 u ru=>?_⟩
  have r2:=(S.adv (a1.trans a2)).reg
  have w2:=ru.w r2
  cases m with
  |split =>
   simp only[evM,qeM,qbE,qas,qbx,qbt,qbA,qbz,qbJ,qbu,qa4,qbs] at h2
   split at h2
   ·rename_i t q2
    rw[q2] at w2
    cases w2.str
    split at h2
    ·rename_i hl
     refine⟨_,_,rfl,rfl,?_,?_,fun p hp=>?_⟩
     ·rw[qbU];simpa using hl.1
     ·rw[qbU];exact hl.2
     ·exact h2.fre r2 (a1.trans a2).hh (ql9 _) hp
    ·exact h2.elim
   ·exact h2.elim
  |join =>
   simp only[evM,qeM,qbE,qas,qbx,qbt,qbA,qbz,qbJ,qbu,qa4,qbs] at h2
   split at h2
   ·rename_i xs q2
    rw[q2] at w2
    obtain⟨p,us,rfl,z1,z2⟩:=w2.lst
    split at h2
    ·rename_i ss q3
     have e:=qj5 q3 z2
     subst e
     split at h2
     ·rename_i hl
      refine⟨_,p,ss.map qbg,rfl,rfl,.inl z1,?_,h2.val r2 rfl⟩
      have e1:((ss.map qbg).map fun z=>z.length)=ss.map List.length:=by
       rw[List.map_map]
       exact List.map_congr_left fun a _=>qbU a
      rw[e1,List.length_map,qbU]
      exact hl
     ·exact h2.elim
    ·exact h2.elim
   ·exact h2.elim
  |find =>
   simp only[evM,qeM,qbE,qas,qbx,qbt,qbA,qbz,qbJ,qbu,qa4,qbs] at h2
   split at h2
   ·rename_i t q2
    rw[q2] at w2
    cases w2.str
    exact⟨_,_,rfl,rfl,h2.val r2 rfl⟩
   ·exact h2.elim
 ·exact h1.elim
theorem qt8 {m:Bme} {o a:Expr} {go g:List Sl→RE ER} {apos pos:Pos} (hK:X.K=C.G.K) (ho:PE X o (tE C go)) (ha:PE X a (tE C g)) (hs:starEach [a] X.env=[(false,eval a X.env)]) (hbase:attributeBase o (bmN m) X.env (eval o X.env)=eval o X.env) (hline:(apos.endLine == pos.line)=true) :
  PE X (.Call (.Attribute o (bmN m) apos) [a] [] pos) (tE C (gBm m go g)):=by
 cases m with
 |split=>exact qal (pe_m1 PySem.F.slot_str_split PySem.F.type_str_split mt_split ho ha hs hbase hline) fun σ H Q q=>qnq (m:=.split) q
 |join=>exact qal (pe_m1 PySem.F.slot_str_join PySem.F.type_str_join mt_join ho ha hs hbase hline) fun σ H Q q=>by rw[hK];exact qnq (m:=.join) q
 |find=>exact qal (pe_m1 PySem.F.slot_str_find PySem.F.type_str_find mt_find ho ha hs hbase hline) fun σ H Q q=>qnq (m:=.find) q
theorem qmj (a b:Int):rgV a b=(qfC a 1 (b - a).toNat).map V.int:=by
 unfold rgV qfC
 rw[List.map_map]
 exact List.map_congr_left fun i _=>by simp
theorem qox {g:List Sl→RE ER} {σ:L2.St} {H:Hp} {Q:VK} (h:tE C (fun ρ=>((g ρ).bind fun x=>(RE.ok []).bind fun r=>.ok (x.frz::r)).bind fun r=>(qeJ r).bind fun ns=>.ok (.fre (ns.map D.int) true)) σ H Q):tLstRg (tRg1 (tE C g)) σ H Q:=by
 obtain⟨ρ,P,N,S,h⟩:=h
 refine⟨ρ,P,N,S,(res.bind (res.bind h)).mono fun x P1 N1 H1 e1 a1 h1 v rv=>?_⟩
 have r1:=(S.adv a1).reg
 have hd:x.frz.d=x.d:=by cases x<;>rfl
 have h2:res C σ P1 N1 H1 ((qeJ [x.frz]).bind fun ns=>.ok (.fre (ns.map D.int) true)) (kE C H Q):=h1.now r1
 unfold qeJ at h2
 simp only[hd,qeM,qbE,qas,qbx,qbt,qbA,qbz,qbJ,qbu,qa4,qbs] at h2
 split at h2
 ·rename_i n q
  have w:=rv.w r1
  rw[q] at w
  split at h2
  ·rename_i hl
   have hl:=qk1 hl
   refine⟨n,w.int,⟨by decide,by decide,hl.1.1,hl.1.2,by simpa[LIM] using hl.2⟩,fun p hp=>?_⟩
   rw[qmj,Int.sub_zero]
   exact h2.fre r1 a1.hh (Reps.ints.mpr rfl) hp
  ·exact h2.elim
 ·exact h2.elim
theorem qoe {g g':List Sl→RE ER} {σ:L2.St} {H:Hp} {Q:VK} (h:tE C (fun ρ=>((g ρ).bind fun x=>((g' ρ).bind fun y=>(RE.ok []).bind fun r=>.ok (y.frz::r)).bind fun r=>.ok (x.frz::r)).bind fun r=>(qeJ r).bind fun ns=>.ok (.fre (ns.map D.int) true)) σ H Q):tLstRg (tRg2 (tE C g) (tE C g')) σ H Q:=by
 obtain⟨ρ,P,N,S,h⟩:=h
 refine⟨ρ,P,N,S,(res.bind (res.bind h)).mono fun x P1 N1 H1 e1 a1 h1 v rv=>⟨ρ,P1,N1,S.adv a1,(res.bind (res.bind h1)).mono fun y P2 N2 H2 e2 a2 h2 u ru=>?_⟩⟩
 have r2:=(S.adv (a1.trans a2)).reg
 have hd:x.frz.d=x.d:=by cases x<;>rfl
 have hd2:y.frz.d=y.d:=by cases y<;>rfl
 have h3:res C σ P2 N2 H2 ((qeJ [x.frz,y.frz]).bind fun ns=>.ok (.fre (ns.map D.int) true)) (kE C H Q):=(h2.now r2).now r2
 unfold qeJ at h3
 simp only[hd,hd2,qeM,qbE,qas,qbx,qbt,qbA,qbz,qbJ,qbu,qa4,qbs] at h3
 split at h3
 ·rename_i i j q q2
  have w:=(rv.adv a2).w r2
  rw[q] at w
  have w2:=ru.w r2
  rw[q2] at w2
  split at h3
  ·rename_i hl
   have hl:=qni hl
   refine⟨i,j,w.int,w2.int,⟨hl.1.1,hl.1.2,hl.2.1.1,hl.2.1.2,by simpa[LIM] using hl.2.2⟩,fun p hp=>?_⟩
   rw[qmj]
   exact h3.fre r2 (a1.trans a2).hh (Reps.ints.mpr rfl) hp
  ·exact h3.elim
 ·exact h3.elim
end
end Cm
namespace Cm
open PySem PySem.Spec PyProof.Rows L2
section
variable {C:Ctx} {X:Cx}
theorem SR.setV {P N H:Hp} {ρ:List Sl} {σ:L2.St} (S:SR C P N H ρ σ) {i:Nat} {d:D} {b:Bool} {v:V} (h:RepB C P N b d v):SR C P N H (ρ.set i (.val d b)) (σ.set i (some v)) where
 reg:=S.reg
 len:=by simp[S.len]
 sl:=fun j s e=>by
  by_cases q:i=j
  ·subst q
   have hi:i<ρ.length:=by
    rcases Nat.lt_or_ge i ρ.length with z | z
    ·exact z
    ·rw[List.getElem?_eq_none (by simpa using z)] at e;cases e
   rw[List.getElem?_set_self hi] at e
   cases e
   exact⟨some v,List.getElem?_set_self (by rw[S.len];exact hi),v,rfl,h⟩
  ·rw[List.getElem?_set_ne q] at e
   rw[List.getElem?_set_ne q]
   exact S.sl j s e
 ap:=fun j k p ds c es c' e1 e2 e3 e4=>by
  by_cases q:i=j
  ·subst q
   rcases Nat.lt_or_ge i ρ.length with z | z
   ·rw[List.getElem?_set_self z] at e1;cases e1
   ·rw[List.getElem?_eq_none (by simpa using z)] at e1;cases e1
  ·by_cases q2:i=k
   ·subst q2
    rcases Nat.lt_or_ge i ρ.length with z | z
    ·rw[List.getElem?_set_self z] at e2;cases e2
    ·rw[List.getElem?_eq_none (by simpa using z)] at e2;cases e2
   ·rw[List.getElem?_set_ne q] at e1 e3
    rw[List.getElem?_set_ne q2] at e2 e4
    exact S.ap j k p ds c es c' e1 e2 e3 e4
 ad:=S.ad.set rfl
 ar:=S.ar.set rfl
def ql4:List Nat→TGs
 |[]=>gNil
 |i::is=>gCons (gName i) (ql4 is)
def tG (C:Ctx) (tg:List Nat):TG:=fun v σ H Q=>∃ρ P N d b ρ',SR C P N H ρ σ∧RepB C P N b d v∧qdq tg d b ρ=some ρ'∧∀σ',SR C P N H ρ' σ'→(∀j,j∉tg→σ'[j]? = σ[j]?)→σ'.length=σ.length→Q σ' H
theorem qg6 {P N H:Hp} {b:Bool}:∀{tg:List Nat} {ds:List D} {xs:List V} {ρ ρ':List Sl} {σ:L2.St} {Q:L2.St→Hp→Prop},SR C P N H ρ σ→RepsB C P N b ds xs→qk3 tg ds b ρ=some ρ' →
  (∀σ',SR C P N H ρ' σ'→(∀j,j∉tg→σ'[j]? = σ[j]?)→σ'.length=σ.length→Q σ' H)→ql4 tg xs σ H Q
 |[],[],xs,ρ,ρ',σ,Q,S,h,e,q=>by
  cases h;cases e
  exact⟨rfl,q σ S (fun _ _=>rfl) rfl⟩
 |i::tg,d::ds,xs,ρ,ρ',σ,Q,S,⟨v,r,ex,h1,h2⟩,e,q=>by
  refine⟨v,r,ex,qg6 (S.setV (RepB.nf (C:=C) h1)) h2 e fun σ' S' hj hl=>q σ' S' (fun j hj'=>?_) (by rw[hl];simp)⟩
  simp only[List.mem_cons,not_or] at hj'
  rw[hj j hj'.2,List.getElem?_set_ne (fun z=>hj'.1 z.symm)]
 |[],d::ds,xs,ρ,ρ',σ,Q,S,h,e,q=>by cases e
 |i::tg,[],xs,ρ,ρ',σ,Q,S,h,e,q=>by cases e
theorem qnp {t:Expr} {g g':TG} (h:PG X t g) (f:∀v σ H Q,g' v σ H Q→g v σ H Q):PG X t g':=⟨fun pins s σ H v u Q I r q=>h.run pins s σ H v u Q I r (f _ _ _ _ q)⟩
theorem qpU {i:Nat} {x:Str} {pos:Pos} (hN:X.N.Nodup) (hi:X.N[i]? = some x) (hx:Loc X.env.scope x) (hf:X.fn x=true∨X.env.scope.names.lookup x=some .local):PG X (.Name x pos) (tG C [i]):=
 qnp (pg_name hN hi hx hf) fun v σ H Q q=>by
  obtain⟨ρ,P,N,d,b,ρ',S,h,e,q⟩:=q
  cases e
  refine q _ (S.setV (RepB.nf (C:=C) h)) (fun j hj=>?_) (by simp)
  rw[List.getElem?_set_ne (fun z=>hj (by simp[z]))]
def qv8 (K:PySem.W.Frag) (n:Nat) (t:TGs):TG:=fun v σ H Q=>∃a xs,v=.ref a∧SqL K H a xs∧xs.length=n∧t xs σ H Q
theorem qtr {es:List Expr} {k:Nat} {t:TGs} {n:Nat} {pos:Pos} (hc:X.calm=true) (h:PGs X es t) (hn:(assignEach es X.env).length=n) (hst:(assignEach es X.env).findIdx? (·.1)=none):PG X (.Tuple es k pos) (qv8 X.K n t):=by
 refine⟨fun pins s σ H v u Q I r hw=>?_⟩
 obtain⟨a,xs,e1,hq,hl,hw⟩:=hw
 subst e1
 cases r
 obtain⟨its,rv,p,hz⟩:=I.list hq
 rw[assign_Tuple]
 refine wpAny_bind (wpAny_standAt ?_)
 unfold unpack
 rw[show(assignEach es X.env).length=its.toArray.size by rw[hn,←hl,List.size_toArray,rv.length],hst]
 refine wpAny_bind (wpAny_holding (PySem.W.kun_itemsOf (I.ok.hd hc) p.isList fun h' hx=>?_))
 have I1:Inv X pins σ H { s with heap:=h' }:=I.kept (t':=s.toks) fun b o e=>hx b o (Nat.ne_of_lt (Heap.lt_size e)) e
 exact h.run pins _ σ H xs _ Q I1 (by simpa using rv) hw
theorem qu0 {t:Expr} {g g':TG} (h:PG X t g) (h':PG X t g'):PG X t (fun v σ H Q=>g v σ H Q∨g' v σ H Q):=⟨fun pins s σ H v u Q I r q=>by
 rcases q with q | q
 ·exact h.run pins s σ H v u Q I r q
 ·exact h'.run pins s σ H v u Q I r q⟩
theorem qsw {es:List Expr} {k:Nat} {tg:List Nat} {pos:Pos} (hK:X.K=C.G.K) (hc:X.calm=true) (h:PGs X es (ql4 tg)) (hl:es.length=tg.length) (h2:tg.length≠1) (hn:(assignEach es X.env).length=es.length) (hst:(assignEach es X.env).findIdx? (·.1)=none):PG X (.Tuple es k pos) (tG C tg):=
 qnp (qu0 (pg_tup hc h rfl hst) (qtr hc h rfl hst)) fun v σ H Q q=>by
  obtain⟨ρ,P,N,d,b,ρ',S,h,e,q⟩:=q
  have e':∃ds,(d=.tup ds∨d=.lst ds)∧qk3 tg ds b ρ=some ρ':=by
   unfold qdq at e
   split at e
   ·exact absurd rfl h2
   ·split at e
    ·exact⟨_,.inl rfl,e⟩
    ·exact⟨_,.inr rfl,e⟩
    ·cases e
  clear e
  obtain⟨ds,hd,e⟩:=e'
  have hlen:∀{tg:List Nat} {ds:List D} {ρ:List Sl},qk3 tg ds b ρ=some ρ'→ds.length=tg.length:=by
   intro tg
   induction tg with
   |nil=>intro ds ρ e;cases ds with
    |nil=>rfl
    |cons _ _=>cases e
   |cons i tg ih=>intro ds ρ e;cases ds with
    |nil=>cases e
    |cons d ds=>simp only[List.length_cons];rw[ih e]
  rcases hd with rfl | rfl
  ·obtain⟨a,xs,rfl,z1,z2⟩:=h
   refine .inl ⟨a,xs,rfl,hK ▸ Same.seqT S.reg.pH z1,?_,qg6 S z2 e q⟩
   rw[z2.length,hlen e,hn,hl]
  ·obtain⟨a,xs,rfl,z1,z2⟩:=h
   refine .inr ⟨a,xs,rfl,hK ▸ LNb.seq S.reg.pH S.reg.nH S.reg.rH _ _ z1,?_,qg6 S z2 e q⟩
   rw[z2.length,hlen e,hn,hl]
def Wok (C:Ctx) (P N H:Hp) (w:Wk) (J:It):Prop:=
 ∃(Gd:Hp→Prop) (Y:Nat→Hp→V→Hp→Prop),Walk J w.xs.length Gd Y∧(∀H2,L2.Same H H2→Gd H2)∧(w.own=false→∀P2 N2 H2,L2.Same P P2→L2.Same N N2→Reg C P2 N2 H2→Gd H2) ∧
  ∀i P2 N2 H2 x H3,i<w.xs.length→L2.Same P P2→L2.Same N N2→Reg C P2 N2 H2→Y i H2 x H3→∃P3,Adv P2 N2 H2 P3 N2 H3∧∃d,w.xs[i]? = some d∧RepB C P3 N2 w.b d x
def tI (C:Ctx) (g:List Sl→RE Wk):TI:=fun σ H R=>∃ρ P N,SR C P N H ρ σ∧res C σ P N H (g ρ) fun w P' N' H'=>∀J,Wok C P' N' H' w J→R J H'
theorem qeu {tg e:Expr} {t u:TI} (h:PI X tg e t) (f:∀σ H R,u σ H R→t σ H R):PI X tg e u:=⟨fun pins s σ H R I q=>h.run pins s σ H R I (f _ _ _ q)⟩
theorem qpD {P N H:Hp} {er:ER} {ds:List D} {p:Addr} {xs:List V} (r:Reg C P N H) (hd:er.d=.lst ds) {H0:Hp} (h:ERr C P N H H0 er.frz (.ref p)) (h2:SqL C.G.K H p xs) (h3:RepsB C P N er.b ds xs) (hs:er.frz.isB=false→LNb C.G.K P N C.R er.b p xs):Wok C P N H ⟨ds,er.b,er.frz.isB⟩ (Itl C.G.K p):=by
 refine⟨fun H=>SqL C.G.K H p xs,YAt xs,?_,fun H2 e=>L2.Same.seq e h2,fun e P2 N2 H2 e1 e2 r2=>?_,fun i P2 N2 H2 x H3 hi e1 e2 r2 y=>?_⟩
 ·have:=walk_list (K:=C.G.K) (a:=p) (xs:=xs)
  rw[h3.length] at this
  exact this
 ·exact LNb.seq r2.pH r2.nH r2.rH _ _ (LNb.mono e1 e2 _ _ (hs e))
 ·obtain⟨rfl,e⟩:=y
  refine⟨P2,Adv.refl r2.pH r2.nH,ds[i]'hi,by simp,?_⟩
  obtain⟨v,q1,q2⟩:=Reps.get h3 (List.getElem?_eq_getElem hi)
  rw[q1] at e;cases e
  exact RepB.adv e1 e2 q2
theorem ERr.frz_lst {P N H H0:Hp} (r:Reg C P N H) {er:ER} {ds:List D} {v:V} (hd:er.d=.lst ds) (h:ERr C P N H H0 er.frz v):∃p xs,v=.ref p∧SqL C.G.K H p xs∧RepsB C P N er.b ds xs∧(er.frz.isB=false→LNb C.G.K P N C.R er.b p xs):=by
 cases er with
 |val d b =>
  have hd:d=.lst ds:=hd
  subst hd
  obtain⟨p,xs,e,h1,h2⟩:=h
  exact⟨p,xs,e,LNb.seq r.pH r.nH r.rH _ _ h1,h2,fun _=>h1⟩
 |fre d b =>
  have hd:D.lst d=.lst ds:=hd
  cases hd
  obtain⟨p,xs,e,h1,h2⟩:=h
  exact⟨p,xs,e,LNb.seq r.pH r.nH r.rH _ _ h1,h2,fun _=>h1⟩
 |brw d b =>
  have hd:D.lst d=.lst ds:=hd
  cases hd
  obtain⟨p,xs,e,h1,_,_,_,h2⟩:=h
  exact⟨p,xs,e,.inl (.inl h1),h2,fun z=>by cases z⟩
theorem qtS (er:ER):er.frz.d=er.d:=by cases er<;>rfl
theorem quG (er:ER):er.frz.b=er.b:=by cases er<;>rfl
theorem qhj (er:ER):er.frz.isB=er.isB:=by cases er<;>rfl
def qu7 (K:PySem.W.Frag) (t:TE):TI:=fun σ H R=>t σ H fun v H1=>((∃a,v=.ref a∧(∃xs,SqL K H1 a xs)∧R (Itl K a) H1)∨(∃a,v=.ref a∧(∃xs,SqT K H1 a xs)∧R (Itt K a) H1))∨∃x,v=.str x∧R (Its x) H1
theorem qqL {tg e:Expr} {t:TE} (h:PE X e t):PI X tg e (qu7 X.K t):=by
 refine⟨fun pins s σ H R I q=>?_⟩
 refine thn (h.run pins s σ H _ I q) fun v s1 ⟨x,H1,I1,r1,q1⟩=>?_
 rcases q1 with(⟨a,e,⟨xs,sq⟩,q⟩ | ⟨a,e,⟨xs,sq⟩,q⟩) | ⟨z,e,q⟩
 ·subst e
  cases r1
  obtain⟨vl,rw0,p,zl⟩:=I1.list sq
  refine wpAny_pyIter_list p.isList ?_
  refine⟨s1.heap.objs.size,[s1.heap.objs.size],_,_,H1,rfl,I1.kept (t':=s1.toks) fun b o e=>Heap.get?_push_of_some _ e,turn_list a _,⟨_,Heap.get?_push_size _ rfl,rfl,rfl⟩,fun b hb0=>?_,q⟩
  have eb:b=s1.heap.objs.size:=by simpa using hb0
  subst eb
  exact I1.fpOk (Nat.le_refl s1.heap.objs.size) (I1.hok.fresh (Nat.le_refl s1.heap.objs.size))
 ·subst e
  cases r1
  obtain⟨vl,rw0,p,zl⟩:=I1.tuple sq
  refine wpAny_pyIter_tuple (show s1.heap.IsTuple a vl.toArray from p) ?_
  refine⟨s1.heap.objs.size,[s1.heap.objs.size],_,_,H1,rfl,I1.kept (t':=s1.toks) fun b o e=>Heap.get?_push_of_some _ e,turn_tuple a _,⟨_,Heap.get?_push_size _ rfl,rfl,rfl⟩,fun b hb0=>?_,q⟩
  have eb:b=s1.heap.objs.size:=by simpa using hb0
  subst eb
  exact I1.fpOk (Nat.le_refl s1.heap.objs.size) (I1.hok.fresh (Nat.le_refl s1.heap.objs.size))
 ·subst e
  obtain⟨t,rfl⟩:=r1
  cases ha:z.cps.all (· < 128)
  ·exact wpAny_pyIter_wide ha (pi_one (tk:=s1.toks) I1 _ (turn_str _ z t "str_iterator" (.inr rfl)) ⟨_,Heap.get?_push_size _ rfl,rfl,rfl⟩ q)
  ·exact wpAny_pyIter_ascii ha (pi_one (tk:=s1.toks) I1 _ (turn_str _ z t "str_ascii_iterator" (.inl rfl)) ⟨_,Heap.get?_push_size _ rfl,rfl,rfl⟩ q)
theorem qse {g:List Sl→RE ER} {σ:L2.St} {H:Hp} {R:It→Hp→Prop} (h:tI C (fun ρ=>(g ρ).bind qj1) σ H R):qu7 C.G.K (tE C g) σ H R:=by
 obtain⟨ρ,P,N,S,h⟩:=h
 refine⟨ρ,P,N,S,h.bind.mono fun x P1 N1 H1 e1 a1 h1 v rv=>?_⟩
 obtain⟨N2,a2,rv⟩:=rv.freeze a1
 have r2:=(S.adv a2).reg
 have h2:res C σ P1 N2 H1 (qj1 x) fun w P' N' H'=>∀J,Wok C P' N' H' w J→R J H':=by
  simp only[e1,RE.bind_ok] at h
  exact res.adv a2 h
 unfold qj1 at h2
 split at h2
 ·rename_i ds q
  obtain⟨p,xs,rfl,z1,z2,z3⟩:=rv.frz_lst r2 q
  have:=qpD r2 q rv z1 z2 z3
  rw[qhj] at this
  exact .inl (.inl ⟨p,rfl,⟨xs,z1⟩,h2.now r2 _ this⟩)
 ·rename_i ds q
  have w:=rv.w r2
  rw[qtS,q] at w
  have w0:=w
  obtain⟨p,xs,rfl,z1,z2⟩:=w
  rw[quG] at z2
  refine .inl (.inr ⟨p,rfl,⟨xs,Same.seqT r2.pH z1⟩,h2.now r2 _ ⟨fun H=>SqT C.G.K H p xs,YAt xs,?_,fun H2 e=>Same.seqT (r2.pH.trans e) z1,fun _ P2 N2 H2 e1 e2 r3=>Same.seqT (e1.trans r3.pH) z1,fun i P2 N2 H2 x H3 hi e1 e2 r2 y=>?_⟩⟩)
  ·have:=walk_tup (K:=C.G.K) (a:=p) (xs:=xs)
   rw[z2.length] at this
   exact this
  ·obtain⟨rfl,e⟩:=y
   refine⟨P2,Adv.refl r2.pH r2.nH,ds[i]'hi,by simp,?_⟩
   obtain⟨v,q1,q2⟩:=Reps.get z2 (List.getElem?_eq_getElem hi)
   rw[q1] at e;cases e
   exact RepB.adv e1 e2 q2
 ·rename_i s q
  have w:=rv.w r2
  rw[qtS,q] at w
  cases w.str
  refine .inr ⟨_,rfl,h2.now r2 _ ⟨fun _=>True,fun i H v H'=>H'=H∧∃c,s[i]? = some c∧v=.str ⟨#[c]⟩,?_,fun _ _=>trivial,fun _ _ _ _ _ _ _=>trivial,fun i P2 N2 H2 x H3 hi e1 e2 r2 y=>?_⟩⟩
  ·have:=walk_str (z:=(⟨s.toArray⟩:Str))
   simpa using this
  ·obtain⟨rfl,c,e,rfl⟩:=y
   refine⟨P2,Adv.refl r2.pH r2.nH,.str [c],?_,rfl⟩
   simp[e]
 ·exact h2.elim
theorem qq0 {tg e:Expr} {g:List Sl→RE ER} (hK:X.K=C.G.K) (h:PE X e (tE C g)):PI X tg e (tI C fun ρ=>(g ρ).bind qj1):=
 qeu (qqL h) fun σ H R q=>by rw[hK];exact qse q
theorem qnB {P N H:Hp} (i:Int) (n:Nat):Wok C P N H ⟨(qfC i 1 n).map D.int,true,false⟩ (Itr i n):=by
 refine⟨fun _=>True,YFn fun k=>.int (i+k),?_,fun _ _=>trivial,fun _ _ _ _ _ _ _=>trivial,fun k P2 N2 H2 x H3 hi e1 e2 r2 y=>?_⟩
 ·have:=walk_range (lo:=i) (n:=n)
  simpa[qfC] using this
 ·obtain⟨rfl,rfl⟩:=y
  have hk:k<n:=by simpa[qfC] using hi
  refine⟨P2,Adv.refl r2.pH r2.nH,.int (i+k),?_,rfl⟩
  simp[qfC,hk]
theorem qlU {P N H:Hp} (i c:Int) (n:Nat):Wok C P N H ⟨(qfC i c n).map D.int,true,false⟩ (Itc i c n):=by
 refine⟨fun _=>True,YFn fun k=>.int (i+(k:Nat)*c),?_,fun _ _=>trivial,fun _ _ _ _ _ _ _=>trivial,fun k P2 N2 H2 x H3 hi e1 e2 r2 y=>?_⟩
 ·have:=walk_rangeC (lo:=i) (c:=c) (n:=n)
  simpa[qfC] using this
 ·obtain⟨rfl,rfl⟩:=y
  have hk:k<n:=by simpa[qfC] using hi
  refine⟨P2,Adv.refl r2.pH r2.nH,.int (i+k*c),?_,rfl⟩
  simp[qfC,hk]
abbrev quV (g:List Sl→RE (List ER)):List Sl→RE Wk:=fun ρ=>(g ρ).bind fun r=>(qeJ r).bind fun ns=>.ok ⟨ns.map D.int,true,false⟩
theorem qp3 {tg a:Expr} {g:List Sl→RE (List ER)} {p pos:Pos} (hg:Gl X "range") (hm:X.mg "range" = none) (ha:PA X [a] (tA C g)) (hl:∀ρ r,g ρ=.ok r→r.length=1) (hs:starEach [a] X.env=[(false,eval a X.env)]):PI X tg (.Call (.Name "range" p) [a] [] pos) (tI C (quV g)):=
 qeu (pi_range1 hg hm ha hs) fun σ H R q=>by
  obtain⟨ρ,P,N,S,h⟩:=q
  refine⟨ρ,P,N,S,h.bind.mono fun r P1 N1 H1 e1 a1 h1 vs rv=>?_⟩
  have r1:=(S.adv a1).reg
  match r,hl _ _ e1,rv,h1 with
  |[x],_,rv,h1 =>
   obtain⟨v,u,rfl,w,rv⟩:=rv.w r1
   cases rv
   simp only[qeJ,qeM,qbE,qas,qbx,qbt,qbA,qbz,qbJ,qbu,qa4,qbs] at h1
   split at h1
   ·rename_i n q
    rw[q] at w
    split at h1
    ·rename_i hl
     have hl:=qk1 hl
     refine⟨n,by rw[w.int],hl.1.1,hl.1.2,?_⟩
     exact h1.now r1 _ (qnB 0 n.toNat)
    ·exact h1.elim
   ·exact h1.elim
theorem qpB {tg a b:Expr} {g:List Sl→RE (List ER)} {p pos:Pos} (hg:Gl X "range") (hm:X.mg "range" = none) (ha:PA X [a,b] (tA C g)) (hl:∀ρ r,g ρ=.ok r→r.length=2) (hs:starEach [a,b] X.env=[(false,eval a X.env),(false,eval b X.env)]) (hs2:starEach [b] X.env=[(false,eval b X.env)]) :
  PI X tg (.Call (.Name "range" p) [a,b] [] pos) (tI C (quV g)):=
 qeu (pi_range2 hg hm ha hs hs2) fun σ H R q=>by
  obtain⟨ρ,P,N,S,h⟩:=q
  refine⟨ρ,P,N,S,h.bind.mono fun r P1 N1 H1 e1 a1 h1 vs rv=>?_⟩
  have r1:=(S.adv a1).reg
  match r,hl _ _ e1,rv,h1 with
  |[x,y],_,rv,h1 =>
   obtain⟨v,u,rfl,w,rv⟩:=rv.w r1
   obtain⟨v2,u2,rfl,w2,rv⟩:=rv.w r1
   cases rv
   simp only[qeJ,qeM,qbE,qas,qbx,qbt,qbA,qbz,qbJ,qbu,qa4,qbs] at h1
   split at h1
   ·rename_i i j q q2
    rw[q] at w
    rw[q2] at w2
    split at h1
    ·rename_i hl
     have hl:=qni hl
     refine⟨i,j,by rw[w.int,w2.int],⟨hl.1.1,hl.1.2,hl.2.1.1,hl.2.1.2⟩,?_⟩
     exact h1.now r1 _ (qnB i (j - i).toNat)
    ·exact h1.elim
   ·exact h1.elim
theorem qrd {tg a:Expr} {g:List Sl→RE ER} {p p2 pos pos2:Pos} (hg:Gl X "reversed") (hm:X.mg "reversed" = none) (hg2:Gl X "range") (hm2:X.mg "range" = none) (ha:PE X a (tE C g)) (hs:starEach [a] X.env=[(false,eval a X.env)]) :
  PI X tg (.Call (.Name "reversed" p2) [.Call (.Name "range" p) [a] [] pos] [] pos2) (tI C fun ρ=>(g ρ).bind fun x=>match x.d with
  |.int n=>gd (qmo n) (.ok ⟨(qfC (0+(((n - 0).toNat:Nat):Int) - 1) (-1) (n - 0).toNat).map D.int,true,false⟩)
  |_=>.bad):=
 qeu (pi_revR hg hm (prg_1 hg2 hm2 ha hs)) fun σ H R q=>by
  obtain⟨ρ,P,N,S,h⟩:=q
  refine⟨ρ,P,N,S,h.bind.mono fun x P1 N1 H1 e1 a1 h1 v rv=>?_⟩
  have r1:=(S.adv a1).reg
  split at h1
  ·rename_i n q
   have w:=rv.w r1
   rw[q] at w
   simp only[qeM] at h1
   split at h1
   ·rename_i hl
    have hl:=qk1 hl
    refine⟨n,w.int,by decide,by decide,hl.1.1,hl.1.2,?_⟩
    exact h1.now r1 _ (qlU _ (-1) _)
   ·exact h1.elim
  ·exact h1.elim
theorem qtN {i j c:Int} (h:c≠0∧c.natAbs<1073741824∧Builtin.Range.small i j c=true∧0≤Builtin.Range.rangeSize i j c∧qsJ i j c≤LIM):RgC i j c (qsJ i j c):=
 ⟨h.1,h.2.1,h.2.2.1,(Int.toNat_of_nonneg h.2.2.2.1).symm⟩
theorem qpo {tg a b c:Expr} {g:List Sl→RE (List ER)} {p pos:Pos} (hg:Gl X "range") (hm:X.mg "range" = none) (ha:PA X [a,b,c] (tA C g)) (hl:∀ρ r,g ρ=.ok r→r.length=3) (hs:starEach [a,b,c] X.env=(false,eval a X.env)::starEach [b,c] X.env) (hpl:(backTo pos (starEach [b,c] X.env)).any (·.1)=false) :
  PI X tg (.Call (.Name "range" p) [a,b,c] [] pos) (tI C (quV g)):=
 qeu (pi_range3 hg hm ha hs hpl) fun σ H R q=>by
  obtain⟨ρ,P,N,S,h⟩:=q
  refine⟨ρ,P,N,S,h.bind.mono fun r P1 N1 H1 e1 a1 h1 vs rv=>?_⟩
  have r1:=(S.adv a1).reg
  match r,hl _ _ e1,rv,h1 with
  |[x,y,z],_,rv,h1 =>
   obtain⟨v,u,rfl,w,rv⟩:=rv.w r1
   obtain⟨v2,u2,rfl,w2,rv⟩:=rv.w r1
   obtain⟨v3,u3,rfl,w3,rv⟩:=rv.w r1
   cases rv
   simp only[qeJ,qeM,qbE,qas,qbx,qbt,qbA,qbz,qbJ,qbu,qa4,qbs] at h1
   split at h1
   ·rename_i i j c q q2 q3
    rw[q] at w
    rw[q2] at w2
    rw[q3] at w3
    split at h1
    ·rename_i hl
     exact⟨i,j,c,_,by rw[w.int,w2.int,w3.int],qtN hl,h1.now r1 _ (qlU i c _)⟩
    ·exact h1.elim
   ·exact h1.elim
theorem qlF {P N H H':Hp} (r:Reg C P N H) {T:Addr} {x y:V} {d e:D} {b:Bool} (hT:H T=none) (eH:H'=upd H T (.tup [x,y])) (h:RepB C P N b d x) (h':RepB C P N b e y):∃P3,Adv P N H P3 N H'∧RepB C P3 N b (.tup [d,e]) (.ref T):=by
 subst eH
 have sp:=qaA (o:=.tup [x,y]) (r.pH.free hT)
 exact⟨upd P T (.tup [x,y]),(Adv.refl r.pH r.nH).newP hT,T,[x,y],rfl,.inl (.inl upd_same),x,[y],rfl,RepB.adv sp (L2.Same.refl _) h,y,[],rfl,RepB.adv sp (L2.Same.refl _) h',rfl⟩
theorem qs2 {a:Expr} {elts:List Expr} {kk:Nat} {g:List Sl→RE ER} {p pos tpos:Pos} (hK:X.K=C.G.K) (hg:Gl X "enumerate") (hm:X.mg "enumerate" = none) (h:PE X a (tE C g)) (hs:starEach [a] X.env=[(false,eval a X.env)]) :
  PI X (.Tuple elts kk tpos) (.Call (.Name "enumerate" p) [a] [] pos) (tI C fun ρ=>(g ρ).bind fun x=>match x.d with
  |.lst xs=>.ok ⟨xs.zipIdx.map fun p=>.tup [.int p.2,p.1],x.b,x.isB⟩
  |_=>.bad):=
 qeu (pi_enum hg hm (pa_cons h pa_nil hs) hs) fun σ H R q=>by
  rw[hK]
  obtain⟨ρ,P,N,S,h⟩:=q
  refine⟨ρ,P,N,S,h.bind.mono fun x P1 N1 H1 e1 a1 h1 v rv=>?_⟩
  obtain⟨N2,a2,rv⟩:=rv.freeze a1
  have r2:=(S.adv a2).reg
  cases q:x.d with
  |lst ds =>
   simp only[e1,RE.bind_ok,q] at h
   have h2:=res.adv a2 h
   obtain⟨p,xs,rfl,z1,z2,z3⟩:=rv.frz_lst r2 q
   refine⟨p,xs,rfl,z1,h2.now r2 _ ⟨fun H=>SqL C.G.K H p xs,YPair (fun i=>some (.int (i:Nat))) (fun i=>xs[i]?),?_,fun H2 e=>L2.Same.seq e z1,fun e P2 N2 H2 e1 e2 r2=>?_,fun i P2 N2 H2 x H3 hi e1 e2 r2 y=>?_⟩⟩
   ·have:=walk_enum (K:=C.G.K) (a:=p) (xs:=xs)
    rw[z2.length] at this
    simpa using this
   ·exact LNb.seq r2.pH r2.nH r2.rH _ _ (LNb.mono e1 e2 _ _ (z3 (by rw[qhj];exact e)))
   ·obtain⟨T,x,y,rfl,hT,eH,ex,ey⟩:=y
    cases ex
    have hi:i<ds.length:=by simpa using hi
    obtain⟨v,q1,q2⟩:=Reps.get z2 (List.getElem?_eq_getElem hi)
    replace ey:xs[i]? = some y:=ey
    rw[q1] at ey;cases ey
    obtain⟨P3,q3,q4⟩:=qlF r2 hT eH (d:=.int i) rfl (RepB.adv e1 e2 q2)
    exact⟨P3,q3,_,by simp[hi],q4⟩
  |_=>simp only[q] at h1;exact h1.elim
theorem qsR {tg a:Expr} {g:List Sl→RE ER} {p pos:Pos} (hK:X.K=C.G.K) (hg:Gl X "reversed") (hm:X.mg "reversed" = none) (h:PE X a (tE C g)) (hs:starEach [a] X.env=[(false,eval a X.env)]) :
  PI X tg (.Call (.Name "reversed" p) [a] [] pos) (tI C fun ρ=>(g ρ).bind fun x=>match x.d with
  |.lst xs=>.ok ⟨xs.reverse,x.b,x.isB⟩
  |_=>.bad):=
 qeu (pi_reversed hg hm (pa_cons h pa_nil hs) hs) fun σ H R q=>by
  rw[hK]
  obtain⟨ρ,P,N,S,h⟩:=q
  refine⟨ρ,P,N,S,h.bind.mono fun x P1 N1 H1 e1 a1 h1 v rv=>?_⟩
  obtain⟨N2,a2,rv⟩:=rv.freeze a1
  have r2:=(S.adv a2).reg
  cases q:x.d with
  |lst ds =>
   simp only[e1,RE.bind_ok,q] at h
   have h2:=res.adv a2 h
   obtain⟨p,xs,rfl,z1,z2,z3⟩:=rv.frz_lst r2 q
   refine⟨p,xs,rfl,z1,h2.now r2 _ ⟨fun H=>SqL C.G.K H p xs,fun i H x H'=>H'=H∧xs[xs.length - 1 - i]? = some x,?_,fun H2 e=>L2.Same.seq e z1,fun e P2 N2 H2 e1 e2 r2=>?_,fun i P2 N2 H2 x H3 hi e1 e2 r2 y=>?_⟩⟩
   ·have:=walk_rev (K:=C.G.K) (a:=p) (xs:=xs)
    have e:=z2.length
    simp only[List.length_reverse]
    rw[←e]
    exact this
   ·exact LNb.seq r2.pH r2.nH r2.rH _ _ (LNb.mono e1 e2 _ _ (z3 (by rw[qhj];exact e)))
   ·obtain⟨rfl,ex⟩:=y
    have hi:i<ds.length:=by simpa using hi
    have hj:ds.length - 1 - i<ds.length:=by omega
    rw[z2.length] at ex
    obtain⟨v,q1,q2⟩:=Reps.get z2 (List.getElem?_eq_getElem hj)
    rw[q1] at ex;cases ex
    refine⟨P2,Adv.refl r2.pH r2.nH,_,?_,RepB.adv e1 e2 q2⟩
    rw[List.getElem?_reverse hi,List.getElem?_eq_getElem]
  |_=>simp only[q] at h1;exact h1.elim
theorem qtC {a a':Expr} {elts:List Expr} {kk:Nat} {g g':List Sl→RE ER} {p pos tpos:Pos} (hK:X.K=C.G.K) (hg:Gl X "zip") (hm:X.mg "zip" = none) (h:PE X a (tE C g)) (h':PE X a' (tE C g')) (hs:starEach [a,a'] X.env=(false,eval a X.env)::starEach [a'] X.env) (hs2:starEach [a'] X.env=[(false,eval a' X.env)]) (hpl:(backTo pos (starEach [a'] X.env)).any (·.1)=false) :
  PI X (.Tuple elts kk tpos) (.Call (.Name "zip" p) [a,a'] [] pos) (tI C fun ρ=>(g ρ).bind fun x=>(g' ρ).bind fun y=>match x.d,y.d with
  |.lst xs,.lst ys=>.ok ⟨List.zipWith (fun u v=>.tup [u,v]) xs ys,x.b&&y.b,x.isB||y.isB⟩
  |_,_=>.bad):=
 qeu (pi_zip hg hm (pa_cons h (pa_cons h' pa_nil hs2) hs) hs hpl) fun σ H R q=>by
  rw[hK]
  obtain⟨ρ,P,N,S,h⟩:=q
  refine⟨ρ,P,N,S,h.bind.mono fun x P1 N1 H1 e1 a1 h1 v rv=>?_⟩
  obtain⟨N2,a2,rv⟩:=rv.freeze a1
  simp only[e1,RE.bind_ok] at h
  have h2:=res.adv a2 h
  refine⟨ρ,P1,N2,S.adv a2,(res.bind h2).mono fun y P3 N3 H3 e3 a3 h3 u ru=>?_⟩
  obtain⟨N4,a4,ru⟩:=ru.freeze a3
  have r4:=((S.adv a2).adv a4).reg
  simp only[e3,RE.bind_ok] at h2
  have h4:=res.adv a4 h2
  have rv4:=rv.adv a4
  split at h4
  ·rename_i ds es q q2
   obtain⟨p,xs,rfl,z1,z2,z3⟩:=rv4.frz_lst r4 q
   obtain⟨p2,ys,rfl,y1,y2,y3⟩:=ru.frz_lst r4 q2
   refine⟨p,p2,xs,ys,rfl,z1,y1,h4.now r4 _ ⟨fun H=>SqL C.G.K H p xs∧SqL C.G.K H p2 ys,YPair (fun i=>xs[i]?) (fun i=>ys[i]?),?_,fun H2 e=>⟨L2.Same.seq e z1,L2.Same.seq e y1⟩,fun e P2 N2 H2 e1 e2 r2=>?_,fun i P2 N2 H2 x H3 hi e1 e2 r2 y=>?_⟩⟩
   ·have:=walk_zip (K:=C.G.K) (a:=p) (b:=p2) (xs:=xs) (ys:=ys) rfl
    rw[z2.length,y2.length] at this
    simpa using this
   ·simp only[Bool.or_eq_false_iff] at e
    exact⟨LNb.seq r2.pH r2.nH r2.rH _ _ (LNb.mono e1 e2 _ _ (z3 (by rw[qhj];exact e.1))),LNb.seq r2.pH r2.nH r2.rH _ _ (LNb.mono e1 e2 _ _ (y3 (by rw[qhj];exact e.2)))⟩
   ·obtain⟨T,x,y,rfl,hT,eH,ex,ey⟩:=y
    have hi':i<ds.length∧i<es.length:=by
     have:i<min ds.length es.length:=by simpa using hi
     omega
    replace ex:xs[i]? = some x:=ex
    replace ey:ys[i]? = some y:=ey
    obtain⟨v,q1,q2⟩:=Reps.get z2 (List.getElem?_eq_getElem hi'.1)
    rw[q1] at ex;cases ex
    obtain⟨v,q5,q6⟩:=Reps.get y2 (List.getElem?_eq_getElem hi'.2)
    rw[q5] at ey;cases ey
    obtain⟨P3,q3,q4⟩:=qlF r2 hT eH (RepB.adv e1 e2 (RepB.and1 q2)) (RepB.adv e1 e2 (RepB.and2 q6))
    exact⟨P3,q3,_,by rw[List.getElem?_zipWith,List.getElem?_eq_getElem hi'.1,List.getElem?_eq_getElem hi'.2],q4⟩
  ·exact h4.elim
end
end Cm
namespace Cm
open PySem PySem.Spec PyProof.Rows L2
def Ctx.nx (C:Ctx):Ctx:={ C with W:=fun _ _ _ _=>False }
section
variable {C:Ctx} {X:Cx}
theorem Reg.nx {P N H:Hp} (r:Reg C P N H):Reg C.nx P N H:=⟨r.pH,r.nH,r.bH,r.rB,r.p0,r.pn,r.nw,r.dj⟩
theorem Reg.unx {P N H:Hp} (r:Reg C.nx P N H):Reg C P N H:=⟨r.pH,r.nH,r.bH,r.rB,r.p0,r.pn,r.nw,r.dj⟩
theorem SlR.nx {P N H:Hp} {s:Sl} {o:Option V} (h:SlR C P N H s o):SlR C.nx P N H s o:=by cases s<;>exact h
theorem SR.nx {P N H:Hp} {ρ:List Sl} {σ:L2.St} (S:SR C P N H ρ σ):SR C.nx P N H ρ σ:=⟨S.reg.nx,S.len,fun i s e=>by
 obtain⟨o,h1,h2⟩:=S.sl i s e
 exact⟨o,h1,h2.nx⟩,S.ap,S.ad,S.ar⟩
theorem ERr.unx {P N H H0:Hp} {er:ER} {v:V} (h:ERr C.nx P N H H0 er v):ERr C P N H H0 er v:=by cases er<;>exact h
theorem qb4 {σ:L2.St}:∀{vs:List Nat} {j:Nat},j∉vs→(wipe σ vs)[j]? = σ[j]?
 |[],_,_=>rfl
 |v::vs,j,h=>by
  simp only[List.mem_cons,not_or] at h
  unfold wipe
  rw[List.getElem?_set_ne (fun z=>h.1 z.symm)]
  exact qb4 h.2
theorem qkB {σ:L2.St}:∀{vs:List Nat} {j:Nat},j∈vs→j<σ.length→(wipe σ vs)[j]? = some none
 |v::vs,j,h,hj=>by
  unfold wipe
  by_cases q:v=j
  ·subst q
   rw[List.getElem?_set_self (by rw[wipe_length];exact hj)]
  ·rw[List.getElem?_set_ne q]
   rcases List.mem_cons.mp h with h | h
   ·exact absurd h.symm q
   ·exact qkB h hj
theorem qk9 {σ σ':L2.St} {vs:List Nat} (hl:σ'.length=σ.length) (h:∀j,j∉vs→σ'[j]? = σ[j]?):wipe σ' vs=wipe σ vs:=by
 apply List.ext_getElem?
 intro j
 by_cases q:j∈vs
 ·by_cases hj:j<σ.length
  ·rw[qkB q hj,qkB q (by rw[hl];exact hj)]
  ·rw[List.getElem?_eq_none (by rw[wipe_length];omega),List.getElem?_eq_none (by rw[wipe_length];omega)]
 ·rw[qb4 q,qb4 q,h j q]
theorem qjH {σ:L2.St} {vs:List Nat}:wipe (wipe σ vs) vs=wipe σ vs:=by
 refine qk9 (wipe_length _ _) fun j h=>qb4 h
theorem qgN {ρ:List Sl}:∀{vs:List Nat},(wipeS ρ vs).length=ρ.length
 |[]=>rfl
 |v::vs=>by unfold wipeS;rw[List.length_set];exact qgN
theorem qcL {ρ:List Sl}:∀{vs:List Nat} {j:Nat} {s:Sl},(wipeS ρ vs)[j]? = some s→s=.non∨(j∉vs∧ρ[j]? = some s)
 |[],_,_,h=>.inr ⟨by simp,h⟩
 |v::vs,j,s,h=>by
  unfold wipeS at h
  by_cases q:v=j
  ·subst q
   by_cases hv:v<(wipeS ρ vs).length
   ·rw[List.getElem?_set_self hv] at h;cases h;exact .inl rfl
   ·rw[List.getElem?_eq_none (by simpa using hv)] at h;cases h
  ·rw[List.getElem?_set_ne q] at h
   rcases qcL h with h | h
   ·exact .inl h
   ·exact .inr ⟨by simp only[List.mem_cons,not_or];exact⟨fun z=>q z.symm,h.1⟩,h.2⟩
theorem SR.wiped {P N H:Hp} {ρ:List Sl} {σ:L2.St} (S:SR C P N H ρ σ) (vs:List Nat):SR C P N H (wipeS ρ vs) (wipe σ vs) where
 reg:=S.reg
 len:=by rw[wipe_length,qgN,S.len]
 sl:=fun i s e=>by
  rcases qcL e with rfl | ⟨h1,h2⟩
  ·have hi:i<(wipeS ρ vs).length:=by
    rcases Nat.lt_or_ge i (wipeS ρ vs).length with z | z
    ·exact z
    ·rw[List.getElem?_eq_none z] at e;cases e
   rw[qgN,←S.len,←wipe_length σ vs] at hi
   exact⟨_,List.getElem?_eq_getElem hi,trivial⟩
  ·rw[qb4 h1]
   exact S.sl i s h2
 ap:=fun i j p ds b es c e1 e2 e3 e4=>by
  rcases qcL e1 with z | ⟨h1,h2⟩
  ·cases z
  rcases qcL e2 with z | ⟨h3,h4⟩
  ·cases z
  rw[qb4 h1] at e3
  rw[qb4 h3] at e4
  exact S.ap i j p ds b es c h2 h4 e3 e4
 ad:=S.ad.sub fun i m b e=>by
  rcases qcL e with z | ⟨h1,h2⟩
  ·cases z
  ·exact⟨qb4 h1,_,_,h2⟩
 ar:=⟨fun i j dss t o u a e1 e2 e3 e4 k1 k2=>by
  rcases qcL e1 with z | ⟨h1,h2⟩
  ·cases z
  rcases qcL e2 with z | ⟨h3,h4⟩
  ·subst z;cases k2
  rw[qb4 h1] at e3
  rw[qb4 h3] at e4
  exact S.ar.un i j dss t o u a h2 h4 e3 e4 k1 k2⟩
def tIl (C:Ctx) (g:List Sl→RE Wk):TI:=fun σ H R=>∃ρ P N,SR C P N H ρ σ∧res C σ P N H (g ρ) fun w P' N' H'=>∀J,Wok C P' N' H' w J→w.xs.length≤sizeLine→R J H'
abbrev gLc (own tg:List Nat) (gi:List Sl→RE Wk) (gc:List Sl→RE Bool) (ge:List Sl→RE ER):List Sl→RE ER:=fun ρ=>(gi ρ).bind fun xs=>gd (leB xs.xs.length) ((lcl (fun x=>match qdq tg x xs.b (wipeS ρ own) with
   |some ρ'=>noX ((gc ρ').bind fun k=>if k=true then (ge ρ').bind fun y=>match y with
    |.brw _ _=>.bad
    |y=>.ok (some (y.d,y.b)) else .ok none)
   |none=>.bad) xs.xs).bind fun r=>.ok (.fre r.1 r.2))
theorem qpK {f:D→RE (Option (D × Bool))} {x:D} {xs:List D} {r:List D × Bool} (h:lcl f (x::xs)=.ok r):∃a q,f x=.ok a∧lcl f xs=.ok q∧r=match a with
  |none=>q
  |some y=>(y.1::q.1,y.2&&q.2):=by
 unfold lcl at h
 cases e:f x with
 |bad=>rw[e] at h;cases h
 |exc c fs=>rw[e] at h;cases h
 |ok a =>
  rw[e] at h
  cases e2:lcl f xs with
  |bad=>rw[e2] at h;cases h
  |exc c fs=>rw[e2] at h;cases h
  |ok q =>
   rw[e2] at h
   refine⟨a,q,rfl,rfl,?_⟩
   cases a<;>cases h<;>rfl
theorem qqD {f:D→RE (Option (D × Bool))} (hf:∀x,qhM (f x)):∀xs,qhM (lcl f xs)
 |[]=>trivial
 |x::xs=>by
  unfold lcl
  have h1:=hf x
  have h2:=qqD hf xs
  cases e:f x with
  |bad=>trivial
  |exc c fs=>rw[e] at h1;exact h1.elim
  |ok a =>
   cases e2:lcl f xs with
   |bad=>trivial
   |exc c fs=>rw[e2] at h2;exact h2.elim
   |ok q=>cases a<;>trivial
theorem qtz {α:Type} (r:RE α):qhM (noX r):=by cases r<;>trivial
theorem qtP {α:Type} {r:RE α} {a:α} (h:noX r=.ok a):r=.ok a:=by
 cases r with
 |bad=>cases h
 |ok b=>exact h
 |exc c fs=>cases h
theorem qqs {own tg:List Nat} {gi:List Sl→RE Wk} {gc:List Sl→RE Bool} {ge:List Sl→RE ER} (hsub:∀i∈tg,i∈own) {σ:L2.St} {H:Hp} {Q:VK} (h:tE C (gLc own tg gi gc ge) σ H Q) :
  tLc (tI C gi) (tG C.nx tg) (tT C.nx gc) (tE C.nx ge) own σ H Q:=by
 obtain⟨ρ,P,N,S,h⟩:=h
 refine⟨ρ,P,N,S,h.bind.mono fun w P1 N1 H1 e1 a1 h1 J wj D hD=>?_⟩
 have S1:=S.adv a1
 simp only[qeM,qas] at h1
 split at h1
 case isFalse=>exact h1.elim
 rename_i hlen
 generalize hf:(fun x=>match qdq tg x w.b (wipeS ρ own) with
   |some ρ'=>noX ((gc ρ').bind fun k=>if k=true then (ge ρ').bind fun y=>match y with
    |.brw _ _=>.bad
    |y=>.ok (some (y.d,y.b)) else .ok none)
   |none=>.bad)=f at h1
 have fnx:∀x,qhM (f x):=fun x=>by
  subst hf
  simp only
  split
  ·exact qtz _
  ·trivial
 cases e2:lcl f w.xs with
 |bad=>rw[e2] at h1;exact h1.elim
 |exc c fs=>have:=qqD fnx w.xs;rw[e2] at this;exact this.elim
 |ok tot =>
  rw[e2] at h1
  obtain⟨Gd,Y,wk,grow,_,item⟩:=wj
  refine lc_it wk (Pv:=fun i Hi=>∃(P N:Hp) (acc:List V) (ds:List Cm.D) (b:Bool) (rest:List Cm.D × Bool),Adv P1 N1 H1 P N Hi∧Hi D=some (.lst acc)∧P D=none∧N D=none∧RepsB C P N b ds acc∧ds.length≤i∧lcl f (w.xs.drop i)=.ok rest∧tot.1=ds++rest.1∧tot.2=(b&&rest.2)) ?_ (fun i Hi hi p=>?_) (fun i x Hi H' hi p y=>?_) (fun Hi p=>?_)
  ·exact⟨P1,N1,[],[],true,tot,(Adv.refl S1.reg.pH S1.reg.nH).heap (qaA hD),upd_same,S1.reg.pH.free hD,S1.reg.nH.free hD,rfl,Nat.le_refl _,by simpa using e2,rfl,by simp⟩
  ·obtain⟨P,N,acc,ds,b,rest,a,_⟩:=p
   exact grow Hi a.hh
  ·obtain⟨P2,N2,acc,ds,b,rest,a,hDi,pD,nD,rr,hdl,el,et,eb⟩:=p
   obtain⟨P3,a3,d,ed,rd⟩:=item i P2 N2 Hi x H' hi a.pp a.nn (S1.adv a).reg y
   have hdrop:w.xs.drop i=d::w.xs.drop (i+1):=by
    obtain⟨hi',e⟩:=List.getElem?_eq_some_iff.mp ed
    rw[List.drop_eq_getElem_cons hi',e]
   rw[hdrop] at el
   obtain⟨r1,q,ef,eq,er⟩:=qpK el
   have aa:=a.trans a3
   have hD':=a3.hh _ _ hDi
   have pD3:=a3.off hDi pD
   subst hf
   simp only at ef
   split at ef
   case h_2=>cases ef
   rename_i ρ' eb'
   have ef:=qtP ef
   refine⟨wipeS ρ own,P3,N2,d,w.b,ρ',((S1.adv aa).wiped own).nx,rd,eb',fun σ' S' hj hl=>⟨?_,?_⟩⟩
   ·rw[qk9 (σ:=wipe σ own) hl fun j h=>hj j fun z=>h (hsub j z),qjH]
   ·cases e5:gc ρ' with
    |bad=>rw[e5] at ef;cases ef
    |exc c fs=>rw[e5] at ef;cases ef
    |ok k =>
     rw[e5,RE.bind_ok] at ef
     refine⟨ρ',P3,N2,S',?_⟩
     rw[e5]
     intro P4 N4 H4 a4
     have hD4:=a4.hh _ _ hD'
     have pD4:=a4.off hD' pD3
     have nD4:=a4.offN hD' nD
     cases k with
     |false =>
      simp only[Bool.false_eq_true,if_false] at ef ⊢
      cases ef
      have er':rest=q:=er
      exact⟨P4,N4,acc,ds,b,q,aa.trans a4,hD4,pD4,nD4,RepsB.adv (a3.pp.trans a4.pp) a4.nn rr,Nat.le_succ_of_le hdl,eq,by rw[et,er'],by rw[eb,er']⟩
     |true =>
      simp only[if_true] at ef ⊢
      cases e6:ge ρ' with
      |bad=>rw[e6] at ef;cases ef
      |exc c fs=>rw[e6] at ef;cases ef
      |ok y =>
       rw[e6,RE.bind_ok] at ef
       refine⟨ρ',P4,N4,S'.adv a4,?_⟩
       rw[e6]
       intro P5 N5 H5 a5 v rv
       have rv:=rv.unx
       obtain⟨N6,a6,rv6⟩:=rv.freeze a5
       have hD6:=a6.hh _ _ hD4
       have pD6:=a6.off hD4 pD4
       have nD6:=a6.offN hD4 nD4
       have ry:r1=some (y.d,y.b)∧RepB C P5 N6 y.b y.d v:=by
        cases y with
        |val d' b'=>exact⟨(RE.ok.inj ef).symm,rv6⟩
        |fre d' b'=>exact⟨(RE.ok.inj ef).symm,rv6⟩
        |brw d' b'=>cases ef
       obtain⟨rfl,rv7⟩:=ry
       have er':rest=(y.d::q.1,y.b&&q.2):=er
       have full:=((a.trans a3).trans a4).trans a6
       have hl2:acc.length=ds.length:=rr.length
       refine⟨acc,hD6,?_,P5,N6,acc++[v],ds++[y.d],b&&y.b,q,⟨?_,full.pp,full.nn,qaU full.pH pD6,qaU full.nH nD6,full.pn,full.nw,full.dj⟩,upd_same,pD6,nD6,?_,?_,eq,?_,?_⟩
       ·have:w.xs.length≤sizeLine:=hlen
        omega
       ·exact qaU full.hh hD
       ·exact Reps.append (RepsB.and1 (RepsB.adv ((a3.pp.trans a4.pp).trans a6.pp) (a4.nn.trans a6.nn) rr)) (Reps.one (RepB.and2 rv7))
       ·simp only[List.length_append,List.length_singleton];omega
       ·rw[et,er'];simp
       ·rw[eb,er'];simp[Bool.and_assoc]
  ·obtain⟨P2,N2,acc,ds,b,rest,a,hDi,pD,nD,rr,hdl,el,et,eb⟩:=p
   rw[List.drop_length] at el
   cases el
   have et':tot.1=ds:=by simpa using et
   have eb':tot.2=b:=by simpa using eb
   refine h1 P2 N2 Hi a _ ⟨D,acc,rfl,hDi,a1.hh.free hD,pD,nD,?_⟩
   rw[et',eb']
   exact rr
end
end Cm
set_option maxHeartbeats 2000000
namespace PySem
section
variable {M:Model} {A:Around} {E:Value→Shared→Prop} {s:Shared} {Z:Obj→Prop} {base:Heap} {env:Env} {outer l:List Env} {L L' C e:Addr}
theorem qeX {h B B':Heap} (k:∀b,B.get? b=none→B'.get? b=none):∀{l:List Env},h.FunFrames B l→h.FunFrames B' l
 |[],_=>trivial
 |_::_,⟨h1,⟨L,o,e1,e2,e3,e4⟩,h3⟩=>⟨h1,⟨L,o,e1,k L e2,e3,e4⟩,qeX k h3⟩
theorem qix {B:Heap} {b C:Addr} (e:B.get? b=none):(PySem.W.hideAll B [C]).get? b=none:=by
 cases q:(PySem.W.hideAll B [C]).get? b with
 |none=>rfl
 |some o=>rw[PySem.W.of_hideAll _ q] at e;cases e
theorem qmp {h B:Heap} (hh:HandSPX.HeldZ B l e Z L h):HandSPX.HeldZ (PySem.W.hideAll B [C]) l e Z L h:=by
 obtain⟨h1,h2,h3,oe,vs,T,oT,ts,he,hz,hd,g1,hnT,r⟩:=hh
 exact⟨fun b o q=>h1 b o (PySem.W.of_hideAll _ q),qix h2,qeX (fun b=>qix) h3,oe,vs,T,oT,ts,he,hz,hd,g1,qix hnT,r⟩
theorem qg1 {h:Heap} {C b:Addr} {m:Str→Option Value} {o:Obj} {vs:Array Value} (hn:h.Ns C m) (e:h.get? b=some o) (d:o.data=.fields vs):b≠C:=fun q=>by
 subst q
 obtain⟨oL,es,ep,e1,e2,_⟩:=hn
 rw[e] at e1;cases e1
 rw[d] at e2;cases e2
theorem qmq {h h' B:Heap} {m m':Str→Option Value} (hh:HandSPX.HeldZ B l e Z L h) (hB:B.get? C=none) (hn:h.Ns C m) (hs:Heap.SameBut C h h') (hn':h'.Ns C m'):HandSPX.HeldZ B l e Z L h':=by
 obtain⟨h1,h2,h3,oe,vs,T,oT,ts,he,hz,hd,g1,hnT,hTe,hT,hdT,g3⟩:=hh
 exact⟨fun b o q=>(hs.2 b fun z=>by rw[z,hB] at q;cases q).trans (h1 b o q),h2,Heap.FunFrames.sameBut hs hn' h3,oe,vs,T,oT,ts,(hs.2 _ (qg1 hn he hd)).trans he,hz,hd,g1,hnT,hTe,(hs.2 _ (qg1 hn hT hdT)).trans hT,hdT,g3⟩
theorem qjq {Q:Unit→Shared→Prop} (hZ:HandSPX.Steady Z) (hfr:A.frames=some (env::outer)) (hf:env.frame=some L) (hn:L'≠L) (hfl:HandSPX.HeldZ base (env::outer) e Z L' s.heap)
  (hQ:∀h',HandSPX.HeldZ base (env::outer) e Z L h'→s.heap.UpToSlots h'→Q () { s with heap:=h' }):wpAny M A (noteFrame (.ref e) env) Q E s:=by
 obtain⟨hkb,hen,hl,oe,vs,T,oT,ts,he,hz,hd,h1,hnT,hTe,hT,hdT,h3⟩:=hfl
 unfold noteFrame
 simp only[hf]
 refine wpAny_bind (wpAny_field he hd h1 ?_)
 rw[if_pos (show(Value.ref T != Value.none)=true from by simp)]
 refine wpAny_bind (wpAny_field hT hdT h3 ?_)
 rw[if_neg (show ¬((rawInt L' == rawInt L)=true) from fun q=>hn (Int.ofNat.inj (by simpa[rawInt] using q)))]
 refine wpAny_bind (wpAny_setField hT hdT (Array.getElem?_eq_some_iff.mp h3).1 ?_)
 have other:∀b,b≠T→(s.heap.update T (Obj.mapFields (·.setIfInBounds 3 Value.none))).get? b=s.heap.get? b:=fun b hb=>Heap.get?_update_other _ _ (Ne.symm hb)
 have noRecord:∀b o,s.heap.get? b=some o→(∀vs,o.data≠.fields vs)→b≠T:=fun b o hb hnf q=>by
  rw[q,hT] at hb;injection hb with hb;subst hb;exact hnf ts hdT
 refine HandSPX.wpAny_entryZ hZ hfr (hl.of_keeps fun b o hb hnf=>⟨o,(other b (noRecord b o hb hnf)).trans hb,rfl⟩) hf ((other e (Ne.symm hTe)).trans he)
  (fun b o hbo=>(other b fun q=>by rw[q,hnT] at hbo;cases hbo).trans (hkb b o hbo)) hen hd (Array.getElem?_eq_some_iff.mp h1).1 hz fun h' hN=>?_
 obtain⟨x1,x2,x3,x4⟩:=hN
 exact hQ h' ⟨x1,hen,x2,x3⟩ fun b o hb hnf=>x4 b o ((other b (noRecord b o hb hnf)).trans hb) hnf
end
end PySem
namespace Cm
open PySem PySem.Spec PyProof.Rows L2
structure FrOk (X:Cx):Prop where
 st:X.stack=X.env::X.outer
 fr:X.env.frame=some X.env.locals
 ex:X.ex=[]
section
variable {X:Cx} {W:WX} {pins:List (Addr × Obj)} {σ:L2.St} {H3:Hp} {s3:Shared} {fp:List Addr} {scope:Scope} {ce:PySem.Env}
abbrev qkx (X:Cx) (ce:PySem.Env):Value→Shared→Prop:=notedBy (model X.prog X.w) X.A ce (CompFails (model X.prog X.w) X.A X.xe ce)
theorem qnV (tk:Takes X W) (F:FrOk X) (I3:Inv X pins σ H3 s3) (hfp:∀b∈fp,FpOk X pins H3 b∧b<s3.heap.objs.size) (cL:ce.locals=s3.heap.objs.size) (cF:ce.frame=X.env.frame) :
  Takes ((X.blk s3 H3 scope ce fp).wish (qkx X ce)) (fun c d _ H=>W c d σ H):=fun u s' x=>by
 obtain⟨a,B,sI,pins',σ',H',cls,d,rfl,I',nb,up,sky,na,os,ag,w⟩:=x
 have I6:Inv (X.blk s3 H3 scope ce fp) pins' σ' H' sI:=I'.unwish
 have I7:Inv X pins σ H' sI:=I3.call' (ch:=fp) I6.os I6.base I6.hok I6.bare fun b hb=>⟨(hfp b hb).1.2.2.2.1,(hfp b hb).1.2.1,(hfp b hb).1.2.2.2.2.1,(hfp b hb).1.2.2.2.2.2⟩
 have nC:H' s3.heap.objs.size=none:=by
  have z:H' ce.locals=none:=I6.free
  rwa [cL] at z
 obtain⟨f0,f1,f2,f3,f4,f5⟩:=I3.fpOk (H':=H') (Nat.le_refl _) nC
 have I8:=I7.turned (t':=sI.toks) (h':=PySem.W.hideAll sI.heap [s3.heap.objs.size]) (it:=s3.heap.objs.size) (fun b o hb e=>PySem.W.hideAll_get _ e (by simp[hb])) f0 f1 f3 f4 f5
 obtain⟨m,hnI,_⟩:=I6.loc
 have hnI:sI.heap.Ns ce.locals m:=hnI
 have hn:s'.heap.Ns ce.locals m:=hnI.upToSlots up
 have hfr:X.A.frames=some (X.env::X.outer):=by rw[I3.ok.frames,F.st]
 have ne:ce.locals≠X.env.locals:=by rw[cL];exact Nat.ne_of_gt I3.lt
 have key:∀h1,HandSPX.HeldZ B (X.env::X.outer) a (Zc cls d) X.env.locals h1→s'.heap.UpToSlots h1→CompFails (model X.prog X.w) X.A X.xe ce (.ref a) { s' with heap:=h1 }:=fun h1 hh1 up1=>by
  have hn1:h1.Ns ce.locals m:=hn.upToSlots up1
  refine⟨m,hn1,fun h2 m2 hn2 hs2=>?_⟩
  have hB:(PySem.W.hideAll B [ce.locals]).get? ce.locals=none:=PySem.W.hideAll_none _ (by simp)
  have hh2:HandSPX.HeldZ (PySem.W.hideAll B [ce.locals]) (X.env::X.outer) a (Zc cls d) X.env.locals h2:=qmq (qmp hh1) hB hn1 hs2 hn2
  obtain⟨k1,k2,k3,oe,vs,T,oT,ts',he,hz,hd,h1',hr⟩:=id hh2
  unfold PySem.passOn
  refine wpAny_bind (wpAny_field he hd h1' ?_)
  rw[if_neg (show ¬((Value.ref T == Value.none)=true) from by simp)]
  rw[cF,F.fr]
  refine wpAny_bind (HandSPX.setFlight_onZ (s:={ s' with heap:=h2 }) hh2 fun h3 hh3 up3=>wpAny_throw (tk _ _ ?_))
  refine⟨a,PySem.W.hideAll B [ce.locals],_,pins,σ,H',cls,d,rfl,I8,fun b o e hb=>?_,fun b o e hnf=>?_,.inr (.inr (by rw[F.st];exact hh3)),na,os,ag,w⟩
  ·have hbC:b≠ce.locals:=fun z=>by
    rw[z,cL,PySem.W.hideAll_none _ (by simp)] at e;cases e
   exact PySem.W.hideAll_get _ (nb b o (PySem.W.of_hideAll _ e) hb) (by simp[hbC])
  ·have hbC:b≠ce.locals:=fun z=>by
    rw[z,cL,PySem.W.hideAll_none _ (by simp)] at e;cases e
   obtain⟨sl,e1⟩:=up b o (PySem.W.of_hideAll _ e) hnf
   obtain⟨sl1,e2⟩:=up1 b _ e1 hnf
   exact up3 b { o with slots:=sl1 } ((hs2.2 b hbC).trans e2) hnf
 show wpAny (model X.prog X.w) X.A (noteFrame (.ref a) ce) _ _ s'
 rw[noteFrame_env _ cF]
 have sky:Sky B X.stack a (Zc cls d) ce.locals s'.heap:=sky
 rw[F.st] at sky
 rcases sky with⟨hB,hnB,hl,oe,vs,he,hz,hd,h1⟩ | fl | hh
 ·exact HandSPX.look_newZ Zc.steady hfr hl F.fr he hB hnB hd h1 hz key
 ·exact HandSPX.looks_onZ Zc.steady hfr F.fr fl key
 ·exact qjq Zc.steady hfr F.fr ne hh key
end
end Cm
namespace Cm
open PySem PySem.Spec PyProof.Rows L2
theorem qvR {α:Type} {t:Sem α} {Q Q':α→Shared→Prop} {M:Model} {A:Around} {E E':Value→Shared→Prop} {s:Shared} (h:wpAny M A t Q E s) (hQ:∀a s,Q a s→Q' a s) (k:∀e s,E e s→E' e s):wpAny M A t Q' E' s:=wpAny_mono h hQ k
section
variable {X:Cx} {W:WX}
theorem qlI {pins:List (Addr × Obj)} {s:Shared} {σ:L2.St} {H:Hp} {Q:VK} {elt tg iter:Expr} {ifs:List Expr} {scope:Scope} {own:List (Str × Nat)} {pos pos':Pos} {wi:TI} {g:TG} {tt:TT} {te:TE} {use:Option (Value→Sem Unit)} {Qf:Value→Shared→Prop}
  (tk:Takes X W) (F:FrOk X) (hc:X.calm=true) (hN:X.N.Nodup) (I:Inv X pins σ H s) (hi:PI X tg iter wi) (ok:BlkOk X.N X.env.scope scope own)
  (hg:∀(s:Shared) (H:Hp) (C:Addr) (cl:List (Str × Addr)) (fp:List Addr),PG (X.blk s H scope (compEnvC scope cl C X.env) fp) tg g)
  (ht:∀(s:Shared) (H:Hp) (C:Addr) (cl:List (Str × Addr)) (fp:List Addr),Takes ((X.blk s H scope (compEnvC scope cl C X.env) fp).wish (qkx X (compEnvC scope cl C X.env))) (fun c d _ H=>W c d σ H)→PTs ((X.blk s H scope (compEnvC scope cl C X.env) fp).wish (qkx X (compEnvC scope cl C X.env))) ifs tt)
  (he:∀(s:Shared) (H:Hp) (C:Addr) (cl:List (Str × Addr)) (fp:List Addr),Takes ((X.blk s H scope (compEnvC scope cl C X.env) fp).wish (qkx X (compEnvC scope cl C X.env))) (fun c d _ H=>W c d σ H)→PE ((X.blk s H scope (compEnvC scope cl C X.env) fp).wish (qkx X (compEnvC scope cl C X.env))) elt te)
  (hs:∀x,foldedSetIterable iter X.env x=pure x)
  (h:tLc wi g tt te (own.map (·.2)) σ H Q)
  (hRR:∀D (ce:PySem.Env) s' m H',Inv X pins σ H' s'→Q (.ref D) H'→s'.heap.Ns ce.locals m→FpOk X pins H' ce.locals→compEnds (model X.prog X.w) X.A X.xe use Qf (.ref D) ce (.ok .next) s') :
  wpAny (model X.prog X.w) X.A (comprehension (.ListComp elt [⟨tg,iter,ifs,0⟩] scope pos) scope X.env pos' (newList []) false (eval iter X.env) use) Qf X.xe s:=by
 have hfree:∀y∈scope.names,y.2=.free→∃c,X.env.cells.lookup y.1=some c:=fun y hy e=>by
  rcases ok.free y hy e with k | k
  ·exact I.ok.has _ (.inl k)
  ·exact I.ok.has _ (.inr k)
 refine comprehension_at (use:=use) rfl hs (closure_ok hfree) ok.kind (fun y hy e=>by rw[ok.uniq y hy,e])
  (thn (hi.run pins s σ H _ I h) fun xv s1 hx=>thn hx fun itv s2 h2=>?_)
 obtain⟨it,fp,tn,J,H2,e,I2,T,st2,f2,q⟩:=h2
 subst e
 refine wpAny_newObj_type (newEnv_comp ?_) (by show 0≤sizeLine;decide)
 generalize hD:s2.heap.objs.size=D
 have hDn:H2 D=none:=I2.hok.fresh (Nat.le_of_eq hD)
 obtain⟨WW,⟨m0,w0⟩,turn⟩:=q D hDn
 generalize hs3:({ s2 with heap:=s2.heap.push { cls:=.type "list",data:=.seq ([]:List Value).toArray } }:Shared)=s3
 have I3:Inv X pins σ (upd H2 D (.lst [])) s3:=by
  rw[←hs3]
  refine I2.laid (t':=s2.toks) (fun b o e=>Heap.get?_push_of_some _ e) (Nat.le_of_eq hD) ⟨Nat.zero_le _,[],0,.nil,?_⟩
  rw[←hD]
  exact Heap.get?_push_size _ rfl
 have h3:s3.heap=s2.heap.push { cls:=.type "list",data:=.seq ([]:List Value).toArray }:=by rw[←hs3]
 have sz:∀b∈fp,b<s2.heap.objs.size:=fun b hb=>by
  obtain⟨o,e,_⟩:=T.obj _ _ st2 b hb
  exact Heap.lt_size e
 have f3:∀b∈fp,FpOk X pins (upd H2 D (.lst [])) b∧b<s3.heap.objs.size:=fun b hb=>by
  have hlt:=sz b hb
  refine⟨⟨?_,(f2 b hb).2⟩,by rw[h3,Heap.size_push];exact Nat.lt_succ_of_lt hlt⟩
  rw[upd_ne (by rw[←hD];exact Nat.ne_of_lt hlt)]
  exact(f2 b hb).1
 have st3:tn 0 s3.heap:=T.keep _ _ _ st2 fun b _ o e=>by rw[h3];exact Heap.get?_push_of_some _ e
 have I4:=block_start I3 ok hN f3
 generalize hcl:cellsFrom (s3.heap.objs.size+1) scope.names (cloFrom X.env.cells scope.names [])=cl at I4
 have pg:=hg s3 (upd H2 D (.lst [])) s3.heap.objs.size cl fp
 have tb:=qnV (scope:=scope) (ce:=compEnvC scope cl s3.heap.objs.size X.env) tk F I3 f3 rfl rfl
 have pt:=ht s3 (upd H2 D (.lst [])) s3.heap.objs.size cl fp tb
 have pe:=he s3 (upd H2 D (.lst [])) s3.heap.objs.size cl fp tb
 show codeAny _ _ (.compStart (.ListComp elt [⟨tg,iter,ifs,0⟩] scope pos) 0 (.ref it) (.ref D) (compEnvC scope cl s3.heap.objs.size X.env)) (compEnds (model X.prog X.w) X.A X.xe use Qf (.ref D) (compEnvC scope cl s3.heap.objs.size X.env)) { s3 with heap:=pushCells (s3.heap.push { cls:=.type "dict",data:=.dict #[] }) scope.names }
 have nfp:∀b∈fp,(upd H2 D (.lst [])) b=none:=fun b hb=>(f3 b hb).1.1
 generalize hce:compEnvC scope cl s3.heap.objs.size X.env=ce at I4 pg pt pe tb ⊢
 have cL:ce.locals=s3.heap.objs.size:=by subst hce;rfl
 generalize hH3:upd H2 D (.lst [])=H3 at I3 I4 pg pt pe tb w0 nfp f3
 generalize hs4:({ s3 with heap:=pushCells (s3.heap.push { cls:=.type "dict",data:=.dict #[] }) scope.names }:Shared)=s4 at I4 ⊢
 have st4:tn 0 s4.heap:=T.keep _ _ _ st3 fun b _ o e=>by rw[←hs4];exact pushCells_keeps _ _ _ _ (Heap.get?_push_of_some _ e)
 have stat:∀{σ':L2.St} {H':Hp} {s':Shared},Inv (X.blk s3 H3 scope ce fp) [] σ' H' s'→(∀b∈fp,H' b=none)→∀b∈fp,FpOk (X.blk s3 H3 scope ce fp) [] H' b:=fun {σ' H' s'} I' hn b hb =>
  ⟨hn b hb,(I'.ok.exf b hb).1,I'.ok.exfs b hb,.inl hb,fun x c e=>(I'.ok.exf b hb).2 x c e,fun p hp=>absurd (show p∈([]:List (Addr × Obj))++[] from hp) (by simp)⟩
 have hE:∀u s',qkx X ce u s'→notedBy (model X.prog X.w) X.A ce (fun e s'=>compEnds (model X.prog X.w) X.A X.xe use Qf (.ref D) ce (.error e) s') u s':=fun u s' q=>wpAny_mono q (fun _ s'' z=>by cases use<;>exact z) fun _ _ z=>by cases use<;>exact z
 have loop:codeAny (model X.prog X.w) X.A (.compLoop (.ListComp elt [⟨tg,iter,ifs,0⟩] scope pos) 0 (.ref it) (.ref D) ce) (compEnds (model X.prog X.w) X.A X.xe use Qf (.ref D) ce) s4:=by
  refine compLoop_any (fun n s'=>∃i H',Inv (X.blk s3 H3 scope ce fp) [] (wipe σ (own.map (·.2))) H' s'∧tn i s'.heap∧(∀b∈fp,H' b=none)∧WW i n H') ?_ m0 ⟨0,H3,I4,st4,nfp,w0⟩
  rintro n s5 ⟨i,H5,I5,st5,n5,w5⟩
  rcases turn i n H5 w5 with⟨stop,qq⟩ | ⟨go,Nx,hNx,step⟩
  ·have td:=T.done (X.blk s3 H3 scope ce fp) rfl rfl rfl hc i [] s5 _ H5 (fun _ _=>False) I5 (stat I5 n5) st5 stop
   refine thnF td fun r s6 ⟨hr,I6⟩=>?_
   subst hr
   have I7:Inv X pins σ H5 s6:=I3.call' (ch:=fp) I6.os I6.base I6.hok I6.bare fun b hb=>⟨(f3 b hb).1.2.2.2.1,(f3 b hb).1.2.1,(f3 b hb).1.2.2.2.2.1,(f3 b hb).1.2.2.2.2.2⟩
   have nC:H5 ce.locals=none:=I6.free
   obtain⟨m,hn,_⟩:=I6.loc
   exact hRR D ce s6 m H5 I7 qq hn (I3.fpOk (by rw[cL];exact Nat.le_refl _) nC)
  ·have ti:=T.item (X.blk s3 H3 scope ce fp) rfl rfl rfl hc i [] s5 _ H5 (fun _ _=>False) I5 (stat I5 n5) st5 go
   refine thnF ti fun r s6 ⟨u,hr,h6⟩=>?_
   subst hr
   refine thnF h6 fun _ s7 ⟨x,H7,I7,r7,y7,st7,n7⟩=>?_
   have I7':=I7.pinned (stat I7 n7) (T.obj _ _ st7)
   refine thnF (pg.run _ s7 _ H7 x u _ I7' r7 (step x H7 y7)) fun _ s8 ⟨σ8,H8,I8,hw8,q8⟩=>?_
   refine qvR (pt.run _ s8 σ8 H8 _ (I8.wish _) q8) (fun b s9 ⟨H9,I9,q9⟩=>?_) hE
   have fin:∀{s':Shared} {H':Hp},Inv (X.blk s3 H3 scope ce fp) ([]++pinsAt fp s7.heap) σ8 H' s'→Nx H'→∃m,m<n∧∃i H',Inv (X.blk s3 H3 scope ce fp) [] (wipe σ (own.map (·.2))) H' s'∧tn i s'.heap∧(∀b∈fp,H' b=none)∧WW i m H':=fun {s' H'} I' nx=>by
    obtain⟨m',hm,w'⟩:=hNx H' nx
    have pin':∀b∈fp,∀o,s7.heap.get? b=some o→s'.heap.get? b=some o∧H' b=none:=fun b hb o e =>
     let z:=I'.pin (b,o) (List.mem_append_right _ (List.mem_append_right _ (mem_pinsAt hb e)))
     ⟨z.1,z.2.1⟩
    have hl:(wipe σ (own.map (·.2))).length=σ8.length:=by rw[←hw8,wipe_length]
    refine⟨m',hm,i+1,H',(I'.unpinned (pins:=[])).weak hl (fun j v e=>?_),T.keep _ _ _ st7 fun b hb o e=>(pin' b hb o e).1,fun b hb=>?_,w'⟩
    ·rw[←hw8] at e
     exact(wipe_some e).1
    ·obtain⟨o,e,_⟩:=T.obj _ _ st7 b hb
     exact(pin' b hb o e).2
   cases b with
   |false =>
    simp only[Bool.false_eq_true,if_false] at q9 ⊢
    exact fin I9.unwish q9
   |true =>
    simp only[if_true] at q9 ⊢
    refine qvR (pe.run _ s9 σ8 H9 _ I9 q9) (fun z s10 ⟨yv,H10,I10,r10,acc,hD10,hz10,nx⟩=>?_) hE
    exact app_ok (X:=X.blk s3 H3 scope ce fp) I10.unwish hD10 hz10 r10 fun s11 I11=>fin I11 nx
 exact codeAny_compStart_list loop (T.self X.A 0 _ _ _ st4 loop)
end
end Cm
namespace Cm
open PySem PySem.Spec PyProof.Rows L2
section
variable {X:Cx} {W:WX} {elt tg iter:Expr} {ifs:List Expr} {scope:Scope} {own:List (Str × Nat)} {pos:Pos} {wi:TI} {g:TG} {tt:L2.St→TT} {te:L2.St→TE}
theorem qtQ (tk:Takes X W) (F:FrOk X) (hc:X.calm=true) (hN:X.N.Nodup) (hi:PI X tg iter wi) (ok:BlkOk X.N X.env.scope scope own)
  (hg:∀(s:Shared) (H:Hp) (C:Addr) (cl:List (Str × Addr)) (fp:List Addr),PG (X.blk s H scope (compEnvC scope cl C X.env) fp) tg g)
  (ht:∀(σ:L2.St) (s:Shared) (H:Hp) (C:Addr) (cl:List (Str × Addr)) (fp:List Addr),Takes ((X.blk s H scope (compEnvC scope cl C X.env) fp).wish (qkx X (compEnvC scope cl C X.env))) (fun c d _ H=>W c d σ H)→PTs ((X.blk s H scope (compEnvC scope cl C X.env) fp).wish (qkx X (compEnvC scope cl C X.env))) ifs (tt σ))
  (he:∀(σ:L2.St) (s:Shared) (H:Hp) (C:Addr) (cl:List (Str × Addr)) (fp:List Addr),Takes ((X.blk s H scope (compEnvC scope cl C X.env) fp).wish (qkx X (compEnvC scope cl C X.env))) (fun c d _ H=>W c d σ H)→PE ((X.blk s H scope (compEnvC scope cl C X.env) fp).wish (qkx X (compEnvC scope cl C X.env))) elt (te σ))
  (hs:∀x,foldedSetIterable iter X.env x=pure x:=by intro _;rfl) :
  PE X (.ListComp elt [⟨tg,iter,ifs,0⟩] scope pos) (fun σ H Q=>tLc wi g (tt σ) (te σ) (own.map (·.2)) σ H Q):=by
 refine⟨fun pins s σ H Q I h=>?_⟩
 rw[eval_ListComp]
 refine qlI tk F hc hN I hi ok hg (ht σ) (he σ) hs h fun D ce s' m H' I' q hn f=>⟨m,hn,fun h'' sb=>?_⟩
 obtain⟨f0,f1,f2,f3,f4,f5⟩:=f
 exact⟨.ref D,H',I'.turned (t':=s'.toks) (fun b o hb e=>(sb.2 b hb).trans e) f0 f1 f3 f4 f5,rfl,q⟩
theorem qoJ {i:Nat} {y:Str} {py spos:Pos} (tk:Takes X W) (F:FrOk X) (hc:X.calm=true) (hN:X.N.Nodup) (hy:X.N[i]? = some y) (hyl:X.env.scope.names.lookup y=some .local)
  (hsw:swapsWith (.ListComp elt [⟨tg,iter,ifs,0⟩] scope pos) (some (.Name y py)) spos.line X.env=pure true) (hi:PI X tg iter wi) (ok:BlkOk X.N X.env.scope scope own)
  (hg:∀(s:Shared) (H:Hp) (C:Addr) (cl:List (Str × Addr)) (fp:List Addr),PG (X.blk s H scope (compEnvC scope cl C X.env) fp) tg g)
  (ht:∀(σ:L2.St) (s:Shared) (H:Hp) (C:Addr) (cl:List (Str × Addr)) (fp:List Addr),Takes ((X.blk s H scope (compEnvC scope cl C X.env) fp).wish (qkx X (compEnvC scope cl C X.env))) (fun c d _ H=>W c d σ H)→PTs ((X.blk s H scope (compEnvC scope cl C X.env) fp).wish (qkx X (compEnvC scope cl C X.env))) ifs (tt σ))
  (he:∀(σ:L2.St) (s:Shared) (H:Hp) (C:Addr) (cl:List (Str × Addr)) (fp:List Addr),Takes ((X.blk s H scope (compEnvC scope cl C X.env) fp).wish (qkx X (compEnvC scope cl C X.env))) (fun c d _ H=>W c d σ H)→PE ((X.blk s H scope (compEnvC scope cl C X.env) fp).wish (qkx X (compEnvC scope cl C X.env))) elt (te σ))
  (hs:∀x,foldedSetIterable iter X.env x=pure x:=by intro _;rfl) :
  PS X (.Assign [.Name y py] (.ListComp elt [⟨tg,iter,ifs,0⟩] scope pos) spos) (tAsg (fun σ H Q=>tLc wi g (tt σ) (te σ) (own.map (·.2)) σ H Q) (gName i)):=by
 refine⟨fun pins s σ H D I h=>?_⟩
 rw[exec_Assign_Name_used _ _ _ _ hsw]
 refine wpAny_bind (wpAny_standAt (wpAny_bind ?_))
 show wpAny _ X.A (do let _ ←comprehension (.ListComp elt [⟨tg,iter,ifs,0⟩] scope pos) scope X.env (firstIterPos [⟨tg,iter,ifs,0⟩] pos) (newList []) false (eval iter X.env) (some (assign (.Name y py) X.env))) _ _ s
 have h:tLc wi g (tt σ) (te σ) (own.map (·.2)) σ H (fun x H1=>gName i x σ H1 D.nx):=h
 refine wpAny_bind (thn (qlI (Qf:=fun _ s'=>SP X pins D .next s') tk F hc hN I hi ok hg (ht σ) (he σ) hs h fun L ce s' m H' I' q hn f=>?_) fun _ s' hq=>wpAny_pure (wpAny_pure hq))
 show wpAny _ _ (assign (.Name y py) X.env (.ref L)) _ _ _
 refine wpAny_assign_Name (store_ok2 (v:=V.ref L) I' hN hy (.inl hyl) rfl (fun s2 I2 ⟨a,sb,ha⟩=>?_) (.inr hyl))
 obtain⟨f0,f1,f2,f3,f4,f5⟩:=f
 have haC:ce.locals≠a:=by
  rcases ha with z | z
  ·rw[z];exact f1
  ·exact fun z'=>f4 _ _ z z'.symm
 refine⟨m,hn.sameBut sb haC,fun h3 sb3=>?_⟩
 exact⟨_,H',I2.turned (t':=s2.toks) (fun b o hb e=>(sb3.2 b hb).trans e) f0 f1 f3 f4 f5,q⟩
end
end Cm
namespace Cm
open PySem PySem.Spec PyProof.Rows L2
def Ctx.bx (C:Ctx) (σ:L2.St):Ctx:={ C with W:=fun c d _ H=>C.W c d σ H }
section
variable {C:Ctx} {X:Cx}
theorem Reg.bx {P N H:Hp} {σ:L2.St} (r:Reg C.nx P N H):Reg (C.bx σ) P N H:=⟨r.pH,r.nH,r.bH,r.rB,r.p0,r.pn,r.nw,r.dj⟩
theorem SlR.bx {P N H:Hp} {s:Sl} {o:Option V} {σ:L2.St} (h:SlR C.nx P N H s o):SlR (C.bx σ) P N H s o:=by cases s<;>exact h
theorem SR.bx {P N H:Hp} {ρ:List Sl} {σ' σ:L2.St} (S:SR C.nx P N H ρ σ'):SR (C.bx σ) P N H ρ σ':=⟨S.reg.bx,S.len,fun i s e=>by
 obtain⟨o,h1,h2⟩:=S.sl i s e
 exact⟨o,h1,h2.bx⟩,S.ap,S.ad,S.ar⟩
theorem ERr.unbx {P N H H0:Hp} {er:ER} {v:V} {σ:L2.St} (h:ERr (C.bx σ) P N H H0 er v):ERr C P N H H0 er v:=by cases er<;>exact h
theorem ExR.unbx {P N H:Hp} {fs:List Cm.D} {d:Option Addr} {σ:L2.St} (h:ExR (C.bx σ) P N H fs d):ExR C P N H fs d:=h
abbrev qvJ (own tg:List Nat) (gi:List Sl→RE Wk) (gc:List Sl→RE Bool) (ge:List Sl→RE ER):List Sl→RE ER:=fun ρ=>(gi ρ).bind fun xs=>gd (leB xs.xs.length) ((lcl (fun x=>match qdq tg x xs.b (wipeS ρ own) with
   |some ρ'=>(gc ρ').bind fun k=>if k=true then (ge ρ').bind fun y=>match y with
    |.brw _ _=>.bad
    |y=>.ok (some (y.d,y.b)) else .ok none
   |none=>.bad) xs.xs).bind fun r=>.ok (.fre r.1 r.2))
theorem qnC {own tg:List Nat} {gi:List Sl→RE Wk} {gc:List Sl→RE Bool} {ge:List Sl→RE ER} (hsub:∀i∈tg,i∈own) {σ:L2.St} {H:Hp} {Q:VK} (h:tE C (qvJ own tg gi gc ge) σ H Q) :
  tLc (tI C gi) (tG C.nx tg) (tT (C.bx σ) gc) (tE (C.bx σ) ge) own σ H Q:=by
 obtain⟨ρ,P,N,S,h⟩:=h
 refine⟨ρ,P,N,S,h.bind.mono fun w P1 N1 H1 e1 a1 h1 J wj D hD=>?_⟩
 have S1:=S.adv a1
 simp only[qeM,qas] at h1
 split at h1
 case isFalse=>exact h1.elim
 rename_i hlen
 generalize hf:(fun x=>match qdq tg x w.b (wipeS ρ own) with
   |some ρ'=>(gc ρ').bind fun k=>if k=true then (ge ρ').bind fun y=>match y with
    |.brw _ _=>.bad
    |y=>.ok (some (y.d,y.b)) else .ok none
   |none=>.bad)=f at h1
 generalize ht:lcl f w.xs=tot at h1
 obtain⟨Gd,Y,wk,grow,_,item⟩:=wj
 have raise:∀{c fs},tot=.exc c fs→∀{P2 N2 H2:Hp},Adv P1 N1 H1 P2 N2 H2→∀(σ':L2.St) d P' N' H',Adv P2 N2 H2 P' N' H'→ExR (C.bx σ) P' N' H' fs d→(C.bx σ).W (.ref ((C.bx σ).G.ca c)) d σ' H':=fun {c fs} e {P2 N2 H2} a σ' d P' N' H' a' x=>by
  rw[e] at h1
  exact h1 d P' N' H' (a.trans a') x
 have nobad:tot≠.bad:=fun e=>by rw[e] at h1;exact h1
 refine lc_it wk (Pv:=fun i Hi=>∃(P N:Hp) (acc:List V) (ds:List Cm.D) (b:Bool),Adv P1 N1 H1 P N Hi∧Hi D=some (.lst acc)∧P D=none∧N D=none∧RepsB C P N b ds acc∧ds.length≤i∧tot=(lcl f (w.xs.drop i)).bind fun r=>.ok (ds++r.1,b&&r.2)) ?_ (fun i Hi hi p=>?_) (fun i x Hi H' hi p y=>?_) (fun Hi p=>?_)
 ·refine⟨P1,N1,[],[],true,(Adv.refl S1.reg.pH S1.reg.nH).heap (qaA hD),upd_same,S1.reg.pH.free hD,S1.reg.nH.free hD,rfl,Nat.le_refl _,?_⟩
  rw[List.drop_zero,ht]
  cases tot<;>simp
 ·obtain⟨P,N,acc,ds,b,a,_⟩:=p
  exact grow Hi a.hh
 ·obtain⟨P2,N2,acc,ds,b,a,hDi,pD,nD,rr,hdl,et⟩:=p
  obtain⟨P3,a3,d,ed,rd⟩:=item i P2 N2 Hi x H' hi a.pp a.nn (S1.adv a).reg y
  have hdrop:w.xs.drop i=d::w.xs.drop (i+1):=by
   obtain⟨hi',e⟩:=List.getElem?_eq_some_iff.mp ed
   rw[List.drop_eq_getElem_cons hi',e]
  rw[hdrop,lcl] at et
  have aa:=a.trans a3
  have hD':=a3.hh _ _ hDi
  have pD3:=a3.off hDi pD
  have ef:f d=match qdq tg d w.b (wipeS ρ own) with
   |some ρ'=>(gc ρ').bind fun k=>if k=true then (ge ρ').bind fun y=>match y with
    |.brw _ _=>.bad
    |y=>.ok (some (y.d,y.b)) else .ok none
   |none=>.bad:=by rw[←hf]
  rw[ef] at et
  cases eb':qdq tg d w.b (wipeS ρ own) with
  |none=>rw[eb'] at et;exact absurd et nobad
  |some ρ' =>
   rw[eb'] at et
   simp only at et
   refine⟨wipeS ρ own,P3,N2,d,w.b,ρ',((S1.adv aa).wiped own).nx,rd,eb',fun σ' S' hj hl=>⟨?_,?_⟩⟩
   ·rw[qk9 (σ:=wipe σ own) hl fun j h=>hj j fun z=>h (hsub j z),qjH]
   ·cases e5:gc ρ' with
    |bad=>rw[e5] at et;exact absurd et nobad
    |exc c fs =>
     rw[e5] at et
     refine⟨ρ',P3,N2,S'.bx,?_⟩
     rw[e5]
     exact raise et aa σ'
    |ok k =>
     simp only[e5,RE.bind_ok] at et
     refine⟨ρ',P3,N2,S'.bx,?_⟩
     rw[e5]
     intro P4 N4 H4 a4
     have hD4:=a4.hh _ _ hD'
     have pD4:=a4.off hD' pD3
     have nD4:=a4.offN hD' nD
     cases k with
     |false =>
      simp only[Bool.false_eq_true,if_false,RE.bind_ok] at et ⊢
      refine⟨P4,N4,acc,ds,b,aa.trans a4,hD4,pD4,nD4,RepsB.adv (a3.pp.trans a4.pp) a4.nn rr,Nat.le_succ_of_le hdl,?_⟩
      rw[et]
      cases lcl f (w.xs.drop (i+1))<;>rfl
     |true =>
      simp only[if_true] at et ⊢
      cases e6:ge ρ' with
      |bad=>rw[e6] at et;exact absurd et nobad
      |exc c fs =>
       rw[e6] at et
       refine⟨ρ',P4,N4,(S'.adv a4).bx,?_⟩
       rw[e6]
       exact raise et (aa.trans a4) σ'
      |ok y =>
       simp only[e6,RE.bind_ok] at et
       refine⟨ρ',P4,N4,(S'.adv a4).bx,?_⟩
       rw[e6]
       intro P5 N5 H5 a5 v rv
       have rv:=rv.unbx
       obtain⟨N6,a6,rv6⟩:=rv.freeze a5
       have hD6:=a6.hh _ _ hD4
       have pD6:=a6.off hD4 pD4
       have nD6:=a6.offN hD4 nD4
       have ry:(tot=(lcl f (w.xs.drop (i+1))).bind fun r=>.ok ((ds++[y.d])++r.1,(b&&y.b)&&r.2))∧RepB C P5 N6 y.b y.d v:=by
        have two:∀(q:RE (List Cm.D × Bool)) (u:Cm.D) (k:Bool),((q.bind fun q=>RE.ok (u::q.1,k&&q.2)).bind fun r=>RE.ok (ds++r.1,b&&r.2))=q.bind fun r=>RE.ok ((ds++[u])++r.1,(b&&k)&&r.2):=fun q u k=>by
         cases q<;>simp[Bool.and_assoc]
        cases y with
        |val d' b'=>exact⟨et.trans (two _ _ _),rv6⟩
        |fre d' b'=>exact⟨et.trans (two _ _ _),rv6⟩
        |brw d' b'=>exact absurd et nobad
       obtain⟨et',rv7⟩:=ry
       have full:=((a.trans a3).trans a4).trans a6
       have hl2:acc.length=ds.length:=rr.length
       refine⟨acc,hD6,?_,P5,N6,acc++[v],ds++[y.d],b&&y.b,⟨?_,full.pp,full.nn,qaU full.pH pD6,qaU full.nH nD6,full.pn,full.nw,full.dj⟩,upd_same,pD6,nD6,?_,?_,et'⟩
       ·have:w.xs.length≤sizeLine:=hlen
        omega
       ·exact qaU full.hh hD
       ·exact Reps.append (RepsB.and1 (RepsB.adv ((a3.pp.trans a4.pp).trans a6.pp) (a4.nn.trans a6.nn) rr)) (Reps.one (RepB.and2 rv7))
       ·simp only[List.length_append,List.length_singleton];omega
 ·obtain⟨P2,N2,acc,ds,b,a,hDi,pD,nD,rr,hdl,et⟩:=p
  rw[List.drop_length,lcl,RE.bind_ok] at et
  have et:tot=.ok (ds,b):=by simpa using et
  rw[et] at h1
  exact h1 P2 N2 Hi a _ ⟨D,acc,rfl,hDi,a1.hh.free hD,pD,nD,rr⟩
end
end Cm
namespace Cm
open PySem PySem.Spec PyProof.Rows L2
section
variable (C:Ctx)
def outS (P0 N0:Hp) (D:Ends) (o:Out):Prop:=
 match o with
 |.bad=>False
 |.nx ρ=>∀σ P N H,SR C P N H ρ σ→L2.Same P0 P→L2.Same N0 N→D.nx σ H
 |.brk ρ=>∀σ P N H,SR C P N H ρ σ→L2.Same P0 P→L2.Same N0 N→D.bk σ H
 |.cnt ρ=>∀σ P N H,SR C P N H ρ σ→L2.Same P0 P→L2.Same N0 N→D.ct σ H
 |.ret er=>∀v P N H,Reg C P N H→ERr C P N H C.B er v→D.rt v H
 |.exc c fs=>∀σ d P N H,Reg C P N H→ExR C P N H fs d→C.W (.ref (C.G.ca c)) d σ H
def tS (g:List Sl→Out):TS:=fun D σ H=>∃ρ P N,SR C P N H ρ σ∧outS C P N D (g ρ)
end
section
variable {C:Ctx} {X:Cx}
theorem outS.res {α:Type} {D:Ends} {σ:L2.St} {P N H:Hp} {r:RE α} {f:α→Out} (rg:Reg C P N H) (h:outS C P N D (r.out f)):res C σ P N H r fun a _ _ _=>outS C P N D (f a):=by
 cases r with
 |bad=>exact h
 |ok a=>exact fun _ _ _ _=>h
 |exc c fs=>exact fun d P' N' H' a x=>h σ d P' N' H' (rg.adv a) x
theorem outS.adv {P N P' N':Hp} {D:Ends} {o:Out} (h:outS C P N D o) (hp:L2.Same P P') (hn:L2.Same N N'):outS C P' N' D o:=by
 cases o with
 |bad=>exact h
 |nx ρ=>exact fun σ P2 N2 H S e1 e2=>h σ P2 N2 H S (hp.trans e1) (hn.trans e2)
 |brk ρ=>exact fun σ P2 N2 H S e1 e2=>h σ P2 N2 H S (hp.trans e1) (hn.trans e2)
 |cnt ρ=>exact fun σ P2 N2 H S e1 e2=>h σ P2 N2 H S (hp.trans e1) (hn.trans e2)
 |ret er=>exact h
 |exc c fs=>exact h
theorem outS.mono {P0 N0:Hp} {D D':Ends} {o:Out} (h:outS C P0 N0 D o) (h1:∀σ H,D.nx σ H→D'.nx σ H) (h2:∀v H,D.rt v H→D'.rt v H) (h3:∀σ H,D.bk σ H→D'.bk σ H) (h4:∀σ H,D.ct σ H→D'.ct σ H):outS C P0 N0 D' o:=by
 cases o with
 |bad=>exact h
 |nx ρ=>exact fun σ P N H S e1 e2=>h1 _ _ (h σ P N H S e1 e2)
 |brk ρ=>exact fun σ P N H S e1 e2=>h3 _ _ (h σ P N H S e1 e2)
 |cnt ρ=>exact fun σ P N H S e1 e2=>h4 _ _ (h σ P N H S e1 e2)
 |ret er=>exact fun v P N H S e=>h2 _ _ (h v P N H S e)
 |exc c fs=>exact h
theorem qat {s:Stmt} {t u:TS} (h:PS X s t) (f:∀D σ H,u D σ H→t D σ H):PS X s u:=⟨fun pins s σ H D I q=>h.run pins s σ H D I (f _ _ _ q)⟩
theorem qa3 {s:List Stmt} {t u:TS} (h:PSs X s t) (f:∀D σ H,u D σ H→t D σ H):PSs X s u:=⟨fun pins s σ H D I q=>h.run pins s σ H D I (f _ _ _ q)⟩
theorem qmW {s:Stmt}:PS X s (tS C fun _=>.bad):=qat ps_never fun D σ H q=>by obtain⟨ρ,P,N,S,h⟩:=q;exact h
theorem qpu {pos:Pos}:PS X (.Pass pos) (tS C fun ρ=>.nx ρ):=qat ps_pass fun D σ H q=>by obtain⟨ρ,P,N,S,h⟩:=q;exact h σ P N H S (L2.Same.refl _) (L2.Same.refl _)
theorem qrD {x:Str} {j:Nat} {pos pos':Pos}:PS X (.Expr (.Constant (.str x) j pos) pos') (tS C fun ρ=>.nx ρ):=qat ps_doc fun D σ H q=>by obtain⟨ρ,P,N,S,h⟩:=q;exact h σ P N H S (L2.Same.refl _) (L2.Same.refl _)
theorem qrJ {pos:Pos}:PS X (.Break pos) (tS C fun ρ=>.brk ρ):=qat ps_break fun D σ H q=>by obtain⟨ρ,P,N,S,h⟩:=q;exact h σ P N H S (L2.Same.refl _) (L2.Same.refl _)
theorem qrf {pos:Pos}:PS X (.Continue pos) (tS C fun ρ=>.cnt ρ):=qat ps_continue fun D σ H q=>by obtain⟨ρ,P,N,S,h⟩:=q;exact h σ P N H S (L2.Same.refl _) (L2.Same.refl _)
theorem qps {pos:Pos}:PS X (.Return none pos) (tS C fun _=>.ret (.val .non true)):=qat ps_retN fun D σ H q=>by obtain⟨ρ,P,N,S,h⟩:=q;exact h .non P N H S.reg rfl
theorem qry {e:Expr} {g:List Sl→RE ER} {pos:Pos} (h:PE X e (tE C g)):PS X (.Return (some e) pos) (tS C fun ρ=>(g ρ).out fun x=>.ret (quT x)):=
 qat (ps_ret h) fun D σ H q=>by
  obtain⟨ρ,P,N,S,h⟩:=q
  refine⟨ρ,P,N,S,(h.res S.reg).mono fun x P1 N1 H1 _ a1 h1 v rv=>?_⟩
  have r1:=(S.adv a1).reg
  refine h1 v P1 N1 H1 r1 ?_
  cases x with
  |val d b=>exact rv
  |fre ds b=>exact rv.from S.reg.bH
  |brw ds b =>
   obtain⟨p,xs,e,z1,z2,z3,z4,z5⟩:=rv
   exact⟨p,xs,e,z1,z4,z2,z3,z5⟩
theorem qp4 {e:Expr} {g:List Sl→RE ER} {pos:Pos} (h:PE X e (tE C g)) (hs:swapsWith e none pos.line X.env=pure false):PS X (.Expr e pos) (tS C fun ρ=>(g ρ).out fun _=>.nx ρ):=
 qat (ps_expr h hs) fun D σ H q=>by
  obtain⟨ρ,P,N,S,h⟩:=q
  exact⟨ρ,P,N,S,(h.res S.reg).mono fun x P1 N1 H1 _ a1 h1 v rv=>h1 σ P1 N1 H1 (S.adv a1) a1.pp a1.nn⟩
theorem qsx {c:Expr} {a b:List Stmt} {gc:List Sl→RE Bool} {ga gb:List Sl→Out} {pos:Pos} (hc:PT X c (tT C gc)) (ha:PSs X a (tS C ga)) (hb:PSs X b (tS C gb)):PS X (.If c a b pos) (tS C fun ρ=>(gc ρ).out fun k=>if k=true then ga ρ else gb ρ):=
 qat (ps_if hc ha hb) fun D σ H q=>by
  obtain⟨ρ,P,N,S,h⟩:=q
  refine⟨ρ,P,N,S,(h.res S.reg).mono fun k P1 N1 H1 _ a1 h1=>?_⟩
  cases k
  ·exact⟨ρ,P1,N1,S.adv a1,h1.adv a1.pp a1.nn⟩
  ·exact⟨ρ,P1,N1,S.adv a1,h1.adv a1.pp a1.nn⟩
theorem ERr.held {P1 N1 H0 P N H:Hp} {er:ER} {v:V} {f:Cm.D→Bool→Out} {D:Ends} (a:Adv P1 N1 H0 P N H) (h:ERr C P N H H0 er v) (o:outS C P1 N1 D (held er f)):∃N2 d b,Adv P1 N1 H0 P N2 H∧RepB C P N2 b d v∧outS C P1 N1 D (f d b):=by
 cases er with
 |brw ds b=>exact o.elim
 |val d b=>exact⟨N,d,b,a,h,o⟩
 |fre ds b =>
  obtain⟨N2,a2,r2⟩:=h.freeze a
  exact⟨N2,.lst ds,b,a2,r2,o⟩
theorem qsD {i:Nat} {g:List Sl→RE ER} {D:Ends} {σ:L2.St} {H:Hp} (q:tS C (fun ρ=>(g ρ).out fun x=>held x fun d b=>.nx (ρ.set i (.val d b))) D σ H):tAsg (tE C g) (gName i) D σ H:=by
 obtain⟨ρ,P,N,S,h⟩:=q
 refine⟨ρ,P,N,S,(h.res S.reg).mono fun x P1 N1 H1 _ a1 h1 v rv=>?_⟩
 obtain⟨N2,d,b,a2,r2,o⟩:=rv.held a1 h1
 exact o _ P1 N2 H1 ((S.adv a2).setV r2) a2.pp a2.nn
theorem SR.newW {P0 N0 H0 H:Hp} {ρ:List Sl} {σ:L2.St} (S0:SR C P0 N0 H0 ρ σ) (hs:L2.Same H0 H) {p:Addr} (h0:H0 p=none) {j:Nat} {dss:List (List Cm.D)} {u:Option V} (e1:ρ[j]? = some (.row dss)) (e2:σ[j]? = some u):¬Held H (.row dss) u p:=fun k=>by
 obtain⟨o,z1,z2⟩:=S0.sl j _ e1
 rw[z1] at e2;cases e2
 have k0:Held H0 (.row dss) u p:=by
  obtain⟨q,ps,rfl,y1,_⟩:=z2
  cases k with
  |rt=>exact .rt
  |it e m =>
   rw[hs _ _ y1] at e
   injection e with e
   injection e with e
   rw[←qgv e] at m
   exact .it y1 m
 obtain⟨⟨xs,q⟩,_⟩:=z2.held k0
 rw[h0] at q;cases q
theorem SR.setO {P0 N0 H0 P N H:Hp} {ρ:List Sl} {σ:L2.St} (S0:SR C P0 N0 H0 ρ σ) (S:SR C P N H ρ σ) (hs:L2.Same H0 H) {i:Nat} {ds:List Cm.D} {b:Bool} {p:Addr} {xs:List V} (h0:H0 p=none) (hp:H p=some (.lst xs)) (pP:P p=none) (pN:N p=none) (h:RepsB C P N b ds xs):SR C P N H (ρ.set i (.own ds b)) (σ.set i (some (.ref p))) where
 reg:=S.reg
 len:=by simp[S.len]
 sl:=fun j s e=>by
  by_cases q:i=j
  ·subst q
   have hi:i<ρ.length:=by
    rcases Nat.lt_or_ge i ρ.length with z | z
    ·exact z
    ·rw[List.getElem?_eq_none (by simpa using z)] at e;cases e
   rw[List.getElem?_set_self hi] at e
   cases e
   exact⟨_,List.getElem?_set_self (by rw[S.len];exact hi),p,xs,rfl,hp,pP,pN,S0.reg.bH.free h0,h⟩
  ·rw[List.getElem?_set_ne q] at e
   rw[List.getElem?_set_ne q]
   exact S.sl j s e
 ap:=fun j k r ds' c es c' e1 e2 e3 e4=>by
  have old:∀{m:Nat} {r:Addr} {es:List Cm.D} {c:Bool},i≠m→(ρ.set i (.own ds b))[m]? = some (.own es c)→(σ.set i (some (.ref p)))[m]? = some (some (.ref r))→H0 r≠none:=fun {m r es c} hm e1 e2=>by
   rw[List.getElem?_set_ne hm] at e1 e2
   obtain⟨o,z1,q,ys,z2,z3,_⟩:=S0.sl m _ e1
   rw[z1] at e2
   cases e2
   cases z2
   rw[z3];simp
  have here:∀{m:Nat} {r:Addr},i=m→m<σ.length→(σ.set i (some (.ref p)))[m]? = some (some (.ref r))→r=p:=fun {m r} hm hl e=>by
   subst hm
   rw[List.getElem?_set_self hl] at e
   cases e;rfl
  have lt:∀{m:Nat} {o:Option V},(σ.set i (some (.ref p)))[m]? = some o→m<σ.length:=fun {m o} e=>by
   rcases Nat.lt_or_ge m σ.length with z | z
   ·exact z
   ·rw[List.getElem?_eq_none (by simpa using z)] at e;cases e
  by_cases q:i=j
  ·by_cases q2:i=k
   ·omega
   ·have:=here q (lt e3) e3
    subst this
    exact absurd h0 (old q2 e2 e4)
  ·by_cases q2:i=k
   ·have:=here q2 (lt e4) e4
    subst this
    exact absurd h0 (old q e1 e3)
   ·rw[List.getElem?_set_ne q] at e1 e3
    rw[List.getElem?_set_ne q2] at e2 e4
    exact S.ap j k r ds' c es c' e1 e2 e3 e4
 ad:=S.ad.set rfl
 ar:=S.ar.setO fun j dss u _ e1 e2=>S0.newW hs h0 e1 e2
theorem qr0 {i:Nat} {g:List Sl→RE ER} {D:Ends} {σ:L2.St} {H:Hp} (q:tS C (fun ρ=>(g ρ).out fun x=>match x with
  |.fre ds b=>.nx (ρ.set i (.own ds b))
  |.val .non _=>.nx (ρ.set i (.val .non true))
  |_=>.bad) D σ H):tAsg (tE C g) (gName i) D σ H:=by
 obtain⟨ρ,P,N,S,h⟩:=q
 refine⟨ρ,P,N,S,(h.res S.reg).mono fun x P1 N1 H1 _ a1 h1 v rv=>?_⟩
 cases x with
 |fre ds b =>
  obtain⟨p,xs,rfl,z1,z2,z3,z4,z5⟩:=rv
  exact h1 _ P1 N1 H1 (S.setO (S.adv a1) a1.hh z2 z1 z3 z4 z5) a1.pp a1.nn
 |val d b =>
  cases d with
  |non=>exact h1 _ P1 N1 H1 ((S.adv a1).setV rv) a1.pp a1.nn
  |_=>exact h1.elim
 |brw _ _=>exact h1.elim
theorem qez {P N:Hp} {D:Ends} {ρ:List Sl} {i:Nat} {f:List Cm.D→Bool→Out} (h:outS C P N D (qdh ρ i f)):∃ds b,ρ[i]? = some (.own ds b)∧outS C P N D (f ds b):=by
 unfold qdh at h
 split at h
 ·rename_i ds b e
  exact⟨ds,b,e,h⟩
 ·exact h.elim
theorem SR.write {P N H:Hp} {ρ:List Sl} {σ:L2.St} (S:SR C P N H ρ σ) {i:Nat} {ds ds':List Cm.D} {b b':Bool} {p:Addr} {xs':List V} (e:ρ[i]? = some (.own ds b)) (eσ:σ[i]? = some (some (.ref p))) (h:RepsB C P N b' ds' xs'):SR C P N (upd H p (.lst xs')) (ρ.set i (.own ds' b')) σ:=by
 obtain⟨o,z1,q,xs,z2,z3,z4,z5,z6,z7⟩:=S.sl i _ e
 rw[z1] at eσ;cases eσ;cases z2
 have hi:i<ρ.length:=(List.getElem?_eq_some_iff.mp e).1
 refine⟨⟨qaU S.reg.pH z4,qaU S.reg.nH z5,qaU S.reg.bH z6,S.reg.rB,S.reg.p0,S.reg.pn,S.reg.nw,S.reg.dj⟩,by simp[S.len],fun j s ej=>?_,fun j k r ds1 c es c' e1 e2 e3 e4=>?_,S.ad.setS rfl,(S.ar.own e).heap fun j dss r ej ej2=>upd_ne fun er=>?_⟩
 ·by_cases q:i=j
  ·subst q
   rw[List.getElem?_set_self hi] at ej
   cases ej
   exact⟨_,z1,p,xs',rfl,upd_same,z4,z5,z6,h⟩
  ·rw[List.getElem?_set_ne q] at ej
   obtain⟨o,y1,y2⟩:=S.sl j s ej
   refine⟨o,y1,?_⟩
   cases s with
   |non=>trivial
   |val d b=>exact y2
   |own es c =>
    obtain⟨r,ys,y3,y4,y5⟩:=y2
    have hr:r≠p:=fun er=>q (S.ap i j p ds b es c e ej z1 (by rw[y1,y3,er]))
    exact⟨r,ys,y3,by rw[upd_ne hr];exact y4,y5⟩
   |slf c fs =>
    obtain⟨r,dx,ys,y3,y4,y5⟩:=y2
    have hr:r≠p:=fun er=>by rw[er,z3] at y4;cases y4
    exact⟨r,dx,ys,y3,by rw[upd_ne hr];exact y4,y5⟩
   |fxd d k=>exact y2
   |dct m c =>
    obtain⟨r,es,y3,y4,y5⟩:=y2
    have hr:r≠p:=fun er=>by rw[er,z3] at y4;cases y4
    exact⟨r,es,y3,by rw[upd_ne hr];exact y4,y5⟩
   |row dss =>
    have far:∀a,Held H (.row dss) o a→a≠p:=fun a k er=>q (S.ar.un j i dss _ _ _ a ej e y1 z1 k (by rw[er];exact .own)).symm
    obtain⟨r,ps,rfl,y4,y5,y6,y7,y8,y9⟩:=y2
    refine⟨r,ps,rfl,by rw[upd_ne (far r .rt)];exact y4,y5,y6,y7,?_,y9⟩
    exact y8.sub fun a m ds ⟨xs,g1,g2⟩=>⟨xs,by rw[upd_ne (far a (.it y4 m))];exact g1,g2⟩
 ·have un:∀{m:Nat} {es:List Cm.D} {c:Bool},(ρ.set i (.own ds' b'))[m]? = some (.own es c)→∃es' c',ρ[m]? = some (.own es' c'):=fun {m es c} em=>by
   by_cases q:i=m
   ·subst q;exact⟨_,_,e⟩
   ·rw[List.getElem?_set_ne q] at em;exact⟨_,_,em⟩
  obtain⟨_,_,f1⟩:=un e1
  obtain⟨_,_,f2⟩:=un e2
  exact S.ap j k r _ _ _ _ f1 f2 e3 e4
 ·rcases qaR ej with⟨_,z⟩ | ⟨qn,z⟩
  ·cases z
  ·exact qn (S.ar.un j i dss _ _ _ p z e ej2 z1 (by rw[er];exact .rt) .own).symm
theorem SR.root {P N H:Hp} {ρ:List Sl} {σ:L2.St} (S:SR C P N H ρ σ) {i:Nat} {ds:List Cm.D} {b:Bool} (e:ρ[i]? = some (.own ds b)):∃p xs,σ[i]? = some (some (.ref p))∧H p=some (.lst xs)∧P p=none∧N p=none∧C.B p=none∧RepsB C P N b ds xs:=by
 obtain⟨o,z1,p,xs,rfl,z2⟩:=S.sl i _ e
 exact⟨p,xs,z1,z2⟩
theorem qsv {i:Nat} {g:List Sl→Out} {D:Ends} {σ:L2.St} {H:Hp} (q:tS C (fun ρ=>qdh ρ i fun ds b=>g (ρ.set i (.val (.lst ds) b))) D σ H):tS C g D σ H:=by
 obtain⟨ρ,P,N,S,h⟩:=q
 obtain⟨ds,b,e,o⟩:=qez h
 obtain⟨p,xs,z1,z2,z3,z4,z5,z6⟩:=S.root e
 have hi:i<ρ.length:=(List.getElem?_eq_some_iff.mp e).1
 have sn:L2.Same N (upd N p (.lst xs)):=qaA z4
 refine⟨ρ.set i (.val (.lst ds) b),P,upd N p (.lst xs),⟨⟨S.reg.pH,qlg S.reg.nH z2,S.reg.bH,S.reg.rB,S.reg.p0,S.reg.pn,fun a ha=>?_,fun a ha=>?_⟩,by simp[S.len],fun j s ej=>?_,fun j k r ds1 c es c' e1 e2 e3 e4=>?_,S.ad.setS rfl,S.ar.setS rfl⟩,o.adv (L2.Same.refl _) sn⟩
 ·by_cases q:a=p
  ·rw[q];exact z5
  ·rw[upd_ne q] at ha;exact S.reg.nw a ha
 ·by_cases q:a=p
  ·rw[q];exact z3
  ·rw[upd_ne q] at ha;exact S.reg.dj a ha
 ·by_cases q:i=j
  ·subst q
   rw[List.getElem?_set_self hi] at ej
   cases ej
   exact⟨_,z1,_,rfl,p,xs,rfl,.inl upd_same,RepsB.adv (L2.Same.refl _) sn z6⟩
  ·rw[List.getElem?_set_ne q] at ej
   obtain⟨o,y1,y2⟩:=S.sl j s ej
   refine⟨o,y1,?_⟩
   cases s with
   |non=>trivial
   |val d b=>obtain⟨v,y3,y4⟩:=y2;exact⟨v,y3,RepB.adv (L2.Same.refl _) sn y4⟩
   |own es c =>
    obtain⟨r,ys,y3,y4,y5,y6,y7,y8⟩:=y2
    have hr:r≠p:=fun er=>q (S.ap i j p ds b es c e ej z1 (by rw[y1,y3,er]))
    exact⟨r,ys,y3,y4,y5,by rw[upd_ne hr];exact y6,y7,RepsB.adv (L2.Same.refl _) sn y8⟩
   |slf c fs =>
    obtain⟨r,dx,ys,y3,y4,y5,y6,y7,y8,y9⟩:=y2
    have hr:r≠p:=fun er=>by rw[er,z2] at y4;cases y4
    exact⟨r,dx,ys,y3,y4,y5,by rw[upd_ne hr];exact y6,y7,y8,RepsB.adv (L2.Same.refl _) sn y9⟩
   |fxd d k=>obtain⟨v,y3,y4,y5⟩:=y2;exact⟨v,y3,y4,RepB.adv (L2.Same.refl _) sn y5⟩
   |dct m c =>
    obtain⟨r,es,y3,y4,y5,y6,y7,y8⟩:=y2
    have hr:r≠p:=fun er=>by rw[er,z2] at y4;cases y4
    exact⟨r,es,y3,y4,y5,by rw[upd_ne hr];exact y6,y7,y8.adv (L2.Same.refl _) sn⟩
   |row dss =>
    have far:∀a,Held H (.row dss) o a→a≠p:=fun a k er=>q (S.ar.un j i dss _ _ _ a ej e y1 z1 k (by rw[er];exact .own)).symm
    obtain⟨r,ps,rfl,y4,y5,y6,y7,y8,y9⟩:=y2
    refine⟨r,ps,rfl,y4,y5,by rw[upd_ne (far r .rt)];exact y6,y7,?_,y9⟩
    exact y8.sub fun a m ds ⟨xs,g1,g2,g3,g4,g5,g6⟩=>⟨xs,g1,g2,by rw[upd_ne (far a (.it y4 m))];exact g3,g4,g5,RepsB.adv (L2.Same.refl _) sn g6⟩
 ·have un:∀{m:Nat} {es:List Cm.D} {c:Bool},(ρ.set i (.val (.lst ds) b))[m]? = some (.own es c)→ρ[m]? = some (.own es c):=fun {m es c} em=>by
   by_cases q:i=m
   ·subst q;rw[List.getElem?_set_self hi] at em;cases em
   ·rw[List.getElem?_set_ne q] at em;exact em
  exact S.ap j k r _ _ _ _ (un e1) (un e2) e3 e4
end
end Cm
namespace Cm
open PySem PySem.Spec PyProof.Rows L2
section
variable {C:Ctx} {X:Cx}
theorem qrB {i:Nat} {g:List Sl→RE ER} {D:Ends} {σ:L2.St} {H:Hp} {K:PySem.W.Frag} (q:tS C (fun ρ=>qdh ρ i fun ds c=>(g ρ).out fun x=>held x fun d b=>gdO (leB (ds.length+1)) (.nx (ρ.set i (.own (ds++[d]) (b&&c))))) D σ H) :
  tDrop (tBM K "list" rAppend (tVar i) (tCons (tE C g) tNil)) D σ H:=by
 obtain⟨ρ,P,N,S,h⟩:=q
 obtain⟨ds,c,e,o⟩:=qez h
 obtain⟨p,xs,z1,z2,z3,z4,z5,z6⟩:=S.root e
 refine⟨_,z1,.inl ⟨rfl,xs,.inl (.inl z2)⟩,ρ,P,N,S,(o.res S.reg).mono fun x P1 N1 H1 _ a1 h1 v rv=>?_⟩
 obtain⟨N2,d,b,a2,r2,o⟩:=rv.held a1 h1
 simp only[qbE,qas] at o
 split at o
 ·rename_i hl
  refine⟨p,xs,v,rfl,rfl,a1.hh _ _ z2,by rw[z6.length];exact hl,?_⟩
  exact o _ P1 N2 _ ((S.adv a2).write e z1 (Reps.append (RepsB.and2 (RepsB.adv a2.pp a2.nn z6)) (Reps.one (RepB.and1 r2)))) a2.pp a2.nn
 ·exact o.elim
theorem qqN {i:Nat} {D:Ends} {σ:L2.St} {H:Hp} {K:PySem.W.Frag} (q:tS C (fun ρ=>qdh ρ i fun _ _=>.nx (ρ.set i (.own [] true))) D σ H):tDrop (tBM0 K "list" rClear (tVar i)) D σ H:=by
 obtain⟨ρ,P,N,S,h⟩:=q
 obtain⟨ds,c,e,o⟩:=qez h
 obtain⟨p,xs,z1,z2,z3,z4,z5,z6⟩:=S.root e
 exact⟨_,z1,.inl ⟨rfl,xs,.inl (.inl z2)⟩,p,xs,rfl,rfl,z2,o _ P N _ (S.write e z1 rfl) (L2.Same.refl _) (L2.Same.refl _)⟩
theorem qsz {i:Nat} {g gi:List Sl→RE ER} {D:Ends} {σ:L2.St} {H:Hp} (q:tS C (fun ρ=>(g ρ).out fun x=>held x fun d b=>qdh ρ i fun ds c=>(gi ρ).out fun k=>match k.d with
  |.int k=>match ixN ds.length k with
   |some j=>.nx (ρ.set i (.own (ds.set j d) (b&&c)))
   |none=>.bad
  |_=>.bad) D σ H):tAsg (tE C g) (gSub (tVar i) (tE C gi) rSetL) D σ H:=by
 obtain⟨ρ,P,N,S,h⟩:=q
 refine⟨ρ,P,N,S,(h.res S.reg).mono fun x P1 N1 H1 _ a1 h1 v rv=>?_⟩
 obtain⟨N2,d,b,a2,r2,o⟩:=rv.held a1 h1
 have S2:=S.adv a2
 obtain⟨ds,c,e,o⟩:=qez o
 obtain⟨p,xs,z1,z2,z3,z4,z5,z6⟩:=S2.root e
 refine⟨_,z1,ρ,P1,N2,S2,((o.adv a2.pp a2.nn).res S2.reg).mono fun k P3 N3 H3 _ a3 h3 u ru=>?_⟩
 have r3:=(S2.adv a3).reg
 split at h3
 ·rename_i k' ek
  have w:=ru.w r3
  rw[ek] at w
  cases w.int
  split at h3
  ·rename_i j ej
   refine⟨p,xs,k',j,rfl,rfl,a3.hh _ _ z2,by rw[z6.length];exact ej,?_⟩
   exact h3 _ P3 N3 _ ((S2.adv a3).write e z1 (Reps.set (RepB.and1 (RepB.adv a3.pp a3.nn r2)) j (RepsB.and2 (RepsB.adv a3.pp a3.nn z6)))) a3.pp a3.nn
  ·exact h3.elim
 ·exact h3.elim
theorem qr4 {gi:List Sl→RE Wk} {tg:List Nat} {gb:List Sl→Out} {D:Ends} {σ:L2.St} {H:Hp} (q:tS C (fun ρ=>(gi ρ).out fun w=>if w.own=true then .bad else qfS (fun x ρ=>onB (qdq tg x w.b ρ) gb) w.xs ρ) D σ H):tFor (tI C gi) (tG C tg) (tS C gb) D σ H:=by
 obtain⟨ρ,P,N,S,h⟩:=q
 refine⟨ρ,P,N,S,(h.res S.reg).mono fun w P1 N1 H1 _ a1 h1 J wj=>?_⟩
 split at h1
 ·exact h1.elim
 rename_i how
 have how:w.own=false:=by simpa using how
 obtain⟨Gd,Y,wk,_,stay,item⟩:=wj
 generalize hf:(fun x ρ=>onB (qdq tg x w.b ρ) gb)=f at h1
 have r1:=(S.adv a1).reg
 refine for_it wk (Pv:=fun i σ' H'=>∃ρ' P' N',SR C P' N' H' ρ' σ'∧L2.Same P1 P'∧L2.Same N1 N'∧outS C P1 N1 D (qfS f (w.xs.drop i) ρ')) ?_ (fun i σ' H' hi p=>?_) (fun i x σ' H' H'' hi p y=>?_) (fun σ' H' p=>?_)
 ·exact⟨ρ,P1,N1,S.adv a1,L2.Same.refl _,L2.Same.refl _,by simpa using h1.adv a1.pp a1.nn⟩
 ·obtain⟨ρ',P',N',S',s1,s2,_⟩:=p
  exact stay how P' N' H' s1 s2 S'.reg
 ·obtain⟨ρ',P',N',S',s1,s2,o⟩:=p
  obtain⟨P3,a3,d,ed,rd⟩:=item i P' N' H' x H'' hi s1 s2 S'.reg y
  have hdrop:w.xs.drop i=d::w.xs.drop (i+1):=by
   obtain⟨hi',e⟩:=List.getElem?_eq_some_iff.mp ed
   rw[List.drop_eq_getElem_cons hi',e]
  rw[hdrop] at o
  have o2:outS C P1 N1 D (match f d ρ' with
   |.nx ρ'=>qfS f (w.xs.drop (i+1)) ρ'
   |.cnt ρ'=>qfS f (w.xs.drop (i+1)) ρ'
   |.brk ρ'=>.nx ρ'
   |o=>o):=o
  have ef:f d ρ'=onB (qdq tg d w.b ρ') gb:=by rw[←hf]
  cases eb:qdq tg d w.b ρ' with
  |none=>rw[ef,eb] at o2;exact o2.elim
  |some ρ2 =>
   rw[ef,eb,qqb] at o2
   refine⟨ρ',P3,N',d,w.b,ρ2,S'.adv a3,rd,eb,fun σ2 S2 _ _=>⟨ρ2,P3,N',S2,?_⟩⟩
   have t1:=s1.trans a3.pp
   cases e3:gb ρ2 with
   |bad=>simp only[e3] at o2;exact o2
   |nx ρ3=>simp only[e3] at o2;exact fun σ4 P4 N4 H4 S4 e1 e2=>⟨ρ3,P4,N4,S4,t1.trans e1,s2.trans e2,o2⟩
   |cnt ρ3=>simp only[e3] at o2;exact fun σ4 P4 N4 H4 S4 e1 e2=>⟨ρ3,P4,N4,S4,t1.trans e1,s2.trans e2,o2⟩
   |brk ρ3=>simp only[e3] at o2;exact fun σ4 P4 N4 H4 S4 e1 e2=>o2 σ4 P4 N4 H4 S4 (t1.trans e1) (s2.trans e2)
   |ret er=>simp only[e3] at o2;exact o2
   |exc c fs=>simp only[e3] at o2;exact o2
 ·obtain⟨ρ',P',N',S',s1,s2,o⟩:=p
  rw[List.drop_length] at o
  exact o σ' P' N' H' S' s1 s2
theorem qrq {gc:List Sl→RE Bool} {gb:List Sl→Out} {n:Nat} {D:Ends} {σ:L2.St} {H:Hp} (q:tS C (fun ρ=>qgo gc gb n ρ) D σ H):tWhile (tT C gc) (tS C gb) D σ H:=by
 obtain⟨ρ,P,N,S,h⟩:=q
 refine⟨fun m σ' H'=>∃ρ' P' N',SR C P' N' H' ρ' σ'∧L2.Same P P'∧L2.Same N N'∧outS C P N D (qgo gc gb m ρ'),⟨n,ρ,P,N,S,L2.Same.refl _,L2.Same.refl _,h⟩,fun m σ' H' p=>?_⟩
 obtain⟨ρ',P',N',S',s1,s2,o⟩:=p
 cases m with
 |zero=>exact o.elim
 |succ m =>
  have o2:outS C P N D ((gc ρ').out fun k=>if k=true then (match gb ρ' with
   |.nx ρ'=>qgo gc gb m ρ'
   |.cnt ρ'=>qgo gc gb m ρ'
   |.brk ρ'=>.nx ρ'
   |o=>o) else .nx ρ'):=o
  refine⟨ρ',P',N',S',((o2.adv s1 s2).res S'.reg).mono fun k P1 N1 H1 _ a1 h1=>?_⟩
  cases k with
  |false=>exact h1 σ' P1 N1 H1 (S'.adv a1) a1.pp a1.nn
  |true =>
   simp only[if_true] at h1 ⊢
   refine⟨fun σ' H'=>∃ρ' P' N',SR C P' N' H' ρ' σ'∧L2.Same P P'∧L2.Same N N'∧outS C P N D (qgo gc gb m ρ'),fun σ2 H2 z=>⟨m,Nat.lt_succ_self m,z⟩,ρ',P1,N1,S'.adv a1,?_⟩
   have t1:=s1.trans a1.pp
   have t2:=s2.trans a1.nn
   have o3:gc ρ'=.ok true:=by assumption
   rw[o3] at o2
   simp only[RE.out_ok,if_true] at o2
   cases e3:gb ρ' with
   |bad=>simp only[e3] at o2;exact o2
   |nx ρ3=>simp only[e3] at o2;exact fun σ4 P4 N4 H4 S4 e1 e2=>⟨ρ3,P4,N4,S4,t1.trans e1,t2.trans e2,o2⟩
   |cnt ρ3=>simp only[e3] at o2;exact fun σ4 P4 N4 H4 S4 e1 e2=>⟨ρ3,P4,N4,S4,t1.trans e1,t2.trans e2,o2⟩
   |brk ρ3=>simp only[e3] at o2;exact fun σ4 P4 N4 H4 S4 e1 e2=>o2 σ4 P4 N4 H4 S4 (t1.trans e1) (t2.trans e2)
   |ret er=>simp only[e3] at o2;exact o2
   |exc c fs=>simp only[e3] at o2;exact o2
end
end Cm
namespace Cm
open PySem PySem.Spec PyProof.Rows L2
structure Tb where
 N:List Str
 fn:List (Str × Nat)
 gc:List Str
 mn:List (Str × Nat)
 fs:List Str
 nw:List (Str × Nat):=[]
 ck:List (Str × Bool):=[]
 xk:List Str:=[]
 dc:List Str:=[]
def qmU (sc:Scope) (x:Str):Bool:=match sc.names.lookup x with
 |some .local=>true
 |some .cell=>true
 |some .free=>true
 |_=>false
def glB (sc:Scope) (x:Str):Bool:=match sc.names.lookup x with
 |some .globalImplicit=>true
 |_=>false
def tgB (fc:Option Scope) (sc:Scope) (x:Str):Bool:=match sc.names.lookup x with
 |some .local=>true
 |some .cell=>(match fc with
  |none=>true
  |some so=>so.names.lookup x == some .cell)
 |_=>false
def nmB (x:Str):Bool:=!(x == ("__debug__" : Str)) && !(x == ("__classdict__" : Str))
def qai:Expr→Bool
 |.Starred _ _=>false
 |_=>true
def qgw:Expr→Bool
 |.Slice _ _ _ _=>false
 |_=>true
def qmn:Expr→Bool
 |.Call (.Name _ _) [] [] _=>false
 |_=>true
def qjJ:Expr→Bool
 |.Set _ _ _=>false
 |_=>true
def qei:Expr→Bool
 |.ListComp _ _ _ _=>false
 |.SetComp _ _ _ _=>false
 |.DictComp _ _ _ _ _=>false
 |_=>true
theorem qad {e:Expr} {es:List Expr} {env:PySem.Env} (h:qai e=true):starEach (e::es) env=(false,eval e env)::starEach es env:=by
 cases e<;>first | rfl | cases h
theorem qex {env:PySem.Env} {pos:Pos}:∀{es:List Expr},es.all qai=true→(backTo pos (starEach es env)).any (·.1)=false
 |[],_=>rfl
 |e::es,h=>by
  simp only[List.all_cons,Bool.and_eq_true] at h
  rw[qad h.1]
  have:=qex (env:=env) (pos:=pos) h.2
  unfold backTo at this ⊢
  simpa using this
theorem qfp {X:Cx} {es:List Expr} (h:es.all qai=true):qns X es:=⟨fun e r q=>by
 subst q
 simp only[List.all_cons,Bool.and_eq_true] at h
 exact qad h.1,fun pos e r q=>by
 subst q
 simp only[List.all_cons,Bool.and_eq_true] at h
 exact qex h.2⟩
theorem qhi {o:Expr} {m:Str} {env:PySem.Env} {w:Sem Value} (h:qmn o=true):attributeBase o m env w=w:=by
 cases o with
 |Call f as ks p =>
  cases f with
  |Name x q =>
   cases as with
   |nil =>
    cases ks with
    |nil=>cases h
    |cons _ _=>rfl
   |cons _ _=>rfl
  |_=>rfl
 |_=>rfl
theorem qpA {o:Expr} {m:Str} {apos pos:Pos} {es:List Expr} {env:PySem.Env} (hb:qmn o=true) (hs:es.all qai=true) (hn:es.length<20) (hl:(apos.endLine == pos.line)=true) :
  eval (.Call (.Attribute o m apos) es [] pos) env=(do
   let ov ←eval o env
   standAt apos.atName
   let (f,first) ←holding [ov] (getMethod ov m (plainOf o env))
   callWith pos f first (backTo pos (starEach es env)) (backToKw pos (keywordEach [] env))):=by
 have e1:eval (.Call (.Attribute o m apos) es [] pos) env=(do
   let ov ←attributeBase o m env (eval o env)
   standAt apos.atName
   methodCall o m apos pos env ov (es.length+([]:List Keyword).length) (backTo pos (starEach es env)) (backToKw pos (keywordEach [] env))):=by
  rfl
 rw[e1,qhi hb]
 have hf:methodCallForm (es.length+([]:List Keyword).length) (backTo pos (starEach es env)) (backToKw pos (keywordEach [] env))=true:=by
  unfold methodCallForm
  have:=qex (env:=env) (pos:=pos) hs
  have e:(backTo pos (starEach es env)).all (fun x=>!x.1)=true:=by
   rw[List.all_eq_not_any_not]
   simpa using this
  rw[e]
  simp[backToKw,keywordEach]
  omega
 have:∀ov,methodCall o m apos pos env ov (es.length+([]:List Keyword).length) (backTo pos (starEach es env)) (backToKw pos (keywordEach [] env))=_:=fun ov=>mcall_line hf hl
 simp only[this]
theorem qs4 {e:Expr} {env:PySem.Env} (h:(match e with
  |.UnaryOp .Not _ _=>false
  |.BoolOp _ _ _=>false
  |.IfExp _ _ _ _=>false
  |.Compare _ _ _ _=>false
  |_=>true)=true):∀whole,isTrue e env whole=(do let v ←whole;standAt e.pos;holding [v] (truthy v)):=by
 cases e with
 |UnaryOp o a p=>cases o<;>first | (intro _;rfl) | cases h
 |BoolOp _ _ _=>cases h
 |IfExp _ _ _ _=>cases h
 |Compare _ _ _ _=>cases h
 |_=>intro _;rfl
theorem qg2 {e:Expr} {t:Option Expr} {l:Nat} {env:PySem.Env} (h:qei e=true):swapsWith e t l env=pure false:=by
 cases e<;>first | rfl | cases h
theorem qfP {e:Expr} {env:PySem.Env} (h:qjJ e=true):∀x,foldedSetIterable e env x=pure x:=by
 cases e<;>first | (intro _;rfl) | cases h
theorem quO {e:Expr} (h:qgw e=true):PlainIx e:=by
 cases e<;>first | (intro _ _;rfl) | cases h
end Cm
set_option maxHeartbeats 1000000
namespace Cm
open PySem PySem.Spec PyProof.Rows L2
section
variable {C:Ctx} {X:Cx}
abbrev qwS (go g:List Sl→RE ER):List Sl→RE ER:=fun ρ=>(go ρ).bind fun x=>match x.d with
  |.lst xs=>(g ρ).bind fun y=>qqq xs y.d
  |_=>.bad
abbrev qwu (go g:List Sl→RE ER):List Sl→RE ER:=fun ρ=>(go ρ).bind fun x=>match x.d with
  |.str s=>(g ρ).bind fun y=>qtx s y.d
  |_=>.bad
theorem qo1 {a:Expr} {g:List Sl→RE ER} {p p2 q pos:Pos} (hK:X.K=C.G.K) (hc:X.calm=true) (hg:Gl X "len") (hm:X.mg "len" = none) (hg2:Gl X "set") (hm2:X.mg "set" = none) (ha:PE X a (tE C g))
  (na:qai a=true):PE X (.Call (.Name "len" p) [.Call (.Name "set" p2) [a] [] q] [] pos) (tE C fun ρ=>(g ρ).bind fun x=>qlD x.d):=by
 have na:=qad (es:=[]) (env:=X.env) na
 refine⟨fun pins s σ H Q I h=>Call_ (ld_blt I hg hm PySem.boot_len (PyProof.Rows.callWith_builtin1 (PyProof.Rows.args_cons ?_ rfl) rfl rfl))⟩
 refine Call_ (ld_blt I hg2 hm2 PyProof.Rows.boot_set (PyProof.Rows.callWith_type1 (PyProof.Rows.args_cons ?_ na) na rfl))
 have body:tE C g σ H fun x H1=>∃(l:Addr) (ns:List Int),x=V.ref l∧SqL X.K H1 l (ns.map V.int)∧ns.length≤1000∧Q (.int (qpM ns)) H1:=by
  obtain⟨ρ,P,N,S,h⟩:=h
  refine⟨ρ,P,N,S,h.bind.mono fun x P1 N1 H1 _ a1 h1 v rv=>?_⟩
  have r1:=(S.adv a1).reg
  unfold qlD at h1
  split at h1
  ·rename_i ds hd
   split at h1
   ·rename_i ns hn
    have w:=rv.w r1
    rw[hd] at w
    obtain⟨l,xs,rfl,z1,z2⟩:=w
    rw[qeM] at h1
    split at h1
    ·rename_i hl
     rw[Nat.ble_eq] at hl
     exact⟨l,ns,rfl,by rw[hK,←qdl hn z2];exact z1,hl,h1.val r1 rfl⟩
    ·exact h1.elim
   ·exact h1.elim
  ·exact h1.elim
 refine thn (ha.run pins s σ H _ I body) fun v s1 ⟨x,H1,I1,r1,q1⟩=>PyProof.Rows.args_nil ?_
 obtain⟨l,ns,rfl,hq,hl,q1⟩:=q1
 cases r1
 obtain⟨its,r,pl,_⟩:=I1.list hq
 have hz:its.toArray.size=ns.length:=by rw[List.size_toArray,←r.length,List.length_map]
 refine call_set_list (I1.ok.hd hc) pl.isList (ns:=ns) (by simpa using r.ints) (by unfold scanBound;omega) fun h' tk hS hk=>PyProof.Rows.args_nil ?_
 rw[hz] at hS
 obtain⟨o,es,ep,t,ho,hex,hd,_,_,_,hf,hn⟩:=hS
 have I2:Inv X pins σ H1 { s1 with heap:=h',toks:=tk }:=I1.kept fun b o e=>hk b o (Heap.lt_size e) e
 have le:qpM ns≤ns.length:=PyProof.Rows.firstMet_length_le (fun i=>ns.getD i 0) ns.length
 have hn':es.size=qpM ns:=hn
 exact call_len_set ho hex hd hf (by rw[hn'];omega) ⟨.int (qpM ns),H1,I2.tok _,⟨_,by rw[hn']⟩,q1⟩
theorem qrN {n:Nat} {k:Int} {m:Nat} (h:ixN n k=some m) (hn:n≤16777216):seqIndex? k n=some m ∧ -(2 ^ 63)≤k∧k<2 ^ 63:=by
 unfold ixN at h
 unfold seqIndex?
 split at h
 ·rename_i h0
  split at h
  ·rename_i h1
   cases h
   have e:¬k<0:=by omega
   refine⟨?_,by omega,by omega⟩
   simp only[e,if_false]
   rw[if_pos (by simp;omega)]
  ·cases h
 ·rename_i h0
  split at h
  ·rename_i h1
   cases h
   have e:k<0:=by omega
   refine⟨?_,by omega,by omega⟩
   simp only[e,if_true]
   rw[if_pos (by simp;omega)]
  ·cases h
theorem qp7 {i j:Nat} {g:List Sl→RE ER} {D:Ends} {σ:L2.St} {H:Hp} {K:PySem.W.Frag} (q:tS C (fun ρ=>if i=j then .bad else qdh ρ i fun ds c=>qdh ρ j fun es c2=>(g ρ).out fun k=>match k.d with
  |.int k=>match ixN es.length k with
   |some m=>match es[m]? with
    |some d=>gdO (leB es.length) (gdO (leB (ds.length+1)) (.nx ((ρ.set j (.own (es.eraseIdx m) c2)).set i (.own (ds++[d]) (c2&&c)))))
    |none=>.bad
   |none=>.bad
  |_=>.bad) D σ H) :
  tDrop (tBM K "list" rAppend (tVar i) (tCons (tBM K "list" rPopAt (tVar j) (tCons (tE C g) tNil)) tNil)) D σ H:=by
 obtain⟨ρ,P,N,S,h⟩:=q
 split at h
 ·exact h.elim
 rename_i hij
 obtain⟨ds,c,e,o⟩:=qez h
 obtain⟨es,c2,e2,o⟩:=qez o
 obtain⟨p,xs,z1,z2,z3,z4,z5,z6⟩:=S.root e
 obtain⟨p2,xs2,y1,y2,y3,y4,y5,y6⟩:=S.root e2
 refine⟨_,z1,.inl ⟨rfl,xs,.inl (.inl z2)⟩,_,y1,.inl ⟨rfl,xs2,.inl (.inl y2)⟩,ρ,P,N,S,(o.res S.reg).mono fun k P1 N1 H1 _ a1 h1 v rv=>?_⟩
 have S1:=S.adv a1
 split at h1
 ·rename_i k' ek
  have w:=rv.w S1.reg
  rw[ek] at w
  cases w.int
  split at h1
  ·rename_i m em
   split at h1
   ·rename_i d ed
    simp only[qbE,qas] at h1
    split at h1
    case isFalse=>exact h1.elim
    rename_i le2
    split at h1
    ·rename_i hl
     have r2:=RepsB.adv a1.pp a1.nn y6
     have r1:=RepsB.adv a1.pp a1.nn z6
     obtain⟨w,w1,w2⟩:=r2.get ed
     have hne:p≠p2:=fun z=>hij (S.ap i j p ds c es c2 e e2 z1 (by rw[z];exact y1))
     have le2:xs2.length≤16777216:=by rw[y6.length];exact le2
     rw[←y6.length] at em
     obtain⟨b1,b2,b3⟩:=qrN em le2
     refine⟨p2,xs2,k',m,w,rfl,rfl,a1.hh _ _ y2,b2,b3,b1,w1,?_⟩
     have Sw:=S1.write e2 y1 (b':=c2) (xs':=xs2.eraseIdx m) (Reps.eraseIdx m r2)
     have e':(ρ.set j (.own (es.eraseIdx m) c2))[i]? = some (.own ds c):=by rw[List.getElem?_set_ne (fun z=>hij z.symm)];exact e
     have Sw2:=Sw.write e' z1 (b':=c2&&c) (xs':=xs++[w]) (Reps.append (RepsB.and2 r1) (Reps.one (RepB.and1 w2)))
     refine⟨p,xs,w,rfl,rfl,by rw[upd_ne hne];exact a1.hh _ _ z2,by rw[z6.length];exact hl,h1 _ P1 N1 _ Sw2 a1.pp a1.nn⟩
    ·exact h1.elim
   ·exact h1.elim
  ·exact h1.elim
 ·exact h1.elim
theorem qqO {i:Nat} {f:Str} {fi:Nat→Option Nat} {σ:L2.St} {H:Hp} {Q:VK} (hf:∀c k,fi c=some k→FdOk C X f c k) (h:tE C (fun ρ=>match ρ[i]? with
  |some (.slf c fs)=>match fi c with
   |some k=>match fs[k]? with
    |some d=>.ok (.val d true)
    |none=>.bad
   |none=>.bad
  |_=>.bad) σ H Q):tFld X.K (tVar i) f σ H Q:=by
 obtain⟨ρ,P,N,S,h⟩:=h
 dsimp only at h
 split at h
 ·rename_i c fs e
  split at h
  ·rename_i k ek
   split at h
   ·rename_i d ed
    obtain⟨o,z1,p,dx,xs,⟨ep,rfl⟩,z2,z3,z4,z5,z6,z7⟩:=S.sl i _ e
    obtain⟨c1,c2,c3,c4⟩:=hf _ _ ek
    obtain⟨u,q4,q5⟩:=Reps.get z7 ed
    exact⟨_,z1,p,_,dx,_,u,rfl,z2,c1,c2,qfM c4 c3 q4,h.val S.reg q5⟩
   ·exact h.elim
  ·exact h.elim
 ·exact h.elim
theorem qmc {f:Str} {v:V}:∀{l:List Str} {xs:List V},l[xs.length]? = some f→f∉l.take xs.length→putF f v (l.zip xs)=l.zip (xs++[v])
 |[],_,h,_=>by simp at h
 |g::l,[],h,_=>by
  simp at h
  subst h
  simp[putF]
 |g::l,x::xs,h,hn=>by
  simp only[List.length_cons,List.take_succ_cons,List.mem_cons,not_or] at hn
  simp only[List.zip_cons_cons,List.cons_append,putF]
  rw[if_neg (fun e=>hn.1 e.symm),qmc (by simpa using h) hn.2]
theorem qh7 {f:Str}:∀{l:List Str} {k:Nat},l.Nodup→l[k]? = some f→f∉l.take k
 |[],_,_,h=>by simp at h
 |g::l,0,_,_=>by simp
 |g::l,k+1,hn,h=>by
  simp only[List.nodup_cons] at hn
  simp only[List.take_succ_cons,List.mem_cons,not_or]
  have h':l[k]? = some f:=by simpa using h
  exact⟨fun e=>hn.1 (e ▸ List.mem_of_getElem? h'),qh7 hn.2 h'⟩
theorem qks:∀{ρ:List Sl} {j c:Nat} {fs:List Cm.D},qpc ρ=true→ρ[j]? ≠ some (.slf c fs)
 |[],j,c,fs,_,e=>by simp at e
 |s::ρ,0,c,fs,h,e=>by
  simp at e
  subst e
  cases h
 |s::ρ,j+1,c,fs,h,e=>by
  refine qks (ρ:=ρ) (j:=j) (c:=c) (fs:=fs) ?_ (by simpa using e)
  cases s<;>first | exact h | cases h
theorem ERr.heldF {P1 N1 H0 P N H:Hp} {er:ER} {v:V} {f:Cm.D→Out} {D:Ends} (a:Adv P1 N1 H0 P N H) (h:ERr C P N H H0 er v) (o:outS C P1 N1 D (heldF er f)):∃N2 d,Adv P1 N1 H0 P N2 H∧RepB C P N2 true d v∧outS C P1 N1 D (f d):=by
 cases er with
 |brw ds b=>exact o.elim
 |val d b =>
  simp only[Cm.heldF,qbE] at o
  split at o
  ·rename_i z
   exact⟨N,d,a,by have:=RepB.nf (C:=C) h;rw[z] at this;exact this,o⟩
  ·exact o.elim
 |fre ds b =>
  simp only[Cm.heldF,qbE] at o
  split at o
  ·rename_i z
   obtain⟨p,xs,rfl,h1,h2,h3,h4,h5⟩:=h
   have sn:L2.Same N (upd N p (.lst xs)):=qaA h4
   refine⟨upd N p (.lst xs),.lst ds,a.holdN h2 h1 h4 h3,⟨p,xs,rfl,.inl upd_same,?_⟩,o⟩
   have h6:=RepsB.adv (C:=C) (L2.Same.refl P) sn h5
   cases b with
   |true=>exact h6
   |false=>exact Reps.flat _ _ (by simpa using z) h6
  ·exact o.elim
theorem qpT {f:Str} {fi:Nat→Option Nat} {g:List Sl→RE ER} {D:Ends} {σ:L2.St} {H:Hp} (hf:∀c k,fi c=some k→FdOk C X f c k) (q:tS C (fun ρ=>(g ρ).out fun x=>heldF x fun d=>qqd ρ fun c fs r=>match fi c with
  |some k=>if k=fs.length then gdO (Nat.ble k 900) (.nx (.slf c (fs++[d])::r)) else .bad
  |none=>.bad) D σ H):sFld X.K (tVar 0) (tE C g) f D σ H:=by
 obtain⟨ρ,P,N,S,h⟩:=q
 refine⟨ρ,P,N,S,(h.res S.reg).mono fun x P1 N1 H1 _ a1 h1 v rv=>?_⟩
 obtain⟨N2,d,a2,r2,o⟩:=ERr.heldF a1 rv h1
 have S2:=S.adv a2
 unfold qqd at o
 split at o
 ·rename_i c fs r zz
  split at o
  ·rename_i hn
   dsimp only at o
   split at o
   ·rename_i k ek
    split at o
    ·rename_i hk
     rw[qbE] at o
     split at o
     case isFalse=>exact o.elim
     rename_i hk9
     rw[Nat.ble_eq] at hk9
     obtain⟨o',z1,p,dx,xs,⟨ep,rfl⟩,z2,z3,z4,z5,z6,z7⟩:=S2.sl 0 _ rfl
     obtain⟨c1,c2,c3,c4⟩:=hf _ _ ek
     have lx:xs.length=fs.length:=z7.length
     have lf:(C.G.fl c)[xs.length]? = some f:=by rw[lx,←hk];exact c3
     have lt:fs.length<(C.G.fl c).length:=by
      have:=(List.getElem?_eq_some_iff.mp lf).1
      omega
     have few:((C.G.fl c).zip xs).length<1000:=by
      rw[List.length_zip];omega
     refine⟨_,z1,p,_,dx,_,rfl,z2,c1,c2,few,?_⟩
     rw[qmc lf (qh7 c4 lf)]
     refine o _ P1 N2 _ ⟨⟨qaU S2.reg.pH z3,qaU S2.reg.nH z4,qaU S2.reg.bH z5,S2.reg.rB,S2.reg.p0,S2.reg.pn,S2.reg.nw,S2.reg.dj⟩,by simpa using S2.len,fun j s ej=>?_,fun j l r ds1 c es c' e1 e2 e3 e4=>?_,S2.ad.sub fun j m b e=>by
      cases j with
      |zero=>cases e
      |succ j=>exact⟨rfl,_,_,by simpa using e⟩,⟨fun j l dss t o1 o2 a e1 e2 e3 e4 k1 k2=>by
      have un:∀{l:Nat} {t:Sl},(Sl.slf c (fs++[d])::r)[l]? = some t→t.isH=true→(Sl.slf c fs::r)[l]? = some t:=fun {l t} e ht=>by
       cases l with
       |zero=>simp at e;subst e;cases ht
       |succ l=>simpa using e
      have old:∀{l:Nat} {t:Sl} {o:Option V} {a:Addr},(Sl.slf c fs::r)[l]? = some t→σ[l]? = some o→Held (upd H1 p (.ins (C.G.ca c) dx ((C.G.fl c).zip (xs++[v])))) t o a→Held H1 t o a:=fun {l t o a} e e2 k=>by
       cases k with
       |own=>exact .own
       |rt=>exact .rt
       |it q m =>
        refine .it ?_ m
        obtain⟨o,g1,g2⟩:=S2.sl l _ e
        rw[g1] at e2;cases e2
        obtain⟨⟨us,q2⟩,_⟩:=g2.held .rt
        rwa [upd_ne (fun z=>by rw[z,z2] at q2;cases q2)] at q
      exact S2.ar.un j l dss t o1 o2 a (un e1 rfl) (un e2 k2.not) e3 e4 (old (un e1 rfl) e3 k1) (old (un e2 k2.not) e4 k2)⟩⟩ a2.pp a2.nn
     ·cases j with
      |zero =>
       simp at ej
       subst ej
       exact⟨_,z1,p,dx,xs++[v],⟨ep,rfl⟩,upd_same,z3,z4,z5,by simp only[List.length_append,List.length_cons,List.length_nil];omega,Reps.append z7 (Reps.one r2)⟩
      |succ j =>
       have ej':r[j]? = some s:=by simpa using ej
       obtain⟨o,y1,y2⟩:=S2.sl (j+1) s (by simpa using ej')
       refine⟨o,y1,?_⟩
       cases s with
       |non=>trivial
       |val d b=>exact y2
       |own es c =>
        obtain⟨q,ys,y3,y4,y5⟩:=y2
        have hr:q≠p:=fun er=>by rw[er,z2] at y4;cases y4
        exact⟨q,ys,y3,by rw[upd_ne hr];exact y4,y5⟩
       |slf c fs=>exact absurd ej' (qks hn)
       |fxd d k=>exact y2
       |dct m c =>
        obtain⟨q,es,y3,y4,y5⟩:=y2
        have hr:q≠p:=fun er=>by rw[er,z2] at y4;cases y4
        exact⟨q,es,y3,by rw[upd_ne hr];exact y4,y5⟩
       |row dss =>
        have far:∀a,Held H1 (.row dss) o a→a≠p:=fun a k er=>by
         obtain⟨⟨us,q⟩,_⟩:=y2.held k
         rw[er,z2] at q;cases q
        obtain⟨q,ps,rfl,y4,y5,y6,y7,y8,y9⟩:=y2
        refine⟨q,ps,rfl,by rw[upd_ne (far q .rt)];exact y4,y5,y6,y7,?_,y9⟩
        exact y8.sub fun a m ds ⟨us,g1,g2⟩=>⟨us,by rw[upd_ne (far a (.it y4 m))];exact g1,g2⟩
     ·cases j with
      |zero=>simp at e1
      |succ j =>
       cases l with
       |zero=>simp at e2
       |succ l=>exact S2.ap (j+1) (l+1) r ds1 c es c' (by simpa using e1) (by simpa using e2) e3 e4
    ·exact o.elim
   ·exact o.elim
  ·exact o.elim
 ·exact o.elim
theorem qk6 {P N H H0:Hp} (r:Reg C P N H):∀{es:List ER} {vs:List V},ERs C P N H H0 es vs→Reps C.G P (SqL C.G.K H) (es.map ER.d) vs
 |[],_,h=>by cases h;rfl
 |e::es,_,⟨v,u,ex,h1,h2⟩=>by
  subst ex
  refine⟨v,u,rfl,?_,qk6 r h2⟩
  have w:=h1.w r
  have mm:=fun a xs=>LNb.seq (K:=C.G.K) (b:=e.b) r.pH r.nH r.rH a xs
  cases q:e.d with
  |lst ds =>
   rw[q] at w
   obtain⟨p,xs,rfl,h3,h4⟩:=w
   exact⟨p,xs,rfl,h3,Reps.mono (L2.Same.refl _) _ _ mm h4⟩
  |non=>rw[q] at w;exact Rep.mono (L2.Same.refl _) _ _ mm w
  |bl _=>rw[q] at w;exact Rep.mono (L2.Same.refl _) _ _ mm w
  |int _=>rw[q] at w;exact Rep.mono (L2.Same.refl _) _ _ mm w
  |str _=>rw[q] at w;exact Rep.mono (L2.Same.refl _) _ _ mm w
  |tup _=>rw[q] at w;exact Rep.mono (L2.Same.refl _) _ _ mm w
  |ins _ _=>rw[q] at w;exact Rep.mono (L2.Same.refl _) _ _ mm w
  |exc _ _=>rw[q] at w;exact Rep.mono (L2.Same.refl _) _ _ mm w
theorem qsu {P N H H0:Hp} {σ:L2.St} {c n:Nat} {g:List Cm.D→RE (List Cm.D)} {Q:VK} {es:List ER} {vs:List V} (r:Reg C P N H) (hv:ERs C P N H H0 es vs) (hn:es.length=n)
  (h:res C σ P N H ((g (es.map ER.d)).bind fun fs=>.ok (.val (.ins c fs) true)) (kE C H0 Q)):∀x dx,H x=none→H dx=none→dx≠x →
  spI C.G c n g (.ref x::vs) (upd (upd H dx (.own x)) x (.ins (C.G.ca c) dx [])) (fun v H2=>v=.non∧Q (.ref x) H2) (fun cls d H'=>C.W cls d σ H'):=by
 intro x dx hx hdx _
 refine⟨x,dx,H,P,H,es.map ER.d,vs,rfl,rfl,hx,hdx,r.pH,L2.Same.refl _,qk6 r hv,by rw[List.length_map,hn],?_⟩
 cases e:g (es.map ER.d) with
 |bad=>rw[e] at h;exact h.elim
 |ok fs =>
  rw[e] at h
  intro H' P' hh pp pH pn hr
  exact⟨rfl,h P' N H' ⟨hh,pp,L2.Same.refl _,pH,r.nH.trans hh,pn,fun _ q=>.inl q,fun _ q _=>q⟩ _ hr⟩
 |exc c' fs =>
  rw[e] at h
  intro d H' P' N' ad hx
  refine h d _ _ _ (ad.back r.nH) ?_
  have mono:∀a xs,LNb C.G.K P' N' H true a xs→LNb C.G.K P' (un2 N N' H') C.R true a xs:=fun a xs q=>by
   rcases q with q | ⟨hb,q⟩
   ·exact .inl (qmO ad.nH _ _ q)
   ·cases hb
  rcases hx with hx | ⟨dd,f,v,h1,h2,h3,h4⟩
  ·exact .inl hx
  ·exact .inr ⟨dd,f,v,h1,h2,h3,Rep.mono (L2.Same.refl _) _ _ mono h4⟩
theorem qjG {k:Nat} {f K0:Addr} {fd:FuncData} {ps:List Str} {sp:Sp} {W:WX} {pins:List (Addr × Obj)} {σ:L2.St} {H:Hp} {s:Shared} {Q:VK} {us:List Value} {vs:List V} (M:Mk X.K K0 f) (F:FnOk X.prog X.w X.K X.mg X.base (L2.CX X.prog X.w) k f fd ps sp) (hr:Room (k+1) X.A) (hb:Binds X.K fd ps [])
  (tk:Takes X W) (I:Inv X pins σ H s) (r:Vals vs us)
  (h:∀x dx,H x=none→H dx=none→dx≠x→sp (.ref x::vs) (upd (upd H dx (.own x)) x (.ins K0 dx [])) (fun v H2=>v=.non∧Q (.ref x) H2) (fun cls d H'=>W cls d σ H')) :
  wpAny (model X.prog X.w) X.A (call (.ref K0) us) (EP X pins σ Q) X.xe s:=by
 have lt:=Nat.lt_succ_self s.heap.objs.size
 have hq:=h _ _ (I.hok.fresh (Nat.le_of_lt lt)) (I.hok.fresh (Nat.le_refl _)) (Nat.ne_of_lt lt)
 have J:=Inv.made (C:=K0) I
 have rr:Vals (V.ref (s.heap.objs.size+1)::vs) (Value.ref (s.heap.objs.size+1)::us):=.cons rfl r
 have hl:(Value.ref (s.heap.objs.size+1)::us).length=ps.length:=by
  rw[←rr.length]
  exact F.len _ _ _ _ hq
 have hb':=hb _ (Value.ref (s.heap.objs.size+1)::us) J.kIn (by rw[List.append_nil];exact hl)
 rw[List.append_nil] at hb'
 refine wpAny_call (make_map (f:=f) I.kIn M.makes M.init (beq_iff_eq.mp M.fn) (codeAny_mono (F.run _ X.stack _ _ ⟨Value.ref (s.heap.objs.size+1)::us,[]⟩ _ _ _ _ (hr.make K0 us []) (J.env0.make K0 us []) hb' rr hq) fun res s' hq'=>?_))
 cases res with
 |error e=>exact tk e s' (XE.of_call J (fun cls d H' q=>q) hq')
 |ok fl =>
  cases fl with
  |ret u =>
   obtain⟨v,H',J2,rv,ev,q3⟩:=J.after hq'
   subst ev
   exact⟨rv,V.ref _,H',J2,rfl,q3⟩
  |next=>exact False.elim hq'
  |brk=>exact False.elim hq'
  |cont=>exact False.elim hq'
structure Mk0 (K:PySem.W.Frag) (c:Addr):Prop where
 makes:PySem.W.makesIn K c=true
 init:PySem.W.findIn K (.ref c) "__init__" = some (some (.builtin "object.__init__"))
 kp:PySem.W.keepIn K (.ref c)=true
theorem qnS {K0:Addr} {pins:List (Addr × Obj)} {σ:L2.St} {H:Hp} {s:Shared} {Q:VK} (M:Mk0 X.K K0) (I:Inv X pins σ H s)
  (h:∀x dx,H x=none→H dx=none→dx≠x→Q (.ref x) (upd (upd H dx (.own x)) x (.ins K0 dx []))) :
  wpAny (model X.prog X.w) X.A (call (.ref K0) []) (EP X pins σ Q) X.xe s:=by
 have lt:=Nat.lt_succ_self s.heap.objs.size
 have hq:=h _ _ (I.hok.fresh (Nat.le_of_lt lt)) (I.hok.fresh (Nat.le_refl _)) (Nat.ne_of_lt lt)
 have J:=Inv.made (C:=K0) I
 have Y:=PySem.W.makes_of (M:=model X.prog X.w) I.kIn M.makes
 refine wpAny_call (make_map0 I.kIn M.makes M.init (fun self=>PySem.W.Looks.of_pure (PySem.W.oi_bind self)) ?_)
 have hg:((s.heap.push PySem.W.emptyDict).push (PySem.W.instObj K0 s.heap.objs.size)).get? (s.heap.objs.size+1)=some (PySem.W.instObj K0 s.heap.objs.size):=by
  have:=Heap.get?_push_size (s.heap.push PySem.W.emptyDict) (o:=PySem.W.instObj K0 s.heap.objs.size) rfl
  rwa [Heap.size_push] at this
 have t1:PySem.W.Looks (model X.prog X.w) ((s.heap.push PySem.W.emptyDict).push (PySem.W.instObj K0 s.heap.objs.size)) (typeOf (.ref (s.heap.objs.size+1))) (.ref K0):=(PySem.W.Looks.ld hg).andThen .now
 have t2:PySem.W.Looks (model X.prog X.w) ((s.heap.push PySem.W.emptyDict).push (PySem.W.instObj K0 s.heap.objs.size)) (isInstance (.ref (s.heap.objs.size+1)) (.type "object")) true:=t1.andThen (Y.top.keeps fun b o e=>Heap.get?_push_of_some _ (Heap.get?_push_of_some _ e))
 refine codeAny_call_builtin PySem.W.oi_plain PySem.W.entry_oi (@PySem.W.check_slot (model X.prog X.w) _ _ _ "object.__init__" "object" "__init__" (.ref (s.heap.objs.size+1)) [] [] _ PySem.W.oi_kind PySem.W.oi_split t2 (PySem.W.oi_args (.ref (s.heap.objs.size+1))) ?_)
 rw[PySem.W.oi_run]
 exact wpAny_pure (And.intro rfl ⟨V.ref _,_,J,rfl,hq⟩)
structure NwOk (C:Ctx) (X:Cx) (x:Str) (c n:Nat) (g:List D→RE (List D)):Prop where
 ex:(∃k f fd ps,Mk X.K (C.G.ca c) f∧FnOk X.prog X.w X.K X.mg X.base (L2.CX X.prog X.w) k f fd ps (spI C.G c n g)∧Room (k+1) X.A∧X.mg x=some (.ref (C.G.ca c))∧Binds X.K fd ps []) ∨
  (n=0∧g []=.ok []∧Mk0 X.K (C.G.ca c)∧C.G.fl c=[]∧X.mg x=some (.ref (C.G.ca c)))
theorem qsl {x:Str} {c n:Nat} {g':List Cm.D→RE (List Cm.D)} {g:List Sl→RE (List ER)} {es:List Expr} {p pos:Pos} (nw:NwOk C X x c n g') (hg:Gl X x)
  (tk:Takes X C.W) (ha:PA X es (tA C g)) (hdb:(x == ("__debug__" : Str))=false) (hs:qns X es) (hl:∀ρ r,g ρ=.ok r→r.length=n) (h0:es=[]→∀ρ,g ρ=.ok []) (hn:es.length=n) :
  PE X (.Call (.Name x p) es [] pos) (tE C fun ρ=>(g ρ).bind fun r=>(g' (r.map ER.d)).bind fun fs=>.ok (.val (.ins c fs) true)):=by
 rcases nw.ex with⟨k,f,fd,ps,M,F,hr,hm,hb⟩ | ⟨rfl,hg0,M,hfl,hm⟩
 case inr =>
  by_cases hes:es=[]
  ·subst hes
   refine⟨fun pins s σ H Q I h=>wpAny_Call_Name_kw (ld_glob I hg hm ?_ hdb)⟩
   refine PySem.W.callWith_K0 I.kIn M.kp ?_
   refine qnS M I fun a dx ha hdx hne=>?_
   obtain⟨ρ,P,N,S,h⟩:=h
   dsimp only at h
   rw[h0 rfl ρ] at h
   simp only[RE.bind_ok,List.map_nil,hg0] at h
   have r:=S.reg
   have n1:∀{Y:Hp} {b:Addr},L2.Same Y H→H b=none→Y b=none:=fun {Y b} hs hb=>by
    cases e:Y b with
    |none=>rfl
    |some o=>have:=hs _ _ e;rw[hb] at this;cases this
   have pa:=n1 r.pH ha
   have sH:L2.Same H (upd (upd H dx (.own a)) a (.ins (C.G.ca c) dx [])):=(qaA hdx).trans (qaA (by rw[upd_ne (Ne.symm hne)];exact ha))
   refine h (upd P a (.ins (C.G.ca c) dx [])) N _ ⟨sH,qaA pa,L2.Same.refl _,fun b o e=>?_,r.nH.trans sH,fun b hb=>?_,fun _ q=>.inl q,fun _ q _=>q⟩ _ ?_
   ·by_cases hba:b=a
    ·subst hba
     rw[upd_same] at e ⊢
     exact e
    ·rw[upd_ne hba] at e
     exact sH _ _ (r.pH _ _ e)
   ·by_cases hba:b=a
    ·subst hba;exact .inr ha
    ·rw[upd_ne hba] at hb;exact .inl hb
   ·refine⟨a,dx,[],rfl,?_,by rw[hfl];rfl,rfl⟩
    rw[hfl]
    exact upd_same
  ·exact absurd (List.length_eq_zero_iff.mp hn) hes
 have body:PE X (.Call (.Name x p) es [] pos) (fun σ H Q=>tA C g σ H fun vs H1=>∀x dx,H1 x=none→H1 dx=none→dx≠x →
   spI C.G c n g' (.ref x::vs) (upd (upd H1 dx (.own x)) x (.ins (C.G.ca c) dx [])) (fun v H2=>v=.non∧Q (.ref x) H2) (fun cls d H'=>C.W cls d σ H')):=by
  cases es with
  |nil =>
   refine⟨fun pins s σ H Q I h=>wpAny_Call_Name_kw (ld_glob I hg hm ?_ hdb)⟩
   refine PySem.W.callWith_K0 I.kIn M.kp ?_
   obtain⟨ρ,P,N,S,h⟩:=h
   rw[h0 rfl ρ] at h
   exact qjG (us:=[]) M F hr hb tk I .nil (h.now S.reg [] rfl)
  |cons e es =>
   refine⟨fun pins s σ H Q I h=>wpAny_Call_Name_kw (ld_glob I hg hm ?_ hdb)⟩
   refine PySem.W.callWith_K (h₀:=X.base) I.ok.mod.kin M.kp (thn (ha.run pos pins s σ H _ I h) fun us s1 ⟨vs,H1,I1,r,q⟩=>⟨I1.kIn,?_⟩) (hs.1 _ _ rfl) (hs.2 _ _ _ rfl)
   exact qjG M F hr hb tk I1 r q
 refine qal body fun σ H Q q=>?_
 obtain⟨ρ,P,N,S,h⟩:=q
 exact⟨ρ,P,N,S,h.bind.mono fun r P1 N1 H1 e a1 h1 vs rv=>qsu (S.adv a1).reg rv (hl _ _ e) h1⟩
end
section
variable {prog:Program} {w:World} {A:Around} {E:Value→Shared→Prop} {s:Shared} {l:Addr} {its:List Value} {ns:List Int} {Q:Value→Shared→Prop} {d:Value}
end
def qwv (k:Bool) (ns:List Int) (d m:Int):Prop:=(ns=[]∧m=d)∨(m∈ns∧∀y∈ns,if k=true then y≤m else m≤y)
def rMm (K:PySem.W.Frag) (k:Bool):List V→List V→Hp→VK→Prop:=fun vs zs H Q=>∃(a:Addr) (ns:List Int) (d:Int),vs=[V.ref a]∧zs=[V.int d]∧SqL K H a (ns.map V.int)∧∀m,qwv k ns d m→Q (.int m) H
def mmN (k:Bool):String:=if k=true then "max" else "min"
section
variable {C:Ctx} {X:Cx}
abbrev gMm (k:Bool) (go g:List Sl→RE ER):List Sl→RE ER:=fun ρ=>(go ρ).bind fun x=>(g ρ).bind fun y=>qwc k x.d y.d
end
def qvU (G:Glo) (K:PySem.W.Frag) (a:Addr) (s:List Nat) (o:Option Cm.D):Prop:=
 match o with
 |none=>PySem.W.nsIn K a (qbg s)=some none
 |some d=>∃u v,PySem.W.nsIn K a (qbg s)=some (some u)∧RelV v u∧∀P N R,Rep G P (LNb G.K P N R true) d v
def qum (G:Glo) (K:PySem.W.Frag) (w:World) (mg:Str→Option Value) (x:Str) (t:List (List Nat × Option Cm.D)):Prop:=
 ∃a es n,mg x=some (.ref a)∧KDict K w a es n∧∀s o,t.lookup s=some o→qvU G K a s o
section
variable {C:Ctx} {X:Cx}
end
end Cm
namespace Cm
open PySem PySem.Spec PyProof.Rows L2
def IsLI (h:Heap) (v:Value) (ns:List Int):Prop:=∃a its,v=.ref a∧h.IsList a its∧IntsAre its.toList ns
section
variable {prog:Program} {w:World} {A:Around} {s:Shared}
theorem qlJ:∀{vs:List Value} {ns ms:List Int},IntsAre vs ns→IntsAre vs ms→ns=ms
 |_,_,_,.nil,h=>by cases h;rfl
 |_,_,_,.cons n t r,h=>by cases h with
  |cons _ _ r'=>rw[qlJ r r']
theorem IsLI.inj {h:Heap} {v:Value} {ns ms:List Int} (h1:IsLI h v ns) (h2:IsLI h v ms):ns=ms:=by
 obtain⟨a,its,rfl,⟨o,ho,hc,n,hd⟩,hi⟩:=h1
 obtain⟨b,its2,e,⟨o2,ho2,hc2,n2,hd2⟩,hi2⟩:=h2
 cases e
 rw[ho] at ho2;cases ho2
 rw[hd] at hd2;cases hd2
 exact qlJ hi hi2
open Classical in
noncomputable def qwW (h:Heap) (v:Value):List Int:=if q:∃ns,IsLI h v ns then q.choose else []
end
def qoC (K:PySem.W.Frag) (H:Hp):List V→List (List Int)→Prop
 |[],[]=>True
 |x::xs,n::ns=>(∃t,x=.ref t∧SqL K H t (n.map V.int))∧qoC K H xs ns
 |_,_=>False
def qtL (K:PySem.W.Frag):List V→Hp→VK→Prop:=fun vs H Q=>∃(a:Addr) (xs:List V) (ls:List (List Int)),vs=[V.ref a]∧SqL K H a xs∧qoC K H xs ls ∧
 ∀ys ms p,ys.length=ms.length→(ys.zip ms).Perm (xs.zip ls)→(ms.Pairwise fun x y=>qvj y x=false)→H p=none→Q (.ref p) (upd H p (.lst ys))
section
variable {C:Ctx} {X:Cx}
end
end Cm
set_option maxHeartbeats 3200000
namespace Cm
open PySem PySem.Spec PyProof.Rows L2
def qxd (w:World):Obj:={ cls:=.type "set",dict:=none,data:=.set #[] 0 (.fresh 0 0 (!w.params.followText "set-order")) }
section
variable {P:Program} {w:World} {A:Around} {E:Value→Shared→Prop} {s:Shared}
abbrev Kp (h h':Heap):Prop:=∀b o,h.get? b=some o→h'.get? b=some o
end
section
variable {C:Ctx} {X:Cx}
end
end Cm
namespace Cm
open PySem PySem.Spec PyProof.Rows L2
section
variable {prog:Program} {w:World} {A:Around} {E:Value→Shared→Prop} {s:Shared} {R:Result→Shared→Prop}
end
section
variable {C:Ctx} {X:Cx}
end
end Cm
set_option maxHeartbeats 2000000
namespace Cm
open PySem PySem.Spec PyProof.Rows L2
def wK (K:PySem.W.Frag) (c:Value) (i j:Nat) (Wout:WX) (D:Ends):WX:=fun cls d σ H =>
 ∃b,PySem.W.exmOne K cls c=some b∧(b=true→d=none∧∀a,H a=none→D.nx ((σ.set j (some (.ref a))).set i none) (upd H a (exK cls a)))∧(b=false→Wout cls d σ H)
section
variable {X:Cx} {pins:List (Addr × Obj)} {σ:L2.St} {H:Hp} {s:Shared}
theorem qnY {a:Addr} {oe:Obj} {o:HO} (I:Inv X ((a,oe)::pins) σ H s) (hn:H a=none) (h0:X.s_0.heap.get? a=none) (hp:∀p∈X.pn++pins,p.1≠a) (hc:∀x c,X.env.cells.lookup x=some c→c≠a) (new:ObjOk X.prog X.w (upd H a o) s.heap a o):Inv X pins σ (upd H a o) s where
 ok:=I.ok
 os:=I.os
 bare:=I.bare
 base:=by
  have b:=I.base
  refine⟨fun x o' e n hb hx=>b.keep x o' e n hb hx,fun x o' e n hb hx=>b.slot x o' e n hb hx,fun x o' e n hx=>?_,fun x o' e hx=>b.there x o' e hx,fun x xs q=>?_,fun x u xs q=>?_,fun x ps q=>?_⟩
  ·rw[upd_ne (fun z=>by rw[z,h0] at e;cases e)];exact b.free x o' e n hx
  ·have z:=b.tups x xs q;rw[upd_ne (ne_of_none z hn)];exact z
  ·have z:=b.frzs x u xs q;rw[upd_ne (ne_of_none z hn)];exact z
  ·obtain⟨m,z⟩:=b.tbls x ps q;exact⟨m,by rw[upd_ne (ne_of_none z hn)];exact z⟩
 loc:=I.loc
 cell:=I.cell
 free:=by
  have hL:X.env.locals≠a:=fun z=>by
   obtain⟨_,_,ne,_,_⟩:=I.pin (a,oe) (List.mem_append.mpr (.inr List.mem_cons_self))
   exact ne z.symm
  rw[upd_ne hL];exact I.free
 freeC:=fun x c e=>by rw[upd_ne (hc x c e)];exact I.freeC x c e
 pin:=fun p hp'=>by
  obtain⟨e,n,ne,nf,d⟩:=I.pin p (by
   rcases List.mem_append.mp hp' with z | z
   ·exact List.mem_append.mpr (.inl z)
   ·exact List.mem_append.mpr (.inr (List.mem_cons_of_mem _ z)))
  exact⟨e,by rw[upd_ne (hp p hp')];exact n,ne,nf,d⟩
 hok:=HOk.laidN (h:=s.heap) I.hok (fun _ _ q=>q) hn new
 len:=I.len
end
section
variable {X:Cx} {x n m:Str} {c:Value} {i j:Nat} {body:List Stmt} {np p1 p2 pa pos pos':Pos} {tb:WX→TS} {Wout:WX}
theorem qrn (hs:X.stack=X.env::X.outer) (hf:X.env.frame=some X.env.locals) (hex:X.ex=[]) (hN:X.N.Nodup) (hi:X.N[i]? = some n) (hj:X.N[j]? = some m) (hln:X.env.kindOf n=some .local) (hlm:X.env.kindOf m=some .local) (hd:(n == ("__debug__" : Str))=false∧(n == ("__classdict__" : Str))=false)
  (hc:Names X x c) (tk:Takes X Wout) (hij:i≠j)
  (hb:∀(W:WX) (pn:List (Addr × Obj)) (xe:Value→Shared→Prop),Takes (X.tr pn xe) W→PassesOwn (model X.prog X.w) X.A X.env xe→PSs (X.tr pn xe) body (tb W)) :
  PS X (.Try body [.ExceptHandler (some (.Name x np)) (some n) [.Assign [.Name m p1] (.Name n p2) pa] pos'] [] [] pos) (fun D σ H=>tb (wK X.K c i j Wout D) D σ H):=by
 refine⟨fun pins s σ H D I h=>?_⟩
 have ok:=I.ok
 have hfr:X.A.frames=some (X.env::X.outer):=by rw[ok.frames,hs]
 have hloc:Loc X.env.scope n:=.inl hln
 refine wpAny_Try_except ?_
 refine wpAny_mono ((hb (wK X.K c i j Wout D) (X.pn++pins) (fun e s₁=>wpAny (model X.prog X.w) X.A (noteFrame e X.env) (fun _ s₂=>wpAny (model X.prog X.w) X.A (setFlight e none) (fun _ s₃ =>
  wpAny (model X.prog X.w) X.A (handleBy e X.env [.ExceptHandler (some (.Name x np)) (some n) [.Assign [.Name m p1] (.Name n p2) pa] pos']) (SP X pins D) X.xe s₃) X.xe s₂) X.xe s₁) (fun u s' xx=>?_) PassesOwn.looking).run [] s σ H D (I.toTry _) h) (fun f s1 hsp=>?_) (fun e s1 he=>he)
 ·-- the catch
  obtain⟨a,B,sI,pins',σ',H',cls,d,rfl,J',nb,up,sky,na,os,ag,b,hb1,hyes,hno⟩:=xx
  have J:Inv X pins σ' H' sI:=J'.ofTry ok
  have sky':Sky B (X.env::X.outer) a (Zc cls d) X.env.locals s'.heap:=by rw[←hs];exact sky
  show wpAny (model X.prog X.w) X.A (noteFrame (.ref a) X.env) _ _ _
  refine Sky.land Zc.steady hfr hf sky' fun h3 fl3 up3=>?_
  have J3:Inv X pins σ' H' { s' with heap:=h3 }:=J.landed nb fl3.1 (up.trans up3) os ag
  obtain⟨oe3,vs3,he3,hz3,hd3⟩:=fl3.there
  have notFr:∀{h:Heap} {o:Obj} {vs:Array Value},h.FunFrames B (X.env::X.outer)→h.get? a=some o→o.data=.fields vs→a∉frs (X.env::X.outer):=fun {h o vs} ff e dd hm=>by
   obtain⟨_,o',e',hnf⟩:=ff.mem hm
   rw[e] at e';cases e'
   exact hnf _ dd
  have nfr:=notFr fl3.2.2.1 he3 hd3
  have nL:a≠X.env.locals:=fun z=>nfr (List.mem_filterMap.mpr ⟨X.env,List.mem_cons_self,by rw[hf,z]⟩)
  have nF:a∉X.fs:=fun hm=>by
   obtain⟨e,he,q⟩:=List.mem_filterMap.mp hm
   exact nfr (List.mem_filterMap.mpr ⟨e,List.mem_cons_of_mem _ he,q⟩)
  -- it is new
  have nfr':a∉frs X.stack:=by rw[hs];exact nfr
  have aI:∀o,sI.heap.get? a≠some o:=fun o e=>by
   have z:=nb a o e nfr'
   rw[fl3.2.1] at z
   cases z
  have n0:X.s_0.heap.get? a=none:=by
   cases e:X.s_0.heap.get? a with
   |none=>rfl
   |some o =>
    obtain⟨o',e'⟩:=J.base.there a o e (by
     intro z
     first
      |exact nF z
      |(rw[hex] at z;cases z)
      |exact(List.mem_append.mp z).elim nF fun z=>by rw[hex] at z;cases z)
    exact absurd e' (aI o')
  have np':∀p∈X.pn++pins,p.1≠a:=fun p hp z=>by
   obtain⟨e,_⟩:=J.pin p hp
   rw[z] at e
   exact aI _ e
  have nc':∀x c,X.env.cells.lookup x=some c→c≠a:=fun x c e z=>by
   obtain⟨v,o,ho,_⟩:=J.cell x c e
   rw[z] at ho
   exact aI _ ho
  have S3:=J3.suite he3 hd3 na nL nF
  refine wpAny_handleBy_cons (codeAny_handlers_test ?_) (by intro q;cases q)
  have LT:PySem.W.Looks (model X.prog X.w) h3 (typeOf (.ref a)) cls:=fun A Q E s k q=>wpAny_typeOf_ref (k _ _ he3) (by rw[hz3.1];exact q)
  have LM:=PySem.W.exm_one (M:=model X.prog X.w) (J3.kIn) LT hb1
  have test:∀{Q:Value→Shared→Prop} {E:Value→Shared→Prop},Q c { s' with heap:=h3 }→wpAny (model X.prog X.w) (X.A.mark (some (.ref a))) (eval (.Name x np) X.env) Q E { s' with heap:=h3 }:=fun {Q E} q=>by
   obtain⟨hg,hdbg,hm | ⟨hm,hv,hnn⟩⟩:=hc
   ·exact ld_glob (X:=X.suite a ((a,oe3)::(X.pn++pins))) S3 hg hm q hdbg
   ·exact ld_blt (X:=X.suite a ((a,oe3)::(X.pn++pins))) S3 hg hm hv q hnn hdbg
  refine test (LM.here ?_)
  cases b with
  |true =>
   refine codeAny_handlers_suite_as ?_
   refine HandSPX.lands_againZ fl3 fun h4 fl4 up4=>?_
   have J4:Inv X pins σ' H' { s' with heap:=h4 }:=J.landed nb fl4.1 ((up.trans up3).trans up4) os ag
   obtain⟨oe4,vs4,he4,hz4,hd4⟩:=fl4.there
   have S4:=J4.suite he4 hd4 na nL nF
   refine store_ok (X:=X.suite a ((a,oe4)::(X.pn++pins))) (v:=.ref a) S4 hN hi hloc rfl (fun s5 S5=>?_) (.inr hln)
   have ts:PSs (X.suite a ((a,oe4)::(X.pn++pins))) [.Assign [.Name m p1] (.Name n p2) pa] _:=
    pss_cons (ps_set (X:=X.suite a ((a,oe4)::(X.pn++pins))) hN hj (.inl hlm) (pe_var (X:=X.suite a ((a,oe4)::(X.pn++pins))) hi (.inl hln) hd.1 hd.2) rfl (.inr hlm)) pss_nil
   have hil:i<σ'.length:=by
    rw[J.len]
    exact(List.getElem?_eq_some_iff.mp hi).1
   have hjl:j<σ'.length:=by
    rw[J.len]
    exact(List.getElem?_eq_some_iff.mp hj).1
   obtain⟨hdn,hy2⟩:=hyes rfl
   subst hdn
   refine wpAny_mono (ts.run [] s5 _ H' { nx:=fun σ6 H6=>σ6=(σ'.set i (some (.ref a))).set j (some (.ref a))∧H6=H',rt:=fun _ _=>False,bk:=fun _ _=>False,ct:=fun _ _=>False } S5 ?_) (fun f s6 hsp=>?_) (fun _ _ z=>False.elim z)
   ·exact⟨.ref a,by rw[List.getElem?_set_self hil],rfl,rfl⟩
   ·cases f with
    |next =>
     obtain⟨σ6,H6,S6,rfl,rfl⟩:=hsp
     have S6':Inv X ((a,oe4)::pins) ((σ'.set i (some (.ref a))).set j (some (.ref a))) H6 s6:=⟨ok,S6.os,S6.bare,S6.base,S6.loc,S6.cell,S6.free,S6.freeC,fun p hp=>S6.pin p (by
      rcases List.mem_append.mp hp with z | z
      ·exact List.mem_append.mpr (.inl (List.mem_cons_of_mem _ (List.mem_append.mpr (.inl z))))
      ·rcases List.mem_cons.mp z with z | z
       ·rw[z];exact List.mem_append.mpr (.inl List.mem_cons_self)
       ·exact List.mem_append.mpr (.inl (List.mem_cons_of_mem _ (List.mem_append.mpr (.inr z))))),S6.hok,S6.len⟩
     refine gone_ok S6' hN hi hln fun s7 J7=>?_
     obtain⟨e7,n7,_⟩:=J7.pin (a,oe4) (List.mem_append.mpr (.inr List.mem_cons_self))
     have J8:=qnY (o:=exK cls a) J7 n7 n0 np' nc' (qtD e7 hz4 hd4)
     have es:((σ'.set i (some (V.ref a))).set j (some (.ref a))).set i none=(σ'.set j (some (.ref a))).set i none:=by
      rw[List.set_comm _ _ hij,List.set_set]
     rw[es] at J8
     exact⟨_,_,J8,hy2 a na⟩
    |brk=>obtain⟨_,_,_,z⟩:=hsp;exact z.elim
    |cont=>obtain⟨_,_,_,z⟩:=hsp;exact z.elim
    |ret u=>obtain⟨_,_,_,_,_,z⟩:=hsp;exact z.elim
  |false =>
   show wpAny _ X.A (handleBy (.ref a) X.env []) _ _ _
   refine wpAny_handleBy_nil ?_
   obtain⟨k1,k2,k3,oe,vs,T,oT,ts',he,hz,hd,h1,hr⟩:=id fl3
   unfold PySem.passOn
   refine wpAny_bind (wpAny_field he hd h1 ?_)
   rw[if_neg (show ¬((Value.ref T == Value.none)=true) from by simp)]
   have fin:wpAny (model X.prog X.w) X.A (setFlight (.ref a) X.env.frame) (fun _ s4=>wpAny (model X.prog X.w) X.A (throw (.ref a):Sem Flow) (SP X pins D) X.xe s4) X.xe { s' with heap:=h3 }:=by
    rw[hf]
    refine HandSPX.setFlight_upZ fl3 fun h4 hh4 up4=>wpAny_throw (tk _ _ ?_)
    exact⟨a,B,sI,pins,σ',H',cls,d,rfl,J,nb,(up.trans up3).trans up4,.inr (.inr (by rw[hs];exact hh4)),na,os,ag,hno rfl⟩
   first
    |exact wpAny_bind (wpAny_pure (wpAny_bind fin))
    |exact wpAny_bind fin
 ·cases f with
  |next =>
   obtain⟨σ',H',J',q⟩:=hsp
   exact wpAny_execs_nil ⟨σ',H',J'.ofTry ok,q⟩
  |brk =>
   obtain⟨σ',H',J',q⟩:=hsp
   exact⟨σ',H',J'.ofTry ok,q⟩
  |cont =>
   obtain⟨σ',H',J',q⟩:=hsp
   exact⟨σ',H',J'.ofTry ok,q⟩
  |ret u =>
   obtain⟨v,σ',H',J',r,q⟩:=hsp
   exact⟨v,σ',H',J'.ofTry ok,r,q⟩
end
def qus (K:PySem.W.Frag):List V→Hp→VK→Prop:=fun xs H Q=>rIsi K xs H Q∨∃(a D:Addr) (c:V) (u:Value) (b:Bool),xs=[.ref a,c]∧ClsV c u∧H a=some (exK (.ref D) a)∧ExcC K D∧PySem.W.kitOne K (.ref D) u=some b∧Q (.bl b) H
theorem qpE {X:Cx}:CallR X (.builtin "isinstance") (qus X.K):=by
 intro pins s σ H xs us Q I r h
 rcases h with h | ⟨a,D,c,u,b,rfl,k,ha,C,e,q⟩
 ·exact call_isi pins s σ H xs us Q I r h
 ·cases r with
  |cons rx rr =>
   cases rr with
   |cons rt rr =>
    cases rr
    cases rx
    have ec:=k.eq rt
    subst ec
    obtain⟨⟨oe,vs,ho,hz,hd⟩,_,_⟩:=I.hok a _ ha
    have J:PySem.W.InstAt s.heap a oe D none:=by
     obtain⟨oc,od,oda,osl⟩:=oe
     obtain⟨h1,h2⟩:=hz
     dsimp only at h1 h2 hd
     subst h1 h2 hd
     exact⟨ho,rfl,rfl,trivial⟩
    exact PySem.W.kia_one (PySem.W.handS_kitx_exc C.hg C.hk C.hs C.hd C.ha C.hn C.ht C.hm) I.kIn J e (fun z=>nomatch z) fun tk=>⟨.bl b,H,I.kept (t':=tk) fun _ _ z=>z,rfl,q⟩
structure InsC (K:PySem.W.Frag) (D:Addr):Prop where
 cl:Cls K D
 ha:PySem.W.findIn K (.ref D) "__class__" = some (some (.builtin "object.__class__"))
 hn:PySem.W.specialIn K (.builtin "object.__class__") "__get__" = some (some (.builtin "getset_descriptor.__get__"))
 ht:PySem.W.takesIn K (.builtin "object.__class__")=some true
 hm:PySem.W.mroIn K D (.type "object")=some true
def NmC (mg:Str→Option Value) (x:Str) (own:Bool) (v:V) (u:Value):Prop:=ClsV v u∧(match own with
 |true=>mg x=some u
 |false=>x=("ValueError" : Str)∧u=.type "ValueError")
theorem qlR {v:V} {u:Value} (k:ClsV v u):RelV v u:=by cases k<;>rfl
theorem qnw:bootBuiltins "ValueError" = some (.type "ValueError"):=by decide +kernel
structure RsOk (K:PySem.W.Frag) (mg:Str→Option Value) (D:Addr) (x:Str):Prop where
 mg:mg x=some (.ref D)
 exc:PySem.W.excIn K D He.veBase "ValueError.__new__" = true
 keep:PySem.W.keepIn K (.ref D)=true
 sub:PySem.W.subIn K (.ref D) (.type "BaseException")=some true
 ty:PySem.W.typeIn K (.ref D)=some (.type "type")
structure CkOk (G:Glo) (K:PySem.W.Frag) (mg:Str→Option Value) (x:Str) (own:Bool) (ck ik:Option (Nat→Option Bool)):Prop where
 ex:∃v u,NmC mg x own v u∧(∀g,ck=some g→∀c b,g c=some b→PySem.W.kitOne K (.ref (G.ca c)) u=some b∧PySem.W.exmOne K (.ref (G.ca c)) u=some b∧ExcC K (G.ca c)) ∧
  (∀g,ik=some g→∀c b,g c=some b→PySem.W.kitOne K (.ref (G.ca c)) u=some b∧InsC K (G.ca c))
section
variable {C:Ctx} {X:Cx} {x:Str} {own:Bool} {v:V} {u:Value} {p p2 pos:Pos}
theorem qt3 (hg:Gl X x) (hm:X.mg "ValueError" = none) (hd:(x == ("__debug__" : Str))=false) (h:NmC X.mg x own v u):PE X (.Name x p) (tC v):=by
 obtain⟨k,h⟩:=h
 cases own with
 |true=>exact pe_glob hg h (qlR k) hd
 |false =>
  obtain⟨rfl,rfl⟩:=h
  exact pe_bltn hg hm qnw (qlR k) (by decide) hd
theorem qm4 (hg:Gl X x) (hm:X.mg "ValueError" = none) (hd:(x == ("__debug__" : Str))=false) (h:NmC X.mg x own v u):Names X x u:=by
 obtain⟨k,h⟩:=h
 cases own with
 |true=>exact⟨hg,hd,.inl h⟩
 |false =>
  obtain⟨rfl,rfl⟩:=h
  exact⟨hg,hd,.inr ⟨hm,qnw,by decide⟩⟩
theorem qra {g:List Sl→RE ER} {ck ik:Option (Nat→Option Bool)} {σ:L2.St} {H:Hp} {Q:VK} (k:ClsV v u) (h1:∀g,ck=some g→∀c b,g c=some b→PySem.W.kitOne C.G.K (.ref (C.G.ca c)) u=some b∧PySem.W.exmOne C.G.K (.ref (C.G.ca c)) u=some b∧ExcC C.G.K (C.G.ca c))
  (h2:∀g,ik=some g→∀c b,g c=some b→PySem.W.kitOne C.G.K (.ref (C.G.ca c)) u=some b∧InsC C.G.K (C.G.ca c))
  (h:tE C (fun ρ=>(g ρ).bind fun x=>qpv ck ik x.d) σ H Q):tCB (qus C.G.K) (tCons (tE C g) (tCons (tC v) tNil)) σ H Q:=by
 obtain⟨ρ,P,N,S,h⟩:=h
 refine⟨ρ,P,N,S,h.bind.mono fun x P1 N1 H1 e1 a1 h3 w rv=>?_⟩
 have r1:=(S.adv a1).reg
 have rw':=rv.w r1
 show qus C.G.K [w,v] H1 Q
 unfold qpv at h3
 split at h3
 ·rename_i c fs q
  rw[q] at rw'
  split at h3
  ·split at h3
   ·rename_i g'
    split at h3
    ·rename_i b e
     obtain⟨_,a,rfl,z⟩:=rw'
     obtain⟨z1,z2,z3⟩:=h1 _ rfl _ _ e
     exact .inr ⟨a,_,v,u,b,rfl,k,r1.pH _ _ z,z3,z1,h3.val r1 rfl⟩
    ·exact h3.elim
   ·exact h3.elim
  ·exact h3.elim
 ·rename_i c fs q
  rw[q] at rw'
  split at h3
  ·split at h3
   ·rename_i b e
    obtain⟨a,dx,xs,rfl,z,_⟩:=rw'
    obtain⟨z1,z2⟩:=h2 _ rfl _ _ e
    exact .inl ⟨_,v,_,u,b,rfl,k,.base (.ins (r1.pH _ _ z) z2.cl z2.ha z2.hn z2.ht z2.hm),z1,h3.val r1 rfl⟩
   ·exact h3.elim
  ·exact h3.elim
 ·exact h3.elim
theorem qrA {a:Expr} {g:List Sl→RE ER} {ck ik:Option (Nat→Option Bool)} (hK:X.K=C.G.K) (hg:Gl X "isinstance") (hm:X.mg "isinstance" = none) (hv:X.mg "ValueError" = none) (hg2:Gl X x) (hd:(x == ("__debug__" : Str))=false) (ok:CkOk C.G X.K X.mg x own ck ik) (h:PE X a (tE C g))
  (hs:starEach [a,.Name x p2] X.env=(false,eval a X.env)::starEach [.Name x p2] X.env) (hpl:(backTo pos (starEach [.Name x p2] X.env)).any (·.1)=false):PE X (.Call (.Name "isinstance" p) [a,.Name x p2] [] pos) (tE C fun ρ=>(g ρ).bind fun x=>qpv ck ik x.d):=by
 obtain⟨v,u,z,h1,h2⟩:=ok
 rw[hK] at h1 h2
 exact qal (qiR qpE qlG (.inl ⟨_,rfl⟩) hg hm (pa_cons h (pa_cons (qt3 hg2 hv hd z) pa_nil) hs) (by decide) (by decide) hs hpl) fun σ H Q q=>by rw[hK];exact qra z.1 h1 h2 q
abbrev qxk (go g:List Sl→RE ER):List Sl→RE ER:=fun ρ=>(go ρ).bind fun x=>match x.d with
  |.lst xs=>(g ρ).bind fun y=>qvm xs y.d
  |_=>.bad
theorem qqT {c:Nat} {m:Str} {j:Nat} {pos':Pos} (hK:X.K=C.G.K) (hc:X.calm=true) (tk:Takes X C.W) (hg:Gl X x) (hd:(x == ("__debug__" : Str))=false) (h:RsOk X.K X.mg (C.G.ca c) x) :
  PS X (.Raise (some (.Call (.Name x p) [.Constant (.str m) j p2] [] pos)) none pos') (tS C fun _=>.exc c []):=
 qat (ps_raise hc tk (pmk_own PySem.F.excBase_ValueError h.exc h.mg h.keep (raises_own h.sub h.ty) hg hd)) fun D σ H q=>by
  obtain⟨ρ,P,N,S,h⟩:=q
  exact h σ none P N H S.reg (.inl ⟨rfl,rfl⟩)
end
def tR (C:Ctx) (g:List Sl→RE (List Sl)):TS:=fun D σ H=>∃ρ P N,SR C P N H ρ σ∧res C σ P N H (g ρ) fun ρ' _ _ H'=>∀σ' P2 N2,Same P P2→Same N N2→SR C P2 N2 H' ρ' σ'→D.nx σ' H'
section
variable {C:Ctx} {X:Cx}
theorem SR.wish {W:WX} {P N H:Hp} {ρ:List Sl} {σ:L2.St} (S:SR C P N H ρ σ):SR { C with W:=W } P N H ρ σ:=
 ⟨⟨S.reg.pH,S.reg.nH,S.reg.bH,S.reg.rB,S.reg.p0,S.reg.pn,S.reg.nw,S.reg.dj⟩,S.len,fun i s e=>by
  obtain⟨o,h1,h2⟩:=S.sl i s e
  exact⟨o,h1,by cases s<;>exact h2⟩,S.ap,S.ad,S.ar⟩
theorem SR.unwish {W:WX} {P N H:Hp} {ρ:List Sl} {σ:L2.St} (S:SR { C with W:=W } P N H ρ σ):SR C P N H ρ σ:=
 ⟨⟨S.reg.pH,S.reg.nH,S.reg.bH,S.reg.rB,S.reg.p0,S.reg.pn,S.reg.nw,S.reg.dj⟩,S.len,fun i s e=>by
  obtain⟨o,h1,h2⟩:=S.sl i s e
  exact⟨o,h1,by cases s<;>exact h2⟩,S.ap,S.ad,S.ar⟩
theorem SR.setN {P N H:Hp} {ρ:List Sl} {σ:L2.St} (S:SR C P N H ρ σ) (i:Nat) (o:Option V):SR C P N H (ρ.set i .non) (σ.set i o) where
 reg:=S.reg
 len:=by simp[S.len]
 sl:=fun j s e=>by
  by_cases q:i=j
  ·subst q
   have hi:i<ρ.length:=by
    rcases Nat.lt_or_ge i ρ.length with z | z
    ·exact z
    ·rw[List.getElem?_eq_none (by simpa using z)] at e;cases e
   rw[List.getElem?_set_self hi] at e
   cases e
   exact⟨_,List.getElem?_set_self (by rw[S.len];exact hi),trivial⟩
  ·rw[List.getElem?_set_ne q] at e
   rw[List.getElem?_set_ne q]
   exact S.sl j s e
 ap:=fun j k p ds b es c e1 e2 e3 e4=>by
  have nj:i≠j:=fun z=>by
   subst z
   rw[List.getElem?_set] at e1
   split at e1
   ·split at e1<;>cases e1
   ·rename_i z;exact z rfl
  have nk:i≠k:=fun z=>by
   subst z
   rw[List.getElem?_set] at e2
   split at e2
   ·split at e2<;>cases e2
   ·rename_i z;exact z rfl
  rw[List.getElem?_set_ne nj] at e1 e3
  rw[List.getElem?_set_ne nk] at e2 e4
  exact S.ap j k p ds b es c e1 e2 e3 e4
 ad:=S.ad.set rfl
 ar:=S.ar.set rfl
theorem qrS {i j:Nat} {g:List Sl→RE (List Sl)} {ck ik:Option (Nat→Option Bool)} {x n m:Str} {own:Bool} {body:List Stmt} {np p1 p2 pa pos pos':Pos} (hK:X.K=C.G.K) (hs:X.stack=X.env::X.outer) (hf:X.env.frame=some X.env.locals) (hex:X.ex=[]) (hN:X.N.Nodup) (hi:X.N[i]? = some n) (hj:X.N[j]? = some m) (hln:X.env.kindOf n=some .local) (hlm:X.env.kindOf m=some .local) (hd:(n == ("__debug__" : Str))=false∧(n == ("__classdict__" : Str))=false)
  (hg:Gl X x) (hv:X.mg "ValueError" = none) (hdx:(x == ("__debug__" : Str))=false) (ok:CkOk C.G X.K X.mg x own ck ik) (tk:Takes X C.W) (hij:i≠j)
  (hb:∀(W:WX) (pn:List (Addr × Obj)) (xe:Value→Shared→Prop),Takes (X.tr pn xe) W→PassesOwn (model X.prog X.w) X.A X.env xe→PSs (X.tr pn xe) body (tR { C with W:=W } g)) :
  PS X (.Try body [.ExceptHandler (some (.Name x np)) (some n) [.Assign [.Name m p1] (.Name n p2) pa] pos'] [] [] pos) (tS C fun ρ=>trX ck i j ρ (g ρ)):=by
 obtain⟨v,u,z,h1,_⟩:=ok
 refine qat (qrn (tb:=fun W=>tR { C with W:=W } g) hs hf hex hN hi hj hln hlm hd (qm4 hg hv hdx z) tk hij hb) fun D σ H q=>?_
 obtain⟨ρ,P,N,S,h⟩:=q
 have h:outS C P N D (trX ck i j ρ (g ρ)):=h
 refine⟨ρ,P,N,S.wish,?_⟩
 cases e:g ρ with
 |bad=>rw[e] at h;exact h.elim
 |ok ρ' =>
  rw[e] at h
  intro P' N' H' a σ' P2 N2 e1 e2 S2
  exact h σ' P2 N2 H' S2.unwish e1 e2
 |exc c fs =>
  rw[e] at h
  intro d P' N' H' a x'
  have a':Adv P N H P' N' H':=a
  have S1:=S.adv a'
  show ∃b,PySem.W.exmOne X.K (.ref (C.G.ca c)) u=some b∧_
  unfold trX at h
  simp only at h
  split at h
  ·rename_i g'
   split at h
   ·rename_i ec
    obtain⟨_,z2,_⟩:=h1 _ rfl _ _ ec
    rw[if_neg hij] at h
    split at h
    ·refine⟨true,z2,fun _=>?_,fun z=>(by cases z)⟩
     rcases x' with⟨_,rfl⟩ | ⟨dd,f,v',e1,_⟩
     ·refine⟨rfl,fun ad na=>?_⟩
      have a2:Adv P N H (upd P' ad (exK (.ref (C.G.ca c)) ad)) N' (upd H' ad (exK (.ref (C.G.ca c)) ad)):=a'.newP na
      have S2:=S.adv a2
      exact h _ _ _ _ ((S2.setV (i:=j) (d:=.exc c []) (b:=true) (v:=.ref ad) ⟨rfl,ad,rfl,upd_same⟩).setN i none) a2.pp a2.nn
     ·cases e1
    ·exact h.elim
   ·rename_i ec
    obtain⟨_,z2,_⟩:=h1 _ rfl _ _ ec
    refine⟨false,z2,fun z=>(by cases z),fun _=>?_⟩
    exact h σ d P' N' H' S1.reg (by
     rcases x' with z | ⟨dd,f,v',e1,e2,e3,e4⟩
     ·exact .inl z
     ·exact .inr ⟨dd,f,v',e1,e2,e3,e4⟩)
   ·exact h.elim
  ·exact h.elim
end
end Cm
namespace Cm
open PySem PySem.Spec PyProof.Rows L2
inductive ClsVs:List V→List Value→Prop where
 |nil:ClsVs [] []
 |cons {v:V} {u:Value} {vs:List V} {us:List Value}:ClsV v u→ClsVs vs us→ClsVs (v::vs) (u::us)
theorem ClsVs.eq {vs:List V} {us its:List Value} (h:ClsVs vs us) (r:Vals vs its):its=us:=by
 induction h generalizing its with
 |nil=>cases r;rfl
 |cons k _ ih =>
  cases r with
  |cons rx rr=>rw[k.eq rx,ih rr]
def tVs (vs:List V):TA:=fun _ H Q=>Q vs H
section
variable {C:Ctx} {X:Cx}
end
end Cm
namespace Cm
open PySem PySem.Spec PyProof.Rows L2
section
variable {R:Cm.D→V→Prop}
theorem DctR.fnd:∀{m:List (Int × Cm.D)} {es:List (Key × V)} {k:Int},DctR R m es→match qfu k m with
  |some d=>∃v,valV es (.inl k)=some v∧R d v
  |none=>valV es (.inl k)=none
 |[],_,_,h=>by cases h;rfl
 |e::m,_,k,⟨v,r,he,h1,h2⟩=>by
  subst he
  unfold qfu
  by_cases q:e.1=k
  ·rw[if_pos q]
   exact⟨v,valV_pos (by rw[←q]),h1⟩
  ·rw[if_neg q,valV_neg (fun z=>q (Sum.inl.inj z))]
   exact DctR.fnd h2
theorem DctR.some {m:List (Int × Cm.D)} {es:List (Key × V)} (h:DctR R m es) {k:Int} {d:Cm.D} (e:qfu k m=some d):∃v,valV es (.inl k)=some v∧R d v:=by
 have:=h.fnd (k:=k)
 rw[e] at this;exact this
theorem DctR.has {m:List (Int × Cm.D)} {es:List (Key × V)} (h:DctR R m es) (k:Int):(valV es (.inl k)).isSome=(qfu k m).isSome:=by
 have:=h.fnd (k:=k)
 cases e:qfu k m with
 |none=>rw[e] at this;rw[this];rfl
 |some d=>rw[e] at this;obtain⟨v,q,_⟩:=this;rw[q];rfl
theorem DctR.len:∀{m:List (Int × Cm.D)} {es:List (Key × V)},DctR R m es→es.length=m.length
 |[],_,h=>by cases h;rfl
 |e::m,_,⟨v,r,he,h1,h2⟩=>by subst he;simp[DctR.len h2]
theorem DctR.set {k:Int} {d:Cm.D} {v:V} (hr:R d v):∀{m:List (Int × Cm.D)} {es:List (Key × V)},DctR R m es→DctR R (qsO k d m) (es.map fun kv=>if kv.1=.inl k then (kv.1,v) else kv)
 |[],_,h=>by cases h;rfl
 |e::m,_,⟨w,r,he,h1,h2⟩=>by
  subst he
  have ih:=DctR.set (k:=k) hr h2
  unfold qsO at ih ⊢
  rw[List.map_cons,List.map_cons]
  by_cases q:e.1=k
  ·rw[if_pos q,if_pos (by show Sum.inl e.1=Sum.inl k;rw[q])]
   exact⟨v,_,rfl,hr,ih⟩
  ·rw[if_neg q,if_neg (fun z=>q (Sum.inl.inj z))]
   exact⟨w,_,rfl,h1,ih⟩
theorem DctR.snoc {k:Int} {d:Cm.D} {v:V} (hr:R d v):∀{m:List (Int × Cm.D)} {es:List (Key × V)},DctR R m es→DctR R (m++[(k,d)]) (es++[(.inl k,v)])
 |[],_,h=>by cases h;exact⟨v,[],rfl,hr,rfl⟩
 |e::m,_,⟨w,r,he,h1,h2⟩=>by subst he;exact⟨w,_,rfl,h1,DctR.snoc hr h2⟩
theorem DctR.put {m:List (Int × Cm.D)} {es:List (Key × V)} (h:DctR R m es) {k:Int} {d:Cm.D} {v:V} (hr:R d v):DctR R (qoS k d m) (putK es (.inl k) v):=by
 unfold qoS putK
 rw[valV_any,h.has]
 split
 ·exact h.set hr
 ·exact h.snoc hr
end
section
variable {C:Ctx} {X:Cx} {P N H:Hp} {ρ:List Sl} {σ:L2.St}
end
end Cm
namespace Cm
open PySem PySem.Spec PyProof.Rows L2
section
variable {C:Ctx} {X:Cx} {P N H:Hp} {ρ:List Sl} {σ:L2.St}
noncomputable def NW (H:Hp) (ρ:List Sl) (σ:L2.St) (N:Hp):Hp:=fun a=>@ite _ (∃(j:Nat) (dss:List (List Cm.D)) (u:Option V),ρ[j]? = some (.row dss)∧σ[j]? = some u∧Held H (.row dss) u a) (Classical.propDecidable _) (H a) (N a)
noncomputable def NB (H:Hp) (ρ:List Sl) (σ:L2.St) (N2:Hp):Hp:=fun a=>@ite _ (∃(j:Nat) (dss:List (List Cm.D)) (u:Option V),ρ[j]? = some (.row dss)∧σ[j]? = some u∧Held H (.row dss) u a) (Classical.propDecidable _) none (N2 a)
theorem ExR.flat {P2 N2 N3 H2:Hp} {fs:List Cm.D} {d:Option Addr} (f:D.flats fs=true) (h:ExR C P2 N2 H2 fs d):ExR C P2 N3 H2 fs d:=by
 rcases h with h | ⟨dd,g,v,e1,e2,e3,e4⟩
 ·exact .inl h
 ·subst e1
  simp only[D.flats,Bool.and_true] at f
  exact .inr ⟨dd,g,v,rfl,e2,e3,Rep.flat g v f e4⟩
def FrR (C:Ctx) (P N H H0:Hp) (dss:List (List Cm.D)) (ps:List Addr):Prop:=RowR (fun a ds=>∃xs,H a=some (.lst xs)∧H0 a=none∧P a=none∧N a=none∧D.flats ds=true∧RepsB C P N true ds xs) dss ps∧ps.Nodup
def tF (C:Ctx) (g:List Sl→RE (List (List Cm.D))):TA:=fun σ H Q=>∃ρ P N,SR C P N H ρ σ∧res C σ P N H (g ρ) fun dss P' N' H'=>∀ps,FrR C P' N' H' H dss ps→Q (ps.map V.ref) H'
theorem qrk:PA X [] (tF C fun _=>.ok []):=qfG pa_nil fun σ H Q q=>by
 obtain⟨ρ,P,N,S,h⟩:=q
 exact h.now S.reg [] ⟨rfl,List.nodup_nil⟩
theorem qpZ {e:Expr} {es:List Expr} {ge:List Sl→RE ER} {g:List Sl→RE (List (List Cm.D))} (he:PE X e (tE C ge)) (hr:PA X es (tF C g)) (hs:starEach (e::es) X.env=(false,eval e X.env)::starEach es X.env) :
  PA X (e::es) (tF C fun ρ=>(ge ρ).bind fun x=>match x with
  |.fre ds _=>if D.flats ds=true then (g ρ).bind fun r=>.ok (ds::r) else .bad
  |_=>.bad):=qfG (pa_cons he hr hs) fun σ H Q q=>by
 obtain⟨ρ,P,N,S,h⟩:=q
 refine⟨ρ,P,N,S,h.bind.mono fun x P1 N1 H1 _ a1 h1 v rv=>?_⟩
 have S1:=S.adv a1
 cases x with
 |val _ _=>exact h1.elim
 |brw _ _=>exact h1.elim
 |fre ds b =>
  simp only at h1
  split at h1
  case isFalse=>exact h1.elim
  rename_i f
  obtain⟨p,xs,rfl,y1,y2,y3,y4,y5⟩:=rv
  refine⟨ρ,P1,N1,S1,h1.bind.mono fun r P2 N2 H2 _ a2 h2 ps fr=>?_⟩
  obtain⟨k1,k2⟩:=fr
  refine h2.now (S1.adv a2).reg (p::ps) ⟨⟨p,ps,rfl,⟨xs,a2.hh _ _ y1,y2,a2.off y1 y3,a2.offN y1 y4,f,RepsB.adv a2.pp a2.nn (Reps.flat ds xs f y5)⟩,?_⟩,?_⟩
  ·exact k1.mono fun a ds ⟨xs,g1,g2,g3⟩=>⟨xs,g1,a1.hh.free g2,g3⟩
  ·rw[List.nodup_cons]
   refine⟨fun m=>?_,k2⟩
   obtain⟨ds,xs,g1,g2,_⟩:=k1.all p m
   rw[y1] at g2;cases g2
theorem AR.setW {i:Nat} {dss:List (List Cm.D)} {p:Addr} (h:AR H ρ σ) (k:∀(j:Nat) (t:Sl) (u:Option V) (a:Addr),i≠j→ρ[j]? = some t→σ[j]? = some u→Held H t u a→¬Held H (.row dss) (some (.ref p)) a):AR H (ρ.set i (.row dss)) (σ.set i (some (.ref p))):=⟨fun j l es t o u a e1 e2 e3 e4 h1 h2=>by
 rcases qaR e1 with⟨q1,z1⟩ | ⟨q1,z1⟩
 ·cases z1
  rcases qaR e3 with⟨_,z3⟩ | ⟨q3,_⟩
  ·rcases qaR e2 with⟨q2,z2⟩ | ⟨q2,z2⟩
   ·omega
   ·rw[List.getElem?_set_ne q2] at e4
    rw[z3] at h1
    exact absurd h1 (k l t u a q2 z2 e4 h2)
  ·exact absurd q1 q3
 ·rw[List.getElem?_set_ne q1] at e3
  rcases qaR e2 with⟨q2,z2⟩ | ⟨q2,z2⟩
  ·rcases qaR e4 with⟨_,z4⟩ | ⟨q4,_⟩
   ·rw[z2,z4] at h2
    exact absurd h2 (k j _ o a q1 z1 e3 h1)
   ·exact absurd q2 q4
  ·rw[List.getElem?_set_ne q2] at e4
   exact h.un j l es t o u a z1 z2 e3 e4 h1 h2⟩
theorem SR.setW {P0 N0 H0:Hp} (S0:SR C P0 N0 H0 ρ σ) (S:SR C P N H ρ σ) (hs:L2.Same H0 H) {i:Nat} {dss:List (List Cm.D)} {p:Addr} {ps:List Addr} (h0:H0 p=none) (hp:H p=some (.lst (ps.map V.ref))) (pP:P p=none) (pN:N p=none) (fr:FrR C P N H H0 dss ps) (hn:p∉ps):SR C P N H (ρ.set i (.row dss)) (σ.set i (some (.ref p))) where
 reg:=S.reg
 len:=by simp[S.len]
 sl:=fun j s e=>by
  by_cases q:i=j
  ·subst q
   have hi:i<ρ.length:=by
    rcases Nat.lt_or_ge i ρ.length with z | z
    ·exact z
    ·rw[List.getElem?_eq_none (by simpa using z)] at e;cases e
   rw[List.getElem?_set_self hi] at e
   cases e
   exact⟨_,List.getElem?_set_self (by rw[S.len];exact hi),p,ps,rfl,hp,pP,pN,S0.reg.bH.free h0,fr.1.mono fun a ds ⟨xs,g1,g2,g3,g4,g5⟩=>⟨xs,g1,g3,g4,S0.reg.bH.free g2,g5⟩,List.nodup_cons.mpr ⟨hn,fr.2⟩⟩
  ·rw[List.getElem?_set_ne q] at e
   rw[List.getElem?_set_ne q]
   exact S.sl j s e
 ap:=fun j k r ds c es c' e1 e2 e3 e4=>by
  rcases qaR e1 with⟨_,z⟩ | ⟨q1,z1⟩
  ·cases z
  ·rcases qaR e2 with⟨_,z⟩ | ⟨q2,z2⟩
   ·cases z
   ·rw[List.getElem?_set_ne q1] at e3
    rw[List.getElem?_set_ne q2] at e4
    exact S.ap j k r ds c es c' z1 z2 e3 e4
 ad:=S.ad.set rfl
 ar:=S.ar.setW fun j t u a hj e1 e2 k1 k2=>by
  have fresh:H0 a=none:=by
   cases k2 with
   |rt=>exact h0
   |it e m =>
    rw[hp] at e
    injection e with e
    injection e with e
    rw[←qgv e] at m
    obtain⟨ds,xs,g1,g2,_⟩:=fr.1.all a m
    exact g2
  cases k1 with
  |own =>
   obtain⟨o,z1,z2⟩:=S0.sl j _ e1
   rw[z1] at e2;cases e2
   obtain⟨q,xs,y1,y2,_⟩:=z2
   cases y1
   rw[fresh] at y2;cases y2
  |rt=>exact S0.newW hs fresh e1 e2 .rt
  |it e m=>exact S0.newW hs fresh e1 e2 (.it e m)
theorem qqZ {i:Nat} {g:List Sl→RE (List (List Cm.D))} {D:Ends} (q:tS C (fun ρ=>(g ρ).out fun dss=>gdO (leB dss.length) (.nx (ρ.set i (.row dss)))) D σ H):tAsg (tLst (tF C g)) (gName i) D σ H:=by
 obtain⟨ρ,P,N,S,h⟩:=q
 refine⟨ρ,P,N,S,(h.res S.reg).mono fun dss P1 N1 H1 _ a1 h1 ps fr=>?_⟩
 simp only[qbE,qas] at h1
 split at h1
 case isFalse=>exact h1.elim
 rename_i hl
 have ln:∀{dss:List (List Cm.D)} {ps:List Addr} {R:Addr→List Cm.D→Prop},RowR R dss ps→ps.length=dss.length:=fun {dss}=>by
  induction dss with
  |nil=>intro ps R h;cases h;rfl
  |cons d r ih=>intro ps R ⟨a,q,e,_,h2⟩;subst e;simp[ih h2]
 refine⟨by rw[List.length_map,ln fr.1];exact hl,fun p hp=>?_⟩
 have S1:=S.adv a1
 have a2:Adv P1 N1 H1 P1 N1 (upd H1 p (.lst (ps.map V.ref))):=(Adv.refl S1.reg.pH S1.reg.nH).heap (qaA hp)
 have S2:=S1.adv a2
 have ne:p∉ps:=fun m=>by
  obtain⟨ds,xs,g1,_⟩:=fr.1.all p m
  rw[hp] at g1;cases g1
 refine h1 _ P1 N1 _ (SR.setW S S2 (a1.hh.trans a2.hh) (a1.hh.free hp) upd_same (S1.reg.pH.free hp) (S1.reg.nH.free hp) ⟨fr.1.sub fun a m ds ⟨xs,g1,g2⟩=>⟨xs,a2.hh _ _ g1,g2⟩,fr.2⟩ ne) a1.pp a1.nn
theorem RowR.get {R:Addr→List Cm.D→Prop}:∀{dss:List (List Cm.D)} {ps:List Addr} {k:Nat} {ds:List Cm.D},RowR R dss ps→dss[k]? = some ds→∃a,ps[k]? = some a∧R a ds
 |[],_,_,_,_,e=>by simp at e
 |d::r,_,0,ds,⟨a,q,e,h1,h2⟩,e2=>by subst e;cases e2;exact⟨a,rfl,h1⟩
 |d::r,_,k+1,ds,⟨a,q,e,h1,h2⟩,e2=>by
  subst e
  obtain⟨b,g1,g2⟩:=RowR.get (k:=k) h2 (by simpa using e2)
  exact⟨b,by simpa using g1,g2⟩
theorem RowR.put {R R':Addr→List Cm.D→Prop}:∀{dss:List (List Cm.D)} {ps:List Addr} {k:Nat} {a:Addr} {ds':List Cm.D},RowR R dss ps→ps[k]? = some a→ps.Nodup→R' a ds'→(∀b∈ps,b≠a→∀ds,R b ds→R' b ds)→RowR R' (dss.set k ds') ps
 |[],_,_,_,_,h,e,_,_,_=>by cases h;simp at e
 |d::r,_,0,a,ds',⟨b,q,e,h1,h2⟩,e2,nd,h3,h4=>by
  subst e
  cases e2
  rw[List.nodup_cons] at nd
  exact⟨_,q,rfl,h3,h2.sub fun c m ds g=>h4 c (List.mem_cons_of_mem _ m) (fun z=>nd.1 (z ▸ m)) ds g⟩
 |d::r,_,k+1,a,ds',⟨b,q,e,h1,h2⟩,e2,nd,h3,h4=>by
  subst e
  rw[List.nodup_cons] at nd
  have e2:q[k]? = some a:=by simpa using e2
  exact⟨b,q,rfl,h4 b (by simp) (fun z=>nd.1 (z ▸ List.mem_of_getElem? e2)) _ h1,RowR.put h2 e2 nd.2 h3 fun c m=>h4 c (List.mem_cons_of_mem _ m)⟩
theorem AR.row {i:Nat} {dss dss':List (List Cm.D)} (h:AR H ρ σ) (e:ρ[i]? = some (.row dss)):AR H (ρ.set i (.row dss')) σ:=⟨fun j l es t o u a e1 e2 e3 e4 h1 h2=>by
 have back:∀{m:Nat} {t:Sl} {o:Option V},(ρ.set i (.row dss'))[m]? = some t→Held H t o a→∃t',ρ[m]? = some t'∧Held H t' o a∧(t.isW=true→t'.isW=true):=fun {m t o} em hh=>by
  rcases qaR em with⟨q,z⟩ | ⟨q,z⟩
  ·subst q
   rw[z] at hh
   refine⟨_,e,?_,fun _=>rfl⟩
   cases hh with
   |rt=>exact .rt
   |it e m=>exact .it e m
  ·exact⟨t,z,hh,id⟩
 obtain⟨t1,f1,g1,w1⟩:=back e1 h1
 obtain⟨t2,f2,g2,_⟩:=back e2 h2
 have w1:=w1 rfl
 cases t1 with
 |row es'=>exact h.un j l es' t2 o u a f1 f2 e3 e4 g1 g2
 |_=>cases w1⟩
abbrev tRx (K:PySem.W.Frag) (i k:Nat):TE:=tOp (rIx K) (tVar i) (tC (.int k))
end
end Cm
namespace Cm
open PySem PySem.Spec PyProof.Rows L2
def qt5:Ex→Bool
 |.cmp _ _ _=>true
 |.chn _ _ _ _ _=>true
 |_=>false
def qtA:Expr→Bool
 |.UnaryOp .Not _ _=>false
 |.BoolOp _ _ _=>false
 |.IfExp _ _ _ _=>false
 |.Compare _ _ _ _=>false
 |_=>true
def tgE (T:Tb) (fc:Option Scope) (sc:Scope):List Nat→List Expr→Bool
 |[],[]=>true
 |i::is,.Name x _::es=>decide (T.N[i]? = some x)&&tgB fc sc x&&tgE T fc sc is es
 |_,_=>false
def qm6 (T:Tb) (fc:Option Scope) (sc:Scope) (tg:List Nat) (t:Expr):Bool:=
 match t with
 |.Name x _=>match tg with
  |[i]=>decide (T.N[i]? = some x)&&tgB fc sc x
  |_=>false
 |.Tuple es _ _=>decide (tg.length≠1)&&tgE T fc sc tg es
 |_=>false
def qtm:Expr→Bool
 |.Tuple _ _ _=>true
 |_=>false
def qwA (T:Tb) (sc:Scope):List Nat→List Expr→Bool
 |[],[]=>true
 |k::ks,.Name n _::es=>decide ((T.ck[k]?).map (·.1)=some n)&&glB sc n&&nmB n&&qwA T sc ks es
 |_,_=>false
mutual
def qaZ (T:Tb):Ex→Option Scope→Scope→Expr→Bool
 |.nev,_,_,_=>true
 |.var i,_,sc,e=>match e with
  |.Name x _=>decide (T.N[i]? = some x)&&qmU sc x&&nmB x
  |_=>false
 |.cint i,_,_,e=>match e with
  |.Constant (.int j) _ _=>decide (i=j)
  |_=>false
 |.cbl i,_,_,e=>match e with
  |.Constant (.bool j) _ _=>decide (i=j)
  |_=>false
 |.cnon,_,_,e=>match e with
  |.Constant .none _ _=>true
  |_=>false
 |.cstr s,_,_,e=>match e with
  |.Constant (.str x) _ _=>decide (x=qbg s)
  |_=>false
 |.glo k,_,sc,e=>match e with
  |.Name x _=>decide (T.gc[k]? = some x)&&glB sc x&&nmB x
  |_=>false
 |.bin o a b,fc,sc,e=>match e with
  |.BinOp x op y _=>decide (op=qvE o)&&qaZ T a fc sc x&&qaZ T b fc sc y
  |_=>false
 |.cmp o a b,fc,sc,e=>match e with
  |.Compare x [op] [y] _=>decide (op=qiQ o) && !behindInMarks (qiQ o) y&&qaZ T a fc sc x&&qaZ T b fc sc y
  |_=>false
 |.chn o p a b c,fc,sc,e=>match e with
  |.Compare x [op,op'] [y,z] _=>decide (op=qiQ o)&&decide (op'=qiQ p) && !lastMarks [qiQ o,qiQ p] [y,z]&&qaZ T a fc sc x&&qaZ T b fc sc y&&qaZ T c fc sc z
  |_=>false
 |.bop c es,fc,sc,e=>match e with
  |.BoolOp op xs _=>decide (op=qoQ c) && !xs.isEmpty&&qbk T es fc sc xs
  |_=>false
 |.neg a,fc,sc,e=>match e with
  |.UnaryOp .USub x _=>qaZ T a fc sc x
  |_=>false
 |.tup es,fc,sc,e=>match e with
  |.Tuple xs _ _=>qbk T es fc sc xs&&xs.all qai&&decide (xs.length<1000)
  |_=>false
 |.lst es,fc,sc,e=>match e with
  |.List xs _=>qbk T es fc sc xs&&xs.all qai&&decide (xs.length<1000)
  |_=>false
 |.idx a i,fc,sc,e=>match e with
  |.Subscript x y _=>qaZ T a fc sc x&&qaZ T i fc sc y&&qgw y
  |_=>false
 |.slc a lo hi,fc,sc,e=>match e with
  |.Subscript x (.Slice l h none _) _=>qaZ T a fc sc x&&qtp T lo fc sc l&&qtp T hi fc sc h
  |_=>false
 |.call f es,fc,sc,e=>match e with
  |.Call (.Name x _) xs [] _=>decide (T.fn[f]? = some (x,xs.length))&&glB sc x&&nmB x&&qbk T es fc sc xs&&xs.all qai
  |_=>false
 |.pri p es,fc,sc,e=>match e with
  |.Call (.Name x _) xs [] _=>decide (x=qqH p)&&glB sc x && !xs.isEmpty&&qbk T es fc sc xs&&xs.all qai
  |_=>false
 |.lrng es,fc,sc,e=>match e with
  |.Call (.Name l _) [.Call (.Name r _) xs [] _] [] _=>decide (l=("list" : Str))&&decide (r=("range" : Str))&&glB sc "list" && glB sc "range" && qbk T es fc sc xs&&xs.all qai&&decide (xs.length=1∨xs.length=2)
  |_=>false
 |.mth m o es,fc,sc,e=>match e with
  |.Call (.Attribute x mn apos) xs [] pos=>decide (T.mn[m]? = some (mn,xs.length))&&qaZ T o fc sc x&&qbk T es fc sc xs&&xs.all qai&&qmn x&&decide (xs.length<20)&&(apos.endLine == pos.line)
  |_=>false
 |.bm1 m o a,fc,sc,e=>match e with
  |.Call (.Attribute x mn apos) [y] [] pos=>decide (mn=bmN m)&&qaZ T o fc sc x&&qaZ T a fc sc y&&qai y&&qmn x&&(apos.endLine == pos.line)
  |_=>false
 |.fld o f,fc,sc,e=>match e with
  |.Attribute x fn _=>decide (T.fs[f]? = some fn)&&qaZ T o fc sc x&&qmn x
  |_=>false
 |.isi a t,fc,sc,e=>match e with
  |.Call (.Name x _) [y,.Name n _] [] _=>decide (x=("isinstance" : Str))&&decide (n=tyN t)&&glB sc "isinstance" && glB sc (tyN t)&&qaZ T a fc sc y&&qai y
  |_=>false
 |.lc own it tg cnd e',fc,sc,e=>match e with
  |.ListComp elt [⟨tgt,iter,ifs,0⟩] scope _=>blkC T.N sc scope (own.map fun i=>(T.N.getD i Str.empty,i))&&qoO T it fc sc tgt iter&&qm6 T (some scope) (relS scope sc) tg tgt&&tg.all (fun i=>decide (i∈own))&&qnl T cnd (some scope) (relS scope sc) ifs&&qaZ T e' (some scope) (relS scope sc) elt&&qjJ iter
  |_=>false
 |.lcx own it tg cnd e',fc,sc,e=>match e with
  |.ListComp elt [⟨tgt,iter,ifs,0⟩] scope _=>blkC T.N sc scope (own.map fun i=>(T.N.getD i Str.empty,i))&&qoO T it fc sc tgt iter&&qm6 T (some scope) (relS scope sc) tg tgt&&tg.all (fun i=>decide (i∈own))&&qnl T cnd (some scope) (relS scope sc) ifs&&qaZ T e' (some scope) (relS scope sc) elt&&qjJ iter&&fc.isNone
  |_=>false
 |.isc a k,fc,sc,e=>match e with
  |.Call (.Name x _) [y,.Name n _] [] _=>decide (x=("isinstance" : Str))&&glB sc "isinstance" && decide ((T.ck[k]?).map (·.1)=some n)&&glB sc n&&nmB n&&qaZ T a fc sc y&&qai y
  |_=>false
 |.lset a,fc,sc,e=>match e with
  |.Call (.Name l _) [.Call (.Name r _) [y] [] _] [] _=>decide (l=("len" : Str))&&decide (r=("set" : Str))&&glB sc "len" && glB sc "set" && qaZ T a fc sc y&&qai y
  |_=>false
 |.new k es,fc,sc,e=>match e with
  |.Call (.Name x _) xs [] _=>decide (T.nw[k]? = some (x,xs.length))&&glB sc x&&nmB x&&qbk T es fc sc xs&&xs.all qai
  |_=>false
 |.sfd i f,_,sc,e=>match e with
  |.Attribute (.Name x _) fn _=>decide (T.N[i]? = some x)&&qmU sc x&&nmB x&&decide (T.fs[f]? = some fn)
  |_=>false
def qbk (T:Tb):Exs→Option Scope→Scope→List Expr→Bool
 |.nil,_,_,xs=>xs.isEmpty
 |.cons e es,fc,sc,xs=>match xs with
  |x::xs=>qaZ T e fc sc x&&qbk T es fc sc xs
  |[]=>false
def qtp (T:Tb):Exs→Option Scope→Scope→Option Expr→Bool
 |.nil,_,_,x=>x.isNone
 |.cons e _,fc,sc,x=>match x with
  |some x=>qaZ T e fc sc x
  |none=>false
def qoT (T:Tb):Te→Option Scope→Scope→Expr→Bool
 |.val e,fc,sc,x=>qaZ T e fc sc x&&(qt5 e||qtA x)
 |.bop c ts,fc,sc,x=>match x with
  |.BoolOp op xs _=>decide (op=qoQ c) && !xs.isEmpty&&qmC T ts fc sc xs
  |_=>false
 |.not t,fc,sc,x=>match x with
  |.UnaryOp .Not x _=>qoT T t fc sc x
  |_=>false
def qmC (T:Tb):Tes→Option Scope→Scope→List Expr→Bool
 |.nil,_,_,xs=>xs.isEmpty
 |.cons t ts,fc,sc,xs=>match xs with
  |x::xs=>qoT T t fc sc x&&qmC T ts fc sc xs
  |[]=>false
def qnl (T:Tb):Tes→Option Scope→Scope→List Expr→Bool
 |.nil,_,_,xs=>xs.isEmpty
 |.cons t ts,fc,sc,xs=>match xs with
  |[x]=>qoT T t fc sc x&&(match ts with
   |.nil=>true
   |_=>false)
  |_=>false
def qoO (T:Tb):Itx→Option Scope→Scope→Expr→Expr→Bool
 |.any e,fc,sc,_,x=>qaZ T e fc sc x
 |.rng es,fc,sc,_,x=>match x with
  |.Call (.Name r _) xs [] _=>decide (r=("range" : Str))&&glB sc "range" && qbk T es fc sc xs&&xs.all qai&&decide (xs.length=1∨xs.length=2∨xs.length=3)
  |_=>false
 |.zp a b,fc,sc,t,x=>match x with
  |.Call (.Name r _) [y,z] [] _=>decide (r=("zip" : Str))&&glB sc "zip" && qaZ T a fc sc y&&qaZ T b fc sc z&&qai y&&qai z&&qtm t
  |_=>false
 |.en a,fc,sc,t,x=>match x with
  |.Call (.Name r _) [y] [] _=>decide (r=("enumerate" : Str))&&glB sc "enumerate" && qaZ T a fc sc y&&qai y&&qtm t
  |_=>false
 |.rv a,fc,sc,_,x=>match x with
  |.Call (.Name r _) [y] [] _=>decide (r=("reversed" : Str))&&glB sc "reversed" && qaZ T a fc sc y&&qai y
  |_=>false
 |.rvr a,fc,sc,_,x=>match x with
  |.Call (.Name r _) [.Call (.Name r2 _) [y] [] _] [] _=>decide (r=("reversed" : Str))&&decide (r2=("range" : Str))&&glB sc "reversed" && glB sc "range" && qaZ T a fc sc y&&qai y
  |_=>false
end
structure XOk (T:Tb) (Γ:Env) (C:Ctx) (X:Cx) (fc:Option Scope) (sc:Scope):Prop where
 nm:X.N=T.N
 nd:X.N.Nodup
 sc:X.env.scope=sc
 K:X.K=C.G.K
 tk:Takes X C.W
 calm:X.calm=true
 un:X.A.units+65<cLine
 blt:∀x∈bltNames,X.mg x=none
 fnc:match fc with
  |none=>X.fn=fun _=>true
  |some so=>X.fn=fun x=>so.names.lookup x == some .cell
 fn:∀(f:Nat) (x:Str) (n:Nat),T.fn[f]? = some (x,n)→∀g,Γ.fn[f]? = some g→∃(k:Nat) (a:Addr) (fd:FuncData) (ps:List Str) (m:Nat) (gf:List Cm.D→RE ER),FnOk X.prog X.w X.K X.mg X.base (L2.CX X.prog X.w) k a fd ps (spD C.G (n+m) gf)∧Room k X.A∧X.mg x=some (.ref a)∧PySem.W.keepIn X.K (.ref a)=true∧Part X.K C.G fd ps n m g.2 gf
 gc:∀(k:Nat) (x:Str),T.gc[k]? = some x→∀c,Γ.gc[k]? = some c→∃u v,X.mg x=some u∧RelV v u∧(∀P N,RepB C P N true c.2 v)∧WrT C.G v
 mt:∀(m:Nat) (x:Str) (n:Nat),T.mn[m]? = some (x,n)→∀c g,Γ.mt c m=some g→MtOk C X x c n g
 fs:∀(f:Nat) (x:Str),T.fs[f]? = some x→∀c k,Γ.fi c f=some k→FdOk C X x c k
 nw:∀(k:Nat) (x:Str) (n:Nat),T.nw[k]? = some (x,n)→∀g,Γ.nw[k]? = some g→NwOk C X x g.1 n g.2
 ck:∀(k:Nat) (x:Str) (own:Bool),T.ck[k]? = some (x,own)→CkOk C.G X.K X.mg x own Γ.ck[k]? Γ.ik[k]?
 xk:∀(k:Nat) (x:Str),T.xk[k]? = some x→∀c,Γ.xk[k]? = some c→RsOk X.K X.mg (C.G.ca c) x
 dc:∀(k:Nat) (x:Str),T.dc[k]? = some x→∀t,Γ.dc[k]? = some t→qum C.G X.K X.w X.mg x t.2
 fr:fc=none→FrOk X
end Cm
namespace Cm
open PySem PySem.Spec PyProof.Rows L2
theorem qa7 {C:Ctx} {X:Cx} {e:Expr} {g g':List Sl→RE ER} (h:PE X e (tE C g')) (q:∀ρ,g ρ=g' ρ):PE X e (tE C g):=by
 have:g=g':=funext q
 rw[this];exact h
theorem qmB {C:Ctx} {X:Cx} {e:Expr} {g g':List Sl→RE Bool} (h:PT X e (tT C g')) (q:∀ρ,g ρ=g' ρ):PT X e (tT C g):=by
 have:g=g':=funext q
 rw[this];exact h
theorem qty {C:Ctx} {X:Cx} {e:Expr} {g g':List Sl→RE Bool} (h:PW X e (tT C g')) (q:∀ρ,g ρ=g' ρ):PW X e (tT C g):=by
 have:g=g':=funext q
 rw[this];exact h
theorem qs1 {C:Ctx} {X:Cx} {e:List Expr} {g g':List Sl→RE (List ER)} (h:PA X e (tA C g')) (q:∀ρ,g ρ=g' ρ):PA X e (tA C g):=by
 have:g=g':=funext q
 rw[this];exact h
theorem qtw {C:Ctx} {X:Cx} {e:Option Expr} {g g':List Sl→RE (Option Int)} (h:PO X e (tO C g')) (q:∀ρ,g ρ=g' ρ):PO X e (tO C g):=by
 have:g=g':=funext q
 rw[this];exact h
theorem qjy {C:Ctx} {X:Cx} {t e:Expr} {g g':List Sl→RE Wk} (h:PI X t e (tI C g')) (q:∀ρ,g ρ=g' ρ):PI X t e (tI C g):=by
 have:g=g':=funext q
 rw[this];exact h
theorem qcS {C:Ctx} {X:Cx} {e:Stmt} {g g':List Sl→Out} (h:PS X e (tS C g')) (q:∀ρ,g ρ=g' ρ):PS X e (tS C g):=by
 have:g=g':=funext q
 rw[this];exact h
section
variable {T:Tb} {Γ:Env} {C:Ctx} {X:Cx} {fc:Option Scope} {sc:Scope}
theorem qeV (hs:X.env.scope=sc) {x:Str} (h:qmU sc x=true):Vis X.env.scope x:=by
 rw[hs]
 unfold qmU at h
 unfold Vis
 split at h
 ·exact .inl (by assumption)
 ·exact .inr (.inl (by assumption))
 ·exact .inr (.inr (by assumption))
 ·cases h
theorem qcn (hs:X.env.scope=sc) {x:Str} (h:glB sc x=true):Gl X x:=by
 unfold glB at h
 show X.env.scope.names.lookup x=_
 rw[hs]
 split at h
 ·assumption
 ·cases h
theorem qd5 {x:Str} (h:nmB x=true):(x == ("__debug__" : Str))=false∧(x == ("__classdict__" : Str))=false:=by
 unfold nmB at h
 simp only[Bool.and_eq_true,Bool.not_eq_true'] at h
 exact h
theorem qmP (I:XOk T Γ C X fc sc) {x:Str} (h:tgB fc sc x=true):Loc X.env.scope x∧(X.fn x=true∨X.env.scope.names.lookup x=some .local):=by
 rw[I.sc]
 unfold tgB at h
 split at h
 ·rename_i e
  exact⟨.inl e,.inr e⟩
 ·rename_i e
  refine⟨.inr e,.inl ?_⟩
  have:=I.fnc
  cases fc with
  |none=>simp only at this;rw[this]
  |some so=>simp only at this h;rw[this];exact h
 ·cases h
theorem qdj:∀(es:Exs) (ρ:List Sl) (r:List ER) (xs:List Expr),qbk T es fc sc xs=true→evs Γ es ρ=.ok r→r.length=xs.length
 |.nil,ρ,r,xs,h,e=>by
  unfold qbk at h
  rw[evs] at e
  cases e
  cases xs with
  |nil=>rfl
  |cons _ _=>cases h
 |.cons a es,ρ,r,xs,h,e=>by
  unfold qbk at h
  cases xs with
  |nil=>cases h
  |cons x xs =>
   simp only[Bool.and_eq_true] at h
   rw[evs] at e
   cases e1:ev Γ a ρ with
   |bad=>rw[e1] at e;cases e
   |exc c fs=>rw[e1] at e;cases e
   |ok v =>
    rw[e1] at e
    cases e2:evs Γ es ρ with
    |bad=>rw[RE.bind_ok,e2] at e;cases e
    |exc c fs=>rw[RE.bind_ok,e2] at e;cases e
    |ok q =>
     rw[RE.bind_ok,e2] at e
     cases e
     simp[qdj es ρ q xs h.2 e2]
theorem qiv {es:Exs} {xs:List Expr} (h:qbk T es fc sc xs=true) (e:xs=[]) (ρ:List Sl):evs Γ es ρ=.ok []:=by
 subst e
 cases es with
 |nil=>rw[evs]
 |cons a es=>unfold qbk at h;cases h
theorem XOk.blk (I:XOk T Γ C X fc sc) {s:Shared} {H:Hp} {scope:Scope} {cl:List (Str × Addr)} {A:Addr} {fp:List Addr}:XOk T Γ C.nx (X.blk s H scope (compEnvC scope cl A X.env) fp) (some scope) (relS scope sc) where
 nm:=I.nm
 nd:=I.nd
 sc:=by
  have:=I.sc
  subst this
  rfl
 K:=I.K
 tk:=takes0
 fr:=fun z=>nomatch z
 calm:=I.calm
 un:=I.un
 blt:=I.blt
 fnc:=rfl
 fn:=I.fn
 gc:=I.gc
 mt:=fun m x n h c g e=>by
  obtain⟨h1,h2,h3⟩:=I.mt m x n h c g e
  exact⟨h1,h2,h3⟩
 fs:=fun f x h c k e=>by
  obtain⟨h1,h2,h3,h4⟩:=I.fs f x h c k e
  exact⟨h1,h2,h3,h4⟩
 nw:=fun k x n h g e=>by
  obtain⟨h1⟩:=I.nw k x n h g e
  exact⟨h1⟩
 ck:=I.ck
 xk:=I.xk
 dc:=I.dc
theorem XOk.blkx (I:XOk T Γ C X fc sc) {σ0:L2.St} {s:Shared} {H:Hp} {scope:Scope} {cl:List (Str × Addr)} {A:Addr} {fp:List Addr} (tk:Takes ((X.blk s H scope (compEnvC scope cl A X.env) fp).wish (qkx X (compEnvC scope cl A X.env))) (fun c d _ H=>C.W c d σ0 H)):XOk T Γ (C.bx σ0) ((X.blk s H scope (compEnvC scope cl A X.env) fp).wish (qkx X (compEnvC scope cl A X.env))) (some scope) (relS scope sc) where
 nm:=I.nm
 nd:=I.nd
 sc:=by
  have:=I.sc
  subst this
  rfl
 K:=I.K
 tk:=tk
 fr:=fun z=>nomatch z
 calm:=I.calm
 un:=I.un
 blt:=I.blt
 fnc:=rfl
 fn:=I.fn
 gc:=I.gc
 mt:=fun m x n h c g e=>by
  obtain⟨h1,h2,h3⟩:=I.mt m x n h c g e
  exact⟨h1,h2,h3⟩
 fs:=fun f x h c k e=>by
  obtain⟨h1,h2,h3,h4⟩:=I.fs f x h c k e
  exact⟨h1,h2,h3,h4⟩
 nw:=fun k x n h g e=>by
  obtain⟨h1⟩:=I.nw k x n h g e
  exact⟨h1⟩
 ck:=I.ck
 xk:=I.xk
 dc:=I.dc
theorem XOk.tr {W:WX} {pn:List (Addr × Obj)} {xe:Value→Shared→Prop} (I:XOk T Γ C X fc sc) (tk:Takes (X.tr pn xe) W):XOk T Γ { C with W:=W } (X.tr pn xe) fc sc where
 nm:=I.nm
 nd:=I.nd
 sc:=I.sc
 K:=I.K
 tk:=tk
 fr:=fun z=>⟨(I.fr z).st,(I.fr z).fr,(I.fr z).ex⟩
 calm:=I.calm
 un:=I.un
 blt:=I.blt
 fnc:=I.fnc
 fn:=I.fn
 gc:=I.gc
 mt:=fun m x n h c g e=>by
  obtain⟨h1,h2,h3⟩:=I.mt m x n h c g e
  exact⟨h1,h2,h3⟩
 fs:=fun f x h c k e=>by
  obtain⟨h1,h2,h3,h4⟩:=I.fs f x h c k e
  exact⟨h1,h2,h3,h4⟩
 nw:=fun k x n h g e=>by
  obtain⟨h1⟩:=I.nw k x n h g e
  exact⟨h1⟩
 ck:=I.ck
 xk:=I.xk
 dc:=I.dc
theorem qko (I:XOk T Γ C X fc sc):∀(tg:List Nat) (es:List Expr),tgE T fc sc tg es=true→PGs X es (ql4 tg)∧es.length=tg.length∧(assignEach es X.env).length=es.length∧(assignEach es X.env).findIdx? (·.1)=none
 |[],[],_=>⟨pgs_nil,rfl,rfl,rfl⟩
 |i::is,.Name x p::es,h=>by
  unfold tgE at h
  simp only[Bool.and_eq_true,decide_eq_true_eq] at h
  obtain⟨h1,h2⟩:=qmP I h.1.2
  obtain⟨h3,h4,h5,h6⟩:=qko I is es h.2
  refine⟨pgs_cons (pg_name I.nd (by rw[I.nm];exact h.1.1) h1 h2) h3 rfl,by simp[h4],?_,?_⟩
  ·show(_::assignEach es X.env).length=_
   simp[h5]
  ·show List.findIdx? (·.1) ((false,_)::assignEach es X.env)=none
   rw[List.findIdx?_cons]
   simp[h6]
 |[],_::_,h=>by cases h
 |_::_,[],h=>by cases h
theorem qfw (I:XOk T Γ C X fc sc) {tg:List Nat} {t:Expr} (h:qm6 T fc sc tg t=true):PG X t (tG C tg):=by
 unfold qm6 at h
 split at h
 ·split at h
  ·simp only[Bool.and_eq_true,decide_eq_true_eq] at h
   obtain⟨h1,h2⟩:=qmP I h.2
   exact qpU I.nd (by rw[I.nm];exact h.1) h1 h2
  ·cases h
 ·simp only[Bool.and_eq_true,decide_eq_true_eq] at h
  obtain⟨h3,h4,h5,h6⟩:=qko I _ _ h.2
  exact qsw I.K I.calm h3 h4 h.1 h5 h6
 ·cases h
end
end Cm
set_option maxHeartbeats 1000000
namespace Cm
open PySem PySem.Spec PyProof.Rows L2
theorem qub (p:Pri):qqH p∈bltNames:=by cases p<;>decide
theorem qvd (t:Ty):tyN t∈bltNames:=by cases t<;>decide
theorem qr9 {l:List Expr} (h:l.length=1):∃a,l=[a]:=by
 match l,h with
 |[a],_=>exact⟨a,rfl⟩
theorem qrC {l:List Expr} (h:l.length=2):∃a b,l=[a,b]:=by
 match l,h with
 |[a,b],_=>exact⟨a,b,rfl⟩
theorem qm9 {l:List Expr} (h:l.length=3):∃a b c,l=[a,b,c]:=by
 match l,h with
 |[a,b,c],_=>exact⟨a,b,c,rfl⟩
mutual
theorem qaf {T:Tb} {Γ:Env}:∀(ir:Ex) {C:Ctx} {X:Cx} {fc:Option Scope} {sc:Scope} {e:Expr},XOk T Γ C X fc sc→qaZ T ir fc sc e=true→PE X e (tE C (ev Γ ir))∧(qt5 ir=true→PT X e (tT C fun ρ=>(ev Γ ir ρ).bind fun x=>qmS x.d))
 |.nev,C,X,fc,sc,e,I,h=>by
  exact⟨qa7 qiH fun ρ=>by rw[ev],fun z=>by cases z⟩
 |.var i,C,X,fc,sc,e,I,h=>by
  unfold qaZ at h
  split at h
  case h_2=>cases h
  rename_i x p
  simp only[Bool.and_eq_true,decide_eq_true_eq] at h
  obtain⟨n1,n2⟩:=qd5 h.2
  exact⟨qa7 (qrZ (by rw[I.nm];exact h.1.1) (qeV I.sc h.1.2) n1 n2) fun ρ=>by rw[ev]<;>rfl,fun z=>by cases z⟩
 |.cint i,C,X,fc,sc,e,I,h=>by
  unfold qaZ at h
  split at h
  case h_2=>cases h
  simp only[decide_eq_true_eq] at h
  subst h
  exact⟨qa7 (qn3 (d:=.int i) pe_int fun _ _=>rfl) fun ρ=>by rw[ev];rfl,fun z=>by cases z⟩
 |.cbl i,C,X,fc,sc,e,I,h=>by
  unfold qaZ at h
  split at h
  case h_2=>cases h
  simp only[decide_eq_true_eq] at h
  subst h
  exact⟨qa7 (qn3 (d:=.bl i) pe_bl fun _ _=>rfl) fun ρ=>by rw[ev];rfl,fun z=>by cases z⟩
 |.cnon,C,X,fc,sc,e,I,h=>by
  unfold qaZ at h
  split at h
  case h_2=>cases h
  exact⟨qa7 (qn3 (d:=.non) pe_non fun _ _=>rfl) fun ρ=>by rw[ev];rfl,fun z=>by cases z⟩
 |.cstr s,C,X,fc,sc,e,I,h=>by
  unfold qaZ at h
  split at h
  case h_2=>cases h
  simp only[decide_eq_true_eq] at h
  subst h
  exact⟨qa7 (qn3 (d:=.str s) pe_str fun _ _=>rfl) fun ρ=>by rw[ev];rfl,fun z=>by cases z⟩
 |.glo k,C,X,fc,sc,e,I,h=>by
  unfold qaZ at h
  split at h
  case h_2=>cases h
  rename_i x p
  simp only[Bool.and_eq_true,decide_eq_true_eq] at h
  obtain⟨n1,n2⟩:=qd5 h.2
  cases q:Γ.gc[k]? with
  |none=>exact⟨qa7 qiH fun ρ=>by rw[ev,q],fun z=>by cases z⟩
  |some c =>
   obtain⟨u,v,h1,h2,h3,_⟩:=I.gc k x h.1.1 c q
   exact⟨qa7 (qn3 (d:=c.2) (pe_glob (qcn I.sc h.1.2) h1 h2 n1) h3) fun ρ=>by rw[ev,q],fun z=>by cases z⟩
 |.bin o a b,C,X,fc,sc,e,I,h=>by
  unfold qaZ at h
  split at h
  case h_2=>cases h
  simp only[Bool.and_eq_true,decide_eq_true_eq] at h
  obtain⟨⟨rfl,ha⟩,hb⟩:=h
  exact⟨qa7 (quf (qs7 o) (I.K ▸ qtk o) (qaf a I ha).1 (qaf b I hb).1) fun ρ=>by rw[ev],fun z=>by cases z⟩
 |.cmp o a b,C,X,fc,sc,e,I,h=>by
  unfold qaZ at h
  split at h
  case h_2=>cases h
  simp only[Bool.and_eq_true,decide_eq_true_eq,Bool.not_eq_true'] at h
  obtain⟨⟨⟨rfl,hm⟩,ha⟩,hb⟩:=h
  exact⟨qa7 (qsc I.un I.K (qaf a I ha).1 (qaf b I hb).1 hm) fun ρ=>by rw[ev],fun _=>qmB (qso I.un I.K (qaf a I ha).1 (qaf b I hb).1 hm) fun ρ=>by rw[ev]⟩
 |.chn o p a b c,C,X,fc,sc,e,I,h=>by
  unfold qaZ at h
  split at h
  case h_2=>cases h
  simp only[Bool.and_eq_true,decide_eq_true_eq,Bool.not_eq_true'] at h
  obtain⟨⟨⟨⟨⟨rfl,rfl⟩,hm⟩,ha⟩,hb⟩,hc⟩:=h
  exact⟨qa7 (qsi I.un I.K (qaf a I ha).1 (qaf b I hb).1 (qaf c I hc).1 hm) fun ρ=>by rw[ev],fun _=>qmB (qq2 I.un I.K (qaf a I ha).1 (qaf b I hb).1 (qaf c I hc).1 hm) fun ρ=>by rw[ev]⟩
 |.bop c es,C,X,fc,sc,e,I,h=>by
  unfold qaZ at h
  split at h
  case h_2=>cases h
  rename_i op xs p
  simp only[Bool.and_eq_true,decide_eq_true_eq,Bool.not_eq_true'] at h
  obtain⟨⟨rfl,hx⟩,he⟩:=h
  exact⟨qa7 (qoq c es I he (by rintro rfl;cases hx)) fun ρ=>by rw[ev],fun z=>by cases z⟩
 |.neg a,C,X,fc,sc,e,I,h=>by
  unfold qaZ at h
  split at h
  case h_2=>cases h
  exact⟨qa7 (qsp (qaf a I h).1) fun ρ=>by rw[ev]<;>rfl,fun z=>by cases z⟩
 |.tup es,C,X,fc,sc,e,I,h=>by
  unfold qaZ at h
  split at h
  case h_2=>cases h
  rename_i xs k p
  simp only[Bool.and_eq_true,decide_eq_true_eq] at h
  refine⟨qa7 (qsr (qdz es I h.1.1 h.1.2) fun ρ r e=>?_) fun ρ=>by rw[ev],fun z=>by cases z⟩
  rw[qdj es ρ r xs h.1.1 e]
  have:(1000:Nat)≤LIM:=by decide
  omega
 |.lst es,C,X,fc,sc,e,I,h=>by
  unfold qaZ at h
  split at h
  case h_2=>cases h
  rename_i xs p
  simp only[Bool.and_eq_true,decide_eq_true_eq] at h
  refine⟨qa7 (qrI (qdz es I h.1.1 h.1.2) fun ρ r e=>?_) fun ρ=>by rw[ev],fun z=>by cases z⟩
  rw[qdj es ρ r xs h.1.1 e]
  have:(1000:Nat)≤LIM:=by decide
  omega
 |.idx a i,C,X,fc,sc,e,I,h=>by
  unfold qaZ at h
  split at h
  case h_2=>cases h
  simp only[Bool.and_eq_true] at h
  exact⟨qa7 (qsq I.K (qaf a I h.1.1).1 (qaf i I h.1.2).1 (quO h.2)) fun ρ=>by rw[ev],fun z=>by cases z⟩
 |.slc a lo hi,C,X,fc,sc,e,I,h=>by
  unfold qaZ at h
  split at h
  case h_2=>cases h
  simp only[Bool.and_eq_true] at h
  exact⟨qa7 (qr7 I.K (qaf a I h.1.1).1 (qql lo I h.1.2) (qql hi I h.2)) fun ρ=>by rw[ev],fun z=>by cases z⟩
 |.call f es,C,X,fc,sc,e,I,h=>by
  unfold qaZ at h
  split at h
  case h_2=>cases h
  rename_i x p xs q
  simp only[Bool.and_eq_true,decide_eq_true_eq] at h
  obtain⟨⟨⟨⟨hf,hg⟩,hn⟩,he⟩,hs⟩:=h
  cases e:Γ.fn[f]? with
  |none=>exact⟨qa7 qiH fun ρ=>by rw[ev,e],fun z=>by cases z⟩
  |some g =>
   obtain⟨k,a,fd,ps,m,gf,F,hr,hm,hk,dv,dvs,dus,hb,hdv,hdm,hdr,hgf⟩:=I.fn f x xs.length hf g e
   exact⟨qa7 (qpG F hr (qcn I.sc hg) hm hk hb hdv hdm hdr hgf I.tk (qdz es I he hs) (qd5 hn).1 (qfp hs) (fun ρ r e=>qdj es ρ r xs he e) (fun z ρ=>qiv he z ρ)) fun ρ=>by rw[ev,e],fun z=>by cases z⟩
 |.pri p es,C,X,fc,sc,e,I,h=>by
  unfold qaZ at h
  split at h
  case h_2=>cases h
  rename_i x p' xs q
  simp only[Bool.and_eq_true,decide_eq_true_eq,Bool.not_eq_true'] at h
  obtain⟨⟨⟨⟨rfl,hg⟩,hx⟩,he⟩,hs⟩:=h
  cases xs with
  |nil=>cases hx
  |cons y ys =>
   have pl:=qfp (X:=X) hs
   exact⟨qa7 (qrw I.K I.calm (qcn I.sc hg) (I.blt _ (qub p)) (qdz es I he hs) (pl.1 _ _ rfl) (pl.2 _ _ _ rfl)) fun ρ=>by rw[ev],fun z=>by cases z⟩
 |.lrng es,C,X,fc,sc,e,I,h=>by
  unfold qaZ at h
  split at h
  case h_2=>cases h
  rename_i l p1 r p2 xs p3 p4
  simp only[Bool.and_eq_true,decide_eq_true_eq] at h
  obtain⟨⟨⟨⟨⟨⟨rfl,rfl⟩,hg⟩,hg2⟩,he⟩,hs⟩,hl⟩:=h
  refine⟨?_,fun z=>by cases z⟩
  have m1:=I.blt "list" (by decide)
  have m2:=I.blt "range" (by decide)
  cases es with
  |nil =>
   cases xs with
   |nil=>simp at hl
   |cons _ _=>unfold qbk at he;cases he
  |cons a es =>
   cases xs with
   |nil=>simp at hl
   |cons x xs =>
    unfold qbk at he
    simp only[Bool.and_eq_true] at he
    simp only[List.all_cons,Bool.and_eq_true] at hs
    have h1:=(qaf a I he.1).1
    cases es with
    |nil =>
     cases xs with
     |cons _ _=>have:=he.2;unfold qbk at this;cases this
     |nil =>
      refine qa7 (qal (pe_listRg I.calm (qcn I.sc hg) m1 (prg_1 (qcn I.sc hg2) m2 h1 (qad hs.1)) rfl) fun σ H Q q=>qox q) fun ρ=>?_
      rw[ev,evs,evs]
    |cons b es =>
     cases xs with
     |nil=>have:=he.2;unfold qbk at this;cases this
     |cons y xs =>
      have he2:=he.2
      unfold qbk at he2
      simp only[Bool.and_eq_true] at he2
      simp only[List.all_cons,Bool.and_eq_true] at hs
      have h2:=(qaf b I he2.1).1
      cases xs with
      |cons _ _=>simp at hl
      |nil =>
       cases es with
       |cons _ _=>have:=he2.2;unfold qbk at this;cases this
       |nil =>
        refine qa7 (qal (pe_listRg I.calm (qcn I.sc hg) m1 (prg_2 (qcn I.sc hg2) m2 h1 h2 (qad hs.1) (qad hs.2.1) (qex (by simp[hs.2.1]))) rfl) fun σ H Q q=>qoe q) fun ρ=>?_
        rw[ev,evs,evs,evs]
 |.mth m o es,C,X,fc,sc,e,I,h=>by
  unfold qaZ at h
  split at h
  case h_2=>cases h
  rename_i x mn apos xs pos
  simp only[Bool.and_eq_true,decide_eq_true_eq] at h
  obtain⟨⟨⟨⟨⟨⟨hm,ho⟩,he⟩,hs⟩,hb⟩,hn⟩,hl⟩:=h
  exact⟨qa7 (qre (mt:=fun c=>Γ.mt c m) (fun c g' e=>I.mt m mn xs.length hm c g' e) I.tk (qaf o I ho).1 (qdz es I he hs) (qfp hs) (fun ρ r e=>qdj es ρ r xs he e) (fun z ρ=>qiv he z ρ) (qpA hb hs hn hl)) fun ρ=>by rw[ev]<;>rfl,fun z=>by cases z⟩
 |.bm1 m o a,C,X,fc,sc,e,I,h=>by
  unfold qaZ at h
  split at h
  case h_2=>cases h
  simp only[Bool.and_eq_true,decide_eq_true_eq] at h
  obtain⟨⟨⟨⟨⟨rfl,ho⟩,ha⟩,hs⟩,hb⟩,hl⟩:=h
  exact⟨qa7 (qt8 I.K (qaf o I ho).1 (qaf a I ha).1 (qad hs) (qhi hb) hl) fun ρ=>by rw[ev]<;>rfl,fun z=>by cases z⟩
 |.fld o f,C,X,fc,sc,e,I,h=>by
  unfold qaZ at h
  split at h
  case h_2=>cases h
  rename_i x fn p
  simp only[Bool.and_eq_true,decide_eq_true_eq] at h
  obtain⟨⟨hf,ho⟩,hb⟩:=h
  exact⟨qa7 (qqW (fi:=fun c=>Γ.fi c f) I.K (fun c k e=>I.fs f fn hf c k e) (qaf o I ho).1 (qhi hb)) fun ρ=>by rw[ev]<;>rfl,fun z=>by cases z⟩
 |.isc a k,C,X,fc,sc,e,I,h=>by
  unfold qaZ at h
  split at h
  case h_2=>cases h
  simp only[Bool.and_eq_true,decide_eq_true_eq] at h
  obtain⟨⟨⟨⟨⟨⟨rfl,hg⟩,hk⟩,hg2⟩,hn⟩,ha⟩,hs⟩:=h
  obtain⟨n1,n2⟩:=qd5 hn
  cases q:T.ck[k]? with
  |none=>rw[q] at hk;cases hk
  |some t =>
   obtain⟨x,own⟩:=t
   rw[q] at hk
   cases hk
   exact⟨qa7 (qrA I.K (qcn I.sc hg) (I.blt _ (by decide)) (I.blt _ (by decide)) (qcn I.sc hg2) n1 (I.ck k x own q) (qaf a I ha).1 (qad hs) rfl) fun ρ=>by rw[ev],fun z=>by cases z⟩
 |.isi a t,C,X,fc,sc,e,I,h=>by
  unfold qaZ at h
  split at h
  case h_2=>cases h
  simp only[Bool.and_eq_true,decide_eq_true_eq] at h
  obtain⟨⟨⟨⟨⟨rfl,rfl⟩,hg⟩,hg2⟩,ha⟩,hs⟩:=h
  exact⟨qa7 (qq5 I.K (qcn I.sc hg) (I.blt _ (by decide)) (qcn I.sc hg2) (I.blt _ (qvd t)) (qaf a I ha).1 (qad hs) rfl) fun ρ=>by rw[ev],fun z=>by cases z⟩
 |.lc own it tg cnd e',C,X,fc,sc,e,I,h=>by
  unfold qaZ at h
  split at h
  case h_2=>cases h
  rename_i elt tgt iter ifs scope p
  simp only[Bool.and_eq_true] at h
  obtain⟨⟨⟨⟨⟨⟨hb,hi⟩,ht⟩,hsub⟩,hc⟩,he⟩,hs⟩:=h
  have hsub':∀i∈tg,i∈own:=fun i hi=>by simpa using List.all_eq_true.mp hsub i hi
  have hb':BlkOk X.N X.env.scope scope (own.map fun i=>(T.N.getD i Str.empty,i)):=by
   rw[I.nm,I.sc];exact blkOk_by hb
  have ho:((own.map fun i=>(T.N.getD i Str.empty,i)).map (·.2))=own:=by
   rw[List.map_map]
   exact List.map_id' own
  have lc:=pe_lc (elt:=elt) (pos:=p) I.calm I.nd (qkj it I hi) hb' (fun s H Cd cl fp=>qfw (I.blk (s:=s) (H:=H) (cl:=cl) (A:=Cd) (fp:=fp)) ht) (fun s H Cd cl fp=>qiL cnd (I.blk (s:=s) (H:=H) (cl:=cl) (A:=Cd) (fp:=fp)) hc) (fun s H Cd cl fp=>(qaf e' (I.blk (s:=s) (H:=H) (cl:=cl) (A:=Cd) (fp:=fp)) he).1) (qfP hs)
  rw[ho] at lc
  exact⟨qa7 (qal lc fun σ H Q q=>qqs hsub' q) fun ρ=>by rw[ev]<;>rfl,fun z=>by cases z⟩
 |.lcx own it tg cnd e',C,X,fc,sc,e,I,h=>by
  unfold qaZ at h
  split at h
  case h_2=>cases h
  rename_i elt tgt iter ifs scope p
  simp only[Bool.and_eq_true] at h
  obtain⟨⟨⟨⟨⟨⟨⟨hb,hi⟩,ht⟩,hsub⟩,hc⟩,he⟩,hs⟩,hfc⟩:=h
  have hfc:fc=none:=by simpa using hfc
  have hsub':∀i∈tg,i∈own:=fun i hi=>by simpa using List.all_eq_true.mp hsub i hi
  have hb':BlkOk X.N X.env.scope scope (own.map fun i=>(T.N.getD i Str.empty,i)):=by
   rw[I.nm,I.sc];exact blkOk_by hb
  have ho:((own.map fun i=>(T.N.getD i Str.empty,i)).map (·.2))=own:=by
   rw[List.map_map]
   exact List.map_id' own
  have lc:=qtQ (elt:=elt) (pos:=p) I.tk (I.fr hfc) I.calm I.nd (qkj it I hi) hb' (fun s H Cd cl fp=>qfw (I.blk (s:=s) (H:=H) (cl:=cl) (A:=Cd) (fp:=fp)) ht) (fun σ s H Cd cl fp tk=>qiL cnd (I.blkx (σ0:=σ) (s:=s) (H:=H) (cl:=cl) (A:=Cd) (fp:=fp) tk) hc) (fun σ s H Cd cl fp tk=>(qaf e' (I.blkx (σ0:=σ) (s:=s) (H:=H) (cl:=cl) (A:=Cd) (fp:=fp) tk) he).1) (qfP hs)
  rw[ho] at lc
  exact⟨qa7 (qal lc fun σ H Q q=>qnC hsub' q) fun ρ=>by rw[ev]<;>rfl,fun z=>by cases z⟩
 |.lset a,C,X,fc,sc,e,I,h=>by
  unfold qaZ at h
  split at h
  case h_2=>cases h
  simp only[Bool.and_eq_true,decide_eq_true_eq] at h
  obtain⟨⟨⟨⟨⟨rfl,rfl⟩,hg⟩,hg2⟩,ha⟩,hs⟩:=h
  exact⟨qa7 (qo1 I.K I.calm (qcn I.sc hg) (I.blt _ (by decide)) (qcn I.sc hg2) (I.blt _ (by decide)) (qaf a I ha).1 hs) fun ρ=>by rw[ev],fun z=>by cases z⟩
 |.new k es,C,X,fc,sc,e,I,h=>by
  unfold qaZ at h
  split at h
  case h_2=>cases h
  rename_i x p xs q
  simp only[Bool.and_eq_true,decide_eq_true_eq] at h
  obtain⟨⟨⟨⟨hf,hg⟩,hn⟩,he⟩,hs⟩:=h
  cases e:Γ.nw[k]? with
  |none=>exact⟨qa7 qiH fun ρ=>by rw[ev,e],fun z=>by cases z⟩
  |some g=>exact⟨qa7 (qsl (I.nw k x xs.length hf g e) (qcn I.sc hg) I.tk (qdz es I he hs) (qd5 hn).1 (qfp hs) (fun ρ r e=>qdj es ρ r xs he e) (fun z ρ=>qiv he z ρ) rfl) fun ρ=>by rw[ev,e],fun z=>by cases z⟩
 |.sfd i f,C,X,fc,sc,e,I,h=>by
  unfold qaZ at h
  split at h
  case h_2=>cases h
  rename_i x p fn p'
  simp only[Bool.and_eq_true,decide_eq_true_eq] at h
  obtain⟨⟨⟨h1,h2⟩,h3⟩,h4⟩:=h
  obtain⟨n1,n2⟩:=qd5 h3
  exact⟨qa7 (qal (pe_fld (pe_var (i:=i) (by rw[I.nm];exact h1) (qeV I.sc h2) n1 n2) rfl) fun σ H Q q=>qqO (fi:=fun c=>Γ.fi c f) (fun c k e=>I.fs f fn h4 c k e) q) fun ρ=>by rw[ev]<;>rfl,fun z=>by cases z⟩
theorem qdz {T:Tb} {Γ:Env}:∀(ir:Exs) {C:Ctx} {X:Cx} {fc:Option Scope} {sc:Scope} {xs:List Expr},XOk T Γ C X fc sc→qbk T ir fc sc xs=true→xs.all qai=true→PA X xs (tA C (evs Γ ir))
 |.nil,C,X,fc,sc,xs,I,h,hs=>by
  unfold qbk at h
  cases xs with
  |nil=>exact qs1 qrg fun ρ=>by rw[evs]
  |cons _ _=>cases h
 |.cons a es,C,X,fc,sc,xs,I,h,hs=>by
  unfold qbk at h
  cases xs with
  |nil=>cases h
  |cons x xs =>
   simp only[Bool.and_eq_true] at h
   simp only[List.all_cons,Bool.and_eq_true] at hs
   exact qs1 (qoZ (qaf a I h.1).1 (qdz es I h.2 hs.2) (qad hs.1)) fun ρ=>by rw[evs]
theorem qoq {T:Tb} {Γ:Env}:∀(c:Bool) (ir:Exs) {C:Ctx} {X:Cx} {fc:Option Scope} {sc:Scope} {xs:List Expr} {pos:Pos},XOk T Γ C X fc sc→qbk T ir fc sc xs=true→xs≠[]→PE X (.BoolOp (qoQ c) xs pos) (tE C (qoo Γ c ir))
 |c,.nil,C,X,fc,sc,xs,pos,I,h,hn=>by
  unfold qbk at h
  cases xs with
  |nil=>exact absurd rfl hn
  |cons _ _=>cases h
 |c,.cons a es,C,X,fc,sc,xs,pos,I,h,hn=>by
  unfold qbk at h
  cases xs with
  |nil=>cases h
  |cons x xs =>
   simp only[Bool.and_eq_true] at h
   cases xs with
   |nil =>
    cases es with
    |nil=>exact qa7 (qtM (qaf a I h.1).1) fun ρ=>by rw[qoo,qoo]<;>rfl
    |cons _ _=>have:=h.2;unfold qbk at this;cases this
   |cons y ys=>exact qa7 (quu (qaf a I h.1).1 (qoq c es I h.2 (by simp))) fun ρ=>by rw[qoo]<;>rfl
theorem qql {T:Tb} {Γ:Env}:∀(ir:Exs) {C:Ctx} {X:Cx} {fc:Option Scope} {sc:Scope} {x:Option Expr},XOk T Γ C X fc sc→qtp T ir fc sc x=true→PO X x (tO C (evO Γ ir))
 |.nil,C,X,fc,sc,x,I,h=>by
  unfold qtp at h
  cases x with
  |none=>exact qtw qpi fun ρ=>by rw[evO]
  |some _=>cases h
 |.cons a es,C,X,fc,sc,x,I,h=>by
  unfold qtp at h
  cases x with
  |none=>cases h
  |some x=>exact qtw (qo9 (qaf a I h).1) fun ρ=>by rw[evO]<;>rfl
theorem qhm {T:Tb} {Γ:Env}:∀(ir:Te) {C:Ctx} {X:Cx} {fc:Option Scope} {sc:Scope} {x:Expr},XOk T Γ C X fc sc→qoT T ir fc sc x=true→PT X x (tT C (evT Γ ir))
 |.val e,C,X,fc,sc,x,I,h=>by
  unfold qoT at h
  simp only[Bool.and_eq_true,Bool.or_eq_true] at h
  obtain⟨h1,h2⟩:=qaf e I h.1
  rcases h.2 with q | q
  ·exact qmB (h2 q) fun ρ=>by rw[evT]
  ·exact qmB (qr3 I.K h1 (qs4 q)) fun ρ=>by rw[evT]
 |.bop c ts,C,X,fc,sc,x,I,h=>by
  unfold qoT at h
  split at h
  case h_2=>cases h
  simp only[Bool.and_eq_true,decide_eq_true_eq,Bool.not_eq_true'] at h
  obtain⟨⟨rfl,hx⟩,he⟩:=h
  exact qmB (qot c ts I he (by rintro rfl;cases hx)).pt fun ρ=>by rw[evT]
 |.not t,C,X,fc,sc,x,I,h=>by
  unfold qoT at h
  split at h
  case h_2=>cases h
  exact qmB (qsh (qhm t I h)) fun ρ=>by rw[evT]
theorem qot {T:Tb} {Γ:Env}:∀(c:Bool) (ir:Tes) {C:Ctx} {X:Cx} {fc:Option Scope} {sc:Scope} {xs:List Expr} {pos:Pos},XOk T Γ C X fc sc→qmC T ir fc sc xs=true→xs≠[]→PW X (.BoolOp (qoQ c) xs pos) (tT C (qg7 Γ c ir))
 |c,.nil,C,X,fc,sc,xs,pos,I,h,hn=>by
  unfold qmC at h
  cases xs with
  |nil=>exact absurd rfl hn
  |cons _ _=>cases h
 |c,.cons a es,C,X,fc,sc,xs,pos,I,h,hn=>by
  unfold qmC at h
  cases xs with
  |nil=>cases h
  |cons x xs =>
   simp only[Bool.and_eq_true] at h
   cases xs with
   |nil =>
    cases es with
    |nil=>exact qty (qtV (qhm a I h.1)) fun ρ=>by rw[qg7,qg7]
    |cons _ _=>have:=h.2;unfold qmC at this;cases this
   |cons y ys=>exact qty (qu4 (qhm a I h.1) (qot c es I h.2 (by simp))) fun ρ=>by rw[qg7]
theorem qiL {T:Tb} {Γ:Env}:∀(ir:Tes) {C:Ctx} {X:Cx} {fc:Option Scope} {sc:Scope} {xs:List Expr},XOk T Γ C X fc sc→qnl T ir fc sc xs=true→PTs X xs (tT C (qg7 Γ true ir))
 |.nil,C,X,fc,sc,xs,I,h=>by
  unfold qnl at h
  cases xs with
  |nil =>
   refine⟨fun pins s σ H Q J q=>pts_nil.run pins s σ H Q J ?_⟩
   obtain⟨ρ,P,N,S,q⟩:=q
   rw[qg7] at q
   exact q.now S.reg
  |cons _ _=>cases h
 |.cons t ts,C,X,fc,sc,xs,I,h=>by
  unfold qnl at h
  split at h
  case h_2=>cases h
  simp only[Bool.and_eq_true] at h
  cases ts with
  |cons _ _=>have:=h.2;cases this
  |nil =>
   have p:=qhm t I h.1
   refine⟨fun pins s σ H Q J q=>(pts_one p).run pins s σ H Q J ?_⟩
   obtain⟨ρ,P,N,S,q⟩:=q
   rw[qg7,qg7] at q
   refine⟨ρ,P,N,S,q.bind.mono fun k P1 N1 H1 e a1 h1=>?_⟩
   split at h1
   ·rename_i e;subst e;exact h1.now (S.adv a1).reg
   ·exact h1.now (S.adv a1).reg
theorem qkj {T:Tb} {Γ:Env}:∀(ir:Itx) {C:Ctx} {X:Cx} {fc:Option Scope} {sc:Scope} {t x:Expr},XOk T Γ C X fc sc→qoO T ir fc sc t x=true→PI X t x (tI C (evI Γ ir))
 |.any e,C,X,fc,sc,t,x,I,h=>by
  unfold qoO at h
  exact qjy (qq0 I.K (qaf e I h).1) fun ρ=>by rw[evI]
 |.rng es,C,X,fc,sc,t,x,I,h=>by
  unfold qoO at h
  split at h
  case h_2=>cases h
  rename_i r p xs q
  simp only[Bool.and_eq_true,decide_eq_true_eq] at h
  obtain⟨⟨⟨⟨rfl,hg⟩,he⟩,hs⟩,hl⟩:=h
  have m2:=I.blt "range" (by decide)
  have pa:=qdz es I he hs
  rcases hl with hl | hl | hl
  ·obtain⟨a,rfl⟩:=qr9 hl
   simp only[List.all_cons,Bool.and_eq_true] at hs
   exact qjy (qp3 (qcn I.sc hg) m2 pa (fun ρ r e=>qdj es ρ r _ he e) (qad hs.1)) fun ρ=>by rw[evI]
  ·obtain⟨a,b,rfl⟩:=qrC hl
   have hs':=hs
   simp only[List.all_cons,Bool.and_eq_true] at hs
   exact qjy (qpB (qcn I.sc hg) m2 pa (fun ρ r e=>qdj es ρ r _ he e) (by rw[qad hs.1,qad hs.2.1];rfl) (qad hs.2.1)) fun ρ=>by rw[evI]
  ·obtain⟨a,b,c,rfl⟩:=qm9 hl
   simp only[List.all_cons,Bool.and_eq_true] at hs
   exact qjy (qpo (qcn I.sc hg) m2 pa (fun ρ r e=>qdj es ρ r _ he e) (qad hs.1) (qex (by simp[hs.2.1,hs.2.2.1]))) fun ρ=>by rw[evI]
 |.zp a b,C,X,fc,sc,t,x,I,h=>by
  unfold qoO at h
  split at h
  case h_2=>cases h
  simp only[Bool.and_eq_true,decide_eq_true_eq] at h
  obtain⟨⟨⟨⟨⟨⟨rfl,hg⟩,ha⟩,hb⟩,hs⟩,hs2⟩,ht⟩:=h
  cases t<;>try cases ht
  exact qjy (qtC I.K (qcn I.sc hg) (I.blt _ (by decide)) (qaf a I ha).1 (qaf b I hb).1 (qad hs) (qad hs2) (qex (by simp[hs2]))) fun ρ=>by rw[evI]<;>rfl
 |.en a,C,X,fc,sc,t,x,I,h=>by
  unfold qoO at h
  split at h
  case h_2=>cases h
  simp only[Bool.and_eq_true,decide_eq_true_eq] at h
  obtain⟨⟨⟨⟨rfl,hg⟩,ha⟩,hs⟩,ht⟩:=h
  cases t<;>try cases ht
  exact qjy (qs2 I.K (qcn I.sc hg) (I.blt _ (by decide)) (qaf a I ha).1 (qad hs)) fun ρ=>by rw[evI]<;>rfl
 |.rv a,C,X,fc,sc,t,x,I,h=>by
  unfold qoO at h
  split at h
  case h_2=>cases h
  simp only[Bool.and_eq_true,decide_eq_true_eq] at h
  obtain⟨⟨⟨rfl,hg⟩,ha⟩,hs⟩:=h
  exact qjy (qsR I.K (qcn I.sc hg) (I.blt _ (by decide)) (qaf a I ha).1 (qad hs)) fun ρ=>by rw[evI]<;>rfl
 |.rvr a,C,X,fc,sc,t,x,I,h=>by
  unfold qoO at h
  split at h
  case h_2=>cases h
  simp only[Bool.and_eq_true,decide_eq_true_eq] at h
  obtain⟨⟨⟨⟨⟨rfl,rfl⟩,hg⟩,hg2⟩,ha⟩,hs⟩:=h
  exact qjy (qrd (qcn I.sc hg) (I.blt _ (by decide)) (qcn I.sc hg2) (I.blt _ (by decide)) (qaf a I ha).1 (qad hs)) fun ρ=>by rw[evI]<;>rfl
end
end Cm
namespace Cm
open PySem PySem.Spec PyProof.Rows L2
def swB (sc:Scope) (x:Str) (pn:Pos) (v:Expr):Bool:=match v with
 |.ListComp _ _ scope pos=>decide (sc.names.lookup x≠some .local)||(match sc.kind with
  |.function=>true
  |_=>false)&&decide (sc.names.lookup x=some .local)&&(pn.line == pos.line) && !(scope.names.any fun(n,k)=>n == x&&(k == .local||k == .cell))
 |.SetComp _ _ _ _=>false
 |.DictComp _ _ _ _ _=>false
 |_=>true
def qsF:Ex→Bool
 |.lc _ _ _ _ _=>true
 |.lcx _ _ _ _ _=>true
 |_=>false
def qvM:Expr→Bool
 |.Tuple _ _ _=>false
 |_=>true
def qwM (T:Tb) (sc:Scope):List Nat→List Expr→Nat→Bool
 |[],[],_=>true
 |i::is,.Name x p::es,l=>decide (T.N[i]? = some x)&&decide (sc.names.lookup x=some .local)&&(p.line == l)&&qwM T sc is es l
 |_,_,_=>false
def qlq (T:Tb) (sc:Scope):Tr→List Stmt→Bool
 |.ex e,ss=>match ss with
  |[.Expr v _]=>qaZ T e none sc v&&qei v
  |_=>false
 |.as j e,ss=>match ss with
  |[.Assign [.Name x pn] v _]=>decide (T.N[j]? = some x)&&tgB none sc x&&qaZ T e none sc v&&(if qsF e then swB sc x pn v else qei v)
  |_=>false
 |.iff t a b,ss=>match ss with
  |[.If c xs ys _]=>qoT T t none sc c&&qlq T sc a xs&&qlq T sc b ys
  |_=>false
def qn2 (T:Tb) (sc:Scope):Pth→Expr→Bool
 |.var j,e=>match e with
  |.Name x _=>decide (T.N[j]? = some x)&&qmU sc x&&nmB x
  |_=>false
 |.ix p k,e=>match e with
  |.Subscript a (.Constant (.int m) _ _) _=>decide (m=(k:Int))&&qn2 T sc p a
  |_=>false
def qmK (T:Tb) (sc:Scope):Ch1→Stmt→Bool
 |.clr p,s=>match s with
  |.Expr (.Call (.Attribute o mn apos) [] [] cpos) _=>decide (mn=("clear" : Str))&&qn2 T sc p o&&(apos.endLine == cpos.line)
  |_=>false
 |.app p e,s=>match s with
  |.Expr (.Call (.Attribute o mn apos) [y] [] cpos) _=>decide (mn=("append" : Str))&&qn2 T sc p o&&(apos.endLine == cpos.line)&&qaZ T e none sc y&&qai y
  |_=>false
 |.put p k e,s=>match s with
  |.Assign [.Subscript o (.Constant (.int m) _ _) _] v _=>decide (m=(k:Int))&&qn2 T sc p o&&qaZ T e none sc v
  |_=>false
def qph (T:Tb) (sc:Scope):List Ch1→List Stmt→Bool
 |[],[]=>true
 |c::cs,s::ss=>qmK T sc c s&&qph T sc cs ss
 |_,_=>false
def qhe (T:Tb) (sc:Scope):Ch→List Stmt→Bool
 |.nil,ss=>ss.isEmpty
 |.one c r,ss=>match ss with
  |s::ss=>qmK T sc c s&&qhe T sc r ss
  |[]=>false
 |.wlk l p b r,ss=>match ss with
  |.For (.Name x _) iter body [] _::ss=>decide (T.N[l]? = some x)&&tgB none sc x&&qn2 T sc p iter&&qph T sc b body&&qhe T sc r ss
  |_=>false
 |.ifs j b r,ss=>match ss with
  |.If (.Compare (.Name x _) [.IsNot] [.Constant .none _ _] _) body [] _::ss=>decide (T.N[j]? = some x)&&qmU sc x&&nmB x&&qhe T sc b body&&qhe T sc r ss
  |_=>false
def qrP (T:Tb) (sc:Scope) (i f:Nat) (es:Exs):Stmt→Bool
 |.Assign [.Name x _] (.Call (.Name g _) xs [] _) _=>decide (T.N[i]? = some x)&&tgB none sc x&&decide (T.fn[f]? = some (g,xs.length))&&glB sc g&&nmB g&&qbk T es none sc xs&&xs.all qai
 |_=>false
mutual
def qhH (T:Tb) (sc:Scope):Sm→Stmt→Bool
 |.nev,_=>true
 |.rse k,s=>match s with
  |.Raise (some (.Call (.Name x _) [.Constant (.str _) _ _] [] _)) none _=>decide (T.xk[k]? = some x)&&glB sc x&&nmB x
  |_=>false
 |.tryx k i j b,s=>match s with
  |.Try body [.ExceptHandler (some (.Name x _)) (some n) [.Assign [.Name m _] (.Name n2 _) _] _] [] [] _=>decide ((T.ck[k]?).map (·.1)=some x)&&glB sc x&&nmB x&&decide (T.N[i]? = some n)&&decide (T.N[j]? = some m)&&decide (n2=n)&&decide (sc.names.lookup n=some .local)&&decide (sc.names.lookup m=some .local)&&nmB n&&decide (i≠j)&&qlq T sc b body
  |_=>false
 |.asg i e,s=>match s with
  |.Assign [.Name x pn] v _=>decide (T.N[i]? = some x)&&tgB none sc x&&qaZ T e none sc v&&(if qsF e then swB sc x pn v else qei v)
  |_=>false
 |.own i e,s=>match s with
  |.Assign [.Name x pn] v _=>decide (T.N[i]? = some x)&&tgB none sc x&&qaZ T e none sc v&&(if qsF e then swB sc x pn v else qei v)
  |_=>false
 |.put i ix e,s=>match s with
  |.Assign [.Subscript (.Name x _) y _] v _=>decide (T.N[i]? = some x)&&qmU sc x&&nmB x&&qgw y&&qaZ T ix none sc y&&qaZ T e none sc v
  |_=>false
 |.app i e,s=>match s with
  |.Expr (.Call (.Attribute (.Name x _) mn apos) [y] [] cpos) _=>decide (T.N[i]? = some x)&&qmU sc x&&nmB x&&decide (mn=("append" : Str))&&qaZ T e none sc y&&qai y&&(apos.endLine == cpos.line)
  |_=>false
 |.clr i,s=>match s with
  |.Expr (.Call (.Attribute (.Name x _) mn apos) [] [] cpos) _=>decide (T.N[i]? = some x)&&qmU sc x&&nmB x&&decide (mn=("clear" : Str))&&(apos.endLine == cpos.line)
  |_=>false
 |.expr e,s=>match s with
  |.Expr v _=>qaZ T e none sc v&&qei v
  |_=>false
 |.ret e,s=>match s with
  |.Return (some v) _=>qaZ T e none sc v
  |_=>false
 |.retN,s=>match s with
  |.Return none _=>true
  |_=>false
 |.pas,s=>match s with
  |.Pass _=>true
  |.Expr (.Constant (.str _) _ _) _=>true
  |_=>false
 |.brk,s=>match s with
  |.Break _=>true
  |_=>false
 |.cnt,s=>match s with
  |.Continue _=>true
  |_=>false
 |.iff c a b,s=>match s with
  |.If t xs ys _=>qoT T c none sc t&&qah T sc a xs&&qah T sc b ys
  |_=>false
 |.for it tg b,s=>match s with
  |.For t iter body [] _=>qoO T it none sc t iter&&qm6 T none sc tg t&&qah T sc b body&&qjJ iter
  |_=>false
 |.apop i j ix,s=>match s with
  |.Expr (.Call (.Attribute (.Name x _) mn apos) [.Call (.Attribute (.Name y _) mn2 apos2) [z] [] cpos2] [] cpos) _=>decide (T.N[i]? = some x)&&qmU sc x&&nmB x&&decide (mn=("append" : Str))&&(apos.endLine == cpos.line)&&decide (T.N[j]? = some y)&&qmU sc y&&nmB y&&decide (mn2=("pop" : Str))&&(apos2.endLine == cpos2.line)&&qaZ T ix none sc z&&qai z
  |_=>false
 |.fset f e,s=>match s with
  |.Assign [.Attribute (.Name x _) fn _] v _=>decide (T.N[0]? = some x)&&qmU sc x&&nmB x&&decide (T.fs[f]? = some fn)&&qaZ T e none sc v
  |_=>false
 |.row i es,s=>match s with
  |.Assign [.Name x _] (.List xs _) _=>decide (T.N[i]? = some x)&&tgB none sc x&&qbk T es none sc xs&&xs.all qai
  |_=>false
 |.whl c b,s=>match s with
  |.While t body [] _=>qoT T c none sc t&&qah T sc b body
  |_=>false
def qah (T:Tb) (sc:Scope):Sms→List Stmt→Bool
 |.nil,ss=>ss.isEmpty
 |.cons s ir,ss=>match ss with
  |st::ss=>qhH T sc s st&&qah T sc ir ss
  |[]=>false
 |.frz _ ir,ss=>qah T sc ir ss
 |.hav i f es rd cs ir,ss=>match ss with
  |st::ss=>qrP T sc i f es st&&qah T sc rd (ss.take rd.len)&&qhe T sc cs ((ss.drop rd.len).take cs.len)&&qah T sc ir ((ss.drop rd.len).drop cs.len)
  |[]=>false
end
theorem qqa {T:Tb} {own:List Nat} {it:Itx} {tg:List Nat} {cnd:Tes} {e':Ex} {fc:Option Scope} {sc:Scope} {v:Expr} (h:qaZ T (.lc own it tg cnd e') fc sc v=true):∃elt tgt iter ifs scope p,v=.ListComp elt [⟨tgt,iter,ifs,0⟩] scope p:=by
 unfold qaZ at h
 split at h
 case h_2=>cases h
 exact⟨_,_,_,_,_,_,rfl⟩
theorem qn9 {T:Tb} {own:List Nat} {it:Itx} {tg:List Nat} {cnd:Tes} {e':Ex} {fc:Option Scope} {sc:Scope} {v:Expr} (h:qaZ T (.lcx own it tg cnd e') fc sc v=true):∃elt tgt iter ifs scope p,v=.ListComp elt [⟨tgt,iter,ifs,0⟩] scope p:=by
 unfold qaZ at h
 split at h
 case h_2=>cases h
 exact⟨_,_,_,_,_,_,rfl⟩
theorem qlP {elt:Expr} {gs:List Comprehension} {scope:Scope} {pos py:Pos} {y:Str} {l:Nat} {env:PySem.Env} (hy:env.scope.names.lookup y≠some .local):swapsWith (.ListComp elt gs scope pos) (some (.Name y py)) l env=pure false:=by
 have ky:(env.kindOf y == some .local)=false:=beq_eq_false_iff_ne.mpr hy
 unfold swapsWith
 simp only[ky]
 simp
section
variable {T:Tb} {Γ:Env} {C:Ctx} {X:Cx} {sc:Scope}
theorem qli {i:Nat} {e:Ex} {x:Str} {pn pos:Pos} {v:Expr} (I:XOk T Γ C X none sc) (hi:T.N[i]? = some x) (ht:tgB none sc x=true) (hv:qaZ T e none sc v=true) (hw:(if qsF e then swB sc x pn v else qei v)=true):PS X (.Assign [.Name x pn] v pos) (tAsg (tE C (ev Γ e)) (gName i)):=by
 obtain⟨h1,h2⟩:=qmP I ht
 cases e with
 |lc own it tg cnd e' =>
  obtain⟨elt,tgt,iter,ifs,scope,p,rfl⟩:=qqa hv
  have hv0:=hv
  unfold qaZ at hv
  simp only[Bool.and_eq_true] at hv
  obtain⟨⟨⟨⟨⟨⟨hb,hi'⟩,ht'⟩,hsub⟩,hc⟩,he⟩,hs⟩:=hv
  simp only[qsF,if_true,swB,Bool.or_eq_true,Bool.and_eq_true,decide_eq_true_eq,Bool.not_eq_true'] at hw
  rcases hw with hw | hw
  ·exact ps_set I.nd (by rw[I.nm];exact hi) h1 (qaf (.lc own it tg cnd e') I hv0).1 (qlP (by rw[I.sc];exact hw)) h2
  obtain⟨⟨⟨hk,hl⟩,hline⟩,hany⟩:=hw
  have hsub':∀i∈tg,i∈own:=fun i hi=>by simpa using List.all_eq_true.mp hsub i hi
  have hb':BlkOk X.N X.env.scope scope (own.map fun i=>(T.N.getD i Str.empty,i)):=by
   rw[I.nm,I.sc];exact blkOk_by hb
  have ho:((own.map fun i=>(T.N.getD i Str.empty,i)).map (·.2))=own:=by
   rw[List.map_map]
   exact List.map_id' own
  have hk':X.env.scope.kind=.function:=by
   rw[I.sc]
   cases e:sc.kind<;>simp_all
  have hl':X.env.scope.names.lookup x=some .local:=by rw[I.sc];exact hl
  have lc:=ps_setLc (i:=i) (y:=x) (py:=pn) (spos:=pos) (elt:=elt) (pos:=p) I.calm I.nd (by rw[I.nm];exact hi) hl' (sw_true hk' hl' hline hany) (qkj it I hi') hb' (fun s H Cd cl fp=>qfw (I.blk (s:=s) (H:=H) (cl:=cl) (A:=Cd) (fp:=fp)) ht') (fun s H Cd cl fp=>qiL cnd (I.blk (s:=s) (H:=H) (cl:=cl) (A:=Cd) (fp:=fp)) hc) (fun s H Cd cl fp=>(qaf e' (I.blk (s:=s) (H:=H) (cl:=cl) (A:=Cd) (fp:=fp)) he).1) (qfP hs)
  rw[ho] at lc
  refine qat lc fun D σ H q=>?_
  have eg:(ev Γ (.lc own it tg cnd e'))=gLc own tg (evI Γ it) (qg7 Γ true cnd) (ev Γ e'):=by funext ρ;rw[ev]<;>rfl
  unfold tAsg at q ⊢
  rw[eg] at q
  exact qqs hsub' q
 |lcx own it tg cnd e' =>
  obtain⟨elt,tgt,iter,ifs,scope,p,rfl⟩:=qn9 hv
  have hv0:=hv
  unfold qaZ at hv
  simp only[Bool.and_eq_true] at hv
  obtain⟨⟨⟨⟨⟨⟨⟨hb,hi'⟩,ht'⟩,hsub⟩,hc⟩,he⟩,hs⟩,_⟩:=hv
  simp only[qsF,if_true,swB,Bool.or_eq_true,Bool.and_eq_true,decide_eq_true_eq,Bool.not_eq_true'] at hw
  rcases hw with hw | hw
  ·exact ps_set I.nd (by rw[I.nm];exact hi) h1 (qaf (.lcx own it tg cnd e') I hv0).1 (qlP (by rw[I.sc];exact hw)) h2
  obtain⟨⟨⟨hk,hl⟩,hline⟩,hany⟩:=hw
  have hsub':∀i∈tg,i∈own:=fun i hi=>by simpa using List.all_eq_true.mp hsub i hi
  have hb':BlkOk X.N X.env.scope scope (own.map fun i=>(T.N.getD i Str.empty,i)):=by
   rw[I.nm,I.sc];exact blkOk_by hb
  have ho:((own.map fun i=>(T.N.getD i Str.empty,i)).map (·.2))=own:=by
   rw[List.map_map]
   exact List.map_id' own
  have hk':X.env.scope.kind=.function:=by
   rw[I.sc]
   cases e:sc.kind<;>simp_all
  have hl':X.env.scope.names.lookup x=some .local:=by rw[I.sc];exact hl
  have lc:=qoJ (i:=i) (y:=x) (py:=pn) (spos:=pos) (elt:=elt) (pos:=p) I.tk (I.fr rfl) I.calm I.nd (by rw[I.nm];exact hi) hl' (sw_true hk' hl' hline hany) (qkj it I hi') hb' (fun s H Cd cl fp=>qfw (I.blk (s:=s) (H:=H) (cl:=cl) (A:=Cd) (fp:=fp)) ht') (fun σ s H Cd cl fp tk=>qiL cnd (I.blkx (σ0:=σ) (s:=s) (H:=H) (cl:=cl) (A:=Cd) (fp:=fp) tk) hc) (fun σ s H Cd cl fp tk=>(qaf e' (I.blkx (σ0:=σ) (s:=s) (H:=H) (cl:=cl) (A:=Cd) (fp:=fp) tk) he).1) (qfP hs)
  rw[ho] at lc
  refine qat lc fun D σ H q=>?_
  have eg:(ev Γ (.lcx own it tg cnd e'))=qvJ own tg (evI Γ it) (qg7 Γ true cnd) (ev Γ e'):=by funext ρ;rw[ev]<;>rfl
  unfold tAsg at q ⊢
  rw[eg] at q
  exact qnC hsub' q
 |_ =>
  have hc:qei v=true:=hw
  exact ps_set I.nd (by rw[I.nm];exact hi) h1 (qaf _ I hv).1 (qg2 hc) h2
theorem ql6 {x y:Expr} {p:Pos} {v:Expr} {l:Nat} {env:PySem.Env}:swapsWithSole [.Subscript x y p] v l env=pure false:=by
 cases v<;>rfl
theorem qib {x y:Expr} {p:Pos} {v:Expr} {env:PySem.Env}:swappedStores [.Subscript x y p] v env=pure none:=by
 cases v<;>rfl
theorem qnx {x y:Expr} {p:Pos} {env:PySem.Env} (h:qgw y=true) (v:Value):assign (.Subscript x y p) env v=(do
   let ov ←holding [v] (eval x env)
   let iv ←holding [v,ov] (eval y env)
   standAt p
   holding [v,ov,iv] (setItem ov iv v)
   release [v,ov,iv] []):=by
 cases y<;>first | rfl | cases h
theorem qkJ {e:Expr} {env:PySem.Env} {cpos:Pos} (h:qai e=true):((backTo cpos (starEach [e] env)).all (fun x=>!x.1)&&(backToKw cpos (keywordEach [] env)).all (fun x=>x.1.isSome)
   && decide ([e].length+([]:List Keyword).length+(if ([]:List Keyword).isEmpty then 0 else 1)<30))=true:=by
 rw[qad h];rfl
end
section
variable {T:Tb} {Γ:Env} {C:Ctx} {X:Cx} {sc:Scope}
end
theorem qlt {T:Tb} {Γ:Env} {sc:Scope}:∀(b:Tr) {C:Ctx} {X:Cx} {ss:List Stmt},XOk T Γ C X none sc→qlq T sc b ss=true→PSs X ss (tR C (trB Γ b))
 |.ex e,C,X,ss,I,h=>by
  unfold qlq at h
  split at h
  case h_2=>cases h
  simp only[Bool.and_eq_true] at h
  refine qa3 (pss_cons (ps_expr (qaf e I h.1).1 (qg2 h.2)) pss_nil) fun D σ H q=>?_
  obtain⟨ρ,P,N,S,h⟩:=q
  have h:res C σ P N H ((ev Γ e ρ).bind fun _=>.ok ρ) fun ρ' _ _ H'=>∀σ' P2 N2,Same P P2→Same N N2→SR C P2 N2 H' ρ' σ'→D.nx σ' H':=by rw[trB] at h;exact h
  exact⟨ρ,P,N,S,h.bind.mono fun x P1 N1 H1 _ a1 h1 v rv=>(res.now (S.adv a1).reg h1) σ P1 N1 a1.pp a1.nn (S.adv a1)⟩
 |.as j e,C,X,ss,I,h=>by
  unfold qlq at h
  split at h
  case h_2=>cases h
  simp only[Bool.and_eq_true,decide_eq_true_eq] at h
  obtain⟨⟨⟨h1,h2⟩,h3⟩,h4⟩:=h
  refine qa3 (pss_cons (qli I h1 h2 h3 h4) pss_nil) fun D σ H q=>?_
  obtain⟨ρ,P,N,S,h⟩:=q
  rw[trB] at h
  refine⟨ρ,P,N,S,h.bind.mono fun x P1 N1 H1 _ a1 h1 v rv=>?_⟩
  cases x with
  |brw ds b=>exact h1.elim
  |val d b =>
   exact(res.now (S.adv a1).reg h1) _ P1 N1 a1.pp a1.nn ((S.adv a1).setV rv)
  |fre ds b =>
   obtain⟨N2,a2,r2⟩:=rv.freeze a1
   exact(res.now (S.adv a1).reg h1) _ P1 N2 a2.pp a2.nn ((S.adv a2).setV r2)
 |.iff t a b,C,X,ss,I,h=>by
  unfold qlq at h
  split at h
  case h_2=>cases h
  simp only[Bool.and_eq_true] at h
  refine qa3 (pss_cons (ps_if (qhm t I h.1.1) (qlt a I h.1.2) (qlt b I h.2)) pss_nil) fun D σ H q=>?_
  obtain⟨ρ,P,N,S,h⟩:=q
  rw[trB] at h
  refine⟨ρ,P,N,S,h.bind.mono fun k P1 N1 H1 _ a1 h1=>?_⟩
  cases k with
  |true =>
   rw[if_pos rfl] at h1
   exact⟨ρ,P1,N1,S.adv a1,h1.mono fun ρ' _ _ H' _ _ q σ' P2 N2 e1 e2 S2=>q σ' P2 N2 (a1.pp.trans e1) (a1.nn.trans e2) S2⟩
  |false =>
   rw[if_neg Bool.false_ne_true] at h1
   exact⟨ρ,P1,N1,S.adv a1,h1.mono fun ρ' _ _ H' _ _ q σ' P2 N2 e1 e2 S2=>q σ' P2 N2 (a1.pp.trans e1) (a1.nn.trans e2) S2⟩
end Cm
namespace Cm
open PySem PySem.Spec PyProof.Rows L2
abbrev TL:=Addr→Option (List V)
def LT (T:TL):Addr→List V→Prop:=fun a xs=>T a=some xs
def qn0:V→Bool
 |.ref _=>true
 |_=>false
def clV (xs:List V):Nat:=if xs.isEmpty then 0 else if xs.any qn0 then 2 else 1
section
variable {G:Glo} {P:Hp} {LN:Addr→List V→Prop}
theorem qnn:∀{d:D} {v:V},Rep G P LN d v→qn0 v=d.isRef:=fun {d v} h=>by
 cases d with
 |non=>cases h;rfl
 |bl b=>cases h;rfl
 |int i=>cases h;rfl
 |str s=>cases h;rfl
 |lst ds=>obtain⟨a,xs,rfl,_⟩:=h;rfl
 |tup ds=>obtain⟨a,xs,rfl,_⟩:=h;rfl
 |ins c ds=>obtain⟨a,dx,xs,rfl,_⟩:=h;rfl
 |exc c fs=>obtain⟨_,a,rfl,_⟩:=h;rfl
theorem qmg:∀{ds:List D} {vs:List V},Reps G P LN ds vs→vs.any qn0=ds.any D.isRef
 |[],_,h=>by cases h;rfl
 |d::ds,vs,⟨v,r,e,h1,h2⟩=>by
  subst e
  rw[List.any_cons,List.any_cons,qnn h1,qmg h2]
theorem qeZ {ds:List D} {vs:List V} (h:Reps G P LN ds vs):clV vs=clD ds:=by
 unfold clV clD
 rw[qmg h]
 have hl:=h.length
 have:vs.isEmpty=ds.isEmpty:=by
  cases vs<;>cases ds<;>first | rfl | cases hl
 rw[this]
end
section
variable (C:Ctx)
structure Raw (P N H:Hp) (ρ:List Sl) (σ:L2.St) (T:TL) (Z:Zs) (τ:List (Nat × D)):Prop where
 sr:SR C P N H ρ σ
 h:∀a xs,T a=some xs→∃ys,H a=some (.lst ys)∧(clV xs∉Z.1→ys=xs)∧ys.length≤xs.length+Z.2
 o:∀a xs,T a=some xs→P a=none∧N a=none∧C.B a=none
 ow:∀(j:Nat) (ds:List Cm.D) (b:Bool) (p:Addr),ρ[j]? = some (.own ds b)→σ[j]? = some (some (.ref p))→T p=none
 tr:∀(j:Nat) (d:Cm.D),(j,d)∈τ→ρ[j]? = some .non∧∃v,σ[j]? = some (some v)∧Rep C.G P (LT T) d v
 nr:∀(j:Nat) (s:Sl),ρ[j]? = some s→s.isW=false
end
section
variable {C:Ctx} {P N H P' N' H':Hp} {ρ:List Sl} {σ:L2.St} {T:TL} {Z:Zs} {τ:List (Nat × D)}
theorem Raw.sub {τ':List (Nat × D)} (h:Raw C P N H ρ σ T Z τ) (hs:∀e∈τ',e∈τ):Raw C P N H ρ σ T Z τ':=⟨h.sr,h.h,h.o,h.ow,fun j d m=>h.tr j d (hs _ m),h.nr⟩
theorem Raw.adv (h:Raw C P N H ρ σ T Z τ) (a:Adv P N H P' N' H'):Raw C P' N' H' ρ σ T Z τ where
 sr:=h.sr.adv a
 h:=fun b xs e=>by
  obtain⟨ys,h1,h2⟩:=h.h b xs e
  exact⟨ys,a.hh _ _ h1,h2⟩
 o:=fun b xs e=>by
  obtain⟨ys,h1,_⟩:=h.h b xs e
  obtain⟨o1,o2,o3⟩:=h.o b xs e
  exact⟨a.off h1 o1,a.offN h1 o2,o3⟩
 ow:=h.ow
 tr:=fun j d m=>by
  obtain⟨h1,v,h2,h3⟩:=h.tr j d m
  exact⟨h1,v,h2,Rep.mono a.pp d v (fun _ _ q=>q) h3⟩
 nr:=h.nr
theorem Raw.write {Z':Zs} {a:Addr} {xs ys:List V} (h:Raw C P N H ρ σ T Z τ) (e:T a=some xs) (hz:∀k,k∈Z.1→k∈Z'.1) (hc:clV xs∈Z'.1) (hn:Z.2≤Z'.2) (hl:ys.length≤xs.length+Z'.2):Raw C P N (upd H a (.lst ys)) ρ σ T Z' τ:=by
 obtain⟨o1,o2,o3⟩:=h.o a xs e
 obtain⟨zs,z1,_⟩:=h.h a xs e
 refine⟨⟨⟨qaU h.sr.reg.pH o1,qaU h.sr.reg.nH o2,qaU h.sr.reg.bH o3,h.sr.reg.rB,h.sr.reg.p0,h.sr.reg.pn,h.sr.reg.nw,h.sr.reg.dj⟩,h.sr.len,fun j s ej=>?_,h.sr.ap,h.sr.ad,AR.no h.nr⟩,fun b us eb=>?_,h.o,h.ow,h.tr,h.nr⟩
 ·obtain⟨o,y1,y2⟩:=h.sr.sl j s ej
  refine⟨o,y1,?_⟩
  cases s with
  |non=>trivial
  |val d b=>exact y2
  |own es c =>
   obtain⟨r,vs,rfl,y4,y5⟩:=y2
   have hr:r≠a:=fun er=>by
    have:=h.ow j es c r ej y1
    rw[er,e] at this;cases this
   exact⟨r,vs,rfl,by rw[upd_ne hr];exact y4,y5⟩
  |slf c fs =>
   obtain⟨r,dx,vs,y3,y4,y5⟩:=y2
   have hr:r≠a:=fun er=>by rw[er,z1] at y4;cases y4
   exact⟨r,dx,vs,y3,by rw[upd_ne hr];exact y4,y5⟩
  |fxd d k=>exact y2
  |dct m c =>
   obtain⟨r,es,y3,y4,y5⟩:=y2
   have hr:r≠a:=fun er=>by rw[er,z1] at y4;cases y4
   exact⟨r,es,y3,by rw[upd_ne hr];exact y4,y5⟩
  |row dss=>have:=h.nr j _ ej;cases this
 ·by_cases q:b=a
  ·subst q
   rw[e] at eb;cases eb
   exact⟨ys,upd_same,fun hk=>absurd hc hk,hl⟩
  ·obtain⟨vs,h1,h2,h3⟩:=h.h b us eb
   exact⟨vs,by rw[upd_ne q];exact h1,fun hk=>h2 fun hk'=>hk (hz _ hk'),by omega⟩
theorem Raw.bind {l:Nat} {d:D} {v:V} (h:Raw C P N H ρ σ T Z τ) (hl:ρ[l]? = some .non) (r:Rep C.G P (LT T) d v):Raw C P N H ρ (σ.set l (some v)) T Z ((l,d)::drp l τ) where
 sr:=by
  refine⟨h.sr.reg,by rw[List.length_set];exact h.sr.len,fun j s ej=>?_,fun i j p ds b es c e1 e2 e3 e4=>?_,h.sr.ad.sub fun j m b e=>⟨List.getElem?_set_ne (fun q=>by subst q;rw[hl] at e;cases e),_,_,e⟩,AR.no h.nr⟩
  ·by_cases q:l=j
   ·subst q
    rw[hl] at ej;cases ej
    have hlt:l<σ.length:=by rw[h.sr.len];exact(List.getElem?_eq_some_iff.mp hl).1
    exact⟨some v,List.getElem?_set_self hlt,trivial⟩
   ·rw[List.getElem?_set_ne q];exact h.sr.sl j s ej
  ·have n1:l≠i:=fun q=>by subst q;rw[hl] at e1;cases e1
   have n2:l≠j:=fun q=>by subst q;rw[hl] at e2;cases e2
   rw[List.getElem?_set_ne n1] at e3
   rw[List.getElem?_set_ne n2] at e4
   exact h.sr.ap i j p ds b es c e1 e2 e3 e4
 h:=h.h
 o:=h.o
 ow:=fun j ds b p e1 e2=>by
  have n1:l≠j:=fun q=>by subst q;rw[hl] at e1;cases e1
  rw[List.getElem?_set_ne n1] at e2
  exact h.ow j ds b p e1 e2
 tr:=fun j e m=>by
  rcases List.mem_cons.mp m with m | m
  ·cases m
   have hlt:l<σ.length:=by rw[h.sr.len];exact(List.getElem?_eq_some_iff.mp hl).1
   exact⟨hl,v,List.getElem?_set_self hlt,r⟩
  ·have m':=List.mem_filter.mp m
   have n1:l≠j:=fun q=>by subst q;simp at m'
   obtain⟨h1,u,h2,h3⟩:=h.tr j e m'.1
   exact⟨h1,u,by rw[List.getElem?_set_ne n1];exact h2,h3⟩
 nr:=h.nr
theorem qfO {j:Nat} {d:D}:∀{τ:List (Nat × D)},τ.lookup j=some d→(j,d)∈τ
 |[],h=>by cases h
 |(k,e)::τ,h=>by
  rw[List.lookup_cons] at h
  by_cases q:j=k
  ·subst q
   simp at h
   subst h
   exact List.mem_cons_self
  ·have:(j == k)=false:=by simpa using q
   rw[this] at h
   exact List.mem_cons_of_mem _ (qfO h)
def tP (C:Ctx) (p:Pth):TE:=fun σ H Q=>∃P N ρ T Z τ d,Raw C P N H ρ σ T Z τ∧qpP τ Z p=some d∧∀v,Rep C.G P (LT T) d v→Q v H
end
theorem qnz {α:Type} {xs:List α} {k:Nat} {x:α} (h:xs[k]? = some x):atI xs (k:Int)=some x:=by
 have hk:=(List.getElem?_eq_some_iff.mp h).1
 unfold atI ixN
 have h1:(0:Int)≤k∧(k:Int)<xs.length:=⟨by omega,by omega⟩
 simp[h1,h]
mutual
theorem qkP {Γ:Env}:∀(e:Ex),qfm e=true→∀ρ,∃er,ev Γ e ρ=.ok er∧er.isB=false
 |.cint i,_,ρ=>⟨_,by rw[ev];rfl,rfl⟩
 |.cstr s,_,ρ=>⟨_,by rw[ev];rfl,rfl⟩
 |.cbl b,_,ρ=>⟨_,by rw[ev];rfl,rfl⟩
 |.cnon,_,ρ=>⟨_,by rw[ev];rfl,rfl⟩
 |.tup es,h,ρ=>by
  rw[qfm] at h
  obtain⟨r,e1,e2⟩:=qi1 es h ρ
  refine⟨.val (.tup (r.map ER.d)) (r.all ER.b),?_,rfl⟩
  rw[ev,e1,RE.bind_ok,dis,if_pos e2]
 |.lst es,h,ρ=>by
  rw[qfm] at h
  obtain⟨r,e1,e2⟩:=qi1 es h ρ
  refine⟨.fre (r.map ER.d) (r.all ER.b),?_,rfl⟩
  rw[ev,e1,RE.bind_ok,dis,if_pos e2]
 |.nev,h,_=>by simp[qfm] at h
 |.var _,h,_=>by simp[qfm] at h
 |.glo _,h,_=>by simp[qfm] at h
 |.bin _ _ _,h,_=>by simp[qfm] at h
 |.cmp _ _ _,h,_=>by simp[qfm] at h
 |.chn _ _ _ _ _,h,_=>by simp[qfm] at h
 |.bop _ _,h,_=>by simp[qfm] at h
 |.neg _,h,_=>by simp[qfm] at h
 |.idx _ _,h,_=>by simp[qfm] at h
 |.slc _ _ _,h,_=>by simp[qfm] at h
 |.call _ _,h,_=>by simp[qfm] at h
 |.pri _ _,h,_=>by simp[qfm] at h
 |.lrng _,h,_=>by simp[qfm] at h
 |.mth _ _ _,h,_=>by simp[qfm] at h
 |.bm1 _ _ _,h,_=>by simp[qfm] at h
 |.fld _ _,h,_=>by simp[qfm] at h
 |.isi _ _,h,_=>by simp[qfm] at h
 |.lc _ _ _ _ _,h,_=>by simp[qfm] at h
 |.lcx _ _ _ _ _,h,_=>by simp[qfm] at h
 |.lset _,h,_=>by simp[qfm] at h
 |.new _ _,h,_=>by simp[qfm] at h
 |.sfd _ _,h,_=>by simp[qfm] at h
 |.isc _ _,h,_=>by simp[qfm] at h
theorem qi1 {Γ:Env}:∀(es:Exs),qn7 es=true→∀ρ,∃r,evs Γ es ρ=.ok r∧r.all ER.isV=true
 |.nil,_,ρ=>⟨[],by rw[evs],rfl⟩
 |.cons e es,h,ρ=>by
  rw[qn7,Bool.and_eq_true] at h
  obtain⟨x,e1,e2⟩:=qkP e h.1 ρ
  obtain⟨r,e3,e4⟩:=qi1 es h.2 ρ
  refine⟨x.frz::r,by rw[evs,e1,RE.bind_ok,e3,RE.bind_ok],?_⟩
  rw[List.all_cons,e4,Bool.and_true]
  cases x<;>first | rfl | cases e2
end
theorem qoH {G:Glo} {P:Hp} {LN:Addr→List V→Prop} {d:D} {v:V} (h:Rep G P LN d v):d.isNon=decide (v=.non):=by
 cases d with
 |non=>cases h;rfl
 |bl b=>cases h;rfl
 |int i=>cases h;rfl
 |str s=>cases h;rfl
 |lst ds=>obtain⟨a,xs,rfl,_⟩:=h;rfl
 |tup ds=>obtain⟨a,xs,rfl,_⟩:=h;rfl
 |ins c ds=>obtain⟨a,dx,xs,rfl,_⟩:=h;rfl
 |exc c fs=>obtain⟨_,a,rfl,_⟩:=h;rfl
section
variable {T:Tb} {Γ:Env} {C:Ctx} {X:Cx} {sc:Scope}
theorem qfB:∀{p:Pth} {e:Expr},qn2 T sc p e=true→qjJ e=true∧qmn e=true
 |.var j,e,h=>by
  unfold qn2 at h
  split at h
  ·exact⟨rfl,rfl⟩
  ·cases h
 |.ix p k,e,h=>by
  unfold qn2 at h
  split at h
  ·exact⟨rfl,rfl⟩
  ·cases h
theorem qjA (I:XOk T Γ C X none sc):∀(p:Pth) {e:Expr},qn2 T sc p e=true→PE X e (tP C p)
 |.var j,e,h=>by
  unfold qn2 at h
  split at h
  case h_2=>cases h
  simp only[Bool.and_eq_true,decide_eq_true_eq] at h
  obtain⟨⟨h1,h2⟩,h3⟩:=h
  obtain⟨n1,n2⟩:=qd5 h3
  refine qal (pe_var (i:=j) (by rw[I.nm];exact h1) (qeV I.sc h2) n1 n2) fun σ H Q q=>?_
  obtain⟨P,N,ρ,TT,Z,τ,d,R,e,k⟩:=q
  obtain⟨_,v,e2,r⟩:=R.tr j d (qfO (by simpa[qpP] using e))
  exact⟨v,e2,k v r⟩
 |.ix p k,e,h=>by
  unfold qn2 at h
  split at h
  case h_2=>cases h
  simp only[Bool.and_eq_true,decide_eq_true_eq] at h
  obtain⟨rfl,h2⟩:=h
  refine qal (pe_ix ix_seq (qjA I p h2) pe_int (fun _ _=>rfl)) fun σ H Q q=>?_
  obtain⟨P,N,ρ,TT,Z,τ,d,R,e,kk⟩:=q
  rw[qpP] at e
  split at e
  ·rename_i ds e1
   refine⟨P,N,ρ,TT,Z,τ,_,R,e1,fun v r=>?_⟩
   obtain⟨a,xs,rfl,z1,z2⟩:=r
   obtain⟨u,q1,q2⟩:=z2.get e
   exact .inr (.inl ⟨a,xs,k,u,rfl,rfl,I.K ▸ Same.seqT R.sr.reg.pH z1,qnz q1,kk u q2⟩)
  ·rename_i ds e1
   split at e
   ·cases e
   ·rename_i hz
    refine⟨P,N,ρ,TT,Z,τ,_,R,e1,fun v r=>?_⟩
    obtain⟨a,xs,rfl,z1,z2⟩:=r
    obtain⟨u,q1,q2⟩:=z2.get e
    obtain⟨ys,y1,y2,_⟩:=R.h a xs z1
    have:=y2 (by rw[qeZ z2];exact hz)
    subst this
    exact .inl ⟨a,ys,k,u,rfl,rfl,.inl (.inl y1),qnz q1,kk u q2⟩
  ·cases e
theorem qnT {τ:List (Nat × D)} {Z Z':Zs} {c:Ch1} (h:qmt τ Z c=some Z'):(∀k,k∈Z.1→k∈Z'.1)∧Z.2≤Z'.2:=by
 cases c with
 |clr p =>
  simp only[qmt] at h
  split at h
  ·cases h;exact⟨fun k hk=>List.mem_cons_of_mem _ hk,Nat.le_refl _⟩
  ·cases h
 |app p e =>
  simp only[qmt] at h
  split at h
  ·split at h
   ·cases h;exact⟨fun k hk=>List.mem_cons_of_mem _ hk,Nat.le_succ _⟩
   ·cases h
  ·cases h
 |put p k e =>
  simp only[qmt] at h
  split at h
  ·split at h
   ·cases h
   ·split at h
    ·cases h;exact⟨fun k hk=>List.mem_cons_of_mem _ hk,Nat.le_refl _⟩
    ·cases h
  ·cases h
theorem qi8 {τ:List (Nat × D)}:∀{cs:List Ch1} {Z Z':Zs},qoF τ cs Z=some Z'→(∀k,k∈Z.1→k∈Z'.1)∧Z.2≤Z'.2
 |[],Z,Z',h=>by cases h;exact⟨fun _ h=>h,Nat.le_refl _⟩
 |c::cs,Z,Z',h=>by
  rw[qoF] at h
  cases e:qmt τ Z c with
  |none=>rw[e] at h;cases h
  |some Z1 =>
   rw[e] at h
   obtain⟨a1,a2⟩:=qnT e
   obtain⟨b1,b2⟩:=qi8 (cs:=cs) h
   exact⟨fun k hk=>b1 k (a1 k hk),Nat.le_trans a2 b2⟩
theorem qhf {f:D→Zs→Option Zs} (hf:∀d Z Z',f d Z=some Z'→(∀k,k∈Z.1→k∈Z'.1)∧Z.2≤Z'.2):∀{ds:List D} {Z Z':Zs},qpL f ds Z=some Z'→(∀k,k∈Z.1→k∈Z'.1)∧Z.2≤Z'.2
 |[],Z,Z',h=>by cases h;exact⟨fun _ h=>h,Nat.le_refl _⟩
 |d::ds,Z,Z',h=>by
  rw[qpL] at h
  cases e:f d Z with
  |none=>rw[e] at h;cases h
  |some Z1 =>
   rw[e] at h
   obtain⟨a1,a2⟩:=hf _ _ _ e
   obtain⟨b1,b2⟩:=qhf hf (ds:=ds) h
   exact⟨fun k hk=>b1 k (a1 k hk),Nat.le_trans a2 b2⟩
def tC1 (C:Ctx) (c:Ch1):TS:=fun D σ H=>∃P N ρ T Z τ Z',Raw C P N H ρ σ T Z τ∧qmt τ Z c=some Z'∧∀P' N' H',Raw C P' N' H' ρ σ T Z' τ→L2.Same P P'→L2.Same N N'→D.nx σ H'
theorem qit {G:Glo} {P:Hp} {LN:Addr→List V→Prop} {ds:List D} {v:V} (h:Rep G P LN (.lst ds) v):∃a xs,v=.ref a∧LN a xs∧Reps G P LN ds xs:=h
theorem qnH (I:XOk T Γ C X none sc):∀(c:Ch1) {s:Stmt},qmK T sc c s=true→PS X s (tC1 C c)
 |.clr p,s,h=>by
  simp only[qmK] at h
  split at h
  case h_2=>cases h
  simp only[Bool.and_eq_true,decide_eq_true_eq] at h
  obtain⟨⟨rfl,h2⟩,h3⟩:=h
  refine qat (ps_expr (pe_bm0 PySem.F.plainAttrs_list PySem.F.slot_list_clear PySem.F.type_list_clear mt_clear (qjA I p h2) (qhi (qfB h2).2) h3) rfl) fun D σ H q=>?_
  obtain⟨P,N,ρ,TT,Z,τ,Z',R,e,k⟩:=q
  simp only[qmt] at e
  split at e
  ·rename_i ds e1
   cases e
   refine⟨P,N,ρ,TT,Z,τ,_,R,e1,fun v r=>?_⟩
   obtain⟨a,xs,rfl,z1,z2⟩:=qit r
   obtain⟨ys,y1,_⟩:=R.h a xs z1
   refine⟨.inl ⟨rfl,ys,.inl (.inl y1)⟩,a,ys,rfl,rfl,y1,k P N _ (R.write z1 (fun k hk=>List.mem_cons_of_mem _ hk) ?_ (Nat.le_refl _) (Nat.zero_le _)) (L2.Same.refl _) (L2.Same.refl _)⟩
   rw[qeZ z2];exact List.mem_cons_self
  ·cases e
 |.app p ex,s,h=>by
  simp only[qmK] at h
  split at h
  case h_2=>cases h
  simp only[Bool.and_eq_true,decide_eq_true_eq] at h
  obtain⟨⟨⟨⟨rfl,h2⟩,h3⟩,h4⟩,h5⟩:=h
  refine qat (ps_expr (pe_bm PySem.F.plainAttrs_list PySem.F.slot_list_append PySem.F.type_list_append mt_append (qjA I p h2) (pa_cons (qaf ex I h4).1 pa_nil (qad h5)) (qhi (qfB h2).2) (qkJ h5) h3 (qad h5) rfl) rfl) fun D σ H q=>?_
  obtain⟨P,N,ρ,TT,Z,τ,Z',R,e,k⟩:=q
  simp only[qmt] at e
  split at e
  ·rename_i ds e1
   split at e
   ·rename_i hc
    cases e
    simp only[Bool.and_eq_true,qas] at hc
    refine⟨P,N,ρ,TT,Z,τ,_,R,e1,fun v r=>?_⟩
    obtain⟨a,xs,rfl,z1,z2⟩:=qit r
    obtain⟨ys,y1,y2,y3⟩:=R.h a xs z1
    obtain⟨er,q1,q2⟩:=qkP (Γ:=Γ) ex hc.1 ρ
    refine⟨.inl ⟨rfl,ys,.inl (.inl y1)⟩,ρ,P,N,R.sr,?_⟩
    rw[q1]
    intro P1 N1 H1 a1 u ru
    have hl:=z2.length
    have h6:ys.length+1≤LIM:=by have:=hc.2;omega
    refine⟨a,ys,u,rfl,rfl,a1.hh _ _ y1,h6,?_⟩
    refine k P1 N1 _ ((R.adv a1).write z1 (fun k hk=>List.mem_cons_of_mem _ hk) ?_ (Nat.le_succ _) ?_) a1.pp a1.nn
    ·rw[qeZ z2];exact List.mem_cons_self
    ·rw[List.length_append,List.length_singleton];show ys.length+1≤xs.length+(Z.2+1);omega
   ·cases e
  ·cases e
 |.put p m ex,s,h=>by
  simp only[qmK] at h
  split at h
  case h_2=>cases h
  simp only[Bool.and_eq_true,decide_eq_true_eq] at h
  obtain⟨⟨rfl,h2⟩,h4⟩:=h
  refine qat (ps_asg (qaf ex I h4).1 (pg_sub (qjA I p h2) pe_int set_list (qnx rfl)) ql6 qib rfl) fun D σ H q=>?_
  obtain⟨P,N,ρ,TT,Z,τ,Z',R,e,k⟩:=q
  simp only[qmt] at e
  split at e
  ·rename_i ds e1
   split at e
   ·cases e
   ·rename_i hz
    split at e
    ·rename_i hc
     cases e
     simp only[Bool.and_eq_true,decide_eq_true_eq] at hc
     obtain⟨er,q1,q2⟩:=qkP (Γ:=Γ) ex hc.1 ρ
     refine⟨ρ,P,N,R.sr,?_⟩
     rw[q1]
     intro P1 N1 H1 a1 u ru
     refine⟨P1,N1,ρ,TT,Z,τ,_,R.adv a1,e1,fun v r=>?_⟩
     obtain⟨a,xs,rfl,z1,z2⟩:=qit r
     obtain⟨ys,y1,y2,y3⟩:=(R.adv a1).h a xs z1
     have hy:=y2 (by rw[qeZ z2];exact hz)
     subst hy
     have hl:=z2.length
     have hix:ixN ys.length (m:Int)=some m:=by
      unfold ixN
      rw[if_pos (by omega),if_pos (by omega)]
      simp
     refine⟨a,ys,m,m,rfl,rfl,y1,hix,k P1 N1 _ ((R.adv a1).write z1 (fun k hk=>List.mem_cons_of_mem _ hk) ?_ (Nat.le_refl _) ?_) a1.pp a1.nn⟩
     ·rw[qeZ z2];exact List.mem_cons_self
     ·rw[List.length_set];exact Nat.le_add_right _ _
    ·cases e
  ·cases e
def tCL (C:Ctx) (cs:List Ch1):TS:=fun D σ H=>∃P N ρ T Z τ Z',Raw C P N H ρ σ T Z τ∧qoF τ cs Z=some Z'∧∀P' N' H',Raw C P' N' H' ρ σ T Z' τ→L2.Same P P'→L2.Same N N'→D.nx σ H'
theorem qnK (I:XOk T Γ C X none sc):∀(cs:List Ch1) {ss:List Stmt},qph T sc cs ss=true→PSs X ss (tCL C cs)
 |[],[],_=>qa3 pss_nil fun D σ H q=>by
  obtain⟨P,N,ρ,TT,Z,τ,Z',R,e,k⟩:=q
  cases e
  exact k P N H R (L2.Same.refl _) (L2.Same.refl _)
 |c::cs,s::ss,h=>by
  simp only[qph,Bool.and_eq_true] at h
  refine qa3 (pss_cons (qnH I c h.1) (qnK I cs h.2)) fun D σ H q=>?_
  obtain⟨P,N,ρ,TT,Z,τ,Z',R,e,k⟩:=q
  rw[qoF] at e
  cases e1:qmt τ Z c with
  |none=>rw[e1] at e;cases e
  |some Z1 =>
   rw[e1] at e
   exact⟨P,N,ρ,TT,Z,τ,Z1,R,e1,fun P1 N1 H1 R1 s1 s2=>⟨P1,N1,ρ,TT,Z1,τ,Z',R1,e,fun P2 N2 H2 R2 s3 s4=>k P2 N2 H2 R2 (s1.trans s3) (s2.trans s4)⟩⟩
 |[],_::_,h=>by cases h
 |_::_,[],h=>by cases h
end
end Cm
namespace Cm
open PySem PySem.Spec PyProof.Rows L2
section
variable {T:Tb} {Γ:Env} {C:Ctx} {X:Cx} {sc:Scope}
theorem qrj {l:Nat} {τ:List (Nat × D)}:drp l (drp l τ)=drp l τ:=by
 unfold drp
 rw[List.filter_filter]
 simp
theorem qst {l:Nat} {τ:List (Nat × D)} {e:Nat × D} (h:e∈drp l τ):e∈τ:=(List.mem_filter.mp h).1
theorem qlV {ls:List Nat} {τ:List (Nat × D)} {e:Nat × D} (h:e∈qm0 ls τ):e∈τ:=(List.mem_filter.mp h).1
theorem qpV {l:Nat} {ls:List Nat} {τ:List (Nat × D)} {e:Nat × D} (h:e∈qm0 (l::ls) τ):e∈qm0 ls (drp l τ):=by
 unfold qm0 drp at *
 rw[List.filter_filter]
 have:=List.mem_filter.mp h
 refine List.mem_filter.mpr ⟨this.1,?_⟩
 simpa[not_or,and_comm] using this.2
theorem qlO {l ls:List Nat} {τ:List (Nat × D)} {e:Nat × D} (h:e∈qm0 (l++ls) τ):e∈qm0 ls (qm0 l τ):=by
 unfold qm0 at *
 rw[List.filter_filter]
 have:=List.mem_filter.mp h
 refine List.mem_filter.mpr ⟨this.1,?_⟩
 simpa[not_or,and_comm] using this.2
theorem qsA (hK:X.K=C.G.K) {l:Nat} {p:Pth} {b:List Ch1} {D:Ends} {σ:L2.St} {H:Hp} {P N:Hp} {ρ:List Sl} {TT:TL} {Z Z1:Zs} {τ:List (Nat × Cm.D)} {ds:List Cm.D} (R:Raw C P N H ρ σ TT Z τ) (hl:ρ[l]? = some .non)
  (e:qpP τ Z p=some (.lst ds)) (ew:qpL (fun d Z=>qoF ((l,d)::drp l τ) b Z) ds Z=some Z1) (hz:clD ds∉Z1.1)
  (k:∀σ' P' N' H',Raw C P' N' H' ρ σ' TT Z1 (drp l τ)→L2.Same P P'→L2.Same N N'→D.nx σ' H'):tFor (qu7 X.K (tP C p)) (gName l) (tCL C b) D σ H:=by
 have hm:∀d Z Z',qoF ((l,d)::drp l τ) b Z=some Z'→(∀k,k∈Z.1→k∈Z'.1)∧Z.2≤Z'.2:=fun d Z Z'=>qi8
 refine⟨P,N,ρ,TT,Z,τ,_,R,e,fun v r=>?_⟩
 obtain⟨a,xs,rfl,z1,z2⟩:=qit r
 have hlen:=z2.length
 have seq:∀{P' N' H':Hp} {σ':L2.St} {Z2:Zs} {τ':List (Nat × Cm.D)},Raw C P' N' H' ρ σ' TT Z2 τ'→(∀k,k∈Z2.1→k∈Z1.1)→SqL X.K H' a xs:=fun {P' N' H' σ' Z2 τ'} R' hs=>by
  obtain⟨ys,y1,y2,_⟩:=R'.h a xs z1
  have:=y2 fun q=>hz (by rw[←qeZ z2];exact hs _ q)
  subst this
  exact .inl (.inl y1)
 refine .inl (.inl ⟨a,rfl,⟨xs,seq R (qhf hm ew).1⟩,?_⟩)
 refine for_it (walk_list (K:=X.K) (a:=a) (xs:=xs)) (Pv:=fun i σ' H'=>∃P' N' Z2,Raw C P' N' H' ρ σ' TT Z2 (drp l τ)∧L2.Same P P'∧L2.Same N N'∧qpL (fun d Z=>qoF ((l,d)::drp l τ) b Z) (ds.drop i) Z2=some Z1) ?_ (fun i σ' H' hi q=>?_) (fun i x σ' H' H'' hi q y=>?_) (fun σ' H' q=>?_)
 ·exact⟨P,N,Z,R.sub fun _=>qst,L2.Same.refl _,L2.Same.refl _,by simpa using ew⟩
 ·obtain⟨P',N',Z2,R',_,_,e'⟩:=q
  exact seq R' (qhf hm e').1
 ·obtain⟨P',N',Z2,R',s1,s2,e'⟩:=q
  obtain⟨rfl,ex⟩:=y
  have hi':i<ds.length:=by omega
  obtain⟨v,q1,q2⟩:=Reps.get z2 (List.getElem?_eq_getElem hi')
  rw[q1] at ex;cases ex
  rw[List.drop_eq_getElem_cons hi',qpL] at e'
  cases e2:qoF ((l,ds[i])::drp l τ) b Z2 with
  |none=>rw[e2] at e';cases e'
  |some Z3 =>
   rw[e2] at e'
   have RB:=R'.bind hl (Rep.mono s1 _ _ (fun _ _ q=>q) q2)
   rw[qrj] at RB
   exact⟨P',N',ρ,TT,Z2,_,Z3,RB,e2,fun P4 N4 H4 R4 s3 s4=>⟨P4,N4,Z3,R4.sub fun _ h=>List.mem_cons_of_mem _ h,s1.trans s3,s2.trans s4,e'⟩⟩
 ·obtain⟨P',N',Z2,R',s1,s2,e'⟩:=q
  rw[hlen,List.drop_length,qpL] at e'
  cases e'
  exact k σ' P' N' H' R' s1 s2
def tCk (C:Ctx) (c:Ch) (u:TS):TS:=fun D σ H=>∃P N ρ T Z τ Z',Raw C P N H ρ σ T Z τ∧(∀l∈c.tgs,ρ[l]? = some .non)∧chg c τ Z=some Z'∧∀σ' P' N' H',Raw C P' N' H' ρ σ' T Z' (qm0 c.tgs τ)→L2.Same P P'→L2.Same N N'→u D σ' H'
theorem qho (I:XOk T Γ C X none sc) (hp:PassesOwn (model X.prog X.w) X.A X.env X.xe):∀(c:Ch) {ss rest:List Stmt} {u:TS},qhe T sc c ss=true→PSs X rest u→PSs X (ss++rest) (tCk C c u)
 |.nil,ss,rest,u,h,hr=>by
  simp only[qhe,List.isEmpty_iff] at h
  subst h
  refine qa3 hr fun D σ H q=>?_
  obtain⟨P,N,ρ,TT,Z,τ,Z',R,_,e,k⟩:=q
  cases e
  exact k σ P N H (R.sub fun _=>qlV) (L2.Same.refl _) (L2.Same.refl _)
 |.one c r,ss,rest,u,h,hr=>by
  cases ss with
  |nil=>simp[qhe] at h
  |cons s ss =>
   simp only[qhe,Bool.and_eq_true] at h
   refine qa3 (pss_cons (qnH I c h.1) (qho I hp r h.2 hr)) fun D σ H q=>?_
   obtain⟨P,N,ρ,TT,Z,τ,Z',R,hn,e,k⟩:=q
   rw[chg] at e
   cases e1:qmt τ Z c with
   |none=>rw[e1] at e;cases e
   |some Z1 =>
    rw[e1] at e
    exact⟨P,N,ρ,TT,Z,τ,Z1,R,e1,fun P1 N1 H1 R1 s1 s2=>⟨P1,N1,ρ,TT,Z1,τ,Z',R1,hn,e,fun σ2 P2 N2 H2 R2 s3 s4=>k σ2 P2 N2 H2 R2 (s1.trans s3) (s2.trans s4)⟩⟩
 |.wlk l p b r,ss,rest,u,h,hr=>by
  simp only[qhe] at h
  split at h
  case h_2=>cases h
  simp only[Bool.and_eq_true,decide_eq_true_eq] at h
  obtain⟨⟨⟨⟨h1,h2⟩,h3⟩,h4⟩,h5⟩:=h
  obtain⟨t1,t2⟩:=qmP I h2
  refine qa3 (pss_cons (ps_for hp I.calm (qqL (qjA I p h3)) (pg_name I.nd (by rw[I.nm];exact h1) t1 t2) (qnK I b h4) (qfP (qfB h3).1)) (qho I hp r h5 hr)) fun D σ H q=>?_
  obtain⟨P,N,ρ,TT,Z,τ,Z',R,hn,e,k⟩:=q
  rw[chg] at e
  split at e
  ·rename_i ds e1
   cases ew:qpL (fun d Z=>qoF ((l,d)::drp l τ) b Z) ds Z with
   |none=>rw[ew] at e;cases e
   |some Z1 =>
    rw[ew] at e
    simp only[Option.bind_some] at e
    split at e
    ·cases e
    ·rename_i hz
     refine qsA I.K R (hn l (by simp[Ch.tgs])) e1 ew hz fun σ1 P1 N1 H1 R1 s1 s2=>?_
     exact⟨P1,N1,ρ,TT,Z1,_,Z',R1,fun m hm=>hn m (by simp[Ch.tgs,hm]),e,fun σ2 P2 N2 H2 R2 s3 s4=>k σ2 P2 N2 H2 (R2.sub fun _ h=>qpV h) (s1.trans s3) (s2.trans s4)⟩
  ·cases e
 |.ifs j b r,ss,rest,u,h,hr=>by
  simp only[qhe] at h
  split at h
  case h_2=>cases h
  simp only[Bool.and_eq_true,decide_eq_true_eq] at h
  obtain⟨⟨⟨⟨h1,h2⟩,h3⟩,h4⟩,h5⟩:=h
  obtain⟨n1,n2⟩:=qd5 h3
  have hb:=qho I hp b (rest:=[]) (u:=tNext) h4 pss_nil
  rw[List.append_nil] at hb
  refine qa3 (pss_cons (ps_if (pt_cmp (pc_notN (pe_var (i:=j) (by rw[I.nm];exact h1) (qeV I.sc h2) n1 n2))) hb pss_nil) (qho I hp r h5 hr)) fun D σ H q=>?_
  obtain⟨P,N,ρ,TT,Z,τ,Z',R,hn,e,k⟩:=q
  rw[chg] at e
  split at e
  ·rename_i d ed
   obtain⟨_,v,ev,rv⟩:=R.tr j d (qfO ed)
   refine⟨v,ev,_,rfl,?_⟩
   rw[←qoH rv]
   have hnb:∀l∈b.tgs,ρ[l]? = some .non:=fun m hm=>hn m (by simp[Ch.tgs,hm])
   have hnr:∀l∈r.tgs,ρ[l]? = some .non:=fun m hm=>hn m (by simp[Ch.tgs,hm])
   cases hd:d.isNon with
   |true =>
    rw[hd] at e
    simp only[if_true] at e
    exact⟨P,N,ρ,TT,Z,_,Z',R.sub fun _=>qlV,hnr,e,fun σ2 P2 N2 H2 R2 s3 s4=>k σ2 P2 N2 H2 (R2.sub fun _ h=>qlO h) s3 s4⟩
   |false =>
    rw[hd] at e
    simp only[Bool.false_eq_true,if_false] at e
    cases eb:chg b τ Z with
    |none=>rw[eb] at e;cases e
    |some Z1 =>
     rw[eb] at e
     simp only[Option.bind_some] at e
     exact⟨P,N,ρ,TT,Z,τ,Z1,R,hnb,eb,fun σ1 P1 N1 H1 R1 s1 s2=>⟨P1,N1,ρ,TT,Z1,_,Z',R1,hnr,e,fun σ2 P2 N2 H2 R2 s3 s4=>k σ2 P2 N2 H2 (R2.sub fun _ h=>qlO h) (s1.trans s3) (s2.trans s4)⟩⟩
  ·cases e
end
end Cm
namespace Cm
open PySem PySem.Spec PyProof.Rows L2
def tSk (C:Ctx) (g:List Sl→Out) (u:TS):TS:=fun D σ H=>∃ρ P N,SR C P N H ρ σ∧outS C P N { D with nx:=u D } (g ρ)
structure HvR (P H P' H':Hp) (T:TL):Prop where
 hh:Same H H'
 pp:Same P P'
 pH:Same P' H'
 pn:∀a,P' a≠none→P a≠none∨H a=none
 t:∀a xs,T a=some xs→H' a=some (.lst xs)∧H a=none∧P' a=none
def TR (T:TL) (R:Hp):Hp:=fun a=>match T a with
 |some xs=>some (.lst xs)
 |none=>R a
theorem qgH {T:TL} {R:Hp} {a:Addr} {xs:List V} (h:T a=some xs):TR T R a=some (.lst xs):=by unfold TR;rw[h]
theorem qe3 {T:TL} {R:Hp} {a:Addr} (h:T a=none):TR T R a=R a:=by unfold TR;rw[h]
theorem qi7 {T:TL} {R:Hp} {a:Addr} (h:TR T R a=none):T a=none∧R a=none:=by
 unfold TR at h
 split at h
 ·cases h
 ·exact⟨by assumption,h⟩
section
variable {C:Ctx}
theorem qpz {P N H H0:Hp} {σ:L2.St} {n:Nat} {g':List D→RE ER} {Q:VK} {es:List ER} {vs:List V} (r:Reg C P N H) (hv:ERs C P N H H0 es vs) (hn:es.length=n)
  (h:match g' (es.map ER.d) with
   |.bad=>False
   |.ok er=>∃d,qmA er=some d∧∀v H' P' T,HvR P H P' H' T→Rep C.G P' (LT T) d v→Q v H'
   |.exc c fs=>∀d P' N' H',Adv P N H P' N' H'→ExR C P' N' H' fs d→C.W (.ref (C.G.ca c)) d σ H'):spD C.G n g' vs H Q (fun cls d H'=>C.W cls d σ H'):=by
 have rH:=r.rH
 have hr:Reps C.G P (SqL C.G.K H) (es.map ER.d) vs:=qk6 r hv
 refine⟨P,H,es.map ER.d,r.pH,L2.Same.refl _,hr,by rw[List.length_map,hn],?_⟩
 cases e:g' (es.map ER.d) with
 |bad=>rw[e] at h;exact h.elim
 |exc c fs =>
  rw[e] at h
  intro d H' P' N' ad hx
  refine h d _ _ _ (ad.back r.nH) ?_
  rcases hx with hx | ⟨dd,f,v,h1,h2,h3,h4⟩
  ·exact .inl hx
  ·refine .inr ⟨dd,f,v,h1,h2,h3,Rep.mono (L2.Same.refl _) _ _ (fun a xs q=>?_) h4⟩
   rcases q with q | ⟨hb,q⟩
   ·exact .inl (qmO ad.nH _ _ q)
   ·cases hb
 |ok er =>
  rw[e] at h
  obtain⟨d,ed,h⟩:=h
  intro v H' P' N' ad hx
  have base:∀a xs,N' a=some (.lst xs)→H' a=some (.lst xs)∧H a=none∧P' a=none:=fun a xs q=>by
   have hne:N' a≠none:=by rw[q];exact fun z=>nomatch z
   refine⟨ad.nH _ _ q,?_,?_⟩
   ·rcases ad.nw a hne with z | z
    ·exact absurd rfl z
    ·exact z
   ·cases e2:P' a with
    |none=>rfl
    |some o=>exact absurd rfl (ad.dj a hne (by rw[e2];exact fun z=>nomatch z))
  let T:TL:=fun a=>match N' a with
   |some (.lst xs)=>some xs
   |_=>none
  have hT:∀a xs,N' a=some (.lst xs)→T a=some xs:=fun a xs q=>by show(match N' a with | some (.lst xs)=>some xs | _=>none)=some xs;rw[q]
  have hT':∀a xs,T a=some xs→N' a=some (.lst xs):=fun a xs q=>by
   have q:(match N' a with | some (.lst xs)=>some xs | _=>none)=some xs:=q
   split at q
   ·rename_i ys e2;cases q;exact e2
   ·cases q
  cases er with
  |brw ds b=>cases ed
  |val d' b =>
   simp only[qmA] at ed
   split at ed
   ·rename_i hb
    cases ed
    refine h v H' P' T ⟨ad.hh,ad.pp,ad.pH,ad.pn,fun a xs q=>base a xs (hT' a xs q)⟩ ?_
    cases b with
    |true=>exact Rep.mono (L2.Same.refl _) _ _ (fun a xs q=>by
     rcases q with q | ⟨hb,_⟩
     ·exact hT a xs q
     ·cases hb) hx
    |false=>exact Rep.flat _ _ (by simpa using hb) hx
   ·cases ed
  |fre ds b =>
   simp only[qmA] at ed
   split at ed
   ·rename_i hb
    cases ed
    obtain⟨p,xs,rfl,h1,h2,h3,h4,h5⟩:=hx
    refine h _ H' P' (fun a=>if a=p then some xs else T a) ⟨ad.hh,ad.pp,ad.pH,ad.pn,fun a ys q=>?_⟩ ⟨p,xs,rfl,if_pos rfl,?_⟩
    ·split at q
     ·rename_i ea
      cases q
      subst ea
      exact⟨h1,h2,h3⟩
     ·exact base a ys (hT' a ys q)
    ·have mono:∀a ys,LNb C.G.K P' N' H true a ys→LT (fun a=>if a=p then some xs else T a) a ys:=fun a ys q=>by
      rcases q with q | ⟨hb,_⟩
      ·have:a≠p:=fun ea=>by rw[ea,h4] at q;cases q
       show(if a=p then some xs else T a)=some ys
       rw[if_neg this];exact hT a ys q
      ·cases hb
     cases b with
     |true=>exact Reps.mono (L2.Same.refl _) _ _ mono h5
     |false=>exact Reps.flat _ _ (by simpa using hb) h5
   ·cases ed
def Ctx.hv (C:Ctx) (T:TL) (fx:Nat→Option V):Ctx:={ C with R:=TR T C.R,B:=TR T C.B,fx:=fx }
theorem qfv:∀{ρ:List Sl} {k j:Nat} {s:Sl},(qlv k ρ)[j]? = some s→∃q,ρ[j]? = some q∧s=ent (k+j) q
 |[],k,j,s,h=>by simp[qlv] at h
 |q::qs,k,0,s,h=>by simp[qlv] at h;exact⟨q,rfl,h.symm⟩
 |q::qs,k,j+1,s,h=>by
  simp[qlv] at h
  obtain⟨r,h1,h2⟩:=qfv h
  exact⟨r,by simpa using h1,by rw[h2];congr 1;omega⟩
theorem qiq:∀{ρ:List Sl} {k:Nat},(qlv k ρ).length=ρ.length
 |[],_=>rfl
 |q::qs,k=>by simp[qlv,qiq]
theorem qeD {ρ0:List Sl}:∀{ρ:List Sl} {k j:Nat} {s:Sl},(qkv ρ0 k ρ)[j]? = some s→∃q,ρ[j]? = some q∧s=ext (k+j) (ρ0[k+j]?.getD .non) q
 |[],k,j,s,h=>by simp[qkv] at h
 |q::qs,k,0,s,h=>by simp[qkv] at h;exact⟨q,rfl,h.symm⟩
 |q::qs,k,j+1,s,h=>by
  simp[qkv] at h
  obtain⟨r,h1,h2⟩:=qeD h
  have:k+1+j=k+(j+1):=by omega
  exact⟨r,by simpa using h1,by rw[h2,this]⟩
theorem qgt {ρ0:List Sl}:∀{ρ:List Sl} {k:Nat},(qkv ρ0 k ρ).length=ρ.length
 |[],_=>rfl
 |q::qs,k=>by simp[qkv,qgt]
theorem LNb.up {K:PySem.W.Frag} {P N R R':Hp} {b:Bool} (h:L2.Same R R'):∀a xs,LNb K P N R b a xs→LNb K P N R' b a xs:=fun a xs q=>by
 rcases q with q | ⟨hb,q | q | q⟩
 ·exact .inl q
 ·exact .inr ⟨hb,.inl q⟩
 ·exact .inr ⟨hb,.inr (.inl q)⟩
 ·exact .inr ⟨hb,.inr (.inr (L2.Same.seq h q))⟩
theorem RepB.dn {C C':Ctx} {P N:Hp} {b:Bool} {d:Cm.D} {v:V} (hG:C'.G=C.G) (hb:(b||d.flat)=true) (h:RepB C' P N b d v):RepB C P N b d v:=by
 unfold RepB at *
 rw[hG] at h
 cases b with
 |true=>exact Rep.mono (L2.Same.refl _) _ _ (fun a xs q=>by
  rcases q with q | ⟨hb,_⟩
  ·exact .inl q
  ·cases hb) h
 |false=>exact Rep.flat _ _ (by simpa using hb) h
theorem RepsB.dn {C C':Ctx} {P N:Hp} {b:Bool} {d:List Cm.D} {v:List V} (hG:C'.G=C.G) (hb:(b||D.flats d)=true) (h:RepsB C' P N b d v):RepsB C P N b d v:=by
 unfold RepsB at *
 rw[hG] at h
 cases b with
 |true=>exact Reps.mono (L2.Same.refl _) _ _ (fun a xs q=>by
  rcases q with q | ⟨hb,_⟩
  ·exact .inl q
  ·cases hb) h
 |false=>exact Reps.flat _ _ (by simpa using hb) h
end
section
variable {C:Ctx} {P N H P' H':Hp} {ρ:List Sl} {σ:L2.St} {T:TL}
theorem HvR.tn (a:HvR P H P' H' T) {b:Addr} (h:H b≠none):T b=none:=by
 cases e:T b with
 |none=>rfl
 |some xs=>exact absurd (a.t b xs e).2.1 h
theorem HvR.tp (a:HvR P H P' H' T) {b:Addr} (h:P' b≠none):T b=none:=by
 cases e:T b with
 |none=>rfl
 |some xs=>exact absurd (a.t b xs e).2.2 h
theorem HvR.sR (a:HvR P H P' H' T) {R:Hp} (h:L2.Same R H):L2.Same R (TR T R):=fun b o e=>by
 rw[qe3 (a.tn (b:=b) (by rw[h _ _ e];exact fun z=>nomatch z))];exact e
theorem HvR.reg (a:HvR P H P' H' T) (r:Reg C P N H) {fx:Nat→Option V}:Reg (C.hv T fx) P' N H' where
 pH:=a.pH
 nH:=r.nH.trans a.hh
 bH:=fun b o e=>by
  have e:TR T C.B b=some o:=e
  cases q:T b with
  |none=>rw[qe3 q] at e;exact a.hh _ _ (r.bH _ _ e)
  |some xs=>rw[qgH q] at e;cases e;exact(a.t b xs q).1
 rB:=fun b o e=>by
  have e:TR T C.R b=some o:=e
  show TR T C.B b=some o
  cases q:T b with
  |none=>rw[qe3 q] at e ⊢;exact r.rB _ _ e
  |some xs=>rw[qgH q] at e ⊢;exact e
 p0:=r.p0.trans a.pp
 pn:=fun b h=>by
  have t:=a.tp h
  show C.P0 b≠none∨TR T C.B b=none
  rw[qe3 t]
  rcases a.pn b h with z | z
  ·exact r.pn b z
  ·exact .inr (r.bH.free z)
 nw:=fun b h=>by
  have hb:H b≠none:=fun z=>h (r.nH.free z)
  show TR T C.B b=none
  rw[qe3 (a.tn hb)];exact r.nw b h
 dj:=fun b h=>by
  cases q:P' b with
  |none=>rfl
  |some o =>
   rcases a.pn b (by rw[q];exact fun z=>nomatch z) with z | z
   ·exact absurd (r.dj b h) z
   ·exact absurd (r.nH.free z) h
theorem qo7 {i:Nat} {v w:V} (hi:i<σ.length) (h:((σ.set i (some v))[i]?).join=some w):w=v:=by
 rw[List.getElem?_set_self hi] at h
 cases h;rfl
theorem HvR.into (a:HvR P H P' H' T) (S:SR C P N H ρ σ) {i:Nat} {d:D} {v:V} (hi:i<σ.length) (rv:Rep C.G P' (LT T) d v):SR (C.hv T fun k=>((σ.set i (some v))[k]?).join) P' N H' ((qlv 0 ρ).set i (.fxd d i)) (σ.set i (some v)) where
 reg:=a.reg S.reg
 len:=by simp[S.len,qiq]
 sl:=fun j s e=>by
  by_cases q:i=j
  ·subst q
   rw[List.getElem?_set_self (by rw[qiq,←S.len];exact hi)] at e
   cases e
   refine⟨some v,List.getElem?_set_self hi,v,rfl,?_,?_⟩
   ·show((σ.set i (some v))[i]?).join=some v
    rw[List.getElem?_set_self hi];rfl
   ·exact Rep.mono (L2.Same.refl _) _ _ (fun b xs z=>.inr ⟨rfl,.inr (.inr (.inl (.inl (qgH z))))⟩) rv
  ·rw[List.getElem?_set_ne q] at e
   obtain⟨s0,e0,rfl⟩:=qfv e
   obtain⟨o,y1,y2⟩:=S.sl j s0 e0
   rw[List.getElem?_set_ne q]
   refine⟨o,y1,?_⟩
   have mR:=a.sR S.reg.rH
   have up:∀{b:Bool} {d:D} {v:V},RepB C P N b d v→RepB (C.hv T fun k=>((σ.set i (some v))[k]?).join) P' N b d v:=fun {b d v} h =>
    Rep.mono a.pp _ _ (fun c xs z=>LNb.up mR c xs (LNb.mono a.pp (L2.Same.refl _) c xs z)) h
   have ups:∀{b:Bool} {d:List D} {v:List V},RepsB C P N b d v→RepsB (C.hv T fun k=>none) P' N b d v:=fun {b d v} h =>
    Reps.mono a.pp _ _ (fun c xs z=>LNb.up mR c xs (LNb.mono a.pp (L2.Same.refl _) c xs z)) h
   have hfx:∀w,o=some w→((σ.set i (some v))[j]?).join=some w:=fun w ew=>by rw[List.getElem?_set_ne q,y1,ew];rfl
   rw[Nat.zero_add]
   cases s0 with
   |non=>trivial
   |val d b =>
    obtain⟨w,rfl,h3⟩:=y2
    by_cases hb:(b||d.flat)=true
    ·rw[show ent j (.val d b)=.val d b from if_pos hb]
     exact⟨w,rfl,up h3⟩
    ·rw[show ent j (.val d b)=.fxd d j from if_neg hb]
     have hb':b=false:=by cases b with
      |false=>rfl
      |true=>simp at hb
     subst hb'
     exact⟨w,rfl,hfx w rfl,up h3⟩
   |own ds b =>
    obtain⟨p,xs,rfl,h3,h4,h5,h6,h7⟩:=y2
    have hne:H p≠none:=by rw[h3];exact fun z=>nomatch z
    refine⟨p,xs,rfl,a.hh _ _ h3,?_,h5,?_,ups h7⟩
    ·cases q2:P' p with
     |none=>rfl
     |some o =>
      rcases a.pn p (by rw[q2];exact fun z=>nomatch z) with z | z
      ·exact absurd h4 z
      ·exact absurd z hne
    ·show TR T C.B p=none
     rw[qe3 (a.tn hne)];exact h6
   |slf c fs=>trivial
   |fxd d k =>
    obtain⟨w,rfl,_,h3⟩:=y2
    exact⟨w,rfl,hfx w rfl,up h3⟩
   |dct m c=>trivial
   |row _=>trivial
 ap:=fun j k p ds b es c e1 e2 e3 e4=>by
  have old:∀{m:Nat} {es:List D} {c:Bool},((qlv 0 ρ).set i (.fxd d i))[m]? = some (.own es c)→i≠m∧ρ[m]? = some (.own es c):=fun {m es c} e=>by
   by_cases q:i=m
   ·subst q
    rcases Nat.lt_or_ge i (qlv 0 ρ).length with z | z
    ·rw[List.getElem?_set_self z] at e;cases e
    ·rw[List.getElem?_eq_none (by simpa using z)] at e;cases e
   ·rw[List.getElem?_set_ne q] at e
    obtain⟨s0,e0,es0⟩:=qfv e
    refine⟨q,?_⟩
    rw[e0]
    cases s0 with
    |own ds' b'=>simp only[ent] at es0;rw[es0]
    |val d b =>
     by_cases hb:(b||d.flat)=true
     ·rw[show ent (0+m) (.val d b)=.val d b from if_pos hb] at es0;cases es0
     ·rw[show ent (0+m) (.val d b)=.fxd d (0+m) from if_neg hb] at es0;cases es0
    |_=>cases es0
  obtain⟨n1,o1⟩:=old e1
  obtain⟨n2,o2⟩:=old e2
  rw[List.getElem?_set_ne n1] at e3
  rw[List.getElem?_set_ne n2] at e4
  exact S.ap j k p ds b es c o1 o2 e3 e4
 ad:=AD.setS (AD.no fun j s e=>by
  obtain⟨s0,e0,rfl⟩:=qfv e
  cases s0 with
  |val d b=>simp only[ent];split<;>rfl
  |_=>rfl) rfl
 ar:=AR.no fun j s e=>by
  rcases qaR e with⟨_,z⟩ | ⟨_,z⟩
  ·rw[z];rfl
  ·obtain⟨s0,e0,rfl⟩:=qfv z
   cases s0 with
   |val d b=>simp only[ent];split<;>rfl
   |_=>rfl
theorem HvR.regO (a:HvR P H P' H' T) (r:Reg C P N H) {fx:Nat→Option V} {P2 N2 H2:Hp} (r2:Reg (C.hv T fx) P2 N2 H2):Reg C P2 N2 H2 where
 pH:=r2.pH
 nH:=r2.nH
 bH:=fun b o e=>r2.bH b o (by
  show TR T C.B b=some o
  rw[qe3 (a.tn (b:=b) (by rw[r.bH _ _ e];exact fun z=>nomatch z))];exact e)
 rB:=r.rB
 p0:=r2.p0
 pn:=fun b h=>by
  rcases r2.pn b h with z | z
  ·exact .inl z
  ·exact .inr (qi7 z).2
 nw:=fun b h=>(qi7 (r2.nw b h)).2
 dj:=r2.dj
theorem SR.drop {P N H:Hp} {ρ:List Sl} {σ:L2.St} (S:SR C P N H ρ σ) (i:Nat):SR C P N H (ρ.set i .non) σ where
 reg:=S.reg
 len:=by simp[S.len]
 sl:=fun j s e=>by
  by_cases q:i=j
  ·subst q
   rcases Nat.lt_or_ge i ρ.length with z | z
   ·rw[List.getElem?_set_self z] at e
    cases e
    exact⟨_,List.getElem?_eq_getElem (by rw[S.len];exact z),trivial⟩
   ·rw[List.getElem?_eq_none (by simpa using z)] at e;cases e
  ·rw[List.getElem?_set_ne q] at e
   exact S.sl j s e
 ap:=fun j k p ds b es c e1 e2 e3 e4=>by
  have old:∀{m:Nat} {es:List D} {c:Bool},(ρ.set i .non)[m]? = some (.own es c)→ρ[m]? = some (.own es c):=fun {m es c} e=>by
   by_cases q:i=m
   ·subst q
    rcases Nat.lt_or_ge i ρ.length with z | z
    ·rw[List.getElem?_set_self z] at e;cases e
    ·rw[List.getElem?_eq_none (by simpa using z)] at e;cases e
   ·rw[List.getElem?_set_ne q] at e;exact e
  exact S.ap j k p ds b es c (old e1) (old e2) e3 e4
 ad:=S.ad.setS rfl
 ar:=S.ar.setS rfl
theorem SR.wipeS {P N H:Hp} {ρ:List Sl} {σ:L2.St} (S:SR C P N H ρ σ):∀vs:List Nat,SR C P N H (Cm.wipeS ρ vs) σ
 |[]=>S
 |v::vs=>(SR.wipeS S vs).drop v
theorem qfT {ρ:List Sl}:∀vs:List Nat,(wipeS ρ vs).length=ρ.length
 |[]=>rfl
 |v::vs=>by simp[wipeS,qfT vs]
theorem qlQ {ρ:List Sl} {v:Nat} (hv:v<ρ.length):∀{vs:List Nat},v∈vs→(wipeS ρ vs)[v]? = some .non
 |[],h=>by cases h
 |w::vs,h=>by
  unfold wipeS
  by_cases q:w=v
  ·subst q;rw[List.getElem?_set_self (by rw[qfT];exact hv)]
  ·rw[List.getElem?_set_ne q]
   rcases List.mem_cons.mp h with h | h
   ·exact absurd h.symm q
   ·exact qlQ hv h
theorem qjb {ρ:List Sl} {j:Nat} {s:Sl} (hs:s≠.non):∀{vs:List Nat},(wipeS ρ vs)[j]? = some s→ρ[j]? = some s
 |[],h=>h
 |w::vs,h=>by
  unfold wipeS at h
  by_cases q:w=j
  ·subst q
   rcases Nat.lt_or_ge w (wipeS ρ vs).length with z | z
   ·rw[List.getElem?_set_self z] at h;cases h;exact absurd rfl hs
   ·rw[List.getElem?_eq_none (by simpa using z)] at h;cases h
  ·rw[List.getElem?_set_ne q] at h;exact qjb hs h
theorem qjP {ρ:List Sl} {j:Nat} (h:ρ[j]? = some .non):∀{vs:List Nat},(wipeS ρ vs)[j]? = some .non
 |[]=>h
 |w::vs=>by
  unfold wipeS
  by_cases q:w=j
  ·subst q
   rw[List.getElem?_set_self (by rw[qfT];exact(List.getElem?_eq_some_iff.mp h).1)]
  ·rw[List.getElem?_set_ne q];exact qjP h
theorem qma {ρ:List Sl} (h:∀(j:Nat) (s:Sl),ρ[j]? = some s→s.isW=false):∀{vs:List Nat} (j:Nat) (s:Sl),(Cm.wipeS ρ vs)[j]? = some s→s.isW=false
 |[],j,s,e=>h j s e
 |v::vs,j,s,e=>by
  unfold Cm.wipeS at e
  rcases qaR e with⟨_,z⟩ | ⟨_,z⟩
  ·rw[z];rfl
  ·exact qma h j s z
theorem HvR.out (a:HvR P H P' H' T) (S:SR C P N H ρ σ) {i:Nat} {d d2:D} {v:V} (hi:i<σ.length) (rv:Rep C.G P' (LT T) d v) {P2 N2 H2:Hp} {ρ2:List Sl} {σ2:L2.St}
  (S2:SR (C.hv T fun k=>((σ.set i (some v))[k]?).join) P2 N2 H2 ρ2 σ2) (sp:L2.Same P' P2) (sn:L2.Same N N2) (e2:ρ2[i]? = some (.fxd d2 i)) (vs:List Nat) :
  Raw C P2 N2 H2 (wipeS (qkv (ρ.set i .non) 0 ρ2) vs) σ2 T ([],0) [(i,d)]:=by
 have rg:=a.regO S.reg S2.reg
 have own:∀{j:Nat} {ds:List D} {b:Bool},(qkv (ρ.set i .non) 0 ρ2)[j]? = some (.own ds b)→ρ2[j]? = some (.own ds b)∧(b||D.flats ds)=true:=fun {j ds b} e=>by
  obtain⟨q,h1,h2⟩:=qeD e
  cases q with
  |own es c =>
   simp only[ext] at h2
   split at h2
   ·cases h2;exact⟨h1,by assumption⟩
   ·cases h2
  |val d' b' =>
   simp only[ext] at h2
   split at h2<;>cases h2
  |non=>cases h2
  |slf _ _=>cases h2
  |fxd _ k =>
   simp only[ext] at h2
   split at h2
   ·split at h2<;>cases h2
   ·cases h2
  |dct _ _=>cases h2
  |row _=>cases h2
 have ei:(qkv (ρ.set i .non) 0 ρ2)[i]? = some .non:=by
  have hl:i<ρ2.length:=(List.getElem?_eq_some_iff.mp e2).1
  have:i<(qkv (ρ.set i .non) 0 ρ2).length:=by rw[qgt];exact hl
  obtain⟨q,h1,h2⟩:=qeD (List.getElem?_eq_getElem this)
  rw[e2] at h1;cases h1
  rw[List.getElem?_eq_getElem this,h2]
  simp only[Nat.zero_add,ext,if_true]
  rw[List.getElem?_set_self (by rw[←S.len];exact hi)]
  rfl
 have noW:∀(j:Nat) (s:Sl),(qkv (ρ.set i .non) 0 ρ2)[j]? = some s→s.isW=false:=fun j s e=>by
  obtain⟨q,h1,rfl⟩:=qeD e
  cases q with
  |val d b=>simp only[ext];split<;>rfl
  |own d b=>simp only[ext];split<;>rfl
  |fxd d k =>
   simp only[ext]
   split
   ·split<;>rfl
   ·rfl
  |_=>rfl
 have sr:SR C P2 N2 H2 (qkv (ρ.set i .non) 0 ρ2) σ2:=by
  refine⟨rg,by rw[qgt,S2.len],fun j s e=>?_,fun j k p ds b es c e1 e3 e4 e5=>S2.ap j k p ds b es c (own e1).1 (own e3).1 e4 e5,AD.no fun j s e=>by
   obtain⟨q,h1,rfl⟩:=qeD e
   cases q with
   |val d b=>simp only[ext];split<;>rfl
   |own d b=>simp only[ext];split<;>rfl
   |fxd d k =>
    simp only[ext]
    split
    ·split<;>rfl
    ·rfl
   |_=>rfl,AR.no noW⟩
  obtain⟨q,h1,h2⟩:=qeD e
  obtain⟨o,y1,y2⟩:=S2.sl j q h1
  refine⟨o,y1,?_⟩
  rw[h2,Nat.zero_add]
  cases q with
  |non=>trivial
  |slf _ _=>trivial
  |dct _ _=>trivial
  |row _=>trivial
  |val d b =>
   simp only[ext]
   split
   ·rename_i hb
    obtain⟨w,rfl,h3⟩:=y2
    exact⟨w,rfl,RepB.dn (C':=C.hv T fun k=>((σ.set i (some v))[k]?).join) rfl hb h3⟩
   ·trivial
  |own ds b =>
   simp only[ext]
   split
   ·rename_i hb
    obtain⟨p,xs,rfl,h3,h4,h5,h6,h7⟩:=y2
    exact⟨p,xs,rfl,h3,h4,h5,(qi7 h6).2,RepsB.dn (C':=C.hv T fun k=>((σ.set i (some v))[k]?).join) rfl hb h7⟩
   ·trivial
  |fxd d' k =>
   simp only[ext]
   split
   ·rename_i hk
    subst hk
    by_cases hki:i=k
    ·subst hki
     rw[List.getElem?_set_self (by rw[←S.len];exact hi)]
     trivial
    ·rw[List.getElem?_set_ne hki]
     obtain⟨w,rfl,h3,_⟩:=y2
     have h3:((σ.set i (some v))[k]?).join=some w:=h3
     rw[List.getElem?_set_ne hki] at h3
     cases e0:ρ[k]? with
     |none=>trivial
     |some s0 =>
      obtain⟨o,z1,z2⟩:=S.sl k s0 e0
      have ho:o=some w:=by
       rw[z1] at h3
       exact h3
      subst ho
      cases s0 with
      |val d b =>
       obtain⟨u,eu,h4⟩:=z2
       cases eu
       exact⟨w,rfl,RepB.adv (a.pp.trans sp) sn h4⟩
      |fxd d m =>
       obtain⟨u,eu,h5,h4⟩:=z2
       cases eu
       exact⟨w,rfl,h5,RepB.adv (a.pp.trans sp) sn h4⟩
      |non=>trivial
      |own _ _=>trivial
      |slf _ _=>trivial
      |dct _ _=>trivial
      |row _=>trivial
   ·trivial
 have tb:∀{b:Addr} {xs:List V},T b=some xs→TR T C.B b≠none:=fun {b xs} e=>by rw[qgH e];exact fun z=>nomatch z
 refine⟨sr.wipeS vs,fun b xs e=>⟨xs,S2.reg.bH b _ (qgH e),fun _=>rfl,Nat.le_add_right _ _⟩,fun b xs e=>⟨?_,?_,?_⟩,fun j ds b p e1 e3=>?_,fun j d' m=>?_,qma noW⟩
 ·cases q:P2 b with
  |none=>rfl
  |some o =>
   rcases S2.reg.pn b (by rw[q];exact fun z=>nomatch z) with z | z
   ·have hb:=(a.t b xs e).2.1
    exact absurd (S.reg.p0.free (S.reg.pH.free hb)) z
   ·exact absurd z (tb e)
 ·cases q:N2 b with
  |none=>rfl
  |some o=>exact absurd (S2.reg.nw b (by rw[q];exact fun z=>nomatch z)) (tb e)
 ·exact S.reg.bH.free (a.t b xs e).2.1
 ·obtain⟨h1,_⟩:=own (qjb (by simp) e1)
  obtain⟨o,y1,p',xs,rfl,h3,h4,h5,h6,h7⟩:=S2.sl j _ h1
  rw[y1] at e3;cases e3
  exact(qi7 h6).1
 ·simp only[List.mem_singleton,Prod.mk.injEq] at m
  obtain⟨rfl,rfl⟩:=m
  refine⟨qjP ei,v,?_,Rep.mono sp _ _ (fun _ _ q=>q) rv⟩
  obtain⟨o,y1,w,rfl,h3,_⟩:=S2.sl j _ e2
  have:=qo7 hi h3
  subst this
  exact y1
end
section
variable {T:Tb} {Γ:Env} {C:Ctx} {X:Cx} {sc:Scope}
theorem XOk.hv {fc:Option Scope} {TT:TL} {fx:Nat→Option V} (I:XOk T Γ C X fc sc):XOk T Γ (C.hv TT fx) X fc sc where
 nm:=I.nm
 nd:=I.nd
 sc:=I.sc
 K:=I.K
 tk:=I.tk
 fr:=I.fr
 calm:=I.calm
 un:=I.un
 blt:=I.blt
 fnc:=I.fnc
 fn:=I.fn
 gc:=fun k x h c e=>by
  obtain⟨u,v,h1,h2,h3,h4⟩:=I.gc k x h c e
  refine⟨u,v,h1,h2,fun P N=>?_,h4⟩
  exact Rep.mono (L2.Same.refl _) _ _ (fun a xs q=>by
   rcases q with q | ⟨hb,_⟩
   ·exact .inl q
   ·cases hb) (h3 P N)
 mt:=fun m x n h c g e=>by
  obtain⟨h1,h2,h3⟩:=I.mt m x n h c g e
  exact⟨h1,h2,h3⟩
 fs:=fun f x h c k e=>by
  obtain⟨h1,h2,h3,h4⟩:=I.fs f x h c k e
  exact⟨h1,h2,h3,h4⟩
 nw:=fun k x n h g e=>by
  obtain⟨h1⟩:=I.nw k x n h g e
  exact⟨h1⟩
 ck:=I.ck
 xk:=I.xk
 dc:=I.dc
def tHv (C:Ctx) (i n:Nat) (g:List Sl→RE (List ER)) (g':List Cm.D→RE ER):TS:=tAsg (fun σ H Q=>tA C g σ H fun vs H1=>spD C.G n g' vs H1 Q (fun cls d H'=>C.W cls d σ H')) (gName i)
theorem qts {i f:Nat} {es:Exs} {st:Stmt} (I:XOk T Γ C X none sc) (h:qrP T sc i f es st=true):∀g,Γ.fn[f]? = some g→∃n,(∀ρ r,evs Γ es ρ=.ok r→r.length=n)∧PS X st (tHv C i n (evs Γ es) g.2):=fun g e=>by
 unfold qrP at h
 split at h
 case h_2=>cases h
 rename_i x pn y p xs q pos
 simp only[Bool.and_eq_true,decide_eq_true_eq] at h
 obtain⟨⟨⟨⟨⟨⟨h1,h2⟩,h3⟩,h4⟩,h5⟩,h6⟩,h7⟩:=h
 obtain⟨t1,t2⟩:=qmP I h2
 obtain⟨k,a,fd,ps,m,gf,F,hr,hm,hk,dv,dvs,dus,hb,hdv,hdm,hdr,hgf⟩:=I.fn f y xs.length h3 g e
 refine⟨xs.length,fun ρ r er=>qdj es ρ r xs h6 er,?_⟩
 exact ps_set I.nd (by rw[I.nm];exact h1) t1 (qlL (C:=C) F hr (qcn I.sc h4) hm hk hb hdv hdm hdr hgf I.tk (qdz es I h6 h7) (qd5 h5).1 (qfp h7) (fun z ρ=>qiv h6 z ρ)) rfl t2
def tIn (C:Ctx) (g:List Sl→Out) (u:TS):TS:=fun D σ H=>∃TT fx,tSk (C.hv TT fx) g u D σ H
theorem qtG {i n:Nat} {es:Exs} {g':List Cm.D→RE ER} {rd:List Sl→Out} {cs:Ch} {f:List Sl→Out} {D:Ends} {σ:L2.St} {H:Hp} {u:TS} (hn:∀ρ r,evs Γ es ρ=.ok r→r.length=n)
  (q:tSk C (fun ρ=>(evs Γ es ρ).out fun r=>(g' (r.map ER.d)).out fun er=>match qmA er with
   |some d=>gdO (Nat.blt i ρ.length) ((rd ((qlv 0 ρ).set i (.fxd d i))).hv ρ i d cs f)
   |none=>.bad) u D σ H):tHv C i n (evs Γ es) g' { D with nx:=tIn C rd (tCk C cs (tSk C f u)) D } σ H:=by
 obtain⟨ρ,P,N,S,o⟩:=q
 refine⟨ρ,P,N,S,(o.res S.reg).mono fun r P1 N1 H1 e1 a1 o1 vs rv=>?_⟩
 have S1:=S.adv a1
 refine qpz S1.reg rv (hn _ _ e1) ?_
 cases eg:g' (r.map ER.d) with
 |bad=>rw[eg] at o1;exact o1
 |exc c fs =>
  rw[eg] at o1
  exact fun d P' N' H' ad hx=>o1 σ d P' N' H' (S1.reg.adv ad) hx
 |ok er =>
  rw[eg] at o1
  simp only[RE.out_ok] at o1
  cases ed:qmA er with
  |none=>rw[ed] at o1;exact o1.elim
  |some d =>
   rw[ed] at o1
   simp only[qbE] at o1
   split at o1
   case isFalse=>exact o1.elim
   rename_i hi
   have hi:i<σ.length:=by rw[S.len];exact Nat.blt_eq.mp hi
   refine⟨d,ed,fun v H' P' TT a rvT=>?_⟩
   refine⟨TT,_,_,P',N1,a.into S1 hi rvT,?_⟩
   cases er2:rd ((qlv 0 ρ).set i (.fxd d i)) with
   |bad=>rw[er2] at o1;exact o1.elim
   |brk _=>rw[er2] at o1;exact o1.elim
   |cnt _=>rw[er2] at o1;exact o1.elim
   |exc c fs =>
    rw[er2] at o1
    intro σ2 d2 P2 N2 H2 r2 x2
    refine o1 σ2 d2 P2 N2 H2 (a.regO S1.reg r2) ?_
    rcases x2 with x2 | ⟨dd,f2,v2,h1,h2,h3,h4⟩
    ·exact .inl x2
    ·exact .inr ⟨dd,f2,v2,h1,h2,h3,RepB.dn (C':=C.hv TT fun k=>((σ.set i (some v))[k]?).join) rfl (by simp) h4⟩
   |ret er3 =>
    rw[er2] at o1
    simp only[Out.hv] at o1
    cases en:qmA er3 with
    |none=>rw[en] at o1;exact o1.elim
    |some d3 =>
     rw[en] at o1
     intro v2 P2 N2 H2 r2 x2
     refine o1 v2 P2 N2 H2 (a.regO S1.reg r2) ?_
     cases er3 with
     |brw _ _=>cases en
     |val d4 b4 =>
      simp only[qmA] at en
      split at en
      ·exact RepB.dn (C':=C.hv TT fun k=>((σ.set i (some v))[k]?).join) rfl (by assumption) x2
      ·cases en
     |fre d4 b4 =>
      simp only[qmA] at en
      split at en
      ·obtain⟨p,xs,rfl,h1,h2,h3,h4,h5⟩:=x2
       exact⟨p,xs,rfl,h1,(qi7 h2).2,h3,h4,RepsB.dn (C':=C.hv TT fun k=>((σ.set i (some v))[k]?).join) rfl (by assumption) h5⟩
      ·cases en
   |nx ρ2 =>
    rw[er2] at o1
    simp only[Out.hv] at o1
    intro σ2 P2 N2 H2 S2 sp sn
    split at o1
    case h_2=>exact o1.elim
    rename_i d2 k2 e2
    simp only[qbE] at o1
    split at o1
    case isFalse=>exact o1.elim
    rename_i hk
    simp only[Bool.and_eq_true,beq_iff_eq,List.all_eq_true,Nat.blt_eq] at hk
    obtain⟨hk,htg⟩:=hk
    subst hk
    cases ec:chg cs [(k2,d)] ([],0) with
    |none=>rw[ec] at o1;exact o1.elim
    |some Z' =>
     rw[ec] at o1
     simp only at o1
     have R:=a.out S1 hi rvT S2 sp sn e2 cs.tgs
     exact⟨P2,N2,_,TT,_,_,Z',R,fun l hl=>qlQ (by rw[qgt];exact htg l hl) hl,ec,fun σ3 P3 N3 H3 R3 s3 s4=>⟨_,P3,N3,R3.sr,o1.adv ((a1.pp.trans a.pp).trans (sp.trans s3)) (a1.nn.trans (sn.trans s4))⟩⟩
end
end Cm
namespace Cm
open PySem PySem.Spec PyProof.Rows L2
section
variable {G:Glo} {P:Hp} {T:TL}
mutual
theorem qsy {p:Addr} {ys:List V} (hp:T p=some ys):∀(d:D) (v:V) {N:Hp},(∀a xs,T a=some xs→a≠p→N a=some (.lst xs))→noK (clV ys) d=true→Rep G P (LT T) d v→Rep G P (fun a xs=>N a=some (.lst xs)) d v
 |.non,_,_,_,_,h=>h
 |.bl _,_,_,_,_,h=>h
 |.int _,_,_,_,_,h=>h
 |.str _,_,_,_,_,h=>h
 |.lst ds,v,N,hN,hk,⟨a,xs,e,h1,h2⟩=>by
  simp only[noK,Bool.and_eq_true,bne_iff_ne] at hk
  have h1:T a=some xs:=h1
  refine⟨a,xs,e,hN a xs h1 fun z=>hk.1 ?_,qiW hp ds xs hN hk.2 h2⟩
  subst z
  rw[hp] at h1;cases h1
  exact(qeZ h2).symm
 |.tup ds,v,N,hN,hk,⟨a,xs,e,h1,h2⟩=>⟨a,xs,e,h1,qiW hp ds xs hN hk h2⟩
 |.ins _ _,_,_,_,_,h=>h
 |.exc _ _,_,_,_,_,h=>h
theorem qiW {p:Addr} {ys:List V} (hp:T p=some ys):∀(ds:List D) (vs:List V) {N:Hp},(∀a xs,T a=some xs→a≠p→N a=some (.lst xs))→qrU (clV ys) ds=true→Reps G P (LT T) ds vs→Reps G P (fun a xs=>N a=some (.lst xs)) ds vs
 |[],_,_,_,_,h=>h
 |d::ds,vs,N,hN,hk,⟨v,r,e,h1,h2⟩=>by
  simp only[qrU,Bool.and_eq_true] at hk
  exact⟨v,r,e,qsy hp d v hN hk.1 h1,qiW hp ds r hN hk.2 h2⟩
end
end
def NT (T:TL) (p:Addr) (N:Hp):Hp:=fun b=>if b=p then none else match T b with
 |some xs=>some (.lst xs)
 |none=>N b
section
variable {C:Ctx} {P N H P' H':Hp} {T:TL} {p:Addr} {ys:List V}
end
section
variable {T:Tb} {Γ:Env} {C:Ctx} {X:Cx} {sc:Scope}
end
end Cm
namespace Cm
open PySem PySem.Spec PyProof.Rows L2
section
variable {C:Ctx} {X:Cx}
theorem qjU {ss:List Stmt} {g:List Sl→Out} (h:PSs X (ss++[]) (tSk C g tNext)):PSs X ss (tS C g):=by rw[List.append_nil] at h;exact h
theorem qqc {g g':List Sl→Out} {u:TS} {D:Ends} {σ:L2.St} {H:Hp} (q:tSk C g u D σ H) (e:∀ρ,g ρ=g' ρ):tSk C g' u D σ H:=by
 have:g=g':=funext e
 rw[←this];exact q
theorem qtc {u:TS} {D:Ends} {σ:L2.St} {H:Hp} (q:tSk C (fun ρ=>Out.nx ρ) u D σ H):u D σ H:=by
 obtain⟨ρ,P,N,S,o⟩:=q
 exact o σ P N H S (L2.Same.refl _) (L2.Same.refl _)
theorem qq3 {g g':List Sl→Out} {u:TS} {D:Ends} {σ:L2.St} {H:Hp} (q:tSk C (fun ρ=>(g ρ).seq g') u D σ H):tSeq (tS C g) (tSk C g' u) D σ H:=by
 obtain⟨ρ,P,N,S,h⟩:=q
 refine⟨ρ,P,N,S,?_⟩
 show outS C P N { D with nx:=tSk C g' u D } (g ρ)
 cases e:g ρ with
 |nx ρ'=>simp only[e,Out.seq_nx] at h;exact fun σ P' N' H' S e1 e2=>⟨ρ',P',N',S,h.adv e1 e2⟩
 |bad=>simp only[e] at h;exact h
 |brk ρ'=>simp only[e] at h;exact h
 |cnt ρ'=>simp only[e] at h;exact h
 |ret er=>simp only[e] at h;exact h
 |exc c fs=>simp only[e] at h;exact h
theorem qtt {i:Nat} {g:List Sl→Out} {u:TS} {D:Ends} {σ:L2.St} {H:Hp} (q:tSk C (fun ρ=>qdh ρ i fun ds b=>g (ρ.set i (.val (.lst ds) b))) u D σ H):tSk C g u D σ H:=qsv (D:={ D with nx:=u D }) q
end
theorem qqt {T:Tb} {Γ:Env} {C:Ctx} {X:Cx} {sc:Scope} (I:XOk T Γ C X none sc):∀(es:Exs) {xs:List Expr},qbk T es none sc xs=true→xs.all qai=true→PA X xs (tF C (evF Γ es))
 |.nil,xs,h,_=>by
  unfold qbk at h
  cases xs with
  |nil=>exact qfG qrk fun σ H Q q=>q
  |cons _ _=>cases h
 |.cons e es,xs,h,hs=>by
  unfold qbk at h
  cases xs with
  |nil=>cases h
  |cons x xs =>
   simp only[Bool.and_eq_true,List.all_cons] at h hs
   have:=qpZ (qaf e I h.1).1 (qqt I es h.2 hs.2) (qad hs.1)
   exact qfG this fun σ H Q q=>by
    obtain⟨ρ,P,N,S,k⟩:=q
    exact⟨ρ,P,N,S,by rw[evF] at k;exact k⟩
mutual
theorem qth {T:Tb} {Γ:Env} {C:Ctx} {X:Cx} {sc:Scope} (I:XOk T Γ C X none sc) (hp:PassesOwn (model X.prog X.w) X.A X.env X.xe) (hF:FrOk X):∀(ir:Sm) {s:Stmt},qhH T sc ir s=true→PS X s (tS C (run Γ ir))
 |.nev,s,h=>qcS qmW fun ρ=>by rw[run]
 |.rse k,s,h=>by
  unfold qhH at h
  split at h
  case h_2=>cases h
  simp only[Bool.and_eq_true,decide_eq_true_eq] at h
  obtain⟨⟨h1,h2⟩,h3⟩:=h
  cases q:Γ.xk[k]? with
  |none=>exact qcS qmW fun ρ=>by rw[run,q]
  |some c=>exact qcS (qqT I.K I.calm I.tk (qcn I.sc h2) (qd5 h3).1 (I.xk k _ h1 c q)) fun ρ=>by rw[run,q]
 |.tryx k i j b,s,h=>by
  unfold qhH at h
  split at h
  case h_2=>cases h
  simp only[Bool.and_eq_true,decide_eq_true_eq] at h
  obtain⟨⟨⟨⟨⟨⟨⟨⟨⟨⟨h1,h2⟩,h3⟩,h4⟩,h5⟩,rfl⟩,h7⟩,h8⟩,h9⟩,h10⟩,h11⟩:=h
  cases q:T.ck[k]? with
  |none=>rw[q] at h1;cases h1
  |some t =>
   obtain⟨x,own⟩:=t
   rw[q] at h1
   cases h1
   exact qcS (qrS I.K hF.st hF.fr hF.ex I.nd (by rw[I.nm];exact h4) (by rw[I.nm];exact h5) (by unfold Env.kindOf;rw[I.sc];exact h7) (by unfold Env.kindOf;rw[I.sc];exact h8) (qd5 h9) (qcn I.sc h2) (I.blt _ (by decide)) (qd5 h3).1 (I.ck k x own q) I.tk h10 (fun W pn xe tk _=>qlt b (I.tr tk) h11)) fun ρ=>by rw[run]
 |.asg i e,s,h=>by
  unfold qhH at h
  split at h
  case h_2=>cases h
  simp only[Bool.and_eq_true,decide_eq_true_eq] at h
  obtain⟨⟨⟨h1,h2⟩,h3⟩,h4⟩:=h
  exact qcS (qat (qli I h1 h2 h3 h4) fun D σ H q=>qsD q) fun ρ=>by rw[run]
 |.own i e,s,h=>by
  unfold qhH at h
  split at h
  case h_2=>cases h
  simp only[Bool.and_eq_true,decide_eq_true_eq] at h
  obtain⟨⟨⟨h1,h2⟩,h3⟩,h4⟩:=h
  exact qcS (qat (qli I h1 h2 h3 h4) fun D σ H q=>qr0 q) fun ρ=>by rw[run]<;>rfl
 |.put i ix e,s,h=>by
  unfold qhH at h
  split at h
  case h_2=>cases h
  simp only[Bool.and_eq_true,decide_eq_true_eq] at h
  obtain⟨⟨⟨⟨⟨h1,h2⟩,h3⟩,h4⟩,h5⟩,h6⟩:=h
  obtain⟨n1,n2⟩:=qd5 h3
  refine qcS (qat (ps_asg (qaf e I h6).1 (pg_sub (pe_var (i:=i) (by rw[I.nm];exact h1) (qeV I.sc h2) n1 n2) (qaf ix I h5).1 set_list (qnx h4)) ql6 qib rfl) fun D σ H q=>qsz q) fun ρ=>by rw[run]<;>rfl
 |.app i e,s,h=>by
  unfold qhH at h
  split at h
  case h_2=>cases h
  simp only[Bool.and_eq_true,decide_eq_true_eq] at h
  obtain⟨⟨⟨⟨⟨⟨h1,h2⟩,h3⟩,rfl⟩,h5⟩,h6⟩,h7⟩:=h
  obtain⟨n1,n2⟩:=qd5 h3
  refine qcS (qat (ps_expr (pe_bm PySem.F.plainAttrs_list PySem.F.slot_list_append PySem.F.type_list_append mt_append (pe_var (i:=i) (by rw[I.nm];exact h1) (qeV I.sc h2) n1 n2) (pa_cons (qaf e I h5).1 pa_nil (qad h6)) rfl (qkJ h6) h7 (qad h6) rfl) rfl) fun D σ H q=>qrB q) fun ρ=>by rw[run]
 |.clr i,s,h=>by
  unfold qhH at h
  split at h
  case h_2=>cases h
  simp only[Bool.and_eq_true,decide_eq_true_eq] at h
  obtain⟨⟨⟨⟨h1,h2⟩,h3⟩,rfl⟩,h7⟩:=h
  obtain⟨n1,n2⟩:=qd5 h3
  refine qcS (qat (ps_expr (pe_bm0 PySem.F.plainAttrs_list PySem.F.slot_list_clear PySem.F.type_list_clear mt_clear (pe_var (i:=i) (by rw[I.nm];exact h1) (qeV I.sc h2) n1 n2) rfl h7) rfl) fun D σ H q=>qqN q) fun ρ=>by rw[run]
 |.expr e,s,h=>by
  unfold qhH at h
  split at h
  case h_2=>cases h
  simp only[Bool.and_eq_true] at h
  exact qcS (qp4 (qaf e I h.1).1 (qg2 h.2)) fun ρ=>by rw[run]
 |.ret e,s,h=>by
  unfold qhH at h
  split at h
  case h_2=>cases h
  exact qcS (qry (qaf e I h).1) fun ρ=>by rw[run]
 |.retN,s,h=>by
  unfold qhH at h
  split at h
  case h_2=>cases h
  exact qcS qps fun ρ=>by rw[run]
 |.pas,s,h=>by
  unfold qhH at h
  split at h
  ·exact qcS qpu fun ρ=>by rw[run]
  ·exact qcS qrD fun ρ=>by rw[run]
  ·cases h
 |.brk,s,h=>by
  unfold qhH at h
  split at h
  case h_2=>cases h
  exact qcS qrJ fun ρ=>by rw[run]
 |.cnt,s,h=>by
  unfold qhH at h
  split at h
  case h_2=>cases h
  exact qcS qrf fun ρ=>by rw[run]
 |.iff c a b,s,h=>by
  unfold qhH at h
  split at h
  case h_2=>cases h
  simp only[Bool.and_eq_true] at h
  exact qcS (qsx (qhm c I h.1.1) (qjU (qdC I hp hF a h.1.2 pss_nil)) (qjU (qdC I hp hF b h.2 pss_nil))) fun ρ=>by rw[run]
 |.for it tg b,s,h=>by
  unfold qhH at h
  split at h
  case h_2=>cases h
  simp only[Bool.and_eq_true] at h
  obtain⟨⟨⟨h1,h2⟩,h3⟩,h4⟩:=h
  exact qcS (qat (ps_for hp I.calm (qkj it I h1) (qfw I h2) (qjU (qdC I hp hF b h3 pss_nil)) (qfP h4)) fun D σ H q=>qr4 q) fun ρ=>by rw[run]<;>rfl
 |.apop i j ix,s,h=>by
  unfold qhH at h
  split at h
  case h_2=>cases h
  simp only[Bool.and_eq_true,decide_eq_true_eq] at h
  obtain⟨⟨⟨⟨⟨⟨⟨⟨⟨⟨⟨h1,h2⟩,h3⟩,rfl⟩,h4⟩,g1⟩,g2⟩,g3⟩,rfl⟩,g4⟩,h5⟩,h6⟩:=h
  obtain⟨n1,n2⟩:=qd5 h3
  obtain⟨m1,m2⟩:=qd5 g3
  refine qcS (qat (ps_expr (pe_bm PySem.F.plainAttrs_list PySem.F.slot_list_append PySem.F.type_list_append mt_append (pe_var (i:=i) (by rw[I.nm];exact h1) (qeV I.sc h2) n1 n2) (pa_cons (pe_bm PySem.F.plainAttrs_list PySem.F.slot_list_pop PySem.F.type_list_pop mt_popAt (pe_var (i:=j) (by rw[I.nm];exact g1) (qeV I.sc g2) m1 m2) (pa_cons (qaf ix I h5).1 pa_nil (qad h6)) rfl (qkJ h6) g4 (qad h6) rfl) pa_nil rfl) rfl rfl h4 rfl rfl) rfl) fun D σ H q=>qp7 q) fun ρ=>by rw[run]<;>rfl
 |.fset f e,s,h=>by
  unfold qhH at h
  split at h
  case h_2=>cases h
  rename_i x p fn p' v pos
  simp only[Bool.and_eq_true,decide_eq_true_eq] at h
  obtain⟨⟨⟨⟨h1,h2⟩,h3⟩,h4⟩,h5⟩:=h
  obtain⟨n1,n2⟩:=qd5 h3
  refine qcS (qat (ps_fld (pe_var (i:=0) (by rw[I.nm];exact h1) (qeV I.sc h2) n1 n2) (qaf e I h5).1 (by cases v<;>rfl)) fun D σ H q=>qpT (fi:=fun c=>Γ.fi c f) (fun c k e=>I.fs f fn h4 c k e) q) fun ρ=>by rw[run]<;>rfl
 |.row i es,s,h=>by
  unfold qhH at h
  split at h
  case h_2=>cases h
  simp only[Bool.and_eq_true,decide_eq_true_eq] at h
  obtain⟨⟨⟨h1,h2⟩,h3⟩,h4⟩:=h
  obtain⟨t1,t2⟩:=qmP I h2
  exact qcS (qat (ps_asg (pe_lst (qqt I es h3 h4)) (pg_name I.nd (by rw[I.nm];exact h1) t1 t2)) fun D σ H q=>qqZ q) fun ρ=>by rw[run]
 |.whl c b,s,h=>by
  unfold qhH at h
  split at h
  case h_2=>cases h
  simp only[Bool.and_eq_true] at h
  exact qcS (qat (ps_while hp (qhm c I h.1) (qjU (qdC I hp hF b h.2 pss_nil))) fun D σ H q=>qrq q) fun ρ=>by rw[run]
theorem qdC {T:Tb} {Γ:Env} {C:Ctx} {X:Cx} {sc:Scope} (I:XOk T Γ C X none sc) (hp:PassesOwn (model X.prog X.w) X.A X.env X.xe) (hF:FrOk X):∀(ir:Sms) {ss rest:List Stmt} {u:TS},qah T sc ir ss=true→PSs X rest u→PSs X (ss++rest) (tSk C (qao Γ ir) u)
 |.nil,ss,rest,u,h,hr=>by
  unfold qah at h
  cases ss with
  |nil=>exact qa3 hr fun D σ H q=>qtc (qqc q fun ρ=>by rw[qao])
  |cons _ _=>cases h
 |.cons s ir,ss,rest,u,h,hr=>by
  unfold qah at h
  cases ss with
  |nil=>cases h
  |cons st ss =>
   simp only[Bool.and_eq_true] at h
   refine qa3 (pss_cons (qth I hp hF s h.1) (qdC I hp hF ir h.2 hr)) fun D σ H q=>qq3 (qqc q fun ρ=>by rw[qao])
 |.frz i ir,ss,rest,u,h,hr=>by
  unfold qah at h
  refine qa3 (qdC I hp hF ir h hr) fun D σ H q=>qtt (i:=i) (qqc q fun ρ=>by rw[qao])
 |.hav i f es rd cs ir,ss,rest,u,h,hr=>by
  unfold qah at h
  cases ss with
  |nil=>cases h
  |cons st ss =>
   simp only[Bool.and_eq_true] at h
   obtain⟨⟨⟨h1,h2⟩,h3⟩,h4⟩:=h
   cases e:Γ.fn[f]? with
   |none =>
    refine qa3 pss_never fun D σ H q=>?_
    obtain⟨ρ,P,N,S,o⟩:=q
    rw[qao,e] at o
    exact o.elim
   |some g =>
    obtain⟨n,hn,hs⟩:=qts I h1 g e
    have in_:PSs X (ss++rest) (tIn C (qao Γ rd) (tCk C cs (tSk C (qao Γ ir) u))):=by
     have e1:ss++rest=ss.take rd.len++((ss.drop rd.len).take cs.len++((ss.drop rd.len).drop cs.len++rest)):=by
      rw[←List.append_assoc ((ss.drop rd.len).take cs.len),List.take_append_drop,←List.append_assoc,List.take_append_drop]
     rw[e1]
     have k:=qho (C:=C) I hp cs h3 (qdC I hp hF ir h4 hr)
     exact⟨fun pins s σ H D I' q=>by
      obtain⟨TT,fx,q⟩:=q
      exact(qdC (I.hv (TT:=TT) (fx:=fx)) hp hF rd h2 k).run pins s σ H D I' q⟩
    refine qa3 (pss_cons hs in_) fun D σ H q=>qtG hn (qqc q fun ρ=>by rw[qao,e]<;>rfl)
end
theorem qnr {T:Tb} {Γ:Env} {C:Ctx} {X:Cx} {sc:Scope} (I:XOk T Γ C X none sc) (hp:PassesOwn (model X.prog X.w) X.A X.env X.xe) (hF:FrOk X) (ir:Sms) {ss:List Stmt} (h:qah T sc ir ss=true):PSs X ss (tS C (qao Γ ir)):=qjU (qdC I hp hF ir h pss_nil)
end Cm
namespace Cm
open PySem PySem.Spec PyProof.Rows L2
structure TabOk (P:Program) (w:World) (K:PySem.W.Frag) (mg:Str→Option Value) (base:Heap) (T:Tb) (Γ:Env) (G:Glo) (k:Nat):Prop where
 blt:∀x∈bltNames,mg x=none
 fn:∀(f:Nat) (x:Str) (n:Nat),T.fn[f]? = some (x,n)→∀g,Γ.fn[f]? = some g→∃(j:Nat) (a:Addr) (fd:FuncData) (ps:List Str) (m:Nat) (gf:List D→RE ER),j≤k∧FnOk P w K mg base (L2.CX P w) j a fd ps (spD G (n+m) gf)∧mg x=some (.ref a)∧PySem.W.keepIn K (.ref a)=true∧Part K G fd ps n m g.2 gf
 gc:∀(i:Nat) (x:Str),T.gc[i]? = some x→∀c,Γ.gc[i]? = some c→∃u v,mg x=some u∧RelV v u∧(∀(P N R:Hp),Rep G P (LNb G.K P N R true) c.2 v)∧WrT G v
 mt:∀(m:Nat) (x:Str) (n:Nat),T.mn[m]? = some (x,n)→∀c g,Γ.mt c m=some g→Cls K (G.ca c)∧x∉G.fl c∧∃(j:Nat) (a:Addr) (fd:FuncData) (ps:List Str),j≤k∧Meth K (G.ca c) x a∧FnOk P w K mg base (L2.CX P w) j a fd ps (spD G (n+1) g)∧Binds K fd ps []
 fs:∀(f:Nat) (x:Str),T.fs[f]? = some x→∀c i,Γ.fi c f=some i→Cls K (G.ca c)∧NoAttr K (G.ca c) x∧(G.fl c)[i]? = some x∧(G.fl c).Nodup
 nw:∀(i:Nat) (x:Str) (n:Nat),T.nw[i]? = some (x,n)→∀g,Γ.nw[i]? = some g→(∃(j:Nat) (a:Addr) (fd:FuncData) (ps:List Str),j+1≤k∧Mk K (G.ca g.1) a∧FnOk P w K mg base (L2.CX P w) j a fd ps (spI G g.1 n g.2)∧mg x=some (.ref (G.ca g.1))∧Binds K fd ps []) ∨
  (n=0∧g.2 []=.ok []∧Mk0 K (G.ca g.1)∧G.fl g.1=[]∧mg x=some (.ref (G.ca g.1)))
 ck:∀(i:Nat) (x:Str) (own:Bool),T.ck[i]? = some (x,own)→CkOk G K mg x own Γ.ck[i]? Γ.ik[i]?
 xk:∀(i:Nat) (x:Str),T.xk[i]? = some x→∀c,Γ.xk[i]? = some c→RsOk K mg (G.ca c) x
 dc:∀(i:Nat) (x:Str),T.dc[i]? = some x→∀t,Γ.dc[i]? = some t→qum G K w mg x t.2
theorem qlX {G:Glo} {P N R:Hp}:∀{ds:List D} {vs:List V},Reps G P (SqL G.K R) ds vs→Reps G P (LNb G.K P N R false) ds vs:=fun {ds vs} h=>Reps.mono (L2.Same.refl _) ds vs LNb.ofR h
theorem qpC {C:Ctx} {ds:List D} {vs:List V} {N:List Str} {m:Nat} (hp:Same C.P0 C.B) (hr:Same C.R C.B) (h:Reps C.G C.P0 (SqL C.G.K C.R) ds vs) (hm:N.length=ds.length+m) :
  SR C C.P0 (fun _=>none) C.B (ds.map (fun d=>Sl.val d d.flat)++List.replicate m .non) (L2.start N vs) where
 reg:=⟨hp,fun _ _ e=>(nomatch e),L2.Same.refl _,hr,L2.Same.refl _,fun _ e=>.inl e,fun _ e=>absurd rfl e,fun _ e=>absurd rfl e⟩
 len:=by
  have:=h.length
  simp only[L2.start,List.length_append,List.length_map,List.length_replicate]
  try omega
 sl:=fun i s e=>by
  have hl:=h.length
  by_cases hi:i<ds.length
  ·rw[List.getElem?_append_left (by simpa using hi),List.getElem?_map,List.getElem?_eq_getElem hi] at e
   cases e
   obtain⟨v,q1,q2⟩:=(qlX (N:=fun _=>none) h).get (List.getElem?_eq_getElem hi)
   refine⟨some v,?_,v,rfl,RepB.nf (C:=C) q2⟩
   unfold L2.start
   rw[List.getElem?_append_left (by simp;omega),List.getElem?_map,q1]
   rfl
  ·rw[List.getElem?_append_right (by simpa using hi),List.getElem?_replicate] at e
   split at e
   ·rename_i hm'
    cases e
    refine⟨none,?_,trivial⟩
    unfold L2.start
    simp only[List.length_map] at hm'
    rw[List.getElem?_append_right (by simp;omega),List.getElem?_replicate,if_pos]
    simp only[List.length_map]
    omega
   ·cases e
 ap:=fun i j p es b es' c e1 _ _ _=>by
  exfalso
  have:=List.mem_of_getElem? e1
  rcases List.mem_append.mp this with z | z
  ·obtain⟨_,_,z⟩:=List.mem_map.mp z;cases z
  ·have:=List.eq_of_mem_replicate z;cases this
 ad:=AD.no fun i s e=>by
  rcases List.mem_append.mp (List.mem_of_getElem? e) with z | z
  ·obtain⟨_,_,rfl⟩:=List.mem_map.mp z;rfl
  ·rw[List.eq_of_mem_replicate z];rfl
 ar:=AR.no fun i s e=>by
  rcases List.mem_append.mp (List.mem_of_getElem? e) with z | z
  ·obtain⟨_,_,rfl⟩:=List.mem_map.mp z;rfl
  ·rw[List.eq_of_mem_replicate z];rfl
theorem qsg {P:Program} {w:World} {K:PySem.W.Frag} {mg:Str→Option Value} {base:Heap} {x qual:Str} {params:Arguments} {body:List Stmt} {scope:Scope} {dvs:List V} {kws:List (Str × V)} {f:Addr} {fd:FuncData} {T:Tb} {Γ:Env} {G:Glo} {k m:Nat} {ps:List Str} {ir:Sms}
  (F:FunD K x qual params body scope dvs kws f fd) (S:FnScope T.N ps scope) (hG:G.K=K) (tab:TabOk P w K mg base T Γ G k) (hm:T.N.length=ps.length+m) (hc:qah T scope ir body=true) :
  FnOk P w K mg base (L2.CX P w) (k+1) f fd ps (spD G ps.length (qcv Γ ps.length m ir)):=by
 refine F.ok S (fun vs H Q E h=>qq7 h) (fun cdv A outer s H vs Q E hr h=>?_)
 obtain⟨Pr,R,ds,h1,h2,h3,h4,h5⟩:=h
 let C:Ctx:=⟨G,R,H,Pr,fun cls d _ H'=>E cls d H',0,fun _=>none⟩
 have I:XOk T Γ C (cxOf (L2.CX P w) P w K mg base T.N qual scope f cdv A outer s H E) none scope:={
  nm:=rfl
  nd:=S.nd
  sc:=rfl
  K:=hG.symm
  tk:=takes_of rfl rfl rfl rfl
  fr:=fun _=>⟨rfl,rfl,rfl⟩
  calm:=rfl
  un:=by
   have h:=hr.un
   have e:(cxOf (L2.CX P w) P w K mg base T.N qual scope f cdv A outer s H E).A=A.deeper (envOfC qual scope s.heap.objs.size f cdv):=rfl
   rw[e]
   omega
  blt:=tab.blt
  fnc:=rfl
  fn:=fun i y n e g eg=>by
   obtain⟨j,a,fd',ps',m',gf,hj,q1,q2,q3,q4⟩:=tab.fn i y n e g eg
   exact⟨j,a,fd',ps',m',gf,q1,hr.mono hj,q2,q3,q4⟩
  gc:=fun i y e c ec=>by
   obtain⟨u,v,q1,q2,q3,q4⟩:=tab.gc i y e c ec
   exact⟨u,v,q1,q2,fun P N=>q3 P N R,q4⟩
  mt:=fun i y n e c g eg=>by
   obtain⟨q0,q1,j,a,fd',ps',hj,q2,q3,q4⟩:=tab.mt i y n e c g eg
   exact⟨q0,q1,j,a,fd',ps',q2,q3,hr.mono hj,q4⟩
  fs:=fun i y e c j ej=>by
   obtain⟨q0,q1,q2,q3⟩:=tab.fs i y e c j ej
   exact⟨q0,q1,q2,q3⟩
  nw:=fun i y n e g eg=>by
   rcases tab.nw i y n e g eg with⟨j,a,fd',ps',hj,q1,q2,q3,q4⟩ | q
   ·exact⟨.inl ⟨j,a,fd',ps',q1,q2,hr.mono hj,q3,q4⟩⟩
   ·exact⟨.inr q⟩
  ck:=tab.ck
  xk:=tab.xk
  dc:=tab.dc }
 have hp:PassesOwn (model (cxOf (L2.CX P w) P w K mg base T.N qual scope f cdv A outer s H E).prog (cxOf (L2.CX P w) P w K mg base T.N qual scope f cdv A outer s H E).w) (cxOf (L2.CX P w) P w K mg base T.N qual scope f cdv A outer s H E).A (cxOf (L2.CX P w) P w K mg base T.N qual scope f cdv A outer s H E).env (cxOf (L2.CX P w) P w K mg base T.N qual scope f cdv A outer s H E).xe:=
  passes_of (K:=fun e s''=>L2.CX P w outer H s E e s'') rfl
 refine⟨tS C (qao Γ ir),qnr I hp ⟨rfl,rfl,rfl⟩ ir hc,ds.map (fun d=>Sl.val d d.flat)++List.replicate m .non,Pr,fun _=>none,qpC (C:=C) h1 h2 h3 (by rw[hm,h4]),?_⟩
 unfold qcv at h5
 rw[if_pos h4] at h5
 have adv:∀{P' N' H':Hp},Reg C P' N' H'→Adv Pr (fun _=>none) H P' N' H':=fun {P' N' H'} r=>⟨r.bH,r.p0,fun _ _ e=>(nomatch e),r.pH,r.nH,r.pn,fun a q=>.inr (r.nw a q),fun a q q2=>absurd (r.dj a q) q2⟩
 cases e:qao Γ ir (ds.map (fun d=>Sl.val d d.flat)++List.replicate m .non) with
 |bad=>rw[e] at h5;exact h5.elim
 |brk ρ=>rw[e] at h5;exact h5.elim
 |cnt ρ=>rw[e] at h5;exact h5.elim
 |nx ρ=>rw[e] at h5;exact fun σ P' N' H' S' _ _=>h5 .non H' P' N' (adv S'.reg) rfl
 |ret er =>
  rw[e] at h5
  intro v P' N' H' r q
  exact h5 v H' P' N' (adv r) (by cases er<;>exact q)
 |exc c fs =>
  rw[e] at h5
  intro σ d P' N' H' r q
  exact h5 d H' P' N' (adv r) q
theorem qtX {C:Ctx} {P N P2:Hp} (hp:Same P P2) (hn:Same N P2) {ds:List D} {vs:List V} (h:RepsB C P N true ds vs):Reps C.G P2 (SqL C.G.K P2) ds vs:=Reps.mono hp ds vs (fun a xs q=>by
 rcases q with q | ⟨z,_⟩
 ·exact .inl (.inl (hn _ _ q))
 ·cases z) h
theorem qu3 {P:Program} {w:World} {K:PySem.W.Frag} {mg:Str→Option Value} {base:Heap} {x qual:Str} {params:Arguments} {body:List Stmt} {scope:Scope} {dvs:List V} {kws:List (Str × V)} {f:Addr} {fd:FuncData} {T:Tb} {Γ:Env} {G:Glo} {k m n c nf:Nat} {ps:List Str} {ir:Sms}
  (F:FunD K x qual params body scope dvs kws f fd) (S:FnScope T.N ps scope) (hG:G.K=K) (tab:TabOk P w K mg base T Γ G k) (hm:T.N.length=ps.length+m) (hn:ps.length=n+1) (hc:qah T scope ir body=true) (hf:(G.fl c).length=nf) :
  FnOk P w K mg base (L2.CX P w) (k+1) f fd ps (spI G c n (qlY Γ c nf n m ir)):=by
 refine F.ok S (fun vs H Q E h=>by rw[qrY h,hn]) (fun cdv A outer s H vs Q E hr h=>?_)
 obtain⟨x0,dx,H0,Pr,R,ds,us,rfl,rfl,hx,hdx,h1,h2,h3,h4,h5⟩:=h
 let C:Ctx:=⟨G,R,H0,Pr,fun cls d _ H'=>E cls d H',x0,fun _=>none⟩
 generalize eH:upd (upd H0 dx (.own x0)) x0 (.ins (G.ca c) dx [])=H at hr ⊢
 have H0x:Same H0 H:=fun a o e=>by
  rw[←eH,upd_ne (ne_of_none e hx),upd_ne (ne_of_none e hdx)]
  exact e
 have Hx:H x0=some (.ins (C.G.ca c) dx []):=by rw[←eH];exact upd_same
 have I:XOk T Γ C (cxOf (L2.CX P w) P w K mg base T.N qual scope f cdv A outer s H E) none scope:={
  nm:=rfl
  nd:=S.nd
  sc:=rfl
  K:=hG.symm
  tk:=takes_of rfl rfl rfl rfl
  fr:=fun _=>⟨rfl,rfl,rfl⟩
  calm:=rfl
  un:=by
   have h:=hr.un
   have e:(cxOf (L2.CX P w) P w K mg base T.N qual scope f cdv A outer s H E).A=A.deeper (envOfC qual scope s.heap.objs.size f cdv):=rfl
   rw[e]
   omega
  blt:=tab.blt
  fnc:=rfl
  fn:=fun i y n e g eg=>by
   obtain⟨j,a,fd',ps',m',gf,hj,q1,q2,q3,q4⟩:=tab.fn i y n e g eg
   exact⟨j,a,fd',ps',m',gf,q1,hr.mono hj,q2,q3,q4⟩
  gc:=fun i y e c ec=>by
   obtain⟨u,v,q1,q2,q3,q4⟩:=tab.gc i y e c ec
   exact⟨u,v,q1,q2,fun P N=>q3 P N R,q4⟩
  mt:=fun i y n e c g eg=>by
   obtain⟨q0,q1,j,a,fd',ps',hj,q2,q3,q4⟩:=tab.mt i y n e c g eg
   exact⟨q0,q1,j,a,fd',ps',q2,q3,hr.mono hj,q4⟩
  fs:=fun i y e c j ej=>by
   obtain⟨q0,q1,q2,q3⟩:=tab.fs i y e c j ej
   exact⟨q0,q1,q2,q3⟩
  nw:=fun i y n e g eg=>by
   rcases tab.nw i y n e g eg with⟨j,a,fd',ps',hj,q1,q2,q3,q4⟩ | q
   ·exact⟨.inl ⟨j,a,fd',ps',q1,q2,hr.mono hj,q3,q4⟩⟩
   ·exact⟨.inr q⟩
  ck:=tab.ck
  xk:=tab.xk
  dc:=tab.dc }
 have hp:PassesOwn (model (cxOf (L2.CX P w) P w K mg base T.N qual scope f cdv A outer s H E).prog (cxOf (L2.CX P w) P w K mg base T.N qual scope f cdv A outer s H E).w) (cxOf (L2.CX P w) P w K mg base T.N qual scope f cdv A outer s H E).A (cxOf (L2.CX P w) P w K mg base T.N qual scope f cdv A outer s H E).env (cxOf (L2.CX P w) P w K mg base T.N qual scope f cdv A outer s H E).xe:=
  passes_of (K:=fun e s''=>L2.CX P w outer H s E e s'') rfl
 have hl:=h3.length
 have st0:SR C Pr (fun _=>none) H (.slf c []::(ds.map (fun d=>Sl.val d d.flat)++List.replicate m .non)) (L2.start T.N (.ref x0::us)):=by
  refine⟨⟨h1.trans H0x,fun _ _ e=>(nomatch e),H0x,h2,L2.Same.refl _,fun _ e=>.inl e,fun _ e=>absurd rfl e,fun _ e=>absurd rfl e⟩,?_,fun i s e=>?_,fun i j p es b es' c' e1 _ _ _=>?_,AD.no fun i s e=>by
   cases i with
   |zero=>simp at e;subst e;rfl
   |succ i =>
    rcases List.mem_append.mp (List.mem_of_getElem? (show(ds.map (fun d=>Sl.val d d.flat)++List.replicate m .non)[i]? = some s by simpa using e)) with z | z
    ·obtain⟨_,_,rfl⟩:=List.mem_map.mp z;rfl
    ·rw[List.eq_of_mem_replicate z];rfl,AR.no fun i s e=>by
   cases i with
   |zero=>simp at e;subst e;rfl
   |succ i =>
    rcases List.mem_append.mp (List.mem_of_getElem? (show(ds.map (fun d=>Sl.val d d.flat)++List.replicate m .non)[i]? = some s by simpa using e)) with z | z
    ·obtain⟨_,_,rfl⟩:=List.mem_map.mp z;rfl
    ·rw[List.eq_of_mem_replicate z];rfl⟩
  ·simp only[L2.start,List.length_append,List.length_map,List.length_replicate,List.length_cons]
   omega
  ·cases i with
   |zero =>
    simp at e
    subst e
    exact⟨_,by simp[L2.start],x0,dx,[],⟨rfl,rfl⟩,by rw[Hx];simp,h1.free hx,rfl,hx,Nat.zero_le _,rfl⟩
   |succ i =>
    have e:(ds.map (fun d=>Sl.val d d.flat)++List.replicate m .non)[i]? = some s:=by simpa using e
    by_cases hi:i<ds.length
    ·rw[List.getElem?_append_left (by simpa using hi),List.getElem?_map,List.getElem?_eq_getElem hi] at e
     cases e
     obtain⟨v,q1,q2⟩:=(qlX (N:=fun _=>none) h3).get (List.getElem?_eq_getElem hi)
     refine⟨some v,?_,v,rfl,RepB.nf (C:=C) q2⟩
     unfold L2.start
     rw[List.getElem?_append_left (by simp;omega),List.getElem?_map,List.getElem?_cons_succ,q1]
     rfl
    ·rw[List.getElem?_append_right (by simpa using hi),List.getElem?_replicate] at e
     split at e
     ·rename_i hm'
      cases e
      refine⟨none,?_,trivial⟩
      unfold L2.start
      simp only[List.length_map] at hm'
      rw[List.getElem?_append_right (by simp;omega),List.getElem?_replicate,if_pos]
      simp only[List.length_map,List.length_cons]
      omega
     ·cases e
  ·exfalso
   cases i with
   |zero=>simp at e1
   |succ i =>
    have:=List.mem_of_getElem? (show(ds.map (fun d=>Sl.val d d.flat)++List.replicate m .non)[i]? = some (.own es b) by simpa using e1)
    rcases List.mem_append.mp this with z | z
    ·obtain⟨_,_,z⟩:=List.mem_map.mp z;cases z
    ·have:=List.eq_of_mem_replicate z;cases this
 refine⟨tS C (qao Γ ir),qnr I hp ⟨rfl,rfl,rfl⟩ ir hc,_,Pr,fun _=>none,st0,?_⟩
 unfold qlY at h5
 rw[if_pos h4] at h5
 cases e:qao Γ ir (.slf c []::(ds.map (fun d=>Sl.val d d.flat)++List.replicate m .non)) with
 |bad=>rw[e] at h5;exact h5.elim
 |brk ρ=>rw[e] at h5;exact h5.elim
 |cnt ρ=>rw[e] at h5;exact h5.elim
 |ret er=>rw[e] at h5;exact h5.elim
 |exc c fs =>
  rw[e] at h5
  intro σ d P' N' H' r q
  exact h5 d H' P' N' ⟨r.bH,r.p0,fun _ _ e=>(nomatch e),r.pH,r.nH,r.pn,fun a q=>.inr (r.nw a q),fun a q q2=>absurd (r.dj a q) q2⟩ q
 |nx ρ =>
  rw[e] at h5
  intro σ P' N' H' S' e1 e2
  cases ρ with
  |nil=>exact h5.elim
  |cons s0 r =>
   cases s0 with
   |non=>exact h5.elim
   |val _ _=>exact h5.elim
   |own _ _=>exact h5.elim
   |fxd _ _=>exact h5.elim
   |dct _ _=>exact h5.elim
   |row _=>exact h5.elim
   |slf c' fs =>
    simp only at h5
    by_cases hc':c'=c
    ·rw[if_pos hc'] at h5
     by_cases hfs:fs.length=nf
     ·rw[if_pos hfs] at h5
      subst hc'
      obtain⟨o,z1,p,dx',xs,⟨ep,rfl⟩,z2,z3,z4,z5,z6,z7⟩:=S'.sl 0 _ rfl
      have ep:p=x0:=ep
      subst ep
      have rg:=S'.reg
      have z3':un2 P' N' H' p=none:=by
       unfold un2
       rw[if_neg]
       rintro(z | z)
       ·exact z z3
       ·exact z z4
      refine h5 H' (upd (un2 P' N' H') p (.ins (G.ca c') dx' ((G.fl c').zip xs))) rg.bH ((rg.p0.trans (qpb rg.pH)).trans (qaA z3')) (qlg qto z2) (fun a ha=>?_) ⟨p,dx',xs,rfl,upd_same,by rw[hfs,hf],qtX (C:=C) ((qpb rg.pH).trans (qaA z3')) ((qmO rg.nH).trans (qaA z3')) z7⟩
      by_cases q:a=p
      ·rw[q];exact .inr hx
      ·rw[upd_ne q] at ha
       unfold un2 at ha
       split at ha
       ·rename_i z
        rcases z with z | z
        ·exact rg.pn a z
        ·exact .inr (rg.nw a z)
       ·exact absurd rfl ha
     ·rw[if_neg hfs] at h5;exact h5.elim
    ·rw[if_neg hc'] at h5;exact h5.elim
end Cm
namespace Cm
open PySem PySem.Spec PyProof.Rows L2 PySem.W
structure DefAt (P:Program) (w:World) (K:PySem.W.Frag) (mg:Str→Option Value) (base:Heap) (G:Glo) (k:Nat) (x:Str) (n:Nat) (g:List D→RE ER):Prop where
 ex:∃(j:Nat) (a:Addr) (fd:FuncData) (ps:List Str) (m:Nat) (gf:List D→RE ER),j≤k∧FnOk P w K mg base (L2.CX P w) j a fd ps (spD G (n+m) gf)∧mg x=some (.ref a)∧PySem.W.keepIn K (.ref a)=true∧Part K G fd ps n m g gf
theorem DefAt.mono {P:Program} {w:World} {K:PySem.W.Frag} {mg:Str→Option Value} {base:Heap} {G:Glo} {k k':Nat} {x:Str} {n:Nat} {g:List D→RE ER} (h:DefAt P w K mg base G k x n g) (e:k≤k'):DefAt P w K mg base G k' x n g:=by
 obtain⟨⟨j,a,fd,ps,m,gf,q,r⟩⟩:=h
 exact⟨⟨j,a,fd,ps,m,gf,Nat.le_trans q e,r⟩⟩
def FnsOk (P:Program) (w:World) (K:PySem.W.Frag) (mg:Str→Option Value) (base:Heap) (G:Glo) (k:Nat):List (Str × Nat)→List (Str × (List D→RE ER))→Prop
 |t::ts,g::gs=>DefAt P w K mg base G k t.1 t.2 g.2∧FnsOk P w K mg base G k ts gs
 |_,_=>True
theorem FnsOk.get {P:Program} {w:World} {K:PySem.W.Frag} {mg:Str→Option Value} {base:Heap} {G:Glo} {k:Nat}:∀{ts:List (Str × Nat)} {gs:List (Str × (List D→RE ER))},FnsOk P w K mg base G k ts gs →
  ∀(f:Nat) (x:Str) (n:Nat),ts[f]? = some (x,n)→∀g,gs[f]? = some g→∃(j:Nat) (a:Addr) (fd:FuncData) (ps:List Str) (m:Nat) (gf:List D→RE ER),j≤k∧FnOk P w K mg base (L2.CX P w) j a fd ps (spD G (n+m) gf)∧mg x=some (.ref a)∧PySem.W.keepIn K (.ref a)=true∧Part K G fd ps n m g.2 gf
 |[],_,_,f,x,n,e,_,_=>by simp at e
 |_::_,[],_,f,x,n,_,g,e=>by simp at e
 |t::ts,g::gs,⟨h,hs⟩,0,x,n,e,g',e'=>by
  simp at e e'
  subst e e'
  exact h.ex
 |t::ts,g::gs,⟨h,hs⟩,f+1,x,n,e,g',e'=>FnsOk.get hs f x n (by simpa using e) g' (by simpa using e')
theorem qsQ {fa:List He.Fa} {fn:List He.DefD} {K:PySem.W.Frag} {h:Heap} {mg:Str→Option Value} (c:He.SaysD (bltNames.map He.Fa.free++fa) fn K) (X:K.In h) (N:h.Ns mainGlobals mg):∀x∈bltNames,mg x=none:=fun x hx=>by
 have hm:He.Fa.free x∈bltNames.map He.Fa.free++fa:=List.mem_append_left _ (List.mem_map_of_mem hx)
 obtain⟨i,hi⟩:=List.getElem?_of_mem hm
 exact He.free_ok X N (c.fact i hi)
structure MthAt (P:Program) (w:World) (K:PySem.W.Frag) (mg:Str→Option Value) (base:Heap) (G:Glo) (k:Nat) (c:Nat) (x:Str) (n:Nat) (g:List D→RE ER):Prop where
 ex:Cls K (G.ca c)∧x∉G.fl c∧∃(j:Nat) (a:Addr) (fd:FuncData) (ps:List Str),j≤k∧Meth K (G.ca c) x a∧FnOk P w K mg base (L2.CX P w) j a fd ps (spD G (n+1) g)∧Binds K fd ps []
theorem MthAt.mono {P:Program} {w:World} {K:PySem.W.Frag} {mg:Str→Option Value} {base:Heap} {G:Glo} {k k' c:Nat} {x:Str} {n:Nat} {g:List D→RE ER} (h:MthAt P w K mg base G k c x n g) (e:k≤k'):MthAt P w K mg base G k' c x n g:=by
 obtain⟨h1,h2,j,a,fd,ps,q,r⟩:=h
 exact⟨h1,h2,j,a,fd,ps,Nat.le_trans q e,r⟩
def MtsOk (P:Program) (w:World) (K:PySem.W.Frag) (mg:Str→Option Value) (base:Heap) (G:Glo) (k:Nat) (mn:List (Str × Nat)):List (Nat × Nat × (List D→RE ER))→Prop
 |[]=>True
 |t::ts=>(∀x n,mn[t.2.1]? = some (x,n)→MthAt P w K mg base G k t.1 x n t.2.2)∧MtsOk P w K mg base G k mn ts
theorem MtsOk.get {P:Program} {w:World} {K:PySem.W.Frag} {mg:Str→Option Value} {base:Heap} {G:Glo} {k:Nat} {mn:List (Str × Nat)}:∀{ts:List (Nat × Nat × (List D→RE ER))},MtsOk P w K mg base G k mn ts →
  ∀(m:Nat) (x:Str) (n:Nat),mn[m]? = some (x,n)→∀c g,qay ts c m=some g→MthAt P w K mg base G k c x n g
 |[],_,m,x,n,_,c,g,e=>by cases e
 |t::ts,⟨h,hs⟩,m,x,n,e,c,g,e'=>by
  unfold qay at e'
  split at e'
  ·rename_i h1
   split at e'
   ·rename_i h2
    subst h1 h2
    cases e'
    exact h x n e
   ·exact MtsOk.get hs m x n e c g e'
  ·exact MtsOk.get hs m x n e c g e'
def quZ (K:PySem.W.Frag) (G:Glo) (c i:Nat) (x:Str):Prop:=Cls K (G.ca c)∧NoAttr K (G.ca c) x∧(G.fl c)[i]? = some x∧(G.fl c).Nodup
def FdsOk (K:PySem.W.Frag) (G:Glo) (fs:List Str):List (Nat × Nat × Nat)→Prop
 |[]=>True
 |t::ts=>(∀x,fs[t.2.1]? = some x→quZ K G t.1 t.2.2 x)∧FdsOk K G fs ts
theorem FdsOk.get {K:PySem.W.Frag} {G:Glo} {fs:List Str}:∀{ts:List (Nat × Nat × Nat)},FdsOk K G fs ts→∀(f:Nat) (x:Str),fs[f]? = some x→∀c i,qaB ts c f=some i→quZ K G c i x
 |[],_,f,x,_,c,i,e=>by cases e
 |t::ts,⟨h,hs⟩,f,x,e,c,i,e'=>by
  unfold qaB at e'
  split at e'
  ·rename_i h1
   split at e'
   ·rename_i h2
    subst h1 h2
    cases e'
    exact h x e
   ·exact FdsOk.get hs f x e c i e'
  ·exact FdsOk.get hs f x e c i e'
structure NwAt (P:Program) (w:World) (K:PySem.W.Frag) (mg:Str→Option Value) (base:Heap) (G:Glo) (k:Nat) (x:Str) (n:Nat) (c:Nat) (g:List D→RE (List D)):Prop where
 ex:(∃(j:Nat) (a:Addr) (fd:FuncData) (ps:List Str),j+1≤k∧Mk K (G.ca c) a∧FnOk P w K mg base (L2.CX P w) j a fd ps (spI G c n g)∧mg x=some (.ref (G.ca c))∧Binds K fd ps []) ∨
  (n=0∧g []=.ok []∧Mk0 K (G.ca c)∧G.fl c=[]∧mg x=some (.ref (G.ca c)))
theorem NwAt.mono {P:Program} {w:World} {K:PySem.W.Frag} {mg:Str→Option Value} {base:Heap} {G:Glo} {k k':Nat} {x:Str} {n c:Nat} {g:List D→RE (List D)} (h:NwAt P w K mg base G k x n c g) (e:k≤k'):NwAt P w K mg base G k' x n c g:=by
 rcases h.ex with⟨j,a,fd,ps,q,r⟩ | q
 ·exact⟨.inl ⟨j,a,fd,ps,Nat.le_trans q e,r⟩⟩
 ·exact⟨.inr q⟩
def NwsOk (P:Program) (w:World) (K:PySem.W.Frag) (mg:Str→Option Value) (base:Heap) (G:Glo) (k:Nat):List (Str × Nat)→List (Nat × (List D→RE (List D)))→Prop
 |t::ts,g::gs=>NwAt P w K mg base G k t.1 t.2 g.1 g.2∧NwsOk P w K mg base G k ts gs
 |_,_=>True
theorem NwsOk.get {P:Program} {w:World} {K:PySem.W.Frag} {mg:Str→Option Value} {base:Heap} {G:Glo} {k:Nat}:∀{ts:List (Str × Nat)} {gs:List (Nat × (List D→RE (List D)))},NwsOk P w K mg base G k ts gs →
  ∀(f:Nat) (x:Str) (n:Nat),ts[f]? = some (x,n)→∀g,gs[f]? = some g→NwAt P w K mg base G k x n g.1 g.2
 |[],_,_,f,x,n,e,_,_=>by simp at e
 |_::_,[],_,f,x,n,_,g,e=>by simp at e
 |t::ts,g::gs,⟨h,hs⟩,0,x,n,e,g',e'=>by
  simp at e e'
  subst e e'
  exact h
 |t::ts,g::gs,⟨h,hs⟩,f+1,x,n,e,g',e'=>NwsOk.get hs f x n (by simpa using e) g' (by simpa using e')
def qug (G:Glo) (mg:Str→Option Value) (x:Str) (c:D):Prop:=∃u v,mg x=some u∧RelV v u∧(∀(P N R:Hp),Rep G P (LNb G.K P N R true) c v)∧WrT G v
def GcsOk (G:Glo) (mg:Str→Option Value):List Str→List (Str × D)→Prop
 |t::ts,g::gs=>qug G mg t g.2∧GcsOk G mg ts gs
 |_,_=>True
theorem GcsOk.get {G:Glo} {mg:Str→Option Value}:∀{ts:List Str} {gs:List (Str × D)},GcsOk G mg ts gs→∀(f:Nat) (x:Str),ts[f]? = some x→∀g,gs[f]? = some g→qug G mg x g.2
 |[],_,_,f,x,e,_,_=>by simp at e
 |_::_,[],_,f,x,_,g,e=>by simp at e
 |t::ts,g::gs,⟨h,hs⟩,0,x,e,g',e'=>by
  simp at e e'
  subst e e'
  exact h
 |t::ts,g::gs,⟨h,hs⟩,f+1,x,e,g',e'=>GcsOk.get hs f x (by simpa using e) g' (by simpa using e')
theorem qt9 {K:PySem.W.Frag} {h:Heap} {mg:Str→Option Value} {G:Glo} {fa:List He.Fa} {fn:List He.DefD} {x:Str} {s:List Nat} {j:Nat} (c:He.SaysD fa fn K) (X:K.In h) (N:h.Ns mainGlobals mg) (hx:fa[j]? = some (.str x ⟨s.toArray⟩)):qug G mg x (.str s):=by
 obtain⟨t,e⟩:=He.str_ok X N (c.fact j hx)
 exact⟨_,.str ⟨s.toArray⟩,e,⟨t,rfl⟩,fun _ _ _=>rfl,fun _ z=>nomatch z⟩
theorem qi5 {K:PySem.W.Frag} {h:Heap} {mg:Str→Option Value} {G:Glo} {fa:List He.Fa} {fn:List He.DefD} {x:Str} {i:Int} {j:Nat} (c:He.SaysD fa fn K) (X:K.In h) (N:h.Ns mainGlobals mg) (hx:fa[j]? = some (.int x i)):qug G mg x (.int i):=by
 obtain⟨t,e⟩:=He.int_ok X N (c.fact j hx)
 exact⟨_,.int i,e,⟨t,rfl⟩,fun _ _ _=>rfl,fun _ z=>nomatch z⟩
theorem qqI {xa:List Xa} {K:PySem.W.Frag} (h:qsP xa K=true) {i:Nat} {a:Xa} (e:xa[i]? = some a):a.ok K=true:=List.all_eq_true.mp h a (List.mem_of_getElem? e)
theorem qte {K:PySem.W.Frag} {x d:Str} {own b:Bool} (h:(Xa.ck x own d b).ok K=true):PySem.W.kitOne K (.ref (He.ga K d)) (cv K x own)=some b∧PySem.W.exmOne K (.ref (He.ga K d)) (cv K x own)=some b∧ExcC K (He.ga K d):=by
 unfold Xa.ok at h
 simp only[Bool.and_eq_true,decide_eq_true_eq] at h
 obtain⟨h1,h2,h3,h4,h5,h6,h7,h8,h9,h10⟩:=h
 exact⟨h1,h2,⟨He.eqO_ok h3,He.eqO_ok h4,h5,h6,He.eqO_ok h7,He.eqO_ok h8,h9,h10⟩⟩
theorem qsW {K:PySem.W.Frag} {x d:Str} {own b:Bool} (h:(Xa.ik x own d b).ok K=true):PySem.W.kitOne K (.ref (He.ga K d)) (cv K x own)=some b∧InsC K (He.ga K d):=by
 unfold Xa.ok at h
 simp only[Bool.and_eq_true,decide_eq_true_eq] at h
 obtain⟨h1,h2,h3,h4,h5,h6⟩:=h
 exact⟨h1,⟨He.cls_ok h2,He.eqO_ok h3,He.eqO_ok h4,h5,h6⟩⟩
def qtv (G:Glo) (K:PySem.W.Frag) (x:Str) (own:Bool) (t:List (Nat × Bool)):Prop:=∀c b,t.lookup c=some b→PySem.W.kitOne K (.ref (G.ca c)) (cv K x own)=some b∧PySem.W.exmOne K (.ref (G.ca c)) (cv K x own)=some b∧ExcC K (G.ca c)
def qsY (G:Glo) (K:PySem.W.Frag) (x:Str) (own:Bool) (t:List (Nat × Bool)):Prop:=∀c b,t.lookup c=some b→PySem.W.kitOne K (.ref (G.ca c)) (cv K x own)=some b∧InsC K (G.ca c)
theorem qc5 {G:Glo} {K:PySem.W.Frag} {x:Str} {own:Bool}:qtv G K x own []:=fun c b e=>by cases e
theorem qcX {G:Glo} {K:PySem.W.Frag} {x:Str} {own:Bool}:qsY G K x own []:=fun c b e=>by cases e
theorem qae {G:Glo} {K:PySem.W.Frag} {x d:Str} {own b0:Bool} {c0 j:Nat} {t:List (Nat × Bool)} {xa:List Xa} (h:qsP xa K=true) (e:xa[j]? = some (.ck x own d b0)) (hc:G.ca c0=He.ga K d) (ht:qtv G K x own t):qtv G K x own ((c0,b0)::t):=fun c b q=>by
 rw[List.lookup_cons] at q
 split at q
 ·rename_i z
  have z:c=c0:=by simpa using z
  subst z
  cases q
  rw[hc]
  exact qte (qqI h e)
 ·exact ht c b q
theorem qaa {G:Glo} {K:PySem.W.Frag} {x d:Str} {own b0:Bool} {c0 j:Nat} {t:List (Nat × Bool)} {xa:List Xa} (h:qsP xa K=true) (e:xa[j]? = some (.ik x own d b0)) (hc:G.ca c0=He.ga K d) (ht:qsY G K x own t):qsY G K x own ((c0,b0)::t):=fun c b q=>by
 rw[List.lookup_cons] at q
 split at q
 ·rename_i z
  have z:c=c0:=by simpa using z
  subst z
  cases q
  rw[hc]
  exact qsW (qqI h e)
 ·exact ht c b q
theorem qdr {K:PySem.W.Frag} {h:Heap} {mg:Str→Option Value} {G:Glo} {fa:List He.Fa} {fn:List He.DefD} {x:Str} {j:Nat} {t1 t2:List (Nat × Bool)} (c:He.SaysD fa fn K) (X:K.In h) (N:h.Ns mainGlobals mg) (hx:fa[j]? = some (.glo x)) (h1:qtv G K x true t1) (h2:qsY G K x true t2) :
  CkOk G K mg x true (some fun c=>t1.lookup c) (some fun c=>t2.lookup c):=
 ⟨.ref (He.ga K x),.ref (He.ga K x),⟨.own _,He.glo_ok X N (c.fact j hx)⟩,fun g e c b q=>by cases e;exact h1 c b q,fun g e c b q=>by cases e;exact h2 c b q⟩
theorem qvl {K:PySem.W.Frag} {mg:Str→Option Value} {G:Glo} {t1 t2:List (Nat × Bool)} (h1:qtv G K "ValueError" false t1) (h2:qsY G K "ValueError" false t2) :
  CkOk G K mg "ValueError" false (some fun c=>t1.lookup c) (some fun c=>t2.lookup c):=
 ⟨.ty "ValueError",.type "ValueError",⟨.ty _,rfl,rfl⟩,fun g e c b q=>by cases e;exact h1 c b q,fun g e c b q=>by cases e;exact h2 c b q⟩
def CksOk (G:Glo) (K:PySem.W.Frag) (mg:Str→Option Value):List (Str × Bool)→List (Nat→Option Bool)→List (Nat→Option Bool)→Prop
 |t::ts,a::as,b::bs=>CkOk G K mg t.1 t.2 (some a) (some b)∧CksOk G K mg ts as bs
 |[],_,_=>True
 |_,_,_=>False
theorem CksOk.get {G:Glo} {K:PySem.W.Frag} {mg:Str→Option Value}:∀{ts:List (Str × Bool)} {as bs:List (Nat→Option Bool)},CksOk G K mg ts as bs→∀(f:Nat) (x:Str) (own:Bool),ts[f]? = some (x,own)→CkOk G K mg x own as[f]? bs[f]?
 |[],_,_,_,f,x,own,e=>by simp at e
 |_::_,[],_,h,f,x,own,e=>h.elim
 |_::_,_::_,[],h,f,x,own,e=>h.elim
 |t::ts,a::as,b::bs,⟨h,hs⟩,0,x,own,e=>by
  simp at e
  subst e
  exact h
 |t::ts,a::as,b::bs,⟨h,hs⟩,f+1,x,own,e=>by
  simp only[List.getElem?_cons_succ]
  exact CksOk.get hs f x own (by simpa using e)
theorem rs1 {K:PySem.W.Frag} {h:Heap} {mg:Str→Option Value} {G:Glo} {fa:List He.Fa} {fn:List He.DefD} {x:Str} {j j2 c0:Nat} (c:He.SaysD fa fn K) (X:K.In h) (N:h.Ns mainGlobals mg) (hx:fa[j]? = some (.glo x)) (hx2:fa[j2]? = some (.exc x)) (hc:G.ca c0=He.ga K x):RsOk K mg (G.ca c0) x:=by
 obtain⟨h1,h2,h3,h4⟩:=He.exc_ok (c.fact j2 hx2)
 rw[hc]
 exact⟨He.glo_ok X N (c.fact j hx),h1,h2,h3,h4⟩
def XksOk (G:Glo) (K:PySem.W.Frag) (mg:Str→Option Value):List Str→List Nat→Prop
 |t::ts,c::cs=>RsOk K mg (G.ca c) t∧XksOk G K mg ts cs
 |_,_=>True
theorem XksOk.get {G:Glo} {K:PySem.W.Frag} {mg:Str→Option Value}:∀{ts:List Str} {cs:List Nat},XksOk G K mg ts cs→∀(f:Nat) (x:Str),ts[f]? = some x→∀c,cs[f]? = some c→RsOk K mg (G.ca c) x
 |[],_,_,f,x,e,_,_=>by simp at e
 |_::_,[],_,f,x,_,c,e=>by simp at e
 |t::ts,g::gs,⟨h,hs⟩,0,x,e,g',e'=>by
  simp at e e'
  subst e e'
  exact h
 |t::ts,g::gs,⟨h,hs⟩,f+1,x,e,g',e'=>XksOk.get hs f x (by simpa using e) g' (by simpa using e')
def DcsOk (G:Glo) (K:PySem.W.Frag) (w:World) (mg:Str→Option Value):List Str→List (Str × List (List Nat × Option D))→Prop
 |t::ts,g::gs=>qum G K w mg t g.2∧DcsOk G K w mg ts gs
 |_,_=>True
theorem DcsOk.get {G:Glo} {K:PySem.W.Frag} {w:World} {mg:Str→Option Value}:∀{ts:List Str} {gs:List (Str × List (List Nat × Option D))},DcsOk G K w mg ts gs→∀(f:Nat) (x:Str),ts[f]? = some x→∀g,gs[f]? = some g→qum G K w mg x g.2
 |[],_,_,f,x,e,_,_=>by simp at e
 |_::_,[],_,f,x,_,g,e=>by simp at e
 |t::ts,g::gs,⟨h,hs⟩,0,x,e,g',e'=>by
  simp at e e'
  subst e e'
  exact h
 |t::ts,g::gs,⟨h,hs⟩,f+1,x,e,g',e'=>DcsOk.get hs f x (by simpa using e) g' (by simpa using e')
theorem qdf {P:Program} {w:World} {K:PySem.W.Frag} {h:Heap} {mg:Str→Option Value} {base:Heap} {G:Glo} {fa:List He.Fa} {fn:List He.DefD} {T:Tb} {Γ:Env} {k:Nat} {mts:List (Nat × Nat × (List D→RE ER))} {fds:List (Nat × Nat × Nat)}
  (c:He.SaysD (bltNames.map He.Fa.free++fa) fn K) (X:K.In h) (N:h.Ns mainGlobals mg) (hf:FnsOk P w K mg base G k T.fn Γ.fn) (hgc:GcsOk G mg T.gc Γ.gc) (hmt:Γ.mt=qay mts) (hm:MtsOk P w K mg base G k T.mn mts)
  (hfi:Γ.fi=qaB fds) (hfd:FdsOk K G T.fs fds) (hnw:NwsOk P w K mg base G k T.nw Γ.nw) (hck:CksOk G K mg T.ck Γ.ck Γ.ik) (hxk:XksOk G K mg T.xk Γ.xk) (hdc:DcsOk G K w mg T.dc Γ.dc):TabOk P w K mg base T Γ G k where
 blt:=qsQ c X N
 fn:=hf.get
 gc:=hgc.get
 mt:=fun m x n e c g e'=>by
  rw[hmt] at e'
  exact(hm.get m x n e c g e').ex
 fs:=fun f x e c i e'=>by
  rw[hfi] at e'
  exact hfd.get f x e c i e'
 nw:=fun i x n e g e'=>(hnw.get i x n e g e').ex
 ck:=hck.get
 xk:=hxk.get
 dc:=hdc.get
section
variable {P:Program} {w:World} {K:PySem.W.Frag} {h:Heap} {mg:Str→Option Value} {base:Heap} {G:Glo} {fa:List He.Fa} {fn:List He.DefD} {T:Tb} {Γ:Env} {k m i j:Nat} {ir:Sms} {ps:List Str} {d:He.DefD} {x y:Str}
theorem qhq (c:He.SaysD fa fn K) (X:K.In h) (N:h.Ns mainGlobals mg) (hG:G.K=K) (hd:fn[i]? = some d) (hat:d.at_=(x,none)) (hdf:d.dfl=[]) (hkw:d.kwd=[]) (hx:fa[j]? = some (.glo x))
  (S:FnScope T.N ps d.scope) (hm:T.N.length=ps.length+m) (hc:qah T d.scope ir d.body=true)
  (hb:∀(kV doc pm:Value) (an:Option Addr) (cdv ct:Value) (us:List Value),us.length=ps.length→bindArgs (PySem.W.fnOf d.name d.qual d.params d.body d.scope .none kV doc pm an cdv ct) ⟨us,[]⟩=pure (ps.zip us))
  (tab:TabOk P w K mg base T Γ G k):DefAt P w K mg base G (k+1) x ps.length (qcv Γ ps.length m ir):=by
 obtain⟨fd,F⟩:=c.def_ i hd
 have e1:d.dvs K=[]:=by unfold He.DefD.dvs;rw[hdf];rfl
 have e2:d.kws K=[]:=by unfold He.DefD.kws;rw[hkw];rfl
 rw[e1,e2,hat] at F
 exact⟨⟨k+1,_,fd,ps,0,_,Nat.le_refl _,qsg F S hG tab hm hc,He.glo_ok X N (c.fact j hx),F.kp,Part.all (FunD.bindsN F hb)⟩⟩
theorem FnOk.bad {P:Program} {w:World} {K:PySem.W.Frag} {mg:Str→Option Value} {base:Heap} {CX:CXT} {k n:Nat} {f:Addr} {fd:FuncData} {ps:List Str} {G:Glo}:FnOk P w K mg base CX k f fd ps (spD G n fun _=>.bad):=
 ⟨fun _ _ _ _ ⟨_,_,_,_,_,_,_,h⟩=>h.elim,fun _ _ _ _ _ _ _ _ _ _ _ _ _ ⟨_,_,_,_,_,_,_,h⟩=>h.elim⟩
theorem qfL {cn n j2:Nat} (c:He.SaysD fa fn K) (hG:G.K=K) (hd:fn[i]? = some d) (hat:d.at_=(x,some y)) (hdf:d.dfl=[]) (hkw:d.kwd=[]) (hx:fa[j]? = some (.meth x y)) (hx2:fa[j2]? = some (.cls x)) (hca:G.ca cn=He.ga K x) (hfl:y∉G.fl cn) (hn:ps.length=n+1)
  (S:FnScope T.N ps d.scope) (hm:T.N.length=ps.length+m) (hc:qah T d.scope ir d.body=true)
  (hb:∀(kV doc pm:Value) (an:Option Addr) (cdv ct:Value) (us:List Value),us.length=ps.length→bindArgs (PySem.W.fnOf d.name d.qual d.params d.body d.scope .none kV doc pm an cdv ct) ⟨us,[]⟩=pure (ps.zip us))
  (tab:TabOk P w K mg base T Γ G k):MthAt P w K mg base G (k+1) cn y n (qcv Γ (n+1) m ir):=by
 obtain⟨fd,F⟩:=c.def_ i hd
 have e1:d.dvs K=[]:=by unfold He.DefD.dvs;rw[hdf];rfl
 have e2:d.kws K=[]:=by unfold He.DefD.kws;rw[hkw];rfl
 rw[e1,e2,hat] at F
 have M:=He.meth_ok (c.fact j hx)
 have O:=qsg F S hG tab hm hc
 rw[hn] at O
 exact⟨hca ▸ He.cls_ok (c.fact j2 hx2),hfl,k+1,_,fd,ps,Nat.le_refl _,hca ▸ M,O,FunD.bindsN F hb⟩
theorem qpJ {cn n nf j2:Nat} (c:He.SaysD fa fn K) (X:K.In h) (N:h.Ns mainGlobals mg) (hG:G.K=K) (hd:fn[i]? = some d) (hat:d.at_=(x,some ("__init__" : Str))) (hdf:d.dfl=[]) (hkw:d.kwd=[]) (hx:fa[j]? = some (.mkr x)) (hx2:fa[j2]? = some (.glo x)) (hca:G.ca cn=He.ga K x) (hn:ps.length=n+1) (hnf:(G.fl cn).length=nf)
  (S:FnScope T.N ps d.scope) (hm:T.N.length=ps.length+m) (hc:qah T d.scope ir d.body=true)
  (hb:∀(kV doc pm:Value) (an:Option Addr) (cdv ct:Value) (us:List Value),us.length=ps.length→bindArgs (PySem.W.fnOf d.name d.qual d.params d.body d.scope .none kV doc pm an cdv ct) ⟨us,[]⟩=pure (ps.zip us))
  (tab:TabOk P w K mg base T Γ G k):NwAt P w K mg base G (k+2) x n cn (qlY Γ cn nf n m ir):=by
 obtain⟨fd,F⟩:=c.def_ i hd
 have e1:d.dvs K=[]:=by unfold He.DefD.dvs;rw[hdf];rfl
 have e2:d.kws K=[]:=by unfold He.DefD.kws;rw[hkw];rfl
 rw[e1,e2,hat] at F
 have M:=He.mkr_ok (c.fact j hx)
 exact⟨.inl ⟨k+1,_,fd,ps,Nat.le_refl _,hca ▸ M,qu3 F S hG tab hm hn hc hnf,hca ▸ He.glo_ok X N (c.fact j2 hx2),FunD.bindsN F hb⟩⟩
theorem fd1 {cn n j2:Nat} (c:He.SaysD fa fn K) (hx:fa[j]? = some (.cls x)) (hx2:fa[j2]? = some (.noat x y)) (hca:G.ca cn=He.ga K x) (h1:(G.fl cn)[n]? = some y) (h2:(G.fl cn).Nodup):quZ K G cn n y:=
 ⟨hca ▸ He.cls_ok (c.fact j hx),hca ▸ He.noat_ok (c.fact j2 hx2),h1,h2⟩
end
theorem qv7 {P:Program} {w:World} {K:PySem.W.Frag} {h:Heap} {mg:Str→Option Value} {G:Glo} {fa:List He.Fa} {fn:List He.DefD} {T:Tb} {Γ:Env} {k m i j:Nat} {ir:Sms} {y:Str} {d:He.DefD} {x:Str} {f:Addr}
  (c:He.SaysD fa fn K) (X:K.In h) (N:h.Ns mainGlobals mg) (hG:G.K=K) (hd:fn[i]? = some d) (hat:d.at_=(x,none)) (hdf:d.dfl=[]) (hkw:d.kwd=[]) (hx:fa[j]? = some (.glo x)) (hfa:mg x=some (.ref f))
  (S:FnScope T.N [y] d.scope) (hm:T.N.length=1+m) (hc:qah T d.scope ir d.body=true)
  (hb:∀(kV doc pm:Value) (an:Option Addr) (cdv ct:Value) (us:List Value),us.length=1→bindArgs (PySem.W.fnOf d.name d.qual d.params d.body d.scope .none kV doc pm an cdv ct) ⟨us,[]⟩=pure ([y].zip us))
  (tab:∀base:Heap,K.In base→base.Ns mainGlobals mg→TabOk P w K mg base T Γ G k) :
  ∃fd:FuncData,(∀(s:Shared) (u:Value),BindsTo s fd ⟨[u],[]⟩ [(y,u)])∧∀base:Heap,K.In base→base.Ns mainGlobals mg→FnOk P w K mg base (L2.CX P w) (k+1) f fd [y] (spD G 1 (qcv Γ 1 m ir)):=by
 obtain⟨fd,F⟩:=c.def_ i hd
 have e1:d.dvs K=[]:=by unfold He.DefD.dvs;rw[hdf];rfl
 have e2:d.kws K=[]:=by unfold He.DefD.kws;rw[hkw];rfl
 rw[e1,e2,hat] at F
 have e:=hfa.symm.trans (He.glo_ok X N (c.fact j hx))
 cases e
 exact⟨fd,fun s u=>FunD.bindsA (ps:=[y]) F hb s [u] rfl,fun base hB hN=>qsg F S hG (tab base hB hN) hm hc⟩
theorem law_at {l:PySem.W.OpenLaw} {w:World} {K:PySem.W.Frag} {mg:Str→Option Value} {f:Addr} {h:Heap} {G:Glo} {g:List D→RE ER} {k n:Nat} {y:Str} (hG:G.K=K)
  (ok:∃fd:FuncData,(∀(s:Shared) (u:Value),BindsTo s fd ⟨[u],[]⟩ [(y,u)])∧∀base:Heap,K.In base→base.Ns mainGlobals mg→FnOk l.prog w K mg base (L2.CX l.prog w) k f fd [y] (spD G 1 g))
  (tr:∀ns:List Int,ns.length≤n→(∀z∈ns,Builtin.Int.intBits z≤1048576)→∃b,g [.lst (ns.map D.int)]=.ok (.val (.bl true) b)):LamX.LawAtS l w K (L2.CX l.prog w) k n y mg f h:=by
 obtain⟨fd,hb,hF⟩:=ok
 refine⟨fd,[],spD G 1 g,fun p hp=>(nomatch hp),fun p hp=>(nomatch hp),fun p hp=>(nomatch hp),hb,fun H a ns hl hz _ hS=>?_,fun base h1 h2 _=>hF base h1 h2⟩
 obtain⟨b,e⟩:=tr ns hl hz
 refine⟨fun _=>none,H,[.lst (ns.map D.int)],fun _ _ q=>(nomatch q),L2.Same.refl _,⟨_,[],rfl,⟨a,_,rfl,hG ▸ hS,Reps.ints.mpr rfl⟩,rfl⟩,rfl,?_⟩
 rw[e]
 intro v H' P' N' _ q
 exact q
theorem cx_end {P:Program} {w:World} (H:Hp) (s:Shared) (e:Value) (s':Shared) (h:L2.CX P w [] H s (fun _ _ _=>False) e s'):False:=by
 obtain⟨a,B,H',cls,d,_,_,_,_,_,_,_,z⟩:=h
 exact z
end Cm
namespace K20
open Cm
def qet:Sms:=(.cons (.iff (.val (.cmp .lt (.var 1) (.pri .len (.cons (.var 0) .nil)))) (.cons (.ret (.idx (.var 0) (.var 1)))
  .nil) .nil)
  (.cons (.asg 2 (.bin .add (.bin .mul (.cint 7) (.var 1)) (.cint 3)))
  (.cons (.iff (.val (.cmp .gt (.pri .len (.cons (.var 0) .nil)) (.cint 0))) (.cons (.asg 2 (.bin .add (.var 2) (.bin .mul (.bin .mdl (.idx (.var 0) (.bin .mdl (.var 1) (.pri .len (.cons (.var 0) .nil)))) (.cint 1000003)) (.bin .add (.var 1) (.cint 1)))))
  .nil) .nil)
  (.cons (.ret (.bin .add (.bin .mdl (.bin .mul (.var 2) (.var 2)) (.cint 999979)) (.bin .mdl (.var 2) (.cint 101))))
  .nil))))
def qfx:Env:={ fn:=[],gc:=[],mn:=[],mt:=qay [],fs:=[],fi:=qaB [],nw:=[],ck:=[],ik:=[],xk:=[] }
def g__law_at:List D→RE ER:=qcv qfx 2 1 qet
def qcg:Sms:=(.cons (.asg 1 (.bin .add (.cint 1) (.bin .mdl (.call 0 (.cons (.var 0) (.cons (.cint 0) .nil))) (.cint 6))))
  (.cons (.asg 2 (.bin .add (.cint 1) (.bin .mdl (.call 0 (.cons (.var 0) (.cons (.cint 1) .nil))) (.pri .min2 (.cons (.cint 6) (.cons (.bin .fdv (.cint 16) (.var 1)) .nil))))))
  (.cons (.ret (.tup (.cons (.var 1) (.cons (.var 2) (.cons (.bin .add (.cint 1) (.bin .mdl (.call 0 (.cons (.var 0) (.cons (.cint 2) .nil))) (.cint 6))) .nil)))))
  .nil)))
def qc8:Env:={ fn:=[("_law_at",g__law_at)],gc:=[],mn:=[],mt:=qay [],fs:=[],fi:=qaB [],nw:=[],ck:=[],ik:=[],xk:=[] }
def g__law_floor:List D→RE ER:=qcv qc8 1 2 qcg
def qbo:Sms:=(.cons (.ret (.lc [3] (.rng (.cons (.bin .mul (.idx (.var 1) (.cint 0)) (.idx (.var 1) (.cint 1))) .nil)) [3] .nil (.bin .add (.cint 1) (.bin .mdl (.call 0 (.cons (.var 0) (.cons (.bin .add (.var 2) (.var 3)) .nil))) (.idx (.var 1) (.cint 2))))))
  .nil)
def qb3:Env:={ fn:=[("_law_at",g__law_at)],gc:=[],mn:=[],mt:=qay [],fs:=[],fi:=qaB [],nw:=[],ck:=[],ik:=[],xk:=[] }
def g__law_filling:List D→RE ER:=qcv qb3 3 1 qbo
def qbI:Sms:=(.cons (.asg 2 (.bin .add (.bin .mdl (.var 0) (.cint 1000003)) (.cint 11)))
  (.cons (.own 3 (.lst .nil))
  (.cons (.for (.rng (.cons (.var 1) .nil)) [4] (.cons (.asg 2 (.bin .mdl (.bin .add (.bin .add (.bin .mul (.var 2) (.var 2)) (.bin .mul (.cint 3) (.var 2))) (.var 4)) (.cint 1000003)))
  (.cons (.app 3 (.var 2))
  .nil)))
  (.cons (.ret (.var 3))
  .nil))))
def qcx:Env:={ fn:=[],gc:=[],mn:=[],mt:=qay [],fs:=[],fi:=qaB [],nw:=[],ck:=[],ik:=[],xk:=[] }
def g__law_stream:List D→RE ER:=qcv qcx 2 3 qbI
def qcj:Sms:=(.cons (.own 2 (.lrng (.cons (.var 1) .nil)))
  (.cons (.own 3 (.lst .nil))
  (.cons (.for (.rng (.cons (.var 1) .nil)) [4] (.cons (.apop 3 2 (.bin .mdl (.idx (.var 0) (.var 4)) (.pri .len (.cons (.var 2) .nil))))
  .nil))
  (.cons (.ret (.var 3))
  .nil))))
def qdb:Env:={ fn:=[],gc:=[],mn:=[],mt:=qay [],fs:=[],fi:=qaB [],nw:=[],ck:=[],ik:=[],xk:=[] }
def g__law_order:List D→RE ER:=qcv qdb 2 3 qcj
def qcF:Sms:=(.cons (.asg 3 (.lst .nil))
  (.cons (.for (.rng (.cons (.cint 1) (.cons (.cint 7) .nil))) [4] (.cons (.asg 5 (.lc [6] (.any (.var 0)) [6] (.cons (.val (.cmp .eq (.idx (.var 1) (.var 6)) (.var 4))) .nil) (.var 6)))
  (.cons (.asg 3 (.bin .add (.var 3) (.slc (.var 5) .nil (.cons (.cint 1) .nil))))
  .nil)))
  (.cons (.iff (.val (.var 2)) (.cons (.ret (.var 3))
  .nil) .nil)
  (.cons (.ret (.lc [6] (.any (.var 0)) [6] (.cons (.val (.cmp .isin (.var 6) (.var 3))) .nil) (.var 6)))
  .nil))))
def qdH:Env:={ fn:=[],gc:=[],mn:=[],mt:=qay [],fs:=[],fi:=qaB [],nw:=[],ck:=[],ik:=[],xk:=[] }
def g__law_kept:List D→RE ER:=qcv qdH 3 4 qcF
def qcE:Sms:=(.cons (.asg 2 (.cint 0))
  (.cons (.asg 3 (.cint 0))
  (.cons (.for (.any (.var 1)) [4] (.cons (.iff (.val (.cmp .gt (.idx (.var 0) (.var 4)) (.var 2))) (.cons (.asg 2 (.idx (.var 0) (.var 4)))
  (.cons (.asg 3 (.bin .add (.var 3) (.cint 1)))
  .nil)) .nil)
  .nil))
  (.cons (.ret (.var 3))
  .nil))))
def qdK:Env:={ fn:=[],gc:=[],mn:=[],mt:=qay [],fs:=[],fi:=qaB [],nw:=[],ck:=[],ik:=[],xk:=[] }
def g__law_seen:List D→RE ER:=qcv qdK 2 3 qcE
def qcC:Sms:=(.cons (.asg 3 (.bin .mul (.idx (.var 0) (.cint 0)) (.idx (.var 0) (.cint 1))))
  (.cons (.asg 4 (.call 0 (.cons (.bin .fdv (.var 2) (.cint 8)) (.cons (.bin .add (.var 3) (.cint 3)) .nil))))
  (.cons (.asg 5 (.call 1 (.cons (.var 4) (.cons (.var 3) .nil))))
  (.cons (.asg 6 (.slc (.var 5) .nil (.cons (.bin .add (.cint 1) (.bin .mdl (.idx (.var 4) (.var 3)) (.var 3))) .nil)))
  (.cons (.asg 7 (.bin .add (.cint 1) (.bin .mdl (.idx (.var 4) (.bin .add (.var 3) (.cint 1))) (.idx (.var 0) (.cint 2)))))
  (.cons (.asg 8 (.idx (.lst (.cons (.cint 0) (.cons (.cint 0) (.cons (.cint 0) (.cons (.cint 1) .nil))))) (.bin .mdl (.idx (.var 4) (.bin .add (.var 3) (.cint 2))) (.cint 4))))
  (.cons (.asg 9 (.bin .mdl (.var 2) (.cint 8)))
  (.cons (.iff (.val (.cmp .gt (.var 9) (.cint 4))) (.cons (.ret (.bin .add (.bin .add (.idx (.lst (.cons (.cstr [106,111,105,110,101,100]) (.cons (.cstr [110,111,115,113,117,97,114,101]) (.cons (.cstr [114,105,110,103]) .nil)))) (.bin .sub (.var 9) (.cint 5))) (.cstr [32])) (.pri .str (.cons (.var 7) .nil))))
  .nil) .nil)
  (.cons (.iff (.bop true (.cons (.val (.cmp .isin (.var 9) (.tup (.cons (.cint 0) (.cons (.cint 2) .nil))))) (.cons (.val (.cmp .eq (.var 8) (.cint 0))) .nil))) (.cons (.asg 6 (.slc (.call 2 (.cons (.var 5) (.cons (.var 1) (.cons (.cmp .eq (.var 9) (.cint 2)) .nil)))) .nil (.cons (.pri .len (.cons (.var 6) .nil)) .nil)))
  .nil) .nil)
  (.cons (.asg 10 (.lst (.cons (.cstr [117,110,108,105,107,101]) .nil)))
  (.cons (.iff (.val (.cmp .eq (.var 9) (.cint 1))) (.cons (.asg 10 (.lst (.cons (.cstr [115,117,109]) (.cons (.pri .str (.cons (.bin .add (.pri .sum (.cons (.lc [11] (.any (.var 6)) [11] .nil (.idx (.var 1) (.var 11))) .nil)) (.var 8)) .nil)) .nil))))
  .nil) .nil)
  (.cons (.iff (.val (.cmp .eq (.var 9) (.cint 2))) (.cons (.asg 10 (.lst (.cons (.cstr [114,105,115,105,110,103]) .nil)))
  .nil) .nil)
  (.cons (.iff (.val (.cmp .eq (.var 9) (.cint 3))) (.cons (.asg 10 (.lst (.cons (.cstr [115,101,101,110]) (.cons (.pri .str (.cons (.bin .add (.call 3 (.cons (.var 1) (.cons (.var 6) .nil))) (.var 8)) .nil)) .nil))))
  .nil) .nil)
  (.cons (.iff (.val (.cmp .eq (.var 9) (.cint 4))) (.cons (.asg 10 (.lst (.cons (.cstr [99,111,117,110,116]) (.cons (.pri .str (.cons (.bin .add (.pri .len (.cons (.lc [11] (.any (.var 6)) [11] (.cons (.val (.cmp .eq (.idx (.var 1) (.var 11)) (.var 7))) .nil) (.var 11)) .nil)) (.var 8)) .nil)) (.cons (.pri .str (.cons (.var 7) .nil)) .nil)))))
  .nil) .nil)
  (.cons (.ret (.bm1 .join (.cstr [32]) (.bin .add (.var 10) (.lc [11] (.any (.var 6)) [11] .nil (.pri .str (.cons (.var 11) .nil))))))
  .nil)))))))))))))))
def qdQ:Env:={ fn:=[("_law_stream",g__law_stream),("_law_order",g__law_order),("_law_kept",g__law_kept),("_law_seen",g__law_seen)],gc:=[],mn:=[],mt:=qay [],fs:=[],fi:=qaB [],nw:=[],ck:=[],ik:=[],xk:=[] }
def g__law_line:List D→RE ER:=qcv qdQ 3 9 qcC
def qa1:Sms:=(.cons (.asg 3 (.bin .mdl (.bin .fdv (.var 2) (.cint 4)) (.pri .len (.cons (.var 1) .nil))))
  (.cons (.iff (.val (.cmp .eq (.bin .mdl (.var 2) (.cint 4)) (.cint 0))) (.cons (.ret (.slc (.var 1) (.cons (.cint 1) .nil) .nil))
  .nil) .nil)
  (.cons (.iff (.val (.cmp .eq (.bin .mdl (.var 2) (.cint 4)) (.cint 1))) (.cons (.ret (.bin .add (.var 1) (.lst (.cons (.cint 0) .nil))))
  .nil) .nil)
  (.cons (.ret (.bin .add (.bin .add (.slc (.var 1) .nil (.cons (.var 3) .nil)) (.lst (.cons (.idx (.lst (.cons (.neg (.cint 1)) (.cons (.bin .add (.idx (.var 0) (.cint 2)) (.cint 1)) .nil))) (.bin .mdl (.var 2) (.cint 2))) .nil))) (.slc (.var 1) (.cons (.bin .add (.var 3) (.cint 1)) .nil) .nil)))
  .nil))))
def qbw:Env:={ fn:=[],gc:=[],mn:=[],mt:=qay [],fs:=[],fi:=qaB [],nw:=[],ck:=[],ik:=[],xk:=[] }
def g__law_bad_clues:List D→RE ER:=qcv qbw 3 1 qa1
def qbc:Sms:=(.cons (.asg 2 (.bin .mul (.idx (.var 0) (.cint 0)) (.idx (.var 0) (.cint 1))))
  (.cons (.asg 3 (.lst (.cons (.cstr []) (.cons (.cstr [117,110,108,105,107,101]) (.cons (.cstr [117,110,108,105,107,101,32,48,32,48]) (.cons (.bin .add (.cstr [117,110,108,105,107,101,32]) (.pri .str (.cons (.var 2) .nil))) (.cons (.cstr [115,117,109,32,49,48,48,32,48]) (.cons (.cstr [115,117,109,32,48,49,32,48]) (.cons (.cstr [115,117,109,32,51]) (.cons (.cstr [106,111,105,110,101,100,32,48]) .nil))))))))))
  (.cons (.asg 3 (.bin .add (.var 3) (.lst (.cons (.bin .add (.cstr [106,111,105,110,101,100,32]) (.pri .str (.cons (.bin .add (.idx (.var 0) (.cint 2)) (.cint 1)) .nil))) (.cons (.cstr [82,105,110,103,32,49]) (.cons (.cstr [99,111,117,110,116,32,49,32,48]) (.cons (.cstr [110,111,115,113,117,97,114,101]) (.cons (.cstr [114,105,115,105,110,103,32,32,48]) (.cons (.cstr [115,101,101,110,32,49,32,45,49]) .nil)))))))))
  (.cons (.asg 3 (.bin .add (.var 3) (.lst (.cons .cnon (.cons (.cint 7) (.cons (.cbl true) (.cons (.lst (.cons (.cstr [117,110,108,105,107,101]) (.cons (.cstr [48]) .nil))) (.cons (.tup (.cons (.cstr [117,110,108,105,107,101]) (.cons (.cstr [48]) .nil))) .nil))))))))
  (.cons (.ret (.idx (.var 3) (.bin .mdl (.bin .fdv (.var 1) (.cint 14)) (.cint 19))))
  .nil)))))
def qbH:Env:={ fn:=[],gc:=[],mn:=[],mt:=qay [],fs:=[],fi:=qaB [],nw:=[],ck:=[],ik:=[],xk:=[] }
def g__law_bad_line:List D→RE ER:=qcv qbH 2 2 qbc
def qa0:Sms:=(.cons (.asg 2 (.idx (.lst (.cons (.cint 0) (.cons (.cint 7) (.cons (.neg (.cint 1)) (.cons (.bin .pow (.cint 10) (.cint 9)) .nil))))) (.bin .mdl (.bin .fdv (.var 1) (.cint 4)) (.cint 4))))
  (.cons (.iff (.val (.cmp .eq (.bin .mdl (.var 1) (.cint 4)) (.cint 0))) (.cons (.ret (.tup (.cons (.var 2) (.cons (.idx (.var 0) (.cint 1)) (.cons (.idx (.var 0) (.cint 2)) .nil)))))
  .nil) .nil)
  (.cons (.iff (.val (.cmp .eq (.bin .mdl (.var 1) (.cint 4)) (.cint 1))) (.cons (.ret (.tup (.cons (.idx (.var 0) (.cint 0)) (.cons (.var 2) (.cons (.idx (.var 0) (.cint 2)) .nil)))))
  .nil) .nil)
  (.cons (.iff (.val (.cmp .eq (.bin .mdl (.var 1) (.cint 4)) (.cint 2))) (.cons (.ret (.tup (.cons (.idx (.var 0) (.cint 0)) (.cons (.idx (.var 0) (.cint 1)) (.cons (.var 2) .nil)))))
  .nil) .nil)
  (.cons (.ret (.idx (.lst (.cons (.tup (.cons (.cint 3) (.cons (.cint 6) (.cons (.cint 2) .nil)))) (.cons (.tup (.cons (.cint 6) (.cons (.cint 3) (.cons (.cint 1) .nil)))) (.cons (.tup (.cons (.cint 4) (.cons (.cint 5) (.cons (.cint 6) .nil)))) (.cons (.tup (.cons (.cint 5) (.cons (.cint 4) (.cons (.cint 3) .nil)))) .nil))))) (.bin .mdl (.bin .fdv (.var 1) (.cint 4)) (.cint 4))))
  .nil)))))
def qbr:Env:={ fn:=[],gc:=[],mn:=[],mt:=qay [],fs:=[],fi:=qaB [],nw:=[],ck:=[],ik:=[],xk:=[] }
def g__law_bad_floor:List D→RE ER:=qcv qbr 2 1 qa0
def qca:Sms:=(.cons (.asg 1 (.lst (.cons (.isc (.var 0) 0) (.cons (.isc (.var 0) 1) (.cons (.isc (.var 0) 2) .nil)))))
  (.cons (.asg 1 (.bin .add (.var 1) (.lst (.cons (.isc (.var 0) 3) (.cons (.isc (.var 0) 4) (.cons (.isc (.var 0) 5) .nil))))))
  (.cons (.asg 1 (.bin .add (.var 1) (.lst (.cons (.isc (.var 0) 6) (.cons (.isc (.var 0) 7) .nil)))))
  (.cons (.iff (.bop false (.cons (.val (.pri .any (.cons (.var 1) .nil))) (.cons (.not (.val (.isc (.var 0) 8))) .nil))) (.cons (.ret (.lst .nil))
  .nil) .nil)
  (.cons (.ret (.lst (.cons (.isc (.var 0) 9) (.cons (.isc (.var 0) 10) (.cons (.isc (.var 0) 11) .nil)))))
  .nil)))))
def qdd:Env:={ fn:=[],gc:=[],mn:=[],mt:=qay [],fs:=[],fi:=qaB [],nw:=[],ck:=[fun c=>List.lookup c [(31,false),(33,false),(34,false)],fun c=>List.lookup c [(31,false),(33,false),(34,false)],fun c=>List.lookup c [(31,false),(33,false),(34,false)],fun c=>List.lookup c [(31,false),(33,false),(34,false)],fun c=>List.lookup c [(31,false),(33,false),(34,false)],fun c=>List.lookup c [(31,false),(33,false),(34,false)],fun c=>List.lookup c [(31,false),(33,false),(34,false)],fun c=>List.lookup c [(31,false),(33,false),(34,false)],fun c=>List.lookup c [(31,true),(33,true),(34,true)],fun c=>List.lookup c [(31,true),(33,false),(34,false)],fun c=>List.lookup c [(31,false),(33,true),(34,false)],fun c=>List.lookup c [(31,false),(33,false),(34,true)]],ik:=[fun c=>List.lookup c [(0,false),(1,false),(2,false),(3,false),(4,false),(5,false),(6,false),(7,false),(25,false)],fun c=>List.lookup c [(0,false),(1,false),(2,false),(3,false),(4,false),(5,false),(6,false),(7,false),(25,false)],fun c=>List.lookup c [(0,false),(1,false),(2,false),(3,false),(4,false),(5,false),(6,false),(7,false),(25,false)],fun c=>List.lookup c [(0,false),(1,false),(2,false),(3,false),(4,false),(5,false),(6,false),(7,false),(25,false)],fun c=>List.lookup c [(0,false),(1,false),(2,false),(3,false),(4,false),(5,false),(6,false),(7,false),(25,false)],fun c=>List.lookup c [(0,false),(1,false),(2,false),(3,false),(4,false),(5,false),(6,false),(7,false),(25,false)],fun c=>List.lookup c [(0,false),(1,false),(2,false),(3,false),(4,false),(5,false),(6,false),(7,false),(25,false)],fun c=>List.lookup c [(0,false),(1,false),(2,false),(3,false),(4,false),(5,false),(6,false),(7,false),(25,false)],fun c=>List.lookup c [],fun c=>List.lookup c [(0,false),(1,false),(2,false),(3,false),(4,false),(5,false),(6,false),(7,false),(25,false)],fun c=>List.lookup c [(0,false),(1,false),(2,false),(3,false),(4,false),(5,false),(6,false),(7,false),(25,false)],fun c=>List.lookup c [(0,false),(1,false),(2,false),(3,false),(4,false),(5,false),(6,false),(7,false),(25,false)]],xk:=[] }
def g__law_named:List D→RE ER:=qcv qdd 1 1 qca
def qdp:Sms:=(.cons (.iff (.bop false (.cons (.not (.val (.chn .le .le (.cint 1) (.var 0) (.glo 0)))) (.cons (.not (.val (.chn .le .le (.cint 1) (.var 1) (.glo 0)))) (.cons (.val (.cmp .gt (.bin .mul (.var 0) (.var 1)) (.glo 1))) .nil)))) (.cons (.rse 0)
  .nil) .nil)
  (.cons (.iff (.not (.val (.chn .le .le (.cint 1) (.var 2) (.glo 2)))) (.cons (.rse 0)
  .nil) .nil)
  (.cons (.ret (.tup (.cons (.var 0) (.cons (.var 1) (.cons (.var 2) .nil)))))
  .nil)))
def qeA:Env:={ fn:=[],gc:=[("MOST_SIDE",.int 6),("MOST_CELLS",.int 16),("MOST_SIGNS",.int 6)],mn:=[],mt:=qay [],fs:=[],fi:=qaB [],nw:=[],ck:=[],ik:=[],xk:=[31] }
def g_floor_of:List D→RE ER:=qcv qeA 3 0 qdp
def qcH:Sms:=(.cons (.iff (.bop false (.cons (.not (.val (.chn .le .le (.cint 1) (.pri .len (.cons (.var 0) .nil)) (.glo 0)))) (.cons (.bop true (.cons (.val (.cmp .eq (.idx (.var 0) (.cint 0)) (.cstr [48]))) (.cons (.val (.cmp .gt (.pri .len (.cons (.var 0) .nil)) (.cint 1))) .nil))) .nil))) (.cons (.rse 0)
  .nil) .nil)
  (.cons (.for (.any (.var 0)) [1] (.cons (.iff (.val (.cmp .nin (.var 1) (.glo 1))) (.cons (.rse 0)
  .nil) .nil)
  .nil))
  (.cons (.ret (.pri .int (.cons (.var 0) .nil)))
  .nil)))
def qdT:Env:={ fn:=[],gc:=[("LONGEST",.int 2),("FIGURES",.str [48,49,50,51,52,53,54,55,56,57])],mn:=[],mt:=qay [],fs:=[],fi:=qaB [],nw:=[],ck:=[],ik:=[],xk:=[33] }
def g_number_of:List D→RE ER:=qcv qdT 1 1 qcH
def qcO:Sms:=(.cons (.iff (.bop false (.cons (.val (.cmp .ge (.var 2) (.pri .len (.cons (.var 1) .nil)))) (.cons (.not (.val (.chn .le .le (.cint 1) (.idx (.var 1) (.var 2)) (.idx (.var 0) (.cint 2))))) .nil))) (.cons (.rse 0)
  .nil) .nil)
  (.cons (.ret (.idx (.var 1) (.var 2)))
  .nil))
def qdJ:Env:={ fn:=[],gc:=[],mn:=[],mt:=qay [],fs:=[],fi:=qaB [],nw:=[],ck:=[],ik:=[],xk:=[33] }
def g_sign_told:List D→RE ER:=qcv qdJ 3 0 qcO
def qcc:Sms:=(.cons (.ret (.bin .mul (.idx (.var 0) (.cint 0)) (.idx (.var 0) (.cint 1))))
  .nil)
def qcU:Env:={ fn:=[],gc:=[],mn:=[],mt:=qay [],fs:=[],fi:=qaB [],nw:=[],ck:=[],ik:=[],xk:=[] }
def g_many_cells:List D→RE ER:=qcv qcU 1 0 qcc
def qab:Sms:=(.cons (.fset 0 (.var 1))
  (.cons (.fset 1 (.pri .list (.cons (.var 2) .nil)))
  (.cons (.fset 2 (.var 3))
  (.cons (.fset 3 (.var 4))
  .nil))))
def qac:Env:={ fn:=[],gc:=[],mn:=[],mt:=qay [],fs:=[],fi:=qaB [(0,0,0),(1,0,0),(2,0,0),(3,0,0),(4,0,0),(5,0,0),(6,0,0),(7,0,0),(25,0,0),(0,1,1),(1,1,1),(2,1,1),(3,1,1),(4,1,1),(5,1,1),(6,1,1),(7,1,1),(0,2,2),(1,2,2),(2,2,2),(3,2,2),(4,2,2),(5,2,2),(6,2,2),(7,2,2),(0,3,3),(1,3,3),(2,3,3),(3,3,3),(4,3,3),(5,3,3),(6,3,3),(7,3,3)],nw:=[],ck:=[],ik:=[],xk:=[] }
def ini_Unlike:List D→RE (List D):=qlY qac 0 4 4 0 qab
def ini_Total:List D→RE (List D):=qlY qac 1 4 4 0 qab
def ini_Rising:List D→RE (List D):=qlY qac 2 4 4 0 qab
def ini_Seen:List D→RE (List D):=qlY qac 3 4 4 0 qab
def ini_Counted:List D→RE (List D):=qlY qac 4 4 4 0 qab
def ini_Joined:List D→RE (List D):=qlY qac 5 4 4 0 qab
def ini_NoSquare:List D→RE (List D):=qlY qac 6 4 4 0 qab
def ini_Ring:List D→RE (List D):=qlY qac 7 4 4 0 qab
def qck:Sms:=(.cons (.iff (.val (.cmp .ne (.pri .len (.cons (.var 2) .nil)) (.cint 1))) (.cons (.rse 0)
  .nil) .nil)
  (.cons (.asg 3 (.call 0 (.cons (.var 0) (.cons (.var 2) (.cons (.cint 0) .nil)))))
  (.cons (.asg 4 (.lrng (.cons (.call 1 (.cons (.var 0) .nil)) .nil)))
  (.cons (.iff (.val (.cmp .eq (.var 1) (.cstr [106,111,105,110,101,100]))) (.cons (.ret (.new 0 (.cons (.var 0) (.cons (.var 4) (.cons (.cint 0) (.cons (.var 3) .nil))))))
  .nil) .nil)
  (.cons (.iff (.val (.cmp .eq (.var 1) (.cstr [110,111,115,113,117,97,114,101]))) (.cons (.ret (.new 1 (.cons (.var 0) (.cons (.var 4) (.cons (.cint 0) (.cons (.var 3) .nil))))))
  .nil) .nil)
  (.cons (.ret (.new 2 (.cons (.var 0) (.cons (.var 4) (.cons (.cint 0) (.cons (.var 3) .nil))))))
  .nil))))))
def qc2:Env:={ fn:=[("sign_told",g_sign_told),("many_cells",g_many_cells)],gc:=[],mn:=[],mt:=qay [],fs:=[],fi:=qaB [],nw:=[(5,ini_Joined),(6,ini_NoSquare),(7,ini_Ring)],ck:=[],ik:=[],xk:=[33] }
def g_whole_rule:List D→RE ER:=qcv qc2 3 2 qck
def qcd:Sms:=(.cons (.iff (.bop false (.cons (.val (.cmp .eq (.var 1) (.lst .nil))) (.cons (.val (.cmp .ne (.lset (.var 1)) (.pri .len (.cons (.var 1) .nil)))) (.cons (.val (.cmp .ge (.pri .max1 (.cons (.var 1) .nil)) (.call 0 (.cons (.var 0) .nil)))) .nil)))) (.cons (.rse 0)
  .nil) .nil)
  (.cons (.ret (.var 1))
  .nil))
def qc0:Env:={ fn:=[("many_cells",g_many_cells)],gc:=[],mn:=[],mt:=qay [],fs:=[],fi:=qaB [],nw:=[],ck:=[],ik:=[],xk:=[33] }
def g_cells_told:List D→RE ER:=qcv qc0 2 0 qcd
def qcK:Sms:=(.cons (.iff (.not (.val (.isi (.var 1) .str))) (.cons (.rse 0)
  .nil) .nil)
  (.cons (.asg 2 (.bm1 .split (.var 1) (.cstr [32])))
  (.cons (.asg 3 (.idx (.var 2) (.cint 0)))
  (.cons (.iff (.val (.cmp .nin (.var 3) (.tup (.cons (.cstr [117,110,108,105,107,101]) (.cons (.cstr [115,117,109]) (.cons (.cstr [114,105,115,105,110,103]) (.cons (.cstr [115,101,101,110]) (.cons (.cstr [99,111,117,110,116]) (.cons (.cstr [106,111,105,110,101,100]) (.cons (.cstr [110,111,115,113,117,97,114,101]) (.cons (.cstr [114,105,110,103]) .nil))))))))))) (.cons (.rse 0)
  .nil) .nil)
  (.cons (.asg 4 (.lcx [5] (.any (.slc (.var 2) (.cons (.cint 1) .nil) .nil)) [5] .nil (.call 0 (.cons (.var 5) .nil))))
  (.cons (.iff (.val (.cmp .isin (.var 3) (.tup (.cons (.cstr [106,111,105,110,101,100]) (.cons (.cstr [110,111,115,113,117,97,114,101]) (.cons (.cstr [114,105,110,103]) .nil)))))) (.cons (.ret (.call 1 (.cons (.var 0) (.cons (.var 3) (.cons (.var 4) .nil)))))
  .nil) .nil)
  (.cons (.iff (.val (.cmp .eq (.var 3) (.cstr [117,110,108,105,107,101]))) (.cons (.ret (.new 0 (.cons (.var 0) (.cons (.call 2 (.cons (.var 0) (.cons (.var 4) .nil))) (.cons (.cint 0) (.cons (.cint 0) .nil))))))
  .nil) .nil)
  (.cons (.iff (.val (.cmp .eq (.var 3) (.cstr [114,105,115,105,110,103]))) (.cons (.ret (.new 1 (.cons (.var 0) (.cons (.call 2 (.cons (.var 0) (.cons (.var 4) .nil))) (.cons (.cint 0) (.cons (.cint 0) .nil))))))
  .nil) .nil)
  (.cons (.iff (.val (.cmp .eq (.var 3) (.cstr [99,111,117,110,116]))) (.cons (.asg 6 (.call 3 (.cons (.var 0) (.cons (.var 4) (.cons (.cint 1) .nil)))))
  (.cons (.ret (.new 2 (.cons (.var 0) (.cons (.call 2 (.cons (.var 0) (.cons (.slc (.var 4) (.cons (.cint 2) .nil) .nil) .nil))) (.cons (.idx (.var 4) (.cint 0)) (.cons (.var 6) .nil))))))
  .nil)) .nil)
  (.cons (.asg 7 (.call 2 (.cons (.var 0) (.cons (.slc (.var 4) (.cons (.cint 1) .nil) .nil) .nil))))
  (.cons (.iff (.val (.cmp .eq (.var 3) (.cstr [115,117,109]))) (.cons (.ret (.new 3 (.cons (.var 0) (.cons (.var 7) (.cons (.idx (.var 4) (.cint 0)) (.cons (.cint 0) .nil))))))
  .nil) .nil)
  (.cons (.ret (.new 4 (.cons (.var 0) (.cons (.var 7) (.cons (.idx (.var 4) (.cint 0)) (.cons (.cint 0) .nil))))))
  .nil))))))))))))
def qdS:Env:={ fn:=[("number_of",g_number_of),("whole_rule",g_whole_rule),("cells_told",g_cells_told),("sign_told",g_sign_told)],gc:=[],mn:=[],mt:=qay [],fs:=[],fi:=qaB [],nw:=[(0,ini_Unlike),(2,ini_Rising),(4,ini_Counted),(1,ini_Total),(3,ini_Seen)],ck:=[],ik:=[],xk:=[33] }
def g_read_rule:List D→RE ER:=qcv qdS 2 6 qcK
def qcl:Sms:=(.cons (.iff (.val (.cmp .ne (.pri .len (.cons (.var 1) .nil)) (.call 0 (.cons (.var 0) .nil)))) (.cons (.ret (.cbl false))
  .nil) .nil)
  (.cons (.ret (.pri .all (.cons (.lc [2] (.any (.var 1)) [2] .nil (.chn .le .le (.cint 0) (.var 2) (.idx (.var 0) (.cint 2)))) .nil)))
  .nil))
def qde:Env:={ fn:=[("many_cells",g_many_cells)],gc:=[],mn:=[],mt:=qay [],fs:=[],fi:=qaB [],nw:=[],ck:=[],ik:=[],xk:=[] }
def g_is_filling:List D→RE ER:=qcv qde 2 1 qcl
def qbf:Sms:=(.cons (.iff (.val (.cmp .ne (.pri .len (.cons (.var 1) .nil)) (.cint 3))) (.cons (.rse 0)
  .nil) .nil)
  (.cons (.fset 0 (.call 0 (.cons (.idx (.var 1) (.cint 0)) (.cons (.idx (.var 1) (.cint 1)) (.cons (.idx (.var 1) (.cint 2)) .nil)))))
  (.cons (.iff (.val (.cmp .gt (.pri .len (.cons (.var 2) .nil)) (.glo 0))) (.cons (.rse 1)
  .nil) .nil)
  (.cons (.fset 1 (.lcx [4] (.any (.var 2)) [4] .nil (.call 1 (.cons (.sfd 0 0) (.cons (.var 4) .nil)))))
  (.cons (.iff (.not (.val (.call 2 (.cons (.sfd 0 0) (.cons (.var 3) .nil))))) (.cons (.rse 1)
  .nil) .nil)
  (.cons (.fset 2 (.pri .list (.cons (.var 3) .nil)))
  .nil))))))
def qbW:Env:={ fn:=[("floor_of",g_floor_of),("read_rule",g_read_rule),("is_filling",g_is_filling)],gc:=[("MOST_RULES",.int 12)],mn:=[],mt:=qay [],fs:=[],fi:=qaB [(0,0,0),(1,0,0),(2,0,0),(3,0,0),(4,0,0),(5,0,0),(6,0,0),(7,0,0),(25,0,0),(25,1,1),(25,2,2)],nw:=[],ck:=[],ik:=[],xk:=[31,34] }
def ini_Puzzle:List D→RE (List D):=qlY qbW 25 3 3 1 qbf
def qbl:Sms:=(.cons (.asg 3 .cnon)
  (.cons (.tryx 0 4 3 (.ex (.new 0 (.cons (.var 0) (.cons (.var 1) (.cons (.var 2) .nil))))))
  (.cons (.ret (.call 0 (.cons (.var 3) .nil)))
  .nil)))
def qb8:Env:={ fn:=[("_law_named",g__law_named)],gc:=[],mn:=[],mt:=qay [],fs:=[],fi:=qaB [],nw:=[(25,ini_Puzzle)],ck:=[fun c=>List.lookup c [(31,true),(33,true),(34,true)]],ik:=[fun c=>List.lookup c [(0,false),(1,false),(2,false),(3,false),(4,false),(5,false),(6,false),(7,false),(25,false)]],xk:=[] }
def g__law_refused:List D→RE ER:=qcv qb8 3 2 qbl
def qbF:Sms:=(.cons (.ret (.cstr [117,110,108,105,107,101]))
  .nil)
def qcq:Env:={ fn:=[],gc:=[],mn:=[],mt:=qay [],fs:=[],fi:=qaB [],nw:=[],ck:=[],ik:=[],xk:=[] }
def g_Unlike_name:List D→RE ER:=qcv qcq 1 0 qbF
def qcb:Sms:=(.cons (.ret (.cstr [115,117,109]))
  .nil)
def qcT:Env:={ fn:=[],gc:=[],mn:=[],mt:=qay [],fs:=[],fi:=qaB [],nw:=[],ck:=[],ik:=[],xk:=[] }
def g_Total_name:List D→RE ER:=qcv qcT 1 0 qcb
def qbO:Sms:=(.cons (.ret (.cstr [114,105,115,105,110,103]))
  .nil)
def qcu:Env:={ fn:=[],gc:=[],mn:=[],mt:=qay [],fs:=[],fi:=qaB [],nw:=[],ck:=[],ik:=[],xk:=[] }
def g_Rising_name:List D→RE ER:=qcv qcu 1 0 qbO
def qcG:Sms:=(.cons (.ret (.cstr [115,101,101,110]))
  .nil)
def qdD:Env:={ fn:=[],gc:=[],mn:=[],mt:=qay [],fs:=[],fi:=qaB [],nw:=[],ck:=[],ik:=[],xk:=[] }
def g_Seen_name:List D→RE ER:=qcv qdD 1 0 qcG
def qbm:Sms:=(.cons (.ret (.cstr [99,111,117,110,116]))
  .nil)
def qbY:Env:={ fn:=[],gc:=[],mn:=[],mt:=qay [],fs:=[],fi:=qaB [],nw:=[],ck:=[],ik:=[],xk:=[] }
def g_Counted_name:List D→RE ER:=qcv qbY 1 0 qbm
def qbK:Sms:=(.cons (.ret (.cstr [106,111,105,110,101,100]))
  .nil)
def qct:Env:={ fn:=[],gc:=[],mn:=[],mt:=qay [],fs:=[],fi:=qaB [],nw:=[],ck:=[],ik:=[],xk:=[] }
def g_Joined_name:List D→RE ER:=qcv qct 1 0 qbK
def qa9:Sms:=(.cons (.ret (.cstr [110,111,115,113,117,97,114,101]))
  .nil)
def qbP:Env:={ fn:=[],gc:=[],mn:=[],mt:=qay [],fs:=[],fi:=qaB [],nw:=[],ck:=[],ik:=[],xk:=[] }
def g_NoSquare_name:List D→RE ER:=qcv qbP 1 0 qa9
def qcI:Sms:=(.cons (.ret (.cstr [114,105,110,103]))
  .nil)
def qdP:Env:={ fn:=[],gc:=[],mn:=[],mt:=qay [],fs:=[],fi:=qaB [],nw:=[],ck:=[],ik:=[],xk:=[] }
def g_Ring_name:List D→RE ER:=qcv qdP 1 0 qcI
def qan:Sms:=(.cons (.ret (.pri .list (.cons (.fld (.var 0) 0) .nil)))
  .nil)
def qaI:Env:={ fn:=[],gc:=[],mn:=[],mt:=qay [],fs:=[],fi:=qaB [(0,0,1),(1,0,1),(2,0,1),(3,0,1),(4,0,1),(5,0,1),(6,0,1),(7,0,1)],nw:=[],ck:=[],ik:=[],xk:=[] }
def g_Rule_told_numbers:List D→RE ER:=qcv qaI 1 0 qan
def qaw:Sms:=(.cons (.ret (.bin .add (.lst (.cons (.fld (.var 0) 0) .nil)) (.fld (.var 0) 1)))
  .nil)
def qaP:Env:={ fn:=[],gc:=[],mn:=[],mt:=qay [],fs:=[],fi:=qaB [(0,0,2),(1,0,2),(2,0,2),(3,0,2),(4,0,2),(5,0,2),(6,0,2),(7,0,2),(0,1,1),(1,1,1),(2,1,1),(3,1,1),(4,1,1),(5,1,1),(6,1,1),(7,1,1)],nw:=[],ck:=[],ik:=[],xk:=[] }
def g_Total_told_numbers:List D→RE ER:=qcv qaP 1 0 qaw
def qaE:Sms:=(.cons (.ret (.bin .add (.lst (.cons (.fld (.var 0) 0) .nil)) (.fld (.var 0) 1)))
  .nil)
def qaT:Env:={ fn:=[],gc:=[],mn:=[],mt:=qay [],fs:=[],fi:=qaB [(0,0,2),(1,0,2),(2,0,2),(3,0,2),(4,0,2),(5,0,2),(6,0,2),(7,0,2),(0,1,1),(1,1,1),(2,1,1),(3,1,1),(4,1,1),(5,1,1),(6,1,1),(7,1,1)],nw:=[],ck:=[],ik:=[],xk:=[] }
def g_Seen_told_numbers:List D→RE ER:=qcv qaT 1 0 qaE
def qam:Sms:=(.cons (.ret (.bin .add (.lst (.cons (.fld (.var 0) 0) (.cons (.fld (.var 0) 1) .nil))) (.fld (.var 0) 2)))
  .nil)
def qaJ:Env:={ fn:=[],gc:=[],mn:=[],mt:=qay [],fs:=[],fi:=qaB [(0,0,2),(1,0,2),(2,0,2),(3,0,2),(4,0,2),(5,0,2),(6,0,2),(7,0,2),(0,1,3),(1,1,3),(2,1,3),(3,1,3),(4,1,3),(5,1,3),(6,1,3),(7,1,3),(0,2,1),(1,2,1),(2,2,1),(3,2,1),(4,2,1),(5,2,1),(6,2,1),(7,2,1)],nw:=[],ck:=[],ik:=[],xk:=[] }
def g_Counted_told_numbers:List D→RE ER:=qcv qaJ 1 0 qam
def qar:Sms:=(.cons (.ret (.lst (.cons (.fld (.var 0) 0) .nil)))
  .nil)
def qaM:Env:={ fn:=[],gc:=[],mn:=[],mt:=qay [],fs:=[],fi:=qaB [(0,0,3),(1,0,3),(2,0,3),(3,0,3),(4,0,3),(5,0,3),(6,0,3),(7,0,3)],nw:=[],ck:=[],ik:=[],xk:=[] }
def g_Joined_told_numbers:List D→RE ER:=qcv qaM 1 0 qar
def qaj:Sms:=(.cons (.ret (.lst (.cons (.fld (.var 0) 0) .nil)))
  .nil)
def qaz:Env:={ fn:=[],gc:=[],mn:=[],mt:=qay [],fs:=[],fi:=qaB [(0,0,3),(1,0,3),(2,0,3),(3,0,3),(4,0,3),(5,0,3),(6,0,3),(7,0,3)],nw:=[],ck:=[],ik:=[],xk:=[] }
def g_NoSquare_told_numbers:List D→RE ER:=qcv qaz 1 0 qaj
def qaD:Sms:=(.cons (.ret (.lst (.cons (.fld (.var 0) 0) .nil)))
  .nil)
def qaY:Env:={ fn:=[],gc:=[],mn:=[],mt:=qay [],fs:=[],fi:=qaB [(0,0,3),(1,0,3),(2,0,3),(3,0,3),(4,0,3),(5,0,3),(6,0,3),(7,0,3)],nw:=[],ck:=[],ik:=[],xk:=[] }
def g_Ring_told_numbers:List D→RE ER:=qcv qaY 1 0 qaD
def qav:Sms:=(.cons (.ret (.bm1 .join (.cstr [32]) (.bin .add (.lst (.cons (.mth 0 (.var 0) .nil) .nil)) (.lc [1] (.any (.mth 1 (.var 0) .nil)) [1] .nil (.pri .str (.cons (.var 1) .nil))))))
  .nil)
def qaG:Env:={ fn:=[],gc:=[],mn:=[],mt:=qay [(0,0,g_Unlike_name),(1,0,g_Total_name),(2,0,g_Rising_name),(3,0,g_Seen_name),(4,0,g_Counted_name),(5,0,g_Joined_name),(6,0,g_NoSquare_name),(7,0,g_Ring_name),(0,1,g_Rule_told_numbers),(1,1,g_Total_told_numbers),(2,1,g_Rule_told_numbers),(3,1,g_Seen_told_numbers),(4,1,g_Counted_told_numbers),(5,1,g_Joined_told_numbers),(6,1,g_NoSquare_told_numbers),(7,1,g_Ring_told_numbers)],fs:=[],fi:=qaB [],nw:=[],ck:=[],ik:=[],xk:=[] }
def g_Rule_line:List D→RE ER:=qcv qaG 1 1 qav
def qbn:Sms:=(.cons (.ret (.lc [1] (.any (.fld (.var 0) 0)) [1] .nil (.mth 0 (.var 1) .nil)))
  .nil)
def qb2:Env:={ fn:=[],gc:=[],mn:=[],mt:=qay [(0,0,g_Rule_line),(1,0,g_Rule_line),(2,0,g_Rule_line),(3,0,g_Rule_line),(4,0,g_Rule_line),(5,0,g_Rule_line),(6,0,g_Rule_line),(7,0,g_Rule_line)],fs:=[],fi:=qaB [(25,0,1)],nw:=[],ck:=[],ik:=[],xk:=[] }
def g_Puzzle_lines:List D→RE ER:=qcv qb2 1 1 qbn
def qbp:Sms:=(.cons (.ret (.new 0 (.cons (.fld (.var 0) 0) (.cons (.mth 0 (.var 0) .nil) (.cons (.var 1) .nil)))))
  .nil)
def qb0:Env:={ fn:=[],gc:=[],mn:=[],mt:=qay [(25,0,g_Puzzle_lines)],fs:=[],fi:=qaB [(0,0,0),(1,0,0),(2,0,0),(3,0,0),(4,0,0),(5,0,0),(6,0,0),(7,0,0),(25,0,0)],nw:=[(25,ini_Puzzle)],ck:=[],ik:=[],xk:=[] }
def g_Puzzle_clued:List D→RE ER:=qcv qb0 2 0 qbp
def qci:Sms:=(.cons (.asg 2 .cnon)
  (.cons (.tryx 0 3 2 (.ex (.mth 0 (.var 0) (.cons (.var 1) .nil))))
  (.cons (.ret (.call 0 (.cons (.var 2) .nil)))
  .nil)))
def qcW:Env:={ fn:=[("_law_named",g__law_named)],gc:=[],mn:=[],mt:=qay [(25,0,g_Puzzle_clued)],fs:=[],fi:=qaB [],nw:=[],ck:=[fun c=>List.lookup c [(31,true),(33,true),(34,true)]],ik:=[fun c=>List.lookup c [(0,false),(1,false),(2,false),(3,false),(4,false),(5,false),(6,false),(7,false),(25,false)]],xk:=[] }
def g__law_clued:List D→RE ER:=qcv qcW 2 2 qci
def qbq:Sms:=(.cons (.ret (.pri .list (.cons (.fld (.var 0) 0) .nil)))
  .nil)
def qb7:Env:={ fn:=[],gc:=[],mn:=[],mt:=qay [],fs:=[],fi:=qaB [(25,0,2)],nw:=[],ck:=[],ik:=[],xk:=[] }
def g_Puzzle_clues:List D→RE ER:=qcv qb7 1 0 qbq
def qoA:Sms:=(.cons (.asg 1 (.call 0 (.cons (.var 0) .nil)))
  (.cons (.asg 2 (.call 1 (.cons (.var 0) (.cons (.var 1) (.cons (.cint 20) .nil)))))
  (.cons (.asg 3 (.lc [4] (.rng (.cons (.bin .add (.cint 1) (.bin .mdl (.call 2 (.cons (.var 0) (.cons (.cint 3) .nil))) (.cint 12))) .nil)) [4] .nil (.call 3 (.cons (.var 1) (.cons (.var 2) (.cons (.call 2 (.cons (.var 0) (.cons (.bin .add (.cint 4) (.var 4)) .nil))) .nil))))))
  (.cons (.asg 5 (.lc [4,6] (.en (.var 2)) [4,6] .nil (.bin .mul (.var 6) (.bin .mdl (.bin .fdv (.call 2 (.cons (.var 0) (.cons (.bin .add (.cint 36) (.var 4)) .nil))) (.cint 7)) (.cint 2)))))
  (.cons (.asg 7 (.lst (.cons (.bin .mdl (.call 2 (.cons (.var 0) (.cons (.cint 52) .nil))) (.cint 4)) (.cons (.bin .mdl (.call 2 (.cons (.var 0) (.cons (.cint 53) .nil))) (.cint 5)) .nil))))
  (.cons (.asg 8 (.var 1))
  (.cons (.asg 9 (.pri .list (.cons (.var 3) .nil)))
  (.cons (.asg 10 (.pri .list (.cons (.var 5) .nil)))
  (.cons (.asg 11 (.lst .nil))
  (.cons (.iff (.val (.cmp .isin (.cint 3) (.var 7))) (.cons (.asg 10 (.call 4 (.cons (.var 1) (.cons (.var 5) (.cons (.call 2 (.cons (.var 0) (.cons (.cint 57) .nil))) .nil)))))
  (.cons (.asg 11 (.lst (.cons (.cbl false) (.cons (.cbl false) (.cons (.cbl true) .nil)))))
  .nil)) .nil)
  (.cons (.iff (.val (.cmp .isin (.cint 2) (.var 7))) (.cons (.asg 12 (.bin .mdl (.call 2 (.cons (.var 0) (.cons (.cint 56) .nil))) (.pri .len (.cons (.var 9) .nil))))
  (.cons (.asg 9 (.bin .add (.bin .add (.slc (.var 9) .nil (.cons (.var 12) .nil)) (.lst (.cons (.call 5 (.cons (.var 1) (.cons (.call 2 (.cons (.var 0) (.cons (.cint 56) .nil))) .nil))) .nil))) (.slc (.var 9) (.cons (.bin .add (.var 12) (.cint 1)) .nil) .nil)))
  (.cons (.asg 11 (.lst (.cons (.cbl false) (.cons (.cbl true) (.cons (.cbl false) .nil)))))
  .nil))) .nil)
  (.cons (.iff (.val (.cmp .isin (.cint 1) (.var 7))) (.cons (.asg 9 (.bin .add (.var 9) (.lc [4] (.rng (.cons (.bin .sub (.cint 13) (.pri .len (.cons (.var 9) .nil))) .nil)) [4] .nil (.idx (.var 3) (.cint 0)))))
  (.cons (.asg 11 (.lst (.cons (.cbl false) (.cons (.cbl false) (.cons (.cbl true) .nil)))))
  .nil)) .nil)
  (.cons (.iff (.val (.cmp .isin (.cint 0) (.var 7))) (.cons (.asg 8 (.call 6 (.cons (.var 1) (.cons (.call 2 (.cons (.var 0) (.cons (.cint 55) .nil))) .nil))))
  (.cons (.asg 11 (.lst (.cons (.cbl true) (.cons (.cbl false) (.cons (.cbl false) .nil)))))
  .nil)) .nil)
  (.cons (.iff (.val (.cmp .ne (.call 7 (.cons (.var 8) (.cons (.pri .list (.cons (.var 9) .nil)) (.cons (.pri .list (.cons (.var 10) .nil)) .nil)))) (.var 11))) (.cons (.ret (.cbl false))
  .nil) .nil)
  (.cons (.asg 13 (.new 0 (.cons (.var 1) (.cons (.pri .list (.cons (.var 3) .nil)) (.cons (.pri .list (.cons (.var 5) .nil)) .nil)))))
  (.cons (.iff (.val (.cmp .ne (.call 8 (.cons (.var 13) (.cons (.call 4 (.cons (.var 1) (.cons (.var 5) (.cons (.call 2 (.cons (.var 0) (.cons (.cint 54) .nil))) .nil)))) .nil))) (.lst (.cons (.cbl false) (.cons (.cbl false) (.cons (.cbl true) .nil)))))) (.cons (.ret (.cbl false))
  .nil) .nil)
  (.cons (.ret (.bop true (.cons (.cmp .eq (.mth 0 (.var 13) .nil) (.var 3)) (.cons (.cmp .eq (.mth 1 (.var 13) .nil) (.var 5)) .nil))))
  .nil)))))))))))))))))
def qpf:Env:={ fn:=[("_law_floor",g__law_floor),("_law_filling",g__law_filling),("_law_at",g__law_at),("_law_line",g__law_line),("_law_bad_clues",g__law_bad_clues),("_law_bad_line",g__law_bad_line),("_law_bad_floor",g__law_bad_floor),("_law_refused",g__law_refused),("_law_clued",g__law_clued)],gc:=[],mn:=[],mt:=qay [(25,0,g_Puzzle_lines),(25,1,g_Puzzle_clues)],fs:=[],fi:=qaB [],nw:=[(25,ini_Puzzle)],ck:=[],ik:=[],xk:=[] }
def g_law:List D→RE ER:=qcv qpf 1 13 qoA
end K20
namespace Cm
theorem qfh:∀ns:List Int,qcw (ns.map D.int)=some ns
 |[]=>rfl
 |n::ns=>by simp[qcw,qfh ns]
theorem qgA (n:Nat):∀ns:List Int,D.fits (ns.map D.int) n=true
 |[]=>rfl
 |m::ns=>by simp[D.fits,D.fit,qgA n ns]
theorem qkg:∀ns ms:List Int,D.eqbs (ns.map D.int) (ms.map D.int)=decide (ns=ms)
 |[],[]=>by simp[D.eqbs]
 |[],_::_=>by simp[D.eqbs]
 |_::_,[]=>by simp[D.eqbs]
 |n::ns,m::ms=>by
  simp only[List.map_cons,D.eqbs,D.eqb,qkg ns ms]
  by_cases h:n=m<;>simp[h]
theorem qsm (ns ms:List Int):qoU (.lst (ns.map D.int)) (.lst (ms.map D.int))=.ok (decide (ns=ms)):=by
 simp[qoU,D.fit,qgA,D.eqb,qkg]
theorem qlS (x:Int):∀ns:List Int,((ns.map D.int).any fun z=>z.eqb (.int x))=decide (x∈ns)
 |[]=>by simp
 |n::ns=>by
  show(D.eqb (.int n) (.int x)||(ns.map D.int).any fun z=>z.eqb (.int x))=_
  rw[qlS x ns]
  simp only[D.eqb,List.mem_cons]
  by_cases h:n=x
  ·subst h;simp
  ·have:¬x=n:=fun e=>h e.symm
   simp[h,this]
theorem qrs (x:Int) (ns:List Int):qnO (.int x) (.lst (ns.map D.int))=.ok (decide (x∈ns)):=by
 show(if ((D.int x).fit 64&&(D.lst (ns.map D.int)).fit 64)=true then RE.ok ((ns.map D.int).any fun z=>z.eqb (.int x)) else RE.bad)=_
 rw[if_pos (by simp[D.fit,qgA]),qlS]
theorem qjk {α β:Type} (f:α→β):∀(l:List α) (i:Nat),(l.map f).eraseIdx i=(l.eraseIdx i).map f
 |[],_=>rfl
 |a::l,0=>rfl
 |a::l,i+1=>by simp[qjk f l i]
theorem qia {α:Type}:∀(l:List α) (i:Nat) (h:i<l.length),(l[i]::l.eraseIdx i).Perm l
 |[],_,h=>absurd h (Nat.not_lt_zero _)
 |a::l,0,_=>List.Perm.refl _
 |a::l,i+1,h=>(List.Perm.swap a _ _).trans ((qia l i (Nat.lt_of_succ_lt_succ h)).cons a)
def IC (cs:List Nat):List Int:=cs.map fun c=>((c:Nat):Int)
theorem qwj {j:Int} (h:j≠0):nzB j=true:=by rw[qbA];exact h
theorem qqB {n:Nat} (h:n≤LIM):leB n=true:=by rw[qas];exact h
theorem qqS {i:Int} (h:-1000000≤i∧i≤1000000):qq9 i=true:=by
 unfold qq9
 rw[Nat.ble_eq]
 omega
theorem qu1 {n:Nat} (h:n≤1000000):qmo (n:Int)=true:=by
 have:LIM=16777216:=rfl
 unfold qmo
 rw[Bool.and_eq_true,qas]
 exact⟨qqS (by omega),by omega⟩
theorem quY {i j:Int} (h:-1000000≤i∧i≤1000000 ∧ -1000000≤j∧j≤1000000):qsI i j=true:=by
 have:LIM=16777216:=rfl
 unfold qsI
 rw[Bool.and_eq_true,Bool.and_eq_true,qas]
 exact⟨qqS (by omega),qqS (by omega),by omega⟩
section
variable {Γ:Env} {ss a b:Sms} {ρ ρ':List Sl} {i:Nat} {e ix:Ex} {d:D} {ds:List D} {f c:Bool}
theorem qon {n k:Nat} (h:k<n):L2.ixN n (k:Int)=some k:=by
 unfold L2.ixN
 rw[if_pos (by omega),if_pos (by omega)]
 simp
end
def qwZ (r:RE ER):Bool:=match r with
 |.ok (.val (.bl true) _)=>true
 |_=>false
end Cm
namespace Cm
theorem RE.bind_assoc {α β γ:Type} (m:RE α) (f:α→RE β) (g:β→RE γ):(m.bind f).bind g=m.bind fun x=>(f x).bind g:=by cases m<;>rfl
@[simp] theorem RE.bind_pure {α:Type} (m:RE α):m.bind RE.ok=m:=by cases m<;>rfl
inductive Sh where
 |v | f | b | n | o
def ER.isF:ER→Bool
 |.fre _ _=>true
 |_=>false
def qig:Sh→ER→Prop
 |.v,er=>er.isV=true
 |.f,er=>er.isF=true
 |.b,er=>er.isB=true
 |.n,er=>er.isB=false
 |.o,er=>er.isF=true∨(er.isV=true∧er.d=.non)
def Sh.nb:Sh→Bool
 |.b=>false
 |_=>true
def Sh.ret:Sh→Sh
 |.b=>.f
 |s=>s
structure Is (s:Sh) (t:Bool) (d:D) (er:ER):Prop where
 d:er.d=d
 s:qig s er
 t:t=true→er.b=true
def XR {α β:Type} (r:RE β) (m:RE α) (R:α→β→Prop):Prop:=match m with
 |.bad=>True
 |.ok v=>∃x,r=.ok x∧R v x
 |.exc c fs=>r=.exc c fs
theorem XR.bind {α β γ δ:Type} {r:RE β} {m:RE α} {R:α→β→Prop} {f:β→RE γ} {g:α→RE δ} {S:δ→γ→Prop} (h:XR r m R) (k:∀v x,R v x→XR (f x) (g v) S):XR (r.bind f) (m.bind g) S:=by
 cases m with
 |bad=>trivial
 |ok v=>obtain⟨x,e,hx⟩:=h;rw[e];exact k v x hx
 |exc c fs=>have h:r=_:=h;rw[h];rfl
theorem XR.mono {α β:Type} {r:RE β} {m:RE α} {R S:α→β→Prop} (h:XR r m R) (k:∀v x,R v x→S v x):XR r m S:=by
 cases m with
 |bad=>trivial
 |ok v=>obtain⟨x,e,hx⟩:=h;exact⟨x,e,k v x hx⟩
 |exc c fs=>exact h
theorem XR.pure {α β:Type} {v:α} {x:β} {R:α→β→Prop} (h:R v x):XR (.ok x) (.ok v) R:=⟨x,rfl,h⟩
theorem XR.to {α β:Type} {r:RE β} {v:α} {R:α→β→Prop} (h:XR r (.ok v) R):∃x,r=.ok x∧R v x:=h
abbrev XE {α:Type} (Γ:Env) (e:Ex) (ρ:List Sl) (m:RE α) (en:α→D) (s:Sh) (t:Bool):Prop:=XR (ev Γ e ρ) m fun v er=>Is s t (en v) er
abbrev XT (Γ:Env) (e:Te) (ρ:List Sl) (m:RE Bool):Prop:=XR (evT Γ e ρ) m fun v x=>x=v
abbrev XI {α:Type} (Γ:Env) (e:Itx) (ρ:List Sl) (m:RE (List α)) (en:α→D) (t o:Bool):Prop:=XR (evI Γ e ρ) m fun xs w=>w.xs=xs.map en∧(t=true→w.b=true)∧(o=false→w.own=false)
abbrev Rf {α:Type} (r:RE ER) (m:RE α) (en:α→D) (s:Sh) (t:Bool):Prop:=XR r m fun v er=>Is s t (en v) er
theorem Is.val {d:D} {b t:Bool} (h:t=true→b=true):Is .v t d (.val d b):=⟨rfl,rfl,h⟩
theorem Is.fre {ds:List D} {b t:Bool} (h:t=true→b=true):Is .f t (.lst ds) (.fre ds b):=⟨rfl,rfl,h⟩
theorem xok {α:Type} {v:α} {d:D} {en:α→D} {t:Bool} (h:d=en v):XR (ok d) (.ok v) fun v er=>Is .v t (en v) er:=⟨_,rfl,h,rfl,fun _=>rfl⟩
theorem qt4 {α:Type} {v:α} {d:D} {b t:Bool} {en:α→D} (h:d=en v) (k:t=true→b=true):XR (RE.ok (.val d b)) (.ok v) fun v er=>Is .v t (en v) er:=⟨_,rfl,h,rfl,k⟩
theorem qoR {α:Type} {v:α} {ds:List D} {b t:Bool} {en:α→D} (h:.lst ds=en v) (k:t=true→b=true):XR (RE.ok (.fre ds b)) (.ok v) fun v er=>Is .f t (en v) er:=⟨_,rfl,h,rfl,k⟩
theorem Is.weak {s:Sh} {t:Bool} {d:D} {er:ER} (h:Is s t d er) (hs:s.nb=true):Is .n t d er:=⟨h.d,by
 have:=h.s
 cases s<;>cases er<;>simp_all[qig,ER.isF,Sh.nb],h.t⟩
theorem Is.low {s:Sh} {t:Bool} {d:D} {er:ER} (h:Is s t d er):Is s false d er:=⟨h.d,h.s,fun e=>nomatch e⟩
abbrev eI:Int→D:=D.int
abbrev eB:Bool→D:=D.bl
abbrev eS:List Nat→D:=D.str
def eC (c:Nat):D:=.str [c]
def eU (_:Unit):D:=.non
def eD (d:D):D:=d
def eL {α:Type} (en:α→D) (xs:List α):D:=.lst (xs.map en)
def eO {α:Type} (en:α→D):Option α→D
 |none=>.non
 |some x=>en x
def eT1 {α:Type} (a:α→D) (p:α):D:=.tup [a p]
def eT2 {α β:Type} (a:α→D) (b:β→D) (p:α × β):D:=.tup [a p.1,b p.2]
def eT3 {α β γ:Type} (a:α→D) (b:β→D) (c:γ→D) (p:α × β × γ):D:=.tup [a p.1,b p.2.1,c p.2.2]
def eT4 {α β γ δ:Type} (a:α→D) (b:β→D) (c:γ→D) (d:δ→D) (p:α × β × γ × δ):D:=.tup [a p.1,b p.2.1,c p.2.2.1,d p.2.2.2]
def eT5 {α β γ δ ε:Type} (a:α→D) (b:β→D) (c:γ→D) (d:δ→D) (e:ε→D) (p:α × β × γ × δ × ε):D:=.tup [a p.1,b p.2.1,c p.2.2.1,d p.2.2.2.1,e p.2.2.2.2]
def eT6 {α β γ δ ε ζ:Type} (a:α→D) (b:β→D) (c:γ→D) (d:δ→D) (e:ε→D) (f:ζ→D) (p:α × β × γ × δ × ε × ζ):D:=.tup [a p.1,b p.2.1,c p.2.2.1,d p.2.2.2.1,e p.2.2.2.2.1,f p.2.2.2.2.2]
def eX (c:Nat):D:=.exc c []
class Flat {α:Type} (en:α→D):Prop where
 flat:∀v,(en v).flat=true
instance:Flat eI:=⟨fun _=>rfl⟩
instance:Flat eB:=⟨fun _=>rfl⟩
instance:Flat eS:=⟨fun _=>rfl⟩
instance:Flat eC:=⟨fun _=>rfl⟩
instance:Flat eU:=⟨fun _=>rfl⟩
instance:Flat eX:=⟨fun _=>rfl⟩
instance {α:Type} {en:α→D} [Flat en]:Flat (eO en):=⟨fun v=>by cases v with
 |none=>rfl
 |some x=>exact Flat.flat (en:=en) x⟩
instance {α β:Type} {a:α→D} {b:β→D} [ha:Flat a] [hb:Flat b]:Flat (eT2 a b):=⟨fun v=>by simp[eT2,ha.flat,hb.flat]⟩
instance {α β γ:Type} {a:α→D} {b:β→D} {c:γ→D} [ha:Flat a] [hb:Flat b] [hc:Flat c]:Flat (eT3 a b c):=⟨fun v=>by simp[eT3,ha.flat,hb.flat,hc.flat]⟩
instance {α β γ δ:Type} {a:α→D} {b:β→D} {c:γ→D} {d:δ→D} [ha:Flat a] [hb:Flat b] [hc:Flat c] [hd:Flat d]:Flat (eT4 a b c d):=⟨fun v=>by simp[eT4,ha.flat,hb.flat,hc.flat,hd.flat]⟩
theorem qgS {α:Type} {en:α→D} [h:Flat en]:∀xs:List α,D.flats (xs.map en)=true
 |[]=>rfl
 |x::xs=>by simp[h.flat,qgS xs]
def qoN {α:Type} (s:Sh) (t:Bool) (en:α→D):Prop:=t=true∨(s=.v∧∀v,(en v).flat=true)∨(s=.f∧∀v ds,en v=.lst ds→D.flats ds=true)
theorem qbd {α:Type} {s:Sh} {en:α→D}:qoN s true en:=.inl rfl
def Sl.rd:Sl→Sl
 |.fxd d _=>.val d false
 |s=>s
def SlV (t:Bool) (d:D) (s:Sl):Prop:=∃f,s.rd=.val d f∧(t=true→f=true)
theorem qqv {s:Sl} {d:D} {f:Bool} (h:s.rd=.val d f):s=.val d f∨(f=false∧∃k,s=.fxd d k):=by
 cases s with
 |fxd d' k=>cases h;exact .inr ⟨rfl,k,rfl⟩
 |val _ _=>exact .inl h
 |own _ _=>cases h
 |non=>cases h
 |slf _ _=>cases h
 |dct _ _=>cases h
 |row _=>cases h
def SlO (t:Bool) (ds:List D) (s:Sl):Prop:=∃f,s=.own ds f∧(t=true→f=true)
theorem SlV.low {t:Bool} {d:D} {s:Sl} (h:SlV t d s):SlV false d s:=by
 obtain⟨f,e,_⟩:=h
 exact⟨f,e,fun e=>nomatch e⟩
theorem SlO.low {t:Bool} {d:List D} {s:Sl} (h:SlO t d s):SlO false d s:=by
 obtain⟨f,e,_⟩:=h
 exact⟨f,e,fun e=>nomatch e⟩
theorem SlV.flat {α:Type} {en:α→D} [h:Flat en] {v:α}:SlV true (en v) (.val (en v) (en v).flat):=⟨_,rfl,fun _=>h.flat v⟩
theorem SlV.any {d:D} {b:Bool}:SlV false d (.val d b):=⟨_,rfl,fun e=>nomatch e⟩
section
variable {Γ:Env} {ρ:List Sl} {α β γ δ ε:Type} {en:α→D} {en2:β→D} {en3:γ→D} {a b c e:Ex} {s s1 s2 s3:Sh} {t t1 t2 t3:Bool} {m:RE α} {x:α} {y:β} {z:γ}
theorem XE.weak {m:RE α} (h:XE Γ e ρ m en s t) (hs:s.nb=true):XE Γ e ρ m en .n t:=XR.mono h fun _ _ k=>k.weak hs
theorem XE.low {m:RE α} (h:XE Γ e ρ m en s t):XE Γ e ρ m en s false:=XR.mono h fun _ _ k=>k.low
theorem XE.coe {x:α} {f:α→β} (h:XE Γ e ρ (.ok x) en s t) (k:∀v,en v=en2 (f v)):XE Γ e ρ (.ok (f x)) en2 s t:=by
 obtain⟨er,q,r⟩:=h
 exact⟨er,q,by rw[←k];exact r.d,r.s,r.t⟩
theorem XE.coeG {m:RE α} {f:α→β} (h:XE Γ e ρ m en s t) (k:∀v,en v=en2 (f v)):XE Γ e ρ (m.bind fun x=>.ok (f x)) en2 s t:=by
 cases m with
 |bad=>trivial
 |ok x=>exact XE.coe h k
 |exc c fs=>exact h
theorem XE.cast {m m':RE α} (h:XE Γ e ρ m en s t) (k:m'=m):XE Γ e ρ m' en s t:=by rw[k];exact h
theorem XE.var {i:Nat} {q:Sl} (h:ρ[i]? = some q) (hs:SlV t (en x) q):XE Γ (.var i) ρ (.ok x) en .v t:=by
 obtain⟨f,e,k⟩:=hs
 rcases qqv e with rfl | ⟨rfl,j,rfl⟩
 ·exact⟨.val (en x) f,by rw[ev,h],rfl,rfl,k⟩
 ·exact⟨.val (en x) false,by rw[ev,h],rfl,rfl,k⟩
theorem XE.varO {i:Nat} {q:Sl} {xs:List α} (h:ρ[i]? = some q) (hs:SlO t (xs.map en) q):XE Γ (.var i) ρ (.ok xs) (eL en) .b t:=by
 obtain⟨f,rfl,k⟩:=hs
 exact⟨.brw (xs.map en) f,by rw[ev,h],rfl,rfl,k⟩
theorem XE.cint {i:Int}:XE Γ (.cint i) ρ (.ok i) eI .v true:=by unfold XE;rw[ev];exact xok rfl
theorem XE.cbl {i:Bool}:XE Γ (.cbl i) ρ (.ok i) eB .v true:=by unfold XE;rw[ev];exact xok rfl
theorem XE.cnon:XE Γ .cnon ρ (.ok ()) eU .v true:=by unfold XE;rw[ev];exact xok rfl
theorem XE.cstr {i:List Nat}:XE Γ (.cstr i) ρ (.ok i) eS .v true:=by unfold XE;rw[ev];exact xok rfl
theorem XE.glo {i:Nat} {nm:PySem.Str} {d:D} (h:Γ.gc[i]? = some (nm,d)) (k:d=en x):XE Γ (.glo i) ρ (.ok x) en .v true:=by unfold XE;rw[ev,h];exact qt4 k fun _=>rfl
theorem XE.bin {o:Bop} {m1:RE α} {m2:RE β} {f:α→β→RE γ} (ha:XE Γ a ρ m1 en s1 t1) (hb:XE Γ b ρ m2 en2 s2 t2) (h:∀x y bb,((t1&&t2)=true→bb=true)→XR (evB o (en x) (en2 y) bb) (f x y) fun v er=>Is s t (en3 v) er) :
  XE Γ (.bin o a b) ρ (m1.bind fun x=>m2.bind fun y=>f x y) en3 s t:=by
 unfold XE
 rw[ev]
 exact XR.bind ha fun x ex hx=>XR.bind hb fun y ey hy=>by
  rw[hx.d,hy.d]
  exact h x y _ fun k=>by
   rw[Bool.and_eq_true] at k
   rw[hx.t k.1,hy.t k.2];rfl
theorem XE.binP {o:Bop} {f:RE γ} (ha:XE Γ a ρ (.ok x) en s1 t1) (hb:XE Γ b ρ (.ok y) en2 s2 t2) (h:∀bb,((t1&&t2)=true→bb=true)→XR (evB o (en x) (en2 y) bb) f fun v er=>Is s t (en3 v) er) :
  XE Γ (.bin o a b) ρ f en3 s t:=by
 obtain⟨ex,e1,h1⟩:=ha
 obtain⟨ey,e2,h2⟩:=hb
 unfold XE
 rw[ev,e1,e2]
 simp only[RE.bind_ok]
 rw[h1.d,h2.d]
 exact h _ fun k=>by
  rw[Bool.and_eq_true] at k
  rw[h1.t k.1,h2.t k.2];rfl
theorem xgd {b:Bool} {r:RE ER} {m:RE α} {R:α→ER→Prop} (h:XR r m R):XR (gd b r) (gd b m) R:=by
 cases b
 ·trivial
 ·exact h
theorem qbR (x y:Int) (bb:Bool) (_:(t1&&t2)=true→bb=true):XR (evB .add (eI x) (eI y) bb) (.ok (x+y)) fun v er=>Is .v true (eI v) er:=xok rfl
theorem qta (x y:Int) (bb:Bool) (_:(t1&&t2)=true→bb=true):XR (evB .sub (eI x) (eI y) bb) (.ok (x - y)) fun v er=>Is .v true (eI v) er:=xok rfl
theorem qqh (x y:Int) (h:qoP x y=true) (bb:Bool) (_:(t1&&t2)=true→bb=true):XR (evB .mul (eI x) (eI y) bb) (.ok (x*y)) fun v er=>Is .v true (eI v) er:=by
 show XR (gd (qoP x y) _) _ _
 rw[h];exact xok rfl
theorem qnA {x y:Int} (h:Nat.ble x.natAbs 18446744073709551615=true):qoP x y=true:=by unfold qoP;rw[h];rfl
theorem qtT {x y:Int} (h:Nat.ble y.natAbs 18446744073709551615=true):qoP x y=true:=by unfold qoP;rw[h];simp
def qka (x y:Int):RE Int:=gd (qoP x y) (.ok (x*y))
theorem qiO (x y:Int) (bb:Bool) (_:(t1&&t2)=true→bb=true):XR (evB .mul (eI x) (eI y) bb) (qka x y) fun v er=>Is .v true (eI v) er:=xgd (xok rfl)
def qrG (x y:Int):RE Int:=gd (qsK y) (.ok (x.fdiv y))
theorem quX (x y:Int) (bb:Bool) (_:(t1&&t2)=true→bb=true):XR (evB .fdv (eI x) (eI y) bb) (qrG x y) fun v er=>Is .v true (eI v) er:=xgd (xok rfl)
theorem qhZ (x y:Int) (h:qsK y=true) (bb:Bool) (_:(t1&&t2)=true→bb=true):XR (evB .fdv (eI x) (eI y) bb) (.ok (x.fdiv y)) fun v er=>Is .v true (eI v) er:=by
 show XR (gd (qsK y) _) _ _
 rw[h];exact xok rfl
def qkV (x y:Int):RE Int:=gd (nzB y) (.ok (x.fmod y))
theorem qjR (x y:Int) (bb:Bool) (_:(t1&&t2)=true→bb=true):XR (evB .mdl (eI x) (eI y) bb) (qkV x y) fun v er=>Is .v true (eI v) er:=xgd (xok rfl)
theorem qbi (x y:Int) (h:nzB y=true) (bb:Bool) (_:(t1&&t2)=true→bb=true):XR (evB .mdl (eI x) (eI y) bb) (.ok (x.fmod y)) fun v er=>Is .v true (eI v) er:=by
 show XR (gd (nzB y) _) _ _
 rw[h];exact xok rfl
def quj (x y:Int):RE Int:=gd (qsH x y) (.ok (x ^ y.toNat))
theorem quN (x y:Int) (bb:Bool) (_:(t1&&t2)=true→bb=true):XR (evB .pow (eI x) (eI y) bb) (quj x y) fun v er=>Is .v true (eI v) er:=xgd (xok rfl)
def quS (x y:Int):RE Int:=gd (qsH x y) (.ok (x*2 ^ y.toNat))
def qxa (x y:Int):RE Int:=gd (nnB y) (.ok (x / 2 ^ y.toNat))
def qjM (x y:List Nat):RE (List Nat):=gd (leB (x.length+y.length)) (.ok (x++y))
theorem ql7 (x y:List Nat) (bb:Bool) (_:(t1&&t2)=true→bb=true):XR (evB .add (eS x) (eS y) bb) (qjM x y) fun v er=>Is .v true (eS v) er:=xgd (xok rfl)
def qeE (x y:List α):RE (List α):=gd (leB (x.length+y.length)) (.ok (x++y))
theorem qcp (x y:List α) (bb:Bool) (h:(t1&&t2)=true→bb=true):XR (evB .add (eL en x) (eL en y) bb) (qeE x y) fun v er=>Is .f (t1&&t2) (eL en v) er:=by
 show XR (gd (leB ((x.map en).length+(y.map en).length)) _) (gd _ _) _
 rw[List.length_map,List.length_map]
 exact xgd (qoR (by simp[eL]) h)
def qw0 (x:List α) (k:Int):RE (List α):=gd (qsL x.length k) (.ok (List.replicate k.toNat x).flatten)
theorem XE.cmp {o:Cop} {m1:RE α} {m2:RE β} {f:α→β→RE Bool} (ha:XE Γ a ρ m1 en s1 t1) (hb:XE Γ b ρ m2 en2 s2 t2) (h:∀x y,evC o (en x) (en2 y)=f x y):XE Γ (.cmp o a b) ρ (m1.bind fun x=>m2.bind fun y=>f x y) eB .v true:=by
 unfold XE
 rw[ev]
 exact XR.bind ha fun x ex hx=>XR.bind hb fun y ey hy=>by
  rw[hx.d,hy.d,h]
  cases f x y with
  |bad=>trivial
  |ok v=>exact xok rfl
  |exc c fs=>rfl
theorem XE.cmpP {o:Cop} {f:RE Bool} (ha:XE Γ a ρ (.ok x) en s1 t1) (hb:XE Γ b ρ (.ok y) en2 s2 t2) (h:evC o (en x) (en2 y)=f):XE Γ (.cmp o a b) ρ f eB .v true:=by
 have:=XE.cmp (o:=o) ha hb (f:=fun x y=>evC o (en x) (en2 y)) (fun _ _=>rfl)
 rw[←h];exact this
theorem qfQ (x y:Int):evC .eq (eI x) (eI y)=.ok (decide (x=y)):=rfl
theorem qpm (x y:Int):evC .ne (eI x) (eI y)=.ok (!decide (x=y)):=rfl
theorem quU (x y:Int):evC .lt (eI x) (eI y)=.ok (decide (x<y)):=rfl
theorem qgl (x y:Int):evC .le (eI x) (eI y)=.ok (decide (x≤y)):=rfl
theorem qmm (x y:Int):evC .gt (eI x) (eI y)=.ok (decide (y<x)):=rfl
theorem qsX (x y:Int):evC .ge (eI x) (eI y)=.ok (decide (y≤x)):=rfl
theorem qmL (x y:List Nat):evC .eq (eS x) (eS y)=.ok (decide (x=y)):=rfl
theorem qqi (x y:List Int):evC .eq (eL eI x) (eL eI y)=.ok (decide (x=y)):=qsm x y
def qwY (d:D) {α:Type} (r:RE α):RE α:=gd (d.fit 64) r
theorem qn1 (x:Int) (y:List Int):evC .isin (eI x) (eL eI y)=.ok (decide (x∈y)):=qrs x y
theorem qsZ (x:Nat) (y:List Nat):evC .nin (eC x) (eS y)=.ok (!decide (x∈y)):=rfl
theorem quJ (x:Nat) (y:List Nat):evC .eq (eC x) (eS y)=.ok (decide ([x]=y)):=rfl
theorem XE.chn {o p:Cop} {m1:RE α} {m2:RE β} {m3:RE γ} {f:α→β→Bool} {g:β→γ→Bool} (ha:XE Γ a ρ m1 en s1 t1) (hb:XE Γ b ρ m2 en2 s2 t2) (hc:XE Γ c ρ m3 en3 s3 t3) (h:∀x y,evC o (en x) (en2 y)=.ok (f x y)) (k:∀x y,evC p (en2 x) (en3 y)=.ok (g x y)) :
  XE Γ (.chn o p a b c) ρ (m1.bind fun x=>m2.bind fun y=>if f x y=true then m3.bind fun z=>.ok (g y z) else .ok false) eB .v true:=by
 unfold XE
 rw[ev]
 refine XR.bind ha fun x ex hx=>XR.bind hb fun y ey hy=>?_
 ·rw[hx.d,hy.d,h]
  simp only[RE.bind_ok]
  cases f x y with
  |false=>exact xok rfl
  |true=>exact XR.bind hc fun z ez hz=>(by rw[hz.d,k];exact xok rfl)
theorem XE.chnP {o p:Cop} {f g:Bool} (ha:XE Γ a ρ (.ok x) en s1 t1) (hb:XE Γ b ρ (.ok y) en2 s2 t2) (hc:XE Γ c ρ (.ok z) en3 s3 t3) (h:evC o (en x) (en2 y)=.ok f) (k:evC p (en2 y) (en3 z)=.ok g) :
  XE Γ (.chn o p a b c) ρ (.ok (f&&g)) eB .v true:=by
 obtain⟨ex,e1,h1⟩:=ha
 obtain⟨ey,e2,h2⟩:=hb
 obtain⟨ez,e3,h3⟩:=hc
 unfold XE
 rw[ev,e1,e2]
 simp only[RE.bind_ok]
 rw[h1.d,h2.d,h]
 simp only[RE.bind_ok]
 cases f with
 |false=>exact xok rfl
 |true =>
  simp only[if_true,e3,RE.bind_ok]
  rw[h3.d,k]
  exact xok rfl
def unO:Option α→RE α
 |none=>.bad
 |some x=>.ok x
theorem XE.unO {x:Option α} (h:XE Γ e ρ (.ok x) (eO en) s t):XE Γ e ρ (unO x) en s t:=by
 cases x with
 |none=>trivial
 |some v=>exact h
abbrev XV (Γ:Env) (c:Bool) (es:Exs) (ρ:List Sl) (m:RE Bool):Prop:=XR (qoo Γ c es ρ) m fun v er=>Is .v true (eB v) er
abbrev XTs (Γ:Env) (c:Bool) (es:Tes) (ρ:List Sl) (m:RE Bool):Prop:=XR (qg7 Γ c es ρ) m fun v x=>x=v
theorem XV.one {es:Ex} {c:Bool} {m:RE Bool} (h:XE Γ es ρ m eB s t):XV Γ c (.cons es .nil) ρ m:=by
 unfold XV
 rw[qoo]
 have:m=m.bind fun k=>.ok k:=by cases m<;>rfl
 rw[this]
 exact XR.bind h fun v er k=>by
  rw[k.d]
  simp only[qoo]
  split
  ·subst_vars;exact xok rfl
  ·exact xok rfl
theorem XV.and {e:Ex} {es:Exs} {m1 m2:RE Bool} (h:XE Γ e ρ m1 eB s t) (k:XV Γ true es ρ m2):XV Γ true (.cons e es) ρ (m1.bind fun x=>if x=true then m2 else .ok false):=by
 unfold XV
 rw[qoo]
 exact XR.bind h fun v er q=>by
  rw[q.d]
  cases v with
  |true=>exact k
  |false=>exact xok rfl
theorem XV.or {e:Ex} {es:Exs} {m1 m2:RE Bool} (h:XE Γ e ρ m1 eB s t) (k:XV Γ false es ρ m2):XV Γ false (.cons e es) ρ (m1.bind fun x=>if x=true then .ok true else m2):=by
 unfold XV
 rw[qoo]
 exact XR.bind h fun v er q=>by
  rw[q.d]
  cases v with
  |true=>exact xok rfl
  |false=>exact k
theorem XE.bop {c:Bool} {es:Exs} {m:RE Bool} (h:XV Γ c es ρ m):XE Γ (.bop c es) ρ m eB .v true:=by unfold XE;rw[ev];exact h
class Tru {α:Type} (en:α→D) (f:outParam (α→Bool)):Prop where
 tru:∀v,qmS (en v)=.ok (f v)
instance:Tru eB id:=⟨fun _=>rfl⟩
instance:Tru eI (fun i=>i != 0):=⟨fun _=>rfl⟩
instance {α:Type} {en:α→D}:Tru (eL en) (fun xs=>!xs.isEmpty):=⟨fun v=>by cases v<;>rfl⟩
theorem XE.neg {m:RE Int} (h:XE Γ a ρ m eI s t):XE Γ (.neg a) ρ (m.bind fun x=>.ok (-x)) eI .v true:=by
 unfold XE;rw[ev]
 exact XR.bind h fun v er k=>by rw[k.d];exact xok rfl
theorem XE.negP {x:Int} (h:XE Γ a ρ (.ok x) eI s t):XE Γ (.neg a) ρ (.ok (-x)) eI .v true:=XE.neg h
theorem XT.val {m:RE Bool} (h:XE Γ a ρ m eB s t):XT Γ (.val a) ρ m:=by
 unfold XT;rw[evT]
 have:m=m.bind fun k=>.ok k:=by cases m<;>rfl
 rw[this]
 exact XR.bind h fun v er k=>by rw[k.d];exact⟨_,rfl,rfl⟩
theorem XT.not {q:Te} {m:RE Bool} (h:XT Γ q ρ m):XT Γ (.not q) ρ (m.bind fun x=>.ok (!x)):=by
 unfold XT;rw[evT]
 exact XR.bind h fun v er k=>by subst k;exact⟨_,rfl,rfl⟩
theorem XT.notP {q:Te} {x:Bool} (h:XT Γ q ρ (.ok x)):XT Γ (.not q) ρ (.ok (!x)):=XT.not h
theorem XTs.one {q:Te} {c:Bool} {m:RE Bool} (h:XT Γ q ρ m):XTs Γ c (.cons q .nil) ρ m:=by
 unfold XTs;rw[qg7]
 have:m=m.bind fun k=>.ok k:=by cases m<;>rfl
 rw[this]
 exact XR.bind h fun v er k=>by
  subst k
  simp only[qg7]
  split
  ·subst_vars;exact⟨_,rfl,rfl⟩
  ·exact⟨_,rfl,rfl⟩
theorem XTs.and {q:Te} {es:Tes} {m1 m2:RE Bool} (h:XT Γ q ρ m1) (k:XTs Γ true es ρ m2):XTs Γ true (.cons q es) ρ (m1.bind fun x=>if x=true then m2 else .ok false):=by
 unfold XTs;rw[qg7]
 exact XR.bind h fun v er q=>by
  subst q
  cases er
  ·exact⟨_,rfl,rfl⟩
  ·exact k
theorem XTs.or {q:Te} {es:Tes} {m1 m2:RE Bool} (h:XT Γ q ρ m1) (k:XTs Γ false es ρ m2):XTs Γ false (.cons q es) ρ (m1.bind fun x=>if x=true then .ok true else m2):=by
 unfold XTs;rw[qg7]
 exact XR.bind h fun v er q=>by
  subst q
  cases er
  ·exact k
  ·exact⟨_,rfl,rfl⟩
theorem XT.bop {c:Bool} {es:Tes} {m:RE Bool} (h:XTs Γ c es ρ m):XT Γ (.bop c es) ρ m:=by unfold XT;rw[evT];exact h
def atE (xs:List α) (k:Int):RE α:=match L2.atI xs k with
 |some x=>.ok x
 |none=>.bad
theorem qov (f:α→β) (xs:List α) (k:Int):L2.atI (xs.map f) k=(L2.atI xs k).map f:=by
 unfold L2.atI
 rw[List.length_map]
 cases L2.ixN xs.length k<;>simp
theorem XE.idx {m1:RE (List α)} {m2:RE Int} (ha:XE Γ a ρ m1 (eL en) s1 t) (hb:XE Γ b ρ m2 eI s2 t2):XE Γ (.idx a b) ρ (m1.bind fun xs=>m2.bind fun k=>atE xs k) en .v t:=by
 unfold XE;rw[ev]
 exact XR.bind ha fun xs ex hx=>XR.bind hb fun k ek hk=>by
  rw[hx.d,hk.d]
  show XR (match L2.atI (xs.map en) k with
   |some x=>RE.ok (ER.val x (ex.b||x.flat))
   |none=>.bad) _ _
  rw[qov]
  unfold atE
  cases L2.atI xs k with
  |none=>trivial
  |some x=>exact⟨_,rfl,rfl,rfl,fun z=>by show(_||_)=true;rw[hx.t z];rfl⟩
theorem XE.idxP {xs:List α} {k:Int} (ha:XE Γ a ρ (.ok xs) (eL en) s1 t) (hb:XE Γ b ρ (.ok k) eI s2 t2):XE Γ (.idx a b) ρ (atE xs k) en .v t:=XE.idx ha hb
theorem XE.flat [h:Flat en] {m:RE α} (k:XE Γ e ρ m en .v t) (q:∀x b,ev Γ e ρ=.ok (.val (en x) b)→b=true):XE Γ e ρ m en .v true:=by
 cases m with
 |bad=>trivial
 |ok x =>
  obtain⟨er,e1,e2⟩:=k
  refine⟨er,e1,e2.d,e2.s,fun _=>?_⟩
  cases er with
  |val d b =>
   have:=e2.d
   simp only[ER.d_val] at this
   subst this
   exact q _ _ e1
  |fre ds b=>exact nomatch e2.s
  |brw ds b=>exact nomatch e2.s
 |exc c fs=>exact k
theorem XE.idxF [h:Flat en] {m1:RE (List α)} {m2:RE Int} (ha:XE Γ a ρ m1 (eL en) s1 t) (hb:XE Γ b ρ m2 eI s2 t2):XE Γ (.idx a b) ρ (m1.bind fun xs=>m2.bind fun k=>atE xs k) en .v true:=by
 unfold XE;rw[ev]
 exact XR.bind ha fun xs ex hx=>XR.bind hb fun k ek hk=>by
  rw[hx.d,hk.d]
  show XR (match L2.atI (xs.map en) k with
   |some x=>RE.ok (ER.val x (ex.b||x.flat))
   |none=>.bad) _ _
  rw[qov]
  unfold atE
  cases L2.atI xs k with
  |none=>trivial
  |some x=>exact⟨_,rfl,rfl,rfl,fun z=>by show(_||(en x).flat)=true;rw[h.flat x];simp⟩
theorem XE.idxFP [h:Flat en] {xs:List α} {k:Int} (ha:XE Γ a ρ (.ok xs) (eL en) s1 t) (hb:XE Γ b ρ (.ok k) eI s2 t2):XE Γ (.idx a b) ρ (atE xs k) en .v true:=XE.idxF ha hb
def quI (xs:List Nat) (k:Int):RE Nat:=gd (leB xs.length) (atE xs k)
theorem XE.idxS {m1:RE (List Nat)} {m2:RE Int} (ha:XE Γ a ρ m1 eS s1 t) (hb:XE Γ b ρ m2 eI s2 t2):XE Γ (.idx a b) ρ (m1.bind fun xs=>m2.bind fun k=>quI xs k) eC .v true:=by
 unfold XE;rw[ev]
 exact XR.bind ha fun xs ex hx=>XR.bind hb fun k ek hk=>by
  rw[hx.d,hk.d]
  refine xgd ?_
  unfold atE
  cases L2.atI xs k with
  |none=>trivial
  |some x=>exact⟨_,rfl,rfl,rfl,fun _=>rfl⟩
theorem XE.idxSP {xs:List Nat} {k:Int} (ha:XE Γ a ρ (.ok xs) eS s1 t) (hb:XE Γ b ρ (.ok k) eI s2 t2):XE Γ (.idx a b) ρ (quI xs k) eC .v true:=XE.idxS ha hb
theorem XE.prt {k:Int} {f:α→β} {m1:RE α} (ha:XE Γ a ρ m1 en s1 t) (h:∀v b,qrt (en v) (.int k) b=.ok (.val (en2 (f v)) (b||(en2 (f v)).flat))) (ht:t2=true→t=true∨Flat en2):XE Γ (.idx a (.cint k)) ρ (m1.bind fun x=>.ok (f x)) en2 .v t2:=by
 unfold XE;rw[ev]
 exact XR.bind ha fun x ex hx=>by
  rw[hx.d,ev]
  simp only[RE.bind_ok,ok,ER.d_val]
  rw[h]
  refine qt4 rfl fun z=>?_
  rcases ht z with q | q
  ·rw[hx.t q];rfl
  ·rw[q.flat];simp
theorem XE.prtP {k:Int} {f:α→β} (ha:XE Γ a ρ (.ok x) en s1 t) (h:∀v b,qrt (en v) (.int k) b=.ok (.val (en2 (f v)) (b||(en2 (f v)).flat))) (ht:t2=true→t=true∨Flat en2):XE Γ (.idx a (.cint k)) ρ (.ok (f x)) en2 .v t2:=XE.prt ha h ht
theorem ht0 {P:Prop}:false=true→P:=fun h=>nomatch h
theorem qpg (f:α→β) (xs:List α) (lo hi:Option Int):qcR (xs.map f) lo hi=(qcR xs lo hi).map f:=by
 unfold qcR
 rw[List.length_map,List.map_take,List.map_drop]
abbrev XO (Γ:Env) (es:Exs) (ρ:List Sl) (m:RE (Option Int)):Prop:=XR (evO Γ es ρ) m fun v x=>x=v
theorem XO.nil:XO Γ .nil ρ (.ok none):=by unfold XO;rw[evO];exact⟨_,rfl,rfl⟩
theorem XO.one {m:RE Int} (h:XE Γ a ρ m eI s t):XO Γ (.cons a .nil) ρ (m.bind fun k=>.ok (some k)):=by
 unfold XO;rw[evO]
 exact XR.bind h fun v er k=>by rw[k.d];exact⟨_,rfl,rfl⟩
theorem XO.oneP {k:Int} (h:XE Γ a ρ (.ok k) eI s t):XO Γ (.cons a .nil) ρ (.ok (some k)):=XO.one h
theorem XE.slc {m1:RE (List α)} {lo hi:Exs} {m2 m3:RE (Option Int)} (ha:XE Γ a ρ m1 (eL en) s1 t) (hb:XO Γ lo ρ m2) (hc:XO Γ hi ρ m3):XE Γ (.slc a lo hi) ρ (m1.bind fun xs=>m2.bind fun l=>m3.bind fun h=>.ok (qcR xs l h)) (eL en) .f t:=by
 unfold XE;rw[ev]
 exact XR.bind ha fun xs ex hx=>XR.bind hb fun l el hl=>XR.bind hc fun h eh hh=>by
  subst hl;subst hh
  rw[hx.d]
  exact qoR (by rw[qpg];rfl) hx.t
theorem XE.slcP {xs:List α} {lo hi:Exs} {l h:Option Int} (ha:XE Γ a ρ (.ok xs) (eL en) s1 t) (hb:XO Γ lo ρ (.ok l)) (hc:XO Γ hi ρ (.ok h)):XE Γ (.slc a lo hi) ρ (.ok (qcR xs l h)) (eL en) .f t:=XE.slc ha hb hc
def qv3 (xs:List Nat) (l h:Option Int):RE (List Nat):=gd (leB xs.length) (.ok (qcR xs l h))
theorem XE.isi {ty:Ty} {f:α→Bool} {m1:RE α} (ha:XE Γ a ρ m1 en s1 t) (h:∀v,qt1 (en v) ty=ok (.bl (f v))):XE Γ (.isi a ty) ρ (m1.bind fun x=>.ok (f x)) eB .v true:=by
 unfold XE;rw[ev]
 exact XR.bind ha fun xs ex hx=>by rw[hx.d,h];exact xok rfl
def tyE (d:D) (ty:Ty):RE Bool:=(qt1 d ty).bind fun x=>match x.d with
 |.bl b=>.ok b
 |_=>.bad
theorem XE.isiD {ty:Ty} (ha:XE Γ a ρ (.ok x) en s1 t):XE Γ (.isi a ty) ρ (tyE (en x) ty) eB .v true:=by
 obtain⟨er,e1,e2⟩:=ha
 unfold XE;rw[ev,e1]
 simp only[RE.bind_ok]
 rw[e2.d,tyE]
 cases en x<;>cases ty<;>first | trivial | exact xok rfl
theorem qsG (Γ:Env) (ρ:List Sl) (a:Ex):evs Γ (.cons a .nil) ρ=(ev Γ a ρ).bind fun x=>.ok [x.frz]:=by
 rw[evs,evs];rfl
theorem qfX (x:ER):x.frz.d=x.d:=by cases x<;>rfl
theorem qoE (x:ER):x.frz.b=x.b:=by cases x<;>rfl
theorem XE.pri1 {p:Pri} {m1:RE α} {f:α→RE β} (ha:XE Γ a ρ m1 en s1 t1) (h:∀x e,e.d=en x→(t1=true→e.b=true)→XR (evP p [e]) (f x) fun v er=>Is s t (en2 v) er):XE Γ (.pri p (.cons a .nil)) ρ (m1.bind f) en2 s t:=by
 unfold XE;rw[ev,qsG,RE.bind_assoc]
 exact XR.bind ha fun x ex hx=>h x _ (by rw[qfX,hx.d]) fun z=>by rw[qoE];exact hx.t z
theorem XE.pri1P {p:Pri} {f:RE β} (ha:XE Γ a ρ (.ok x) en s1 t1) (h:∀e,e.d=en x→(t1=true→e.b=true)→XR (evP p [e]) f fun v er=>Is s t (en2 v) er):XE Γ (.pri p (.cons a .nil)) ρ f en2 s t:=by
 obtain⟨er,e1,e2⟩:=ha
 unfold XE;rw[ev,qsG,e1]
 simp only[RE.bind_ok]
 exact h _ (by rw[qfX,e2.d]) fun z=>by rw[qoE];exact e2.t z
theorem XE.pri2 {p:Pri} {m1:RE α} {m2:RE β} {f:α→β→RE γ} (ha:XE Γ a ρ m1 en s1 t1) (hb:XE Γ b ρ m2 en2 s2 t2) (h:∀x y e e',e.d=en x→e'.d=en2 y→XR (evP p [e,e']) (f x y) fun v er=>Is s t (en3 v) er):XE Γ (.pri p (.cons a (.cons b .nil))) ρ (m1.bind fun x=>m2.bind fun y=>f x y) en3 s t:=by
 unfold XE;rw[ev,evs,qsG,RE.bind_assoc]
 exact XR.bind ha fun x ex hx=>by
  rw[RE.bind_assoc,RE.bind_assoc]
  exact XR.bind hb fun y ey hy=>h x y _ _ (by rw[qfX,hx.d]) (by rw[qfX,hy.d])
theorem qfn (x:List α) (e:ER) (h:e.d=eL en x) (_:t=true→e.b=true):XR (evP .len [e]) (.ok (x.length:Int)) fun v er=>Is .v true (eI v) er:=by
 simp only[evP,h,eL,List.length_map];exact xok rfl
def qqV (x:List Nat):RE Int:=gd (leB x.length) (.ok (x.length:Int))
theorem qqg (x:List Nat) (e:ER) (h:e.d=eS x) (_:t=true→e.b=true):XR (evP .len [e]) (qqV x) fun v er=>Is .v true (eI v) er:=by
 simp only[evP,h];exact xgd (xok rfl)
theorem qtd (x y:Int) (e e':ER) (h:e.d=eI x) (h':e'.d=eI y):XR (evP .min2 [e,e']) (.ok (if y<x then y else x)) fun v er=>Is .v true (eI v) er:=by
 simp only[evP,h,h'];exact xok rfl
def qw6 (x y:Int):RE (Int × Int):=gd (dmB y) (.ok (x / y,x % y))
def qwf (x:List Int):RE Int:=match x with
 |[]=>.bad
 |n::ns=>.ok (qmR (n::ns))
def qrT (x:List Int):RE Int:=match x with
 |[]=>.bad
 |n::ns=>.ok (qkG (n::ns))
theorem qtl (x:List Int) (e:ER) (h:e.d=eL eI x) (_:t=true→e.b=true):XR (evP .max1 [e]) (qrT x) fun v er=>Is .v true (eI v) er:=by
 simp only[evP,h,eL,qfh]
 cases x with
 |nil=>trivial
 |cons n ns=>exact xok rfl
theorem qu8 (x:List Int) (e:ER) (h:e.d=eL eI x) (_:t=true→e.b=true):XR (evP .sum [e]) (.ok x.sum) fun v er=>Is .v true (eI v) er:=by
 simp only[evP,h,eL,qfh];exact xok rfl
theorem qfK:∀bs:List Bool,qf6 (bs.map D.bl)=some bs
 |[]=>rfl
 |b::bs=>by simp[qf6,qfK bs]
theorem qh0:∀bs:List (List Nat),qkt (bs.map D.str)=some bs
 |[]=>rfl
 |b::bs=>by simp[qkt,qh0 bs]
theorem quF (x:List Bool) (e:ER) (h:e.d=eL eB x) (_:t=true→e.b=true):XR (evP .all [e]) (.ok (x.all id)) fun v er=>Is .v true (eB v) er:=by
 simp only[evP,h,eL,qfK];exact xok rfl
theorem quL (x:List Bool) (e:ER) (h:e.d=eL eB x) (_:t=true→e.b=true):XR (evP .any [e]) (.ok (x.any id)) fun v er=>Is .v true (eB v) er:=by
 simp only[evP,h,eL,qfK];exact xok rfl
theorem qs9 (x:List α) (e:ER) (h:e.d=eL en x) (k:t=true→e.b=true):XR (evP .list [e]) (.ok x) fun v er=>Is .f t (eL en v) er:=by
 simp only[evP,h,eL];exact qoR rfl fun q=>by rw[k q];rfl
theorem qbj [hf:Flat en] (x:List α) (e:ER) (h:e.d=eL en x) (k:t=true→e.b=true):XR (evP .list [e]) (.ok x) fun v er=>Is .f true (eL en v) er:=by
 simp only[evP,h,eL];exact qoR rfl fun _=>by rw[qgS];simp
def qno (s:List Nat):RE Int:=match PySem.intText? (qbg s) with
 |some n=>gd (Nat.ble s.length 640) (.ok n)
 |none=>.bad
theorem qt7 (x:List Nat) (e:ER) (h:e.d=eS x) (_:t=true→e.b=true):XR (evP .int [e]) (qno x) fun v er=>Is .v true (eI v) er:=by
 simp only[evP,h,qno]
 cases PySem.intText? (qbg x) with
 |none=>trivial
 |some n=>exact xgd (xok rfl)
def qiM (i:Int):RE (List Nat):=gd (qt2 i) (.ok (toString i:PySem.Str).cps.toList)
theorem qim (x:Int) (e:ER) (h:e.d=eI x) (_:t=true→e.b=true):XR (evP .str [e]) (qiM x) fun v er=>Is .v true (eS v) er:=by
 simp only[evP,h];exact xgd (xok rfl)
def qbC (n:Int):RE (List Int):=gd (qmo n) (.ok (qfC 0 1 n.toNat))
def qkD (i j:Int):RE (List Int):=gd (qsI i j) (.ok (qfC i 1 (j - i).toNat))
def quK (i j c:Int):RE (List Int):=gd (qur i j c) (.ok (qfC i c (qsJ i j c)))
abbrev XRg (Γ:Env) (es:Exs) (ρ:List Sl) (m:RE (List Int)):Prop:=XR ((evs Γ es ρ).bind qeJ) m fun v x=>x=v
theorem quE {α:Type} {b:Bool} {x:α}:XR (gd b (.ok x)) (gd b (.ok x)) fun v y=>y=v:=by
 cases b
 ·trivial
 ·exact⟨_,rfl,rfl⟩
theorem XRg.r1 {m1:RE Int} (ha:XE Γ a ρ m1 eI s1 t1):XRg Γ (.cons a .nil) ρ (m1.bind qbC):=by
 unfold XRg;rw[qsG,RE.bind_assoc]
 exact XR.bind ha fun x ex hx=>by
  simp only[RE.bind_ok,qeJ,qfX,hx.d];exact quE
theorem XRg.r2 {m1 m2:RE Int} (ha:XE Γ a ρ m1 eI s1 t1) (hb:XE Γ b ρ m2 eI s2 t2):XRg Γ (.cons a (.cons b .nil)) ρ (m1.bind fun x=>m2.bind fun y=>qkD x y):=by
 unfold XRg;rw[evs,qsG,RE.bind_assoc]
 exact XR.bind ha fun x ex hx=>by
  rw[RE.bind_assoc,RE.bind_assoc]
  exact XR.bind hb fun y ey hy=>by
   simp only[RE.bind_ok,qeJ,qfX,hx.d,hy.d];exact quE
theorem XRg.r3 {m1 m2 m3:RE Int} (ha:XE Γ a ρ m1 eI s1 t1) (hb:XE Γ b ρ m2 eI s2 t2) (hc:XE Γ c ρ m3 eI s3 t3):XRg Γ (.cons a (.cons b (.cons c .nil))) ρ (m1.bind fun x=>m2.bind fun y=>m3.bind fun z=>quK x y z):=by
 unfold XRg;rw[evs,evs,qsG,RE.bind_assoc]
 exact XR.bind ha fun x ex hx=>by
  simp only[RE.bind_assoc]
  exact XR.bind hb fun y ey hy=>XR.bind hc fun z ez hz=>by
   simp only[RE.bind_ok,qeJ,qfX,hx.d,hy.d,hz.d];exact quE
theorem XRg.r1P {x:Int} (ha:XE Γ a ρ (.ok x) eI s1 t1):XRg Γ (.cons a .nil) ρ (qbC x):=XRg.r1 ha
theorem XRg.r2P {x y:Int} (ha:XE Γ a ρ (.ok x) eI s1 t1) (hb:XE Γ b ρ (.ok y) eI s2 t2):XRg Γ (.cons a (.cons b .nil)) ρ (qkD x y):=XRg.r2 ha hb
theorem XE.lrng {es:Exs} {m1:RE (List Int)} (h:XRg Γ es ρ m1):XE Γ (.lrng es) ρ m1 (eL eI) .f true:=by
 unfold XE;rw[ev]
 have e:m1=m1.bind fun k=>.ok k:=by cases m1<;>rfl
 rw[e,←RE.bind_assoc]
 exact XR.bind h fun v x k=>by subst k;exact qoR rfl fun _=>rfl
theorem XI.list {m1:RE (List α)} (h:XE Γ a ρ m1 (eL en) s t) (hs:s.nb=true):XI Γ (.any a) ρ m1 en t false:=by
 unfold XI;rw[evI]
 have e:m1=m1.bind fun k=>.ok k:=by cases m1<;>rfl
 rw[e]
 exact XR.bind h fun v er k=>by
  simp only[qj1,k.d,eL]
  refine⟨_,rfl,rfl,k.t,fun _=>?_⟩
  have:=k.s
  cases s<;>cases er<;>simp_all[qig,ER.isF,Sh.nb]
theorem XI.str {m1:RE (List Nat)} (h:XE Γ a ρ m1 eS s t):XI Γ (.any a) ρ m1 eC true false:=by
 unfold XI;rw[evI]
 have e:m1=m1.bind fun k=>.ok k:=by cases m1<;>rfl
 rw[e]
 exact XR.bind h fun v er k=>by
  simp only[qj1,k.d]
  exact⟨_,rfl,rfl,fun _=>rfl,fun _=>rfl⟩
theorem XI.tup {m1:RE α} {f:α→List β} (h:XE Γ a ρ m1 en s t) (k:∀v,en v=.tup ((f v).map en2)):XI Γ (.any a) ρ (m1.bind fun x=>.ok (f x)) en2 t false:=by
 unfold XI;rw[evI]
 exact XR.bind h fun v er q=>by
  simp only[qj1,q.d,k]
  exact⟨_,rfl,rfl,q.t,fun _=>rfl⟩
theorem XI.rng {es:Exs} {m1:RE (List Int)} (h:XRg Γ es ρ m1):XI Γ (.rng es) ρ m1 eI true false:=by
 unfold XI;rw[evI]
 have e:m1=m1.bind fun k=>.ok k:=by cases m1<;>rfl
 rw[e,←RE.bind_assoc]
 exact XR.bind h fun v x k=>by subst k;exact⟨_,rfl,rfl,fun _=>rfl,fun _=>rfl⟩
theorem qmk (f:α→D) (g:β→D):∀(xs:List α) (ys:List β),List.zipWith (fun u v=>D.tup [u,v]) (xs.map f) (ys.map g)=(xs.zip ys).map (eT2 f g)
 |[],_=>rfl
 |_::_,[]=>rfl
 |x::xs,y::ys=>by simp[qmk f g xs ys,eT2]
theorem XI.zp {m1:RE (List α)} {m2:RE (List β)} (ha:XE Γ a ρ m1 (eL en) s1 t1) (hb:XE Γ b ρ m2 (eL en2) s2 t2):XI Γ (.zp a b) ρ (m1.bind fun xs=>m2.bind fun ys=>.ok (xs.zip ys)) (eT2 en en2) (t1&&t2) (!(s1.nb&&s2.nb)):=by
 unfold XI;rw[evI]
 exact XR.bind ha fun x ex hx=>XR.bind hb fun y ey hy=>by
  simp only[hx.d,hy.d,eL]
  refine⟨_,rfl,qmk _ _ _ _,fun z=>?_,fun z=>?_⟩
  ·rw[Bool.and_eq_true] at z
   show(_&&_)=true
   rw[hx.t z.1,hy.t z.2];rfl
  ·have h1:=hx.s
   have h2:=hy.s
   show(_||_)=false
   cases s1<;>cases s2<;>cases ex<;>cases ey<;>simp_all[qig,ER.isF,Sh.nb]
def qiV (xs:List α):List (Int × α):=xs.zipIdx.map fun p=>((p.2:Int),p.1)
theorem qgY (f:α→D):∀(xs:List α) (k:Nat),((xs.map f).zipIdx k).map (fun p=>D.tup [.int p.2,p.1])=((xs.zipIdx k).map fun p=>((p.2:Int),p.1)).map (eT2 eI f)
 |[],_=>rfl
 |x::xs,k=>by simp[qgY f xs (k+1),eT2]
theorem XI.enum {m1:RE (List α)} (ha:XE Γ a ρ m1 (eL en) s1 t1):XI Γ (.en a) ρ (m1.bind fun xs=>.ok (qiV xs)) (eT2 eI en) t1 (!s1.nb):=by
 unfold XI;rw[evI]
 exact XR.bind ha fun x ex hx=>by
  simp only[hx.d,eL]
  refine⟨_,rfl,qgY _ _ 0,hx.t,fun z=>?_⟩
  have h1:=hx.s
  show ex.isB=false
  cases s1<;>cases ex<;>simp_all[qig,ER.isF,Sh.nb]
theorem XI.enumP {x:List α} (ha:XE Γ a ρ (.ok x) (eL en) s1 t1):XI Γ (.en a) ρ (.ok (qiV x)) (eT2 eI en) t1 (!s1.nb):=XI.enum ha
theorem XI.rv {m1:RE (List α)} (ha:XE Γ a ρ m1 (eL en) s1 t1):XI Γ (.rv a) ρ (m1.bind fun xs=>.ok xs.reverse) en t1 (!s1.nb):=by
 unfold XI;rw[evI]
 exact XR.bind ha fun x ex hx=>by
  simp only[hx.d,eL]
  refine⟨_,rfl,by simp,hx.t,fun z=>?_⟩
  have h1:=hx.s
  show ex.isB=false
  cases s1<;>cases ex<;>simp_all[qig,ER.isF,Sh.nb]
def lcE (c:α→RE Bool) (f:α→RE β):List α→RE (List β)
 |[]=>.ok []
 |x::xs=>(noX (c x)).bind fun k=>if k=true then (noX (f x)).bind fun y=>(lcE c f xs).bind fun ys=>.ok (y::ys) else lcE c f xs
def qtZ (f:α→RE β):List α→RE (List β)
 |[]=>.ok []
 |x::xs=>(noX (f x)).bind fun y=>(qtZ f xs).bind fun ys=>.ok (y::ys)
theorem qnW (f:α→RE β):∀xs,lcE (fun _=>.ok true) f xs=qtZ f xs
 |[]=>rfl
 |x::xs=>by
  rw[lcE,qtZ,qnW f xs]
  rfl
theorem qnI (f:α→β):∀xs:List α,qtZ (fun x=>.ok (f x)) xs=.ok (xs.map f)
 |[]=>rfl
 |x::xs=>by rw[qtZ,qnI f xs];rfl
theorem qqy (c:α→Bool) (f:α→β):∀xs:List α,lcE (fun x=>.ok (c x)) (fun x=>.ok (f x)) xs=.ok ((xs.filter c).map f)
 |[]=>rfl
 |x::xs=>by
  rw[lcE,qqy c f xs]
  simp only[noX,RE.bind_ok]
  cases h:c x<;>simp[h]
theorem qn5 {cc:α→RE Bool} {ff:α→RE β} {F:D→RE (Option (D × Bool))} {t:Bool}:∀{xs:List α},(∀x∈xs,XR (F (en x)) ((noX (cc x)).bind fun k=>if k=true then (noX (ff x)).bind fun y=>.ok (some y) else .ok none) fun v r=>match v with
  |none=>r=none
  |some y=>∃f,r=some (en2 y,f)∧(t=true→f=true))→XR (lcl F (xs.map en)) (lcE cc ff xs) fun ys r=>r.1=ys.map en2∧(t=true→r.2=true)
 |[],_=>⟨_,rfl,rfl,fun _=>rfl⟩
 |x::xs,h=>by
  have ih:=qn5 (F:=F) (xs:=xs) fun y hy=>h y (List.mem_cons_of_mem _ hy)
  have h0:=h x (by simp)
  simp only[List.map_cons,lcl,lcE]
  cases hc:noX (cc x) with
  |bad=>trivial
  |exc c fs=>cases e:cc x<;>rw[e] at hc<;>cases hc
  |ok k =>
   rw[hc] at h0
   simp only[RE.bind_ok] at h0 ⊢
   cases k with
   |false =>
    simp only[Bool.false_eq_true,if_false] at h0 ⊢
    obtain⟨r,e1,e2⟩:=h0
    cases e2
    rw[e1]
    simp only[RE.bind_ok]
    cases hl:lcE cc ff xs with
    |bad=>trivial
    |ok ys=>rw[hl] at ih;obtain⟨q,e3,e4⟩:=ih;rw[e3];exact⟨_,rfl,e4⟩
    |exc c fs=>rw[hl] at ih;have ih:lcl F (xs.map en)=_:=ih;rw[ih];rfl
   |true =>
    simp only[if_true] at h0 ⊢
    cases hf:noX (ff x) with
    |bad=>trivial
    |exc c fs=>cases e:ff x<;>rw[e] at hf<;>cases hf
    |ok y =>
     rw[hf] at h0
     obtain⟨r,e1,f,e2,e2'⟩:=h0
     subst e2
     rw[e1]
     simp only[RE.bind_ok]
     cases hl:lcE cc ff xs with
     |bad=>trivial
     |ok ys =>
      rw[hl] at ih
      obtain⟨q,e3,e4,e5⟩:=ih
      rw[e3]
      refine⟨_,rfl,by simp[e4],fun z=>?_⟩
      show(f&&q.2)=true
      rw[e2' z,e5 z];rfl
     |exc c fs=>rw[hl] at ih;have ih:lcl F (xs.map en)=_:=ih;rw[ih];rfl
theorem qod {cnd:Tes} {e:Ex} {ρ':List Sl} {mc:RE Bool} {mf:RE β} (hc:XTs Γ true cnd ρ' mc) (hf:mc=.ok true→XE Γ e ρ' mf en2 s t) (hs:s.nb=true):XR (noX ((qg7 Γ true cnd ρ').bind fun k=>if k=true then (ev Γ e ρ').bind fun y=>match y with
    |.brw _ _=>.bad
    |y=>.ok (some (y.d,y.b)) else .ok none)) ((noX mc).bind fun k=>if k=true then (noX mf).bind fun y=>.ok (some y) else .ok none) fun v r=>match v with
  |none=>r=none
  |some y=>∃f,r=some (en2 y,f)∧(t=true→f=true):=by
 cases mc with
 |bad=>trivial
 |exc c fs=>trivial
 |ok k =>
  obtain⟨x,e1,e2⟩:=hc
  subst e2
  rw[e1]
  cases x with
  |false=>exact⟨_,rfl,rfl⟩
  |true =>
   have hf:=hf rfl
   simp only[RE.bind_ok,if_true,noX]
   cases mf with
   |bad=>trivial
   |exc c fs=>trivial
   |ok y =>
    obtain⟨er,e3,e4⟩:=hf
    rw[e3]
    simp only[RE.bind_ok,noX]
    have hsh:=e4.s
    cases er with
    |brw ds b=>cases s<;>simp_all[qig,ER.isF,Sh.nb]
    |val d b=>exact⟨_,rfl,_,by rw[←e4.d],e4.t⟩
    |fre d b=>exact⟨_,rfl,_,by rw[←e4.d],e4.t⟩
theorem XE.lc {own:List Nat} {it:Itx} {i:Nat} {cnd:Tes} {m1:RE (List α)} {o t0:Bool} {mc:α→RE Bool} {mf:α→RE β} (ρ₂:Sl→List Sl) (hi:XI Γ it ρ m1 en t1 o) (ht:t0=true→t1=true∨Flat en) (hset:∀q,(wipeS ρ own).set i q=ρ₂ q)
  (hc:∀x q,SlV t0 (en x) q→XTs Γ true cnd (ρ₂ q) (mc x)) (hf:∀x q,SlV t0 (en x) q→mc x=.ok true→XE Γ e (ρ₂ q) (mf x) en2 s t) (hs:s.nb=true) :
  XE Γ (.lc own it [i] cnd e) ρ (m1.bind fun xs=>gd (leB xs.length) (lcE mc mf xs)) (eL en2) .f t:=by
 unfold XE;rw[ev]
 refine XR.bind hi fun xs w hw=>?_
 obtain⟨w1,w2,_⟩:=hw
 rw[w1,List.length_map]
 cases hl:leB xs.length with
 |false=>trivial
 |true =>
  simp only[qiE]
  have e:lcE mc mf xs=(lcE mc mf xs).bind fun k=>.ok k:=by cases lcE mc mf xs<;>rfl
  rw[e]
  refine XR.bind (qn5 (t:=t) (en2:=en2) fun x _=>?_) fun ys r hr=>qoR (by rw[hr.1];rfl) hr.2
  simp only[qdq,hset]
  have hq:SlV t0 (en x) (.val (en x) (w.b||(en x).flat)):=⟨_,rfl,fun z=>by
   rcases ht z with q | q
   ·simp[w2 q]
   ·rw[q.flat];simp⟩
  exact qod (hc x _ hq) (hf x _ hq) hs
theorem XE.lc2 {own:List Nat} {it:Itx} {i j:Nat} {cnd:Tes} {m1:RE (List (α × β))} {o t0 t0':Bool} {mc:α × β→RE Bool} {mf:α × β→RE γ} (ρ₂:Sl→Sl→List Sl) (hi:XI Γ it ρ m1 (eT2 en en2) t1 o) (ht:t0=true→t1=true∨Flat en) (ht':t0'=true→t1=true∨Flat en2) (hset:∀q r,((wipeS ρ own).set i q).set j r=ρ₂ q r)
  (hc:∀x q r,SlV t0 (en x.1) q→SlV t0' (en2 x.2) r→XTs Γ true cnd (ρ₂ q r) (mc x)) (hf:∀x q r,SlV t0 (en x.1) q→SlV t0' (en2 x.2) r→mc x=.ok true→XE Γ e (ρ₂ q r) (mf x) en3 s t) (hs:s.nb=true) :
  XE Γ (.lc own it [i,j] cnd e) ρ (m1.bind fun xs=>gd (leB xs.length) (lcE mc mf xs)) (eL en3) .f t:=by
 unfold XE;rw[ev]
 refine XR.bind hi fun xs w hw=>?_
 obtain⟨w1,w2,_⟩:=hw
 rw[w1,List.length_map]
 cases hl:leB xs.length with
 |false=>trivial
 |true =>
  simp only[qiE]
  have e:lcE mc mf xs=(lcE mc mf xs).bind fun k=>.ok k:=by cases lcE mc mf xs<;>rfl
  rw[e]
  refine XR.bind (qn5 (t:=t) (en2:=en3) fun x _=>?_) fun ys r hr=>qoR (by rw[hr.1];rfl) hr.2
  simp only[qdq,qk3,eT2,hset]
  have hq:SlV t0 (en x.1) (.val (en x.1) (w.b||(en x.1).flat)):=⟨_,rfl,fun z=>by
   rcases ht z with q | q
   ·simp[w2 q]
   ·rw[q.flat];simp⟩
  have hr:SlV t0' (en2 x.2) (.val (en2 x.2) (w.b||(en2 x.2).flat)):=⟨_,rfl,fun z=>by
   rcases ht' z with q | q
   ·simp[w2 q]
   ·rw[q.flat];simp⟩
  exact qod (hc x _ _ hq hr) (hf x _ _ hq hr) hs
theorem XTs.nil {c:Bool}:XTs Γ c .nil ρ (.ok c):=by unfold XTs;rw[qg7];exact⟨_,rfl,rfl⟩
end
end Cm
namespace Cm
def Out.rt:Out→RE ER
 |.ret er=>.ok er
 |.exc c fs=>.exc c fs
 |_=>.bad
inductive Fl (β σ:Type) where
 |nx (s:σ) | rt (b:β) | bk (s:σ)
def XN {σ:Type} (o:Out) (m:RE σ) (S:σ→List Sl→Prop):Prop:=match m with
 |.bad=>True
 |.ok v=>∃ρ',o=.nx ρ'∧S v ρ'
 |.exc c fs=>o=.exc c fs
def XL {σ:Type} (o:Out) (m:RE σ) (S:σ→List Sl→Prop):Prop:=match m with
 |.bad=>True
 |.ok v=>∃ρ',(o=.nx ρ'∨o=.cnt ρ')∧S v ρ'
 |.exc c fs=>o=.exc c fs
def XF {β σ:Type} (o:Out) (m:RE (Fl β σ)) (R:β→ER→Prop) (S:σ→List Sl→Prop):Prop:=match m with
 |.bad=>True
 |.ok (.nx v)=>∃ρ',(o=.nx ρ'∨o=.cnt ρ')∧S v ρ'
 |.ok (.rt b)=>∃er,o=.ret er∧R b er
 |.ok (.bk v)=>∃ρ',o=.brk ρ'∧S v ρ'
 |.exc c fs=>o=.exc c fs
def XX {β σ:Type} (o:Out) (m:RE (Fl β σ)) (R:β→ER→Prop) (S:σ→List Sl→Prop):Prop:=match m with
 |.bad=>True
 |.ok (.nx v)=>∃ρ',o=.cnt ρ'∧S v ρ'
 |.ok (.rt b)=>∃er,o=.ret er∧R b er
 |.ok (.bk v)=>∃ρ',o=.brk ρ'∧S v ρ'
 |.exc c fs=>o=.exc c fs
abbrev BR {β:Type} (Γ:Env) (ss:Sms) (ρ:List Sl) (m:RE β) (en:β→D) (s:Sh) (t:Bool):Prop:=XR (qao Γ ss ρ).rt m fun v er=>Is s t (en v) er
abbrev BN {σ:Type} (Γ:Env) (ss:Sms) (ρ:List Sl) (m:RE σ) (S:σ→List Sl→Prop):Prop:=XN (qao Γ ss ρ) m S
abbrev BL {σ:Type} (Γ:Env) (ss:Sms) (ρ:List Sl) (m:RE σ) (S:σ→List Sl→Prop):Prop:=XL (qao Γ ss ρ) m S
abbrev BF {β σ:Type} (Γ:Env) (ss:Sms) (ρ:List Sl) (m:RE (Fl β σ)) (R:β→ER→Prop) (S:σ→List Sl→Prop):Prop:=XF (qao Γ ss ρ) m R S
abbrev BX {β σ:Type} (Γ:Env) (ss:Sms) (ρ:List Sl) (m:RE (Fl β σ)) (R:β→ER→Prop) (S:σ→List Sl→Prop):Prop:=XX (qao Γ ss ρ) m R S
def XG {β σ:Type} (o:Out) (m:RE (Fl β σ)) (R:β→ER→Prop) (S:σ→List Sl→Prop):Prop:=match m with
 |.bad=>True
 |.ok (.nx v)=>∃ρ',o=.nx ρ'∧S v ρ'
 |.ok (.rt b)=>∃er,o=.ret er∧R b er
 |.ok (.bk v)=>False
 |.exc c fs=>o=.exc c fs
abbrev BG {β σ:Type} (Γ:Env) (ss:Sms) (ρ:List Sl) (m:RE (Fl β σ)) (R:β→ER→Prop) (S:σ→List Sl→Prop):Prop:=XG (qao Γ ss ρ) m R S
def Fl.bR {β σ:Type} (m:RE (Fl β σ)) (k:σ→RE β):RE β:=m.bind fun f=>match f with
 |.nx v=>k v
 |.rt b=>.ok b
 |.bk _=>.bad
def Fl.bF {β σ τ:Type} (m:RE (Fl β σ)) (k:σ→RE (Fl β τ)):RE (Fl β τ):=m.bind fun f=>match f with
 |.nx v=>k v
 |.rt b=>.ok (.rt b)
 |.bk _=>.bad
abbrev SN {σ:Type} (Γ:Env) (s:Sm) (ρ:List Sl) (m:RE σ) (S:σ→List Sl→Prop):Prop:=XN (run Γ s ρ) m S
abbrev SF {β σ:Type} (Γ:Env) (s:Sm) (ρ:List Sl) (m:RE (Fl β σ)) (R:β→ER→Prop) (S:σ→List Sl→Prop):Prop:=XG (run Γ s ρ) m R S
section
variable {Γ:Env} {ρ:List Sl} {α β γ δ σ τ:Type} {en:α→D} {en2:β→D} {e a b:Ex} {s s1 s2:Sh} {t t1 t2:Bool} {ss sa sb:Sms} {q:Sm} {R:β→ER→Prop} {S:σ→List Sl→Prop} {S':τ→List Sl→Prop}
theorem BR.cons {m:RE σ} {k:σ→RE β} (h:SN Γ q ρ m S) (hk:∀v ρ',S v ρ'→BR Γ ss ρ' (k v) en2 s t):BR Γ (.cons q ss) ρ (m.bind k) en2 s t:=by
 unfold BR
 rw[qao]
 cases m with
 |bad=>trivial
 |ok v=>obtain⟨ρ',e,h⟩:=h;rw[e];exact hk v ρ' h
 |exc c fs=>have h:run Γ q ρ=_:=h;rw[h];rfl
theorem BN.cons {m:RE σ} {k:σ→RE τ} (h:SN Γ q ρ m S) (hk:∀v ρ',S v ρ'→BN Γ ss ρ' (k v) S'):BN Γ (.cons q ss) ρ (m.bind k) S':=by
 unfold BN
 rw[qao]
 cases m with
 |bad=>trivial
 |ok v=>obtain⟨ρ',e,h⟩:=h;rw[e];exact hk v ρ' h
 |exc c fs=>have h:run Γ q ρ=_:=h;rw[h];rfl
theorem BL.cons {m:RE σ} {k:σ→RE τ} (h:SN Γ q ρ m S) (hk:∀v ρ',S v ρ'→BL Γ ss ρ' (k v) S'):BL Γ (.cons q ss) ρ (m.bind k) S':=by
 unfold BL
 rw[qao]
 cases m with
 |bad=>trivial
 |ok v=>obtain⟨ρ',e,h⟩:=h;rw[e];exact hk v ρ' h
 |exc c fs=>have h:run Γ q ρ=_:=h;rw[h];rfl
theorem BF.cons {m:RE σ} {k:σ→RE (Fl β τ)} (h:SN Γ q ρ m S) (hk:∀v ρ',S v ρ'→BF Γ ss ρ' (k v) R S'):BF Γ (.cons q ss) ρ (m.bind k) R S':=by
 unfold BF
 rw[qao]
 cases m with
 |bad=>trivial
 |ok v=>obtain⟨ρ',e,h⟩:=h;rw[e];exact hk v ρ' h
 |exc c fs=>have h:run Γ q ρ=_:=h;rw[h];rfl
theorem BX.cons {m:RE σ} {k:σ→RE (Fl β τ)} (h:SN Γ q ρ m S) (hk:∀v ρ',S v ρ'→BX Γ ss ρ' (k v) R S'):BX Γ (.cons q ss) ρ (m.bind k) R S':=by
 unfold BX
 rw[qao]
 cases m with
 |bad=>trivial
 |ok v=>obtain⟨ρ',e,h⟩:=h;rw[e];exact hk v ρ' h
 |exc c fs=>have h:run Γ q ρ=_:=h;rw[h];rfl
theorem BG.cons {m:RE σ} {k:σ→RE (Fl β τ)} (h:SN Γ q ρ m S) (hk:∀v ρ',S v ρ'→BG Γ ss ρ' (k v) R S'):BG Γ (.cons q ss) ρ (m.bind k) R S':=by
 unfold BG
 rw[qao]
 cases m with
 |bad=>trivial
 |ok v=>obtain⟨ρ',e,h⟩:=h;rw[e];exact hk v ρ' h
 |exc c fs=>have h:run Γ q ρ=_:=h;rw[h];rfl
theorem BG.nil {v:σ} (h:S v ρ):BG Γ .nil ρ (.ok (.nx v)) R S:=by unfold BG;rw[qao];exact⟨_,rfl,h⟩
theorem BN.nil {v:σ} (h:S v ρ):BN Γ .nil ρ (.ok v) S:=by unfold BN;rw[qao];exact⟨_,rfl,h⟩
theorem BL.nil {v:σ} (h:S v ρ):BL Γ .nil ρ (.ok v) S:=by unfold BL;rw[qao];exact⟨_,.inl rfl,h⟩
theorem BF.nil {v:σ} (h:S v ρ):BF Γ .nil ρ (.ok (.nx v)) R S:=by unfold BF;rw[qao];exact⟨_,.inl rfl,h⟩
theorem BL.cnt {v:σ} (h:S v ρ):BL Γ (.cons .cnt ss) ρ (.ok v) S:=by unfold BL;rw[qao,Cm.run];exact⟨_,.inr rfl,h⟩
theorem BF.cnt {v:σ} (h:S v ρ):BF Γ (.cons .cnt ss) ρ (.ok (.nx v)) R S:=by unfold BF;rw[qao,Cm.run];exact⟨_,.inr rfl,h⟩
theorem BX.cnt {v:σ} (h:S v ρ):BX Γ (.cons .cnt ss) ρ (.ok (.nx v)) R S:=by unfold BX;rw[qao,Cm.run];exact⟨_,rfl,h⟩
theorem BF.brk {v:σ} (h:S v ρ):BF Γ (.cons .brk ss) ρ (.ok (.bk v)) R S:=by unfold BF;rw[qao,Cm.run];exact⟨_,rfl,h⟩
theorem BX.brk {v:σ} (h:S v ρ):BX Γ (.cons .brk ss) ρ (.ok (.bk v)) R S:=by unfold BX;rw[qao,Cm.run];exact⟨_,rfl,h⟩
theorem BX.F {m:RE (Fl β σ)} (h:BX Γ ss ρ m R S):BF Γ ss ρ m R S:=by
 unfold BF
 cases m with
 |bad=>trivial
 |ok v =>
  cases v with
  |nx v=>obtain⟨ρ',e,h⟩:=h;exact⟨ρ',.inr e,h⟩
  |rt b=>exact h
  |bk v=>exact h
 |exc c fs=>exact h
theorem BR.X {m:RE β} (h:BR Γ ss ρ m en2 s t):BX (σ:=σ) Γ ss ρ (m.bind fun b=>.ok (.rt b)) (fun v er=>Is s t (en2 v) er) S:=by
 unfold BX
 cases m with
 |bad=>trivial
 |ok v =>
  obtain⟨er,e,h⟩:=h
  cases hr:qao Γ ss ρ<;>rw[hr] at e<;>cases e
  exact⟨_,rfl,h⟩
 |exc c fs =>
  have h:(qao Γ ss ρ).rt=_:=h
  cases hr:qao Γ ss ρ<;>rw[hr] at h<;>cases h
  rfl
theorem Is.ret {d:D} {er:ER} (h:Is s t d er):Is s.ret t d (quT er):=by
 have:=h.s
 have:=h.d
 have:=h.t
 cases s<;>cases er<;>simp_all[qig,ER.isF,Sh.ret]<;>exact⟨by assumption,rfl,by simpa using h.t⟩
theorem BR.ret {m:RE α} (h:XE Γ e ρ m en s1 t) (hs:s1.ret=s):BR Γ (.cons (.ret e) ss) ρ m en s t:=by
 unfold BR
 rw[qao,Cm.run]
 subst hs
 cases m with
 |bad=>trivial
 |ok v=>obtain⟨er,e,h⟩:=h;rw[e];exact⟨_,rfl,h.ret⟩
 |exc c fs=>have h:ev Γ _ ρ=_:=h;rw[h];rfl
theorem BR.retN:BR Γ (.cons .retN ss) ρ (.ok ()) eU .v true:=by unfold BR;rw[qao,Cm.run];exact⟨_,rfl,rfl,rfl,fun _=>rfl⟩
theorem BR.rse {k c:Nat} (h:Γ.xk[k]? = some c):BR Γ (.cons (.rse k) ss) ρ (.exc c []) en s t:=by unfold BR;rw[qao,Cm.run,h];rfl
theorem BR.weak {m:RE α} (h:BR Γ ss ρ m en s t) (hs:s.nb=true):BR Γ ss ρ m en .n t:=XR.mono h fun _ _ k=>k.weak hs
theorem BR.low {m:RE α} (h:BR Γ ss ρ m en s t):BR Γ ss ρ m en s false:=XR.mono h fun _ _ k=>k.low
theorem BR.coe {m:RE α} {f:α→β} (h:BR Γ ss ρ m en s t) (k:∀v,en v=en2 (f v)):BR Γ ss ρ (m.bind fun x=>.ok (f x)) en2 s t:=by
 cases m with
 |bad=>trivial
 |ok v=>obtain⟨er,e,h⟩:=h;exact⟨_,e,by rw[←k];exact h.d,h.s,h.t⟩
 |exc c fs=>exact h
theorem BR.iff {c:Te} {mt:RE Bool} {m1 m2:RE β} (h:XT Γ c ρ mt) (ha:BR Γ sa ρ m1 en2 s t) (hb:BR Γ sb ρ m2 en2 s t):BR Γ (.cons (.iff c sa sb) ss) ρ (mt.bind fun k=>if k=true then m1 else m2) en2 s t:=by
 unfold BR
 rw[qao,Cm.run]
 cases mt with
 |bad=>trivial
 |exc c fs=>have h:evT Γ _ ρ=_:=h;rw[h];rfl
 |ok v =>
  obtain⟨x,e,rfl⟩:=h
  rw[e]
  simp only[RE.out_ok,RE.bind_ok]
  have key:∀{sx:Sms} {m:RE β},BR Γ sx ρ m en2 s t→XR (((qao Γ sx ρ).seq fun ρ'=>qao Γ ss ρ').rt) m fun v er=>Is s t (en2 v) er:=fun {sx m} hx=>by
   cases m with
   |bad=>trivial
   |ok v =>
    obtain⟨er,e,h⟩:=hx
    cases hr:qao Γ sx ρ<;>rw[hr] at e<;>cases e
    exact⟨_,rfl,h⟩
   |exc c fs =>
    have h:(qao Γ sx ρ).rt=_:=hx
    cases hr:qao Γ sx ρ<;>rw[hr] at h<;>cases h
    rfl
  cases x
  ·exact key hb
  ·exact key ha
theorem BR.ifR {c:Te} {mt:RE Bool} {m1 m2:RE β} (h:XT Γ c ρ mt) (ha:BR Γ sa ρ m1 en2 s t) (hb:BR Γ ss ρ m2 en2 s t):BR Γ (.cons (.iff c sa .nil) ss) ρ (mt.bind fun k=>if k=true then m1 else m2) en2 s t:=by
 unfold BR
 rw[qao,Cm.run]
 cases mt with
 |bad=>trivial
 |exc c fs=>have h:evT Γ _ ρ=_:=h;rw[h];rfl
 |ok v =>
  obtain⟨x,e,rfl⟩:=h
  rw[e]
  simp only[RE.out_ok,RE.bind_ok]
  cases x with
  |false=>simp only[Bool.false_eq_true,if_false,qao];exact hb
  |true =>
   simp only[if_true]
   cases m1 with
   |bad=>trivial
   |ok v =>
    obtain⟨er,e,h⟩:=ha
    cases hr:qao Γ sa ρ<;>rw[hr] at e<;>cases e
    exact⟨_,rfl,h⟩
   |exc c fs =>
    have h:(qao Γ sa ρ).rt=_:=ha
    cases hr:qao Γ sa ρ<;>rw[hr] at h<;>cases h
    rfl
theorem BF.iff {c:Te} {mt:RE Bool} {m1 m2:RE (Fl β σ)} (h:XT Γ c ρ mt) (ha:BF Γ sa ρ m1 R S) (hb:BF Γ sb ρ m2 R S):BF Γ (.cons (.iff c sa sb) .nil) ρ (mt.bind fun k=>if k=true then m1 else m2) R S:=by
 unfold BF
 rw[qao,Cm.run]
 cases mt with
 |bad=>trivial
 |exc c fs=>have h:evT Γ _ ρ=_:=h;rw[h];rfl
 |ok v =>
  obtain⟨x,e,rfl⟩:=h
  rw[e]
  simp only[RE.out_ok,RE.bind_ok]
  have key:∀{sx:Sms} {m:RE (Fl β σ)},BF Γ sx ρ m R S→XF ((qao Γ sx ρ).seq fun ρ'=>qao Γ .nil ρ') m R S:=fun {sx m} hx=>by
   have:((qao Γ sx ρ).seq fun ρ'=>qao Γ .nil ρ')=qao Γ sx ρ:=by
    cases qao Γ sx ρ<;>simp only[Out.seq,qao]
   rw[this];exact hx
  cases x
  ·exact key hb
  ·exact key ha
theorem BX.iff {c:Te} {mt:RE Bool} {m1 m2:RE (Fl β σ)} (h:XT Γ c ρ mt) (ha:BX Γ sa ρ m1 R S) (hb:BX Γ sb ρ m2 R S):BX Γ (.cons (.iff c sa sb) .nil) ρ (mt.bind fun k=>if k=true then m1 else m2) R S:=by
 unfold BX
 rw[qao,Cm.run]
 cases mt with
 |bad=>trivial
 |exc c fs=>have h:evT Γ _ ρ=_:=h;rw[h];rfl
 |ok v =>
  obtain⟨x,e,rfl⟩:=h
  rw[e]
  simp only[RE.out_ok,RE.bind_ok]
  have key:∀{sx:Sms} {m:RE (Fl β σ)},BX Γ sx ρ m R S→XX ((qao Γ sx ρ).seq fun ρ'=>qao Γ .nil ρ') m R S:=fun {sx m} hx=>by
   have:((qao Γ sx ρ).seq fun ρ'=>qao Γ .nil ρ')=qao Γ sx ρ:=by
    cases qao Γ sx ρ<;>simp only[Out.seq,qao]
   rw[this];exact hx
  cases x
  ·exact key hb
  ·exact key ha
theorem SN.iff {c:Te} {mt:RE Bool} {m1 m2:RE σ} (h:XT Γ c ρ mt) (ha:BN Γ sa ρ m1 S) (hb:BN Γ sb ρ m2 S):SN Γ (.iff c sa sb) ρ (mt.bind fun k=>if k=true then m1 else m2) S:=by
 unfold SN
 rw[Cm.run]
 cases mt with
 |bad=>trivial
 |exc c fs=>have h:evT Γ _ ρ=_:=h;rw[h];rfl
 |ok v =>
  obtain⟨x,e,rfl⟩:=h
  rw[e]
  cases x
  ·exact hb
  ·exact ha
theorem SF.iff {c:Te} {mt:RE Bool} {m1 m2:RE (Fl β σ)} (h:XT Γ c ρ mt) (ha:BG Γ sa ρ m1 R S) (hb:BG Γ sb ρ m2 R S):SF Γ (.iff c sa sb) ρ (mt.bind fun k=>if k=true then m1 else m2) R S:=by
 unfold SF
 rw[Cm.run]
 cases mt with
 |bad=>trivial
 |exc c fs=>have h:evT Γ _ ρ=_:=h;rw[h];rfl
 |ok v =>
  obtain⟨x,e,rfl⟩:=h
  rw[e]
  cases x
  ·exact hb
  ·exact ha
theorem BX.G {m:RE β} {en2:β→D} (h:BR Γ ss ρ m en2 s t):BG (σ:=σ) Γ ss ρ (m.bind fun b=>.ok (.rt b)) (fun v er=>Is s t (en2 v) er) S:=by
 unfold BG
 cases m with
 |bad=>trivial
 |ok v =>
  obtain⟨er,e,h⟩:=h
  cases hr:qao Γ ss ρ<;>rw[hr] at e<;>cases e
  exact⟨_,rfl,h⟩
 |exc c fs =>
  have h:(qao Γ ss ρ).rt=_:=h
  cases hr:qao Γ ss ρ<;>rw[hr] at h<;>cases h
  rfl
theorem BG.ifR {c:Te} {mt:RE Bool} {m1:RE β} {m2:RE (Fl β σ)} {en2:β→D} (h:XT Γ c ρ mt) (ha:BR Γ sa ρ m1 en2 s t) (hb:BG Γ ss ρ m2 (fun v er=>Is s t (en2 v) er) S):BG Γ (.cons (.iff c sa .nil) ss) ρ (mt.bind fun k=>if k=true then m1.bind fun b=>.ok (.rt b) else m2) (fun v er=>Is s t (en2 v) er) S:=by
 unfold BG
 rw[qao,Cm.run]
 cases mt with
 |bad=>trivial
 |exc c fs=>have h:evT Γ _ ρ=_:=h;rw[h];rfl
 |ok v =>
  obtain⟨x,e,rfl⟩:=h
  rw[e]
  simp only[RE.out_ok,RE.bind_ok]
  cases x with
  |false=>simp only[Bool.false_eq_true,if_false,qao];exact hb
  |true =>
   simp only[if_true]
   cases m1 with
   |bad=>trivial
   |ok v =>
    obtain⟨er,e,h⟩:=ha
    cases hr:qao Γ sa ρ<;>rw[hr] at e<;>cases e
    exact⟨_,rfl,h⟩
   |exc c fs =>
    have h:(qao Γ sa ρ).rt=_:=ha
    cases hr:qao Γ sa ρ<;>rw[hr] at h<;>cases h
    rfl
theorem qfc {k c:Nat} (h:Γ.xk[k]? = some c):qao Γ (.cons (.rse k) ss) ρ=.exc c []:=by rw[qao,Cm.run,h];rfl
theorem BN.rse {k c:Nat} (h:Γ.xk[k]? = some c):BN Γ (.cons (.rse k) ss) ρ (.exc c []) S:=by unfold BN;rw[qfc h];rfl
theorem BL.rse {k c:Nat} (h:Γ.xk[k]? = some c):BL Γ (.cons (.rse k) ss) ρ (.exc c []) S:=by unfold BL;rw[qfc h];rfl
theorem BF.rse {k c:Nat} (h:Γ.xk[k]? = some c):BF Γ (.cons (.rse k) ss) ρ (.exc c []) R S:=by unfold BF;rw[qfc h];rfl
theorem BX.rse {k c:Nat} (h:Γ.xk[k]? = some c):BX Γ (.cons (.rse k) ss) ρ (.exc c []) R S:=by unfold BX;rw[qfc h];rfl
theorem BG.rse {k c:Nat} (h:Γ.xk[k]? = some c):BG Γ (.cons (.rse k) ss) ρ (.exc c []) R S:=by unfold BG;rw[qfc h];rfl
theorem qqF {c:Te} {v:Bool} (h:evT Γ c ρ=.ok v):qao Γ (.cons (.iff c sa .nil) ss) ρ=(if v=true then qao Γ sa ρ else .nx ρ).seq fun ρ'=>qao Γ ss ρ':=by
 rw[qao,Cm.run,h]
 cases v<;>simp only[RE.out_ok,qao,if_true,if_false,Bool.false_eq_true]
theorem BN.ifE {c:Te} {k n:Nat} {mt:RE Bool} {m2:RE σ} (ha:sa=.cons (.rse k) .nil) (h:XT Γ c ρ mt) (hk:Γ.xk[k]? = some n) (hb:BN Γ ss ρ m2 S):BN Γ (.cons (.iff c sa .nil) ss) ρ (mt.bind fun k=>if k=true then .exc n [] else m2) S:=by
 subst ha
 unfold BN
 cases mt with
 |bad=>trivial
 |exc c fs=>have h:evT Γ _ ρ=_:=h;rw[qao,Cm.run,h];rfl
 |ok v =>
  obtain⟨x,e,rfl⟩:=h
  rw[qqF e]
  cases x with
  |false=>exact hb
  |true=>simp only[if_true,qfc hk];rfl
theorem BL.ifE {c:Te} {k n:Nat} {mt:RE Bool} {m2:RE σ} (ha:sa=.cons (.rse k) .nil) (h:XT Γ c ρ mt) (hk:Γ.xk[k]? = some n) (hb:BL Γ ss ρ m2 S):BL Γ (.cons (.iff c sa .nil) ss) ρ (mt.bind fun k=>if k=true then .exc n [] else m2) S:=by
 subst ha
 unfold BL
 cases mt with
 |bad=>trivial
 |exc c fs=>have h:evT Γ _ ρ=_:=h;rw[qao,Cm.run,h];rfl
 |ok v =>
  obtain⟨x,e,rfl⟩:=h
  rw[qqF e]
  cases x with
  |false=>exact hb
  |true=>simp only[if_true,qfc hk];rfl
theorem SN.asg {i:Nat} {m:RE α} (ρ₂:Sl→List Sl) (h:XE Γ e ρ m en s t) (hs:s.nb=true) (hset:∀q,ρ.set i q=ρ₂ q):SN Γ (.asg i e) ρ m fun v ρ'=>∃q,ρ'=ρ₂ q∧SlV t (en v) q:=by
 unfold SN
 rw[Cm.run]
 cases m with
 |bad=>trivial
 |ok v =>
  obtain⟨er,e,h⟩:=h
  rw[e]
  have h1:=h.s
  have h2:=h.d
  have h3:=h.t
  cases er with
  |val d b=>simp only[RE.out_ok,held];exact⟨_,rfl,_,hset _,b,by rw[←h2];rfl,h3⟩
  |fre d b=>simp only[RE.out_ok,held];exact⟨_,rfl,_,hset _,b,by rw[←h2];rfl,h3⟩
  |brw d b=>cases s<;>simp_all[qig,ER.isF,Sh.nb]
 |exc c fs=>have h:ev Γ _ ρ=_:=h;rw[h];rfl
theorem SN.own {i:Nat} {m:RE (List α)} (ρ₂:Sl→List Sl) (h:XE Γ e ρ m (eL en) .f t) (hset:∀q,ρ.set i q=ρ₂ q):SN Γ (.own i e) ρ m fun v ρ'=>∃q,ρ'=ρ₂ q∧SlO t (v.map en) q:=by
 unfold SN
 rw[Cm.run]
 cases m with
 |bad=>trivial
 |ok v =>
  obtain⟨er,e,h⟩:=h
  rw[e]
  have h1:=h.s
  have h2:=h.d
  have h3:=h.t
  cases er with
  |val d b=>cases h1
  |fre d b =>
   simp only[RE.out_ok]
   refine⟨_,rfl,_,hset _,b,?_,h3⟩
   cases h2
   rfl
  |brw d b=>cases h1
 |exc c fs=>have h:ev Γ _ ρ=_:=h;rw[h];rfl
theorem SN.expr {m:RE α} (h:XE Γ e ρ m en s t):SN Γ (.expr e) ρ m fun _ ρ'=>ρ'=ρ:=by
 unfold SN
 rw[Cm.run]
 cases m with
 |bad=>trivial
 |ok v=>obtain⟨er,e,h⟩:=h;rw[e];exact⟨_,rfl,rfl⟩
 |exc c fs=>have h:ev Γ _ ρ=_:=h;rw[h];rfl
theorem SN.pas:SN Γ .pas ρ (.ok ()) fun _ ρ'=>ρ'=ρ:=by unfold SN;rw[Cm.run];exact⟨_,rfl,rfl⟩
def quP (ds es:List D):Bool:=D.flats ds&&(clD ds != clD es)&&qrU (clD es) es
def qmH {γ:Type} (e1:α→D) (e2:γ→D) (p:List α × List γ):RE (List α × List γ):=gd (quP (p.1.map e1) (p.2.map e2)) (.ok p)
theorem qoz {d:D} {er:ER} (h:Is s t d er) (hs:s.nb=true):∃b,(∀f:D→Bool→Out,held er f=f d b)∧(t=true→b=true):=by
 have h1:=h.s
 have h2:=h.d
 have h3:=h.t
 cases er with
 |val d' b=>cases h2;exact⟨b,fun _=>rfl,h3⟩
 |fre d' b=>cases h2;exact⟨b,fun _=>rfl,h3⟩
 |brw d' b=>cases s<;>simp_all[qig,ER.isF,Sh.nb]
theorem Is.frz {d:D} {er:ER} (h:Is s t d er) (hs:s.nb=true):Is .v t d er.frz:=by
 have h1:=h.s
 have h2:=h.d
 have h3:=h.t
 cases er with
 |val d' b=>exact⟨h2,rfl,h3⟩
 |fre d' b=>exact⟨h2,rfl,h3⟩
 |brw d' b=>cases s<;>simp_all[qig,ER.isF,Sh.nb]
theorem SN.put {i:Nat} {ix:Ex} {m1:RE α} {m2:RE Int} {xs:List α} {q0:Sl} (ρ₂:Sl→List Sl) (h:XE Γ e ρ m1 en s t1) (hs:s.nb=true) (h0:ρ[i]? = some q0) (hq:SlO t2 (xs.map en) q0) (hi:XE Γ ix ρ m2 eI s2 t) (hset:∀q,ρ.set i q=ρ₂ q) :
  SN Γ (.put i ix e) ρ (m1.bind fun x=>m2.bind fun k=>(match L2.ixN xs.length k with
   |some j=>.ok (xs.set j x)
   |none=>.bad)) fun v ρ'=>∃q,ρ'=ρ₂ q∧SlO (t1&&t2) (v.map en) q:=by
 unfold SN
 rw[Cm.run]
 obtain⟨f,rfl,hf⟩:=hq
 cases m1 with
 |bad=>trivial
 |exc c fs=>have h:ev Γ _ ρ=_:=h;rw[h];rfl
 |ok x =>
  obtain⟨er,e1,h1⟩:=h
  rw[e1]
  simp only[RE.out_ok,RE.bind_ok]
  obtain⟨b1,q1,r1⟩:=qoz h1 hs
  rw[q1,qdh,h0]
  simp only
  cases m2 with
  |bad=>trivial
  |exc c fs=>have h:ev Γ _ ρ=_:=hi;rw[h];rfl
  |ok k =>
   obtain⟨er2,e2,h2⟩:=hi
   rw[e2]
   simp only[RE.out_ok,RE.bind_ok,h2.d,List.length_map]
   cases L2.ixN xs.length k with
   |none=>trivial
   |some j =>
    refine⟨_,rfl,_,hset _,_,by rw[List.map_set],fun z=>?_⟩
    rw[Bool.and_eq_true] at z
    rw[r1 z.1,hf z.2];rfl
def qqC (xs:List α) (k:Int) (x:α):RE (List α):=match L2.ixN xs.length k with
 |some j=>.ok (xs.set j x)
 |none=>.bad
def qfA (xs:List α) (x:α):RE (List α):=gd (leB (xs.length+1)) (.ok (xs++[x]))
theorem SN.app {i:Nat} {m1:RE α} {xs:List α} {q0:Sl} (ρ₂:Sl→List Sl) (h:XE Γ e ρ m1 en s t1) (hs:s.nb=true) (h0:ρ[i]? = some q0) (hq:SlO t2 (xs.map en) q0) (hset:∀q,ρ.set i q=ρ₂ q) :
  SN Γ (.app i e) ρ (m1.bind fun x=>qfA xs x) fun v ρ'=>∃q,ρ'=ρ₂ q∧SlO (t1&&t2) (v.map en) q:=by
 unfold SN
 rw[Cm.run]
 obtain⟨f,rfl,hf⟩:=hq
 rw[qdh,h0]
 simp only
 cases m1 with
 |bad=>trivial
 |exc c fs=>have h:ev Γ _ ρ=_:=h;rw[h];rfl
 |ok x =>
  obtain⟨er,e1,h1⟩:=h
  rw[e1]
  simp only[RE.out_ok,RE.bind_ok]
  obtain⟨b1,q1,r1⟩:=qoz h1 hs
  rw[q1,List.length_map,qfA]
  cases leB (xs.length+1) with
  |false=>trivial
  |true =>
   refine⟨_,rfl,_,hset _,(b1&&f),by simp,fun z=>?_⟩
   rw[Bool.and_eq_true] at z
   rw[r1 z.1,hf z.2];rfl
theorem SN.appP {i:Nat} {x:α} {xs:List α} {q0:Sl} (ρ₂:Sl→List Sl) (h:XE Γ e ρ (.ok x) en s t1) (hs:s.nb=true) (h0:ρ[i]? = some q0) (hq:SlO t2 (xs.map en) q0) (hset:∀q,ρ.set i q=ρ₂ q) :
  SN Γ (.app i e) ρ (qfA xs x) fun v ρ'=>∃q,ρ'=ρ₂ q∧SlO (t1&&t2) (v.map en) q:=SN.app ρ₂ h hs h0 hq hset
def qw8 (xs ys:List α):RE (List α):=gd (leB (xs.length+ys.length)) (.ok (xs++ys))
def qw7 (xs:List α):RE (α × List α):=match xs.getLast? with
 |some x=>.ok (x,xs.dropLast)
 |none=>.bad
theorem SN.clr {i:Nat} {xs:List α} {q0:Sl} (ρ₂:Sl→List Sl) (h0:ρ[i]? = some q0) (hq:SlO t (xs.map en) q0) (hset:∀q,ρ.set i q=ρ₂ q) :
  SN Γ (.clr i) ρ (.ok ([]:List α)) fun v ρ'=>∃q,ρ'=ρ₂ q∧SlO true (v.map en) q:=by
 unfold SN
 rw[Cm.run]
 obtain⟨f,rfl,hf⟩:=hq
 rw[qdh,h0]
 exact⟨_,rfl,_,hset _,_,rfl,fun _=>rfl⟩
def qmy (xs ys:List α) (k:Int):RE (List α × List α):=match L2.ixN ys.length k with
 |some m=>match ys[m]? with
  |some d=>gd (leB ys.length) (gd (leB (xs.length+1)) (.ok (xs++[d],ys.eraseIdx m)))
  |none=>.bad
 |none=>.bad
theorem SN.apop {i j:Nat} {ix:Ex} {m1:RE Int} {xs ys:List α} {q0 r0:Sl} (ρ₂:Sl→Sl→List Sl) (hij:(if i=j then false else true)=true) (h0:ρ[i]? = some q0) (hq:SlO t1 (xs.map en) q0) (h1:ρ[j]? = some r0) (hr:SlO t2 (ys.map en) r0) (hi:XE Γ ix ρ m1 eI s t) (hset:∀q r,(ρ.set j r).set i q=ρ₂ q r) :
  SN Γ (.apop i j ix) ρ (m1.bind fun k=>qmy xs ys k) fun v ρ'=>∃q r,ρ'=ρ₂ q r∧SlO (t2&&t1) (v.1.map en) q∧SlO t2 (v.2.map en) r:=by
 have hij:i≠j:=fun e=>by rw[if_pos e] at hij;cases hij
 unfold SN
 rw[Cm.run]
 obtain⟨f,rfl,hf⟩:=hq
 obtain⟨g,rfl,hg⟩:=hr
 rw[if_neg hij,qdh,h0]
 simp only[qdh,h1]
 cases m1 with
 |bad=>trivial
 |exc c fs=>have h:ev Γ _ ρ=_:=hi;rw[h];rfl
 |ok k =>
  obtain⟨er,e1,h1⟩:=hi
  rw[e1]
  simp only[RE.out_ok,RE.bind_ok,h1.d,List.length_map,qmy]
  cases L2.ixN ys.length k with
  |none=>trivial
  |some m =>
   simp only[List.getElem?_map]
   cases ys[m]? with
   |none=>trivial
   |some d =>
    simp only[Option.map_some]
    cases leB ys.length with
    |false=>trivial
    |true =>
     cases leB (xs.length+1) with
     |false=>trivial
     |true =>
      refine⟨_,rfl,_,_,hset _ _,⟨(g&&f),by simp,fun z=>?_⟩,⟨g,by rw[qjk],hg⟩⟩
      rw[Bool.and_eq_true] at z
      rw[hg z.1,hf z.2];rfl
def qwK (xs:List α) (k:Int):RE (List α):=match L2.ixN xs.length k with
 |some m=>match xs[m]? with
  |some _=>gd (leB xs.length) (.ok (xs.eraseIdx m))
  |none=>.bad
 |none=>.bad
def qw9 (xs:List Int) (k:Int):RE (List Int):=match qvL k xs with
 |some m=>.ok (xs.eraseIdx m)
 |none=>.bad
theorem qjL {i:Nat} {ds:List D} {q0:Sl} (ρ₂:Sl→List Sl) (h0:ρ[i]? = some q0) (hq:SlO t ds q0) (hset:∀q,ρ.set i q=ρ₂ q):∃q,qao Γ (.frz i ss) ρ=qao Γ ss (ρ₂ q)∧SlV t (.lst ds) q:=by
 obtain⟨f,rfl,hf⟩:=hq
 refine⟨.val (.lst ds) f,?_,_,rfl,hf⟩
 rw[qao,qdh,h0,←hset]
theorem BR.frz {i:Nat} {xs:List α} {q0:Sl} {m:RE β} {k1:Sh} {k2:Bool} (ρ₂:Sl→List Sl) (h0:ρ[i]? = some q0) (hq:SlO t (xs.map en) q0) (hset:∀q,ρ.set i q=ρ₂ q) (h:∀q,SlV t (eL en xs) q→BR Γ ss (ρ₂ q) m en2 k1 k2):BR Γ (.frz i ss) ρ m en2 k1 k2:=by
 obtain⟨q,e,r⟩:=qjL (Γ:=Γ) (ss:=ss) ρ₂ h0 hq hset
 unfold BR
 rw[e];exact h q r
theorem BN.frz {i:Nat} {xs:List α} {q0:Sl} {m:RE σ} (ρ₂:Sl→List Sl) (h0:ρ[i]? = some q0) (hq:SlO t (xs.map en) q0) (hset:∀q,ρ.set i q=ρ₂ q) (h:∀q,SlV t (eL en xs) q→BN Γ ss (ρ₂ q) m S):BN Γ (.frz i ss) ρ m S:=by
 obtain⟨q,e,r⟩:=qjL (Γ:=Γ) (ss:=ss) ρ₂ h0 hq hset
 unfold BN
 rw[e];exact h q r
theorem BL.frz {i:Nat} {xs:List α} {q0:Sl} {m:RE σ} (ρ₂:Sl→List Sl) (h0:ρ[i]? = some q0) (hq:SlO t (xs.map en) q0) (hset:∀q,ρ.set i q=ρ₂ q) (h:∀q,SlV t (eL en xs) q→BL Γ ss (ρ₂ q) m S):BL Γ (.frz i ss) ρ m S:=by
 obtain⟨q,e,r⟩:=qjL (Γ:=Γ) (ss:=ss) ρ₂ h0 hq hset
 unfold BL
 rw[e];exact h q r
theorem BF.frz {i:Nat} {xs:List α} {q0:Sl} {m:RE (Fl β σ)} (ρ₂:Sl→List Sl) (h0:ρ[i]? = some q0) (hq:SlO t (xs.map en) q0) (hset:∀q,ρ.set i q=ρ₂ q) (h:∀q,SlV t (eL en xs) q→BF Γ ss (ρ₂ q) m R S):BF Γ (.frz i ss) ρ m R S:=by
 obtain⟨q,e,r⟩:=qjL (Γ:=Γ) (ss:=ss) ρ₂ h0 hq hset
 unfold BF
 rw[e];exact h q r
theorem BX.frz {i:Nat} {xs:List α} {q0:Sl} {m:RE (Fl β σ)} (ρ₂:Sl→List Sl) (h0:ρ[i]? = some q0) (hq:SlO t (xs.map en) q0) (hset:∀q,ρ.set i q=ρ₂ q) (h:∀q,SlV t (eL en xs) q→BX Γ ss (ρ₂ q) m R S):BX Γ (.frz i ss) ρ m R S:=by
 obtain⟨q,e,r⟩:=qjL (Γ:=Γ) (ss:=ss) ρ₂ h0 hq hset
 unfold BX
 rw[e];exact h q r
theorem SlV.ent {d:D} {k:Nat} {q:Sl} (h:SlV t d q):SlV t d (Cm.ent k q):=by
 obtain⟨f,e,ht⟩:=h
 rcases qqv e with rfl | ⟨rfl,j,rfl⟩
 ·by_cases hb:(f||d.flat)=true
  ·rw[show Cm.ent k (.val d f)=.val d f from if_pos hb]
   exact⟨f,rfl,ht⟩
  ·rw[show Cm.ent k (.val d f)=.fxd d k from if_neg hb]
   exact⟨false,rfl,fun z=>by rw[ht z] at hb;exact absurd rfl hb⟩
 ·exact⟨false,rfl,ht⟩
theorem SlO.ent {ds:List D} {k:Nat} {q:Sl} (h:SlO t ds q):SlO t ds (Cm.ent k q):=by
 obtain⟨f,rfl,ht⟩:=h
 exact⟨f,rfl,ht⟩
def qxe (_:Nat):Sl:=.non
def qul (cs:Ch) (i:Nat) (d:D):RE Unit:=match chg cs [(i,d)] ([],0) with
 |some _=>.ok ()
 |none=>.bad
theorem qoL {er er':ER} {k:Bool} {d:D} (h:qdZ k er=.ok er') (hd:er'.d=d) (hb:er'.b=true):qmA er=some d:=by
 subst hd
 cases k with
 |false =>
  cases er with
  |brw _ _=>cases h
  |val d b=>cases h;exact if_pos hb
  |fre ds b=>cases h;exact if_pos (by rw[show b=true from hb];rfl)
 |true =>
  cases er with
  |brw _ _=>cases h
  |val d b =>
   simp only[qdZ] at h
   split at h
   ·rename_i z;cases h;exact if_pos z
   ·cases h
  |fre ds b =>
   simp only[qdZ] at h
   split at h
   ·rename_i z;cases h;exact if_pos z
   ·cases h
theorem BR.hav {i f:Nat} {es:Exs} {rd:Sms} {cs:Ch} {m:RE α} {k1:α→RE (Fl β σ)} {k2:α→σ→RE β} {s1:Sh} (S:α→σ→List Sl→Prop) (h:XE Γ (.call f es) ρ m en s1 true) (hsf:qoN s t en2) (hsv:s=.v) (hi:Nat.blt i ρ.length=true)
  (h1:∀x,BG Γ rd ((qlv 0 ρ).set i (.fxd (en x) i)) (k1 x) (fun v er=>Is s t (en2 v) er) (S x))
  (h2:∀x st ρ',S x st ρ'→(∃d,ρ'[i]? = some (.fxd d i))∧(cs.tgs.all fun l=>Nat.blt l ρ'.length)=true∧BR Γ ss (wipeS (qkv (ρ.set i .non) 0 ρ') cs.tgs) (k2 x st) en2 s t) :
  BR Γ (.hav i f es rd cs ss) ρ (m.bind fun x=>Fl.bR (k1 x) fun st=>(qul cs i (en x)).bind fun _=>k2 x st) en2 s t:=by
 unfold BR
 rw[qao]
 unfold XE at h
 rw[ev] at h
 cases eg:Γ.fn[f]? with
 |none =>
  rw[eg] at h
  cases m with
  |bad=>trivial
  |ok v=>obtain⟨er,e,_⟩:=h;cases e
  |exc c fs=>have h:RE.bad=_:=h;cases h
 |some g =>
  rw[eg] at h
  simp only at h ⊢
  cases m with
  |bad=>trivial
  |exc c fs =>
   have h:_=RE.exc c fs:=h
   cases e1:evs Γ es ρ with
   |bad=>rw[e1] at h;cases h
   |exc c' fs'=>rw[e1] at h;cases h;rfl
   |ok r =>
    rw[e1] at h
    simp only[RE.bind_ok,RE.out_ok] at h ⊢
    cases e2:g.2 (r.map ER.d) with
    |bad=>rw[e2] at h;cases h
    |exc c' fs'=>rw[e2] at h;cases h;rfl
    |ok er =>
     rw[e2] at h
     simp only[RE.bind_ok] at h
     exfalso
     revert h
     cases (!r.all ER.isV)<;>cases er<;>simp only[qdZ]<;>first | (intro z;cases z) | (split<;>intro z<;>cases z)
  |ok v =>
   obtain⟨er',e,his⟩:=h
   cases e1:evs Γ es ρ with
   |bad=>rw[e1] at e;cases e
   |exc c' fs'=>rw[e1] at e;cases e
   |ok r =>
    rw[e1] at e
    simp only[RE.bind_ok,RE.out_ok] at e ⊢
    cases e2:g.2 (r.map ER.d) with
    |bad=>rw[e2] at e;cases e
    |exc c' fs'=>rw[e2] at e;cases e
    |ok er =>
     rw[e2] at e
     simp only[RE.bind_ok] at e
     simp only[RE.out_ok,qoL e his.d (his.t rfl),hi,qdw,RE.bind_ok]
     have h1:=h1 v
     cases ek:k1 v with
     |bad=>trivial
     |exc c fs =>
      rw[ek] at h1
      have h1:qao Γ rd _=_:=h1
      rw[h1];rfl
     |ok fl =>
      rw[ek] at h1
      cases fl with
      |bk _=>exact h1.elim
      |rt b =>
       obtain⟨er3,e3,h3⟩:=h1
       rw[e3]
       simp only[Out.hv]
       have hn:∃d,qmA er3=some d:=by
        subst hsv
        cases er3 with
        |fre _ _=>cases h3.s
        |brw _ _=>cases h3.s
        |val d b3 =>
         refine⟨d,if_pos ?_⟩
         have hd:d=en2 b:=h3.d
         rcases hsf with z | ⟨_,z⟩ | ⟨z,_⟩
         ·have:b3=true:=h3.t z
          rw[this];rfl
         ·rw[hd,z b];simp
         ·cases z
       obtain⟨d,hn⟩:=hn
       rw[hn]
       exact⟨er3,rfl,h3⟩
      |nx st =>
       obtain⟨ρ',e3,h3⟩:=h1
       obtain⟨⟨d2,q1⟩,q2,q3⟩:=h2 v st ρ' h3
       rw[e3]
       simp only[Out.hv,q1,q2,beq_self_eq_true,Bool.true_and,qdw,Fl.bR,RE.bind_ok,qul]
       cases ec:chg cs [(i,en v)] ([],0) with
       |none=>trivial
       |some _=>exact q3
theorem BF.hav {i f:Nat} {es:Exs} {rd:Sms} {cs:Ch} {m:RE α} {k1:α→RE (Fl β σ)} {k2:α→σ→RE (Fl β τ)} {s1:Sh} (S:α→σ→List Sl→Prop) (h:XE Γ (.call f es) ρ m en s1 true) (hsf:qoN s t en2) (hsv:s=.v) (hi:Nat.blt i ρ.length=true)
  (h1:∀x,BG Γ rd ((qlv 0 ρ).set i (.fxd (en x) i)) (k1 x) (fun v er=>Is s t (en2 v) er) (S x))
  (h2:∀x st ρ',S x st ρ'→(∃d,ρ'[i]? = some (.fxd d i))∧(cs.tgs.all fun l=>Nat.blt l ρ'.length)=true∧BF Γ ss (wipeS (qkv (ρ.set i .non) 0 ρ') cs.tgs) (k2 x st) (fun v er=>Is s t (en2 v) er) S') :
  BF Γ (.hav i f es rd cs ss) ρ (m.bind fun x=>Fl.bF (k1 x) fun st=>(qul cs i (en x)).bind fun _=>k2 x st) (fun v er=>Is s t (en2 v) er) S':=by
 unfold BF
 rw[qao]
 unfold XE at h
 rw[ev] at h
 cases eg:Γ.fn[f]? with
 |none =>
  rw[eg] at h
  cases m with
  |bad=>trivial
  |ok v=>obtain⟨er,e,_⟩:=h;cases e
  |exc c fs=>have h:RE.bad=_:=h;cases h
 |some g =>
  rw[eg] at h
  simp only at h ⊢
  cases m with
  |bad=>trivial
  |exc c fs =>
   have h:_=RE.exc c fs:=h
   cases e1:evs Γ es ρ with
   |bad=>rw[e1] at h;cases h
   |exc c' fs'=>rw[e1] at h;cases h;rfl
   |ok r =>
    rw[e1] at h
    simp only[RE.bind_ok,RE.out_ok] at h ⊢
    cases e2:g.2 (r.map ER.d) with
    |bad=>rw[e2] at h;cases h
    |exc c' fs'=>rw[e2] at h;cases h;rfl
    |ok er =>
     rw[e2] at h
     simp only[RE.bind_ok] at h
     exfalso
     revert h
     cases (!r.all ER.isV)<;>cases er<;>simp only[qdZ]<;>first | (intro z;cases z) | (split<;>intro z<;>cases z)
  |ok v =>
   obtain⟨er',e,his⟩:=h
   cases e1:evs Γ es ρ with
   |bad=>rw[e1] at e;cases e
   |exc c' fs'=>rw[e1] at e;cases e
   |ok r =>
    rw[e1] at e
    simp only[RE.bind_ok,RE.out_ok] at e ⊢
    cases e2:g.2 (r.map ER.d) with
    |bad=>rw[e2] at e;cases e
    |exc c' fs'=>rw[e2] at e;cases e
    |ok er =>
     rw[e2] at e
     simp only[RE.bind_ok] at e
     simp only[RE.out_ok,qoL e his.d (his.t rfl),hi,qdw,RE.bind_ok]
     have h1:=h1 v
     cases ek:k1 v with
     |bad=>trivial
     |exc c fs =>
      rw[ek] at h1
      have h1:qao Γ rd _=_:=h1
      rw[h1];rfl
     |ok fl =>
      rw[ek] at h1
      cases fl with
      |bk _=>exact h1.elim
      |rt b =>
       obtain⟨er3,e3,h3⟩:=h1
       rw[e3]
       simp only[Out.hv]
       have hn:∃d,qmA er3=some d:=by
        subst hsv
        cases er3 with
        |fre _ _=>cases h3.s
        |brw _ _=>cases h3.s
        |val d b3 =>
         refine⟨d,if_pos ?_⟩
         have hd:d=en2 b:=h3.d
         rcases hsf with z | ⟨_,z⟩ | ⟨z,_⟩
         ·have:b3=true:=h3.t z
          rw[this];rfl
         ·rw[hd,z b];simp
         ·cases z
       obtain⟨d,hn⟩:=hn
       rw[hn]
       exact⟨er3,rfl,h3⟩
      |nx st =>
       obtain⟨ρ',e3,h3⟩:=h1
       obtain⟨⟨d2,q1⟩,q2,q3⟩:=h2 v st ρ' h3
       rw[e3]
       simp only[Out.hv,q1,q2,beq_self_eq_true,Bool.true_and,qdw,Fl.bF,RE.bind_ok,qul]
       cases ec:chg cs [(i,en v)] ([],0) with
       |none=>trivial
       |some _=>exact q3
end
end Cm
namespace Cm
def qaC {α σ:Type} (f:α→σ→RE σ):List α→σ→RE σ
 |[],s=>.ok s
 |x::xs,s=>(f x s).bind (qaC f xs)
def qcm {α β σ:Type} (f:α→σ→RE (Fl β σ)):List α→σ→RE (Fl β σ)
 |[],s=>.ok (.nx s)
 |x::xs,s=>(f x s).bind fun r=>match r with
  |.nx s'=>qcm f xs s'
  |.rt b=>.ok (.rt b)
  |.bk s'=>.ok (.nx s')
def qtU {σ:Type} (c:σ→RE Bool) (f:σ→RE σ):Nat→σ→RE σ
 |0,_=>.bad
 |n+1,s=>(c s).bind fun k=>if k=true then (f s).bind (qtU c f n) else .ok s
section
variable {Γ:Env} {ρ:List Sl} {α β γ σ:Type} {en:α→D} {en2:β→D} {en3:γ→D} {it:Itx} {i j:Nat} {b:Sms} {m:RE (List α)} {t t0 t0' t1:Bool} {s:Sh} {R:γ→ER→Prop} {S:σ→List Sl→Prop}
theorem qnU {F:D→List Sl→Out} {f:α→σ→RE σ} (h:∀x st ρ',S st ρ'→XL (F (en x) ρ') (f x st) S):∀{xs:List α} {st:σ} {ρ':List Sl},S st ρ'→XN (qfS F (xs.map en) ρ') (qaC f xs st) S
 |[],st,ρ',hs=>⟨ρ',rfl,hs⟩
 |x::xs,st,ρ',hs=>by
  have h0:=h x st ρ' hs
  simp only[List.map_cons,qaC]
  unfold qfS
  cases e:f x st with
  |bad=>trivial
  |exc c fs=>rw[e] at h0;have h0:F (en x) ρ'=_:=h0;rw[h0];rfl
  |ok st' =>
   rw[e] at h0
   obtain⟨ρ2,e2,h2⟩:=h0
   rcases e2 with e2 | e2<;>rw[e2]<;>exact qnU h h2
theorem ql0 {F:D→List Sl→Out} {f:α→σ→RE (Fl γ σ)} (h:∀x st ρ',S st ρ'→XF (F (en x) ρ') (f x st) R S):∀{xs:List α} {st:σ} {ρ':List Sl},S st ρ'→(match qcm f xs st with
  |.bad=>True
  |.ok (.nx v)=>∃ρ2,qfS F (xs.map en) ρ'=.nx ρ2∧S v ρ2
  |.ok (.rt b)=>∃er,qfS F (xs.map en) ρ'=.ret er∧R b er
  |.ok (.bk v)=>False
  |.exc c fs=>qfS F (xs.map en) ρ'=.exc c fs)
 |[],st,ρ',hs=>⟨ρ',rfl,hs⟩
 |x::xs,st,ρ',hs=>by
  have h0:=h x st ρ' hs
  simp only[List.map_cons,qcm]
  unfold qfS
  cases e:f x st with
  |bad=>trivial
  |exc c fs=>rw[e] at h0;have h0:F (en x) ρ'=_:=h0;rw[h0];rfl
  |ok r =>
   rw[e] at h0
   simp only[RE.bind_ok]
   cases r with
   |nx st' =>
    obtain⟨ρ2,e2,h2⟩:=h0
    rcases e2 with e2 | e2<;>rw[e2]<;>exact ql0 h h2
   |rt b=>obtain⟨er,e2,h2⟩:=h0;rw[e2];exact⟨_,rfl,h2⟩
   |bk st'=>obtain⟨ρ2,e2,h2⟩:=h0;rw[e2];exact⟨_,rfl,h2⟩
theorem SN.forG {tg:List Nat} {f:α→σ→RE σ} {s0:σ} (hi:XI Γ it ρ m en t1 false) (h0:S s0 ρ) (hb:∀x st ρ' b',(t1=true→b'=true)→S st ρ'→XL (onB (qdq tg (en x) b' ρ') fun ρ'=>qao Γ b ρ') (f x st) S) :
  SN Γ (.for it tg b) ρ (m.bind fun xs=>qaC f xs s0) S:=by
 unfold SN
 rw[Cm.run]
 cases m with
 |bad=>trivial
 |exc c fs=>have h:evI Γ it ρ=_:=hi;rw[h];rfl
 |ok xs =>
  obtain⟨w,e,w1,w2,w3⟩:=hi
  rw[e]
  simp only[RE.out_ok,w3 rfl,Bool.false_eq_true,if_false,RE.bind_ok,w1]
  exact qnU (fun x st ρ' hs=>hb x st ρ' w.b w2 hs) h0
theorem SF.forG {tg:List Nat} {f:α→σ→RE (Fl γ σ)} {s0:σ} (hi:XI Γ it ρ m en t1 false) (h0:S s0 ρ) (hb:∀x st ρ' b',(t1=true→b'=true)→S st ρ'→XF (onB (qdq tg (en x) b' ρ') fun ρ'=>qao Γ b ρ') (f x st) R S) :
  SF Γ (.for it tg b) ρ (m.bind fun xs=>qcm f xs s0) R S:=by
 unfold SF
 rw[Cm.run]
 cases m with
 |bad=>trivial
 |exc c fs=>have h:evI Γ it ρ=_:=hi;rw[h];rfl
 |ok xs =>
  obtain⟨w,e,w1,w2,w3⟩:=hi
  rw[e]
  simp only[RE.out_ok,w3 rfl,Bool.false_eq_true,if_false,RE.bind_ok,w1]
  exact ql0 (fun x st ρ' hs=>hb x st ρ' w.b w2 hs) h0
theorem qqJ {b':Bool} (ht:t0=true→t1=true∨Flat en) (h:t1=true→b'=true) (x:α):SlV t0 (en x) (.val (en x) (b'||(en x).flat)):=⟨_,rfl,fun z=>by
 rcases ht z with q | q
 ·simp[h q]
 ·rw[q.flat];simp⟩
theorem SN.for1 {f:α→σ→RE σ} {s0:σ} (S:σ→List Sl→Prop) (hi:XI Γ it ρ m en t1 false) (ht:t0=true→t1=true∨Flat en) (h0:S s0 ρ) (hb:∀x st ρ' q,S st ρ'→SlV t0 (en x) q→BL Γ b (ρ'.set i q) (f x st) S) :
  SN Γ (.for it [i] b) ρ (m.bind fun xs=>qaC f xs s0) S:=
 SN.forG hi h0 fun x st ρ' b' h1 hs=>hb x st ρ' _ hs (qqJ ht h1 x)
theorem SF.for1 {f:α→σ→RE (Fl γ σ)} {s0:σ} (S:σ→List Sl→Prop) (hi:XI Γ it ρ m en t1 false) (ht:t0=true→t1=true∨Flat en) (h0:S s0 ρ) (hb:∀x st ρ' q,S st ρ'→SlV t0 (en x) q→BF Γ b (ρ'.set i q) (f x st) R S) :
  SF Γ (.for it [i] b) ρ (m.bind fun xs=>qcm f xs s0) R S:=
 SF.forG hi h0 fun x st ρ' b' h1 hs=>hb x st ρ' _ hs (qqJ ht h1 x)
theorem qqe {c:Te} {cc:σ→RE Bool} {f:σ→RE σ} (hc:∀st ρ',S st ρ'→XT Γ c ρ' (cc st)) (hb:∀st ρ',S st ρ'→BL Γ b ρ' (f st) S):∀{n:Nat} {st:σ} {ρ':List Sl},S st ρ'→XN (qgo (fun ρ=>evT Γ c ρ) (fun ρ=>qao Γ b ρ) n ρ') (qtU cc f n st) S
 |0,st,ρ',hs=>trivial
 |n+1,st,ρ',hs=>by
  have h0:=hc st ρ' hs
  have h1:=hb st ρ' hs
  unfold qtU qgo
  cases e:cc st with
  |bad=>trivial
  |exc c fs=>rw[e] at h0;have h0:evT Γ _ ρ'=_:=h0;simp only[h0];rfl
  |ok k =>
   rw[e] at h0
   obtain⟨k',e0,rfl⟩:=h0
   simp only[e0,RE.bind_ok,RE.out_ok]
   cases k' with
   |false=>exact⟨ρ',rfl,hs⟩
   |true =>
    simp only[if_true]
    cases e1:f st with
    |bad=>trivial
    |exc c fs=>rw[e1] at h1;have h1:qao Γ b ρ'=_:=h1;simp only[h1];rfl
    |ok st' =>
     rw[e1] at h1
     obtain⟨ρ2,e2,h2⟩:=h1
     rcases e2 with e2 | e2<;>simp only[e2]<;>exact qqe hc hb h2
theorem SN.whl {c:Te} {cc:σ→RE Bool} {f:σ→RE σ} {s0:σ} (S:σ→List Sl→Prop) (h0:S s0 ρ) (hc:∀st ρ',S st ρ'→XT Γ c ρ' (cc st)) (hb:∀st ρ',S st ρ'→BL Γ b ρ' (f st) S):SN Γ (.whl c b) ρ (qtU cc f qtH s0) S:=by
 unfold SN
 rw[Cm.run]
 exact qqe hc hb h0
def qtn {σ γ:Type} (c:σ→RE Bool) (f:σ→RE (Fl γ σ)):Nat→σ→RE (Fl γ σ)
 |0,_=>.bad
 |n+1,s=>(c s).bind fun k=>if k=true then (f s).bind (fun r=>match r with
  |.nx s'=>qtn c f n s'
  |.rt b=>.ok (.rt b)
  |.bk s'=>.ok (.nx s')) else .ok (.nx s)
theorem qm2 {c:Te} {cc:σ→RE Bool} {f:σ→RE (Fl γ σ)} (hc:∀st ρ',S st ρ'→XT Γ c ρ' (cc st)) (hb:∀st ρ',S st ρ'→BF Γ b ρ' (f st) R S):∀{n:Nat} {st:σ} {ρ':List Sl},S st ρ'→XG (qgo (fun ρ=>evT Γ c ρ) (fun ρ=>qao Γ b ρ) n ρ') (qtn cc f n st) R S
 |0,st,ρ',hs=>trivial
 |n+1,st,ρ',hs=>by
  have h0:=hc st ρ' hs
  have h1:=hb st ρ' hs
  unfold qtn qgo
  cases e:cc st with
  |bad=>trivial
  |exc c fs=>rw[e] at h0;have h0:evT Γ _ ρ'=_:=h0;simp only[h0];rfl
  |ok k =>
   rw[e] at h0
   obtain⟨k',e0,rfl⟩:=h0
   simp only[e0,RE.bind_ok,RE.out_ok]
   cases k' with
   |false=>exact⟨ρ',rfl,hs⟩
   |true =>
    simp only[if_true]
    cases e1:f st with
    |bad=>trivial
    |exc c fs=>rw[e1] at h1;have h1:qao Γ b ρ'=_:=h1;simp only[h1];rfl
    |ok r =>
     rw[e1] at h1
     simp only[RE.bind_ok]
     cases r with
     |nx st' =>
      obtain⟨ρ2,e2,h2⟩:=h1
      rcases e2 with e2 | e2<;>simp only[e2]<;>exact qm2 hc hb h2
     |rt z=>obtain⟨er,e2,h2⟩:=h1;simp only[e2];exact⟨_,rfl,h2⟩
     |bk st'=>obtain⟨ρ2,e2,h2⟩:=h1;simp only[e2];exact⟨_,rfl,h2⟩
theorem SF.whl {c:Te} {cc:σ→RE Bool} {f:σ→RE (Fl γ σ)} {s0:σ} (S:σ→List Sl→Prop) (h0:S s0 ρ) (hc:∀st ρ',S st ρ'→XT Γ c ρ' (cc st)) (hb:∀st ρ',S st ρ'→BF Γ b ρ' (f st) R S):SF Γ (.whl c b) ρ (qtn cc f qtH s0) R S:=by
 unfold SF
 rw[Cm.run]
 exact qm2 hc hb h0
end
abbrev XS {α:Type} (Γ:Env) (es:Exs) (ρ:List Sl) (m:RE α) (enl:α→List D) (nb t:Bool):Prop:=XR (evs Γ es ρ) m fun v ers=>ers.map ER.d=enl v∧ers.all ER.isV=nb∧(t=true→ers.all ER.b=true)
section
variable {Γ:Env} {ρ:List Sl} {α β γ σ:Type} {en:α→D} {en2:β→D} {a b:Ex} {es:Exs} {s s1:Sh} {t t1 t2 nb:Bool} {m1:RE α} {m2:RE β} {enl:β→List D} {x:α} {y:β} {k:Nat} {nm:PySem.Str} {g:List D→RE ER}
theorem XS.nil:XS Γ .nil ρ (.ok ()) (fun _=>[]) true true:=by unfold XS;rw[evs];exact⟨_,rfl,rfl,rfl,fun _=>rfl⟩
theorem XS.cons (h:XE Γ a ρ m1 en s t1) (hs:XS Γ es ρ m2 enl nb t2):XS Γ (.cons a es) ρ (m1.bind fun v=>m2.bind fun w=>.ok (v,w)) (fun p=>en p.1::enl p.2) (s.nb&&nb) (t1&&t2):=by
 unfold XS
 rw[evs]
 exact XR.bind h fun v er h1=>XR.bind hs fun w ers h2=>by
  refine⟨_,rfl,?_,?_,fun z=>?_⟩
  ·simp only[List.map_cons,qfX,h1.d,h2.1]
  ·simp only[List.all_cons,h2.2.1]
   have:=h1.s
   cases s<;>cases er<;>simp_all[qig,ER.isF,Sh.nb]
  ·rw[Bool.and_eq_true] at z
   simp only[List.all_cons,Bool.and_eq_true,qoE]
   exact⟨h1.t z.1,h2.2.2 z.2⟩
theorem XS.consP (h:XE Γ a ρ (.ok x) en s t1) (hs:XS Γ es ρ (.ok y) enl nb t2):XS Γ (.cons a es) ρ (.ok (x,y)) (fun p=>en p.1::enl p.2) (s.nb&&nb) (t1&&t2):=XS.cons h hs
theorem qp0 {d:D} {er:ER} (h:Is s t d er) (hs:s.nb=true):∃er',qdZ false er=.ok er'∧Is s t d er':=by
 have h1:=h.s
 have h2:=h.d
 have h3:=h.t
 cases er with
 |val d' b=>exact⟨_,rfl,h2,by cases s<;>simp_all[qig,ER.isF,Sh.nb],fun z=>by have:=h3 z;show(_||_)=true;simp only[ER.b_val] at this;rw[this];rfl⟩
 |fre d' b=>exact⟨_,rfl,h⟩
 |brw d' b=>cases s<;>simp_all[qig,ER.isF,Sh.nb]
theorem qoc {v:α} {er:ER} (h:Is s t (en v) er) (hs:qoN s t en) (hn:s.nb=true):∃er',qdZ true er=.ok er'∧Is s true (en v) er':=by
 have h1:=h.s
 have h2:=h.d
 have h3:=h.t
 cases er with
 |val d' b =>
  have h2:d'=en v:=h2
  subst h2
  have:(b||(en v).flat)=true:=by
   rcases hs with q | q | q
   ·have:b=true:=h3 q
    rw[this];rfl
   ·rw[q.2];simp
   ·rw[q.1] at h1;cases h1
  simp only[qdZ,this,if_true]
  exact⟨_,rfl,rfl,by cases s<;>simp_all[qig,ER.isF,Sh.nb],fun z=>rfl⟩
 |fre d' b =>
  have h2:D.lst d'=en v:=h2
  have:(b||D.flats d')=true:=by
   rcases hs with q | q | q
   ·have:b=true:=h3 q
    rw[this];rfl
   ·rw[q.1] at h1;cases h1
   ·rw[q.2 v d' h2.symm];simp
  simp only[qdZ,this,if_true]
  exact⟨_,rfl,h2,by cases s<;>simp_all[qig,ER.isF,Sh.nb],fun z=>rfl⟩
 |brw d' b=>cases s<;>simp_all[qig,ER.isF,Sh.nb]
theorem qiK {r:List ER} {e:RE ER} {m:RE α} (h:XR e m fun v er=>Is s t (en v) er) (hr:r.all ER.isV=true) (hn:s.nb=true):XR (e.bind (qdZ (!r.all ER.isV))) m fun v er=>Is s t (en v) er:=by
 rw[hr]
 cases m with
 |bad=>trivial
 |exc c fs=>have h:e=_:=h;rw[h];rfl
 |ok v=>obtain⟨er,e1,h1⟩:=h;rw[e1];exact qp0 h1 hn
theorem qgx {r:List ER} {e:RE ER} {m:RE α} (h:XR e m fun v er=>Is s t (en v) er) (hs:qoN s t en) (hr:r.all ER.isV=false) (hn:s.nb=true):XR (e.bind (qdZ (!r.all ER.isV))) m fun v er=>Is s true (en v) er:=by
 rw[hr]
 cases m with
 |bad=>trivial
 |exc c fs=>have h:e=_:=h;rw[h];rfl
 |ok v=>obtain⟨er,e1,h1⟩:=h;rw[e1];exact qoc h1 hs hn
theorem XE.callS {F:β→RE α} (hg:Γ.fn[k]? = some (nm,g)) (ha:XS Γ es ρ m2 enl nb t2) (hr:∀w,XR (g (enl w)) (F w) fun v er=>Is s t (en v) er) (hs:nb=true) (hn:s.nb=true):XE Γ (.call k es) ρ (m2.bind F) en s t:=by
 unfold XE;rw[ev,hg]
 exact XR.bind ha fun w ers h=>by
  show XR ((g (ers.map ER.d)).bind _) _ _
  rw[h.1];exact qiK (hr w) (h.2.1.trans hs) hn
theorem XE.callSb {F:β→RE α} (hg:Γ.fn[k]? = some (nm,g)) (ha:XS Γ es ρ m2 enl nb t2) (hr:∀w,XR (g (enl w)) (F w) fun v er=>Is s t (en v) er) (hs:nb=false) (hn:s.nb=true) (hf:qoN s t en):XE Γ (.call k es) ρ (m2.bind F) en s true:=by
 unfold XE;rw[ev,hg]
 exact XR.bind ha fun w ers h=>by
  show XR ((g (ers.map ER.d)).bind _) _ _
  rw[h.1];exact qgx (hr w) hf (h.2.1.trans hs) hn
theorem XE.callSP {m:RE α} (hg:Γ.fn[k]? = some (nm,g)) (ha:XS Γ es ρ (.ok y) enl nb t2) (hr:XR (g (enl y)) m fun v er=>Is s t (en v) er) (hs:nb=true) (hn:s.nb=true):XE Γ (.call k es) ρ m en s t:=by
 obtain⟨ers,e,h⟩:=ha
 unfold XE;rw[ev,hg,e]
 show XR ((g (ers.map ER.d)).bind _) _ _
 rw[h.1];exact qiK hr (h.2.1.trans hs) hn
theorem XE.callSPb {m:RE α} (hg:Γ.fn[k]? = some (nm,g)) (ha:XS Γ es ρ (.ok y) enl nb t2) (hr:XR (g (enl y)) m fun v er=>Is s t (en v) er) (hs:nb=false) (hn:s.nb=true) (hf:qoN s t en):XE Γ (.call k es) ρ m en s true:=by
 obtain⟨ers,e,h⟩:=ha
 unfold XE;rw[ev,hg,e]
 show XR ((g (ers.map ER.d)).bind _) _ _
 rw[h.1];exact qgx hr hf (h.2.1.trans hs) hn
end
section
variable {Γ:Env} {ρ:List Sl} {α β γ σ τ:Type} {en:α→D} {en2:β→D} {e:τ→D} {a b:Ex} {es:Exs} {s s1 s0:Sh} {t t1 t2 t0 nb:Bool} {m0:RE τ} {m1:RE α} {m2:RE β} {enl:β→List D} {x:τ} {y:β} {k:Nat} {cl:τ→Nat} {fs:τ→List D}
theorem XE.mthS {F:τ→β→RE α} (h:XE Γ a ρ m0 e s0 t0) (hI:∀v,e v=.ins (cl v) (fs v)) (ha:XS Γ es ρ m2 enl nb t2) (hr:∀x,∃g,Γ.mt (cl x) k=some g∧∀w,XR (g (e x::enl w)) (F x w) fun v er=>Is s t (en v) er) (hs:nb=true) (hn:s.nb=true):XE Γ (.mth k a es) ρ (m0.bind fun x=>m2.bind fun w=>F x w) en s t:=by
 unfold XE;rw[ev]
 exact XR.bind h fun v er h1=>by
  obtain⟨g,hg,hr⟩:=hr v
  rw[h1.d,hI]
  simp only[hg]
  exact XR.bind ha fun w ers h=>by rw[h.1,←hI];exact qiK (hr w) (h.2.1.trans hs) hn
theorem XE.mthSb {F:τ→β→RE α} (h:XE Γ a ρ m0 e s0 t0) (hI:∀v,e v=.ins (cl v) (fs v)) (ha:XS Γ es ρ m2 enl nb t2) (hr:∀x,∃g,Γ.mt (cl x) k=some g∧∀w,XR (g (e x::enl w)) (F x w) fun v er=>Is s t (en v) er) (hs:nb=false) (hn:s.nb=true) (hf:qoN s t en):XE Γ (.mth k a es) ρ (m0.bind fun x=>m2.bind fun w=>F x w) en s true:=by
 unfold XE;rw[ev]
 exact XR.bind h fun v er h1=>by
  obtain⟨g,hg,hr⟩:=hr v
  rw[h1.d,hI]
  simp only[hg]
  exact XR.bind ha fun w ers h=>by rw[h.1,←hI];exact qgx (hr w) hf (h.2.1.trans hs) hn
theorem XE.mthSP {m:RE α} (h:XE Γ a ρ (.ok x) e s0 t0) (hI:∀v,e v=.ins (cl v) (fs v)) (ha:XS Γ es ρ (.ok y) enl nb t2) (hr:∃g,Γ.mt (cl x) k=some g∧XR (g (e x::enl y)) m fun v er=>Is s t (en v) er) (hs:nb=true) (hn:s.nb=true):XE Γ (.mth k a es) ρ m en s t:=by
 obtain⟨er,e1,h1⟩:=h
 obtain⟨ers,e2,h2⟩:=ha
 obtain⟨g,hg,hr⟩:=hr
 unfold XE;rw[ev,e1]
 simp only[RE.bind_ok]
 rw[h1.d,hI]
 simp only[hg,e2,RE.bind_ok]
 rw[h2.1,←hI];exact qiK hr (h2.2.1.trans hs) hn
theorem XE.mthSPb {m:RE α} (h:XE Γ a ρ (.ok x) e s0 t0) (hI:∀v,e v=.ins (cl v) (fs v)) (ha:XS Γ es ρ (.ok y) enl nb t2) (hr:∃g,Γ.mt (cl x) k=some g∧XR (g (e x::enl y)) m fun v er=>Is s t (en v) er) (hs:nb=false) (hn:s.nb=true) (hf:qoN s t en):XE Γ (.mth k a es) ρ m en s true:=by
 obtain⟨er,e1,h1⟩:=h
 obtain⟨ers,e2,h2⟩:=ha
 obtain⟨g,hg,hr⟩:=hr
 unfold XE;rw[ev,e1]
 simp only[RE.bind_ok]
 rw[h1.d,hI]
 simp only[hg,e2,RE.bind_ok]
 rw[h2.1,←hI];exact qgx hr hf (h2.2.1.trans hs) hn
theorem XE.newS {c:Nat} {g:List D→RE (List D)} {F:β→RE α} (hg:Γ.nw[k]? = some (c,g)) (ha:XS Γ es ρ m2 enl nb t2) (hr:∀w,XR (g (enl w)) (F w) fun v fs=>en v=.ins c fs):XE Γ (.new k es) ρ (m2.bind F) en .v true:=by
 unfold XE;rw[ev,hg]
 exact XR.bind ha fun w ers h=>by
  show XR ((g (ers.map ER.d)).bind _) _ _
  rw[h.1]
  have e:F w=(F w).bind RE.ok:=by simp
  rw[e]
  exact XR.bind (hr w) fun v fs q=>⟨_,rfl,q.symm,rfl,fun _=>rfl⟩
theorem XE.newSP {c:Nat} {g:List D→RE (List D)} {m:RE α} (hg:Γ.nw[k]? = some (c,g)) (ha:XS Γ es ρ (.ok y) enl nb t2) (hr:XR (g (enl y)) m fun v fs=>en v=.ins c fs):XE Γ (.new k es) ρ m en .v true:=by
 obtain⟨ers,e,h⟩:=ha
 unfold XE;rw[ev,hg,e]
 show XR ((g (ers.map ER.d)).bind _) _ _
 rw[h.1]
 have e:m=m.bind RE.ok:=by simp
 rw[e]
 exact XR.bind hr fun v fs q=>⟨_,rfl,q.symm,rfl,fun _=>rfl⟩
theorem XE.fldG {f:Nat} {p:τ→α} {t:Bool} (ht:t=true→∀v,(en v).flat=true) (h:XE Γ a ρ m0 e s0 t0) (hI:∀v,e v=.ins (cl v) (fs v)) (hk:∀v,∃i,Γ.fi (cl v) f=some i∧(fs v)[i]? = some (en (p v))):XE Γ (.fld a f) ρ (m0.bind fun x=>.ok (p x)) en .v t:=by
 unfold XE;rw[ev]
 exact XR.bind h fun v er h1=>by
  obtain⟨i,e1,e2⟩:=hk v
  rw[h1.d,hI]
  simp only[e1,e2]
  exact qt4 rfl fun q=>ht q _
theorem XE.fld {f:Nat} {p:τ→α} (h:XE Γ a ρ m0 e s0 t0) (hI:∀v,e v=.ins (cl v) (fs v)) (hk:∀v,∃i,Γ.fi (cl v) f=some i∧(fs v)[i]? = some (en (p v))):XE Γ (.fld a f) ρ (m0.bind fun x=>.ok (p x)) en .v false:=XE.fldG (fun q=>nomatch q) h hI hk
theorem XE.fldP {f:Nat} {p:τ→α} (h:XE Γ a ρ (.ok x) e s0 t0) (hI:∀v,e v=.ins (cl v) (fs v)) (hk:∀v,∃i,Γ.fi (cl v) f=some i∧(fs v)[i]? = some (en (p v))):XE Γ (.fld a f) ρ (.ok (p x)) en .v false:=XE.fld h hI hk
theorem XE.fldF [Flat en] {f:Nat} {p:τ→α} (h:XE Γ a ρ m0 e s0 t0) (hI:∀v,e v=.ins (cl v) (fs v)) (hk:∀v,∃i,Γ.fi (cl v) f=some i∧(fs v)[i]? = some (en (p v))):XE Γ (.fld a f) ρ (m0.bind fun x=>.ok (p x)) en .v true:=XE.fldG (fun _=>Flat.flat (en:=en)) h hI hk
theorem XE.fldFP [Flat en] {f:Nat} {p:τ→α} (h:XE Γ a ρ (.ok x) e s0 t0) (hI:∀v,e v=.ins (cl v) (fs v)) (hk:∀v,∃i,Γ.fi (cl v) f=some i∧(fs v)[i]? = some (en (p v))):XE Γ (.fld a f) ρ (.ok (p x)) en .v true:=XE.fldF h hI hk
theorem XE.tupS {F:β→α} (ha:XS Γ es ρ m2 enl nb t) (hf:∀w,en (F w)=.tup (enl w)) (hs:nb=true):XE Γ (.tup es) ρ (m2.bind fun w=>.ok (F w)) en .v t:=by
 unfold XE;rw[ev]
 exact XR.bind ha fun w ers h=>by
  show XR (if ers.all ER.isV=true then _ else _) _ _
  rw[if_pos (h.2.1.trans hs)]
  exact qt4 (by rw[hf,h.1]) h.2.2
theorem XE.lstS {F:β→List α} (ha:XS Γ es ρ m2 enl nb t) (hf:∀w,(F w).map en=enl w) (hs:nb=true):XE Γ (.lst es) ρ (m2.bind fun w=>.ok (F w)) (eL en) .f t:=by
 unfold XE;rw[ev]
 exact XR.bind ha fun w ers h=>by
  show XR (if ers.all ER.isV=true then _ else _) _ _
  rw[if_pos (h.2.1.trans hs)]
  exact qoR (by rw[eL,hf,h.1]) h.2.2
abbrev XLs (Γ:Env) (es:Exs) (ρ:List Sl) (xs:List α) (en:α→D) (t:Bool):Prop:=XS Γ es ρ (.ok xs) (fun xs=>xs.map en) true t
theorem XLs.nil:XLs Γ .nil ρ [] en true:=by unfold XLs;unfold XS;rw[evs];exact⟨_,rfl,rfl,rfl,fun _=>rfl⟩
theorem XLs.cons {x:α} {xs:List α} (h:XE Γ a ρ (.ok x) en s t1) (hn:s.nb=true) (hs:XLs Γ es ρ xs en t2):XLs Γ (.cons a es) ρ (x::xs) en (t1&&t2):=by
 have:=XS.consP h hs
 obtain⟨ers,e1,h1,h2,h3⟩:=this
 exact⟨ers,e1,h1,by rw[h2,hn];rfl,h3⟩
theorem XE.lstL {xs:List α} (ha:XLs Γ es ρ xs en t):XE Γ (.lst es) ρ (.ok xs) (eL en) .f t:=XE.lstS (F:=fun xs=>xs) ha (fun _=>rfl) rfl
theorem Rf.run {n m:Nat} {b:Sms} {as:List D} {mm:RE α} (hn:as.length=n) (h:BR Γ b (as.map (fun d=>Sl.val d d.flat)++List.replicate m .non) mm en s t):XR (qcv Γ n m b as) mm fun v er=>Is s t (en v) er:=by
 unfold qcv
 rw[if_pos hn]
 cases mm with
 |bad=>trivial
 |ok v =>
  obtain⟨er,e,h⟩:=h
  cases hr:qao Γ b (as.map (fun d=>Sl.val d d.flat)++List.replicate m .non)<;>rw[hr] at e<;>cases e
  exact⟨_,rfl,h⟩
 |exc c fs =>
  have h:(qao Γ b (as.map (fun d=>Sl.val d d.flat)++List.replicate m .non)).rt=_:=h
  cases hr:qao Γ b (as.map (fun d=>Sl.val d d.flat)++List.replicate m .non)<;>rw[hr] at h<;>cases h
  rfl
theorem Rf.weak {r:RE ER} {m:RE α} (h:Rf r m en s t) (hs:s.nb=true):Rf r m en .n t:=XR.mono h fun _ _ k=>k.weak hs
theorem Rf.low {r:RE ER} {m:RE α} (h:Rf r m en s t):Rf r m en s false:=XR.mono h fun _ _ k=>k.low
theorem Rf.mono {r:RE ER} {m:RE α} (h:Rf r m en s t) (hs:s.nb=true):Rf r m en .n false:=XR.mono h fun _ _ k=>(k.weak hs).low
end
end Cm
namespace Cm
section
variable {Γ:Env} {ρ:List Sl} {α:Type} {en:α→D} {s:Sh} {t:Bool}
theorem XE.mth0P {k:Nat} {τ:Type} {e:τ→D} {a:Ex} {sR:Sh} {tR:Bool} {x:τ}   {cl:τ→Nat} {fs:τ→List D} {F:τ→RE α} (h:XE Γ a ρ (.ok x) e sR tR) (hI:∀v,e v=.ins (cl v) (fs v))  (hr:∀x,∃g,Γ.mt (cl x) k=some g∧XR (g (e x::[])) (F x) fun v er=>Is s t (en v) er) (hs:true=true) (hn:s.nb=true):XE Γ (.mth k a .nil) ρ (F x) en s t:=XE.mthSP h hI XS.nil (hr x) hs hn
theorem XE.call1P {k:Nat} {nm:PySem.Str} {g:List D→RE ER} {τ0:Type} {e0:τ0→D} {a0:Ex} {s0:Sh} {t0:Bool} {x0:τ0} {m:RE α} (hg:Γ.fn[k]? = some (nm,g)) (h0:XE Γ a0 ρ (.ok x0) e0 s0 t0) (hr:XR (g [e0 x0]) m fun v er=>Is s t (en v) er) (hs:(s0.nb&&true)=true) (hn:s.nb=true):XE Γ (.call k (.cons a0 .nil)) ρ m en s t:=XE.callSP hg (XS.consP h0 XS.nil) hr hs hn
theorem XE.mth1P {k:Nat} {τ:Type} {e:τ→D} {a:Ex} {sR:Sh} {tR:Bool} {x:τ} {τ0:Type} {e0:τ0→D} {a0:Ex} {s0:Sh} {t0:Bool} {x0:τ0} {cl:τ→Nat} {fs:τ→List D} {F:τ→RE α} (h:XE Γ a ρ (.ok x) e sR tR) (hI:∀v,e v=.ins (cl v) (fs v)) (h0:XE Γ a0 ρ (.ok x0) e0 s0 t0) (hr:∀x,∃g,Γ.mt (cl x) k=some g∧XR (g (e x::[e0 x0])) (F x) fun v er=>Is s t (en v) er) (hs:(s0.nb&&true)=true) (hn:s.nb=true):XE Γ (.mth k a (.cons a0 .nil)) ρ (F x) en s t:=XE.mthSP h hI (XS.consP h0 XS.nil) (hr x) hs hn
theorem XE.call2 {k:Nat} {nm:PySem.Str} {g:List D→RE ER} {τ0:Type} {e0:τ0→D} {a0:Ex} {s0:Sh} {t0:Bool} {τ1:Type} {e1:τ1→D} {a1:Ex} {s1:Sh} {t1:Bool} {m0:RE τ0} {m1:RE τ1} {F:τ0→τ1→RE α} (hg:Γ.fn[k]? = some (nm,g)) (h0:XE Γ a0 ρ m0 e0 s0 t0) (h1:XE Γ a1 ρ m1 e1 s1 t1) (hr:∀x0 x1,XR (g [e0 x0,e1 x1]) (F x0 x1) fun v er=>Is s t (en v) er) (hs:(s0.nb&&(s1.nb&&true))=true) (hn:s.nb=true):XE Γ (.call k (.cons a0 (.cons a1 .nil))) ρ (m0.bind fun x0=>m1.bind fun x1=>F x0 x1) en s t:=
 (XE.callS (F:=fun w=>F w.1 w.2.1) hg (XS.cons h0 (XS.cons h1 XS.nil)) (fun w=>hr _ _) hs hn).cast (by simp only[RE.bind_assoc,RE.bind_ok])
theorem XE.call2P {k:Nat} {nm:PySem.Str} {g:List D→RE ER} {τ0:Type} {e0:τ0→D} {a0:Ex} {s0:Sh} {t0:Bool} {τ1:Type} {e1:τ1→D} {a1:Ex} {s1:Sh} {t1:Bool} {x0:τ0} {x1:τ1} {m:RE α} (hg:Γ.fn[k]? = some (nm,g)) (h0:XE Γ a0 ρ (.ok x0) e0 s0 t0) (h1:XE Γ a1 ρ (.ok x1) e1 s1 t1) (hr:XR (g [e0 x0,e1 x1]) m fun v er=>Is s t (en v) er) (hs:(s0.nb&&(s1.nb&&true))=true) (hn:s.nb=true):XE Γ (.call k (.cons a0 (.cons a1 .nil))) ρ m en s t:=XE.callSP hg (XS.consP h0 (XS.consP h1 XS.nil)) hr hs hn
theorem XE.tup2 {τ0:Type} {e0:τ0→D} {a0:Ex} {s0:Sh} {t0:Bool} {τ1:Type} {e1:τ1→D} {a1:Ex} {s1:Sh} {t1:Bool} {m0:RE τ0} {m1:RE τ1} (h0:XE Γ a0 ρ m0 e0 s0 t0) (h1:XE Γ a1 ρ m1 e1 s1 t1) (hs:(s0.nb&&(s1.nb&&true))=true):XE Γ (.tup (.cons a0 (.cons a1 .nil))) ρ (m0.bind fun x0=>m1.bind fun x1=>.ok (x0,x1)) (eT2 e0 e1) .v (t0&&(t1&&true)):=
 (XE.tupS (F:=fun w=>(w.1,w.2.1)) (en:=eT2 e0 e1) (XS.cons h0 (XS.cons h1 XS.nil)) (fun w=>rfl) hs).cast (by simp only[RE.bind_assoc,RE.bind_ok])
theorem XE.tup2P {τ0:Type} {e0:τ0→D} {a0:Ex} {s0:Sh} {t0:Bool} {τ1:Type} {e1:τ1→D} {a1:Ex} {s1:Sh} {t1:Bool} {x0:τ0} {x1:τ1} (h0:XE Γ a0 ρ (.ok x0) e0 s0 t0) (h1:XE Γ a1 ρ (.ok x1) e1 s1 t1) (hs:(s0.nb&&(s1.nb&&true))=true):XE Γ (.tup (.cons a0 (.cons a1 .nil))) ρ (.ok (x0,x1)) (eT2 e0 e1) .v (t0&&(t1&&true)):=XE.tup2 h0 h1 hs
theorem XE.call3 {k:Nat} {nm:PySem.Str} {g:List D→RE ER} {τ0:Type} {e0:τ0→D} {a0:Ex} {s0:Sh} {t0:Bool} {τ1:Type} {e1:τ1→D} {a1:Ex} {s1:Sh} {t1:Bool} {τ2:Type} {e2:τ2→D} {a2:Ex} {s2:Sh} {t2:Bool} {m0:RE τ0} {m1:RE τ1} {m2:RE τ2} {F:τ0→τ1→τ2→RE α} (hg:Γ.fn[k]? = some (nm,g)) (h0:XE Γ a0 ρ m0 e0 s0 t0) (h1:XE Γ a1 ρ m1 e1 s1 t1) (h2:XE Γ a2 ρ m2 e2 s2 t2) (hr:∀x0 x1 x2,XR (g [e0 x0,e1 x1,e2 x2]) (F x0 x1 x2) fun v er=>Is s t (en v) er) (hs:(s0.nb&&(s1.nb&&(s2.nb&&true)))=true) (hn:s.nb=true):XE Γ (.call k (.cons a0 (.cons a1 (.cons a2 .nil)))) ρ (m0.bind fun x0=>m1.bind fun x1=>m2.bind fun x2=>F x0 x1 x2) en s t:=
 (XE.callS (F:=fun w=>F w.1 w.2.1 w.2.2.1) hg (XS.cons h0 (XS.cons h1 (XS.cons h2 XS.nil))) (fun w=>hr _ _ _) hs hn).cast (by simp only[RE.bind_assoc,RE.bind_ok])
theorem XE.call3P {k:Nat} {nm:PySem.Str} {g:List D→RE ER} {τ0:Type} {e0:τ0→D} {a0:Ex} {s0:Sh} {t0:Bool} {τ1:Type} {e1:τ1→D} {a1:Ex} {s1:Sh} {t1:Bool} {τ2:Type} {e2:τ2→D} {a2:Ex} {s2:Sh} {t2:Bool} {x0:τ0} {x1:τ1} {x2:τ2} {m:RE α} (hg:Γ.fn[k]? = some (nm,g)) (h0:XE Γ a0 ρ (.ok x0) e0 s0 t0) (h1:XE Γ a1 ρ (.ok x1) e1 s1 t1) (h2:XE Γ a2 ρ (.ok x2) e2 s2 t2) (hr:XR (g [e0 x0,e1 x1,e2 x2]) m fun v er=>Is s t (en v) er) (hs:(s0.nb&&(s1.nb&&(s2.nb&&true)))=true) (hn:s.nb=true):XE Γ (.call k (.cons a0 (.cons a1 (.cons a2 .nil)))) ρ m en s t:=XE.callSP hg (XS.consP h0 (XS.consP h1 (XS.consP h2 XS.nil))) hr hs hn
theorem XE.new3 {k c:Nat} {g:List D→RE (List D)} {τ0:Type} {e0:τ0→D} {a0:Ex} {s0:Sh} {t0:Bool} {τ1:Type} {e1:τ1→D} {a1:Ex} {s1:Sh} {t1:Bool} {τ2:Type} {e2:τ2→D} {a2:Ex} {s2:Sh} {t2:Bool} {m0:RE τ0} {m1:RE τ1} {m2:RE τ2} {F:τ0→τ1→τ2→RE α} (hg:Γ.nw[k]? = some (c,g)) (h0:XE Γ a0 ρ m0 e0 s0 t0) (h1:XE Γ a1 ρ m1 e1 s1 t1) (h2:XE Γ a2 ρ m2 e2 s2 t2) (hr:∀x0 x1 x2,XR (g [e0 x0,e1 x1,e2 x2]) (F x0 x1 x2) fun v fs=>en v=.ins c fs):XE Γ (.new k (.cons a0 (.cons a1 (.cons a2 .nil)))) ρ (m0.bind fun x0=>m1.bind fun x1=>m2.bind fun x2=>F x0 x1 x2) en .v true:=
 (XE.newS (F:=fun w=>F w.1 w.2.1 w.2.2.1) hg (XS.cons h0 (XS.cons h1 (XS.cons h2 XS.nil))) (fun w=>hr _ _ _)).cast (by simp only[RE.bind_assoc,RE.bind_ok])
theorem XE.new3P {k c:Nat} {g:List D→RE (List D)} {τ0:Type} {e0:τ0→D} {a0:Ex} {s0:Sh} {t0:Bool} {τ1:Type} {e1:τ1→D} {a1:Ex} {s1:Sh} {t1:Bool} {τ2:Type} {e2:τ2→D} {a2:Ex} {s2:Sh} {t2:Bool} {x0:τ0} {x1:τ1} {x2:τ2} {m:RE α} (hg:Γ.nw[k]? = some (c,g)) (h0:XE Γ a0 ρ (.ok x0) e0 s0 t0) (h1:XE Γ a1 ρ (.ok x1) e1 s1 t1) (h2:XE Γ a2 ρ (.ok x2) e2 s2 t2) (hr:XR (g [e0 x0,e1 x1,e2 x2]) m fun v fs=>en v=.ins c fs):XE Γ (.new k (.cons a0 (.cons a1 (.cons a2 .nil)))) ρ m en .v true:=XE.newSP hg (XS.consP h0 (XS.consP h1 (XS.consP h2 XS.nil))) hr
theorem XE.tup3 {τ0:Type} {e0:τ0→D} {a0:Ex} {s0:Sh} {t0:Bool} {τ1:Type} {e1:τ1→D} {a1:Ex} {s1:Sh} {t1:Bool} {τ2:Type} {e2:τ2→D} {a2:Ex} {s2:Sh} {t2:Bool} {m0:RE τ0} {m1:RE τ1} {m2:RE τ2} (h0:XE Γ a0 ρ m0 e0 s0 t0) (h1:XE Γ a1 ρ m1 e1 s1 t1) (h2:XE Γ a2 ρ m2 e2 s2 t2) (hs:(s0.nb&&(s1.nb&&(s2.nb&&true)))=true):XE Γ (.tup (.cons a0 (.cons a1 (.cons a2 .nil)))) ρ (m0.bind fun x0=>m1.bind fun x1=>m2.bind fun x2=>.ok (x0,x1,x2)) (eT3 e0 e1 e2) .v (t0&&(t1&&(t2&&true))):=
 (XE.tupS (F:=fun w=>(w.1,w.2.1,w.2.2.1)) (en:=eT3 e0 e1 e2) (XS.cons h0 (XS.cons h1 (XS.cons h2 XS.nil))) (fun w=>rfl) hs).cast (by simp only[RE.bind_assoc,RE.bind_ok])
theorem XE.tup3P {τ0:Type} {e0:τ0→D} {a0:Ex} {s0:Sh} {t0:Bool} {τ1:Type} {e1:τ1→D} {a1:Ex} {s1:Sh} {t1:Bool} {τ2:Type} {e2:τ2→D} {a2:Ex} {s2:Sh} {t2:Bool} {x0:τ0} {x1:τ1} {x2:τ2} (h0:XE Γ a0 ρ (.ok x0) e0 s0 t0) (h1:XE Γ a1 ρ (.ok x1) e1 s1 t1) (h2:XE Γ a2 ρ (.ok x2) e2 s2 t2) (hs:(s0.nb&&(s1.nb&&(s2.nb&&true)))=true):XE Γ (.tup (.cons a0 (.cons a1 (.cons a2 .nil)))) ρ (.ok (x0,x1,x2)) (eT3 e0 e1 e2) .v (t0&&(t1&&(t2&&true))):=XE.tup3 h0 h1 h2 hs
theorem XE.new4 {k c:Nat} {g:List D→RE (List D)} {τ0:Type} {e0:τ0→D} {a0:Ex} {s0:Sh} {t0:Bool} {τ1:Type} {e1:τ1→D} {a1:Ex} {s1:Sh} {t1:Bool} {τ2:Type} {e2:τ2→D} {a2:Ex} {s2:Sh} {t2:Bool} {τ3:Type} {e3:τ3→D} {a3:Ex} {s3:Sh} {t3:Bool} {m0:RE τ0} {m1:RE τ1} {m2:RE τ2} {m3:RE τ3} {F:τ0→τ1→τ2→τ3→RE α} (hg:Γ.nw[k]? = some (c,g)) (h0:XE Γ a0 ρ m0 e0 s0 t0) (h1:XE Γ a1 ρ m1 e1 s1 t1) (h2:XE Γ a2 ρ m2 e2 s2 t2) (h3:XE Γ a3 ρ m3 e3 s3 t3) (hr:∀x0 x1 x2 x3,XR (g [e0 x0,e1 x1,e2 x2,e3 x3]) (F x0 x1 x2 x3) fun v fs=>en v=.ins c fs):XE Γ (.new k (.cons a0 (.cons a1 (.cons a2 (.cons a3 .nil))))) ρ (m0.bind fun x0=>m1.bind fun x1=>m2.bind fun x2=>m3.bind fun x3=>F x0 x1 x2 x3) en .v true:=
 (XE.newS (F:=fun w=>F w.1 w.2.1 w.2.2.1 w.2.2.2.1) hg (XS.cons h0 (XS.cons h1 (XS.cons h2 (XS.cons h3 XS.nil)))) (fun w=>hr _ _ _ _)).cast (by simp only[RE.bind_assoc,RE.bind_ok])
theorem XE.new4P {k c:Nat} {g:List D→RE (List D)} {τ0:Type} {e0:τ0→D} {a0:Ex} {s0:Sh} {t0:Bool} {τ1:Type} {e1:τ1→D} {a1:Ex} {s1:Sh} {t1:Bool} {τ2:Type} {e2:τ2→D} {a2:Ex} {s2:Sh} {t2:Bool} {τ3:Type} {e3:τ3→D} {a3:Ex} {s3:Sh} {t3:Bool} {x0:τ0} {x1:τ1} {x2:τ2} {x3:τ3} {m:RE α} (hg:Γ.nw[k]? = some (c,g)) (h0:XE Γ a0 ρ (.ok x0) e0 s0 t0) (h1:XE Γ a1 ρ (.ok x1) e1 s1 t1) (h2:XE Γ a2 ρ (.ok x2) e2 s2 t2) (h3:XE Γ a3 ρ (.ok x3) e3 s3 t3) (hr:XR (g [e0 x0,e1 x1,e2 x2,e3 x3]) m fun v fs=>en v=.ins c fs):XE Γ (.new k (.cons a0 (.cons a1 (.cons a2 (.cons a3 .nil))))) ρ m en .v true:=XE.newSP hg (XS.consP h0 (XS.consP h1 (XS.consP h2 (XS.consP h3 XS.nil)))) hr
end
end Cm
namespace Cm
open PySem PySem.Spec PyProof.Rows L2
section
variable {Γ:Env} {ρ:List Sl} {α β γ δ:Type} {en:α→D} {en2:β→D} {en3:γ→D} {a b c e:Ex} {s s1 s2 s3:Sh} {t t1 t2 t3:Bool} {m:RE α} {x:α} {y:β} {z:γ}
theorem XE.binR {o:Bop} {m1:RE α} {f:α→RE γ} (ha:XE Γ a ρ m1 en s1 t1) (hb:XE Γ b ρ (.ok y) en2 s2 t2) (h:∀x bb,((t1&&t2)=true→bb=true)→XR (evB o (en x) (en2 y) bb) (f x) fun v er=>Is s t (en3 v) er):XE Γ (.bin o a b) ρ (m1.bind f) en3 s t:=by
 cases m1 with
 |bad=>trivial
 |ok x=>exact XE.binP ha hb (h x)
 |exc c fs=>have ha:ev Γ a ρ=_:=ha;unfold XE;rw[ev,ha];rfl
theorem XE.binL {o:Bop} {m2:RE β} {f:β→RE γ} (ha:XE Γ a ρ (.ok x) en s1 t1) (hb:XE Γ b ρ m2 en2 s2 t2) (h:∀y bb,((t1&&t2)=true→bb=true)→XR (evB o (en x) (en2 y) bb) (f y) fun v er=>Is s t (en3 v) er):XE Γ (.bin o a b) ρ (m2.bind f) en3 s t:=by
 cases m2 with
 |bad=>trivial
 |ok y=>exact XE.binP ha hb (h y)
 |exc c fs =>
  obtain⟨er,e1,_⟩:=ha
  have hb:ev Γ b ρ=_:=hb
  unfold XE;rw[ev,e1,hb];rfl
theorem XE.cmpR {o:Cop} {m1:RE α} {f:α→RE Bool} (ha:XE Γ a ρ m1 en s1 t1) (hb:XE Γ b ρ (.ok y) en2 s2 t2) (h:∀x,evC o (en x) (en2 y)=f x):XE Γ (.cmp o a b) ρ (m1.bind f) eB .v true:=by
 cases m1 with
 |bad=>trivial
 |ok x=>exact XE.cmpP ha hb (h x)
 |exc c fs=>have ha:ev Γ a ρ=_:=ha;unfold XE;rw[ev,ha];rfl
theorem XE.cmpL {o:Cop} {m2:RE β} {f:β→RE Bool} (ha:XE Γ a ρ (.ok x) en s1 t1) (hb:XE Γ b ρ m2 en2 s2 t2) (h:∀y,evC o (en x) (en2 y)=f y):XE Γ (.cmp o a b) ρ (m2.bind f) eB .v true:=by
 cases m2 with
 |bad=>trivial
 |ok y=>exact XE.cmpP ha hb (h y)
 |exc c fs =>
  obtain⟨er,e1,_⟩:=ha
  have hb:ev Γ b ρ=_:=hb
  unfold XE;rw[ev,e1,hb];rfl
theorem XE.nev {e:Ex}:XE Γ e ρ (.bad:RE α) en s t:=trivial
def eTL {α:Type} (en:α→D) (xs:List α):D:=.tup (xs.map en)
theorem XE.tupL {es:Exs} {xs:List α} (ha:XLs Γ es ρ xs en t):XE Γ (.tup es) ρ (.ok xs) (eTL en) .v t:=XE.tupS (F:=fun xs=>xs) ha (fun _=>rfl) rfl
def qoW (x:List Nat) (ts:List (List Nat)):RE Bool:=if ((D.str x).fit 0&&D.fits (ts.map eS) 0)=true then .ok (decide (x∈ts)) else .bad
def qmu (x:List Nat) (ts:List (List Nat)):RE Bool:=(qoW x ts).bind fun b=>.ok (!b)
theorem qme (x:List Nat):∀ts:List (List Nat),((ts.map D.str).any fun z=>z.eqb (.str x))=decide (x∈ts)
 |[]=>by simp
 |n::ts=>by
  show(D.eqb (.str n) (.str x)||(ts.map D.str).any fun z=>z.eqb (.str x))=_
  rw[qme x ts]
  simp only[D.eqb,List.mem_cons]
  by_cases h:n=x
  ·subst h;simp
  ·have:¬x=n:=fun e=>h e.symm
   simp[h,this]
theorem qpa {α β:Type} (o:Cop) (e1:α→D) (e2:β→D) (x:α) (y:β):evC o (e1 x) (e2 y)=evC o (e1 x) (e2 y):=rfl
theorem qqk (x:List Nat) (ts:List (List Nat)):evC .isin (eS x) (eTL eS ts)=qoW x ts:=by
 show(if ((D.str x).fit 0&&D.fits (ts.map eS) 0)=true then RE.ok ((ts.map D.str).any fun z=>z.eqb (.str x)) else .bad)=_
 rw[qme];rfl
theorem qsa (x:List Nat) (ts:List (List Nat)):evC .nin (eS x) (eTL eS ts)=qmu x ts:=by
 show(evC .isin (eS x) (eTL eS ts)).bind _=_
 rw[qqk];rfl
theorem qgV {f:α→β} (k:∀v,en v=en2 (f v)) (v:List α):eL en v=eL en2 (v.map f):=by
 unfold eL
 rw[List.map_map]
 congr 1
 exact List.map_congr_left fun x _=>k x
theorem SlV.coe {f:α→β} {q:Sl} (h:SlV t (en x) q) (k:∀v,en v=en2 (f v)):SlV t (en2 (f x)) q:=by rw[←k];exact h
def Dec {α β:Type} (en:α→D) (en2:β→D) (f:α→RE β):Prop:=∀v,f v=.bad∨∃w,f v=.ok w∧en v=en2 w
theorem XE.dec {f:α→RE β} (h:XE Γ e ρ (.ok x) en s t) (k:Dec en en2 f):XE Γ e ρ (f x) en2 s t:=by
 rcases k x with k | ⟨w,q,k⟩
 ·rw[k];trivial
 ·rw[q];obtain⟨er,e1,e2⟩:=h;exact⟨er,e1,by rw[←k];exact e2.d,e2.s,e2.t⟩
def dI:D→RE Int
 |.int i=>.ok i
 |_=>.bad
def dS:D→RE (List Nat)
 |.str i=>.ok i
 |_=>.bad
def dLs (f:α→RE β):List α→RE (List β)
 |[]=>.ok []
 |x::xs=>(f x).bind fun y=>(dLs f xs).bind fun ys=>.ok (y::ys)
def dL (f:D→RE β):D→RE (List β)
 |.lst xs=>dLs f xs
 |_=>.bad
def dT5 {α0 α1 α2 α3:Type} (f:α→RE β) (p:α0 × α1 × α2 × α3 × α):RE (α0 × α1 × α2 × α3 × β):=(f p.2.2.2.2).bind fun y=>.ok (p.1,p.2.1,p.2.2.1,p.2.2.2.1,y)
def dTH:D→RE (List Nat × Int × Int × Int × List D)
 |.tup [.str k,.int r,.int c,.int g,.lst m]=>.ok (k,r,c,g,m)
 |_=>.bad
theorem qwk:Dec eD eS dS:=fun v=>by cases v<;>first | exact .inl rfl | exact .inr ⟨_,rfl,rfl⟩
theorem qaL {α β:Type} {e1:α→D} {e2:β→D} {f:α→β} (h:∀x,e1 x=e2 (f x)):∀x,e1 x=eO e2 (some (f x)):=h
def dP2:D→RE (D × D)
 |.tup [a,b]=>.ok (a,b)
 |_=>.bad
def thD (p:List Nat × Int × Int × Int × List Int):List Nat × Int × Int × Int × List D:=(p.1,p.2.1,p.2.2.1,p.2.2.2.1,p.2.2.2.2.map eI)
def t5L {α0 α1 α2 α3 α:Type} (g:α→D) (p:α0 × α1 × α2 × α3 × List α):α0 × α1 × α2 × α3 × List D:=(p.1,p.2.1,p.2.2.1,p.2.2.2.1,p.2.2.2.2.map g)
def qj2 (x:List Int):RE Int:=gd (Nat.ble x.length 1000) (.ok (qpM x:Int))
theorem XE.lset {m:RE (List Int)} (h:XE Γ a ρ m (eL eI) s t):XE Γ (.lset a) ρ (m.bind qj2) eI .v true:=by
 unfold XE;rw[ev]
 exact XR.bind h fun v er k=>by
  rw[k.d]
  simp only[qlD,eL,qfh]
  exact xgd (xok rfl)
theorem XE.lsetP {x:List Int} (h:XE Γ a ρ (.ok x) (eL eI) s t):XE Γ (.lset a) ρ (qj2 x) eI .v true:=XE.lset h
def qgd (x y:List Nat):RE (List (List Nat)):=gd (qui y.length x.length) (.ok ((Txt.split (qbg x) (qbg y)).map fun z=>z.cps.toList))
def quz (x y:List Nat):RE Int:=.ok (Txt.find (qbg x) (qbg y))
def qjs (s:List Nat) (ss:List (List Nat)):RE (List Nat):=gd (leB ((ss.map List.length).sum+ss.length*s.length)) (.ok (Txt.join (qbg s) (ss.map qbg)).cps.toList)
theorem XE.split {m1 m2:RE (List Nat)} (ha:XE Γ a ρ m1 eS s1 t1) (hb:XE Γ b ρ m2 eS s2 t2):XE Γ (.bm1 .split a b) ρ (m1.bind fun x=>m2.bind fun y=>qgd x y) (eL eS) .f true:=by
 unfold XE;rw[ev]
 exact XR.bind ha fun v er k=>by
  rw[k.d]
  exact XR.bind hb fun w er' k'=>by
   rw[k'.d]
   exact xgd (qoR (by simp[eL,List.map_map,Function.comp_def]) fun _=>rfl)
theorem XE.find {m1 m2:RE (List Nat)} (ha:XE Γ a ρ m1 eS s1 t1) (hb:XE Γ b ρ m2 eS s2 t2):XE Γ (.bm1 .find a b) ρ (m1.bind fun x=>m2.bind fun y=>quz x y) eI .v true:=by
 unfold XE;rw[ev]
 exact XR.bind ha fun v er k=>by
  rw[k.d]
  exact XR.bind hb fun w er' k'=>by rw[k'.d];exact xok rfl
theorem XE.join {m1:RE (List Nat)} {m2:RE (List (List Nat))} (ha:XE Γ a ρ m1 eS s1 t1) (hb:XE Γ b ρ m2 (eL eS) s2 t2):XE Γ (.bm1 .join a b) ρ (m1.bind fun x=>m2.bind fun y=>qjs x y) eS .v true:=by
 unfold XE;rw[ev]
 exact XR.bind ha fun v er k=>by
  rw[k.d]
  exact XR.bind hb fun w er' k'=>by
   rw[k'.d]
   simp only[evM,eL,qh0]
   exact xgd (xok rfl)
def qwR (x y:List Nat):RE Int:=match PySem.Builtin.Str.occurrences (qbg x) (qbg y) 0 x.length 1 with
 |j::_=>.ok ((j:Nat):Int)
 |[]=>.bad
def qsk (xs:List Int) (y:Int):RE Int:=match xs.findIdx? (fun x=>decide (x=y)) with
 |some j=>.ok (j:Int)
 |none=>.bad
def mmE (k:Bool) (x:List Int) (y:Int):RE Int:=.ok (quk k x y)
def qwi (en:α→D) (en2:β→D) (xs:List α) (y:β):RE Int:=(qqq (xs.map en) (en2 y)).bind fun r=>match r.d with
 |.int i=>.ok i
 |_=>.bad
def qlW (d:D) (k:Int):RE D:=match d with
 |.lst xs=>atE xs k
 |.tup xs=>atE xs k
 |_=>.bad
theorem XE.idxD {m1:RE D} {m2:RE Int} (ha:XE Γ a ρ m1 eD s1 t) (hb:XE Γ b ρ m2 eI s2 t2):XE Γ (.idx a b) ρ (m1.bind fun x=>m2.bind fun k=>qlW x k) eD .v t:=by
 unfold XE;rw[ev]
 exact XR.bind ha fun v er k=>XR.bind hb fun w er' k'=>by
  rw[k.d,k'.d]
  unfold eD eI qlW atE
  cases v with
  |lst xs =>
   simp only[qrt]
   cases L2.atI xs w with
   |none=>trivial
   |some x=>exact⟨_,rfl,rfl,rfl,fun z=>by show(_||_)=true;rw[k.t z];rfl⟩
  |tup xs =>
   simp only[qrt]
   cases L2.atI xs w with
   |none=>trivial
   |some x=>exact⟨_,rfl,rfl,rfl,fun z=>by show(_||_)=true;rw[k.t z];rfl⟩
  |_=>trivial
def qwN (d:D):RE Int:=match d with
 |.lst xs=>.ok xs.length
 |.tup xs=>.ok xs.length
 |_=>.bad
theorem qrW (x:α × β × γ) (e:ER) (h:e.d=eT3 en en2 en3 x) (_:t=true→e.b=true):XR (evP .len [e]) (.ok 3) fun v er=>Is .v true (eI v) er:=by
 simp only[evP,h,eT3];exact xok rfl
def qvY (d:D):RE (List D):=match d with
 |.lst xs=>.ok xs
 |.tup xs=>.ok xs
 |_=>.bad
theorem qtI {α β:Type} (f:α→β) (m:RE (List α)):(m.bind fun xs=>gd (leB xs.length) (.ok (xs.map f)))=m.bind fun xs=>gd (leB xs.length) (lcE (fun _=>.ok true) (fun x=>.ok (f x)) xs):=by
 congr 1;funext xs;rw[qnW,qnI]
theorem qtu {α:Type} (c:α→Bool) (m:RE (List α)):(m.bind fun xs=>gd (leB xs.length) (.ok (xs.filter c)))=m.bind fun xs=>gd (leB xs.length) (lcE (fun x=>.ok (c x)) (fun x=>.ok x) xs):=by
 congr 1;funext xs;rw[qqy c fun x=>x,List.map_id']
end
theorem qtR {g:List D→RE ER} {ns:List Int} {m:RE Bool} {t:Bool} (h:Rf (g [eL eI ns]) m eB .v t) (e:m=.ok true):∃b,g [.lst (ns.map D.int)]=.ok (.val (.bl true) b):=by
 rw[e] at h
 obtain⟨er,e1,e2⟩:=h
 have h1:=e2.d
 have h2:=e2.s
 cases er with
 |val d b=>cases h1;exact⟨b,e1⟩
 |fre d b=>cases h2
 |brw d b=>cases h2
def tryE {α:Type} (T:Nat→Option Bool) (x:Option Nat):RE α→RE (Option Nat)
 |.bad=>.bad
 |.ok _=>.ok x
 |.exc c fs=>match T c,fs with
  |some true,[]=>.ok (some c)
  |some false,fs=>.exc c fs
  |_,_=>.bad
def tryA {α:Type} (T:Nat→Option Bool) (x:Option Nat) (y:α):RE α→RE (Option Nat × α)
 |.bad=>.bad
 |.ok v=>.ok (x,v)
 |.exc c fs=>match T c,fs with
  |some true,[]=>.ok (some c,y)
  |some false,fs=>.exc c fs
  |_,_=>.bad
section
variable {Γ:Env} {ρ:List Sl} {α:Type} {en:α→D} {e a:Ex} {s:Sh} {t t1:Bool} {m:RE α}
theorem SN.tryE {T:Nat→Option Bool} {k i j:Nat} {x:Option Nat} {qi qj:Sl} (h:XE Γ e ρ m en s t1) (hT:Γ.ck[k]? = some T) (hij:(if i=j then false else true)=true) (h0:ρ[j]? = some qj) (hq:SlV t (eO eX x) qj) (ρ₂:Sl→Sl→List Sl) (hset:∀q r,(ρ.set j q).set i r=ρ₂ q r) (hid:∀r,ρ[i]? = some r→ρ=ρ₂ qj r) (hi:i<ρ.length) :
  SN Γ (.tryx k i j (.ex e)) ρ (Cm.tryE T x m) fun v ρ'=>∃q r,ρ'=ρ₂ q r∧SlV t (eO eX v) q:=by
 have hij:i≠j:=fun e=>by rw[if_pos e] at hij;cases hij
 unfold SN
 rw[Cm.run,trB,hT]
 cases m with
 |bad=>trivial
 |ok v =>
  obtain⟨er,e1,e2⟩:=h
  rw[e1]
  exact⟨ρ,rfl,qj,ρ[i],hid _ (List.getElem?_eq_getElem hi),hq⟩
 |exc c fs =>
  have h:ev Γ e ρ=_:=h
  rw[h]
  simp only[Cm.tryE,RE.bind_exc,trX,if_neg hij]
  cases hc:T c with
  |none=>trivial
  |some b =>
   cases b with
   |false=>exact rfl
   |true =>
    cases fs with
    |nil=>exact⟨_,rfl,_,_,hset _ _,_,rfl,fun _=>rfl⟩
    |cons _ _=>trivial
theorem SN.tryA {T:Nat→Option Bool} {k i j z:Nat} {x:Option Nat} {y:α} {qj qz:Sl} (h:XE Γ e ρ m en s t1) (hs:s.nb=true) (hT:Γ.ck[k]? = some T) (hij:(if i=j then false else true)=true) (h0:ρ[j]? = some qj) (hq:SlV t (eO eX x) qj) (h1:ρ[z]? = some qz) (hz:SlV t1 (en y) qz) (ρ₂:Sl→Sl→Sl→List Sl)
  (hset:∀q r,(ρ.set j q).set i r=ρ₂ q qz r) (hset2:∀r q,ρ[i]? = some r→ρ.set z q=ρ₂ qj q r) (hi:i<ρ.length) :
  SN Γ (.tryx k i j (.as z e)) ρ (Cm.tryA T x y m) fun v ρ'=>∃q r u,ρ'=ρ₂ q r u∧SlV t (eO eX v.1) q∧SlV t1 (en v.2) r:=by
 have hij:i≠j:=fun e=>by rw[if_pos e] at hij;cases hij
 unfold SN
 rw[Cm.run,trB,hT]
 cases m with
 |bad=>trivial
 |ok v =>
  obtain⟨er,e1,e2⟩:=h
  rw[e1]
  have h1:=e2.s
  have h2:=e2.d
  have h3:=e2.t
  cases er with
  |val d b=>simp only[RE.bind_ok,trX,Cm.tryA];exact⟨_,rfl,qj,_,_,hset2 _ _ (List.getElem?_eq_getElem hi),hq,b,by rw[←h2];rfl,h3⟩
  |fre d b=>simp only[RE.bind_ok,trX,Cm.tryA];exact⟨_,rfl,qj,_,_,hset2 _ _ (List.getElem?_eq_getElem hi),hq,b,by rw[←h2];rfl,h3⟩
  |brw d b=>cases s<;>simp_all[qig,ER.isF,Sh.nb]
 |exc c fs =>
  have h:ev Γ e ρ=_:=h
  rw[h]
  simp only[Cm.tryA,RE.bind_exc,trX,if_neg hij]
  cases hc:T c with
  |none=>trivial
  |some b =>
   cases b with
   |false=>exact rfl
   |true =>
    cases fs with
    |nil=>exact⟨_,rfl,_,qz,_,hset _ _,⟨_,rfl,fun _=>rfl⟩,hz⟩
    |cons _ _=>trivial
def qgy (T:Nat→Option Bool):Option Nat→RE Bool
 |some c=>match T c with
  |some b=>.ok b
  |none=>.bad
 |none=>.bad
theorem XE.isc {T:Nat→Option Bool} {k:Nat} {x:Option Nat} (h:XE Γ a ρ (.ok x) (eO eX) s t) (hT:Γ.ck[k]? = some T):XE Γ (.isc a k) ρ (qgy T x) eB .v true:=by
 obtain⟨er,e1,e2⟩:=h
 unfold XE;rw[ev,e1]
 simp only[RE.bind_ok]
 rw[e2.d,hT]
 cases x with
 |none=>trivial
 |some c =>
  show XR (match T c with
   |some b=>ok (.bl b)
   |none=>.bad) (match T c with
   |some b=>.ok b
   |none=>.bad) _
  cases T c with
  |none=>trivial
  |some b=>exact xok rfl
def qv5 (Ts:List (Option (Nat→Option Bool))):Option Nat→RE Bool
 |some c=>match quW Ts c with
  |some b=>.ok b
  |none=>.bad
 |none=>.bad
def qwX (T:Nat→Option Bool) (cl:α→Nat) (x:α):RE Bool:=match T (cl x) with
 |some b=>.ok b
 |none=>.bad
def qvt (n:Int):RE (List Int):=gd (qmo n) (.ok (qfC 0 1 n.toNat).reverse)
theorem qpS (n:Nat):qfC (0+(n:Int) - 1) (-1) n=(qfC 0 1 n).reverse:=by
 apply List.ext_getElem
 ·simp[qfC]
 ·intro i h1 h2
  simp[qfC] at h1 h2 ⊢
  omega
theorem XI.rvr {m1:RE Int} (h:XE Γ a ρ m1 eI s t):XI Γ (.rvr a) ρ (m1.bind qvt) eI true false:=by
 unfold XI;rw[evI]
 exact XR.bind h fun n er h1=>by
  rw[h1.d]
  show XR (gd (qmo n) _) (gd (qmo n) _) _
  cases qmo n
  ·trivial
  ·refine⟨_,rfl,?_,fun _=>rfl,fun _=>rfl⟩
   show(qfC (0+(((n - 0).toNat:Nat):Int) - 1) (-1) (n - 0).toNat).map D.int=_
   rw[Int.sub_zero,qpS]
end
inductive RK where
 |unlike | total | rising | seen | counted | joined | nosquare | ring
deriving DecidableEq
def RK.c:RK→Nat
 |.unlike=>0 | .total=>1 | .rising=>2 | .seen=>3 | .counted=>4 | .joined=>5 | .nosquare=>6 | .ring=>7
structure RuleT where
 k:RK
 ground:Int × Int × Int
 cells:List Int
 wanted:Int
 sign:Int
def qa6 (r:RuleT):List D:=[eT3 eI eI eI r.ground,eL eI r.cells,eI r.wanted,eI r.sign]
def eRule (r:RuleT):D:=.ins r.k.c (qa6 r)
inductive KK where
 |clue | only | place | pair | count | step | sums | ways | square | reach | turn
deriving DecidableEq
def KK.c:KK→Nat
 |.clue=>10 | .only=>11 | .place=>12 | .pair=>13 | .count=>14 | .step=>15 | .sums=>16 | .ways=>17 | .square=>18 | .reach=>19 | .turn=>20
def eKind (k:KK):D:=.ins k.c []
structure PuzT where
 ground:Int × Int × Int
 rules:List RuleT
 clues:List Int
def qik (p:PuzT):List D:=[eT3 eI eI eI p.ground,eL eRule p.rules,eL eI p.clues]
def ePuz (p:PuzT):D:=.ins 25 (qik p)
instance:Flat eRule:=⟨fun _=>rfl⟩
instance:Flat eKind:=⟨fun _=>rfl⟩
instance:Flat ePuz:=⟨fun _=>rfl⟩
section
variable {Γ:Env} {ρ:List Sl} {α:Type} {en:α→D} {e a:Ex} {s:Sh} {t t1:Bool} {m:RE α} {ss:Sms}
theorem XE.sfd {i f c k:Nat} {fs:List D} {x:α} (h:ρ[i]? = some (.slf c fs)) (hf:Γ.fi c f=some k) (hk:fs[k]? = some (en x)):XE Γ (.sfd i f) ρ (.ok x) en .v true:=by
 unfold XE;rw[ev,h]
 simp only[hf,hk]
 exact qt4 rfl fun _=>rfl
theorem SN.fset {f c:Nat} {fs:List D} {r:List Sl} (h:XE Γ e ρ m en s t) (hs:s.nb=true) (hS:qoN s t en) (h0:ρ=.slf c fs::r) (hr:qpc r=true) (hf:Γ.fi c f=some fs.length) (h9:Nat.ble fs.length 900=true):SN Γ (.fset f e) ρ m fun v ρ'=>ρ'=.slf c (fs++[en v])::r:=by
 unfold SN
 rw[Cm.run]
 cases m with
 |bad=>trivial
 |exc c fs=>have h:ev Γ e ρ=_:=h;rw[h];rfl
 |ok v =>
  obtain⟨er,e1,e2⟩:=h
  rw[e1]
  have h1:=e2.s
  have h2:=e2.d
  have h3:=e2.t
  have key:∀g:D→Out,heldF er g=g (en v):=fun g=>by
   cases er with
   |val d b =>
    have h2:d=en v:=h2
    subst h2
    have:(b||(en v).flat)=true:=by
     rcases hS with q | q | q
     ·have:b=true:=h3 q
      rw[this];rfl
     ·rw[q.2];simp
     ·rw[q.1] at h1;cases h1
    simp only[heldF,this,qdw]
   |fre d b =>
    have h2:D.lst d=en v:=h2
    have:(b||D.flats d)=true:=by
     rcases hS with q | q | q
     ·have:b=true:=h3 q
      rw[this];rfl
     ·rw[q.1] at h1;cases h1
     ·rw[q.2 v d h2.symm];simp
    simp only[heldF,this,qdw,h2]
   |brw d b=>cases s<;>simp_all[qig,ER.isF,Sh.nb]
  simp only[RE.out_ok]
  rw[key]
  subst h0
  simp only[qqd,hr,if_true,hf,h9,qdw]
  exact⟨_,rfl,rfl⟩
theorem Ini.run {c nf n k:Nat} {b:Sms} {as:List D} {mm:RE α} {fs:α→List D} (hn:as.length=n) (h:BN Γ b (.slf c []::(as.map (fun d=>Sl.val d d.flat)++List.replicate k .non)) mm fun v ρ'=>∃r,ρ'=.slf c (fs v)::r∧(fs v).length=nf) (he:∀v,mm=.ok v→en v=.ins c (fs v)):XR (qlY Γ c nf n k b as) mm fun v gs=>en v=.ins c gs:=by
 unfold qlY
 rw[if_pos hn]
 cases mm with
 |bad=>trivial
 |exc c fs=>have h:qao Γ b _=_:=h;rw[h];rfl
 |ok v =>
  obtain⟨ρ',e,r,e2,e3⟩:=h
  rw[e,e2]
  simp only[if_true,e3]
  exact⟨_,rfl,he v rfl⟩
end
instance:Flat (eTL eS):=⟨fun v=>by
 show D.flats (v.map eS)=true
 exact qgS v⟩
section
variable {Γ:Env} {ρ:List Sl} {a b:Ex} {s s1 s2:Sh} {t t1 t2:Bool}
def qu6 (x:List Int):RE (List Int):=gd (Nat.ble x.length 63) (.ok (qun x))
def qxi {α:Type} (en:α→D) (os:List (List Int)) (v:α):RE α:=if qqz os (en v)=true then .ok v else .bad
def qwD (x:List Int):RE (List Int):=gd (leB x.length) (.ok x.reverse)
def qvS (T:List (List Nat)) (x:List Nat):RE Int:=match qvp x T with
 |some j=>.ok (j:Int)
 |none=>.bad
abbrev DTb:Type:=List (List Nat × Option (List (List Nat)))
def dtD (t:DTb):List (List Nat × Option D):=t.map fun p=>(p.1,p.2.map (eTL eS))
def qv1 (t:DTb) (n:Bool) (x:List Nat):RE Bool:=match t.lookup x with
 |some o=>.ok (o.isSome == n)
 |none=>.bad
def qvZ (t:DTb) (x:List Nat):RE (List (List Nat)):=match t.lookup x with
 |some (some z)=>.ok z
 |_=>.bad
end
theorem XE.bad {Γ:Env} {ρ:List Sl} {α:Type} {en:α→D} {e:Ex} {s:Sh} {t:Bool}:XE Γ e ρ (RE.bad:RE α) en s t:=trivial
def qw2 {α:Type} (en:α→D) (m:List (Int × α)):List (Int × D):=m.map fun e=>(e.1,en e.2)
def SlM (t:Bool) (m:List (Int × D)) (s:Sl):Prop:=∃f,s=.dct m f∧(t=true→f=true)
theorem SlM.low {t:Bool} {m:List (Int × D)} {s:Sl} (h:SlM t m s):SlM false m s:=by
 obtain⟨f,e,_⟩:=h
 exact⟨f,e,fun e=>nomatch e⟩
def qlf {α:Type} (m:List (Int × α)) (k:Int):RE α:=match qfu k m with
 |some x=>.ok x
 |none=>.bad
def qmw {α:Type} (m:List (Int × α)) (k:Int) (x:α):RE (List (Int × α)):=gd (leB (m.length+1)) (.ok (qoS k x m))
section
variable {Γ:Env} {ρ:List Sl} {α:Type} {en:α→D} {e b ix:Ex} {s s2:Sh} {t t1 t2:Bool} {q0:Sl} {m:List (Int × α)} {i:Nat}
def qwe (xs:List α) (_:α):RE Unit:=gd (leB (xs.length+1)) (.ok ())
end
end Cm
set_option maxHeartbeats 2000000
namespace Cm
open PySem PySem.Spec PyProof.Rows L2
def SlW {α:Type} (en:α→D) (v:List (List α)) (s:Sl):Prop:=s=.row (v.map (List.map en))
def pkM {α:Type}:RE α→RE α
 |.exc c fs=>if D.flats fs=true then .exc c fs else .bad
 |m=>m
@[simp] theorem qvQ {α:Type} (x:α):pkM (.ok x)=.ok x:=rfl
theorem ql2 {α:Type} {en:α→D} (h:∀v,(en v).flat=true):∀xs:List α,D.flats (xs.map en)=true
 |[]=>rfl
 |x::xs=>by
  show((en x).flat&&D.flats (xs.map en))=true
  rw[h x,ql2 h xs];rfl
def qwa {α:Type} (v:List (List α)) (k:Nat) (x:α):RE (List (List α)):=match v[k]? with
 |some xs=>gd (leB (xs.length+1)) (.ok (v.set k (xs++[x])))
 |none=>.bad
def qv6 {α:Type} (v:List (List α)) (k:Nat):RE (List (List α)):=match v[k]? with
 |some _=>.ok (v.set k [])
 |none=>.bad
def qwU {α:Type} (v:List (List α)) (k:Nat) (m:Int) (x:α):RE (List (List α)):=match v[k]? with
 |some xs=>match ixN xs.length m with
  |some j=>.ok (v.set k (xs.set j x))
  |none=>.bad
 |none=>.bad
section
variable {Γ:Env} {ρ:List Sl} {α β τ:Type} {en:α→D} {e ix:Ex} {es:Exs} {s s2:Sh} {t t1 t2:Bool} {q0:Sl} {i k:Nat} {v:List (List α)}
abbrev XEF (Γ:Env) (es:Exs) (ρ:List Sl) (m:RE (List (List α))) (en:α→D):Prop:=XR (evF Γ es ρ) m fun v dss=>dss=v.map (List.map en)
theorem XEF.nil:XEF Γ .nil ρ (.ok []) en:=by unfold XEF;rw[evF];exact⟨_,rfl,rfl⟩
theorem XEF.cons {m1:RE (List α)} {m2:RE (List (List α))} (h:XE Γ e ρ m1 (eL en) .f t) (hf:∀v,(en v).flat=true) (hs:XEF Γ es ρ m2 en):XEF Γ (.cons e es) ρ (m1.bind fun x=>m2.bind fun r=>.ok (x::r)) en:=by
 unfold XEF;rw[evF]
 refine XR.bind h fun x er h1=>?_
 have k1:=h1.s
 have k2:=h1.d
 cases er with
 |val _ _=>cases k1
 |brw _ _=>cases k1
 |fre ds b =>
  have k2:D.lst ds=eL en x:=k2
  injection k2 with k2
  subst k2
  show XR (if D.flats (x.map en)=true then _ else _) _ _
  rw[if_pos (ql2 hf x)]
  exact XR.bind hs fun r dss e=>⟨_,rfl,by rw[e];rfl⟩
theorem SN.row {m:RE (List (List α))} (ρ₂:Sl→List Sl) (h:XEF Γ es ρ m en) (hset:∀q,ρ.set i q=ρ₂ q) :
  SN Γ (.row i es) ρ (m.bind fun v=>gd (leB v.length) (.ok v)) fun v ρ'=>∃q,ρ'=ρ₂ q∧SlW en v q:=by
 unfold SN
 rw[Cm.run]
 cases m with
 |bad=>trivial
 |exc c fs=>have h:evF Γ _ ρ=_:=h;rw[h];rfl
 |ok v =>
  obtain⟨dss,e1,rfl⟩:=h
  rw[e1]
  have hl:(v.map (List.map en)).length=v.length:=List.length_map _
  simp only[RE.out_ok,RE.bind_ok,hl]
  cases leB v.length with
  |false=>trivial
  |true=>exact⟨_,rfl,_,hset _,rfl⟩
end
section
variable {Γ:Env} {ρ:List Sl} {α:Type} {en:α→D} {a:Ex} {s1:Sh} {t:Bool}
end
def qwm (s:List Nat) (k:Int):RE (List Nat):=gd (qsL s.length k&&(Nat.ble 1 k.toNat&&Nat.ble 1 s.length)) (.ok (List.replicate k.toNat s).flatten)
end Cm
namespace Cm
open PySem PySem.Spec PyProof.Rows L2
def qgb {α β:Type} (c:α→RE Bool) (f:α→RE β):List α→RE (List β)
 |[]=>.ok []
 |x::xs=>(c x).bind fun k=>if k=true then (f x).bind fun y=>(qgb c f xs).bind fun ys=>.ok (y::ys) else qgb c f xs
section
variable {Γ:Env} {ρ:List Sl} {α β:Type} {en:α→D} {en2:β→D} {e:Ex} {s:Sh} {t t1:Bool}
theorem qqm {cc:α→RE Bool} {ff:α→RE β} {F:D→RE (Option (D × Bool))} {t:Bool}:∀{xs:List α},(∀x∈xs,XR (F (en x)) ((cc x).bind fun k=>if k=true then (ff x).bind fun y=>.ok (some y) else .ok none) fun v r=>match v with
  |none=>r=none
  |some y=>∃f,r=some (en2 y,f)∧(t=true→f=true))→XR (lcl F (xs.map en)) (qgb cc ff xs) fun ys r=>r.1=ys.map en2∧(t=true→r.2=true)
 |[],_=>⟨_,rfl,rfl,fun _=>rfl⟩
 |x::xs,h=>by
  have ih:=qqm (F:=F) (xs:=xs) fun y hy=>h y (List.mem_cons_of_mem _ hy)
  have h0:=h x (by simp)
  simp only[List.map_cons,lcl,qgb]
  cases hc:cc x with
  |bad=>trivial
  |exc c fs =>
   rw[hc] at h0
   have h0:F (en x)=_:=h0
   rw[h0];rfl
  |ok k =>
   rw[hc] at h0
   simp only[RE.bind_ok] at h0 ⊢
   cases k with
   |false =>
    simp only[Bool.false_eq_true,if_false] at h0 ⊢
    obtain⟨r,e1,e2⟩:=h0
    cases e2
    rw[e1]
    simp only[RE.bind_ok]
    cases hl:qgb cc ff xs with
    |bad=>trivial
    |ok ys=>rw[hl] at ih;obtain⟨q,e3,e4⟩:=ih;rw[e3];exact⟨_,rfl,e4⟩
    |exc c fs=>rw[hl] at ih;have ih:lcl F (xs.map en)=_:=ih;rw[ih];rfl
   |true =>
    simp only[if_true] at h0 ⊢
    cases hf:ff x with
    |bad=>trivial
    |exc c fs =>
     rw[hf] at h0
     have h0:F (en x)=_:=h0
     rw[h0];rfl
    |ok y =>
     rw[hf] at h0
     obtain⟨r,e1,f,e2,e2'⟩:=h0
     subst e2
     rw[e1]
     simp only[RE.bind_ok]
     cases hl:qgb cc ff xs with
     |bad=>trivial
     |ok ys =>
      rw[hl] at ih
      obtain⟨q,e3,e4,e5⟩:=ih
      rw[e3]
      refine⟨_,rfl,by simp[e4],fun z=>?_⟩
      show(f&&q.2)=true
      rw[e2' z,e5 z];rfl
     |exc c fs=>rw[hl] at ih;have ih:lcl F (xs.map en)=_:=ih;rw[ih];rfl
theorem qp9 {cnd:Tes} {e:Ex} {ρ':List Sl} {mc:RE Bool} {mf:RE β} (hc:XTs Γ true cnd ρ' mc) (hf:mc=.ok true→XE Γ e ρ' mf en2 s t) (hs:s.nb=true):XR ((qg7 Γ true cnd ρ').bind fun k=>if k=true then (ev Γ e ρ').bind fun y=>match y with
    |.brw _ _=>.bad
    |y=>.ok (some (y.d,y.b)) else .ok none) (mc.bind fun k=>if k=true then mf.bind fun y=>.ok (some y) else .ok none) fun v r=>match v with
  |none=>r=none
  |some y=>∃f,r=some (en2 y,f)∧(t=true→f=true):=by
 cases mc with
 |bad=>trivial
 |exc c fs =>
  have hc:qg7 Γ true cnd ρ'=_:=hc
  rw[hc];rfl
 |ok k =>
  obtain⟨x,e1,e2⟩:=hc
  subst e2
  rw[e1]
  cases x with
  |false=>exact⟨_,rfl,rfl⟩
  |true =>
   have hf:=hf rfl
   simp only[RE.bind_ok,if_true]
   cases mf with
   |bad=>trivial
   |exc c fs =>
    have hf:ev Γ e ρ'=_:=hf
    rw[hf];rfl
   |ok y =>
    obtain⟨er,e3,e4⟩:=hf
    rw[e3]
    simp only[RE.bind_ok]
    have hsh:=e4.s
    cases er with
    |brw ds b=>cases s<;>simp_all[qig,ER.isF,Sh.nb]
    |val d b=>exact⟨_,rfl,_,by rw[←e4.d],e4.t⟩
    |fre d b=>exact⟨_,rfl,_,by rw[←e4.d],e4.t⟩
theorem XE.lcx {own:List Nat} {it:Itx} {i:Nat} {cnd:Tes} {m1:RE (List α)} {o t0:Bool} {mc:α→RE Bool} {mf:α→RE β} (ρ₂:Sl→List Sl) (hi:XI Γ it ρ m1 en t1 o) (ht:t0=true→t1=true∨Flat en) (hset:∀q,(wipeS ρ own).set i q=ρ₂ q)
  (hc:∀x q,SlV t0 (en x) q→XTs Γ true cnd (ρ₂ q) (mc x)) (hf:∀x q,SlV t0 (en x) q→mc x=.ok true→XE Γ e (ρ₂ q) (mf x) en2 s t) (hs:s.nb=true) :
  XE Γ (.lcx own it [i] cnd e) ρ (m1.bind fun xs=>gd (leB xs.length) (qgb mc mf xs)) (eL en2) .f t:=by
 unfold XE;rw[ev]
 refine XR.bind hi fun xs w hw=>?_
 obtain⟨w1,w2,_⟩:=hw
 rw[w1,List.length_map]
 cases hl:leB xs.length with
 |false=>trivial
 |true =>
  simp only[qiE]
  have e:qgb mc mf xs=(qgb mc mf xs).bind fun k=>.ok k:=by cases qgb mc mf xs<;>rfl
  rw[e]
  refine XR.bind (qqm (t:=t) (en2:=en2) fun x _=>?_) fun ys r hr=>qoR (by rw[hr.1];rfl) hr.2
  simp only[qdq,hset]
  have hq:SlV t0 (en x) (.val (en x) (w.b||(en x).flat)):=⟨_,rfl,fun z=>by
   rcases ht z with q | q
   ·simp[w2 q]
   ·rw[q.flat];simp⟩
  exact qp9 (hc x _ hq) (hf x _ hq) hs
end
end Cm
namespace Cm
open PySem PySem.Spec PyProof.Rows L2
def qxn {α:Type}:List α→RE (α × α × α)
 |[a,b,c]=>.ok (a,b,c)
 |_=>.bad
end Cm
namespace Cm
def qa2:List (List Nat):=[[99,108,117,101],[111,110,108,121],[112,108,97,99,101],[99,111,117,110,116],[115,116,101,112],[115,117,109],[115,113,117,97,114,101],[114,101,97,99,104],[116,117,114,110],[112,97,105,114],[119,97,121,115]]
def qhg:DTb:=[([111,110,108,121],some [[117,110,108,105,107,101]]),([112,108,97,99,101],some [[117,110,108,105,107,101]]),([99,111,117,110,116],some [[99,111,117,110,116]]),([115,116,101,112],some [[114,105,115,105,110,103]]),([115,117,109],some [[115,117,109]]),([115,113,117,97,114,101],some [[110,111,115,113,117,97,114,101]]),([114,101,97,99,104],some [[106,111,105,110,101,100],[114,105,110,103]]),([116,117,114,110],some [[114,105,110,103]]),([112,97,105,114],some [[117,110,108,105,107,101]]),([99,108,117,101],none),([119,97,121,115],none)]
def F.are_numbers (aF:List D):RE Bool:=
 (((RE.ok aF).bind fun x3=>gd (leB x3.length) (lcE (fun(az:D)=>(((tyE (eD az) .int).bind fun x1=>RE.ok (!x1)).bind fun k2=>if k2=true then RE.ok true else (tyE (eD az) .bool))) (fun(az:D)=>(RE.ok az)) x3)).bind fun x4=>RE.ok (List.length x4:Int)).bind fun x5=>RE.ok (decide (x5=0))
def F.floor_of (aQ:Int) (aV:Int) (a9:Int):RE (Int × Int × Int):=
 ((RE.ok (!(decide (1≤aQ)&&decide (aQ≤6)))).bind fun k4=>if k4=true then RE.ok true else ((RE.ok (!(decide (1≤aV)&&decide (aV≤6)))).bind fun k3=>if k3=true then RE.ok true else ((qka aQ aV).bind fun x1=>RE.ok (decide (16<x1))))).bind fun k5=>if k5=true then (RE.exc 31 []) else ((RE.ok (!(decide (1≤a9)&&decide (a9≤6)))).bind fun k6=>if k6=true then (RE.exc 31 []) else (RE.ok (aQ,aV,a9)))
def F.many_cells (af:Int × Int × Int):RE Int:=
 qka af.1 af.2.1
def F.spot_of (af:Int × Int × Int) (ac:Int):RE (Int × Int):=
 (qrG ac af.2.1).bind fun x1=>(qkV ac af.2.1).bind fun x2=>RE.ok (x1,x2)
def F.beside (af:Int × Int × Int) (ac:Int):RE (List Int):=
 (RE.ok af).bind fun p1=>(F.spot_of af ac).bind fun p2=>(RE.ok ([]:List Int)).bind fun al=>((RE.ok (decide (0<p2.1))).bind fun k3=>if k3=true then ((qfA al (ac - p1.2.1)).bind fun al=>RE.ok al) else (RE.ok al)).bind fun(p4:List Int)=>((RE.ok (decide (0<p2.2))).bind fun k5=>if k5=true then ((qfA p4 (ac - 1)).bind fun al=>RE.ok al) else (RE.ok p4)).bind fun(p6:List Int)=>((RE.ok (decide (p2.2<(p1.2.1 - 1)))).bind fun k7=>if k7=true then ((qfA p6 (ac+1)).bind fun al=>RE.ok al) else (RE.ok p6)).bind fun(p8:List Int)=>((RE.ok (decide (p2.1<(p1.1 - 1)))).bind fun k9=>if k9=true then ((qfA p8 (ac+p1.2.1)).bind fun al=>RE.ok al) else (RE.ok p8)).bind fun(p10:List Int)=>RE.ok p10
def F.squares (af:Int × Int × Int):RE (List (List Int)):=
 (RE.ok af).bind fun p1=>(RE.ok ([]:List (List Int))).bind fun al=>(((F.many_cells af).bind qbC).bind fun y10=>qaC (fun(ac:Int) (s5:List (List Int))=>(F.spot_of af ac).bind fun p6=>((RE.ok ((decide (p6.1<(p1.1 - 1)))&&(decide (p6.2<(p1.2.1 - 1))))).bind fun k7=>if k7=true then ((qfA s5 ([ac,ac+1,ac+p1.2.1,(ac+p1.2.1)+1])).bind fun al=>RE.ok al) else (RE.ok s5)).bind fun(p8:List (List Int))=>RE.ok p8) y10 al).bind fun(p9:List (List Int))=>RE.ok p9
def F.reached (af:Int × Int × Int) (am:List Int) (bJ:Int):RE (List Int):=
 (RE.ok (!decide (bJ∈am))).bind fun k1=>if k1=true then (RE.ok []) else ((RE.ok ([bJ]:List Int)).bind fun al=>(RE.ok (0:Int)).bind fun aN=>(qtU (fun(s10:(List Int) × Int)=>(RE.ok (decide (s10.2<(List.length s10.1:Int))))) (fun(s10:(List Int) × Int)=>(((RE.ok af).bind fun x11=>(atE s10.1 s10.2).bind fun x12=>F.beside x11 x12).bind fun y18=>qaC (fun(ac:Int) (s14:List Int)=>((RE.ok ((decide (ac∈am))&&(!decide (ac∈s14)))).bind fun k15=>if k15=true then ((qfA s14 ac).bind fun al=>RE.ok al) else (RE.ok s14)).bind fun(p16:List Int)=>RE.ok p16) y18 s10.1).bind fun(p17:List Int)=>(RE.ok (s10.2+1:Int)).bind fun aN=>RE.ok (p17,aN)) qtH (al,aN)).bind fun(p19:(List Int) × Int)=>RE.ok (qe5 p19.1))
def F.bit (ai:Int):RE Int:=
 quS 1 (ai - 1)
def F.stands (aX:Int) (ai:Int):RE Bool:=
 ((F.bit ai).bind fun x2=>RE.ok (PySem.Builtin.bitAnd aX x2)).bind fun x3=>RE.ok (!decide (x3=0))
def F.has_only (aX:Int) (ai:Int):RE Bool:=
 ((F.bit ai).bind fun x2=>RE.ok (PySem.Builtin.bitOr aX x2)).bind fun x3=>(F.bit ai).bind fun x4=>RE.ok (decide (x3=x4))
def F.signs_in (aX:Int):RE (List Int):=
 (qkD 1 ((PySem.Builtin.Int.intBits aX:Int)+1)).bind fun x1=>gd (leB x1.length) (lcE (fun(ai:Int)=>(F.stands aX ai)) (fun(ai:Int)=>(RE.ok ai)) x1)
def F.Clue_word (ab:KK):RE (List Nat):=
 RE.ok ([99,108,117,101])
def F.Clue_fits (ab:KK) (ae:PuzT) (ak:Option RuleT) (ah:List Nat × Int × Int × Int × (List Int)):RE Bool:=
 RE.ok ((decide (ah.2.1=0))&&(decide (ah.2.2.2.2=[])))
def F.Only_word (ab:KK):RE (List Nat):=
 RE.ok ([111,110,108,121])
def F.Only_strikes (ab:KK) (ae:PuzT) (aj:List Int) (ak:Option RuleT) (ah:List Nat × Int × Int × Int × (List Int)):RE Bool:=
 ((RE.ok aj).bind fun x1=>(atE ah.2.2.2.2 0).bind fun x2=>atE x1 x2).bind fun x3=>(RE.ok ah.2.2.2.1).bind fun x4=>F.has_only x3 x4
def F.Place_word (ab:KK):RE (List Nat):=
 RE.ok ([112,108,97,99,101])
def F.Pair_word (ab:KK):RE (List Nat):=
 RE.ok ([112,97,105,114])
def F.Pair_strikes (ab:KK) (ae:PuzT) (aj:List Int) (ak:Option RuleT) (ah:List Nat × Int × Int × Int × (List Int)):RE Bool:=
 ((((RE.ok aj).bind fun x1=>(atE ah.2.2.2.2 0).bind fun x2=>atE x1 x2).bind fun x5=>((RE.ok aj).bind fun x3=>(atE ah.2.2.2.2 1).bind fun x4=>atE x3 x4).bind fun x6=>RE.ok (PySem.Builtin.bitOr x5 x6)).bind fun x7=>F.signs_in x7).bind fun a9=>(((RE.ok a9).bind fun x8=>gd (leB x8.length) (RE.ok (List.filter (fun(ai:Int)=>!decide (ai=ah.2.2.2.1)) x8))).bind fun x9=>RE.ok (List.length x9:Int)).bind fun x10=>RE.ok (decide (x10≤1))
def F.Count_word (ab:KK):RE (List Nat):=
 RE.ok ([99,111,117,110,116])
def F.Step_word (ab:KK):RE (List Nat):=
 RE.ok ([115,116,101,112])
def F.Sums_word (ab:KK):RE (List Nat):=
 RE.ok ([115,117,109])
def F.Ways_word (ab:KK):RE (List Nat):=
 RE.ok ([119,97,121,115])
def F.may_have (aj:List Int) (ai:Int):RE (List Int):=
 (qbC (List.length aj:Int)).bind fun x3=>gd (leB x3.length) (lcE (fun(ac:Int)=>((atE aj ac).bind fun x1=>(RE.ok ai).bind fun x2=>F.stands x1 x2)) (fun(ac:Int)=>(RE.ok ac)) x3)
def F.Square_word (ab:KK):RE (List Nat):=
 RE.ok ([115,113,117,97,114,101])
def F.Reach_word (ab:KK):RE (List Nat):=
 RE.ok ([114,101,97,99,104])
def F.Turn_word (ab:KK):RE (List Nat):=
 RE.ok ([116,117,114,110])
def F.all_kinds  : RE (List KK):=
 (RE.ok ([KK.clue,KK.only,KK.place]:List KK)).bind fun aH=>qeE aH ([KK.count,KK.step,KK.sums,KK.square,KK.reach,KK.turn,KK.pair,KK.ways])
def F.m_word (r:KK)  : RE (List Nat):=match r with
 |.clue=>F.Clue_word r
 |.only=>F.Only_word r
 |.place=>F.Place_word r
 |.pair=>F.Pair_word r
 |.count=>F.Count_word r
 |.step=>F.Step_word r
 |.sums=>F.Sums_word r
 |.ways=>F.Ways_word r
 |.square=>F.Square_word r
 |.reach=>F.Reach_word r
 |.turn=>F.Turn_word r
def F.kind_of (aA:List Nat):RE (Option KK):=
 Fl.bR (F.all_kinds.bind fun y10=>qcm (fun(aL:KK) (s4:Unit)=>(((F.m_word aL).bind fun x5=>RE.ok (decide (x5=aA))).bind fun k7=>if k7=true then (RE.ok (.rt (some aL))) else (RE.ok (.nx ())):RE (Fl (Option KK) (Unit)))) y10 ()) fun(p9:Unit)=>RE.ok (none:Option KK)
def F.is_filling (af:Int × Int × Int) (a7:List Int):RE Bool:=
 ((F.many_cells af).bind fun x2=>RE.ok (!decide ((List.length a7:Int)=x2))).bind fun k3=>if k3=true then (RE.ok false) else (((RE.ok a7).bind fun x4=>gd (leB x4.length) (RE.ok (List.map (fun(ai:Int)=>(decide (0≤ai)&&decide (ai≤af.2.2))) x4))).bind fun x5=>RE.ok (List.all x5 id))
def F.Rule_spots (ab:RuleT):RE (List Int):=
 RE.ok ab.cells
def F.Rule_number (ab:RuleT):RE Int:=
 RE.ok ab.wanted
def F.Rule_sign (ab:RuleT):RE Int:=
 RE.ok ab.sign
def F.Rule_told_numbers (ab:RuleT):RE (List Int):=
 RE.ok ab.cells
def F.Unlike_name (ab:RuleT):RE (List Nat):=
 RE.ok ([117,110,108,105,107,101])
def F.Unlike_holds (ab:RuleT) (a7:List Int):RE Bool:=
 (((RE.ok ab.cells).bind fun x1=>gd (leB x1.length) (lcE (fun(ac:Int)=>(RE.ok true)) (fun(ac:Int)=>(atE a7 ac)) x1)).bind qj2).bind fun x2=>RE.ok (decide (x2=(List.length ab.cells:Int)))
def F.Total_name (ab:RuleT):RE (List Nat):=
 RE.ok ([115,117,109])
def F.Total_holds (ab:RuleT) (a7:List Int):RE Bool:=
 (((RE.ok ab.cells).bind fun x1=>gd (leB x1.length) (lcE (fun(ac:Int)=>(RE.ok true)) (fun(ac:Int)=>(atE a7 ac)) x1)).bind fun x2=>RE.ok (List.sum x2)).bind fun x3=>RE.ok (decide (x3=ab.wanted))
def F.Total_told_numbers (ab:RuleT):RE (List Int):=
 qeE [ab.wanted] ab.cells
def F.Rising_name (ab:RuleT):RE (List Nat):=
 RE.ok ([114,105,115,105,110,103])
def F.Rising_holds (ab:RuleT) (a7:List Int):RE Bool:=
 Fl.bR ((RE.ok (List.zip ab.cells (qcR ab.cells (some 1) none))).bind fun y11=>qcm (fun(p5:Int × Int) (s4:Unit)=>(((atE a7 p5.1).bind fun x6=>(atE a7 p5.2).bind fun x7=>RE.ok (decide (x7≤x6))).bind fun k8=>if k8=true then (RE.ok (.rt false)) else (RE.ok (.nx ())):RE (Fl (Bool) (Unit)))) y11 ()) fun(p10:Unit)=>RE.ok true
def F.Seen_name (ab:RuleT):RE (List Nat):=
 RE.ok ([115,101,101,110])
def F.Seen_holds (ab:RuleT) (a7:List Int):RE Bool:=
 (RE.ok (0:Int)).bind fun aB=>(RE.ok (0:Int)).bind fun bB=>((RE.ok ab.cells).bind fun y10=>qaC (fun(ac:Int) (s4:Int × Int)=>(((atE a7 ac).bind fun x5=>RE.ok (decide (s4.2<x5))).bind fun k7=>if k7=true then ((RE.ok (s4.1+1:Int)).bind fun aB=>(atE a7 ac).bind fun bB=>RE.ok (aB,bB)) else (RE.ok (s4.1,s4.2))).bind fun(p8:Int × Int)=>RE.ok (p8.1,p8.2)) y10 (aB,bB)).bind fun(p9:Int × Int)=>RE.ok (decide (p9.1=ab.wanted))
def F.Seen_told_numbers (ab:RuleT):RE (List Int):=
 qeE [ab.wanted] ab.cells
def F.Counted_name (ab:RuleT):RE (List Nat):=
 RE.ok ([99,111,117,110,116])
def F.Counted_holds (ab:RuleT) (a7:List Int):RE Bool:=
 (((RE.ok ab.cells).bind fun x3=>gd (leB x3.length) (lcE (fun(ac:Int)=>((atE a7 ac).bind fun x1=>RE.ok (decide (x1=ab.sign)))) (fun(ac:Int)=>(RE.ok ac)) x3)).bind fun x4=>RE.ok (List.length x4:Int)).bind fun x5=>RE.ok (decide (x5=ab.wanted))
def F.Counted_told_numbers (ab:RuleT):RE (List Int):=
 qeE ([ab.wanted,ab.sign]) ab.cells
def F.cells_with (ak:RuleT) (a7:List Int):RE (List Int):=
 (F.Rule_spots ak).bind fun x3=>gd (leB x3.length) (lcE (fun(ac:Int)=>((atE a7 ac).bind fun x1=>(F.Rule_sign ak).bind fun x2=>RE.ok (decide (x1=x2)))) (fun(ac:Int)=>(RE.ok ac)) x3)
def F.are_joined (af:Int × Int × Int) (am:List Int):RE Bool:=
 (RE.ok (decide (am=[]))).bind fun k7=>if k7=true then RE.ok true else ((((RE.ok af).bind fun x1=>(RE.ok am).bind fun x2=>(atE am 0).bind fun x3=>F.reached x1 x2 x3).bind fun x4=>RE.ok (List.length x4:Int)).bind fun x5=>RE.ok (decide (x5=(List.length am:Int))))
def F.Joined_name (ab:RuleT):RE (List Nat):=
 RE.ok ([106,111,105,110,101,100])
def F.Joined_holds (ab:RuleT) (a7:List Int):RE Bool:=
 (RE.ok ab.ground).bind fun x1=>(F.cells_with ab a7).bind fun x2=>F.are_joined x1 x2
def F.Joined_told_numbers (ab:RuleT):RE (List Int):=
 RE.ok [ab.sign]
def F.NoSquare_name (ab:RuleT):RE (List Nat):=
 RE.ok ([110,111,115,113,117,97,114,101])
def F.NoSquare_holds (ab:RuleT) (a7:List Int):RE Bool:=
 Fl.bR ((F.squares ab.ground).bind fun y18=>qcm (fun(bh:List Int) (s8:Unit)=>(((((RE.ok bh).bind fun x11=>gd (leB x11.length) (lcE (fun(ac:Int)=>((atE a7 ac).bind fun x9=>RE.ok (decide (x9=ab.sign)))) (fun(ac:Int)=>(RE.ok ac)) x11)).bind fun x12=>RE.ok (List.length x12:Int)).bind fun x13=>RE.ok (decide (x13=4))).bind fun k15=>if k15=true then (RE.ok (.rt false)) else (RE.ok (.nx ())):RE (Fl (Bool) (Unit)))) y18 ()) fun(p17:Unit)=>RE.ok true
def F.NoSquare_told_numbers (ab:RuleT):RE (List Int):=
 RE.ok [ab.sign]
def F.Ring_name (ab:RuleT):RE (List Nat):=
 RE.ok ([114,105,110,103])
def F.Ring_holds (ab:RuleT) (a7:List Int):RE Bool:=
 (F.cells_with ab a7).bind fun al=>Fl.bR ((RE.ok al).bind fun y14=>qcm (fun(ac:Int) (s6:Unit)=>(((((F.beside ab.ground ac).bind fun x7=>gd (leB x7.length) (RE.ok (List.filter (fun(aD:Int)=>decide (aD∈al)) x7))).bind fun x8=>RE.ok (List.length x8:Int)).bind fun x9=>RE.ok (!decide (x9=2))).bind fun k11=>if k11=true then (RE.ok (.rt false)) else (RE.ok (.nx ())):RE (Fl (Bool) (Unit)))) y14 ()) fun(p13:Unit)=>F.are_joined ab.ground al
def F.Ring_told_numbers (ab:RuleT):RE (List Int):=
 RE.ok [ab.sign]
def F.number_of (aA:List Nat):RE Int:=
 ((((RE.ok 1).bind fun x1=>(qqV aA).bind fun x2=>if decide (x1≤x2)=true then (RE.ok 2).bind fun x3=>RE.ok (decide (x2≤x3)) else RE.ok false).bind fun x4=>RE.ok (!x4)).bind fun k10=>if k10=true then RE.ok true else (((quI aA 0).bind fun x5=>RE.ok (decide ([x5]=[48]))).bind fun k9=>if k9=true then ((qqV aA).bind fun x7=>RE.ok (decide (1<x7))) else RE.ok false)).bind fun k11=>if k11=true then (RE.exc 33 []) else (((RE.ok aA).bind fun y16=>qaC (fun(ai:Nat) (s13:Unit)=>(RE.ok (!decide (ai∈([48,49,50,51,52,53,54,55,56,57])))).bind fun k14=>if k14=true then RE.exc 33 [] else (RE.ok ())) y16 ()).bind fun(p15:Unit)=>qno aA)
def F.sign_told (af:Int × Int × Int) (au:List Int) (aN:Int):RE Int:=
 ((RE.ok (decide ((List.length au:Int)≤aN))).bind fun k5=>if k5=true then RE.ok true else (((RE.ok 1).bind fun x1=>(atE au aN).bind fun x2=>if decide (x1≤x2)=true then (RE.ok af.2.2).bind fun x3=>RE.ok (decide (x2≤x3)) else RE.ok false).bind fun x4=>RE.ok (!x4))).bind fun k6=>if k6=true then (RE.exc 33 []) else (atE au aN)
def F.cells_told (af:Int × Int × Int) (au:List Int):RE (List Int):=
 ((RE.ok (decide (au=[]))).bind fun k6=>if k6=true then RE.ok true else (((qj2 au).bind fun x1=>RE.ok (!decide (x1=(List.length au:Int)))).bind fun k5=>if k5=true then RE.ok true else ((qrT au).bind fun x3=>(F.many_cells af).bind fun x4=>RE.ok (decide (x4≤x3))))).bind fun k7=>if k7=true then (RE.exc 33 []) else (RE.ok au)
def F.whole_rule (af:Int × Int × Int) (aA:List Nat) (au:List Int):RE RuleT:=
 (RE.ok (!decide ((List.length au:Int)=1))).bind fun k1=>if k1=true then (RE.exc 33 []) else ((F.sign_told af au 0).bind fun ai=>((F.many_cells af).bind qbC).bind fun am=>(RE.ok (decide (aA=([106,111,105,110,101,100])))).bind fun k3=>if k3=true then (RE.ok (RuleT.mk .joined af am 0 ai)) else ((RE.ok (decide (aA=([110,111,115,113,117,97,114,101])))).bind fun k4=>if k4=true then (RE.ok (RuleT.mk .nosquare af am 0 ai)) else (RE.ok (RuleT.mk .ring af am 0 ai))))
def F.read_rule (af:Int × Int × Int) (aR:D):RE RuleT:=
 ((tyE (eD aR) .str).bind fun x1=>RE.ok (!x1)).bind fun k2=>if k2=true then (RE.exc 33 []) else (((dS aR).bind fun x3=>(RE.ok [32]).bind fun x4=>qgd x3 x4).bind fun aK=>(atE aK 0).bind fun aA=>(qmu aA ([[117,110,108,105,107,101],[115,117,109],[114,105,115,105,110,103],[115,101,101,110],[99,111,117,110,116],[106,111,105,110,101,100],[110,111,115,113,117,97,114,101],[114,105,110,103]])).bind fun k5=>if k5=true then (RE.exc 33 []) else (((RE.ok (qcR aK (some 1) none)).bind fun x6=>gd (leB x6.length) (lcE (fun(az:List Nat)=>(RE.ok true)) (fun(az:List Nat)=>(F.number_of az)) x6)).bind fun au=>(qoW aA ([[106,111,105,110,101,100],[110,111,115,113,117,97,114,101],[114,105,110,103]])).bind fun k7=>if k7=true then (F.whole_rule af aA au) else ((RE.ok (decide (aA=([117,110,108,105,107,101])))).bind fun k8=>if k8=true then ((RE.ok af).bind fun x9=>(F.cells_told af au).bind fun x10=>(RE.ok 0).bind fun x11=>(RE.ok 0).bind fun x12=>RE.ok (RuleT.mk .unlike x9 x10 x11 x12)) else ((RE.ok (decide (aA=([114,105,115,105,110,103])))).bind fun k13=>if k13=true then ((RE.ok af).bind fun x14=>(F.cells_told af au).bind fun x15=>(RE.ok 0).bind fun x16=>(RE.ok 0).bind fun x17=>RE.ok (RuleT.mk .rising x14 x15 x16 x17)) else ((RE.ok (decide (aA=([99,111,117,110,116])))).bind fun k18=>if k18=true then ((F.sign_told af au 1).bind fun ai=>(RE.ok af).bind fun x19=>(F.cells_told af (qcR au (some 2) none)).bind fun x20=>(atE au 0).bind fun x21=>(RE.ok ai).bind fun x22=>RE.ok (RuleT.mk .counted x19 x20 x21 x22)) else ((F.cells_told af (qcR au (some 1) none)).bind fun am=>(RE.ok (decide (aA=([115,117,109])))).bind fun k23=>if k23=true then ((RE.ok af).bind fun x24=>(RE.ok am).bind fun x25=>(atE au 0).bind fun x26=>(RE.ok 0).bind fun x27=>RE.ok (RuleT.mk .total x24 x25 x26 x27)) else ((RE.ok af).bind fun x28=>(RE.ok am).bind fun x29=>(atE au 0).bind fun x30=>(RE.ok 0).bind fun x31=>RE.ok (RuleT.mk .seen x28 x29 x30 x31))))))))
def F.Puzzle_place (ab:PuzT):RE (Int × Int × Int):=
 RE.ok ab.ground
def F.Puzzle_many (ab:PuzT):RE Int:=
 F.many_cells ab.ground
def F.Puzzle_clues (ab:PuzT):RE (List Int):=
 RE.ok ab.clues
def F.Puzzle_rules (ab:PuzT):RE (List RuleT):=
 RE.ok ab.rules
def F.Puzzle_rule_at (ab:PuzT) (aE:Int):RE RuleT:=
 atE ab.rules aE
def F.Puzzle_many_rules (ab:PuzT):RE Int:=
 RE.ok (List.length ab.rules:Int)
def F.Puzzle_clue_at (ab:PuzT) (ac:Int):RE Int:=
 atE ab.clues ac
def F.m_holds (r:RuleT) (a0:List Int):RE Bool:=match r.k with
 |.unlike=>F.Unlike_holds r a0
 |.total=>F.Total_holds r a0
 |.rising=>F.Rising_holds r a0
 |.seen=>F.Seen_holds r a0
 |.counted=>F.Counted_holds r a0
 |.joined=>F.Joined_holds r a0
 |.nosquare=>F.NoSquare_holds r a0
 |.ring=>F.Ring_holds r a0
def F.Puzzle_meets (ab:PuzT) (a7:List Int):RE Bool:=
 (((F.is_filling ab.ground a7).bind fun x1=>RE.ok (!x1)).bind fun k2=>if k2=true then RE.ok true else (RE.ok (decide (0∈a7)))).bind fun k3=>if k3=true then (RE.ok false) else (Fl.bR ((RE.ok (List.zip ab.clues a7)).bind fun y12=>qcm (fun(p6:Int × Int) (s5:Unit)=>((RE.ok ((!decide (p6.1=0))&&(!decide (p6.1=p6.2)))).bind fun k7=>if k7=true then (RE.ok (.rt false)) else (RE.ok (.nx ())):RE (Fl (Bool) (Unit)))) y12 ()) fun(p9:Unit)=>((RE.ok ab.rules).bind fun x10=>gd (leB x10.length) (lcE (fun(ak:RuleT)=>(RE.ok true)) (fun(ak:RuleT)=>(F.m_holds ak a7)) x10)).bind fun x11=>RE.ok (List.all x11 id))
def F.Puzzle_new (af:Int × Int × Int) (aH:List D) (av:List Int):RE PuzT:=
 (RE.ok (!decide (3=3))).bind fun k1=>if k1=true then RE.exc 31 [] else ((F.floor_of af.1 af.2.1 af.2.2).bind fun w_ground=>(RE.ok (decide (12<(List.length aH:Int)))).bind fun k2=>if k2=true then RE.exc 34 [] else (((RE.ok aH).bind fun x3=>gd (leB x3.length) (lcE (fun(aR:D)=>(RE.ok true)) (fun(aR:D)=>(F.read_rule w_ground aR)) x3)).bind fun w_rule_list=>((F.is_filling w_ground av).bind fun x4=>RE.ok (!x4)).bind fun k5=>if k5=true then RE.exc 34 [] else ((RE.ok av).bind fun w_clue_list=>RE.ok (PuzT.mk w_ground w_rule_list w_clue_list))))
def F.others_of (ak:RuleT) (ac:Int):RE (List Int):=
 (F.Rule_spots ak).bind fun x1=>gd (leB x1.length) (RE.ok (List.filter (fun(aD:Int)=>!decide (aD=ac)) x1))
def F.are_others (ak:RuleT) (ac:Int) (aF:List Int):RE Bool:=
 (F.others_of ak ac).bind fun aM=>((((RE.ok aF).bind fun x1=>gd (leB x1.length) (RE.ok (List.filter (fun(aD:Int)=>!decide (aD∈aM)) x1))).bind fun x2=>RE.ok (List.length x2:Int)).bind fun x3=>RE.ok (decide (x3=0))).bind fun k7=>if k7=true then ((qj2 aF).bind fun x5=>RE.ok (decide (x5=(List.length aF:Int)))) else RE.ok false
def F.Clue_strikes (ab:KK) (ae:PuzT) (aj:List Int) (ak:Option RuleT) (ah:List Nat × Int × Int × Int × (List Int)):RE Bool:=
 (F.Puzzle_clue_at ae ah.2.2.1).bind fun bA=>RE.ok ((!decide (bA=0))&&(!decide (bA=ah.2.2.2.1)))
def F.m_name (r:RuleT)  : RE (List Nat):=match r.k with
 |.unlike=>F.Unlike_name r
 |.total=>F.Total_name r
 |.rising=>F.Rising_name r
 |.seen=>F.Seen_name r
 |.counted=>F.Counted_name r
 |.joined=>F.Joined_name r
 |.nosquare=>F.NoSquare_name r
 |.ring=>F.Ring_name r
def F.is_unlike (ak:Option RuleT) (ac:Int):RE Bool:=
 (RE.ok ak.isSome).bind fun k8=>if k8=true then ((((unO ak).bind fun x1=>F.m_name x1).bind fun x2=>RE.ok (decide (x2=([117,110,108,105,107,101])))).bind fun k7=>if k7=true then (((unO ak).bind fun x4=>F.Rule_spots x4).bind fun x6=>RE.ok (decide (ac∈x6))) else RE.ok false) else RE.ok false
def F.Only_fits (ab:KK) (ae:PuzT) (ak:Option RuleT) (ah:List Nat × Int × Int × Int × (List Int)):RE Bool:=
 (RE.ok (ah.2.2.2.2:List Int)).bind fun aO=>(F.is_unlike ak ah.2.2.1).bind fun k5=>if k5=true then ((RE.ok (decide ((List.length aO:Int)=1))).bind fun k4=>if k4=true then ((unO ak).bind fun x1=>(RE.ok ah.2.2.1).bind fun x2=>(RE.ok aO).bind fun x3=>F.are_others x1 x2 x3) else RE.ok false) else RE.ok false
def F.Place_fits (ab:KK) (ae:PuzT) (ak:Option RuleT) (ah:List Nat × Int × Int × Int × (List Int)):RE Bool:=
 (RE.ok (ah.2.2.2.2:List Int)).bind fun aO=>((F.Puzzle_place ae).bind fun x1=>RE.ok x1.2.2).bind fun a9=>(((F.is_unlike ak ah.2.2.1).bind fun x2=>RE.ok (!x2)).bind fun k8=>if k8=true then RE.ok true else (((((unO ak).bind fun x3=>F.Rule_spots x3).bind fun x4=>RE.ok (List.length x4:Int)).bind fun x5=>RE.ok (!decide (x5=a9))).bind fun k7=>if k7=true then RE.ok true else (RE.ok (!decide ((List.length aO:Int)=1))))).bind fun k9=>if k9=true then (RE.ok false) else (((RE.ok 1).bind fun x10=>(atE aO 0).bind fun x11=>if decide (x10≤x11)=true then (RE.ok a9).bind fun x12=>RE.ok (decide (x11≤x12)) else RE.ok false).bind fun k15=>if k15=true then ((atE aO 0).bind fun x13=>RE.ok (!decide (x13=ah.2.2.2.1))) else RE.ok false)
def F.Place_strikes (ab:KK) (ae:PuzT) (aj:List Int) (ak:Option RuleT) (ah:List Nat × Int × Int × Int × (List Int)):RE Bool:=
 Fl.bR (((unO ak).bind fun x1=>(RE.ok ah.2.2.1).bind fun x2=>F.others_of x1 x2).bind fun y12=>qcm (fun(aD:Int) (s6:Unit)=>(((atE aj aD).bind fun x7=>(atE ah.2.2.2.2 0).bind fun x8=>F.stands x7 x8).bind fun k9=>if k9=true then (RE.ok (.rt false)) else (RE.ok (.nx ())):RE (Fl (Bool) (Unit)))) y12 ()) fun(p11:Unit)=>RE.ok true
def F.Pair_fits (ab:KK) (ae:PuzT) (ak:Option RuleT) (ah:List Nat × Int × Int × Int × (List Int)):RE Bool:=
 (RE.ok (ah.2.2.2.2:List Int)).bind fun aO=>(((F.is_unlike ak ah.2.2.1).bind fun x1=>RE.ok (!x1)).bind fun k7=>if k7=true then RE.ok true else ((RE.ok (!decide ((List.length aO:Int)=2))).bind fun k6=>if k6=true then RE.ok true else (((unO ak).bind fun x2=>(RE.ok ah.2.2.1).bind fun x3=>(RE.ok aO).bind fun x4=>F.are_others x2 x3 x4).bind fun x5=>RE.ok (!x5)))).bind fun k8=>if k8=true then (RE.ok false) else (((unO ak).bind fun x9=>F.Rule_spots x9).bind fun bn=>((RE.ok bn).bind fun x10=>(atE aO 0).bind fun x11=>qsk x10 x11).bind fun x14=>((RE.ok bn).bind fun x12=>(atE aO 1).bind fun x13=>qsk x12 x13).bind fun x15=>RE.ok (decide (x14<x15)))
def F.is_of (ak:Option RuleT) (aA:List Nat) (ac:Int):RE Bool:=
 (RE.ok ak.isSome).bind fun k8=>if k8=true then ((((unO ak).bind fun x1=>F.m_name x1).bind fun x2=>RE.ok (decide (x2=aA))).bind fun k7=>if k7=true then (((unO ak).bind fun x4=>F.Rule_spots x4).bind fun x6=>RE.ok (decide (ac∈x6))) else RE.ok false) else RE.ok false
def F.Count_fits (ab:KK) (ae:PuzT) (ak:Option RuleT) (ah:List Nat × Int × Int × Int × (List Int)):RE Bool:=
 (RE.ok (decide (ah.2.2.2.2=[]))).bind fun k1=>if k1=true then (F.is_of ak ([99,111,117,110,116]) ah.2.2.1) else RE.ok false
def F.Count_strikes (ab:KK) (ae:PuzT) (aj:List Int) (ak:Option RuleT) (ah:List Nat × Int × Int × Int × (List Int)):RE Bool:=
 ((unO ak).bind fun x1=>F.Rule_sign x1).bind fun ai=>((unO ak).bind fun x2=>(RE.ok ah.2.2.1).bind fun x3=>F.others_of x2 x3).bind fun aM=>(RE.ok (decide (ah.2.2.2.1=ai))).bind fun k4=>if k4=true then ((((RE.ok aM).bind fun x7=>gd (leB x7.length) (lcE (fun(aD:Int)=>((atE aj aD).bind fun x5=>(RE.ok ai).bind fun x6=>F.has_only x5 x6)) (fun(aD:Int)=>(RE.ok aD)) x7)).bind fun x8=>RE.ok (List.length x8:Int)).bind fun x10=>((unO ak).bind fun x9=>F.Rule_number x9).bind fun x11=>RE.ok (decide (x11≤x10))) else ((((RE.ok aM).bind fun x14=>gd (leB x14.length) (lcE (fun(aD:Int)=>((atE aj aD).bind fun x12=>(RE.ok ai).bind fun x13=>F.stands x12 x13)) (fun(aD:Int)=>(RE.ok aD)) x14)).bind fun x15=>RE.ok (List.length x15:Int)).bind fun x17=>((unO ak).bind fun x16=>F.Rule_number x16).bind fun x18=>RE.ok (decide (x17<x18)))
def F.neighbours_of (ak:RuleT) (ac:Int):RE ((Option Int) × (Option Int)):=
 (F.Rule_spots ak).bind fun bn=>(qsk bn ac).bind fun aN=>(RE.ok (():Unit)).bind fun bK=>(RE.ok (():Unit)).bind fun bL=>((RE.ok (decide (0<aN))).bind fun k1=>if k1=true then ((atE bn (aN - 1)).bind fun bK=>RE.ok (some bK)) else (RE.ok (none:Option Int))).bind fun(p2:Option Int)=>((RE.ok (decide ((aN+1)<(List.length bn:Int)))).bind fun k3=>if k3=true then ((atE bn (aN+1)).bind fun bL=>RE.ok (some bL)) else (RE.ok (none:Option Int))).bind fun(p4:Option Int)=>RE.ok (p2,p4)
def F.Step_fits (ab:KK) (ae:PuzT) (ak:Option RuleT) (ah:List Nat × Int × Int × Int × (List Int)):RE Bool:=
 (RE.ok (decide (ah.2.2.2.2=[]))).bind fun k1=>if k1=true then (F.is_of ak ([114,105,115,105,110,103]) ah.2.2.1) else RE.ok false
def F.Step_strikes (ab:KK) (ae:PuzT) (aj:List Int) (ak:Option RuleT) (ah:List Nat × Int × Int × Int × (List Int)):RE Bool:=
 ((unO ak).bind fun x1=>(RE.ok ah.2.2.1).bind fun x2=>F.neighbours_of x1 x2).bind fun p3=>((RE.ok p3.1.isSome).bind fun k11=>if k11=true then (((((RE.ok aj).bind fun x4=>(unO p3.1).bind fun x5=>atE x4 x5).bind fun x6=>F.signs_in x6).bind fun x7=>(RE.ok ah.2.2.2.1).bind fun x8=>mmE false x7 x8).bind fun x9=>RE.ok (decide (ah.2.2.2.1≤x9))) else RE.ok false).bind fun k12=>if k12=true then (RE.ok true) else ((RE.ok p3.2.isSome).bind fun k20=>if k20=true then (((((RE.ok aj).bind fun x13=>(unO p3.2).bind fun x14=>atE x13 x14).bind fun x15=>F.signs_in x15).bind fun x16=>(RE.ok ah.2.2.2.1).bind fun x17=>mmE true x16 x17).bind fun x18=>RE.ok (decide (x18≤ah.2.2.2.1))) else RE.ok false)
def F.Sums_fits (ab:KK) (ae:PuzT) (ak:Option RuleT) (ah:List Nat × Int × Int × Int × (List Int)):RE Bool:=
 (RE.ok (decide (ah.2.2.2.2=[]))).bind fun k1=>if k1=true then (F.is_of ak ([115,117,109]) ah.2.2.1) else RE.ok false
def F.Sums_strikes (ab:KK) (ae:PuzT) (aj:List Int) (ak:Option RuleT) (ah:List Nat × Int × Int × Int × (List Int)):RE Bool:=
 (RE.ok (ah.2.2.2.1:Int)).bind fun bf=>(RE.ok (ah.2.2.2.1:Int)).bind fun aQ=>Fl.bR (((unO ak).bind fun x1=>(RE.ok ah.2.2.1).bind fun x2=>F.others_of x1 x2).bind fun y25=>qcm (fun(aD:Int) (s9:Int × Int)=>(((atE aj aD).bind fun x10=>F.signs_in x10).bind fun a9=>(RE.ok (decide (a9=[]))).bind fun k11=>if k11=true then (RE.ok (.rt true)) else (((atE a9 0).bind fun x14=>RE.ok (s9.1+x14)).bind fun bf=>((atE a9 (-1)).bind fun x16=>RE.ok (s9.2+x16)).bind fun aQ=>RE.ok (.nx (bf,aQ))):RE (Fl (Bool) (Int × Int)))) y25 (bf,aQ)) fun(p17:Int × Int)=>(((unO ak).bind fun x18=>F.Rule_number x18).bind fun x20=>RE.ok (decide (x20<p17.1))).bind fun k24=>if k24=true then RE.ok true else (((unO ak).bind fun x21=>F.Rule_number x21).bind fun x23=>RE.ok (decide (p17.2<x23)))
def F.Ways_fits (ab:KK) (ae:PuzT) (ak:Option RuleT) (ah:List Nat × Int × Int × Int × (List Int)):RE Bool:=
 (RE.ok (decide (ah.2.2.2.2=[]))).bind fun k5=>if k5=true then ((RE.ok ak.isSome).bind fun k4=>if k4=true then (((unO ak).bind fun x1=>F.Rule_spots x1).bind fun x3=>RE.ok (decide (ah.2.2.1∈x3))) else RE.ok false) else RE.ok false
def F.Ways_strikes (ab:KK) (ae:PuzT) (aj:List Int) (ak:Option RuleT) (ah:List Nat × Int × Int × Int × (List Int)):RE Bool:=
 ((unO ak).bind fun x1=>(RE.ok ah.2.2.1).bind fun x2=>F.others_of x1 x2).bind fun aM=>((RE.ok aM).bind fun x4=>gd (leB x4.length) (lcE (fun(aD:Int)=>(RE.ok true)) (fun(aD:Int)=>((atE aj aD).bind fun x3=>F.signs_in x3)) x4)).bind fun bM=>(RE.ok (1:Int)).bind fun aB=>((RE.ok bM).bind fun y43=>qaC (fun(a9:List Int) (s5:Int)=>(qka s5 (List.length a9:Int)).bind fun aB=>RE.ok aB) y43 aB).bind fun(p6:Int)=>(RE.ok (decide (32<p6))).bind fun k7=>if k7=true then (RE.ok false) else (((qbC (List.length aj:Int)).bind fun x8=>gd (leB x8.length) (RE.ok (List.map (fun(ac:Int)=>0) x8))).bind fun a7=>(qqC a7 ah.2.2.1 ah.2.2.2.1).bind fun a7=>Fl.bR ((qbC p6).bind fun y42=>qcm (fun(aE:Int) (s24:List Int)=>(((RE.ok (List.zip aM bM)).bind fun y40=>qaC (fun(p30:Int × (List Int)) (s29:(List Int) × Int)=>(((RE.ok p30.2).bind fun x31=>(qkV s29.2 (List.length p30.2:Int)).bind fun x32=>atE x31 x32).bind fun x33=>(RE.ok p30.1).bind fun x34=>qqC s29.1 x34 x33).bind fun a7=>(qrG s29.2 (List.length p30.2:Int)).bind fun aE=>RE.ok (a7,aE)) y40 (s24,aE)).bind fun(p35:(List Int) × Int)=>((unO ak).bind fun x37=>(RE.ok p35.1).bind fun x36=>F.m_holds x37 x36).bind fun k38=>if k38=true then (RE.ok (.rt false)) else (RE.ok (.nx p35.1)):RE (Fl (Bool) (List Int)))) y42 a7) fun(p41:List Int)=>RE.ok true)
def F.square_at (ae:PuzT) (bS:Int):RE (List Int):=
 Fl.bR (((F.Puzzle_place ae).bind fun x1=>F.squares x1).bind fun y11=>qcm (fun(bh:List Int) (s5:Unit)=>(((atE bh 0).bind fun x6=>RE.ok (decide (x6=bS))).bind fun k8=>if k8=true then (RE.ok (.rt bh)) else (RE.ok (.nx ())):RE (Fl (List Int) (Unit)))) y11 ()) fun(p10:Unit)=>RE.ok []
def F.Square_fits (ab:KK) (ae:PuzT) (ak:Option RuleT) (ah:List Nat × Int × Int × Int × (List Int)):RE Bool:=
 ((RE.ok ak.isNone).bind fun k9=>if k9=true then RE.ok true else ((((unO ak).bind fun x1=>F.m_name x1).bind fun x2=>RE.ok (!decide (x2=([110,111,115,113,117,97,114,101])))).bind fun k8=>if k8=true then RE.ok true else ((((unO ak).bind fun x4=>F.Rule_sign x4).bind fun x5=>RE.ok (!decide (x5=ah.2.2.2.1))).bind fun k7=>if k7=true then RE.ok true else (RE.ok (!decide ((List.length ah.2.2.2.2:Int)=1)))))).bind fun k10=>if k10=true then (RE.ok false) else (((RE.ok ae).bind fun x11=>(atE ah.2.2.2.2 0).bind fun x12=>F.square_at x11 x12).bind fun x14=>RE.ok (decide (ah.2.2.1∈x14)))
def F.Square_strikes (ab:KK) (ae:PuzT) (aj:List Int) (ak:Option RuleT) (ah:List Nat × Int × Int × Int × (List Int)):RE Bool:=
 Fl.bR (((RE.ok ae).bind fun x1=>(atE ah.2.2.2.2 0).bind fun x2=>F.square_at x1 x2).bind fun y16=>qcm (fun(ac:Int) (s8:Unit)=>(((RE.ok (!decide (ac=ah.2.2.1))).bind fun k12=>if k12=true then (((atE aj ac).bind fun x9=>(RE.ok ah.2.2.2.1).bind fun x10=>F.has_only x9 x10).bind fun x11=>RE.ok (!x11)) else RE.ok false).bind fun k13=>if k13=true then (RE.ok (.rt false)) else (RE.ok (.nx ())):RE (Fl (Bool) (Unit)))) y16 ()) fun(p15:Unit)=>RE.ok true
def F.Reach_fits (ab:KK) (ae:PuzT) (ak:Option RuleT) (ah:List Nat × Int × Int × Int × (List Int)):RE Bool:=
 ((RE.ok ak.isNone).bind fun k8=>if k8=true then RE.ok true else ((((unO ak).bind fun x1=>F.m_name x1).bind fun x2=>RE.ok (!decide (x2=([106,111,105,110,101,100])))).bind fun k7=>if k7=true then (((unO ak).bind fun x4=>F.m_name x4).bind fun x5=>RE.ok (!decide (x5=([114,105,110,103])))) else RE.ok false)).bind fun k9=>if k9=true then (RE.ok false) else ((RE.ok (ah.2.2.2.2:List Int)).bind fun aO=>(((((unO ak).bind fun x10=>F.Rule_sign x10).bind fun x11=>RE.ok (decide (x11=ah.2.2.2.1))).bind fun x13=>RE.ok (if x13=true then 1 else 0:Int)).bind fun x15=>RE.ok (2 - x15)).bind fun ay=>((RE.ok (!decide ((List.length aO:Int)=ay))).bind fun k18=>if k18=true then RE.ok true else ((qj2 aO).bind fun x16=>RE.ok (!decide (x16=ay)))).bind fun k19=>if k19=true then (RE.ok false) else ((((RE.ok aO).bind fun x24=>gd (leB x24.length) (lcE (fun(az:Int)=>((RE.ok (decide (az=ah.2.2.1))).bind fun k23=>if k23=true then RE.ok true else ((RE.ok (decide (az<0))).bind fun k22=>if k22=true then RE.ok true else ((F.Puzzle_many ae).bind fun x21=>RE.ok (decide (x21≤az)))))) (fun(az:Int)=>(RE.ok az)) x24)).bind fun x25=>RE.ok (List.length x25:Int)).bind fun x26=>RE.ok (decide (x26=0))))
def F.Reach_strikes (ab:KK) (ae:PuzT) (aj:List Int) (ak:Option RuleT) (ah:List Nat × Int × Int × Int × (List Int)):RE Bool:=
 ((unO ak).bind fun x1=>F.Rule_sign x1).bind fun ai=>(RE.ok (ah.2.2.1:Int)).bind fun ac=>(RE.ok (ah.2.2.2.2:List Int)).bind fun aO=>Fl.bR ((RE.ok aO).bind fun y25=>qcm (fun(az:Int) (s6:Unit)=>((((atE aj az).bind fun x7=>(RE.ok ai).bind fun x8=>F.has_only x7 x8).bind fun x9=>RE.ok (!x9)).bind fun k10=>if k10=true then (RE.ok (.rt false)) else (RE.ok (.nx ())):RE (Fl (Bool) (Unit)))) y25 ()) fun(p12:Unit)=>((F.may_have aj ai).bind fun x13=>gd (leB x13.length) (RE.ok (List.filter (fun(aD:Int)=>!decide (aD=ac)) x13))).bind fun aF=>(RE.ok (decide (ai=ah.2.2.2.1))).bind fun k14=>if k14=true then ((atE aO 0).bind fun x18=>((F.Puzzle_place ae).bind fun x15=>(qeE aF [ac]).bind fun x16=>(RE.ok ac).bind fun x17=>F.reached x15 x16 x17).bind fun x19=>RE.ok (!decide (x18∈x19))) else ((atE aO 1).bind fun x23=>((F.Puzzle_place ae).bind fun x20=>(RE.ok aF).bind fun x21=>(atE aO 0).bind fun x22=>F.reached x20 x21 x22).bind fun x24=>RE.ok (!decide (x23∈x24)))
def F.Turn_fits (ab:KK) (ae:PuzT) (ak:Option RuleT) (ah:List Nat × Int × Int × Int × (List Int)):RE Bool:=
 ((RE.ok ak.isNone).bind fun k4=>if k4=true then RE.ok true else (((unO ak).bind fun x1=>F.m_name x1).bind fun x2=>RE.ok (!decide (x2=([114,105,110,103]))))).bind fun k5=>if k5=true then (RE.ok false) else ((RE.ok (decide (ah.2.2.2.2=[]))).bind fun k6=>if k6=true then (((unO ak).bind fun x7=>F.Rule_sign x7).bind fun x8=>RE.ok (decide (x8=ah.2.2.2.1))) else ((RE.ok (decide ((List.length ah.2.2.2.2:Int)=1))).bind fun k14=>if k14=true then ((atE ah.2.2.2.2 0).bind fun x12=>((F.Puzzle_place ae).bind fun x10=>(RE.ok ah.2.2.1).bind fun x11=>F.beside x10 x11).bind fun x13=>RE.ok (decide (x12∈x13))) else RE.ok false))
def F.Turn_strikes (ab:KK) (ae:PuzT) (aj:List Int) (ak:Option RuleT) (ah:List Nat × Int × Int × Int × (List Int)):RE Bool:=
 ((unO ak).bind fun x1=>F.Rule_sign x1).bind fun ai=>(RE.ok (ah.2.2.1:Int)).bind fun aN=>Fl.bR ((RE.ok (!decide (ah.2.2.2.2=[]))).bind fun k2=>if k2=true then ((atE ah.2.2.2.2 0).bind fun aN=>(((atE aj aN).bind fun x7=>(RE.ok ai).bind fun x8=>F.has_only x7 x8).bind fun x9=>RE.ok (!x9)).bind fun k10=>if k10=true then (RE.ok false).bind fun b=>RE.ok (.rt b) else (RE.ok (.nx aN))) else (RE.ok (.nx aN)):RE (Fl (Bool) (Int))) fun p11=>(((F.Puzzle_place ae).bind fun x12=>(RE.ok p11).bind fun x13=>F.beside x12 x13).bind fun x14=>gd (leB x14.length) (RE.ok (List.filter (fun(ac:Int)=>!decide (ac=ah.2.2.1)) x14))).bind fun bN=>(((RE.ok bN).bind fun x17=>gd (leB x17.length) (lcE (fun(ac:Int)=>((atE aj ac).bind fun x15=>(RE.ok ai).bind fun x16=>F.has_only x15 x16)) (fun(ac:Int)=>(RE.ok ac)) x17)).bind fun x18=>RE.ok (List.length x18:Int)).bind fun br=>(((RE.ok bN).bind fun x21=>gd (leB x21.length) (lcE (fun(ac:Int)=>((atE aj ac).bind fun x19=>(RE.ok ai).bind fun x20=>F.stands x19 x20)) (fun(ac:Int)=>(RE.ok ac)) x21)).bind fun x22=>RE.ok (List.length x22:Int)).bind fun bO=>(RE.ok (decide (ah.2.2.2.2=[]))).bind fun k23=>if k23=true then (RE.ok ((decide (bO<2))||(decide (2<br)))) else ((RE.ok (decide (ai=ah.2.2.2.1))).bind fun k24=>if k24=true then (RE.ok (decide (2≤br))) else (RE.ok (decide (bO<2))))
def F.is_in_bounds (ae:PuzT) (ah:List Nat × Int × Int × Int × (List D)):RE Bool:=
 ((RE.ok 0).bind fun x1=>(RE.ok ah.2.2.1).bind fun x2=>if decide (x1≤x2)=true then (F.Puzzle_many ae).bind fun x3=>RE.ok (decide (x2<x3)) else RE.ok false).bind fun k8=>if k8=true then ((RE.ok 1).bind fun x5=>(RE.ok ah.2.2.2.1).bind fun x6=>if decide (x5≤x6)=true then ((F.Puzzle_place ae).bind fun x4=>RE.ok x4.2.2).bind fun x7=>RE.ok (decide (x6≤x7)) else RE.ok false) else RE.ok false
def F.rule_of (ae:PuzT) (ah:List Nat × Int × Int × Int × (List D)):RE (Option RuleT):=
 ((RE.ok 0).bind fun x1=>(RE.ok ah.2.1).bind fun x2=>if decide (x1≤x2)=true then (F.Puzzle_many_rules ae).bind fun x3=>RE.ok (decide (x2<x3)) else RE.ok false).bind fun k4=>if k4=true then ((F.Puzzle_rule_at ae ah.2.1).bind fun x5=>RE.ok ((some) x5)) else (RE.ok (none:Option RuleT))
def F.m_fits (r:KK) (a0:PuzT) (a1:Option RuleT) (a2:List Nat × Int × Int × Int × (List Int)):RE Bool:=match r with
 |.clue=>F.Clue_fits r a0 a1 a2
 |.only=>F.Only_fits r a0 a1 a2
 |.place=>F.Place_fits r a0 a1 a2
 |.pair=>F.Pair_fits r a0 a1 a2
 |.count=>F.Count_fits r a0 a1 a2
 |.step=>F.Step_fits r a0 a1 a2
 |.sums=>F.Sums_fits r a0 a1 a2
 |.ways=>F.Ways_fits r a0 a1 a2
 |.square=>F.Square_fits r a0 a1 a2
 |.reach=>F.Reach_fits r a0 a1 a2
 |.turn=>F.Turn_fits r a0 a1 a2
def F.m_strikes (r:KK) (a0:PuzT) (a1:List Int) (a2:Option RuleT) (a3:List Nat × Int × Int × Int × (List Int)):RE Bool:=match r with
 |.clue=>F.Clue_strikes r a0 a1 a2 a3
 |.only=>F.Only_strikes r a0 a1 a2 a3
 |.place=>F.Place_strikes r a0 a1 a2 a3
 |.pair=>F.Pair_strikes r a0 a1 a2 a3
 |.count=>F.Count_strikes r a0 a1 a2 a3
 |.step=>F.Step_strikes r a0 a1 a2 a3
 |.sums=>F.Sums_strikes r a0 a1 a2 a3
 |.ways=>F.Ways_strikes r a0 a1 a2 a3
 |.square=>F.Square_strikes r a0 a1 a2 a3
 |.reach=>F.Reach_strikes r a0 a1 a2 a3
 |.turn=>F.Turn_strikes r a0 a1 a2 a3
def F.allowed (ae:PuzT) (aj:List Int) (ah:List Nat × Int × Int × Int × (List D)):RE Bool:=
 (F.kind_of ah.1).bind fun aL=>((RE.ok aL.isNone).bind fun k4=>if k4=true then RE.ok true else (((F.is_in_bounds ae ah).bind fun x1=>RE.ok (!x1)).bind fun k3=>if k3=true then RE.ok true else ((F.are_numbers ah.2.2.2.2).bind fun x2=>RE.ok (!x2)))).bind fun k5=>if k5=true then (RE.ok false) else ((F.rule_of ae ah).bind fun ak=>((unO aL).bind fun x9=>(RE.ok ae).bind fun x6=>(RE.ok ak).bind fun x7=>(dT5 (dLs dI) ah).bind fun x8=>F.m_fits x9 x6 x7 x8).bind fun k15=>if k15=true then ((unO aL).bind fun x14=>(RE.ok ae).bind fun x10=>(RE.ok aj).bind fun x11=>(RE.ok ak).bind fun x12=>(dT5 (dLs dI) ah).bind fun x13=>F.m_strikes x14 x10 x11 x12 x13) else RE.ok false)
def F.m_told_numbers (r:RuleT)  : RE (List Int):=match r.k with
 |.unlike=>F.Rule_told_numbers r
 |.total=>F.Total_told_numbers r
 |.rising=>F.Rule_told_numbers r
 |.seen=>F.Seen_told_numbers r
 |.counted=>F.Counted_told_numbers r
 |.joined=>F.Joined_told_numbers r
 |.nosquare=>F.NoSquare_told_numbers r
 |.ring=>F.Ring_told_numbers r
def F.Rule_line (ab:RuleT):RE (List Nat):=
 (RE.ok [32]).bind fun x5=>(((F.m_name ab).bind fun x1=>RE.ok [x1]).bind fun x3=>((F.m_told_numbers ab).bind fun x2=>gd (leB x2.length) (lcE (fun(aE:Int)=>(RE.ok true)) (fun(aE:Int)=>(qiM aE)) x2)).bind fun x4=>qeE x3 x4).bind fun x6=>qjs x5 x6
def F.Puzzle_lines (ab:PuzT):RE (List (List Nat)):=
 (RE.ok ab.rules).bind fun x1=>gd (leB x1.length) (lcE (fun(ak:RuleT)=>(RE.ok true)) (fun(ak:RuleT)=>(F.Rule_line ak)) x1)
def F.look_at_move (aT:Int):RE Unit:=
 (RE.ok (!(decide (0≤aT)&&decide (aT≤7)))).bind fun k1=>if k1=true then RE.exc 38 [] else (RE.ok ())
def F.turned_spot (aQ:Int) (bc:Int × Int):RE (Int × Int):=
 RE.ok (bc.2,(aQ - 1) - bc.1)
def F.moved_floor (af:Int × Int × Int) (aT:Int):RE (Int × Int × Int):=
 (F.look_at_move aT).bind fun _=>(RE.ok af).bind fun p1=>(RE.ok (decide ((Int.fmod aT 2)=1))).bind fun k2=>if k2=true then (RE.ok (p1.2.1,p1.1,p1.2.2)) else (RE.ok (p1.1,p1.2.1,p1.2.2))
def F.moved_cells (af:Int × Int × Int) (aT:Int):RE (List Int):=
 (F.look_at_move aT).bind fun _=>(RE.ok ([]:List Int)).bind fun al=>(((F.many_cells af).bind qbC).bind fun y33=>qaC (fun(ac:Int) (s16:List Int)=>(RE.ok af).bind fun p17=>(F.spot_of af ac).bind fun bc=>((RE.ok (decide (4≤aT))).bind fun k18=>if k18=true then ((RE.ok ((bc.1,(p17.2.1 - 1) - bc.2):Int × Int)).bind fun bc=>RE.ok bc) else (RE.ok bc)).bind fun(p19:Int × Int)=>((qbC (Int.fmod aT 4)).bind fun y31=>qaC (fun(bT:Int) (s23:Int × Int × (Int × Int))=>(F.turned_spot s23.1 s23.2.2).bind fun bc=>((RE.ok s23.2.1).bind fun x25=>(RE.ok s23.1).bind fun x26=>RE.ok (x25,x26)).bind fun p24=>RE.ok (p24.1,p24.2,bc)) y31 (p17.1,p17.2.1,p19)).bind fun(p27:Int × Int × (Int × Int))=>(((qka p27.2.2.1 p27.2.1).bind fun x28=>RE.ok (x28+p27.2.2.2)).bind fun x30=>qfA s16 x30).bind fun al=>RE.ok al) y33 al).bind fun(p32:List Int)=>RE.ok p32
def F.full (af:Int × Int × Int):RE (List Int):=
 ((F.many_cells af).bind qbC).bind fun x4=>gd (leB x4.length) (lcE (fun(ac:Int)=>(RE.ok true)) (fun(ac:Int)=>((F.bit (af.2.2+1)).bind fun x2=>RE.ok (x2 - 1))) x4)
def F.filling_by (aj:List Int):RE (List Int):=
 (RE.ok ([]:List Int)).bind fun a7=>((RE.ok aj).bind fun y9=>qaC (fun(aX:Int) (s3:List Int)=>(F.signs_in aX).bind fun a9=>((RE.ok (decide ((List.length a9:Int)=1))).bind fun k4=>if k4=true then (((atE a9 0).bind fun x6=>qfA s3 x6).bind fun a7=>RE.ok a7) else ((qfA s3 0).bind fun a7=>RE.ok a7)).bind fun(p7:List Int)=>RE.ok p7) y9 a7).bind fun(p8:List Int)=>RE.ok p8
def F.many_floors (ae:PuzT):RE Int:=
 (RE.ok (1:Int)).bind fun aB=>((F.Puzzle_clues ae).bind fun y21=>qaC (fun(bA:Int) (s7:Int)=>((RE.ok (decide (bA=0))).bind fun k8=>if k8=true then ((((F.Puzzle_place ae).bind fun x15=>RE.ok x15.2.2).bind fun x17=>qka s7 x17).bind fun aB=>(RE.ok (decide (1024<aB))).bind fun k18=>if k18=true then RE.exc 36 [] else (RE.ok aB)) else (RE.ok s7)).bind fun(p19:Int)=>RE.ok p19) y21 aB).bind fun(p20:Int)=>RE.ok p20
def F.laid (ae:PuzT) (bv:List Int) (aE:Int):RE (List Int):=
 ((F.Puzzle_place ae).bind fun x1=>RE.ok x1.2.2).bind fun a9=>(F.Puzzle_clues ae).bind fun a7=>(((F.Puzzle_many ae).bind qvt).bind fun y35=>qaC (fun(ac:Int) (s13:Int × (List Int))=>(((atE s13.2 ac).bind fun x14=>RE.ok (decide (x14=0))).bind fun k16=>if k16=true then ((((((atE bv ac).bind fun x25=>RE.ok (x25+s13.1)).bind fun x27=>qkV x27 a9).bind fun x30=>RE.ok (1+x30)).bind fun x31=>(RE.ok ac).bind fun x32=>qqC s13.2 x32 x31).bind fun a7=>(qrG s13.1 a9).bind fun aE=>RE.ok (aE,a7)) else (RE.ok (s13.1,s13.2))).bind fun(p33:Int × (List Int))=>RE.ok (p33.1,p33.2)) y35 (aE,a7)).bind fun(p34:Int × (List Int))=>RE.ok p34.2
def F.answers (ae:PuzT) (bU:Int):RE (List (List Int)):=
 (((F.Puzzle_many ae).bind qbC).bind fun x2=>gd (leB x2.length) (RE.ok (List.map (fun(ac:Int)=>0) x2))).bind fun bv=>(RE.ok ([]:List (List Int))).bind fun al=>Fl.bR (((F.many_floors ae).bind qbC).bind fun y11=>qcm (fun(aE:Int) (s6:List (List Int))=>((F.laid ae bv aE).bind fun a7=>(F.Puzzle_meets ae a7).bind fun k7=>if k7=true then ((qfA s6 a7).bind fun al=>(RE.ok (decide ((List.length al:Int)=bU))).bind fun k8=>if k8=true then (RE.ok (.rt al)) else (RE.ok (.nx al))) else (RE.ok (.nx s6)):RE (Fl (List (List Int)) (List (List Int))))) y11 al) fun(p10:List (List Int))=>RE.ok p10
def F.filled (ae:PuzT) (au:List Int):RE (Option (List Int)):=
 ((F.Puzzle_place ae).bind fun x1=>RE.ok x1.2.2).bind fun a9=>((RE.ok au).bind fun x2=>gd (leB x2.length) (lcE (fun(aE:Int)=>(RE.ok true)) (fun(aE:Int)=>(qkV aE a9)) x2)).bind fun bv=>Fl.bR (((F.many_floors ae).bind qbC).bind fun y9=>qcm (fun(aE:Int) (s5:Unit)=>((F.laid ae bv aE).bind fun a7=>(F.Puzzle_meets ae a7).bind fun k6=>if k6=true then (RE.ok (.rt (some a7))) else (RE.ok (.nx ())):RE (Fl (Option (List Int)) (Unit)))) y9 ()) fun(p8:Unit)=>RE.ok (none:Option (List Int))
def F.struck (aj:List Int) (ac:Int) (ai:Int):RE (List Int):=
 (RE.ok (aj:List Int)).bind fun al=>(((atE al ac).bind fun x1=>(RE.ok ai).bind fun x2=>F.stands x1 x2).bind fun k3=>if k3=true then ((((atE al ac).bind fun x8=>(F.bit ai).bind fun x9=>RE.ok (x8 - x9)).bind fun x10=>(RE.ok ac).bind fun x11=>qqC al x11 x10).bind fun al=>RE.ok al) else (RE.ok al)).bind fun(p12:List Int)=>RE.ok p12
def F.clashes (aj:List Int):RE Bool:=
 RE.ok (decide (0∈aj))
def F.is_settled (aj:List Int):RE Bool:=
 ((RE.ok aj).bind fun x4=>gd (leB x4.length) (lcE (fun(aX:Int)=>(RE.ok true)) (fun(aX:Int)=>(((F.signs_in aX).bind fun x1=>RE.ok (List.length x1:Int)).bind fun x2=>RE.ok (decide (x2=1)))) x4)).bind fun x5=>RE.ok (List.all x5 id)
def F.ways (aj:List Int):RE Int:=
 (RE.ok (1:Int)).bind fun bC=>((RE.ok aj).bind fun y11=>qaC (fun(aX:Int) (s5:Int)=>(((F.signs_in aX).bind fun x7=>RE.ok (List.length x7:Int)).bind fun x9=>qka s5 x9).bind fun bC=>RE.ok bC) y11 bC).bind fun(p10:Int)=>RE.ok p10
def F.Rule_reckons (ab:RuleT):RE Bool:=
 RE.ok false
def F.Total_reckons (ab:RuleT):RE Bool:=
 RE.ok true
def F.Rising_reckons (ab:RuleT):RE Bool:=
 RE.ok true
def F.Seen_reckons (ab:RuleT):RE Bool:=
 RE.ok true
def F.Puzzle_clued (ab:PuzT) (av:List Int):RE PuzT:=
 (RE.ok ab.ground).bind fun x2=>((F.Puzzle_lines ab).bind fun x1=>RE.ok ((List.map (eS)) x1)).bind fun x3=>(RE.ok av).bind fun x4=>F.Puzzle_new x2 x3 x4
def F.is_standing (ae:PuzT) (aj:List Int) (ah:List Nat × Int × Int × Int × (List D)):RE Bool:=
 (F.is_in_bounds ae ah).bind fun k3=>if k3=true then ((atE aj ah.2.2.1).bind fun x1=>(RE.ok ah.2.2.2.1).bind fun x2=>F.stands x1 x2) else RE.ok false
def F.Kind_mores (ab:KK) (ae:PuzT) (aj:List Int) (ak:Option RuleT) (ac:Int) (ai:Int):RE (List (List Int)):=
 RE.ok [[]]
def F.Only_mores (ab:KK) (ae:PuzT) (aj:List Int) (ak:Option RuleT) (ac:Int) (ai:Int):RE (List (List Int)):=
 (((unO ak).bind fun x1=>(RE.ok ac).bind fun x2=>F.others_of x1 x2).bind fun x3=>RE.ok (qe5 x3)).bind fun x4=>gd (leB x4.length) (RE.ok (List.map (fun(aD:Int)=>[aD]) x4))
def F.Place_mores (ab:KK) (ae:PuzT) (aj:List Int) (ak:Option RuleT) (ac:Int) (ai:Int):RE (List (List Int)):=
 ((RE.ok 1).bind fun x4=>(((F.Puzzle_place ae).bind fun x1=>RE.ok x1.2.2).bind fun x2=>RE.ok (x2+1)).bind fun x5=>qkD x4 x5).bind fun x6=>gd (leB x6.length) (RE.ok (List.map (fun(aD:Int)=>[aD]) x6))
def F.Pair_mores (ab:KK) (ae:PuzT) (aj:List Int) (ak:Option RuleT) (ac:Int) (ai:Int):RE (List (List Int)):=
 ((unO ak).bind fun x1=>(RE.ok ac).bind fun x2=>F.others_of x1 x2).bind fun aM=>(RE.ok ([]:List (List Int))).bind fun al=>((qbC (List.length aM:Int)).bind fun y23=>qaC (fun(aC:Int) (s12:List (List Int))=>((RE.ok (qcR aM (some (aC+1)) none)).bind fun y21=>qaC (fun(aD:Int) (s16:List (List Int))=>(((atE aM aC).bind fun x17=>(RE.ok aD).bind fun x18=>RE.ok [x17,x18]).bind fun x19=>qfA s16 x19).bind fun al=>RE.ok al) y21 s12).bind fun(p20:List (List Int))=>RE.ok p20) y23 al).bind fun(p22:List (List Int))=>RE.ok (qoK p22)
def F.must_have (aj:List Int) (ai:Int):RE (List Int):=
 (qbC (List.length aj:Int)).bind fun x3=>gd (leB x3.length) (lcE (fun(ac:Int)=>((atE aj ac).bind fun x1=>(RE.ok ai).bind fun x2=>F.has_only x1 x2)) (fun(ac:Int)=>(RE.ok ac)) x3)
def F.Square_mores (ab:KK) (ae:PuzT) (aj:List Int) (ak:Option RuleT) (ac:Int) (ai:Int):RE (List (List Int)):=
 ((F.Puzzle_place ae).bind fun x1=>F.squares x1).bind fun x3=>gd (leB x3.length) (lcE (fun(bh:List Int)=>(RE.ok (decide (ac∈bh)))) (fun(bh:List Int)=>((atE bh 0).bind fun x2=>RE.ok [x2])) x3)
def F.Reach_mores (ab:KK) (ae:PuzT) (aj:List Int) (ak:Option RuleT) (ac:Int) (ai:Int):RE (List (List Int)):=
 (((RE.ok aj).bind fun x2=>((unO ak).bind fun x1=>F.Rule_sign x1).bind fun x3=>F.must_have x2 x3).bind fun x4=>gd (leB x4.length) (RE.ok (List.filter (fun(aD:Int)=>!decide (aD=ac)) x4))).bind fun br=>(((unO ak).bind fun x5=>F.Rule_sign x5).bind fun x7=>RE.ok (decide (ai=x7))).bind fun k8=>if k8=true then ((RE.ok br).bind fun x9=>gd (leB x9.length) (RE.ok (List.map (fun(aD:Int)=>[aD]) x9))) else ((RE.ok (qcR br (some 1) none)).bind fun x12=>gd (leB x12.length) (lcE (fun(aD:Int)=>(RE.ok true)) (fun(aD:Int)=>((atE br 0).bind fun x10=>(RE.ok aD).bind fun x11=>RE.ok [x10,x11])) x12))
def F.Turn_mores (ab:KK) (ae:PuzT) (aj:List Int) (ak:Option RuleT) (ac:Int) (ai:Int):RE (List (List Int)):=
 (((F.Puzzle_place ae).bind fun x1=>(RE.ok ac).bind fun x2=>F.beside x1 x2).bind fun x3=>gd (leB x3.length) (RE.ok (List.map (fun(aD:Int)=>[aD]) x3))).bind fun x5=>qeE [[]] x5
def F.kinds_by (aK:List (List Nat)):RE (List KK):=
 F.all_kinds.bind fun x3=>gd (leB x3.length) (lcE (fun(aL:KK)=>((F.m_word aL).bind fun x1=>evC .isin (eS x1) ((eL eS) aK))) (fun(aL:KK)=>(RE.ok aL)) x3)
def F.m_mores (r:KK) (a0:PuzT) (a1:List Int) (a2:Option RuleT) (a3:Int) (a4:Int):RE (List (List Int)):=match r with
 |.clue=>F.Kind_mores r a0 a1 a2 a3 a4
 |.only=>F.Only_mores r a0 a1 a2 a3 a4
 |.place=>F.Place_mores r a0 a1 a2 a3 a4
 |.pair=>F.Pair_mores r a0 a1 a2 a3 a4
 |.count=>F.Kind_mores r a0 a1 a2 a3 a4
 |.step=>F.Kind_mores r a0 a1 a2 a3 a4
 |.sums=>F.Kind_mores r a0 a1 a2 a3 a4
 |.ways=>F.Kind_mores r a0 a1 a2 a3 a4
 |.square=>F.Square_mores r a0 a1 a2 a3 a4
 |.reach=>F.Reach_mores r a0 a1 a2 a3 a4
 |.turn=>F.Turn_mores r a0 a1 a2 a3 a4
def F.thought_at (ae:PuzT) (aj:List Int) (aL:KK) (aE:Int) (ac:Int):RE (Option (List Nat × Int × Int × Int × (List Int))):=
 (RE.ok (():Unit)).bind fun ak=>(((F.Puzzle_many_rules ae).bind fun x2=>RE.ok (decide (aE<x2))).bind fun k3=>if k3=true then ((F.Puzzle_rule_at ae aE).bind fun ak=>RE.ok (some ak)) else (RE.ok (none:Option RuleT))).bind fun(p4:Option RuleT)=>Fl.bR (((atE aj ac).bind fun x5=>F.signs_in x5).bind fun y44=>qcm (fun(ai:Int) (s24:Unit)=>(Fl.bF ((F.m_mores aL ae aj p4 ac ai).bind fun y42=>qcm (fun(aO:List Int) (s32:Unit)=>(((F.m_word aL).bind fun x33=>(RE.ok aE).bind fun x34=>(RE.ok ac).bind fun x35=>(RE.ok ai).bind fun x36=>(RE.ok aO).bind fun x37=>RE.ok (x33,x34,x35,x36,x37)).bind fun ah=>((F.m_fits aL ae p4 ah).bind fun k38=>if k38=true then (F.m_strikes aL ae aj p4 ah) else RE.ok false).bind fun k39=>if k39=true then (RE.ok (.rt (some ah))) else (RE.ok (.nx ())):RE (Fl (Option (List Nat × Int × Int × Int × (List Int))) (Unit)))) y42 ()) fun(p41:Unit)=>RE.ok (.nx ()):RE (Fl (Option (List Nat × Int × Int × Int × (List Int))) (Unit)))) y44 ()) fun(p43:Unit)=>RE.ok (none:Option (List Nat × Int × Int × Int × (List Int)))
def F.first_of (ae:PuzT) (aj:List Int) (aL:KK) (aE:Int) (am:List Int):RE (Option (List Nat × Int × Int × Int × (List Int))):=
 Fl.bR ((RE.ok am).bind fun y6=>qcm (fun(ac:Int) (s2:Unit)=>((F.thought_at ae aj aL aE ac).bind fun al=>(RE.ok al.isSome).bind fun k3=>if k3=true then (RE.ok (.rt al)) else (RE.ok (.nx ())):RE (Fl (Option (List Nat × Int × Int × Int × (List Int))) (Unit)))) y6 ()) fun(p5:Unit)=>RE.ok (none:Option (List Nat × Int × Int × Int × (List Int)))
def F.is_for (aL:KK) (ak:RuleT):RE Bool:=
 ((F.m_word aL).bind fun x1=>qv1 qhg false x1).bind fun k5=>if k5=true then RE.ok true else ((F.m_name ak).bind fun x3=>((F.m_word aL).bind fun x2=>qvZ qhg x2).bind fun x4=>qoW x3 x4)
def F.next_thought (ae:PuzT) (aj:List Int) (bg:List (List Nat)):RE (Option (List Nat × Int × Int × Int × (List Int))):=
 (F.clashes aj).bind fun k1=>if k1=true then (RE.ok (none:Option (List Nat × Int × Int × Int × (List Int)))) else (Fl.bR ((F.kinds_by bg).bind fun y113=>qcm (fun(aL:KK) (s39:Unit)=>((RE.ok (():Unit)).bind fun al=>(((F.m_word aL).bind fun x40=>(atE qa2 0).bind fun x41=>RE.ok (decide (x40=x41))).bind fun k42=>if k42=true then (((RE.ok ae).bind fun x77=>(RE.ok aj).bind fun x78=>(RE.ok aL).bind fun x79=>(RE.ok 0).bind fun x80=>((F.Puzzle_many ae).bind qbC).bind fun x81=>F.first_of x77 x78 x79 x80 x81).bind fun al=>RE.ok al) else ((((F.Puzzle_many_rules ae).bind qbC).bind fun y108=>qaC (fun(aE:Int) (s91:Option (List Nat × Int × Int × Int × (List Int)))=>(F.Puzzle_rule_at ae aE).bind fun ak=>(((RE.ok s91.isNone).bind fun k92=>if k92=true then (F.is_for aL ak) else RE.ok false).bind fun k93=>if k93=true then (((RE.ok ae).bind fun x101=>(RE.ok aj).bind fun x102=>(RE.ok aL).bind fun x103=>(RE.ok aE).bind fun x104=>((F.Rule_spots ak).bind fun x100=>RE.ok (qe5 x100)).bind fun x105=>F.first_of x101 x102 x103 x104 x105).bind fun al=>RE.ok al) else (RE.ok s91)).bind fun(p106:Option (List Nat × Int × Int × Int × (List Int)))=>RE.ok p106) y108 (none:Option (List Nat × Int × Int × Int × (List Int)))).bind fun(p107:Option (List Nat × Int × Int × Int × (List Int)))=>RE.ok p107)).bind fun(p109:Option (List Nat × Int × Int × Int × (List Int)))=>(RE.ok p109.isSome).bind fun k110=>if k110=true then (RE.ok (.rt p109)) else (RE.ok (.nx ())):RE (Fl (Option (List Nat × Int × Int × Int × (List Int))) (Unit)))) y113 ()) fun(p112:Unit)=>RE.ok (none:Option (List Nat × Int × Int × Int × (List Int))))
def F.think (ae:PuzT) (aj:List Int) (bg:List (List Nat)):RE ((List Int) × (List (List Nat × Int × Int × Int × (List Int)))):=
 (RE.ok (aj:List Int)).bind fun aq=>(RE.ok ([]:List (List Nat × Int × Int × Int × (List Int)))).bind fun aP=>Fl.bR (qtn (fun(s8:(List Int) × (List (List Nat × Int × Int × Int × (List Int))))=>((F.clashes s8.1).bind fun x9=>RE.ok (!x9))) (fun(s8:(List Int) × (List (List Nat × Int × Int × Int × (List Int))))=>((F.next_thought ae s8.1 bg).bind fun ah=>(RE.ok ah.isNone).bind fun k10=>if k10=true then (RE.ok (.bk (s8.1,s8.2))) else (((RE.ok s8.1).bind fun x13=>((unO ah).bind fun x11=>RE.ok x11.2.2.1).bind fun x14=>((unO ah).bind fun x12=>RE.ok x12.2.2.2.1).bind fun x15=>F.struck x13 x14 x15).bind fun aq=>((unO ah).bind fun x16=>qfA s8.2 x16).bind fun aP=>RE.ok (.nx (aq,aP))):RE (Fl ((List Int) × (List (List Nat × Int × Int × Int × (List Int)))) ((List Int) × (List (List Nat × Int × Int × Int × (List Int))))))) qtH (aq,aP)) fun(p17:(List Int) × (List (List Nat × Int × Int × Int × (List Int))))=>RE.ok (p17.1,p17.2)
def F.settles (ae:PuzT) (bg:List (List Nat)):RE Bool:=
 (((RE.ok ae).bind fun x2=>((F.Puzzle_place ae).bind fun x1=>F.full x1).bind fun x3=>(RE.ok bg).bind fun x4=>F.think x2 x3 x4).bind fun x5=>RE.ok x5.1).bind fun aq=>(F.is_settled aq).bind fun k8=>if k8=true then ((RE.ok ae).bind fun x7=>(F.filling_by aq).bind fun x6=>F.Puzzle_meets x7 x6) else RE.ok false
def F.with_only (aj:List Int) (ac:Int) (ai:Int):RE (List Int):=
 (RE.ok (aj:List Int)).bind fun aq=>((quS 1 (ai - 1)).bind fun x1=>(RE.ok ac).bind fun x2=>qqC aq x2 x1).bind fun aq=>RE.ok aq
def F.first_open (aj:List Int):RE Int:=
 Fl.bR ((qbC (List.length aj:Int)).bind fun y14=>qcm (fun(ac:Int) (s6:Unit)=>(((((atE aj ac).bind fun x7=>F.signs_in x7).bind fun x8=>RE.ok (List.length x8:Int)).bind fun x9=>RE.ok (decide (1<x9))).bind fun k11=>if k11=true then (RE.ok (.rt ac)) else (RE.ok (.nx ())):RE (Fl (Int) (Unit)))) y14 ()) fun(p13:Unit)=>RE.ok 0
def F.answers_in__1 (ae:PuzT) (aj:List Int):RE (List (List Int)):=
 ((F.think ae aj qa2).bind fun x1=>RE.ok x1.1).bind fun aq=>(F.clashes aq).bind fun k2=>if k2=true then (RE.ok []) else ((F.is_settled aq).bind fun k3=>if k3=true then ((F.filling_by aq).bind fun x4=>RE.ok [x4]) else ((F.first_open aq).bind fun ac=>(RE.ok ([]:List (List Int))).bind fun al=>(((atE aq ac).bind fun x5=>F.signs_in x5).bind fun y17=>qaC (fun(ai:Int) (s9:List (List Int))=>((RE.ok (decide ((List.length s9:Int)<2))).bind fun k10=>if k10=true then (((RE.bad:RE (List (List Int))).bind fun x14=>qeE s9 x14).bind fun al=>RE.ok al) else (RE.ok s9)).bind fun(p15:List (List Int))=>RE.ok p15) y17 al).bind fun(p16:List (List Int))=>RE.ok p16))
def F.answers_in__2 (ae:PuzT) (aj:List Int):RE (List (List Int)):=
 ((F.think ae aj qa2).bind fun x1=>RE.ok x1.1).bind fun aq=>(F.clashes aq).bind fun k2=>if k2=true then (RE.ok []) else ((F.is_settled aq).bind fun k3=>if k3=true then ((F.filling_by aq).bind fun x4=>RE.ok [x4]) else ((F.first_open aq).bind fun ac=>(RE.ok ([]:List (List Int))).bind fun al=>(((atE aq ac).bind fun x5=>F.signs_in x5).bind fun y23=>qaC (fun(ai:Int) (s11:List (List Int))=>((RE.ok (decide ((List.length s11:Int)<2))).bind fun k12=>if k12=true then ((((RE.ok ae).bind fun x17=>(F.with_only aq ac ai).bind fun x18=>F.answers_in__1 x17 x18).bind fun x20=>qeE s11 x20).bind fun al=>RE.ok al) else (RE.ok s11)).bind fun(p21:List (List Int))=>RE.ok p21) y23 al).bind fun(p22:List (List Int))=>RE.ok p22))
def F.answers_in__3 (ae:PuzT) (aj:List Int):RE (List (List Int)):=
 ((F.think ae aj qa2).bind fun x1=>RE.ok x1.1).bind fun aq=>(F.clashes aq).bind fun k2=>if k2=true then (RE.ok []) else ((F.is_settled aq).bind fun k3=>if k3=true then ((F.filling_by aq).bind fun x4=>RE.ok [x4]) else ((F.first_open aq).bind fun ac=>(RE.ok ([]:List (List Int))).bind fun al=>(((atE aq ac).bind fun x5=>F.signs_in x5).bind fun y23=>qaC (fun(ai:Int) (s11:List (List Int))=>((RE.ok (decide ((List.length s11:Int)<2))).bind fun k12=>if k12=true then ((((RE.ok ae).bind fun x17=>(F.with_only aq ac ai).bind fun x18=>F.answers_in__2 x17 x18).bind fun x20=>qeE s11 x20).bind fun al=>RE.ok al) else (RE.ok s11)).bind fun(p21:List (List Int))=>RE.ok p21) y23 al).bind fun(p22:List (List Int))=>RE.ok p22))
def F.answers_in__4 (ae:PuzT) (aj:List Int):RE (List (List Int)):=
 ((F.think ae aj qa2).bind fun x1=>RE.ok x1.1).bind fun aq=>(F.clashes aq).bind fun k2=>if k2=true then (RE.ok []) else ((F.is_settled aq).bind fun k3=>if k3=true then ((F.filling_by aq).bind fun x4=>RE.ok [x4]) else ((F.first_open aq).bind fun ac=>(RE.ok ([]:List (List Int))).bind fun al=>(((atE aq ac).bind fun x5=>F.signs_in x5).bind fun y23=>qaC (fun(ai:Int) (s11:List (List Int))=>((RE.ok (decide ((List.length s11:Int)<2))).bind fun k12=>if k12=true then ((((RE.ok ae).bind fun x17=>(F.with_only aq ac ai).bind fun x18=>F.answers_in__3 x17 x18).bind fun x20=>qeE s11 x20).bind fun al=>RE.ok al) else (RE.ok s11)).bind fun(p21:List (List Int))=>RE.ok p21) y23 al).bind fun(p22:List (List Int))=>RE.ok p22))
def F.answers_in__5 (ae:PuzT) (aj:List Int):RE (List (List Int)):=
 ((F.think ae aj qa2).bind fun x1=>RE.ok x1.1).bind fun aq=>(F.clashes aq).bind fun k2=>if k2=true then (RE.ok []) else ((F.is_settled aq).bind fun k3=>if k3=true then ((F.filling_by aq).bind fun x4=>RE.ok [x4]) else ((F.first_open aq).bind fun ac=>(RE.ok ([]:List (List Int))).bind fun al=>(((atE aq ac).bind fun x5=>F.signs_in x5).bind fun y23=>qaC (fun(ai:Int) (s11:List (List Int))=>((RE.ok (decide ((List.length s11:Int)<2))).bind fun k12=>if k12=true then ((((RE.ok ae).bind fun x17=>(F.with_only aq ac ai).bind fun x18=>F.answers_in__4 x17 x18).bind fun x20=>qeE s11 x20).bind fun al=>RE.ok al) else (RE.ok s11)).bind fun(p21:List (List Int))=>RE.ok p21) y23 al).bind fun(p22:List (List Int))=>RE.ok p22))
def F.supposed__1 (ae:PuzT) (aj:List Int) (ac:Int) (ai:Int):RE D:=
 ((RE.ok ([115,117,112,112,111,115,101])).bind fun x1=>(RE.ok 0).bind fun x2=>(RE.ok ac).bind fun x3=>(RE.ok ai).bind fun x4=>(RE.bad:RE (List D)).bind fun x5=>RE.ok (x1,x2,x3,x4,x5)).bind fun x6=>RE.ok (((eT5 eS eI eI eI (eL eD))) x6)
def F.refuted__1 (ae:PuzT) (aj:List Int):RE (List D):=
 ((F.think ae aj qa2).bind (qmH eI (eT5 eS eI eI eI (eL eI)))).bind fun p1=>(F.clashes p1.1).bind fun k2=>if k2=true then (RE.ok (List.map ((eT5 eS eI eI eI (eL eI))) p1.2)) else ((F.first_open p1.1).bind fun ac=>(((atE p1.1 ac).bind fun x3=>F.signs_in x3).bind fun y8=>qaC (fun(ai:Int) (s5:List D)=>((F.supposed__1 ae p1.1 ac ai).bind fun x6=>qfA s5 x6).bind fun aP=>RE.ok aP) y8 (List.map ((eT5 eS eI eI eI (eL eI))) p1.2)).bind fun(p7:List D)=>RE.ok p7)
def F.supposed__2 (ae:PuzT) (aj:List Int) (ac:Int) (ai:Int):RE D:=
 ((RE.ok ([115,117,112,112,111,115,101])).bind fun x3=>(RE.ok 0).bind fun x4=>(RE.ok ac).bind fun x5=>(RE.ok ai).bind fun x6=>((RE.ok ae).bind fun x1=>(F.with_only aj ac ai).bind fun x2=>F.refuted__1 x1 x2).bind fun x7=>RE.ok (x3,x4,x5,x6,x7)).bind fun x8=>RE.ok (((eT5 eS eI eI eI (eL eD))) x8)
def F.refuted__2 (ae:PuzT) (aj:List Int):RE (List D):=
 ((F.think ae aj qa2).bind (qmH eI (eT5 eS eI eI eI (eL eI)))).bind fun p1=>(F.clashes p1.1).bind fun k2=>if k2=true then (RE.ok (List.map ((eT5 eS eI eI eI (eL eI))) p1.2)) else ((F.first_open p1.1).bind fun ac=>(((atE p1.1 ac).bind fun x3=>F.signs_in x3).bind fun y8=>qaC (fun(ai:Int) (s5:List D)=>((F.supposed__2 ae p1.1 ac ai).bind fun x6=>qfA s5 x6).bind fun aP=>RE.ok aP) y8 (List.map ((eT5 eS eI eI eI (eL eI))) p1.2)).bind fun(p7:List D)=>RE.ok p7)
def F.supposed__3 (ae:PuzT) (aj:List Int) (ac:Int) (ai:Int):RE D:=
 ((RE.ok ([115,117,112,112,111,115,101])).bind fun x3=>(RE.ok 0).bind fun x4=>(RE.ok ac).bind fun x5=>(RE.ok ai).bind fun x6=>((RE.ok ae).bind fun x1=>(F.with_only aj ac ai).bind fun x2=>F.refuted__2 x1 x2).bind fun x7=>RE.ok (x3,x4,x5,x6,x7)).bind fun x8=>RE.ok (((eT5 eS eI eI eI (eL eD))) x8)
def F.refuted__3 (ae:PuzT) (aj:List Int):RE (List D):=
 ((F.think ae aj qa2).bind (qmH eI (eT5 eS eI eI eI (eL eI)))).bind fun p1=>(F.clashes p1.1).bind fun k2=>if k2=true then (RE.ok (List.map ((eT5 eS eI eI eI (eL eI))) p1.2)) else ((F.first_open p1.1).bind fun ac=>(((atE p1.1 ac).bind fun x3=>F.signs_in x3).bind fun y8=>qaC (fun(ai:Int) (s5:List D)=>((F.supposed__3 ae p1.1 ac ai).bind fun x6=>qfA s5 x6).bind fun aP=>RE.ok aP) y8 (List.map ((eT5 eS eI eI eI (eL eI))) p1.2)).bind fun(p7:List D)=>RE.ok p7)
def F.supposed__4 (ae:PuzT) (aj:List Int) (ac:Int) (ai:Int):RE D:=
 ((RE.ok ([115,117,112,112,111,115,101])).bind fun x3=>(RE.ok 0).bind fun x4=>(RE.ok ac).bind fun x5=>(RE.ok ai).bind fun x6=>((RE.ok ae).bind fun x1=>(F.with_only aj ac ai).bind fun x2=>F.refuted__3 x1 x2).bind fun x7=>RE.ok (x3,x4,x5,x6,x7)).bind fun x8=>RE.ok (((eT5 eS eI eI eI (eL eD))) x8)
def F.refuted__4 (ae:PuzT) (aj:List Int):RE (List D):=
 ((F.think ae aj qa2).bind (qmH eI (eT5 eS eI eI eI (eL eI)))).bind fun p1=>(F.clashes p1.1).bind fun k2=>if k2=true then (RE.ok (List.map ((eT5 eS eI eI eI (eL eI))) p1.2)) else ((F.first_open p1.1).bind fun ac=>(((atE p1.1 ac).bind fun x3=>F.signs_in x3).bind fun y8=>qaC (fun(ai:Int) (s5:List D)=>((F.supposed__4 ae p1.1 ac ai).bind fun x6=>qfA s5 x6).bind fun aP=>RE.ok aP) y8 (List.map ((eT5 eS eI eI eI (eL eI))) p1.2)).bind fun(p7:List D)=>RE.ok p7)
def F.supposed__5 (ae:PuzT) (aj:List Int) (ac:Int) (ai:Int):RE D:=
 ((RE.ok ([115,117,112,112,111,115,101])).bind fun x3=>(RE.ok 0).bind fun x4=>(RE.ok ac).bind fun x5=>(RE.ok ai).bind fun x6=>((RE.ok ae).bind fun x1=>(F.with_only aj ac ai).bind fun x2=>F.refuted__4 x1 x2).bind fun x7=>RE.ok (x3,x4,x5,x6,x7)).bind fun x8=>RE.ok (((eT5 eS eI eI eI (eL eD))) x8)
def F.refuted__5 (ae:PuzT) (aj:List Int):RE (List D):=
 ((F.think ae aj qa2).bind (qmH eI (eT5 eS eI eI eI (eL eI)))).bind fun p1=>(F.clashes p1.1).bind fun k2=>if k2=true then (RE.ok (List.map ((eT5 eS eI eI eI (eL eI))) p1.2)) else ((F.first_open p1.1).bind fun ac=>(((atE p1.1 ac).bind fun x3=>F.signs_in x3).bind fun y8=>qaC (fun(ai:Int) (s5:List D)=>((F.supposed__5 ae p1.1 ac ai).bind fun x6=>qfA s5 x6).bind fun aP=>RE.ok aP) y8 (List.map ((eT5 eS eI eI eI (eL eI))) p1.2)).bind fun(p7:List D)=>RE.ok p7)
def F.answers_in (ae:PuzT) (aj:List Int):RE (List (List Int)):=
 ((F.think ae aj qa2).bind fun x1=>RE.ok x1.1).bind fun aq=>(F.clashes aq).bind fun k2=>if k2=true then (RE.ok []) else ((F.is_settled aq).bind fun k3=>if k3=true then ((F.filling_by aq).bind fun x4=>RE.ok [x4]) else ((F.first_open aq).bind fun ac=>(RE.ok ([]:List (List Int))).bind fun al=>(((atE aq ac).bind fun x5=>F.signs_in x5).bind fun y23=>qaC (fun(ai:Int) (s11:List (List Int))=>((RE.ok (decide ((List.length s11:Int)<2))).bind fun k12=>if k12=true then ((((RE.ok ae).bind fun x17=>(F.with_only aq ac ai).bind fun x18=>F.answers_in__5 x17 x18).bind fun x20=>qeE s11 x20).bind fun al=>RE.ok al) else (RE.ok s11)).bind fun(p21:List (List Int))=>RE.ok p21) y23 al).bind fun(p22:List (List Int))=>RE.ok p22))
def F.supposed (ae:PuzT) (aj:List Int) (ac:Int) (ai:Int):RE D:=
 ((RE.ok ([115,117,112,112,111,115,101])).bind fun x3=>(RE.ok 0).bind fun x4=>(RE.ok ac).bind fun x5=>(RE.ok ai).bind fun x6=>((RE.ok ae).bind fun x1=>(F.with_only aj ac ai).bind fun x2=>F.refuted__5 x1 x2).bind fun x7=>RE.ok (x3,x4,x5,x6,x7)).bind fun x8=>RE.ok (((eT5 eS eI eI eI (eL eD))) x8)
def F.refuted (ae:PuzT) (aj:List Int):RE (List D):=
 ((F.think ae aj qa2).bind (qmH eI (eT5 eS eI eI eI (eL eI)))).bind fun p1=>(F.clashes p1.1).bind fun k2=>if k2=true then (RE.ok (List.map ((eT5 eS eI eI eI (eL eI))) p1.2)) else ((F.first_open p1.1).bind fun ac=>(((atE p1.1 ac).bind fun x3=>F.signs_in x3).bind fun y8=>qaC (fun(ai:Int) (s5:List D)=>((F.supposed ae p1.1 ac ai).bind fun x6=>qfA s5 x6).bind fun aP=>RE.ok aP) y8 (List.map ((eT5 eS eI eI eI (eL eI))) p1.2)).bind fun(p7:List D)=>RE.ok p7)
def F.left_alone (ae:PuzT) (aj:List Int) (bP:List Int):RE (List D):=
 (RE.ok (aj:List Int)).bind fun aq=>(RE.ok ([]:List D)).bind fun aP=>((qbC (List.length bP:Int)).bind fun y43=>qaC (fun(ac:Int) (s21:(List Int) × (List D))=>(((atE s21.1 ac).bind fun x22=>F.signs_in x22).bind fun y41=>qaC (fun(ai:Int) (s30:(List Int) × (List D))=>((((atE bP ac).bind fun x32=>RE.ok (!decide (ai=x32))).bind fun k35=>if k35=true then ((atE s30.1 ac).bind fun x33=>(RE.ok ai).bind fun x34=>F.stands x33 x34) else RE.ok false).bind fun k36=>if k36=true then (((F.supposed ae s30.1 ac ai).bind fun x38=>qfA s30.2 x38).bind fun aP=>(F.struck s30.1 ac ai).bind fun aq=>RE.ok (aq,aP)) else (RE.ok (s30.1,s30.2))).bind fun(p39:(List Int) × (List D))=>RE.ok (p39.1,p39.2)) y41 (s21.1,s21.2)).bind fun(p40:(List Int) × (List D))=>RE.ok (p40.1,p40.2)) y43 (aq,aP)).bind fun(p42:(List Int) × (List D))=>RE.ok p42.2
def F.solve (ae:PuzT):RE D:=
 ((RE.ok ae).bind fun x2=>((F.Puzzle_place ae).bind fun x1=>F.full x1).bind fun x3=>(RE.ok qa2).bind fun x4=>F.think x2 x3 x4).bind fun p5=>(F.clashes p5.1).bind fun k6=>if k6=true then (RE.ok ((eT2 eS (eL (eT5 eS eI eI eI (eL eI)))) ([110,111,110,101],p5.2))) else (((F.ways p5.1).bind fun x7=>RE.ok (decide (32<x7))).bind fun k9=>if k9=true then (RE.ok ((eT3 eS (eL eI) (eL (eT5 eS eI eI eI (eL eI)))) ([114,101,115,116,115],p5.1,p5.2))) else ((F.answers_in ae p5.1).bind fun al=>(RE.ok (decide ((List.length al:Int)=0))).bind fun k10=>if k10=true then (((RE.ok ([110,111,110,101])).bind fun x13=>((F.refuted ae p5.1).bind fun x12=>qeE (List.map ((eT5 eS eI eI eI (eL eI))) p5.2) x12).bind fun x14=>RE.ok (x13,x14)).bind fun x15=>RE.ok (((eT2 eS (eL eD))) x15)) else ((RE.ok (decide (1<(List.length al:Int)))).bind fun k16=>if k16=true then (((RE.ok ([116,119,111])).bind fun x17=>(atE al 0).bind fun x18=>(atE al 1).bind fun x19=>RE.ok (x17,x18,x19)).bind fun x20=>RE.ok (((eT3 eS (eL eI) (eL eI))) x20)) else (((RE.ok ([111,110,101])).bind fun x26=>(atE al 0).bind fun x27=>(((RE.ok ae).bind fun x21=>(RE.ok p5.1).bind fun x22=>(atE al 0).bind fun x23=>F.left_alone x21 x22 x23).bind fun x25=>qeE (List.map ((eT5 eS eI eI eI (eL eI))) p5.2) x25).bind fun x28=>RE.ok (x26,x27,x28)).bind fun x29=>RE.ok (((eT3 eS (eL eI) (eL eD))) x29)))))
def F.without (av:List Int) (ac:Int):RE (List Int):=
 (RE.ok (av:List Int)).bind fun bD=>(qqC bD ac 0).bind fun bD=>RE.ok bD
def F.taken (ae:PuzT) (bz:List Int) (bg:List (List Nat)):RE (Option ((List Int) × (List (Int × (List Int))))):=
 ((F.settles ae bg).bind fun x1=>RE.ok (!x1)).bind fun k2=>if k2=true then (RE.ok (none:Option ((List Int) × (List (Int × (List Int)))))) else ((F.Puzzle_clues ae).bind fun av=>((RE.ok bz).bind fun y62=>qaC (fun(ac:Int) (s11:List Int)=>((((atE s11 ac).bind fun x12=>RE.ok (!decide (x12=0))).bind fun k18=>if k18=true then (((RE.ok ae).bind fun x15=>(F.without s11 ac).bind fun x14=>F.Puzzle_clued x15 x14).bind fun x16=>(RE.ok bg).bind fun x17=>F.settles x16 x17) else RE.ok false).bind fun k19=>if k19=true then ((F.without s11 ac).bind fun av=>RE.ok av) else (RE.ok s11)).bind fun(p20:List Int)=>RE.ok p20) y62 av).bind fun(p21:List Int)=>(RE.ok ([]:List (Int × (List Int)))).bind fun bE=>((qu6 bz).bind fun y61=>qaC (fun(ac:Int) (s35:List (Int × (List Int)))=>(((atE p21 ac).bind fun x36=>RE.ok (!decide (x36=0))).bind fun k38=>if k38=true then (((RE.ok ae).bind fun x50=>(F.without p21 ac).bind fun x49=>F.Puzzle_clued x50 x49).bind fun bV=>(((RE.ok ac).bind fun x56=>(((RE.ok bV).bind fun x52=>((F.Puzzle_place ae).bind fun x51=>F.full x51).bind fun x53=>(RE.ok bg).bind fun x54=>F.think x52 x53 x54).bind fun x55=>RE.ok x55.1).bind fun x57=>RE.ok (x56,x57)).bind fun x58=>qfA s35 x58).bind fun bE=>RE.ok bE) else (RE.ok s35)).bind fun(p59:List (Int × (List Int)))=>RE.ok p59) y61 bE).bind fun(p60:List (Int × (List Int)))=>RE.ok (some (p21,p60)))
def F.other_answer (al:D) (ac:Int) (ai:Int):RE D:=
 (((qlW al 1).bind fun x1=>(RE.ok ac).bind fun x2=>qlW x1 x2).bind fun x3=>evC .ne (eD x3) (eI ai)).bind fun k5=>if k5=true then (qlW al 1) else (qlW al 2)
def F.least (ae:PuzT):RE D:=
 (((F.solve ae).bind fun x1=>(RE.ok 0).bind fun x2=>qlW x1 x2).bind fun x3=>evC .ne (eD x3) (eS ([111,110,101]))).bind fun k5=>if k5=true then (RE.exc 37 []) else ((F.Puzzle_clues ae).bind fun av=>(RE.ok ([]:List (Int × D))).bind fun aM=>Fl.bR ((RE.ok (qiV av)).bind fun y54=>qcm (fun(p33:Int × Int) (s32:List (Int × D))=>((RE.ok (!decide (p33.2=0))).bind fun k34=>if k34=true then ((((RE.ok ae).bind fun x36=>(F.without av p33.1).bind fun x35=>F.Puzzle_clued x36 x35).bind fun x37=>F.solve x37).bind fun al=>((qlW al 0).bind fun x38=>evC .eq (eD x38) (eS ([111,110,101]))).bind fun k40=>if k40=true then ((((RE.ok ([115,112,97,114,101])).bind fun x41=>(RE.ok p33.1).bind fun x42=>(qlW al 2).bind fun x43=>RE.ok (x41,x42,x43)).bind fun x44=>RE.ok (((eT3 eS eI eD)) x44)).bind fun x45=>RE.ok (.rt x45)) else (((qlW al 0).bind fun x46=>evC .eq (eD x46) (eS ([114,101,115,116,115]))).bind fun k48=>if k48=true then (RE.ok (.rt ((eT2 eS eI) ([114,101,115,116,115],p33.1)))) else ((((RE.ok p33.1).bind fun x50=>(F.other_answer al p33.1 p33.2).bind fun x51=>RE.ok (x50,x51)).bind fun x52=>qfA s32 x52).bind fun aM=>RE.ok (.nx aM)))) else (RE.ok (.nx s32)):RE (Fl (D) (List (Int × D))))) y54 aM) fun(p53:List (Int × D))=>RE.ok ((eT2 eS (eL (eT2 eI eD))) ([108,101,97,115,116],p53)))
def F.all_signs (af:Int × Int × Int):RE (List Int):=
 qkD 1 (af.2.2+1)
def F.signs_by (af:Int × Int × Int) (a9:Option (List Int)):RE (List Int):=
 (RE.ok a9.isNone).bind fun k1=>if k1=true then (F.all_signs af) else ((((unO a9).bind fun x2=>RE.ok (qe5 x2)).bind fun x3=>(F.all_signs af).bind fun x4=>RE.ok (!decide (x3=x4))).bind fun k5=>if k5=true then (RE.exc 38 []) else ((unO a9).bind fun x6=>RE.ok x6))
def F.moved_filling (af:Int × Int × Int) (a7:List Int) (aT:Int) (a9:Option (List Int)):RE (List Int):=
 ((F.signs_by af a9).bind fun x2=>qeE [0] x2).bind fun b5=>((RE.ok a7).bind fun x3=>gd (leB x3.length) (RE.ok (List.map (fun(ac:Int)=>0) x3))).bind fun al=>(((RE.ok a7).bind fun x4=>(F.moved_cells af aT).bind fun x5=>RE.ok (List.zip x4 x5)).bind fun y13=>qaC (fun(p9:Int × Int) (s8:List Int)=>((atE b5 p9.1).bind fun x10=>(RE.ok p9.2).bind fun x11=>qqC s8 x11 x10).bind fun al=>RE.ok al) y13 al).bind fun(p12:List Int)=>RE.ok p12
def F.gone (ak:RuleT) (am:List Int):RE (List Int):=
 (F.Rule_spots ak).bind fun x1=>gd (leB x1.length) (lcE (fun(ac:Int)=>(RE.ok true)) (fun(ac:Int)=>(atE am ac)) x1)
def F.Unlike_carried (ab:RuleT) (af:Int × Int × Int) (am:List Int) (a9:List Int):RE RuleT:=
 (RE.ok af).bind fun x1=>(F.gone ab am).bind fun x2=>(RE.ok 0).bind fun x3=>(RE.ok 0).bind fun x4=>RE.ok (RuleT.mk .unlike x1 x2 x3 x4)
def F.Total_carried (ab:RuleT) (af:Int × Int × Int) (am:List Int) (a9:List Int):RE RuleT:=
 (RE.ok af).bind fun x1=>(F.gone ab am).bind fun x2=>(RE.ok ab.wanted).bind fun x3=>(RE.ok 0).bind fun x4=>RE.ok (RuleT.mk .total x1 x2 x3 x4)
def F.Rising_carried (ab:RuleT) (af:Int × Int × Int) (am:List Int) (a9:List Int):RE RuleT:=
 (RE.ok af).bind fun x1=>(F.gone ab am).bind fun x2=>(RE.ok 0).bind fun x3=>(RE.ok 0).bind fun x4=>RE.ok (RuleT.mk .rising x1 x2 x3 x4)
def F.Seen_carried (ab:RuleT) (af:Int × Int × Int) (am:List Int) (a9:List Int):RE RuleT:=
 (RE.ok af).bind fun x1=>(F.gone ab am).bind fun x2=>(RE.ok ab.wanted).bind fun x3=>(RE.ok 0).bind fun x4=>RE.ok (RuleT.mk .seen x1 x2 x3 x4)
def F.Counted_carried (ab:RuleT) (af:Int × Int × Int) (am:List Int) (a9:List Int):RE RuleT:=
 (RE.ok af).bind fun x1=>(F.gone ab am).bind fun x2=>(RE.ok ab.wanted).bind fun x3=>(atE a9 (ab.sign - 1)).bind fun x4=>RE.ok (RuleT.mk .counted x1 x2 x3 x4)
def F.Joined_carried (ab:RuleT) (af:Int × Int × Int) (am:List Int) (a9:List Int):RE RuleT:=
 (RE.ok af).bind fun x2=>((F.many_cells af).bind qbC).bind fun x3=>(RE.ok 0).bind fun x4=>(atE a9 (ab.sign - 1)).bind fun x5=>RE.ok (RuleT.mk .joined x2 x3 x4 x5)
def F.NoSquare_carried (ab:RuleT) (af:Int × Int × Int) (am:List Int) (a9:List Int):RE RuleT:=
 (RE.ok af).bind fun x2=>((F.many_cells af).bind qbC).bind fun x3=>(RE.ok 0).bind fun x4=>(atE a9 (ab.sign - 1)).bind fun x5=>RE.ok (RuleT.mk .nosquare x2 x3 x4 x5)
def F.Ring_carried (ab:RuleT) (af:Int × Int × Int) (am:List Int) (a9:List Int):RE RuleT:=
 (RE.ok af).bind fun x2=>((F.many_cells af).bind qbC).bind fun x3=>(RE.ok 0).bind fun x4=>(atE a9 (ab.sign - 1)).bind fun x5=>RE.ok (RuleT.mk .ring x2 x3 x4 x5)
def F.m_reckons (r:RuleT)  : RE Bool:=match r.k with
 |.unlike=>F.Rule_reckons r
 |.total=>F.Total_reckons r
 |.rising=>F.Rising_reckons r
 |.seen=>F.Seen_reckons r
 |.counted=>F.Rule_reckons r
 |.joined=>F.Rule_reckons r
 |.nosquare=>F.Rule_reckons r
 |.ring=>F.Rule_reckons r
def F.reckons (ae:PuzT):RE Bool:=
 ((F.Puzzle_rules ae).bind fun x1=>gd (leB x1.length) (lcE (fun(ak:RuleT)=>(RE.ok true)) (fun(ak:RuleT)=>(F.m_reckons ak)) x1)).bind fun x2=>RE.ok (List.any x2 id)
def F.m_carried (r:RuleT) (a0:Int × Int × Int) (a1:List Int) (a2:List Int):RE RuleT:=match r.k with
 |.unlike=>F.Unlike_carried r a0 a1 a2
 |.total=>F.Total_carried r a0 a1 a2
 |.rising=>F.Rising_carried r a0 a1 a2
 |.seen=>F.Seen_carried r a0 a1 a2
 |.counted=>F.Counted_carried r a0 a1 a2
 |.joined=>F.Joined_carried r a0 a1 a2
 |.nosquare=>F.NoSquare_carried r a0 a1 a2
 |.ring=>F.Ring_carried r a0 a1 a2
def F.moved (ae:PuzT) (aT:Int) (a9:Option (List Int)):RE PuzT:=
 (F.Puzzle_place ae).bind fun af=>(F.look_at_move aT).bind fun _=>(F.signs_by af a9).bind fun b5=>(((F.all_signs af).bind fun x2=>RE.ok (!decide (b5=x2))).bind fun k3=>if k3=true then (F.reckons ae) else RE.ok false).bind fun k4=>if k4=true then (RE.exc 38 []) else ((F.moved_floor af aT).bind fun bQ=>(F.moved_cells af aT).bind fun am=>((F.Puzzle_rules ae).bind fun x6=>gd (leB x6.length) (lcE (fun(ak:RuleT)=>(RE.ok true)) (fun(ak:RuleT)=>((F.m_carried ak bQ am b5).bind fun x5=>F.Rule_line x5)) x6)).bind fun aH=>(RE.ok bQ).bind fun x11=>(RE.ok (List.map (eS) aH)).bind fun x12=>((RE.ok af).bind fun x7=>(F.Puzzle_clues ae).bind fun x8=>(RE.ok aT).bind fun x9=>(RE.ok (some b5)).bind fun x10=>F.moved_filling x7 x8 x9 x10).bind fun x13=>F.Puzzle_new x11 x12 x13)
def F.orders (aF:List Int):RE (List (List Int)):=
 (RE.ok ([[]]:List (List Int))).bind fun al=>((RE.ok aF).bind fun y45=>qaC (fun(bT:Int) (s22:List (List Int))=>(RE.ok ([]:List (List Int))).bind fun bG=>((RE.ok s22).bind fun y43=>qaC (fun(bz:List Int) (s32:List (List Int))=>((RE.ok aF).bind fun y41=>qaC (fun(az:Int) (s35:List (List Int))=>((RE.ok (!decide (az∈bz))).bind fun k36=>if k36=true then (((qeE bz [az]).bind fun x38=>qfA s35 x38).bind fun bG=>RE.ok bG) else (RE.ok s35)).bind fun(p39:List (List Int))=>RE.ok p39) y41 s32).bind fun(p40:List (List Int))=>RE.ok p40) y43 bG).bind fun(p42:List (List Int))=>(RE.ok (p42:List (List Int))).bind fun al=>RE.ok al) y45 al).bind fun(p44:List (List Int))=>RE.ok p44
end Cm
namespace Cm
section
variable {α β γ σ:Type}
def W (m:RE α) (Q:α→Prop):Prop:=∃v,m=.ok v∧Q v
theorem W.ok {v:α} {Q:α→Prop} (h:Q v):W (.ok v) Q:=⟨v,rfl,h⟩
theorem W.of {m:RE α} {v:α} {Q:α→Prop} (e:m=.ok v) (h:Q v):W m Q:=⟨v,e,h⟩
theorem W.bind {m:RE α} {f:α→RE β} {P:α→Prop} {Q:β→Prop} (h:W m P) (k:∀v,P v→W (f v) Q):W (m.bind f) Q:=by
 obtain⟨v,e,h⟩:=h;rw[e];exact k v h
theorem W.mono {m:RE α} {P Q:α→Prop} (h:W m P) (k:∀v,P v→Q v):W m Q:=by
 obtain⟨v,e,h⟩:=h;exact⟨v,e,k v h⟩
theorem W.eq {m:RE α} {v:α} (h:W m fun x=>x=v):m=.ok v:=by obtain⟨w,e,rfl⟩:=h;exact e
theorem W.get {m:RE α} {v:α} {Q:α→Prop} (h:W m Q) (e:m=.ok v):Q v:=by
 obtain⟨w,e',h⟩:=h;rw[e] at e';cases e';exact h
theorem qkw {b:Bool} {r:RE α} (h:b=true):gd b r=r:=by rw[h];rfl
theorem qew {f:α→σ→RE σ}:∀{xs:List α} {s:σ} (I:Nat→σ→Prop),I 0 s→(∀i x s,xs[i]? = some x→I i s→W (f x s) (I (i+1)))→W (qaC f xs s) (I xs.length)
 |[],s,I,h0,_=>⟨s,rfl,h0⟩
 |x::xs,s,I,h0,hs=>by
  obtain⟨v,e,h⟩:=hs 0 x s rfl h0
  unfold qaC
  rw[e]
  exact qew (xs:=xs) (fun i=>I (i+1)) h fun i y s hy=>hs (i+1) y s (by simpa using hy)
@[simp] theorem qwp {b:β} {k:σ→RE β}:Fl.bR (.ok (.rt b)) k=.ok b:=rfl
@[simp] theorem qwn {s:σ} {k:σ→RE β}:Fl.bR (.ok (.nx s)) k=k s:=rfl
@[simp] theorem qwG {b:β} {τ:Type} {k:σ→RE (Fl β τ)}:Fl.bF (.ok (.rt b)) k=.ok (.rt b):=rfl
@[simp] theorem qwC {s:σ} {τ:Type} {k:σ→RE (Fl β τ)}:Fl.bF (.ok (.nx s)) k=k s:=rfl
theorem qel {f:α→RE β} {g:α→β} {xs:List α} (h:∀x∈xs,f x=.ok (g x)):lcE (fun _=>.ok true) f xs=.ok (xs.map g):=by
 induction xs with
 |nil=>rfl
 |cons x xs ih =>
  rw[lcE,h x (by simp),ih fun y hy=>h y (List.mem_cons_of_mem _ hy)]
  rfl
theorem que {c:α→RE Bool} {p:α→Bool} {f:α→RE β} {g:α→β} {xs:List α} (hc:∀x∈xs,c x=.ok (p x)) (h:∀x∈xs,p x=true→f x=.ok (g x)):lcE c f xs=.ok ((xs.filter p).map g):=by
 induction xs with
 |nil=>rfl
 |cons x xs ih =>
  rw[lcE,hc x (by simp),ih (fun y hy=>hc y (List.mem_cons_of_mem _ hy)) fun y hy=>h y (List.mem_cons_of_mem _ hy)]
  cases e:p x with
  |false=>simp[e,noX]
  |true=>rw[h x (by simp) e];simp[e,noX]
theorem qoM {c:α→RE Bool} {p:α→Bool} {xs:List α} (hc:∀x∈xs,c x=.ok (p x)):lcE c (fun x=>.ok x) xs=.ok (xs.filter p):=by
 rw[que (g:=fun x=>x) hc fun _ _ _=>rfl,List.map_id']
theorem qak {xs:List α} {k:Int} {v:α} (h0:0≤k) (h:xs[k.toNat]? = some v):atE xs k=.ok v:=by
 have hl:k.toNat<xs.length:=by
  rcases Nat.lt_or_ge k.toNat xs.length with h' | h'
  ·exact h'
  ·rw[List.getElem?_eq_none h'] at h;cases h
 unfold atE L2.atI
 have:L2.ixN xs.length k=some k.toNat:=by
  have:=qon hl
  rwa [show((k.toNat:Nat):Int)=k from by omega] at this
 rw[this]
 show(match xs[k.toNat]? with
  |some x=>RE.ok x
  |none=>.bad)=_
 rw[h]
def gI (xs:List Int) (k:Int):Int:=xs.getD k.toNat 0
theorem qhR {xs:List Int} {k:Int} (h0:0≤k) (h1:k<xs.length):atE xs k=.ok (gI xs k):=by
 refine qak h0 ?_
 rw[gI,List.getD_eq_getElem?_getD,List.getElem?_eq_getElem (by omega)];rfl
theorem qvk {xs:List α} {k:Int} (d:α) (h0:0≤k) (h1:k<xs.length):atE xs k=.ok (xs.getD k.toNat d):=by
 refine qak h0 ?_
 rw[List.getD_eq_getElem?_getD,List.getElem?_eq_getElem (by omega)];rfl
@[simp] theorem qp1 {x:α} {xs:List α}:atE (x::xs) 0=.ok x:=qak (by decide) rfl
@[simp] theorem qvW {x y:α} {xs:List α}:atE (x::y::xs) 1=.ok y:=qak (by decide) rfl
@[simp] theorem qww {x y z:α} {xs:List α}:atE (x::y::z::xs) 2=.ok z:=qak (by decide) rfl
@[simp] theorem qwL {x y z u:α} {xs:List α}:atE (x::y::z::u::xs) 3=.ok u:=qak (by decide) rfl
theorem qm8 {xs:List α} {x:α} (h:xs.length<16777216):qfA xs x=.ok (xs++[x]):=qkw (qqB (by have:LIM=16777216:=rfl;omega))
theorem qbN {xs ys:List α} (h:xs.length+ys.length≤16777216):qeE xs ys=.ok (xs++ys):=qkw (qqB (by have:LIM=16777216:=rfl;omega))
theorem qgu {xs ys:List Nat} (h:xs.length+ys.length≤16777216):qjM xs ys=.ok (xs++ys):=qkw (qqB (by have:LIM=16777216:=rfl;omega))
theorem gdl {xs:List α} {r:RE β} (h:xs.length≤16777216):gd (leB xs.length) r=r:=qkw (qqB (by have:LIM=16777216:=rfl;omega))
theorem qf8 {x y:Int} (h:x.natAbs≤18446744073709551615):qka x y=.ok (x*y):=qkw (qnA (by rw[Nat.ble_eq];exact h))
theorem qs6 {x y:Int} (h:y.natAbs≤18446744073709551615):qka x y=.ok (x*y):=qkw (qtT (by rw[Nat.ble_eq];exact h))
theorem qeh {x y:Int} (h0:y≠0):qkV x y=.ok (x.fmod y):=qkw (qwj h0)
def qed (n:Nat):List Int:=(List.range n).map fun(i:Nat)=>(i:Int)
theorem qaX (n:Nat):(qed n).length=n:=by simp[qed]
theorem qey {n:Nat} {x:Int}:x∈qed n↔0≤x∧x<n:=by
 unfold qed
 rw[List.mem_map]
 constructor
 ·rintro⟨i,h,rfl⟩
  have:=List.mem_range.mp h
  omega
 ·rintro⟨h0,h1⟩
  exact⟨x.toNat,List.mem_range.mpr (by omega),by omega⟩
theorem qmi {n i:Nat} {x:Int} (h:(qed n)[i]? = some x):x=i∧i<n:=by
 unfold qed at h
 rw[List.getElem?_map] at h
 rcases Nat.lt_or_ge i n with q | q
 ·rw[List.getElem?_range q] at h;cases h;exact⟨rfl,q⟩
 ·rw[List.getElem?_eq_none (by simpa using q)] at h;cases h
theorem qev {n:Int} (h:n≤1000000) (h0:0≤n):qbC n=.ok (qed n.toNat):=by
 have h2:qmo n=true:=by
  have:=qu1 (n:=n.toNat) (by omega)
  rwa [show((n.toNat:Nat):Int)=n from by omega] at this
 rw[qbC,h2]
 simp only[qiE,qed,qfC]
 congr 1
 exact List.map_congr_left fun i _=>by omega
def qh6 (i j:Int):List Int:=qfC i 1 (j - i).toNat
theorem qmr {i j x:Int}:x∈qh6 i j↔i≤x∧x<j:=by
 unfold qh6 qfC
 rw[List.mem_map]
 constructor
 ·rintro⟨k,h,rfl⟩
  have:=List.mem_range.mp h
  omega
 ·rintro⟨h0,h1⟩
  exact⟨(x - i).toNat,List.mem_range.mpr (by omega),by omega⟩
theorem qo4 {i j:Int} (h:-1000000≤i∧i≤1000000 ∧ -1000000≤j∧j≤1000000):qkD i j=.ok (qh6 i j):=qkw (quY h)
theorem qba (a:Int) {n:Int} (h:0<n):0≤a.fmod n∧a.fmod n<n:=by
 rw[Int.fmod_eq_emod_of_nonneg _ (Int.le_of_lt h)]
 exact⟨Int.emod_nonneg _ (by omega),Int.emod_lt_of_pos _ h⟩
theorem qmX {p:Prop} [Decidable p] {x y:α}:(if decide p=true then x else y)=if p then x else y:=by
 by_cases h:p<;>simp[h]
end
end Cm
namespace Cm
structure FOk (fl:Int × Int × Int):Prop where
 h1:1≤fl.1
 h2:fl.1≤6
 w1:1≤fl.2.1
 w2:fl.2.1≤6
 n:fl.1*fl.2.1≤16
 s1:1≤fl.2.2
 s2:fl.2.2≤6
abbrev nC (fl:Int × Int × Int):Int:=fl.1*fl.2.1
section
variable {fl:Int × Int × Int}
theorem FOk.n1 (h:FOk fl):1≤nC fl:=by
 have:=Int.mul_le_mul h.h1 h.w1 (by decide) (by have:=h.h1;omega)
 simpa using this
theorem qkX (h:FOk fl):F.many_cells fl=.ok (nC fl):=qf8 (by have:=h.h1;have:=h.h2;omega)
def qgr (fl:Int × Int × Int) (c:Int):List Int:=(if 0<c / fl.2.1 then [c - fl.2.1] else [])++(if 0<c % fl.2.1 then [c - 1] else [])++(if c % fl.2.1<fl.2.1 - 1 then [c+1] else [])++(if c / fl.2.1<fl.1 - 1 then [c+fl.2.1] else [])
abbrev inC (fl:Int × Int × Int) (c:Int):Prop:=0≤c∧c<nC fl
theorem qic (h:FOk fl) {c:Int} (hc:inC fl c):c=c / fl.2.1*fl.2.1+c % fl.2.1∧0≤c / fl.2.1∧c / fl.2.1<fl.1∧0≤c % fl.2.1∧c % fl.2.1<fl.2.1:=by
 have w:=h.w1
 refine⟨?_,Int.ediv_nonneg hc.1 (by omega),?_,Int.emod_nonneg _ (by omega),Int.emod_lt_of_pos _ (by omega)⟩
 ·have:=Int.mul_ediv_add_emod c fl.2.1
  rw[Int.mul_comm] at this;omega
 ·exact Int.ediv_lt_of_lt_mul (by omega) hc.2
theorem qkn {w r q:Int} (h1:0≤q) (h2:q<w):(r*w+q) / w=r∧(r*w+q) % w=q:=by
 constructor
 ·rw[Int.add_comm,Int.add_mul_ediv_right _ _ (by omega),Int.ediv_eq_zero_of_lt h1 h2];omega
 ·rw[Int.add_comm,Int.add_mul_emod_self_right,Int.emod_eq_of_lt h1 h2]
end
def stB (m s:Int):Bool:=m.toNat.testBit (s - 1).toNat
def hoB (m s:Int):Bool:=decide (m.toNat ||| 2 ^ (s - 1).toNat=2 ^ (s - 1).toNat)
theorem qow {m s:Int} (h1:1≤s):hoB m s=true↔∀t,1≤t→stB m t=true→t=s:=by
 unfold hoB stB
 rw[decide_eq_true_eq]
 constructor
 ·intro h t h0 ht
  have:=congrArg (fun n=>Nat.testBit n (t - 1).toNat) h
  simp only[Nat.testBit_or,Nat.testBit_two_pow,ht,Bool.true_or] at this
  have:=of_decide_eq_true this.symm
  omega
 ·intro h
  refine Nat.eq_of_testBit_eq fun i=>?_
  rw[Nat.testBit_or,Nat.testBit_two_pow]
  cases e:m.toNat.testBit i
  ·rfl
  ·have:=h (i+1) (by omega) (by rw[show((i:Int)+1 - 1).toNat=i from by omega];exact e)
   have:(s - 1).toNat=i:=by omega
   simp[this]
def sgn (m:Int):List Int:=(qh6 1 7).filter (stB m)
def MOk (fl:Int × Int × Int) (ms:List Int):Prop:=(ms.length:Int)=nC fl∧∀m∈ms,0≤m∧m<64
theorem qoy {ms:List Int} {k:Int} (h0:0≤k) (h1:k<ms.length):gI ms k∈ms:=by
 unfold gI
 rw[List.getD_eq_getElem?_getD,List.getElem?_eq_getElem (by omega)]
 exact List.getElem_mem (by omega)
theorem MOk.at_ {fl:Int × Int × Int} {ms:List Int} (h:MOk fl ms) {c:Int} (hc:inC fl c):atE ms c=.ok (gI ms c):=qhR hc.1 (by have:=hc.2;have:=h.1;omega)
theorem MOk.b {fl:Int × Int × Int} {ms:List Int} (h:MOk fl ms) {c:Int} (hc:inC fl c):0≤gI ms c∧gI ms c<64:=h.2 _ (qoy hc.1 (by have:=hc.2;have:=h.1;omega))
end Cm
namespace Cm
def dg (n:Nat):List Nat:=if n<10 then [48+n] else [48+n / 10,48+n % 10]
def dgI (n:Int):List Nat:=dg n.toNat
theorem qtq:∀n<100,(toString ((n:Nat):Int):PySem.Str).cps.toList=dg n:=by decide +kernel
theorem qqM:∀n<100,qt2 ((n:Nat):Int)=true:=by decide +kernel
theorem qm5:∀n<100,∀c∈dg n,48≤c∧c<58:=by decide +kernel
theorem ql1:∀n<100,(dg n).length≤2∧1≤(dg n).length:=by decide +kernel
theorem qef {n:Int} (h0:0≤n) (h1:n<100):qiM n=.ok (dgI n):=by
 obtain⟨k,rfl⟩:∃k:Nat,n=k:=⟨n.toNat,by omega⟩
 unfold qiM
 rw[qkw (qqM k (by omega)),qtq k (by omega)]
 simp[dgI]
def isI (r:RE Int) (n:Nat):Bool:=match r with
 |.ok (.ofNat m)=>Nat.beq m n
 |_=>false
theorem qqj {r:RE Int} {n:Nat} (h:isI r n=true):r=.ok ((n:Nat):Int):=by
 unfold isI at h
 split at h
 ·rename_i m
  rw[Nat.eq_of_beq_eq_true h];rfl
 ·cases h
theorem qrO:∀n<100,isI (F.number_of (dg n)) n=true:=by decide +kernel
theorem qj4 {n:Int} (h0:0≤n) (h1:n<100):F.number_of (dgI n)=.ok n:=by
 obtain⟨k,rfl⟩:∃k:Nat,n=k:=⟨n.toNat,by omega⟩
 have:=qqj (qrO k (by omega))
 simpa[dgI] using this
theorem qsC (c:Nat) (ws:List (List Nat)):(PySem.Txt.join (qbg [c]) (ws.map qbg)).cps.toList=TL.joinL [c] ws:=by
 have:=SX.join_S [c] ws
 show(PySem.Txt.join (SX.S [c]) (ws.map SX.S)).cps.toList=_
 rw[this]
theorem qoX (c:Nat) (ws:List (List Nat)) (hc:c<256) (hn:ws≠[]) (h:∀p∈ws,c∉p):((PySem.Txt.split (qbg (TL.joinL [c] ws)) (qbg [c])).map fun z=>z.cps.toList)=ws:=by
 have e:PySem.Txt.split (qbg (TL.joinL [c] ws)) (qbg [c])=ws.map SX.S:=by
  have:=SX.split_S (a:=TL.joinL [c] ws) (b:=[c]) (by simp) (by simp[hc])
  rw[SX.spl_join hn h] at this
  exact this
 rw[e,List.map_map]
 have:ws.map ((fun z:PySem.Str=>z.cps.toList) ∘ SX.S)=ws.map id:=List.map_congr_left fun w _=>rfl
 rw[this,List.map_id]
theorem qku (c:Nat):∀ws:List (List Nat),(TL.joinL [c] ws).length≤(ws.map List.length).sum+ws.length
 |[]=>by simp[TL.joinL]
 |[p]=>by simp[TL.joinL]
 |p::q::r=>by
  have:=qku c (q::r)
  simp only[TL.joinL,List.length_append,List.map_cons,List.sum_cons,List.length_cons,List.length_nil] at this ⊢
  omega
theorem qob {b:Nat}:∀{ws:List (List Nat)},(∀w∈ws,w.length≤b)→(ws.map List.length).sum≤ws.length*b
 |[],_=>by simp
 |w::ws,h=>by
  have h1:=h w (by simp)
  have h2:=qob (ws:=ws) fun v hv=>h v (List.mem_cons_of_mem _ hv)
  simp only[List.map_cons,List.sum_cons,List.length_cons,Nat.add_mul,Nat.one_mul]
  omega
theorem qlE {c b:Nat} {ws:List (List Nat)} (h:∀w∈ws,w.length≤b) (hb:ws.length*(b+1)≤16777216):qjs [c] ws=.ok (TL.joinL [c] ws):=by
 unfold qjs
 rw[qsC,qkw (qqB ?_)]
 have:=qob h
 have l:LIM=16777216:=rfl
 simp only[List.length_cons,List.length_nil]
 rw[Nat.mul_add] at hb
 omega
theorem qnf {c b:Nat} {ws:List (List Nat)} (h:∀w∈ws,w.length≤b) (hb:ws.length*(b+1)≤16777000) (hc:c<256) (hn:ws≠[]) (hf:∀p∈ws,c∉p):qgd (TL.joinL [c] ws) [c]=.ok ws:=by
 unfold qgd
 rw[qoX c ws hc hn hf,qkw]
 rw[qa4]
 have h1:=qob h
 have h2:=qku c ws
 have l:LIM=16777216:=rfl
 rw[Nat.mul_add] at hb
 exact⟨by simp,by omega⟩
theorem qve {α:Type} (x:α) (xs:List α):qcR (x::xs) (some 1) none=xs:=by
 have h1:HT.sIx (x::xs).length 0 (some 1)=1:=by simp[HT.sIx]
 have h2:HT.sIx (x::xs).length (x::xs).length none=xs.length+1:=by simp[HT.sIx]
 unfold qcR
 rw[h1,h2]
 simp
theorem qwB {α:Type} (x y:α) (xs:List α):qcR (x::y::xs) (some 2) none=xs:=by
 have h1:HT.sIx (x::y::xs).length 0 (some 2)=2:=by simp[HT.sIx]
 have h2:HT.sIx (x::y::xs).length (x::y::xs).length none=xs.length+2:=by simp[HT.sIx]
 unfold qcR
 rw[h1,h2]
 simp
theorem qfo (f:Nat→Int):∀i,(PyProof.Rows.firstMet f i).length=i→((List.range i).map f).Nodup
 |0,_=>by simp
 |i+1,h=>by
  rw[PyProof.Rows.firstMet_succ] at h
  unfold PyProof.Rows.step_dedup at h
  have hle:=PyProof.Rows.firstMet_length_le f i
  split at h
  ·omega
  ·rename_i hn
   rw[List.length_append,List.length_singleton] at h
   have ih:=qfo f i (by omega)
   rw[PyProof.Rows.firstMet_any] at hn
   rw[List.range_succ,List.map_append,List.nodup_append]
   refine⟨ih,by simp,?_⟩
   intro a ha b hb e
   simp only[List.map_cons,List.map_nil,List.mem_singleton] at hb
   subst hb
   subst e
   exact hn (List.any_eq_true.mpr ⟨_,ha,by simp⟩)
theorem qie (ns:List Int):(List.range ns.length).map (fun i=>ns.getD i 0)=ns:=by
 apply List.ext_getElem
 ·simp
 ·intro i h1 h2
  simp at h1
  simp[h2]
theorem qg9 (f:Nat→Int):∀i,((List.range i).map f).Nodup→(PyProof.Rows.firstMet f i).length=i
 |0,_=>rfl
 |i+1,h=>by
  rw[List.range_succ,List.map_append,List.nodup_append] at h
  have ih:=qg9 f i h.1
  rw[PyProof.Rows.firstMet_succ]
  unfold PyProof.Rows.step_dedup
  split
  ·rename_i hn
   rw[PyProof.Rows.firstMet_any] at hn
   obtain⟨a,ha,e⟩:=List.any_eq_true.mp hn
   exact absurd (by simpa using e) (h.2.2 a ha (f i) (by simp))
  ·rw[List.length_append,List.length_singleton,ih]
theorem qm3 {ns:List Int} (h:ns.Nodup):qpM ns=ns.length:=qg9 _ _ (by rwa [qie])
theorem qnR (ns:List Int):qpM ns=ns.length↔ns.Nodup:=
 ⟨fun h=>by have:=qfo _ _ h;rwa [qie] at this,qm3⟩
theorem qoG {ns:List Int} (h:ns.length≤1000):qj2 ns=.ok (qpM ns:Int):=qkw (by rw[Nat.ble_eq];exact h)
theorem qrr {ns:List Int} (h:ns.length≤1000):((qj2 ns).bind fun x=>RE.ok (decide (x=(List.length ns:Int))))=.ok (decide ns.Nodup):=by
 rw[qoG h]
 simp only[RE.bind_ok]
 congr 1
 refine decide_eq_decide.mpr ⟨fun e=>(qnR ns).mp (by omega),fun e=>?_⟩
 have:=(qnR ns).mpr e
 omega
theorem qqp:∀{ns:List Int} {b:Int},ns≠[]→(∀n∈ns,n<b)→qkG ns<b
 |[],_,h,_=>absurd rfl h
 |[x],b,_,h=>h x (by simp)
 |x::y::r,b,_,h=>by
  have h1:=h x (by simp)
  have h2:=qqp (ns:=y::r) (b:=b) (by simp) fun n hn=>h n (List.mem_cons_of_mem _ hn)
  show max x (qkG (y::r))<b
  omega
theorem qmY:∀{n:Nat} {cs:List Int},cs.Nodup→(∀c∈cs,0≤c∧c<n)→cs.length≤n
 |0,[],_,_=>Nat.le_refl _
 |0,c::cs,_,h=>by have:=h c (by simp);omega
 |n+1,cs,hn,h=>by
  have ih:=qmY (n:=n) (cs:=cs.erase n) (hn.erase _) fun c hc=>by
   have h1:=(List.Nodup.mem_erase_iff hn).mp hc
   have:=h c h1.2
   have:=h1.1
   omega
  by_cases hm:(n:Int)∈cs
  ·have:=List.length_erase_of_mem hm
   omega
  ·rw[List.erase_of_not_mem hm] at ih
   omega
structure CsOk (fl:Int × Int × Int) (cs:List Int):Prop where
 ne:cs≠[]
 nd:cs.Nodup
 inn:∀c∈cs,inC fl c
theorem CsOk.len {fl:Int × Int × Int} {cs:List Int} (h:CsOk fl cs) (hf:FOk fl):cs.length≤16:=by
 have:=qmY (n:=(nC fl).toNat) h.nd fun c hc=>by have q:=h.inn c hc;have q1:=q.1;have q2:=q.2;exact⟨q1,by omega⟩
 have:=hf.n
 have:=hf.n1
 have e:nC fl=fl.1*fl.2.1:=rfl
 omega
theorem qbQ {fl:Int × Int × Int} {cs:List Int} (hf:FOk fl) (h:CsOk fl cs):F.cells_told fl cs=.ok cs:=by
 have hl:=h.len hf
 have e:=qrr (ns:=cs) (by omega)
 unfold F.cells_told
 rw[decide_eq_false h.ne]
 simp only[RE.bind_ok,Bool.false_eq_true,if_false]
 rw[qoG (by omega)] at e ⊢
 simp only[RE.bind_ok] at e ⊢
 rw[RE.ok.inj e,decide_eq_true h.nd]
 simp only[Bool.not_true,Bool.false_eq_true,if_false,qkX hf,RE.bind_ok]
 obtain⟨n0,nr,hI⟩:∃n0 nr,cs=n0::nr:=List.exists_cons_of_ne_nil h.ne
 have mx:=qqp (b:=nC fl) h.ne fun n hn=>(h.inn n hn).2
 have:qrT cs=.ok (qkG cs):=by rw[hI];rfl
 rw[this]
 simp only[RE.bind_ok]
 rw[decide_eq_false (by omega)]
 rfl
theorem qfZ {fl:Int × Int × Int} {ns:List Int} {k s:Int} (h0:0≤k) (hk:ns[k.toNat]? = some s) (s1:1≤s) (s2:s≤fl.2.2):F.sign_told fl ns k=.ok s:=by
 have hl:k.toNat<ns.length:=by
  rcases Nat.lt_or_ge k.toNat ns.length with q | q
  ·exact q
  ·rw[List.getElem?_eq_none q] at hk;cases hk
 unfold F.sign_told
 have a:=qak h0 hk
 rw[decide_eq_false (by omega)]
 simp only[RE.bind_ok,Bool.false_eq_true,if_false,a,decide_eq_true s1,if_true,decide_eq_true s2,Bool.not_true]
def qoV (w:List Nat) (ns:List Int):List Nat:=TL.joinL [32] (w::ns.map dgI)
def wordsL:List (List Nat):=[[117,110,108,105,107,101],[115,117,109],[114,105,115,105,110,103],[115,101,101,110],[99,111,117,110,116],[106,111,105,110,101,100],[110,111,115,113,117,97,114,101],[114,105,110,103]]
theorem qfz:∀w∈wordsL,(D.str w).fit 0=true∧w.length≤8∧32∉w:=by decide +kernel
theorem qmF:D.fits (wordsL.map eS) 0=true:=by decide +kernel
theorem qlc:D.fits ([[106,111,105,110,101,100],[110,111,115,113,117,97,114,101],[114,105,110,103]].map eS) 0=true:=by decide +kernel
def qcV (fl:Int × Int × Int) (w:List Nat) (ns:List Int):RE RuleT:=
 if w∈[[106,111,105,110,101,100],[110,111,115,113,117,97,114,101],[114,105,110,103]] then F.whole_rule fl w ns
 else if w=[117,110,108,105,107,101] then (F.cells_told fl ns).bind fun cs=>.ok (RuleT.mk .unlike fl cs 0 0)
 else if w=[114,105,115,105,110,103] then (F.cells_told fl ns).bind fun cs=>.ok (RuleT.mk .rising fl cs 0 0)
 else if w=[99,111,117,110,116] then (F.sign_told fl ns 1).bind fun s=>(F.cells_told fl (qcR ns (some 2) none)).bind fun cs=>(atE ns 0).bind fun n=>.ok (RuleT.mk .counted fl cs n s)
 else (F.cells_told fl (qcR ns (some 1) none)).bind fun cs=>if w=[115,117,109] then (atE ns 0).bind fun n=>.ok (RuleT.mk .total fl cs n 0) else (atE ns 0).bind fun n=>.ok (RuleT.mk .seen fl cs n 0)
theorem qp2 {fl:Int × Int × Int} {w:List Nat} {ns:List Int} (hw:w∈wordsL) (hl:ns.length≤20) (hn:∀n∈ns,0≤n∧n<100):F.read_rule fl (.str (qoV w ns))=qcV fl w ns:=by
 obtain⟨w1,w2,w3⟩:=qfz w hw
 have sp:qgd (qoV w ns) [32]=.ok (w::ns.map dgI):=by
  refine qnf (b:=8) (fun v hv=>?_) ?_ (by decide) (by simp) fun v hv=>?_
  ·rcases List.mem_cons.mp hv with e | e
   ·rw[e];exact w2
   ·obtain⟨n,hm,rfl⟩:=List.mem_map.mp e
    have:=(ql1 n.toNat (by have:=hn n hm;omega)).1
    unfold dgI
    omega
  ·simp only[List.length_cons,List.length_map];omega
  ·rcases List.mem_cons.mp hv with e | e
   ·rw[e];exact w3
   ·obtain⟨n,hm,rfl⟩:=List.mem_map.mp e
    intro q
    have:=qm5 n.toNat (by have:=hn n hm;omega) _ q
    omega
 have n8:qmu w wordsL=.ok false:=by
  unfold qmu qoW
  rw[w1,qmF]
  simp only[Bool.and_self,if_true,RE.bind_ok,decide_eq_true hw,Bool.not_true]
 have i3:qoW w [[106,111,105,110,101,100],[110,111,115,113,117,97,114,101],[114,105,110,103]]=.ok (decide (w∈[[106,111,105,110,101,100],[110,111,115,113,117,97,114,101],[114,105,110,103]])):=by
  unfold qoW
  rw[w1,qlc]
  rfl
 have nums:lcE (fun _=>RE.ok true) (fun az=>F.number_of az) (ns.map dgI)=.ok ns:=by
  rw[show lcE (fun _=>RE.ok true) (fun az=>F.number_of az) (ns.map dgI)=.ok ((ns.map dgI).map fun d=>match F.number_of d with
   |.ok n=>n
   |_=>0) from qel fun d hd=>by
    obtain⟨n,hm,rfl⟩:=List.mem_map.mp hd
    rw[qj4 (hn n hm).1 (hn n hm).2]]
  rw[List.map_map]
  congr 1
  have:ns.map ((fun d=>match F.number_of d with
   |.ok n=>n
   |_=>0) ∘ dgI)=ns.map id:=List.map_congr_left fun n hm=>by
    show(match F.number_of (dgI n) with
     |.ok n=>n
     |_=>0)=n
    rw[qj4 (hn n hm).1 (hn n hm).2]
  rw[this,List.map_id]
 have n8':=n8
 unfold wordsL at n8'
 unfold F.read_rule qcV
 have ty:tyE (eD (.str (qoV w ns))) .str=.ok true:=rfl
 have ds:dS (.str (qoV w ns))=.ok (qoV w ns):=rfl
 simp only[ty,ds,RE.bind_ok,Bool.not_true,Bool.false_eq_true,if_false,sp,qp1,n8',qve,i3]
 rw[gdl (by simp only[List.length_map];omega),nums]
 simp only[RE.bind_ok,qmX]
theorem qi2 {fl:Int × Int × Int} (hf:FOk fl) {w:List Nat} {s:Int} (s1:1≤s) (s2:s≤fl.2.2) (hw:w∈[[106,111,105,110,101,100],[110,111,115,113,117,97,114,101],[114,105,110,103]]) :
  qcV fl w [s]=.ok (RuleT.mk (if w=[106,111,105,110,101,100] then .joined else if w=[110,111,115,113,117,97,114,101] then .nosquare else .ring) fl (qed (nC fl).toNat) 0 s):=by
 unfold qcV
 rw[if_pos hw]
 unfold F.whole_rule
 have st:=qfZ (fl:=fl) (ns:=[s]) (k:=0) (by decide) rfl s1 s2
 have l1:((List.length [s]:Nat):Int)=1:=rfl
 have n1:=hf.n1
 have n2:=hf.n
 have e:nC fl=fl.1*fl.2.1:=rfl
 simp only[l1,RE.bind_ok,decide_true,Bool.not_true,Bool.false_eq_true,if_false,st,qkX hf,qev (n:=nC fl) (by omega) (by omega),qmX]
 by_cases a:w=[106,111,105,110,101,100]
 ·simp[a]
 ·by_cases b:w=[110,111,115,113,117,97,114,101]
  ·simp[b]
  ·simp[a,b]
theorem qm1 {fl:Int × Int × Int} (hf:FOk fl) {cs:List Int} (h:CsOk fl cs):qcV fl [117,110,108,105,107,101] cs=.ok (RuleT.mk .unlike fl cs 0 0):=by
 unfold qcV
 rw[if_neg (by decide),if_pos rfl,qbQ hf h];rfl
theorem qoB {fl:Int × Int × Int} (hf:FOk fl) {cs:List Int} (h:CsOk fl cs):qcV fl [114,105,115,105,110,103] cs=.ok (RuleT.mk .rising fl cs 0 0):=by
 unfold qcV
 rw[if_neg (by decide),if_neg (by decide),if_pos rfl,qbQ hf h];rfl
theorem qpr {fl:Int × Int × Int} (hf:FOk fl) {cs:List Int} (h:CsOk fl cs) {n s:Int} (s1:1≤s) (s2:s≤fl.2.2):qcV fl [99,111,117,110,116] (n::s::cs)=.ok (RuleT.mk .counted fl cs n s):=by
 unfold qcV
 rw[if_neg (by decide),if_neg (by decide),if_neg (by decide),if_pos rfl,qfZ (by decide) (k:=1) rfl s1 s2]
 simp only[RE.bind_ok,qwB,qbQ hf h,qp1]
theorem qsU {fl:Int × Int × Int} (hf:FOk fl) {cs:List Int} (h:CsOk fl cs) {n:Int}:qcV fl [115,117,109] (n::cs)=.ok (RuleT.mk .total fl cs n 0):=by
 unfold qcV
 rw[if_neg (by decide),if_neg (by decide),if_neg (by decide),if_neg (by decide)]
 simp only[RE.bind_ok,qve,qbQ hf h,qp1,if_true]
theorem qkY {fl:Int × Int × Int} (hf:FOk fl) {cs:List Int} (h:CsOk fl cs) {n:Int}:qcV fl [115,101,101,110] (n::cs)=.ok (RuleT.mk .seen fl cs n 0):=by
 unfold qcV
 rw[if_neg (by decide),if_neg (by decide),if_neg (by decide),if_neg (by decide)]
 simp only[RE.bind_ok,qve,qbQ hf h,qp1]
 rw[if_neg (by decide)]
theorem qdI {fl:Int × Int × Int} (h:FOk fl):F.floor_of fl.1 fl.2.1 fl.2.2=.ok fl:=by
 have:=h.h1;have:=h.h2;have:=h.w1;have:=h.w2;have:=h.n;have:=h.s1;have:=h.s2
 unfold F.floor_of
 rw[qf8 (by omega)]
 simp only[RE.bind_ok,decide_eq_true h.h1,decide_eq_true h.h2,decide_eq_true h.w1,decide_eq_true h.w2,decide_eq_true h.s1,decide_eq_true h.s2,Bool.and_self,Bool.not_true,Bool.false_eq_true,if_false]
 rw[decide_eq_false (show ¬16<fl.1*fl.2.1 by omega)]
 rfl
def qmT (fl:Int × Int × Int) (fi:List Int):Prop:=(fi.length:Int)=nC fl∧∀s∈fi,0≤s∧s≤fl.2.2
instance (fl:Int × Int × Int) (fi:List Int):Decidable (qmT fl fi):=by unfold qmT;infer_instance
theorem qfr {fl:Int × Int × Int} (h:FOk fl) {fi:List Int} (hl:fi.length≤10000):F.is_filling fl fi=.ok (decide (qmT fl fi)):=by
 unfold F.is_filling
 simp only[RE.bind_ok,qkX h,gdl (xs:=fi) (by omega)]
 by_cases e:(fi.length:Int)=nC fl
 ·rw[decide_eq_true e]
  simp only[Bool.not_true,Bool.false_eq_true,if_false]
  congr 1
  rw[List.all_map,Bool.eq_iff_iff,List.all_eq_true,decide_eq_true_eq]
  unfold qmT
  constructor
  ·intro q
   refine⟨e,fun s hs=>?_⟩
   have:=q s hs
   simpa using this
  ·intro q s hs
   have:=q.2 s hs
   simp[this.1,this.2]
 ·rw[decide_eq_false e]
  simp only[Bool.not_false,if_true]
  congr 1
  exact(decide_eq_false fun q=>e q.1).symm
end Cm
namespace Cm
abbrev TI:=List Nat × Int × Int × Int × List Int
theorem qoh:∀ns:List Int,dLs dI (ns.map eI)=.ok ns
 |[]=>rfl
 |n::ns=>by rw[List.map_cons,dLs,qoh ns];rfl
theorem qqo (th:TI):dT5 (dLs dI) (thD th)=.ok th:=by
 unfold dT5 thD
 rw[qoh];rfl
def qer (p:PuzT) (r:Int):Option RuleT:=if 0≤r∧r<(p.rules.length:Int) then p.rules[r.toNat]? else none
def qqf (p:PuzT) (c s:Int):Bool:=decide (0≤c∧c<nC p.ground∧1≤s∧s≤p.ground.2.2)
def RK.w:RK→List Nat
 |.unlike=>[117,110,108,105,107,101]
 |.total=>[115,117,109]
 |.rising=>[114,105,115,105,110,103]
 |.seen=>[115,101,101,110]
 |.counted=>[99,111,117,110,116]
 |.joined=>[106,111,105,110,101,100]
 |.nosquare=>[110,111,115,113,117,97,114,101]
 |.ring=>[114,105,110,103]
theorem qrR (r:RuleT):F.m_name r=.ok r.k.w:=by obtain⟨k,_,_,_,_⟩:=r;cases k<;>rfl
def rk (o:Option RuleT) (k:RK):Option RuleT:=o.bind fun r=>if r.k=k then some r else none
def qng (o:Option RuleT) (fl:Int × Int × Int) (c s:Int) (more:List Int):Bool:=match o with
 |none=>false
 |some r=>decide (r.k=.ring)&&(if more=[] then decide (r.sign=s) else decide (more.length=1)&&decide (gI more 0∈qgr fl c))
def qrb (r:RuleT) (fl:Int × Int × Int) (ms:List Int) (c s:Int) (more:List Int):Bool:=
 let at_:=if more=[] then c else gI more 0
 let near:=(qgr fl at_).filter fun d=>!decide (d=c)
 let must:=(near.filter fun d=>hoB (gI ms d) r.sign).length
 let may:=(near.filter fun d=>stB (gI ms d) r.sign).length
 if more=[] then decide (may<2)||decide (2<must) else hoB (gI ms at_) r.sign&&if r.sign=s then decide (2≤must) else decide (may<2)
end Cm
namespace Cm
theorem qoI {xs:List Int}:∀{ys:List Int},xs.Nodup→(∀x∈xs,x∈ys)→xs.length≤ys.length:=by
 induction xs with
 |nil=>intro ys _ _;exact Nat.zero_le _
 |cons x xs ih =>
  intro ys hn hs
  rw[List.nodup_cons] at hn
  have hx:=hs x (by simp)
  have:=ih (ys:=ys.erase x) hn.2 fun y hy=>by
   have:y≠x:=fun e=>hn.1 (e ▸ hy)
   exact(List.mem_erase_of_ne this).mpr (hs y (List.mem_cons_of_mem _ hy))
  rw[List.length_erase_of_mem hx] at this
  have:=List.length_pos_of_mem hx
  simp only[List.length_cons]
  omega
theorem qqP (n:Nat):(qed n).Pairwise (· < ·):=by
 unfold qed
 rw[List.pairwise_map]
 exact List.pairwise_lt_range.imp fun h=>by omega
inductive Rch (fl:Int × Int × Int) (cs:List Int) (a:Int):Int→Prop where
 |base:a∈cs→Rch fl cs a a
 |step {b c:Int}:Rch fl cs a b→c∈qgr fl b→c∈cs→Rch fl cs a c
section
variable {fl:Int × Int × Int} {cs:List Int} {a:Int}
theorem Rch.start {b:Int} (h:Rch fl cs a b):a∈cs:=by induction h with
 |base h=>exact h
 |step _ _ _ ih=>exact ih
theorem Rch.mem {b:Int} (h:Rch fl cs a b):b∈cs:=by cases h with
 |base h=>exact h
 |step _ _ h=>exact h
theorem Rch.mono {cs':List Int} (hs:∀x∈cs,x∈cs') {b:Int} (h:Rch fl cs a b):Rch fl cs' a b:=by induction h with
 |base h=>exact .base (hs _ h)
 |step _ h1 h2 ih=>exact .step ih h1 (hs _ h2)
end
theorem qlT {fl:Int × Int × Int} (hf:FOk fl) {c d:Int} (hc:inC fl c) (hd:inC fl d):d∈qgr fl c↔((c / fl.2.1=d / fl.2.1∧(c % fl.2.1=d % fl.2.1+1∨d % fl.2.1=c % fl.2.1+1))∨(c % fl.2.1=d % fl.2.1∧(c / fl.2.1=d / fl.2.1+1∨d / fl.2.1=c / fl.2.1+1))):=by
 obtain⟨e,a1,a2,b1,b2⟩:=qic hf hc
 obtain⟨e',a1',a2',b1',b2'⟩:=qic hf hd
 have w:=hf.w1
 unfold qgr
 simp only[List.mem_append]
 have k:∀{p:Prop} [Decidable p] (x:Int),d∈(if p then [x] else [])↔p∧d=x:=fun {p} _ x=>by
  by_cases h:p<;>simp[h]
 simp only[k]
 generalize c / fl.2.1=R at *
 generalize c % fl.2.1=Q at *
 generalize d / fl.2.1=R' at *
 generalize d % fl.2.1=Q' at *
 generalize hw:fl.2.1=W at *
 have same:∀{x y:Int} {p q:Int},0≤p→p<W→0≤q→q<W→x*W+p=y*W+q→x=y∧p=q:=fun {x y p q} p0 p1 q0 q1 h=>by
  have h1:=qkn (r:=x) p0 p1
  have h2:=qkn (r:=y) q0 q1
  rw[h] at h1
  exact⟨h1.1.symm.trans h2.1,h1.2.symm.trans h2.2⟩
 constructor
 ·rintro(((⟨h,q⟩ | ⟨h,q⟩) | ⟨h,q⟩) | ⟨h,q⟩)
  ·have:=same (x:=R') (y:=R - 1) b1' b2' b1 b2 (by rw[Int.sub_mul];omega)
   omega
  ·have:=same (x:=R') (y:=R) b1' b2' (q:=Q - 1) (by omega) (by omega) (by omega)
   omega
  ·have:=same (x:=R') (y:=R) b1' b2' (q:=Q+1) (by omega) (by omega) (by omega)
   omega
  ·have:=same (x:=R') (y:=R+1) b1' b2' b1 b2 (by rw[Int.add_mul];omega)
   omega
 ·rintro(⟨h,q | q⟩ | ⟨h,q | q⟩)
  ·exact .inl (.inl (.inr ⟨by omega,by rw[e,e',h];omega⟩))
  ·exact .inl (.inr ⟨by omega,by rw[e,e',h];omega⟩)
  ·refine .inl (.inl (.inl ⟨by omega,?_⟩))
   have:R*W=R'*W+W:=by rw[q,Int.add_mul];omega
   omega
  ·refine .inr ⟨by omega,?_⟩
   have:R'*W=R*W+W:=by rw[q,Int.add_mul];omega
   omega
end Cm
namespace Cm
noncomputable def dec (p:Prop):Bool:=@decide p (Classical.propDecidable p)
def qvB (ms:List Int) (s:Int):List Int:=(qed ms.length).filter fun c=>stB (gI ms c) s
def qv4 (k:RK):Bool:=decide (k=.joined∨k=.ring)
def qmh (o:Option RuleT) (fl:Int × Int × Int) (c s:Int) (more:List Int):Bool:=match o with
 |none=>false
 |some r=>qv4 r.k&&(decide ((more.length:Int)=2 - (if r.sign=s then 1 else 0))&&(decide more.Nodup&&more.all fun d=>!(decide (d=c)||(decide (d<0)||decide (nC fl≤d)))))
noncomputable def qpy (r:RuleT) (fl:Int × Int × Int) (ms:List Int) (c s:Int) (more:List Int):Bool:=
 (more.all fun d=>hoB (gI ms d) r.sign)&&(if r.sign=s then !dec (Rch fl (((qvB ms r.sign).filter fun d=>!decide (d=c))++[c]) c (gI more 0)) else !dec (Rch fl ((qvB ms r.sign).filter fun d=>!decide (d=c)) (gI more 0) (gI more 1)))
end Cm
namespace Cm
def qrE (r:RuleT) (c:Int):List Int:=r.cells.filter fun d=>!decide (d=c)
def ofB (o:Option RuleT) (k:RK) (c:Int):Bool:=match o with
 |none=>false
 |some r=>decide (r.k=k)&&decide (c∈r.cells)
def qnj (r:RuleT) (c:Int) (more:List Int):Bool:=(more.all fun d=>decide (d∈qrE r c))&&decide more.Nodup
def qof (i:Int) (more:List Int):Bool:=decide (i=0)&&decide (more=[])
def qrm (p:PuzT) (c s:Int):Bool:=!decide (gI p.clues c=0) && !decide (gI p.clues c=s)
def qnM (o:Option RuleT) (c:Int) (more:List Int):Bool:=match o with
 |none=>false
 |some r=>ofB o .unlike c&&(decide (more.length=1)&&qnj r c more)
def qr1 (ms:List Int) (s:Int) (more:List Int):Bool:=hoB (gI ms (gI more 0)) s
def ql5 (o:Option RuleT) (sg c s:Int) (more:List Int):Bool:=match o with
 |none=>false
 |some r=>ofB o .unlike c&&(decide ((r.cells.length:Int)=sg)&&(decide (more.length=1)&&(decide (1≤gI more 0∧gI more 0≤sg) && !decide (gI more 0=s))))
def qpR (r:RuleT) (ms:List Int) (c:Int) (more:List Int):Bool:=(qrE r c).all fun d=>!stB (gI ms d) (gI more 0)
def inR (fl:Int × Int × Int) (r:RuleT):Prop:=r.cells.length≤1000∧∀d∈r.cells,inC fl d
def qsM (xs:List Int) (x:Int):Nat:=xs.findIdx fun y=>decide (y=x)
def qop (o:Option RuleT) (c:Int) (more:List Int):Bool:=match o with
 |none=>false
 |some r=>ofB o .unlike c&&(decide (more.length=2)&&(qnj r c more&&decide (qsM r.cells (gI more 0)<qsM r.cells (gI more 1))))
def qrl (ms:List Int) (s:Int) (more:List Int):Bool:=decide (((sgn (PySem.Builtin.bitOr (gI ms (gI more 0)) (gI ms (gI more 1)))).filter fun t=>!decide (t=s)).length≤1)
def qlZ (o:Option RuleT) (c:Int) (more:List Int):Bool:=decide (more=[])&&ofB o .counted c
def qpX (r:RuleT) (ms:List Int) (c s:Int):Bool:=if s=r.sign then decide (r.wanted≤(((qrE r c).filter fun d=>hoB (gI ms d) r.sign).length:Int)) else decide ((((qrE r c).filter fun d=>stB (gI ms d) r.sign).length:Int)<r.wanted)
end Cm
namespace Cm
theorem qq4 {xs ys:List Int} {k:Int} (h0:0≤k) (h1:k<ys.length) (hx:xs.length<16777216) (hy:ys.length≤16777216):∃d,qmy xs ys k=.ok (xs++[d],ys.eraseIdx k.toNat)∧((xs++[d])++ys.eraseIdx k.toNat).Perm (xs++ys):=by
 have hk:k.toNat<ys.length:=by omega
 have i:=qon hk
 rw[show((k.toNat:Nat):Int)=k from by omega] at i
 refine⟨ys[k.toNat],?_,?_⟩
 ·unfold qmy
  have l:LIM=16777216:=rfl
  simp only[i,List.getElem?_eq_getElem hk]
  rw[qkw (qqB (by omega)),qkw (qqB (by omega))]
 ·rw[List.append_assoc]
  exact(qia ys k.toNat hk).append_left xs
theorem qp8 {f:Int→(List Int × List Int)→RE (List Int × List Int)} {n:Nat} (hn:n≤1000) (hf:∀(i:Nat) (s:List Int × List Int),i<n→s.1.length=n - i→∃k,0≤k∧k<(s.1.length:Int)∧f i s=(qmy s.2 s.1 k).bind fun p=>.ok (p.2,p.1)):W (qaC f (qed n) (qed n,[])) fun s=>s.2.Perm (qed n):=by
 refine W.mono (qew (fun i s=>s.2.length=i∧(s.2++s.1).Perm (qed n)) ⟨rfl,by simp⟩ fun i x s hx ⟨hl,hp⟩=>?_) fun s ⟨hl,hp⟩=>?_
 ·obtain⟨rfl,hi⟩:=qmi hx
  have:=hp.length_eq
  rw[List.length_append,qaX] at this
  obtain⟨k,k0,k1,e⟩:=hf i s hi (by omega)
  obtain⟨d,e2,p2⟩:=qq4 (xs:=s.2) (ys:=s.1) k0 k1 (by omega) (by omega)
  rw[e,e2]
  exact W.ok ⟨by simp[hl],p2.trans hp⟩
 ·have:=hp.length_eq
  rw[qaX] at hl
  rw[List.length_append,qaX,hl] at this
  have:s.1=[]:=List.length_eq_zero_iff.mp (by omega)
  rwa [this,List.append_nil] at hp
theorem qro (m b:Int):evC .isin (eI m) ((eT2 eI eI) (0,b))=.ok (decide (m=0∨m=b)):=by
 show qnO (.int m) (.tup [.int 0,.int b])=_
 simp[qnO,D.fit,D.fits,D.eqb,eq_comm]
end Cm
namespace Cm
def qqn (cs:List Int) (c:Int):Option Int:=if 0<qsM cs c then some (gI cs ((qsM cs c:Int) - 1)) else none
def qnc (cs:List Int) (c:Int):Option Int:=if qsM cs c+1<cs.length then some (gI cs ((qsM cs c:Int)+1)) else none
def qn6 (o:Option RuleT) (c:Int) (more:List Int):Bool:=decide (more=[])&&ofB o .rising c
def qrQ (r:RuleT) (ms:List Int) (c s:Int):Bool:=(match qqn r.cells c with
 |some d=>decide (s≤quk false (sgn (gI ms d)) s)
 |none=>false)||(match qnc r.cells c with
 |some d=>decide (quk true (sgn (gI ms d)) s≤s)
 |none=>false)
theorem qm7 {m t:Int}:t∈sgn m↔(1≤t∧t<7)∧stB m t=true:=by
 unfold sgn
 rw[List.mem_filter,qmr]
end Cm
namespace Cm
theorem qsj (m:Int):(sgn m).Pairwise (· < ·):=List.Pairwise.filter _ (by decide)
def qvf (cs ms:List Int) (c s:Int):Option (Int × Int):=
 let os:=cs.filter fun d=>!decide (d=c)
 if (os.any fun d=>decide (sgn (gI ms d)=[]))=true then none else some (s+(os.map fun d=>qmR (sgn (gI ms d))).sum,s+(os.map fun d=>qkG (sgn (gI ms d))).sum)
def qqK (o:Option RuleT) (c:Int) (more:List Int):Bool:=decide (more=[])&&ofB o .total c
def qud (r:RuleT) (ms:List Int) (c s:Int):Bool:=match qvf r.cells ms c s with
 |none=>true
 |some e=>decide (r.wanted<e.1)||decide (e.2<r.wanted)
end Cm
namespace Cm
def Snd (fl:Int × Int × Int) (ms fi:List Int):Prop:=∀c,inC fl c→stB (gI ms c) (gI fi c)=true∧1≤gI fi c∧gI fi c≤fl.2.2
def UnL (cs fi:List Int):Prop:=∀d∈cs,∀e∈cs,d≠e→gI fi d≠gI fi e
end Cm
namespace Cm
section
variable {α β γ:Type}
end
def quH (fl:Int × Int × Int) (c:Int):Bool:=decide (c / fl.2.1<fl.1 - 1)&&decide (c % fl.2.1<fl.2.1 - 1)
def sqL (fl:Int × Int × Int) (c:Int):List Int:=[c,c+1,c+fl.2.1,c+fl.2.1+1]
def qvs (fl:Int × Int × Int):List Int:=(qed (nC fl).toNat).filter (quH fl)
def qvX (fl:Int × Int × Int):List (List Int):=(qvs fl).map (sqL fl)
section
variable {fl:Int × Int × Int}
theorem qoD (hf:FOk fl):(nC fl).toNat≤16:=by
 have:=hf.n
 have e:nC fl=fl.1*fl.2.1:=rfl
 omega
def qu9 (fl:Int × Int × Int) (c:Int):List Int:=if c∈qvs fl then sqL fl c else []
end
def qjj (o:Option RuleT) (fl:Int × Int × Int) (c s:Int) (more:List Int):Bool:=match o with
 |none=>false
 |some r=>decide (r.k=.nosquare)&&(decide (r.sign=s)&&(decide (more.length=1)&&decide (c∈qu9 fl (gI more 0))))
def qnb (fl:Int × Int × Int) (ms:List Int) (c s:Int) (more:List Int):Bool:=(qu9 fl (gI more 0)).all fun d=>decide (d=c)||hoB (gI ms d) s
end Cm
namespace Cm
section
variable {fl:Int × Int × Int} {cs:List Int}
theorem qpI (hf:FOk fl) {c d:Int} (hc:inC fl c) (hd:inC fl d):d∈qgr fl c↔c∈qgr fl d:=by
 rw[qlT hf hc hd,qlT hf hd hc]
 omega
theorem Rch.trans {a b c:Int} (h:Rch fl cs a b) (k:Rch fl cs b c):Rch fl cs a c:=by induction k with
 |base _=>exact h
 |step _ h1 h2 ih=>exact .step ih h1 h2
theorem Rch.symm (hf:FOk fl) (hi:∀x∈cs,inC fl x) {a b:Int} (h:Rch fl cs a b):Rch fl cs b a:=by induction h with
 |base h=>exact .base h
 |step h h1 h2 ih=>exact(Rch.step (.base h2) ((qpI hf (hi _ h.mem) (hi _ h2)).mp h1) h.mem).trans ih
noncomputable def jnB (fl:Int × Int × Int) (cs:List Int):Bool:=dec (∀a∈cs,∀b∈cs,Rch fl cs a b)
theorem qtb {L:List Int} (h:L.Pairwise (· < ·)):L.Nodup:=h.imp fun h e=>by omega
end
def quR (xs:List Int):Int × Int:=xs.foldl (fun s x=>if s.2<x then (s.1+1,x) else s) (0,0)
noncomputable def qti (r:RuleT) (g:Int→Int):Bool:=match r.k with
 |.unlike=>decide (r.cells.map g).Nodup
 |.total=>decide ((r.cells.map g).sum=r.wanted)
 |.rising=>(r.cells.zip (r.cells.drop 1)).all fun p=>decide (g p.1<g p.2)
 |.seen=>decide ((quR (r.cells.map g)).1=r.wanted)
 |.counted=>decide (((r.cells.filter fun d=>decide (g d=r.sign)).length:Int)=r.wanted)
 |.joined=>jnB r.ground (r.cells.filter fun d=>decide (g d=r.sign))
 |.nosquare=>(qvX r.ground).all fun q=>!decide ((q.filter fun d=>decide (g d=r.sign)).length=4)
 |.ring=>((r.cells.filter fun d=>decide (g d=r.sign)).all fun c=>decide (((qgr r.ground c).filter fun d=>decide (d∈r.cells.filter fun d=>decide (g d=r.sign))).length=2))&&jnB r.ground (r.cells.filter fun d=>decide (g d=r.sign))
def qeY:RK→Bool
 |.joined=>true
 |.nosquare=>true
 |.ring=>true
 |_=>false
structure WfR (fl:Int × Int × Int) (r:RuleT):Prop where
 g:r.ground=fl
 cs:CsOk fl r.cells
 w:qeY r.k=true→r.cells=qed (nC fl).toNat
 s:qeY r.k=true∨r.k=.counted→1≤r.sign∧r.sign≤fl.2.2
 s0:¬(qeY r.k=true∨r.k=.counted)→r.sign=0
 n0:0≤r.wanted
 n1:r.wanted<100
 n2:¬(r.k=.total∨r.k=.seen∨r.k=.counted)→r.wanted=0
theorem WfR.inR {fl:Int × Int × Int} (hf:FOk fl) {r:RuleT} (h:WfR fl r):inR fl r:=⟨by have:=h.cs.len hf;omega,h.cs.inn⟩
section
variable {fl:Int × Int × Int} {r:RuleT} {fi:List Int}
end
end Cm
namespace Cm
def qtW:List Int→Int
 |[]=>1
 |x::xs=>x*qtW xs
def lay:List (Int × List Int)→List Int→Int→List Int × Int
 |[],fi,n=>(fi,n)
 |p::os,fi,n=>lay os (fi.set p.1.toNat (gI p.2 (n % (p.2.length:Int)))) (n / (p.2.length:Int))
structure LyOk (n:Nat) (os:List (Int × List Int)):Prop where
 nd:(os.map Prod.fst).Nodup
 inn:∀p∈os,0≤p.1∧p.1<(n:Int)
 ne:∀p∈os,1≤p.2.length∧p.2.length≤6
theorem LyOk.tl {n:Nat} {p:Int × List Int} {os:List (Int × List Int)} (h:LyOk n (p::os)):LyOk n os∧∀q∈os,q.1≠p.1:=by
 have nd:=h.nd
 rw[List.map_cons,List.nodup_cons] at nd
 exact⟨⟨nd.2,fun q hq=>h.inn q (List.mem_cons_of_mem _ hq),fun q hq=>h.ne q (List.mem_cons_of_mem _ hq)⟩,fun q hq e=>nd.1 (List.mem_map.mpr ⟨q,hq,e⟩)⟩
def qol (o:Option RuleT) (c:Int) (more:List Int):Bool:=decide (more=[])&&match o with
 |none=>false
 |some r=>decide (c∈r.cells)
def quA (r:RuleT) (ms:List Int) (c:Int):Int:=qtW ((qrE r c).map fun d=>((sgn (gI ms d)).length:Int))
noncomputable def qqR (r:RuleT) (ms:List Int) (c s:Int):Bool:=decide (quA r ms c≤32)&&dec (∀g:Int→Int,g c=s→(∀d∈qrE r c,g d∈sgn (gI ms d))→qti r g=false)
end Cm
namespace Cm
def qn4:List KK:=[.clue,.only,.place,.count,.step,.sums,.square,.reach,.turn,.pair,.ways]
def KK.w:KK→List Nat
 |.clue=>[99,108,117,101]
 |.only=>[111,110,108,121]
 |.place=>[112,108,97,99,101]
 |.count=>[99,111,117,110,116]
 |.step=>[115,116,101,112]
 |.sums=>[115,117,109]
 |.square=>[115,113,117,97,114,101]
 |.reach=>[114,101,97,99,104]
 |.turn=>[116,117,114,110]
 |.pair=>[112,97,105,114]
 |.ways=>[119,97,121,115]
def qvx (w:List Nat):Option KK:=qn4.find? fun k=>decide (k.w=w)
structure WfP (p:PuzT):Prop where
 f:FOk p.ground
 r:∀r∈p.rules,WfR p.ground r
 c:qmT p.ground p.clues
 n:p.rules.length≤12
def qvA (k:KK) (p:PuzT) (o:Option RuleT) (th:TI):Bool:=match k with
 |.clue=>qof th.2.1 th.2.2.2.2
 |.only=>qnM o th.2.2.1 th.2.2.2.2
 |.place=>ql5 o p.ground.2.2 th.2.2.1 th.2.2.2.1 th.2.2.2.2
 |.count=>qlZ o th.2.2.1 th.2.2.2.2
 |.step=>qn6 o th.2.2.1 th.2.2.2.2
 |.sums=>qqK o th.2.2.1 th.2.2.2.2
 |.square=>qjj o p.ground th.2.2.1 th.2.2.2.1 th.2.2.2.2
 |.reach=>qmh o p.ground th.2.2.1 th.2.2.2.1 th.2.2.2.2
 |.turn=>qng o p.ground th.2.2.1 th.2.2.2.1 th.2.2.2.2
 |.pair=>qop o th.2.2.1 th.2.2.2.2
 |.ways=>qol o th.2.2.1 th.2.2.2.2
noncomputable def qwd (k:KK) (p:PuzT) (ms:List Int) (r:RuleT) (th:TI):Bool:=match k with
 |.clue=>qrm p th.2.2.1 th.2.2.2.1
 |.only=>qr1 ms th.2.2.2.1 th.2.2.2.2
 |.place=>qpR r ms th.2.2.1 th.2.2.2.2
 |.count=>qpX r ms th.2.2.1 th.2.2.2.1
 |.step=>qrQ r ms th.2.2.1 th.2.2.2.1
 |.sums=>qud r ms th.2.2.1 th.2.2.2.1
 |.square=>qnb p.ground ms th.2.2.1 th.2.2.2.1 th.2.2.2.2
 |.reach=>qpy r p.ground ms th.2.2.1 th.2.2.2.1 th.2.2.2.2
 |.turn=>qrb r p.ground ms th.2.2.1 th.2.2.2.1 th.2.2.2.2
 |.pair=>qrl ms th.2.2.2.1 th.2.2.2.2
 |.ways=>qqR r ms th.2.2.1 th.2.2.2.1
def noR:RuleT:=⟨.unlike,(1,1,1),[],0,0⟩
noncomputable def qvV (k:KK) (p:PuzT) (ms:List Int) (th:TI):Bool:=qwd k p ms ((qer p th.2.1).getD noR) th
noncomputable def alB (p:PuzT) (ms:List Int) (th:TI):Bool:=match qvx th.1 with
 |none=>false
 |some k=>qqf p th.2.2.1 th.2.2.2.1&&(qvA k p (qer p th.2.1) th&&qvV k p ms th)
theorem qlN {p:PuzT} {c s:Int}:qqf p c s=true↔inC p.ground c∧1≤s∧s≤p.ground.2.2:=by
 unfold qqf
 rw[decide_eq_true_eq]
 exact⟨fun⟨a,b,c,d⟩=>⟨⟨a,b⟩,c,d⟩,fun⟨⟨a,b⟩,c,d⟩=>⟨a,b,c,d⟩⟩
section
variable {p:PuzT} {ms:List Int} {th:TI}
end
end Cm
namespace Cm
def qvh (k:KK) (p:PuzT) (r:RuleT) (th:TI):List Int:=match k with
 |.clue=>[]
 |.only=>th.2.2.2.2
 |.step=>qe5 ((match qqn r.cells th.2.2.1 with
  |some d=>[d]
  |none=>[])++match qnc r.cells th.2.2.1 with
  |some d=>[d]
  |none=>[])
 |.square=>(qu9 p.ground (gI th.2.2.2.2 0)).filter fun d=>!decide (d=th.2.2.1)
 |.reach=>(qed (nC p.ground).toNat).filter fun d=>!decide (d=th.2.2.1)
 |.turn=>if th.2.2.2.2=[] then qgr p.ground th.2.2.1 else qe5 ((qgr p.ground (gI th.2.2.2.2 0)++[gI th.2.2.2.2 0]).filter fun d=>!decide (d=th.2.2.1))
 |.pair=>qe5 th.2.2.2.2
 |_=>qe5 (qrE r th.2.2.1)
def Sb (m' m:Int):Prop:=∀t,1≤t→stB m' t=true→stB m t=true
theorem Sb.refl (m:Int):Sb m m:=fun _ _ h=>h
theorem Sb.ho {m' m s:Int} (h:Sb m' m) (s1:1≤s) (k:hoB m s=true):hoB m' s=true:=(qow s1).mpr fun t t1 ht=>(qow s1).mp k t t1 (h t t1 ht)
theorem Sb.sg {m' m:Int} (h:Sb m' m):∀t∈sgn m',t∈sgn m:=fun t ht=>by
 obtain⟨⟨a,b⟩,c⟩:=qm7.mp ht
 exact qm7.mpr ⟨⟨a,b⟩,h t a c⟩
theorem qs3 (m:Int):(sgn m).Nodup:=qtb (qsj m)
theorem Sb.ln {m' m:Int} (h:Sb m' m):(sgn m').length≤(sgn m).length:=qoI (qs3 m') h.sg
section
variable {p:PuzT} {ms ms':List Int} {th:TI}
def qwy (p:PuzT) (th:TI):List Int:=match qvx th.1 with
 |none=>[]
 |some k=>qvh k p ((qer p th.2.1).getD noR) th
end
end Cm
namespace Cm
section
variable {p:PuzT} {ms fi:List Int} {th:TI}
end
end Cm
namespace Cm
theorem qiG (n:Nat):(qed n).Nodup:=qtb (qqP n)
theorem qkF {x:Int} (h0:0≤x) (h1:x<100):(dgI x).length≤2:=(ql1 _ (by omega)).1
theorem qny (w:List Nat) {ns:List Int} (h:ns≠[]):qoV w ns=w++([32]++TL.joinL [32] (ns.map dgI)):=by
 obtain⟨a,as,rfl⟩:=List.exists_cons_of_ne_nil h
 unfold qoV
 simp[TL.joinL,List.append_assoc]
def qgj (r:RuleT):List Int:=match r.k with
 |.unlike=>r.cells
 |.rising=>r.cells
 |.total=>r.wanted::r.cells
 |.seen=>r.wanted::r.cells
 |.counted=>r.wanted::r.sign::r.cells
 |_=>[r.sign]
def qdi (r:RuleT):List Nat:=qoV r.k.w (qgj r)
theorem qja (k:RK):k.w∈wordsL:=by cases k<;>decide
theorem RuleT.ext' {r s:RuleT} (h1:r.k=s.k) (h2:r.ground=s.ground) (h3:r.cells=s.cells) (h4:r.wanted=s.wanted) (h5:r.sign=s.sign):r=s:=by
 obtain⟨_,_,_,_,_⟩:=r
 obtain⟨_,_,_,_,_⟩:=s
 simp only at h1 h2 h3 h4 h5
 subst h1;subst h2;subst h3;subst h4;subst h5;rfl
section
variable {fl:Int × Int × Int}
theorem qeB (hf:FOk fl) {r:RuleT} (hr:WfR fl r):(qgj r).length≤18∧(∀n∈qgj r,0≤n∧n<100)∧qgj r≠[]:=by
 have l:=hr.cs.len hf
 have s6:=hf.s2
 have n:=qoD hf
 have ci:∀c∈r.cells,0≤c∧c<100:=fun c hc=>by
  have:=hr.cs.inn c hc
  exact⟨this.1,by have:=this.2;omega⟩
 have n0:=hr.n0
 have n1:=hr.n1
 unfold qgj
 cases hk:r.k with
 |unlike=>exact⟨by show r.cells.length≤18;omega,ci,hr.cs.ne⟩
 |rising=>exact⟨by show r.cells.length≤18;omega,ci,hr.cs.ne⟩
 |total=>exact⟨by simp only[List.length_cons];omega,fun x hx=>by rcases List.mem_cons.mp hx with q | q;omega;exact ci x q,by simp⟩
 |seen=>exact⟨by simp only[List.length_cons];omega,fun x hx=>by rcases List.mem_cons.mp hx with q | q;omega;exact ci x q,by simp⟩
 |counted =>
  have:=hr.s (.inr hk)
  exact⟨by simp only[List.length_cons];omega,fun x hx=>by
   rcases List.mem_cons.mp hx with q | q
   ·omega
   ·rcases List.mem_cons.mp q with q | q
    ·omega
    ·exact ci x q,by simp⟩
 |joined =>
  have:=hr.s (.inl (by rw[hk];rfl))
  exact⟨by simp,fun x hx=>by rw[List.mem_singleton.mp hx];omega,by simp⟩
 |nosquare =>
  have:=hr.s (.inl (by rw[hk];rfl))
  exact⟨by simp,fun x hx=>by rw[List.mem_singleton.mp hx];omega,by simp⟩
 |ring =>
  have:=hr.s (.inl (by rw[hk];rfl))
  exact⟨by simp,fun x hx=>by rw[List.mem_singleton.mp hx];omega,by simp⟩
theorem qkm (hf:FOk fl) {r:RuleT} (hr:WfR fl r):F.read_rule fl (eS (qdi r))=.ok r:=by
 obtain⟨t1,t2,_⟩:=qeB hf hr
 show F.read_rule fl (.str (qoV r.k.w (qgj r)))=_
 rw[qp2 (qja r.k) (by omega) t2]
 unfold qgj
 cases hk:r.k with
 |unlike =>
  have:=qm1 hf hr.cs
  refine this.trans (congrArg RE.ok (RuleT.ext' hk.symm hr.g.symm rfl ?_ ?_))
  ·exact(hr.n2 (by rw[hk];decide)).symm
  ·exact(hr.s0 (by rw[hk];decide)).symm
 |rising =>
  have:=qoB hf hr.cs
  refine this.trans (congrArg RE.ok (RuleT.ext' hk.symm hr.g.symm rfl ?_ ?_))
  ·exact(hr.n2 (by rw[hk];decide)).symm
  ·exact(hr.s0 (by rw[hk];decide)).symm
 |total =>
  have:=qsU (n:=r.wanted) hf hr.cs
  exact this.trans (congrArg RE.ok (RuleT.ext' hk.symm hr.g.symm rfl rfl (hr.s0 (by rw[hk];decide)).symm))
 |seen =>
  have:=qkY (n:=r.wanted) hf hr.cs
  exact this.trans (congrArg RE.ok (RuleT.ext' hk.symm hr.g.symm rfl rfl (hr.s0 (by rw[hk];decide)).symm))
 |counted =>
  have s:=hr.s (.inr hk)
  have:=qpr (n:=r.wanted) hf hr.cs s.1 s.2
  exact this.trans (congrArg RE.ok (RuleT.ext' hk.symm hr.g.symm rfl rfl rfl))
 |joined =>
  have wk:qeY r.k=true:=by rw[hk];rfl
  have s:=hr.s (.inl wk)
  have:=qi2 hf s.1 s.2 (w:=RK.joined.w) (by decide)
  refine this.trans (congrArg RE.ok (RuleT.ext' hk.symm hr.g.symm (hr.w wk).symm ?_ rfl))
  exact(hr.n2 (by rw[hk];decide)).symm
 |nosquare =>
  have wk:qeY r.k=true:=by rw[hk];rfl
  have s:=hr.s (.inl wk)
  have:=qi2 hf s.1 s.2 (w:=RK.nosquare.w) (by decide)
  refine this.trans (congrArg RE.ok (RuleT.ext' hk.symm hr.g.symm (hr.w wk).symm ?_ rfl))
  exact(hr.n2 (by rw[hk];decide)).symm
 |ring =>
  have wk:qeY r.k=true:=by rw[hk];rfl
  have s:=hr.s (.inl wk)
  have:=qi2 hf s.1 s.2 (w:=RK.ring.w) (by decide)
  refine this.trans (congrArg RE.ok (RuleT.ext' hk.symm hr.g.symm (hr.w wk).symm ?_ rfl))
  exact(hr.n2 (by rw[hk];decide)).symm
theorem qgF {k:RK} {cs:List Int} {n s:Int} (hk:qeY k=false) (hc:CsOk fl cs) (hs:k=.counted→1≤s∧s≤fl.2.2) (h0:k≠.counted→s=0) (n0:0≤n) (n1:n<100) (n2:¬(k=.total∨k=.seen∨k=.counted)→n=0):WfR fl ⟨k,fl,cs,n,s⟩:=
 ⟨rfl,hc,fun h=>(by rw[hk] at h;cases h),fun h=>(by rcases h with h | h;rw[hk] at h;cases h;exact hs h),fun h=>h0 fun e=>h (.inr e),n0,n1,n2⟩
theorem csU (hf:FOk fl):CsOk fl (qed (nC fl).toNat):=by
 have n1:=hf.n1
 refine⟨?_,qiG _,fun c hc=>?_⟩
 ·intro e
  have:=qaX (nC fl).toNat
  rw[e] at this
  simp only[List.length_nil] at this
  omega
 ·have:=qey.mp hc
  exact⟨this.1,by omega⟩
theorem qjS {cs:List Int} (hc:CsOk fl cs):WfR fl ⟨.unlike,fl,cs,0,0⟩:=qgF rfl hc (fun h=>nomatch h) (fun _=>rfl) (by decide) (by decide) fun _=>rfl
theorem qj9 {cs:List Int} (hc:CsOk fl cs):WfR fl ⟨.rising,fl,cs,0,0⟩:=qgF rfl hc (fun h=>nomatch h) (fun _=>rfl) (by decide) (by decide) fun _=>rfl
theorem qpH {cs:List Int} {n:Int} (hc:CsOk fl cs) (n0:0≤n) (n1:n<100):WfR fl ⟨.total,fl,cs,n,0⟩:=qgF rfl hc (fun h=>nomatch h) (fun _=>rfl) n0 n1 fun h=>absurd (.inl rfl) h
theorem qr5 {cs:List Int} {n:Int} (hc:CsOk fl cs) (n0:0≤n) (n1:n<100):WfR fl ⟨.seen,fl,cs,n,0⟩:=qgF rfl hc (fun h=>nomatch h) (fun _=>rfl) n0 n1 fun h=>absurd (.inr (.inl rfl)) h
theorem qmv {cs:List Int} {n s:Int} (hc:CsOk fl cs) (n0:0≤n) (n1:n<100) (s1:1≤s) (s2:s≤fl.2.2):WfR fl ⟨.counted,fl,cs,n,s⟩:=qgF rfl hc (fun _=>⟨s1,s2⟩) (fun h=>absurd rfl h) n0 n1 fun h=>absurd (.inr (.inr rfl)) h
theorem qpp (hf:FOk fl) {k:RK} {s:Int} (hk:qeY k=true) (s1:1≤s) (s2:s≤fl.2.2):WfR fl ⟨k,fl,qed (nC fl).toNat,0,s⟩:=
 ⟨rfl,csU hf,fun _=>rfl,fun _=>⟨s1,s2⟩,fun h=>absurd (.inl hk) h,Int.le_refl _,(by decide:(0:Int)<100),fun _=>rfl⟩
theorem qvq {k:RK} {cs:List Int} {n s:Int} (hk:qeY k=true):qdi ⟨k,fl,cs,n,s⟩=k.w++([32]++dgI s):=by
 have:qdi ⟨k,fl,cs,n,s⟩=qoV k.w [s]:=by
  unfold qdi qgj
  cases k<;>first | rfl | cases hk
 rw[this,qny _ (by simp)]
 rfl
end
def ThP (k:Nat) (L:List TI):Prop:=L.length≤k∧∀th∈L,th.2.2.2.2.length≤2
theorem ThP.app {k:Nat} {L:List TI} {th:TI} (h:ThP k L) (hl:th.2.2.2.2.length≤2) (hk:k<1000):qfA L th=.ok (L++[th])∧ThP (k+1) (L++[th]):=by
 refine⟨qm8 (by have:=h.1;omega),by have:=h.1;rw[List.length_append,List.length_singleton];omega,fun x hx=>?_⟩
 rcases List.mem_append.mp hx with q | q
 ·exact h.2 x q
 ·rw[List.mem_singleton.mp q];exact hl
theorem ThP.mono {k j:Nat} {L:List TI} (h:ThP k L) (hk:k≤j):ThP j L:=⟨by have:=h.1;omega,h.2⟩
end Cm
namespace Cm
def qwQ (k:KK) (p:PuzT) (th:TI):Prop:=match k with
 |.place=>∃r,qer p th.2.1=some r
 |.count=>∃r,qer p th.2.1=some r
 |.sums=>∃r,qer p th.2.1=some r
 |.ways=>∃r,qer p th.2.1=some r
 |.step=>∃r,qer p th.2.1=some r∧th.2.2.1∈r.cells
 |.square=>th.2.2.2.2≠[]
 |_=>True
theorem qru {fl:Int × Int × Int} {os:List Int} {k:Nat} (hp:os.Perm (qed (nC fl).toNat)) (n1:1≤nC fl) (hk:1≤k):CsOk fl (os.take k):=by
 have nd:=hp.nodup_iff.mpr (qiG _)
 have ol:=hp.length_eq
 rw[qaX] at ol
 refine⟨?_,nd.sublist (List.take_sublist _ _),fun c hc=>?_⟩
 ·intro e
  have:=congrArg List.length e
  rw[List.length_take,List.length_nil] at this
  omega
 ·have:=qey.mp (hp.mem_iff.mp (List.mem_of_mem_take hc))
  exact⟨this.1,by omega⟩
end Cm
namespace Cm
def zc (cs:List Int):Nat:=cs.count 0
def qvC (s:Int):List (Int × Int)→Int→List Int
 |[],_=>[]
 |p::r,i=>(if p.1=0 then 1+(p.2+i / s ^ zc (r.map Prod.fst)) % s else p.1)::qvC s r i
def qwJ (s:Int):List (Int × Int)→List Int→Prop
 |[],[]=>True
 |p::r,x::g=>(if p.1=0 then 1≤x∧x≤s else x=p.1)∧qwJ s r g
 |_,_=>False
def qws (s:Int):List (Int × Int)→List Int→Int
 |p::r,x::g=>(if p.1=0 then (x - 1 - p.2) % s*s ^ zc (r.map Prod.fst) else 0)+qws s r g
 |_,_=>0
section
variable {s:Int}
end
def mtB (p:PuzT) (g:List Int):Bool:=match F.Puzzle_meets p g with
 |.ok b=>b
 |_=>false
def nFl (p:PuzT):Int:=p.ground.2.2 ^ zc p.clues
def flo (p:PuzT) (st:List Int):List (List Int):=(qed (nFl p).toNat).map (qvC p.ground.2.2 (p.clues.zip st))
section
variable {p:PuzT}
def qxc (p:PuzT) (st:List Int):List (List Int):=(flo p st).filter (mtB p)
end
end Cm
namespace Cm
section
variable {p:PuzT} {ms:List Int} {c s:Int}
def qv2 (L:List (List Int)):Prop:=L.length≤300∧∀m∈L,m.length≤2
def MSg (fl:Int × Int × Int) (ms:List Int):Prop:=∀m∈ms,m<((2 ^ fl.2.2.toNat:Nat):Int)
def qv9 (p:PuzT) (ms:List Int) (k:KK) (n c s:Int):List (List Int):=match F.m_mores k p ms (qer p n) c s with
 |.ok L=>L
 |_=>[]
noncomputable def qvN (p:PuzT) (ms:List Int) (k:KK) (n c:Int):Option TI:=(sgn (gI ms c)).findSome? fun s=>(qv9 p ms k n c s).findSome? fun m=>if alB p ms (k.w,n,c,s,m)=true then some (k.w,n,c,s,m) else none
end
end Cm
namespace Cm
section
variable {p:PuzT} {ms:List Int}
def qv0 (ws:List (List Nat)):List KK:=qn4.filter fun k=>decide (k.w∈ws)
def qtY:KK→RK→Bool
 |.only,k=>decide (k=.unlike)
 |.place,k=>decide (k=.unlike)
 |.pair,k=>decide (k=.unlike)
 |.count,k=>decide (k=.counted)
 |.step,k=>decide (k=.rising)
 |.sums,k=>decide (k=.total)
 |.square,k=>decide (k=.nosquare)
 |.reach,k=>decide (k=.joined∨k=.ring)
 |.turn,k=>decide (k=.ring)
 |.clue,_=>true
 |.ways,_=>true
def qxb (r:RE Bool) (b:Bool):Bool:=match r with
 |.ok c=>c == b
 |_=>false
noncomputable def nK (p:PuzT) (ms:List Int) (k:KK):Option TI:=
 if k=.clue then (qed (nC p.ground).toNat).findSome? (qvN p ms k 0)
 else (qed p.rules.length).findSome? fun n=>match qer p n with
  |some r=>if qtY k r.k=true then (qe5 r.cells).findSome? (qvN p ms k n) else none
  |none=>none
noncomputable def nT (p:PuzT) (ms:List Int) (ws:List (List Nat)):Option TI:=if 0∈ms then none else (qv0 ws).findSome? (nK p ms)
end
end Cm
namespace Cm
section
variable {p:PuzT} {ms:List Int}
end
end Cm
namespace Cm
section
variable {fl:Int × Int × Int} {ms:List Int} {c s:Int}
theorem quQ {m:Int} (m0:0≤m) (h:stB m s=true):((2 ^ (s - 1).toNat:Nat):Int)≤m:=by
 unfold stB at h
 have:=Nat.ge_two_pow_of_testBit h
 omega
def stk (ms:List Int) (c s:Int):List Int:=ms.set c.toNat (gI ms c - ((2 ^ (s - 1).toNat:Nat):Int))
theorem qnF (hm:MOk fl ms) (hc:inC fl c) (h:stB (gI ms c) s=true):MOk fl (stk ms c s):=by
 have b:=hm.b hc
 have l:=quQ b.1 h
 have p:=Nat.two_pow_pos (s - 1).toNat
 refine⟨by unfold stk;rw[List.length_set];exact hm.1,fun m hx=>?_⟩
 unfold stk at hx
 rcases List.mem_or_eq_of_mem_set hx with q | q
 ·exact hm.2 m q
 ·rw[q];omega
end
end Cm
namespace Cm
section
variable {p:PuzT} {ms:List Int} {ws:List (List Nat)}
def Nx (p:PuzT) (ws:List (List Nat)) (ms:List Int) (th:TI):Prop:=alB p ms th=true∧stB (gI ms th.2.2.1) th.2.2.2.1=true∧(∃k:KK,th.1=k.w∧k.w∈ws)∧0∉ms
inductive Steps (p:PuzT) (ws:List (List Nat)) (ms:List Int):List TI→List Int→Prop
 |nil:Steps p ws ms [] ms
 |snoc {book:List TI} {left:List Int} {th:TI}:Steps p ws ms book left→nT p left ws=some th→Steps p ws ms (book++[th]) (stk left th.2.2.1 th.2.2.2.1)
def wgt (ms:List Int):Nat:=(ms.map Int.toNat).sum
end
end Cm
namespace Cm
variable {fl:Int × Int × Int} {p:PuzT}
theorem qom (hf:FOk fl) {r:RuleT} (hr:WfR fl r):qjs [32] (r.k.w::(qgj r).map dgI)=.ok (qdi r):=by
 have h:=qeB hf hr
 have hw:r.k.w.length≤8:=(qfz _ (qja r.k)).2.1
 rw[qlE (b:=8) (fun w hw'=>?_) (by simp;omega)]
 ·rfl
 ·rcases List.mem_cons.mp hw' with q | q
  ·rw[q];exact hw
  ·obtain⟨n,hn,rfl⟩:=List.mem_map.mp q
   have:=qkF (h.2.1 n hn).1 (h.2.1 n hn).2
   omega
theorem qrM (hf:FOk fl) {r:RuleT} (hr:WfR fl r):F.m_told_numbers r=.ok (qgj r):=by
 have h:=(qeB hf hr).1
 obtain⟨k,a,b,c,d⟩:=r
 cases k
 case unlike=>rfl
 case rising=>rfl
 case joined=>rfl
 case nosquare=>rfl
 case ring=>rfl
 case total=>exact qbN (by have:((c::b).length)≤18:=h;simp at this ⊢;omega)
 case seen=>exact qbN (by have:((c::b).length)≤18:=h;simp at this ⊢;omega)
 case counted=>exact qbN (by have:((c::d::b).length)≤18:=h;simp at this ⊢;omega)
theorem qpj (hf:FOk fl) {r:RuleT} (hr:WfR fl r):F.Rule_line r=.ok (qdi r):=by
 have h:=qeB hf hr
 unfold F.Rule_line
 rw[qrR,qrM hf hr]
 simp only[RE.bind_ok]
 rw[gdl (by omega),qel (g:=dgI) fun c hc=>qef (h.2.1 c hc).1 (h.2.1 c hc).2]
 simp only[RE.bind_ok]
 rw[qbN (by simp;omega)]
 exact qom hf hr
theorem qjK (hp:WfP p):F.Puzzle_lines p=.ok (p.rules.map qdi):=by
 unfold F.Puzzle_lines
 simp only[RE.bind_ok]
 rw[gdl (by have:=hp.n;omega),qel (g:=qdi) fun r hr=>qpj hp.f (hp.r r hr)]
theorem qsd {s:List Nat} (h:∀c∈s,c<1000):PySem.PyData.strOk ⟨s.toArray⟩=true:=by
 unfold PySem.PyData.strOk
 simp only[List.all_toArray,List.all_eq_true,decide_eq_true_eq]
 intro c hc
 have:=h c hc
 omega
theorem ql3 {b s:Nat} (hb:s<b):∀{ws:List (List Nat)},(∀w∈ws,∀c∈w,c<b)→∀c∈TL.joinL [s] ws,c<b
 |[],_=>by simp[TL.joinL]
 |[p],h=>by simpa[TL.joinL] using h p (by simp)
 |p::q::r,h=>by
  intro c hc
  simp only[TL.joinL,List.mem_append,List.mem_cons,List.not_mem_nil,or_false] at hc
  rcases hc with hc | hc | hc
  ·exact h p (by simp) c hc
  ·omega
  ·exact ql3 hb (ws:=q::r) (fun w hw=>h w (List.mem_cons_of_mem _ hw)) c hc
theorem qp6:∀w∈wordsL,∀c∈w,c<256:=by decide +kernel
theorem qsS {x:Int} (h0:0≤x) (h1:x<100):∀c∈dgI x,c<256:=fun c hc=>by
 have:=qm5 x.toNat (by omega) c hc
 omega
theorem qqQ (hf:FOk fl) {r:RuleT} (hr:WfR fl r):∀c∈qdi r,c<256:=by
 have h:=(qeB hf hr).2.1
 refine ql3 (b:=256) (s:=32) (by decide) fun w hw=>?_
 rcases List.mem_cons.mp hw with rfl | hw
 ·exact qp6 _ (qja r.k)
 ·obtain⟨n,hn,rfl⟩:=List.mem_map.mp hw
  exact qsS (h n hn).1 (h n hn).2
theorem qhn {k:Nat}:∀{xs:List (List Nat)},(∀x∈xs,∀c∈x,c<256)→D.fits (xs.map eS) k=true
 |[],_=>rfl
 |x::xs,h=>by
  rw[List.map_cons,D.fits,qhn fun y hy=>h y (List.mem_cons_of_mem _ hy)]
  show(PySem.PyData.strOk ⟨x.toArray⟩&&true)=true
  rw[qsd fun c hc=>by have:=h x (by simp) c hc;omega];rfl
theorem qjW:∀(xs ys:List (List Nat)),D.eqbs (xs.map eS) (ys.map eS)=decide (xs=ys)
 |[],[]=>by simp[D.eqbs]
 |[],_::_=>by simp[D.eqbs]
 |_::_,[]=>by simp[D.eqbs]
 |x::xs,y::ys=>by
  rw[List.map_cons,List.map_cons,D.eqbs,qjW xs ys]
  show(decide (x=y)&&_)=_
  by_cases e:x=y
  ·subst e;simp
  ·simp[e]
theorem qrX {xs ys:List (List Nat)} (hx:∀x∈xs,∀c∈x,c<256) (hy:∀x∈ys,∀c∈x,c<256):evC .eq ((eL eS) xs) ((eL eS) ys)=.ok (decide (xs=ys)):=by
 show(if ((D.lst (xs.map eS)).fit 64&&(D.lst (ys.map eS)).fit 64)=true then RE.ok ((D.lst (xs.map eS)).eqb (D.lst (ys.map eS))) else .bad)=_
 rw[if_pos (by simp[D.fit,qhn hx,qhn hy])]
 rw[D.eqb]
 exact congrArg RE.ok (qjW xs ys)
end Cm
namespace Cm
section
variable {p:PuzT} {ms:List Int} {ws:List (List Nat)} {th:TI}
theorem qsT (h:alB p ms th=true):qqf p th.2.2.1 th.2.2.2.1=true∧th.2.2.2.2.length≤2:=by
 unfold alB at h
 split at h
 ·cases h
 ·rename_i k _
  simp only[Bool.and_eq_true] at h
  refine⟨h.1,?_⟩
  have f:=h.2.1
  generalize qer p th.2.1=o at f
  cases k<;>unfold qvA at f<;>simp only[qof,qnM,ql5,qlZ,qn6,qqK,qjj,qmh,qng,qop,qol,Bool.and_eq_true,decide_eq_true_eq] at f
  case clue=>rw[f.2];simp
  case count=>rw[f.1];simp
  case step=>rw[f.1];simp
  case sums=>rw[f.1];simp
  case ways=>rw[f.1];simp
  all_goals (cases o<;>simp only[Bool.and_eq_true,decide_eq_true_eq] at f<;>try exact absurd f Bool.false_ne_true)
  case h_2.only.some=>omega
  case h_2.place.some=>omega
  case h_2.square.some=>omega
  case h_2.pair.some=>omega
  case h_2.reach.some=>have:=f.2.1;split at this<;>omega
  case h_2.turn.some =>
   have:=f.2
   split at this
   ·rename_i e;rw[e];simp
   ·simp only[Bool.and_eq_true,decide_eq_true_eq] at this;omega
inductive Run (p:PuzT) (ws:List (List Nat)):List TI→List Int→List Int→Prop
 |nil {ms:List Int}:Run p ws [] ms ms
 |cons {ms left:List Int} {th:TI} {ths:List TI}:nT p ms ws=some th→Run p ws ths (stk ms th.2.2.1 th.2.2.2.1) left→Run p ws (th::ths) ms left
theorem Run.app {a b c:List Int} {xs ys:List TI} (h:Run p ws xs a b) (k:Run p ws ys b c):Run p ws (xs++ys) a c:=by
 induction h with
 |nil=>exact k
 |cons nx _ ih=>exact .cons nx (ih k)
theorem Steps.run {book:List TI} {left:List Int} (h:Steps p ws ms book left):Run p ws book ms left:=by
 induction h with
 |nil=>exact .nil
 |snoc _ nx ih=>exact ih.app (.cons nx .nil)
end
end Cm
namespace Cm
section
variable {p:PuzT} {ms:List Int} {ws:List (List Nat)} {fl:Int × Int × Int}
def qua (fl:Int × Int × Int):Int:=((2 ^ fl.2.2.toNat:Nat):Int) - 1
def qw3 (fl:Int × Int × Int) (v:Int):Int:=if 0<v then ((2 ^ (v - 1).toNat:Nat):Int) else qua fl
theorem qlM {α:Type} {xs:List α} {i:Nat} {q:Int × α} (h:(qiV xs)[i]? = some q):q.1=i∧xs[i]? = some q.2:=by
 unfold qiV at h
 rw[List.getElem?_map,List.getElem?_zipIdx] at h
 cases e:xs[i]? with
 |none=>rw[e] at h;cases h
 |some x =>
  rw[e] at h
  simp at h
  subst h
  exact⟨rfl,rfl⟩
end
end Cm
namespace Cm
theorem qq8:∀n<100,isI (qno (dg n)) n=true:=by decide +kernel
theorem int_ok {n:Int} (h0:0≤n) (h1:n<100):qno (dgI n)=.ok n:=by
 have:=qqj (qq8 n.toNat (by omega))
 unfold dgI
 rw[this]
 congr 1
 omega
def trn:Nat→Int × Int × Int × Int→Int × Int × Int × Int
 |0,s=>s
 |n+1,s=>trn n (s.2.1,s.1,s.2.2.2,s.1 - 1 - s.2.2.1)
structure InS (s:Int × Int × Int × Int):Prop where
 h:1≤s.1∧s.1≤6
 w:1≤s.2.1∧s.2.1≤6
 r:0≤s.2.2.1∧s.2.2.1<s.1
 c:0≤s.2.2.2∧s.2.2.2<s.2.1
def spS (fl:Int × Int × Int) (mv c:Int):Int × Int × Int × Int:=trn (mv.fmod 4).toNat (fl.1,fl.2.1,c / fl.2.1,if 3<mv then fl.2.1 - 1 - c % fl.2.1 else c % fl.2.1)
def spF (fl:Int × Int × Int) (mv c:Int):Int:=(spS fl mv c).2.2.1*(spS fl mv c).2.1+(spS fl mv c).2.2.2
def grF (fl:Int × Int × Int) (mv:Int):Int × Int × Int:=if mv.fmod 2=1 then (fl.2.1,fl.1,fl.2.2) else fl
section
variable {fl:Int × Int × Int} {mv:Int}
def qw5 (fl:Int × Int × Int) (sg:List Int):Prop:=sg.Perm (qh6 1 (fl.2.2+1))
def qw4 (fl:Int × Int × Int) (mv:Int) (sg:List Int) (r:RuleT):RuleT:=match r.k with
 |.unlike=>⟨.unlike,grF fl mv,r.cells.map (spF fl mv),0,0⟩
 |.rising=>⟨.rising,grF fl mv,r.cells.map (spF fl mv),0,0⟩
 |.total=>⟨.total,grF fl mv,r.cells.map (spF fl mv),r.wanted,0⟩
 |.seen=>⟨.seen,grF fl mv,r.cells.map (spF fl mv),r.wanted,0⟩
 |.counted=>⟨.counted,grF fl mv,r.cells.map (spF fl mv),r.wanted,gI sg (r.sign - 1)⟩
 |.joined=>⟨.joined,grF fl mv,qed (nC (grF fl mv)).toNat,0,gI sg (r.sign - 1)⟩
 |.nosquare=>⟨.nosquare,grF fl mv,qed (nC (grF fl mv)).toNat,0,gI sg (r.sign - 1)⟩
 |.ring=>⟨.ring,grF fl mv,qed (nC (grF fl mv)).toNat,0,gI sg (r.sign - 1)⟩
variable {r:RuleT} {sg:List Int}
def rcK:RK→Bool
 |.total=>true
 |.rising=>true
 |.seen=>true
 |_=>false
end
end Cm
namespace Cm
section
variable {p:PuzT}
inductive Fol (p:PuzT):List TI→List Int→List Int→Prop
 |nil {ms:List Int}:Fol p [] ms ms
 |cons {ms left:List Int} {th:TI} {ths:List TI}:alB p ms th=true→stB (gI ms th.2.2.1) th.2.2.2.1=true→0∉ms→(∃k:KK,th.1=k.w)→Fol p ths (stk ms th.2.2.1 th.2.2.2.1) left→Fol p (th::ths) ms left
theorem Fol.app {xs ys:List TI} {a b c:List Int} (h:Fol p xs a b) (k:Fol p ys b c):Fol p (xs++ys) a c:=by
 induction h with
 |nil=>exact k
 |cons h1 h2 h3 h4 _ ih=>exact .cons h1 h2 h3 h4 (ih k)
theorem Fol.ok {xs:List TI} {a b:List Int} (h:Fol p xs a b) (hm:MOk p.ground a):MOk p.ground b:=by
 induction h with
 |nil=>exact hm
 |cons h1 h2 h3 _ _ ih=>exact ih (qnF hm (qlN.mp (qsT h1).1).1 h2)
theorem qsn (k:KK):¬k.w=[115,117,112,112,111,115,101]:=by cases k<;>decide
end
end Cm
namespace Cm
abbrev THT:Type:=List Nat × Int × Int × Int × List D
def qxh (fo:PuzT→List Int→THT→RE (Option (List Int))) (ae:PuzT) (aj:List Int) (aP:List D):RE (Option (List Int)):=
 (RE.ok (aj:List Int)).bind fun aq=>Fl.bR ((qbC (List.length aP:Int)).bind fun y41=>qcm (fun(aC:Int) (s17:List Int)=>((atE aP aC).bind fun ah=>(F.clashes s17).bind fun k18=>if k18=true then (RE.ok (.rt (none:Option (List Int)))) else (((((RE.ok ae).bind fun x20=>(dTH ah).bind fun x21=>F.is_in_bounds x20 x21).bind fun x22=>RE.ok (!x22)).bind fun k26=>if k26=true then RE.ok true else ((RE.ok ae).bind fun x23=>(RE.ok s17).bind fun x24=>(dTH ah).bind fun x25=>F.is_standing x23 x24 x25)).bind fun k27=>if k27=true then (((RE.ok ae).bind fun x28=>(RE.ok s17).bind fun x29=>(dTH ah).bind fun x30=>fo x28 x29 x30).bind fun b6=>(RE.ok b6.isSome).bind fun k31=>if k31=true then ((((unO b6).bind fun x33=>qeE [aC] x33).bind fun x34=>RE.ok ((some) x34)).bind fun x35=>RE.ok (.rt x35)) else (((RE.ok s17).bind fun x36=>((qlW ah 2).bind dI).bind fun x37=>((qlW ah 3).bind dI).bind fun x38=>F.struck x36 x37 x38).bind fun aq=>RE.ok (.nx aq))) else (RE.ok (.nx s17))):RE (Fl (Option (List Int)) (List Int)))) y41 aq) fun(p39:List Int)=>(F.clashes p39).bind fun k40=>if k40=true then (RE.ok (none:Option (List Int))) else (RE.ok (some []))
def qwV (fi:PuzT→List Int→List D→RE (Option (List Int))) (ae:PuzT) (aj:List Int) (ah:THT):RE (Option (List Int)):=
 (RE.ok (!decide (ah.1=([115,117,112,112,111,115,101])))).bind fun k1=>if k1=true then ((F.allowed ae aj ah).bind fun k2=>if k2=true then (RE.ok (none:Option (List Int))) else (RE.ok (some []))) else (((RE.ok (!decide (ah.2.1=0))).bind fun k5=>if k5=true then RE.ok true else (((F.is_in_bounds ae ah).bind fun x3=>RE.ok (!x3)).bind fun k4=>if k4=true then RE.ok true else (RE.ok (decide ((List.length ah.2.2.2.2:Int)=0))))).bind fun k6=>if k6=true then (RE.ok (some [])) else ((RE.ok (aj:List Int)).bind fun aq=>((quS 1 (ah.2.2.2.1 - 1)).bind fun x7=>(RE.ok ah.2.2.1).bind fun x8=>qqC aq x8 x7).bind fun aq=>fi ae aq ah.2.2.2.2))
abbrev SUP:List Nat:=[115,117,112,112,111,115,101]
def fiL (lo:List Int→THT→Bool) (p:PuzT):List D→List Int→Bool
 |[],ms=>decide (0∈ms)
 |d::ds,ms=>if 0∈ms then true else match dTH d with
  |.ok t=>if (qqf p t.2.2.1 t.2.2.2.1 && !stB (gI ms t.2.2.1) t.2.2.2.1)=true then fiL lo p ds ms else if lo ms t=true then fiL lo p ds (stk ms t.2.2.1 t.2.2.2.1) else false
  |_=>false
noncomputable def lb0 (p:PuzT) (ms:List Int) (t:THT):Bool:=match dT5 (dLs dI) t with
 |.ok th=>alB p ms th
 |_=>false
noncomputable def lb (p:PuzT):Nat→List Int→THT→Bool
 |0,ms,t=>lb0 p ms t
 |m+1,ms,t=>if t.1=SUP then (decide (t.2.1=0)&&qqf p t.2.2.1 t.2.2.2.1 && !decide (t.2.2.2.2.length=0)&&fiL (lb p m) p t.2.2.2.2 (ms.set t.2.2.1.toNat ((2 ^ (t.2.2.2.1 - 1).toNat:Nat):Int))) else lb0 p ms t
def PlT (t:THT):Prop:=∃th:TI,t=thD th∧(∃k:KK,th.1=k.w)∧th.2.2.2.2.length≤1000
def Vt:Nat→THT→Prop
 |0,t=>PlT t
 |m+1,t=>PlT t∨(t.1=SUP∧t.2.2.2.2.length≤1000∧∀d∈t.2.2.2.2,∃t',dTH d=.ok t'∧Vt m t')
def qxm (fo:PuzT→List Int→THT→RE (Option (List Int))) (m:Nat):Prop:=∀{p:PuzT},WfP p→∀{ms:List Int},MOk p.ground ms→∀{t:THT},Vt m t→∃o,fo p ms t=.ok o∧o.isNone=lb p m ms t∧∀l,o=some l→l.length≤m
theorem qux {p:PuzT} {ms:List Int} {th:TI} (m:Nat) (hk:∃k:KK,th.1=k.w):lb p m ms (thD th)=alB p ms th:=by
 have n:¬(thD th).1=SUP:=by
  obtain⟨k,hk⟩:=hk
  show ¬th.1=_
  rw[hk];exact qsn k
 cases m with
 |zero=>unfold lb lb0;rw[qqo]
 |succ m=>unfold lb;rw[if_neg n];unfold lb0;rw[qqo]
theorem quD {p:PuzT} {ms:List Int} {m:Nat} {t:THT} (hv:Vt m t) (h:lb p m ms t=true):qqf p t.2.2.1 t.2.2.2.1=true:=by
 have pl:∀m,PlT t→lb p m ms t=true→qqf p t.2.2.1 t.2.2.2.1=true:=fun m ⟨th,e,hk,_⟩ h=>by
  subst e
  rw[qux m hk] at h
  exact(qsT h).1
 cases m with
 |zero=>exact pl 0 hv h
 |succ m =>
  rcases hv with hv | ⟨e,_,_⟩
  ·exact pl _ hv h
  ·unfold lb at h
   rw[if_pos e] at h
   simp only[Bool.and_eq_true] at h
   exact h.1.1.2
section
variable {p:PuzT} {fo:PuzT→List Int→THT→RE (Option (List Int))} {m:Nat}
def qwh (fo:PuzT→List Int→THT→RE (Option (List Int))) (p:PuzT) (book:List D):Int→List Int→RE (Fl (Option (List Int)) (List Int)):=(fun(aC:Int) (s17:List Int)=>((atE book aC).bind fun ah=>(F.clashes s17).bind fun k18=>if k18=true then (RE.ok (.rt (none:Option (List Int)))) else (((((RE.ok p).bind fun x20=>(dTH ah).bind fun x21=>F.is_in_bounds x20 x21).bind fun x22=>RE.ok (!x22)).bind fun k26=>if k26=true then RE.ok true else ((RE.ok p).bind fun x23=>(RE.ok s17).bind fun x24=>(dTH ah).bind fun x25=>F.is_standing x23 x24 x25)).bind fun k27=>if k27=true then (((RE.ok p).bind fun x28=>(RE.ok s17).bind fun x29=>(dTH ah).bind fun x30=>fo x28 x29 x30).bind fun b6=>(RE.ok b6.isSome).bind fun k31=>if k31=true then ((((unO b6).bind fun x33=>qeE [aC] x33).bind fun x34=>RE.ok ((some) x34)).bind fun x35=>RE.ok (.rt x35)) else (((RE.ok s17).bind fun x36=>((qlW ah 2).bind dI).bind fun x37=>((qlW ah 3).bind dI).bind fun x38=>F.struck x36 x37 x38).bind fun aq=>RE.ok (.nx aq))) else (RE.ok (.nx s17))):RE (Fl (Option (List Int)) (List Int))))
end
end Cm
namespace Cm
section
variable {p:PuzT}
def Le (a b:List Int):Prop:=∀d,Sb (gI a d) (gI b d)
def qxf (p:PuzT) (lo:List Int→THT→Bool) (V:THT→Prop):Prop:=∀t,V t→∀ms ms',MOk p.ground ms→MOk p.ground ms'→Le ms' ms→lo ms t=true→lo ms' t=true
end
end Cm
namespace Cm
section
variable {p:PuzT}
inductive FolS (p:PuzT):List THT→List Int→List Int→Prop
 |nil {ms:List Int}:FolS p [] ms ms
 |cons {ms left:List Int} {t:THT} {ts:List THT}:Vt 5 t→lb p 5 ms t=true→stB (gI ms t.2.2.1) t.2.2.2.1=true→0∉ms→FolS p ts (stk ms t.2.2.1 t.2.2.2.1) left→FolS p (t::ts) ms left
theorem FolS.app {xs ys:List THT} {a b c:List Int} (h:FolS p xs a b) (k:FolS p ys b c):FolS p (xs++ys) a c:=by
 induction h with
 |nil=>exact k
 |cons h0 h1 h2 h3 _ ih=>exact .cons h0 h1 h2 h3 (ih k)
theorem FolS.ok {xs:List THT} {a b:List Int} (h:FolS p xs a b) (hm:MOk p.ground a):MOk p.ground b:=by
 induction h with
 |nil=>exact hm
 |cons h0 h1 h2 h3 _ ih=>exact ih (qnF hm (qlN.mp (quD h0 h1)).1 h2)
end
end Cm
namespace Cm
section
variable {p:PuzT} {ms:List Int} {ws:List (List Nat)} {fl:Int × Int × Int}
abbrev KWs (ws:List (List Nat)):Prop:=∀w∈ws,∃k:KK,w=k.w
def thk (p:PuzT) (ms:List Int) (ws:List (List Nat)):List Int × List TI:=match F.think p ms ws with
 |.ok v=>v
 |_=>([],[])
structure Thk (p:PuzT) (ms:List Int) (ws:List (List Nat)):Prop where
 e:F.think p ms ws=.ok (thk p ms ws)
 s:Steps p ws ms (thk p ms ws).2 (thk p ms ws).1
 m:MOk p.ground (thk p ms ws).1
 g:MSg p.ground (thk p ms ws).1
 n:0∈(thk p ms ws).1∨nT p (thk p ms ws).1 ws=none
def qvg (fl:Int × Int × Int):List Int:=(qed (nC fl).toNat).map fun _=>qua fl
def qwb (ms:List Int):Bool:=ms.all fun m=>decide ((sgn m).length=1)
def fb1 (m:Int):Int:=match sgn m with
 |[s]=>s
 |_=>0
def qwt (p:PuzT) (ws:List (List Nat)):Bool:=qwb (thk p (qvg p.ground) ws).1&&mtB p ((thk p (qvg p.ground) ws).1.map fb1)
mutual
theorem qpt:∀(d:D) (n:Nat),d.fit n=true→d.eqb d=true
 |.non,_,_=>rfl
 |.bl b,_,_=>by simp[D.eqb]
 |.int i,_,_=>by simp[D.eqb]
 |.str s,_,_=>by simp[D.eqb]
 |.lst xs,n,h=>by
  simp only[D.fit,Bool.and_eq_true] at h
  show D.eqbs xs xs=true
  exact qgP xs (n - 1) h.2
 |.tup xs,n,h=>by
  simp only[D.fit,Bool.and_eq_true] at h
  show D.eqbs xs xs=true
  exact qgP xs (n - 1) h.2
 |.ins _ _,_,h=>by simp[D.fit] at h
 |.exc _ _,_,h=>by simp[D.fit] at h
theorem qgP:∀(xs:List D) (n:Nat),D.fits xs n=true→D.eqbs xs xs=true
 |[],_,_=>rfl
 |x::xs,n,h=>by
  simp only[D.fits,Bool.and_eq_true] at h
  show(D.eqb x x&&D.eqbs xs xs)=true
  rw[qpt x n h.1,qgP xs n h.2];rfl
end
mutual
theorem qsV:∀(d:D) (n m:Nat),d.fit n=true→n≤m→d.fit m=true
 |.non,_,_,_,_=>rfl
 |.bl _,_,_,_,_=>rfl
 |.int _,_,_,_,_=>rfl
 |.str _,_,_,h,_=>h
 |.lst xs,n,m,h,hm=>by
  simp only[D.fit,Bool.and_eq_true,decide_eq_true_eq] at h ⊢
  exact⟨by omega,qle xs (n - 1) (m - 1) h.2 (by omega)⟩
 |.tup xs,n,m,h,hm=>by
  simp only[D.fit,Bool.and_eq_true,decide_eq_true_eq] at h ⊢
  exact⟨by omega,qle xs (n - 1) (m - 1) h.2 (by omega)⟩
 |.ins _ _,_,_,h,_=>by simp[D.fit] at h
 |.exc _ _,_,_,h,_=>by simp[D.fit] at h
theorem qle:∀(xs:List D) (n m:Nat),D.fits xs n=true→n≤m→D.fits xs m=true
 |[],_,_,_,_=>rfl
 |x::xs,n,m,h,hm=>by
  simp only[D.fits,Bool.and_eq_true] at h ⊢
  exact⟨qsV x n m h.1 hm,qle xs n m h.2 hm⟩
end
end
end Cm
namespace Cm
section
variable {p:PuzT} {ws:List (List Nat)} {cl:List Int} {fl:Int × Int × Int} {order:List Int}
abbrev pc (p:PuzT) (cl:List Int):PuzT:=⟨p.ground,p.rules,cl⟩
def wo (cl:List Int) (c:Int):List Int:=cl.set c.toNat 0
def tkS (p:PuzT) (ws:List (List Nat)) (cl:List Int) (c:Int):List Int:=if gI cl c≠0∧qwt (pc p (wo cl c)) ws=true then wo cl c else cl
def tkL (p:PuzT) (ws:List (List Nat)) (order:List Int):List Int:=order.foldl (tkS p ws) p.clues
def quw (p:PuzT) (ws:List (List Nat)) (cl:List Int) (c:Int):List Int:=(thk (pc p (wo cl c)) (qvg p.ground) ws).1
def qwx (p:PuzT) (ws:List (List Nat)) (cl:List Int) (order:List Int):List (Int × List Int):=((qun order).filter fun c=>!decide (gI cl c=0)).map fun c=>(c,quw p ws cl c)
end
end Cm
namespace Cm
section
variable {p:PuzT} {ms:List Int} {ws:List (List Nat)} {c s n:Int}
structure MoreP (p p':PuzT):Prop where
 g:p'.ground=p.ground
 r:p'.rules=p.rules
 c:∀c,inC p.ground c→gI p.clues c=0∨gI p'.clues c=gI p.clues c
theorem MoreP.refl (p:PuzT):MoreP p p:=⟨rfl,rfl,fun _ _=>.inr rfl⟩
theorem le_refl (a:List Int):Le a a:=fun d=>Sb.refl _
end
end Cm
namespace Cm
section
variable {α:Type} {k j:Int} {x:α}
theorem ql8:∀{m:List (Int × α)},qfu k (qsO j x m)=if k=j then (qfu j m).map (fun _=>x) else qfu k m
 |[]=>by
  show none=_
  split<;>rfl
 |e::m=>by
  have ih:=ql8 (m:=m)
  unfold qsO at ih ⊢
  rw[List.map_cons]
  by_cases q:e.1=j
  ·rw[if_pos q]
   unfold qfu
   by_cases z:k=j
   ·rw[if_pos (by rw[q,z]),if_pos z,if_pos q];rfl
   ·rw[if_neg (by rw[q];exact fun h=>z h.symm),if_neg z,if_neg (by rw[q];exact fun h=>z h.symm),ih,if_neg z]
  ·rw[if_neg q]
   unfold qfu
   by_cases z:e.1=k
   ·rw[if_pos z,if_pos z]
    have n:k≠j:=fun h=>q (z.trans h)
    rw[if_neg n]
   ·rw[if_neg z,if_neg z,ih,if_neg q]
theorem qjF:∀{m:List (Int × α)},qfu j m=none→qfu k (m++[(j,x)])=if k=j then some x else qfu k m
 |[],_=>by
  show(if j=k then some x else none)=_
  by_cases z:k=j
  ·rw[if_pos z,if_pos z.symm]
  ·rw[if_neg z,if_neg fun h=>z h.symm];rfl
 |e::m,h=>by
  unfold qfu at h
  by_cases q:e.1=j
  ·rw[if_pos q] at h;cases h
  ·rw[if_neg q] at h
   have ih:=qjF h
   rw[List.cons_append]
   unfold qfu
   by_cases z:e.1=k
   ·rw[if_pos z,if_pos z,if_neg fun h=>q (z.trans h)]
   ·rw[if_neg z,if_neg z,ih]
theorem qo0 {m:List (Int × α)}:qfu k (qoS j x m)=if k=j then some x else qfu k m:=by
 unfold qoS
 cases h:qfu j m with
 |none=>exact qjF h
 |some y =>
  rw[if_pos (show(some y).isSome=true from rfl),ql8,h];rfl
theorem qla {m:List (Int × α)} (h:(qfu j m).isSome=true):(qoS j x m).length=m.length:=by
 unfold qoS qsO
 rw[if_pos h,List.length_map]
theorem qpY {m:List (Int × α)} (h:m.length<16777216):qmw m k x=.ok (qoS k x m):=qkw (qqB (by have:LIM=16777216:=rfl;omega))
theorem qpq {m:List (Int × α)} (h:qfu k m=some x):qlf m k=.ok x:=by unfold qlf;rw[h]
end
end Cm
namespace Cm
section
variable {fl:Int × Int × Int} {cs:List Int} {m:List (Int × Int)} {g g0:Int→Int} {k c o x:Int}
def Mk (cs:List Int) (m:List (Int × Int)) (g:Int→Int):Prop:=(∀k,qfu k m=if k∈cs then some (g k) else none)∧m.length≤100
theorem Mk.get (h:Mk cs m g) (hk:k∈cs):qlf m k=.ok (g k):=qpq (by rw[h.1,if_pos hk])
theorem Mk.put (h:Mk cs m g) (hk:k∈cs):qmw m k x=.ok (qoS k x m)∧Mk cs (qoS k x m) (fun j=>if j=k then x else g j):=by
 have hs:(qfu k m).isSome=true:=by rw[h.1,if_pos hk];rfl
 refine⟨qpY (by have:=h.2;omega),fun j=>?_,by rw[qla hs];exact h.2⟩
 rw[qo0,h.1]
 by_cases e:j=k
 ·subst e
  rw[if_pos rfl]
  show some x=if j∈cs then some (if j=j then x else g j) else none
  rw[if_pos hk,if_pos rfl]
 ·rw[if_neg e]
  show _=if j∈cs then some (if j=k then x else g j) else none
  rw[if_neg e]
def Pg (fl:Int × Int × Int) (cs:List Int) (g0:Int→Int) (Q:Int→Int→Prop) (m:List (Int × Int)):Prop:=∃g,Mk cs m g∧(∀x∈cs,g x≤g0 x∧Rch fl cs x (g x))∧∀a b,Q a b→a∈cs→b∈cs→g a≤g0 b∧g b≤g0 a
theorem Pg.sub {Q Q':Int→Int→Prop} (h:Pg fl cs g0 Q m) (k:∀a b,a∈cs→b∈cs→Q' a b→Q a b):Pg fl cs g0 Q' m:=by
 obtain⟨g,h1,h2,h3⟩:=h
 exact⟨g,h1,h2,fun a b q ha hb=>h3 a b (k a b ha hb q) ha hb⟩
theorem Pg.edge {Q:Int→Int→Prop} (hf:FOk fl) (hi:∀x∈cs,inC fl x) (h:Pg fl cs g0 Q m) (hc:c∈cs) (ho:o∈cs) (hn:o∈qgr fl c) :
  W (((qlf m c).bind fun x113=>(qlf m o).bind fun x114=>RE.ok (if x114<x113 then x114 else x113)).bind fun bf=>(qmw m c bf).bind fun bp=>(qmw bp o bf).bind fun bp=>RE.ok bp) (Pg fl cs g0 fun a b=>Q a b∨(a=c∧b=o)):=by
 obtain⟨g,h1,h2,h3⟩:=h
 rw[h1.get hc,h1.get ho]
 simp only[RE.bind_ok]
 have rco:Rch fl cs c o:=.step (.base hc) hn ho
 have roc:Rch fl cs o c:=rco.symm hf hi
 have low:∃lo,(if g o<g c then g o else g c)=lo∧lo≤g o∧lo≤g c∧Rch fl cs c lo∧Rch fl cs o lo:=by
  by_cases q:g o<g c
  ·exact⟨g o,if_pos q,Int.le_refl _,by omega,rco.trans (h2 o ho).2,(h2 o ho).2⟩
  ·exact⟨g c,if_neg q,by omega,Int.le_refl _,(h2 c hc).2,roc.trans (h2 c hc).2⟩
 obtain⟨lo,e,l1,l2,l3,l4⟩:=low
 rw[e]
 obtain⟨p1,m1⟩:=h1.put (x:=lo) hc
 rw[p1]
 simp only[RE.bind_ok]
 obtain⟨p2,m2⟩:=m1.put (x:=lo) ho
 rw[p2]
 have le:∀x∈cs,(fun j=>if j=o then lo else (fun j=>if j=c then lo else g j) j) x≤g x:=fun x hx=>by
  show(if x=o then lo else if x=c then lo else g x)≤g x
  split
  ·rename_i e;rw[e];exact l1
  ·split
   ·rename_i e;rw[e];exact l2
   ·exact Int.le_refl _
 refine W.ok ⟨_,m2,fun x hx=>⟨Int.le_trans (le x hx) (h2 x hx).1,?_⟩,fun a b q ha hb=>?_⟩
 ·show Rch fl cs x (if x=o then lo else if x=c then lo else g x)
  split
  ·rename_i e;rw[e];exact l4
  ·split
   ·rename_i e;rw[e];exact l3
   ·exact(h2 x hx).2
 ·rcases q with q | ⟨rfl,rfl⟩
  ·have:=h3 a b q ha hb
   exact⟨Int.le_trans (le a ha) this.1,Int.le_trans (le b hb) this.2⟩
  ·have e1:(if a=b then lo else if a=a then lo else g a)=lo:=by
    split
    ·rfl
    ·rw[if_pos rfl]
   have e2:(if b=b then lo else if b=a then lo else g b)=lo:=if_pos rfl
   show(if a=b then lo else if a=a then lo else g a)≤g0 b∧(if b=b then lo else if b=a then lo else g b)≤g0 a
   rw[e1,e2]
   exact⟨Int.le_trans l1 (h2 b hb).1,Int.le_trans l2 (h2 a ha).1⟩
theorem Pg.others {Q:Int→Int→Prop} (hf:FOk fl) (hi:∀x∈cs,inC fl x) (h:Pg fl cs g0 Q m) (hc:c∈cs) {os:List Int} (hn:∀o∈os,o∈cs→o∈qgr fl c) :
  W (qaC (fun(bI:Int) (s105:List (Int × Int))=>(if ((qfu bI s105).isSome == true)=true then (((qlf s105 c).bind fun x113=>(qlf s105 bI).bind fun x114=>RE.ok (if x114<x113 then x114 else x113)).bind fun bf=>(qmw s105 c bf).bind fun bp=>(qmw bp bI bf).bind fun bp=>RE.ok bp) else (RE.ok s105)).bind fun(p119:List (Int × Int))=>RE.ok p119) os m) (Pg fl cs g0 fun a b=>Q a b∨(a=c∧b∈os)):=by
 refine W.mono (qew (fun i=>Pg fl cs g0 fun a b=>Q a b∨(a=c∧b∈os.take i)) (h.sub fun a b _ _ q=>?_) fun i o m hx h=>?_) fun m h=>by rw[List.take_length] at h;exact h
 ·rcases q with q | q
  ·exact q
  ·simp at q
 have tk:os.take (i+1)=os.take i++[o]:=by rw[List.take_add_one,hx];rfl
 have mo:=List.mem_of_getElem? hx
 refine W.bind (P:=Pg fl cs g0 fun a b=>Q a b∨(a=c∧b∈os.take (i+1))) ?_ fun m' h'=>W.ok h'
 have hs:(qfu o m).isSome=decide (o∈cs):=by
  obtain⟨g,h1,_⟩:=h
  rw[h1.1]
  by_cases q:o∈cs
  ·rw[if_pos q,decide_eq_true q];rfl
  ·rw[if_neg q,decide_eq_false q];rfl
 rw[hs]
 by_cases q:o∈cs
 ·rw[decide_eq_true q,if_pos (show(true == true)=true from rfl)]
  refine W.mono (h.edge hf hi hc q (hn o mo q)) fun m' h'=>h'.sub fun a b _ _ z=>?_
  rcases z with z | ⟨z1,z2⟩
  ·exact .inl (.inl z)
  ·rw[tk] at z2
   rcases List.mem_append.mp z2 with w | w
   ·exact .inl (.inr ⟨z1,w⟩)
   ·exact .inr ⟨z1,List.mem_singleton.mp w⟩
 ·rw[decide_eq_false q,if_neg (by decide)]
  refine W.ok (h.sub fun a b _ hb z=>?_)
  rcases z with z | ⟨z1,z2⟩
  ·exact .inl z
  ·rw[tk] at z2
   rcases List.mem_append.mp z2 with w | w
   ·exact .inr ⟨z1,w⟩
   ·rw[List.mem_singleton.mp w] at hb
    exact absurd hb q
def nbL (w c:Int):List Int:=[c+w]++(if 0<(c+1).fmod w then [c+1] else [])
end
end Cm
namespace Cm
theorem qmI {x sep:List Nat} {ws:List (List Nat)} (hl:x.length≤1000000) (hs:sep≠[]) (hk:sep.all (· < 256)=true) (e:TL.spl sep 0 [] x=ws):qgd x sep=.ok ws:=by
 unfold qgd
 have h:=SX.split_S (a:=x) (b:=sep) hs hk
 have e2:(PySem.Txt.split (qbg x) (qbg sep))=ws.map SX.S:=by rw[←e];exact h
 rw[e2,List.map_map]
 have:ws.map ((fun z:PySem.Str=>z.cps.toList) ∘ SX.S)=ws.map id:=List.map_congr_left fun w _=>rfl
 rw[this,List.map_id,qkw]
 rw[qa4]
 have l:LIM=16777216:=rfl
 exact⟨fun z=>hs (List.length_eq_zero_iff.mp z),by omega⟩
def MK:List Nat:=[46,49,50,51,52,53,54]
def mkT (s:Int):Nat:=MK.getD s.toNat 46
def qwo (fl:Int × Int × Int) (cl:List Int) (k:Nat):List Nat:=((cl.drop (k*fl.2.1.toNat)).take fl.2.1.toNat).map mkT
def qvo (fl:Int × Int × Int) (cl:List Int):List (List Nat):=(List.range fl.1.toNat).map (qwo fl cl)
def fiT (fl:Int × Int × Int) (cl:List Int):List Nat:=TL.joinL [47] (qvo fl cl)
section
variable {fl:Int × Int × Int} {cl:List Int}
end
def qvb (fl:Int × Int × Int):List Nat:=TL.joinL [32] [dgI fl.1,dgI fl.2.1,dgI fl.2.2]
def qxj (fl:Int × Int × Int) (ls:List (List Nat)) (cl:List Int):List Nat:=(((qvb fl++[32,124,32])++TL.joinL [59,32] ls)++[32,124,32])++fiT fl cl
def PlC (c:Nat):Prop:=c=32∨(48≤c∧c<58)∨(97≤c∧c<123)
section
variable {fl:Int × Int × Int} {cl:List Int} {rs:List RuleT}
end
end Cm
set_option maxHeartbeats 400000
namespace K20
open Cm
def qdR:Nat→Option Bool:=fun c=>List.lookup c [(31,false),(33,false),(34,false)]
def qpd:Nat→Option Bool:=fun c=>List.lookup c [(0,false),(1,false),(2,false),(3,false),(4,false),(5,false),(6,false),(7,false),(25,false)]
def qes:Nat→Option Bool:=fun c=>List.lookup c [(31,false),(33,false),(34,false)]
def qqA:Nat→Option Bool:=fun c=>List.lookup c [(0,false),(1,false),(2,false),(3,false),(4,false),(5,false),(6,false),(7,false),(25,false)]
def qgU:Nat→Option Bool:=fun c=>List.lookup c [(31,false),(33,false),(34,false)]
def qt6:Nat→Option Bool:=fun c=>List.lookup c [(0,false),(1,false),(2,false),(3,false),(4,false),(5,false),(6,false),(7,false),(25,false)]
def qg8:Nat→Option Bool:=fun c=>List.lookup c [(31,false),(33,false),(34,false)]
def qtg:Nat→Option Bool:=fun c=>List.lookup c [(0,false),(1,false),(2,false),(3,false),(4,false),(5,false),(6,false),(7,false),(25,false)]
def qiT:Nat→Option Bool:=fun c=>List.lookup c [(31,false),(33,false),(34,false)]
def quq:Nat→Option Bool:=fun c=>List.lookup c [(0,false),(1,false),(2,false),(3,false),(4,false),(5,false),(6,false),(7,false),(25,false)]
def qgE:Nat→Option Bool:=fun c=>List.lookup c [(31,false),(33,false),(34,false)]
def qt0:Nat→Option Bool:=fun c=>List.lookup c [(0,false),(1,false),(2,false),(3,false),(4,false),(5,false),(6,false),(7,false),(25,false)]
def qgO:Nat→Option Bool:=fun c=>List.lookup c [(31,false),(33,false),(34,false)]
def qtF:Nat→Option Bool:=fun c=>List.lookup c [(0,false),(1,false),(2,false),(3,false),(4,false),(5,false),(6,false),(7,false),(25,false)]
def qfD:Nat→Option Bool:=fun c=>List.lookup c [(31,false),(33,false),(34,false)]
def qsE:Nat→Option Bool:=fun c=>List.lookup c [(0,false),(1,false),(2,false),(3,false),(4,false),(5,false),(6,false),(7,false),(25,false)]
def qfj:Nat→Option Bool:=fun c=>List.lookup c [(31,true),(33,true),(34,true)]
def qpw:Nat→Option Bool:=fun c=>List.lookup c []
def qfU:Nat→Option Bool:=fun c=>List.lookup c [(31,true),(33,false),(34,false)]
def qsN:Nat→Option Bool:=fun c=>List.lookup c [(0,false),(1,false),(2,false),(3,false),(4,false),(5,false),(6,false),(7,false),(25,false)]
def qha:Nat→Option Bool:=fun c=>List.lookup c [(31,false),(33,true),(34,false)]
def qtB:Nat→Option Bool:=fun c=>List.lookup c [(0,false),(1,false),(2,false),(3,false),(4,false),(5,false),(6,false),(7,false),(25,false)]
def qfb:Nat→Option Bool:=fun c=>List.lookup c [(31,false),(33,false),(34,true)]
def qrz:Nat→Option Bool:=fun c=>List.lookup c [(0,false),(1,false),(2,false),(3,false),(4,false),(5,false),(6,false),(7,false),(25,false)]
def qbD:Nat→Option Bool:=fun c=>List.lookup c [(31,true),(33,true),(34,true)]
def qqE:Nat→Option Bool:=fun c=>List.lookup c [(0,false),(1,false),(2,false),(3,false),(4,false),(5,false),(6,false),(7,false),(25,false)]
def qgc (aw:List Int) (aC:Int):RE Int:=
 (RE.ok (decide (aC<(List.length aw:Int)))).bind fun k1=>if k1=true then (atE aw aC) else ((RE.ok ((7*aC)+3:Int)).bind fun bt=>((RE.ok (decide (0<(List.length aw:Int)))).bind fun k2=>if k2=true then ((((((RE.ok aw).bind fun x19=>(qkV aC (List.length aw:Int)).bind fun x20=>atE x19 x20).bind fun x21=>RE.ok (Int.fmod x21 1000003)).bind fun x23=>qka x23 (aC+1)).bind fun x26=>RE.ok (bt+x26)).bind fun bt=>RE.ok bt) else (RE.ok bt)).bind fun(p27:Int)=>((qka p27 p27).bind fun x28=>RE.ok (Int.fmod x28 999979)).bind fun x30=>RE.ok (x30+(Int.fmod p27 101)))
def qfJ (aw:List Int):RE (Int × Int × Int):=
 (((qgc aw 0).bind fun x1=>RE.ok (Int.fmod x1 6)).bind fun x4=>RE.ok (1+x4)).bind fun aQ=>(((qgc aw 1).bind fun x7=>((RE.ok 6).bind fun x5=>(qrG 16 aQ).bind fun x6=>RE.ok (if x6<x5 then x6 else x5)).bind fun x8=>qkV x7 x8).bind fun x10=>RE.ok (1+x10)).bind fun aV=>(RE.ok aQ).bind fun x15=>(RE.ok aV).bind fun x16=>(((qgc aw 2).bind fun x11=>RE.ok (Int.fmod x11 6)).bind fun x14=>RE.ok (1+x14)).bind fun x17=>RE.ok (x15,x16,x17)
def qdn (aw:List Int) (ao:Int × Int × Int) (aS:Int):RE (List Int):=
 ((qka ao.1 ao.2.1).bind qbC).bind fun x6=>gd (leB x6.length) (lcE (fun(aC:Int)=>(RE.ok true)) (fun(aC:Int)=>(((qgc aw (aS+aC)).bind fun x2=>qkV x2 ao.2.2).bind fun x5=>RE.ok (1+x5))) x6)
def qdt (ac:Int) (aB:Int):RE (List Int):=
 (RE.ok ((Int.fmod ac 1000003)+11:Int)).bind fun aE=>(RE.ok ([]:List Int)).bind fun al=>((qbC aB).bind fun y15=>qaC (fun(aC:Int) (s7:Int × (List Int))=>((((qka s7.1 s7.1).bind fun x8=>RE.ok (x8+(3*s7.1))).bind fun x10=>RE.ok (x10+aC)).bind fun x12=>RE.ok (Int.fmod x12 1000003)).bind fun aE=>(qfA s7.2 aE).bind fun al=>RE.ok (aE,al)) y15 (aE,al)).bind fun(p14:Int × (List Int))=>RE.ok p14.2
def qe9 (aY:List Int) (aB:Int):RE (List Int):=
 (qbC aB).bind fun aq=>(RE.ok ([]:List Int)).bind fun aU=>((qbC aB).bind fun y11=>qaC (fun(aC:Int) (s5:(List Int) × (List Int))=>(((atE aY aC).bind fun x6=>qkV x6 (List.length s5.1:Int)).bind fun x9=>qmy s5.2 s5.1 x9).bind fun p8=>RE.ok (p8.2,p8.1)) y11 (aq,aU)).bind fun(p10:(List Int) × (List Int))=>RE.ok p10.2
def qff (aU:List Int) (aG:List Int) (bu:Bool):RE (List Int):=
 (RE.ok ([]:List Int)).bind fun b7=>((qkD 1 7).bind fun y11=>qaC (fun(ai:Int) (s4:List Int)=>((RE.ok aU).bind fun x7=>gd (leB x7.length) (lcE (fun(ac:Int)=>((atE aG ac).bind fun x5=>RE.ok (decide (x5=ai)))) (fun(ac:Int)=>(RE.ok ac)) x7)).bind fun aF=>(qeE s4 (qcR aF none (some 1))).bind fun b7=>RE.ok b7) y11 b7).bind fun(p8:List Int)=>(RE.ok bu).bind fun k9=>if k9=true then (RE.ok p8) else ((RE.ok aU).bind fun x10=>gd (leB x10.length) (RE.ok (List.filter (fun(ac:Int)=>decide (ac∈p8)) x10)))
def qfV (aG:List Int) (am:List Int):RE Int:=
 (RE.ok (0:Int)).bind fun b8=>(RE.ok (0:Int)).bind fun aB=>((RE.ok am).bind fun y10=>qaC (fun(ac:Int) (s4:Int × Int)=>(((atE aG ac).bind fun x5=>RE.ok (decide (s4.1<x5))).bind fun k7=>if k7=true then ((atE aG ac).bind fun b8=>(RE.ok (s4.2+1:Int)).bind fun aB=>RE.ok (b8,aB)) else (RE.ok (s4.1,s4.2))).bind fun(p8:Int × Int)=>RE.ok (p8.1,p8.2)) y10 (b8,aB)).bind fun(p9:Int × Int)=>RE.ok p9.2
def qg3 (ao:Int × Int × Int) (aG:List Int) (ac:Int):RE (List Nat):=
 (qka ao.1 ao.2.1).bind fun aB=>(qdt (Int.fdiv ac 8) (aB+3)).bind fun aY=>(qe9 aY aB).bind fun aU=>((RE.ok aU).bind fun x6=>(RE.ok none).bind fun x7=>((((atE aY aB).bind fun x1=>qkV x1 aB).bind fun x4=>RE.ok (1+x4)).bind fun x5=>RE.ok (some x5)).bind fun x8=>RE.ok (qcR x6 x7 x8)).bind fun aF=>(((atE aY (aB+1)).bind fun x9=>qkV x9 ao.2.2).bind fun x12=>RE.ok (1+x12)).bind fun ai=>((RE.ok ([0,0,0,1])).bind fun x15=>((atE aY (aB+2)).bind fun x13=>RE.ok (Int.fmod x13 4)).bind fun x16=>atE x15 x16).bind fun bi=>(RE.ok (Int.fmod ac 8:Int)).bind fun be=>(RE.ok (decide (4<be))).bind fun k17=>if k17=true then (((atE ([[106,111,105,110,101,100],[110,111,115,113,117,97,114,101],[114,105,110,103]]) (be - 5)).bind fun x18=>qjM x18 [32]).bind fun x20=>(qiM ai).bind fun x21=>qjM x20 x21) else ((((evC .isin (eI be) ((eT2 eI eI) (0,2))).bind fun k22=>if k22=true then (RE.ok (decide (bi=0))) else RE.ok false).bind fun k23=>if k23=true then (((qff aU aG (decide (be=2))).bind fun x27=>(RE.ok none).bind fun x28=>(RE.ok (some (List.length aF:Int))).bind fun x29=>RE.ok (qcR x27 x28 x29)).bind fun aF=>RE.ok aF) else (RE.ok aF)).bind fun(p30:List Int)=>(RE.ok ([[117,110,108,105,107,101]]:List (List Nat))).bind fun aK=>((RE.ok (decide (be=1))).bind fun k31=>if k31=true then (((RE.ok ([115,117,109])).bind fun x44=>(((((RE.ok p30).bind fun x39=>gd (leB x39.length) (lcE (fun(az:Int)=>(RE.ok true)) (fun(az:Int)=>(atE aG az)) x39)).bind fun x40=>RE.ok (List.sum x40)).bind fun x41=>RE.ok (x41+bi)).bind fun x43=>qiM x43).bind fun x45=>RE.ok [x44,x45]).bind fun aK=>RE.ok aK) else (RE.ok aK)).bind fun(p46:List (List Nat))=>((RE.ok (decide (be=2))).bind fun k47=>if k47=true then ((RE.ok ([[114,105,115,105,110,103]]:List (List Nat))).bind fun aK=>RE.ok aK) else (RE.ok p46)).bind fun(p48:List (List Nat))=>((RE.ok (decide (be=3))).bind fun k49=>if k49=true then (((RE.ok ([115,101,101,110])).bind fun x58=>(((qfV aG p30).bind fun x55=>RE.ok (x55+bi)).bind fun x57=>qiM x57).bind fun x59=>RE.ok [x58,x59]).bind fun aK=>RE.ok aK) else (RE.ok p48)).bind fun(p60:List (List Nat))=>((RE.ok (decide (be=4))).bind fun k61=>if k61=true then (((RE.ok ([99,111,117,110,116])).bind fun x79=>(((((RE.ok p30).bind fun x74=>gd (leB x74.length) (lcE (fun(az:Int)=>((atE aG az).bind fun x72=>RE.ok (decide (x72=ai)))) (fun(az:Int)=>(RE.ok az)) x74)).bind fun x75=>RE.ok (List.length x75:Int)).bind fun x76=>RE.ok (x76+bi)).bind fun x78=>qiM x78).bind fun x80=>(qiM ai).bind fun x81=>RE.ok [x79,x80,x81]).bind fun aK=>RE.ok aK) else (RE.ok p60)).bind fun(p82:List (List Nat))=>(RE.ok [32]).bind fun x86=>(((RE.ok p30).bind fun x83=>gd (leB x83.length) (lcE (fun(az:Int)=>(RE.ok true)) (fun(az:Int)=>(qiM az)) x83)).bind fun x85=>qeE p82 x85).bind fun x87=>qjs x86 x87)
def qbB (ao:Int × Int × Int) (av:List Int) (ac:Int):RE (List Int):=
 (qkV (Int.fdiv ac 4) (List.length av:Int)).bind fun aS=>(RE.ok (decide ((Int.fmod ac 4)=0))).bind fun k1=>if k1=true then (RE.ok (qcR av (some 1) none)) else ((RE.ok (decide ((Int.fmod ac 4)=1))).bind fun k2=>if k2=true then (qeE av [0]) else ((((atE ([(-1),ao.2.2+1]) (Int.fmod ac 2)).bind fun x3=>RE.ok [x3]).bind fun x5=>qeE (qcR av none (some aS)) x5).bind fun x6=>qeE x6 (qcR av (some (aS+1)) none)))
def qbV (ao:Int × Int × Int) (ac:Int):RE (Option D):=
 (qka ao.1 ao.2.1).bind fun aB=>((RE.ok ((fun x=>some ((eS) x)) [])).bind fun x4=>(RE.ok ((fun x=>some ((eS) x)) ([117,110,108,105,107,101]))).bind fun x5=>(RE.ok ((fun x=>some ((eS) x)) ([117,110,108,105,107,101,32,48,32,48]))).bind fun x6=>(((qiM aB).bind fun x2=>qjM ([117,110,108,105,107,101,32]) x2).bind fun x3=>RE.ok ((fun x=>some ((eS) x)) x3)).bind fun x7=>(RE.ok ((fun x=>some ((eS) x)) ([115,117,109,32,49,48,48,32,48]))).bind fun x8=>(RE.ok ((fun x=>some ((eS) x)) ([115,117,109,32,48,49,32,48]))).bind fun x9=>(RE.ok ((fun x=>some ((eS) x)) ([115,117,109,32,51]))).bind fun x10=>(RE.ok ((fun x=>some ((eS) x)) ([106,111,105,110,101,100,32,48]))).bind fun x11=>RE.ok [x4,x5,x6,x7,x8,x9,x10,x11]).bind fun aF=>(((((qiM (ao.2.2+1)).bind fun x13=>qjM ([106,111,105,110,101,100,32]) x13).bind fun x14=>RE.ok ((fun x=>some ((eS) x)) x14)).bind fun x15=>(RE.ok ((fun x=>some ((eS) x)) ([82,105,110,103,32,49]))).bind fun x16=>(RE.ok ((fun x=>some ((eS) x)) ([99,111,117,110,116,32,49,32,48]))).bind fun x17=>(RE.ok ((fun x=>some ((eS) x)) ([110,111,115,113,117,97,114,101]))).bind fun x18=>(RE.ok ((fun x=>some ((eS) x)) ([114,105,115,105,110,103,32,32,48]))).bind fun x19=>(RE.ok ((fun x=>some ((eS) x)) ([115,101,101,110,32,49,32,45,49]))).bind fun x20=>RE.ok [x15,x16,x17,x18,x19,x20]).bind fun x22=>qeE aF x22).bind fun aF=>(qeE aF ([(none:Option D),((fun x=>some ((eI) x)) 7),((fun x=>some ((eB) x)) true),((fun x=>some (((eL eS)) x)) ([[117,110,108,105,107,101],[48]])),((fun x=>some (((eT2 eS eS)) x)) ([117,110,108,105,107,101],[48]))])).bind fun aF=>atE aF (Int.fmod (Int.fdiv ac 14) 19)
def qbT (ao:Int × Int × Int) (ac:Int):RE (Int × Int × Int):=
 (((RE.ok 0).bind fun x1=>(RE.ok 7).bind fun x2=>(RE.ok (-1)).bind fun x3=>(quj 10 9).bind fun x4=>RE.ok [x1,x2,x3,x4]).bind fun x5=>(RE.ok (Int.fmod (Int.fdiv ac 4) 4)).bind fun x6=>atE x5 x6).bind fun bj=>(RE.ok (decide ((Int.fmod ac 4)=0))).bind fun k7=>if k7=true then (RE.ok (bj,ao.2.1,ao.2.2)) else ((RE.ok (decide ((Int.fmod ac 4)=1))).bind fun k8=>if k8=true then (RE.ok (ao.1,bj,ao.2.2)) else ((RE.ok (decide ((Int.fmod ac 4)=2))).bind fun k9=>if k9=true then (RE.ok (ao.1,ao.2.1,bj)) else (atE ([(3,6,2),(6,3,1),(4,5,6),(5,4,3)]) (Int.fmod (Int.fdiv ac 4) 4))))
def F.read_rule (af:Int × Int × Int) (aR:D):RE RuleT:=
 ((tyE (eD aR) .str).bind fun x1=>RE.ok (!x1)).bind fun k2=>if k2=true then (RE.exc 33 []) else (((dS aR).bind fun x3=>(RE.ok [32]).bind fun x4=>qgd x3 x4).bind fun aK=>(atE aK 0).bind fun aA=>(qmu aA ([[117,110,108,105,107,101],[115,117,109],[114,105,115,105,110,103],[115,101,101,110],[99,111,117,110,116],[106,111,105,110,101,100],[110,111,115,113,117,97,114,101],[114,105,110,103]])).bind fun k5=>if k5=true then (RE.exc 33 []) else (((RE.ok (qcR aK (some 1) none)).bind fun x6=>gd (leB x6.length) (qgb (fun(az:List Nat)=>(RE.ok true)) (fun(az:List Nat)=>(F.number_of az)) x6)).bind fun au=>(qoW aA ([[106,111,105,110,101,100],[110,111,115,113,117,97,114,101],[114,105,110,103]])).bind fun k7=>if k7=true then (F.whole_rule af aA au) else ((RE.ok (decide (aA=([117,110,108,105,107,101])))).bind fun k8=>if k8=true then ((RE.ok af).bind fun x9=>(F.cells_told af au).bind fun x10=>(RE.ok 0).bind fun x11=>(RE.ok 0).bind fun x12=>RE.ok (RuleT.mk .unlike x9 x10 x11 x12)) else ((RE.ok (decide (aA=([114,105,115,105,110,103])))).bind fun k13=>if k13=true then ((RE.ok af).bind fun x14=>(F.cells_told af au).bind fun x15=>(RE.ok 0).bind fun x16=>(RE.ok 0).bind fun x17=>RE.ok (RuleT.mk .rising x14 x15 x16 x17)) else ((RE.ok (decide (aA=([99,111,117,110,116])))).bind fun k18=>if k18=true then ((F.sign_told af au 1).bind fun ai=>(RE.ok af).bind fun x19=>(F.cells_told af (qcR au (some 2) none)).bind fun x20=>(atE au 0).bind fun x21=>(RE.ok ai).bind fun x22=>RE.ok (RuleT.mk .counted x19 x20 x21 x22)) else ((F.cells_told af (qcR au (some 1) none)).bind fun am=>(RE.ok (decide (aA=([115,117,109])))).bind fun k23=>if k23=true then ((RE.ok af).bind fun x24=>(RE.ok am).bind fun x25=>(atE au 0).bind fun x26=>(RE.ok 0).bind fun x27=>RE.ok (RuleT.mk .total x24 x25 x26 x27)) else ((RE.ok af).bind fun x28=>(RE.ok am).bind fun x29=>(atE au 0).bind fun x30=>(RE.ok 0).bind fun x31=>RE.ok (RuleT.mk .seen x28 x29 x30 x31))))))))
def F.Puzzle_new (af:Int × Int × Int) (aH:List D) (av:List Int):RE PuzT:=
 (RE.ok (!decide (3=3))).bind fun k1=>if k1=true then RE.exc 31 [] else ((F.floor_of af.1 af.2.1 af.2.2).bind fun w_ground=>(RE.ok (decide (12<(List.length aH:Int)))).bind fun k2=>if k2=true then RE.exc 34 [] else (((RE.ok aH).bind fun x3=>gd (leB x3.length) (qgb (fun(aR:D)=>(RE.ok true)) (fun(aR:D)=>(F.read_rule w_ground aR)) x3)).bind fun w_rule_list=>((F.is_filling w_ground av).bind fun x4=>RE.ok (!x4)).bind fun k5=>if k5=true then RE.exc 34 [] else ((RE.ok av).bind fun w_clue_list=>RE.ok (PuzT.mk w_ground w_rule_list w_clue_list))))
def qdG (aJ:Option Nat):RE (List Bool):=
 ((qgy qdR aJ).bind fun x1=>(qgy qes aJ).bind fun x2=>(qgy qgU aJ).bind fun x3=>RE.ok [x1,x2,x3]).bind fun aM=>(((qgy qg8 aJ).bind fun x4=>(qgy qiT aJ).bind fun x5=>(qgy qgE aJ).bind fun x6=>RE.ok [x4,x5,x6]).bind fun x8=>qeE aM x8).bind fun aM=>(((qgy qgO aJ).bind fun x9=>(qgy qfD aJ).bind fun x10=>RE.ok [x9,x10]).bind fun x12=>qeE aM x12).bind fun aM=>((RE.ok (List.any aM id)).bind fun k14=>if k14=true then RE.ok true else ((qgy qfj aJ).bind fun x13=>RE.ok (!x13))).bind fun k15=>if k15=true then (RE.ok []) else ((qgy qfU aJ).bind fun x16=>(qgy qha aJ).bind fun x17=>(qgy qfb aJ).bind fun x18=>RE.ok [x16,x17,x18])
def qcA (ao:Int × Int × Int) (aH:List (Option D)) (av:List Int):RE (List Bool):=
 (RE.ok (():Unit)).bind fun aJ=>(tryE qbD (none:Option Nat) (F.Puzzle_new ao (List.map ((eO eD)) aH) av)).bind fun p1=>qdG p1
def F.Puzzle_clued (ab:PuzT) (av:List Int):RE PuzT:=
 (RE.ok ab.ground).bind fun x2=>((F.Puzzle_lines ab).bind fun x1=>RE.ok ((List.map (eS)) x1)).bind fun x3=>(RE.ok av).bind fun x4=>F.Puzzle_new x2 x3 x4
def qfR (ae:PuzT) (av:List Int):RE (List Bool):=
 (RE.ok (():Unit)).bind fun aJ=>(tryE qbD (none:Option Nat) (F.Puzzle_clued ae av)).bind fun p1=>qdG p1
def qoi (aw:List Int):RE Bool:=
 (qfJ aw).bind fun ao=>(qdn aw ao 20).bind fun aG=>(((((qgc aw 3).bind fun x1=>RE.ok (Int.fmod x1 12)).bind fun x4=>RE.ok (1+x4)).bind qbC).bind fun x9=>gd (leB x9.length) (lcE (fun(aC:Int)=>(RE.ok true)) (fun(aC:Int)=>((RE.ok ao).bind fun x6=>(RE.ok aG).bind fun x7=>(qgc aw (4+aC)).bind fun x8=>qg3 x6 x7 x8)) x9)).bind fun aH=>((RE.ok (qiV aG)).bind fun x21=>gd (leB x21.length) (lcE (fun(p10:Int × Int)=>(RE.ok true)) (fun(p10:Int × Int)=>((((qgc aw (36+p10.1)).bind fun x15=>RE.ok (Int.fdiv x15 7)).bind fun x17=>RE.ok (Int.fmod x17 2)).bind fun x20=>qka p10.2 x20)) x21)).bind fun av=>(((qgc aw 52).bind fun x22=>RE.ok (Int.fmod x22 4)).bind fun x26=>((qgc aw 53).bind fun x24=>RE.ok (Int.fmod x24 5)).bind fun x27=>RE.ok [x26,x27]).bind fun b9=>(RE.ok (ao:Int × Int × Int)).bind fun ax=>(RE.ok (aH:List (List Nat))).bind fun aZ=>(RE.ok (av:List Int)).bind fun a9=>(RE.ok ([]:List Bool)).bind fun aW=>((RE.ok (decide (3∈b9))).bind fun k28=>if k28=true then (((RE.ok ao).bind fun x32=>(RE.ok av).bind fun x33=>(qgc aw 57).bind fun x34=>qbB x32 x33 x34).bind fun a9=>(RE.ok ([false,false,true]:List Bool)).bind fun aW=>RE.ok (a9,aW)) else (RE.ok (a9,aW))).bind fun(p35:(List Int) × (List Bool))=>((RE.ok (decide (2∈b9))).bind fun k36=>if k36=true then (((qgc aw 56).bind fun x46=>qkV x46 (List.length aZ:Int)).bind fun aS=>(((((RE.ok ao).bind fun x48=>(qgc aw 56).bind fun x49=>qbV x48 x49).bind fun x50=>RE.ok [x50]).bind fun x52=>qeE (List.map (fun x=>some ((eS) x)) (qcR aZ none (some aS))) x52).bind fun x53=>qeE x53 (List.map (fun x=>some ((eS) x)) (qcR aZ (some (aS+1)) none))).bind fun aZ=>(RE.ok ([false,true,false]:List Bool)).bind fun aW=>RE.ok (aZ,aW)) else (RE.ok ((List.map (fun x=>some ((eS) x)) aZ),p35.2))).bind fun(p55:(List (Option D)) × (List Bool))=>((RE.ok (decide (1∈b9))).bind fun k56=>if k56=true then (((((qbC (13 - (List.length p55.1:Int))).bind fun x61=>gd (leB x61.length) (lcE (fun(aC:Int)=>(RE.ok true)) (fun(aC:Int)=>(atE aH 0)) x61)).bind fun x62=>RE.ok ((List.map (fun x=>some ((eS) x))) x62)).bind fun x64=>qeE p55.1 x64).bind fun aZ=>(RE.ok ([false,false,true]:List Bool)).bind fun aW=>RE.ok (aZ,aW)) else (RE.ok (p55.1,p55.2))).bind fun(p65:(List (Option D)) × (List Bool))=>((RE.ok (decide (0∈b9))).bind fun k66=>if k66=true then (((RE.ok ao).bind fun x69=>(qgc aw 55).bind fun x70=>qbT x69 x70).bind fun ax=>(RE.ok ([true,false,false]:List Bool)).bind fun aW=>RE.ok (ax,aW)) else (RE.ok (ax,p65.2))).bind fun(p71:(Int × Int × Int) × (List Bool))=>((qcA p71.1 p65.1 p35.1).bind fun x72=>evC .ne ((eL eB) x72) ((eL eB) p71.2)).bind fun k74=>if k74=true then (RE.ok false) else ((F.Puzzle_new ao (List.map (eS) aH) av).bind fun ae=>(((RE.ok ae).bind fun x81=>((RE.ok ao).bind fun x78=>(RE.ok av).bind fun x79=>(qgc aw 54).bind fun x80=>qbB x78 x79 x80).bind fun x82=>qfR x81 x82).bind fun x83=>evC .ne ((eL eB) x83) ((eL eB) ([false,false,true]))).bind fun k85=>if k85=true then (RE.ok false) else (((F.Puzzle_lines ae).bind fun x86=>evC .eq ((eL eS) x86) ((eL eS) aH)).bind fun k90=>if k90=true then ((F.Puzzle_clues ae).bind fun x88=>RE.ok (decide (x88=av))) else RE.ok false))
theorem qaN (aw:List Int) (aC:Int):Rf (g__law_at [(eL eI) aw,eI aC]) (qgc aw aC) eI .v true:=by
 have key:∀q0 q1 q2:Sl,SlV false ((eL eI) aw) q0→SlV true (eI aC) q1→BR qfx qet [q0,q1,q2] (qgc aw aC) eI .v true:=by
  intro q0 q1 q2 h0 h1;unfold qgc qet;refine BR.ifR (XT.val (XE.cmpP (XE.var (i:=1) rfl h1) (XE.pri1P (XE.var (i:=0) rfl h0) (qfn _)) (quU _ _))) ?_ ?_
  ·exact BR.ret (XE.idxFP (XE.var (i:=0) rfl h0) (XE.var (i:=1) rfl h1)) rfl
  refine BR.cons (SN.asg (en:=eI) (fun q2=>[q0,q1,q2]) (XE.binP (XE.binP XE.cint (XE.var (i:=1) rfl h1) (qqh _ _ (qnA rfl))) XE.cint (qbR _ _)) rfl fun _=>rfl) ?_;rintro bt _ ⟨q2,rfl,h2⟩;refine BR.cons (S:=(fun(st:Int) ρ=>∃q2,ρ=[q0,q1,q2]∧SlV true (eI st) q2)) (SN.iff (XT.val (XE.cmpP (XE.pri1P (XE.var (i:=0) rfl h0) (qfn _)) XE.cint (qmm _ _))) ?_ ?_) ?_
  ·refine BN.cons (SN.asg (en:=eI) (fun q2=>[q0,q1,q2]) (XE.binL (XE.var (i:=2) rfl h2) (XE.binR (XE.binR (XE.idxF (XE.var (i:=0) rfl h0) (XE.binP (XE.var (i:=1) rfl h1) (XE.pri1P (XE.var (i:=0) rfl h0) (qfn _)) (qjR _ _))) XE.cint (fun x=>qbi x _ rfl)) (XE.binP (XE.var (i:=1) rfl h1) XE.cint (qbR _ _)) (fun x=>qiO x _)) (fun y=>qbR _ y)) rfl fun _=>rfl) ?_;rintro bt _ ⟨q2,rfl,h2⟩;exact BN.nil ⟨_,rfl,h2⟩
  ·exact BN.nil ⟨_,rfl,h2⟩
  rintro p27 _ ⟨q2,rfl,h2⟩;exact BR.ret (XE.binR (XE.binR (XE.binP (XE.var (i:=2) rfl h2) (XE.var (i:=2) rfl h2) (qiO _ _)) XE.cint (fun x=>qbi x _ rfl)) (XE.binP (XE.var (i:=2) rfl h2) XE.cint (qbi _ _ rfl)) (fun x=>qbR x _)) rfl
 exact Rf.run rfl (key _ _ .non SlV.any SlV.flat)
theorem qjZ (aw:List Int):Rf (g__law_floor [(eL eI) aw]) (qfJ aw) (eT3 eI eI eI) .v true:=by
 have key:∀q0 q1 q2:Sl,SlV false ((eL eI) aw) q0→BR qc8 qcg [q0,q1,q2] (qfJ aw) (eT3 eI eI eI) .v true:=by
  intro q0 q1 q2 h0;unfold qfJ qcg;refine BR.cons (SN.asg (en:=eI) (fun q1=>[q0,q1,q2]) (XE.binL XE.cint (XE.binR (XE.call2P rfl (XE.var (i:=0) rfl h0) XE.cint (qaN aw 0) rfl rfl) XE.cint (fun x=>qbi x _ rfl)) (fun y=>qbR _ y)) rfl fun _=>rfl) ?_;rintro aQ _ ⟨q1,rfl,h1⟩;refine BR.cons (SN.asg (en:=eI) (fun q2=>[q0,q1,q2]) (XE.binL XE.cint (XE.bin (XE.call2P rfl (XE.var (i:=0) rfl h0) XE.cint (qaN aw 1) rfl rfl) (XE.pri2 XE.cint (XE.binP XE.cint (XE.var (i:=1) rfl h1) (quX _ _)) (fun x y=>qtd x y)) (fun x y=>qjR x y)) (fun y=>qbR _ y)) rfl fun _=>rfl) ?_;rintro aV _ ⟨q2,rfl,h2⟩;exact BR.ret (XE.tup3 (XE.var (i:=1) rfl h1) (XE.var (i:=2) rfl h2) (XE.binL XE.cint (XE.binR (XE.call2P rfl (XE.var (i:=0) rfl h0) XE.cint (qaN aw 2) rfl rfl) XE.cint (fun x=>qbi x _ rfl)) (fun y=>qbR _ y)) rfl) rfl
 exact Rf.run rfl (key _ .non .non SlV.any)
theorem qhu (aw:List Int) (ao:Int × Int × Int) (aS:Int):Rf (g__law_filling [(eL eI) aw,(eT3 eI eI eI) ao,eI aS]) (qdn aw ao aS) (eL eI) .f true:=by
 have key:∀q0 q1 q2 q3:Sl,SlV false ((eL eI) aw) q0→SlV true ((eT3 eI eI eI) ao) q1→SlV true (eI aS) q2→BR qb3 qbo [q0,q1,q2,q3] (qdn aw ao aS) (eL eI) .f true:=by
  intro q0 q1 q2 q3 h0 h1 h2;unfold qdn qbo;exact BR.ret (XE.lc (t0:=true) (fun q3=>[q0,q1,q2,q3]) (XI.rng (XRg.r1 (XE.binP (XE.prtP (x:=ao) (t2:=true) (f:=fun p=>p.1) (en2:=eI) (XE.var (i:=1) rfl h1) (fun _ _=>rfl) (fun _=>.inl rfl)) (XE.prtP (x:=ao) (t2:=true) (f:=fun p=>p.2.1) (en2:=eI) (XE.var (i:=1) rfl h1) (fun _ _=>rfl) (fun _=>.inl rfl)) (qiO _ _)))) (fun _=>.inl rfl) (fun _=>rfl) (fun aC q3 h3=>XTs.nil) (fun aC q3 h3 _=>(XE.binL XE.cint (XE.binR (XE.call2P rfl (XE.var (i:=0) rfl h0) (XE.binP (XE.var (i:=2) rfl h2) (XE.var (i:=3) rfl h3) (qbR _ _)) (qaN aw (aS+aC)) rfl rfl) (XE.prtP (x:=ao) (t2:=true) (f:=fun p=>p.2.2) (en2:=eI) (XE.var (i:=1) rfl h1) (fun _ _=>rfl) (fun _=>.inl rfl)) (fun x=>qjR x _)) (fun y=>qbR _ y))) rfl) rfl
 exact Rf.run rfl (key _ _ _ .non SlV.any SlV.flat SlV.flat)
theorem qiJ (ac:Int) (aB:Int):Rf (g__law_stream [eI ac,eI aB]) (qdt ac aB) (eL eI) .f true:=by
 have key:∀q0 q1 q2 q3 q4:Sl,SlV true (eI ac) q0→SlV true (eI aB) q1→BR qcx qbI [q0,q1,q2,q3,q4] (qdt ac aB) (eL eI) .f true:=by
  intro q0 q1 q2 q3 q4 h0 h1;unfold qdt qbI;refine BR.cons (SN.asg (en:=eI) (fun q2=>[q0,q1,q2,q3,q4]) (XE.binP (XE.binP (XE.var (i:=0) rfl h0) XE.cint (qbi _ _ rfl)) XE.cint (qbR _ _)) rfl fun _=>rfl) ?_;rintro aE _ ⟨q2,rfl,h2⟩;refine BR.cons (SN.own (en:=eI) (fun q3=>[q0,q1,q2,q3,q4]) (XE.lstL XLs.nil) fun _=>rfl) ?_;rintro al _ ⟨q3,rfl,h3⟩;refine BR.cons (S:=(fun(st:Int × (List Int)) ρ=>∃q2 q3 q4,ρ=[q0,q1,q2,q3,q4]∧SlV true (eI st.1) q2∧SlO true (List.map eI st.2) q3)) (SN.for1 (t0:=true) _ (XI.rng (XRg.r1P (XE.var (i:=1) rfl h1))) (fun _=>.inl rfl) ⟨_,_,_,rfl,h2,h3⟩ ?_) ?_
  ·intro aC s7 ρ1 q4 hS h4;obtain⟨q2,q3,_,rfl,h2,h3⟩:=hS;change BL _ _ [q0,q1,q2,q3,q4] _ _;refine BL.cons (SN.asg (en:=eI) (fun q2=>[q0,q1,q2,q3,q4]) (XE.binR (XE.binR (XE.binR (XE.binP (XE.var (i:=2) rfl h2) (XE.var (i:=2) rfl h2) (qiO _ _)) (XE.binP XE.cint (XE.var (i:=2) rfl h2) (qqh _ _ (qnA rfl))) (fun x=>qbR x _)) (XE.var (i:=4) rfl h4) (fun x=>qbR x _)) XE.cint (fun x=>qbi x _ rfl)) rfl fun _=>rfl) ?_;rintro aE _ ⟨q2,rfl,h2⟩;refine BL.cons (SN.appP (en:=eI) (fun q3=>[q0,q1,q2,q3,q4]) (XE.var (i:=2) rfl h2) rfl rfl h3 (fun _=>rfl)) ?_;rintro al _ ⟨q3,rfl,h3⟩;exact BL.nil ⟨_,_,_,rfl,h2,h3⟩
  rintro p14 _ ⟨q2,q3,q4,rfl,h2,h3⟩;exact BR.ret (XE.varO (i:=3) rfl h3) rfl
 exact Rf.run rfl (key _ _ .non .non .non SlV.flat SlV.flat)
theorem qjn (aY:List Int) (aB:Int):Rf (g__law_order [(eL eI) aY,eI aB]) (qe9 aY aB) (eL eI) .f true:=by
 have key:∀q0 q1 q2 q3 q4:Sl,SlV false ((eL eI) aY) q0→SlV true (eI aB) q1→BR qdb qcj [q0,q1,q2,q3,q4] (qe9 aY aB) (eL eI) .f true:=by
  intro q0 q1 q2 q3 q4 h0 h1;unfold qe9 qcj;refine BR.cons (SN.own (en:=eI) (fun q2=>[q0,q1,q2,q3,q4]) (XE.lrng (XRg.r1P (XE.var (i:=1) rfl h1))) fun _=>rfl) ?_;rintro aq _ ⟨q2,rfl,h2⟩;refine BR.cons (SN.own (en:=eI) (fun q3=>[q0,q1,q2,q3,q4]) (XE.lstL XLs.nil) fun _=>rfl) ?_;rintro aU _ ⟨q3,rfl,h3⟩;refine BR.cons (S:=(fun(st:(List Int) × (List Int)) ρ=>∃q2 q3 q4,ρ=[q0,q1,q2,q3,q4]∧SlO true (List.map eI st.1) q2∧SlO true (List.map eI st.2) q3)) (SN.for1 (t0:=true) _ (XI.rng (XRg.r1P (XE.var (i:=1) rfl h1))) (fun _=>.inl rfl) ⟨_,_,_,rfl,h2,h3⟩ ?_) ?_
  ·intro aC s5 ρ1 q4 hS h4;obtain⟨q2,q3,_,rfl,h2,h3⟩:=hS;change BL _ _ [q0,q1,q2,q3,q4] _ _;refine BL.cons (SN.apop (en:=eI) (fun q3 q2=>[q0,q1,q2,q3,q4]) rfl rfl h3 rfl h2 (XE.binR (XE.idxFP (XE.var (i:=0) rfl h0) (XE.var (i:=4) rfl h4)) (XE.pri1P (XE.varO (i:=2) rfl h2) (qfn _)) (fun x=>qjR x _)) (fun _ _=>rfl)) ?_;rintro p8 _ ⟨q3,q2,rfl,h3,h2⟩;exact BL.nil ⟨_,_,_,rfl,h2,h3⟩
  rintro p10 _ ⟨q2,q3,q4,rfl,h2,h3⟩;exact BR.ret (XE.varO (i:=3) rfl h3) rfl
 exact Rf.run rfl (key _ _ .non .non .non SlV.any SlV.flat)
theorem qk2 (aU:List Int) (aG:List Int) (bu:Bool):Rf (g__law_kept [(eL eI) aU,(eL eI) aG,eB bu]) (qff aU aG bu) (eL eI) .n true:=by
 have key:∀q0 q1 q2 q3 q4 q5 q6:Sl,SlV false ((eL eI) aU) q0→SlV false ((eL eI) aG) q1→SlV true (eB bu) q2→BR qdH qcF [q0,q1,q2,q3,q4,q5,q6] (qff aU aG bu) (eL eI) .n true:=by
  intro q0 q1 q2 q3 q4 q5 q6 h0 h1 h2;unfold qff qcF;refine BR.cons (SN.asg (en:=(eL eI)) (fun q3=>[q0,q1,q2,q3,q4,q5,q6]) (XE.lstL XLs.nil) rfl fun _=>rfl) ?_;rintro b7 _ ⟨q3,rfl,h3⟩;refine BR.cons (S:=(fun(st:List Int) ρ=>∃q3 q4 q5,ρ=[q0,q1,q2,q3,q4,q5,q6]∧SlV true ((eL eI) st) q3)) (SN.for1 (t0:=true) _ (XI.rng (XRg.r2P XE.cint XE.cint)) (fun _=>.inl rfl) ⟨_,_,_,rfl,h3⟩ ?_) ?_
  ·intro ai s4 ρ1 q4 hS h4;obtain⟨q3,_,q5,rfl,h3⟩:=hS;change BL _ _ [q0,q1,q2,q3,q4,q5,q6] _ _;refine BL.cons (SN.asg (en:=(eL eI)) (fun q5=>[q0,q1,q2,q3,q4,q5,q6]) (XE.lc (t0:=true) (fun q6=>[q0,q1,q2,q3,q4,q5,q6]) (XI.list (XE.var (i:=0) rfl h0) rfl) (fun _=>.inr inferInstance) (fun _=>rfl) (fun ac q6 h6=>(XTs.one (XT.val (XE.cmpR (XE.idxFP (XE.var (i:=1) rfl h1) (XE.var (i:=6) rfl h6)) (XE.var (i:=4) rfl h4) (fun x=>qfQ x _))))) (fun ac q6 h6 _=>(XE.var (i:=6) rfl h6)) rfl) rfl fun _=>rfl) ?_;rintro aF _ ⟨q5,rfl,h5⟩;refine BL.cons (SN.asg (en:=(eL eI)) (fun q3=>[q0,q1,q2,q3,q4,q5,q6]) (XE.binP (XE.var (i:=3) rfl h3) (XE.slcP (XE.var (i:=5) rfl h5) XO.nil (XO.oneP XE.cint)) (qcp (en:=eI) _ _)) rfl fun _=>rfl) ?_;rintro b7 _ ⟨q3,rfl,h3⟩;exact BL.nil ⟨_,_,_,rfl,h3⟩
  rintro p8 _ ⟨q3,q4,q5,rfl,h3⟩;refine BR.ifR (XT.val (XE.var (i:=2) rfl h2)) ?_ ?_
  ·exact(BR.ret (XE.var (i:=3) rfl h3) rfl).weak rfl
  exact(BR.ret ((XE.lc (t0:=true) (fun q6=>[q0,q1,q2,q3,q4,q5,q6]) (XI.list (XE.var (i:=0) rfl h0) rfl) (fun _=>.inr inferInstance) (fun _=>rfl) (fun ac q6 h6=>(XTs.one (XT.val (XE.cmpP (XE.var (i:=6) rfl h6) (XE.var (i:=3) rfl h3) (qn1 _ _))))) (fun ac q6 h6 _=>(XE.var (i:=6) rfl h6)) rfl).cast (qtu _ _)) rfl).weak rfl
 exact Rf.run rfl (key _ _ _ .non .non .non .non SlV.any SlV.any SlV.flat)
theorem qkM (aG:List Int) (am:List Int):Rf (g__law_seen [(eL eI) aG,(eL eI) am]) (qfV aG am) eI .v true:=by
 have key:∀q0 q1 q2 q3 q4:Sl,SlV false ((eL eI) aG) q0→SlV false ((eL eI) am) q1→BR qdK qcE [q0,q1,q2,q3,q4] (qfV aG am) eI .v true:=by
  intro q0 q1 q2 q3 q4 h0 h1;unfold qfV qcE;refine BR.cons (SN.asg (en:=eI) (fun q2=>[q0,q1,q2,q3,q4]) XE.cint rfl fun _=>rfl) ?_;rintro b8 _ ⟨q2,rfl,h2⟩;refine BR.cons (SN.asg (en:=eI) (fun q3=>[q0,q1,q2,q3,q4]) XE.cint rfl fun _=>rfl) ?_;rintro aB _ ⟨q3,rfl,h3⟩;refine BR.cons (S:=(fun(st:Int × Int) ρ=>∃q2 q3 q4,ρ=[q0,q1,q2,q3,q4]∧SlV true (eI st.1) q2∧SlV true (eI st.2) q3)) (SN.for1 (t0:=true) _ (XI.list (XE.var (i:=1) rfl h1) rfl) (fun _=>.inr inferInstance) ⟨_,_,_,rfl,h2,h3⟩ ?_) ?_
  ·intro ac s4 ρ1 q4 hS h4;obtain⟨q2,q3,_,rfl,h2,h3⟩:=hS;change BL _ _ [q0,q1,q2,q3,q4] _ _;refine BL.cons (S:=(fun(st:Int × Int) ρ=>∃q2 q3,ρ=[q0,q1,q2,q3,q4]∧SlV true (eI st.1) q2∧SlV true (eI st.2) q3)) (SN.iff (XT.val (XE.cmpR (XE.idxFP (XE.var (i:=0) rfl h0) (XE.var (i:=4) rfl h4)) (XE.var (i:=2) rfl h2) (fun x=>qmm x _))) ?_ ?_) ?_
   ·refine BN.cons (SN.asg (en:=eI) (fun q2=>[q0,q1,q2,q3,q4]) (XE.idxFP (XE.var (i:=0) rfl h0) (XE.var (i:=4) rfl h4)) rfl fun _=>rfl) ?_;rintro b8 _ ⟨q2,rfl,h2⟩;refine BN.cons (SN.asg (en:=eI) (fun q3=>[q0,q1,q2,q3,q4]) (XE.binP (XE.var (i:=3) rfl h3) XE.cint (qbR _ _)) rfl fun _=>rfl) ?_;rintro aB _ ⟨q3,rfl,h3⟩;exact BN.nil ⟨_,_,rfl,h2,h3⟩
   ·exact BN.nil ⟨_,_,rfl,h2,h3⟩
   rintro p8 _ ⟨q2,q3,rfl,h2,h3⟩;exact BL.nil ⟨_,_,_,rfl,h2,h3⟩
  rintro p9 _ ⟨q2,q3,q4,rfl,h2,h3⟩;exact BR.ret (XE.var (i:=3) rfl h3) rfl
 exact Rf.run rfl (key _ _ .non .non .non SlV.any SlV.any)
theorem qkN (ao:Int × Int × Int) (aG:List Int) (ac:Int):Rf (g__law_line [(eT3 eI eI eI) ao,(eL eI) aG,eI ac]) (qg3 ao aG ac) eS .v true:=by
 have key:∀q0 q1 q2 q3 q4 q5 q6 q7 q8 q9 q10 q11:Sl,SlV true ((eT3 eI eI eI) ao) q0→SlV false ((eL eI) aG) q1→SlV true (eI ac) q2→BR qdQ qcC [q0,q1,q2,q3,q4,q5,q6,q7,q8,q9,q10,q11] (qg3 ao aG ac) eS .v true:=by
  intro q0 q1 q2 q3 q4 q5 q6 q7 q8 q9 q10 q11 h0 h1 h2;unfold qg3 qcC;refine BR.cons (SN.asg (en:=eI) (fun q3=>[q0,q1,q2,q3,q4,q5,q6,q7,q8,q9,q10,q11]) (XE.binP (XE.prtP (x:=ao) (t2:=true) (f:=fun p=>p.1) (en2:=eI) (XE.var (i:=0) rfl h0) (fun _ _=>rfl) (fun _=>.inl rfl)) (XE.prtP (x:=ao) (t2:=true) (f:=fun p=>p.2.1) (en2:=eI) (XE.var (i:=0) rfl h0) (fun _ _=>rfl) (fun _=>.inl rfl)) (qiO _ _)) rfl fun _=>rfl) ?_;rintro aB _ ⟨q3,rfl,h3⟩;refine BR.cons (SN.asg (en:=(eL eI)) (fun q4=>[q0,q1,q2,q3,q4,q5,q6,q7,q8,q9,q10,q11]) (XE.call2P rfl (XE.binP (XE.var (i:=2) rfl h2) XE.cint (qhZ _ _ rfl)) (XE.binP (XE.var (i:=3) rfl h3) XE.cint (qbR _ _)) (qiJ (Int.fdiv ac 8) (aB+3)) rfl rfl) rfl fun _=>rfl) ?_;rintro aY _ ⟨q4,rfl,h4⟩;refine BR.cons (SN.asg (en:=(eL eI)) (fun q5=>[q0,q1,q2,q3,q4,q5,q6,q7,q8,q9,q10,q11]) (XE.call2P rfl (XE.var (i:=4) rfl h4) (XE.var (i:=3) rfl h3) (qjn aY aB) rfl rfl) rfl fun _=>rfl) ?_;rintro aU _ ⟨q5,rfl,h5⟩;refine BR.cons (SN.asg (en:=(eL eI)) (fun q6=>[q0,q1,q2,q3,q4,q5,q6,q7,q8,q9,q10,q11]) (XE.slc (XE.var (i:=5) rfl h5) XO.nil (XO.one (XE.binL XE.cint (XE.binR (XE.idxFP (XE.var (i:=4) rfl h4) (XE.var (i:=3) rfl h3)) (XE.var (i:=3) rfl h3) (fun x=>qjR x _)) (fun y=>qbR _ y)))) rfl fun _=>rfl) ?_;rintro aF _ ⟨q6,rfl,h6⟩;refine BR.cons (SN.asg (en:=eI) (fun q7=>[q0,q1,q2,q3,q4,q5,q6,q7,q8,q9,q10,q11]) (XE.binL XE.cint (XE.binR (XE.idxFP (XE.var (i:=4) rfl h4) (XE.binP (XE.var (i:=3) rfl h3) XE.cint (qbR _ _))) (XE.prtP (x:=ao) (t2:=true) (f:=fun p=>p.2.2) (en2:=eI) (XE.var (i:=0) rfl h0) (fun _ _=>rfl) (fun _=>.inl rfl)) (fun x=>qjR x _)) (fun y=>qbR _ y)) rfl fun _=>rfl) ?_;rintro ai _ ⟨q7,rfl,h7⟩;refine BR.cons (SN.asg (en:=eI) (fun q8=>[q0,q1,q2,q3,q4,q5,q6,q7,q8,q9,q10,q11]) (XE.idxF (XE.lstL (en:=eI) (XLs.cons XE.cint rfl (XLs.cons XE.cint rfl (XLs.cons XE.cint rfl (XLs.cons XE.cint rfl XLs.nil))))) (XE.binR (XE.idxFP (XE.var (i:=4) rfl h4) (XE.binP (XE.var (i:=3) rfl h3) XE.cint (qbR _ _))) XE.cint (fun x=>qbi x _ rfl))) rfl fun _=>rfl) ?_;rintro bi _ ⟨q8,rfl,h8⟩;refine BR.cons (SN.asg (en:=eI) (fun q9=>[q0,q1,q2,q3,q4,q5,q6,q7,q8,q9,q10,q11]) (XE.binP (XE.var (i:=2) rfl h2) XE.cint (qbi _ _ rfl)) rfl fun _=>rfl) ?_;rintro be _ ⟨q9,rfl,h9⟩;refine BR.ifR (XT.val (XE.cmpP (XE.var (i:=9) rfl h9) XE.cint (qmm _ _))) ?_ ?_
  ·exact BR.ret (XE.bin (XE.binR (XE.idxFP (XE.lstL (en:=eS) (XLs.cons XE.cstr rfl (XLs.cons XE.cstr rfl (XLs.cons XE.cstr rfl XLs.nil)))) (XE.binP (XE.var (i:=9) rfl h9) XE.cint (qta _ _))) XE.cstr (fun x=>ql7 x _)) (XE.pri1P (XE.var (i:=7) rfl h7) (qim _)) (fun x y=>ql7 x y)) rfl
  refine BR.cons (S:=(fun(st:List Int) ρ=>∃q6,ρ=[q0,q1,q2,q3,q4,q5,q6,q7,q8,q9,q10,q11]∧SlV true ((eL eI) st) q6)) (SN.iff (XT.bop (XTs.and (XT.val (XE.cmpP (XE.var (i:=9) rfl h9) (XE.tup2P XE.cint XE.cint rfl) ((qpa .isin (eI) ((eT2 eI eI))) _ _))) (XTs.one (XT.val (XE.cmpP (XE.var (i:=8) rfl h8) XE.cint (qfQ _ _)))))) ?_ ?_) ?_
  ·refine BN.cons (SN.asg (en:=(eL eI)) (fun q6=>[q0,q1,q2,q3,q4,q5,q6,q7,q8,q9,q10,q11]) (XE.slc (XE.call3P rfl (XE.var (i:=5) rfl h5) (XE.var (i:=1) rfl h1) (XE.cmpP (XE.var (i:=9) rfl h9) XE.cint (qfQ _ _)) (qk2 aU aG (decide (be=2))) rfl rfl) XO.nil (XO.oneP (XE.pri1P (XE.var (i:=6) rfl h6) (qfn _)))) rfl fun _=>rfl) ?_;rintro aF _ ⟨q6,rfl,h6⟩;exact BN.nil ⟨_,rfl,h6⟩
  ·exact BN.nil ⟨_,rfl,h6⟩
  rintro p30 _ ⟨q6,rfl,h6⟩;refine BR.cons (SN.asg (en:=(eL eS)) (fun q10=>[q0,q1,q2,q3,q4,q5,q6,q7,q8,q9,q10,q11]) (XE.lstL (en:=eS) (XLs.cons XE.cstr rfl XLs.nil)) rfl fun _=>rfl) ?_;rintro aK _ ⟨q10,rfl,h10⟩;refine BR.cons (S:=(fun(st:List (List Nat)) ρ=>∃q10,ρ=[q0,q1,q2,q3,q4,q5,q6,q7,q8,q9,q10,q11]∧SlV true ((eL eS) st) q10)) (SN.iff (XT.val (XE.cmpP (XE.var (i:=9) rfl h9) XE.cint (qfQ _ _))) ?_ ?_) ?_
  ·refine BN.cons (SN.asg (en:=(eL eS)) (fun q10=>[q0,q1,q2,q3,q4,q5,q6,q7,q8,q9,q10,q11]) (XE.cast (m':=(RE.ok ([115,117,109])).bind fun x44=>(((((RE.ok p30).bind fun x39=>gd (leB x39.length) (lcE (fun(az:Int)=>(RE.ok true)) (fun(az:Int)=>(atE aG az)) x39)).bind fun x40=>RE.ok (List.sum x40)).bind fun x41=>RE.ok (x41+bi)).bind fun x43=>qiM x43).bind fun x45=>RE.ok [x44,x45]) (XE.lstS (F:=fun w=>[w.1,w.2.1]) (en:=eS) (XS.cons XE.cstr (XS.cons (XE.pri1 (XE.binR (XE.pri1 (XE.lc (t0:=true) (fun q11=>[q0,q1,q2,q3,q4,q5,q6,q7,q8,q9,q10,q11]) (XI.list (XE.var (i:=6) rfl h6) rfl) (fun _=>.inl rfl) (fun _=>rfl) (fun az q11 h11=>XTs.nil) (fun az q11 h11 _=>(XE.idxFP (XE.var (i:=1) rfl h1) (XE.var (i:=11) rfl h11))) rfl) (fun x=>qu8 x)) (XE.var (i:=8) rfl h8) (fun x=>qbR x _)) (fun x=>qim x)) XS.nil)) (fun _=>rfl) rfl) (by simp only[RE.bind_assoc,RE.bind_ok])) rfl fun _=>rfl) ?_;rintro aK _ ⟨q10,rfl,h10⟩;exact BN.nil ⟨_,rfl,h10⟩
  ·exact BN.nil ⟨_,rfl,h10⟩
  rintro p46 _ ⟨q10,rfl,h10⟩;refine BR.cons (S:=(fun(st:List (List Nat)) ρ=>∃q10,ρ=[q0,q1,q2,q3,q4,q5,q6,q7,q8,q9,q10,q11]∧SlV true ((eL eS) st) q10)) (SN.iff (XT.val (XE.cmpP (XE.var (i:=9) rfl h9) XE.cint (qfQ _ _))) ?_ ?_) ?_
  ·refine BN.cons (SN.asg (en:=(eL eS)) (fun q10=>[q0,q1,q2,q3,q4,q5,q6,q7,q8,q9,q10,q11]) (XE.lstL (en:=eS) (XLs.cons XE.cstr rfl XLs.nil)) rfl fun _=>rfl) ?_;rintro aK _ ⟨q10,rfl,h10⟩;exact BN.nil ⟨_,rfl,h10⟩
  ·exact BN.nil ⟨_,rfl,h10⟩
  rintro p48 _ ⟨q10,rfl,h10⟩;refine BR.cons (S:=(fun(st:List (List Nat)) ρ=>∃q10,ρ=[q0,q1,q2,q3,q4,q5,q6,q7,q8,q9,q10,q11]∧SlV true ((eL eS) st) q10)) (SN.iff (XT.val (XE.cmpP (XE.var (i:=9) rfl h9) XE.cint (qfQ _ _))) ?_ ?_) ?_
  ·refine BN.cons (SN.asg (en:=(eL eS)) (fun q10=>[q0,q1,q2,q3,q4,q5,q6,q7,q8,q9,q10,q11]) (XE.cast (m':=(RE.ok ([115,101,101,110])).bind fun x58=>(((qfV aG p30).bind fun x55=>RE.ok (x55+bi)).bind fun x57=>qiM x57).bind fun x59=>RE.ok [x58,x59]) (XE.lstS (F:=fun w=>[w.1,w.2.1]) (en:=eS) (XS.cons XE.cstr (XS.cons (XE.pri1 (XE.binR (XE.call2P rfl (XE.var (i:=1) rfl h1) (XE.var (i:=6) rfl h6) (qkM aG p30) rfl rfl) (XE.var (i:=8) rfl h8) (fun x=>qbR x _)) (fun x=>qim x)) XS.nil)) (fun _=>rfl) rfl) (by simp only[RE.bind_assoc,RE.bind_ok])) rfl fun _=>rfl) ?_;rintro aK _ ⟨q10,rfl,h10⟩;exact BN.nil ⟨_,rfl,h10⟩
  ·exact BN.nil ⟨_,rfl,h10⟩
  rintro p60 _ ⟨q10,rfl,h10⟩;refine BR.cons (S:=(fun(st:List (List Nat)) ρ=>∃q10,ρ=[q0,q1,q2,q3,q4,q5,q6,q7,q8,q9,q10,q11]∧SlV true ((eL eS) st) q10)) (SN.iff (XT.val (XE.cmpP (XE.var (i:=9) rfl h9) XE.cint (qfQ _ _))) ?_ ?_) ?_
  ·refine BN.cons (SN.asg (en:=(eL eS)) (fun q10=>[q0,q1,q2,q3,q4,q5,q6,q7,q8,q9,q10,q11]) (XE.cast (m':=(RE.ok ([99,111,117,110,116])).bind fun x79=>(((((RE.ok p30).bind fun x74=>gd (leB x74.length) (lcE (fun(az:Int)=>((atE aG az).bind fun x72=>RE.ok (decide (x72=ai)))) (fun(az:Int)=>(RE.ok az)) x74)).bind fun x75=>RE.ok (List.length x75:Int)).bind fun x76=>RE.ok (x76+bi)).bind fun x78=>qiM x78).bind fun x80=>(qiM ai).bind fun x81=>RE.ok [x79,x80,x81]) (XE.lstS (F:=fun w=>[w.1,w.2.1,w.2.2.1]) (en:=eS) (XS.cons XE.cstr (XS.cons (XE.pri1 (XE.binR (XE.pri1 (XE.lc (t0:=true) (fun q11=>[q0,q1,q2,q3,q4,q5,q6,q7,q8,q9,q10,q11]) (XI.list (XE.var (i:=6) rfl h6) rfl) (fun _=>.inl rfl) (fun _=>rfl) (fun az q11 h11=>(XTs.one (XT.val (XE.cmpR (XE.idxFP (XE.var (i:=1) rfl h1) (XE.var (i:=11) rfl h11)) (XE.var (i:=7) rfl h7) (fun x=>qfQ x _))))) (fun az q11 h11 _=>(XE.var (i:=11) rfl h11)) rfl) (fun x=>qfn x)) (XE.var (i:=8) rfl h8) (fun x=>qbR x _)) (fun x=>qim x)) (XS.cons (XE.pri1P (XE.var (i:=7) rfl h7) (qim _)) XS.nil))) (fun _=>rfl) rfl) (by simp only[RE.bind_assoc,RE.bind_ok])) rfl fun _=>rfl) ?_;rintro aK _ ⟨q10,rfl,h10⟩;exact BN.nil ⟨_,rfl,h10⟩
  ·exact BN.nil ⟨_,rfl,h10⟩
  rintro p82 _ ⟨q10,rfl,h10⟩;exact BR.ret (XE.join XE.cstr (XE.binL (XE.var (i:=10) rfl h10) (XE.lc (t0:=true) (fun q11=>[q0,q1,q2,q3,q4,q5,q6,q7,q8,q9,q10,q11]) (XI.list (XE.var (i:=6) rfl h6) rfl) (fun _=>.inl rfl) (fun _=>rfl) (fun az q11 h11=>XTs.nil) (fun az q11 h11 _=>(XE.pri1P (XE.var (i:=11) rfl h11) (qim _))) rfl) (fun y=>qcp (en:=eS) _ y))) rfl
 exact Rf.run rfl (key _ _ _ .non .non .non .non .non .non .non .non .non SlV.flat SlV.any SlV.flat)
theorem qdW (ao:Int × Int × Int) (av:List Int) (ac:Int):Rf (g__law_bad_clues [(eT3 eI eI eI) ao,(eL eI) av,eI ac]) (qbB ao av ac) (eL eI) .f false:=by
 have key:∀q0 q1 q2 q3:Sl,SlV true ((eT3 eI eI eI) ao) q0→SlV false ((eL eI) av) q1→SlV true (eI ac) q2→BR qbw qa1 [q0,q1,q2,q3] (qbB ao av ac) (eL eI) .f false:=by
  intro q0 q1 q2 q3 h0 h1 h2;unfold qbB qa1;refine BR.cons (SN.asg (en:=eI) (fun q3=>[q0,q1,q2,q3]) (XE.binP (XE.binP (XE.var (i:=2) rfl h2) XE.cint (qhZ _ _ rfl)) (XE.pri1P (XE.var (i:=1) rfl h1) (qfn _)) (qjR _ _)) rfl fun _=>rfl) ?_;rintro aS _ ⟨q3,rfl,h3⟩;refine BR.ifR (XT.val (XE.cmpP (XE.binP (XE.var (i:=2) rfl h2) XE.cint (qbi _ _ rfl)) XE.cint (qfQ _ _))) ?_ ?_
  ·exact BR.ret (XE.slcP (XE.var (i:=1) rfl h1) (XO.oneP XE.cint) XO.nil) rfl
  refine BR.ifR (XT.val (XE.cmpP (XE.binP (XE.var (i:=2) rfl h2) XE.cint (qbi _ _ rfl)) XE.cint (qfQ _ _))) ?_ ?_
  ·exact BR.ret (XE.binP (XE.var (i:=1) rfl h1) (XE.lstL (en:=eI) (XLs.cons XE.cint rfl XLs.nil)) (qcp (en:=eI) _ _)) rfl
  exact BR.ret (XE.binR (XE.binL (XE.slcP (XE.var (i:=1) rfl h1) XO.nil (XO.oneP (XE.var (i:=3) rfl h3))) (XE.cast (m':=(atE ([(-1),ao.2.2+1]) (Int.fmod ac 2)).bind fun x3=>RE.ok [x3]) (XE.lstS (F:=fun w=>[w.1]) (en:=eI) (XS.cons (XE.idxFP (XE.lstL (en:=eI) (XLs.cons (XE.negP XE.cint) rfl (XLs.cons (XE.binP (XE.prtP (x:=ao) (t2:=true) (f:=fun p=>p.2.2) (en2:=eI) (XE.var (i:=0) rfl h0) (fun _ _=>rfl) (fun _=>.inl rfl)) XE.cint (qbR _ _)) rfl XLs.nil))) (XE.binP (XE.var (i:=2) rfl h2) XE.cint (qbi _ _ rfl))) XS.nil) (fun _=>rfl) rfl) (by simp only[RE.bind_assoc,RE.bind_ok])) (fun y=>qcp (en:=eI) _ y)) (XE.slcP (XE.var (i:=1) rfl h1) (XO.oneP (XE.binP (XE.var (i:=3) rfl h3) XE.cint (qbR _ _))) XO.nil) (fun x=>qcp (en:=eI) x _)) rfl
 exact Rf.run rfl (key _ _ _ .non SlV.flat SlV.any SlV.flat)
theorem qgZ (ao:Int × Int × Int) (ac:Int):Rf (g__law_bad_line [(eT3 eI eI eI) ao,eI ac]) (qbV ao ac) (eO eD) .v true:=by
 have key:∀q0 q1 q2 q3:Sl,SlV true ((eT3 eI eI eI) ao) q0→SlV true (eI ac) q1→BR qbH qbc [q0,q1,q2,q3] (qbV ao ac) (eO eD) .v true:=by
  intro q0 q1 q2 q3 h0 h1;unfold qbV qbc;refine BR.cons (SN.asg (en:=eI) (fun q2=>[q0,q1,q2,q3]) (XE.binP (XE.prtP (x:=ao) (t2:=true) (f:=fun p=>p.1) (en2:=eI) (XE.var (i:=0) rfl h0) (fun _ _=>rfl) (fun _=>.inl rfl)) (XE.prtP (x:=ao) (t2:=true) (f:=fun p=>p.2.1) (en2:=eI) (XE.var (i:=0) rfl h0) (fun _ _=>rfl) (fun _=>.inl rfl)) (qiO _ _)) rfl fun _=>rfl) ?_;rintro aB _ ⟨q2,rfl,h2⟩;refine BR.cons (SN.asg (en:=(eL (eO eD))) (fun q3=>[q0,q1,q2,q3]) (XE.cast (m':=(RE.ok ((fun x=>some ((eS) x)) [])).bind fun x4=>(RE.ok ((fun x=>some ((eS) x)) ([117,110,108,105,107,101]))).bind fun x5=>(RE.ok ((fun x=>some ((eS) x)) ([117,110,108,105,107,101,32,48,32,48]))).bind fun x6=>(((qiM aB).bind fun x2=>qjM ([117,110,108,105,107,101,32]) x2).bind fun x3=>RE.ok ((fun x=>some ((eS) x)) x3)).bind fun x7=>(RE.ok ((fun x=>some ((eS) x)) ([115,117,109,32,49,48,48,32,48]))).bind fun x8=>(RE.ok ((fun x=>some ((eS) x)) ([115,117,109,32,48,49,32,48]))).bind fun x9=>(RE.ok ((fun x=>some ((eS) x)) ([115,117,109,32,51]))).bind fun x10=>(RE.ok ((fun x=>some ((eS) x)) ([106,111,105,110,101,100,32,48]))).bind fun x11=>RE.ok [x4,x5,x6,x7,x8,x9,x10,x11]) (XE.lstS (F:=fun w=>[w.1,w.2.1,w.2.2.1,w.2.2.2.1,w.2.2.2.2.1,w.2.2.2.2.2.1,w.2.2.2.2.2.2.1,w.2.2.2.2.2.2.2.1]) (en:=(eO eD)) (XS.cons (XE.coe (x:=[]) (f:=fun x=>some ((eS) x)) (en2:=(eO eD)) XE.cstr (qaL (f:=eS) (fun _=>rfl))) (XS.cons (XE.coe (x:=[117,110,108,105,107,101]) (f:=fun x=>some ((eS) x)) (en2:=(eO eD)) XE.cstr (qaL (f:=eS) (fun _=>rfl))) (XS.cons (XE.coe (x:=[117,110,108,105,107,101,32,48,32,48]) (f:=fun x=>some ((eS) x)) (en2:=(eO eD)) XE.cstr (qaL (f:=eS) (fun _=>rfl))) (XS.cons (XE.coeG (f:=fun x=>some ((eS) x)) (en2:=(eO eD)) (XE.binL XE.cstr (XE.pri1P (XE.var (i:=2) rfl h2) (qim _)) (fun y=>ql7 _ y)) (qaL (f:=eS) (fun _=>rfl))) (XS.cons (XE.coe (x:=[115,117,109,32,49,48,48,32,48]) (f:=fun x=>some ((eS) x)) (en2:=(eO eD)) XE.cstr (qaL (f:=eS) (fun _=>rfl))) (XS.cons (XE.coe (x:=[115,117,109,32,48,49,32,48]) (f:=fun x=>some ((eS) x)) (en2:=(eO eD)) XE.cstr (qaL (f:=eS) (fun _=>rfl))) (XS.cons (XE.coe (x:=[115,117,109,32,51]) (f:=fun x=>some ((eS) x)) (en2:=(eO eD)) XE.cstr (qaL (f:=eS) (fun _=>rfl))) (XS.cons (XE.coe (x:=[106,111,105,110,101,100,32,48]) (f:=fun x=>some ((eS) x)) (en2:=(eO eD)) XE.cstr (qaL (f:=eS) (fun _=>rfl))) XS.nil)))))))) (fun _=>rfl) rfl) (by simp only[RE.bind_assoc,RE.bind_ok])) rfl fun _=>rfl) ?_;rintro aF _ ⟨q3,rfl,h3⟩;refine BR.cons (SN.asg (en:=(eL (eO eD))) (fun q3=>[q0,q1,q2,q3]) (XE.binL (XE.var (i:=3) rfl h3) (XE.cast (m':=(((qiM (ao.2.2+1)).bind fun x13=>qjM ([106,111,105,110,101,100,32]) x13).bind fun x14=>RE.ok ((fun x=>some ((eS) x)) x14)).bind fun x15=>(RE.ok ((fun x=>some ((eS) x)) ([82,105,110,103,32,49]))).bind fun x16=>(RE.ok ((fun x=>some ((eS) x)) ([99,111,117,110,116,32,49,32,48]))).bind fun x17=>(RE.ok ((fun x=>some ((eS) x)) ([110,111,115,113,117,97,114,101]))).bind fun x18=>(RE.ok ((fun x=>some ((eS) x)) ([114,105,115,105,110,103,32,32,48]))).bind fun x19=>(RE.ok ((fun x=>some ((eS) x)) ([115,101,101,110,32,49,32,45,49]))).bind fun x20=>RE.ok [x15,x16,x17,x18,x19,x20]) (XE.lstS (F:=fun w=>[w.1,w.2.1,w.2.2.1,w.2.2.2.1,w.2.2.2.2.1,w.2.2.2.2.2.1]) (en:=(eO eD)) (XS.cons (XE.coeG (f:=fun x=>some ((eS) x)) (en2:=(eO eD)) (XE.binL XE.cstr (XE.pri1P (XE.binP (XE.prtP (x:=ao) (t2:=true) (f:=fun p=>p.2.2) (en2:=eI) (XE.var (i:=0) rfl h0) (fun _ _=>rfl) (fun _=>.inl rfl)) XE.cint (qbR _ _)) (qim _)) (fun y=>ql7 _ y)) (qaL (f:=eS) (fun _=>rfl))) (XS.cons (XE.coe (x:=[82,105,110,103,32,49]) (f:=fun x=>some ((eS) x)) (en2:=(eO eD)) XE.cstr (qaL (f:=eS) (fun _=>rfl))) (XS.cons (XE.coe (x:=[99,111,117,110,116,32,49,32,48]) (f:=fun x=>some ((eS) x)) (en2:=(eO eD)) XE.cstr (qaL (f:=eS) (fun _=>rfl))) (XS.cons (XE.coe (x:=[110,111,115,113,117,97,114,101]) (f:=fun x=>some ((eS) x)) (en2:=(eO eD)) XE.cstr (qaL (f:=eS) (fun _=>rfl))) (XS.cons (XE.coe (x:=[114,105,115,105,110,103,32,32,48]) (f:=fun x=>some ((eS) x)) (en2:=(eO eD)) XE.cstr (qaL (f:=eS) (fun _=>rfl))) (XS.cons (XE.coe (x:=[115,101,101,110,32,49,32,45,49]) (f:=fun x=>some ((eS) x)) (en2:=(eO eD)) XE.cstr (qaL (f:=eS) (fun _=>rfl))) XS.nil)))))) (fun _=>rfl) rfl) (by simp only[RE.bind_assoc,RE.bind_ok])) (fun y=>qcp (en:=(eO eD)) _ y)) rfl fun _=>rfl) ?_
  rintro aF _ ⟨q3,rfl,h3⟩;refine BR.cons (SN.asg (en:=(eL (eO eD))) (fun q3=>[q0,q1,q2,q3]) (XE.binP (XE.var (i:=3) rfl h3) (XE.lstL (en:=(eO eD)) (XLs.cons (XE.coe (x:=()) (f:=fun _=>none) (en2:=(eO eD)) XE.cnon (fun _=>rfl)) rfl (XLs.cons (XE.coe (x:=7) (f:=fun x=>some ((eI) x)) (en2:=(eO eD)) XE.cint (qaL (f:=eI) (fun _=>rfl))) rfl (XLs.cons (XE.coe (x:=true) (f:=fun x=>some ((eB) x)) (en2:=(eO eD)) XE.cbl (qaL (f:=eB) (fun _=>rfl))) rfl (XLs.cons (XE.coe (x:=[[117,110,108,105,107,101],[48]]) (f:=fun x=>some (((eL eS)) x)) (en2:=(eO eD)) (XE.lstL (en:=eS) (XLs.cons XE.cstr rfl (XLs.cons XE.cstr rfl XLs.nil))) (qaL (f:=(eL eS)) (fun _=>rfl))) rfl (XLs.cons (XE.coe (x:=([117,110,108,105,107,101],[48])) (f:=fun x=>some (((eT2 eS eS)) x)) (en2:=(eO eD)) (XE.tup2P XE.cstr XE.cstr rfl) (qaL (f:=(eT2 eS eS)) (fun _=>rfl))) rfl XLs.nil)))))) (qcp (en:=(eO eD)) _ _)) rfl fun _=>rfl) ?_;rintro aF _ ⟨q3,rfl,h3⟩;exact BR.ret (XE.idxP (XE.var (i:=3) rfl h3) (XE.binP (XE.binP (XE.var (i:=1) rfl h1) XE.cint (qhZ _ _ rfl)) XE.cint (qbi _ _ rfl))) rfl
 exact Rf.run rfl (key _ _ .non .non SlV.flat SlV.flat)
theorem qgn (ao:Int × Int × Int) (ac:Int):Rf (g__law_bad_floor [(eT3 eI eI eI) ao,eI ac]) (qbT ao ac) (eT3 eI eI eI) .v true:=by
 have key:∀q0 q1 q2:Sl,SlV true ((eT3 eI eI eI) ao) q0→SlV true (eI ac) q1→BR qbr qa0 [q0,q1,q2] (qbT ao ac) (eT3 eI eI eI) .v true:=by
  intro q0 q1 q2 h0 h1;unfold qbT qa0;refine BR.cons (SN.asg (en:=eI) (fun q2=>[q0,q1,q2]) (XE.idxF (XE.cast (m':=(RE.ok 0).bind fun x1=>(RE.ok 7).bind fun x2=>(RE.ok (-1)).bind fun x3=>(quj 10 9).bind fun x4=>RE.ok [x1,x2,x3,x4]) (XE.lstS (F:=fun w=>[w.1,w.2.1,w.2.2.1,w.2.2.2.1]) (en:=eI) (XS.cons XE.cint (XS.cons XE.cint (XS.cons (XE.negP XE.cint) (XS.cons (XE.binP XE.cint XE.cint (quN _ _)) XS.nil)))) (fun _=>rfl) rfl) (by simp only[RE.bind_assoc,RE.bind_ok])) (XE.binP (XE.binP (XE.var (i:=1) rfl h1) XE.cint (qhZ _ _ rfl)) XE.cint (qbi _ _ rfl))) rfl fun _=>rfl) ?_;rintro bj _ ⟨q2,rfl,h2⟩;refine BR.ifR (XT.val (XE.cmpP (XE.binP (XE.var (i:=1) rfl h1) XE.cint (qbi _ _ rfl)) XE.cint (qfQ _ _))) ?_ ?_
  ·exact BR.ret (XE.tup3P (XE.var (i:=2) rfl h2) (XE.prtP (x:=ao) (t2:=true) (f:=fun p=>p.2.1) (en2:=eI) (XE.var (i:=0) rfl h0) (fun _ _=>rfl) (fun _=>.inl rfl)) (XE.prtP (x:=ao) (t2:=true) (f:=fun p=>p.2.2) (en2:=eI) (XE.var (i:=0) rfl h0) (fun _ _=>rfl) (fun _=>.inl rfl)) rfl) rfl
  refine BR.ifR (XT.val (XE.cmpP (XE.binP (XE.var (i:=1) rfl h1) XE.cint (qbi _ _ rfl)) XE.cint (qfQ _ _))) ?_ ?_
  ·exact BR.ret (XE.tup3P (XE.prtP (x:=ao) (t2:=true) (f:=fun p=>p.1) (en2:=eI) (XE.var (i:=0) rfl h0) (fun _ _=>rfl) (fun _=>.inl rfl)) (XE.var (i:=2) rfl h2) (XE.prtP (x:=ao) (t2:=true) (f:=fun p=>p.2.2) (en2:=eI) (XE.var (i:=0) rfl h0) (fun _ _=>rfl) (fun _=>.inl rfl)) rfl) rfl
  refine BR.ifR (XT.val (XE.cmpP (XE.binP (XE.var (i:=1) rfl h1) XE.cint (qbi _ _ rfl)) XE.cint (qfQ _ _))) ?_ ?_
  ·exact BR.ret (XE.tup3P (XE.prtP (x:=ao) (t2:=true) (f:=fun p=>p.1) (en2:=eI) (XE.var (i:=0) rfl h0) (fun _ _=>rfl) (fun _=>.inl rfl)) (XE.prtP (x:=ao) (t2:=true) (f:=fun p=>p.2.1) (en2:=eI) (XE.var (i:=0) rfl h0) (fun _ _=>rfl) (fun _=>.inl rfl)) (XE.var (i:=2) rfl h2) rfl) rfl
  exact BR.ret (XE.idxFP (XE.lstL (en:=(eT3 eI eI eI)) (XLs.cons (XE.tup3P XE.cint XE.cint XE.cint rfl) rfl (XLs.cons (XE.tup3P XE.cint XE.cint XE.cint rfl) rfl (XLs.cons (XE.tup3P XE.cint XE.cint XE.cint rfl) rfl (XLs.cons (XE.tup3P XE.cint XE.cint XE.cint rfl) rfl XLs.nil))))) (XE.binP (XE.binP (XE.var (i:=1) rfl h1) XE.cint (qhZ _ _ rfl)) XE.cint (qbi _ _ rfl))) rfl
 exact Rf.run rfl (key _ _ .non SlV.flat SlV.flat)
theorem qmx (aQ:Int) (aV:Int) (a9:Int):Rf (g_floor_of [eI aQ,eI aV,eI a9]) (F.floor_of aQ aV a9) (eT3 eI eI eI) .v true:=by
 have key:∀q0 q1 q2:Sl,SlV true (eI aQ) q0→SlV true (eI aV) q1→SlV true (eI a9) q2→BR qeA qdp [q0,q1,q2] (F.floor_of aQ aV a9) (eT3 eI eI eI) .v true:=by
  intro q0 q1 q2 h0 h1 h2;unfold F.floor_of qdp;refine BR.ifR (XT.bop (XTs.or (XT.notP (XT.val (XE.chnP XE.cint (XE.var (i:=0) rfl h0) (XE.glo (x:=(6:Int)) rfl rfl) (qgl _ _) (qgl _ _)))) (XTs.or (XT.notP (XT.val (XE.chnP XE.cint (XE.var (i:=1) rfl h1) (XE.glo (x:=(6:Int)) rfl rfl) (qgl _ _) (qgl _ _)))) (XTs.one (XT.val (XE.cmpR (XE.binP (XE.var (i:=0) rfl h0) (XE.var (i:=1) rfl h1) (qiO _ _)) (XE.glo (x:=(16:Int)) rfl rfl) (fun x=>qmm x _))))))) ?_ ?_
  ·exact BR.rse rfl
  refine BR.ifR (XT.notP (XT.val (XE.chnP XE.cint (XE.var (i:=2) rfl h2) (XE.glo (x:=(6:Int)) rfl rfl) (qgl _ _) (qgl _ _)))) ?_ ?_
  ·exact BR.rse rfl
  exact BR.ret (XE.tup3P (XE.var (i:=0) rfl h0) (XE.var (i:=1) rfl h1) (XE.var (i:=2) rfl h2) rfl) rfl
 exact Rf.run rfl (key _ _ _  SlV.flat SlV.flat SlV.flat)
theorem qkH (aA:List Nat):Rf (g_number_of [eS aA]) (F.number_of aA) eI .v true:=by
 have key:∀q0 q1:Sl,SlV true (eS aA) q0→BR qdT qcH [q0,q1] (F.number_of aA) eI .v true:=by
  intro q0 q1 h0;unfold F.number_of qcH;refine BR.ifR (XT.bop (XTs.or (XT.not (XT.val (XE.chn (f:=fun x y=>decide (x≤y)) (g:=fun x y=>decide (x≤y)) XE.cint (XE.pri1P (XE.var (i:=0) rfl h0) (qqg _)) (XE.glo (x:=(2:Int)) rfl rfl) qgl qgl))) (XTs.one (XT.bop (XTs.and (XT.val (XE.cmpR (XE.idxSP (XE.var (i:=0) rfl h0) XE.cint) XE.cstr (fun x=>quJ x _))) (XTs.one (XT.val (XE.cmpR (XE.pri1P (XE.var (i:=0) rfl h0) (qqg _)) XE.cint (fun x=>qmm x _))))))))) ?_ ?_
  ·exact BR.rse rfl
  refine BR.cons (S:=(fun(st:Unit) ρ=>∃q1,ρ=[q0,q1])) (SN.for1 (t0:=true) _ (XI.str (XE.var (i:=0) rfl h0)) (fun _=>.inl rfl) ⟨_,rfl⟩ ?_) ?_
  ·intro ai s13 ρ1 q1 hS h1;obtain⟨_,rfl⟩:=hS;change BL _ _ [q0,q1] _ _;refine BL.ifE rfl (XT.val (XE.cmpP (XE.var (i:=1) rfl h1) (XE.glo (en:=eS) (x:=[48,49,50,51,52,53,54,55,56,57]) rfl rfl) (qsZ _ _))) rfl ?_;exact BL.nil ⟨_,rfl⟩
  rintro p15 _ ⟨q1,rfl⟩;exact BR.ret (XE.pri1P (XE.var (i:=0) rfl h0) (qt7 _)) rfl
 exact Rf.run rfl (key _ .non SlV.flat)
theorem qgW (af:Int × Int × Int) (au:List Int) (aN:Int):Rf (g_sign_told [(eT3 eI eI eI) af,(eL eI) au,eI aN]) (F.sign_told af au aN) eI .v true:=by
 have key:∀q0 q1 q2:Sl,SlV true ((eT3 eI eI eI) af) q0→SlV false ((eL eI) au) q1→SlV true (eI aN) q2→BR qdJ qcO [q0,q1,q2] (F.sign_told af au aN) eI .v true:=by
  intro q0 q1 q2 h0 h1 h2;unfold F.sign_told qcO;refine BR.ifR (XT.bop (XTs.or (XT.val (XE.cmpP (XE.var (i:=2) rfl h2) (XE.pri1P (XE.var (i:=1) rfl h1) (qfn _)) (qsX _ _))) (XTs.one (XT.not (XT.val (XE.chn (f:=fun x y=>decide (x≤y)) (g:=fun x y=>decide (x≤y)) XE.cint (XE.idxFP (XE.var (i:=1) rfl h1) (XE.var (i:=2) rfl h2)) (XE.prtP (x:=af) (t2:=true) (f:=fun p=>p.2.2) (en2:=eI) (XE.var (i:=0) rfl h0) (fun _ _=>rfl) (fun _=>.inl rfl)) qgl qgl)))))) ?_ ?_
  ·exact BR.rse rfl
  exact BR.ret (XE.idxFP (XE.var (i:=1) rfl h1) (XE.var (i:=2) rfl h2)) rfl
 exact Rf.run rfl (key _ _ _  SlV.flat SlV.any SlV.flat)
theorem qeb (af:Int × Int × Int):Rf (g_many_cells [(eT3 eI eI eI) af]) (F.many_cells af) eI .v true:=by
 have key:∀q0:Sl,SlV true ((eT3 eI eI eI) af) q0→BR qcU qcc [q0] (F.many_cells af) eI .v true:=by
  intro q0 h0;unfold F.many_cells qcc;exact BR.ret (XE.binP (XE.prtP (x:=af) (t2:=true) (f:=fun p=>p.1) (en2:=eI) (XE.var (i:=0) rfl h0) (fun _ _=>rfl) (fun _=>.inl rfl)) (XE.prtP (x:=af) (t2:=true) (f:=fun p=>p.2.1) (en2:=eI) (XE.var (i:=0) rfl h0) (fun _ _=>rfl) (fun _=>.inl rfl)) (qiO _ _)) rfl
 exact Rf.run rfl (key _  SlV.flat)
theorem qi3 (ax:Int × Int × Int) (am:List Int) (ay:Int) (a8:Int):XR (ini_Joined [(eT3 eI eI eI) ax,(eL eI) am,eI ay,eI a8]) (RE.ok (RuleT.mk .joined ax am ay a8)) fun v fs=>eRule v=.ins 5 fs:=by
 have h1:SlV true ((eT3 eI eI eI) ax) (.val ((eT3 eI eI eI) ax) ((eT3 eI eI eI) ax).flat):=SlV.flat
 have h2:SlV false ((eL eI) am) (.val ((eL eI) am) ((eL eI) am).flat):=SlV.any
 have h3:SlV true (eI ay) (.val (eI ay) (eI ay).flat):=SlV.flat
 have h4:SlV true (eI a8) (.val (eI a8) (eI a8).flat):=SlV.flat
 refine Ini.run (fs:=qa6) (nf:=4) (n:=4) rfl ?_ ?_
 ·show BN _ _ _ ((RE.ok ax).bind fun w_ground=>(RE.ok am).bind fun w_cells=>(RE.ok ay).bind fun w_wanted=>(RE.ok a8).bind fun w_of_sign=>RE.ok (RuleT.mk .joined w_ground w_cells w_wanted w_of_sign)) _
  unfold qab;refine BN.cons (SN.fset (c:=5) (fs:=[]) (en:=(eT3 eI eI eI)) (XE.var (i:=1) rfl h1) rfl qbd rfl rfl rfl rfl) ?_;rintro w_ground _ rfl;refine BN.cons (SN.fset (c:=5) (fs:=[(eT3 eI eI eI) w_ground]) (en:=(eL eI)) (XE.pri1P (XE.var (i:=2) rfl h2) (qbj _)) rfl qbd rfl rfl rfl rfl) ?_;rintro w_cells _ rfl;refine BN.cons (SN.fset (c:=5) (fs:=[(eT3 eI eI eI) w_ground,(eL eI) w_cells]) (en:=eI) (XE.var (i:=3) rfl h3) rfl qbd rfl rfl rfl rfl) ?_;rintro w_wanted _ rfl;refine BN.cons (SN.fset (c:=5) (fs:=[(eT3 eI eI eI) w_ground,(eL eI) w_cells,eI w_wanted]) (en:=eI) (XE.var (i:=4) rfl h4) rfl qbd rfl rfl rfl rfl) ?_;rintro w_of_sign _ rfl;exact BN.nil ⟨_,rfl,rfl⟩
 ·intro v e;cases e;rfl
theorem qhN (ax:Int × Int × Int) (am:List Int) (ay:Int) (a8:Int):XR (ini_NoSquare [(eT3 eI eI eI) ax,(eL eI) am,eI ay,eI a8]) (RE.ok (RuleT.mk .nosquare ax am ay a8)) fun v fs=>eRule v=.ins 6 fs:=by
 have h1:SlV true ((eT3 eI eI eI) ax) (.val ((eT3 eI eI eI) ax) ((eT3 eI eI eI) ax).flat):=SlV.flat
 have h2:SlV false ((eL eI) am) (.val ((eL eI) am) ((eL eI) am).flat):=SlV.any
 have h3:SlV true (eI ay) (.val (eI ay) (eI ay).flat):=SlV.flat
 have h4:SlV true (eI a8) (.val (eI a8) (eI a8).flat):=SlV.flat
 refine Ini.run (fs:=qa6) (nf:=4) (n:=4) rfl ?_ ?_
 ·show BN _ _ _ ((RE.ok ax).bind fun w_ground=>(RE.ok am).bind fun w_cells=>(RE.ok ay).bind fun w_wanted=>(RE.ok a8).bind fun w_of_sign=>RE.ok (RuleT.mk .nosquare w_ground w_cells w_wanted w_of_sign)) _
  unfold qab;refine BN.cons (SN.fset (c:=6) (fs:=[]) (en:=(eT3 eI eI eI)) (XE.var (i:=1) rfl h1) rfl qbd rfl rfl rfl rfl) ?_;rintro w_ground _ rfl;refine BN.cons (SN.fset (c:=6) (fs:=[(eT3 eI eI eI) w_ground]) (en:=(eL eI)) (XE.pri1P (XE.var (i:=2) rfl h2) (qbj _)) rfl qbd rfl rfl rfl rfl) ?_;rintro w_cells _ rfl;refine BN.cons (SN.fset (c:=6) (fs:=[(eT3 eI eI eI) w_ground,(eL eI) w_cells]) (en:=eI) (XE.var (i:=3) rfl h3) rfl qbd rfl rfl rfl rfl) ?_;rintro w_wanted _ rfl;refine BN.cons (SN.fset (c:=6) (fs:=[(eT3 eI eI eI) w_ground,(eL eI) w_cells,eI w_wanted]) (en:=eI) (XE.var (i:=4) rfl h4) rfl qbd rfl rfl rfl rfl) ?_;rintro w_of_sign _ rfl;exact BN.nil ⟨_,rfl,rfl⟩
 ·intro v e;cases e;rfl
theorem qml (ax:Int × Int × Int) (am:List Int) (ay:Int) (a8:Int):XR (ini_Ring [(eT3 eI eI eI) ax,(eL eI) am,eI ay,eI a8]) (RE.ok (RuleT.mk .ring ax am ay a8)) fun v fs=>eRule v=.ins 7 fs:=by
 have h1:SlV true ((eT3 eI eI eI) ax) (.val ((eT3 eI eI eI) ax) ((eT3 eI eI eI) ax).flat):=SlV.flat
 have h2:SlV false ((eL eI) am) (.val ((eL eI) am) ((eL eI) am).flat):=SlV.any
 have h3:SlV true (eI ay) (.val (eI ay) (eI ay).flat):=SlV.flat
 have h4:SlV true (eI a8) (.val (eI a8) (eI a8).flat):=SlV.flat
 refine Ini.run (fs:=qa6) (nf:=4) (n:=4) rfl ?_ ?_
 ·show BN _ _ _ ((RE.ok ax).bind fun w_ground=>(RE.ok am).bind fun w_cells=>(RE.ok ay).bind fun w_wanted=>(RE.ok a8).bind fun w_of_sign=>RE.ok (RuleT.mk .ring w_ground w_cells w_wanted w_of_sign)) _
  unfold qab;refine BN.cons (SN.fset (c:=7) (fs:=[]) (en:=(eT3 eI eI eI)) (XE.var (i:=1) rfl h1) rfl qbd rfl rfl rfl rfl) ?_;rintro w_ground _ rfl;refine BN.cons (SN.fset (c:=7) (fs:=[(eT3 eI eI eI) w_ground]) (en:=(eL eI)) (XE.pri1P (XE.var (i:=2) rfl h2) (qbj _)) rfl qbd rfl rfl rfl rfl) ?_;rintro w_cells _ rfl;refine BN.cons (SN.fset (c:=7) (fs:=[(eT3 eI eI eI) w_ground,(eL eI) w_cells]) (en:=eI) (XE.var (i:=3) rfl h3) rfl qbd rfl rfl rfl rfl) ?_;rintro w_wanted _ rfl;refine BN.cons (SN.fset (c:=7) (fs:=[(eT3 eI eI eI) w_ground,(eL eI) w_cells,eI w_wanted]) (en:=eI) (XE.var (i:=4) rfl h4) rfl qbd rfl rfl rfl rfl) ?_;rintro w_of_sign _ rfl;exact BN.nil ⟨_,rfl,rfl⟩
 ·intro v e;cases e;rfl
theorem qke (af:Int × Int × Int) (aA:List Nat) (au:List Int):Rf (g_whole_rule [(eT3 eI eI eI) af,eS aA,(eL eI) au]) (F.whole_rule af aA au) eRule .v true:=by
 have key:∀q0 q1 q2 q3 q4:Sl,SlV true ((eT3 eI eI eI) af) q0→SlV true (eS aA) q1→SlV false ((eL eI) au) q2→BR qc2 qck [q0,q1,q2,q3,q4] (F.whole_rule af aA au) eRule .v true:=by
  intro q0 q1 q2 q3 q4 h0 h1 h2;unfold F.whole_rule qck;refine BR.ifR (XT.val (XE.cmpP (XE.pri1P (XE.var (i:=2) rfl h2) (qfn _)) XE.cint (qpm _ _))) ?_ ?_
  ·exact BR.rse rfl
  refine BR.cons (SN.asg (en:=eI) (fun q3=>[q0,q1,q2,q3,q4]) (XE.call3P rfl (XE.var (i:=0) rfl h0) (XE.var (i:=2) rfl h2) XE.cint (qgW af au 0) rfl rfl) rfl fun _=>rfl) ?_;rintro ai _ ⟨q3,rfl,h3⟩;refine BR.cons (SN.asg (en:=(eL eI)) (fun q4=>[q0,q1,q2,q3,q4]) (XE.lrng (XRg.r1 (XE.call1P rfl (XE.var (i:=0) rfl h0) (qeb af) rfl rfl))) rfl fun _=>rfl) ?_;rintro am _ ⟨q4,rfl,h4⟩;refine BR.ifR (XT.val (XE.cmpP (XE.var (i:=1) rfl h1) XE.cstr (qmL _ _))) ?_ ?_
  ·exact BR.ret (XE.new4P rfl (XE.var (i:=0) rfl h0) (XE.var (i:=4) rfl h4) XE.cint (XE.var (i:=3) rfl h3) (qi3 _ _ _ _)) rfl
  refine BR.ifR (XT.val (XE.cmpP (XE.var (i:=1) rfl h1) XE.cstr (qmL _ _))) ?_ ?_
  ·exact BR.ret (XE.new4P rfl (XE.var (i:=0) rfl h0) (XE.var (i:=4) rfl h4) XE.cint (XE.var (i:=3) rfl h3) (qhN _ _ _ _)) rfl
  exact BR.ret (XE.new4P rfl (XE.var (i:=0) rfl h0) (XE.var (i:=4) rfl h4) XE.cint (XE.var (i:=3) rfl h3) (qml _ _ _ _)) rfl
 exact Rf.run rfl (key _ _ _ .non .non SlV.flat SlV.flat SlV.any)
theorem qc1 (af:Int × Int × Int) (au:List Int):Rf (g_cells_told [(eT3 eI eI eI) af,(eL eI) au]) (F.cells_told af au) (eL eI) .v false:=by
 have key:∀q0 q1:Sl,SlV true ((eT3 eI eI eI) af) q0→SlV false ((eL eI) au) q1→BR qc0 qcd [q0,q1] (F.cells_told af au) (eL eI) .v false:=by
  intro q0 q1 h0 h1;unfold F.cells_told qcd;refine BR.ifR (XT.bop (XTs.or (XT.val (XE.cmpP (XE.var (i:=1) rfl h1) (XE.lstL XLs.nil) (qqi _ _))) (XTs.or (XT.val (XE.cmpR (XE.lsetP (XE.var (i:=1) rfl h1)) (XE.pri1P (XE.var (i:=1) rfl h1) (qfn _)) (fun x=>qpm x _))) (XTs.one (XT.val (XE.cmp (XE.pri1P (XE.var (i:=1) rfl h1) (qtl _)) (XE.call1P rfl (XE.var (i:=0) rfl h0) (qeb af) rfl rfl) (fun x y=>qsX x y))))))) ?_ ?_
  ·exact BR.rse rfl
  exact BR.ret (XE.var (i:=1) rfl h1) rfl
 exact Rf.run rfl (key _ _  SlV.flat SlV.any)
theorem qkf (ax:Int × Int × Int) (am:List Int) (ay:Int) (a8:Int):XR (ini_Unlike [(eT3 eI eI eI) ax,(eL eI) am,eI ay,eI a8]) (RE.ok (RuleT.mk .unlike ax am ay a8)) fun v fs=>eRule v=.ins 0 fs:=by
 have h1:SlV true ((eT3 eI eI eI) ax) (.val ((eT3 eI eI eI) ax) ((eT3 eI eI eI) ax).flat):=SlV.flat
 have h2:SlV false ((eL eI) am) (.val ((eL eI) am) ((eL eI) am).flat):=SlV.any
 have h3:SlV true (eI ay) (.val (eI ay) (eI ay).flat):=SlV.flat
 have h4:SlV true (eI a8) (.val (eI a8) (eI a8).flat):=SlV.flat
 refine Ini.run (fs:=qa6) (nf:=4) (n:=4) rfl ?_ ?_
 ·show BN _ _ _ ((RE.ok ax).bind fun w_ground=>(RE.ok am).bind fun w_cells=>(RE.ok ay).bind fun w_wanted=>(RE.ok a8).bind fun w_of_sign=>RE.ok (RuleT.mk .unlike w_ground w_cells w_wanted w_of_sign)) _
  unfold qab;refine BN.cons (SN.fset (c:=0) (fs:=[]) (en:=(eT3 eI eI eI)) (XE.var (i:=1) rfl h1) rfl qbd rfl rfl rfl rfl) ?_;rintro w_ground _ rfl;refine BN.cons (SN.fset (c:=0) (fs:=[(eT3 eI eI eI) w_ground]) (en:=(eL eI)) (XE.pri1P (XE.var (i:=2) rfl h2) (qbj _)) rfl qbd rfl rfl rfl rfl) ?_;rintro w_cells _ rfl;refine BN.cons (SN.fset (c:=0) (fs:=[(eT3 eI eI eI) w_ground,(eL eI) w_cells]) (en:=eI) (XE.var (i:=3) rfl h3) rfl qbd rfl rfl rfl rfl) ?_;rintro w_wanted _ rfl;refine BN.cons (SN.fset (c:=0) (fs:=[(eT3 eI eI eI) w_ground,(eL eI) w_cells,eI w_wanted]) (en:=eI) (XE.var (i:=4) rfl h4) rfl qbd rfl rfl rfl rfl) ?_;rintro w_of_sign _ rfl;exact BN.nil ⟨_,rfl,rfl⟩
 ·intro v e;cases e;rfl
theorem qjV (ax:Int × Int × Int) (am:List Int) (ay:Int) (a8:Int):XR (ini_Rising [(eT3 eI eI eI) ax,(eL eI) am,eI ay,eI a8]) (RE.ok (RuleT.mk .rising ax am ay a8)) fun v fs=>eRule v=.ins 2 fs:=by
 have h1:SlV true ((eT3 eI eI eI) ax) (.val ((eT3 eI eI eI) ax) ((eT3 eI eI eI) ax).flat):=SlV.flat
 have h2:SlV false ((eL eI) am) (.val ((eL eI) am) ((eL eI) am).flat):=SlV.any
 have h3:SlV true (eI ay) (.val (eI ay) (eI ay).flat):=SlV.flat
 have h4:SlV true (eI a8) (.val (eI a8) (eI a8).flat):=SlV.flat
 refine Ini.run (fs:=qa6) (nf:=4) (n:=4) rfl ?_ ?_
 ·show BN _ _ _ ((RE.ok ax).bind fun w_ground=>(RE.ok am).bind fun w_cells=>(RE.ok ay).bind fun w_wanted=>(RE.ok a8).bind fun w_of_sign=>RE.ok (RuleT.mk .rising w_ground w_cells w_wanted w_of_sign)) _
  unfold qab;refine BN.cons (SN.fset (c:=2) (fs:=[]) (en:=(eT3 eI eI eI)) (XE.var (i:=1) rfl h1) rfl qbd rfl rfl rfl rfl) ?_;rintro w_ground _ rfl;refine BN.cons (SN.fset (c:=2) (fs:=[(eT3 eI eI eI) w_ground]) (en:=(eL eI)) (XE.pri1P (XE.var (i:=2) rfl h2) (qbj _)) rfl qbd rfl rfl rfl rfl) ?_;rintro w_cells _ rfl;refine BN.cons (SN.fset (c:=2) (fs:=[(eT3 eI eI eI) w_ground,(eL eI) w_cells]) (en:=eI) (XE.var (i:=3) rfl h3) rfl qbd rfl rfl rfl rfl) ?_;rintro w_wanted _ rfl;refine BN.cons (SN.fset (c:=2) (fs:=[(eT3 eI eI eI) w_ground,(eL eI) w_cells,eI w_wanted]) (en:=eI) (XE.var (i:=4) rfl h4) rfl qbd rfl rfl rfl rfl) ?_;rintro w_of_sign _ rfl;exact BN.nil ⟨_,rfl,rfl⟩
 ·intro v e;cases e;rfl
theorem qip (ax:Int × Int × Int) (am:List Int) (ay:Int) (a8:Int):XR (ini_Counted [(eT3 eI eI eI) ax,(eL eI) am,eI ay,eI a8]) (RE.ok (RuleT.mk .counted ax am ay a8)) fun v fs=>eRule v=.ins 4 fs:=by
 have h1:SlV true ((eT3 eI eI eI) ax) (.val ((eT3 eI eI eI) ax) ((eT3 eI eI eI) ax).flat):=SlV.flat
 have h2:SlV false ((eL eI) am) (.val ((eL eI) am) ((eL eI) am).flat):=SlV.any
 have h3:SlV true (eI ay) (.val (eI ay) (eI ay).flat):=SlV.flat
 have h4:SlV true (eI a8) (.val (eI a8) (eI a8).flat):=SlV.flat
 refine Ini.run (fs:=qa6) (nf:=4) (n:=4) rfl ?_ ?_
 ·show BN _ _ _ ((RE.ok ax).bind fun w_ground=>(RE.ok am).bind fun w_cells=>(RE.ok ay).bind fun w_wanted=>(RE.ok a8).bind fun w_of_sign=>RE.ok (RuleT.mk .counted w_ground w_cells w_wanted w_of_sign)) _
  unfold qab;refine BN.cons (SN.fset (c:=4) (fs:=[]) (en:=(eT3 eI eI eI)) (XE.var (i:=1) rfl h1) rfl qbd rfl rfl rfl rfl) ?_;rintro w_ground _ rfl;refine BN.cons (SN.fset (c:=4) (fs:=[(eT3 eI eI eI) w_ground]) (en:=(eL eI)) (XE.pri1P (XE.var (i:=2) rfl h2) (qbj _)) rfl qbd rfl rfl rfl rfl) ?_;rintro w_cells _ rfl;refine BN.cons (SN.fset (c:=4) (fs:=[(eT3 eI eI eI) w_ground,(eL eI) w_cells]) (en:=eI) (XE.var (i:=3) rfl h3) rfl qbd rfl rfl rfl rfl) ?_;rintro w_wanted _ rfl;refine BN.cons (SN.fset (c:=4) (fs:=[(eT3 eI eI eI) w_ground,(eL eI) w_cells,eI w_wanted]) (en:=eI) (XE.var (i:=4) rfl h4) rfl qbd rfl rfl rfl rfl) ?_;rintro w_of_sign _ rfl;exact BN.nil ⟨_,rfl,rfl⟩
 ·intro v e;cases e;rfl
theorem qly (ax:Int × Int × Int) (am:List Int) (ay:Int) (a8:Int):XR (ini_Total [(eT3 eI eI eI) ax,(eL eI) am,eI ay,eI a8]) (RE.ok (RuleT.mk .total ax am ay a8)) fun v fs=>eRule v=.ins 1 fs:=by
 have h1:SlV true ((eT3 eI eI eI) ax) (.val ((eT3 eI eI eI) ax) ((eT3 eI eI eI) ax).flat):=SlV.flat
 have h2:SlV false ((eL eI) am) (.val ((eL eI) am) ((eL eI) am).flat):=SlV.any
 have h3:SlV true (eI ay) (.val (eI ay) (eI ay).flat):=SlV.flat
 have h4:SlV true (eI a8) (.val (eI a8) (eI a8).flat):=SlV.flat
 refine Ini.run (fs:=qa6) (nf:=4) (n:=4) rfl ?_ ?_
 ·show BN _ _ _ ((RE.ok ax).bind fun w_ground=>(RE.ok am).bind fun w_cells=>(RE.ok ay).bind fun w_wanted=>(RE.ok a8).bind fun w_of_sign=>RE.ok (RuleT.mk .total w_ground w_cells w_wanted w_of_sign)) _
  unfold qab;refine BN.cons (SN.fset (c:=1) (fs:=[]) (en:=(eT3 eI eI eI)) (XE.var (i:=1) rfl h1) rfl qbd rfl rfl rfl rfl) ?_;rintro w_ground _ rfl;refine BN.cons (SN.fset (c:=1) (fs:=[(eT3 eI eI eI) w_ground]) (en:=(eL eI)) (XE.pri1P (XE.var (i:=2) rfl h2) (qbj _)) rfl qbd rfl rfl rfl rfl) ?_;rintro w_cells _ rfl;refine BN.cons (SN.fset (c:=1) (fs:=[(eT3 eI eI eI) w_ground,(eL eI) w_cells]) (en:=eI) (XE.var (i:=3) rfl h3) rfl qbd rfl rfl rfl rfl) ?_;rintro w_wanted _ rfl;refine BN.cons (SN.fset (c:=1) (fs:=[(eT3 eI eI eI) w_ground,(eL eI) w_cells,eI w_wanted]) (en:=eI) (XE.var (i:=4) rfl h4) rfl qbd rfl rfl rfl rfl) ?_;rintro w_of_sign _ rfl;exact BN.nil ⟨_,rfl,rfl⟩
 ·intro v e;cases e;rfl
theorem qmE (ax:Int × Int × Int) (am:List Int) (ay:Int) (a8:Int):XR (ini_Seen [(eT3 eI eI eI) ax,(eL eI) am,eI ay,eI a8]) (RE.ok (RuleT.mk .seen ax am ay a8)) fun v fs=>eRule v=.ins 3 fs:=by
 have h1:SlV true ((eT3 eI eI eI) ax) (.val ((eT3 eI eI eI) ax) ((eT3 eI eI eI) ax).flat):=SlV.flat
 have h2:SlV false ((eL eI) am) (.val ((eL eI) am) ((eL eI) am).flat):=SlV.any
 have h3:SlV true (eI ay) (.val (eI ay) (eI ay).flat):=SlV.flat
 have h4:SlV true (eI a8) (.val (eI a8) (eI a8).flat):=SlV.flat
 refine Ini.run (fs:=qa6) (nf:=4) (n:=4) rfl ?_ ?_
 ·show BN _ _ _ ((RE.ok ax).bind fun w_ground=>(RE.ok am).bind fun w_cells=>(RE.ok ay).bind fun w_wanted=>(RE.ok a8).bind fun w_of_sign=>RE.ok (RuleT.mk .seen w_ground w_cells w_wanted w_of_sign)) _
  unfold qab;refine BN.cons (SN.fset (c:=3) (fs:=[]) (en:=(eT3 eI eI eI)) (XE.var (i:=1) rfl h1) rfl qbd rfl rfl rfl rfl) ?_;rintro w_ground _ rfl;refine BN.cons (SN.fset (c:=3) (fs:=[(eT3 eI eI eI) w_ground]) (en:=(eL eI)) (XE.pri1P (XE.var (i:=2) rfl h2) (qbj _)) rfl qbd rfl rfl rfl rfl) ?_;rintro w_cells _ rfl;refine BN.cons (SN.fset (c:=3) (fs:=[(eT3 eI eI eI) w_ground,(eL eI) w_cells]) (en:=eI) (XE.var (i:=3) rfl h3) rfl qbd rfl rfl rfl rfl) ?_;rintro w_wanted _ rfl;refine BN.cons (SN.fset (c:=3) (fs:=[(eT3 eI eI eI) w_ground,(eL eI) w_cells,eI w_wanted]) (en:=eI) (XE.var (i:=4) rfl h4) rfl qbd rfl rfl rfl rfl) ?_;rintro w_of_sign _ rfl;exact BN.nil ⟨_,rfl,rfl⟩
 ·intro v e;cases e;rfl
theorem qlm (af:Int × Int × Int) (aR:D):Rf (g_read_rule [(eT3 eI eI eI) af,eD aR]) (F.read_rule af aR) eRule .v true:=by
 have key:∀q0 q1 q2 q3 q4 q5 q6 q7:Sl,SlV true ((eT3 eI eI eI) af) q0→SlV false (eD aR) q1→BR qdS qcK [q0,q1,q2,q3,q4,q5,q6,q7] (F.read_rule af aR) eRule .v true:=by
  intro q0 q1 q2 q3 q4 q5 q6 q7 h0 h1;unfold F.read_rule qcK;refine BR.ifR (XT.not (XT.val (XE.isiD (XE.var (i:=1) rfl h1)))) ?_ ?_
  ·exact BR.rse rfl
  refine BR.cons (SN.asg (en:=(eL eS)) (fun q2=>[q0,q1,q2,q3,q4,q5,q6,q7]) (XE.split (XE.dec (f:=dS) (XE.var (i:=1) rfl h1) qwk) XE.cstr) rfl fun _=>rfl) ?_;rintro aK _ ⟨q2,rfl,h2⟩;refine BR.cons (SN.asg (en:=eS) (fun q3=>[q0,q1,q2,q3,q4,q5,q6,q7]) (XE.idxFP (XE.var (i:=2) rfl h2) XE.cint) rfl fun _=>rfl) ?_;rintro aA _ ⟨q3,rfl,h3⟩;refine BR.ifR (XT.val (XE.cmpP (XE.var (i:=3) rfl h3) (XE.tupL (en:=eS) (XLs.cons XE.cstr rfl (XLs.cons XE.cstr rfl (XLs.cons XE.cstr rfl (XLs.cons XE.cstr rfl (XLs.cons XE.cstr rfl (XLs.cons XE.cstr rfl (XLs.cons XE.cstr rfl (XLs.cons XE.cstr rfl XLs.nil))))))))) (qsa _ _))) ?_ ?_
  ·exact BR.rse rfl
  refine BR.cons (SN.asg (en:=(eL eI)) (fun q4=>[q0,q1,q2,q3,q4,q5,q6,q7]) (XE.lcx (t0:=true) (fun q5=>[q0,q1,q2,q3,q4,q5,q6,q7]) (XI.list (XE.slcP (XE.var (i:=2) rfl h2) (XO.oneP XE.cint) XO.nil) rfl) (fun _=>.inl rfl) (fun _=>rfl) (fun az q5 h5=>XTs.nil) (fun az q5 h5 _=>(XE.call1P rfl (XE.var (i:=5) rfl h5) (qkH az) rfl rfl)) rfl) rfl fun _=>rfl) ?_;rintro au _ ⟨q4,rfl,h4⟩;refine BR.ifR (XT.val (XE.cmpP (XE.var (i:=3) rfl h3) (XE.tupL (en:=eS) (XLs.cons XE.cstr rfl (XLs.cons XE.cstr rfl (XLs.cons XE.cstr rfl XLs.nil)))) (qqk _ _))) ?_ ?_
  ·exact BR.ret (XE.call3P rfl (XE.var (i:=0) rfl h0) (XE.var (i:=3) rfl h3) (XE.var (i:=4) rfl h4) (qke af aA au) rfl rfl) rfl
  refine BR.ifR (XT.val (XE.cmpP (XE.var (i:=3) rfl h3) XE.cstr (qmL _ _))) ?_ ?_
  ·exact BR.ret (XE.new4 rfl (XE.var (i:=0) rfl h0) (XE.call2P rfl (XE.var (i:=0) rfl h0) (XE.var (i:=4) rfl h4) (qc1 af au) rfl rfl) XE.cint XE.cint (fun _ _ _ _=>qkf _ _ _ _)) rfl
  refine BR.ifR (XT.val (XE.cmpP (XE.var (i:=3) rfl h3) XE.cstr (qmL _ _))) ?_ ?_
  ·exact BR.ret (XE.new4 rfl (XE.var (i:=0) rfl h0) (XE.call2P rfl (XE.var (i:=0) rfl h0) (XE.var (i:=4) rfl h4) (qc1 af au) rfl rfl) XE.cint XE.cint (fun _ _ _ _=>qjV _ _ _ _)) rfl
  refine BR.ifR (XT.val (XE.cmpP (XE.var (i:=3) rfl h3) XE.cstr (qmL _ _))) ?_ ?_
  ·refine BR.cons (SN.asg (en:=eI) (fun q6=>[q0,q1,q2,q3,q4,q5,q6,q7]) (XE.call3P rfl (XE.var (i:=0) rfl h0) (XE.var (i:=4) rfl h4) XE.cint (qgW af au 1) rfl rfl) rfl fun _=>rfl) ?_;rintro ai _ ⟨q6,rfl,h6⟩;exact BR.ret (XE.new4 rfl (XE.var (i:=0) rfl h0) (XE.call2P rfl (XE.var (i:=0) rfl h0) (XE.slcP (XE.var (i:=4) rfl h4) (XO.oneP XE.cint) XO.nil) (qc1 af (qcR au (some 2) none)) rfl rfl) (XE.idxFP (XE.var (i:=4) rfl h4) XE.cint) (XE.var (i:=6) rfl h6) (fun _ _ _ _=>qip _ _ _ _)) rfl
  refine BR.cons (SN.asg (en:=(eL eI)) (fun q7=>[q0,q1,q2,q3,q4,q5,q6,q7]) (XE.call2P rfl (XE.var (i:=0) rfl h0) (XE.slcP (XE.var (i:=4) rfl h4) (XO.oneP XE.cint) XO.nil) (qc1 af (qcR au (some 1) none)) rfl rfl) rfl fun _=>rfl) ?_;rintro am _ ⟨q7,rfl,h7⟩;refine BR.ifR (XT.val (XE.cmpP (XE.var (i:=3) rfl h3) XE.cstr (qmL _ _))) ?_ ?_
  ·exact BR.ret (XE.new4 rfl (XE.var (i:=0) rfl h0) (XE.var (i:=7) rfl h7) (XE.idxFP (XE.var (i:=4) rfl h4) XE.cint) XE.cint (fun _ _ _ _=>qly _ _ _ _)) rfl
  exact BR.ret (XE.new4 rfl (XE.var (i:=0) rfl h0) (XE.var (i:=7) rfl h7) (XE.idxFP (XE.var (i:=4) rfl h4) XE.cint) XE.cint (fun _ _ _ _=>qmE _ _ _ _)) rfl
 exact Rf.run rfl (key _ _ .non .non .non .non .non .non SlV.flat SlV.any)
theorem qjz (af:Int × Int × Int) (a7:List Int):Rf (g_is_filling [(eT3 eI eI eI) af,(eL eI) a7]) (F.is_filling af a7) eB .v true:=by
 have key:∀q0 q1 q2:Sl,SlV true ((eT3 eI eI eI) af) q0→SlV false ((eL eI) a7) q1→BR qde qcl [q0,q1,q2] (F.is_filling af a7) eB .v true:=by
  intro q0 q1 q2 h0 h1;unfold F.is_filling qcl;refine BR.ifR (XT.val (XE.cmpL (XE.pri1P (XE.var (i:=1) rfl h1) (qfn _)) (XE.call1P rfl (XE.var (i:=0) rfl h0) (qeb af) rfl rfl) (fun y=>qpm _ y))) ?_ ?_
  ·exact BR.ret XE.cbl rfl
  exact BR.ret (XE.pri1 ((XE.lc (t0:=true) (fun q2=>[q0,q1,q2]) (XI.list (XE.var (i:=1) rfl h1) rfl) (fun _=>.inr inferInstance) (fun _=>rfl) (fun ai q2 h2=>XTs.nil) (fun ai q2 h2 _=>(XE.chnP XE.cint (XE.var (i:=2) rfl h2) (XE.prtP (x:=af) (t2:=true) (f:=fun p=>p.2.2) (en2:=eI) (XE.var (i:=0) rfl h0) (fun _ _=>rfl) (fun _=>.inl rfl)) (qgl _ _) (qgl _ _))) rfl).cast (qtI _ _)) (fun x=>quF x)) rfl
 exact Rf.run rfl (key _ _ .non SlV.flat SlV.any)
theorem qeo (af:Int × Int × Int) (aH:List D) (av:List Int):XR (ini_Puzzle [(eT3 eI eI eI) af,(eL eD) aH,(eL eI) av]) (F.Puzzle_new af aH av) fun v fs=>ePuz v=.ins 25 fs:=by
 have h1:SlV true ((eT3 eI eI eI) af) (.val ((eT3 eI eI eI) af) ((eT3 eI eI eI) af).flat):=SlV.flat
 have h2:SlV false ((eL eD) aH) (.val ((eL eD) aH) ((eL eD) aH).flat):=SlV.any
 have h3:SlV false ((eL eI) av) (.val ((eL eI) av) ((eL eI) av).flat):=SlV.any
 refine Ini.run (fs:=qik) (nf:=3) (n:=3) rfl ?_ ?_
 ·unfold F.Puzzle_new;unfold qbf;refine BN.ifE rfl (XT.val (XE.cmpP (XE.pri1P (XE.var (i:=1) rfl h1) (qrW _)) XE.cint (qpm _ _))) rfl ?_;refine BN.cons (SN.fset (c:=25) (fs:=[]) (en:=(eT3 eI eI eI)) (XE.call3P rfl (XE.prtP (x:=af) (t2:=true) (f:=fun p=>p.1) (en2:=eI) (XE.var (i:=1) rfl h1) (fun _ _=>rfl) (fun _=>.inl rfl)) (XE.prtP (x:=af) (t2:=true) (f:=fun p=>p.2.1) (en2:=eI) (XE.var (i:=1) rfl h1) (fun _ _=>rfl) (fun _=>.inl rfl)) (XE.prtP (x:=af) (t2:=true) (f:=fun p=>p.2.2) (en2:=eI) (XE.var (i:=1) rfl h1) (fun _ _=>rfl) (fun _=>.inl rfl)) (qmx af.1 af.2.1 af.2.2) rfl rfl) rfl qbd rfl rfl rfl rfl) ?_;rintro w_ground _ rfl;refine BN.ifE rfl (XT.val (XE.cmpP (XE.pri1P (XE.var (i:=2) rfl h2) (qfn _)) (XE.glo (x:=(12:Int)) rfl rfl) (qmm _ _))) rfl ?_;refine BN.cons (SN.fset (c:=25) (fs:=[(eT3 eI eI eI) w_ground]) (en:=(eL eRule)) (XE.lcx (t0:=false) (fun q4=>[.slf 25 [(eT3 eI eI eI) w_ground],.val ((eT3 eI eI eI) af) ((eT3 eI eI eI) af).flat,.val ((eL eD) aH) ((eL eD) aH).flat,.val ((eL eI) av) ((eL eI) av).flat,q4]) (XI.list (XE.var (i:=2) rfl h2) rfl) ht0 (fun _=>rfl) (fun aR q4 h4=>XTs.nil) (fun aR q4 h4 _=>(XE.call2P rfl (XE.sfd (en:=(eT3 eI eI eI)) rfl rfl rfl) (XE.var (i:=4) rfl h4) (qlm w_ground aR) rfl rfl)) rfl) rfl qbd rfl rfl rfl rfl) ?_;rintro w_rule_list _ rfl;refine BN.ifE rfl (XT.not (XT.val (XE.call2P rfl (XE.sfd (en:=(eT3 eI eI eI)) rfl rfl rfl) (XE.var (i:=3) rfl h3) (qjz w_ground av) rfl rfl))) rfl ?_;refine BN.cons (SN.fset (c:=25) (fs:=[(eT3 eI eI eI) w_ground,(eL eRule) w_rule_list]) (en:=(eL eI)) (XE.pri1P (XE.var (i:=3) rfl h3) (qbj _)) rfl qbd rfl rfl rfl rfl) ?_;rintro w_clue_list _ rfl;exact BN.nil ⟨_,rfl,rfl⟩
 ·intro v e;rfl
theorem qf3 (aJ:Option Nat):Rf (g__law_named [(eO eX) aJ]) (qdG aJ) (eL eB) .f true:=by
 have key:∀q0 q1:Sl,SlV true ((eO eX) aJ) q0→BR qdd qca [q0,q1] (qdG aJ) (eL eB) .f true:=by
  intro q0 q1 h0;unfold qdG qca;refine BR.cons (SN.asg (en:=(eL eB)) (fun q1=>[q0,q1]) (XE.cast (m':=(qgy qdR aJ).bind fun x1=>(qgy qes aJ).bind fun x2=>(qgy qgU aJ).bind fun x3=>RE.ok [x1,x2,x3]) (XE.lstS (F:=fun w=>[w.1,w.2.1,w.2.2.1]) (en:=eB) (XS.cons (XE.isc (T:=qdR) (XE.var (i:=0) rfl h0) rfl) (XS.cons (XE.isc (T:=qes) (XE.var (i:=0) rfl h0) rfl) (XS.cons (XE.isc (T:=qgU) (XE.var (i:=0) rfl h0) rfl) XS.nil))) (fun _=>rfl) rfl) (by simp only[RE.bind_assoc,RE.bind_ok])) rfl fun _=>rfl) ?_;rintro aM _ ⟨q1,rfl,h1⟩;refine BR.cons (SN.asg (en:=(eL eB)) (fun q1=>[q0,q1]) (XE.binL (XE.var (i:=1) rfl h1) (XE.cast (m':=(qgy qg8 aJ).bind fun x4=>(qgy qiT aJ).bind fun x5=>(qgy qgE aJ).bind fun x6=>RE.ok [x4,x5,x6]) (XE.lstS (F:=fun w=>[w.1,w.2.1,w.2.2.1]) (en:=eB) (XS.cons (XE.isc (T:=qg8) (XE.var (i:=0) rfl h0) rfl) (XS.cons (XE.isc (T:=qiT) (XE.var (i:=0) rfl h0) rfl) (XS.cons (XE.isc (T:=qgE) (XE.var (i:=0) rfl h0) rfl) XS.nil))) (fun _=>rfl) rfl) (by simp only[RE.bind_assoc,RE.bind_ok])) (fun y=>qcp (en:=eB) _ y)) rfl fun _=>rfl) ?_;rintro aM _ ⟨q1,rfl,h1⟩;refine BR.cons (SN.asg (en:=(eL eB)) (fun q1=>[q0,q1]) (XE.binL (XE.var (i:=1) rfl h1) (XE.cast (m':=(qgy qgO aJ).bind fun x9=>(qgy qfD aJ).bind fun x10=>RE.ok [x9,x10]) (XE.lstS (F:=fun w=>[w.1,w.2.1]) (en:=eB) (XS.cons (XE.isc (T:=qgO) (XE.var (i:=0) rfl h0) rfl) (XS.cons (XE.isc (T:=qfD) (XE.var (i:=0) rfl h0) rfl) XS.nil)) (fun _=>rfl) rfl) (by simp only[RE.bind_assoc,RE.bind_ok])) (fun y=>qcp (en:=eB) _ y)) rfl fun _=>rfl) ?_;rintro aM _ ⟨q1,rfl,h1⟩;refine BR.ifR (XT.bop (XTs.or (XT.val (XE.pri1P (XE.var (i:=1) rfl h1) (quL _))) (XTs.one (XT.not (XT.val (XE.isc (T:=qfj) (XE.var (i:=0) rfl h0) rfl)))))) ?_ ?_
  ·exact BR.ret (XE.lstL XLs.nil) rfl
  exact BR.ret (XE.cast (m':=(qgy qfU aJ).bind fun x16=>(qgy qha aJ).bind fun x17=>(qgy qfb aJ).bind fun x18=>RE.ok [x16,x17,x18]) (XE.lstS (F:=fun w=>[w.1,w.2.1,w.2.2.1]) (en:=eB) (XS.cons (XE.isc (T:=qfU) (XE.var (i:=0) rfl h0) rfl) (XS.cons (XE.isc (T:=qha) (XE.var (i:=0) rfl h0) rfl) (XS.cons (XE.isc (T:=qfb) (XE.var (i:=0) rfl h0) rfl) XS.nil))) (fun _=>rfl) rfl) (by simp only[RE.bind_assoc,RE.bind_ok])) rfl
 exact Rf.run rfl (key _ .non SlV.flat)
theorem qhT (ao:Int × Int × Int) (aH:List (Option D)) (av:List Int):Rf (g__law_refused [(eT3 eI eI eI) ao,(eL (eO eD)) aH,(eL eI) av]) (qcA ao aH av) (eL eB) .f true:=by
 have key:∀q0 q1 q2 q3 q4:Sl,SlV true ((eT3 eI eI eI) ao) q0→SlV false ((eL (eO eD)) aH) q1→SlV false ((eL eI) av) q2→BR qb8 qbl [q0,q1,q2,q3,q4] (qcA ao aH av) (eL eB) .f true:=by
  intro q0 q1 q2 q3 q4 h0 h1 h2;unfold qcA qbl;refine BR.cons (SN.asg (en:=eU) (fun q3=>[q0,q1,q2,q3,q4]) XE.cnon rfl fun _=>rfl) ?_;rintro aJ _ ⟨q3,rfl,h3⟩;refine BR.cons (SN.tryE (T:=qbD) (t:=true) (qi:=.non) (XE.new3P rfl (XE.var (i:=0) rfl h0) (XE.coe (x:=aH) (f:=List.map ((eO eD))) (en2:=(eL eD)) (XE.var (i:=1) rfl h1) (qgV (fun _=>rfl))) (XE.var (i:=2) rfl h2) (qeo _ _ _)) rfl rfl rfl (SlV.coe (f:=fun _=>none) h3 (fun _=>rfl)) (fun q3 q4=>[q0,q1,q2,q3,q4]) (fun _ _=>rfl) (fun r h=>by cases h;rfl) (by simp)) ?_;rintro p1 _ ⟨q3,q4,rfl,h3⟩;exact BR.ret (XE.call1P rfl (XE.var (i:=3) rfl h3) (qf3 p1) rfl rfl) rfl
 exact Rf.run rfl (key _ _ _ .non .non SlV.flat SlV.any SlV.any)
theorem qiY (ab:RuleT):Rf (g_Unlike_name [eRule ab]) (F.Unlike_name ab) eS .v true:=by
 have key:∀q0:Sl,SlV true (eRule ab) q0→BR qcq qbF [q0] (F.Unlike_name ab) eS .v true:=by
  intro q0 h0;unfold F.Unlike_name qbF;exact BR.ret XE.cstr rfl
 exact Rf.run rfl (key _  SlV.flat)
theorem qkp (ab:RuleT):Rf (g_Total_name [eRule ab]) (F.Total_name ab) eS .v true:=by
 have key:∀q0:Sl,SlV true (eRule ab) q0→BR qcT qcb [q0] (F.Total_name ab) eS .v true:=by
  intro q0 h0;unfold F.Total_name qcb;exact BR.ret XE.cstr rfl
 exact Rf.run rfl (key _  SlV.flat)
theorem qiB (ab:RuleT):Rf (g_Rising_name [eRule ab]) (F.Rising_name ab) eS .v true:=by
 have key:∀q0:Sl,SlV true (eRule ab) q0→BR qcu qbO [q0] (F.Rising_name ab) eS .v true:=by
  intro q0 h0;unfold F.Rising_name qbO;exact BR.ret XE.cstr rfl
 exact Rf.run rfl (key _  SlV.flat)
theorem qkW (ab:RuleT):Rf (g_Seen_name [eRule ab]) (F.Seen_name ab) eS .v true:=by
 have key:∀q0:Sl,SlV true (eRule ab) q0→BR qdD qcG [q0] (F.Seen_name ab) eS .v true:=by
  intro q0 h0;unfold F.Seen_name qcG;exact BR.ret XE.cstr rfl
 exact Rf.run rfl (key _  SlV.flat)
theorem qhz (ab:RuleT):Rf (g_Counted_name [eRule ab]) (F.Counted_name ab) eS .v true:=by
 have key:∀q0:Sl,SlV true (eRule ab) q0→BR qbY qbm [q0] (F.Counted_name ab) eS .v true:=by
  intro q0 h0;unfold F.Counted_name qbm;exact BR.ret XE.cstr rfl
 exact Rf.run rfl (key _  SlV.flat)
theorem qiZ (ab:RuleT):Rf (g_Joined_name [eRule ab]) (F.Joined_name ab) eS .v true:=by
 have key:∀q0:Sl,SlV true (eRule ab) q0→BR qct qbK [q0] (F.Joined_name ab) eS .v true:=by
  intro q0 h0;unfold F.Joined_name qbK;exact BR.ret XE.cstr rfl
 exact Rf.run rfl (key _  SlV.flat)
theorem qhp (ab:RuleT):Rf (g_NoSquare_name [eRule ab]) (F.NoSquare_name ab) eS .v true:=by
 have key:∀q0:Sl,SlV true (eRule ab) q0→BR qbP qa9 [q0] (F.NoSquare_name ab) eS .v true:=by
  intro q0 h0;unfold F.NoSquare_name qa9;exact BR.ret XE.cstr rfl
 exact Rf.run rfl (key _  SlV.flat)
theorem qkO (ab:RuleT):Rf (g_Ring_name [eRule ab]) (F.Ring_name ab) eS .v true:=by
 have key:∀q0:Sl,SlV true (eRule ab) q0→BR qdP qcI [q0] (F.Ring_name ab) eS .v true:=by
  intro q0 h0;unfold F.Ring_name qcI;exact BR.ret XE.cstr rfl
 exact Rf.run rfl (key _  SlV.flat)
theorem qcP (ab:RuleT):Rf (g_Rule_told_numbers [eRule ab]) (F.Rule_told_numbers ab) (eL eI) .f true:=by
 have key:∀q0:Sl,SlV true (eRule ab) q0→BR qaI qan [q0] (F.Rule_told_numbers ab) (eL eI) .f true:=by
  intro q0 h0;unfold F.Rule_told_numbers qan;exact BR.ret (XE.pri1P (XE.fldP (x:=ab) (cl:=(fun r=>r.k.c)) (fs:=qa6) (p:=fun v=>v.cells) (en:=(eL eI)) (XE.var (i:=0) rfl h0) (fun _=>rfl) (by intro v;obtain⟨k,_,_,_,_⟩:=v;cases k<;>exact⟨_,rfl,rfl⟩)) (qbj _)) rfl
 exact Rf.run rfl (key _  SlV.flat)
theorem qeI (ab:RuleT):Rf (g_Total_told_numbers [eRule ab]) (F.Total_told_numbers ab) (eL eI) .f false:=by
 have key:∀q0:Sl,SlV true (eRule ab) q0→BR qaP qaw [q0] (F.Total_told_numbers ab) (eL eI) .f false:=by
  intro q0 h0;unfold F.Total_told_numbers qaw;exact BR.ret (XE.binP (XE.lstL (en:=eI) (XLs.cons (XE.fldFP (x:=ab) (cl:=(fun r=>r.k.c)) (fs:=qa6) (p:=fun v=>v.wanted) (en:=eI) (XE.var (i:=0) rfl h0) (fun _=>rfl) (by intro v;obtain⟨k,_,_,_,_⟩:=v;cases k<;>exact⟨_,rfl,rfl⟩)) rfl XLs.nil)) (XE.fldP (x:=ab) (cl:=(fun r=>r.k.c)) (fs:=qa6) (p:=fun v=>v.cells) (en:=(eL eI)) (XE.var (i:=0) rfl h0) (fun _=>rfl) (by intro v;obtain⟨k,_,_,_,_⟩:=v;cases k<;>exact⟨_,rfl,rfl⟩)) (qcp (en:=eI) _ _)) rfl
 exact Rf.run rfl (key _  SlV.flat)
theorem qfe (ab:RuleT):Rf (g_Seen_told_numbers [eRule ab]) (F.Seen_told_numbers ab) (eL eI) .f false:=by
 have key:∀q0:Sl,SlV true (eRule ab) q0→BR qaT qaE [q0] (F.Seen_told_numbers ab) (eL eI) .f false:=by
  intro q0 h0;unfold F.Seen_told_numbers qaE;exact BR.ret (XE.binP (XE.lstL (en:=eI) (XLs.cons (XE.fldFP (x:=ab) (cl:=(fun r=>r.k.c)) (fs:=qa6) (p:=fun v=>v.wanted) (en:=eI) (XE.var (i:=0) rfl h0) (fun _=>rfl) (by intro v;obtain⟨k,_,_,_,_⟩:=v;cases k<;>exact⟨_,rfl,rfl⟩)) rfl XLs.nil)) (XE.fldP (x:=ab) (cl:=(fun r=>r.k.c)) (fs:=qa6) (p:=fun v=>v.cells) (en:=(eL eI)) (XE.var (i:=0) rfl h0) (fun _=>rfl) (by intro v;obtain⟨k,_,_,_,_⟩:=v;cases k<;>exact⟨_,rfl,rfl⟩)) (qcp (en:=eI) _ _)) rfl
 exact Rf.run rfl (key _  SlV.flat)
theorem qd0 (ab:RuleT):Rf (g_Counted_told_numbers [eRule ab]) (F.Counted_told_numbers ab) (eL eI) .f false:=by
 have key:∀q0:Sl,SlV true (eRule ab) q0→BR qaJ qam [q0] (F.Counted_told_numbers ab) (eL eI) .f false:=by
  intro q0 h0;unfold F.Counted_told_numbers qam;exact BR.ret (XE.binP (XE.lstL (en:=eI) (XLs.cons (XE.fldFP (x:=ab) (cl:=(fun r=>r.k.c)) (fs:=qa6) (p:=fun v=>v.wanted) (en:=eI) (XE.var (i:=0) rfl h0) (fun _=>rfl) (by intro v;obtain⟨k,_,_,_,_⟩:=v;cases k<;>exact⟨_,rfl,rfl⟩)) rfl (XLs.cons (XE.fldFP (x:=ab) (cl:=(fun r=>r.k.c)) (fs:=qa6) (p:=fun v=>v.sign) (en:=eI) (XE.var (i:=0) rfl h0) (fun _=>rfl) (by intro v;obtain⟨k,_,_,_,_⟩:=v;cases k<;>exact⟨_,rfl,rfl⟩)) rfl XLs.nil))) (XE.fldP (x:=ab) (cl:=(fun r=>r.k.c)) (fs:=qa6) (p:=fun v=>v.cells) (en:=(eL eI)) (XE.var (i:=0) rfl h0) (fun _=>rfl) (by intro v;obtain⟨k,_,_,_,_⟩:=v;cases k<;>exact⟨_,rfl,rfl⟩)) (qcp (en:=eI) _ _)) rfl
 exact Rf.run rfl (key _  SlV.flat)
theorem qd8 (ab:RuleT):Rf (g_Joined_told_numbers [eRule ab]) (F.Joined_told_numbers ab) (eL eI) .f true:=by
 have key:∀q0:Sl,SlV true (eRule ab) q0→BR qaM qar [q0] (F.Joined_told_numbers ab) (eL eI) .f true:=by
  intro q0 h0;unfold F.Joined_told_numbers qar;exact BR.ret (XE.lstL (en:=eI) (XLs.cons (XE.fldFP (x:=ab) (cl:=(fun r=>r.k.c)) (fs:=qa6) (p:=fun v=>v.sign) (en:=eI) (XE.var (i:=0) rfl h0) (fun _=>rfl) (by intro v;obtain⟨k,_,_,_,_⟩:=v;cases k<;>exact⟨_,rfl,rfl⟩)) rfl XLs.nil)) rfl
 exact Rf.run rfl (key _  SlV.flat)
theorem qdU (ab:RuleT):Rf (g_NoSquare_told_numbers [eRule ab]) (F.NoSquare_told_numbers ab) (eL eI) .f true:=by
 have key:∀q0:Sl,SlV true (eRule ab) q0→BR qaz qaj [q0] (F.NoSquare_told_numbers ab) (eL eI) .f true:=by
  intro q0 h0;unfold F.NoSquare_told_numbers qaj;exact BR.ret (XE.lstL (en:=eI) (XLs.cons (XE.fldFP (x:=ab) (cl:=(fun r=>r.k.c)) (fs:=qa6) (p:=fun v=>v.sign) (en:=eI) (XE.var (i:=0) rfl h0) (fun _=>rfl) (by intro v;obtain⟨k,_,_,_,_⟩:=v;cases k<;>exact⟨_,rfl,rfl⟩)) rfl XLs.nil)) rfl
 exact Rf.run rfl (key _  SlV.flat)
theorem qe2 (ab:RuleT):Rf (g_Ring_told_numbers [eRule ab]) (F.Ring_told_numbers ab) (eL eI) .f true:=by
 have key:∀q0:Sl,SlV true (eRule ab) q0→BR qaY qaD [q0] (F.Ring_told_numbers ab) (eL eI) .f true:=by
  intro q0 h0;unfold F.Ring_told_numbers qaD;exact BR.ret (XE.lstL (en:=eI) (XLs.cons (XE.fldFP (x:=ab) (cl:=(fun r=>r.k.c)) (fs:=qa6) (p:=fun v=>v.sign) (en:=eI) (XE.var (i:=0) rfl h0) (fun _=>rfl) (by intro v;obtain⟨k,_,_,_,_⟩:=v;cases k<;>exact⟨_,rfl,rfl⟩)) rfl XLs.nil)) rfl
 exact Rf.run rfl (key _  SlV.flat)
theorem qa8 (ab:RuleT):Rf (g_Rule_line [eRule ab]) (F.Rule_line ab) eS .v true:=by
 have key:∀q0 q1:Sl,SlV true (eRule ab) q0→BR qaG qav [q0,q1] (F.Rule_line ab) eS .v true:=by
  intro q0 q1 h0;unfold F.Rule_line qav;exact BR.ret (XE.join XE.cstr (XE.bin (XE.cast (m':=(F.m_name ab).bind fun x1=>RE.ok [x1]) (XE.lstS (F:=fun w=>[w.1]) (en:=eS) (XS.cons (XE.mth0P (F:=fun r=>F.m_name r) (cl:=(fun r=>r.k.c)) (fs:=qa6) (XE.var (i:=0) rfl h0) (fun _=>rfl)  (by intro r;obtain⟨k,a0,a1,a2,a3⟩:=r;cases k;exact⟨_,rfl,qiY ⟨.unlike,a0,a1,a2,a3⟩⟩;exact⟨_,rfl,qkp ⟨.total,a0,a1,a2,a3⟩⟩;exact⟨_,rfl,qiB ⟨.rising,a0,a1,a2,a3⟩⟩;exact⟨_,rfl,qkW ⟨.seen,a0,a1,a2,a3⟩⟩;exact⟨_,rfl,qhz ⟨.counted,a0,a1,a2,a3⟩⟩;exact⟨_,rfl,qiZ ⟨.joined,a0,a1,a2,a3⟩⟩;exact⟨_,rfl,qhp ⟨.nosquare,a0,a1,a2,a3⟩⟩;exact⟨_,rfl,qkO ⟨.ring,a0,a1,a2,a3⟩⟩) rfl rfl) XS.nil) (fun _=>rfl) rfl) (by simp only[RE.bind_assoc,RE.bind_ok])) (XE.lc (t0:=true) (fun q1=>[q0,q1]) (XI.list (XE.mth0P (F:=fun r=>F.m_told_numbers r) (cl:=(fun r=>r.k.c)) (fs:=qa6) (XE.var (i:=0) rfl h0) (fun _=>rfl)  (by intro r;obtain⟨k,a0,a1,a2,a3⟩:=r;cases k;exact⟨_,rfl,Rf.low (qcP ⟨.unlike,a0,a1,a2,a3⟩)⟩;exact⟨_,rfl,qeI ⟨.total,a0,a1,a2,a3⟩⟩;exact⟨_,rfl,Rf.low (qcP ⟨.rising,a0,a1,a2,a3⟩)⟩;exact⟨_,rfl,qfe ⟨.seen,a0,a1,a2,a3⟩⟩;exact⟨_,rfl,qd0 ⟨.counted,a0,a1,a2,a3⟩⟩;exact⟨_,rfl,Rf.low (qd8 ⟨.joined,a0,a1,a2,a3⟩)⟩;exact⟨_,rfl,Rf.low (qdU ⟨.nosquare,a0,a1,a2,a3⟩)⟩;exact⟨_,rfl,Rf.low (qe2 ⟨.ring,a0,a1,a2,a3⟩)⟩) rfl rfl) rfl) (fun _=>.inr inferInstance) (fun _=>rfl) (fun aE q1 h1=>XTs.nil) (fun aE q1 h1 _=>(XE.pri1P (XE.var (i:=1) rfl h1) (qim _))) rfl) (fun x y=>qcp (en:=eS) x y))) rfl
 exact Rf.run rfl (key _ .non SlV.flat)
theorem qeT (ab:PuzT):Rf (g_Puzzle_lines [ePuz ab]) (F.Puzzle_lines ab) (eL eS) .f true:=by
 have key:∀q0 q1:Sl,SlV true (ePuz ab) q0→BR qb2 qbn [q0,q1] (F.Puzzle_lines ab) (eL eS) .f true:=by
  intro q0 q1 h0;unfold F.Puzzle_lines qbn;exact BR.ret (XE.lc (t0:=true) (fun q1=>[q0,q1]) (XI.list (XE.fldP (x:=ab) (cl:=(fun _=>25)) (fs:=qik) (p:=fun v=>v.rules) (en:=(eL eRule)) (XE.var (i:=0) rfl h0) (fun _=>rfl) (by intro v;obtain⟨_,_,_⟩:=v;exact⟨_,rfl,rfl⟩)) rfl) (fun _=>.inr inferInstance) (fun _=>rfl) (fun ak q1 h1=>XTs.nil) (fun ak q1 h1 _=>(XE.mth0P (F:=fun r=>F.Rule_line r) (cl:=(fun r=>r.k.c)) (fs:=qa6) (XE.var (i:=1) rfl h1) (fun _=>rfl)  (by intro r;obtain⟨k,a0,a1,a2,a3⟩:=r;cases k;exact⟨_,rfl,qa8 ⟨.unlike,a0,a1,a2,a3⟩⟩;exact⟨_,rfl,qa8 ⟨.total,a0,a1,a2,a3⟩⟩;exact⟨_,rfl,qa8 ⟨.rising,a0,a1,a2,a3⟩⟩;exact⟨_,rfl,qa8 ⟨.seen,a0,a1,a2,a3⟩⟩;exact⟨_,rfl,qa8 ⟨.counted,a0,a1,a2,a3⟩⟩;exact⟨_,rfl,qa8 ⟨.joined,a0,a1,a2,a3⟩⟩;exact⟨_,rfl,qa8 ⟨.nosquare,a0,a1,a2,a3⟩⟩;exact⟨_,rfl,qa8 ⟨.ring,a0,a1,a2,a3⟩⟩) rfl rfl)) rfl) rfl
 exact Rf.run rfl (key _ .non SlV.flat)
theorem qhy (ab:PuzT) (av:List Int):Rf (g_Puzzle_clued [ePuz ab,(eL eI) av]) (F.Puzzle_clued ab av) ePuz .v true:=by
 have key:∀q0 q1:Sl,SlV true (ePuz ab) q0→SlV false ((eL eI) av) q1→BR qb0 qbp [q0,q1] (F.Puzzle_clued ab av) ePuz .v true:=by
  intro q0 q1 h0 h1;unfold F.Puzzle_clued qbp;exact BR.ret (XE.new3 rfl (XE.fldFP (x:=ab) (cl:=(fun _=>25)) (fs:=qik) (p:=fun v=>v.ground) (en:=(eT3 eI eI eI)) (XE.var (i:=0) rfl h0) (fun _=>rfl) (by intro v;obtain⟨_,_,_⟩:=v;exact⟨_,rfl,rfl⟩)) (XE.coeG (f:=List.map (eS)) (en2:=(eL eD)) (XE.mth0P (F:=fun r=>F.Puzzle_lines r) (cl:=(fun _=>25)) (fs:=qik) (XE.var (i:=0) rfl h0) (fun _=>rfl)  (fun r=>⟨_,rfl,qeT r⟩) rfl rfl) (qgV (fun _=>rfl))) (XE.var (i:=1) rfl h1) (fun _ _ _=>qeo _ _ _)) rfl
 exact Rf.run rfl (key _ _  SlV.flat SlV.any)
theorem qj6 (ae:PuzT) (av:List Int):Rf (g__law_clued [ePuz ae,(eL eI) av]) (qfR ae av) (eL eB) .f true:=by
 have key:∀q0 q1 q2 q3:Sl,SlV true (ePuz ae) q0→SlV false ((eL eI) av) q1→BR qcW qci [q0,q1,q2,q3] (qfR ae av) (eL eB) .f true:=by
  intro q0 q1 q2 q3 h0 h1;unfold qfR qci;refine BR.cons (SN.asg (en:=eU) (fun q2=>[q0,q1,q2,q3]) XE.cnon rfl fun _=>rfl) ?_;rintro aJ _ ⟨q2,rfl,h2⟩;refine BR.cons (SN.tryE (T:=qbD) (t:=true) (qi:=.non) (XE.mth1P (F:=fun r=>F.Puzzle_clued r av) (cl:=(fun _=>25)) (fs:=qik) (XE.var (i:=0) rfl h0) (fun _=>rfl) (XE.var (i:=1) rfl h1) (fun r=>⟨_,rfl,qhy r av⟩) rfl rfl) rfl rfl rfl (SlV.coe (f:=fun _=>none) h2 (fun _=>rfl)) (fun q2 q3=>[q0,q1,q2,q3]) (fun _ _=>rfl) (fun r h=>by cases h;rfl) (by simp)) ?_;rintro p1 _ ⟨q2,q3,rfl,h2⟩;exact BR.ret (XE.call1P rfl (XE.var (i:=2) rfl h2) (qf3 p1) rfl rfl) rfl
 exact Rf.run rfl (key _ _ .non .non SlV.flat SlV.any)
theorem qhw (ab:PuzT):Rf (g_Puzzle_clues [ePuz ab]) (F.Puzzle_clues ab) (eL eI) .f true:=by
 have key:∀q0:Sl,SlV true (ePuz ab) q0→BR qb7 qbq [q0] (F.Puzzle_clues ab) (eL eI) .f true:=by
  intro q0 h0;unfold F.Puzzle_clues qbq;exact BR.ret (XE.pri1P (XE.fldP (x:=ab) (cl:=(fun _=>25)) (fs:=qik) (p:=fun v=>v.clues) (en:=(eL eI)) (XE.var (i:=0) rfl h0) (fun _=>rfl) (by intro v;obtain⟨_,_,_⟩:=v;exact⟨_,rfl,rfl⟩)) (qbj _)) rfl
 exact Rf.run rfl (key _  SlV.flat)
theorem quv (aw:List Int):Rf (g_law [(eL eI) aw]) (qoi aw) eB .v true:=by
 have key:∀q0 q1 q2 q3 q4 q5 q6 q7 q8 q9 q10 q11 q12 q13:Sl,SlV false ((eL eI) aw) q0→BR qpf qoA [q0,q1,q2,q3,q4,q5,q6,q7,q8,q9,q10,q11,q12,q13] (qoi aw) eB .v true:=by
  intro q0 q1 q2 q3 q4 q5 q6 q7 q8 q9 q10 q11 q12 q13 h0;unfold qoi qoA;refine BR.cons (SN.asg (en:=(eT3 eI eI eI)) (fun q1=>[q0,q1,q2,q3,q4,q5,q6,q7,q8,q9,q10,q11,q12,q13]) (XE.call1P rfl (XE.var (i:=0) rfl h0) (qjZ aw) rfl rfl) rfl fun _=>rfl) ?_;rintro ao _ ⟨q1,rfl,h1⟩;refine BR.cons (SN.asg (en:=(eL eI)) (fun q2=>[q0,q1,q2,q3,q4,q5,q6,q7,q8,q9,q10,q11,q12,q13]) (XE.call3P rfl (XE.var (i:=0) rfl h0) (XE.var (i:=1) rfl h1) XE.cint (qhu aw ao 20) rfl rfl) rfl fun _=>rfl) ?_;rintro aG _ ⟨q2,rfl,h2⟩;refine BR.cons (SN.asg (en:=(eL eS)) (fun q3=>[q0,q1,q2,q3,q4,q5,q6,q7,q8,q9,q10,q11,q12,q13]) (XE.lc (t0:=true) (fun q4=>[q0,q1,q2,q3,q4,q5,q6,q7,q8,q9,q10,q11,q12,q13]) (XI.rng (XRg.r1 (XE.binL XE.cint (XE.binR (XE.call2P rfl (XE.var (i:=0) rfl h0) XE.cint (qaN aw 3) rfl rfl) XE.cint (fun x=>qbi x _ rfl)) (fun y=>qbR _ y)))) (fun _=>.inl rfl) (fun _=>rfl) (fun aC q4 h4=>XTs.nil) (fun aC q4 h4 _=>(XE.call3 rfl (XE.var (i:=1) rfl h1) (XE.var (i:=2) rfl h2) (XE.call2P rfl (XE.var (i:=0) rfl h0) (XE.binP XE.cint (XE.var (i:=4) rfl h4) (qbR _ _)) (qaN aw (4+aC)) rfl rfl) (fun x0 x1 x2=>qkN x0 x1 x2) rfl rfl)) rfl) rfl fun _=>rfl) ?_;rintro aH _ ⟨q3,rfl,h3⟩;refine BR.cons (SN.asg (en:=(eL eI)) (fun q5=>[q0,q1,q2,q3,q4,q5,q6,q7,q8,q9,q10,q11,q12,q13]) (XE.lc2 (t0:=true) (t0':=true) (fun q4 q6=>[q0,q1,q2,q3,q4,q5,q6,q7,q8,q9,q10,q11,q12,q13]) (XI.enumP (XE.var (i:=2) rfl h2)) (fun _=>.inl rfl) (fun _=>.inl rfl) (fun _ _=>rfl) (fun p10 q4 q6 h4 h6=>XTs.nil) (fun p10 q4 q6 h4 h6 _=>(XE.binL (XE.var (i:=6) rfl h6) (XE.binR (XE.binR (XE.call2P rfl (XE.var (i:=0) rfl h0) (XE.binP XE.cint (XE.var (i:=4) rfl h4) (qbR _ _)) (qaN aw (36+p10.1)) rfl rfl) XE.cint (fun x=>qhZ x _ rfl)) XE.cint (fun x=>qbi x _ rfl)) (fun y=>qiO _ y))) rfl) rfl fun _=>rfl) ?_;rintro av _ ⟨q5,rfl,h5⟩;refine BR.cons (SN.asg (en:=(eL eI)) (fun q7=>[q0,q1,q2,q3,q4,q5,q6,q7,q8,q9,q10,q11,q12,q13]) (XE.cast (m':=((qgc aw 52).bind fun x22=>RE.ok (Int.fmod x22 4)).bind fun x26=>((qgc aw 53).bind fun x24=>RE.ok (Int.fmod x24 5)).bind fun x27=>RE.ok [x26,x27]) (XE.lstS (F:=fun w=>[w.1,w.2.1]) (en:=eI) (XS.cons (XE.binR (XE.call2P rfl (XE.var (i:=0) rfl h0) XE.cint (qaN aw 52) rfl rfl) XE.cint (fun x=>qbi x _ rfl)) (XS.cons (XE.binR (XE.call2P rfl (XE.var (i:=0) rfl h0) XE.cint (qaN aw 53) rfl rfl) XE.cint (fun x=>qbi x _ rfl)) XS.nil)) (fun _=>rfl) rfl) (by simp only[RE.bind_assoc,RE.bind_ok])) rfl fun _=>rfl) ?_;rintro b9 _ ⟨q7,rfl,h7⟩;refine BR.cons (SN.asg (en:=(eT3 eI eI eI)) (fun q8=>[q0,q1,q2,q3,q4,q5,q6,q7,q8,q9,q10,q11,q12,q13]) (XE.var (i:=1) rfl h1) rfl fun _=>rfl) ?_
  rintro ax _ ⟨q8,rfl,h8⟩;refine BR.cons (SN.asg (en:=(eL eS)) (fun q9=>[q0,q1,q2,q3,q4,q5,q6,q7,q8,q9,q10,q11,q12,q13]) (XE.pri1P (XE.var (i:=3) rfl h3) (qbj _)) rfl fun _=>rfl) ?_;rintro aZ _ ⟨q9,rfl,h9⟩;refine BR.cons (SN.asg (en:=(eL eI)) (fun q10=>[q0,q1,q2,q3,q4,q5,q6,q7,q8,q9,q10,q11,q12,q13]) (XE.pri1P (XE.var (i:=5) rfl h5) (qbj _)) rfl fun _=>rfl) ?_;rintro a9 _ ⟨q10,rfl,h10⟩;refine BR.cons (SN.asg (en:=(eL eB)) (fun q11=>[q0,q1,q2,q3,q4,q5,q6,q7,q8,q9,q10,q11,q12,q13]) (XE.lstL XLs.nil) rfl fun _=>rfl) ?_;rintro aW _ ⟨q11,rfl,h11⟩;refine BR.cons (S:=(fun(st:(List Int) × (List Bool)) ρ=>∃q10 q11,ρ=[q0,q1,q2,q3,q4,q5,q6,q7,q8,q9,q10,q11,q12,q13]∧SlV false ((eL eI) st.1) q10∧SlV true ((eL eB) st.2) q11)) (SN.iff (XT.val (XE.cmpP XE.cint (XE.var (i:=7) rfl h7) (qn1 _ _))) ?_ ?_) ?_
  ·refine BN.cons (SN.asg (en:=(eL eI)) (fun q10=>[q0,q1,q2,q3,q4,q5,q6,q7,q8,q9,q10,q11,q12,q13]) (XE.call3 rfl (XE.var (i:=1) rfl h1) (XE.var (i:=5) rfl h5) (XE.call2P rfl (XE.var (i:=0) rfl h0) XE.cint (qaN aw 57) rfl rfl) (fun x0 x1 x2=>qdW x0 x1 x2) rfl rfl) rfl fun _=>rfl) ?_;rintro a9 _ ⟨q10,rfl,h10⟩;refine BN.cons (SN.asg (en:=(eL eB)) (fun q11=>[q0,q1,q2,q3,q4,q5,q6,q7,q8,q9,q10,q11,q12,q13]) (XE.lstL (en:=eB) (XLs.cons XE.cbl rfl (XLs.cons XE.cbl rfl (XLs.cons XE.cbl rfl XLs.nil)))) rfl fun _=>rfl) ?_;rintro aW _ ⟨q11,rfl,h11⟩;exact BN.nil ⟨_,_,rfl,h10,h11⟩
  ·exact BN.nil ⟨_,_,rfl,h10.low,h11⟩
  rintro p35 _ ⟨q10,q11,rfl,h10,h11⟩;refine BR.cons (S:=(fun(st:(List (Option D)) × (List Bool)) ρ=>∃q9 q11 q12,ρ=[q0,q1,q2,q3,q4,q5,q6,q7,q8,q9,q10,q11,q12,q13]∧SlV true ((eL (eO eD)) st.1) q9∧SlV true ((eL eB) st.2) q11)) (SN.iff (XT.val (XE.cmpP XE.cint (XE.var (i:=7) rfl h7) (qn1 _ _))) ?_ ?_) ?_
  ·refine BN.cons (SN.asg (en:=eI) (fun q12=>[q0,q1,q2,q3,q4,q5,q6,q7,q8,q9,q10,q11,q12,q13]) (XE.binR (XE.call2P rfl (XE.var (i:=0) rfl h0) XE.cint (qaN aw 56) rfl rfl) (XE.pri1P (XE.var (i:=9) rfl h9) (qfn _)) (fun x=>qjR x _)) rfl fun _=>rfl) ?_;rintro aS _ ⟨q12,rfl,h12⟩;refine BN.cons (SN.asg (en:=(eL (eO eD))) (fun q9=>[q0,q1,q2,q3,q4,q5,q6,q7,q8,q9,q10,q11,q12,q13]) (XE.binR (XE.binL (XE.coe (x:=qcR aZ none (some aS)) (f:=List.map (fun x=>some ((eS) x))) (en2:=(eL (eO eD))) (XE.slcP (XE.var (i:=9) rfl h9) XO.nil (XO.oneP (XE.var (i:=12) rfl h12))) (qgV (qaL (f:=eS) (fun _=>rfl)))) (XE.cast (m':=((RE.ok ao).bind fun x48=>(qgc aw 56).bind fun x49=>qbV x48 x49).bind fun x50=>RE.ok [x50]) (XE.lstS (F:=fun w=>[w.1]) (en:=(eO eD)) (XS.cons (XE.call2 rfl (XE.var (i:=1) rfl h1) (XE.call2P rfl (XE.var (i:=0) rfl h0) XE.cint (qaN aw 56) rfl rfl) (fun x0 x1=>qgZ x0 x1) rfl rfl) XS.nil) (fun _=>rfl) rfl) (by simp only[RE.bind_assoc,RE.bind_ok])) (fun y=>qcp (en:=(eO eD)) _ y)) (XE.coe (x:=qcR aZ (some (aS+1)) none) (f:=List.map (fun x=>some ((eS) x))) (en2:=(eL (eO eD))) (XE.slcP (XE.var (i:=9) rfl h9) (XO.oneP (XE.binP (XE.var (i:=12) rfl h12) XE.cint (qbR _ _))) XO.nil) (qgV (qaL (f:=eS) (fun _=>rfl)))) (fun x=>qcp (en:=(eO eD)) x _)) rfl fun _=>rfl) ?_;rintro aZ _ ⟨q9,rfl,h9⟩;refine BN.cons (SN.asg (en:=(eL eB)) (fun q11=>[q0,q1,q2,q3,q4,q5,q6,q7,q8,q9,q10,q11,q12,q13]) (XE.lstL (en:=eB) (XLs.cons XE.cbl rfl (XLs.cons XE.cbl rfl (XLs.cons XE.cbl rfl XLs.nil)))) rfl fun _=>rfl) ?_;rintro aW _ ⟨q11,rfl,h11⟩;exact BN.nil ⟨_,_,_,rfl,h9,h11⟩
  ·exact BN.nil ⟨_,_,_,rfl,(SlV.coe (f:=List.map (fun x=>some ((eS) x))) h9 (qgV (qaL (f:=eS) (fun _=>rfl)))),h11⟩
  rintro p55 _ ⟨q9,q11,q12,rfl,h9,h11⟩;refine BR.cons (S:=(fun(st:(List (Option D)) × (List Bool)) ρ=>∃q9 q11,ρ=[q0,q1,q2,q3,q4,q5,q6,q7,q8,q9,q10,q11,q12,q13]∧SlV true ((eL (eO eD)) st.1) q9∧SlV true ((eL eB) st.2) q11)) (SN.iff (XT.val (XE.cmpP XE.cint (XE.var (i:=7) rfl h7) (qn1 _ _))) ?_ ?_) ?_
  ·refine BN.cons (SN.asg (en:=(eL (eO eD))) (fun q9=>[q0,q1,q2,q3,q4,q5,q6,q7,q8,q9,q10,q11,q12,q13]) (XE.binL (XE.var (i:=9) rfl h9) (XE.coeG (f:=List.map (fun x=>some ((eS) x))) (en2:=(eL (eO eD))) (XE.lc (t0:=true) (fun q4=>[q0,q1,q2,q3,q4,q5,q6,q7,q8,q9,q10,q11,q12,q13]) (XI.rng (XRg.r1P (XE.binP XE.cint (XE.pri1P (XE.var (i:=9) rfl h9) (qfn _)) (qta _ _)))) (fun _=>.inl rfl) (fun _=>rfl) (fun aC q4 h4=>XTs.nil) (fun aC q4 h4 _=>(XE.idxFP (XE.var (i:=3) rfl h3) XE.cint)) rfl) (qgV (qaL (f:=eS) (fun _=>rfl)))) (fun y=>qcp (en:=(eO eD)) _ y)) rfl fun _=>rfl) ?_;rintro aZ _ ⟨q9,rfl,h9⟩;refine BN.cons (SN.asg (en:=(eL eB)) (fun q11=>[q0,q1,q2,q3,q4,q5,q6,q7,q8,q9,q10,q11,q12,q13]) (XE.lstL (en:=eB) (XLs.cons XE.cbl rfl (XLs.cons XE.cbl rfl (XLs.cons XE.cbl rfl XLs.nil)))) rfl fun _=>rfl) ?_;rintro aW _ ⟨q11,rfl,h11⟩;exact BN.nil ⟨_,_,rfl,h9,h11⟩
  ·exact BN.nil ⟨_,_,rfl,h9,h11⟩
  rintro p65 _ ⟨q9,q11,rfl,h9,h11⟩;refine BR.cons (S:=(fun(st:(Int × Int × Int) × (List Bool)) ρ=>∃q8 q11,ρ=[q0,q1,q2,q3,q4,q5,q6,q7,q8,q9,q10,q11,q12,q13]∧SlV true ((eT3 eI eI eI) st.1) q8∧SlV true ((eL eB) st.2) q11)) (SN.iff (XT.val (XE.cmpP XE.cint (XE.var (i:=7) rfl h7) (qn1 _ _))) ?_ ?_) ?_
  ·refine BN.cons (SN.asg (en:=(eT3 eI eI eI)) (fun q8=>[q0,q1,q2,q3,q4,q5,q6,q7,q8,q9,q10,q11,q12,q13]) (XE.call2 rfl (XE.var (i:=1) rfl h1) (XE.call2P rfl (XE.var (i:=0) rfl h0) XE.cint (qaN aw 55) rfl rfl) (fun x0 x1=>qgn x0 x1) rfl rfl) rfl fun _=>rfl) ?_;rintro ax _ ⟨q8,rfl,h8⟩;refine BN.cons (SN.asg (en:=(eL eB)) (fun q11=>[q0,q1,q2,q3,q4,q5,q6,q7,q8,q9,q10,q11,q12,q13]) (XE.lstL (en:=eB) (XLs.cons XE.cbl rfl (XLs.cons XE.cbl rfl (XLs.cons XE.cbl rfl XLs.nil)))) rfl fun _=>rfl) ?_;rintro aW _ ⟨q11,rfl,h11⟩;exact BN.nil ⟨_,_,rfl,h8,h11⟩
  ·exact BN.nil ⟨_,_,rfl,h8,h11⟩
  rintro p71 _ ⟨q8,q11,rfl,h8,h11⟩;refine BR.ifR (XT.val (XE.cmpR (XE.call3P rfl (XE.var (i:=8) rfl h8) (XE.pri1P (XE.var (i:=9) rfl h9) (qs9 _)) (XE.pri1P (XE.var (i:=10) rfl h10) (qbj _)) (qhT p71.1 p65.1 p35.1) rfl rfl) (XE.var (i:=11) rfl h11) (fun x=>(qpa .ne ((eL eB)) ((eL eB))) x _))) ?_ ?_
  ·exact BR.ret XE.cbl rfl
  refine BR.cons (SN.asg (en:=ePuz) (fun q13=>[q0,q1,q2,q3,q4,q5,q6,q7,q8,q9,q10,q11,q12,q13]) (XE.new3P rfl (XE.var (i:=1) rfl h1) (XE.coe (x:=aH) (f:=List.map (eS)) (en2:=(eL eD)) (XE.pri1P (XE.var (i:=3) rfl h3) (qbj _)) (qgV (fun _=>rfl))) (XE.pri1P (XE.var (i:=5) rfl h5) (qbj _)) (qeo _ _ _)) rfl fun _=>rfl) ?_;rintro ae _ ⟨q13,rfl,h13⟩;refine BR.ifR (XT.val (XE.cmpR (XE.call2 rfl (XE.var (i:=13) rfl h13) (XE.call3 rfl (XE.var (i:=1) rfl h1) (XE.var (i:=5) rfl h5) (XE.call2P rfl (XE.var (i:=0) rfl h0) XE.cint (qaN aw 54) rfl rfl) (fun x0 x1 x2=>qdW x0 x1 x2) rfl rfl) (fun x0 x1=>qj6 x0 x1) rfl rfl) (XE.lstL (en:=eB) (XLs.cons XE.cbl rfl (XLs.cons XE.cbl rfl (XLs.cons XE.cbl rfl XLs.nil)))) (fun x=>(qpa .ne ((eL eB)) ((eL eB))) x _))) ?_ ?_
  ·exact BR.ret XE.cbl rfl
  exact BR.ret (XE.bop (XV.and (XE.cmpR (XE.mth0P (F:=fun r=>F.Puzzle_lines r) (cl:=(fun _=>25)) (fs:=qik) (XE.var (i:=13) rfl h13) (fun _=>rfl)  (fun r=>⟨_,rfl,qeT r⟩) rfl rfl) (XE.var (i:=3) rfl h3) (fun x=>(qpa .eq ((eL eS)) ((eL eS))) x _)) (XV.one (XE.cmpR (XE.mth0P (F:=fun r=>F.Puzzle_clues r) (cl:=(fun _=>25)) (fs:=qik) (XE.var (i:=13) rfl h13) (fun _=>rfl)  (fun r=>⟨_,rfl,qhw r⟩) rfl rfl) (XE.var (i:=5) rfl h5) (fun x=>qqi x _))))) rfl
 exact Rf.run rfl (key _ .non .non .non .non .non .non .non .non .non .non .non .non .non SlV.any)
end K20
namespace K20
open Cm
def cv (ns:List Int) (k:Int):Int:=match qgc ns k with
 |.ok v=>v
 |_=>0
theorem qfF (ns:List Int) {k:Int} (h0:0≤k) (h1:k≤1000):qgc ns k=.ok (cv ns k):=by
 suffices h:W (qgc ns k) fun _=>True by
  obtain⟨v,e,_⟩:=h
  have:cv ns k=v:=by unfold cv;rw[e]
  rw[this];exact e
 unfold qgc
 simp only[RE.bind_ok,qmX]
 by_cases e:k<(ns.length:Int)
 ·rw[if_pos e,qhR h0 e];exact W.ok trivial
 ·rw[if_neg e]
  refine W.bind (P:=fun p:Int=>0≤p∧p≤2000000000) ?_ fun p hp=>?_
  ·by_cases q:(0:Int)<(ns.length:Int)
   ·rw[if_pos q,qeh (by omega)]
    have b:=qba k q
    simp only[RE.bind_ok]
    rw[qhR b.1 b.2]
    simp only[RE.bind_ok]
    have b2:=qba (gI ns (k.fmod (ns.length:Int))) (n:=1000003) (by decide)
    generalize (gI ns (k.fmod (ns.length:Int))).fmod 1000003=z at b2
    rw[qf8 (by omega)]
    simp only[RE.bind_ok]
    have m0:0≤z*(k+1):=Int.mul_nonneg b2.1 (by omega)
    have m1:z*(k+1)≤1000003*1001:=Int.mul_le_mul (by omega) (by omega) (by omega) (by decide)
    exact W.ok ⟨by omega,by omega⟩
   ·rw[if_neg q]
    exact W.ok ⟨by omega,by omega⟩
  ·rw[qf8 (by omega)]
   exact W.ok trivial
theorem qjr {α:Type} {xs:List α} {m:Int} (h:0≤m):qcR xs none (some m)=xs.take m.toNat:=by
 have h1:HT.sIx xs.length 0 none=0:=by simp[HT.sIx]
 have h2:HT.sIx xs.length xs.length (some m)=min m.toNat xs.length:=by
  have:=HT.sIx_nat xs.length xs.length m.toNat
  rwa [show((m.toNat:Nat):Int)=m by omega] at this
 unfold qcR
 rw[h1,h2,List.drop_zero,Nat.sub_zero]
 rcases Nat.le_total m.toNat xs.length with q | q
 ·rw[Nat.min_eq_left q]
 ·rw[Nat.min_eq_right q,List.take_length,List.take_of_length_le q]
theorem qvv:∀{xs:List Int},(∀x∈xs,0≤x∧x≤6)→0≤xs.sum∧xs.sum≤6*(xs.length:Int)
 |[],_=>by simp
 |x::xs,h=>by
  have h1:=h x (by simp)
  have h2:=qvv fun y hy=>h y (List.mem_cons_of_mem _ hy)
  rw[List.sum_cons,List.length_cons]
  omega
theorem qh8 {fl:Int × Int × Int} {f:Int→RE (List Nat)}:∀{xs:List Int},(∀x∈xs,∃r,f x=.ok (qdi r)∧WfR fl r)→∃rs:List RuleT,lcE (fun _=>RE.ok true) f xs=.ok (rs.map qdi)∧rs.length=xs.length∧∀r∈rs,WfR fl r
 |[],_=>⟨[],rfl,rfl,by simp⟩
 |x::xs,h=>by
  obtain⟨r,e,w⟩:=h x (by simp)
  obtain⟨rs,e2,l2,w2⟩:=qh8 (xs:=xs) fun y hy=>h y (List.mem_cons_of_mem _ hy)
  refine⟨r::rs,?_,by simp[l2],fun s hs=>?_⟩
  ·rw[lcE,e,e2];rfl
  ·rcases List.mem_cons.mp hs with q | q
   ·rw[q];exact w
   ·exact w2 s q
theorem qmD (ns:List Int) {fl:Int × Int × Int} (hf:FOk fl) {a:Int} (a0:0≤a) (a1:a≤500):∃f,qdn ns fl a=.ok f∧(f.length:Int)=nC fl∧∀x∈f,1≤x∧x≤fl.2.2:=by
 have n1:=hf.n1
 have n16:=qoD hf
 have s1:=hf.s1
 have en:nC fl=fl.1*fl.2.1:=rfl
 unfold qdn
 rw[qf8 (by have:=hf.h1;have:=hf.h2;omega)]
 simp only[RE.bind_ok]
 rw[qev (by omega) (by omega)]
 simp only[RE.bind_ok]
 rw[gdl (by rw[qaX];omega),qel (g:=fun k=>1+(cv ns (a+k)).fmod fl.2.2) fun k hk=>by
  have:=qey.mp hk
  rw[qfF ns (by omega) (by omega)]
  simp only[RE.bind_ok]
  rw[qeh (by omega)];rfl]
 refine⟨_,rfl,by rw[List.length_map,qaX];omega,fun x hx=>?_⟩
 obtain⟨k,_,rfl⟩:=List.mem_map.mp hx
 have b:=qba (cv ns (a+k)) (n:=fl.2.2) (by omega)
 omega
theorem qnd (z:Int) {m:Int} (m0:0≤m) (m1:m≤100):∃xs,qdt z m=.ok xs∧(xs.length:Int)=m:=by
 suffices h:W (qdt z m) fun xs=>(xs.length:Int)=m by
  obtain⟨v,e,h⟩:=h;exact⟨v,e,h⟩
 unfold qdt
 rw[qev (by omega) m0]
 simp only[RE.bind_ok]
 have b:=qba z (n:=1000003) (by decide)
 refine W.bind (P:=fun s:Int × List Int=>(s.2.length:Int)=m) ?_ fun s h=>W.ok h
 refine W.mono (qew (fun i (s:Int × List Int)=>0≤s.1∧s.1≤1000100∧s.2.length=i) ⟨by show 0≤z.fmod 1000003+11;omega,by show z.fmod 1000003+11≤1000100;omega,rfl⟩ fun i x s hx ⟨h1,h2,h3⟩=>?_) fun s h=>by have:=h.2.2;rw[qaX] at this;omega
 obtain⟨rfl,hi⟩:=qmi hx
 rw[qf8 (by omega)]
 simp only[RE.bind_ok]
 rw[qm8 (by omega)]
 have b2:=qba (s.1*s.1+3*s.1+(i:Int)) (n:=1000003) (by decide)
 exact W.ok ⟨b2.1,by show(s.1*s.1+3*s.1+(i:Int)).fmod 1000003≤1000100;omega,by simp[h3]⟩
theorem qpn {xs:List Int} {m:Int} (h0:1≤m) (h1:m≤16) (hx:m≤xs.length):∃cs,qe9 xs m=.ok cs∧cs.Perm (qed m.toNat):=by
 suffices h:W (qe9 xs m) fun cs=>cs.Perm (qed m.toNat) by
  obtain⟨v,e,h⟩:=h;exact⟨v,e,h⟩
 unfold qe9
 rw[qev (by omega) (by omega)]
 simp only[RE.bind_ok]
 refine W.bind (qp8 (n:=m.toNat) (by omega) fun i s hi hl=>?_) fun s h=>W.ok h
 refine⟨(gI xs (i:Int)).fmod (s.1.length:Int),?_⟩
 have b:=qba (gI xs (i:Int)) (n:=(s.1.length:Int)) (by omega)
 refine⟨b.1,b.2,?_⟩
 rw[qhR (by omega) (by omega)]
 simp only[RE.bind_ok]
 rw[qeh (by omega)]
 rfl
theorem qrH {os f:List Int} {n:Int} {b:Bool} (n0:1≤n) (n1:n≤16) (ho:os.Perm (qed n.toNat)) (hl:(f.length:Int)=n) (hb:∀x∈f,1≤x∧x≤6):∃r,qff os f b=.ok r∧r≠[]∧r.Nodup∧∀x∈r,x∈os:=by
 suffices h:W (qff os f b) fun r=>r≠[]∧r.Nodup∧∀x∈r,x∈os by
  obtain⟨v,e,h⟩:=h;exact⟨v,e,h⟩
 have ol:=ho.length_eq
 rw[qaX] at ol
 have mo:∀c∈os,0≤c∧c<n:=fun c hc=>by
  have:=qey.mp (ho.mem_iff.mp hc);omega
 have on:os.Nodup:=ho.nodup_iff.mpr (qiG _)
 have one:os≠[]:=fun e=>by rw[e] at ol;simp at ol;omega
 have fb:∀c∈os,1≤gI f c∧gI f c≤6:=fun c hc=>hb _ (qoy (mo c hc).1 (by have:=(mo c hc).2;omega))
 unfold qff
 rw[qo4 (by decide)]
 simp only[RE.bind_ok]
 have l6:qh6 1 7=[1,2,3,4,5,6]:=by decide
 rw[l6]
 refine W.bind (P:=fun r:List Int=>r≠[]∧r.Nodup∧∀x∈r,x∈os) ?_ fun r hr=>?_
 ·refine W.mono (qew (fun i (r:List Int)=>r.length≤i∧r.Nodup∧(∀x∈r,x∈os∧gI f x≤i)∧((∃x∈os,gI f x≤i)→r≠[])) ⟨by simp,by simp,by simp,fun⟨x,hx,q⟩=>by have:=fb x hx;omega⟩ fun i s r hx ⟨h1,h2,h3,h4⟩=>?_) fun r ⟨h1,h2,h3,h4⟩=>⟨h4 ?_,h2,fun x hx=>(h3 x hx).1⟩
  ·have hs:s=(i:Int)+1∧i<6:=by
    match i,hx with
    |0,hx=>simp at hx;omega
    |1,hx=>simp at hx;omega
    |2,hx=>simp at hx;omega
    |3,hx=>simp at hx;omega
    |4,hx=>simp at hx;omega
    |5,hx=>simp at hx;omega
    |i+6,hx=>simp at hx
   rw[gdl (by omega),qoM (p:=fun c=>decide (gI f c=s)) fun c hc=>by rw[qhR (mo c hc).1 (by have:=(mo c hc).2;omega)];rfl]
   simp only[RE.bind_ok]
   rw[qjr (by decide)]
   have t1:((os.filter fun c=>decide (gI f c=s)).take (1:Int).toNat).length≤1:=by rw[List.length_take];exact Nat.min_le_left _ _
   have tm:∀x∈(os.filter fun c=>decide (gI f c=s)).take (1:Int).toNat,x∈os∧gI f x=s:=fun x hx=>by
    have:=List.mem_filter.mp (List.mem_of_mem_take hx)
    exact⟨this.1,by simpa using this.2⟩
   rw[qbN (by omega)]
   refine W.ok ⟨by rw[List.length_append];omega,?_,fun x hx=>?_,fun⟨x,hx,q⟩=>?_⟩
   ·rw[List.nodup_append]
    refine⟨h2,(List.take_sublist _ _).nodup (List.filter_sublist.nodup on),fun a ha b hb e=>?_⟩
    subst e
    have q1:=(h3 a ha).2
    have q2:=(tm a hb).2
    omega
   ·rcases List.mem_append.mp hx with q | q
    ·exact⟨(h3 x q).1,by have:=(h3 x q).2;omega⟩
    ·exact⟨(tm x q).1,by have:=(tm x q).2;omega⟩
   ·rcases Int.lt_or_le (gI f x) ((i:Int)+1) with z | z
    ·have:=h4 ⟨x,hx,by omega⟩
     intro e
     exact this (List.append_eq_nil_iff.mp e).1
    ·intro e
     have e2:=(List.append_eq_nil_iff.mp e).2
     have m:x∈os.filter fun c=>decide (gI f c=s):=List.mem_filter.mpr ⟨hx,by simp;omega⟩
     rcases List.take_eq_nil_iff.mp e2 with q | q
     ·cases q
     ·rw[q] at m;cases m
  ·obtain⟨x,hx⟩:=List.exists_mem_of_ne_nil os one
   exact⟨x,hx,by have:=(fb x hx).2;simpa using this⟩
 ·cases b with
  |true=>exact W.ok hr
  |false =>
   simp only[Bool.false_eq_true,if_false]
   rw[gdl (by omega)]
   refine W.ok ⟨fun e=>?_,List.filter_sublist.nodup on,fun x hx=>(List.mem_filter.mp hx).1⟩
   obtain⟨x,hx⟩:=List.exists_mem_of_ne_nil r hr.1
   have:x∈os.filter fun c=>decide (c∈r):=List.mem_filter.mpr ⟨hr.2.2 x hx,by simpa using hx⟩
   rw[e] at this
   cases this
theorem qkY {f cs:List Int} {n:Int} (hl:(f.length:Int)=n) (hc:∀c∈cs,0≤c∧c<n):∃m,qfV f cs=.ok m∧0≤m∧m≤cs.length:=by
 suffices h:W (qfV f cs) fun m=>0≤m∧m≤(cs.length:Int) by
  obtain⟨v,e,h⟩:=h;exact⟨v,e,h⟩
 unfold qfV
 simp only[RE.bind_ok]
 refine W.bind (P:=fun s:Int × Int=>0≤s.2∧s.2≤(cs.length:Int)) ?_ fun s h=>W.ok h
 refine W.mono (qew (fun i (s:Int × Int)=>0≤s.2∧s.2≤(i:Int)) ⟨by decide,by decide⟩ fun i x s hx ⟨h1,h2⟩=>?_) fun s h=>h
 have hm:=hc x (List.mem_of_getElem? hx)
 rw[qhR hm.1 (by omega)]
 simp only[RE.bind_ok]
 split
 ·exact W.ok ⟨by show 0≤s.2+1;omega,by show s.2+1≤((i+1:Nat):Int);omega⟩
 ·exact W.ok ⟨h1,by show s.2≤((i+1:Nat):Int);omega⟩
theorem qp5 {fl:Int × Int × Int} (hf:FOk fl) {r:RuleT} (hr:WfR fl r):qjs [32] (r.k.w::(qgj r).map dgI)=.ok (qdi r):=by
 have h:=qeB hf hr
 have hw:r.k.w.length≤8:=(qfz _ (qja r.k)).2.1
 rw[qlE (b:=8) (fun w hw'=>?_) (by simp;omega)]
 ·rfl
 ·rcases List.mem_cons.mp hw' with q | q
  ·rw[q];exact hw
  ·obtain⟨n,hn,rfl⟩:=List.mem_map.mp q
   have:=qkF (h.2.1 n hn).1 (h.2.1 n hn).2
   omega
end K20
namespace K20
open Cm
theorem qsf {fl:Int × Int × Int} (hf:FOk fl) (n9:nC fl≤16) {f:List Int} (hl:(f.length:Int)=nC fl) (hb:∀x∈f,1≤x∧x≤fl.2.2) (z:Int):∃r,qg3 fl f z=.ok (qdi r)∧WfR fl r:=by
 have n1:=hf.n1
 have s1:=hf.s1
 have s2:=hf.s2
 have en:nC fl=fl.1*fl.2.1:=rfl
 have hb6:∀x∈f,1≤x∧x≤6:=fun x hx=>⟨(hb x hx).1,by have:=(hb x hx).2;omega⟩
 unfold qg3
 rw[qf8 (by have:=hf.h1;have:=hf.h2;omega)]
 simp only[RE.bind_ok]
 rw[←en]
 obtain⟨xs,ex,xl⟩:=qnd (z.fdiv 8) (m:=nC fl+3) (by omega) (by omega)
 obtain⟨os,eo,ho⟩:=qpn (xs:=xs) (m:=nC fl) n1 (by omega) (by omega)
 have ol:=ho.length_eq
 rw[qaX] at ol
 rw[ex]
 simp only[RE.bind_ok]
 rw[eo,qhR (xs:=xs) (k:=nC fl) (by omega) (by omega),qhR (xs:=xs) (k:=nC fl+1) (by omega) (by omega),qhR (xs:=xs) (k:=nC fl+2) (by omega) (by omega)]
 simp only[RE.bind_ok]
 rw[qeh (by omega),qeh (by omega)]
 simp only[RE.bind_ok]
 have bq:=qba (gI xs (nC fl)) (n:=nC fl) (by omega)
 have bs:=qba (gI xs (nC fl+1)) (n:=fl.2.2) (by omega)
 have bo:=qba (gI xs (nC fl+2)) (n:=4) (by decide)
 have bw:=qba z (n:=8) (by decide)
 rw[qjr (by omega)]
 generalize (gI xs (nC fl)).fmod (nC fl)=q at bq
 generalize (gI xs (nC fl+1)).fmod fl.2.2=s at bs
 generalize (gI xs (nC fl+2)).fmod 4=o at bo
 generalize z.fmod 8=w at bw
 obtain⟨off,eoff,o0,o1⟩:∃y:Int,atE ([0,0,0,1]:List Int) o=.ok y∧0≤y∧y≤1:=by
  have:o=0∨o=1∨o=2∨o=3:=by omega
  rcases this with e | e | e | e<;>subst e<;>exact⟨_,rfl,by decide,by decide⟩
 rw[eoff]
 simp only[RE.bind_ok]
 have hso:=qef (n:=1+s) (by omega) (by omega)
 have dl:=qkF (x:=1+s) (by omega) (by omega)
 by_cases w4:4<w
 ·rw[if_pos (decide_eq_true w4)]
  obtain⟨k,ek,hk⟩:∃k:RK,atE ([[106,111,105,110,101,100],[110,111,115,113,117,97,114,101],[114,105,110,103]]:List (List Nat)) (w - 5)=.ok k.w∧qeY k=true:=by
   have:w=5∨w=6∨w=7:=by omega
   rcases this with e | e | e<;>subst e
   ·exact⟨.joined,rfl,rfl⟩
   ·exact⟨.nosquare,rfl,rfl⟩
   ·exact⟨.ring,rfl,rfl⟩
  have wl:k.w.length≤8:=(qfz _ (qja k)).2.1
  rw[ek,hso]
  simp only[RE.bind_ok]
  rw[qgu (by simp only[List.length_cons,List.length_nil];omega)]
  simp only[RE.bind_ok]
  rw[qgu (by simp only[List.length_append,List.length_cons,List.length_nil];omega)]
  refine⟨⟨k,fl,qed (nC fl).toNat,0,1+s⟩,?_,qpp hf hk (by omega) (by omega)⟩
  rw[qvq hk,List.append_assoc]
 rw[if_neg (by simpa using w4),qro]
 have hc0:=qru (k:=(1+q).toNat) ho n1 (by omega)
 simp only[RE.bind_ok]
 -- the cells
 obtain⟨cs,ec,hc,cl⟩:∃cs,(((if decide (w=0∨w=2)=true then RE.ok (decide (off=0)) else RE.ok false:RE Bool).bind fun k23=>if k23=true then (((qff os f (decide (w=2))).bind fun x27=>RE.ok (qcR x27 none (some (List.length (os.take (1+q).toNat):Int)))).bind fun aF=>RE.ok aF) else RE.ok (os.take (1+q).toNat)):RE (List Int))=.ok cs∧CsOk fl cs∧cs.length≤16:=by
  obtain⟨r,er,rn,rd,ro⟩:=qrH (b:=decide (w=2)) n1 (by omega) ho hl hb6
  have a1:∃cs,((((qff os f (decide (w=2))).bind fun x27=>RE.ok (qcR x27 none (some (List.length (os.take (1+q).toNat):Int)))).bind fun aF=>RE.ok aF):RE (List Int))=.ok cs∧CsOk fl cs∧cs.length≤16:=by
   rw[er]
   simp only[RE.bind_ok]
   rw[qjr (by omega),List.length_take]
   refine⟨_,rfl,⟨fun e=>?_,(List.take_sublist _ _).nodup rd,fun c hcc=>?_⟩,?_⟩
   ·rcases List.take_eq_nil_iff.mp e with z | z
    ·omega
    ·exact rn z
   ·have:=qey.mp (ho.mem_iff.mp (ro c (List.mem_of_mem_take hcc)))
    exact⟨this.1,by omega⟩
   ·rw[List.length_take];omega
  have a2:∃cs,(RE.ok (os.take (1+q).toNat):RE (List Int))=.ok cs∧CsOk fl cs∧cs.length≤16:=⟨_,rfl,hc0,by rw[List.length_take];omega⟩
  by_cases p:(w=0∨w=2)
  ·rw[if_pos (decide_eq_true p)]
   simp only[RE.bind_ok]
   by_cases p2:off=0
   ·rw[if_pos (decide_eq_true p2)];exact a1
   ·rw[if_neg (by simpa using p2)];exact a2
  ·rw[if_neg (by simpa using p)]
   simp only[RE.bind_ok,Bool.false_eq_true,if_false]
   exact a2
 rw[ec]
 simp only[RE.bind_ok]
 have cp:=List.length_pos_iff.mpr hc.ne
 have cb:∀c∈cs,0≤c∧c<100:=fun c hcs=>by have:=hc.inn c hcs;exact⟨this.1,by have:=this.2;omega⟩
 have told:lcE (fun(az:Int)=>(RE.ok true)) (fun(az:Int)=>qiM az) cs=.ok (cs.map dgI):=qel fun c h=>qef (cb c h).1 (cb c h).2
 have gf:∀c∈cs,atE f c=.ok (gI f c):=fun c h=>qhR (hc.inn c h).1 (by have:=(hc.inn c h).2;omega)
 have fin:∀r:RuleT,WfR fl r→r.cells=cs→∀ns:List Int,qgj r=ns++cs→ns.length≤2→((qeE (r.k.w::ns.map dgI) (cs.map dgI)).bind fun x87=>qjs [32] x87)=.ok (qdi r):=fun r hr _ ns hn nl=>by
  rw[qbN (by simp;omega)]
  simp only[RE.bind_ok]
  have:=qp5 hf hr
  rw[hn,List.map_append] at this
  exact this
 rw[gdl (xs:=cs) (by omega),gdl (xs:=cs) (by omega),gdl (xs:=cs) (by omega),told]
 simp only[RE.bind_ok]
 have:w=0∨w=1∨w=2∨w=3∨w=4:=by omega
 rcases this with e | e | e | e | e<;>subst e
 ·refine⟨⟨.unlike,fl,cs,0,0⟩,?_,qjS hc⟩
  exact fin ⟨.unlike,fl,cs,0,0⟩ (qjS hc) rfl [] rfl (by simp)
 ·rw[qel gf]
  have sb:=qvv (xs:=cs.map (gI f)) fun x hx=>by
   obtain⟨c,h,rfl⟩:=List.mem_map.mp hx
   have:=hb6 _ (qoy (ms:=f) (hc.inn c h).1 (by have:=(hc.inn c h).2;omega))
   omega
  rw[List.length_map] at sb
  have es:=qef (n:=(cs.map (gI f)).sum+off) (by omega) (by omega)
  simp only[RE.bind_ok]
  rw[es]
  have wf:=qpH (n:=(cs.map (gI f)).sum+off) hc (by omega) (by omega)
  refine⟨⟨.total,fl,cs,(cs.map (gI f)).sum+off,0⟩,?_,wf⟩
  exact fin _ wf rfl [(cs.map (gI f)).sum+off] rfl (by simp)
 ·refine⟨⟨.rising,fl,cs,0,0⟩,?_,qj9 hc⟩
  exact fin ⟨.rising,fl,cs,0,0⟩ (qj9 hc) rfl [] rfl (by simp)
 ·obtain⟨m,em,m0,m1⟩:=qkY hl (cs:=cs) fun c h=>hc.inn c h
  rw[em]
  have es:=qef (n:=m+off) (by omega) (by omega)
  simp only[RE.bind_ok]
  rw[es]
  have wf:=qr5 (n:=m+off) hc (by omega) (by omega)
  refine⟨⟨.seen,fl,cs,m+off,0⟩,?_,wf⟩
  exact fin _ wf rfl [m+off] rfl (by simp)
 ·rw[qoM (p:=fun c=>decide (gI f c=1+s)) fun c h=>by rw[gf c h];rfl,hso]
  have fl9:(cs.filter fun c=>decide (gI f c=1+s)).length≤cs.length:=List.length_filter_le _ _
  have es:=qef (n:=((cs.filter fun c=>decide (gI f c=1+s)).length:Int)+off) (by omega) (by omega)
  simp only[RE.bind_ok]
  rw[es]
  have wf:=qmv (n:=((cs.filter fun c=>decide (gI f c=1+s)).length:Int)+off) (s:=1+s) hc (by omega) (by omega) (by omega) (by omega)
  refine⟨⟨.counted,fl,cs,((cs.filter fun c=>decide (gI f c=1+s)).length:Int)+off,1+s⟩,?_,wf⟩
  exact fin _ wf rfl [((cs.filter fun c=>decide (gI f c=1+s)).length:Int)+off,1+s] rfl (by simp)
end K20
namespace K20
open Cm
theorem qo5 (ns:List Int):∃fl,qfJ ns=.ok fl∧FOk fl:=by
 unfold qfJ
 simp only[RE.bind_ok,qfF ns (k:=0) (by decide) (by decide),qfF ns (k:=1) (by decide) (by decide),qfF ns (k:=2) (by decide) (by decide)]
 have b1:=qba (cv ns 0) (n:=6) (by decide)
 have b2:=qba (cv ns 2) (n:=6) (by decide)
 generalize (cv ns 0).fmod 6=i at b1
 generalize (cv ns 2).fmod 6=j at b2
 generalize cv ns 1=z
 have:i=0∨i=1∨i=2∨i=3∨i=4∨i=5:=by omega
 have go:∀(h m:Int),1≤h→h≤6→1≤m→m≤6→h*m≤16→qrG 16 h=.ok (Int.fdiv 16 h)→(if (Int.fdiv 16 h)<6 then (Int.fdiv 16 h) else 6)=m→∃fl,((((qrG 16 h).bind fun x6=>RE.ok (if x6<6 then x6 else 6)).bind fun x8=>qkV z x8).bind fun x10=>RE.ok (1+x10)).bind (fun aV=>RE.ok (h,aV,1+j))=.ok fl∧FOk fl:=fun h m h1 h6 m1 m6 hm e1 e2=>by
  rw[e1]
  simp only[RE.bind_ok]
  rw[e2,qeh (by omega)]
  have b:=qba z (n:=m) (by omega)
  refine⟨_,rfl,h1,h6,by show 1≤1+z.fmod m;omega,by show 1+z.fmod m≤6;omega,?_,by show 1≤1+j;omega,by show 1+j≤6;omega⟩
  show h*(1+z.fmod m)≤16
  exact Int.le_trans (Int.mul_le_mul_of_nonneg_left (by omega) (by omega)) hm
 rcases this with e | e | e | e | e | e<;>subst e
 ·exact go 1 6 (by decide) (by decide) (by decide) (by decide) (by decide) rfl rfl
 ·exact go 2 6 (by decide) (by decide) (by decide) (by decide) (by decide) rfl rfl
 ·exact go 3 5 (by decide) (by decide) (by decide) (by decide) (by decide) rfl rfl
 ·exact go 4 4 (by decide) (by decide) (by decide) (by decide) (by decide) rfl rfl
 ·exact go 5 3 (by decide) (by decide) (by decide) (by decide) (by decide) rfl rfl
 ·exact go 6 2 (by decide) (by decide) (by decide) (by decide) (by decide) rfl rfl
def rrS (af:Int × Int × Int) (aK:List (List Nat)):RE RuleT:=
 (atE aK 0).bind fun aA=>(qmu aA ([[117,110,108,105,107,101],[115,117,109],[114,105,115,105,110,103],[115,101,101,110],[99,111,117,110,116],[106,111,105,110,101,100],[110,111,115,113,117,97,114,101],[114,105,110,103]])).bind fun k5=>if k5=true then (RE.exc 33 []) else (((RE.ok (qcR aK (some 1) none)).bind fun x6=>gd (leB x6.length) (qgb (fun(az:List Nat)=>(RE.ok true)) (fun(az:List Nat)=>(F.number_of az)) x6)).bind fun au=>(qoW aA ([[106,111,105,110,101,100],[110,111,115,113,117,97,114,101],[114,105,110,103]])).bind fun k7=>if k7=true then (F.whole_rule af aA au) else ((RE.ok (decide (aA=([117,110,108,105,107,101])))).bind fun k8=>if k8=true then ((RE.ok af).bind fun x9=>(F.cells_told af au).bind fun x10=>(RE.ok 0).bind fun x11=>(RE.ok 0).bind fun x12=>RE.ok (RuleT.mk .unlike x9 x10 x11 x12)) else ((RE.ok (decide (aA=([114,105,115,105,110,103])))).bind fun k13=>if k13=true then ((RE.ok af).bind fun x14=>(F.cells_told af au).bind fun x15=>(RE.ok 0).bind fun x16=>(RE.ok 0).bind fun x17=>RE.ok (RuleT.mk .rising x14 x15 x16 x17)) else ((RE.ok (decide (aA=([99,111,117,110,116])))).bind fun k18=>if k18=true then ((F.sign_told af au 1).bind fun ai=>(RE.ok af).bind fun x19=>(F.cells_told af (qcR au (some 2) none)).bind fun x20=>(atE au 0).bind fun x21=>(RE.ok ai).bind fun x22=>RE.ok (RuleT.mk .counted x19 x20 x21 x22)) else ((F.cells_told af (qcR au (some 1) none)).bind fun am=>(RE.ok (decide (aA=([115,117,109])))).bind fun k23=>if k23=true then ((RE.ok af).bind fun x24=>(RE.ok am).bind fun x25=>(atE au 0).bind fun x26=>(RE.ok 0).bind fun x27=>RE.ok (RuleT.mk .total x24 x25 x26 x27)) else ((RE.ok af).bind fun x28=>(RE.ok am).bind fun x29=>(atE au 0).bind fun x30=>(RE.ok 0).bind fun x31=>RE.ok (RuleT.mk .seen x28 x29 x30 x31)))))))
def qd6 (ao:Int × Int × Int) (x_4 y_4:Int):RE (Int × Int × Int):=
 (((RE.ok 0).bind fun x1=>(RE.ok 7).bind fun x2=>(RE.ok (-1)).bind fun x3=>(quj 10 9).bind fun x4=>RE.ok [x1,x2,x3,x4]).bind fun x5=>(RE.ok y_4).bind fun x6=>atE x5 x6).bind fun bj=>(RE.ok (decide (x_4=0))).bind fun k7=>if k7=true then (RE.ok (bj,ao.2.1,ao.2.2)) else ((RE.ok (decide (x_4=1))).bind fun k8=>if k8=true then (RE.ok (ao.1,bj,ao.2.2)) else ((RE.ok (decide (x_4=2))).bind fun k9=>if k9=true then (RE.ok (ao.1,ao.2.1,bj)) else (atE ([(3,6,2),(6,3,1),(4,5,6),(5,4,3)]) y_4)))
section
variable {α β:Type} {b:β}
theorem qnQ {c:α→RE Bool} {f:α→RE β}:∀{xs:List α} {ys:List β},lcE c f xs=.ok ys→qgb c f xs=.ok ys
 |[],_,h=>h
 |x::xs,ys,h=>by
  unfold lcE at h
  unfold qgb
  cases e:c x with
  |bad=>rw[e] at h;cases h
  |exc _ _=>rw[e] at h;cases h
  |ok k =>
   rw[e] at h
   simp only[noX,RE.bind_ok] at h ⊢
   cases k with
   |false=>simp only[Bool.false_eq_true,if_false] at h ⊢;exact qnQ h
   |true =>
    simp only[if_true] at h ⊢
    cases e2:f x with
    |bad=>rw[e2] at h;cases h
    |exc _ _=>rw[e2] at h;cases h
    |ok y =>
     rw[e2] at h
     simp only[noX,RE.bind_ok] at h ⊢
     cases e3:lcE c f xs with
     |bad=>rw[e3] at h;cases h
     |exc _ _=>rw[e3] at h;cases h
     |ok zs=>rw[e3] at h;rw[qnQ e3];exact h
theorem bm {m:RE α} {f g:α→RE β} (h:m.bind f=.ok b) (k:∀a,f a=.ok b→g a=.ok b):m.bind g=.ok b:=by
 cases m with
 |bad=>cases h
 |exc _ _=>cases h
 |ok a=>exact k a h
theorem bm2 {m m':RE α} {f:α→RE β} (h:m.bind f=.ok b) (k:∀a,m=.ok a→m'=.ok a):m'.bind f=.ok b:=by
 cases m with
 |bad=>cases h
 |exc _ _=>cases h
 |ok a=>rw[k a rfl];exact h
theorem im {c:Prop} [Decidable c] {x f g:RE β} (h:(if c then x else f)=.ok b) (k:f=.ok b→g=.ok b):(if c then x else g)=.ok b:=by
 split
 ·rename_i q;rw[if_pos q] at h;exact h
 ·rename_i q;rw[if_neg q] at h;exact k h
theorem gm {q:Bool} {m m':RE β} (h:gd q m=.ok b) (k:m=.ok b→m'=.ok b):gd q m'=.ok b:=by
 cases q with
 |false=>cases h
 |true=>exact k h
end
theorem qnP {fl:Int × Int × Int} {l:D} {r:RuleT} (h:Cm.F.read_rule fl l=.ok r):F.read_rule fl l=.ok r:=by
 unfold Cm.F.read_rule at h
 unfold F.read_rule
 exact bm h fun _ h=>im h fun h=>bm h fun _ h=>bm h fun _ h=>bm h fun _ h=>im h fun h=>bm2 h fun _ h=>bm h fun _ h=>gm h qnQ
theorem qri {fl:Int × Int × Int} {t:List Nat} (h:t.length≤100000):F.read_rule fl (eS t)=rrS fl (TL.spl [32] 0 [] t):=by
 unfold F.read_rule
 have ty:tyE (eD (eS t)) .str=.ok true:=rfl
 have ds:dS (eS t)=.ok t:=rfl
 rw[ty,ds]
 simp only[RE.bind_ok,Bool.not_true,Bool.false_eq_true,if_false]
 rw[qmI (ws:=TL.spl [32] 0 [] t) (by omega) (by simp) (by decide) rfl]
 rfl
theorem qeF {fl:Int × Int × Int} (hf:FOk fl):∀{rs:List RuleT},(∀r∈rs,WfR fl r)→qgb (fun _=>RE.ok true) (fun l=>F.read_rule fl l) ((rs.map qdi).map eS)=.ok rs
 |[],_=>rfl
 |r::rs,h=>by
  have ih:=qeF hf (rs:=rs) fun q hq=>h q (List.mem_cons_of_mem _ hq)
  rw[List.map_cons,List.map_cons,qgb]
  simp only[RE.bind_ok,if_true]
  rw[qnP (qkm hf (h r (by simp)))]
  simp only[RE.bind_ok]
  rw[ih];rfl
theorem qvn {fl:Int × Int × Int} (hf:FOk fl) {ls:List D} {rs:List RuleT} {cl:List Int} (hl:ls.length≤12) (hr:qgb (fun _=>RE.ok true) (fun l=>F.read_rule fl l) ls=.ok rs) (hc:qmT fl cl):F.Puzzle_new fl ls cl=.ok (PuzT.mk fl rs cl):=by
 have:=hf.n
 have l:cl.length≤10000:=by have:=hc.1;have e:nC fl=fl.1*fl.2.1:=rfl;omega
 unfold F.Puzzle_new
 have z:decide ((12:Int)<(List.length ls:Int))=false:=decide_eq_false (by omega)
 simp only[decide_true,Bool.not_true,RE.bind_ok,Bool.false_eq_true,if_false,qdI hf,z,gdl (xs:=ls) (by omega),hr,qfr hf l,decide_eq_true hc]
theorem qrx {fl:Int × Int × Int} (hf:FOk fl) {ls:List D} {cl:List Int} (hl:12<ls.length):F.Puzzle_new fl ls cl=.exc 34 []:=by
 unfold F.Puzzle_new
 have z:decide ((12:Int)<(List.length ls:Int))=true:=decide_eq_true (by omega)
 simp only[decide_true,Bool.not_true,RE.bind_ok,Bool.false_eq_true,if_false,qdI hf,z,if_true]
theorem qsb {fl:Int × Int × Int} (hf:FOk fl) {ls:List D} {cl:List Int} (hl:ls.length≤12) (hr:qgb (fun _=>RE.ok true) (fun l=>F.read_rule fl l) ls=.exc 33 []):F.Puzzle_new fl ls cl=.exc 33 []:=by
 unfold F.Puzzle_new
 have z:decide ((12:Int)<(List.length ls:Int))=false:=decide_eq_false (by omega)
 simp only[decide_true,Bool.not_true,RE.bind_ok,Bool.false_eq_true,if_false,qdI hf,z,gdl (xs:=ls) (by omega),hr,RE.bind_exc]
end K20
namespace K20
open Cm
def isX (c:Nat) {α:Type}:RE α→Bool
 |.exc d fs=>decide (d=c)&&fs.isEmpty
 |_=>false
theorem qqr {c:Nat} {α:Type} {r:RE α} (h:isX c r=true):r=.exc c []:=by
 cases r with
 |bad=>cases h
 |ok _=>cases h
 |exc d fs =>
  unfold isX at h
  rw[Bool.and_eq_true,decide_eq_true_eq] at h
  obtain⟨rfl,h2⟩:=h
  rw[List.isEmpty_iff.mp h2]
def flN (h w s:Nat):Int × Int × Int:=((h:Int),(w:Int),(s:Int))
def quB (h w s:Nat):Bool:=decide (1≤h∧1≤w∧1≤s∧h*w≤16)
theorem qqw {fl:Int × Int × Int} (hf:FOk fl):∃h<7,∃w<7,∃s<7,quB h w s=true∧fl=flN h w s:=by
 have h1:=hf.h1;have h2:=hf.h2;have w1:=hf.w1;have w2:=hf.w2;have n:=hf.n;have s1:=hf.s1;have s2:=hf.s2
 obtain⟨a,b,c⟩:=fl
 simp only at h1 h2 w1 w2 n s1 s2
 obtain⟨h,rfl⟩:∃h:Nat,a=h:=⟨a.toNat,by omega⟩
 obtain⟨w,rfl⟩:∃w:Nat,b=w:=⟨b.toNat,by omega⟩
 obtain⟨s,rfl⟩:∃s:Nat,c=s:=⟨c.toNat,by omega⟩
 have n':h*w≤16:=by exact_mod_cast n
 exact⟨h,by omega,w,by omega,s,by omega,decide_eq_true ⟨by omega,by omega,by omega,n'⟩,rfl⟩
def qpQ (f:Nat→Nat→Nat→Bool):Bool:=(List.range 7).all fun h=>(List.range 7).all fun w=>(List.range 7).all fun s=>!quB h w s||f h w s
theorem qok {f:Nat→Nat→Nat→Bool} (h:qpQ f=true) {a b c:Nat} (ha:a<7) (hb:b<7) (hc:c<7) (hF:quB a b c=true):f a b c=true:=by
 unfold qpQ at h
 have h1:=List.all_eq_true.mp h a (List.mem_range.mpr ha)
 have h2:=List.all_eq_true.mp h1 b (List.mem_range.mpr hb)
 have h3:=List.all_eq_true.mp h2 c (List.mem_range.mpr hc)
 rw[hF] at h3
 simpa using h3
theorem qr2 {n:Nat} {f:Nat→Bool} (h:(List.range n).all f=true) {y:Nat} (hy:y<n):f y=true:=List.all_eq_true.mp h y (List.mem_range.mpr hy)
theorem qjc {fl:Int × Int × Int} (hf:FOk fl) {odd:D} {rest:List D} (ho:F.read_rule fl odd=.exc 33 []):∀{rs:List RuleT},(∀r∈rs,WfR fl r)→qgb (fun _=>RE.ok true) (fun l=>F.read_rule fl l) ((rs.map qdi).map eS++odd::rest)=.exc 33 []
 |[],_=>by
  show qgb _ _ (odd::rest)=_
  rw[qgb]
  simp only[RE.bind_ok,if_true]
  rw[ho];rfl
 |r::rs,h=>by
  have ih:=qjc hf (rest:=rest) ho (rs:=rs) fun q hq=>h q (List.mem_cons_of_mem _ hq)
  rw[List.map_cons,List.map_cons,List.cons_append,qgb]
  simp only[RE.bind_ok,if_true]
  rw[qnP (qkm hf (h r (by simp)))]
  simp only[RE.bind_ok]
  rw[ih];rfl
theorem qpx {fl:Int × Int × Int} {ls:List D} {cl:List Int} (h:F.floor_of fl.1 fl.2.1 fl.2.2=.exc 31 []):F.Puzzle_new fl ls cl=.exc 31 []:=by
 unfold F.Puzzle_new
 simp only[decide_true,Bool.not_true,RE.bind_ok,Bool.false_eq_true,if_false,h,RE.bind_exc]
theorem qmb {fl:Int × Int × Int} (hf:FOk fl) {ls:List D} {rs:List RuleT} {cl:List Int} (hl:ls.length≤12) (hr:qgb (fun _=>RE.ok true) (fun l=>F.read_rule fl l) ls=.ok rs) (l:cl.length≤10000) (hc:¬qmT fl cl):F.Puzzle_new fl ls cl=.exc 34 []:=by
 unfold F.Puzzle_new
 have z:decide ((12:Int)<(List.length ls:Int))=false:=decide_eq_false (by omega)
 simp only[decide_true,Bool.not_true,RE.bind_ok,Bool.false_eq_true,if_false,qdI hf,z,gdl (xs:=ls) (by omega),hr,qfr hf l,decide_eq_false hc,Bool.not_false,if_true]
theorem qpl:qdG (some 31)=.ok [true,false,false]:=rfl
theorem qpF:qdG (some 33)=.ok [false,true,false]:=rfl
theorem qmd:qdG (some 34)=.ok [false,false,true]:=rfl
theorem qlH {fl:Int × Int × Int} {ls:List (Option D)} {cl:List Int} {c:Nat} {v:List Bool} (h:F.Puzzle_new fl (ls.map (eO eD)) cl=.exc c []) (k:qbD c=some true) (hn:qdG (some c)=.ok v):qcA fl ls cl=.ok v:=by
 unfold qcA
 rw[h]
 simp only[RE.bind_ok]
 show(tryE qbD none (RE.exc c []:RE PuzT)).bind _=_
 unfold tryE
 simp only[k]
 exact hn
theorem qo3 {p:PuzT} (hp:WfP p) {cl:List Int} (l:cl.length≤10000) (hc:¬qmT p.ground cl):qfR p cl=.ok [false,false,true]:=by
 have h:F.Puzzle_clued p cl=.exc 34 []:=by
  unfold F.Puzzle_clued
  simp only[RE.bind_ok]
  rw[qjK hp]
  simp only[RE.bind_ok]
  exact qmb hp.f (by rw[List.length_map,List.length_map];exact hp.n) (qeF hp.f hp.r) l hc
 unfold qfR
 rw[h];rfl
def qtJ:RE (Int × Int × Int)→Bool
 |.ok q=>isX 31 (F.floor_of q.1 q.2.1 q.2.2)
 |_=>false
theorem qnh:qpQ (fun h w s=>(List.range 4).all fun x=>(List.range 4).all fun y=>qtJ (qd6 (flN h w s) (x:Nat) (y:Nat)))=true:=by decide +kernel
theorem qjN {fl:Int × Int × Int} (hf:FOk fl) (z:Int):∃q,qbT fl z=.ok q∧F.floor_of q.1 q.2.1 q.2.2=.exc 31 []:=by
 obtain⟨h,h7,w,w7,s,s7,hF,rfl⟩:=qqw hf
 have bx:=qba z (n:=4) (by decide)
 have by_:=qba (z.fdiv 4) (n:=4) (by decide)
 have e:=qr2 (qr2 (qok qnh h7 w7 s7 hF) (y:=(z.fmod 4).toNat) (by omega)) (y:=((z.fdiv 4).fmod 4).toNat) (by omega)
 rw[show(((z.fmod 4).toNat:Nat):Int)=z.fmod 4 by omega,show((((z.fdiv 4).fmod 4).toNat:Nat):Int)=(z.fdiv 4).fmod 4 by omega] at e
 have e2:qbT (flN h w s) z=qd6 (flN h w s) (z.fmod 4) ((z.fdiv 4).fmod 4):=rfl
 rw[e2]
 cases q:qd6 (flN h w s) (z.fmod 4) ((z.fdiv 4).fmod 4) with
 |bad=>rw[q] at e;cases e
 |exc _ _=>rw[q] at e;cases e
 |ok p =>
  rw[q] at e
  exact⟨p,rfl,qqr e⟩
def qut (mt st:List Nat):List (List Nat):=[[],[117,110,108,105,107,101],[117,110,108,105,107,101,32,48,32,48],[117,110,108,105,107,101,32]++mt,[115,117,109,32,49,48,48,32,48],[115,117,109,32,48,49,32,48],[115,117,109,32,51],[106,111,105,110,101,100,32,48],
 [106,111,105,110,101,100,32]++st,[82,105,110,103,32,49],[99,111,117,110,116,32,49,32,48],[110,111,115,113,117,97,114,101],[114,105,115,105,110,103,32,32,48],[115,101,101,110,32,49,32,45,49]]
theorem qss:qpQ (fun h w s=>(List.range 14).all fun k=>Nat.ble ((qut (dg (h*w)) (dg (s+1))).getD k []).length 200&&isX 33 (rrS (flN h w s) (TL.spl [32] 0 [] ((qut (dg (h*w)) (dg (s+1))).getD k []))))=true:=by decide +kernel
theorem qs8 {h w s:Nat}:nC (flN h w s)=((h*w:Nat):Int):=by
 show(h:Int)*(w:Int)=_
 push_cast;rfl
theorem qj7 {fl:Int × Int × Int} {d:D} (h:tyE (eD d) .str=.ok false):F.read_rule fl d=.exc 33 []:=by
 unfold F.read_rule
 rw[h];rfl
theorem qlp {fl:Int × Int × Int} (hf:FOk fl) (z:Int):∃d,qbV fl z=.ok d∧F.read_rule fl (eO eD d)=.exc 33 []:=by
 have n1:=hf.n1
 have n16:=qoD hf
 have s1:=hf.s1
 have s2:=hf.s2
 have en:nC fl=fl.1*fl.2.1:=rfl
 have d1:(dgI (nC fl)).length≤2:=(ql1 (nC fl).toNat (by omega)).1
 have d2:(dgI (fl.2.2+1)).length≤2:=(ql1 (fl.2.2+1).toNat (by omega)).1
 have txt:∀k<14,F.read_rule fl (eS ((qut (dgI (nC fl)) (dgI (fl.2.2+1))).getD k []))=.exc 33 []:=fun k hk=>by
  obtain⟨h,h7,w,w7,s,s7,hF,rfl⟩:=qqw hf
  have e:=qr2 (qok qss h7 w7 s7 hF) hk
  rw[Bool.and_eq_true,Nat.ble_eq] at e
  have e1:dgI (nC (flN h w s))=dg (h*w):=by rw[qs8];rfl
  have e2:dgI ((flN h w s).2.2+1)=dg (s+1):=rfl
  rw[e1,e2,qri (by omega)]
  exact qqr e.2
 unfold qbV
 rw[qf8 (by have:=hf.h1;have:=hf.h2;omega)]
 simp only[RE.bind_ok]
 rw[←en,qef (n:=nC fl) (by omega) (by omega)]
 simp only[RE.bind_ok]
 rw[qgu (by simp only[List.length_cons,List.length_nil];omega)]
 simp only[RE.bind_ok]
 rw[qef (n:=fl.2.2+1) (by omega) (by omega)]
 simp only[RE.bind_ok]
 rw[qgu (by simp only[List.length_cons,List.length_nil];omega)]
 simp only[RE.bind_ok]
 rw[qbN (by simp)]
 simp only[RE.bind_ok]
 rw[qbN (by simp)]
 simp only[RE.bind_ok]
 have b:=qba (z.fdiv 14) (n:=19) (by decide)
 generalize (z.fdiv 14).fmod 19=i at b
 obtain⟨k,rfl⟩:∃k:Nat,i=k:=⟨i.toNat,by omega⟩
 have k19:k<19:=by omega
 match k,k19 with
 |0,_=>exact⟨_,qak (by decide) rfl,txt 0 (by decide)⟩
 |1,_=>exact⟨_,qak (by decide) rfl,txt 1 (by decide)⟩
 |2,_=>exact⟨_,qak (by decide) rfl,txt 2 (by decide)⟩
 |3,_=>exact⟨_,qak (by decide) rfl,txt 3 (by decide)⟩
 |4,_=>exact⟨_,qak (by decide) rfl,txt 4 (by decide)⟩
 |5,_=>exact⟨_,qak (by decide) rfl,txt 5 (by decide)⟩
 |6,_=>exact⟨_,qak (by decide) rfl,txt 6 (by decide)⟩
 |7,_=>exact⟨_,qak (by decide) rfl,txt 7 (by decide)⟩
 |8,_=>exact⟨_,qak (by decide) rfl,txt 8 (by decide)⟩
 |9,_=>exact⟨_,qak (by decide) rfl,txt 9 (by decide)⟩
 |10,_=>exact⟨_,qak (by decide) rfl,txt 10 (by decide)⟩
 |11,_=>exact⟨_,qak (by decide) rfl,txt 11 (by decide)⟩
 |12,_=>exact⟨_,qak (by decide) rfl,txt 12 (by decide)⟩
 |13,_=>exact⟨_,qak (by decide) rfl,txt 13 (by decide)⟩
 |14,_=>exact⟨_,qak (by decide) rfl,qj7 rfl⟩
 |15,_=>exact⟨_,qak (by decide) rfl,qj7 rfl⟩
 |16,_=>exact⟨_,qak (by decide) rfl,qj7 rfl⟩
 |17,_=>exact⟨_,qak (by decide) rfl,qj7 rfl⟩
 |18,_=>exact⟨_,qak (by decide) rfl,qj7 rfl⟩
theorem qkE {α:Type} {xs:List α} {m:Int} (h0:0≤m) (h:m≤xs.length):qcR xs (some m) none=xs.drop m.toNat:=by
 have:=HT.sIx_nat xs.length 0 m.toNat
 rw[show((m.toNat:Nat):Int)=m by omega] at this
 have e2:HT.sIx xs.length xs.length none=xs.length:=rfl
 unfold qcR
 rw[this,e2,Nat.min_eq_left (by omega)]
 exact List.take_of_length_le (by rw[List.length_drop];omega)
theorem qf4 {fl:Int × Int × Int} (hf:FOk fl) {cl:List Int} (hc:qmT fl cl) (z:Int):∃b,qbB fl cl z=.ok b∧¬qmT fl b∧b.length≤100:=by
 have n1:=hf.n1
 have n16:=qoD hf
 have s1:=hf.s1
 have l:=hc.1
 unfold qbB
 rw[qeh (by omega)]
 simp only[RE.bind_ok]
 have ba:=qba (z.fdiv 4) (n:=(cl.length:Int)) (by omega)
 generalize (z.fdiv 4).fmod (cl.length:Int)=a at ba
 split
 ·rw[qkE (by decide) (by omega)]
  refine⟨_,rfl,fun q=>?_,by rw[List.length_drop];omega⟩
  have:=q.1
  rw[List.length_drop] at this
  omega
 ·split
  ·rw[qbN (by simp only[List.length_cons,List.length_nil];omega)]
   refine⟨_,rfl,fun q=>?_,by simp only[List.length_append,List.length_cons,List.length_nil];omega⟩
   have:=q.1
   simp only[List.length_append,List.length_cons,List.length_nil] at this
   omega
  ·obtain⟨x,ex,hx⟩:∃x,atE ([(-1),fl.2.2+1]:List Int) (z.fmod 2)=.ok x∧(x<0∨fl.2.2<x):=by
    have b2:=qba z (n:=2) (by decide)
    have:z.fmod 2=0∨z.fmod 2=1:=by omega
    rcases this with e | e<;>rw[e]
    ·exact⟨-1,qak (by decide) rfl,.inl (by decide)⟩
    ·exact⟨fl.2.2+1,qak (by decide) rfl,.inr (by omega)⟩
   rw[ex]
   simp only[RE.bind_ok]
   rw[qjr (by omega),qkE (by omega) (by omega)]
   rw[qbN (by simp only[List.length_take,List.length_cons,List.length_nil];omega)]
   simp only[RE.bind_ok]
   rw[qbN (by simp only[List.length_append,List.length_take,List.length_drop,List.length_cons,List.length_nil];omega)]
   refine⟨_,rfl,fun q=>?_,by simp only[List.length_append,List.length_take,List.length_drop,List.length_cons,List.length_nil];omega⟩
   have:=q.2 x (by simp)
   omega
end K20
namespace K20
open Cm
theorem qnE {rs:List RuleT}:(rs.map qdi).length=rs.length:=List.length_map _
abbrev opn (ls:List (List Nat)):List (Option D):=ls.map fun x=>some (eS x)
theorem qos (ls:List (List Nat)):(opn ls).map (eO eD)=ls.map eS:=by
 unfold opn
 rw[List.map_map]
 exact List.map_congr_left fun _ _=>rfl
theorem qxg {n:Nat} {x:Int} (h:x<n) (h0:0≤x):x.toNat<n:=by omega
theorem main (ns:List Int):qoi ns=.ok true:=by
 obtain⟨fl,ef,hf⟩:=qo5 ns
 obtain⟨fi,ei,il,ib⟩:=qmD ns hf (a:=20) (by decide) (by decide)
 have n1:=hf.n1
 have n16:=qoD hf
 have s1:=hf.s1
 have s2:=hf.s2
 unfold qoi
 rw[ef]
 simp only[RE.bind_ok]
 rw[ei,qfF ns (k:=3) (by decide) (by decide),qfF ns (k:=52) (by decide) (by decide),qfF ns (k:=53) (by decide) (by decide),qfF ns (k:=54) (by decide) (by decide),qfF ns (k:=55) (by decide) (by decide),qfF ns (k:=56) (by decide) (by decide),qfF ns (k:=57) (by decide) (by decide)]
 simp only[RE.bind_ok]
 have b12:=qba (cv ns 3) (n:=12) (by decide)
 rw[qev (by omega) (by omega)]
 simp only[RE.bind_ok]
 obtain⟨rs,er,rl,hr⟩:=qh8 (fl:=fl) (f:=fun(aC:Int)=>((qgc ns (4+aC)).bind fun x6=>qg3 fl fi x6)) (xs:=qed (1+(cv ns 3).fmod 12).toNat) fun k hk=>by
  have:=qey.mp hk
  rw[qfF ns (by omega) (by omega)]
  exact qsf hf (by omega) il ib _
 rw[qaX] at rl
 rw[gdl (by rw[qaX];omega),er]
 simp only[RE.bind_ok]
 obtain⟨cl,ec,hc⟩:∃cl,lcE (fun(p8:Int × Int)=>(RE.ok true)) (fun(p8:Int × Int)=>((((qgc ns (36+p8.1)).bind fun x13=>RE.ok (Int.fdiv x13 7)).bind fun x15=>RE.ok (Int.fmod x15 2)).bind fun x18=>qka p8.2 x18)) (qiV fi)=.ok cl∧qmT fl cl:=by
  refine⟨_,qel (g:=fun p=>p.2*((cv ns (36+p.1)).fdiv 7).fmod 2) fun p hp=>?_,?_,fun x hx=>?_⟩
  ·obtain⟨i,hi⟩:=List.getElem?_of_mem hp
   obtain⟨q1,q2⟩:=Cm.qlM hi
   have:=(List.getElem?_eq_some_iff.mp q2).1
   rw[qfF ns (by omega) (by omega)]
   simp only[RE.bind_ok]
   have b:=qba ((cv ns (36+p.1)).fdiv 7) (n:=2) (by decide)
   rw[qs6 (by omega)]
  ·rw[List.length_map];unfold qiV;simp;exact il
  ·obtain⟨p,hp,rfl⟩:=List.mem_map.mp hx
   obtain⟨i,hi⟩:=List.getElem?_of_mem hp
   obtain⟨q1,q2⟩:=Cm.qlM hi
   have b:=qba ((cv ns (36+p.1)).fdiv 7) (n:=2) (by decide)
   have f:=ib _ (List.mem_of_getElem? q2)
   have:((cv ns (36+p.1)).fdiv 7).fmod 2=0∨((cv ns (36+p.1)).fdiv 7).fmod 2=1:=by omega
   rcases this with e | e<;>rw[e]<;>omega
 rw[gdl (by unfold qiV;simp;omega),ec]
 simp only[RE.bind_ok]
 have r12:rs.length≤12:=by omega
 have r1:1≤rs.length:=by omega
 have ll:=qnE (rs:=rs)
 have b4:=qba (cv ns 52) (n:=4) (by decide)
 generalize (cv ns 52).fmod 4=x at b4
 generalize (cv ns 53).fmod 5=y
 refine W.eq ?_
 refine W.bind (P:=fun p:List Int × List Bool=>p.1.length≤100∧((3∈[x,y]∧¬qmT fl p.1∧p.2=[false,false,true])∨(3∉[x,y]∧p.1=cl))) ?_ fun p3 h3=>?_
 ·by_cases q:(3:Int)∈[x,y]
  ·rw[decide_eq_true q]
   simp only[if_true]
   obtain⟨b,eb,nb,lb⟩:=qf4 hf hc (cv ns 57)
   rw[eb]
   exact W.ok ⟨lb,.inl ⟨q,nb,rfl⟩⟩
  ·rw[decide_eq_false q]
   simp only[Bool.false_eq_true,if_false]
   exact W.ok ⟨by have:=hc.1;show cl.length≤100;omega,.inr ⟨q,rfl⟩⟩
 refine W.bind (P:=fun p:List (Option D) × List Bool=>p.1.length=rs.length∧((2∈[x,y]∧qgb (fun _=>RE.ok true) (fun l=>F.read_rule fl l) (p.1.map (eO eD))=.exc 33 []∧p.2=[false,true,false])∨(2∉[x,y]∧p.1=opn (rs.map qdi)∧p.2=p3.2))) ?_ fun p2 h2=>?_
 ·by_cases q:(2:Int)∈[x,y]
  ·rw[decide_eq_true q]
   simp only[if_true]
   rw[ll,qeh (by omega)]
   simp only[RE.bind_ok]
   have ba:=qba (cv ns 56) (n:=(rs.length:Int)) (by omega)
   generalize (cv ns 56).fmod (rs.length:Int)=a at ba
   obtain⟨d,ed,rd⟩:=qlp hf (cv ns 56)
   rw[ed]
   simp only[RE.bind_ok]
   rw[qjr (by omega),qkE (by omega) (by rw[ll];omega)]
   rw[qbN (by simp only[List.length_map,List.length_take,List.length_cons,List.length_nil];omega)]
   simp only[RE.bind_ok]
   rw[qbN (by simp only[List.length_append,List.length_map,List.length_take,List.length_drop,List.length_cons,List.length_nil];omega)]
   refine W.ok ⟨?_,.inl ⟨q,?_,rfl⟩⟩
   ·show(_++_++_:List (Option D)).length=_
    simp only[List.length_append,List.length_map,List.length_take,List.length_drop,List.length_cons,List.length_nil];omega
   ·show qgb _ _ (List.map (eO eD) (_++[d]++_))=_
    rw[List.map_append,List.map_append,List.append_assoc,qos,←List.map_take]
    exact qjc hf rd fun r h=>hr r (List.mem_of_mem_take h)
  ·rw[decide_eq_false q]
   simp only[Bool.false_eq_true,if_false]
   exact W.ok ⟨by show(opn (rs.map qdi)).length=_;unfold opn;rw[List.length_map,ll],.inr ⟨q,rfl,rfl⟩⟩
 refine W.bind (P:=fun p:List (Option D) × List Bool=>(1∈[x,y]∧12<p.1.length∧p.2=[false,false,true])∨(1∉[x,y]∧p=p2)) ?_ fun p1 h1=>?_
 ·by_cases q:(1:Int)∈[x,y]
  ·rw[decide_eq_true q]
   simp only[if_true]
   have l2:=h2.1
   rw[qev (by omega) (by omega)]
   simp only[RE.bind_ok]
   rw[gdl (by rw[qaX];omega),qel (g:=fun _=>(rs.map qdi).getD (0:Int).toNat []) fun k hk=>qvk [] (by decide) (by rw[ll];omega)]
   simp only[RE.bind_ok]
   rw[qbN (by simp only[List.length_map,qaX];omega)]
   refine W.ok (.inl ⟨q,?_,rfl⟩)
   show 12<(_++_:List (Option D)).length
   simp only[List.length_append,List.length_map,qaX];omega
  ·rw[decide_eq_false q]
   simp only[Bool.false_eq_true,if_false]
   exact W.ok (.inr ⟨q,rfl⟩)
 refine W.bind (P:=fun p:(Int × Int × Int) × List Bool=>(0∈[x,y]∧F.floor_of p.1.1 p.1.2.1 p.1.2.2=.exc 31 []∧p.2=[true,false,false])∨(0∉[x,y]∧p.1=fl∧p.2=p1.2)) ?_ fun p0 h0=>?_
 ·by_cases q:(0:Int)∈[x,y]
  ·rw[decide_eq_true q]
   simp only[if_true]
   obtain⟨g,eg,hg⟩:=qjN hf (cv ns 55)
   rw[eg]
   exact W.ok (.inl ⟨q,hg,rfl⟩)
  ·rw[decide_eq_false q]
   simp only[Bool.false_eq_true,if_false]
   exact W.ok (.inr ⟨q,rfl,rfl⟩)
 have one:∃v,qcA p0.1 p1.1 p3.1=.ok v∧p0.2=v∧(v=[true,false,false]∨v=[false,true,false]∨v=[false,false,true]):=by
  rcases h0 with⟨_,g,e⟩ | ⟨q0,g,e⟩
  ·exact⟨_,qlH (c:=31) (qpx g) rfl qpl,e,.inl rfl⟩
  ·rcases h1 with⟨_,l,e1⟩ | ⟨q1,e1⟩
   ·refine⟨_,qlH (c:=34) ?_ rfl qmd,by rw[e,e1],.inr (.inr rfl)⟩
    rw[g];exact qrx hf (by rw[List.length_map];exact l)
   ·subst e1
    rcases h2 with⟨l2,⟨_,rb,e2⟩ | ⟨q2,rg,e2⟩⟩
    ·refine⟨_,qlH (c:=33) ?_ rfl qpF,by rw[e,e2],.inr (.inl rfl)⟩
     rw[g];exact qsb hf (by rw[List.length_map];omega) rb
    ·rcases h3 with⟨l3,⟨_,nc,e3⟩ | ⟨q3,_⟩⟩
     ·refine⟨_,qlH (c:=34) ?_ rfl qmd,by rw[e,e2,e3],.inr (.inr rfl)⟩
      rw[g,rg,qos]
      exact qmb hf (by rw[List.length_map,ll];exact r12) (qeF hf hr) (by omega) nc
     ·exfalso
      simp only[List.mem_cons,List.not_mem_nil,or_false,not_or] at q0 q1 q2 q3
      omega
 obtain⟨v,ev,hv,v3⟩:=one
 rw[ev,hv]
 simp only[RE.bind_ok]
 have ne:evC .ne ((eL eB) v) ((eL eB) v)=.ok false:=by
  rcases v3 with e | e | e<;>subst e<;>rfl
 rw[ne]
 simp only[RE.bind_ok,Bool.false_eq_true,if_false]
 rw[qvn hf (by rw[List.length_map,ll];exact r12) (qeF hf hr) hc]
 simp only[RE.bind_ok]
 have hp:WfP ⟨fl,rs,cl⟩:=⟨hf,hr,hc,r12⟩
 obtain⟨b,eb,nb,lb⟩:=qf4 hf hc (cv ns 54)
 rw[eb]
 simp only[RE.bind_ok]
 rw[qo3 hp (by omega) nb]
 simp only[RE.bind_ok]
 rw[show evC .ne ((eL eB) [false,false,true]) ((eL eB) [false,false,true])=.ok false from rfl,qjK hp]
 have le:∀x∈rs.map qdi,∀c∈x,c<256:=fun x hx=>by
  obtain⟨r,h,rfl⟩:=List.mem_map.mp hx
  exact qqQ hf (hr r h)
 unfold F.Puzzle_clues
 simp only[RE.bind_ok,Bool.false_eq_true,if_false]
 rw[qrX le le]
 simp only[RE.bind_ok,decide_true,if_true]
 exact W.ok rfl
theorem law_true:∀ns:List Int,ns.length≤63→(∀z∈ns,PySem.Builtin.Int.intBits z≤1048576)→∃b,g_law [.lst (ns.map D.int)]=.ok (.val (.bl true) b):=
 fun ns _ _=>qtR (quv ns) (main ns)
end K20
set_option maxHeartbeats 0
namespace K20
open Cm PySem PySem.Spec PyProof.Rows L2
def FL:Nat→List Str:=fun c=>match c with
 |0=>["ground","cells","wanted","of_sign"]
 |1=>["ground","cells","wanted","of_sign"]
 |2=>["ground","cells","wanted","of_sign"]
 |3=>["ground","cells","wanted","of_sign"]
 |4=>["ground","cells","wanted","of_sign"]
 |5=>["ground","cells","wanted","of_sign"]
 |6=>["ground","cells","wanted","of_sign"]
 |7=>["ground","cells","wanted","of_sign"]
 |25=>["ground","rule_list","clue_list"]
 |_=>[]
def GK (K:PySem.W.Frag):Glo:=⟨K,fun c=>match c with
 |0=>He.ga K "Unlike"
 |1=>He.ga K "Total"
 |2=>He.ga K "Rising"
 |3=>He.ga K "Seen"
 |4=>He.ga K "Counted"
 |5=>He.ga K "Joined"
 |6=>He.ga K "NoSquare"
 |7=>He.ga K "Ring"
 |25=>He.ga K "Puzzle"
 |31=>He.ga K "NoFloor"
 |33=>He.ga K "NoRule"
 |34=>He.ga K "NoPuzzle"
 |_=>0,FL⟩
def qfg:Tb:={ N:=["_law_script","_law_k","_law_mixed"],fn:=[],gc:=[],mn:=[],fs:=[],nw:=[],ck:=[],xk:=[],dc:=[] }
theorem qnk:FnScope qfg.N ["_law_script","_law_k"] (defScope (top 44)):=⟨rfl,rfl,rfl,by decide +kernel,rfl,by decide +kernel,by decide +kernel⟩
theorem qoa:qah qfg (defScope (top 44)) qet (defBody (top 44))=true:=by decide +kernel
def qc7:Tb:={ N:=["_law_script","_law_high","_law_wide"],fn:=[("_law_at",2)],gc:=[],mn:=[],fs:=[],nw:=[],ck:=[],xk:=[],dc:=[] }
theorem qjT:FnScope qc7.N ["_law_script"] (defScope (top 45)):=⟨rfl,rfl,rfl,by decide +kernel,rfl,by decide +kernel,by decide +kernel⟩
theorem qkq:qah qc7 (defScope (top 45)) qcg (defBody (top 45))=true:=by decide +kernel
def qb1:Tb:={ N:=["_law_script","_law_floor_here","_law_at_here","_law_k"],fn:=[("_law_at",2)],gc:=[],mn:=[],fs:=[],nw:=[],ck:=[],xk:=[],dc:=[] }
theorem qhr:FnScope qb1.N ["_law_script","_law_floor_here","_law_at_here"] (defScope (top 51)):=⟨rfl,rfl,rfl,by decide +kernel,rfl,by decide +kernel,by decide +kernel⟩
theorem qhQ:qah qb1 (defScope (top 51)) qbo (defBody (top 51))=true:=by decide +kernel
def qcs:Tb:={ N:=["_law_cell","_law_many","_law_number","_law_found","_law_k"],fn:=[],gc:=[],mn:=[],fs:=[],nw:=[],ck:=[],xk:=[],dc:=[] }
theorem qiN:FnScope qcs.N ["_law_cell","_law_many"] (defScope (top 46)):=⟨rfl,rfl,rfl,by decide +kernel,rfl,by decide +kernel,by decide +kernel⟩
theorem qiy:qah qcs (defScope (top 46)) qbI (defBody (top 46))=true:=by decide +kernel
def qc6:Tb:={ N:=["_law_xs","_law_many","_law_left","_law_order_here","_law_k"],fn:=[],gc:=[],mn:=[],fs:=[],nw:=[],ck:=[],xk:=[],dc:=[] }
theorem qjh:FnScope qc6.N ["_law_xs","_law_many"] (defScope (top 47)):=⟨rfl,rfl,rfl,by decide +kernel,rfl,by decide +kernel,by decide +kernel⟩
theorem qjE:qah qc6 (defScope (top 47)) qcj (defBody (top 47))=true:=by decide +kernel
def qdN:Tb:={ N:=["_law_order_here","_law_filling_here","_law_rising","_law_kept_here","_law_sign","_law_some","_law_cell"],fn:=[],gc:=[],mn:=[],fs:=[],nw:=[],ck:=[],xk:=[],dc:=[] }
theorem qkI:FnScope qdN.N ["_law_order_here","_law_filling_here","_law_rising"] (defScope (top 48)):=⟨rfl,rfl,rfl,by decide +kernel,rfl,by decide +kernel,by decide +kernel⟩
theorem qkz:qah qdN (defScope (top 48)) qcF (defBody (top 48))=true:=by decide +kernel
def qdE:Tb:={ N:=["_law_filling_here","_law_cells","_law_greatest","_law_many","_law_cell"],fn:=[],gc:=[],mn:=[],fs:=[],nw:=[],ck:=[],xk:=[],dc:=[] }
theorem qld:FnScope qdE.N ["_law_filling_here","_law_cells"] (defScope (top 49)):=⟨rfl,rfl,rfl,by decide +kernel,rfl,by decide +kernel,by decide +kernel⟩
theorem qlb:qah qdE (defScope (top 49)) qcE (defBody (top 49))=true:=by decide +kernel
def qdO:Tb:={ N:=["_law_floor_here","_law_filling_here","_law_cell","_law_many","_law_xs","_law_order_here","_law_some","_law_sign","_law_off","_law_way","_law_words","_law_one"],fn:=[("_law_stream",2),("_law_order",2),("_law_kept",3),("_law_seen",2)],gc:=[],mn:=[],fs:=[],nw:=[],ck:=[],xk:=[],dc:=[] }
theorem qkU:FnScope qdO.N ["_law_floor_here","_law_filling_here","_law_cell"] (defScope (top 50)):=⟨rfl,rfl,rfl,by decide +kernel,rfl,by decide +kernel,by decide +kernel⟩
theorem qkC:qah qdO (defScope (top 50)) qcC (defBody (top 50))=true:=by decide +kernel
def qby:Tb:={ N:=["_law_floor_here","_law_clues","_law_cell","_law_at_here"],fn:=[],gc:=[],mn:=[],fs:=[],nw:=[],ck:=[],xk:=[],dc:=[] }
theorem qgg:FnScope qby.N ["_law_floor_here","_law_clues","_law_cell"] (defScope (top 54)):=⟨rfl,rfl,rfl,by decide +kernel,rfl,by decide +kernel,by decide +kernel⟩
theorem qgh:qah qby (defScope (top 54)) qa1 (defBody (top 54))=true:=by decide +kernel
def qbG:Tb:={ N:=["_law_floor_here","_law_cell","_law_many","_law_some"],fn:=[],gc:=[],mn:=[],fs:=[],nw:=[],ck:=[],xk:=[],dc:=[] }
theorem qgQ:FnScope qbG.N ["_law_floor_here","_law_cell"] (defScope (top 53)):=⟨rfl,rfl,rfl,by decide +kernel,rfl,by decide +kernel,by decide +kernel⟩
theorem qgz:qah qbG (defScope (top 53)) qbc (defBody (top 53))=true:=by decide +kernel
def qbv:Tb:={ N:=["_law_floor_here","_law_cell","_law_side"],fn:=[],gc:=[],mn:=[],fs:=[],nw:=[],ck:=[],xk:=[],dc:=[] }
theorem qgm:FnScope qbv.N ["_law_floor_here","_law_cell"] (defScope (top 52)):=⟨rfl,rfl,rfl,by decide +kernel,rfl,by decide +kernel,by decide +kernel⟩
theorem qgq:qah qbv (defScope (top 52)) qa0 (defBody (top 52))=true:=by decide +kernel
def qcY:Tb:={ N:=["_law_caught","_law_others"],fn:=[],gc:=[],mn:=[],fs:=[],nw:=[],ck:=[("BadThought",true),("NoFilling",true),("NoMove",true),("NoName",true),("NoRow",true),("NoText",true),("NotOne",true),("TooMany",true),("ValueError",false),("NoFloor",true),("NoRule",true),("NoPuzzle",true)],xk:=[],dc:=[] }
theorem qjd:FnScope qcY.N ["_law_caught"] (defScope (top 56)):=⟨rfl,rfl,rfl,by decide +kernel,rfl,by decide +kernel,by decide +kernel⟩
theorem qjg:qah qcY (defScope (top 56)) qca (defBody (top 56))=true:=by decide +kernel
def qeC:Tb:={ N:=["high","wide","signs"],fn:=[],gc:=["MOST_SIDE","MOST_CELLS","MOST_SIGNS"],mn:=[],fs:=[],nw:=[],ck:=[],xk:=["NoFloor"],dc:=[] }
theorem qmQ:FnScope qeC.N ["high","wide","signs"] (defScope (top 18)):=⟨rfl,rfl,rfl,by decide +kernel,rfl,by decide +kernel,by decide +kernel⟩
theorem qmG:qah qeC (defScope (top 18)) qdp (defBody (top 18))=true:=by decide +kernel
def qdy:Tb:={ N:=["word","sign"],fn:=[],gc:=["LONGEST","FIGURES"],mn:=[],fs:=[],nw:=[],ck:=[],xk:=["NoRule"],dc:=[] }
theorem qkT:FnScope qdy.N ["word"] (defScope (top 35)):=⟨rfl,rfl,rfl,by decide +kernel,rfl,by decide +kernel,by decide +kernel⟩
theorem qll:qah qdy (defScope (top 35)) qcH (defBody (top 35))=true:=by decide +kernel
def qdv:Tb:={ N:=["floor","numbers","at"],fn:=[],gc:=[],mn:=[],fs:=[],nw:=[],ck:=[],xk:=["NoRule"],dc:=[] }
theorem qlr:FnScope qdv.N ["floor","numbers","at"] (defScope (top 36)):=⟨rfl,rfl,rfl,by decide +kernel,rfl,by decide +kernel,by decide +kernel⟩
theorem qlA:qah qdv (defScope (top 36)) qcO (defBody (top 36))=true:=by decide +kernel
def qc3:Tb:={ N:=["floor"],fn:=[],gc:=[],mn:=[],fs:=[],nw:=[],ck:=[],xk:=[],dc:=[] }
theorem qjx:FnScope qc3.N ["floor"] (defScope (top 19)):=⟨rfl,rfl,rfl,by decide +kernel,rfl,by decide +kernel,by decide +kernel⟩
theorem qjt:qah qc3 (defScope (top 19)) qcc (defBody (top 19))=true:=by decide +kernel
def qag:Tb:={ N:=["self","ground","cells","wanted","of_sign"],fn:=[],gc:=[],mn:=[],fs:=["ground","cells","wanted","of_sign"],nw:=[],ck:=[],xk:=[],dc:=[] }
theorem qaq:FnScope qag.N ["self","ground","cells","wanted","of_sign"] (defScope (sub 23 0)):=⟨rfl,rfl,rfl,by decide +kernel,rfl,by decide +kernel,by decide +kernel⟩
theorem qau:qah qag (defScope (sub 23 0)) qab (defBody (sub 23 0))=true:=by decide +kernel
def qcZ:Tb:={ N:=["floor","word","numbers","sign","cells"],fn:=[("sign_told",3),("many_cells",1)],gc:=[],mn:=[],fs:=[],nw:=[("Joined",4),("NoSquare",4),("Ring",4)],ck:=[],xk:=["NoRule"],dc:=[] }
theorem qj3:FnScope qcZ.N ["floor","word","numbers"] (defScope (top 38)):=⟨rfl,rfl,rfl,by decide +kernel,rfl,by decide +kernel,by decide +kernel⟩
theorem qje:qah qcZ (defScope (top 38)) qck (defBody (top 38))=true:=by decide +kernel
def qc4:Tb:={ N:=["floor","numbers"],fn:=[("many_cells",1)],gc:=[],mn:=[],fs:=[],nw:=[],ck:=[],xk:=["NoRule"],dc:=[] }
theorem qjo:FnScope qc4.N ["floor","numbers"] (defScope (top 37)):=⟨rfl,rfl,rfl,by decide +kernel,rfl,by decide +kernel,by decide +kernel⟩
theorem qju:qah qc4 (defScope (top 37)) qcd (defBody (top 37))=true:=by decide +kernel
def qdu:Tb:={ N:=["floor","line","words","word","numbers","one","sign","cells"],fn:=[("number_of",1),("whole_rule",3),("cells_told",2),("sign_told",3)],gc:=[],mn:=[],fs:=[],nw:=[("Unlike",4),("Rising",4),("Counted",4),("Total",4),("Seen",4)],ck:=[],xk:=["NoRule"],dc:=[] }
theorem qk8:FnScope qdu.N ["floor","line"] (defScope (top 39)):=⟨rfl,rfl,rfl,by decide +kernel,rfl,by decide +kernel,by decide +kernel⟩
theorem qlB:qah qdu (defScope (top 39)) qcK (defBody (top 39))=true:=by decide +kernel
def qc9:Tb:={ N:=["floor","filling","sign"],fn:=[("many_cells",1)],gc:=[],mn:=[],fs:=[],nw:=[],ck:=[],xk:=[],dc:=[] }
theorem qki:FnScope qc9.N ["floor","filling"] (defScope (top 21)):=⟨rfl,rfl,rfl,by decide +kernel,rfl,by decide +kernel,by decide +kernel⟩
theorem qji:qah qc9 (defScope (top 21)) qcl (defBody (top 21))=true:=by decide +kernel
def qbh:Tb:={ N:=["self","floor","lines","clues","line"],fn:=[("floor_of",3),("read_rule",2),("is_filling",2)],gc:=["MOST_RULES"],mn:=[],fs:=["ground","rule_list","clue_list"],nw:=[],ck:=[],xk:=["NoFloor","NoPuzzle"],dc:=[] }
theorem qfN:FnScope qbh.N ["self","floor","lines","clues"] (defScope (sub 42 0)):=⟨rfl,rfl,rfl,by decide +kernel,rfl,by decide +kernel,by decide +kernel⟩
theorem qfE:qah qbh (defScope (sub 42 0)) qbf (defBody (sub 42 0))=true:=by decide +kernel
def qb6:Tb:={ N:=["_law_floor_here","_law_lines","_law_clues","_law_caught","error"],fn:=[("_law_named",1)],gc:=[],mn:=[],fs:=[],nw:=[("Puzzle",3)],ck:=[("ClueError",true)],xk:=[],dc:=[] }
theorem qhJ:FnScope qb6.N ["_law_floor_here","_law_lines","_law_clues"] (defScope (top 55)):=⟨rfl,rfl,rfl,by decide +kernel,rfl,by decide +kernel,by decide +kernel⟩
theorem qhD:qah qb6 (defScope (top 55)) qbl (defBody (top 55))=true:=by decide +kernel
def qcr:Tb:={ N:=["self"],fn:=[],gc:=[],mn:=[],fs:=[],nw:=[],ck:=[],xk:=[],dc:=[] }
theorem qi0:FnScope qcr.N ["self"] (defScope (sub 24 0)):=⟨rfl,rfl,rfl,by decide +kernel,rfl,by decide +kernel,by decide +kernel⟩
theorem qiw:qah qcr (defScope (sub 24 0)) qbF (defBody (sub 24 0))=true:=by decide +kernel
def qda:Tb:={ N:=["self"],fn:=[],gc:=[],mn:=[],fs:=[],nw:=[],ck:=[],xk:=[],dc:=[] }
theorem qjD:FnScope qda.N ["self"] (defScope (sub 25 0)):=⟨rfl,rfl,rfl,by decide +kernel,rfl,by decide +kernel,by decide +kernel⟩
theorem qkb:qah qda (defScope (sub 25 0)) qcb (defBody (sub 25 0))=true:=by decide +kernel
def qcz:Tb:={ N:=["self"],fn:=[],gc:=[],mn:=[],fs:=[],nw:=[],ck:=[],xk:=[],dc:=[] }
theorem qio:FnScope qcz.N ["self"] (defScope (sub 26 0)):=⟨rfl,rfl,rfl,by decide +kernel,rfl,by decide +kernel,by decide +kernel⟩
theorem qiI:qah qcz (defScope (sub 26 0)) qbO (defBody (sub 26 0))=true:=by decide +kernel
def qdL:Tb:={ N:=["self"],fn:=[],gc:=[],mn:=[],fs:=[],nw:=[],ck:=[],xk:=[],dc:=[] }
theorem qk0:FnScope qdL.N ["self"] (defScope (sub 27 0)):=⟨rfl,rfl,rfl,by decide +kernel,rfl,by decide +kernel,by decide +kernel⟩
theorem qls:qah qdL (defScope (sub 27 0)) qcG (defBody (sub 27 0))=true:=by decide +kernel
def qb9:Tb:={ N:=["self"],fn:=[],gc:=[],mn:=[],fs:=[],nw:=[],ck:=[],xk:=[],dc:=[] }
theorem qhG:FnScope qb9.N ["self"] (defScope (sub 28 0)):=⟨rfl,rfl,rfl,by decide +kernel,rfl,by decide +kernel,by decide +kernel⟩
theorem qhO:qah qb9 (defScope (sub 28 0)) qbm (defBody (sub 28 0))=true:=by decide +kernel
def qcy:Tb:={ N:=["self"],fn:=[],gc:=[],mn:=[],fs:=[],nw:=[],ck:=[],xk:=[],dc:=[] }
theorem qiS:FnScope qcy.N ["self"] (defScope (sub 29 0)):=⟨rfl,rfl,rfl,by decide +kernel,rfl,by decide +kernel,by decide +kernel⟩
theorem qij:qah qcy (defScope (sub 29 0)) qbK (defBody (sub 29 0))=true:=by decide +kernel
def qbM:Tb:={ N:=["self"],fn:=[],gc:=[],mn:=[],fs:=[],nw:=[],ck:=[],xk:=[],dc:=[] }
theorem qgI:FnScope qbM.N ["self"] (defScope (sub 30 0)):=⟨rfl,rfl,rfl,by decide +kernel,rfl,by decide +kernel,by decide +kernel⟩
theorem qg4:qah qbM (defScope (sub 30 0)) qa9 (defBody (sub 30 0))=true:=by decide +kernel
def qdF:Tb:={ N:=["self"],fn:=[],gc:=[],mn:=[],fs:=[],nw:=[],ck:=[],xk:=[],dc:=[] }
theorem qk5:FnScope qdF.N ["self"] (defScope (sub 31 0)):=⟨rfl,rfl,rfl,by decide +kernel,rfl,by decide +kernel,by decide +kernel⟩
theorem qkQ:qah qdF (defScope (sub 31 0)) qcI (defBody (sub 31 0))=true:=by decide +kernel
def qaH:Tb:={ N:=["self"],fn:=[],gc:=[],mn:=[],fs:=["cells"],nw:=[],ck:=[],xk:=[],dc:=[] }
theorem qcQ:FnScope qaH.N ["self"] (defScope (sub 23 8)):=⟨rfl,rfl,rfl,by decide +kernel,rfl,by decide +kernel,by decide +kernel⟩
theorem qcN:qah qaH (defScope (sub 23 8)) qan (defBody (sub 23 8))=true:=by decide +kernel
def qaQ:Tb:={ N:=["self"],fn:=[],gc:=[],mn:=[],fs:=["wanted","cells"],nw:=[],ck:=[],xk:=[],dc:=[] }
theorem qeK:FnScope qaQ.N ["self"] (defScope (sub 25 3)):=⟨rfl,rfl,rfl,by decide +kernel,rfl,by decide +kernel,by decide +kernel⟩
theorem qeG:qah qaQ (defScope (sub 25 3)) qaw (defBody (sub 25 3))=true:=by decide +kernel
def qaW:Tb:={ N:=["self"],fn:=[],gc:=[],mn:=[],fs:=["wanted","cells"],nw:=[],ck:=[],xk:=[],dc:=[] }
theorem qe0:FnScope qaW.N ["self"] (defScope (sub 27 3)):=⟨rfl,rfl,rfl,by decide +kernel,rfl,by decide +kernel,by decide +kernel⟩
theorem qfd:qah qaW (defScope (sub 27 3)) qaE (defBody (sub 27 3))=true:=by decide +kernel
def qaK:Tb:={ N:=["self"],fn:=[],gc:=[],mn:=[],fs:=["wanted","of_sign","cells"],nw:=[],ck:=[],xk:=[],dc:=[] }
theorem qd1:FnScope qaK.N ["self"] (defScope (sub 28 2)):=⟨rfl,rfl,rfl,by decide +kernel,rfl,by decide +kernel,by decide +kernel⟩
theorem qd4:qah qaK (defScope (sub 28 2)) qam (defBody (sub 28 2))=true:=by decide +kernel
def qaO:Tb:={ N:=["self"],fn:=[],gc:=[],mn:=[],fs:=["of_sign"],nw:=[],ck:=[],xk:=[],dc:=[] }
theorem qec:FnScope qaO.N ["self"] (defScope (sub 29 2)):=⟨rfl,rfl,rfl,by decide +kernel,rfl,by decide +kernel,by decide +kernel⟩
theorem qej:qah qaO (defScope (sub 29 2)) qar (defBody (sub 29 2))=true:=by decide +kernel
def qax:Tb:={ N:=["self"],fn:=[],gc:=[],mn:=[],fs:=["of_sign"],nw:=[],ck:=[],xk:=[],dc:=[] }
theorem qdB:FnScope qax.N ["self"] (defScope (sub 30 2)):=⟨rfl,rfl,rfl,by decide +kernel,rfl,by decide +kernel,by decide +kernel⟩
theorem qdx:qah qax (defScope (sub 30 2)) qaj (defBody (sub 30 2))=true:=by decide +kernel
def qaV:Tb:={ N:=["self"],fn:=[],gc:=[],mn:=[],fs:=["of_sign"],nw:=[],ck:=[],xk:=[],dc:=[] }
theorem qe6:FnScope qaV.N ["self"] (defScope (sub 31 2)):=⟨rfl,rfl,rfl,by decide +kernel,rfl,by decide +kernel,by decide +kernel⟩
theorem qe4:qah qaV (defScope (sub 31 2)) qaD (defBody (sub 31 2))=true:=by decide +kernel
def qaF:Tb:={ N:=["self","number"],fn:=[],gc:=[],mn:=[("name",0),("told_numbers",0)],fs:=[],nw:=[],ck:=[],xk:=[],dc:=[] }
theorem qbe:FnScope qaF.N ["self"] (defScope (sub 23 7)):=⟨rfl,rfl,rfl,by decide +kernel,rfl,by decide +kernel,by decide +kernel⟩
theorem qa5:qah qaF (defScope (sub 23 7)) qav (defBody (sub 23 7))=true:=by decide +kernel
def qb5:Tb:={ N:=["self","rule"],fn:=[],gc:=[],mn:=[("line",0)],fs:=["rule_list"],nw:=[],ck:=[],xk:=[],dc:=[] }
theorem qhv:FnScope qb5.N ["self"] (defScope (sub 42 3)):=⟨rfl,rfl,rfl,by decide +kernel,rfl,by decide +kernel,by decide +kernel⟩
theorem qhW:qah qb5 (defScope (sub 42 3)) qbn (defBody (sub 42 3))=true:=by decide +kernel
def qbZ:Tb:={ N:=["self","clues"],fn:=[],gc:=[],mn:=[("lines",0)],fs:=["ground"],nw:=[("Puzzle",3)],ck:=[],xk:=[],dc:=[] }
theorem qhx:FnScope qbZ.N ["self","clues"] (defScope (sub 42 10)):=⟨rfl,rfl,rfl,by decide +kernel,rfl,by decide +kernel,by decide +kernel⟩
theorem qhs:qah qbZ (defScope (sub 42 10)) qbp (defBody (sub 42 10))=true:=by decide +kernel
def qdc:Tb:={ N:=["_law_puzzle","_law_clues","_law_caught","error"],fn:=[("_law_named",1)],gc:=[],mn:=[("clued",1)],fs:=[],nw:=[],ck:=[("ClueError",true)],xk:=[],dc:=[] }
theorem qjf:FnScope qdc.N ["_law_puzzle","_law_clues"] (defScope (top 57)):=⟨rfl,rfl,rfl,by decide +kernel,rfl,by decide +kernel,by decide +kernel⟩
theorem qi4:qah qdc (defScope (top 57)) qci (defBody (top 57))=true:=by decide +kernel
def qbX:Tb:={ N:=["self"],fn:=[],gc:=[],mn:=[],fs:=["clue_list"],nw:=[],ck:=[],xk:=[],dc:=[] }
theorem qhF:FnScope qbX.N ["self"] (defScope (sub 42 4)):=⟨rfl,rfl,rfl,by decide +kernel,rfl,by decide +kernel,by decide +kernel⟩
theorem qht:qah qbX (defScope (sub 42 4)) qbq (defBody (sub 42 4))=true:=by decide +kernel
def qpW:Tb:={ N:=["_law_script","_law_floor_here","_law_filling_here","_law_lines","_law_k","_law_clues","_law_sign","_law_faults","_law_ground","_law_rows","_law_signs","_law_due","_law_at_here","_law_puzzle"],fn:=[("_law_floor",1),("_law_filling",3),("_law_at",2),("_law_line",3),("_law_bad_clues",3),("_law_bad_line",2),("_law_bad_floor",2),("_law_refused",3),("_law_clued",2)],gc:=[],mn:=[("lines",0),("clues",0)],fs:=[],nw:=[("Puzzle",3)],ck:=[],xk:=[],dc:=[] }
theorem qu5:FnScope qpW.N ["_law_script"] (defScope (top 58)):=⟨rfl,rfl,rfl,by decide +kernel,rfl,by decide +kernel,by decide +kernel⟩
theorem quy:qah qpW (defScope (top 58)) qoA (defBody (top 58))=true:=by decide +kernel
section
variable {P:Program} {w:World} {K:PySem.W.Frag} {h:Heap} {mg:Str→Option Value} {base:Heap}
section
variable (c:He.SaysD fa fn K) (cx:qsP xa K=true) (ct:qvF ts w K) (X:K.In h) (N:h.Ns mainGlobals mg)
include c cx ct X N
theorem qne:TabOk P w K mg base qfg qfx (GK K) 0:=
 qdf (mts:=[]) (fds:=[]) c X N trivial trivial rfl trivial rfl trivial trivial trivial trivial trivial
theorem qhl:DefAt P w K mg base (GK K) 1 "_law_at" 2 g__law_at:=
 qhq (G:=GK K) (T:=qfg) (Γ:=qfx) (k:=0) (m:=1) (i:=0) (j:=21) (ir:=qet) (ps:=["_law_script","_law_k"]) (d:=qjl) c X N rfl rfl rfl rfl rfl rfl qnk rfl qoa (fun _ _ _ _ _ _ us hl=>match us,hl with | [_,_],_=>rfl) (qne c cx ct X N)
theorem qjC:TabOk P w K mg base qc7 qc8 (GK K) 1:=
 qdf (mts:=[]) (fds:=[]) c X N ⟨(qhl c cx ct X N).mono (by decide),trivial⟩ trivial rfl trivial rfl trivial trivial trivial trivial trivial
theorem qkl:DefAt P w K mg base (GK K) 2 "_law_floor" 1 g__law_floor:=
 qhq (G:=GK K) (T:=qc7) (Γ:=qc8) (k:=1) (m:=2) (i:=1) (j:=22) (ir:=qcg) (ps:=["_law_script"]) (d:=qge) c X N rfl rfl rfl rfl rfl rfl qjT rfl qkq (fun _ _ _ _ _ _ us hl=>match us,hl with | [_],_=>rfl) (qjC c cx ct X N)
theorem qhI:TabOk P w K mg base qb1 qb3 (GK K) 1:=
 qdf (mts:=[]) (fds:=[]) c X N ⟨(qhl c cx ct X N).mono (by decide),trivial⟩ trivial rfl trivial rfl trivial trivial trivial trivial trivial
theorem qhP:DefAt P w K mg base (GK K) 2 "_law_filling" 3 g__law_filling:=
 qhq (G:=GK K) (T:=qb1) (Γ:=qb3) (k:=1) (m:=1) (i:=2) (j:=23) (ir:=qbo) (ps:=["_law_script","_law_floor_here","_law_at_here"]) (d:=qeQ) c X N rfl rfl rfl rfl rfl rfl qhr rfl qhQ (fun _ _ _ _ _ _ us hl=>match us,hl with | [_,_,_],_=>rfl) (qhI c cx ct X N)
theorem qiC:TabOk P w K mg base qcs qcx (GK K) 0:=
 qdf (mts:=[]) (fds:=[]) c X N trivial trivial rfl trivial rfl trivial trivial trivial trivial trivial
theorem qis:DefAt P w K mg base (GK K) 1 "_law_stream" 2 g__law_stream:=
 qhq (G:=GK K) (T:=qcs) (Γ:=qcx) (k:=0) (m:=3) (i:=3) (j:=24) (ir:=qbI) (ps:=["_law_cell","_law_many"]) (d:=qfl) c X N rfl rfl rfl rfl rfl rfl qiN rfl qiy (fun _ _ _ _ _ _ us hl=>match us,hl with | [_,_],_=>rfl) (qiC c cx ct X N)
theorem qj0:TabOk P w K mg base qc6 qdb (GK K) 0:=
 qdf (mts:=[]) (fds:=[]) c X N trivial trivial rfl trivial rfl trivial trivial trivial trivial trivial
theorem qi9:DefAt P w K mg base (GK K) 1 "_law_order" 2 g__law_order:=
 qhq (G:=GK K) (T:=qc6) (Γ:=qdb) (k:=0) (m:=3) (i:=4) (j:=25) (ir:=qcj) (ps:=["_law_xs","_law_many"]) (d:=qfY) c X N rfl rfl rfl rfl rfl rfl qjh rfl qjE (fun _ _ _ _ _ _ us hl=>match us,hl with | [_,_],_=>rfl) (qj0 c cx ct X N)
theorem qlx:TabOk P w K mg base qdN qdH (GK K) 0:=
 qdf (mts:=[]) (fds:=[]) c X N trivial trivial rfl trivial rfl trivial trivial trivial trivial trivial
theorem qlh:DefAt P w K mg base (GK K) 1 "_law_kept" 3 g__law_kept:=
 qhq (G:=GK K) (T:=qdN) (Γ:=qdH) (k:=0) (m:=4) (i:=5) (j:=26) (ir:=qcF) (ps:=["_law_order_here","_law_filling_here","_law_rising"]) (d:=qgC) c X N rfl rfl rfl rfl rfl rfl qkI rfl qkz (fun _ _ _ _ _ _ us hl=>match us,hl with | [_,_,_],_=>rfl) (qlx c cx ct X N)
theorem qky:TabOk P w K mg base qdE qdK (GK K) 0:=
 qdf (mts:=[]) (fds:=[]) c X N trivial trivial rfl trivial rfl trivial trivial trivial trivial trivial
theorem qlw:DefAt P w K mg base (GK K) 1 "_law_seen" 2 g__law_seen:=
 qhq (G:=GK K) (T:=qdE) (Γ:=qdK) (k:=0) (m:=3) (i:=6) (j:=27) (ir:=qcE) (ps:=["_law_filling_here","_law_cells"]) (d:=qhc) c X N rfl rfl rfl rfl rfl rfl qld rfl qlb (fun _ _ _ _ _ _ us hl=>match us,hl with | [_,_],_=>rfl) (qky c cx ct X N)
theorem qkK:TabOk P w K mg base qdO qdQ (GK K) 1:=
 qdf (mts:=[]) (fds:=[]) c X N ⟨(qis c cx ct X N).mono (by decide),(qi9 c cx ct X N).mono (by decide),(qlh c cx ct X N).mono (by decide),(qlw c cx ct X N).mono (by decide),trivial⟩ trivial rfl trivial rfl trivial trivial trivial trivial trivial
theorem qkR:DefAt P w K mg base (GK K) 2 "_law_line" 3 g__law_line:=
 qhq (G:=GK K) (T:=qdO) (Γ:=qdQ) (k:=1) (m:=9) (i:=7) (j:=28) (ir:=qcC) (ps:=["_law_floor_here","_law_filling_here","_law_cell"]) (d:=qgG) c X N rfl rfl rfl rfl rfl rfl qkU rfl qkC (fun _ _ _ _ _ _ us hl=>match us,hl with | [_,_,_],_=>rfl) (qkK c cx ct X N)
theorem qgi:TabOk P w K mg base qby qbw (GK K) 0:=
 qdf (mts:=[]) (fds:=[]) c X N trivial trivial rfl trivial rfl trivial trivial trivial trivial trivial
theorem qgp:DefAt P w K mg base (GK K) 1 "_law_bad_clues" 3 g__law_bad_clues:=
 qhq (G:=GK K) (T:=qby) (Γ:=qbw) (k:=0) (m:=1) (i:=8) (j:=29) (ir:=qa1) (ps:=["_law_floor_here","_law_clues","_law_cell"]) (d:=qdY) c X N rfl rfl rfl rfl rfl rfl qgg rfl qgh (fun _ _ _ _ _ _ us hl=>match us,hl with | [_,_,_],_=>rfl) (qgi c cx ct X N)
theorem qg0:TabOk P w K mg base qbG qbH (GK K) 0:=
 qdf (mts:=[]) (fds:=[]) c X N trivial trivial rfl trivial rfl trivial trivial trivial trivial trivial
theorem qgX:DefAt P w K mg base (GK K) 1 "_law_bad_line" 2 g__law_bad_line:=
 qhq (G:=GK K) (T:=qbG) (Γ:=qbH) (k:=0) (m:=2) (i:=9) (j:=30) (ir:=qbc) (ps:=["_law_floor_here","_law_cell"]) (d:=qeq) c X N rfl rfl rfl rfl rfl rfl qgQ rfl qgz (fun _ _ _ _ _ _ us hl=>match us,hl with | [_,_],_=>rfl) (qg0 c cx ct X N)
theorem qgk:TabOk P w K mg base qbv qbr (GK K) 0:=
 qdf (mts:=[]) (fds:=[]) c X N trivial trivial rfl trivial rfl trivial trivial trivial trivial trivial
theorem qgs:DefAt P w K mg base (GK K) 1 "_law_bad_floor" 2 g__law_bad_floor:=
 qhq (G:=GK K) (T:=qbv) (Γ:=qbr) (k:=0) (m:=1) (i:=10) (j:=31) (ir:=qa0) (ps:=["_law_floor_here","_law_cell"]) (d:=qdV) c X N rfl rfl rfl rfl rfl rfl qgm rfl qgq (fun _ _ _ _ _ _ us hl=>match us,hl with | [_,_],_=>rfl) (qgk c cx ct X N)
theorem qkh:TabOk P w K mg base qcY qdd (GK K) 0:=
 qdf (mts:=[]) (fds:=[]) c X N trivial trivial rfl trivial rfl trivial trivial ⟨qdr (j:=32) c X N rfl (qae (j:=2) cx rfl rfl (qae (j:=1) cx rfl rfl (qae (j:=0) cx rfl rfl qc5))) (qaa (j:=11) cx rfl rfl (qaa (j:=10) cx rfl rfl (qaa (j:=9) cx rfl rfl (qaa (j:=8) cx rfl rfl (qaa (j:=7) cx rfl rfl (qaa (j:=6) cx rfl rfl (qaa (j:=5) cx rfl rfl (qaa (j:=4) cx rfl rfl (qaa (j:=3) cx rfl rfl qcX))))))))),qdr (j:=33) c X N rfl (qae (j:=14) cx rfl rfl (qae (j:=13) cx rfl rfl (qae (j:=12) cx rfl rfl qc5))) (qaa (j:=23) cx rfl rfl (qaa (j:=22) cx rfl rfl (qaa (j:=21) cx rfl rfl (qaa (j:=20) cx rfl rfl (qaa (j:=19) cx rfl rfl (qaa (j:=18) cx rfl rfl (qaa (j:=17) cx rfl rfl (qaa (j:=16) cx rfl rfl (qaa (j:=15) cx rfl rfl qcX))))))))),qdr (j:=34) c X N rfl (qae (j:=26) cx rfl rfl (qae (j:=25) cx rfl rfl (qae (j:=24) cx rfl rfl qc5))) (qaa (j:=35) cx rfl rfl (qaa (j:=34) cx rfl rfl (qaa (j:=33) cx rfl rfl (qaa (j:=32) cx rfl rfl (qaa (j:=31) cx rfl rfl (qaa (j:=30) cx rfl rfl (qaa (j:=29) cx rfl rfl (qaa (j:=28) cx rfl rfl (qaa (j:=27) cx rfl rfl qcX))))))))),qdr (j:=35) c X N rfl (qae (j:=38) cx rfl rfl (qae (j:=37) cx rfl rfl (qae (j:=36) cx rfl rfl qc5))) (qaa (j:=47) cx rfl rfl (qaa (j:=46) cx rfl rfl (qaa (j:=45) cx rfl rfl (qaa (j:=44) cx rfl rfl (qaa (j:=43) cx rfl rfl (qaa (j:=42) cx rfl rfl (qaa (j:=41) cx rfl rfl (qaa (j:=40) cx rfl rfl (qaa (j:=39) cx rfl rfl qcX))))))))),qdr (j:=36) c X N rfl (qae (j:=50) cx rfl rfl (qae (j:=49) cx rfl rfl (qae (j:=48) cx rfl rfl qc5))) (qaa (j:=59) cx rfl rfl (qaa (j:=58) cx rfl rfl (qaa (j:=57) cx rfl rfl (qaa (j:=56) cx rfl rfl (qaa (j:=55) cx rfl rfl (qaa (j:=54) cx rfl rfl (qaa (j:=53) cx rfl rfl (qaa (j:=52) cx rfl rfl (qaa (j:=51) cx rfl rfl qcX))))))))),qdr (j:=37) c X N rfl (qae (j:=62) cx rfl rfl (qae (j:=61) cx rfl rfl (qae (j:=60) cx rfl rfl qc5))) (qaa (j:=71) cx rfl rfl (qaa (j:=70) cx rfl rfl (qaa (j:=69) cx rfl rfl (qaa (j:=68) cx rfl rfl (qaa (j:=67) cx rfl rfl (qaa (j:=66) cx rfl rfl (qaa (j:=65) cx rfl rfl (qaa (j:=64) cx rfl rfl (qaa (j:=63) cx rfl rfl qcX))))))))),qdr (j:=38) c X N rfl (qae (j:=74) cx rfl rfl (qae (j:=73) cx rfl rfl (qae (j:=72) cx rfl rfl qc5))) (qaa (j:=83) cx rfl rfl (qaa (j:=82) cx rfl rfl (qaa (j:=81) cx rfl rfl (qaa (j:=80) cx rfl rfl (qaa (j:=79) cx rfl rfl (qaa (j:=78) cx rfl rfl (qaa (j:=77) cx rfl rfl (qaa (j:=76) cx rfl rfl (qaa (j:=75) cx rfl rfl qcX))))))))),qdr (j:=39) c X N rfl (qae (j:=86) cx rfl rfl (qae (j:=85) cx rfl rfl (qae (j:=84) cx rfl rfl qc5))) (qaa (j:=95) cx rfl rfl (qaa (j:=94) cx rfl rfl (qaa (j:=93) cx rfl rfl (qaa (j:=92) cx rfl rfl (qaa (j:=91) cx rfl rfl (qaa (j:=90) cx rfl rfl (qaa (j:=89) cx rfl rfl (qaa (j:=88) cx rfl rfl (qaa (j:=87) cx rfl rfl qcX))))))))),qvl (qae (j:=98) cx rfl rfl (qae (j:=97) cx rfl rfl (qae (j:=96) cx rfl rfl qc5))) qcX,qdr (j:=40) c X N rfl (qae (j:=101) cx rfl rfl (qae (j:=100) cx rfl rfl (qae (j:=99) cx rfl rfl qc5))) (qaa (j:=110) cx rfl rfl (qaa (j:=109) cx rfl rfl (qaa (j:=108) cx rfl rfl (qaa (j:=107) cx rfl rfl (qaa (j:=106) cx rfl rfl (qaa (j:=105) cx rfl rfl (qaa (j:=104) cx rfl rfl (qaa (j:=103) cx rfl rfl (qaa (j:=102) cx rfl rfl qcX))))))))),qdr (j:=41) c X N rfl (qae (j:=113) cx rfl rfl (qae (j:=112) cx rfl rfl (qae (j:=111) cx rfl rfl qc5))) (qaa (j:=122) cx rfl rfl (qaa (j:=121) cx rfl rfl (qaa (j:=120) cx rfl rfl (qaa (j:=119) cx rfl rfl (qaa (j:=118) cx rfl rfl (qaa (j:=117) cx rfl rfl (qaa (j:=116) cx rfl rfl (qaa (j:=115) cx rfl rfl (qaa (j:=114) cx rfl rfl qcX))))))))),qdr (j:=42) c X N rfl (qae (j:=125) cx rfl rfl (qae (j:=124) cx rfl rfl (qae (j:=123) cx rfl rfl qc5))) (qaa (j:=134) cx rfl rfl (qaa (j:=133) cx rfl rfl (qaa (j:=132) cx rfl rfl (qaa (j:=131) cx rfl rfl (qaa (j:=130) cx rfl rfl (qaa (j:=129) cx rfl rfl (qaa (j:=128) cx rfl rfl (qaa (j:=127) cx rfl rfl (qaa (j:=126) cx rfl rfl qcX))))))))),trivial⟩ trivial trivial
theorem qf7:DefAt P w K mg base (GK K) 1 "_law_named" 1 g__law_named:=
 qhq (G:=GK K) (T:=qcY) (Γ:=qdd) (k:=0) (m:=1) (i:=11) (j:=43) (ir:=qca) (ps:=["_law_caught"]) (d:=qfW) c X N rfl rfl rfl rfl rfl rfl qjd rfl qjg (fun _ _ _ _ _ _ us hl=>match us,hl with | [_],_=>rfl) (qkh c cx ct X N)
theorem qmM:TabOk P w K mg base qeC qeA (GK K) 0:=
 qdf (mts:=[]) (fds:=[]) c X N trivial ⟨qi5 (j:=45) c X N rfl,qi5 (j:=46) c X N rfl,qi5 (j:=47) c X N rfl,trivial⟩ rfl trivial rfl trivial trivial trivial ⟨rs1 (j:=40) (j2:=44) c X N rfl rfl rfl,trivial⟩ trivial
theorem qmJ:DefAt P w K mg base (GK K) 1 "floor_of" 3 g_floor_of:=
 qhq (G:=GK K) (T:=qeC) (Γ:=qeA) (k:=0) (m:=0) (i:=12) (j:=48) (ir:=qdp) (ps:=["high","wide","signs"]) (d:=qhY) c X N rfl rfl rfl rfl rfl rfl qmQ rfl qmG (fun _ _ _ _ _ _ us hl=>match us,hl with | [_,_,_],_=>rfl) (qmM c cx ct X N)
theorem qkL:TabOk P w K mg base qdy qdT (GK K) 0:=
 qdf (mts:=[]) (fds:=[]) c X N trivial ⟨qi5 (j:=50) c X N rfl,qt9 (j:=51) c X N rfl,trivial⟩ rfl trivial rfl trivial trivial trivial ⟨rs1 (j:=41) (j2:=49) c X N rfl rfl rfl,trivial⟩ trivial
theorem qkS:DefAt P w K mg base (GK K) 1 "number_of" 1 g_number_of:=
 qhq (G:=GK K) (T:=qdy) (Γ:=qdT) (k:=0) (m:=1) (i:=13) (j:=52) (ir:=qcH) (ps:=["word"]) (d:=qgK) c X N rfl rfl rfl rfl rfl rfl qkT rfl qll (fun _ _ _ _ _ _ us hl=>match us,hl with | [_],_=>rfl) (qkL c cx ct X N)
theorem qkZ:TabOk P w K mg base qdv qdJ (GK K) 0:=
 qdf (mts:=[]) (fds:=[]) c X N trivial trivial rfl trivial rfl trivial trivial trivial ⟨rs1 (j:=41) (j2:=49) c X N rfl rfl rfl,trivial⟩ trivial
theorem qhd:DefAt P w K mg base (GK K) 1 "sign_told" 3 g_sign_told:=
 qhq (G:=GK K) (T:=qdv) (Γ:=qdJ) (k:=0) (m:=0) (i:=14) (j:=53) (ir:=qcO) (ps:=["floor","numbers","at"]) (d:=qhk) c X N rfl rfl rfl rfl rfl rfl qlr rfl qlA (fun _ _ _ _ _ _ us hl=>match us,hl with | [_,_,_],_=>rfl) (qkZ c cx ct X N)
theorem qj8:TabOk P w K mg base qc3 qcU (GK K) 0:=
 qdf (mts:=[]) (fds:=[]) c X N trivial trivial rfl trivial rfl trivial trivial trivial trivial trivial
theorem qep:DefAt P w K mg base (GK K) 1 "many_cells" 1 g_many_cells:=
 qhq (G:=GK K) (T:=qc3) (Γ:=qcU) (k:=0) (m:=0) (i:=15) (j:=54) (ir:=qcc) (ps:=["floor"]) (d:=qf0) c X N rfl rfl rfl rfl rfl rfl qjx rfl qjt (fun _ _ _ _ _ _ us hl=>match us,hl with | [_],_=>rfl) (qj8 c cx ct X N)
theorem qap:TabOk P w K mg base qag qac (GK K) 0:=
 qdf (mts:=[]) (fds:=[(0,0,0),(1,0,0),(2,0,0),(3,0,0),(4,0,0),(5,0,0),(6,0,0),(7,0,0),(25,0,0),(0,1,1),(1,1,1),(2,1,1),(3,1,1),(4,1,1),(5,1,1),(6,1,1),(7,1,1),(0,2,2),(1,2,2),(2,2,2),(3,2,2),(4,2,2),(5,2,2),(6,2,2),(7,2,2),(0,3,3),(1,3,3),(2,3,3),(3,3,3),(4,3,3),(5,3,3),(6,3,3),(7,3,3)]) c X N trivial trivial rfl trivial rfl ⟨fun x e=>by cases e;exact fd1 (j:=55) (j2:=56) c rfl rfl rfl rfl (show(FL 0).Nodup by decide),fun x e=>by cases e;exact fd1 (j:=57) (j2:=58) c rfl rfl rfl rfl (show(FL 1).Nodup by decide),fun x e=>by cases e;exact fd1 (j:=59) (j2:=60) c rfl rfl rfl rfl (show(FL 2).Nodup by decide),fun x e=>by cases e;exact fd1 (j:=61) (j2:=62) c rfl rfl rfl rfl (show(FL 3).Nodup by decide),fun x e=>by cases e;exact fd1 (j:=63) (j2:=64) c rfl rfl rfl rfl (show(FL 4).Nodup by decide),fun x e=>by cases e;exact fd1 (j:=65) (j2:=66) c rfl rfl rfl rfl (show(FL 5).Nodup by decide),fun x e=>by cases e;exact fd1 (j:=67) (j2:=68) c rfl rfl rfl rfl (show(FL 6).Nodup by decide),fun x e=>by cases e;exact fd1 (j:=69) (j2:=70) c rfl rfl rfl rfl (show(FL 7).Nodup by decide),fun x e=>by cases e;exact fd1 (j:=71) (j2:=72) c rfl rfl rfl rfl (show(FL 25).Nodup by decide),fun x e=>by cases e;exact fd1 (j:=55) (j2:=73) c rfl rfl rfl rfl (show(FL 0).Nodup by decide),fun x e=>by cases e;exact fd1 (j:=57) (j2:=74) c rfl rfl rfl rfl (show(FL 1).Nodup by decide),fun x e=>by cases e;exact fd1 (j:=59) (j2:=75) c rfl rfl rfl rfl (show(FL 2).Nodup by decide),fun x e=>by cases e;exact fd1 (j:=61) (j2:=76) c rfl rfl rfl rfl (show(FL 3).Nodup by decide),fun x e=>by cases e;exact fd1 (j:=63) (j2:=77) c rfl rfl rfl rfl (show(FL 4).Nodup by decide),fun x e=>by cases e;exact fd1 (j:=65) (j2:=78) c rfl rfl rfl rfl (show(FL 5).Nodup by decide),fun x e=>by cases e;exact fd1 (j:=67) (j2:=79) c rfl rfl rfl rfl (show(FL 6).Nodup by decide),fun x e=>by cases e;exact fd1 (j:=69) (j2:=80) c rfl rfl rfl rfl (show(FL 7).Nodup by decide),fun x e=>by cases e;exact fd1 (j:=55) (j2:=81) c rfl rfl rfl rfl (show(FL 0).Nodup by decide),fun x e=>by cases e;exact fd1 (j:=57) (j2:=82) c rfl rfl rfl rfl (show(FL 1).Nodup by decide),fun x e=>by cases e;exact fd1 (j:=59) (j2:=83) c rfl rfl rfl rfl (show(FL 2).Nodup by decide),fun x e=>by cases e;exact fd1 (j:=61) (j2:=84) c rfl rfl rfl rfl (show(FL 3).Nodup by decide),fun x e=>by cases e;exact fd1 (j:=63) (j2:=85) c rfl rfl rfl rfl (show(FL 4).Nodup by decide),fun x e=>by cases e;exact fd1 (j:=65) (j2:=86) c rfl rfl rfl rfl (show(FL 5).Nodup by decide),fun x e=>by cases e;exact fd1 (j:=67) (j2:=87) c rfl rfl rfl rfl (show(FL 6).Nodup by decide),fun x e=>by cases e;exact fd1 (j:=69) (j2:=88) c rfl rfl rfl rfl (show(FL 7).Nodup by decide),fun x e=>by cases e;exact fd1 (j:=55) (j2:=89) c rfl rfl rfl rfl (show(FL 0).Nodup by decide),fun x e=>by cases e;exact fd1 (j:=57) (j2:=90) c rfl rfl rfl rfl (show(FL 1).Nodup by decide),fun x e=>by cases e;exact fd1 (j:=59) (j2:=91) c rfl rfl rfl rfl (show(FL 2).Nodup by decide),fun x e=>by cases e;exact fd1 (j:=61) (j2:=92) c rfl rfl rfl rfl (show(FL 3).Nodup by decide),fun x e=>by cases e;exact fd1 (j:=63) (j2:=93) c rfl rfl rfl rfl (show(FL 4).Nodup by decide),fun x e=>by cases e;exact fd1 (j:=65) (j2:=94) c rfl rfl rfl rfl (show(FL 5).Nodup by decide),fun x e=>by cases e;exact fd1 (j:=67) (j2:=95) c rfl rfl rfl rfl (show(FL 6).Nodup by decide),fun x e=>by cases e;exact fd1 (j:=69) (j2:=96) c rfl rfl rfl rfl (show(FL 7).Nodup by decide),trivial⟩ trivial trivial trivial trivial
theorem qpk:NwAt P w K mg base (GK K) 2 "Unlike" 4 0 ini_Unlike:=
 qpJ (G:=GK K) (T:=qag) (Γ:=qac) (k:=0) (m:=0) (i:=50) (j:=97) (j2:=98) (ir:=qab) (ps:=["self","ground","cells","wanted","of_sign"]) (d:=qdk) (cn:=0) c X N rfl rfl rfl rfl rfl rfl rfl rfl rfl rfl qaq rfl qau (fun _ _ _ _ _ _ us hl=>match us,hl with | [_,_,_,_,_],_=>rfl) (qap c cx ct X N)
theorem qr6:NwAt P w K mg base (GK K) 2 "Total" 4 1 ini_Total:=
 qpJ (G:=GK K) (T:=qag) (Γ:=qac) (k:=0) (m:=0) (i:=51) (j:=99) (j2:=100) (ir:=qab) (ps:=["self","ground","cells","wanted","of_sign"]) (d:=qdX) (cn:=1) c X N rfl rfl rfl rfl rfl rfl rfl rfl rfl rfl qaq rfl qau (fun _ _ _ _ _ _ us hl=>match us,hl with | [_,_,_,_,_],_=>rfl) (qap c cx ct X N)
theorem qo2:NwAt P w K mg base (GK K) 2 "Rising" 4 2 ini_Rising:=
 qpJ (G:=GK K) (T:=qag) (Γ:=qac) (k:=0) (m:=0) (i:=52) (j:=101) (j2:=102) (ir:=qab) (ps:=["self","ground","cells","wanted","of_sign"]) (d:=qds) (cn:=2) c X N rfl rfl rfl rfl rfl rfl rfl rfl rfl rfl qaq rfl qau (fun _ _ _ _ _ _ us hl=>match us,hl with | [_,_,_,_,_],_=>rfl) (qap c cx ct X N)
theorem qs0:NwAt P w K mg base (GK K) 2 "Seen" 4 3 ini_Seen:=
 qpJ (G:=GK K) (T:=qag) (Γ:=qac) (k:=0) (m:=0) (i:=53) (j:=103) (j2:=104) (ir:=qab) (ps:=["self","ground","cells","wanted","of_sign"]) (d:=qem) (cn:=3) c X N rfl rfl rfl rfl rfl rfl rfl rfl rfl rfl qaq rfl qau (fun _ _ _ _ _ _ us hl=>match us,hl with | [_,_,_,_,_],_=>rfl) (qap c cx ct X N)
theorem qnJ:NwAt P w K mg base (GK K) 2 "Counted" 4 4 ini_Counted:=
 qpJ (G:=GK K) (T:=qag) (Γ:=qac) (k:=0) (m:=0) (i:=54) (j:=105) (j2:=106) (ir:=qab) (ps:=["self","ground","cells","wanted","of_sign"]) (d:=qdg) (cn:=4) c X N rfl rfl rfl rfl rfl rfl rfl rfl rfl rfl qaq rfl qau (fun _ _ _ _ _ _ us hl=>match us,hl with | [_,_,_,_,_],_=>rfl) (qap c cx ct X N)
theorem qo8:NwAt P w K mg base (GK K) 2 "Joined" 4 5 ini_Joined:=
 qpJ (G:=GK K) (T:=qag) (Γ:=qac) (k:=0) (m:=0) (i:=55) (j:=107) (j2:=108) (ir:=qab) (ps:=["self","ground","cells","wanted","of_sign"]) (d:=qdo) (cn:=5) c X N rfl rfl rfl rfl rfl rfl rfl rfl rfl rfl qaq rfl qau (fun _ _ _ _ _ _ us hl=>match us,hl with | [_,_,_,_,_],_=>rfl) (qap c cx ct X N)
theorem qmz:NwAt P w K mg base (GK K) 2 "NoSquare" 4 6 ini_NoSquare:=
 qpJ (G:=GK K) (T:=qag) (Γ:=qac) (k:=0) (m:=0) (i:=56) (j:=109) (j2:=110) (ir:=qab) (ps:=["self","ground","cells","wanted","of_sign"]) (d:=qcD) (cn:=6) c X N rfl rfl rfl rfl rfl rfl rfl rfl rfl rfl qaq rfl qau (fun _ _ _ _ _ _ us hl=>match us,hl with | [_,_,_,_,_],_=>rfl) (qap c cx ct X N)
theorem qtO:NwAt P w K mg base (GK K) 2 "Ring" 4 7 ini_Ring:=
 qpJ (G:=GK K) (T:=qag) (Γ:=qac) (k:=0) (m:=0) (i:=57) (j:=111) (j2:=112) (ir:=qab) (ps:=["self","ground","cells","wanted","of_sign"]) (d:=qea) (cn:=7) c X N rfl rfl rfl rfl rfl rfl rfl rfl rfl rfl qaq rfl qau (fun _ _ _ _ _ _ us hl=>match us,hl with | [_,_,_,_,_],_=>rfl) (qap c cx ct X N)
theorem qkc:TabOk P w K mg base qcZ qc2 (GK K) 2:=
 qdf (mts:=[]) (fds:=[]) c X N ⟨(qhd c cx ct X N).mono (by decide),(qep c cx ct X N).mono (by decide),trivial⟩ trivial rfl trivial rfl trivial ⟨(qo8 c cx ct X N).mono (by decide),(qmz c cx ct X N).mono (by decide),(qtO c cx ct X N).mono (by decide),trivial⟩ trivial ⟨rs1 (j:=41) (j2:=49) c X N rfl rfl rfl,trivial⟩ trivial
theorem qkk:DefAt P w K mg base (GK K) 3 "whole_rule" 3 g_whole_rule:=
 qhq (G:=GK K) (T:=qcZ) (Γ:=qc2) (k:=2) (m:=2) (i:=16) (j:=113) (ir:=qck) (ps:=["floor","word","numbers"]) (d:=qf2) c X N rfl rfl rfl rfl rfl rfl qj3 rfl qje (fun _ _ _ _ _ _ us hl=>match us,hl with | [_,_,_],_=>rfl) (qkc c cx ct X N)
theorem qjw:TabOk P w K mg base qc4 qc0 (GK K) 1:=
 qdf (mts:=[]) (fds:=[]) c X N ⟨(qep c cx ct X N).mono (by decide),trivial⟩ trivial rfl trivial rfl trivial trivial trivial ⟨rs1 (j:=41) (j2:=49) c X N rfl rfl rfl,trivial⟩ trivial
theorem qjI:DefAt P w K mg base (GK K) 2 "cells_told" 2 g_cells_told:=
 qhq (G:=GK K) (T:=qc4) (Γ:=qc0) (k:=1) (m:=0) (i:=17) (j:=114) (ir:=qcd) (ps:=["floor","numbers"]) (d:=qf5) c X N rfl rfl rfl rfl rfl rfl qjo rfl qju (fun _ _ _ _ _ _ us hl=>match us,hl with | [_,_],_=>rfl) (qjw c cx ct X N)
theorem qlz:TabOk P w K mg base qdu qdS (GK K) 3:=
 qdf (mts:=[]) (fds:=[]) c X N ⟨(qkS c cx ct X N).mono (by decide),(qkk c cx ct X N).mono (by decide),(qjI c cx ct X N).mono (by decide),(qhd c cx ct X N).mono (by decide),trivial⟩ trivial rfl trivial rfl trivial ⟨(qpk c cx ct X N).mono (by decide),(qo2 c cx ct X N).mono (by decide),(qnJ c cx ct X N).mono (by decide),(qr6 c cx ct X N).mono (by decide),(qs0 c cx ct X N).mono (by decide),trivial⟩ trivial ⟨rs1 (j:=41) (j2:=49) c X N rfl rfl rfl,trivial⟩ trivial
theorem qlj:DefAt P w K mg base (GK K) 4 "read_rule" 2 g_read_rule:=
 qhq (G:=GK K) (T:=qdu) (Γ:=qdS) (k:=3) (m:=6) (i:=18) (j:=115) (ir:=qcK) (ps:=["floor","line"]) (d:=qhb) c X N rfl rfl rfl rfl rfl rfl qk8 rfl qlB (fun _ _ _ _ _ _ us hl=>match us,hl with | [_,_],_=>rfl) (qlz c cx ct X N)
theorem qkd:TabOk P w K mg base qc9 qde (GK K) 1:=
 qdf (mts:=[]) (fds:=[]) c X N ⟨(qep c cx ct X N).mono (by decide),trivial⟩ trivial rfl trivial rfl trivial trivial trivial trivial trivial
theorem qjB:DefAt P w K mg base (GK K) 2 "is_filling" 2 g_is_filling:=
 qhq (G:=GK K) (T:=qc9) (Γ:=qde) (k:=1) (m:=1) (i:=19) (j:=116) (ir:=qcl) (ps:=["floor","filling"]) (d:=qgf) c X N rfl rfl rfl rfl rfl rfl qki rfl qji (fun _ _ _ _ _ _ us hl=>match us,hl with | [_,_],_=>rfl) (qkd c cx ct X N)
theorem qfH:TabOk P w K mg base qbh qbW (GK K) 4:=
 qdf (mts:=[]) (fds:=[(0,0,0),(1,0,0),(2,0,0),(3,0,0),(4,0,0),(5,0,0),(6,0,0),(7,0,0),(25,0,0),(25,1,1),(25,2,2)]) c X N ⟨(qmJ c cx ct X N).mono (by decide),(qlj c cx ct X N).mono (by decide),(qjB c cx ct X N).mono (by decide),trivial⟩ ⟨qi5 (j:=120) c X N rfl,trivial⟩ rfl trivial rfl ⟨fun x e=>by cases e;exact fd1 (j:=55) (j2:=56) c rfl rfl rfl rfl (show(FL 0).Nodup by decide),fun x e=>by cases e;exact fd1 (j:=57) (j2:=58) c rfl rfl rfl rfl (show(FL 1).Nodup by decide),fun x e=>by cases e;exact fd1 (j:=59) (j2:=60) c rfl rfl rfl rfl (show(FL 2).Nodup by decide),fun x e=>by cases e;exact fd1 (j:=61) (j2:=62) c rfl rfl rfl rfl (show(FL 3).Nodup by decide),fun x e=>by cases e;exact fd1 (j:=63) (j2:=64) c rfl rfl rfl rfl (show(FL 4).Nodup by decide),fun x e=>by cases e;exact fd1 (j:=65) (j2:=66) c rfl rfl rfl rfl (show(FL 5).Nodup by decide),fun x e=>by cases e;exact fd1 (j:=67) (j2:=68) c rfl rfl rfl rfl (show(FL 6).Nodup by decide),fun x e=>by cases e;exact fd1 (j:=69) (j2:=70) c rfl rfl rfl rfl (show(FL 7).Nodup by decide),fun x e=>by cases e;exact fd1 (j:=71) (j2:=72) c rfl rfl rfl rfl (show(FL 25).Nodup by decide),fun x e=>by cases e;exact fd1 (j:=71) (j2:=117) c rfl rfl rfl rfl (show(FL 25).Nodup by decide),fun x e=>by cases e;exact fd1 (j:=71) (j2:=118) c rfl rfl rfl rfl (show(FL 25).Nodup by decide),trivial⟩ trivial trivial ⟨rs1 (j:=40) (j2:=44) c X N rfl rfl rfl,rs1 (j:=42) (j2:=119) c X N rfl rfl rfl,trivial⟩ trivial
theorem qiz:NwAt P w K mg base (GK K) 6 "Puzzle" 3 25 ini_Puzzle:=
 qpJ (G:=GK K) (T:=qbh) (Γ:=qbW) (k:=4) (m:=1) (i:=58) (j:=121) (j2:=122) (ir:=qbf) (ps:=["self","floor","lines","clues"]) (d:=qdm) (cn:=25) c X N rfl rfl rfl rfl rfl rfl rfl rfl rfl rfl qfN rfl qfE (fun _ _ _ _ _ _ us hl=>match us,hl with | [_,_,_,_],_=>rfl) (qfH c cx ct X N)
theorem qhX:TabOk P w K mg base qb6 qb8 (GK K) 6:=
 qdf (mts:=[]) (fds:=[]) c X N ⟨(qf7 c cx ct X N).mono (by decide),trivial⟩ trivial rfl trivial rfl trivial ⟨(qiz c cx ct X N).mono (by decide),trivial⟩ ⟨qdr (j:=123) c X N rfl (qae (j:=137) cx rfl rfl (qae (j:=136) cx rfl rfl (qae (j:=135) cx rfl rfl qc5))) (qaa (j:=146) cx rfl rfl (qaa (j:=145) cx rfl rfl (qaa (j:=144) cx rfl rfl (qaa (j:=143) cx rfl rfl (qaa (j:=142) cx rfl rfl (qaa (j:=141) cx rfl rfl (qaa (j:=140) cx rfl rfl (qaa (j:=139) cx rfl rfl (qaa (j:=138) cx rfl rfl qcX))))))))),trivial⟩ trivial trivial
theorem qhE:DefAt P w K mg base (GK K) 7 "_law_refused" 3 g__law_refused:=
 qhq (G:=GK K) (T:=qb6) (Γ:=qb8) (k:=6) (m:=2) (i:=20) (j:=124) (ir:=qbl) (ps:=["_law_floor_here","_law_lines","_law_clues"]) (d:=qeR) c X N rfl rfl rfl rfl rfl rfl qhJ rfl qhD (fun _ _ _ _ _ _ us hl=>match us,hl with | [_,_,_],_=>rfl) (qhX c cx ct X N)
theorem qiD:TabOk P w K mg base qcr qcq (GK K) 0:=
 qdf (mts:=[]) (fds:=[]) c X N trivial trivial rfl trivial rfl trivial trivial trivial trivial trivial
theorem qiU:MthAt P w K mg base (GK K) 1 0 "name" 0 g_Unlike_name:=
 qfL (G:=GK K) (T:=qcr) (Γ:=qcq) (k:=0) (m:=0) (i:=23) (j:=125) (j2:=55) (ir:=qbF) (ps:=["self"]) (d:=qft) (cn:=0) c rfl rfl rfl rfl rfl rfl rfl rfl (show("name" : Str)∉FL 0 by decide) rfl qi0 rfl qiw (fun _ _ _ _ _ _ us hl=>match us,hl with | [_],_=>rfl) (qiD c cx ct X N)
theorem qjY:TabOk P w K mg base qda qcT (GK K) 0:=
 qdf (mts:=[]) (fds:=[]) c X N trivial trivial rfl trivial rfl trivial trivial trivial trivial trivial
theorem qjp:MthAt P w K mg base (GK K) 1 1 "name" 0 g_Total_name:=
 qfL (G:=GK K) (T:=qda) (Γ:=qcT) (k:=0) (m:=0) (i:=24) (j:=126) (j2:=57) (ir:=qcb) (ps:=["self"]) (d:=qf9) (cn:=1) c rfl rfl rfl rfl rfl rfl rfl rfl (show("name" : Str)∉FL 1 by decide) rfl qjD rfl qkb (fun _ _ _ _ _ _ us hl=>match us,hl with | [_],_=>rfl) (qjY c cx ct X N)
theorem qil:TabOk P w K mg base qcz qcu (GK K) 0:=
 qdf (mts:=[]) (fds:=[]) c X N trivial trivial rfl trivial rfl trivial trivial trivial trivial trivial
theorem qiA:MthAt P w K mg base (GK K) 1 2 "name" 0 g_Rising_name:=
 qfL (G:=GK K) (T:=qcz) (Γ:=qcu) (k:=0) (m:=0) (i:=25) (j:=127) (j2:=59) (ir:=qbO) (ps:=["self"]) (d:=qfk) (cn:=2) c rfl rfl rfl rfl rfl rfl rfl rfl (show("name" : Str)∉FL 2 by decide) rfl qio rfl qiI (fun _ _ _ _ _ _ us hl=>match us,hl with | [_],_=>rfl) (qil c cx ct X N)
theorem qlk:TabOk P w K mg base qdL qdD (GK K) 0:=
 qdf (mts:=[]) (fds:=[]) c X N trivial trivial rfl trivial rfl trivial trivial trivial trivial trivial
theorem qlo:MthAt P w K mg base (GK K) 1 3 "name" 0 g_Seen_name:=
 qfL (G:=GK K) (T:=qdL) (Γ:=qdD) (k:=0) (m:=0) (i:=26) (j:=128) (j2:=61) (ir:=qcG) (ps:=["self"]) (d:=qgT) (cn:=3) c rfl rfl rfl rfl rfl rfl rfl rfl (show("name" : Str)∉FL 3 by decide) rfl qk0 rfl qls (fun _ _ _ _ _ _ us hl=>match us,hl with | [_],_=>rfl) (qlk c cx ct X N)
theorem qhS:TabOk P w K mg base qb9 qbY (GK K) 0:=
 qdf (mts:=[]) (fds:=[]) c X N trivial trivial rfl trivial rfl trivial trivial trivial trivial trivial
theorem qhV:MthAt P w K mg base (GK K) 1 4 "name" 0 g_Counted_name:=
 qfL (G:=GK K) (T:=qb9) (Γ:=qbY) (k:=0) (m:=0) (i:=27) (j:=129) (j2:=63) (ir:=qbm) (ps:=["self"]) (d:=qeU) (cn:=4) c rfl rfl rfl rfl rfl rfl rfl rfl (show("name" : Str)∉FL 4 by decide) rfl qhG rfl qhO (fun _ _ _ _ _ _ us hl=>match us,hl with | [_],_=>rfl) (qhS c cx ct X N)
theorem qiu:TabOk P w K mg base qcy qct (GK K) 0:=
 qdf (mts:=[]) (fds:=[]) c X N trivial trivial rfl trivial rfl trivial trivial trivial trivial trivial
theorem qin:MthAt P w K mg base (GK K) 1 5 "name" 0 g_Joined_name:=
 qfL (G:=GK K) (T:=qcy) (Γ:=qct) (k:=0) (m:=0) (i:=28) (j:=130) (j2:=65) (ir:=qbK) (ps:=["self"]) (d:=qfy) (cn:=5) c rfl rfl rfl rfl rfl rfl rfl rfl (show("name" : Str)∉FL 5 by decide) rfl qiS rfl qij (fun _ _ _ _ _ _ us hl=>match us,hl with | [_],_=>rfl) (qiu c cx ct X N)
theorem qgR:TabOk P w K mg base qbM qbP (GK K) 0:=
 qdf (mts:=[]) (fds:=[]) c X N trivial trivial rfl trivial rfl trivial trivial trivial trivial trivial
theorem qgM:MthAt P w K mg base (GK K) 1 6 "name" 0 g_NoSquare_name:=
 qfL (G:=GK K) (T:=qbM) (Γ:=qbP) (k:=0) (m:=0) (i:=29) (j:=131) (j2:=67) (ir:=qa9) (ps:=["self"]) (d:=qee) (cn:=6) c rfl rfl rfl rfl rfl rfl rfl rfl (show("name" : Str)∉FL 6 by decide) rfl qgI rfl qg4 (fun _ _ _ _ _ _ us hl=>match us,hl with | [_],_=>rfl) (qgR c cx ct X N)
theorem qlu:TabOk P w K mg base qdF qdP (GK K) 0:=
 qdf (mts:=[]) (fds:=[]) c X N trivial trivial rfl trivial rfl trivial trivial trivial trivial trivial
theorem qln:MthAt P w K mg base (GK K) 1 7 "name" 0 g_Ring_name:=
 qfL (G:=GK K) (T:=qdF) (Γ:=qdP) (k:=0) (m:=0) (i:=30) (j:=132) (j2:=69) (ir:=qcI) (ps:=["self"]) (d:=qgL) (cn:=7) c rfl rfl rfl rfl rfl rfl rfl rfl (show("name" : Str)∉FL 7 by decide) rfl qk5 rfl qkQ (fun _ _ _ _ _ _ us hl=>match us,hl with | [_],_=>rfl) (qlu c cx ct X N)
theorem qcB:TabOk P w K mg base qaH qaI (GK K) 0:=
 qdf (mts:=[]) (fds:=[(0,0,1),(1,0,1),(2,0,1),(3,0,1),(4,0,1),(5,0,1),(6,0,1),(7,0,1)]) c X N trivial trivial rfl trivial rfl ⟨fun x e=>by cases e;exact fd1 (j:=55) (j2:=73) c rfl rfl rfl rfl (show(FL 0).Nodup by decide),fun x e=>by cases e;exact fd1 (j:=57) (j2:=74) c rfl rfl rfl rfl (show(FL 1).Nodup by decide),fun x e=>by cases e;exact fd1 (j:=59) (j2:=75) c rfl rfl rfl rfl (show(FL 2).Nodup by decide),fun x e=>by cases e;exact fd1 (j:=61) (j2:=76) c rfl rfl rfl rfl (show(FL 3).Nodup by decide),fun x e=>by cases e;exact fd1 (j:=63) (j2:=77) c rfl rfl rfl rfl (show(FL 4).Nodup by decide),fun x e=>by cases e;exact fd1 (j:=65) (j2:=78) c rfl rfl rfl rfl (show(FL 5).Nodup by decide),fun x e=>by cases e;exact fd1 (j:=67) (j2:=79) c rfl rfl rfl rfl (show(FL 6).Nodup by decide),fun x e=>by cases e;exact fd1 (j:=69) (j2:=80) c rfl rfl rfl rfl (show(FL 7).Nodup by decide),trivial⟩ trivial trivial trivial trivial
theorem qek:MthAt P w K mg base (GK K) 1 0 "told_numbers" 0 g_Rule_told_numbers:=
 qfL (G:=GK K) (T:=qaH) (Γ:=qaI) (k:=0) (m:=0) (i:=31) (j:=133) (j2:=55) (ir:=qan) (ps:=["self"]) (d:=qcf) (cn:=0) c rfl rfl rfl rfl rfl rfl rfl rfl (show("told_numbers" : Str)∉FL 0 by decide) rfl qcQ rfl qcN (fun _ _ _ _ _ _ us hl=>match us,hl with | [_],_=>rfl) (qcB c cx ct X N)
theorem qeg:MthAt P w K mg base (GK K) 1 2 "told_numbers" 0 g_Rule_told_numbers:=
 qfL (G:=GK K) (T:=qaH) (Γ:=qaI) (k:=0) (m:=0) (i:=33) (j:=134) (j2:=59) (ir:=qan) (ps:=["self"]) (d:=qch) (cn:=2) c rfl rfl rfl rfl rfl rfl rfl rfl (show("told_numbers" : Str)∉FL 2 by decide) rfl qcQ rfl qcN (fun _ _ _ _ _ _ us hl=>match us,hl with | [_],_=>rfl) (qcB c cx ct X N)
theorem qeH:TabOk P w K mg base qaQ qaP (GK K) 0:=
 qdf (mts:=[]) (fds:=[(0,0,2),(1,0,2),(2,0,2),(3,0,2),(4,0,2),(5,0,2),(6,0,2),(7,0,2),(0,1,1),(1,1,1),(2,1,1),(3,1,1),(4,1,1),(5,1,1),(6,1,1),(7,1,1)]) c X N trivial trivial rfl trivial rfl ⟨fun x e=>by cases e;exact fd1 (j:=55) (j2:=81) c rfl rfl rfl rfl (show(FL 0).Nodup by decide),fun x e=>by cases e;exact fd1 (j:=57) (j2:=82) c rfl rfl rfl rfl (show(FL 1).Nodup by decide),fun x e=>by cases e;exact fd1 (j:=59) (j2:=83) c rfl rfl rfl rfl (show(FL 2).Nodup by decide),fun x e=>by cases e;exact fd1 (j:=61) (j2:=84) c rfl rfl rfl rfl (show(FL 3).Nodup by decide),fun x e=>by cases e;exact fd1 (j:=63) (j2:=85) c rfl rfl rfl rfl (show(FL 4).Nodup by decide),fun x e=>by cases e;exact fd1 (j:=65) (j2:=86) c rfl rfl rfl rfl (show(FL 5).Nodup by decide),fun x e=>by cases e;exact fd1 (j:=67) (j2:=87) c rfl rfl rfl rfl (show(FL 6).Nodup by decide),fun x e=>by cases e;exact fd1 (j:=69) (j2:=88) c rfl rfl rfl rfl (show(FL 7).Nodup by decide),fun x e=>by cases e;exact fd1 (j:=55) (j2:=73) c rfl rfl rfl rfl (show(FL 0).Nodup by decide),fun x e=>by cases e;exact fd1 (j:=57) (j2:=74) c rfl rfl rfl rfl (show(FL 1).Nodup by decide),fun x e=>by cases e;exact fd1 (j:=59) (j2:=75) c rfl rfl rfl rfl (show(FL 2).Nodup by decide),fun x e=>by cases e;exact fd1 (j:=61) (j2:=76) c rfl rfl rfl rfl (show(FL 3).Nodup by decide),fun x e=>by cases e;exact fd1 (j:=63) (j2:=77) c rfl rfl rfl rfl (show(FL 4).Nodup by decide),fun x e=>by cases e;exact fd1 (j:=65) (j2:=78) c rfl rfl rfl rfl (show(FL 5).Nodup by decide),fun x e=>by cases e;exact fd1 (j:=67) (j2:=79) c rfl rfl rfl rfl (show(FL 6).Nodup by decide),fun x e=>by cases e;exact fd1 (j:=69) (j2:=80) c rfl rfl rfl rfl (show(FL 7).Nodup by decide),trivial⟩ trivial trivial trivial trivial
theorem qeL:MthAt P w K mg base (GK K) 1 1 "told_numbers" 0 g_Total_told_numbers:=
 qfL (G:=GK K) (T:=qaQ) (Γ:=qaP) (k:=0) (m:=0) (i:=32) (j:=135) (j2:=57) (ir:=qaw) (ps:=["self"]) (d:=qco) (cn:=1) c rfl rfl rfl rfl rfl rfl rfl rfl (show("told_numbers" : Str)∉FL 1 by decide) rfl qeK rfl qeG (fun _ _ _ _ _ _ us hl=>match us,hl with | [_],_=>rfl) (qeH c cx ct X N)
theorem qe1:TabOk P w K mg base qaW qaT (GK K) 0:=
 qdf (mts:=[]) (fds:=[(0,0,2),(1,0,2),(2,0,2),(3,0,2),(4,0,2),(5,0,2),(6,0,2),(7,0,2),(0,1,1),(1,1,1),(2,1,1),(3,1,1),(4,1,1),(5,1,1),(6,1,1),(7,1,1)]) c X N trivial trivial rfl trivial rfl ⟨fun x e=>by cases e;exact fd1 (j:=55) (j2:=81) c rfl rfl rfl rfl (show(FL 0).Nodup by decide),fun x e=>by cases e;exact fd1 (j:=57) (j2:=82) c rfl rfl rfl rfl (show(FL 1).Nodup by decide),fun x e=>by cases e;exact fd1 (j:=59) (j2:=83) c rfl rfl rfl rfl (show(FL 2).Nodup by decide),fun x e=>by cases e;exact fd1 (j:=61) (j2:=84) c rfl rfl rfl rfl (show(FL 3).Nodup by decide),fun x e=>by cases e;exact fd1 (j:=63) (j2:=85) c rfl rfl rfl rfl (show(FL 4).Nodup by decide),fun x e=>by cases e;exact fd1 (j:=65) (j2:=86) c rfl rfl rfl rfl (show(FL 5).Nodup by decide),fun x e=>by cases e;exact fd1 (j:=67) (j2:=87) c rfl rfl rfl rfl (show(FL 6).Nodup by decide),fun x e=>by cases e;exact fd1 (j:=69) (j2:=88) c rfl rfl rfl rfl (show(FL 7).Nodup by decide),fun x e=>by cases e;exact fd1 (j:=55) (j2:=73) c rfl rfl rfl rfl (show(FL 0).Nodup by decide),fun x e=>by cases e;exact fd1 (j:=57) (j2:=74) c rfl rfl rfl rfl (show(FL 1).Nodup by decide),fun x e=>by cases e;exact fd1 (j:=59) (j2:=75) c rfl rfl rfl rfl (show(FL 2).Nodup by decide),fun x e=>by cases e;exact fd1 (j:=61) (j2:=76) c rfl rfl rfl rfl (show(FL 3).Nodup by decide),fun x e=>by cases e;exact fd1 (j:=63) (j2:=77) c rfl rfl rfl rfl (show(FL 4).Nodup by decide),fun x e=>by cases e;exact fd1 (j:=65) (j2:=78) c rfl rfl rfl rfl (show(FL 5).Nodup by decide),fun x e=>by cases e;exact fd1 (j:=67) (j2:=79) c rfl rfl rfl rfl (show(FL 6).Nodup by decide),fun x e=>by cases e;exact fd1 (j:=69) (j2:=80) c rfl rfl rfl rfl (show(FL 7).Nodup by decide),trivial⟩ trivial trivial trivial trivial
theorem qe7:MthAt P w K mg base (GK K) 1 3 "told_numbers" 0 g_Seen_told_numbers:=
 qfL (G:=GK K) (T:=qaW) (Γ:=qaT) (k:=0) (m:=0) (i:=34) (j:=136) (j2:=61) (ir:=qaE) (ps:=["self"]) (d:=qcJ) (cn:=3) c rfl rfl rfl rfl rfl rfl rfl rfl (show("told_numbers" : Str)∉FL 3 by decide) rfl qe0 rfl qfd (fun _ _ _ _ _ _ us hl=>match us,hl with | [_],_=>rfl) (qe1 c cx ct X N)
theorem qd3:TabOk P w K mg base qaK qaJ (GK K) 0:=
 qdf (mts:=[]) (fds:=[(0,0,2),(1,0,2),(2,0,2),(3,0,2),(4,0,2),(5,0,2),(6,0,2),(7,0,2),(0,1,3),(1,1,3),(2,1,3),(3,1,3),(4,1,3),(5,1,3),(6,1,3),(7,1,3),(0,2,1),(1,2,1),(2,2,1),(3,2,1),(4,2,1),(5,2,1),(6,2,1),(7,2,1)]) c X N trivial trivial rfl trivial rfl ⟨fun x e=>by cases e;exact fd1 (j:=55) (j2:=81) c rfl rfl rfl rfl (show(FL 0).Nodup by decide),fun x e=>by cases e;exact fd1 (j:=57) (j2:=82) c rfl rfl rfl rfl (show(FL 1).Nodup by decide),fun x e=>by cases e;exact fd1 (j:=59) (j2:=83) c rfl rfl rfl rfl (show(FL 2).Nodup by decide),fun x e=>by cases e;exact fd1 (j:=61) (j2:=84) c rfl rfl rfl rfl (show(FL 3).Nodup by decide),fun x e=>by cases e;exact fd1 (j:=63) (j2:=85) c rfl rfl rfl rfl (show(FL 4).Nodup by decide),fun x e=>by cases e;exact fd1 (j:=65) (j2:=86) c rfl rfl rfl rfl (show(FL 5).Nodup by decide),fun x e=>by cases e;exact fd1 (j:=67) (j2:=87) c rfl rfl rfl rfl (show(FL 6).Nodup by decide),fun x e=>by cases e;exact fd1 (j:=69) (j2:=88) c rfl rfl rfl rfl (show(FL 7).Nodup by decide),fun x e=>by cases e;exact fd1 (j:=55) (j2:=89) c rfl rfl rfl rfl (show(FL 0).Nodup by decide),fun x e=>by cases e;exact fd1 (j:=57) (j2:=90) c rfl rfl rfl rfl (show(FL 1).Nodup by decide),fun x e=>by cases e;exact fd1 (j:=59) (j2:=91) c rfl rfl rfl rfl (show(FL 2).Nodup by decide),fun x e=>by cases e;exact fd1 (j:=61) (j2:=92) c rfl rfl rfl rfl (show(FL 3).Nodup by decide),fun x e=>by cases e;exact fd1 (j:=63) (j2:=93) c rfl rfl rfl rfl (show(FL 4).Nodup by decide),fun x e=>by cases e;exact fd1 (j:=65) (j2:=94) c rfl rfl rfl rfl (show(FL 5).Nodup by decide),fun x e=>by cases e;exact fd1 (j:=67) (j2:=95) c rfl rfl rfl rfl (show(FL 6).Nodup by decide),fun x e=>by cases e;exact fd1 (j:=69) (j2:=96) c rfl rfl rfl rfl (show(FL 7).Nodup by decide),fun x e=>by cases e;exact fd1 (j:=55) (j2:=73) c rfl rfl rfl rfl (show(FL 0).Nodup by decide),fun x e=>by cases e;exact fd1 (j:=57) (j2:=74) c rfl rfl rfl rfl (show(FL 1).Nodup by decide),fun x e=>by cases e;exact fd1 (j:=59) (j2:=75) c rfl rfl rfl rfl (show(FL 2).Nodup by decide),fun x e=>by cases e;exact fd1 (j:=61) (j2:=76) c rfl rfl rfl rfl (show(FL 3).Nodup by decide),fun x e=>by cases e;exact fd1 (j:=63) (j2:=77) c rfl rfl rfl rfl (show(FL 4).Nodup by decide),fun x e=>by cases e;exact fd1 (j:=65) (j2:=78) c rfl rfl rfl rfl (show(FL 5).Nodup by decide),fun x e=>by cases e;exact fd1 (j:=67) (j2:=79) c rfl rfl rfl rfl (show(FL 6).Nodup by decide),fun x e=>by cases e;exact fd1 (j:=69) (j2:=80) c rfl rfl rfl rfl (show(FL 7).Nodup by decide),trivial⟩ trivial trivial trivial trivial
theorem qd2:MthAt P w K mg base (GK K) 1 4 "told_numbers" 0 g_Counted_told_numbers:=
 qfL (G:=GK K) (T:=qaK) (Γ:=qaJ) (k:=0) (m:=0) (i:=35) (j:=137) (j2:=63) (ir:=qam) (ps:=["self"]) (d:=qbS) (cn:=4) c rfl rfl rfl rfl rfl rfl rfl rfl (show("told_numbers" : Str)∉FL 4 by decide) rfl qd1 rfl qd4 (fun _ _ _ _ _ _ us hl=>match us,hl with | [_],_=>rfl) (qd3 c cx ct X N)
theorem qd7:TabOk P w K mg base qaO qaM (GK K) 0:=
 qdf (mts:=[]) (fds:=[(0,0,3),(1,0,3),(2,0,3),(3,0,3),(4,0,3),(5,0,3),(6,0,3),(7,0,3)]) c X N trivial trivial rfl trivial rfl ⟨fun x e=>by cases e;exact fd1 (j:=55) (j2:=89) c rfl rfl rfl rfl (show(FL 0).Nodup by decide),fun x e=>by cases e;exact fd1 (j:=57) (j2:=90) c rfl rfl rfl rfl (show(FL 1).Nodup by decide),fun x e=>by cases e;exact fd1 (j:=59) (j2:=91) c rfl rfl rfl rfl (show(FL 2).Nodup by decide),fun x e=>by cases e;exact fd1 (j:=61) (j2:=92) c rfl rfl rfl rfl (show(FL 3).Nodup by decide),fun x e=>by cases e;exact fd1 (j:=63) (j2:=93) c rfl rfl rfl rfl (show(FL 4).Nodup by decide),fun x e=>by cases e;exact fd1 (j:=65) (j2:=94) c rfl rfl rfl rfl (show(FL 5).Nodup by decide),fun x e=>by cases e;exact fd1 (j:=67) (j2:=95) c rfl rfl rfl rfl (show(FL 6).Nodup by decide),fun x e=>by cases e;exact fd1 (j:=69) (j2:=96) c rfl rfl rfl rfl (show(FL 7).Nodup by decide),trivial⟩ trivial trivial trivial trivial
theorem qd9:MthAt P w K mg base (GK K) 1 5 "told_numbers" 0 g_Joined_told_numbers:=
 qfL (G:=GK K) (T:=qaO) (Γ:=qaM) (k:=0) (m:=0) (i:=36) (j:=138) (j2:=65) (ir:=qar) (ps:=["self"]) (d:=qce) (cn:=5) c rfl rfl rfl rfl rfl rfl rfl rfl (show("told_numbers" : Str)∉FL 5 by decide) rfl qec rfl qej (fun _ _ _ _ _ _ us hl=>match us,hl with | [_],_=>rfl) (qd7 c cx ct X N)
theorem qdA:TabOk P w K mg base qax qaz (GK K) 0:=
 qdf (mts:=[]) (fds:=[(0,0,3),(1,0,3),(2,0,3),(3,0,3),(4,0,3),(5,0,3),(6,0,3),(7,0,3)]) c X N trivial trivial rfl trivial rfl ⟨fun x e=>by cases e;exact fd1 (j:=55) (j2:=89) c rfl rfl rfl rfl (show(FL 0).Nodup by decide),fun x e=>by cases e;exact fd1 (j:=57) (j2:=90) c rfl rfl rfl rfl (show(FL 1).Nodup by decide),fun x e=>by cases e;exact fd1 (j:=59) (j2:=91) c rfl rfl rfl rfl (show(FL 2).Nodup by decide),fun x e=>by cases e;exact fd1 (j:=61) (j2:=92) c rfl rfl rfl rfl (show(FL 3).Nodup by decide),fun x e=>by cases e;exact fd1 (j:=63) (j2:=93) c rfl rfl rfl rfl (show(FL 4).Nodup by decide),fun x e=>by cases e;exact fd1 (j:=65) (j2:=94) c rfl rfl rfl rfl (show(FL 5).Nodup by decide),fun x e=>by cases e;exact fd1 (j:=67) (j2:=95) c rfl rfl rfl rfl (show(FL 6).Nodup by decide),fun x e=>by cases e;exact fd1 (j:=69) (j2:=96) c rfl rfl rfl rfl (show(FL 7).Nodup by decide),trivial⟩ trivial trivial trivial trivial
theorem qdM:MthAt P w K mg base (GK K) 1 6 "told_numbers" 0 g_NoSquare_told_numbers:=
 qfL (G:=GK K) (T:=qax) (Γ:=qaz) (k:=0) (m:=0) (i:=37) (j:=139) (j2:=67) (ir:=qaj) (ps:=["self"]) (d:=qbL) (cn:=6) c rfl rfl rfl rfl rfl rfl rfl rfl (show("told_numbers" : Str)∉FL 6 by decide) rfl qdB rfl qdx (fun _ _ _ _ _ _ us hl=>match us,hl with | [_],_=>rfl) (qdA c cx ct X N)
theorem qe8:TabOk P w K mg base qaV qaY (GK K) 0:=
 qdf (mts:=[]) (fds:=[(0,0,3),(1,0,3),(2,0,3),(3,0,3),(4,0,3),(5,0,3),(6,0,3),(7,0,3)]) c X N trivial trivial rfl trivial rfl ⟨fun x e=>by cases e;exact fd1 (j:=55) (j2:=89) c rfl rfl rfl rfl (show(FL 0).Nodup by decide),fun x e=>by cases e;exact fd1 (j:=57) (j2:=90) c rfl rfl rfl rfl (show(FL 1).Nodup by decide),fun x e=>by cases e;exact fd1 (j:=59) (j2:=91) c rfl rfl rfl rfl (show(FL 2).Nodup by decide),fun x e=>by cases e;exact fd1 (j:=61) (j2:=92) c rfl rfl rfl rfl (show(FL 3).Nodup by decide),fun x e=>by cases e;exact fd1 (j:=63) (j2:=93) c rfl rfl rfl rfl (show(FL 4).Nodup by decide),fun x e=>by cases e;exact fd1 (j:=65) (j2:=94) c rfl rfl rfl rfl (show(FL 5).Nodup by decide),fun x e=>by cases e;exact fd1 (j:=67) (j2:=95) c rfl rfl rfl rfl (show(FL 6).Nodup by decide),fun x e=>by cases e;exact fd1 (j:=69) (j2:=96) c rfl rfl rfl rfl (show(FL 7).Nodup by decide),trivial⟩ trivial trivial trivial trivial
theorem qfa:MthAt P w K mg base (GK K) 1 7 "told_numbers" 0 g_Ring_told_numbers:=
 qfL (G:=GK K) (T:=qaV) (Γ:=qaY) (k:=0) (m:=0) (i:=38) (j:=140) (j2:=69) (ir:=qaD) (ps:=["self"]) (d:=qcM) (cn:=7) c rfl rfl rfl rfl rfl rfl rfl rfl (show("told_numbers" : Str)∉FL 7 by decide) rfl qe6 rfl qe4 (fun _ _ _ _ _ _ us hl=>match us,hl with | [_],_=>rfl) (qe8 c cx ct X N)
theorem qbb:TabOk P w K mg base qaF qaG (GK K) 1:=
 qdf (mts:=[(0,0,g_Unlike_name),(1,0,g_Total_name),(2,0,g_Rising_name),(3,0,g_Seen_name),(4,0,g_Counted_name),(5,0,g_Joined_name),(6,0,g_NoSquare_name),(7,0,g_Ring_name),(0,1,g_Rule_told_numbers),(1,1,g_Total_told_numbers),(2,1,g_Rule_told_numbers),(3,1,g_Seen_told_numbers),(4,1,g_Counted_told_numbers),(5,1,g_Joined_told_numbers),(6,1,g_NoSquare_told_numbers),(7,1,g_Ring_told_numbers)]) (fds:=[]) c X N trivial trivial rfl ⟨fun x n e=>by cases e;exact(qiU c cx ct X N).mono (by decide),fun x n e=>by cases e;exact(qjp c cx ct X N).mono (by decide),fun x n e=>by cases e;exact(qiA c cx ct X N).mono (by decide),fun x n e=>by cases e;exact(qlo c cx ct X N).mono (by decide),fun x n e=>by cases e;exact(qhV c cx ct X N).mono (by decide),fun x n e=>by cases e;exact(qin c cx ct X N).mono (by decide),fun x n e=>by cases e;exact(qgM c cx ct X N).mono (by decide),fun x n e=>by cases e;exact(qln c cx ct X N).mono (by decide),fun x n e=>by cases e;exact(qek c cx ct X N).mono (by decide),fun x n e=>by cases e;exact(qeL c cx ct X N).mono (by decide),fun x n e=>by cases e;exact(qeg c cx ct X N).mono (by decide),fun x n e=>by cases e;exact(qe7 c cx ct X N).mono (by decide),fun x n e=>by cases e;exact(qd2 c cx ct X N).mono (by decide),fun x n e=>by cases e;exact(qd9 c cx ct X N).mono (by decide),fun x n e=>by cases e;exact(qdM c cx ct X N).mono (by decide),fun x n e=>by cases e;exact(qfa c cx ct X N).mono (by decide),trivial⟩ rfl trivial trivial trivial trivial trivial
theorem qir:MthAt P w K mg base (GK K) 2 0 "line" 0 g_Rule_line:=
 qfL (G:=GK K) (T:=qaF) (Γ:=qaG) (k:=1) (m:=1) (i:=39) (j:=141) (j2:=55) (ir:=qav) (ps:=["self"]) (d:=qfq) (cn:=0) c rfl rfl rfl rfl rfl rfl rfl rfl (show("line" : Str)∉FL 0 by decide) rfl qbe rfl qa5 (fun _ _ _ _ _ _ us hl=>match us,hl with | [_],_=>rfl) (qbb c cx ct X N)
theorem qjv:MthAt P w K mg base (GK K) 2 1 "line" 0 g_Rule_line:=
 qfL (G:=GK K) (T:=qaF) (Γ:=qaG) (k:=1) (m:=1) (i:=40) (j:=142) (j2:=57) (ir:=qav) (ps:=["self"]) (d:=qga) (cn:=1) c rfl rfl rfl rfl rfl rfl rfl rfl (show("line" : Str)∉FL 1 by decide) rfl qbe rfl qa5 (fun _ _ _ _ _ _ us hl=>match us,hl with | [_],_=>rfl) (qbb c cx ct X N)
theorem qiF:MthAt P w K mg base (GK K) 2 2 "line" 0 g_Rule_line:=
 qfL (G:=GK K) (T:=qaF) (Γ:=qaG) (k:=1) (m:=1) (i:=41) (j:=143) (j2:=59) (ir:=qav) (ps:=["self"]) (d:=qfs) (cn:=2) c rfl rfl rfl rfl rfl rfl rfl rfl (show("line" : Str)∉FL 2 by decide) rfl qbe rfl qa5 (fun _ _ _ _ _ _ us hl=>match us,hl with | [_],_=>rfl) (qbb c cx ct X N)
theorem qkA:MthAt P w K mg base (GK K) 2 3 "line" 0 g_Rule_line:=
 qfL (G:=GK K) (T:=qaF) (Γ:=qaG) (k:=1) (m:=1) (i:=42) (j:=144) (j2:=61) (ir:=qav) (ps:=["self"]) (d:=qhh) (cn:=3) c rfl rfl rfl rfl rfl rfl rfl rfl (show("line" : Str)∉FL 3 by decide) rfl qbe rfl qa5 (fun _ _ _ _ _ _ us hl=>match us,hl with | [_],_=>rfl) (qbb c cx ct X N)
theorem qhC:MthAt P w K mg base (GK K) 2 4 "line" 0 g_Rule_line:=
 qfL (G:=GK K) (T:=qaF) (Γ:=qaG) (k:=1) (m:=1) (i:=43) (j:=145) (j2:=63) (ir:=qav) (ps:=["self"]) (d:=qeW) (cn:=4) c rfl rfl rfl rfl rfl rfl rfl rfl (show("line" : Str)∉FL 4 by decide) rfl qbe rfl qa5 (fun _ _ _ _ _ _ us hl=>match us,hl with | [_],_=>rfl) (qbb c cx ct X N)
theorem qiP:MthAt P w K mg base (GK K) 2 5 "line" 0 g_Rule_line:=
 qfL (G:=GK K) (T:=qaF) (Γ:=qaG) (k:=1) (m:=1) (i:=44) (j:=146) (j2:=65) (ir:=qav) (ps:=["self"]) (d:=qfi) (cn:=5) c rfl rfl rfl rfl rfl rfl rfl rfl (show("line" : Str)∉FL 5 by decide) rfl qbe rfl qa5 (fun _ _ _ _ _ _ us hl=>match us,hl with | [_],_=>rfl) (qbb c cx ct X N)
theorem qgJ:MthAt P w K mg base (GK K) 2 6 "line" 0 g_Rule_line:=
 qfL (G:=GK K) (T:=qaF) (Γ:=qaG) (k:=1) (m:=1) (i:=45) (j:=147) (j2:=67) (ir:=qav) (ps:=["self"]) (d:=qen) (cn:=6) c rfl rfl rfl rfl rfl rfl rfl rfl (show("line" : Str)∉FL 6 by decide) rfl qbe rfl qa5 (fun _ _ _ _ _ _ us hl=>match us,hl with | [_],_=>rfl) (qbb c cx ct X N)
theorem qk7:MthAt P w K mg base (GK K) 2 7 "line" 0 g_Rule_line:=
 qfL (G:=GK K) (T:=qaF) (Γ:=qaG) (k:=1) (m:=1) (i:=46) (j:=148) (j2:=69) (ir:=qav) (ps:=["self"]) (d:=qgD) (cn:=7) c rfl rfl rfl rfl rfl rfl rfl rfl (show("line" : Str)∉FL 7 by decide) rfl qbe rfl qa5 (fun _ _ _ _ _ _ us hl=>match us,hl with | [_],_=>rfl) (qbb c cx ct X N)
theorem qhB:TabOk P w K mg base qb5 qb2 (GK K) 2:=
 qdf (mts:=[(0,0,g_Rule_line),(1,0,g_Rule_line),(2,0,g_Rule_line),(3,0,g_Rule_line),(4,0,g_Rule_line),(5,0,g_Rule_line),(6,0,g_Rule_line),(7,0,g_Rule_line)]) (fds:=[(25,0,1)]) c X N trivial trivial rfl ⟨fun x n e=>by cases e;exact(qir c cx ct X N).mono (by decide),fun x n e=>by cases e;exact(qjv c cx ct X N).mono (by decide),fun x n e=>by cases e;exact(qiF c cx ct X N).mono (by decide),fun x n e=>by cases e;exact(qkA c cx ct X N).mono (by decide),fun x n e=>by cases e;exact(qhC c cx ct X N).mono (by decide),fun x n e=>by cases e;exact(qiP c cx ct X N).mono (by decide),fun x n e=>by cases e;exact(qgJ c cx ct X N).mono (by decide),fun x n e=>by cases e;exact(qk7 c cx ct X N).mono (by decide),trivial⟩ rfl ⟨fun x e=>by cases e;exact fd1 (j:=71) (j2:=117) c rfl rfl rfl rfl (show(FL 25).Nodup by decide),trivial⟩ trivial trivial trivial trivial
theorem qeP:MthAt P w K mg base (GK K) 3 25 "lines" 0 g_Puzzle_lines:=
 qfL (G:=GK K) (T:=qb5) (Γ:=qb2) (k:=2) (m:=1) (i:=47) (j:=149) (j2:=71) (ir:=qbn) (ps:=["self"]) (d:=qeS) (cn:=25) c rfl rfl rfl rfl rfl rfl rfl rfl (show("lines" : Str)∉FL 25 by decide) rfl qhv rfl qhW (fun _ _ _ _ _ _ us hl=>match us,hl with | [_],_=>rfl) (qhB c cx ct X N)
theorem qhL:TabOk P w K mg base qbZ qb0 (GK K) 6:=
 qdf (mts:=[(25,0,g_Puzzle_lines)]) (fds:=[(0,0,0),(1,0,0),(2,0,0),(3,0,0),(4,0,0),(5,0,0),(6,0,0),(7,0,0),(25,0,0)]) c X N trivial trivial rfl ⟨fun x n e=>by cases e;exact(qeP c cx ct X N).mono (by decide),trivial⟩ rfl ⟨fun x e=>by cases e;exact fd1 (j:=55) (j2:=56) c rfl rfl rfl rfl (show(FL 0).Nodup by decide),fun x e=>by cases e;exact fd1 (j:=57) (j2:=58) c rfl rfl rfl rfl (show(FL 1).Nodup by decide),fun x e=>by cases e;exact fd1 (j:=59) (j2:=60) c rfl rfl rfl rfl (show(FL 2).Nodup by decide),fun x e=>by cases e;exact fd1 (j:=61) (j2:=62) c rfl rfl rfl rfl (show(FL 3).Nodup by decide),fun x e=>by cases e;exact fd1 (j:=63) (j2:=64) c rfl rfl rfl rfl (show(FL 4).Nodup by decide),fun x e=>by cases e;exact fd1 (j:=65) (j2:=66) c rfl rfl rfl rfl (show(FL 5).Nodup by decide),fun x e=>by cases e;exact fd1 (j:=67) (j2:=68) c rfl rfl rfl rfl (show(FL 6).Nodup by decide),fun x e=>by cases e;exact fd1 (j:=69) (j2:=70) c rfl rfl rfl rfl (show(FL 7).Nodup by decide),fun x e=>by cases e;exact fd1 (j:=71) (j2:=72) c rfl rfl rfl rfl (show(FL 25).Nodup by decide),trivial⟩ ⟨(qiz c cx ct X N).mono (by decide),trivial⟩ trivial trivial trivial
theorem qhU:MthAt P w K mg base (GK K) 7 25 "clued" 1 g_Puzzle_clued:=
 qfL (G:=GK K) (T:=qbZ) (Γ:=qb0) (k:=6) (m:=0) (i:=48) (j:=150) (j2:=71) (ir:=qbp) (ps:=["self","clues"]) (d:=qeO) (cn:=25) c rfl rfl rfl rfl rfl rfl rfl rfl (show("clued" : Str)∉FL 25 by decide) rfl qhx rfl qhs (fun _ _ _ _ _ _ us hl=>match us,hl with | [_,_],_=>rfl) (qhL c cx ct X N)
theorem qjO:TabOk P w K mg base qdc qcW (GK K) 7:=
 qdf (mts:=[(25,0,g_Puzzle_clued)]) (fds:=[]) c X N ⟨(qf7 c cx ct X N).mono (by decide),trivial⟩ trivial rfl ⟨fun x n e=>by cases e;exact(qhU c cx ct X N).mono (by decide),trivial⟩ rfl trivial trivial ⟨qdr (j:=123) c X N rfl (qae (j:=137) cx rfl rfl (qae (j:=136) cx rfl rfl (qae (j:=135) cx rfl rfl qc5))) (qaa (j:=146) cx rfl rfl (qaa (j:=145) cx rfl rfl (qaa (j:=144) cx rfl rfl (qaa (j:=143) cx rfl rfl (qaa (j:=142) cx rfl rfl (qaa (j:=141) cx rfl rfl (qaa (j:=140) cx rfl rfl (qaa (j:=139) cx rfl rfl (qaa (j:=138) cx rfl rfl qcX))))))))),trivial⟩ trivial trivial
theorem qjm:DefAt P w K mg base (GK K) 8 "_law_clued" 2 g__law_clued:=
 qhq (G:=GK K) (T:=qdc) (Γ:=qcW) (k:=7) (m:=2) (i:=21) (j:=151) (ir:=qci) (ps:=["_law_puzzle","_law_clues"]) (d:=qf1) c X N rfl rfl rfl rfl rfl rfl qjf rfl qi4 (fun _ _ _ _ _ _ us hl=>match us,hl with | [_,_],_=>rfl) (qjO c cx ct X N)
theorem qhA:TabOk P w K mg base qbX qb7 (GK K) 0:=
 qdf (mts:=[]) (fds:=[(25,0,2)]) c X N trivial trivial rfl trivial rfl ⟨fun x e=>by cases e;exact fd1 (j:=71) (j2:=118) c rfl rfl rfl rfl (show(FL 25).Nodup by decide),trivial⟩ trivial trivial trivial trivial
theorem qhK:MthAt P w K mg base (GK K) 1 25 "clues" 0 g_Puzzle_clues:=
 qfL (G:=GK K) (T:=qbX) (Γ:=qb7) (k:=0) (m:=0) (i:=49) (j:=152) (j2:=71) (ir:=qbq) (ps:=["self"]) (d:=qeN) (cn:=25) c rfl rfl rfl rfl rfl rfl rfl rfl (show("clues" : Str)∉FL 25 by decide) rfl qhF rfl qht (fun _ _ _ _ _ _ us hl=>match us,hl with | [_],_=>rfl) (qhA c cx ct X N)
theorem quC:TabOk P w K mg base qpW qpf (GK K) 8:=
 qdf (mts:=[(25,0,g_Puzzle_lines),(25,1,g_Puzzle_clues)]) (fds:=[]) c X N ⟨(qkl c cx ct X N).mono (by decide),(qhP c cx ct X N).mono (by decide),(qhl c cx ct X N).mono (by decide),(qkR c cx ct X N).mono (by decide),(qgp c cx ct X N).mono (by decide),(qgX c cx ct X N).mono (by decide),(qgs c cx ct X N).mono (by decide),(qhE c cx ct X N).mono (by decide),(qjm c cx ct X N).mono (by decide),trivial⟩ trivial rfl ⟨fun x n e=>by cases e;exact(qeP c cx ct X N).mono (by decide),fun x n e=>by cases e;exact(qhK c cx ct X N).mono (by decide),trivial⟩ rfl trivial ⟨(qiz c cx ct X N).mono (by decide),trivial⟩ trivial trivial trivial
theorem o_law {fa0:Addr} (e:mg "law" = some (.ref fa0)):∃fd:FuncData,(∀(s:Shared) (u:Value),BindsTo s fd ⟨[u],[]⟩ [("_law_script",u)])∧∀base:Heap,K.In base→base.Ns mainGlobals mg→FnOk P w K mg base (L2.CX P w) 9 fa0 fd ["_law_script"] (spD (GK K) 1 g_law):=
 qv7 (G:=GK K) (T:=qpW) (Γ:=qpf) (k:=8) (m:=13) (i:=22) (j:=153) (ir:=qoA) (d:=qs5) c X N rfl rfl rfl rfl rfl rfl e qu5 rfl quy (fun _ _ _ _ _ _ us hl=>match us,hl with | [_],_=>rfl) (fun base _ _=>quC c cx ct X N)
end
end
end K20
open PySem PySem.W PySem.Calls PyProof.Rows
theorem PySem.Challenge.cw_cluemaker_k20_puzzles_refused_holds : PySem.Challenge.rw_cluemaker_k20_puzzles_refused.Holds := by
  w_on; o_law
  refine HandSHeadRun.head_any (r := K20.R) (q := K20.vw) (H := Cm.hookL K20.as K20.fa K20.fn K20.xa K20.ts) (ob := Cm.obT K20.as K20.fa K20.fn K20.xa K20.ts) (M := 7211) (loose := K20.loose) (d := HandSHeadRun.topDef K20.R.prog 58) (kwd := []) Cm.obT_eq
    (by kernel_rfl) (fun s => by kernel_rfl) K20.run (by kernel_rfl) (by kernel_rfl) (by kernel_rfl) (by rfl) (by first | assumption | decide +kernel) (by decide +kernel) ⟨rfl, rfl, rfl, rfl, rfl, by decide +kernel⟩ ?hw ?hc
  case hw => w_witness2
  case hc =>
    refine LamX.walk_ofTsE (l := PySem.Challenge.rw_cluemaker_k20_puzzles_refused) (n := 63) (k := 9) (x := "_law_script") (CX := fun w => L2.CX PySem.Challenge.rw_cluemaker_k20_puzzles_refused.prog w) rfl (by decide) (by kernel_rfl) ⟨rfl, by decide, by decide⟩ ?F (fun w => Cm.cx_end)
    intro w mg fa0 h Y N hmg0
    obtain ⟨K, KX, c, cx, ct⟩ := Y
    have hmg : mg ("law" : PySem.Str) = some (.ref fa0) := by
      have e : (HandSHeadRun.topDef K20.R.prog 58).name = ("law" : PySem.Str) := by kernel_rfl
      rw [← e]
      exact hmg0
    exact ⟨K, KX, Cm.law_at (G := K20.GK K) (g := K20.g_law) rfl (K20.o_law c cx ct KX N hmg) K20.law_true⟩
