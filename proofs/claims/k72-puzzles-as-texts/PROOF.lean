import PyProof.Rows.All
import HandS.Head0
import HandS.Head1
import HandS.Head2
import HandS.HeadEnd
import HandS.HeadHook1
import HandS.HeadHook2
import HandS.HeadHook3
import HandS.HeadWalk
import Wide.All
import OpenK.AllK
import Wide.FinOn
import HandS.ForMost
import HandS.Exc
import HandS.TryOnly
import HandS.ExcOwn
import HandS.WordsExc
import HandS.Deep
import HandS.IsInst
import HandS.SortInts
import HandS.Walk
import HandS.Flow
import HandS.Style
import HandS.Conv
import HandS.Defaults
import HandS.WideBits
import HandS.ExcIs
import HandS.ExcValue
import HandS.SetFor
import HandS.RevRange
import HandS.Replace
import HandS.SortKw
import KE.DataMinMax
import KE.LtSeq
import KE.KSortAsk
import HandS.SortRule
import HandS.Strs
import PyProof.FactsAll.tuple_0
import PyProof.FactsAll.tuple_2
import HandS.RevTup
import PyProof.ListNew
import HandS.Dict
import HandS.Codes
import KE.OsSetLaws
import PySem.Challenge.RW_cluemaker_k72_puzzles_as_texts
set_option Elab.async false
set_option linter.all false
set_option maxRecDepth 100000
set_option maxHeartbeats 1000000
namespace Cm
open PySem PySem.Spec PyProof.Rows L2 PySem.W
def bltNames:List Str:=["len","abs","min","max","sum","sorted","all","any","list","int","str","bool","tuple","isinstance","range","zip","enumerate","reversed","set","divmod","ValueError"]
inductive Xa where
 |ck (x:Str) (own:Bool) (d:Str) (b:Bool)
 |ik (x:Str) (own:Bool) (d:Str) (b:Bool)
 |mk0 (x:Str)
 |tup (x:Str) (zs:List Str)
 |dno (x z:Str)
 |dtu (x z:Str) (zs:List Str)
def qxa:Value→Option Str
 |.str z _=>some z
 |_=>none
def qnG (K:PySem.W.Frag) (u:Option (Option Value)) (zs:List Str):Bool:=match u with
 |some (some (.ref a))=>match K.lookup a with
  |some ⟨cls,dct,.seq its _,_⟩=>decide (cls=.type "tuple")&&decide (its.size≤1000)&&decide (its.toList.map qxa=zs.map some)&&dct.isNone
  |_=>false
 |_=>false
def cv (K:PySem.W.Frag) (x:Str) (own:Bool):Value:=match own with
 |true=>.ref (He.ga K x)
 |false=>.type "ValueError"
def Xa.ok (K:PySem.W.Frag):Xa→Bool
 |.ck x own d b=>decide (PySem.W.kitOne K (.ref (He.ga K d)) (cv K x own)=some b)&&(decide (PySem.W.exmOne K (.ref (He.ga K d)) (cv K x own)=some b) &&
  (He.eqO (PySem.W.findIn K (.ref (He.ga K d)) "__getattribute__") (some (some (.builtin "BaseException.__getattribute__")))&&(He.eqO (PySem.W.findIn K (.ref (He.ga K d)) "__getattr__") (some none) &&
  (decide (PySem.W.subIn K (.ref (He.ga K d)) (.type "BaseException")=some true)&&(PySem.W.hasDictIn K (He.ga K d)&&(He.eqO (PySem.W.findIn K (.ref (He.ga K d)) "__class__") (some (some (.builtin "object.__class__"))) &&
  (He.eqO (PySem.W.specialIn K (.builtin "object.__class__") "__get__") (some (some (.builtin "getset_descriptor.__get__")))&&(decide (PySem.W.takesIn K (.builtin "object.__class__")=some true)&&decide (PySem.W.mroIn K (He.ga K d) (.type "object")=some true)))))))))
 |.ik x own d b=>decide (PySem.W.kitOne K (.ref (He.ga K d)) (cv K x own)=some b)&&((He.Fa.cls d).ok K&&(He.eqO (PySem.W.findIn K (.ref (He.ga K d)) "__class__") (some (some (.builtin "object.__class__"))) &&
  (He.eqO (PySem.W.specialIn K (.builtin "object.__class__") "__get__") (some (some (.builtin "getset_descriptor.__get__")))&&(decide (PySem.W.takesIn K (.builtin "object.__class__")=some true)&&decide (PySem.W.mroIn K (He.ga K d) (.type "object")=some true)))))
 |.mk0 x=>PySem.W.makesIn K (He.ga K x)&&(He.eqO (PySem.W.findIn K (.ref (He.ga K x)) "__init__") (some (some (.builtin "object.__init__")))&&PySem.W.keepIn K (.ref (He.ga K x)))
 |.tup x zs=>qnG K (PySem.W.nsIn K mainGlobals x) zs
 |.dno x z=>He.eqO (PySem.W.nsIn K (He.ga K x) z) (some none)
 |.dtu x z zs=>qnG K (PySem.W.nsIn K (He.ga K x) z) zs
def quh (xa:List Xa) (K:PySem.W.Frag):Bool:=xa.all (Xa.ok K)
def qwB (ts:List (Str × List Str)) (w:World) (K:PySem.W.Frag):Prop:=(ts.map fun t=>He.dicW K (He.ga K t.1))=ts.map fun t=>some (He.keysIn w.params t.2)
theorem qw3 {r:PySem.W.OpenRow} {q:Program} {H:PySem.W.Hook} {ob:PySem.W.SharedT→H.α} {M:Nat} {loose:List Str} {w:World}
  (a:∀os:OsState,(HandSHeadRun.endF (HandSHeadRun.stepQ (HandSHeadRun.denQ HandSHeadRun.tabQ) r.prog w) M r.prog w os).map (fun s=>HandSHeadRun.looksF r.prog (boot_heap w.params) s.abs)=some true)
  (b:∀os:OsState,(HandSHeadRun.endF (HandSHeadRun.stepQ (HandSHeadRun.denQ HandSHeadRun.tabQ) r.prog w) M r.prog w os).map (fun s=>HandSHeadRun.seenQ q loose (PySem.importedModules r.prog.main.body) (fun s=>PySem.W.xlAt q [] s&&PySem.W.recOk r.toRowW.records s) s.abs)=some (PySem.W.openGood q loose))
  (c:∀os:OsState,(HandSHeadRun.endF (HandSHeadRun.stepQ (HandSHeadRun.denQ HandSHeadRun.tabQ) r.prog w) M r.prog w os).map ob=some (H.val w)):HandSHeadRun.RunEq r q H ob M loose w:=by
 intro os
 have a:=a os
 have b:=b os
 have c:=c os
 cases e:HandSHeadRun.endF (HandSHeadRun.stepQ (HandSHeadRun.denQ HandSHeadRun.tabQ) r.prog w) M r.prog w os with
 |none=>rw[e] at a;cases a
 |some s =>
  rw[e] at a b c
  simp only[Option.map_some,Option.some.injEq] at a b c ⊢
  rw[a,b,c]
abbrev AlL:Type:=(He.AlD × Bool) × List (Option (List (Option (Str × Int))))
def obL (as:List Addr) (fa:List He.Fa) (fn:List He.DefD) (xa:List Xa) (ts:List (Str × List Str)) (g:Addr→Option Obj):AlL:=((He.obsD fa fn (He.frG g as),quh xa (He.frG g as)),ts.map fun(t:Str × List Str)=>He.dicW (He.frG g as) (He.ga (He.frG g as) t.1))
def hookL (as:List Addr) (fa:List He.Fa) (fn:List He.DefD) (xa:List Xa) (ts:List (Str × List Str)):PySem.W.Hook where
 α:=AlL
 obs:=fun s=>obL as fa fn xa ts s.heap.get?
 val:=fun w=>((He.valD fn,true),ts.map fun(t:Str × List Str)=>some (He.keysIn w.params t.2))
 says:=fun w h=>∃K:PySem.W.Frag,K.In h∧He.SaysD fa fn K∧quh xa K=true∧qwB ts w K
 of:=fun _ _ e=>⟨_,He.frG_in,congrArg (fun z:AlL=>z.1.1) e,congrArg (fun z:AlL=>z.1.2) e,congrArg (fun z:AlL=>z.2) e⟩
 keeps:=fun _ _ _ ⟨K,kin,says⟩ st=>⟨K,PySem.W.Frag.In.keeps kin st,says⟩
def obT (as:List Addr) (fa:List He.Fa) (fn:List He.DefD) (xa:List Xa) (ts:List (Str × List Str)) (s:PySem.W.SharedT):AlL:=obL as fa fn xa ts (HandSHeadRun.getT s)
theorem obT_eq {as:List Addr} {fa:List He.Fa} {fn:List He.DefD} {xa:List Xa} {ts:List (Str × List Str)} (s:PySem.W.SharedT):obT as fa fn xa ts s=(hookL as fa fn xa ts).obs s.abs:=by
 have:HandSHeadRun.getT s=s.abs.heap.get?:=funext fun a=>HandSHeadRun.getT_eq s a
 show obL as fa fn xa ts (HandSHeadRun.getT s)=obL as fa fn xa ts s.abs.heap.get?
 rw[this]
end Cm
set_option maxHeartbeats 0
namespace K72
open Cm PySem PySem.Spec PyProof.Rows L2
def top (i:Nat):Stmt:=PySem.Challenge.pw_cluemaker_k72_puzzles_as_texts.main.body.getD i (.Pass ⟨0,0,0,0⟩)
def sub (i j:Nat):Stmt:=match top i with
 |.ClassDef _ _ _ body _ _ _ _ _ _ _=>body.getD j (.Pass ⟨0,0,0,0⟩)
 |_=>.Pass ⟨0,0,0,0⟩
def mkF (n:Str) (e:Stmt):He.DefD:=⟨(n,none),n,n,defArgs e,defBody e,defScope e,[],[]⟩
def mkD (n:Str × Option Str) (a b:Str) (e:Stmt):He.DefD:=⟨n,a,b,defArgs e,defBody e,defScope e,[],[]⟩
def qfZ:He.DefD:=mkF "_law_floor" (top 48)
def qeK:He.DefD:=mkF "_law_cell_at" (top 47)
def qfW:He.DefD:=mkF "_law_cells" (top 49)
def qgZ:He.DefD:=mkF "_law_rule" (top 50)
def qeH:He.DefD:=mkF "show_filling" (top 16)
def qe9:He.DefD:=mkF "show_puzzle" (top 44)
def qgs:He.DefD:=mkF "_law_text" (top 51)
def qfa:He.DefD:=mkF "read_number" (top 43)
def qii:He.DefD:=mkF "floor_of" (top 12)
def qf2:He.DefD:=mkF "many_cells" (top 13)
def qeF:He.DefD:=mkF "read_filling" (top 17)
def qg2:He.DefD:=mkF "number_of" (top 32)
def qgv:He.DefD:=mkF "sign_told" (top 33)
def qfV:He.DefD:=mkF "whole_rule" (top 35)
def qf4:He.DefD:=mkF "cells_told" (top 34)
def qgL:He.DefD:=mkF "read_rule" (top 36)
def qfU:He.DefD:=mkF "is_filling" (top 18)
def qe6:He.DefD:=mkF "read_puzzle" (top 45)
def qhd:He.DefD:=mkF "_law_told" (top 52)
def qub:He.DefD:=mkF "law" (top 53)
def qfl:He.DefD:=mkD ("Unlike",some "name") "name" "Unlike.name" (sub 21 0)
def qf3:He.DefD:=mkD ("Total",some "name") "name" "Total.name" (sub 22 0)
def qe8:He.DefD:=mkD ("Rising",some "name") "name" "Rising.name" (sub 23 0)
def qhe:He.DefD:=mkD ("Seen",some "name") "name" "Seen.name" (sub 24 0)
def qeD:He.DefD:=mkD ("Counted",some "name") "name" "Counted.name" (sub 25 0)
def qe7:He.DefD:=mkD ("Joined",some "name") "name" "Joined.name" (sub 26 0)
def qd8:He.DefD:=mkD ("NoSquare",some "name") "name" "NoSquare.name" (sub 27 0)
def qgn:He.DefD:=mkD ("Ring",some "name") "name" "Ring.name" (sub 28 0)
def qce:He.DefD:=mkD ("Unlike",some "told_numbers") "told_numbers" "Rule.told_numbers" (sub 20 8)
def qcp:He.DefD:=mkD ("Total",some "told_numbers") "told_numbers" "Total.told_numbers" (sub 22 3)
def qcc:He.DefD:=mkD ("Rising",some "told_numbers") "told_numbers" "Rule.told_numbers" (sub 20 8)
def qcS:He.DefD:=mkD ("Seen",some "told_numbers") "told_numbers" "Seen.told_numbers" (sub 24 3)
def qbO:He.DefD:=mkD ("Counted",some "told_numbers") "told_numbers" "Counted.told_numbers" (sub 25 2)
def qch:He.DefD:=mkD ("Joined",some "told_numbers") "told_numbers" "Joined.told_numbers" (sub 26 2)
def qbC:He.DefD:=mkD ("NoSquare",some "told_numbers") "told_numbers" "NoSquare.told_numbers" (sub 27 2)
def qcQ:He.DefD:=mkD ("Ring",some "told_numbers") "told_numbers" "Ring.told_numbers" (sub 28 2)
def qfw:He.DefD:=mkD ("Unlike",some "line") "line" "Rule.line" (sub 20 7)
def qf6:He.DefD:=mkD ("Total",some "line") "line" "Rule.line" (sub 20 7)
def qfp:He.DefD:=mkD ("Rising",some "line") "line" "Rule.line" (sub 20 7)
def qgw:He.DefD:=mkD ("Seen",some "line") "line" "Rule.line" (sub 20 7)
def qeM:He.DefD:=mkD ("Counted",some "line") "line" "Rule.line" (sub 20 7)
def qfq:He.DefD:=mkD ("Joined",some "line") "line" "Rule.line" (sub 20 7)
def qd9:He.DefD:=mkD ("NoSquare",some "line") "line" "Rule.line" (sub 20 7)
def qha:He.DefD:=mkD ("Ring",some "line") "line" "Rule.line" (sub 20 7)
def qeL:He.DefD:=mkD ("Puzzle",some "place") "place" "Puzzle.place" (sub 39 1)
def qeE:He.DefD:=mkD ("Puzzle",some "lines") "lines" "Puzzle.lines" (sub 39 3)
def qeG:He.DefD:=mkD ("Puzzle",some "clues") "clues" "Puzzle.clues" (sub 39 4)
def qeC:He.DefD:=mkD ("Puzzle",some "clued") "clued" "Puzzle.clued" (sub 39 10)
def qdr:He.DefD:=mkD ("Unlike",some "__init__") "__init__" "Rule.__init__" (sub 20 0)
def qdY:He.DefD:=mkD ("Total",some "__init__") "__init__" "Rule.__init__" (sub 20 0)
def qdo:He.DefD:=mkD ("Rising",some "__init__") "__init__" "Rule.__init__" (sub 20 0)
def qef:He.DefD:=mkD ("Seen",some "__init__") "__init__" "Rule.__init__" (sub 20 0)
def qde:He.DefD:=mkD ("Counted",some "__init__") "__init__" "Rule.__init__" (sub 20 0)
def qdu:He.DefD:=mkD ("Joined",some "__init__") "__init__" "Rule.__init__" (sub 20 0)
def qcD:He.DefD:=mkD ("NoSquare",some "__init__") "__init__" "Rule.__init__" (sub 20 0)
def qd7:He.DefD:=mkD ("Ring",some "__init__") "__init__" "Rule.__init__" (sub 20 0)
def qds:He.DefD:=mkD ("Puzzle",some "__init__") "__init__" "Puzzle.__init__" (sub 39 0)
def fnA:List He.DefD:=[qfZ,qeK,qfW,qgZ,qeH,qe9,qgs,qfa,qii,qf2,qeF,qg2,qgv,qfV,qf4,qgL,qfU,qe6,qhd,qub,qfl,qf3,qe8,qhe,qeD,qe7,qd8,qgn,qce]
def fnB:List He.DefD:=[qcp,qcc,qcS,qbO,qch,qbC,qcQ,qfw,qf6,qfp,qgw,qeM,qfq,qd9,qha,qeL,qeE,qeG,qeC,qdr,qdY,qdo,qef,qde,qdu,qcD,qd7,qds]
def fn:List He.DefD:=fnA++fnB
def fa0:List He.Fa:=[.glo "_law_floor",.glo "_law_cell_at",.glo "_law_cells",.glo "_law_rule",.str "MARKS" ".123456",.glo "show_filling",.cls "Unlike",.noat "Unlike" "ground",.cls "Total",.noat "Total" "ground",.cls "Rising",.noat "Rising" "ground",.cls "Seen",.noat "Seen" "ground",.cls "Counted",.noat "Counted" "ground",.cls "Joined",.noat "Joined" "ground",.cls "NoSquare",.noat "NoSquare" "ground",.cls "Ring",.noat "Ring" "ground",.cls "Puzzle",.noat "Puzzle" "ground",.meth "Puzzle" "place",.meth "Unlike" "name",.meth "Total" "name",.meth "Rising" "name",.meth "Seen" "name",.meth "Counted" "name",.meth "Joined" "name",.meth "NoSquare" "name",.meth "Ring" "name",.noat "Unlike" "cells",.noat "Total" "cells",.noat "Rising" "cells",.noat "Seen" "cells",.noat "Counted" "cells",.noat "Joined" "cells",.noat "NoSquare" "cells",.noat "Ring" "cells",.meth "Unlike" "told_numbers",.meth "Rising" "told_numbers",.noat "Unlike" "wanted",.noat "Total" "wanted",.noat "Rising" "wanted",.noat "Seen" "wanted",.noat "Counted" "wanted",.noat "Joined" "wanted",.noat "NoSquare" "wanted",.noat "Ring" "wanted",.meth "Total" "told_numbers",.meth "Seen" "told_numbers",.noat "Unlike" "of_sign",.noat "Total" "of_sign",.noat "Rising" "of_sign",.noat "Seen" "of_sign",.noat "Counted" "of_sign",.noat "Joined" "of_sign",.noat "NoSquare" "of_sign",.noat "Ring" "of_sign",.meth "Counted" "told_numbers",.meth "Joined" "told_numbers",.meth "NoSquare" "told_numbers",.meth "Ring" "told_numbers",.meth "Unlike" "line",.meth "Total" "line",.meth "Rising" "line",.meth "Seen" "line",.meth "Counted" "line",.meth "Joined" "line",.meth "NoSquare" "line",.meth "Ring" "line",.noat "Puzzle" "rule_list",.meth "Puzzle" "lines",.noat "Puzzle" "clue_list",.meth "Puzzle" "clues",.glo "show_puzzle",.glo "_law_text",.glo "NoText",.exc "NoText",.int "MOST_FIGURES" 9,.str "FIGURES_texts" "0123456789",.glo "read_number",.glo "NoFloor",.exc "NoFloor",.int "MOST_SIDE" 6,.int "MOST_CELLS" 16,.int "MOST_SIGNS" 6,.glo "floor_of",.glo "many_cells",.glo "NoFilling",.exc "NoFilling",.glo "read_filling",.glo "NoRule",.exc "NoRule",.int "LONGEST" 2,.str "FIGURES_rows" "0123456789",.glo "number_of",.glo "sign_told",.mkr "Unlike",.glo "Unlike",.mkr "Total",.glo "Total",.mkr "Rising",.glo "Rising",.mkr "Seen",.glo "Seen",.mkr "Counted",.glo "Counted",.mkr "Joined",.glo "Joined",.mkr "NoSquare",.glo "NoSquare",.mkr "Ring",.glo "Ring",.glo "whole_rule",.glo "cells_told",.glo "read_rule",.glo "is_filling",.glo "NoPuzzle",.exc "NoPuzzle",.int "MOST_RULES" 12,.mkr "Puzzle",.glo "Puzzle",.meth "Puzzle" "clued",.glo "read_puzzle",.glo "_law_told",.glo "law"]
abbrev fa:List He.Fa:=bltNames.map He.Fa.free++fa0
def xa:List Xa:=[.ik "Puzzle" true "Puzzle" true,.ik "Puzzle" true "Ring" false,.ik "Puzzle" true "NoSquare" false,.ik "Puzzle" true "Joined" false,.ik "Puzzle" true "Counted" false,.ik "Puzzle" true "Seen" false,.ik "Puzzle" true "Rising" false,.ik "Puzzle" true "Total" false,.ik "Puzzle" true "Unlike" false]
def ts:List (Str × List Str):=[]
abbrev R:PySem.W.OpenRow:=PySem.W.OpenLaw.row PySem.Challenge.rw_cluemaker_k72_puzzles_as_texts
def as:List Addr:=([3,31,30,44,43,56,55,68,67,80,79,92,91,203,202,238,237,285,284,325,324,372,371,412,411,452,451,492,491,532]:List Addr)++([531,650,649,685,684,678,677,692,691,697,696,113,112,586,585,221,220,254,253,301,300,341,340,388,387,428,427,468,467,508]:List Addr)++([507,193,192,275,274,362,361,402,401,442,441,482,481,522,521,186,185,598,597,605,604,666,665,704,703,661,660,101,100,108]:List Addr)++([107,120,119,541,540,548,547,139,138,562,561,555,554,567,566,125,124,579,578,647,646,671,670,711,710,716,715]:List Addr)
def loose:List Str:=(["_wall","ClueError","NoFloor","NoFilling","NoRule","NoPuzzle","NoText","MOST_SIDE","MOST_CELLS","MOST_SIGNS","floor_of","many_cells","MARKS","show_filling","read_filling","is_filling","Rule","Unlike","Total","Rising","Seen","Counted","Joined","NoSquare","Ring","FIGURES_rows","LONGEST","number_of","sign_told","cells_told"]:List Str)++(["whole_rule","read_rule","MOST_RULES","Puzzle","FIGURES_texts","MOST_FIGURES","read_number","show_puzzle","read_puzzle","_law_cell_at","_law_floor","_law_cells","_law_rule","_law_text","_law_told"]:List Str)
abbrev vw:Program:=PySem.W.view R.prog [53]
theorem rA (w:World):∀os:OsState,(HandSHeadRun.endF (HandSHeadRun.stepQ (HandSHeadRun.denQ HandSHeadRun.tabQ) R.prog w) 5841 R.prog w os).map (fun s=>HandSHeadRun.looksF R.prog (PySem.W.boot_heap w.params) s.abs)=some true:=by
 intro os
 kernel_rfl
theorem rB (w:World):∀os:OsState,(HandSHeadRun.endF (HandSHeadRun.stepQ (HandSHeadRun.denQ HandSHeadRun.tabQ) R.prog w) 5841 R.prog w os).map (fun s=>HandSHeadRun.seenQ vw loose (PySem.importedModules R.prog.main.body) (fun s=>PySem.W.xlAt vw [] s&&PySem.W.recOk R.toRowW.records s) s.abs)=some (PySem.W.openGood vw loose):=by
 intro os
 kernel_rfl
theorem rC (w:World):∀os:OsState,(HandSHeadRun.endF (HandSHeadRun.stepQ (HandSHeadRun.denQ HandSHeadRun.tabQ) R.prog w) 5841 R.prog w os).map (obT as fa fn xa ts)=some ((hookL as fa fn xa ts).val w):=by
 intro os
 kernel_rfl
theorem run (w:World):HandSHeadRun.RunEq R vw (hookL as fa fn xa ts) (obT as fa fn xa ts) 5841 loose w:=qw3 (rA w) (rB w) (rC w)
end K72
namespace Cm
open PySem PySem.Spec PyProof.Rows L2
inductive D where
 |non | bl (b:Bool) | int (i:Int) | str (s:List Nat)
 |lst (xs:List D) | tup (xs:List D)
 |ins (c:Nat) (fs:List D) | exc (c:Nat) (fs:List D)
mutual
@[simp] def D.flat:D→Bool
 |.lst _=>false
 |.tup xs=>D.flats xs
 |.exc _ fs=>D.flats fs
 |.non=>true
 |.bl _=>true
 |.int _=>true
 |.str _=>true
 |.ins _ _=>true
@[simp] def D.flats:List D→Bool
 |[]=>true
 |d::ds=>d.flat&&D.flats ds
end
mutual
def D.fit:D→Nat→Bool
 |.non,_=>true
 |.bl _,_=>true
 |.int _,_=>true
 |.str s,_=>PyData.strOk ⟨s.toArray⟩
 |.lst xs,n=>decide (0<n)&&D.fits xs (n - 1)
 |.tup xs,n=>decide (0<n)&&D.fits xs (n - 1)
 |.ins _ _,_=>false
 |.exc _ _,_=>false
def D.fits:List D→Nat→Bool
 |[],_=>true
 |d::ds,n=>d.fit n&&D.fits ds n
end
mutual
def D.py:D→PyData
 |.non=>.none
 |.bl b=>.bool b
 |.int i=>.int i
 |.str s=>.str ⟨s.toArray⟩
 |.lst xs=>.list (D.pys xs)
 |.tup xs=>.tuple (D.pys xs)
 |.ins _ _=>.none
 |.exc _ _=>.none
def D.pys:List D→List PyData
 |[]=>[]
 |d::ds=>d.py::D.pys ds
end
mutual
def D.eqb:D→D→Bool
 |.non,y=>match y with
  |.non=>true
  |_=>false
 |.bl a,y=>match y with
  |.bl b=>a == b
  |.int j=>decide ((if a then 1 else 0)=j)
  |_=>false
 |.int i,y=>match y with
  |.bl b=>decide (i=(if b then 1 else 0))
  |.int j=>decide (i=j)
  |_=>false
 |.str x,y=>match y with
  |.str z=>decide (x=z)
  |_=>false
 |.lst xs,y=>match y with
  |.lst ys=>D.eqbs xs ys
  |_=>false
 |.tup xs,y=>match y with
  |.tup ys=>D.eqbs xs ys
  |_=>false
 |.ins _ _,_=>false
 |.exc _ _,_=>false
def D.eqbs:List D→List D→Bool
 |[],ys=>match ys with
  |[]=>true
  |_=>false
 |x::xs,ys=>match ys with
  |[]=>false
  |y::ys=>D.eqb x y&&D.eqbs xs ys
end
mutual
theorem D.canLay:∀(d:D) (n:Nat),d.fit n=true→d.py.canLay0=true∧d.py.depth≤n
 |.non,n,_=>⟨by simp[D.py,PyData.canLay0],by simp[D.py,PyData.depth]⟩
 |.bl _,n,_=>⟨by simp[D.py,PyData.canLay0],by simp[D.py,PyData.depth]⟩
 |.int _,n,_=>⟨by simp[D.py,PyData.canLay0],by simp[D.py,PyData.depth]⟩
 |.str s,n,h=>⟨by simpa[D.py,PyData.canLay0,D.fit] using h,by simp[D.py,PyData.depth]⟩
 |.lst xs,n,h=>by
  simp only[D.fit,Bool.and_eq_true,decide_eq_true_eq] at h
  obtain⟨h1,h2⟩:=D.canLays xs (n - 1) h.2
  refine⟨by simpa[D.py,PyData.canLay0] using h1,?_⟩
  simp only[D.py,PyData.depth]
  omega
 |.tup xs,n,h=>by
  simp only[D.fit,Bool.and_eq_true,decide_eq_true_eq] at h
  obtain⟨h1,h2⟩:=D.canLays xs (n - 1) h.2
  refine⟨by simpa[D.py,PyData.canLay0] using h1,?_⟩
  simp only[D.py,PyData.depth]
  omega
 |.ins _ _,_,h=>by simp[D.fit] at h
 |.exc _ _,_,h=>by simp[D.fit] at h
theorem D.canLays:∀(ds:List D) (n:Nat),D.fits ds n=true→PyData.canLayAll0 (D.pys ds)=true∧PyData.depthAll (D.pys ds)≤n
 |[],n,_=>⟨by simp[D.pys,PyData.canLayAll0],by simp[D.pys,PyData.depthAll]⟩
 |d::ds,n,h=>by
  simp only[D.fits,Bool.and_eq_true] at h
  obtain⟨h1,h2⟩:=D.canLay d n h.1
  obtain⟨h3,h4⟩:=D.canLays ds n h.2
  refine⟨by simp[D.pys,PyData.canLayAll0,h1,h3],?_⟩
  simp only[D.pys,PyData.depthAll]
  omega
end
theorem D.shaped {d:D} (h:d.fit 64=true):SeqAt.shaped d.py=true:=by
 obtain⟨h1,h2⟩:=D.canLay d 64 h
 simp[SeqAt.shaped,h1,h2]
theorem qgR {x z:List Nat}:(x.toArray=z.toArray)↔x=z:=by
 constructor
 ·intro h
  have:=congrArg Array.toList h
  simpa using this
 ·rintro rfl;rfl
mutual
theorem D.eqv_py:∀(a b:D) (n m:Nat),a.fit n=true→b.fit m=true→PyData.eqv a.py b.py=a.eqb b
 |.non,b,_,_,_,hb=>by cases b<;>simp[D.py,D.eqb,PyData.eqv,D.fit] at *
 |.bl x,b,_,_,_,hb=>by
  cases b<;>simp[D.py,D.eqb,PyData.eqv,D.fit] at *
  cases x<;>simp[Bool.beq_eq_decide_eq]<;>rfl
 |.int x,b,_,_,_,hb=>by
  cases b<;>simp[D.py,D.eqb,PyData.eqv,D.fit] at *
  ·rename_i y;cases y<;>simp[Bool.beq_eq_decide_eq]<;>rfl
  ·rfl
 |.str x,b,_,_,_,hb=>by
  cases b<;>simp[D.py,D.eqb,PyData.eqv,D.fit] at *
  rename_i z
  by_cases e:x=z
  ·subst e;simp
  ·rw[decide_eq_false e]
   refine beq_eq_false_iff_ne.mpr fun q=>e ?_
   injection q with q
   exact qgR.mp q
 |.lst xs,b,n,m,ha,hb=>by
  cases b with
  |lst ys =>
   simp only[D.fit,Bool.and_eq_true,decide_eq_true_eq] at ha hb
   simp only[D.py,D.eqb,PyData.eqv]
   exact D.eqv_pys xs ys _ _ ha.2 hb.2
  |_=>simp[D.py,D.eqb,PyData.eqv,D.fit] at *
 |.tup xs,b,n,m,ha,hb=>by
  cases b with
  |tup ys =>
   simp only[D.fit,Bool.and_eq_true,decide_eq_true_eq] at ha hb
   simp only[D.py,D.eqb,PyData.eqv]
   exact D.eqv_pys xs ys _ _ ha.2 hb.2
  |_=>simp[D.py,D.eqb,PyData.eqv,D.fit] at *
 |.ins _ _,_,_,_,h,_=>by simp[D.fit] at h
 |.exc _ _,_,_,_,h,_=>by simp[D.fit] at h
theorem D.eqv_pys:∀(xs ys:List D) (n m:Nat),D.fits xs n=true→D.fits ys m=true→PyData.eqvAll (D.pys xs) (D.pys ys)=D.eqbs xs ys
 |[],ys,_,_,_,_=>by cases ys<;>simp[D.pys,D.eqbs,PyData.eqvAll]
 |x::xs,ys,n,m,ha,hb=>by
  cases ys with
  |nil=>simp[D.pys,D.eqbs,PyData.eqvAll]
  |cons y ys =>
   simp only[D.fits,Bool.and_eq_true] at ha hb
   simp only[D.pys,D.eqbs,PyData.eqvAll]
   rw[D.eqv_py x y n m ha.1 hb.1,D.eqv_pys xs ys n m ha.2 hb.2]
end
structure Glo where
 K:PySem.W.Frag
 ca:Nat→Addr
 fl:Nat→List Str
def exK (cls:Value) (a:Addr):HO:=.ext fun h=>∃(oe:Obj) (vs:Array Value),h.get? a=some oe∧Zc cls none oe∧oe.data=.fields vs
theorem quw {P:Program} {w:World} {H:Hp} {h:Heap} {a:Addr} {cls:Value} {oe:Obj} {vs:Array Value} (e:h.get? a=some oe) (z:Zc cls none oe) (d:oe.data=.fields vs):ObjOk P w H h a (exK cls a):=
 ⟨⟨oe,vs,e,z,d⟩,⟨oe,e⟩,fun _ _ ⟨o,v,q,r⟩ k=>⟨o,v,k o q,r⟩⟩
mutual
def Rep (G:Glo) (P:Hp) (LN:Addr→List V→Prop):D→V→Prop
 |.non,v=>v=.non
 |.bl b,v=>v=.bl b
 |.int i,v=>v=.int i
 |.str s,v=>v=.str ⟨s.toArray⟩
 |.lst ds,v=>∃a xs,v=.ref a∧LN a xs∧Reps G P LN ds xs
 |.tup ds,v=>∃a xs,v=.ref a∧SqT G.K P a xs∧Reps G P LN ds xs
 |.ins c ds,v=>∃a dx xs,v=.ref a∧P a=some (.ins (G.ca c) dx ((G.fl c).zip xs))∧(G.fl c).length=ds.length∧Reps G P (SqL G.K P) ds xs
 |.exc c fs,v=>fs=[]∧∃a,v=.ref a∧P a=some (exK (.ref (G.ca c)) a)
def Reps (G:Glo) (P:Hp) (LN:Addr→List V→Prop):List D→List V→Prop
 |[],vs=>vs=[]
 |d::ds,vs=>∃v r,vs=v::r∧Rep G P LN d v∧Reps G P LN ds r
end
theorem Same.seqT {K:PySem.W.Frag} {H H':Hp} {a:Addr} {xs:List V} (e:Same H H') (h:SqT K H a xs):SqT K H' a xs:=by
 rcases h with(h | ⟨o,h⟩) | h
 ·exact .inl (.inl (e _ _ h))
 ·exact .inl (.inr ⟨o,e _ _ h⟩)
 ·exact .inr h
section
variable {G:Glo} {P P':Hp} {LN LN':Addr→List V→Prop}
mutual
theorem Rep.mono (hp:Same P P'):∀(d:D) (v:V) {LN LN':Addr→List V→Prop} (_:∀a xs,LN a xs→LN' a xs),Rep G P LN d v→Rep G P' LN' d v
 |.non,_,_,_,_,h=>h
 |.bl _,_,_,_,_,h=>h
 |.int _,_,_,_,_,h=>h
 |.str _,_,_,_,_,h=>h
 |.lst ds,v,_,_,hl,⟨a,xs,e,h1,h2⟩=>⟨a,xs,e,hl _ _ h1,Reps.mono hp ds xs hl h2⟩
 |.tup ds,v,_,_,hl,⟨a,xs,e,h1,h2⟩=>⟨a,xs,e,Same.seqT hp h1,Reps.mono hp ds xs hl h2⟩
 |.ins c ds,v,_,_,hl,⟨a,dx,xs,e,h1,h2,h3⟩=>⟨a,dx,xs,e,hp _ _ h1,h2,Reps.mono hp ds xs (fun _ _ q=>L2.Same.seq hp q) h3⟩
 |.exc _ _,_,_,_,_,⟨e,a,h1,h2⟩=>⟨e,a,h1,hp _ _ h2⟩
theorem Reps.mono (hp:Same P P'):∀(ds:List D) (vs:List V) {LN LN':Addr→List V→Prop} (_:∀a xs,LN a xs→LN' a xs),Reps G P LN ds vs→Reps G P' LN' ds vs
 |[],_,_,_,_,h=>h
 |d::ds,vs,_,_,hl,⟨v,r,e,h1,h2⟩=>⟨v,r,e,Rep.mono hp d v hl h1,Reps.mono hp ds r hl h2⟩
end
mutual
theorem Rep.flat:∀(d:D) (v:V),d.flat=true→Rep G P LN d v→Rep G P LN' d v
 |.non,_,_,h=>h
 |.bl _,_,_,h=>h
 |.int _,_,_,h=>h
 |.str _,_,_,h=>h
 |.lst ds,v,f,_=>by simp[D.flat] at f
 |.tup ds,v,f,⟨a,xs,e,h1,h2⟩=>⟨a,xs,e,h1,Reps.flat ds xs (by simpa[D.flat] using f) h2⟩
 |.ins c ds,v,_,h=>h
 |.exc _ _,_,_,h=>h
theorem Reps.flat:∀(ds:List D) (vs:List V),D.flats ds=true→Reps G P LN ds vs→Reps G P LN' ds vs
 |[],_,_,h=>h
 |d::ds,vs,f,⟨v,r,e,h1,h2⟩=>by
  simp only[D.flats,Bool.and_eq_true] at f
  exact⟨v,r,e,Rep.flat d v f.1 h1,Reps.flat ds r f.2 h2⟩
end
theorem Reps.length:∀{ds:List D} {vs:List V},Reps G P LN ds vs→vs.length=ds.length
 |[],_,h=>by cases h;rfl
 |d::ds,vs,⟨v,r,e,h1,h2⟩=>by subst e;simp[Reps.length h2]
theorem Reps.get:∀{ds:List D} {vs:List V} {i:Nat} {d:D},Reps G P LN ds vs→ds[i]? = some d→∃v,vs[i]? = some v∧Rep G P LN d v
 |[],_,_,_,_,h=>by simp at h
 |d::ds,vs,0,_,⟨v,r,e,h1,h2⟩,h=>by subst e;simp at h;subst h;exact⟨v,rfl,h1⟩
 |d::ds,vs,i+1,_,⟨v,r,e,h1,h2⟩,h=>by subst e;simp at h;obtain⟨w,q1,q2⟩:=Reps.get h2 h;exact⟨w,by simpa using q1,q2⟩
theorem Reps.append:∀{ds es:List D} {vs us:List V},Reps G P LN ds vs→Reps G P LN es us→Reps G P LN (ds++es) (vs++us)
 |[],_,_,_,h,q=>by cases h;exact q
 |d::ds,es,vs,us,⟨v,r,e,h1,h2⟩,q=>by subst e;exact⟨v,r++us,rfl,h1,Reps.append h2 q⟩
theorem Reps.take:∀{ds:List D} {vs:List V} (n:Nat),Reps G P LN ds vs→Reps G P LN (ds.take n) (vs.take n)
 |[],_,_,h=>by cases h;simp[Reps]
 |d::ds,vs,0,_=>by simp[Reps]
 |d::ds,vs,n+1,⟨v,r,e,h1,h2⟩=>by subst e;exact⟨v,r.take n,rfl,h1,Reps.take n h2⟩
theorem Reps.drop:∀{ds:List D} {vs:List V} (n:Nat),Reps G P LN ds vs→Reps G P LN (ds.drop n) (vs.drop n)
 |[],_,_,h=>by cases h;simp[Reps]
 |d::ds,vs,0,h=>h
 |d::ds,vs,n+1,⟨v,r,e,h1,h2⟩=>by subst e;exact Reps.drop n h2
theorem Reps.set {x:D} {u:V} (hx:Rep G P LN x u):∀{ds:List D} {vs:List V} (n:Nat),Reps G P LN ds vs→Reps G P LN (ds.set n x) (vs.set n u)
 |[],_,_,h=>by cases h;simp[Reps]
 |d::ds,vs,0,⟨v,r,e,h1,h2⟩=>by subst e;exact⟨u,r,rfl,hx,h2⟩
 |d::ds,vs,n+1,⟨v,r,e,h1,h2⟩=>by subst e;exact⟨v,r.set n u,rfl,h1,Reps.set hx n h2⟩
theorem Reps.eraseIdx:∀{ds:List D} {vs:List V} (n:Nat),Reps G P LN ds vs→Reps G P LN (ds.eraseIdx n) (vs.eraseIdx n)
 |[],_,_,h=>by cases h;simp[Reps]
 |d::ds,vs,0,⟨v,r,e,h1,h2⟩=>by subst e;exact h2
 |d::ds,vs,n+1,⟨v,r,e,h1,h2⟩=>by subst e;exact⟨v,r.eraseIdx n,rfl,h1,Reps.eraseIdx n h2⟩
theorem Reps.one {d:D} {v:V} (h:Rep G P LN d v):Reps G P LN [d] [v]:=⟨v,[],rfl,h,rfl⟩
theorem Reps.ints:∀{ns:List Int} {vs:List V},Reps G P LN (ns.map D.int) vs↔vs=ns.map V.int
 |[],vs=>Iff.rfl
 |n::ns,vs=>by
  constructor
  ·rintro⟨v,r,e,h1,h2⟩
   rw[e,h1,Reps.ints.mp h2];rfl
  ·intro e
   exact⟨_,_,e,rfl,Reps.ints.mpr rfl⟩
theorem Reps.reverse:∀{ds:List D} {vs:List V},Reps G P LN ds vs→Reps G P LN ds.reverse vs.reverse
 |[],_,h=>by cases h;exact rfl
 |d::ds,vs,⟨v,r,e,h1,h2⟩=>by
  subst e
  simp only[List.reverse_cons]
  exact(Reps.reverse h2).append (Reps.one h1)
theorem Reps.replicate {d:D} {v:V} (h:Rep G P LN d v):∀n,Reps G P LN (List.replicate n d) (List.replicate n v)
 |0=>rfl
 |n+1=>⟨v,_,rfl,h,Reps.replicate h n⟩
mutual
theorem Rep.dp {H:Hp} (hp:Same P H) (hl:∀a xs,LN a xs→SqL G.K H a xs):∀(d:D) (v:V) (n:Nat),d.fit n=true→Rep G P LN d v→Dp G.K H v d.py
 |.non,_,_,_,h=>by cases h;exact .non
 |.bl b,_,_,_,h=>by cases h;exact .bl b
 |.int i,_,_,_,h=>by cases h;exact .int i
 |.str s,_,_,_,h=>by cases h;exact .str _
 |.lst ds,v,n,f,⟨a,xs,e,h1,h2⟩=>by
  subst e
  simp only[D.fit,Bool.and_eq_true] at f
  exact .lst (hl _ _ h1) (Reps.dp hp hl ds xs _ f.2 h2)
 |.tup ds,v,n,f,⟨a,xs,e,h1,h2⟩=>by
  subst e
  simp only[D.fit,Bool.and_eq_true] at f
  exact .tup (Same.seqT hp h1) (Reps.dp hp hl ds xs _ f.2 h2)
 |.ins c ds,v,_,f,_=>by simp[D.fit] at f
 |.exc _ _,_,_,f,_=>by simp[D.fit] at f
theorem Reps.dp {H:Hp} (hp:Same P H) (hl:∀a xs,LN a xs→SqL G.K H a xs):∀(ds:List D) (vs:List V) (n:Nat),D.fits ds n=true→Reps G P LN ds vs→DpAll G.K H vs (D.pys ds)
 |[],_,_,_,h=>by cases h;exact .nil
 |d::ds,vs,n,f,⟨v,r,e,h1,h2⟩=>by
  subst e
  simp only[D.fits,Bool.and_eq_true] at f
  exact .cons (Rep.dp hp hl d v n f.1 h1) (Reps.dp hp hl ds r n f.2 h2)
end
end
end Cm
namespace Cm
open PySem PySem.Spec PyProof.Rows L2
def WrT (G:Glo) (v:V):Prop:=∀a,v=.ref a→∃o,G.K.lookup a=some o∧o.cls=.type "tuple" ∧ o.dict=none
inductive RE (α:Type) where
 |bad | ok (a:α) | exc (c:Nat) (fs:List D)
def RE.bind {α β:Type}:RE α→(α→RE β)→RE β
 |.bad,_=>.bad
 |.ok a,f=>f a
 |.exc c fs,_=>.exc c fs
@[simp] theorem RE.bind_ok {α β:Type} (a:α) (f:α→RE β):(RE.ok a).bind f=f a:=rfl
@[simp] theorem RE.bind_bad {α β:Type} (f:α→RE β):(RE.bad:RE α).bind f=.bad:=rfl
@[simp] theorem RE.bind_exc {α β:Type} (c:Nat) (fs:List D) (f:α→RE β):(RE.exc c fs:RE α).bind f=.exc c fs:=rfl
inductive Sl where
 |non | val (d:D) (b:Bool) | own (ds:List D) (b:Bool)
 |slf (c:Nat) (fs:List D)
 |fxd (d:D) (k:Nat)
 |dct (m:List (Int × D)) (b:Bool)
inductive ER where
 |val (d:D) (b:Bool) | fre (ds:List D) (b:Bool) | brw (ds:List D) (b:Bool)
def ER.d:ER→D
 |.val d _=>d
 |.fre ds _=>.lst ds
 |.brw ds _=>.lst ds
def ER.b:ER→Bool
 |.val _ b=>b
 |.fre _ b=>b
 |.brw _ b=>b
@[simp] theorem ER.d_val {d:D} {b:Bool}:(ER.val d b).d=d:=rfl
@[simp] theorem ER.d_fre {d:List D} {b:Bool}:(ER.fre d b).d=.lst d:=rfl
@[simp] theorem ER.d_brw {d:List D} {b:Bool}:(ER.brw d b).d=.lst d:=rfl
@[simp] theorem ER.b_val {d:D} {b:Bool}:(ER.val d b).b=b:=rfl
@[simp] theorem ER.b_fre {d:List D} {b:Bool}:(ER.fre d b).b=b:=rfl
@[simp] theorem ER.b_brw {d:List D} {b:Bool}:(ER.brw d b).b=b:=rfl
@[simp] def ER.isB:ER→Bool
 |.brw _ _=>true
 |_=>false
@[simp] def ER.isV:ER→Bool
 |.val _ _=>true
 |_=>false
@[simp] def ER.frz:ER→ER
 |.fre ds b=>.val (.lst ds) b
 |e=>e
def LNb (K:PySem.W.Frag) (P N R:Hp) (b:Bool):Addr→List V→Prop:=fun a xs=>N a=some (.lst xs)∨(b=false∧(SqL K P a xs∨SqL K N a xs∨SqL K R a xs))
theorem LNb.mono {K:PySem.W.Frag} {P N R P' N':Hp} {b:Bool} (hp:Same P P') (hn:Same N N'):∀a xs,LNb K P N R b a xs→LNb K P' N' R b a xs:=fun a xs h=>by
 rcases h with h | ⟨h1,h | h | h⟩
 ·exact .inl (hn _ _ h)
 ·exact .inr ⟨h1,.inl (L2.Same.seq hp h)⟩
 ·exact .inr ⟨h1,.inr (.inl (L2.Same.seq hn h))⟩
 ·exact .inr ⟨h1,.inr (.inr h)⟩
theorem LNb.weak {K:PySem.W.Frag} {P N R:Hp} {b:Bool}:∀a xs,LNb K P N R b a xs→LNb K P N R false a xs:=fun a xs h=>by
 rcases h with h | h
 ·exact .inl h
 ·exact .inr ⟨rfl,h.2⟩
theorem LNb.and1 {K:PySem.W.Frag} {P N R:Hp} {b c:Bool}:∀a xs,LNb K P N R b a xs→LNb K P N R (b&&c) a xs:=fun a xs h=>by
 rcases h with h | ⟨h1,h2⟩
 ·exact .inl h
 ·exact .inr ⟨by simp[h1],h2⟩
theorem LNb.and2 {K:PySem.W.Frag} {P N R:Hp} {b c:Bool}:∀a xs,LNb K P N R c a xs→LNb K P N R (b&&c) a xs:=fun a xs h=>by
 rcases h with h | ⟨h1,h2⟩
 ·exact .inl h
 ·exact .inr ⟨by simp[h1],h2⟩
theorem LNb.seq {K:PySem.W.Frag} {P N R H:Hp} {b:Bool} (hp:Same P H) (hn:Same N H) (hr:Same R H):∀a xs,LNb K P N R b a xs→SqL K H a xs:=fun a xs h=>by
 rcases h with h | ⟨_,h | h | h⟩
 ·exact .inl (.inl (hn _ _ h))
 ·exact L2.Same.seq hp h
 ·exact L2.Same.seq hn h
 ·exact L2.Same.seq hr h
theorem LNb.ofP {K:PySem.W.Frag} {P N R:Hp}:∀a xs,SqL K P a xs→LNb K P N R false a xs:=fun a xs h=>.inr ⟨rfl,.inl h⟩
theorem LNb.ofR {K:PySem.W.Frag} {P N R:Hp}:∀a xs,SqL K R a xs→LNb K P N R false a xs:=fun a xs h=>.inr ⟨rfl,.inr (.inr h)⟩
structure Adv (P N H P' N' H':Hp):Prop where
 hh:Same H H'
 pp:Same P P'
 nn:Same N N'
 pH:Same P' H'
 nH:Same N' H'
 pn:∀a,P' a≠none→P a≠none∨H a=none
 nw:∀a,N' a≠none→N a≠none∨H a=none
 dj:∀a,N' a≠none→P' a≠none→N a≠none
theorem Adv.refl {P N H:Hp} (hp:Same P H) (hn:Same N H):Adv P N H P N H:=⟨L2.Same.refl _,L2.Same.refl _,L2.Same.refl _,hp,hn,fun _ h=>.inl h,fun _ h=>.inl h,fun _ h _=>h⟩
theorem Adv.trans {P N H P' N' H' P'' N'' H'':Hp} (s:Adv P N H P' N' H') (t:Adv P' N' H' P'' N'' H''):Adv P N H P'' N'' H'' where
 hh:=s.hh.trans t.hh
 pp:=s.pp.trans t.pp
 nn:=s.nn.trans t.nn
 pH:=t.pH
 nH:=t.nH
 pn:=fun a h=>by
  rcases t.pn a h with h | h
  ·exact s.pn a h
  ·exact .inr (s.hh.free h)
 nw:=fun a h=>by
  rcases t.nw a h with h | h
  ·exact s.nw a h
  ·exact .inr (s.hh.free h)
 dj:=fun a h h2=>by
  have h3:=t.dj a h h2
  rcases t.pn a h2 with q | q
  ·exact s.dj a h3 q
  ·exact absurd (s.nH.free q) h3
theorem Adv.heap {P N H P' N' H' H'':Hp} (s:Adv P N H P' N' H') (e:Same H' H''):Adv P N H P' N' H'':=
 ⟨s.hh.trans e,s.pp,s.nn,s.pH.trans e,s.nH.trans e,s.pn,s.nw,s.dj⟩
theorem qaN {H:Hp} {p:Addr} {o:HO} (h:H p=none):Same H (upd H p o):=fun b u e=>by
 rw[upd_ne (ne_of_none e h)];exact e
theorem qnO {P H:Hp} {p:Addr} {o:HO} (h:Same P H):Same (upd P p o) (upd H p o):=fun b u e=>by
 by_cases q:b=p
 ·subst q;rw[upd_same] at e ⊢;exact e
 ·rw[upd_ne q] at e ⊢;exact h _ _ e
theorem qaL {P H:Hp} {p:Addr} {o:HO} (h:Same P H) (n:P p=none):Same P (upd H p o):=fun b u e=>by
 rw[upd_ne (ne_of_none e n)];exact h _ _ e
theorem qlL {P H:Hp} {p:Addr} {o:HO} (h:Same P H) (e:H p=some o):Same (upd P p o) H:=fun b u q=>by
 by_cases z:b=p
 ·subst z;rw[upd_same] at q;cases q;exact e
 ·rw[upd_ne z] at q;exact h _ _ q
theorem Adv.newP {P N H P' N' H':Hp} (s:Adv P N H P' N' H') {p:Addr} {o:HO} (hp:H' p=none):Adv P N H (upd P' p o) N' (upd H' p o) where
 hh:=s.hh.trans (qaN hp)
 pp:=s.pp.trans (qaN (s.pH.free hp))
 nn:=s.nn
 pH:=qnO s.pH
 nH:=s.nH.trans (qaN hp)
 pn:=fun a h=>by
  by_cases q:a=p
  ·exact .inr (by rw[q];exact s.hh.free hp)
  ·rw[upd_ne q] at h;exact s.pn a h
 nw:=s.nw
 dj:=fun a h h2=>by
  by_cases q:a=p
  ·exact absurd (s.nH.free hp) (q ▸ h)
  ·rw[upd_ne q] at h2;exact s.dj a h h2
theorem Adv.holdN {P N H P' N' H':Hp} (s:Adv P N H P' N' H') {p:Addr} {o:HO} (h0:H p=none) (hp:H' p=some o) (hn:N' p=none) (hP:P' p=none):Adv P N H P' (upd N' p o) H' where
 hh:=s.hh
 pp:=s.pp
 nn:=s.nn.trans (qaN hn)
 pH:=s.pH
 nH:=qlL s.nH hp
 pn:=s.pn
 nw:=fun a h=>by
  by_cases q:a=p
  ·exact .inr (by rw[q];exact h0)
  ·rw[upd_ne q] at h;exact s.nw a h
 dj:=fun a h h2=>by
  by_cases q:a=p
  ·exact absurd hP (q ▸ h2)
  ·rw[upd_ne q] at h;exact s.dj a h h2
structure Ctx where
 G:Glo
 R:Hp
 B:Hp
 P0:Hp
 W:WX
 S:Addr
 fx:Nat→Option V:=fun _=>none
section
variable (C:Ctx) (P N H:Hp)
abbrev RepB (b:Bool) (d:D) (v:V):Prop:=Rep C.G P (LNb C.G.K P N C.R b) d v
abbrev RepsB (b:Bool) (ds:List D) (vs:List V):Prop:=Reps C.G P (LNb C.G.K P N C.R b) ds vs
def DctR (R:D→V→Prop):List (Int × D)→List (Key × V)→Prop
 |[],es=>es=[]
 |e::m,es=>∃v r,es=(.inl e.1,v)::r∧R e.2 v∧DctR R m r
def SlR:Sl→Option V→Prop
 |.non,_=>True
 |.val d b,o=>∃v,o=some v∧RepB C P N b d v
 |.own ds b,o=>∃p xs,o=some (.ref p)∧H p=some (.lst xs)∧P p=none∧N p=none∧C.B p=none∧RepsB C P N b ds xs
 |.slf c fs,o=>∃p dx xs,(p=C.S∧o=some (.ref p))∧H p=some (.ins (C.G.ca c) dx ((C.G.fl c).zip xs))∧P p=none∧N p=none∧C.B p=none∧fs.length≤(C.G.fl c).length∧RepsB C P N true fs xs
 |.fxd d k,o=>∃v,o=some v∧C.fx k=some v∧RepB C P N false d v
 |.dct m b,o=>∃p es,o=some (.ref p)∧H p=some (.dK es)∧P p=none∧N p=none∧C.B p=none∧DctR (RepB C P N b) m es
def ERr (H0:Hp):ER→V→Prop
 |.val d b,v=>RepB C P N b d v
 |.fre ds b,v=>∃p xs,v=.ref p∧H p=some (.lst xs)∧H0 p=none∧P p=none∧N p=none∧RepsB C P N b ds xs
 |.brw ds b,v=>∃p xs,v=.ref p∧H p=some (.lst xs)∧P p=none∧N p=none∧C.B p=none∧RepsB C P N b ds xs
def ERs (H0:Hp):List ER→List V→Prop
 |[],vs=>vs=[]
 |e::es,vs=>∃v r,vs=v::r∧ERr C P N H H0 e v∧ERs H0 es r
def ExR (fs:List D) (d:Option Addr):Prop:=(fs=[]∧d=none)∨∃dd f v,fs=[f]∧d=some dd∧H dd=some (.xd [(("at" : Str),v)])∧RepB C P N true f v
structure Reg:Prop where
 pH:Same P H
 nH:Same N H
 bH:Same C.B H
 rB:Same C.R C.B
 p0:Same C.P0 P
 pn:∀a,P a≠none→C.P0 a≠none∨C.B a=none
 nw:∀a,N a≠none→C.B a=none
 dj:∀a,N a≠none→P a=none
structure AD (ρ:List Sl) (σ:L2.St):Prop where
 un:∀(i j:Nat) (p:Addr) (m:List (Int × D)) (b:Bool) (m':List (Int × D)) (c:Bool),ρ[i]? = some (.dct m b)→ρ[j]? = some (.dct m' c)→σ[i]? = some (some (.ref p))→σ[j]? = some (some (.ref p))→i=j
structure SR (ρ:List Sl) (σ:L2.St):Prop where
 reg:Reg C P N H
 len:σ.length=ρ.length
 sl:∀(i:Nat) (s:Sl),ρ[i]? = some s→∃o,σ[i]? = some o∧SlR C P N H s o
 ap:∀(i j:Nat) (p:Addr) (ds:List D) (b:Bool) (es:List D) (c:Bool),ρ[i]? = some (.own ds b)→ρ[j]? = some (.own es c)→σ[i]? = some (some (.ref p))→σ[j]? = some (some (.ref p))→i=j
 ad:AD ρ σ
end
def Sl.isD:Sl→Bool
 |.dct _ _=>true
 |_=>false
theorem AD.sub {ρ ρ':List Sl} {σ σ':L2.St} (h:AD ρ σ) (k:∀(i:Nat) (m:List (Int × D)) (b:Bool),ρ'[i]? = some (Sl.dct m b)→σ'[i]? = σ[i]? ∧ ∃m' c,ρ[i]? = some (Sl.dct m' c)):AD ρ' σ':=⟨fun i j p m b m' c e1 e2 e3 e4=>by
 obtain⟨f1,_,_,g1⟩:=k i m b e1
 obtain⟨f2,_,_,g2⟩:=k j m' c e2
 rw[f1] at e3
 rw[f2] at e4
 exact h.un i j p _ _ _ _ g1 g2 e3 e4⟩
theorem AD.no {ρ:List Sl} {σ:L2.St} (h:∀(i:Nat) s,ρ[i]? = some s→s.isD=false):AD ρ σ:=⟨fun i j p m b m' c e1 e2 e3 e4=>by
 have:=h i _ e1
 cases this⟩
theorem AD.set {ρ:List Sl} {σ:L2.St} (h:AD ρ σ) {i:Nat} {s:Sl} {o:Option V} (hs:s.isD=false):AD (ρ.set i s) (σ.set i o):=h.sub fun j m b e=>by
 by_cases q:i=j
 ·subst q
  rw[List.getElem?_set] at e
  simp only[if_true] at e
  split at e
  ·cases e;cases hs
  ·cases e
 ·rw[List.getElem?_set_ne q] at e
  rw[List.getElem?_set_ne q]
  exact⟨rfl,_,_,e⟩
theorem AD.setS {ρ:List Sl} {σ:L2.St} (h:AD ρ σ) {i:Nat} {s:Sl} (hs:s.isD=false):AD (ρ.set i s) σ:=h.sub fun j m b e=>by
 by_cases q:i=j
 ·subst q
  rw[List.getElem?_set] at e
  simp only[if_true] at e
  split at e
  ·cases e;cases hs
  ·cases e
 ·rw[List.getElem?_set_ne q] at e
  exact⟨rfl,_,_,e⟩
section
variable {C:Ctx} {P N H P' N' H':Hp} {ρ:List Sl} {σ:L2.St}
theorem Reg.rH (h:Reg C P N H):Same C.R H:=h.rB.trans h.bH
theorem Reg.adv (h:Reg C P N H) (a:Adv P N H P' N' H'):Reg C P' N' H' where
 pH:=a.pH
 nH:=a.nH
 bH:=h.bH.trans a.hh
 rB:=h.rB
 p0:=h.p0.trans a.pp
 pn:=fun q e=>by
  rcases a.pn q e with e | e
  ·exact h.pn q e
  ·exact .inr (h.bH.free e)
 nw:=fun q e=>by
  rcases a.nw q e with e | e
  ·exact h.nw q e
  ·exact h.bH.free e
 dj:=fun q e=>by
  cases e2:P' q with
  |none=>rfl
  |some o =>
   have e3:P' q≠none:=by rw[e2];exact fun z=>nomatch z
   have e4:=a.dj q e e3
   rcases a.pn q e3 with z | z
   ·exact absurd (h.dj q e4) z
   ·exact absurd (h.nH.free z) e4
theorem RepB.adv {b:Bool} {d:D} {v:V} (hp:Same P P') (hn:Same N N') (h:RepB C P N b d v):RepB C P' N' b d v:=Rep.mono hp d v (LNb.mono hp hn) h
theorem RepsB.adv {b:Bool} {ds:List D} {vs:List V} (hp:Same P P') (hn:Same N N') (h:RepsB C P N b ds vs):RepsB C P' N' b ds vs:=Reps.mono hp ds vs (LNb.mono hp hn) h
theorem RepB.and1 {b c:Bool} {d:D} {v:V} (h:RepB C P N b d v):RepB C P N (b&&c) d v:=Rep.mono (L2.Same.refl _) d v LNb.and1 h
theorem RepB.and2 {b c:Bool} {d:D} {v:V} (h:RepB C P N c d v):RepB C P N (b&&c) d v:=Rep.mono (L2.Same.refl _) d v LNb.and2 h
theorem RepsB.and1 {b c:Bool} {d:List D} {v:List V} (h:RepsB C P N b d v):RepsB C P N (b&&c) d v:=Reps.mono (L2.Same.refl _) d v LNb.and1 h
theorem RepsB.and2 {b c:Bool} {d:List D} {v:List V} (h:RepsB C P N c d v):RepsB C P N (b&&c) d v:=Reps.mono (L2.Same.refl _) d v LNb.and2 h
theorem RepB.nf {b:Bool} {d:D} {v:V} (h:RepB C P N b d v):RepB C P N (b||d.flat) d v:=by
 cases b with
 |true=>exact h
 |false =>
  cases e:d.flat with
  |true=>exact Rep.flat d v e h
  |false=>exact h
theorem RepsB.nf {b:Bool} {d:List D} {v:List V} (h:RepsB C P N b d v):RepsB C P N (b||D.flats d) d v:=by
 cases b with
 |true=>exact h
 |false =>
  cases e:D.flats d with
  |true=>exact Reps.flat d v e h
  |false=>exact h
theorem Adv.off (a:Adv P N H P' N' H') {p:Addr} {o:HO} (h:H p=some o) (hp:P p=none):P' p=none:=by
 cases q:P' p with
 |none=>rfl
 |some u =>
  rcases a.pn p (by rw[q];simp) with z | z
  ·exact absurd hp z
  ·rw[h] at z;cases z
theorem Adv.offN (a:Adv P N H P' N' H') {p:Addr} {o:HO} (h:H p=some o) (hn:N p=none):N' p=none:=by
 cases q:N' p with
 |none=>rfl
 |some u =>
  rcases a.nw p (by rw[q];simp) with z | z
  ·exact absurd hn z
  ·rw[h] at z;cases z
theorem DctR.mono {R R':D→V→Prop} (k:∀d v,R d v→R' d v):∀{m:List (Int × D)} {es:List (Key × V)},DctR R m es→DctR R' m es
 |[],_,h=>h
 |_::_,_,⟨v,r,e,h1,h2⟩=>⟨v,r,e,k _ _ h1,DctR.mono k h2⟩
theorem DctR.adv {b:Bool} (hp:Same P P') (hn:Same N N') {m:List (Int × D)} {es:List (Key × V)} (h:DctR (RepB C P N b) m es):DctR (RepB C P' N' b) m es:=h.mono fun _ _=>RepB.adv hp hn
theorem SlR.adv (a:Adv P N H P' N' H') {s:Sl} {o:Option V} (h:SlR C P N H s o):SlR C P' N' H' s o:=by
 cases s with
 |non=>trivial
 |val d b =>
  obtain⟨v,h3,h4⟩:=h
  exact⟨v,h3,RepB.adv a.pp a.nn h4⟩
 |own ds b =>
  obtain⟨p,xs,h3,h4,h5,h6,h7,h8⟩:=h
  exact⟨p,xs,h3,a.hh _ _ h4,a.off h4 h5,a.offN h4 h6,h7,RepsB.adv a.pp a.nn h8⟩
 |slf c fs =>
  obtain⟨p,dx,xs,h3,h4,h5,h6,h7,h8,h9⟩:=h
  exact⟨p,dx,xs,h3,a.hh _ _ h4,a.off h4 h5,a.offN h4 h6,h7,h8,RepsB.adv a.pp a.nn h9⟩
 |fxd d k =>
  obtain⟨v,h3,h4,h5⟩:=h
  exact⟨v,h3,h4,RepB.adv a.pp a.nn h5⟩
 |dct m b =>
  obtain⟨p,es,h3,h4,h5,h6,h7,h8⟩:=h
  exact⟨p,es,h3,a.hh _ _ h4,a.off h4 h5,a.offN h4 h6,h7,h8.adv a.pp a.nn⟩
theorem SR.adv (S:SR C P N H ρ σ) (a:Adv P N H P' N' H'):SR C P' N' H' ρ σ where
 reg:=S.reg.adv a
 len:=S.len
 sl:=fun i s e=>by
  obtain⟨o,h1,h2⟩:=S.sl i s e
  exact⟨o,h1,h2.adv a⟩
 ap:=S.ap
 ad:=S.ad
theorem ERr.adv (a:Adv P N H P' N' H') {H0:Hp} {er:ER} {v:V} (h:ERr C P N H H0 er v):ERr C P' N' H' H0 er v:=by
 cases er with
 |val d b=>exact RepB.adv a.pp a.nn h
 |fre ds b =>
  obtain⟨p,xs,h3,h4,h5,h6,h7,h8⟩:=h
  exact⟨p,xs,h3,a.hh _ _ h4,h5,a.off h4 h6,a.offN h4 h7,RepsB.adv a.pp a.nn h8⟩
 |brw ds b =>
  obtain⟨p,xs,h3,h4,h5,h6,h7,h8⟩:=h
  exact⟨p,xs,h3,a.hh _ _ h4,a.off h4 h5,a.offN h4 h6,h7,RepsB.adv a.pp a.nn h8⟩
theorem ERs.adv (a:Adv P N H P' N' H') {H0:Hp}:∀{er:List ER} {v:List V},ERs C P N H H0 er v→ERs C P' N' H' H0 er v
 |[],_,h=>h
 |e::es,_,⟨v,r,h1,h2,h3⟩=>⟨v,r,h1,h2.adv a,ERs.adv a h3⟩
theorem ERr.from {H0 H1:Hp} (e:Same H1 H0) {er:ER} {v:V} (h:ERr C P N H H0 er v):ERr C P N H H1 er v:=by
 cases er with
 |val d b=>exact h
 |fre ds b =>
  obtain⟨p,xs,h3,h4,h5,h6⟩:=h
  exact⟨p,xs,h3,h4,e.free h5,h6⟩
 |brw ds b=>exact h
theorem ERs.from {H0 H1:Hp} (e:Same H1 H0):∀{er:List ER} {v:List V},ERs C P N H H0 er v→ERs C P N H H1 er v
 |[],_,h=>h
 |_::_,_,⟨v,r,h1,h2,h3⟩=>⟨v,r,h1,h2.from e,ERs.from e h3⟩
theorem ERr.freeze {P1 N1 H0:Hp} {er:ER} {v:V} (a:Adv P1 N1 H0 P N H) (h:ERr C P N H H0 er v):∃N'',Adv P1 N1 H0 P N'' H∧ERr C P N'' H H0 er.frz v:=by
 cases er with
 |val d b=>exact⟨N,a,h⟩
 |brw d b=>exact⟨N,a,h⟩
 |fre ds b =>
  obtain⟨p,xs,rfl,h1,h2,h3,h4,h5⟩:=h
  have sn:Same N (upd N p (.lst xs)):=qaN h4
  exact⟨upd N p (.lst xs),a.holdN h2 h1 h4 h3,p,xs,rfl,.inl upd_same,RepsB.adv (L2.Same.refl _) sn h5⟩
def ERw (C:Ctx) (P N H:Hp) (d:D) (b:Bool) (v:V):Prop:=
 match d with
 |.lst ds=>∃p xs,v=.ref p∧SqL C.G.K H p xs∧RepsB C P N b ds xs
 |d=>RepB C P N b d v
theorem ERr.w (r:Reg C P N H) {H0:Hp} {er:ER} {v:V} (h:ERr C P N H H0 er v):ERw C P N H er.d er.b v:=by
 cases er with
 |val d b =>
  cases d with
  |lst ds =>
   obtain⟨p,xs,e,h1,h2⟩:=h
   exact⟨p,xs,e,LNb.seq r.pH r.nH r.rH _ _ h1,h2⟩
  |_=>exact h
 |fre ds b =>
  obtain⟨p,xs,h3,h4,_,_,_,h5⟩:=h
  exact⟨p,xs,h3,.inl (.inl h4),h5⟩
 |brw ds b =>
  obtain⟨p,xs,h3,h4,_,_,_,h5⟩:=h
  exact⟨p,xs,h3,.inl (.inl h4),h5⟩
end
def spD (G:Glo) (n:Nat) (g:List D→RE ER):Sp:=fun vs H Q E=>∃P R ds,Same P H∧Same R H∧Reps G P (SqL G.K R) ds vs∧ds.length=n∧match g ds with
 |.bad=>False
 |.ok er=>∀v H' P' N',Adv P (fun _=>none) H P' N' H'→ERr ⟨G,R,H,P,fun _ _ _ _=>False,0,fun _=>none⟩ P' N' H' H er v→Q v H'
 |.exc c fs=>∀d H' P' N',Adv P (fun _=>none) H P' N' H'→ExR ⟨G,R,H,P,fun _ _ _ _=>False,0,fun _=>none⟩ P' N' H' fs d→E (.ref (G.ca c)) d H'
theorem qrW {G:Glo} {n:Nat} {g:List D→RE ER} {vs:List V} {H:Hp} {Q:VK} {E:XK} (h:spD G n g vs H Q E):vs.length=n:=by
 obtain⟨P,R,ds,_,_,h1,h2,_⟩:=h
 rw[h1.length,h2]
def spI (G:Glo) (c n:Nat) (g:List D→RE (List D)):Sp:=fun vs H Q E=>∃x dx H0 P R ds us,vs=.ref x::us∧H=upd (upd H0 dx (.own x)) x (.ins (G.ca c) dx [])∧H0 x=none∧H0 dx=none∧Same P H0∧Same R H0∧Reps G P (SqL G.K R) ds us∧ds.length=n∧match g ds with
 |.bad=>False
 |.ok fs=>∀H' P',Same H0 H'→Same P P'→Same P' H'→(∀a,P' a≠none→P a≠none∨H0 a=none)→Rep G P' (fun _ _=>False) (.ins c fs) (.ref x)→Q .non H'
 |.exc c fs=>∀d H' P' N',Adv P (fun _=>none) H0 P' N' H'→ExR ⟨G,R,H0,P,fun _ _ _ _=>False,0,fun _=>none⟩ P' N' H' fs d→E (.ref (G.ca c)) d H'
theorem qr1 {G:Glo} {c n:Nat} {g:List D→RE (List D)} {vs:List V} {H:Hp} {Q:VK} {E:XK} (h:spI G c n g vs H Q E):vs.length=n+1:=by
 obtain⟨x,dx,H0,P,R,ds,us,rfl,_,_,_,_,_,h1,h2,_⟩:=h
 rw[List.length_cons,h1.length,h2]
end Cm
namespace Cm
open PySem PySem.Spec PyProof.Rows L2
def qaA (s:List Nat):Str:=⟨s.toArray⟩
inductive Bop where
 |add | sub | mul | fdv | mdl | pow | shl | shr | and | or
inductive Cop where
 |eq | ne | lt | le | gt | ge | isin | nin
inductive Pri where
 |len | abs | min2 | max2 | min1 | max1 | sum | sorted | all | any | list | tupl | int | str | dmd
inductive Bme where
 |split | join | find
inductive Ty where
 |bool | int | str | list | tuple
mutual
inductive Ex where
 |nev
 |var (i:Nat)
 |cint (i:Int)
 |cbl (b:Bool)
 |cnon
 |cstr (s:List Nat)
 |glo (k:Nat)
 |bin (o:Bop) (a b:Ex)
 |cmp (o:Cop) (a b:Ex)
 |chn (o p:Cop) (a b c:Ex)
 |isN (a:Ex)
 |notN (a:Ex)
 |bop (and:Bool) (es:Exs)
 |bnot (a:Ex)
 |neg (a:Ex)
 |ife (c:Te) (a b:Ex)
 |tup (es:Exs)
 |lst (es:Exs)
 |idx (a i:Ex)
 |slc (a:Ex) (lo hi:Exs)
 |rev (a:Ex)
 |call (f:Nat) (es:Exs)
 |pri (p:Pri) (es:Exs)
 |lrng (es:Exs)
 |mth (m:Nat) (o:Ex) (es:Exs)
 |bm1 (m:Bme) (o a:Ex)
 |blen (o:Ex)
 |fld (o:Ex) (f:Nat)
 |isi (a:Ex) (t:Ty)
 |lc (own:List Nat) (it:Itx) (tg:List Nat) (cnd:Tes) (e:Ex)
 |inxL (o a:Ex)
 |inxS (o a:Ex)
 |lset (a:Ex)
 |new (k:Nat) (es:Exs)
 |sfd (i f:Nat)
 |isc (a:Ex) (k:Nat)
 |iscT (a:Ex) (ks:List Nat)
 |cntL (o a:Ex)
 |mmd (k:Bool) (a d:Ex)
 |din (n:Bool) (k:Nat) (e:Ex)
 |dgi (k:Nat) (e:Ex)
 |srtL (a:Ex)
 |sset (a:Ex)
 |lrev (a:Ex)
 |callc (f:Nat) (es:Exs)
 |inxT (k:Nat) (a:Ex)
 |dhas (n:Bool) (i:Nat) (e:Ex)
 |dat (i:Nat) (e:Ex)
inductive Te where
 |val (e:Ex)
 |bop (and:Bool) (ts:Tes)
 |not (t:Te)
inductive Tes where
 |nil
 |cons (t:Te) (ts:Tes)
inductive Exs where
 |nil
 |cons (e:Ex) (es:Exs)
inductive Itx where
 |any (e:Ex)
 |rng (es:Exs)
 |zp (a b:Ex)
 |en (a:Ex)
 |rv (a:Ex)
 |rvr (a:Ex)
end
@[simp] def ok (d:D):RE ER:=.ok (.val d true)
def qpl (i j:Int):Prop:=(-(2 ^ 64)<i∧i<2 ^ 64)∨(-(2 ^ 64)<j∧j<2 ^ 64)
instance (i j:Int):Decidable (qpl i j):=by unfold qpl;infer_instance
def qnr (j:Int):Prop:=j≠0∧j.natAbs<1073741824
instance (j:Int):Decidable (qnr j):=by unfold qnr;infer_instance
def qpR (i j:Int):Prop:=0≤j∧j≤1000000∧i.natAbs<2 ^ 64
instance (i j:Int):Decidable (qpR i j):=by unfold qpR;infer_instance
def LIM:Nat:=16777216
def gd {α:Type} (b:Bool) (r:RE α):RE α:=match b with
 |true=>r
 |false=>.bad
@[simp] theorem qk2 {α:Type} (r:RE α):gd true r=r:=rfl
theorem qd6 {α:Type} (b:Bool) (r:RE α):gd b r=if b=true then r else .bad:=by cases b<;>rfl
/- (they look at the first numeral alone: where it isn't known they stand still) -/
def qpc (i j:Int):Bool:=Nat.ble i.natAbs 18446744073709551615||(Nat.ble j.natAbs 18446744073709551615||Nat.ble (Builtin.Int.intBits i+Builtin.Int.intBits j) 134217728)
def nzB (j:Int):Bool:=Nat.ble 1 j.natAbs
def qsj (j:Int):Bool:=nzB j&&Nat.ble j.natAbs 1073741823
def dmB (j:Int):Bool:=Nat.ble 1 j.toNat&&Nat.ble j.natAbs 1073741823
def nnB (j:Int):Bool:=match j with
 |.ofNat _=>true
 |.negSucc _=>false
def qtS (i j:Int):Bool:=nnB j&&(Nat.ble j.natAbs 1000000&&Nat.ble i.natAbs 18446744073709551615)
def leB (n:Nat):Bool:=Nat.ble n LIM
def qvB (n:Nat) (k:Int):Bool:=Nat.ble k.natAbs 9223372036854775807&&leB (n*k.toNat)
def quN (i:Int):Bool:=Nat.ble i.natAbs.log2 1919
def qvK (t s:Nat):Bool:=Nat.ble 1 t&&leB (s+2)
theorem qbz (j:Int):(nzB j=true)=(j≠0):=by
 unfold nzB
 rw[Nat.ble_eq]
 exact propext ⟨fun h=>by omega,fun h=>by omega⟩
theorem qao (n:Nat):(leB n=true)=(n≤LIM):=by
 unfold leB
 rw[Nat.ble_eq]
theorem qbJ (j:Int):(nnB j=true)=(0≤j):=by
 cases j with
 |ofNat n=>exact propext ⟨fun _=>Int.natCast_nonneg n,fun _=>rfl⟩
 |negSucc n=>exact propext ⟨fun h=>(by cases h),fun h=>(by omega)⟩
theorem qby (i j:Int):(qpc i j=true)=(qpl i j∨CMulX i j):=by
 unfold qpc qpl CMulX
 rw[Bool.or_eq_true,Bool.or_eq_true,Nat.ble_eq,Nat.ble_eq,Nat.ble_eq]
 refine propext ⟨fun h=>?_,fun h=>?_⟩
 ·rcases h with h | h | h
  ·exact .inl (.inl (by omega))
  ·exact .inl (.inr (by omega))
  ·exact .inr (by omega)
 ·rcases h with(h | h) | h
  ·exact .inl (by omega)
  ·exact .inr (.inl (by omega))
  ·exact .inr (.inr (by omega))
theorem qbd (j:Int):(qsj j=true)=qnr j:=by
 unfold qsj qnr
 rw[Bool.and_eq_true,qbz,Nat.ble_eq]
 exact propext ⟨fun h=>⟨h.1,by omega⟩,fun h=>⟨h.1,by omega⟩⟩
theorem qrT (j:Int):(dmB j=true)=(0<j∧j<1073741824):=by
 unfold dmB
 rw[Bool.and_eq_true,Nat.ble_eq,Nat.ble_eq]
 exact propext ⟨fun h=>by omega,fun h=>by omega⟩
theorem qbw (i j:Int):(qtS i j=true)=qpR i j:=by
 unfold qtS qpR
 rw[Bool.and_eq_true,Bool.and_eq_true,qbJ,Nat.ble_eq,Nat.ble_eq]
 exact propext ⟨fun h=>⟨h.1,by omega,by omega⟩,fun h=>⟨h.1,by omega,by omega⟩⟩
theorem qs3 {n:Nat} {k:Int} (h:qvB n k=true):-(2 ^ 63)≤k∧k<2 ^ 63∧n*k.toNat≤LIM:=by
 unfold qvB at h
 rw[Bool.and_eq_true,qao,Nat.ble_eq] at h
 exact⟨by omega,by omega,h.2⟩
theorem qbv (i:Int):(quN i=true)=(i.natAbs.log2<1920):=by
 unfold quN
 rw[Nat.ble_eq]
 exact propext ⟨fun h=>by omega,fun h=>by omega⟩
theorem qa5 (t s:Nat):(qvK t s=true)=(t≠0∧s+2≤LIM):=by
 unfold qvK
 rw[Bool.and_eq_true,qao,Nat.ble_eq]
 exact propext ⟨fun h=>⟨by omega,h.2⟩,fun h=>⟨by omega,h.2⟩⟩
@[simp] def evB (o:Bop) (x y:D) (b:Bool):RE ER:=
 match o with
 |.add=>match x,y with
  |.int i,.int j=>ok (.int (i+j))
  |.str s,.str t=>gd (leB (s.length+t.length)) (ok (.str (s++t)))
  |.lst xs,.lst ys=>gd (leB (xs.length+ys.length)) (.ok (.fre (xs++ys) b))
  |_,_=>.bad
 |.sub=>match x,y with
  |.int i,.int j=>ok (.int (i - j))
  |_,_=>.bad
 |.mul=>match x,y with
  |.int i,.int j=>gd (qpc i j) (ok (.int (i*j)))
  |.lst xs,.int k=>gd (qvB xs.length k) (.ok (.fre (List.replicate k.toNat xs).flatten b))
  |_,_=>.bad
 |.fdv=>match x,y with
  |.int i,.int j=>gd (qsj j) (ok (.int (i.fdiv j)))
  |_,_=>.bad
 |.mdl=>match x,y with
  |.int i,.int j=>gd (nzB j) (ok (.int (i.fmod j)))
  |_,_=>.bad
 |.pow=>match x,y with
  |.int i,.int j=>gd (qtS i j) (ok (.int (i ^ j.toNat)))
  |_,_=>.bad
 |.shl=>match x,y with
  |.int i,.int j=>gd (qtS i j) (ok (.int (i*2 ^ j.toNat)))
  |_,_=>.bad
 |.shr=>match x,y with
  |.int i,.int j=>gd (nnB j) (ok (.int (i / 2 ^ j.toNat)))
  |_,_=>.bad
 |.and=>match x,y with
  |.int i,.int j=>ok (.int (Builtin.bitAnd i j))
  |_,_=>.bad
 |.or=>match x,y with
  |.int i,.int j=>ok (.int (Builtin.bitOr i j))
  |_,_=>.bad
def qlO (x y:D):RE Bool:=
 match x,y with
 |.int i,.int j=>.ok (decide (i=j))
 |.str s,.str t=>.ok (decide (s=t))
 |.bl a,.bl b=>.ok (a == b)
 |x,y=>if (x.fit 64&&y.fit 64)=true then .ok (x.eqb y) else .bad
def qq6 (x y:D):RE Bool:=
 match y with
 |.lst ys=>if (x.fit 64&&(D.lst ys).fit 64)=true then .ok (ys.any fun z=>z.eqb x) else .bad
 |.tup ys=>if (x.fit 0&&D.fits ys 0)=true then .ok (ys.any fun z=>z.eqb x) else .bad
 |.str t=>match x with
  |.str [c]=>.ok (decide (c∈t))
  |_=>.bad
 |_=>.bad
@[simp] def evC (o:Cop) (x y:D):RE Bool:=
 match o with
 |.eq=>qlO x y
 |.ne=>(qlO x y).bind fun b=>.ok (!b)
 |.isin=>qq6 x y
 |.nin=>(qq6 x y).bind fun b=>.ok (!b)
 |.lt=>match x,y with
  |.int i,.int j=>.ok (decide (i<j))
  |_,_=>.bad
 |.le=>match x,y with
  |.int i,.int j=>.ok (decide (i≤j))
  |_,_=>.bad
 |.gt=>match x,y with
  |.int i,.int j=>.ok (decide (j<i))
  |_,_=>.bad
 |.ge=>match x,y with
  |.int i,.int j=>.ok (decide (j≤i))
  |_,_=>.bad
@[simp] def qjn (x:D):RE Bool:=
 match x with
 |.bl b=>.ok b
 |.int i=>.ok (i != 0)
 |.non=>.ok false
 |.lst xs=>.ok (!xs.isEmpty)
 |.tup xs=>.ok (!xs.isEmpty)
 |_=>.bad
@[simp] def qtG (a i:D) (b:Bool):RE ER:=
 match a,i with
 |.lst xs,.int i=>match atI xs i with
  |some x=>.ok (.val x (b||x.flat))
  |none=>.bad
 |.tup xs,.int i=>match atI xs i with
  |some x=>.ok (.val x (b||x.flat))
  |none=>.bad
 |.str s,.int i=>gd (leB s.length) (match atI s i with
  |some c=>ok (.str [c])
  |none=>.bad)
 |_,_=>.bad
def qe5 {α:Type} (xs:List α) (lo hi:Option Int):List α:=(xs.drop (HT.sIx xs.length 0 lo)).take (HT.sIx xs.length xs.length hi - HT.sIx xs.length 0 lo)
@[simp] def qwv (a:D) (lo hi:Option Int) (b:Bool):RE ER:=
 match a with
 |.lst xs=>.ok (.fre (qe5 xs lo hi) b)
 |.tup xs=>gd (!(decide (HT.sIx xs.length 0 lo=0)&&decide (HT.sIx xs.length xs.length hi=xs.length))) (.ok (.val (.tup (qe5 xs lo hi)) b))
 |.str s=>gd (leB s.length) (ok (.str (qe5 s lo hi)))
 |_=>.bad
def qaU:List D→Option (List Int)
 |[]=>some []
 |.int i::ds=>(qaU ds).map (i :: ·)
 |_::_=>none
def qfY:List D→Option (List Bool)
 |[]=>some []
 |.bl i::ds=>(qfY ds).map (i :: ·)
 |_::_=>none
def qfm:List D→Option (List (List Nat))
 |[]=>some []
 |.str i::ds=>(qfm ds).map (i :: ·)
 |_::_=>none
def qkE:List Int→Int
 |[]=>0
 |[x]=>x
 |x::xs=>max x (qkE xs)
def qmR:List Int→Int
 |[]=>0
 |[x]=>x
 |x::xs=>min x (qmR xs)
def qsd (x:Int):List Int→List Int
 |[]=>[x]
 |y::ys=>if x≤y then x::y::ys else y::qsd x ys
def qe1:List Int→List Int
 |[]=>[]
 |x::xs=>qsd x (qe1 xs)
def qeT:List Int→List Int→Bool
 |[],[]=>false
 |[],_::_=>true
 |_::_,[]=>false
 |a::as,b::bs=>if a=b then qeT as bs else decide (a<b)
def qtX (x:List Int):List (List Int)→List (List Int)
 |[]=>[x]
 |y::ys=>if qeT y x=true then y::qtX x ys else x::y::ys
def qf0:List (List Int)→List (List Int)
 |[]=>[]
 |x::xs=>qtX x (qf0 xs)
def liD:D→Option (List Int)
 |.lst ds=>qaU ds
 |_=>none
def qqH:List D→Option (List (List Int))
 |[]=>some []
 |d::ds=>match liD d with
  |some n=>(qqH ds).map (n :: ·)
  |none=>none
def liV (n:List Int):D:=.lst (n.map D.int)
def qtC (x:D) (b:Bool):RE ER:=match x with
 |.lst xs=>match qqH xs with
  |some ls=>.ok (.fre ((qf0 ls).map liV) b)
  |none=>.bad
 |_=>.bad
def qvo (k:Bool) (ns:List Int) (d:Int):Int:=match ns with
 |[]=>d
 |n::ns=>if k=true then qkE (n::ns) else qmR (n::ns)
def quP (k:Bool) (x y:D):RE ER:=match x with
 |.lst xs=>match qaU xs with
  |some ns=>match y with
   |.int d=>ok (.int (qvo k ns d))
   |_=>.bad
  |none=>.bad
 |_=>.bad
@[simp] def evP (p:Pri) (es:List ER):RE ER:=
 match p,es with
 |.len,[e]=>match e.d with
  |.lst xs=>ok (.int xs.length)
  |.tup xs=>ok (.int xs.length)
  |.str s=>gd (leB s.length) (ok (.int s.length))
  |_=>.bad
 |.abs,[e]=>match e.d with
  |.int i=>ok (.int (if i<0 then -i else i))
  |_=>.bad
 |.min2,[e,f]=>match e.d,f.d with
  |.int i,.int j=>ok (.int (if j<i then j else i))
  |_,_=>.bad
 |.max2,[e,f]=>match e.d,f.d with
  |.int i,.int j=>ok (.int (if j>i then j else i))
  |_,_=>.bad
 |.min1,[e]=>match e.d with
  |.lst xs=>match qaU xs with
   |some (n::ns)=>ok (.int (qmR (n::ns)))
   |_=>.bad
  |_=>.bad
 |.max1,[e]=>match e.d with
  |.lst xs=>match qaU xs with
   |some (n::ns)=>ok (.int (qkE (n::ns)))
   |_=>.bad
  |_=>.bad
 |.sum,[e]=>match e.d with
  |.lst xs=>match qaU xs with
   |some ns=>ok (.int ns.sum)
   |none=>.bad
  |_=>.bad
 |.sorted,[e]=>match e.d with
  |.lst xs=>match qaU xs with
   |some ns=>.ok (.fre ((qe1 ns).map D.int) true)
   |none=>.bad
  |_=>.bad
 |.all,[e]=>match e.d with
  |.lst xs=>match qfY xs with
   |some bs=>ok (.bl (bs.all id))
   |none=>.bad
  |_=>.bad
 |.any,[e]=>match e.d with
  |.lst xs=>match qfY xs with
   |some bs=>ok (.bl (bs.any id))
   |none=>.bad
  |_=>.bad
 |.list,[e]=>match e.d with
  |.lst xs=>.ok (.fre xs (e.b||D.flats xs))
  |.tup xs=>.ok (.fre xs (e.b||D.flats xs))
  |_=>.bad
 |.tupl,[e]=>match e.d with
  |.lst xs=>.ok (.val (.tup xs) (e.b||D.flats xs))
  |_=>.bad
 |.int,[e]=>match e.d with
  |.int i=>ok (.int i)
  |.bl c=>ok (.int (if c then 1 else 0))
  |.str s=>match intText? (qaA s) with
   |some n=>gd (Nat.ble s.length 640) (ok (.int n))
   |none=>.bad
  |_=>.bad
 |.dmd,[e,f]=>match e.d,f.d with
  |.int i,.int j=>gd (dmB j) (ok (.tup [.int (i / j),.int (i % j)]))
  |_,_=>.bad
 |.str,[e]=>match e.d with
  |.int i=>gd (quN i) (ok (.str (toString i:Str).cps.toList))
  |_=>.bad
 |_,_=>.bad
def idxD (y:D):List D→Option Nat
 |[]=>none
 |x::xs=>if x.eqb y=true then some 0 else (idxD y xs).map (· + 1)
def qhX (xs:List D) (y:D):RE ER:=
 if (y.fit 0&&D.fits xs 0)=true then (match idxD y xs with
  |some j=>ok (.int j)
  |none=>.bad) else .bad
def qrJ (x:Int):List Int→List Int
 |[]=>[x]
 |y::ys=>if x<y then x::y::ys else if x=y then y::ys else y::qrJ x ys
def qmW:List Int→List Int
 |[]=>[]
 |x::xs=>qrJ x (qmW xs)
def qoo (x:D):RE ER:=match x with
 |.lst xs=>match qaU xs with
  |some ns=>gd (Nat.ble ns.length 63) (.ok (.fre ((qmW ns).map D.int) true))
  |none=>.bad
 |_=>.bad
def qoC (x:D):RE ER:=match x with
 |.lst xs=>match qaU xs with
  |some ns=>gd (leB ns.length) (.ok (.fre (ns.reverse.map D.int) true))
  |none=>.bad
 |_=>.bad
def qrF (z:Int):List Int→Option Nat
 |[]=>none
 |s::ss=>if s=z then some 0 else (qrF z ss).map (· + 1)
def qrq (z:List Nat):List (List Nat)→Option Nat
 |[]=>none
 |s::ss=>if s=z then some 0 else (qrq z ss).map (· + 1)
def qnw (ss:List (List Nat)) (y:D):RE ER:=match y with
 |.str z=>(match qrq z ss with
  |some j=>ok (.int j)
  |none=>.bad)
 |_=>.bad
def qpt:D→Option (List (List Nat))
 |.tup xs=>qfm xs
 |_=>none
def qpL (xs:List D) (y:D):RE ER:=
 match qaU xs with
 |some ns=>match y with
  |.int k=>ok (.int (ns.count k:Nat))
  |_=>.bad
 |none=>.bad
def ql5 (s:List Nat) (y:D):RE ER:=
 match y with
 |.str t=>(match Builtin.Str.occurrences (qaA s) (qaA t) 0 s.length 1 with
  |j::_=>ok (.int (j:Nat))
  |[]=>.bad)
 |_=>.bad
def qqw (ns:List Int):Nat:=(PyProof.Rows.firstMet (fun i=>ns.getD i 0) ns.length).length
@[simp] def ql2 (x:D):RE ER:=
 match x with
 |.lst xs=>match qaU xs with
  |some ns=>gd (Nat.ble ns.length 1000) (ok (.int (qqw ns)))
  |none=>.bad
 |_=>.bad
@[simp] def evM (m:Bme) (s:List Nat) (y:D):RE ER:=
 match m with
 |.split=>match y with
  |.str t=>gd (qvK t.length s.length) (.ok (.fre ((Txt.split (qaA s) (qaA t)).map fun z=>.str z.cps.toList) true))
  |_=>.bad
 |.join=>match y with
  |.lst xs=>match qfm xs with
   |some ss=>gd (leB ((ss.map List.length).sum+ss.length*s.length)) (ok (.str (Txt.join (qaA s) (ss.map qaA)).cps.toList))
   |none=>.bad
  |_=>.bad
 |.find=>match y with
  |.str t=>ok (.int (Txt.find (qaA s) (qaA t)))
  |_=>.bad
@[simp] def qtW (x:D) (t:Ty):RE ER:=
 match x,t with
 |.bl _,.bool=>ok (.bl true)
 |.bl _,.int=>ok (.bl true)
 |.int _,.int=>ok (.bl true)
 |.str _,.str=>ok (.bl true)
 |.lst _,.list=>ok (.bl true)
 |.tup _,.tuple=>ok (.bl true)
 |.ins _ _,_=>.bad
 |.exc _ _,_=>.bad
 |_,_=>ok (.bl false)
def qfI (lo c:Int) (n:Nat):List Int:=(List.range n).map fun(i:Nat)=>lo+(i:Int)*c
def inB (i:Int):Prop:=-(2 ^ 62)≤i∧i<2 ^ 62
instance (i:Int):Decidable (inB i):=by unfold inB;infer_instance
def qtY (i j c:Int):Nat:=(Builtin.Range.rangeSize i j c).toNat
def qtx (i:Int):Bool:=Nat.ble i.natAbs 4611686018427387903
def qm1 (n:Int):Bool:=qtx n&&leB n.toNat
def qvz (i j:Int):Bool:=qtx i&&(qtx j&&leB (j - i).toNat)
def qvH (i j c:Int):Bool:=nzB c&&(Nat.ble c.natAbs 1073741823&&(Builtin.Range.small i j c&&(nnB (Builtin.Range.rangeSize i j c)&&leB (qtY i j c))))
theorem qkI {i:Int} (h:qtx i=true):inB i:=by
 unfold qtx at h
 rw[Nat.ble_eq] at h
 exact⟨by omega,by omega⟩
theorem qlH {n:Int} (h:qm1 n=true):inB n∧n.toNat≤LIM:=by
 unfold qm1 at h
 rw[Bool.and_eq_true,qao] at h
 exact⟨qkI h.1,h.2⟩
theorem qnU {i j:Int} (h:qvz i j=true):inB i∧inB j∧(j - i).toNat≤LIM:=by
 unfold qvz at h
 rw[Bool.and_eq_true,Bool.and_eq_true,qao] at h
 exact⟨qkI h.1,qkI h.2.1,h.2.2⟩
theorem qbx (i j c:Int):(qvH i j c=true)=(c≠0∧c.natAbs<1073741824∧Builtin.Range.small i j c=true∧0≤Builtin.Range.rangeSize i j c∧qtY i j c≤LIM):=by
 unfold qvH
 rw[Bool.and_eq_true,Bool.and_eq_true,Bool.and_eq_true,Bool.and_eq_true,qbz,Nat.ble_eq,qbJ,qao]
 exact propext ⟨fun h=>⟨h.1,by omega,h.2.2⟩,fun h=>⟨h.1,by omega,h.2.2⟩⟩
@[simp] def qeu (es:List ER):RE (List Int):=
 match es with
 |[a]=>match a.d with
  |.int n=>gd (qm1 n) (.ok (qfI 0 1 n.toNat))
  |_=>.bad
 |[a,b]=>match a.d,b.d with
  |.int i,.int j=>gd (qvz i j) (.ok (qfI i 1 (j - i).toNat))
  |_,_=>.bad
 |[a,b,c]=>match a.d,b.d,c.d with
  |.int i,.int j,.int c=>gd (qvH i j c) (.ok (qfI i c (qtY i j c)))
  |_,_,_=>.bad
 |_=>.bad
structure Env where
 fn:List (Str × (List D→RE ER))
 gc:List (Str × D)
 mn:List Str
 mt:Nat→Nat→Option (List D→RE ER)
 fs:List Str
 fi:Nat→Nat→Option Nat
 nw:List (Nat × (List D→RE (List D))):=[]
 ck:List (Nat→Option Bool):=[]
 ik:List (Nat→Option Bool):=[]
 xk:List Nat:=[]
 dc:List (Str × List (List Nat × Option D)):=[]
def qaE:List (Nat × Nat × (List D→RE ER))→Nat→Nat→Option (List D→RE ER)
 |[],_,_=>none
 |t::r,c,m=>if t.1=c then (if t.2.1=m then some t.2.2 else qaE r c m) else qaE r c m
def qaF:List (Nat × Nat × Nat)→Nat→Nat→Option Nat
 |[],_,_=>none
 |t::r,c,m=>if t.1=c then (if t.2.1=m then some t.2.2 else qaF r c m) else qaF r c m
@[simp] def qcJ (k:Bool) (er:ER):RE ER:=
 match k with
 |false=>match er with
  |.brw _ _=>.bad
  |.val d b=>.ok (.val d (b||d.flat))
  |.fre ds b=>.ok (.fre ds b)
 |true=>match er with
  |.val d b=>if (b||d.flat)=true then .ok (.val d true) else .bad
  |.fre ds b=>if (b||D.flats ds)=true then .ok (.fre ds true) else .bad
  |.brw _ _=>.bad
def qhK:List ER→Option (List (List Int))
 |[]=>some []
 |.brw ds _::es=>match qaU ds with
  |some ns=>(qhK es).map (ns :: ·)
  |none=>none
 |.val _ _::es=>qhK es
 |.fre _ _::es=>qhK es
mutual
def qrn (os:List (List Int)):D→Bool
 |.lst ds=>match qaU ds with
  |some ns=>!decide (ns∈os)
  |none=>false
 |.tup ds=>qpV os ds
 |.ins _ _=>false
 |.exc _ _=>false
 |.non=>true
 |.bl _=>true
 |.int _=>true
 |.str _=>true
def qpV (os:List (List Int)):List D→Bool
 |[]=>true
 |d::ds=>qrn os d&&qpV os ds
end
def qvx (os:List (List Int)) (er:ER):RE ER:=match er with
 |.val d _=>if qrn os d=true then .ok (.val d d.flat) else .bad
 |_=>.bad
@[simp] def wipeS (ρ:List Sl):List Nat→List Sl
 |[]=>ρ
 |v::vs=>(wipeS ρ vs).set v .non
@[simp] def qo4:List Nat→List D→Bool→List Sl→Option (List Sl)
 |[],[],_,ρ=>some ρ
 |i::is,d::ds,b,ρ=>qo4 is ds b (ρ.set i (.val d (b||d.flat)))
 |_,_,_,_=>none
@[simp] def qeA (tg:List Nat) (x:D) (b:Bool) (ρ:List Sl):Option (List Sl):=
 match tg with
 |[i]=>some (ρ.set i (.val x (b||x.flat)))
 |tg=>match x with
  |.tup ds=>qo4 tg ds b ρ
  |_=>none
def lcl (f:D→RE (Option (D × Bool))):List D→RE (List D × Bool)
 |[]=>.ok ([],true)
 |x::xs=>(f x).bind fun r=>(lcl f xs).bind fun q=>match r with
  |none=>.ok q
  |some y=>.ok (y.1::q.1,y.2&&q.2)
@[simp] def noX {α:Type}:RE α→RE α
 |.exc _ _=>.bad
 |r=>r
@[simp] def dis (f:List D→Bool→ER) (es:List ER):RE ER:=if (es.all ER.isV)=true then .ok (f (es.map ER.d) (es.all ER.b)) else .bad
structure Wk where
 xs:List D
 b:Bool
 own:Bool
@[simp] def qjx (e:ER):RE Wk:=
 match e.d with
 |.lst xs=>.ok ⟨xs,e.b,e.isB⟩
 |.tup xs=>.ok ⟨xs,e.b,false⟩
 |.str s=>.ok ⟨s.map fun c=>.str [c],true,false⟩
 |_=>.bad
def qqU:List (Option (Nat→Option Bool))→Nat→Option Bool
 |[],_=>some false
 |none::_,_=>none
 |some g::r,c=>match g c with
  |some true=>some true
  |some false=>qqU r c
  |none=>none
def qoS (cks:List (Option (Nat→Option Bool))) (x:D):RE ER:=match x with
 |.exc c []=>match qqU cks c with
  |some b=>ok (.bl b)
  |none=>.bad
 |_=>.bad
def qpA (ck ik:Option (Nat→Option Bool)) (x:D):RE ER:=
 match x with
 |.exc c fs=>match fs with
  |[]=>match ck with
   |some g=>match g c with
    |some b=>ok (.bl b)
    |none=>.bad
   |none=>.bad
  |_=>.bad
 |.ins c _=>match ik with
  |some g=>match g c with
   |some b=>ok (.bl b)
   |none=>.bad
  |none=>.bad
 |_=>.bad
def qd3 {α:Type} (k:Int):List (Int × α)→Option α
 |[]=>none
 |e::r=>if e.1=k then some e.2 else qd3 k r
def qtB {α:Type} (k:Int) (x:α) (m:List (Int × α)):List (Int × α):=m.map fun e=>if e.1=k then (e.1,x) else e
def dput {α:Type} (k:Int) (x:α) (m:List (Int × α)):List (Int × α):=if (qd3 k m).isSome=true then qtB k x m else m++[(k,x)]
def qgK (m:List (Int × D)) (n:Bool) (x:D):RE ER:=match x with
 |.int k=>ok (.bl ((qd3 k m).isSome == n))
 |_=>.bad
def qqC (m:List (Int × D)) (b:Bool) (x:D):RE ER:=match x with
 |.int k=>match qd3 k m with
  |some d=>.ok (.val d (b||d.flat))
  |none=>.bad
 |_=>.bad
def qqZ (t:List (List Nat × Option D)) (n:Bool) (x:D):RE ER:=
 match x with
 |.str s=>match t.lookup s with
  |some o=>ok (.bl (o.isSome == n))
  |none=>.bad
 |_=>.bad
def qsG (t:List (List Nat × Option D)) (x:D):RE ER:=
 match x with
 |.str s=>match t.lookup s with
  |some (some d)=>ok d
  |_=>.bad
 |_=>.bad
@[simp] def D.isNon:D→Bool
 |.non=>true
 |_=>false
mutual
@[simp] def ev (Γ:Env):Ex→List Sl→RE ER
 |.nev,_=>.bad
 |.var i,ρ=>match ρ[i]? with
  |some (.val d b)=>.ok (.val d b)
  |some (.own ds b)=>.ok (.brw ds b)
  |some (.fxd d _)=>.ok (.val d false)
  |_=>.bad
 |.cint i,_=>ok (.int i)
 |.cbl b,_=>ok (.bl b)
 |.cnon,_=>ok .non
 |.cstr s,_=>ok (.str s)
 |.glo k,_=>match Γ.gc[k]? with
  |some c=>.ok (.val c.2 true)
  |none=>.bad
 |.bin o a b,ρ=>(ev Γ a ρ).bind fun x=>(ev Γ b ρ).bind fun y=>evB o x.d y.d (x.b&&y.b)
 |.cmp o a b,ρ=>(ev Γ a ρ).bind fun x=>(ev Γ b ρ).bind fun y=>(evC o x.d y.d).bind fun c=>ok (.bl c)
 |.chn o p a b c,ρ=>(ev Γ a ρ).bind fun x=>(ev Γ b ρ).bind fun y=>(evC o x.d y.d).bind fun k=>if k=true then (ev Γ c ρ).bind fun z=>(evC p y.d z.d).bind fun k'=>ok (.bl k') else ok (.bl false)
 |.isN a,ρ=>(ev Γ a ρ).bind fun x=>ok (.bl x.d.isNon)
 |.notN a,ρ=>(ev Γ a ρ).bind fun x=>ok (.bl (!x.d.isNon))
 |.bop c es,ρ=>qov Γ c es ρ
 |.bnot a,ρ=>(ev Γ a ρ).bind fun x=>(qjn x.d).bind fun k=>ok (.bl (!k))
 |.neg a,ρ=>(ev Γ a ρ).bind fun x=>match x.d with
  |.int i=>ok (.int (-i))
  |_=>.bad
 |.ife c a b,ρ=>(evT Γ c ρ).bind fun k=>if k=true then ev Γ a ρ else ev Γ b ρ
 |.tup es,ρ=>(evs Γ es ρ).bind fun r=>dis (fun ds b=>.val (.tup ds) b) r
 |.lst es,ρ=>(evs Γ es ρ).bind fun r=>dis .fre r
 |.idx a i,ρ=>(ev Γ a ρ).bind fun x=>(ev Γ i ρ).bind fun y=>qtG x.d y.d x.b
 |.slc a lo hi,ρ=>(ev Γ a ρ).bind fun x=>(evO Γ lo ρ).bind fun l=>(evO Γ hi ρ).bind fun h=>qwv x.d l h x.b
 |.rev a,ρ=>(ev Γ a ρ).bind fun x=>match x.d with
  |.lst xs=>.ok (.fre xs.reverse x.b)
  |_=>.bad
 |.call f es,ρ=>match Γ.fn[f]? with
  |some g=>(evs Γ es ρ).bind fun r=>(g.2 (r.map ER.d)).bind (qcJ (!r.all ER.isV))
  |none=>.bad
 |.callc f es,ρ=>match Γ.fn[f]? with
  |some g=>(evs Γ es ρ).bind fun r=>match qhK r with
   |some os=>(g.2 (r.map ER.d)).bind (qvx os)
   |none=>.bad
  |none=>.bad
 |.pri p es,ρ=>(evs Γ es ρ).bind fun r=>evP p r
 |.lrng es,ρ=>(evs Γ es ρ).bind fun r=>(qeu r).bind fun ns=>.ok (.fre (ns.map D.int) true)
 |.mth m o es,ρ=>(ev Γ o ρ).bind fun x=>match x.d with
  |.ins c fs=>match Γ.mt c m with
   |some g=>(evs Γ es ρ).bind fun r=>(g (.ins c fs::r.map ER.d)).bind (qcJ (!r.all ER.isV))
   |none=>.bad
  |_=>.bad
 |.bm1 m o a,ρ=>(ev Γ o ρ).bind fun x=>match x.d with
  |.str s=>(ev Γ a ρ).bind fun y=>evM m s y.d
  |_=>.bad
 |.blen o,ρ=>(ev Γ o ρ).bind fun x=>match x.d with
  |.int i=>ok (.int (Builtin.Int.intBits i:Nat))
  |_=>.bad
 |.fld o f,ρ=>(ev Γ o ρ).bind fun x=>match x.d with
  |.ins c fs=>match Γ.fi c f with
   |some k=>match fs[k]? with
    |some d=>.ok (.val d d.flat)
    |none=>.bad
   |none=>.bad
  |_=>.bad
 |.isi a t,ρ=>(ev Γ a ρ).bind fun x=>qtW x.d t
 |.lc own it tg cnd e,ρ=>(evI Γ it ρ).bind fun xs=>gd (leB xs.xs.length) ((lcl (fun x=>match qeA tg x xs.b (wipeS ρ own) with
   |some ρ'=>noX ((qi4 Γ true cnd ρ').bind fun k=>if k=true then (ev Γ e ρ').bind fun y=>match y with
    |.brw _ _=>.bad
    |y=>.ok (some (y.d,y.b)) else .ok none)
   |none=>.bad) xs.xs).bind fun r=>.ok (.fre r.1 r.2))
 |.inxL o a,ρ=>(ev Γ o ρ).bind fun x=>match x.d with
  |.lst xs=>(ev Γ a ρ).bind fun y=>qhX xs y.d
  |_=>.bad
 |.inxS o a,ρ=>(ev Γ o ρ).bind fun x=>match x.d with
  |.str s=>(ev Γ a ρ).bind fun y=>ql5 s y.d
  |_=>.bad
 |.lset a,ρ=>(ev Γ a ρ).bind fun x=>ql2 x.d
 |.new k es,ρ=>match Γ.nw[k]? with
  |some g=>(evs Γ es ρ).bind fun r=>(g.2 (r.map ER.d)).bind fun fs=>.ok (.val (.ins g.1 fs) true)
  |none=>.bad
 |.sfd i f,ρ=>match ρ[i]? with
  |some (.slf c fs)=>match Γ.fi c f with
   |some k=>match fs[k]? with
    |some d=>.ok (.val d true)
    |none=>.bad
   |none=>.bad
  |_=>.bad
 |.isc a k,ρ=>(ev Γ a ρ).bind fun x=>qpA (Γ.ck[k]?) (Γ.ik[k]?) x.d
 |.iscT a ks,ρ=>(ev Γ a ρ).bind fun x=>qoS (ks.map fun k=>Γ.ck[k]?) x.d
 |.cntL o a,ρ=>(ev Γ o ρ).bind fun x=>match x.d with
  |.lst xs=>(ev Γ a ρ).bind fun y=>qpL xs y.d
  |_=>.bad
 |.mmd k a d,ρ=>(ev Γ a ρ).bind fun x=>(ev Γ d ρ).bind fun y=>quP k x.d y.d
 |.din n k e,ρ=>match Γ.dc[k]? with
  |some t=>(ev Γ e ρ).bind fun x=>qqZ t.2 n x.d
  |none=>.bad
 |.dgi k e,ρ=>match Γ.dc[k]? with
  |some t=>(ev Γ e ρ).bind fun x=>qsG t.2 x.d
  |none=>.bad
 |.srtL a,ρ=>(ev Γ a ρ).bind fun x=>qtC x.d x.b
 |.sset a,ρ=>(ev Γ a ρ).bind fun x=>qoo x.d
 |.lrev a,ρ=>(ev Γ a ρ).bind fun x=>qoC x.d
 |.inxT k a,ρ=>match Γ.gc[k]? with
  |some c=>match qpt c.2 with
   |some ss=>(ev Γ a ρ).bind fun y=>qnw ss y.d
   |none=>.bad
  |none=>.bad
 |.dhas n i e,ρ=>match ρ[i]? with
  |some (.dct m _)=>(ev Γ e ρ).bind fun x=>qgK m n x.d
  |_=>.bad
 |.dat i e,ρ=>match ρ[i]? with
  |some (.dct m b)=>(ev Γ e ρ).bind fun x=>qqC m b x.d
  |_=>.bad
@[simp] def evs (Γ:Env):Exs→List Sl→RE (List ER)
 |.nil,_=>.ok []
 |.cons e es,ρ=>(ev Γ e ρ).bind fun x=>(evs Γ es ρ).bind fun r=>.ok (x.frz::r)
@[simp] def evO (Γ:Env):Exs→List Sl→RE (Option Int)
 |.nil,_=>.ok none
 |.cons e es,ρ=>(ev Γ e ρ).bind fun x=>match x.d with
  |.int i=>.ok (some i)
  |_=>.bad
@[simp] def evT (Γ:Env):Te→List Sl→RE Bool
 |.bop c es,ρ=>qi4 Γ c es ρ
 |.not a,ρ=>(evT Γ a ρ).bind fun k=>.ok (!k)
 |.val e,ρ=>(ev Γ e ρ).bind fun x=>qjn x.d
@[simp] def qi4 (Γ:Env) (c:Bool):Tes→List Sl→RE Bool
 |.nil,_=>.ok c
 |.cons e es,ρ=>(evT Γ e ρ).bind fun k=>if k=c then qi4 Γ c es ρ else .ok k
@[simp] def qov (Γ:Env) (c:Bool):Exs→List Sl→RE ER
 |.nil,_=>ok (.bl c)
 |.cons e es,ρ=>(ev Γ e ρ).bind fun x=>match x.d with
  |.bl k=>if k=c then qov Γ c es ρ else ok (.bl k)
  |_=>.bad
@[simp] def evI (Γ:Env):Itx→List Sl→RE Wk
 |.any e,ρ=>(ev Γ e ρ).bind qjx
 |.rng es,ρ=>(evs Γ es ρ).bind fun r=>(qeu r).bind fun ns=>.ok ⟨ns.map D.int,true,false⟩
 |.zp a b,ρ=>(ev Γ a ρ).bind fun x=>(ev Γ b ρ).bind fun y=>match x.d,y.d with
  |.lst xs,.lst ys=>.ok ⟨List.zipWith (fun u v=>.tup [u,v]) xs ys,x.b&&y.b,x.isB||y.isB⟩
  |_,_=>.bad
 |.en a,ρ=>(ev Γ a ρ).bind fun x=>match x.d with
  |.lst xs=>.ok ⟨xs.zipIdx.map fun p=>.tup [.int p.2,p.1],x.b,x.isB⟩
  |_=>.bad
 |.rv a,ρ=>(ev Γ a ρ).bind fun x=>match x.d with
  |.lst xs=>.ok ⟨xs.reverse,x.b,x.isB⟩
  |_=>.bad
 |.rvr a,ρ=>(ev Γ a ρ).bind fun x=>match x.d with
  |.int n=>gd (qm1 n) (.ok ⟨(qfI (0+(((n - 0).toNat:Nat):Int) - 1) (-1) (n - 0).toNat).map D.int,true,false⟩)
  |_=>.bad
end
inductive Pth where
 |var (j:Nat)
 |ix (p:Pth) (k:Nat)
inductive Ch1 where
 |clr (p:Pth)
 |app (p:Pth) (e:Ex)
 |put (p:Pth) (k:Nat) (e:Ex)
inductive Ch where
 |nil
 |one (c:Ch1) (r:Ch)
 |wlk (l:Nat) (p:Pth) (b:List Ch1) (r:Ch)
 |ifs (j:Nat) (b r:Ch)
mutual
def qcC:Ex→Bool
 |.cint _=>true
 |.cstr _=>true
 |.cbl _=>true
 |.cnon=>true
 |.tup es=>qo9 es
 |.lst es=>qo9 es
 |_=>false
def qo9:Exs→Bool
 |.nil=>true
 |.cons e es=>qcC e&&qo9 es
end
@[simp] def D.isRef:D→Bool
 |.lst _=>true
 |.tup _=>true
 |.ins _ _=>true
 |.exc _ _=>true
 |_=>false
def clD (ds:List D):Nat:=if ds.isEmpty then 0 else if ds.any D.isRef then 2 else 1
abbrev Zs:=List Nat × Nat
def qqO (τ:List (Nat × D)) (Z:Zs):Pth→Option D
 |.var j=>τ.lookup j
 |.ix p k=>match qqO τ Z p with
  |some (.tup ds)=>ds[k]?
  |some (.lst ds)=>if clD ds∈Z.1 then none else ds[k]?
  |_=>none
def qmY (τ:List (Nat × D)) (Z:Zs):Ch1→Option Zs
 |.clr p=>match qqO τ Z p with
  |some (.lst ds)=>some (clD ds::Z.1,Z.2)
  |_=>none
 |.app p e=>match qqO τ Z p with
  |some (.lst ds)=>if (qcC e&&leB (ds.length+(Z.2+1)))=true then some (clD ds::Z.1,Z.2+1) else none
  |_=>none
 |.put p k e=>match qqO τ Z p with
  |some (.lst ds)=>if clD ds∈Z.1 then none else if (qcC e&&decide (k<ds.length))=true then some (clD ds::Z.1,Z.2) else none
  |_=>none
def qot (τ:List (Nat × D)):List Ch1→Zs→Option Zs
 |[],Z=>some Z
 |c::cs,Z=>(qmY τ Z c).bind (qot τ cs)
def qpX (f:D→Zs→Option Zs):List D→Zs→Option Zs
 |[],Z=>some Z
 |d::ds,Z=>(f d Z).bind (qpX f ds)
def drp (l:Nat) (τ:List (Nat × D)):List (Nat × D):=τ.filter fun e=>e.1 != l
def qna (ls:List Nat) (τ:List (Nat × D)):List (Nat × D):=τ.filter fun e=>!ls.contains e.1
def Ch.tgs:Ch→List Nat
 |.nil=>[]
 |.one _ r=>r.tgs
 |.wlk l _ _ r=>l::r.tgs
 |.ifs _ b r=>b.tgs++r.tgs
def chg:Ch→List (Nat × D)→Zs→Option Zs
 |.nil,_,Z=>some Z
 |.one c r,τ,Z=>(qmY τ Z c).bind (chg r τ)
 |.wlk l p b r,τ,Z=>match qqO τ Z p with
  |some (.lst ds)=>(qpX (fun d Z=>qot ((l,d)::drp l τ) b Z) ds Z).bind fun Z'=>if clD ds∈Z'.1 then none else chg r (drp l τ) Z'
  |_=>none
 |.ifs j b r,τ,Z=>match τ.lookup j with
  |some d=>if d.isNon=true then chg r (qna b.tgs τ) Z else (chg b τ Z).bind (chg r (qna b.tgs τ))
  |none=>none
def Ch1.len:List Ch1→Nat:=List.length
def Ch.len:Ch→Nat
 |.nil=>0
 |.one _ r=>r.len+1
 |.wlk _ _ _ r=>r.len+1
 |.ifs _ _ r=>r.len+1
def ent (k:Nat):Sl→Sl
 |.val d b=>if (b||d.flat)=true then .val d b else .fxd d k
 |.own ds b=>.own ds b
 |.fxd d _=>.fxd d k
 |_=>.non
def qlt:Nat→List Sl→List Sl
 |_,[]=>[]
 |k,q::qs=>ent k q::qlt (k+1) qs
def ext (k:Nat) (q:Sl):Sl→Sl
 |.val d b=>if (b||d.flat)=true then .val d b else .non
 |.own ds b=>if (b||D.flats ds)=true then .own ds b else .non
 |.fxd _ j=>if j=k then (match q with
  |.val d b=>.val d b
  |.fxd d m=>.fxd d m
  |_=>.non) else .non
 |_=>.non
def qk6 (ρ:List Sl):Nat→List Sl→List Sl
 |_,[]=>[]
 |k,r::rs=>ext k (ρ[k]?.getD .non) r::qk6 ρ (k+1) rs
def qmV:ER→Option D
 |.val d b=>if (b||d.flat)=true then some d else none
 |.fre ds b=>if (b||D.flats ds)=true then some (.lst ds) else none
 |.brw _ _=>none
mutual
def noK (k:Nat):D→Bool
 |.lst ds=>(clD ds != k)&&qrp k ds
 |.tup ds=>qrp k ds
 |_=>true
def qrp (k:Nat):List D→Bool
 |[]=>true
 |d::ds=>noK k d&&qrp k ds
end
def qkM:ER→Option (List D × List D)
 |.val (.tup [.lst ds,.lst es]) true=>if (D.flats ds&&(clD ds != clD es)&&qrp (clD es) es)=true then some (ds,es) else none
 |_=>none
inductive Tr where
 |ex (e:Ex)
 |as (j:Nat) (e:Ex)
 |iff (t:Te) (a b:Tr)
mutual
inductive Sm where
 |nev
 |rse (k:Nat)
 |tryx (k i j:Nat) (b:Tr)
 |asg (i:Nat) (e:Ex)
 |own (i:Nat) (e:Ex)
 |asgT (tg:List Nat) (e:Ex)
 |par (tg:List Nat) (es:Exs)
 |put (i:Nat) (ix e:Ex)
 |app (i:Nat) (e:Ex)
 |ext (i:Nat) (e:Ex)
 |popv (j i:Nat)
 |clr (i:Nat)
 |expr (e:Ex)
 |ret (e:Ex)
 |retN
 |pas
 |brk
 |cnt
 |iff (c:Te) (a b:Sms)
 |for (it:Itx) (tg:List Nat) (b:Sms)
 |whl (c:Te) (b:Sms)
 |apop (i j:Nat) (ix:Ex)
 |popx (i:Nat) (ix:Ex)
 |rmv (i:Nat) (e:Ex)
 |fset (f:Nat) (e:Ex)
 |dnew (i:Nat)
 |dput (i:Nat) (ix e:Ex)
 |tapp (o e:Ex)
 |tclr (o:Ex)
 |asgO (i j f:Nat) (es:Exs)
inductive Sms where
 |nil
 |cons (s:Sm) (ss:Sms)
 |frz (i:Nat) (ss:Sms)
 |hav (i f:Nat) (es:Exs) (rd:Sms) (cs:Ch) (ss:Sms)
end
inductive Out where
 |bad | nx (ρ:List Sl) | brk (ρ:List Sl) | cnt (ρ:List Sl) | ret (er:ER) | exc (c:Nat) (fs:List D)
def RE.out {α:Type}:RE α→(α→Out)→Out
 |.bad,_=>.bad
 |.ok a,f=>f a
 |.exc c fs,_=>.exc c fs
@[simp] theorem RE.out_ok {α:Type} (a:α) (f:α→Out):(RE.ok a).out f=f a:=rfl
@[simp] theorem RE.out_bad {α:Type} (f:α→Out):(RE.bad:RE α).out f=.bad:=rfl
@[simp] theorem RE.out_exc {α:Type} (c:Nat) (fs:List D) (f:α→Out):(RE.exc c fs:RE α).out f=.exc c fs:=rfl
def gdO (b:Bool) (o:Out):Out:=match b with
 |true=>o
 |false=>.bad
@[simp] theorem qdE (o:Out):gdO true o=o:=rfl
theorem qba (b:Bool) (o:Out):gdO b o=if b=true then o else .bad:=by cases b<;>rfl
def Out.seq:Out→(List Sl→Out)→Out
 |.nx ρ,f=>f ρ
 |o,_=>o
@[simp] theorem Out.seq_nx (ρ:List Sl) (f:List Sl→Out):(Out.nx ρ).seq f=f ρ:=rfl
@[simp] theorem Out.seq_ret (e:ER) (f:List Sl→Out):(Out.ret e).seq f=.ret e:=rfl
@[simp] theorem Out.seq_brk (ρ:List Sl) (f:List Sl→Out):(Out.brk ρ).seq f=.brk ρ:=rfl
@[simp] theorem Out.seq_cnt (ρ:List Sl) (f:List Sl→Out):(Out.cnt ρ).seq f=.cnt ρ:=rfl
@[simp] theorem Out.seq_bad (f:List Sl→Out):Out.bad.seq f=.bad:=rfl
@[simp] theorem Out.seq_exc (c:Nat) (fs:List D) (f:List Sl→Out):(Out.exc c fs).seq f=.exc c fs:=rfl
def qfC (f:D→List Sl→Out):List D→List Sl→Out
 |[],ρ=>.nx ρ
 |x::xs,ρ=>match f x ρ with
  |.nx ρ'=>qfC f xs ρ'
  |.cnt ρ'=>qfC f xs ρ'
  |.brk ρ'=>.nx ρ'
  |o=>o
def qgb (c:List Sl→RE Bool) (f:List Sl→Out):Nat→List Sl→Out
 |0,_=>.bad
 |n+1,ρ=>(c ρ).out fun k=>if k=true then (match f ρ with
  |.nx ρ'=>qgb c f n ρ'
  |.cnt ρ'=>qgb c f n ρ'
  |.brk ρ'=>.nx ρ'
  |o=>o) else .nx ρ
def qvt:Nat:=1000000000
@[simp] def qvY:ER→ER
 |.brw ds b=>.fre ds b
 |e=>e
def qbh (ρ:List Sl) (i:Nat) (f:List D→Bool→Out):Out:=
 match ρ[i]? with
 |some (.own ds b)=>f ds b
 |_=>.bad
def qmO (ρ:List Sl) (i:Nat) (f:List (Int × D)→Bool→Out):Out:=
 match ρ[i]? with
 |some (.dct m b)=>f m b
 |_=>.bad
def qwW (ρ:List Sl) (i:Nat) (f:D→Bool→Out):Out:=
 match ρ[i]? with
 |some (.val d b)=>f d b
 |_=>.bad
@[simp] def held (er:ER) (f:D→Bool→Out):Out:=
 match er with
 |.brw _ _=>.bad
 |.val d b=>f d b
 |.fre ds b=>f (.lst ds) b
def onB (o:Option (List Sl)) (k:List Sl→Out):Out:=
 match o with
 |some ρ=>k ρ
 |none=>.bad
@[simp] def heldF (er:ER) (f:D→Out):Out:=
 match er with
 |.brw _ _=>.bad
 |.val d b=>gdO (b||d.flat) (f d)
 |.fre ds b=>gdO (b||D.flats ds) (f (.lst ds))
def qpS:List Sl→Bool
 |[]=>true
 |.slf _ _::_=>false
 |_::ρ=>qpS ρ
def qq1 (ρ:List Sl) (f:Nat→List D→List Sl→Out):Out:=
 match ρ with
 |.slf c fs::r=>if qpS r=true then f c fs r else .bad
 |_=>.bad
@[simp] theorem qqV (ρ:List Sl) (k:List Sl→Out):onB (some ρ) k=k ρ:=rfl
@[simp] theorem qvD (k:List Sl→Out):onB none k=.bad:=rfl
@[simp] def qqD:List Nat→List ER→List Sl→Out
 |[],[],ρ=>.nx ρ
 |i::tg,e::es,ρ=>held e fun d b=>qqD tg es (ρ.set i (.val d b))
 |_,_,_=>.bad
def Out.hv (o:Out) (ρ:List Sl) (i:Nat) (d:D) (cs:Ch) (f:List Sl→Out):Out:=
 match o with
 |.nx ρ'=>(match ρ'[i]? with
  |some (.fxd _ k)=>gdO (k == i&&cs.tgs.all fun l=>Nat.blt l ρ'.length) (match chg cs [(i,d)] ([],0) with
   |some _=>f (wipeS (qk6 (ρ.set i .non) 0 ρ') cs.tgs)
   |none=>.bad)
  |_=>.bad)
 |.ret er=>(match qmV er with
  |some _=>.ret er
  |none=>.bad)
 |.exc c fs=>.exc c fs
 |_=>.bad
def trB (Γ:Env):Tr→List Sl→RE (List Sl)
 |.ex e,ρ=>(ev Γ e ρ).bind fun _=>.ok ρ
 |.as j e,ρ=>(ev Γ e ρ).bind fun x=>match x with
  |.brw _ _=>.bad
  |.val d b=>.ok (ρ.set j (.val d b))
  |.fre ds b=>.ok (ρ.set j (.val (.lst ds) b))
 |.iff t a b,ρ=>(evT Γ t ρ).bind fun k=>if k=true then trB Γ a ρ else trB Γ b ρ
def trX (g:Option (Nat→Option Bool)) (i j:Nat) (ρ:List Sl):RE (List Sl)→Out
 |.ok ρ'=>.nx ρ'
 |.bad=>.bad
 |.exc c fs=>match g with
  |some g=>match g c with
   |some true=>if i=j then .bad else (match fs with
    |[]=>.nx ((ρ.set j (.val (.exc c []) true)).set i .non)
    |_=>.bad)
   |some false=>.exc c fs
   |none=>.bad
  |none=>.bad
mutual
@[simp] def run (Γ:Env):Sm→List Sl→Out
 |.nev,_=>.bad
 |.rse k,_=>match Γ.xk[k]? with
  |some c=>.exc c []
  |none=>.bad
 |.tryx k i j b,ρ=>trX Γ.ck[k]? i j ρ (trB Γ b ρ)
 |.asg i e,ρ=>(ev Γ e ρ).out fun x=>held x fun d b=>.nx (ρ.set i (.val d b))
 |.own i e,ρ=>(ev Γ e ρ).out fun x=>match x with
  |.fre ds b=>.nx (ρ.set i (.own ds b))
  |.val .non _=>.nx (ρ.set i (.val .non true))
  |_=>.bad
 |.asgT tg e,ρ=>(ev Γ e ρ).out fun x=>held x fun d b=>onB (qeA tg d b ρ) .nx
 |.par tg es,ρ=>(evs Γ es ρ).out fun r=>qqD tg r ρ
 |.put i ix e,ρ=>(ev Γ e ρ).out fun x=>held x fun d b=>qbh ρ i fun ds c=>(ev Γ ix ρ).out fun k=>match k.d with
  |.int k=>match ixN ds.length k with
   |some j=>.nx (ρ.set i (.own (ds.set j d) (b&&c)))
   |none=>.bad
  |_=>.bad
 |.app i e,ρ=>qbh ρ i fun ds c=>(ev Γ e ρ).out fun x=>held x fun d b=>gdO (leB (ds.length+1)) (.nx (ρ.set i (.own (ds++[d]) (b&&c))))
 |.ext i e,ρ=>qbh ρ i fun ds c=>(ev Γ e ρ).out fun x=>match x with
  |.fre es b=>gdO (leB (ds.length+es.length)) (.nx (ρ.set i (.own (ds++es) (b&&c))))
  |_=>.bad
 |.popv j i,ρ=>qbh ρ i fun ds c=>match ds.getLast? with
  |some d=>.nx ((ρ.set i (.own ds.dropLast c)).set j (.val d c))
  |none=>.bad
 |.clr i,ρ=>qbh ρ i fun _ _=>.nx (ρ.set i (.own [] true))
 |.expr e,ρ=>(ev Γ e ρ).out fun _=>.nx ρ
 |.ret e,ρ=>(ev Γ e ρ).out fun x=>.ret (qvY x)
 |.retN,_=>.ret (.val .non true)
 |.pas,ρ=>.nx ρ
 |.brk,ρ=>.brk ρ
 |.cnt,ρ=>.cnt ρ
 |.iff c a b,ρ=>(evT Γ c ρ).out fun k=>if k=true then qap Γ a ρ else qap Γ b ρ
 |.for it tg b,ρ=>(evI Γ it ρ).out fun w=>if w.own=true then .bad else qfC (fun x ρ=>onB (qeA tg x w.b ρ) fun ρ'=>qap Γ b ρ') w.xs ρ
 |.apop i j ix,ρ=>if i=j then .bad else qbh ρ i fun ds c=>qbh ρ j fun es c2=>(ev Γ ix ρ).out fun k=>match k.d with
  |.int k=>match ixN es.length k with
   |some m=>match es[m]? with
    |some d=>gdO (leB es.length) (gdO (leB (ds.length+1)) (.nx ((ρ.set j (.own (es.eraseIdx m) c2)).set i (.own (ds++[d]) (c2&&c)))))
    |none=>.bad
   |none=>.bad
  |_=>.bad
 |.popx i ix,ρ=>qbh ρ i fun ds c=>(ev Γ ix ρ).out fun k=>match k.d with
  |.int k=>match ixN ds.length k with
   |some m=>match ds[m]? with
    |some _=>gdO (leB ds.length) (.nx (ρ.set i (.own (ds.eraseIdx m) c)))
    |none=>.bad
   |none=>.bad
  |_=>.bad
 |.rmv i e,ρ=>qbh ρ i fun ds c=>(ev Γ e ρ).out fun k=>match k.d with
  |.int k=>match qaU ds with
   |some ns=>match qrF k ns with
    |some m=>.nx (ρ.set i (.own (ds.eraseIdx m) c))
    |none=>.bad
   |none=>.bad
  |_=>.bad
 |.fset f e,ρ=>(ev Γ e ρ).out fun x=>heldF x fun d=>qq1 ρ fun c fs r=>match Γ.fi c f with
  |some k=>if k=fs.length then gdO (Nat.ble k 900) (.nx (.slf c (fs++[d])::r)) else .bad
  |none=>.bad
 |.asgO i j f es,ρ=>match Γ.fn[f]? with
  |some g=>(evs Γ es ρ).out fun r=>(g.2 (r.map ER.d)).out fun er=>match qkM er with
   |some p=>if i=j then .bad else .nx ((ρ.set i (.val (.lst p.1) true)).set j (.own p.2 true))
   |none=>.bad
  |none=>.bad
 |.dnew i,ρ=>.nx (ρ.set i (.dct [] true))
 |.dput i ix e,ρ=>(ev Γ e ρ).out fun x=>held x fun d b=>qmO ρ i fun m c=>(ev Γ ix ρ).out fun k=>match k.d with
  |.int k=>gdO (leB (m.length+1)) (.nx (ρ.set i (.dct (dput k d m) (b&&c))))
  |_=>.bad
 |.tapp o e,ρ=>(ev Γ o ρ).out fun x=>match x with
  |.fre ds _=>(ev Γ e ρ).out fun y=>held y fun _ _=>gdO (leB (ds.length+1)) (.nx ρ)
  |_=>.bad
 |.tclr o,ρ=>(ev Γ o ρ).out fun x=>match x with
  |.fre _ _=>.nx ρ
  |_=>.bad
 |.whl c b,ρ=>qgb (fun ρ=>evT Γ c ρ) (fun ρ=>qap Γ b ρ) qvt ρ
@[simp] def qap (Γ:Env):Sms→List Sl→Out
 |.nil,ρ=>.nx ρ
 |.cons s ss,ρ=>(run Γ s ρ).seq fun ρ'=>qap Γ ss ρ'
 |.frz i ss,ρ=>qbh ρ i fun ds b=>qap Γ ss (ρ.set i (.val (.lst ds) b))
 |.hav i f es rd cs ss,ρ=>match Γ.fn[f]? with
  |some g=>(evs Γ es ρ).out fun r=>(g.2 (r.map ER.d)).out fun er=>match qmV er with
   |some d=>gdO (Nat.blt i ρ.length) ((qap Γ rd ((qlt 0 ρ).set i (.fxd d i))).hv ρ i d cs fun ρ2=>qap Γ ss ρ2)
   |none=>.bad
  |none=>.bad
end
@[simp] def Out.fin:Out→RE ER
 |.ret er=>.ok er
 |.nx _=>ok .non
 |.exc c fs=>.exc c fs
 |_=>.bad
def qcM (Γ:Env) (n m:Nat) (b:Sms) (ds:List D):RE ER:=
 if ds.length=n then (qap Γ b (ds.map (fun d=>Sl.val d d.flat)++List.replicate m .non)).fin else .bad
def qmG (Γ:Env) (c nf n m:Nat) (b:Sms) (ds:List D):RE (List D):=
 if ds.length=n then (match qap Γ b (.slf c []::(ds.map (fun d=>Sl.val d d.flat)++List.replicate m .non)) with
  |.nx (.slf c' fs::_)=>if c'=c then (if fs.length=nf then .ok fs else .bad) else .bad
  |.exc c fs=>.exc c fs
  |_=>.bad) else .bad
def Sms.hd:Sms→Sm
 |.cons s _=>s
 |_=>.nev
def Sms.tl:Sms→Sms
 |.cons _ ss=>ss
 |.frz _ ss=>ss
 |.hav _ _ _ _ _ ss=>ss
 |.nil=>.nil
def Sms.len:Sms→Nat
 |.nil=>0
 |.cons _ ss=>ss.len+1
 |.frz _ ss=>ss.len
 |.hav _ _ _ rd cs ss=>rd.len+(cs.len+(ss.len+1))
def Sm.bd:Sm→Sms
 |.for _ _ b=>b
 |.whl _ b=>b
 |.iff _ a _=>a
 |_=>.nil
def Out.fst:Out→Option (Sl × Nat)
 |.nx (t::r)=>some (t,r.length)
 |_=>none
theorem qi9 {x k:Int}:∀{l:List Int},k∈qrJ x l↔k=x∨k∈l
 |[]=>by simp[qrJ]
 |y::ys=>by
  unfold qrJ
  split
  ·simp
  ·split
   ·rename_i e;subst e;simp
   ·rw[List.mem_cons,qi9,List.mem_cons]
    constructor
    ·rintro(h | h | h)<;>simp[h]
    ·rintro(h | h | h)<;>simp[h]
theorem qmF {x:Int}:∀{l:List Int},l.Pairwise (· < ·)→(qrJ x l).Pairwise (· < ·)
 |[],_=>by simp[qrJ]
 |y::ys,h=>by
  have h0:=h
  rw[List.pairwise_cons] at h
  unfold qrJ
  split
  ·rename_i lt
   rw[List.pairwise_cons]
   refine⟨fun z hz=>?_,h0⟩
   rcases List.mem_cons.mp hz with e | hz
   ·rw[e];exact lt
   ·exact Int.lt_trans lt (h.1 z hz)
  ·split
   ·exact h0
   ·rw[List.pairwise_cons]
    refine⟨fun z hz=>?_,qmF h.2⟩
    rcases qi9.mp hz with e | hz
    ·omega
    ·exact h.1 z hz
theorem qmv {k:Int}:∀{l:List Int},k∈qmW l↔k∈l
 |[]=>by simp[qmW]
 |x::xs=>by rw[qmW,qi9,qmv,List.mem_cons]
theorem qml:∀(l:List Int),(qmW l).Pairwise (· < ·)
 |[]=>.nil
 |x::xs=>qmF (qml xs)
theorem qmz:∀{a b:List Int},a.Pairwise (· < ·)→b.Pairwise (· < ·)→(∀k,k∈a↔k∈b)→a=b
 |[],[],_,_,_=>rfl
 |[],y::b,_,_,h=>by have:=(h y).mpr (by simp);cases this
 |x::a,[],_,_,h=>by have:=(h x).mp (by simp);cases this
 |x::a,y::b,ha,hb,h=>by
  have ha0:=List.pairwise_cons.mp ha
  have hb0:=List.pairwise_cons.mp hb
  have e:x=y:=by
   have h1:=(h x).mp (by simp)
   have h2:=(h y).mpr (by simp)
   rcases List.mem_cons.mp h1 with e | h1
   ·exact e
   ·rcases List.mem_cons.mp h2 with e | h2
    ·exact e.symm
    ·have:=hb0.1 x h1
     have:=ha0.1 y h2
     omega
  subst e
  congr 1
  refine qmz ha0.2 hb0.2 fun k=>?_
  constructor
  ·intro m
   have lt:=ha0.1 k m
   rcases List.mem_cons.mp ((h k).mp (by simp[m])) with e | z
   ·omega
   ·exact z
  ·intro m
   have lt:=hb0.1 k m
   rcases List.mem_cons.mp ((h k).mpr (by simp[m])) with e | z
   ·omega
   ·exact z
end Cm
namespace Cm
open PySem PySem.Spec PyProof.Rows L2
section
variable (C:Ctx)
def res {α:Type} (σ:L2.St) (P N H:Hp) (r:RE α) (K:α→Hp→Hp→Hp→Prop):Prop:=
 match r with
 |.bad=>False
 |.ok a=>∀P' N' H',Adv P N H P' N' H'→K a P' N' H'
 |.exc c fs=>∀d P' N' H',Adv P N H P' N' H'→ExR C P' N' H' fs d→C.W (.ref (C.G.ca c)) d σ H'
def kE (H:Hp) (Q:VK):ER→Hp→Hp→Hp→Prop:=fun er P' N' H'=>∀v,ERr C P' N' H' H er v→Q v H'
def tE (g:List Sl→RE ER):TE:=fun σ H Q=>∃ρ P N,SR C P N H ρ σ∧res C σ P N H (g ρ) (kE C H Q)
def tT (g:List Sl→RE Bool):TT:=fun σ H Q=>∃ρ P N,SR C P N H ρ σ∧res C σ P N H (g ρ) fun k _ _ H'=>Q k H'
def tA (g:List Sl→RE (List ER)):TA:=fun σ H Q=>∃ρ P N,SR C P N H ρ σ∧res C σ P N H (g ρ) fun es P' N' H'=>∀vs,ERs C P' N' H' H es vs→Q vs H'
def tO (g:List Sl→RE (Option Int)):TO:=fun σ H Q=>∃ρ P N,SR C P N H ρ σ∧res C σ P N H (g ρ) fun k _ _ H'=>Q k H'
end
section
variable {C:Ctx} {σ:L2.St} {P N H P1 N1 H1:Hp} {α β:Type} {K K':α→Hp→Hp→Hp→Prop}
theorem res.adv {r:RE α} (a:Adv P N H P1 N1 H1) (h:res C σ P N H r K):res C σ P1 N1 H1 r K:=by
 cases r with
 |bad=>exact h
 |ok x=>exact fun P' N' H' b=>h P' N' H' (a.trans b)
 |exc c fs=>exact fun d P' N' H' b=>h d P' N' H' (a.trans b)
theorem res.mono {r:RE α} (h:res C σ P N H r K) (f:∀a P' N' H',r=.ok a→Adv P N H P' N' H'→K a P' N' H'→K' a P' N' H'):res C σ P N H r K':=by
 cases r with
 |bad=>exact h
 |ok x=>exact fun P' N' H' b=>f _ _ _ _ rfl b (h P' N' H' b)
 |exc c fs=>exact h
theorem res.bind {r:RE α} {f:α→RE β} {K:β→Hp→Hp→Hp→Prop} (h:res C σ P N H (r.bind f) K):res C σ P N H r fun a P1 N1 H1=>res C σ P1 N1 H1 (f a) K:=by
 cases r with
 |bad=>exact h
 |ok x=>exact fun P' N' H' b=>res.adv b h
 |exc c fs=>exact h
theorem res.now {a:α} (r:Reg C P N H) (h:res C σ P N H (.ok a) K):K a P N H:=h _ _ _ (Adv.refl r.pH r.nH)
theorem res.val {H0:Hp} {Q:VK} {d:D} {b:Bool} {v:V} (r:Reg C P N H) (h:res C σ P N H (.ok (.val d b)) (kE C H0 Q)) (x:RepB C P N b d v):Q v H:=h _ _ _ (Adv.refl r.pH r.nH) v x
theorem res.fre {H0:Hp} {Q:VK} {ds:List D} {b:Bool} {xs:List V} {p:Addr} (r:Reg C P N H) (h:res C σ P N H (.ok (.fre ds b)) (kE C H0 Q)) (e:L2.Same H0 H) (x:RepsB C P N b ds xs) (hp:H p=none):Q (.ref p) (upd H p (.lst xs)):=
 h P N (upd H p (.lst xs)) ((Adv.refl r.pH r.nH).heap (qaN hp)) _ ⟨p,xs,rfl,upd_same,e.free hp,r.pH.free hp,r.nH.free hp,x⟩
theorem res.tup {H0:Hp} {Q:VK} {ds:List D} {b:Bool} {xs:List V} {p:Addr} (r:Reg C P N H) (h:res C σ P N H (.ok (.val (.tup ds) b)) (kE C H0 Q)) (x:RepsB C P N b ds xs) (hp:H p=none):Q (.ref p) (upd H p (.tup xs)):=
 h (upd P p (.tup xs)) N (upd H p (.tup xs)) ((Adv.refl r.pH r.nH).newP hp) _ ⟨p,xs,rfl,.inl (.inl upd_same),RepsB.adv (qaN (r.pH.free hp)) (L2.Same.refl _) x⟩
theorem ERw.int {i:Int} {b:Bool} {v:V} (h:ERw C P N H (.int i) b v):v=.int i:=h
theorem ERw.bl {i:Bool} {b:Bool} {v:V} (h:ERw C P N H (.bl i) b v):v=.bl i:=h
theorem ERw.str {s:List Nat} {b:Bool} {v:V} (h:ERw C P N H (.str s) b v):v=.str ⟨s.toArray⟩:=h
theorem ERw.lst {ds:List D} {b:Bool} {v:V} (h:ERw C P N H (.lst ds) b v):∃p xs,v=.ref p∧SqL C.G.K H p xs∧RepsB C P N b ds xs:=h
theorem ERw.tup {ds:List D} {b:Bool} {v:V} (r:Reg C P N H) (h:ERw C P N H (.tup ds) b v):∃p xs,v=.ref p∧SqT C.G.K H p xs∧RepsB C P N b ds xs:=by
 obtain⟨a,xs,e,h1,h2⟩:=h
 exact⟨a,xs,e,Same.seqT r.pH h1,h2⟩
theorem ERw.dp {d:D} {b:Bool} {v:V} {n:Nat} (r:Reg C P N H) (h:ERw C P N H d b v) (f:d.fit n=true):Dp C.G.K H v d.py:=by
 have hl:∀a xs,LNb C.G.K P N C.R b a xs→SqL C.G.K H a xs:=LNb.seq r.pH r.nH r.rH
 cases d with
 |lst ds =>
  obtain⟨p,xs,rfl,h1,h2⟩:=h
  simp only[D.fit,Bool.and_eq_true] at f
  exact .lst h1 (Reps.dp r.pH hl ds xs _ f.2 h2)
 |_=>exact Rep.dp r.pH hl _ v n f h
def qwU (C:Ctx) (op:D→D→Bool→RE ER) (r:R2):Prop:=∀{P N H H0:Hp} {σ:L2.St} {x y:D} {b c:Bool} {v u:V} {Q:VK},Reg C P N H→ERw C P N H x b v→ERw C P N H y c u→L2.Same H0 H →
 res C σ P N H (op x y (b&&c)) (kE C H0 Q)→r v u H Q
theorem qt6 {X:Cx} {op:Operator} {f:D→D→Bool→RE ER} {r:R2} {a b:Expr} {ga gb:List Sl→RE ER} {pos:Pos} (ho:OpR X (binaryOp op) r) (hf:qwU C f r) (ha:PE X a (tE C ga)) (hb:PE X b (tE C gb)) :
  PE X (.BinOp a op b pos) (tE C fun ρ=>(ga ρ).bind fun x=>(gb ρ).bind fun y=>f x.d y.d (x.b&&y.b)):=by
 refine⟨fun pins s σ H Q I h=>(pe_op ho ha hb).run pins s σ H Q I ?_⟩
 obtain⟨ρ,P,N,S,h⟩:=h
 refine⟨ρ,P,N,S,h.bind.mono fun x P1 N1 H1 _ a1 h1 v rv=>⟨ρ,P1,N1,S.adv a1,h1.bind.mono fun y P2 N2 H2 _ a2 h2 u ru=>?_⟩⟩
 have r2:=(S.adv (a1.trans a2)).reg
 exact hf r2 ((rv.adv a2).w r2) (ru.w r2) (a1.trans a2).hh h2
def qxf (C:Ctx) (op:D→D→RE Bool) (r:R2):Prop:=∀{P N H:Hp} {x y:D} {b c:Bool} {v u:V} {Q:VK} {k:Bool},Reg C P N H→ERw C P N H x b v→ERw C P N H y c u→op x y=.ok k→Q (.bl k) H→r v u H Q
def qhP {α:Type}:RE α→Prop
 |.exc _ _=>False
 |_=>True
theorem qok (x y:D):qhP (qlO x y):=by
 unfold qlO
 split<;>first | trivial | (split<;>trivial)
theorem qo8 (x y:D):qhP (qq6 x y):=by
 unfold qq6
 split
 ·split<;>trivial
 ·split<;>trivial
 ·split<;>trivial
 ·trivial
theorem qoe (o:Cop) (x y:D):qhP (evC o x y):=by
 cases o<;>simp only[evC]
 ·exact qok x y
 ·have:=qok x y
  cases h:qlO x y<;>simp_all[qhP]
 ·split<;>trivial
 ·split<;>trivial
 ·split<;>trivial
 ·split<;>trivial
 ·exact qo8 x y
 ·have:=qo8 x y
  cases h:qq6 x y<;>simp_all[qhP]
end
end Cm
namespace Cm
open PySem PySem.Spec PyProof.Rows L2
section
variable {X:Cx}
def quq (K:PySem.W.Frag):R2:=fun x y H Q=>∃l b xs zs,x=.ref l∧y=.ref b∧SqL K H l xs∧SqL K H b zs∧xs.length+zs.length≤sizeLine∧∀p,H p=none→Q (.ref p) (upd H p (.lst (xs++zs)))
theorem qtN:OpR X (binaryOp .Add) (quq X.K):=by
 intro pins s σ H x y v u Q I rx ry hh
 obtain⟨l,b,xs,zs,rfl,rfl,hH,hB,hz,qq⟩:=hh
 cases rx
 cases ry
 obtain⟨its,r,p,_⟩:=I.list hH
 obtain⟨its2,r2,p2,_⟩:=I.list hB
 obtain⟨⟨cls,dd,data,sl⟩,n,ho,hc,hdd,hd⟩:=p
 obtain⟨⟨cls2,dd2,data2,sl2⟩,n2,ho2,hc2,hdd2,hd2⟩:=p2
 simp only at hc hd hdd hc2 hd2 hdd2
 subst hc hd hdd hc2 hd2 hdd2
 have l1:=r.length
 have l2:=r2.length
 refine concat_meets ⟨_,ho,rfl⟩ ⟨_,ho2,rfl⟩ noFill_list_add seq_list_add PySem.F.slot_list_add PySem.F.entry_list_add (PySem.F.args_list_add_2 _ _) (list_addW l b its.toArray its2.toArray n n2 _ _ sl sl2 (by simp only[List.size_toArray];omega)) ⟨ho,ho2,?_⟩
 have ea:its.toArray++its2.toArray=(its++its2).toArray:=by simp
 rw[ea]
 exact⟨.ref _,_,I.lnew (t':=s.toks) (r.append r2) (by rw[List.length_append];omega),rfl,qq _ I.fresh⟩
def qvs (K:PySem.W.Frag):R2:=fun x y H Q=>∃l k xs,x=.ref l∧y=.int k∧SqL K H l xs ∧ -(2 ^ 63)≤k∧k<2 ^ 63∧xs.length*k.toNat≤sizeLine ∧
 ∀p,H p=none→Q (.ref p) (upd H p (.lst (List.replicate k.toNat xs).flatten))
theorem qs7:OpR X (binaryOp .Mult) (qvs X.K):=by
 intro pins s σ H x y v u Q I rx ry hh
 obtain⟨l,k,xs,rfl,rfl,hH,h1,h2,hz,qq⟩:=hh
 cases rx
 obtain⟨t,rfl⟩:=ry
 obtain⟨its,r,p,_⟩:=I.list hH
 obtain⟨⟨cls,dd,data,sl⟩,n,ho,hc,hdd,hd⟩:=p
 simp only at hc hd hdd
 subst hc hd hdd
 have l1:=r.length
 have hsz:its.length*k.toNat≤16777216:=by rw[←l1];exact hz
 refine wpAny_binaryOp_repeat_ref (T:="list") (U:="int") (by decide) ⟨_,ho,rfl⟩ (fun s'=>typeIs_int s' k t) noFill_list_mul F.fills_int_mul F.slot_int_rmul repeat_list F.slot_int_index.lookup
  (call_meets F.slot_int_rmul (typeIs_int s k t) F.entry_int_rmul (F.args_int_rmul_2 _ _) (lm_int_rmul_list_any k t l its.toArray n _ sl)
   ⟨ho,rfl,⟨_,ho,rfl⟩,call_meets F.slot_list_mul ⟨_,ho,rfl⟩ F.entry_list_mul (F.args_list_mul_2 _ _)
    (lm_list_mul_any l its.toArray n _ sl k t (by simp[Builtin.List.listFitsIndex];omega) (by simp only[List.size_toArray];omega) (by simp[Builtin.List.listTooLong,sizeLine];omega))
    ⟨ho,?_⟩⟩)
 rw[listMul_foldl_if]
 exact⟨.ref _,_,I.lnew (t':=s.toks) (r.rep k.toNat) (by rw[PyProof.Rows.lm_len_rep_flat,Nat.mul_comm];exact hz),rfl,qq _ I.fresh⟩
end
def qwN:Bop→Operator
 |.add=>.Add | .sub=>.Sub | .mul=>.Mult | .fdv=>.FloorDiv | .mdl=>.Mod | .pow=>.Pow | .shl=>.LShift | .shr=>.RShift | .and=>.BitAnd | .or=>.BitOr
def qwI (K:PySem.W.Frag):Bop→R2
 |.add=>fun x y H Q=>(rI0 (fun i j=>.int (i+j)) x y H Q∨(fun x y H Q=>∃i j,x=.str i∧y=.str j∧i.length+j.length≤sizeLine∧Q (.str (i++j)) H:R2) x y H Q)∨quq K x y H Q
 |.sub=>rI0 fun i j=>.int (i - j)
 |.mul=>fun x y H Q=>(rI CMul (fun i j=>.int (i*j)) x y H Q∨rI CMulX (fun i j=>.int (i*j)) x y H Q)∨qvs K x y H Q
 |.fdv=>rI CDivN fun i j=>.int (i.fdiv j)
 |.mdl=>rI (fun _ j=>j≠0) fun i j=>.int (i.fmod j)
 |.pow=>rI CPow fun i j=>.int (i ^ j.toNat)
 |.shl=>rI CPow fun i j=>.int (i*2 ^ j.toNat)
 |.shr=>rI (fun _ j=>0≤j) fun i j=>.int (i / 2 ^ j.toNat)
 |.and=>rI0 fun i j=>.int (Builtin.bitAnd i j)
 |.or=>rI0 fun i j=>.int (Builtin.bitOr i j)
theorem qu7 {X:Cx}:∀o,OpR X (binaryOp (qwN o)) (qwI X.K o)
 |.add=>(op_add.or op_add_str).or qtN
 |.sub=>op_sub
 |.mul=>(op_mul.or op_mulX).or qs7
 |.fdv=>op_fdivN
 |.mdl=>op_modN
 |.pow=>op_pow
 |.shl=>op_shl
 |.shr=>op_shr
 |.and=>op_and
 |.or=>op_or
theorem qsr (s t:List Nat):(⟨s.toArray⟩:Str)++(⟨t.toArray⟩:Str)=⟨(s++t).toArray⟩:=by
 show(⟨s.toArray++t.toArray⟩:Str)=⟨(s++t).toArray⟩
 simp
theorem qco (s:List Nat):(⟨s.toArray⟩:Str).length=s.length:=by
 show s.toArray.size=s.length
 simp
theorem RepsB.rep {C:Ctx} {P N:Hp} {b:Bool} {ds:List D} {vs:List V} (h:RepsB C P N b ds vs):∀k,RepsB C P N b (List.replicate k ds).flatten (List.replicate k vs).flatten
 |0=>rfl
 |k+1=>by simpa[List.replicate_succ] using Reps.append h (RepsB.rep h k)
theorem qug {C:Ctx} (o:Bop):qwU C (evB o) (qwI C.G.K o):=by
 intro P N H H0 σ x y b c v u Q r hx hy e h
 unfold evB at h
 simp only[qd6,qba,qao,qbd,qbz,qbw,qbJ,qbv,qa5,qbx] at h
 cases o<;>simp only at h<;>split at h<;>try exact h.elim
 ·cases hx.int;cases hy.int
  exact .inl (.inl ⟨_,_,rfl,rfl,h.val r rfl⟩)
 ·cases hx.str;cases hy.str
  split at h
  ·rename_i hl
   refine .inl (.inr ⟨_,_,rfl,rfl,?_,?_⟩)
   ·rw[qco,qco];exact hl
   ·rw[qsr];exact h.val r rfl
  ·exact h.elim
 ·obtain⟨p,xs,rfl,h1,h2⟩:=hx.lst
  obtain⟨q,zs,rfl,h3,h4⟩:=hy.lst
  split at h
  ·rename_i hl
   refine .inr ⟨_,_,_,_,rfl,rfl,h1,h3,?_,fun p hp=>h.fre r e (Reps.append h2.and1 h4.and2) hp⟩
   rw[h2.length,h4.length];exact hl
  ·exact h.elim
 ·cases hx.int;cases hy.int
  exact⟨_,_,rfl,rfl,h.val r rfl⟩
 ·cases hx.int;cases hy.int
  split at h
  ·rename_i hl
   have hl:=qby _ _ ▸ hl
   rcases hl with hl | hl
   ·exact .inl (.inl ⟨_,_,rfl,rfl,hl,h.val r rfl⟩)
   ·exact .inl (.inr ⟨_,_,rfl,rfl,hl,h.val r rfl⟩)
  ·exact h.elim
 ·obtain⟨p,xs,rfl,h1,h2⟩:=hx.lst
  cases hy.int
  split at h
  ·rename_i hl
   have hl:=qs3 hl
   refine .inr ⟨_,_,_,rfl,rfl,h1,hl.1,hl.2.1,?_,fun p hp=>h.fre r e (RepsB.rep h2.and1 _) hp⟩
   rw[h2.length];exact hl.2.2
  ·exact h.elim
 ·cases hx.int;cases hy.int
  split at h
  ·rename_i hl
   exact⟨_,_,rfl,rfl,hl,h.val r rfl⟩
  ·exact h.elim
 ·cases hx.int;cases hy.int
  split at h
  ·rename_i hl
   exact⟨_,_,rfl,rfl,hl,h.val r rfl⟩
  ·exact h.elim
 ·cases hx.int;cases hy.int
  split at h
  ·rename_i hl
   exact⟨_,_,rfl,rfl,hl,h.val r rfl⟩
  ·exact h.elim
 ·cases hx.int;cases hy.int
  split at h
  ·rename_i hl
   exact⟨_,_,rfl,rfl,hl,h.val r rfl⟩
  ·exact h.elim
 ·cases hx.int;cases hy.int
  split at h
  ·rename_i hl
   exact⟨_,_,rfl,rfl,hl,h.val r rfl⟩
  ·exact h.elim
 ·cases hx.int;cases hy.int
  exact⟨_,_,rfl,rfl,h.val r rfl⟩
 ·cases hx.int;cases hy.int
  exact⟨_,_,rfl,rfl,h.val r rfl⟩
def qi1:Cop→CmpOp
 |.eq=>.Eq | .ne=>.NotEq | .lt=>.Lt | .le=>.LtE | .gt=>.Gt | .ge=>.GtE | .isin=>.In | .nin=>.NotIn
def qud (K:PySem.W.Frag):Cop→R2
 |.eq=>fun x y H Q=>rEq x y H Q∨rEqD K x y H Q
 |.ne=>fun x y H Q=>rNe x y H Q∨rNeD K x y H Q
 |.lt=>rI0 fun i j=>.bl (decide (i<j))
 |.le=>rI0 fun i j=>.bl (decide (i≤j))
 |.gt=>rI0 fun i j=>.bl (decide (j<i))
 |.ge=>rI0 fun i j=>.bl (decide (j≤i))
 |.isin=>fun x y H Q=>(rInD K x y H Q∨rIn K false x y H Q)∨(fun x y H Q=>∃(c:Nat) (z:Str),x=.str ⟨#[c]⟩∧y=.str z∧Q (.bl (decide (c∈z.cps.toList))) H:R2) x y H Q
 |.nin=>fun x y H Q=>(rNotInD K x y H Q∨rIn K true x y H Q)∨(fun x y H Q=>∃(c:Nat) (z:Str),x=.str ⟨#[c]⟩∧y=.str z∧Q (.bl (!decide (c∈z.cps.toList))) H:R2) x y H Q
theorem qh4 {X:Cx} (hu:X.A.units+65<cLine):∀o,OpR X (compareOp (qi1 o)) (qud X.K o)
 |.eq=>op_eq.or (op_eqD (by omega))
 |.ne=>op_ne.or (op_neD (by omega))
 |.lt=>op_lt
 |.le=>op_le
 |.gt=>op_gt
 |.ge=>op_ge
 |.isin=>((op_inD hu).or op_in_seq).or op_in_sign
 |.nin=>((op_notInD hu).or op_notIn_seq).or op_notIn_sign
theorem qig {C:Ctx} {P N H:Hp} {x y:D} {b c:Bool} {v u:V} {k:Bool} (r:Reg C P N H) (hx:ERw C P N H x b v) (hy:ERw C P N H y c u) (h:qlO x y=.ok k) :
  (scal v u=true∧decide (v=u)=k)∨∃d e,Dp C.G.K H v d∧Dp C.G.K H u e∧SeqAt.shaped d=true∧SeqAt.shaped e=true∧PyData.eqv d e=k:=by
 unfold qlO at h
 split at h
 ·cases hx.int;cases hy.int;cases h
  exact .inl ⟨rfl,by simp⟩
 ·cases hx.str;cases hy.str;cases h
  refine .inl ⟨rfl,?_⟩
  simp
 ·cases hx.bl;cases hy.bl;cases h
  exact .inl ⟨rfl,by rw[dec_bl]⟩
 ·split at h
  ·rename_i f
   simp only[Bool.and_eq_true] at f
   cases h
   exact .inr ⟨_,_,hx.dp r f.1,hy.dp r f.2,D.shaped f.1,D.shaped f.2,D.eqv_py _ _ _ _ f.1 f.2⟩
  ·cases h
theorem qrb {x:D} {n m:Nat} (hx:x.fit n=true):∀{ys:List D},D.fits ys m=true→((D.pys ys).any fun z=>PyData.eqv z x.py)=ys.any fun z=>z.eqb x
 |[],_=>rfl
 |y::ys,h=>by
  simp only[D.fits,Bool.and_eq_true] at h
  simp only[D.pys,List.any_cons]
  rw[qrb hx h.2,D.eqv_py y x m n h.1 hx]
theorem qg3 {C:Ctx} {P N H:Hp} {x:D} {b:Bool} {v:V} (hx:Rep C.G P (LNb C.G.K P N C.R b) x v) (f:x.fit 0=true):flatV v=true:=by
 cases x<;>simp[D.fit] at f<;>cases hx<;>rfl
theorem qfR {C:Ctx} {P N H:Hp} {b:Bool}:∀{xs:List D} {vs:List V},RepsB C P N b xs vs→D.fits xs 0=true→vs.all flatV=true
 |[],_,h,_=>by cases h;rfl
 |x::xs,_,⟨v,r,e,h1,h2⟩,f=>by
  subst e
  simp only[D.fits,Bool.and_eq_true] at f
  simp only[List.all_cons,Bool.and_eq_true]
  exact⟨qg3 (H:=H) h1 f.1,qfR (H:=H) h2 f.2⟩
theorem qm8 {C:Ctx} {P N:Hp} {x y:D} {b c:Bool} {v u:V} (hx:RepB C P N b x v) (hy:RepB C P N c y u) (fx:x.fit 0=true) (fy:y.fit 0=true):eqV v u=x.eqb y:=by
 cases x<;>simp[D.fit] at fx<;>cases y<;>simp[D.fit] at fy<;>cases hx<;>cases hy<;>simp[eqV,D.eqb]
 ·rw[Bool.eq_iff_iff,beq_iff_eq,decide_eq_true_iff]
 ·rw[Bool.eq_iff_iff,beq_iff_eq,decide_eq_true_iff]
 ·rw[Bool.eq_iff_iff,beq_iff_eq,decide_eq_true_iff]
 ·rw[Bool.eq_iff_iff,beq_iff_eq,decide_eq_true_iff]
  exact⟨fun q=>by injection q with q;exact qgR.mp q,fun q=>by rw[q]⟩
theorem qoi {C:Ctx} {P N:Hp} {x:D} {b c:Bool} {v:V} (hx:RepB C P N b x v) (fx:x.fit 0=true):∀{ys:List D} {us:List V},RepsB C P N c ys us→D.fits ys 0=true→inV v us=ys.any fun z=>z.eqb x
 |[],_,h,_=>by cases h;rfl
 |y::ys,_,⟨u,r,e,h1,h2⟩,f=>by
  subst e
  simp only[D.fits,Bool.and_eq_true] at f
  have:=qoi hx fx h2 f.2
  unfold inV at this ⊢
  simp only[List.any_cons]
  rw[this,qm8 h1 hx f.1 fx]
theorem qif {C:Ctx} {P N H:Hp} {x y:D} {b c:Bool} {v u:V} {k:Bool} (r:Reg C P N H) (hx:ERw C P N H x b v) (hy:ERw C P N H y c u) (h:qq6 x y=.ok k) :
  (∃d ds,Dp C.G.K H v d∧Dp C.G.K H u (.list ds)∧SeqAt.shaped d=true∧SeqAt.shaped (.list ds)=true∧(ds.any fun z=>PyData.eqv z d)=k) ∨
  (∃p xs,u=.ref p∧(SqL C.G.K H p xs∨SqT C.G.K H p xs)∧flatV v=true∧xs.all flatV=true∧inV v xs=k) ∨
  ∃(c:Nat) (z:Str),v=.str ⟨#[c]⟩∧u=.str z∧decide (c∈z.cps.toList)=k:=by
 unfold qq6 at h
 split at h
 ·split at h
  ·rename_i ys f
   simp only[Bool.and_eq_true] at f
   cases h
   have f2:=f.2
   simp only[D.fit,Bool.and_eq_true] at f2
   refine .inl ⟨x.py,D.pys ys,hx.dp r f.1,hy.dp r f.2,D.shaped f.1,D.shaped f.2,qrb f.1 f2.2⟩
  ·cases h
 ·split at h
  ·rename_i ys f
   simp only[Bool.and_eq_true] at f
   cases h
   obtain⟨p,xs,rfl,h1,h2⟩:=hy.tup r
   have hx':RepB C P N b x v:=by
    cases x with
    |lst ds=>simp[D.fit] at f
    |_=>exact hx
   exact .inr (.inl ⟨p,xs,rfl,.inr h1,qg3 (H:=H) hx' f.1,qfR (H:=H) h2 f.2,qoi hx' f.1 h2 f.2⟩)
  ·cases h
 ·split at h
  ·cases hx.str;cases hy.str;cases h
   exact .inr (.inr ⟨_,_,rfl,rfl,rfl⟩)
  ·cases h
 ·cases h
theorem qnl {C:Ctx} (o:Cop):qxf C (evC o) (qud C.G.K o):=by
 intro P N H x y b c v u Q k r hx hy h q
 cases o<;>simp only[evC] at h
 ·rcases qig r hx hy h with⟨h1,rfl⟩ | ⟨d,e,h1,h2,h3,h4,rfl⟩
  ·exact .inl ⟨h1,q⟩
  ·exact .inr ⟨d,e,h1,h2,h3,h4,q⟩
 ·cases e:qlO x y with
  |bad=>rw[e] at h;cases h
  |exc c fs=>rw[e] at h;cases h
  |ok k' =>
   rw[e] at h;cases h
   rcases qig r hx hy e with⟨h1,rfl⟩ | ⟨d,d2,h1,h2,h3,h4,rfl⟩
   ·exact .inl ⟨h1,q⟩
   ·exact .inr ⟨d,d2,h1,h2,h3,h4,q⟩
 ·split at h
  ·cases hx.int;cases hy.int;cases h
   exact⟨_,_,rfl,rfl,q⟩
  ·cases h
 ·split at h
  ·cases hx.int;cases hy.int;cases h
   exact⟨_,_,rfl,rfl,q⟩
  ·cases h
 ·split at h
  ·cases hx.int;cases hy.int;cases h
   exact⟨_,_,rfl,rfl,q⟩
  ·cases h
 ·split at h
  ·cases hx.int;cases hy.int;cases h
   exact⟨_,_,rfl,rfl,q⟩
  ·cases h
 ·rcases qif r hx hy h with⟨d,e,h1,h2,h3,h4,rfl⟩ | ⟨p,xs,h1,h2,h3,h4,rfl⟩ | ⟨c,z,h1,h2,rfl⟩
  ·exact .inl (.inl ⟨d,e,h1,h2,h3,h4,q⟩)
  ·exact .inl (.inr ⟨p,xs,h1,h2,h3,h4,q⟩)
  ·exact .inr ⟨c,z,h1,h2,q⟩
 ·cases e:qq6 x y with
  |bad=>rw[e] at h;cases h
  |exc c fs=>rw[e] at h;cases h
  |ok k' =>
   rw[e] at h;cases h
   rcases qif r hx hy e with⟨d,d2,h1,h2,h3,h4,rfl⟩ | ⟨p,xs,h1,h2,h3,h4,rfl⟩ | ⟨c,z,h1,h2,rfl⟩
   ·exact .inl (.inl ⟨d,d2,h1,h2,h3,h4,q⟩)
   ·exact .inl (.inr ⟨p,xs,h1,h2,h3,h4,q⟩)
   ·exact .inr ⟨c,z,h1,h2,q⟩
end Cm
namespace Cm
open PySem PySem.Spec PyProof.Rows L2
section
variable {C:Ctx} {X:Cx}
theorem qaf {X:Cx} {e:Expr} {t u:TE} (h:PE X e t) (f:∀σ H Q,u σ H Q→t σ H Q):PE X e u:=⟨fun pins s σ H Q I q=>h.run pins s σ H Q I (f _ _ _ q)⟩
theorem qec {X:Cx} {e:Expr} {t u:TT} (h:PT X e t) (f:∀σ H Q,u σ H Q→t σ H Q):PT X e u:=⟨fun pins s σ H Q I q=>h.run pins s σ H Q I (f _ _ _ q)⟩
theorem qoE {X:Cx} {e:List Expr} {t u:TA} (h:PA X e t) (f:∀σ H Q,u σ H Q→t σ H Q):PA X e u:=⟨fun pos pins s σ H Q I q=>h.run pos pins s σ H Q I (f _ _ _ q)⟩
theorem qdS {e:Expr}:PE X e (tE C fun _=>.bad):=⟨fun pins s σ H Q I h=>by obtain⟨ρ,P,N,S,h⟩:=h;exact h.elim⟩
theorem qtA {i:Nat} {x:Str} {pos:Pos} (hN:X.N[i]? = some x) (hv:Vis X.env.scope x) (hd:(x == ("__debug__" : Str))=false) (hcd:(x == ("__classdict__" : Str))=false) :
  PE X (.Name x pos) (tE C fun ρ=>match ρ[i]? with
  |some (.val d b)=>.ok (.val d b)
  |some (.own ds b)=>.ok (.brw ds b)
  |some (.fxd d _)=>.ok (.val d false)
  |_=>.bad):=by
 refine qaf (pe_var (i:=i) hN hv hd hcd) fun σ H Q h=>?_
 obtain⟨ρ,P,N,S,h⟩:=h
 cases e:ρ[i]? with
 |none=>simp only[e] at h;exact h.elim
 |some s =>
  obtain⟨o,h1,h2⟩:=S.sl i s e
  simp only[e] at h
  cases s with
  |non=>exact h.elim
  |val d b =>
   obtain⟨v,rfl,h3⟩:=h2
   exact⟨v,h1,h.val S.reg h3⟩
  |own ds b =>
   obtain⟨p,xs,rfl,h3,h4,h5,h6,h7⟩:=h2
   exact⟨.ref p,h1,h.now S.reg _ ⟨p,xs,rfl,h3,h4,h5,h6,h7⟩⟩
  |slf c fs=>exact h.elim
  |fxd d k =>
   obtain⟨v,rfl,_,h3⟩:=h2
   exact⟨v,h1,h.val S.reg h3⟩
  |dct m b=>exact h.elim
theorem qnN {e:Expr} {v:V} {d:D} (h:PE X e (tC v)) (r:∀P N,RepB C P N true d v):PE X e (tE C fun _=>.ok (.val d true)):=by
 refine qaf h fun σ H Q h=>?_
 obtain⟨ρ,P,N,S,h⟩:=h
 exact h.val S.reg (r P N)
theorem qfF {g:List Sl→RE ER} (hg:∀ρ er,g ρ=.ok er→∃k,er=.val (.bl k) true) {σ:L2.St} {H:Hp} {Q:Bool→Hp→Prop} (h:tT C (fun ρ=>(g ρ).bind fun x=>qjn x.d) σ H Q) :
  tE C g σ H fun x H'=>∃k,x=.bl k∧Q k H':=by
 obtain⟨ρ,P,N,S,h⟩:=h
 refine⟨ρ,P,N,S,h.bind.mono fun x P1 N1 H1 e a1 h1 v rv=>?_⟩
 obtain⟨k,rfl⟩:=hg ρ x e
 exact⟨k,rv,h1.now (S.adv a1).reg⟩
abbrev qvE (o p:Cop) (ga gb gc:List Sl→RE ER):List Sl→RE ER:=fun ρ=>(ga ρ).bind fun x=>(gb ρ).bind fun y=>(evC o x.d y.d).bind fun k=>if k=true then (gc ρ).bind fun z=>(evC p y.d z.d).bind fun k'=>ok (.bl k') else ok (.bl false)
theorem qo6 {o p:Cop} {ga gb gc:List Sl→RE ER} {σ:L2.St} {H:Hp} {Q:VK} (h:tE C (qvE o p ga gb gc) σ H Q):tChain (qud C.G.K o) (qud C.G.K p) (tE C ga) (tE C gb) (tE C gc) σ H Q:=by
 obtain⟨ρ,P,N,S,h⟩:=h
 refine⟨ρ,P,N,S,h.bind.mono fun x P1 N1 H1 _ a1 h1 v rv=>⟨ρ,P1,N1,S.adv a1,h1.bind.mono fun y P2 N2 H2 _ a2 h2 u ru=>?_⟩⟩
 have r2:=(S.adv (a1.trans a2)).reg
 have n1:=qoe o x.d y.d
 cases e:evC o x.d y.d with
 |bad=>rw[e] at h2;exact h2.elim
 |exc c fs=>rw[e] at n1;exact n1.elim
 |ok k =>
  rw[e] at h2
  refine qnl o r2 ((rv.adv a2).w r2) (ru.w r2) e ⟨k,rfl,?_⟩
  cases k with
  |false=>exact h2.val r2 rfl
  |true =>
   refine iteT ⟨ρ,P2,N2,S.adv (a1.trans a2),res.mono (res.bind h2) fun z P3 N3 H3 _ a3 h3 w rw'=>?_⟩
   have r3:=(S.adv ((a1.trans a2).trans a3)).reg
   have n2:=qoe p y.d z.d
   cases e3:evC p y.d z.d with
   |bad=>rw[e3] at h3;exact h3.elim
   |exc c fs=>rw[e3] at n2;exact n2.elim
   |ok k' =>
    rw[e3] at h3
    exact qnl p r3 ((ru.adv a3).w r3) (rw'.w r3) e3 (h3.val r3 rfl)
theorem qsP {o p:Cop} {a b c:Expr} {ga gb gc:List Sl→RE ER} {pos:Pos} (hu:X.A.units+65<cLine) (hK:X.K=C.G.K) (ha:PE X a (tE C ga)) (hb:PE X b (tE C gb)) (hc:PE X c (tE C gc)) (hm:lastMarks [qi1 o,qi1 p] [b,c]=false) :
  PE X (.Compare a [qi1 o,qi1 p] [b,c] pos) (tE C (qvE o p ga gb gc)):=
 qaf (pe_chain (qh4 hu o) (qh4 hu p) ha hb hc hm) fun σ H Q h=>by rw[hK];exact qo6 h
theorem qtq {o p:Cop} {a b c:Expr} {ga gb gc:List Sl→RE ER} {pos:Pos} (hu:X.A.units+65<cLine) (hK:X.K=C.G.K) (ha:PE X a (tE C ga)) (hb:PE X b (tE C gb)) (hc:PE X c (tE C gc)) (hm:lastMarks [qi1 o,qi1 p] [b,c]=false) :
  PT X (.Compare a [qi1 o,qi1 p] [b,c] pos) (tT C fun ρ=>(qvE o p ga gb gc ρ).bind fun x=>qjn x.d):=
 qec (pt_chain (qh4 hu o) (qh4 hu p) ha hb hc hm) fun σ H Q h=>by
  rw[hK]
  refine qo6 (qfF (fun ρ er e=>?_) h)
  cases e1:ga ρ<;>simp only[qvE,e1,RE.bind_ok,RE.bind_bad,RE.bind_exc] at e<;>try cases e
  cases e2:gb ρ<;>simp only[e2,RE.bind_ok,RE.bind_bad,RE.bind_exc] at e<;>try cases e
  rename_i x y
  cases e3:evC o x.d y.d<;>simp only[e3,RE.bind_ok,RE.bind_bad,RE.bind_exc] at e<;>try cases e
  split at e
  ·cases e4:gc ρ<;>simp only[e4,RE.bind_ok,RE.bind_bad,RE.bind_exc] at e<;>try cases e
   rename_i z
   cases e5:evC p y.d z.d<;>simp only[e5,RE.bind_ok,RE.bind_bad,RE.bind_exc] at e<;>try cases e
   exact⟨_,rfl⟩
  ·cases e
   exact⟨_,rfl⟩
abbrev qvy (o:Cop) (ga gb:List Sl→RE ER):List Sl→RE ER:=fun ρ=>(ga ρ).bind fun x=>(gb ρ).bind fun y=>(evC o x.d y.d).bind fun c=>ok (.bl c)
theorem qoY {o:Cop} {ga gb:List Sl→RE ER} {σ:L2.St} {H:Hp} {Q:VK} (h:tE C (qvy o ga gb) σ H Q):tOp (qud C.G.K o) (tE C ga) (tE C gb) σ H Q:=by
 obtain⟨ρ,P,N,S,h⟩:=h
 refine⟨ρ,P,N,S,h.bind.mono fun x P1 N1 H1 _ a1 h1 v rv=>⟨ρ,P1,N1,S.adv a1,h1.bind.mono fun y P2 N2 H2 _ a2 h2 u ru=>?_⟩⟩
 have r2:=(S.adv (a1.trans a2)).reg
 have n1:=qoe o x.d y.d
 cases e:evC o x.d y.d with
 |bad=>rw[e] at h2;exact h2.elim
 |exc c fs=>rw[e] at n1;exact n1.elim
 |ok k =>
  rw[e] at h2
  exact qnl o r2 ((rv.adv a2).w r2) (ru.w r2) e (h2.val r2 rfl)
theorem qrQ {o:Cop} {a b:Expr} {ga gb:List Sl→RE ER} {pos:Pos} (hu:X.A.units+65<cLine) (hK:X.K=C.G.K) (ha:PE X a (tE C ga)) (hb:PE X b (tE C gb)) (hm:behindInMarks (qi1 o) b=false) :
  PE X (.Compare a [qi1 o] [b] pos) (tE C (qvy o ga gb)):=
 qaf (pe_cmpR (qh4 hu o) ha hb hm) fun σ H Q h=>by rw[hK];exact qoY h
theorem qrM {o:Cop} {a b:Expr} {ga gb:List Sl→RE ER} {pos:Pos} (hu:X.A.units+65<cLine) (hK:X.K=C.G.K) (ha:PE X a (tE C ga)) (hb:PE X b (tE C gb)) (hm:behindInMarks (qi1 o) b=false) :
  PT X (.Compare a [qi1 o] [b] pos) (tT C fun ρ=>(qvy o ga gb ρ).bind fun x=>qjn x.d):=
 qec (pt_cmpR (qh4 hu o) ha hb hm) fun σ H Q h=>by
  rw[hK]
  refine qoY (qfF (fun ρ er e=>?_) h)
  cases e1:ga ρ<;>simp only[qvy,e1,RE.bind_ok,RE.bind_bad,RE.bind_exc] at e<;>try cases e
  cases e2:gb ρ<;>simp only[e2,RE.bind_ok,RE.bind_bad,RE.bind_exc] at e<;>try cases e
  rename_i x y
  cases e3:evC o x.d y.d<;>simp only[e3,RE.bind_ok,RE.bind_bad,RE.bind_exc] at e<;>try cases e
  exact⟨_,rfl⟩
theorem qie {P N H:Hp} {d:D} {b:Bool} {v:V} {k:Bool} (r:Reg C P N H) (h:ERw C P N H d b v) (e:qjn d=.ok k):TruV C.G.K v H k:=by
 cases d<;>simp only[qjn] at e<;>cases e
 ·have e:v=.non:=h
  subst e;rfl
 ·cases h.bl;rfl
 ·cases h.int;rfl
 ·obtain⟨p,xs,rfl,h1,h2⟩:=h.lst
  refine .inl ⟨xs,h1,?_⟩
  have:=h2.length
  rw[Bool.eq_iff_iff]
  simp[←List.length_eq_zero_iff,this]
 ·obtain⟨p,xs,rfl,h1,h2⟩:=h.tup r
  refine .inr (.inl ⟨xs,h1,?_⟩)
  have:=h2.length
  rw[Bool.eq_iff_iff]
  simp[←List.length_eq_zero_iff,this]
theorem qnW (d:D):qhP (qjn d):=by cases d<;>trivial
theorem qr9 {g:List Sl→RE ER} {σ:L2.St} {H:Hp} {Q:Bool→Hp→Prop} (h:tT C (fun ρ=>(g ρ).bind fun x=>qjn x.d) σ H Q):tE C g σ H fun x H'=>∃k,TruV C.G.K x H' k∧Q k H':=by
 obtain⟨ρ,P,N,S,h⟩:=h
 refine⟨ρ,P,N,S,h.bind.mono fun x P1 N1 H1 e a1 h1 v rv=>?_⟩
 have r1:=(S.adv a1).reg
 have n1:=qnW x.d
 cases e:qjn x.d with
 |bad=>rw[e] at h1;exact h1.elim
 |exc c fs=>rw[e] at n1;exact n1.elim
 |ok k =>
  rw[e] at h1
  exact⟨k,qie r1 (rv.w r1) e,h1.now r1⟩
theorem qtF {e:Expr} {g:List Sl→RE ER} (hK:X.K=C.G.K) (h:PE X e (tE C g)) (he:∀whole,isTrue e X.env whole=(do let v ←whole;standAt e.pos;holding [v] (truthy v))):PT X e (tT C fun ρ=>(g ρ).bind fun x=>qjn x.d):=
 qec (pt_truth h he) fun σ H Q q=>by rw[hK];exact qr9 q
theorem ERw.non {P N H:Hp} {d:D} {b:Bool} {v:V} (h:ERw C P N H d b v):decide (v=V.non)=d.isNon:=by
 cases d with
 |non=>have e:v=.non:=h;subst e;rfl
 |bl _=>cases h.bl;rfl
 |int _=>cases h.int;rfl
 |str _=>cases h.str;rfl
 |lst _=>obtain⟨p,xs,rfl,_⟩:=h;rfl
 |tup _=>obtain⟨p,xs,rfl,_⟩:=h;rfl
 |ins _ _=>obtain⟨p,dx,xs,rfl,_⟩:=h;rfl
 |exc _ _=>obtain⟨_,a,rfl,_⟩:=h;rfl
abbrev qtu (k:Bool) (g:List Sl→RE ER):List Sl→RE ER:=fun ρ=>(g ρ).bind fun x=>ok (.bl (if k=true then x.d.isNon else !x.d.isNon))
theorem qiz {k:Bool} {g:List Sl→RE ER} {σ:L2.St} {H:Hp} {Q:VK} (h:tE C (qtu k g) σ H Q):tE C g σ H fun x H1=>Q (.bl (if k=true then decide (x=.non) else !decide (x=.non))) H1:=by
 obtain⟨ρ,P,N,S,h⟩:=h
 refine⟨ρ,P,N,S,h.bind.mono fun x P1 N1 H1 e a1 h1 v rv=>?_⟩
 have r1:=(S.adv a1).reg
 show Q _ H1
 rw[(rv.w r1).non]
 exact h1.val r1 rfl
theorem qq9 {k:Bool} {g:List Sl→RE ER} (ρ:List Sl) (er:ER) (e:qtu k g ρ=.ok er):∃k,er=.val (.bl k) true:=by
 cases e1:g ρ<;>simp only[qtu,e1,RE.bind_ok,RE.bind_bad,RE.bind_exc] at e<;>cases e
 exact⟨_,rfl⟩
theorem qr2 {a:Expr} {g:List Sl→RE ER} {j:Nat} {pos pos':Pos} (h:PE X a (tE C g)):PE X (.Compare a [.Is] [.Constant .none j pos'] pos) (tE C (qtu true g)):=
 qaf (pe_cmp (pc_isN h)) fun σ H Q q=>qiz q
theorem qqy {a:Expr} {g:List Sl→RE ER} {j:Nat} {pos pos':Pos} (h:PE X a (tE C g)):PE X (.Compare a [.IsNot] [.Constant .none j pos'] pos) (tE C (qtu false g)):=
 qaf (pe_cmp (pc_notN h)) fun σ H Q q=>qiz q
theorem qsU {a:Expr} {g:List Sl→RE ER} {j:Nat} {pos pos':Pos} (h:PE X a (tE C g)):PT X (.Compare a [.Is] [.Constant .none j pos'] pos) (tT C fun ρ=>(qtu true g ρ).bind fun x=>qjn x.d):=
 qec (pt_cmp (pc_isN h)) fun σ H Q q=>qiz (qfF qq9 q)
theorem qqQ {a:Expr} {g:List Sl→RE ER} {j:Nat} {pos pos':Pos} (h:PE X a (tE C g)):PT X (.Compare a [.IsNot] [.Constant .none j pos'] pos) (tT C fun ρ=>(qtu false g ρ).bind fun x=>qjn x.d):=
 qec (pt_cmp (pc_notN h)) fun σ H Q q=>qiz (qfF qq9 q)
abbrev gBv (c:Bool) (g g':List Sl→RE ER):List Sl→RE ER:=fun ρ=>(g ρ).bind fun x=>match x.d with
  |.bl k=>if k=c then g' ρ else ok (.bl k)
  |_=>.bad
def qpd (c:Bool):BoolOp:=if c=true then .And else .Or
theorem quU {a:Expr} {c:Bool} {g:List Sl→RE ER} {pos:Pos} (h:PE X a (tE C g)):PE X (.BoolOp (qpd c) [a] pos) (tE C (gBv c g fun _=>ok (.bl c))):=by
 refine qaf (pe_one h) fun σ H Q q=>?_
 obtain⟨ρ,P,N,S,h⟩:=q
 refine⟨ρ,P,N,S,h.bind.mono fun x P1 N1 H1 e a1 h1 v rv=>?_⟩
 have r1:=(S.adv a1).reg
 split at h1
 ·rename_i k e
  have w:=rv.w r1
  rw[e] at w
  cases w.bl
  split at h1
  ·rename_i e;subst e;exact h1.val r1 rfl
  ·exact h1.val r1 rfl
 ·exact h1.elim
theorem qvR {a b:Expr} {rest:List Expr} {c:Bool} {g g':List Sl→RE ER} {pos:Pos} (h:PE X a (tE C g)) (h':PE X (.BoolOp (qpd c) (b::rest) pos) (tE C g')):PE X (.BoolOp (qpd c) (a::b::rest) pos) (tE C (gBv c g g')):=by
 have z:∀σ H Q,tE C (gBv c g g') σ H Q→tE C g σ H fun x H1=>∃k,x=.bl k∧if k=c then tE C g' σ H1 Q else Q (.bl k) H1:=fun σ H Q q=>by
  obtain⟨ρ,P,N,S,h⟩:=q
  refine⟨ρ,P,N,S,h.bind.mono fun x P1 N1 H1 e a1 h1 v rv=>?_⟩
  have r1:=(S.adv a1).reg
  split at h1
  ·rename_i k e
   have w:=rv.w r1
   rw[e] at w
   refine⟨k,w.bl,?_⟩
   split at h1
   ·rename_i e
    rw[if_pos e]
    exact⟨ρ,P1,N1,S.adv a1,h1.mono fun y P2 N2 H2 _ a2 h2 v rv=>h2 v (rv.from a1.hh)⟩
   ·rename_i e
    rw[if_neg e]
    exact h1.val r1 rfl
  ·exact h1.elim
 cases c with
 |true =>
  refine qaf (pe_and h h') fun σ H Q q=>?_
  obtain⟨ρ,P,N,S,q⟩:=z σ H Q q
  refine⟨ρ,P,N,S,q.mono fun x P1 N1 H1 e a1 h1 v rv=>?_⟩
  obtain⟨k,e,h2⟩:=h1 v rv
  refine⟨k,e,?_⟩
  cases k
  ·exact h2
  ·exact h2
 |false =>
  refine qaf (pe_or h h') fun σ H Q q=>?_
  obtain⟨ρ,P,N,S,q⟩:=z σ H Q q
  refine⟨ρ,P,N,S,q.mono fun x P1 N1 H1 e a1 h1 v rv=>?_⟩
  obtain⟨k,e,h2⟩:=h1 v rv
  refine⟨k,e,?_⟩
  cases k
  ·exact h2
  ·exact h2
theorem qqr {a:Expr} {g:List Sl→RE ER} {pos:Pos} (hK:X.K=C.G.K) (h:PE X a (tE C g)):PE X (.UnaryOp .Not a pos) (tE C fun ρ=>(g ρ).bind fun x=>(qjn x.d).bind fun k=>ok (.bl (!k))):=by
 refine qaf (pe_notT h) fun σ H Q q=>?_
 rw[hK]
 obtain⟨ρ,P,N,S,h⟩:=q
 refine⟨ρ,P,N,S,h.bind.mono fun x P1 N1 H1 e a1 h1 v rv=>?_⟩
 have r1:=(S.adv a1).reg
 have n1:=qnW x.d
 cases e:qjn x.d with
 |bad=>rw[e] at h1;exact h1.elim
 |exc c fs=>rw[e] at n1;exact n1.elim
 |ok k =>
  rw[e] at h1
  exact⟨k,qie r1 (rv.w r1) e,h1.val r1 rfl⟩
theorem qsh {a:Expr} {g:List Sl→RE Bool} {pos:Pos} (h:PT X a (tT C g)):PT X (.UnaryOp .Not a pos) (tT C fun ρ=>(g ρ).bind fun k=>.ok (!k)):=by
 refine qec (pt_not h) fun σ H Q q=>?_
 obtain⟨ρ,P,N,S,h⟩:=q
 exact⟨ρ,P,N,S,h.bind.mono fun x P1 N1 H1 e a1 h1=>h1.now (S.adv a1).reg⟩
abbrev gBs (c:Bool) (g g':List Sl→RE Bool):List Sl→RE Bool:=fun ρ=>(g ρ).bind fun k=>if k=c then g' ρ else .ok k
theorem qiq {e:Expr} {t u:TT} (h:PW X e t) (f:∀σ H Q,u σ H Q→t σ H Q):PW X e u:=⟨fun w pins s σ H Q I q=>h.run w pins s σ H Q I (f _ _ _ q)⟩
theorem quT {a:Expr} {c:Bool} {g:List Sl→RE Bool} {pos:Pos} (h:PT X a (tT C g)):PW X (.BoolOp (qpd c) [a] pos) (tT C (gBs c g fun _=>.ok c)):=by
 have z:∀σ H Q,tT C (gBs c g fun _=>.ok c) σ H Q→tT C g σ H Q:=fun σ H Q q=>by
  obtain⟨ρ,P,N,S,h⟩:=q
  refine⟨ρ,P,N,S,h.bind.mono fun k P1 N1 H1 e a1 h1=>?_⟩
  split at h1
  ·rename_i e;subst e;exact h1.now (S.adv a1).reg
  ·exact h1.now (S.adv a1).reg
 cases c with
 |true=>exact qiq (pw_and1 h) z
 |false=>exact qiq (pw_or1 h) z
theorem qvS {a b:Expr} {rest:List Expr} {c:Bool} {g g':List Sl→RE Bool} {pos:Pos} (h:PT X a (tT C g)) (h':PW X (.BoolOp (qpd c) (b::rest) pos) (tT C g')):PW X (.BoolOp (qpd c) (a::b::rest) pos) (tT C (gBs c g g')):=by
 have z:∀σ H Q,tT C (gBs c g g') σ H Q→tT C g σ H fun k H1=>if k=c then tT C g' σ H1 Q else Q k H1:=fun σ H Q q=>by
  obtain⟨ρ,P,N,S,h⟩:=q
  refine⟨ρ,P,N,S,h.bind.mono fun k P1 N1 H1 e a1 h1=>?_⟩
  split at h1
  ·rename_i e;rw[if_pos e];exact⟨ρ,P1,N1,S.adv a1,h1⟩
  ·rename_i e;rw[if_neg e];exact h1.now (S.adv a1).reg
 cases c with
 |true =>
  refine qiq (pw_and h h') fun σ H Q q=>?_
  obtain⟨ρ,P,N,S,q⟩:=z σ H Q q
  refine⟨ρ,P,N,S,q.mono fun k P1 N1 H1 e a1 h1=>?_⟩
  cases k<;>exact h1
 |false =>
  refine qiq (pw_or h h') fun σ H Q q=>?_
  obtain⟨ρ,P,N,S,q⟩:=z σ H Q q
  refine⟨ρ,P,N,S,q.mono fun k P1 N1 H1 e a1 h1=>?_⟩
  cases k<;>exact h1
theorem qtH {a:Expr} {g:List Sl→RE ER} {pos:Pos} (h:PE X a (tE C g)):PE X (.UnaryOp .USub a pos) (tE C fun ρ=>(g ρ).bind fun x=>match x.d with
  |.int i=>ok (.int (-i))
  |_=>.bad):=by
 refine qaf (pe_un un_neg h) fun σ H Q q=>?_
 obtain⟨ρ,P,N,S,h⟩:=q
 refine⟨ρ,P,N,S,h.bind.mono fun x P1 N1 H1 e a1 h1 v rv=>?_⟩
 have r1:=(S.adv a1).reg
 split at h1
 ·rename_i i e
  have w:=rv.w r1
  rw[e] at w
  exact⟨i,w.int,h1.val r1 rfl⟩
 ·exact h1.elim
theorem qrU {c a b:Expr} {gc:List Sl→RE Bool} {ga gb:List Sl→RE ER} {pos:Pos} (hc:PT X c (tT C gc)) (ha:PE X a (tE C ga)) (hb:PE X b (tE C gb)):PE X (.IfExp c a b pos) (tE C fun ρ=>(gc ρ).bind fun k=>if k=true then ga ρ else gb ρ):=by
 refine qaf (pe_ifExp hc ha hb) fun σ H Q q=>?_
 obtain⟨ρ,P,N,S,h⟩:=q
 refine⟨ρ,P,N,S,h.bind.mono fun k P1 N1 H1 e a1 h1=>?_⟩
 split at h1
 ·rename_i e
  rw[if_pos e]
  exact⟨ρ,P1,N1,S.adv a1,h1.mono fun y P2 N2 H2 _ a2 h2 v rv=>h2 v (rv.from a1.hh)⟩
 ·rename_i e
  rw[if_neg e]
  exact⟨ρ,P1,N1,S.adv a1,h1.mono fun y P2 N2 H2 _ a2 h2 v rv=>h2 v (rv.from a1.hh)⟩
theorem qse:PA X [] (tA C fun _=>.ok []):=by
 refine qoE pa_nil fun σ H Q q=>?_
 obtain⟨ρ,P,N,S,h⟩:=q
 exact h.now S.reg [] rfl
theorem qqR {e:Expr} {es:List Expr} {g:List Sl→RE ER} {g':List Sl→RE (List ER)} (h:PE X e (tE C g)) (h':PA X es (tA C g')) (hs:starEach (e::es) X.env=(false,eval e X.env)::starEach es X.env) :
  PA X (e::es) (tA C fun ρ=>(g ρ).bind fun x=>(g' ρ).bind fun r=>.ok (x.frz::r)):=by
 refine qoE (pa_cons h h' hs) fun σ H Q q=>?_
 obtain⟨ρ,P,N,S,h⟩:=q
 refine⟨ρ,P,N,S,h.bind.mono fun x P1 N1 H1 e a1 h1 v rv=>?_⟩
 obtain⟨N2,a2,r2⟩:=rv.freeze a1
 have h2:res C σ P1 N2 H1 ((g' ρ).bind fun r=>.ok (x.frz::r)) fun es P' N' H'=>∀vs,ERs C P' N' H' H es vs→Q vs H':=by
  simp only[e,RE.bind_ok] at h
  exact res.adv a2 h
 exact⟨ρ,P1,N2,S.adv a2,h2.bind.mono fun es P3 N3 H3 e a3 h3 vs rvs=>h3.now ((S.adv a2).adv a3).reg _ ⟨v,vs,rfl,r2.adv a3,rvs.from a2.hh⟩⟩
end
end Cm
namespace Cm
open PySem PySem.Spec PyProof.Rows L2
section
variable {C:Ctx} {X:Cx}
theorem ERs.reps {P N H H0:Hp}:∀{es:List ER} {vs:List V},ERs C P N H H0 es vs→es.all ER.isV=true→RepsB C P N (es.all ER.b) (es.map ER.d) vs
 |[],_,h,_=>h
 |e::es,_,⟨v,r,q,h2,h3⟩,z=>by
  subst q
  simp only[List.all_cons,Bool.and_eq_true] at z
  cases e with
  |val d b=>exact⟨v,r,rfl,RepB.and1 h2,RepsB.and2 (ERs.reps h3 z.2)⟩
  |fre d b=>exact absurd z.1 (by simp[ER.isV])
  |brw d b=>exact absurd z.1 (by simp[ER.isV])
theorem ERs.w {P N H H0:Hp} (r:Reg C P N H) {e:ER} {es:List ER} {vs:List V} (h:ERs C P N H H0 (e::es) vs):∃v u,vs=v::u∧ERw C P N H e.d e.b v∧ERs C P N H H0 es u:=by
 obtain⟨v,u,q,h2,h3⟩:=h
 exact⟨v,u,q,h2.w r,h3⟩
theorem qs5 {es:List Expr} {k:Nat} {g:List Sl→RE (List ER)} {pos:Pos} (h:PA X es (tA C g)) (hl:∀ρ r,g ρ=.ok r→r.length≤LIM):PE X (.Tuple es k pos) (tE C fun ρ=>(g ρ).bind fun r=>dis (fun ds b=>.val (.tup ds) b) r):=by
 refine qaf (pe_tup h) fun σ H Q q=>?_
 obtain⟨ρ,P,N,S,h⟩:=q
 refine⟨ρ,P,N,S,h.bind.mono fun r P1 N1 H1 e a1 h1 vs rv=>?_⟩
 have r1:=(S.adv a1).reg
 unfold dis at h1
 split at h1
 ·rename_i z
  have rr:=rv.reps z
  refine⟨?_,fun p hp=>h1.tup r1 rr hp⟩
  rw[rr.length,List.length_map]
  exact hl _ _ e
 ·exact h1.elim
theorem qsv {es:List Expr} {g:List Sl→RE (List ER)} {pos:Pos} (h:PA X es (tA C g)) (hl:∀ρ r,g ρ=.ok r→r.length≤LIM):PE X (.List es pos) (tE C fun ρ=>(g ρ).bind fun r=>dis .fre r):=by
 refine qaf (pe_lst h) fun σ H Q q=>?_
 obtain⟨ρ,P,N,S,h⟩:=q
 refine⟨ρ,P,N,S,h.bind.mono fun r P1 N1 H1 e a1 h1 vs rv=>?_⟩
 have r1:=(S.adv a1).reg
 unfold dis at h1
 split at h1
 ·rename_i z
  have rr:=rv.reps z
  refine⟨?_,fun p hp=>h1.fre r1 a1.hh rr hp⟩
  rw[rr.length,List.length_map]
  exact hl _ _ e
 ·exact h1.elim
theorem qoR {P N:Hp} {b:Bool} {ds:List D} {xs:List V} {i:Int} {d:D} (h:RepsB C P N b ds xs) (e:atI ds i=some d):∃v,atI xs i=some v∧RepB C P N b d v:=by
 unfold atI at e ⊢
 rw[h.length]
 cases q:ixN ds.length i with
 |none=>rw[q] at e;cases e
 |some j =>
  rw[q] at e
  exact h.get e
theorem qtc {a i:Expr} {ga gi:List Sl→RE ER} {pos:Pos} (hK:X.K=C.G.K) (ha:PE X a (tE C ga)) (hi:PE X i (tE C gi)) (hs:PlainIx i):PE X (.Subscript a i pos) (tE C fun ρ=>(ga ρ).bind fun x=>(gi ρ).bind fun y=>qtG x.d y.d x.b):=by
 refine qaf (pe_ix ix_seq ha hi hs) fun σ H Q q=>?_
 rw[hK]
 obtain⟨ρ,P,N,S,h⟩:=q
 refine⟨ρ,P,N,S,h.bind.mono fun x P1 N1 H1 _ a1 h1 v rv=>⟨ρ,P1,N1,S.adv a1,h1.bind.mono fun y P2 N2 H2 _ a2 h2 u ru=>?_⟩⟩
 have r2:=(S.adv (a1.trans a2)).reg
 have wx:=(rv.adv a2).w r2
 have wy:=ru.w r2
 unfold qtG at h2
 simp only[qd6,qba,qao,qby,qbd,qbz,qbw,qbJ,qbv,qa5,qbx] at h2
 split at h2
 ·rename_i ds i e1 e2
  rw[e1] at wx;rw[e2] at wy
  obtain⟨p,xs,rfl,h3,h4⟩:=wx.lst
  cases wy.int
  split at h2
  ·rename_i d e
   obtain⟨v,e',h5⟩:=qoR h4 e
   exact .inl ⟨p,xs,i,v,rfl,rfl,h3,e',h2.val r2 h5.nf⟩
  ·exact h2.elim
 ·rename_i ds i e1 e2
  rw[e1] at wx;rw[e2] at wy
  obtain⟨p,xs,rfl,h3,h4⟩:=wx.tup r2
  cases wy.int
  split at h2
  ·rename_i d e
   obtain⟨v,e',h5⟩:=qoR h4 e
   exact .inr (.inl ⟨p,xs,i,v,rfl,rfl,h3,e',h2.val r2 h5.nf⟩)
  ·exact h2.elim
 ·rename_i s i e1 e2
  rw[e1] at wx;rw[e2] at wy
  cases wx.str
  cases wy.int
  split at h2
  ·rename_i hl
   split at h2
   ·rename_i c e
    refine .inr (.inr ⟨_,i,c,rfl,rfl,?_,?_,?_⟩)
    ·rw[qco];exact hl
    ·exact e
    ·exact h2.val r2 rfl
   ·exact h2.elim
  ·exact h2.elim
 ·exact h2.elim
theorem qq2:PO X none (tO C fun _=>.ok none):=⟨fun pins s σ H Q I q=>by
 obtain⟨ρ,P,N,S,h⟩:=q
 exact po_none.run pins s σ H Q I (h.now S.reg)⟩
theorem qqb {e:Expr} {g:List Sl→RE ER} (h:PE X e (tE C g)):PO X (some e) (tO C fun ρ=>(g ρ).bind fun x=>match x.d with
  |.int i=>.ok (some i)
  |_=>.bad):=⟨fun pins s σ H Q I q=>by
 obtain⟨ρ,P,N,S,h'⟩:=q
 refine(po_some h).run pins s σ H Q I ⟨ρ,P,N,S,h'.bind.mono fun x P1 N1 H1 _ a1 h1 v rv=>?_⟩
 have r1:=(S.adv a1).reg
 split at h1
 ·rename_i i e
  have w:=rv.w r1
  rw[e] at w
  exact⟨i,w.int,h1.now r1⟩
 ·exact h1.elim⟩
theorem qn5 {P N:Hp} {b:Bool} {ds:List D} {xs:List V} (h:RepsB C P N b ds xs) (lo hi:Option Int):RepsB C P N b (qe5 ds lo hi) (cutV xs lo hi):=by
 unfold qe5 cutV
 rw[h.length]
 exact Reps.take _ (Reps.drop _ h)
theorem qti {a:Expr} {lo hi:Option Expr} {ga:List Sl→RE ER} {gl gh:List Sl→RE (Option Int)} {pos p2:Pos} (hK:X.K=C.G.K) (ha:PE X a (tE C ga)) (hl:PO X lo (tO C gl)) (hh:PO X hi (tO C gh)) :
  PE X (.Subscript a (.Slice lo hi none p2) pos) (tE C fun ρ=>(ga ρ).bind fun x=>(gl ρ).bind fun l=>(gh ρ).bind fun h=>qwv x.d l h x.b):=by
 refine qaf (pe_slice (sl_list.or (sl_tup.or sl_str)) ha hl hh) fun σ H Q q=>?_
 rw[hK]
 obtain⟨ρ,P,N,S,h⟩:=q
 refine⟨ρ,P,N,S,h.bind.mono fun x P1 N1 H1 _ a1 h1 v rv=>⟨ρ,P1,N1,S.adv a1,h1.bind.mono fun l P2 N2 H2 _ a2 h2=>⟨ρ,P2,N2,S.adv (a1.trans a2),res.mono (res.bind h2) fun u P3 N3 H3 _ a3 h3=>?_⟩⟩⟩
 have a:=(a1.trans a2).trans a3
 have r3:=(S.adv a).reg
 have wx:=(rv.adv (a2.trans a3)).w r3
 unfold qwv at h3
 simp only[qd6,qba,qao,qby,qbd,qbz,qbw,qbJ,qbv,qa5,qbx] at h3
 split at h3
 ·rename_i ds e1
  rw[e1] at wx
  obtain⟨p,xs,rfl,h4,h5⟩:=wx.lst
  exact .inl ⟨p,xs,rfl,h4,fun p hp=>h3.fre r3 a.hh (qn5 h5 l u) hp⟩
 ·rename_i ds e1
  rw[e1] at wx
  obtain⟨p,xs,rfl,h4,h5⟩:=wx.tup r3
  split at h3
  ·rename_i hw
   refine .inr (.inl ⟨p,xs,rfl,h4,?_,fun p hp=>h3.tup r3 (qn5 h5 l u) hp⟩)
   rw[h5.length]
   rintro⟨q1,q2⟩
   simp[q1,q2] at hw
  ·exact h3.elim
 ·rename_i s e1
  rw[e1] at wx
  cases wx.str
  split at h3
  ·rename_i hl
   refine .inr (.inr ⟨_,rfl,?_,?_⟩)
   ·rw[qco];exact hl
   ·exact h3.val r3 rfl
  ·exact h3.elim
 ·exact h3.elim
theorem qsX {a:Expr} {g:List Sl→RE ER} {k:Nat} {p1 p2 p3 pos:Pos} (hK:X.K=C.G.K) (h:PE X a (tE C g)):PE X (.Subscript a (.Slice none none (some (.UnaryOp .USub (.Constant (.int 1) k p1) p2)) p3) pos) (tE C fun ρ=>(g ρ).bind fun x=>match x.d with
  |.lst xs=>.ok (.fre xs.reverse x.b)
  |_=>.bad):=by
 refine qaf (pe_revL h) fun σ H Q q=>?_
 rw[hK]
 obtain⟨ρ,P,N,S,h⟩:=q
 refine⟨ρ,P,N,S,h.bind.mono fun x P1 N1 H1 _ a1 h1 v rv=>?_⟩
 have r1:=(S.adv a1).reg
 split at h1
 ·rename_i ds e
  have w:=rv.w r1
  rw[e] at w
  obtain⟨p,xs,rfl,h4,h5⟩:=w.lst
  exact⟨p,xs,rfl,h4,fun p hp=>h1.fre r1 a1.hh (Reps.reverse h5) hp⟩
 ·exact h1.elim
def qwM:Pri→Value
 |.len=>.builtin "len" |.abs=>.builtin "abs" |.min2=>.builtin "min" |.max2=>.builtin "max" |.min1=>.builtin "min" |.max1=>.builtin "max" |.sum=>.builtin "sum" |.sorted=>.builtin "sorted"
 |.all=>.builtin "all" |.any=>.builtin "any" |.list=>.type "list" |.tupl=>.type "tuple" |.int=>.type "int" |.str=>.type "str" |.dmd=>.builtin "divmod"
def qrx:Pri→Str
 |.len=>"len" |.abs=>"abs" |.min2=>"min" |.max2=>"max" |.min1=>"min" |.max1=>"max" |.sum=>"sum" |.sorted=>"sorted"
 |.all=>"all" |.any=>"any" |.list=>"list" |.tupl=>"tuple" |.int=>"int" |.str=>"str" |.dmd=>"divmod"
def qwP (K:PySem.W.Frag):Pri→List V→Hp→VK→Prop
 |.len=>fun xs H Q=>(∃x n,xs=[x]∧LenV K x H n∧Q (.int n) H)
 |.abs=>fun xs H Q=>∃i,xs=[.int i]∧Q (.int (if i<0 then -i else i)) H
 |.min2=>fun xs H Q=>∃i j,xs=[.int i,.int j]∧Q (.int (if j<i then j else i)) H
 |.max2=>fun xs H Q=>∃i j,xs=[.int i,.int j]∧Q (.int (if j>i then j else i)) H
 |.min1=>rMin K
 |.max1=>rMax K
 |.sum=>rSum K
 |.sorted=>rSortedI K
 |.all=>rAll K
 |.any=>rAny K
 |.list=>fun xs H Q=>∃p ys,xs=[.ref p]∧(SqL K H p ys∨SqT K H p ys)∧∀l,H l=none→Q (.ref l) (upd H l (.lst ys))
 |.tupl=>fun xs H Q=>∃p ys,xs=[.ref p]∧SqL K H p ys∧∀l,H l=none→Q (.ref l) (upd H l (.tup ys))
 |.int=>fun xs H Q=>((∃i,xs=[.int i]∧Q (.int i) H)∨∃k,xs=[.bl k]∧Q (.int (if k then 1 else 0)) H)∨∃a n,xs=[.str a]∧intText? a=some n∧a.length≤640∧Q (.int n) H
 |.dmd=>fun xs H Q=>∃i j,xs=[.int i,.int j]∧CDiv i j∧∀p,H p=none→Q (.ref p) (upd H p (.tup [.int (i / j),.int (i % j)]))
 |.str=>fun xs H Q=>∃i,xs=[.int i]∧i.natAbs.log2<1920∧Q (.str (toString i)) H
theorem qu0 (hc:X.calm=true):∀p,CallR X (qwM p) (qwP X.K p)
 |.len=>call_len
 |.abs=>call_abs
 |.min2=>call_min2 hc
 |.max2=>call_max2 hc
 |.min1=>cr_min hc
 |.max1=>cr_max hc
 |.sum=>cr_sum hc
 |.sorted=>cr_sortedI
 |.all=>cr_all hc
 |.any=>cr_any hc
 |.list=>call_list_of
 |.tupl=>fun pins s σ H vs us Q I r q=>by
  obtain⟨p,ys,e,h1,h2⟩:=q
  exact call_tuple_of pins s σ H vs us Q I r ⟨p,ys,e,.inl ⟨h1,h2⟩⟩
 |.int=>fun pins s σ H vs us Q I r q=>by
  rcases q with q | q
  ·exact call_int1 pins s σ H vs us Q I r q
  ·exact call_int_str pins s σ H vs us Q I r q
 |.dmd=>call_divmod
 |.str=>call_str_int
theorem qbl {P N:Hp} {b:Bool}:∀{ds:List D} {ns:List Int} {xs:List V},qaU ds=some ns→RepsB C P N b ds xs→xs=ns.map V.int
 |[],ns,xs,e,h=>by cases e;cases h;rfl
 |d::ds,ns,xs,e,⟨v,r,q,h1,h2⟩=>by
  cases d<;>simp only[qaU] at e<;>try cases e
  rename_i i
  cases e2:qaU ds with
  |none=>rw[e2] at e;cases e
  |some ms =>
   rw[e2] at e;cases e
   have q1:v=.int i:=h1
   rw[q,q1,qbl e2 h2];rfl
theorem qfL {P N:Hp} {b:Bool}:∀{ds:List D} {ns:List Bool} {xs:List V},qfY ds=some ns→RepsB C P N b ds xs→xs=ns.map V.bl
 |[],ns,xs,e,h=>by cases e;cases h;rfl
 |d::ds,ns,xs,e,⟨v,r,q,h1,h2⟩=>by
  cases d<;>simp only[qfY] at e<;>try cases e
  rename_i i
  cases e2:qfY ds with
  |none=>rw[e2] at e;cases e
  |some ms =>
   rw[e2] at e;cases e
   have q1:v=.bl i:=h1
   rw[q,q1,qfL e2 h2];rfl
theorem qjR {P N:Hp} {b:Bool}:∀{ds:List D} {ns:List (List Nat)} {xs:List V},qfm ds=some ns→RepsB C P N b ds xs→xs=(ns.map qaA).map V.str
 |[],ns,xs,e,h=>by cases e;cases h;rfl
 |d::ds,ns,xs,e,⟨v,r,q,h1,h2⟩=>by
  cases d<;>simp only[qfm] at e<;>try cases e
  rename_i i
  cases e2:qfm ds with
  |none=>rw[e2] at e;cases e
  |some ms =>
   rw[e2] at e;cases e
   have q1:v=.str (qaA i):=h1
   rw[q,q1,qjR e2 h2];rfl
theorem qlD:∀(n:Int) (ns:List Int),qmR (n::ns)∈n::ns∧∀y∈n::ns,qmR (n::ns)≤y
 |n,[]=>by simp[qmR]
 |n,m::ns=>by
  obtain⟨h1,h2⟩:=qlD m ns
  have e:qmR (n::m::ns)=min n (qmR (m::ns)):=rfl
  rw[e]
  constructor
  ·rcases Int.le_total n (qmR (m::ns)) with h | h
   ·rw[Int.min_eq_left h];simp
   ·rw[Int.min_eq_right h];exact List.mem_cons_of_mem _ h1
  ·intro y hy
   rcases List.mem_cons.mp hy with rfl | hy
   ·exact Int.min_le_left _ _
   ·exact Int.le_trans (Int.min_le_right _ _) (h2 y hy)
theorem qlE:∀(n:Int) (ns:List Int),qkE (n::ns)∈n::ns∧∀y∈n::ns,y≤qkE (n::ns)
 |n,[]=>by simp[qkE]
 |n,m::ns=>by
  obtain⟨h1,h2⟩:=qlE m ns
  have e:qkE (n::m::ns)=max n (qkE (m::ns)):=rfl
  rw[e]
  constructor
  ·rcases Int.le_total n (qkE (m::ns)) with h | h
   ·rw[Int.max_eq_right h];exact List.mem_cons_of_mem _ h1
   ·rw[Int.max_eq_left h];simp
  ·intro y hy
   rcases List.mem_cons.mp hy with rfl | hy
   ·exact Int.le_max_left _ _
   ·exact Int.le_trans (h2 y hy) (Int.le_max_right _ _)
theorem qhf (x:Int):∀ns:List Int,(qsd x ns).Perm (x::ns)
 |[]=>.refl _
 |y::ys=>by
  unfold qsd
  split
  ·exact .refl _
  ·exact((qhf x ys).cons y).trans (List.Perm.swap x y ys)
theorem qim:∀ns:List Int,(qe1 ns).Perm ns
 |[]=>.refl _
 |x::xs=>(qhf x (qe1 xs)).trans ((qim xs).cons x)
theorem qmp (x:Int):∀ns:List Int,ns.Pairwise (· ≤ ·)→(qsd x ns).Pairwise (· ≤ ·)
 |[],_=>by simp[qsd]
 |y::ys,h=>by
  unfold qsd
  have h':=List.pairwise_cons.mp h
  split
  ·rename_i hxy
   refine List.pairwise_cons.mpr ⟨fun z hz=>?_,h⟩
   rcases List.mem_cons.mp hz with rfl | hz
   ·exact hxy
   ·exact Int.le_trans hxy (h'.1 z hz)
  ·rename_i hxy
   refine List.pairwise_cons.mpr ⟨fun z hz=>?_,qmp x ys h'.2⟩
   rcases List.mem_cons.mp ((qhf x ys).mem_iff.mp hz) with rfl | hz
   ·omega
   ·exact h'.1 z hz
theorem qkq:∀ns:List Int,(qe1 ns).Pairwise (· ≤ ·)
 |[]=>.nil
 |x::xs=>qmp x _ (qkq xs)
theorem qil:∀{l m:List Int},l.Perm m→l.Pairwise (· ≤ ·)→m.Pairwise (· ≤ ·)→l=m
 |[],m,p,_,_=>(List.nil_perm.mp p).symm
 |x::l,[],p,_,_=>(List.perm_nil.mp p)
 |x::l,y::m,p,h,h'=>by
  have a:=List.pairwise_cons.mp h
  have b:=List.pairwise_cons.mp h'
  have e:x=y:=by
   have h1:x∈y::m:=p.mem_iff.mp (by simp)
   have h2:y∈x::l:=p.mem_iff.mpr (by simp)
   rcases List.mem_cons.mp h1 with h1 | h1
   ·exact h1
   ·rcases List.mem_cons.mp h2 with h2 | h2
    ·exact h2.symm
    ·have:=a.1 y h2;have:=b.1 x h1;omega
  subst e
  rw[qil (List.Perm.cons_inv p) a.2 b.2]
theorem qsC (p:Pri) {g:List Sl→RE (List ER)} {σ:L2.St} {H:Hp} {Q:VK} (h:tE C (fun ρ=>(g ρ).bind (evP p)) σ H Q):tCB (qwP C.G.K p) (tA C g) σ H Q:=by
 obtain⟨ρ,P,N,S,h⟩:=h
 refine⟨ρ,P,N,S,h.bind.mono fun es P1 N1 H1 _ a1 h1 vs rv=>?_⟩
 have r:=(S.adv a1).reg
 have hh:=a1.hh
 clear h S a1
 unfold evP at h1
 simp only[qd6,qba,qao,qby,qbd,qbz,qbw,qbJ,qbv,qa5,qbx] at h1
 split at h1
 all_goals try exact h1.elim
 all_goals obtain⟨v,u,rfl,w,rv⟩:=rv.w r
 all_goals first
  |(obtain⟨v2,u2,rfl,w2,rv⟩:=rv.w r;cases rv)
  |cases rv
 all_goals split at h1
 all_goals try exact h1.elim
 all_goals rename_i q1
 -- len
 ·rw[q1] at w
  obtain⟨p,xs,rfl,h4,h5⟩:=w.lst
  exact⟨_,xs.length,rfl,.inl ⟨xs,h4,rfl⟩,by rw[h5.length];exact h1.val r rfl⟩
 ·rw[q1] at w
  obtain⟨p,xs,rfl,h4,h5⟩:=w.tup r
  exact⟨_,xs.length,rfl,.inr ⟨xs,h4,rfl⟩,by rw[h5.length];exact h1.val r rfl⟩
 ·rw[q1] at w
  cases w.str
  split at h1
  ·rename_i hl
   exact⟨_,_,rfl,⟨by rw[qco];exact hl,rfl⟩,by rw[qco];exact h1.val r rfl⟩
  ·exact h1.elim
 -- abs
 ·rw[q1] at w
  cases w.int
  exact⟨_,rfl,h1.val r rfl⟩
 -- min2 max2
 ·rename_i q2
  rw[q2] at w;rw[q1] at w2
  cases w.int;cases w2.int
  exact⟨_,_,rfl,h1.val r rfl⟩
 ·rename_i q2
  rw[q2] at w;rw[q1] at w2
  cases w.int;cases w2.int
  exact⟨_,_,rfl,h1.val r rfl⟩
 -- min1 max1
 ·rw[q1] at w
  obtain⟨p,xs,rfl,h4,h5⟩:=w.lst
  split at h1
  ·rename_i n ns q2
   have e:=qbl q2 h5
   subst e
   obtain⟨z1,z2⟩:=qlD n ns
   refine⟨p,n::ns,rfl,h4,by simp,fun m hm hy=>?_⟩
   have:m=qmR (n::ns):=by
    have:=hy _ z1
    have:=z2 _ hm
    omega
   rw[this]
   exact h1.val r rfl
  ·exact h1.elim
 ·rw[q1] at w
  obtain⟨p,xs,rfl,h4,h5⟩:=w.lst
  split at h1
  ·rename_i n ns q2
   have e:=qbl q2 h5
   subst e
   obtain⟨z1,z2⟩:=qlE n ns
   refine⟨p,n::ns,rfl,h4,by simp,fun m hm hy=>?_⟩
   have:m=qkE (n::ns):=by
    have:=hy _ z1
    have:=z2 _ hm
    omega
   rw[this]
   exact h1.val r rfl
  ·exact h1.elim
 -- sum
 ·rw[q1] at w
  obtain⟨p,xs,rfl,h4,h5⟩:=w.lst
  split at h1
  ·rename_i ns q2
   have e:=qbl q2 h5
   subst e
   exact⟨p,ns,rfl,h4,h1.val r rfl⟩
  ·exact h1.elim
 -- sorted
 ·rw[q1] at w
  obtain⟨p,xs,rfl,h4,h5⟩:=w.lst
  split at h1
  ·rename_i ns q2
   have e:=qbl q2 h5
   subst e
   refine⟨p,ns,rfl,h4,fun ns' p z1 z2 hp=>?_⟩
   have:ns'=qe1 ns:=qil (z1.trans (qim ns).symm) z2 (qkq ns)
   rw[this]
   exact h1.fre r hh (Reps.ints.mpr rfl) hp
  ·exact h1.elim
 -- all any
 ·rw[q1] at w
  obtain⟨p,xs,rfl,h4,h5⟩:=w.lst
  split at h1
  ·rename_i ns q2
   have e:=qfL q2 h5
   subst e
   exact⟨p,ns,rfl,h4,h1.val r rfl⟩
  ·exact h1.elim
 ·rw[q1] at w
  obtain⟨p,xs,rfl,h4,h5⟩:=w.lst
  split at h1
  ·rename_i ns q2
   have e:=qfL q2 h5
   subst e
   exact⟨p,ns,rfl,h4,h1.val r rfl⟩
  ·exact h1.elim
 -- list
 ·rw[q1] at w
  obtain⟨p,xs,rfl,h4,h5⟩:=w.lst
  exact⟨p,xs,rfl,.inl h4,fun l hl=>h1.fre r hh h5.nf hl⟩
 ·rw[q1] at w
  obtain⟨p,xs,rfl,h4,h5⟩:=w.tup r
  exact⟨p,xs,rfl,.inr h4,fun l hl=>h1.fre r hh h5.nf hl⟩
 -- tuple
 ·rw[q1] at w
  obtain⟨p,xs,rfl,h4,h5⟩:=w.lst
  exact⟨p,xs,rfl,h4,fun l hl=>h1.tup r h5.nf hl⟩
 -- int
 ·rw[q1] at w
  cases w.int
  exact .inl (.inl ⟨_,rfl,h1.val r rfl⟩)
 ·rw[q1] at w
  cases w.bl
  exact .inl (.inr ⟨_,rfl,h1.val r rfl⟩)
 ·rw[q1] at w
  cases w.str
  split at h1
  ·rename_i n q2
   split at h1
   ·rename_i hl
    rw[Nat.ble_eq] at hl
    exact .inr ⟨_,n,rfl,q2,by rw[qco];exact hl,h1.val r rfl⟩
   ·exact h1.elim
  ·exact h1.elim
 -- divmod
 ·rename_i q2
  rw[q2] at w;rw[q1] at w2
  cases w.int;cases w2.int
  split at h1
  ·rename_i hl
   rw[qrT] at hl
   exact⟨_,_,rfl,hl,fun p hp=>h1.tup r ⟨_,_,rfl,rfl,_,_,rfl,rfl,rfl⟩ hp⟩
  ·exact h1.elim
 -- str
 ·rw[q1] at w
  cases w.int
  split at h1
  ·rename_i hl
   refine⟨_,rfl,hl,h1.val r ?_⟩
   show V.str _=V.str _
   rfl
  ·exact h1.elim
theorem qpN:∀p,bootBuiltins (qrx p)=some (qwM p)
 |.len=>boot_len
 |.abs=>by decide +kernel
 |.min2=>by decide +kernel
 |.max2=>by decide +kernel
 |.min1=>by decide +kernel
 |.max1=>by decide +kernel
 |.sum=>by decide +kernel
 |.sorted=>by decide +kernel
 |.all=>by decide +kernel
 |.any=>by decide +kernel
 |.list=>by decide +kernel
 |.tupl=>by decide +kernel
 |.int=>by decide +kernel
 |.str=>by decide +kernel
 |.dmd=>by decide +kernel
theorem qoh:∀p,qrx p ≠ "__name__" ∧ (qrx p == ("__debug__" : Str))=false:=by intro p;cases p<;>decide
theorem qgd {x:Str} {f:Value} {r:List V→Hp→VK→Prop} {e:Expr} {es:List Expr} {t:TA} {p pos:Pos} (hc:CallR X f r) (hv:bootBuiltins x=some f) (hf:(∃id,f=.builtin id)∨∃T,f=.type T) (hg:Gl X x) (hm:X.mg x=none) (ha:PA X (e::es) t) (hn:x ≠ "__name__") (hdb:(x == ("__debug__" : Str))=false)
  (he:starEach (e::es) X.env=(false,eval e X.env)::starEach es X.env) (hpl:(backTo pos (starEach es X.env)).any (·.1)=false):PE X (.Call (.Name x p) (e::es) [] pos) (tCB r t):=by
 rcases hf with⟨id,rfl⟩ | ⟨T,rfl⟩
 ·exact pe_callB hc hg hm hv ha hn hdb he hpl
 ·exact pe_callTy hc hg hm hv ha hn hdb he hpl
theorem qsH {q:Pri} {g:List Sl→RE (List ER)} {e:Expr} {es:List Expr} {p pos:Pos} (hK:X.K=C.G.K) (hc:X.calm=true) (hg:Gl X (qrx q)) (hm:X.mg (qrx q)=none) (ha:PA X (e::es) (tA C g))
  (he:starEach (e::es) X.env=(false,eval e X.env)::starEach es X.env) (hpl:(backTo pos (starEach es X.env)).any (·.1)=false):PE X (.Call (.Name (qrx q) p) (e::es) [] pos) (tE C fun ρ=>(g ρ).bind (evP q)):=
 qaf (qgd (qu0 hc q) (qpN q) (by cases q<;>first | exact .inl ⟨_,rfl⟩ | exact .inr ⟨_,rfl⟩) hg hm ha (qoh q).1 (qoh q).2 he hpl) fun σ H Q h=>by rw[hK];exact qsC q h
end
end Cm
namespace Cm
open PySem PySem.Spec PyProof.Rows L2
section
variable {C:Ctx} {X:Cx}
open Classical in
noncomputable def un3 (P N R H:Hp):Hp:=fun a=>if P a≠none∨N a≠none∨R a≠none then H a else none
open Classical in
noncomputable def un2 (N N' H:Hp):Hp:=fun a=>if N a≠none∨N' a≠none then H a else none
theorem qul {P N R H:Hp}:Same (un3 P N R H) H:=fun a o e=>by
 unfold un3 at e
 split at e
 ·exact e
 ·cases e
theorem qve {P N R H:Hp} (h:Same P H):Same P (un3 P N R H):=fun a o e=>by
 unfold un3
 rw[if_pos (.inl (by rw[e];simp))]
 exact h _ _ e
theorem qpi {P N R H:Hp} (h:Same N H):Same N (un3 P N R H):=fun a o e=>by
 unfold un3
 rw[if_pos (.inr (.inl (by rw[e];simp)))]
 exact h _ _ e
theorem quD {P N R H:Hp} (h:Same R H):Same R (un3 P N R H):=fun a o e=>by
 unfold un3
 rw[if_pos (.inr (.inr (by rw[e];simp)))]
 exact h _ _ e
theorem qrD {P N R H:Hp} (hp:Same P H) (hn:Same N H) (hr:Same R H) {a:Addr} {o:HO} (e:un3 P N R H a=some o):P a=some o∨N a=some o∨R a=some o:=by
 unfold un3 at e
 split at e
 ·rename_i h
  rcases h with h | h | h
  ·obtain⟨u,q⟩:=Option.ne_none_iff_exists'.mp h
   have:=hp _ _ q
   rw[e] at this;cases this
   exact .inl q
  ·obtain⟨u,q⟩:=Option.ne_none_iff_exists'.mp h
   have:=hn _ _ q
   rw[e] at this;cases this
   exact .inr (.inl q)
  ·obtain⟨u,q⟩:=Option.ne_none_iff_exists'.mp h
   have:=hr _ _ q
   rw[e] at this;cases this
   exact .inr (.inr q)
 ·cases e
theorem qnB {K:PySem.W.Frag} {P N R H:Hp} (hp:Same P H) (hn:Same N H) (hr:Same R H) {a:Addr} {xs:List V} (h:SqL K (un3 P N R H) a xs):SqL K P a xs∨SqL K N a xs∨SqL K R a xs:=by
 rcases h with(h | ⟨o,h⟩) | h
 ·rcases qrD hp hn hr h with h | h | h
  ·exact .inl (.inl (.inl h))
  ·exact .inr (.inl (.inl (.inl h)))
  ·exact .inr (.inr (.inl (.inl h)))
 ·rcases qrD hp hn hr h with h | h | h
  ·exact .inl (.inl (.inr ⟨o,h⟩))
  ·exact .inr (.inl (.inl (.inr ⟨o,h⟩)))
  ·exact .inr (.inr (.inl (.inr ⟨o,h⟩)))
 ·exact .inl (.inr h)
theorem qrV {N N' H:Hp}:Same (un2 N N' H) H:=fun a o e=>by
 unfold un2 at e
 split at e
 ·exact e
 ·cases e
theorem qiN {N N' H:Hp} (h:Same N H):Same N (un2 N N' H):=fun a o e=>by
 unfold un2
 rw[if_pos (.inl (by rw[e];simp))]
 exact h _ _ e
theorem qhx {N N' H:Hp} (h:Same N' H):Same N' (un2 N N' H):=fun a o e=>by
 unfold un2
 rw[if_pos (.inr (by rw[e];simp))]
 exact h _ _ e
theorem Adv.back {P N H P' N' H':Hp} (hn:Same N H) (a:Adv P (fun _=>none) H P' N' H'):Adv P N H P' (un2 N N' H') H' where
 hh:=a.hh
 pp:=a.pp
 nn:=qiN (hn.trans a.hh)
 pH:=a.pH
 nH:=qrV
 pn:=a.pn
 nw:=fun q h=>by
  unfold un2 at h
  split at h
  ·rename_i z
   rcases z with z | z
   ·exact .inl z
   ·rcases a.nw q z with z | z
    ·exact absurd rfl z
    ·exact .inr z
  ·exact absurd rfl h
 dj:=fun q h h2=>by
  unfold un2 at h
  split at h
  ·rename_i z
   rcases z with z | z
   ·exact z
   ·exact absurd rfl (a.dj q z h2)
  ·exact absurd rfl h
theorem qmC {P N H H0:Hp} {σ:L2.St} {n:Nat} {g':List D→RE ER} {Q:VK} {es:List ER} {vs:List V} (r:Reg C P N H) (e0:L2.Same H0 H) (hv:ERs C P N H H0 es vs) (hn:es.length=n)
  (h:res C σ P N H ((g' (es.map ER.d)).bind (qcJ (!es.all ER.isV))) (kE C H0 Q)):spD C.G n g' vs H Q (fun cls d H'=>C.W cls d σ H'):=by
 have rH:=r.rH
 cases ha:es.all ER.isV with
 |true =>
  rw[ha] at h
  have hr:=hv.reps ha
  refine⟨P,un3 P N C.R H,es.map ER.d,r.pH,qul,Reps.mono (L2.Same.refl _) _ _ (fun a xs q=>?_) hr,by rw[List.length_map,hn],?_⟩
  ·rcases q with q | ⟨_,q | q | q⟩
   ·exact .inl (.inl (qpi r.nH _ _ q))
   ·exact L2.Same.seq (qve r.pH) q
   ·exact L2.Same.seq (qpi r.nH) q
   ·exact L2.Same.seq (quD rH) q
  ·have mono:∀{P' N' H':Hp} {b:Bool},Adv P (fun _=>none) H P' N' H'→∀a xs,LNb C.G.K P' N' (un3 P N C.R H) b a xs→LNb C.G.K P' (un2 N N' H') C.R b a xs:=fun {P' N' H' b} ad a xs q=>by
    rcases q with q | ⟨hb,q | q | q⟩
    ·exact .inl (qhx ad.nH _ _ q)
    ·exact .inr ⟨hb,.inl q⟩
    ·exact .inr ⟨hb,.inr (.inl (L2.Same.seq (qhx ad.nH) q))⟩
    ·rcases qnB r.pH r.nH rH q with q | q | q
     ·exact .inr ⟨hb,.inl (L2.Same.seq ad.pp q)⟩
     ·exact .inr ⟨hb,.inr (.inl (L2.Same.seq (qiN (r.nH.trans ad.hh)) q))⟩
     ·exact .inr ⟨hb,.inr (.inr q)⟩
   cases e:g' (es.map ER.d) with
   |bad=>rw[e] at h;exact h.elim
   |exc c fs =>
    rw[e] at h
    intro d H' P' N' ad hx
    refine h d _ _ _ (ad.back r.nH) ?_
    rcases hx with hx | ⟨dd,f,v,h1,h2,h3,h4⟩
    ·exact .inl hx
    ·exact .inr ⟨dd,f,v,h1,h2,h3,Rep.mono (L2.Same.refl _) _ _ (mono ad) h4⟩
   |ok er =>
    rw[e] at h
    intro v H' P' N' ad hx
    cases er with
    |brw ds b=>exact h.elim
    |val d b=>exact h _ _ _ (ad.back r.nH) v (RepB.nf (C:=C) (Rep.mono (L2.Same.refl _) _ _ (mono ad) hx))
    |fre ds b =>
     obtain⟨p,xs,rfl,h1,h2,h3,h4,h5⟩:=hx
     refine h _ _ _ (ad.back r.nH) _ ⟨p,xs,rfl,h1,e0.free h2,h3,?_,Reps.mono (L2.Same.refl _) _ _ (mono ad) h5⟩
     unfold un2
     rw[if_neg]
     rintro(z | z)
     ·exact z (r.nH.free h2)
     ·exact z h4
 |false =>
  rw[ha] at h
  have hr:Reps C.G P (SqL C.G.K H) (es.map ER.d) vs:=by
   clear h ha hn
   induction es generalizing vs with
   |nil=>cases hv;rfl
   |cons e es ih =>
    obtain⟨v,u,rfl,h1,h2⟩:=hv
    refine⟨v,u,rfl,?_,ih h2⟩
    have w:=h1.w r
    have mm:=fun a xs=>LNb.seq (K:=C.G.K) (b:=e.b) r.pH r.nH rH a xs
    cases q:e.d with
    |lst ds =>
     rw[q] at w
     obtain⟨p,xs,rfl,h3,h4⟩:=w
     exact⟨p,xs,rfl,h3,Reps.mono (L2.Same.refl _) _ _ mm h4⟩
    |non=>rw[q] at w;exact Rep.mono (L2.Same.refl _) _ _ mm w
    |bl _=>rw[q] at w;exact Rep.mono (L2.Same.refl _) _ _ mm w
    |int _=>rw[q] at w;exact Rep.mono (L2.Same.refl _) _ _ mm w
    |str _=>rw[q] at w;exact Rep.mono (L2.Same.refl _) _ _ mm w
    |tup _=>rw[q] at w;exact Rep.mono (L2.Same.refl _) _ _ mm w
    |ins _ _=>rw[q] at w;exact Rep.mono (L2.Same.refl _) _ _ mm w
    |exc _ _=>rw[q] at w;exact Rep.mono (L2.Same.refl _) _ _ mm w
  refine⟨P,H,es.map ER.d,r.pH,L2.Same.refl _,hr,by rw[List.length_map,hn],?_⟩
  have mono:∀{P' N' H':Hp},Adv P (fun _=>none) H P' N' H'→∀a xs,LNb C.G.K P' N' H true a xs→LNb C.G.K P' (un2 N N' H') C.R true a xs:=fun {P' N' H'} ad a xs q=>by
   rcases q with q | ⟨hb,q⟩
   ·exact .inl (qhx ad.nH _ _ q)
   ·cases hb
  cases e:g' (es.map ER.d) with
  |bad=>rw[e] at h;exact h.elim
  |exc c fs =>
   rw[e] at h
   intro d H' P' N' ad hx
   refine h d _ _ _ (ad.back r.nH) ?_
   rcases hx with hx | ⟨dd,f,v,h1,h2,h3,h4⟩
   ·exact .inl hx
   ·exact .inr ⟨dd,f,v,h1,h2,h3,Rep.mono (L2.Same.refl _) _ _ (mono ad) h4⟩
  |ok er =>
   rw[e] at h
   intro v H' P' N' ad hx
   cases er with
   |brw ds b=>exact h.elim
   |val d b =>
    simp only[Bool.not_false,RE.bind_ok,qcJ] at h
    split at h
    ·rename_i z
     refine h _ _ _ (ad.back r.nH) v ?_
     cases b with
     |true=>exact Rep.mono (L2.Same.refl _) _ _ (mono ad) hx
     |false=>exact Rep.flat _ _ (by simpa using z) hx
    ·exact h.elim
   |fre ds b =>
    simp only[Bool.not_false,RE.bind_ok,qcJ] at h
    obtain⟨p,xs,rfl,h1,h2,h3,h4,h5⟩:=hx
    split at h
    ·rename_i z
     refine h _ _ _ (ad.back r.nH) _ ⟨p,xs,rfl,h1,e0.free h2,h3,?_,?_⟩
     ·unfold un2
      rw[if_neg]
      rintro(z | z)
      ·exact z (r.nH.free h2)
      ·exact z h4
     ·cases b with
      |true=>exact Reps.mono (L2.Same.refl _) _ _ (mono ad) h5
      |false=>exact Reps.flat _ _ (by simpa using z) h5
    ·exact h.elim
theorem qlW {G:Glo} {n m:Nat} {g gf:List D→RE ER} {dv:List D} {dvs vs:List V} {H:Hp} {Q:VK} {E:XK} (hm:dv.length=m) (hd:∀P LN,Reps G P LN dv dvs) (hg:∀xs,xs.length=n→g xs=gf (xs++dv)) (h:spD G n g vs H Q E):spD G (n+m) gf (vs++dvs) H Q E:=by
 obtain⟨P,R,ds,h1,h2,h3,h4,h5⟩:=h
 rw[hg ds h4] at h5
 exact⟨P,R,ds++dv,h1,h2,Reps.append h3 (hd _ _),by rw[List.length_append,h4,hm],h5⟩
theorem qnh {k:Nat} {f:Addr} {fd:FuncData} {ps:List Str} {sp:Sp} {W:WX} {pins:List (Addr × Obj)} {σ:L2.St} {H:Hp} {s:Shared} {Q:VK} {us dus:List Value} {vs dvs:List V} (F:FnOk X.prog X.w X.K X.mg X.base (L2.CX X.prog X.w) k f fd ps sp) (hr:Room k X.A) (hb:Binds X.K fd ps dus) (hd:Vals dvs dus)
  (tk:Takes X W) (I:Inv X pins σ H s) (r:Vals vs us) (h:sp (vs++dvs) H Q (fun cls d H'=>W cls d σ H')):wpAny (model X.prog X.w) X.A (call (.ref f) us) (EP X pins σ Q) X.xe s:=by
 have r2:Vals (vs++dvs) (us++dus):=r.append hd
 have hl:(us++dus).length=ps.length:=by rw[←r2.length];exact F.len _ _ _ _ h
 refine wpAny_call (codeAny_mono (F.run X.A X.stack s H ⟨us,[]⟩ (us++dus) (vs++dvs) Q _ hr I.env0 (hb s us I.kIn hl) r2 h) fun r s' hq=>?_)
 cases r with
 |error e=>exact tk e s' (XE.of_call I (fun cls d H' q=>q) hq)
 |ok fl =>
  cases fl with
  |ret u=>exact I.after hq
  |next=>exact False.elim hq
  |brk=>exact False.elim hq
  |cont=>exact False.elim hq
theorem qoO {k:Nat} {f:Addr} {fd:FuncData} {ps:List Str} {sp:Sp} {W:WX} {pins:List (Addr × Obj)} {σ:L2.St} {H:Hp} {s:Shared} {Q:VK} {us:List Value} {vs:List V} (F:FnOk X.prog X.w X.K X.mg X.base (L2.CX X.prog X.w) k f fd ps sp) (hr:Room k X.A) (hb:Binds X.K fd ps [])
  (tk:Takes X W) (I:Inv X pins σ H s) (r:Vals vs us) (h:sp vs H Q (fun cls d H'=>W cls d σ H')):wpAny (model X.prog X.w) X.A (call (.ref f) us) (EP X pins σ Q) X.xe s:=by
 have hl:us.length=ps.length:=by rw[←r.length];exact F.len _ _ _ _ h
 have hb':=hb s us I.kIn (by rw[List.append_nil];exact hl)
 rw[List.append_nil] at hb'
 refine wpAny_call (codeAny_mono (F.run X.A X.stack s H ⟨us,[]⟩ us vs Q _ hr I.env0 hb' r h) fun r s' hq=>?_)
 cases r with
 |error e=>exact tk e s' (XE.of_call I (fun cls d H' q=>q) hq)
 |ok fl =>
  cases fl with
  |ret u=>exact I.after hq
  |next=>exact False.elim hq
  |brk=>exact False.elim hq
  |cont=>exact False.elim hq
def qmI (X:Cx) (es:List Expr):Prop:=(∀e r,es=e::r→starEach (e::r) X.env=(false,eval e X.env)::starEach r X.env)∧∀pos e r,es=e::r→(backTo pos (starEach r X.env)).any (·.1)=false
def Part (K:PySem.W.Frag) (G:Glo) (fd:FuncData) (ps:List Str) (n m:Nat) (g gf:List D→RE ER):Prop:=
 ∃(dv:List D) (dvs:List V) (dus:List Value),Binds K fd ps dus∧Vals dvs dus∧dv.length=m∧(∀P LN,Reps G P LN dv dvs)∧∀xs,xs.length=n→g xs=gf (xs++dv)
theorem Part.all {K:PySem.W.Frag} {G:Glo} {fd:FuncData} {ps:List Str} {n:Nat} {g:List D→RE ER} (h:Binds K fd ps []):Part K G fd ps n 0 g g:=⟨[],[],[],h,.nil,rfl,fun _ _=>rfl,fun xs _=>by rw[List.append_nil]⟩
theorem qgc {x:Str} {k:Nat} {f:Addr} {fd:FuncData} {ps:List Str} {n m:Nat} {g' gf:List D→RE ER} {dv:List D} {dvs:List V} {dus:List Value} {g:List Sl→RE (List ER)} {es:List Expr} {p pos:Pos} (F:FnOk X.prog X.w X.K X.mg X.base (L2.CX X.prog X.w) k f fd ps (spD C.G (n+m) gf)) (hr:Room k X.A) (hg:Gl X x) (hm:X.mg x=some (.ref f)) (hk:PySem.W.keepIn X.K (.ref f)=true)
  (hb:Binds X.K fd ps dus) (hdv:Vals dvs dus) (hdm:dv.length=m) (hdr:∀P LN,Reps C.G P LN dv dvs) (hgf:∀xs,xs.length=n→g' xs=gf (xs++dv)) (tk:Takes X C.W) (ha:PA X es (tA C g)) (hdb:(x == ("__debug__" : Str))=false) (hs:qmI X es) (h0:es=[]→∀ρ,g ρ=.ok []) :
  PE X (.Call (.Name x p) es [] pos) (fun σ H Q=>tA C g σ H fun vs H1=>spD C.G n g' vs H1 Q (fun cls d H'=>C.W cls d σ H')):=by
  cases es with
  |nil =>
   refine⟨fun pins s σ H Q I h=>?_⟩
   refine wpAny_Call_Name_kw (ld_glob I hg hm ?_ hdb)
   refine PySem.W.callWith_K0 I.kIn hk ?_
   obtain⟨ρ,P,N,S,h⟩:=h
   rw[h0 rfl ρ] at h
   exact qnh F hr hb hdv tk I .nil (qlW hdm hdr hgf (h.now S.reg [] rfl))
  |cons e es =>
   refine⟨fun pins s σ H Q I h=>?_⟩
   refine wpAny_Call_Name_kw (ld_glob I hg hm ?_ hdb)
   refine PySem.W.callWith_K (h₀:=X.base) I.ok.mod.kin hk (thn (ha.run pos pins s σ H _ I h) fun us s1 ⟨vs,H1,I1,r,q⟩=>⟨I1.kIn,?_⟩) (hs.1 _ _ rfl) (hs.2 _ _ _ rfl)
   exact qnh F hr hb hdv tk I1 r (qlW hdm hdr hgf q)
theorem qqT {x:Str} {k:Nat} {f:Addr} {fd:FuncData} {ps:List Str} {n m:Nat} {g' gf:List D→RE ER} {dv:List D} {dvs:List V} {dus:List Value} {g:List Sl→RE (List ER)} {es:List Expr} {p pos:Pos} (F:FnOk X.prog X.w X.K X.mg X.base (L2.CX X.prog X.w) k f fd ps (spD C.G (n+m) gf)) (hr:Room k X.A) (hg:Gl X x) (hm:X.mg x=some (.ref f)) (hk:PySem.W.keepIn X.K (.ref f)=true)
  (hb:Binds X.K fd ps dus) (hdv:Vals dvs dus) (hdm:dv.length=m) (hdr:∀P LN,Reps C.G P LN dv dvs) (hgf:∀xs,xs.length=n→g' xs=gf (xs++dv)) (tk:Takes X C.W) (ha:PA X es (tA C g)) (hdb:(x == ("__debug__" : Str))=false) (hs:qmI X es) (hl:∀ρ r,g ρ=.ok r→r.length=n) (h0:es=[]→∀ρ,g ρ=.ok []) :
  PE X (.Call (.Name x p) es [] pos) (tE C fun ρ=>(g ρ).bind fun r=>(g' (r.map ER.d)).bind (qcJ (!r.all ER.isV))):=by
 refine qaf (qgc F hr hg hm hk hb hdv hdm hdr hgf tk ha hdb hs h0) fun σ H Q q=>?_
 obtain⟨ρ,P,N,S,h⟩:=q
 exact⟨ρ,P,N,S,h.bind.mono fun r P1 N1 H1 e a1 h1 vs rv=>qmC (S.adv a1).reg a1.hh rv (hl _ _ e) h1⟩
def ER.noF:ER→Bool
 |.fre _ _=>false
 |_=>true
theorem qfM {G:Glo} {P:Hp} {LN:Addr→List V→Prop}:∀{ds:List D} {ns:List Int} {xs:List V},qaU ds=some ns→Reps G P LN ds xs→xs=ns.map V.int
 |[],ns,xs,e,h=>by cases e;cases h;rfl
 |d::ds,ns,xs,e,⟨v,r,q,h1,h2⟩=>by
  cases d<;>simp only[qaU] at e<;>try cases e
  rename_i i
  cases k:qaU ds with
  |none=>rw[k] at e;cases e
  |some ms =>
   rw[k] at e
   cases e
   have h1:v=.int i:=h1
   rw[q,h1,qfM k h2]
   rfl
theorem qh2:∀{ds:List D} {ns:List Int},qaU ds=some ns→D.flats ds=true
 |[],_,_=>rfl
 |d::ds,ns,e=>by
  cases d<;>simp only[qaU] at e<;>try cases e
  cases k:qaU ds with
  |none=>rw[k] at e;cases e
  |some ms =>
   simp only[D.flats,D.flat,Bool.true_and]
   exact qh2 k
mutual
theorem Rep.off {G:Glo} {P:Hp} {LN LN':Addr→List V→Prop} {os:List (List Int)} (h:∀a (ns:List Int),LN a (ns.map V.int)→ns∉os→LN' a (ns.map V.int)):∀(d:D) (v:V),qrn os d=true→Rep G P LN d v→Rep G P LN' d v
 |.non,_,_,q=>q
 |.bl _,_,_,q=>q
 |.int _,_,_,q=>q
 |.str _,_,_,q=>q
 |.lst ds,v,f,⟨a,xs,e,h1,h2⟩=>by
  unfold qrn at f
  split at f
  ·rename_i ns hn
   have ex:xs=ns.map V.int:=qfM hn h2
   refine⟨a,xs,e,?_,Reps.flat ds xs (qh2 hn) h2⟩
   rw[ex] at h1 ⊢
   exact h a ns h1 (by simpa using f)
  ·cases f
 |.tup ds,v,f,⟨a,xs,e,h1,h2⟩=>⟨a,xs,e,h1,Reps.off h ds xs (by simpa[qrn] using f) h2⟩
 |.ins c ds,v,f,_=>by simp[qrn] at f
 |.exc _ _,v,f,_=>by simp[qrn] at f
theorem Reps.off {G:Glo} {P:Hp} {LN LN':Addr→List V→Prop} {os:List (List Int)} (h:∀a (ns:List Int),LN a (ns.map V.int)→ns∉os→LN' a (ns.map V.int)):∀(ds:List D) (vs:List V),qpV os ds=true→Reps G P LN ds vs→Reps G P LN' ds vs
 |[],_,_,q=>q
 |d::ds,vs,f,⟨v,r,e,h1,h2⟩=>by
  simp only[qpV,Bool.and_eq_true] at f
  exact⟨v,r,e,Rep.off h d v f.1 h1,Reps.off h ds r f.2 h2⟩
end
open Classical in
noncomputable def atO (os:List (List Int)) (H:Hp):Hp:=fun a=>if ∃ns∈os,H a=some (.lst (ns.map V.int)) then H a else none
theorem qsO {os:List (List Int)} {H:Hp}:Same (atO os H) H:=fun a o e=>by
 unfold atO at e
 split at e
 ·exact e
 ·cases e
theorem qrG {os:List (List Int)} {H:Hp} {a:Addr} {o:HO} (e:atO os H a=some o):∃ns∈os,o=.lst (ns.map V.int):=by
 unfold atO at e
 split at e
 ·rename_i h
  obtain⟨ns,hn,h⟩:=h
  rw[h] at e
  cases e
  exact⟨ns,hn,rfl⟩
 ·cases e
theorem qua {os:List (List Int)} {H:Hp} {a:Addr} {ns:List Int} (hn:ns∈os) (h:H a=some (.lst (ns.map V.int))):atO os H a=some (.lst (ns.map V.int)):=by
 unfold atO
 rw[if_pos ⟨ns,hn,h⟩,h]
theorem qrH {N A H:Hp} (hn:Same N H) (ha:Same A H) {a:Addr} {o:HO} (e:un2 N A H a=some o):N a=some o∨A a=some o:=by
 unfold un2 at e
 split at e
 ·rename_i h
  rcases h with h | h
  ·obtain⟨u,q⟩:=Option.ne_none_iff_exists'.mp h
   have:=hn _ _ q
   rw[e] at this;cases this
   exact .inl q
  ·obtain⟨u,q⟩:=Option.ne_none_iff_exists'.mp h
   have:=ha _ _ q
   rw[e] at this;cases this
   exact .inr q
 ·cases e
theorem qnY:∀{ns ms:List Int},ns.map V.int=ms.map V.int→ns=ms
 |[],[],_=>rfl
 |[],_::_,h=>by cases h
 |_::_,[],h=>by cases h
 |n::ns,m::ms,h=>by
  rw[List.map_cons,List.map_cons] at h
  injection h with h1 h2
  injection h1 with h1
  rw[h1,qnY h2]
theorem qpm {K:PySem.W.Frag} {N H:Hp} {os:List (List Int)} (hn:Same N H) {a:Addr} {ns:List Int} (h:SqL K (un2 N (atO os H) H) a (ns.map V.int)) (hs:ns∉os):SqL K N a (ns.map V.int):=by
 rcases h with(h | ⟨o,h⟩) | h
 ·rcases qrH hn qsO h with h | h
  ·exact .inl (.inl h)
  ·obtain⟨ms,hm,e⟩:=qrG h
   injection e with e
   rw[qnY e] at hs
   exact absurd hm hs
 ·rcases qrH hn qsO h with h | h
  ·exact .inl (.inr ⟨o,h⟩)
  ·obtain⟨ms,hm,e⟩:=qrG h
   cases e
 ·exact .inr h
theorem qg7 {P N H H0:Hp} {os:List (List Int)} {X:Hp} (hX:Same X H) (mm:∀(b:Bool) a xs,LNb C.G.K P N C.R b a xs→SqL C.G.K (un2 X (atO os H) H) a xs):∀{es:List ER} {vs:List V} {os':List (List Int)},(∀ns∈os',ns∈os)→qhK es=some os'→ERs C P N H H0 es vs→(∀e∈es,e.noF=true)→Reps C.G P (SqL C.G.K (un2 X (atO os H) H)) (es.map ER.d) vs
 |[],vs,_,_,_,hv,_=>by cases hv;rfl
 |e::es,vs,os',ho,hw,⟨v,u,ev,h1,h2⟩,hf=>by
  subst ev
  cases e with
  |val d b =>
   exact⟨v,u,rfl,Rep.mono (L2.Same.refl _) _ _ (mm b) h1,qg7 hX mm ho hw h2 fun e he=>hf e (List.mem_cons_of_mem _ he)⟩
  |fre ds b=>have:=hf _ (List.mem_cons_self ..);cases this
  |brw ds b =>
   unfold qhK at hw
   split at hw
   ·rename_i ns hn
    cases k:qhK es with
    |none=>rw[k] at hw;cases hw
    |some os2 =>
     rw[k] at hw
     cases hw
     obtain⟨p,xs,rfl,z1,_,_,_,z5⟩:=h1
     have ex:xs=ns.map V.int:=qfM hn z5
     refine⟨.ref p,u,rfl,⟨p,xs,rfl,?_,Reps.mono (L2.Same.refl _) _ _ (mm b) z5⟩,qg7 hX mm (fun m hm=>ho m (List.mem_cons_of_mem _ hm)) k h2 fun e he=>hf e (List.mem_cons_of_mem _ he)⟩
     rw[ex] at z1 ⊢
     exact .inl (.inl (qhx qsO _ _ (qua (ho ns (List.mem_cons_self ..)) z1)))
   ·cases hw
theorem qob {P N H H0:Hp} {σ:L2.St} {n:Nat} {g':List D→RE ER} {Q:VK} {es:List ER} {vs:List V} {os:List (List Int)} (r:Reg C P N H) (hv:ERs C P N H H0 es vs) (hf:∀e∈es,e.noF=true) (hn:es.length=n) (ho:qhK es=some os)
  (h:res C σ P N H ((g' (es.map ER.d)).bind (qvx os)) (kE C H0 Q)):spD C.G n g' vs H Q (fun cls d H'=>C.W cls d σ H'):=by
 have rH:=r.rH
 have hX:Same (un3 P N C.R H) H:=qul
 have hr:=qg7 (os:=os) hX (fun b a xs q=>by
  rcases q with q | ⟨_,q | q | q⟩
  ·exact .inl (.inl (qiN hX _ _ (qpi r.nH _ _ q)))
  ·exact L2.Same.seq ((qve r.pH).trans (qiN hX)) q
  ·exact L2.Same.seq ((qpi r.nH).trans (qiN hX)) q
  ·exact L2.Same.seq ((quD rH).trans (qiN hX)) q) (fun _ h=>h) ho hv hf
 refine⟨P,un2 (un3 P N C.R H) (atO os H) H,es.map ER.d,r.pH,qrV,hr,by rw[List.length_map,hn],?_⟩
 have off:∀{P' N' H':Hp} {b:Bool},Adv P (fun _=>none) H P' N' H'→∀a (ns:List Int),LNb C.G.K P' N' (un2 (un3 P N C.R H) (atO os H) H) b a (ns.map V.int)→ns∉os→LNb C.G.K P' (un2 N N' H') C.R false a (ns.map V.int):=fun {P' N' H' b} ad a ns q hs=>by
  rcases q with q | ⟨hb,q | q | q⟩
  ·exact .inl (qhx ad.nH _ _ q)
  ·exact .inr ⟨rfl,.inl q⟩
  ·exact .inr ⟨rfl,.inr (.inl (L2.Same.seq (qhx ad.nH) q))⟩
  ·rcases qnB r.pH r.nH rH (qpm hX q hs) with q | q | q
   ·exact .inr ⟨rfl,.inl (L2.Same.seq ad.pp q)⟩
   ·exact .inr ⟨rfl,.inr (.inl (L2.Same.seq (qiN (r.nH.trans ad.hh)) q))⟩
   ·exact .inr ⟨rfl,.inr (.inr q)⟩
 have mono:∀{P' N' H':Hp},Adv P (fun _=>none) H P' N' H'→∀a xs,LNb C.G.K P' N' (un2 (un3 P N C.R H) (atO os H) H) true a xs→LNb C.G.K P' (un2 N N' H') C.R true a xs:=fun {P' N' H'} ad a xs q=>by
  rcases q with q | ⟨hb,q⟩
  ·exact .inl (qhx ad.nH _ _ q)
  ·cases hb
 cases e:g' (es.map ER.d) with
 |bad=>rw[e] at h;exact h.elim
 |exc c fs =>
  rw[e] at h
  intro d H' P' N' ad hx
  refine h d _ _ _ (ad.back r.nH) ?_
  rcases hx with hx | ⟨dd,f,v,h1,h2,h3,h4⟩
  ·exact .inl hx
  ·exact .inr ⟨dd,f,v,h1,h2,h3,Rep.mono (L2.Same.refl _) _ _ (mono ad) h4⟩
 |ok er =>
  rw[e] at h
  intro v H' P' N' ad hx
  cases er with
  |brw ds b=>exact h.elim
  |fre ds b=>exact h.elim
  |val d b =>
   simp only[RE.bind_ok,qvx] at h
   split at h
   ·rename_i z
    refine h _ _ _ (ad.back r.nH) v ?_
    have:=RepB.nf (C:=C) (b:=false) (Rep.off (LN':=LNb C.G.K P' (un2 N N' H') C.R false) (off ad) d v z hx)
    rw[Bool.false_or] at this
    exact this
   ·exact h.elim
theorem qsl (e:ER):e.frz.noF=true:=by cases e<;>rfl
theorem qpu {x:Str} {k:Nat} {f:Addr} {fd:FuncData} {ps:List Str} {n m:Nat} {g' gf:List D→RE ER} {dv:List D} {dvs:List V} {dus:List Value} {g:List Sl→RE (List ER)} {es:List Expr} {p pos:Pos} (F:FnOk X.prog X.w X.K X.mg X.base (L2.CX X.prog X.w) k f fd ps (spD C.G (n+m) gf)) (hr:Room k X.A) (hg:Gl X x) (hm:X.mg x=some (.ref f)) (hk:PySem.W.keepIn X.K (.ref f)=true)
  (hb:Binds X.K fd ps dus) (hdv:Vals dvs dus) (hdm:dv.length=m) (hdr:∀P LN,Reps C.G P LN dv dvs) (hgf:∀xs,xs.length=n→g' xs=gf (xs++dv)) (tk:Takes X C.W) (ha:PA X es (tA C g)) (hdb:(x == ("__debug__" : Str))=false) (hs:qmI X es) (hl:∀ρ r,g ρ=.ok r→r.length=n) (hF:∀ρ r,g ρ=.ok r→∀e∈r,e.noF=true) (h0:es=[]→∀ρ,g ρ=.ok []) :
  PE X (.Call (.Name x p) es [] pos) (tE C fun ρ=>(g ρ).bind fun r=>match qhK r with
   |some os=>(g' (r.map ER.d)).bind (qvx os)
   |none=>.bad):=by
 refine qaf (qgc F hr hg hm hk hb hdv hdm hdr hgf tk ha hdb hs h0) fun σ H Q q=>?_
 obtain⟨ρ,P,N,S,h⟩:=q
 refine⟨ρ,P,N,S,h.bind.mono fun r P1 N1 H1 e a1 h1 vs rv=>?_⟩
 cases k:qhK r with
 |none=>rw[k] at h1;exact h1.elim
 |some os =>
  rw[k] at h1
  exact qob (S.adv a1).reg rv (hF _ _ e) (hl _ _ e) k h1
structure MtOk (C:Ctx) (X:Cx) (m:Str) (c:Nat) (n:Nat) (g':List D→RE ER):Prop where
 cls:Cls X.K (C.G.ca c)
 nf:m∉C.G.fl c
 fn:∃k f fd ps,Meth X.K (C.G.ca c) m f∧FnOk X.prog X.w X.K X.mg X.base (L2.CX X.prog X.w) k f fd ps (spD C.G (n+1) g')∧Room k X.A∧Binds X.K fd ps []
theorem qhU {α β:Type} [BEq α] [LawfulBEq α] {m:α}:∀{l:List α} {xs:List β},m∉l→(l.zip xs).lookup m=none
 |[],_,_=>rfl
 |a::l,[],_=>rfl
 |a::l,x::xs,h=>by
  simp only[List.mem_cons,not_or] at h
  have:(m == a)=false:=by simpa using h.1
  simp only[List.zip_cons_cons,List.lookup_cons,this]
  exact qhU h.2
theorem qtL {m:Str} {n:Nat} {mt:Nat→Option (List D→RE ER)} {o:Expr} {go:List Sl→RE ER} {g:List Sl→RE (List ER)} {es:List Expr} {apos pos:Pos} (hm:∀c g',mt c=some g'→MtOk C X m c n g')
  (tk:Takes X C.W) (ho:PE X o (tE C go)) (ha:PA X es (tA C g)) (hs:qmI X es) (hl:∀ρ r,g ρ=.ok r→r.length=n) (h0:es=[]→∀ρ,g ρ=.ok [])
  {pl:Sem Bool} (ht:eval (.Call (.Attribute o m apos) es [] pos) X.env=(do
   let ov ←eval o X.env
   standAt apos.atName
   let (f,first) ←holding [ov] (getMethod ov m pl)
   callWith pos f first (backTo pos (starEach es X.env)) (backToKw pos (keywordEach [] X.env)))) :
  PE X (.Call (.Attribute o m apos) es [] pos) (tE C fun ρ=>(go ρ).bind fun x=>match x.d with
  |.ins c fs=>match mt c with
   |some g'=>(g ρ).bind fun r=>(g' (.ins c fs::r.map ER.d)).bind (qcJ (!r.all ER.isV))
   |none=>.bad
  |_=>.bad):=by
 refine⟨fun pins s σ H Q I h=>?_⟩
 have body:tE C go σ H fun x H1=>∃(a Ca dx:Addr) (fs:List (Str × V)) (f:Addr) (k:Nat) (fd:FuncData) (ps:List Str) (g':List D→RE ER),x=.ref a∧H1 a=some (.ins Ca dx fs)∧Cls X.K Ca∧Meth X.K Ca m f∧fs.lookup m=none ∧
   FnOk X.prog X.w X.K X.mg X.base (L2.CX X.prog X.w) k f fd ps (spD C.G (n+1) g')∧Room k X.A∧Binds X.K fd ps [] ∧
   ∃ρ P N r0,SR C P N H1 ρ σ∧(r0=g ρ)∧res C σ P N H1 r0 fun es' P' N' H'=>∀vs,ERs C P' N' H' H1 es' vs→spD C.G (n+1) g' (.ref a::vs) H' Q (fun cls d H'=>C.W cls d σ H'):=by
  obtain⟨ρ,P,N,S,h⟩:=h
  refine⟨ρ,P,N,S,h.bind.mono fun x P1 N1 H1 e1 a1 h1 v rv=>?_⟩
  have r1:=(S.adv a1).reg
  split at h1
  ·rename_i c fs q
   split at h1
   ·rename_i g' q2
    obtain⟨c1,c2,k,f,fd,ps,c3,c4,c5,c6⟩:=hm _ _ q2
    have w:=rv.w r1
    rw[q] at w
    have w':=w
    obtain⟨a,dx,xs,rfl,z1,z2,z3⟩:=w'
    refine⟨a,C.G.ca c,dx,_,f,k,fd,ps,g',rfl,r1.pH _ _ z1,c1,c3,qhU c2,c4,c5,c6,ρ,P1,N1,_,S.adv a1,rfl,?_⟩
    refine(res.bind h1).mono fun r P2 N2 H2 e2 a2 h2 vs rvs=>?_
    have r2:=(S.adv (a1.trans a2)).reg
    refine qmC (es:=.val (.ins c fs) x.b::r) r2 (a1.trans a2).hh ⟨_,vs,rfl,RepB.adv a2.pp a2.nn w,rvs.from a1.hh⟩ ?_ ?_
    ·rw[List.length_cons,hl _ _ e2]
    ·simpa[ER.isV] using h2
   ·exact h1.elim
  ·exact h1.elim
 refine PySem.W.methodCall_KW (pl:=pl) (thn (ho.run pins s σ H _ I body) fun u s1 ⟨x,H1,I1,rx,a,Ca,dx,fs,f,k,fd,ps,g',ex,ea,c,k',l,F,hr,hb,ρ,P,N,r0,S,e0,q⟩=>?_) ht
 subst ex
 obtain rfl:u=Value.ref a:=rx
 refine getmeth_ok I1 ea c k' l ?_
 subst e0
 cases es with
 |nil =>
  refine PySem.W.callWith_K0 (first:=[.ref a]) I1.kIn k'.kp ?_
  rw[h0 rfl ρ] at q
  exact qoO (us:=[.ref a]) (vs:=[.ref a]) F hr hb tk I1 (.cons rfl .nil) (q.now S.reg [] rfl)
 |cons e es =>
  refine PySem.W.callWith_K (first:=[.ref a]) (h₀:=X.base) I1.ok.mod.kin k'.kp (thn (ha.run pos pins s1 σ H1 (fun vs H'=>spD C.G (n+1) g' (.ref a::vs) H' Q (fun cls d H'=>C.W cls d σ H')) I1 ⟨ρ,P,N,S,q⟩) fun us s2 ⟨vs,H2,I2,r,q2⟩=>⟨I2.kIn,?_⟩) (hs.1 _ _ rfl) (hs.2 _ _ _ rfl)
  exact qoO (us:=.ref a::us) (vs:=.ref a::vs) F hr hb tk I2 (.cons rfl r) q2
structure FdOk (C:Ctx) (X:Cx) (f:Str) (c:Nat) (k:Nat):Prop where
 cls:Cls X.K (C.G.ca c)
 no:NoAttr X.K (C.G.ca c) f
 at_:(C.G.fl c)[k]? = some f
 nd:(C.G.fl c).Nodup
theorem qfz {f:Str}:∀{l:List Str} {xs:List V} {k:Nat} {v:V},l.Nodup→l[k]? = some f→xs[k]? = some v→(l.zip xs).lookup f=some v
 |[],_,_,_,_,h,_=>by simp at h
 |a::l,[],_,_,_,_,h=>by simp at h
 |a::l,x::xs,0,v,_,h,h'=>by
  simp at h h';subst h;subst h'
  simp
 |a::l,x::xs,k+1,v,nd,h,h'=>by
  have nd':=List.nodup_cons.mp nd
  have hl:l[k]? = some f:=by simpa using h
  have:f≠a:=fun e=>nd'.1 (e ▸ List.mem_of_getElem? hl)
  have e:(f == a)=false:=by simpa using this
  simp only[List.zip_cons_cons,List.lookup_cons,e]
  exact qfz nd'.2 hl (by simpa using h')
theorem qsA {f:Str} {fi:Nat→Option Nat} {o:Expr} {go:List Sl→RE ER} {pos:Pos} (hK:X.K=C.G.K) (hf:∀c k,fi c=some k→FdOk C X f c k) (ho:PE X o (tE C go)) (hb:attributeBase o f X.env (eval o X.env)=eval o X.env) :
  PE X (.Attribute o f pos) (tE C fun ρ=>(go ρ).bind fun x=>match x.d with
  |.ins c fs=>match fi c with
   |some k=>match fs[k]? with
    |some d=>.ok (.val d d.flat)
    |none=>.bad
   |none=>.bad
  |_=>.bad):=by
 refine qaf (pe_fld ho hb) fun σ H Q q=>?_
 obtain⟨ρ,P,N,S,h⟩:=q
 refine⟨ρ,P,N,S,h.bind.mono fun x P1 N1 H1 e1 a1 h1 v rv=>?_⟩
 have r1:=(S.adv a1).reg
 split at h1
 ·rename_i c fs q
  split at h1
  ·rename_i k q2
   obtain⟨c1,c2,c3,c4⟩:=hf _ _ q2
   have w:=rv.w r1
   rw[q] at w
   obtain⟨a,dx,xs,rfl,z1,z2,z3⟩:=w
   split at h1
   ·rename_i d q3
    obtain⟨u,q4,q5⟩:=Reps.get z3 q3
    refine⟨a,_,dx,_,u,rfl,r1.pH _ _ z1,c1,c2,qfz c4 c3 q4,h1.val r1 ?_⟩
    exact RepB.nf (b:=false) (Rep.mono (L2.Same.refl _) _ _ LNb.ofP q5)
   ·exact h1.elim
  ·exact h1.elim
 ·exact h1.elim
end
end Cm
namespace Cm
open PySem PySem.Spec PyProof.Rows L2
section
variable {C:Ctx} {X:Cx}
def tyS:Ty→String
 |.bool=>"bool" |.int=>"int" |.str=>"str" |.list=>"list" |.tuple=>"tuple"
def tyN:Ty→Str
 |.bool=>"bool" |.int=>"int" |.str=>"str" |.list=>"list" |.tuple=>"tuple"
theorem qsN:∀t,bootBuiltins (tyN t)=some (.type (tyS t))
 |.bool=>by decide +kernel
 |.int=>by decide +kernel
 |.str=>by decide +kernel
 |.list=>by decide +kernel
 |.tuple=>by decide +kernel
theorem qrh:∀t,tyN t ≠ "__name__" ∧ (tyN t == ("__debug__" : Str))=false:=by intro t;cases t<;>decide
theorem qjs {K:PySem.W.Frag} {H:Hp} {a:Addr} {xs:List V} (h:SqL K H a xs):TyX K H (.ref a) (.type "list"):=by
 rcases h with(h | ⟨o,h⟩) | ⟨o,its,n,h1,h2,_⟩
 ·exact .base (.lst h)
 ·exact .base (.frz h)
 ·exact .kList h1 h2
theorem qkx {K:PySem.W.Frag} {H:Hp} {a:Addr} {xs:List V} (h:SqT K H a xs):TyX K H (.ref a) (.type "tuple"):=by
 rcases h with(h | ⟨o,h⟩) | ⟨o,its,n,h1,h2,_⟩
 ·exact .base (.tup h)
 ·exact .fTuple h
 ·exact .kTuple h1 h2
theorem qaV (a b:String) (r:Bool) (h:kitB a b=some r) {K:PySem.W.Frag}:PySem.W.kitOne K (.type a) (.type b)=some r:=kit_ty h
theorem qsk {g:List Sl→RE ER} {t:Ty} {σ:L2.St} {H:Hp} {Q:VK} (h:tE C (fun ρ=>(g ρ).bind fun x=>qtW x.d t) σ H Q):tCB (rIsi C.G.K) (tCons (tE C g) (tCons (tC (.ty (tyS t))) tNil)) σ H Q:=by
 obtain⟨ρ,P,N,S,h⟩:=h
 refine⟨ρ,P,N,S,h.bind.mono fun x P1 N1 H1 e1 a1 h1 v rv=>?_⟩
 have r1:=(S.adv a1).reg
 have w:=rv.w r1
 show ∃(x c:V) (t' u:Value) (b:Bool),[v,V.ty (tyS t)]=[x,c]∧ClsV c u∧TyX C.G.K H1 x t'∧PySem.W.kitOne C.G.K t' u=some b∧Q (.bl b) H1
 cases q:x.d with
 |non =>
  rw[q] at w h1
  obtain rfl:v=.non:=w
  refine⟨_,_,.type "NoneType",_,false,rfl,.ty _,.base .non,?_,?_⟩
  ·cases t<;>exact qaV _ _ _ (by decide +kernel)
  ·cases t<;>exact h1.val r1 rfl
 |bl b =>
  rw[q] at w h1
  obtain rfl:=w.bl
  cases t
  ·exact⟨_,_,_,_,true,rfl,.ty _,.base (.bl b),qaV _ _ _ (by decide +kernel),h1.val r1 rfl⟩
  ·exact⟨_,_,_,_,true,rfl,.ty _,.base (.bl b),qaV _ _ _ (by decide +kernel),h1.val r1 rfl⟩
  ·exact⟨_,_,_,_,false,rfl,.ty _,.base (.bl b),qaV _ _ _ (by decide +kernel),h1.val r1 rfl⟩
  ·exact⟨_,_,_,_,false,rfl,.ty _,.base (.bl b),qaV _ _ _ (by decide +kernel),h1.val r1 rfl⟩
  ·exact⟨_,_,_,_,false,rfl,.ty _,.base (.bl b),qaV _ _ _ (by decide +kernel),h1.val r1 rfl⟩
 |int b =>
  rw[q] at w h1
  obtain rfl:=w.int
  cases t
  ·exact⟨_,_,_,_,false,rfl,.ty _,.base (.int b),qaV _ _ _ (by decide +kernel),h1.val r1 rfl⟩
  ·exact⟨_,_,_,_,true,rfl,.ty _,.base (.int b),qaV _ _ _ (by decide +kernel),h1.val r1 rfl⟩
  ·exact⟨_,_,_,_,false,rfl,.ty _,.base (.int b),qaV _ _ _ (by decide +kernel),h1.val r1 rfl⟩
  ·exact⟨_,_,_,_,false,rfl,.ty _,.base (.int b),qaV _ _ _ (by decide +kernel),h1.val r1 rfl⟩
  ·exact⟨_,_,_,_,false,rfl,.ty _,.base (.int b),qaV _ _ _ (by decide +kernel),h1.val r1 rfl⟩
 |str b =>
  rw[q] at w h1
  obtain rfl:=w.str
  cases t
  ·exact⟨_,_,_,_,false,rfl,.ty _,.base (.str _),qaV _ _ _ (by decide +kernel),h1.val r1 rfl⟩
  ·exact⟨_,_,_,_,false,rfl,.ty _,.base (.str _),qaV _ _ _ (by decide +kernel),h1.val r1 rfl⟩
  ·exact⟨_,_,_,_,true,rfl,.ty _,.base (.str _),qaV _ _ _ (by decide +kernel),h1.val r1 rfl⟩
  ·exact⟨_,_,_,_,false,rfl,.ty _,.base (.str _),qaV _ _ _ (by decide +kernel),h1.val r1 rfl⟩
  ·exact⟨_,_,_,_,false,rfl,.ty _,.base (.str _),qaV _ _ _ (by decide +kernel),h1.val r1 rfl⟩
 |lst ds =>
  rw[q] at w h1
  obtain⟨p,xs,rfl,z,_⟩:=w.lst
  cases t
  ·exact⟨_,_,_,_,false,rfl,.ty _,qjs z,qaV _ _ _ (by decide +kernel),h1.val r1 rfl⟩
  ·exact⟨_,_,_,_,false,rfl,.ty _,qjs z,qaV _ _ _ (by decide +kernel),h1.val r1 rfl⟩
  ·exact⟨_,_,_,_,false,rfl,.ty _,qjs z,qaV _ _ _ (by decide +kernel),h1.val r1 rfl⟩
  ·exact⟨_,_,_,_,true,rfl,.ty _,qjs z,qaV _ _ _ (by decide +kernel),h1.val r1 rfl⟩
  ·exact⟨_,_,_,_,false,rfl,.ty _,qjs z,qaV _ _ _ (by decide +kernel),h1.val r1 rfl⟩
 |tup ds =>
  rw[q] at w h1
  obtain⟨p,xs,rfl,z,_⟩:=w.tup r1
  cases t
  ·exact⟨_,_,_,_,false,rfl,.ty _,qkx z,qaV _ _ _ (by decide +kernel),h1.val r1 rfl⟩
  ·exact⟨_,_,_,_,false,rfl,.ty _,qkx z,qaV _ _ _ (by decide +kernel),h1.val r1 rfl⟩
  ·exact⟨_,_,_,_,false,rfl,.ty _,qkx z,qaV _ _ _ (by decide +kernel),h1.val r1 rfl⟩
  ·exact⟨_,_,_,_,false,rfl,.ty _,qkx z,qaV _ _ _ (by decide +kernel),h1.val r1 rfl⟩
  ·exact⟨_,_,_,_,true,rfl,.ty _,qkx z,qaV _ _ _ (by decide +kernel),h1.val r1 rfl⟩
 |ins c fs=>rw[q] at h1;exact h1.elim
 |exc c fs=>rw[q] at h1;exact h1.elim
theorem ql8:bootBuiltins "isinstance" = some (.builtin "isinstance"):=by decide +kernel
theorem qsS {a:Expr} {g:List Sl→RE ER} {t:Ty} {p p2 pos:Pos} (hK:X.K=C.G.K) (hg:Gl X "isinstance") (hm:X.mg "isinstance" = none) (hg2:Gl X (tyN t)) (hm2:X.mg (tyN t)=none) (h:PE X a (tE C g))
  (hs:starEach [a,.Name (tyN t) p2] X.env=(false,eval a X.env)::starEach [.Name (tyN t) p2] X.env) (hpl:(backTo pos (starEach [.Name (tyN t) p2] X.env)).any (·.1)=false):PE X (.Call (.Name "isinstance" p) [a,.Name (tyN t) p2] [] pos) (tE C fun ρ=>(g ρ).bind fun x=>qtW x.d t):=
 qaf (qgd call_isi ql8 (.inl ⟨_,rfl⟩) hg hm (pa_cons h (pa_cons (pe_bltn (v:=.ty (tyS t)) hg2 hm2 (qsN t) rfl (qrh t).1 (qrh t).2) pa_nil) hs) (by decide) (by decide) hs hpl) fun σ H Q q=>by rw[hK];exact qsk q
theorem qlR {P N:Hp} {b:Bool}:∀ys:List Str,RepsB C P N b (ys.map fun z=>.str z.cps.toList) (ys.map V.str)
 |[]=>rfl
 |y::ys=>⟨_,_,rfl,rfl,qlR ys⟩
def rBm (K:PySem.W.Frag):Bme→V→List V→Hp→VK→Prop
 |.split=>fun x xs H Q=>∃a b,x=.str a∧xs=[.str b]∧(b.length == 0)=false∧a.length+2≤sizeLine∧rNewStrs (Txt.split a b) H Q
 |.join=>fun x xs H Q=>∃a p,∃ys:List Str,x=.str a∧xs=[.ref p]∧(SqL K H p (ys.map V.str)∨SqT K H p (ys.map V.str))∧(ys.map (·.length)).sum+ys.length*a.length≤16777216∧Q (.str (Txt.join a ys)) H
 |.find=>fun x xs H Q=>∃a b,x=.str a∧xs=[.str b]∧Q (.int (Txt.find a b)) H
def bmN:Bme→Str
 |.split=>"split" |.join=>"join" |.find=>"find"
abbrev gBm (m:Bme) (go g:List Sl→RE ER):List Sl→RE ER:=fun ρ=>(go ρ).bind fun x=>match x.d with
  |.str s=>(g ρ).bind fun y=>evM m s y.d
  |_=>.bad
theorem qoa {m:Bme} {go g:List Sl→RE ER} {σ:L2.St} {H:Hp} {Q:VK} (h:tE C (gBm m go g) σ H Q):tM1 (rBm C.G.K m) (tE C go) (tE C g) σ H Q:=by
 obtain⟨ρ,P,N,S,h⟩:=h
 refine⟨ρ,P,N,S,h.bind.mono fun x P1 N1 H1 e1 a1 h1 v rv=>?_⟩
 have r1:=(S.adv a1).reg
 split at h1
 ·rename_i s q
  have w:=rv.w r1
  rw[q] at w
  cases w.str
  refine⟨⟨_,rfl⟩,ρ,P1,N1,S.adv a1,(res.bind h1).mono fun y P2 N2 H2 e2 a2 h2 u ru=>?_⟩
  have r2:=(S.adv (a1.trans a2)).reg
  have w2:=ru.w r2
  cases m with
  |split =>
   simp only[evM,qd6,qba,qao,qby,qbd,qbz,qbw,qbJ,qbv,qa5,qbx] at h2
   split at h2
   ·rename_i t q2
    rw[q2] at w2
    cases w2.str
    split at h2
    ·rename_i hl
     refine⟨_,_,rfl,rfl,?_,?_,fun p hp=>?_⟩
     ·rw[qco];simpa using hl.1
     ·rw[qco];exact hl.2
     ·exact h2.fre r2 (a1.trans a2).hh (qlR _) hp
    ·exact h2.elim
   ·exact h2.elim
  |join =>
   simp only[evM,qd6,qba,qao,qby,qbd,qbz,qbw,qbJ,qbv,qa5,qbx] at h2
   split at h2
   ·rename_i xs q2
    rw[q2] at w2
    obtain⟨p,us,rfl,z1,z2⟩:=w2.lst
    split at h2
    ·rename_i ss q3
     have e:=qjR q3 z2
     subst e
     split at h2
     ·rename_i hl
      refine⟨_,p,ss.map qaA,rfl,rfl,.inl z1,?_,h2.val r2 rfl⟩
      have e1:((ss.map qaA).map fun z=>z.length)=ss.map List.length:=by
       rw[List.map_map]
       exact List.map_congr_left fun a _=>qco a
      rw[e1,List.length_map,qco]
      exact hl
     ·exact h2.elim
    ·exact h2.elim
   ·exact h2.elim
  |find =>
   simp only[evM,qd6,qba,qao,qby,qbd,qbz,qbw,qbJ,qbv,qa5,qbx] at h2
   split at h2
   ·rename_i t q2
    rw[q2] at w2
    cases w2.str
    exact⟨_,_,rfl,rfl,h2.val r2 rfl⟩
   ·exact h2.elim
 ·exact h1.elim
theorem qt2 {m:Bme} {o a:Expr} {go g:List Sl→RE ER} {apos pos:Pos} (hK:X.K=C.G.K) (ho:PE X o (tE C go)) (ha:PE X a (tE C g)) (hs:starEach [a] X.env=[(false,eval a X.env)]) (hbase:attributeBase o (bmN m) X.env (eval o X.env)=eval o X.env) (hline:(apos.endLine == pos.line)=true) :
  PE X (.Call (.Attribute o (bmN m) apos) [a] [] pos) (tE C (gBm m go g)):=by
 cases m with
 |split=>exact qaf (pe_m1 PySem.F.slot_str_split PySem.F.type_str_split mt_split ho ha hs hbase hline) fun σ H Q q=>qoa (m:=.split) q
 |join=>exact qaf (pe_m1 PySem.F.slot_str_join PySem.F.type_str_join mt_join ho ha hs hbase hline) fun σ H Q q=>by rw[hK];exact qoa (m:=.join) q
 |find=>exact qaf (pe_m1 PySem.F.slot_str_find PySem.F.type_str_find mt_find ho ha hs hbase hline) fun σ H Q q=>qoa (m:=.find) q
theorem qma (a b:Int):rgV a b=(qfI a 1 (b - a).toNat).map V.int:=by
 unfold rgV qfI
 rw[List.map_map]
 exact List.map_congr_left fun i _=>by simp
theorem qoP {g:List Sl→RE ER} {σ:L2.St} {H:Hp} {Q:VK} (h:tE C (fun ρ=>((g ρ).bind fun x=>(RE.ok []).bind fun r=>.ok (x.frz::r)).bind fun r=>(qeu r).bind fun ns=>.ok (.fre (ns.map D.int) true)) σ H Q):tLstRg (tRg1 (tE C g)) σ H Q:=by
 obtain⟨ρ,P,N,S,h⟩:=h
 refine⟨ρ,P,N,S,(res.bind (res.bind h)).mono fun x P1 N1 H1 e1 a1 h1 v rv=>?_⟩
 have r1:=(S.adv a1).reg
 have hd:x.frz.d=x.d:=by cases x<;>rfl
 have h2:res C σ P1 N1 H1 ((qeu [x.frz]).bind fun ns=>.ok (.fre (ns.map D.int) true)) (kE C H Q):=h1.now r1
 unfold qeu at h2
 simp only[hd,qd6,qba,qao,qby,qbd,qbz,qbw,qbJ,qbv,qa5,qbx] at h2
 split at h2
 ·rename_i n q
  have w:=rv.w r1
  rw[q] at w
  split at h2
  ·rename_i hl
   have hl:=qlH hl
   refine⟨n,w.int,⟨by decide,by decide,hl.1.1,hl.1.2,by simpa[LIM] using hl.2⟩,fun p hp=>?_⟩
   rw[qma,Int.sub_zero]
   exact h2.fre r1 a1.hh (Reps.ints.mpr rfl) hp
  ·exact h2.elim
 ·exact h2.elim
theorem qoj {g g':List Sl→RE ER} {σ:L2.St} {H:Hp} {Q:VK} (h:tE C (fun ρ=>((g ρ).bind fun x=>((g' ρ).bind fun y=>(RE.ok []).bind fun r=>.ok (y.frz::r)).bind fun r=>.ok (x.frz::r)).bind fun r=>(qeu r).bind fun ns=>.ok (.fre (ns.map D.int) true)) σ H Q):tLstRg (tRg2 (tE C g) (tE C g')) σ H Q:=by
 obtain⟨ρ,P,N,S,h⟩:=h
 refine⟨ρ,P,N,S,(res.bind (res.bind h)).mono fun x P1 N1 H1 e1 a1 h1 v rv=>⟨ρ,P1,N1,S.adv a1,(res.bind (res.bind h1)).mono fun y P2 N2 H2 e2 a2 h2 u ru=>?_⟩⟩
 have r2:=(S.adv (a1.trans a2)).reg
 have hd:x.frz.d=x.d:=by cases x<;>rfl
 have hd2:y.frz.d=y.d:=by cases y<;>rfl
 have h3:res C σ P2 N2 H2 ((qeu [x.frz,y.frz]).bind fun ns=>.ok (.fre (ns.map D.int) true)) (kE C H Q):=(h2.now r2).now r2
 unfold qeu at h3
 simp only[hd,hd2,qd6,qba,qao,qby,qbd,qbz,qbw,qbJ,qbv,qa5,qbx] at h3
 split at h3
 ·rename_i i j q q2
  have w:=(rv.adv a2).w r2
  rw[q] at w
  have w2:=ru.w r2
  rw[q2] at w2
  split at h3
  ·rename_i hl
   have hl:=qnU hl
   refine⟨i,j,w.int,w2.int,⟨hl.1.1,hl.1.2,hl.2.1.1,hl.2.1.2,by simpa[LIM] using hl.2.2⟩,fun p hp=>?_⟩
   rw[qma]
   exact h3.fre r2 (a1.trans a2).hh (Reps.ints.mpr rfl) hp
  ·exact h3.elim
 ·exact h3.elim
theorem qpK {o:Expr} {go:List Sl→RE ER} {apos pos:Pos} (ho:PE X o (tE C go)) (hbase:attributeBase o "bit_length" X.env (eval o X.env)=eval o X.env) (hline:(apos.endLine == pos.line)=true):PE X (.Call (.Attribute o "bit_length" apos) [] [] pos) (tE C fun ρ=>(go ρ).bind fun x=>match x.d with
  |.int i=>ok (.int (Builtin.Int.intBits i:Nat))
  |_=>.bad):=by
 refine qaf (pe_bits ho hbase hline) fun σ H Q q=>?_
 obtain⟨ρ,P,N,S,h⟩:=q
 refine⟨ρ,P,N,S,h.bind.mono fun x P1 N1 H1 e1 a1 h1 v rv=>?_⟩
 have r1:=(S.adv a1).reg
 split at h1
 ·rename_i i q
  have w:=rv.w r1
  rw[q] at w
  exact⟨i,w.int,h1.val r1 rfl⟩
 ·exact h1.elim
end
end Cm
namespace Cm
open PySem PySem.Spec PyProof.Rows L2
section
variable {C:Ctx} {X:Cx}
theorem SR.setV {P N H:Hp} {ρ:List Sl} {σ:L2.St} (S:SR C P N H ρ σ) {i:Nat} {d:D} {b:Bool} {v:V} (h:RepB C P N b d v):SR C P N H (ρ.set i (.val d b)) (σ.set i (some v)) where
 reg:=S.reg
 len:=by simp[S.len]
 sl:=fun j s e=>by
  by_cases q:i=j
  ·subst q
   have hi:i<ρ.length:=by
    rcases Nat.lt_or_ge i ρ.length with z | z
    ·exact z
    ·rw[List.getElem?_eq_none (by simpa using z)] at e;cases e
   rw[List.getElem?_set_self hi] at e
   cases e
   exact⟨some v,List.getElem?_set_self (by rw[S.len];exact hi),v,rfl,h⟩
  ·rw[List.getElem?_set_ne q] at e
   rw[List.getElem?_set_ne q]
   exact S.sl j s e
 ap:=fun j k p ds c es c' e1 e2 e3 e4=>by
  by_cases q:i=j
  ·subst q
   rcases Nat.lt_or_ge i ρ.length with z | z
   ·rw[List.getElem?_set_self z] at e1;cases e1
   ·rw[List.getElem?_eq_none (by simpa using z)] at e1;cases e1
  ·by_cases q2:i=k
   ·subst q2
    rcases Nat.lt_or_ge i ρ.length with z | z
    ·rw[List.getElem?_set_self z] at e2;cases e2
    ·rw[List.getElem?_eq_none (by simpa using z)] at e2;cases e2
   ·rw[List.getElem?_set_ne q] at e1 e3
    rw[List.getElem?_set_ne q2] at e2 e4
    exact S.ap j k p ds c es c' e1 e2 e3 e4
 ad:=S.ad.set rfl
def qkg:List Nat→TGs
 |[]=>gNil
 |i::is=>gCons (gName i) (qkg is)
def tG (C:Ctx) (tg:List Nat):TG:=fun v σ H Q=>∃ρ P N d b ρ',SR C P N H ρ σ∧RepB C P N b d v∧qeA tg d b ρ=some ρ'∧∀σ',SR C P N H ρ' σ'→(∀j,j∉tg→σ'[j]? = σ[j]?)→σ'.length=σ.length→Q σ' H
theorem qjQ {P N H:Hp} {b:Bool}:∀{tg:List Nat} {ds:List D} {xs:List V} {ρ ρ':List Sl} {σ:L2.St} {Q:L2.St→Hp→Prop},SR C P N H ρ σ→RepsB C P N b ds xs→qo4 tg ds b ρ=some ρ' →
  (∀σ',SR C P N H ρ' σ'→(∀j,j∉tg→σ'[j]? = σ[j]?)→σ'.length=σ.length→Q σ' H)→qkg tg xs σ H Q
 |[],[],xs,ρ,ρ',σ,Q,S,h,e,q=>by
  cases h;cases e
  exact⟨rfl,q σ S (fun _ _=>rfl) rfl⟩
 |i::tg,d::ds,xs,ρ,ρ',σ,Q,S,⟨v,r,ex,h1,h2⟩,e,q=>by
  refine⟨v,r,ex,qjQ (S.setV (RepB.nf (C:=C) h1)) h2 e fun σ' S' hj hl=>q σ' S' (fun j hj'=>?_) (by rw[hl];simp)⟩
  simp only[List.mem_cons,not_or] at hj'
  rw[hj j hj'.2,List.getElem?_set_ne (fun z=>hj'.1 z.symm)]
 |[],d::ds,xs,ρ,ρ',σ,Q,S,h,e,q=>by cases e
 |i::tg,[],xs,ρ,ρ',σ,Q,S,h,e,q=>by cases e
theorem qo1 {t:Expr} {g g':TG} (h:PG X t g) (f:∀v σ H Q,g' v σ H Q→g v σ H Q):PG X t g':=⟨fun pins s σ H v u Q I r q=>h.run pins s σ H v u Q I r (f _ _ _ _ q)⟩
theorem qqp {i:Nat} {x:Str} {pos:Pos} (hN:X.N.Nodup) (hi:X.N[i]? = some x) (hx:Loc X.env.scope x) (hf:X.fn x=true∨X.env.scope.names.lookup x=some .local):PG X (.Name x pos) (tG C [i]):=
 qo1 (pg_name hN hi hx hf) fun v σ H Q q=>by
  obtain⟨ρ,P,N,d,b,ρ',S,h,e,q⟩:=q
  cases e
  refine q _ (S.setV (RepB.nf (C:=C) h)) (fun j hj=>?_) (by simp)
  rw[List.getElem?_set_ne (fun z=>hj (by simp[z]))]
theorem qrL {es:List Expr} {k:Nat} {tg:List Nat} {pos:Pos} (hK:X.K=C.G.K) (hc:X.calm=true) (h:PGs X es (qkg tg)) (hl:es.length=tg.length) (h2:tg.length≠1) (hn:(assignEach es X.env).length=es.length) (hst:(assignEach es X.env).findIdx? (·.1)=none):PG X (.Tuple es k pos) (tG C tg):=
 qo1 (pg_tup hc h rfl hst) fun v σ H Q q=>by
  obtain⟨ρ,P,N,d,b,ρ',S,h,e,q⟩:=q
  have e':∃ds,d=.tup ds∧qo4 tg ds b ρ=some ρ':=by
   unfold qeA at e
   split at e
   ·exact absurd rfl h2
   ·split at e
    ·exact⟨_,rfl,e⟩
    ·cases e
  clear e
  obtain⟨ds,rfl,e⟩:=e'
  obtain⟨a,xs,rfl,z1,z2⟩:=h
  have hlen:∀{tg:List Nat} {ds:List D} {ρ:List Sl},qo4 tg ds b ρ=some ρ'→ds.length=tg.length:=by
   intro tg
   induction tg with
   |nil=>intro ds ρ e;cases ds with
    |nil=>rfl
    |cons _ _=>cases e
   |cons i tg ih=>intro ds ρ e;cases ds with
    |nil=>cases e
    |cons d ds=>simp only[List.length_cons];rw[ih e]
  refine⟨a,xs,rfl,hK ▸ Same.seqT S.reg.pH z1,?_,qjQ S z2 e q⟩
  rw[z2.length,hlen e,hn,hl]
def Wok (C:Ctx) (P N H:Hp) (w:Wk) (J:It):Prop:=
 ∃(Gd:Hp→Prop) (Y:Nat→Hp→V→Hp→Prop),Walk J w.xs.length Gd Y∧(∀H2,L2.Same H H2→Gd H2)∧(w.own=false→∀P2 N2 H2,L2.Same P P2→L2.Same N N2→Reg C P2 N2 H2→Gd H2) ∧
  ∀i P2 N2 H2 x H3,i<w.xs.length→L2.Same P P2→L2.Same N N2→Reg C P2 N2 H2→Y i H2 x H3→∃P3,Adv P2 N2 H2 P3 N2 H3∧∃d,w.xs[i]? = some d∧RepB C P3 N2 w.b d x
def tI (C:Ctx) (g:List Sl→RE Wk):TI:=fun σ H R=>∃ρ P N,SR C P N H ρ σ∧res C σ P N H (g ρ) fun w P' N' H'=>∀J,Wok C P' N' H' w J→R J H'
theorem qep {tg e:Expr} {t u:TI} (h:PI X tg e t) (f:∀σ H R,u σ H R→t σ H R):PI X tg e u:=⟨fun pins s σ H R I q=>h.run pins s σ H R I (f _ _ _ q)⟩
theorem qqW {P N H:Hp} {er:ER} {ds:List D} {p:Addr} {xs:List V} (r:Reg C P N H) (hd:er.d=.lst ds) {H0:Hp} (h:ERr C P N H H0 er.frz (.ref p)) (h2:SqL C.G.K H p xs) (h3:RepsB C P N er.b ds xs) (hs:er.frz.isB=false→LNb C.G.K P N C.R er.b p xs):Wok C P N H ⟨ds,er.b,er.frz.isB⟩ (Itl C.G.K p):=by
 refine⟨fun H=>SqL C.G.K H p xs,YAt xs,?_,fun H2 e=>L2.Same.seq e h2,fun e P2 N2 H2 e1 e2 r2=>?_,fun i P2 N2 H2 x H3 hi e1 e2 r2 y=>?_⟩
 ·have:=walk_list (K:=C.G.K) (a:=p) (xs:=xs)
  rw[h3.length] at this
  exact this
 ·exact LNb.seq r2.pH r2.nH r2.rH _ _ (LNb.mono e1 e2 _ _ (hs e))
 ·obtain⟨rfl,e⟩:=y
  refine⟨P2,Adv.refl r2.pH r2.nH,ds[i]'hi,by simp,?_⟩
  obtain⟨v,q1,q2⟩:=Reps.get h3 (List.getElem?_eq_getElem hi)
  rw[q1] at e;cases e
  exact RepB.adv e1 e2 q2
theorem ERr.frz_lst {P N H H0:Hp} (r:Reg C P N H) {er:ER} {ds:List D} {v:V} (hd:er.d=.lst ds) (h:ERr C P N H H0 er.frz v):∃p xs,v=.ref p∧SqL C.G.K H p xs∧RepsB C P N er.b ds xs∧(er.frz.isB=false→LNb C.G.K P N C.R er.b p xs):=by
 cases er with
 |val d b =>
  have hd:d=.lst ds:=hd
  subst hd
  obtain⟨p,xs,e,h1,h2⟩:=h
  exact⟨p,xs,e,LNb.seq r.pH r.nH r.rH _ _ h1,h2,fun _=>h1⟩
 |fre d b =>
  have hd:D.lst d=.lst ds:=hd
  cases hd
  obtain⟨p,xs,e,h1,h2⟩:=h
  exact⟨p,xs,e,LNb.seq r.pH r.nH r.rH _ _ h1,h2,fun _=>h1⟩
 |brw d b =>
  have hd:D.lst d=.lst ds:=hd
  cases hd
  obtain⟨p,xs,e,h1,_,_,_,h2⟩:=h
  exact⟨p,xs,e,.inl (.inl h1),h2,fun z=>by cases z⟩
theorem quO (er:ER):er.frz.d=er.d:=by cases er<;>rfl
theorem qwj (er:ER):er.frz.b=er.b:=by cases er<;>rfl
theorem qg9 (er:ER):er.frz.isB=er.isB:=by cases er<;>rfl
def qvX (K:PySem.W.Frag) (t:TE):TI:=fun σ H R=>t σ H fun v H1=>((∃a,v=.ref a∧(∃xs,SqL K H1 a xs)∧R (Itl K a) H1)∨(∃a,v=.ref a∧(∃xs,SqT K H1 a xs)∧R (Itt K a) H1))∨∃x,v=.str x∧R (Its x) H1
theorem qrc {tg e:Expr} {t:TE} (h:PE X e t):PI X tg e (qvX X.K t):=by
 refine⟨fun pins s σ H R I q=>?_⟩
 refine thn (h.run pins s σ H _ I q) fun v s1 ⟨x,H1,I1,r1,q1⟩=>?_
 rcases q1 with(⟨a,e,⟨xs,sq⟩,q⟩ | ⟨a,e,⟨xs,sq⟩,q⟩) | ⟨z,e,q⟩
 ·subst e
  cases r1
  obtain⟨vl,rw0,p,zl⟩:=I1.list sq
  refine wpAny_pyIter_list p.isList ?_
  refine⟨s1.heap.objs.size,[s1.heap.objs.size],_,_,H1,rfl,I1.kept (t':=s1.toks) fun b o e=>Heap.get?_push_of_some _ e,turn_list a _,⟨_,Heap.get?_push_size _ rfl,rfl,rfl⟩,fun b hb0=>?_,q⟩
  have eb:b=s1.heap.objs.size:=by simpa using hb0
  subst eb
  exact I1.fpOk (Nat.le_refl s1.heap.objs.size) (I1.hok.fresh (Nat.le_refl s1.heap.objs.size))
 ·subst e
  cases r1
  obtain⟨vl,rw0,p,zl⟩:=I1.tuple sq
  refine wpAny_pyIter_tuple (show s1.heap.IsTuple a vl.toArray from p) ?_
  refine⟨s1.heap.objs.size,[s1.heap.objs.size],_,_,H1,rfl,I1.kept (t':=s1.toks) fun b o e=>Heap.get?_push_of_some _ e,turn_tuple a _,⟨_,Heap.get?_push_size _ rfl,rfl,rfl⟩,fun b hb0=>?_,q⟩
  have eb:b=s1.heap.objs.size:=by simpa using hb0
  subst eb
  exact I1.fpOk (Nat.le_refl s1.heap.objs.size) (I1.hok.fresh (Nat.le_refl s1.heap.objs.size))
 ·subst e
  obtain⟨t,rfl⟩:=r1
  cases ha:z.cps.all (· < 128)
  ·exact wpAny_pyIter_wide ha (pi_one (tk:=s1.toks) I1 _ (turn_str _ z t "str_iterator" (.inr rfl)) ⟨_,Heap.get?_push_size _ rfl,rfl,rfl⟩ q)
  ·exact wpAny_pyIter_ascii ha (pi_one (tk:=s1.toks) I1 _ (turn_str _ z t "str_ascii_iterator" (.inl rfl)) ⟨_,Heap.get?_push_size _ rfl,rfl,rfl⟩ q)
theorem qtf {g:List Sl→RE ER} {σ:L2.St} {H:Hp} {R:It→Hp→Prop} (h:tI C (fun ρ=>(g ρ).bind qjx) σ H R):qvX C.G.K (tE C g) σ H R:=by
 obtain⟨ρ,P,N,S,h⟩:=h
 refine⟨ρ,P,N,S,h.bind.mono fun x P1 N1 H1 e1 a1 h1 v rv=>?_⟩
 obtain⟨N2,a2,rv⟩:=rv.freeze a1
 have r2:=(S.adv a2).reg
 have h2:res C σ P1 N2 H1 (qjx x) fun w P' N' H'=>∀J,Wok C P' N' H' w J→R J H':=by
  simp only[e1,RE.bind_ok] at h
  exact res.adv a2 h
 unfold qjx at h2
 split at h2
 ·rename_i ds q
  obtain⟨p,xs,rfl,z1,z2,z3⟩:=rv.frz_lst r2 q
  have:=qqW r2 q rv z1 z2 z3
  rw[qg9] at this
  exact .inl (.inl ⟨p,rfl,⟨xs,z1⟩,h2.now r2 _ this⟩)
 ·rename_i ds q
  have w:=rv.w r2
  rw[quO,q] at w
  have w0:=w
  obtain⟨p,xs,rfl,z1,z2⟩:=w
  rw[qwj] at z2
  refine .inl (.inr ⟨p,rfl,⟨xs,Same.seqT r2.pH z1⟩,h2.now r2 _ ⟨fun H=>SqT C.G.K H p xs,YAt xs,?_,fun H2 e=>Same.seqT (r2.pH.trans e) z1,fun _ P2 N2 H2 e1 e2 r3=>Same.seqT (e1.trans r3.pH) z1,fun i P2 N2 H2 x H3 hi e1 e2 r2 y=>?_⟩⟩)
  ·have:=walk_tup (K:=C.G.K) (a:=p) (xs:=xs)
   rw[z2.length] at this
   exact this
  ·obtain⟨rfl,e⟩:=y
   refine⟨P2,Adv.refl r2.pH r2.nH,ds[i]'hi,by simp,?_⟩
   obtain⟨v,q1,q2⟩:=Reps.get z2 (List.getElem?_eq_getElem hi)
   rw[q1] at e;cases e
   exact RepB.adv e1 e2 q2
 ·rename_i s q
  have w:=rv.w r2
  rw[quO,q] at w
  cases w.str
  refine .inr ⟨_,rfl,h2.now r2 _ ⟨fun _=>True,fun i H v H'=>H'=H∧∃c,s[i]? = some c∧v=.str ⟨#[c]⟩,?_,fun _ _=>trivial,fun _ _ _ _ _ _ _=>trivial,fun i P2 N2 H2 x H3 hi e1 e2 r2 y=>?_⟩⟩
  ·have:=walk_str (z:=(⟨s.toArray⟩:Str))
   simpa using this
  ·obtain⟨rfl,c,e,rfl⟩:=y
   refine⟨P2,Adv.refl r2.pH r2.nH,.str [c],?_,rfl⟩
   simp[e]
 ·exact h2.elim
theorem qso {tg e:Expr} {g:List Sl→RE ER} (hK:X.K=C.G.K) (h:PE X e (tE C g)):PI X tg e (tI C fun ρ=>(g ρ).bind qjx):=
 qep (qrc h) fun σ H R q=>by rw[hK];exact qtf q
theorem qnM {P N H:Hp} (i:Int) (n:Nat):Wok C P N H ⟨(qfI i 1 n).map D.int,true,false⟩ (Itr i n):=by
 refine⟨fun _=>True,YFn fun k=>.int (i+k),?_,fun _ _=>trivial,fun _ _ _ _ _ _ _=>trivial,fun k P2 N2 H2 x H3 hi e1 e2 r2 y=>?_⟩
 ·have:=walk_range (lo:=i) (n:=n)
  simpa[qfI] using this
 ·obtain⟨rfl,rfl⟩:=y
  have hk:k<n:=by simpa[qfI] using hi
  refine⟨P2,Adv.refl r2.pH r2.nH,.int (i+k),?_,rfl⟩
  simp[qfI,hk]
theorem ql4 {P N H:Hp} (i c:Int) (n:Nat):Wok C P N H ⟨(qfI i c n).map D.int,true,false⟩ (Itc i c n):=by
 refine⟨fun _=>True,YFn fun k=>.int (i+(k:Nat)*c),?_,fun _ _=>trivial,fun _ _ _ _ _ _ _=>trivial,fun k P2 N2 H2 x H3 hi e1 e2 r2 y=>?_⟩
 ·have:=walk_rangeC (lo:=i) (c:=c) (n:=n)
  simpa[qfI] using this
 ·obtain⟨rfl,rfl⟩:=y
  have hk:k<n:=by simpa[qfI] using hi
  refine⟨P2,Adv.refl r2.pH r2.nH,.int (i+k*c),?_,rfl⟩
  simp[qfI,hk]
abbrev qv5 (g:List Sl→RE (List ER)):List Sl→RE Wk:=fun ρ=>(g ρ).bind fun r=>(qeu r).bind fun ns=>.ok ⟨ns.map D.int,true,false⟩
theorem qps {tg a:Expr} {g:List Sl→RE (List ER)} {p pos:Pos} (hg:Gl X "range") (hm:X.mg "range" = none) (ha:PA X [a] (tA C g)) (hl:∀ρ r,g ρ=.ok r→r.length=1) (hs:starEach [a] X.env=[(false,eval a X.env)]):PI X tg (.Call (.Name "range" p) [a] [] pos) (tI C (qv5 g)):=
 qep (pi_range1 hg hm ha hs) fun σ H R q=>by
  obtain⟨ρ,P,N,S,h⟩:=q
  refine⟨ρ,P,N,S,h.bind.mono fun r P1 N1 H1 e1 a1 h1 vs rv=>?_⟩
  have r1:=(S.adv a1).reg
  match r,hl _ _ e1,rv,h1 with
  |[x],_,rv,h1 =>
   obtain⟨v,u,rfl,w,rv⟩:=rv.w r1
   cases rv
   simp only[qeu,qd6,qba,qao,qby,qbd,qbz,qbw,qbJ,qbv,qa5,qbx] at h1
   split at h1
   ·rename_i n q
    rw[q] at w
    split at h1
    ·rename_i hl
     have hl:=qlH hl
     refine⟨n,by rw[w.int],hl.1.1,hl.1.2,?_⟩
     exact h1.now r1 _ (qnM 0 n.toNat)
    ·exact h1.elim
   ·exact h1.elim
theorem qqN {tg a b:Expr} {g:List Sl→RE (List ER)} {p pos:Pos} (hg:Gl X "range") (hm:X.mg "range" = none) (ha:PA X [a,b] (tA C g)) (hl:∀ρ r,g ρ=.ok r→r.length=2) (hs:starEach [a,b] X.env=[(false,eval a X.env),(false,eval b X.env)]) (hs2:starEach [b] X.env=[(false,eval b X.env)]) :
  PI X tg (.Call (.Name "range" p) [a,b] [] pos) (tI C (qv5 g)):=
 qep (pi_range2 hg hm ha hs hs2) fun σ H R q=>by
  obtain⟨ρ,P,N,S,h⟩:=q
  refine⟨ρ,P,N,S,h.bind.mono fun r P1 N1 H1 e1 a1 h1 vs rv=>?_⟩
  have r1:=(S.adv a1).reg
  match r,hl _ _ e1,rv,h1 with
  |[x,y],_,rv,h1 =>
   obtain⟨v,u,rfl,w,rv⟩:=rv.w r1
   obtain⟨v2,u2,rfl,w2,rv⟩:=rv.w r1
   cases rv
   simp only[qeu,qd6,qba,qao,qby,qbd,qbz,qbw,qbJ,qbv,qa5,qbx] at h1
   split at h1
   ·rename_i i j q q2
    rw[q] at w
    rw[q2] at w2
    split at h1
    ·rename_i hl
     have hl:=qnU hl
     refine⟨i,j,by rw[w.int,w2.int],⟨hl.1.1,hl.1.2,hl.2.1.1,hl.2.1.2⟩,?_⟩
     exact h1.now r1 _ (qnM i (j - i).toNat)
    ·exact h1.elim
   ·exact h1.elim
theorem qs2 {tg a:Expr} {g:List Sl→RE ER} {p p2 pos pos2:Pos} (hg:Gl X "reversed") (hm:X.mg "reversed" = none) (hg2:Gl X "range") (hm2:X.mg "range" = none) (ha:PE X a (tE C g)) (hs:starEach [a] X.env=[(false,eval a X.env)]) :
  PI X tg (.Call (.Name "reversed" p2) [.Call (.Name "range" p) [a] [] pos] [] pos2) (tI C fun ρ=>(g ρ).bind fun x=>match x.d with
  |.int n=>gd (qm1 n) (.ok ⟨(qfI (0+(((n - 0).toNat:Nat):Int) - 1) (-1) (n - 0).toNat).map D.int,true,false⟩)
  |_=>.bad):=
 qep (pi_revR hg hm (prg_1 hg2 hm2 ha hs)) fun σ H R q=>by
  obtain⟨ρ,P,N,S,h⟩:=q
  refine⟨ρ,P,N,S,h.bind.mono fun x P1 N1 H1 e1 a1 h1 v rv=>?_⟩
  have r1:=(S.adv a1).reg
  split at h1
  ·rename_i n q
   have w:=rv.w r1
   rw[q] at w
   simp only[qd6] at h1
   split at h1
   ·rename_i hl
    have hl:=qlH hl
    refine⟨n,w.int,by decide,by decide,hl.1.1,hl.1.2,?_⟩
    exact h1.now r1 _ (ql4 _ (-1) _)
   ·exact h1.elim
  ·exact h1.elim
theorem qt7 {i j c:Int} (h:c≠0∧c.natAbs<1073741824∧Builtin.Range.small i j c=true∧0≤Builtin.Range.rangeSize i j c∧qtY i j c≤LIM):RgC i j c (qtY i j c):=
 ⟨h.1,h.2.1,h.2.2.1,(Int.toNat_of_nonneg h.2.2.2.1).symm⟩
theorem qqn {tg a b c:Expr} {g:List Sl→RE (List ER)} {p pos:Pos} (hg:Gl X "range") (hm:X.mg "range" = none) (ha:PA X [a,b,c] (tA C g)) (hl:∀ρ r,g ρ=.ok r→r.length=3) (hs:starEach [a,b,c] X.env=(false,eval a X.env)::starEach [b,c] X.env) (hpl:(backTo pos (starEach [b,c] X.env)).any (·.1)=false) :
  PI X tg (.Call (.Name "range" p) [a,b,c] [] pos) (tI C (qv5 g)):=
 qep (pi_range3 hg hm ha hs hpl) fun σ H R q=>by
  obtain⟨ρ,P,N,S,h⟩:=q
  refine⟨ρ,P,N,S,h.bind.mono fun r P1 N1 H1 e1 a1 h1 vs rv=>?_⟩
  have r1:=(S.adv a1).reg
  match r,hl _ _ e1,rv,h1 with
  |[x,y,z],_,rv,h1 =>
   obtain⟨v,u,rfl,w,rv⟩:=rv.w r1
   obtain⟨v2,u2,rfl,w2,rv⟩:=rv.w r1
   obtain⟨v3,u3,rfl,w3,rv⟩:=rv.w r1
   cases rv
   simp only[qeu,qd6,qba,qao,qby,qbd,qbz,qbw,qbJ,qbv,qa5,qbx] at h1
   split at h1
   ·rename_i i j c q q2 q3
    rw[q] at w
    rw[q2] at w2
    rw[q3] at w3
    split at h1
    ·rename_i hl
     exact⟨i,j,c,_,by rw[w.int,w2.int,w3.int],qt7 hl,h1.now r1 _ (ql4 i c _)⟩
    ·exact h1.elim
   ·exact h1.elim
theorem qlV {P N H H':Hp} (r:Reg C P N H) {T:Addr} {x y:V} {d e:D} {b:Bool} (hT:H T=none) (eH:H'=upd H T (.tup [x,y])) (h:RepB C P N b d x) (h':RepB C P N b e y):∃P3,Adv P N H P3 N H'∧RepB C P3 N b (.tup [d,e]) (.ref T):=by
 subst eH
 have sp:=qaN (o:=.tup [x,y]) (r.pH.free hT)
 exact⟨upd P T (.tup [x,y]),(Adv.refl r.pH r.nH).newP hT,T,[x,y],rfl,.inl (.inl upd_same),x,[y],rfl,RepB.adv sp (L2.Same.refl _) h,y,[],rfl,RepB.adv sp (L2.Same.refl _) h',rfl⟩
theorem qut {a:Expr} {elts:List Expr} {kk:Nat} {g:List Sl→RE ER} {p pos tpos:Pos} (hK:X.K=C.G.K) (hg:Gl X "enumerate") (hm:X.mg "enumerate" = none) (h:PE X a (tE C g)) (hs:starEach [a] X.env=[(false,eval a X.env)]) :
  PI X (.Tuple elts kk tpos) (.Call (.Name "enumerate" p) [a] [] pos) (tI C fun ρ=>(g ρ).bind fun x=>match x.d with
  |.lst xs=>.ok ⟨xs.zipIdx.map fun p=>.tup [.int p.2,p.1],x.b,x.isB⟩
  |_=>.bad):=
 qep (pi_enum hg hm (pa_cons h pa_nil hs) hs) fun σ H R q=>by
  rw[hK]
  obtain⟨ρ,P,N,S,h⟩:=q
  refine⟨ρ,P,N,S,h.bind.mono fun x P1 N1 H1 e1 a1 h1 v rv=>?_⟩
  obtain⟨N2,a2,rv⟩:=rv.freeze a1
  have r2:=(S.adv a2).reg
  cases q:x.d with
  |lst ds =>
   simp only[e1,RE.bind_ok,q] at h
   have h2:=res.adv a2 h
   obtain⟨p,xs,rfl,z1,z2,z3⟩:=rv.frz_lst r2 q
   refine⟨p,xs,rfl,z1,h2.now r2 _ ⟨fun H=>SqL C.G.K H p xs,YPair (fun i=>some (.int (i:Nat))) (fun i=>xs[i]?),?_,fun H2 e=>L2.Same.seq e z1,fun e P2 N2 H2 e1 e2 r2=>?_,fun i P2 N2 H2 x H3 hi e1 e2 r2 y=>?_⟩⟩
   ·have:=walk_enum (K:=C.G.K) (a:=p) (xs:=xs)
    rw[z2.length] at this
    simpa using this
   ·exact LNb.seq r2.pH r2.nH r2.rH _ _ (LNb.mono e1 e2 _ _ (z3 (by rw[qg9];exact e)))
   ·obtain⟨T,x,y,rfl,hT,eH,ex,ey⟩:=y
    cases ex
    have hi:i<ds.length:=by simpa using hi
    obtain⟨v,q1,q2⟩:=Reps.get z2 (List.getElem?_eq_getElem hi)
    replace ey:xs[i]? = some y:=ey
    rw[q1] at ey;cases ey
    obtain⟨P3,q3,q4⟩:=qlV r2 hT eH (d:=.int i) rfl (RepB.adv e1 e2 q2)
    exact⟨P3,q3,_,by simp[hi],q4⟩
  |_=>simp only[q] at h1;exact h1.elim
theorem quu {tg a:Expr} {g:List Sl→RE ER} {p pos:Pos} (hK:X.K=C.G.K) (hg:Gl X "reversed") (hm:X.mg "reversed" = none) (h:PE X a (tE C g)) (hs:starEach [a] X.env=[(false,eval a X.env)]) :
  PI X tg (.Call (.Name "reversed" p) [a] [] pos) (tI C fun ρ=>(g ρ).bind fun x=>match x.d with
  |.lst xs=>.ok ⟨xs.reverse,x.b,x.isB⟩
  |_=>.bad):=
 qep (pi_reversed hg hm (pa_cons h pa_nil hs) hs) fun σ H R q=>by
  rw[hK]
  obtain⟨ρ,P,N,S,h⟩:=q
  refine⟨ρ,P,N,S,h.bind.mono fun x P1 N1 H1 e1 a1 h1 v rv=>?_⟩
  obtain⟨N2,a2,rv⟩:=rv.freeze a1
  have r2:=(S.adv a2).reg
  cases q:x.d with
  |lst ds =>
   simp only[e1,RE.bind_ok,q] at h
   have h2:=res.adv a2 h
   obtain⟨p,xs,rfl,z1,z2,z3⟩:=rv.frz_lst r2 q
   refine⟨p,xs,rfl,z1,h2.now r2 _ ⟨fun H=>SqL C.G.K H p xs,fun i H x H'=>H'=H∧xs[xs.length - 1 - i]? = some x,?_,fun H2 e=>L2.Same.seq e z1,fun e P2 N2 H2 e1 e2 r2=>?_,fun i P2 N2 H2 x H3 hi e1 e2 r2 y=>?_⟩⟩
   ·have:=walk_rev (K:=C.G.K) (a:=p) (xs:=xs)
    have e:=z2.length
    simp only[List.length_reverse]
    rw[←e]
    exact this
   ·exact LNb.seq r2.pH r2.nH r2.rH _ _ (LNb.mono e1 e2 _ _ (z3 (by rw[qg9];exact e)))
   ·obtain⟨rfl,ex⟩:=y
    have hi:i<ds.length:=by simpa using hi
    have hj:ds.length - 1 - i<ds.length:=by omega
    rw[z2.length] at ex
    obtain⟨v,q1,q2⟩:=Reps.get z2 (List.getElem?_eq_getElem hj)
    rw[q1] at ex;cases ex
    refine⟨P2,Adv.refl r2.pH r2.nH,_,?_,RepB.adv e1 e2 q2⟩
    rw[List.getElem?_reverse hi,List.getElem?_eq_getElem]
  |_=>simp only[q] at h1;exact h1.elim
theorem qun {a a':Expr} {elts:List Expr} {kk:Nat} {g g':List Sl→RE ER} {p pos tpos:Pos} (hK:X.K=C.G.K) (hg:Gl X "zip") (hm:X.mg "zip" = none) (h:PE X a (tE C g)) (h':PE X a' (tE C g')) (hs:starEach [a,a'] X.env=(false,eval a X.env)::starEach [a'] X.env) (hs2:starEach [a'] X.env=[(false,eval a' X.env)]) (hpl:(backTo pos (starEach [a'] X.env)).any (·.1)=false) :
  PI X (.Tuple elts kk tpos) (.Call (.Name "zip" p) [a,a'] [] pos) (tI C fun ρ=>(g ρ).bind fun x=>(g' ρ).bind fun y=>match x.d,y.d with
  |.lst xs,.lst ys=>.ok ⟨List.zipWith (fun u v=>.tup [u,v]) xs ys,x.b&&y.b,x.isB||y.isB⟩
  |_,_=>.bad):=
 qep (pi_zip hg hm (pa_cons h (pa_cons h' pa_nil hs2) hs) hs hpl) fun σ H R q=>by
  rw[hK]
  obtain⟨ρ,P,N,S,h⟩:=q
  refine⟨ρ,P,N,S,h.bind.mono fun x P1 N1 H1 e1 a1 h1 v rv=>?_⟩
  obtain⟨N2,a2,rv⟩:=rv.freeze a1
  simp only[e1,RE.bind_ok] at h
  have h2:=res.adv a2 h
  refine⟨ρ,P1,N2,S.adv a2,(res.bind h2).mono fun y P3 N3 H3 e3 a3 h3 u ru=>?_⟩
  obtain⟨N4,a4,ru⟩:=ru.freeze a3
  have r4:=((S.adv a2).adv a4).reg
  simp only[e3,RE.bind_ok] at h2
  have h4:=res.adv a4 h2
  have rv4:=rv.adv a4
  split at h4
  ·rename_i ds es q q2
   obtain⟨p,xs,rfl,z1,z2,z3⟩:=rv4.frz_lst r4 q
   obtain⟨p2,ys,rfl,y1,y2,y3⟩:=ru.frz_lst r4 q2
   refine⟨p,p2,xs,ys,rfl,z1,y1,h4.now r4 _ ⟨fun H=>SqL C.G.K H p xs∧SqL C.G.K H p2 ys,YPair (fun i=>xs[i]?) (fun i=>ys[i]?),?_,fun H2 e=>⟨L2.Same.seq e z1,L2.Same.seq e y1⟩,fun e P2 N2 H2 e1 e2 r2=>?_,fun i P2 N2 H2 x H3 hi e1 e2 r2 y=>?_⟩⟩
   ·have:=walk_zip (K:=C.G.K) (a:=p) (b:=p2) (xs:=xs) (ys:=ys) rfl
    rw[z2.length,y2.length] at this
    simpa using this
   ·simp only[Bool.or_eq_false_iff] at e
    exact⟨LNb.seq r2.pH r2.nH r2.rH _ _ (LNb.mono e1 e2 _ _ (z3 (by rw[qg9];exact e.1))),LNb.seq r2.pH r2.nH r2.rH _ _ (LNb.mono e1 e2 _ _ (y3 (by rw[qg9];exact e.2)))⟩
   ·obtain⟨T,x,y,rfl,hT,eH,ex,ey⟩:=y
    have hi':i<ds.length∧i<es.length:=by
     have:i<min ds.length es.length:=by simpa using hi
     omega
    replace ex:xs[i]? = some x:=ex
    replace ey:ys[i]? = some y:=ey
    obtain⟨v,q1,q2⟩:=Reps.get z2 (List.getElem?_eq_getElem hi'.1)
    rw[q1] at ex;cases ex
    obtain⟨v,q5,q6⟩:=Reps.get y2 (List.getElem?_eq_getElem hi'.2)
    rw[q5] at ey;cases ey
    obtain⟨P3,q3,q4⟩:=qlV r2 hT eH (RepB.adv e1 e2 (RepB.and1 q2)) (RepB.adv e1 e2 (RepB.and2 q6))
    exact⟨P3,q3,_,by rw[List.getElem?_zipWith,List.getElem?_eq_getElem hi'.1,List.getElem?_eq_getElem hi'.2],q4⟩
  ·exact h4.elim
end
end Cm
namespace Cm
open PySem PySem.Spec PyProof.Rows L2
def Ctx.nx (C:Ctx):Ctx:={ C with W:=fun _ _ _ _=>False }
section
variable {C:Ctx} {X:Cx}
theorem Reg.nx {P N H:Hp} (r:Reg C P N H):Reg C.nx P N H:=⟨r.pH,r.nH,r.bH,r.rB,r.p0,r.pn,r.nw,r.dj⟩
theorem Reg.unx {P N H:Hp} (r:Reg C.nx P N H):Reg C P N H:=⟨r.pH,r.nH,r.bH,r.rB,r.p0,r.pn,r.nw,r.dj⟩
theorem SlR.nx {P N H:Hp} {s:Sl} {o:Option V} (h:SlR C P N H s o):SlR C.nx P N H s o:=by cases s<;>exact h
theorem SR.nx {P N H:Hp} {ρ:List Sl} {σ:L2.St} (S:SR C P N H ρ σ):SR C.nx P N H ρ σ:=⟨S.reg.nx,S.len,fun i s e=>by
 obtain⟨o,h1,h2⟩:=S.sl i s e
 exact⟨o,h1,h2.nx⟩,S.ap,S.ad⟩
theorem ERr.unx {P N H H0:Hp} {er:ER} {v:V} (h:ERr C.nx P N H H0 er v):ERr C P N H H0 er v:=by cases er<;>exact h
theorem qdb {σ:L2.St}:∀{vs:List Nat} {j:Nat},j∉vs→(wipe σ vs)[j]? = σ[j]?
 |[],_,_=>rfl
 |v::vs,j,h=>by
  simp only[List.mem_cons,not_or] at h
  unfold wipe
  rw[List.getElem?_set_ne (fun z=>h.1 z.symm)]
  exact qdb h.2
theorem qkR {σ:L2.St}:∀{vs:List Nat} {j:Nat},j∈vs→j<σ.length→(wipe σ vs)[j]? = some none
 |v::vs,j,h,hj=>by
  unfold wipe
  by_cases q:v=j
  ·subst q
   rw[List.getElem?_set_self (by rw[wipe_length];exact hj)]
  ·rw[List.getElem?_set_ne q]
   rcases List.mem_cons.mp h with h | h
   ·exact absurd h.symm q
   ·exact qkR h hj
theorem qnL {σ σ':L2.St} {vs:List Nat} (hl:σ'.length=σ.length) (h:∀j,j∉vs→σ'[j]? = σ[j]?):wipe σ' vs=wipe σ vs:=by
 apply List.ext_getElem?
 intro j
 by_cases q:j∈vs
 ·by_cases hj:j<σ.length
  ·rw[qkR q hj,qkR q (by rw[hl];exact hj)]
  ·rw[List.getElem?_eq_none (by rw[wipe_length];omega),List.getElem?_eq_none (by rw[wipe_length];omega)]
 ·rw[qdb q,qdb q,h j q]
theorem qn2 {σ:L2.St} {vs:List Nat}:wipe (wipe σ vs) vs=wipe σ vs:=by
 refine qnL (wipe_length _ _) fun j h=>qdb h
theorem qgr {ρ:List Sl}:∀{vs:List Nat},(wipeS ρ vs).length=ρ.length
 |[]=>rfl
 |v::vs=>by unfold wipeS;rw[List.length_set];exact qgr
theorem qed {ρ:List Sl}:∀{vs:List Nat} {j:Nat} {s:Sl},(wipeS ρ vs)[j]? = some s→s=.non∨(j∉vs∧ρ[j]? = some s)
 |[],_,_,h=>.inr ⟨by simp,h⟩
 |v::vs,j,s,h=>by
  unfold wipeS at h
  by_cases q:v=j
  ·subst q
   by_cases hv:v<(wipeS ρ vs).length
   ·rw[List.getElem?_set_self hv] at h;cases h;exact .inl rfl
   ·rw[List.getElem?_eq_none (by simpa using hv)] at h;cases h
  ·rw[List.getElem?_set_ne q] at h
   rcases qed h with h | h
   ·exact .inl h
   ·exact .inr ⟨by simp only[List.mem_cons,not_or];exact⟨fun z=>q z.symm,h.1⟩,h.2⟩
theorem SR.wiped {P N H:Hp} {ρ:List Sl} {σ:L2.St} (S:SR C P N H ρ σ) (vs:List Nat):SR C P N H (wipeS ρ vs) (wipe σ vs) where
 reg:=S.reg
 len:=by rw[wipe_length,qgr,S.len]
 sl:=fun i s e=>by
  rcases qed e with rfl | ⟨h1,h2⟩
  ·have hi:i<(wipeS ρ vs).length:=by
    rcases Nat.lt_or_ge i (wipeS ρ vs).length with z | z
    ·exact z
    ·rw[List.getElem?_eq_none z] at e;cases e
   rw[qgr,←S.len,←wipe_length σ vs] at hi
   exact⟨_,List.getElem?_eq_getElem hi,trivial⟩
  ·rw[qdb h1]
   exact S.sl i s h2
 ap:=fun i j p ds b es c e1 e2 e3 e4=>by
  rcases qed e1 with z | ⟨h1,h2⟩
  ·cases z
  rcases qed e2 with z | ⟨h3,h4⟩
  ·cases z
  rw[qdb h1] at e3
  rw[qdb h3] at e4
  exact S.ap i j p ds b es c h2 h4 e3 e4
 ad:=S.ad.sub fun i m b e=>by
  rcases qed e with z | ⟨h1,h2⟩
  ·cases z
  ·exact⟨qdb h1,_,_,h2⟩
def tIl (C:Ctx) (g:List Sl→RE Wk):TI:=fun σ H R=>∃ρ P N,SR C P N H ρ σ∧res C σ P N H (g ρ) fun w P' N' H'=>∀J,Wok C P' N' H' w J→w.xs.length≤sizeLine→R J H'
abbrev gLc (own tg:List Nat) (gi:List Sl→RE Wk) (gc:List Sl→RE Bool) (ge:List Sl→RE ER):List Sl→RE ER:=fun ρ=>(gi ρ).bind fun xs=>gd (leB xs.xs.length) ((lcl (fun x=>match qeA tg x xs.b (wipeS ρ own) with
   |some ρ'=>noX ((gc ρ').bind fun k=>if k=true then (ge ρ').bind fun y=>match y with
    |.brw _ _=>.bad
    |y=>.ok (some (y.d,y.b)) else .ok none)
   |none=>.bad) xs.xs).bind fun r=>.ok (.fre r.1 r.2))
theorem qp7 {f:D→RE (Option (D × Bool))} {x:D} {xs:List D} {r:List D × Bool} (h:lcl f (x::xs)=.ok r):∃a q,f x=.ok a∧lcl f xs=.ok q∧r=match a with
  |none=>q
  |some y=>(y.1::q.1,y.2&&q.2):=by
 unfold lcl at h
 cases e:f x with
 |bad=>rw[e] at h;cases h
 |exc c fs=>rw[e] at h;cases h
 |ok a =>
  rw[e] at h
  cases e2:lcl f xs with
  |bad=>rw[e2] at h;cases h
  |exc c fs=>rw[e2] at h;cases h
  |ok q =>
   rw[e2] at h
   refine⟨a,q,rfl,rfl,?_⟩
   cases a<;>cases h<;>rfl
theorem qrl {f:D→RE (Option (D × Bool))} (hf:∀x,qhP (f x)):∀xs,qhP (lcl f xs)
 |[]=>trivial
 |x::xs=>by
  unfold lcl
  have h1:=hf x
  have h2:=qrl hf xs
  cases e:f x with
  |bad=>trivial
  |exc c fs=>rw[e] at h1;exact h1.elim
  |ok a =>
   cases e2:lcl f xs with
   |bad=>trivial
   |exc c fs=>rw[e2] at h2;exact h2.elim
   |ok q=>cases a<;>trivial
theorem quY {α:Type} (r:RE α):qhP (noX r):=by cases r<;>trivial
theorem qvb {α:Type} {r:RE α} {a:α} (h:noX r=.ok a):r=.ok a:=by
 cases r with
 |bad=>cases h
 |ok b=>exact h
 |exc c fs=>cases h
theorem qrs {own tg:List Nat} {gi:List Sl→RE Wk} {gc:List Sl→RE Bool} {ge:List Sl→RE ER} (hsub:∀i∈tg,i∈own) {σ:L2.St} {H:Hp} {Q:VK} (h:tE C (gLc own tg gi gc ge) σ H Q) :
  tLc (tI C gi) (tG C.nx tg) (tT C.nx gc) (tE C.nx ge) own σ H Q:=by
 obtain⟨ρ,P,N,S,h⟩:=h
 refine⟨ρ,P,N,S,h.bind.mono fun w P1 N1 H1 e1 a1 h1 J wj D hD=>?_⟩
 have S1:=S.adv a1
 simp only[qd6,qao] at h1
 split at h1
 case isFalse=>exact h1.elim
 rename_i hlen
 generalize hf:(fun x=>match qeA tg x w.b (wipeS ρ own) with
   |some ρ'=>noX ((gc ρ').bind fun k=>if k=true then (ge ρ').bind fun y=>match y with
    |.brw _ _=>.bad
    |y=>.ok (some (y.d,y.b)) else .ok none)
   |none=>.bad)=f at h1
 have fnx:∀x,qhP (f x):=fun x=>by
  subst hf
  simp only
  split
  ·exact quY _
  ·trivial
 cases e2:lcl f w.xs with
 |bad=>rw[e2] at h1;exact h1.elim
 |exc c fs=>have:=qrl fnx w.xs;rw[e2] at this;exact this.elim
 |ok tot =>
  rw[e2] at h1
  obtain⟨Gd,Y,wk,grow,_,item⟩:=wj
  refine lc_it wk (Pv:=fun i Hi=>∃(P N:Hp) (acc:List V) (ds:List Cm.D) (b:Bool) (rest:List Cm.D × Bool),Adv P1 N1 H1 P N Hi∧Hi D=some (.lst acc)∧P D=none∧N D=none∧RepsB C P N b ds acc∧ds.length≤i∧lcl f (w.xs.drop i)=.ok rest∧tot.1=ds++rest.1∧tot.2=(b&&rest.2)) ?_ (fun i Hi hi p=>?_) (fun i x Hi H' hi p y=>?_) (fun Hi p=>?_)
  ·exact⟨P1,N1,[],[],true,tot,(Adv.refl S1.reg.pH S1.reg.nH).heap (qaN hD),upd_same,S1.reg.pH.free hD,S1.reg.nH.free hD,rfl,Nat.le_refl _,by simpa using e2,rfl,by simp⟩
  ·obtain⟨P,N,acc,ds,b,rest,a,_⟩:=p
   exact grow Hi a.hh
  ·obtain⟨P2,N2,acc,ds,b,rest,a,hDi,pD,nD,rr,hdl,el,et,eb⟩:=p
   obtain⟨P3,a3,d,ed,rd⟩:=item i P2 N2 Hi x H' hi a.pp a.nn (S1.adv a).reg y
   have hdrop:w.xs.drop i=d::w.xs.drop (i+1):=by
    obtain⟨hi',e⟩:=List.getElem?_eq_some_iff.mp ed
    rw[List.drop_eq_getElem_cons hi',e]
   rw[hdrop] at el
   obtain⟨r1,q,ef,eq,er⟩:=qp7 el
   have aa:=a.trans a3
   have hD':=a3.hh _ _ hDi
   have pD3:=a3.off hDi pD
   subst hf
   simp only at ef
   split at ef
   case h_2=>cases ef
   rename_i ρ' eb'
   have ef:=qvb ef
   refine⟨wipeS ρ own,P3,N2,d,w.b,ρ',((S1.adv aa).wiped own).nx,rd,eb',fun σ' S' hj hl=>⟨?_,?_⟩⟩
   ·rw[qnL (σ:=wipe σ own) hl fun j h=>hj j fun z=>h (hsub j z),qn2]
   ·cases e5:gc ρ' with
    |bad=>rw[e5] at ef;cases ef
    |exc c fs=>rw[e5] at ef;cases ef
    |ok k =>
     rw[e5,RE.bind_ok] at ef
     refine⟨ρ',P3,N2,S',?_⟩
     rw[e5]
     intro P4 N4 H4 a4
     have hD4:=a4.hh _ _ hD'
     have pD4:=a4.off hD' pD3
     have nD4:=a4.offN hD' nD
     cases k with
     |false =>
      simp only[Bool.false_eq_true,if_false] at ef ⊢
      cases ef
      have er':rest=q:=er
      exact⟨P4,N4,acc,ds,b,q,aa.trans a4,hD4,pD4,nD4,RepsB.adv (a3.pp.trans a4.pp) a4.nn rr,Nat.le_succ_of_le hdl,eq,by rw[et,er'],by rw[eb,er']⟩
     |true =>
      simp only[if_true] at ef ⊢
      cases e6:ge ρ' with
      |bad=>rw[e6] at ef;cases ef
      |exc c fs=>rw[e6] at ef;cases ef
      |ok y =>
       rw[e6,RE.bind_ok] at ef
       refine⟨ρ',P4,N4,S'.adv a4,?_⟩
       rw[e6]
       intro P5 N5 H5 a5 v rv
       have rv:=rv.unx
       obtain⟨N6,a6,rv6⟩:=rv.freeze a5
       have hD6:=a6.hh _ _ hD4
       have pD6:=a6.off hD4 pD4
       have nD6:=a6.offN hD4 nD4
       have ry:r1=some (y.d,y.b)∧RepB C P5 N6 y.b y.d v:=by
        cases y with
        |val d' b'=>exact⟨(RE.ok.inj ef).symm,rv6⟩
        |fre d' b'=>exact⟨(RE.ok.inj ef).symm,rv6⟩
        |brw d' b'=>cases ef
       obtain⟨rfl,rv7⟩:=ry
       have er':rest=(y.d::q.1,y.b&&q.2):=er
       have full:=((a.trans a3).trans a4).trans a6
       have hl2:acc.length=ds.length:=rr.length
       refine⟨acc,hD6,?_,P5,N6,acc++[v],ds++[y.d],b&&y.b,q,⟨?_,full.pp,full.nn,qaL full.pH pD6,qaL full.nH nD6,full.pn,full.nw,full.dj⟩,upd_same,pD6,nD6,?_,?_,eq,?_,?_⟩
       ·have:w.xs.length≤sizeLine:=hlen
        omega
       ·exact qaL full.hh hD
       ·exact Reps.append (RepsB.and1 (RepsB.adv ((a3.pp.trans a4.pp).trans a6.pp) (a4.nn.trans a6.nn) rr)) (Reps.one (RepB.and2 rv7))
       ·simp only[List.length_append,List.length_singleton];omega
       ·rw[et,er'];simp
       ·rw[eb,er'];simp[Bool.and_assoc]
  ·obtain⟨P2,N2,acc,ds,b,rest,a,hDi,pD,nD,rr,hdl,el,et,eb⟩:=p
   rw[List.drop_length] at el
   cases el
   have et':tot.1=ds:=by simpa using et
   have eb':tot.2=b:=by simpa using eb
   refine h1 P2 N2 Hi a _ ⟨D,acc,rfl,hDi,a1.hh.free hD,pD,nD,?_⟩
   rw[et',eb']
   exact rr
end
end Cm
namespace Cm
open PySem PySem.Spec PyProof.Rows L2
section
variable (C:Ctx)
def outS (P0 N0:Hp) (D:Ends) (o:Out):Prop:=
 match o with
 |.bad=>False
 |.nx ρ=>∀σ P N H,SR C P N H ρ σ→L2.Same P0 P→L2.Same N0 N→D.nx σ H
 |.brk ρ=>∀σ P N H,SR C P N H ρ σ→L2.Same P0 P→L2.Same N0 N→D.bk σ H
 |.cnt ρ=>∀σ P N H,SR C P N H ρ σ→L2.Same P0 P→L2.Same N0 N→D.ct σ H
 |.ret er=>∀v P N H,Reg C P N H→ERr C P N H C.B er v→D.rt v H
 |.exc c fs=>∀σ d P N H,Reg C P N H→ExR C P N H fs d→C.W (.ref (C.G.ca c)) d σ H
def tS (g:List Sl→Out):TS:=fun D σ H=>∃ρ P N,SR C P N H ρ σ∧outS C P N D (g ρ)
end
section
variable {C:Ctx} {X:Cx}
theorem outS.res {α:Type} {D:Ends} {σ:L2.St} {P N H:Hp} {r:RE α} {f:α→Out} (rg:Reg C P N H) (h:outS C P N D (r.out f)):res C σ P N H r fun a _ _ _=>outS C P N D (f a):=by
 cases r with
 |bad=>exact h
 |ok a=>exact fun _ _ _ _=>h
 |exc c fs=>exact fun d P' N' H' a x=>h σ d P' N' H' (rg.adv a) x
theorem outS.adv {P N P' N':Hp} {D:Ends} {o:Out} (h:outS C P N D o) (hp:L2.Same P P') (hn:L2.Same N N'):outS C P' N' D o:=by
 cases o with
 |bad=>exact h
 |nx ρ=>exact fun σ P2 N2 H S e1 e2=>h σ P2 N2 H S (hp.trans e1) (hn.trans e2)
 |brk ρ=>exact fun σ P2 N2 H S e1 e2=>h σ P2 N2 H S (hp.trans e1) (hn.trans e2)
 |cnt ρ=>exact fun σ P2 N2 H S e1 e2=>h σ P2 N2 H S (hp.trans e1) (hn.trans e2)
 |ret er=>exact h
 |exc c fs=>exact h
theorem outS.mono {P0 N0:Hp} {D D':Ends} {o:Out} (h:outS C P0 N0 D o) (h1:∀σ H,D.nx σ H→D'.nx σ H) (h2:∀v H,D.rt v H→D'.rt v H) (h3:∀σ H,D.bk σ H→D'.bk σ H) (h4:∀σ H,D.ct σ H→D'.ct σ H):outS C P0 N0 D' o:=by
 cases o with
 |bad=>exact h
 |nx ρ=>exact fun σ P N H S e1 e2=>h1 _ _ (h σ P N H S e1 e2)
 |brk ρ=>exact fun σ P N H S e1 e2=>h3 _ _ (h σ P N H S e1 e2)
 |cnt ρ=>exact fun σ P N H S e1 e2=>h4 _ _ (h σ P N H S e1 e2)
 |ret er=>exact fun v P N H S e=>h2 _ _ (h v P N H S e)
 |exc c fs=>exact h
theorem qag {s:Stmt} {t u:TS} (h:PS X s t) (f:∀D σ H,u D σ H→t D σ H):PS X s u:=⟨fun pins s σ H D I q=>h.run pins s σ H D I (f _ _ _ q)⟩
theorem qa3 {s:List Stmt} {t u:TS} (h:PSs X s t) (f:∀D σ H,u D σ H→t D σ H):PSs X s u:=⟨fun pins s σ H D I q=>h.run pins s σ H D I (f _ _ _ q)⟩
theorem qlc {s:Stmt}:PS X s (tS C fun _=>.bad):=qag ps_never fun D σ H q=>by obtain⟨ρ,P,N,S,h⟩:=q;exact h
theorem qqP {pos:Pos}:PS X (.Pass pos) (tS C fun ρ=>.nx ρ):=qag ps_pass fun D σ H q=>by obtain⟨ρ,P,N,S,h⟩:=q;exact h σ P N H S (L2.Same.refl _) (L2.Same.refl _)
theorem qrP {x:Str} {j:Nat} {pos pos':Pos}:PS X (.Expr (.Constant (.str x) j pos) pos') (tS C fun ρ=>.nx ρ):=qag ps_doc fun D σ H q=>by obtain⟨ρ,P,N,S,h⟩:=q;exact h σ P N H S (L2.Same.refl _) (L2.Same.refl _)
theorem qsy {pos:Pos}:PS X (.Break pos) (tS C fun ρ=>.brk ρ):=qag ps_break fun D σ H q=>by obtain⟨ρ,P,N,S,h⟩:=q;exact h σ P N H S (L2.Same.refl _) (L2.Same.refl _)
theorem qto {pos:Pos}:PS X (.Continue pos) (tS C fun ρ=>.cnt ρ):=qag ps_continue fun D σ H q=>by obtain⟨ρ,P,N,S,h⟩:=q;exact h σ P N H S (L2.Same.refl _) (L2.Same.refl _)
theorem qqK {pos:Pos}:PS X (.Return none pos) (tS C fun _=>.ret (.val .non true)):=qag ps_retN fun D σ H q=>by obtain⟨ρ,P,N,S,h⟩:=q;exact h .non P N H S.reg rfl
theorem qs9 {e:Expr} {g:List Sl→RE ER} {pos:Pos} (h:PE X e (tE C g)):PS X (.Return (some e) pos) (tS C fun ρ=>(g ρ).out fun x=>.ret (qvY x)):=
 qag (ps_ret h) fun D σ H q=>by
  obtain⟨ρ,P,N,S,h⟩:=q
  refine⟨ρ,P,N,S,(h.res S.reg).mono fun x P1 N1 H1 _ a1 h1 v rv=>?_⟩
  have r1:=(S.adv a1).reg
  refine h1 v P1 N1 H1 r1 ?_
  cases x with
  |val d b=>exact rv
  |fre ds b=>exact rv.from S.reg.bH
  |brw ds b =>
   obtain⟨p,xs,e,z1,z2,z3,z4,z5⟩:=rv
   exact⟨p,xs,e,z1,z4,z2,z3,z5⟩
theorem qpk {e:Expr} {g:List Sl→RE ER} {pos:Pos} (h:PE X e (tE C g)) (hs:swapsWith e none pos.line X.env=pure false):PS X (.Expr e pos) (tS C fun ρ=>(g ρ).out fun _=>.nx ρ):=
 qag (ps_expr h hs) fun D σ H q=>by
  obtain⟨ρ,P,N,S,h⟩:=q
  exact⟨ρ,P,N,S,(h.res S.reg).mono fun x P1 N1 H1 _ a1 h1 v rv=>h1 σ P1 N1 H1 (S.adv a1) a1.pp a1.nn⟩
theorem qs6 {c:Expr} {a b:List Stmt} {gc:List Sl→RE Bool} {ga gb:List Sl→Out} {pos:Pos} (hc:PT X c (tT C gc)) (ha:PSs X a (tS C ga)) (hb:PSs X b (tS C gb)):PS X (.If c a b pos) (tS C fun ρ=>(gc ρ).out fun k=>if k=true then ga ρ else gb ρ):=
 qag (ps_if hc ha hb) fun D σ H q=>by
  obtain⟨ρ,P,N,S,h⟩:=q
  refine⟨ρ,P,N,S,(h.res S.reg).mono fun k P1 N1 H1 _ a1 h1=>?_⟩
  cases k
  ·exact⟨ρ,P1,N1,S.adv a1,h1.adv a1.pp a1.nn⟩
  ·exact⟨ρ,P1,N1,S.adv a1,h1.adv a1.pp a1.nn⟩
theorem ERr.held {P1 N1 H0 P N H:Hp} {er:ER} {v:V} {f:Cm.D→Bool→Out} {D:Ends} (a:Adv P1 N1 H0 P N H) (h:ERr C P N H H0 er v) (o:outS C P1 N1 D (held er f)):∃N2 d b,Adv P1 N1 H0 P N2 H∧RepB C P N2 b d v∧outS C P1 N1 D (f d b):=by
 cases er with
 |brw ds b=>exact o.elim
 |val d b=>exact⟨N,d,b,a,h,o⟩
 |fre ds b =>
  obtain⟨N2,a2,r2⟩:=h.freeze a
  exact⟨N2,.lst ds,b,a2,r2,o⟩
theorem qtK {i:Nat} {g:List Sl→RE ER} {D:Ends} {σ:L2.St} {H:Hp} (q:tS C (fun ρ=>(g ρ).out fun x=>held x fun d b=>.nx (ρ.set i (.val d b))) D σ H):tAsg (tE C g) (gName i) D σ H:=by
 obtain⟨ρ,P,N,S,h⟩:=q
 refine⟨ρ,P,N,S,(h.res S.reg).mono fun x P1 N1 H1 _ a1 h1 v rv=>?_⟩
 obtain⟨N2,d,b,a2,r2,o⟩:=rv.held a1 h1
 exact o _ P1 N2 H1 ((S.adv a2).setV r2) a2.pp a2.nn
theorem SR.setO {P0 N0 H0 P N H:Hp} {ρ:List Sl} {σ:L2.St} (S0:SR C P0 N0 H0 ρ σ) (S:SR C P N H ρ σ) {i:Nat} {ds:List Cm.D} {b:Bool} {p:Addr} {xs:List V} (h0:H0 p=none) (hp:H p=some (.lst xs)) (pP:P p=none) (pN:N p=none) (h:RepsB C P N b ds xs):SR C P N H (ρ.set i (.own ds b)) (σ.set i (some (.ref p))) where
 reg:=S.reg
 len:=by simp[S.len]
 sl:=fun j s e=>by
  by_cases q:i=j
  ·subst q
   have hi:i<ρ.length:=by
    rcases Nat.lt_or_ge i ρ.length with z | z
    ·exact z
    ·rw[List.getElem?_eq_none (by simpa using z)] at e;cases e
   rw[List.getElem?_set_self hi] at e
   cases e
   exact⟨_,List.getElem?_set_self (by rw[S.len];exact hi),p,xs,rfl,hp,pP,pN,S0.reg.bH.free h0,h⟩
  ·rw[List.getElem?_set_ne q] at e
   rw[List.getElem?_set_ne q]
   exact S.sl j s e
 ap:=fun j k r ds' c es c' e1 e2 e3 e4=>by
  have old:∀{m:Nat} {r:Addr} {es:List Cm.D} {c:Bool},i≠m→(ρ.set i (.own ds b))[m]? = some (.own es c)→(σ.set i (some (.ref p)))[m]? = some (some (.ref r))→H0 r≠none:=fun {m r es c} hm e1 e2=>by
   rw[List.getElem?_set_ne hm] at e1 e2
   obtain⟨o,z1,q,ys,z2,z3,_⟩:=S0.sl m _ e1
   rw[z1] at e2
   cases e2
   cases z2
   rw[z3];simp
  have here:∀{m:Nat} {r:Addr},i=m→m<σ.length→(σ.set i (some (.ref p)))[m]? = some (some (.ref r))→r=p:=fun {m r} hm hl e=>by
   subst hm
   rw[List.getElem?_set_self hl] at e
   cases e;rfl
  have lt:∀{m:Nat} {o:Option V},(σ.set i (some (.ref p)))[m]? = some o→m<σ.length:=fun {m o} e=>by
   rcases Nat.lt_or_ge m σ.length with z | z
   ·exact z
   ·rw[List.getElem?_eq_none (by simpa using z)] at e;cases e
  by_cases q:i=j
  ·by_cases q2:i=k
   ·omega
   ·have:=here q (lt e3) e3
    subst this
    exact absurd h0 (old q2 e2 e4)
  ·by_cases q2:i=k
   ·have:=here q2 (lt e4) e4
    subst this
    exact absurd h0 (old q e1 e3)
   ·rw[List.getElem?_set_ne q] at e1 e3
    rw[List.getElem?_set_ne q2] at e2 e4
    exact S.ap j k r ds' c es c' e1 e2 e3 e4
 ad:=S.ad.set rfl
theorem qsm {i:Nat} {g:List Sl→RE ER} {D:Ends} {σ:L2.St} {H:Hp} (q:tS C (fun ρ=>(g ρ).out fun x=>match x with
  |.fre ds b=>.nx (ρ.set i (.own ds b))
  |.val .non _=>.nx (ρ.set i (.val .non true))
  |_=>.bad) D σ H):tAsg (tE C g) (gName i) D σ H:=by
 obtain⟨ρ,P,N,S,h⟩:=q
 refine⟨ρ,P,N,S,(h.res S.reg).mono fun x P1 N1 H1 _ a1 h1 v rv=>?_⟩
 cases x with
 |fre ds b =>
  obtain⟨p,xs,rfl,z1,z2,z3,z4,z5⟩:=rv
  exact h1 _ P1 N1 H1 (S.setO (S.adv a1) z2 z1 z3 z4 z5) a1.pp a1.nn
 |val d b =>
  cases d with
  |non=>exact h1 _ P1 N1 H1 ((S.adv a1).setV rv) a1.pp a1.nn
  |_=>exact h1.elim
 |brw _ _=>exact h1.elim
theorem qpY {t e:Expr} {tg:List Nat} {g:List Sl→RE ER} {pos:Pos} (h:PE X e (tE C g)) (ht:PG X t (tG C tg)) (hs:swapsWithSole [t] e pos.line X.env=pure false) (hw:swappedStores [t] e X.env=pure none) (h1:(assignEach [t] X.env).map (·.2)=[assign t X.env]) :
  PS X (.Assign [t] e pos) (tS C fun ρ=>(g ρ).out fun x=>held x fun d b=>onB (qeA tg d b ρ) .nx):=
 qag (ps_asg h ht hs hw h1) fun D σ H q=>by
  obtain⟨ρ,P,N,S,h⟩:=q
  refine⟨ρ,P,N,S,(h.res S.reg).mono fun x P1 N1 H1 _ a1 h1 v rv=>?_⟩
  obtain⟨N2,d,b,a2,r2,o⟩:=rv.held a1 h1
  cases e:qeA tg d b ρ with
  |some ρ' =>
   rw[e] at o
   exact⟨ρ,P1,N2,d,b,ρ',S.adv a2,r2,e,fun σ' S' _ _=>o σ' P1 N2 H1 S' a2.pp a2.nn⟩
  |none=>rw[e] at o;exact o.elim
theorem qbS {P N:Hp} {D:Ends} {ρ:List Sl} {i:Nat} {f:List Cm.D→Bool→Out} (h:outS C P N D (qbh ρ i f)):∃ds b,ρ[i]? = some (.own ds b)∧outS C P N D (f ds b):=by
 unfold qbh at h
 split at h
 ·rename_i ds b e
  exact⟨ds,b,e,h⟩
 ·exact h.elim
theorem SR.write {P N H:Hp} {ρ:List Sl} {σ:L2.St} (S:SR C P N H ρ σ) {i:Nat} {ds ds':List Cm.D} {b b':Bool} {p:Addr} {xs':List V} (e:ρ[i]? = some (.own ds b)) (eσ:σ[i]? = some (some (.ref p))) (h:RepsB C P N b' ds' xs'):SR C P N (upd H p (.lst xs')) (ρ.set i (.own ds' b')) σ:=by
 obtain⟨o,z1,q,xs,z2,z3,z4,z5,z6,z7⟩:=S.sl i _ e
 rw[z1] at eσ;cases eσ;cases z2
 have hi:i<ρ.length:=(List.getElem?_eq_some_iff.mp e).1
 refine⟨⟨qaL S.reg.pH z4,qaL S.reg.nH z5,qaL S.reg.bH z6,S.reg.rB,S.reg.p0,S.reg.pn,S.reg.nw,S.reg.dj⟩,by simp[S.len],fun j s ej=>?_,fun j k r ds1 c es c' e1 e2 e3 e4=>?_,S.ad.setS rfl⟩
 ·by_cases q:i=j
  ·subst q
   rw[List.getElem?_set_self hi] at ej
   cases ej
   exact⟨_,z1,p,xs',rfl,upd_same,z4,z5,z6,h⟩
  ·rw[List.getElem?_set_ne q] at ej
   obtain⟨o,y1,y2⟩:=S.sl j s ej
   refine⟨o,y1,?_⟩
   cases s with
   |non=>trivial
   |val d b=>exact y2
   |own es c =>
    obtain⟨r,ys,y3,y4,y5⟩:=y2
    have hr:r≠p:=fun er=>q (S.ap i j p ds b es c e ej z1 (by rw[y1,y3,er]))
    exact⟨r,ys,y3,by rw[upd_ne hr];exact y4,y5⟩
   |slf c fs =>
    obtain⟨r,dx,ys,y3,y4,y5⟩:=y2
    have hr:r≠p:=fun er=>by rw[er,z3] at y4;cases y4
    exact⟨r,dx,ys,y3,by rw[upd_ne hr];exact y4,y5⟩
   |fxd d k=>exact y2
   |dct m c =>
    obtain⟨r,es,y3,y4,y5⟩:=y2
    have hr:r≠p:=fun er=>by rw[er,z3] at y4;cases y4
    exact⟨r,es,y3,by rw[upd_ne hr];exact y4,y5⟩
 ·have un:∀{m:Nat} {es:List Cm.D} {c:Bool},(ρ.set i (.own ds' b'))[m]? = some (.own es c)→∃es' c',ρ[m]? = some (.own es' c'):=fun {m es c} em=>by
   by_cases q:i=m
   ·subst q;exact⟨_,_,e⟩
   ·rw[List.getElem?_set_ne q] at em;exact⟨_,_,em⟩
  obtain⟨_,_,f1⟩:=un e1
  obtain⟨_,_,f2⟩:=un e2
  exact S.ap j k r _ _ _ _ f1 f2 e3 e4
theorem SR.root {P N H:Hp} {ρ:List Sl} {σ:L2.St} (S:SR C P N H ρ σ) {i:Nat} {ds:List Cm.D} {b:Bool} (e:ρ[i]? = some (.own ds b)):∃p xs,σ[i]? = some (some (.ref p))∧H p=some (.lst xs)∧P p=none∧N p=none∧C.B p=none∧RepsB C P N b ds xs:=by
 obtain⟨o,z1,p,xs,rfl,z2⟩:=S.sl i _ e
 exact⟨p,xs,z1,z2⟩
theorem qs8 {i:Nat} {g:List Sl→Out} {D:Ends} {σ:L2.St} {H:Hp} (q:tS C (fun ρ=>qbh ρ i fun ds b=>g (ρ.set i (.val (.lst ds) b))) D σ H):tS C g D σ H:=by
 obtain⟨ρ,P,N,S,h⟩:=q
 obtain⟨ds,b,e,o⟩:=qbS h
 obtain⟨p,xs,z1,z2,z3,z4,z5,z6⟩:=S.root e
 have hi:i<ρ.length:=(List.getElem?_eq_some_iff.mp e).1
 have sn:L2.Same N (upd N p (.lst xs)):=qaN z4
 refine⟨ρ.set i (.val (.lst ds) b),P,upd N p (.lst xs),⟨⟨S.reg.pH,qlL S.reg.nH z2,S.reg.bH,S.reg.rB,S.reg.p0,S.reg.pn,fun a ha=>?_,fun a ha=>?_⟩,by simp[S.len],fun j s ej=>?_,fun j k r ds1 c es c' e1 e2 e3 e4=>?_,S.ad.setS rfl⟩,o.adv (L2.Same.refl _) sn⟩
 ·by_cases q:a=p
  ·rw[q];exact z5
  ·rw[upd_ne q] at ha;exact S.reg.nw a ha
 ·by_cases q:a=p
  ·rw[q];exact z3
  ·rw[upd_ne q] at ha;exact S.reg.dj a ha
 ·by_cases q:i=j
  ·subst q
   rw[List.getElem?_set_self hi] at ej
   cases ej
   exact⟨_,z1,_,rfl,p,xs,rfl,.inl upd_same,RepsB.adv (L2.Same.refl _) sn z6⟩
  ·rw[List.getElem?_set_ne q] at ej
   obtain⟨o,y1,y2⟩:=S.sl j s ej
   refine⟨o,y1,?_⟩
   cases s with
   |non=>trivial
   |val d b=>obtain⟨v,y3,y4⟩:=y2;exact⟨v,y3,RepB.adv (L2.Same.refl _) sn y4⟩
   |own es c =>
    obtain⟨r,ys,y3,y4,y5,y6,y7,y8⟩:=y2
    have hr:r≠p:=fun er=>q (S.ap i j p ds b es c e ej z1 (by rw[y1,y3,er]))
    exact⟨r,ys,y3,y4,y5,by rw[upd_ne hr];exact y6,y7,RepsB.adv (L2.Same.refl _) sn y8⟩
   |slf c fs =>
    obtain⟨r,dx,ys,y3,y4,y5,y6,y7,y8,y9⟩:=y2
    have hr:r≠p:=fun er=>by rw[er,z2] at y4;cases y4
    exact⟨r,dx,ys,y3,y4,y5,by rw[upd_ne hr];exact y6,y7,y8,RepsB.adv (L2.Same.refl _) sn y9⟩
   |fxd d k=>obtain⟨v,y3,y4,y5⟩:=y2;exact⟨v,y3,y4,RepB.adv (L2.Same.refl _) sn y5⟩
   |dct m c =>
    obtain⟨r,es,y3,y4,y5,y6,y7,y8⟩:=y2
    have hr:r≠p:=fun er=>by rw[er,z2] at y4;cases y4
    exact⟨r,es,y3,y4,y5,by rw[upd_ne hr];exact y6,y7,y8.adv (L2.Same.refl _) sn⟩
 ·have un:∀{m:Nat} {es:List Cm.D} {c:Bool},(ρ.set i (.val (.lst ds) b))[m]? = some (.own es c)→ρ[m]? = some (.own es c):=fun {m es c} em=>by
   by_cases q:i=m
   ·subst q;rw[List.getElem?_set_self hi] at em;cases em
   ·rw[List.getElem?_set_ne q] at em;exact em
  exact S.ap j k r _ _ _ _ (un e1) (un e2) e3 e4
end
end Cm
namespace Cm
open PySem PySem.Spec PyProof.Rows L2
section
variable {C:Ctx} {X:Cx}
theorem qrK {i:Nat} {g:List Sl→RE ER} {D:Ends} {σ:L2.St} {H:Hp} {K:PySem.W.Frag} (q:tS C (fun ρ=>qbh ρ i fun ds c=>(g ρ).out fun x=>held x fun d b=>gdO (leB (ds.length+1)) (.nx (ρ.set i (.own (ds++[d]) (b&&c))))) D σ H) :
  tDrop (tBM K "list" rAppend (tVar i) (tCons (tE C g) tNil)) D σ H:=by
 obtain⟨ρ,P,N,S,h⟩:=q
 obtain⟨ds,c,e,o⟩:=qbS h
 obtain⟨p,xs,z1,z2,z3,z4,z5,z6⟩:=S.root e
 refine⟨_,z1,.inl ⟨rfl,xs,.inl (.inl z2)⟩,ρ,P,N,S,(o.res S.reg).mono fun x P1 N1 H1 _ a1 h1 v rv=>?_⟩
 obtain⟨N2,d,b,a2,r2,o⟩:=rv.held a1 h1
 simp only[qba,qao] at o
 split at o
 ·rename_i hl
  refine⟨p,xs,v,rfl,rfl,a1.hh _ _ z2,by rw[z6.length];exact hl,?_⟩
  exact o _ P1 N2 _ ((S.adv a2).write e z1 (Reps.append (RepsB.and2 (RepsB.adv a2.pp a2.nn z6)) (Reps.one (RepB.and1 r2)))) a2.pp a2.nn
 ·exact o.elim
theorem qsw {i:Nat} {g:List Sl→RE ER} {D:Ends} {σ:L2.St} {H:Hp} {K:PySem.W.Frag} (q:tS C (fun ρ=>qbh ρ i fun ds c=>(g ρ).out fun x=>match x with
  |.fre es b=>gdO (leB (ds.length+es.length)) (.nx (ρ.set i (.own (ds++es) (b&&c))))
  |_=>.bad) D σ H) :
  tDrop (tBM K "list" rExtend (tVar i) (tCons (tE C g) tNil)) D σ H:=by
 obtain⟨ρ,P,N,S,h⟩:=q
 obtain⟨ds,c,e,o⟩:=qbS h
 obtain⟨p,xs,z1,z2,z3,z4,z5,z6⟩:=S.root e
 refine⟨_,z1,.inl ⟨rfl,xs,.inl (.inl z2)⟩,ρ,P,N,S,(o.res S.reg).mono fun x P1 N1 H1 _ a1 h1 v rv=>?_⟩
 cases x with
 |fre es b =>
  obtain⟨q,ys,rfl,y1,y2,y3,y4,y5⟩:=rv
  simp only[qba,qao] at h1
  split at h1
  ·rename_i hl
   refine⟨p,q,xs,ys,rfl,rfl,a1.hh _ _ z2,y1,by rw[z6.length,y5.length];exact hl,?_⟩
   exact h1 _ P1 N1 _ ((S.adv a1).write e z1 (Reps.append (RepsB.and2 (RepsB.adv a1.pp a1.nn z6)) (RepsB.and1 y5))) a1.pp a1.nn
  ·exact h1.elim
 |val _ _=>exact h1.elim
 |brw _ _=>exact h1.elim
theorem qrR {i:Nat} {D:Ends} {σ:L2.St} {H:Hp} {K:PySem.W.Frag} (q:tS C (fun ρ=>qbh ρ i fun _ _=>.nx (ρ.set i (.own [] true))) D σ H):tDrop (tBM0 K "list" rClear (tVar i)) D σ H:=by
 obtain⟨ρ,P,N,S,h⟩:=q
 obtain⟨ds,c,e,o⟩:=qbS h
 obtain⟨p,xs,z1,z2,z3,z4,z5,z6⟩:=S.root e
 exact⟨_,z1,.inl ⟨rfl,xs,.inl (.inl z2)⟩,p,xs,rfl,rfl,z2,o _ P N _ (S.write e z1 rfl) (L2.Same.refl _) (L2.Same.refl _)⟩
theorem qo3 {P N:Hp} {b:Bool}:∀{ds:List Cm.D} {xs:List V} {d:Cm.D},RepsB C P N b ds xs→ds.getLast? = some d→∃v,xs[xs.length - 1]? = some v∧RepB C P N b d v:=fun {ds xs d} h e=>by
 rw[List.getLast?_eq_getElem?] at e
 rw[h.length]
 exact h.get e
theorem qit {P N:Hp} {b:Bool} {ds:List Cm.D} {xs:List V} (h:RepsB C P N b ds xs):RepsB C P N b ds.dropLast xs.dropLast:=by
 rw[List.dropLast_eq_take,List.dropLast_eq_take,h.length]
 exact Reps.take _ h
theorem qpZ {i j:Nat} {D:Ends} {σ:L2.St} {H:Hp} {K:PySem.W.Frag} (q:tS C (fun ρ=>qbh ρ i fun ds c=>match ds.getLast? with
  |some d=>.nx ((ρ.set i (.own ds.dropLast c)).set j (.val d c))
  |none=>.bad) D σ H):tAsg (tBM0 K "list" rPop (tVar i)) (gName j) D σ H:=by
 obtain⟨ρ,P,N,S,h⟩:=q
 obtain⟨ds,c,e,o⟩:=qbS h
 obtain⟨p,xs,z1,z2,z3,z4,z5,z6⟩:=S.root e
 split at o
 ·rename_i d e2
  obtain⟨v,q1,q2⟩:=qo3 z6 e2
  refine⟨_,z1,.inl ⟨rfl,xs,.inl (.inl z2)⟩,p,xs,v,rfl,rfl,z2,q1,?_⟩
  exact o _ P N _ ((S.write e z1 (qit z6)).setV q2) (L2.Same.refl _) (L2.Same.refl _)
 ·exact o.elim
theorem qsi {i:Nat} {g gi:List Sl→RE ER} {D:Ends} {σ:L2.St} {H:Hp} (q:tS C (fun ρ=>(g ρ).out fun x=>held x fun d b=>qbh ρ i fun ds c=>(gi ρ).out fun k=>match k.d with
  |.int k=>match ixN ds.length k with
   |some j=>.nx (ρ.set i (.own (ds.set j d) (b&&c)))
   |none=>.bad
  |_=>.bad) D σ H):tAsg (tE C g) (gSub (tVar i) (tE C gi) rSetL) D σ H:=by
 obtain⟨ρ,P,N,S,h⟩:=q
 refine⟨ρ,P,N,S,(h.res S.reg).mono fun x P1 N1 H1 _ a1 h1 v rv=>?_⟩
 obtain⟨N2,d,b,a2,r2,o⟩:=rv.held a1 h1
 have S2:=S.adv a2
 obtain⟨ds,c,e,o⟩:=qbS o
 obtain⟨p,xs,z1,z2,z3,z4,z5,z6⟩:=S2.root e
 refine⟨_,z1,ρ,P1,N2,S2,((o.adv a2.pp a2.nn).res S2.reg).mono fun k P3 N3 H3 _ a3 h3 u ru=>?_⟩
 have r3:=(S2.adv a3).reg
 split at h3
 ·rename_i k' ek
  have w:=ru.w r3
  rw[ek] at w
  cases w.int
  split at h3
  ·rename_i j ej
   refine⟨p,xs,k',j,rfl,rfl,a3.hh _ _ z2,by rw[z6.length];exact ej,?_⟩
   exact h3 _ P3 N3 _ ((S2.adv a3).write e z1 (Reps.set (RepB.and1 (RepB.adv a3.pp a3.nn r2)) j (RepsB.and2 (RepsB.adv a3.pp a3.nn z6)))) a3.pp a3.nn
  ·exact h3.elim
 ·exact h3.elim
theorem qrX {gi:List Sl→RE Wk} {tg:List Nat} {gb:List Sl→Out} {D:Ends} {σ:L2.St} {H:Hp} (q:tS C (fun ρ=>(gi ρ).out fun w=>if w.own=true then .bad else qfC (fun x ρ=>onB (qeA tg x w.b ρ) gb) w.xs ρ) D σ H):tFor (tI C gi) (tG C tg) (tS C gb) D σ H:=by
 obtain⟨ρ,P,N,S,h⟩:=q
 refine⟨ρ,P,N,S,(h.res S.reg).mono fun w P1 N1 H1 _ a1 h1 J wj=>?_⟩
 split at h1
 ·exact h1.elim
 rename_i how
 have how:w.own=false:=by simpa using how
 obtain⟨Gd,Y,wk,_,stay,item⟩:=wj
 generalize hf:(fun x ρ=>onB (qeA tg x w.b ρ) gb)=f at h1
 have r1:=(S.adv a1).reg
 refine for_it wk (Pv:=fun i σ' H'=>∃ρ' P' N',SR C P' N' H' ρ' σ'∧L2.Same P1 P'∧L2.Same N1 N'∧outS C P1 N1 D (qfC f (w.xs.drop i) ρ')) ?_ (fun i σ' H' hi p=>?_) (fun i x σ' H' H'' hi p y=>?_) (fun σ' H' p=>?_)
 ·exact⟨ρ,P1,N1,S.adv a1,L2.Same.refl _,L2.Same.refl _,by simpa using h1.adv a1.pp a1.nn⟩
 ·obtain⟨ρ',P',N',S',s1,s2,_⟩:=p
  exact stay how P' N' H' s1 s2 S'.reg
 ·obtain⟨ρ',P',N',S',s1,s2,o⟩:=p
  obtain⟨P3,a3,d,ed,rd⟩:=item i P' N' H' x H'' hi s1 s2 S'.reg y
  have hdrop:w.xs.drop i=d::w.xs.drop (i+1):=by
   obtain⟨hi',e⟩:=List.getElem?_eq_some_iff.mp ed
   rw[List.drop_eq_getElem_cons hi',e]
  rw[hdrop] at o
  have o2:outS C P1 N1 D (match f d ρ' with
   |.nx ρ'=>qfC f (w.xs.drop (i+1)) ρ'
   |.cnt ρ'=>qfC f (w.xs.drop (i+1)) ρ'
   |.brk ρ'=>.nx ρ'
   |o=>o):=o
  have ef:f d ρ'=onB (qeA tg d w.b ρ') gb:=by rw[←hf]
  cases eb:qeA tg d w.b ρ' with
  |none=>rw[ef,eb] at o2;exact o2.elim
  |some ρ2 =>
   rw[ef,eb,qqV] at o2
   refine⟨ρ',P3,N',d,w.b,ρ2,S'.adv a3,rd,eb,fun σ2 S2 _ _=>⟨ρ2,P3,N',S2,?_⟩⟩
   have t1:=s1.trans a3.pp
   cases e3:gb ρ2 with
   |bad=>simp only[e3] at o2;exact o2
   |nx ρ3=>simp only[e3] at o2;exact fun σ4 P4 N4 H4 S4 e1 e2=>⟨ρ3,P4,N4,S4,t1.trans e1,s2.trans e2,o2⟩
   |cnt ρ3=>simp only[e3] at o2;exact fun σ4 P4 N4 H4 S4 e1 e2=>⟨ρ3,P4,N4,S4,t1.trans e1,s2.trans e2,o2⟩
   |brk ρ3=>simp only[e3] at o2;exact fun σ4 P4 N4 H4 S4 e1 e2=>o2 σ4 P4 N4 H4 S4 (t1.trans e1) (s2.trans e2)
   |ret er=>simp only[e3] at o2;exact o2
   |exc c fs=>simp only[e3] at o2;exact o2
 ·obtain⟨ρ',P',N',S',s1,s2,o⟩:=p
  rw[List.drop_length] at o
  exact o σ' P' N' H' S' s1 s2
theorem qsY {gc:List Sl→RE Bool} {gb:List Sl→Out} {n:Nat} {D:Ends} {σ:L2.St} {H:Hp} (q:tS C (fun ρ=>qgb gc gb n ρ) D σ H):tWhile (tT C gc) (tS C gb) D σ H:=by
 obtain⟨ρ,P,N,S,h⟩:=q
 refine⟨fun m σ' H'=>∃ρ' P' N',SR C P' N' H' ρ' σ'∧L2.Same P P'∧L2.Same N N'∧outS C P N D (qgb gc gb m ρ'),⟨n,ρ,P,N,S,L2.Same.refl _,L2.Same.refl _,h⟩,fun m σ' H' p=>?_⟩
 obtain⟨ρ',P',N',S',s1,s2,o⟩:=p
 cases m with
 |zero=>exact o.elim
 |succ m =>
  have o2:outS C P N D ((gc ρ').out fun k=>if k=true then (match gb ρ' with
   |.nx ρ'=>qgb gc gb m ρ'
   |.cnt ρ'=>qgb gc gb m ρ'
   |.brk ρ'=>.nx ρ'
   |o=>o) else .nx ρ'):=o
  refine⟨ρ',P',N',S',((o2.adv s1 s2).res S'.reg).mono fun k P1 N1 H1 _ a1 h1=>?_⟩
  cases k with
  |false=>exact h1 σ' P1 N1 H1 (S'.adv a1) a1.pp a1.nn
  |true =>
   simp only[if_true] at h1 ⊢
   refine⟨fun σ' H'=>∃ρ' P' N',SR C P' N' H' ρ' σ'∧L2.Same P P'∧L2.Same N N'∧outS C P N D (qgb gc gb m ρ'),fun σ2 H2 z=>⟨m,Nat.lt_succ_self m,z⟩,ρ',P1,N1,S'.adv a1,?_⟩
   have t1:=s1.trans a1.pp
   have t2:=s2.trans a1.nn
   have o3:gc ρ'=.ok true:=by assumption
   rw[o3] at o2
   simp only[RE.out_ok,if_true] at o2
   cases e3:gb ρ' with
   |bad=>simp only[e3] at o2;exact o2
   |nx ρ3=>simp only[e3] at o2;exact fun σ4 P4 N4 H4 S4 e1 e2=>⟨ρ3,P4,N4,S4,t1.trans e1,t2.trans e2,o2⟩
   |cnt ρ3=>simp only[e3] at o2;exact fun σ4 P4 N4 H4 S4 e1 e2=>⟨ρ3,P4,N4,S4,t1.trans e1,t2.trans e2,o2⟩
   |brk ρ3=>simp only[e3] at o2;exact fun σ4 P4 N4 H4 S4 e1 e2=>o2 σ4 P4 N4 H4 S4 (t1.trans e1) (t2.trans e2)
   |ret er=>simp only[e3] at o2;exact o2
   |exc c fs=>simp only[e3] at o2;exact o2
end
end Cm
namespace Cm
open PySem PySem.Spec PyProof.Rows L2
structure Tb where
 N:List Str
 fn:List (Str × Nat)
 gc:List Str
 mn:List (Str × Nat)
 fs:List Str
 nw:List (Str × Nat):=[]
 ck:List (Str × Bool):=[]
 xk:List Str:=[]
 dc:List Str:=[]
def qiH (sc:Scope) (x:Str):Bool:=match sc.names.lookup x with
 |some .local=>true
 |some .cell=>true
 |some .free=>true
 |_=>false
def glB (sc:Scope) (x:Str):Bool:=match sc.names.lookup x with
 |some .globalImplicit=>true
 |_=>false
def tgB (fc:Option Scope) (sc:Scope) (x:Str):Bool:=match sc.names.lookup x with
 |some .local=>true
 |some .cell=>(match fc with
  |none=>true
  |some so=>so.names.lookup x == some .cell)
 |_=>false
def nmB (x:Str):Bool:=!(x == ("__debug__" : Str)) && !(x == ("__classdict__" : Str))
def qad:Expr→Bool
 |.Starred _ _=>false
 |_=>true
def qdB:Expr→Bool
 |.Slice _ _ _ _=>false
 |_=>true
def qga:Expr→Bool
 |.Call (.Name _ _) [] [] _=>false
 |_=>true
def qlZ:Expr→Bool
 |.Set _ _ _=>false
 |_=>true
def qdi:Expr→Bool
 |.ListComp _ _ _ _=>false
 |.SetComp _ _ _ _=>false
 |.DictComp _ _ _ _ _=>false
 |_=>true
theorem qab {e:Expr} {es:List Expr} {env:PySem.Env} (h:qad e=true):starEach (e::es) env=(false,eval e env)::starEach es env:=by
 cases e<;>first | rfl | cases h
theorem qeq {env:PySem.Env} {pos:Pos}:∀{es:List Expr},es.all qad=true→(backTo pos (starEach es env)).any (·.1)=false
 |[],_=>rfl
 |e::es,h=>by
  simp only[List.all_cons,Bool.and_eq_true] at h
  rw[qab h.1]
  have:=qeq (env:=env) (pos:=pos) h.2
  unfold backTo at this ⊢
  simpa using this
theorem qdM {X:Cx} {es:List Expr} (h:es.all qad=true):qmI X es:=⟨fun e r q=>by
 subst q
 simp only[List.all_cons,Bool.and_eq_true] at h
 exact qab h.1,fun pos e r q=>by
 subst q
 simp only[List.all_cons,Bool.and_eq_true] at h
 exact qeq h.2⟩
theorem qcR {o:Expr} {m:Str} {env:PySem.Env} {w:Sem Value} (h:qga o=true):attributeBase o m env w=w:=by
 cases o with
 |Call f as ks p =>
  cases f with
  |Name x q =>
   cases as with
   |nil =>
    cases ks with
    |nil=>cases h
    |cons _ _=>rfl
   |cons _ _=>rfl
  |_=>rfl
 |_=>rfl
theorem qp2 {o:Expr} {m:Str} {apos pos:Pos} {es:List Expr} {env:PySem.Env} (hb:qga o=true) (hs:es.all qad=true) (hn:es.length<20) (hl:(apos.endLine == pos.line)=true) :
  eval (.Call (.Attribute o m apos) es [] pos) env=(do
   let ov ←eval o env
   standAt apos.atName
   let (f,first) ←holding [ov] (getMethod ov m (plainOf o env))
   callWith pos f first (backTo pos (starEach es env)) (backToKw pos (keywordEach [] env))):=by
 have e1:eval (.Call (.Attribute o m apos) es [] pos) env=(do
   let ov ←attributeBase o m env (eval o env)
   standAt apos.atName
   methodCall o m apos pos env ov (es.length+([]:List Keyword).length) (backTo pos (starEach es env)) (backToKw pos (keywordEach [] env))):=by
  rfl
 rw[e1,qcR hb]
 have hf:methodCallForm (es.length+([]:List Keyword).length) (backTo pos (starEach es env)) (backToKw pos (keywordEach [] env))=true:=by
  unfold methodCallForm
  have:=qeq (env:=env) (pos:=pos) hs
  have e:(backTo pos (starEach es env)).all (fun x=>!x.1)=true:=by
   rw[List.all_eq_not_any_not]
   simpa using this
  rw[e]
  simp[backToKw,keywordEach]
  omega
 have:∀ov,methodCall o m apos pos env ov (es.length+([]:List Keyword).length) (backTo pos (starEach es env)) (backToKw pos (keywordEach [] env))=_:=fun ov=>mcall_line hf hl
 simp only[this]
theorem qvu {e:Expr} {env:PySem.Env} (h:(match e with
  |.UnaryOp .Not _ _=>false
  |.BoolOp _ _ _=>false
  |.IfExp _ _ _ _=>false
  |.Compare _ _ _ _=>false
  |_=>true)=true):∀whole,isTrue e env whole=(do let v ←whole;standAt e.pos;holding [v] (truthy v)):=by
 cases e with
 |UnaryOp o a p=>cases o<;>first | (intro _;rfl) | cases h
 |BoolOp _ _ _=>cases h
 |IfExp _ _ _ _=>cases h
 |Compare _ _ _ _=>cases h
 |_=>intro _;rfl
theorem qfn {e:Expr} {t:Option Expr} {l:Nat} {env:PySem.Env} (h:qdi e=true):swapsWith e t l env=pure false:=by
 cases e<;>first | rfl | cases h
theorem qjg {e:Expr} {env:PySem.Env} (h:qlZ e=true):∀x,foldedSetIterable e env x=pure x:=by
 cases e<;>first | (intro _;rfl) | cases h
theorem qtP {e:Expr} (h:qdB e=true):PlainIx e:=by
 cases e<;>first | (intro _ _;rfl) | cases h
end Cm
set_option maxHeartbeats 1000000
namespace Cm
open PySem PySem.Spec PyProof.Rows L2
section
variable {C:Ctx} {X:Cx}
theorem qjp {P N:Hp} {b c:Bool} {y:D} {u:V} (hy:RepB C P N b y u) (fy:y.fit 0=true):∀{ds:List D} {xs:List V} {j:Nat},RepsB C P N c ds xs→D.fits ds 0=true→idxD y ds=some j →
  ∃z,xs[j]? = some z∧eqV z u=true∧∀(m:Nat) (z':V),m<j→xs[m]? = some z'→eqV z' u=false
 |[],_,_,_,_,e=>by cases e
 |d::ds,xs,j,⟨v,r,ex,h1,h2⟩,f,e=>by
  subst ex
  simp only[D.fits,Bool.and_eq_true] at f
  have q:=qm8 h1 hy f.1 fy
  unfold idxD at e
  split at e
  ·rename_i t
   cases e
   exact⟨v,rfl,by rw[q];exact t,fun m _ hm _=>absurd hm (Nat.not_lt_zero m)⟩
  ·rename_i t
   cases k:idxD y ds with
   |none=>rw[k] at e;cases e
   |some i =>
    rw[k] at e
    cases e
    obtain⟨z,z1,z2,z3⟩:=qjp hy fy h2 f.2 k
    refine⟨z,by simpa using z1,z2,fun m z' hm hz=>?_⟩
    cases m with
    |zero =>
     simp at hz
     subst hz
     rw[q]
     simpa using t
    |succ m=>exact z3 m z' (Nat.lt_of_succ_lt_succ hm) (by simpa using hz)
abbrev quv (go g:List Sl→RE ER):List Sl→RE ER:=fun ρ=>(go ρ).bind fun x=>match x.d with
  |.lst xs=>(g ρ).bind fun y=>qhX xs y.d
  |_=>.bad
abbrev qup (go g:List Sl→RE ER):List Sl→RE ER:=fun ρ=>(go ρ).bind fun x=>match x.d with
  |.str s=>(g ρ).bind fun y=>ql5 s y.d
  |_=>.bad
theorem qpv {go g:List Sl→RE ER} {σ:L2.St} {H:Hp} {Q:VK} (h:tE C (quv go g) σ H Q):tBM C.G.K "list" (rIndex C.G.K) (tE C go) (tCons (tE C g) tNil) σ H Q:=by
 obtain⟨ρ,P,N,S,h⟩:=h
 refine⟨ρ,P,N,S,h.bind.mono fun x P1 N1 H1 _ a1 h1 v rv=>?_⟩
 have r1:=(S.adv a1).reg
 split at h1
 ·rename_i ds hd
  have w:=rv.w r1
  rw[hd] at w
  obtain⟨p,xs,rfl,z1,z2⟩:=w
  refine⟨.inl ⟨rfl,xs,z1⟩,ρ,P1,N1,S.adv a1,(res.bind h1).mono fun y P2 N2 H2 _ a2 h2 u ru=>?_⟩
  have r2:=(S.adv (a1.trans a2)).reg
  unfold qhX at h2
  split at h2
  ·rename_i f
   simp only[Bool.and_eq_true] at f
   split at h2
   ·rename_i j e
    have wy:=ru.w r2
    have ry:RepB C P2 N2 y.b y.d u:=by
     cases q:y.d with
     |lst es=>rw[q] at f;have:=f.1;simp[D.fit] at this
     |_=>rw[q] at wy;exact wy
    have z3:=RepsB.adv a2.pp a2.nn z2
    obtain⟨z,y1,y2,y3⟩:=qjp ry f.1 z3 f.2 e
    exact⟨p,xs,u,j,z,rfl,rfl,L2.Same.seq a2.hh z1,qg3 (H:=H2) ry f.1,qfR (H:=H2) z3 f.2,y1,y2,y3,h2.val r2 rfl⟩
   ·exact h2.elim
  ·exact h2.elim
 ·exact h1.elim
theorem qqS {o a:Expr} {go g:List Sl→RE ER} {apos pos:Pos} (hK:X.K=C.G.K) (ho:PE X o (tE C go)) (ha:PE X a (tE C g)) (hs:qad a=true) (hbase:attributeBase o "index" X.env (eval o X.env)=eval o X.env) (hline:(apos.endLine == pos.line)=true)
  (hf:((backTo pos (starEach [a] X.env)).all (fun x=>!x.1)&&(backToKw pos (keywordEach [] X.env)).all (fun x=>x.1.isSome)
   && decide ([a].length+([]:List Keyword).length+(if ([]:List Keyword).isEmpty then 0 else 1)<30))=true) :
  PE X (.Call (.Attribute o "index" apos) [a] [] pos) (tE C (quv go g)):=
 qaf (pe_bm PySem.F.plainAttrs_list PySem.F.slot_list_index PySem.F.type_list_index mt_index ho (pa_cons ha pa_nil (qab hs)) hbase hf hline (qab hs) rfl) fun σ H Q q=>by rw[hK];exact qpv q
theorem qqI {go g:List Sl→RE ER} {σ:L2.St} {H:Hp} {Q:VK} (h:tE C (qup go g) σ H Q):tM1 (fun x xs H Q=>∃a b i rest,x=.str a∧xs=[.str b]∧Builtin.Str.occurrences a b 0 a.length 1=i::rest∧Q (.int (i:Nat)) H) (tE C go) (tE C g) σ H Q:=by
 obtain⟨ρ,P,N,S,h⟩:=h
 refine⟨ρ,P,N,S,h.bind.mono fun x P1 N1 H1 _ a1 h1 v rv=>?_⟩
 have r1:=(S.adv a1).reg
 split at h1
 ·rename_i s q
  have w:=rv.w r1
  rw[q] at w
  cases w.str
  refine⟨⟨_,rfl⟩,ρ,P1,N1,S.adv a1,(res.bind h1).mono fun y P2 N2 H2 _ a2 h2 u ru=>?_⟩
  have r2:=(S.adv (a1.trans a2)).reg
  have w2:=ru.w r2
  unfold ql5 at h2
  split at h2
  ·rename_i t q2
   rw[q2] at w2
   cases w2.str
   split at h2
   ·rename_i j rest e
    exact⟨qaA s,qaA t,j,rest,rfl,rfl,by rw[show(qaA s).length=s.length from qco s];exact e,h2.val r2 rfl⟩
   ·exact h2.elim
  ·exact h2.elim
 ·exact h1.elim
theorem qpr {o a:Expr} {go g:List Sl→RE ER} {apos pos:Pos} (ho:PE X o (tE C go)) (ha:PE X a (tE C g)) (hs:qad a=true) (hbase:attributeBase o "index" X.env (eval o X.env)=eval o X.env) (hline:(apos.endLine == pos.line)=true) :
  PE X (.Call (.Attribute o "index" apos) [a] [] pos) (tE C (qup go g)):=
 qaf (pe_m1 PySem.F.slot_str_index PySem.F.type_str_index mt_sindex ho ha (qab hs) hbase hline) fun σ H Q q=>qqI q
theorem qqM {a:Expr} {g:List Sl→RE ER} {p p2 q pos:Pos} (hK:X.K=C.G.K) (hc:X.calm=true) (hg:Gl X "len") (hm:X.mg "len" = none) (hg2:Gl X "set") (hm2:X.mg "set" = none) (ha:PE X a (tE C g))
  (na:qad a=true):PE X (.Call (.Name "len" p) [.Call (.Name "set" p2) [a] [] q] [] pos) (tE C fun ρ=>(g ρ).bind fun x=>ql2 x.d):=by
 have na:=qab (es:=[]) (env:=X.env) na
 refine⟨fun pins s σ H Q I h=>Call_ (ld_blt I hg hm PySem.boot_len (PyProof.Rows.callWith_builtin1 (PyProof.Rows.args_cons ?_ rfl) rfl rfl))⟩
 refine Call_ (ld_blt I hg2 hm2 PyProof.Rows.boot_set (PyProof.Rows.callWith_type1 (PyProof.Rows.args_cons ?_ na) na rfl))
 have body:tE C g σ H fun x H1=>∃(l:Addr) (ns:List Int),x=V.ref l∧SqL X.K H1 l (ns.map V.int)∧ns.length≤1000∧Q (.int (qqw ns)) H1:=by
  obtain⟨ρ,P,N,S,h⟩:=h
  refine⟨ρ,P,N,S,h.bind.mono fun x P1 N1 H1 _ a1 h1 v rv=>?_⟩
  have r1:=(S.adv a1).reg
  unfold ql2 at h1
  split at h1
  ·rename_i ds hd
   split at h1
   ·rename_i ns hn
    have w:=rv.w r1
    rw[hd] at w
    obtain⟨l,xs,rfl,z1,z2⟩:=w
    rw[qd6] at h1
    split at h1
    ·rename_i hl
     rw[Nat.ble_eq] at hl
     exact⟨l,ns,rfl,by rw[hK,←qbl hn z2];exact z1,hl,h1.val r1 rfl⟩
    ·exact h1.elim
   ·exact h1.elim
  ·exact h1.elim
 refine thn (ha.run pins s σ H _ I body) fun v s1 ⟨x,H1,I1,r1,q1⟩=>PyProof.Rows.args_nil ?_
 obtain⟨l,ns,rfl,hq,hl,q1⟩:=q1
 cases r1
 obtain⟨its,r,pl,_⟩:=I1.list hq
 have hz:its.toArray.size=ns.length:=by rw[List.size_toArray,←r.length,List.length_map]
 refine call_set_list (I1.ok.hd hc) pl.isList (ns:=ns) (by simpa using r.ints) (by unfold scanBound;omega) fun h' tk hS hk=>PyProof.Rows.args_nil ?_
 rw[hz] at hS
 obtain⟨o,es,ep,t,ho,hex,hd,_,_,_,hf,hn⟩:=hS
 have I2:Inv X pins σ H1 { s1 with heap:=h',toks:=tk }:=I1.kept fun b o e=>hk b o (Heap.lt_size e) e
 have le:qqw ns≤ns.length:=PyProof.Rows.firstMet_length_le (fun i=>ns.getD i 0) ns.length
 have hn':es.size=qqw ns:=hn
 exact call_len_set ho hex hd hf (by rw[hn'];omega) ⟨.int (qqw ns),H1,I2.tok _,⟨_,by rw[hn']⟩,q1⟩
theorem qnF {n:Nat} {k:Int} {m:Nat} (h:ixN n k=some m) (hn:n≤16777216):seqIndex? k n=some m ∧ -(2 ^ 63)≤k∧k<2 ^ 63:=by
 unfold ixN at h
 unfold seqIndex?
 split at h
 ·rename_i h0
  split at h
  ·rename_i h1
   cases h
   have e:¬k<0:=by omega
   refine⟨?_,by omega,by omega⟩
   simp only[e,if_false]
   rw[if_pos (by simp;omega)]
  ·cases h
 ·rename_i h0
  split at h
  ·rename_i h1
   cases h
   have e:k<0:=by omega
   refine⟨?_,by omega,by omega⟩
   simp only[e,if_true]
   rw[if_pos (by simp;omega)]
  ·cases h
theorem qj4 {z:Int}:∀{ns:List Int} {j:Nat},qrF z ns=some j→ns[j]? = some z∧∀m:Nat,m<j→ns[m]? ≠ some z
 |[],_,h=>by cases h
 |s::ss,j,h=>by
  simp only[qrF] at h
  split at h
  ·rename_i e
   cases h
   exact⟨by rw[e];rfl,fun m hm=>by omega⟩
  ·rename_i e
   cases q:qrF z ss with
   |none=>rw[q] at h;cases h
   |some i =>
    rw[q] at h
    cases h
    obtain⟨a,b⟩:=qj4 q
    refine⟨a,fun m hm=>?_⟩
    cases m with
    |zero=>intro h;injection h with h;exact e h
    |succ m=>exact b m (Nat.lt_of_succ_lt_succ hm)
theorem qpe {i:Nat} {g:List Sl→RE ER} {D:Ends} {σ:L2.St} {H:Hp} {K:PySem.W.Frag} (q:tS C (fun ρ=>qbh ρ i fun ds c=>(g ρ).out fun k=>match k.d with
  |.int k=>match ixN ds.length k with
   |some m=>match ds[m]? with
    |some _=>gdO (leB ds.length) (.nx (ρ.set i (.own (ds.eraseIdx m) c)))
    |none=>.bad
   |none=>.bad
  |_=>.bad) D σ H):tDrop (tBM K "list" rPopAt (tVar i) (tCons (tE C g) tNil)) D σ H:=by
 obtain⟨ρ,P,N,S,h⟩:=q
 obtain⟨ds,c,e,o⟩:=qbS h
 obtain⟨p,xs,z1,z2,z3,z4,z5,z6⟩:=S.root e
 refine⟨_,z1,.inl ⟨rfl,xs,.inl (.inl z2)⟩,ρ,P,N,S,(o.res S.reg).mono fun k P1 N1 H1 _ a1 h1 v rv=>?_⟩
 have S1:=S.adv a1
 split at h1
 ·rename_i k' ek
  have w:=rv.w S1.reg
  rw[ek] at w
  cases w.int
  split at h1
  ·rename_i m em
   split at h1
   ·rename_i d ed
    simp only[qba,qao] at h1
    split at h1
    case isFalse=>exact h1.elim
    rename_i le2
    have r2:=RepsB.adv a1.pp a1.nn z6
    obtain⟨w,w1,w2⟩:=r2.get ed
    have le2:xs.length≤16777216:=by rw[z6.length];exact le2
    rw[←z6.length] at em
    obtain⟨b1,b2,b3⟩:=qnF em le2
    have Sw:=S1.write e z1 (b':=c) (xs':=xs.eraseIdx m) (Reps.eraseIdx m r2)
    exact⟨p,xs,k',m,w,rfl,rfl,a1.hh _ _ z2,b2,b3,b1,w1,h1 _ P1 N1 _ Sw a1.pp a1.nn⟩
   ·exact h1.elim
  ·exact h1.elim
 ·exact h1.elim
theorem qmw {α β:Type} (f:α→β):∀(l:List α) (i:Nat),(l.map f).eraseIdx i=(l.eraseIdx i).map f
 |[],_=>rfl
 |_::_,0=>rfl
 |a::l,i+1=>by simp[List.eraseIdx,qmw f l i]
theorem qsW {i:Nat} {g:List Sl→RE ER} {D:Ends} {σ:L2.St} {H:Hp} {K:PySem.W.Frag} (q:tS C (fun ρ=>qbh ρ i fun ds c=>(g ρ).out fun k=>match k.d with
  |.int k=>match qaU ds with
   |some ns=>match qrF k ns with
    |some m=>.nx (ρ.set i (.own (ds.eraseIdx m) c))
    |none=>.bad
   |none=>.bad
  |_=>.bad) D σ H):tDrop (tBM K "list" rRemI (tVar i) (tCons (tE C g) tNil)) D σ H:=by
 obtain⟨ρ,P,N,S,h⟩:=q
 obtain⟨ds,c,e,o⟩:=qbS h
 obtain⟨p,xs,z1,z2,z3,z4,z5,z6⟩:=S.root e
 refine⟨_,z1,.inl ⟨rfl,xs,.inl (.inl z2)⟩,ρ,P,N,S,(o.res S.reg).mono fun k P1 N1 H1 _ a1 h1 v rv=>?_⟩
 have S1:=S.adv a1
 split at h1
 ·rename_i k' ek
  have w:=rv.w S1.reg
  rw[ek] at w
  cases w.int
  split at h1
  ·rename_i ns hn
   split at h1
   ·rename_i m em
    have r2:=RepsB.adv a1.pp a1.nn z6
    have ex:xs=ns.map V.int:=qbl hn r2
    obtain⟨b1,b2⟩:=qj4 em
    have Sw:=S1.write e z1 (b':=c) (xs':=xs.eraseIdx m) (Reps.eraseIdx m r2)
    refine⟨p,ns,k',m,rfl,rfl,by rw[←ex];exact a1.hh _ _ z2,b1,b2,?_⟩
    rw[←qmw,←ex]
    exact h1 _ P1 N1 _ Sw a1.pp a1.nn
   ·exact h1.elim
  ·exact h1.elim
 ·exact h1.elim
theorem qpC {i j:Nat} {g:List Sl→RE ER} {D:Ends} {σ:L2.St} {H:Hp} {K:PySem.W.Frag} (q:tS C (fun ρ=>if i=j then .bad else qbh ρ i fun ds c=>qbh ρ j fun es c2=>(g ρ).out fun k=>match k.d with
  |.int k=>match ixN es.length k with
   |some m=>match es[m]? with
    |some d=>gdO (leB es.length) (gdO (leB (ds.length+1)) (.nx ((ρ.set j (.own (es.eraseIdx m) c2)).set i (.own (ds++[d]) (c2&&c)))))
    |none=>.bad
   |none=>.bad
  |_=>.bad) D σ H) :
  tDrop (tBM K "list" rAppend (tVar i) (tCons (tBM K "list" rPopAt (tVar j) (tCons (tE C g) tNil)) tNil)) D σ H:=by
 obtain⟨ρ,P,N,S,h⟩:=q
 split at h
 ·exact h.elim
 rename_i hij
 obtain⟨ds,c,e,o⟩:=qbS h
 obtain⟨es,c2,e2,o⟩:=qbS o
 obtain⟨p,xs,z1,z2,z3,z4,z5,z6⟩:=S.root e
 obtain⟨p2,xs2,y1,y2,y3,y4,y5,y6⟩:=S.root e2
 refine⟨_,z1,.inl ⟨rfl,xs,.inl (.inl z2)⟩,_,y1,.inl ⟨rfl,xs2,.inl (.inl y2)⟩,ρ,P,N,S,(o.res S.reg).mono fun k P1 N1 H1 _ a1 h1 v rv=>?_⟩
 have S1:=S.adv a1
 split at h1
 ·rename_i k' ek
  have w:=rv.w S1.reg
  rw[ek] at w
  cases w.int
  split at h1
  ·rename_i m em
   split at h1
   ·rename_i d ed
    simp only[qba,qao] at h1
    split at h1
    case isFalse=>exact h1.elim
    rename_i le2
    split at h1
    ·rename_i hl
     have r2:=RepsB.adv a1.pp a1.nn y6
     have r1:=RepsB.adv a1.pp a1.nn z6
     obtain⟨w,w1,w2⟩:=r2.get ed
     have hne:p≠p2:=fun z=>hij (S.ap i j p ds c es c2 e e2 z1 (by rw[z];exact y1))
     have le2:xs2.length≤16777216:=by rw[y6.length];exact le2
     rw[←y6.length] at em
     obtain⟨b1,b2,b3⟩:=qnF em le2
     refine⟨p2,xs2,k',m,w,rfl,rfl,a1.hh _ _ y2,b2,b3,b1,w1,?_⟩
     have Sw:=S1.write e2 y1 (b':=c2) (xs':=xs2.eraseIdx m) (Reps.eraseIdx m r2)
     have e':(ρ.set j (.own (es.eraseIdx m) c2))[i]? = some (.own ds c):=by rw[List.getElem?_set_ne (fun z=>hij z.symm)];exact e
     have Sw2:=Sw.write e' z1 (b':=c2&&c) (xs':=xs++[w]) (Reps.append (RepsB.and2 r1) (Reps.one (RepB.and1 w2)))
     refine⟨p,xs,w,rfl,rfl,by rw[upd_ne hne];exact a1.hh _ _ z2,by rw[z6.length];exact hl,h1 _ P1 N1 _ Sw2 a1.pp a1.nn⟩
    ·exact h1.elim
   ·exact h1.elim
  ·exact h1.elim
 ·exact h1.elim
theorem qsF {i:Nat} {f:Str} {fi:Nat→Option Nat} {σ:L2.St} {H:Hp} {Q:VK} (hf:∀c k,fi c=some k→FdOk C X f c k) (h:tE C (fun ρ=>match ρ[i]? with
  |some (.slf c fs)=>match fi c with
   |some k=>match fs[k]? with
    |some d=>.ok (.val d true)
    |none=>.bad
   |none=>.bad
  |_=>.bad) σ H Q):tFld X.K (tVar i) f σ H Q:=by
 obtain⟨ρ,P,N,S,h⟩:=h
 dsimp only at h
 split at h
 ·rename_i c fs e
  split at h
  ·rename_i k ek
   split at h
   ·rename_i d ed
    obtain⟨o,z1,p,dx,xs,⟨ep,rfl⟩,z2,z3,z4,z5,z6,z7⟩:=S.sl i _ e
    obtain⟨c1,c2,c3,c4⟩:=hf _ _ ek
    obtain⟨u,q4,q5⟩:=Reps.get z7 ed
    exact⟨_,z1,p,_,dx,_,u,rfl,z2,c1,c2,qfz c4 c3 q4,h.val S.reg q5⟩
   ·exact h.elim
  ·exact h.elim
 ·exact h.elim
theorem qlY {f:Str} {v:V}:∀{l:List Str} {xs:List V},l[xs.length]? = some f→f∉l.take xs.length→putF f v (l.zip xs)=l.zip (xs++[v])
 |[],_,h,_=>by simp at h
 |g::l,[],h,_=>by
  simp at h
  subst h
  simp[putF]
 |g::l,x::xs,h,hn=>by
  simp only[List.length_cons,List.take_succ_cons,List.mem_cons,not_or] at hn
  simp only[List.zip_cons_cons,List.cons_append,putF]
  rw[if_neg (fun e=>hn.1 e.symm),qlY (by simpa using h) hn.2]
theorem qic {f:Str}:∀{l:List Str} {k:Nat},l.Nodup→l[k]? = some f→f∉l.take k
 |[],_,_,h=>by simp at h
 |g::l,0,_,_=>by simp
 |g::l,k+1,hn,h=>by
  simp only[List.nodup_cons] at hn
  simp only[List.take_succ_cons,List.mem_cons,not_or]
  have h':l[k]? = some f:=by simpa using h
  exact⟨fun e=>hn.1 (e ▸ List.mem_of_getElem? h'),qic hn.2 h'⟩
theorem qko:∀{ρ:List Sl} {j c:Nat} {fs:List Cm.D},qpS ρ=true→ρ[j]? ≠ some (.slf c fs)
 |[],j,c,fs,_,e=>by simp at e
 |s::ρ,0,c,fs,h,e=>by
  simp at e
  subst e
  cases h
 |s::ρ,j+1,c,fs,h,e=>by
  refine qko (ρ:=ρ) (j:=j) (c:=c) (fs:=fs) ?_ (by simpa using e)
  cases s<;>first | exact h | cases h
theorem ERr.heldF {P1 N1 H0 P N H:Hp} {er:ER} {v:V} {f:Cm.D→Out} {D:Ends} (a:Adv P1 N1 H0 P N H) (h:ERr C P N H H0 er v) (o:outS C P1 N1 D (heldF er f)):∃N2 d,Adv P1 N1 H0 P N2 H∧RepB C P N2 true d v∧outS C P1 N1 D (f d):=by
 cases er with
 |brw ds b=>exact o.elim
 |val d b =>
  simp only[Cm.heldF,qba] at o
  split at o
  ·rename_i z
   exact⟨N,d,a,by have:=RepB.nf (C:=C) h;rw[z] at this;exact this,o⟩
  ·exact o.elim
 |fre ds b =>
  simp only[Cm.heldF,qba] at o
  split at o
  ·rename_i z
   obtain⟨p,xs,rfl,h1,h2,h3,h4,h5⟩:=h
   have sn:L2.Same N (upd N p (.lst xs)):=qaN h4
   refine⟨upd N p (.lst xs),.lst ds,a.holdN h2 h1 h4 h3,⟨p,xs,rfl,.inl upd_same,?_⟩,o⟩
   have h6:=RepsB.adv (C:=C) (L2.Same.refl P) sn h5
   cases b with
   |true=>exact h6
   |false=>exact Reps.flat _ _ (by simpa using z) h6
  ·exact o.elim
theorem qpf {f:Str} {fi:Nat→Option Nat} {g:List Sl→RE ER} {D:Ends} {σ:L2.St} {H:Hp} (hf:∀c k,fi c=some k→FdOk C X f c k) (q:tS C (fun ρ=>(g ρ).out fun x=>heldF x fun d=>qq1 ρ fun c fs r=>match fi c with
  |some k=>if k=fs.length then gdO (Nat.ble k 900) (.nx (.slf c (fs++[d])::r)) else .bad
  |none=>.bad) D σ H):sFld X.K (tVar 0) (tE C g) f D σ H:=by
 obtain⟨ρ,P,N,S,h⟩:=q
 refine⟨ρ,P,N,S,(h.res S.reg).mono fun x P1 N1 H1 _ a1 h1 v rv=>?_⟩
 obtain⟨N2,d,a2,r2,o⟩:=ERr.heldF a1 rv h1
 have S2:=S.adv a2
 unfold qq1 at o
 split at o
 ·rename_i c fs r zz
  split at o
  ·rename_i hn
   dsimp only at o
   split at o
   ·rename_i k ek
    split at o
    ·rename_i hk
     rw[qba] at o
     split at o
     case isFalse=>exact o.elim
     rename_i hk9
     rw[Nat.ble_eq] at hk9
     obtain⟨o',z1,p,dx,xs,⟨ep,rfl⟩,z2,z3,z4,z5,z6,z7⟩:=S2.sl 0 _ rfl
     obtain⟨c1,c2,c3,c4⟩:=hf _ _ ek
     have lx:xs.length=fs.length:=z7.length
     have lf:(C.G.fl c)[xs.length]? = some f:=by rw[lx,←hk];exact c3
     have lt:fs.length<(C.G.fl c).length:=by
      have:=(List.getElem?_eq_some_iff.mp lf).1
      omega
     have few:((C.G.fl c).zip xs).length<1000:=by
      rw[List.length_zip];omega
     refine⟨_,z1,p,_,dx,_,rfl,z2,c1,c2,few,?_⟩
     rw[qlY lf (qic c4 lf)]
     refine o _ P1 N2 _ ⟨⟨qaL S2.reg.pH z3,qaL S2.reg.nH z4,qaL S2.reg.bH z5,S2.reg.rB,S2.reg.p0,S2.reg.pn,S2.reg.nw,S2.reg.dj⟩,by simpa using S2.len,fun j s ej=>?_,fun j l r ds1 c es c' e1 e2 e3 e4=>?_,S2.ad.sub fun j m b e=>by
      cases j with
      |zero=>cases e
      |succ j=>exact⟨rfl,_,_,by simpa using e⟩⟩ a2.pp a2.nn
     ·cases j with
      |zero =>
       simp at ej
       subst ej
       exact⟨_,z1,p,dx,xs++[v],⟨ep,rfl⟩,upd_same,z3,z4,z5,by simp only[List.length_append,List.length_cons,List.length_nil];omega,Reps.append z7 (Reps.one r2)⟩
      |succ j =>
       have ej':r[j]? = some s:=by simpa using ej
       obtain⟨o,y1,y2⟩:=S2.sl (j+1) s (by simpa using ej')
       refine⟨o,y1,?_⟩
       cases s with
       |non=>trivial
       |val d b=>exact y2
       |own es c =>
        obtain⟨q,ys,y3,y4,y5⟩:=y2
        have hr:q≠p:=fun er=>by rw[er,z2] at y4;cases y4
        exact⟨q,ys,y3,by rw[upd_ne hr];exact y4,y5⟩
       |slf c fs=>exact absurd ej' (qko hn)
       |fxd d k=>exact y2
       |dct m c =>
        obtain⟨q,es,y3,y4,y5⟩:=y2
        have hr:q≠p:=fun er=>by rw[er,z2] at y4;cases y4
        exact⟨q,es,y3,by rw[upd_ne hr];exact y4,y5⟩
     ·cases j with
      |zero=>simp at e1
      |succ j =>
       cases l with
       |zero=>simp at e2
       |succ l=>exact S2.ap (j+1) (l+1) r ds1 c es c' (by simpa using e1) (by simpa using e2) e3 e4
    ·exact o.elim
   ·exact o.elim
  ·exact o.elim
 ·exact o.elim
theorem qk7 {P N H H0:Hp} (r:Reg C P N H):∀{es:List ER} {vs:List V},ERs C P N H H0 es vs→Reps C.G P (SqL C.G.K H) (es.map ER.d) vs
 |[],_,h=>by cases h;rfl
 |e::es,_,⟨v,u,ex,h1,h2⟩=>by
  subst ex
  refine⟨v,u,rfl,?_,qk7 r h2⟩
  have w:=h1.w r
  have mm:=fun a xs=>LNb.seq (K:=C.G.K) (b:=e.b) r.pH r.nH r.rH a xs
  cases q:e.d with
  |lst ds =>
   rw[q] at w
   obtain⟨p,xs,rfl,h3,h4⟩:=w
   exact⟨p,xs,rfl,h3,Reps.mono (L2.Same.refl _) _ _ mm h4⟩
  |non=>rw[q] at w;exact Rep.mono (L2.Same.refl _) _ _ mm w
  |bl _=>rw[q] at w;exact Rep.mono (L2.Same.refl _) _ _ mm w
  |int _=>rw[q] at w;exact Rep.mono (L2.Same.refl _) _ _ mm w
  |str _=>rw[q] at w;exact Rep.mono (L2.Same.refl _) _ _ mm w
  |tup _=>rw[q] at w;exact Rep.mono (L2.Same.refl _) _ _ mm w
  |ins _ _=>rw[q] at w;exact Rep.mono (L2.Same.refl _) _ _ mm w
  |exc _ _=>rw[q] at w;exact Rep.mono (L2.Same.refl _) _ _ mm w
theorem qth {P N H H0:Hp} {σ:L2.St} {c n:Nat} {g:List Cm.D→RE (List Cm.D)} {Q:VK} {es:List ER} {vs:List V} (r:Reg C P N H) (hv:ERs C P N H H0 es vs) (hn:es.length=n)
  (h:res C σ P N H ((g (es.map ER.d)).bind fun fs=>.ok (.val (.ins c fs) true)) (kE C H0 Q)):∀x dx,H x=none→H dx=none→dx≠x →
  spI C.G c n g (.ref x::vs) (upd (upd H dx (.own x)) x (.ins (C.G.ca c) dx [])) (fun v H2=>v=.non∧Q (.ref x) H2) (fun cls d H'=>C.W cls d σ H'):=by
 intro x dx hx hdx _
 refine⟨x,dx,H,P,H,es.map ER.d,vs,rfl,rfl,hx,hdx,r.pH,L2.Same.refl _,qk7 r hv,by rw[List.length_map,hn],?_⟩
 cases e:g (es.map ER.d) with
 |bad=>rw[e] at h;exact h.elim
 |ok fs =>
  rw[e] at h
  intro H' P' hh pp pH pn hr
  exact⟨rfl,h P' N H' ⟨hh,pp,L2.Same.refl _,pH,r.nH.trans hh,pn,fun _ q=>.inl q,fun _ q _=>q⟩ _ hr⟩
 |exc c' fs =>
  rw[e] at h
  intro d H' P' N' ad hx
  refine h d _ _ _ (ad.back r.nH) ?_
  have mono:∀a xs,LNb C.G.K P' N' H true a xs→LNb C.G.K P' (un2 N N' H') C.R true a xs:=fun a xs q=>by
   rcases q with q | ⟨hb,q⟩
   ·exact .inl (qhx ad.nH _ _ q)
   ·cases hb
  rcases hx with hx | ⟨dd,f,v,h1,h2,h3,h4⟩
  ·exact .inl hx
  ·exact .inr ⟨dd,f,v,h1,h2,h3,Rep.mono (L2.Same.refl _) _ _ mono h4⟩
theorem qka {k:Nat} {f K0:Addr} {fd:FuncData} {ps:List Str} {sp:Sp} {W:WX} {pins:List (Addr × Obj)} {σ:L2.St} {H:Hp} {s:Shared} {Q:VK} {us:List Value} {vs:List V} (M:Mk X.K K0 f) (F:FnOk X.prog X.w X.K X.mg X.base (L2.CX X.prog X.w) k f fd ps sp) (hr:Room (k+1) X.A) (hb:Binds X.K fd ps [])
  (tk:Takes X W) (I:Inv X pins σ H s) (r:Vals vs us)
  (h:∀x dx,H x=none→H dx=none→dx≠x→sp (.ref x::vs) (upd (upd H dx (.own x)) x (.ins K0 dx [])) (fun v H2=>v=.non∧Q (.ref x) H2) (fun cls d H'=>W cls d σ H')) :
  wpAny (model X.prog X.w) X.A (call (.ref K0) us) (EP X pins σ Q) X.xe s:=by
 have lt:=Nat.lt_succ_self s.heap.objs.size
 have hq:=h _ _ (I.hok.fresh (Nat.le_of_lt lt)) (I.hok.fresh (Nat.le_refl _)) (Nat.ne_of_lt lt)
 have J:=Inv.made (C:=K0) I
 have rr:Vals (V.ref (s.heap.objs.size+1)::vs) (Value.ref (s.heap.objs.size+1)::us):=.cons rfl r
 have hl:(Value.ref (s.heap.objs.size+1)::us).length=ps.length:=by
  rw[←rr.length]
  exact F.len _ _ _ _ hq
 have hb':=hb _ (Value.ref (s.heap.objs.size+1)::us) J.kIn (by rw[List.append_nil];exact hl)
 rw[List.append_nil] at hb'
 refine wpAny_call (make_map (f:=f) I.kIn M.makes M.init (beq_iff_eq.mp M.fn) (codeAny_mono (F.run _ X.stack _ _ ⟨Value.ref (s.heap.objs.size+1)::us,[]⟩ _ _ _ _ (hr.make K0 us []) (J.env0.make K0 us []) hb' rr hq) fun res s' hq'=>?_))
 cases res with
 |error e=>exact tk e s' (XE.of_call J (fun cls d H' q=>q) hq')
 |ok fl =>
  cases fl with
  |ret u =>
   obtain⟨v,H',J2,rv,ev,q3⟩:=J.after hq'
   subst ev
   exact⟨rv,V.ref _,H',J2,rfl,q3⟩
  |next=>exact False.elim hq'
  |brk=>exact False.elim hq'
  |cont=>exact False.elim hq'
structure Mk0 (K:PySem.W.Frag) (c:Addr):Prop where
 makes:PySem.W.makesIn K c=true
 init:PySem.W.findIn K (.ref c) "__init__" = some (some (.builtin "object.__init__"))
 kp:PySem.W.keepIn K (.ref c)=true
theorem qnP {K0:Addr} {pins:List (Addr × Obj)} {σ:L2.St} {H:Hp} {s:Shared} {Q:VK} (M:Mk0 X.K K0) (I:Inv X pins σ H s)
  (h:∀x dx,H x=none→H dx=none→dx≠x→Q (.ref x) (upd (upd H dx (.own x)) x (.ins K0 dx []))) :
  wpAny (model X.prog X.w) X.A (call (.ref K0) []) (EP X pins σ Q) X.xe s:=by
 have lt:=Nat.lt_succ_self s.heap.objs.size
 have hq:=h _ _ (I.hok.fresh (Nat.le_of_lt lt)) (I.hok.fresh (Nat.le_refl _)) (Nat.ne_of_lt lt)
 have J:=Inv.made (C:=K0) I
 have Y:=PySem.W.makes_of (M:=model X.prog X.w) I.kIn M.makes
 refine wpAny_call (make_map0 I.kIn M.makes M.init (fun self=>PySem.W.Looks.of_pure (PySem.W.oi_bind self)) ?_)
 have hg:((s.heap.push PySem.W.emptyDict).push (PySem.W.instObj K0 s.heap.objs.size)).get? (s.heap.objs.size+1)=some (PySem.W.instObj K0 s.heap.objs.size):=by
  have:=Heap.get?_push_size (s.heap.push PySem.W.emptyDict) (o:=PySem.W.instObj K0 s.heap.objs.size) rfl
  rwa [Heap.size_push] at this
 have t1:PySem.W.Looks (model X.prog X.w) ((s.heap.push PySem.W.emptyDict).push (PySem.W.instObj K0 s.heap.objs.size)) (typeOf (.ref (s.heap.objs.size+1))) (.ref K0):=(PySem.W.Looks.ld hg).andThen .now
 have t2:PySem.W.Looks (model X.prog X.w) ((s.heap.push PySem.W.emptyDict).push (PySem.W.instObj K0 s.heap.objs.size)) (isInstance (.ref (s.heap.objs.size+1)) (.type "object")) true:=t1.andThen (Y.top.keeps fun b o e=>Heap.get?_push_of_some _ (Heap.get?_push_of_some _ e))
 refine codeAny_call_builtin PySem.W.oi_plain PySem.W.entry_oi (@PySem.W.check_slot (model X.prog X.w) _ _ _ "object.__init__" "object" "__init__" (.ref (s.heap.objs.size+1)) [] [] _ PySem.W.oi_kind PySem.W.oi_split t2 (PySem.W.oi_args (.ref (s.heap.objs.size+1))) ?_)
 rw[PySem.W.oi_run]
 exact wpAny_pure (And.intro rfl ⟨V.ref _,_,J,rfl,hq⟩)
structure NwOk (C:Ctx) (X:Cx) (x:Str) (c n:Nat) (g:List D→RE (List D)):Prop where
 ex:(∃k f fd ps,Mk X.K (C.G.ca c) f∧FnOk X.prog X.w X.K X.mg X.base (L2.CX X.prog X.w) k f fd ps (spI C.G c n g)∧Room (k+1) X.A∧X.mg x=some (.ref (C.G.ca c))∧Binds X.K fd ps []) ∨
  (n=0∧g []=.ok []∧Mk0 X.K (C.G.ca c)∧C.G.fl c=[]∧X.mg x=some (.ref (C.G.ca c)))
theorem qtv {x:Str} {c n:Nat} {g':List Cm.D→RE (List Cm.D)} {g:List Sl→RE (List ER)} {es:List Expr} {p pos:Pos} (nw:NwOk C X x c n g') (hg:Gl X x)
  (tk:Takes X C.W) (ha:PA X es (tA C g)) (hdb:(x == ("__debug__" : Str))=false) (hs:qmI X es) (hl:∀ρ r,g ρ=.ok r→r.length=n) (h0:es=[]→∀ρ,g ρ=.ok []) (hn:es.length=n) :
  PE X (.Call (.Name x p) es [] pos) (tE C fun ρ=>(g ρ).bind fun r=>(g' (r.map ER.d)).bind fun fs=>.ok (.val (.ins c fs) true)):=by
 rcases nw.ex with⟨k,f,fd,ps,M,F,hr,hm,hb⟩ | ⟨rfl,hg0,M,hfl,hm⟩
 case inr =>
  by_cases hes:es=[]
  ·subst hes
   refine⟨fun pins s σ H Q I h=>wpAny_Call_Name_kw (ld_glob I hg hm ?_ hdb)⟩
   refine PySem.W.callWith_K0 I.kIn M.kp ?_
   refine qnP M I fun a dx ha hdx hne=>?_
   obtain⟨ρ,P,N,S,h⟩:=h
   dsimp only at h
   rw[h0 rfl ρ] at h
   simp only[RE.bind_ok,List.map_nil,hg0] at h
   have r:=S.reg
   have n1:∀{Y:Hp} {b:Addr},L2.Same Y H→H b=none→Y b=none:=fun {Y b} hs hb=>by
    cases e:Y b with
    |none=>rfl
    |some o=>have:=hs _ _ e;rw[hb] at this;cases this
   have pa:=n1 r.pH ha
   have sH:L2.Same H (upd (upd H dx (.own a)) a (.ins (C.G.ca c) dx [])):=(qaN hdx).trans (qaN (by rw[upd_ne (Ne.symm hne)];exact ha))
   refine h (upd P a (.ins (C.G.ca c) dx [])) N _ ⟨sH,qaN pa,L2.Same.refl _,fun b o e=>?_,r.nH.trans sH,fun b hb=>?_,fun _ q=>.inl q,fun _ q _=>q⟩ _ ?_
   ·by_cases hba:b=a
    ·subst hba
     rw[upd_same] at e ⊢
     exact e
    ·rw[upd_ne hba] at e
     exact sH _ _ (r.pH _ _ e)
   ·by_cases hba:b=a
    ·subst hba;exact .inr ha
    ·rw[upd_ne hba] at hb;exact .inl hb
   ·refine⟨a,dx,[],rfl,?_,by rw[hfl];rfl,rfl⟩
    rw[hfl]
    exact upd_same
  ·exact absurd (List.length_eq_zero_iff.mp hn) hes
 have body:PE X (.Call (.Name x p) es [] pos) (fun σ H Q=>tA C g σ H fun vs H1=>∀x dx,H1 x=none→H1 dx=none→dx≠x →
   spI C.G c n g' (.ref x::vs) (upd (upd H1 dx (.own x)) x (.ins (C.G.ca c) dx [])) (fun v H2=>v=.non∧Q (.ref x) H2) (fun cls d H'=>C.W cls d σ H')):=by
  cases es with
  |nil =>
   refine⟨fun pins s σ H Q I h=>wpAny_Call_Name_kw (ld_glob I hg hm ?_ hdb)⟩
   refine PySem.W.callWith_K0 I.kIn M.kp ?_
   obtain⟨ρ,P,N,S,h⟩:=h
   rw[h0 rfl ρ] at h
   exact qka (us:=[]) M F hr hb tk I .nil (h.now S.reg [] rfl)
  |cons e es =>
   refine⟨fun pins s σ H Q I h=>wpAny_Call_Name_kw (ld_glob I hg hm ?_ hdb)⟩
   refine PySem.W.callWith_K (h₀:=X.base) I.ok.mod.kin M.kp (thn (ha.run pos pins s σ H _ I h) fun us s1 ⟨vs,H1,I1,r,q⟩=>⟨I1.kIn,?_⟩) (hs.1 _ _ rfl) (hs.2 _ _ _ rfl)
   exact qka M F hr hb tk I1 r q
 refine qaf body fun σ H Q q=>?_
 obtain⟨ρ,P,N,S,h⟩:=q
 exact⟨ρ,P,N,S,h.bind.mono fun r P1 N1 H1 e a1 h1 vs rv=>qth (S.adv a1).reg rv (hl _ _ e) h1⟩
end
section
variable {prog:Program} {w:World} {A:Around} {E:Value→Shared→Prop} {s:Shared} {l:Addr} {its:List Value} {ns:List Int} {Q:Value→Shared→Prop} {d:Value}
theorem qpy (hh:A.handled=none) (hl:s.heap.IsList l its.toArray) (hi:IntsAre its ns)
  (h0:ns=[]→∀h' tk,(∀b o,s.heap.get? b=some o→h'.get? b=some o)→Q d { s with heap:=h',toks:=tk })
  (h:∀h' tk M t',(∀b o,s.heap.get? b=some o→h'.get? b=some o)→M∈ns→(∀a,a∈ns→a≤M)→Q (.int M t') { s with heap:=h',toks:=tk }):wpAny (model prog w) A (call (.builtin "max") [.ref l] [(Str.ofString "default",d)]) Q E s:=by
 obtain⟨xs,e⟩:=hi.allInts.items
 have hn:numsOf (intItems xs).toList=ns:=by rw[←e];exact hi.numsOf
 rw[nums_intItems] at hn
 subst hn
 rw[e] at hl
 have sz:(intItems xs).size=xs.size:=by simp[intItems]
 refine call_max_walkD (PySem.W.iter_listW (A:=A.in1) hh hl fun s₂ e2 W st hfp hw hk=>?_)
 refine⟨_,_,_,_,_,_,_,s.heap,(fun i j=>decide (numAt xs i>numAt xs j)),rfl,W,st,hfp,hw,hk,fun hz s' m=>?_,fun hp=>⟨fun i j vi vj s Q E _ hi hj hq=>CmpOf.ints_gt (numAt xs) (fun _ _=>intItems_at) i j vi vj s Q E hi hj hq,fun v s' hP m=>?_⟩⟩
 ·obtain⟨h',tk,rfl,hk'⟩:=PySem.W.moved_old e2 rfl m
  exact h0 (List.eq_nil_of_length_eq_zero (by rw[List.length_map,Array.length_toList];omega)) h' tk hk'
 ·obtain⟨h',tk,rfl,hk'⟩:=PySem.W.moved_old e2 rfl m
  obtain⟨t,rfl⟩:=intItems_at hP
  obtain⟨h1,h2⟩:=argBest_gt (numAt xs) ((intItems xs).size - 1)
  refine h h' tk _ t hk' ?_ fun a ha=>?_
  ·rw[numAt_eq];exact PySem.getD_mem (by rw[List.length_map,Array.length_toList];omega)
  ·obtain⟨j,hj,rfl⟩:=mem_getD ha
   rw[List.length_map,Array.length_toList] at hj
   rw[←numAt_eq];exact h2 j (by omega)
theorem qpp (hh:A.handled=none) (hl:s.heap.IsList l its.toArray) (hi:IntsAre its ns)
  (h0:ns=[]→∀h' tk,(∀b o,s.heap.get? b=some o→h'.get? b=some o)→Q d { s with heap:=h',toks:=tk })
  (h:∀h' tk M t',(∀b o,s.heap.get? b=some o→h'.get? b=some o)→M∈ns→(∀a,a∈ns→M≤a)→Q (.int M t') { s with heap:=h',toks:=tk }):wpAny (model prog w) A (call (.builtin "min") [.ref l] [(Str.ofString "default",d)]) Q E s:=by
 obtain⟨xs,e⟩:=hi.allInts.items
 have hn:numsOf (intItems xs).toList=ns:=by rw[←e];exact hi.numsOf
 rw[nums_intItems] at hn
 subst hn
 rw[e] at hl
 have sz:(intItems xs).size=xs.size:=by simp[intItems]
 refine call_min_walkD (PySem.W.iter_listW (A:=A.in1) hh hl fun s₂ e2 W st hfp hw hk=>?_)
 refine⟨_,_,_,_,_,_,_,s.heap,(fun i j=>decide (numAt xs i<numAt xs j)),rfl,W,st,hfp,hw,hk,fun hz s' m=>?_,fun hp=>⟨fun i j vi vj s Q E _ hi hj hq=>CmpOf.ints_lt (numAt xs) (fun _ _=>intItems_at) i j vi vj s Q E hi hj hq,fun v s' hP m=>?_⟩⟩
 ·obtain⟨h',tk,rfl,hk'⟩:=PySem.W.moved_old e2 rfl m
  exact h0 (List.eq_nil_of_length_eq_zero (by rw[List.length_map,Array.length_toList];omega)) h' tk hk'
 ·obtain⟨h',tk,rfl,hk'⟩:=PySem.W.moved_old e2 rfl m
  obtain⟨t,rfl⟩:=intItems_at hP
  obtain⟨h1,h2⟩:=argBest_lt (numAt xs) ((intItems xs).size - 1)
  refine h h' tk _ t hk' ?_ fun a ha=>?_
  ·rw[numAt_eq];exact PySem.getD_mem (by rw[List.length_map,Array.length_toList];omega)
  ·obtain⟨j,hj,rfl⟩:=mem_getD ha
   rw[List.length_map,Array.length_toList] at hj
   rw[←numAt_eq];exact h2 j (by omega)
end
def qwF (k:Bool) (ns:List Int) (d m:Int):Prop:=(ns=[]∧m=d)∨(m∈ns∧∀y∈ns,if k=true then y≤m else m≤y)
def rMm (K:PySem.W.Frag) (k:Bool):List V→List V→Hp→VK→Prop:=fun vs zs H Q=>∃(a:Addr) (ns:List Int) (d:Int),vs=[V.ref a]∧zs=[V.int d]∧SqL K H a (ns.map V.int)∧∀m,qwF k ns d m→Q (.int m) H
def mmN (k:Bool):String:=if k=true then "max" else "min"
theorem qrB {x:V} {ws:List Value} (r:Vals [x] ws):∃w,ws=[w]∧RelV x w:=by
 cases r with
 |cons r t=>cases t;exact⟨_,rfl,r⟩
section
variable {C:Ctx} {X:Cx}
theorem qwh (hc:X.calm=true):∀k,CallRK X (.builtin (mmN k)) [Str.ofString "default"] (rMm X.K k)
 |true=>by
  intro pins s σ H vs zs us ws Q I r rz h
  obtain⟨a,ns,d,rfl,rfl,hs,q⟩:=h
  obtain⟨its,rv,hl,_⟩:=I.list hs
  obtain rfl:=Vals.ref1 r
  obtain⟨w1,rfl,rw1⟩:=qrB rz
  exact qpy (I.ok.hd hc) hl.isList rv.ints (fun e h' tk hk=>⟨.int d,H,I.kept hk,rw1,q d (.inl ⟨e,rfl⟩)⟩) fun h' tk m t' hk h1 h2=>⟨.int _,H,I.kept hk,⟨_,rfl⟩,q m (.inr ⟨h1,h2⟩)⟩
 |false=>by
  intro pins s σ H vs zs us ws Q I r rz h
  obtain⟨a,ns,d,rfl,rfl,hs,q⟩:=h
  obtain⟨its,rv,hl,_⟩:=I.list hs
  obtain rfl:=Vals.ref1 r
  obtain⟨w1,rfl,rw1⟩:=qrB rz
  exact qpp (I.ok.hd hc) hl.isList rv.ints (fun e h' tk hk=>⟨.int d,H,I.kept hk,rw1,q d (.inl ⟨e,rfl⟩)⟩) fun h' tk m t' hk h1 h2=>⟨.int _,H,I.kept hk,⟨_,rfl⟩,q m (.inr ⟨h1,fun y hy=>h2 y hy⟩)⟩
abbrev gMm (k:Bool) (go g:List Sl→RE ER):List Sl→RE ER:=fun ρ=>(go ρ).bind fun x=>(g ρ).bind fun y=>quP k x.d y.d
theorem qws {k:Bool} {ns:List Int} {d m:Int} (h:qwF k ns d m):m=qvo k ns d:=by
 rcases h with⟨rfl,rfl⟩ | ⟨h1,h2⟩
 ·rfl
 ·cases ns with
  |nil=>cases h1
  |cons n ns =>
   cases k with
   |true =>
    obtain⟨z1,z2⟩:=qlE n ns
    have a:=h2 _ z1
    have b:=z2 _ h1
    simp only[if_true] at a
    show m=qkE (n::ns)
    omega
   |false =>
    obtain⟨z1,z2⟩:=qlD n ns
    have a:=h2 _ z1
    have b:=z2 _ h1
    simp only[Bool.false_eq_true,if_false] at a
    show m=qmR (n::ns)
    omega
theorem qt1 {k:Bool} {go g:List Sl→RE ER} {σ:L2.St} {H:Hp} {Q:VK} (h:tE C (gMm k go g) σ H Q):tCKw (rMm C.G.K k) (tCons (tE C go) tNil) (tCons (tE C g) tNil) σ H Q:=by
 obtain⟨ρ,P,N,S,h⟩:=h
 refine⟨ρ,P,N,S,h.bind.mono fun x P1 N1 H1 _ a1 h1 v rv=>?_⟩
 have r1:=(S.adv a1).reg
 refine⟨ρ,P1,N1,S.adv a1,(res.bind h1).mono fun y P2 N2 H2 _ a2 h2 u ru=>?_⟩
 have r2:=(S.adv (a1.trans a2)).reg
 unfold quP at h2
 split at h2
 ·rename_i ds hd
  have w:=rv.w r1
  rw[hd] at w
  obtain⟨p,xs,rfl,z1,z2⟩:=w
  split at h2
  ·rename_i ns q2
   have e:=qbl q2 z2
   subst e
   split at h2
   ·rename_i d hy
    have wy:=ru.w r2
    rw[hy] at wy
    cases wy.int
    exact⟨p,ns,d,rfl,rfl,L2.Same.seq a2.hh z1,fun m hm=>by rw[qws hm];exact h2.val r2 rfl⟩
   ·exact h2.elim
  ·exact h2.elim
 ·exact h2.elim
theorem qtI:∀k,bootBuiltins (mmN k:Str)=some (.builtin (mmN k))
 |true=>by decide +kernel
 |false=>by decide +kernel
theorem qrf:∀k,(mmN k:Str) ≠ "__name__" ∧ ((mmN k:Str) == ("__debug__" : Str))=false:=by intro k;cases k<;>decide
theorem qu9 {k:Bool} {a d:Expr} {go g:List Sl→RE ER} {p pos kp:Pos} (hK:X.K=C.G.K) (hc:X.calm=true) (hg:Gl X (mmN k)) (hm:X.mg (mmN k)=none) (ha:PE X a (tE C go)) (hd:PE X d (tE C g)) (hs:starEach [a] X.env=[(false,eval a X.env)]) :
  PE X (.Call (.Name (mmN k) p) [a] [⟨some "default",d,kp⟩] pos) (tE C (gMm k go g)):=
 qaf (pe_callBK (qwh hc k) hg hm (qtI k) (pa_cons ha pa_nil (by rw[hs];rfl)) (pk_cons hd pk_nil) (qrf k).1 (qrf k).2 (by rw[hs];rfl) (by rw[hs];rfl) rfl rfl rfl) fun σ H Q q=>by rw[hK];exact qt1 q
end
def qxu (G:Glo) (K:PySem.W.Frag) (a:Addr) (s:List Nat) (o:Option Cm.D):Prop:=
 match o with
 |none=>PySem.W.nsIn K a (qaA s)=some none
 |some d=>∃u v,PySem.W.nsIn K a (qaA s)=some (some u)∧RelV v u∧∀P N R,Rep G P (LNb G.K P N R true) d v
def qtV (G:Glo) (K:PySem.W.Frag) (w:World) (mg:Str→Option Value) (x:Str) (t:List (List Nat × Option Cm.D)):Prop:=
 ∃a es n,mg x=some (.ref a)∧KDict K w a es n∧∀s o,t.lookup s=some o→qxu G K a s o
section
variable {C:Ctx} {X:Cx}
theorem qtd {e:Expr} {x:Str} {g:List Sl→RE ER} {t:List (List Nat × Option Cm.D)} {p pos:Pos} {n:Bool} {op:CmpOp} (hop:op=(match n with | true=>.In | false=>.NotIn)) (hg:Gl X x) (hx:(x == ("__debug__" : Str))=false) (hd:qtV C.G X.K X.w X.mg x t) (he:PE X e (tE C g)) :
  PE X (.Compare e [op] [.Name x p] pos) (tE C fun ρ=>(g ρ).bind fun z=>qqZ t n z.d):=by
 obtain⟨a,es,m,h1,h2,h3⟩:=hd
 have pn:PE X (.Name x p) (tC (.ref a)):=pe_glob hg h1 rfl hx
 have key:∀{P N H:Hp} {z:ER} {v:V} {H0:Hp} {σ:L2.St} {Q:VK} {H1:Hp},Reg C P N H→ERr C P N H H1 z v→res C σ P N H (qqZ t n z.d) (kE C H0 Q)→∃(s:Str) (r:Option Value),v=.str s∧PySem.W.nsIn X.K a s=some r∧Q (.bl (r.isSome == n)) H:=fun {P N H z v H0 σ Q H1} r hz h=>by
  unfold qqZ at h
  split at h
  ·rename_i s q
   have w:=hz.w r
   rw[q] at w
   split at h
   ·rename_i o eo
    have:=h3 s o eo
    cases o with
    |none=>exact⟨_,none,w.str,this,h.val r rfl⟩
    |some d =>
     obtain⟨u,v',e1,_,_⟩:=this
     exact⟨_,some u,w.str,e1,h.val r rfl⟩
   ·exact h.elim
  ·exact h.elim
 cases n with
 |true =>
  subst hop
  refine qaf (pe_cmpR (op_in_kd h2) he pn rfl) fun σ H Q q=>?_
  obtain⟨ρ,P,N,S,h⟩:=q
  refine⟨ρ,P,N,S,h.bind.mono fun z P1 N1 H1 _ a1 h1 v rv=>?_⟩
  obtain⟨s,r,e1,e2,e3⟩:=key (S.adv a1).reg rv h1
  exact⟨s,r,e1,rfl,e2,by simpa using e3⟩
 |false =>
  subst hop
  refine qaf (pe_cmpR (op_notIn_kd h2) he pn rfl) fun σ H Q q=>?_
  obtain⟨ρ,P,N,S,h⟩:=q
  refine⟨ρ,P,N,S,h.bind.mono fun z P1 N1 H1 _ a1 h1 v rv=>?_⟩
  obtain⟨s,r,e1,e2,e3⟩:=key (S.adv a1).reg rv h1
  exact⟨s,r,e1,rfl,e2,by simpa using e3⟩
theorem qst {e:Expr} {x:Str} {g:List Sl→RE ER} {t:List (List Nat × Option Cm.D)} {p pos:Pos} (hg:Gl X x) (hx:(x == ("__debug__" : Str))=false) (hs:PlainIx e) (hd:qtV C.G X.K X.w X.mg x t) (he:PE X e (tE C g)) :
  PE X (.Subscript (.Name x p) e pos) (tE C fun ρ=>(g ρ).bind fun z=>qsG t z.d):=by
 obtain⟨a,es,m,h1,h2,h3⟩:=hd
 refine qaf (pe_ix ix_kdict (pe_glob hg h1 rfl hx:PE X (.Name x p) (tC (.ref a))) he hs) fun σ H Q q=>?_
 obtain⟨ρ,P,N,S,h⟩:=q
 refine⟨ρ,P,N,S,h.bind.mono fun z P1 N1 H1 _ a1 h1 v rv=>?_⟩
 have r:=(S.adv a1).reg
 unfold qsG at h1
 split at h1
 ·rename_i s q
  have w:=rv.w r
  rw[q] at w
  split at h1
  ·rename_i d eo
   obtain⟨u,v',e1,e2,e3⟩:=h3 s _ eo
   exact⟨a,qaA s,v',rfl,w.str,⟨es,m,u,h2.at_,h2.lit,e1,e2⟩,h1.val r (e3 _ _ _)⟩
  ·exact h1.elim
 ·exact h1.elim
end
end Cm
namespace Cm
open PySem PySem.Spec PyProof.Rows L2
theorem qfb:∀x y:List Int,qeT x y=true→qeT y x=false
 |[],[],h=>by cases h
 |[],_::_,_=>rfl
 |_::_,[],h=>by cases h
 |a::as,b::bs,h=>by
  unfold qeT at h ⊢
  by_cases e:a=b
  ·rw[if_pos e] at h
   rw[if_pos e.symm]
   exact qfb as bs h
  ·rw[if_neg e] at h
   rw[if_neg fun q=>e q.symm]
   have:=of_decide_eq_true h
   exact decide_eq_false (by omega)
theorem qlv:∀x y z:List Int,qeT y x=false→qeT z y=false→qeT z x=false
 |[],y,z,h1,h2=>by
  cases y with
  |nil=>exact h2
  |cons b bs=>cases z with
   |nil=>cases h2
   |cons c cs=>rfl
 |a::as,[],z,h1,h2=>by cases h1
 |a::as,b::bs,[],h1,h2=>by cases h2
 |a::as,b::bs,c::cs,h1,h2=>by
  unfold qeT at h1 h2 ⊢
  by_cases e1:b=a
  ·rw[if_pos e1] at h1
   by_cases e2:c=b
   ·rw[if_pos e2] at h2
    rw[if_pos (e2.trans e1)]
    exact qlv as bs cs h1 h2
   ·rw[if_neg e2] at h2
    rw[if_neg (by omega)]
    have:=of_decide_eq_false h2
    exact decide_eq_false (by omega)
  ·rw[if_neg e1] at h1
   have h1:=of_decide_eq_false h1
   by_cases e2:c=b
   ·rw[if_neg (by omega)]
    exact decide_eq_false (by omega)
   ·rw[if_neg e2] at h2
    have h2:=of_decide_eq_false h2
    rw[if_neg (by omega)]
    exact decide_eq_false (by omega)
theorem qgD (e r:Nat→Bool) (fin:Bool) (f:Nat→Nat):∀l:List Nat,SeqAt.firstLt e r fin (l.map f)=SeqAt.firstLt (fun j=>e (f j)) (fun j=>r (f j)) fin l
 |[]=>rfl
 |j::l=>by
  show(if e (f j)=true then _ else _)=(if e (f j)=true then _ else _)
  rw[qgD e r fin f l]
theorem qgz:∀ns ms:List Int,SeqAt.firstLt (fun j=>ns.getD j 0 == ms.getD j 0) (fun j=>decide (ns.getD j 0<ms.getD j 0)) (decide (ns.length<ms.length)) (List.range (min ns.length ms.length))=qeT ns ms
 |[],[]=>rfl
 |[],m::ms=>by simp[SeqAt.firstLt,qeT]
 |n::ns,[]=>by simp[SeqAt.firstLt,qeT]
 |n::ns,m::ms=>by
  have e1:min (n::ns).length (m::ms).length=min ns.length ms.length+1:=by simp only[List.length_cons];omega
  rw[e1,List.range_succ_eq_map]
  show(if (n == m)=true then SeqAt.firstLt _ _ _ ((List.range (min ns.length ms.length)).map Nat.succ) else decide (n<m))=_
  rw[qgD]
  unfold qeT
  have ih:=qgz ns ms
  have e2:decide ((n::ns).length<(m::ms).length)=decide (ns.length<ms.length):=by simp
  rw[e2]
  by_cases e:n=m
  ·rw[if_pos (by simpa using e),if_pos e]
   exact ih
  ·rw[if_neg (by simpa using e),if_neg e]
def IsLI (h:Heap) (v:Value) (ns:List Int):Prop:=∃a its,v=.ref a∧h.IsList a its∧IntsAre its.toList ns
section
variable {prog:Program} {w:World} {A:Around} {s:Shared}
theorem qgp:∀{vs:List Value} {ns:List Int},IntsAre vs ns→∀(j:Nat) (h:j<vs.length),∃t,vs[j]=.int (ns.getD j 0) t
 |_,_,.nil,j,h=>by simp at h
 |_,_,.cons n t r,0,_=>⟨t,rfl⟩
 |_,_,.cons n t r,j+1,h=>by
  obtain⟨u,e⟩:=qgp r j (by simpa using h)
  exact⟨u,by simpa using e⟩
theorem quR {vs:List Value} {k:Value→List Int} (hu:A.units<cLine) (hp:∀v∈vs,IsLI s.heap v (k v)):SrtO.Cmp prog w A s oneType' (fun p=>p.1∈vs) (SrtO.lt2 fun v u=>qeT (k v) (k u)):=by
 intro p q hm hm'
 obtain⟨a,its,e1,l1,i1⟩:=hp _ hm
 obtain⟨b,its2,e2,l2,i2⟩:=hp _ hm'
 show wpAny (model prog w) A (keyLt' oneType' p.1 q.1) (fun r s'=>s'=s∧r=qeT (k p.1) (k q.1)) (fun _ _=>False) s
 generalize k p.1=ns at i1 ⊢
 generalize k q.1=ms at i2 ⊢
 rw[e1,e2,keyLt'_oneType,oneLt'_eq]
 simp only[if_true]
 refine wpAny_bind (wpAny_cRoomFor hu ?_)
 have n1:its.size=ns.length:=by have:=i1.length;simpa using this
 have n2:its2.size=ms.length:=by have:=i2.length;simpa using this
 refine wpAny_bind (wpAny_callSpecialIfBound?_slot l1.typeIs F.slot_list_lt (SeqAt.call_list_lt (e:=fun j=>ns.getD j 0 == ms.getD j 0) (r:=fun j=>decide (ns.getD j 0<ms.getD j 0)) l1 l2 (fun j h1 h2=>?_) (fun j h1 h2 _=>?_) ?_))
 ·obtain⟨t,q1⟩:=qgp i1 j (by simpa using h1)
  obtain⟨u,q2⟩:=qgp i2 j (by simpa using h2)
  rw[show its[j]=_ from q1,show its2[j]=_ from q2]
  exact SeqAt.EqAt.int_int _ t _ u
 ·obtain⟨t,q1⟩:=qgp i1 j (by simpa using h1)
  obtain⟨u,q2⟩:=qgp i2 j (by simpa using h2)
  rw[show its[j]=_ from q1,show its2[j]=_ from q2]
  exact fun prog w E Q h=>HT.rcLt_int _ s _ t _ u prog w E Q h
 ·rw[n1,n2,qgz]
  exact wpAny_truthy_bool ⟨rfl,rfl⟩
theorem qla {a:Addr} {vs:List Value} {k:Value→List Int} (hu:A.units<cLine) (h2:2≤vs.length) (hp:∀v∈vs,IsLI s.heap v (k v)) (ha:∀b,Value.ref b∈vs→b≠a):SrtO.SortableO prog w A s a vs fun v u=>qeT (k v) (k u):=by
 intro h' keep
 have hp':∀v∈vs,IsLI h' v (k v):=fun v hm=>by
  obtain⟨b,its,e,⟨o,ho,hc,n,hd⟩,hi⟩:=hp v hm
  subst e
  exact⟨b,its,rfl,⟨o,keep b o (ha b hm) ho,hc,n,hd⟩,hi⟩
 refine⟨oneType',fun Q E hq=>?_,quR (s:={ s with heap:=h' }) hu hp'⟩
 refine PySem.W.kas_kind (T:=.type "list") h2 (fun v hv=>?_) (by decide) (by decide) hq
 obtain⟨b,its,e,⟨o,ho,hc,n,hd⟩,hi⟩:=hp' v hv
 subst e
 exact fun A Q E s k q=>wpAny_typeOf_ref (k _ _ ho) (by rw[hc];exact q)
theorem qp4 (k:Value→List Int):SrtO.Swo fun v u=>qeT (k v) (k u):=⟨fun x y=>qfb (k x) (k y),fun x y z=>qlv (k x) (k y) (k z)⟩
theorem qmn:∀{vs:List Value} {ns ms:List Int},IntsAre vs ns→IntsAre vs ms→ns=ms
 |_,_,_,.nil,h=>by cases h;rfl
 |_,_,_,.cons n t r,h=>by cases h with
  |cons _ _ r'=>rw[qmn r r']
theorem IsLI.inj {h:Heap} {v:Value} {ns ms:List Int} (h1:IsLI h v ns) (h2:IsLI h v ms):ns=ms:=by
 obtain⟨a,its,rfl,⟨o,ho,hc,n,hd⟩,hi⟩:=h1
 obtain⟨b,its2,e,⟨o2,ho2,hc2,n2,hd2⟩,hi2⟩:=h2
 cases e
 rw[ho] at ho2;cases ho2
 rw[hd] at hd2;cases hd2
 exact qmn hi hi2
open Classical in
noncomputable def qtZ (h:Heap) (v:Value):List Int:=if q:∃ns,IsLI h v ns then q.choose else []
theorem qsu {h:Heap} {v:Value} {ns:List Int} (q:IsLI h v ns):qtZ h v=ns:=by
 unfold qtZ
 rw[dif_pos ⟨ns,q⟩]
 exact IsLI.inj (Exists.choose_spec (⟨ns,q⟩:∃ns,IsLI h v ns)) q
end
def qgu (K:PySem.W.Frag) (H:Hp):List V→List (List Int)→Prop
 |[],[]=>True
 |x::xs,n::ns=>(∃t,x=.ref t∧SqL K H t (n.map V.int))∧qgu K H xs ns
 |_,_=>False
def qox (K:PySem.W.Frag):List V→Hp→VK→Prop:=fun vs H Q=>∃(a:Addr) (xs:List V) (ls:List (List Int)),vs=[V.ref a]∧SqL K H a xs∧qgu K H xs ls ∧
 ∀ys ms p,ys.length=ms.length→(ys.zip ms).Perm (xs.zip ls)→(ms.Pairwise fun x y=>qeT y x=false)→H p=none→Q (.ref p) (upd H p (.lst ys))
theorem qkr {K:PySem.W.Frag} {H:Hp}:∀{xs:List V} {ls:List (List Int)},qgu K H xs ls→xs.length=ls.length
 |[],[],_=>rfl
 |[],_::_,h=>h.elim
 |_::_,[],h=>h.elim
 |_::xs,_::ls,h=>by simp[qkr h.2]
theorem qlI {X:Cx} (hu:X.A.units+65<cLine):CallR X (.builtin "sorted") (qox X.K):=by
 intro pins s σ H vs us Q I r h
 obtain⟨a,xs,ls,rfl,hs,hx,q⟩:=h
 obtain⟨its,rv,hl,hz⟩:=I.list hs
 rw[Vals.ref1 r]
 have key:∀{xs:List V} {ls:List (List Int)} {its:List Value},Vals xs its→qgu X.K H xs ls→(∀v∈its,IsLI s.heap v (qtZ s.heap v))∧its.map (qtZ s.heap)=ls∧its.map backV=xs∧∀v∈its,∃a,v=Value.ref a:=by
  intro xs
  induction xs with
  |nil =>
   intro ls its rv hx
   cases rv
   cases ls with
   |nil=>exact⟨by simp,rfl,rfl,by simp⟩
   |cons _ _=>exact hx.elim
  |cons x xs ih =>
   intro ls its rv hx
   cases rv with
   |cons r1 r2 =>
    cases ls with
    |nil=>exact hx.elim
    |cons n ns =>
     obtain⟨⟨t,rfl,ht⟩,hx2⟩:=hx
     obtain⟨its2,rv2,pl,_⟩:=I.list ht
     cases r1
     have li:IsLI s.heap (.ref t) n:=⟨t,its2.toArray,rfl,pl.isList,by simpa using rv2.ints⟩
     obtain⟨q1,q2,q3,q4⟩:=ih r2 hx2
     have e:=qsu li
     refine⟨fun v hv=>?_,by rw[List.map_cons,e,q2],by rw[List.map_cons,q3];rfl,fun v hv=>?_⟩
     ·rcases List.mem_cons.mp hv with z | z
      ·rw[z,e];exact li
      ·exact q1 v z
     ·rcases List.mem_cons.mp hv with z | z
      ·exact⟨t,z⟩
      ·exact q4 v z
 obtain⟨k1,k2,k3,k4⟩:=key rv hx
 refine SrtO.sorted_ord (qp4 (qtZ s.heap)) hl.isList (by rw[←rv.length];exact hz) (fun h2 h₁ d hd kp=>?_) fun out h1 h2=>?_
 ·refine qla (s:={ s with heap:=h₁ }) (by show X.A.units+1+1<cLine;omega) h2 (fun v hv=>?_) fun b hb=>?_
  ·obtain⟨b,its2,e,⟨o,ho,hc,n,hdd⟩,hi⟩:=k1 v hv
   exact⟨b,its2,e,⟨o,(kp b o ho).2,hc,n,hdd⟩,hi⟩
  ·obtain⟨b',its2,e,⟨o,ho,_⟩,_⟩:=k1 _ hb
   cases e
   exact(kp b o ho).1
 ·have h3:∀u∈out,∃a,u=Value.ref a:=fun u hu=>k4 u (h2.perm.mem_iff.mp hu)
  obtain⟨ep,he'⟩:=PyProof.Rows.sortedAll_at s.heap its out.toArray
  have hlen:(out.map backV).length≤sizeLine:=by
   rw[List.length_map,h2.perm.length_eq,←rv.length];exact hz
  refine⟨.ref _,upd H (s.heap.objs.size+1) (.lst (out.map backV)),I.laid (t':=s.toks) (fun _ _=>PyProof.Rows.sortedAll_old) (Nat.le_succ _) ⟨hlen,out,ep,vals_back h3,he'⟩,rfl,q _ (out.map (qtZ s.heap)) _ (by simp) ?_ ?_ (I.hok.fresh (Nat.le_succ _))⟩
  ·rw[←k2,←k3,List.zip_map',List.zip_map']
   exact h2.perm.map _
  ·exact List.pairwise_map.mpr h1
theorem qjV:∀x y:List Int,qeT x y=false→qeT y x=false→x=y
 |[],[],_,_=>rfl
 |[],_::_,h,_=>by cases h
 |_::_,[],_,h=>by cases h
 |a::as,b::bs,h1,h2=>by
  unfold qeT at h1 h2
  by_cases e:a=b
  ·rw[if_pos e] at h1
   rw[if_pos e.symm] at h2
   rw[e,qjV as bs h1 h2]
  ·rw[if_neg e] at h1
   rw[if_neg fun q=>e q.symm] at h2
   have:=of_decide_eq_false h1
   have:=of_decide_eq_false h2
   omega
theorem qkf:∀{l m:List (List Int)},l.Perm m→(l.Pairwise fun x y=>qeT y x=false)→(m.Pairwise fun x y=>qeT y x=false)→l=m
 |[],m,h,_,_=>(List.Perm.eq_nil h.symm).symm
 |x::l,[],h,_,_=>absurd h.length_eq (by simp)
 |x::l,y::m,h,hl,hm=>by
  have rf:∀z:List Int,qeT z z=false:=fun z=>by
   cases e:qeT z z with
   |false=>rfl
   |true=>rw[qfb z z e] at e;cases e
  have h1:qeT x y=false:=by
   rcases List.mem_cons.mp (h.mem_iff.mp (List.mem_cons_self (a:=x) (l:=l))) with e | hx
   ·rw[e];exact rf y
   ·exact(List.pairwise_cons.mp hm).1 x hx
  have h2:qeT y x=false:=by
   rcases List.mem_cons.mp (h.mem_iff.mpr (List.mem_cons_self (a:=y) (l:=m))) with e | hy
   ·rw[e];exact rf x
   ·exact(List.pairwise_cons.mp hl).1 y hy
  have e:=qjV x y h1 h2
  subst e
  rw[qkf h.cons_inv (List.pairwise_cons.mp hl).2 (List.pairwise_cons.mp hm).2]
theorem qg5 (x:List Int):∀l:List (List Int),(qtX x l).Perm (x::l)
 |[]=>List.Perm.refl _
 |y::ys=>by
  unfold qtX
  split
  ·exact((qg5 x ys).cons y).trans (List.Perm.swap x y ys)
  ·exact List.Perm.refl _
theorem qgF:∀l:List (List Int),(qf0 l).Perm l
 |[]=>List.Perm.refl _
 |x::xs=>(qg5 x _).trans ((qgF xs).cons x)
theorem qmi (x:List Int):∀{l:List (List Int)},(l.Pairwise fun x y=>qeT y x=false)→((qtX x l).Pairwise fun x y=>qeT y x=false)
 |[],_=>List.pairwise_singleton _ _
 |y::ys,h=>by
  have hc:=List.pairwise_cons.mp h
  unfold qtX
  split
  ·rename_i q
   refine List.pairwise_cons.mpr ⟨fun z hz=>?_,qmi x hc.2⟩
   rcases List.mem_cons.mp ((qg5 x ys).mem_iff.mp hz) with e | e
   ·rw[e];exact qfb y x q
   ·exact hc.1 z e
  ·rename_i q
   have q:qeT y x=false:=by simpa using q
   refine List.pairwise_cons.mpr ⟨fun z hz=>?_,h⟩
   rcases List.mem_cons.mp hz with e | e
   ·rw[e];exact q
   ·exact qlv x y z q (hc.1 z e)
theorem qh5:∀l:List (List Int),(qf0 l).Pairwise fun x y=>qeT y x=false
 |[]=>.nil
 |x::xs=>qmi x (qh5 xs)
theorem ql0:∀{ds:List Cm.D} {ns:List Int},qaU ds=some ns→ds=ns.map Cm.D.int
 |[],ns,h=>by cases h;rfl
 |.int i::ds,ns,h=>by
  unfold qaU at h
  cases e:qaU ds with
  |none=>rw[e] at h;cases h
  |some ms=>rw[e] at h;cases h;rw[ql0 e];rfl
 |.non::_,_,h=>by cases h
 |.bl _::_,_,h=>by cases h
 |.str _::_,_,h=>by cases h
 |.lst _::_,_,h=>by cases h
 |.tup _::_,_,h=>by cases h
 |.ins _ _::_,_,h=>by cases h
 |.exc _ _::_,_,h=>by cases h
theorem qo0:∀{ds:List Cm.D} {ls:List (List Int)},qqH ds=some ls→ds=ls.map liV
 |[],ls,h=>by cases h;rfl
 |d::ds,ls,h=>by
  unfold qqH at h
  cases d with
  |lst es =>
   have h:(match qaU es with
    |some n=>(qqH ds).map (n :: ·)
    |none=>none)=some ls:=h
   cases e:qaU es with
   |none=>rw[e] at h;cases h
   |some ns =>
    rw[e] at h
    cases e2:qqH ds with
    |none=>rw[e2] at h;cases h
    |some ms =>
     rw[e2] at h
     cases h
     rw[qo0 e2,ql0 e]
     rfl
  |non=>cases h
  |bl _=>cases h
  |int _=>cases h
  |str _=>cases h
  |tup _=>cases h
  |ins _ _=>cases h
  |exc _ _=>cases h
section
variable {C:Ctx} {X:Cx}
theorem qih {P N H:Hp} {b:Bool} (r:Reg C P N H):∀{ls:List (List Int)} {xs:List V},RepsB C P N b (ls.map liV) xs→qgu C.G.K H xs ls∧∀p∈xs.zip ls,RepB C P N b (liV p.2) p.1
 |[],xs,h=>by cases h;exact⟨trivial,by simp⟩
 |n::ls,xs,⟨v,u,e,h1,h2⟩=>by
  subst e
  obtain⟨q1,q2⟩:=qih r h2
  obtain⟨a,ys,rfl,z1,z2⟩:=id h1
  have:=Reps.ints.mp z2
  subst this
  refine⟨⟨⟨a,rfl,LNb.seq r.pH r.nH r.rH _ _ z1⟩,q1⟩,fun p hp=>?_⟩
  rw[List.zip_cons_cons] at hp
  rcases List.mem_cons.mp hp with e | e
  ·rw[e];exact h1
  ·exact q2 p e
theorem qgC {P N:Hp} {b:Bool}:∀{ms:List (List Int)} {ys:List V},ys.length=ms.length→(∀p∈ys.zip ms,RepB C P N b (liV p.2) p.1)→RepsB C P N b (ms.map liV) ys
 |[],[],_,_=>rfl
 |[],_::_,h,_=>by simp at h
 |_::_,[],h,_=>by simp at h
 |m::ms,y::ys,h,hp=>⟨y,ys,rfl,hp (y,m) (by simp),qgC (by simpa using h) fun p q=>hp p (by rw[List.zip_cons_cons];exact List.mem_cons_of_mem _ q)⟩
theorem qty {a:Expr} {g:List Sl→RE ER} {p pos:Pos} (hK:X.K=C.G.K) (hu:X.A.units+65<cLine) (hg:Gl X "sorted") (hm:X.mg "sorted" = none) (ha:PE X a (tE C g)) (hs:starEach [a] X.env=[(false,eval a X.env)]) :
  PE X (.Call (.Name "sorted" p) [a] [] pos) (tE C fun ρ=>(g ρ).bind fun x=>qtC x.d x.b):=
 qaf (qgd (qlI hu) PyProof.Rows.boot_sorted (.inl ⟨_,rfl⟩) hg hm (pa_cons ha pa_nil (by rw[hs];rfl)) (by decide) (by decide) (by rw[hs];rfl) (by rfl)) fun σ H Q q=>by
  obtain⟨ρ,P,N,S,h⟩:=q
  refine⟨ρ,P,N,S,h.bind.mono fun x P1 N1 H1 _ a1 h1 v rv=>?_⟩
  have r1:=(S.adv a1).reg
  unfold qtC at h1
  split at h1
  ·rename_i ds q
   split at h1
   ·rename_i ls e
    have w:=rv.w r1
    rw[q] at w
    obtain⟨l,xs,rfl,z1,z2⟩:=w.lst
    have:=qo0 e
    subst this
    obtain⟨k1,k2⟩:=qih r1 z2
    refine⟨l,xs,ls,rfl,by rw[hK];exact z1,by rw[hK];exact k1,fun ys ms p hl hp hm hn=>?_⟩
    have e1:ms.Perm ls:=by
     have:=hp.map Prod.snd
     rwa [List.map_snd_zip (by omega),List.map_snd_zip (by have:=qkr k1;omega)] at this
    have e2:ms=qf0 ls:=qkf (e1.trans (qgF ls).symm) hm (qh5 ls)
    refine h1.fre r1 a1.hh ?_ hn
    rw[←e2]
    exact qgC hl fun p hp2=>k2 p (hp.mem_iff.mp hp2)
   ·exact h1.elim
  ·exact h1.elim
end
end Cm
set_option maxHeartbeats 3200000
namespace Cm
open PySem PySem.Spec PyProof.Rows L2
def qwK (w:World):Obj:={ cls:=.type "set",dict:=none,data:=.set #[] 0 (.fresh 0 0 (!w.params.followText "set-order")) }
section
variable {P:Program} {w:World} {A:Around} {E:Value→Shared→Prop} {s:Shared}
abbrev Kp (h h':Heap):Prop:=∀b o,h.get? b=some o→h'.get? b=some o
theorem qv0 {l:Addr} {its:Array Value} (ns:List Int) {Q:Value→Shared→Prop} (hh:A.handled=none) (hl:s.heap.IsList l its)
  (hi:IntsAre its.toList ns) (hb:ns.length+1<scanBound)
  (fin:∀h' tk c,SetR w h' s.heap.objs.size (fun j=>decide (j∈ns)) c→c≤ns.length→Kp s.heap h'→Q (.ref s.heap.objs.size) { s with heap:=h',toks:=tk }) :
  wpAny (model P w) A (call (.type "set") [.ref l]) Q E s:=by
 have size:its.size=ns.length:=by
  rw[←Array.length_toList];exact IntsAre.length hi
 have tcs:=F.called_set
 obtain⟨c,tl,m0⟩:=tcs.mro
 have m1:=tcs.made
 have m2:=tcs.sub
 have m3:=tcs.notType
 have m4:=tcs.canCreate
 have m5:=F.typeCall_set_1 (.ref l)
 refine wpAny_call (codeAny_of_tree ?_)
 show wpAny _ _ (callAny (.type "set") _) _ _ _
 refine wpAny_pure ⟨Code.quiet_builtin _ (by kernel_rfl),codeAny_builtin F.entry_type_call ?_⟩
 rw[Around.under_plain (weight_type_call_type "set" [.ref l] []) rfl]
 repeat (any_goals (first | assumption | wp_step))
 let N:=s.heap.objs.size
 let S1:Shared:={ s with heap:=s.heap.push (qwK w) }
 refine codeAny_mono (code_set_led1 (.ref l) (E:=E) (Q₁:=fun o t=>o=.ref N∧t=S1) ⟨rfl,rfl⟩) fun r t hr=>?_
 cases r with
 |error e=>exact hr
 |ok fl =>
  cases fl with
  |ret ob =>
   obtain⟨rfl,rfl⟩:=hr
   have born:S1.heap.get? N=some (qwK w):=Heap.get?_push_size _ rfl
   have ty:S1.TypeIs (.ref N) "set":=⟨_,born,rfl⟩
   have i1:=tcs.init.lookup
   have i2:=tcs.init.bind (.ref N)
   repeat (any_goals (first | assumption | wp_step))
   refine codeAny_mono (codeAny_call_builtin (R:=wants (fun r t=>r=.none∧∃h' tk c,t={ s with heap:=h',toks:=tk }∧SetR w h' N (fun j=>decide (j∈ns)) c∧c≤ns.length∧Kp s.heap h') E) tcs.init.plain F.entry_set_init (check_set_init_1 ty ?_)) fun r2 t2 hr2=>?_
   ·obtain⟨ol,hol,hcl,nl,hdl⟩:=hl
    obtain⟨oc,od,oda,osl⟩:=ol
    dsimp only at hcl hdl
    subst hcl;subst hdl
    have up:S1.heap.get? l=some { cls:=.type "list",dict:=od,data:=.seq its nl,slots:=osl }:=Heap.get?_push_of_some _ hol
    have f1:=F.sub_list_set
    have f2:=F.sub_list_frozenset
    have f3:(Value.type "list" == Value.type "dict")=false:=rfl
    have il:S1.heap.IsList l its:=⟨_,up,rfl,nl,rfl⟩
    have lt:l<N:=Heap.lt_size hol
    have sz:S1.heap.objs.size=N+1:=Heap.size_push ..
    unfold Builtin.«set.__init__» noKeywords Builtin.Frozenset.updateFrom
    generalize hPI:pyIter=PI
    wp_walk
    subst hPI
    refine wpAny_pyIter_list il ?_
    refine wpAny_bind (wpAny_runValue ?_)
    have h3:A.in1.in1.in1.handled=none:=by simp[hh]
    have ne:l≠S1.heap.objs.size:=by rw[sz];exact Nat.ne_of_lt (Nat.lt_succ_of_lt lt)
    have off:N∉[S1.heap.objs.size,l]:=by
     rw[sz];simp only[List.mem_cons,List.not_mem_nil,or_false,not_or]
     exact⟨Nat.ne_of_lt (Nat.lt_succ_self _),Nat.ne_of_gt lt⟩
    have vals:∀i v,its[i]? = some v→∃k t,ns[i]? = some k∧v=Value.int k t:=fun i v hv=>by
     have lt2:i<ns.length:=size ▸ (Array.getElem?_eq_some_iff.mp hv).1
     obtain⟨t,e⟩:=IntsAre.int_at hi i v (by rwa [Array.getElem?_toList])
     rw[List.getD_eq_getElem?_getD,List.getElem?_eq_getElem lt2] at e
     exact⟨ns[i],t,List.getElem?_eq_getElem lt2,e⟩
    refine set_update_ints ((Walks.list h3 _ l ne its).toS) N off ns size hb vals its.size 0 _ rfl (Nat.zero_le _) ⟨⟨_,Heap.get?_push_size _ rfl,rfl,rfl⟩,il.push _⟩ ?z0 ?zR
    case z0=>exact⟨0,Nat.le_refl 0,setR_new_at (Heap.get?_push_of_some _ born)⟩
    case zR =>
     intro t c' mv le R
     obtain⟨h2,g2,d2,k2,o2⟩:=t
     have eg:g2=s.gens:=mv.gens
     have ed:d2=s.drawn:=mv.drawn
     have eo:o2=s.os:=mv.os
     subst eg ed eo
     rw[size] at le
     show wpAny _ _ _ _ _ _
     refine wpAny_pure ?_
     show wpAny _ _ (ret Value.none) _ _ _
     refine wpAny_pure ⟨rfl,h2,k2,c',rfl,R,le,fun b o e=>?_⟩
     have b0:b<N:=Heap.lt_size e
     refine mv.heap b o ?_ (Heap.get?_push_of_some _ (Heap.get?_push_of_some _ e))
     rw[sz]
     simp only[List.mem_cons,List.not_mem_nil,or_false,not_or]
     exact⟨Nat.ne_of_lt b0,Nat.ne_of_lt (Nat.lt_succ_of_lt b0)⟩
   ·cases r2 with
    |error e=>exact hr2
    |ok f2 =>
     cases f2 with
     |ret r =>
      obtain⟨rfl,h2,tk,c2,rfl,R,le,kp⟩:=hr2
      repeat (any_goals (first | assumption | wp_step))
      exact fin _ _ _ R le kp
     |_=>exact hr2.elim
  |_=>exact hr.elim
end
section
variable {C:Ctx} {X:Cx}
theorem qqx {a:Expr} {g:List Sl→RE ER} {p p2 q pos:Pos} (hK:X.K=C.G.K) (hc:X.calm=true) (hg:Gl X "sorted") (hm:X.mg "sorted" = none) (hg2:Gl X "set") (hm2:X.mg "set" = none) (ha:PE X a (tE C g))
  (na:qad a=true):PE X (.Call (.Name "sorted" p) [.Call (.Name "set" p2) [a] [] q] [] pos) (tE C fun ρ=>(g ρ).bind fun x=>qoo x.d):=by
 have na:=qab (es:=[]) (env:=X.env) na
 refine⟨fun pins s σ H Q I h=>Call_ (ld_blt I hg hm PyProof.Rows.boot_sorted (PyProof.Rows.callWith_builtin1 (PyProof.Rows.args_cons ?_ rfl) rfl rfl))⟩
 refine Call_ (ld_blt I hg2 hm2 PyProof.Rows.boot_set (PyProof.Rows.callWith_type1 (PyProof.Rows.args_cons ?_ na) na rfl))
 have body:tE C g σ H fun x H1=>∃(l:Addr) (ns:List Int),x=V.ref l∧SqL X.K H1 l (ns.map V.int)∧ns.length<64∧∀p,H1 p=none→Q (.ref p) (upd H1 p (.lst ((qmW ns).map V.int))):=by
  obtain⟨ρ,P,N,S,h⟩:=h
  refine⟨ρ,P,N,S,h.bind.mono fun x P1 N1 H1 _ a1 h1 v rv=>?_⟩
  have r1:=(S.adv a1).reg
  unfold qoo at h1
  split at h1
  ·rename_i ds hd
   split at h1
   ·rename_i ns hn
    have w:=rv.w r1
    rw[hd] at w
    obtain⟨l,xs,rfl,z1,z2⟩:=w
    rw[qd6] at h1
    split at h1
    ·rename_i hl
     rw[Nat.ble_eq] at hl
     refine⟨l,ns,rfl,by rw[hK,←qbl hn z2];exact z1,by omega,fun p hp=>?_⟩
     exact h1.fre r1 a1.hh (Reps.ints.mpr rfl) hp
    ·exact h1.elim
   ·exact h1.elim
  ·exact h1.elim
 refine thn (ha.run pins s σ H _ I body) fun v s1 ⟨x,H1,I1,r1,q1⟩=>PyProof.Rows.args_nil ?_
 obtain⟨l,ns,rfl,hq,hl,q1⟩:=q1
 cases r1
 obtain⟨its,r,pl,_⟩:=I1.list hq
 refine qv0 ns (I1.ok.hd hc) pl.isList (by simpa using r.ints) (by unfold scanBound;omega) fun h' tk c R le kp=>PyProof.Rows.args_nil ?_
 have I2:Inv X pins σ H1 { s1 with heap:=h',toks:=tk }:=I1.kept kp
 refine sorted_set (s:={ s1 with heap:=h',toks:=tk }) R (I2.ok.hd hc) (by omega) fun s' p out c ms k g o hp hgt hi hs hmm hln=>?_
 have fresh:H1 p=none:=I2.hok.fresh hp
 have em:ms=qmW ns:=qmz hs (qml ns) fun k=>by rw[hmm,qmv,decide_eq_true_eq]
 subst em
 have fits:((qmW ns).map V.int).length≤sizeLine:=by rw[List.length_map,hln,sizeLine_eq];omega
 have J:Inv X pins σ (upd H1 p (.lst ((qmW ns).map V.int))) { { s1 with heap:=h',toks:=tk } with heap:=s'.heap,gens:=s'.gens,drawn:=s'.drawn,toks:=s'.toks }:=
  I2.call (ch:=[]) (Un.laid k hp fresh) (I2.hok.laid k hp ⟨fits,out.toList,c,vals_of_ints hi,hgt⟩) (by rw[g];exact I2.bare) (fun _ z=>nomatch z)
 have same:s'={ { s1 with heap:=h',toks:=tk } with heap:=s'.heap,gens:=s'.gens,drawn:=s'.drawn,toks:=s'.toks }:=by
  obtain⟨a1,a2,a3,a4,a5⟩:=s'
  have o:a5=s1.os:=o
  subst o;rfl
 rw[same]
 exact⟨.ref p,_,J,rfl,q1 p fresh⟩
theorem qjT {z:List Nat}:∀{ss:List (List Nat)} {j:Nat},qrq z ss=some j→ss[j]? = some z∧∀m,m<j→ss[m]? ≠ some z
 |[],_,h=>by cases h
 |s::ss,j,h=>by
  unfold qrq at h
  split at h
  ·rename_i e
   cases h;subst e
   exact⟨rfl,fun m hm=>absurd hm (Nat.not_lt_zero m)⟩
  ·rename_i ne
   cases e:qrq z ss with
   |none=>rw[e] at h;cases h
   |some i =>
    rw[e] at h
    cases h
    obtain⟨h1,h2⟩:=qjT e
    refine⟨by simpa using h1,fun m hm=>?_⟩
    cases m with
    |zero=>intro q;simp at q;exact ne q
    |succ m=>intro q;exact h2 m (Nat.lt_of_succ_lt_succ hm) (by simpa using q)
theorem qn0 {a b:List Nat} (h:qaA a=qaA b):a=b:=by
 have:=congrArg (fun s:Str=>s.cps.toList) h
 simpa[qaA] using this
theorem qnj {zs:List D} {ss:List (List Nat)} (h:qfm zs=some ss):zs=ss.map D.str:=by
 induction zs generalizing ss with
 |nil=>cases h;rfl
 |cons d ds ih =>
  cases d<;>simp only[qfm] at h<;>try cases h
  rename_i x
  cases e:qfm ds with
  |none=>rw[e] at h;cases h
  |some rs =>
   rw[e] at h
   cases h
   rw[ih e];rfl
theorem ql6 {P:Hp} {LN:Addr→List V→Prop} {G:Glo}:∀{ss:List (List Nat)} {xs:List V},Reps G P LN (ss.map D.str) xs→xs=(ss.map qaA).map V.str
 |[],_,h=>h
 |s::ss,_,⟨v,r,e,h1,h2⟩=>by
  rw[e,ql6 h2]
  cases h1;rfl
theorem qpH {x:Str} {c:D} {ss:List (List Nat)} {u:Value} {w:V} {a:Expr} {g:List Sl→RE ER} {p apos pos:Pos} (hK:X.K=C.G.K) (hg:Gl X x) (hm:X.mg x=some u) (hr:RelV w u) (hdb:(x == ("__debug__" : Str))=false) (h3:∀P N,RepB C P N true c w) (h4:WrT C.G w)
  (hc:qpt c=some ss) (ha:PE X a (tE C g)) (hs:qad a=true) (hline:(apos.endLine == pos.line)=true) :
  PE X (.Call (.Attribute (.Name x p) "index" apos) [a] [] pos) (tE C fun ρ=>(g ρ).bind fun y=>qnw ss y.d):=
 qaf (pe_bm PySem.F.plainAttrs_tuple PySem.F.slot_tuple_index PySem.F.type_tuple_index mt_tup_index (pe_glob hg hm hr hdb) (pa_cons ha pa_nil (qab hs)) rfl (by rw[qab hs];rfl) hline (qab hs) rfl) fun σ H Q q=>by
  obtain⟨ρ,P,N,S,h⟩:=q
  cases c with
  |tup zs =>
   have hz:=qnj (show qfm zs=some ss from hc)
   subst hz
   obtain⟨t,xs,rfl,k1,k2⟩:=h3 (fun _=>none) (fun _=>none)
   have k2:=ql6 k2
   subst k2
   obtain⟨o,o1,o2,o3⟩:=h4 t rfl
   have kt:∀H:Hp,SqT C.G.K H t ((ss.map qaA).map V.str):=fun H=>by
    rcases k1 with(z | ⟨_,z⟩) | z
    ·cases z
    ·cases z
    ·exact .inr z
   refine⟨.inr (.inl ⟨rfl,o,hK ▸ o1,o2,o3⟩),ρ,P,N,S,h.bind.mono fun y P2 N2 H2 _ a2 h2 v rv=>?_⟩
   have r2:=(S.adv a2).reg
   have w2:=rv.w r2
   unfold qnw at h2
   split at h2
   ·rename_i z q2
    rw[q2] at w2
    cases w2.str
    split at h2
    ·rename_i j e
     obtain⟨e1,e2⟩:=qjT e
     refine⟨t,ss.map qaA,qaA z,j,rfl,rfl,hK ▸ kt H2,by rw[List.getElem?_map,e1];rfl,fun m hm q=>?_,h2.val r2 rfl⟩
     rw[List.getElem?_map] at q
     cases em:ss[m]? with
     |none=>rw[em] at q;cases q
     |some y =>
      rw[em] at q
      have:qaA y=qaA z:=by simpa using q
      exact e2 m hm (by rw[em,qn0 this])
    ·exact h2.elim
   ·exact h2.elim
  |_=>cases hc
end
end Cm
namespace Cm
open PySem PySem.Spec PyProof.Rows L2
section
variable {prog:Program} {w:World} {A:Around} {E:Value→Shared→Prop} {s:Shared} {R:Result→Shared→Prop}
theorem qm2 {it l:Addr} {items:Array Value} {G:Array GenState→Array GenState→Prop} (W:WalksS prog w A.in1 it [it,l] [it] G items.size (fun i v=>items[items.size - 1 - i]? = some v) (fun i s=>i≤items.size∧s.heap.IsRevIter it l ((items.size:Int) - 1 - (i:Int))∧s.heap.IsList l items))
  (S:Addr) (res:Value) (c₀:Nat) (hit:s.heap.IsRevIter it l ((items.size:Int) - 1)) (hl:s.heap.IsList l items) (hSf:S∉[it,l])
  (hS:s.heap.get? S=some { cls:=.type "list",data:=.seq #[] c₀ }) (hn:items.size≤sizeLine)
  (hR:∀s' acc' c',Moved (S::[it]) G s s'→s'.heap.get? S=some { cls:=.type "list",dict:=none,data:=.seq acc' c',slots:=#[] }→ItemsOf (fun i v=>items[items.size - 1 - i]? = some v) acc' items.size→R (.ok (.ret res)) s') :
  wpAny (model prog w) A.in1 (Builtin.List.listExtendWith (.ref S) (.ref it) res)
   (fun fin s'=>match fin with | .done f=>R (.ok f) s' | .again c'=>c'.quiet=true∧codeAny (model prog w) A c' R s') (fun e s'=>R (.error e) s') s:=by
 have hSI:S≠it:=fun e=>hSf (by rw[e];simp)
 have hT:s.TypeIs (.ref it) "list_reverseiterator":=hit.typeIs
 have e0:((items.size:Nat):Int) - 1 - ((0:Nat):Int)=(items.size:Int) - 1:=by omega
 unfold Builtin.List.listExtendWith
 refine wpAny_bind (wpAny_typeOf hT ?_)
 have h1:Builtin.List.listSameRef (.ref S) (.ref it)=false:=by simp[Builtin.List.listSameRef,hSI]
 rw[if_neg (by rw[h1];decide)]
 refine wpAny_bind (wpAny_pyIter_revIter hit ?_)
 refine wpAny_bind (wpAny_holding ?_)
 unfold Builtin.List.listLengthHint
 refine wpAny_bind (wpAny_specialOf hT RT.nolen_lri ?_)
 show wpAny _ A.in1 (specialOf (Value.ref it) (Str.ofString "__length_hint__") >>= _) _ _ _
 refine wpAny_bind (wpAny_specialOf hT RT.hint_lri ?_)
 generalize hid:("list_reverseiterator.__length_hint__" : String)=id0
 wp_delta
 rw[show splitId id0=some ("list_reverseiterator","__length_hint__") from by subst hid;decide +kernel]
 subst hid
 refine wpAny_bind (wpAny_isInstance (b:=true) hT (by rw[isSubtype_type];kernel_rfl) ?_)
 refine wpAny_pure ?_
 rw[if_neg (by decide)]
 refine wpAny_pure ⟨plainId_quiet F.plain_extend_loop _,codeAny_extend_loopS W hn _ hSf _ items.size 0 _ _ _ rfl (Nat.zero_le _) ⟨Nat.zero_le _,by rw[e0];exact hit,hl⟩ hS (ItemsOf.nil _) fun s' acc' c' hm hS' hacc=>?_⟩
 exact hR s' acc' c' hm hS' hacc
theorem qiY {it l:Addr} {items:Array Value} {G:Array GenState→Array GenState→Prop} (W:WalksS prog w A.in1 it [it,l] [it] G items.size (fun i v=>items[items.size - 1 - i]? = some v) (fun i s=>i≤items.size∧s.heap.IsRevIter it l ((items.size:Int) - 1 - (i:Int))∧s.heap.IsList l items))
  (S:Addr) (hit:s.heap.IsRevIter it l ((items.size:Int) - 1)) (hl:s.heap.IsList l items) (hSf:S∉[it,l])
  (hS:s.heap.get? S=some { cls:=.type "list",data:=.seq #[] }) (hn:items.size≤sizeLine)
  (hR:∀s' acc' c',Moved (S::[it]) G s s'→s'.heap.get? S=some { cls:=.type "list",dict:=none,data:=.seq acc' c',slots:=#[] }→ItemsOf (fun i v=>items[items.size - 1 - i]? = some v) acc' items.size→R (.ok (.ret .none)) s') :
  wpAny (model prog w) A.in1 (Builtin.«list.__init__» ⟨[.ref S,.ref it],[]⟩)
   (fun fin s'=>match fin with | .done f=>R (.ok f) s' | .again c'=>c'.quiet=true∧codeAny (model prog w) A c' R s') (fun e s'=>R (.error e) s') s:=by
 show wpAny _ A.in1 (do let old ←Builtin.List.listItems (.ref S);Builtin.List.listUpdate (.ref S) (fun _=>#[]);letGo old.toList.reverse;Builtin.List.listExtendWith (.ref S) (.ref it) .none) _ _ s
 refine wpAny_bind ?_
 unfold Builtin.List.listItems
 refine wpAny_bind (wpAny_seqItems hS rfl (wpAny_pure ?_))
 show wpAny _ A.in1 (updateSeq S (fun _=>#[]) >>= fun _=>letGo (#[]:Array Value).toList.reverse >>= fun _=>Builtin.List.listExtendWith (.ref S) (.ref it) .none) _ _ s
 refine wpAny_bind (wpAny_updateSeq hS rfl ?_)
 have hS₂:=Heap.get?_update_self (Obj.mapSeq (fun _=>(#[]:Array Value))) hS rfl
 have oth:∀b o,b≠S→s.heap.get? b=some o→(s.heap.update S (Obj.mapSeq (fun _=>(#[]:Array Value)))).get? b=some o:=
  fun b o hb e=>(Heap.get?_update_other _ _ (Ne.symm hb)).trans e
 have n1:it≠S:=fun e=>hSf (by rw[←e];simp)
 have n2:l≠S:=fun e=>hSf (by rw[←e];simp)
 refine wpAny_bind (wpAny_letGo ?_)
 have hl2:(s.heap.update S (Obj.mapSeq (fun _=>(#[]:Array Value)))).IsList l items:=by
  obtain⟨o,ho,r⟩:=hl
  exact⟨o,oth l o n2 ho,r⟩
 refine qm2 W S .none _ (hit.at fun o e=>oth it o n1 e) hl2 hSf hS₂ hn fun s' acc' c' hm hS' hacc=>?_
 exact hR s' acc' c' (Moved.trans W.gtrans ((Moved.refl W.grefl).then_heap (Nat.le_refl _) fun b o hb e=>oth b o (fun h=>hb (h ▸ List.mem_cons_self)) e) hm) hS' hacc
theorem qiR {it l:Addr} {items:Array Value} {Q:Value→Shared→Prop} (hh:A.handled=none) (hit:s.heap.IsRevIter it l ((items.size:Int) - 1)) (hl:s.heap.IsList l items) (hne:l≠it) (hn:items.size≤sizeLine)
  (hQ:∀(h':Heap) (tk:Nat) (acc':Array Value) (c':Nat),(∀b o,b≠it→s.heap.get? b=some o→h'.get? b=some o)→h'.get? s.heap.objs.size=some { cls:=.type "list",dict:=none,data:=.seq acc' c',slots:=#[] }→ItemsOf (fun i v=>items[items.size - 1 - i]? = some v) acc' items.size→Q (.ref s.heap.objs.size) { s with heap:=h',toks:=tk }) :
  wpAny (model prog w) A (call (.type "list") [.ref it]) Q E s:=by
 obtain⟨oi,hoi,_⟩:=id hit
 obtain⟨ol,hol,_⟩:=id hl
 have hSi:s.heap.objs.size≠it:=Nat.ne_of_gt (Heap.lt_size hoi)
 have hSl:s.heap.objs.size≠l:=Nat.ne_of_gt (Heap.lt_size hol)
 have hSf:s.heap.objs.size∉[it,l]:=by simp only[List.mem_cons,List.not_mem_nil,or_false,not_or];exact⟨hSi,hSl⟩
 have h2:A.in1.in1.handled=none:=by simp[hh]
 have W:=(Walks.listRev (prog:=prog) (w:=w) (A:=A.in1.in1) h2 it l hne items).toS
 refine callType_codes (Q₁:=fun obj s₁=>obj=.ref s.heap.objs.size∧s₁={ s with heap:=s.heap.push { cls:=.type "list",data:=.seq #[] } }) F.called_list (F.typeCall_list_1 _) F.entry_list_init
  (code_list_new _ ⟨rfl,rfl⟩) fun obj s₁ h₁=>?_
 obtain⟨rfl,rfl⟩:=h₁
 have hS:(s.heap.push { cls:=.type "list",data:=.seq #[] }).get? s.heap.objs.size=some { cls:=.type "list",data:=.seq #[] }:=Heap.get?_push_size _ rfl
 refine⟨⟨_,hS,rfl⟩,F.args_list_init_2 _ _,qiY W _ (hit.at fun o e=>Heap.get?_push_of_some _ e) (hl.push _) hSf hS hn fun s' acc' c' hm hS' hacc=>?_⟩
 refine⟨rfl,?_⟩
 rw[Moved.eq_with hm]
 refine hQ s'.heap s'.toks acc' c' (fun b o hb e=>hm.heap b o (fun hmem=>?_) (Heap.get?_push_of_some _ e)) hS' hacc
 rcases List.mem_cons.mp hmem with e' | hmem
 ·exact absurd (Heap.lt_size e) (by rw[e'];exact Nat.lt_irrefl _)
 ·exact hb (List.mem_singleton.mp hmem)
end
theorem qmh:∀{vs:List Value} {xs:List Int} {ws:List Value} {ys:List Int},IntsAre vs xs→IntsAre ws ys→IntsAre (vs++ws) (xs++ys)
 |_,_,_,_,.nil,k=>k
 |_,_,_,_,.cons n t h,k=>.cons n t (qmh h k)
theorem qmx:∀{vs:List Value} {xs:List Int},IntsAre vs xs→IntsAre vs.reverse xs.reverse
 |_,_,.nil=>.nil
 |_,_,.cons n t h=>by
  rw[List.reverse_cons,List.reverse_cons]
  exact qmh (qmx h) (.cons n t .nil)
theorem qor {items acc:Array Value} (h:ItemsOf (fun i v=>items[items.size - 1 - i]? = some v) acc items.size):acc.toList=items.toList.reverse:=by
 refine List.ext_getElem? fun i=>?_
 by_cases hi:i<items.size
 ·have h1:i<acc.size:=by rw[h.1];exact hi
  have h2:=h.2 i acc[i] (Array.getElem?_eq_getElem h1)
  rw[List.getElem?_reverse (by simpa using hi),Array.getElem?_toList,Array.getElem?_toList,Array.length_toList]
  have h2:items[items.size - 1 - i]? = some acc[i]:=h2
  rw[h2,Array.getElem?_eq_getElem h1]
 ·rw[List.getElem?_eq_none (by rw[Array.length_toList,h.1];omega),List.getElem?_eq_none (by rw[List.length_reverse,Array.length_toList];omega)]
section
variable {C:Ctx} {X:Cx}
theorem qp9 {a:Expr} {g:List Sl→RE ER} {p p2 q pos:Pos} (hK:X.K=C.G.K) (hc:X.calm=true) (hg:Gl X "list") (hm:X.mg "list" = none) (hg2:Gl X "reversed") (hm2:X.mg "reversed" = none) (ha:PE X a (tE C g))
  (na:qad a=true):PE X (.Call (.Name "list" p) [.Call (.Name "reversed" p2) [a] [] q] [] pos) (tE C fun ρ=>(g ρ).bind fun x=>qoC x.d):=by
 have na:=qab (es:=[]) (env:=X.env) na
 refine⟨fun pins s σ H Q I h=>Call_ (ld_blt I hg hm PyProof.Rows.boot_list (PyProof.Rows.callWith_type1 (PyProof.Rows.args_cons ?_ rfl) rfl rfl))⟩
 refine Call_ (ld_blt I hg2 hm2 PyProof.Rows.boot_reversed (PyProof.Rows.callWith_type1 (PyProof.Rows.args_cons ?_ na) na rfl))
 have body:tE C g σ H fun x H1=>∃(l:Addr) (ns:List Int),x=V.ref l∧SqL X.K H1 l (ns.map V.int)∧ns.length≤16777216∧∀p,H1 p=none→Q (.ref p) (upd H1 p (.lst (ns.reverse.map V.int))):=by
  obtain⟨ρ,P,N,S,h⟩:=h
  refine⟨ρ,P,N,S,h.bind.mono fun x P1 N1 H1 _ a1 h1 v rv=>?_⟩
  have r1:=(S.adv a1).reg
  unfold qoC at h1
  split at h1
  ·rename_i ds hd
   split at h1
   ·rename_i ns hn
    have w:=rv.w r1
    rw[hd] at w
    obtain⟨l,xs,rfl,z1,z2⟩:=w
    rw[qd6] at h1
    split at h1
    ·rename_i hl
     unfold leB at hl
     rw[Nat.ble_eq] at hl
     refine⟨l,ns,rfl,by rw[hK,←qbl hn z2];exact z1,hl,fun p hp=>?_⟩
     exact h1.fre r1 a1.hh (Reps.ints.mpr rfl) hp
    ·exact h1.elim
   ·exact h1.elim
  ·exact h1.elim
 refine thn (ha.run pins s σ H _ I body) fun v s1 ⟨x,H1,I1,r1,q1⟩=>PyProof.Rows.args_nil ?_
 obtain⟨l,ns,rfl,hq,hl,q1⟩:=q1
 cases r1
 obtain⟨its,r,pl,_⟩:=I1.list hq
 have ia:IntsAre its.toArray.toList ns:=by simpa using r.ints
 have size:its.toArray.size=ns.length:=by
  rw[←Array.length_toList];exact IntsAre.length ia
 have sz:its.toArray.size≤sizeLine:=by rw[size,sizeLine_eq];omega
 have lt:l<s1.heap.objs.size:=by
  obtain⟨o,ho,_⟩:=pl.isList
  exact Heap.lt_size ho
 refine PySem.call_reversed_list pl.isList (PyProof.Rows.args_nil ?_)
 have hit:(s1.heap.push (revObj l ((its.toArray.size:Int) - 1))).IsRevIter s1.heap.objs.size l ((its.toArray.size:Int) - 1):=⟨_,Heap.get?_push_size _ rfl,rfl,rfl⟩
 refine qiR (s:={ s1 with heap:=s1.heap.push (revObj l ((its.toArray.size:Int) - 1)) }) (I1.ok.hd hc) hit (pl.isList.push _) (Nat.ne_of_lt lt) sz fun h' tk acc c' kp hget hacc=>?_
 have e:=qor hacc
 have k:∀b o,s1.heap.get? b=some o→h'.get? b=some o:=fun b o hb=>kp b o (Nat.ne_of_lt (Heap.lt_size hb)) (Heap.get?_push_of_some _ hb)
 have hi:IntsAre acc.toList ns.reverse:=by rw[e];exact qmx ia
 have hp:s1.heap.objs.size≤(s1.heap.push (revObj l ((its.toArray.size:Int) - 1))).objs.size:=by rw[Heap.size_push];omega
 have fresh:=I1.hok.fresh hp
 have fits:(ns.reverse.map V.int).length≤sizeLine:=by rw[List.length_map,List.length_reverse,sizeLine_eq];omega
 have J:Inv X pins σ (upd H1 (s1.heap.push (revObj l ((its.toArray.size:Int) - 1))).objs.size (.lst (ns.reverse.map V.int))) { s1 with heap:=h',toks:=tk }:=
  I1.call (ch:=[]) (Un.laid k hp fresh) (I1.hok.laid k hp ⟨fits,acc.toList,c',vals_of_ints hi,hget⟩) I1.bare (fun _ z=>nomatch z)
 exact⟨.ref (s1.heap.push (revObj l ((its.toArray.size:Int) - 1))).objs.size,_,J,rfl,q1 _ fresh⟩
end
end Cm
set_option maxHeartbeats 2000000
namespace Cm
open PySem PySem.Spec PyProof.Rows L2
def wK (K:PySem.W.Frag) (c:Value) (i j:Nat) (Wout:WX) (D:Ends):WX:=fun cls d σ H =>
 ∃b,PySem.W.exmOne K cls c=some b∧(b=true→d=none∧∀a,H a=none→D.nx ((σ.set j (some (.ref a))).set i none) (upd H a (exK cls a)))∧(b=false→Wout cls d σ H)
section
variable {X:Cx} {pins:List (Addr × Obj)} {σ:L2.St} {H:Hp} {s:Shared}
theorem qo7 {a:Addr} {oe:Obj} {o:HO} (I:Inv X ((a,oe)::pins) σ H s) (hn:H a=none) (h0:X.s_0.heap.get? a=none) (hp:∀p∈X.pn++pins,p.1≠a) (hc:∀x c,X.env.cells.lookup x=some c→c≠a) (new:ObjOk X.prog X.w (upd H a o) s.heap a o):Inv X pins σ (upd H a o) s where
 ok:=I.ok
 os:=I.os
 bare:=I.bare
 base:=by
  have b:=I.base
  refine⟨fun x o' e n hb hx=>b.keep x o' e n hb hx,fun x o' e n hb hx=>b.slot x o' e n hb hx,fun x o' e n hx=>?_,fun x o' e hx=>b.there x o' e hx,fun x xs q=>?_,fun x u xs q=>?_,fun x ps q=>?_⟩
  ·rw[upd_ne (fun z=>by rw[z,h0] at e;cases e)];exact b.free x o' e n hx
  ·have z:=b.tups x xs q;rw[upd_ne (ne_of_none z hn)];exact z
  ·have z:=b.frzs x u xs q;rw[upd_ne (ne_of_none z hn)];exact z
  ·obtain⟨m,z⟩:=b.tbls x ps q;exact⟨m,by rw[upd_ne (ne_of_none z hn)];exact z⟩
 loc:=I.loc
 cell:=I.cell
 free:=by
  have hL:X.env.locals≠a:=fun z=>by
   obtain⟨_,_,ne,_,_⟩:=I.pin (a,oe) (List.mem_append.mpr (.inr List.mem_cons_self))
   exact ne z.symm
  rw[upd_ne hL];exact I.free
 freeC:=fun x c e=>by rw[upd_ne (hc x c e)];exact I.freeC x c e
 pin:=fun p hp'=>by
  obtain⟨e,n,ne,nf,d⟩:=I.pin p (by
   rcases List.mem_append.mp hp' with z | z
   ·exact List.mem_append.mpr (.inl z)
   ·exact List.mem_append.mpr (.inr (List.mem_cons_of_mem _ z)))
  exact⟨e,by rw[upd_ne (hp p hp')];exact n,ne,nf,d⟩
 hok:=HOk.laidN (h:=s.heap) I.hok (fun _ _ q=>q) hn new
 len:=I.len
end
section
variable {X:Cx} {x n m:Str} {c:Value} {i j:Nat} {body:List Stmt} {np p1 p2 pa pos pos':Pos} {tb:WX→TS} {Wout:WX}
theorem qsM (hs:X.stack=X.env::X.outer) (hf:X.env.frame=some X.env.locals) (hex:X.ex=[]) (hN:X.N.Nodup) (hi:X.N[i]? = some n) (hj:X.N[j]? = some m) (hln:X.env.kindOf n=some .local) (hlm:X.env.kindOf m=some .local) (hd:(n == ("__debug__" : Str))=false∧(n == ("__classdict__" : Str))=false)
  (hc:Names X x c) (tk:Takes X Wout) (hij:i≠j)
  (hb:∀(W:WX) (pn:List (Addr × Obj)) (xe:Value→Shared→Prop),Takes (X.tr pn xe) W→PassesOwn (model X.prog X.w) X.A X.env xe→PSs (X.tr pn xe) body (tb W)) :
  PS X (.Try body [.ExceptHandler (some (.Name x np)) (some n) [.Assign [.Name m p1] (.Name n p2) pa] pos'] [] [] pos) (fun D σ H=>tb (wK X.K c i j Wout D) D σ H):=by
 refine⟨fun pins s σ H D I h=>?_⟩
 have ok:=I.ok
 have hfr:X.A.frames=some (X.env::X.outer):=by rw[ok.frames,hs]
 have hloc:Loc X.env.scope n:=.inl hln
 refine wpAny_Try_except ?_
 refine wpAny_mono ((hb (wK X.K c i j Wout D) (X.pn++pins) (fun e s₁=>wpAny (model X.prog X.w) X.A (noteFrame e X.env) (fun _ s₂=>wpAny (model X.prog X.w) X.A (setFlight e none) (fun _ s₃ =>
  wpAny (model X.prog X.w) X.A (handleBy e X.env [.ExceptHandler (some (.Name x np)) (some n) [.Assign [.Name m p1] (.Name n p2) pa] pos']) (SP X pins D) X.xe s₃) X.xe s₂) X.xe s₁) (fun u s' xx=>?_) PassesOwn.looking).run [] s σ H D (I.toTry _) h) (fun f s1 hsp=>?_) (fun e s1 he=>he)
 ·-- the catch
  obtain⟨a,B,sI,pins',σ',H',cls,d,rfl,J',nb,up,sky,na,os,ag,b,hb1,hyes,hno⟩:=xx
  have J:Inv X pins σ' H' sI:=J'.ofTry ok
  have sky':Sky B (X.env::X.outer) a (Zc cls d) X.env.locals s'.heap:=by rw[←hs];exact sky
  show wpAny (model X.prog X.w) X.A (noteFrame (.ref a) X.env) _ _ _
  refine Sky.land Zc.steady hfr hf sky' fun h3 fl3 up3=>?_
  have J3:Inv X pins σ' H' { s' with heap:=h3 }:=J.landed nb fl3.1 (up.trans up3) os ag
  obtain⟨oe3,vs3,he3,hz3,hd3⟩:=fl3.there
  have notFr:∀{h:Heap} {o:Obj} {vs:Array Value},h.FunFrames B (X.env::X.outer)→h.get? a=some o→o.data=.fields vs→a∉frs (X.env::X.outer):=fun {h o vs} ff e dd hm=>by
   obtain⟨_,o',e',hnf⟩:=ff.mem hm
   rw[e] at e';cases e'
   exact hnf _ dd
  have nfr:=notFr fl3.2.2.1 he3 hd3
  have nL:a≠X.env.locals:=fun z=>nfr (List.mem_filterMap.mpr ⟨X.env,List.mem_cons_self,by rw[hf,z]⟩)
  have nF:a∉X.fs:=fun hm=>by
   obtain⟨e,he,q⟩:=List.mem_filterMap.mp hm
   exact nfr (List.mem_filterMap.mpr ⟨e,List.mem_cons_of_mem _ he,q⟩)
  -- it is new
  have nfr':a∉frs X.stack:=by rw[hs];exact nfr
  have aI:∀o,sI.heap.get? a≠some o:=fun o e=>by
   have z:=nb a o e nfr'
   rw[fl3.2.1] at z
   cases z
  have n0:X.s_0.heap.get? a=none:=by
   cases e:X.s_0.heap.get? a with
   |none=>rfl
   |some o =>
    obtain⟨o',e'⟩:=J.base.there a o e (by
     intro z
     first
      |exact nF z
      |(rw[hex] at z;cases z)
      |exact(List.mem_append.mp z).elim nF fun z=>by rw[hex] at z;cases z)
    exact absurd e' (aI o')
  have np':∀p∈X.pn++pins,p.1≠a:=fun p hp z=>by
   obtain⟨e,_⟩:=J.pin p hp
   rw[z] at e
   exact aI _ e
  have nc':∀x c,X.env.cells.lookup x=some c→c≠a:=fun x c e z=>by
   obtain⟨v,o,ho,_⟩:=J.cell x c e
   rw[z] at ho
   exact aI _ ho
  have S3:=J3.suite he3 hd3 na nL nF
  refine wpAny_handleBy_cons (codeAny_handlers_test ?_) (by intro q;cases q)
  have LT:PySem.W.Looks (model X.prog X.w) h3 (typeOf (.ref a)) cls:=fun A Q E s k q=>wpAny_typeOf_ref (k _ _ he3) (by rw[hz3.1];exact q)
  have LM:=PySem.W.exm_one (M:=model X.prog X.w) (J3.kIn) LT hb1
  have test:∀{Q:Value→Shared→Prop} {E:Value→Shared→Prop},Q c { s' with heap:=h3 }→wpAny (model X.prog X.w) (X.A.mark (some (.ref a))) (eval (.Name x np) X.env) Q E { s' with heap:=h3 }:=fun {Q E} q=>by
   obtain⟨hg,hdbg,hm | ⟨hm,hv,hnn⟩⟩:=hc
   ·exact ld_glob (X:=X.suite a ((a,oe3)::(X.pn++pins))) S3 hg hm q hdbg
   ·exact ld_blt (X:=X.suite a ((a,oe3)::(X.pn++pins))) S3 hg hm hv q hnn hdbg
  refine test (LM.here ?_)
  cases b with
  |true =>
   refine codeAny_handlers_suite_as ?_
   refine HandSPX.lands_againZ fl3 fun h4 fl4 up4=>?_
   have J4:Inv X pins σ' H' { s' with heap:=h4 }:=J.landed nb fl4.1 ((up.trans up3).trans up4) os ag
   obtain⟨oe4,vs4,he4,hz4,hd4⟩:=fl4.there
   have S4:=J4.suite he4 hd4 na nL nF
   refine store_ok (X:=X.suite a ((a,oe4)::(X.pn++pins))) (v:=.ref a) S4 hN hi hloc rfl (fun s5 S5=>?_) (.inr hln)
   have ts:PSs (X.suite a ((a,oe4)::(X.pn++pins))) [.Assign [.Name m p1] (.Name n p2) pa] _:=
    pss_cons (ps_set (X:=X.suite a ((a,oe4)::(X.pn++pins))) hN hj (.inl hlm) (pe_var (X:=X.suite a ((a,oe4)::(X.pn++pins))) hi (.inl hln) hd.1 hd.2) rfl (.inr hlm)) pss_nil
   have hil:i<σ'.length:=by
    rw[J.len]
    exact(List.getElem?_eq_some_iff.mp hi).1
   have hjl:j<σ'.length:=by
    rw[J.len]
    exact(List.getElem?_eq_some_iff.mp hj).1
   obtain⟨hdn,hy2⟩:=hyes rfl
   subst hdn
   refine wpAny_mono (ts.run [] s5 _ H' { nx:=fun σ6 H6=>σ6=(σ'.set i (some (.ref a))).set j (some (.ref a))∧H6=H',rt:=fun _ _=>False,bk:=fun _ _=>False,ct:=fun _ _=>False } S5 ?_) (fun f s6 hsp=>?_) (fun _ _ z=>False.elim z)
   ·exact⟨.ref a,by rw[List.getElem?_set_self hil],rfl,rfl⟩
   ·cases f with
    |next =>
     obtain⟨σ6,H6,S6,rfl,rfl⟩:=hsp
     have S6':Inv X ((a,oe4)::pins) ((σ'.set i (some (.ref a))).set j (some (.ref a))) H6 s6:=⟨ok,S6.os,S6.bare,S6.base,S6.loc,S6.cell,S6.free,S6.freeC,fun p hp=>S6.pin p (by
      rcases List.mem_append.mp hp with z | z
      ·exact List.mem_append.mpr (.inl (List.mem_cons_of_mem _ (List.mem_append.mpr (.inl z))))
      ·rcases List.mem_cons.mp z with z | z
       ·rw[z];exact List.mem_append.mpr (.inl List.mem_cons_self)
       ·exact List.mem_append.mpr (.inl (List.mem_cons_of_mem _ (List.mem_append.mpr (.inr z))))),S6.hok,S6.len⟩
     refine gone_ok S6' hN hi hln fun s7 J7=>?_
     obtain⟨e7,n7,_⟩:=J7.pin (a,oe4) (List.mem_append.mpr (.inr List.mem_cons_self))
     have J8:=qo7 (o:=exK cls a) J7 n7 n0 np' nc' (quw e7 hz4 hd4)
     have es:((σ'.set i (some (V.ref a))).set j (some (.ref a))).set i none=(σ'.set j (some (.ref a))).set i none:=by
      rw[List.set_comm _ _ hij,List.set_set]
     rw[es] at J8
     exact⟨_,_,J8,hy2 a na⟩
    |brk=>obtain⟨_,_,_,z⟩:=hsp;exact z.elim
    |cont=>obtain⟨_,_,_,z⟩:=hsp;exact z.elim
    |ret u=>obtain⟨_,_,_,_,_,z⟩:=hsp;exact z.elim
  |false =>
   show wpAny _ X.A (handleBy (.ref a) X.env []) _ _ _
   refine wpAny_handleBy_nil ?_
   obtain⟨k1,k2,k3,oe,vs,T,oT,ts',he,hz,hd,h1,hr⟩:=id fl3
   unfold PySem.passOn
   refine wpAny_bind (wpAny_field he hd h1 ?_)
   rw[if_neg (show ¬((Value.ref T == Value.none)=true) from by simp)]
   have fin:wpAny (model X.prog X.w) X.A (setFlight (.ref a) X.env.frame) (fun _ s4=>wpAny (model X.prog X.w) X.A (throw (.ref a):Sem Flow) (SP X pins D) X.xe s4) X.xe { s' with heap:=h3 }:=by
    rw[hf]
    refine HandSPX.setFlight_upZ fl3 fun h4 hh4 up4=>wpAny_throw (tk _ _ ?_)
    exact⟨a,B,sI,pins,σ',H',cls,d,rfl,J,nb,(up.trans up3).trans up4,.inr (.inr (by rw[hs];exact hh4)),na,os,ag,hno rfl⟩
   first
    |exact wpAny_bind (wpAny_pure (wpAny_bind fin))
    |exact wpAny_bind fin
 ·cases f with
  |next =>
   obtain⟨σ',H',J',q⟩:=hsp
   exact wpAny_execs_nil ⟨σ',H',J'.ofTry ok,q⟩
  |brk =>
   obtain⟨σ',H',J',q⟩:=hsp
   exact⟨σ',H',J'.ofTry ok,q⟩
  |cont =>
   obtain⟨σ',H',J',q⟩:=hsp
   exact⟨σ',H',J'.ofTry ok,q⟩
  |ret u =>
   obtain⟨v,σ',H',J',r,q⟩:=hsp
   exact⟨v,σ',H',J'.ofTry ok,r,q⟩
end
def qwb (K:PySem.W.Frag):List V→Hp→VK→Prop:=fun xs H Q=>rIsi K xs H Q∨∃(a D:Addr) (c:V) (u:Value) (b:Bool),xs=[.ref a,c]∧ClsV c u∧H a=some (exK (.ref D) a)∧ExcC K D∧PySem.W.kitOne K (.ref D) u=some b∧Q (.bl b) H
theorem qqk {X:Cx}:CallR X (.builtin "isinstance") (qwb X.K):=by
 intro pins s σ H xs us Q I r h
 rcases h with h | ⟨a,D,c,u,b,rfl,k,ha,C,e,q⟩
 ·exact call_isi pins s σ H xs us Q I r h
 ·cases r with
  |cons rx rr =>
   cases rr with
   |cons rt rr =>
    cases rr
    cases rx
    have ec:=k.eq rt
    subst ec
    obtain⟨⟨oe,vs,ho,hz,hd⟩,_,_⟩:=I.hok a _ ha
    have J:PySem.W.InstAt s.heap a oe D none:=by
     obtain⟨oc,od,oda,osl⟩:=oe
     obtain⟨h1,h2⟩:=hz
     dsimp only at h1 h2 hd
     subst h1 h2 hd
     exact⟨ho,rfl,rfl,trivial⟩
    exact PySem.W.kia_one (PySem.W.handS_kitx_exc C.hg C.hk C.hs C.hd C.ha C.hn C.ht C.hm) I.kIn J e (fun z=>nomatch z) fun tk=>⟨.bl b,H,I.kept (t':=tk) fun _ _ z=>z,rfl,q⟩
structure InsC (K:PySem.W.Frag) (D:Addr):Prop where
 cl:Cls K D
 ha:PySem.W.findIn K (.ref D) "__class__" = some (some (.builtin "object.__class__"))
 hn:PySem.W.specialIn K (.builtin "object.__class__") "__get__" = some (some (.builtin "getset_descriptor.__get__"))
 ht:PySem.W.takesIn K (.builtin "object.__class__")=some true
 hm:PySem.W.mroIn K D (.type "object")=some true
def NmC (mg:Str→Option Value) (x:Str) (own:Bool) (v:V) (u:Value):Prop:=ClsV v u∧(match own with
 |true=>mg x=some u
 |false=>x=("ValueError" : Str)∧u=.type "ValueError")
theorem qlT {v:V} {u:Value} (k:ClsV v u):RelV v u:=by cases k<;>rfl
theorem qnZ:bootBuiltins "ValueError" = some (.type "ValueError"):=by decide +kernel
structure RsOk (K:PySem.W.Frag) (mg:Str→Option Value) (D:Addr) (x:Str):Prop where
 mg:mg x=some (.ref D)
 exc:PySem.W.excIn K D He.veBase "ValueError.__new__" = true
 keep:PySem.W.keepIn K (.ref D)=true
 sub:PySem.W.subIn K (.ref D) (.type "BaseException")=some true
 ty:PySem.W.typeIn K (.ref D)=some (.type "type")
structure CkOk (G:Glo) (K:PySem.W.Frag) (mg:Str→Option Value) (x:Str) (own:Bool) (ck ik:Option (Nat→Option Bool)):Prop where
 ex:∃v u,NmC mg x own v u∧(∀g,ck=some g→∀c b,g c=some b→PySem.W.kitOne K (.ref (G.ca c)) u=some b∧PySem.W.exmOne K (.ref (G.ca c)) u=some b∧ExcC K (G.ca c)) ∧
  (∀g,ik=some g→∀c b,g c=some b→PySem.W.kitOne K (.ref (G.ca c)) u=some b∧InsC K (G.ca c))
section
variable {C:Ctx} {X:Cx} {x:Str} {own:Bool} {v:V} {u:Value} {p p2 pos:Pos}
theorem qre (hg:Gl X x) (hm:X.mg "ValueError" = none) (hd:(x == ("__debug__" : Str))=false) (h:NmC X.mg x own v u):PE X (.Name x p) (tC v):=by
 obtain⟨k,h⟩:=h
 cases own with
 |true=>exact pe_glob hg h (qlT k) hd
 |false =>
  obtain⟨rfl,rfl⟩:=h
  exact pe_bltn hg hm qnZ (qlT k) (by decide) hd
theorem qof (hg:Gl X x) (hm:X.mg "ValueError" = none) (hd:(x == ("__debug__" : Str))=false) (h:NmC X.mg x own v u):Names X x u:=by
 obtain⟨k,h⟩:=h
 cases own with
 |true=>exact⟨hg,hd,.inl h⟩
 |false =>
  obtain⟨rfl,rfl⟩:=h
  exact⟨hg,hd,.inr ⟨hm,qnZ,by decide⟩⟩
theorem qsK {g:List Sl→RE ER} {ck ik:Option (Nat→Option Bool)} {σ:L2.St} {H:Hp} {Q:VK} (k:ClsV v u) (h1:∀g,ck=some g→∀c b,g c=some b→PySem.W.kitOne C.G.K (.ref (C.G.ca c)) u=some b∧PySem.W.exmOne C.G.K (.ref (C.G.ca c)) u=some b∧ExcC C.G.K (C.G.ca c))
  (h2:∀g,ik=some g→∀c b,g c=some b→PySem.W.kitOne C.G.K (.ref (C.G.ca c)) u=some b∧InsC C.G.K (C.G.ca c))
  (h:tE C (fun ρ=>(g ρ).bind fun x=>qpA ck ik x.d) σ H Q):tCB (qwb C.G.K) (tCons (tE C g) (tCons (tC v) tNil)) σ H Q:=by
 obtain⟨ρ,P,N,S,h⟩:=h
 refine⟨ρ,P,N,S,h.bind.mono fun x P1 N1 H1 e1 a1 h3 w rv=>?_⟩
 have r1:=(S.adv a1).reg
 have rw':=rv.w r1
 show qwb C.G.K [w,v] H1 Q
 unfold qpA at h3
 split at h3
 ·rename_i c fs q
  rw[q] at rw'
  split at h3
  ·split at h3
   ·rename_i g'
    split at h3
    ·rename_i b e
     obtain⟨_,a,rfl,z⟩:=rw'
     obtain⟨z1,z2,z3⟩:=h1 _ rfl _ _ e
     exact .inr ⟨a,_,v,u,b,rfl,k,r1.pH _ _ z,z3,z1,h3.val r1 rfl⟩
    ·exact h3.elim
   ·exact h3.elim
  ·exact h3.elim
 ·rename_i c fs q
  rw[q] at rw'
  split at h3
  ·split at h3
   ·rename_i b e
    obtain⟨a,dx,xs,rfl,z,_⟩:=rw'
    obtain⟨z1,z2⟩:=h2 _ rfl _ _ e
    exact .inl ⟨_,v,_,u,b,rfl,k,.base (.ins (r1.pH _ _ z) z2.cl z2.ha z2.hn z2.ht z2.hm),z1,h3.val r1 rfl⟩
   ·exact h3.elim
  ·exact h3.elim
 ·exact h3.elim
theorem qtz {a:Expr} {g:List Sl→RE ER} {ck ik:Option (Nat→Option Bool)} (hK:X.K=C.G.K) (hg:Gl X "isinstance") (hm:X.mg "isinstance" = none) (hv:X.mg "ValueError" = none) (hg2:Gl X x) (hd:(x == ("__debug__" : Str))=false) (ok:CkOk C.G X.K X.mg x own ck ik) (h:PE X a (tE C g))
  (hs:starEach [a,.Name x p2] X.env=(false,eval a X.env)::starEach [.Name x p2] X.env) (hpl:(backTo pos (starEach [.Name x p2] X.env)).any (·.1)=false):PE X (.Call (.Name "isinstance" p) [a,.Name x p2] [] pos) (tE C fun ρ=>(g ρ).bind fun x=>qpA ck ik x.d):=by
 obtain⟨v,u,z,h1,h2⟩:=ok
 rw[hK] at h1 h2
 exact qaf (qgd qqk ql8 (.inl ⟨_,rfl⟩) hg hm (pa_cons h (pa_cons (qre hg2 hv hd z) pa_nil) hs) (by decide) (by decide) hs hpl) fun σ H Q q=>by rw[hK];exact qsK z.1 h1 h2 q
abbrev qwR (go g:List Sl→RE ER):List Sl→RE ER:=fun ρ=>(go ρ).bind fun x=>match x.d with
  |.lst xs=>(g ρ).bind fun y=>qpL xs y.d
  |_=>.bad
theorem qib:∀{ds:List D} {ns:List Int},qaU ds=some ns→ds=ns.map D.int
 |[],ns,h=>by cases h;rfl
 |d::ds,ns,h=>by
  cases d with
  |int i =>
   unfold qaU at h
   cases e:qaU ds with
   |none=>rw[e] at h;cases h
   |some r=>rw[e] at h;cases h;rw[qib e];rfl
  |_=>cases h
theorem qsb {go g:List Sl→RE ER} {σ:L2.St} {H:Hp} {Q:VK} (h:tE C (qwR go g) σ H Q):tBM C.G.K "list" (rCntI C.G.K) (tE C go) (tCons (tE C g) tNil) σ H Q:=by
 obtain⟨ρ,P,N,S,h⟩:=h
 refine⟨ρ,P,N,S,h.bind.mono fun x P1 N1 H1 _ a1 h1 v rv=>?_⟩
 have r1:=(S.adv a1).reg
 split at h1
 ·rename_i ds hd
  have w:=rv.w r1
  rw[hd] at w
  obtain⟨p,xs,rfl,z1,z2⟩:=w
  refine⟨.inl ⟨rfl,xs,z1⟩,ρ,P1,N1,S.adv a1,(res.bind h1).mono fun y P2 N2 H2 _ a2 h2 u ru=>?_⟩
  have r2:=(S.adv (a1.trans a2)).reg
  unfold qpL at h2
  split at h2
  ·rename_i ns e
   split at h2
   ·rename_i k q
    have wy:=ru.w r2
    rw[q] at wy
    cases wy.int
    have en:=qib e
    subst en
    have ex:=Reps.ints.mp z2
    subst ex
    exact⟨p,ns,k,rfl,rfl,L2.Same.seq a2.hh z1,h2.val r2 rfl⟩
   ·exact h2.elim
  ·exact h2.elim
 ·exact h1.elim
theorem qrZ {o a:Expr} {go g:List Sl→RE ER} {apos pos:Pos} (hK:X.K=C.G.K) (ho:PE X o (tE C go)) (ha:PE X a (tE C g)) (hs:qad a=true) (hbase:attributeBase o "count" X.env (eval o X.env)=eval o X.env) (hline:(apos.endLine == pos.line)=true)
  (hf:((backTo pos (starEach [a] X.env)).all (fun x=>!x.1)&&(backToKw pos (keywordEach [] X.env)).all (fun x=>x.1.isSome)
   && decide ([a].length+([]:List Keyword).length+(if ([]:List Keyword).isEmpty then 0 else 1)<30))=true) :
  PE X (.Call (.Attribute o "count" apos) [a] [] pos) (tE C (qwR go g)):=
 qaf (pe_bm PySem.F.plainAttrs_list PySem.F.slot_list_count PySem.F.type_list_count mt_lcount ho (pa_cons ha pa_nil (qab hs)) hbase hf hline (qab hs) rfl) fun σ H Q q=>by rw[hK];exact qsb q
theorem qr8 {c:Nat} {m:Str} {j:Nat} {pos':Pos} (hK:X.K=C.G.K) (hc:X.calm=true) (tk:Takes X C.W) (hg:Gl X x) (hd:(x == ("__debug__" : Str))=false) (h:RsOk X.K X.mg (C.G.ca c) x) :
  PS X (.Raise (some (.Call (.Name x p) [.Constant (.str m) j p2] [] pos)) none pos') (tS C fun _=>.exc c []):=
 qag (ps_raise hc tk (pmk_own PySem.F.excBase_ValueError h.exc h.mg h.keep (raises_own h.sub h.ty) hg hd)) fun D σ H q=>by
  obtain⟨ρ,P,N,S,h⟩:=q
  exact h σ none P N H S.reg (.inl ⟨rfl,rfl⟩)
end
def tR (C:Ctx) (g:List Sl→RE (List Sl)):TS:=fun D σ H=>∃ρ P N,SR C P N H ρ σ∧res C σ P N H (g ρ) fun ρ' _ _ H'=>∀σ' P2 N2,Same P P2→Same N N2→SR C P2 N2 H' ρ' σ'→D.nx σ' H'
section
variable {C:Ctx} {X:Cx}
theorem SR.wish {W:WX} {P N H:Hp} {ρ:List Sl} {σ:L2.St} (S:SR C P N H ρ σ):SR { C with W:=W } P N H ρ σ:=
 ⟨⟨S.reg.pH,S.reg.nH,S.reg.bH,S.reg.rB,S.reg.p0,S.reg.pn,S.reg.nw,S.reg.dj⟩,S.len,fun i s e=>by
  obtain⟨o,h1,h2⟩:=S.sl i s e
  exact⟨o,h1,by cases s<;>exact h2⟩,S.ap,S.ad⟩
theorem SR.unwish {W:WX} {P N H:Hp} {ρ:List Sl} {σ:L2.St} (S:SR { C with W:=W } P N H ρ σ):SR C P N H ρ σ:=
 ⟨⟨S.reg.pH,S.reg.nH,S.reg.bH,S.reg.rB,S.reg.p0,S.reg.pn,S.reg.nw,S.reg.dj⟩,S.len,fun i s e=>by
  obtain⟨o,h1,h2⟩:=S.sl i s e
  exact⟨o,h1,by cases s<;>exact h2⟩,S.ap,S.ad⟩
theorem SR.setN {P N H:Hp} {ρ:List Sl} {σ:L2.St} (S:SR C P N H ρ σ) (i:Nat) (o:Option V):SR C P N H (ρ.set i .non) (σ.set i o) where
 reg:=S.reg
 len:=by simp[S.len]
 sl:=fun j s e=>by
  by_cases q:i=j
  ·subst q
   have hi:i<ρ.length:=by
    rcases Nat.lt_or_ge i ρ.length with z | z
    ·exact z
    ·rw[List.getElem?_eq_none (by simpa using z)] at e;cases e
   rw[List.getElem?_set_self hi] at e
   cases e
   exact⟨_,List.getElem?_set_self (by rw[S.len];exact hi),trivial⟩
  ·rw[List.getElem?_set_ne q] at e
   rw[List.getElem?_set_ne q]
   exact S.sl j s e
 ap:=fun j k p ds b es c e1 e2 e3 e4=>by
  have nj:i≠j:=fun z=>by
   subst z
   rw[List.getElem?_set] at e1
   split at e1
   ·split at e1<;>cases e1
   ·rename_i z;exact z rfl
  have nk:i≠k:=fun z=>by
   subst z
   rw[List.getElem?_set] at e2
   split at e2
   ·split at e2<;>cases e2
   ·rename_i z;exact z rfl
  rw[List.getElem?_set_ne nj] at e1 e3
  rw[List.getElem?_set_ne nk] at e2 e4
  exact S.ap j k p ds b es c e1 e2 e3 e4
 ad:=S.ad.set rfl
theorem qtj {i j:Nat} {g:List Sl→RE (List Sl)} {ck ik:Option (Nat→Option Bool)} {x n m:Str} {own:Bool} {body:List Stmt} {np p1 p2 pa pos pos':Pos} (hK:X.K=C.G.K) (hs:X.stack=X.env::X.outer) (hf:X.env.frame=some X.env.locals) (hex:X.ex=[]) (hN:X.N.Nodup) (hi:X.N[i]? = some n) (hj:X.N[j]? = some m) (hln:X.env.kindOf n=some .local) (hlm:X.env.kindOf m=some .local) (hd:(n == ("__debug__" : Str))=false∧(n == ("__classdict__" : Str))=false)
  (hg:Gl X x) (hv:X.mg "ValueError" = none) (hdx:(x == ("__debug__" : Str))=false) (ok:CkOk C.G X.K X.mg x own ck ik) (tk:Takes X C.W) (hij:i≠j)
  (hb:∀(W:WX) (pn:List (Addr × Obj)) (xe:Value→Shared→Prop),Takes (X.tr pn xe) W→PassesOwn (model X.prog X.w) X.A X.env xe→PSs (X.tr pn xe) body (tR { C with W:=W } g)) :
  PS X (.Try body [.ExceptHandler (some (.Name x np)) (some n) [.Assign [.Name m p1] (.Name n p2) pa] pos'] [] [] pos) (tS C fun ρ=>trX ck i j ρ (g ρ)):=by
 obtain⟨v,u,z,h1,_⟩:=ok
 refine qag (qsM (tb:=fun W=>tR { C with W:=W } g) hs hf hex hN hi hj hln hlm hd (qof hg hv hdx z) tk hij hb) fun D σ H q=>?_
 obtain⟨ρ,P,N,S,h⟩:=q
 have h:outS C P N D (trX ck i j ρ (g ρ)):=h
 refine⟨ρ,P,N,S.wish,?_⟩
 cases e:g ρ with
 |bad=>rw[e] at h;exact h.elim
 |ok ρ' =>
  rw[e] at h
  intro P' N' H' a σ' P2 N2 e1 e2 S2
  exact h σ' P2 N2 H' S2.unwish e1 e2
 |exc c fs =>
  rw[e] at h
  intro d P' N' H' a x'
  have a':Adv P N H P' N' H':=a
  have S1:=S.adv a'
  show ∃b,PySem.W.exmOne X.K (.ref (C.G.ca c)) u=some b∧_
  unfold trX at h
  simp only at h
  split at h
  ·rename_i g'
   split at h
   ·rename_i ec
    obtain⟨_,z2,_⟩:=h1 _ rfl _ _ ec
    rw[if_neg hij] at h
    split at h
    ·refine⟨true,z2,fun _=>?_,fun z=>(by cases z)⟩
     rcases x' with⟨_,rfl⟩ | ⟨dd,f,v',e1,_⟩
     ·refine⟨rfl,fun ad na=>?_⟩
      have a2:Adv P N H (upd P' ad (exK (.ref (C.G.ca c)) ad)) N' (upd H' ad (exK (.ref (C.G.ca c)) ad)):=a'.newP na
      have S2:=S.adv a2
      exact h _ _ _ _ ((S2.setV (i:=j) (d:=.exc c []) (b:=true) (v:=.ref ad) ⟨rfl,ad,rfl,upd_same⟩).setN i none) a2.pp a2.nn
     ·cases e1
    ·exact h.elim
   ·rename_i ec
    obtain⟨_,z2,_⟩:=h1 _ rfl _ _ ec
    refine⟨false,z2,fun z=>(by cases z),fun _=>?_⟩
    exact h σ d P' N' H' S1.reg (by
     rcases x' with z | ⟨dd,f,v',e1,e2,e3,e4⟩
     ·exact .inl z
     ·exact .inr ⟨dd,f,v',e1,e2,e3,e4⟩)
   ·exact h.elim
  ·exact h.elim
end
end Cm
namespace Cm
open PySem PySem.Spec PyProof.Rows L2
inductive ClsVs:List V→List Value→Prop where
 |nil:ClsVs [] []
 |cons {v:V} {u:Value} {vs:List V} {us:List Value}:ClsV v u→ClsVs vs us→ClsVs (v::vs) (u::us)
theorem ClsVs.eq {vs:List V} {us its:List Value} (h:ClsVs vs us) (r:Vals vs its):its=us:=by
 induction h generalizing its with
 |nil=>cases r;rfl
 |cons k _ ih =>
  cases r with
  |cons rx rr=>rw[k.eq rx,ih rr]
def tVs (vs:List V):TA:=fun _ H Q=>Q vs H
section
variable {C:Ctx} {X:Cx}
theorem qpw {a:Expr} {g:List Sl→RE ER} {es:List Expr} {k1:Nat} {vs:List V} {us:List Value} {cks:List (Option (Nat→Option Bool))} {p tp pos:Pos} (hK:X.K=C.G.K) (hg:Gl X "isinstance") (hm:X.mg "isinstance" = none) (hes:PA X es (tVs vs)) (kv:ClsVs vs us) (hl:us.length≤sizeLine)
  (ok:∀c b,qqU cks c=some b→PySem.W.kitAny C.G.K (.ref (C.G.ca c)) us=some b∧ExcC C.G.K (C.G.ca c)) (ha:PE X a (tE C g)) (na:qad a=true) :
  PE X (.Call (.Name "isinstance" p) [a,.Tuple es k1 tp] [] pos) (tE C fun ρ=>(g ρ).bind fun x=>qoS cks x.d):=by
 have na:=qab (es:=[.Tuple es k1 tp]) (env:=X.env) na
 refine⟨fun pins s σ H Q I h=>Call_ (ld_blt I hg hm PyProof.Rows.boot_isinstance (PyProof.Rows.callWith_builtin1 (PyProof.Rows.args_cons ?_ na) na rfl))⟩
 have body:tE C g σ H fun x H1=>∃(e D:Addr) (b:Bool),x=V.ref e∧H1 e=some (exK (.ref D) e)∧ExcC X.K D∧PySem.W.kitAny X.K (.ref D) us=some b∧Q (.bl b) H1:=by
  obtain⟨ρ,P,N,S,h⟩:=h
  refine⟨ρ,P,N,S,h.bind.mono fun x P1 N1 H1 _ a1 h1 v rv=>?_⟩
  have r1:=(S.adv a1).reg
  have w:=rv.w r1
  unfold qoS at h1
  split at h1
  ·rename_i c q
   rw[q] at w
   split at h1
   ·rename_i b e
    obtain⟨_,e2,rfl,z⟩:=w
    obtain⟨z1,z2⟩:=ok c b e
    exact⟨e2,_,b,rfl,r1.pH _ _ z,by rw[hK];exact z2,by rw[hK];exact z1,h1.val r1 rfl⟩
   ·exact h1.elim
  ·exact h1.elim
 refine thn (ha.run pins s σ H _ I body) fun v s1 ⟨x,H1,I1,r1,q1⟩=>PyProof.Rows.args_cons (wpAny_Tuple_spliced (thn (hes.run tp pins s1 σ H1 (fun xs H2=>xs=vs∧H2=H1) I1 ⟨rfl,rfl⟩) fun ws s2 ⟨xs,H2,I2,r2,q2⟩=>?_)) rfl
 obtain⟨rfl,rfl⟩:=q2
 obtain⟨e,D,b,rfl,he,C1,ek,q1⟩:=q1
 cases r1
 have ew:=kv.eq r2
 subst ew
 refine⟨hl,PyProof.Rows.args_nil ?_⟩
 have I3:L2.Inv X pins σ H2 { s2 with heap:=s2.heap.push { cls:=.type "tuple",data:=.seq ws.toArray } }:=I2.kept (t':=s2.toks) fun _ _ z=>Heap.get?_push_of_some _ z
 obtain⟨⟨oe,vs',ho,hz,hd⟩,_,_⟩:=I3.hok e _ he
 have J:PySem.W.InstAt (s2.heap.push { cls:=.type "tuple",data:=.seq ws.toArray }) e oe D none:=by
  obtain⟨oc,od,oda,osl⟩:=oe
  obtain⟨h1,h2⟩:=hz
  dsimp only at h1 h2 hd
  subst h1 h2 hd
  exact⟨ho,rfl,rfl,trivial⟩
 exact PySem.W.kia_tup (s:={ s2 with heap:=s2.heap.push { cls:=.type "tuple",data:=.seq ws.toArray } }) (PySem.W.handS_kitx_exc C1.hg C1.hk C1.hs C1.hd C1.ha C1.hn C1.ht C1.hm) I3.kIn J (Heap.get?_push_size _ rfl) ek (fun z=>nomatch z) fun tk=>⟨.bl b,_,I3.kept (t':=tk) fun _ _ z=>z,rfl,q1⟩
end
end Cm
namespace Cm
open PySem PySem.Spec PyProof.Rows L2
section
variable {R:Cm.D→V→Prop}
theorem DctR.fnd:∀{m:List (Int × Cm.D)} {es:List (Key × V)} {k:Int},DctR R m es→match qd3 k m with
  |some d=>∃v,valV es (.inl k)=some v∧R d v
  |none=>valV es (.inl k)=none
 |[],_,_,h=>by cases h;rfl
 |e::m,_,k,⟨v,r,he,h1,h2⟩=>by
  subst he
  unfold qd3
  by_cases q:e.1=k
  ·rw[if_pos q]
   exact⟨v,valV_pos (by rw[←q]),h1⟩
  ·rw[if_neg q,valV_neg (fun z=>q (Sum.inl.inj z))]
   exact DctR.fnd h2
theorem DctR.some {m:List (Int × Cm.D)} {es:List (Key × V)} (h:DctR R m es) {k:Int} {d:Cm.D} (e:qd3 k m=some d):∃v,valV es (.inl k)=some v∧R d v:=by
 have:=h.fnd (k:=k)
 rw[e] at this;exact this
theorem DctR.has {m:List (Int × Cm.D)} {es:List (Key × V)} (h:DctR R m es) (k:Int):(valV es (.inl k)).isSome=(qd3 k m).isSome:=by
 have:=h.fnd (k:=k)
 cases e:qd3 k m with
 |none=>rw[e] at this;rw[this];rfl
 |some d=>rw[e] at this;obtain⟨v,q,_⟩:=this;rw[q];rfl
theorem DctR.len:∀{m:List (Int × Cm.D)} {es:List (Key × V)},DctR R m es→es.length=m.length
 |[],_,h=>by cases h;rfl
 |e::m,_,⟨v,r,he,h1,h2⟩=>by subst he;simp[DctR.len h2]
theorem DctR.set {k:Int} {d:Cm.D} {v:V} (hr:R d v):∀{m:List (Int × Cm.D)} {es:List (Key × V)},DctR R m es→DctR R (qtB k d m) (es.map fun kv=>if kv.1=.inl k then (kv.1,v) else kv)
 |[],_,h=>by cases h;rfl
 |e::m,_,⟨w,r,he,h1,h2⟩=>by
  subst he
  have ih:=DctR.set (k:=k) hr h2
  unfold qtB at ih ⊢
  rw[List.map_cons,List.map_cons]
  by_cases q:e.1=k
  ·rw[if_pos q,if_pos (by show Sum.inl e.1=Sum.inl k;rw[q])]
   exact⟨v,_,rfl,hr,ih⟩
  ·rw[if_neg q,if_neg (fun z=>q (Sum.inl.inj z))]
   exact⟨w,_,rfl,h1,ih⟩
theorem DctR.snoc {k:Int} {d:Cm.D} {v:V} (hr:R d v):∀{m:List (Int × Cm.D)} {es:List (Key × V)},DctR R m es→DctR R (m++[(k,d)]) (es++[(.inl k,v)])
 |[],_,h=>by cases h;exact⟨v,[],rfl,hr,rfl⟩
 |e::m,_,⟨w,r,he,h1,h2⟩=>by subst he;exact⟨w,_,rfl,h1,DctR.snoc hr h2⟩
theorem DctR.put {m:List (Int × Cm.D)} {es:List (Key × V)} (h:DctR R m es) {k:Int} {d:Cm.D} {v:V} (hr:R d v):DctR R (dput k d m) (putK es (.inl k) v):=by
 unfold dput putK
 rw[valV_any,h.has]
 split
 ·exact h.set hr
 ·exact h.snoc hr
end
section
variable {C:Ctx} {X:Cx} {P N H:Hp} {ρ:List Sl} {σ:L2.St}
theorem SR.setD {P0 N0 H0:Hp} (S0:SR C P0 N0 H0 ρ σ) (S:SR C P N H ρ σ) {i:Nat} {m:List (Int × Cm.D)} {b:Bool} {p:Addr} {es:List (Key × V)} (h0:H0 p=none) (hp:H p=some (.dK es)) (pP:P p=none) (pN:N p=none) (h:DctR (RepB C P N b) m es):SR C P N H (ρ.set i (.dct m b)) (σ.set i (some (.ref p))) where
 reg:=S.reg
 len:=by simp[S.len]
 sl:=fun j s e=>by
  by_cases q:i=j
  ·subst q
   have hi:i<ρ.length:=by
    rcases Nat.lt_or_ge i ρ.length with z | z
    ·exact z
    ·rw[List.getElem?_eq_none (by simpa using z)] at e;cases e
   rw[List.getElem?_set_self hi] at e
   cases e
   exact⟨_,List.getElem?_set_self (by rw[S.len];exact hi),p,es,rfl,hp,pP,pN,S0.reg.bH.free h0,h⟩
  ·rw[List.getElem?_set_ne q] at e
   rw[List.getElem?_set_ne q]
   exact S.sl j s e
 ap:=fun j k r ds c es c' e1 e2 e3 e4=>by
  have ne:∀{l:Nat} {ds:List Cm.D} {c:Bool},(ρ.set i (.dct m b))[l]? = some (.own ds c)→i≠l:=fun {l ds c} e q=>by
   subst q
   rw[List.getElem?_set] at e
   simp only[if_true] at e
   split at e<;>cases e
  have n1:=ne e1
  have n2:=ne e2
  rw[List.getElem?_set_ne n1] at e1 e3
  rw[List.getElem?_set_ne n2] at e2 e4
  exact S.ap j k r ds c es c' e1 e2 e3 e4
 ad:=⟨fun j k r ds' c es' c' e1 e2 e3 e4=>by
  have old:∀{l:Nat} {r:Addr} {es:List (Int × Cm.D)} {c:Bool},i≠l→(ρ.set i (.dct m b))[l]? = some (.dct es c)→(σ.set i (some (.ref p)))[l]? = some (some (.ref r))→H0 r≠none:=fun {l r es c} hm e1 e2=>by
   rw[List.getElem?_set_ne hm] at e1 e2
   obtain⟨o,z1,q,ys,z2,z3,_⟩:=S0.sl l _ e1
   rw[z1] at e2
   cases e2
   cases z2
   rw[z3];simp
  have here:∀{l:Nat} {r:Addr},i=l→l<σ.length→(σ.set i (some (.ref p)))[l]? = some (some (.ref r))→r=p:=fun {l r} hm hl e=>by
   subst hm
   rw[List.getElem?_set_self hl] at e
   cases e;rfl
  have lt:∀{l:Nat} {o:Option V},(σ.set i (some (.ref p)))[l]? = some o→l<σ.length:=fun {l o} e=>by
   rcases Nat.lt_or_ge l σ.length with z | z
   ·exact z
   ·rw[List.getElem?_eq_none (by simpa using z)] at e;cases e
  by_cases q:i=j
  ·by_cases q2:i=k
   ·omega
   ·have:=here q (lt e3) e3
    subst this
    exact absurd h0 (old q2 e2 e4)
  ·by_cases q2:i=k
   ·have:=here q2 (lt e4) e4
    subst this
    exact absurd h0 (old q e1 e3)
   ·rw[List.getElem?_set_ne q] at e1 e3
    rw[List.getElem?_set_ne q2] at e2 e4
    exact S.ad.un j k r _ _ _ _ e1 e2 e3 e4⟩
theorem qpJ {D:Ends} {i:Nat} {f:List (Int × Cm.D)→Bool→Out} (h:outS C P N D (qmO ρ i f)):∃m b,ρ[i]? = some (.dct m b)∧outS C P N D (f m b):=by
 unfold qmO at h
 split at h
 ·rename_i ds b e
  exact⟨ds,b,e,h⟩
 ·exact h.elim
theorem SR.rootD (S:SR C P N H ρ σ) {i:Nat} {m:List (Int × Cm.D)} {b:Bool} (e:ρ[i]? = some (.dct m b)):∃p es,σ[i]? = some (some (.ref p))∧H p=some (.dK es)∧P p=none∧N p=none∧C.B p=none∧DctR (RepB C P N b) m es:=by
 obtain⟨o,z1,p,xs,rfl,z2⟩:=S.sl i _ e
 exact⟨p,xs,z1,z2⟩
theorem SR.writeD (S:SR C P N H ρ σ) {i:Nat} {m m':List (Int × Cm.D)} {b b':Bool} {p:Addr} {es':List (Key × V)} (e:ρ[i]? = some (.dct m b)) (eσ:σ[i]? = some (some (.ref p))) (h:DctR (RepB C P N b') m' es'):SR C P N (upd H p (.dK es')) (ρ.set i (.dct m' b')) σ:=by
 obtain⟨o,z1,q,xs,z2,z3,z4,z5,z6,z7⟩:=S.sl i _ e
 rw[z1] at eσ;cases eσ;cases z2
 have hi:i<ρ.length:=(List.getElem?_eq_some_iff.mp e).1
 refine⟨⟨qaL S.reg.pH z4,qaL S.reg.nH z5,qaL S.reg.bH z6,S.reg.rB,S.reg.p0,S.reg.pn,S.reg.nw,S.reg.dj⟩,by simp[S.len],fun j s ej=>?_,fun j k r ds1 c es c' e1 e2 e3 e4=>?_,S.ad.sub fun j m1 b1 ej=>⟨rfl,?_⟩⟩
 ·by_cases q:i=j
  ·subst q
   rw[List.getElem?_set_self hi] at ej
   cases ej
   exact⟨_,z1,p,es',rfl,upd_same,z4,z5,z6,h⟩
  ·rw[List.getElem?_set_ne q] at ej
   obtain⟨o,y1,y2⟩:=S.sl j s ej
   refine⟨o,y1,?_⟩
   cases s with
   |non=>trivial
   |val d b=>exact y2
   |own es c =>
    obtain⟨r,ys,y3,y4,y5⟩:=y2
    have hr:r≠p:=fun er=>by rw[er,z3] at y4;cases y4
    exact⟨r,ys,y3,by rw[upd_ne hr];exact y4,y5⟩
   |slf c fs =>
    obtain⟨r,dx,ys,y3,y4,y5⟩:=y2
    have hr:r≠p:=fun er=>by rw[er,z3] at y4;cases y4
    exact⟨r,dx,ys,y3,by rw[upd_ne hr];exact y4,y5⟩
   |fxd d k=>exact y2
   |dct m2 c =>
    obtain⟨r,ys,y3,y4,y5⟩:=y2
    have hr:r≠p:=fun er=>q (S.ad.un i j p m b m2 c e ej z1 (by rw[y1,y3,er]))
    exact⟨r,ys,y3,by rw[upd_ne hr];exact y4,y5⟩
 ·have un:∀{l:Nat} {es:List Cm.D} {c:Bool},(ρ.set i (.dct m' b'))[l]? = some (.own es c)→ρ[l]? = some (.own es c):=fun {l es c} em=>by
   by_cases q:i=l
   ·subst q;rw[List.getElem?_set_self hi] at em;cases em
   ·rw[List.getElem?_set_ne q] at em;exact em
  exact S.ap j k r _ _ _ _ (un e1) (un e2) e3 e4
 ·by_cases q:i=j
  ·subst q;exact⟨_,_,e⟩
  ·rw[List.getElem?_set_ne q] at ej;exact⟨_,_,ej⟩
theorem qqz {i:Nat} {D:Ends} (q:tS C (fun ρ=>.nx (ρ.set i (.dct [] true))) D σ H):tAsg tDNewK (gName i) D σ H:=by
 obtain⟨ρ,P,N,S,o⟩:=q
 intro p hp
 have a:Adv P N H P N (upd H p (.dK [])):=(Adv.refl S.reg.pH S.reg.nH).heap (qaN hp)
 exact o _ P N _ (SR.setD S (S.adv a) hp upd_same (S.reg.pH.free hp) (S.reg.nH.free hp) rfl) (L2.Same.refl _) (L2.Same.refl _)
theorem qpQ {i:Nat} {g gi:List Sl→RE ER} {D:Ends} (q:tS C (fun ρ=>(g ρ).out fun x=>held x fun d b=>qmO ρ i fun m c=>(gi ρ).out fun k=>match k.d with
  |.int k=>gdO (leB (m.length+1)) (.nx (ρ.set i (.dct (dput k d m) (b&&c))))
  |_=>.bad) D σ H):sDPut (tVar i) (tE C gi) (tE C g) D σ H:=by
 obtain⟨ρ,P,N,S,h⟩:=q
 refine⟨ρ,P,N,S,(h.res S.reg).mono fun x P1 N1 H1 _ a1 h1 v rv=>?_⟩
 obtain⟨N2,d,b,a2,r2,o⟩:=rv.held a1 h1
 have S2:=S.adv a2
 obtain⟨m,c,e,o⟩:=qpJ o
 obtain⟨p,es,z1,z2,z3,z4,z5,z6⟩:=S2.rootD e
 refine⟨_,z1,ρ,P1,N2,S2,((o.adv a2.pp a2.nn).res S2.reg).mono fun k P3 N3 H3 _ a3 h3 u ru=>?_⟩
 have r3:=(S2.adv a3).reg
 split at h3
 ·rename_i k' ek
  have w:=ru.w r3
  rw[ek] at w
  cases w.int
  simp only[qba,qao] at h3
  split at h3
  ·rename_i hl
   refine⟨p,_,rfl,DPut.k (k:=.inl k') (a3.hh _ _ z2) (by rw[z6.len];exact Nat.lt_of_lt_of_le (Nat.lt_succ_self _) hl),?_⟩
   exact h3 _ P3 N3 _ ((S2.adv a3).writeD e z1 (DctR.put ((z6.adv a3.pp a3.nn).mono fun _ _=>RepB.and2) (RepB.and1 (RepB.adv a3.pp a3.nn r2)))) a3.pp a3.nn
  ·exact h3.elim
 ·exact h3.elim
theorem qgj {n:Bool} {i:Nat} {g:List Sl→RE ER} {Q:VK} (h:tE C (fun ρ=>match ρ[i]? with
  |some (.dct m _)=>(g ρ).bind fun x=>qgK m n x.d
  |_=>.bad) σ H Q):(match n with
   |true=>tDIn (tE C g) (tVar i)
   |false=>tDNotIn (tE C g) (tVar i)) σ H Q:=by
 obtain⟨ρ,P,N,S,h⟩:=h
 cases e:ρ[i]? with
 |none=>simp only[e] at h;exact h.elim
 |some s =>
  cases s with
  |dct m b =>
   simp only[e] at h
   have go:tE C g σ H fun y H1=>tVar i σ H1 fun x H2=>∃a o,x=.ref a∧DGet H2 a y o∧Q (.bl (o.isSome == n)) H2:=by
    refine⟨ρ,P,N,S,h.bind.mono fun x P1 N1 H1 _ a1 h1 v rv=>?_⟩
    have S1:=S.adv a1
    unfold qgK at h1
    split at h1
    ·rename_i k ek
     have w:=rv.w S1.reg
     rw[ek] at w
     cases w.int
     obtain⟨p,es,z1,z2,z3,z4,z5,z6⟩:=S1.rootD e
     refine⟨_,z1,p,_,rfl,DGet.k (k:=.inl k) z2,?_⟩
     rw[z6.has]
     exact h1.val S1.reg rfl
    ·exact h1.elim
   cases n with
   |true =>
    have eb:∀b:Bool,(b == true)=b:=by decide
    simp only[eb] at go;exact go
   |false =>
    have eb:∀b:Bool,(b == false) = !b:=by decide
    simp only[eb] at go;exact go
  |_=>simp only[e] at h;exact h.elim
theorem qtJ {i:Nat} {g:List Sl→RE ER} {Q:VK} (h:tE C (fun ρ=>match ρ[i]? with
  |some (.dct m b)=>(g ρ).bind fun x=>qqC m b x.d
  |_=>.bad) σ H Q):tDGet (tVar i) (tE C g) σ H Q:=by
 obtain⟨ρ,P,N,S,h⟩:=h
 cases e:ρ[i]? with
 |none=>simp only[e] at h;exact h.elim
 |some s =>
  cases s with
  |dct m b =>
   simp only[e] at h
   obtain⟨p,es,z1,_⟩:=S.rootD e
   refine⟨_,z1,ρ,P,N,S,h.bind.mono fun x P1 N1 H1 _ a1 h1 v rv=>?_⟩
   have S1:=S.adv a1
   unfold qqC at h1
   split at h1
   ·rename_i k ek
    have w:=rv.w S1.reg
    rw[ek] at w
    cases w.int
    split at h1
    ·rename_i d ed
     obtain⟨p',es,y1,z2,z3,z4,z5,z6⟩:=S1.rootD e
     rw[z1] at y1
     cases y1
     obtain⟨u,q1,q2⟩:=z6.some ed
     refine⟨p,u,rfl,?_,h1.val S1.reg (RepB.nf (C:=C) q2)⟩
     rw[←q1]
     exact DGet.k (k:=.inl k) z2
    ·exact h1.elim
   ·exact h1.elim
  |_=>simp only[e] at h;exact h.elim
theorem qqv {n:Bool} {op:CmpOp} {i:Nat} {x:Expr} {y:Str} {g:List Sl→RE ER} {p pos:Pos} (hu:X.A.units+65<cLine) (hop:op=(match n with | true=>.In | false=>.NotIn)) (hN:X.N[i]? = some y) (hv:Vis X.env.scope y) (n1:(y == ("__debug__" : Str))=false) (n2:(y == ("__classdict__" : Str))=false) (he:PE X x (tE C g)) :
  PE X (.Compare x [op] [.Name y p] pos) (tE C fun ρ=>match ρ[i]? with
  |some (.dct m _)=>(g ρ).bind fun x=>qgK m n x.d
  |_=>.bad):=by
 cases n with
 |true=>subst hop;exact qaf (pe_cmp (pc_din (by omega) he (pe_var (i:=i) hN hv n1 n2)) rfl) fun σ H Q q=>qgj q
 |false=>subst hop;exact qaf (pe_cmp (pc_dnotin (by omega) he (pe_var (i:=i) hN hv n1 n2)) rfl) fun σ H Q q=>qgj q
theorem qql {n:Bool} {op:CmpOp} {i:Nat} {x:Expr} {y:Str} {g:List Sl→RE ER} {p pos:Pos} (hu:X.A.units+65<cLine) (hop:op=(match n with | true=>.In | false=>.NotIn)) (hN:X.N[i]? = some y) (hv:Vis X.env.scope y) (n1:(y == ("__debug__" : Str))=false) (n2:(y == ("__classdict__" : Str))=false) (he:PE X x (tE C g)) :
  PT X (.Compare x [op] [.Name y p] pos) (tT C fun ρ=>(match ρ[i]? with
  |some (.dct m _)=>(g ρ).bind fun x=>qgK m n x.d
  |_=>.bad).bind fun x=>qjn x.d):=by
 have key:∀(ρ:List Sl) (er:ER),(match ρ[i]? with
  |some (Sl.dct m _)=>(g ρ).bind fun x=>qgK m n x.d
  |_=>RE.bad)=RE.ok er→∃k,er=ER.val (.bl k) true:=fun ρ er e=>by
  split at e
  ·cases e1:g ρ<;>simp only[e1,RE.bind_ok,RE.bind_bad,RE.bind_exc] at e<;>try cases e
   unfold qgK at e
   split at e
   ·cases e;exact⟨_,rfl⟩
   ·cases e
  ·cases e
 cases n with
 |true=>subst hop;exact qec (pt_cmp (pc_din (by omega) he (pe_var (i:=i) hN hv n1 n2)) rfl) fun σ H Q q=>qgj (qfF key q)
 |false=>subst hop;exact qec (pt_cmp (pc_dnotin (by omega) he (pe_var (i:=i) hN hv n1 n2)) rfl) fun σ H Q q=>qgj (qfF key q)
theorem qtb {i:Nat} {x:Expr} {y:Str} {g:List Sl→RE ER} {p pos:Pos} (hu:X.A.units+65<cLine) (hN:X.N[i]? = some y) (hv:Vis X.env.scope y) (n1:(y == ("__debug__" : Str))=false) (n2:(y == ("__classdict__" : Str))=false) (he:PE X x (tE C g)) (hs:qdB x=true) :
  PE X (.Subscript (.Name y p) x pos) (tE C fun ρ=>match ρ[i]? with
  |some (.dct m b)=>(g ρ).bind fun x=>qqC m b x.d
  |_=>.bad):=qaf (pe_dget (by omega) (pe_var (i:=i) hN hv n1 n2) he (fun o v=>qtP hs o v)) fun σ H Q q=>qtJ q
theorem qqJ {i:Nat} {x:Str} {p p2 pos:Pos} (hN:X.N.Nodup) (hi:X.N[i]? = some x) (hx:Loc X.env.scope x) (hf:X.fn x=true∨X.env.scope.names.lookup x=some .local):PS X (.Assign [.Name x p] (.Dict [] [] p2) pos) (tS C fun ρ=>.nx (ρ.set i (.dct [] true))):=
 qag (ps_asg pe_dnewK (pg_name hN hi hx hf)) fun D σ H q=>qqz q
theorem qp8 {i:Nat} {x:Str} {y v:Expr} {g gi:List Sl→RE ER} {p p2 pos:Pos} (hu:X.A.units+65<cLine) (hN:X.N[i]? = some x) (hv:Vis X.env.scope x) (n1:(x == ("__debug__" : Str))=false) (n2:(x == ("__classdict__" : Str))=false) (hy:PE X y (tE C gi)) (hg:PE X v (tE C g)):PS X (.Assign [.Subscript (.Name x p) y p2] v pos) (tS C fun ρ=>(g ρ).out fun x=>held x fun d b=>qmO ρ i fun m c=>(gi ρ).out fun k=>match k.d with
  |.int k=>gdO (leB (m.length+1)) (.nx (ρ.set i (.dct (dput k d m) (b&&c))))
  |_=>.bad):=
 qag (ps_dput (by omega) (pe_var (i:=i) hN hv n1 n2) hy hg (by cases v<;>rfl)) fun D σ H q=>qpQ q
theorem SR.offp {P0 N0 H0:Hp} {p:Addr} {u:HO} (S0:SR C P0 N0 H0 ρ σ) (h0:H0 p=none) (S:SR C P N H ρ σ) (pP:P p=none) (pN:N p=none):SR C P N (upd H p u) ρ σ where
 reg:=⟨qaL S.reg.pH pP,qaL S.reg.nH pN,qaL S.reg.bH (S0.reg.bH.free h0),S.reg.rB,S.reg.p0,S.reg.pn,S.reg.nw,S.reg.dj⟩
 len:=S.len
 sl:=fun j s ej=>by
  obtain⟨o,y1,y2⟩:=S.sl j s ej
  obtain⟨o',w1,w2⟩:=S0.sl j s ej
  rw[y1] at w1
  cases w1
  refine⟨o,y1,?_⟩
  cases s with
  |non=>trivial
  |val d b=>exact y2
  |own es c =>
   obtain⟨r,ys,y3,y4,y5⟩:=y2
   obtain⟨r',ys',x3,x4,_⟩:=w2
   rw[y3] at x3;cases x3
   have hr:r≠p:=fun er=>by rw[er,h0] at x4;cases x4
   exact⟨r,ys,y3,by rw[upd_ne hr];exact y4,y5⟩
  |slf c fs =>
   obtain⟨r,dx,ys,y3,y4,y5⟩:=y2
   obtain⟨r',dx',ys',x3,x4,_⟩:=w2
   have e:r=r':=y3.1.trans x3.1.symm
   have hr:r≠p:=fun er=>by rw[←e,er,h0] at x4;cases x4
   exact⟨r,dx,ys,y3,by rw[upd_ne hr];exact y4,y5⟩
  |fxd d k=>exact y2
  |dct m c =>
   obtain⟨r,ys,y3,y4,y5⟩:=y2
   obtain⟨r',ys',x3,x4,_⟩:=w2
   rw[y3] at x3;cases x3
   have hr:r≠p:=fun er=>by rw[er,h0] at x4;cases x4
   exact⟨r,ys,y3,by rw[upd_ne hr];exact y4,y5⟩
 ap:=S.ap
 ad:=S.ad
theorem qqq {go g:List Sl→RE ER} {D:Ends} {K:PySem.W.Frag} (q:tS C (fun ρ=>(go ρ).out fun x=>match x with
  |.fre ds _=>(g ρ).out fun y=>held y fun _ _=>gdO (leB (ds.length+1)) (.nx ρ)
  |_=>.bad) D σ H):tDrop (tBM K "list" rAppend (tE C go) (tCons (tE C g) tNil)) D σ H:=by
 obtain⟨ρ,P,N,S,h⟩:=q
 refine⟨ρ,P,N,S,(h.res S.reg).mono fun x P1 N1 H1 _ a1 h1 v rv=>?_⟩
 have S1:=S.adv a1
 cases x with
 |val _ _=>exact h1.elim
 |brw _ _=>exact h1.elim
 |fre ds b =>
  obtain⟨p,xs,rfl,z1,z2,z3,z4,z5⟩:=rv
  refine⟨.inl ⟨rfl,xs,.inl (.inl z1)⟩,ρ,P1,N1,S1,((h1.adv a1.pp a1.nn).res S1.reg).mono fun y P2 N2 H2 _ a2 h2 u ru=>?_⟩
  obtain⟨N3,d,b2,a3,r3,o⟩:=ru.held a2 h2
  simp only[qba,qao] at o
  split at o
  ·rename_i hl
   refine⟨p,xs,u,rfl,rfl,a2.hh _ _ z1,by rw[z5.length];exact hl,?_⟩
   exact o σ P2 N3 _ (SR.offp S z2 (S1.adv a3) (a3.off z1 z3) (a3.offN z1 z4)) a3.pp a3.nn
  ·exact o.elim
theorem qpB {go:List Sl→RE ER} {D:Ends} {K:PySem.W.Frag} (q:tS C (fun ρ=>(go ρ).out fun x=>match x with
  |.fre _ _=>.nx ρ
  |_=>.bad) D σ H):tDrop (tBM0 K "list" rClear (tE C go)) D σ H:=by
 obtain⟨ρ,P,N,S,h⟩:=q
 refine⟨ρ,P,N,S,(h.res S.reg).mono fun x P1 N1 H1 _ a1 h1 v rv=>?_⟩
 cases x with
 |val _ _=>exact h1.elim
 |brw _ _=>exact h1.elim
 |fre ds b =>
  obtain⟨p,xs,rfl,z1,z2,z3,z4,z5⟩:=rv
  exact⟨.inl ⟨rfl,xs,.inl (.inl z1)⟩,p,xs,rfl,rfl,z1,h1 σ P1 N1 _ (SR.offp S z2 (S.adv a1) z3 z4) a1.pp a1.nn⟩
end
end Cm
namespace Cm
open PySem PySem.Spec PyProof.Rows L2
def qu8:Ex→Bool
 |.cmp _ _ _=>true
 |.chn _ _ _ _ _=>true
 |.isN _=>true
 |.notN _=>true
 |.dhas _ _ _=>true
 |_=>false
def qva:Expr→Bool
 |.UnaryOp .Not _ _=>false
 |.BoolOp _ _ _=>false
 |.IfExp _ _ _ _=>false
 |.Compare _ _ _ _=>false
 |_=>true
def tgE (T:Tb) (fc:Option Scope) (sc:Scope):List Nat→List Expr→Bool
 |[],[]=>true
 |i::is,.Name x _::es=>decide (T.N[i]? = some x)&&tgB fc sc x&&tgE T fc sc is es
 |_,_=>false
def qkL (T:Tb) (fc:Option Scope) (sc:Scope) (tg:List Nat) (t:Expr):Bool:=
 match t with
 |.Name x _=>match tg with
  |[i]=>decide (T.N[i]? = some x)&&tgB fc sc x
  |_=>false
 |.Tuple es _ _=>decide (tg.length≠1)&&tgE T fc sc tg es
 |_=>false
def qnA:Expr→Bool
 |.Tuple _ _ _=>true
 |_=>false
def qvI (T:Tb) (sc:Scope):List Nat→List Expr→Bool
 |[],[]=>true
 |k::ks,.Name n _::es=>decide ((T.ck[k]?).map (·.1)=some n)&&glB sc n&&nmB n&&qvI T sc ks es
 |_,_=>false
mutual
def qai (T:Tb):Ex→Option Scope→Scope→Expr→Bool
 |.nev,_,_,_=>true
 |.var i,_,sc,e=>match e with
  |.Name x _=>decide (T.N[i]? = some x)&&qiH sc x&&nmB x
  |_=>false
 |.cint i,_,_,e=>match e with
  |.Constant (.int j) _ _=>decide (i=j)
  |_=>false
 |.cbl i,_,_,e=>match e with
  |.Constant (.bool j) _ _=>decide (i=j)
  |_=>false
 |.cnon,_,_,e=>match e with
  |.Constant .none _ _=>true
  |_=>false
 |.cstr s,_,_,e=>match e with
  |.Constant (.str x) _ _=>decide (x=qaA s)
  |_=>false
 |.glo k,_,sc,e=>match e with
  |.Name x _=>decide (T.gc[k]? = some x)&&glB sc x&&nmB x
  |_=>false
 |.bin o a b,fc,sc,e=>match e with
  |.BinOp x op y _=>decide (op=qwN o)&&qai T a fc sc x&&qai T b fc sc y
  |_=>false
 |.cmp o a b,fc,sc,e=>match e with
  |.Compare x [op] [y] _=>decide (op=qi1 o) && !behindInMarks (qi1 o) y&&qai T a fc sc x&&qai T b fc sc y
  |_=>false
 |.chn o p a b c,fc,sc,e=>match e with
  |.Compare x [op,op'] [y,z] _=>decide (op=qi1 o)&&decide (op'=qi1 p) && !lastMarks [qi1 o,qi1 p] [y,z]&&qai T a fc sc x&&qai T b fc sc y&&qai T c fc sc z
  |_=>false
 |.isN a,fc,sc,e=>match e with
  |.Compare x [.Is] [.Constant .none _ _] _=>qai T a fc sc x
  |_=>false
 |.notN a,fc,sc,e=>match e with
  |.Compare x [.IsNot] [.Constant .none _ _] _=>qai T a fc sc x
  |_=>false
 |.bop c es,fc,sc,e=>match e with
  |.BoolOp op xs _=>decide (op=qpd c) && !xs.isEmpty&&qbi T es fc sc xs
  |_=>false
 |.bnot a,fc,sc,e=>match e with
  |.UnaryOp .Not x _=>qai T a fc sc x
  |_=>false
 |.neg a,fc,sc,e=>match e with
  |.UnaryOp .USub x _=>qai T a fc sc x
  |_=>false
 |.ife c a b,fc,sc,e=>match e with
  |.IfExp t x y _=>qos T c fc sc t&&qai T a fc sc x&&qai T b fc sc y
  |_=>false
 |.tup es,fc,sc,e=>match e with
  |.Tuple xs _ _=>qbi T es fc sc xs&&xs.all qad&&decide (xs.length<1000)
  |_=>false
 |.lst es,fc,sc,e=>match e with
  |.List xs _=>qbi T es fc sc xs&&xs.all qad&&decide (xs.length<1000)
  |_=>false
 |.idx a i,fc,sc,e=>match e with
  |.Subscript x y _=>qai T a fc sc x&&qai T i fc sc y&&qdB y
  |_=>false
 |.slc a lo hi,fc,sc,e=>match e with
  |.Subscript x (.Slice l h none _) _=>qai T a fc sc x&&qt5 T lo fc sc l&&qt5 T hi fc sc h
  |_=>false
 |.rev a,fc,sc,e=>match e with
  |.Subscript x (.Slice none none (some (.UnaryOp .USub (.Constant (.int j) _ _) _)) _) _=>decide (j=1)&&qai T a fc sc x
  |_=>false
 |.call f es,fc,sc,e=>match e with
  |.Call (.Name x _) xs [] _=>decide (T.fn[f]? = some (x,xs.length))&&glB sc x&&nmB x&&qbi T es fc sc xs&&xs.all qad
  |_=>false
 |.callc f es,fc,sc,e=>match e with
  |.Call (.Name x _) xs [] _=>decide (T.fn[f]? = some (x,xs.length))&&glB sc x&&nmB x&&qbi T es fc sc xs&&xs.all qad
  |_=>false
 |.pri p es,fc,sc,e=>match e with
  |.Call (.Name x _) xs [] _=>decide (x=qrx p)&&glB sc x && !xs.isEmpty&&qbi T es fc sc xs&&xs.all qad
  |_=>false
 |.lrng es,fc,sc,e=>match e with
  |.Call (.Name l _) [.Call (.Name r _) xs [] _] [] _=>decide (l=("list" : Str))&&decide (r=("range" : Str))&&glB sc "list" && glB sc "range" && qbi T es fc sc xs&&xs.all qad&&decide (xs.length=1∨xs.length=2)
  |_=>false
 |.mth m o es,fc,sc,e=>match e with
  |.Call (.Attribute x mn apos) xs [] pos=>decide (T.mn[m]? = some (mn,xs.length))&&qai T o fc sc x&&qbi T es fc sc xs&&xs.all qad&&qga x&&decide (xs.length<20)&&(apos.endLine == pos.line)
  |_=>false
 |.bm1 m o a,fc,sc,e=>match e with
  |.Call (.Attribute x mn apos) [y] [] pos=>decide (mn=bmN m)&&qai T o fc sc x&&qai T a fc sc y&&qad y&&qga x&&(apos.endLine == pos.line)
  |_=>false
 |.blen o,fc,sc,e=>match e with
  |.Call (.Attribute x mn apos) [] [] pos=>decide (mn=("bit_length" : Str))&&qai T o fc sc x&&qga x&&(apos.endLine == pos.line)
  |_=>false
 |.fld o f,fc,sc,e=>match e with
  |.Attribute x fn _=>decide (T.fs[f]? = some fn)&&qai T o fc sc x&&qga x
  |_=>false
 |.isi a t,fc,sc,e=>match e with
  |.Call (.Name x _) [y,.Name n _] [] _=>decide (x=("isinstance" : Str))&&decide (n=tyN t)&&glB sc "isinstance" && glB sc (tyN t)&&qai T a fc sc y&&qad y
  |_=>false
 |.lc own it tg cnd e',fc,sc,e=>match e with
  |.ListComp elt [⟨tgt,iter,ifs,0⟩] scope _=>blkC T.N sc scope (own.map fun i=>(T.N.getD i Str.empty,i))&&qpq T it fc sc tgt iter&&qkL T (some scope) (relS scope sc) tg tgt&&tg.all (fun i=>decide (i∈own))&&qpT T cnd (some scope) (relS scope sc) ifs&&qai T e' (some scope) (relS scope sc) elt&&qlZ iter
  |_=>false
 |.inxL o a,fc,sc,e=>match e with
  |.Call (.Attribute x mn apos) [y] [] pos=>decide (mn=("index" : Str))&&qai T o fc sc x&&qai T a fc sc y&&qad y&&qga x&&(apos.endLine == pos.line)
  |_=>false
 |.inxS o a,fc,sc,e=>match e with
  |.Call (.Attribute x mn apos) [y] [] pos=>decide (mn=("index" : Str))&&qai T o fc sc x&&qai T a fc sc y&&qad y&&qga x&&(apos.endLine == pos.line)
  |_=>false
 |.isc a k,fc,sc,e=>match e with
  |.Call (.Name x _) [y,.Name n _] [] _=>decide (x=("isinstance" : Str))&&glB sc "isinstance" && decide ((T.ck[k]?).map (·.1)=some n)&&glB sc n&&nmB n&&qai T a fc sc y&&qad y
  |_=>false
 |.iscT a ks,fc,sc,e=>match e with
  |.Call (.Name x _) [y,.Tuple ns _ _] [] _=>decide (x=("isinstance" : Str))&&glB sc "isinstance" && decide (ks≠[])&&Nat.ble ks.length 100&&qvI T sc ks ns&&qai T a fc sc y&&qad y
  |_=>false
 |.cntL o a,fc,sc,e=>match e with
  |.Call (.Attribute x mn apos) [y] [] pos=>decide (mn=("count" : Str))&&qai T o fc sc x&&qai T a fc sc y&&qad y&&qga x&&(apos.endLine == pos.line)
  |_=>false
 |.mmd k a d,fc,sc,e=>match e with
  |.Call (.Name x _) [y] [⟨some n,z,_⟩] _=>decide (x=(mmN k:Str))&&decide (n=("default" : Str))&&glB sc x&&qai T a fc sc y&&qad y&&qai T d fc sc z
  |_=>false
 |.din n k a,fc,sc,e=>match e with
  |.Compare x [op] [.Name y _] _=>decide (op=(match n with | true=>.In | false=>.NotIn))&&decide (T.dc[k]? = some y)&&glB sc y&&nmB y&&qai T a fc sc x
  |_=>false
 |.dgi k a,fc,sc,e=>match e with
  |.Subscript (.Name y _) x _=>decide (T.dc[k]? = some y)&&glB sc y&&nmB y&&qai T a fc sc x&&qdB x
  |_=>false
 |.srtL a,fc,sc,e=>match e with
  |.Call (.Name x _) [y] [] _=>decide (x=("sorted" : Str))&&glB sc "sorted" && qai T a fc sc y&&qad y
  |_=>false
 |.sset a,fc,sc,e=>match e with
  |.Call (.Name l _) [.Call (.Name r _) [y] [] _] [] _=>decide (l=("sorted" : Str))&&decide (r=("set" : Str))&&glB sc "sorted" && glB sc "set" && qai T a fc sc y&&qad y
  |_=>false
 |.lrev a,fc,sc,e=>match e with
  |.Call (.Name l _) [.Call (.Name r _) [y] [] _] [] _=>decide (l=("list" : Str))&&decide (r=("reversed" : Str))&&glB sc "list" && glB sc "reversed" && qai T a fc sc y&&qad y
  |_=>false
 |.inxT k a,fc,sc,e=>match e with
  |.Call (.Attribute (.Name x _) mn apos) [y] [] pos=>decide (T.gc[k]? = some x)&&glB sc x&&nmB x&&decide (mn=("index" : Str))&&qai T a fc sc y&&qad y&&(apos.endLine == pos.line)
  |_=>false
 |.lset a,fc,sc,e=>match e with
  |.Call (.Name l _) [.Call (.Name r _) [y] [] _] [] _=>decide (l=("len" : Str))&&decide (r=("set" : Str))&&glB sc "len" && glB sc "set" && qai T a fc sc y&&qad y
  |_=>false
 |.new k es,fc,sc,e=>match e with
  |.Call (.Name x _) xs [] _=>decide (T.nw[k]? = some (x,xs.length))&&glB sc x&&nmB x&&qbi T es fc sc xs&&xs.all qad
  |_=>false
 |.dhas n i a,fc,sc,e=>match e with
  |.Compare x [op] [.Name y _] _=>decide (op=(match n with | true=>.In | false=>.NotIn))&&decide (T.N[i]? = some y)&&qiH sc y&&nmB y&&qai T a fc sc x
  |_=>false
 |.dat i a,fc,sc,e=>match e with
  |.Subscript (.Name y _) x _=>decide (T.N[i]? = some y)&&qiH sc y&&nmB y&&qai T a fc sc x&&qdB x
  |_=>false
 |.sfd i f,_,sc,e=>match e with
  |.Attribute (.Name x _) fn _=>decide (T.N[i]? = some x)&&qiH sc x&&nmB x&&decide (T.fs[f]? = some fn)
  |_=>false
def qbi (T:Tb):Exs→Option Scope→Scope→List Expr→Bool
 |.nil,_,_,xs=>xs.isEmpty
 |.cons e es,fc,sc,xs=>match xs with
  |x::xs=>qai T e fc sc x&&qbi T es fc sc xs
  |[]=>false
def qt5 (T:Tb):Exs→Option Scope→Scope→Option Expr→Bool
 |.nil,_,_,x=>x.isNone
 |.cons e _,fc,sc,x=>match x with
  |some x=>qai T e fc sc x
  |none=>false
def qos (T:Tb):Te→Option Scope→Scope→Expr→Bool
 |.val e,fc,sc,x=>qai T e fc sc x&&(qu8 e||qva x)
 |.bop c ts,fc,sc,x=>match x with
  |.BoolOp op xs _=>decide (op=qpd c) && !xs.isEmpty&&qmJ T ts fc sc xs
  |_=>false
 |.not t,fc,sc,x=>match x with
  |.UnaryOp .Not x _=>qos T t fc sc x
  |_=>false
def qmJ (T:Tb):Tes→Option Scope→Scope→List Expr→Bool
 |.nil,_,_,xs=>xs.isEmpty
 |.cons t ts,fc,sc,xs=>match xs with
  |x::xs=>qos T t fc sc x&&qmJ T ts fc sc xs
  |[]=>false
def qpT (T:Tb):Tes→Option Scope→Scope→List Expr→Bool
 |.nil,_,_,xs=>xs.isEmpty
 |.cons t ts,fc,sc,xs=>match xs with
  |[x]=>qos T t fc sc x&&(match ts with
   |.nil=>true
   |_=>false)
  |_=>false
def qpq (T:Tb):Itx→Option Scope→Scope→Expr→Expr→Bool
 |.any e,fc,sc,_,x=>qai T e fc sc x
 |.rng es,fc,sc,_,x=>match x with
  |.Call (.Name r _) xs [] _=>decide (r=("range" : Str))&&glB sc "range" && qbi T es fc sc xs&&xs.all qad&&decide (xs.length=1∨xs.length=2∨xs.length=3)
  |_=>false
 |.zp a b,fc,sc,t,x=>match x with
  |.Call (.Name r _) [y,z] [] _=>decide (r=("zip" : Str))&&glB sc "zip" && qai T a fc sc y&&qai T b fc sc z&&qad y&&qad z&&qnA t
  |_=>false
 |.en a,fc,sc,t,x=>match x with
  |.Call (.Name r _) [y] [] _=>decide (r=("enumerate" : Str))&&glB sc "enumerate" && qai T a fc sc y&&qad y&&qnA t
  |_=>false
 |.rv a,fc,sc,_,x=>match x with
  |.Call (.Name r _) [y] [] _=>decide (r=("reversed" : Str))&&glB sc "reversed" && qai T a fc sc y&&qad y
  |_=>false
 |.rvr a,fc,sc,_,x=>match x with
  |.Call (.Name r _) [.Call (.Name r2 _) [y] [] _] [] _=>decide (r=("reversed" : Str))&&decide (r2=("range" : Str))&&glB sc "reversed" && glB sc "range" && qai T a fc sc y&&qad y
  |_=>false
end
structure XOk (T:Tb) (Γ:Env) (C:Ctx) (X:Cx) (fc:Option Scope) (sc:Scope):Prop where
 nm:X.N=T.N
 nd:X.N.Nodup
 sc:X.env.scope=sc
 K:X.K=C.G.K
 tk:Takes X C.W
 calm:X.calm=true
 un:X.A.units+65<cLine
 blt:∀x∈bltNames,X.mg x=none
 fnc:match fc with
  |none=>X.fn=fun _=>true
  |some so=>X.fn=fun x=>so.names.lookup x == some .cell
 fn:∀(f:Nat) (x:Str) (n:Nat),T.fn[f]? = some (x,n)→∀g,Γ.fn[f]? = some g→∃(k:Nat) (a:Addr) (fd:FuncData) (ps:List Str) (m:Nat) (gf:List Cm.D→RE ER),FnOk X.prog X.w X.K X.mg X.base (L2.CX X.prog X.w) k a fd ps (spD C.G (n+m) gf)∧Room k X.A∧X.mg x=some (.ref a)∧PySem.W.keepIn X.K (.ref a)=true∧Part X.K C.G fd ps n m g.2 gf
 gc:∀(k:Nat) (x:Str),T.gc[k]? = some x→∀c,Γ.gc[k]? = some c→∃u v,X.mg x=some u∧RelV v u∧(∀P N,RepB C P N true c.2 v)∧WrT C.G v
 mt:∀(m:Nat) (x:Str) (n:Nat),T.mn[m]? = some (x,n)→∀c g,Γ.mt c m=some g→MtOk C X x c n g
 fs:∀(f:Nat) (x:Str),T.fs[f]? = some x→∀c k,Γ.fi c f=some k→FdOk C X x c k
 nw:∀(k:Nat) (x:Str) (n:Nat),T.nw[k]? = some (x,n)→∀g,Γ.nw[k]? = some g→NwOk C X x g.1 n g.2
 ck:∀(k:Nat) (x:Str) (own:Bool),T.ck[k]? = some (x,own)→CkOk C.G X.K X.mg x own Γ.ck[k]? Γ.ik[k]?
 xk:∀(k:Nat) (x:Str),T.xk[k]? = some x→∀c,Γ.xk[k]? = some c→RsOk X.K X.mg (C.G.ca c) x
 dc:∀(k:Nat) (x:Str),T.dc[k]? = some x→∀t,Γ.dc[k]? = some t→qtV C.G X.K X.w X.mg x t.2
end Cm
namespace Cm
open PySem PySem.Spec PyProof.Rows L2
theorem qak {C:Ctx} {X:Cx} {e:Expr} {g g':List Sl→RE ER} (h:PE X e (tE C g')) (q:∀ρ,g ρ=g' ρ):PE X e (tE C g):=by
 have:g=g':=funext q
 rw[this];exact h
theorem qjb {C:Ctx} {X:Cx} {e:Expr} {g g':List Sl→RE Bool} (h:PT X e (tT C g')) (q:∀ρ,g ρ=g' ρ):PT X e (tT C g):=by
 have:g=g':=funext q
 rw[this];exact h
theorem quc {C:Ctx} {X:Cx} {e:Expr} {g g':List Sl→RE Bool} (h:PW X e (tT C g')) (q:∀ρ,g ρ=g' ρ):PW X e (tT C g):=by
 have:g=g':=funext q
 rw[this];exact h
theorem qt3 {C:Ctx} {X:Cx} {e:List Expr} {g g':List Sl→RE (List ER)} (h:PA X e (tA C g')) (q:∀ρ,g ρ=g' ρ):PA X e (tA C g):=by
 have:g=g':=funext q
 rw[this];exact h
theorem quj {C:Ctx} {X:Cx} {e:Option Expr} {g g':List Sl→RE (Option Int)} (h:PO X e (tO C g')) (q:∀ρ,g ρ=g' ρ):PO X e (tO C g):=by
 have:g=g':=funext q
 rw[this];exact h
theorem qkd {C:Ctx} {X:Cx} {t e:Expr} {g g':List Sl→RE Wk} (h:PI X t e (tI C g')) (q:∀ρ,g ρ=g' ρ):PI X t e (tI C g):=by
 have:g=g':=funext q
 rw[this];exact h
theorem qbe {C:Ctx} {X:Cx} {e:Stmt} {g g':List Sl→Out} (h:PS X e (tS C g')) (q:∀ρ,g ρ=g' ρ):PS X e (tS C g):=by
 have:g=g':=funext q
 rw[this];exact h
section
variable {T:Tb} {Γ:Env} {C:Ctx} {X:Cx} {fc:Option Scope} {sc:Scope}
theorem qbN (hs:X.env.scope=sc) {x:Str} (h:qiH sc x=true):Vis X.env.scope x:=by
 rw[hs]
 unfold qiH at h
 unfold Vis
 split at h
 ·exact .inl (by assumption)
 ·exact .inr (.inl (by assumption))
 ·exact .inr (.inr (by assumption))
 ·cases h
theorem qa1 (hs:X.env.scope=sc) {x:Str} (h:glB sc x=true):Gl X x:=by
 unfold glB at h
 show X.env.scope.names.lookup x=_
 rw[hs]
 split at h
 ·assumption
 ·cases h
theorem qbA {x:Str} (h:nmB x=true):(x == ("__debug__" : Str))=false∧(x == ("__classdict__" : Str))=false:=by
 unfold nmB at h
 simp only[Bool.and_eq_true,Bool.not_eq_true'] at h
 exact h
theorem qkX (I:XOk T Γ C X fc sc) {x:Str} (h:tgB fc sc x=true):Loc X.env.scope x∧(X.fn x=true∨X.env.scope.names.lookup x=some .local):=by
 rw[I.sc]
 unfold tgB at h
 split at h
 ·rename_i e
  exact⟨.inl e,.inr e⟩
 ·rename_i e
  refine⟨.inr e,.inl ?_⟩
  have:=I.fnc
  cases fc with
  |none=>simp only at this;rw[this]
  |some so=>simp only at this h;rw[this];exact h
 ·cases h
theorem qo5 {Γ:Env}:∀(es:Exs) (ρ:List Sl) (r:List ER),evs Γ es ρ=.ok r→∀e∈r,e.noF=true
 |.nil,ρ,r,h,e,he=>by
  rw[evs] at h
  cases h
  cases he
 |.cons a es,ρ,r,h,e,he=>by
  rw[evs] at h
  cases q:ev Γ a ρ with
  |bad=>rw[q] at h;cases h
  |exc c fs=>rw[q] at h;cases h
  |ok x =>
   rw[q] at h
   simp only[RE.bind_ok] at h
   cases q2:evs Γ es ρ with
   |bad=>rw[q2] at h;cases h
   |exc c fs=>rw[q2] at h;cases h
   |ok u =>
    rw[q2] at h
    cases h
    rcases List.mem_cons.mp he with z | z
    ·rw[z];exact qsl x
    ·exact qo5 es ρ u q2 e z
theorem qcm:∀(es:Exs) (ρ:List Sl) (r:List ER) (xs:List Expr),qbi T es fc sc xs=true→evs Γ es ρ=.ok r→r.length=xs.length
 |.nil,ρ,r,xs,h,e=>by
  unfold qbi at h
  rw[evs] at e
  cases e
  cases xs with
  |nil=>rfl
  |cons _ _=>cases h
 |.cons a es,ρ,r,xs,h,e=>by
  unfold qbi at h
  cases xs with
  |nil=>cases h
  |cons x xs =>
   simp only[Bool.and_eq_true] at h
   rw[evs] at e
   cases e1:ev Γ a ρ with
   |bad=>rw[e1] at e;cases e
   |exc c fs=>rw[e1] at e;cases e
   |ok v =>
    rw[e1] at e
    cases e2:evs Γ es ρ with
    |bad=>rw[RE.bind_ok,e2] at e;cases e
    |exc c fs=>rw[RE.bind_ok,e2] at e;cases e
    |ok q =>
     rw[RE.bind_ok,e2] at e
     cases e
     simp[qcm es ρ q xs h.2 e2]
theorem qfx {es:Exs} {xs:List Expr} (h:qbi T es fc sc xs=true) (e:xs=[]) (ρ:List Sl):evs Γ es ρ=.ok []:=by
 subst e
 cases es with
 |nil=>rw[evs]
 |cons a es=>unfold qbi at h;cases h
theorem XOk.blk (I:XOk T Γ C X fc sc) {s:Shared} {H:Hp} {scope:Scope} {cl:List (Str × Addr)} {A:Addr} {fp:List Addr}:XOk T Γ C.nx (X.blk s H scope (compEnvC scope cl A X.env) fp) (some scope) (relS scope sc) where
 nm:=I.nm
 nd:=I.nd
 sc:=by
  have:=I.sc
  subst this
  rfl
 K:=I.K
 tk:=takes0
 calm:=I.calm
 un:=I.un
 blt:=I.blt
 fnc:=rfl
 fn:=I.fn
 gc:=I.gc
 mt:=fun m x n h c g e=>by
  obtain⟨h1,h2,h3⟩:=I.mt m x n h c g e
  exact⟨h1,h2,h3⟩
 fs:=fun f x h c k e=>by
  obtain⟨h1,h2,h3,h4⟩:=I.fs f x h c k e
  exact⟨h1,h2,h3,h4⟩
 nw:=fun k x n h g e=>by
  obtain⟨h1⟩:=I.nw k x n h g e
  exact⟨h1⟩
 ck:=I.ck
 xk:=I.xk
 dc:=I.dc
theorem XOk.tr {W:WX} {pn:List (Addr × Obj)} {xe:Value→Shared→Prop} (I:XOk T Γ C X fc sc) (tk:Takes (X.tr pn xe) W):XOk T Γ { C with W:=W } (X.tr pn xe) fc sc where
 nm:=I.nm
 nd:=I.nd
 sc:=I.sc
 K:=I.K
 tk:=tk
 calm:=I.calm
 un:=I.un
 blt:=I.blt
 fnc:=I.fnc
 fn:=I.fn
 gc:=I.gc
 mt:=fun m x n h c g e=>by
  obtain⟨h1,h2,h3⟩:=I.mt m x n h c g e
  exact⟨h1,h2,h3⟩
 fs:=fun f x h c k e=>by
  obtain⟨h1,h2,h3,h4⟩:=I.fs f x h c k e
  exact⟨h1,h2,h3,h4⟩
 nw:=fun k x n h g e=>by
  obtain⟨h1⟩:=I.nw k x n h g e
  exact⟨h1⟩
 ck:=I.ck
 xk:=I.xk
 dc:=I.dc
theorem qg4 (I:XOk T Γ C X fc sc):∀(tg:List Nat) (es:List Expr),tgE T fc sc tg es=true→PGs X es (qkg tg)∧es.length=tg.length∧(assignEach es X.env).length=es.length∧(assignEach es X.env).findIdx? (·.1)=none
 |[],[],_=>⟨pgs_nil,rfl,rfl,rfl⟩
 |i::is,.Name x p::es,h=>by
  unfold tgE at h
  simp only[Bool.and_eq_true,decide_eq_true_eq] at h
  obtain⟨h1,h2⟩:=qkX I h.1.2
  obtain⟨h3,h4,h5,h6⟩:=qg4 I is es h.2
  refine⟨pgs_cons (pg_name I.nd (by rw[I.nm];exact h.1.1) h1 h2) h3 rfl,by simp[h4],?_,?_⟩
  ·show(_::assignEach es X.env).length=_
   simp[h5]
  ·show List.findIdx? (·.1) ((false,_)::assignEach es X.env)=none
   rw[List.findIdx?_cons]
   simp[h6]
 |[],_::_,h=>by cases h
 |_::_,[],h=>by cases h
theorem qgi (I:XOk T Γ C X fc sc) {tg:List Nat} {t:Expr} (h:qkL T fc sc tg t=true):PG X t (tG C tg):=by
 unfold qkL at h
 split at h
 ·split at h
  ·simp only[Bool.and_eq_true,decide_eq_true_eq] at h
   obtain⟨h1,h2⟩:=qkX I h.2
   exact qqp I.nd (by rw[I.nm];exact h.1) h1 h2
  ·cases h
 ·simp only[Bool.and_eq_true,decide_eq_true_eq] at h
  obtain⟨h3,h4,h5,h6⟩:=qg4 I _ _ h.2
  exact qrL I.K I.calm h3 h4 h.1 h5 h6
 ·cases h
end
theorem qru {T:Tb} {Γ:Env} {C:Ctx} {X:Cx} {fc:Option Scope} {sc:Scope} (I:XOk T Γ C X fc sc):∀{ks:List Nat} {es:List Expr},qvI T sc ks es=true→∃(vs:List V) (us:List Value),PA X es (tVs vs)∧ClsVs vs us∧us.length=ks.length ∧
  ∀c b,qqU (ks.map fun k=>Γ.ck[k]?) c=some b→PySem.W.kitAny C.G.K (.ref (C.G.ca c)) us=some b∧(ks≠[]→ExcC C.G.K (C.G.ca c))
 |[],[],_=>⟨[],[],pa_nil,.nil,rfl,fun c b e=>⟨by cases e;rfl,fun h=>absurd rfl h⟩⟩
 |[],_::_,h=>by cases h
 |_::_,[],h=>by cases h
 |k::ks,e::es,h=>by
  unfold qvI at h
  split at h
  ·rename_i heq1 heq2
   cases heq1
  ·rename_i n p heq1 heq2
   cases heq1
   cases heq2
   simp only[Bool.and_eq_true,decide_eq_true_eq] at h
   obtain⟨⟨⟨hk,hg⟩,hn⟩,hr⟩:=h
   obtain⟨vs,us,pa,kv,ul,ok⟩:=qru I hr
   cases q:T.ck[k]? with
   |none=>rw[q] at hk;cases hk
   |some t =>
    obtain⟨x,own⟩:=t
    rw[q] at hk
    cases hk
    obtain⟨v,u,z,h1,_⟩:=I.ck k _ own q
    refine⟨v::vs,u::us,pa_cons (qre (qa1 I.sc hg) (I.blt _ (by decide)) (qbA hn).1 (by rw[I.K] at *;exact z)) pa,.cons z.1 kv,by simp[ul],fun c b e=>?_⟩
    rw[List.map_cons] at e
    cases gq:Γ.ck[k]? with
    |none=>rw[gq] at e;cases e
    |some g =>
     rw[gq] at e
     unfold qqU at e
     cases gc:g c with
     |none=>rw[gc] at e;cases e
     |some b1 =>
      rw[gc] at e
      obtain⟨k1,_,k3⟩:=h1 g gq c b1 gc
      rw[I.K] at k1 k3
      refine⟨?_,fun _=>k3⟩
      unfold PySem.W.kitAny
      rw[k1]
      cases b1 with
      |true=>exact e
      |false=>exact(ok c b e).1
  ·cases h
end Cm
set_option maxHeartbeats 1000000
namespace Cm
open PySem PySem.Spec PyProof.Rows L2
theorem quW (p:Pri):qrx p∈bltNames:=by cases p<;>decide
theorem qww (k:Bool):(mmN k:Str)∈bltNames:=by cases k<;>decide
theorem qv2 (t:Ty):tyN t∈bltNames:=by cases t<;>decide
theorem qs4 {l:List Expr} (h:l.length=1):∃a,l=[a]:=by
 match l,h with
 |[a],_=>exact⟨a,rfl⟩
theorem qlG {l:List Expr} (h:l.length=2):∃a b,l=[a,b]:=by
 match l,h with
 |[a,b],_=>exact⟨a,b,rfl⟩
theorem qhb {l:List Expr} (h:l.length=3):∃a b c,l=[a,b,c]:=by
 match l,h with
 |[a,b,c],_=>exact⟨a,b,c,rfl⟩
mutual
theorem qac {T:Tb} {Γ:Env}:∀(ir:Ex) {C:Ctx} {X:Cx} {fc:Option Scope} {sc:Scope} {e:Expr},XOk T Γ C X fc sc→qai T ir fc sc e=true→PE X e (tE C (ev Γ ir))∧(qu8 ir=true→PT X e (tT C fun ρ=>(ev Γ ir ρ).bind fun x=>qjn x.d))
 |.nev,C,X,fc,sc,e,I,h=>by
  exact⟨qak qdS fun ρ=>by rw[ev],fun z=>by cases z⟩
 |.var i,C,X,fc,sc,e,I,h=>by
  unfold qai at h
  split at h
  case h_2=>cases h
  rename_i x p
  simp only[Bool.and_eq_true,decide_eq_true_eq] at h
  obtain⟨n1,n2⟩:=qbA h.2
  exact⟨qak (qtA (by rw[I.nm];exact h.1.1) (qbN I.sc h.1.2) n1 n2) fun ρ=>by rw[ev]<;>rfl,fun z=>by cases z⟩
 |.cint i,C,X,fc,sc,e,I,h=>by
  unfold qai at h
  split at h
  case h_2=>cases h
  simp only[decide_eq_true_eq] at h
  subst h
  exact⟨qak (qnN (d:=.int i) pe_int fun _ _=>rfl) fun ρ=>by rw[ev];rfl,fun z=>by cases z⟩
 |.cbl i,C,X,fc,sc,e,I,h=>by
  unfold qai at h
  split at h
  case h_2=>cases h
  simp only[decide_eq_true_eq] at h
  subst h
  exact⟨qak (qnN (d:=.bl i) pe_bl fun _ _=>rfl) fun ρ=>by rw[ev];rfl,fun z=>by cases z⟩
 |.cnon,C,X,fc,sc,e,I,h=>by
  unfold qai at h
  split at h
  case h_2=>cases h
  exact⟨qak (qnN (d:=.non) pe_non fun _ _=>rfl) fun ρ=>by rw[ev];rfl,fun z=>by cases z⟩
 |.cstr s,C,X,fc,sc,e,I,h=>by
  unfold qai at h
  split at h
  case h_2=>cases h
  simp only[decide_eq_true_eq] at h
  subst h
  exact⟨qak (qnN (d:=.str s) pe_str fun _ _=>rfl) fun ρ=>by rw[ev];rfl,fun z=>by cases z⟩
 |.glo k,C,X,fc,sc,e,I,h=>by
  unfold qai at h
  split at h
  case h_2=>cases h
  rename_i x p
  simp only[Bool.and_eq_true,decide_eq_true_eq] at h
  obtain⟨n1,n2⟩:=qbA h.2
  cases q:Γ.gc[k]? with
  |none=>exact⟨qak qdS fun ρ=>by rw[ev,q],fun z=>by cases z⟩
  |some c =>
   obtain⟨u,v,h1,h2,h3,_⟩:=I.gc k x h.1.1 c q
   exact⟨qak (qnN (d:=c.2) (pe_glob (qa1 I.sc h.1.2) h1 h2 n1) h3) fun ρ=>by rw[ev,q],fun z=>by cases z⟩
 |.bin o a b,C,X,fc,sc,e,I,h=>by
  unfold qai at h
  split at h
  case h_2=>cases h
  simp only[Bool.and_eq_true,decide_eq_true_eq] at h
  obtain⟨⟨rfl,ha⟩,hb⟩:=h
  exact⟨qak (qt6 (qu7 o) (I.K ▸ qug o) (qac a I ha).1 (qac b I hb).1) fun ρ=>by rw[ev],fun z=>by cases z⟩
 |.cmp o a b,C,X,fc,sc,e,I,h=>by
  unfold qai at h
  split at h
  case h_2=>cases h
  simp only[Bool.and_eq_true,decide_eq_true_eq,Bool.not_eq_true'] at h
  obtain⟨⟨⟨rfl,hm⟩,ha⟩,hb⟩:=h
  exact⟨qak (qrQ I.un I.K (qac a I ha).1 (qac b I hb).1 hm) fun ρ=>by rw[ev],fun _=>qjb (qrM I.un I.K (qac a I ha).1 (qac b I hb).1 hm) fun ρ=>by rw[ev]⟩
 |.chn o p a b c,C,X,fc,sc,e,I,h=>by
  unfold qai at h
  split at h
  case h_2=>cases h
  simp only[Bool.and_eq_true,decide_eq_true_eq,Bool.not_eq_true'] at h
  obtain⟨⟨⟨⟨⟨rfl,rfl⟩,hm⟩,ha⟩,hb⟩,hc⟩:=h
  exact⟨qak (qsP I.un I.K (qac a I ha).1 (qac b I hb).1 (qac c I hc).1 hm) fun ρ=>by rw[ev],fun _=>qjb (qtq I.un I.K (qac a I ha).1 (qac b I hb).1 (qac c I hc).1 hm) fun ρ=>by rw[ev]⟩
 |.isN a,C,X,fc,sc,e,I,h=>by
  unfold qai at h
  split at h
  case h_2=>cases h
  exact⟨qak (qr2 (qac a I h).1) fun ρ=>by rw[ev];rfl,fun _=>qjb (qsU (qac a I h).1) fun ρ=>by rw[ev];rfl⟩
 |.notN a,C,X,fc,sc,e,I,h=>by
  unfold qai at h
  split at h
  case h_2=>cases h
  exact⟨qak (qqy (qac a I h).1) fun ρ=>by rw[ev];rfl,fun _=>qjb (qqQ (qac a I h).1) fun ρ=>by rw[ev];rfl⟩
 |.bop c es,C,X,fc,sc,e,I,h=>by
  unfold qai at h
  split at h
  case h_2=>cases h
  rename_i op xs p
  simp only[Bool.and_eq_true,decide_eq_true_eq,Bool.not_eq_true'] at h
  obtain⟨⟨rfl,hx⟩,he⟩:=h
  exact⟨qak (qoz c es I he (by rintro rfl;cases hx)) fun ρ=>by rw[ev],fun z=>by cases z⟩
 |.bnot a,C,X,fc,sc,e,I,h=>by
  unfold qai at h
  split at h
  case h_2=>cases h
  exact⟨qak (qqr I.K (qac a I h).1) fun ρ=>by rw[ev],fun z=>by cases z⟩
 |.neg a,C,X,fc,sc,e,I,h=>by
  unfold qai at h
  split at h
  case h_2=>cases h
  exact⟨qak (qtH (qac a I h).1) fun ρ=>by rw[ev]<;>rfl,fun z=>by cases z⟩
 |.ife c a b,C,X,fc,sc,e,I,h=>by
  unfold qai at h
  split at h
  case h_2=>cases h
  simp only[Bool.and_eq_true] at h
  exact⟨qak (qrU (qf5 c I h.1.1) (qac a I h.1.2).1 (qac b I h.2).1) fun ρ=>by rw[ev],fun z=>by cases z⟩
 |.tup es,C,X,fc,sc,e,I,h=>by
  unfold qai at h
  split at h
  case h_2=>cases h
  rename_i xs k p
  simp only[Bool.and_eq_true,decide_eq_true_eq] at h
  refine⟨qak (qs5 (qcl es I h.1.1 h.1.2) fun ρ r e=>?_) fun ρ=>by rw[ev],fun z=>by cases z⟩
  rw[qcm es ρ r xs h.1.1 e]
  have:(1000:Nat)≤LIM:=by decide
  omega
 |.lst es,C,X,fc,sc,e,I,h=>by
  unfold qai at h
  split at h
  case h_2=>cases h
  rename_i xs p
  simp only[Bool.and_eq_true,decide_eq_true_eq] at h
  refine⟨qak (qsv (qcl es I h.1.1 h.1.2) fun ρ r e=>?_) fun ρ=>by rw[ev],fun z=>by cases z⟩
  rw[qcm es ρ r xs h.1.1 e]
  have:(1000:Nat)≤LIM:=by decide
  omega
 |.idx a i,C,X,fc,sc,e,I,h=>by
  unfold qai at h
  split at h
  case h_2=>cases h
  simp only[Bool.and_eq_true] at h
  exact⟨qak (qtc I.K (qac a I h.1.1).1 (qac i I h.1.2).1 (qtP h.2)) fun ρ=>by rw[ev],fun z=>by cases z⟩
 |.slc a lo hi,C,X,fc,sc,e,I,h=>by
  unfold qai at h
  split at h
  case h_2=>cases h
  simp only[Bool.and_eq_true] at h
  exact⟨qak (qti I.K (qac a I h.1.1).1 (qrj lo I h.1.2) (qrj hi I h.2)) fun ρ=>by rw[ev],fun z=>by cases z⟩
 |.rev a,C,X,fc,sc,e,I,h=>by
  unfold qai at h
  split at h
  case h_2=>cases h
  simp only[Bool.and_eq_true,decide_eq_true_eq] at h
  obtain⟨rfl,h⟩:=h
  exact⟨qak (qsX I.K (qac a I h).1) fun ρ=>by rw[ev]<;>rfl,fun z=>by cases z⟩
 |.call f es,C,X,fc,sc,e,I,h=>by
  unfold qai at h
  split at h
  case h_2=>cases h
  rename_i x p xs q
  simp only[Bool.and_eq_true,decide_eq_true_eq] at h
  obtain⟨⟨⟨⟨hf,hg⟩,hn⟩,he⟩,hs⟩:=h
  cases e:Γ.fn[f]? with
  |none=>exact⟨qak qdS fun ρ=>by rw[ev,e],fun z=>by cases z⟩
  |some g =>
   obtain⟨k,a,fd,ps,m,gf,F,hr,hm,hk,dv,dvs,dus,hb,hdv,hdm,hdr,hgf⟩:=I.fn f x xs.length hf g e
   exact⟨qak (qqT F hr (qa1 I.sc hg) hm hk hb hdv hdm hdr hgf I.tk (qcl es I he hs) (qbA hn).1 (qdM hs) (fun ρ r e=>qcm es ρ r xs he e) (fun z ρ=>qfx he z ρ)) fun ρ=>by rw[ev,e],fun z=>by cases z⟩
 |.callc f es,C,X,fc,sc,e,I,h=>by
  unfold qai at h
  split at h
  case h_2=>cases h
  rename_i x p xs q
  simp only[Bool.and_eq_true,decide_eq_true_eq] at h
  obtain⟨⟨⟨⟨hf,hg⟩,hn⟩,he⟩,hs⟩:=h
  cases e:Γ.fn[f]? with
  |none=>exact⟨qak qdS fun ρ=>by rw[ev,e],fun z=>by cases z⟩
  |some g =>
   obtain⟨k,a,fd,ps,m,gf,F,hr,hm,hk,dv,dvs,dus,hb,hdv,hdm,hdr,hgf⟩:=I.fn f x xs.length hf g e
   exact⟨qak (qpu F hr (qa1 I.sc hg) hm hk hb hdv hdm hdr hgf I.tk (qcl es I he hs) (qbA hn).1 (qdM hs) (fun ρ r e=>qcm es ρ r xs he e) (fun ρ r e=>qo5 es ρ r e) (fun z ρ=>qfx he z ρ)) fun ρ=>by rw[ev,e]<;>rfl,fun z=>by cases z⟩
 |.pri p es,C,X,fc,sc,e,I,h=>by
  unfold qai at h
  split at h
  case h_2=>cases h
  rename_i x p' xs q
  simp only[Bool.and_eq_true,decide_eq_true_eq,Bool.not_eq_true'] at h
  obtain⟨⟨⟨⟨rfl,hg⟩,hx⟩,he⟩,hs⟩:=h
  cases xs with
  |nil=>cases hx
  |cons y ys =>
   have pl:=qdM (X:=X) hs
   exact⟨qak (qsH I.K I.calm (qa1 I.sc hg) (I.blt _ (quW p)) (qcl es I he hs) (pl.1 _ _ rfl) (pl.2 _ _ _ rfl)) fun ρ=>by rw[ev],fun z=>by cases z⟩
 |.din n k a,C,X,fc,sc,e,I,h=>by
  unfold qai at h
  split at h
  case h_2=>cases h
  rename_i x op y p pos
  simp only[Bool.and_eq_true,decide_eq_true_eq] at h
  obtain⟨⟨⟨⟨hop,hk⟩,hg⟩,hn⟩,ha⟩:=h
  cases q:Γ.dc[k]? with
  |none=>exact⟨qak qdS fun ρ=>by rw[ev,q],fun z=>by cases z⟩
  |some t=>exact⟨qak (qtd hop (qa1 I.sc hg) (qbA hn).1 (I.dc k y hk t q) (qac a I ha).1) fun ρ=>by rw[ev,q],fun z=>by cases z⟩
 |.dgi k a,C,X,fc,sc,e,I,h=>by
  unfold qai at h
  split at h
  case h_2=>cases h
  rename_i y p x pos
  simp only[Bool.and_eq_true,decide_eq_true_eq] at h
  obtain⟨⟨⟨⟨hk,hg⟩,hn⟩,ha⟩,hs⟩:=h
  cases q:Γ.dc[k]? with
  |none=>exact⟨qak qdS fun ρ=>by rw[ev,q],fun z=>by cases z⟩
  |some t=>exact⟨qak (qst (qa1 I.sc hg) (qbA hn).1 (qtP hs) (I.dc k y hk t q) (qac a I ha).1) fun ρ=>by rw[ev,q],fun z=>by cases z⟩
 |.dhas n i a,C,X,fc,sc,e,I,h=>by
  unfold qai at h
  split at h
  case h_2=>cases h
  rename_i x op y p pos
  simp only[Bool.and_eq_true,decide_eq_true_eq] at h
  obtain⟨⟨⟨⟨hop,h1⟩,h2⟩,h3⟩,ha⟩:=h
  obtain⟨n1,n2⟩:=qbA h3
  exact⟨qak (qqv I.un hop (by rw[I.nm];exact h1) (qbN I.sc h2) n1 n2 (qac a I ha).1) fun ρ=>by rw[ev]<;>rfl,fun _=>qjb (qql I.un hop (by rw[I.nm];exact h1) (qbN I.sc h2) n1 n2 (qac a I ha).1) fun ρ=>by rw[ev]<;>rfl⟩
 |.dat i a,C,X,fc,sc,e,I,h=>by
  unfold qai at h
  split at h
  case h_2=>cases h
  rename_i y p x pos
  simp only[Bool.and_eq_true,decide_eq_true_eq] at h
  obtain⟨⟨⟨⟨h1,h2⟩,h3⟩,ha⟩,hs⟩:=h
  obtain⟨n1,n2⟩:=qbA h3
  exact⟨qak (qtb I.un (by rw[I.nm];exact h1) (qbN I.sc h2) n1 n2 (qac a I ha).1 hs) fun ρ=>by rw[ev]<;>rfl,fun z=>by cases z⟩
 |.srtL a,C,X,fc,sc,e,I,h=>by
  unfold qai at h
  split at h
  case h_2=>cases h
  simp only[Bool.and_eq_true,decide_eq_true_eq] at h
  obtain⟨⟨⟨rfl,hg⟩,ha⟩,hs⟩:=h
  exact⟨qak (qty I.K I.un (qa1 I.sc hg) (I.blt _ (by decide)) (qac a I ha).1 (qab hs)) fun ρ=>by rw[ev],fun z=>by cases z⟩
 |.lrng es,C,X,fc,sc,e,I,h=>by
  unfold qai at h
  split at h
  case h_2=>cases h
  rename_i l p1 r p2 xs p3 p4
  simp only[Bool.and_eq_true,decide_eq_true_eq] at h
  obtain⟨⟨⟨⟨⟨⟨rfl,rfl⟩,hg⟩,hg2⟩,he⟩,hs⟩,hl⟩:=h
  refine⟨?_,fun z=>by cases z⟩
  have m1:=I.blt "list" (by decide)
  have m2:=I.blt "range" (by decide)
  cases es with
  |nil =>
   cases xs with
   |nil=>simp at hl
   |cons _ _=>unfold qbi at he;cases he
  |cons a es =>
   cases xs with
   |nil=>simp at hl
   |cons x xs =>
    unfold qbi at he
    simp only[Bool.and_eq_true] at he
    simp only[List.all_cons,Bool.and_eq_true] at hs
    have h1:=(qac a I he.1).1
    cases es with
    |nil =>
     cases xs with
     |cons _ _=>have:=he.2;unfold qbi at this;cases this
     |nil =>
      refine qak (qaf (pe_listRg I.calm (qa1 I.sc hg) m1 (prg_1 (qa1 I.sc hg2) m2 h1 (qab hs.1)) rfl) fun σ H Q q=>qoP q) fun ρ=>?_
      rw[ev,evs,evs]
    |cons b es =>
     cases xs with
     |nil=>have:=he.2;unfold qbi at this;cases this
     |cons y xs =>
      have he2:=he.2
      unfold qbi at he2
      simp only[Bool.and_eq_true] at he2
      simp only[List.all_cons,Bool.and_eq_true] at hs
      have h2:=(qac b I he2.1).1
      cases xs with
      |cons _ _=>simp at hl
      |nil =>
       cases es with
       |cons _ _=>have:=he2.2;unfold qbi at this;cases this
       |nil =>
        refine qak (qaf (pe_listRg I.calm (qa1 I.sc hg) m1 (prg_2 (qa1 I.sc hg2) m2 h1 h2 (qab hs.1) (qab hs.2.1) (qeq (by simp[hs.2.1]))) rfl) fun σ H Q q=>qoj q) fun ρ=>?_
        rw[ev,evs,evs,evs]
 |.mth m o es,C,X,fc,sc,e,I,h=>by
  unfold qai at h
  split at h
  case h_2=>cases h
  rename_i x mn apos xs pos
  simp only[Bool.and_eq_true,decide_eq_true_eq] at h
  obtain⟨⟨⟨⟨⟨⟨hm,ho⟩,he⟩,hs⟩,hb⟩,hn⟩,hl⟩:=h
  exact⟨qak (qtL (mt:=fun c=>Γ.mt c m) (fun c g' e=>I.mt m mn xs.length hm c g' e) I.tk (qac o I ho).1 (qcl es I he hs) (qdM hs) (fun ρ r e=>qcm es ρ r xs he e) (fun z ρ=>qfx he z ρ) (qp2 hb hs hn hl)) fun ρ=>by rw[ev]<;>rfl,fun z=>by cases z⟩
 |.bm1 m o a,C,X,fc,sc,e,I,h=>by
  unfold qai at h
  split at h
  case h_2=>cases h
  simp only[Bool.and_eq_true,decide_eq_true_eq] at h
  obtain⟨⟨⟨⟨⟨rfl,ho⟩,ha⟩,hs⟩,hb⟩,hl⟩:=h
  exact⟨qak (qt2 I.K (qac o I ho).1 (qac a I ha).1 (qab hs) (qcR hb) hl) fun ρ=>by rw[ev]<;>rfl,fun z=>by cases z⟩
 |.blen o,C,X,fc,sc,e,I,h=>by
  unfold qai at h
  split at h
  case h_2=>cases h
  simp only[Bool.and_eq_true,decide_eq_true_eq] at h
  obtain⟨⟨⟨rfl,ho⟩,hb⟩,hl⟩:=h
  exact⟨qak (qpK (qac o I ho).1 (qcR hb) hl) fun ρ=>by rw[ev]<;>rfl,fun z=>by cases z⟩
 |.fld o f,C,X,fc,sc,e,I,h=>by
  unfold qai at h
  split at h
  case h_2=>cases h
  rename_i x fn p
  simp only[Bool.and_eq_true,decide_eq_true_eq] at h
  obtain⟨⟨hf,ho⟩,hb⟩:=h
  exact⟨qak (qsA (fi:=fun c=>Γ.fi c f) I.K (fun c k e=>I.fs f fn hf c k e) (qac o I ho).1 (qcR hb)) fun ρ=>by rw[ev]<;>rfl,fun z=>by cases z⟩
 |.isc a k,C,X,fc,sc,e,I,h=>by
  unfold qai at h
  split at h
  case h_2=>cases h
  simp only[Bool.and_eq_true,decide_eq_true_eq] at h
  obtain⟨⟨⟨⟨⟨⟨rfl,hg⟩,hk⟩,hg2⟩,hn⟩,ha⟩,hs⟩:=h
  obtain⟨n1,n2⟩:=qbA hn
  cases q:T.ck[k]? with
  |none=>rw[q] at hk;cases hk
  |some t =>
   obtain⟨x,own⟩:=t
   rw[q] at hk
   cases hk
   exact⟨qak (qtz I.K (qa1 I.sc hg) (I.blt _ (by decide)) (I.blt _ (by decide)) (qa1 I.sc hg2) n1 (I.ck k x own q) (qac a I ha).1 (qab hs) rfl) fun ρ=>by rw[ev],fun z=>by cases z⟩
 |.mmd k a d,C,X,fc,sc,e,I,h=>by
  unfold qai at h
  split at h
  case h_2=>cases h
  simp only[Bool.and_eq_true,decide_eq_true_eq] at h
  obtain⟨⟨⟨⟨⟨rfl,rfl⟩,hg⟩,ha⟩,hs⟩,hd⟩:=h
  exact⟨qak (qu9 I.K I.calm (qa1 I.sc hg) (I.blt _ (qww k)) (qac a I ha).1 (qac d I hd).1 (qab hs)) fun ρ=>by rw[ev],fun z=>by cases z⟩
 |.cntL o a,C,X,fc,sc,e,I,h=>by
  unfold qai at h
  split at h
  case h_2=>cases h
  simp only[Bool.and_eq_true,decide_eq_true_eq] at h
  obtain⟨⟨⟨⟨⟨rfl,ho⟩,ha⟩,hs⟩,hb⟩,hl⟩:=h
  exact⟨qak (qrZ I.K (qac o I ho).1 (qac a I ha).1 hs (qcR hb) hl (by rw[qab hs];rfl)) fun ρ=>by rw[ev]<;>rfl,fun z=>by cases z⟩
 |.isi a t,C,X,fc,sc,e,I,h=>by
  unfold qai at h
  split at h
  case h_2=>cases h
  simp only[Bool.and_eq_true,decide_eq_true_eq] at h
  obtain⟨⟨⟨⟨⟨rfl,rfl⟩,hg⟩,hg2⟩,ha⟩,hs⟩:=h
  exact⟨qak (qsS I.K (qa1 I.sc hg) (I.blt _ (by decide)) (qa1 I.sc hg2) (I.blt _ (qv2 t)) (qac a I ha).1 (qab hs) rfl) fun ρ=>by rw[ev],fun z=>by cases z⟩
 |.lc own it tg cnd e',C,X,fc,sc,e,I,h=>by
  unfold qai at h
  split at h
  case h_2=>cases h
  rename_i elt tgt iter ifs scope p
  simp only[Bool.and_eq_true] at h
  obtain⟨⟨⟨⟨⟨⟨hb,hi⟩,ht⟩,hsub⟩,hc⟩,he⟩,hs⟩:=h
  have hsub':∀i∈tg,i∈own:=fun i hi=>by simpa using List.all_eq_true.mp hsub i hi
  have hb':BlkOk X.N X.env.scope scope (own.map fun i=>(T.N.getD i Str.empty,i)):=by
   rw[I.nm,I.sc];exact blkOk_by hb
  have ho:((own.map fun i=>(T.N.getD i Str.empty,i)).map (·.2))=own:=by
   rw[List.map_map]
   exact List.map_id' own
  have lc:=pe_lc (elt:=elt) (pos:=p) I.calm I.nd (qnp it I hi) hb' (fun s H Cd cl fp=>qgi (I.blk (s:=s) (H:=H) (cl:=cl) (A:=Cd) (fp:=fp)) ht) (fun s H Cd cl fp=>qoW cnd (I.blk (s:=s) (H:=H) (cl:=cl) (A:=Cd) (fp:=fp)) hc) (fun s H Cd cl fp=>(qac e' (I.blk (s:=s) (H:=H) (cl:=cl) (A:=Cd) (fp:=fp)) he).1) (qjg hs)
  rw[ho] at lc
  exact⟨qak (qaf lc fun σ H Q q=>qrs hsub' q) fun ρ=>by rw[ev]<;>rfl,fun z=>by cases z⟩
 |.inxL o a,C,X,fc,sc,e,I,h=>by
  unfold qai at h
  split at h
  case h_2=>cases h
  simp only[Bool.and_eq_true,decide_eq_true_eq] at h
  obtain⟨⟨⟨⟨⟨rfl,ho⟩,ha⟩,hs⟩,hb⟩,hl⟩:=h
  exact⟨qak (qqS I.K (qac o I ho).1 (qac a I ha).1 hs (qcR hb) hl (by rw[qab hs];rfl)) fun ρ=>by rw[ev]<;>rfl,fun z=>by cases z⟩
 |.inxS o a,C,X,fc,sc,e,I,h=>by
  unfold qai at h
  split at h
  case h_2=>cases h
  simp only[Bool.and_eq_true,decide_eq_true_eq] at h
  obtain⟨⟨⟨⟨⟨rfl,ho⟩,ha⟩,hs⟩,hb⟩,hl⟩:=h
  exact⟨qak (qpr (qac o I ho).1 (qac a I ha).1 hs (qcR hb) hl) fun ρ=>by rw[ev]<;>rfl,fun z=>by cases z⟩
 |.lset a,C,X,fc,sc,e,I,h=>by
  unfold qai at h
  split at h
  case h_2=>cases h
  simp only[Bool.and_eq_true,decide_eq_true_eq] at h
  obtain⟨⟨⟨⟨⟨rfl,rfl⟩,hg⟩,hg2⟩,ha⟩,hs⟩:=h
  exact⟨qak (qqM I.K I.calm (qa1 I.sc hg) (I.blt _ (by decide)) (qa1 I.sc hg2) (I.blt _ (by decide)) (qac a I ha).1 hs) fun ρ=>by rw[ev],fun z=>by cases z⟩
 |.sset a,C,X,fc,sc,e,I,h=>by
  unfold qai at h
  split at h
  case h_2=>cases h
  simp only[Bool.and_eq_true,decide_eq_true_eq] at h
  obtain⟨⟨⟨⟨⟨rfl,rfl⟩,hg⟩,hg2⟩,ha⟩,hs⟩:=h
  exact⟨qak (qqx I.K I.calm (qa1 I.sc hg) (I.blt _ (by decide)) (qa1 I.sc hg2) (I.blt _ (by decide)) (qac a I ha).1 hs) fun ρ=>by rw[ev],fun z=>by cases z⟩
 |.iscT a ks,C,X,fc,sc,e,I,h=>by
  unfold qai at h
  split at h
  case h_2=>cases h
  simp only[Bool.and_eq_true,decide_eq_true_eq] at h
  obtain⟨⟨⟨⟨⟨⟨rfl,hg⟩,hz⟩,hl⟩,hn⟩,ha⟩,hs⟩:=h
  obtain⟨vs,us,pa,kv,ul,ok⟩:=qru I hn
  exact⟨qak (qpw I.K (qa1 I.sc hg) (I.blt _ (by decide)) pa kv (by rw[ul,sizeLine_eq];rw[Nat.ble_eq] at hl;omega) (fun c b e=>⟨(ok c b e).1,(ok c b e).2 hz⟩) (qac a I ha).1 hs) fun ρ=>by rw[ev],fun z=>by cases z⟩
 |.lrev a,C,X,fc,sc,e,I,h=>by
  unfold qai at h
  split at h
  case h_2=>cases h
  simp only[Bool.and_eq_true,decide_eq_true_eq] at h
  obtain⟨⟨⟨⟨⟨rfl,rfl⟩,hg⟩,hg2⟩,ha⟩,hs⟩:=h
  exact⟨qak (qp9 I.K I.calm (qa1 I.sc hg) (I.blt _ (by decide)) (qa1 I.sc hg2) (I.blt _ (by decide)) (qac a I ha).1 hs) fun ρ=>by rw[ev],fun z=>by cases z⟩
 |.inxT k a,C,X,fc,sc,e,I,h=>by
  unfold qai at h
  split at h
  case h_2=>cases h
  rename_i x p mn apos y pos
  simp only[Bool.and_eq_true,decide_eq_true_eq] at h
  obtain⟨⟨⟨⟨⟨⟨hk,hg⟩,hn⟩,rfl⟩,ha⟩,hs⟩,hl⟩:=h
  cases q:Γ.gc[k]? with
  |none=>exact⟨qak qdS fun ρ=>by rw[ev,q],fun z=>by cases z⟩
  |some c =>
   obtain⟨u,v,h1,h2,h3,h4⟩:=I.gc k x hk c q
   cases q2:qpt c.2 with
   |none=>exact⟨qak qdS fun ρ=>by simp only[ev,q,q2],fun z=>by cases z⟩
   |some ss=>exact⟨qak (qpH I.K (qa1 I.sc hg) h1 h2 (qbA hn).1 h3 h4 q2 (qac a I ha).1 hs hl) fun ρ=>by simp only[ev,q,q2],fun z=>by cases z⟩
 |.new k es,C,X,fc,sc,e,I,h=>by
  unfold qai at h
  split at h
  case h_2=>cases h
  rename_i x p xs q
  simp only[Bool.and_eq_true,decide_eq_true_eq] at h
  obtain⟨⟨⟨⟨hf,hg⟩,hn⟩,he⟩,hs⟩:=h
  cases e:Γ.nw[k]? with
  |none=>exact⟨qak qdS fun ρ=>by rw[ev,e],fun z=>by cases z⟩
  |some g=>exact⟨qak (qtv (I.nw k x xs.length hf g e) (qa1 I.sc hg) I.tk (qcl es I he hs) (qbA hn).1 (qdM hs) (fun ρ r e=>qcm es ρ r xs he e) (fun z ρ=>qfx he z ρ) rfl) fun ρ=>by rw[ev,e],fun z=>by cases z⟩
 |.sfd i f,C,X,fc,sc,e,I,h=>by
  unfold qai at h
  split at h
  case h_2=>cases h
  rename_i x p fn p'
  simp only[Bool.and_eq_true,decide_eq_true_eq] at h
  obtain⟨⟨⟨h1,h2⟩,h3⟩,h4⟩:=h
  obtain⟨n1,n2⟩:=qbA h3
  exact⟨qak (qaf (pe_fld (pe_var (i:=i) (by rw[I.nm];exact h1) (qbN I.sc h2) n1 n2) rfl) fun σ H Q q=>qsF (fi:=fun c=>Γ.fi c f) (fun c k e=>I.fs f fn h4 c k e) q) fun ρ=>by rw[ev]<;>rfl,fun z=>by cases z⟩
theorem qcl {T:Tb} {Γ:Env}:∀(ir:Exs) {C:Ctx} {X:Cx} {fc:Option Scope} {sc:Scope} {xs:List Expr},XOk T Γ C X fc sc→qbi T ir fc sc xs=true→xs.all qad=true→PA X xs (tA C (evs Γ ir))
 |.nil,C,X,fc,sc,xs,I,h,hs=>by
  unfold qbi at h
  cases xs with
  |nil=>exact qt3 qse fun ρ=>by rw[evs]
  |cons _ _=>cases h
 |.cons a es,C,X,fc,sc,xs,I,h,hs=>by
  unfold qbi at h
  cases xs with
  |nil=>cases h
  |cons x xs =>
   simp only[Bool.and_eq_true] at h
   simp only[List.all_cons,Bool.and_eq_true] at hs
   exact qt3 (qqR (qac a I h.1).1 (qcl es I h.2 hs.2) (qab hs.1)) fun ρ=>by rw[evs]
theorem qoz {T:Tb} {Γ:Env}:∀(c:Bool) (ir:Exs) {C:Ctx} {X:Cx} {fc:Option Scope} {sc:Scope} {xs:List Expr} {pos:Pos},XOk T Γ C X fc sc→qbi T ir fc sc xs=true→xs≠[]→PE X (.BoolOp (qpd c) xs pos) (tE C (qov Γ c ir))
 |c,.nil,C,X,fc,sc,xs,pos,I,h,hn=>by
  unfold qbi at h
  cases xs with
  |nil=>exact absurd rfl hn
  |cons _ _=>cases h
 |c,.cons a es,C,X,fc,sc,xs,pos,I,h,hn=>by
  unfold qbi at h
  cases xs with
  |nil=>cases h
  |cons x xs =>
   simp only[Bool.and_eq_true] at h
   cases xs with
   |nil =>
    cases es with
    |nil=>exact qak (quU (qac a I h.1).1) fun ρ=>by rw[qov,qov]<;>rfl
    |cons _ _=>have:=h.2;unfold qbi at this;cases this
   |cons y ys=>exact qak (qvR (qac a I h.1).1 (qoz c es I h.2 (by simp))) fun ρ=>by rw[qov]<;>rfl
theorem qrj {T:Tb} {Γ:Env}:∀(ir:Exs) {C:Ctx} {X:Cx} {fc:Option Scope} {sc:Scope} {x:Option Expr},XOk T Γ C X fc sc→qt5 T ir fc sc x=true→PO X x (tO C (evO Γ ir))
 |.nil,C,X,fc,sc,x,I,h=>by
  unfold qt5 at h
  cases x with
  |none=>exact quj qq2 fun ρ=>by rw[evO]
  |some _=>cases h
 |.cons a es,C,X,fc,sc,x,I,h=>by
  unfold qt5 at h
  cases x with
  |none=>cases h
  |some x=>exact quj (qqb (qac a I h).1) fun ρ=>by rw[evO]<;>rfl
theorem qf5 {T:Tb} {Γ:Env}:∀(ir:Te) {C:Ctx} {X:Cx} {fc:Option Scope} {sc:Scope} {x:Expr},XOk T Γ C X fc sc→qos T ir fc sc x=true→PT X x (tT C (evT Γ ir))
 |.val e,C,X,fc,sc,x,I,h=>by
  unfold qos at h
  simp only[Bool.and_eq_true,Bool.or_eq_true] at h
  obtain⟨h1,h2⟩:=qac e I h.1
  rcases h.2 with q | q
  ·exact qjb (h2 q) fun ρ=>by rw[evT]
  ·exact qjb (qtF I.K h1 (qvu q)) fun ρ=>by rw[evT]
 |.bop c ts,C,X,fc,sc,x,I,h=>by
  unfold qos at h
  split at h
  case h_2=>cases h
  simp only[Bool.and_eq_true,decide_eq_true_eq,Bool.not_eq_true'] at h
  obtain⟨⟨rfl,hx⟩,he⟩:=h
  exact qjb (qnn c ts I he (by rintro rfl;cases hx)).pt fun ρ=>by rw[evT]
 |.not t,C,X,fc,sc,x,I,h=>by
  unfold qos at h
  split at h
  case h_2=>cases h
  exact qjb (qsh (qf5 t I h)) fun ρ=>by rw[evT]
theorem qnn {T:Tb} {Γ:Env}:∀(c:Bool) (ir:Tes) {C:Ctx} {X:Cx} {fc:Option Scope} {sc:Scope} {xs:List Expr} {pos:Pos},XOk T Γ C X fc sc→qmJ T ir fc sc xs=true→xs≠[]→PW X (.BoolOp (qpd c) xs pos) (tT C (qi4 Γ c ir))
 |c,.nil,C,X,fc,sc,xs,pos,I,h,hn=>by
  unfold qmJ at h
  cases xs with
  |nil=>exact absurd rfl hn
  |cons _ _=>cases h
 |c,.cons a es,C,X,fc,sc,xs,pos,I,h,hn=>by
  unfold qmJ at h
  cases xs with
  |nil=>cases h
  |cons x xs =>
   simp only[Bool.and_eq_true] at h
   cases xs with
   |nil =>
    cases es with
    |nil=>exact quc (quT (qf5 a I h.1)) fun ρ=>by rw[qi4,qi4]
    |cons _ _=>have:=h.2;unfold qmJ at this;cases this
   |cons y ys=>exact quc (qvS (qf5 a I h.1) (qnn c es I h.2 (by simp))) fun ρ=>by rw[qi4]
theorem qoW {T:Tb} {Γ:Env}:∀(ir:Tes) {C:Ctx} {X:Cx} {fc:Option Scope} {sc:Scope} {xs:List Expr},XOk T Γ C X fc sc→qpT T ir fc sc xs=true→PTs X xs (tT C (qi4 Γ true ir))
 |.nil,C,X,fc,sc,xs,I,h=>by
  unfold qpT at h
  cases xs with
  |nil =>
   refine⟨fun pins s σ H Q J q=>pts_nil.run pins s σ H Q J ?_⟩
   obtain⟨ρ,P,N,S,q⟩:=q
   rw[qi4] at q
   exact q.now S.reg
  |cons _ _=>cases h
 |.cons t ts,C,X,fc,sc,xs,I,h=>by
  unfold qpT at h
  split at h
  case h_2=>cases h
  simp only[Bool.and_eq_true] at h
  cases ts with
  |cons _ _=>have:=h.2;cases this
  |nil =>
   have p:=qf5 t I h.1
   refine⟨fun pins s σ H Q J q=>(pts_one p).run pins s σ H Q J ?_⟩
   obtain⟨ρ,P,N,S,q⟩:=q
   rw[qi4,qi4] at q
   refine⟨ρ,P,N,S,q.bind.mono fun k P1 N1 H1 e a1 h1=>?_⟩
   split at h1
   ·rename_i e;subst e;exact h1.now (S.adv a1).reg
   ·exact h1.now (S.adv a1).reg
theorem qnp {T:Tb} {Γ:Env}:∀(ir:Itx) {C:Ctx} {X:Cx} {fc:Option Scope} {sc:Scope} {t x:Expr},XOk T Γ C X fc sc→qpq T ir fc sc t x=true→PI X t x (tI C (evI Γ ir))
 |.any e,C,X,fc,sc,t,x,I,h=>by
  unfold qpq at h
  exact qkd (qso I.K (qac e I h).1) fun ρ=>by rw[evI]
 |.rng es,C,X,fc,sc,t,x,I,h=>by
  unfold qpq at h
  split at h
  case h_2=>cases h
  rename_i r p xs q
  simp only[Bool.and_eq_true,decide_eq_true_eq] at h
  obtain⟨⟨⟨⟨rfl,hg⟩,he⟩,hs⟩,hl⟩:=h
  have m2:=I.blt "range" (by decide)
  have pa:=qcl es I he hs
  rcases hl with hl | hl | hl
  ·obtain⟨a,rfl⟩:=qs4 hl
   simp only[List.all_cons,Bool.and_eq_true] at hs
   exact qkd (qps (qa1 I.sc hg) m2 pa (fun ρ r e=>qcm es ρ r _ he e) (qab hs.1)) fun ρ=>by rw[evI]
  ·obtain⟨a,b,rfl⟩:=qlG hl
   have hs':=hs
   simp only[List.all_cons,Bool.and_eq_true] at hs
   exact qkd (qqN (qa1 I.sc hg) m2 pa (fun ρ r e=>qcm es ρ r _ he e) (by rw[qab hs.1,qab hs.2.1];rfl) (qab hs.2.1)) fun ρ=>by rw[evI]
  ·obtain⟨a,b,c,rfl⟩:=qhb hl
   simp only[List.all_cons,Bool.and_eq_true] at hs
   exact qkd (qqn (qa1 I.sc hg) m2 pa (fun ρ r e=>qcm es ρ r _ he e) (qab hs.1) (qeq (by simp[hs.2.1,hs.2.2.1]))) fun ρ=>by rw[evI]
 |.zp a b,C,X,fc,sc,t,x,I,h=>by
  unfold qpq at h
  split at h
  case h_2=>cases h
  simp only[Bool.and_eq_true,decide_eq_true_eq] at h
  obtain⟨⟨⟨⟨⟨⟨rfl,hg⟩,ha⟩,hb⟩,hs⟩,hs2⟩,ht⟩:=h
  cases t<;>try cases ht
  exact qkd (qun I.K (qa1 I.sc hg) (I.blt _ (by decide)) (qac a I ha).1 (qac b I hb).1 (qab hs) (qab hs2) (qeq (by simp[hs2]))) fun ρ=>by rw[evI]<;>rfl
 |.en a,C,X,fc,sc,t,x,I,h=>by
  unfold qpq at h
  split at h
  case h_2=>cases h
  simp only[Bool.and_eq_true,decide_eq_true_eq] at h
  obtain⟨⟨⟨⟨rfl,hg⟩,ha⟩,hs⟩,ht⟩:=h
  cases t<;>try cases ht
  exact qkd (qut I.K (qa1 I.sc hg) (I.blt _ (by decide)) (qac a I ha).1 (qab hs)) fun ρ=>by rw[evI]<;>rfl
 |.rv a,C,X,fc,sc,t,x,I,h=>by
  unfold qpq at h
  split at h
  case h_2=>cases h
  simp only[Bool.and_eq_true,decide_eq_true_eq] at h
  obtain⟨⟨⟨rfl,hg⟩,ha⟩,hs⟩:=h
  exact qkd (quu I.K (qa1 I.sc hg) (I.blt _ (by decide)) (qac a I ha).1 (qab hs)) fun ρ=>by rw[evI]<;>rfl
 |.rvr a,C,X,fc,sc,t,x,I,h=>by
  unfold qpq at h
  split at h
  case h_2=>cases h
  simp only[Bool.and_eq_true,decide_eq_true_eq] at h
  obtain⟨⟨⟨⟨⟨rfl,rfl⟩,hg⟩,hg2⟩,ha⟩,hs⟩:=h
  exact qkd (qs2 (qa1 I.sc hg) (I.blt _ (by decide)) (qa1 I.sc hg2) (I.blt _ (by decide)) (qac a I ha).1 (qab hs)) fun ρ=>by rw[evI]<;>rfl
end
end Cm
namespace Cm
open PySem PySem.Spec PyProof.Rows L2
def swB (sc:Scope) (x:Str) (pn:Pos) (v:Expr):Bool:=match v with
 |.ListComp _ _ scope pos=>decide (sc.names.lookup x≠some .local)||(match sc.kind with
  |.function=>true
  |_=>false)&&decide (sc.names.lookup x=some .local)&&(pn.line == pos.line) && !(scope.names.any fun(n,k)=>n == x&&(k == .local||k == .cell))
 |.SetComp _ _ _ _=>false
 |.DictComp _ _ _ _ _=>false
 |_=>true
def qu6:Ex→Bool
 |.lc _ _ _ _ _=>true
 |_=>false
def qrk:Expr→Bool
 |.Tuple _ _ _=>false
 |_=>true
def qra (T:Tb) (sc:Scope):List Nat→List Expr→Nat→Bool
 |[],[],_=>true
 |i::is,.Name x p::es,l=>decide (T.N[i]? = some x)&&decide (sc.names.lookup x=some .local)&&(p.line == l)&&qra T sc is es l
 |_,_,_=>false
def qkF (T:Tb) (sc:Scope):Tr→List Stmt→Bool
 |.ex e,ss=>match ss with
  |[.Expr v _]=>qai T e none sc v&&qdi v
  |_=>false
 |.as j e,ss=>match ss with
  |[.Assign [.Name x pn] v _]=>decide (T.N[j]? = some x)&&tgB none sc x&&qai T e none sc v&&(if qu6 e then swB sc x pn v else qdi v)
  |_=>false
 |.iff t a b,ss=>match ss with
  |[.If c xs ys _]=>qos T t none sc c&&qkF T sc a xs&&qkF T sc b ys
  |_=>false
def qn9 (T:Tb) (sc:Scope):Pth→Expr→Bool
 |.var j,e=>match e with
  |.Name x _=>decide (T.N[j]? = some x)&&qiH sc x&&nmB x
  |_=>false
 |.ix p k,e=>match e with
  |.Subscript a (.Constant (.int m) _ _) _=>decide (m=(k:Int))&&qn9 T sc p a
  |_=>false
def qmU (T:Tb) (sc:Scope):Ch1→Stmt→Bool
 |.clr p,s=>match s with
  |.Expr (.Call (.Attribute o mn apos) [] [] cpos) _=>decide (mn=("clear" : Str))&&qn9 T sc p o&&(apos.endLine == cpos.line)
  |_=>false
 |.app p e,s=>match s with
  |.Expr (.Call (.Attribute o mn apos) [y] [] cpos) _=>decide (mn=("append" : Str))&&qn9 T sc p o&&(apos.endLine == cpos.line)&&qai T e none sc y&&qad y
  |_=>false
 |.put p k e,s=>match s with
  |.Assign [.Subscript o (.Constant (.int m) _ _) _] v _=>decide (m=(k:Int))&&qn9 T sc p o&&qai T e none sc v
  |_=>false
def qpn (T:Tb) (sc:Scope):List Ch1→List Stmt→Bool
 |[],[]=>true
 |c::cs,s::ss=>qmU T sc c s&&qpn T sc cs ss
 |_,_=>false
def qgW (T:Tb) (sc:Scope):Ch→List Stmt→Bool
 |.nil,ss=>ss.isEmpty
 |.one c r,ss=>match ss with
  |s::ss=>qmU T sc c s&&qgW T sc r ss
  |[]=>false
 |.wlk l p b r,ss=>match ss with
  |.For (.Name x _) iter body [] _::ss=>decide (T.N[l]? = some x)&&tgB none sc x&&qn9 T sc p iter&&qpn T sc b body&&qgW T sc r ss
  |_=>false
 |.ifs j b r,ss=>match ss with
  |.If (.Compare (.Name x _) [.IsNot] [.Constant .none _ _] _) body [] _::ss=>decide (T.N[j]? = some x)&&qiH sc x&&nmB x&&qgW T sc b body&&qgW T sc r ss
  |_=>false
def qrO (T:Tb) (sc:Scope) (i f:Nat) (es:Exs):Stmt→Bool
 |.Assign [.Name x _] (.Call (.Name g _) xs [] _) _=>decide (T.N[i]? = some x)&&tgB none sc x&&decide (T.fn[f]? = some (g,xs.length))&&glB sc g&&nmB g&&qbi T es none sc xs&&xs.all qad
 |_=>false
mutual
def qeY (T:Tb) (sc:Scope):Sm→Stmt→Bool
 |.nev,_=>true
 |.rse k,s=>match s with
  |.Raise (some (.Call (.Name x _) [.Constant (.str _) _ _] [] _)) none _=>decide (T.xk[k]? = some x)&&glB sc x&&nmB x
  |_=>false
 |.tryx k i j b,s=>match s with
  |.Try body [.ExceptHandler (some (.Name x _)) (some n) [.Assign [.Name m _] (.Name n2 _) _] _] [] [] _=>decide ((T.ck[k]?).map (·.1)=some x)&&glB sc x&&nmB x&&decide (T.N[i]? = some n)&&decide (T.N[j]? = some m)&&decide (n2=n)&&decide (sc.names.lookup n=some .local)&&decide (sc.names.lookup m=some .local)&&nmB n&&decide (i≠j)&&qkF T sc b body
  |_=>false
 |.asg i e,s=>match s with
  |.Assign [.Name x pn] v _=>decide (T.N[i]? = some x)&&tgB none sc x&&qai T e none sc v&&(if qu6 e then swB sc x pn v else qdi v)
  |_=>false
 |.own i e,s=>match s with
  |.Assign [.Name x pn] v _=>decide (T.N[i]? = some x)&&tgB none sc x&&qai T e none sc v&&(if qu6 e then swB sc x pn v else qdi v)
  |_=>false
 |.asgT tg e,s=>match s with
  |.Assign [t] v _=>qkL T none sc tg t&&qnA t&&qai T e none sc v&&qdi v&&qrk v
  |_=>false
 |.par tg es,s=>match s with
  |.Assign [.Tuple ts _ _] (.Tuple vs _ _) _=>qbi T es none sc vs&&vs.all qad&&qra T sc tg ts ((ts.head?.map (·.pos.line)).getD 0) && !vs.all (foldedForSure 8) && !vs.all (constantsAlone 8)&&decide (tg.Nodup)&&decide (ts.length=vs.length)&&decide (ts.length=2∨ts.length=3)&&(match sc.kind with
   |.function=>true
   |_=>false)
  |_=>false
 |.put i ix e,s=>match s with
  |.Assign [.Subscript (.Name x _) y _] v _=>decide (T.N[i]? = some x)&&qiH sc x&&nmB x&&qdB y&&qai T ix none sc y&&qai T e none sc v
  |_=>false
 |.app i e,s=>match s with
  |.Expr (.Call (.Attribute (.Name x _) mn apos) [y] [] cpos) _=>decide (T.N[i]? = some x)&&qiH sc x&&nmB x&&decide (mn=("append" : Str))&&qai T e none sc y&&qad y&&(apos.endLine == cpos.line)
  |_=>false
 |.ext i e,s=>match s with
  |.Expr (.Call (.Attribute (.Name x _) mn apos) [y] [] cpos) _=>decide (T.N[i]? = some x)&&qiH sc x&&nmB x&&decide (mn=("extend" : Str))&&qai T e none sc y&&qad y&&(apos.endLine == cpos.line)
  |_=>false
 |.popv j i,s=>match s with
  |.Assign [.Name z _] (.Call (.Attribute (.Name x _) mn apos) [] [] cpos) _=>decide (T.N[j]? = some z)&&tgB none sc z&&decide (T.N[i]? = some x)&&qiH sc x&&nmB x&&decide (mn=("pop" : Str))&&(apos.endLine == cpos.line)
  |_=>false
 |.clr i,s=>match s with
  |.Expr (.Call (.Attribute (.Name x _) mn apos) [] [] cpos) _=>decide (T.N[i]? = some x)&&qiH sc x&&nmB x&&decide (mn=("clear" : Str))&&(apos.endLine == cpos.line)
  |_=>false
 |.expr e,s=>match s with
  |.Expr v _=>qai T e none sc v&&qdi v
  |_=>false
 |.ret e,s=>match s with
  |.Return (some v) _=>qai T e none sc v
  |_=>false
 |.retN,s=>match s with
  |.Return none _=>true
  |_=>false
 |.pas,s=>match s with
  |.Pass _=>true
  |.Expr (.Constant (.str _) _ _) _=>true
  |_=>false
 |.brk,s=>match s with
  |.Break _=>true
  |_=>false
 |.cnt,s=>match s with
  |.Continue _=>true
  |_=>false
 |.iff c a b,s=>match s with
  |.If t xs ys _=>qos T c none sc t&&qaj T sc a xs&&qaj T sc b ys
  |_=>false
 |.for it tg b,s=>match s with
  |.For t iter body [] _=>qpq T it none sc t iter&&qkL T none sc tg t&&qaj T sc b body&&qlZ iter
  |_=>false
 |.apop i j ix,s=>match s with
  |.Expr (.Call (.Attribute (.Name x _) mn apos) [.Call (.Attribute (.Name y _) mn2 apos2) [z] [] cpos2] [] cpos) _=>decide (T.N[i]? = some x)&&qiH sc x&&nmB x&&decide (mn=("append" : Str))&&(apos.endLine == cpos.line)&&decide (T.N[j]? = some y)&&qiH sc y&&nmB y&&decide (mn2=("pop" : Str))&&(apos2.endLine == cpos2.line)&&qai T ix none sc z&&qad z
  |_=>false
 |.popx i e,s=>match s with
  |.Expr (.Call (.Attribute (.Name x _) mn apos) [y] [] cpos) _=>decide (T.N[i]? = some x)&&qiH sc x&&nmB x&&decide (mn=("pop" : Str))&&qai T e none sc y&&qad y&&(apos.endLine == cpos.line)
  |_=>false
 |.rmv i e,s=>match s with
  |.Expr (.Call (.Attribute (.Name x _) mn apos) [y] [] cpos) _=>decide (T.N[i]? = some x)&&qiH sc x&&nmB x&&decide (mn=("remove" : Str))&&qai T e none sc y&&qad y&&(apos.endLine == cpos.line)
  |_=>false
 |.fset f e,s=>match s with
  |.Assign [.Attribute (.Name x _) fn _] v _=>decide (T.N[0]? = some x)&&qiH sc x&&nmB x&&decide (T.fs[f]? = some fn)&&qai T e none sc v
  |_=>false
 |.tapp o e,s=>match s with
  |.Expr (.Call (.Attribute x mn apos) [y] [] cpos) _=>decide (mn=("append" : Str))&&qai T o none sc x&&qai T e none sc y&&qad y&&qga x&&(apos.endLine == cpos.line)
  |_=>false
 |.tclr o,s=>match s with
  |.Expr (.Call (.Attribute x mn apos) [] [] cpos) _=>decide (mn=("clear" : Str))&&qai T o none sc x&&qga x&&(apos.endLine == cpos.line)
  |_=>false
 |.dnew i,s=>match s with
  |.Assign [.Name x _] (.Dict [] [] _) _=>decide (T.N[i]? = some x)&&tgB none sc x
  |_=>false
 |.dput i ix e,s=>match s with
  |.Assign [.Subscript (.Name x _) y _] v _=>decide (T.N[i]? = some x)&&qiH sc x&&nmB x&&qai T ix none sc y&&qai T e none sc v
  |_=>false
 |.asgO i j f es,s=>match s with
  |.Assign [t] (.Call (.Name g _) xs [] _) _=>qkL T none sc [i,j] t&&qnA t&&decide (T.fn[f]? = some (g,xs.length))&&glB sc g&&nmB g&&qbi T es none sc xs&&xs.all qad
  |_=>false
 |.whl c b,s=>match s with
  |.While t body [] _=>qos T c none sc t&&qaj T sc b body
  |_=>false
def qaj (T:Tb) (sc:Scope):Sms→List Stmt→Bool
 |.nil,ss=>ss.isEmpty
 |.cons s ir,ss=>match ss with
  |st::ss=>qeY T sc s st&&qaj T sc ir ss
  |[]=>false
 |.frz _ ir,ss=>qaj T sc ir ss
 |.hav i f es rd cs ir,ss=>match ss with
  |st::ss=>qrO T sc i f es st&&qaj T sc rd (ss.take rd.len)&&qgW T sc cs ((ss.drop rd.len).take cs.len)&&qaj T sc ir ((ss.drop rd.len).drop cs.len)
  |[]=>false
end
theorem qpP {T:Tb} {own:List Nat} {it:Itx} {tg:List Nat} {cnd:Tes} {e':Ex} {fc:Option Scope} {sc:Scope} {v:Expr} (h:qai T (.lc own it tg cnd e') fc sc v=true):∃elt tgt iter ifs scope p,v=.ListComp elt [⟨tgt,iter,ifs,0⟩] scope p:=by
 unfold qai at h
 split at h
 case h_2=>cases h
 exact⟨_,_,_,_,_,_,rfl⟩
theorem qqd {elt:Expr} {gs:List Comprehension} {scope:Scope} {pos py:Pos} {y:Str} {l:Nat} {env:PySem.Env} (hy:env.scope.names.lookup y≠some .local):swapsWith (.ListComp elt gs scope pos) (some (.Name y py)) l env=pure false:=by
 have ky:(env.kindOf y == some .local)=false:=beq_eq_false_iff_ne.mpr hy
 unfold swapsWith
 simp only[ky]
 simp
section
variable {T:Tb} {Γ:Env} {C:Ctx} {X:Cx} {sc:Scope}
theorem qlf {i:Nat} {e:Ex} {x:Str} {pn pos:Pos} {v:Expr} (I:XOk T Γ C X none sc) (hi:T.N[i]? = some x) (ht:tgB none sc x=true) (hv:qai T e none sc v=true) (hw:(if qu6 e then swB sc x pn v else qdi v)=true):PS X (.Assign [.Name x pn] v pos) (tAsg (tE C (ev Γ e)) (gName i)):=by
 obtain⟨h1,h2⟩:=qkX I ht
 cases e with
 |lc own it tg cnd e' =>
  obtain⟨elt,tgt,iter,ifs,scope,p,rfl⟩:=qpP hv
  have hv0:=hv
  unfold qai at hv
  simp only[Bool.and_eq_true] at hv
  obtain⟨⟨⟨⟨⟨⟨hb,hi'⟩,ht'⟩,hsub⟩,hc⟩,he⟩,hs⟩:=hv
  simp only[qu6,if_true,swB,Bool.or_eq_true,Bool.and_eq_true,decide_eq_true_eq,Bool.not_eq_true'] at hw
  rcases hw with hw | hw
  ·exact ps_set I.nd (by rw[I.nm];exact hi) h1 (qac (.lc own it tg cnd e') I hv0).1 (qqd (by rw[I.sc];exact hw)) h2
  obtain⟨⟨⟨hk,hl⟩,hline⟩,hany⟩:=hw
  have hsub':∀i∈tg,i∈own:=fun i hi=>by simpa using List.all_eq_true.mp hsub i hi
  have hb':BlkOk X.N X.env.scope scope (own.map fun i=>(T.N.getD i Str.empty,i)):=by
   rw[I.nm,I.sc];exact blkOk_by hb
  have ho:((own.map fun i=>(T.N.getD i Str.empty,i)).map (·.2))=own:=by
   rw[List.map_map]
   exact List.map_id' own
  have hk':X.env.scope.kind=.function:=by
   rw[I.sc]
   cases e:sc.kind<;>simp_all
  have hl':X.env.scope.names.lookup x=some .local:=by rw[I.sc];exact hl
  have lc:=ps_setLc (i:=i) (y:=x) (py:=pn) (spos:=pos) (elt:=elt) (pos:=p) I.calm I.nd (by rw[I.nm];exact hi) hl' (sw_true hk' hl' hline hany) (qnp it I hi') hb' (fun s H Cd cl fp=>qgi (I.blk (s:=s) (H:=H) (cl:=cl) (A:=Cd) (fp:=fp)) ht') (fun s H Cd cl fp=>qoW cnd (I.blk (s:=s) (H:=H) (cl:=cl) (A:=Cd) (fp:=fp)) hc) (fun s H Cd cl fp=>(qac e' (I.blk (s:=s) (H:=H) (cl:=cl) (A:=Cd) (fp:=fp)) he).1) (qjg hs)
  rw[ho] at lc
  refine qag lc fun D σ H q=>?_
  have eg:(ev Γ (.lc own it tg cnd e'))=gLc own tg (evI Γ it) (qi4 Γ true cnd) (ev Γ e'):=by funext ρ;rw[ev]<;>rfl
  unfold tAsg at q ⊢
  rw[eg] at q
  exact qrs hsub' q
 |_ =>
  have hc:qdi v=true:=hw
  exact ps_set I.nd (by rw[I.nm];exact hi) h1 (qac _ I hv).1 (qfn hc) h2
theorem qlX {x y:Expr} {p:Pos} {v:Expr} {l:Nat} {env:PySem.Env}:swapsWithSole [.Subscript x y p] v l env=pure false:=by
 cases v<;>rfl
theorem qia {x y:Expr} {p:Pos} {v:Expr} {env:PySem.Env}:swappedStores [.Subscript x y p] v env=pure none:=by
 cases v<;>rfl
theorem qjC {t v:Expr} {env:PySem.Env} (h:qrk v=true):swappedStores [t] v env=pure none:=by
 cases v<;>first | (cases t<;>rfl) | cases h
theorem qoJ {t v:Expr} {l:Nat} {env:PySem.Env} (h:qdi v=true):swapsWithSole [t] v l env=pure false:=qfn h
theorem qoF {x y:Expr} {p:Pos} {env:PySem.Env} (h:qdB y=true) (v:Value):assign (.Subscript x y p) env v=(do
   let ov ←holding [v] (eval x env)
   let iv ←holding [v,ov] (eval y env)
   standAt p
   holding [v,ov,iv] (setItem ov iv v)
   release [v,ov,iv] []):=by
 cases y<;>first | rfl | cases h
theorem qoq {t:Expr} {env:PySem.Env} (h:qnA t=true):(assignEach [t] env).map (·.2)=[assign t env]:=by
 cases t<;>first | rfl | cases h
theorem qeO {e:Expr} {env:PySem.Env} {cpos:Pos} (h:qad e=true):((backTo cpos (starEach [e] env)).all (fun x=>!x.1)&&(backToKw cpos (keywordEach [] env)).all (fun x=>x.1.isSome)
   && decide ([e].length+([]:List Keyword).length+(if ([]:List Keyword).isEmpty then 0 else 1)<30))=true:=by
 rw[qab h];rfl
end
theorem qoL {e:Expr} (h:(match e with
    |Expr.Starred _ _=>true
    |_=>false)=true) (n:qad e=true):False:=by
 cases e<;>first | exact(Bool.false_ne_true n).elim | exact(Bool.false_ne_true h).elim
theorem qrN {x y:Str} {px py pt pt2:Pos} {kt k2:Nat} {a b:Expr} {env:PySem.Env} (hk:env.scope.kind=.function) (hx:env.scope.names.lookup x=some .local) (hy:env.scope.names.lookup y=some .local) (hl:(py.line == px.line)=true) (hxy:x≠y)
  (hs:[a,b].all qad=true) (hf:[a,b].all (foldedForSure 8)=false) (hc:[a,b].all (constantsAlone 8)=false) :
  swappedStores [.Tuple [.Name x px,.Name y py] kt pt] (.Tuple [a,b] k2 pt2) env=pure (some [x,y]):=by
 have kx:env.kindOf x=some .local:=hx
 have ky:env.kindOf y=some .local:=hy
 have bk:env.blockKind=.function:=by unfold Env.blockKind;rw[hk];rfl
 unfold swappedStores
 simp only[List.length_cons,List.length_nil,bk,hf,hc,List.filterMap_cons,List.filterMap_nil,kx,ky,List.head?_cons,Option.map_some,Option.getD_some]
 have hl':py.line=px.line:=by simpa using hl
 have hyx:(y == x)=false:=by simpa using fun z=>hxy z.symm
 simp[Expr.pos,hl',List.eraseDups_cons,hyx]
 simp only[List.all_cons,Bool.and_eq_true] at hs
 rintro(z | z)
 ·exact(qoL z hs.1).elim
 ·exact(qoL z hs.2.1).elim
theorem qsL {x y w:Str} {px py pw pt pt2:Pos} {kt k2:Nat} {a b c:Expr} {env:PySem.Env} (hk:env.scope.kind=.function) (hx:env.scope.names.lookup x=some .local) (hy:env.scope.names.lookup y=some .local) (hw:env.scope.names.lookup w=some .local) (hl:(py.line == px.line)=true) (hl2:(pw.line == px.line)=true) (hxy:x≠y) (hxw:x≠w) (hyw:y≠w)
  (hs:[a,b,c].all qad=true) (hf:[a,b,c].all (foldedForSure 8)=false) (hc:[a,b,c].all (constantsAlone 8)=false) :
  swappedStores [.Tuple [.Name x px,.Name y py,.Name w pw] kt pt] (.Tuple [a,b,c] k2 pt2) env=pure (some [x,y,w]):=by
 have kx:env.kindOf x=some .local:=hx
 have ky:env.kindOf y=some .local:=hy
 have kw:env.kindOf w=some .local:=hw
 have bk:env.blockKind=.function:=by unfold Env.blockKind;rw[hk];rfl
 unfold swappedStores
 simp only[List.length_cons,List.length_nil,bk,hf,hc,List.filterMap_cons,List.filterMap_nil,kx,ky,kw,List.head?_cons,Option.map_some,Option.getD_some]
 have hl':py.line=px.line:=by simpa using hl
 have hl2':pw.line=px.line:=by simpa using hl2
 have hyx:(y == x)=false:=by simpa using fun z=>hxy z.symm
 have hwx:(w == x)=false:=by simpa using fun z=>hxw z.symm
 have hwy:(w == y)=false:=by simpa using fun z=>hyw z.symm
 simp[Expr.pos,hl',hl2',List.eraseDups_cons,hyx,hwx,hwy]
 simp only[List.all_cons,Bool.and_eq_true] at hs
 rintro(z | z | z)
 ·exact(qoL z hs.1).elim
 ·exact(qoL z hs.2.1).elim
 ·exact(qoL z hs.2.2.1).elim
section
variable {T:Tb} {Γ:Env} {C:Ctx} {X:Cx} {sc:Scope}
theorem qfs {P N H H0:Hp} {er:ER} {v:V} {f:D→Bool→Out} {D:Ends} {P0 N0:Hp} (h:ERr C P N H H0 er v) (hf:er.frz=er) (o:outS C P0 N0 D (held er f)):∃d b,er=.val d b∧RepB C P N b d v∧outS C P0 N0 D (f d b):=by
 cases er with
 |val d b=>exact⟨d,b,rfl,h,o⟩
 |fre d b=>cases hf
 |brw d b=>exact o.elim
theorem qk4:∀{es:Exs} {ρ:List Sl} {r:List ER},evs Γ es ρ=.ok r→∀e∈r,e.frz=e
 |.nil,ρ,r,h=>by rw[evs] at h;cases h;intro e he;cases he
 |.cons a es,ρ,r,h=>by
  rw[evs] at h
  cases e1:ev Γ a ρ with
  |bad=>rw[e1] at h;cases h
  |exc c fs=>rw[e1] at h;cases h
  |ok v =>
   rw[e1,RE.bind_ok] at h
   cases e2:evs Γ es ρ with
   |bad=>rw[e2] at h;cases h
   |exc c fs=>rw[e2] at h;cases h
   |ok q =>
    rw[e2,RE.bind_ok] at h
    cases h
    intro e he
    rcases List.mem_cons.mp he with rfl | he
    ·cases v<;>rfl
    ·exact qk4 e2 e he
theorem qqF {i j:Nat} {es:Exs} {D:Ends} {σ:L2.St} {H:Hp} (q:tS C (fun ρ=>(evs Γ es ρ).out fun r=>qqD [i,j] r ρ) D σ H):tPar i j (tA C (evs Γ es)) D σ H:=by
 obtain⟨ρ,P,N,S,h⟩:=q
 refine⟨ρ,P,N,S,(h.res S.reg).mono fun r P1 N1 H1 er a1 h1 vs rv=>?_⟩
 have hf:=qk4 er
 cases r with
 |nil=>exact h1.elim
 |cons e1 r1 =>
  obtain⟨v1,u1,rfl,w1,rv⟩:=rv
  obtain⟨d1,b1,rfl,y1,o1⟩:=qfs w1 (hf e1 (by simp)) h1
  cases r1 with
  |nil=>exact o1.elim
  |cons e2 r2 =>
   obtain⟨v2,u2,rfl,w2,rv⟩:=rv
   obtain⟨d2,b2,rfl,y2,o2⟩:=qfs w2 (hf e2 (by simp)) o1
   cases r2 with
   |nil =>
    cases rv
    exact⟨v1,v2,rfl,o2 _ P1 N1 H1 (((S.adv a1).setV y1).setV y2) a1.pp a1.nn⟩
   |cons _ _=>exact o2.elim
theorem qpM {i j k:Nat} {es:Exs} {D:Ends} {σ:L2.St} {H:Hp} (q:tS C (fun ρ=>(evs Γ es ρ).out fun r=>qqD [i,j,k] r ρ) D σ H):tPar3 i j k (tA C (evs Γ es)) D σ H:=by
 obtain⟨ρ,P,N,S,h⟩:=q
 refine⟨ρ,P,N,S,(h.res S.reg).mono fun r P1 N1 H1 er a1 h1 vs rv=>?_⟩
 have hf:=qk4 er
 cases r with
 |nil=>exact h1.elim
 |cons e1 r1 =>
  obtain⟨v1,u1,rfl,w1,rv⟩:=rv
  obtain⟨d1,b1,rfl,y1,o1⟩:=qfs w1 (hf e1 (by simp)) h1
  cases r1 with
  |nil=>exact o1.elim
  |cons e2 r2 =>
   obtain⟨v2,u2,rfl,w2,rv⟩:=rv
   obtain⟨d2,b2,rfl,y2,o2⟩:=qfs w2 (hf e2 (by simp)) o1
   cases r2 with
   |nil=>exact o2.elim
   |cons e3 r3 =>
    obtain⟨v3,u3,rfl,w3,rv⟩:=rv
    obtain⟨d3,b3,rfl,y3,o3⟩:=qfs w3 (hf e3 (by simp)) o2
    cases r3 with
    |nil =>
     cases rv
     exact⟨v1,v2,v3,rfl,o3 _ P1 N1 H1 ((((S.adv a1).setV y1).setV y2).setV y3) a1.pp a1.nn⟩
    |cons _ _=>exact o3.elim
end
theorem qgX {T:Tb} {sc:Scope} {tg:List Nat} {t:Expr} {ts:List Expr} {l:Nat} (h:qra T sc tg (t::ts) l=true):∃i is x p,tg=i::is∧t=.Name x p∧T.N[i]? = some x∧sc.names.lookup x=some .local∧(p.line == l)=true∧qra T sc is ts l=true:=by
 cases tg with
 |nil=>cases t<;>cases h
 |cons i is =>
  cases t<;>try exact(Bool.false_ne_true h).elim
  simp only[qra,Bool.and_eq_true,decide_eq_true_eq] at h
  exact⟨i,is,_,_,rfl,rfl,h.1.1.1,h.1.1.2,h.1.2,h.2⟩
theorem qoN {T:Tb} {sc:Scope} {tg:List Nat} {l:Nat} (h:qra T sc tg [] l=true):tg=[]:=by
 cases tg with
 |nil=>rfl
 |cons i is=>cases h
theorem qrS {T:Tb} {sc:Scope} {tg:List Nat} {t1 t2:Expr} (h:qra T sc tg [t1,t2] (([t1,t2].head?.map (·.pos.line)).getD 0)=true):∃i j x y px py,tg=[i,j]∧t1=.Name x px∧t2=.Name y py∧T.N[i]? = some x∧sc.names.lookup x=some .local∧T.N[j]? = some y∧sc.names.lookup y=some .local∧(py.line == px.line)=true:=by
 obtain⟨i,is,x,px,rfl,rfl,a1,a2,a3,h⟩:=qgX h
 obtain⟨j,js,y,py,rfl,rfl,b1,b2,b3,h⟩:=qgX h
 rw[qoN h]
 exact⟨i,j,x,y,px,py,rfl,rfl,rfl,a1,a2,b1,b2,b3⟩
theorem qnt {T:Tb} {sc:Scope} {tg:List Nat} {t1 t2 t3:Expr} (h:qra T sc tg [t1,t2,t3] (([t1,t2,t3].head?.map (·.pos.line)).getD 0)=true):∃i j k x y z px py pz,tg=[i,j,k]∧t1=.Name x px∧t2=.Name y py∧t3=.Name z pz∧T.N[i]? = some x∧sc.names.lookup x=some .local∧T.N[j]? = some y∧sc.names.lookup y=some .local∧(py.line == px.line)=true ∧
  T.N[k]? = some z∧sc.names.lookup z=some .local∧(pz.line == px.line)=true:=by
 obtain⟨i,is,x,px,rfl,rfl,a1,a2,a3,h⟩:=qgX h
 obtain⟨j,js,y,py,rfl,rfl,b1,b2,b3,h⟩:=qgX h
 obtain⟨k,ks,z,pz,rfl,rfl,c1,c2,c3,h⟩:=qgX h
 rw[qoN h]
 exact⟨i,j,k,x,y,z,px,py,pz,rfl,rfl,rfl,rfl,a1,a2,b1,b2,b3,c1,c2,c3⟩
theorem qly {T:Tb} {Γ:Env} {sc:Scope}:∀(b:Tr) {C:Ctx} {X:Cx} {ss:List Stmt},XOk T Γ C X none sc→qkF T sc b ss=true→PSs X ss (tR C (trB Γ b))
 |.ex e,C,X,ss,I,h=>by
  unfold qkF at h
  split at h
  case h_2=>cases h
  simp only[Bool.and_eq_true] at h
  refine qa3 (pss_cons (ps_expr (qac e I h.1).1 (qfn h.2)) pss_nil) fun D σ H q=>?_
  obtain⟨ρ,P,N,S,h⟩:=q
  have h:res C σ P N H ((ev Γ e ρ).bind fun _=>.ok ρ) fun ρ' _ _ H'=>∀σ' P2 N2,Same P P2→Same N N2→SR C P2 N2 H' ρ' σ'→D.nx σ' H':=by rw[trB] at h;exact h
  exact⟨ρ,P,N,S,h.bind.mono fun x P1 N1 H1 _ a1 h1 v rv=>(res.now (S.adv a1).reg h1) σ P1 N1 a1.pp a1.nn (S.adv a1)⟩
 |.as j e,C,X,ss,I,h=>by
  unfold qkF at h
  split at h
  case h_2=>cases h
  simp only[Bool.and_eq_true,decide_eq_true_eq] at h
  obtain⟨⟨⟨h1,h2⟩,h3⟩,h4⟩:=h
  refine qa3 (pss_cons (qlf I h1 h2 h3 h4) pss_nil) fun D σ H q=>?_
  obtain⟨ρ,P,N,S,h⟩:=q
  rw[trB] at h
  refine⟨ρ,P,N,S,h.bind.mono fun x P1 N1 H1 _ a1 h1 v rv=>?_⟩
  cases x with
  |brw ds b=>exact h1.elim
  |val d b =>
   exact(res.now (S.adv a1).reg h1) _ P1 N1 a1.pp a1.nn ((S.adv a1).setV rv)
  |fre ds b =>
   obtain⟨N2,a2,r2⟩:=rv.freeze a1
   exact(res.now (S.adv a1).reg h1) _ P1 N2 a2.pp a2.nn ((S.adv a2).setV r2)
 |.iff t a b,C,X,ss,I,h=>by
  unfold qkF at h
  split at h
  case h_2=>cases h
  simp only[Bool.and_eq_true] at h
  refine qa3 (pss_cons (ps_if (qf5 t I h.1.1) (qly a I h.1.2) (qly b I h.2)) pss_nil) fun D σ H q=>?_
  obtain⟨ρ,P,N,S,h⟩:=q
  rw[trB] at h
  refine⟨ρ,P,N,S,h.bind.mono fun k P1 N1 H1 _ a1 h1=>?_⟩
  cases k with
  |true =>
   rw[if_pos rfl] at h1
   exact⟨ρ,P1,N1,S.adv a1,h1.mono fun ρ' _ _ H' _ _ q σ' P2 N2 e1 e2 S2=>q σ' P2 N2 (a1.pp.trans e1) (a1.nn.trans e2) S2⟩
  |false =>
   rw[if_neg Bool.false_ne_true] at h1
   exact⟨ρ,P1,N1,S.adv a1,h1.mono fun ρ' _ _ H' _ _ q σ' P2 N2 e1 e2 S2=>q σ' P2 N2 (a1.pp.trans e1) (a1.nn.trans e2) S2⟩
end Cm
namespace Cm
open PySem PySem.Spec PyProof.Rows L2
abbrev TL:=Addr→Option (List V)
def LT (T:TL):Addr→List V→Prop:=fun a xs=>T a=some xs
def qng:V→Bool
 |.ref _=>true
 |_=>false
def clV (xs:List V):Nat:=if xs.isEmpty then 0 else if xs.any qng then 2 else 1
section
variable {G:Glo} {P:Hp} {LN:Addr→List V→Prop}
theorem qno:∀{d:D} {v:V},Rep G P LN d v→qng v=d.isRef:=fun {d v} h=>by
 cases d with
 |non=>cases h;rfl
 |bl b=>cases h;rfl
 |int i=>cases h;rfl
 |str s=>cases h;rfl
 |lst ds=>obtain⟨a,xs,rfl,_⟩:=h;rfl
 |tup ds=>obtain⟨a,xs,rfl,_⟩:=h;rfl
 |ins c ds=>obtain⟨a,dx,xs,rfl,_⟩:=h;rfl
 |exc c fs=>obtain⟨_,a,rfl,_⟩:=h;rfl
theorem qmA:∀{ds:List D} {vs:List V},Reps G P LN ds vs→vs.any qng=ds.any D.isRef
 |[],_,h=>by cases h;rfl
 |d::ds,vs,⟨v,r,e,h1,h2⟩=>by
  subst e
  rw[List.any_cons,List.any_cons,qno h1,qmA h2]
theorem qdk {ds:List D} {vs:List V} (h:Reps G P LN ds vs):clV vs=clD ds:=by
 unfold clV clD
 rw[qmA h]
 have hl:=h.length
 have:vs.isEmpty=ds.isEmpty:=by
  cases vs<;>cases ds<;>first | rfl | cases hl
 rw[this]
end
section
variable (C:Ctx)
structure Raw (P N H:Hp) (ρ:List Sl) (σ:L2.St) (T:TL) (Z:Zs) (τ:List (Nat × D)):Prop where
 sr:SR C P N H ρ σ
 h:∀a xs,T a=some xs→∃ys,H a=some (.lst ys)∧(clV xs∉Z.1→ys=xs)∧ys.length≤xs.length+Z.2
 o:∀a xs,T a=some xs→P a=none∧N a=none∧C.B a=none
 ow:∀(j:Nat) (ds:List Cm.D) (b:Bool) (p:Addr),ρ[j]? = some (.own ds b)→σ[j]? = some (some (.ref p))→T p=none
 tr:∀(j:Nat) (d:Cm.D),(j,d)∈τ→ρ[j]? = some .non∧∃v,σ[j]? = some (some v)∧Rep C.G P (LT T) d v
end
section
variable {C:Ctx} {P N H P' N' H':Hp} {ρ:List Sl} {σ:L2.St} {T:TL} {Z:Zs} {τ:List (Nat × D)}
theorem Raw.sub {τ':List (Nat × D)} (h:Raw C P N H ρ σ T Z τ) (hs:∀e∈τ',e∈τ):Raw C P N H ρ σ T Z τ':=⟨h.sr,h.h,h.o,h.ow,fun j d m=>h.tr j d (hs _ m)⟩
theorem Raw.adv (h:Raw C P N H ρ σ T Z τ) (a:Adv P N H P' N' H'):Raw C P' N' H' ρ σ T Z τ where
 sr:=h.sr.adv a
 h:=fun b xs e=>by
  obtain⟨ys,h1,h2⟩:=h.h b xs e
  exact⟨ys,a.hh _ _ h1,h2⟩
 o:=fun b xs e=>by
  obtain⟨ys,h1,_⟩:=h.h b xs e
  obtain⟨o1,o2,o3⟩:=h.o b xs e
  exact⟨a.off h1 o1,a.offN h1 o2,o3⟩
 ow:=h.ow
 tr:=fun j d m=>by
  obtain⟨h1,v,h2,h3⟩:=h.tr j d m
  exact⟨h1,v,h2,Rep.mono a.pp d v (fun _ _ q=>q) h3⟩
theorem Raw.write {Z':Zs} {a:Addr} {xs ys:List V} (h:Raw C P N H ρ σ T Z τ) (e:T a=some xs) (hz:∀k,k∈Z.1→k∈Z'.1) (hc:clV xs∈Z'.1) (hn:Z.2≤Z'.2) (hl:ys.length≤xs.length+Z'.2):Raw C P N (upd H a (.lst ys)) ρ σ T Z' τ:=by
 obtain⟨o1,o2,o3⟩:=h.o a xs e
 obtain⟨zs,z1,_⟩:=h.h a xs e
 refine⟨⟨⟨qaL h.sr.reg.pH o1,qaL h.sr.reg.nH o2,qaL h.sr.reg.bH o3,h.sr.reg.rB,h.sr.reg.p0,h.sr.reg.pn,h.sr.reg.nw,h.sr.reg.dj⟩,h.sr.len,fun j s ej=>?_,h.sr.ap,h.sr.ad⟩,fun b us eb=>?_,h.o,h.ow,h.tr⟩
 ·obtain⟨o,y1,y2⟩:=h.sr.sl j s ej
  refine⟨o,y1,?_⟩
  cases s with
  |non=>trivial
  |val d b=>exact y2
  |own es c =>
   obtain⟨r,vs,rfl,y4,y5⟩:=y2
   have hr:r≠a:=fun er=>by
    have:=h.ow j es c r ej y1
    rw[er,e] at this;cases this
   exact⟨r,vs,rfl,by rw[upd_ne hr];exact y4,y5⟩
  |slf c fs =>
   obtain⟨r,dx,vs,y3,y4,y5⟩:=y2
   have hr:r≠a:=fun er=>by rw[er,z1] at y4;cases y4
   exact⟨r,dx,vs,y3,by rw[upd_ne hr];exact y4,y5⟩
  |fxd d k=>exact y2
  |dct m c =>
   obtain⟨r,es,y3,y4,y5⟩:=y2
   have hr:r≠a:=fun er=>by rw[er,z1] at y4;cases y4
   exact⟨r,es,y3,by rw[upd_ne hr];exact y4,y5⟩
 ·by_cases q:b=a
  ·subst q
   rw[e] at eb;cases eb
   exact⟨ys,upd_same,fun hk=>absurd hc hk,hl⟩
  ·obtain⟨vs,h1,h2,h3⟩:=h.h b us eb
   exact⟨vs,by rw[upd_ne q];exact h1,fun hk=>h2 fun hk'=>hk (hz _ hk'),by omega⟩
theorem Raw.bind {l:Nat} {d:D} {v:V} (h:Raw C P N H ρ σ T Z τ) (hl:ρ[l]? = some .non) (r:Rep C.G P (LT T) d v):Raw C P N H ρ (σ.set l (some v)) T Z ((l,d)::drp l τ) where
 sr:=by
  refine⟨h.sr.reg,by rw[List.length_set];exact h.sr.len,fun j s ej=>?_,fun i j p ds b es c e1 e2 e3 e4=>?_,h.sr.ad.sub fun j m b e=>⟨List.getElem?_set_ne (fun q=>by subst q;rw[hl] at e;cases e),_,_,e⟩⟩
  ·by_cases q:l=j
   ·subst q
    rw[hl] at ej;cases ej
    have hlt:l<σ.length:=by rw[h.sr.len];exact(List.getElem?_eq_some_iff.mp hl).1
    exact⟨some v,List.getElem?_set_self hlt,trivial⟩
   ·rw[List.getElem?_set_ne q];exact h.sr.sl j s ej
  ·have n1:l≠i:=fun q=>by subst q;rw[hl] at e1;cases e1
   have n2:l≠j:=fun q=>by subst q;rw[hl] at e2;cases e2
   rw[List.getElem?_set_ne n1] at e3
   rw[List.getElem?_set_ne n2] at e4
   exact h.sr.ap i j p ds b es c e1 e2 e3 e4
 h:=h.h
 o:=h.o
 ow:=fun j ds b p e1 e2=>by
  have n1:l≠j:=fun q=>by subst q;rw[hl] at e1;cases e1
  rw[List.getElem?_set_ne n1] at e2
  exact h.ow j ds b p e1 e2
 tr:=fun j e m=>by
  rcases List.mem_cons.mp m with m | m
  ·cases m
   have hlt:l<σ.length:=by rw[h.sr.len];exact(List.getElem?_eq_some_iff.mp hl).1
   exact⟨hl,v,List.getElem?_set_self hlt,r⟩
  ·have m':=List.mem_filter.mp m
   have n1:l≠j:=fun q=>by subst q;simp at m'
   obtain⟨h1,u,h2,h3⟩:=h.tr j e m'.1
   exact⟨h1,u,by rw[List.getElem?_set_ne n1];exact h2,h3⟩
theorem qfK {j:Nat} {d:D}:∀{τ:List (Nat × D)},τ.lookup j=some d→(j,d)∈τ
 |[],h=>by cases h
 |(k,e)::τ,h=>by
  rw[List.lookup_cons] at h
  by_cases q:j=k
  ·subst q
   simp at h
   subst h
   exact List.mem_cons_self
  ·have:(j == k)=false:=by simpa using q
   rw[this] at h
   exact List.mem_cons_of_mem _ (qfK h)
def tP (C:Ctx) (p:Pth):TE:=fun σ H Q=>∃P N ρ T Z τ d,Raw C P N H ρ σ T Z τ∧qqO τ Z p=some d∧∀v,Rep C.G P (LT T) d v→Q v H
end
theorem qnd {α:Type} {xs:List α} {k:Nat} {x:α} (h:xs[k]? = some x):atI xs (k:Int)=some x:=by
 have hk:=(List.getElem?_eq_some_iff.mp h).1
 unfold atI ixN
 have h1:(0:Int)≤k∧(k:Int)<xs.length:=⟨by omega,by omega⟩
 simp[h1,h]
mutual
theorem qk3 {Γ:Env}:∀(e:Ex),qcC e=true→∀ρ,∃er,ev Γ e ρ=.ok er∧er.isB=false
 |.cint i,_,ρ=>⟨_,by rw[ev];rfl,rfl⟩
 |.cstr s,_,ρ=>⟨_,by rw[ev];rfl,rfl⟩
 |.cbl b,_,ρ=>⟨_,by rw[ev];rfl,rfl⟩
 |.cnon,_,ρ=>⟨_,by rw[ev];rfl,rfl⟩
 |.tup es,h,ρ=>by
  rw[qcC] at h
  obtain⟨r,e1,e2⟩:=qin es h ρ
  refine⟨.val (.tup (r.map ER.d)) (r.all ER.b),?_,rfl⟩
  rw[ev,e1,RE.bind_ok,dis,if_pos e2]
 |.lst es,h,ρ=>by
  rw[qcC] at h
  obtain⟨r,e1,e2⟩:=qin es h ρ
  refine⟨.fre (r.map ER.d) (r.all ER.b),?_,rfl⟩
  rw[ev,e1,RE.bind_ok,dis,if_pos e2]
 |.nev,h,_=>by simp[qcC] at h
 |.var _,h,_=>by simp[qcC] at h
 |.glo _,h,_=>by simp[qcC] at h
 |.bin _ _ _,h,_=>by simp[qcC] at h
 |.cmp _ _ _,h,_=>by simp[qcC] at h
 |.chn _ _ _ _ _,h,_=>by simp[qcC] at h
 |.isN _,h,_=>by simp[qcC] at h
 |.notN _,h,_=>by simp[qcC] at h
 |.bop _ _,h,_=>by simp[qcC] at h
 |.bnot _,h,_=>by simp[qcC] at h
 |.neg _,h,_=>by simp[qcC] at h
 |.ife _ _ _,h,_=>by simp[qcC] at h
 |.idx _ _,h,_=>by simp[qcC] at h
 |.slc _ _ _,h,_=>by simp[qcC] at h
 |.rev _,h,_=>by simp[qcC] at h
 |.call _ _,h,_=>by simp[qcC] at h
 |.pri _ _,h,_=>by simp[qcC] at h
 |.lrng _,h,_=>by simp[qcC] at h
 |.mth _ _ _,h,_=>by simp[qcC] at h
 |.bm1 _ _ _,h,_=>by simp[qcC] at h
 |.blen _,h,_=>by simp[qcC] at h
 |.fld _ _,h,_=>by simp[qcC] at h
 |.isi _ _,h,_=>by simp[qcC] at h
 |.lc _ _ _ _ _,h,_=>by simp[qcC] at h
 |.inxL _ _,h,_=>by simp[qcC] at h
 |.inxS _ _,h,_=>by simp[qcC] at h
 |.lset _,h,_=>by simp[qcC] at h
 |.new _ _,h,_=>by simp[qcC] at h
 |.sfd _ _,h,_=>by simp[qcC] at h
 |.dhas _ _ _,h,_=>by simp[qcC] at h
 |.dat _ _,h,_=>by simp[qcC] at h
 |.isc _ _,h,_=>by simp[qcC] at h
 |.cntL _ _,h,_=>by simp[qcC] at h
 |.mmd _ _ _,h,_=>by simp[qcC] at h
 |.din _ _ _,h,_=>by simp[qcC] at h
 |.dgi _ _,h,_=>by simp[qcC] at h
 |.srtL _,h,_=>by simp[qcC] at h
 |.sset _,h,_=>by simp[qcC] at h
 |.iscT _ _,h,_=>by simp[qcC] at h
 |.lrev _,h,_=>by simp[qcC] at h
 |.callc _ _,h,_=>by simp[qcC] at h
 |.inxT _ _,h,_=>by simp[qcC] at h
theorem qin {Γ:Env}:∀(es:Exs),qo9 es=true→∀ρ,∃r,evs Γ es ρ=.ok r∧r.all ER.isV=true
 |.nil,_,ρ=>⟨[],by rw[evs],rfl⟩
 |.cons e es,h,ρ=>by
  rw[qo9,Bool.and_eq_true] at h
  obtain⟨x,e1,e2⟩:=qk3 e h.1 ρ
  obtain⟨r,e3,e4⟩:=qin es h.2 ρ
  refine⟨x.frz::r,by rw[evs,e1,RE.bind_ok,e3,RE.bind_ok],?_⟩
  rw[List.all_cons,e4,Bool.and_true]
  cases x<;>first | rfl | cases e2
end
theorem qne {G:Glo} {P:Hp} {LN:Addr→List V→Prop} {d:D} {v:V} (h:Rep G P LN d v):d.isNon=decide (v=.non):=by
 cases d with
 |non=>cases h;rfl
 |bl b=>cases h;rfl
 |int i=>cases h;rfl
 |str s=>cases h;rfl
 |lst ds=>obtain⟨a,xs,rfl,_⟩:=h;rfl
 |tup ds=>obtain⟨a,xs,rfl,_⟩:=h;rfl
 |ins c ds=>obtain⟨a,dx,xs,rfl,_⟩:=h;rfl
 |exc c fs=>obtain⟨_,a,rfl,_⟩:=h;rfl
section
variable {T:Tb} {Γ:Env} {C:Ctx} {X:Cx} {sc:Scope}
theorem qfO:∀{p:Pth} {e:Expr},qn9 T sc p e=true→qlZ e=true∧qga e=true
 |.var j,e,h=>by
  unfold qn9 at h
  split at h
  ·exact⟨rfl,rfl⟩
  ·cases h
 |.ix p k,e,h=>by
  unfold qn9 at h
  split at h
  ·exact⟨rfl,rfl⟩
  ·cases h
theorem qj6 (I:XOk T Γ C X none sc):∀(p:Pth) {e:Expr},qn9 T sc p e=true→PE X e (tP C p)
 |.var j,e,h=>by
  unfold qn9 at h
  split at h
  case h_2=>cases h
  simp only[Bool.and_eq_true,decide_eq_true_eq] at h
  obtain⟨⟨h1,h2⟩,h3⟩:=h
  obtain⟨n1,n2⟩:=qbA h3
  refine qaf (pe_var (i:=j) (by rw[I.nm];exact h1) (qbN I.sc h2) n1 n2) fun σ H Q q=>?_
  obtain⟨P,N,ρ,TT,Z,τ,d,R,e,k⟩:=q
  obtain⟨_,v,e2,r⟩:=R.tr j d (qfK (by simpa[qqO] using e))
  exact⟨v,e2,k v r⟩
 |.ix p k,e,h=>by
  unfold qn9 at h
  split at h
  case h_2=>cases h
  simp only[Bool.and_eq_true,decide_eq_true_eq] at h
  obtain⟨rfl,h2⟩:=h
  refine qaf (pe_ix ix_seq (qj6 I p h2) pe_int (fun _ _=>rfl)) fun σ H Q q=>?_
  obtain⟨P,N,ρ,TT,Z,τ,d,R,e,kk⟩:=q
  rw[qqO] at e
  split at e
  ·rename_i ds e1
   refine⟨P,N,ρ,TT,Z,τ,_,R,e1,fun v r=>?_⟩
   obtain⟨a,xs,rfl,z1,z2⟩:=r
   obtain⟨u,q1,q2⟩:=z2.get e
   exact .inr (.inl ⟨a,xs,k,u,rfl,rfl,I.K ▸ Same.seqT R.sr.reg.pH z1,qnd q1,kk u q2⟩)
  ·rename_i ds e1
   split at e
   ·cases e
   ·rename_i hz
    refine⟨P,N,ρ,TT,Z,τ,_,R,e1,fun v r=>?_⟩
    obtain⟨a,xs,rfl,z1,z2⟩:=r
    obtain⟨u,q1,q2⟩:=z2.get e
    obtain⟨ys,y1,y2,_⟩:=R.h a xs z1
    have:=y2 (by rw[qdk z2];exact hz)
    subst this
    exact .inl ⟨a,ys,k,u,rfl,rfl,.inl (.inl y1),qnd q1,kk u q2⟩
  ·cases e
theorem qnV {τ:List (Nat × D)} {Z Z':Zs} {c:Ch1} (h:qmY τ Z c=some Z'):(∀k,k∈Z.1→k∈Z'.1)∧Z.2≤Z'.2:=by
 cases c with
 |clr p =>
  simp only[qmY] at h
  split at h
  ·cases h;exact⟨fun k hk=>List.mem_cons_of_mem _ hk,Nat.le_refl _⟩
  ·cases h
 |app p e =>
  simp only[qmY] at h
  split at h
  ·split at h
   ·cases h;exact⟨fun k hk=>List.mem_cons_of_mem _ hk,Nat.le_succ _⟩
   ·cases h
  ·cases h
 |put p k e =>
  simp only[qmY] at h
  split at h
  ·split at h
   ·cases h
   ·split at h
    ·cases h;exact⟨fun k hk=>List.mem_cons_of_mem _ hk,Nat.le_refl _⟩
    ·cases h
  ·cases h
theorem qkA {τ:List (Nat × D)}:∀{cs:List Ch1} {Z Z':Zs},qot τ cs Z=some Z'→(∀k,k∈Z.1→k∈Z'.1)∧Z.2≤Z'.2
 |[],Z,Z',h=>by cases h;exact⟨fun _ h=>h,Nat.le_refl _⟩
 |c::cs,Z,Z',h=>by
  rw[qot] at h
  cases e:qmY τ Z c with
  |none=>rw[e] at h;cases h
  |some Z1 =>
   rw[e] at h
   obtain⟨a1,a2⟩:=qnV e
   obtain⟨b1,b2⟩:=qkA (cs:=cs) h
   exact⟨fun k hk=>b1 k (a1 k hk),Nat.le_trans a2 b2⟩
theorem qhc {f:D→Zs→Option Zs} (hf:∀d Z Z',f d Z=some Z'→(∀k,k∈Z.1→k∈Z'.1)∧Z.2≤Z'.2):∀{ds:List D} {Z Z':Zs},qpX f ds Z=some Z'→(∀k,k∈Z.1→k∈Z'.1)∧Z.2≤Z'.2
 |[],Z,Z',h=>by cases h;exact⟨fun _ h=>h,Nat.le_refl _⟩
 |d::ds,Z,Z',h=>by
  rw[qpX] at h
  cases e:f d Z with
  |none=>rw[e] at h;cases h
  |some Z1 =>
   rw[e] at h
   obtain⟨a1,a2⟩:=hf _ _ _ e
   obtain⟨b1,b2⟩:=qhc hf (ds:=ds) h
   exact⟨fun k hk=>b1 k (a1 k hk),Nat.le_trans a2 b2⟩
def tC1 (C:Ctx) (c:Ch1):TS:=fun D σ H=>∃P N ρ T Z τ Z',Raw C P N H ρ σ T Z τ∧qmY τ Z c=some Z'∧∀P' N' H',Raw C P' N' H' ρ σ T Z' τ→L2.Same P P'→L2.Same N N'→D.nx σ H'
theorem qiE {G:Glo} {P:Hp} {LN:Addr→List V→Prop} {ds:List D} {v:V} (h:Rep G P LN (.lst ds) v):∃a xs,v=.ref a∧LN a xs∧Reps G P LN ds xs:=h
theorem qoX (I:XOk T Γ C X none sc):∀(c:Ch1) {s:Stmt},qmU T sc c s=true→PS X s (tC1 C c)
 |.clr p,s,h=>by
  simp only[qmU] at h
  split at h
  case h_2=>cases h
  simp only[Bool.and_eq_true,decide_eq_true_eq] at h
  obtain⟨⟨rfl,h2⟩,h3⟩:=h
  refine qag (ps_expr (pe_bm0 PySem.F.plainAttrs_list PySem.F.slot_list_clear PySem.F.type_list_clear mt_clear (qj6 I p h2) (qcR (qfO h2).2) h3) rfl) fun D σ H q=>?_
  obtain⟨P,N,ρ,TT,Z,τ,Z',R,e,k⟩:=q
  simp only[qmY] at e
  split at e
  ·rename_i ds e1
   cases e
   refine⟨P,N,ρ,TT,Z,τ,_,R,e1,fun v r=>?_⟩
   obtain⟨a,xs,rfl,z1,z2⟩:=qiE r
   obtain⟨ys,y1,_⟩:=R.h a xs z1
   refine⟨.inl ⟨rfl,ys,.inl (.inl y1)⟩,a,ys,rfl,rfl,y1,k P N _ (R.write z1 (fun k hk=>List.mem_cons_of_mem _ hk) ?_ (Nat.le_refl _) (Nat.zero_le _)) (L2.Same.refl _) (L2.Same.refl _)⟩
   rw[qdk z2];exact List.mem_cons_self
  ·cases e
 |.app p ex,s,h=>by
  simp only[qmU] at h
  split at h
  case h_2=>cases h
  simp only[Bool.and_eq_true,decide_eq_true_eq] at h
  obtain⟨⟨⟨⟨rfl,h2⟩,h3⟩,h4⟩,h5⟩:=h
  refine qag (ps_expr (pe_bm PySem.F.plainAttrs_list PySem.F.slot_list_append PySem.F.type_list_append mt_append (qj6 I p h2) (pa_cons (qac ex I h4).1 pa_nil (qab h5)) (qcR (qfO h2).2) (qeO h5) h3 (qab h5) rfl) rfl) fun D σ H q=>?_
  obtain⟨P,N,ρ,TT,Z,τ,Z',R,e,k⟩:=q
  simp only[qmY] at e
  split at e
  ·rename_i ds e1
   split at e
   ·rename_i hc
    cases e
    simp only[Bool.and_eq_true,qao] at hc
    refine⟨P,N,ρ,TT,Z,τ,_,R,e1,fun v r=>?_⟩
    obtain⟨a,xs,rfl,z1,z2⟩:=qiE r
    obtain⟨ys,y1,y2,y3⟩:=R.h a xs z1
    obtain⟨er,q1,q2⟩:=qk3 (Γ:=Γ) ex hc.1 ρ
    refine⟨.inl ⟨rfl,ys,.inl (.inl y1)⟩,ρ,P,N,R.sr,?_⟩
    rw[q1]
    intro P1 N1 H1 a1 u ru
    have hl:=z2.length
    have h6:ys.length+1≤LIM:=by have:=hc.2;omega
    refine⟨a,ys,u,rfl,rfl,a1.hh _ _ y1,h6,?_⟩
    refine k P1 N1 _ ((R.adv a1).write z1 (fun k hk=>List.mem_cons_of_mem _ hk) ?_ (Nat.le_succ _) ?_) a1.pp a1.nn
    ·rw[qdk z2];exact List.mem_cons_self
    ·rw[List.length_append,List.length_singleton];show ys.length+1≤xs.length+(Z.2+1);omega
   ·cases e
  ·cases e
 |.put p m ex,s,h=>by
  simp only[qmU] at h
  split at h
  case h_2=>cases h
  simp only[Bool.and_eq_true,decide_eq_true_eq] at h
  obtain⟨⟨rfl,h2⟩,h4⟩:=h
  refine qag (ps_asg (qac ex I h4).1 (pg_sub (qj6 I p h2) pe_int set_list (qoF rfl)) qlX qia rfl) fun D σ H q=>?_
  obtain⟨P,N,ρ,TT,Z,τ,Z',R,e,k⟩:=q
  simp only[qmY] at e
  split at e
  ·rename_i ds e1
   split at e
   ·cases e
   ·rename_i hz
    split at e
    ·rename_i hc
     cases e
     simp only[Bool.and_eq_true,decide_eq_true_eq] at hc
     obtain⟨er,q1,q2⟩:=qk3 (Γ:=Γ) ex hc.1 ρ
     refine⟨ρ,P,N,R.sr,?_⟩
     rw[q1]
     intro P1 N1 H1 a1 u ru
     refine⟨P1,N1,ρ,TT,Z,τ,_,R.adv a1,e1,fun v r=>?_⟩
     obtain⟨a,xs,rfl,z1,z2⟩:=qiE r
     obtain⟨ys,y1,y2,y3⟩:=(R.adv a1).h a xs z1
     have hy:=y2 (by rw[qdk z2];exact hz)
     subst hy
     have hl:=z2.length
     have hix:ixN ys.length (m:Int)=some m:=by
      unfold ixN
      rw[if_pos (by omega),if_pos (by omega)]
      simp
     refine⟨a,ys,m,m,rfl,rfl,y1,hix,k P1 N1 _ ((R.adv a1).write z1 (fun k hk=>List.mem_cons_of_mem _ hk) ?_ (Nat.le_refl _) ?_) a1.pp a1.nn⟩
     ·rw[qdk z2];exact List.mem_cons_self
     ·rw[List.length_set];exact Nat.le_add_right _ _
    ·cases e
  ·cases e
def tCL (C:Ctx) (cs:List Ch1):TS:=fun D σ H=>∃P N ρ T Z τ Z',Raw C P N H ρ σ T Z τ∧qot τ cs Z=some Z'∧∀P' N' H',Raw C P' N' H' ρ σ T Z' τ→L2.Same P P'→L2.Same N N'→D.nx σ H'
theorem qny (I:XOk T Γ C X none sc):∀(cs:List Ch1) {ss:List Stmt},qpn T sc cs ss=true→PSs X ss (tCL C cs)
 |[],[],_=>qa3 pss_nil fun D σ H q=>by
  obtain⟨P,N,ρ,TT,Z,τ,Z',R,e,k⟩:=q
  cases e
  exact k P N H R (L2.Same.refl _) (L2.Same.refl _)
 |c::cs,s::ss,h=>by
  simp only[qpn,Bool.and_eq_true] at h
  refine qa3 (pss_cons (qoX I c h.1) (qny I cs h.2)) fun D σ H q=>?_
  obtain⟨P,N,ρ,TT,Z,τ,Z',R,e,k⟩:=q
  rw[qot] at e
  cases e1:qmY τ Z c with
  |none=>rw[e1] at e;cases e
  |some Z1 =>
   rw[e1] at e
   exact⟨P,N,ρ,TT,Z,τ,Z1,R,e1,fun P1 N1 H1 R1 s1 s2=>⟨P1,N1,ρ,TT,Z1,τ,Z',R1,e,fun P2 N2 H2 R2 s3 s4=>k P2 N2 H2 R2 (s1.trans s3) (s2.trans s4)⟩⟩
 |[],_::_,h=>by cases h
 |_::_,[],h=>by cases h
end
end Cm
namespace Cm
open PySem PySem.Spec PyProof.Rows L2
section
variable {T:Tb} {Γ:Env} {C:Ctx} {X:Cx} {sc:Scope}
theorem qsz {l:Nat} {τ:List (Nat × D)}:drp l (drp l τ)=drp l τ:=by
 unfold drp
 rw[List.filter_filter]
 simp
theorem qrY {l:Nat} {τ:List (Nat × D)} {e:Nat × D} (h:e∈drp l τ):e∈τ:=(List.mem_filter.mp h).1
theorem qmr {ls:List Nat} {τ:List (Nat × D)} {e:Nat × D} (h:e∈qna ls τ):e∈τ:=(List.mem_filter.mp h).1
theorem qqh {l:Nat} {ls:List Nat} {τ:List (Nat × D)} {e:Nat × D} (h:e∈qna (l::ls) τ):e∈qna ls (drp l τ):=by
 unfold qna drp at *
 rw[List.filter_filter]
 have:=List.mem_filter.mp h
 refine List.mem_filter.mpr ⟨this.1,?_⟩
 simpa[not_or,and_comm] using this.2
theorem qmf {l ls:List Nat} {τ:List (Nat × D)} {e:Nat × D} (h:e∈qna (l++ls) τ):e∈qna ls (qna l τ):=by
 unfold qna at *
 rw[List.filter_filter]
 have:=List.mem_filter.mp h
 refine List.mem_filter.mpr ⟨this.1,?_⟩
 simpa[not_or,and_comm] using this.2
theorem qsI (hK:X.K=C.G.K) {l:Nat} {p:Pth} {b:List Ch1} {D:Ends} {σ:L2.St} {H:Hp} {P N:Hp} {ρ:List Sl} {TT:TL} {Z Z1:Zs} {τ:List (Nat × Cm.D)} {ds:List Cm.D} (R:Raw C P N H ρ σ TT Z τ) (hl:ρ[l]? = some .non)
  (e:qqO τ Z p=some (.lst ds)) (ew:qpX (fun d Z=>qot ((l,d)::drp l τ) b Z) ds Z=some Z1) (hz:clD ds∉Z1.1)
  (k:∀σ' P' N' H',Raw C P' N' H' ρ σ' TT Z1 (drp l τ)→L2.Same P P'→L2.Same N N'→D.nx σ' H'):tFor (qvX X.K (tP C p)) (gName l) (tCL C b) D σ H:=by
 have hm:∀d Z Z',qot ((l,d)::drp l τ) b Z=some Z'→(∀k,k∈Z.1→k∈Z'.1)∧Z.2≤Z'.2:=fun d Z Z'=>qkA
 refine⟨P,N,ρ,TT,Z,τ,_,R,e,fun v r=>?_⟩
 obtain⟨a,xs,rfl,z1,z2⟩:=qiE r
 have hlen:=z2.length
 have seq:∀{P' N' H':Hp} {σ':L2.St} {Z2:Zs} {τ':List (Nat × Cm.D)},Raw C P' N' H' ρ σ' TT Z2 τ'→(∀k,k∈Z2.1→k∈Z1.1)→SqL X.K H' a xs:=fun {P' N' H' σ' Z2 τ'} R' hs=>by
  obtain⟨ys,y1,y2,_⟩:=R'.h a xs z1
  have:=y2 fun q=>hz (by rw[←qdk z2];exact hs _ q)
  subst this
  exact .inl (.inl y1)
 refine .inl (.inl ⟨a,rfl,⟨xs,seq R (qhc hm ew).1⟩,?_⟩)
 refine for_it (walk_list (K:=X.K) (a:=a) (xs:=xs)) (Pv:=fun i σ' H'=>∃P' N' Z2,Raw C P' N' H' ρ σ' TT Z2 (drp l τ)∧L2.Same P P'∧L2.Same N N'∧qpX (fun d Z=>qot ((l,d)::drp l τ) b Z) (ds.drop i) Z2=some Z1) ?_ (fun i σ' H' hi q=>?_) (fun i x σ' H' H'' hi q y=>?_) (fun σ' H' q=>?_)
 ·exact⟨P,N,Z,R.sub fun _=>qrY,L2.Same.refl _,L2.Same.refl _,by simpa using ew⟩
 ·obtain⟨P',N',Z2,R',_,_,e'⟩:=q
  exact seq R' (qhc hm e').1
 ·obtain⟨P',N',Z2,R',s1,s2,e'⟩:=q
  obtain⟨rfl,ex⟩:=y
  have hi':i<ds.length:=by omega
  obtain⟨v,q1,q2⟩:=Reps.get z2 (List.getElem?_eq_getElem hi')
  rw[q1] at ex;cases ex
  rw[List.drop_eq_getElem_cons hi',qpX] at e'
  cases e2:qot ((l,ds[i])::drp l τ) b Z2 with
  |none=>rw[e2] at e';cases e'
  |some Z3 =>
   rw[e2] at e'
   have RB:=R'.bind hl (Rep.mono s1 _ _ (fun _ _ q=>q) q2)
   rw[qsz] at RB
   exact⟨P',N',ρ,TT,Z2,_,Z3,RB,e2,fun P4 N4 H4 R4 s3 s4=>⟨P4,N4,Z3,R4.sub fun _ h=>List.mem_cons_of_mem _ h,s1.trans s3,s2.trans s4,e'⟩⟩
 ·obtain⟨P',N',Z2,R',s1,s2,e'⟩:=q
  rw[hlen,List.drop_length,qpX] at e'
  cases e'
  exact k σ' P' N' H' R' s1 s2
def tCk (C:Ctx) (c:Ch) (u:TS):TS:=fun D σ H=>∃P N ρ T Z τ Z',Raw C P N H ρ σ T Z τ∧(∀l∈c.tgs,ρ[l]? = some .non)∧chg c τ Z=some Z'∧∀σ' P' N' H',Raw C P' N' H' ρ σ' T Z' (qna c.tgs τ)→L2.Same P P'→L2.Same N N'→u D σ' H'
theorem qgB (I:XOk T Γ C X none sc) (hp:PassesOwn (model X.prog X.w) X.A X.env X.xe):∀(c:Ch) {ss rest:List Stmt} {u:TS},qgW T sc c ss=true→PSs X rest u→PSs X (ss++rest) (tCk C c u)
 |.nil,ss,rest,u,h,hr=>by
  simp only[qgW,List.isEmpty_iff] at h
  subst h
  refine qa3 hr fun D σ H q=>?_
  obtain⟨P,N,ρ,TT,Z,τ,Z',R,_,e,k⟩:=q
  cases e
  exact k σ P N H (R.sub fun _=>qmr) (L2.Same.refl _) (L2.Same.refl _)
 |.one c r,ss,rest,u,h,hr=>by
  cases ss with
  |nil=>simp[qgW] at h
  |cons s ss =>
   simp only[qgW,Bool.and_eq_true] at h
   refine qa3 (pss_cons (qoX I c h.1) (qgB I hp r h.2 hr)) fun D σ H q=>?_
   obtain⟨P,N,ρ,TT,Z,τ,Z',R,hn,e,k⟩:=q
   rw[chg] at e
   cases e1:qmY τ Z c with
   |none=>rw[e1] at e;cases e
   |some Z1 =>
    rw[e1] at e
    exact⟨P,N,ρ,TT,Z,τ,Z1,R,e1,fun P1 N1 H1 R1 s1 s2=>⟨P1,N1,ρ,TT,Z1,τ,Z',R1,hn,e,fun σ2 P2 N2 H2 R2 s3 s4=>k σ2 P2 N2 H2 R2 (s1.trans s3) (s2.trans s4)⟩⟩
 |.wlk l p b r,ss,rest,u,h,hr=>by
  simp only[qgW] at h
  split at h
  case h_2=>cases h
  simp only[Bool.and_eq_true,decide_eq_true_eq] at h
  obtain⟨⟨⟨⟨h1,h2⟩,h3⟩,h4⟩,h5⟩:=h
  obtain⟨t1,t2⟩:=qkX I h2
  refine qa3 (pss_cons (ps_for hp I.calm (qrc (qj6 I p h3)) (pg_name I.nd (by rw[I.nm];exact h1) t1 t2) (qny I b h4) (qjg (qfO h3).1)) (qgB I hp r h5 hr)) fun D σ H q=>?_
  obtain⟨P,N,ρ,TT,Z,τ,Z',R,hn,e,k⟩:=q
  rw[chg] at e
  split at e
  ·rename_i ds e1
   cases ew:qpX (fun d Z=>qot ((l,d)::drp l τ) b Z) ds Z with
   |none=>rw[ew] at e;cases e
   |some Z1 =>
    rw[ew] at e
    simp only[Option.bind_some] at e
    split at e
    ·cases e
    ·rename_i hz
     refine qsI I.K R (hn l (by simp[Ch.tgs])) e1 ew hz fun σ1 P1 N1 H1 R1 s1 s2=>?_
     exact⟨P1,N1,ρ,TT,Z1,_,Z',R1,fun m hm=>hn m (by simp[Ch.tgs,hm]),e,fun σ2 P2 N2 H2 R2 s3 s4=>k σ2 P2 N2 H2 (R2.sub fun _ h=>qqh h) (s1.trans s3) (s2.trans s4)⟩
  ·cases e
 |.ifs j b r,ss,rest,u,h,hr=>by
  simp only[qgW] at h
  split at h
  case h_2=>cases h
  simp only[Bool.and_eq_true,decide_eq_true_eq] at h
  obtain⟨⟨⟨⟨h1,h2⟩,h3⟩,h4⟩,h5⟩:=h
  obtain⟨n1,n2⟩:=qbA h3
  have hb:=qgB I hp b (rest:=[]) (u:=tNext) h4 pss_nil
  rw[List.append_nil] at hb
  refine qa3 (pss_cons (ps_if (pt_cmp (pc_notN (pe_var (i:=j) (by rw[I.nm];exact h1) (qbN I.sc h2) n1 n2))) hb pss_nil) (qgB I hp r h5 hr)) fun D σ H q=>?_
  obtain⟨P,N,ρ,TT,Z,τ,Z',R,hn,e,k⟩:=q
  rw[chg] at e
  split at e
  ·rename_i d ed
   obtain⟨_,v,ev,rv⟩:=R.tr j d (qfK ed)
   refine⟨v,ev,_,rfl,?_⟩
   rw[←qne rv]
   have hnb:∀l∈b.tgs,ρ[l]? = some .non:=fun m hm=>hn m (by simp[Ch.tgs,hm])
   have hnr:∀l∈r.tgs,ρ[l]? = some .non:=fun m hm=>hn m (by simp[Ch.tgs,hm])
   cases hd:d.isNon with
   |true =>
    rw[hd] at e
    simp only[if_true] at e
    exact⟨P,N,ρ,TT,Z,_,Z',R.sub fun _=>qmr,hnr,e,fun σ2 P2 N2 H2 R2 s3 s4=>k σ2 P2 N2 H2 (R2.sub fun _ h=>qmf h) s3 s4⟩
   |false =>
    rw[hd] at e
    simp only[Bool.false_eq_true,if_false] at e
    cases eb:chg b τ Z with
    |none=>rw[eb] at e;cases e
    |some Z1 =>
     rw[eb] at e
     simp only[Option.bind_some] at e
     exact⟨P,N,ρ,TT,Z,τ,Z1,R,hnb,eb,fun σ1 P1 N1 H1 R1 s1 s2=>⟨P1,N1,ρ,TT,Z1,_,Z',R1,hnr,e,fun σ2 P2 N2 H2 R2 s3 s4=>k σ2 P2 N2 H2 (R2.sub fun _ h=>qmf h) (s1.trans s3) (s2.trans s4)⟩⟩
  ·cases e
end
end Cm
namespace Cm
open PySem PySem.Spec PyProof.Rows L2
def tSk (C:Ctx) (g:List Sl→Out) (u:TS):TS:=fun D σ H=>∃ρ P N,SR C P N H ρ σ∧outS C P N { D with nx:=u D } (g ρ)
structure HvR (P H P' H':Hp) (T:TL):Prop where
 hh:Same H H'
 pp:Same P P'
 pH:Same P' H'
 pn:∀a,P' a≠none→P a≠none∨H a=none
 t:∀a xs,T a=some xs→H' a=some (.lst xs)∧H a=none∧P' a=none
def TR (T:TL) (R:Hp):Hp:=fun a=>match T a with
 |some xs=>some (.lst xs)
 |none=>R a
theorem qg6 {T:TL} {R:Hp} {a:Addr} {xs:List V} (h:T a=some xs):TR T R a=some (.lst xs):=by unfold TR;rw[h]
theorem qeU {T:TL} {R:Hp} {a:Addr} (h:T a=none):TR T R a=R a:=by unfold TR;rw[h]
theorem qjq {T:TL} {R:Hp} {a:Addr} (h:TR T R a=none):T a=none∧R a=none:=by
 unfold TR at h
 split at h
 ·cases h
 ·exact⟨by assumption,h⟩
section
variable {C:Ctx}
theorem qmm {P N H H0:Hp} {σ:L2.St} {n:Nat} {g':List D→RE ER} {Q:VK} {es:List ER} {vs:List V} (r:Reg C P N H) (hv:ERs C P N H H0 es vs) (hn:es.length=n)
  (h:match g' (es.map ER.d) with
   |.bad=>False
   |.ok er=>∃d,qmV er=some d∧∀v H' P' T,HvR P H P' H' T→Rep C.G P' (LT T) d v→Q v H'
   |.exc c fs=>∀d P' N' H',Adv P N H P' N' H'→ExR C P' N' H' fs d→C.W (.ref (C.G.ca c)) d σ H'):spD C.G n g' vs H Q (fun cls d H'=>C.W cls d σ H'):=by
 have rH:=r.rH
 have hr:Reps C.G P (SqL C.G.K H) (es.map ER.d) vs:=qk7 r hv
 refine⟨P,H,es.map ER.d,r.pH,L2.Same.refl _,hr,by rw[List.length_map,hn],?_⟩
 cases e:g' (es.map ER.d) with
 |bad=>rw[e] at h;exact h.elim
 |exc c fs =>
  rw[e] at h
  intro d H' P' N' ad hx
  refine h d _ _ _ (ad.back r.nH) ?_
  rcases hx with hx | ⟨dd,f,v,h1,h2,h3,h4⟩
  ·exact .inl hx
  ·refine .inr ⟨dd,f,v,h1,h2,h3,Rep.mono (L2.Same.refl _) _ _ (fun a xs q=>?_) h4⟩
   rcases q with q | ⟨hb,q⟩
   ·exact .inl (qhx ad.nH _ _ q)
   ·cases hb
 |ok er =>
  rw[e] at h
  obtain⟨d,ed,h⟩:=h
  intro v H' P' N' ad hx
  have base:∀a xs,N' a=some (.lst xs)→H' a=some (.lst xs)∧H a=none∧P' a=none:=fun a xs q=>by
   have hne:N' a≠none:=by rw[q];exact fun z=>nomatch z
   refine⟨ad.nH _ _ q,?_,?_⟩
   ·rcases ad.nw a hne with z | z
    ·exact absurd rfl z
    ·exact z
   ·cases e2:P' a with
    |none=>rfl
    |some o=>exact absurd rfl (ad.dj a hne (by rw[e2];exact fun z=>nomatch z))
  let T:TL:=fun a=>match N' a with
   |some (.lst xs)=>some xs
   |_=>none
  have hT:∀a xs,N' a=some (.lst xs)→T a=some xs:=fun a xs q=>by show(match N' a with | some (.lst xs)=>some xs | _=>none)=some xs;rw[q]
  have hT':∀a xs,T a=some xs→N' a=some (.lst xs):=fun a xs q=>by
   have q:(match N' a with | some (.lst xs)=>some xs | _=>none)=some xs:=q
   split at q
   ·rename_i ys e2;cases q;exact e2
   ·cases q
  cases er with
  |brw ds b=>cases ed
  |val d' b =>
   simp only[qmV] at ed
   split at ed
   ·rename_i hb
    cases ed
    refine h v H' P' T ⟨ad.hh,ad.pp,ad.pH,ad.pn,fun a xs q=>base a xs (hT' a xs q)⟩ ?_
    cases b with
    |true=>exact Rep.mono (L2.Same.refl _) _ _ (fun a xs q=>by
     rcases q with q | ⟨hb,_⟩
     ·exact hT a xs q
     ·cases hb) hx
    |false=>exact Rep.flat _ _ (by simpa using hb) hx
   ·cases ed
  |fre ds b =>
   simp only[qmV] at ed
   split at ed
   ·rename_i hb
    cases ed
    obtain⟨p,xs,rfl,h1,h2,h3,h4,h5⟩:=hx
    refine h _ H' P' (fun a=>if a=p then some xs else T a) ⟨ad.hh,ad.pp,ad.pH,ad.pn,fun a ys q=>?_⟩ ⟨p,xs,rfl,if_pos rfl,?_⟩
    ·split at q
     ·rename_i ea
      cases q
      subst ea
      exact⟨h1,h2,h3⟩
     ·exact base a ys (hT' a ys q)
    ·have mono:∀a ys,LNb C.G.K P' N' H true a ys→LT (fun a=>if a=p then some xs else T a) a ys:=fun a ys q=>by
      rcases q with q | ⟨hb,_⟩
      ·have:a≠p:=fun ea=>by rw[ea,h4] at q;cases q
       show(if a=p then some xs else T a)=some ys
       rw[if_neg this];exact hT a ys q
      ·cases hb
     cases b with
     |true=>exact Reps.mono (L2.Same.refl _) _ _ mono h5
     |false=>exact Reps.flat _ _ (by simpa using hb) h5
   ·cases ed
def Ctx.hv (C:Ctx) (T:TL) (fx:Nat→Option V):Ctx:={ C with R:=TR T C.R,B:=TR T C.B,fx:=fx }
theorem qgm:∀{ρ:List Sl} {k j:Nat} {s:Sl},(qlt k ρ)[j]? = some s→∃q,ρ[j]? = some q∧s=ent (k+j) q
 |[],k,j,s,h=>by simp[qlt] at h
 |q::qs,k,0,s,h=>by simp[qlt] at h;exact⟨q,rfl,h.symm⟩
 |q::qs,k,j+1,s,h=>by
  simp[qlt] at h
  obtain⟨r,h1,h2⟩:=qgm h
  exact⟨r,by simpa using h1,by rw[h2];congr 1;omega⟩
theorem qi2:∀{ρ:List Sl} {k:Nat},(qlt k ρ).length=ρ.length
 |[],_=>rfl
 |q::qs,k=>by simp[qlt,qi2]
theorem qfc {ρ0:List Sl}:∀{ρ:List Sl} {k j:Nat} {s:Sl},(qk6 ρ0 k ρ)[j]? = some s→∃q,ρ[j]? = some q∧s=ext (k+j) (ρ0[k+j]?.getD .non) q
 |[],k,j,s,h=>by simp[qk6] at h
 |q::qs,k,0,s,h=>by simp[qk6] at h;exact⟨q,rfl,h.symm⟩
 |q::qs,k,j+1,s,h=>by
  simp[qk6] at h
  obtain⟨r,h1,h2⟩:=qfc h
  have:k+1+j=k+(j+1):=by omega
  exact⟨r,by simpa using h1,by rw[h2,this]⟩
theorem qgl {ρ0:List Sl}:∀{ρ:List Sl} {k:Nat},(qk6 ρ0 k ρ).length=ρ.length
 |[],_=>rfl
 |q::qs,k=>by simp[qk6,qgl]
theorem LNb.up {K:PySem.W.Frag} {P N R R':Hp} {b:Bool} (h:L2.Same R R'):∀a xs,LNb K P N R b a xs→LNb K P N R' b a xs:=fun a xs q=>by
 rcases q with q | ⟨hb,q | q | q⟩
 ·exact .inl q
 ·exact .inr ⟨hb,.inl q⟩
 ·exact .inr ⟨hb,.inr (.inl q)⟩
 ·exact .inr ⟨hb,.inr (.inr (L2.Same.seq h q))⟩
theorem RepB.dn {C C':Ctx} {P N:Hp} {b:Bool} {d:Cm.D} {v:V} (hG:C'.G=C.G) (hb:(b||d.flat)=true) (h:RepB C' P N b d v):RepB C P N b d v:=by
 unfold RepB at *
 rw[hG] at h
 cases b with
 |true=>exact Rep.mono (L2.Same.refl _) _ _ (fun a xs q=>by
  rcases q with q | ⟨hb,_⟩
  ·exact .inl q
  ·cases hb) h
 |false=>exact Rep.flat _ _ (by simpa using hb) h
theorem RepsB.dn {C C':Ctx} {P N:Hp} {b:Bool} {d:List Cm.D} {v:List V} (hG:C'.G=C.G) (hb:(b||D.flats d)=true) (h:RepsB C' P N b d v):RepsB C P N b d v:=by
 unfold RepsB at *
 rw[hG] at h
 cases b with
 |true=>exact Reps.mono (L2.Same.refl _) _ _ (fun a xs q=>by
  rcases q with q | ⟨hb,_⟩
  ·exact .inl q
  ·cases hb) h
 |false=>exact Reps.flat _ _ (by simpa using hb) h
end
section
variable {C:Ctx} {P N H P' H':Hp} {ρ:List Sl} {σ:L2.St} {T:TL}
theorem HvR.tn (a:HvR P H P' H' T) {b:Addr} (h:H b≠none):T b=none:=by
 cases e:T b with
 |none=>rfl
 |some xs=>exact absurd (a.t b xs e).2.1 h
theorem HvR.tp (a:HvR P H P' H' T) {b:Addr} (h:P' b≠none):T b=none:=by
 cases e:T b with
 |none=>rfl
 |some xs=>exact absurd (a.t b xs e).2.2 h
theorem HvR.sR (a:HvR P H P' H' T) {R:Hp} (h:L2.Same R H):L2.Same R (TR T R):=fun b o e=>by
 rw[qeU (a.tn (b:=b) (by rw[h _ _ e];exact fun z=>nomatch z))];exact e
theorem HvR.reg (a:HvR P H P' H' T) (r:Reg C P N H) {fx:Nat→Option V}:Reg (C.hv T fx) P' N H' where
 pH:=a.pH
 nH:=r.nH.trans a.hh
 bH:=fun b o e=>by
  have e:TR T C.B b=some o:=e
  cases q:T b with
  |none=>rw[qeU q] at e;exact a.hh _ _ (r.bH _ _ e)
  |some xs=>rw[qg6 q] at e;cases e;exact(a.t b xs q).1
 rB:=fun b o e=>by
  have e:TR T C.R b=some o:=e
  show TR T C.B b=some o
  cases q:T b with
  |none=>rw[qeU q] at e ⊢;exact r.rB _ _ e
  |some xs=>rw[qg6 q] at e ⊢;exact e
 p0:=r.p0.trans a.pp
 pn:=fun b h=>by
  have t:=a.tp h
  show C.P0 b≠none∨TR T C.B b=none
  rw[qeU t]
  rcases a.pn b h with z | z
  ·exact r.pn b z
  ·exact .inr (r.bH.free z)
 nw:=fun b h=>by
  have hb:H b≠none:=fun z=>h (r.nH.free z)
  show TR T C.B b=none
  rw[qeU (a.tn hb)];exact r.nw b h
 dj:=fun b h=>by
  cases q:P' b with
  |none=>rfl
  |some o =>
   rcases a.pn b (by rw[q];exact fun z=>nomatch z) with z | z
   ·exact absurd (r.dj b h) z
   ·exact absurd (r.nH.free z) h
theorem qp0 {i:Nat} {v w:V} (hi:i<σ.length) (h:((σ.set i (some v))[i]?).join=some w):w=v:=by
 rw[List.getElem?_set_self hi] at h
 cases h;rfl
theorem HvR.into (a:HvR P H P' H' T) (S:SR C P N H ρ σ) {i:Nat} {d:D} {v:V} (hi:i<σ.length) (rv:Rep C.G P' (LT T) d v):SR (C.hv T fun k=>((σ.set i (some v))[k]?).join) P' N H' ((qlt 0 ρ).set i (.fxd d i)) (σ.set i (some v)) where
 reg:=a.reg S.reg
 len:=by simp[S.len,qi2]
 sl:=fun j s e=>by
  by_cases q:i=j
  ·subst q
   rw[List.getElem?_set_self (by rw[qi2,←S.len];exact hi)] at e
   cases e
   refine⟨some v,List.getElem?_set_self hi,v,rfl,?_,?_⟩
   ·show((σ.set i (some v))[i]?).join=some v
    rw[List.getElem?_set_self hi];rfl
   ·exact Rep.mono (L2.Same.refl _) _ _ (fun b xs z=>.inr ⟨rfl,.inr (.inr (.inl (.inl (qg6 z))))⟩) rv
  ·rw[List.getElem?_set_ne q] at e
   obtain⟨s0,e0,rfl⟩:=qgm e
   obtain⟨o,y1,y2⟩:=S.sl j s0 e0
   rw[List.getElem?_set_ne q]
   refine⟨o,y1,?_⟩
   have mR:=a.sR S.reg.rH
   have up:∀{b:Bool} {d:D} {v:V},RepB C P N b d v→RepB (C.hv T fun k=>((σ.set i (some v))[k]?).join) P' N b d v:=fun {b d v} h =>
    Rep.mono a.pp _ _ (fun c xs z=>LNb.up mR c xs (LNb.mono a.pp (L2.Same.refl _) c xs z)) h
   have ups:∀{b:Bool} {d:List D} {v:List V},RepsB C P N b d v→RepsB (C.hv T fun k=>none) P' N b d v:=fun {b d v} h =>
    Reps.mono a.pp _ _ (fun c xs z=>LNb.up mR c xs (LNb.mono a.pp (L2.Same.refl _) c xs z)) h
   have hfx:∀w,o=some w→((σ.set i (some v))[j]?).join=some w:=fun w ew=>by rw[List.getElem?_set_ne q,y1,ew];rfl
   rw[Nat.zero_add]
   cases s0 with
   |non=>trivial
   |val d b =>
    obtain⟨w,rfl,h3⟩:=y2
    by_cases hb:(b||d.flat)=true
    ·rw[show ent j (.val d b)=.val d b from if_pos hb]
     exact⟨w,rfl,up h3⟩
    ·rw[show ent j (.val d b)=.fxd d j from if_neg hb]
     have hb':b=false:=by cases b with
      |false=>rfl
      |true=>simp at hb
     subst hb'
     exact⟨w,rfl,hfx w rfl,up h3⟩
   |own ds b =>
    obtain⟨p,xs,rfl,h3,h4,h5,h6,h7⟩:=y2
    have hne:H p≠none:=by rw[h3];exact fun z=>nomatch z
    refine⟨p,xs,rfl,a.hh _ _ h3,?_,h5,?_,ups h7⟩
    ·cases q2:P' p with
     |none=>rfl
     |some o =>
      rcases a.pn p (by rw[q2];exact fun z=>nomatch z) with z | z
      ·exact absurd h4 z
      ·exact absurd z hne
    ·show TR T C.B p=none
     rw[qeU (a.tn hne)];exact h6
   |slf c fs=>trivial
   |fxd d k =>
    obtain⟨w,rfl,_,h3⟩:=y2
    exact⟨w,rfl,hfx w rfl,up h3⟩
   |dct m c=>trivial
 ap:=fun j k p ds b es c e1 e2 e3 e4=>by
  have old:∀{m:Nat} {es:List D} {c:Bool},((qlt 0 ρ).set i (.fxd d i))[m]? = some (.own es c)→i≠m∧ρ[m]? = some (.own es c):=fun {m es c} e=>by
   by_cases q:i=m
   ·subst q
    rcases Nat.lt_or_ge i (qlt 0 ρ).length with z | z
    ·rw[List.getElem?_set_self z] at e;cases e
    ·rw[List.getElem?_eq_none (by simpa using z)] at e;cases e
   ·rw[List.getElem?_set_ne q] at e
    obtain⟨s0,e0,es0⟩:=qgm e
    refine⟨q,?_⟩
    rw[e0]
    cases s0 with
    |own ds' b'=>simp only[ent] at es0;rw[es0]
    |val d b =>
     by_cases hb:(b||d.flat)=true
     ·rw[show ent (0+m) (.val d b)=.val d b from if_pos hb] at es0;cases es0
     ·rw[show ent (0+m) (.val d b)=.fxd d (0+m) from if_neg hb] at es0;cases es0
    |_=>cases es0
  obtain⟨n1,o1⟩:=old e1
  obtain⟨n2,o2⟩:=old e2
  rw[List.getElem?_set_ne n1] at e3
  rw[List.getElem?_set_ne n2] at e4
  exact S.ap j k p ds b es c o1 o2 e3 e4
 ad:=AD.setS (AD.no fun j s e=>by
  obtain⟨s0,e0,rfl⟩:=qgm e
  cases s0 with
  |val d b=>simp only[ent];split<;>rfl
  |_=>rfl) rfl
theorem HvR.regO (a:HvR P H P' H' T) (r:Reg C P N H) {fx:Nat→Option V} {P2 N2 H2:Hp} (r2:Reg (C.hv T fx) P2 N2 H2):Reg C P2 N2 H2 where
 pH:=r2.pH
 nH:=r2.nH
 bH:=fun b o e=>r2.bH b o (by
  show TR T C.B b=some o
  rw[qeU (a.tn (b:=b) (by rw[r.bH _ _ e];exact fun z=>nomatch z))];exact e)
 rB:=r.rB
 p0:=r2.p0
 pn:=fun b h=>by
  rcases r2.pn b h with z | z
  ·exact .inl z
  ·exact .inr (qjq z).2
 nw:=fun b h=>(qjq (r2.nw b h)).2
 dj:=r2.dj
theorem SR.drop {P N H:Hp} {ρ:List Sl} {σ:L2.St} (S:SR C P N H ρ σ) (i:Nat):SR C P N H (ρ.set i .non) σ where
 reg:=S.reg
 len:=by simp[S.len]
 sl:=fun j s e=>by
  by_cases q:i=j
  ·subst q
   rcases Nat.lt_or_ge i ρ.length with z | z
   ·rw[List.getElem?_set_self z] at e
    cases e
    exact⟨_,List.getElem?_eq_getElem (by rw[S.len];exact z),trivial⟩
   ·rw[List.getElem?_eq_none (by simpa using z)] at e;cases e
  ·rw[List.getElem?_set_ne q] at e
   exact S.sl j s e
 ap:=fun j k p ds b es c e1 e2 e3 e4=>by
  have old:∀{m:Nat} {es:List D} {c:Bool},(ρ.set i .non)[m]? = some (.own es c)→ρ[m]? = some (.own es c):=fun {m es c} e=>by
   by_cases q:i=m
   ·subst q
    rcases Nat.lt_or_ge i ρ.length with z | z
    ·rw[List.getElem?_set_self z] at e;cases e
    ·rw[List.getElem?_eq_none (by simpa using z)] at e;cases e
   ·rw[List.getElem?_set_ne q] at e;exact e
  exact S.ap j k p ds b es c (old e1) (old e2) e3 e4
 ad:=S.ad.setS rfl
theorem SR.wipeS {P N H:Hp} {ρ:List Sl} {σ:L2.St} (S:SR C P N H ρ σ):∀vs:List Nat,SR C P N H (Cm.wipeS ρ vs) σ
 |[]=>S
 |v::vs=>(SR.wipeS S vs).drop v
theorem qfS {ρ:List Sl}:∀vs:List Nat,(wipeS ρ vs).length=ρ.length
 |[]=>rfl
 |v::vs=>by simp[wipeS,qfS vs]
theorem qmq {ρ:List Sl} {v:Nat} (hv:v<ρ.length):∀{vs:List Nat},v∈vs→(wipeS ρ vs)[v]? = some .non
 |[],h=>by cases h
 |w::vs,h=>by
  unfold wipeS
  by_cases q:w=v
  ·subst q;rw[List.getElem?_set_self (by rw[qfS];exact hv)]
  ·rw[List.getElem?_set_ne q]
   rcases List.mem_cons.mp h with h | h
   ·exact absurd h.symm q
   ·exact qmq hv h
theorem qke {ρ:List Sl} {j:Nat} {s:Sl} (hs:s≠.non):∀{vs:List Nat},(wipeS ρ vs)[j]? = some s→ρ[j]? = some s
 |[],h=>h
 |w::vs,h=>by
  unfold wipeS at h
  by_cases q:w=j
  ·subst q
   rcases Nat.lt_or_ge w (wipeS ρ vs).length with z | z
   ·rw[List.getElem?_set_self z] at h;cases h;exact absurd rfl hs
   ·rw[List.getElem?_eq_none (by simpa using z)] at h;cases h
  ·rw[List.getElem?_set_ne q] at h;exact qke hs h
theorem qjA {ρ:List Sl} {j:Nat} (h:ρ[j]? = some .non):∀{vs:List Nat},(wipeS ρ vs)[j]? = some .non
 |[]=>h
 |w::vs=>by
  unfold wipeS
  by_cases q:w=j
  ·subst q
   rw[List.getElem?_set_self (by rw[qfS];exact(List.getElem?_eq_some_iff.mp h).1)]
  ·rw[List.getElem?_set_ne q];exact qjA h
theorem HvR.out (a:HvR P H P' H' T) (S:SR C P N H ρ σ) {i:Nat} {d d2:D} {v:V} (hi:i<σ.length) (rv:Rep C.G P' (LT T) d v) {P2 N2 H2:Hp} {ρ2:List Sl} {σ2:L2.St}
  (S2:SR (C.hv T fun k=>((σ.set i (some v))[k]?).join) P2 N2 H2 ρ2 σ2) (sp:L2.Same P' P2) (sn:L2.Same N N2) (e2:ρ2[i]? = some (.fxd d2 i)) (vs:List Nat) :
  Raw C P2 N2 H2 (wipeS (qk6 (ρ.set i .non) 0 ρ2) vs) σ2 T ([],0) [(i,d)]:=by
 have rg:=a.regO S.reg S2.reg
 have own:∀{j:Nat} {ds:List D} {b:Bool},(qk6 (ρ.set i .non) 0 ρ2)[j]? = some (.own ds b)→ρ2[j]? = some (.own ds b)∧(b||D.flats ds)=true:=fun {j ds b} e=>by
  obtain⟨q,h1,h2⟩:=qfc e
  cases q with
  |own es c =>
   simp only[ext] at h2
   split at h2
   ·cases h2;exact⟨h1,by assumption⟩
   ·cases h2
  |val d' b' =>
   simp only[ext] at h2
   split at h2<;>cases h2
  |non=>cases h2
  |slf _ _=>cases h2
  |fxd _ k =>
   simp only[ext] at h2
   split at h2
   ·split at h2<;>cases h2
   ·cases h2
  |dct _ _=>cases h2
 have ei:(qk6 (ρ.set i .non) 0 ρ2)[i]? = some .non:=by
  have hl:i<ρ2.length:=(List.getElem?_eq_some_iff.mp e2).1
  have:i<(qk6 (ρ.set i .non) 0 ρ2).length:=by rw[qgl];exact hl
  obtain⟨q,h1,h2⟩:=qfc (List.getElem?_eq_getElem this)
  rw[e2] at h1;cases h1
  rw[List.getElem?_eq_getElem this,h2]
  simp only[Nat.zero_add,ext,if_true]
  rw[List.getElem?_set_self (by rw[←S.len];exact hi)]
  rfl
 have sr:SR C P2 N2 H2 (qk6 (ρ.set i .non) 0 ρ2) σ2:=by
  refine⟨rg,by rw[qgl,S2.len],fun j s e=>?_,fun j k p ds b es c e1 e3 e4 e5=>S2.ap j k p ds b es c (own e1).1 (own e3).1 e4 e5,AD.no fun j s e=>by
   obtain⟨q,h1,rfl⟩:=qfc e
   cases q with
   |val d b=>simp only[ext];split<;>rfl
   |own d b=>simp only[ext];split<;>rfl
   |fxd d k =>
    simp only[ext]
    split
    ·split<;>rfl
    ·rfl
   |_=>rfl⟩
  obtain⟨q,h1,h2⟩:=qfc e
  obtain⟨o,y1,y2⟩:=S2.sl j q h1
  refine⟨o,y1,?_⟩
  rw[h2,Nat.zero_add]
  cases q with
  |non=>trivial
  |slf _ _=>trivial
  |dct _ _=>trivial
  |val d b =>
   simp only[ext]
   split
   ·rename_i hb
    obtain⟨w,rfl,h3⟩:=y2
    exact⟨w,rfl,RepB.dn (C':=C.hv T fun k=>((σ.set i (some v))[k]?).join) rfl hb h3⟩
   ·trivial
  |own ds b =>
   simp only[ext]
   split
   ·rename_i hb
    obtain⟨p,xs,rfl,h3,h4,h5,h6,h7⟩:=y2
    exact⟨p,xs,rfl,h3,h4,h5,(qjq h6).2,RepsB.dn (C':=C.hv T fun k=>((σ.set i (some v))[k]?).join) rfl hb h7⟩
   ·trivial
  |fxd d' k =>
   simp only[ext]
   split
   ·rename_i hk
    subst hk
    by_cases hki:i=k
    ·subst hki
     rw[List.getElem?_set_self (by rw[←S.len];exact hi)]
     trivial
    ·rw[List.getElem?_set_ne hki]
     obtain⟨w,rfl,h3,_⟩:=y2
     have h3:((σ.set i (some v))[k]?).join=some w:=h3
     rw[List.getElem?_set_ne hki] at h3
     cases e0:ρ[k]? with
     |none=>trivial
     |some s0 =>
      obtain⟨o,z1,z2⟩:=S.sl k s0 e0
      have ho:o=some w:=by
       rw[z1] at h3
       exact h3
      subst ho
      cases s0 with
      |val d b =>
       obtain⟨u,eu,h4⟩:=z2
       cases eu
       exact⟨w,rfl,RepB.adv (a.pp.trans sp) sn h4⟩
      |fxd d m =>
       obtain⟨u,eu,h5,h4⟩:=z2
       cases eu
       exact⟨w,rfl,h5,RepB.adv (a.pp.trans sp) sn h4⟩
      |non=>trivial
      |own _ _=>trivial
      |slf _ _=>trivial
      |dct _ _=>trivial
   ·trivial
 have tb:∀{b:Addr} {xs:List V},T b=some xs→TR T C.B b≠none:=fun {b xs} e=>by rw[qg6 e];exact fun z=>nomatch z
 refine⟨sr.wipeS vs,fun b xs e=>⟨xs,S2.reg.bH b _ (qg6 e),fun _=>rfl,Nat.le_add_right _ _⟩,fun b xs e=>⟨?_,?_,?_⟩,fun j ds b p e1 e3=>?_,fun j d' m=>?_⟩
 ·cases q:P2 b with
  |none=>rfl
  |some o =>
   rcases S2.reg.pn b (by rw[q];exact fun z=>nomatch z) with z | z
   ·have hb:=(a.t b xs e).2.1
    exact absurd (S.reg.p0.free (S.reg.pH.free hb)) z
   ·exact absurd z (tb e)
 ·cases q:N2 b with
  |none=>rfl
  |some o=>exact absurd (S2.reg.nw b (by rw[q];exact fun z=>nomatch z)) (tb e)
 ·exact S.reg.bH.free (a.t b xs e).2.1
 ·obtain⟨h1,_⟩:=own (qke (by simp) e1)
  obtain⟨o,y1,p',xs,rfl,h3,h4,h5,h6,h7⟩:=S2.sl j _ h1
  rw[y1] at e3;cases e3
  exact(qjq h6).1
 ·simp only[List.mem_singleton,Prod.mk.injEq] at m
  obtain⟨rfl,rfl⟩:=m
  refine⟨qjA ei,v,?_,Rep.mono sp _ _ (fun _ _ q=>q) rv⟩
  obtain⟨o,y1,w,rfl,h3,_⟩:=S2.sl j _ e2
  have:=qp0 hi h3
  subst this
  exact y1
end
section
variable {T:Tb} {Γ:Env} {C:Ctx} {X:Cx} {sc:Scope}
theorem XOk.hv {fc:Option Scope} {TT:TL} {fx:Nat→Option V} (I:XOk T Γ C X fc sc):XOk T Γ (C.hv TT fx) X fc sc where
 nm:=I.nm
 nd:=I.nd
 sc:=I.sc
 K:=I.K
 tk:=I.tk
 calm:=I.calm
 un:=I.un
 blt:=I.blt
 fnc:=I.fnc
 fn:=I.fn
 gc:=fun k x h c e=>by
  obtain⟨u,v,h1,h2,h3,h4⟩:=I.gc k x h c e
  refine⟨u,v,h1,h2,fun P N=>?_,h4⟩
  exact Rep.mono (L2.Same.refl _) _ _ (fun a xs q=>by
   rcases q with q | ⟨hb,_⟩
   ·exact .inl q
   ·cases hb) (h3 P N)
 mt:=fun m x n h c g e=>by
  obtain⟨h1,h2,h3⟩:=I.mt m x n h c g e
  exact⟨h1,h2,h3⟩
 fs:=fun f x h c k e=>by
  obtain⟨h1,h2,h3,h4⟩:=I.fs f x h c k e
  exact⟨h1,h2,h3,h4⟩
 nw:=fun k x n h g e=>by
  obtain⟨h1⟩:=I.nw k x n h g e
  exact⟨h1⟩
 ck:=I.ck
 xk:=I.xk
 dc:=I.dc
def tHv (C:Ctx) (i n:Nat) (g:List Sl→RE (List ER)) (g':List Cm.D→RE ER):TS:=tAsg (fun σ H Q=>tA C g σ H fun vs H1=>spD C.G n g' vs H1 Q (fun cls d H'=>C.W cls d σ H')) (gName i)
theorem quJ {i f:Nat} {es:Exs} {st:Stmt} (I:XOk T Γ C X none sc) (h:qrO T sc i f es st=true):∀g,Γ.fn[f]? = some g→∃n,(∀ρ r,evs Γ es ρ=.ok r→r.length=n)∧PS X st (tHv C i n (evs Γ es) g.2):=fun g e=>by
 unfold qrO at h
 split at h
 case h_2=>cases h
 rename_i x pn y p xs q pos
 simp only[Bool.and_eq_true,decide_eq_true_eq] at h
 obtain⟨⟨⟨⟨⟨⟨h1,h2⟩,h3⟩,h4⟩,h5⟩,h6⟩,h7⟩:=h
 obtain⟨t1,t2⟩:=qkX I h2
 obtain⟨k,a,fd,ps,m,gf,F,hr,hm,hk,dv,dvs,dus,hb,hdv,hdm,hdr,hgf⟩:=I.fn f y xs.length h3 g e
 refine⟨xs.length,fun ρ r er=>qcm es ρ r xs h6 er,?_⟩
 exact ps_set I.nd (by rw[I.nm];exact h1) t1 (qgc (C:=C) F hr (qa1 I.sc h4) hm hk hb hdv hdm hdr hgf I.tk (qcl es I h6 h7) (qbA h5).1 (qdM h7) (fun z ρ=>qfx h6 z ρ)) rfl t2
def tIn (C:Ctx) (g:List Sl→Out) (u:TS):TS:=fun D σ H=>∃TT fx,tSk (C.hv TT fx) g u D σ H
theorem quo {i n:Nat} {es:Exs} {g':List Cm.D→RE ER} {rd:List Sl→Out} {cs:Ch} {f:List Sl→Out} {D:Ends} {σ:L2.St} {H:Hp} {u:TS} (hn:∀ρ r,evs Γ es ρ=.ok r→r.length=n)
  (q:tSk C (fun ρ=>(evs Γ es ρ).out fun r=>(g' (r.map ER.d)).out fun er=>match qmV er with
   |some d=>gdO (Nat.blt i ρ.length) ((rd ((qlt 0 ρ).set i (.fxd d i))).hv ρ i d cs f)
   |none=>.bad) u D σ H):tHv C i n (evs Γ es) g' { D with nx:=tIn C rd (tCk C cs (tSk C f u)) D } σ H:=by
 obtain⟨ρ,P,N,S,o⟩:=q
 refine⟨ρ,P,N,S,(o.res S.reg).mono fun r P1 N1 H1 e1 a1 o1 vs rv=>?_⟩
 have S1:=S.adv a1
 refine qmm S1.reg rv (hn _ _ e1) ?_
 cases eg:g' (r.map ER.d) with
 |bad=>rw[eg] at o1;exact o1
 |exc c fs =>
  rw[eg] at o1
  exact fun d P' N' H' ad hx=>o1 σ d P' N' H' (S1.reg.adv ad) hx
 |ok er =>
  rw[eg] at o1
  simp only[RE.out_ok] at o1
  cases ed:qmV er with
  |none=>rw[ed] at o1;exact o1.elim
  |some d =>
   rw[ed] at o1
   simp only[qba] at o1
   split at o1
   case isFalse=>exact o1.elim
   rename_i hi
   have hi:i<σ.length:=by rw[S.len];exact Nat.blt_eq.mp hi
   refine⟨d,ed,fun v H' P' TT a rvT=>?_⟩
   refine⟨TT,_,_,P',N1,a.into S1 hi rvT,?_⟩
   cases er2:rd ((qlt 0 ρ).set i (.fxd d i)) with
   |bad=>rw[er2] at o1;exact o1.elim
   |brk _=>rw[er2] at o1;exact o1.elim
   |cnt _=>rw[er2] at o1;exact o1.elim
   |exc c fs =>
    rw[er2] at o1
    intro σ2 d2 P2 N2 H2 r2 x2
    refine o1 σ2 d2 P2 N2 H2 (a.regO S1.reg r2) ?_
    rcases x2 with x2 | ⟨dd,f2,v2,h1,h2,h3,h4⟩
    ·exact .inl x2
    ·exact .inr ⟨dd,f2,v2,h1,h2,h3,RepB.dn (C':=C.hv TT fun k=>((σ.set i (some v))[k]?).join) rfl (by simp) h4⟩
   |ret er3 =>
    rw[er2] at o1
    simp only[Out.hv] at o1
    cases en:qmV er3 with
    |none=>rw[en] at o1;exact o1.elim
    |some d3 =>
     rw[en] at o1
     intro v2 P2 N2 H2 r2 x2
     refine o1 v2 P2 N2 H2 (a.regO S1.reg r2) ?_
     cases er3 with
     |brw _ _=>cases en
     |val d4 b4 =>
      simp only[qmV] at en
      split at en
      ·exact RepB.dn (C':=C.hv TT fun k=>((σ.set i (some v))[k]?).join) rfl (by assumption) x2
      ·cases en
     |fre d4 b4 =>
      simp only[qmV] at en
      split at en
      ·obtain⟨p,xs,rfl,h1,h2,h3,h4,h5⟩:=x2
       exact⟨p,xs,rfl,h1,(qjq h2).2,h3,h4,RepsB.dn (C':=C.hv TT fun k=>((σ.set i (some v))[k]?).join) rfl (by assumption) h5⟩
      ·cases en
   |nx ρ2 =>
    rw[er2] at o1
    simp only[Out.hv] at o1
    intro σ2 P2 N2 H2 S2 sp sn
    split at o1
    case h_2=>exact o1.elim
    rename_i d2 k2 e2
    simp only[qba] at o1
    split at o1
    case isFalse=>exact o1.elim
    rename_i hk
    simp only[Bool.and_eq_true,beq_iff_eq,List.all_eq_true,Nat.blt_eq] at hk
    obtain⟨hk,htg⟩:=hk
    subst hk
    cases ec:chg cs [(k2,d)] ([],0) with
    |none=>rw[ec] at o1;exact o1.elim
    |some Z' =>
     rw[ec] at o1
     simp only at o1
     have R:=a.out S1 hi rvT S2 sp sn e2 cs.tgs
     exact⟨P2,N2,_,TT,_,_,Z',R,fun l hl=>qmq (by rw[qgl];exact htg l hl) hl,ec,fun σ3 P3 N3 H3 R3 s3 s4=>⟨_,P3,N3,R3.sr,o1.adv ((a1.pp.trans a.pp).trans (sp.trans s3)) (a1.nn.trans (sn.trans s4))⟩⟩
end
end Cm
namespace Cm
open PySem PySem.Spec PyProof.Rows L2
section
variable {G:Glo} {P:Hp} {T:TL}
mutual
theorem qtp {p:Addr} {ys:List V} (hp:T p=some ys):∀(d:D) (v:V) {N:Hp},(∀a xs,T a=some xs→a≠p→N a=some (.lst xs))→noK (clV ys) d=true→Rep G P (LT T) d v→Rep G P (fun a xs=>N a=some (.lst xs)) d v
 |.non,_,_,_,_,h=>h
 |.bl _,_,_,_,_,h=>h
 |.int _,_,_,_,_,h=>h
 |.str _,_,_,_,_,h=>h
 |.lst ds,v,N,hN,hk,⟨a,xs,e,h1,h2⟩=>by
  simp only[noK,Bool.and_eq_true,bne_iff_ne] at hk
  have h1:T a=some xs:=h1
  refine⟨a,xs,e,hN a xs h1 fun z=>hk.1 ?_,qge hp ds xs hN hk.2 h2⟩
  subst z
  rw[hp] at h1;cases h1
  exact(qdk h2).symm
 |.tup ds,v,N,hN,hk,⟨a,xs,e,h1,h2⟩=>⟨a,xs,e,h1,qge hp ds xs hN hk h2⟩
 |.ins _ _,_,_,_,_,h=>h
 |.exc _ _,_,_,_,_,h=>h
theorem qge {p:Addr} {ys:List V} (hp:T p=some ys):∀(ds:List D) (vs:List V) {N:Hp},(∀a xs,T a=some xs→a≠p→N a=some (.lst xs))→qrp (clV ys) ds=true→Reps G P (LT T) ds vs→Reps G P (fun a xs=>N a=some (.lst xs)) ds vs
 |[],_,_,_,_,h=>h
 |d::ds,vs,N,hN,hk,⟨v,r,e,h1,h2⟩=>by
  simp only[qrp,Bool.and_eq_true] at hk
  exact⟨v,r,e,qtp hp d v hN hk.1 h1,qge hp ds r hN hk.2 h2⟩
end
end
def NT (T:TL) (p:Addr) (N:Hp):Hp:=fun b=>if b=p then none else match T b with
 |some xs=>some (.lst xs)
 |none=>N b
section
variable {C:Ctx} {P N H P' H':Hp} {T:TL} {p:Addr} {ys:List V}
theorem qvJ:NT T p N p=none:=if_pos rfl
theorem qvL {b:Addr} {xs:List V} (h:T b=some xs) (ne:b≠p):NT T p N b=some (.lst xs):=by unfold NT;rw[if_neg ne,h]
theorem qvA {b:Addr} (h:T b=none) (ne:b≠p):NT T p N b=N b:=by unfold NT;rw[if_neg ne,h]
theorem HvR.advNT (a:HvR P H P' H' T) (r:Reg C P N H) (hp:T p=some ys):Adv P N H P' (NT T p N) H' where
 hh:=a.hh
 pp:=a.pp
 nn:=fun b o e=>by
  have hb:H b≠none:=by rw[r.nH _ _ e];exact fun z=>nomatch z
  have ne:b≠p:=fun z=>hb (z ▸ (a.t p ys hp).2.1)
  rw[qvA (a.tn hb) ne];exact e
 pH:=a.pH
 nH:=fun b o e=>by
  by_cases ne:b=p
  ·subst ne;rw[qvJ] at e;cases e
  ·cases q:T b with
   |none=>rw[qvA q ne] at e;exact a.hh _ _ (r.nH _ _ e)
   |some xs=>rw[qvL q ne] at e;cases e;exact(a.t b xs q).1
 pn:=a.pn
 nw:=fun b h=>by
  by_cases ne:b=p
  ·subst ne;exact absurd qvJ h
  ·cases q:T b with
   |none=>rw[qvA q ne] at h;exact .inl h
   |some xs=>exact .inr (a.t b xs q).2.1
 dj:=fun b h h2=>by
  by_cases ne:b=p
  ·subst ne;exact absurd qvJ h
  ·cases q:T b with
   |none=>rw[qvA q ne] at h;exact h
   |some xs=>exact absurd (a.t b xs q).2.2 h2
theorem SR.setO2 {H0 P N H:Hp} {ρ:List Sl} {σ:L2.St} (S:SR C P N H ρ σ) {i:Nat} {ds:List Cm.D} {b:Bool} {p:Addr} {xs:List V} (old0:∀(m:Nat) (r:Addr) (es:List Cm.D) (c:Bool),ρ[m]? = some (.own es c)→σ[m]? = some (some (.ref r))→H0 r≠none) (hB:C.B p=none) (h0:H0 p=none) (hp:H p=some (.lst xs)) (pP:P p=none) (pN:N p=none) (h:RepsB C P N b ds xs):SR C P N H (ρ.set i (.own ds b)) (σ.set i (some (.ref p))) where
 reg:=S.reg
 len:=by simp[S.len]
 sl:=fun j s e=>by
  by_cases q:i=j
  ·subst q
   have hi:i<ρ.length:=by
    rcases Nat.lt_or_ge i ρ.length with z | z
    ·exact z
    ·rw[List.getElem?_eq_none (by simpa using z)] at e;cases e
   rw[List.getElem?_set_self hi] at e
   cases e
   exact⟨_,List.getElem?_set_self (by rw[S.len];exact hi),p,xs,rfl,hp,pP,pN,hB,h⟩
  ·rw[List.getElem?_set_ne q] at e
   rw[List.getElem?_set_ne q]
   exact S.sl j s e
 ap:=fun j k r ds' c es c' e1 e2 e3 e4=>by
  have old:∀{m:Nat} {r:Addr} {es:List Cm.D} {c:Bool},i≠m→(ρ.set i (.own ds b))[m]? = some (.own es c)→(σ.set i (some (.ref p)))[m]? = some (some (.ref r))→H0 r≠none:=fun {m r es c} hm e1 e2=>by
   rw[List.getElem?_set_ne hm] at e1 e2
   exact old0 m r es c e1 e2
  have here:∀{m:Nat} {r:Addr},i=m→m<σ.length→(σ.set i (some (.ref p)))[m]? = some (some (.ref r))→r=p:=fun {m r} hm hl e=>by
   subst hm
   rw[List.getElem?_set_self hl] at e
   cases e;rfl
  have lt:∀{m:Nat} {o:Option V},(σ.set i (some (.ref p)))[m]? = some o→m<σ.length:=fun {m o} e=>by
   rcases Nat.lt_or_ge m σ.length with z | z
   ·exact z
   ·rw[List.getElem?_eq_none (by simpa using z)] at e;cases e
  by_cases q:i=j
  ·by_cases q2:i=k
   ·omega
   ·have:=here q (lt e3) e3
    subst this
    exact absurd h0 (old q2 e2 e4)
  ·by_cases q2:i=k
   ·have:=here q2 (lt e4) e4
    subst this
    exact absurd h0 (old q e1 e3)
   ·rw[List.getElem?_set_ne q] at e1 e3
    rw[List.getElem?_set_ne q2] at e2 e4
    exact S.ap j k r ds' c es c' e1 e2 e3 e4
 ad:=S.ad.set rfl
end
section
variable {T:Tb} {Γ:Env} {C:Ctx} {X:Cx} {sc:Scope}
theorem qpD {er:ER} {p:List Cm.D × List Cm.D} (h:qkM er=some p):er=.val (.tup [.lst p.1,.lst p.2]) true∧D.flats p.1=true∧clD p.1≠clD p.2∧qrp (clD p.2) p.2=true:=by
 unfold qkM at h
 split at h
 ·split at h
  ·rename_i k
   cases h
   simp only[Bool.and_eq_true,bne_iff_ne] at k
   exact⟨rfl,k.1.1,k.1.2,k.2⟩
  ·cases h
 ·cases h
theorem qqA {i j n:Nat} {es:Exs} {g':List Cm.D→RE ER} {D:Ends} {σ:L2.St} {H:Hp} (hK:X.K=C.G.K) (hn:∀ρ r,evs Γ es ρ=.ok r→r.length=n)
  (q:tS C (fun ρ=>(evs Γ es ρ).out fun r=>(g' (r.map ER.d)).out fun er=>match qkM er with
   |some p=>if i=j then .bad else .nx ((ρ.set i (.val (.lst p.1) true)).set j (.own p.2 true))
   |none=>.bad) D σ H):tAsg (fun σ H Q=>tA C (evs Γ es) σ H fun vs H1=>spD C.G n g' vs H1 Q (fun cls d H'=>C.W cls d σ H')) (gTup X.K 2 (qkg [i,j])) D σ H:=by
 obtain⟨ρ,P,N,S,o⟩:=q
 refine⟨ρ,P,N,S,(o.res S.reg).mono fun r P1 N1 H1 e1 a1 o1 vs rv=>?_⟩
 have S1:=S.adv a1
 refine qmm S1.reg rv (hn _ _ e1) ?_
 cases eg:g' (r.map ER.d) with
 |bad=>rw[eg] at o1;exact o1
 |exc c fs =>
  rw[eg] at o1
  exact fun d P' N' H' ad hx=>o1 σ d P' N' H' (S1.reg.adv ad) hx
 |ok er =>
  rw[eg] at o1
  simp only[RE.out_ok] at o1
  cases ed:qkM er with
  |none=>rw[ed] at o1;exact o1.elim
  |some pr =>
   rw[ed] at o1
   obtain⟨ds,ys⟩:=pr
   obtain⟨rfl,f1,f2,f3⟩:=qpD ed
   by_cases hij:i=j
   ·simp only[if_pos hij] at o1;exact o1.elim
   simp only[if_neg hij] at o1
   refine⟨.tup [.lst ds,.lst ys],rfl,fun v H' P' TT a rvT=>?_⟩
   obtain⟨t,xs,rfl,ht,v1,r1,rfl,w1,v2,r2,rfl,w2,e3⟩:=rvT
   have e3:r2=[]:=e3
   subst e3
   obtain⟨p1,x1,rfl,t1,z1⟩:=w1
   obtain⟨p2,x2,rfl,t2,z2⟩:=w2
   have t1:TT p1=some x1:=t1
   have t2:TT p2=some x2:=t2
   have ne:p1≠p2:=fun z=>by
    subst z
    rw[t1] at t2;cases t2
    exact f2 ((qdk z1).symm.trans (qdk z2))
   have ad:=a.advNT (N:=N1) S1.reg t2
   have SA:=S1.adv ad
   have q1:RepB C P' (NT TT p2 N1) true (.lst ds) (.ref p1):=⟨p1,x1,rfl,.inl (qvL t1 ne),Reps.flat ds x1 f1 z1⟩
   have q2:RepsB C P' (NT TT p2 N1) true ys x2:=by
    have k:=qge (N:=NT TT p2 N1) t2 ys x2 (fun a xs e ne=>qvL e ne) (by rw[qdk z2];exact f3) z2
    exact Reps.mono (L2.Same.refl _) ys x2 (fun a xs h=>.inl h) k
   refine⟨t,[.ref p1,.ref p2],rfl,hK ▸ Same.seqT ad.pH ht,rfl,_,_,rfl,_,_,rfl,rfl,?_⟩
   have S2:=SA.setV (i:=i) q1
   have hb:=a.t p2 x2 t2
   refine o1 _ P' (NT TT p2 N1) H' (SR.setO2 (H0:=H1) S2 (fun m r es c e1 e2=>?_) (S1.reg.bH.free hb.2.1) hb.2.1 hb.1 hb.2.2 qvJ q2) (a1.pp.trans ad.pp) (a1.nn.trans ad.nn)
   by_cases q:i=m
   ·subst q
    rcases Nat.lt_or_ge i ρ.length with z | z
    ·rw[List.getElem?_set_self z] at e1;cases e1
    ·rw[List.getElem?_eq_none (by simpa using z)] at e1;cases e1
   ·rw[List.getElem?_set_ne q] at e1 e2
    obtain⟨o,y1,p,xs,rfl,y3,_⟩:=S1.sl m _ e1
    rw[y1] at e2;cases e2
    rw[y3];exact fun z=>nomatch z
end
end Cm
namespace Cm
open PySem PySem.Spec PyProof.Rows L2
section
variable {C:Ctx} {X:Cx}
theorem qjy {ss:List Stmt} {g:List Sl→Out} (h:PSs X (ss++[]) (tSk C g tNext)):PSs X ss (tS C g):=by rw[List.append_nil] at h;exact h
theorem qqX {g g':List Sl→Out} {u:TS} {D:Ends} {σ:L2.St} {H:Hp} (q:tSk C g u D σ H) (e:∀ρ,g ρ=g' ρ):tSk C g' u D σ H:=by
 have:g=g':=funext e
 rw[←this];exact q
theorem qvk {u:TS} {D:Ends} {σ:L2.St} {H:Hp} (q:tSk C (fun ρ=>Out.nx ρ) u D σ H):u D σ H:=by
 obtain⟨ρ,P,N,S,o⟩:=q
 exact o σ P N H S (L2.Same.refl _) (L2.Same.refl _)
theorem qtw {g g':List Sl→Out} {u:TS} {D:Ends} {σ:L2.St} {H:Hp} (q:tSk C (fun ρ=>(g ρ).seq g') u D σ H):tSeq (tS C g) (tSk C g' u) D σ H:=by
 obtain⟨ρ,P,N,S,h⟩:=q
 refine⟨ρ,P,N,S,?_⟩
 show outS C P N { D with nx:=tSk C g' u D } (g ρ)
 cases e:g ρ with
 |nx ρ'=>simp only[e,Out.seq_nx] at h;exact fun σ P' N' H' S e1 e2=>⟨ρ',P',N',S,h.adv e1 e2⟩
 |bad=>simp only[e] at h;exact h
 |brk ρ'=>simp only[e] at h;exact h
 |cnt ρ'=>simp only[e] at h;exact h
 |ret er=>simp only[e] at h;exact h
 |exc c fs=>simp only[e] at h;exact h
theorem quQ {i:Nat} {g:List Sl→Out} {u:TS} {D:Ends} {σ:L2.St} {H:Hp} (q:tSk C (fun ρ=>qbh ρ i fun ds b=>g (ρ.set i (.val (.lst ds) b))) u D σ H):tSk C g u D σ H:=qs8 (D:={ D with nx:=u D }) q
end
structure FrOk (X:Cx):Prop where
 st:X.stack=X.env::X.outer
 fr:X.env.frame=some X.env.locals
 ex:X.ex=[]
mutual
theorem qvf {T:Tb} {Γ:Env} {C:Ctx} {X:Cx} {sc:Scope} (I:XOk T Γ C X none sc) (hp:PassesOwn (model X.prog X.w) X.A X.env X.xe) (hF:FrOk X):∀(ir:Sm) {s:Stmt},qeY T sc ir s=true→PS X s (tS C (run Γ ir))
 |.nev,s,h=>qbe qlc fun ρ=>by rw[run]
 |.rse k,s,h=>by
  unfold qeY at h
  split at h
  case h_2=>cases h
  simp only[Bool.and_eq_true,decide_eq_true_eq] at h
  obtain⟨⟨h1,h2⟩,h3⟩:=h
  cases q:Γ.xk[k]? with
  |none=>exact qbe qlc fun ρ=>by rw[run,q]
  |some c=>exact qbe (qr8 I.K I.calm I.tk (qa1 I.sc h2) (qbA h3).1 (I.xk k _ h1 c q)) fun ρ=>by rw[run,q]
 |.tryx k i j b,s,h=>by
  unfold qeY at h
  split at h
  case h_2=>cases h
  simp only[Bool.and_eq_true,decide_eq_true_eq] at h
  obtain⟨⟨⟨⟨⟨⟨⟨⟨⟨⟨h1,h2⟩,h3⟩,h4⟩,h5⟩,rfl⟩,h7⟩,h8⟩,h9⟩,h10⟩,h11⟩:=h
  cases q:T.ck[k]? with
  |none=>rw[q] at h1;cases h1
  |some t =>
   obtain⟨x,own⟩:=t
   rw[q] at h1
   cases h1
   exact qbe (qtj I.K hF.st hF.fr hF.ex I.nd (by rw[I.nm];exact h4) (by rw[I.nm];exact h5) (by unfold Env.kindOf;rw[I.sc];exact h7) (by unfold Env.kindOf;rw[I.sc];exact h8) (qbA h9) (qa1 I.sc h2) (I.blt _ (by decide)) (qbA h3).1 (I.ck k x own q) I.tk h10 (fun W pn xe tk _=>qly b (I.tr tk) h11)) fun ρ=>by rw[run]
 |.asg i e,s,h=>by
  unfold qeY at h
  split at h
  case h_2=>cases h
  simp only[Bool.and_eq_true,decide_eq_true_eq] at h
  obtain⟨⟨⟨h1,h2⟩,h3⟩,h4⟩:=h
  exact qbe (qag (qlf I h1 h2 h3 h4) fun D σ H q=>qtK q) fun ρ=>by rw[run]
 |.own i e,s,h=>by
  unfold qeY at h
  split at h
  case h_2=>cases h
  simp only[Bool.and_eq_true,decide_eq_true_eq] at h
  obtain⟨⟨⟨h1,h2⟩,h3⟩,h4⟩:=h
  exact qbe (qag (qlf I h1 h2 h3 h4) fun D σ H q=>qsm q) fun ρ=>by rw[run]<;>rfl
 |.asgT tg e,s,h=>by
  unfold qeY at h
  split at h
  case h_2=>cases h
  simp only[Bool.and_eq_true] at h
  obtain⟨⟨⟨⟨h1,h2⟩,h3⟩,h4⟩,h5⟩:=h
  exact qbe (qpY (qac e I h3).1 (qgi I h1) (qoJ h4) (qjC h5) (qoq h2)) fun ρ=>by rw[run]<;>rfl
 |.par tg es,s,h=>by
  unfold qeY at h
  split at h
  case h_2=>cases h
  rename_i ts kt pt vs k2 pt2 pos
  simp only[Bool.and_eq_true,decide_eq_true_eq,Bool.not_eq_true'] at h
  obtain⟨⟨⟨⟨⟨⟨⟨⟨h1,h2⟩,h3⟩,h4⟩,h5⟩,h6⟩,h7⟩,h8⟩,h9⟩:=h
  have hk:X.env.scope.kind=.function:=by
   rw[I.sc]
   cases e:sc.kind<;>simp_all
  have pa:=qcl es I h1 h2
  rcases h8 with h8 | h8
  ·obtain⟨t1,t2,rfl⟩:=qlG h8
   obtain⟨v1,v2,rfl⟩:=qlG (h7 ▸ h8)
   obtain⟨i,j,x,y,px,py,rfl,rfl,rfl,a1,a2,b1,b2,b3⟩:=qrS h3
   have hij:i≠j:=by simpa using h6
   have hxy:x≠y:=fun e=>by
    subst e
    exact hij (nodup_ix (by rw[←I.nm];exact I.nd) a1 b1)
   exact qbe (qag (ps_par I.calm I.nd (by rw[I.nm];exact a1) (by rw[I.nm];exact b1) hij (by rw[I.sc];exact a2) (by rw[I.sc];exact b2) pa (qrN hk (by rw[I.sc];exact a2) (by rw[I.sc];exact b2) b3 hxy h2 h4 h5)) fun D σ H q=>qqF q) fun ρ=>by rw[run]
  ·obtain⟨t1,t2,t3,rfl⟩:=qhb h8
   obtain⟨v1,v2,v3,rfl⟩:=qhb (h7 ▸ h8)
   obtain⟨i,j,k,x,y,z,px,py,pz,rfl,rfl,rfl,rfl,a1,a2,b1,b2,b3,c1,c2,c3⟩:=qnt h3
   have hij:i≠j∧i≠k∧j≠k:=by
    simp at h6;omega
   have ne:∀{m n:Nat} {x y:Str},m≠n→T.N[m]? = some x→T.N[n]? = some y→x≠y:=fun {m n x y} hmn e1 e2 e=>by
    subst e
    exact hmn (nodup_ix (by rw[←I.nm];exact I.nd) e1 e2)
   exact qbe (qag (ps_par3 I.calm I.nd (by rw[I.nm];exact a1) (by rw[I.nm];exact b1) (by rw[I.nm];exact c1) hij.1 hij.2.1 hij.2.2 (by rw[I.sc];exact a2) (by rw[I.sc];exact b2) (by rw[I.sc];exact c2) pa (qsL hk (by rw[I.sc];exact a2) (by rw[I.sc];exact b2) (by rw[I.sc];exact c2) b3 c3 (ne hij.1 a1 b1) (ne hij.2.1 a1 c1) (ne hij.2.2 b1 c1) h2 h4 h5)) fun D σ H q=>qpM q) fun ρ=>by rw[run]
 |.put i ix e,s,h=>by
  unfold qeY at h
  split at h
  case h_2=>cases h
  simp only[Bool.and_eq_true,decide_eq_true_eq] at h
  obtain⟨⟨⟨⟨⟨h1,h2⟩,h3⟩,h4⟩,h5⟩,h6⟩:=h
  obtain⟨n1,n2⟩:=qbA h3
  refine qbe (qag (ps_asg (qac e I h6).1 (pg_sub (pe_var (i:=i) (by rw[I.nm];exact h1) (qbN I.sc h2) n1 n2) (qac ix I h5).1 set_list (qoF h4)) qlX qia rfl) fun D σ H q=>qsi q) fun ρ=>by rw[run]<;>rfl
 |.app i e,s,h=>by
  unfold qeY at h
  split at h
  case h_2=>cases h
  simp only[Bool.and_eq_true,decide_eq_true_eq] at h
  obtain⟨⟨⟨⟨⟨⟨h1,h2⟩,h3⟩,rfl⟩,h5⟩,h6⟩,h7⟩:=h
  obtain⟨n1,n2⟩:=qbA h3
  refine qbe (qag (ps_expr (pe_bm PySem.F.plainAttrs_list PySem.F.slot_list_append PySem.F.type_list_append mt_append (pe_var (i:=i) (by rw[I.nm];exact h1) (qbN I.sc h2) n1 n2) (pa_cons (qac e I h5).1 pa_nil (qab h6)) rfl (qeO h6) h7 (qab h6) rfl) rfl) fun D σ H q=>qrK q) fun ρ=>by rw[run]
 |.ext i e,s,h=>by
  unfold qeY at h
  split at h
  case h_2=>cases h
  simp only[Bool.and_eq_true,decide_eq_true_eq] at h
  obtain⟨⟨⟨⟨⟨⟨h1,h2⟩,h3⟩,rfl⟩,h5⟩,h6⟩,h7⟩:=h
  obtain⟨n1,n2⟩:=qbA h3
  refine qbe (qag (ps_expr (pe_bm PySem.F.plainAttrs_list PySem.F.slot_list_extend PySem.F.type_list_extend mt_extend (pe_var (i:=i) (by rw[I.nm];exact h1) (qbN I.sc h2) n1 n2) (pa_cons (qac e I h5).1 pa_nil (qab h6)) rfl (qeO h6) h7 (qab h6) rfl) rfl) fun D σ H q=>qsw q) fun ρ=>by rw[run]<;>rfl
 |.popv j i,s,h=>by
  unfold qeY at h
  split at h
  case h_2=>cases h
  simp only[Bool.and_eq_true,decide_eq_true_eq] at h
  obtain⟨⟨⟨⟨⟨⟨h0,h0'⟩,h1⟩,h2⟩,h3⟩,rfl⟩,h7⟩:=h
  obtain⟨n1,n2⟩:=qbA h3
  obtain⟨t1,t2⟩:=qkX I h0'
  refine qbe (qag (ps_set (i:=j) I.nd (by rw[I.nm];exact h0) t1 (pe_bm0 PySem.F.plainAttrs_list PySem.F.slot_list_pop PySem.F.type_list_pop mt_pop (pe_var (i:=i) (by rw[I.nm];exact h1) (qbN I.sc h2) n1 n2) rfl h7) rfl t2) fun D σ H q=>qpZ q) fun ρ=>by rw[run]<;>rfl
 |.clr i,s,h=>by
  unfold qeY at h
  split at h
  case h_2=>cases h
  simp only[Bool.and_eq_true,decide_eq_true_eq] at h
  obtain⟨⟨⟨⟨h1,h2⟩,h3⟩,rfl⟩,h7⟩:=h
  obtain⟨n1,n2⟩:=qbA h3
  refine qbe (qag (ps_expr (pe_bm0 PySem.F.plainAttrs_list PySem.F.slot_list_clear PySem.F.type_list_clear mt_clear (pe_var (i:=i) (by rw[I.nm];exact h1) (qbN I.sc h2) n1 n2) rfl h7) rfl) fun D σ H q=>qrR q) fun ρ=>by rw[run]
 |.expr e,s,h=>by
  unfold qeY at h
  split at h
  case h_2=>cases h
  simp only[Bool.and_eq_true] at h
  exact qbe (qpk (qac e I h.1).1 (qfn h.2)) fun ρ=>by rw[run]
 |.ret e,s,h=>by
  unfold qeY at h
  split at h
  case h_2=>cases h
  exact qbe (qs9 (qac e I h).1) fun ρ=>by rw[run]
 |.retN,s,h=>by
  unfold qeY at h
  split at h
  case h_2=>cases h
  exact qbe qqK fun ρ=>by rw[run]
 |.pas,s,h=>by
  unfold qeY at h
  split at h
  ·exact qbe qqP fun ρ=>by rw[run]
  ·exact qbe qrP fun ρ=>by rw[run]
  ·cases h
 |.brk,s,h=>by
  unfold qeY at h
  split at h
  case h_2=>cases h
  exact qbe qsy fun ρ=>by rw[run]
 |.cnt,s,h=>by
  unfold qeY at h
  split at h
  case h_2=>cases h
  exact qbe qto fun ρ=>by rw[run]
 |.iff c a b,s,h=>by
  unfold qeY at h
  split at h
  case h_2=>cases h
  simp only[Bool.and_eq_true] at h
  exact qbe (qs6 (qf5 c I h.1.1) (qjy (qdv I hp hF a h.1.2 pss_nil)) (qjy (qdv I hp hF b h.2 pss_nil))) fun ρ=>by rw[run]
 |.for it tg b,s,h=>by
  unfold qeY at h
  split at h
  case h_2=>cases h
  simp only[Bool.and_eq_true] at h
  obtain⟨⟨⟨h1,h2⟩,h3⟩,h4⟩:=h
  exact qbe (qag (ps_for hp I.calm (qnp it I h1) (qgi I h2) (qjy (qdv I hp hF b h3 pss_nil)) (qjg h4)) fun D σ H q=>qrX q) fun ρ=>by rw[run]<;>rfl
 |.apop i j ix,s,h=>by
  unfold qeY at h
  split at h
  case h_2=>cases h
  simp only[Bool.and_eq_true,decide_eq_true_eq] at h
  obtain⟨⟨⟨⟨⟨⟨⟨⟨⟨⟨⟨h1,h2⟩,h3⟩,rfl⟩,h4⟩,g1⟩,g2⟩,g3⟩,rfl⟩,g4⟩,h5⟩,h6⟩:=h
  obtain⟨n1,n2⟩:=qbA h3
  obtain⟨m1,m2⟩:=qbA g3
  refine qbe (qag (ps_expr (pe_bm PySem.F.plainAttrs_list PySem.F.slot_list_append PySem.F.type_list_append mt_append (pe_var (i:=i) (by rw[I.nm];exact h1) (qbN I.sc h2) n1 n2) (pa_cons (pe_bm PySem.F.plainAttrs_list PySem.F.slot_list_pop PySem.F.type_list_pop mt_popAt (pe_var (i:=j) (by rw[I.nm];exact g1) (qbN I.sc g2) m1 m2) (pa_cons (qac ix I h5).1 pa_nil (qab h6)) rfl (qeO h6) g4 (qab h6) rfl) pa_nil rfl) rfl rfl h4 rfl rfl) rfl) fun D σ H q=>qpC q) fun ρ=>by rw[run]<;>rfl
 |.popx i e,s,h=>by
  unfold qeY at h
  split at h
  case h_2=>cases h
  simp only[Bool.and_eq_true,decide_eq_true_eq] at h
  obtain⟨⟨⟨⟨⟨⟨h1,h2⟩,h3⟩,rfl⟩,h5⟩,h6⟩,h7⟩:=h
  obtain⟨n1,n2⟩:=qbA h3
  refine qbe (qag (ps_expr (pe_bm PySem.F.plainAttrs_list PySem.F.slot_list_pop PySem.F.type_list_pop mt_popAt (pe_var (i:=i) (by rw[I.nm];exact h1) (qbN I.sc h2) n1 n2) (pa_cons (qac e I h5).1 pa_nil (qab h6)) rfl (qeO h6) h7 (qab h6) rfl) rfl) fun D σ H q=>qpe q) fun ρ=>by rw[run]<;>rfl
 |.rmv i e,s,h=>by
  unfold qeY at h
  split at h
  case h_2=>cases h
  simp only[Bool.and_eq_true,decide_eq_true_eq] at h
  obtain⟨⟨⟨⟨⟨⟨h1,h2⟩,h3⟩,rfl⟩,h5⟩,h6⟩,h7⟩:=h
  obtain⟨n1,n2⟩:=qbA h3
  refine qbe (qag (ps_expr (pe_bm PySem.F.plainAttrs_list PySem.F.slot_list_remove PySem.F.type_list_remove mt_remove (pe_var (i:=i) (by rw[I.nm];exact h1) (qbN I.sc h2) n1 n2) (pa_cons (qac e I h5).1 pa_nil (qab h6)) rfl (qeO h6) h7 (qab h6) rfl) rfl) fun D σ H q=>qsW q) fun ρ=>by rw[run]<;>rfl
 |.fset f e,s,h=>by
  unfold qeY at h
  split at h
  case h_2=>cases h
  rename_i x p fn p' v pos
  simp only[Bool.and_eq_true,decide_eq_true_eq] at h
  obtain⟨⟨⟨⟨h1,h2⟩,h3⟩,h4⟩,h5⟩:=h
  obtain⟨n1,n2⟩:=qbA h3
  refine qbe (qag (ps_fld (pe_var (i:=0) (by rw[I.nm];exact h1) (qbN I.sc h2) n1 n2) (qac e I h5).1 (by cases v<;>rfl)) fun D σ H q=>qpf (fi:=fun c=>Γ.fi c f) (fun c k e=>I.fs f fn h4 c k e) q) fun ρ=>by rw[run]<;>rfl
 |.tapp o e,s,h=>by
  unfold qeY at h
  split at h
  case h_2=>cases h
  simp only[Bool.and_eq_true,decide_eq_true_eq] at h
  obtain⟨⟨⟨⟨⟨rfl,ho⟩,h5⟩,h6⟩,hb⟩,h7⟩:=h
  refine qbe (qag (ps_expr (pe_bm PySem.F.plainAttrs_list PySem.F.slot_list_append PySem.F.type_list_append mt_append (qac o I ho).1 (pa_cons (qac e I h5).1 pa_nil (qab h6)) (qcR hb) (qeO h6) h7 (qab h6) rfl) rfl) fun D σ H q=>qqq q) fun ρ=>by rw[run]<;>rfl
 |.tclr o,s,h=>by
  unfold qeY at h
  split at h
  case h_2=>cases h
  simp only[Bool.and_eq_true,decide_eq_true_eq] at h
  obtain⟨⟨⟨rfl,ho⟩,hb⟩,h7⟩:=h
  refine qbe (qag (ps_expr (pe_bm0 PySem.F.plainAttrs_list PySem.F.slot_list_clear PySem.F.type_list_clear mt_clear (qac o I ho).1 (qcR hb) h7) rfl) fun D σ H q=>qpB q) fun ρ=>by rw[run]<;>rfl
 |.dnew i,s,h=>by
  unfold qeY at h
  split at h
  case h_2=>cases h
  simp only[Bool.and_eq_true,decide_eq_true_eq] at h
  obtain⟨h1,h2⟩:=h
  obtain⟨t1,t2⟩:=qkX I h2
  exact qbe (qqJ I.nd (by rw[I.nm];exact h1) t1 t2) fun ρ=>by rw[run]
 |.dput i ix e,s,h=>by
  unfold qeY at h
  split at h
  case h_2=>cases h
  simp only[Bool.and_eq_true,decide_eq_true_eq] at h
  obtain⟨⟨⟨⟨h1,h2⟩,h3⟩,h4⟩,h5⟩:=h
  obtain⟨n1,n2⟩:=qbA h3
  exact qbe (qp8 I.un (by rw[I.nm];exact h1) (qbN I.sc h2) n1 n2 (qac ix I h4).1 (qac e I h5).1) fun ρ=>by rw[run]<;>rfl
 |.asgO i j f es,s,h=>by
  unfold qeY at h
  split at h
  case h_2=>cases h
  rename_i t y p xs q pos
  simp only[Bool.and_eq_true,decide_eq_true_eq] at h
  obtain⟨⟨⟨⟨⟨⟨h1,h2⟩,h3⟩,h4⟩,h5⟩,h6⟩,h7⟩:=h
  cases e:Γ.fn[f]? with
  |none=>exact qbe qlc fun ρ=>by rw[run,e]
  |some g =>
   obtain⟨k,a,fd,ps,m,gf,F,hr,hm,hk,dv,dvs,dus,hb,hdv,hdm,hdr,hgf⟩:=I.fn f y xs.length h3 g e
   have pe:=qgc (C:=C) F hr (qa1 I.sc h4) hm hk hb hdv hdm hdr hgf I.tk (qcl es I h6 h7) (qbA h5).1 (qdM h7) (fun z ρ=>qfx h6 z ρ) (p:=p) (pos:=q)
   cases t<;>try exact(Bool.false_ne_true h2).elim
   rename_i ts kt tp
   simp only[qkL,Bool.and_eq_true] at h1
   obtain⟨g3,g4,g5,g6⟩:=qg4 I _ _ h1.2
   refine qbe (qag (ps_asg pe (pg_tup I.calm g3 (by rw[g5,g4];rfl) g6) (qoJ rfl) (qjC rfl) (qoq h2)) fun D σ H q=>qqA I.K (fun ρ r er=>qcm es ρ r xs h6 er) q) fun ρ=>by rw[run,e]<;>rfl
 |.whl c b,s,h=>by
  unfold qeY at h
  split at h
  case h_2=>cases h
  simp only[Bool.and_eq_true] at h
  exact qbe (qag (ps_while hp (qf5 c I h.1) (qjy (qdv I hp hF b h.2 pss_nil))) fun D σ H q=>qsY q) fun ρ=>by rw[run]
theorem qdv {T:Tb} {Γ:Env} {C:Ctx} {X:Cx} {sc:Scope} (I:XOk T Γ C X none sc) (hp:PassesOwn (model X.prog X.w) X.A X.env X.xe) (hF:FrOk X):∀(ir:Sms) {ss rest:List Stmt} {u:TS},qaj T sc ir ss=true→PSs X rest u→PSs X (ss++rest) (tSk C (qap Γ ir) u)
 |.nil,ss,rest,u,h,hr=>by
  unfold qaj at h
  cases ss with
  |nil=>exact qa3 hr fun D σ H q=>qvk (qqX q fun ρ=>by rw[qap])
  |cons _ _=>cases h
 |.cons s ir,ss,rest,u,h,hr=>by
  unfold qaj at h
  cases ss with
  |nil=>cases h
  |cons st ss =>
   simp only[Bool.and_eq_true] at h
   refine qa3 (pss_cons (qvf I hp hF s h.1) (qdv I hp hF ir h.2 hr)) fun D σ H q=>qtw (qqX q fun ρ=>by rw[qap])
 |.frz i ir,ss,rest,u,h,hr=>by
  unfold qaj at h
  refine qa3 (qdv I hp hF ir h hr) fun D σ H q=>quQ (i:=i) (qqX q fun ρ=>by rw[qap])
 |.hav i f es rd cs ir,ss,rest,u,h,hr=>by
  unfold qaj at h
  cases ss with
  |nil=>cases h
  |cons st ss =>
   simp only[Bool.and_eq_true] at h
   obtain⟨⟨⟨h1,h2⟩,h3⟩,h4⟩:=h
   cases e:Γ.fn[f]? with
   |none =>
    refine qa3 pss_never fun D σ H q=>?_
    obtain⟨ρ,P,N,S,o⟩:=q
    rw[qap,e] at o
    exact o.elim
   |some g =>
    obtain⟨n,hn,hs⟩:=quJ I h1 g e
    have in_:PSs X (ss++rest) (tIn C (qap Γ rd) (tCk C cs (tSk C (qap Γ ir) u))):=by
     have e1:ss++rest=ss.take rd.len++((ss.drop rd.len).take cs.len++((ss.drop rd.len).drop cs.len++rest)):=by
      rw[←List.append_assoc ((ss.drop rd.len).take cs.len),List.take_append_drop,←List.append_assoc,List.take_append_drop]
     rw[e1]
     have k:=qgB (C:=C) I hp cs h3 (qdv I hp hF ir h4 hr)
     exact⟨fun pins s σ H D I' q=>by
      obtain⟨TT,fx,q⟩:=q
      exact(qdv (I.hv (TT:=TT) (fx:=fx)) hp hF rd h2 k).run pins s σ H D I' q⟩
    refine qa3 (pss_cons hs in_) fun D σ H q=>quo hn (qqX q fun ρ=>by rw[qap,e]<;>rfl)
end
theorem qn8 {T:Tb} {Γ:Env} {C:Ctx} {X:Cx} {sc:Scope} (I:XOk T Γ C X none sc) (hp:PassesOwn (model X.prog X.w) X.A X.env X.xe) (hF:FrOk X) (ir:Sms) {ss:List Stmt} (h:qaj T sc ir ss=true):PSs X ss (tS C (qap Γ ir)):=qjy (qdv I hp hF ir h pss_nil)
end Cm
namespace Cm
open PySem PySem.Spec PyProof.Rows L2
structure TabOk (P:Program) (w:World) (K:PySem.W.Frag) (mg:Str→Option Value) (base:Heap) (T:Tb) (Γ:Env) (G:Glo) (k:Nat):Prop where
 blt:∀x∈bltNames,mg x=none
 fn:∀(f:Nat) (x:Str) (n:Nat),T.fn[f]? = some (x,n)→∀g,Γ.fn[f]? = some g→∃(j:Nat) (a:Addr) (fd:FuncData) (ps:List Str) (m:Nat) (gf:List D→RE ER),j≤k∧FnOk P w K mg base (L2.CX P w) j a fd ps (spD G (n+m) gf)∧mg x=some (.ref a)∧PySem.W.keepIn K (.ref a)=true∧Part K G fd ps n m g.2 gf
 gc:∀(i:Nat) (x:Str),T.gc[i]? = some x→∀c,Γ.gc[i]? = some c→∃u v,mg x=some u∧RelV v u∧(∀(P N R:Hp),Rep G P (LNb G.K P N R true) c.2 v)∧WrT G v
 mt:∀(m:Nat) (x:Str) (n:Nat),T.mn[m]? = some (x,n)→∀c g,Γ.mt c m=some g→Cls K (G.ca c)∧x∉G.fl c∧∃(j:Nat) (a:Addr) (fd:FuncData) (ps:List Str),j≤k∧Meth K (G.ca c) x a∧FnOk P w K mg base (L2.CX P w) j a fd ps (spD G (n+1) g)∧Binds K fd ps []
 fs:∀(f:Nat) (x:Str),T.fs[f]? = some x→∀c i,Γ.fi c f=some i→Cls K (G.ca c)∧NoAttr K (G.ca c) x∧(G.fl c)[i]? = some x∧(G.fl c).Nodup
 nw:∀(i:Nat) (x:Str) (n:Nat),T.nw[i]? = some (x,n)→∀g,Γ.nw[i]? = some g→(∃(j:Nat) (a:Addr) (fd:FuncData) (ps:List Str),j+1≤k∧Mk K (G.ca g.1) a∧FnOk P w K mg base (L2.CX P w) j a fd ps (spI G g.1 n g.2)∧mg x=some (.ref (G.ca g.1))∧Binds K fd ps []) ∨
  (n=0∧g.2 []=.ok []∧Mk0 K (G.ca g.1)∧G.fl g.1=[]∧mg x=some (.ref (G.ca g.1)))
 ck:∀(i:Nat) (x:Str) (own:Bool),T.ck[i]? = some (x,own)→CkOk G K mg x own Γ.ck[i]? Γ.ik[i]?
 xk:∀(i:Nat) (x:Str),T.xk[i]? = some x→∀c,Γ.xk[i]? = some c→RsOk K mg (G.ca c) x
 dc:∀(i:Nat) (x:Str),T.dc[i]? = some x→∀t,Γ.dc[i]? = some t→qtV G K w mg x t.2
theorem ql9 {G:Glo} {P N R:Hp}:∀{ds:List D} {vs:List V},Reps G P (SqL G.K R) ds vs→Reps G P (LNb G.K P N R false) ds vs:=fun {ds vs} h=>Reps.mono (L2.Same.refl _) ds vs LNb.ofR h
theorem qpW {C:Ctx} {ds:List D} {vs:List V} {N:List Str} {m:Nat} (hp:Same C.P0 C.B) (hr:Same C.R C.B) (h:Reps C.G C.P0 (SqL C.G.K C.R) ds vs) (hm:N.length=ds.length+m) :
  SR C C.P0 (fun _=>none) C.B (ds.map (fun d=>Sl.val d d.flat)++List.replicate m .non) (L2.start N vs) where
 reg:=⟨hp,fun _ _ e=>(nomatch e),L2.Same.refl _,hr,L2.Same.refl _,fun _ e=>.inl e,fun _ e=>absurd rfl e,fun _ e=>absurd rfl e⟩
 len:=by
  have:=h.length
  simp only[L2.start,List.length_append,List.length_map,List.length_replicate]
  try omega
 sl:=fun i s e=>by
  have hl:=h.length
  by_cases hi:i<ds.length
  ·rw[List.getElem?_append_left (by simpa using hi),List.getElem?_map,List.getElem?_eq_getElem hi] at e
   cases e
   obtain⟨v,q1,q2⟩:=(ql9 (N:=fun _=>none) h).get (List.getElem?_eq_getElem hi)
   refine⟨some v,?_,v,rfl,RepB.nf (C:=C) q2⟩
   unfold L2.start
   rw[List.getElem?_append_left (by simp;omega),List.getElem?_map,q1]
   rfl
  ·rw[List.getElem?_append_right (by simpa using hi),List.getElem?_replicate] at e
   split at e
   ·rename_i hm'
    cases e
    refine⟨none,?_,trivial⟩
    unfold L2.start
    simp only[List.length_map] at hm'
    rw[List.getElem?_append_right (by simp;omega),List.getElem?_replicate,if_pos]
    simp only[List.length_map]
    omega
   ·cases e
 ap:=fun i j p es b es' c e1 _ _ _=>by
  exfalso
  have:=List.mem_of_getElem? e1
  rcases List.mem_append.mp this with z | z
  ·obtain⟨_,_,z⟩:=List.mem_map.mp z;cases z
  ·have:=List.eq_of_mem_replicate z;cases this
 ad:=AD.no fun i s e=>by
  rcases List.mem_append.mp (List.mem_of_getElem? e) with z | z
  ·obtain⟨_,_,rfl⟩:=List.mem_map.mp z;rfl
  ·rw[List.eq_of_mem_replicate z];rfl
theorem qsx {P:Program} {w:World} {K:PySem.W.Frag} {mg:Str→Option Value} {base:Heap} {x qual:Str} {params:Arguments} {body:List Stmt} {scope:Scope} {dvs:List V} {kws:List (Str × V)} {f:Addr} {fd:FuncData} {T:Tb} {Γ:Env} {G:Glo} {k m:Nat} {ps:List Str} {ir:Sms}
  (F:FunD K x qual params body scope dvs kws f fd) (S:FnScope T.N ps scope) (hG:G.K=K) (tab:TabOk P w K mg base T Γ G k) (hm:T.N.length=ps.length+m) (hc:qaj T scope ir body=true) :
  FnOk P w K mg base (L2.CX P w) (k+1) f fd ps (spD G ps.length (qcM Γ ps.length m ir)):=by
 refine F.ok S (fun vs H Q E h=>qrW h) (fun cdv A outer s H vs Q E hr h=>?_)
 obtain⟨Pr,R,ds,h1,h2,h3,h4,h5⟩:=h
 let C:Ctx:=⟨G,R,H,Pr,fun cls d _ H'=>E cls d H',0,fun _=>none⟩
 have I:XOk T Γ C (cxOf (L2.CX P w) P w K mg base T.N qual scope f cdv A outer s H E) none scope:={
  nm:=rfl
  nd:=S.nd
  sc:=rfl
  K:=hG.symm
  tk:=takes_of rfl rfl rfl rfl
  calm:=rfl
  un:=by
   have h:=hr.un
   have e:(cxOf (L2.CX P w) P w K mg base T.N qual scope f cdv A outer s H E).A=A.deeper (envOfC qual scope s.heap.objs.size f cdv):=rfl
   rw[e]
   omega
  blt:=tab.blt
  fnc:=rfl
  fn:=fun i y n e g eg=>by
   obtain⟨j,a,fd',ps',m',gf,hj,q1,q2,q3,q4⟩:=tab.fn i y n e g eg
   exact⟨j,a,fd',ps',m',gf,q1,hr.mono hj,q2,q3,q4⟩
  gc:=fun i y e c ec=>by
   obtain⟨u,v,q1,q2,q3,q4⟩:=tab.gc i y e c ec
   exact⟨u,v,q1,q2,fun P N=>q3 P N R,q4⟩
  mt:=fun i y n e c g eg=>by
   obtain⟨q0,q1,j,a,fd',ps',hj,q2,q3,q4⟩:=tab.mt i y n e c g eg
   exact⟨q0,q1,j,a,fd',ps',q2,q3,hr.mono hj,q4⟩
  fs:=fun i y e c j ej=>by
   obtain⟨q0,q1,q2,q3⟩:=tab.fs i y e c j ej
   exact⟨q0,q1,q2,q3⟩
  nw:=fun i y n e g eg=>by
   rcases tab.nw i y n e g eg with⟨j,a,fd',ps',hj,q1,q2,q3,q4⟩ | q
   ·exact⟨.inl ⟨j,a,fd',ps',q1,q2,hr.mono hj,q3,q4⟩⟩
   ·exact⟨.inr q⟩
  ck:=tab.ck
  xk:=tab.xk
  dc:=tab.dc }
 have hp:PassesOwn (model (cxOf (L2.CX P w) P w K mg base T.N qual scope f cdv A outer s H E).prog (cxOf (L2.CX P w) P w K mg base T.N qual scope f cdv A outer s H E).w) (cxOf (L2.CX P w) P w K mg base T.N qual scope f cdv A outer s H E).A (cxOf (L2.CX P w) P w K mg base T.N qual scope f cdv A outer s H E).env (cxOf (L2.CX P w) P w K mg base T.N qual scope f cdv A outer s H E).xe:=
  passes_of (K:=fun e s''=>L2.CX P w outer H s E e s'') rfl
 refine⟨tS C (qap Γ ir),qn8 I hp ⟨rfl,rfl,rfl⟩ ir hc,ds.map (fun d=>Sl.val d d.flat)++List.replicate m .non,Pr,fun _=>none,qpW (C:=C) h1 h2 h3 (by rw[hm,h4]),?_⟩
 unfold qcM at h5
 rw[if_pos h4] at h5
 have adv:∀{P' N' H':Hp},Reg C P' N' H'→Adv Pr (fun _=>none) H P' N' H':=fun {P' N' H'} r=>⟨r.bH,r.p0,fun _ _ e=>(nomatch e),r.pH,r.nH,r.pn,fun a q=>.inr (r.nw a q),fun a q q2=>absurd (r.dj a q) q2⟩
 cases e:qap Γ ir (ds.map (fun d=>Sl.val d d.flat)++List.replicate m .non) with
 |bad=>rw[e] at h5;exact h5.elim
 |brk ρ=>rw[e] at h5;exact h5.elim
 |cnt ρ=>rw[e] at h5;exact h5.elim
 |nx ρ=>rw[e] at h5;exact fun σ P' N' H' S' _ _=>h5 .non H' P' N' (adv S'.reg) rfl
 |ret er =>
  rw[e] at h5
  intro v P' N' H' r q
  exact h5 v H' P' N' (adv r) (by cases er<;>exact q)
 |exc c fs =>
  rw[e] at h5
  intro σ d P' N' H' r q
  exact h5 d H' P' N' (adv r) q
theorem qui {C:Ctx} {P N P2:Hp} (hp:Same P P2) (hn:Same N P2) {ds:List D} {vs:List V} (h:RepsB C P N true ds vs):Reps C.G P2 (SqL C.G.K P2) ds vs:=Reps.mono hp ds vs (fun a xs q=>by
 rcases q with q | ⟨z,_⟩
 ·exact .inl (.inl (hn _ _ q))
 ·cases z) h
theorem qwn {P:Program} {w:World} {K:PySem.W.Frag} {mg:Str→Option Value} {base:Heap} {x qual:Str} {params:Arguments} {body:List Stmt} {scope:Scope} {dvs:List V} {kws:List (Str × V)} {f:Addr} {fd:FuncData} {T:Tb} {Γ:Env} {G:Glo} {k m n c nf:Nat} {ps:List Str} {ir:Sms}
  (F:FunD K x qual params body scope dvs kws f fd) (S:FnScope T.N ps scope) (hG:G.K=K) (tab:TabOk P w K mg base T Γ G k) (hm:T.N.length=ps.length+m) (hn:ps.length=n+1) (hc:qaj T scope ir body=true) (hf:(G.fl c).length=nf) :
  FnOk P w K mg base (L2.CX P w) (k+1) f fd ps (spI G c n (qmG Γ c nf n m ir)):=by
 refine F.ok S (fun vs H Q E h=>by rw[qr1 h,hn]) (fun cdv A outer s H vs Q E hr h=>?_)
 obtain⟨x0,dx,H0,Pr,R,ds,us,rfl,rfl,hx,hdx,h1,h2,h3,h4,h5⟩:=h
 let C:Ctx:=⟨G,R,H0,Pr,fun cls d _ H'=>E cls d H',x0,fun _=>none⟩
 generalize eH:upd (upd H0 dx (.own x0)) x0 (.ins (G.ca c) dx [])=H at hr ⊢
 have H0x:Same H0 H:=fun a o e=>by
  rw[←eH,upd_ne (ne_of_none e hx),upd_ne (ne_of_none e hdx)]
  exact e
 have Hx:H x0=some (.ins (C.G.ca c) dx []):=by rw[←eH];exact upd_same
 have I:XOk T Γ C (cxOf (L2.CX P w) P w K mg base T.N qual scope f cdv A outer s H E) none scope:={
  nm:=rfl
  nd:=S.nd
  sc:=rfl
  K:=hG.symm
  tk:=takes_of rfl rfl rfl rfl
  calm:=rfl
  un:=by
   have h:=hr.un
   have e:(cxOf (L2.CX P w) P w K mg base T.N qual scope f cdv A outer s H E).A=A.deeper (envOfC qual scope s.heap.objs.size f cdv):=rfl
   rw[e]
   omega
  blt:=tab.blt
  fnc:=rfl
  fn:=fun i y n e g eg=>by
   obtain⟨j,a,fd',ps',m',gf,hj,q1,q2,q3,q4⟩:=tab.fn i y n e g eg
   exact⟨j,a,fd',ps',m',gf,q1,hr.mono hj,q2,q3,q4⟩
  gc:=fun i y e c ec=>by
   obtain⟨u,v,q1,q2,q3,q4⟩:=tab.gc i y e c ec
   exact⟨u,v,q1,q2,fun P N=>q3 P N R,q4⟩
  mt:=fun i y n e c g eg=>by
   obtain⟨q0,q1,j,a,fd',ps',hj,q2,q3,q4⟩:=tab.mt i y n e c g eg
   exact⟨q0,q1,j,a,fd',ps',q2,q3,hr.mono hj,q4⟩
  fs:=fun i y e c j ej=>by
   obtain⟨q0,q1,q2,q3⟩:=tab.fs i y e c j ej
   exact⟨q0,q1,q2,q3⟩
  nw:=fun i y n e g eg=>by
   rcases tab.nw i y n e g eg with⟨j,a,fd',ps',hj,q1,q2,q3,q4⟩ | q
   ·exact⟨.inl ⟨j,a,fd',ps',q1,q2,hr.mono hj,q3,q4⟩⟩
   ·exact⟨.inr q⟩
  ck:=tab.ck
  xk:=tab.xk
  dc:=tab.dc }
 have hp:PassesOwn (model (cxOf (L2.CX P w) P w K mg base T.N qual scope f cdv A outer s H E).prog (cxOf (L2.CX P w) P w K mg base T.N qual scope f cdv A outer s H E).w) (cxOf (L2.CX P w) P w K mg base T.N qual scope f cdv A outer s H E).A (cxOf (L2.CX P w) P w K mg base T.N qual scope f cdv A outer s H E).env (cxOf (L2.CX P w) P w K mg base T.N qual scope f cdv A outer s H E).xe:=
  passes_of (K:=fun e s''=>L2.CX P w outer H s E e s'') rfl
 have hl:=h3.length
 have st0:SR C Pr (fun _=>none) H (.slf c []::(ds.map (fun d=>Sl.val d d.flat)++List.replicate m .non)) (L2.start T.N (.ref x0::us)):=by
  refine⟨⟨h1.trans H0x,fun _ _ e=>(nomatch e),H0x,h2,L2.Same.refl _,fun _ e=>.inl e,fun _ e=>absurd rfl e,fun _ e=>absurd rfl e⟩,?_,fun i s e=>?_,fun i j p es b es' c' e1 _ _ _=>?_,AD.no fun i s e=>by
   cases i with
   |zero=>simp at e;subst e;rfl
   |succ i =>
    rcases List.mem_append.mp (List.mem_of_getElem? (show(ds.map (fun d=>Sl.val d d.flat)++List.replicate m .non)[i]? = some s by simpa using e)) with z | z
    ·obtain⟨_,_,rfl⟩:=List.mem_map.mp z;rfl
    ·rw[List.eq_of_mem_replicate z];rfl⟩
  ·simp only[L2.start,List.length_append,List.length_map,List.length_replicate,List.length_cons]
   omega
  ·cases i with
   |zero =>
    simp at e
    subst e
    exact⟨_,by simp[L2.start],x0,dx,[],⟨rfl,rfl⟩,by rw[Hx];simp,h1.free hx,rfl,hx,Nat.zero_le _,rfl⟩
   |succ i =>
    have e:(ds.map (fun d=>Sl.val d d.flat)++List.replicate m .non)[i]? = some s:=by simpa using e
    by_cases hi:i<ds.length
    ·rw[List.getElem?_append_left (by simpa using hi),List.getElem?_map,List.getElem?_eq_getElem hi] at e
     cases e
     obtain⟨v,q1,q2⟩:=(ql9 (N:=fun _=>none) h3).get (List.getElem?_eq_getElem hi)
     refine⟨some v,?_,v,rfl,RepB.nf (C:=C) q2⟩
     unfold L2.start
     rw[List.getElem?_append_left (by simp;omega),List.getElem?_map,List.getElem?_cons_succ,q1]
     rfl
    ·rw[List.getElem?_append_right (by simpa using hi),List.getElem?_replicate] at e
     split at e
     ·rename_i hm'
      cases e
      refine⟨none,?_,trivial⟩
      unfold L2.start
      simp only[List.length_map] at hm'
      rw[List.getElem?_append_right (by simp;omega),List.getElem?_replicate,if_pos]
      simp only[List.length_map,List.length_cons]
      omega
     ·cases e
  ·exfalso
   cases i with
   |zero=>simp at e1
   |succ i =>
    have:=List.mem_of_getElem? (show(ds.map (fun d=>Sl.val d d.flat)++List.replicate m .non)[i]? = some (.own es b) by simpa using e1)
    rcases List.mem_append.mp this with z | z
    ·obtain⟨_,_,z⟩:=List.mem_map.mp z;cases z
    ·have:=List.eq_of_mem_replicate z;cases this
 refine⟨tS C (qap Γ ir),qn8 I hp ⟨rfl,rfl,rfl⟩ ir hc,_,Pr,fun _=>none,st0,?_⟩
 unfold qmG at h5
 rw[if_pos h4] at h5
 cases e:qap Γ ir (.slf c []::(ds.map (fun d=>Sl.val d d.flat)++List.replicate m .non)) with
 |bad=>rw[e] at h5;exact h5.elim
 |brk ρ=>rw[e] at h5;exact h5.elim
 |cnt ρ=>rw[e] at h5;exact h5.elim
 |ret er=>rw[e] at h5;exact h5.elim
 |exc c fs =>
  rw[e] at h5
  intro σ d P' N' H' r q
  exact h5 d H' P' N' ⟨r.bH,r.p0,fun _ _ e=>(nomatch e),r.pH,r.nH,r.pn,fun a q=>.inr (r.nw a q),fun a q q2=>absurd (r.dj a q) q2⟩ q
 |nx ρ =>
  rw[e] at h5
  intro σ P' N' H' S' e1 e2
  cases ρ with
  |nil=>exact h5.elim
  |cons s0 r =>
   cases s0 with
   |non=>exact h5.elim
   |val _ _=>exact h5.elim
   |own _ _=>exact h5.elim
   |fxd _ _=>exact h5.elim
   |dct _ _=>exact h5.elim
   |slf c' fs =>
    simp only at h5
    by_cases hc':c'=c
    ·rw[if_pos hc'] at h5
     by_cases hfs:fs.length=nf
     ·rw[if_pos hfs] at h5
      subst hc'
      obtain⟨o,z1,p,dx',xs,⟨ep,rfl⟩,z2,z3,z4,z5,z6,z7⟩:=S'.sl 0 _ rfl
      have ep:p=x0:=ep
      subst ep
      have rg:=S'.reg
      have z3':un2 P' N' H' p=none:=by
       unfold un2
       rw[if_neg]
       rintro(z | z)
       ·exact z z3
       ·exact z z4
      refine h5 H' (upd (un2 P' N' H') p (.ins (G.ca c') dx' ((G.fl c').zip xs))) rg.bH ((rg.p0.trans (qiN rg.pH)).trans (qaN z3')) (qlL qrV z2) (fun a ha=>?_) ⟨p,dx',xs,rfl,upd_same,by rw[hfs,hf],qui (C:=C) ((qiN rg.pH).trans (qaN z3')) ((qhx rg.nH).trans (qaN z3')) z7⟩
      by_cases q:a=p
      ·rw[q];exact .inr hx
      ·rw[upd_ne q] at ha
       unfold un2 at ha
       split at ha
       ·rename_i z
        rcases z with z | z
        ·exact rg.pn a z
        ·exact .inr (rg.nw a z)
       ·exact absurd rfl ha
     ·rw[if_neg hfs] at h5;exact h5.elim
    ·rw[if_neg hc'] at h5;exact h5.elim
end Cm
namespace Cm
open PySem PySem.Spec PyProof.Rows L2 PySem.W
structure DefAt (P:Program) (w:World) (K:PySem.W.Frag) (mg:Str→Option Value) (base:Heap) (G:Glo) (k:Nat) (x:Str) (n:Nat) (g:List D→RE ER):Prop where
 ex:∃(j:Nat) (a:Addr) (fd:FuncData) (ps:List Str) (m:Nat) (gf:List D→RE ER),j≤k∧FnOk P w K mg base (L2.CX P w) j a fd ps (spD G (n+m) gf)∧mg x=some (.ref a)∧PySem.W.keepIn K (.ref a)=true∧Part K G fd ps n m g gf
theorem DefAt.mono {P:Program} {w:World} {K:PySem.W.Frag} {mg:Str→Option Value} {base:Heap} {G:Glo} {k k':Nat} {x:Str} {n:Nat} {g:List D→RE ER} (h:DefAt P w K mg base G k x n g) (e:k≤k'):DefAt P w K mg base G k' x n g:=by
 obtain⟨⟨j,a,fd,ps,m,gf,q,r⟩⟩:=h
 exact⟨⟨j,a,fd,ps,m,gf,Nat.le_trans q e,r⟩⟩
def FnsOk (P:Program) (w:World) (K:PySem.W.Frag) (mg:Str→Option Value) (base:Heap) (G:Glo) (k:Nat):List (Str × Nat)→List (Str × (List D→RE ER))→Prop
 |t::ts,g::gs=>DefAt P w K mg base G k t.1 t.2 g.2∧FnsOk P w K mg base G k ts gs
 |_,_=>True
theorem FnsOk.get {P:Program} {w:World} {K:PySem.W.Frag} {mg:Str→Option Value} {base:Heap} {G:Glo} {k:Nat}:∀{ts:List (Str × Nat)} {gs:List (Str × (List D→RE ER))},FnsOk P w K mg base G k ts gs →
  ∀(f:Nat) (x:Str) (n:Nat),ts[f]? = some (x,n)→∀g,gs[f]? = some g→∃(j:Nat) (a:Addr) (fd:FuncData) (ps:List Str) (m:Nat) (gf:List D→RE ER),j≤k∧FnOk P w K mg base (L2.CX P w) j a fd ps (spD G (n+m) gf)∧mg x=some (.ref a)∧PySem.W.keepIn K (.ref a)=true∧Part K G fd ps n m g.2 gf
 |[],_,_,f,x,n,e,_,_=>by simp at e
 |_::_,[],_,f,x,n,_,g,e=>by simp at e
 |t::ts,g::gs,⟨h,hs⟩,0,x,n,e,g',e'=>by
  simp at e e'
  subst e e'
  exact h.ex
 |t::ts,g::gs,⟨h,hs⟩,f+1,x,n,e,g',e'=>FnsOk.get hs f x n (by simpa using e) g' (by simpa using e')
theorem qu3 {fa:List He.Fa} {fn:List He.DefD} {K:PySem.W.Frag} {h:Heap} {mg:Str→Option Value} (c:He.SaysD (bltNames.map He.Fa.free++fa) fn K) (X:K.In h) (N:h.Ns mainGlobals mg):∀x∈bltNames,mg x=none:=fun x hx=>by
 have hm:He.Fa.free x∈bltNames.map He.Fa.free++fa:=List.mem_append_left _ (List.mem_map_of_mem hx)
 obtain⟨i,hi⟩:=List.getElem?_of_mem hm
 exact He.free_ok X N (c.fact i hi)
structure MthAt (P:Program) (w:World) (K:PySem.W.Frag) (mg:Str→Option Value) (base:Heap) (G:Glo) (k:Nat) (c:Nat) (x:Str) (n:Nat) (g:List D→RE ER):Prop where
 ex:Cls K (G.ca c)∧x∉G.fl c∧∃(j:Nat) (a:Addr) (fd:FuncData) (ps:List Str),j≤k∧Meth K (G.ca c) x a∧FnOk P w K mg base (L2.CX P w) j a fd ps (spD G (n+1) g)∧Binds K fd ps []
theorem MthAt.mono {P:Program} {w:World} {K:PySem.W.Frag} {mg:Str→Option Value} {base:Heap} {G:Glo} {k k' c:Nat} {x:Str} {n:Nat} {g:List D→RE ER} (h:MthAt P w K mg base G k c x n g) (e:k≤k'):MthAt P w K mg base G k' c x n g:=by
 obtain⟨h1,h2,j,a,fd,ps,q,r⟩:=h
 exact⟨h1,h2,j,a,fd,ps,Nat.le_trans q e,r⟩
def MtsOk (P:Program) (w:World) (K:PySem.W.Frag) (mg:Str→Option Value) (base:Heap) (G:Glo) (k:Nat) (mn:List (Str × Nat)):List (Nat × Nat × (List D→RE ER))→Prop
 |[]=>True
 |t::ts=>(∀x n,mn[t.2.1]? = some (x,n)→MthAt P w K mg base G k t.1 x n t.2.2)∧MtsOk P w K mg base G k mn ts
theorem MtsOk.get {P:Program} {w:World} {K:PySem.W.Frag} {mg:Str→Option Value} {base:Heap} {G:Glo} {k:Nat} {mn:List (Str × Nat)}:∀{ts:List (Nat × Nat × (List D→RE ER))},MtsOk P w K mg base G k mn ts →
  ∀(m:Nat) (x:Str) (n:Nat),mn[m]? = some (x,n)→∀c g,qaE ts c m=some g→MthAt P w K mg base G k c x n g
 |[],_,m,x,n,_,c,g,e=>by cases e
 |t::ts,⟨h,hs⟩,m,x,n,e,c,g,e'=>by
  unfold qaE at e'
  split at e'
  ·rename_i h1
   split at e'
   ·rename_i h2
    subst h1 h2
    cases e'
    exact h x n e
   ·exact MtsOk.get hs m x n e c g e'
  ·exact MtsOk.get hs m x n e c g e'
def qvV (K:PySem.W.Frag) (G:Glo) (c i:Nat) (x:Str):Prop:=Cls K (G.ca c)∧NoAttr K (G.ca c) x∧(G.fl c)[i]? = some x∧(G.fl c).Nodup
def FdsOk (K:PySem.W.Frag) (G:Glo) (fs:List Str):List (Nat × Nat × Nat)→Prop
 |[]=>True
 |t::ts=>(∀x,fs[t.2.1]? = some x→qvV K G t.1 t.2.2 x)∧FdsOk K G fs ts
theorem FdsOk.get {K:PySem.W.Frag} {G:Glo} {fs:List Str}:∀{ts:List (Nat × Nat × Nat)},FdsOk K G fs ts→∀(f:Nat) (x:Str),fs[f]? = some x→∀c i,qaF ts c f=some i→qvV K G c i x
 |[],_,f,x,_,c,i,e=>by cases e
 |t::ts,⟨h,hs⟩,f,x,e,c,i,e'=>by
  unfold qaF at e'
  split at e'
  ·rename_i h1
   split at e'
   ·rename_i h2
    subst h1 h2
    cases e'
    exact h x e
   ·exact FdsOk.get hs f x e c i e'
  ·exact FdsOk.get hs f x e c i e'
structure NwAt (P:Program) (w:World) (K:PySem.W.Frag) (mg:Str→Option Value) (base:Heap) (G:Glo) (k:Nat) (x:Str) (n:Nat) (c:Nat) (g:List D→RE (List D)):Prop where
 ex:(∃(j:Nat) (a:Addr) (fd:FuncData) (ps:List Str),j+1≤k∧Mk K (G.ca c) a∧FnOk P w K mg base (L2.CX P w) j a fd ps (spI G c n g)∧mg x=some (.ref (G.ca c))∧Binds K fd ps []) ∨
  (n=0∧g []=.ok []∧Mk0 K (G.ca c)∧G.fl c=[]∧mg x=some (.ref (G.ca c)))
theorem NwAt.mono {P:Program} {w:World} {K:PySem.W.Frag} {mg:Str→Option Value} {base:Heap} {G:Glo} {k k':Nat} {x:Str} {n c:Nat} {g:List D→RE (List D)} (h:NwAt P w K mg base G k x n c g) (e:k≤k'):NwAt P w K mg base G k' x n c g:=by
 rcases h.ex with⟨j,a,fd,ps,q,r⟩ | q
 ·exact⟨.inl ⟨j,a,fd,ps,Nat.le_trans q e,r⟩⟩
 ·exact⟨.inr q⟩
def NwsOk (P:Program) (w:World) (K:PySem.W.Frag) (mg:Str→Option Value) (base:Heap) (G:Glo) (k:Nat):List (Str × Nat)→List (Nat × (List D→RE (List D)))→Prop
 |t::ts,g::gs=>NwAt P w K mg base G k t.1 t.2 g.1 g.2∧NwsOk P w K mg base G k ts gs
 |_,_=>True
theorem NwsOk.get {P:Program} {w:World} {K:PySem.W.Frag} {mg:Str→Option Value} {base:Heap} {G:Glo} {k:Nat}:∀{ts:List (Str × Nat)} {gs:List (Nat × (List D→RE (List D)))},NwsOk P w K mg base G k ts gs →
  ∀(f:Nat) (x:Str) (n:Nat),ts[f]? = some (x,n)→∀g,gs[f]? = some g→NwAt P w K mg base G k x n g.1 g.2
 |[],_,_,f,x,n,e,_,_=>by simp at e
 |_::_,[],_,f,x,n,_,g,e=>by simp at e
 |t::ts,g::gs,⟨h,hs⟩,0,x,n,e,g',e'=>by
  simp at e e'
  subst e e'
  exact h
 |t::ts,g::gs,⟨h,hs⟩,f+1,x,n,e,g',e'=>NwsOk.get hs f x n (by simpa using e) g' (by simpa using e')
def qvG (G:Glo) (mg:Str→Option Value) (x:Str) (c:D):Prop:=∃u v,mg x=some u∧RelV v u∧(∀(P N R:Hp),Rep G P (LNb G.K P N R true) c v)∧WrT G v
def GcsOk (G:Glo) (mg:Str→Option Value):List Str→List (Str × D)→Prop
 |t::ts,g::gs=>qvG G mg t g.2∧GcsOk G mg ts gs
 |_,_=>True
theorem GcsOk.get {G:Glo} {mg:Str→Option Value}:∀{ts:List Str} {gs:List (Str × D)},GcsOk G mg ts gs→∀(f:Nat) (x:Str),ts[f]? = some x→∀g,gs[f]? = some g→qvG G mg x g.2
 |[],_,_,f,x,e,_,_=>by simp at e
 |_::_,[],_,f,x,_,g,e=>by simp at e
 |t::ts,g::gs,⟨h,hs⟩,0,x,e,g',e'=>by
  simp at e e'
  subst e e'
  exact h
 |t::ts,g::gs,⟨h,hs⟩,f+1,x,e,g',e'=>GcsOk.get hs f x (by simpa using e) g' (by simpa using e')
theorem qmo {K:PySem.W.Frag} {h:Heap} {mg:Str→Option Value} {G:Glo} {fa:List He.Fa} {fn:List He.DefD} {x:Str} {s:List Nat} {j:Nat} (c:He.SaysD fa fn K) (X:K.In h) (N:h.Ns mainGlobals mg) (hx:fa[j]? = some (.str x ⟨s.toArray⟩)):qvG G mg x (.str s):=by
 obtain⟨t,e⟩:=He.str_ok X N (c.fact j hx)
 exact⟨_,.str ⟨s.toArray⟩,e,⟨t,rfl⟩,fun _ _ _=>rfl,fun _ z=>nomatch z⟩
theorem qik {K:PySem.W.Frag} {h:Heap} {mg:Str→Option Value} {G:Glo} {fa:List He.Fa} {fn:List He.DefD} {x:Str} {i:Int} {j:Nat} (c:He.SaysD fa fn K) (X:K.In h) (N:h.Ns mainGlobals mg) (hx:fa[j]? = some (.int x i)):qvG G mg x (.int i):=by
 obtain⟨t,e⟩:=He.int_ok X N (c.fact j hx)
 exact⟨_,.int i,e,⟨t,rfl⟩,fun _ _ _=>rfl,fun _ z=>nomatch z⟩
theorem quX {xa:List Xa} {K:PySem.W.Frag} (h:quh xa K=true) {i:Nat} {a:Xa} (e:xa[i]? = some a):a.ok K=true:=List.all_eq_true.mp h a (List.mem_of_getElem? e)
theorem quM {K:PySem.W.Frag} {x d:Str} {own b:Bool} (h:(Xa.ik x own d b).ok K=true):PySem.W.kitOne K (.ref (He.ga K d)) (cv K x own)=some b∧InsC K (He.ga K d):=by
 unfold Xa.ok at h
 simp only[Bool.and_eq_true,decide_eq_true_eq] at h
 obtain⟨h1,h2,h3,h4,h5,h6⟩:=h
 exact⟨h1,⟨He.cls_ok h2,He.eqO_ok h3,He.eqO_ok h4,h5,h6⟩⟩
def qwJ (G:Glo) (K:PySem.W.Frag) (x:Str) (own:Bool) (t:List (Nat × Bool)):Prop:=∀c b,t.lookup c=some b→PySem.W.kitOne K (.ref (G.ca c)) (cv K x own)=some b∧PySem.W.exmOne K (.ref (G.ca c)) (cv K x own)=some b∧ExcC K (G.ca c)
def qvC (G:Glo) (K:PySem.W.Frag) (x:Str) (own:Bool) (t:List (Nat × Bool)):Prop:=∀c b,t.lookup c=some b→PySem.W.kitOne K (.ref (G.ca c)) (cv K x own)=some b∧InsC K (G.ca c)
theorem qu5 {G:Glo} {K:PySem.W.Frag} {x:Str} {own:Bool}:qwJ G K x own []:=fun c b e=>by cases e
theorem quB {G:Glo} {K:PySem.W.Frag} {x:Str} {own:Bool}:qvC G K x own []:=fun c b e=>by cases e
theorem qdx {G:Glo} {K:PySem.W.Frag} {x d:Str} {own b0:Bool} {c0 j:Nat} {t:List (Nat × Bool)} {xa:List Xa} (h:quh xa K=true) (e:xa[j]? = some (.ik x own d b0)) (hc:G.ca c0=He.ga K d) (ht:qvC G K x own t):qvC G K x own ((c0,b0)::t):=fun c b q=>by
 rw[List.lookup_cons] at q
 split at q
 ·rename_i z
  have z:c=c0:=by simpa using z
  subst z
  cases q
  rw[hc]
  exact quM (quX h e)
 ·exact ht c b q
theorem quG {K:PySem.W.Frag} {h:Heap} {mg:Str→Option Value} {G:Glo} {fa:List He.Fa} {fn:List He.DefD} {x:Str} {j:Nat} {t1 t2:List (Nat × Bool)} (c:He.SaysD fa fn K) (X:K.In h) (N:h.Ns mainGlobals mg) (hx:fa[j]? = some (.glo x)) (h1:qwJ G K x true t1) (h2:qvC G K x true t2) :
  CkOk G K mg x true (some fun c=>t1.lookup c) (some fun c=>t2.lookup c):=
 ⟨.ref (He.ga K x),.ref (He.ga K x),⟨.own _,He.glo_ok X N (c.fact j hx)⟩,fun g e c b q=>by cases e;exact h1 c b q,fun g e c b q=>by cases e;exact h2 c b q⟩
def CksOk (G:Glo) (K:PySem.W.Frag) (mg:Str→Option Value):List (Str × Bool)→List (Nat→Option Bool)→List (Nat→Option Bool)→Prop
 |t::ts,a::as,b::bs=>CkOk G K mg t.1 t.2 (some a) (some b)∧CksOk G K mg ts as bs
 |[],_,_=>True
 |_,_,_=>False
theorem CksOk.get {G:Glo} {K:PySem.W.Frag} {mg:Str→Option Value}:∀{ts:List (Str × Bool)} {as bs:List (Nat→Option Bool)},CksOk G K mg ts as bs→∀(f:Nat) (x:Str) (own:Bool),ts[f]? = some (x,own)→CkOk G K mg x own as[f]? bs[f]?
 |[],_,_,_,f,x,own,e=>by simp at e
 |_::_,[],_,h,f,x,own,e=>h.elim
 |_::_,_::_,[],h,f,x,own,e=>h.elim
 |t::ts,a::as,b::bs,⟨h,hs⟩,0,x,own,e=>by
  simp at e
  subst e
  exact h
 |t::ts,a::as,b::bs,⟨h,hs⟩,f+1,x,own,e=>by
  simp only[List.getElem?_cons_succ]
  exact CksOk.get hs f x own (by simpa using e)
theorem rs1 {K:PySem.W.Frag} {h:Heap} {mg:Str→Option Value} {G:Glo} {fa:List He.Fa} {fn:List He.DefD} {x:Str} {j j2 c0:Nat} (c:He.SaysD fa fn K) (X:K.In h) (N:h.Ns mainGlobals mg) (hx:fa[j]? = some (.glo x)) (hx2:fa[j2]? = some (.exc x)) (hc:G.ca c0=He.ga K x):RsOk K mg (G.ca c0) x:=by
 obtain⟨h1,h2,h3,h4⟩:=He.exc_ok (c.fact j2 hx2)
 rw[hc]
 exact⟨He.glo_ok X N (c.fact j hx),h1,h2,h3,h4⟩
def XksOk (G:Glo) (K:PySem.W.Frag) (mg:Str→Option Value):List Str→List Nat→Prop
 |t::ts,c::cs=>RsOk K mg (G.ca c) t∧XksOk G K mg ts cs
 |_,_=>True
theorem XksOk.get {G:Glo} {K:PySem.W.Frag} {mg:Str→Option Value}:∀{ts:List Str} {cs:List Nat},XksOk G K mg ts cs→∀(f:Nat) (x:Str),ts[f]? = some x→∀c,cs[f]? = some c→RsOk K mg (G.ca c) x
 |[],_,_,f,x,e,_,_=>by simp at e
 |_::_,[],_,f,x,_,c,e=>by simp at e
 |t::ts,g::gs,⟨h,hs⟩,0,x,e,g',e'=>by
  simp at e e'
  subst e e'
  exact h
 |t::ts,g::gs,⟨h,hs⟩,f+1,x,e,g',e'=>XksOk.get hs f x (by simpa using e) g' (by simpa using e')
def DcsOk (G:Glo) (K:PySem.W.Frag) (w:World) (mg:Str→Option Value):List Str→List (Str × List (List Nat × Option D))→Prop
 |t::ts,g::gs=>qtV G K w mg t g.2∧DcsOk G K w mg ts gs
 |_,_=>True
theorem DcsOk.get {G:Glo} {K:PySem.W.Frag} {w:World} {mg:Str→Option Value}:∀{ts:List Str} {gs:List (Str × List (List Nat × Option D))},DcsOk G K w mg ts gs→∀(f:Nat) (x:Str),ts[f]? = some x→∀g,gs[f]? = some g→qtV G K w mg x g.2
 |[],_,_,f,x,e,_,_=>by simp at e
 |_::_,[],_,f,x,_,g,e=>by simp at e
 |t::ts,g::gs,⟨h,hs⟩,0,x,e,g',e'=>by
  simp at e e'
  subst e e'
  exact h
 |t::ts,g::gs,⟨h,hs⟩,f+1,x,e,g',e'=>DcsOk.get hs f x (by simpa using e) g' (by simpa using e')
theorem qdn {P:Program} {w:World} {K:PySem.W.Frag} {h:Heap} {mg:Str→Option Value} {base:Heap} {G:Glo} {fa:List He.Fa} {fn:List He.DefD} {T:Tb} {Γ:Env} {k:Nat} {mts:List (Nat × Nat × (List D→RE ER))} {fds:List (Nat × Nat × Nat)}
  (c:He.SaysD (bltNames.map He.Fa.free++fa) fn K) (X:K.In h) (N:h.Ns mainGlobals mg) (hf:FnsOk P w K mg base G k T.fn Γ.fn) (hgc:GcsOk G mg T.gc Γ.gc) (hmt:Γ.mt=qaE mts) (hm:MtsOk P w K mg base G k T.mn mts)
  (hfi:Γ.fi=qaF fds) (hfd:FdsOk K G T.fs fds) (hnw:NwsOk P w K mg base G k T.nw Γ.nw) (hck:CksOk G K mg T.ck Γ.ck Γ.ik) (hxk:XksOk G K mg T.xk Γ.xk) (hdc:DcsOk G K w mg T.dc Γ.dc):TabOk P w K mg base T Γ G k where
 blt:=qu3 c X N
 fn:=hf.get
 gc:=hgc.get
 mt:=fun m x n e c g e'=>by
  rw[hmt] at e'
  exact(hm.get m x n e c g e').ex
 fs:=fun f x e c i e'=>by
  rw[hfi] at e'
  exact hfd.get f x e c i e'
 nw:=fun i x n e g e'=>(hnw.get i x n e g e').ex
 ck:=hck.get
 xk:=hxk.get
 dc:=hdc.get
section
variable {P:Program} {w:World} {K:PySem.W.Frag} {h:Heap} {mg:Str→Option Value} {base:Heap} {G:Glo} {fa:List He.Fa} {fn:List He.DefD} {T:Tb} {Γ:Env} {k m i j:Nat} {ir:Sms} {ps:List Str} {d:He.DefD} {x y:Str}
theorem qje (c:He.SaysD fa fn K) (X:K.In h) (N:h.Ns mainGlobals mg) (hG:G.K=K) (hd:fn[i]? = some d) (hat:d.at_=(x,none)) (hdf:d.dfl=[]) (hkw:d.kwd=[]) (hx:fa[j]? = some (.glo x))
  (S:FnScope T.N ps d.scope) (hm:T.N.length=ps.length+m) (hc:qaj T d.scope ir d.body=true)
  (hb:∀(kV doc pm:Value) (an:Option Addr) (cdv ct:Value) (us:List Value),us.length=ps.length→bindArgs (PySem.W.fnOf d.name d.qual d.params d.body d.scope .none kV doc pm an cdv ct) ⟨us,[]⟩=pure (ps.zip us))
  (tab:TabOk P w K mg base T Γ G k):DefAt P w K mg base G (k+1) x ps.length (qcM Γ ps.length m ir):=by
 obtain⟨fd,F⟩:=c.def_ i hd
 have e1:d.dvs K=[]:=by unfold He.DefD.dvs;rw[hdf];rfl
 have e2:d.kws K=[]:=by unfold He.DefD.kws;rw[hkw];rfl
 rw[e1,e2,hat] at F
 exact⟨⟨k+1,_,fd,ps,0,_,Nat.le_refl _,qsx F S hG tab hm hc,He.glo_ok X N (c.fact j hx),F.kp,Part.all (FunD.bindsN F hb)⟩⟩
theorem FnOk.bad {P:Program} {w:World} {K:PySem.W.Frag} {mg:Str→Option Value} {base:Heap} {CX:CXT} {k n:Nat} {f:Addr} {fd:FuncData} {ps:List Str} {G:Glo}:FnOk P w K mg base CX k f fd ps (spD G n fun _=>.bad):=
 ⟨fun _ _ _ _ ⟨_,_,_,_,_,_,_,h⟩=>h.elim,fun _ _ _ _ _ _ _ _ _ _ _ _ _ ⟨_,_,_,_,_,_,_,h⟩=>h.elim⟩
theorem mth1 {cn n j2:Nat} (c:He.SaysD fa fn K) (hG:G.K=K) (hd:fn[i]? = some d) (hat:d.at_=(x,some y)) (hdf:d.dfl=[]) (hkw:d.kwd=[]) (hx:fa[j]? = some (.meth x y)) (hx2:fa[j2]? = some (.cls x)) (hca:G.ca cn=He.ga K x) (hfl:y∉G.fl cn) (hn:ps.length=n+1)
  (S:FnScope T.N ps d.scope) (hm:T.N.length=ps.length+m) (hc:qaj T d.scope ir d.body=true)
  (hb:∀(kV doc pm:Value) (an:Option Addr) (cdv ct:Value) (us:List Value),us.length=ps.length→bindArgs (PySem.W.fnOf d.name d.qual d.params d.body d.scope .none kV doc pm an cdv ct) ⟨us,[]⟩=pure (ps.zip us))
  (tab:TabOk P w K mg base T Γ G k):MthAt P w K mg base G (k+1) cn y n (qcM Γ (n+1) m ir):=by
 obtain⟨fd,F⟩:=c.def_ i hd
 have e1:d.dvs K=[]:=by unfold He.DefD.dvs;rw[hdf];rfl
 have e2:d.kws K=[]:=by unfold He.DefD.kws;rw[hkw];rfl
 rw[e1,e2,hat] at F
 have M:=He.meth_ok (c.fact j hx)
 have O:=qsx F S hG tab hm hc
 rw[hn] at O
 exact⟨hca ▸ He.cls_ok (c.fact j2 hx2),hfl,k+1,_,fd,ps,Nat.le_refl _,hca ▸ M,O,FunD.bindsN F hb⟩
theorem qqB {cn n nf j2:Nat} (c:He.SaysD fa fn K) (X:K.In h) (N:h.Ns mainGlobals mg) (hG:G.K=K) (hd:fn[i]? = some d) (hat:d.at_=(x,some ("__init__" : Str))) (hdf:d.dfl=[]) (hkw:d.kwd=[]) (hx:fa[j]? = some (.mkr x)) (hx2:fa[j2]? = some (.glo x)) (hca:G.ca cn=He.ga K x) (hn:ps.length=n+1) (hnf:(G.fl cn).length=nf)
  (S:FnScope T.N ps d.scope) (hm:T.N.length=ps.length+m) (hc:qaj T d.scope ir d.body=true)
  (hb:∀(kV doc pm:Value) (an:Option Addr) (cdv ct:Value) (us:List Value),us.length=ps.length→bindArgs (PySem.W.fnOf d.name d.qual d.params d.body d.scope .none kV doc pm an cdv ct) ⟨us,[]⟩=pure (ps.zip us))
  (tab:TabOk P w K mg base T Γ G k):NwAt P w K mg base G (k+2) x n cn (qmG Γ cn nf n m ir):=by
 obtain⟨fd,F⟩:=c.def_ i hd
 have e1:d.dvs K=[]:=by unfold He.DefD.dvs;rw[hdf];rfl
 have e2:d.kws K=[]:=by unfold He.DefD.kws;rw[hkw];rfl
 rw[e1,e2,hat] at F
 have M:=He.mkr_ok (c.fact j hx)
 exact⟨.inl ⟨k+1,_,fd,ps,Nat.le_refl _,hca ▸ M,qwn F S hG tab hm hn hc hnf,hca ▸ He.glo_ok X N (c.fact j2 hx2),FunD.bindsN F hb⟩⟩
theorem fd1 {cn n j2:Nat} (c:He.SaysD fa fn K) (hx:fa[j]? = some (.cls x)) (hx2:fa[j2]? = some (.noat x y)) (hca:G.ca cn=He.ga K x) (h1:(G.fl cn)[n]? = some y) (h2:(G.fl cn).Nodup):qvV K G cn n y:=
 ⟨hca ▸ He.cls_ok (c.fact j hx),hca ▸ He.noat_ok (c.fact j2 hx2),h1,h2⟩
end
theorem qw9 {P:Program} {w:World} {K:PySem.W.Frag} {h:Heap} {mg:Str→Option Value} {G:Glo} {fa:List He.Fa} {fn:List He.DefD} {T:Tb} {Γ:Env} {k m i j:Nat} {ir:Sms} {y:Str} {d:He.DefD} {x:Str} {f:Addr}
  (c:He.SaysD fa fn K) (X:K.In h) (N:h.Ns mainGlobals mg) (hG:G.K=K) (hd:fn[i]? = some d) (hat:d.at_=(x,none)) (hdf:d.dfl=[]) (hkw:d.kwd=[]) (hx:fa[j]? = some (.glo x)) (hfa:mg x=some (.ref f))
  (S:FnScope T.N [y] d.scope) (hm:T.N.length=1+m) (hc:qaj T d.scope ir d.body=true)
  (hb:∀(kV doc pm:Value) (an:Option Addr) (cdv ct:Value) (us:List Value),us.length=1→bindArgs (PySem.W.fnOf d.name d.qual d.params d.body d.scope .none kV doc pm an cdv ct) ⟨us,[]⟩=pure ([y].zip us))
  (tab:∀base:Heap,K.In base→base.Ns mainGlobals mg→TabOk P w K mg base T Γ G k) :
  ∃fd:FuncData,(∀(s:Shared) (u:Value),BindsTo s fd ⟨[u],[]⟩ [(y,u)])∧∀base:Heap,K.In base→base.Ns mainGlobals mg→FnOk P w K mg base (L2.CX P w) (k+1) f fd [y] (spD G 1 (qcM Γ 1 m ir)):=by
 obtain⟨fd,F⟩:=c.def_ i hd
 have e1:d.dvs K=[]:=by unfold He.DefD.dvs;rw[hdf];rfl
 have e2:d.kws K=[]:=by unfold He.DefD.kws;rw[hkw];rfl
 rw[e1,e2,hat] at F
 have e:=hfa.symm.trans (He.glo_ok X N (c.fact j hx))
 cases e
 exact⟨fd,fun s u=>FunD.bindsA (ps:=[y]) F hb s [u] rfl,fun base hB hN=>qsx F S hG (tab base hB hN) hm hc⟩
theorem law_at {l:PySem.W.OpenLaw} {w:World} {K:PySem.W.Frag} {mg:Str→Option Value} {f:Addr} {h:Heap} {G:Glo} {g:List D→RE ER} {k n:Nat} {y:Str} (hG:G.K=K)
  (ok:∃fd:FuncData,(∀(s:Shared) (u:Value),BindsTo s fd ⟨[u],[]⟩ [(y,u)])∧∀base:Heap,K.In base→base.Ns mainGlobals mg→FnOk l.prog w K mg base (L2.CX l.prog w) k f fd [y] (spD G 1 g))
  (tr:∀ns:List Int,ns.length≤n→(∀z∈ns,Builtin.Int.intBits z≤1048576)→∃b,g [.lst (ns.map D.int)]=.ok (.val (.bl true) b)):LamX.LawAtS l w K (L2.CX l.prog w) k n y mg f h:=by
 obtain⟨fd,hb,hF⟩:=ok
 refine⟨fd,[],spD G 1 g,fun p hp=>(nomatch hp),fun p hp=>(nomatch hp),fun p hp=>(nomatch hp),hb,fun H a ns hl hz _ hS=>?_,fun base h1 h2 _=>hF base h1 h2⟩
 obtain⟨b,e⟩:=tr ns hl hz
 refine⟨fun _=>none,H,[.lst (ns.map D.int)],fun _ _ q=>(nomatch q),L2.Same.refl _,⟨_,[],rfl,⟨a,_,rfl,hG ▸ hS,Reps.ints.mpr rfl⟩,rfl⟩,rfl,?_⟩
 rw[e]
 intro v H' P' N' _ q
 exact q
theorem cx_end {P:Program} {w:World} (H:Hp) (s:Shared) (e:Value) (s':Shared) (h:L2.CX P w [] H s (fun _ _ _=>False) e s'):False:=by
 obtain⟨a,B,H',cls,d,_,_,_,_,_,_,_,z⟩:=h
 exact z
end Cm
namespace K72
open Cm
def qcf:Sms:=(.cons (.asg 1 (.bin .add (.cint 1) (.bin .mdl (.var 0) (.cint 6))))
  (.cons (.asg 2 (.bin .add (.cint 1) (.bin .mdl (.bin .fdv (.var 0) (.cint 6)) (.pri .min2 (.cons (.cint 6) (.cons (.bin .fdv (.cint 16) (.var 1)) .nil))))))
  (.cons (.ret (.tup (.cons (.var 1) (.cons (.var 2) (.cons (.bin .add (.cint 1) (.bin .mdl (.bin .fdv (.var 0) (.cint 36)) (.cint 6))) .nil)))))
  .nil)))
def qcZ:Env:={ fn:=[],gc:=[],mn:=[],mt:=qaE [],fs:=[],fi:=qaF [],nw:=[],ck:=[],ik:=[],xk:=[] }
def g__law_floor:List D→RE ER:=qcM qcZ 1 2 qcf
def qbt:Sms:=(.cons (.iff (.val (.cmp .eq (.pri .len (.cons (.var 0) .nil)) (.cint 0))) (.cons (.ret (.bin .mdl (.bin .add (.bin .mul (.bin .mul (.var 1) (.var 1)) (.cint 40692)) (.bin .mul (.cint 7) (.var 1))) (.cint 2147483647)))
  .nil) .nil)
  (.cons (.asg 2 (.bin .mdl (.idx (.var 0) (.bin .mdl (.var 1) (.pri .len (.cons (.var 0) .nil)))) (.cint 2305843009213693951)))
  (.cons (.iff (.val (.cmp .lt (.var 1) (.pri .len (.cons (.var 0) .nil)))) (.cons (.ret (.var 2))
  .nil) .nil)
  (.cons (.ret (.bin .mdl (.bin .add (.bin .mul (.var 2) (.cint 48271)) (.bin .mul (.bin .mul (.var 1) (.var 1)) (.cint 40692))) (.cint 2305843009213693951)))
  .nil))))
def qb4:Env:={ fn:=[],gc:=[],mn:=[],mt:=qaE [],fs:=[],fi:=qaF [],nw:=[],ck:=[],ik:=[],xk:=[] }
def g__law_cell_at:List D→RE ER:=qcM qb4 2 1 qbt
def qck:Sms:=(.cons (.own 4 (.lrng (.cons (.var 2) .nil)))
  (.cons (.own 5 (.lst .nil))
  (.cons (.for (.rng (.cons (.var 3) .nil)) [6] (.cons (.apop 5 4 (.bin .mdl (.call 0 (.cons (.var 0) (.cons (.bin .add (.var 1) (.var 6)) .nil))) (.pri .len (.cons (.var 4) .nil))))
  .nil))
  (.cons (.ret (.var 5))
  .nil))))
def qc6:Env:={ fn:=[("_law_cell_at",g__law_cell_at)],gc:=[],mn:=[],mt:=qaE [],fs:=[],fi:=qaF [],nw:=[],ck:=[],ik:=[],xk:=[] }
def g__law_cells:List D→RE ER:=qcM qc6 4 3 qck
def qcK:Sms:=(.cons (.asg 3 (.call 0 (.cons (.var 0) (.cons (.var 1) .nil))))
  (.cons (.asg 4 (.bin .mul (.idx (.var 2) (.cint 0)) (.idx (.var 2) (.cint 1))))
  (.cons (.asg 5 (.bin .add (.cint 1) (.bin .mdl (.bin .fdv (.var 3) (.cint 8)) (.var 4))))
  (.cons (.asg 6 (.bm1 .join (.cstr [32]) (.lc [7] (.any (.call 1 (.cons (.var 0) (.cons (.bin .add (.var 1) (.cint 1)) (.cons (.var 4) (.cons (.var 5) .nil)))))) [7] .nil (.pri .str (.cons (.var 7) .nil)))))
  (.cons (.asg 8 (.pri .str (.cons (.bin .add (.cint 1) (.bin .mdl (.bin .fdv (.var 3) (.cint 128)) (.idx (.var 2) (.cint 2)))) .nil)))
  (.cons (.asg 9 (.pri .str (.cons (.bin .mdl (.bin .fdv (.var 3) (.cint 768)) (.cint 100)) .nil)))
  (.cons (.asg 10 (.lst (.cons (.bin .add (.cstr [117,110,108,105,107,101,32]) (.var 6)) (.cons (.bin .add (.bin .add (.bin .add (.cstr [115,117,109,32]) (.var 9)) (.cstr [32])) (.var 6)) (.cons (.bin .add (.cstr [114,105,115,105,110,103,32]) (.var 6)) (.cons (.bin .add (.bin .add (.bin .add (.cstr [115,101,101,110,32]) (.var 9)) (.cstr [32])) (.var 6)) .nil))))))
  (.cons (.asg 10 (.bin .add (.var 10) (.lst (.cons (.bin .add (.bin .add (.bin .add (.bin .add (.bin .add (.cstr [99,111,117,110,116,32]) (.var 9)) (.cstr [32])) (.var 8)) (.cstr [32])) (.var 6)) (.cons (.bin .add (.cstr [106,111,105,110,101,100,32]) (.var 8)) (.cons (.bin .add (.cstr [110,111,115,113,117,97,114,101,32]) (.var 8)) (.cons (.bin .add (.cstr [114,105,110,103,32]) (.var 8)) .nil)))))))
  (.cons (.ret (.idx (.var 10) (.bin .mdl (.var 3) (.cint 8))))
  .nil)))))))))
def qdT:Env:={ fn:=[("_law_cell_at",g__law_cell_at),("_law_cells",g__law_cells)],gc:=[],mn:=[],mt:=qaE [],fs:=[],fi:=qaF [],nw:=[],ck:=[],ik:=[],xk:=[] }
def g__law_rule:List D→RE ER:=qcM qdT 3 8 qcK
def qbn:Sms:=(.cons (.asg 2 (.idx (.var 0) (.cint 1)))
  (.cons (.own 3 (.lst .nil))
  (.cons (.for (.rng (.cons (.idx (.var 0) (.cint 0)) .nil)) [4] (.cons (.app 3 (.bm1 .join (.cstr []) (.lc [5] (.any (.slc (.var 1) (.cons (.bin .mul (.var 4) (.var 2)) .nil) (.cons (.bin .add (.bin .mul (.var 4) (.var 2)) (.var 2)) .nil))) [5] .nil (.idx (.glo 0) (.var 5)))))
  .nil))
  (.cons (.ret (.bm1 .join (.cstr [47]) (.var 3)))
  .nil))))
def qb1:Env:={ fn:=[],gc:=[("MARKS",.str [46,49,50,51,52,53,54])],mn:=[],mt:=qaE [],fs:=[],fi:=qaF [],nw:=[],ck:=[],ik:=[],xk:=[] }
def g_show_filling:List D→RE ER:=qcM qb1 2 4 qbn
def qbm:Sms:=(.cons (.ret (.fld (.var 0) 0))
  .nil)
def qb5:Env:={ fn:=[],gc:=[],mn:=[],mt:=qaE [],fs:=[],fi:=qaF [(0,0,0),(1,0,0),(2,0,0),(3,0,0),(4,0,0),(5,0,0),(6,0,0),(7,0,0),(25,0,0)],nw:=[],ck:=[],ik:=[],xk:=[] }
def g_Puzzle_place:List D→RE ER:=qcM qb5 1 0 qbm
def qbM:Sms:=(.cons (.ret (.cstr [117,110,108,105,107,101]))
  .nil)
def qcs:Env:={ fn:=[],gc:=[],mn:=[],mt:=qaE [],fs:=[],fi:=qaF [],nw:=[],ck:=[],ik:=[],xk:=[] }
def g_Unlike_name:List D→RE ER:=qcM qcs 1 0 qbM
def qci:Sms:=(.cons (.ret (.cstr [115,117,109]))
  .nil)
def qdc:Env:={ fn:=[],gc:=[],mn:=[],mt:=qaE [],fs:=[],fi:=qaF [],nw:=[],ck:=[],ik:=[],xk:=[] }
def g_Total_name:List D→RE ER:=qcM qdc 1 0 qci
def qbB:Sms:=(.cons (.ret (.cstr [114,105,115,105,110,103]))
  .nil)
def qcq:Env:={ fn:=[],gc:=[],mn:=[],mt:=qaE [],fs:=[],fi:=qaF [],nw:=[],ck:=[],ik:=[],xk:=[] }
def g_Rising_name:List D→RE ER:=qcM qcq 1 0 qbB
def qcF:Sms:=(.cons (.ret (.cstr [115,101,101,110]))
  .nil)
def qdO:Env:={ fn:=[],gc:=[],mn:=[],mt:=qaE [],fs:=[],fi:=qaF [],nw:=[],ck:=[],ik:=[],xk:=[] }
def g_Seen_name:List D→RE ER:=qcM qdO 1 0 qcF
def qbu:Sms:=(.cons (.ret (.cstr [99,111,117,110,116]))
  .nil)
def qb0:Env:={ fn:=[],gc:=[],mn:=[],mt:=qaE [],fs:=[],fi:=qaF [],nw:=[],ck:=[],ik:=[],xk:=[] }
def g_Counted_name:List D→RE ER:=qcM qb0 1 0 qbu
def qbE:Sms:=(.cons (.ret (.cstr [106,111,105,110,101,100]))
  .nil)
def qcu:Env:={ fn:=[],gc:=[],mn:=[],mt:=qaE [],fs:=[],fi:=qaF [],nw:=[],ck:=[],ik:=[],xk:=[] }
def g_Joined_name:List D→RE ER:=qcM qcu 1 0 qbE
def qa8:Sms:=(.cons (.ret (.cstr [110,111,115,113,117,97,114,101]))
  .nil)
def qbL:Env:={ fn:=[],gc:=[],mn:=[],mt:=qaE [],fs:=[],fi:=qaF [],nw:=[],ck:=[],ik:=[],xk:=[] }
def g_NoSquare_name:List D→RE ER:=qcM qbL 1 0 qa8
def qcU:Sms:=(.cons (.ret (.cstr [114,105,110,103]))
  .nil)
def qdJ:Env:={ fn:=[],gc:=[],mn:=[],mt:=qaE [],fs:=[],fi:=qaF [],nw:=[],ck:=[],ik:=[],xk:=[] }
def g_Ring_name:List D→RE ER:=qcM qdJ 1 0 qcU
def qaq:Sms:=(.cons (.ret (.pri .list (.cons (.fld (.var 0) 0) .nil)))
  .nil)
def qaJ:Env:={ fn:=[],gc:=[],mn:=[],mt:=qaE [],fs:=[],fi:=qaF [(0,0,1),(1,0,1),(2,0,1),(3,0,1),(4,0,1),(5,0,1),(6,0,1),(7,0,1)],nw:=[],ck:=[],ik:=[],xk:=[] }
def g_Rule_told_numbers:List D→RE ER:=qcM qaJ 1 0 qaq
def qax:Sms:=(.cons (.ret (.bin .add (.lst (.cons (.fld (.var 0) 0) .nil)) (.fld (.var 0) 1)))
  .nil)
def qaR:Env:={ fn:=[],gc:=[],mn:=[],mt:=qaE [],fs:=[],fi:=qaF [(0,0,2),(1,0,2),(2,0,2),(3,0,2),(4,0,2),(5,0,2),(6,0,2),(7,0,2),(0,1,1),(1,1,1),(2,1,1),(3,1,1),(4,1,1),(5,1,1),(6,1,1),(7,1,1)],nw:=[],ck:=[],ik:=[],xk:=[] }
def g_Total_told_numbers:List D→RE ER:=qcM qaR 1 0 qax
def qaI:Sms:=(.cons (.ret (.bin .add (.lst (.cons (.fld (.var 0) 0) .nil)) (.fld (.var 0) 1)))
  .nil)
def qaY:Env:={ fn:=[],gc:=[],mn:=[],mt:=qaE [],fs:=[],fi:=qaF [(0,0,2),(1,0,2),(2,0,2),(3,0,2),(4,0,2),(5,0,2),(6,0,2),(7,0,2),(0,1,1),(1,1,1),(2,1,1),(3,1,1),(4,1,1),(5,1,1),(6,1,1),(7,1,1)],nw:=[],ck:=[],ik:=[],xk:=[] }
def g_Seen_told_numbers:List D→RE ER:=qcM qaY 1 0 qaI
def qan:Sms:=(.cons (.ret (.bin .add (.lst (.cons (.fld (.var 0) 0) (.cons (.fld (.var 0) 1) .nil))) (.fld (.var 0) 2)))
  .nil)
def qaM:Env:={ fn:=[],gc:=[],mn:=[],mt:=qaE [],fs:=[],fi:=qaF [(0,0,2),(1,0,2),(2,0,2),(3,0,2),(4,0,2),(5,0,2),(6,0,2),(7,0,2),(0,1,3),(1,1,3),(2,1,3),(3,1,3),(4,1,3),(5,1,3),(6,1,3),(7,1,3),(0,2,1),(1,2,1),(2,2,1),(3,2,1),(4,2,1),(5,2,1),(6,2,1),(7,2,1)],nw:=[],ck:=[],ik:=[],xk:=[] }
def g_Counted_told_numbers:List D→RE ER:=qcM qaM 1 0 qan
def qar:Sms:=(.cons (.ret (.lst (.cons (.fld (.var 0) 0) .nil)))
  .nil)
def qaO:Env:={ fn:=[],gc:=[],mn:=[],mt:=qaE [],fs:=[],fi:=qaF [(0,0,3),(1,0,3),(2,0,3),(3,0,3),(4,0,3),(5,0,3),(6,0,3),(7,0,3)],nw:=[],ck:=[],ik:=[],xk:=[] }
def g_Joined_told_numbers:List D→RE ER:=qcM qaO 1 0 qar
def qal:Sms:=(.cons (.ret (.lst (.cons (.fld (.var 0) 0) .nil)))
  .nil)
def qaz:Env:={ fn:=[],gc:=[],mn:=[],mt:=qaE [],fs:=[],fi:=qaF [(0,0,3),(1,0,3),(2,0,3),(3,0,3),(4,0,3),(5,0,3),(6,0,3),(7,0,3)],nw:=[],ck:=[],ik:=[],xk:=[] }
def g_NoSquare_told_numbers:List D→RE ER:=qcM qaz 1 0 qal
def qaD:Sms:=(.cons (.ret (.lst (.cons (.fld (.var 0) 0) .nil)))
  .nil)
def qaW:Env:={ fn:=[],gc:=[],mn:=[],mt:=qaE [],fs:=[],fi:=qaF [(0,0,3),(1,0,3),(2,0,3),(3,0,3),(4,0,3),(5,0,3),(6,0,3),(7,0,3)],nw:=[],ck:=[],ik:=[],xk:=[] }
def g_Ring_told_numbers:List D→RE ER:=qcM qaW 1 0 qaD
def qav:Sms:=(.cons (.ret (.bm1 .join (.cstr [32]) (.bin .add (.lst (.cons (.mth 0 (.var 0) .nil) .nil)) (.lc [1] (.any (.mth 1 (.var 0) .nil)) [1] .nil (.pri .str (.cons (.var 1) .nil))))))
  .nil)
def qaH:Env:={ fn:=[],gc:=[],mn:=[],mt:=qaE [(0,0,g_Unlike_name),(1,0,g_Total_name),(2,0,g_Rising_name),(3,0,g_Seen_name),(4,0,g_Counted_name),(5,0,g_Joined_name),(6,0,g_NoSquare_name),(7,0,g_Ring_name),(0,1,g_Rule_told_numbers),(1,1,g_Total_told_numbers),(2,1,g_Rule_told_numbers),(3,1,g_Seen_told_numbers),(4,1,g_Counted_told_numbers),(5,1,g_Joined_told_numbers),(6,1,g_NoSquare_told_numbers),(7,1,g_Ring_told_numbers)],fs:=[],fi:=qaF [],nw:=[],ck:=[],ik:=[],xk:=[] }
def g_Rule_line:List D→RE ER:=qcM qaH 1 1 qav
def qbr:Sms:=(.cons (.ret (.lc [1] (.any (.fld (.var 0) 0)) [1] .nil (.mth 0 (.var 1) .nil)))
  .nil)
def qb7:Env:={ fn:=[],gc:=[],mn:=[],mt:=qaE [(0,0,g_Rule_line),(1,0,g_Rule_line),(2,0,g_Rule_line),(3,0,g_Rule_line),(4,0,g_Rule_line),(5,0,g_Rule_line),(6,0,g_Rule_line),(7,0,g_Rule_line)],fs:=[],fi:=qaF [(25,0,1)],nw:=[],ck:=[],ik:=[],xk:=[] }
def g_Puzzle_lines:List D→RE ER:=qcM qb7 1 1 qbr
def qbq:Sms:=(.cons (.ret (.pri .list (.cons (.fld (.var 0) 0) .nil)))
  .nil)
def qbY:Env:={ fn:=[],gc:=[],mn:=[],mt:=qaE [],fs:=[],fi:=qaF [(25,0,2)],nw:=[],ck:=[],ik:=[],xk:=[] }
def g_Puzzle_clues:List D→RE ER:=qcM qbY 1 0 qbq
def qbF:Sms:=(.cons (.asg 1 (.mth 0 (.var 0) .nil))
  (.cons (.asg 2 (.bm1 .join (.cstr [32]) (.lc [3] (.any (.var 1)) [3] .nil (.pri .str (.cons (.var 3) .nil)))))
  (.cons (.ret (.bin .add (.bin .add (.bin .add (.bin .add (.var 2) (.cstr [32,124,32])) (.bm1 .join (.cstr [59,32]) (.mth 1 (.var 0) .nil))) (.cstr [32,124,32])) (.call 0 (.cons (.var 1) (.cons (.mth 2 (.var 0) .nil) .nil)))))
  .nil)))
def qcv:Env:={ fn:=[("show_filling",g_show_filling)],gc:=[],mn:=[],mt:=qaE [(25,0,g_Puzzle_place),(25,1,g_Puzzle_lines),(25,2,g_Puzzle_clues)],fs:=[],fi:=qaF [],nw:=[],ck:=[],ik:=[],xk:=[] }
def g_show_puzzle:List D→RE ER:=qcM qcv 1 3 qbF
def qcP:Sms:=(.cons (.own 3 (.lst .nil))
  (.cons (.for (.rng (.cons (.idx (.var 0) (.cint 0)) .nil)) [4] (.cons (.asg 5 (.cstr []))
  (.cons (.for (.any (.slc (.var 2) (.cons (.bin .mul (.var 4) (.idx (.var 0) (.cint 1))) .nil) (.cons (.bin .mul (.bin .add (.var 4) (.cint 1)) (.idx (.var 0) (.cint 1))) .nil))) [6] (.cons (.asg 5 (.bin .add (.var 5) (.idx (.cstr [46,49,50,51,52,53,54]) (.var 6))))
  .nil))
  (.cons (.app 3 (.var 5))
  .nil))))
  (.cons (.asg 7 (.bin .add (.bin .add (.bin .add (.bin .add (.pri .str (.cons (.idx (.var 0) (.cint 0)) .nil)) (.cstr [32])) (.pri .str (.cons (.idx (.var 0) (.cint 1)) .nil))) (.cstr [32])) (.pri .str (.cons (.idx (.var 0) (.cint 2)) .nil))))
  (.cons (.ret (.bin .add (.bin .add (.bin .add (.bin .add (.var 7) (.cstr [32,124,32])) (.bm1 .join (.cstr [59,32]) (.var 1))) (.cstr [32,124,32])) (.bm1 .join (.cstr [47]) (.var 3))))
  .nil))))
def qdV:Env:={ fn:=[],gc:=[],mn:=[],mt:=qaE [],fs:=[],fi:=qaF [],nw:=[],ck:=[],ik:=[],xk:=[] }
def g__law_text:List D→RE ER:=qcM qdV 3 5 qcP
def qbH:Sms:=(.cons (.iff (.bop false (.cons (.val (.cmp .eq (.pri .len (.cons (.var 0) .nil)) (.cint 0))) (.cons (.val (.cmp .gt (.pri .len (.cons (.var 0) .nil)) (.glo 0))) (.cons (.bop true (.cons (.val (.cmp .eq (.idx (.var 0) (.cint 0)) (.cstr [48]))) (.cons (.val (.cmp .gt (.pri .len (.cons (.var 0) .nil)) (.cint 1))) .nil))) .nil)))) (.cons (.rse 0)
  .nil) .nil)
  (.cons (.for (.any (.var 0)) [1] (.cons (.iff (.val (.cmp .nin (.var 1) (.glo 1))) (.cons (.rse 0)
  .nil) .nil)
  .nil))
  (.cons (.ret (.pri .int (.cons (.var 0) .nil)))
  .nil)))
def qcB:Env:={ fn:=[],gc:=[("MOST_FIGURES",.int 9),("FIGURES_texts",.str [48,49,50,51,52,53,54,55,56,57])],mn:=[],mt:=qaE [],fs:=[],fi:=qaF [],nw:=[],ck:=[],ik:=[],xk:=[39] }
def g_read_number:List D→RE ER:=qcM qcB 1 1 qbH
def qdp:Sms:=(.cons (.iff (.bop false (.cons (.not (.val (.chn .le .le (.cint 1) (.var 0) (.glo 0)))) (.cons (.not (.val (.chn .le .le (.cint 1) (.var 1) (.glo 0)))) (.cons (.val (.cmp .gt (.bin .mul (.var 0) (.var 1)) (.glo 1))) .nil)))) (.cons (.rse 0)
  .nil) .nil)
  (.cons (.iff (.not (.val (.chn .le .le (.cint 1) (.var 2) (.glo 2)))) (.cons (.rse 0)
  .nil) .nil)
  (.cons (.ret (.tup (.cons (.var 0) (.cons (.var 1) (.cons (.var 2) .nil)))))
  .nil)))
def qet:Env:={ fn:=[],gc:=[("MOST_SIDE",.int 6),("MOST_CELLS",.int 16),("MOST_SIGNS",.int 6)],mn:=[],mt:=qaE [],fs:=[],fi:=qaF [],nw:=[],ck:=[],ik:=[],xk:=[31] }
def g_floor_of:List D→RE ER:=qcM qet 3 0 qdp
def qcj:Sms:=(.cons (.ret (.bin .mul (.idx (.var 0) (.cint 0)) (.idx (.var 0) (.cint 1))))
  .nil)
def qc3:Env:={ fn:=[],gc:=[],mn:=[],mt:=qaE [],fs:=[],fi:=qaF [],nw:=[],ck:=[],ik:=[],xk:=[] }
def g_many_cells:List D→RE ER:=qcM qc3 1 0 qcj
def qbp:Sms:=(.cons (.iff (.not (.val (.isi (.var 1) .str))) (.cons (.rse 0)
  .nil) .nil)
  (.cons (.asg 2 (.bm1 .split (.var 1) (.cstr [47])))
  (.cons (.iff (.val (.cmp .ne (.pri .len (.cons (.var 2) .nil)) (.idx (.var 0) (.cint 0)))) (.cons (.rse 0)
  .nil) .nil)
  (.cons (.own 3 (.lst .nil))
  (.cons (.for (.any (.var 2)) [4] (.cons (.iff (.val (.cmp .ne (.pri .len (.cons (.var 4) .nil)) (.idx (.var 0) (.cint 1)))) (.cons (.rse 0)
  .nil) .nil)
  (.cons (.for (.any (.var 4)) [5] (.cons (.iff (.val (.cmp .nin (.var 5) (.slc (.glo 0) .nil (.cons (.bin .add (.idx (.var 0) (.cint 2)) (.cint 1)) .nil)))) (.cons (.rse 0)
  .nil) .nil)
  (.cons (.app 3 (.inxS (.glo 0) (.var 5)))
  .nil)))
  .nil)))
  (.cons (.ret (.var 3))
  .nil))))))
def qb2:Env:={ fn:=[],gc:=[("MARKS",.str [46,49,50,51,52,53,54])],mn:=[],mt:=qaE [],fs:=[],fi:=qaF [],nw:=[],ck:=[],ik:=[],xk:=[32] }
def g_read_filling:List D→RE ER:=qcM qb2 2 4 qbp
def qcV:Sms:=(.cons (.iff (.bop false (.cons (.not (.val (.chn .le .le (.cint 1) (.pri .len (.cons (.var 0) .nil)) (.glo 0)))) (.cons (.bop true (.cons (.val (.cmp .eq (.idx (.var 0) (.cint 0)) (.cstr [48]))) (.cons (.val (.cmp .gt (.pri .len (.cons (.var 0) .nil)) (.cint 1))) .nil))) .nil))) (.cons (.rse 0)
  .nil) .nil)
  (.cons (.for (.any (.var 0)) [1] (.cons (.iff (.val (.cmp .nin (.var 1) (.glo 1))) (.cons (.rse 0)
  .nil) .nil)
  .nil))
  (.cons (.ret (.pri .int (.cons (.var 0) .nil)))
  .nil)))
def qdN:Env:={ fn:=[],gc:=[("LONGEST",.int 2),("FIGURES_rows",.str [48,49,50,51,52,53,54,55,56,57])],mn:=[],mt:=qaE [],fs:=[],fi:=qaF [],nw:=[],ck:=[],ik:=[],xk:=[33] }
def g_number_of:List D→RE ER:=qcM qdN 1 1 qcV
def qcI:Sms:=(.cons (.iff (.bop false (.cons (.val (.cmp .ge (.var 2) (.pri .len (.cons (.var 1) .nil)))) (.cons (.not (.val (.chn .le .le (.cint 1) (.idx (.var 1) (.var 2)) (.idx (.var 0) (.cint 2))))) .nil))) (.cons (.rse 0)
  .nil) .nil)
  (.cons (.ret (.idx (.var 1) (.var 2)))
  .nil))
def qdW:Env:={ fn:=[],gc:=[],mn:=[],mt:=qaE [],fs:=[],fi:=qaF [],nw:=[],ck:=[],ik:=[],xk:=[33] }
def g_sign_told:List D→RE ER:=qcM qdW 3 0 qcI
def qaa:Sms:=(.cons (.fset 0 (.var 1))
  (.cons (.fset 1 (.pri .list (.cons (.var 2) .nil)))
  (.cons (.fset 2 (.var 3))
  (.cons (.fset 3 (.var 4))
  .nil))))
def qae:Env:={ fn:=[],gc:=[],mn:=[],mt:=qaE [],fs:=[],fi:=qaF [(0,0,0),(1,0,0),(2,0,0),(3,0,0),(4,0,0),(5,0,0),(6,0,0),(7,0,0),(25,0,0),(0,1,1),(1,1,1),(2,1,1),(3,1,1),(4,1,1),(5,1,1),(6,1,1),(7,1,1),(0,2,2),(1,2,2),(2,2,2),(3,2,2),(4,2,2),(5,2,2),(6,2,2),(7,2,2),(0,3,3),(1,3,3),(2,3,3),(3,3,3),(4,3,3),(5,3,3),(6,3,3),(7,3,3)],nw:=[],ck:=[],ik:=[],xk:=[] }
def ini_Unlike:List D→RE (List D):=qmG qae 0 4 4 0 qaa
def ini_Total:List D→RE (List D):=qmG qae 1 4 4 0 qaa
def ini_Rising:List D→RE (List D):=qmG qae 2 4 4 0 qaa
def ini_Seen:List D→RE (List D):=qmG qae 3 4 4 0 qaa
def ini_Counted:List D→RE (List D):=qmG qae 4 4 4 0 qaa
def ini_Joined:List D→RE (List D):=qmG qae 5 4 4 0 qaa
def ini_NoSquare:List D→RE (List D):=qmG qae 6 4 4 0 qaa
def ini_Ring:List D→RE (List D):=qmG qae 7 4 4 0 qaa
def qcb:Sms:=(.cons (.iff (.val (.cmp .ne (.pri .len (.cons (.var 2) .nil)) (.cint 1))) (.cons (.rse 0)
  .nil) .nil)
  (.cons (.asg 3 (.call 0 (.cons (.var 0) (.cons (.var 2) (.cons (.cint 0) .nil)))))
  (.cons (.asg 4 (.lrng (.cons (.call 1 (.cons (.var 0) .nil)) .nil)))
  (.cons (.iff (.val (.cmp .eq (.var 1) (.cstr [106,111,105,110,101,100]))) (.cons (.ret (.new 0 (.cons (.var 0) (.cons (.var 4) (.cons (.cint 0) (.cons (.var 3) .nil))))))
  .nil) .nil)
  (.cons (.iff (.val (.cmp .eq (.var 1) (.cstr [110,111,115,113,117,97,114,101]))) (.cons (.ret (.new 1 (.cons (.var 0) (.cons (.var 4) (.cons (.cint 0) (.cons (.var 3) .nil))))))
  .nil) .nil)
  (.cons (.ret (.new 2 (.cons (.var 0) (.cons (.var 4) (.cons (.cint 0) (.cons (.var 3) .nil))))))
  .nil))))))
def qc8:Env:={ fn:=[("sign_told",g_sign_told),("many_cells",g_many_cells)],gc:=[],mn:=[],mt:=qaE [],fs:=[],fi:=qaF [],nw:=[(5,ini_Joined),(6,ini_NoSquare),(7,ini_Ring)],ck:=[],ik:=[],xk:=[33] }
def g_whole_rule:List D→RE ER:=qcM qc8 3 2 qcb
def qcg:Sms:=(.cons (.iff (.bop false (.cons (.val (.cmp .eq (.var 1) (.lst .nil))) (.cons (.val (.cmp .ne (.lset (.var 1)) (.pri .len (.cons (.var 1) .nil)))) (.cons (.val (.cmp .ge (.pri .max1 (.cons (.var 1) .nil)) (.call 0 (.cons (.var 0) .nil)))) .nil)))) (.cons (.rse 0)
  .nil) .nil)
  (.cons (.ret (.var 1))
  .nil))
def qcY:Env:={ fn:=[("many_cells",g_many_cells)],gc:=[],mn:=[],mt:=qaE [],fs:=[],fi:=qaF [],nw:=[],ck:=[],ik:=[],xk:=[33] }
def g_cells_told:List D→RE ER:=qcM qcY 2 0 qcg
def qcG:Sms:=(.cons (.iff (.not (.val (.isi (.var 1) .str))) (.cons (.rse 0)
  .nil) .nil)
  (.cons (.asg 2 (.bm1 .split (.var 1) (.cstr [32])))
  (.cons (.asg 3 (.idx (.var 2) (.cint 0)))
  (.cons (.iff (.val (.cmp .nin (.var 3) (.tup (.cons (.cstr [117,110,108,105,107,101]) (.cons (.cstr [115,117,109]) (.cons (.cstr [114,105,115,105,110,103]) (.cons (.cstr [115,101,101,110]) (.cons (.cstr [99,111,117,110,116]) (.cons (.cstr [106,111,105,110,101,100]) (.cons (.cstr [110,111,115,113,117,97,114,101]) (.cons (.cstr [114,105,110,103]) .nil))))))))))) (.cons (.rse 0)
  .nil) .nil)
  (.cons (.asg 4 (.lc [5] (.any (.slc (.var 2) (.cons (.cint 1) .nil) .nil)) [5] .nil (.call 0 (.cons (.var 5) .nil))))
  (.cons (.iff (.val (.cmp .isin (.var 3) (.tup (.cons (.cstr [106,111,105,110,101,100]) (.cons (.cstr [110,111,115,113,117,97,114,101]) (.cons (.cstr [114,105,110,103]) .nil)))))) (.cons (.ret (.call 1 (.cons (.var 0) (.cons (.var 3) (.cons (.var 4) .nil)))))
  .nil) .nil)
  (.cons (.iff (.val (.cmp .eq (.var 3) (.cstr [117,110,108,105,107,101]))) (.cons (.ret (.new 0 (.cons (.var 0) (.cons (.call 2 (.cons (.var 0) (.cons (.var 4) .nil))) (.cons (.cint 0) (.cons (.cint 0) .nil))))))
  .nil) .nil)
  (.cons (.iff (.val (.cmp .eq (.var 3) (.cstr [114,105,115,105,110,103]))) (.cons (.ret (.new 1 (.cons (.var 0) (.cons (.call 2 (.cons (.var 0) (.cons (.var 4) .nil))) (.cons (.cint 0) (.cons (.cint 0) .nil))))))
  .nil) .nil)
  (.cons (.iff (.val (.cmp .eq (.var 3) (.cstr [99,111,117,110,116]))) (.cons (.asg 6 (.call 3 (.cons (.var 0) (.cons (.var 4) (.cons (.cint 1) .nil)))))
  (.cons (.ret (.new 2 (.cons (.var 0) (.cons (.call 2 (.cons (.var 0) (.cons (.slc (.var 4) (.cons (.cint 2) .nil) .nil) .nil))) (.cons (.idx (.var 4) (.cint 0)) (.cons (.var 6) .nil))))))
  .nil)) .nil)
  (.cons (.asg 7 (.call 2 (.cons (.var 0) (.cons (.slc (.var 4) (.cons (.cint 1) .nil) .nil) .nil))))
  (.cons (.iff (.val (.cmp .eq (.var 3) (.cstr [115,117,109]))) (.cons (.ret (.new 3 (.cons (.var 0) (.cons (.var 7) (.cons (.idx (.var 4) (.cint 0)) (.cons (.cint 0) .nil))))))
  .nil) .nil)
  (.cons (.ret (.new 4 (.cons (.var 0) (.cons (.var 7) (.cons (.idx (.var 4) (.cint 0)) (.cons (.cint 0) .nil))))))
  .nil))))))))))))
def qdD:Env:={ fn:=[("number_of",g_number_of),("whole_rule",g_whole_rule),("cells_told",g_cells_told),("sign_told",g_sign_told)],gc:=[],mn:=[],mt:=qaE [],fs:=[],fi:=qaF [],nw:=[(0,ini_Unlike),(2,ini_Rising),(4,ini_Counted),(1,ini_Total),(3,ini_Seen)],ck:=[],ik:=[],xk:=[33] }
def g_read_rule:List D→RE ER:=qcM qdD 2 6 qcG
def qcd:Sms:=(.cons (.iff (.val (.cmp .ne (.pri .len (.cons (.var 1) .nil)) (.call 0 (.cons (.var 0) .nil)))) (.cons (.ret (.cbl false))
  .nil) .nil)
  (.cons (.ret (.pri .all (.cons (.lc [2] (.any (.var 1)) [2] .nil (.chn .le .le (.cint 0) (.var 2) (.idx (.var 0) (.cint 2)))) .nil)))
  .nil))
def qc1:Env:={ fn:=[("many_cells",g_many_cells)],gc:=[],mn:=[],mt:=qaE [],fs:=[],fi:=qaF [],nw:=[],ck:=[],ik:=[],xk:=[] }
def g_is_filling:List D→RE ER:=qcM qc1 2 1 qcd
def qbg:Sms:=(.cons (.iff (.val (.cmp .ne (.pri .len (.cons (.var 1) .nil)) (.cint 3))) (.cons (.rse 0)
  .nil) .nil)
  (.cons (.fset 0 (.call 0 (.cons (.idx (.var 1) (.cint 0)) (.cons (.idx (.var 1) (.cint 1)) (.cons (.idx (.var 1) (.cint 2)) .nil)))))
  (.cons (.iff (.val (.cmp .gt (.pri .len (.cons (.var 2) .nil)) (.glo 0))) (.cons (.rse 1)
  .nil) .nil)
  (.cons (.fset 1 (.lc [4] (.any (.var 2)) [4] .nil (.call 1 (.cons (.sfd 0 0) (.cons (.var 4) .nil)))))
  (.cons (.iff (.not (.val (.call 2 (.cons (.sfd 0 0) (.cons (.var 3) .nil))))) (.cons (.rse 1)
  .nil) .nil)
  (.cons (.fset 2 (.pri .list (.cons (.var 3) .nil)))
  .nil))))))
def qbQ:Env:={ fn:=[("floor_of",g_floor_of),("read_rule",g_read_rule),("is_filling",g_is_filling)],gc:=[("MOST_RULES",.int 12)],mn:=[],mt:=qaE [],fs:=[],fi:=qaF [(0,0,0),(1,0,0),(2,0,0),(3,0,0),(4,0,0),(5,0,0),(6,0,0),(7,0,0),(25,0,0),(25,1,1),(25,2,2)],nw:=[],ck:=[],ik:=[],xk:=[31,34] }
def ini_Puzzle:List D→RE (List D):=qmG qbQ 25 3 3 1 qbg
def qbo:Sms:=(.cons (.ret (.new 0 (.cons (.fld (.var 0) 0) (.cons (.mth 0 (.var 0) .nil) (.cons (.var 1) .nil)))))
  .nil)
def qbT:Env:={ fn:=[],gc:=[],mn:=[],mt:=qaE [(25,0,g_Puzzle_lines)],fs:=[],fi:=qaF [(0,0,0),(1,0,0),(2,0,0),(3,0,0),(4,0,0),(5,0,0),(6,0,0),(7,0,0),(25,0,0)],nw:=[(25,ini_Puzzle)],ck:=[],ik:=[],xk:=[] }
def g_Puzzle_clued:List D→RE ER:=qcM qbT 2 0 qbo
def qbK:Sms:=(.cons (.iff (.not (.val (.isi (.var 0) .str))) (.cons (.rse 0)
  .nil) .nil)
  (.cons (.asg 1 (.bm1 .split (.var 0) (.cstr [32,124,32])))
  (.cons (.iff (.val (.cmp .ne (.pri .len (.cons (.var 1) .nil)) (.cint 3))) (.cons (.rse 0)
  .nil) .nil)
  (.cons (.asg 2 (.lc [3] (.any (.bm1 .split (.idx (.var 1) (.cint 0)) (.cstr [32]))) [3] .nil (.call 0 (.cons (.var 3) .nil))))
  (.cons (.iff (.val (.cmp .ne (.pri .len (.cons (.var 2) .nil)) (.cint 3))) (.cons (.rse 0)
  .nil) .nil)
  (.cons (.asg 4 (.call 1 (.cons (.idx (.var 2) (.cint 0)) (.cons (.idx (.var 2) (.cint 1)) (.cons (.idx (.var 2) (.cint 2)) .nil)))))
  (.cons (.asg 5 (.lst .nil))
  (.cons (.iff (.val (.cmp .ne (.idx (.var 1) (.cint 1)) (.cstr []))) (.cons (.asg 5 (.bm1 .split (.idx (.var 1) (.cint 1)) (.cstr [59,32])))
  .nil) .nil)
  (.cons (.asg 6 (.new 0 (.cons (.var 4) (.cons (.var 5) (.cons (.lc [7] (.rng (.cons (.call 2 (.cons (.var 4) .nil)) .nil)) [7] .nil (.cint 0)) .nil)))))
  (.cons (.ret (.mth 0 (.var 6) (.cons (.call 3 (.cons (.var 4) (.cons (.idx (.var 1) (.cint 2)) .nil))) .nil)))
  .nil))))))))))
def qcy:Env:={ fn:=[("read_number",g_read_number),("floor_of",g_floor_of),("many_cells",g_many_cells),("read_filling",g_read_filling)],gc:=[],mn:=[],mt:=qaE [(25,0,g_Puzzle_clued)],fs:=[],fi:=qaF [],nw:=[(25,ini_Puzzle)],ck:=[],ik:=[],xk:=[39] }
def g_read_puzzle:List D→RE ER:=qcM qcy 1 7 qbK
def qcH:Sms:=(.cons (.iff (.bop false (.cons (.not (.val (.isc (.var 0) 0))) (.cons (.not (.val (.isi (.mth 0 (.var 0) .nil) .tuple))) (.cons (.val (.cmp .ne (.mth 0 (.var 0) .nil) (.var 1))) .nil)))) (.cons (.ret (.cbl false))
  .nil) .nil)
  (.cons (.iff (.bop false (.cons (.not (.val (.isi (.mth 1 (.var 0) .nil) .list))) (.cons (.not (.val (.isi (.mth 2 (.var 0) .nil) .list))) .nil))) (.cons (.ret (.cbl false))
  .nil) .nil)
  (.cons (.ret (.bop true (.cons (.cmp .eq (.mth 1 (.var 0) .nil) (.var 2)) (.cons (.cmp .eq (.mth 2 (.var 0) .nil) (.var 3)) (.cons (.cmp .eq (.call 0 (.cons (.var 0) .nil)) (.call 1 (.cons (.var 1) (.cons (.var 2) (.cons (.var 3) .nil))))) .nil)))))
  .nil)))
def qdK:Env:={ fn:=[("show_puzzle",g_show_puzzle),("_law_text",g__law_text)],gc:=[],mn:=[],mt:=qaE [(25,0,g_Puzzle_place),(25,1,g_Puzzle_lines),(25,2,g_Puzzle_clues)],fs:=[],fi:=qaF [],nw:=[],ck:=[fun c=>List.lookup c []],ik:=[fun c=>List.lookup c [(0,false),(1,false),(2,false),(3,false),(4,false),(5,false),(6,false),(7,false),(25,true)]],xk:=[] }
def g__law_told:List D→RE ER:=qcM qdK 4 0 qcH
def qoI:Sms:=(.cons (.asg 1 (.call 0 (.cons (.call 1 (.cons (.var 0) (.cons (.cint 0) .nil))) .nil)))
  (.cons (.asg 2 (.lc [3] (.rng (.cons (.bin .mdl (.call 1 (.cons (.var 0) (.cons (.cint 1) .nil))) (.cint 13)) .nil)) [3] .nil (.call 2 (.cons (.var 0) (.cons (.bin .add (.cint 20) (.bin .mul (.cint 17) (.var 3))) (.cons (.var 1) .nil))))))
  (.cons (.own 4 (.lst .nil))
  (.cons (.for (.rng (.cons (.bin .mul (.idx (.var 1) (.cint 0)) (.idx (.var 1) (.cint 1))) .nil)) [3] (.cons (.asg 5 (.call 1 (.cons (.var 0) (.cons (.bin .add (.cint 2) (.var 3)) .nil))))
  (.cons (.app 4 (.bin .mul (.bin .mdl (.bin .fdv (.var 5) (.cint 2)) (.bin .add (.idx (.var 1) (.cint 2)) (.cint 1))) (.bin .mdl (.var 5) (.cint 2))))
  .nil)))
  (.cons (.asg 6 (.call 3 (.cons (.new 0 (.cons (.var 1) (.cons (.pri .list (.cons (.var 2) .nil)) (.cons (.pri .list (.cons (.var 4) .nil)) .nil)))) .nil)))
  (.cons (.iff (.bop false (.cons (.not (.val (.isi (.var 6) .str))) (.cons (.val (.cmp .ne (.var 6) (.call 4 (.cons (.var 1) (.cons (.var 2) (.cons (.var 4) .nil)))))) .nil))) (.cons (.ret (.cbl false))
  .nil) .nil)
  (.cons (.asg 7 (.call 5 (.cons (.var 6) .nil)))
  (.cons (.iff (.not (.val (.call 6 (.cons (.var 7) (.cons (.var 1) (.cons (.var 2) (.cons (.var 4) .nil))))))) (.cons (.ret (.cbl false))
  .nil) .nil)
  (.cons (.tapp (.mth 0 (.var 7) .nil) (.cstr [114,105,110,103,32,49]))
  (.cons (.tclr (.mth 1 (.var 7) .nil))
  (.cons (.ret (.bop true (.cons (.call 6 (.cons (.var 7) (.cons (.var 1) (.cons (.var 2) (.cons (.var 4) .nil))))) (.cons (.call 6 (.cons (.call 5 (.cons (.var 6) .nil)) (.cons (.var 1) (.cons (.var 2) (.cons (.var 4) .nil))))) .nil))))
  .nil)))))))))))
def qqj:Env:={ fn:=[("_law_floor",g__law_floor),("_law_cell_at",g__law_cell_at),("_law_rule",g__law_rule),("show_puzzle",g_show_puzzle),("_law_text",g__law_text),("read_puzzle",g_read_puzzle),("_law_told",g__law_told)],gc:=[],mn:=[],mt:=qaE [(25,0,g_Puzzle_lines),(25,1,g_Puzzle_clues)],fs:=[],fi:=qaF [],nw:=[(25,ini_Puzzle)],ck:=[],ik:=[],xk:=[] }
def g_law:List D→RE ER:=qcM qqj 1 7 qoI
end K72
namespace Cm
theorem qbI:∀ns:List Int,qaU (ns.map D.int)=some ns
 |[]=>rfl
 |n::ns=>by simp[qaU,qbI ns]
theorem qkp (n:Nat):∀ns:List Int,D.fits (ns.map D.int) n=true
 |[]=>rfl
 |m::ns=>by simp[D.fits,D.fit,qkp n ns]
theorem qju:∀ns ms:List Int,D.eqbs (ns.map D.int) (ms.map D.int)=decide (ns=ms)
 |[],[]=>by simp[D.eqbs]
 |[],_::_=>by simp[D.eqbs]
 |_::_,[]=>by simp[D.eqbs]
 |n::ns,m::ms=>by
  simp only[List.map_cons,D.eqbs,D.eqb,qju ns ms]
  by_cases h:n=m<;>simp[h]
theorem qtt (ns ms:List Int):qlO (.lst (ns.map D.int)) (.lst (ms.map D.int))=.ok (decide (ns=ms)):=by
 simp[qlO,D.fit,qkp,D.eqb,qju]
theorem qfd {α β:Type} (f:α→β):∀(l:List α) (i:Nat),(l.map f).eraseIdx i=(l.eraseIdx i).map f
 |[],_=>rfl
 |a::l,0=>rfl
 |a::l,i+1=>by simp[qfd f l i]
theorem qhZ {α:Type}:∀(l:List α) (i:Nat) (h:i<l.length),(l[i]::l.eraseIdx i).Perm l
 |[],_,h=>absurd h (Nat.not_lt_zero _)
 |a::l,0,_=>List.Perm.refl _
 |a::l,i+1,h=>(List.Perm.swap a _ _).trans ((qhZ l i (Nat.lt_of_succ_lt_succ h)).cons a)
def IC (cs:List Nat):List Int:=cs.map fun c=>((c:Nat):Int)
theorem qwg {j:Int} (h:qnr j):qsj j=true:=by rw[qbd];exact h
theorem qxb {j:Int} (h:j≠0):nzB j=true:=by rw[qbz];exact h
theorem qnD {n:Nat} (h:n≤LIM):leB n=true:=by rw[qao];exact h
theorem qvQ {i:Int} (h:-1000000≤i∧i≤1000000):qtx i=true:=by
 unfold qtx
 rw[Nat.ble_eq]
 omega
theorem qwm {n:Nat} (h:n≤1000000):qm1 (n:Int)=true:=by
 have:LIM=16777216:=rfl
 unfold qm1
 rw[Bool.and_eq_true,qao]
 exact⟨qvQ (by omega),by omega⟩
section
variable {Γ:Env} {ss a b:Sms} {ρ ρ':List Sl} {i:Nat} {e ix:Ex} {d:D} {ds:List D} {f c:Bool}
theorem qpa {n k:Nat} (h:k<n):L2.ixN n (k:Int)=some k:=by
 unfold L2.ixN
 rw[if_pos (by omega),if_pos (by omega)]
 simp
end
def qxL (r:RE ER):Bool:=match r with
 |.ok (.val (.bl true) _)=>true
 |_=>false
end Cm
namespace Cm
theorem RE.bind_assoc {α β γ:Type} (m:RE α) (f:α→RE β) (g:β→RE γ):(m.bind f).bind g=m.bind fun x=>(f x).bind g:=by cases m<;>rfl
@[simp] theorem RE.bind_pure {α:Type} (m:RE α):m.bind RE.ok=m:=by cases m<;>rfl
inductive Sh where
 |v | f | b | n | o
def ER.isF:ER→Bool
 |.fre _ _=>true
 |_=>false
def qjl:Sh→ER→Prop
 |.v,er=>er.isV=true
 |.f,er=>er.isF=true
 |.b,er=>er.isB=true
 |.n,er=>er.isB=false
 |.o,er=>er.isF=true∨(er.isV=true∧er.d=.non)
def Sh.nb:Sh→Bool
 |.b=>false
 |_=>true
def Sh.ret:Sh→Sh
 |.b=>.f
 |s=>s
structure Is (s:Sh) (t:Bool) (d:D) (er:ER):Prop where
 d:er.d=d
 s:qjl s er
 t:t=true→er.b=true
def XR {α β:Type} (r:RE β) (m:RE α) (R:α→β→Prop):Prop:=match m with
 |.bad=>True
 |.ok v=>∃x,r=.ok x∧R v x
 |.exc c fs=>r=.exc c fs
theorem XR.bind {α β γ δ:Type} {r:RE β} {m:RE α} {R:α→β→Prop} {f:β→RE γ} {g:α→RE δ} {S:δ→γ→Prop} (h:XR r m R) (k:∀v x,R v x→XR (f x) (g v) S):XR (r.bind f) (m.bind g) S:=by
 cases m with
 |bad=>trivial
 |ok v=>obtain⟨x,e,hx⟩:=h;rw[e];exact k v x hx
 |exc c fs=>have h:r=_:=h;rw[h];rfl
theorem XR.mono {α β:Type} {r:RE β} {m:RE α} {R S:α→β→Prop} (h:XR r m R) (k:∀v x,R v x→S v x):XR r m S:=by
 cases m with
 |bad=>trivial
 |ok v=>obtain⟨x,e,hx⟩:=h;exact⟨x,e,k v x hx⟩
 |exc c fs=>exact h
theorem XR.pure {α β:Type} {v:α} {x:β} {R:α→β→Prop} (h:R v x):XR (.ok x) (.ok v) R:=⟨x,rfl,h⟩
theorem XR.to {α β:Type} {r:RE β} {v:α} {R:α→β→Prop} (h:XR r (.ok v) R):∃x,r=.ok x∧R v x:=h
abbrev XE {α:Type} (Γ:Env) (e:Ex) (ρ:List Sl) (m:RE α) (en:α→D) (s:Sh) (t:Bool):Prop:=XR (ev Γ e ρ) m fun v er=>Is s t (en v) er
abbrev XT (Γ:Env) (e:Te) (ρ:List Sl) (m:RE Bool):Prop:=XR (evT Γ e ρ) m fun v x=>x=v
abbrev XI {α:Type} (Γ:Env) (e:Itx) (ρ:List Sl) (m:RE (List α)) (en:α→D) (t o:Bool):Prop:=XR (evI Γ e ρ) m fun xs w=>w.xs=xs.map en∧(t=true→w.b=true)∧(o=false→w.own=false)
abbrev Rf {α:Type} (r:RE ER) (m:RE α) (en:α→D) (s:Sh) (t:Bool):Prop:=XR r m fun v er=>Is s t (en v) er
theorem Is.val {d:D} {b t:Bool} (h:t=true→b=true):Is .v t d (.val d b):=⟨rfl,rfl,h⟩
theorem Is.fre {ds:List D} {b t:Bool} (h:t=true→b=true):Is .f t (.lst ds) (.fre ds b):=⟨rfl,rfl,h⟩
theorem xok {α:Type} {v:α} {d:D} {en:α→D} {t:Bool} (h:d=en v):XR (ok d) (.ok v) fun v er=>Is .v t (en v) er:=⟨_,rfl,h,rfl,fun _=>rfl⟩
theorem quk {α:Type} {v:α} {d:D} {b t:Bool} {en:α→D} (h:d=en v) (k:t=true→b=true):XR (RE.ok (.val d b)) (.ok v) fun v er=>Is .v t (en v) er:=⟨_,rfl,h,rfl,k⟩
theorem qn4 {α:Type} {v:α} {ds:List D} {b t:Bool} {en:α→D} (h:.lst ds=en v) (k:t=true→b=true):XR (RE.ok (.fre ds b)) (.ok v) fun v er=>Is .f t (en v) er:=⟨_,rfl,h,rfl,k⟩
theorem Is.weak {s:Sh} {t:Bool} {d:D} {er:ER} (h:Is s t d er) (hs:s.nb=true):Is .n t d er:=⟨h.d,by
 have:=h.s
 cases s<;>cases er<;>simp_all[qjl,ER.isF,Sh.nb],h.t⟩
theorem Is.low {s:Sh} {t:Bool} {d:D} {er:ER} (h:Is s t d er):Is s false d er:=⟨h.d,h.s,fun e=>nomatch e⟩
abbrev eI:Int→D:=D.int
abbrev eB:Bool→D:=D.bl
abbrev eS:List Nat→D:=D.str
def eC (c:Nat):D:=.str [c]
def eU (_:Unit):D:=.non
def eD (d:D):D:=d
def eL {α:Type} (en:α→D) (xs:List α):D:=.lst (xs.map en)
def eO {α:Type} (en:α→D):Option α→D
 |none=>.non
 |some x=>en x
def eT1 {α:Type} (a:α→D) (p:α):D:=.tup [a p]
def eT2 {α β:Type} (a:α→D) (b:β→D) (p:α × β):D:=.tup [a p.1,b p.2]
def eT3 {α β γ:Type} (a:α→D) (b:β→D) (c:γ→D) (p:α × β × γ):D:=.tup [a p.1,b p.2.1,c p.2.2]
def eT4 {α β γ δ:Type} (a:α→D) (b:β→D) (c:γ→D) (d:δ→D) (p:α × β × γ × δ):D:=.tup [a p.1,b p.2.1,c p.2.2.1,d p.2.2.2]
def eT5 {α β γ δ ε:Type} (a:α→D) (b:β→D) (c:γ→D) (d:δ→D) (e:ε→D) (p:α × β × γ × δ × ε):D:=.tup [a p.1,b p.2.1,c p.2.2.1,d p.2.2.2.1,e p.2.2.2.2]
def eT6 {α β γ δ ε ζ:Type} (a:α→D) (b:β→D) (c:γ→D) (d:δ→D) (e:ε→D) (f:ζ→D) (p:α × β × γ × δ × ε × ζ):D:=.tup [a p.1,b p.2.1,c p.2.2.1,d p.2.2.2.1,e p.2.2.2.2.1,f p.2.2.2.2.2]
def eX (c:Nat):D:=.exc c []
class Flat {α:Type} (en:α→D):Prop where
 flat:∀v,(en v).flat=true
instance:Flat eI:=⟨fun _=>rfl⟩
instance:Flat eB:=⟨fun _=>rfl⟩
instance:Flat eS:=⟨fun _=>rfl⟩
instance:Flat eC:=⟨fun _=>rfl⟩
instance:Flat eU:=⟨fun _=>rfl⟩
instance:Flat eX:=⟨fun _=>rfl⟩
instance {α:Type} {en:α→D} [Flat en]:Flat (eO en):=⟨fun v=>by cases v with
 |none=>rfl
 |some x=>exact Flat.flat (en:=en) x⟩
instance {α β:Type} {a:α→D} {b:β→D} [ha:Flat a] [hb:Flat b]:Flat (eT2 a b):=⟨fun v=>by simp[eT2,ha.flat,hb.flat]⟩
instance {α β γ:Type} {a:α→D} {b:β→D} {c:γ→D} [ha:Flat a] [hb:Flat b] [hc:Flat c]:Flat (eT3 a b c):=⟨fun v=>by simp[eT3,ha.flat,hb.flat,hc.flat]⟩
instance {α β γ δ:Type} {a:α→D} {b:β→D} {c:γ→D} {d:δ→D} [ha:Flat a] [hb:Flat b] [hc:Flat c] [hd:Flat d]:Flat (eT4 a b c d):=⟨fun v=>by simp[eT4,ha.flat,hb.flat,hc.flat,hd.flat]⟩
theorem qgV {α:Type} {en:α→D} [h:Flat en]:∀xs:List α,D.flats (xs.map en)=true
 |[]=>rfl
 |x::xs=>by simp[h.flat,qgV xs]
def qmS {α:Type} (s:Sh) (t:Bool) (en:α→D):Prop:=t=true∨(s=.v∧∀v,(en v).flat=true)∨(s=.f∧∀v ds,en v=.lst ds→D.flats ds=true)
theorem qaX {α:Type} {s:Sh} {en:α→D}:qmS s true en:=.inl rfl
def Sl.rd:Sl→Sl
 |.fxd d _=>.val d false
 |s=>s
def SlV (t:Bool) (d:D) (s:Sl):Prop:=∃f,s.rd=.val d f∧(t=true→f=true)
theorem qrE {s:Sl} {d:D} {f:Bool} (h:s.rd=.val d f):s=.val d f∨(f=false∧∃k,s=.fxd d k):=by
 cases s with
 |fxd d' k=>cases h;exact .inr ⟨rfl,k,rfl⟩
 |val _ _=>exact .inl h
 |own _ _=>cases h
 |non=>cases h
 |slf _ _=>cases h
 |dct _ _=>cases h
def SlO (t:Bool) (ds:List D) (s:Sl):Prop:=∃f,s=.own ds f∧(t=true→f=true)
theorem SlV.low {t:Bool} {d:D} {s:Sl} (h:SlV t d s):SlV false d s:=by
 obtain⟨f,e,_⟩:=h
 exact⟨f,e,fun e=>nomatch e⟩
theorem SlO.low {t:Bool} {d:List D} {s:Sl} (h:SlO t d s):SlO false d s:=by
 obtain⟨f,e,_⟩:=h
 exact⟨f,e,fun e=>nomatch e⟩
theorem SlV.flat {α:Type} {en:α→D} [h:Flat en] {v:α}:SlV true (en v) (.val (en v) (en v).flat):=⟨_,rfl,fun _=>h.flat v⟩
theorem SlV.any {d:D} {b:Bool}:SlV false d (.val d b):=⟨_,rfl,fun e=>nomatch e⟩
section
variable {Γ:Env} {ρ:List Sl} {α β γ δ ε:Type} {en:α→D} {en2:β→D} {en3:γ→D} {a b c e:Ex} {s s1 s2 s3:Sh} {t t1 t2 t3:Bool} {m:RE α} {x:α} {y:β} {z:γ}
theorem XE.weak {m:RE α} (h:XE Γ e ρ m en s t) (hs:s.nb=true):XE Γ e ρ m en .n t:=XR.mono h fun _ _ k=>k.weak hs
theorem XE.low {m:RE α} (h:XE Γ e ρ m en s t):XE Γ e ρ m en s false:=XR.mono h fun _ _ k=>k.low
theorem XE.coe {x:α} {f:α→β} (h:XE Γ e ρ (.ok x) en s t) (k:∀v,en v=en2 (f v)):XE Γ e ρ (.ok (f x)) en2 s t:=by
 obtain⟨er,q,r⟩:=h
 exact⟨er,q,by rw[←k];exact r.d,r.s,r.t⟩
theorem XE.coeG {m:RE α} {f:α→β} (h:XE Γ e ρ m en s t) (k:∀v,en v=en2 (f v)):XE Γ e ρ (m.bind fun x=>.ok (f x)) en2 s t:=by
 cases m with
 |bad=>trivial
 |ok x=>exact XE.coe h k
 |exc c fs=>exact h
theorem XE.cast {m m':RE α} (h:XE Γ e ρ m en s t) (k:m'=m):XE Γ e ρ m' en s t:=by rw[k];exact h
theorem XE.var {i:Nat} {q:Sl} (h:ρ[i]? = some q) (hs:SlV t (en x) q):XE Γ (.var i) ρ (.ok x) en .v t:=by
 obtain⟨f,e,k⟩:=hs
 rcases qrE e with rfl | ⟨rfl,j,rfl⟩
 ·exact⟨.val (en x) f,by rw[ev,h],rfl,rfl,k⟩
 ·exact⟨.val (en x) false,by rw[ev,h],rfl,rfl,k⟩
theorem XE.varO {i:Nat} {q:Sl} {xs:List α} (h:ρ[i]? = some q) (hs:SlO t (xs.map en) q):XE Γ (.var i) ρ (.ok xs) (eL en) .b t:=by
 obtain⟨f,rfl,k⟩:=hs
 exact⟨.brw (xs.map en) f,by rw[ev,h],rfl,rfl,k⟩
theorem XE.cint {i:Int}:XE Γ (.cint i) ρ (.ok i) eI .v true:=by unfold XE;rw[ev];exact xok rfl
theorem XE.cbl {i:Bool}:XE Γ (.cbl i) ρ (.ok i) eB .v true:=by unfold XE;rw[ev];exact xok rfl
theorem XE.cnon:XE Γ .cnon ρ (.ok ()) eU .v true:=by unfold XE;rw[ev];exact xok rfl
theorem XE.cstr {i:List Nat}:XE Γ (.cstr i) ρ (.ok i) eS .v true:=by unfold XE;rw[ev];exact xok rfl
theorem XE.glo {i:Nat} {nm:PySem.Str} {d:D} (h:Γ.gc[i]? = some (nm,d)) (k:d=en x):XE Γ (.glo i) ρ (.ok x) en .v true:=by unfold XE;rw[ev,h];exact quk k fun _=>rfl
theorem XE.bin {o:Bop} {m1:RE α} {m2:RE β} {f:α→β→RE γ} (ha:XE Γ a ρ m1 en s1 t1) (hb:XE Γ b ρ m2 en2 s2 t2) (h:∀x y bb,((t1&&t2)=true→bb=true)→XR (evB o (en x) (en2 y) bb) (f x y) fun v er=>Is s t (en3 v) er) :
  XE Γ (.bin o a b) ρ (m1.bind fun x=>m2.bind fun y=>f x y) en3 s t:=by
 unfold XE
 rw[ev]
 exact XR.bind ha fun x ex hx=>XR.bind hb fun y ey hy=>by
  rw[hx.d,hy.d]
  exact h x y _ fun k=>by
   rw[Bool.and_eq_true] at k
   rw[hx.t k.1,hy.t k.2];rfl
theorem XE.binP {o:Bop} {f:RE γ} (ha:XE Γ a ρ (.ok x) en s1 t1) (hb:XE Γ b ρ (.ok y) en2 s2 t2) (h:∀bb,((t1&&t2)=true→bb=true)→XR (evB o (en x) (en2 y) bb) f fun v er=>Is s t (en3 v) er) :
  XE Γ (.bin o a b) ρ f en3 s t:=by
 obtain⟨ex,e1,h1⟩:=ha
 obtain⟨ey,e2,h2⟩:=hb
 unfold XE
 rw[ev,e1,e2]
 simp only[RE.bind_ok]
 rw[h1.d,h2.d]
 exact h _ fun k=>by
  rw[Bool.and_eq_true] at k
  rw[h1.t k.1,h2.t k.2];rfl
theorem xgd {b:Bool} {r:RE ER} {m:RE α} {R:α→ER→Prop} (h:XR r m R):XR (gd b r) (gd b m) R:=by
 cases b
 ·trivial
 ·exact h
theorem qeW (x y:Int) (bb:Bool) (_:(t1&&t2)=true→bb=true):XR (evB .add (eI x) (eI y) bb) (.ok (x+y)) fun v er=>Is .v true (eI v) er:=xok rfl
theorem qkk (x y:Int) (h:qpc x y=true) (bb:Bool) (_:(t1&&t2)=true→bb=true):XR (evB .mul (eI x) (eI y) bb) (.ok (x*y)) fun v er=>Is .v true (eI v) er:=by
 show XR (gd (qpc x y) _) _ _
 rw[h];exact xok rfl
theorem qni {x y:Int} (h:Nat.ble x.natAbs 18446744073709551615=true):qpc x y=true:=by unfold qpc;rw[h];rfl
theorem qoZ {x y:Int} (h:Nat.ble y.natAbs 18446744073709551615=true):qpc x y=true:=by unfold qpc;rw[h];simp
def qjK (x y:Int):RE Int:=gd (qpc x y) (.ok (x*y))
theorem qgY (x y:Int) (bb:Bool) (_:(t1&&t2)=true→bb=true):XR (evB .mul (eI x) (eI y) bb) (qjK x y) fun v er=>Is .v true (eI v) er:=xgd (xok rfl)
def qsp (x y:Int):RE Int:=gd (qsj y) (.ok (x.fdiv y))
theorem qwc (x y:Int) (bb:Bool) (_:(t1&&t2)=true→bb=true):XR (evB .fdv (eI x) (eI y) bb) (qsp x y) fun v er=>Is .v true (eI v) er:=xgd (xok rfl)
theorem qh9 (x y:Int) (h:qsj y=true) (bb:Bool) (_:(t1&&t2)=true→bb=true):XR (evB .fdv (eI x) (eI y) bb) (.ok (x.fdiv y)) fun v er=>Is .v true (eI v) er:=by
 show XR (gd (qsj y) _) _ _
 rw[h];exact xok rfl
def qmM (x y:Int):RE Int:=gd (nzB y) (.ok (x.fmod y))
theorem qm6 (x y:Int) (bb:Bool) (_:(t1&&t2)=true→bb=true):XR (evB .mdl (eI x) (eI y) bb) (qmM x y) fun v er=>Is .v true (eI v) er:=xgd (xok rfl)
theorem qfj (x y:Int) (h:nzB y=true) (bb:Bool) (_:(t1&&t2)=true→bb=true):XR (evB .mdl (eI x) (eI y) bb) (.ok (x.fmod y)) fun v er=>Is .v true (eI v) er:=by
 show XR (gd (nzB y) _) _ _
 rw[h];exact xok rfl
def qxI (x y:Int):RE Int:=gd (qtS x y) (.ok (x ^ y.toNat))
def qwd (x y:Int):RE Int:=gd (qtS x y) (.ok (x*2 ^ y.toNat))
def qxG (x y:Int):RE Int:=gd (nnB y) (.ok (x / 2 ^ y.toNat))
def qay (x y:List Nat):RE (List Nat):=gd (leB (x.length+y.length)) (.ok (x++y))
theorem qaP (x y:List Nat) (bb:Bool) (_:(t1&&t2)=true→bb=true):XR (evB .add (eS x) (eS y) bb) (qay x y) fun v er=>Is .v true (eS v) er:=xgd (xok rfl)
def qhi (x y:List α):RE (List α):=gd (leB (x.length+y.length)) (.ok (x++y))
theorem qj0 (x y:List α) (bb:Bool) (h:(t1&&t2)=true→bb=true):XR (evB .add (eL en x) (eL en y) bb) (qhi x y) fun v er=>Is .f (t1&&t2) (eL en v) er:=by
 show XR (gd (leB ((x.map en).length+(y.map en).length)) _) (gd _ _) _
 rw[List.length_map,List.length_map]
 exact xgd (qn4 (by simp[eL]) h)
def qxF (x:List α) (k:Int):RE (List α):=gd (qvB x.length k) (.ok (List.replicate k.toNat x).flatten)
theorem XE.cmp {o:Cop} {m1:RE α} {m2:RE β} {f:α→β→RE Bool} (ha:XE Γ a ρ m1 en s1 t1) (hb:XE Γ b ρ m2 en2 s2 t2) (h:∀x y,evC o (en x) (en2 y)=f x y):XE Γ (.cmp o a b) ρ (m1.bind fun x=>m2.bind fun y=>f x y) eB .v true:=by
 unfold XE
 rw[ev]
 exact XR.bind ha fun x ex hx=>XR.bind hb fun y ey hy=>by
  rw[hx.d,hy.d,h]
  cases f x y with
  |bad=>trivial
  |ok v=>exact xok rfl
  |exc c fs=>rfl
theorem XE.cmpP {o:Cop} {f:RE Bool} (ha:XE Γ a ρ (.ok x) en s1 t1) (hb:XE Γ b ρ (.ok y) en2 s2 t2) (h:evC o (en x) (en2 y)=f):XE Γ (.cmp o a b) ρ f eB .v true:=by
 have:=XE.cmp (o:=o) ha hb (f:=fun x y=>evC o (en x) (en2 y)) (fun _ _=>rfl)
 rw[←h];exact this
theorem qvi (x y:Int):evC .eq (eI x) (eI y)=.ok (decide (x=y)):=rfl
theorem qkb (x y:Int):evC .ne (eI x) (eI y)=.ok (!decide (x=y)):=rfl
theorem qv4 (x y:Int):evC .lt (eI x) (eI y)=.ok (decide (x<y)):=rfl
theorem qf9 (x y:Int):evC .le (eI x) (eI y)=.ok (decide (x≤y)):=rfl
theorem qnS (x y:Int):evC .gt (eI x) (eI y)=.ok (decide (y<x)):=rfl
theorem qvp (x y:Int):evC .ge (eI x) (eI y)=.ok (decide (y≤x)):=rfl
theorem qlF (x y:List Nat):evC .eq (eS x) (eS y)=.ok (decide (x=y)):=rfl
theorem qvd (x y:List Nat):evC .ne (eS x) (eS y)=.ok (!decide (x=y)):=rfl
theorem qri (x y:List Int):evC .eq (eL eI x) (eL eI y)=.ok (decide (x=y)):=qtt x y
theorem eq_nil {xs:List α}:D.eqb (.lst (xs.map en)) (.lst [])=xs.isEmpty:=by cases xs<;>rfl
def qxD (d:D) {α:Type} (r:RE α):RE α:=gd (d.fit 64) r
theorem qns (x:Nat) (y:List Nat):evC .nin (eC x) (eS y)=.ok (!decide (x∈y)):=rfl
theorem quV (x:Nat) (y:List Nat):evC .eq (eC x) (eS y)=.ok (decide ([x]=y)):=rfl
theorem XE.chn {o p:Cop} {m1:RE α} {m2:RE β} {m3:RE γ} {f:α→β→Bool} {g:β→γ→Bool} (ha:XE Γ a ρ m1 en s1 t1) (hb:XE Γ b ρ m2 en2 s2 t2) (hc:XE Γ c ρ m3 en3 s3 t3) (h:∀x y,evC o (en x) (en2 y)=.ok (f x y)) (k:∀x y,evC p (en2 x) (en3 y)=.ok (g x y)) :
  XE Γ (.chn o p a b c) ρ (m1.bind fun x=>m2.bind fun y=>if f x y=true then m3.bind fun z=>.ok (g y z) else .ok false) eB .v true:=by
 unfold XE
 rw[ev]
 refine XR.bind ha fun x ex hx=>XR.bind hb fun y ey hy=>?_
 ·rw[hx.d,hy.d,h]
  simp only[RE.bind_ok]
  cases f x y with
  |false=>exact xok rfl
  |true=>exact XR.bind hc fun z ez hz=>(by rw[hz.d,k];exact xok rfl)
theorem XE.chnP {o p:Cop} {f g:Bool} (ha:XE Γ a ρ (.ok x) en s1 t1) (hb:XE Γ b ρ (.ok y) en2 s2 t2) (hc:XE Γ c ρ (.ok z) en3 s3 t3) (h:evC o (en x) (en2 y)=.ok f) (k:evC p (en2 y) (en3 z)=.ok g) :
  XE Γ (.chn o p a b c) ρ (.ok (f&&g)) eB .v true:=by
 obtain⟨ex,e1,h1⟩:=ha
 obtain⟨ey,e2,h2⟩:=hb
 obtain⟨ez,e3,h3⟩:=hc
 unfold XE
 rw[ev,e1,e2]
 simp only[RE.bind_ok]
 rw[h1.d,h2.d,h]
 simp only[RE.bind_ok]
 cases f with
 |false=>exact xok rfl
 |true =>
  simp only[if_true,e3,RE.bind_ok]
  rw[h3.d,k]
  exact xok rfl
theorem XE.isN {x:Option α} (h:XE Γ a ρ (.ok x) (eO en) s1 t1) (k:∀v,(en v).isNon=false):XE Γ (.isN a) ρ (.ok x.isNone) eB .v true:=by
 obtain⟨ex,e1,h1⟩:=h
 unfold XE
 rw[ev,e1]
 simp only[RE.bind_ok]
 rw[h1.d]
 refine xok ?_
 cases x with
 |none=>rfl
 |some v=>show D.bl (en v).isNon=_;rw[k];rfl
theorem XE.notN {x:Option α} (h:XE Γ a ρ (.ok x) (eO en) s1 t1) (k:∀v,(en v).isNon=false):XE Γ (.notN a) ρ (.ok x.isSome) eB .v true:=by
 obtain⟨ex,e1,h1⟩:=h
 unfold XE
 rw[ev,e1]
 simp only[RE.bind_ok]
 rw[h1.d]
 refine xok ?_
 cases x with
 |none=>rfl
 |some v=>show D.bl (!(en v).isNon)=_;rw[k];rfl
def unO:Option α→RE α
 |none=>.bad
 |some x=>.ok x
theorem XE.unO {x:Option α} (h:XE Γ e ρ (.ok x) (eO en) s t):XE Γ e ρ (unO x) en s t:=by
 cases x with
 |none=>trivial
 |some v=>exact h
abbrev XV (Γ:Env) (c:Bool) (es:Exs) (ρ:List Sl) (m:RE Bool):Prop:=XR (qov Γ c es ρ) m fun v er=>Is .v true (eB v) er
abbrev XTs (Γ:Env) (c:Bool) (es:Tes) (ρ:List Sl) (m:RE Bool):Prop:=XR (qi4 Γ c es ρ) m fun v x=>x=v
theorem XV.one {es:Ex} {c:Bool} {m:RE Bool} (h:XE Γ es ρ m eB s t):XV Γ c (.cons es .nil) ρ m:=by
 unfold XV
 rw[qov]
 have:m=m.bind fun k=>.ok k:=by cases m<;>rfl
 rw[this]
 exact XR.bind h fun v er k=>by
  rw[k.d]
  simp only[qov]
  split
  ·subst_vars;exact xok rfl
  ·exact xok rfl
theorem XV.and {e:Ex} {es:Exs} {m1 m2:RE Bool} (h:XE Γ e ρ m1 eB s t) (k:XV Γ true es ρ m2):XV Γ true (.cons e es) ρ (m1.bind fun x=>if x=true then m2 else .ok false):=by
 unfold XV
 rw[qov]
 exact XR.bind h fun v er q=>by
  rw[q.d]
  cases v with
  |true=>exact k
  |false=>exact xok rfl
theorem XV.or {e:Ex} {es:Exs} {m1 m2:RE Bool} (h:XE Γ e ρ m1 eB s t) (k:XV Γ false es ρ m2):XV Γ false (.cons e es) ρ (m1.bind fun x=>if x=true then .ok true else m2):=by
 unfold XV
 rw[qov]
 exact XR.bind h fun v er q=>by
  rw[q.d]
  cases v with
  |true=>exact xok rfl
  |false=>exact k
theorem XE.bop {c:Bool} {es:Exs} {m:RE Bool} (h:XV Γ c es ρ m):XE Γ (.bop c es) ρ m eB .v true:=by unfold XE;rw[ev];exact h
class Tru {α:Type} (en:α→D) (f:outParam (α→Bool)):Prop where
 tru:∀v,qjn (en v)=.ok (f v)
instance:Tru eB id:=⟨fun _=>rfl⟩
instance:Tru eI (fun i=>i != 0):=⟨fun _=>rfl⟩
instance {α:Type} {en:α→D}:Tru (eL en) (fun xs=>!xs.isEmpty):=⟨fun v=>by cases v<;>rfl⟩
theorem XE.bnot {m:RE Bool} (h:XE Γ a ρ m eB s t):XE Γ (.bnot a) ρ (m.bind fun x=>.ok (!x)) eB .v true:=by
 unfold XE;rw[ev]
 exact XR.bind h fun v er k=>by rw[k.d];exact xok rfl
theorem XE.neg {m:RE Int} (h:XE Γ a ρ m eI s t):XE Γ (.neg a) ρ (m.bind fun x=>.ok (-x)) eI .v true:=by
 unfold XE;rw[ev]
 exact XR.bind h fun v er k=>by rw[k.d];exact xok rfl
theorem XE.ife {ct:Te} {mt:RE Bool} {m1 m2:RE α} (h:XT Γ ct ρ mt) (ha:XE Γ a ρ m1 en s t) (hb:XE Γ b ρ m2 en s t):XE Γ (.ife ct a b) ρ (mt.bind fun k=>if k=true then m1 else m2) en s t:=by
 unfold XE;rw[ev]
 exact XR.bind h fun v er k=>by
  subst k
  cases er
  ·exact hb
  ·exact ha
theorem XT.val {m:RE Bool} (h:XE Γ a ρ m eB s t):XT Γ (.val a) ρ m:=by
 unfold XT;rw[evT]
 have:m=m.bind fun k=>.ok k:=by cases m<;>rfl
 rw[this]
 exact XR.bind h fun v er k=>by rw[k.d];exact⟨_,rfl,rfl⟩
theorem XT.not {q:Te} {m:RE Bool} (h:XT Γ q ρ m):XT Γ (.not q) ρ (m.bind fun x=>.ok (!x)):=by
 unfold XT;rw[evT]
 exact XR.bind h fun v er k=>by subst k;exact⟨_,rfl,rfl⟩
theorem XT.notP {q:Te} {x:Bool} (h:XT Γ q ρ (.ok x)):XT Γ (.not q) ρ (.ok (!x)):=XT.not h
theorem XTs.one {q:Te} {c:Bool} {m:RE Bool} (h:XT Γ q ρ m):XTs Γ c (.cons q .nil) ρ m:=by
 unfold XTs;rw[qi4]
 have:m=m.bind fun k=>.ok k:=by cases m<;>rfl
 rw[this]
 exact XR.bind h fun v er k=>by
  subst k
  simp only[qi4]
  split
  ·subst_vars;exact⟨_,rfl,rfl⟩
  ·exact⟨_,rfl,rfl⟩
theorem XTs.and {q:Te} {es:Tes} {m1 m2:RE Bool} (h:XT Γ q ρ m1) (k:XTs Γ true es ρ m2):XTs Γ true (.cons q es) ρ (m1.bind fun x=>if x=true then m2 else .ok false):=by
 unfold XTs;rw[qi4]
 exact XR.bind h fun v er q=>by
  subst q
  cases er
  ·exact⟨_,rfl,rfl⟩
  ·exact k
theorem XTs.or {q:Te} {es:Tes} {m1 m2:RE Bool} (h:XT Γ q ρ m1) (k:XTs Γ false es ρ m2):XTs Γ false (.cons q es) ρ (m1.bind fun x=>if x=true then .ok true else m2):=by
 unfold XTs;rw[qi4]
 exact XR.bind h fun v er q=>by
  subst q
  cases er
  ·exact k
  ·exact⟨_,rfl,rfl⟩
theorem XT.bop {c:Bool} {es:Tes} {m:RE Bool} (h:XTs Γ c es ρ m):XT Γ (.bop c es) ρ m:=by unfold XT;rw[evT];exact h
def atE (xs:List α) (k:Int):RE α:=match L2.atI xs k with
 |some x=>.ok x
 |none=>.bad
theorem qnK (f:α→β) (xs:List α) (k:Int):L2.atI (xs.map f) k=(L2.atI xs k).map f:=by
 unfold L2.atI
 rw[List.length_map]
 cases L2.ixN xs.length k<;>simp
theorem XE.idx {m1:RE (List α)} {m2:RE Int} (ha:XE Γ a ρ m1 (eL en) s1 t) (hb:XE Γ b ρ m2 eI s2 t2):XE Γ (.idx a b) ρ (m1.bind fun xs=>m2.bind fun k=>atE xs k) en .v t:=by
 unfold XE;rw[ev]
 exact XR.bind ha fun xs ex hx=>XR.bind hb fun k ek hk=>by
  rw[hx.d,hk.d]
  show XR (match L2.atI (xs.map en) k with
   |some x=>RE.ok (ER.val x (ex.b||x.flat))
   |none=>.bad) _ _
  rw[qnK]
  unfold atE
  cases L2.atI xs k with
  |none=>trivial
  |some x=>exact⟨_,rfl,rfl,rfl,fun z=>by show(_||_)=true;rw[hx.t z];rfl⟩
theorem XE.flat [h:Flat en] {m:RE α} (k:XE Γ e ρ m en .v t) (q:∀x b,ev Γ e ρ=.ok (.val (en x) b)→b=true):XE Γ e ρ m en .v true:=by
 cases m with
 |bad=>trivial
 |ok x =>
  obtain⟨er,e1,e2⟩:=k
  refine⟨er,e1,e2.d,e2.s,fun _=>?_⟩
  cases er with
  |val d b =>
   have:=e2.d
   simp only[ER.d_val] at this
   subst this
   exact q _ _ e1
  |fre ds b=>exact nomatch e2.s
  |brw ds b=>exact nomatch e2.s
 |exc c fs=>exact k
theorem XE.idxF [h:Flat en] {m1:RE (List α)} {m2:RE Int} (ha:XE Γ a ρ m1 (eL en) s1 t) (hb:XE Γ b ρ m2 eI s2 t2):XE Γ (.idx a b) ρ (m1.bind fun xs=>m2.bind fun k=>atE xs k) en .v true:=by
 unfold XE;rw[ev]
 exact XR.bind ha fun xs ex hx=>XR.bind hb fun k ek hk=>by
  rw[hx.d,hk.d]
  show XR (match L2.atI (xs.map en) k with
   |some x=>RE.ok (ER.val x (ex.b||x.flat))
   |none=>.bad) _ _
  rw[qnK]
  unfold atE
  cases L2.atI xs k with
  |none=>trivial
  |some x=>exact⟨_,rfl,rfl,rfl,fun z=>by show(_||(en x).flat)=true;rw[h.flat x];simp⟩
theorem XE.idxFP [h:Flat en] {xs:List α} {k:Int} (ha:XE Γ a ρ (.ok xs) (eL en) s1 t) (hb:XE Γ b ρ (.ok k) eI s2 t2):XE Γ (.idx a b) ρ (atE xs k) en .v true:=XE.idxF ha hb
def qpx (xs:List Nat) (k:Int):RE Nat:=gd (leB xs.length) (atE xs k)
theorem XE.idxS {m1:RE (List Nat)} {m2:RE Int} (ha:XE Γ a ρ m1 eS s1 t) (hb:XE Γ b ρ m2 eI s2 t2):XE Γ (.idx a b) ρ (m1.bind fun xs=>m2.bind fun k=>qpx xs k) eC .v true:=by
 unfold XE;rw[ev]
 exact XR.bind ha fun xs ex hx=>XR.bind hb fun k ek hk=>by
  rw[hx.d,hk.d]
  refine xgd ?_
  unfold atE
  cases L2.atI xs k with
  |none=>trivial
  |some x=>exact⟨_,rfl,rfl,rfl,fun _=>rfl⟩
theorem XE.idxSP {xs:List Nat} {k:Int} (ha:XE Γ a ρ (.ok xs) eS s1 t) (hb:XE Γ b ρ (.ok k) eI s2 t2):XE Γ (.idx a b) ρ (qpx xs k) eC .v true:=XE.idxS ha hb
theorem XE.prt {k:Int} {f:α→β} {m1:RE α} (ha:XE Γ a ρ m1 en s1 t) (h:∀v b,qtG (en v) (.int k) b=.ok (.val (en2 (f v)) (b||(en2 (f v)).flat))) (ht:t2=true→t=true∨Flat en2):XE Γ (.idx a (.cint k)) ρ (m1.bind fun x=>.ok (f x)) en2 .v t2:=by
 unfold XE;rw[ev]
 exact XR.bind ha fun x ex hx=>by
  rw[hx.d,ev]
  simp only[RE.bind_ok,ok,ER.d_val]
  rw[h]
  refine quk rfl fun z=>?_
  rcases ht z with q | q
  ·rw[hx.t q];rfl
  ·rw[q.flat];simp
theorem XE.prtP {k:Int} {f:α→β} (ha:XE Γ a ρ (.ok x) en s1 t) (h:∀v b,qtG (en v) (.int k) b=.ok (.val (en2 (f v)) (b||(en2 (f v)).flat))) (ht:t2=true→t=true∨Flat en2):XE Γ (.idx a (.cint k)) ρ (.ok (f x)) en2 .v t2:=XE.prt ha h ht
theorem ht0 {P:Prop}:false=true→P:=fun h=>nomatch h
theorem qqa (f:α→β) (xs:List α) (lo hi:Option Int):qe5 (xs.map f) lo hi=(qe5 xs lo hi).map f:=by
 unfold qe5
 rw[List.length_map,List.map_take,List.map_drop]
abbrev XO (Γ:Env) (es:Exs) (ρ:List Sl) (m:RE (Option Int)):Prop:=XR (evO Γ es ρ) m fun v x=>x=v
theorem XO.nil:XO Γ .nil ρ (.ok none):=by unfold XO;rw[evO];exact⟨_,rfl,rfl⟩
theorem XO.one {m:RE Int} (h:XE Γ a ρ m eI s t):XO Γ (.cons a .nil) ρ (m.bind fun k=>.ok (some k)):=by
 unfold XO;rw[evO]
 exact XR.bind h fun v er k=>by rw[k.d];exact⟨_,rfl,rfl⟩
theorem XO.oneP {k:Int} (h:XE Γ a ρ (.ok k) eI s t):XO Γ (.cons a .nil) ρ (.ok (some k)):=XO.one h
theorem XE.slc {m1:RE (List α)} {lo hi:Exs} {m2 m3:RE (Option Int)} (ha:XE Γ a ρ m1 (eL en) s1 t) (hb:XO Γ lo ρ m2) (hc:XO Γ hi ρ m3):XE Γ (.slc a lo hi) ρ (m1.bind fun xs=>m2.bind fun l=>m3.bind fun h=>.ok (qe5 xs l h)) (eL en) .f t:=by
 unfold XE;rw[ev]
 exact XR.bind ha fun xs ex hx=>XR.bind hb fun l el hl=>XR.bind hc fun h eh hh=>by
  subst hl;subst hh
  rw[hx.d]
  exact qn4 (by rw[qqa];rfl) hx.t
theorem XE.slcP {xs:List α} {lo hi:Exs} {l h:Option Int} (ha:XE Γ a ρ (.ok xs) (eL en) s1 t) (hb:XO Γ lo ρ (.ok l)) (hc:XO Γ hi ρ (.ok h)):XE Γ (.slc a lo hi) ρ (.ok (qe5 xs l h)) (eL en) .f t:=XE.slc ha hb hc
def qmQ (xs:List Nat) (l h:Option Int):RE (List Nat):=gd (leB xs.length) (.ok (qe5 xs l h))
theorem XE.slcS {m1:RE (List Nat)} {lo hi:Exs} {m2 m3:RE (Option Int)} (ha:XE Γ a ρ m1 eS s1 t) (hb:XO Γ lo ρ m2) (hc:XO Γ hi ρ m3):XE Γ (.slc a lo hi) ρ (m1.bind fun xs=>m2.bind fun l=>m3.bind fun h=>qmQ xs l h) eS .v true:=by
 unfold XE;rw[ev]
 exact XR.bind ha fun xs ex hx=>XR.bind hb fun l el hl=>XR.bind hc fun h eh hh=>by
  subst hl;subst hh
  rw[hx.d]
  exact xgd (xok rfl)
theorem XE.slcSP {xs:List Nat} {lo hi:Exs} {l h:Option Int} (ha:XE Γ a ρ (.ok xs) eS s1 t) (hb:XO Γ lo ρ (.ok l)) (hc:XO Γ hi ρ (.ok h)):XE Γ (.slc a lo hi) ρ (qmQ xs l h) eS .v true:=XE.slcS ha hb hc
theorem XE.rev {m1:RE (List α)} (ha:XE Γ a ρ m1 (eL en) s1 t):XE Γ (.rev a) ρ (m1.bind fun xs=>.ok xs.reverse) (eL en) .f t:=by
 unfold XE;rw[ev]
 exact XR.bind ha fun xs ex hx=>by
  rw[hx.d]
  exact qn4 (by simp[eL]) hx.t
theorem XE.blen {m1:RE Int} (ha:XE Γ a ρ m1 eI s1 t):XE Γ (.blen a) ρ (m1.bind fun x=>.ok (PySem.Builtin.Int.intBits x:Int)) eI .v true:=by
 unfold XE;rw[ev]
 exact XR.bind ha fun xs ex hx=>by rw[hx.d];exact xok rfl
theorem XE.isi {ty:Ty} {f:α→Bool} {m1:RE α} (ha:XE Γ a ρ m1 en s1 t) (h:∀v,qtW (en v) ty=ok (.bl (f v))):XE Γ (.isi a ty) ρ (m1.bind fun x=>.ok (f x)) eB .v true:=by
 unfold XE;rw[ev]
 exact XR.bind ha fun xs ex hx=>by rw[hx.d,h];exact xok rfl
theorem XE.isiP {ty:Ty} {f:α→Bool} (ha:XE Γ a ρ (.ok x) en s1 t) (h:∀v,qtW (en v) ty=ok (.bl (f v))):XE Γ (.isi a ty) ρ (.ok (f x)) eB .v true:=XE.isi ha h
def tyE (d:D) (ty:Ty):RE Bool:=(qtW d ty).bind fun x=>match x.d with
 |.bl b=>.ok b
 |_=>.bad
theorem XE.isiD {ty:Ty} (ha:XE Γ a ρ (.ok x) en s1 t):XE Γ (.isi a ty) ρ (tyE (en x) ty) eB .v true:=by
 obtain⟨er,e1,e2⟩:=ha
 unfold XE;rw[ev,e1]
 simp only[RE.bind_ok]
 rw[e2.d,tyE]
 cases en x<;>cases ty<;>first | trivial | exact xok rfl
theorem qtR (Γ:Env) (ρ:List Sl) (a:Ex):evs Γ (.cons a .nil) ρ=(ev Γ a ρ).bind fun x=>.ok [x.frz]:=by
 rw[evs,evs];rfl
theorem qfT (x:ER):x.frz.d=x.d:=by cases x<;>rfl
theorem qnb (x:ER):x.frz.b=x.b:=by cases x<;>rfl
theorem XE.pri1 {p:Pri} {m1:RE α} {f:α→RE β} (ha:XE Γ a ρ m1 en s1 t1) (h:∀x e,e.d=en x→(t1=true→e.b=true)→XR (evP p [e]) (f x) fun v er=>Is s t (en2 v) er):XE Γ (.pri p (.cons a .nil)) ρ (m1.bind f) en2 s t:=by
 unfold XE;rw[ev,qtR,RE.bind_assoc]
 exact XR.bind ha fun x ex hx=>h x _ (by rw[qfT,hx.d]) fun z=>by rw[qnb];exact hx.t z
theorem XE.pri1P {p:Pri} {f:RE β} (ha:XE Γ a ρ (.ok x) en s1 t1) (h:∀e,e.d=en x→(t1=true→e.b=true)→XR (evP p [e]) f fun v er=>Is s t (en2 v) er):XE Γ (.pri p (.cons a .nil)) ρ f en2 s t:=by
 obtain⟨er,e1,e2⟩:=ha
 unfold XE;rw[ev,qtR,e1]
 simp only[RE.bind_ok]
 exact h _ (by rw[qfT,e2.d]) fun z=>by rw[qnb];exact e2.t z
theorem XE.pri2 {p:Pri} {m1:RE α} {m2:RE β} {f:α→β→RE γ} (ha:XE Γ a ρ m1 en s1 t1) (hb:XE Γ b ρ m2 en2 s2 t2) (h:∀x y e e',e.d=en x→e'.d=en2 y→XR (evP p [e,e']) (f x y) fun v er=>Is s t (en3 v) er):XE Γ (.pri p (.cons a (.cons b .nil))) ρ (m1.bind fun x=>m2.bind fun y=>f x y) en3 s t:=by
 unfold XE;rw[ev,evs,qtR,RE.bind_assoc]
 exact XR.bind ha fun x ex hx=>by
  rw[RE.bind_assoc,RE.bind_assoc]
  exact XR.bind hb fun y ey hy=>h x y _ _ (by rw[qfT,hx.d]) (by rw[qfT,hy.d])
theorem qf8 (x:List α) (e:ER) (h:e.d=eL en x) (_:t=true→e.b=true):XR (evP .len [e]) (.ok (x.length:Int)) fun v er=>Is .v true (eI v) er:=by
 simp only[evP,h,eL,List.length_map];exact xok rfl
def qjX (x:List Nat):RE Int:=gd (leB x.length) (.ok (x.length:Int))
theorem qh7 (x:List Nat) (e:ER) (h:e.d=eS x) (_:t=true→e.b=true):XR (evP .len [e]) (qjX x) fun v er=>Is .v true (eI v) er:=by
 simp only[evP,h];exact xgd (xok rfl)
theorem qt4 (x y:Int) (e e':ER) (h:e.d=eI x) (h':e'.d=eI y):XR (evP .min2 [e,e']) (.ok (if y<x then y else x)) fun v er=>Is .v true (eI v) er:=by
 simp only[evP,h,h'];exact xok rfl
def qxC (x y:Int):RE (Int × Int):=gd (dmB y) (.ok (x / y,x % y))
def qxr (x:List Int):RE Int:=match x with
 |[]=>.bad
 |n::ns=>.ok (qmR (n::ns))
def qtO (x:List Int):RE Int:=match x with
 |[]=>.bad
 |n::ns=>.ok (qkE (n::ns))
theorem qvm (x:List Int) (e:ER) (h:e.d=eL eI x) (_:t=true→e.b=true):XR (evP .max1 [e]) (qtO x) fun v er=>Is .v true (eI v) er:=by
 simp only[evP,h,eL,qbI]
 cases x with
 |nil=>trivial
 |cons n ns=>exact xok rfl
theorem qh8:∀bs:List Bool,qfY (bs.map D.bl)=some bs
 |[]=>rfl
 |b::bs=>by simp[qfY,qh8 bs]
theorem qh0:∀bs:List (List Nat),qfm (bs.map D.str)=some bs
 |[]=>rfl
 |b::bs=>by simp[qfm,qh0 bs]
theorem qwo (x:List Bool) (e:ER) (h:e.d=eL eB x) (_:t=true→e.b=true):XR (evP .all [e]) (.ok (x.all id)) fun v er=>Is .v true (eB v) er:=by
 simp only[evP,h,eL,qh8];exact xok rfl
theorem qbP [hf:Flat en] (x:List α) (e:ER) (h:e.d=eL en x) (k:t=true→e.b=true):XR (evP .list [e]) (.ok x) fun v er=>Is .f true (eL en v) er:=by
 simp only[evP,h,eL];exact qn4 rfl fun _=>by rw[qgV];simp
def qm3 (s:List Nat):RE Int:=match PySem.intText? (qaA s) with
 |some n=>gd (Nat.ble s.length 640) (.ok n)
 |none=>.bad
theorem qro (x:List Nat) (e:ER) (h:e.d=eS x) (_:t=true→e.b=true):XR (evP .int [e]) (qm3 x) fun v er=>Is .v true (eI v) er:=by
 simp only[evP,h,qm3]
 cases PySem.intText? (qaA x) with
 |none=>trivial
 |some n=>exact xgd (xok rfl)
def qm9 (i:Int):RE (List Nat):=gd (quN i) (.ok (toString i:PySem.Str).cps.toList)
theorem qkj (x:Int) (e:ER) (h:e.d=eI x) (_:t=true→e.b=true):XR (evP .str [e]) (qm9 x) fun v er=>Is .v true (eS v) er:=by
 simp only[evP,h];exact xgd (xok rfl)
def qbs (n:Int):RE (List Int):=gd (qm1 n) (.ok (qfI 0 1 n.toNat))
def qqm (i j:Int):RE (List Int):=gd (qvz i j) (.ok (qfI i 1 (j - i).toNat))
def qvZ (i j c:Int):RE (List Int):=gd (qvH i j c) (.ok (qfI i c (qtY i j c)))
abbrev XRg (Γ:Env) (es:Exs) (ρ:List Sl) (m:RE (List Int)):Prop:=XR ((evs Γ es ρ).bind qeu) m fun v x=>x=v
theorem qvM {α:Type} {b:Bool} {x:α}:XR (gd b (.ok x)) (gd b (.ok x)) fun v y=>y=v:=by
 cases b
 ·trivial
 ·exact⟨_,rfl,rfl⟩
theorem XRg.r1 {m1:RE Int} (ha:XE Γ a ρ m1 eI s1 t1):XRg Γ (.cons a .nil) ρ (m1.bind qbs):=by
 unfold XRg;rw[qtR,RE.bind_assoc]
 exact XR.bind ha fun x ex hx=>by
  simp only[RE.bind_ok,qeu,qfT,hx.d];exact qvM
theorem XRg.r2 {m1 m2:RE Int} (ha:XE Γ a ρ m1 eI s1 t1) (hb:XE Γ b ρ m2 eI s2 t2):XRg Γ (.cons a (.cons b .nil)) ρ (m1.bind fun x=>m2.bind fun y=>qqm x y):=by
 unfold XRg;rw[evs,qtR,RE.bind_assoc]
 exact XR.bind ha fun x ex hx=>by
  rw[RE.bind_assoc,RE.bind_assoc]
  exact XR.bind hb fun y ey hy=>by
   simp only[RE.bind_ok,qeu,qfT,hx.d,hy.d];exact qvM
theorem XRg.r3 {m1 m2 m3:RE Int} (ha:XE Γ a ρ m1 eI s1 t1) (hb:XE Γ b ρ m2 eI s2 t2) (hc:XE Γ c ρ m3 eI s3 t3):XRg Γ (.cons a (.cons b (.cons c .nil))) ρ (m1.bind fun x=>m2.bind fun y=>m3.bind fun z=>qvZ x y z):=by
 unfold XRg;rw[evs,evs,qtR,RE.bind_assoc]
 exact XR.bind ha fun x ex hx=>by
  simp only[RE.bind_assoc]
  exact XR.bind hb fun y ey hy=>XR.bind hc fun z ez hz=>by
   simp only[RE.bind_ok,qeu,qfT,hx.d,hy.d,hz.d];exact qvM
theorem XRg.r1P {x:Int} (ha:XE Γ a ρ (.ok x) eI s1 t1):XRg Γ (.cons a .nil) ρ (qbs x):=XRg.r1 ha
theorem XE.lrng {es:Exs} {m1:RE (List Int)} (h:XRg Γ es ρ m1):XE Γ (.lrng es) ρ m1 (eL eI) .f true:=by
 unfold XE;rw[ev]
 have e:m1=m1.bind fun k=>.ok k:=by cases m1<;>rfl
 rw[e,←RE.bind_assoc]
 exact XR.bind h fun v x k=>by subst k;exact qn4 rfl fun _=>rfl
theorem XI.list {m1:RE (List α)} (h:XE Γ a ρ m1 (eL en) s t) (hs:s.nb=true):XI Γ (.any a) ρ m1 en t false:=by
 unfold XI;rw[evI]
 have e:m1=m1.bind fun k=>.ok k:=by cases m1<;>rfl
 rw[e]
 exact XR.bind h fun v er k=>by
  simp only[qjx,k.d,eL]
  refine⟨_,rfl,rfl,k.t,fun _=>?_⟩
  have:=k.s
  cases s<;>cases er<;>simp_all[qjl,ER.isF,Sh.nb]
theorem XI.str {m1:RE (List Nat)} (h:XE Γ a ρ m1 eS s t):XI Γ (.any a) ρ m1 eC true false:=by
 unfold XI;rw[evI]
 have e:m1=m1.bind fun k=>.ok k:=by cases m1<;>rfl
 rw[e]
 exact XR.bind h fun v er k=>by
  simp only[qjx,k.d]
  exact⟨_,rfl,rfl,fun _=>rfl,fun _=>rfl⟩
theorem XI.tup {m1:RE α} {f:α→List β} (h:XE Γ a ρ m1 en s t) (k:∀v,en v=.tup ((f v).map en2)):XI Γ (.any a) ρ (m1.bind fun x=>.ok (f x)) en2 t false:=by
 unfold XI;rw[evI]
 exact XR.bind h fun v er q=>by
  simp only[qjx,q.d,k]
  exact⟨_,rfl,rfl,q.t,fun _=>rfl⟩
theorem XI.rng {es:Exs} {m1:RE (List Int)} (h:XRg Γ es ρ m1):XI Γ (.rng es) ρ m1 eI true false:=by
 unfold XI;rw[evI]
 have e:m1=m1.bind fun k=>.ok k:=by cases m1<;>rfl
 rw[e,←RE.bind_assoc]
 exact XR.bind h fun v x k=>by subst k;exact⟨_,rfl,rfl,fun _=>rfl,fun _=>rfl⟩
theorem zip_map' (f:α→D) (g:β→D):∀(xs:List α) (ys:List β),List.zipWith (fun u v=>D.tup [u,v]) (xs.map f) (ys.map g)=(xs.zip ys).map (eT2 f g)
 |[],_=>rfl
 |_::_,[]=>rfl
 |x::xs,y::ys=>by simp[zip_map' f g xs ys,eT2]
theorem XI.zp {m1:RE (List α)} {m2:RE (List β)} (ha:XE Γ a ρ m1 (eL en) s1 t1) (hb:XE Γ b ρ m2 (eL en2) s2 t2):XI Γ (.zp a b) ρ (m1.bind fun xs=>m2.bind fun ys=>.ok (xs.zip ys)) (eT2 en en2) (t1&&t2) (!(s1.nb&&s2.nb)):=by
 unfold XI;rw[evI]
 exact XR.bind ha fun x ex hx=>XR.bind hb fun y ey hy=>by
  simp only[hx.d,hy.d,eL]
  refine⟨_,rfl,zip_map' _ _ _ _,fun z=>?_,fun z=>?_⟩
  ·rw[Bool.and_eq_true] at z
   show(_&&_)=true
   rw[hx.t z.1,hy.t z.2];rfl
  ·have h1:=hx.s
   have h2:=hy.s
   show(_||_)=false
   cases s1<;>cases s2<;>cases ex<;>cases ey<;>simp_all[qjl,ER.isF,Sh.nb]
def qwx (xs:List α):List (Int × α):=xs.zipIdx.map fun p=>((p.2:Int),p.1)
theorem XI.rv {m1:RE (List α)} (ha:XE Γ a ρ m1 (eL en) s1 t1):XI Γ (.rv a) ρ (m1.bind fun xs=>.ok xs.reverse) en t1 (!s1.nb):=by
 unfold XI;rw[evI]
 exact XR.bind ha fun x ex hx=>by
  simp only[hx.d,eL]
  refine⟨_,rfl,by simp,hx.t,fun z=>?_⟩
  have h1:=hx.s
  show ex.isB=false
  cases s1<;>cases ex<;>simp_all[qjl,ER.isF,Sh.nb]
def lcE (c:α→RE Bool) (f:α→RE β):List α→RE (List β)
 |[]=>.ok []
 |x::xs=>(noX (c x)).bind fun k=>if k=true then (noX (f x)).bind fun y=>(lcE c f xs).bind fun ys=>.ok (y::ys) else lcE c f xs
def qvr (f:α→RE β):List α→RE (List β)
 |[]=>.ok []
 |x::xs=>(noX (f x)).bind fun y=>(qvr f xs).bind fun ys=>.ok (y::ys)
theorem qnI (f:α→RE β):∀xs,lcE (fun _=>.ok true) f xs=qvr f xs
 |[]=>rfl
 |x::xs=>by
  rw[lcE,qvr,qnI f xs]
  rfl
theorem qn7 (f:α→β):∀xs:List α,qvr (fun x=>.ok (f x)) xs=.ok (xs.map f)
 |[]=>rfl
 |x::xs=>by rw[qvr,qn7 f xs];rfl
theorem qq7 {cc:α→RE Bool} {ff:α→RE β} {F:D→RE (Option (D × Bool))} {t:Bool}:∀{xs:List α},(∀x∈xs,XR (F (en x)) ((noX (cc x)).bind fun k=>if k=true then (noX (ff x)).bind fun y=>.ok (some y) else .ok none) fun v r=>match v with
  |none=>r=none
  |some y=>∃f,r=some (en2 y,f)∧(t=true→f=true))→XR (lcl F (xs.map en)) (lcE cc ff xs) fun ys r=>r.1=ys.map en2∧(t=true→r.2=true)
 |[],_=>⟨_,rfl,rfl,fun _=>rfl⟩
 |x::xs,h=>by
  have ih:=qq7 (F:=F) (xs:=xs) fun y hy=>h y (List.mem_cons_of_mem _ hy)
  have h0:=h x (by simp)
  simp only[List.map_cons,lcl,lcE]
  cases hc:noX (cc x) with
  |bad=>trivial
  |exc c fs=>cases e:cc x<;>rw[e] at hc<;>cases hc
  |ok k =>
   rw[hc] at h0
   simp only[RE.bind_ok] at h0 ⊢
   cases k with
   |false =>
    simp only[Bool.false_eq_true,if_false] at h0 ⊢
    obtain⟨r,e1,e2⟩:=h0
    cases e2
    rw[e1]
    simp only[RE.bind_ok]
    cases hl:lcE cc ff xs with
    |bad=>trivial
    |ok ys=>rw[hl] at ih;obtain⟨q,e3,e4⟩:=ih;rw[e3];exact⟨_,rfl,e4⟩
    |exc c fs=>rw[hl] at ih;have ih:lcl F (xs.map en)=_:=ih;rw[ih];rfl
   |true =>
    simp only[if_true] at h0 ⊢
    cases hf:noX (ff x) with
    |bad=>trivial
    |exc c fs=>cases e:ff x<;>rw[e] at hf<;>cases hf
    |ok y =>
     rw[hf] at h0
     obtain⟨r,e1,f,e2,e2'⟩:=h0
     subst e2
     rw[e1]
     simp only[RE.bind_ok]
     cases hl:lcE cc ff xs with
     |bad=>trivial
     |ok ys =>
      rw[hl] at ih
      obtain⟨q,e3,e4,e5⟩:=ih
      rw[e3]
      refine⟨_,rfl,by simp[e4],fun z=>?_⟩
      show(f&&q.2)=true
      rw[e2' z,e5 z];rfl
     |exc c fs=>rw[hl] at ih;have ih:lcl F (xs.map en)=_:=ih;rw[ih];rfl
theorem qsg {cnd:Tes} {e:Ex} {ρ':List Sl} {mc:RE Bool} {mf:RE β} (hc:XTs Γ true cnd ρ' mc) (hf:mc=.ok true→XE Γ e ρ' mf en2 s t) (hs:s.nb=true):XR (noX ((qi4 Γ true cnd ρ').bind fun k=>if k=true then (ev Γ e ρ').bind fun y=>match y with
    |.brw _ _=>.bad
    |y=>.ok (some (y.d,y.b)) else .ok none)) ((noX mc).bind fun k=>if k=true then (noX mf).bind fun y=>.ok (some y) else .ok none) fun v r=>match v with
  |none=>r=none
  |some y=>∃f,r=some (en2 y,f)∧(t=true→f=true):=by
 cases mc with
 |bad=>trivial
 |exc c fs=>trivial
 |ok k =>
  obtain⟨x,e1,e2⟩:=hc
  subst e2
  rw[e1]
  cases x with
  |false=>exact⟨_,rfl,rfl⟩
  |true =>
   have hf:=hf rfl
   simp only[RE.bind_ok,if_true,noX]
   cases mf with
   |bad=>trivial
   |exc c fs=>trivial
   |ok y =>
    obtain⟨er,e3,e4⟩:=hf
    rw[e3]
    simp only[RE.bind_ok,noX]
    have hsh:=e4.s
    cases er with
    |brw ds b=>cases s<;>simp_all[qjl,ER.isF,Sh.nb]
    |val d b=>exact⟨_,rfl,_,by rw[←e4.d],e4.t⟩
    |fre d b=>exact⟨_,rfl,_,by rw[←e4.d],e4.t⟩
theorem XE.lc {own:List Nat} {it:Itx} {i:Nat} {cnd:Tes} {m1:RE (List α)} {o t0:Bool} {mc:α→RE Bool} {mf:α→RE β} (ρ₂:Sl→List Sl) (hi:XI Γ it ρ m1 en t1 o) (ht:t0=true→t1=true∨Flat en) (hset:∀q,(wipeS ρ own).set i q=ρ₂ q)
  (hc:∀x q,SlV t0 (en x) q→XTs Γ true cnd (ρ₂ q) (mc x)) (hf:∀x q,SlV t0 (en x) q→mc x=.ok true→XE Γ e (ρ₂ q) (mf x) en2 s t) (hs:s.nb=true) :
  XE Γ (.lc own it [i] cnd e) ρ (m1.bind fun xs=>gd (leB xs.length) (lcE mc mf xs)) (eL en2) .f t:=by
 unfold XE;rw[ev]
 refine XR.bind hi fun xs w hw=>?_
 obtain⟨w1,w2,_⟩:=hw
 rw[w1,List.length_map]
 cases hl:leB xs.length with
 |false=>trivial
 |true =>
  simp only[qk2]
  have e:lcE mc mf xs=(lcE mc mf xs).bind fun k=>.ok k:=by cases lcE mc mf xs<;>rfl
  rw[e]
  refine XR.bind (qq7 (t:=t) (en2:=en2) fun x _=>?_) fun ys r hr=>qn4 (by rw[hr.1];rfl) hr.2
  simp only[qeA,hset]
  have hq:SlV t0 (en x) (.val (en x) (w.b||(en x).flat)):=⟨_,rfl,fun z=>by
   rcases ht z with q | q
   ·simp[w2 q]
   ·rw[q.flat];simp⟩
  exact qsg (hc x _ hq) (hf x _ hq) hs
theorem XTs.nil {c:Bool}:XTs Γ c .nil ρ (.ok c):=by unfold XTs;rw[qi4];exact⟨_,rfl,rfl⟩
end
end Cm
namespace Cm
def Out.rt:Out→RE ER
 |.ret er=>.ok er
 |.exc c fs=>.exc c fs
 |_=>.bad
inductive Fl (β σ:Type) where
 |nx (s:σ) | rt (b:β) | bk (s:σ)
def XN {σ:Type} (o:Out) (m:RE σ) (S:σ→List Sl→Prop):Prop:=match m with
 |.bad=>True
 |.ok v=>∃ρ',o=.nx ρ'∧S v ρ'
 |.exc c fs=>o=.exc c fs
def XL {σ:Type} (o:Out) (m:RE σ) (S:σ→List Sl→Prop):Prop:=match m with
 |.bad=>True
 |.ok v=>∃ρ',(o=.nx ρ'∨o=.cnt ρ')∧S v ρ'
 |.exc c fs=>o=.exc c fs
def XF {β σ:Type} (o:Out) (m:RE (Fl β σ)) (R:β→ER→Prop) (S:σ→List Sl→Prop):Prop:=match m with
 |.bad=>True
 |.ok (.nx v)=>∃ρ',(o=.nx ρ'∨o=.cnt ρ')∧S v ρ'
 |.ok (.rt b)=>∃er,o=.ret er∧R b er
 |.ok (.bk v)=>∃ρ',o=.brk ρ'∧S v ρ'
 |.exc c fs=>o=.exc c fs
def XX {β σ:Type} (o:Out) (m:RE (Fl β σ)) (R:β→ER→Prop) (S:σ→List Sl→Prop):Prop:=match m with
 |.bad=>True
 |.ok (.nx v)=>∃ρ',o=.cnt ρ'∧S v ρ'
 |.ok (.rt b)=>∃er,o=.ret er∧R b er
 |.ok (.bk v)=>∃ρ',o=.brk ρ'∧S v ρ'
 |.exc c fs=>o=.exc c fs
abbrev BR {β:Type} (Γ:Env) (ss:Sms) (ρ:List Sl) (m:RE β) (en:β→D) (s:Sh) (t:Bool):Prop:=XR (qap Γ ss ρ).rt m fun v er=>Is s t (en v) er
abbrev BN {σ:Type} (Γ:Env) (ss:Sms) (ρ:List Sl) (m:RE σ) (S:σ→List Sl→Prop):Prop:=XN (qap Γ ss ρ) m S
abbrev BL {σ:Type} (Γ:Env) (ss:Sms) (ρ:List Sl) (m:RE σ) (S:σ→List Sl→Prop):Prop:=XL (qap Γ ss ρ) m S
abbrev BF {β σ:Type} (Γ:Env) (ss:Sms) (ρ:List Sl) (m:RE (Fl β σ)) (R:β→ER→Prop) (S:σ→List Sl→Prop):Prop:=XF (qap Γ ss ρ) m R S
abbrev BX {β σ:Type} (Γ:Env) (ss:Sms) (ρ:List Sl) (m:RE (Fl β σ)) (R:β→ER→Prop) (S:σ→List Sl→Prop):Prop:=XX (qap Γ ss ρ) m R S
def XG {β σ:Type} (o:Out) (m:RE (Fl β σ)) (R:β→ER→Prop) (S:σ→List Sl→Prop):Prop:=match m with
 |.bad=>True
 |.ok (.nx v)=>∃ρ',o=.nx ρ'∧S v ρ'
 |.ok (.rt b)=>∃er,o=.ret er∧R b er
 |.ok (.bk v)=>False
 |.exc c fs=>o=.exc c fs
abbrev BG {β σ:Type} (Γ:Env) (ss:Sms) (ρ:List Sl) (m:RE (Fl β σ)) (R:β→ER→Prop) (S:σ→List Sl→Prop):Prop:=XG (qap Γ ss ρ) m R S
def Fl.bR {β σ:Type} (m:RE (Fl β σ)) (k:σ→RE β):RE β:=m.bind fun f=>match f with
 |.nx v=>k v
 |.rt b=>.ok b
 |.bk _=>.bad
def Fl.bF {β σ τ:Type} (m:RE (Fl β σ)) (k:σ→RE (Fl β τ)):RE (Fl β τ):=m.bind fun f=>match f with
 |.nx v=>k v
 |.rt b=>.ok (.rt b)
 |.bk _=>.bad
abbrev SN {σ:Type} (Γ:Env) (s:Sm) (ρ:List Sl) (m:RE σ) (S:σ→List Sl→Prop):Prop:=XN (run Γ s ρ) m S
abbrev SF {β σ:Type} (Γ:Env) (s:Sm) (ρ:List Sl) (m:RE (Fl β σ)) (R:β→ER→Prop) (S:σ→List Sl→Prop):Prop:=XG (run Γ s ρ) m R S
section
variable {Γ:Env} {ρ:List Sl} {α β γ δ σ τ:Type} {en:α→D} {en2:β→D} {e a b:Ex} {s s1 s2:Sh} {t t1 t2:Bool} {ss sa sb:Sms} {q:Sm} {R:β→ER→Prop} {S:σ→List Sl→Prop} {S':τ→List Sl→Prop}
theorem BR.cons {m:RE σ} {k:σ→RE β} (h:SN Γ q ρ m S) (hk:∀v ρ',S v ρ'→BR Γ ss ρ' (k v) en2 s t):BR Γ (.cons q ss) ρ (m.bind k) en2 s t:=by
 unfold BR
 rw[qap]
 cases m with
 |bad=>trivial
 |ok v=>obtain⟨ρ',e,h⟩:=h;rw[e];exact hk v ρ' h
 |exc c fs=>have h:run Γ q ρ=_:=h;rw[h];rfl
theorem BN.cons {m:RE σ} {k:σ→RE τ} (h:SN Γ q ρ m S) (hk:∀v ρ',S v ρ'→BN Γ ss ρ' (k v) S'):BN Γ (.cons q ss) ρ (m.bind k) S':=by
 unfold BN
 rw[qap]
 cases m with
 |bad=>trivial
 |ok v=>obtain⟨ρ',e,h⟩:=h;rw[e];exact hk v ρ' h
 |exc c fs=>have h:run Γ q ρ=_:=h;rw[h];rfl
theorem BL.cons {m:RE σ} {k:σ→RE τ} (h:SN Γ q ρ m S) (hk:∀v ρ',S v ρ'→BL Γ ss ρ' (k v) S'):BL Γ (.cons q ss) ρ (m.bind k) S':=by
 unfold BL
 rw[qap]
 cases m with
 |bad=>trivial
 |ok v=>obtain⟨ρ',e,h⟩:=h;rw[e];exact hk v ρ' h
 |exc c fs=>have h:run Γ q ρ=_:=h;rw[h];rfl
theorem BF.cons {m:RE σ} {k:σ→RE (Fl β τ)} (h:SN Γ q ρ m S) (hk:∀v ρ',S v ρ'→BF Γ ss ρ' (k v) R S'):BF Γ (.cons q ss) ρ (m.bind k) R S':=by
 unfold BF
 rw[qap]
 cases m with
 |bad=>trivial
 |ok v=>obtain⟨ρ',e,h⟩:=h;rw[e];exact hk v ρ' h
 |exc c fs=>have h:run Γ q ρ=_:=h;rw[h];rfl
theorem BX.cons {m:RE σ} {k:σ→RE (Fl β τ)} (h:SN Γ q ρ m S) (hk:∀v ρ',S v ρ'→BX Γ ss ρ' (k v) R S'):BX Γ (.cons q ss) ρ (m.bind k) R S':=by
 unfold BX
 rw[qap]
 cases m with
 |bad=>trivial
 |ok v=>obtain⟨ρ',e,h⟩:=h;rw[e];exact hk v ρ' h
 |exc c fs=>have h:run Γ q ρ=_:=h;rw[h];rfl
theorem BG.cons {m:RE σ} {k:σ→RE (Fl β τ)} (h:SN Γ q ρ m S) (hk:∀v ρ',S v ρ'→BG Γ ss ρ' (k v) R S'):BG Γ (.cons q ss) ρ (m.bind k) R S':=by
 unfold BG
 rw[qap]
 cases m with
 |bad=>trivial
 |ok v=>obtain⟨ρ',e,h⟩:=h;rw[e];exact hk v ρ' h
 |exc c fs=>have h:run Γ q ρ=_:=h;rw[h];rfl
theorem BG.nil {v:σ} (h:S v ρ):BG Γ .nil ρ (.ok (.nx v)) R S:=by unfold BG;rw[qap];exact⟨_,rfl,h⟩
theorem BN.nil {v:σ} (h:S v ρ):BN Γ .nil ρ (.ok v) S:=by unfold BN;rw[qap];exact⟨_,rfl,h⟩
theorem BL.nil {v:σ} (h:S v ρ):BL Γ .nil ρ (.ok v) S:=by unfold BL;rw[qap];exact⟨_,.inl rfl,h⟩
theorem BF.nil {v:σ} (h:S v ρ):BF Γ .nil ρ (.ok (.nx v)) R S:=by unfold BF;rw[qap];exact⟨_,.inl rfl,h⟩
theorem BL.cnt {v:σ} (h:S v ρ):BL Γ (.cons .cnt ss) ρ (.ok v) S:=by unfold BL;rw[qap,Cm.run];exact⟨_,.inr rfl,h⟩
theorem BF.cnt {v:σ} (h:S v ρ):BF Γ (.cons .cnt ss) ρ (.ok (.nx v)) R S:=by unfold BF;rw[qap,Cm.run];exact⟨_,.inr rfl,h⟩
theorem BX.cnt {v:σ} (h:S v ρ):BX Γ (.cons .cnt ss) ρ (.ok (.nx v)) R S:=by unfold BX;rw[qap,Cm.run];exact⟨_,rfl,h⟩
theorem BF.brk {v:σ} (h:S v ρ):BF Γ (.cons .brk ss) ρ (.ok (.bk v)) R S:=by unfold BF;rw[qap,Cm.run];exact⟨_,rfl,h⟩
theorem BX.brk {v:σ} (h:S v ρ):BX Γ (.cons .brk ss) ρ (.ok (.bk v)) R S:=by unfold BX;rw[qap,Cm.run];exact⟨_,rfl,h⟩
theorem BX.F {m:RE (Fl β σ)} (h:BX Γ ss ρ m R S):BF Γ ss ρ m R S:=by
 unfold BF
 cases m with
 |bad=>trivial
 |ok v =>
  cases v with
  |nx v=>obtain⟨ρ',e,h⟩:=h;exact⟨ρ',.inr e,h⟩
  |rt b=>exact h
  |bk v=>exact h
 |exc c fs=>exact h
theorem BR.X {m:RE β} (h:BR Γ ss ρ m en2 s t):BX (σ:=σ) Γ ss ρ (m.bind fun b=>.ok (.rt b)) (fun v er=>Is s t (en2 v) er) S:=by
 unfold BX
 cases m with
 |bad=>trivial
 |ok v =>
  obtain⟨er,e,h⟩:=h
  cases hr:qap Γ ss ρ<;>rw[hr] at e<;>cases e
  exact⟨_,rfl,h⟩
 |exc c fs =>
  have h:(qap Γ ss ρ).rt=_:=h
  cases hr:qap Γ ss ρ<;>rw[hr] at h<;>cases h
  rfl
theorem Is.ret {d:D} {er:ER} (h:Is s t d er):Is s.ret t d (qvY er):=by
 have:=h.s
 have:=h.d
 have:=h.t
 cases s<;>cases er<;>simp_all[qjl,ER.isF,Sh.ret]<;>exact⟨by assumption,rfl,by simpa using h.t⟩
theorem BR.ret {m:RE α} (h:XE Γ e ρ m en s1 t) (hs:s1.ret=s):BR Γ (.cons (.ret e) ss) ρ m en s t:=by
 unfold BR
 rw[qap,Cm.run]
 subst hs
 cases m with
 |bad=>trivial
 |ok v=>obtain⟨er,e,h⟩:=h;rw[e];exact⟨_,rfl,h.ret⟩
 |exc c fs=>have h:ev Γ _ ρ=_:=h;rw[h];rfl
theorem BR.retN:BR Γ (.cons .retN ss) ρ (.ok ()) eU .v true:=by unfold BR;rw[qap,Cm.run];exact⟨_,rfl,rfl,rfl,fun _=>rfl⟩
theorem BR.rse {k c:Nat} (h:Γ.xk[k]? = some c):BR Γ (.cons (.rse k) ss) ρ (.exc c []) en s t:=by unfold BR;rw[qap,Cm.run,h];rfl
theorem BR.weak {m:RE α} (h:BR Γ ss ρ m en s t) (hs:s.nb=true):BR Γ ss ρ m en .n t:=XR.mono h fun _ _ k=>k.weak hs
theorem BR.low {m:RE α} (h:BR Γ ss ρ m en s t):BR Γ ss ρ m en s false:=XR.mono h fun _ _ k=>k.low
theorem BR.coe {m:RE α} {f:α→β} (h:BR Γ ss ρ m en s t) (k:∀v,en v=en2 (f v)):BR Γ ss ρ (m.bind fun x=>.ok (f x)) en2 s t:=by
 cases m with
 |bad=>trivial
 |ok v=>obtain⟨er,e,h⟩:=h;exact⟨_,e,by rw[←k];exact h.d,h.s,h.t⟩
 |exc c fs=>exact h
theorem BR.iff {c:Te} {mt:RE Bool} {m1 m2:RE β} (h:XT Γ c ρ mt) (ha:BR Γ sa ρ m1 en2 s t) (hb:BR Γ sb ρ m2 en2 s t):BR Γ (.cons (.iff c sa sb) ss) ρ (mt.bind fun k=>if k=true then m1 else m2) en2 s t:=by
 unfold BR
 rw[qap,Cm.run]
 cases mt with
 |bad=>trivial
 |exc c fs=>have h:evT Γ _ ρ=_:=h;rw[h];rfl
 |ok v =>
  obtain⟨x,e,rfl⟩:=h
  rw[e]
  simp only[RE.out_ok,RE.bind_ok]
  have key:∀{sx:Sms} {m:RE β},BR Γ sx ρ m en2 s t→XR (((qap Γ sx ρ).seq fun ρ'=>qap Γ ss ρ').rt) m fun v er=>Is s t (en2 v) er:=fun {sx m} hx=>by
   cases m with
   |bad=>trivial
   |ok v =>
    obtain⟨er,e,h⟩:=hx
    cases hr:qap Γ sx ρ<;>rw[hr] at e<;>cases e
    exact⟨_,rfl,h⟩
   |exc c fs =>
    have h:(qap Γ sx ρ).rt=_:=hx
    cases hr:qap Γ sx ρ<;>rw[hr] at h<;>cases h
    rfl
  cases x
  ·exact key hb
  ·exact key ha
theorem BR.ifR {c:Te} {mt:RE Bool} {m1 m2:RE β} (h:XT Γ c ρ mt) (ha:BR Γ sa ρ m1 en2 s t) (hb:BR Γ ss ρ m2 en2 s t):BR Γ (.cons (.iff c sa .nil) ss) ρ (mt.bind fun k=>if k=true then m1 else m2) en2 s t:=by
 unfold BR
 rw[qap,Cm.run]
 cases mt with
 |bad=>trivial
 |exc c fs=>have h:evT Γ _ ρ=_:=h;rw[h];rfl
 |ok v =>
  obtain⟨x,e,rfl⟩:=h
  rw[e]
  simp only[RE.out_ok,RE.bind_ok]
  cases x with
  |false=>simp only[Bool.false_eq_true,if_false,qap];exact hb
  |true =>
   simp only[if_true]
   cases m1 with
   |bad=>trivial
   |ok v =>
    obtain⟨er,e,h⟩:=ha
    cases hr:qap Γ sa ρ<;>rw[hr] at e<;>cases e
    exact⟨_,rfl,h⟩
   |exc c fs =>
    have h:(qap Γ sa ρ).rt=_:=ha
    cases hr:qap Γ sa ρ<;>rw[hr] at h<;>cases h
    rfl
theorem BF.iff {c:Te} {mt:RE Bool} {m1 m2:RE (Fl β σ)} (h:XT Γ c ρ mt) (ha:BF Γ sa ρ m1 R S) (hb:BF Γ sb ρ m2 R S):BF Γ (.cons (.iff c sa sb) .nil) ρ (mt.bind fun k=>if k=true then m1 else m2) R S:=by
 unfold BF
 rw[qap,Cm.run]
 cases mt with
 |bad=>trivial
 |exc c fs=>have h:evT Γ _ ρ=_:=h;rw[h];rfl
 |ok v =>
  obtain⟨x,e,rfl⟩:=h
  rw[e]
  simp only[RE.out_ok,RE.bind_ok]
  have key:∀{sx:Sms} {m:RE (Fl β σ)},BF Γ sx ρ m R S→XF ((qap Γ sx ρ).seq fun ρ'=>qap Γ .nil ρ') m R S:=fun {sx m} hx=>by
   have:((qap Γ sx ρ).seq fun ρ'=>qap Γ .nil ρ')=qap Γ sx ρ:=by
    cases qap Γ sx ρ<;>simp only[Out.seq,qap]
   rw[this];exact hx
  cases x
  ·exact key hb
  ·exact key ha
theorem BX.iff {c:Te} {mt:RE Bool} {m1 m2:RE (Fl β σ)} (h:XT Γ c ρ mt) (ha:BX Γ sa ρ m1 R S) (hb:BX Γ sb ρ m2 R S):BX Γ (.cons (.iff c sa sb) .nil) ρ (mt.bind fun k=>if k=true then m1 else m2) R S:=by
 unfold BX
 rw[qap,Cm.run]
 cases mt with
 |bad=>trivial
 |exc c fs=>have h:evT Γ _ ρ=_:=h;rw[h];rfl
 |ok v =>
  obtain⟨x,e,rfl⟩:=h
  rw[e]
  simp only[RE.out_ok,RE.bind_ok]
  have key:∀{sx:Sms} {m:RE (Fl β σ)},BX Γ sx ρ m R S→XX ((qap Γ sx ρ).seq fun ρ'=>qap Γ .nil ρ') m R S:=fun {sx m} hx=>by
   have:((qap Γ sx ρ).seq fun ρ'=>qap Γ .nil ρ')=qap Γ sx ρ:=by
    cases qap Γ sx ρ<;>simp only[Out.seq,qap]
   rw[this];exact hx
  cases x
  ·exact key hb
  ·exact key ha
theorem SN.iff {c:Te} {mt:RE Bool} {m1 m2:RE σ} (h:XT Γ c ρ mt) (ha:BN Γ sa ρ m1 S) (hb:BN Γ sb ρ m2 S):SN Γ (.iff c sa sb) ρ (mt.bind fun k=>if k=true then m1 else m2) S:=by
 unfold SN
 rw[Cm.run]
 cases mt with
 |bad=>trivial
 |exc c fs=>have h:evT Γ _ ρ=_:=h;rw[h];rfl
 |ok v =>
  obtain⟨x,e,rfl⟩:=h
  rw[e]
  cases x
  ·exact hb
  ·exact ha
theorem SF.iff {c:Te} {mt:RE Bool} {m1 m2:RE (Fl β σ)} (h:XT Γ c ρ mt) (ha:BG Γ sa ρ m1 R S) (hb:BG Γ sb ρ m2 R S):SF Γ (.iff c sa sb) ρ (mt.bind fun k=>if k=true then m1 else m2) R S:=by
 unfold SF
 rw[Cm.run]
 cases mt with
 |bad=>trivial
 |exc c fs=>have h:evT Γ _ ρ=_:=h;rw[h];rfl
 |ok v =>
  obtain⟨x,e,rfl⟩:=h
  rw[e]
  cases x
  ·exact hb
  ·exact ha
theorem BX.G {m:RE β} {en2:β→D} (h:BR Γ ss ρ m en2 s t):BG (σ:=σ) Γ ss ρ (m.bind fun b=>.ok (.rt b)) (fun v er=>Is s t (en2 v) er) S:=by
 unfold BG
 cases m with
 |bad=>trivial
 |ok v =>
  obtain⟨er,e,h⟩:=h
  cases hr:qap Γ ss ρ<;>rw[hr] at e<;>cases e
  exact⟨_,rfl,h⟩
 |exc c fs =>
  have h:(qap Γ ss ρ).rt=_:=h
  cases hr:qap Γ ss ρ<;>rw[hr] at h<;>cases h
  rfl
theorem BG.ifR {c:Te} {mt:RE Bool} {m1:RE β} {m2:RE (Fl β σ)} {en2:β→D} (h:XT Γ c ρ mt) (ha:BR Γ sa ρ m1 en2 s t) (hb:BG Γ ss ρ m2 (fun v er=>Is s t (en2 v) er) S):BG Γ (.cons (.iff c sa .nil) ss) ρ (mt.bind fun k=>if k=true then m1.bind fun b=>.ok (.rt b) else m2) (fun v er=>Is s t (en2 v) er) S:=by
 unfold BG
 rw[qap,Cm.run]
 cases mt with
 |bad=>trivial
 |exc c fs=>have h:evT Γ _ ρ=_:=h;rw[h];rfl
 |ok v =>
  obtain⟨x,e,rfl⟩:=h
  rw[e]
  simp only[RE.out_ok,RE.bind_ok]
  cases x with
  |false=>simp only[Bool.false_eq_true,if_false,qap];exact hb
  |true =>
   simp only[if_true]
   cases m1 with
   |bad=>trivial
   |ok v =>
    obtain⟨er,e,h⟩:=ha
    cases hr:qap Γ sa ρ<;>rw[hr] at e<;>cases e
    exact⟨_,rfl,h⟩
   |exc c fs =>
    have h:(qap Γ sa ρ).rt=_:=ha
    cases hr:qap Γ sa ρ<;>rw[hr] at h<;>cases h
    rfl
theorem qe0 {k c:Nat} (h:Γ.xk[k]? = some c):qap Γ (.cons (.rse k) ss) ρ=.exc c []:=by rw[qap,Cm.run,h];rfl
theorem BN.rse {k c:Nat} (h:Γ.xk[k]? = some c):BN Γ (.cons (.rse k) ss) ρ (.exc c []) S:=by unfold BN;rw[qe0 h];rfl
theorem BL.rse {k c:Nat} (h:Γ.xk[k]? = some c):BL Γ (.cons (.rse k) ss) ρ (.exc c []) S:=by unfold BL;rw[qe0 h];rfl
theorem BF.rse {k c:Nat} (h:Γ.xk[k]? = some c):BF Γ (.cons (.rse k) ss) ρ (.exc c []) R S:=by unfold BF;rw[qe0 h];rfl
theorem BX.rse {k c:Nat} (h:Γ.xk[k]? = some c):BX Γ (.cons (.rse k) ss) ρ (.exc c []) R S:=by unfold BX;rw[qe0 h];rfl
theorem BG.rse {k c:Nat} (h:Γ.xk[k]? = some c):BG Γ (.cons (.rse k) ss) ρ (.exc c []) R S:=by unfold BG;rw[qe0 h];rfl
theorem qrz {c:Te} {v:Bool} (h:evT Γ c ρ=.ok v):qap Γ (.cons (.iff c sa .nil) ss) ρ=(if v=true then qap Γ sa ρ else .nx ρ).seq fun ρ'=>qap Γ ss ρ':=by
 rw[qap,Cm.run,h]
 cases v<;>simp only[RE.out_ok,qap,if_true,if_false,Bool.false_eq_true]
theorem BN.ifE {c:Te} {k n:Nat} {mt:RE Bool} {m2:RE σ} (ha:sa=.cons (.rse k) .nil) (h:XT Γ c ρ mt) (hk:Γ.xk[k]? = some n) (hb:BN Γ ss ρ m2 S):BN Γ (.cons (.iff c sa .nil) ss) ρ (mt.bind fun k=>if k=true then .exc n [] else m2) S:=by
 subst ha
 unfold BN
 cases mt with
 |bad=>trivial
 |exc c fs=>have h:evT Γ _ ρ=_:=h;rw[qap,Cm.run,h];rfl
 |ok v =>
  obtain⟨x,e,rfl⟩:=h
  rw[qrz e]
  cases x with
  |false=>exact hb
  |true=>simp only[if_true,qe0 hk];rfl
theorem BL.ifE {c:Te} {k n:Nat} {mt:RE Bool} {m2:RE σ} (ha:sa=.cons (.rse k) .nil) (h:XT Γ c ρ mt) (hk:Γ.xk[k]? = some n) (hb:BL Γ ss ρ m2 S):BL Γ (.cons (.iff c sa .nil) ss) ρ (mt.bind fun k=>if k=true then .exc n [] else m2) S:=by
 subst ha
 unfold BL
 cases mt with
 |bad=>trivial
 |exc c fs=>have h:evT Γ _ ρ=_:=h;rw[qap,Cm.run,h];rfl
 |ok v =>
  obtain⟨x,e,rfl⟩:=h
  rw[qrz e]
  cases x with
  |false=>exact hb
  |true=>simp only[if_true,qe0 hk];rfl
theorem SN.asg {i:Nat} {m:RE α} (ρ₂:Sl→List Sl) (h:XE Γ e ρ m en s t) (hs:s.nb=true) (hset:∀q,ρ.set i q=ρ₂ q):SN Γ (.asg i e) ρ m fun v ρ'=>∃q,ρ'=ρ₂ q∧SlV t (en v) q:=by
 unfold SN
 rw[Cm.run]
 cases m with
 |bad=>trivial
 |ok v =>
  obtain⟨er,e,h⟩:=h
  rw[e]
  have h1:=h.s
  have h2:=h.d
  have h3:=h.t
  cases er with
  |val d b=>simp only[RE.out_ok,held];exact⟨_,rfl,_,hset _,b,by rw[←h2];rfl,h3⟩
  |fre d b=>simp only[RE.out_ok,held];exact⟨_,rfl,_,hset _,b,by rw[←h2];rfl,h3⟩
  |brw d b=>cases s<;>simp_all[qjl,ER.isF,Sh.nb]
 |exc c fs=>have h:ev Γ _ ρ=_:=h;rw[h];rfl
theorem SN.own {i:Nat} {m:RE (List α)} (ρ₂:Sl→List Sl) (h:XE Γ e ρ m (eL en) .f t) (hset:∀q,ρ.set i q=ρ₂ q):SN Γ (.own i e) ρ m fun v ρ'=>∃q,ρ'=ρ₂ q∧SlO t (v.map en) q:=by
 unfold SN
 rw[Cm.run]
 cases m with
 |bad=>trivial
 |ok v =>
  obtain⟨er,e,h⟩:=h
  rw[e]
  have h1:=h.s
  have h2:=h.d
  have h3:=h.t
  cases er with
  |val d b=>cases h1
  |fre d b =>
   simp only[RE.out_ok]
   refine⟨_,rfl,_,hset _,b,?_,h3⟩
   cases h2
   rfl
  |brw d b=>cases h1
 |exc c fs=>have h:ev Γ _ ρ=_:=h;rw[h];rfl
theorem SN.expr {m:RE α} (h:XE Γ e ρ m en s t):SN Γ (.expr e) ρ m fun _ ρ'=>ρ'=ρ:=by
 unfold SN
 rw[Cm.run]
 cases m with
 |bad=>trivial
 |ok v=>obtain⟨er,e,h⟩:=h;rw[e];exact⟨_,rfl,rfl⟩
 |exc c fs=>have h:ev Γ _ ρ=_:=h;rw[h];rfl
theorem SN.pas:SN Γ .pas ρ (.ok ()) fun _ ρ'=>ρ'=ρ:=by unfold SN;rw[Cm.run];exact⟨_,rfl,rfl⟩
def qsZ (ds es:List D):Bool:=D.flats ds&&(clD ds != clD es)&&qrp (clD es) es
def qiB {γ:Type} (e1:α→D) (e2:γ→D) (p:List α × List γ):RE (List α × List γ):=gd (qsZ (p.1.map e1) (p.2.map e2)) (.ok p)
theorem SN.asgO {γ δ:Type} {en3:γ→D} {en4:δ→D} {f:γ→δ} {i j k:Nat} {es:Exs} {m:RE (List α × List γ)} (ρ₂:Sl→Sl→List Sl) (h:XE Γ (.call k es) ρ m (eT2 (eL en) (eL en3)) .v true) (hij:i≠j) (hf:∀x,en4 (f x)=en3 x) (hset:∀q r,(ρ.set i q).set j r=ρ₂ q r) :
  SN Γ (.asgO i j k es) ρ (m.bind (qiB en en3)) fun v ρ'=>∃q r,ρ'=ρ₂ q r∧SlV true (eL en v.1) q∧SlO true ((v.2.map f).map en4) r:=by
 have fm:∀l:List γ,(l.map f).map en4=l.map en3:=fun l=>by
  rw[List.map_map];exact List.map_congr_left fun x _=>hf x
 unfold SN
 rw[Cm.run]
 unfold XE at h
 rw[ev] at h
 cases eg:Γ.fn[k]? with
 |none =>
  rw[eg] at h
  cases m with
  |bad=>trivial
  |ok v=>obtain⟨x,e,_⟩:=h;cases e
  |exc c fs=>have h:RE.bad=_:=h;cases h
 |some g =>
  rw[eg] at h
  simp only at h ⊢
  cases e1:evs Γ es ρ with
  |bad=>rw[e1] at h;cases m with
   |bad=>trivial
   |ok v=>obtain⟨x,e,_⟩:=h;cases e
   |exc c fs=>have h:RE.bad=_:=h;cases h
  |exc c fs=>rw[e1] at h;cases m with
   |bad=>trivial
   |ok v=>obtain⟨x,e,_⟩:=h;cases e
   |exc c' fs'=>have h:RE.exc c fs=_:=h;rw[RE.out_exc];cases h;rfl
  |ok r =>
   rw[e1] at h
   simp only[RE.bind_ok,RE.out_ok] at h ⊢
   cases e2:g.2 (r.map ER.d) with
   |bad=>rw[e2] at h;cases m with
    |bad=>trivial
    |ok v=>obtain⟨x,e,_⟩:=h;cases e
    |exc c fs=>have h:RE.bad=_:=h;cases h
   |exc c fs=>rw[e2] at h;cases m with
    |bad=>trivial
    |ok v=>obtain⟨x,e,_⟩:=h;cases e
    |exc c' fs'=>have h:RE.exc c fs=_:=h;rw[RE.out_exc];cases h;rfl
   |ok er =>
    rw[e2] at h
    cases m with
    |bad=>trivial
    |exc c fs =>
     have h:qcJ (!r.all ER.isV) er=.exc c fs:=h
     exfalso
     revert h
     cases (!r.all ER.isV)<;>cases er<;>simp only[qcJ]<;>intro h<;>first | (cases h;done) | (split at h<;>cases h)
    |ok v =>
     obtain⟨x,ex,hx⟩:=h
     have h1:ER.isV x=true:=hx.s
     have h2:x.d=.tup [eL en v.1,eL en3 v.2]:=hx.d
     have h3:x.b=true:=hx.t rfl
     have hx':x=.val (.tup [eL en v.1,eL en3 v.2]) true:=by
      cases x with
      |val d b=>cases h2;cases h3;rfl
      |fre _ _=>cases h1
      |brw _ _=>cases h1
     subst hx'
     have nf:(D.tup [eL en v.1,eL en3 v.2]).flat=false:=by simp[eL]
     have he:er=.val (.tup [eL en v.1,eL en3 v.2]) true:=by
      have ex:qcJ (!r.all ER.isV) er=.ok _:=ex
      cases er with
      |brw _ _=>cases q:(!r.all ER.isV)<;>rw[q] at ex<;>cases ex
      |fre _ _ =>
       cases q:(!r.all ER.isV)<;>rw[q] at ex<;>simp only[qcJ] at ex
       ·cases ex
       ·split at ex<;>cases ex
      |val d b =>
       cases q:(!r.all ER.isV)<;>rw[q] at ex<;>simp only[qcJ] at ex
       ·injection ex with ex
        injection ex with ex1 ex2
        subst ex1
        rw[nf,Bool.or_false] at ex2
        rw[ex2]
       ·split at ex
        ·rename_i q2
         injection ex with ex
         injection ex with ex1 ex2
         subst ex1
         rw[nf,Bool.or_false] at q2
         rw[q2]
        ·cases ex
     subst he
     rw[RE.out_ok]
     show XN (match qkM (.val (.tup [.lst (v.1.map en),.lst (v.2.map en3)]) true) with
      |some p=>if i=j then .bad else .nx ((ρ.set i (.val (.lst p.1) true)).set j (.own p.2 true))
      |none=>.bad) (qiB en en3 v) _
     unfold qiB qkM
     show XN (match (if qsZ (v.1.map en) (v.2.map en3)=true then some (v.1.map en,v.2.map en3) else none) with
      |some p=>if i=j then .bad else .nx ((ρ.set i (.val (.lst p.1) true)).set j (.own p.2 true))
      |none=>.bad) _ _
     cases qsZ (v.1.map en) (v.2.map en3) with
     |false=>trivial
     |true =>
      simp only[if_true,if_neg hij,qk2]
      exact⟨_,rfl,_,_,hset _ _,⟨_,rfl,fun _=>rfl⟩,⟨_,by rw[fm],fun _=>rfl⟩⟩
theorem qiO {d:D} {er:ER} (h:Is s t d er) (hs:s.nb=true):∃b,(∀f:D→Bool→Out,held er f=f d b)∧(t=true→b=true):=by
 have h1:=h.s
 have h2:=h.d
 have h3:=h.t
 cases er with
 |val d' b=>cases h2;exact⟨b,fun _=>rfl,h3⟩
 |fre d' b=>cases h2;exact⟨b,fun _=>rfl,h3⟩
 |brw d' b=>cases s<;>simp_all[qjl,ER.isF,Sh.nb]
theorem Is.frz {d:D} {er:ER} (h:Is s t d er) (hs:s.nb=true):Is .v t d er.frz:=by
 have h1:=h.s
 have h2:=h.d
 have h3:=h.t
 cases er with
 |val d' b=>exact⟨h2,rfl,h3⟩
 |fre d' b=>exact⟨h2,rfl,h3⟩
 |brw d' b=>cases s<;>simp_all[qjl,ER.isF,Sh.nb]
theorem SN.put {i:Nat} {ix:Ex} {m1:RE α} {m2:RE Int} {xs:List α} {q0:Sl} (ρ₂:Sl→List Sl) (h:XE Γ e ρ m1 en s t1) (hs:s.nb=true) (h0:ρ[i]? = some q0) (hq:SlO t2 (xs.map en) q0) (hi:XE Γ ix ρ m2 eI s2 t) (hset:∀q,ρ.set i q=ρ₂ q) :
  SN Γ (.put i ix e) ρ (m1.bind fun x=>m2.bind fun k=>(match L2.ixN xs.length k with
   |some j=>.ok (xs.set j x)
   |none=>.bad)) fun v ρ'=>∃q,ρ'=ρ₂ q∧SlO (t1&&t2) (v.map en) q:=by
 unfold SN
 rw[Cm.run]
 obtain⟨f,rfl,hf⟩:=hq
 cases m1 with
 |bad=>trivial
 |exc c fs=>have h:ev Γ _ ρ=_:=h;rw[h];rfl
 |ok x =>
  obtain⟨er,e1,h1⟩:=h
  rw[e1]
  simp only[RE.out_ok,RE.bind_ok]
  obtain⟨b1,q1,r1⟩:=qiO h1 hs
  rw[q1,qbh,h0]
  simp only
  cases m2 with
  |bad=>trivial
  |exc c fs=>have h:ev Γ _ ρ=_:=hi;rw[h];rfl
  |ok k =>
   obtain⟨er2,e2,h2⟩:=hi
   rw[e2]
   simp only[RE.out_ok,RE.bind_ok,h2.d,List.length_map]
   cases L2.ixN xs.length k with
   |none=>trivial
   |some j =>
    refine⟨_,rfl,_,hset _,_,by rw[List.map_set],fun z=>?_⟩
    rw[Bool.and_eq_true] at z
    rw[r1 z.1,hf z.2];rfl
def qrt (xs:List α) (k:Int) (x:α):RE (List α):=match L2.ixN xs.length k with
 |some j=>.ok (xs.set j x)
 |none=>.bad
def qez (xs:List α) (x:α):RE (List α):=gd (leB (xs.length+1)) (.ok (xs++[x]))
theorem SN.app {i:Nat} {m1:RE α} {xs:List α} {q0:Sl} (ρ₂:Sl→List Sl) (h:XE Γ e ρ m1 en s t1) (hs:s.nb=true) (h0:ρ[i]? = some q0) (hq:SlO t2 (xs.map en) q0) (hset:∀q,ρ.set i q=ρ₂ q) :
  SN Γ (.app i e) ρ (m1.bind fun x=>qez xs x) fun v ρ'=>∃q,ρ'=ρ₂ q∧SlO (t1&&t2) (v.map en) q:=by
 unfold SN
 rw[Cm.run]
 obtain⟨f,rfl,hf⟩:=hq
 rw[qbh,h0]
 simp only
 cases m1 with
 |bad=>trivial
 |exc c fs=>have h:ev Γ _ ρ=_:=h;rw[h];rfl
 |ok x =>
  obtain⟨er,e1,h1⟩:=h
  rw[e1]
  simp only[RE.out_ok,RE.bind_ok]
  obtain⟨b1,q1,r1⟩:=qiO h1 hs
  rw[q1,List.length_map,qez]
  cases leB (xs.length+1) with
  |false=>trivial
  |true =>
   refine⟨_,rfl,_,hset _,(b1&&f),by simp,fun z=>?_⟩
   rw[Bool.and_eq_true] at z
   rw[r1 z.1,hf z.2];rfl
theorem SN.appP {i:Nat} {x:α} {xs:List α} {q0:Sl} (ρ₂:Sl→List Sl) (h:XE Γ e ρ (.ok x) en s t1) (hs:s.nb=true) (h0:ρ[i]? = some q0) (hq:SlO t2 (xs.map en) q0) (hset:∀q,ρ.set i q=ρ₂ q) :
  SN Γ (.app i e) ρ (qez xs x) fun v ρ'=>∃q,ρ'=ρ₂ q∧SlO (t1&&t2) (v.map en) q:=SN.app ρ₂ h hs h0 hq hset
def qwE (xs ys:List α):RE (List α):=gd (leB (xs.length+ys.length)) (.ok (xs++ys))
theorem SN.ext {i:Nat} {m1:RE (List α)} {xs:List α} {q0:Sl} (ρ₂:Sl→List Sl) (h:XE Γ e ρ m1 (eL en) .f t1) (h0:ρ[i]? = some q0) (hq:SlO t2 (xs.map en) q0) (hset:∀q,ρ.set i q=ρ₂ q) :
  SN Γ (.ext i e) ρ (m1.bind fun ys=>qwE xs ys) fun v ρ'=>∃q,ρ'=ρ₂ q∧SlO (t1&&t2) (v.map en) q:=by
 unfold SN
 rw[Cm.run]
 obtain⟨f,rfl,hf⟩:=hq
 rw[qbh,h0]
 simp only
 cases m1 with
 |bad=>trivial
 |exc c fs=>have h:ev Γ _ ρ=_:=h;rw[h];rfl
 |ok ys =>
  obtain⟨er,e1,h1⟩:=h
  rw[e1]
  have h2:=h1.s
  have h3:=h1.d
  have h4:=h1.t
  cases er with
  |val d b=>cases h2
  |brw d b=>cases h2
  |fre ds b =>
   cases h3
   simp only[RE.out_ok,RE.bind_ok,List.length_map,qwE]
   cases leB (xs.length+ys.length) with
   |false=>trivial
   |true =>
    refine⟨_,rfl,_,hset _,(b&&f),by simp,fun z=>?_⟩
    rw[Bool.and_eq_true] at z
    have:b=true:=h4 z.1
    rw[this,hf z.2];rfl
def qwL (xs:List α):RE (α × List α):=match xs.getLast? with
 |some x=>.ok (x,xs.dropLast)
 |none=>.bad
theorem SN.popv {i j:Nat} {xs:List α} {q0:Sl} (ρ₂:Sl→Sl→List Sl) (h0:ρ[i]? = some q0) (hq:SlO t (xs.map en) q0) (hset:∀q r,(ρ.set i q).set j r=ρ₂ q r) :
  SN Γ (.popv j i) ρ (qwL xs) fun v ρ'=>∃q r,ρ'=ρ₂ q r∧SlO t (v.2.map en) q∧SlV t (en v.1) r:=by
 unfold SN
 rw[Cm.run]
 obtain⟨f,rfl,hf⟩:=hq
 rw[qbh,h0]
 simp only[qwL,List.getLast?_map]
 cases xs.getLast? with
 |none=>trivial
 |some x=>exact⟨_,rfl,_,_,hset _ _,⟨_,by rw[List.map_dropLast],hf⟩,⟨_,rfl,hf⟩⟩
theorem SN.clr {i:Nat} {xs:List α} {q0:Sl} (ρ₂:Sl→List Sl) (h0:ρ[i]? = some q0) (hq:SlO t (xs.map en) q0) (hset:∀q,ρ.set i q=ρ₂ q) :
  SN Γ (.clr i) ρ (.ok ([]:List α)) fun v ρ'=>∃q,ρ'=ρ₂ q∧SlO true (v.map en) q:=by
 unfold SN
 rw[Cm.run]
 obtain⟨f,rfl,hf⟩:=hq
 rw[qbh,h0]
 exact⟨_,rfl,_,hset _,_,rfl,fun _=>rfl⟩
def qmZ (xs ys:List α) (k:Int):RE (List α × List α):=match L2.ixN ys.length k with
 |some m=>match ys[m]? with
  |some d=>gd (leB ys.length) (gd (leB (xs.length+1)) (.ok (xs++[d],ys.eraseIdx m)))
  |none=>.bad
 |none=>.bad
theorem SN.apop {i j:Nat} {ix:Ex} {m1:RE Int} {xs ys:List α} {q0 r0:Sl} (ρ₂:Sl→Sl→List Sl) (hij:(if i=j then false else true)=true) (h0:ρ[i]? = some q0) (hq:SlO t1 (xs.map en) q0) (h1:ρ[j]? = some r0) (hr:SlO t2 (ys.map en) r0) (hi:XE Γ ix ρ m1 eI s t) (hset:∀q r,(ρ.set j r).set i q=ρ₂ q r) :
  SN Γ (.apop i j ix) ρ (m1.bind fun k=>qmZ xs ys k) fun v ρ'=>∃q r,ρ'=ρ₂ q r∧SlO (t2&&t1) (v.1.map en) q∧SlO t2 (v.2.map en) r:=by
 have hij:i≠j:=fun e=>by rw[if_pos e] at hij;cases hij
 unfold SN
 rw[Cm.run]
 obtain⟨f,rfl,hf⟩:=hq
 obtain⟨g,rfl,hg⟩:=hr
 rw[if_neg hij,qbh,h0]
 simp only[qbh,h1]
 cases m1 with
 |bad=>trivial
 |exc c fs=>have h:ev Γ _ ρ=_:=hi;rw[h];rfl
 |ok k =>
  obtain⟨er,e1,h1⟩:=hi
  rw[e1]
  simp only[RE.out_ok,RE.bind_ok,h1.d,List.length_map,qmZ]
  cases L2.ixN ys.length k with
  |none=>trivial
  |some m =>
   simp only[List.getElem?_map]
   cases ys[m]? with
   |none=>trivial
   |some d =>
    simp only[Option.map_some]
    cases leB ys.length with
    |false=>trivial
    |true =>
     cases leB (xs.length+1) with
     |false=>trivial
     |true =>
      refine⟨_,rfl,_,_,hset _ _,⟨(g&&f),by simp,fun z=>?_⟩,⟨g,by rw[qfd],hg⟩⟩
      rw[Bool.and_eq_true] at z
      rw[hg z.1,hf z.2];rfl
def quC (xs:List α) (k:Int):RE (List α):=match L2.ixN xs.length k with
 |some m=>match xs[m]? with
  |some _=>gd (leB xs.length) (.ok (xs.eraseIdx m))
  |none=>.bad
 |none=>.bad
theorem SN.popx {i:Nat} {ix:Ex} {m1:RE Int} {xs:List α} {q0:Sl} (ρ₂:Sl→List Sl) (hi:XE Γ ix ρ m1 eI s t1) (h0:ρ[i]? = some q0) (hq:SlO t (xs.map en) q0) (hset:∀q,ρ.set i q=ρ₂ q) :
  SN Γ (.popx i ix) ρ (m1.bind fun k=>quC xs k) fun v ρ'=>∃q,ρ'=ρ₂ q∧SlO t (v.map en) q:=by
 unfold SN
 rw[Cm.run]
 obtain⟨f,rfl,hf⟩:=hq
 rw[qbh,h0]
 cases m1 with
 |bad=>trivial
 |exc c fs=>have h:ev Γ _ ρ=_:=hi;simp only[h];rfl
 |ok k =>
  obtain⟨er,e1,h1⟩:=hi
  simp only[e1,RE.out_ok,RE.bind_ok,h1.d,List.length_map,quC]
  cases L2.ixN xs.length k with
  |none=>trivial
  |some m =>
   simp only[List.getElem?_map]
   cases xs[m]? with
   |none=>trivial
   |some d =>
    simp only[Option.map_some]
    cases leB xs.length with
    |false=>trivial
    |true=>exact⟨_,rfl,_,hset _,f,by rw[qfd],hf⟩
def qwV (xs:List Int) (k:Int):RE (List Int):=match qrF k xs with
 |some m=>.ok (xs.eraseIdx m)
 |none=>.bad
theorem SN.rmv {i:Nat} {e:Ex} {m1:RE Int} {xs:List Int} {q0:Sl} (ρ₂:Sl→List Sl) (hi:XE Γ e ρ m1 eI s t1) (h0:ρ[i]? = some q0) (hq:SlO t (xs.map eI) q0) (hset:∀q,ρ.set i q=ρ₂ q) :
  SN Γ (.rmv i e) ρ (m1.bind fun k=>qwV xs k) fun v ρ'=>∃q,ρ'=ρ₂ q∧SlO t (v.map eI) q:=by
 unfold SN
 rw[Cm.run]
 obtain⟨f,rfl,hf⟩:=hq
 rw[qbh,h0]
 cases m1 with
 |bad=>trivial
 |exc c fs=>have h:ev Γ _ ρ=_:=hi;simp only[h];rfl
 |ok k =>
  obtain⟨er,e1,h1⟩:=hi
  have hx:qaU (xs.map eI)=some xs:=qbI xs
  simp only[e1,RE.out_ok,RE.bind_ok,h1.d,hx,qwV]
  cases qrF k xs with
  |none=>trivial
  |some m=>exact⟨_,rfl,_,hset _,f,by rw[qfd],hf⟩
theorem qjF {i:Nat} {ds:List D} {q0:Sl} (ρ₂:Sl→List Sl) (h0:ρ[i]? = some q0) (hq:SlO t ds q0) (hset:∀q,ρ.set i q=ρ₂ q):∃q,qap Γ (.frz i ss) ρ=qap Γ ss (ρ₂ q)∧SlV t (.lst ds) q:=by
 obtain⟨f,rfl,hf⟩:=hq
 refine⟨.val (.lst ds) f,?_,_,rfl,hf⟩
 rw[qap,qbh,h0,←hset]
theorem BR.frz {i:Nat} {xs:List α} {q0:Sl} {m:RE β} {k1:Sh} {k2:Bool} (ρ₂:Sl→List Sl) (h0:ρ[i]? = some q0) (hq:SlO t (xs.map en) q0) (hset:∀q,ρ.set i q=ρ₂ q) (h:∀q,SlV t (eL en xs) q→BR Γ ss (ρ₂ q) m en2 k1 k2):BR Γ (.frz i ss) ρ m en2 k1 k2:=by
 obtain⟨q,e,r⟩:=qjF (Γ:=Γ) (ss:=ss) ρ₂ h0 hq hset
 unfold BR
 rw[e];exact h q r
theorem BN.frz {i:Nat} {xs:List α} {q0:Sl} {m:RE σ} (ρ₂:Sl→List Sl) (h0:ρ[i]? = some q0) (hq:SlO t (xs.map en) q0) (hset:∀q,ρ.set i q=ρ₂ q) (h:∀q,SlV t (eL en xs) q→BN Γ ss (ρ₂ q) m S):BN Γ (.frz i ss) ρ m S:=by
 obtain⟨q,e,r⟩:=qjF (Γ:=Γ) (ss:=ss) ρ₂ h0 hq hset
 unfold BN
 rw[e];exact h q r
theorem BL.frz {i:Nat} {xs:List α} {q0:Sl} {m:RE σ} (ρ₂:Sl→List Sl) (h0:ρ[i]? = some q0) (hq:SlO t (xs.map en) q0) (hset:∀q,ρ.set i q=ρ₂ q) (h:∀q,SlV t (eL en xs) q→BL Γ ss (ρ₂ q) m S):BL Γ (.frz i ss) ρ m S:=by
 obtain⟨q,e,r⟩:=qjF (Γ:=Γ) (ss:=ss) ρ₂ h0 hq hset
 unfold BL
 rw[e];exact h q r
theorem BF.frz {i:Nat} {xs:List α} {q0:Sl} {m:RE (Fl β σ)} (ρ₂:Sl→List Sl) (h0:ρ[i]? = some q0) (hq:SlO t (xs.map en) q0) (hset:∀q,ρ.set i q=ρ₂ q) (h:∀q,SlV t (eL en xs) q→BF Γ ss (ρ₂ q) m R S):BF Γ (.frz i ss) ρ m R S:=by
 obtain⟨q,e,r⟩:=qjF (Γ:=Γ) (ss:=ss) ρ₂ h0 hq hset
 unfold BF
 rw[e];exact h q r
theorem BX.frz {i:Nat} {xs:List α} {q0:Sl} {m:RE (Fl β σ)} (ρ₂:Sl→List Sl) (h0:ρ[i]? = some q0) (hq:SlO t (xs.map en) q0) (hset:∀q,ρ.set i q=ρ₂ q) (h:∀q,SlV t (eL en xs) q→BX Γ ss (ρ₂ q) m R S):BX Γ (.frz i ss) ρ m R S:=by
 obtain⟨q,e,r⟩:=qjF (Γ:=Γ) (ss:=ss) ρ₂ h0 hq hset
 unfold BX
 rw[e];exact h q r
theorem SlV.ent {d:D} {k:Nat} {q:Sl} (h:SlV t d q):SlV t d (Cm.ent k q):=by
 obtain⟨f,e,ht⟩:=h
 rcases qrE e with rfl | ⟨rfl,j,rfl⟩
 ·by_cases hb:(f||d.flat)=true
  ·rw[show Cm.ent k (.val d f)=.val d f from if_pos hb]
   exact⟨f,rfl,ht⟩
  ·rw[show Cm.ent k (.val d f)=.fxd d k from if_neg hb]
   exact⟨false,rfl,fun z=>by rw[ht z] at hb;exact absurd rfl hb⟩
 ·exact⟨false,rfl,ht⟩
theorem SlO.ent {ds:List D} {k:Nat} {q:Sl} (h:SlO t ds q):SlO t ds (Cm.ent k q):=by
 obtain⟨f,rfl,ht⟩:=h
 exact⟨f,rfl,ht⟩
def qxE (_:Nat):Sl:=.non
def qvF (cs:Ch) (i:Nat) (d:D):RE Unit:=match chg cs [(i,d)] ([],0) with
 |some _=>.ok ()
 |none=>.bad
theorem qnc {er er':ER} {k:Bool} {d:D} (h:qcJ k er=.ok er') (hd:er'.d=d) (hb:er'.b=true):qmV er=some d:=by
 subst hd
 cases k with
 |false =>
  cases er with
  |brw _ _=>cases h
  |val d b=>cases h;exact if_pos hb
  |fre ds b=>cases h;exact if_pos (by rw[show b=true from hb];rfl)
 |true =>
  cases er with
  |brw _ _=>cases h
  |val d b =>
   simp only[qcJ] at h
   split at h
   ·rename_i z;cases h;exact if_pos z
   ·cases h
  |fre ds b =>
   simp only[qcJ] at h
   split at h
   ·rename_i z;cases h;exact if_pos z
   ·cases h
theorem BR.hav {i f:Nat} {es:Exs} {rd:Sms} {cs:Ch} {m:RE α} {k1:α→RE (Fl β σ)} {k2:α→σ→RE β} {s1:Sh} (S:α→σ→List Sl→Prop) (h:XE Γ (.call f es) ρ m en s1 true) (hsf:qmS s t en2) (hsv:s=.v) (hi:Nat.blt i ρ.length=true)
  (h1:∀x,BG Γ rd ((qlt 0 ρ).set i (.fxd (en x) i)) (k1 x) (fun v er=>Is s t (en2 v) er) (S x))
  (h2:∀x st ρ',S x st ρ'→(∃d,ρ'[i]? = some (.fxd d i))∧(cs.tgs.all fun l=>Nat.blt l ρ'.length)=true∧BR Γ ss (wipeS (qk6 (ρ.set i .non) 0 ρ') cs.tgs) (k2 x st) en2 s t) :
  BR Γ (.hav i f es rd cs ss) ρ (m.bind fun x=>Fl.bR (k1 x) fun st=>(qvF cs i (en x)).bind fun _=>k2 x st) en2 s t:=by
 unfold BR
 rw[qap]
 unfold XE at h
 rw[ev] at h
 cases eg:Γ.fn[f]? with
 |none =>
  rw[eg] at h
  cases m with
  |bad=>trivial
  |ok v=>obtain⟨er,e,_⟩:=h;cases e
  |exc c fs=>have h:RE.bad=_:=h;cases h
 |some g =>
  rw[eg] at h
  simp only at h ⊢
  cases m with
  |bad=>trivial
  |exc c fs =>
   have h:_=RE.exc c fs:=h
   cases e1:evs Γ es ρ with
   |bad=>rw[e1] at h;cases h
   |exc c' fs'=>rw[e1] at h;cases h;rfl
   |ok r =>
    rw[e1] at h
    simp only[RE.bind_ok,RE.out_ok] at h ⊢
    cases e2:g.2 (r.map ER.d) with
    |bad=>rw[e2] at h;cases h
    |exc c' fs'=>rw[e2] at h;cases h;rfl
    |ok er =>
     rw[e2] at h
     simp only[RE.bind_ok] at h
     exfalso
     revert h
     cases (!r.all ER.isV)<;>cases er<;>simp only[qcJ]<;>first | (intro z;cases z) | (split<;>intro z<;>cases z)
  |ok v =>
   obtain⟨er',e,his⟩:=h
   cases e1:evs Γ es ρ with
   |bad=>rw[e1] at e;cases e
   |exc c' fs'=>rw[e1] at e;cases e
   |ok r =>
    rw[e1] at e
    simp only[RE.bind_ok,RE.out_ok] at e ⊢
    cases e2:g.2 (r.map ER.d) with
    |bad=>rw[e2] at e;cases e
    |exc c' fs'=>rw[e2] at e;cases e
    |ok er =>
     rw[e2] at e
     simp only[RE.bind_ok] at e
     simp only[RE.out_ok,qnc e his.d (his.t rfl),hi,qdE,RE.bind_ok]
     have h1:=h1 v
     cases ek:k1 v with
     |bad=>trivial
     |exc c fs =>
      rw[ek] at h1
      have h1:qap Γ rd _=_:=h1
      rw[h1];rfl
     |ok fl =>
      rw[ek] at h1
      cases fl with
      |bk _=>exact h1.elim
      |rt b =>
       obtain⟨er3,e3,h3⟩:=h1
       rw[e3]
       simp only[Out.hv]
       have hn:∃d,qmV er3=some d:=by
        subst hsv
        cases er3 with
        |fre _ _=>cases h3.s
        |brw _ _=>cases h3.s
        |val d b3 =>
         refine⟨d,if_pos ?_⟩
         have hd:d=en2 b:=h3.d
         rcases hsf with z | ⟨_,z⟩ | ⟨z,_⟩
         ·have:b3=true:=h3.t z
          rw[this];rfl
         ·rw[hd,z b];simp
         ·cases z
       obtain⟨d,hn⟩:=hn
       rw[hn]
       exact⟨er3,rfl,h3⟩
      |nx st =>
       obtain⟨ρ',e3,h3⟩:=h1
       obtain⟨⟨d2,q1⟩,q2,q3⟩:=h2 v st ρ' h3
       rw[e3]
       simp only[Out.hv,q1,q2,beq_self_eq_true,Bool.true_and,qdE,Fl.bR,RE.bind_ok,qvF]
       cases ec:chg cs [(i,en v)] ([],0) with
       |none=>trivial
       |some _=>exact q3
theorem BF.hav {i f:Nat} {es:Exs} {rd:Sms} {cs:Ch} {m:RE α} {k1:α→RE (Fl β σ)} {k2:α→σ→RE (Fl β τ)} {s1:Sh} (S:α→σ→List Sl→Prop) (h:XE Γ (.call f es) ρ m en s1 true) (hsf:qmS s t en2) (hsv:s=.v) (hi:Nat.blt i ρ.length=true)
  (h1:∀x,BG Γ rd ((qlt 0 ρ).set i (.fxd (en x) i)) (k1 x) (fun v er=>Is s t (en2 v) er) (S x))
  (h2:∀x st ρ',S x st ρ'→(∃d,ρ'[i]? = some (.fxd d i))∧(cs.tgs.all fun l=>Nat.blt l ρ'.length)=true∧BF Γ ss (wipeS (qk6 (ρ.set i .non) 0 ρ') cs.tgs) (k2 x st) (fun v er=>Is s t (en2 v) er) S') :
  BF Γ (.hav i f es rd cs ss) ρ (m.bind fun x=>Fl.bF (k1 x) fun st=>(qvF cs i (en x)).bind fun _=>k2 x st) (fun v er=>Is s t (en2 v) er) S':=by
 unfold BF
 rw[qap]
 unfold XE at h
 rw[ev] at h
 cases eg:Γ.fn[f]? with
 |none =>
  rw[eg] at h
  cases m with
  |bad=>trivial
  |ok v=>obtain⟨er,e,_⟩:=h;cases e
  |exc c fs=>have h:RE.bad=_:=h;cases h
 |some g =>
  rw[eg] at h
  simp only at h ⊢
  cases m with
  |bad=>trivial
  |exc c fs =>
   have h:_=RE.exc c fs:=h
   cases e1:evs Γ es ρ with
   |bad=>rw[e1] at h;cases h
   |exc c' fs'=>rw[e1] at h;cases h;rfl
   |ok r =>
    rw[e1] at h
    simp only[RE.bind_ok,RE.out_ok] at h ⊢
    cases e2:g.2 (r.map ER.d) with
    |bad=>rw[e2] at h;cases h
    |exc c' fs'=>rw[e2] at h;cases h;rfl
    |ok er =>
     rw[e2] at h
     simp only[RE.bind_ok] at h
     exfalso
     revert h
     cases (!r.all ER.isV)<;>cases er<;>simp only[qcJ]<;>first | (intro z;cases z) | (split<;>intro z<;>cases z)
  |ok v =>
   obtain⟨er',e,his⟩:=h
   cases e1:evs Γ es ρ with
   |bad=>rw[e1] at e;cases e
   |exc c' fs'=>rw[e1] at e;cases e
   |ok r =>
    rw[e1] at e
    simp only[RE.bind_ok,RE.out_ok] at e ⊢
    cases e2:g.2 (r.map ER.d) with
    |bad=>rw[e2] at e;cases e
    |exc c' fs'=>rw[e2] at e;cases e
    |ok er =>
     rw[e2] at e
     simp only[RE.bind_ok] at e
     simp only[RE.out_ok,qnc e his.d (his.t rfl),hi,qdE,RE.bind_ok]
     have h1:=h1 v
     cases ek:k1 v with
     |bad=>trivial
     |exc c fs =>
      rw[ek] at h1
      have h1:qap Γ rd _=_:=h1
      rw[h1];rfl
     |ok fl =>
      rw[ek] at h1
      cases fl with
      |bk _=>exact h1.elim
      |rt b =>
       obtain⟨er3,e3,h3⟩:=h1
       rw[e3]
       simp only[Out.hv]
       have hn:∃d,qmV er3=some d:=by
        subst hsv
        cases er3 with
        |fre _ _=>cases h3.s
        |brw _ _=>cases h3.s
        |val d b3 =>
         refine⟨d,if_pos ?_⟩
         have hd:d=en2 b:=h3.d
         rcases hsf with z | ⟨_,z⟩ | ⟨z,_⟩
         ·have:b3=true:=h3.t z
          rw[this];rfl
         ·rw[hd,z b];simp
         ·cases z
       obtain⟨d,hn⟩:=hn
       rw[hn]
       exact⟨er3,rfl,h3⟩
      |nx st =>
       obtain⟨ρ',e3,h3⟩:=h1
       obtain⟨⟨d2,q1⟩,q2,q3⟩:=h2 v st ρ' h3
       rw[e3]
       simp only[Out.hv,q1,q2,beq_self_eq_true,Bool.true_and,qdE,Fl.bF,RE.bind_ok,qvF]
       cases ec:chg cs [(i,en v)] ([],0) with
       |none=>trivial
       |some _=>exact q3
end
end Cm
namespace Cm
def qam {α σ:Type} (f:α→σ→RE σ):List α→σ→RE σ
 |[],s=>.ok s
 |x::xs,s=>(f x s).bind (qam f xs)
def qcn {α β σ:Type} (f:α→σ→RE (Fl β σ)):List α→σ→RE (Fl β σ)
 |[],s=>.ok (.nx s)
 |x::xs,s=>(f x s).bind fun r=>match r with
  |.nx s'=>qcn f xs s'
  |.rt b=>.ok (.rt b)
  |.bk s'=>.ok (.nx s')
def quE {σ:Type} (c:σ→RE Bool) (f:σ→RE σ):Nat→σ→RE σ
 |0,_=>.bad
 |n+1,s=>(c s).bind fun k=>if k=true then (f s).bind (quE c f n) else .ok s
section
variable {Γ:Env} {ρ:List Sl} {α β γ σ:Type} {en:α→D} {en2:β→D} {en3:γ→D} {it:Itx} {i j:Nat} {b:Sms} {m:RE (List α)} {t t0 t0' t1:Bool} {s:Sh} {R:γ→ER→Prop} {S:σ→List Sl→Prop}
theorem qoT {F:D→List Sl→Out} {f:α→σ→RE σ} (h:∀x st ρ',S st ρ'→XL (F (en x) ρ') (f x st) S):∀{xs:List α} {st:σ} {ρ':List Sl},S st ρ'→XN (qfC F (xs.map en) ρ') (qam f xs st) S
 |[],st,ρ',hs=>⟨ρ',rfl,hs⟩
 |x::xs,st,ρ',hs=>by
  have h0:=h x st ρ' hs
  simp only[List.map_cons,qam]
  unfold qfC
  cases e:f x st with
  |bad=>trivial
  |exc c fs=>rw[e] at h0;have h0:F (en x) ρ'=_:=h0;rw[h0];rfl
  |ok st' =>
   rw[e] at h0
   obtain⟨ρ2,e2,h2⟩:=h0
   rcases e2 with e2 | e2<;>rw[e2]<;>exact qoT h h2
theorem qmu {F:D→List Sl→Out} {f:α→σ→RE (Fl γ σ)} (h:∀x st ρ',S st ρ'→XF (F (en x) ρ') (f x st) R S):∀{xs:List α} {st:σ} {ρ':List Sl},S st ρ'→(match qcn f xs st with
  |.bad=>True
  |.ok (.nx v)=>∃ρ2,qfC F (xs.map en) ρ'=.nx ρ2∧S v ρ2
  |.ok (.rt b)=>∃er,qfC F (xs.map en) ρ'=.ret er∧R b er
  |.ok (.bk v)=>False
  |.exc c fs=>qfC F (xs.map en) ρ'=.exc c fs)
 |[],st,ρ',hs=>⟨ρ',rfl,hs⟩
 |x::xs,st,ρ',hs=>by
  have h0:=h x st ρ' hs
  simp only[List.map_cons,qcn]
  unfold qfC
  cases e:f x st with
  |bad=>trivial
  |exc c fs=>rw[e] at h0;have h0:F (en x) ρ'=_:=h0;rw[h0];rfl
  |ok r =>
   rw[e] at h0
   simp only[RE.bind_ok]
   cases r with
   |nx st' =>
    obtain⟨ρ2,e2,h2⟩:=h0
    rcases e2 with e2 | e2<;>rw[e2]<;>exact qmu h h2
   |rt b=>obtain⟨er,e2,h2⟩:=h0;rw[e2];exact⟨_,rfl,h2⟩
   |bk st'=>obtain⟨ρ2,e2,h2⟩:=h0;rw[e2];exact⟨_,rfl,h2⟩
theorem SN.forG {tg:List Nat} {f:α→σ→RE σ} {s0:σ} (hi:XI Γ it ρ m en t1 false) (h0:S s0 ρ) (hb:∀x st ρ' b',(t1=true→b'=true)→S st ρ'→XL (onB (qeA tg (en x) b' ρ') fun ρ'=>qap Γ b ρ') (f x st) S) :
  SN Γ (.for it tg b) ρ (m.bind fun xs=>qam f xs s0) S:=by
 unfold SN
 rw[Cm.run]
 cases m with
 |bad=>trivial
 |exc c fs=>have h:evI Γ it ρ=_:=hi;rw[h];rfl
 |ok xs =>
  obtain⟨w,e,w1,w2,w3⟩:=hi
  rw[e]
  simp only[RE.out_ok,w3 rfl,Bool.false_eq_true,if_false,RE.bind_ok,w1]
  exact qoT (fun x st ρ' hs=>hb x st ρ' w.b w2 hs) h0
theorem SF.forG {tg:List Nat} {f:α→σ→RE (Fl γ σ)} {s0:σ} (hi:XI Γ it ρ m en t1 false) (h0:S s0 ρ) (hb:∀x st ρ' b',(t1=true→b'=true)→S st ρ'→XF (onB (qeA tg (en x) b' ρ') fun ρ'=>qap Γ b ρ') (f x st) R S) :
  SF Γ (.for it tg b) ρ (m.bind fun xs=>qcn f xs s0) R S:=by
 unfold SF
 rw[Cm.run]
 cases m with
 |bad=>trivial
 |exc c fs=>have h:evI Γ it ρ=_:=hi;rw[h];rfl
 |ok xs =>
  obtain⟨w,e,w1,w2,w3⟩:=hi
  rw[e]
  simp only[RE.out_ok,w3 rfl,Bool.false_eq_true,if_false,RE.bind_ok,w1]
  exact qmu (fun x st ρ' hs=>hb x st ρ' w.b w2 hs) h0
theorem qrv {b':Bool} (ht:t0=true→t1=true∨Flat en) (h:t1=true→b'=true) (x:α):SlV t0 (en x) (.val (en x) (b'||(en x).flat)):=⟨_,rfl,fun z=>by
 rcases ht z with q | q
 ·simp[h q]
 ·rw[q.flat];simp⟩
theorem SN.for1 {f:α→σ→RE σ} {s0:σ} (S:σ→List Sl→Prop) (hi:XI Γ it ρ m en t1 false) (ht:t0=true→t1=true∨Flat en) (h0:S s0 ρ) (hb:∀x st ρ' q,S st ρ'→SlV t0 (en x) q→BL Γ b (ρ'.set i q) (f x st) S) :
  SN Γ (.for it [i] b) ρ (m.bind fun xs=>qam f xs s0) S:=
 SN.forG hi h0 fun x st ρ' b' h1 hs=>hb x st ρ' _ hs (qrv ht h1 x)
theorem SF.for1 {f:α→σ→RE (Fl γ σ)} {s0:σ} (S:σ→List Sl→Prop) (hi:XI Γ it ρ m en t1 false) (ht:t0=true→t1=true∨Flat en) (h0:S s0 ρ) (hb:∀x st ρ' q,S st ρ'→SlV t0 (en x) q→BF Γ b (ρ'.set i q) (f x st) R S) :
  SF Γ (.for it [i] b) ρ (m.bind fun xs=>qcn f xs s0) R S:=
 SF.forG hi h0 fun x st ρ' b' h1 hs=>hb x st ρ' _ hs (qrv ht h1 x)
theorem qrC {c:Te} {cc:σ→RE Bool} {f:σ→RE σ} (hc:∀st ρ',S st ρ'→XT Γ c ρ' (cc st)) (hb:∀st ρ',S st ρ'→BL Γ b ρ' (f st) S):∀{n:Nat} {st:σ} {ρ':List Sl},S st ρ'→XN (qgb (fun ρ=>evT Γ c ρ) (fun ρ=>qap Γ b ρ) n ρ') (quE cc f n st) S
 |0,st,ρ',hs=>trivial
 |n+1,st,ρ',hs=>by
  have h0:=hc st ρ' hs
  have h1:=hb st ρ' hs
  unfold quE qgb
  cases e:cc st with
  |bad=>trivial
  |exc c fs=>rw[e] at h0;have h0:evT Γ _ ρ'=_:=h0;simp only[h0];rfl
  |ok k =>
   rw[e] at h0
   obtain⟨k',e0,rfl⟩:=h0
   simp only[e0,RE.bind_ok,RE.out_ok]
   cases k' with
   |false=>exact⟨ρ',rfl,hs⟩
   |true =>
    simp only[if_true]
    cases e1:f st with
    |bad=>trivial
    |exc c fs=>rw[e1] at h1;have h1:qap Γ b ρ'=_:=h1;simp only[h1];rfl
    |ok st' =>
     rw[e1] at h1
     obtain⟨ρ2,e2,h2⟩:=h1
     rcases e2 with e2 | e2<;>simp only[e2]<;>exact qrC hc hb h2
theorem SN.whl {c:Te} {cc:σ→RE Bool} {f:σ→RE σ} {s0:σ} (S:σ→List Sl→Prop) (h0:S s0 ρ) (hc:∀st ρ',S st ρ'→XT Γ c ρ' (cc st)) (hb:∀st ρ',S st ρ'→BL Γ b ρ' (f st) S):SN Γ (.whl c b) ρ (quE cc f qvt s0) S:=by
 unfold SN
 rw[Cm.run]
 exact qrC hc hb h0
def quI {σ γ:Type} (c:σ→RE Bool) (f:σ→RE (Fl γ σ)):Nat→σ→RE (Fl γ σ)
 |0,_=>.bad
 |n+1,s=>(c s).bind fun k=>if k=true then (f s).bind (fun r=>match r with
  |.nx s'=>quI c f n s'
  |.rt b=>.ok (.rt b)
  |.bk s'=>.ok (.nx s')) else .ok (.nx s)
theorem qoH {c:Te} {cc:σ→RE Bool} {f:σ→RE (Fl γ σ)} (hc:∀st ρ',S st ρ'→XT Γ c ρ' (cc st)) (hb:∀st ρ',S st ρ'→BF Γ b ρ' (f st) R S):∀{n:Nat} {st:σ} {ρ':List Sl},S st ρ'→XG (qgb (fun ρ=>evT Γ c ρ) (fun ρ=>qap Γ b ρ) n ρ') (quI cc f n st) R S
 |0,st,ρ',hs=>trivial
 |n+1,st,ρ',hs=>by
  have h0:=hc st ρ' hs
  have h1:=hb st ρ' hs
  unfold quI qgb
  cases e:cc st with
  |bad=>trivial
  |exc c fs=>rw[e] at h0;have h0:evT Γ _ ρ'=_:=h0;simp only[h0];rfl
  |ok k =>
   rw[e] at h0
   obtain⟨k',e0,rfl⟩:=h0
   simp only[e0,RE.bind_ok,RE.out_ok]
   cases k' with
   |false=>exact⟨ρ',rfl,hs⟩
   |true =>
    simp only[if_true]
    cases e1:f st with
    |bad=>trivial
    |exc c fs=>rw[e1] at h1;have h1:qap Γ b ρ'=_:=h1;simp only[h1];rfl
    |ok r =>
     rw[e1] at h1
     simp only[RE.bind_ok]
     cases r with
     |nx st' =>
      obtain⟨ρ2,e2,h2⟩:=h1
      rcases e2 with e2 | e2<;>simp only[e2]<;>exact qoH hc hb h2
     |rt z=>obtain⟨er,e2,h2⟩:=h1;simp only[e2];exact⟨_,rfl,h2⟩
     |bk st'=>obtain⟨ρ2,e2,h2⟩:=h1;simp only[e2];exact⟨_,rfl,h2⟩
theorem SF.whl {c:Te} {cc:σ→RE Bool} {f:σ→RE (Fl γ σ)} {s0:σ} (S:σ→List Sl→Prop) (h0:S s0 ρ) (hc:∀st ρ',S st ρ'→XT Γ c ρ' (cc st)) (hb:∀st ρ',S st ρ'→BF Γ b ρ' (f st) R S):SF Γ (.whl c b) ρ (quI cc f qvt s0) R S:=by
 unfold SF
 rw[Cm.run]
 exact qoH hc hb h0
end
abbrev XS {α:Type} (Γ:Env) (es:Exs) (ρ:List Sl) (m:RE α) (enl:α→List D) (nb t:Bool):Prop:=XR (evs Γ es ρ) m fun v ers=>ers.map ER.d=enl v∧ers.all ER.isV=nb∧(t=true→ers.all ER.b=true)
section
variable {Γ:Env} {ρ:List Sl} {α β γ σ:Type} {en:α→D} {en2:β→D} {a b:Ex} {es:Exs} {s s1:Sh} {t t1 t2 nb:Bool} {m1:RE α} {m2:RE β} {enl:β→List D} {x:α} {y:β} {k:Nat} {nm:PySem.Str} {g:List D→RE ER}
theorem XS.nil:XS Γ .nil ρ (.ok ()) (fun _=>[]) true true:=by unfold XS;rw[evs];exact⟨_,rfl,rfl,rfl,fun _=>rfl⟩
theorem XS.cons (h:XE Γ a ρ m1 en s t1) (hs:XS Γ es ρ m2 enl nb t2):XS Γ (.cons a es) ρ (m1.bind fun v=>m2.bind fun w=>.ok (v,w)) (fun p=>en p.1::enl p.2) (s.nb&&nb) (t1&&t2):=by
 unfold XS
 rw[evs]
 exact XR.bind h fun v er h1=>XR.bind hs fun w ers h2=>by
  refine⟨_,rfl,?_,?_,fun z=>?_⟩
  ·simp only[List.map_cons,qfT,h1.d,h2.1]
  ·simp only[List.all_cons,h2.2.1]
   have:=h1.s
   cases s<;>cases er<;>simp_all[qjl,ER.isF,Sh.nb]
  ·rw[Bool.and_eq_true] at z
   simp only[List.all_cons,Bool.and_eq_true,qnb]
   exact⟨h1.t z.1,h2.2.2 z.2⟩
theorem XS.consP (h:XE Γ a ρ (.ok x) en s t1) (hs:XS Γ es ρ (.ok y) enl nb t2):XS Γ (.cons a es) ρ (.ok (x,y)) (fun p=>en p.1::enl p.2) (s.nb&&nb) (t1&&t2):=XS.cons h hs
theorem qpg {d:D} {er:ER} (h:Is s t d er) (hs:s.nb=true):∃er',qcJ false er=.ok er'∧Is s t d er':=by
 have h1:=h.s
 have h2:=h.d
 have h3:=h.t
 cases er with
 |val d' b=>exact⟨_,rfl,h2,by cases s<;>simp_all[qjl,ER.isF,Sh.nb],fun z=>by have:=h3 z;show(_||_)=true;simp only[ER.b_val] at this;rw[this];rfl⟩
 |fre d' b=>exact⟨_,rfl,h⟩
 |brw d' b=>cases s<;>simp_all[qjl,ER.isF,Sh.nb]
theorem qoB {v:α} {er:ER} (h:Is s t (en v) er) (hs:qmS s t en) (hn:s.nb=true):∃er',qcJ true er=.ok er'∧Is s true (en v) er':=by
 have h1:=h.s
 have h2:=h.d
 have h3:=h.t
 cases er with
 |val d' b =>
  have h2:d'=en v:=h2
  subst h2
  have:(b||(en v).flat)=true:=by
   rcases hs with q | q | q
   ·have:b=true:=h3 q
    rw[this];rfl
   ·rw[q.2];simp
   ·rw[q.1] at h1;cases h1
  simp only[qcJ,this,if_true]
  exact⟨_,rfl,rfl,by cases s<;>simp_all[qjl,ER.isF,Sh.nb],fun z=>rfl⟩
 |fre d' b =>
  have h2:D.lst d'=en v:=h2
  have:(b||D.flats d')=true:=by
   rcases hs with q | q | q
   ·have:b=true:=h3 q
    rw[this];rfl
   ·rw[q.1] at h1;cases h1
   ·rw[q.2 v d' h2.symm];simp
  simp only[qcJ,this,if_true]
  exact⟨_,rfl,h2,by cases s<;>simp_all[qjl,ER.isF,Sh.nb],fun z=>rfl⟩
 |brw d' b=>cases s<;>simp_all[qjl,ER.isF,Sh.nb]
theorem qiL {r:List ER} {e:RE ER} {m:RE α} (h:XR e m fun v er=>Is s t (en v) er) (hr:r.all ER.isV=true) (hn:s.nb=true):XR (e.bind (qcJ (!r.all ER.isV))) m fun v er=>Is s t (en v) er:=by
 rw[hr]
 cases m with
 |bad=>trivial
 |exc c fs=>have h:e=_:=h;rw[h];rfl
 |ok v=>obtain⟨er,e1,h1⟩:=h;rw[e1];exact qpg h1 hn
theorem qgk {r:List ER} {e:RE ER} {m:RE α} (h:XR e m fun v er=>Is s t (en v) er) (hs:qmS s t en) (hr:r.all ER.isV=false) (hn:s.nb=true):XR (e.bind (qcJ (!r.all ER.isV))) m fun v er=>Is s true (en v) er:=by
 rw[hr]
 cases m with
 |bad=>trivial
 |exc c fs=>have h:e=_:=h;rw[h];rfl
 |ok v=>obtain⟨er,e1,h1⟩:=h;rw[e1];exact qoB h1 hs hn
theorem XE.callS {F:β→RE α} (hg:Γ.fn[k]? = some (nm,g)) (ha:XS Γ es ρ m2 enl nb t2) (hr:∀w,XR (g (enl w)) (F w) fun v er=>Is s t (en v) er) (hs:nb=true) (hn:s.nb=true):XE Γ (.call k es) ρ (m2.bind F) en s t:=by
 unfold XE;rw[ev,hg]
 exact XR.bind ha fun w ers h=>by
  show XR ((g (ers.map ER.d)).bind _) _ _
  rw[h.1];exact qiL (hr w) (h.2.1.trans hs) hn
theorem XE.callSb {F:β→RE α} (hg:Γ.fn[k]? = some (nm,g)) (ha:XS Γ es ρ m2 enl nb t2) (hr:∀w,XR (g (enl w)) (F w) fun v er=>Is s t (en v) er) (hs:nb=false) (hn:s.nb=true) (hf:qmS s t en):XE Γ (.call k es) ρ (m2.bind F) en s true:=by
 unfold XE;rw[ev,hg]
 exact XR.bind ha fun w ers h=>by
  show XR ((g (ers.map ER.d)).bind _) _ _
  rw[h.1];exact qgk (hr w) hf (h.2.1.trans hs) hn
theorem XE.callSP {m:RE α} (hg:Γ.fn[k]? = some (nm,g)) (ha:XS Γ es ρ (.ok y) enl nb t2) (hr:XR (g (enl y)) m fun v er=>Is s t (en v) er) (hs:nb=true) (hn:s.nb=true):XE Γ (.call k es) ρ m en s t:=by
 obtain⟨ers,e,h⟩:=ha
 unfold XE;rw[ev,hg,e]
 show XR ((g (ers.map ER.d)).bind _) _ _
 rw[h.1];exact qiL hr (h.2.1.trans hs) hn
theorem XE.callSPb {m:RE α} (hg:Γ.fn[k]? = some (nm,g)) (ha:XS Γ es ρ (.ok y) enl nb t2) (hr:XR (g (enl y)) m fun v er=>Is s t (en v) er) (hs:nb=false) (hn:s.nb=true) (hf:qmS s t en):XE Γ (.call k es) ρ m en s true:=by
 obtain⟨ers,e,h⟩:=ha
 unfold XE;rw[ev,hg,e]
 show XR ((g (ers.map ER.d)).bind _) _ _
 rw[h.1];exact qgk hr hf (h.2.1.trans hs) hn
end
section
variable {Γ:Env} {ρ:List Sl} {α β γ σ τ:Type} {en:α→D} {en2:β→D} {e:τ→D} {a b:Ex} {es:Exs} {s s1 s0:Sh} {t t1 t2 t0 nb:Bool} {m0:RE τ} {m1:RE α} {m2:RE β} {enl:β→List D} {x:τ} {y:β} {k:Nat} {cl:τ→Nat} {fs:τ→List D}
theorem XE.mthS {F:τ→β→RE α} (h:XE Γ a ρ m0 e s0 t0) (hI:∀v,e v=.ins (cl v) (fs v)) (ha:XS Γ es ρ m2 enl nb t2) (hr:∀x,∃g,Γ.mt (cl x) k=some g∧∀w,XR (g (e x::enl w)) (F x w) fun v er=>Is s t (en v) er) (hs:nb=true) (hn:s.nb=true):XE Γ (.mth k a es) ρ (m0.bind fun x=>m2.bind fun w=>F x w) en s t:=by
 unfold XE;rw[ev]
 exact XR.bind h fun v er h1=>by
  obtain⟨g,hg,hr⟩:=hr v
  rw[h1.d,hI]
  simp only[hg]
  exact XR.bind ha fun w ers h=>by rw[h.1,←hI];exact qiL (hr w) (h.2.1.trans hs) hn
theorem XE.mthSb {F:τ→β→RE α} (h:XE Γ a ρ m0 e s0 t0) (hI:∀v,e v=.ins (cl v) (fs v)) (ha:XS Γ es ρ m2 enl nb t2) (hr:∀x,∃g,Γ.mt (cl x) k=some g∧∀w,XR (g (e x::enl w)) (F x w) fun v er=>Is s t (en v) er) (hs:nb=false) (hn:s.nb=true) (hf:qmS s t en):XE Γ (.mth k a es) ρ (m0.bind fun x=>m2.bind fun w=>F x w) en s true:=by
 unfold XE;rw[ev]
 exact XR.bind h fun v er h1=>by
  obtain⟨g,hg,hr⟩:=hr v
  rw[h1.d,hI]
  simp only[hg]
  exact XR.bind ha fun w ers h=>by rw[h.1,←hI];exact qgk (hr w) hf (h.2.1.trans hs) hn
theorem XE.mthSP {m:RE α} (h:XE Γ a ρ (.ok x) e s0 t0) (hI:∀v,e v=.ins (cl v) (fs v)) (ha:XS Γ es ρ (.ok y) enl nb t2) (hr:∃g,Γ.mt (cl x) k=some g∧XR (g (e x::enl y)) m fun v er=>Is s t (en v) er) (hs:nb=true) (hn:s.nb=true):XE Γ (.mth k a es) ρ m en s t:=by
 obtain⟨er,e1,h1⟩:=h
 obtain⟨ers,e2,h2⟩:=ha
 obtain⟨g,hg,hr⟩:=hr
 unfold XE;rw[ev,e1]
 simp only[RE.bind_ok]
 rw[h1.d,hI]
 simp only[hg,e2,RE.bind_ok]
 rw[h2.1,←hI];exact qiL hr (h2.2.1.trans hs) hn
theorem XE.mthSPb {m:RE α} (h:XE Γ a ρ (.ok x) e s0 t0) (hI:∀v,e v=.ins (cl v) (fs v)) (ha:XS Γ es ρ (.ok y) enl nb t2) (hr:∃g,Γ.mt (cl x) k=some g∧XR (g (e x::enl y)) m fun v er=>Is s t (en v) er) (hs:nb=false) (hn:s.nb=true) (hf:qmS s t en):XE Γ (.mth k a es) ρ m en s true:=by
 obtain⟨er,e1,h1⟩:=h
 obtain⟨ers,e2,h2⟩:=ha
 obtain⟨g,hg,hr⟩:=hr
 unfold XE;rw[ev,e1]
 simp only[RE.bind_ok]
 rw[h1.d,hI]
 simp only[hg,e2,RE.bind_ok]
 rw[h2.1,←hI];exact qgk hr hf (h2.2.1.trans hs) hn
theorem XE.newS {c:Nat} {g:List D→RE (List D)} {F:β→RE α} (hg:Γ.nw[k]? = some (c,g)) (ha:XS Γ es ρ m2 enl nb t2) (hr:∀w,XR (g (enl w)) (F w) fun v fs=>en v=.ins c fs):XE Γ (.new k es) ρ (m2.bind F) en .v true:=by
 unfold XE;rw[ev,hg]
 exact XR.bind ha fun w ers h=>by
  show XR ((g (ers.map ER.d)).bind _) _ _
  rw[h.1]
  have e:F w=(F w).bind RE.ok:=by simp
  rw[e]
  exact XR.bind (hr w) fun v fs q=>⟨_,rfl,q.symm,rfl,fun _=>rfl⟩
theorem XE.newSP {c:Nat} {g:List D→RE (List D)} {m:RE α} (hg:Γ.nw[k]? = some (c,g)) (ha:XS Γ es ρ (.ok y) enl nb t2) (hr:XR (g (enl y)) m fun v fs=>en v=.ins c fs):XE Γ (.new k es) ρ m en .v true:=by
 obtain⟨ers,e,h⟩:=ha
 unfold XE;rw[ev,hg,e]
 show XR ((g (ers.map ER.d)).bind _) _ _
 rw[h.1]
 have e:m=m.bind RE.ok:=by simp
 rw[e]
 exact XR.bind hr fun v fs q=>⟨_,rfl,q.symm,rfl,fun _=>rfl⟩
theorem XE.fldG {f:Nat} {p:τ→α} {t:Bool} (ht:t=true→∀v,(en v).flat=true) (h:XE Γ a ρ m0 e s0 t0) (hI:∀v,e v=.ins (cl v) (fs v)) (hk:∀v,∃i,Γ.fi (cl v) f=some i∧(fs v)[i]? = some (en (p v))):XE Γ (.fld a f) ρ (m0.bind fun x=>.ok (p x)) en .v t:=by
 unfold XE;rw[ev]
 exact XR.bind h fun v er h1=>by
  obtain⟨i,e1,e2⟩:=hk v
  rw[h1.d,hI]
  simp only[e1,e2]
  exact quk rfl fun q=>ht q _
theorem XE.fld {f:Nat} {p:τ→α} (h:XE Γ a ρ m0 e s0 t0) (hI:∀v,e v=.ins (cl v) (fs v)) (hk:∀v,∃i,Γ.fi (cl v) f=some i∧(fs v)[i]? = some (en (p v))):XE Γ (.fld a f) ρ (m0.bind fun x=>.ok (p x)) en .v false:=XE.fldG (fun q=>nomatch q) h hI hk
theorem XE.fldP {f:Nat} {p:τ→α} (h:XE Γ a ρ (.ok x) e s0 t0) (hI:∀v,e v=.ins (cl v) (fs v)) (hk:∀v,∃i,Γ.fi (cl v) f=some i∧(fs v)[i]? = some (en (p v))):XE Γ (.fld a f) ρ (.ok (p x)) en .v false:=XE.fld h hI hk
theorem XE.fldF [Flat en] {f:Nat} {p:τ→α} (h:XE Γ a ρ m0 e s0 t0) (hI:∀v,e v=.ins (cl v) (fs v)) (hk:∀v,∃i,Γ.fi (cl v) f=some i∧(fs v)[i]? = some (en (p v))):XE Γ (.fld a f) ρ (m0.bind fun x=>.ok (p x)) en .v true:=XE.fldG (fun _=>Flat.flat (en:=en)) h hI hk
theorem XE.fldFP [Flat en] {f:Nat} {p:τ→α} (h:XE Γ a ρ (.ok x) e s0 t0) (hI:∀v,e v=.ins (cl v) (fs v)) (hk:∀v,∃i,Γ.fi (cl v) f=some i∧(fs v)[i]? = some (en (p v))):XE Γ (.fld a f) ρ (.ok (p x)) en .v true:=XE.fldF h hI hk
theorem XE.tupS {F:β→α} (ha:XS Γ es ρ m2 enl nb t) (hf:∀w,en (F w)=.tup (enl w)) (hs:nb=true):XE Γ (.tup es) ρ (m2.bind fun w=>.ok (F w)) en .v t:=by
 unfold XE;rw[ev]
 exact XR.bind ha fun w ers h=>by
  show XR (if ers.all ER.isV=true then _ else _) _ _
  rw[if_pos (h.2.1.trans hs)]
  exact quk (by rw[hf,h.1]) h.2.2
theorem XE.lstS {F:β→List α} (ha:XS Γ es ρ m2 enl nb t) (hf:∀w,(F w).map en=enl w) (hs:nb=true):XE Γ (.lst es) ρ (m2.bind fun w=>.ok (F w)) (eL en) .f t:=by
 unfold XE;rw[ev]
 exact XR.bind ha fun w ers h=>by
  show XR (if ers.all ER.isV=true then _ else _) _ _
  rw[if_pos (h.2.1.trans hs)]
  exact qn4 (by rw[eL,hf,h.1]) h.2.2
abbrev XLs (Γ:Env) (es:Exs) (ρ:List Sl) (xs:List α) (en:α→D) (t:Bool):Prop:=XS Γ es ρ (.ok xs) (fun xs=>xs.map en) true t
theorem XLs.nil:XLs Γ .nil ρ [] en true:=by unfold XLs;unfold XS;rw[evs];exact⟨_,rfl,rfl,rfl,fun _=>rfl⟩
theorem XLs.cons {x:α} {xs:List α} (h:XE Γ a ρ (.ok x) en s t1) (hn:s.nb=true) (hs:XLs Γ es ρ xs en t2):XLs Γ (.cons a es) ρ (x::xs) en (t1&&t2):=by
 have:=XS.consP h hs
 obtain⟨ers,e1,h1,h2,h3⟩:=this
 exact⟨ers,e1,h1,by rw[h2,hn];rfl,h3⟩
theorem XE.lstL {xs:List α} (ha:XLs Γ es ρ xs en t):XE Γ (.lst es) ρ (.ok xs) (eL en) .f t:=XE.lstS (F:=fun xs=>xs) ha (fun _=>rfl) rfl
theorem Rf.run {n m:Nat} {b:Sms} {as:List D} {mm:RE α} (hn:as.length=n) (h:BR Γ b (as.map (fun d=>Sl.val d d.flat)++List.replicate m .non) mm en s t):XR (qcM Γ n m b as) mm fun v er=>Is s t (en v) er:=by
 unfold qcM
 rw[if_pos hn]
 cases mm with
 |bad=>trivial
 |ok v =>
  obtain⟨er,e,h⟩:=h
  cases hr:qap Γ b (as.map (fun d=>Sl.val d d.flat)++List.replicate m .non)<;>rw[hr] at e<;>cases e
  exact⟨_,rfl,h⟩
 |exc c fs =>
  have h:(qap Γ b (as.map (fun d=>Sl.val d d.flat)++List.replicate m .non)).rt=_:=h
  cases hr:qap Γ b (as.map (fun d=>Sl.val d d.flat)++List.replicate m .non)<;>rw[hr] at h<;>cases h
  rfl
theorem Rf.weak {r:RE ER} {m:RE α} (h:Rf r m en s t) (hs:s.nb=true):Rf r m en .n t:=XR.mono h fun _ _ k=>k.weak hs
theorem Rf.low {r:RE ER} {m:RE α} (h:Rf r m en s t):Rf r m en s false:=XR.mono h fun _ _ k=>k.low
theorem Rf.mono {r:RE ER} {m:RE α} (h:Rf r m en s t) (hs:s.nb=true):Rf r m en .n false:=XR.mono h fun _ _ k=>(k.weak hs).low
end
end Cm
namespace Cm
section
variable {Γ:Env} {ρ:List Sl} {α:Type} {en:α→D} {s:Sh} {t:Bool}
theorem XE.mth0P {k:Nat} {τ:Type} {e:τ→D} {a:Ex} {sR:Sh} {tR:Bool} {x:τ}   {cl:τ→Nat} {fs:τ→List D} {F:τ→RE α} (h:XE Γ a ρ (.ok x) e sR tR) (hI:∀v,e v=.ins (cl v) (fs v))  (hr:∀x,∃g,Γ.mt (cl x) k=some g∧XR (g (e x::[])) (F x) fun v er=>Is s t (en v) er) (hs:true=true) (hn:s.nb=true):XE Γ (.mth k a .nil) ρ (F x) en s t:=XE.mthSP h hI XS.nil (hr x) hs hn
theorem XE.call1 {k:Nat} {nm:PySem.Str} {g:List D→RE ER} {τ0:Type} {e0:τ0→D} {a0:Ex} {s0:Sh} {t0:Bool} {m0:RE τ0} {F:τ0→RE α} (hg:Γ.fn[k]? = some (nm,g)) (h0:XE Γ a0 ρ m0 e0 s0 t0) (hr:∀x0,XR (g [e0 x0]) (F x0) fun v er=>Is s t (en v) er) (hs:(s0.nb&&true)=true) (hn:s.nb=true):XE Γ (.call k (.cons a0 .nil)) ρ (m0.bind fun x0=>F x0) en s t:=
 (XE.callS (F:=fun w=>F w.1) hg (XS.cons h0 XS.nil) (fun w=>hr _) hs hn).cast (by simp only[RE.bind_assoc,RE.bind_ok])
theorem XE.call1P {k:Nat} {nm:PySem.Str} {g:List D→RE ER} {τ0:Type} {e0:τ0→D} {a0:Ex} {s0:Sh} {t0:Bool} {x0:τ0} {m:RE α} (hg:Γ.fn[k]? = some (nm,g)) (h0:XE Γ a0 ρ (.ok x0) e0 s0 t0) (hr:XR (g [e0 x0]) m fun v er=>Is s t (en v) er) (hs:(s0.nb&&true)=true) (hn:s.nb=true):XE Γ (.call k (.cons a0 .nil)) ρ m en s t:=XE.callSP hg (XS.consP h0 XS.nil) hr hs hn
theorem XE.mth1 {k:Nat} {τ:Type} {e:τ→D} {a:Ex} {sR:Sh} {tR:Bool} {τ0:Type} {e0:τ0→D} {a0:Ex} {s0:Sh} {t0:Bool} {mR:RE τ} {m0:RE τ0} {cl:τ→Nat} {fs:τ→List D} {F:τ→τ0→RE α} (h:XE Γ a ρ mR e sR tR) (hI:∀v,e v=.ins (cl v) (fs v)) (h0:XE Γ a0 ρ m0 e0 s0 t0) (hr:∀x,∃g,Γ.mt (cl x) k=some g∧∀x0,XR (g (e x::[e0 x0])) (F x x0) fun v er=>Is s t (en v) er) (hs:(s0.nb&&true)=true) (hn:s.nb=true):XE Γ (.mth k a (.cons a0 .nil)) ρ (mR.bind fun x=>m0.bind fun x0=>F x x0) en s t:=
 (XE.mthS (F:=fun x w=>F x w.1) h hI (XS.cons h0 XS.nil) (fun x=>by obtain⟨g,h1,h2⟩:=hr x;exact⟨g,h1,fun w=>h2 _⟩) hs hn).cast (by simp only[RE.bind_assoc,RE.bind_ok])
theorem XE.call2 {k:Nat} {nm:PySem.Str} {g:List D→RE ER} {τ0:Type} {e0:τ0→D} {a0:Ex} {s0:Sh} {t0:Bool} {τ1:Type} {e1:τ1→D} {a1:Ex} {s1:Sh} {t1:Bool} {m0:RE τ0} {m1:RE τ1} {F:τ0→τ1→RE α} (hg:Γ.fn[k]? = some (nm,g)) (h0:XE Γ a0 ρ m0 e0 s0 t0) (h1:XE Γ a1 ρ m1 e1 s1 t1) (hr:∀x0 x1,XR (g [e0 x0,e1 x1]) (F x0 x1) fun v er=>Is s t (en v) er) (hs:(s0.nb&&(s1.nb&&true))=true) (hn:s.nb=true):XE Γ (.call k (.cons a0 (.cons a1 .nil))) ρ (m0.bind fun x0=>m1.bind fun x1=>F x0 x1) en s t:=
 (XE.callS (F:=fun w=>F w.1 w.2.1) hg (XS.cons h0 (XS.cons h1 XS.nil)) (fun w=>hr _ _) hs hn).cast (by simp only[RE.bind_assoc,RE.bind_ok])
theorem XE.call2P {k:Nat} {nm:PySem.Str} {g:List D→RE ER} {τ0:Type} {e0:τ0→D} {a0:Ex} {s0:Sh} {t0:Bool} {τ1:Type} {e1:τ1→D} {a1:Ex} {s1:Sh} {t1:Bool} {x0:τ0} {x1:τ1} {m:RE α} (hg:Γ.fn[k]? = some (nm,g)) (h0:XE Γ a0 ρ (.ok x0) e0 s0 t0) (h1:XE Γ a1 ρ (.ok x1) e1 s1 t1) (hr:XR (g [e0 x0,e1 x1]) m fun v er=>Is s t (en v) er) (hs:(s0.nb&&(s1.nb&&true))=true) (hn:s.nb=true):XE Γ (.call k (.cons a0 (.cons a1 .nil))) ρ m en s t:=XE.callSP hg (XS.consP h0 (XS.consP h1 XS.nil)) hr hs hn
theorem XE.call3 {k:Nat} {nm:PySem.Str} {g:List D→RE ER} {τ0:Type} {e0:τ0→D} {a0:Ex} {s0:Sh} {t0:Bool} {τ1:Type} {e1:τ1→D} {a1:Ex} {s1:Sh} {t1:Bool} {τ2:Type} {e2:τ2→D} {a2:Ex} {s2:Sh} {t2:Bool} {m0:RE τ0} {m1:RE τ1} {m2:RE τ2} {F:τ0→τ1→τ2→RE α} (hg:Γ.fn[k]? = some (nm,g)) (h0:XE Γ a0 ρ m0 e0 s0 t0) (h1:XE Γ a1 ρ m1 e1 s1 t1) (h2:XE Γ a2 ρ m2 e2 s2 t2) (hr:∀x0 x1 x2,XR (g [e0 x0,e1 x1,e2 x2]) (F x0 x1 x2) fun v er=>Is s t (en v) er) (hs:(s0.nb&&(s1.nb&&(s2.nb&&true)))=true) (hn:s.nb=true):XE Γ (.call k (.cons a0 (.cons a1 (.cons a2 .nil)))) ρ (m0.bind fun x0=>m1.bind fun x1=>m2.bind fun x2=>F x0 x1 x2) en s t:=
 (XE.callS (F:=fun w=>F w.1 w.2.1 w.2.2.1) hg (XS.cons h0 (XS.cons h1 (XS.cons h2 XS.nil))) (fun w=>hr _ _ _) hs hn).cast (by simp only[RE.bind_assoc,RE.bind_ok])
theorem XE.call3P {k:Nat} {nm:PySem.Str} {g:List D→RE ER} {τ0:Type} {e0:τ0→D} {a0:Ex} {s0:Sh} {t0:Bool} {τ1:Type} {e1:τ1→D} {a1:Ex} {s1:Sh} {t1:Bool} {τ2:Type} {e2:τ2→D} {a2:Ex} {s2:Sh} {t2:Bool} {x0:τ0} {x1:τ1} {x2:τ2} {m:RE α} (hg:Γ.fn[k]? = some (nm,g)) (h0:XE Γ a0 ρ (.ok x0) e0 s0 t0) (h1:XE Γ a1 ρ (.ok x1) e1 s1 t1) (h2:XE Γ a2 ρ (.ok x2) e2 s2 t2) (hr:XR (g [e0 x0,e1 x1,e2 x2]) m fun v er=>Is s t (en v) er) (hs:(s0.nb&&(s1.nb&&(s2.nb&&true)))=true) (hn:s.nb=true):XE Γ (.call k (.cons a0 (.cons a1 (.cons a2 .nil)))) ρ m en s t:=XE.callSP hg (XS.consP h0 (XS.consP h1 (XS.consP h2 XS.nil))) hr hs hn
theorem XE.call3Pb {k:Nat} {nm:PySem.Str} {g:List D→RE ER} {τ0:Type} {e0:τ0→D} {a0:Ex} {s0:Sh} {t0:Bool} {τ1:Type} {e1:τ1→D} {a1:Ex} {s1:Sh} {t1:Bool} {τ2:Type} {e2:τ2→D} {a2:Ex} {s2:Sh} {t2:Bool} {x0:τ0} {x1:τ1} {x2:τ2} {m:RE α} (hg:Γ.fn[k]? = some (nm,g)) (h0:XE Γ a0 ρ (.ok x0) e0 s0 t0) (h1:XE Γ a1 ρ (.ok x1) e1 s1 t1) (h2:XE Γ a2 ρ (.ok x2) e2 s2 t2) (hr:XR (g [e0 x0,e1 x1,e2 x2]) m fun v er=>Is s t (en v) er) (hs:(s0.nb&&(s1.nb&&(s2.nb&&true)))=false) (hn:s.nb=true) (hf:qmS s t en):XE Γ (.call k (.cons a0 (.cons a1 (.cons a2 .nil)))) ρ m en s true:=XE.callSPb hg (XS.consP h0 (XS.consP h1 (XS.consP h2 XS.nil))) hr hs hn hf
theorem XE.new3 {k c:Nat} {g:List D→RE (List D)} {τ0:Type} {e0:τ0→D} {a0:Ex} {s0:Sh} {t0:Bool} {τ1:Type} {e1:τ1→D} {a1:Ex} {s1:Sh} {t1:Bool} {τ2:Type} {e2:τ2→D} {a2:Ex} {s2:Sh} {t2:Bool} {m0:RE τ0} {m1:RE τ1} {m2:RE τ2} {F:τ0→τ1→τ2→RE α} (hg:Γ.nw[k]? = some (c,g)) (h0:XE Γ a0 ρ m0 e0 s0 t0) (h1:XE Γ a1 ρ m1 e1 s1 t1) (h2:XE Γ a2 ρ m2 e2 s2 t2) (hr:∀x0 x1 x2,XR (g [e0 x0,e1 x1,e2 x2]) (F x0 x1 x2) fun v fs=>en v=.ins c fs):XE Γ (.new k (.cons a0 (.cons a1 (.cons a2 .nil)))) ρ (m0.bind fun x0=>m1.bind fun x1=>m2.bind fun x2=>F x0 x1 x2) en .v true:=
 (XE.newS (F:=fun w=>F w.1 w.2.1 w.2.2.1) hg (XS.cons h0 (XS.cons h1 (XS.cons h2 XS.nil))) (fun w=>hr _ _ _)).cast (by simp only[RE.bind_assoc,RE.bind_ok])
theorem XE.new3P {k c:Nat} {g:List D→RE (List D)} {τ0:Type} {e0:τ0→D} {a0:Ex} {s0:Sh} {t0:Bool} {τ1:Type} {e1:τ1→D} {a1:Ex} {s1:Sh} {t1:Bool} {τ2:Type} {e2:τ2→D} {a2:Ex} {s2:Sh} {t2:Bool} {x0:τ0} {x1:τ1} {x2:τ2} {m:RE α} (hg:Γ.nw[k]? = some (c,g)) (h0:XE Γ a0 ρ (.ok x0) e0 s0 t0) (h1:XE Γ a1 ρ (.ok x1) e1 s1 t1) (h2:XE Γ a2 ρ (.ok x2) e2 s2 t2) (hr:XR (g [e0 x0,e1 x1,e2 x2]) m fun v fs=>en v=.ins c fs):XE Γ (.new k (.cons a0 (.cons a1 (.cons a2 .nil)))) ρ m en .v true:=XE.newSP hg (XS.consP h0 (XS.consP h1 (XS.consP h2 XS.nil))) hr
theorem XE.tup3 {τ0:Type} {e0:τ0→D} {a0:Ex} {s0:Sh} {t0:Bool} {τ1:Type} {e1:τ1→D} {a1:Ex} {s1:Sh} {t1:Bool} {τ2:Type} {e2:τ2→D} {a2:Ex} {s2:Sh} {t2:Bool} {m0:RE τ0} {m1:RE τ1} {m2:RE τ2} (h0:XE Γ a0 ρ m0 e0 s0 t0) (h1:XE Γ a1 ρ m1 e1 s1 t1) (h2:XE Γ a2 ρ m2 e2 s2 t2) (hs:(s0.nb&&(s1.nb&&(s2.nb&&true)))=true):XE Γ (.tup (.cons a0 (.cons a1 (.cons a2 .nil)))) ρ (m0.bind fun x0=>m1.bind fun x1=>m2.bind fun x2=>.ok (x0,x1,x2)) (eT3 e0 e1 e2) .v (t0&&(t1&&(t2&&true))):=
 (XE.tupS (F:=fun w=>(w.1,w.2.1,w.2.2.1)) (en:=eT3 e0 e1 e2) (XS.cons h0 (XS.cons h1 (XS.cons h2 XS.nil))) (fun w=>rfl) hs).cast (by simp only[RE.bind_assoc,RE.bind_ok])
theorem XE.tup3P {τ0:Type} {e0:τ0→D} {a0:Ex} {s0:Sh} {t0:Bool} {τ1:Type} {e1:τ1→D} {a1:Ex} {s1:Sh} {t1:Bool} {τ2:Type} {e2:τ2→D} {a2:Ex} {s2:Sh} {t2:Bool} {x0:τ0} {x1:τ1} {x2:τ2} (h0:XE Γ a0 ρ (.ok x0) e0 s0 t0) (h1:XE Γ a1 ρ (.ok x1) e1 s1 t1) (h2:XE Γ a2 ρ (.ok x2) e2 s2 t2) (hs:(s0.nb&&(s1.nb&&(s2.nb&&true)))=true):XE Γ (.tup (.cons a0 (.cons a1 (.cons a2 .nil)))) ρ (.ok (x0,x1,x2)) (eT3 e0 e1 e2) .v (t0&&(t1&&(t2&&true))):=XE.tup3 h0 h1 h2 hs
theorem XE.call4b {k:Nat} {nm:PySem.Str} {g:List D→RE ER} {τ0:Type} {e0:τ0→D} {a0:Ex} {s0:Sh} {t0:Bool} {τ1:Type} {e1:τ1→D} {a1:Ex} {s1:Sh} {t1:Bool} {τ2:Type} {e2:τ2→D} {a2:Ex} {s2:Sh} {t2:Bool} {τ3:Type} {e3:τ3→D} {a3:Ex} {s3:Sh} {t3:Bool} {m0:RE τ0} {m1:RE τ1} {m2:RE τ2} {m3:RE τ3} {F:τ0→τ1→τ2→τ3→RE α} (hg:Γ.fn[k]? = some (nm,g)) (h0:XE Γ a0 ρ m0 e0 s0 t0) (h1:XE Γ a1 ρ m1 e1 s1 t1) (h2:XE Γ a2 ρ m2 e2 s2 t2) (h3:XE Γ a3 ρ m3 e3 s3 t3) (hr:∀x0 x1 x2 x3,XR (g [e0 x0,e1 x1,e2 x2,e3 x3]) (F x0 x1 x2 x3) fun v er=>Is s t (en v) er) (hs:(s0.nb&&(s1.nb&&(s2.nb&&(s3.nb&&true))))=false) (hn:s.nb=true) (hf:qmS s t en):XE Γ (.call k (.cons a0 (.cons a1 (.cons a2 (.cons a3 .nil))))) ρ (m0.bind fun x0=>m1.bind fun x1=>m2.bind fun x2=>m3.bind fun x3=>F x0 x1 x2 x3) en s true:=
 (XE.callSb (F:=fun w=>F w.1 w.2.1 w.2.2.1 w.2.2.2.1) hg (XS.cons h0 (XS.cons h1 (XS.cons h2 (XS.cons h3 XS.nil)))) (fun w=>hr _ _ _ _) hs hn hf).cast (by simp only[RE.bind_assoc,RE.bind_ok])
theorem XE.call4P {k:Nat} {nm:PySem.Str} {g:List D→RE ER} {τ0:Type} {e0:τ0→D} {a0:Ex} {s0:Sh} {t0:Bool} {τ1:Type} {e1:τ1→D} {a1:Ex} {s1:Sh} {t1:Bool} {τ2:Type} {e2:τ2→D} {a2:Ex} {s2:Sh} {t2:Bool} {τ3:Type} {e3:τ3→D} {a3:Ex} {s3:Sh} {t3:Bool} {x0:τ0} {x1:τ1} {x2:τ2} {x3:τ3} {m:RE α} (hg:Γ.fn[k]? = some (nm,g)) (h0:XE Γ a0 ρ (.ok x0) e0 s0 t0) (h1:XE Γ a1 ρ (.ok x1) e1 s1 t1) (h2:XE Γ a2 ρ (.ok x2) e2 s2 t2) (h3:XE Γ a3 ρ (.ok x3) e3 s3 t3) (hr:XR (g [e0 x0,e1 x1,e2 x2,e3 x3]) m fun v er=>Is s t (en v) er) (hs:(s0.nb&&(s1.nb&&(s2.nb&&(s3.nb&&true))))=true) (hn:s.nb=true):XE Γ (.call k (.cons a0 (.cons a1 (.cons a2 (.cons a3 .nil))))) ρ m en s t:=XE.callSP hg (XS.consP h0 (XS.consP h1 (XS.consP h2 (XS.consP h3 XS.nil)))) hr hs hn
theorem XE.call4Pb {k:Nat} {nm:PySem.Str} {g:List D→RE ER} {τ0:Type} {e0:τ0→D} {a0:Ex} {s0:Sh} {t0:Bool} {τ1:Type} {e1:τ1→D} {a1:Ex} {s1:Sh} {t1:Bool} {τ2:Type} {e2:τ2→D} {a2:Ex} {s2:Sh} {t2:Bool} {τ3:Type} {e3:τ3→D} {a3:Ex} {s3:Sh} {t3:Bool} {x0:τ0} {x1:τ1} {x2:τ2} {x3:τ3} {m:RE α} (hg:Γ.fn[k]? = some (nm,g)) (h0:XE Γ a0 ρ (.ok x0) e0 s0 t0) (h1:XE Γ a1 ρ (.ok x1) e1 s1 t1) (h2:XE Γ a2 ρ (.ok x2) e2 s2 t2) (h3:XE Γ a3 ρ (.ok x3) e3 s3 t3) (hr:XR (g [e0 x0,e1 x1,e2 x2,e3 x3]) m fun v er=>Is s t (en v) er) (hs:(s0.nb&&(s1.nb&&(s2.nb&&(s3.nb&&true))))=false) (hn:s.nb=true) (hf:qmS s t en):XE Γ (.call k (.cons a0 (.cons a1 (.cons a2 (.cons a3 .nil))))) ρ m en s true:=XE.callSPb hg (XS.consP h0 (XS.consP h1 (XS.consP h2 (XS.consP h3 XS.nil)))) hr hs hn hf
theorem XE.new4 {k c:Nat} {g:List D→RE (List D)} {τ0:Type} {e0:τ0→D} {a0:Ex} {s0:Sh} {t0:Bool} {τ1:Type} {e1:τ1→D} {a1:Ex} {s1:Sh} {t1:Bool} {τ2:Type} {e2:τ2→D} {a2:Ex} {s2:Sh} {t2:Bool} {τ3:Type} {e3:τ3→D} {a3:Ex} {s3:Sh} {t3:Bool} {m0:RE τ0} {m1:RE τ1} {m2:RE τ2} {m3:RE τ3} {F:τ0→τ1→τ2→τ3→RE α} (hg:Γ.nw[k]? = some (c,g)) (h0:XE Γ a0 ρ m0 e0 s0 t0) (h1:XE Γ a1 ρ m1 e1 s1 t1) (h2:XE Γ a2 ρ m2 e2 s2 t2) (h3:XE Γ a3 ρ m3 e3 s3 t3) (hr:∀x0 x1 x2 x3,XR (g [e0 x0,e1 x1,e2 x2,e3 x3]) (F x0 x1 x2 x3) fun v fs=>en v=.ins c fs):XE Γ (.new k (.cons a0 (.cons a1 (.cons a2 (.cons a3 .nil))))) ρ (m0.bind fun x0=>m1.bind fun x1=>m2.bind fun x2=>m3.bind fun x3=>F x0 x1 x2 x3) en .v true:=
 (XE.newS (F:=fun w=>F w.1 w.2.1 w.2.2.1 w.2.2.2.1) hg (XS.cons h0 (XS.cons h1 (XS.cons h2 (XS.cons h3 XS.nil)))) (fun w=>hr _ _ _ _)).cast (by simp only[RE.bind_assoc,RE.bind_ok])
theorem XE.new4P {k c:Nat} {g:List D→RE (List D)} {τ0:Type} {e0:τ0→D} {a0:Ex} {s0:Sh} {t0:Bool} {τ1:Type} {e1:τ1→D} {a1:Ex} {s1:Sh} {t1:Bool} {τ2:Type} {e2:τ2→D} {a2:Ex} {s2:Sh} {t2:Bool} {τ3:Type} {e3:τ3→D} {a3:Ex} {s3:Sh} {t3:Bool} {x0:τ0} {x1:τ1} {x2:τ2} {x3:τ3} {m:RE α} (hg:Γ.nw[k]? = some (c,g)) (h0:XE Γ a0 ρ (.ok x0) e0 s0 t0) (h1:XE Γ a1 ρ (.ok x1) e1 s1 t1) (h2:XE Γ a2 ρ (.ok x2) e2 s2 t2) (h3:XE Γ a3 ρ (.ok x3) e3 s3 t3) (hr:XR (g [e0 x0,e1 x1,e2 x2,e3 x3]) m fun v fs=>en v=.ins c fs):XE Γ (.new k (.cons a0 (.cons a1 (.cons a2 (.cons a3 .nil))))) ρ m en .v true:=XE.newSP hg (XS.consP h0 (XS.consP h1 (XS.consP h2 (XS.consP h3 XS.nil)))) hr
end
end Cm
namespace Cm
open PySem PySem.Spec PyProof.Rows L2
section
variable {Γ:Env} {ρ:List Sl} {α β γ δ:Type} {en:α→D} {en2:β→D} {en3:γ→D} {a b c e:Ex} {s s1 s2 s3:Sh} {t t1 t2 t3:Bool} {m:RE α} {x:α} {y:β} {z:γ}
theorem XE.binR {o:Bop} {m1:RE α} {f:α→RE γ} (ha:XE Γ a ρ m1 en s1 t1) (hb:XE Γ b ρ (.ok y) en2 s2 t2) (h:∀x bb,((t1&&t2)=true→bb=true)→XR (evB o (en x) (en2 y) bb) (f x) fun v er=>Is s t (en3 v) er):XE Γ (.bin o a b) ρ (m1.bind f) en3 s t:=by
 cases m1 with
 |bad=>trivial
 |ok x=>exact XE.binP ha hb (h x)
 |exc c fs=>have ha:ev Γ a ρ=_:=ha;unfold XE;rw[ev,ha];rfl
theorem XE.binL {o:Bop} {m2:RE β} {f:β→RE γ} (ha:XE Γ a ρ (.ok x) en s1 t1) (hb:XE Γ b ρ m2 en2 s2 t2) (h:∀y bb,((t1&&t2)=true→bb=true)→XR (evB o (en x) (en2 y) bb) (f y) fun v er=>Is s t (en3 v) er):XE Γ (.bin o a b) ρ (m2.bind f) en3 s t:=by
 cases m2 with
 |bad=>trivial
 |ok y=>exact XE.binP ha hb (h y)
 |exc c fs =>
  obtain⟨er,e1,_⟩:=ha
  have hb:ev Γ b ρ=_:=hb
  unfold XE;rw[ev,e1,hb];rfl
theorem XE.cmpR {o:Cop} {m1:RE α} {f:α→RE Bool} (ha:XE Γ a ρ m1 en s1 t1) (hb:XE Γ b ρ (.ok y) en2 s2 t2) (h:∀x,evC o (en x) (en2 y)=f x):XE Γ (.cmp o a b) ρ (m1.bind f) eB .v true:=by
 cases m1 with
 |bad=>trivial
 |ok x=>exact XE.cmpP ha hb (h x)
 |exc c fs=>have ha:ev Γ a ρ=_:=ha;unfold XE;rw[ev,ha];rfl
theorem XE.cmpL {o:Cop} {m2:RE β} {f:β→RE Bool} (ha:XE Γ a ρ (.ok x) en s1 t1) (hb:XE Γ b ρ m2 en2 s2 t2) (h:∀y,evC o (en x) (en2 y)=f y):XE Γ (.cmp o a b) ρ (m2.bind f) eB .v true:=by
 cases m2 with
 |bad=>trivial
 |ok y=>exact XE.cmpP ha hb (h y)
 |exc c fs =>
  obtain⟨er,e1,_⟩:=ha
  have hb:ev Γ b ρ=_:=hb
  unfold XE;rw[ev,e1,hb];rfl
theorem XE.nev {e:Ex}:XE Γ e ρ (.bad:RE α) en s t:=trivial
def eTL {α:Type} (en:α→D) (xs:List α):D:=.tup (xs.map en)
theorem XE.tupL {es:Exs} {xs:List α} (ha:XLs Γ es ρ xs en t):XE Γ (.tup es) ρ (.ok xs) (eTL en) .v t:=XE.tupS (F:=fun xs=>xs) ha (fun _=>rfl) rfl
def qtM (x:List Nat) (ts:List (List Nat)):RE Bool:=if ((D.str x).fit 0&&D.fits (ts.map eS) 0)=true then .ok (decide (x∈ts)) else .bad
def qqu (x:List Nat) (ts:List (List Nat)):RE Bool:=(qtM x ts).bind fun b=>.ok (!b)
theorem ql7 (x:List Nat):∀ts:List (List Nat),((ts.map D.str).any fun z=>z.eqb (.str x))=decide (x∈ts)
 |[]=>by simp
 |n::ts=>by
  show(D.eqb (.str n) (.str x)||(ts.map D.str).any fun z=>z.eqb (.str x))=_
  rw[ql7 x ts]
  simp only[D.eqb,List.mem_cons]
  by_cases h:n=x
  ·subst h;simp
  ·have:¬x=n:=fun e=>h e.symm
   simp[h,this]
theorem quF {α β:Type} (o:Cop) (e1:α→D) (e2:β→D) (x:α) (y:β):evC o (e1 x) (e2 y)=evC o (e1 x) (e2 y):=rfl
theorem qrg (x:List Nat) (ts:List (List Nat)):evC .isin (eS x) (eTL eS ts)=qtM x ts:=by
 show(if ((D.str x).fit 0&&D.fits (ts.map eS) 0)=true then RE.ok ((ts.map D.str).any fun z=>z.eqb (.str x)) else .bad)=_
 rw[ql7];rfl
theorem qsE (x:List Nat) (ts:List (List Nat)):evC .nin (eS x) (eTL eS ts)=qqu x ts:=by
 show(evC .isin (eS x) (eTL eS ts)).bind _=_
 rw[qrg];rfl
theorem qnE {f:α→β} (k:∀v,en v=en2 (f v)) (v:List α):eL en v=eL en2 (v.map f):=by
 unfold eL
 rw[List.map_map]
 congr 1
 exact List.map_congr_left fun x _=>k x
theorem SlV.coe {f:α→β} {q:Sl} (h:SlV t (en x) q) (k:∀v,en v=en2 (f v)):SlV t (en2 (f x)) q:=by rw[←k];exact h
def Dec {α β:Type} (en:α→D) (en2:β→D) (f:α→RE β):Prop:=∀v,f v=.bad∨∃w,f v=.ok w∧en v=en2 w
theorem XE.dec {f:α→RE β} (h:XE Γ e ρ (.ok x) en s t) (k:Dec en en2 f):XE Γ e ρ (f x) en2 s t:=by
 rcases k x with k | ⟨w,q,k⟩
 ·rw[k];trivial
 ·rw[q];obtain⟨er,e1,e2⟩:=h;exact⟨er,e1,by rw[←k];exact e2.d,e2.s,e2.t⟩
def dI:D→RE Int
 |.int i=>.ok i
 |_=>.bad
def dS:D→RE (List Nat)
 |.str i=>.ok i
 |_=>.bad
def dLs (f:α→RE β):List α→RE (List β)
 |[]=>.ok []
 |x::xs=>(f x).bind fun y=>(dLs f xs).bind fun ys=>.ok (y::ys)
def dL (f:D→RE β):D→RE (List β)
 |.lst xs=>dLs f xs
 |_=>.bad
def dT5 {α0 α1 α2 α3:Type} (f:α→RE β) (p:α0 × α1 × α2 × α3 × α):RE (α0 × α1 × α2 × α3 × β):=(f p.2.2.2.2).bind fun y=>.ok (p.1,p.2.1,p.2.2.1,p.2.2.2.1,y)
def dTH:D→RE (List Nat × Int × Int × Int × List D)
 |.tup [.str k,.int r,.int c,.int g,.lst m]=>.ok (k,r,c,g,m)
 |_=>.bad
theorem qwf:Dec eD eS dS:=fun v=>by cases v<;>first | exact .inl rfl | exact .inr ⟨_,rfl,rfl⟩
def dP2:D→RE (D × D)
 |.tup [a,b]=>.ok (a,b)
 |_=>.bad
def thD (p:List Nat × Int × Int × Int × List Int):List Nat × Int × Int × Int × List D:=(p.1,p.2.1,p.2.2.1,p.2.2.2.1,p.2.2.2.2.map eI)
def t5L {α0 α1 α2 α3 α:Type} (g:α→D) (p:α0 × α1 × α2 × α3 × List α):α0 × α1 × α2 × α3 × List D:=(p.1,p.2.1,p.2.2.1,p.2.2.2.1,p.2.2.2.2.map g)
def qky (x:List Int):RE Int:=gd (Nat.ble x.length 1000) (.ok (qqw x:Int))
theorem XE.lset {m:RE (List Int)} (h:XE Γ a ρ m (eL eI) s t):XE Γ (.lset a) ρ (m.bind qky) eI .v true:=by
 unfold XE;rw[ev]
 exact XR.bind h fun v er k=>by
  rw[k.d]
  simp only[ql2,eL,qbI]
  exact xgd (xok rfl)
theorem XE.lsetP {x:List Int} (h:XE Γ a ρ (.ok x) (eL eI) s t):XE Γ (.lset a) ρ (qky x) eI .v true:=XE.lset h
def qcE (x y:List Nat):RE (List (List Nat)):=gd (qvK y.length x.length) (.ok ((Txt.split (qaA x) (qaA y)).map fun z=>z.cps.toList))
def qwk (x y:List Nat):RE Int:=.ok (Txt.find (qaA x) (qaA y))
def qee (s:List Nat) (ss:List (List Nat)):RE (List Nat):=gd (leB ((ss.map List.length).sum+ss.length*s.length)) (.ok (Txt.join (qaA s) (ss.map qaA)).cps.toList)
theorem XE.split {m1 m2:RE (List Nat)} (ha:XE Γ a ρ m1 eS s1 t1) (hb:XE Γ b ρ m2 eS s2 t2):XE Γ (.bm1 .split a b) ρ (m1.bind fun x=>m2.bind fun y=>qcE x y) (eL eS) .f true:=by
 unfold XE;rw[ev]
 exact XR.bind ha fun v er k=>by
  rw[k.d]
  exact XR.bind hb fun w er' k'=>by
   rw[k'.d]
   exact xgd (qn4 (by simp[eL,List.map_map,Function.comp_def]) fun _=>rfl)
theorem XE.find {m1 m2:RE (List Nat)} (ha:XE Γ a ρ m1 eS s1 t1) (hb:XE Γ b ρ m2 eS s2 t2):XE Γ (.bm1 .find a b) ρ (m1.bind fun x=>m2.bind fun y=>qwk x y) eI .v true:=by
 unfold XE;rw[ev]
 exact XR.bind ha fun v er k=>by
  rw[k.d]
  exact XR.bind hb fun w er' k'=>by rw[k'.d];exact xok rfl
theorem XE.join {m1:RE (List Nat)} {m2:RE (List (List Nat))} (ha:XE Γ a ρ m1 eS s1 t1) (hb:XE Γ b ρ m2 (eL eS) s2 t2):XE Γ (.bm1 .join a b) ρ (m1.bind fun x=>m2.bind fun y=>qee x y) eS .v true:=by
 unfold XE;rw[ev]
 exact XR.bind ha fun v er k=>by
  rw[k.d]
  exact XR.bind hb fun w er' k'=>by
   rw[k'.d]
   simp only[evM,eL,qh0]
   exact xgd (xok rfl)
theorem XE.joinP {x:List Nat} {y:List (List Nat)} (ha:XE Γ a ρ (.ok x) eS s1 t1) (hb:XE Γ b ρ (.ok y) (eL eS) s2 t2):XE Γ (.bm1 .join a b) ρ (qee x y) eS .v true:=XE.join ha hb
def qj3 (x y:List Nat):RE Int:=match PySem.Builtin.Str.occurrences (qaA x) (qaA y) 0 x.length 1 with
 |j::_=>.ok ((j:Nat):Int)
 |[]=>.bad
theorem XE.inxS {m1 m2:RE (List Nat)} (ha:XE Γ a ρ m1 eS s1 t1) (hb:XE Γ b ρ m2 eS s2 t2):XE Γ (.inxS a b) ρ (m1.bind fun x=>m2.bind fun y=>qj3 x y) eI .v true:=by
 unfold XE;rw[ev]
 exact XR.bind ha fun v er k=>by
  rw[k.d]
  exact XR.bind hb fun w er' k'=>by
   rw[k'.d]
   simp only[ql5,qj3]
   cases PySem.Builtin.Str.occurrences (qaA v) (qaA w) 0 v.length 1 with
   |nil=>trivial
   |cons j js=>exact xok rfl
theorem XE.inxSP {x y:List Nat} (ha:XE Γ a ρ (.ok x) eS s1 t1) (hb:XE Γ b ρ (.ok y) eS s2 t2):XE Γ (.inxS a b) ρ (qj3 x y) eI .v true:=XE.inxS ha hb
def qsa (xs:List Int) (y:Int):RE Int:=match xs.findIdx? (fun x=>decide (x=y)) with
 |some j=>.ok (j:Int)
 |none=>.bad
def mmE (k:Bool) (x:List Int) (y:Int):RE Int:=.ok (qvo k x y)
theorem XE.mmd {k:Bool} {m1:RE (List Int)} {m2:RE Int} (ha:XE Γ a ρ m1 (eL eI) s1 t1) (hb:XE Γ b ρ m2 eI s2 t2):XE Γ (.mmd k a b) ρ (m1.bind fun x=>m2.bind fun y=>mmE k x y) eI .v true:=by
 unfold XE;rw[ev]
 exact XR.bind ha fun v er q=>by
  rw[q.d]
  exact XR.bind hb fun w er' q'=>by
   rw[q'.d]
   show XR (quP k (.lst (v.map D.int)) (.int w)) _ _
   unfold quP mmE
   simp only[qbI]
   exact xok rfl
def qvl (en:α→D) (en2:β→D) (xs:List α) (y:β):RE Int:=(qhX (xs.map en) (en2 y)).bind fun r=>match r.d with
 |.int i=>.ok i
 |_=>.bad
theorem XE.inxL {m1:RE (List α)} {m2:RE β} (ha:XE Γ a ρ m1 (eL en) s1 t1) (hb:XE Γ b ρ m2 en2 s2 t2):XE Γ (.inxL a b) ρ (m1.bind fun x=>m2.bind fun y=>qvl en en2 x y) eI .v true:=by
 unfold XE;rw[ev]
 exact XR.bind ha fun v er k=>by
  rw[k.d]
  exact XR.bind hb fun w er' k'=>by
   rw[k'.d]
   show XR (qhX (v.map en) (en2 w)) _ _
   unfold qvl qhX
   split
   ·cases idxD (en2 w) (v.map en) with
    |none=>trivial
    |some j=>exact xok rfl
   ·trivial
theorem XE.cntL {m1:RE (List Int)} {m2:RE Int} (ha:XE Γ a ρ m1 (eL eI) s1 t1) (hb:XE Γ b ρ m2 eI s2 t2):XE Γ (.cntL a b) ρ (m1.bind fun x=>m2.bind fun y=>.ok (List.count y x:Int)) eI .v true:=by
 unfold XE;rw[ev]
 exact XR.bind ha fun v er k=>by
  rw[k.d]
  exact XR.bind hb fun w er' k'=>by
   rw[k'.d]
   simp only[qpL,qbI]
   exact xok rfl
def qme (d:D) (k:Int):RE D:=match d with
 |.lst xs=>atE xs k
 |.tup xs=>atE xs k
 |_=>.bad
theorem XE.idxD {m1:RE D} {m2:RE Int} (ha:XE Γ a ρ m1 eD s1 t) (hb:XE Γ b ρ m2 eI s2 t2):XE Γ (.idx a b) ρ (m1.bind fun x=>m2.bind fun k=>qme x k) eD .v t:=by
 unfold XE;rw[ev]
 exact XR.bind ha fun v er k=>XR.bind hb fun w er' k'=>by
  rw[k.d,k'.d]
  unfold eD eI qme atE
  cases v with
  |lst xs =>
   simp only[qtG]
   cases L2.atI xs w with
   |none=>trivial
   |some x=>exact⟨_,rfl,rfl,rfl,fun z=>by show(_||_)=true;rw[k.t z];rfl⟩
  |tup xs =>
   simp only[qtG]
   cases L2.atI xs w with
   |none=>trivial
   |some x=>exact⟨_,rfl,rfl,rfl,fun z=>by show(_||_)=true;rw[k.t z];rfl⟩
  |_=>trivial
def qxq (d:D):RE Int:=match d with
 |.lst xs=>.ok xs.length
 |.tup xs=>.ok xs.length
 |_=>.bad
theorem qte (x:α × β × γ) (e:ER) (h:e.d=eT3 en en2 en3 x) (_:t=true→e.b=true):XR (evP .len [e]) (.ok 3) fun v er=>Is .v true (eI v) er:=by
 simp only[evP,h,eT3];exact xok rfl
def qxl (d:D):RE (List D):=match d with
 |.lst xs=>.ok xs
 |.tup xs=>.ok xs
 |_=>.bad
theorem qrw {α β:Type} (f:α→β) (m:RE (List α)):(m.bind fun xs=>gd (leB xs.length) (.ok (xs.map f)))=m.bind fun xs=>gd (leB xs.length) (lcE (fun _=>.ok true) (fun x=>.ok (f x)) xs):=by
 congr 1;funext xs;rw[qnI,qn7]
end
theorem qvq {g:List D→RE ER} {ns:List Int} {m:RE Bool} {t:Bool} (h:Rf (g [eL eI ns]) m eB .v t) (e:m=.ok true):∃b,g [.lst (ns.map D.int)]=.ok (.val (.bl true) b):=by
 rw[e] at h
 obtain⟨er,e1,e2⟩:=h
 have h1:=e2.d
 have h2:=e2.s
 cases er with
 |val d b=>cases h1;exact⟨b,e1⟩
 |fre d b=>cases h2
 |brw d b=>cases h2
def tryE {α:Type} (T:Nat→Option Bool) (x:Option Nat):RE α→RE (Option Nat)
 |.bad=>.bad
 |.ok _=>.ok x
 |.exc c fs=>match T c,fs with
  |some true,[]=>.ok (some c)
  |some false,fs=>.exc c fs
  |_,_=>.bad
def tryA {α:Type} (T:Nat→Option Bool) (x:Option Nat) (y:α):RE α→RE (Option Nat × α)
 |.bad=>.bad
 |.ok v=>.ok (x,v)
 |.exc c fs=>match T c,fs with
  |some true,[]=>.ok (some c,y)
  |some false,fs=>.exc c fs
  |_,_=>.bad
section
variable {Γ:Env} {ρ:List Sl} {α:Type} {en:α→D} {e a:Ex} {s:Sh} {t t1:Bool} {m:RE α}
theorem SN.tryE {T:Nat→Option Bool} {k i j:Nat} {x:Option Nat} {qi qj:Sl} (h:XE Γ e ρ m en s t1) (hT:Γ.ck[k]? = some T) (hij:(if i=j then false else true)=true) (h0:ρ[j]? = some qj) (hq:SlV t (eO eX x) qj) (ρ₂:Sl→Sl→List Sl) (hset:∀q r,(ρ.set j q).set i r=ρ₂ q r) (hid:∀r,ρ[i]? = some r→ρ=ρ₂ qj r) (hi:i<ρ.length) :
  SN Γ (.tryx k i j (.ex e)) ρ (Cm.tryE T x m) fun v ρ'=>∃q r,ρ'=ρ₂ q r∧SlV t (eO eX v) q:=by
 have hij:i≠j:=fun e=>by rw[if_pos e] at hij;cases hij
 unfold SN
 rw[Cm.run,trB,hT]
 cases m with
 |bad=>trivial
 |ok v =>
  obtain⟨er,e1,e2⟩:=h
  rw[e1]
  exact⟨ρ,rfl,qj,ρ[i],hid _ (List.getElem?_eq_getElem hi),hq⟩
 |exc c fs =>
  have h:ev Γ e ρ=_:=h
  rw[h]
  simp only[Cm.tryE,RE.bind_exc,trX,if_neg hij]
  cases hc:T c with
  |none=>trivial
  |some b =>
   cases b with
   |false=>exact rfl
   |true =>
    cases fs with
    |nil=>exact⟨_,rfl,_,_,hset _ _,_,rfl,fun _=>rfl⟩
    |cons _ _=>trivial
theorem SN.tryA {T:Nat→Option Bool} {k i j z:Nat} {x:Option Nat} {y:α} {qj qz:Sl} (h:XE Γ e ρ m en s t1) (hs:s.nb=true) (hT:Γ.ck[k]? = some T) (hij:(if i=j then false else true)=true) (h0:ρ[j]? = some qj) (hq:SlV t (eO eX x) qj) (h1:ρ[z]? = some qz) (hz:SlV t1 (en y) qz) (ρ₂:Sl→Sl→Sl→List Sl)
  (hset:∀q r,(ρ.set j q).set i r=ρ₂ q qz r) (hset2:∀r q,ρ[i]? = some r→ρ.set z q=ρ₂ qj q r) (hi:i<ρ.length) :
  SN Γ (.tryx k i j (.as z e)) ρ (Cm.tryA T x y m) fun v ρ'=>∃q r u,ρ'=ρ₂ q r u∧SlV t (eO eX v.1) q∧SlV t1 (en v.2) r:=by
 have hij:i≠j:=fun e=>by rw[if_pos e] at hij;cases hij
 unfold SN
 rw[Cm.run,trB,hT]
 cases m with
 |bad=>trivial
 |ok v =>
  obtain⟨er,e1,e2⟩:=h
  rw[e1]
  have h1:=e2.s
  have h2:=e2.d
  have h3:=e2.t
  cases er with
  |val d b=>simp only[RE.bind_ok,trX,Cm.tryA];exact⟨_,rfl,qj,_,_,hset2 _ _ (List.getElem?_eq_getElem hi),hq,b,by rw[←h2];rfl,h3⟩
  |fre d b=>simp only[RE.bind_ok,trX,Cm.tryA];exact⟨_,rfl,qj,_,_,hset2 _ _ (List.getElem?_eq_getElem hi),hq,b,by rw[←h2];rfl,h3⟩
  |brw d b=>cases s<;>simp_all[qjl,ER.isF,Sh.nb]
 |exc c fs =>
  have h:ev Γ e ρ=_:=h
  rw[h]
  simp only[Cm.tryA,RE.bind_exc,trX,if_neg hij]
  cases hc:T c with
  |none=>trivial
  |some b =>
   cases b with
   |false=>exact rfl
   |true =>
    cases fs with
    |nil=>exact⟨_,rfl,_,qz,_,hset _ _,⟨_,rfl,fun _=>rfl⟩,hz⟩
    |cons _ _=>trivial
def qwY (T:Nat→Option Bool):Option Nat→RE Bool
 |some c=>match T c with
  |some b=>.ok b
  |none=>.bad
 |none=>.bad
theorem XE.isc {T:Nat→Option Bool} {k:Nat} {x:Option Nat} (h:XE Γ a ρ (.ok x) (eO eX) s t) (hT:Γ.ck[k]? = some T):XE Γ (.isc a k) ρ (qwY T x) eB .v true:=by
 obtain⟨er,e1,e2⟩:=h
 unfold XE;rw[ev,e1]
 simp only[RE.bind_ok]
 rw[e2.d,hT]
 cases x with
 |none=>trivial
 |some c =>
  show XR (match T c with
   |some b=>ok (.bl b)
   |none=>.bad) (match T c with
   |some b=>.ok b
   |none=>.bad) _
  cases T c with
  |none=>trivial
  |some b=>exact xok rfl
def qwa (Ts:List (Option (Nat→Option Bool))):Option Nat→RE Bool
 |some c=>match qqU Ts c with
  |some b=>.ok b
  |none=>.bad
 |none=>.bad
theorem XE.iscT {Ts:List (Option (Nat→Option Bool))} {ks:List Nat} {x:Option Nat} (h:XE Γ a ρ (.ok x) (eO eX) s t) (hT:(ks.map fun k=>Γ.ck[k]?)=Ts):XE Γ (.iscT a ks) ρ (qwa Ts x) eB .v true:=by
 obtain⟨er,e1,e2⟩:=h
 unfold XE;rw[ev,e1]
 simp only[RE.bind_ok]
 rw[e2.d,hT]
 cases x with
 |none=>trivial
 |some c =>
  show XR (match qqU Ts c with
   |some b=>ok (.bl b)
   |none=>.bad) (match qqU Ts c with
   |some b=>.ok b
   |none=>.bad) _
  cases qqU Ts c with
  |none=>trivial
  |some b=>exact xok rfl
def qvO (T:Nat→Option Bool) (cl:α→Nat) (x:α):RE Bool:=match T (cl x) with
 |some b=>.ok b
 |none=>.bad
theorem XE.isik {T:Nat→Option Bool} {k:Nat} {x:α} {cl:α→Nat} {fs:α→List D} (h:XE Γ a ρ (.ok x) en s t) (hI:∀v,en v=.ins (cl v) (fs v)) (hT:Γ.ik[k]? = some T):XE Γ (.isc a k) ρ (qvO T cl x) eB .v true:=by
 obtain⟨er,e1,e2⟩:=h
 unfold XE;rw[ev,e1]
 simp only[RE.bind_ok]
 rw[e2.d,hT,hI]
 show XR (match T (cl x) with
   |some b=>ok (.bl b)
   |none=>.bad) (match T (cl x) with
   |some b=>.ok b
   |none=>.bad) _
 cases T (cl x) with
 |none=>trivial
 |some b=>exact xok rfl
def qwA (n:Int):RE (List Int):=gd (qm1 n) (.ok (qfI 0 1 n.toNat).reverse)
theorem qpO (n:Nat):qfI (0+(n:Int) - 1) (-1) n=(qfI 0 1 n).reverse:=by
 apply List.ext_getElem
 ·simp[qfI]
 ·intro i h1 h2
  simp[qfI] at h1 h2 ⊢
  omega
theorem XI.rvr {m1:RE Int} (h:XE Γ a ρ m1 eI s t):XI Γ (.rvr a) ρ (m1.bind qwA) eI true false:=by
 unfold XI;rw[evI]
 exact XR.bind h fun n er h1=>by
  rw[h1.d]
  show XR (gd (qm1 n) _) (gd (qm1 n) _) _
  cases qm1 n
  ·trivial
  ·refine⟨_,rfl,?_,fun _=>rfl,fun _=>rfl⟩
   show(qfI (0+(((n - 0).toNat:Nat):Int) - 1) (-1) (n - 0).toNat).map D.int=_
   rw[Int.sub_zero,qpO]
end
inductive RK where
 |unlike | total | rising | seen | counted | joined | nosquare | ring
deriving DecidableEq
def RK.c:RK→Nat
 |.unlike=>0 | .total=>1 | .rising=>2 | .seen=>3 | .counted=>4 | .joined=>5 | .nosquare=>6 | .ring=>7
structure RuleT where
 k:RK
 ground:Int × Int × Int
 cells:List Int
 wanted:Int
 sign:Int
def qbb (r:RuleT):List D:=[eT3 eI eI eI r.ground,eL eI r.cells,eI r.wanted,eI r.sign]
def eRule (r:RuleT):D:=.ins r.k.c (qbb r)
inductive KK where
 |clue | only | place | pair | count | step | sums | ways | square | reach | turn
deriving DecidableEq
def KK.c:KK→Nat
 |.clue=>10 | .only=>11 | .place=>12 | .pair=>13 | .count=>14 | .step=>15 | .sums=>16 | .ways=>17 | .square=>18 | .reach=>19 | .turn=>20
def eKind (k:KK):D:=.ins k.c []
structure PuzT where
 ground:Int × Int × Int
 rules:List RuleT
 clues:List Int
def qdq (p:PuzT):List D:=[eT3 eI eI eI p.ground,eL eRule p.rules,eL eI p.clues]
def ePuz (p:PuzT):D:=.ins 25 (qdq p)
instance:Flat eRule:=⟨fun _=>rfl⟩
instance:Flat eKind:=⟨fun _=>rfl⟩
instance:Flat ePuz:=⟨fun _=>rfl⟩
section
variable {Γ:Env} {ρ:List Sl} {α:Type} {en:α→D} {e a:Ex} {s:Sh} {t t1:Bool} {m:RE α} {ss:Sms}
theorem XE.sfd {i f c k:Nat} {fs:List D} {x:α} (h:ρ[i]? = some (.slf c fs)) (hf:Γ.fi c f=some k) (hk:fs[k]? = some (en x)):XE Γ (.sfd i f) ρ (.ok x) en .v true:=by
 unfold XE;rw[ev,h]
 simp only[hf,hk]
 exact quk rfl fun _=>rfl
theorem SN.fset {f c:Nat} {fs:List D} {r:List Sl} (h:XE Γ e ρ m en s t) (hs:s.nb=true) (hS:qmS s t en) (h0:ρ=.slf c fs::r) (hr:qpS r=true) (hf:Γ.fi c f=some fs.length) (h9:Nat.ble fs.length 900=true):SN Γ (.fset f e) ρ m fun v ρ'=>ρ'=.slf c (fs++[en v])::r:=by
 unfold SN
 rw[Cm.run]
 cases m with
 |bad=>trivial
 |exc c fs=>have h:ev Γ e ρ=_:=h;rw[h];rfl
 |ok v =>
  obtain⟨er,e1,e2⟩:=h
  rw[e1]
  have h1:=e2.s
  have h2:=e2.d
  have h3:=e2.t
  have key:∀g:D→Out,heldF er g=g (en v):=fun g=>by
   cases er with
   |val d b =>
    have h2:d=en v:=h2
    subst h2
    have:(b||(en v).flat)=true:=by
     rcases hS with q | q | q
     ·have:b=true:=h3 q
      rw[this];rfl
     ·rw[q.2];simp
     ·rw[q.1] at h1;cases h1
    simp only[heldF,this,qdE]
   |fre d b =>
    have h2:D.lst d=en v:=h2
    have:(b||D.flats d)=true:=by
     rcases hS with q | q | q
     ·have:b=true:=h3 q
      rw[this];rfl
     ·rw[q.1] at h1;cases h1
     ·rw[q.2 v d h2.symm];simp
    simp only[heldF,this,qdE,h2]
   |brw d b=>cases s<;>simp_all[qjl,ER.isF,Sh.nb]
  simp only[RE.out_ok]
  rw[key]
  subst h0
  simp only[qq1,hr,if_true,hf,h9,qdE]
  exact⟨_,rfl,rfl⟩
theorem Ini.run {c nf n k:Nat} {b:Sms} {as:List D} {mm:RE α} {fs:α→List D} (hn:as.length=n) (h:BN Γ b (.slf c []::(as.map (fun d=>Sl.val d d.flat)++List.replicate k .non)) mm fun v ρ'=>∃r,ρ'=.slf c (fs v)::r∧(fs v).length=nf) (he:∀v,mm=.ok v→en v=.ins c (fs v)):XR (qmG Γ c nf n k b as) mm fun v gs=>en v=.ins c gs:=by
 unfold qmG
 rw[if_pos hn]
 cases mm with
 |bad=>trivial
 |exc c fs=>have h:qap Γ b _=_:=h;rw[h];rfl
 |ok v =>
  obtain⟨ρ',e,r,e2,e3⟩:=h
  rw[e,e2]
  simp only[if_true,e3]
  exact⟨_,rfl,he v rfl⟩
end
instance:Flat (eTL eS):=⟨fun v=>by
 show D.flats (v.map eS)=true
 exact qgV v⟩
section
variable {Γ:Env} {ρ:List Sl} {a b:Ex} {s s1 s2:Sh} {t t1 t2:Bool}
theorem qmc:∀xs:List (List Int),qqH (xs.map (eL eI))=some xs
 |[]=>rfl
 |x::xs=>by
  have h1:qaU (x.map eI)=some x:=qbI x
  show(match qaU (x.map eI) with
   |some n=>(qqH (xs.map (eL eI))).map (n :: ·)
   |none=>none)=_
  rw[h1,qmc xs]
  rfl
theorem XE.srtL {m:RE (List (List Int))} (ha:XE Γ a ρ m (eL (eL eI)) s t):XE Γ (.srtL a) ρ (m.bind fun x=>.ok (qf0 x)) (eL (eL eI)) .f t:=by
 unfold XE;rw[ev]
 exact XR.bind ha fun x er hx=>by
  rw[hx.d]
  show XR (match qqH (x.map (eL eI)) with
   |some ls=>RE.ok (ER.fre ((qf0 ls).map liV) er.b)
   |none=>.bad) _ _
  rw[qmc]
  exact qn4 rfl hx.t
def qtl (x:List Int):RE (List Int):=gd (Nat.ble x.length 63) (.ok (qmW x))
theorem XE.sset {m:RE (List Int)} (h:XE Γ a ρ m (eL eI) s t):XE Γ (.sset a) ρ (m.bind qtl) (eL eI) .f true:=by
 unfold XE;rw[ev]
 exact XR.bind h fun x er hx=>by
  rw[hx.d]
  show XR (match qaU (x.map eI) with
   |some ns=>gd (Nat.ble ns.length 63) (RE.ok (ER.fre ((qmW ns).map D.int) true))
   |none=>.bad) _ _
  rw[show qaU (x.map eI)=some x from qbI x]
  unfold qtl
  show XR (gd _ _) (gd _ _) _
  cases Nat.ble x.length 63 with
  |true=>exact qn4 rfl fun z=>rfl
  |false=>trivial
def qxy {α:Type} (en:α→D) (os:List (List Int)) (v:α):RE α:=if qrn os (en v)=true then .ok v else .bad
def qu4 (x:List Int):RE (List Int):=gd (leB x.length) (.ok x.reverse)
theorem XE.lrev {m:RE (List Int)} (h:XE Γ a ρ m (eL eI) s t):XE Γ (.lrev a) ρ (m.bind qu4) (eL eI) .f true:=by
 unfold XE;rw[ev]
 exact XR.bind h fun x er hx=>by
  rw[hx.d]
  show XR (match qaU (x.map eI) with
   |some ns=>gd (leB ns.length) (RE.ok (ER.fre (ns.reverse.map D.int) true))
   |none=>.bad) _ _
  rw[show qaU (x.map eI)=some x from qbI x]
  unfold qu4
  show XR (gd _ _) (gd _ _) _
  cases leB x.length with
  |true=>exact qn4 rfl fun z=>rfl
  |false=>trivial
def quA (T:List (List Nat)) (x:List Nat):RE Int:=match qrq x T with
 |some j=>.ok (j:Int)
 |none=>.bad
theorem qmd:∀(T:List (List Nat)),qfm (T.map eS)=some T
 |[]=>rfl
 |t::T=>by
  show(qfm (T.map eS)).map (t :: ·)=_
  rw[qmd T];rfl
theorem XE.inxT {k:Nat} {m:RE (List Nat)} {T:List (List Nat)} {nm:PySem.Str} {c:D} (ha:XE Γ a ρ m eS s t) (h:Γ.gc[k]? = some (nm,c)) (hT:c=eTL eS T):XE Γ (.inxT k a) ρ (m.bind fun x=>quA T x) eI .v true:=by
 unfold XE;rw[ev,h]
 have e:qpt c=some T:=by rw[hT];exact qmd T
 simp only[e]
 exact XR.bind ha fun x er hx=>by
  rw[hx.d]
  show XR (match qrq x T with
   |some j=>ok (.int j)
   |none=>.bad) _ _
  unfold quA
  cases qrq x T with
  |none=>trivial
  |some j=>exact xok rfl
abbrev DTb:Type:=List (List Nat × Option (List (List Nat)))
def dtD (t:DTb):List (List Nat × Option D):=t.map fun p=>(p.1,p.2.map (eTL eS))
theorem qou (t:DTb) (x:List Nat):(dtD t).lookup x=(t.lookup x).map fun o=>o.map (eTL eS):=by
 unfold dtD
 induction t with
 |nil=>rfl
 |cons p t ih =>
  rw[List.map_cons,List.lookup_cons,List.lookup_cons]
  cases x == p.1 with
  |true=>rfl
  |false=>exact ih
def qv9 (t:DTb) (n:Bool) (x:List Nat):RE Bool:=match t.lookup x with
 |some o=>.ok (o.isSome == n)
 |none=>.bad
def qvU (t:DTb) (x:List Nat):RE (List (List Nat)):=match t.lookup x with
 |some (some z)=>.ok z
 |_=>.bad
theorem XE.din {k:Nat} {n:Bool} {m:RE (List Nat)} {T:DTb} {nm:PySem.Str} {T':List (List Nat × Option D)} (ha:XE Γ a ρ m eS s t) (h:Γ.dc[k]? = some (nm,T')) (hT:T'=dtD T):XE Γ (.din n k a) ρ (m.bind fun x=>qv9 T n x) eB .v true:=by
 unfold XE;rw[ev,h]
 exact XR.bind ha fun x er hx=>by
  rw[hx.d]
  show XR (match T'.lookup x with
   |some o=>ok (.bl (o.isSome == n))
   |none=>.bad) _ _
  rw[hT,qou]
  unfold qv9
  cases T.lookup x with
  |none=>trivial
  |some o=>cases o<;>exact xok rfl
theorem XE.dgi {k:Nat} {m:RE (List Nat)} {T:DTb} {nm:PySem.Str} {T':List (List Nat × Option D)} (ha:XE Γ a ρ m eS s t) (h:Γ.dc[k]? = some (nm,T')) (hT:T'=dtD T):XE Γ (.dgi k a) ρ (m.bind fun x=>qvU T x) (eTL eS) .v true:=by
 unfold XE;rw[ev,h]
 exact XR.bind ha fun x er hx=>by
  rw[hx.d]
  show XR (match T'.lookup x with
   |some (some d)=>ok d
   |_=>.bad) _ _
  rw[hT,qou]
  unfold qvU
  cases T.lookup x with
  |none=>trivial
  |some o=>cases o with
   |none=>trivial
   |some z=>exact xok rfl
end
theorem XE.bad {Γ:Env} {ρ:List Sl} {α:Type} {en:α→D} {e:Ex} {s:Sh} {t:Bool}:XE Γ e ρ (RE.bad:RE α) en s t:=trivial
def qmj {α:Type} (en:α→D) (m:List (Int × α)):List (Int × D):=m.map fun e=>(e.1,en e.2)
def SlM (t:Bool) (m:List (Int × D)) (s:Sl):Prop:=∃f,s=.dct m f∧(t=true→f=true)
theorem SlM.low {t:Bool} {m:List (Int × D)} {s:Sl} (h:SlM t m s):SlM false m s:=by
 obtain⟨f,e,_⟩:=h
 exact⟨f,e,fun e=>nomatch e⟩
theorem qgf {α:Type} {en:α→D} {k:Int}:∀{m:List (Int × α)},qd3 k (qmj en m)=(qd3 k m).map en
 |[]=>rfl
 |e::m=>by
  show qd3 k ((e.1,en e.2)::qmj en m)=_
  unfold qd3
  by_cases q:e.1=k
  ·rw[if_pos q,if_pos q];rfl
  ·rw[if_neg q,if_neg q];exact qgf
theorem qqf {α:Type} {en:α→D} {k:Int} {x:α} {m:List (Int × α)}:dput k (en x) (qmj en m)=qmj en (dput k x m):=by
 unfold dput
 rw[qgf,Option.isSome_map]
 split
 ·unfold qtB qmj
  rw[List.map_map,List.map_map]
  refine List.map_congr_left fun e _=>?_
  show(if e.1=k then (e.1,en x) else (e.1,en e.2))=(fun e=>(e.1,en e.2)) (if e.1=k then (e.1,x) else e)
  split<;>rfl
 ·unfold qmj
  rw[List.map_append];rfl
def qi6 {α:Type} (m:List (Int × α)) (k:Int):RE α:=match qd3 k m with
 |some x=>.ok x
 |none=>.bad
def qkc {α:Type} (m:List (Int × α)) (k:Int) (x:α):RE (List (Int × α)):=gd (leB (m.length+1)) (.ok (dput k x m))
section
variable {Γ:Env} {ρ:List Sl} {α:Type} {en:α→D} {e b ix:Ex} {s s2:Sh} {t t1 t2:Bool} {q0:Sl} {m:List (Int × α)} {i:Nat}
theorem XE.dhas {n:Bool} {m2:RE Int} (h0:ρ[i]? = some q0) (hq:SlM t (qmj en m) q0) (hb:XE Γ b ρ m2 eI s2 t2):XE Γ (.dhas n i b) ρ (m2.bind fun k=>.ok ((qd3 k m).isSome == n)) eB .v true:=by
 obtain⟨f,rfl,hf⟩:=hq
 unfold XE;rw[ev,h0]
 exact XR.bind hb fun k ek hk=>by
  rw[hk.d]
  show XR (ok (.bl ((qd3 k (qmj en m)).isSome == n))) _ _
  rw[qgf,Option.isSome_map]
  exact xok rfl
theorem XE.dat {m2:RE Int} (h0:ρ[i]? = some q0) (hq:SlM t (qmj en m) q0) (hb:XE Γ b ρ m2 eI s2 t2):XE Γ (.dat i b) ρ (m2.bind fun k=>qi6 m k) en .v t:=by
 obtain⟨f,rfl,hf⟩:=hq
 unfold XE;rw[ev,h0]
 exact XR.bind hb fun k ek hk=>by
  rw[hk.d]
  show XR (match qd3 k (qmj en m) with
   |some d=>RE.ok (ER.val d (f||d.flat))
   |none=>.bad) _ _
  rw[qgf]
  unfold qi6
  cases qd3 k m with
  |none=>trivial
  |some x=>exact⟨_,rfl,rfl,rfl,fun z=>by show(f||_)=true;rw[hf z];rfl⟩
theorem SN.dnew {en:α→D} (ρ₂:Sl→List Sl) (hset:∀q,ρ.set i q=ρ₂ q):SN Γ (.dnew i) ρ (RE.ok ([]:List (Int × α))) fun v ρ'=>∃q,ρ'=ρ₂ q∧SlM true (qmj en v) q:=by
 unfold SN
 rw[Cm.run]
 exact⟨_,rfl,_,hset _,true,rfl,fun _=>rfl⟩
theorem SN.dput {m1:RE α} {m2:RE Int} (ρ₂:Sl→List Sl) (h:XE Γ e ρ m1 en s t1) (hs:s.nb=true) (h0:ρ[i]? = some q0) (hq:SlM t2 (qmj en m) q0) (hi:XE Γ ix ρ m2 eI s2 t) (hset:∀q,ρ.set i q=ρ₂ q) :
  SN Γ (.dput i ix e) ρ (m1.bind fun x=>m2.bind fun k=>qkc m k x) fun v ρ'=>∃q,ρ'=ρ₂ q∧SlM (t1&&t2) (qmj en v) q:=by
 unfold SN
 rw[Cm.run]
 obtain⟨f,rfl,hf⟩:=hq
 cases m1 with
 |bad=>trivial
 |exc c fs=>have h:ev Γ _ ρ=_:=h;rw[h];rfl
 |ok x =>
  obtain⟨er,e1,h1⟩:=h
  rw[e1]
  simp only[RE.out_ok,RE.bind_ok]
  obtain⟨b1,q1,r1⟩:=qiO h1 hs
  rw[q1,qmO,h0]
  simp only
  cases m2 with
  |bad=>trivial
  |exc c fs=>have h:ev Γ _ ρ=_:=hi;rw[h];rfl
  |ok k =>
   obtain⟨er2,e2,h2⟩:=hi
   rw[e2]
   have hl:(qmj en m).length=m.length:=List.length_map _
   simp only[RE.out_ok,RE.bind_ok,h2.d,hl,qkc]
   cases leB (m.length+1) with
   |false=>trivial
   |true =>
    refine⟨_,rfl,_,hset _,_,by rw[qqf],fun z=>?_⟩
    rw[Bool.and_eq_true] at z
    rw[r1 z.1,hf z.2];rfl
def qpI (xs:List α) (_:α):RE Unit:=gd (leB (xs.length+1)) (.ok ())
theorem SN.tapp {o:Ex} {t1:Bool} {m1:RE (List α)} {m2:RE α} (ho:XE Γ o ρ m1 (eL en) .f t1) (h:XE Γ e ρ m2 en s t) (hs:s.nb=true):SN Γ (.tapp o e) ρ (m1.bind fun xs=>m2.bind fun x=>qpI xs x) fun _ ρ'=>ρ'=ρ:=by
 unfold SN
 rw[Cm.run]
 cases m1 with
 |bad=>trivial
 |exc c fs=>have h:ev Γ _ ρ=_:=ho;rw[h];rfl
 |ok xs =>
  obtain⟨er,e1,h1⟩:=ho
  rw[e1]
  have k1:=h1.s
  have k2:=h1.d
  cases er with
  |val _ _=>cases k1
  |brw _ _=>cases k1
  |fre ds b =>
   cases k2
   simp only[RE.out_ok,RE.bind_ok]
   cases m2 with
   |bad=>trivial
   |exc c fs=>have h:ev Γ _ ρ=_:=h;rw[h];rfl
   |ok x =>
    obtain⟨er2,e2,h2⟩:=h
    rw[e2]
    simp only[RE.out_ok,RE.bind_ok]
    obtain⟨b1,q1,r1⟩:=qiO h2 hs
    rw[q1,List.length_map,qpI]
    cases leB (xs.length+1) with
    |false=>trivial
    |true=>exact⟨_,rfl,rfl⟩
theorem SN.tclr {o:Ex} {t1:Bool} {m1:RE (List α)} (ho:XE Γ o ρ m1 (eL en) .f t1):SN Γ (.tclr o) ρ (m1.bind fun _=>.ok ()) fun _ ρ'=>ρ'=ρ:=by
 unfold SN
 rw[Cm.run]
 cases m1 with
 |bad=>trivial
 |exc c fs=>have h:ev Γ _ ρ=_:=ho;rw[h];rfl
 |ok xs =>
  obtain⟨er,e1,h1⟩:=ho
  rw[e1]
  have k1:=h1.s
  cases er with
  |val _ _=>cases k1
  |brw _ _=>cases k1
  |fre ds b=>exact⟨_,rfl,rfl⟩
end
end Cm
namespace Cm
def qa2:List (List Nat):=[[99,108,117,101],[111,110,108,121],[112,108,97,99,101],[99,111,117,110,116],[115,116,101,112],[115,117,109],[115,113,117,97,114,101],[114,101,97,99,104],[116,117,114,110],[112,97,105,114],[119,97,121,115]]
def qgy:DTb:=[([111,110,108,121],some [[117,110,108,105,107,101]]),([112,108,97,99,101],some [[117,110,108,105,107,101]]),([99,111,117,110,116],some [[99,111,117,110,116]]),([115,116,101,112],some [[114,105,115,105,110,103]]),([115,117,109],some [[115,117,109]]),([115,113,117,97,114,101],some [[110,111,115,113,117,97,114,101]]),([114,101,97,99,104],some [[106,111,105,110,101,100],[114,105,110,103]]),([116,117,114,110],some [[114,105,110,103]]),([112,97,105,114],some [[117,110,108,105,107,101]]),([99,108,117,101],none),([119,97,121,115],none)]
def F.are_numbers (aT:List D):RE Bool:=
 (((RE.ok aT).bind fun x3=>gd (leB x3.length) (lcE (fun(aE:D)=>(((tyE (eD aE) .int).bind fun x1=>RE.ok (!x1)).bind fun k2=>if k2=true then RE.ok true else (tyE (eD aE) .bool))) (fun(aE:D)=>(RE.ok aE)) x3)).bind fun x4=>RE.ok (List.length x4:Int)).bind fun x5=>RE.ok (decide (x5=0))
def F.floor_of (aK:Int) (aL:Int) (a8:Int):RE (Int × Int × Int):=
 ((RE.ok (!(decide (1≤aK)&&decide (aK≤6)))).bind fun k4=>if k4=true then RE.ok true else ((RE.ok (!(decide (1≤aL)&&decide (aL≤6)))).bind fun k3=>if k3=true then RE.ok true else ((qjK aK aL).bind fun x1=>RE.ok (decide (16<x1))))).bind fun k5=>if k5=true then (RE.exc 31 []) else ((RE.ok (!(decide (1≤a8)&&decide (a8≤6)))).bind fun k6=>if k6=true then (RE.exc 31 []) else (RE.ok (aK,aL,a8)))
def F.many_cells (af:Int × Int × Int):RE Int:=
 qjK af.1 af.2.1
def F.spot_of (af:Int × Int × Int) (ac:Int):RE (Int × Int):=
 (qsp ac af.2.1).bind fun x1=>(qmM ac af.2.1).bind fun x2=>RE.ok (x1,x2)
def F.beside (af:Int × Int × Int) (ac:Int):RE (List Int):=
 (RE.ok af).bind fun p1=>(F.spot_of af ac).bind fun p2=>(RE.ok ([]:List Int)).bind fun al=>((RE.ok (decide (0<p2.1))).bind fun k3=>if k3=true then ((qez al (ac - p1.2.1)).bind fun al=>RE.ok al) else (RE.ok al)).bind fun(p4:List Int)=>((RE.ok (decide (0<p2.2))).bind fun k5=>if k5=true then ((qez p4 (ac - 1)).bind fun al=>RE.ok al) else (RE.ok p4)).bind fun(p6:List Int)=>((RE.ok (decide (p2.2<(p1.2.1 - 1)))).bind fun k7=>if k7=true then ((qez p6 (ac+1)).bind fun al=>RE.ok al) else (RE.ok p6)).bind fun(p8:List Int)=>((RE.ok (decide (p2.1<(p1.1 - 1)))).bind fun k9=>if k9=true then ((qez p8 (ac+p1.2.1)).bind fun al=>RE.ok al) else (RE.ok p8)).bind fun(p10:List Int)=>RE.ok p10
def F.squares (af:Int × Int × Int):RE (List (List Int)):=
 (RE.ok af).bind fun p1=>(RE.ok ([]:List (List Int))).bind fun al=>(((F.many_cells af).bind qbs).bind fun y10=>qam (fun(ac:Int) (s5:List (List Int))=>(F.spot_of af ac).bind fun p6=>((RE.ok ((decide (p6.1<(p1.1 - 1)))&&(decide (p6.2<(p1.2.1 - 1))))).bind fun k7=>if k7=true then ((qez s5 ([ac,ac+1,ac+p1.2.1,(ac+p1.2.1)+1])).bind fun al=>RE.ok al) else (RE.ok s5)).bind fun(p8:List (List Int))=>RE.ok p8) y10 al).bind fun(p9:List (List Int))=>RE.ok p9
def F.reached (af:Int × Int × Int) (am:List Int) (b6:Int):RE (List Int):=
 (RE.ok (!decide (b6∈am))).bind fun k1=>if k1=true then (RE.ok []) else ((RE.ok ([b6]:List Int)).bind fun al=>(RE.ok (0:Int)).bind fun aC=>(quE (fun(s10:(List Int) × Int)=>(RE.ok (decide (s10.2<(List.length s10.1:Int))))) (fun(s10:(List Int) × Int)=>(((RE.ok af).bind fun x11=>(atE s10.1 s10.2).bind fun x12=>F.beside x11 x12).bind fun y18=>qam (fun(ac:Int) (s14:List Int)=>((RE.ok ((decide (ac∈am))&&(!decide (ac∈s14)))).bind fun k15=>if k15=true then ((qez s14 ac).bind fun al=>RE.ok al) else (RE.ok s14)).bind fun(p16:List Int)=>RE.ok p16) y18 s10.1).bind fun(p17:List Int)=>(RE.ok (s10.2+1:Int)).bind fun aC=>RE.ok (p17,aC)) qvt (al,aC)).bind fun(p19:(List Int) × Int)=>RE.ok (qe1 p19.1))
def F.bit (ai:Int):RE Int:=
 qwd 1 (ai - 1)
def F.stands (aR:Int) (ai:Int):RE Bool:=
 ((F.bit ai).bind fun x2=>RE.ok (PySem.Builtin.bitAnd aR x2)).bind fun x3=>RE.ok (!decide (x3=0))
def F.has_only (aR:Int) (ai:Int):RE Bool:=
 ((F.bit ai).bind fun x2=>RE.ok (PySem.Builtin.bitOr aR x2)).bind fun x3=>(F.bit ai).bind fun x4=>RE.ok (decide (x3=x4))
def F.signs_in (aR:Int):RE (List Int):=
 (qqm 1 ((PySem.Builtin.Int.intBits aR:Int)+1)).bind fun x1=>gd (leB x1.length) (lcE (fun(ai:Int)=>(F.stands aR ai)) (fun(ai:Int)=>(RE.ok ai)) x1)
def F.Clue_word (ab:KK):RE (List Nat):=
 RE.ok ([99,108,117,101])
def F.Clue_fits (ab:KK) (ae:PuzT) (ak:Option RuleT) (ah:List Nat × Int × Int × Int × (List Int)):RE Bool:=
 RE.ok ((decide (ah.2.1=0))&&(decide (ah.2.2.2.2=[])))
def F.Only_word (ab:KK):RE (List Nat):=
 RE.ok ([111,110,108,121])
def F.Only_strikes (ab:KK) (ae:PuzT) (aj:List Int) (ak:Option RuleT) (ah:List Nat × Int × Int × Int × (List Int)):RE Bool:=
 ((RE.ok aj).bind fun x1=>(atE ah.2.2.2.2 0).bind fun x2=>atE x1 x2).bind fun x3=>(RE.ok ah.2.2.2.1).bind fun x4=>F.has_only x3 x4
def F.Place_word (ab:KK):RE (List Nat):=
 RE.ok ([112,108,97,99,101])
def F.Pair_word (ab:KK):RE (List Nat):=
 RE.ok ([112,97,105,114])
def F.Pair_strikes (ab:KK) (ae:PuzT) (aj:List Int) (ak:Option RuleT) (ah:List Nat × Int × Int × Int × (List Int)):RE Bool:=
 ((((RE.ok aj).bind fun x1=>(atE ah.2.2.2.2 0).bind fun x2=>atE x1 x2).bind fun x5=>((RE.ok aj).bind fun x3=>(atE ah.2.2.2.2 1).bind fun x4=>atE x3 x4).bind fun x6=>RE.ok (PySem.Builtin.bitOr x5 x6)).bind fun x7=>F.signs_in x7).bind fun a8=>(((RE.ok a8).bind fun x8=>gd (leB x8.length) (RE.ok (List.filter (fun(ai:Int)=>!decide (ai=ah.2.2.2.1)) x8))).bind fun x9=>RE.ok (List.length x9:Int)).bind fun x10=>RE.ok (decide (x10≤1))
def F.Count_word (ab:KK):RE (List Nat):=
 RE.ok ([99,111,117,110,116])
def F.Step_word (ab:KK):RE (List Nat):=
 RE.ok ([115,116,101,112])
def F.Sums_word (ab:KK):RE (List Nat):=
 RE.ok ([115,117,109])
def F.Ways_word (ab:KK):RE (List Nat):=
 RE.ok ([119,97,121,115])
def F.may_have (aj:List Int) (ai:Int):RE (List Int):=
 (qbs (List.length aj:Int)).bind fun x3=>gd (leB x3.length) (lcE (fun(ac:Int)=>((atE aj ac).bind fun x1=>(RE.ok ai).bind fun x2=>F.stands x1 x2)) (fun(ac:Int)=>(RE.ok ac)) x3)
def F.Square_word (ab:KK):RE (List Nat):=
 RE.ok ([115,113,117,97,114,101])
def F.Reach_word (ab:KK):RE (List Nat):=
 RE.ok ([114,101,97,99,104])
def F.Turn_word (ab:KK):RE (List Nat):=
 RE.ok ([116,117,114,110])
def F.all_kinds  : RE (List KK):=
 (RE.ok ([KK.clue,KK.only,KK.place]:List KK)).bind fun az=>qhi az ([KK.count,KK.step,KK.sums,KK.square,KK.reach,KK.turn,KK.pair,KK.ways])
def F.m_word (r:KK)  : RE (List Nat):=match r with
 |.clue=>F.Clue_word r
 |.only=>F.Only_word r
 |.place=>F.Place_word r
 |.pair=>F.Pair_word r
 |.count=>F.Count_word r
 |.step=>F.Step_word r
 |.sums=>F.Sums_word r
 |.ways=>F.Ways_word r
 |.square=>F.Square_word r
 |.reach=>F.Reach_word r
 |.turn=>F.Turn_word r
def F.kind_of (ax:List Nat):RE (Option KK):=
 Fl.bR (F.all_kinds.bind fun y10=>qcn (fun(aF:KK) (s4:Unit)=>(((F.m_word aF).bind fun x5=>RE.ok (decide (x5=ax))).bind fun k7=>if k7=true then (RE.ok (.rt (some aF))) else (RE.ok (.nx ())):RE (Fl (Option KK) (Unit)))) y10 ()) fun(p9:Unit)=>RE.ok (none:Option KK)
def F.is_filling (af:Int × Int × Int) (ao:List Int):RE Bool:=
 ((F.many_cells af).bind fun x2=>RE.ok (!decide ((List.length ao:Int)=x2))).bind fun k3=>if k3=true then (RE.ok false) else (((RE.ok ao).bind fun x4=>gd (leB x4.length) (RE.ok (List.map (fun(ai:Int)=>(decide (0≤ai)&&decide (ai≤af.2.2))) x4))).bind fun x5=>RE.ok (List.all x5 id))
def F.Rule_spots (ab:RuleT):RE (List Int):=
 RE.ok ab.cells
def F.Rule_number (ab:RuleT):RE Int:=
 RE.ok ab.wanted
def F.Rule_sign (ab:RuleT):RE Int:=
 RE.ok ab.sign
def F.Rule_told_numbers (ab:RuleT):RE (List Int):=
 RE.ok ab.cells
def F.Unlike_name (ab:RuleT):RE (List Nat):=
 RE.ok ([117,110,108,105,107,101])
def F.Unlike_holds (ab:RuleT) (ao:List Int):RE Bool:=
 (((RE.ok ab.cells).bind fun x1=>gd (leB x1.length) (lcE (fun(ac:Int)=>(RE.ok true)) (fun(ac:Int)=>(atE ao ac)) x1)).bind qky).bind fun x2=>RE.ok (decide (x2=(List.length ab.cells:Int)))
def F.Total_name (ab:RuleT):RE (List Nat):=
 RE.ok ([115,117,109])
def F.Total_holds (ab:RuleT) (ao:List Int):RE Bool:=
 (((RE.ok ab.cells).bind fun x1=>gd (leB x1.length) (lcE (fun(ac:Int)=>(RE.ok true)) (fun(ac:Int)=>(atE ao ac)) x1)).bind fun x2=>RE.ok (List.sum x2)).bind fun x3=>RE.ok (decide (x3=ab.wanted))
def F.Total_told_numbers (ab:RuleT):RE (List Int):=
 qhi [ab.wanted] ab.cells
def F.Rising_name (ab:RuleT):RE (List Nat):=
 RE.ok ([114,105,115,105,110,103])
def F.Rising_holds (ab:RuleT) (ao:List Int):RE Bool:=
 Fl.bR ((RE.ok (List.zip ab.cells (qe5 ab.cells (some 1) none))).bind fun y11=>qcn (fun(p5:Int × Int) (s4:Unit)=>(((atE ao p5.1).bind fun x6=>(atE ao p5.2).bind fun x7=>RE.ok (decide (x7≤x6))).bind fun k8=>if k8=true then (RE.ok (.rt false)) else (RE.ok (.nx ())):RE (Fl (Bool) (Unit)))) y11 ()) fun(p10:Unit)=>RE.ok true
def F.Seen_name (ab:RuleT):RE (List Nat):=
 RE.ok ([115,101,101,110])
def F.Seen_holds (ab:RuleT) (ao:List Int):RE Bool:=
 (RE.ok (0:Int)).bind fun aG=>(RE.ok (0:Int)).bind fun bu=>((RE.ok ab.cells).bind fun y10=>qam (fun(ac:Int) (s4:Int × Int)=>(((atE ao ac).bind fun x5=>RE.ok (decide (s4.2<x5))).bind fun k7=>if k7=true then ((RE.ok (s4.1+1:Int)).bind fun aG=>(atE ao ac).bind fun bu=>RE.ok (aG,bu)) else (RE.ok (s4.1,s4.2))).bind fun(p8:Int × Int)=>RE.ok (p8.1,p8.2)) y10 (aG,bu)).bind fun(p9:Int × Int)=>RE.ok (decide (p9.1=ab.wanted))
def F.Seen_told_numbers (ab:RuleT):RE (List Int):=
 qhi [ab.wanted] ab.cells
def F.Counted_name (ab:RuleT):RE (List Nat):=
 RE.ok ([99,111,117,110,116])
def F.Counted_holds (ab:RuleT) (ao:List Int):RE Bool:=
 (((RE.ok ab.cells).bind fun x3=>gd (leB x3.length) (lcE (fun(ac:Int)=>((atE ao ac).bind fun x1=>RE.ok (decide (x1=ab.sign)))) (fun(ac:Int)=>(RE.ok ac)) x3)).bind fun x4=>RE.ok (List.length x4:Int)).bind fun x5=>RE.ok (decide (x5=ab.wanted))
def F.Counted_told_numbers (ab:RuleT):RE (List Int):=
 qhi ([ab.wanted,ab.sign]) ab.cells
def F.cells_with (ak:RuleT) (ao:List Int):RE (List Int):=
 (F.Rule_spots ak).bind fun x3=>gd (leB x3.length) (lcE (fun(ac:Int)=>((atE ao ac).bind fun x1=>(F.Rule_sign ak).bind fun x2=>RE.ok (decide (x1=x2)))) (fun(ac:Int)=>(RE.ok ac)) x3)
def F.are_joined (af:Int × Int × Int) (am:List Int):RE Bool:=
 (RE.ok (decide (am=[]))).bind fun k7=>if k7=true then RE.ok true else ((((RE.ok af).bind fun x1=>(RE.ok am).bind fun x2=>(atE am 0).bind fun x3=>F.reached x1 x2 x3).bind fun x4=>RE.ok (List.length x4:Int)).bind fun x5=>RE.ok (decide (x5=(List.length am:Int))))
def F.Joined_name (ab:RuleT):RE (List Nat):=
 RE.ok ([106,111,105,110,101,100])
def F.Joined_holds (ab:RuleT) (ao:List Int):RE Bool:=
 (RE.ok ab.ground).bind fun x1=>(F.cells_with ab ao).bind fun x2=>F.are_joined x1 x2
def F.Joined_told_numbers (ab:RuleT):RE (List Int):=
 RE.ok [ab.sign]
def F.NoSquare_name (ab:RuleT):RE (List Nat):=
 RE.ok ([110,111,115,113,117,97,114,101])
def F.NoSquare_holds (ab:RuleT) (ao:List Int):RE Bool:=
 Fl.bR ((F.squares ab.ground).bind fun y18=>qcn (fun(ba:List Int) (s8:Unit)=>(((((RE.ok ba).bind fun x11=>gd (leB x11.length) (lcE (fun(ac:Int)=>((atE ao ac).bind fun x9=>RE.ok (decide (x9=ab.sign)))) (fun(ac:Int)=>(RE.ok ac)) x11)).bind fun x12=>RE.ok (List.length x12:Int)).bind fun x13=>RE.ok (decide (x13=4))).bind fun k15=>if k15=true then (RE.ok (.rt false)) else (RE.ok (.nx ())):RE (Fl (Bool) (Unit)))) y18 ()) fun(p17:Unit)=>RE.ok true
def F.NoSquare_told_numbers (ab:RuleT):RE (List Int):=
 RE.ok [ab.sign]
def F.Ring_name (ab:RuleT):RE (List Nat):=
 RE.ok ([114,105,110,103])
def F.Ring_holds (ab:RuleT) (ao:List Int):RE Bool:=
 (F.cells_with ab ao).bind fun al=>Fl.bR ((RE.ok al).bind fun y14=>qcn (fun(ac:Int) (s6:Unit)=>(((((F.beside ab.ground ac).bind fun x7=>gd (leB x7.length) (RE.ok (List.filter (fun(aD:Int)=>decide (aD∈al)) x7))).bind fun x8=>RE.ok (List.length x8:Int)).bind fun x9=>RE.ok (!decide (x9=2))).bind fun k11=>if k11=true then (RE.ok (.rt false)) else (RE.ok (.nx ())):RE (Fl (Bool) (Unit)))) y14 ()) fun(p13:Unit)=>F.are_joined ab.ground al
def F.Ring_told_numbers (ab:RuleT):RE (List Int):=
 RE.ok [ab.sign]
def F.number_of (ax:List Nat):RE Int:=
 ((((RE.ok 1).bind fun x1=>(qjX ax).bind fun x2=>if decide (x1≤x2)=true then (RE.ok 2).bind fun x3=>RE.ok (decide (x2≤x3)) else RE.ok false).bind fun x4=>RE.ok (!x4)).bind fun k10=>if k10=true then RE.ok true else (((qpx ax 0).bind fun x5=>RE.ok (decide ([x5]=[48]))).bind fun k9=>if k9=true then ((qjX ax).bind fun x7=>RE.ok (decide (1<x7))) else RE.ok false)).bind fun k11=>if k11=true then (RE.exc 33 []) else (((RE.ok ax).bind fun y16=>qam (fun(ai:Nat) (s13:Unit)=>(RE.ok (!decide (ai∈([48,49,50,51,52,53,54,55,56,57])))).bind fun k14=>if k14=true then RE.exc 33 [] else (RE.ok ())) y16 ()).bind fun(p15:Unit)=>qm3 ax)
def F.sign_told (af:Int × Int × Int) (ay:List Int) (aC:Int):RE Int:=
 ((RE.ok (decide ((List.length ay:Int)≤aC))).bind fun k5=>if k5=true then RE.ok true else (((RE.ok 1).bind fun x1=>(atE ay aC).bind fun x2=>if decide (x1≤x2)=true then (RE.ok af.2.2).bind fun x3=>RE.ok (decide (x2≤x3)) else RE.ok false).bind fun x4=>RE.ok (!x4))).bind fun k6=>if k6=true then (RE.exc 33 []) else (atE ay aC)
def F.cells_told (af:Int × Int × Int) (ay:List Int):RE (List Int):=
 ((RE.ok (decide (ay=[]))).bind fun k6=>if k6=true then RE.ok true else (((qky ay).bind fun x1=>RE.ok (!decide (x1=(List.length ay:Int)))).bind fun k5=>if k5=true then RE.ok true else ((qtO ay).bind fun x3=>(F.many_cells af).bind fun x4=>RE.ok (decide (x4≤x3))))).bind fun k7=>if k7=true then (RE.exc 33 []) else (RE.ok ay)
def F.whole_rule (af:Int × Int × Int) (ax:List Nat) (ay:List Int):RE RuleT:=
 (RE.ok (!decide ((List.length ay:Int)=1))).bind fun k1=>if k1=true then (RE.exc 33 []) else ((F.sign_told af ay 0).bind fun ai=>((F.many_cells af).bind qbs).bind fun am=>(RE.ok (decide (ax=([106,111,105,110,101,100])))).bind fun k3=>if k3=true then (RE.ok (RuleT.mk .joined af am 0 ai)) else ((RE.ok (decide (ax=([110,111,115,113,117,97,114,101])))).bind fun k4=>if k4=true then (RE.ok (RuleT.mk .nosquare af am 0 ai)) else (RE.ok (RuleT.mk .ring af am 0 ai))))
def F.read_rule (af:Int × Int × Int) (aS:D):RE RuleT:=
 ((tyE (eD aS) .str).bind fun x1=>RE.ok (!x1)).bind fun k2=>if k2=true then (RE.exc 33 []) else (((dS aS).bind fun x3=>(RE.ok [32]).bind fun x4=>qcE x3 x4).bind fun aU=>(atE aU 0).bind fun ax=>(qqu ax ([[117,110,108,105,107,101],[115,117,109],[114,105,115,105,110,103],[115,101,101,110],[99,111,117,110,116],[106,111,105,110,101,100],[110,111,115,113,117,97,114,101],[114,105,110,103]])).bind fun k5=>if k5=true then (RE.exc 33 []) else (((RE.ok (qe5 aU (some 1) none)).bind fun x6=>gd (leB x6.length) (lcE (fun(aE:List Nat)=>(RE.ok true)) (fun(aE:List Nat)=>(F.number_of aE)) x6)).bind fun ay=>(qtM ax ([[106,111,105,110,101,100],[110,111,115,113,117,97,114,101],[114,105,110,103]])).bind fun k7=>if k7=true then (F.whole_rule af ax ay) else ((RE.ok (decide (ax=([117,110,108,105,107,101])))).bind fun k8=>if k8=true then ((RE.ok af).bind fun x9=>(F.cells_told af ay).bind fun x10=>(RE.ok 0).bind fun x11=>(RE.ok 0).bind fun x12=>RE.ok (RuleT.mk .unlike x9 x10 x11 x12)) else ((RE.ok (decide (ax=([114,105,115,105,110,103])))).bind fun k13=>if k13=true then ((RE.ok af).bind fun x14=>(F.cells_told af ay).bind fun x15=>(RE.ok 0).bind fun x16=>(RE.ok 0).bind fun x17=>RE.ok (RuleT.mk .rising x14 x15 x16 x17)) else ((RE.ok (decide (ax=([99,111,117,110,116])))).bind fun k18=>if k18=true then ((F.sign_told af ay 1).bind fun ai=>(RE.ok af).bind fun x19=>(F.cells_told af (qe5 ay (some 2) none)).bind fun x20=>(atE ay 0).bind fun x21=>(RE.ok ai).bind fun x22=>RE.ok (RuleT.mk .counted x19 x20 x21 x22)) else ((F.cells_told af (qe5 ay (some 1) none)).bind fun am=>(RE.ok (decide (ax=([115,117,109])))).bind fun k23=>if k23=true then ((RE.ok af).bind fun x24=>(RE.ok am).bind fun x25=>(atE ay 0).bind fun x26=>(RE.ok 0).bind fun x27=>RE.ok (RuleT.mk .total x24 x25 x26 x27)) else ((RE.ok af).bind fun x28=>(RE.ok am).bind fun x29=>(atE ay 0).bind fun x30=>(RE.ok 0).bind fun x31=>RE.ok (RuleT.mk .seen x28 x29 x30 x31))))))))
def F.Puzzle_place (ab:PuzT):RE (Int × Int × Int):=
 RE.ok ab.ground
def F.Puzzle_many (ab:PuzT):RE Int:=
 F.many_cells ab.ground
def F.Puzzle_clues (ab:PuzT):RE (List Int):=
 RE.ok ab.clues
def F.Puzzle_rules (ab:PuzT):RE (List RuleT):=
 RE.ok ab.rules
def F.Puzzle_rule_at (ab:PuzT) (a9:Int):RE RuleT:=
 atE ab.rules a9
def F.Puzzle_many_rules (ab:PuzT):RE Int:=
 RE.ok (List.length ab.rules:Int)
def F.Puzzle_clue_at (ab:PuzT) (ac:Int):RE Int:=
 atE ab.clues ac
def F.m_holds (r:RuleT) (a0:List Int):RE Bool:=match r.k with
 |.unlike=>F.Unlike_holds r a0
 |.total=>F.Total_holds r a0
 |.rising=>F.Rising_holds r a0
 |.seen=>F.Seen_holds r a0
 |.counted=>F.Counted_holds r a0
 |.joined=>F.Joined_holds r a0
 |.nosquare=>F.NoSquare_holds r a0
 |.ring=>F.Ring_holds r a0
def F.Puzzle_meets (ab:PuzT) (ao:List Int):RE Bool:=
 (((F.is_filling ab.ground ao).bind fun x1=>RE.ok (!x1)).bind fun k2=>if k2=true then RE.ok true else (RE.ok (decide (0∈ao)))).bind fun k3=>if k3=true then (RE.ok false) else (Fl.bR ((RE.ok (List.zip ab.clues ao)).bind fun y12=>qcn (fun(p6:Int × Int) (s5:Unit)=>((RE.ok ((!decide (p6.1=0))&&(!decide (p6.1=p6.2)))).bind fun k7=>if k7=true then (RE.ok (.rt false)) else (RE.ok (.nx ())):RE (Fl (Bool) (Unit)))) y12 ()) fun(p9:Unit)=>((RE.ok ab.rules).bind fun x10=>gd (leB x10.length) (lcE (fun(ak:RuleT)=>(RE.ok true)) (fun(ak:RuleT)=>(F.m_holds ak ao)) x10)).bind fun x11=>RE.ok (List.all x11 id))
def F.Puzzle_new (af:Int × Int × Int) (az:List D) (a7:List Int):RE PuzT:=
 (RE.ok (!decide (3=3))).bind fun k1=>if k1=true then RE.exc 31 [] else ((F.floor_of af.1 af.2.1 af.2.2).bind fun w_ground=>(RE.ok (decide (12<(List.length az:Int)))).bind fun k2=>if k2=true then RE.exc 34 [] else (((RE.ok az).bind fun x3=>gd (leB x3.length) (lcE (fun(aS:D)=>(RE.ok true)) (fun(aS:D)=>(F.read_rule w_ground aS)) x3)).bind fun w_rule_list=>((F.is_filling w_ground a7).bind fun x4=>RE.ok (!x4)).bind fun k5=>if k5=true then RE.exc 34 [] else ((RE.ok a7).bind fun w_clue_list=>RE.ok (PuzT.mk w_ground w_rule_list w_clue_list))))
def F.others_of (ak:RuleT) (ac:Int):RE (List Int):=
 (F.Rule_spots ak).bind fun x1=>gd (leB x1.length) (RE.ok (List.filter (fun(aD:Int)=>!decide (aD=ac)) x1))
def F.are_others (ak:RuleT) (ac:Int) (aT:List Int):RE Bool:=
 (F.others_of ak ac).bind fun aO=>((((RE.ok aT).bind fun x1=>gd (leB x1.length) (RE.ok (List.filter (fun(aD:Int)=>!decide (aD∈aO)) x1))).bind fun x2=>RE.ok (List.length x2:Int)).bind fun x3=>RE.ok (decide (x3=0))).bind fun k7=>if k7=true then ((qky aT).bind fun x5=>RE.ok (decide (x5=(List.length aT:Int)))) else RE.ok false
def F.Clue_strikes (ab:KK) (ae:PuzT) (aj:List Int) (ak:Option RuleT) (ah:List Nat × Int × Int × Int × (List Int)):RE Bool:=
 (F.Puzzle_clue_at ae ah.2.2.1).bind fun bt=>RE.ok ((!decide (bt=0))&&(!decide (bt=ah.2.2.2.1)))
def F.m_name (r:RuleT)  : RE (List Nat):=match r.k with
 |.unlike=>F.Unlike_name r
 |.total=>F.Total_name r
 |.rising=>F.Rising_name r
 |.seen=>F.Seen_name r
 |.counted=>F.Counted_name r
 |.joined=>F.Joined_name r
 |.nosquare=>F.NoSquare_name r
 |.ring=>F.Ring_name r
def F.is_unlike (ak:Option RuleT) (ac:Int):RE Bool:=
 (RE.ok ak.isSome).bind fun k8=>if k8=true then ((((unO ak).bind fun x1=>F.m_name x1).bind fun x2=>RE.ok (decide (x2=([117,110,108,105,107,101])))).bind fun k7=>if k7=true then (((unO ak).bind fun x4=>F.Rule_spots x4).bind fun x6=>RE.ok (decide (ac∈x6))) else RE.ok false) else RE.ok false
def F.Only_fits (ab:KK) (ae:PuzT) (ak:Option RuleT) (ah:List Nat × Int × Int × Int × (List Int)):RE Bool:=
 (RE.ok (ah.2.2.2.2:List Int)).bind fun aH=>(F.is_unlike ak ah.2.2.1).bind fun k5=>if k5=true then ((RE.ok (decide ((List.length aH:Int)=1))).bind fun k4=>if k4=true then ((unO ak).bind fun x1=>(RE.ok ah.2.2.1).bind fun x2=>(RE.ok aH).bind fun x3=>F.are_others x1 x2 x3) else RE.ok false) else RE.ok false
def F.Place_fits (ab:KK) (ae:PuzT) (ak:Option RuleT) (ah:List Nat × Int × Int × Int × (List Int)):RE Bool:=
 (RE.ok (ah.2.2.2.2:List Int)).bind fun aH=>((F.Puzzle_place ae).bind fun x1=>RE.ok x1.2.2).bind fun a8=>(((F.is_unlike ak ah.2.2.1).bind fun x2=>RE.ok (!x2)).bind fun k8=>if k8=true then RE.ok true else (((((unO ak).bind fun x3=>F.Rule_spots x3).bind fun x4=>RE.ok (List.length x4:Int)).bind fun x5=>RE.ok (!decide (x5=a8))).bind fun k7=>if k7=true then RE.ok true else (RE.ok (!decide ((List.length aH:Int)=1))))).bind fun k9=>if k9=true then (RE.ok false) else (((RE.ok 1).bind fun x10=>(atE aH 0).bind fun x11=>if decide (x10≤x11)=true then (RE.ok a8).bind fun x12=>RE.ok (decide (x11≤x12)) else RE.ok false).bind fun k15=>if k15=true then ((atE aH 0).bind fun x13=>RE.ok (!decide (x13=ah.2.2.2.1))) else RE.ok false)
def F.Place_strikes (ab:KK) (ae:PuzT) (aj:List Int) (ak:Option RuleT) (ah:List Nat × Int × Int × Int × (List Int)):RE Bool:=
 Fl.bR (((unO ak).bind fun x1=>(RE.ok ah.2.2.1).bind fun x2=>F.others_of x1 x2).bind fun y12=>qcn (fun(aD:Int) (s6:Unit)=>(((atE aj aD).bind fun x7=>(atE ah.2.2.2.2 0).bind fun x8=>F.stands x7 x8).bind fun k9=>if k9=true then (RE.ok (.rt false)) else (RE.ok (.nx ())):RE (Fl (Bool) (Unit)))) y12 ()) fun(p11:Unit)=>RE.ok true
def F.Pair_fits (ab:KK) (ae:PuzT) (ak:Option RuleT) (ah:List Nat × Int × Int × Int × (List Int)):RE Bool:=
 (RE.ok (ah.2.2.2.2:List Int)).bind fun aH=>(((F.is_unlike ak ah.2.2.1).bind fun x1=>RE.ok (!x1)).bind fun k7=>if k7=true then RE.ok true else ((RE.ok (!decide ((List.length aH:Int)=2))).bind fun k6=>if k6=true then RE.ok true else (((unO ak).bind fun x2=>(RE.ok ah.2.2.1).bind fun x3=>(RE.ok aH).bind fun x4=>F.are_others x2 x3 x4).bind fun x5=>RE.ok (!x5)))).bind fun k8=>if k8=true then (RE.ok false) else (((unO ak).bind fun x9=>F.Rule_spots x9).bind fun be=>((RE.ok be).bind fun x10=>(atE aH 0).bind fun x11=>qsa x10 x11).bind fun x14=>((RE.ok be).bind fun x12=>(atE aH 1).bind fun x13=>qsa x12 x13).bind fun x15=>RE.ok (decide (x14<x15)))
def F.is_of (ak:Option RuleT) (ax:List Nat) (ac:Int):RE Bool:=
 (RE.ok ak.isSome).bind fun k8=>if k8=true then ((((unO ak).bind fun x1=>F.m_name x1).bind fun x2=>RE.ok (decide (x2=ax))).bind fun k7=>if k7=true then (((unO ak).bind fun x4=>F.Rule_spots x4).bind fun x6=>RE.ok (decide (ac∈x6))) else RE.ok false) else RE.ok false
def F.Count_fits (ab:KK) (ae:PuzT) (ak:Option RuleT) (ah:List Nat × Int × Int × Int × (List Int)):RE Bool:=
 (RE.ok (decide (ah.2.2.2.2=[]))).bind fun k1=>if k1=true then (F.is_of ak ([99,111,117,110,116]) ah.2.2.1) else RE.ok false
def F.Count_strikes (ab:KK) (ae:PuzT) (aj:List Int) (ak:Option RuleT) (ah:List Nat × Int × Int × Int × (List Int)):RE Bool:=
 ((unO ak).bind fun x1=>F.Rule_sign x1).bind fun ai=>((unO ak).bind fun x2=>(RE.ok ah.2.2.1).bind fun x3=>F.others_of x2 x3).bind fun aO=>(RE.ok (decide (ah.2.2.2.1=ai))).bind fun k4=>if k4=true then ((((RE.ok aO).bind fun x7=>gd (leB x7.length) (lcE (fun(aD:Int)=>((atE aj aD).bind fun x5=>(RE.ok ai).bind fun x6=>F.has_only x5 x6)) (fun(aD:Int)=>(RE.ok aD)) x7)).bind fun x8=>RE.ok (List.length x8:Int)).bind fun x10=>((unO ak).bind fun x9=>F.Rule_number x9).bind fun x11=>RE.ok (decide (x11≤x10))) else ((((RE.ok aO).bind fun x14=>gd (leB x14.length) (lcE (fun(aD:Int)=>((atE aj aD).bind fun x12=>(RE.ok ai).bind fun x13=>F.stands x12 x13)) (fun(aD:Int)=>(RE.ok aD)) x14)).bind fun x15=>RE.ok (List.length x15:Int)).bind fun x17=>((unO ak).bind fun x16=>F.Rule_number x16).bind fun x18=>RE.ok (decide (x17<x18)))
def F.neighbours_of (ak:RuleT) (ac:Int):RE ((Option Int) × (Option Int)):=
 (F.Rule_spots ak).bind fun be=>(qsa be ac).bind fun aC=>(RE.ok (():Unit)).bind fun b7=>(RE.ok (():Unit)).bind fun b9=>((RE.ok (decide (0<aC))).bind fun k1=>if k1=true then ((atE be (aC - 1)).bind fun b7=>RE.ok (some b7)) else (RE.ok (none:Option Int))).bind fun(p2:Option Int)=>((RE.ok (decide ((aC+1)<(List.length be:Int)))).bind fun k3=>if k3=true then ((atE be (aC+1)).bind fun b9=>RE.ok (some b9)) else (RE.ok (none:Option Int))).bind fun(p4:Option Int)=>RE.ok (p2,p4)
def F.Step_fits (ab:KK) (ae:PuzT) (ak:Option RuleT) (ah:List Nat × Int × Int × Int × (List Int)):RE Bool:=
 (RE.ok (decide (ah.2.2.2.2=[]))).bind fun k1=>if k1=true then (F.is_of ak ([114,105,115,105,110,103]) ah.2.2.1) else RE.ok false
def F.Step_strikes (ab:KK) (ae:PuzT) (aj:List Int) (ak:Option RuleT) (ah:List Nat × Int × Int × Int × (List Int)):RE Bool:=
 ((unO ak).bind fun x1=>(RE.ok ah.2.2.1).bind fun x2=>F.neighbours_of x1 x2).bind fun p3=>((RE.ok p3.1.isSome).bind fun k11=>if k11=true then (((((RE.ok aj).bind fun x4=>(unO p3.1).bind fun x5=>atE x4 x5).bind fun x6=>F.signs_in x6).bind fun x7=>(RE.ok ah.2.2.2.1).bind fun x8=>mmE false x7 x8).bind fun x9=>RE.ok (decide (ah.2.2.2.1≤x9))) else RE.ok false).bind fun k12=>if k12=true then (RE.ok true) else ((RE.ok p3.2.isSome).bind fun k20=>if k20=true then (((((RE.ok aj).bind fun x13=>(unO p3.2).bind fun x14=>atE x13 x14).bind fun x15=>F.signs_in x15).bind fun x16=>(RE.ok ah.2.2.2.1).bind fun x17=>mmE true x16 x17).bind fun x18=>RE.ok (decide (x18≤ah.2.2.2.1))) else RE.ok false)
def F.Sums_fits (ab:KK) (ae:PuzT) (ak:Option RuleT) (ah:List Nat × Int × Int × Int × (List Int)):RE Bool:=
 (RE.ok (decide (ah.2.2.2.2=[]))).bind fun k1=>if k1=true then (F.is_of ak ([115,117,109]) ah.2.2.1) else RE.ok false
def F.Sums_strikes (ab:KK) (ae:PuzT) (aj:List Int) (ak:Option RuleT) (ah:List Nat × Int × Int × Int × (List Int)):RE Bool:=
 (RE.ok (ah.2.2.2.1:Int)).bind fun aY=>(RE.ok (ah.2.2.2.1:Int)).bind fun aK=>Fl.bR (((unO ak).bind fun x1=>(RE.ok ah.2.2.1).bind fun x2=>F.others_of x1 x2).bind fun y25=>qcn (fun(aD:Int) (s9:Int × Int)=>(((atE aj aD).bind fun x10=>F.signs_in x10).bind fun a8=>(RE.ok (decide (a8=[]))).bind fun k11=>if k11=true then (RE.ok (.rt true)) else (((atE a8 0).bind fun x14=>RE.ok (s9.1+x14)).bind fun aY=>((atE a8 (-1)).bind fun x16=>RE.ok (s9.2+x16)).bind fun aK=>RE.ok (.nx (aY,aK))):RE (Fl (Bool) (Int × Int)))) y25 (aY,aK)) fun(p17:Int × Int)=>(((unO ak).bind fun x18=>F.Rule_number x18).bind fun x20=>RE.ok (decide (x20<p17.1))).bind fun k24=>if k24=true then RE.ok true else (((unO ak).bind fun x21=>F.Rule_number x21).bind fun x23=>RE.ok (decide (p17.2<x23)))
def F.Ways_fits (ab:KK) (ae:PuzT) (ak:Option RuleT) (ah:List Nat × Int × Int × Int × (List Int)):RE Bool:=
 (RE.ok (decide (ah.2.2.2.2=[]))).bind fun k5=>if k5=true then ((RE.ok ak.isSome).bind fun k4=>if k4=true then (((unO ak).bind fun x1=>F.Rule_spots x1).bind fun x3=>RE.ok (decide (ah.2.2.1∈x3))) else RE.ok false) else RE.ok false
def F.Ways_strikes (ab:KK) (ae:PuzT) (aj:List Int) (ak:Option RuleT) (ah:List Nat × Int × Int × Int × (List Int)):RE Bool:=
 ((unO ak).bind fun x1=>(RE.ok ah.2.2.1).bind fun x2=>F.others_of x1 x2).bind fun aO=>((RE.ok aO).bind fun x4=>gd (leB x4.length) (lcE (fun(aD:Int)=>(RE.ok true)) (fun(aD:Int)=>((atE aj aD).bind fun x3=>F.signs_in x3)) x4)).bind fun bA=>(RE.ok (1:Int)).bind fun aG=>((RE.ok bA).bind fun y43=>qam (fun(a8:List Int) (s5:Int)=>(qjK s5 (List.length a8:Int)).bind fun aG=>RE.ok aG) y43 aG).bind fun(p6:Int)=>(RE.ok (decide (32<p6))).bind fun k7=>if k7=true then (RE.ok false) else (((qbs (List.length aj:Int)).bind fun x8=>gd (leB x8.length) (RE.ok (List.map (fun(ac:Int)=>0) x8))).bind fun ao=>(qrt ao ah.2.2.1 ah.2.2.2.1).bind fun ao=>Fl.bR ((qbs p6).bind fun y42=>qcn (fun(a9:Int) (s24:List Int)=>(((RE.ok (List.zip aO bA)).bind fun y40=>qam (fun(p30:Int × (List Int)) (s29:(List Int) × Int)=>(((RE.ok p30.2).bind fun x31=>(qmM s29.2 (List.length p30.2:Int)).bind fun x32=>atE x31 x32).bind fun x33=>(RE.ok p30.1).bind fun x34=>qrt s29.1 x34 x33).bind fun ao=>(qsp s29.2 (List.length p30.2:Int)).bind fun a9=>RE.ok (ao,a9)) y40 (s24,a9)).bind fun(p35:(List Int) × Int)=>((unO ak).bind fun x37=>(RE.ok p35.1).bind fun x36=>F.m_holds x37 x36).bind fun k38=>if k38=true then (RE.ok (.rt false)) else (RE.ok (.nx p35.1)):RE (Fl (Bool) (List Int)))) y42 ao) fun(p41:List Int)=>RE.ok true)
def F.square_at (ae:PuzT) (bG:Int):RE (List Int):=
 Fl.bR (((F.Puzzle_place ae).bind fun x1=>F.squares x1).bind fun y11=>qcn (fun(ba:List Int) (s5:Unit)=>(((atE ba 0).bind fun x6=>RE.ok (decide (x6=bG))).bind fun k8=>if k8=true then (RE.ok (.rt ba)) else (RE.ok (.nx ())):RE (Fl (List Int) (Unit)))) y11 ()) fun(p10:Unit)=>RE.ok []
def F.Square_fits (ab:KK) (ae:PuzT) (ak:Option RuleT) (ah:List Nat × Int × Int × Int × (List Int)):RE Bool:=
 ((RE.ok ak.isNone).bind fun k9=>if k9=true then RE.ok true else ((((unO ak).bind fun x1=>F.m_name x1).bind fun x2=>RE.ok (!decide (x2=([110,111,115,113,117,97,114,101])))).bind fun k8=>if k8=true then RE.ok true else ((((unO ak).bind fun x4=>F.Rule_sign x4).bind fun x5=>RE.ok (!decide (x5=ah.2.2.2.1))).bind fun k7=>if k7=true then RE.ok true else (RE.ok (!decide ((List.length ah.2.2.2.2:Int)=1)))))).bind fun k10=>if k10=true then (RE.ok false) else (((RE.ok ae).bind fun x11=>(atE ah.2.2.2.2 0).bind fun x12=>F.square_at x11 x12).bind fun x14=>RE.ok (decide (ah.2.2.1∈x14)))
def F.Square_strikes (ab:KK) (ae:PuzT) (aj:List Int) (ak:Option RuleT) (ah:List Nat × Int × Int × Int × (List Int)):RE Bool:=
 Fl.bR (((RE.ok ae).bind fun x1=>(atE ah.2.2.2.2 0).bind fun x2=>F.square_at x1 x2).bind fun y16=>qcn (fun(ac:Int) (s8:Unit)=>(((RE.ok (!decide (ac=ah.2.2.1))).bind fun k12=>if k12=true then (((atE aj ac).bind fun x9=>(RE.ok ah.2.2.2.1).bind fun x10=>F.has_only x9 x10).bind fun x11=>RE.ok (!x11)) else RE.ok false).bind fun k13=>if k13=true then (RE.ok (.rt false)) else (RE.ok (.nx ())):RE (Fl (Bool) (Unit)))) y16 ()) fun(p15:Unit)=>RE.ok true
def F.Reach_fits (ab:KK) (ae:PuzT) (ak:Option RuleT) (ah:List Nat × Int × Int × Int × (List Int)):RE Bool:=
 ((RE.ok ak.isNone).bind fun k8=>if k8=true then RE.ok true else ((((unO ak).bind fun x1=>F.m_name x1).bind fun x2=>RE.ok (!decide (x2=([106,111,105,110,101,100])))).bind fun k7=>if k7=true then (((unO ak).bind fun x4=>F.m_name x4).bind fun x5=>RE.ok (!decide (x5=([114,105,110,103])))) else RE.ok false)).bind fun k9=>if k9=true then (RE.ok false) else ((RE.ok (ah.2.2.2.2:List Int)).bind fun aH=>(((((unO ak).bind fun x10=>F.Rule_sign x10).bind fun x11=>RE.ok (decide (x11=ah.2.2.2.1))).bind fun x13=>RE.ok (if x13=true then 1 else 0:Int)).bind fun x15=>RE.ok (2 - x15)).bind fun ar=>((RE.ok (!decide ((List.length aH:Int)=ar))).bind fun k18=>if k18=true then RE.ok true else ((qky aH).bind fun x16=>RE.ok (!decide (x16=ar)))).bind fun k19=>if k19=true then (RE.ok false) else ((((RE.ok aH).bind fun x24=>gd (leB x24.length) (lcE (fun(aE:Int)=>((RE.ok (decide (aE=ah.2.2.1))).bind fun k23=>if k23=true then RE.ok true else ((RE.ok (decide (aE<0))).bind fun k22=>if k22=true then RE.ok true else ((F.Puzzle_many ae).bind fun x21=>RE.ok (decide (x21≤aE)))))) (fun(aE:Int)=>(RE.ok aE)) x24)).bind fun x25=>RE.ok (List.length x25:Int)).bind fun x26=>RE.ok (decide (x26=0))))
def F.Reach_strikes (ab:KK) (ae:PuzT) (aj:List Int) (ak:Option RuleT) (ah:List Nat × Int × Int × Int × (List Int)):RE Bool:=
 ((unO ak).bind fun x1=>F.Rule_sign x1).bind fun ai=>(RE.ok (ah.2.2.1:Int)).bind fun ac=>(RE.ok (ah.2.2.2.2:List Int)).bind fun aH=>Fl.bR ((RE.ok aH).bind fun y25=>qcn (fun(aE:Int) (s6:Unit)=>((((atE aj aE).bind fun x7=>(RE.ok ai).bind fun x8=>F.has_only x7 x8).bind fun x9=>RE.ok (!x9)).bind fun k10=>if k10=true then (RE.ok (.rt false)) else (RE.ok (.nx ())):RE (Fl (Bool) (Unit)))) y25 ()) fun(p12:Unit)=>((F.may_have aj ai).bind fun x13=>gd (leB x13.length) (RE.ok (List.filter (fun(aD:Int)=>!decide (aD=ac)) x13))).bind fun aT=>(RE.ok (decide (ai=ah.2.2.2.1))).bind fun k14=>if k14=true then ((atE aH 0).bind fun x18=>((F.Puzzle_place ae).bind fun x15=>(qhi aT [ac]).bind fun x16=>(RE.ok ac).bind fun x17=>F.reached x15 x16 x17).bind fun x19=>RE.ok (!decide (x18∈x19))) else ((atE aH 1).bind fun x23=>((F.Puzzle_place ae).bind fun x20=>(RE.ok aT).bind fun x21=>(atE aH 0).bind fun x22=>F.reached x20 x21 x22).bind fun x24=>RE.ok (!decide (x23∈x24)))
def F.Turn_fits (ab:KK) (ae:PuzT) (ak:Option RuleT) (ah:List Nat × Int × Int × Int × (List Int)):RE Bool:=
 ((RE.ok ak.isNone).bind fun k4=>if k4=true then RE.ok true else (((unO ak).bind fun x1=>F.m_name x1).bind fun x2=>RE.ok (!decide (x2=([114,105,110,103]))))).bind fun k5=>if k5=true then (RE.ok false) else ((RE.ok (decide (ah.2.2.2.2=[]))).bind fun k6=>if k6=true then (((unO ak).bind fun x7=>F.Rule_sign x7).bind fun x8=>RE.ok (decide (x8=ah.2.2.2.1))) else ((RE.ok (decide ((List.length ah.2.2.2.2:Int)=1))).bind fun k14=>if k14=true then ((atE ah.2.2.2.2 0).bind fun x12=>((F.Puzzle_place ae).bind fun x10=>(RE.ok ah.2.2.1).bind fun x11=>F.beside x10 x11).bind fun x13=>RE.ok (decide (x12∈x13))) else RE.ok false))
def F.Turn_strikes (ab:KK) (ae:PuzT) (aj:List Int) (ak:Option RuleT) (ah:List Nat × Int × Int × Int × (List Int)):RE Bool:=
 ((unO ak).bind fun x1=>F.Rule_sign x1).bind fun ai=>(RE.ok (ah.2.2.1:Int)).bind fun aC=>Fl.bR ((RE.ok (!decide (ah.2.2.2.2=[]))).bind fun k2=>if k2=true then ((atE ah.2.2.2.2 0).bind fun aC=>(((atE aj aC).bind fun x7=>(RE.ok ai).bind fun x8=>F.has_only x7 x8).bind fun x9=>RE.ok (!x9)).bind fun k10=>if k10=true then (RE.ok false).bind fun b=>RE.ok (.rt b) else (RE.ok (.nx aC))) else (RE.ok (.nx aC)):RE (Fl (Bool) (Int))) fun p11=>(((F.Puzzle_place ae).bind fun x12=>(RE.ok p11).bind fun x13=>F.beside x12 x13).bind fun x14=>gd (leB x14.length) (RE.ok (List.filter (fun(ac:Int)=>!decide (ac=ah.2.2.1)) x14))).bind fun bB=>(((RE.ok bB).bind fun x17=>gd (leB x17.length) (lcE (fun(ac:Int)=>((atE aj ac).bind fun x15=>(RE.ok ai).bind fun x16=>F.has_only x15 x16)) (fun(ac:Int)=>(RE.ok ac)) x17)).bind fun x18=>RE.ok (List.length x18:Int)).bind fun bh=>(((RE.ok bB).bind fun x21=>gd (leB x21.length) (lcE (fun(ac:Int)=>((atE aj ac).bind fun x19=>(RE.ok ai).bind fun x20=>F.stands x19 x20)) (fun(ac:Int)=>(RE.ok ac)) x21)).bind fun x22=>RE.ok (List.length x22:Int)).bind fun bC=>(RE.ok (decide (ah.2.2.2.2=[]))).bind fun k23=>if k23=true then (RE.ok ((decide (bC<2))||(decide (2<bh)))) else ((RE.ok (decide (ai=ah.2.2.2.1))).bind fun k24=>if k24=true then (RE.ok (decide (2≤bh))) else (RE.ok (decide (bC<2))))
def F.is_in_bounds (ae:PuzT) (ah:List Nat × Int × Int × Int × (List D)):RE Bool:=
 ((RE.ok 0).bind fun x1=>(RE.ok ah.2.2.1).bind fun x2=>if decide (x1≤x2)=true then (F.Puzzle_many ae).bind fun x3=>RE.ok (decide (x2<x3)) else RE.ok false).bind fun k8=>if k8=true then ((RE.ok 1).bind fun x5=>(RE.ok ah.2.2.2.1).bind fun x6=>if decide (x5≤x6)=true then ((F.Puzzle_place ae).bind fun x4=>RE.ok x4.2.2).bind fun x7=>RE.ok (decide (x6≤x7)) else RE.ok false) else RE.ok false
def F.rule_of (ae:PuzT) (ah:List Nat × Int × Int × Int × (List D)):RE (Option RuleT):=
 ((RE.ok 0).bind fun x1=>(RE.ok ah.2.1).bind fun x2=>if decide (x1≤x2)=true then (F.Puzzle_many_rules ae).bind fun x3=>RE.ok (decide (x2<x3)) else RE.ok false).bind fun k4=>if k4=true then ((F.Puzzle_rule_at ae ah.2.1).bind fun x5=>RE.ok ((some) x5)) else (RE.ok (none:Option RuleT))
def F.m_strikes (r:KK) (a0:PuzT) (a1:List Int) (a2:Option RuleT) (a3:List Nat × Int × Int × Int × (List Int)):RE Bool:=match r with
 |.clue=>F.Clue_strikes r a0 a1 a2 a3
 |.only=>F.Only_strikes r a0 a1 a2 a3
 |.place=>F.Place_strikes r a0 a1 a2 a3
 |.pair=>F.Pair_strikes r a0 a1 a2 a3
 |.count=>F.Count_strikes r a0 a1 a2 a3
 |.step=>F.Step_strikes r a0 a1 a2 a3
 |.sums=>F.Sums_strikes r a0 a1 a2 a3
 |.ways=>F.Ways_strikes r a0 a1 a2 a3
 |.square=>F.Square_strikes r a0 a1 a2 a3
 |.reach=>F.Reach_strikes r a0 a1 a2 a3
 |.turn=>F.Turn_strikes r a0 a1 a2 a3
def F.m_fits (r:KK) (a0:PuzT) (a1:Option RuleT) (a2:List Nat × Int × Int × Int × (List Int)):RE Bool:=match r with
 |.clue=>F.Clue_fits r a0 a1 a2
 |.only=>F.Only_fits r a0 a1 a2
 |.place=>F.Place_fits r a0 a1 a2
 |.pair=>F.Pair_fits r a0 a1 a2
 |.count=>F.Count_fits r a0 a1 a2
 |.step=>F.Step_fits r a0 a1 a2
 |.sums=>F.Sums_fits r a0 a1 a2
 |.ways=>F.Ways_fits r a0 a1 a2
 |.square=>F.Square_fits r a0 a1 a2
 |.reach=>F.Reach_fits r a0 a1 a2
 |.turn=>F.Turn_fits r a0 a1 a2
def F.allowed (ae:PuzT) (aj:List Int) (ah:List Nat × Int × Int × Int × (List D)):RE Bool:=
 (F.kind_of ah.1).bind fun aF=>((RE.ok aF.isNone).bind fun k4=>if k4=true then RE.ok true else (((F.is_in_bounds ae ah).bind fun x1=>RE.ok (!x1)).bind fun k3=>if k3=true then RE.ok true else ((F.are_numbers ah.2.2.2.2).bind fun x2=>RE.ok (!x2)))).bind fun k5=>if k5=true then (RE.ok false) else ((F.rule_of ae ah).bind fun ak=>((unO aF).bind fun x9=>(RE.ok ae).bind fun x6=>(RE.ok ak).bind fun x7=>(dT5 (dLs dI) ah).bind fun x8=>F.m_fits x9 x6 x7 x8).bind fun k15=>if k15=true then ((unO aF).bind fun x14=>(RE.ok ae).bind fun x10=>(RE.ok aj).bind fun x11=>(RE.ok ak).bind fun x12=>(dT5 (dLs dI) ah).bind fun x13=>F.m_strikes x14 x10 x11 x12 x13) else RE.ok false)
def F.m_told_numbers (r:RuleT)  : RE (List Int):=match r.k with
 |.unlike=>F.Rule_told_numbers r
 |.total=>F.Total_told_numbers r
 |.rising=>F.Rule_told_numbers r
 |.seen=>F.Seen_told_numbers r
 |.counted=>F.Counted_told_numbers r
 |.joined=>F.Joined_told_numbers r
 |.nosquare=>F.NoSquare_told_numbers r
 |.ring=>F.Ring_told_numbers r
def F.Rule_line (ab:RuleT):RE (List Nat):=
 (RE.ok [32]).bind fun x5=>(((F.m_name ab).bind fun x1=>RE.ok [x1]).bind fun x3=>((F.m_told_numbers ab).bind fun x2=>gd (leB x2.length) (lcE (fun(a9:Int)=>(RE.ok true)) (fun(a9:Int)=>(qm9 a9)) x2)).bind fun x4=>qhi x3 x4).bind fun x6=>qee x5 x6
def F.Puzzle_lines (ab:PuzT):RE (List (List Nat)):=
 (RE.ok ab.rules).bind fun x1=>gd (leB x1.length) (lcE (fun(ak:RuleT)=>(RE.ok true)) (fun(ak:RuleT)=>(F.Rule_line ak)) x1)
def F.look_at_move (aN:Int):RE Unit:=
 (RE.ok (!(decide (0≤aN)&&decide (aN≤7)))).bind fun k1=>if k1=true then RE.exc 38 [] else (RE.ok ())
def F.turned_spot (aK:Int) (aW:Int × Int):RE (Int × Int):=
 RE.ok (aW.2,(aK - 1) - aW.1)
def F.moved_floor (af:Int × Int × Int) (aN:Int):RE (Int × Int × Int):=
 (F.look_at_move aN).bind fun _=>(RE.ok af).bind fun p1=>(RE.ok (decide ((Int.fmod aN 2)=1))).bind fun k2=>if k2=true then (RE.ok (p1.2.1,p1.1,p1.2.2)) else (RE.ok (p1.1,p1.2.1,p1.2.2))
def F.moved_cells (af:Int × Int × Int) (aN:Int):RE (List Int):=
 (F.look_at_move aN).bind fun _=>(RE.ok ([]:List Int)).bind fun al=>(((F.many_cells af).bind qbs).bind fun y33=>qam (fun(ac:Int) (s16:List Int)=>(RE.ok af).bind fun p17=>(F.spot_of af ac).bind fun aW=>((RE.ok (decide (4≤aN))).bind fun k18=>if k18=true then ((RE.ok ((aW.1,(p17.2.1 - 1) - aW.2):Int × Int)).bind fun aW=>RE.ok aW) else (RE.ok aW)).bind fun(p19:Int × Int)=>((qbs (Int.fmod aN 4)).bind fun y31=>qam (fun(bI:Int) (s23:Int × Int × (Int × Int))=>(F.turned_spot s23.1 s23.2.2).bind fun aW=>((RE.ok s23.2.1).bind fun x25=>(RE.ok s23.1).bind fun x26=>RE.ok (x25,x26)).bind fun p24=>RE.ok (p24.1,p24.2,aW)) y31 (p17.1,p17.2.1,p19)).bind fun(p27:Int × Int × (Int × Int))=>(((qjK p27.2.2.1 p27.2.1).bind fun x28=>RE.ok (x28+p27.2.2.2)).bind fun x30=>qez s16 x30).bind fun al=>RE.ok al) y33 al).bind fun(p32:List Int)=>RE.ok p32
def F.show_filling (af:Int × Int × Int) (ao:List Int):RE (List Nat):=
 (RE.ok (af.2.1:Int)).bind fun aL=>(RE.ok ([]:List (List Nat))).bind fun aP=>((qbs af.1).bind fun y27=>qam (fun(aM:Int) (s13:List (List Nat))=>(((RE.ok []).bind fun x23=>(((RE.ok ao).bind fun x18=>((qjK aM aL).bind fun x14=>RE.ok (some x14)).bind fun x19=>(((qjK aM aL).bind fun x15=>RE.ok (x15+aL)).bind fun x17=>RE.ok (some x17)).bind fun x20=>RE.ok (qe5 x18 x19 x20)).bind fun x22=>gd (leB x22.length) (lcE (fun(ai:Int)=>(RE.ok true)) (fun(ai:Int)=>((qpx ([46,49,50,51,52,53,54]) ai).bind fun x21=>RE.ok ((fun c=>[c]) x21))) x22)).bind fun x24=>qee x23 x24).bind fun x25=>qez s13 x25).bind fun aP=>RE.ok aP) y27 aP).bind fun(p26:List (List Nat))=>qee [47] p26
def F.read_filling (af:Int × Int × Int) (aQ:D):RE (List Int):=
 ((tyE (eD aQ) .str).bind fun x1=>RE.ok (!x1)).bind fun k2=>if k2=true then (RE.exc 32 []) else (((dS aQ).bind fun x3=>(RE.ok [47]).bind fun x4=>qcE x3 x4).bind fun aP=>(RE.ok (!decide ((List.length aP:Int)=af.1))).bind fun k5=>if k5=true then (RE.exc 32 []) else ((RE.ok ([]:List Int)).bind fun ao=>((RE.ok aP).bind fun y36=>qam (fun(aM:List Nat) (s20:List Int)=>((qjX aM).bind fun x21=>RE.ok (!decide (x21=af.2.1))).bind fun k23=>if k23=true then RE.exc 32 [] else (((RE.ok aM).bind fun y34=>qam (fun(bf:Nat) (s28:List Int)=>((qmQ ([46,49,50,51,52,53,54]) none (some (af.2.2+1))).bind fun x30=>RE.ok (!decide (bf∈x30))).bind fun k31=>if k31=true then RE.exc 32 [] else (((qj3 ([46,49,50,51,52,53,54]) [bf]).bind fun x32=>qez s28 x32).bind fun ao=>RE.ok ao)) y34 s20).bind fun(p33:List Int)=>RE.ok p33)) y36 ao).bind fun(p35:List Int)=>RE.ok p35))
def F.full (af:Int × Int × Int):RE (List Int):=
 ((F.many_cells af).bind qbs).bind fun x4=>gd (leB x4.length) (lcE (fun(ac:Int)=>(RE.ok true)) (fun(ac:Int)=>((F.bit (af.2.2+1)).bind fun x2=>RE.ok (x2 - 1))) x4)
def F.filling_by (aj:List Int):RE (List Int):=
 (RE.ok ([]:List Int)).bind fun ao=>((RE.ok aj).bind fun y9=>qam (fun(aR:Int) (s3:List Int)=>(F.signs_in aR).bind fun a8=>((RE.ok (decide ((List.length a8:Int)=1))).bind fun k4=>if k4=true then (((atE a8 0).bind fun x6=>qez s3 x6).bind fun ao=>RE.ok ao) else ((qez s3 0).bind fun ao=>RE.ok ao)).bind fun(p7:List Int)=>RE.ok p7) y9 ao).bind fun(p8:List Int)=>RE.ok p8
def F.many_floors (ae:PuzT):RE Int:=
 (RE.ok (1:Int)).bind fun aG=>((F.Puzzle_clues ae).bind fun y21=>qam (fun(bt:Int) (s7:Int)=>((RE.ok (decide (bt=0))).bind fun k8=>if k8=true then ((((F.Puzzle_place ae).bind fun x15=>RE.ok x15.2.2).bind fun x17=>qjK s7 x17).bind fun aG=>(RE.ok (decide (1024<aG))).bind fun k18=>if k18=true then RE.exc 36 [] else (RE.ok aG)) else (RE.ok s7)).bind fun(p19:Int)=>RE.ok p19) y21 aG).bind fun(p20:Int)=>RE.ok p20
def F.laid (ae:PuzT) (bj:List Int) (a9:Int):RE (List Int):=
 ((F.Puzzle_place ae).bind fun x1=>RE.ok x1.2.2).bind fun a8=>(F.Puzzle_clues ae).bind fun ao=>(((F.Puzzle_many ae).bind qwA).bind fun y35=>qam (fun(ac:Int) (s13:Int × (List Int))=>(((atE s13.2 ac).bind fun x14=>RE.ok (decide (x14=0))).bind fun k16=>if k16=true then ((((((atE bj ac).bind fun x25=>RE.ok (x25+s13.1)).bind fun x27=>qmM x27 a8).bind fun x30=>RE.ok (1+x30)).bind fun x31=>(RE.ok ac).bind fun x32=>qrt s13.2 x32 x31).bind fun ao=>(qsp s13.1 a8).bind fun a9=>RE.ok (a9,ao)) else (RE.ok (s13.1,s13.2))).bind fun(p33:Int × (List Int))=>RE.ok (p33.1,p33.2)) y35 (a9,ao)).bind fun(p34:Int × (List Int))=>RE.ok p34.2
def F.answers (ae:PuzT) (bJ:Int):RE (List (List Int)):=
 (((F.Puzzle_many ae).bind qbs).bind fun x2=>gd (leB x2.length) (RE.ok (List.map (fun(ac:Int)=>0) x2))).bind fun bj=>(RE.ok ([]:List (List Int))).bind fun al=>Fl.bR (((F.many_floors ae).bind qbs).bind fun y11=>qcn (fun(a9:Int) (s6:List (List Int))=>((F.laid ae bj a9).bind fun ao=>(F.Puzzle_meets ae ao).bind fun k7=>if k7=true then ((qez s6 ao).bind fun al=>(RE.ok (decide ((List.length al:Int)=bJ))).bind fun k8=>if k8=true then (RE.ok (.rt al)) else (RE.ok (.nx al))) else (RE.ok (.nx s6)):RE (Fl (List (List Int)) (List (List Int))))) y11 al) fun(p10:List (List Int))=>RE.ok p10
def F.filled (ae:PuzT) (ay:List Int):RE (Option (List Int)):=
 ((F.Puzzle_place ae).bind fun x1=>RE.ok x1.2.2).bind fun a8=>((RE.ok ay).bind fun x2=>gd (leB x2.length) (lcE (fun(a9:Int)=>(RE.ok true)) (fun(a9:Int)=>(qmM a9 a8)) x2)).bind fun bj=>Fl.bR (((F.many_floors ae).bind qbs).bind fun y9=>qcn (fun(a9:Int) (s5:Unit)=>((F.laid ae bj a9).bind fun ao=>(F.Puzzle_meets ae ao).bind fun k6=>if k6=true then (RE.ok (.rt (some ao))) else (RE.ok (.nx ())):RE (Fl (Option (List Int)) (Unit)))) y9 ()) fun(p8:Unit)=>RE.ok (none:Option (List Int))
def F.struck (aj:List Int) (ac:Int) (ai:Int):RE (List Int):=
 (RE.ok (aj:List Int)).bind fun al=>(((atE al ac).bind fun x1=>(RE.ok ai).bind fun x2=>F.stands x1 x2).bind fun k3=>if k3=true then ((((atE al ac).bind fun x8=>(F.bit ai).bind fun x9=>RE.ok (x8 - x9)).bind fun x10=>(RE.ok ac).bind fun x11=>qrt al x11 x10).bind fun al=>RE.ok al) else (RE.ok al)).bind fun(p12:List Int)=>RE.ok p12
def F.clashes (aj:List Int):RE Bool:=
 RE.ok (decide (0∈aj))
def F.is_settled (aj:List Int):RE Bool:=
 ((RE.ok aj).bind fun x4=>gd (leB x4.length) (lcE (fun(aR:Int)=>(RE.ok true)) (fun(aR:Int)=>(((F.signs_in aR).bind fun x1=>RE.ok (List.length x1:Int)).bind fun x2=>RE.ok (decide (x2=1)))) x4)).bind fun x5=>RE.ok (List.all x5 id)
def F.ways (aj:List Int):RE Int:=
 (RE.ok (1:Int)).bind fun bv=>((RE.ok aj).bind fun y11=>qam (fun(aR:Int) (s5:Int)=>(((F.signs_in aR).bind fun x7=>RE.ok (List.length x7:Int)).bind fun x9=>qjK s5 x9).bind fun bv=>RE.ok bv) y11 bv).bind fun(p10:Int)=>RE.ok p10
def F.Rule_reckons (ab:RuleT):RE Bool:=
 RE.ok false
def F.Total_reckons (ab:RuleT):RE Bool:=
 RE.ok true
def F.Rising_reckons (ab:RuleT):RE Bool:=
 RE.ok true
def F.Seen_reckons (ab:RuleT):RE Bool:=
 RE.ok true
def F.Puzzle_clued (ab:PuzT) (a7:List Int):RE PuzT:=
 (RE.ok ab.ground).bind fun x2=>((F.Puzzle_lines ab).bind fun x1=>RE.ok ((List.map (eS)) x1)).bind fun x3=>(RE.ok a7).bind fun x4=>F.Puzzle_new x2 x3 x4
def F.is_standing (ae:PuzT) (aj:List Int) (ah:List Nat × Int × Int × Int × (List D)):RE Bool:=
 (F.is_in_bounds ae ah).bind fun k3=>if k3=true then ((atE aj ah.2.2.1).bind fun x1=>(RE.ok ah.2.2.2.1).bind fun x2=>F.stands x1 x2) else RE.ok false
def F.Kind_mores (ab:KK) (ae:PuzT) (aj:List Int) (ak:Option RuleT) (ac:Int) (ai:Int):RE (List (List Int)):=
 RE.ok [[]]
def F.Only_mores (ab:KK) (ae:PuzT) (aj:List Int) (ak:Option RuleT) (ac:Int) (ai:Int):RE (List (List Int)):=
 (((unO ak).bind fun x1=>(RE.ok ac).bind fun x2=>F.others_of x1 x2).bind fun x3=>RE.ok (qe1 x3)).bind fun x4=>gd (leB x4.length) (RE.ok (List.map (fun(aD:Int)=>[aD]) x4))
def F.Place_mores (ab:KK) (ae:PuzT) (aj:List Int) (ak:Option RuleT) (ac:Int) (ai:Int):RE (List (List Int)):=
 ((RE.ok 1).bind fun x4=>(((F.Puzzle_place ae).bind fun x1=>RE.ok x1.2.2).bind fun x2=>RE.ok (x2+1)).bind fun x5=>qqm x4 x5).bind fun x6=>gd (leB x6.length) (RE.ok (List.map (fun(aD:Int)=>[aD]) x6))
def F.Pair_mores (ab:KK) (ae:PuzT) (aj:List Int) (ak:Option RuleT) (ac:Int) (ai:Int):RE (List (List Int)):=
 ((unO ak).bind fun x1=>(RE.ok ac).bind fun x2=>F.others_of x1 x2).bind fun aO=>(RE.ok ([]:List (List Int))).bind fun al=>((qbs (List.length aO:Int)).bind fun y23=>qam (fun(aA:Int) (s12:List (List Int))=>((RE.ok (qe5 aO (some (aA+1)) none)).bind fun y21=>qam (fun(aD:Int) (s16:List (List Int))=>(((atE aO aA).bind fun x17=>(RE.ok aD).bind fun x18=>RE.ok [x17,x18]).bind fun x19=>qez s16 x19).bind fun al=>RE.ok al) y21 s12).bind fun(p20:List (List Int))=>RE.ok p20) y23 al).bind fun(p22:List (List Int))=>RE.ok (qf0 p22)
def F.must_have (aj:List Int) (ai:Int):RE (List Int):=
 (qbs (List.length aj:Int)).bind fun x3=>gd (leB x3.length) (lcE (fun(ac:Int)=>((atE aj ac).bind fun x1=>(RE.ok ai).bind fun x2=>F.has_only x1 x2)) (fun(ac:Int)=>(RE.ok ac)) x3)
def F.Square_mores (ab:KK) (ae:PuzT) (aj:List Int) (ak:Option RuleT) (ac:Int) (ai:Int):RE (List (List Int)):=
 ((F.Puzzle_place ae).bind fun x1=>F.squares x1).bind fun x3=>gd (leB x3.length) (lcE (fun(ba:List Int)=>(RE.ok (decide (ac∈ba)))) (fun(ba:List Int)=>((atE ba 0).bind fun x2=>RE.ok [x2])) x3)
def F.Reach_mores (ab:KK) (ae:PuzT) (aj:List Int) (ak:Option RuleT) (ac:Int) (ai:Int):RE (List (List Int)):=
 (((RE.ok aj).bind fun x2=>((unO ak).bind fun x1=>F.Rule_sign x1).bind fun x3=>F.must_have x2 x3).bind fun x4=>gd (leB x4.length) (RE.ok (List.filter (fun(aD:Int)=>!decide (aD=ac)) x4))).bind fun bh=>(((unO ak).bind fun x5=>F.Rule_sign x5).bind fun x7=>RE.ok (decide (ai=x7))).bind fun k8=>if k8=true then ((RE.ok bh).bind fun x9=>gd (leB x9.length) (RE.ok (List.map (fun(aD:Int)=>[aD]) x9))) else ((RE.ok (qe5 bh (some 1) none)).bind fun x12=>gd (leB x12.length) (lcE (fun(aD:Int)=>(RE.ok true)) (fun(aD:Int)=>((atE bh 0).bind fun x10=>(RE.ok aD).bind fun x11=>RE.ok [x10,x11])) x12))
def F.Turn_mores (ab:KK) (ae:PuzT) (aj:List Int) (ak:Option RuleT) (ac:Int) (ai:Int):RE (List (List Int)):=
 (((F.Puzzle_place ae).bind fun x1=>(RE.ok ac).bind fun x2=>F.beside x1 x2).bind fun x3=>gd (leB x3.length) (RE.ok (List.map (fun(aD:Int)=>[aD]) x3))).bind fun x5=>qhi [[]] x5
def F.kinds_by (aU:List (List Nat)):RE (List KK):=
 F.all_kinds.bind fun x3=>gd (leB x3.length) (lcE (fun(aF:KK)=>((F.m_word aF).bind fun x1=>evC .isin (eS x1) ((eL eS) aU))) (fun(aF:KK)=>(RE.ok aF)) x3)
def F.m_mores (r:KK) (a0:PuzT) (a1:List Int) (a2:Option RuleT) (a3:Int) (a4:Int):RE (List (List Int)):=match r with
 |.clue=>F.Kind_mores r a0 a1 a2 a3 a4
 |.only=>F.Only_mores r a0 a1 a2 a3 a4
 |.place=>F.Place_mores r a0 a1 a2 a3 a4
 |.pair=>F.Pair_mores r a0 a1 a2 a3 a4
 |.count=>F.Kind_mores r a0 a1 a2 a3 a4
 |.step=>F.Kind_mores r a0 a1 a2 a3 a4
 |.sums=>F.Kind_mores r a0 a1 a2 a3 a4
 |.ways=>F.Kind_mores r a0 a1 a2 a3 a4
 |.square=>F.Square_mores r a0 a1 a2 a3 a4
 |.reach=>F.Reach_mores r a0 a1 a2 a3 a4
 |.turn=>F.Turn_mores r a0 a1 a2 a3 a4
def F.thought_at (ae:PuzT) (aj:List Int) (aF:KK) (a9:Int) (ac:Int):RE (Option (List Nat × Int × Int × Int × (List Int))):=
 (RE.ok (():Unit)).bind fun ak=>(((F.Puzzle_many_rules ae).bind fun x2=>RE.ok (decide (a9<x2))).bind fun k3=>if k3=true then ((F.Puzzle_rule_at ae a9).bind fun ak=>RE.ok (some ak)) else (RE.ok (none:Option RuleT))).bind fun(p4:Option RuleT)=>Fl.bR (((atE aj ac).bind fun x5=>F.signs_in x5).bind fun y44=>qcn (fun(ai:Int) (s24:Unit)=>(Fl.bF ((F.m_mores aF ae aj p4 ac ai).bind fun y42=>qcn (fun(aH:List Int) (s32:Unit)=>(((F.m_word aF).bind fun x33=>(RE.ok a9).bind fun x34=>(RE.ok ac).bind fun x35=>(RE.ok ai).bind fun x36=>(RE.ok aH).bind fun x37=>RE.ok (x33,x34,x35,x36,x37)).bind fun ah=>((F.m_fits aF ae p4 ah).bind fun k38=>if k38=true then (F.m_strikes aF ae aj p4 ah) else RE.ok false).bind fun k39=>if k39=true then (RE.ok (.rt (some ah))) else (RE.ok (.nx ())):RE (Fl (Option (List Nat × Int × Int × Int × (List Int))) (Unit)))) y42 ()) fun(p41:Unit)=>RE.ok (.nx ()):RE (Fl (Option (List Nat × Int × Int × Int × (List Int))) (Unit)))) y44 ()) fun(p43:Unit)=>RE.ok (none:Option (List Nat × Int × Int × Int × (List Int)))
def F.first_of (ae:PuzT) (aj:List Int) (aF:KK) (a9:Int) (am:List Int):RE (Option (List Nat × Int × Int × Int × (List Int))):=
 Fl.bR ((RE.ok am).bind fun y6=>qcn (fun(ac:Int) (s2:Unit)=>((F.thought_at ae aj aF a9 ac).bind fun al=>(RE.ok al.isSome).bind fun k3=>if k3=true then (RE.ok (.rt al)) else (RE.ok (.nx ())):RE (Fl (Option (List Nat × Int × Int × Int × (List Int))) (Unit)))) y6 ()) fun(p5:Unit)=>RE.ok (none:Option (List Nat × Int × Int × Int × (List Int)))
def F.is_for (aF:KK) (ak:RuleT):RE Bool:=
 ((F.m_word aF).bind fun x1=>qv9 qgy false x1).bind fun k5=>if k5=true then RE.ok true else ((F.m_name ak).bind fun x3=>((F.m_word aF).bind fun x2=>qvU qgy x2).bind fun x4=>qtM x3 x4)
def F.next_thought (ae:PuzT) (aj:List Int) (aZ:List (List Nat)):RE (Option (List Nat × Int × Int × Int × (List Int))):=
 (F.clashes aj).bind fun k1=>if k1=true then (RE.ok (none:Option (List Nat × Int × Int × Int × (List Int)))) else (Fl.bR ((F.kinds_by aZ).bind fun y113=>qcn (fun(aF:KK) (s39:Unit)=>((RE.ok (():Unit)).bind fun al=>(((F.m_word aF).bind fun x40=>(atE qa2 0).bind fun x41=>RE.ok (decide (x40=x41))).bind fun k42=>if k42=true then (((RE.ok ae).bind fun x77=>(RE.ok aj).bind fun x78=>(RE.ok aF).bind fun x79=>(RE.ok 0).bind fun x80=>((F.Puzzle_many ae).bind qbs).bind fun x81=>F.first_of x77 x78 x79 x80 x81).bind fun al=>RE.ok al) else ((((F.Puzzle_many_rules ae).bind qbs).bind fun y108=>qam (fun(a9:Int) (s91:Option (List Nat × Int × Int × Int × (List Int)))=>(F.Puzzle_rule_at ae a9).bind fun ak=>(((RE.ok s91.isNone).bind fun k92=>if k92=true then (F.is_for aF ak) else RE.ok false).bind fun k93=>if k93=true then (((RE.ok ae).bind fun x101=>(RE.ok aj).bind fun x102=>(RE.ok aF).bind fun x103=>(RE.ok a9).bind fun x104=>((F.Rule_spots ak).bind fun x100=>RE.ok (qe1 x100)).bind fun x105=>F.first_of x101 x102 x103 x104 x105).bind fun al=>RE.ok al) else (RE.ok s91)).bind fun(p106:Option (List Nat × Int × Int × Int × (List Int)))=>RE.ok p106) y108 (none:Option (List Nat × Int × Int × Int × (List Int)))).bind fun(p107:Option (List Nat × Int × Int × Int × (List Int)))=>RE.ok p107)).bind fun(p109:Option (List Nat × Int × Int × Int × (List Int)))=>(RE.ok p109.isSome).bind fun k110=>if k110=true then (RE.ok (.rt p109)) else (RE.ok (.nx ())):RE (Fl (Option (List Nat × Int × Int × Int × (List Int))) (Unit)))) y113 ()) fun(p112:Unit)=>RE.ok (none:Option (List Nat × Int × Int × Int × (List Int))))
def F.think (ae:PuzT) (aj:List Int) (aZ:List (List Nat)):RE ((List Int) × (List (List Nat × Int × Int × Int × (List Int)))):=
 (RE.ok (aj:List Int)).bind fun aq=>(RE.ok ([]:List (List Nat × Int × Int × Int × (List Int)))).bind fun aJ=>Fl.bR (quI (fun(s8:(List Int) × (List (List Nat × Int × Int × Int × (List Int))))=>((F.clashes s8.1).bind fun x9=>RE.ok (!x9))) (fun(s8:(List Int) × (List (List Nat × Int × Int × Int × (List Int))))=>((F.next_thought ae s8.1 aZ).bind fun ah=>(RE.ok ah.isNone).bind fun k10=>if k10=true then (RE.ok (.bk (s8.1,s8.2))) else (((RE.ok s8.1).bind fun x13=>((unO ah).bind fun x11=>RE.ok x11.2.2.1).bind fun x14=>((unO ah).bind fun x12=>RE.ok x12.2.2.2.1).bind fun x15=>F.struck x13 x14 x15).bind fun aq=>((unO ah).bind fun x16=>qez s8.2 x16).bind fun aJ=>RE.ok (.nx (aq,aJ))):RE (Fl ((List Int) × (List (List Nat × Int × Int × Int × (List Int)))) ((List Int) × (List (List Nat × Int × Int × Int × (List Int))))))) qvt (aq,aJ)) fun(p17:(List Int) × (List (List Nat × Int × Int × Int × (List Int))))=>RE.ok (p17.1,p17.2)
def F.settles (ae:PuzT) (aZ:List (List Nat)):RE Bool:=
 (((RE.ok ae).bind fun x2=>((F.Puzzle_place ae).bind fun x1=>F.full x1).bind fun x3=>(RE.ok aZ).bind fun x4=>F.think x2 x3 x4).bind fun x5=>RE.ok x5.1).bind fun aq=>(F.is_settled aq).bind fun k8=>if k8=true then ((RE.ok ae).bind fun x7=>(F.filling_by aq).bind fun x6=>F.Puzzle_meets x7 x6) else RE.ok false
def F.with_only (aj:List Int) (ac:Int) (ai:Int):RE (List Int):=
 (RE.ok (aj:List Int)).bind fun aq=>((qwd 1 (ai - 1)).bind fun x1=>(RE.ok ac).bind fun x2=>qrt aq x2 x1).bind fun aq=>RE.ok aq
def F.first_open (aj:List Int):RE Int:=
 Fl.bR ((qbs (List.length aj:Int)).bind fun y14=>qcn (fun(ac:Int) (s6:Unit)=>(((((atE aj ac).bind fun x7=>F.signs_in x7).bind fun x8=>RE.ok (List.length x8:Int)).bind fun x9=>RE.ok (decide (1<x9))).bind fun k11=>if k11=true then (RE.ok (.rt ac)) else (RE.ok (.nx ())):RE (Fl (Int) (Unit)))) y14 ()) fun(p13:Unit)=>RE.ok 0
def F.answers_in__1 (ae:PuzT) (aj:List Int):RE (List (List Int)):=
 ((F.think ae aj qa2).bind fun x1=>RE.ok x1.1).bind fun aq=>(F.clashes aq).bind fun k2=>if k2=true then (RE.ok []) else ((F.is_settled aq).bind fun k3=>if k3=true then ((F.filling_by aq).bind fun x4=>RE.ok [x4]) else ((F.first_open aq).bind fun ac=>(RE.ok ([]:List (List Int))).bind fun al=>(((atE aq ac).bind fun x5=>F.signs_in x5).bind fun y17=>qam (fun(ai:Int) (s9:List (List Int))=>((RE.ok (decide ((List.length s9:Int)<2))).bind fun k10=>if k10=true then (((RE.bad:RE (List (List Int))).bind fun x14=>qhi s9 x14).bind fun al=>RE.ok al) else (RE.ok s9)).bind fun(p15:List (List Int))=>RE.ok p15) y17 al).bind fun(p16:List (List Int))=>RE.ok p16))
def F.answers_in__2 (ae:PuzT) (aj:List Int):RE (List (List Int)):=
 ((F.think ae aj qa2).bind fun x1=>RE.ok x1.1).bind fun aq=>(F.clashes aq).bind fun k2=>if k2=true then (RE.ok []) else ((F.is_settled aq).bind fun k3=>if k3=true then ((F.filling_by aq).bind fun x4=>RE.ok [x4]) else ((F.first_open aq).bind fun ac=>(RE.ok ([]:List (List Int))).bind fun al=>(((atE aq ac).bind fun x5=>F.signs_in x5).bind fun y23=>qam (fun(ai:Int) (s11:List (List Int))=>((RE.ok (decide ((List.length s11:Int)<2))).bind fun k12=>if k12=true then ((((RE.ok ae).bind fun x17=>(F.with_only aq ac ai).bind fun x18=>F.answers_in__1 x17 x18).bind fun x20=>qhi s11 x20).bind fun al=>RE.ok al) else (RE.ok s11)).bind fun(p21:List (List Int))=>RE.ok p21) y23 al).bind fun(p22:List (List Int))=>RE.ok p22))
def F.answers_in__3 (ae:PuzT) (aj:List Int):RE (List (List Int)):=
 ((F.think ae aj qa2).bind fun x1=>RE.ok x1.1).bind fun aq=>(F.clashes aq).bind fun k2=>if k2=true then (RE.ok []) else ((F.is_settled aq).bind fun k3=>if k3=true then ((F.filling_by aq).bind fun x4=>RE.ok [x4]) else ((F.first_open aq).bind fun ac=>(RE.ok ([]:List (List Int))).bind fun al=>(((atE aq ac).bind fun x5=>F.signs_in x5).bind fun y23=>qam (fun(ai:Int) (s11:List (List Int))=>((RE.ok (decide ((List.length s11:Int)<2))).bind fun k12=>if k12=true then ((((RE.ok ae).bind fun x17=>(F.with_only aq ac ai).bind fun x18=>F.answers_in__2 x17 x18).bind fun x20=>qhi s11 x20).bind fun al=>RE.ok al) else (RE.ok s11)).bind fun(p21:List (List Int))=>RE.ok p21) y23 al).bind fun(p22:List (List Int))=>RE.ok p22))
def F.answers_in__4 (ae:PuzT) (aj:List Int):RE (List (List Int)):=
 ((F.think ae aj qa2).bind fun x1=>RE.ok x1.1).bind fun aq=>(F.clashes aq).bind fun k2=>if k2=true then (RE.ok []) else ((F.is_settled aq).bind fun k3=>if k3=true then ((F.filling_by aq).bind fun x4=>RE.ok [x4]) else ((F.first_open aq).bind fun ac=>(RE.ok ([]:List (List Int))).bind fun al=>(((atE aq ac).bind fun x5=>F.signs_in x5).bind fun y23=>qam (fun(ai:Int) (s11:List (List Int))=>((RE.ok (decide ((List.length s11:Int)<2))).bind fun k12=>if k12=true then ((((RE.ok ae).bind fun x17=>(F.with_only aq ac ai).bind fun x18=>F.answers_in__3 x17 x18).bind fun x20=>qhi s11 x20).bind fun al=>RE.ok al) else (RE.ok s11)).bind fun(p21:List (List Int))=>RE.ok p21) y23 al).bind fun(p22:List (List Int))=>RE.ok p22))
def F.answers_in__5 (ae:PuzT) (aj:List Int):RE (List (List Int)):=
 ((F.think ae aj qa2).bind fun x1=>RE.ok x1.1).bind fun aq=>(F.clashes aq).bind fun k2=>if k2=true then (RE.ok []) else ((F.is_settled aq).bind fun k3=>if k3=true then ((F.filling_by aq).bind fun x4=>RE.ok [x4]) else ((F.first_open aq).bind fun ac=>(RE.ok ([]:List (List Int))).bind fun al=>(((atE aq ac).bind fun x5=>F.signs_in x5).bind fun y23=>qam (fun(ai:Int) (s11:List (List Int))=>((RE.ok (decide ((List.length s11:Int)<2))).bind fun k12=>if k12=true then ((((RE.ok ae).bind fun x17=>(F.with_only aq ac ai).bind fun x18=>F.answers_in__4 x17 x18).bind fun x20=>qhi s11 x20).bind fun al=>RE.ok al) else (RE.ok s11)).bind fun(p21:List (List Int))=>RE.ok p21) y23 al).bind fun(p22:List (List Int))=>RE.ok p22))
def F.supposed__1 (ae:PuzT) (aj:List Int) (ac:Int) (ai:Int):RE D:=
 ((RE.ok ([115,117,112,112,111,115,101])).bind fun x1=>(RE.ok 0).bind fun x2=>(RE.ok ac).bind fun x3=>(RE.ok ai).bind fun x4=>(RE.bad:RE (List D)).bind fun x5=>RE.ok (x1,x2,x3,x4,x5)).bind fun x6=>RE.ok (((eT5 eS eI eI eI (eL eD))) x6)
def F.refuted__1 (ae:PuzT) (aj:List Int):RE (List D):=
 ((F.think ae aj qa2).bind (qiB eI (eT5 eS eI eI eI (eL eI)))).bind fun p1=>(F.clashes p1.1).bind fun k2=>if k2=true then (RE.ok (List.map ((eT5 eS eI eI eI (eL eI))) p1.2)) else ((F.first_open p1.1).bind fun ac=>(((atE p1.1 ac).bind fun x3=>F.signs_in x3).bind fun y8=>qam (fun(ai:Int) (s5:List D)=>((F.supposed__1 ae p1.1 ac ai).bind fun x6=>qez s5 x6).bind fun aJ=>RE.ok aJ) y8 (List.map ((eT5 eS eI eI eI (eL eI))) p1.2)).bind fun(p7:List D)=>RE.ok p7)
def F.supposed__2 (ae:PuzT) (aj:List Int) (ac:Int) (ai:Int):RE D:=
 ((RE.ok ([115,117,112,112,111,115,101])).bind fun x3=>(RE.ok 0).bind fun x4=>(RE.ok ac).bind fun x5=>(RE.ok ai).bind fun x6=>((RE.ok ae).bind fun x1=>(F.with_only aj ac ai).bind fun x2=>F.refuted__1 x1 x2).bind fun x7=>RE.ok (x3,x4,x5,x6,x7)).bind fun x8=>RE.ok (((eT5 eS eI eI eI (eL eD))) x8)
def F.refuted__2 (ae:PuzT) (aj:List Int):RE (List D):=
 ((F.think ae aj qa2).bind (qiB eI (eT5 eS eI eI eI (eL eI)))).bind fun p1=>(F.clashes p1.1).bind fun k2=>if k2=true then (RE.ok (List.map ((eT5 eS eI eI eI (eL eI))) p1.2)) else ((F.first_open p1.1).bind fun ac=>(((atE p1.1 ac).bind fun x3=>F.signs_in x3).bind fun y8=>qam (fun(ai:Int) (s5:List D)=>((F.supposed__2 ae p1.1 ac ai).bind fun x6=>qez s5 x6).bind fun aJ=>RE.ok aJ) y8 (List.map ((eT5 eS eI eI eI (eL eI))) p1.2)).bind fun(p7:List D)=>RE.ok p7)
def F.supposed__3 (ae:PuzT) (aj:List Int) (ac:Int) (ai:Int):RE D:=
 ((RE.ok ([115,117,112,112,111,115,101])).bind fun x3=>(RE.ok 0).bind fun x4=>(RE.ok ac).bind fun x5=>(RE.ok ai).bind fun x6=>((RE.ok ae).bind fun x1=>(F.with_only aj ac ai).bind fun x2=>F.refuted__2 x1 x2).bind fun x7=>RE.ok (x3,x4,x5,x6,x7)).bind fun x8=>RE.ok (((eT5 eS eI eI eI (eL eD))) x8)
def F.refuted__3 (ae:PuzT) (aj:List Int):RE (List D):=
 ((F.think ae aj qa2).bind (qiB eI (eT5 eS eI eI eI (eL eI)))).bind fun p1=>(F.clashes p1.1).bind fun k2=>if k2=true then (RE.ok (List.map ((eT5 eS eI eI eI (eL eI))) p1.2)) else ((F.first_open p1.1).bind fun ac=>(((atE p1.1 ac).bind fun x3=>F.signs_in x3).bind fun y8=>qam (fun(ai:Int) (s5:List D)=>((F.supposed__3 ae p1.1 ac ai).bind fun x6=>qez s5 x6).bind fun aJ=>RE.ok aJ) y8 (List.map ((eT5 eS eI eI eI (eL eI))) p1.2)).bind fun(p7:List D)=>RE.ok p7)
def F.supposed__4 (ae:PuzT) (aj:List Int) (ac:Int) (ai:Int):RE D:=
 ((RE.ok ([115,117,112,112,111,115,101])).bind fun x3=>(RE.ok 0).bind fun x4=>(RE.ok ac).bind fun x5=>(RE.ok ai).bind fun x6=>((RE.ok ae).bind fun x1=>(F.with_only aj ac ai).bind fun x2=>F.refuted__3 x1 x2).bind fun x7=>RE.ok (x3,x4,x5,x6,x7)).bind fun x8=>RE.ok (((eT5 eS eI eI eI (eL eD))) x8)
def F.refuted__4 (ae:PuzT) (aj:List Int):RE (List D):=
 ((F.think ae aj qa2).bind (qiB eI (eT5 eS eI eI eI (eL eI)))).bind fun p1=>(F.clashes p1.1).bind fun k2=>if k2=true then (RE.ok (List.map ((eT5 eS eI eI eI (eL eI))) p1.2)) else ((F.first_open p1.1).bind fun ac=>(((atE p1.1 ac).bind fun x3=>F.signs_in x3).bind fun y8=>qam (fun(ai:Int) (s5:List D)=>((F.supposed__4 ae p1.1 ac ai).bind fun x6=>qez s5 x6).bind fun aJ=>RE.ok aJ) y8 (List.map ((eT5 eS eI eI eI (eL eI))) p1.2)).bind fun(p7:List D)=>RE.ok p7)
def F.supposed__5 (ae:PuzT) (aj:List Int) (ac:Int) (ai:Int):RE D:=
 ((RE.ok ([115,117,112,112,111,115,101])).bind fun x3=>(RE.ok 0).bind fun x4=>(RE.ok ac).bind fun x5=>(RE.ok ai).bind fun x6=>((RE.ok ae).bind fun x1=>(F.with_only aj ac ai).bind fun x2=>F.refuted__4 x1 x2).bind fun x7=>RE.ok (x3,x4,x5,x6,x7)).bind fun x8=>RE.ok (((eT5 eS eI eI eI (eL eD))) x8)
def F.refuted__5 (ae:PuzT) (aj:List Int):RE (List D):=
 ((F.think ae aj qa2).bind (qiB eI (eT5 eS eI eI eI (eL eI)))).bind fun p1=>(F.clashes p1.1).bind fun k2=>if k2=true then (RE.ok (List.map ((eT5 eS eI eI eI (eL eI))) p1.2)) else ((F.first_open p1.1).bind fun ac=>(((atE p1.1 ac).bind fun x3=>F.signs_in x3).bind fun y8=>qam (fun(ai:Int) (s5:List D)=>((F.supposed__5 ae p1.1 ac ai).bind fun x6=>qez s5 x6).bind fun aJ=>RE.ok aJ) y8 (List.map ((eT5 eS eI eI eI (eL eI))) p1.2)).bind fun(p7:List D)=>RE.ok p7)
def F.answers_in (ae:PuzT) (aj:List Int):RE (List (List Int)):=
 ((F.think ae aj qa2).bind fun x1=>RE.ok x1.1).bind fun aq=>(F.clashes aq).bind fun k2=>if k2=true then (RE.ok []) else ((F.is_settled aq).bind fun k3=>if k3=true then ((F.filling_by aq).bind fun x4=>RE.ok [x4]) else ((F.first_open aq).bind fun ac=>(RE.ok ([]:List (List Int))).bind fun al=>(((atE aq ac).bind fun x5=>F.signs_in x5).bind fun y23=>qam (fun(ai:Int) (s11:List (List Int))=>((RE.ok (decide ((List.length s11:Int)<2))).bind fun k12=>if k12=true then ((((RE.ok ae).bind fun x17=>(F.with_only aq ac ai).bind fun x18=>F.answers_in__5 x17 x18).bind fun x20=>qhi s11 x20).bind fun al=>RE.ok al) else (RE.ok s11)).bind fun(p21:List (List Int))=>RE.ok p21) y23 al).bind fun(p22:List (List Int))=>RE.ok p22))
def F.supposed (ae:PuzT) (aj:List Int) (ac:Int) (ai:Int):RE D:=
 ((RE.ok ([115,117,112,112,111,115,101])).bind fun x3=>(RE.ok 0).bind fun x4=>(RE.ok ac).bind fun x5=>(RE.ok ai).bind fun x6=>((RE.ok ae).bind fun x1=>(F.with_only aj ac ai).bind fun x2=>F.refuted__5 x1 x2).bind fun x7=>RE.ok (x3,x4,x5,x6,x7)).bind fun x8=>RE.ok (((eT5 eS eI eI eI (eL eD))) x8)
def F.refuted (ae:PuzT) (aj:List Int):RE (List D):=
 ((F.think ae aj qa2).bind (qiB eI (eT5 eS eI eI eI (eL eI)))).bind fun p1=>(F.clashes p1.1).bind fun k2=>if k2=true then (RE.ok (List.map ((eT5 eS eI eI eI (eL eI))) p1.2)) else ((F.first_open p1.1).bind fun ac=>(((atE p1.1 ac).bind fun x3=>F.signs_in x3).bind fun y8=>qam (fun(ai:Int) (s5:List D)=>((F.supposed ae p1.1 ac ai).bind fun x6=>qez s5 x6).bind fun aJ=>RE.ok aJ) y8 (List.map ((eT5 eS eI eI eI (eL eI))) p1.2)).bind fun(p7:List D)=>RE.ok p7)
def F.left_alone (ae:PuzT) (aj:List Int) (bD:List Int):RE (List D):=
 (RE.ok (aj:List Int)).bind fun aq=>(RE.ok ([]:List D)).bind fun aJ=>((qbs (List.length bD:Int)).bind fun y43=>qam (fun(ac:Int) (s21:(List Int) × (List D))=>(((atE s21.1 ac).bind fun x22=>F.signs_in x22).bind fun y41=>qam (fun(ai:Int) (s30:(List Int) × (List D))=>((((atE bD ac).bind fun x32=>RE.ok (!decide (ai=x32))).bind fun k35=>if k35=true then ((atE s30.1 ac).bind fun x33=>(RE.ok ai).bind fun x34=>F.stands x33 x34) else RE.ok false).bind fun k36=>if k36=true then (((F.supposed ae s30.1 ac ai).bind fun x38=>qez s30.2 x38).bind fun aJ=>(F.struck s30.1 ac ai).bind fun aq=>RE.ok (aq,aJ)) else (RE.ok (s30.1,s30.2))).bind fun(p39:(List Int) × (List D))=>RE.ok (p39.1,p39.2)) y41 (s21.1,s21.2)).bind fun(p40:(List Int) × (List D))=>RE.ok (p40.1,p40.2)) y43 (aq,aJ)).bind fun(p42:(List Int) × (List D))=>RE.ok p42.2
def F.solve (ae:PuzT):RE D:=
 ((RE.ok ae).bind fun x2=>((F.Puzzle_place ae).bind fun x1=>F.full x1).bind fun x3=>(RE.ok qa2).bind fun x4=>F.think x2 x3 x4).bind fun p5=>(F.clashes p5.1).bind fun k6=>if k6=true then (RE.ok ((eT2 eS (eL (eT5 eS eI eI eI (eL eI)))) ([110,111,110,101],p5.2))) else (((F.ways p5.1).bind fun x7=>RE.ok (decide (32<x7))).bind fun k9=>if k9=true then (RE.ok ((eT3 eS (eL eI) (eL (eT5 eS eI eI eI (eL eI)))) ([114,101,115,116,115],p5.1,p5.2))) else ((F.answers_in ae p5.1).bind fun al=>(RE.ok (decide ((List.length al:Int)=0))).bind fun k10=>if k10=true then (((RE.ok ([110,111,110,101])).bind fun x13=>((F.refuted ae p5.1).bind fun x12=>qhi (List.map ((eT5 eS eI eI eI (eL eI))) p5.2) x12).bind fun x14=>RE.ok (x13,x14)).bind fun x15=>RE.ok (((eT2 eS (eL eD))) x15)) else ((RE.ok (decide (1<(List.length al:Int)))).bind fun k16=>if k16=true then (((RE.ok ([116,119,111])).bind fun x17=>(atE al 0).bind fun x18=>(atE al 1).bind fun x19=>RE.ok (x17,x18,x19)).bind fun x20=>RE.ok (((eT3 eS (eL eI) (eL eI))) x20)) else (((RE.ok ([111,110,101])).bind fun x26=>(atE al 0).bind fun x27=>(((RE.ok ae).bind fun x21=>(RE.ok p5.1).bind fun x22=>(atE al 0).bind fun x23=>F.left_alone x21 x22 x23).bind fun x25=>qhi (List.map ((eT5 eS eI eI eI (eL eI))) p5.2) x25).bind fun x28=>RE.ok (x26,x27,x28)).bind fun x29=>RE.ok (((eT3 eS (eL eI) (eL eD))) x29)))))
def F.without (a7:List Int) (ac:Int):RE (List Int):=
 (RE.ok (a7:List Int)).bind fun bw=>(qrt bw ac 0).bind fun bw=>RE.ok bw
def F.taken (ae:PuzT) (bo:List Int) (aZ:List (List Nat)):RE (Option ((List Int) × (List (Int × (List Int))))):=
 ((F.settles ae aZ).bind fun x1=>RE.ok (!x1)).bind fun k2=>if k2=true then (RE.ok (none:Option ((List Int) × (List (Int × (List Int)))))) else ((F.Puzzle_clues ae).bind fun a7=>((RE.ok bo).bind fun y62=>qam (fun(ac:Int) (s11:List Int)=>((((atE s11 ac).bind fun x12=>RE.ok (!decide (x12=0))).bind fun k18=>if k18=true then (((RE.ok ae).bind fun x15=>(F.without s11 ac).bind fun x14=>F.Puzzle_clued x15 x14).bind fun x16=>(RE.ok aZ).bind fun x17=>F.settles x16 x17) else RE.ok false).bind fun k19=>if k19=true then ((F.without s11 ac).bind fun a7=>RE.ok a7) else (RE.ok s11)).bind fun(p20:List Int)=>RE.ok p20) y62 a7).bind fun(p21:List Int)=>(RE.ok ([]:List (Int × (List Int)))).bind fun bx=>((qtl bo).bind fun y61=>qam (fun(ac:Int) (s35:List (Int × (List Int)))=>(((atE p21 ac).bind fun x36=>RE.ok (!decide (x36=0))).bind fun k38=>if k38=true then (((RE.ok ae).bind fun x50=>(F.without p21 ac).bind fun x49=>F.Puzzle_clued x50 x49).bind fun bK=>(((RE.ok ac).bind fun x56=>(((RE.ok bK).bind fun x52=>((F.Puzzle_place ae).bind fun x51=>F.full x51).bind fun x53=>(RE.ok aZ).bind fun x54=>F.think x52 x53 x54).bind fun x55=>RE.ok x55.1).bind fun x57=>RE.ok (x56,x57)).bind fun x58=>qez s35 x58).bind fun bx=>RE.ok bx) else (RE.ok s35)).bind fun(p59:List (Int × (List Int)))=>RE.ok p59) y61 bx).bind fun(p60:List (Int × (List Int)))=>RE.ok (some (p21,p60)))
def F.other_answer (al:D) (ac:Int) (ai:Int):RE D:=
 (((qme al 1).bind fun x1=>(RE.ok ac).bind fun x2=>qme x1 x2).bind fun x3=>evC .ne (eD x3) (eI ai)).bind fun k5=>if k5=true then (qme al 1) else (qme al 2)
def F.least (ae:PuzT):RE D:=
 (((F.solve ae).bind fun x1=>(RE.ok 0).bind fun x2=>qme x1 x2).bind fun x3=>evC .ne (eD x3) (eS ([111,110,101]))).bind fun k5=>if k5=true then (RE.exc 37 []) else ((F.Puzzle_clues ae).bind fun a7=>(RE.ok ([]:List (Int × D))).bind fun aO=>Fl.bR ((RE.ok (qwx a7)).bind fun y54=>qcn (fun(p33:Int × Int) (s32:List (Int × D))=>((RE.ok (!decide (p33.2=0))).bind fun k34=>if k34=true then ((((RE.ok ae).bind fun x36=>(F.without a7 p33.1).bind fun x35=>F.Puzzle_clued x36 x35).bind fun x37=>F.solve x37).bind fun al=>((qme al 0).bind fun x38=>evC .eq (eD x38) (eS ([111,110,101]))).bind fun k40=>if k40=true then ((((RE.ok ([115,112,97,114,101])).bind fun x41=>(RE.ok p33.1).bind fun x42=>(qme al 2).bind fun x43=>RE.ok (x41,x42,x43)).bind fun x44=>RE.ok (((eT3 eS eI eD)) x44)).bind fun x45=>RE.ok (.rt x45)) else (((qme al 0).bind fun x46=>evC .eq (eD x46) (eS ([114,101,115,116,115]))).bind fun k48=>if k48=true then (RE.ok (.rt ((eT2 eS eI) ([114,101,115,116,115],p33.1)))) else ((((RE.ok p33.1).bind fun x50=>(F.other_answer al p33.1 p33.2).bind fun x51=>RE.ok (x50,x51)).bind fun x52=>qez s32 x52).bind fun aO=>RE.ok (.nx aO)))) else (RE.ok (.nx s32)):RE (Fl (D) (List (Int × D))))) y54 aO) fun(p53:List (Int × D))=>RE.ok ((eT2 eS (eL (eT2 eI eD))) ([108,101,97,115,116],p53)))
def F.all_signs (af:Int × Int × Int):RE (List Int):=
 qqm 1 (af.2.2+1)
def F.signs_by (af:Int × Int × Int) (a8:Option (List Int)):RE (List Int):=
 (RE.ok a8.isNone).bind fun k1=>if k1=true then (F.all_signs af) else ((((unO a8).bind fun x2=>RE.ok (qe1 x2)).bind fun x3=>(F.all_signs af).bind fun x4=>RE.ok (!decide (x3=x4))).bind fun k5=>if k5=true then (RE.exc 38 []) else ((unO a8).bind fun x6=>RE.ok x6))
def F.moved_filling (af:Int × Int × Int) (ao:List Int) (aN:Int) (a8:Option (List Int)):RE (List Int):=
 ((F.signs_by af a8).bind fun x2=>qhi [0] x2).bind fun bp=>((RE.ok ao).bind fun x3=>gd (leB x3.length) (RE.ok (List.map (fun(ac:Int)=>0) x3))).bind fun al=>(((RE.ok ao).bind fun x4=>(F.moved_cells af aN).bind fun x5=>RE.ok (List.zip x4 x5)).bind fun y13=>qam (fun(p9:Int × Int) (s8:List Int)=>((atE bp p9.1).bind fun x10=>(RE.ok p9.2).bind fun x11=>qrt s8 x11 x10).bind fun al=>RE.ok al) y13 al).bind fun(p12:List Int)=>RE.ok p12
def F.gone (ak:RuleT) (am:List Int):RE (List Int):=
 (F.Rule_spots ak).bind fun x1=>gd (leB x1.length) (lcE (fun(ac:Int)=>(RE.ok true)) (fun(ac:Int)=>(atE am ac)) x1)
def F.Unlike_carried (ab:RuleT) (af:Int × Int × Int) (am:List Int) (a8:List Int):RE RuleT:=
 (RE.ok af).bind fun x1=>(F.gone ab am).bind fun x2=>(RE.ok 0).bind fun x3=>(RE.ok 0).bind fun x4=>RE.ok (RuleT.mk .unlike x1 x2 x3 x4)
def F.Total_carried (ab:RuleT) (af:Int × Int × Int) (am:List Int) (a8:List Int):RE RuleT:=
 (RE.ok af).bind fun x1=>(F.gone ab am).bind fun x2=>(RE.ok ab.wanted).bind fun x3=>(RE.ok 0).bind fun x4=>RE.ok (RuleT.mk .total x1 x2 x3 x4)
def F.Rising_carried (ab:RuleT) (af:Int × Int × Int) (am:List Int) (a8:List Int):RE RuleT:=
 (RE.ok af).bind fun x1=>(F.gone ab am).bind fun x2=>(RE.ok 0).bind fun x3=>(RE.ok 0).bind fun x4=>RE.ok (RuleT.mk .rising x1 x2 x3 x4)
def F.Seen_carried (ab:RuleT) (af:Int × Int × Int) (am:List Int) (a8:List Int):RE RuleT:=
 (RE.ok af).bind fun x1=>(F.gone ab am).bind fun x2=>(RE.ok ab.wanted).bind fun x3=>(RE.ok 0).bind fun x4=>RE.ok (RuleT.mk .seen x1 x2 x3 x4)
def F.Counted_carried (ab:RuleT) (af:Int × Int × Int) (am:List Int) (a8:List Int):RE RuleT:=
 (RE.ok af).bind fun x1=>(F.gone ab am).bind fun x2=>(RE.ok ab.wanted).bind fun x3=>(atE a8 (ab.sign - 1)).bind fun x4=>RE.ok (RuleT.mk .counted x1 x2 x3 x4)
def F.Joined_carried (ab:RuleT) (af:Int × Int × Int) (am:List Int) (a8:List Int):RE RuleT:=
 (RE.ok af).bind fun x2=>((F.many_cells af).bind qbs).bind fun x3=>(RE.ok 0).bind fun x4=>(atE a8 (ab.sign - 1)).bind fun x5=>RE.ok (RuleT.mk .joined x2 x3 x4 x5)
def F.NoSquare_carried (ab:RuleT) (af:Int × Int × Int) (am:List Int) (a8:List Int):RE RuleT:=
 (RE.ok af).bind fun x2=>((F.many_cells af).bind qbs).bind fun x3=>(RE.ok 0).bind fun x4=>(atE a8 (ab.sign - 1)).bind fun x5=>RE.ok (RuleT.mk .nosquare x2 x3 x4 x5)
def F.Ring_carried (ab:RuleT) (af:Int × Int × Int) (am:List Int) (a8:List Int):RE RuleT:=
 (RE.ok af).bind fun x2=>((F.many_cells af).bind qbs).bind fun x3=>(RE.ok 0).bind fun x4=>(atE a8 (ab.sign - 1)).bind fun x5=>RE.ok (RuleT.mk .ring x2 x3 x4 x5)
def F.m_reckons (r:RuleT)  : RE Bool:=match r.k with
 |.unlike=>F.Rule_reckons r
 |.total=>F.Total_reckons r
 |.rising=>F.Rising_reckons r
 |.seen=>F.Seen_reckons r
 |.counted=>F.Rule_reckons r
 |.joined=>F.Rule_reckons r
 |.nosquare=>F.Rule_reckons r
 |.ring=>F.Rule_reckons r
def F.reckons (ae:PuzT):RE Bool:=
 ((F.Puzzle_rules ae).bind fun x1=>gd (leB x1.length) (lcE (fun(ak:RuleT)=>(RE.ok true)) (fun(ak:RuleT)=>(F.m_reckons ak)) x1)).bind fun x2=>RE.ok (List.any x2 id)
def F.m_carried (r:RuleT) (a0:Int × Int × Int) (a1:List Int) (a2:List Int):RE RuleT:=match r.k with
 |.unlike=>F.Unlike_carried r a0 a1 a2
 |.total=>F.Total_carried r a0 a1 a2
 |.rising=>F.Rising_carried r a0 a1 a2
 |.seen=>F.Seen_carried r a0 a1 a2
 |.counted=>F.Counted_carried r a0 a1 a2
 |.joined=>F.Joined_carried r a0 a1 a2
 |.nosquare=>F.NoSquare_carried r a0 a1 a2
 |.ring=>F.Ring_carried r a0 a1 a2
def F.moved (ae:PuzT) (aN:Int) (a8:Option (List Int)):RE PuzT:=
 (F.Puzzle_place ae).bind fun af=>(F.look_at_move aN).bind fun _=>(F.signs_by af a8).bind fun bp=>(((F.all_signs af).bind fun x2=>RE.ok (!decide (bp=x2))).bind fun k3=>if k3=true then (F.reckons ae) else RE.ok false).bind fun k4=>if k4=true then (RE.exc 38 []) else ((F.moved_floor af aN).bind fun bE=>(F.moved_cells af aN).bind fun am=>((F.Puzzle_rules ae).bind fun x6=>gd (leB x6.length) (lcE (fun(ak:RuleT)=>(RE.ok true)) (fun(ak:RuleT)=>((F.m_carried ak bE am bp).bind fun x5=>F.Rule_line x5)) x6)).bind fun az=>(RE.ok bE).bind fun x11=>(RE.ok (List.map (eS) az)).bind fun x12=>((RE.ok af).bind fun x7=>(F.Puzzle_clues ae).bind fun x8=>(RE.ok aN).bind fun x9=>(RE.ok (some bp)).bind fun x10=>F.moved_filling x7 x8 x9 x10).bind fun x13=>F.Puzzle_new x11 x12 x13)
def F.orders (aT:List Int):RE (List (List Int)):=
 (RE.ok ([[]]:List (List Int))).bind fun al=>((RE.ok aT).bind fun y45=>qam (fun(bI:Int) (s22:List (List Int))=>(RE.ok ([]:List (List Int))).bind fun bz=>((RE.ok s22).bind fun y43=>qam (fun(bo:List Int) (s32:List (List Int))=>((RE.ok aT).bind fun y41=>qam (fun(aE:Int) (s35:List (List Int))=>((RE.ok (!decide (aE∈bo))).bind fun k36=>if k36=true then (((qhi bo [aE]).bind fun x38=>qez s35 x38).bind fun bz=>RE.ok bz) else (RE.ok s35)).bind fun(p39:List (List Int))=>RE.ok p39) y41 s32).bind fun(p40:List (List Int))=>RE.ok p40) y43 bz).bind fun(p42:List (List Int))=>(RE.ok (p42:List (List Int))).bind fun al=>RE.ok al) y45 al).bind fun(p44:List (List Int))=>RE.ok p44
def F.read_number (ax:List Nat):RE Int:=
 (((qjX ax).bind fun x1=>RE.ok (decide (x1=0))).bind fun k11=>if k11=true then RE.ok true else (((qjX ax).bind fun x3=>RE.ok (decide (9<x3))).bind fun k10=>if k10=true then RE.ok true else (((qpx ax 0).bind fun x5=>RE.ok (decide ([x5]=[48]))).bind fun k9=>if k9=true then ((qjX ax).bind fun x7=>RE.ok (decide (1<x7))) else RE.ok false))).bind fun k12=>if k12=true then (RE.exc 39 []) else (((RE.ok ax).bind fun y17=>qam (fun(ai:Nat) (s14:Unit)=>(RE.ok (!decide (ai∈([48,49,50,51,52,53,54,55,56,57])))).bind fun k15=>if k15=true then RE.exc 39 [] else (RE.ok ())) y17 ()).bind fun(p16:Unit)=>qm3 ax)
def F.show_puzzle (ae:PuzT):RE (List Nat):=
 (F.Puzzle_place ae).bind fun af=>((RE.ok [32]).bind fun x2=>(((RE.ok af).bind fun p=>RE.ok [p.1,p.2.1,p.2.2]).bind fun x1=>gd (leB x1.length) (lcE (fun(a9:Int)=>(RE.ok true)) (fun(a9:Int)=>(qm9 a9)) x1)).bind fun x3=>qee x2 x3).bind fun bq=>(((qay bq ([32,124,32])).bind fun x6=>((RE.ok ([59,32])).bind fun x4=>(F.Puzzle_lines ae).bind fun x5=>qee x4 x5).bind fun x7=>qay x6 x7).bind fun x8=>qay x8 ([32,124,32])).bind fun x12=>((RE.ok af).bind fun x10=>(F.Puzzle_clues ae).bind fun x11=>F.show_filling x10 x11).bind fun x13=>qay x12 x13
def F.read_puzzle (aQ:D):RE PuzT:=
 ((tyE (eD aQ) .str).bind fun x1=>RE.ok (!x1)).bind fun k2=>if k2=true then (RE.exc 39 []) else (((dS aQ).bind fun x3=>(RE.ok ([32,124,32])).bind fun x4=>qcE x3 x4).bind fun bi=>(RE.ok (!decide ((List.length bi:Int)=3))).bind fun k5=>if k5=true then (RE.exc 39 []) else ((((atE bi 0).bind fun x6=>(RE.ok [32]).bind fun x7=>qcE x6 x7).bind fun x8=>gd (leB x8.length) (lcE (fun(ax:List Nat)=>(RE.ok true)) (fun(ax:List Nat)=>(F.read_number ax)) x8)).bind fun ay=>(RE.ok (!decide ((List.length ay:Int)=3))).bind fun k9=>if k9=true then (RE.exc 39 []) else (((atE ay 0).bind fun x10=>(atE ay 1).bind fun x11=>(atE ay 2).bind fun x12=>F.floor_of x10 x11 x12).bind fun af=>(RE.ok ([]:List (List Nat))).bind fun az=>(((atE bi 1).bind fun x13=>RE.ok (!decide (x13=[]))).bind fun k15=>if k15=true then (((atE bi 1).bind fun x18=>(RE.ok ([59,32])).bind fun x19=>qcE x18 x19).bind fun az=>RE.ok az) else (RE.ok az)).bind fun(p20:List (List Nat))=>((RE.ok af).bind fun x23=>(RE.ok (List.map (eS) p20)).bind fun x24=>(((F.many_cells af).bind qbs).bind fun x22=>gd (leB x22.length) (RE.ok (List.map (fun(ac:Int)=>0) x22))).bind fun x25=>F.Puzzle_new x23 x24 x25).bind fun ae=>(RE.ok ae).bind fun x30=>((RE.ok af).bind fun x27=>((atE bi 2).bind fun x26=>RE.ok ((eS) x26)).bind fun x28=>F.read_filling x27 x28).bind fun x29=>F.Puzzle_clued x30 x29)))
end Cm
namespace Cm
section
variable {α β γ σ:Type}
def W (m:RE α) (Q:α→Prop):Prop:=∃v,m=.ok v∧Q v
theorem W.ok {v:α} {Q:α→Prop} (h:Q v):W (.ok v) Q:=⟨v,rfl,h⟩
theorem W.of {m:RE α} {v:α} {Q:α→Prop} (e:m=.ok v) (h:Q v):W m Q:=⟨v,e,h⟩
theorem W.bind {m:RE α} {f:α→RE β} {P:α→Prop} {Q:β→Prop} (h:W m P) (k:∀v,P v→W (f v) Q):W (m.bind f) Q:=by
 obtain⟨v,e,h⟩:=h;rw[e];exact k v h
theorem W.mono {m:RE α} {P Q:α→Prop} (h:W m P) (k:∀v,P v→Q v):W m Q:=by
 obtain⟨v,e,h⟩:=h;exact⟨v,e,k v h⟩
theorem W.eq {m:RE α} {v:α} (h:W m fun x=>x=v):m=.ok v:=by obtain⟨w,e,rfl⟩:=h;exact e
theorem W.get {m:RE α} {v:α} {Q:α→Prop} (h:W m Q) (e:m=.ok v):Q v:=by
 obtain⟨w,e',h⟩:=h;rw[e] at e';cases e';exact h
theorem qjk {b:Bool} {r:RE α} (h:b=true):gd b r=r:=by rw[h];rfl
theorem qdQ {f:α→σ→RE σ}:∀{xs:List α} {s:σ} (I:Nat→σ→Prop),I 0 s→(∀i x s,xs[i]? = some x→I i s→W (f x s) (I (i+1)))→W (qam f xs s) (I xs.length)
 |[],s,I,h0,_=>⟨s,rfl,h0⟩
 |x::xs,s,I,h0,hs=>by
  obtain⟨v,e,h⟩:=hs 0 x s rfl h0
  unfold qam
  rw[e]
  exact qdQ (xs:=xs) (fun i=>I (i+1)) h fun i y s hy=>hs (i+1) y s (by simpa using hy)
@[simp] theorem qxe {b:β} {k:σ→RE β}:Fl.bR (.ok (.rt b)) k=.ok b:=rfl
@[simp] theorem qw0 {s:σ} {k:σ→RE β}:Fl.bR (.ok (.nx s)) k=k s:=rfl
@[simp] theorem qxc {b:β} {τ:Type} {k:σ→RE (Fl β τ)}:Fl.bF (.ok (.rt b)) k=.ok (.rt b):=rfl
@[simp] theorem qwZ {s:σ} {τ:Type} {k:σ→RE (Fl β τ)}:Fl.bF (.ok (.nx s)) k=k s:=rfl
theorem qfN {f:α→RE β} {g:α→β} {xs:List α} (h:∀x∈xs,f x=.ok (g x)):lcE (fun _=>.ok true) f xs=.ok (xs.map g):=by
 induction xs with
 |nil=>rfl
 |cons x xs ih =>
  rw[lcE,h x (by simp),ih fun y hy=>h y (List.mem_cons_of_mem _ hy)]
  rfl
theorem qfG {xs:List α} {k:Int} {v:α} (h0:0≤k) (h:xs[k.toNat]? = some v):atE xs k=.ok v:=by
 have hl:k.toNat<xs.length:=by
  rcases Nat.lt_or_ge k.toNat xs.length with h' | h'
  ·exact h'
  ·rw[List.getElem?_eq_none h'] at h;cases h
 unfold atE L2.atI
 have:L2.ixN xs.length k=some k.toNat:=by
  have:=qpa hl
  rwa [show((k.toNat:Nat):Int)=k from by omega] at this
 rw[this]
 show(match xs[k.toNat]? with
  |some x=>RE.ok x
  |none=>.bad)=_
 rw[h]
def gI (xs:List Int) (k:Int):Int:=xs.getD k.toNat 0
theorem qvc {xs:List Int} {k:Int} (h0:0≤k) (h1:k<xs.length):atE xs k=.ok (gI xs k):=by
 refine qfG h0 ?_
 rw[gI,List.getD_eq_getElem?_getD,List.getElem?_eq_getElem (by omega)];rfl
@[simp] theorem qqe {x:α} {xs:List α}:atE (x::xs) 0=.ok x:=qfG (by decide) rfl
@[simp] theorem qxm {x y:α} {xs:List α}:atE (x::y::xs) 1=.ok y:=qfG (by decide) rfl
@[simp] theorem qxp {x y z:α} {xs:List α}:atE (x::y::z::xs) 2=.ok z:=qfG (by decide) rfl
@[simp] theorem qwX {x y z u:α} {xs:List α}:atE (x::y::z::u::xs) 3=.ok u:=qfG (by decide) rfl
theorem qhh {xs:List α} {x:α} (h:xs.length<16777216):qez xs x=.ok (xs++[x]):=qjk (qnD (by have:LIM=16777216:=rfl;omega))
theorem qgq {xs ys:List α} (h:xs.length+ys.length≤16777216):qhi xs ys=.ok (xs++ys):=qjk (qnD (by have:LIM=16777216:=rfl;omega))
theorem qa4 {xs ys:List Nat} (h:xs.length+ys.length≤16777216):qay xs ys=.ok (xs++ys):=qjk (qnD (by have:LIM=16777216:=rfl;omega))
theorem gdl {xs:List α} {r:RE β} (h:xs.length≤16777216):gd (leB xs.length) r=r:=qjk (qnD (by have:LIM=16777216:=rfl;omega))
theorem qfr {x y:Int} (h:x.natAbs≤18446744073709551615):qjK x y=.ok (x*y):=qjk (qni (by rw[Nat.ble_eq];exact h))
theorem qsV {x y:Int} (h0:y≠0) (h:y.natAbs<1073741824):qsp x y=.ok (x.fdiv y):=qjk (qwg ⟨h0,h⟩)
theorem qfB {x y:Int} (h0:y≠0):qmM x y=.ok (x.fmod y):=qjk (qxb h0)
def qer (n:Nat):List Int:=(List.range n).map fun(i:Nat)=>(i:Int)
theorem qbZ (n:Nat):(qer n).length=n:=by simp[qer]
theorem qiu {n:Nat} {x:Int}:x∈qer n↔0≤x∧x<n:=by
 unfold qer
 rw[List.mem_map]
 constructor
 ·rintro⟨i,h,rfl⟩
  have:=List.mem_range.mp h
  omega
 ·rintro⟨h0,h1⟩
  exact⟨x.toNat,List.mem_range.mpr (by omega),by omega⟩
theorem qgh {n i:Nat} {x:Int} (h:(qer n)[i]? = some x):x=i∧i<n:=by
 unfold qer at h
 rw[List.getElem?_map] at h
 rcases Nat.lt_or_ge i n with q | q
 ·rw[List.getElem?_range q] at h;cases h;exact⟨rfl,q⟩
 ·rw[List.getElem?_eq_none (by simpa using q)] at h;cases h
theorem qc7 {n:Int} (h:n≤1000000) (h0:0≤n):qbs n=.ok (qer n.toNat):=by
 have h2:qm1 n=true:=by
  have:=qwm (n:=n.toNat) (by omega)
  rwa [show((n.toNat:Nat):Int)=n from by omega] at this
 rw[qbs,h2]
 simp only[qk2,qer,qfI]
 congr 1
 exact List.map_congr_left fun i _=>by omega
def qmE (i j:Int):List Int:=qfI i 1 (j - i).toNat
theorem qmH {i j x:Int}:x∈qmE i j↔i≤x∧x<j:=by
 unfold qmE qfI
 rw[List.mem_map]
 constructor
 ·rintro⟨k,h,rfl⟩
  have:=List.mem_range.mp h
  omega
 ·rintro⟨h0,h1⟩
  exact⟨(x - i).toNat,List.mem_range.mpr (by omega),by omega⟩
theorem qcL (a:Int) {n:Int} (h:0<n):0≤a.fmod n∧a.fmod n<n:=by
 rw[Int.fmod_eq_emod_of_nonneg _ (Int.le_of_lt h)]
 exact⟨Int.emod_nonneg _ (by omega),Int.emod_lt_of_pos _ h⟩
theorem qn1 {a n:Int} (h:0<n):a.fdiv n=a / n:=Int.fdiv_eq_ediv_of_nonneg _ (Int.le_of_lt h)
theorem qoU {p:Prop} [Decidable p] {x y:α}:(if decide p=true then x else y)=if p then x else y:=by
 by_cases h:p<;>simp[h]
end
end Cm
namespace Cm
structure FOk (fl:Int × Int × Int):Prop where
 h1:1≤fl.1
 h2:fl.1≤6
 w1:1≤fl.2.1
 w2:fl.2.1≤6
 n:fl.1*fl.2.1≤16
 s1:1≤fl.2.2
 s2:fl.2.2≤6
abbrev nC (fl:Int × Int × Int):Int:=fl.1*fl.2.1
section
variable {fl:Int × Int × Int}
theorem FOk.n1 (h:FOk fl):1≤nC fl:=by
 have:=Int.mul_le_mul h.h1 h.w1 (by decide) (by have:=h.h1;omega)
 simpa using this
theorem qjj (h:FOk fl):F.many_cells fl=.ok (nC fl):=qfr (by have:=h.h1;have:=h.h2;omega)
def qf7 (fl:Int × Int × Int) (c:Int):List Int:=(if 0<c / fl.2.1 then [c - fl.2.1] else [])++(if 0<c % fl.2.1 then [c - 1] else [])++(if c % fl.2.1<fl.2.1 - 1 then [c+1] else [])++(if c / fl.2.1<fl.1 - 1 then [c+fl.2.1] else [])
abbrev inC (fl:Int × Int × Int) (c:Int):Prop:=0≤c∧c<nC fl
theorem qhW (h:FOk fl) {c:Int} (hc:inC fl c):c=c / fl.2.1*fl.2.1+c % fl.2.1∧0≤c / fl.2.1∧c / fl.2.1<fl.1∧0≤c % fl.2.1∧c % fl.2.1<fl.2.1:=by
 have w:=h.w1
 refine⟨?_,Int.ediv_nonneg hc.1 (by omega),?_,Int.emod_nonneg _ (by omega),Int.emod_lt_of_pos _ (by omega)⟩
 ·have:=Int.mul_ediv_add_emod c fl.2.1
  rw[Int.mul_comm] at this;omega
 ·exact Int.ediv_lt_of_lt_mul (by omega) hc.2
theorem qjB {w r q:Int} (h1:0≤q) (h2:q<w):(r*w+q) / w=r∧(r*w+q) % w=q:=by
 constructor
 ·rw[Int.add_comm,Int.add_mul_ediv_right _ _ (by omega),Int.ediv_eq_zero_of_lt h1 h2];omega
 ·rw[Int.add_comm,Int.add_mul_emod_self_right,Int.emod_eq_of_lt h1 h2]
end
def stB (m s:Int):Bool:=m.toNat.testBit (s - 1).toNat
def hoB (m s:Int):Bool:=decide (m.toNat ||| 2 ^ (s - 1).toNat=2 ^ (s - 1).toNat)
theorem qnk {m s:Int} (h1:1≤s):hoB m s=true↔∀t,1≤t→stB m t=true→t=s:=by
 unfold hoB stB
 rw[decide_eq_true_eq]
 constructor
 ·intro h t h0 ht
  have:=congrArg (fun n=>Nat.testBit n (t - 1).toNat) h
  simp only[Nat.testBit_or,Nat.testBit_two_pow,ht,Bool.true_or] at this
  have:=of_decide_eq_true this.symm
  omega
 ·intro h
  refine Nat.eq_of_testBit_eq fun i=>?_
  rw[Nat.testBit_or,Nat.testBit_two_pow]
  cases e:m.toNat.testBit i
  ·rfl
  ·have:=h (i+1) (by omega) (by rw[show((i:Int)+1 - 1).toNat=i from by omega];exact e)
   have:(s - 1).toNat=i:=by omega
   simp[this]
def sgn (m:Int):List Int:=(qmE 1 7).filter (stB m)
def MOk (fl:Int × Int × Int) (ms:List Int):Prop:=(ms.length:Int)=nC fl∧∀m∈ms,0≤m∧m<64
theorem qt0 {ms:List Int} {k:Int} (h0:0≤k) (h1:k<ms.length):gI ms k∈ms:=by
 unfold gI
 rw[List.getD_eq_getElem?_getD,List.getElem?_eq_getElem (by omega)]
 exact List.getElem_mem (by omega)
theorem MOk.at_ {fl:Int × Int × Int} {ms:List Int} (h:MOk fl ms) {c:Int} (hc:inC fl c):atE ms c=.ok (gI ms c):=qvc hc.1 (by have:=hc.2;have:=h.1;omega)
theorem MOk.b {fl:Int × Int × Int} {ms:List Int} (h:MOk fl ms) {c:Int} (hc:inC fl c):0≤gI ms c∧gI ms c<64:=h.2 _ (qt0 hc.1 (by have:=hc.2;have:=h.1;omega))
end Cm
namespace Cm
def dg (n:Nat):List Nat:=if n<10 then [48+n] else [48+n / 10,48+n % 10]
def dgI (n:Int):List Nat:=dg n.toNat
theorem qu2:∀n<100,(toString ((n:Nat):Int):PySem.Str).cps.toList=dg n:=by decide +kernel
theorem qr6:∀n<100,quN ((n:Nat):Int)=true:=by decide +kernel
theorem qlj:∀n<100,∀c∈dg n,48≤c∧c<58:=by decide +kernel
theorem qry:∀n<100,(dg n).length≤2∧1≤(dg n).length:=by decide +kernel
theorem qem {n:Int} (h0:0≤n) (h1:n<100):qm9 n=.ok (dgI n):=by
 obtain⟨k,rfl⟩:∃k:Nat,n=k:=⟨n.toNat,by omega⟩
 unfold qm9
 rw[qjk (qr6 k (by omega)),qu2 k (by omega)]
 simp[dgI]
def isI (r:RE Int) (n:Nat):Bool:=match r with
 |.ok (.ofNat m)=>Nat.beq m n
 |_=>false
theorem qlP {r:RE Int} {n:Nat} (h:isI r n=true):r=.ok ((n:Nat):Int):=by
 unfold isI at h
 split at h
 ·rename_i m
  rw[Nat.eq_of_beq_eq_true h];rfl
 ·cases h
theorem qsT:∀n<100,isI (F.number_of (dg n)) n=true:=by decide +kernel
theorem qkm {n:Int} (h0:0≤n) (h1:n<100):F.number_of (dgI n)=.ok n:=by
 obtain⟨k,rfl⟩:∃k:Nat,n=k:=⟨n.toNat,by omega⟩
 have:=qlP (qsT k (by omega))
 simpa[dgI] using this
theorem qtD (c:Nat) (ws:List (List Nat)):(PySem.Txt.join (qaA [c]) (ws.map qaA)).cps.toList=TL.joinL [c] ws:=by
 have:=SX.join_S [c] ws
 show(PySem.Txt.join (SX.S [c]) (ws.map SX.S)).cps.toList=_
 rw[this]
theorem qpz (c:Nat) (ws:List (List Nat)) (hc:c<256) (hn:ws≠[]) (h:∀p∈ws,c∉p):((PySem.Txt.split (qaA (TL.joinL [c] ws)) (qaA [c])).map fun z=>z.cps.toList)=ws:=by
 have e:PySem.Txt.split (qaA (TL.joinL [c] ws)) (qaA [c])=ws.map SX.S:=by
  have:=SX.split_S (a:=TL.joinL [c] ws) (b:=[c]) (by simp) (by simp[hc])
  rw[SX.spl_join hn h] at this
  exact this
 rw[e,List.map_map]
 have:ws.map ((fun z:PySem.Str=>z.cps.toList) ∘ SX.S)=ws.map id:=List.map_congr_left fun w _=>rfl
 rw[this,List.map_id]
theorem qdt (c:Nat):∀ws:List (List Nat),(TL.joinL [c] ws).length≤(ws.map List.length).sum+ws.length
 |[]=>by simp[TL.joinL]
 |[p]=>by simp[TL.joinL]
 |p::q::r=>by
  have:=qdt c (q::r)
  simp only[TL.joinL,List.length_append,List.map_cons,List.sum_cons,List.length_cons,List.length_nil] at this ⊢
  omega
theorem qfu {b:Nat}:∀{ws:List (List Nat)},(∀w∈ws,w.length≤b)→(ws.map List.length).sum≤ws.length*b
 |[],_=>by simp
 |w::ws,h=>by
  have h1:=h w (by simp)
  have h2:=qfu (ws:=ws) fun v hv=>h v (List.mem_cons_of_mem _ hv)
  simp only[List.map_cons,List.sum_cons,List.length_cons,Nat.add_mul,Nat.one_mul]
  omega
theorem qgg {c b:Nat} {ws:List (List Nat)} (h:∀w∈ws,w.length≤b) (hb:ws.length*(b+1)≤16777216):qee [c] ws=.ok (TL.joinL [c] ws):=by
 unfold qee
 rw[qtD,qjk (qnD ?_)]
 have:=qfu h
 have l:LIM=16777216:=rfl
 simp only[List.length_cons,List.length_nil]
 rw[Nat.mul_add] at hb
 omega
theorem qgM {c b:Nat} {ws:List (List Nat)} (h:∀w∈ws,w.length≤b) (hb:ws.length*(b+1)≤16777000) (hc:c<256) (hn:ws≠[]) (hf:∀p∈ws,c∉p):qcE (TL.joinL [c] ws) [c]=.ok ws:=by
 unfold qcE
 rw[qpz c ws hc hn hf,qjk]
 rw[qa5]
 have h1:=qfu h
 have h2:=qdt c ws
 have l:LIM=16777216:=rfl
 rw[Nat.mul_add] at hb
 exact⟨by simp,by omega⟩
theorem qwp {α:Type} (x:α) (xs:List α):qe5 (x::xs) (some 1) none=xs:=by
 have h1:HT.sIx (x::xs).length 0 (some 1)=1:=by simp[HT.sIx]
 have h2:HT.sIx (x::xs).length (x::xs).length none=xs.length+1:=by simp[HT.sIx]
 unfold qe5
 rw[h1,h2]
 simp
theorem qw1 {α:Type} (x y:α) (xs:List α):qe5 (x::y::xs) (some 2) none=xs:=by
 have h1:HT.sIx (x::y::xs).length 0 (some 2)=2:=by simp[HT.sIx]
 have h2:HT.sIx (x::y::xs).length (x::y::xs).length none=xs.length+2:=by simp[HT.sIx]
 unfold qe5
 rw[h1,h2]
 simp
theorem qfg (f:Nat→Int):∀i,(PyProof.Rows.firstMet f i).length=i→((List.range i).map f).Nodup
 |0,_=>by simp
 |i+1,h=>by
  rw[PyProof.Rows.firstMet_succ] at h
  unfold PyProof.Rows.step_dedup at h
  have hle:=PyProof.Rows.firstMet_length_le f i
  split at h
  ·omega
  ·rename_i hn
   rw[List.length_append,List.length_singleton] at h
   have ih:=qfg f i (by omega)
   rw[PyProof.Rows.firstMet_any] at hn
   rw[List.range_succ,List.map_append,List.nodup_append]
   refine⟨ih,by simp,?_⟩
   intro a ha b hb e
   simp only[List.map_cons,List.map_nil,List.mem_singleton] at hb
   subst hb
   subst e
   exact hn (List.any_eq_true.mpr ⟨_,ha,by simp⟩)
theorem qij (ns:List Int):(List.range ns.length).map (fun i=>ns.getD i 0)=ns:=by
 apply List.ext_getElem
 ·simp
 ·intro i h1 h2
  simp at h1
  simp[h2]
theorem qgx (f:Nat→Int):∀i,((List.range i).map f).Nodup→(PyProof.Rows.firstMet f i).length=i
 |0,_=>rfl
 |i+1,h=>by
  rw[List.range_succ,List.map_append,List.nodup_append] at h
  have ih:=qgx f i h.1
  rw[PyProof.Rows.firstMet_succ]
  unfold PyProof.Rows.step_dedup
  split
  ·rename_i hn
   rw[PyProof.Rows.firstMet_any] at hn
   obtain⟨a,ha,e⟩:=List.any_eq_true.mp hn
   exact absurd (by simpa using e) (h.2.2 a ha (f i) (by simp))
  ·rw[List.length_append,List.length_singleton,ih]
theorem qom {ns:List Int} (h:ns.Nodup):qqw ns=ns.length:=qgx _ _ (by rwa [qij])
theorem qnQ (ns:List Int):qqw ns=ns.length↔ns.Nodup:=
 ⟨fun h=>by have:=qfg _ _ h;rwa [qij] at this,qom⟩
theorem qnx {ns:List Int} (h:ns.length≤1000):qky ns=.ok (qqw ns:Int):=qjk (by rw[Nat.ble_eq];exact h)
theorem qr3 {ns:List Int} (h:ns.length≤1000):((qky ns).bind fun x=>RE.ok (decide (x=(List.length ns:Int))))=.ok (decide ns.Nodup):=by
 rw[qnx h]
 simp only[RE.bind_ok]
 congr 1
 refine decide_eq_decide.mpr ⟨fun e=>(qnQ ns).mp (by omega),fun e=>?_⟩
 have:=(qnQ ns).mpr e
 omega
theorem qrI:∀{ns:List Int} {b:Int},ns≠[]→(∀n∈ns,n<b)→qkE ns<b
 |[],_,h,_=>absurd rfl h
 |[x],b,_,h=>h x (by simp)
 |x::y::r,b,_,h=>by
  have h1:=h x (by simp)
  have h2:=qrI (ns:=y::r) (b:=b) (by simp) fun n hn=>h n (List.mem_cons_of_mem _ hn)
  show max x (qkE (y::r))<b
  omega
theorem qoy:∀{n:Nat} {cs:List Int},cs.Nodup→(∀c∈cs,0≤c∧c<n)→cs.length≤n
 |0,[],_,_=>Nat.le_refl _
 |0,c::cs,_,h=>by have:=h c (by simp);omega
 |n+1,cs,hn,h=>by
  have ih:=qoy (n:=n) (cs:=cs.erase n) (hn.erase _) fun c hc=>by
   have h1:=(List.Nodup.mem_erase_iff hn).mp hc
   have:=h c h1.2
   have:=h1.1
   omega
  by_cases hm:(n:Int)∈cs
  ·have:=List.length_erase_of_mem hm
   omega
  ·rw[List.erase_of_not_mem hm] at ih
   omega
structure CsOk (fl:Int × Int × Int) (cs:List Int):Prop where
 ne:cs≠[]
 nd:cs.Nodup
 inn:∀c∈cs,inC fl c
theorem CsOk.len {fl:Int × Int × Int} {cs:List Int} (h:CsOk fl cs) (hf:FOk fl):cs.length≤16:=by
 have:=qoy (n:=(nC fl).toNat) h.nd fun c hc=>by have q:=h.inn c hc;have q1:=q.1;have q2:=q.2;exact⟨q1,by omega⟩
 have:=hf.n
 have:=hf.n1
 have e:nC fl=fl.1*fl.2.1:=rfl
 omega
theorem qbD {fl:Int × Int × Int} {cs:List Int} (hf:FOk fl) (h:CsOk fl cs):F.cells_told fl cs=.ok cs:=by
 have hl:=h.len hf
 have e:=qr3 (ns:=cs) (by omega)
 unfold F.cells_told
 rw[decide_eq_false h.ne]
 simp only[RE.bind_ok,Bool.false_eq_true,if_false]
 rw[qnx (by omega)] at e ⊢
 simp only[RE.bind_ok] at e ⊢
 rw[RE.ok.inj e,decide_eq_true h.nd]
 simp only[Bool.not_true,Bool.false_eq_true,if_false,qjj hf,RE.bind_ok]
 obtain⟨n0,nr,hI⟩:∃n0 nr,cs=n0::nr:=List.exists_cons_of_ne_nil h.ne
 have mx:=qrI (b:=nC fl) h.ne fun n hn=>(h.inn n hn).2
 have:qtO cs=.ok (qkE cs):=by rw[hI];rfl
 rw[this]
 simp only[RE.bind_ok]
 rw[decide_eq_false (by omega)]
 rfl
theorem qfX {fl:Int × Int × Int} {ns:List Int} {k s:Int} (h0:0≤k) (hk:ns[k.toNat]? = some s) (s1:1≤s) (s2:s≤fl.2.2):F.sign_told fl ns k=.ok s:=by
 have hl:k.toNat<ns.length:=by
  rcases Nat.lt_or_ge k.toNat ns.length with q | q
  ·exact q
  ·rw[List.getElem?_eq_none q] at hk;cases hk
 unfold F.sign_told
 have a:=qfG h0 hk
 rw[decide_eq_false (by omega)]
 simp only[RE.bind_ok,Bool.false_eq_true,if_false,a,decide_eq_true s1,if_true,decide_eq_true s2,Bool.not_true]
def qmy (w:List Nat) (ns:List Int):List Nat:=TL.joinL [32] (w::ns.map dgI)
def wordsL:List (List Nat):=[[117,110,108,105,107,101],[115,117,109],[114,105,115,105,110,103],[115,101,101,110],[99,111,117,110,116],[106,111,105,110,101,100],[110,111,115,113,117,97,114,101],[114,105,110,103]]
theorem qgT:∀w∈wordsL,(D.str w).fit 0=true∧w.length≤8∧32∉w:=by decide +kernel
theorem qm0:D.fits (wordsL.map eS) 0=true:=by decide +kernel
theorem qlq:D.fits ([[106,111,105,110,101,100],[110,111,115,113,117,97,114,101],[114,105,110,103]].map eS) 0=true:=by decide +kernel
def qdf (fl:Int × Int × Int) (w:List Nat) (ns:List Int):RE RuleT:=
 if w∈[[106,111,105,110,101,100],[110,111,115,113,117,97,114,101],[114,105,110,103]] then F.whole_rule fl w ns
 else if w=[117,110,108,105,107,101] then (F.cells_told fl ns).bind fun cs=>.ok (RuleT.mk .unlike fl cs 0 0)
 else if w=[114,105,115,105,110,103] then (F.cells_told fl ns).bind fun cs=>.ok (RuleT.mk .rising fl cs 0 0)
 else if w=[99,111,117,110,116] then (F.sign_told fl ns 1).bind fun s=>(F.cells_told fl (qe5 ns (some 2) none)).bind fun cs=>(atE ns 0).bind fun n=>.ok (RuleT.mk .counted fl cs n s)
 else (F.cells_told fl (qe5 ns (some 1) none)).bind fun cs=>if w=[115,117,109] then (atE ns 0).bind fun n=>.ok (RuleT.mk .total fl cs n 0) else (atE ns 0).bind fun n=>.ok (RuleT.mk .seen fl cs n 0)
theorem qp5 {fl:Int × Int × Int} {w:List Nat} {ns:List Int} (hw:w∈wordsL) (hl:ns.length≤20) (hn:∀n∈ns,0≤n∧n<100):F.read_rule fl (.str (qmy w ns))=qdf fl w ns:=by
 obtain⟨w1,w2,w3⟩:=qgT w hw
 have sp:qcE (qmy w ns) [32]=.ok (w::ns.map dgI):=by
  refine qgM (b:=8) (fun v hv=>?_) ?_ (by decide) (by simp) fun v hv=>?_
  ·rcases List.mem_cons.mp hv with e | e
   ·rw[e];exact w2
   ·obtain⟨n,hm,rfl⟩:=List.mem_map.mp e
    have:=(qry n.toNat (by have:=hn n hm;omega)).1
    unfold dgI
    omega
  ·simp only[List.length_cons,List.length_map];omega
  ·rcases List.mem_cons.mp hv with e | e
   ·rw[e];exact w3
   ·obtain⟨n,hm,rfl⟩:=List.mem_map.mp e
    intro q
    have:=qlj n.toNat (by have:=hn n hm;omega) _ q
    omega
 have n8:qqu w wordsL=.ok false:=by
  unfold qqu qtM
  rw[w1,qm0]
  simp only[Bool.and_self,if_true,RE.bind_ok,decide_eq_true hw,Bool.not_true]
 have i3:qtM w [[106,111,105,110,101,100],[110,111,115,113,117,97,114,101],[114,105,110,103]]=.ok (decide (w∈[[106,111,105,110,101,100],[110,111,115,113,117,97,114,101],[114,105,110,103]])):=by
  unfold qtM
  rw[w1,qlq]
  rfl
 have nums:lcE (fun _=>RE.ok true) (fun aE=>F.number_of aE) (ns.map dgI)=.ok ns:=by
  rw[show lcE (fun _=>RE.ok true) (fun aE=>F.number_of aE) (ns.map dgI)=.ok ((ns.map dgI).map fun d=>match F.number_of d with
   |.ok n=>n
   |_=>0) from qfN fun d hd=>by
    obtain⟨n,hm,rfl⟩:=List.mem_map.mp hd
    rw[qkm (hn n hm).1 (hn n hm).2]]
  rw[List.map_map]
  congr 1
  have:ns.map ((fun d=>match F.number_of d with
   |.ok n=>n
   |_=>0) ∘ dgI)=ns.map id:=List.map_congr_left fun n hm=>by
    show(match F.number_of (dgI n) with
     |.ok n=>n
     |_=>0)=n
    rw[qkm (hn n hm).1 (hn n hm).2]
  rw[this,List.map_id]
 have n8':=n8
 unfold wordsL at n8'
 unfold F.read_rule qdf
 have ty:tyE (eD (.str (qmy w ns))) .str=.ok true:=rfl
 have ds:dS (.str (qmy w ns))=.ok (qmy w ns):=rfl
 simp only[ty,ds,RE.bind_ok,Bool.not_true,Bool.false_eq_true,if_false,sp,qqe,n8',qwp,i3]
 rw[gdl (by simp only[List.length_map];omega),nums]
 simp only[RE.bind_ok,qoU]
theorem qi5 {fl:Int × Int × Int} (hf:FOk fl) {w:List Nat} {s:Int} (s1:1≤s) (s2:s≤fl.2.2) (hw:w∈[[106,111,105,110,101,100],[110,111,115,113,117,97,114,101],[114,105,110,103]]) :
  qdf fl w [s]=.ok (RuleT.mk (if w=[106,111,105,110,101,100] then .joined else if w=[110,111,115,113,117,97,114,101] then .nosquare else .ring) fl (qer (nC fl).toNat) 0 s):=by
 unfold qdf
 rw[if_pos hw]
 unfold F.whole_rule
 have st:=qfX (fl:=fl) (ns:=[s]) (k:=0) (by decide) rfl s1 s2
 have l1:((List.length [s]:Nat):Int)=1:=rfl
 have n1:=hf.n1
 have n2:=hf.n
 have e:nC fl=fl.1*fl.2.1:=rfl
 simp only[l1,RE.bind_ok,decide_true,Bool.not_true,Bool.false_eq_true,if_false,st,qjj hf,qc7 (n:=nC fl) (by omega) (by omega),qoU]
 by_cases a:w=[106,111,105,110,101,100]
 ·simp[a]
 ·by_cases b:w=[110,111,115,113,117,97,114,101]
  ·simp[b]
  ·simp[a,b]
theorem qn6 {fl:Int × Int × Int} (hf:FOk fl) {cs:List Int} (h:CsOk fl cs):qdf fl [117,110,108,105,107,101] cs=.ok (RuleT.mk .unlike fl cs 0 0):=by
 unfold qdf
 rw[if_neg (by decide),if_pos rfl,qbD hf h];rfl
theorem qnu {fl:Int × Int × Int} (hf:FOk fl) {cs:List Int} (h:CsOk fl cs):qdf fl [114,105,115,105,110,103] cs=.ok (RuleT.mk .rising fl cs 0 0):=by
 unfold qdf
 rw[if_neg (by decide),if_neg (by decide),if_pos rfl,qbD hf h];rfl
theorem qp1 {fl:Int × Int × Int} (hf:FOk fl) {cs:List Int} (h:CsOk fl cs) {n s:Int} (s1:1≤s) (s2:s≤fl.2.2):qdf fl [99,111,117,110,116] (n::s::cs)=.ok (RuleT.mk .counted fl cs n s):=by
 unfold qdf
 rw[if_neg (by decide),if_neg (by decide),if_neg (by decide),if_pos rfl,qfX (by decide) (k:=1) rfl s1 s2]
 simp only[RE.bind_ok,qw1,qbD hf h,qqe]
theorem quf {fl:Int × Int × Int} (hf:FOk fl) {cs:List Int} (h:CsOk fl cs) {n:Int}:qdf fl [115,117,109] (n::cs)=.ok (RuleT.mk .total fl cs n 0):=by
 unfold qdf
 rw[if_neg (by decide),if_neg (by decide),if_neg (by decide),if_neg (by decide)]
 simp only[RE.bind_ok,qwp,qbD hf h,qqe,if_true]
theorem qsf {fl:Int × Int × Int} (hf:FOk fl) {cs:List Int} (h:CsOk fl cs) {n:Int}:qdf fl [115,101,101,110] (n::cs)=.ok (RuleT.mk .seen fl cs n 0):=by
 unfold qdf
 rw[if_neg (by decide),if_neg (by decide),if_neg (by decide),if_neg (by decide)]
 simp only[RE.bind_ok,qwp,qbD hf h,qqe]
 rw[if_neg (by decide)]
theorem qg0 {fl:Int × Int × Int} (h:FOk fl):F.floor_of fl.1 fl.2.1 fl.2.2=.ok fl:=by
 have:=h.h1;have:=h.h2;have:=h.w1;have:=h.w2;have:=h.n;have:=h.s1;have:=h.s2
 unfold F.floor_of
 rw[qfr (by omega)]
 simp only[RE.bind_ok,decide_eq_true h.h1,decide_eq_true h.h2,decide_eq_true h.w1,decide_eq_true h.w2,decide_eq_true h.s1,decide_eq_true h.s2,Bool.and_self,Bool.not_true,Bool.false_eq_true,if_false]
 rw[decide_eq_false (show ¬16<fl.1*fl.2.1 by omega)]
 rfl
def qjm (fl:Int × Int × Int) (fi:List Int):Prop:=(fi.length:Int)=nC fl∧∀s∈fi,0≤s∧s≤fl.2.2
instance (fl:Int × Int × Int) (fi:List Int):Decidable (qjm fl fi):=by unfold qjm;infer_instance
theorem qiy {fl:Int × Int × Int} (h:FOk fl) {fi:List Int} (hl:fi.length≤10000):F.is_filling fl fi=.ok (decide (qjm fl fi)):=by
 unfold F.is_filling
 simp only[RE.bind_ok,qjj h,gdl (xs:=fi) (by omega)]
 by_cases e:(fi.length:Int)=nC fl
 ·rw[decide_eq_true e]
  simp only[Bool.not_true,Bool.false_eq_true,if_false]
  congr 1
  rw[List.all_map,Bool.eq_iff_iff,List.all_eq_true,decide_eq_true_eq]
  unfold qjm
  constructor
  ·intro q
   refine⟨e,fun s hs=>?_⟩
   have:=q s hs
   simpa using this
  ·intro q s hs
   have:=q.2 s hs
   simp[this.1,this.2]
 ·rw[decide_eq_false e]
  simp only[Bool.not_false,if_true]
  congr 1
  exact(decide_eq_false fun q=>e q.1).symm
theorem quz {fl:Int × Int × Int} (h:FOk fl) {ls:List D} {rs:List RuleT} {cl:List Int} (hl:ls.length≤12) (hr:lcE (fun _=>RE.ok true) (fun l=>F.read_rule fl l) ls=.ok rs) (hc:qjm fl cl):F.Puzzle_new fl ls cl=.ok (PuzT.mk fl rs cl):=by
 have:=h.n
 have l:cl.length≤10000:=by have:=hc.1;have e:nC fl=fl.1*fl.2.1:=rfl;omega
 unfold F.Puzzle_new
 have z:decide ((12:Int)<(List.length ls:Int))=false:=decide_eq_false (by omega)
 simp only[decide_true,Bool.not_true,RE.bind_ok,Bool.false_eq_true,if_false,qg0 h,z,gdl (xs:=ls) (by omega),hr,qiy h l,decide_eq_true hc]
end Cm
namespace Cm
abbrev TI:=List Nat × Int × Int × Int × List Int
theorem qnJ:∀ns:List Int,dLs dI (ns.map eI)=.ok ns
 |[]=>rfl
 |n::ns=>by rw[List.map_cons,dLs,qnJ ns];rfl
theorem qrr (th:TI):dT5 (dLs dI) (thD th)=.ok th:=by
 unfold dT5 thD
 rw[qnJ];rfl
def qd5 (p:PuzT) (r:Int):Option RuleT:=if 0≤r∧r<(p.rules.length:Int) then p.rules[r.toNat]? else none
def qrA (p:PuzT) (c s:Int):Bool:=decide (0≤c∧c<nC p.ground∧1≤s∧s≤p.ground.2.2)
def RK.w:RK→List Nat
 |.unlike=>[117,110,108,105,107,101]
 |.total=>[115,117,109]
 |.rising=>[114,105,115,105,110,103]
 |.seen=>[115,101,101,110]
 |.counted=>[99,111,117,110,116]
 |.joined=>[106,111,105,110,101,100]
 |.nosquare=>[110,111,115,113,117,97,114,101]
 |.ring=>[114,105,110,103]
theorem qsJ (r:RuleT):F.m_name r=.ok r.k.w:=by obtain⟨k,_,_,_,_⟩:=r;cases k<;>rfl
def rk (o:Option RuleT) (k:RK):Option RuleT:=o.bind fun r=>if r.k=k then some r else none
def qn3 (o:Option RuleT) (fl:Int × Int × Int) (c s:Int) (more:List Int):Bool:=match o with
 |none=>false
 |some r=>decide (r.k=.ring)&&(if more=[] then decide (r.sign=s) else decide (more.length=1)&&decide (gI more 0∈qf7 fl c))
def qs0 (r:RuleT) (fl:Int × Int × Int) (ms:List Int) (c s:Int) (more:List Int):Bool:=
 let at_:=if more=[] then c else gI more 0
 let near:=(qf7 fl at_).filter fun d=>!decide (d=c)
 let must:=(near.filter fun d=>hoB (gI ms d) r.sign).length
 let may:=(near.filter fun d=>stB (gI ms d) r.sign).length
 if more=[] then decide (may<2)||decide (2<must) else hoB (gI ms at_) r.sign&&if r.sign=s then decide (2≤must) else decide (may<2)
end Cm
namespace Cm
theorem qol {xs:List Int}:∀{ys:List Int},xs.Nodup→(∀x∈xs,x∈ys)→xs.length≤ys.length:=by
 induction xs with
 |nil=>intro ys _ _;exact Nat.zero_le _
 |cons x xs ih =>
  intro ys hn hs
  rw[List.nodup_cons] at hn
  have hx:=hs x (by simp)
  have:=ih (ys:=ys.erase x) hn.2 fun y hy=>by
   have:y≠x:=fun e=>hn.1 (e ▸ hy)
   exact(List.mem_erase_of_ne this).mpr (hs y (List.mem_cons_of_mem _ hy))
  rw[List.length_erase_of_mem hx] at this
  have:=List.length_pos_of_mem hx
  simp only[List.length_cons]
  omega
theorem qtn (n:Nat):(qer n).Pairwise (· < ·):=by
 unfold qer
 rw[List.pairwise_map]
 exact List.pairwise_lt_range.imp fun h=>by omega
inductive Rch (fl:Int × Int × Int) (cs:List Int) (a:Int):Int→Prop where
 |base:a∈cs→Rch fl cs a a
 |step {b c:Int}:Rch fl cs a b→c∈qf7 fl b→c∈cs→Rch fl cs a c
section
variable {fl:Int × Int × Int} {cs:List Int} {a:Int}
theorem Rch.start {b:Int} (h:Rch fl cs a b):a∈cs:=by induction h with
 |base h=>exact h
 |step _ _ _ ih=>exact ih
theorem Rch.mem {b:Int} (h:Rch fl cs a b):b∈cs:=by cases h with
 |base h=>exact h
 |step _ _ h=>exact h
theorem Rch.mono {cs':List Int} (hs:∀x∈cs,x∈cs') {b:Int} (h:Rch fl cs a b):Rch fl cs' a b:=by induction h with
 |base h=>exact .base (hs _ h)
 |step _ h1 h2 ih=>exact .step ih h1 (hs _ h2)
end
theorem qmb {fl:Int × Int × Int} (hf:FOk fl) {c d:Int} (hc:inC fl c) (hd:inC fl d):d∈qf7 fl c↔((c / fl.2.1=d / fl.2.1∧(c % fl.2.1=d % fl.2.1+1∨d % fl.2.1=c % fl.2.1+1))∨(c % fl.2.1=d % fl.2.1∧(c / fl.2.1=d / fl.2.1+1∨d / fl.2.1=c / fl.2.1+1))):=by
 obtain⟨e,a1,a2,b1,b2⟩:=qhW hf hc
 obtain⟨e',a1',a2',b1',b2'⟩:=qhW hf hd
 have w:=hf.w1
 unfold qf7
 simp only[List.mem_append]
 have k:∀{p:Prop} [Decidable p] (x:Int),d∈(if p then [x] else [])↔p∧d=x:=fun {p} _ x=>by
  by_cases h:p<;>simp[h]
 simp only[k]
 generalize c / fl.2.1=R at *
 generalize c % fl.2.1=Q at *
 generalize d / fl.2.1=R' at *
 generalize d % fl.2.1=Q' at *
 generalize hw:fl.2.1=W at *
 have same:∀{x y:Int} {p q:Int},0≤p→p<W→0≤q→q<W→x*W+p=y*W+q→x=y∧p=q:=fun {x y p q} p0 p1 q0 q1 h=>by
  have h1:=qjB (r:=x) p0 p1
  have h2:=qjB (r:=y) q0 q1
  rw[h] at h1
  exact⟨h1.1.symm.trans h2.1,h1.2.symm.trans h2.2⟩
 constructor
 ·rintro(((⟨h,q⟩ | ⟨h,q⟩) | ⟨h,q⟩) | ⟨h,q⟩)
  ·have:=same (x:=R') (y:=R - 1) b1' b2' b1 b2 (by rw[Int.sub_mul];omega)
   omega
  ·have:=same (x:=R') (y:=R) b1' b2' (q:=Q - 1) (by omega) (by omega) (by omega)
   omega
  ·have:=same (x:=R') (y:=R) b1' b2' (q:=Q+1) (by omega) (by omega) (by omega)
   omega
  ·have:=same (x:=R') (y:=R+1) b1' b2' b1 b2 (by rw[Int.add_mul];omega)
   omega
 ·rintro(⟨h,q | q⟩ | ⟨h,q | q⟩)
  ·exact .inl (.inl (.inr ⟨by omega,by rw[e,e',h];omega⟩))
  ·exact .inl (.inr ⟨by omega,by rw[e,e',h];omega⟩)
  ·refine .inl (.inl (.inl ⟨by omega,?_⟩))
   have:R*W=R'*W+W:=by rw[q,Int.add_mul];omega
   omega
  ·refine .inr ⟨by omega,?_⟩
   have:R'*W=R*W+W:=by rw[q,Int.add_mul];omega
   omega
end Cm
namespace Cm
noncomputable def dec (p:Prop):Bool:=@decide p (Classical.propDecidable p)
def qwO (ms:List Int) (s:Int):List Int:=(qer ms.length).filter fun c=>stB (gI ms c) s
def qxi (k:RK):Bool:=decide (k=.joined∨k=.ring)
def qlS (o:Option RuleT) (fl:Int × Int × Int) (c s:Int) (more:List Int):Bool:=match o with
 |none=>false
 |some r=>qxi r.k&&(decide ((more.length:Int)=2 - (if r.sign=s then 1 else 0))&&(decide more.Nodup&&more.all fun d=>!(decide (d=c)||(decide (d<0)||decide (nC fl≤d)))))
noncomputable def qqL (r:RuleT) (fl:Int × Int × Int) (ms:List Int) (c s:Int) (more:List Int):Bool:=
 (more.all fun d=>hoB (gI ms d) r.sign)&&(if r.sign=s then !dec (Rch fl (((qwO ms r.sign).filter fun d=>!decide (d=c))++[c]) c (gI more 0)) else !dec (Rch fl ((qwO ms r.sign).filter fun d=>!decide (d=c)) (gI more 0) (gI more 1)))
end Cm
namespace Cm
def qr5 (r:RuleT) (c:Int):List Int:=r.cells.filter fun d=>!decide (d=c)
def ofB (o:Option RuleT) (k:RK) (c:Int):Bool:=match o with
 |none=>false
 |some r=>decide (r.k=k)&&decide (c∈r.cells)
def qnv (r:RuleT) (c:Int) (more:List Int):Bool:=(more.all fun d=>decide (d∈qr5 r c))&&decide more.Nodup
def qnH (i:Int) (more:List Int):Bool:=decide (i=0)&&decide (more=[])
def qtQ (p:PuzT) (c s:Int):Bool:=!decide (gI p.clues c=0) && !decide (gI p.clues c=s)
def qnC (o:Option RuleT) (c:Int) (more:List Int):Bool:=match o with
 |none=>false
 |some r=>ofB o .unlike c&&(decide (more.length=1)&&qnv r c more)
def qtg (ms:List Int) (s:Int) (more:List Int):Bool:=hoB (gI ms (gI more 0)) s
def ql3 (o:Option RuleT) (sg c s:Int) (more:List Int):Bool:=match o with
 |none=>false
 |some r=>ofB o .unlike c&&(decide ((r.cells.length:Int)=sg)&&(decide (more.length=1)&&(decide (1≤gI more 0∧gI more 0≤sg) && !decide (gI more 0=s))))
def qqg (r:RuleT) (ms:List Int) (c:Int) (more:List Int):Bool:=(qr5 r c).all fun d=>!stB (gI ms d) (gI more 0)
def inR (fl:Int × Int × Int) (r:RuleT):Prop:=r.cells.length≤1000∧∀d∈r.cells,inC fl d
def qtT (xs:List Int) (x:Int):Nat:=xs.findIdx fun y=>decide (y=x)
def qon (o:Option RuleT) (c:Int) (more:List Int):Bool:=match o with
 |none=>false
 |some r=>ofB o .unlike c&&(decide (more.length=2)&&(qnv r c more&&decide (qtT r.cells (gI more 0)<qtT r.cells (gI more 1))))
def qsR (ms:List Int) (s:Int) (more:List Int):Bool:=decide (((sgn (PySem.Builtin.bitOr (gI ms (gI more 0)) (gI ms (gI more 1)))).filter fun t=>!decide (t=s)).length≤1)
def qms (o:Option RuleT) (c:Int) (more:List Int):Bool:=decide (more=[])&&ofB o .counted c
def qp6 (r:RuleT) (ms:List Int) (c s:Int):Bool:=if s=r.sign then decide (r.wanted≤(((qr5 r c).filter fun d=>hoB (gI ms d) r.sign).length:Int)) else decide ((((qr5 r c).filter fun d=>stB (gI ms d) r.sign).length:Int)<r.wanted)
end Cm
namespace Cm
theorem qtr {xs ys:List Int} {k:Int} (h0:0≤k) (h1:k<ys.length) (hx:xs.length<16777216) (hy:ys.length≤16777216):∃d,qmZ xs ys k=.ok (xs++[d],ys.eraseIdx k.toNat)∧((xs++[d])++ys.eraseIdx k.toNat).Perm (xs++ys):=by
 have hk:k.toNat<ys.length:=by omega
 have i:=qpa hk
 rw[show((k.toNat:Nat):Int)=k from by omega] at i
 refine⟨ys[k.toNat],?_,?_⟩
 ·unfold qmZ
  have l:LIM=16777216:=rfl
  simp only[i,List.getElem?_eq_getElem hk]
  rw[qjk (qnD (by omega)),qjk (qnD (by omega))]
 ·rw[List.append_assoc]
  exact(qhZ ys k.toNat hk).append_left xs
theorem qta (n:Nat):(qer n).Nodup:=by
 unfold qer
 rw[List.Nodup,List.pairwise_map]
 refine List.Pairwise.imp ?_ List.nodup_range
 intro a b h e
 exact h (by omega)
end Cm
namespace Cm
def qrd (cs:List Int) (c:Int):Option Int:=if 0<qtT cs c then some (gI cs ((qtT cs c:Int) - 1)) else none
def qoG (cs:List Int) (c:Int):Option Int:=if qtT cs c+1<cs.length then some (gI cs ((qtT cs c:Int)+1)) else none
def qoD (o:Option RuleT) (c:Int) (more:List Int):Bool:=decide (more=[])&&ofB o .rising c
def qsQ (r:RuleT) (ms:List Int) (c s:Int):Bool:=(match qrd r.cells c with
 |some d=>decide (s≤qvo false (sgn (gI ms d)) s)
 |none=>false)||(match qoG r.cells c with
 |some d=>decide (qvo true (sgn (gI ms d)) s≤s)
 |none=>false)
theorem qop {m t:Int}:t∈sgn m↔(1≤t∧t<7)∧stB m t=true:=by
 unfold sgn
 rw[List.mem_filter,qmH]
end Cm
namespace Cm
theorem qts (m:Int):(sgn m).Pairwise (· < ·):=List.Pairwise.filter _ (by decide)
def qv1 (cs ms:List Int) (c s:Int):Option (Int × Int):=
 let os:=cs.filter fun d=>!decide (d=c)
 if (os.any fun d=>decide (sgn (gI ms d)=[]))=true then none else some (s+(os.map fun d=>qmR (sgn (gI ms d))).sum,s+(os.map fun d=>qkE (sgn (gI ms d))).sum)
def qq8 (o:Option RuleT) (c:Int) (more:List Int):Bool:=decide (more=[])&&ofB o .total c
def quK (r:RuleT) (ms:List Int) (c s:Int):Bool:=match qv1 r.cells ms c s with
 |none=>true
 |some e=>decide (r.wanted<e.1)||decide (e.2<r.wanted)
end Cm
namespace Cm
def Snd (fl:Int × Int × Int) (ms fi:List Int):Prop:=∀c,inC fl c→stB (gI ms c) (gI fi c)=true∧1≤gI fi c∧gI fi c≤fl.2.2
def UnL (cs fi:List Int):Prop:=∀d∈cs,∀e∈cs,d≠e→gI fi d≠gI fi e
end Cm
namespace Cm
section
variable {α β γ:Type}
end
def qv6 (fl:Int × Int × Int) (c:Int):Bool:=decide (c / fl.2.1<fl.1 - 1)&&decide (c % fl.2.1<fl.2.1 - 1)
def sqL (fl:Int × Int × Int) (c:Int):List Int:=[c,c+1,c+fl.2.1,c+fl.2.1+1]
def qwD (fl:Int × Int × Int):List Int:=(qer (nC fl).toNat).filter (qv6 fl)
def qxt (fl:Int × Int × Int):List (List Int):=(qwD fl).map (sqL fl)
section
variable {fl:Int × Int × Int}
theorem qpE (hf:FOk fl):(nC fl).toNat≤16:=by
 have:=hf.n
 have e:nC fl=fl.1*fl.2.1:=rfl
 omega
def qv7 (fl:Int × Int × Int) (c:Int):List Int:=if c∈qwD fl then sqL fl c else []
end
def qjM (o:Option RuleT) (fl:Int × Int × Int) (c s:Int) (more:List Int):Bool:=match o with
 |none=>false
 |some r=>decide (r.k=.nosquare)&&(decide (r.sign=s)&&(decide (more.length=1)&&decide (c∈qv7 fl (gI more 0))))
def qoK (fl:Int × Int × Int) (ms:List Int) (c s:Int) (more:List Int):Bool:=(qv7 fl (gI more 0)).all fun d=>decide (d=c)||hoB (gI ms d) s
end Cm
namespace Cm
section
variable {fl:Int × Int × Int} {cs:List Int}
theorem qqc (hf:FOk fl) {c d:Int} (hc:inC fl c) (hd:inC fl d):d∈qf7 fl c↔c∈qf7 fl d:=by
 rw[qmb hf hc hd,qmb hf hd hc]
 omega
theorem Rch.trans {a b c:Int} (h:Rch fl cs a b) (k:Rch fl cs b c):Rch fl cs a c:=by induction k with
 |base _=>exact h
 |step _ h1 h2 ih=>exact .step ih h1 h2
theorem Rch.symm (hf:FOk fl) (hi:∀x∈cs,inC fl x) {a b:Int} (h:Rch fl cs a b):Rch fl cs b a:=by induction h with
 |base h=>exact .base h
 |step h h1 h2 ih=>exact(Rch.step (.base h2) ((qqc hf (hi _ h.mem) (hi _ h2)).mp h1) h.mem).trans ih
noncomputable def jnB (fl:Int × Int × Int) (cs:List Int):Bool:=dec (∀a∈cs,∀b∈cs,Rch fl cs a b)
theorem qvw {L:List Int} (h:L.Pairwise (· < ·)):L.Nodup:=h.imp fun h e=>by omega
end
def qvW (xs:List Int):Int × Int:=xs.foldl (fun s x=>if s.2<x then (s.1+1,x) else s) (0,0)
noncomputable def qu1 (r:RuleT) (g:Int→Int):Bool:=match r.k with
 |.unlike=>decide (r.cells.map g).Nodup
 |.total=>decide ((r.cells.map g).sum=r.wanted)
 |.rising=>(r.cells.zip (r.cells.drop 1)).all fun p=>decide (g p.1<g p.2)
 |.seen=>decide ((qvW (r.cells.map g)).1=r.wanted)
 |.counted=>decide (((r.cells.filter fun d=>decide (g d=r.sign)).length:Int)=r.wanted)
 |.joined=>jnB r.ground (r.cells.filter fun d=>decide (g d=r.sign))
 |.nosquare=>(qxt r.ground).all fun q=>!decide ((q.filter fun d=>decide (g d=r.sign)).length=4)
 |.ring=>((r.cells.filter fun d=>decide (g d=r.sign)).all fun c=>decide (((qf7 r.ground c).filter fun d=>decide (d∈r.cells.filter fun d=>decide (g d=r.sign))).length=2))&&jnB r.ground (r.cells.filter fun d=>decide (g d=r.sign))
def qeI:RK→Bool
 |.joined=>true
 |.nosquare=>true
 |.ring=>true
 |_=>false
structure WfR (fl:Int × Int × Int) (r:RuleT):Prop where
 g:r.ground=fl
 cs:CsOk fl r.cells
 w:qeI r.k=true→r.cells=qer (nC fl).toNat
 s:qeI r.k=true∨r.k=.counted→1≤r.sign∧r.sign≤fl.2.2
 s0:¬(qeI r.k=true∨r.k=.counted)→r.sign=0
 n0:0≤r.wanted
 n1:r.wanted<100
 n2:¬(r.k=.total∨r.k=.seen∨r.k=.counted)→r.wanted=0
theorem WfR.inR {fl:Int × Int × Int} (hf:FOk fl) {r:RuleT} (h:WfR fl r):inR fl r:=⟨by have:=h.cs.len hf;omega,h.cs.inn⟩
section
variable {fl:Int × Int × Int} {r:RuleT} {fi:List Int}
end
end Cm
namespace Cm
def qum:List Int→Int
 |[]=>1
 |x::xs=>x*qum xs
def lay:List (Int × List Int)→List Int→Int→List Int × Int
 |[],fi,n=>(fi,n)
 |p::os,fi,n=>lay os (fi.set p.1.toNat (gI p.2 (n % (p.2.length:Int)))) (n / (p.2.length:Int))
structure LyOk (n:Nat) (os:List (Int × List Int)):Prop where
 nd:(os.map Prod.fst).Nodup
 inn:∀p∈os,0≤p.1∧p.1<(n:Int)
 ne:∀p∈os,1≤p.2.length∧p.2.length≤6
theorem LyOk.tl {n:Nat} {p:Int × List Int} {os:List (Int × List Int)} (h:LyOk n (p::os)):LyOk n os∧∀q∈os,q.1≠p.1:=by
 have nd:=h.nd
 rw[List.map_cons,List.nodup_cons] at nd
 exact⟨⟨nd.2,fun q hq=>h.inn q (List.mem_cons_of_mem _ hq),fun q hq=>h.ne q (List.mem_cons_of_mem _ hq)⟩,fun q hq e=>nd.1 (List.mem_map.mpr ⟨q,hq,e⟩)⟩
def qod (o:Option RuleT) (c:Int) (more:List Int):Bool:=decide (more=[])&&match o with
 |none=>false
 |some r=>decide (c∈r.cells)
def qvP (r:RuleT) (ms:List Int) (c:Int):Int:=qum ((qr5 r c).map fun d=>((sgn (gI ms d)).length:Int))
noncomputable def qtk (r:RuleT) (ms:List Int) (c s:Int):Bool:=decide (qvP r ms c≤32)&&dec (∀g:Int→Int,g c=s→(∀d∈qr5 r c,g d∈sgn (gI ms d))→qu1 r g=false)
end Cm
namespace Cm
def qnR:List KK:=[.clue,.only,.place,.count,.step,.sums,.square,.reach,.turn,.pair,.ways]
def KK.w:KK→List Nat
 |.clue=>[99,108,117,101]
 |.only=>[111,110,108,121]
 |.place=>[112,108,97,99,101]
 |.count=>[99,111,117,110,116]
 |.step=>[115,116,101,112]
 |.sums=>[115,117,109]
 |.square=>[115,113,117,97,114,101]
 |.reach=>[114,101,97,99,104]
 |.turn=>[116,117,114,110]
 |.pair=>[112,97,105,114]
 |.ways=>[119,97,121,115]
def qwT (w:List Nat):Option KK:=qnR.find? fun k=>decide (k.w=w)
structure WfP (p:PuzT):Prop where
 f:FOk p.ground
 r:∀r∈p.rules,WfR p.ground r
 c:qjm p.ground p.clues
 n:p.rules.length≤12
def qwH (k:KK) (p:PuzT) (o:Option RuleT) (th:TI):Bool:=match k with
 |.clue=>qnH th.2.1 th.2.2.2.2
 |.only=>qnC o th.2.2.1 th.2.2.2.2
 |.place=>ql3 o p.ground.2.2 th.2.2.1 th.2.2.2.1 th.2.2.2.2
 |.count=>qms o th.2.2.1 th.2.2.2.2
 |.step=>qoD o th.2.2.1 th.2.2.2.2
 |.sums=>qq8 o th.2.2.1 th.2.2.2.2
 |.square=>qjM o p.ground th.2.2.1 th.2.2.2.1 th.2.2.2.2
 |.reach=>qlS o p.ground th.2.2.1 th.2.2.2.1 th.2.2.2.2
 |.turn=>qn3 o p.ground th.2.2.1 th.2.2.2.1 th.2.2.2.2
 |.pair=>qon o th.2.2.1 th.2.2.2.2
 |.ways=>qod o th.2.2.1 th.2.2.2.2
noncomputable def qw6 (k:KK) (p:PuzT) (ms:List Int) (r:RuleT) (th:TI):Bool:=match k with
 |.clue=>qtQ p th.2.2.1 th.2.2.2.1
 |.only=>qtg ms th.2.2.2.1 th.2.2.2.2
 |.place=>qqg r ms th.2.2.1 th.2.2.2.2
 |.count=>qp6 r ms th.2.2.1 th.2.2.2.1
 |.step=>qsQ r ms th.2.2.1 th.2.2.2.1
 |.sums=>quK r ms th.2.2.1 th.2.2.2.1
 |.square=>qoK p.ground ms th.2.2.1 th.2.2.2.1 th.2.2.2.2
 |.reach=>qqL r p.ground ms th.2.2.1 th.2.2.2.1 th.2.2.2.2
 |.turn=>qs0 r p.ground ms th.2.2.1 th.2.2.2.1 th.2.2.2.2
 |.pair=>qsR ms th.2.2.2.1 th.2.2.2.2
 |.ways=>qtk r ms th.2.2.1 th.2.2.2.1
def noR:RuleT:=⟨.unlike,(1,1,1),[],0,0⟩
noncomputable def qw8 (k:KK) (p:PuzT) (ms:List Int) (th:TI):Bool:=qw6 k p ms ((qd5 p th.2.1).getD noR) th
noncomputable def alB (p:PuzT) (ms:List Int) (th:TI):Bool:=match qwT th.1 with
 |none=>false
 |some k=>qrA p th.2.2.1 th.2.2.2.1&&(qwH k p (qd5 p th.2.1) th&&qw8 k p ms th)
theorem qmt {p:PuzT} {c s:Int}:qrA p c s=true↔inC p.ground c∧1≤s∧s≤p.ground.2.2:=by
 unfold qrA
 rw[decide_eq_true_eq]
 exact⟨fun⟨a,b,c,d⟩=>⟨⟨a,b⟩,c,d⟩,fun⟨⟨a,b⟩,c,d⟩=>⟨a,b,c,d⟩⟩
section
variable {p:PuzT} {ms:List Int} {th:TI}
end
end Cm
namespace Cm
def qwz (k:KK) (p:PuzT) (r:RuleT) (th:TI):List Int:=match k with
 |.clue=>[]
 |.only=>th.2.2.2.2
 |.step=>qe1 ((match qrd r.cells th.2.2.1 with
  |some d=>[d]
  |none=>[])++match qoG r.cells th.2.2.1 with
  |some d=>[d]
  |none=>[])
 |.square=>(qv7 p.ground (gI th.2.2.2.2 0)).filter fun d=>!decide (d=th.2.2.1)
 |.reach=>(qer (nC p.ground).toNat).filter fun d=>!decide (d=th.2.2.1)
 |.turn=>if th.2.2.2.2=[] then qf7 p.ground th.2.2.1 else qe1 ((qf7 p.ground (gI th.2.2.2.2 0)++[gI th.2.2.2.2 0]).filter fun d=>!decide (d=th.2.2.1))
 |.pair=>qe1 th.2.2.2.2
 |_=>qe1 (qr5 r th.2.2.1)
def Sb (m' m:Int):Prop:=∀t,1≤t→stB m' t=true→stB m t=true
theorem Sb.refl (m:Int):Sb m m:=fun _ _ h=>h
theorem Sb.ho {m' m s:Int} (h:Sb m' m) (s1:1≤s) (k:hoB m s=true):hoB m' s=true:=(qnk s1).mpr fun t t1 ht=>(qnk s1).mp k t t1 (h t t1 ht)
theorem Sb.sg {m' m:Int} (h:Sb m' m):∀t∈sgn m',t∈sgn m:=fun t ht=>by
 obtain⟨⟨a,b⟩,c⟩:=qop.mp ht
 exact qop.mpr ⟨⟨a,b⟩,h t a c⟩
theorem quL (m:Int):(sgn m).Nodup:=qvw (qts m)
theorem Sb.ln {m' m:Int} (h:Sb m' m):(sgn m').length≤(sgn m).length:=qol (quL m') h.sg
section
variable {p:PuzT} {ms ms':List Int} {th:TI}
def qxk (p:PuzT) (th:TI):List Int:=match qwT th.1 with
 |none=>[]
 |some k=>qwz k p ((qd5 p th.2.1).getD noR) th
end
end Cm
namespace Cm
section
variable {p:PuzT} {ms fi:List Int} {th:TI}
end
end Cm
namespace Cm
theorem qpF (n:Nat):(qer n).Nodup:=qvw (qtn n)
theorem qeb {x:Int} (h0:0≤x) (h1:x<100):(dgI x).length≤2:=(qry _ (by omega)).1
theorem qfe (w:List Nat) {ns:List Int} (h:ns≠[]):qmy w ns=w++([32]++TL.joinL [32] (ns.map dgI)):=by
 obtain⟨a,as,rfl⟩:=List.exists_cons_of_ne_nil h
 unfold qmy
 simp[TL.joinL,List.append_assoc]
def qff (r:RuleT):List Int:=match r.k with
 |.unlike=>r.cells
 |.rising=>r.cells
 |.total=>r.wanted::r.cells
 |.seen=>r.wanted::r.cells
 |.counted=>r.wanted::r.sign::r.cells
 |_=>[r.sign]
def qaw (r:RuleT):List Nat:=qmy r.k.w (qff r)
theorem qjY (k:RK):k.w∈wordsL:=by cases k<;>decide
theorem RuleT.ext' {r s:RuleT} (h1:r.k=s.k) (h2:r.ground=s.ground) (h3:r.cells=s.cells) (h4:r.wanted=s.wanted) (h5:r.sign=s.sign):r=s:=by
 obtain⟨_,_,_,_,_⟩:=r
 obtain⟨_,_,_,_,_⟩:=s
 simp only at h1 h2 h3 h4 h5
 subst h1;subst h2;subst h3;subst h4;subst h5;rfl
section
variable {fl:Int × Int × Int}
theorem qdU (hf:FOk fl) {r:RuleT} (hr:WfR fl r):(qff r).length≤18∧(∀n∈qff r,0≤n∧n<100)∧qff r≠[]:=by
 have l:=hr.cs.len hf
 have s6:=hf.s2
 have n:=qpE hf
 have ci:∀c∈r.cells,0≤c∧c<100:=fun c hc=>by
  have:=hr.cs.inn c hc
  exact⟨this.1,by have:=this.2;omega⟩
 have n0:=hr.n0
 have n1:=hr.n1
 unfold qff
 cases hk:r.k with
 |unlike=>exact⟨by show r.cells.length≤18;omega,ci,hr.cs.ne⟩
 |rising=>exact⟨by show r.cells.length≤18;omega,ci,hr.cs.ne⟩
 |total=>exact⟨by simp only[List.length_cons];omega,fun x hx=>by rcases List.mem_cons.mp hx with q | q;omega;exact ci x q,by simp⟩
 |seen=>exact⟨by simp only[List.length_cons];omega,fun x hx=>by rcases List.mem_cons.mp hx with q | q;omega;exact ci x q,by simp⟩
 |counted =>
  have:=hr.s (.inr hk)
  exact⟨by simp only[List.length_cons];omega,fun x hx=>by
   rcases List.mem_cons.mp hx with q | q
   ·omega
   ·rcases List.mem_cons.mp q with q | q
    ·omega
    ·exact ci x q,by simp⟩
 |joined =>
  have:=hr.s (.inl (by rw[hk];rfl))
  exact⟨by simp,fun x hx=>by rw[List.mem_singleton.mp hx];omega,by simp⟩
 |nosquare =>
  have:=hr.s (.inl (by rw[hk];rfl))
  exact⟨by simp,fun x hx=>by rw[List.mem_singleton.mp hx];omega,by simp⟩
 |ring =>
  have:=hr.s (.inl (by rw[hk];rfl))
  exact⟨by simp,fun x hx=>by rw[List.mem_singleton.mp hx];omega,by simp⟩
theorem qoQ (hf:FOk fl) {r:RuleT} (hr:WfR fl r):F.read_rule fl (eS (qaw r))=.ok r:=by
 obtain⟨t1,t2,_⟩:=qdU hf hr
 show F.read_rule fl (.str (qmy r.k.w (qff r)))=_
 rw[qp5 (qjY r.k) (by omega) t2]
 unfold qff
 cases hk:r.k with
 |unlike =>
  have:=qn6 hf hr.cs
  refine this.trans (congrArg RE.ok (RuleT.ext' hk.symm hr.g.symm rfl ?_ ?_))
  ·exact(hr.n2 (by rw[hk];decide)).symm
  ·exact(hr.s0 (by rw[hk];decide)).symm
 |rising =>
  have:=qnu hf hr.cs
  refine this.trans (congrArg RE.ok (RuleT.ext' hk.symm hr.g.symm rfl ?_ ?_))
  ·exact(hr.n2 (by rw[hk];decide)).symm
  ·exact(hr.s0 (by rw[hk];decide)).symm
 |total =>
  have:=quf (n:=r.wanted) hf hr.cs
  exact this.trans (congrArg RE.ok (RuleT.ext' hk.symm hr.g.symm rfl rfl (hr.s0 (by rw[hk];decide)).symm))
 |seen =>
  have:=qsf (n:=r.wanted) hf hr.cs
  exact this.trans (congrArg RE.ok (RuleT.ext' hk.symm hr.g.symm rfl rfl (hr.s0 (by rw[hk];decide)).symm))
 |counted =>
  have s:=hr.s (.inr hk)
  have:=qp1 (n:=r.wanted) hf hr.cs s.1 s.2
  exact this.trans (congrArg RE.ok (RuleT.ext' hk.symm hr.g.symm rfl rfl rfl))
 |joined =>
  have wk:qeI r.k=true:=by rw[hk];rfl
  have s:=hr.s (.inl wk)
  have:=qi5 hf s.1 s.2 (w:=RK.joined.w) (by decide)
  refine this.trans (congrArg RE.ok (RuleT.ext' hk.symm hr.g.symm (hr.w wk).symm ?_ rfl))
  exact(hr.n2 (by rw[hk];decide)).symm
 |nosquare =>
  have wk:qeI r.k=true:=by rw[hk];rfl
  have s:=hr.s (.inl wk)
  have:=qi5 hf s.1 s.2 (w:=RK.nosquare.w) (by decide)
  refine this.trans (congrArg RE.ok (RuleT.ext' hk.symm hr.g.symm (hr.w wk).symm ?_ rfl))
  exact(hr.n2 (by rw[hk];decide)).symm
 |ring =>
  have wk:qeI r.k=true:=by rw[hk];rfl
  have s:=hr.s (.inl wk)
  have:=qi5 hf s.1 s.2 (w:=RK.ring.w) (by decide)
  refine this.trans (congrArg RE.ok (RuleT.ext' hk.symm hr.g.symm (hr.w wk).symm ?_ rfl))
  exact(hr.n2 (by rw[hk];decide)).symm
theorem qid (hf:FOk fl):∀{rs:List RuleT},(∀r∈rs,WfR fl r)→lcE (fun _=>RE.ok true) (fun l=>F.read_rule fl l) (rs.map fun r=>eS (qaw r))=.ok rs
 |[],_=>rfl
 |r::rs,h=>by
  rw[List.map_cons,lcE,qoQ hf (h r (by simp)),qid hf (rs:=rs) fun x hx=>h x (List.mem_cons_of_mem _ hx)]
  rfl
theorem qoV (hf:FOk fl) {rs:List RuleT} {ls:List (List Nat)} {cl:List Int} (hl:ls=rs.map qaw) (hn:rs.length≤12) (hr:∀r∈rs,WfR fl r) (hc:qjm fl cl):F.Puzzle_new fl (ls.map eS) cl=.ok ⟨fl,rs,cl⟩∧WfP ⟨fl,rs,cl⟩:=by
 subst hl
 refine⟨quz hf (by rw[List.length_map,List.length_map];omega) ?_ hc,⟨hf,hr,hc,hn⟩⟩
 rw[List.map_map]
 exact qid hf hr
theorem qgO {k:RK} {cs:List Int} {n s:Int} (hk:qeI k=false) (hc:CsOk fl cs) (hs:k=.counted→1≤s∧s≤fl.2.2) (h0:k≠.counted→s=0) (n0:0≤n) (n1:n<100) (n2:¬(k=.total∨k=.seen∨k=.counted)→n=0):WfR fl ⟨k,fl,cs,n,s⟩:=
 ⟨rfl,hc,fun h=>(by rw[hk] at h;cases h),fun h=>(by rcases h with h | h;rw[hk] at h;cases h;exact hs h),fun h=>h0 fun e=>h (.inr e),n0,n1,n2⟩
theorem csU (hf:FOk fl):CsOk fl (qer (nC fl).toNat):=by
 have n1:=hf.n1
 refine⟨?_,qpF _,fun c hc=>?_⟩
 ·intro e
  have:=qbZ (nC fl).toNat
  rw[e] at this
  simp only[List.length_nil] at this
  omega
 ·have:=qiu.mp hc
  exact⟨this.1,by omega⟩
theorem qoM {cs:List Int} (hc:CsOk fl cs):WfR fl ⟨.unlike,fl,cs,0,0⟩:=qgO rfl hc (fun h=>nomatch h) (fun _=>rfl) (by decide) (by decide) fun _=>rfl
theorem qnz {cs:List Int} (hc:CsOk fl cs):WfR fl ⟨.rising,fl,cs,0,0⟩:=qgO rfl hc (fun h=>nomatch h) (fun _=>rfl) (by decide) (by decide) fun _=>rfl
theorem qpo {cs:List Int} {n:Int} (hc:CsOk fl cs) (n0:0≤n) (n1:n<100):WfR fl ⟨.total,fl,cs,n,0⟩:=qgO rfl hc (fun h=>nomatch h) (fun _=>rfl) n0 n1 fun h=>absurd (.inl rfl) h
theorem qsc {cs:List Int} {n:Int} (hc:CsOk fl cs) (n0:0≤n) (n1:n<100):WfR fl ⟨.seen,fl,cs,n,0⟩:=qgO rfl hc (fun h=>nomatch h) (fun _=>rfl) n0 n1 fun h=>absurd (.inr (.inl rfl)) h
theorem qmN {cs:List Int} {n s:Int} (hc:CsOk fl cs) (n0:0≤n) (n1:n<100) (s1:1≤s) (s2:s≤fl.2.2):WfR fl ⟨.counted,fl,cs,n,s⟩:=qgO rfl hc (fun _=>⟨s1,s2⟩) (fun h=>absurd rfl h) n0 n1 fun h=>absurd (.inr (.inr rfl)) h
theorem qiG (hf:FOk fl) {k:RK} {s:Int} (hk:qeI k=true) (s1:1≤s) (s2:s≤fl.2.2):WfR fl ⟨k,fl,qer (nC fl).toNat,0,s⟩:=
 ⟨rfl,csU hf,fun _=>rfl,fun _=>⟨s1,s2⟩,fun h=>absurd (.inl hk) h,Int.le_refl _,(by decide:(0:Int)<100),fun _=>rfl⟩
theorem qwq {k:RK} {cs:List Int} {n s:Int} (hk:qeI k=true):qaw ⟨k,fl,cs,n,s⟩=k.w++([32]++dgI s):=by
 have:qaw ⟨k,fl,cs,n,s⟩=qmy k.w [s]:=by
  unfold qaw qff
  cases k<;>first | rfl | cases hk
 rw[this,qfe _ (by simp)]
 rfl
end
def ThP (k:Nat) (L:List TI):Prop:=L.length≤k∧∀th∈L,th.2.2.2.2.length≤2
theorem ThP.app {k:Nat} {L:List TI} {th:TI} (h:ThP k L) (hl:th.2.2.2.2.length≤2) (hk:k<1000):qez L th=.ok (L++[th])∧ThP (k+1) (L++[th]):=by
 refine⟨qhh (by have:=h.1;omega),by have:=h.1;rw[List.length_append,List.length_singleton];omega,fun x hx=>?_⟩
 rcases List.mem_append.mp hx with q | q
 ·exact h.2 x q
 ·rw[List.mem_singleton.mp q];exact hl
theorem ThP.mono {k j:Nat} {L:List TI} (h:ThP k L) (hk:k≤j):ThP j L:=⟨by have:=h.1;omega,h.2⟩
end Cm
namespace Cm
def qw2 (k:KK) (p:PuzT) (th:TI):Prop:=match k with
 |.place=>∃r,qd5 p th.2.1=some r
 |.count=>∃r,qd5 p th.2.1=some r
 |.sums=>∃r,qd5 p th.2.1=some r
 |.ways=>∃r,qd5 p th.2.1=some r
 |.step=>∃r,qd5 p th.2.1=some r∧th.2.2.1∈r.cells
 |.square=>th.2.2.2.2≠[]
 |_=>True
end Cm
namespace Cm
def zc (cs:List Int):Nat:=cs.count 0
def qwG (s:Int):List (Int × Int)→Int→List Int
 |[],_=>[]
 |p::r,i=>(if p.1=0 then 1+(p.2+i / s ^ zc (r.map Prod.fst)) % s else p.1)::qwG s r i
def qw4 (s:Int):List (Int × Int)→List Int→Prop
 |[],[]=>True
 |p::r,x::g=>(if p.1=0 then 1≤x∧x≤s else x=p.1)∧qw4 s r g
 |_,_=>False
def qxj (s:Int):List (Int × Int)→List Int→Int
 |p::r,x::g=>(if p.1=0 then (x - 1 - p.2) % s*s ^ zc (r.map Prod.fst) else 0)+qxj s r g
 |_,_=>0
section
variable {s:Int}
end
def mtB (p:PuzT) (g:List Int):Bool:=match F.Puzzle_meets p g with
 |.ok b=>b
 |_=>false
def nFl (p:PuzT):Int:=p.ground.2.2 ^ zc p.clues
def flo (p:PuzT) (st:List Int):List (List Int):=(qer (nFl p).toNat).map (qwG p.ground.2.2 (p.clues.zip st))
section
variable {p:PuzT}
def qxA (p:PuzT) (st:List Int):List (List Int):=(flo p st).filter (mtB p)
end
end Cm
namespace Cm
section
variable {p:PuzT} {ms:List Int} {c s:Int}
def qxh (L:List (List Int)):Prop:=L.length≤300∧∀m∈L,m.length≤2
def MSg (fl:Int × Int × Int) (ms:List Int):Prop:=∀m∈ms,m<((2 ^ fl.2.2.toNat:Nat):Int)
def qxg (p:PuzT) (ms:List Int) (k:KK) (n c s:Int):List (List Int):=match F.m_mores k p ms (qd5 p n) c s with
 |.ok L=>L
 |_=>[]
noncomputable def qwQ (p:PuzT) (ms:List Int) (k:KK) (n c:Int):Option TI:=(sgn (gI ms c)).findSome? fun s=>(qxg p ms k n c s).findSome? fun m=>if alB p ms (k.w,n,c,s,m)=true then some (k.w,n,c,s,m) else none
end
end Cm
namespace Cm
section
variable {p:PuzT} {ms:List Int}
def qxo (ws:List (List Nat)):List KK:=qnR.filter fun k=>decide (k.w∈ws)
def qvh:KK→RK→Bool
 |.only,k=>decide (k=.unlike)
 |.place,k=>decide (k=.unlike)
 |.pair,k=>decide (k=.unlike)
 |.count,k=>decide (k=.counted)
 |.step,k=>decide (k=.rising)
 |.sums,k=>decide (k=.total)
 |.square,k=>decide (k=.nosquare)
 |.reach,k=>decide (k=.joined∨k=.ring)
 |.turn,k=>decide (k=.ring)
 |.clue,_=>true
 |.ways,_=>true
def qxx (r:RE Bool) (b:Bool):Bool:=match r with
 |.ok c=>c == b
 |_=>false
noncomputable def nK (p:PuzT) (ms:List Int) (k:KK):Option TI:=
 if k=.clue then (qer (nC p.ground).toNat).findSome? (qwQ p ms k 0)
 else (qer p.rules.length).findSome? fun n=>match qd5 p n with
  |some r=>if qvh k r.k=true then (qe1 r.cells).findSome? (qwQ p ms k n) else none
  |none=>none
noncomputable def nT (p:PuzT) (ms:List Int) (ws:List (List Nat)):Option TI:=if 0∈ms then none else (qxo ws).findSome? (nK p ms)
end
end Cm
namespace Cm
section
variable {p:PuzT} {ms:List Int}
end
end Cm
namespace Cm
section
variable {fl:Int × Int × Int} {ms:List Int} {c s:Int}
theorem qwy {m:Int} (m0:0≤m) (h:stB m s=true):((2 ^ (s - 1).toNat:Nat):Int)≤m:=by
 unfold stB at h
 have:=Nat.ge_two_pow_of_testBit h
 omega
def stk (ms:List Int) (c s:Int):List Int:=ms.set c.toNat (gI ms c - ((2 ^ (s - 1).toNat:Nat):Int))
theorem qog (hm:MOk fl ms) (hc:inC fl c) (h:stB (gI ms c) s=true):MOk fl (stk ms c s):=by
 have b:=hm.b hc
 have l:=qwy b.1 h
 have p:=Nat.two_pow_pos (s - 1).toNat
 refine⟨by unfold stk;rw[List.length_set];exact hm.1,fun m hx=>?_⟩
 unfold stk at hx
 rcases List.mem_or_eq_of_mem_set hx with q | q
 ·exact hm.2 m q
 ·rw[q];omega
end
end Cm
namespace Cm
section
variable {p:PuzT} {ms:List Int} {ws:List (List Nat)}
def Nx (p:PuzT) (ws:List (List Nat)) (ms:List Int) (th:TI):Prop:=alB p ms th=true∧stB (gI ms th.2.2.1) th.2.2.2.1=true∧(∃k:KK,th.1=k.w∧k.w∈ws)∧0∉ms
inductive Steps (p:PuzT) (ws:List (List Nat)) (ms:List Int):List TI→List Int→Prop
 |nil:Steps p ws ms [] ms
 |snoc {book:List TI} {left:List Int} {th:TI}:Steps p ws ms book left→nT p left ws=some th→Steps p ws ms (book++[th]) (stk left th.2.2.1 th.2.2.2.1)
def wgt (ms:List Int):Nat:=(ms.map Int.toNat).sum
end
end Cm
namespace Cm
variable {fl:Int × Int × Int} {p:PuzT}
theorem qoA (hf:FOk fl) {r:RuleT} (hr:WfR fl r):qee [32] (r.k.w::(qff r).map dgI)=.ok (qaw r):=by
 have h:=qdU hf hr
 have hw:r.k.w.length≤8:=(qgT _ (qjY r.k)).2.1
 rw[qgg (b:=8) (fun w hw'=>?_) (by simp;omega)]
 ·rfl
 ·rcases List.mem_cons.mp hw' with q | q
  ·rw[q];exact hw
  ·obtain⟨n,hn,rfl⟩:=List.mem_map.mp q
   have:=qeb (h.2.1 n hn).1 (h.2.1 n hn).2
   omega
theorem qlr (hf:FOk fl) {r:RuleT} (hr:WfR fl r):F.m_told_numbers r=.ok (qff r):=by
 have h:=(qdU hf hr).1
 obtain⟨k,a,b,c,d⟩:=r
 cases k
 case unlike=>rfl
 case rising=>rfl
 case joined=>rfl
 case nosquare=>rfl
 case ring=>rfl
 case total=>exact qgq (by have:((c::b).length)≤18:=h;simp at this ⊢;omega)
 case seen=>exact qgq (by have:((c::b).length)≤18:=h;simp at this ⊢;omega)
 case counted=>exact qgq (by have:((c::d::b).length)≤18:=h;simp at this ⊢;omega)
theorem qqE (hf:FOk fl) {r:RuleT} (hr:WfR fl r):F.Rule_line r=.ok (qaw r):=by
 have h:=qdU hf hr
 unfold F.Rule_line
 rw[qsJ,qlr hf hr]
 simp only[RE.bind_ok]
 rw[gdl (by omega),qfN (g:=dgI) fun c hc=>qem (h.2.1 c hc).1 (h.2.1 c hc).2]
 simp only[RE.bind_ok]
 rw[qgq (by simp;omega)]
 exact qoA hf hr
theorem qfh (hp:WfP p):F.Puzzle_lines p=.ok (p.rules.map qaw):=by
 unfold F.Puzzle_lines
 simp only[RE.bind_ok]
 rw[gdl (by have:=hp.n;omega),qfN (g:=qaw) fun r hr=>qqE hp.f (hp.r r hr)]
theorem qqs (hp:WfP p) {cl:List Int} (hc:qjm p.ground cl):F.Puzzle_clued p cl=.ok ⟨p.ground,p.rules,cl⟩∧WfP ⟨p.ground,p.rules,cl⟩:=by
 unfold F.Puzzle_clued
 rw[qfh hp]
 simp only[RE.bind_ok]
 exact qoV hp.f rfl hp.n hp.r hc
theorem qr7 {s:List Nat} (h:∀c∈s,c<1000):PySem.PyData.strOk ⟨s.toArray⟩=true:=by
 unfold PySem.PyData.strOk
 simp only[List.all_toArray,List.all_eq_true,decide_eq_true_eq]
 intro c hc
 have:=h c hc
 omega
theorem qlN {b s:Nat} (hb:s<b):∀{ws:List (List Nat)},(∀w∈ws,∀c∈w,c<b)→∀c∈TL.joinL [s] ws,c<b
 |[],_=>by simp[TL.joinL]
 |[p],h=>by simpa[TL.joinL] using h p (by simp)
 |p::q::r,h=>by
  intro c hc
  simp only[TL.joinL,List.mem_append,List.mem_cons,List.not_mem_nil,or_false] at hc
  rcases hc with hc | hc | hc
  ·exact h p (by simp) c hc
  ·omega
  ·exact qlN hb (ws:=q::r) (fun w hw=>h w (List.mem_cons_of_mem _ hw)) c hc
theorem qq0:∀w∈wordsL,∀c∈w,c<256:=by decide +kernel
theorem qt8 {x:Int} (h0:0≤x) (h1:x<100):∀c∈dgI x,c<256:=fun c hc=>by
 have:=qlj x.toNat (by omega) c hc
 omega
theorem qnf (hf:FOk fl) {r:RuleT} (hr:WfR fl r):∀c∈qaw r,c<256:=by
 have h:=(qdU hf hr).2.1
 refine qlN (b:=256) (s:=32) (by decide) fun w hw=>?_
 rcases List.mem_cons.mp hw with rfl | hw
 ·exact qq0 _ (qjY r.k)
 ·obtain⟨n,hn,rfl⟩:=List.mem_map.mp hw
  exact qt8 (h n hn).1 (h n hn).2
theorem qgS {k:Nat}:∀{xs:List (List Nat)},(∀x∈xs,∀c∈x,c<256)→D.fits (xs.map eS) k=true
 |[],_=>rfl
 |x::xs,h=>by
  rw[List.map_cons,D.fits,qgS fun y hy=>h y (List.mem_cons_of_mem _ hy)]
  show(PySem.PyData.strOk ⟨x.toArray⟩&&true)=true
  rw[qr7 fun c hc=>by have:=h x (by simp) c hc;omega];rfl
theorem qjI:∀(xs ys:List (List Nat)),D.eqbs (xs.map eS) (ys.map eS)=decide (xs=ys)
 |[],[]=>by simp[D.eqbs]
 |[],_::_=>by simp[D.eqbs]
 |_::_,[]=>by simp[D.eqbs]
 |x::xs,y::ys=>by
  rw[List.map_cons,List.map_cons,D.eqbs,qjI xs ys]
  show(decide (x=y)&&_)=_
  by_cases e:x=y
  ·subst e;simp
  ·simp[e]
theorem qtE {xs ys:List (List Nat)} (hx:∀x∈xs,∀c∈x,c<256) (hy:∀x∈ys,∀c∈x,c<256):evC .eq ((eL eS) xs) ((eL eS) ys)=.ok (decide (xs=ys)):=by
 show(if ((D.lst (xs.map eS)).fit 64&&(D.lst (ys.map eS)).fit 64)=true then RE.ok ((D.lst (xs.map eS)).eqb (D.lst (ys.map eS))) else .bad)=_
 rw[if_pos (by simp[D.fit,qgS hx,qgS hy])]
 rw[D.eqb]
 exact congrArg RE.ok (qjI xs ys)
end Cm
namespace Cm
section
variable {p:PuzT} {ms:List Int} {ws:List (List Nat)} {th:TI}
theorem qur (h:alB p ms th=true):qrA p th.2.2.1 th.2.2.2.1=true∧th.2.2.2.2.length≤2:=by
 unfold alB at h
 split at h
 ·cases h
 ·rename_i k _
  simp only[Bool.and_eq_true] at h
  refine⟨h.1,?_⟩
  have f:=h.2.1
  generalize qd5 p th.2.1=o at f
  cases k<;>unfold qwH at f<;>simp only[qnH,qnC,ql3,qms,qoD,qq8,qjM,qlS,qn3,qon,qod,Bool.and_eq_true,decide_eq_true_eq] at f
  case clue=>rw[f.2];simp
  case count=>rw[f.1];simp
  case step=>rw[f.1];simp
  case sums=>rw[f.1];simp
  case ways=>rw[f.1];simp
  all_goals (cases o<;>simp only[Bool.and_eq_true,decide_eq_true_eq] at f<;>try exact absurd f Bool.false_ne_true)
  case h_2.only.some=>omega
  case h_2.place.some=>omega
  case h_2.square.some=>omega
  case h_2.pair.some=>omega
  case h_2.reach.some=>have:=f.2.1;split at this<;>omega
  case h_2.turn.some =>
   have:=f.2
   split at this
   ·rename_i e;rw[e];simp
   ·simp only[Bool.and_eq_true,decide_eq_true_eq] at this;omega
inductive Run (p:PuzT) (ws:List (List Nat)):List TI→List Int→List Int→Prop
 |nil {ms:List Int}:Run p ws [] ms ms
 |cons {ms left:List Int} {th:TI} {ths:List TI}:nT p ms ws=some th→Run p ws ths (stk ms th.2.2.1 th.2.2.2.1) left→Run p ws (th::ths) ms left
theorem Run.app {a b c:List Int} {xs ys:List TI} (h:Run p ws xs a b) (k:Run p ws ys b c):Run p ws (xs++ys) a c:=by
 induction h with
 |nil=>exact k
 |cons nx _ ih=>exact .cons nx (ih k)
theorem Steps.run {book:List TI} {left:List Int} (h:Steps p ws ms book left):Run p ws book ms left:=by
 induction h with
 |nil=>exact .nil
 |snoc _ nx ih=>exact ih.app (.cons nx .nil)
end
end Cm
namespace Cm
section
variable {p:PuzT} {ms:List Int} {ws:List (List Nat)} {fl:Int × Int × Int}
def qux (fl:Int × Int × Int):Int:=((2 ^ fl.2.2.toNat:Nat):Int) - 1
def qxK (fl:Int × Int × Int) (v:Int):Int:=if 0<v then ((2 ^ (v - 1).toNat:Nat):Int) else qux fl
end
end Cm
namespace Cm
theorem qsq:∀n<100,isI (qm3 (dg n)) n=true:=by decide +kernel
theorem int_ok {n:Int} (h0:0≤n) (h1:n<100):qm3 (dgI n)=.ok n:=by
 have:=qlP (qsq n.toNat (by omega))
 unfold dgI
 rw[this]
 congr 1
 omega
def trn:Nat→Int × Int × Int × Int→Int × Int × Int × Int
 |0,s=>s
 |n+1,s=>trn n (s.2.1,s.1,s.2.2.2,s.1 - 1 - s.2.2.1)
structure InS (s:Int × Int × Int × Int):Prop where
 h:1≤s.1∧s.1≤6
 w:1≤s.2.1∧s.2.1≤6
 r:0≤s.2.2.1∧s.2.2.1<s.1
 c:0≤s.2.2.2∧s.2.2.2<s.2.1
def spS (fl:Int × Int × Int) (mv c:Int):Int × Int × Int × Int:=trn (mv.fmod 4).toNat (fl.1,fl.2.1,c / fl.2.1,if 3<mv then fl.2.1 - 1 - c % fl.2.1 else c % fl.2.1)
def spF (fl:Int × Int × Int) (mv c:Int):Int:=(spS fl mv c).2.2.1*(spS fl mv c).2.1+(spS fl mv c).2.2.2
def grF (fl:Int × Int × Int) (mv:Int):Int × Int × Int:=if mv.fmod 2=1 then (fl.2.1,fl.1,fl.2.2) else fl
section
variable {fl:Int × Int × Int} {mv:Int}
def qxw (fl:Int × Int × Int) (sg:List Int):Prop:=sg.Perm (qmE 1 (fl.2.2+1))
def qxB (fl:Int × Int × Int) (mv:Int) (sg:List Int) (r:RuleT):RuleT:=match r.k with
 |.unlike=>⟨.unlike,grF fl mv,r.cells.map (spF fl mv),0,0⟩
 |.rising=>⟨.rising,grF fl mv,r.cells.map (spF fl mv),0,0⟩
 |.total=>⟨.total,grF fl mv,r.cells.map (spF fl mv),r.wanted,0⟩
 |.seen=>⟨.seen,grF fl mv,r.cells.map (spF fl mv),r.wanted,0⟩
 |.counted=>⟨.counted,grF fl mv,r.cells.map (spF fl mv),r.wanted,gI sg (r.sign - 1)⟩
 |.joined=>⟨.joined,grF fl mv,qer (nC (grF fl mv)).toNat,0,gI sg (r.sign - 1)⟩
 |.nosquare=>⟨.nosquare,grF fl mv,qer (nC (grF fl mv)).toNat,0,gI sg (r.sign - 1)⟩
 |.ring=>⟨.ring,grF fl mv,qer (nC (grF fl mv)).toNat,0,gI sg (r.sign - 1)⟩
variable {r:RuleT} {sg:List Int}
def rcK:RK→Bool
 |.total=>true
 |.rising=>true
 |.seen=>true
 |_=>false
end
end Cm
namespace Cm
section
variable {p:PuzT}
inductive Fol (p:PuzT):List TI→List Int→List Int→Prop
 |nil {ms:List Int}:Fol p [] ms ms
 |cons {ms left:List Int} {th:TI} {ths:List TI}:alB p ms th=true→stB (gI ms th.2.2.1) th.2.2.2.1=true→0∉ms→(∃k:KK,th.1=k.w)→Fol p ths (stk ms th.2.2.1 th.2.2.2.1) left→Fol p (th::ths) ms left
theorem Fol.app {xs ys:List TI} {a b c:List Int} (h:Fol p xs a b) (k:Fol p ys b c):Fol p (xs++ys) a c:=by
 induction h with
 |nil=>exact k
 |cons h1 h2 h3 h4 _ ih=>exact .cons h1 h2 h3 h4 (ih k)
theorem Fol.ok {xs:List TI} {a b:List Int} (h:Fol p xs a b) (hm:MOk p.ground a):MOk p.ground b:=by
 induction h with
 |nil=>exact hm
 |cons h1 h2 h3 _ _ ih=>exact ih (qog hm (qmt.mp (qur h1).1).1 h2)
theorem qs1 (k:KK):¬k.w=[115,117,112,112,111,115,101]:=by cases k<;>decide
end
end Cm
namespace Cm
abbrev THT:Type:=List Nat × Int × Int × Int × List D
def qxv (fo:PuzT→List Int→THT→RE (Option (List Int))) (ae:PuzT) (aj:List Int) (aJ:List D):RE (Option (List Int)):=
 (RE.ok (aj:List Int)).bind fun aq=>Fl.bR ((qbs (List.length aJ:Int)).bind fun y41=>qcn (fun(aA:Int) (s17:List Int)=>((atE aJ aA).bind fun ah=>(F.clashes s17).bind fun k18=>if k18=true then (RE.ok (.rt (none:Option (List Int)))) else (((((RE.ok ae).bind fun x20=>(dTH ah).bind fun x21=>F.is_in_bounds x20 x21).bind fun x22=>RE.ok (!x22)).bind fun k26=>if k26=true then RE.ok true else ((RE.ok ae).bind fun x23=>(RE.ok s17).bind fun x24=>(dTH ah).bind fun x25=>F.is_standing x23 x24 x25)).bind fun k27=>if k27=true then (((RE.ok ae).bind fun x28=>(RE.ok s17).bind fun x29=>(dTH ah).bind fun x30=>fo x28 x29 x30).bind fun br=>(RE.ok br.isSome).bind fun k31=>if k31=true then ((((unO br).bind fun x33=>qhi [aA] x33).bind fun x34=>RE.ok ((some) x34)).bind fun x35=>RE.ok (.rt x35)) else (((RE.ok s17).bind fun x36=>((qme ah 2).bind dI).bind fun x37=>((qme ah 3).bind dI).bind fun x38=>F.struck x36 x37 x38).bind fun aq=>RE.ok (.nx aq))) else (RE.ok (.nx s17))):RE (Fl (Option (List Int)) (List Int)))) y41 aq) fun(p39:List Int)=>(F.clashes p39).bind fun k40=>if k40=true then (RE.ok (none:Option (List Int))) else (RE.ok (some []))
def qxz (fi:PuzT→List Int→List D→RE (Option (List Int))) (ae:PuzT) (aj:List Int) (ah:THT):RE (Option (List Int)):=
 (RE.ok (!decide (ah.1=([115,117,112,112,111,115,101])))).bind fun k1=>if k1=true then ((F.allowed ae aj ah).bind fun k2=>if k2=true then (RE.ok (none:Option (List Int))) else (RE.ok (some []))) else (((RE.ok (!decide (ah.2.1=0))).bind fun k5=>if k5=true then RE.ok true else (((F.is_in_bounds ae ah).bind fun x3=>RE.ok (!x3)).bind fun k4=>if k4=true then RE.ok true else (RE.ok (decide ((List.length ah.2.2.2.2:Int)=0))))).bind fun k6=>if k6=true then (RE.ok (some [])) else ((RE.ok (aj:List Int)).bind fun aq=>((qwd 1 (ah.2.2.2.1 - 1)).bind fun x7=>(RE.ok ah.2.2.1).bind fun x8=>qrt aq x8 x7).bind fun aq=>fi ae aq ah.2.2.2.2))
abbrev SUP:List Nat:=[115,117,112,112,111,115,101]
def fiL (lo:List Int→THT→Bool) (p:PuzT):List D→List Int→Bool
 |[],ms=>decide (0∈ms)
 |d::ds,ms=>if 0∈ms then true else match dTH d with
  |.ok t=>if (qrA p t.2.2.1 t.2.2.2.1 && !stB (gI ms t.2.2.1) t.2.2.2.1)=true then fiL lo p ds ms else if lo ms t=true then fiL lo p ds (stk ms t.2.2.1 t.2.2.2.1) else false
  |_=>false
noncomputable def lb0 (p:PuzT) (ms:List Int) (t:THT):Bool:=match dT5 (dLs dI) t with
 |.ok th=>alB p ms th
 |_=>false
noncomputable def lb (p:PuzT):Nat→List Int→THT→Bool
 |0,ms,t=>lb0 p ms t
 |m+1,ms,t=>if t.1=SUP then (decide (t.2.1=0)&&qrA p t.2.2.1 t.2.2.2.1 && !decide (t.2.2.2.2.length=0)&&fiL (lb p m) p t.2.2.2.2 (ms.set t.2.2.1.toNat ((2 ^ (t.2.2.2.1 - 1).toNat:Nat):Int))) else lb0 p ms t
def PlT (t:THT):Prop:=∃th:TI,t=thD th∧(∃k:KK,th.1=k.w)∧th.2.2.2.2.length≤1000
def Vt:Nat→THT→Prop
 |0,t=>PlT t
 |m+1,t=>PlT t∨(t.1=SUP∧t.2.2.2.2.length≤1000∧∀d∈t.2.2.2.2,∃t',dTH d=.ok t'∧Vt m t')
def qxH (fo:PuzT→List Int→THT→RE (Option (List Int))) (m:Nat):Prop:=∀{p:PuzT},WfP p→∀{ms:List Int},MOk p.ground ms→∀{t:THT},Vt m t→∃o,fo p ms t=.ok o∧o.isNone=lb p m ms t∧∀l,o=some l→l.length≤m
theorem qwt {p:PuzT} {ms:List Int} {th:TI} (m:Nat) (hk:∃k:KK,th.1=k.w):lb p m ms (thD th)=alB p ms th:=by
 have n:¬(thD th).1=SUP:=by
  obtain⟨k,hk⟩:=hk
  show ¬th.1=_
  rw[hk];exact qs1 k
 cases m with
 |zero=>unfold lb lb0;rw[qrr]
 |succ m=>unfold lb;rw[if_neg n];unfold lb0;rw[qrr]
theorem qwu {p:PuzT} {ms:List Int} {m:Nat} {t:THT} (hv:Vt m t) (h:lb p m ms t=true):qrA p t.2.2.1 t.2.2.2.1=true:=by
 have pl:∀m,PlT t→lb p m ms t=true→qrA p t.2.2.1 t.2.2.2.1=true:=fun m ⟨th,e,hk,_⟩ h=>by
  subst e
  rw[qwt m hk] at h
  exact(qur h).1
 cases m with
 |zero=>exact pl 0 hv h
 |succ m =>
  rcases hv with hv | ⟨e,_,_⟩
  ·exact pl _ hv h
  ·unfold lb at h
   rw[if_pos e] at h
   simp only[Bool.and_eq_true] at h
   exact h.1.1.2
section
variable {p:PuzT} {fo:PuzT→List Int→THT→RE (Option (List Int))} {m:Nat}
def qw5 (fo:PuzT→List Int→THT→RE (Option (List Int))) (p:PuzT) (book:List D):Int→List Int→RE (Fl (Option (List Int)) (List Int)):=(fun(aA:Int) (s17:List Int)=>((atE book aA).bind fun ah=>(F.clashes s17).bind fun k18=>if k18=true then (RE.ok (.rt (none:Option (List Int)))) else (((((RE.ok p).bind fun x20=>(dTH ah).bind fun x21=>F.is_in_bounds x20 x21).bind fun x22=>RE.ok (!x22)).bind fun k26=>if k26=true then RE.ok true else ((RE.ok p).bind fun x23=>(RE.ok s17).bind fun x24=>(dTH ah).bind fun x25=>F.is_standing x23 x24 x25)).bind fun k27=>if k27=true then (((RE.ok p).bind fun x28=>(RE.ok s17).bind fun x29=>(dTH ah).bind fun x30=>fo x28 x29 x30).bind fun br=>(RE.ok br.isSome).bind fun k31=>if k31=true then ((((unO br).bind fun x33=>qhi [aA] x33).bind fun x34=>RE.ok ((some) x34)).bind fun x35=>RE.ok (.rt x35)) else (((RE.ok s17).bind fun x36=>((qme ah 2).bind dI).bind fun x37=>((qme ah 3).bind dI).bind fun x38=>F.struck x36 x37 x38).bind fun aq=>RE.ok (.nx aq))) else (RE.ok (.nx s17))):RE (Fl (Option (List Int)) (List Int))))
end
end Cm
namespace Cm
section
variable {p:PuzT}
def Le (a b:List Int):Prop:=∀d,Sb (gI a d) (gI b d)
def qxJ (p:PuzT) (lo:List Int→THT→Bool) (V:THT→Prop):Prop:=∀t,V t→∀ms ms',MOk p.ground ms→MOk p.ground ms'→Le ms' ms→lo ms t=true→lo ms' t=true
end
end Cm
namespace Cm
section
variable {p:PuzT}
inductive FolS (p:PuzT):List THT→List Int→List Int→Prop
 |nil {ms:List Int}:FolS p [] ms ms
 |cons {ms left:List Int} {t:THT} {ts:List THT}:Vt 5 t→lb p 5 ms t=true→stB (gI ms t.2.2.1) t.2.2.2.1=true→0∉ms→FolS p ts (stk ms t.2.2.1 t.2.2.2.1) left→FolS p (t::ts) ms left
theorem FolS.app {xs ys:List THT} {a b c:List Int} (h:FolS p xs a b) (k:FolS p ys b c):FolS p (xs++ys) a c:=by
 induction h with
 |nil=>exact k
 |cons h0 h1 h2 h3 _ ih=>exact .cons h0 h1 h2 h3 (ih k)
theorem FolS.ok {xs:List THT} {a b:List Int} (h:FolS p xs a b) (hm:MOk p.ground a):MOk p.ground b:=by
 induction h with
 |nil=>exact hm
 |cons h0 h1 h2 h3 _ ih=>exact ih (qog hm (qmt.mp (qwu h0 h1)).1 h2)
end
end Cm
namespace Cm
section
variable {p:PuzT} {ms:List Int} {ws:List (List Nat)} {fl:Int × Int × Int}
abbrev KWs (ws:List (List Nat)):Prop:=∀w∈ws,∃k:KK,w=k.w
def thk (p:PuzT) (ms:List Int) (ws:List (List Nat)):List Int × List TI:=match F.think p ms ws with
 |.ok v=>v
 |_=>([],[])
structure Thk (p:PuzT) (ms:List Int) (ws:List (List Nat)):Prop where
 e:F.think p ms ws=.ok (thk p ms ws)
 s:Steps p ws ms (thk p ms ws).2 (thk p ms ws).1
 m:MOk p.ground (thk p ms ws).1
 g:MSg p.ground (thk p ms ws).1
 n:0∈(thk p ms ws).1∨nT p (thk p ms ws).1 ws=none
def qwl (fl:Int × Int × Int):List Int:=(qer (nC fl).toNat).map fun _=>qux fl
def qw7 (ms:List Int):Bool:=ms.all fun m=>decide ((sgn m).length=1)
def fb1 (m:Int):Int:=match sgn m with
 |[s]=>s
 |_=>0
def qxs (p:PuzT) (ws:List (List Nat)):Bool:=qw7 (thk p (qwl p.ground) ws).1&&mtB p ((thk p (qwl p.ground) ws).1.map fb1)
mutual
theorem ql1:∀(d:D) (n:Nat),d.fit n=true→d.eqb d=true
 |.non,_,_=>rfl
 |.bl b,_,_=>by simp[D.eqb]
 |.int i,_,_=>by simp[D.eqb]
 |.str s,_,_=>by simp[D.eqb]
 |.lst xs,n,h=>by
  simp only[D.fit,Bool.and_eq_true] at h
  show D.eqbs xs xs=true
  exact qgJ xs (n - 1) h.2
 |.tup xs,n,h=>by
  simp only[D.fit,Bool.and_eq_true] at h
  show D.eqbs xs xs=true
  exact qgJ xs (n - 1) h.2
 |.ins _ _,_,h=>by simp[D.fit] at h
 |.exc _ _,_,h=>by simp[D.fit] at h
theorem qgJ:∀(xs:List D) (n:Nat),D.fits xs n=true→D.eqbs xs xs=true
 |[],_,_=>rfl
 |x::xs,n,h=>by
  simp only[D.fits,Bool.and_eq_true] at h
  show(D.eqb x x&&D.eqbs xs xs)=true
  rw[ql1 x n h.1,qgJ xs n h.2];rfl
end
mutual
theorem qvn:∀(d:D) (n m:Nat),d.fit n=true→n≤m→d.fit m=true
 |.non,_,_,_,_=>rfl
 |.bl _,_,_,_,_=>rfl
 |.int _,_,_,_,_=>rfl
 |.str _,_,_,h,_=>h
 |.lst xs,n,m,h,hm=>by
  simp only[D.fit,Bool.and_eq_true,decide_eq_true_eq] at h ⊢
  exact⟨by omega,qkH xs (n - 1) (m - 1) h.2 (by omega)⟩
 |.tup xs,n,m,h,hm=>by
  simp only[D.fit,Bool.and_eq_true,decide_eq_true_eq] at h ⊢
  exact⟨by omega,qkH xs (n - 1) (m - 1) h.2 (by omega)⟩
 |.ins _ _,_,_,h,_=>by simp[D.fit] at h
 |.exc _ _,_,_,h,_=>by simp[D.fit] at h
theorem qkH:∀(xs:List D) (n m:Nat),D.fits xs n=true→n≤m→D.fits xs m=true
 |[],_,_,_,_=>rfl
 |x::xs,n,m,h,hm=>by
  simp only[D.fits,Bool.and_eq_true] at h ⊢
  exact⟨qvn x n m h.1 hm,qkH xs n m h.2 hm⟩
end
theorem qm5 {d:D} (h:d.fit 64=true):evC .eq d d=.ok true:=by
 show qlO d d=_
 unfold qlO
 split
 ·simp
 ·simp
 ·simp
 ·rw[h];simp only[Bool.and_self,if_true];rw[ql1 d 64 h]
theorem qm7 {d:D} (h:d.fit 64=true):evC .ne d d=.ok false:=by
 show(qlO d d).bind _=_
 have:=qm5 h
 have this:qlO d d=.ok true:=this
 rw[this];rfl
end
end Cm
namespace Cm
section
variable {p:PuzT} {ws:List (List Nat)} {cl:List Int} {fl:Int × Int × Int} {order:List Int}
abbrev pc (p:PuzT) (cl:List Int):PuzT:=⟨p.ground,p.rules,cl⟩
def wo (cl:List Int) (c:Int):List Int:=cl.set c.toNat 0
def tkS (p:PuzT) (ws:List (List Nat)) (cl:List Int) (c:Int):List Int:=if gI cl c≠0∧qxs (pc p (wo cl c)) ws=true then wo cl c else cl
def tkL (p:PuzT) (ws:List (List Nat)) (order:List Int):List Int:=order.foldl (tkS p ws) p.clues
def qvN (p:PuzT) (ws:List (List Nat)) (cl:List Int) (c:Int):List Int:=(thk (pc p (wo cl c)) (qwl p.ground) ws).1
def qxd (p:PuzT) (ws:List (List Nat)) (cl:List Int) (order:List Int):List (Int × List Int):=((qmW order).filter fun c=>!decide (gI cl c=0)).map fun c=>(c,qvN p ws cl c)
end
end Cm
namespace Cm
section
variable {p:PuzT} {ms:List Int} {ws:List (List Nat)} {c s n:Int}
structure MoreP (p p':PuzT):Prop where
 g:p'.ground=p.ground
 r:p'.rules=p.rules
 c:∀c,inC p.ground c→gI p.clues c=0∨gI p'.clues c=gI p.clues c
theorem MoreP.refl (p:PuzT):MoreP p p:=⟨rfl,rfl,fun _ _=>.inr rfl⟩
theorem le_refl (a:List Int):Le a a:=fun d=>Sb.refl _
end
end Cm
namespace Cm
section
variable {α:Type} {k j:Int} {x:α}
theorem qmk:∀{m:List (Int × α)},qd3 k (qtB j x m)=if k=j then (qd3 j m).map (fun _=>x) else qd3 k m
 |[]=>by
  show none=_
  split<;>rfl
 |e::m=>by
  have ih:=qmk (m:=m)
  unfold qtB at ih ⊢
  rw[List.map_cons]
  by_cases q:e.1=j
  ·rw[if_pos q]
   unfold qd3
   by_cases z:k=j
   ·rw[if_pos (by rw[q,z]),if_pos z,if_pos q];rfl
   ·rw[if_neg (by rw[q];exact fun h=>z h.symm),if_neg z,if_neg (by rw[q];exact fun h=>z h.symm),ih,if_neg z]
  ·rw[if_neg q]
   unfold qd3
   by_cases z:e.1=k
   ·rw[if_pos z,if_pos z]
    have n:k≠j:=fun h=>q (z.trans h)
    rw[if_neg n]
   ·rw[if_neg z,if_neg z,ih,if_neg q]
theorem qkw:∀{m:List (Int × α)},qd3 j m=none→qd3 k (m++[(j,x)])=if k=j then some x else qd3 k m
 |[],_=>by
  show(if j=k then some x else none)=_
  by_cases z:k=j
  ·rw[if_pos z,if_pos z.symm]
  ·rw[if_neg z,if_neg fun h=>z h.symm];rfl
 |e::m,h=>by
  unfold qd3 at h
  by_cases q:e.1=j
  ·rw[if_pos q] at h;cases h
  ·rw[if_neg q] at h
   have ih:=qkw h
   rw[List.cons_append]
   unfold qd3
   by_cases z:e.1=k
   ·rw[if_pos z,if_pos z,if_neg fun h=>q (z.trans h)]
   ·rw[if_neg z,if_neg z,ih]
theorem qqY {m:List (Int × α)}:qd3 k (dput j x m)=if k=j then some x else qd3 k m:=by
 unfold dput
 cases h:qd3 j m with
 |none=>exact qkw h
 |some y =>
  rw[if_pos (show(some y).isSome=true from rfl),qmk,h];rfl
theorem qlh {m:List (Int × α)} (h:(qd3 j m).isSome=true):(dput j x m).length=m.length:=by
 unfold dput qtB
 rw[if_pos h,List.length_map]
theorem qp3 {m:List (Int × α)} (h:m.length<16777216):qkc m k x=.ok (dput k x m):=qjk (qnD (by have:LIM=16777216:=rfl;omega))
theorem qqG {m:List (Int × α)} (h:qd3 k m=some x):qi6 m k=.ok x:=by unfold qi6;rw[h]
end
end Cm
namespace Cm
section
variable {fl:Int × Int × Int} {cs:List Int} {m:List (Int × Int)} {g g0:Int→Int} {k c o x:Int}
def Mk (cs:List Int) (m:List (Int × Int)) (g:Int→Int):Prop:=(∀k,qd3 k m=if k∈cs then some (g k) else none)∧m.length≤100
theorem Mk.get (h:Mk cs m g) (hk:k∈cs):qi6 m k=.ok (g k):=qqG (by rw[h.1,if_pos hk])
theorem Mk.put (h:Mk cs m g) (hk:k∈cs):qkc m k x=.ok (dput k x m)∧Mk cs (dput k x m) (fun j=>if j=k then x else g j):=by
 have hs:(qd3 k m).isSome=true:=by rw[h.1,if_pos hk];rfl
 refine⟨qp3 (by have:=h.2;omega),fun j=>?_,by rw[qlh hs];exact h.2⟩
 rw[qqY,h.1]
 by_cases e:j=k
 ·subst e
  rw[if_pos rfl]
  show some x=if j∈cs then some (if j=j then x else g j) else none
  rw[if_pos hk,if_pos rfl]
 ·rw[if_neg e]
  show _=if j∈cs then some (if j=k then x else g j) else none
  rw[if_neg e]
def Pg (fl:Int × Int × Int) (cs:List Int) (g0:Int→Int) (Q:Int→Int→Prop) (m:List (Int × Int)):Prop:=∃g,Mk cs m g∧(∀x∈cs,g x≤g0 x∧Rch fl cs x (g x))∧∀a b,Q a b→a∈cs→b∈cs→g a≤g0 b∧g b≤g0 a
theorem Pg.sub {Q Q':Int→Int→Prop} (h:Pg fl cs g0 Q m) (k:∀a b,a∈cs→b∈cs→Q' a b→Q a b):Pg fl cs g0 Q' m:=by
 obtain⟨g,h1,h2,h3⟩:=h
 exact⟨g,h1,h2,fun a b q ha hb=>h3 a b (k a b ha hb q) ha hb⟩
theorem Pg.edge {Q:Int→Int→Prop} (hf:FOk fl) (hi:∀x∈cs,inC fl x) (h:Pg fl cs g0 Q m) (hc:c∈cs) (ho:o∈cs) (hn:o∈qf7 fl c) :
  W (((qi6 m c).bind fun x113=>(qi6 m o).bind fun x114=>RE.ok (if x114<x113 then x114 else x113)).bind fun aY=>(qkc m c aY).bind fun bg=>(qkc bg o aY).bind fun bg=>RE.ok bg) (Pg fl cs g0 fun a b=>Q a b∨(a=c∧b=o)):=by
 obtain⟨g,h1,h2,h3⟩:=h
 rw[h1.get hc,h1.get ho]
 simp only[RE.bind_ok]
 have rco:Rch fl cs c o:=.step (.base hc) hn ho
 have roc:Rch fl cs o c:=rco.symm hf hi
 have low:∃lo,(if g o<g c then g o else g c)=lo∧lo≤g o∧lo≤g c∧Rch fl cs c lo∧Rch fl cs o lo:=by
  by_cases q:g o<g c
  ·exact⟨g o,if_pos q,Int.le_refl _,by omega,rco.trans (h2 o ho).2,(h2 o ho).2⟩
  ·exact⟨g c,if_neg q,by omega,Int.le_refl _,(h2 c hc).2,roc.trans (h2 c hc).2⟩
 obtain⟨lo,e,l1,l2,l3,l4⟩:=low
 rw[e]
 obtain⟨p1,m1⟩:=h1.put (x:=lo) hc
 rw[p1]
 simp only[RE.bind_ok]
 obtain⟨p2,m2⟩:=m1.put (x:=lo) ho
 rw[p2]
 have le:∀x∈cs,(fun j=>if j=o then lo else (fun j=>if j=c then lo else g j) j) x≤g x:=fun x hx=>by
  show(if x=o then lo else if x=c then lo else g x)≤g x
  split
  ·rename_i e;rw[e];exact l1
  ·split
   ·rename_i e;rw[e];exact l2
   ·exact Int.le_refl _
 refine W.ok ⟨_,m2,fun x hx=>⟨Int.le_trans (le x hx) (h2 x hx).1,?_⟩,fun a b q ha hb=>?_⟩
 ·show Rch fl cs x (if x=o then lo else if x=c then lo else g x)
  split
  ·rename_i e;rw[e];exact l4
  ·split
   ·rename_i e;rw[e];exact l3
   ·exact(h2 x hx).2
 ·rcases q with q | ⟨rfl,rfl⟩
  ·have:=h3 a b q ha hb
   exact⟨Int.le_trans (le a ha) this.1,Int.le_trans (le b hb) this.2⟩
  ·have e1:(if a=b then lo else if a=a then lo else g a)=lo:=by
    split
    ·rfl
    ·rw[if_pos rfl]
   have e2:(if b=b then lo else if b=a then lo else g b)=lo:=if_pos rfl
   show(if a=b then lo else if a=a then lo else g a)≤g0 b∧(if b=b then lo else if b=a then lo else g b)≤g0 a
   rw[e1,e2]
   exact⟨Int.le_trans l1 (h2 b hb).1,Int.le_trans l2 (h2 a ha).1⟩
theorem Pg.others {Q:Int→Int→Prop} (hf:FOk fl) (hi:∀x∈cs,inC fl x) (h:Pg fl cs g0 Q m) (hc:c∈cs) {os:List Int} (hn:∀o∈os,o∈cs→o∈qf7 fl c) :
  W (qam (fun(b5:Int) (s105:List (Int × Int))=>(if ((qd3 b5 s105).isSome == true)=true then (((qi6 s105 c).bind fun x113=>(qi6 s105 b5).bind fun x114=>RE.ok (if x114<x113 then x114 else x113)).bind fun aY=>(qkc s105 c aY).bind fun bg=>(qkc bg b5 aY).bind fun bg=>RE.ok bg) else (RE.ok s105)).bind fun(p119:List (Int × Int))=>RE.ok p119) os m) (Pg fl cs g0 fun a b=>Q a b∨(a=c∧b∈os)):=by
 refine W.mono (qdQ (fun i=>Pg fl cs g0 fun a b=>Q a b∨(a=c∧b∈os.take i)) (h.sub fun a b _ _ q=>?_) fun i o m hx h=>?_) fun m h=>by rw[List.take_length] at h;exact h
 ·rcases q with q | q
  ·exact q
  ·simp at q
 have tk:os.take (i+1)=os.take i++[o]:=by rw[List.take_add_one,hx];rfl
 have mo:=List.mem_of_getElem? hx
 refine W.bind (P:=Pg fl cs g0 fun a b=>Q a b∨(a=c∧b∈os.take (i+1))) ?_ fun m' h'=>W.ok h'
 have hs:(qd3 o m).isSome=decide (o∈cs):=by
  obtain⟨g,h1,_⟩:=h
  rw[h1.1]
  by_cases q:o∈cs
  ·rw[if_pos q,decide_eq_true q];rfl
  ·rw[if_neg q,decide_eq_false q];rfl
 rw[hs]
 by_cases q:o∈cs
 ·rw[decide_eq_true q,if_pos (show(true == true)=true from rfl)]
  refine W.mono (h.edge hf hi hc q (hn o mo q)) fun m' h'=>h'.sub fun a b _ _ z=>?_
  rcases z with z | ⟨z1,z2⟩
  ·exact .inl (.inl z)
  ·rw[tk] at z2
   rcases List.mem_append.mp z2 with w | w
   ·exact .inl (.inr ⟨z1,w⟩)
   ·exact .inr ⟨z1,List.mem_singleton.mp w⟩
 ·rw[decide_eq_false q,if_neg (by decide)]
  refine W.ok (h.sub fun a b _ hb z=>?_)
  rcases z with z | ⟨z1,z2⟩
  ·exact .inl z
  ·rw[tk] at z2
   rcases List.mem_append.mp z2 with w | w
   ·exact .inr ⟨z1,w⟩
   ·rw[List.mem_singleton.mp w] at hb
    exact absurd hb q
def nbL (w c:Int):List Int:=[c+w]++(if 0<(c+1).fmod w then [c+1] else [])
end
end Cm
namespace Cm
theorem qjv {s:List Nat} {ws:List (List Nat)} (h:(ws.map List.length).sum+ws.length*s.length≤16777216):qee s ws=.ok (TL.joinL s ws):=by
 unfold qee
 rw[qjk (qnD h)]
 have:=SX.join_S s ws
 show RE.ok ((PySem.Txt.join (SX.S s) (ws.map SX.S)).cps.toList)=_
 rw[this]
theorem qh3 {x sep:List Nat} {ws:List (List Nat)} (hl:x.length≤1000000) (hs:sep≠[]) (hk:sep.all (· < 256)=true) (e:TL.spl sep 0 [] x=ws):qcE x sep=.ok ws:=by
 unfold qcE
 have h:=SX.split_S (a:=x) (b:=sep) hs hk
 have e2:(PySem.Txt.split (qaA x) (qaA sep))=ws.map SX.S:=by rw[←e];exact h
 rw[e2,List.map_map]
 have:ws.map ((fun z:PySem.Str=>z.cps.toList) ∘ SX.S)=ws.map id:=List.map_congr_left fun w _=>rfl
 rw[this,List.map_id,qjk]
 rw[qa5]
 have l:LIM=16777216:=rfl
 exact⟨fun z=>hs (List.length_eq_zero_iff.mp z),by omega⟩
theorem qeo {P:Nat→Prop} {s:List Nat} (hs:∀c∈s,P c):∀{ws:List (List Nat)},(∀w∈ws,∀c∈w,P c)→∀c∈TL.joinL s ws,P c
 |[],_=>by simp[TL.joinL]
 |[p],h=>by simpa[TL.joinL] using h p (by simp)
 |p::q::r,h=>by
  intro c hc
  simp only[TL.joinL,List.mem_append] at hc
  rcases hc with hc | hc | hc
  ·exact h p (by simp) c hc
  ·exact hs c hc
  ·exact qeo hs (ws:=q::r) (fun w hw=>h w (List.mem_cons_of_mem _ hw)) c hc
theorem qhV (s:List Nat):∀ws:List (List Nat),(TL.joinL s ws).length≤(ws.map List.length).sum+ws.length*s.length
 |[]=>by simp[TL.joinL]
 |[p]=>by simp[TL.joinL]
 |p::q::r=>by
  have:=qhV s (q::r)
  simp only[TL.joinL,List.length_append,List.map_cons,List.sum_cons,List.length_cons,Nat.add_mul,Nat.one_mul] at this ⊢
  omega
theorem qrm {f:Int→Nat}:∀xs:List Int,TL.joinL [] (xs.map fun c=>[f c])=xs.map f
 |[]=>rfl
 |[_]=>rfl
 |x::y::r=>by
  have:=qrm (f:=f) (y::r)
  simp only[List.map_cons] at this ⊢
  simp only[TL.joinL,List.nil_append] at this ⊢
  rw[this];rfl
theorem qnX {p rest:List Nat} (h:124∉p):∀i,i<p.length→TL.pre [32,124,32] ((p++([32,124,32]++rest)).drop i)=false:=fun i hi=>by
 cases e:TL.pre [32,124,32] ((p++([32,124,32]++rest)).drop i) with
 |false=>rfl
 |true =>
  unfold TL.pre at e
  have e:((p++([32,124,32]++rest)).drop i).take 3=[32,124,32]:=by simpa using e
  have e1:=congrArg (fun l:List Nat=>l[1]?) e
  simp only[List.getElem?_take,List.getElem?_drop] at e1
  rw[if_pos (by decide)] at e1
  by_cases q:i+1<p.length
  ·rw[List.getElem?_append_left q] at e1
   have:=List.mem_of_getElem? e1
   exact absurd this h
  ·rw[List.getElem?_append_right (by omega),show i+1 - p.length=0 by omega] at e1
   cases e1
theorem quZ {p:List Nat} (h:124∉p):∀i,i<p.length→TL.pre [32,124,32] (p.drop i)=false:=fun i hi=>by
 cases e:TL.pre [32,124,32] (p.drop i) with
 |false=>rfl
 |true =>
  unfold TL.pre at e
  have e:(p.drop i).take 3=[32,124,32]:=by simpa using e
  have e1:=congrArg (fun l:List Nat=>l[1]?) e
  simp only[List.getElem?_take,List.getElem?_drop] at e1
  rw[if_pos (by decide)] at e1
  exact absurd (List.mem_of_getElem? e1) h
theorem qxn {a b c:List Nat} (ha:124∉a) (hb:124∉b) (hc:124∉c):TL.spl [32,124,32] 0 [] (a++([32,124,32]++(b++([32,124,32]++c))))=[a,b,c]:=by
 rw[TL.spl_part (by decide) (qnX ha),TL.spl_part (by decide) (qnX hb),TL.spl_last (quZ hc)]
 rfl
theorem qr0 {α:Type} {xs:List α} {a b:Int} (h0:0≤a) (h1:a≤b) (h2:b≤xs.length):qe5 xs (some a) (some b)=(xs.drop a.toNat).take (b.toNat - a.toNat):=by
 have e1:HT.sIx xs.length 0 (some a)=a.toNat:=by
  have:=HT.sIx_nat xs.length 0 a.toNat
  rw[show((a.toNat:Nat):Int)=a by omega] at this
  rw[this];omega
 have e2:HT.sIx xs.length xs.length (some b)=b.toNat:=by
  have:=HT.sIx_nat xs.length xs.length b.toNat
  rw[show((b.toNat:Nat):Int)=b by omega] at this
  rw[this];omega
 unfold qe5
 rw[e1,e2]
def MK:List Nat:=[46,49,50,51,52,53,54]
def mkT (s:Int):Nat:=MK.getD s.toNat 46
theorem six {s:Int} (h0:0≤s) (h1:s≤6):s=0∨s=1∨s=2∨s=3∨s=4∨s=5∨s=6:=by omega
theorem quH {s:Int} (h0:0≤s) (h1:s≤6):qpx [46,49,50,51,52,53,54] s=.ok (mkT s):=by
 rcases six h0 h1 with e | e | e | e | e | e | e<;>subst e<;>rfl
theorem qsD:∀x<7,isI (qj3 [46,49,50,51,52,53,54] [MK.getD x 46]) x=true:=by decide +kernel
theorem qvv {s:Int} (h0:0≤s) (h1:s≤6):qj3 [46,49,50,51,52,53,54] [mkT s]=.ok s:=by
 have:=qlP (qsD s.toNat (by omega))
 rw[show((s.toNat:Nat):Int)=s by omega] at this
 exact this
theorem qt9 {g:Int} (h0:1≤g) (h1:g≤6):qmQ [46,49,50,51,52,53,54] none (some (g+1))=.ok (MK.take (g+1).toNat):=by
 rcases six (by omega) h1 with e | e | e | e | e | e | e<;>subst e<;>first | omega | rfl
theorem qwi {g s:Int} (h0:0≤s) (h1:s≤g) (h2:g≤6):mkT s∈MK.take (g+1).toNat:=by
 have l:s.toNat<(MK.take (g+1).toNat).length:=by rw[List.length_take];have:MK.length=7:=rfl;omega
 have e:mkT s=(MK.take (g+1).toNat)[s.toNat]:=by
  unfold mkT
  rw[List.getElem_take,List.getD_eq_getElem?_getD,List.getElem?_eq_getElem (by have:MK.length=7:=rfl;omega)];rfl
 rw[e]
 exact List.getElem_mem l
theorem quy (s:Int):mkT s∈MK:=by
 unfold mkT
 rw[List.getD_eq_getElem?_getD]
 by_cases h:s.toNat<MK.length
 ·rw[List.getElem?_eq_getElem h];exact List.getElem_mem h
 ·rw[List.getElem?_eq_none (by omega)];decide
def qlu (fl:Int × Int × Int) (cl:List Int) (k:Nat):List Nat:=((cl.drop (k*fl.2.1.toNat)).take fl.2.1.toNat).map mkT
def qfQ (fl:Int × Int × Int) (cl:List Int):List (List Nat):=(List.range fl.1.toNat).map (qlu fl cl)
def fiT (fl:Int × Int × Int) (cl:List Int):List Nat:=TL.joinL [47] (qfQ fl cl)
section
variable {fl:Int × Int × Int} {cl:List Int}
theorem qgQ (hf:FOk fl) (hc:qjm fl cl):cl.length=fl.1.toNat*fl.2.1.toNat∧fl.1.toNat≤6∧fl.2.1.toNat≤6∧1≤fl.1.toNat∧1≤fl.2.1.toNat∧cl.length≤16:=by
 have h1:=hf.h1;have h2:=hf.h2;have w1:=hf.w1;have w2:=hf.w2;have n:=hf.n
 have e:=hc.1
 obtain⟨h,eh⟩:∃h:Nat,fl.1=h:=⟨fl.1.toNat,by omega⟩
 obtain⟨w,ew⟩:∃w:Nat,fl.2.1=w:=⟨fl.2.1.toNat,by omega⟩
 have e:(cl.length:Int)=fl.1*fl.2.1:=e
 rw[eh,ew] at e n
 rw[eh,ew]
 simp only[Int.toNat_natCast]
 have e2:cl.length=h*w:=by exact_mod_cast e
 have n2:h*w≤16:=by exact_mod_cast n
 omega
theorem qmB (hf:FOk fl) (hc:qjm fl cl) {k:Nat} (hk:k<fl.1.toNat) {a b:Int} (ha:a=(k:Int)*fl.2.1) (hb:b=(k:Int)*fl.2.1+fl.2.1):qe5 cl (some a) (some b)=(cl.drop (k*fl.2.1.toNat)).take fl.2.1.toNat:=by
 obtain⟨e,h6,w6,h1,w1,_⟩:=qgQ hf hc
 have w0:=hf.w1
 obtain⟨w,ew⟩:∃w:Nat,fl.2.1=w:=⟨fl.2.1.toNat,by omega⟩
 rw[ew] at ha hb e ⊢
 simp only[Int.toNat_natCast] at e ⊢
 have le:k*w+w≤fl.1.toNat*w:=by
  have:=Nat.mul_le_mul_right w (show k+1≤fl.1.toNat from hk)
  rw[Nat.add_mul,Nat.one_mul] at this
  exact this
 have a2:a=((k*w:Nat):Int):=by rw[ha];push_cast;rfl
 have b2:b=((k*w+w:Nat):Int):=by rw[hb];push_cast;rfl
 rw[qr0 (by omega) (by omega) (by omega),a2,b2,Int.toNat_natCast,Int.toNat_natCast,Nat.add_sub_cancel_left]
theorem qiv (hc:qjm fl cl) (k:Nat):∀x∈(cl.drop (k*fl.2.1.toNat)).take fl.2.1.toNat,0≤x∧x≤fl.2.2:=fun x hx=>hc.2 x (List.mem_of_mem_drop (List.mem_of_mem_take hx))
theorem qfo (hf:FOk fl) (hc:qjm fl cl) {k:Nat} (hk:k<fl.1.toNat):((cl.drop (k*fl.2.1.toNat)).take fl.2.1.toNat).length=fl.2.1.toNat:=by
 obtain⟨e,h6,w6,h1,w1,_⟩:=qgQ hf hc
 have:=Nat.mul_le_mul_right fl.2.1.toNat (show k+1≤fl.1.toNat from hk)
 rw[Nat.add_mul,Nat.one_mul] at this
 rw[List.length_take,List.length_drop]
 omega
theorem qlC (hf:FOk fl) (hc:qjm fl cl):∀r∈qfQ fl cl,r.length≤6:=fun r hr=>by
 obtain⟨k,hk,rfl⟩:=List.mem_map.mp hr
 obtain⟨e,h6,w6,_⟩:=qgQ hf hc
 unfold qlu
 rw[List.length_map,qfo hf hc (List.mem_range.mp hk)]
 exact w6
theorem qlU:(qfQ fl cl).length=fl.1.toNat:=by unfold qfQ;rw[List.length_map,List.length_range]
theorem qnm:∀r∈qfQ fl cl,∀c∈r,c∈MK:=fun r hr c hc=>by
 obtain⟨k,_,rfl⟩:=List.mem_map.mp hr
 obtain⟨s,_,rfl⟩:=List.mem_map.mp hc
 exact quy s
theorem qfv (hf:FOk fl) (hc:qjm fl cl):qee [47] (qfQ fl cl)=.ok (fiT fl cl)∧(fiT fl cl).length≤100:=by
 obtain⟨e,h6,_⟩:=qgQ hf hc
 have l:=qlU (fl:=fl) (cl:=cl)
 refine⟨qgg (b:=6) (qlC hf hc) (by omega),?_⟩
 have a:=qdt 47 (qfQ fl cl)
 have b:=qfu (qlC hf hc)
 have e:(fiT fl cl).length=(TL.joinL [47] (qfQ fl cl)).length:=rfl
 omega
theorem qsB (hf:FOk fl) (hc:qjm fl cl):F.show_filling fl cl=.ok (fiT fl cl):=by
 obtain⟨e,h6,w6,h1,w1,l16⟩:=qgQ hf hc
 have s2:=hf.s2
 have hh:=hf.h2
 have hh1:=hf.h1
 unfold F.show_filling
 simp only[RE.bind_ok]
 rw[qc7 (by omega) (by omega)]
 simp only[RE.bind_ok]
 refine W.eq (W.bind (P:=fun L=>L=qfQ fl cl) ?_ fun L hL=>W.of (hL ▸ (qfv hf hc).1) rfl)
 refine W.mono (qdQ (fun i s=>s=(List.range i).map (qlu fl cl)) rfl fun i x s hx hs=>?_) fun L h=>by rw[h,qbZ];rfl
 obtain⟨rfl,hi⟩:=qgh hx
 rw[qfr (by omega)]
 simp only[RE.bind_ok]
 rw[qmB hf hc hi rfl rfl]
 have sl:=qfo hf hc hi
 have si:=qiv hc i
 rw[gdl (by omega),qfN (g:=fun s=>[mkT s]) fun s hs=>by
  have:=si s hs
  rw[quH this.1 (by omega)];rfl]
 simp only[RE.bind_ok]
 have jl:((((cl.drop (i*fl.2.1.toNat)).take fl.2.1.toNat).map fun s=>[mkT s]).map List.length).sum≤16*1:=by
  have:=qfu (ws:=((cl.drop (i*fl.2.1.toNat)).take fl.2.1.toNat).map fun s=>[mkT s]) (b:=1) fun w hw=>by
   obtain⟨_,_,rfl⟩:=List.mem_map.mp hw
   exact Nat.le_refl _
  rw[List.length_map] at this
  omega
 rw[qjv (by simp only[List.length_nil,Nat.mul_zero];omega),qrm]
 simp only[RE.bind_ok]
 have ls:s.length=i:=by rw[hs,List.length_map,List.length_range]
 rw[qhh (by omega)]
 refine W.ok ?_
 rw[List.range_succ,List.map_append,←hs];rfl
theorem qhY {g:Int} (g1:1≤g) (g6:g≤6):∀(xs s:List Int),(∀x∈xs,0≤x∧x≤g)→s.length+xs.length≤1000 →
  qam (fun(bf:Nat) (s28:List Int)=>((qmQ ([46,49,50,51,52,53,54]) none (some (g+1))).bind fun x30=>RE.ok (!decide (bf∈x30))).bind fun k31=>if k31=true then RE.exc 32 [] else (((qj3 ([46,49,50,51,52,53,54]) [bf]).bind fun x32=>qez s28 x32).bind fun ao=>RE.ok ao)) (xs.map mkT) s=.ok (s++xs)
 |[],s,_,_=>by simp[qam]
 |x::xs,s,h,hl=>by
  have hx:=h x (by simp)
  rw[List.length_cons] at hl
  have ih:=qhY g1 g6 xs (s++[x]) (fun y hy=>h y (List.mem_cons_of_mem _ hy)) (by rw[List.length_append,List.length_singleton];omega)
  have one:(((qmQ ([46,49,50,51,52,53,54]) none (some (g+1))).bind fun x30=>RE.ok (!decide (mkT x∈x30))).bind fun k31=>if k31=true then RE.exc 32 [] else (((qj3 ([46,49,50,51,52,53,54]) [mkT x]).bind fun x32=>qez s x32).bind fun ao=>RE.ok ao))=RE.ok (s++[x]):=by
   rw[qt9 g1 g6]
   simp only[RE.bind_ok]
   rw[decide_eq_true (qwi hx.1 hx.2 g6),qvv hx.1 (by omega)]
   simp only[RE.bind_ok,Bool.not_true,Bool.false_eq_true,if_false]
   rw[qhh (by omega)]
   rfl
  rw[List.map_cons,qam,one]
  refine Eq.trans ih ?_
  rw[List.append_assoc]
  rfl
theorem qtm (hf:FOk fl) (hc:qjm fl cl):F.read_filling fl (eS (fiT fl cl))=.ok cl:=by
 obtain⟨e,h6,w6,h1,w1,l16⟩:=qgQ hf hc
 have s1:=hf.s1;have s2:=hf.s2;have hh1:=hf.h1;have ww1:=hf.w1
 have rl:=qlU (fl:=fl) (cl:=cl)
 unfold F.read_filling
 have ty:tyE (eD (eS (fiT fl cl))) .str=.ok true:=rfl
 rw[ty]
 simp only[RE.bind_ok,Bool.not_true,Bool.false_eq_true,if_false]
 have ds:dS (eS (fiT fl cl))=.ok (fiT fl cl):=rfl
 rw[ds]
 simp only[RE.bind_ok]
 have sp:qcE (fiT fl cl) [47]=.ok (qfQ fl cl):=qgM (b:=6) (qlC hf hc) (by omega) (by decide) (fun z=>by rw[z] at rl;simp at rl;omega) fun r hr hm=>by
  have:=qnm r hr 47 hm
  revert this;decide
 rw[sp]
 simp only[RE.bind_ok]
 have q:((qfQ fl cl).length:Int)=fl.1:=by omega
 rw[decide_eq_true q]
 simp only[Bool.not_true,Bool.false_eq_true,if_false]
 refine W.eq (W.bind (P:=fun L=>L=cl) ?_ fun L hL=>by rw[hL];exact W.ok rfl)
 refine W.mono (qdQ (fun i s=>s=cl.take (i*fl.2.1.toNat)) (by simp) fun i r s hx hs=>?_) fun L h=>by rw[h,rl,←e,List.take_length]
 have hi:=(List.getElem?_eq_some_iff.mp hx).1
 rw[rl] at hi
 have er:r=qlu fl cl i:=by
  unfold qfQ at hx
  rw[List.getElem?_map,List.getElem?_range hi] at hx
  exact(Option.some.inj hx).symm
 have sl:=qfo hf hc hi
 have len:r.length=fl.2.1.toNat:=by rw[er];unfold qlu;rw[List.length_map,sl]
 have ln:qjX r=.ok (r.length:Int):=qjk (qnD (by have:LIM=16777216:=rfl;omega))
 rw[ln]
 simp only[RE.bind_ok]
 rw[decide_eq_true (show(r.length:Int)=fl.2.1 by omega)]
 simp only[Bool.not_true,Bool.false_eq_true,if_false]
 rw[er]
 unfold qlu
 have ls:s.length≤16:=by rw[hs,List.length_take];omega
 rw[qhY s1 s2 _ s (qiv hc i) (by omega)]
 refine W.ok ?_
 rw[hs,Nat.add_mul,Nat.one_mul,List.take_add]
end
theorem qus:∀n<100,isI (F.read_number (dg n)) n=true:=by decide +kernel
theorem qjh {n:Int} (h0:0≤n) (h1:n<100):F.read_number (dgI n)=.ok n:=by
 obtain⟨k,rfl⟩:∃k:Nat,n=k:=⟨n.toNat,by omega⟩
 have:=qlP (qus k (by omega))
 simpa[dgI] using this
def qfP (fl:Int × Int × Int):List Nat:=TL.joinL [32] [dgI fl.1,dgI fl.2.1,dgI fl.2.2]
def qtU (fl:Int × Int × Int) (ls:List (List Nat)) (cl:List Int):List Nat:=(((qfP fl++[32,124,32])++TL.joinL [59,32] ls)++[32,124,32])++fiT fl cl
def PlC (c:Nat):Prop:=c=32∨(48≤c∧c<58)∨(97≤c∧c<123)
theorem qpj:∀w∈wordsL,∀c∈w,97≤c∧c<123:=by decide +kernel
theorem qmg {x:Int} (h0:0≤x) (h1:x<100):∀c∈dgI x,48≤c∧c<58:=fun c hc=>qlj x.toNat (by omega) c hc
section
variable {fl:Int × Int × Int} {cl:List Int} {rs:List RuleT}
theorem qnq (hf:FOk fl) {r:RuleT} (hr:WfR fl r):∀c∈qaw r,PlC c:=by
 have h:=(qdU hf hr).2.1
 refine qeo (P:=PlC) (fun c hc=>.inl (List.mem_singleton.mp hc)) fun w hw=>?_
 rcases List.mem_cons.mp hw with rfl | hw
 ·exact fun c hc=>.inr (.inr (qpj _ (qjY r.k) c hc))
 ·obtain⟨n,hn,rfl⟩:=List.mem_map.mp hw
  exact fun c hc=>.inr (.inl (qmg (h n hn).1 (h n hn).2 c hc))
theorem qq4 (hf:FOk fl) {r:RuleT} (hr:WfR fl r):(qaw r).length≤200:=by
 obtain⟨h0,h,_⟩:=qdU hf hr
 have b:∀w∈r.k.w::(qff r).map dgI,w.length≤8:=fun w hw=>by
  rcases List.mem_cons.mp hw with rfl | hw
  ·exact(qgT _ (qjY r.k)).2.1
  ·obtain⟨n,hn,rfl⟩:=List.mem_map.mp hw
   exact Nat.le_trans (qeb (h n hn).1 (h n hn).2) (by decide)
 have a:=qdt 32 (r.k.w::(qff r).map dgI)
 have c:=qfu b
 have e:(qaw r).length=(TL.joinL [32] (r.k.w::(qff r).map dgI)).length:=rfl
 rw[List.length_cons,List.length_map] at a c
 omega
theorem qnT {r:RuleT}:qaw r≠[]:=by
 unfold qaw qmy
 intro h
 have l:1≤r.k.w.length:=by cases r.k<;>decide
 cases e:(qff r).map dgI with
 |nil=>rw[e] at h;simp only[TL.joinL] at h;rw[h] at l;simp at l
 |cons a as =>
  rw[e] at h
  simp only[TL.joinL,List.append_eq_nil_iff] at h
  rw[h.1] at l;simp at l
theorem qlw (hf:FOk fl):(∀w∈[dgI fl.1,dgI fl.2.1,dgI fl.2.2],w.length≤2∧∀c∈w,48≤c∧c<58)∧(qfP fl).length≤20∧(∀c∈qfP fl,PlC c):=by
 have h1:=hf.h1;have h2:=hf.h2;have w1:=hf.w1;have w2:=hf.w2;have s1:=hf.s1;have s2:=hf.s2
 have a:∀w∈[dgI fl.1,dgI fl.2.1,dgI fl.2.2],w.length≤2∧∀c∈w,48≤c∧c<58:=fun w hw=>by
  simp only[List.mem_cons,List.not_mem_nil,or_false] at hw
  rcases hw with rfl | rfl | rfl
  ·exact⟨qeb (by omega) (by omega),qmg (by omega) (by omega)⟩
  ·exact⟨qeb (by omega) (by omega),qmg (by omega) (by omega)⟩
  ·exact⟨qeb (by omega) (by omega),qmg (by omega) (by omega)⟩
 refine⟨a,?_,qeo (P:=PlC) (fun c hc=>.inl (List.mem_singleton.mp hc)) fun w hw c hc=>.inr (.inl ((a w hw).2 c hc))⟩
 have b:=qdt 32 [dgI fl.1,dgI fl.2.1,dgI fl.2.2]
 have c:=qfu (b:=2) fun w hw=>(a w hw).1
 have e:(qfP fl).length=(TL.joinL [32] [dgI fl.1,dgI fl.2.1,dgI fl.2.2]).length:=rfl
 simp only[List.length_cons,List.length_nil] at b c
 omega
theorem qfA (hf:FOk fl) (hn:rs.length≤12) (hr:∀r∈rs,WfR fl r):qee [59,32] (rs.map qaw)=.ok (TL.joinL [59,32] (rs.map qaw))∧(TL.joinL [59,32] (rs.map qaw)).length≤3000∧∀c∈TL.joinL [59,32] (rs.map qaw),PlC c∨c=59:=by
 have b:∀w∈rs.map qaw,w.length≤200:=fun w hw=>by
  obtain⟨r,h,rfl⟩:=List.mem_map.mp hw
  exact qq4 hf (hr r h)
 have c:=qfu b
 have a:=qhV [59,32] (rs.map qaw)
 rw[List.length_map] at a c
 simp only[List.length_cons,List.length_nil] at a
 refine⟨qjv (by rw[List.length_map];simp only[List.length_cons,List.length_nil];omega),by omega,qeo (P:=fun c=>PlC c∨c=59) (fun c hc=>?_) fun w hw c hc=>?_⟩
 ·simp only[List.mem_cons,List.not_mem_nil,or_false] at hc
  rcases hc with e | e
  ·exact .inr e
  ·exact .inl (.inl e)
 ·obtain⟨r,h,rfl⟩:=List.mem_map.mp hw
  exact .inl (qnq hf (hr r h) c hc)
theorem qmD {p:PuzT} (hp:WfP p):F.show_puzzle p=.ok (qtU p.ground (p.rules.map qaw) p.clues):=by
 have hf:=hp.f
 obtain⟨a,hl,_⟩:=qlw hf
 obtain⟨j1,j2,_⟩:=qfA hf hp.n hp.r
 have f2:=(qfv hf hp.c).2
 have h1:=hf.h1;have h2:=hf.h2;have w1:=hf.w1;have w2:=hf.w2;have s1:=hf.s1;have s2:=hf.s2
 unfold F.show_puzzle
 have e0:F.Puzzle_place p=.ok p.ground:=rfl
 have e1:F.Puzzle_clues p=.ok p.clues:=rfl
 rw[e0]
 simp only[RE.bind_ok]
 rw[gdl (by simp),qfN (g:=dgI) fun n hn=>by
  simp only[List.mem_cons,List.not_mem_nil,or_false] at hn
  rcases hn with e | e | e<;>rw[e]<;>exact qem (by omega) (by omega)]
 simp only[RE.bind_ok,List.map_cons,List.map_nil]
 rw[qgg (b:=2) (fun w hw=>(a w hw).1) (by simp)]
 simp only[RE.bind_ok]
 have hd:TL.joinL [32] [dgI p.ground.1,dgI p.ground.2.1,dgI p.ground.2.2]=qfP p.ground:=rfl
 rw[hd,qa4 (by simp;omega),qfh hp]
 simp only[RE.bind_ok]
 rw[j1]
 simp only[RE.bind_ok]
 rw[qa4 (by simp;omega)]
 simp only[RE.bind_ok]
 rw[qa4 (by simp;omega),e1]
 simp only[RE.bind_ok]
 rw[qsB hf hp.c]
 simp only[RE.bind_ok]
 rw[qa4 (by simp;omega)]
 rfl
theorem qpG {p:PuzT} (hp:WfP p):F.read_puzzle (eS (qtU p.ground (p.rules.map qaw) p.clues))=.ok p:=by
 have hf:=hp.f
 obtain⟨a,hl,hpl⟩:=qlw hf
 obtain⟨j1,j2,j3⟩:=qfA hf hp.n hp.r
 have f2:=(qfv hf hp.c).2
 have h1:=hf.h1;have h2:=hf.h2;have w1:=hf.w1;have w2:=hf.w2;have s1:=hf.s1;have s2:=hf.s2
 unfold F.read_puzzle
 generalize ht:qtU p.ground (p.rules.map qaw) p.clues=t
 have tl:t.length≤1000000:=by
  rw[←ht];unfold qtU
  simp only[List.length_append,List.length_cons,List.length_nil]
  omega
 have ty:tyE (eD (eS t)) .str=.ok true:=rfl
 have ds:dS (eS t)=.ok t:=rfl
 rw[ty,ds]
 simp only[RE.bind_ok,Bool.not_true,Bool.false_eq_true,if_false]
 have sp:qcE t [32,124,32]=.ok [qfP p.ground,TL.joinL [59,32] (p.rules.map qaw),fiT p.ground p.clues]:=by
  refine qh3 tl (by simp) (by decide) ?_
  rw[←ht]
  unfold qtU
  rw[List.append_assoc,List.append_assoc,List.append_assoc]
  refine qxn (fun m=>?_) (fun m=>?_) fun m=>?_
  ·rcases hpl 124 m with q | q | q<;>omega
  ·rcases j3 124 m with(q | q | q) | q<;>omega
  ·have:=qeo (P:=fun c=>c∈47::MK) (s:=[47]) (fun c hc=>by rw[List.mem_singleton.mp hc];simp) (fun w hw c hc=>List.mem_cons_of_mem _ (qnm w hw c hc)) 124 m
   revert this;decide
 rw[sp]
 simp only[RE.bind_ok]
 have a0:atE [qfP p.ground,TL.joinL [59,32] (p.rules.map qaw),fiT p.ground p.clues] 0=.ok (qfP p.ground):=rfl
 have a1:atE [qfP p.ground,TL.joinL [59,32] (p.rules.map qaw),fiT p.ground p.clues] 1=.ok (TL.joinL [59,32] (p.rules.map qaw)):=rfl
 have a2:atE [qfP p.ground,TL.joinL [59,32] (p.rules.map qaw),fiT p.ground p.clues] 2=.ok (fiT p.ground p.clues):=rfl
 have l3:decide ((List.length [qfP p.ground,TL.joinL [59,32] (p.rules.map qaw),fiT p.ground p.clues]:Int)=3)=true:=rfl
 rw[l3,a0,a1,a2]
 simp only[RE.bind_ok,Bool.not_true,Bool.false_eq_true,if_false]
 have sh:qcE (qfP p.ground) [32]=.ok [dgI p.ground.1,dgI p.ground.2.1,dgI p.ground.2.2]:=qgM (b:=2) (fun w hw=>(a w hw).1) (by simp) (by decide) (by simp) fun w hw m=>by
  have:=(a w hw).2 32 m;omega
 rw[sh]
 simp only[RE.bind_ok]
 have nums:lcE (fun(ax:List Nat)=>(RE.ok true)) (fun(ax:List Nat)=>(F.read_number ax)) [dgI p.ground.1,dgI p.ground.2.1,dgI p.ground.2.2]=.ok [p.ground.1,p.ground.2.1,p.ground.2.2]:=by
  simp only[lcE,qjh (show 0≤p.ground.1 by omega) (show p.ground.1<100 by omega),qjh (show 0≤p.ground.2.1 by omega) (show p.ground.2.1<100 by omega),qjh (show 0≤p.ground.2.2 by omega) (show p.ground.2.2<100 by omega),RE.bind_ok,if_true]
  rfl
 rw[gdl (by simp),nums]
 simp only[RE.bind_ok]
 have b0:atE [p.ground.1,p.ground.2.1,p.ground.2.2] 0=.ok p.ground.1:=rfl
 have b1:atE [p.ground.1,p.ground.2.1,p.ground.2.2] 1=.ok p.ground.2.1:=rfl
 have b2:atE [p.ground.1,p.ground.2.1,p.ground.2.2] 2=.ok p.ground.2.2:=rfl
 have l4:decide ((List.length [p.ground.1,p.ground.2.1,p.ground.2.2]:Int)=3)=true:=rfl
 rw[l4,b0,b1,b2]
 simp only[RE.bind_ok,Bool.not_true,Bool.false_eq_true,if_false]
 rw[qg0 hf]
 simp only[RE.bind_ok]
 have hb:((RE.ok (!decide (TL.joinL [59,32] (p.rules.map qaw)=[]))).bind fun k15=>if k15=true then ((qcE (TL.joinL [59,32] (p.rules.map qaw)) [59,32]).bind fun az=>RE.ok az) else (RE.ok []))=RE.ok (p.rules.map qaw):=by
  simp only[RE.bind_ok]
  cases e:p.rules with
  |nil=>rfl
  |cons r rs =>
   have ne:TL.joinL [59,32] ((r::rs).map qaw)≠[]:=by
    intro z
    cases rs with
    |nil=>exact qnT z
    |cons r2 rs =>
     simp only[List.map_cons,TL.joinL,List.append_eq_nil_iff] at z
     exact qnT z.1
   rw[decide_eq_false ne]
   simp only[Bool.not_false,if_true]
   rw[←e,qh3 (by omega) (by simp) (by decide) (SX.spl_join (by rw[e];simp) fun w hw m=>by
    obtain⟨q,h,rfl⟩:=List.mem_map.mp hw
    rcases qnq hf (hp.r q h) 59 m with z | z | z<;>omega)]
   rfl
 simp only[RE.bind_ok] at hb
 rw[hb]
 simp only[RE.bind_ok]
 have n0:nC p.ground=p.ground.1*p.ground.2.1:=rfl
 have n1:=hf.n1
 have n2:=hf.n
 rw[qjj hf]
 simp only[RE.bind_ok]
 rw[qc7 (by omega) (by omega)]
 simp only[RE.bind_ok]
 have zs:qjm p.ground ((qer (nC p.ground).toNat).map fun _=>(0:Int)):=⟨by rw[List.length_map,qbZ];omega,fun x hx=>by
  obtain⟨_,_,rfl⟩:=List.mem_map.mp hx
  omega⟩
 rw[gdl (by rw[qbZ];omega)]
 simp only[RE.bind_ok]
 obtain⟨pz,wz⟩:=qoV hf rfl hp.n hp.r zs
 rw[pz]
 simp only[RE.bind_ok]
 rw[qtm hf hp.c]
 simp only[RE.bind_ok]
 rw[(qqs wz hp.c).1]
end
end Cm
set_option maxHeartbeats 400000
namespace K72
open Cm
def qvg:Nat→Option Bool:=fun c=>List.lookup c []
def qgI:Nat→Option Bool:=fun c=>List.lookup c [(0,false),(1,false),(2,false),(3,false),(4,false),(5,false),(6,false),(7,false),(25,true)]
def qaT (aB:List Int) (aA:Int):RE Int:=
 (RE.ok (decide ((List.length aB:Int)=0))).bind fun k1=>if k1=true then ((((qjK aA aA).bind fun x2=>RE.ok (x2*40692)).bind fun x4=>RE.ok (x4+(7*aA))).bind fun x6=>RE.ok (Int.fmod x6 2147483647)) else ((((RE.ok aB).bind fun x8=>(qmM aA (List.length aB:Int)).bind fun x9=>atE x8 x9).bind fun x10=>RE.ok (Int.fmod x10 2305843009213693951)).bind fun a9=>(RE.ok (decide (aA<(List.length aB:Int)))).bind fun k12=>if k12=true then (RE.ok a9) else ((((qjK aA aA).bind fun x13=>RE.ok (x13*40692)).bind fun x16=>RE.ok ((a9*48271)+x16)).bind fun x17=>RE.ok (Int.fmod x17 2305843009213693951)))
def qfD (ac:Int):RE (Int × Int × Int):=
 (RE.ok (1+(Int.fmod ac 6):Int)).bind fun aK=>((((RE.ok 6).bind fun x1=>(qsp 16 aK).bind fun x2=>RE.ok (if x2<x1 then x2 else x1)).bind fun x4=>qmM (Int.fdiv ac 6) x4).bind fun x6=>RE.ok (1+x6)).bind fun aL=>RE.ok (aK,aL,1+(Int.fmod (Int.fdiv ac 36) 6))
def qfH (aB:List Int) (aC:Int) (aG:Int) (aX:Int):RE (List Int):=
 (qbs aG).bind fun aq=>(RE.ok ([]:List Int)).bind fun al=>((qbs aX).bind fun y11=>qam (fun(aA:Int) (s5:(List Int) × (List Int))=>(((qaT aB (aC+aA)).bind fun x6=>qmM x6 (List.length s5.1:Int)).bind fun x9=>qmZ s5.2 s5.1 x9).bind fun p8=>RE.ok (p8.2,p8.1)) y11 (aq,al)).bind fun(p10:(List Int) × (List Int))=>RE.ok p10.2
def qgA (aB:List Int) (aC:Int) (au:Int × Int × Int):RE (List Nat):=
 (qaT aB aC).bind fun ac=>(qjK au.1 au.2.1).bind fun aG=>((qmM (Int.fdiv ac 8) aG).bind fun x2=>RE.ok (1+x2)).bind fun aX=>((RE.ok [32]).bind fun x4=>((qfH aB (aC+1) aG aX).bind fun x3=>gd (leB x3.length) (lcE (fun(aE:Int)=>(RE.ok true)) (fun(aE:Int)=>(qm9 aE)) x3)).bind fun x5=>qee x4 x5).bind fun aV=>(((qmM (Int.fdiv ac 128) au.2.2).bind fun x7=>RE.ok (1+x7)).bind fun x8=>qm9 x8).bind fun ai=>(qm9 (Int.fmod (Int.fdiv ac 768) 100)).bind fun a9=>((qay ([117,110,108,105,107,101,32]) aV).bind fun x17=>(((qay ([115,117,109,32]) a9).bind fun x9=>qay x9 [32]).bind fun x11=>qay x11 aV).bind fun x18=>(qay ([114,105,115,105,110,103,32]) aV).bind fun x19=>(((qay ([115,101,101,110,32]) a9).bind fun x13=>qay x13 [32]).bind fun x15=>qay x15 aV).bind fun x20=>RE.ok [x17,x18,x19,x20]).bind fun aU=>(((((((qay ([99,111,117,110,116,32]) a9).bind fun x21=>qay x21 [32]).bind fun x23=>qay x23 ai).bind fun x25=>qay x25 [32]).bind fun x27=>qay x27 aV).bind fun x29=>(qay ([106,111,105,110,101,100,32]) ai).bind fun x30=>(qay ([110,111,115,113,117,97,114,101,32]) ai).bind fun x31=>(qay ([114,105,110,103,32]) ai).bind fun x32=>RE.ok [x29,x30,x31,x32]).bind fun x34=>qhi aU x34).bind fun aU=>atE aU (Int.fmod ac 8)
def qgG (au:Int × Int × Int) (az:List (List Nat)) (a7:List Int):RE (List Nat):=
 (RE.ok ([]:List (List Nat))).bind fun aP=>((qbs au.1).bind fun y45=>qam (fun(aA:Int) (s15:List (List Nat))=>(RE.ok ([]:List Nat)).bind fun aM=>(((RE.ok a7).bind fun x18=>((qjK aA au.2.1).bind fun x16=>RE.ok (some x16)).bind fun x19=>((qjK (aA+1) au.2.1).bind fun x17=>RE.ok (some x17)).bind fun x20=>RE.ok (qe5 x18 x19 x20)).bind fun y29=>qam (fun(ai:Int) (s24:List Nat)=>(((qpx ([46,49,50,51,52,53,54]) ai).bind fun x25=>RE.ok ((fun c=>[c]) x25)).bind fun x27=>qay s24 x27).bind fun aM=>RE.ok aM) y29 aM).bind fun(p28:List Nat)=>(qez s15 p28).bind fun aP=>RE.ok aP) y45 aP).bind fun(p30:List (List Nat))=>(((((qm9 au.1).bind fun x31=>qay x31 [32]).bind fun x33=>(qm9 au.2.1).bind fun x34=>qay x33 x34).bind fun x35=>qay x35 [32]).bind fun x37=>(qm9 au.2.2).bind fun x38=>qay x37 x38).bind fun bq=>(((qay bq ([32,124,32])).bind fun x39=>(qee ([59,32]) az).bind fun x40=>qay x39 x40).bind fun x41=>qay x41 ([32,124,32])).bind fun x43=>(qee [47] p30).bind fun x44=>qay x43 x44
def qf1 (ae:PuzT) (au:Int × Int × Int) (az:List (List Nat)) (a7:List Int):RE Bool:=
 (((qvO qgI (fun _=>25) ae).bind fun x1=>RE.ok (!x1)).bind fun k7=>if k7=true then RE.ok true else ((((F.Puzzle_place ae).bind fun _=>RE.ok true).bind fun x3=>RE.ok (!x3)).bind fun k6=>if k6=true then RE.ok true else ((F.Puzzle_place ae).bind fun x4=>evC .ne ((eT3 eI eI eI) x4) ((eT3 eI eI eI) au)))).bind fun k8=>if k8=true then (RE.ok false) else (((((F.Puzzle_lines ae).bind fun _=>RE.ok true).bind fun x10=>RE.ok (!x10)).bind fun k13=>if k13=true then RE.ok true else (((F.Puzzle_clues ae).bind fun _=>RE.ok true).bind fun x12=>RE.ok (!x12))).bind fun k14=>if k14=true then (RE.ok false) else (((F.Puzzle_lines ae).bind fun x15=>evC .eq ((eL eS) x15) ((eL eS) az)).bind fun k22=>if k22=true then (((F.Puzzle_clues ae).bind fun x17=>RE.ok (decide (x17=a7))).bind fun k21=>if k21=true then ((F.show_puzzle ae).bind fun x19=>(qgG au az a7).bind fun x20=>RE.ok (decide (x19=x20))) else RE.ok false) else RE.ok false))
def qoc (aB:List Int):RE Bool:=
 ((qaT aB 0).bind fun x1=>qfD x1).bind fun au=>((((qaT aB 1).bind fun x2=>RE.ok (Int.fmod x2 13)).bind qbs).bind fun x5=>gd (leB x5.length) (lcE (fun(aA:Int)=>(RE.ok true)) (fun(aA:Int)=>(qgA aB (20+(17*aA)) au)) x5)).bind fun az=>(RE.ok ([]:List Int)).bind fun a7=>(((qjK au.1 au.2.1).bind qbs).bind fun y29=>qam (fun(aA:Int) (s10:List Int)=>(qaT aB (2+aA)).bind fun ac=>(((qmM (Int.fdiv ac 2) (au.2.2+1)).bind fun x11=>qjK x11 (Int.fmod ac 2)).bind fun x13=>qez s10 x13).bind fun a7=>RE.ok a7) y29 a7).bind fun(p14:List Int)=>((F.Puzzle_new au (List.map (eS) az) p14).bind fun x15=>F.show_puzzle x15).bind fun bc=>((RE.ok !true).bind fun k18=>if k18=true then RE.ok true else ((qgG au az p14).bind fun x17=>RE.ok (!decide (bc=x17)))).bind fun k19=>if k19=true then (RE.ok false) else ((F.read_puzzle (eS bc)).bind fun al=>((qf1 al au az p14).bind fun x20=>RE.ok (!x20)).bind fun k21=>if k21=true then (RE.ok false) else (((F.Puzzle_lines al).bind fun x22=>(RE.ok ([114,105,110,103,32,49])).bind fun x23=>qpI x22 x23).bind fun _=>((F.Puzzle_clues al).bind fun _=>RE.ok ()).bind fun _=>(qf1 al au az p14).bind fun k28=>if k28=true then ((F.read_puzzle (eS bc)).bind fun x24=>(RE.ok au).bind fun x25=>(RE.ok az).bind fun x26=>(RE.ok p14).bind fun x27=>qf1 x24 x25 x26 x27) else RE.ok false))
theorem qbj (aB:List Int) (aA:Int):Rf (g__law_cell_at [(eL eI) aB,eI aA]) (qaT aB aA) eI .v true:=by
 have key:∀q0 q1 q2:Sl,SlV false ((eL eI) aB) q0→SlV true (eI aA) q1→BR qb4 qbt [q0,q1,q2] (qaT aB aA) eI .v true:=by
  intro q0 q1 q2 h0 h1;unfold qaT qbt;refine BR.ifR (XT.val (XE.cmpP (XE.pri1P (XE.var (i:=0) rfl h0) (qf8 _)) XE.cint (qvi _ _))) ?_ ?_
  ·exact BR.ret (XE.binR (XE.binR (XE.binR (XE.binP (XE.var (i:=1) rfl h1) (XE.var (i:=1) rfl h1) (qgY _ _)) XE.cint (fun x=>qkk x _ (qoZ rfl))) (XE.binP XE.cint (XE.var (i:=1) rfl h1) (qkk _ _ (qni rfl))) (fun x=>qeW x _)) XE.cint (fun x=>qfj x _ rfl)) rfl
  refine BR.cons (SN.asg (en:=eI) (fun q2=>[q0,q1,q2]) (XE.binR (XE.idxF (XE.var (i:=0) rfl h0) (XE.binP (XE.var (i:=1) rfl h1) (XE.pri1P (XE.var (i:=0) rfl h0) (qf8 _)) (qm6 _ _))) XE.cint (fun x=>qfj x _ rfl)) rfl fun _=>rfl) ?_;rintro a9 _ ⟨q2,rfl,h2⟩;refine BR.ifR (XT.val (XE.cmpP (XE.var (i:=1) rfl h1) (XE.pri1P (XE.var (i:=0) rfl h0) (qf8 _)) (qv4 _ _))) ?_ ?_
  ·exact BR.ret (XE.var (i:=2) rfl h2) rfl
  exact BR.ret (XE.binR (XE.binL (XE.binP (XE.var (i:=2) rfl h2) XE.cint (qkk _ _ (qoZ rfl))) (XE.binR (XE.binP (XE.var (i:=1) rfl h1) (XE.var (i:=1) rfl h1) (qgY _ _)) XE.cint (fun x=>qkk x _ (qoZ rfl))) (fun y=>qeW _ y)) XE.cint (fun x=>qfj x _ rfl)) rfl
 exact Rf.run rfl (key _ _ .non SlV.any SlV.flat)
theorem qkt (ac:Int):Rf (g__law_floor [eI ac]) (qfD ac) (eT3 eI eI eI) .v true:=by
 have key:∀q0 q1 q2:Sl,SlV true (eI ac) q0→BR qcZ qcf [q0,q1,q2] (qfD ac) (eT3 eI eI eI) .v true:=by
  intro q0 q1 q2 h0;unfold qfD qcf;refine BR.cons (SN.asg (en:=eI) (fun q1=>[q0,q1,q2]) (XE.binP XE.cint (XE.binP (XE.var (i:=0) rfl h0) XE.cint (qfj _ _ rfl)) (qeW _ _)) rfl fun _=>rfl) ?_;rintro aK _ ⟨q1,rfl,h1⟩;refine BR.cons (SN.asg (en:=eI) (fun q2=>[q0,q1,q2]) (XE.binL XE.cint (XE.binL (XE.binP (XE.var (i:=0) rfl h0) XE.cint (qh9 _ _ rfl)) (XE.pri2 XE.cint (XE.binP XE.cint (XE.var (i:=1) rfl h1) (qwc _ _)) (fun x y=>qt4 x y)) (fun y=>qm6 _ y)) (fun y=>qeW _ y)) rfl fun _=>rfl) ?_;rintro aL _ ⟨q2,rfl,h2⟩;exact BR.ret (XE.tup3P (XE.var (i:=1) rfl h1) (XE.var (i:=2) rfl h2) (XE.binP XE.cint (XE.binP (XE.binP (XE.var (i:=0) rfl h0) XE.cint (qh9 _ _ rfl)) XE.cint (qfj _ _ rfl)) (qeW _ _)) rfl) rfl
 exact Rf.run rfl (key _ .non .non SlV.flat)
theorem qj9 (aB:List Int) (aC:Int) (aG:Int) (aX:Int):Rf (g__law_cells [(eL eI) aB,eI aC,eI aG,eI aX]) (qfH aB aC aG aX) (eL eI) .f true:=by
 have key:∀q0 q1 q2 q3 q4 q5 q6:Sl,SlV false ((eL eI) aB) q0→SlV true (eI aC) q1→SlV true (eI aG) q2→SlV true (eI aX) q3→BR qc6 qck [q0,q1,q2,q3,q4,q5,q6] (qfH aB aC aG aX) (eL eI) .f true:=by
  intro q0 q1 q2 q3 q4 q5 q6 h0 h1 h2 h3;unfold qfH qck;refine BR.cons (SN.own (en:=eI) (fun q4=>[q0,q1,q2,q3,q4,q5,q6]) (XE.lrng (XRg.r1P (XE.var (i:=2) rfl h2))) fun _=>rfl) ?_;rintro aq _ ⟨q4,rfl,h4⟩;refine BR.cons (SN.own (en:=eI) (fun q5=>[q0,q1,q2,q3,q4,q5,q6]) (XE.lstL XLs.nil) fun _=>rfl) ?_;rintro al _ ⟨q5,rfl,h5⟩;refine BR.cons (S:=(fun(st:(List Int) × (List Int)) ρ=>∃q4 q5 q6,ρ=[q0,q1,q2,q3,q4,q5,q6]∧SlO true (List.map eI st.1) q4∧SlO true (List.map eI st.2) q5)) (SN.for1 (t0:=true) _ (XI.rng (XRg.r1P (XE.var (i:=3) rfl h3))) (fun _=>.inl rfl) ⟨_,_,_,rfl,h4,h5⟩ ?_) ?_
  ·intro aA s5 ρ1 q6 hS h6;obtain⟨q4,q5,_,rfl,h4,h5⟩:=hS;change BL _ _ [q0,q1,q2,q3,q4,q5,q6] _ _;refine BL.cons (SN.apop (en:=eI) (fun q5 q4=>[q0,q1,q2,q3,q4,q5,q6]) rfl rfl h5 rfl h4 (XE.binR (XE.call2P rfl (XE.var (i:=0) rfl h0) (XE.binP (XE.var (i:=1) rfl h1) (XE.var (i:=6) rfl h6) (qeW _ _)) (qbj aB (aC+aA)) rfl rfl) (XE.pri1P (XE.varO (i:=4) rfl h4) (qf8 _)) (fun x=>qm6 x _)) (fun _ _=>rfl)) ?_;rintro p8 _ ⟨q5,q4,rfl,h5,h4⟩;exact BL.nil ⟨_,_,_,rfl,h4,h5⟩
  rintro p10 _ ⟨q4,q5,q6,rfl,h4,h5⟩;exact BR.ret (XE.varO (i:=5) rfl h5) rfl
 exact Rf.run rfl (key _ _ _ _ .non .non .non SlV.any SlV.flat SlV.flat SlV.flat)
theorem qkG (aB:List Int) (aC:Int) (au:Int × Int × Int):Rf (g__law_rule [(eL eI) aB,eI aC,(eT3 eI eI eI) au]) (qgA aB aC au) eS .v true:=by
 have key:∀q0 q1 q2 q3 q4 q5 q6 q7 q8 q9 q10:Sl,SlV false ((eL eI) aB) q0→SlV true (eI aC) q1→SlV true ((eT3 eI eI eI) au) q2→BR qdT qcK [q0,q1,q2,q3,q4,q5,q6,q7,q8,q9,q10] (qgA aB aC au) eS .v true:=by
  intro q0 q1 q2 q3 q4 q5 q6 q7 q8 q9 q10 h0 h1 h2;unfold qgA qcK;refine BR.cons (SN.asg (en:=eI) (fun q3=>[q0,q1,q2,q3,q4,q5,q6,q7,q8,q9,q10]) (XE.call2P rfl (XE.var (i:=0) rfl h0) (XE.var (i:=1) rfl h1) (qbj aB aC) rfl rfl) rfl fun _=>rfl) ?_;rintro ac _ ⟨q3,rfl,h3⟩;refine BR.cons (SN.asg (en:=eI) (fun q4=>[q0,q1,q2,q3,q4,q5,q6,q7,q8,q9,q10]) (XE.binP (XE.prtP (x:=au) (t2:=true) (f:=fun p=>p.1) (en2:=eI) (XE.var (i:=2) rfl h2) (fun _ _=>rfl) (fun _=>.inl rfl)) (XE.prtP (x:=au) (t2:=true) (f:=fun p=>p.2.1) (en2:=eI) (XE.var (i:=2) rfl h2) (fun _ _=>rfl) (fun _=>.inl rfl)) (qgY _ _)) rfl fun _=>rfl) ?_;rintro aG _ ⟨q4,rfl,h4⟩;refine BR.cons (SN.asg (en:=eI) (fun q5=>[q0,q1,q2,q3,q4,q5,q6,q7,q8,q9,q10]) (XE.binL XE.cint (XE.binP (XE.binP (XE.var (i:=3) rfl h3) XE.cint (qh9 _ _ rfl)) (XE.var (i:=4) rfl h4) (qm6 _ _)) (fun y=>qeW _ y)) rfl fun _=>rfl) ?_;rintro aX _ ⟨q5,rfl,h5⟩;refine BR.cons (SN.asg (en:=eS) (fun q6=>[q0,q1,q2,q3,q4,q5,q6,q7,q8,q9,q10]) (XE.join XE.cstr (XE.lc (t0:=true) (fun q7=>[q0,q1,q2,q3,q4,q5,q6,q7,q8,q9,q10]) (XI.list (XE.call4P rfl (XE.var (i:=0) rfl h0) (XE.binP (XE.var (i:=1) rfl h1) XE.cint (qeW _ _)) (XE.var (i:=4) rfl h4) (XE.var (i:=5) rfl h5) (qj9 aB (aC+1) aG aX) rfl rfl) rfl) (fun _=>.inl rfl) (fun _=>rfl) (fun aE q7 h7=>XTs.nil) (fun aE q7 h7 _=>(XE.pri1P (XE.var (i:=7) rfl h7) (qkj _))) rfl)) rfl fun _=>rfl) ?_;rintro aV _ ⟨q6,rfl,h6⟩;refine BR.cons (SN.asg (en:=eS) (fun q8=>[q0,q1,q2,q3,q4,q5,q6,q7,q8,q9,q10]) (XE.pri1 (XE.binL XE.cint (XE.binP (XE.binP (XE.var (i:=3) rfl h3) XE.cint (qh9 _ _ rfl)) (XE.prtP (x:=au) (t2:=true) (f:=fun p=>p.2.2) (en2:=eI) (XE.var (i:=2) rfl h2) (fun _ _=>rfl) (fun _=>.inl rfl)) (qm6 _ _)) (fun y=>qeW _ y)) (fun x=>qkj x)) rfl fun _=>rfl) ?_;rintro ai _ ⟨q8,rfl,h8⟩;refine BR.cons (SN.asg (en:=eS) (fun q9=>[q0,q1,q2,q3,q4,q5,q6,q7,q8,q9,q10]) (XE.pri1P (XE.binP (XE.binP (XE.var (i:=3) rfl h3) XE.cint (qh9 _ _ rfl)) XE.cint (qfj _ _ rfl)) (qkj _)) rfl fun _=>rfl) ?_;rintro a9 _ ⟨q9,rfl,h9⟩;refine BR.cons (SN.asg (en:=(eL eS)) (fun q10=>[q0,q1,q2,q3,q4,q5,q6,q7,q8,q9,q10]) (XE.cast (m':=(qay ([117,110,108,105,107,101,32]) aV).bind fun x17=>(((qay ([115,117,109,32]) a9).bind fun x9=>qay x9 [32]).bind fun x11=>qay x11 aV).bind fun x18=>(qay ([114,105,115,105,110,103,32]) aV).bind fun x19=>(((qay ([115,101,101,110,32]) a9).bind fun x13=>qay x13 [32]).bind fun x15=>qay x15 aV).bind fun x20=>RE.ok [x17,x18,x19,x20]) (XE.lstS (F:=fun w=>[w.1,w.2.1,w.2.2.1,w.2.2.2.1]) (en:=eS) (XS.cons (XE.binP XE.cstr (XE.var (i:=6) rfl h6) (qaP _ _)) (XS.cons (XE.binR (XE.binR (XE.binP XE.cstr (XE.var (i:=9) rfl h9) (qaP _ _)) XE.cstr (fun x=>qaP x _)) (XE.var (i:=6) rfl h6) (fun x=>qaP x _)) (XS.cons (XE.binP XE.cstr (XE.var (i:=6) rfl h6) (qaP _ _)) (XS.cons (XE.binR (XE.binR (XE.binP XE.cstr (XE.var (i:=9) rfl h9) (qaP _ _)) XE.cstr (fun x=>qaP x _)) (XE.var (i:=6) rfl h6) (fun x=>qaP x _)) XS.nil)))) (fun _=>rfl) rfl) (by simp only[RE.bind_assoc,RE.bind_ok])) rfl fun _=>rfl) ?_
  rintro aU _ ⟨q10,rfl,h10⟩;refine BR.cons (SN.asg (en:=(eL eS)) (fun q10=>[q0,q1,q2,q3,q4,q5,q6,q7,q8,q9,q10]) (XE.binL (XE.var (i:=10) rfl h10) (XE.cast (m':=(((((qay ([99,111,117,110,116,32]) a9).bind fun x21=>qay x21 [32]).bind fun x23=>qay x23 ai).bind fun x25=>qay x25 [32]).bind fun x27=>qay x27 aV).bind fun x29=>(qay ([106,111,105,110,101,100,32]) ai).bind fun x30=>(qay ([110,111,115,113,117,97,114,101,32]) ai).bind fun x31=>(qay ([114,105,110,103,32]) ai).bind fun x32=>RE.ok [x29,x30,x31,x32]) (XE.lstS (F:=fun w=>[w.1,w.2.1,w.2.2.1,w.2.2.2.1]) (en:=eS) (XS.cons (XE.binR (XE.binR (XE.binR (XE.binR (XE.binP XE.cstr (XE.var (i:=9) rfl h9) (qaP _ _)) XE.cstr (fun x=>qaP x _)) (XE.var (i:=8) rfl h8) (fun x=>qaP x _)) XE.cstr (fun x=>qaP x _)) (XE.var (i:=6) rfl h6) (fun x=>qaP x _)) (XS.cons (XE.binP XE.cstr (XE.var (i:=8) rfl h8) (qaP _ _)) (XS.cons (XE.binP XE.cstr (XE.var (i:=8) rfl h8) (qaP _ _)) (XS.cons (XE.binP XE.cstr (XE.var (i:=8) rfl h8) (qaP _ _)) XS.nil)))) (fun _=>rfl) rfl) (by simp only[RE.bind_assoc,RE.bind_ok])) (fun y=>qj0 (en:=eS) _ y)) rfl fun _=>rfl) ?_;rintro aU _ ⟨q10,rfl,h10⟩;exact BR.ret (XE.idxFP (XE.var (i:=10) rfl h10) (XE.binP (XE.var (i:=3) rfl h3) XE.cint (qfj _ _ rfl))) rfl
 exact Rf.run rfl (key _ _ _ .non .non .non .non .non .non .non .non SlV.any SlV.flat SlV.flat)
theorem qh1 (aK:Int) (aL:Int) (a8:Int):Rf (g_floor_of [eI aK,eI aL,eI a8]) (F.floor_of aK aL a8) (eT3 eI eI eI) .v true:=by
 have key:∀q0 q1 q2:Sl,SlV true (eI aK) q0→SlV true (eI aL) q1→SlV true (eI a8) q2→BR qet qdp [q0,q1,q2] (F.floor_of aK aL a8) (eT3 eI eI eI) .v true:=by
  intro q0 q1 q2 h0 h1 h2;unfold F.floor_of qdp;refine BR.ifR (XT.bop (XTs.or (XT.notP (XT.val (XE.chnP XE.cint (XE.var (i:=0) rfl h0) (XE.glo (x:=(6:Int)) rfl rfl) (qf9 _ _) (qf9 _ _)))) (XTs.or (XT.notP (XT.val (XE.chnP XE.cint (XE.var (i:=1) rfl h1) (XE.glo (x:=(6:Int)) rfl rfl) (qf9 _ _) (qf9 _ _)))) (XTs.one (XT.val (XE.cmpR (XE.binP (XE.var (i:=0) rfl h0) (XE.var (i:=1) rfl h1) (qgY _ _)) (XE.glo (x:=(16:Int)) rfl rfl) (fun x=>qnS x _))))))) ?_ ?_
  ·exact BR.rse rfl
  refine BR.ifR (XT.notP (XT.val (XE.chnP XE.cint (XE.var (i:=2) rfl h2) (XE.glo (x:=(6:Int)) rfl rfl) (qf9 _ _) (qf9 _ _)))) ?_ ?_
  ·exact BR.rse rfl
  exact BR.ret (XE.tup3P (XE.var (i:=0) rfl h0) (XE.var (i:=1) rfl h1) (XE.var (i:=2) rfl h2) rfl) rfl
 exact Rf.run rfl (key _ _ _  SlV.flat SlV.flat SlV.flat)
theorem qls (ax:List Nat):Rf (g_number_of [eS ax]) (F.number_of ax) eI .v true:=by
 have key:∀q0 q1:Sl,SlV true (eS ax) q0→BR qdN qcV [q0,q1] (F.number_of ax) eI .v true:=by
  intro q0 q1 h0;unfold F.number_of qcV;refine BR.ifR (XT.bop (XTs.or (XT.not (XT.val (XE.chn (f:=fun x y=>decide (x≤y)) (g:=fun x y=>decide (x≤y)) XE.cint (XE.pri1P (XE.var (i:=0) rfl h0) (qh7 _)) (XE.glo (x:=(2:Int)) rfl rfl) qf9 qf9))) (XTs.one (XT.bop (XTs.and (XT.val (XE.cmpR (XE.idxSP (XE.var (i:=0) rfl h0) XE.cint) XE.cstr (fun x=>quV x _))) (XTs.one (XT.val (XE.cmpR (XE.pri1P (XE.var (i:=0) rfl h0) (qh7 _)) XE.cint (fun x=>qnS x _))))))))) ?_ ?_
  ·exact BR.rse rfl
  refine BR.cons (S:=(fun(st:Unit) ρ=>∃q1,ρ=[q0,q1])) (SN.for1 (t0:=true) _ (XI.str (XE.var (i:=0) rfl h0)) (fun _=>.inl rfl) ⟨_,rfl⟩ ?_) ?_
  ·intro ai s13 ρ1 q1 hS h1;obtain⟨_,rfl⟩:=hS;change BL _ _ [q0,q1] _ _;refine BL.ifE rfl (XT.val (XE.cmpP (XE.var (i:=1) rfl h1) (XE.glo (en:=eS) (x:=[48,49,50,51,52,53,54,55,56,57]) rfl rfl) (qns _ _))) rfl ?_;exact BL.nil ⟨_,rfl⟩
  rintro p15 _ ⟨q1,rfl⟩;exact BR.ret (XE.pri1P (XE.var (i:=0) rfl h0) (qro _)) rfl
 exact Rf.run rfl (key _ .non SlV.flat)
theorem qgE (af:Int × Int × Int) (ay:List Int) (aC:Int):Rf (g_sign_told [(eT3 eI eI eI) af,(eL eI) ay,eI aC]) (F.sign_told af ay aC) eI .v true:=by
 have key:∀q0 q1 q2:Sl,SlV true ((eT3 eI eI eI) af) q0→SlV false ((eL eI) ay) q1→SlV true (eI aC) q2→BR qdW qcI [q0,q1,q2] (F.sign_told af ay aC) eI .v true:=by
  intro q0 q1 q2 h0 h1 h2;unfold F.sign_told qcI;refine BR.ifR (XT.bop (XTs.or (XT.val (XE.cmpP (XE.var (i:=2) rfl h2) (XE.pri1P (XE.var (i:=1) rfl h1) (qf8 _)) (qvp _ _))) (XTs.one (XT.not (XT.val (XE.chn (f:=fun x y=>decide (x≤y)) (g:=fun x y=>decide (x≤y)) XE.cint (XE.idxFP (XE.var (i:=1) rfl h1) (XE.var (i:=2) rfl h2)) (XE.prtP (x:=af) (t2:=true) (f:=fun p=>p.2.2) (en2:=eI) (XE.var (i:=0) rfl h0) (fun _ _=>rfl) (fun _=>.inl rfl)) qf9 qf9)))))) ?_ ?_
  ·exact BR.rse rfl
  exact BR.ret (XE.idxFP (XE.var (i:=1) rfl h1) (XE.var (i:=2) rfl h2)) rfl
 exact Rf.run rfl (key _ _ _  SlV.flat SlV.any SlV.flat)
theorem qc2 (af:Int × Int × Int):Rf (g_many_cells [(eT3 eI eI eI) af]) (F.many_cells af) eI .v true:=by
 have key:∀q0:Sl,SlV true ((eT3 eI eI eI) af) q0→BR qc3 qcj [q0] (F.many_cells af) eI .v true:=by
  intro q0 h0;unfold F.many_cells qcj;exact BR.ret (XE.binP (XE.prtP (x:=af) (t2:=true) (f:=fun p=>p.1) (en2:=eI) (XE.var (i:=0) rfl h0) (fun _ _=>rfl) (fun _=>.inl rfl)) (XE.prtP (x:=af) (t2:=true) (f:=fun p=>p.2.1) (en2:=eI) (XE.var (i:=0) rfl h0) (fun _ _=>rfl) (fun _=>.inl rfl)) (qgY _ _)) rfl
 exact Rf.run rfl (key _  SlV.flat)
theorem qjt (av:Int × Int × Int) (am:List Int) (ar:Int) (aw:Int):XR (ini_Joined [(eT3 eI eI eI) av,(eL eI) am,eI ar,eI aw]) (RE.ok (RuleT.mk .joined av am ar aw)) fun v fs=>eRule v=.ins 5 fs:=by
 have h1:SlV true ((eT3 eI eI eI) av) (.val ((eT3 eI eI eI) av) ((eT3 eI eI eI) av).flat):=SlV.flat
 have h2:SlV false ((eL eI) am) (.val ((eL eI) am) ((eL eI) am).flat):=SlV.any
 have h3:SlV true (eI ar) (.val (eI ar) (eI ar).flat):=SlV.flat
 have h4:SlV true (eI aw) (.val (eI aw) (eI aw).flat):=SlV.flat
 refine Ini.run (fs:=qbb) (nf:=4) (n:=4) rfl ?_ ?_
 ·show BN _ _ _ ((RE.ok av).bind fun w_ground=>(RE.ok am).bind fun w_cells=>(RE.ok ar).bind fun w_wanted=>(RE.ok aw).bind fun w_of_sign=>RE.ok (RuleT.mk .joined w_ground w_cells w_wanted w_of_sign)) _
  unfold qaa;refine BN.cons (SN.fset (c:=5) (fs:=[]) (en:=(eT3 eI eI eI)) (XE.var (i:=1) rfl h1) rfl qaX rfl rfl rfl rfl) ?_;rintro w_ground _ rfl;refine BN.cons (SN.fset (c:=5) (fs:=[(eT3 eI eI eI) w_ground]) (en:=(eL eI)) (XE.pri1P (XE.var (i:=2) rfl h2) (qbP _)) rfl qaX rfl rfl rfl rfl) ?_;rintro w_cells _ rfl;refine BN.cons (SN.fset (c:=5) (fs:=[(eT3 eI eI eI) w_ground,(eL eI) w_cells]) (en:=eI) (XE.var (i:=3) rfl h3) rfl qaX rfl rfl rfl rfl) ?_;rintro w_wanted _ rfl;refine BN.cons (SN.fset (c:=5) (fs:=[(eT3 eI eI eI) w_ground,(eL eI) w_cells,eI w_wanted]) (en:=eI) (XE.var (i:=4) rfl h4) rfl qaX rfl rfl rfl rfl) ?_;rintro w_of_sign _ rfl;exact BN.nil ⟨_,rfl,rfl⟩
 ·intro v e;cases e;rfl
theorem qhN (av:Int × Int × Int) (am:List Int) (ar:Int) (aw:Int):XR (ini_NoSquare [(eT3 eI eI eI) av,(eL eI) am,eI ar,eI aw]) (RE.ok (RuleT.mk .nosquare av am ar aw)) fun v fs=>eRule v=.ins 6 fs:=by
 have h1:SlV true ((eT3 eI eI eI) av) (.val ((eT3 eI eI eI) av) ((eT3 eI eI eI) av).flat):=SlV.flat
 have h2:SlV false ((eL eI) am) (.val ((eL eI) am) ((eL eI) am).flat):=SlV.any
 have h3:SlV true (eI ar) (.val (eI ar) (eI ar).flat):=SlV.flat
 have h4:SlV true (eI aw) (.val (eI aw) (eI aw).flat):=SlV.flat
 refine Ini.run (fs:=qbb) (nf:=4) (n:=4) rfl ?_ ?_
 ·show BN _ _ _ ((RE.ok av).bind fun w_ground=>(RE.ok am).bind fun w_cells=>(RE.ok ar).bind fun w_wanted=>(RE.ok aw).bind fun w_of_sign=>RE.ok (RuleT.mk .nosquare w_ground w_cells w_wanted w_of_sign)) _
  unfold qaa;refine BN.cons (SN.fset (c:=6) (fs:=[]) (en:=(eT3 eI eI eI)) (XE.var (i:=1) rfl h1) rfl qaX rfl rfl rfl rfl) ?_;rintro w_ground _ rfl;refine BN.cons (SN.fset (c:=6) (fs:=[(eT3 eI eI eI) w_ground]) (en:=(eL eI)) (XE.pri1P (XE.var (i:=2) rfl h2) (qbP _)) rfl qaX rfl rfl rfl rfl) ?_;rintro w_cells _ rfl;refine BN.cons (SN.fset (c:=6) (fs:=[(eT3 eI eI eI) w_ground,(eL eI) w_cells]) (en:=eI) (XE.var (i:=3) rfl h3) rfl qaX rfl rfl rfl rfl) ?_;rintro w_wanted _ rfl;refine BN.cons (SN.fset (c:=6) (fs:=[(eT3 eI eI eI) w_ground,(eL eI) w_cells,eI w_wanted]) (en:=eI) (XE.var (i:=4) rfl h4) rfl qaX rfl rfl rfl rfl) ?_;rintro w_of_sign _ rfl;exact BN.nil ⟨_,rfl,rfl⟩
 ·intro v e;cases e;rfl
theorem qmK (av:Int × Int × Int) (am:List Int) (ar:Int) (aw:Int):XR (ini_Ring [(eT3 eI eI eI) av,(eL eI) am,eI ar,eI aw]) (RE.ok (RuleT.mk .ring av am ar aw)) fun v fs=>eRule v=.ins 7 fs:=by
 have h1:SlV true ((eT3 eI eI eI) av) (.val ((eT3 eI eI eI) av) ((eT3 eI eI eI) av).flat):=SlV.flat
 have h2:SlV false ((eL eI) am) (.val ((eL eI) am) ((eL eI) am).flat):=SlV.any
 have h3:SlV true (eI ar) (.val (eI ar) (eI ar).flat):=SlV.flat
 have h4:SlV true (eI aw) (.val (eI aw) (eI aw).flat):=SlV.flat
 refine Ini.run (fs:=qbb) (nf:=4) (n:=4) rfl ?_ ?_
 ·show BN _ _ _ ((RE.ok av).bind fun w_ground=>(RE.ok am).bind fun w_cells=>(RE.ok ar).bind fun w_wanted=>(RE.ok aw).bind fun w_of_sign=>RE.ok (RuleT.mk .ring w_ground w_cells w_wanted w_of_sign)) _
  unfold qaa;refine BN.cons (SN.fset (c:=7) (fs:=[]) (en:=(eT3 eI eI eI)) (XE.var (i:=1) rfl h1) rfl qaX rfl rfl rfl rfl) ?_;rintro w_ground _ rfl;refine BN.cons (SN.fset (c:=7) (fs:=[(eT3 eI eI eI) w_ground]) (en:=(eL eI)) (XE.pri1P (XE.var (i:=2) rfl h2) (qbP _)) rfl qaX rfl rfl rfl rfl) ?_;rintro w_cells _ rfl;refine BN.cons (SN.fset (c:=7) (fs:=[(eT3 eI eI eI) w_ground,(eL eI) w_cells]) (en:=eI) (XE.var (i:=3) rfl h3) rfl qaX rfl rfl rfl rfl) ?_;rintro w_wanted _ rfl;refine BN.cons (SN.fset (c:=7) (fs:=[(eT3 eI eI eI) w_ground,(eL eI) w_cells,eI w_wanted]) (en:=eI) (XE.var (i:=4) rfl h4) rfl qaX rfl rfl rfl rfl) ?_;rintro w_of_sign _ rfl;exact BN.nil ⟨_,rfl,rfl⟩
 ·intro v e;cases e;rfl
theorem qjW (af:Int × Int × Int) (ax:List Nat) (ay:List Int):Rf (g_whole_rule [(eT3 eI eI eI) af,eS ax,(eL eI) ay]) (F.whole_rule af ax ay) eRule .v true:=by
 have key:∀q0 q1 q2 q3 q4:Sl,SlV true ((eT3 eI eI eI) af) q0→SlV true (eS ax) q1→SlV false ((eL eI) ay) q2→BR qc8 qcb [q0,q1,q2,q3,q4] (F.whole_rule af ax ay) eRule .v true:=by
  intro q0 q1 q2 q3 q4 h0 h1 h2;unfold F.whole_rule qcb;refine BR.ifR (XT.val (XE.cmpP (XE.pri1P (XE.var (i:=2) rfl h2) (qf8 _)) XE.cint (qkb _ _))) ?_ ?_
  ·exact BR.rse rfl
  refine BR.cons (SN.asg (en:=eI) (fun q3=>[q0,q1,q2,q3,q4]) (XE.call3P rfl (XE.var (i:=0) rfl h0) (XE.var (i:=2) rfl h2) XE.cint (qgE af ay 0) rfl rfl) rfl fun _=>rfl) ?_;rintro ai _ ⟨q3,rfl,h3⟩;refine BR.cons (SN.asg (en:=(eL eI)) (fun q4=>[q0,q1,q2,q3,q4]) (XE.lrng (XRg.r1 (XE.call1P rfl (XE.var (i:=0) rfl h0) (qc2 af) rfl rfl))) rfl fun _=>rfl) ?_;rintro am _ ⟨q4,rfl,h4⟩;refine BR.ifR (XT.val (XE.cmpP (XE.var (i:=1) rfl h1) XE.cstr (qlF _ _))) ?_ ?_
  ·exact BR.ret (XE.new4P rfl (XE.var (i:=0) rfl h0) (XE.var (i:=4) rfl h4) XE.cint (XE.var (i:=3) rfl h3) (qjt _ _ _ _)) rfl
  refine BR.ifR (XT.val (XE.cmpP (XE.var (i:=1) rfl h1) XE.cstr (qlF _ _))) ?_ ?_
  ·exact BR.ret (XE.new4P rfl (XE.var (i:=0) rfl h0) (XE.var (i:=4) rfl h4) XE.cint (XE.var (i:=3) rfl h3) (qhN _ _ _ _)) rfl
  exact BR.ret (XE.new4P rfl (XE.var (i:=0) rfl h0) (XE.var (i:=4) rfl h4) XE.cint (XE.var (i:=3) rfl h3) (qmK _ _ _ _)) rfl
 exact Rf.run rfl (key _ _ _ .non .non SlV.flat SlV.flat SlV.any)
theorem qc0 (af:Int × Int × Int) (ay:List Int):Rf (g_cells_told [(eT3 eI eI eI) af,(eL eI) ay]) (F.cells_told af ay) (eL eI) .v false:=by
 have key:∀q0 q1:Sl,SlV true ((eT3 eI eI eI) af) q0→SlV false ((eL eI) ay) q1→BR qcY qcg [q0,q1] (F.cells_told af ay) (eL eI) .v false:=by
  intro q0 q1 h0 h1;unfold F.cells_told qcg;refine BR.ifR (XT.bop (XTs.or (XT.val (XE.cmpP (XE.var (i:=1) rfl h1) (XE.lstL XLs.nil) (qri _ _))) (XTs.or (XT.val (XE.cmpR (XE.lsetP (XE.var (i:=1) rfl h1)) (XE.pri1P (XE.var (i:=1) rfl h1) (qf8 _)) (fun x=>qkb x _))) (XTs.one (XT.val (XE.cmp (XE.pri1P (XE.var (i:=1) rfl h1) (qvm _)) (XE.call1P rfl (XE.var (i:=0) rfl h0) (qc2 af) rfl rfl) (fun x y=>qvp x y))))))) ?_ ?_
  ·exact BR.rse rfl
  exact BR.ret (XE.var (i:=1) rfl h1) rfl
 exact Rf.run rfl (key _ _  SlV.flat SlV.any)
theorem qjP (av:Int × Int × Int) (am:List Int) (ar:Int) (aw:Int):XR (ini_Unlike [(eT3 eI eI eI) av,(eL eI) am,eI ar,eI aw]) (RE.ok (RuleT.mk .unlike av am ar aw)) fun v fs=>eRule v=.ins 0 fs:=by
 have h1:SlV true ((eT3 eI eI eI) av) (.val ((eT3 eI eI eI) av) ((eT3 eI eI eI) av).flat):=SlV.flat
 have h2:SlV false ((eL eI) am) (.val ((eL eI) am) ((eL eI) am).flat):=SlV.any
 have h3:SlV true (eI ar) (.val (eI ar) (eI ar).flat):=SlV.flat
 have h4:SlV true (eI aw) (.val (eI aw) (eI aw).flat):=SlV.flat
 refine Ini.run (fs:=qbb) (nf:=4) (n:=4) rfl ?_ ?_
 ·show BN _ _ _ ((RE.ok av).bind fun w_ground=>(RE.ok am).bind fun w_cells=>(RE.ok ar).bind fun w_wanted=>(RE.ok aw).bind fun w_of_sign=>RE.ok (RuleT.mk .unlike w_ground w_cells w_wanted w_of_sign)) _
  unfold qaa;refine BN.cons (SN.fset (c:=0) (fs:=[]) (en:=(eT3 eI eI eI)) (XE.var (i:=1) rfl h1) rfl qaX rfl rfl rfl rfl) ?_;rintro w_ground _ rfl;refine BN.cons (SN.fset (c:=0) (fs:=[(eT3 eI eI eI) w_ground]) (en:=(eL eI)) (XE.pri1P (XE.var (i:=2) rfl h2) (qbP _)) rfl qaX rfl rfl rfl rfl) ?_;rintro w_cells _ rfl;refine BN.cons (SN.fset (c:=0) (fs:=[(eT3 eI eI eI) w_ground,(eL eI) w_cells]) (en:=eI) (XE.var (i:=3) rfl h3) rfl qaX rfl rfl rfl rfl) ?_;rintro w_wanted _ rfl;refine BN.cons (SN.fset (c:=0) (fs:=[(eT3 eI eI eI) w_ground,(eL eI) w_cells,eI w_wanted]) (en:=eI) (XE.var (i:=4) rfl h4) rfl qaX rfl rfl rfl rfl) ?_;rintro w_of_sign _ rfl;exact BN.nil ⟨_,rfl,rfl⟩
 ·intro v e;cases e;rfl
theorem qj1 (av:Int × Int × Int) (am:List Int) (ar:Int) (aw:Int):XR (ini_Rising [(eT3 eI eI eI) av,(eL eI) am,eI ar,eI aw]) (RE.ok (RuleT.mk .rising av am ar aw)) fun v fs=>eRule v=.ins 2 fs:=by
 have h1:SlV true ((eT3 eI eI eI) av) (.val ((eT3 eI eI eI) av) ((eT3 eI eI eI) av).flat):=SlV.flat
 have h2:SlV false ((eL eI) am) (.val ((eL eI) am) ((eL eI) am).flat):=SlV.any
 have h3:SlV true (eI ar) (.val (eI ar) (eI ar).flat):=SlV.flat
 have h4:SlV true (eI aw) (.val (eI aw) (eI aw).flat):=SlV.flat
 refine Ini.run (fs:=qbb) (nf:=4) (n:=4) rfl ?_ ?_
 ·show BN _ _ _ ((RE.ok av).bind fun w_ground=>(RE.ok am).bind fun w_cells=>(RE.ok ar).bind fun w_wanted=>(RE.ok aw).bind fun w_of_sign=>RE.ok (RuleT.mk .rising w_ground w_cells w_wanted w_of_sign)) _
  unfold qaa;refine BN.cons (SN.fset (c:=2) (fs:=[]) (en:=(eT3 eI eI eI)) (XE.var (i:=1) rfl h1) rfl qaX rfl rfl rfl rfl) ?_;rintro w_ground _ rfl;refine BN.cons (SN.fset (c:=2) (fs:=[(eT3 eI eI eI) w_ground]) (en:=(eL eI)) (XE.pri1P (XE.var (i:=2) rfl h2) (qbP _)) rfl qaX rfl rfl rfl rfl) ?_;rintro w_cells _ rfl;refine BN.cons (SN.fset (c:=2) (fs:=[(eT3 eI eI eI) w_ground,(eL eI) w_cells]) (en:=eI) (XE.var (i:=3) rfl h3) rfl qaX rfl rfl rfl rfl) ?_;rintro w_wanted _ rfl;refine BN.cons (SN.fset (c:=2) (fs:=[(eT3 eI eI eI) w_ground,(eL eI) w_cells,eI w_wanted]) (en:=eI) (XE.var (i:=4) rfl h4) rfl qaX rfl rfl rfl rfl) ?_;rintro w_of_sign _ rfl;exact BN.nil ⟨_,rfl,rfl⟩
 ·intro v e;cases e;rfl
theorem qiM (av:Int × Int × Int) (am:List Int) (ar:Int) (aw:Int):XR (ini_Counted [(eT3 eI eI eI) av,(eL eI) am,eI ar,eI aw]) (RE.ok (RuleT.mk .counted av am ar aw)) fun v fs=>eRule v=.ins 4 fs:=by
 have h1:SlV true ((eT3 eI eI eI) av) (.val ((eT3 eI eI eI) av) ((eT3 eI eI eI) av).flat):=SlV.flat
 have h2:SlV false ((eL eI) am) (.val ((eL eI) am) ((eL eI) am).flat):=SlV.any
 have h3:SlV true (eI ar) (.val (eI ar) (eI ar).flat):=SlV.flat
 have h4:SlV true (eI aw) (.val (eI aw) (eI aw).flat):=SlV.flat
 refine Ini.run (fs:=qbb) (nf:=4) (n:=4) rfl ?_ ?_
 ·show BN _ _ _ ((RE.ok av).bind fun w_ground=>(RE.ok am).bind fun w_cells=>(RE.ok ar).bind fun w_wanted=>(RE.ok aw).bind fun w_of_sign=>RE.ok (RuleT.mk .counted w_ground w_cells w_wanted w_of_sign)) _
  unfold qaa;refine BN.cons (SN.fset (c:=4) (fs:=[]) (en:=(eT3 eI eI eI)) (XE.var (i:=1) rfl h1) rfl qaX rfl rfl rfl rfl) ?_;rintro w_ground _ rfl;refine BN.cons (SN.fset (c:=4) (fs:=[(eT3 eI eI eI) w_ground]) (en:=(eL eI)) (XE.pri1P (XE.var (i:=2) rfl h2) (qbP _)) rfl qaX rfl rfl rfl rfl) ?_;rintro w_cells _ rfl;refine BN.cons (SN.fset (c:=4) (fs:=[(eT3 eI eI eI) w_ground,(eL eI) w_cells]) (en:=eI) (XE.var (i:=3) rfl h3) rfl qaX rfl rfl rfl rfl) ?_;rintro w_wanted _ rfl;refine BN.cons (SN.fset (c:=4) (fs:=[(eT3 eI eI eI) w_ground,(eL eI) w_cells,eI w_wanted]) (en:=eI) (XE.var (i:=4) rfl h4) rfl qaX rfl rfl rfl rfl) ?_;rintro w_of_sign _ rfl;exact BN.nil ⟨_,rfl,rfl⟩
 ·intro v e;cases e;rfl
theorem qkO (av:Int × Int × Int) (am:List Int) (ar:Int) (aw:Int):XR (ini_Total [(eT3 eI eI eI) av,(eL eI) am,eI ar,eI aw]) (RE.ok (RuleT.mk .total av am ar aw)) fun v fs=>eRule v=.ins 1 fs:=by
 have h1:SlV true ((eT3 eI eI eI) av) (.val ((eT3 eI eI eI) av) ((eT3 eI eI eI) av).flat):=SlV.flat
 have h2:SlV false ((eL eI) am) (.val ((eL eI) am) ((eL eI) am).flat):=SlV.any
 have h3:SlV true (eI ar) (.val (eI ar) (eI ar).flat):=SlV.flat
 have h4:SlV true (eI aw) (.val (eI aw) (eI aw).flat):=SlV.flat
 refine Ini.run (fs:=qbb) (nf:=4) (n:=4) rfl ?_ ?_
 ·show BN _ _ _ ((RE.ok av).bind fun w_ground=>(RE.ok am).bind fun w_cells=>(RE.ok ar).bind fun w_wanted=>(RE.ok aw).bind fun w_of_sign=>RE.ok (RuleT.mk .total w_ground w_cells w_wanted w_of_sign)) _
  unfold qaa;refine BN.cons (SN.fset (c:=1) (fs:=[]) (en:=(eT3 eI eI eI)) (XE.var (i:=1) rfl h1) rfl qaX rfl rfl rfl rfl) ?_;rintro w_ground _ rfl;refine BN.cons (SN.fset (c:=1) (fs:=[(eT3 eI eI eI) w_ground]) (en:=(eL eI)) (XE.pri1P (XE.var (i:=2) rfl h2) (qbP _)) rfl qaX rfl rfl rfl rfl) ?_;rintro w_cells _ rfl;refine BN.cons (SN.fset (c:=1) (fs:=[(eT3 eI eI eI) w_ground,(eL eI) w_cells]) (en:=eI) (XE.var (i:=3) rfl h3) rfl qaX rfl rfl rfl rfl) ?_;rintro w_wanted _ rfl;refine BN.cons (SN.fset (c:=1) (fs:=[(eT3 eI eI eI) w_ground,(eL eI) w_cells,eI w_wanted]) (en:=eI) (XE.var (i:=4) rfl h4) rfl qaX rfl rfl rfl rfl) ?_;rintro w_of_sign _ rfl;exact BN.nil ⟨_,rfl,rfl⟩
 ·intro v e;cases e;rfl
theorem qmX (av:Int × Int × Int) (am:List Int) (ar:Int) (aw:Int):XR (ini_Seen [(eT3 eI eI eI) av,(eL eI) am,eI ar,eI aw]) (RE.ok (RuleT.mk .seen av am ar aw)) fun v fs=>eRule v=.ins 3 fs:=by
 have h1:SlV true ((eT3 eI eI eI) av) (.val ((eT3 eI eI eI) av) ((eT3 eI eI eI) av).flat):=SlV.flat
 have h2:SlV false ((eL eI) am) (.val ((eL eI) am) ((eL eI) am).flat):=SlV.any
 have h3:SlV true (eI ar) (.val (eI ar) (eI ar).flat):=SlV.flat
 have h4:SlV true (eI aw) (.val (eI aw) (eI aw).flat):=SlV.flat
 refine Ini.run (fs:=qbb) (nf:=4) (n:=4) rfl ?_ ?_
 ·show BN _ _ _ ((RE.ok av).bind fun w_ground=>(RE.ok am).bind fun w_cells=>(RE.ok ar).bind fun w_wanted=>(RE.ok aw).bind fun w_of_sign=>RE.ok (RuleT.mk .seen w_ground w_cells w_wanted w_of_sign)) _
  unfold qaa;refine BN.cons (SN.fset (c:=3) (fs:=[]) (en:=(eT3 eI eI eI)) (XE.var (i:=1) rfl h1) rfl qaX rfl rfl rfl rfl) ?_;rintro w_ground _ rfl;refine BN.cons (SN.fset (c:=3) (fs:=[(eT3 eI eI eI) w_ground]) (en:=(eL eI)) (XE.pri1P (XE.var (i:=2) rfl h2) (qbP _)) rfl qaX rfl rfl rfl rfl) ?_;rintro w_cells _ rfl;refine BN.cons (SN.fset (c:=3) (fs:=[(eT3 eI eI eI) w_ground,(eL eI) w_cells]) (en:=eI) (XE.var (i:=3) rfl h3) rfl qaX rfl rfl rfl rfl) ?_;rintro w_wanted _ rfl;refine BN.cons (SN.fset (c:=3) (fs:=[(eT3 eI eI eI) w_ground,(eL eI) w_cells,eI w_wanted]) (en:=eI) (XE.var (i:=4) rfl h4) rfl qaX rfl rfl rfl rfl) ?_;rintro w_of_sign _ rfl;exact BN.nil ⟨_,rfl,rfl⟩
 ·intro v e;cases e;rfl
theorem qkQ (af:Int × Int × Int) (aS:D):Rf (g_read_rule [(eT3 eI eI eI) af,eD aS]) (F.read_rule af aS) eRule .v true:=by
 have key:∀q0 q1 q2 q3 q4 q5 q6 q7:Sl,SlV true ((eT3 eI eI eI) af) q0→SlV false (eD aS) q1→BR qdD qcG [q0,q1,q2,q3,q4,q5,q6,q7] (F.read_rule af aS) eRule .v true:=by
  intro q0 q1 q2 q3 q4 q5 q6 q7 h0 h1;unfold F.read_rule qcG;refine BR.ifR (XT.not (XT.val (XE.isiD (XE.var (i:=1) rfl h1)))) ?_ ?_
  ·exact BR.rse rfl
  refine BR.cons (SN.asg (en:=(eL eS)) (fun q2=>[q0,q1,q2,q3,q4,q5,q6,q7]) (XE.split (XE.dec (f:=dS) (XE.var (i:=1) rfl h1) qwf) XE.cstr) rfl fun _=>rfl) ?_;rintro aU _ ⟨q2,rfl,h2⟩;refine BR.cons (SN.asg (en:=eS) (fun q3=>[q0,q1,q2,q3,q4,q5,q6,q7]) (XE.idxFP (XE.var (i:=2) rfl h2) XE.cint) rfl fun _=>rfl) ?_;rintro ax _ ⟨q3,rfl,h3⟩;refine BR.ifR (XT.val (XE.cmpP (XE.var (i:=3) rfl h3) (XE.tupL (en:=eS) (XLs.cons XE.cstr rfl (XLs.cons XE.cstr rfl (XLs.cons XE.cstr rfl (XLs.cons XE.cstr rfl (XLs.cons XE.cstr rfl (XLs.cons XE.cstr rfl (XLs.cons XE.cstr rfl (XLs.cons XE.cstr rfl XLs.nil))))))))) (qsE _ _))) ?_ ?_
  ·exact BR.rse rfl
  refine BR.cons (SN.asg (en:=(eL eI)) (fun q4=>[q0,q1,q2,q3,q4,q5,q6,q7]) (XE.lc (t0:=true) (fun q5=>[q0,q1,q2,q3,q4,q5,q6,q7]) (XI.list (XE.slcP (XE.var (i:=2) rfl h2) (XO.oneP XE.cint) XO.nil) rfl) (fun _=>.inl rfl) (fun _=>rfl) (fun aE q5 h5=>XTs.nil) (fun aE q5 h5 _=>(XE.call1P rfl (XE.var (i:=5) rfl h5) (qls aE) rfl rfl)) rfl) rfl fun _=>rfl) ?_;rintro ay _ ⟨q4,rfl,h4⟩;refine BR.ifR (XT.val (XE.cmpP (XE.var (i:=3) rfl h3) (XE.tupL (en:=eS) (XLs.cons XE.cstr rfl (XLs.cons XE.cstr rfl (XLs.cons XE.cstr rfl XLs.nil)))) (qrg _ _))) ?_ ?_
  ·exact BR.ret (XE.call3P rfl (XE.var (i:=0) rfl h0) (XE.var (i:=3) rfl h3) (XE.var (i:=4) rfl h4) (qjW af ax ay) rfl rfl) rfl
  refine BR.ifR (XT.val (XE.cmpP (XE.var (i:=3) rfl h3) XE.cstr (qlF _ _))) ?_ ?_
  ·exact BR.ret (XE.new4 rfl (XE.var (i:=0) rfl h0) (XE.call2P rfl (XE.var (i:=0) rfl h0) (XE.var (i:=4) rfl h4) (qc0 af ay) rfl rfl) XE.cint XE.cint (fun _ _ _ _=>qjP _ _ _ _)) rfl
  refine BR.ifR (XT.val (XE.cmpP (XE.var (i:=3) rfl h3) XE.cstr (qlF _ _))) ?_ ?_
  ·exact BR.ret (XE.new4 rfl (XE.var (i:=0) rfl h0) (XE.call2P rfl (XE.var (i:=0) rfl h0) (XE.var (i:=4) rfl h4) (qc0 af ay) rfl rfl) XE.cint XE.cint (fun _ _ _ _=>qj1 _ _ _ _)) rfl
  refine BR.ifR (XT.val (XE.cmpP (XE.var (i:=3) rfl h3) XE.cstr (qlF _ _))) ?_ ?_
  ·refine BR.cons (SN.asg (en:=eI) (fun q6=>[q0,q1,q2,q3,q4,q5,q6,q7]) (XE.call3P rfl (XE.var (i:=0) rfl h0) (XE.var (i:=4) rfl h4) XE.cint (qgE af ay 1) rfl rfl) rfl fun _=>rfl) ?_;rintro ai _ ⟨q6,rfl,h6⟩;exact BR.ret (XE.new4 rfl (XE.var (i:=0) rfl h0) (XE.call2P rfl (XE.var (i:=0) rfl h0) (XE.slcP (XE.var (i:=4) rfl h4) (XO.oneP XE.cint) XO.nil) (qc0 af (qe5 ay (some 2) none)) rfl rfl) (XE.idxFP (XE.var (i:=4) rfl h4) XE.cint) (XE.var (i:=6) rfl h6) (fun _ _ _ _=>qiM _ _ _ _)) rfl
  refine BR.cons (SN.asg (en:=(eL eI)) (fun q7=>[q0,q1,q2,q3,q4,q5,q6,q7]) (XE.call2P rfl (XE.var (i:=0) rfl h0) (XE.slcP (XE.var (i:=4) rfl h4) (XO.oneP XE.cint) XO.nil) (qc0 af (qe5 ay (some 1) none)) rfl rfl) rfl fun _=>rfl) ?_;rintro am _ ⟨q7,rfl,h7⟩;refine BR.ifR (XT.val (XE.cmpP (XE.var (i:=3) rfl h3) XE.cstr (qlF _ _))) ?_ ?_
  ·exact BR.ret (XE.new4 rfl (XE.var (i:=0) rfl h0) (XE.var (i:=7) rfl h7) (XE.idxFP (XE.var (i:=4) rfl h4) XE.cint) XE.cint (fun _ _ _ _=>qkO _ _ _ _)) rfl
  exact BR.ret (XE.new4 rfl (XE.var (i:=0) rfl h0) (XE.var (i:=7) rfl h7) (XE.idxFP (XE.var (i:=4) rfl h4) XE.cint) XE.cint (fun _ _ _ _=>qmX _ _ _ _)) rfl
 exact Rf.run rfl (key _ _ .non .non .non .non .non .non SlV.flat SlV.any)
theorem qjw (af:Int × Int × Int) (ao:List Int):Rf (g_is_filling [(eT3 eI eI eI) af,(eL eI) ao]) (F.is_filling af ao) eB .v true:=by
 have key:∀q0 q1 q2:Sl,SlV true ((eT3 eI eI eI) af) q0→SlV false ((eL eI) ao) q1→BR qc1 qcd [q0,q1,q2] (F.is_filling af ao) eB .v true:=by
  intro q0 q1 q2 h0 h1;unfold F.is_filling qcd;refine BR.ifR (XT.val (XE.cmpL (XE.pri1P (XE.var (i:=1) rfl h1) (qf8 _)) (XE.call1P rfl (XE.var (i:=0) rfl h0) (qc2 af) rfl rfl) (fun y=>qkb _ y))) ?_ ?_
  ·exact BR.ret XE.cbl rfl
  exact BR.ret (XE.pri1 ((XE.lc (t0:=true) (fun q2=>[q0,q1,q2]) (XI.list (XE.var (i:=1) rfl h1) rfl) (fun _=>.inr inferInstance) (fun _=>rfl) (fun ai q2 h2=>XTs.nil) (fun ai q2 h2 _=>(XE.chnP XE.cint (XE.var (i:=2) rfl h2) (XE.prtP (x:=af) (t2:=true) (f:=fun p=>p.2.2) (en2:=eI) (XE.var (i:=0) rfl h0) (fun _ _=>rfl) (fun _=>.inl rfl)) (qf9 _ _) (qf9 _ _))) rfl).cast (qrw _ _)) (fun x=>qwo x)) rfl
 exact Rf.run rfl (key _ _ .non SlV.flat SlV.any)
theorem qeg (af:Int × Int × Int) (az:List D) (a7:List Int):XR (ini_Puzzle [(eT3 eI eI eI) af,(eL eD) az,(eL eI) a7]) (F.Puzzle_new af az a7) fun v fs=>ePuz v=.ins 25 fs:=by
 have h1:SlV true ((eT3 eI eI eI) af) (.val ((eT3 eI eI eI) af) ((eT3 eI eI eI) af).flat):=SlV.flat
 have h2:SlV false ((eL eD) az) (.val ((eL eD) az) ((eL eD) az).flat):=SlV.any
 have h3:SlV false ((eL eI) a7) (.val ((eL eI) a7) ((eL eI) a7).flat):=SlV.any
 refine Ini.run (fs:=qdq) (nf:=3) (n:=3) rfl ?_ ?_
 ·unfold F.Puzzle_new;unfold qbg;refine BN.ifE rfl (XT.val (XE.cmpP (XE.pri1P (XE.var (i:=1) rfl h1) (qte _)) XE.cint (qkb _ _))) rfl ?_;refine BN.cons (SN.fset (c:=25) (fs:=[]) (en:=(eT3 eI eI eI)) (XE.call3P rfl (XE.prtP (x:=af) (t2:=true) (f:=fun p=>p.1) (en2:=eI) (XE.var (i:=1) rfl h1) (fun _ _=>rfl) (fun _=>.inl rfl)) (XE.prtP (x:=af) (t2:=true) (f:=fun p=>p.2.1) (en2:=eI) (XE.var (i:=1) rfl h1) (fun _ _=>rfl) (fun _=>.inl rfl)) (XE.prtP (x:=af) (t2:=true) (f:=fun p=>p.2.2) (en2:=eI) (XE.var (i:=1) rfl h1) (fun _ _=>rfl) (fun _=>.inl rfl)) (qh1 af.1 af.2.1 af.2.2) rfl rfl) rfl qaX rfl rfl rfl rfl) ?_;rintro w_ground _ rfl;refine BN.ifE rfl (XT.val (XE.cmpP (XE.pri1P (XE.var (i:=2) rfl h2) (qf8 _)) (XE.glo (x:=(12:Int)) rfl rfl) (qnS _ _))) rfl ?_;refine BN.cons (SN.fset (c:=25) (fs:=[(eT3 eI eI eI) w_ground]) (en:=(eL eRule)) (XE.lc (t0:=false) (fun q4=>[.slf 25 [(eT3 eI eI eI) w_ground],.val ((eT3 eI eI eI) af) ((eT3 eI eI eI) af).flat,.val ((eL eD) az) ((eL eD) az).flat,.val ((eL eI) a7) ((eL eI) a7).flat,q4]) (XI.list (XE.var (i:=2) rfl h2) rfl) ht0 (fun _=>rfl) (fun aS q4 h4=>XTs.nil) (fun aS q4 h4 _=>(XE.call2P rfl (XE.sfd (en:=(eT3 eI eI eI)) rfl rfl rfl) (XE.var (i:=4) rfl h4) (qkQ w_ground aS) rfl rfl)) rfl) rfl qaX rfl rfl rfl rfl) ?_;rintro w_rule_list _ rfl;refine BN.ifE rfl (XT.not (XT.val (XE.call2P rfl (XE.sfd (en:=(eT3 eI eI eI)) rfl rfl rfl) (XE.var (i:=3) rfl h3) (qjw w_ground a7) rfl rfl))) rfl ?_;refine BN.cons (SN.fset (c:=25) (fs:=[(eT3 eI eI eI) w_ground,(eL eRule) w_rule_list]) (en:=(eL eI)) (XE.pri1P (XE.var (i:=3) rfl h3) (qbP _)) rfl qaX rfl rfl rfl rfl) ?_;rintro w_clue_list _ rfl;exact BN.nil ⟨_,rfl,rfl⟩
 ·intro v e;rfl
theorem qdl (ab:PuzT):Rf (g_Puzzle_place [ePuz ab]) (F.Puzzle_place ab) (eT3 eI eI eI) .v true:=by
 have key:∀q0:Sl,SlV true (ePuz ab) q0→BR qb5 qbm [q0] (F.Puzzle_place ab) (eT3 eI eI eI) .v true:=by
  intro q0 h0;unfold F.Puzzle_place qbm;exact BR.ret (XE.fldFP (x:=ab) (cl:=(fun _=>25)) (fs:=qdq) (p:=fun v=>v.ground) (en:=(eT3 eI eI eI)) (XE.var (i:=0) rfl h0) (fun _=>rfl) (by intro v;obtain⟨_,_,_⟩:=v;exact⟨_,rfl,rfl⟩)) rfl
 exact Rf.run rfl (key _  SlV.flat)
theorem qiC (ab:RuleT):Rf (g_Unlike_name [eRule ab]) (F.Unlike_name ab) eS .v true:=by
 have key:∀q0:Sl,SlV true (eRule ab) q0→BR qcs qbM [q0] (F.Unlike_name ab) eS .v true:=by
  intro q0 h0;unfold F.Unlike_name qbM;exact BR.ret XE.cstr rfl
 exact Rf.run rfl (key _  SlV.flat)
theorem qkD (ab:RuleT):Rf (g_Total_name [eRule ab]) (F.Total_name ab) eS .v true:=by
 have key:∀q0:Sl,SlV true (eRule ab) q0→BR qdc qci [q0] (F.Total_name ab) eS .v true:=by
  intro q0 h0;unfold F.Total_name qci;exact BR.ret XE.cstr rfl
 exact Rf.run rfl (key _  SlV.flat)
theorem qja (ab:RuleT):Rf (g_Rising_name [eRule ab]) (F.Rising_name ab) eS .v true:=by
 have key:∀q0:Sl,SlV true (eRule ab) q0→BR qcq qbB [q0] (F.Rising_name ab) eS .v true:=by
  intro q0 h0;unfold F.Rising_name qbB;exact BR.ret XE.cstr rfl
 exact Rf.run rfl (key _  SlV.flat)
theorem qkU (ab:RuleT):Rf (g_Seen_name [eRule ab]) (F.Seen_name ab) eS .v true:=by
 have key:∀q0:Sl,SlV true (eRule ab) q0→BR qdO qcF [q0] (F.Seen_name ab) eS .v true:=by
  intro q0 h0;unfold F.Seen_name qcF;exact BR.ret XE.cstr rfl
 exact Rf.run rfl (key _  SlV.flat)
theorem qhw (ab:RuleT):Rf (g_Counted_name [eRule ab]) (F.Counted_name ab) eS .v true:=by
 have key:∀q0:Sl,SlV true (eRule ab) q0→BR qb0 qbu [q0] (F.Counted_name ab) eS .v true:=by
  intro q0 h0;unfold F.Counted_name qbu;exact BR.ret XE.cstr rfl
 exact Rf.run rfl (key _  SlV.flat)
theorem qiA (ab:RuleT):Rf (g_Joined_name [eRule ab]) (F.Joined_name ab) eS .v true:=by
 have key:∀q0:Sl,SlV true (eRule ab) q0→BR qcu qbE [q0] (F.Joined_name ab) eS .v true:=by
  intro q0 h0;unfold F.Joined_name qbE;exact BR.ret XE.cstr rfl
 exact Rf.run rfl (key _  SlV.flat)
theorem qgP (ab:RuleT):Rf (g_NoSquare_name [eRule ab]) (F.NoSquare_name ab) eS .v true:=by
 have key:∀q0:Sl,SlV true (eRule ab) q0→BR qbL qa8 [q0] (F.NoSquare_name ab) eS .v true:=by
  intro q0 h0;unfold F.NoSquare_name qa8;exact BR.ret XE.cstr rfl
 exact Rf.run rfl (key _  SlV.flat)
theorem qlg (ab:RuleT):Rf (g_Ring_name [eRule ab]) (F.Ring_name ab) eS .v true:=by
 have key:∀q0:Sl,SlV true (eRule ab) q0→BR qdJ qcU [q0] (F.Ring_name ab) eS .v true:=by
  intro q0 h0;unfold F.Ring_name qcU;exact BR.ret XE.cstr rfl
 exact Rf.run rfl (key _  SlV.flat)
theorem qcW (ab:RuleT):Rf (g_Rule_told_numbers [eRule ab]) (F.Rule_told_numbers ab) (eL eI) .f true:=by
 have key:∀q0:Sl,SlV true (eRule ab) q0→BR qaJ qaq [q0] (F.Rule_told_numbers ab) (eL eI) .f true:=by
  intro q0 h0;unfold F.Rule_told_numbers qaq;exact BR.ret (XE.pri1P (XE.fldP (x:=ab) (cl:=(fun r=>r.k.c)) (fs:=qbb) (p:=fun v=>v.cells) (en:=(eL eI)) (XE.var (i:=0) rfl h0) (fun _=>rfl) (by intro v;obtain⟨k,_,_,_,_⟩:=v;cases k<;>exact⟨_,rfl,rfl⟩)) (qbP _)) rfl
 exact Rf.run rfl (key _  SlV.flat)
theorem qex (ab:RuleT):Rf (g_Total_told_numbers [eRule ab]) (F.Total_told_numbers ab) (eL eI) .f false:=by
 have key:∀q0:Sl,SlV true (eRule ab) q0→BR qaR qax [q0] (F.Total_told_numbers ab) (eL eI) .f false:=by
  intro q0 h0;unfold F.Total_told_numbers qax;exact BR.ret (XE.binP (XE.lstL (en:=eI) (XLs.cons (XE.fldFP (x:=ab) (cl:=(fun r=>r.k.c)) (fs:=qbb) (p:=fun v=>v.wanted) (en:=eI) (XE.var (i:=0) rfl h0) (fun _=>rfl) (by intro v;obtain⟨k,_,_,_,_⟩:=v;cases k<;>exact⟨_,rfl,rfl⟩)) rfl XLs.nil)) (XE.fldP (x:=ab) (cl:=(fun r=>r.k.c)) (fs:=qbb) (p:=fun v=>v.cells) (en:=(eL eI)) (XE.var (i:=0) rfl h0) (fun _=>rfl) (by intro v;obtain⟨k,_,_,_,_⟩:=v;cases k<;>exact⟨_,rfl,rfl⟩)) (qj0 (en:=eI) _ _)) rfl
 exact Rf.run rfl (key _  SlV.flat)
theorem qe4 (ab:RuleT):Rf (g_Seen_told_numbers [eRule ab]) (F.Seen_told_numbers ab) (eL eI) .f false:=by
 have key:∀q0:Sl,SlV true (eRule ab) q0→BR qaY qaI [q0] (F.Seen_told_numbers ab) (eL eI) .f false:=by
  intro q0 h0;unfold F.Seen_told_numbers qaI;exact BR.ret (XE.binP (XE.lstL (en:=eI) (XLs.cons (XE.fldFP (x:=ab) (cl:=(fun r=>r.k.c)) (fs:=qbb) (p:=fun v=>v.wanted) (en:=eI) (XE.var (i:=0) rfl h0) (fun _=>rfl) (by intro v;obtain⟨k,_,_,_,_⟩:=v;cases k<;>exact⟨_,rfl,rfl⟩)) rfl XLs.nil)) (XE.fldP (x:=ab) (cl:=(fun r=>r.k.c)) (fs:=qbb) (p:=fun v=>v.cells) (en:=(eL eI)) (XE.var (i:=0) rfl h0) (fun _=>rfl) (by intro v;obtain⟨k,_,_,_,_⟩:=v;cases k<;>exact⟨_,rfl,rfl⟩)) (qj0 (en:=eI) _ _)) rfl
 exact Rf.run rfl (key _  SlV.flat)
theorem qd0 (ab:RuleT):Rf (g_Counted_told_numbers [eRule ab]) (F.Counted_told_numbers ab) (eL eI) .f false:=by
 have key:∀q0:Sl,SlV true (eRule ab) q0→BR qaM qan [q0] (F.Counted_told_numbers ab) (eL eI) .f false:=by
  intro q0 h0;unfold F.Counted_told_numbers qan;exact BR.ret (XE.binP (XE.lstL (en:=eI) (XLs.cons (XE.fldFP (x:=ab) (cl:=(fun r=>r.k.c)) (fs:=qbb) (p:=fun v=>v.wanted) (en:=eI) (XE.var (i:=0) rfl h0) (fun _=>rfl) (by intro v;obtain⟨k,_,_,_,_⟩:=v;cases k<;>exact⟨_,rfl,rfl⟩)) rfl (XLs.cons (XE.fldFP (x:=ab) (cl:=(fun r=>r.k.c)) (fs:=qbb) (p:=fun v=>v.sign) (en:=eI) (XE.var (i:=0) rfl h0) (fun _=>rfl) (by intro v;obtain⟨k,_,_,_,_⟩:=v;cases k<;>exact⟨_,rfl,rfl⟩)) rfl XLs.nil))) (XE.fldP (x:=ab) (cl:=(fun r=>r.k.c)) (fs:=qbb) (p:=fun v=>v.cells) (en:=(eL eI)) (XE.var (i:=0) rfl h0) (fun _=>rfl) (by intro v;obtain⟨k,_,_,_,_⟩:=v;cases k<;>exact⟨_,rfl,rfl⟩)) (qj0 (en:=eI) _ _)) rfl
 exact Rf.run rfl (key _  SlV.flat)
theorem qel (ab:RuleT):Rf (g_Joined_told_numbers [eRule ab]) (F.Joined_told_numbers ab) (eL eI) .f true:=by
 have key:∀q0:Sl,SlV true (eRule ab) q0→BR qaO qar [q0] (F.Joined_told_numbers ab) (eL eI) .f true:=by
  intro q0 h0;unfold F.Joined_told_numbers qar;exact BR.ret (XE.lstL (en:=eI) (XLs.cons (XE.fldFP (x:=ab) (cl:=(fun r=>r.k.c)) (fs:=qbb) (p:=fun v=>v.sign) (en:=eI) (XE.var (i:=0) rfl h0) (fun _=>rfl) (by intro v;obtain⟨k,_,_,_,_⟩:=v;cases k<;>exact⟨_,rfl,rfl⟩)) rfl XLs.nil)) rfl
 exact Rf.run rfl (key _  SlV.flat)
theorem qdI (ab:RuleT):Rf (g_NoSquare_told_numbers [eRule ab]) (F.NoSquare_told_numbers ab) (eL eI) .f true:=by
 have key:∀q0:Sl,SlV true (eRule ab) q0→BR qaz qal [q0] (F.NoSquare_told_numbers ab) (eL eI) .f true:=by
  intro q0 h0;unfold F.NoSquare_told_numbers qal;exact BR.ret (XE.lstL (en:=eI) (XLs.cons (XE.fldFP (x:=ab) (cl:=(fun r=>r.k.c)) (fs:=qbb) (p:=fun v=>v.sign) (en:=eI) (XE.var (i:=0) rfl h0) (fun _=>rfl) (by intro v;obtain⟨k,_,_,_,_⟩:=v;cases k<;>exact⟨_,rfl,rfl⟩)) rfl XLs.nil)) rfl
 exact Rf.run rfl (key _  SlV.flat)
theorem qeV (ab:RuleT):Rf (g_Ring_told_numbers [eRule ab]) (F.Ring_told_numbers ab) (eL eI) .f true:=by
 have key:∀q0:Sl,SlV true (eRule ab) q0→BR qaW qaD [q0] (F.Ring_told_numbers ab) (eL eI) .f true:=by
  intro q0 h0;unfold F.Ring_told_numbers qaD;exact BR.ret (XE.lstL (en:=eI) (XLs.cons (XE.fldFP (x:=ab) (cl:=(fun r=>r.k.c)) (fs:=qbb) (p:=fun v=>v.sign) (en:=eI) (XE.var (i:=0) rfl h0) (fun _=>rfl) (by intro v;obtain⟨k,_,_,_,_⟩:=v;cases k<;>exact⟨_,rfl,rfl⟩)) rfl XLs.nil)) rfl
 exact Rf.run rfl (key _  SlV.flat)
theorem qa6 (ab:RuleT):Rf (g_Rule_line [eRule ab]) (F.Rule_line ab) eS .v true:=by
 have key:∀q0 q1:Sl,SlV true (eRule ab) q0→BR qaH qav [q0,q1] (F.Rule_line ab) eS .v true:=by
  intro q0 q1 h0;unfold F.Rule_line qav;exact BR.ret (XE.join XE.cstr (XE.bin (XE.cast (m':=(F.m_name ab).bind fun x1=>RE.ok [x1]) (XE.lstS (F:=fun w=>[w.1]) (en:=eS) (XS.cons (XE.mth0P (F:=fun r=>F.m_name r) (cl:=(fun r=>r.k.c)) (fs:=qbb) (XE.var (i:=0) rfl h0) (fun _=>rfl)  (by intro r;obtain⟨k,a0,a1,a2,a3⟩:=r;cases k;exact⟨_,rfl,qiC ⟨.unlike,a0,a1,a2,a3⟩⟩;exact⟨_,rfl,qkD ⟨.total,a0,a1,a2,a3⟩⟩;exact⟨_,rfl,qja ⟨.rising,a0,a1,a2,a3⟩⟩;exact⟨_,rfl,qkU ⟨.seen,a0,a1,a2,a3⟩⟩;exact⟨_,rfl,qhw ⟨.counted,a0,a1,a2,a3⟩⟩;exact⟨_,rfl,qiA ⟨.joined,a0,a1,a2,a3⟩⟩;exact⟨_,rfl,qgP ⟨.nosquare,a0,a1,a2,a3⟩⟩;exact⟨_,rfl,qlg ⟨.ring,a0,a1,a2,a3⟩⟩) rfl rfl) XS.nil) (fun _=>rfl) rfl) (by simp only[RE.bind_assoc,RE.bind_ok])) (XE.lc (t0:=true) (fun q1=>[q0,q1]) (XI.list (XE.mth0P (F:=fun r=>F.m_told_numbers r) (cl:=(fun r=>r.k.c)) (fs:=qbb) (XE.var (i:=0) rfl h0) (fun _=>rfl)  (by intro r;obtain⟨k,a0,a1,a2,a3⟩:=r;cases k;exact⟨_,rfl,Rf.low (qcW ⟨.unlike,a0,a1,a2,a3⟩)⟩;exact⟨_,rfl,qex ⟨.total,a0,a1,a2,a3⟩⟩;exact⟨_,rfl,Rf.low (qcW ⟨.rising,a0,a1,a2,a3⟩)⟩;exact⟨_,rfl,qe4 ⟨.seen,a0,a1,a2,a3⟩⟩;exact⟨_,rfl,qd0 ⟨.counted,a0,a1,a2,a3⟩⟩;exact⟨_,rfl,Rf.low (qel ⟨.joined,a0,a1,a2,a3⟩)⟩;exact⟨_,rfl,Rf.low (qdI ⟨.nosquare,a0,a1,a2,a3⟩)⟩;exact⟨_,rfl,Rf.low (qeV ⟨.ring,a0,a1,a2,a3⟩)⟩) rfl rfl) rfl) (fun _=>.inr inferInstance) (fun _=>rfl) (fun a9 q1 h1=>XTs.nil) (fun a9 q1 h1 _=>(XE.pri1P (XE.var (i:=1) rfl h1) (qkj _))) rfl) (fun x y=>qj0 (en:=eS) x y))) rfl
 exact Rf.run rfl (key _ .non SlV.flat)
theorem qbk (ab:PuzT):Rf (g_Puzzle_lines [ePuz ab]) (F.Puzzle_lines ab) (eL eS) .f true:=by
 have key:∀q0 q1:Sl,SlV true (ePuz ab) q0→BR qb7 qbr [q0,q1] (F.Puzzle_lines ab) (eL eS) .f true:=by
  intro q0 q1 h0;unfold F.Puzzle_lines qbr;exact BR.ret (XE.lc (t0:=true) (fun q1=>[q0,q1]) (XI.list (XE.fldP (x:=ab) (cl:=(fun _=>25)) (fs:=qdq) (p:=fun v=>v.rules) (en:=(eL eRule)) (XE.var (i:=0) rfl h0) (fun _=>rfl) (by intro v;obtain⟨_,_,_⟩:=v;exact⟨_,rfl,rfl⟩)) rfl) (fun _=>.inr inferInstance) (fun _=>rfl) (fun ak q1 h1=>XTs.nil) (fun ak q1 h1 _=>(XE.mth0P (F:=fun r=>F.Rule_line r) (cl:=(fun r=>r.k.c)) (fs:=qbb) (XE.var (i:=1) rfl h1) (fun _=>rfl)  (by intro r;obtain⟨k,a0,a1,a2,a3⟩:=r;cases k;exact⟨_,rfl,qa6 ⟨.unlike,a0,a1,a2,a3⟩⟩;exact⟨_,rfl,qa6 ⟨.total,a0,a1,a2,a3⟩⟩;exact⟨_,rfl,qa6 ⟨.rising,a0,a1,a2,a3⟩⟩;exact⟨_,rfl,qa6 ⟨.seen,a0,a1,a2,a3⟩⟩;exact⟨_,rfl,qa6 ⟨.counted,a0,a1,a2,a3⟩⟩;exact⟨_,rfl,qa6 ⟨.joined,a0,a1,a2,a3⟩⟩;exact⟨_,rfl,qa6 ⟨.nosquare,a0,a1,a2,a3⟩⟩;exact⟨_,rfl,qa6 ⟨.ring,a0,a1,a2,a3⟩⟩) rfl rfl)) rfl) rfl
 exact Rf.run rfl (key _ .non SlV.flat)
theorem qbR (ab:PuzT):Rf (g_Puzzle_clues [ePuz ab]) (F.Puzzle_clues ab) (eL eI) .f true:=by
 have key:∀q0:Sl,SlV true (ePuz ab) q0→BR qbY qbq [q0] (F.Puzzle_clues ab) (eL eI) .f true:=by
  intro q0 h0;unfold F.Puzzle_clues qbq;exact BR.ret (XE.pri1P (XE.fldP (x:=ab) (cl:=(fun _=>25)) (fs:=qdq) (p:=fun v=>v.clues) (en:=(eL eI)) (XE.var (i:=0) rfl h0) (fun _=>rfl) (by intro v;obtain⟨_,_,_⟩:=v;exact⟨_,rfl,rfl⟩)) (qbP _)) rfl
 exact Rf.run rfl (key _  SlV.flat)
theorem qhQ (af:Int × Int × Int) (ao:List Int):Rf (g_show_filling [(eT3 eI eI eI) af,(eL eI) ao]) (F.show_filling af ao) eS .v true:=by
 have key:∀q0 q1 q2 q3 q4 q5:Sl,SlV true ((eT3 eI eI eI) af) q0→SlV false ((eL eI) ao) q1→BR qb1 qbn [q0,q1,q2,q3,q4,q5] (F.show_filling af ao) eS .v true:=by
  intro q0 q1 q2 q3 q4 q5 h0 h1;unfold F.show_filling qbn;refine BR.cons (SN.asg (en:=eI) (fun q2=>[q0,q1,q2,q3,q4,q5]) (XE.prtP (x:=af) (t2:=true) (f:=fun p=>p.2.1) (en2:=eI) (XE.var (i:=0) rfl h0) (fun _ _=>rfl) (fun _=>.inl rfl)) rfl fun _=>rfl) ?_;rintro aL _ ⟨q2,rfl,h2⟩;refine BR.cons (SN.own (en:=eS) (fun q3=>[q0,q1,q2,q3,q4,q5]) (XE.lstL XLs.nil) fun _=>rfl) ?_;rintro aP _ ⟨q3,rfl,h3⟩;refine BR.cons (S:=(fun(st:List (List Nat)) ρ=>∃q3 q4,ρ=[q0,q1,q2,q3,q4,q5]∧SlO true (List.map eS st) q3)) (SN.for1 (t0:=true) _ (XI.rng (XRg.r1P (XE.prtP (x:=af) (t2:=true) (f:=fun p=>p.1) (en2:=eI) (XE.var (i:=0) rfl h0) (fun _ _=>rfl) (fun _=>.inl rfl)))) (fun _=>.inl rfl) ⟨_,_,rfl,h3⟩ ?_) ?_
  ·intro aM s13 ρ1 q4 hS h4;obtain⟨q3,_,rfl,h3⟩:=hS;change BL _ _ [q0,q1,q2,q3,q4,q5] _ _;refine BL.cons (SN.app (en:=eS) (fun q3=>[q0,q1,q2,q3,q4,q5]) (XE.join XE.cstr (XE.lc (t0:=true) (fun q5=>[q0,q1,q2,q3,q4,q5]) (XI.list (XE.slc (XE.var (i:=1) rfl h1) (XO.one (XE.binP (XE.var (i:=4) rfl h4) (XE.var (i:=2) rfl h2) (qgY _ _))) (XO.one (XE.binR (XE.binP (XE.var (i:=4) rfl h4) (XE.var (i:=2) rfl h2) (qgY _ _)) (XE.var (i:=2) rfl h2) (fun x=>qeW x _)))) rfl) (fun _=>.inr inferInstance) (fun _=>rfl) (fun ai q5 h5=>XTs.nil) (fun ai q5 h5 _=>(XE.coeG (f:=fun c=>[c]) (en2:=eS) (XE.idxSP (XE.glo (en:=eS) (x:=[46,49,50,51,52,53,54]) rfl rfl) (XE.var (i:=5) rfl h5)) (fun _=>rfl))) rfl)) rfl rfl h3 (fun _=>rfl)) ?_;rintro aP _ ⟨q3,rfl,h3⟩;exact BL.nil ⟨_,_,rfl,h3⟩
  rintro p26 _ ⟨q3,q4,rfl,h3⟩;exact BR.ret (XE.joinP XE.cstr (XE.varO (i:=3) rfl h3)) rfl
 exact Rf.run rfl (key _ _ .non .non .non .non SlV.flat SlV.any)
theorem qfi (ae:PuzT):Rf (g_show_puzzle [ePuz ae]) (F.show_puzzle ae) eS .v true:=by
 have key:∀q0 q1 q2 q3:Sl,SlV true (ePuz ae) q0→BR qcv qbF [q0,q1,q2,q3] (F.show_puzzle ae) eS .v true:=by
  intro q0 q1 q2 q3 h0;unfold F.show_puzzle qbF;refine BR.cons (SN.asg (en:=(eT3 eI eI eI)) (fun q1=>[q0,q1,q2,q3]) (XE.mth0P (F:=fun r=>F.Puzzle_place r) (cl:=(fun _=>25)) (fs:=qdq) (XE.var (i:=0) rfl h0) (fun _=>rfl)  (fun r=>⟨_,rfl,qdl r⟩) rfl rfl) rfl fun _=>rfl) ?_;rintro af _ ⟨q1,rfl,h1⟩;refine BR.cons (SN.asg (en:=eS) (fun q2=>[q0,q1,q2,q3]) (XE.join XE.cstr (XE.lc (t0:=true) (fun q3=>[q0,q1,q2,q3]) (XI.tup (f:=fun p=>[p.1,p.2.1,p.2.2]) (XE.var (i:=1) rfl h1) (fun _=>rfl)) (fun _=>.inl rfl) (fun _=>rfl) (fun a9 q3 h3=>XTs.nil) (fun a9 q3 h3 _=>(XE.pri1P (XE.var (i:=3) rfl h3) (qkj _))) rfl)) rfl fun _=>rfl) ?_;rintro bq _ ⟨q2,rfl,h2⟩;exact BR.ret (XE.bin (XE.binR (XE.bin (XE.binP (XE.var (i:=2) rfl h2) XE.cstr (qaP _ _)) (XE.join XE.cstr (XE.mth0P (F:=fun r=>F.Puzzle_lines r) (cl:=(fun _=>25)) (fs:=qdq) (XE.var (i:=0) rfl h0) (fun _=>rfl)  (fun r=>⟨_,rfl,qbk r⟩) rfl rfl)) (fun x y=>qaP x y)) XE.cstr (fun x=>qaP x _)) (XE.call2 rfl (XE.var (i:=1) rfl h1) (XE.mth0P (F:=fun r=>F.Puzzle_clues r) (cl:=(fun _=>25)) (fs:=qdq) (XE.var (i:=0) rfl h0) (fun _=>rfl)  (fun r=>⟨_,rfl,qbR r⟩) rfl rfl) (fun x0 x1=>qhQ x0 x1) rfl rfl) (fun x y=>qaP x y)) rfl
 exact Rf.run rfl (key _ .non .non .non SlV.flat)
theorem qhg (au:Int × Int × Int) (az:List (List Nat)) (a7:List Int):Rf (g__law_text [(eT3 eI eI eI) au,(eL eS) az,(eL eI) a7]) (qgG au az a7) eS .v true:=by
 have key:∀q0 q1 q2 q3 q4 q5 q6 q7:Sl,SlV true ((eT3 eI eI eI) au) q0→SlV false ((eL eS) az) q1→SlV false ((eL eI) a7) q2→BR qdV qcP [q0,q1,q2,q3,q4,q5,q6,q7] (qgG au az a7) eS .v true:=by
  intro q0 q1 q2 q3 q4 q5 q6 q7 h0 h1 h2;unfold qgG qcP;refine BR.cons (SN.own (en:=eS) (fun q3=>[q0,q1,q2,q3,q4,q5,q6,q7]) (XE.lstL XLs.nil) fun _=>rfl) ?_;rintro aP _ ⟨q3,rfl,h3⟩;refine BR.cons (S:=(fun(st:List (List Nat)) ρ=>∃q3 q4 q5 q6,ρ=[q0,q1,q2,q3,q4,q5,q6,q7]∧SlO true (List.map eS st) q3)) (SN.for1 (t0:=true) _ (XI.rng (XRg.r1P (XE.prtP (x:=au) (t2:=true) (f:=fun p=>p.1) (en2:=eI) (XE.var (i:=0) rfl h0) (fun _ _=>rfl) (fun _=>.inl rfl)))) (fun _=>.inl rfl) ⟨_,_,_,_,rfl,h3⟩ ?_) ?_
  ·intro aA s15 ρ1 q4 hS h4;obtain⟨q3,_,q5,q6,rfl,h3⟩:=hS;change BL _ _ [q0,q1,q2,q3,q4,q5,q6,q7] _ _;refine BL.cons (SN.asg (en:=eS) (fun q5=>[q0,q1,q2,q3,q4,q5,q6,q7]) XE.cstr rfl fun _=>rfl) ?_;rintro aM _ ⟨q5,rfl,h5⟩;refine BL.cons (S:=(fun(st:List Nat) ρ=>∃q5 q6,ρ=[q0,q1,q2,q3,q4,q5,q6,q7]∧SlV true (eS st) q5)) (SN.for1 (t0:=true) _ (XI.list (XE.slc (XE.var (i:=2) rfl h2) (XO.one (XE.binP (XE.var (i:=4) rfl h4) (XE.prtP (x:=au) (t2:=true) (f:=fun p=>p.2.1) (en2:=eI) (XE.var (i:=0) rfl h0) (fun _ _=>rfl) (fun _=>.inl rfl)) (qgY _ _))) (XO.one (XE.binP (XE.binP (XE.var (i:=4) rfl h4) XE.cint (qeW _ _)) (XE.prtP (x:=au) (t2:=true) (f:=fun p=>p.2.1) (en2:=eI) (XE.var (i:=0) rfl h0) (fun _ _=>rfl) (fun _=>.inl rfl)) (qgY _ _)))) rfl) (fun _=>.inr inferInstance) ⟨_,_,rfl,h5⟩ ?_) ?_
   ·intro ai s24 ρ1 q6 hS h6;obtain⟨q5,_,rfl,h5⟩:=hS;change BL _ _ [q0,q1,q2,q3,q4,q5,q6,q7] _ _;refine BL.cons (SN.asg (en:=eS) (fun q5=>[q0,q1,q2,q3,q4,q5,q6,q7]) (XE.binL (XE.var (i:=5) rfl h5) (XE.coeG (f:=fun c=>[c]) (en2:=eS) (XE.idxSP XE.cstr (XE.var (i:=6) rfl h6)) (fun _=>rfl)) (fun y=>qaP _ y)) rfl fun _=>rfl) ?_;rintro aM _ ⟨q5,rfl,h5⟩;exact BL.nil ⟨_,_,rfl,h5⟩
   rintro p28 _ ⟨q5,q6,rfl,h5⟩;refine BL.cons (SN.appP (en:=eS) (fun q3=>[q0,q1,q2,q3,q4,q5,q6,q7]) (XE.var (i:=5) rfl h5) rfl rfl h3 (fun _=>rfl)) ?_;rintro aP _ ⟨q3,rfl,h3⟩;exact BL.nil ⟨_,_,_,_,rfl,h3⟩
  rintro p30 _ ⟨q3,q4,q5,q6,rfl,h3⟩;refine BR.cons (SN.asg (en:=eS) (fun q7=>[q0,q1,q2,q3,q4,q5,q6,q7]) (XE.bin (XE.binR (XE.bin (XE.binR (XE.pri1P (XE.prtP (x:=au) (t2:=true) (f:=fun p=>p.1) (en2:=eI) (XE.var (i:=0) rfl h0) (fun _ _=>rfl) (fun _=>.inl rfl)) (qkj _)) XE.cstr (fun x=>qaP x _)) (XE.pri1P (XE.prtP (x:=au) (t2:=true) (f:=fun p=>p.2.1) (en2:=eI) (XE.var (i:=0) rfl h0) (fun _ _=>rfl) (fun _=>.inl rfl)) (qkj _)) (fun x y=>qaP x y)) XE.cstr (fun x=>qaP x _)) (XE.pri1P (XE.prtP (x:=au) (t2:=true) (f:=fun p=>p.2.2) (en2:=eI) (XE.var (i:=0) rfl h0) (fun _ _=>rfl) (fun _=>.inl rfl)) (qkj _)) (fun x y=>qaP x y)) rfl fun _=>rfl) ?_;rintro bq _ ⟨q7,rfl,h7⟩;exact BR.ret (XE.bin (XE.binR (XE.bin (XE.binP (XE.var (i:=7) rfl h7) XE.cstr (qaP _ _)) (XE.joinP XE.cstr (XE.var (i:=1) rfl h1)) (fun x y=>qaP x y)) XE.cstr (fun x=>qaP x _)) (XE.joinP XE.cstr (XE.varO (i:=3) rfl h3)) (fun x y=>qaP x y)) rfl
 exact Rf.run rfl (key _ _ _ .non .non .non .non .non SlV.flat SlV.any SlV.any)
theorem qiI (ax:List Nat):Rf (g_read_number [eS ax]) (F.read_number ax) eI .v true:=by
 have key:∀q0 q1:Sl,SlV true (eS ax) q0→BR qcB qbH [q0,q1] (F.read_number ax) eI .v true:=by
  intro q0 q1 h0;unfold F.read_number qbH;refine BR.ifR (XT.bop (XTs.or (XT.val (XE.cmpR (XE.pri1P (XE.var (i:=0) rfl h0) (qh7 _)) XE.cint (fun x=>qvi x _))) (XTs.or (XT.val (XE.cmpR (XE.pri1P (XE.var (i:=0) rfl h0) (qh7 _)) (XE.glo (x:=(9:Int)) rfl rfl) (fun x=>qnS x _))) (XTs.one (XT.bop (XTs.and (XT.val (XE.cmpR (XE.idxSP (XE.var (i:=0) rfl h0) XE.cint) XE.cstr (fun x=>quV x _))) (XTs.one (XT.val (XE.cmpR (XE.pri1P (XE.var (i:=0) rfl h0) (qh7 _)) XE.cint (fun x=>qnS x _)))))))))) ?_ ?_
  ·exact BR.rse rfl
  refine BR.cons (S:=(fun(st:Unit) ρ=>∃q1,ρ=[q0,q1])) (SN.for1 (t0:=true) _ (XI.str (XE.var (i:=0) rfl h0)) (fun _=>.inl rfl) ⟨_,rfl⟩ ?_) ?_
  ·intro ai s14 ρ1 q1 hS h1;obtain⟨_,rfl⟩:=hS;change BL _ _ [q0,q1] _ _;refine BL.ifE rfl (XT.val (XE.cmpP (XE.var (i:=1) rfl h1) (XE.glo (en:=eS) (x:=[48,49,50,51,52,53,54,55,56,57]) rfl rfl) (qns _ _))) rfl ?_;exact BL.nil ⟨_,rfl⟩
  rintro p16 _ ⟨q1,rfl⟩;exact BR.ret (XE.pri1P (XE.var (i:=0) rfl h0) (qro _)) rfl
 exact Rf.run rfl (key _ .non SlV.flat)
theorem qhI (af:Int × Int × Int) (aQ:D):Rf (g_read_filling [(eT3 eI eI eI) af,eD aQ]) (F.read_filling af aQ) (eL eI) .f true:=by
 have key:∀q0 q1 q2 q3 q4 q5:Sl,SlV true ((eT3 eI eI eI) af) q0→SlV false (eD aQ) q1→BR qb2 qbp [q0,q1,q2,q3,q4,q5] (F.read_filling af aQ) (eL eI) .f true:=by
  intro q0 q1 q2 q3 q4 q5 h0 h1;unfold F.read_filling qbp;refine BR.ifR (XT.not (XT.val (XE.isiD (XE.var (i:=1) rfl h1)))) ?_ ?_
  ·exact BR.rse rfl
  refine BR.cons (SN.asg (en:=(eL eS)) (fun q2=>[q0,q1,q2,q3,q4,q5]) (XE.split (XE.dec (f:=dS) (XE.var (i:=1) rfl h1) qwf) XE.cstr) rfl fun _=>rfl) ?_;rintro aP _ ⟨q2,rfl,h2⟩;refine BR.ifR (XT.val (XE.cmpP (XE.pri1P (XE.var (i:=2) rfl h2) (qf8 _)) (XE.prtP (x:=af) (t2:=true) (f:=fun p=>p.1) (en2:=eI) (XE.var (i:=0) rfl h0) (fun _ _=>rfl) (fun _=>.inl rfl)) (qkb _ _))) ?_ ?_
  ·exact BR.rse rfl
  refine BR.cons (SN.own (en:=eI) (fun q3=>[q0,q1,q2,q3,q4,q5]) (XE.lstL XLs.nil) fun _=>rfl) ?_;rintro ao _ ⟨q3,rfl,h3⟩;refine BR.cons (S:=(fun(st:List Int) ρ=>∃q3 q4 q5,ρ=[q0,q1,q2,q3,q4,q5]∧SlO true (List.map eI st) q3)) (SN.for1 (t0:=true) _ (XI.list (XE.var (i:=2) rfl h2) rfl) (fun _=>.inl rfl) ⟨_,_,_,rfl,h3⟩ ?_) ?_
  ·intro aM s20 ρ1 q4 hS h4;obtain⟨q3,_,q5,rfl,h3⟩:=hS;change BL _ _ [q0,q1,q2,q3,q4,q5] _ _;refine BL.ifE rfl (XT.val (XE.cmpR (XE.pri1P (XE.var (i:=4) rfl h4) (qh7 _)) (XE.prtP (x:=af) (t2:=true) (f:=fun p=>p.2.1) (en2:=eI) (XE.var (i:=0) rfl h0) (fun _ _=>rfl) (fun _=>.inl rfl)) (fun x=>qkb x _))) rfl ?_;refine BL.cons (S:=(fun(st:List Int) ρ=>∃q3 q5,ρ=[q0,q1,q2,q3,q4,q5]∧SlO true (List.map eI st) q3)) (SN.for1 (t0:=true) _ (XI.str (XE.var (i:=4) rfl h4)) (fun _=>.inl rfl) ⟨_,_,rfl,h3⟩ ?_) ?_
   ·intro bf s28 ρ1 q5 hS h5;obtain⟨q3,_,rfl,h3⟩:=hS;change BL _ _ [q0,q1,q2,q3,q4,q5] _ _;refine BL.ifE rfl (XT.val (XE.cmpL (XE.var (i:=5) rfl h5) (XE.slcSP (XE.glo (en:=eS) (x:=[46,49,50,51,52,53,54]) rfl rfl) XO.nil (XO.oneP (XE.binP (XE.prtP (x:=af) (t2:=true) (f:=fun p=>p.2.2) (en2:=eI) (XE.var (i:=0) rfl h0) (fun _ _=>rfl) (fun _=>.inl rfl)) XE.cint (qeW _ _)))) (fun y=>qns _ y))) rfl ?_;refine BL.cons (SN.app (en:=eI) (fun q3=>[q0,q1,q2,q3,q4,q5]) (XE.inxSP (XE.glo (en:=eS) (x:=[46,49,50,51,52,53,54]) rfl rfl) (XE.coe (x:=bf) (f:=fun c=>[c]) (en2:=eS) (XE.var (i:=5) rfl h5) (fun _=>rfl))) rfl rfl h3 (fun _=>rfl)) ?_;rintro ao _ ⟨q3,rfl,h3⟩;exact BL.nil ⟨_,_,rfl,h3⟩
   rintro p33 _ ⟨q3,q5,rfl,h3⟩;exact BL.nil ⟨_,_,_,rfl,h3⟩
  rintro p35 _ ⟨q3,q4,q5,rfl,h3⟩;exact BR.ret (XE.varO (i:=3) rfl h3) rfl
 exact Rf.run rfl (key _ _ .non .non .non .non SlV.flat SlV.any)
theorem qhS (ab:PuzT) (a7:List Int):Rf (g_Puzzle_clued [ePuz ab,(eL eI) a7]) (F.Puzzle_clued ab a7) ePuz .v true:=by
 have key:∀q0 q1:Sl,SlV true (ePuz ab) q0→SlV false ((eL eI) a7) q1→BR qbT qbo [q0,q1] (F.Puzzle_clued ab a7) ePuz .v true:=by
  intro q0 q1 h0 h1;unfold F.Puzzle_clued qbo;exact BR.ret (XE.new3 rfl (XE.fldFP (x:=ab) (cl:=(fun _=>25)) (fs:=qdq) (p:=fun v=>v.ground) (en:=(eT3 eI eI eI)) (XE.var (i:=0) rfl h0) (fun _=>rfl) (by intro v;obtain⟨_,_,_⟩:=v;exact⟨_,rfl,rfl⟩)) (XE.coeG (f:=List.map (eS)) (en2:=(eL eD)) (XE.mth0P (F:=fun r=>F.Puzzle_lines r) (cl:=(fun _=>25)) (fs:=qdq) (XE.var (i:=0) rfl h0) (fun _=>rfl)  (fun r=>⟨_,rfl,qbk r⟩) rfl rfl) (qnE (fun _=>rfl))) (XE.var (i:=1) rfl h1) (fun _ _ _=>qeg _ _ _)) rfl
 exact Rf.run rfl (key _ _  SlV.flat SlV.any)
theorem qfk (aQ:D):Rf (g_read_puzzle [eD aQ]) (F.read_puzzle aQ) ePuz .v true:=by
 have key:∀q0 q1 q2 q3 q4 q5 q6 q7:Sl,SlV false (eD aQ) q0→BR qcy qbK [q0,q1,q2,q3,q4,q5,q6,q7] (F.read_puzzle aQ) ePuz .v true:=by
  intro q0 q1 q2 q3 q4 q5 q6 q7 h0;unfold F.read_puzzle qbK;refine BR.ifR (XT.not (XT.val (XE.isiD (XE.var (i:=0) rfl h0)))) ?_ ?_
  ·exact BR.rse rfl
  refine BR.cons (SN.asg (en:=(eL eS)) (fun q1=>[q0,q1,q2,q3,q4,q5,q6,q7]) (XE.split (XE.dec (f:=dS) (XE.var (i:=0) rfl h0) qwf) XE.cstr) rfl fun _=>rfl) ?_;rintro bi _ ⟨q1,rfl,h1⟩;refine BR.ifR (XT.val (XE.cmpP (XE.pri1P (XE.var (i:=1) rfl h1) (qf8 _)) XE.cint (qkb _ _))) ?_ ?_
  ·exact BR.rse rfl
  refine BR.cons (SN.asg (en:=(eL eI)) (fun q2=>[q0,q1,q2,q3,q4,q5,q6,q7]) (XE.lc (t0:=true) (fun q3=>[q0,q1,q2,q3,q4,q5,q6,q7]) (XI.list (XE.split (XE.idxFP (XE.var (i:=1) rfl h1) XE.cint) XE.cstr) rfl) (fun _=>.inl rfl) (fun _=>rfl) (fun ax q3 h3=>XTs.nil) (fun ax q3 h3 _=>(XE.call1P rfl (XE.var (i:=3) rfl h3) (qiI ax) rfl rfl)) rfl) rfl fun _=>rfl) ?_;rintro ay _ ⟨q2,rfl,h2⟩;refine BR.ifR (XT.val (XE.cmpP (XE.pri1P (XE.var (i:=2) rfl h2) (qf8 _)) XE.cint (qkb _ _))) ?_ ?_
  ·exact BR.rse rfl
  refine BR.cons (SN.asg (en:=(eT3 eI eI eI)) (fun q4=>[q0,q1,q2,q3,q4,q5,q6,q7]) (XE.call3 rfl (XE.idxFP (XE.var (i:=2) rfl h2) XE.cint) (XE.idxFP (XE.var (i:=2) rfl h2) XE.cint) (XE.idxFP (XE.var (i:=2) rfl h2) XE.cint) (fun x0 x1 x2=>qh1 x0 x1 x2) rfl rfl) rfl fun _=>rfl) ?_;rintro af _ ⟨q4,rfl,h4⟩;refine BR.cons (SN.asg (en:=(eL eS)) (fun q5=>[q0,q1,q2,q3,q4,q5,q6,q7]) (XE.lstL XLs.nil) rfl fun _=>rfl) ?_;rintro az _ ⟨q5,rfl,h5⟩;refine BR.cons (S:=(fun(st:List (List Nat)) ρ=>∃q5,ρ=[q0,q1,q2,q3,q4,q5,q6,q7]∧SlV true ((eL eS) st) q5)) (SN.iff (XT.val (XE.cmpR (XE.idxFP (XE.var (i:=1) rfl h1) XE.cint) XE.cstr (fun x=>qvd x _))) ?_ ?_) ?_
  ·refine BN.cons (SN.asg (en:=(eL eS)) (fun q5=>[q0,q1,q2,q3,q4,q5,q6,q7]) (XE.split (XE.idxFP (XE.var (i:=1) rfl h1) XE.cint) XE.cstr) rfl fun _=>rfl) ?_;rintro az _ ⟨q5,rfl,h5⟩;exact BN.nil ⟨_,rfl,h5⟩
  ·exact BN.nil ⟨_,rfl,h5⟩
  rintro p20 _ ⟨q5,rfl,h5⟩;refine BR.cons (SN.asg (en:=ePuz) (fun q6=>[q0,q1,q2,q3,q4,q5,q6,q7]) (XE.new3 rfl (XE.var (i:=4) rfl h4) (XE.coe (x:=p20) (f:=List.map (eS)) (en2:=(eL eD)) (XE.var (i:=5) rfl h5) (qnE (fun _=>rfl))) ((XE.lc (t0:=true) (fun q7=>[q0,q1,q2,q3,q4,q5,q6,q7]) (XI.rng (XRg.r1 (XE.call1P rfl (XE.var (i:=4) rfl h4) (qc2 af) rfl rfl))) (fun _=>.inl rfl) (fun _=>rfl) (fun ac q7 h7=>XTs.nil) (fun ac q7 h7 _=>XE.cint) rfl).cast (qrw _ _)) (fun _ _ _=>qeg _ _ _)) rfl fun _=>rfl) ?_;rintro ae _ ⟨q6,rfl,h6⟩;exact BR.ret (XE.mth1 (cl:=(fun _=>25)) (fs:=qdq) (XE.var (i:=6) rfl h6) (fun _=>rfl) (XE.call2 rfl (XE.var (i:=4) rfl h4) (XE.coeG (f:=eS) (en2:=eD) (XE.idxFP (XE.var (i:=1) rfl h1) XE.cint) (fun _=>rfl)) (fun x0 x1=>qhI x0 x1) rfl rfl) (fun r=>⟨_,rfl,fun x0=>qhS r x0⟩) rfl rfl) rfl
 exact Rf.run rfl (key _ .non .non .non .non .non .non .non SlV.any)
theorem qe3 (ae:PuzT) (au:Int × Int × Int) (az:List (List Nat)) (a7:List Int):Rf (g__law_told [ePuz ae,(eT3 eI eI eI) au,(eL eS) az,(eL eI) a7]) (qf1 ae au az a7) eB .v true:=by
 have key:∀q0 q1 q2 q3:Sl,SlV true (ePuz ae) q0→SlV true ((eT3 eI eI eI) au) q1→SlV false ((eL eS) az) q2→SlV false ((eL eI) a7) q3→BR qdK qcH [q0,q1,q2,q3] (qf1 ae au az a7) eB .v true:=by
  intro q0 q1 q2 q3 h0 h1 h2 h3;unfold qf1 qcH;refine BR.ifR (XT.bop (XTs.or (XT.not (XT.val (XE.isik (T:=qgI) (cl:=(fun _=>25)) (fs:=qdq) (XE.var (i:=0) rfl h0) (fun _=>rfl) rfl))) (XTs.or (XT.not (XT.val (XE.isi (f:=fun _=>true) (XE.mth0P (F:=fun r=>F.Puzzle_place r) (cl:=(fun _=>25)) (fs:=qdq) (XE.var (i:=0) rfl h0) (fun _=>rfl)  (fun r=>⟨_,rfl,qdl r⟩) rfl rfl) (fun _=>rfl)))) (XTs.one (XT.val (XE.cmpR (XE.mth0P (F:=fun r=>F.Puzzle_place r) (cl:=(fun _=>25)) (fs:=qdq) (XE.var (i:=0) rfl h0) (fun _=>rfl)  (fun r=>⟨_,rfl,qdl r⟩) rfl rfl) (XE.var (i:=1) rfl h1) (fun x=>(quF .ne ((eT3 eI eI eI)) ((eT3 eI eI eI))) x _))))))) ?_ ?_
  ·exact BR.ret XE.cbl rfl
  refine BR.ifR (XT.bop (XTs.or (XT.not (XT.val (XE.isi (f:=fun _=>true) (XE.mth0P (F:=fun r=>F.Puzzle_lines r) (cl:=(fun _=>25)) (fs:=qdq) (XE.var (i:=0) rfl h0) (fun _=>rfl)  (fun r=>⟨_,rfl,qbk r⟩) rfl rfl) (fun _=>rfl)))) (XTs.one (XT.not (XT.val (XE.isi (f:=fun _=>true) (XE.mth0P (F:=fun r=>F.Puzzle_clues r) (cl:=(fun _=>25)) (fs:=qdq) (XE.var (i:=0) rfl h0) (fun _=>rfl)  (fun r=>⟨_,rfl,qbR r⟩) rfl rfl) (fun _=>rfl))))))) ?_ ?_
  ·exact BR.ret XE.cbl rfl
  exact BR.ret (XE.bop (XV.and (XE.cmpR (XE.mth0P (F:=fun r=>F.Puzzle_lines r) (cl:=(fun _=>25)) (fs:=qdq) (XE.var (i:=0) rfl h0) (fun _=>rfl)  (fun r=>⟨_,rfl,qbk r⟩) rfl rfl) (XE.var (i:=2) rfl h2) (fun x=>(quF .eq ((eL eS)) ((eL eS))) x _)) (XV.and (XE.cmpR (XE.mth0P (F:=fun r=>F.Puzzle_clues r) (cl:=(fun _=>25)) (fs:=qdq) (XE.var (i:=0) rfl h0) (fun _=>rfl)  (fun r=>⟨_,rfl,qbR r⟩) rfl rfl) (XE.var (i:=3) rfl h3) (fun x=>qri x _)) (XV.one (XE.cmp (XE.call1P rfl (XE.var (i:=0) rfl h0) (qfi ae) rfl rfl) (XE.call3P rfl (XE.var (i:=1) rfl h1) (XE.var (i:=2) rfl h2) (XE.var (i:=3) rfl h3) (qhg au az a7) rfl rfl) (fun x y=>qlF x y)))))) rfl
 exact Rf.run rfl (key _ _ _ _  SlV.flat SlV.flat SlV.any SlV.any)
theorem qvT (aB:List Int):Rf (g_law [(eL eI) aB]) (qoc aB) eB .v true:=by
 have key:∀q0 q1 q2 q3 q4 q5 q6 q7:Sl,SlV false ((eL eI) aB) q0→BR qqj qoI [q0,q1,q2,q3,q4,q5,q6,q7] (qoc aB) eB .v true:=by
  intro q0 q1 q2 q3 q4 q5 q6 q7 h0;unfold qoc qoI;refine BR.cons (SN.asg (en:=(eT3 eI eI eI)) (fun q1=>[q0,q1,q2,q3,q4,q5,q6,q7]) (XE.call1 rfl (XE.call2P rfl (XE.var (i:=0) rfl h0) XE.cint (qbj aB 0) rfl rfl) (fun x0=>qkt x0) rfl rfl) rfl fun _=>rfl) ?_;rintro au _ ⟨q1,rfl,h1⟩;refine BR.cons (SN.asg (en:=(eL eS)) (fun q2=>[q0,q1,q2,q3,q4,q5,q6,q7]) (XE.lc (t0:=true) (fun q3=>[q0,q1,q2,q3,q4,q5,q6,q7]) (XI.rng (XRg.r1 (XE.binR (XE.call2P rfl (XE.var (i:=0) rfl h0) XE.cint (qbj aB 1) rfl rfl) XE.cint (fun x=>qfj x _ rfl)))) (fun _=>.inl rfl) (fun _=>rfl) (fun aA q3 h3=>XTs.nil) (fun aA q3 h3 _=>(XE.call3P rfl (XE.var (i:=0) rfl h0) (XE.binP XE.cint (XE.binP XE.cint (XE.var (i:=3) rfl h3) (qkk _ _ (qni rfl))) (qeW _ _)) (XE.var (i:=1) rfl h1) (qkG aB (20+(17*aA)) au) rfl rfl)) rfl) rfl fun _=>rfl) ?_;rintro az _ ⟨q2,rfl,h2⟩;refine BR.cons (SN.own (en:=eI) (fun q4=>[q0,q1,q2,q3,q4,q5,q6,q7]) (XE.lstL XLs.nil) fun _=>rfl) ?_;rintro a7 _ ⟨q4,rfl,h4⟩;refine BR.cons (S:=(fun(st:List Int) ρ=>∃q3 q4 q5,ρ=[q0,q1,q2,q3,q4,q5,q6,q7]∧SlO true (List.map eI st) q4)) (SN.for1 (t0:=true) _ (XI.rng (XRg.r1 (XE.binP (XE.prtP (x:=au) (t2:=true) (f:=fun p=>p.1) (en2:=eI) (XE.var (i:=1) rfl h1) (fun _ _=>rfl) (fun _=>.inl rfl)) (XE.prtP (x:=au) (t2:=true) (f:=fun p=>p.2.1) (en2:=eI) (XE.var (i:=1) rfl h1) (fun _ _=>rfl) (fun _=>.inl rfl)) (qgY _ _)))) (fun _=>.inl rfl) ⟨_,_,_,rfl,h4⟩ ?_) ?_
  ·intro aA s10 ρ1 q3 hS h3;obtain⟨_,q4,q5,rfl,h4⟩:=hS;change BL _ _ [q0,q1,q2,q3,q4,q5,q6,q7] _ _;refine BL.cons (SN.asg (en:=eI) (fun q5=>[q0,q1,q2,q3,q4,q5,q6,q7]) (XE.call2P rfl (XE.var (i:=0) rfl h0) (XE.binP XE.cint (XE.var (i:=3) rfl h3) (qeW _ _)) (qbj aB (2+aA)) rfl rfl) rfl fun _=>rfl) ?_;rintro ac _ ⟨q5,rfl,h5⟩;refine BL.cons (SN.app (en:=eI) (fun q4=>[q0,q1,q2,q3,q4,q5,q6,q7]) (XE.binR (XE.binP (XE.binP (XE.var (i:=5) rfl h5) XE.cint (qh9 _ _ rfl)) (XE.binP (XE.prtP (x:=au) (t2:=true) (f:=fun p=>p.2.2) (en2:=eI) (XE.var (i:=1) rfl h1) (fun _ _=>rfl) (fun _=>.inl rfl)) XE.cint (qeW _ _)) (qm6 _ _)) (XE.binP (XE.var (i:=5) rfl h5) XE.cint (qfj _ _ rfl)) (fun x=>qgY x _)) rfl rfl h4 (fun _=>rfl)) ?_;rintro a7 _ ⟨q4,rfl,h4⟩;exact BL.nil ⟨_,_,_,rfl,h4⟩
  rintro p14 _ ⟨q3,q4,q5,rfl,h4⟩;refine BR.cons (SN.asg (en:=eS) (fun q6=>[q0,q1,q2,q3,q4,q5,q6,q7]) (XE.call1 rfl (XE.new3P rfl (XE.var (i:=1) rfl h1) (XE.coe (x:=az) (f:=List.map (eS)) (en2:=(eL eD)) (XE.pri1P (XE.var (i:=2) rfl h2) (qbP _)) (qnE (fun _=>rfl))) (XE.pri1P (XE.varO (i:=4) rfl h4) (qbP _)) (qeg _ _ _)) (fun x0=>qfi x0) rfl rfl) rfl fun _=>rfl) ?_;rintro bc _ ⟨q6,rfl,h6⟩;refine BR.ifR (XT.bop (XTs.or (XT.notP (XT.val (XE.isiP (f:=fun _=>true) (XE.var (i:=6) rfl h6) (fun _=>rfl)))) (XTs.one (XT.val (XE.cmpL (XE.var (i:=6) rfl h6) (XE.call3Pb rfl (XE.var (i:=1) rfl h1) (XE.var (i:=2) rfl h2) (XE.varO (i:=4) rfl h4) (qhg au az p14) rfl rfl qaX) (fun y=>qvd _ y)))))) ?_ ?_
  ·exact BR.ret XE.cbl rfl
  refine BR.cons (SN.asg (en:=ePuz) (fun q7=>[q0,q1,q2,q3,q4,q5,q6,q7]) (XE.call1P rfl (XE.coe (x:=bc) (f:=eS) (en2:=eD) (XE.var (i:=6) rfl h6) (fun _=>rfl)) (qfk (eS bc)) rfl rfl) rfl fun _=>rfl) ?_;rintro al _ ⟨q7,rfl,h7⟩;refine BR.ifR (XT.not (XT.val (XE.call4Pb rfl (XE.var (i:=7) rfl h7) (XE.var (i:=1) rfl h1) (XE.var (i:=2) rfl h2) (XE.varO (i:=4) rfl h4) (qe3 al au az p14) rfl rfl qaX))) ?_ ?_
  ·exact BR.ret XE.cbl rfl
  refine BR.cons (SN.tapp (en:=eS) (XE.mth0P (F:=fun r=>F.Puzzle_lines r) (cl:=(fun _=>25)) (fs:=qdq) (XE.var (i:=7) rfl h7) (fun _=>rfl)  (fun r=>⟨_,rfl,qbk r⟩) rfl rfl) XE.cstr rfl) ?_;rintro _ _ rfl;refine BR.cons (SN.tclr (en:=eI) (XE.mth0P (F:=fun r=>F.Puzzle_clues r) (cl:=(fun _=>25)) (fs:=qdq) (XE.var (i:=7) rfl h7) (fun _=>rfl)  (fun r=>⟨_,rfl,qbR r⟩) rfl rfl)) ?_;rintro _ _ rfl;exact BR.ret (XE.bop (XV.and (XE.call4Pb rfl (XE.var (i:=7) rfl h7) (XE.var (i:=1) rfl h1) (XE.var (i:=2) rfl h2) (XE.varO (i:=4) rfl h4) (qe3 al au az p14) rfl rfl qaX) (XV.one (XE.call4b rfl (XE.call1P rfl (XE.coe (x:=bc) (f:=eS) (en2:=eD) (XE.var (i:=6) rfl h6) (fun _=>rfl)) (qfk (eS bc)) rfl rfl) (XE.var (i:=1) rfl h1) (XE.var (i:=2) rfl h2) (XE.varO (i:=4) rfl h4) (fun x0 x1 x2 x3=>qe3 x0 x1 x2 x3) rfl rfl qaX)))) rfl
 exact Rf.run rfl (key _ .non .non .non .non .non .non .non SlV.any)
end K72
namespace K72
open Cm
def cv (ns:List Int) (k:Int):Int:=match qaT ns k with
 |.ok v=>v
 |_=>0
theorem qo2 (ns:List Int) {k:Int} (h0:0≤k) (h1:k<10000):qaT ns k=.ok (cv ns k)∧0≤cv ns k∧cv ns k<2305843009213693952:=by
 have key:W (qaT ns k) fun v=>0≤v∧v<2305843009213693952:=by
  unfold qaT
  have m1:=qfr (x:=k) (y:=k) (by omega)
  simp only[RE.bind_ok,qoU,m1]
  by_cases e:(ns.length:Int)=0
  ·rw[if_pos e]
   have:=qcL (k*k*40692+7*k) (n:=2147483647) (by decide)
   exact W.ok ⟨this.1,by omega⟩
  ·rw[if_neg e,qfB e]
   have b:=qcL k (n:=(ns.length:Int)) (by omega)
   simp only[RE.bind_ok]
   rw[qvc b.1 b.2]
   simp only[RE.bind_ok]
   have b1:=qcL (gI ns (k.fmod (ns.length:Int))) (n:=2305843009213693951) (by decide)
   by_cases c:k<(ns.length:Int)
   ·rw[if_pos c]
    exact W.ok ⟨b1.1,by omega⟩
   ·rw[if_neg c]
    have:=qcL ((gI ns (k.fmod (ns.length:Int))).fmod 2305843009213693951*48271+k*k*40692) (n:=2305843009213693951) (by decide)
    exact W.ok ⟨this.1,by omega⟩
 obtain⟨v,e,h⟩:=key
 have:cv ns k=v:=by unfold cv;rw[e]
 rw[this]
 exact⟨e,h⟩
theorem qwr {a n:Int} (h:0≤a) (hn:0<n):0≤a.fdiv n:=by rw[qn1 hn];exact Int.ediv_nonneg h (by omega)
theorem qpU {z:Int} (h:0≤z):∃fl,qfD z=.ok fl∧FOk fl:=by
 unfold qfD
 simp only[RE.bind_ok]
 have b:=qcL z (n:=6) (by decide)
 have b3:=qcL (z.fdiv 36) (n:=6) (by decide)
 generalize z.fmod 6=u at b
 generalize (z.fdiv 36).fmod 6=t at b3
 obtain⟨q,hq,q0,q1,q2⟩:∃q:Int,qsp 16 (1+u)=.ok q∧1≤q∧q≤16∧(1+u)*q≤16:=by
  rw[qsV (by omega) (by omega)]
  have:u=0∨u=1∨u=2∨u=3∨u=4∨u=5:=by omega
  rcases this with e | e | e | e | e | e<;>subst e<;>exact⟨_,rfl,by decide,by decide,by decide⟩
 rw[hq]
 simp only[RE.bind_ok]
 obtain⟨m,hm,m0,m1,m2⟩:∃m:Int,(if q<6 then q else 6)=m∧1≤m∧m≤6∧m≤q:=by
  by_cases e:q<6
  ·exact⟨q,if_pos e,q0,by omega,by omega⟩
  ·exact⟨6,if_neg e,by decide,by decide,by omega⟩
 rw[hm,qfB (by omega)]
 have by_:=qcL (z.fdiv 6) (n:=m) (by omega)
 generalize (z.fdiv 6).fmod m=v at by_
 refine⟨_,rfl,⟨?_,?_,?_,?_,?_,?_,?_⟩⟩
 ·show 1≤1+u;omega
 ·show 1+u≤6;omega
 ·show 1≤1+v;omega
 ·show 1+v≤6;omega
 ·show(1+u)*(1+v)≤16
  exact Int.le_trans (Int.mul_le_mul_of_nonneg_left (show 1+v≤q by omega) (by omega)) q2
 ·show 1≤1+t;omega
 ·show 1+t≤6;omega
theorem qwS {k:Int} (h0:0≤k) (h1:k≤6):(1:Int)*2 ^ k.toNat=((2 ^ k.toNat:Nat):Int)∧(2 ^ k.toNat:Nat)≤64∧1≤(2 ^ k.toNat:Nat):=by
 have:k=0∨k=1∨k=2∨k=3∨k=4∨k=5∨k=6:=by omega
 rcases this with e | e | e | e | e | e | e<;>subst e<;>decide
theorem qwC {k:Int} (h0:0≤k) (h1:k<6):(2 ^ k.toNat:Nat)<64:=by
 have:k=0∨k=1∨k=2∨k=3∨k=4∨k=5:=by omega
 rcases this with e | e | e | e | e | e<;>subst e<;>decide
end K72
namespace K72
open Cm
theorem qqi (ns:List Int) {fl:Int × Int × Int} (hf:FOk fl) {a m:Int} (a0:0≤a) (a1:a≤1000) (m0:1≤m) (m1:m≤nC fl):∃cs,qfH ns a (nC fl) m=.ok cs∧CsOk fl cs:=by
 have n1:=hf.n1
 have n16:=qpE hf
 unfold qfH
 rw[qc7 (n:=nC fl) (by omega) (by omega)]
 simp only[RE.bind_ok]
 rw[qc7 (n:=m) (by omega) (by omega)]
 simp only[RE.bind_ok]
 suffices h:W (qam (fun(aA:Int) (s5:(List Int) × (List Int))=>(((qaT ns (a+aA)).bind fun x6=>qmM x6 (List.length s5.1:Int)).bind fun x9=>qmZ s5.2 s5.1 x9).bind fun p8=>RE.ok (p8.2,p8.1)) (qer m.toNat) (qer (nC fl).toNat,[])) fun s=>s.2.length=m.toNat∧(s.2++s.1).Perm (qer (nC fl).toNat) by
  obtain⟨s,e,h1,h2⟩:=h
  rw[e]
  refine⟨s.2,rfl,?_,?_,fun c hc=>?_⟩
  ·intro z;rw[z] at h1;simp at h1;omega
  ·have nd:=h2.nodup_iff.mpr (qta _)
   exact(List.nodup_append.mp nd).1
  ·have:=qiu.mp (h2.mem_iff.mp (List.mem_append_left s.1 hc))
   exact⟨this.1,by omega⟩
 refine W.mono (qdQ (fun i s=>s.2.length=i∧(s.2++s.1).Perm (qer (nC fl).toNat)) ⟨rfl,by simp⟩ fun i x s hx ⟨hl,hp⟩=>?_) fun s h=>by rw[qbZ] at h;exact h
 obtain⟨rfl,hi⟩:=qgh hx
 have le:=hp.length_eq
 rw[List.length_append,qbZ] at le
 obtain⟨e,b0,_⟩:=qo2 ns (k:=a+(i:Int)) (by omega) (by omega)
 rw[e]
 simp only[RE.bind_ok]
 rw[qfB (by omega)]
 have b:=qcL (cv ns (a+(i:Int))) (n:=(s.1.length:Int)) (by omega)
 simp only[RE.bind_ok]
 obtain⟨d,e2,p2⟩:=qtr (xs:=s.2) (ys:=s.1) b.1 b.2 (by omega) (by omega)
 rw[e2]
 exact W.ok ⟨by simp[hl],p2.trans hp⟩
theorem qsn {x:Int} {xs:List Int} (h:xs≠[]):TL.joinL [32] ((x::xs).map dgI)=dgI x++([32]++TL.joinL [32] (xs.map dgI)):=by
 obtain⟨a,as,rfl⟩:=List.exists_cons_of_ne_nil h
 rfl
end K72
namespace K72
open Cm
theorem qr4 (ns:List Int) {fl:Int × Int × Int} (hf:FOk fl) {a:Int} (a0:0≤a) (a1:a≤900):∃r,qgA ns a fl=.ok (qaw r)∧WfR fl r:=by
 have n1:=hf.n1
 have n16:=qpE hf
 have en:nC fl=fl.1*fl.2.1:=rfl
 have h1:=hf.h1;have h2:=hf.h2;have s1:=hf.s1;have s2:=hf.s2
 obtain⟨e,z0,_⟩:=qo2 ns (k:=a) a0 (by omega)
 unfold qgA
 rw[e]
 generalize cv ns a=z at z0
 simp only[RE.bind_ok]
 rw[qfr (by omega),←en]
 simp only[RE.bind_ok]
 rw[qfB (by omega)]
 have bm:=qcL (z.fdiv 8) (n:=nC fl) (by omega)
 simp only[RE.bind_ok]
 obtain⟨cs,ec,hc⟩:=qqi ns hf (a:=a+1) (m:=1+(z.fdiv 8).fmod (nC fl)) (by omega) (by omega) (by omega) (by omega)
 rw[ec]
 simp only[RE.bind_ok]
 have cl:=hc.len hf
 have cb:∀c∈cs,0≤c∧c<100:=fun c h=>by
  have:=hc.inn c h
  have b1:=this.1
  have b2:=this.2
  omega
 rw[gdl (by omega),qfN (g:=dgI) fun c h=>qem (cb c h).1 (cb c h).2]
 simp only[RE.bind_ok]
 have dl:∀x∈cs.map dgI,x.length≤2:=fun x hx=>by
  obtain⟨c,h,rfl⟩:=List.mem_map.mp hx
  exact qeb (cb c h).1 (cb c h).2
 rw[qgg (b:=2) dl (by rw[List.length_map];omega)]
 have tl:(TL.joinL [32] (cs.map dgI)).length≤100:=by
  have q1:=qdt 32 (cs.map dgI)
  have q2:=qfu (ws:=cs.map dgI) (b:=2) dl
  rw[List.length_map] at q1 q2
  omega
 simp only[RE.bind_ok]
 rw[qfB (by omega)]
 have bs:=qcL (z.fdiv 128) (n:=fl.2.2) (by omega)
 simp only[RE.bind_ok]
 have sg:1≤1+(z.fdiv 128).fmod fl.2.2∧1+(z.fdiv 128).fmod fl.2.2≤fl.2.2:=by omega
 generalize 1+(z.fdiv 128).fmod fl.2.2=s at sg
 have bn:=qcL (z.fdiv 768) (n:=100) (by decide)
 generalize (z.fdiv 768).fmod 100=n at bn
 rw[qem (n:=s) (by omega) (by omega),qem (n:=n) bn.1 bn.2]
 have ls:=qeb (x:=s) (by omega) (by omega)
 have ln:=qeb (x:=n) bn.1 bn.2
 have hT:TL.joinL [32] (cs.map dgI)=TL.joinL [32] (cs.map dgI):=rfl
 generalize hT2:TL.joinL [32] (cs.map dgI)=T at tl
 generalize hS:dgI s=S at ls
 generalize hN:dgI n=N at ln
 have c:∀{x y:List Nat},x.length+y.length≤1000→qay x y=.ok (x++y):=fun h=>qa4 (by omega)
 simp only[RE.bind_ok]
 rw[c (x:=[117,110,108,105,107,101,32]) (y:=T) (by simp;omega),c (x:=[115,117,109,32]) (y:=N) (by simp;omega)]
 simp only[RE.bind_ok]
 rw[c (x:=[115,117,109,32]++N) (y:=[32]) (by simp;omega)]
 simp only[RE.bind_ok]
 rw[c (x:=[115,117,109,32]++N++[32]) (y:=T) (by simp;omega),c (x:=[114,105,115,105,110,103,32]) (y:=T) (by simp;omega),c (x:=[115,101,101,110,32]) (y:=N) (by simp;omega)]
 simp only[RE.bind_ok]
 rw[c (x:=[115,101,101,110,32]++N) (y:=[32]) (by simp;omega)]
 simp only[RE.bind_ok]
 rw[c (x:=[115,101,101,110,32]++N++[32]) (y:=T) (by simp;omega),c (x:=[99,111,117,110,116,32]) (y:=N) (by simp;omega)]
 simp only[RE.bind_ok]
 rw[c (x:=[99,111,117,110,116,32]++N) (y:=[32]) (by simp;omega)]
 simp only[RE.bind_ok]
 rw[c (x:=[99,111,117,110,116,32]++N++[32]) (y:=S) (by simp;omega)]
 simp only[RE.bind_ok]
 rw[c (x:=[99,111,117,110,116,32]++N++[32]++S) (y:=[32]) (by simp;omega)]
 simp only[RE.bind_ok]
 rw[c (x:=[99,111,117,110,116,32]++N++[32]++S++[32]) (y:=T) (by simp;omega),c (x:=[106,111,105,110,101,100,32]) (y:=S) (by simp;omega),c (x:=[110,111,115,113,117,97,114,101,32]) (y:=S) (by simp;omega),c (x:=[114,105,110,103,32]) (y:=S) (by simp;omega)]
 simp only[RE.bind_ok]
 rw[qgq (by simp)]
 simp only[RE.bind_ok]
 have b8:=qcL z (n:=8) (by decide)
 have wh:∀k:RK,qeI k=true→qaw ⟨k,fl,qer (nC fl).toNat,0,s⟩=k.w++([32]++S):=fun k hk=>by rw[qwq hk,hS]
 have r1:∀k:RK,k=.unlike∨k=.rising→qaw ⟨k,fl,cs,0,0⟩=k.w++([32]++T):=fun k hk=>by
  have:qaw ⟨k,fl,cs,0,0⟩=qmy k.w cs:=by rcases hk with e | e<;>subst e<;>rfl
  rw[this,qfe _ hc.ne,hT2]
 have r2:∀k:RK,k=.total∨k=.seen→qaw ⟨k,fl,cs,n,0⟩=k.w++([32]++(N++([32]++T))):=fun k hk=>by
  have:qaw ⟨k,fl,cs,n,0⟩=qmy k.w (n::cs):=by rcases hk with e | e<;>subst e<;>rfl
  rw[this,qfe _ (by simp),qsn hc.ne,hT2,hN]
 have r3:qaw ⟨.counted,fl,cs,n,s⟩=RK.counted.w++([32]++(N++([32]++(S++([32]++T))))):=by
  have:qaw ⟨.counted,fl,cs,n,s⟩=qmy RK.counted.w (n::s::cs):=rfl
  rw[this,qfe _ (by simp),qsn (by simp),qsn hc.ne,hT2,hN,hS]
 have:z.fmod 8=0∨z.fmod 8=1∨z.fmod 8=2∨z.fmod 8=3∨z.fmod 8=4∨z.fmod 8=5∨z.fmod 8=6∨z.fmod 8=7:=by omega
 rcases this with q | q | q | q | q | q | q | q<;>rw[q]
 ·exact⟨_,by rw[r1 .unlike (.inl rfl)];rfl,qoM hc⟩
 ·exact⟨_,by rw[r2 .total (.inl rfl)];simp only[List.append_assoc];rfl,qpo hc bn.1 bn.2⟩
 ·exact⟨_,by rw[r1 .rising (.inr rfl)];rfl,qnz hc⟩
 ·exact⟨_,by rw[r2 .seen (.inr rfl)];simp only[List.append_assoc];rfl,qsc hc bn.1 bn.2⟩
 ·exact⟨_,by rw[r3];simp only[List.append_assoc];rfl,qmN hc bn.1 bn.2 sg.1 sg.2⟩
 ·exact⟨_,by rw[wh .joined rfl];rfl,qiG hf rfl sg.1 sg.2⟩
 ·exact⟨_,by rw[wh .nosquare rfl];rfl,qiG hf rfl sg.1 sg.2⟩
 ·exact⟨_,by rw[wh .ring rfl];rfl,qiG hf rfl sg.1 sg.2⟩
theorem qlQ (ns:List Int) {fl:Int × Int × Int} (hf:FOk fl):∀{xs:List Int},(∀x∈xs,0≤x∧x≤20)→∃rs:List RuleT,lcE (fun(_:Int)=>RE.ok true) (fun(aA:Int)=>qgA ns (20+(17*aA)) fl) xs=.ok (rs.map qaw)∧rs.length=xs.length∧∀r∈rs,WfR fl r
 |[],_=>⟨[],rfl,rfl,by simp⟩
 |x::xs,h=>by
  have hx:=h x (by simp)
  obtain⟨r,e,w⟩:=qr4 ns hf (a:=20+17*x) (by omega) (by omega)
  obtain⟨rs,e2,l2,w2⟩:=qlQ ns hf (xs:=xs) fun y hy=>h y (List.mem_cons_of_mem _ hy)
  refine⟨r::rs,?_,by simp[l2],fun s hs=>?_⟩
  ·rw[lcE,e,e2];rfl
  ·rcases List.mem_cons.mp hs with q | q
   ·rw[q];exact w
   ·exact w2 s q
end K72
namespace K72
open Cm
theorem qow {p:PuzT} (hp:WfP p):qgG p.ground (p.rules.map qaw) p.clues=.ok (qtU p.ground (p.rules.map qaw) p.clues):=by
 have hf:=hp.f
 obtain⟨e,h6,w6,hh1,ww1,l16⟩:=qgQ hf hp.c
 obtain⟨a,hl,_⟩:=qlw hf
 obtain⟨j1,j2,_⟩:=qfA hf hp.n hp.r
 obtain⟨f1,f2⟩:=qfv hf hp.c
 have h1:=hf.h1;have h2:=hf.h2;have w1:=hf.w1;have w2:=hf.w2;have s1:=hf.s1;have s2:=hf.s2
 unfold qgG
 simp only[RE.bind_ok]
 rw[qc7 (by omega) (by omega)]
 simp only[RE.bind_ok]
 refine W.eq (W.bind (P:=fun L=>L=qfQ p.ground p.clues) ?_ fun L hL=>?_)
 ·refine W.mono (qdQ (fun i s=>s=(List.range i).map (qlu p.ground p.clues)) rfl fun i x s hx hs=>?_) fun L h=>by rw[h,qbZ];rfl
  obtain⟨rfl,hi⟩:=qgh hx
  rw[qfr (by omega)]
  simp only[RE.bind_ok]
  rw[qfr (by omega)]
  simp only[RE.bind_ok]
  have bb:((i:Int)+1)*p.ground.2.1=(i:Int)*p.ground.2.1+p.ground.2.1:=by rw[Int.add_mul,Int.one_mul]
  rw[qmB hf hp.c hi rfl bb]
  have sl:=qfo hf hp.c hi
  have si:=qiv hp.c i
  have row:∀(xs:List Int) (t:List Nat),(∀x∈xs,0≤x∧x≤p.ground.2.2)→t.length+xs.length≤1000→qam (fun(ai:Int) (s24:List Nat)=>(((qpx ([46,49,50,51,52,53,54]) ai).bind fun x25=>RE.ok ((fun c=>[c]) x25)).bind fun x27=>qay s24 x27).bind fun aM=>RE.ok aM) xs t=.ok (t++xs.map mkT):=fun xs=>by
   induction xs with
   |nil=>intro t _ _;simp[qam]
   |cons x xs ih =>
    intro t h hl
    rw[List.length_cons] at hl
    have hx:=h x (by simp)
    have one:(((qpx ([46,49,50,51,52,53,54]) x).bind fun x25=>RE.ok ((fun c=>[c]) x25)).bind fun x27=>qay t x27).bind (fun aM=>RE.ok aM)=RE.ok (t++[mkT x]):=by
     rw[quH hx.1 (by omega)]
     simp only[RE.bind_ok]
     rw[qa4 (by simp;omega)]
     rfl
    rw[qam,one]
    refine Eq.trans (ih (t++[mkT x]) (fun y hy=>h y (List.mem_cons_of_mem _ hy)) (by rw[List.length_append,List.length_singleton];omega)) ?_
    rw[List.append_assoc];rfl
  rw[row _ [] si (by simp only[List.length_nil];omega)]
  simp only[RE.bind_ok]
  have ls:s.length=i:=by rw[hs,List.length_map,List.length_range]
  rw[qhh (by omega)]
  refine W.ok ?_
  rw[List.range_succ,List.map_append,←hs];rfl
 ·subst hL
  have d1:=(a (dgI p.ground.1) (by simp)).1
  have d2:=(a (dgI p.ground.2.1) (by simp)).1
  have d3:=(a (dgI p.ground.2.2) (by simp)).1
  rw[qem (by omega) (by omega)]
  simp only[RE.bind_ok]
  rw[qa4 (by simp;omega),qem (by omega) (by omega)]
  simp only[RE.bind_ok]
  rw[qa4 (by simp;omega)]
  simp only[RE.bind_ok]
  rw[qa4 (by simp;omega),qem (by omega) (by omega)]
  simp only[RE.bind_ok]
  rw[qa4 (by simp;omega)]
  simp only[RE.bind_ok]
  have hd:dgI p.ground.1++[32]++dgI p.ground.2.1++[32]++dgI p.ground.2.2=qfP p.ground:=by
   simp only[List.append_assoc];rfl
  rw[hd,qa4 (by simp;omega)]
  simp only[RE.bind_ok]
  rw[j1]
  simp only[RE.bind_ok]
  rw[qa4 (by simp;omega)]
  simp only[RE.bind_ok]
  rw[qa4 (by simp;omega)]
  simp only[RE.bind_ok]
  rw[f1]
  simp only[RE.bind_ok]
  rw[qa4 (by simp;omega)]
  exact W.ok rfl
theorem qvj (p:PuzT):qvO qgI (fun _=>25) p=.ok true:=rfl
theorem qqt (g:Int × Int × Int):evC .ne ((eT3 eI eI eI) g) ((eT3 eI eI eI) g)=.ok false:=qm7 (by rfl)
theorem qlr {p:PuzT} (hp:WfP p):qf1 p p.ground (p.rules.map qaw) p.clues=.ok true:=by
 have lt:∀x∈p.rules.map qaw,∀c∈x,c<256:=fun x hx=>by
  obtain⟨r,h,rfl⟩:=List.mem_map.mp hx
  exact qnf hp.f (hp.r r h)
 unfold qf1
 have e0:F.Puzzle_place p=.ok p.ground:=rfl
 have e1:F.Puzzle_clues p=.ok p.clues:=rfl
 rw[qvj,e0,e1,qfh hp]
 simp only[RE.bind_ok,Bool.not_true,Bool.false_eq_true,if_false]
 rw[qqt]
 simp only[RE.bind_ok,Bool.not_true,Bool.false_eq_true,if_false]
 rw[qtE lt lt]
 simp only[RE.bind_ok,decide_true,if_true]
 rw[qmD hp,qow hp]
 simp
theorem main (ns:List Int):qoc ns=.ok true:=by
 obtain⟨e0,z0,_⟩:=qo2 ns (k:=0) (by decide) (by decide)
 obtain⟨fl,efl,hf⟩:=qpU z0
 obtain⟨e1,_,_⟩:=qo2 ns (k:=1) (by decide) (by decide)
 have n1:=hf.n1
 have n16:=qpE hf
 have en:nC fl=fl.1*fl.2.1:=rfl
 have h1:=hf.h1;have h2:=hf.h2;have s1:=hf.s1;have s2:=hf.s2
 unfold qoc
 rw[e0]
 simp only[RE.bind_ok]
 rw[efl,e1]
 simp only[RE.bind_ok]
 have b13:=qcL (cv ns 1) (n:=13) (by decide)
 rw[qc7 (by omega) b13.1]
 simp only[RE.bind_ok]
 rw[gdl (by rw[qbZ];omega)]
 obtain⟨rs,er,lr,wr⟩:=qlQ ns hf (xs:=qer ((cv ns 1).fmod 13).toNat) fun x hx=>by
  have:=qiu.mp hx
  omega
 rw[qbZ] at lr
 rw[er]
 simp only[RE.bind_ok]
 rw[qfr (by omega),←en]
 simp only[RE.bind_ok]
 rw[qc7 (by omega) (by omega)]
 simp only[RE.bind_ok]
 refine W.eq (W.bind (P:=qjm fl) ?_ fun cl hc=>?_)
 ·refine W.mono (qdQ (fun i (s:List Int)=>s.length=i∧∀x∈s,0≤x∧x≤fl.2.2) ⟨rfl,by simp⟩ fun i x s hx ⟨hl,hb⟩=>?_) fun s ⟨hl,hb⟩=>⟨by rw[hl,qbZ];omega,hb⟩
  obtain⟨rfl,hi⟩:=qgh hx
  obtain⟨ec,c0,_⟩:=qo2 ns (k:=2+(i:Int)) (by omega) (by omega)
  rw[ec]
  simp only[RE.bind_ok]
  rw[qfB (by omega)]
  have b:=qcL ((cv ns (2+(i:Int))).fdiv 2) (n:=fl.2.2+1) (by omega)
  have b2:=qcL (cv ns (2+(i:Int))) (n:=2) (by decide)
  simp only[RE.bind_ok]
  rw[qfr (by omega)]
  simp only[RE.bind_ok]
  rw[qhh (by omega)]
  refine W.ok ⟨by simp[hl],fun x hx=>?_⟩
  rcases List.mem_append.mp hx with q | q
  ·exact hb x q
  ·rw[List.mem_singleton.mp q]
   have:(cv ns (2+(i:Int))).fmod 2=0∨(cv ns (2+(i:Int))).fmod 2=1:=by omega
   rcases this with z | z<;>rw[z]
   ·omega
   ·omega
 obtain⟨pz,wp⟩:=qoV hf (rs:=rs) rfl (by omega) wr hc
 have lt:∀x∈rs.map qaw,∀c∈x,c<256:=fun x hx=>by
  obtain⟨r,h,rfl⟩:=List.mem_map.mp hx
  exact qnf hf (wr r h)
 have tx:=qow wp
 have td:=qlr wp
 have rd:=qpG wp
 have sh:=qmD wp
 simp only at tx td rd sh
 rw[pz]
 simp only[RE.bind_ok]
 rw[sh,tx]
 simp only[RE.bind_ok,Bool.not_true,Bool.false_eq_true,if_false,decide_true]
 rw[rd]
 simp only[RE.bind_ok]
 rw[td]
 simp only[RE.bind_ok,Bool.not_true,Bool.false_eq_true,if_false]
 rw[qfh wp]
 simp only[RE.bind_ok]
 have ta:qpI (rs.map qaw) [114,105,110,103,32,49]=.ok ():=qjk (qnD (by rw[List.length_map];have:LIM=16777216:=rfl;omega))
 rw[ta]
 exact W.ok rfl
theorem law_true:∀ns:List Int,ns.length≤63→(∀z∈ns,PySem.Builtin.Int.intBits z≤1048576)→∃b,g_law [.lst (ns.map D.int)]=.ok (.val (.bl true) b):=
 fun ns _ _=>qvq (qvT ns) (main ns)
end K72
set_option maxHeartbeats 0
namespace K72
open Cm PySem PySem.Spec PyProof.Rows L2
def FL:Nat→List Str:=fun c=>match c with
 |0=>["ground","cells","wanted","of_sign"]
 |1=>["ground","cells","wanted","of_sign"]
 |2=>["ground","cells","wanted","of_sign"]
 |3=>["ground","cells","wanted","of_sign"]
 |4=>["ground","cells","wanted","of_sign"]
 |5=>["ground","cells","wanted","of_sign"]
 |6=>["ground","cells","wanted","of_sign"]
 |7=>["ground","cells","wanted","of_sign"]
 |25=>["ground","rule_list","clue_list"]
 |_=>[]
def GK (K:PySem.W.Frag):Glo:=⟨K,fun c=>match c with
 |0=>He.ga K "Unlike"
 |1=>He.ga K "Total"
 |2=>He.ga K "Rising"
 |3=>He.ga K "Seen"
 |4=>He.ga K "Counted"
 |5=>He.ga K "Joined"
 |6=>He.ga K "NoSquare"
 |7=>He.ga K "Ring"
 |25=>He.ga K "Puzzle"
 |31=>He.ga K "NoFloor"
 |32=>He.ga K "NoFilling"
 |33=>He.ga K "NoRule"
 |34=>He.ga K "NoPuzzle"
 |39=>He.ga K "NoText"
 |_=>0,FL⟩
def qdd:Tb:={ N:=["_law_cell","_law_high","_law_wide"],fn:=[],gc:=[],mn:=[],fs:=[],nw:=[],ck:=[],xk:=[],dc:=[] }
theorem qjN:FnScope qdd.N ["_law_cell"] (defScope (top 48)):=⟨rfl,rfl,rfl,by decide +kernel,rfl,by decide +kernel,by decide +kernel⟩
theorem qkl:qaj qdd (defScope (top 48)) qcf (defBody (top 48))=true:=by decide +kernel
def qb6:Tb:={ N:=["_law_script","_law_k","_law_number"],fn:=[],gc:=[],mn:=[],fs:=[],nw:=[],ck:=[],xk:=[],dc:=[] }
theorem qhj:FnScope qb6.N ["_law_script","_law_k"] (defScope (top 47)):=⟨rfl,rfl,rfl,by decide +kernel,rfl,by decide +kernel,by decide +kernel⟩
theorem qhO:qaj qb6 (defScope (top 47)) qbt (defBody (top 47))=true:=by decide +kernel
def qcX:Tb:={ N:=["_law_script","_law_at","_law_many","_law_size","_law_left","_law_found","_law_k"],fn:=[("_law_cell_at",2)],gc:=[],mn:=[],fs:=[],nw:=[],ck:=[],xk:=[],dc:=[] }
theorem qjo:FnScope qcX.N ["_law_script","_law_at","_law_many","_law_size"] (defScope (top 49)):=⟨rfl,rfl,rfl,by decide +kernel,rfl,by decide +kernel,by decide +kernel⟩
theorem qku:qaj qcX (defScope (top 49)) qck (defBody (top 49))=true:=by decide +kernel
def qdw:Tb:={ N:=["_law_script","_law_at","_law_floor_here","_law_cell","_law_many","_law_size","_law_cells_here","_law_one","_law_sign","_law_number","_law_words"],fn:=[("_law_cell_at",2),("_law_cells",4)],gc:=[],mn:=[],fs:=[],nw:=[],ck:=[],xk:=[],dc:=[] }
theorem qk0:FnScope qdw.N ["_law_script","_law_at","_law_floor_here"] (defScope (top 50)):=⟨rfl,rfl,rfl,by decide +kernel,rfl,by decide +kernel,by decide +kernel⟩
theorem qk9:qaj qdw (defScope (top 50)) qcK (defBody (top 50))=true:=by decide +kernel
def qb3:Tb:={ N:=["floor","filling","wide","rows","row","sign"],fn:=[],gc:=["MARKS"],mn:=[],fs:=[],nw:=[],ck:=[],xk:=[],dc:=[] }
theorem qhD:FnScope qb3.N ["floor","filling"] (defScope (top 16)):=⟨rfl,rfl,rfl,by decide +kernel,rfl,by decide +kernel,by decide +kernel⟩
theorem qhu:qaj qb3 (defScope (top 16)) qbn (defBody (top 16))=true:=by decide +kernel
def qb9:Tb:={ N:=["self"],fn:=[],gc:=[],mn:=[],fs:=["ground"],nw:=[],ck:=[],xk:=[],dc:=[] }
theorem qhJ:FnScope qb9.N ["self"] (defScope (sub 39 1)):=⟨rfl,rfl,rfl,by decide +kernel,rfl,by decide +kernel,by decide +kernel⟩
theorem qhy:qaj qb9 (defScope (sub 39 1)) qbm (defBody (sub 39 1))=true:=by decide +kernel
def qcw:Tb:={ N:=["self"],fn:=[],gc:=[],mn:=[],fs:=[],nw:=[],ck:=[],xk:=[],dc:=[] }
theorem qiD:FnScope qcw.N ["self"] (defScope (sub 21 0)):=⟨rfl,rfl,rfl,by decide +kernel,rfl,by decide +kernel,by decide +kernel⟩
theorem qi3:qaj qcw (defScope (sub 21 0)) qbM (defBody (sub 21 0))=true:=by decide +kernel
def qdg:Tb:={ N:=["self"],fn:=[],gc:=[],mn:=[],fs:=[],nw:=[],ck:=[],xk:=[],dc:=[] }
theorem qkv:FnScope qdg.N ["self"] (defScope (sub 22 0)):=⟨rfl,rfl,rfl,by decide +kernel,rfl,by decide +kernel,by decide +kernel⟩
theorem qj5:qaj qdg (defScope (sub 22 0)) qci (defBody (sub 22 0))=true:=by decide +kernel
def qcr:Tb:={ N:=["self"],fn:=[],gc:=[],mn:=[],fs:=[],nw:=[],ck:=[],xk:=[],dc:=[] }
theorem qiS:FnScope qcr.N ["self"] (defScope (sub 23 0)):=⟨rfl,rfl,rfl,by decide +kernel,rfl,by decide +kernel,by decide +kernel⟩
theorem qis:qaj qcr (defScope (sub 23 0)) qbB (defBody (sub 23 0))=true:=by decide +kernel
def qdL:Tb:={ N:=["self"],fn:=[],gc:=[],mn:=[],fs:=[],nw:=[],ck:=[],xk:=[],dc:=[] }
theorem qld:FnScope qdL.N ["self"] (defScope (sub 24 0)):=⟨rfl,rfl,rfl,by decide +kernel,rfl,by decide +kernel,by decide +kernel⟩
theorem qlJ:qaj qdL (defScope (sub 24 0)) qcF (defBody (sub 24 0))=true:=by decide +kernel
def qbU:Tb:={ N:=["self"],fn:=[],gc:=[],mn:=[],fs:=[],nw:=[],ck:=[],xk:=[],dc:=[] }
theorem qht:FnScope qbU.N ["self"] (defScope (sub 25 0)):=⟨rfl,rfl,rfl,by decide +kernel,rfl,by decide +kernel,by decide +kernel⟩
theorem qhp:qaj qbU (defScope (sub 25 0)) qbu (defBody (sub 25 0))=true:=by decide +kernel
def qcA:Tb:={ N:=["self"],fn:=[],gc:=[],mn:=[],fs:=[],nw:=[],ck:=[],xk:=[],dc:=[] }
theorem qio:FnScope qcA.N ["self"] (defScope (sub 26 0)):=⟨rfl,rfl,rfl,by decide +kernel,rfl,by decide +kernel,by decide +kernel⟩
theorem qiX:qaj qcA (defScope (sub 26 0)) qbE (defBody (sub 26 0))=true:=by decide +kernel
def qbG:Tb:={ N:=["self"],fn:=[],gc:=[],mn:=[],fs:=[],nw:=[],ck:=[],xk:=[],dc:=[] }
theorem qgU:FnScope qbG.N ["self"] (defScope (sub 27 0)):=⟨rfl,rfl,rfl,by decide +kernel,rfl,by decide +kernel,by decide +kernel⟩
theorem qgH:qaj qbG (defScope (sub 27 0)) qa8 (defBody (sub 27 0))=true:=by decide +kernel
def qdz:Tb:={ N:=["self"],fn:=[],gc:=[],mn:=[],fs:=[],nw:=[],ck:=[],xk:=[],dc:=[] }
theorem qln:FnScope qdz.N ["self"] (defScope (sub 28 0)):=⟨rfl,rfl,rfl,by decide +kernel,rfl,by decide +kernel,by decide +kernel⟩
theorem qlA:qaj qdz (defScope (sub 28 0)) qcU (defBody (sub 28 0))=true:=by decide +kernel
def qaG:Tb:={ N:=["self"],fn:=[],gc:=[],mn:=[],fs:=["cells"],nw:=[],ck:=[],xk:=[],dc:=[] }
theorem qcT:FnScope qaG.N ["self"] (defScope (sub 20 8)):=⟨rfl,rfl,rfl,by decide +kernel,rfl,by decide +kernel,by decide +kernel⟩
theorem qcO:qaj qaG (defScope (sub 20 8)) qaq (defBody (sub 20 8))=true:=by decide +kernel
def qaS:Tb:={ N:=["self"],fn:=[],gc:=[],mn:=[],fs:=["wanted","cells"],nw:=[],ck:=[],xk:=[],dc:=[] }
theorem qew:FnScope qaS.N ["self"] (defScope (sub 22 3)):=⟨rfl,rfl,rfl,by decide +kernel,rfl,by decide +kernel,by decide +kernel⟩
theorem qeB:qaj qaS (defScope (sub 22 3)) qax (defBody (sub 22 3))=true:=by decide +kernel
def qa0:Tb:={ N:=["self"],fn:=[],gc:=[],mn:=[],fs:=["wanted","cells"],nw:=[],ck:=[],xk:=[],dc:=[] }
theorem qeP:FnScope qa0.N ["self"] (defScope (sub 24 3)):=⟨rfl,rfl,rfl,by decide +kernel,rfl,by decide +kernel,by decide +kernel⟩
theorem qeZ:qaj qa0 (defScope (sub 24 3)) qaI (defBody (sub 24 3))=true:=by decide +kernel
def qaK:Tb:={ N:=["self"],fn:=[],gc:=[],mn:=[],fs:=["wanted","of_sign","cells"],nw:=[],ck:=[],xk:=[],dc:=[] }
theorem qd1:FnScope qaK.N ["self"] (defScope (sub 25 2)):=⟨rfl,rfl,rfl,by decide +kernel,rfl,by decide +kernel,by decide +kernel⟩
theorem qdZ:qaj qaK (defScope (sub 25 2)) qan (defBody (sub 25 2))=true:=by decide +kernel
def qaQ:Tb:={ N:=["self"],fn:=[],gc:=[],mn:=[],fs:=["of_sign"],nw:=[],ck:=[],xk:=[],dc:=[] }
theorem qej:FnScope qaQ.N ["self"] (defScope (sub 26 2)):=⟨rfl,rfl,rfl,by decide +kernel,rfl,by decide +kernel,by decide +kernel⟩
theorem qeh:qaj qaQ (defScope (sub 26 2)) qar (defBody (sub 26 2))=true:=by decide +kernel
def qaB:Tb:={ N:=["self"],fn:=[],gc:=[],mn:=[],fs:=["of_sign"],nw:=[],ck:=[],xk:=[],dc:=[] }
theorem qdR:FnScope qaB.N ["self"] (defScope (sub 27 2)):=⟨rfl,rfl,rfl,by decide +kernel,rfl,by decide +kernel,by decide +kernel⟩
theorem qdH:qaj qaB (defScope (sub 27 2)) qal (defBody (sub 27 2))=true:=by decide +kernel
def qaZ:Tb:={ N:=["self"],fn:=[],gc:=[],mn:=[],fs:=["of_sign"],nw:=[],ck:=[],xk:=[],dc:=[] }
theorem qeR:FnScope qaZ.N ["self"] (defScope (sub 28 2)):=⟨rfl,rfl,rfl,by decide +kernel,rfl,by decide +kernel,by decide +kernel⟩
theorem qeS:qaj qaZ (defScope (sub 28 2)) qaD (defBody (sub 28 2))=true:=by decide +kernel
def qaC:Tb:={ N:=["self","number"],fn:=[],gc:=[],mn:=[("name",0),("told_numbers",0)],fs:=[],nw:=[],ck:=[],xk:=[],dc:=[] }
theorem qbc:FnScope qaC.N ["self"] (defScope (sub 20 7)):=⟨rfl,rfl,rfl,by decide +kernel,rfl,by decide +kernel,by decide +kernel⟩
theorem qa7:qaj qaC (defScope (sub 20 7)) qav (defBody (sub 20 7))=true:=by decide +kernel
def qb8:Tb:={ N:=["self","rule"],fn:=[],gc:=[],mn:=[("line",0)],fs:=["rule_list"],nw:=[],ck:=[],xk:=[],dc:=[] }
theorem qhz:FnScope qb8.N ["self"] (defScope (sub 39 3)):=⟨rfl,rfl,rfl,by decide +kernel,rfl,by decide +kernel,by decide +kernel⟩
theorem qhF:qaj qb8 (defScope (sub 39 3)) qbr (defBody (sub 39 3))=true:=by decide +kernel
def qca:Tb:={ N:=["self"],fn:=[],gc:=[],mn:=[],fs:=["clue_list"],nw:=[],ck:=[],xk:=[],dc:=[] }
theorem qhH:FnScope qca.N ["self"] (defScope (sub 39 4)):=⟨rfl,rfl,rfl,by decide +kernel,rfl,by decide +kernel,by decide +kernel⟩
theorem qhR:qaj qca (defScope (sub 39 4)) qbq (defBody (sub 39 4))=true:=by decide +kernel
def qcx:Tb:={ N:=["puzzle","floor","head","number"],fn:=[("show_filling",2)],gc:=[],mn:=[("place",0),("lines",0),("clues",0)],fs:=[],nw:=[],ck:=[],xk:=[],dc:=[] }
theorem qi7:FnScope qcx.N ["puzzle"] (defScope (top 44)):=⟨rfl,rfl,rfl,by decide +kernel,rfl,by decide +kernel,by decide +kernel⟩
theorem qjc:qaj qcx (defScope (top 44)) qbF (defBody (top 44))=true:=by decide +kernel
def qdC:Tb:={ N:=["_law_floor_here","_law_lines","_law_clues","_law_rows","_law_k","_law_row","_law_sign","_law_head"],fn:=[],gc:=[],mn:=[],fs:=[],nw:=[],ck:=[],xk:=[],dc:=[] }
theorem qkW:FnScope qdC.N ["_law_floor_here","_law_lines","_law_clues"] (defScope (top 51)):=⟨rfl,rfl,rfl,by decide +kernel,rfl,by decide +kernel,by decide +kernel⟩
theorem qkJ:qaj qdC (defScope (top 51)) qcP (defBody (top 51))=true:=by decide +kernel
def qct:Tb:={ N:=["word","sign"],fn:=[],gc:=["MOST_FIGURES","FIGURES_texts"],mn:=[],fs:=[],nw:=[],ck:=[],xk:=["NoText"],dc:=[] }
theorem qi0:FnScope qct.N ["word"] (defScope (top 43)):=⟨rfl,rfl,rfl,by decide +kernel,rfl,by decide +kernel,by decide +kernel⟩
theorem qiW:qaj qct (defScope (top 43)) qbH (defBody (top 43))=true:=by decide +kernel
def qes:Tb:={ N:=["high","wide","signs"],fn:=[],gc:=["MOST_SIDE","MOST_CELLS","MOST_SIGNS"],mn:=[],fs:=[],nw:=[],ck:=[],xk:=["NoFloor"],dc:=[] }
theorem qmP:FnScope qes.N ["high","wide","signs"] (defScope (top 12)):=⟨rfl,rfl,rfl,by decide +kernel,rfl,by decide +kernel,by decide +kernel⟩
theorem qmL:qaj qes (defScope (top 12)) qdp (defBody (top 12))=true:=by decide +kernel
def qc9:Tb:={ N:=["floor"],fn:=[],gc:=[],mn:=[],fs:=[],nw:=[],ck:=[],xk:=[],dc:=[] }
theorem qj8:FnScope qc9.N ["floor"] (defScope (top 13)):=⟨rfl,rfl,rfl,by decide +kernel,rfl,by decide +kernel,by decide +kernel⟩
theorem qjU:qaj qc9 (defScope (top 13)) qcj (defBody (top 13))=true:=by decide +kernel
def qbW:Tb:={ N:=["floor","text","rows","filling","row","mark"],fn:=[],gc:=["MARKS"],mn:=[],fs:=[],nw:=[],ck:=[],xk:=["NoFilling"],dc:=[] }
theorem qhr:FnScope qbW.N ["floor","text"] (defScope (top 17)):=⟨rfl,rfl,rfl,by decide +kernel,rfl,by decide +kernel,by decide +kernel⟩
theorem qhm:qaj qbW (defScope (top 17)) qbp (defBody (top 17))=true:=by decide +kernel
def qdX:Tb:={ N:=["word","sign"],fn:=[],gc:=["LONGEST","FIGURES_rows"],mn:=[],fs:=[],nw:=[],ck:=[],xk:=["NoRule"],dc:=[] }
theorem qkT:FnScope qdX.N ["word"] (defScope (top 32)):=⟨rfl,rfl,rfl,by decide +kernel,rfl,by decide +kernel,by decide +kernel⟩
theorem qk5:qaj qdX (defScope (top 32)) qcV (defBody (top 32))=true:=by decide +kernel
def qdP:Tb:={ N:=["floor","numbers","at"],fn:=[],gc:=[],mn:=[],fs:=[],nw:=[],ck:=[],xk:=["NoRule"],dc:=[] }
theorem qk8:FnScope qdP.N ["floor","numbers","at"] (defScope (top 33)):=⟨rfl,rfl,rfl,by decide +kernel,rfl,by decide +kernel,by decide +kernel⟩
theorem qkY:qaj qdP (defScope (top 33)) qcI (defBody (top 33))=true:=by decide +kernel
def qah:Tb:={ N:=["self","ground","cells","wanted","of_sign"],fn:=[],gc:=[],mn:=[],fs:=["ground","cells","wanted","of_sign"],nw:=[],ck:=[],xk:=[],dc:=[] }
theorem qau:FnScope qah.N ["self","ground","cells","wanted","of_sign"] (defScope (sub 20 0)):=⟨rfl,rfl,rfl,by decide +kernel,rfl,by decide +kernel,by decide +kernel⟩
theorem qas:qaj qah (defScope (sub 20 0)) qaa (defBody (sub 20 0))=true:=by decide +kernel
def qc5:Tb:={ N:=["floor","word","numbers","sign","cells"],fn:=[("sign_told",3),("many_cells",1)],gc:=[],mn:=[],fs:=[],nw:=[("Joined",4),("NoSquare",4),("Ring",4)],ck:=[],xk:=["NoRule"],dc:=[] }
theorem qkn:FnScope qc5.N ["floor","word","numbers"] (defScope (top 35)):=⟨rfl,rfl,rfl,by decide +kernel,rfl,by decide +kernel,by decide +kernel⟩
theorem qks:qaj qc5 (defScope (top 35)) qcb (defBody (top 35))=true:=by decide +kernel
def qda:Tb:={ N:=["floor","numbers"],fn:=[("many_cells",1)],gc:=[],mn:=[],fs:=[],nw:=[],ck:=[],xk:=["NoRule"],dc:=[] }
theorem qjL:FnScope qda.N ["floor","numbers"] (defScope (top 34)):=⟨rfl,rfl,rfl,by decide +kernel,rfl,by decide +kernel,by decide +kernel⟩
theorem qjE:qaj qda (defScope (top 34)) qcg (defBody (top 34))=true:=by decide +kernel
def qdG:Tb:={ N:=["floor","line","words","word","numbers","one","sign","cells"],fn:=[("number_of",1),("whole_rule",3),("cells_told",2),("sign_told",3)],gc:=[],mn:=[],fs:=[],nw:=[("Unlike",4),("Rising",4),("Counted",4),("Total",4),("Seen",4)],ck:=[],xk:=["NoRule"],dc:=[] }
theorem qlz:FnScope qdG.N ["floor","line"] (defScope (top 36)):=⟨rfl,rfl,rfl,by decide +kernel,rfl,by decide +kernel,by decide +kernel⟩
theorem qle:qaj qdG (defScope (top 36)) qcG (defBody (top 36))=true:=by decide +kernel
def qc4:Tb:={ N:=["floor","filling","sign"],fn:=[("many_cells",1)],gc:=[],mn:=[],fs:=[],nw:=[],ck:=[],xk:=[],dc:=[] }
theorem qjr:FnScope qc4.N ["floor","filling"] (defScope (top 18)):=⟨rfl,rfl,rfl,by decide +kernel,rfl,by decide +kernel,by decide +kernel⟩
theorem qkC:qaj qc4 (defScope (top 18)) qcd (defBody (top 18))=true:=by decide +kernel
def qbf:Tb:={ N:=["self","floor","lines","clues","line"],fn:=[("floor_of",3),("read_rule",2),("is_filling",2)],gc:=["MOST_RULES"],mn:=[],fs:=["ground","rule_list","clue_list"],nw:=[],ck:=[],xk:=["NoFloor","NoPuzzle"],dc:=[] }
theorem qfE:FnScope qbf.N ["self","floor","lines","clues"] (defScope (sub 39 0)):=⟨rfl,rfl,rfl,by decide +kernel,rfl,by decide +kernel,by decide +kernel⟩
theorem qfy:qaj qbf (defScope (sub 39 0)) qbg (defBody (sub 39 0))=true:=by decide +kernel
def qbX:Tb:={ N:=["self","clues"],fn:=[],gc:=[],mn:=[("lines",0)],fs:=["ground"],nw:=[("Puzzle",3)],ck:=[],xk:=[],dc:=[] }
theorem qhA:FnScope qbX.N ["self","clues"] (defScope (sub 39 10)):=⟨rfl,rfl,rfl,by decide +kernel,rfl,by decide +kernel,by decide +kernel⟩
theorem qhM:qaj qbX (defScope (sub 39 10)) qbo (defBody (sub 39 10))=true:=by decide +kernel
def qcz:Tb:={ N:=["text","parts","numbers","word","floor","lines","puzzle","cell"],fn:=[("read_number",1),("floor_of",3),("many_cells",1),("read_filling",2)],gc:=[],mn:=[("clued",1)],fs:=[],nw:=[("Puzzle",3)],ck:=[],xk:=["NoText"],dc:=[] }
theorem qji:FnScope qcz.N ["text"] (defScope (top 45)):=⟨rfl,rfl,rfl,by decide +kernel,rfl,by decide +kernel,by decide +kernel⟩
theorem qip:qaj qcz (defScope (top 45)) qbK (defBody (top 45))=true:=by decide +kernel
def qdF:Tb:={ N:=["_law_puzzle","_law_floor_here","_law_lines","_law_clues"],fn:=[("show_puzzle",1),("_law_text",3)],gc:=[],mn:=[("place",0),("lines",0),("clues",0)],fs:=[],nw:=[],ck:=[("Puzzle",true)],xk:=[],dc:=[] }
theorem qlK:FnScope qdF.N ["_law_puzzle","_law_floor_here","_law_lines","_law_clues"] (defScope (top 52)):=⟨rfl,rfl,rfl,by decide +kernel,rfl,by decide +kernel,by decide +kernel⟩
theorem qlm:qaj qdF (defScope (top 52)) qcH (defBody (top 52))=true:=by decide +kernel
def qph:Tb:={ N:=["_law_script","_law_floor_here","_law_lines","_law_k","_law_clues","_law_cell","_law_text_here","_law_found"],fn:=[("_law_floor",1),("_law_cell_at",2),("_law_rule",3),("show_puzzle",1),("_law_text",3),("read_puzzle",1),("_law_told",4)],gc:=[],mn:=[("lines",0),("clues",0)],fs:=[],nw:=[("Puzzle",3)],ck:=[],xk:=[],dc:=[] }
theorem qwe:FnScope qph.N ["_law_script"] (defScope (top 53)):=⟨rfl,rfl,rfl,by decide +kernel,rfl,by decide +kernel,by decide +kernel⟩
theorem qv8:qaj qph (defScope (top 53)) qoI (defBody (top 53))=true:=by decide +kernel
section
variable {P:Program} {w:World} {K:PySem.W.Frag} {h:Heap} {mg:Str→Option Value} {base:Heap}
section
variable (c:He.SaysD fa fn K) (cx:quh xa K=true) (ct:qwB ts w K) (X:K.In h) (N:h.Ns mainGlobals mg)
include c cx ct X N
theorem qjO:TabOk P w K mg base qdd qcZ (GK K) 0:=
 qdn (mts:=[]) (fds:=[]) c X N trivial trivial rfl trivial rfl trivial trivial trivial trivial trivial
theorem qki:DefAt P w K mg base (GK K) 1 "_law_floor" 1 g__law_floor:=
 qje (G:=GK K) (T:=qdd) (Γ:=qcZ) (k:=0) (m:=2) (i:=0) (j:=21) (ir:=qcf) (ps:=["_law_cell"]) (d:=qfZ) c X N rfl rfl rfl rfl rfl rfl qjN rfl qkl (fun _ _ _ _ _ _ us hl=>match us,hl with | [_],_=>rfl) (qjO c cx ct X N)
theorem qhn:TabOk P w K mg base qb6 qb4 (GK K) 0:=
 qdn (mts:=[]) (fds:=[]) c X N trivial trivial rfl trivial rfl trivial trivial trivial trivial trivial
theorem qdj:DefAt P w K mg base (GK K) 1 "_law_cell_at" 2 g__law_cell_at:=
 qje (G:=GK K) (T:=qb6) (Γ:=qb4) (k:=0) (m:=1) (i:=1) (j:=22) (ir:=qbt) (ps:=["_law_script","_law_k"]) (d:=qeK) c X N rfl rfl rfl rfl rfl rfl qhj rfl qhO (fun _ _ _ _ _ _ us hl=>match us,hl with | [_,_],_=>rfl) (qhn c cx ct X N)
theorem qjH:TabOk P w K mg base qcX qc6 (GK K) 1:=
 qdn (mts:=[]) (fds:=[]) c X N ⟨(qdj c cx ct X N).mono (by decide),trivial⟩ trivial rfl trivial rfl trivial trivial trivial trivial trivial
theorem qjz:DefAt P w K mg base (GK K) 2 "_law_cells" 4 g__law_cells:=
 qje (G:=GK K) (T:=qcX) (Γ:=qc6) (k:=1) (m:=3) (i:=2) (j:=23) (ir:=qck) (ps:=["_law_script","_law_at","_law_many","_law_size"]) (d:=qfW) c X N rfl rfl rfl rfl rfl rfl qjo rfl qku (fun _ _ _ _ _ _ us hl=>match us,hl with | [_,_,_,_],_=>rfl) (qjH c cx ct X N)
theorem qkN:TabOk P w K mg base qdw qdT (GK K) 2:=
 qdn (mts:=[]) (fds:=[]) c X N ⟨(qdj c cx ct X N).mono (by decide),(qjz c cx ct X N).mono (by decide),trivial⟩ trivial rfl trivial rfl trivial trivial trivial trivial trivial
theorem qkZ:DefAt P w K mg base (GK K) 3 "_law_rule" 3 g__law_rule:=
 qje (G:=GK K) (T:=qdw) (Γ:=qdT) (k:=2) (m:=8) (i:=3) (j:=24) (ir:=qcK) (ps:=["_law_script","_law_at","_law_floor_here"]) (d:=qgZ) c X N rfl rfl rfl rfl rfl rfl qk0 rfl qk9 (fun _ _ _ _ _ _ us hl=>match us,hl with | [_,_,_],_=>rfl) (qkN c cx ct X N)
theorem qhL:TabOk P w K mg base qb3 qb1 (GK K) 0:=
 qdn (mts:=[]) (fds:=[]) c X N trivial ⟨qmo (j:=25) c X N rfl,trivial⟩ rfl trivial rfl trivial trivial trivial trivial trivial
theorem qhT:DefAt P w K mg base (GK K) 1 "show_filling" 2 g_show_filling:=
 qje (G:=GK K) (T:=qb3) (Γ:=qb1) (k:=0) (m:=4) (i:=4) (j:=26) (ir:=qbn) (ps:=["floor","filling"]) (d:=qeH) c X N rfl rfl rfl rfl rfl rfl qhD rfl qhu (fun _ _ _ _ _ _ us hl=>match us,hl with | [_,_],_=>rfl) (qhL c cx ct X N)
theorem qhl:TabOk P w K mg base qb9 qb5 (GK K) 0:=
 qdn (mts:=[]) (fds:=[(0,0,0),(1,0,0),(2,0,0),(3,0,0),(4,0,0),(5,0,0),(6,0,0),(7,0,0),(25,0,0)]) c X N trivial trivial rfl trivial rfl ⟨fun x e=>by cases e;exact fd1 (j:=27) (j2:=28) c rfl rfl rfl rfl (show(FL 0).Nodup by decide),fun x e=>by cases e;exact fd1 (j:=29) (j2:=30) c rfl rfl rfl rfl (show(FL 1).Nodup by decide),fun x e=>by cases e;exact fd1 (j:=31) (j2:=32) c rfl rfl rfl rfl (show(FL 2).Nodup by decide),fun x e=>by cases e;exact fd1 (j:=33) (j2:=34) c rfl rfl rfl rfl (show(FL 3).Nodup by decide),fun x e=>by cases e;exact fd1 (j:=35) (j2:=36) c rfl rfl rfl rfl (show(FL 4).Nodup by decide),fun x e=>by cases e;exact fd1 (j:=37) (j2:=38) c rfl rfl rfl rfl (show(FL 5).Nodup by decide),fun x e=>by cases e;exact fd1 (j:=39) (j2:=40) c rfl rfl rfl rfl (show(FL 6).Nodup by decide),fun x e=>by cases e;exact fd1 (j:=41) (j2:=42) c rfl rfl rfl rfl (show(FL 7).Nodup by decide),fun x e=>by cases e;exact fd1 (j:=43) (j2:=44) c rfl rfl rfl rfl (show(FL 25).Nodup by decide),trivial⟩ trivial trivial trivial trivial
theorem qeJ:MthAt P w K mg base (GK K) 1 25 "place" 0 g_Puzzle_place:=
 mth1 (G:=GK K) (T:=qb9) (Γ:=qb5) (k:=0) (m:=0) (i:=44) (j:=45) (j2:=43) (ir:=qbm) (ps:=["self"]) (d:=qeL) (cn:=25) c rfl rfl rfl rfl rfl rfl rfl rfl (show("place" : Str)∉FL 25 by decide) rfl qhJ rfl qhy (fun _ _ _ _ _ _ us hl=>match us,hl with | [_],_=>rfl) (qhl c cx ct X N)
theorem qiF:TabOk P w K mg base qcw qcs (GK K) 0:=
 qdn (mts:=[]) (fds:=[]) c X N trivial trivial rfl trivial rfl trivial trivial trivial trivial trivial
theorem qjd:MthAt P w K mg base (GK K) 1 0 "name" 0 g_Unlike_name:=
 mth1 (G:=GK K) (T:=qcw) (Γ:=qcs) (k:=0) (m:=0) (i:=20) (j:=46) (j2:=27) (ir:=qbM) (ps:=["self"]) (d:=qfl) (cn:=0) c rfl rfl rfl rfl rfl rfl rfl rfl (show("name" : Str)∉FL 0 by decide) rfl qiD rfl qi3 (fun _ _ _ _ _ _ us hl=>match us,hl with | [_],_=>rfl) (qiF c cx ct X N)
theorem qkB:TabOk P w K mg base qdg qdc (GK K) 0:=
 qdn (mts:=[]) (fds:=[]) c X N trivial trivial rfl trivial rfl trivial trivial trivial trivial trivial
theorem qkh:MthAt P w K mg base (GK K) 1 1 "name" 0 g_Total_name:=
 mth1 (G:=GK K) (T:=qdg) (Γ:=qdc) (k:=0) (m:=0) (i:=21) (j:=47) (j2:=29) (ir:=qci) (ps:=["self"]) (d:=qf3) (cn:=1) c rfl rfl rfl rfl rfl rfl rfl rfl (show("name" : Str)∉FL 1 by decide) rfl qkv rfl qj5 (fun _ _ _ _ _ _ us hl=>match us,hl with | [_],_=>rfl) (qkB c cx ct X N)
theorem qiT:TabOk P w K mg base qcr qcq (GK K) 0:=
 qdn (mts:=[]) (fds:=[]) c X N trivial trivial rfl trivial rfl trivial trivial trivial trivial trivial
theorem qiJ:MthAt P w K mg base (GK K) 1 2 "name" 0 g_Rising_name:=
 mth1 (G:=GK K) (T:=qcr) (Γ:=qcq) (k:=0) (m:=0) (i:=22) (j:=48) (j2:=31) (ir:=qbB) (ps:=["self"]) (d:=qe8) (cn:=2) c rfl rfl rfl rfl rfl rfl rfl rfl (show("name" : Str)∉FL 2 by decide) rfl qiS rfl qis (fun _ _ _ _ _ _ us hl=>match us,hl with | [_],_=>rfl) (qiT c cx ct X N)
theorem qkP:TabOk P w K mg base qdL qdO (GK K) 0:=
 qdn (mts:=[]) (fds:=[]) c X N trivial trivial rfl trivial rfl trivial trivial trivial trivial trivial
theorem qlk:MthAt P w K mg base (GK K) 1 3 "name" 0 g_Seen_name:=
 mth1 (G:=GK K) (T:=qdL) (Γ:=qdO) (k:=0) (m:=0) (i:=23) (j:=49) (j2:=33) (ir:=qcF) (ps:=["self"]) (d:=qhe) (cn:=3) c rfl rfl rfl rfl rfl rfl rfl rfl (show("name" : Str)∉FL 3 by decide) rfl qld rfl qlJ (fun _ _ _ _ _ _ us hl=>match us,hl with | [_],_=>rfl) (qkP c cx ct X N)
theorem qhv:TabOk P w K mg base qbU qb0 (GK K) 0:=
 qdn (mts:=[]) (fds:=[]) c X N trivial trivial rfl trivial rfl trivial trivial trivial trivial trivial
theorem qhs:MthAt P w K mg base (GK K) 1 4 "name" 0 g_Counted_name:=
 mth1 (G:=GK K) (T:=qbU) (Γ:=qb0) (k:=0) (m:=0) (i:=24) (j:=50) (j2:=35) (ir:=qbu) (ps:=["self"]) (d:=qeD) (cn:=4) c rfl rfl rfl rfl rfl rfl rfl rfl (show("name" : Str)∉FL 4 by decide) rfl qht rfl qhp (fun _ _ _ _ _ _ us hl=>match us,hl with | [_],_=>rfl) (qhv c cx ct X N)
theorem qiZ:TabOk P w K mg base qcA qcu (GK K) 0:=
 qdn (mts:=[]) (fds:=[]) c X N trivial trivial rfl trivial rfl trivial trivial trivial trivial trivial
theorem qiQ:MthAt P w K mg base (GK K) 1 5 "name" 0 g_Joined_name:=
 mth1 (G:=GK K) (T:=qcA) (Γ:=qcu) (k:=0) (m:=0) (i:=25) (j:=51) (j2:=37) (ir:=qbE) (ps:=["self"]) (d:=qe7) (cn:=5) c rfl rfl rfl rfl rfl rfl rfl rfl (show("name" : Str)∉FL 5 by decide) rfl qio rfl qiX (fun _ _ _ _ _ _ us hl=>match us,hl with | [_],_=>rfl) (qiZ c cx ct X N)
theorem qgN:TabOk P w K mg base qbG qbL (GK K) 0:=
 qdn (mts:=[]) (fds:=[]) c X N trivial trivial rfl trivial rfl trivial trivial trivial trivial trivial
theorem qgt:MthAt P w K mg base (GK K) 1 6 "name" 0 g_NoSquare_name:=
 mth1 (G:=GK K) (T:=qbG) (Γ:=qbL) (k:=0) (m:=0) (i:=26) (j:=52) (j2:=39) (ir:=qa8) (ps:=["self"]) (d:=qd8) (cn:=6) c rfl rfl rfl rfl rfl rfl rfl rfl (show("name" : Str)∉FL 6 by decide) rfl qgU rfl qgH (fun _ _ _ _ _ _ us hl=>match us,hl with | [_],_=>rfl) (qgN c cx ct X N)
theorem qkK:TabOk P w K mg base qdz qdJ (GK K) 0:=
 qdn (mts:=[]) (fds:=[]) c X N trivial trivial rfl trivial rfl trivial trivial trivial trivial trivial
theorem qli:MthAt P w K mg base (GK K) 1 7 "name" 0 g_Ring_name:=
 mth1 (G:=GK K) (T:=qdz) (Γ:=qdJ) (k:=0) (m:=0) (i:=27) (j:=53) (j2:=41) (ir:=qcU) (ps:=["self"]) (d:=qgn) (cn:=7) c rfl rfl rfl rfl rfl rfl rfl rfl (show("name" : Str)∉FL 7 by decide) rfl qln rfl qlA (fun _ _ _ _ _ _ us hl=>match us,hl with | [_],_=>rfl) (qkK c cx ct X N)
theorem qcN:TabOk P w K mg base qaG qaJ (GK K) 0:=
 qdn (mts:=[]) (fds:=[(0,0,1),(1,0,1),(2,0,1),(3,0,1),(4,0,1),(5,0,1),(6,0,1),(7,0,1)]) c X N trivial trivial rfl trivial rfl ⟨fun x e=>by cases e;exact fd1 (j:=27) (j2:=54) c rfl rfl rfl rfl (show(FL 0).Nodup by decide),fun x e=>by cases e;exact fd1 (j:=29) (j2:=55) c rfl rfl rfl rfl (show(FL 1).Nodup by decide),fun x e=>by cases e;exact fd1 (j:=31) (j2:=56) c rfl rfl rfl rfl (show(FL 2).Nodup by decide),fun x e=>by cases e;exact fd1 (j:=33) (j2:=57) c rfl rfl rfl rfl (show(FL 3).Nodup by decide),fun x e=>by cases e;exact fd1 (j:=35) (j2:=58) c rfl rfl rfl rfl (show(FL 4).Nodup by decide),fun x e=>by cases e;exact fd1 (j:=37) (j2:=59) c rfl rfl rfl rfl (show(FL 5).Nodup by decide),fun x e=>by cases e;exact fd1 (j:=39) (j2:=60) c rfl rfl rfl rfl (show(FL 6).Nodup by decide),fun x e=>by cases e;exact fd1 (j:=41) (j2:=61) c rfl rfl rfl rfl (show(FL 7).Nodup by decide),trivial⟩ trivial trivial trivial trivial
theorem qea:MthAt P w K mg base (GK K) 1 0 "told_numbers" 0 g_Rule_told_numbers:=
 mth1 (G:=GK K) (T:=qaG) (Γ:=qaJ) (k:=0) (m:=0) (i:=28) (j:=62) (j2:=27) (ir:=qaq) (ps:=["self"]) (d:=qce) (cn:=0) c rfl rfl rfl rfl rfl rfl rfl rfl (show("told_numbers" : Str)∉FL 0 by decide) rfl qcT rfl qcO (fun _ _ _ _ _ _ us hl=>match us,hl with | [_],_=>rfl) (qcN c cx ct X N)
theorem qei:MthAt P w K mg base (GK K) 1 2 "told_numbers" 0 g_Rule_told_numbers:=
 mth1 (G:=GK K) (T:=qaG) (Γ:=qaJ) (k:=0) (m:=0) (i:=30) (j:=63) (j2:=31) (ir:=qaq) (ps:=["self"]) (d:=qcc) (cn:=2) c rfl rfl rfl rfl rfl rfl rfl rfl (show("told_numbers" : Str)∉FL 2 by decide) rfl qcT rfl qcO (fun _ _ _ _ _ _ us hl=>match us,hl with | [_],_=>rfl) (qcN c cx ct X N)
theorem qey:TabOk P w K mg base qaS qaR (GK K) 0:=
 qdn (mts:=[]) (fds:=[(0,0,2),(1,0,2),(2,0,2),(3,0,2),(4,0,2),(5,0,2),(6,0,2),(7,0,2),(0,1,1),(1,1,1),(2,1,1),(3,1,1),(4,1,1),(5,1,1),(6,1,1),(7,1,1)]) c X N trivial trivial rfl trivial rfl ⟨fun x e=>by cases e;exact fd1 (j:=27) (j2:=64) c rfl rfl rfl rfl (show(FL 0).Nodup by decide),fun x e=>by cases e;exact fd1 (j:=29) (j2:=65) c rfl rfl rfl rfl (show(FL 1).Nodup by decide),fun x e=>by cases e;exact fd1 (j:=31) (j2:=66) c rfl rfl rfl rfl (show(FL 2).Nodup by decide),fun x e=>by cases e;exact fd1 (j:=33) (j2:=67) c rfl rfl rfl rfl (show(FL 3).Nodup by decide),fun x e=>by cases e;exact fd1 (j:=35) (j2:=68) c rfl rfl rfl rfl (show(FL 4).Nodup by decide),fun x e=>by cases e;exact fd1 (j:=37) (j2:=69) c rfl rfl rfl rfl (show(FL 5).Nodup by decide),fun x e=>by cases e;exact fd1 (j:=39) (j2:=70) c rfl rfl rfl rfl (show(FL 6).Nodup by decide),fun x e=>by cases e;exact fd1 (j:=41) (j2:=71) c rfl rfl rfl rfl (show(FL 7).Nodup by decide),fun x e=>by cases e;exact fd1 (j:=27) (j2:=54) c rfl rfl rfl rfl (show(FL 0).Nodup by decide),fun x e=>by cases e;exact fd1 (j:=29) (j2:=55) c rfl rfl rfl rfl (show(FL 1).Nodup by decide),fun x e=>by cases e;exact fd1 (j:=31) (j2:=56) c rfl rfl rfl rfl (show(FL 2).Nodup by decide),fun x e=>by cases e;exact fd1 (j:=33) (j2:=57) c rfl rfl rfl rfl (show(FL 3).Nodup by decide),fun x e=>by cases e;exact fd1 (j:=35) (j2:=58) c rfl rfl rfl rfl (show(FL 4).Nodup by decide),fun x e=>by cases e;exact fd1 (j:=37) (j2:=59) c rfl rfl rfl rfl (show(FL 5).Nodup by decide),fun x e=>by cases e;exact fd1 (j:=39) (j2:=60) c rfl rfl rfl rfl (show(FL 6).Nodup by decide),fun x e=>by cases e;exact fd1 (j:=41) (j2:=61) c rfl rfl rfl rfl (show(FL 7).Nodup by decide),trivial⟩ trivial trivial trivial trivial
theorem qev:MthAt P w K mg base (GK K) 1 1 "told_numbers" 0 g_Total_told_numbers:=
 mth1 (G:=GK K) (T:=qaS) (Γ:=qaR) (k:=0) (m:=0) (i:=29) (j:=72) (j2:=29) (ir:=qax) (ps:=["self"]) (d:=qcp) (cn:=1) c rfl rfl rfl rfl rfl rfl rfl rfl (show("told_numbers" : Str)∉FL 1 by decide) rfl qew rfl qeB (fun _ _ _ _ _ _ us hl=>match us,hl with | [_],_=>rfl) (qey c cx ct X N)
theorem qeX:TabOk P w K mg base qa0 qaY (GK K) 0:=
 qdn (mts:=[]) (fds:=[(0,0,2),(1,0,2),(2,0,2),(3,0,2),(4,0,2),(5,0,2),(6,0,2),(7,0,2),(0,1,1),(1,1,1),(2,1,1),(3,1,1),(4,1,1),(5,1,1),(6,1,1),(7,1,1)]) c X N trivial trivial rfl trivial rfl ⟨fun x e=>by cases e;exact fd1 (j:=27) (j2:=64) c rfl rfl rfl rfl (show(FL 0).Nodup by decide),fun x e=>by cases e;exact fd1 (j:=29) (j2:=65) c rfl rfl rfl rfl (show(FL 1).Nodup by decide),fun x e=>by cases e;exact fd1 (j:=31) (j2:=66) c rfl rfl rfl rfl (show(FL 2).Nodup by decide),fun x e=>by cases e;exact fd1 (j:=33) (j2:=67) c rfl rfl rfl rfl (show(FL 3).Nodup by decide),fun x e=>by cases e;exact fd1 (j:=35) (j2:=68) c rfl rfl rfl rfl (show(FL 4).Nodup by decide),fun x e=>by cases e;exact fd1 (j:=37) (j2:=69) c rfl rfl rfl rfl (show(FL 5).Nodup by decide),fun x e=>by cases e;exact fd1 (j:=39) (j2:=70) c rfl rfl rfl rfl (show(FL 6).Nodup by decide),fun x e=>by cases e;exact fd1 (j:=41) (j2:=71) c rfl rfl rfl rfl (show(FL 7).Nodup by decide),fun x e=>by cases e;exact fd1 (j:=27) (j2:=54) c rfl rfl rfl rfl (show(FL 0).Nodup by decide),fun x e=>by cases e;exact fd1 (j:=29) (j2:=55) c rfl rfl rfl rfl (show(FL 1).Nodup by decide),fun x e=>by cases e;exact fd1 (j:=31) (j2:=56) c rfl rfl rfl rfl (show(FL 2).Nodup by decide),fun x e=>by cases e;exact fd1 (j:=33) (j2:=57) c rfl rfl rfl rfl (show(FL 3).Nodup by decide),fun x e=>by cases e;exact fd1 (j:=35) (j2:=58) c rfl rfl rfl rfl (show(FL 4).Nodup by decide),fun x e=>by cases e;exact fd1 (j:=37) (j2:=59) c rfl rfl rfl rfl (show(FL 5).Nodup by decide),fun x e=>by cases e;exact fd1 (j:=39) (j2:=60) c rfl rfl rfl rfl (show(FL 6).Nodup by decide),fun x e=>by cases e;exact fd1 (j:=41) (j2:=61) c rfl rfl rfl rfl (show(FL 7).Nodup by decide),trivial⟩ trivial trivial trivial trivial
theorem qe2:MthAt P w K mg base (GK K) 1 3 "told_numbers" 0 g_Seen_told_numbers:=
 mth1 (G:=GK K) (T:=qa0) (Γ:=qaY) (k:=0) (m:=0) (i:=31) (j:=73) (j2:=33) (ir:=qaI) (ps:=["self"]) (d:=qcS) (cn:=3) c rfl rfl rfl rfl rfl rfl rfl rfl (show("told_numbers" : Str)∉FL 3 by decide) rfl qeP rfl qeZ (fun _ _ _ _ _ _ us hl=>match us,hl with | [_],_=>rfl) (qeX c cx ct X N)
theorem qd2:TabOk P w K mg base qaK qaM (GK K) 0:=
 qdn (mts:=[]) (fds:=[(0,0,2),(1,0,2),(2,0,2),(3,0,2),(4,0,2),(5,0,2),(6,0,2),(7,0,2),(0,1,3),(1,1,3),(2,1,3),(3,1,3),(4,1,3),(5,1,3),(6,1,3),(7,1,3),(0,2,1),(1,2,1),(2,2,1),(3,2,1),(4,2,1),(5,2,1),(6,2,1),(7,2,1)]) c X N trivial trivial rfl trivial rfl ⟨fun x e=>by cases e;exact fd1 (j:=27) (j2:=64) c rfl rfl rfl rfl (show(FL 0).Nodup by decide),fun x e=>by cases e;exact fd1 (j:=29) (j2:=65) c rfl rfl rfl rfl (show(FL 1).Nodup by decide),fun x e=>by cases e;exact fd1 (j:=31) (j2:=66) c rfl rfl rfl rfl (show(FL 2).Nodup by decide),fun x e=>by cases e;exact fd1 (j:=33) (j2:=67) c rfl rfl rfl rfl (show(FL 3).Nodup by decide),fun x e=>by cases e;exact fd1 (j:=35) (j2:=68) c rfl rfl rfl rfl (show(FL 4).Nodup by decide),fun x e=>by cases e;exact fd1 (j:=37) (j2:=69) c rfl rfl rfl rfl (show(FL 5).Nodup by decide),fun x e=>by cases e;exact fd1 (j:=39) (j2:=70) c rfl rfl rfl rfl (show(FL 6).Nodup by decide),fun x e=>by cases e;exact fd1 (j:=41) (j2:=71) c rfl rfl rfl rfl (show(FL 7).Nodup by decide),fun x e=>by cases e;exact fd1 (j:=27) (j2:=74) c rfl rfl rfl rfl (show(FL 0).Nodup by decide),fun x e=>by cases e;exact fd1 (j:=29) (j2:=75) c rfl rfl rfl rfl (show(FL 1).Nodup by decide),fun x e=>by cases e;exact fd1 (j:=31) (j2:=76) c rfl rfl rfl rfl (show(FL 2).Nodup by decide),fun x e=>by cases e;exact fd1 (j:=33) (j2:=77) c rfl rfl rfl rfl (show(FL 3).Nodup by decide),fun x e=>by cases e;exact fd1 (j:=35) (j2:=78) c rfl rfl rfl rfl (show(FL 4).Nodup by decide),fun x e=>by cases e;exact fd1 (j:=37) (j2:=79) c rfl rfl rfl rfl (show(FL 5).Nodup by decide),fun x e=>by cases e;exact fd1 (j:=39) (j2:=80) c rfl rfl rfl rfl (show(FL 6).Nodup by decide),fun x e=>by cases e;exact fd1 (j:=41) (j2:=81) c rfl rfl rfl rfl (show(FL 7).Nodup by decide),fun x e=>by cases e;exact fd1 (j:=27) (j2:=54) c rfl rfl rfl rfl (show(FL 0).Nodup by decide),fun x e=>by cases e;exact fd1 (j:=29) (j2:=55) c rfl rfl rfl rfl (show(FL 1).Nodup by decide),fun x e=>by cases e;exact fd1 (j:=31) (j2:=56) c rfl rfl rfl rfl (show(FL 2).Nodup by decide),fun x e=>by cases e;exact fd1 (j:=33) (j2:=57) c rfl rfl rfl rfl (show(FL 3).Nodup by decide),fun x e=>by cases e;exact fd1 (j:=35) (j2:=58) c rfl rfl rfl rfl (show(FL 4).Nodup by decide),fun x e=>by cases e;exact fd1 (j:=37) (j2:=59) c rfl rfl rfl rfl (show(FL 5).Nodup by decide),fun x e=>by cases e;exact fd1 (j:=39) (j2:=60) c rfl rfl rfl rfl (show(FL 6).Nodup by decide),fun x e=>by cases e;exact fd1 (j:=41) (j2:=61) c rfl rfl rfl rfl (show(FL 7).Nodup by decide),trivial⟩ trivial trivial trivial trivial
theorem qd4:MthAt P w K mg base (GK K) 1 4 "told_numbers" 0 g_Counted_told_numbers:=
 mth1 (G:=GK K) (T:=qaK) (Γ:=qaM) (k:=0) (m:=0) (i:=32) (j:=82) (j2:=35) (ir:=qan) (ps:=["self"]) (d:=qbO) (cn:=4) c rfl rfl rfl rfl rfl rfl rfl rfl (show("told_numbers" : Str)∉FL 4 by decide) rfl qd1 rfl qdZ (fun _ _ _ _ _ _ us hl=>match us,hl with | [_],_=>rfl) (qd2 c cx ct X N)
theorem qek:TabOk P w K mg base qaQ qaO (GK K) 0:=
 qdn (mts:=[]) (fds:=[(0,0,3),(1,0,3),(2,0,3),(3,0,3),(4,0,3),(5,0,3),(6,0,3),(7,0,3)]) c X N trivial trivial rfl trivial rfl ⟨fun x e=>by cases e;exact fd1 (j:=27) (j2:=74) c rfl rfl rfl rfl (show(FL 0).Nodup by decide),fun x e=>by cases e;exact fd1 (j:=29) (j2:=75) c rfl rfl rfl rfl (show(FL 1).Nodup by decide),fun x e=>by cases e;exact fd1 (j:=31) (j2:=76) c rfl rfl rfl rfl (show(FL 2).Nodup by decide),fun x e=>by cases e;exact fd1 (j:=33) (j2:=77) c rfl rfl rfl rfl (show(FL 3).Nodup by decide),fun x e=>by cases e;exact fd1 (j:=35) (j2:=78) c rfl rfl rfl rfl (show(FL 4).Nodup by decide),fun x e=>by cases e;exact fd1 (j:=37) (j2:=79) c rfl rfl rfl rfl (show(FL 5).Nodup by decide),fun x e=>by cases e;exact fd1 (j:=39) (j2:=80) c rfl rfl rfl rfl (show(FL 6).Nodup by decide),fun x e=>by cases e;exact fd1 (j:=41) (j2:=81) c rfl rfl rfl rfl (show(FL 7).Nodup by decide),trivial⟩ trivial trivial trivial trivial
theorem qen:MthAt P w K mg base (GK K) 1 5 "told_numbers" 0 g_Joined_told_numbers:=
 mth1 (G:=GK K) (T:=qaQ) (Γ:=qaO) (k:=0) (m:=0) (i:=33) (j:=83) (j2:=37) (ir:=qar) (ps:=["self"]) (d:=qch) (cn:=5) c rfl rfl rfl rfl rfl rfl rfl rfl (show("told_numbers" : Str)∉FL 5 by decide) rfl qej rfl qeh (fun _ _ _ _ _ _ us hl=>match us,hl with | [_],_=>rfl) (qek c cx ct X N)
theorem qdy:TabOk P w K mg base qaB qaz (GK K) 0:=
 qdn (mts:=[]) (fds:=[(0,0,3),(1,0,3),(2,0,3),(3,0,3),(4,0,3),(5,0,3),(6,0,3),(7,0,3)]) c X N trivial trivial rfl trivial rfl ⟨fun x e=>by cases e;exact fd1 (j:=27) (j2:=74) c rfl rfl rfl rfl (show(FL 0).Nodup by decide),fun x e=>by cases e;exact fd1 (j:=29) (j2:=75) c rfl rfl rfl rfl (show(FL 1).Nodup by decide),fun x e=>by cases e;exact fd1 (j:=31) (j2:=76) c rfl rfl rfl rfl (show(FL 2).Nodup by decide),fun x e=>by cases e;exact fd1 (j:=33) (j2:=77) c rfl rfl rfl rfl (show(FL 3).Nodup by decide),fun x e=>by cases e;exact fd1 (j:=35) (j2:=78) c rfl rfl rfl rfl (show(FL 4).Nodup by decide),fun x e=>by cases e;exact fd1 (j:=37) (j2:=79) c rfl rfl rfl rfl (show(FL 5).Nodup by decide),fun x e=>by cases e;exact fd1 (j:=39) (j2:=80) c rfl rfl rfl rfl (show(FL 6).Nodup by decide),fun x e=>by cases e;exact fd1 (j:=41) (j2:=81) c rfl rfl rfl rfl (show(FL 7).Nodup by decide),trivial⟩ trivial trivial trivial trivial
theorem qdA:MthAt P w K mg base (GK K) 1 6 "told_numbers" 0 g_NoSquare_told_numbers:=
 mth1 (G:=GK K) (T:=qaB) (Γ:=qaz) (k:=0) (m:=0) (i:=34) (j:=84) (j2:=39) (ir:=qal) (ps:=["self"]) (d:=qbC) (cn:=6) c rfl rfl rfl rfl rfl rfl rfl rfl (show("told_numbers" : Str)∉FL 6 by decide) rfl qdR rfl qdH (fun _ _ _ _ _ _ us hl=>match us,hl with | [_],_=>rfl) (qdy c cx ct X N)
theorem qeQ:TabOk P w K mg base qaZ qaW (GK K) 0:=
 qdn (mts:=[]) (fds:=[(0,0,3),(1,0,3),(2,0,3),(3,0,3),(4,0,3),(5,0,3),(6,0,3),(7,0,3)]) c X N trivial trivial rfl trivial rfl ⟨fun x e=>by cases e;exact fd1 (j:=27) (j2:=74) c rfl rfl rfl rfl (show(FL 0).Nodup by decide),fun x e=>by cases e;exact fd1 (j:=29) (j2:=75) c rfl rfl rfl rfl (show(FL 1).Nodup by decide),fun x e=>by cases e;exact fd1 (j:=31) (j2:=76) c rfl rfl rfl rfl (show(FL 2).Nodup by decide),fun x e=>by cases e;exact fd1 (j:=33) (j2:=77) c rfl rfl rfl rfl (show(FL 3).Nodup by decide),fun x e=>by cases e;exact fd1 (j:=35) (j2:=78) c rfl rfl rfl rfl (show(FL 4).Nodup by decide),fun x e=>by cases e;exact fd1 (j:=37) (j2:=79) c rfl rfl rfl rfl (show(FL 5).Nodup by decide),fun x e=>by cases e;exact fd1 (j:=39) (j2:=80) c rfl rfl rfl rfl (show(FL 6).Nodup by decide),fun x e=>by cases e;exact fd1 (j:=41) (j2:=81) c rfl rfl rfl rfl (show(FL 7).Nodup by decide),trivial⟩ trivial trivial trivial trivial
theorem qeN:MthAt P w K mg base (GK K) 1 7 "told_numbers" 0 g_Ring_told_numbers:=
 mth1 (G:=GK K) (T:=qaZ) (Γ:=qaW) (k:=0) (m:=0) (i:=35) (j:=85) (j2:=41) (ir:=qaD) (ps:=["self"]) (d:=qcQ) (cn:=7) c rfl rfl rfl rfl rfl rfl rfl rfl (show("told_numbers" : Str)∉FL 7 by decide) rfl qeR rfl qeS (fun _ _ _ _ _ _ us hl=>match us,hl with | [_],_=>rfl) (qeQ c cx ct X N)
theorem qa9:TabOk P w K mg base qaC qaH (GK K) 1:=
 qdn (mts:=[(0,0,g_Unlike_name),(1,0,g_Total_name),(2,0,g_Rising_name),(3,0,g_Seen_name),(4,0,g_Counted_name),(5,0,g_Joined_name),(6,0,g_NoSquare_name),(7,0,g_Ring_name),(0,1,g_Rule_told_numbers),(1,1,g_Total_told_numbers),(2,1,g_Rule_told_numbers),(3,1,g_Seen_told_numbers),(4,1,g_Counted_told_numbers),(5,1,g_Joined_told_numbers),(6,1,g_NoSquare_told_numbers),(7,1,g_Ring_told_numbers)]) (fds:=[]) c X N trivial trivial rfl ⟨fun x n e=>by cases e;exact(qjd c cx ct X N).mono (by decide),fun x n e=>by cases e;exact(qkh c cx ct X N).mono (by decide),fun x n e=>by cases e;exact(qiJ c cx ct X N).mono (by decide),fun x n e=>by cases e;exact(qlk c cx ct X N).mono (by decide),fun x n e=>by cases e;exact(qhs c cx ct X N).mono (by decide),fun x n e=>by cases e;exact(qiQ c cx ct X N).mono (by decide),fun x n e=>by cases e;exact(qgt c cx ct X N).mono (by decide),fun x n e=>by cases e;exact(qli c cx ct X N).mono (by decide),fun x n e=>by cases e;exact(qea c cx ct X N).mono (by decide),fun x n e=>by cases e;exact(qev c cx ct X N).mono (by decide),fun x n e=>by cases e;exact(qei c cx ct X N).mono (by decide),fun x n e=>by cases e;exact(qe2 c cx ct X N).mono (by decide),fun x n e=>by cases e;exact(qd4 c cx ct X N).mono (by decide),fun x n e=>by cases e;exact(qen c cx ct X N).mono (by decide),fun x n e=>by cases e;exact(qdA c cx ct X N).mono (by decide),fun x n e=>by cases e;exact(qeN c cx ct X N).mono (by decide),trivial⟩ rfl trivial trivial trivial trivial trivial
theorem qir:MthAt P w K mg base (GK K) 2 0 "line" 0 g_Rule_line:=
 mth1 (G:=GK K) (T:=qaC) (Γ:=qaH) (k:=1) (m:=1) (i:=36) (j:=86) (j2:=27) (ir:=qav) (ps:=["self"]) (d:=qfw) (cn:=0) c rfl rfl rfl rfl rfl rfl rfl rfl (show("line" : Str)∉FL 0 by decide) rfl qbc rfl qa7 (fun _ _ _ _ _ _ us hl=>match us,hl with | [_],_=>rfl) (qa9 c cx ct X N)
theorem qjJ:MthAt P w K mg base (GK K) 2 1 "line" 0 g_Rule_line:=
 mth1 (G:=GK K) (T:=qaC) (Γ:=qaH) (k:=1) (m:=1) (i:=37) (j:=87) (j2:=29) (ir:=qav) (ps:=["self"]) (d:=qf6) (cn:=1) c rfl rfl rfl rfl rfl rfl rfl rfl (show("line" : Str)∉FL 1 by decide) rfl qbc rfl qa7 (fun _ _ _ _ _ _ us hl=>match us,hl with | [_],_=>rfl) (qa9 c cx ct X N)
theorem qiP:MthAt P w K mg base (GK K) 2 2 "line" 0 g_Rule_line:=
 mth1 (G:=GK K) (T:=qaC) (Γ:=qaH) (k:=1) (m:=1) (i:=38) (j:=88) (j2:=31) (ir:=qav) (ps:=["self"]) (d:=qfp) (cn:=2) c rfl rfl rfl rfl rfl rfl rfl rfl (show("line" : Str)∉FL 2 by decide) rfl qbc rfl qa7 (fun _ _ _ _ _ _ us hl=>match us,hl with | [_],_=>rfl) (qa9 c cx ct X N)
theorem qlb:MthAt P w K mg base (GK K) 2 3 "line" 0 g_Rule_line:=
 mth1 (G:=GK K) (T:=qaC) (Γ:=qaH) (k:=1) (m:=1) (i:=39) (j:=89) (j2:=33) (ir:=qav) (ps:=["self"]) (d:=qgw) (cn:=3) c rfl rfl rfl rfl rfl rfl rfl rfl (show("line" : Str)∉FL 3 by decide) rfl qbc rfl qa7 (fun _ _ _ _ _ _ us hl=>match us,hl with | [_],_=>rfl) (qa9 c cx ct X N)
theorem qhB:MthAt P w K mg base (GK K) 2 4 "line" 0 g_Rule_line:=
 mth1 (G:=GK K) (T:=qaC) (Γ:=qaH) (k:=1) (m:=1) (i:=40) (j:=90) (j2:=35) (ir:=qav) (ps:=["self"]) (d:=qeM) (cn:=4) c rfl rfl rfl rfl rfl rfl rfl rfl (show("line" : Str)∉FL 4 by decide) rfl qbc rfl qa7 (fun _ _ _ _ _ _ us hl=>match us,hl with | [_],_=>rfl) (qa9 c cx ct X N)
theorem qix:MthAt P w K mg base (GK K) 2 5 "line" 0 g_Rule_line:=
 mth1 (G:=GK K) (T:=qaC) (Γ:=qaH) (k:=1) (m:=1) (i:=41) (j:=91) (j2:=37) (ir:=qav) (ps:=["self"]) (d:=qfq) (cn:=5) c rfl rfl rfl rfl rfl rfl rfl rfl (show("line" : Str)∉FL 5 by decide) rfl qbc rfl qa7 (fun _ _ _ _ _ _ us hl=>match us,hl with | [_],_=>rfl) (qa9 c cx ct X N)
theorem qg1:MthAt P w K mg base (GK K) 2 6 "line" 0 g_Rule_line:=
 mth1 (G:=GK K) (T:=qaC) (Γ:=qaH) (k:=1) (m:=1) (i:=42) (j:=92) (j2:=39) (ir:=qav) (ps:=["self"]) (d:=qd9) (cn:=6) c rfl rfl rfl rfl rfl rfl rfl rfl (show("line" : Str)∉FL 6 by decide) rfl qbc rfl qa7 (fun _ _ _ _ _ _ us hl=>match us,hl with | [_],_=>rfl) (qa9 c cx ct X N)
theorem qkV:MthAt P w K mg base (GK K) 2 7 "line" 0 g_Rule_line:=
 mth1 (G:=GK K) (T:=qaC) (Γ:=qaH) (k:=1) (m:=1) (i:=43) (j:=93) (j2:=41) (ir:=qav) (ps:=["self"]) (d:=qha) (cn:=7) c rfl rfl rfl rfl rfl rfl rfl rfl (show("line" : Str)∉FL 7 by decide) rfl qbc rfl qa7 (fun _ _ _ _ _ _ us hl=>match us,hl with | [_],_=>rfl) (qa9 c cx ct X N)
theorem qhE:TabOk P w K mg base qb8 qb7 (GK K) 2:=
 qdn (mts:=[(0,0,g_Rule_line),(1,0,g_Rule_line),(2,0,g_Rule_line),(3,0,g_Rule_line),(4,0,g_Rule_line),(5,0,g_Rule_line),(6,0,g_Rule_line),(7,0,g_Rule_line)]) (fds:=[(25,0,1)]) c X N trivial trivial rfl ⟨fun x n e=>by cases e;exact(qir c cx ct X N).mono (by decide),fun x n e=>by cases e;exact(qjJ c cx ct X N).mono (by decide),fun x n e=>by cases e;exact(qiP c cx ct X N).mono (by decide),fun x n e=>by cases e;exact(qlb c cx ct X N).mono (by decide),fun x n e=>by cases e;exact(qhB c cx ct X N).mono (by decide),fun x n e=>by cases e;exact(qix c cx ct X N).mono (by decide),fun x n e=>by cases e;exact(qg1 c cx ct X N).mono (by decide),fun x n e=>by cases e;exact(qkV c cx ct X N).mono (by decide),trivial⟩ rfl ⟨fun x e=>by cases e;exact fd1 (j:=43) (j2:=94) c rfl rfl rfl rfl (show(FL 25).Nodup by decide),trivial⟩ trivial trivial trivial trivial
theorem qbV:MthAt P w K mg base (GK K) 3 25 "lines" 0 g_Puzzle_lines:=
 mth1 (G:=GK K) (T:=qb8) (Γ:=qb7) (k:=2) (m:=1) (i:=45) (j:=95) (j2:=43) (ir:=qbr) (ps:=["self"]) (d:=qeE) (cn:=25) c rfl rfl rfl rfl rfl rfl rfl rfl (show("lines" : Str)∉FL 25 by decide) rfl qhz rfl qhF (fun _ _ _ _ _ _ us hl=>match us,hl with | [_],_=>rfl) (qhE c cx ct X N)
theorem qhk:TabOk P w K mg base qca qbY (GK K) 0:=
 qdn (mts:=[]) (fds:=[(25,0,2)]) c X N trivial trivial rfl trivial rfl ⟨fun x e=>by cases e;exact fd1 (j:=43) (j2:=96) c rfl rfl rfl rfl (show(FL 25).Nodup by decide),trivial⟩ trivial trivial trivial trivial
theorem qdm:MthAt P w K mg base (GK K) 1 25 "clues" 0 g_Puzzle_clues:=
 mth1 (G:=GK K) (T:=qca) (Γ:=qbY) (k:=0) (m:=0) (i:=46) (j:=97) (j2:=43) (ir:=qbq) (ps:=["self"]) (d:=qeG) (cn:=25) c rfl rfl rfl rfl rfl rfl rfl rfl (show("clues" : Str)∉FL 25 by decide) rfl qhH rfl qhR (fun _ _ _ _ _ _ us hl=>match us,hl with | [_],_=>rfl) (qhk c cx ct X N)
theorem qjf:TabOk P w K mg base qcx qcv (GK K) 3:=
 qdn (mts:=[(25,0,g_Puzzle_place),(25,1,g_Puzzle_lines),(25,2,g_Puzzle_clues)]) (fds:=[]) c X N ⟨(qhT c cx ct X N).mono (by decide),trivial⟩ trivial rfl ⟨fun x n e=>by cases e;exact(qeJ c cx ct X N).mono (by decide),fun x n e=>by cases e;exact(qbV c cx ct X N).mono (by decide),fun x n e=>by cases e;exact(qdm c cx ct X N).mono (by decide),trivial⟩ rfl trivial trivial trivial trivial trivial
theorem qft:DefAt P w K mg base (GK K) 4 "show_puzzle" 1 g_show_puzzle:=
 qje (G:=GK K) (T:=qcx) (Γ:=qcv) (k:=3) (m:=3) (i:=5) (j:=98) (ir:=qbF) (ps:=["puzzle"]) (d:=qe9) c X N rfl rfl rfl rfl rfl rfl qi7 rfl qjc (fun _ _ _ _ _ _ us hl=>match us,hl with | [_],_=>rfl) (qjf c cx ct X N)
theorem qlo:TabOk P w K mg base qdC qdV (GK K) 0:=
 qdn (mts:=[]) (fds:=[]) c X N trivial trivial rfl trivial rfl trivial trivial trivial trivial trivial
theorem qgo:DefAt P w K mg base (GK K) 1 "_law_text" 3 g__law_text:=
 qje (G:=GK K) (T:=qdC) (Γ:=qdV) (k:=0) (m:=5) (i:=6) (j:=99) (ir:=qcP) (ps:=["_law_floor_here","_law_lines","_law_clues"]) (d:=qgs) c X N rfl rfl rfl rfl rfl rfl qkW rfl qkJ (fun _ _ _ _ _ _ us hl=>match us,hl with | [_,_,_],_=>rfl) (qlo c cx ct X N)
theorem qiU:TabOk P w K mg base qct qcB (GK K) 0:=
 qdn (mts:=[]) (fds:=[]) c X N trivial ⟨qik (j:=102) c X N rfl,qmo (j:=103) c X N rfl,trivial⟩ rfl trivial rfl trivial trivial trivial ⟨rs1 (j:=100) (j2:=101) c X N rfl rfl rfl,trivial⟩ trivial
theorem qiK:DefAt P w K mg base (GK K) 1 "read_number" 1 g_read_number:=
 qje (G:=GK K) (T:=qct) (Γ:=qcB) (k:=0) (m:=1) (i:=7) (j:=104) (ir:=qbH) (ps:=["word"]) (d:=qfa) c X N rfl rfl rfl rfl rfl rfl qi0 rfl qiW (fun _ _ _ _ _ _ us hl=>match us,hl with | [_],_=>rfl) (qiU c cx ct X N)
theorem qmT:TabOk P w K mg base qes qet (GK K) 0:=
 qdn (mts:=[]) (fds:=[]) c X N trivial ⟨qik (j:=107) c X N rfl,qik (j:=108) c X N rfl,qik (j:=109) c X N rfl,trivial⟩ rfl trivial rfl trivial trivial trivial ⟨rs1 (j:=105) (j2:=106) c X N rfl rfl rfl,trivial⟩ trivial
theorem qh6:DefAt P w K mg base (GK K) 1 "floor_of" 3 g_floor_of:=
 qje (G:=GK K) (T:=qes) (Γ:=qet) (k:=0) (m:=0) (i:=8) (j:=110) (ir:=qdp) (ps:=["high","wide","signs"]) (d:=qii) c X N rfl rfl rfl rfl rfl rfl qmP rfl qmL (fun _ _ _ _ _ _ us hl=>match us,hl with | [_,_,_],_=>rfl) (qmT c cx ct X N)
theorem qj7:TabOk P w K mg base qc9 qc3 (GK K) 0:=
 qdn (mts:=[]) (fds:=[]) c X N trivial trivial rfl trivial rfl trivial trivial trivial trivial trivial
theorem qdh:DefAt P w K mg base (GK K) 1 "many_cells" 1 g_many_cells:=
 qje (G:=GK K) (T:=qc9) (Γ:=qc3) (k:=0) (m:=0) (i:=9) (j:=111) (ir:=qcj) (ps:=["floor"]) (d:=qf2) c X N rfl rfl rfl rfl rfl rfl qj8 rfl qjU (fun _ _ _ _ _ _ us hl=>match us,hl with | [_],_=>rfl) (qj7 c cx ct X N)
theorem qho:TabOk P w K mg base qbW qb2 (GK K) 0:=
 qdn (mts:=[]) (fds:=[]) c X N trivial ⟨qmo (j:=25) c X N rfl,trivial⟩ rfl trivial rfl trivial trivial trivial ⟨rs1 (j:=112) (j2:=113) c X N rfl rfl rfl,trivial⟩ trivial
theorem qhq:DefAt P w K mg base (GK K) 1 "read_filling" 2 g_read_filling:=
 qje (G:=GK K) (T:=qbW) (Γ:=qb2) (k:=0) (m:=4) (i:=10) (j:=114) (ir:=qbp) (ps:=["floor","text"]) (d:=qeF) c X N rfl rfl rfl rfl rfl rfl qhr rfl qhm (fun _ _ _ _ _ _ us hl=>match us,hl with | [_,_],_=>rfl) (qho c cx ct X N)
theorem qlx:TabOk P w K mg base qdX qdN (GK K) 0:=
 qdn (mts:=[]) (fds:=[]) c X N trivial ⟨qik (j:=117) c X N rfl,qmo (j:=118) c X N rfl,trivial⟩ rfl trivial rfl trivial trivial trivial ⟨rs1 (j:=115) (j2:=116) c X N rfl rfl rfl,trivial⟩ trivial
theorem qlp:DefAt P w K mg base (GK K) 1 "number_of" 1 g_number_of:=
 qje (G:=GK K) (T:=qdX) (Γ:=qdN) (k:=0) (m:=1) (i:=11) (j:=119) (ir:=qcV) (ps:=["word"]) (d:=qg2) c X N rfl rfl rfl rfl rfl rfl qkT rfl qk5 (fun _ _ _ _ _ _ us hl=>match us,hl with | [_],_=>rfl) (qlx c cx ct X N)
theorem qll:TabOk P w K mg base qdP qdW (GK K) 0:=
 qdn (mts:=[]) (fds:=[]) c X N trivial trivial rfl trivial rfl trivial trivial trivial ⟨rs1 (j:=115) (j2:=116) c X N rfl rfl rfl,trivial⟩ trivial
theorem qg8:DefAt P w K mg base (GK K) 1 "sign_told" 3 g_sign_told:=
 qje (G:=GK K) (T:=qdP) (Γ:=qdW) (k:=0) (m:=0) (i:=12) (j:=120) (ir:=qcI) (ps:=["floor","numbers","at"]) (d:=qgv) c X N rfl rfl rfl rfl rfl rfl qk8 rfl qkY (fun _ _ _ _ _ _ us hl=>match us,hl with | [_,_,_],_=>rfl) (qll c cx ct X N)
theorem qat:TabOk P w K mg base qah qae (GK K) 0:=
 qdn (mts:=[]) (fds:=[(0,0,0),(1,0,0),(2,0,0),(3,0,0),(4,0,0),(5,0,0),(6,0,0),(7,0,0),(25,0,0),(0,1,1),(1,1,1),(2,1,1),(3,1,1),(4,1,1),(5,1,1),(6,1,1),(7,1,1),(0,2,2),(1,2,2),(2,2,2),(3,2,2),(4,2,2),(5,2,2),(6,2,2),(7,2,2),(0,3,3),(1,3,3),(2,3,3),(3,3,3),(4,3,3),(5,3,3),(6,3,3),(7,3,3)]) c X N trivial trivial rfl trivial rfl ⟨fun x e=>by cases e;exact fd1 (j:=27) (j2:=28) c rfl rfl rfl rfl (show(FL 0).Nodup by decide),fun x e=>by cases e;exact fd1 (j:=29) (j2:=30) c rfl rfl rfl rfl (show(FL 1).Nodup by decide),fun x e=>by cases e;exact fd1 (j:=31) (j2:=32) c rfl rfl rfl rfl (show(FL 2).Nodup by decide),fun x e=>by cases e;exact fd1 (j:=33) (j2:=34) c rfl rfl rfl rfl (show(FL 3).Nodup by decide),fun x e=>by cases e;exact fd1 (j:=35) (j2:=36) c rfl rfl rfl rfl (show(FL 4).Nodup by decide),fun x e=>by cases e;exact fd1 (j:=37) (j2:=38) c rfl rfl rfl rfl (show(FL 5).Nodup by decide),fun x e=>by cases e;exact fd1 (j:=39) (j2:=40) c rfl rfl rfl rfl (show(FL 6).Nodup by decide),fun x e=>by cases e;exact fd1 (j:=41) (j2:=42) c rfl rfl rfl rfl (show(FL 7).Nodup by decide),fun x e=>by cases e;exact fd1 (j:=43) (j2:=44) c rfl rfl rfl rfl (show(FL 25).Nodup by decide),fun x e=>by cases e;exact fd1 (j:=27) (j2:=54) c rfl rfl rfl rfl (show(FL 0).Nodup by decide),fun x e=>by cases e;exact fd1 (j:=29) (j2:=55) c rfl rfl rfl rfl (show(FL 1).Nodup by decide),fun x e=>by cases e;exact fd1 (j:=31) (j2:=56) c rfl rfl rfl rfl (show(FL 2).Nodup by decide),fun x e=>by cases e;exact fd1 (j:=33) (j2:=57) c rfl rfl rfl rfl (show(FL 3).Nodup by decide),fun x e=>by cases e;exact fd1 (j:=35) (j2:=58) c rfl rfl rfl rfl (show(FL 4).Nodup by decide),fun x e=>by cases e;exact fd1 (j:=37) (j2:=59) c rfl rfl rfl rfl (show(FL 5).Nodup by decide),fun x e=>by cases e;exact fd1 (j:=39) (j2:=60) c rfl rfl rfl rfl (show(FL 6).Nodup by decide),fun x e=>by cases e;exact fd1 (j:=41) (j2:=61) c rfl rfl rfl rfl (show(FL 7).Nodup by decide),fun x e=>by cases e;exact fd1 (j:=27) (j2:=64) c rfl rfl rfl rfl (show(FL 0).Nodup by decide),fun x e=>by cases e;exact fd1 (j:=29) (j2:=65) c rfl rfl rfl rfl (show(FL 1).Nodup by decide),fun x e=>by cases e;exact fd1 (j:=31) (j2:=66) c rfl rfl rfl rfl (show(FL 2).Nodup by decide),fun x e=>by cases e;exact fd1 (j:=33) (j2:=67) c rfl rfl rfl rfl (show(FL 3).Nodup by decide),fun x e=>by cases e;exact fd1 (j:=35) (j2:=68) c rfl rfl rfl rfl (show(FL 4).Nodup by decide),fun x e=>by cases e;exact fd1 (j:=37) (j2:=69) c rfl rfl rfl rfl (show(FL 5).Nodup by decide),fun x e=>by cases e;exact fd1 (j:=39) (j2:=70) c rfl rfl rfl rfl (show(FL 6).Nodup by decide),fun x e=>by cases e;exact fd1 (j:=41) (j2:=71) c rfl rfl rfl rfl (show(FL 7).Nodup by decide),fun x e=>by cases e;exact fd1 (j:=27) (j2:=74) c rfl rfl rfl rfl (show(FL 0).Nodup by decide),fun x e=>by cases e;exact fd1 (j:=29) (j2:=75) c rfl rfl rfl rfl (show(FL 1).Nodup by decide),fun x e=>by cases e;exact fd1 (j:=31) (j2:=76) c rfl rfl rfl rfl (show(FL 2).Nodup by decide),fun x e=>by cases e;exact fd1 (j:=33) (j2:=77) c rfl rfl rfl rfl (show(FL 3).Nodup by decide),fun x e=>by cases e;exact fd1 (j:=35) (j2:=78) c rfl rfl rfl rfl (show(FL 4).Nodup by decide),fun x e=>by cases e;exact fd1 (j:=37) (j2:=79) c rfl rfl rfl rfl (show(FL 5).Nodup by decide),fun x e=>by cases e;exact fd1 (j:=39) (j2:=80) c rfl rfl rfl rfl (show(FL 6).Nodup by decide),fun x e=>by cases e;exact fd1 (j:=41) (j2:=81) c rfl rfl rfl rfl (show(FL 7).Nodup by decide),trivial⟩ trivial trivial trivial trivial
theorem qqo:NwAt P w K mg base (GK K) 2 "Unlike" 4 0 ini_Unlike:=
 qqB (G:=GK K) (T:=qah) (Γ:=qae) (k:=0) (m:=0) (i:=48) (j:=121) (j2:=122) (ir:=qaa) (ps:=["self","ground","cells","wanted","of_sign"]) (d:=qdr) (cn:=0) c X N rfl rfl rfl rfl rfl rfl rfl rfl rfl rfl qau rfl qas (fun _ _ _ _ _ _ us hl=>match us,hl with | [_,_,_,_,_],_=>rfl) (qat c cx ct X N)
theorem qss:NwAt P w K mg base (GK K) 2 "Total" 4 1 ini_Total:=
 qqB (G:=GK K) (T:=qah) (Γ:=qae) (k:=0) (m:=0) (i:=49) (j:=123) (j2:=124) (ir:=qaa) (ps:=["self","ground","cells","wanted","of_sign"]) (d:=qdY) (cn:=1) c X N rfl rfl rfl rfl rfl rfl rfl rfl rfl rfl qau rfl qas (fun _ _ _ _ _ _ us hl=>match us,hl with | [_,_,_,_,_],_=>rfl) (qat c cx ct X N)
theorem qq5:NwAt P w K mg base (GK K) 2 "Rising" 4 2 ini_Rising:=
 qqB (G:=GK K) (T:=qah) (Γ:=qae) (k:=0) (m:=0) (i:=50) (j:=125) (j2:=126) (ir:=qaa) (ps:=["self","ground","cells","wanted","of_sign"]) (d:=qdo) (cn:=2) c X N rfl rfl rfl rfl rfl rfl rfl rfl rfl rfl qau rfl qas (fun _ _ _ _ _ _ us hl=>match us,hl with | [_,_,_,_,_],_=>rfl) (qat c cx ct X N)
theorem que:NwAt P w K mg base (GK K) 2 "Seen" 4 3 ini_Seen:=
 qqB (G:=GK K) (T:=qah) (Γ:=qae) (k:=0) (m:=0) (i:=51) (j:=127) (j2:=128) (ir:=qaa) (ps:=["self","ground","cells","wanted","of_sign"]) (d:=qef) (cn:=3) c X N rfl rfl rfl rfl rfl rfl rfl rfl rfl rfl qau rfl qas (fun _ _ _ _ _ _ us hl=>match us,hl with | [_,_,_,_,_],_=>rfl) (qat c cx ct X N)
theorem qpb:NwAt P w K mg base (GK K) 2 "Counted" 4 4 ini_Counted:=
 qqB (G:=GK K) (T:=qah) (Γ:=qae) (k:=0) (m:=0) (i:=52) (j:=129) (j2:=130) (ir:=qaa) (ps:=["self","ground","cells","wanted","of_sign"]) (d:=qde) (cn:=4) c X N rfl rfl rfl rfl rfl rfl rfl rfl rfl rfl qau rfl qas (fun _ _ _ _ _ _ us hl=>match us,hl with | [_,_,_,_,_],_=>rfl) (qat c cx ct X N)
theorem qq3:NwAt P w K mg base (GK K) 2 "Joined" 4 5 ini_Joined:=
 qqB (G:=GK K) (T:=qah) (Γ:=qae) (k:=0) (m:=0) (i:=53) (j:=131) (j2:=132) (ir:=qaa) (ps:=["self","ground","cells","wanted","of_sign"]) (d:=qdu) (cn:=5) c X N rfl rfl rfl rfl rfl rfl rfl rfl rfl rfl qau rfl qas (fun _ _ _ _ _ _ us hl=>match us,hl with | [_,_,_,_,_],_=>rfl) (qat c cx ct X N)
theorem qm4:NwAt P w K mg base (GK K) 2 "NoSquare" 4 6 ini_NoSquare:=
 qqB (G:=GK K) (T:=qah) (Γ:=qae) (k:=0) (m:=0) (i:=54) (j:=133) (j2:=134) (ir:=qaa) (ps:=["self","ground","cells","wanted","of_sign"]) (d:=qcD) (cn:=6) c X N rfl rfl rfl rfl rfl rfl rfl rfl rfl rfl qau rfl qas (fun _ _ _ _ _ _ us hl=>match us,hl with | [_,_,_,_,_],_=>rfl) (qat c cx ct X N)
theorem quS:NwAt P w K mg base (GK K) 2 "Ring" 4 7 ini_Ring:=
 qqB (G:=GK K) (T:=qah) (Γ:=qae) (k:=0) (m:=0) (i:=55) (j:=135) (j2:=136) (ir:=qaa) (ps:=["self","ground","cells","wanted","of_sign"]) (d:=qd7) (cn:=7) c X N rfl rfl rfl rfl rfl rfl rfl rfl rfl rfl qau rfl qas (fun _ _ _ _ _ _ us hl=>match us,hl with | [_,_,_,_,_],_=>rfl) (qat c cx ct X N)
theorem qjZ:TabOk P w K mg base qc5 qc8 (GK K) 2:=
 qdn (mts:=[]) (fds:=[]) c X N ⟨(qg8 c cx ct X N).mono (by decide),(qdh c cx ct X N).mono (by decide),trivial⟩ trivial rfl trivial rfl trivial ⟨(qq3 c cx ct X N).mono (by decide),(qm4 c cx ct X N).mono (by decide),(quS c cx ct X N).mono (by decide),trivial⟩ trivial ⟨rs1 (j:=115) (j2:=116) c X N rfl rfl rfl,trivial⟩ trivial
theorem qjS:DefAt P w K mg base (GK K) 3 "whole_rule" 3 g_whole_rule:=
 qje (G:=GK K) (T:=qc5) (Γ:=qc8) (k:=2) (m:=2) (i:=13) (j:=137) (ir:=qcb) (ps:=["floor","word","numbers"]) (d:=qfV) c X N rfl rfl rfl rfl rfl rfl qkn rfl qks (fun _ _ _ _ _ _ us hl=>match us,hl with | [_,_,_],_=>rfl) (qjZ c cx ct X N)
theorem qkz:TabOk P w K mg base qda qcY (GK K) 1:=
 qdn (mts:=[]) (fds:=[]) c X N ⟨(qdh c cx ct X N).mono (by decide),trivial⟩ trivial rfl trivial rfl trivial trivial trivial ⟨rs1 (j:=115) (j2:=116) c X N rfl rfl rfl,trivial⟩ trivial
theorem qjD:DefAt P w K mg base (GK K) 2 "cells_told" 2 g_cells_told:=
 qje (G:=GK K) (T:=qda) (Γ:=qcY) (k:=1) (m:=0) (i:=14) (j:=138) (ir:=qcg) (ps:=["floor","numbers"]) (d:=qf4) c X N rfl rfl rfl rfl rfl rfl qjL rfl qjE (fun _ _ _ _ _ _ us hl=>match us,hl with | [_,_],_=>rfl) (qkz c cx ct X N)
theorem qkS:TabOk P w K mg base qdG qdD (GK K) 3:=
 qdn (mts:=[]) (fds:=[]) c X N ⟨(qlp c cx ct X N).mono (by decide),(qjS c cx ct X N).mono (by decide),(qjD c cx ct X N).mono (by decide),(qg8 c cx ct X N).mono (by decide),trivial⟩ trivial rfl trivial rfl trivial ⟨(qqo c cx ct X N).mono (by decide),(qq5 c cx ct X N).mono (by decide),(qpb c cx ct X N).mono (by decide),(qss c cx ct X N).mono (by decide),(que c cx ct X N).mono (by decide),trivial⟩ trivial ⟨rs1 (j:=115) (j2:=116) c X N rfl rfl rfl,trivial⟩ trivial
theorem qk1:DefAt P w K mg base (GK K) 4 "read_rule" 2 g_read_rule:=
 qje (G:=GK K) (T:=qdG) (Γ:=qdD) (k:=3) (m:=6) (i:=15) (j:=139) (ir:=qcG) (ps:=["floor","line"]) (d:=qgL) c X N rfl rfl rfl rfl rfl rfl qlz rfl qle (fun _ _ _ _ _ _ us hl=>match us,hl with | [_,_],_=>rfl) (qkS c cx ct X N)
theorem qj2:TabOk P w K mg base qc4 qc1 (GK K) 1:=
 qdn (mts:=[]) (fds:=[]) c X N ⟨(qdh c cx ct X N).mono (by decide),trivial⟩ trivial rfl trivial rfl trivial trivial trivial trivial trivial
theorem qjG:DefAt P w K mg base (GK K) 2 "is_filling" 2 g_is_filling:=
 qje (G:=GK K) (T:=qc4) (Γ:=qc1) (k:=1) (m:=1) (i:=16) (j:=140) (ir:=qcd) (ps:=["floor","filling"]) (d:=qfU) c X N rfl rfl rfl rfl rfl rfl qjr rfl qkC (fun _ _ _ _ _ _ us hl=>match us,hl with | [_,_],_=>rfl) (qj2 c cx ct X N)
theorem qfJ:TabOk P w K mg base qbf qbQ (GK K) 4:=
 qdn (mts:=[]) (fds:=[(0,0,0),(1,0,0),(2,0,0),(3,0,0),(4,0,0),(5,0,0),(6,0,0),(7,0,0),(25,0,0),(25,1,1),(25,2,2)]) c X N ⟨(qh6 c cx ct X N).mono (by decide),(qk1 c cx ct X N).mono (by decide),(qjG c cx ct X N).mono (by decide),trivial⟩ ⟨qik (j:=143) c X N rfl,trivial⟩ rfl trivial rfl ⟨fun x e=>by cases e;exact fd1 (j:=27) (j2:=28) c rfl rfl rfl rfl (show(FL 0).Nodup by decide),fun x e=>by cases e;exact fd1 (j:=29) (j2:=30) c rfl rfl rfl rfl (show(FL 1).Nodup by decide),fun x e=>by cases e;exact fd1 (j:=31) (j2:=32) c rfl rfl rfl rfl (show(FL 2).Nodup by decide),fun x e=>by cases e;exact fd1 (j:=33) (j2:=34) c rfl rfl rfl rfl (show(FL 3).Nodup by decide),fun x e=>by cases e;exact fd1 (j:=35) (j2:=36) c rfl rfl rfl rfl (show(FL 4).Nodup by decide),fun x e=>by cases e;exact fd1 (j:=37) (j2:=38) c rfl rfl rfl rfl (show(FL 5).Nodup by decide),fun x e=>by cases e;exact fd1 (j:=39) (j2:=40) c rfl rfl rfl rfl (show(FL 6).Nodup by decide),fun x e=>by cases e;exact fd1 (j:=41) (j2:=42) c rfl rfl rfl rfl (show(FL 7).Nodup by decide),fun x e=>by cases e;exact fd1 (j:=43) (j2:=44) c rfl rfl rfl rfl (show(FL 25).Nodup by decide),fun x e=>by cases e;exact fd1 (j:=43) (j2:=94) c rfl rfl rfl rfl (show(FL 25).Nodup by decide),fun x e=>by cases e;exact fd1 (j:=43) (j2:=96) c rfl rfl rfl rfl (show(FL 25).Nodup by decide),trivial⟩ trivial trivial ⟨rs1 (j:=105) (j2:=106) c X N rfl rfl rfl,rs1 (j:=141) (j2:=142) c X N rfl rfl rfl,trivial⟩ trivial
theorem qiV:NwAt P w K mg base (GK K) 6 "Puzzle" 3 25 ini_Puzzle:=
 qqB (G:=GK K) (T:=qbf) (Γ:=qbQ) (k:=4) (m:=1) (i:=56) (j:=144) (j2:=145) (ir:=qbg) (ps:=["self","floor","lines","clues"]) (d:=qds) (cn:=25) c X N rfl rfl rfl rfl rfl rfl rfl rfl rfl rfl qfE rfl qfy (fun _ _ _ _ _ _ us hl=>match us,hl with | [_,_,_,_],_=>rfl) (qfJ c cx ct X N)
theorem qhG:TabOk P w K mg base qbX qbT (GK K) 6:=
 qdn (mts:=[(25,0,g_Puzzle_lines)]) (fds:=[(0,0,0),(1,0,0),(2,0,0),(3,0,0),(4,0,0),(5,0,0),(6,0,0),(7,0,0),(25,0,0)]) c X N trivial trivial rfl ⟨fun x n e=>by cases e;exact(qbV c cx ct X N).mono (by decide),trivial⟩ rfl ⟨fun x e=>by cases e;exact fd1 (j:=27) (j2:=28) c rfl rfl rfl rfl (show(FL 0).Nodup by decide),fun x e=>by cases e;exact fd1 (j:=29) (j2:=30) c rfl rfl rfl rfl (show(FL 1).Nodup by decide),fun x e=>by cases e;exact fd1 (j:=31) (j2:=32) c rfl rfl rfl rfl (show(FL 2).Nodup by decide),fun x e=>by cases e;exact fd1 (j:=33) (j2:=34) c rfl rfl rfl rfl (show(FL 3).Nodup by decide),fun x e=>by cases e;exact fd1 (j:=35) (j2:=36) c rfl rfl rfl rfl (show(FL 4).Nodup by decide),fun x e=>by cases e;exact fd1 (j:=37) (j2:=38) c rfl rfl rfl rfl (show(FL 5).Nodup by decide),fun x e=>by cases e;exact fd1 (j:=39) (j2:=40) c rfl rfl rfl rfl (show(FL 6).Nodup by decide),fun x e=>by cases e;exact fd1 (j:=41) (j2:=42) c rfl rfl rfl rfl (show(FL 7).Nodup by decide),fun x e=>by cases e;exact fd1 (j:=43) (j2:=44) c rfl rfl rfl rfl (show(FL 25).Nodup by decide),trivial⟩ ⟨(qiV c cx ct X N).mono (by decide),trivial⟩ trivial trivial trivial
theorem qhC:MthAt P w K mg base (GK K) 7 25 "clued" 1 g_Puzzle_clued:=
 mth1 (G:=GK K) (T:=qbX) (Γ:=qbT) (k:=6) (m:=0) (i:=47) (j:=146) (j2:=43) (ir:=qbo) (ps:=["self","clues"]) (d:=qeC) (cn:=25) c rfl rfl rfl rfl rfl rfl rfl rfl (show("clued" : Str)∉FL 25 by decide) rfl qhA rfl qhM (fun _ _ _ _ _ _ us hl=>match us,hl with | [_,_],_=>rfl) (qhG c cx ct X N)
theorem qiw:TabOk P w K mg base qcz qcy (GK K) 7:=
 qdn (mts:=[(25,0,g_Puzzle_clued)]) (fds:=[]) c X N ⟨(qiK c cx ct X N).mono (by decide),(qh6 c cx ct X N).mono (by decide),(qdh c cx ct X N).mono (by decide),(qhq c cx ct X N).mono (by decide),trivial⟩ trivial rfl ⟨fun x n e=>by cases e;exact(qhC c cx ct X N).mono (by decide),trivial⟩ rfl trivial ⟨(qiV c cx ct X N).mono (by decide),trivial⟩ trivial ⟨rs1 (j:=100) (j2:=101) c X N rfl rfl rfl,trivial⟩ trivial
theorem qi8:DefAt P w K mg base (GK K) 8 "read_puzzle" 1 g_read_puzzle:=
 qje (G:=GK K) (T:=qcz) (Γ:=qcy) (k:=7) (m:=7) (i:=17) (j:=147) (ir:=qbK) (ps:=["text"]) (d:=qe6) c X N rfl rfl rfl rfl rfl rfl qji rfl qip (fun _ _ _ _ _ _ us hl=>match us,hl with | [_],_=>rfl) (qiw c cx ct X N)
theorem qlB:TabOk P w K mg base qdF qdK (GK K) 4:=
 qdn (mts:=[(25,0,g_Puzzle_place),(25,1,g_Puzzle_lines),(25,2,g_Puzzle_clues)]) (fds:=[]) c X N ⟨(qft c cx ct X N).mono (by decide),(qgo c cx ct X N).mono (by decide),trivial⟩ trivial rfl ⟨fun x n e=>by cases e;exact(qeJ c cx ct X N).mono (by decide),fun x n e=>by cases e;exact(qbV c cx ct X N).mono (by decide),fun x n e=>by cases e;exact(qdm c cx ct X N).mono (by decide),trivial⟩ rfl trivial trivial ⟨quG (j:=145) c X N rfl qu5 (qdx (j:=8) cx rfl rfl (qdx (j:=7) cx rfl rfl (qdx (j:=6) cx rfl rfl (qdx (j:=5) cx rfl rfl (qdx (j:=4) cx rfl rfl (qdx (j:=3) cx rfl rfl (qdx (j:=2) cx rfl rfl (qdx (j:=1) cx rfl rfl (qdx (j:=0) cx rfl rfl quB))))))))),trivial⟩ trivial trivial
theorem qlM:DefAt P w K mg base (GK K) 5 "_law_told" 4 g__law_told:=
 qje (G:=GK K) (T:=qdF) (Γ:=qdK) (k:=4) (m:=0) (i:=18) (j:=148) (ir:=qcH) (ps:=["_law_puzzle","_law_floor_here","_law_lines","_law_clues"]) (d:=qhd) c X N rfl rfl rfl rfl rfl rfl qlK rfl qlm (fun _ _ _ _ _ _ us hl=>match us,hl with | [_,_,_,_],_=>rfl) (qlB c cx ct X N)
theorem qv3:TabOk P w K mg base qph qqj (GK K) 8:=
 qdn (mts:=[(25,0,g_Puzzle_lines),(25,1,g_Puzzle_clues)]) (fds:=[]) c X N ⟨(qki c cx ct X N).mono (by decide),(qdj c cx ct X N).mono (by decide),(qkZ c cx ct X N).mono (by decide),(qft c cx ct X N).mono (by decide),(qgo c cx ct X N).mono (by decide),(qi8 c cx ct X N).mono (by decide),(qlM c cx ct X N).mono (by decide),trivial⟩ trivial rfl ⟨fun x n e=>by cases e;exact(qbV c cx ct X N).mono (by decide),fun x n e=>by cases e;exact(qdm c cx ct X N).mono (by decide),trivial⟩ rfl trivial ⟨(qiV c cx ct X N).mono (by decide),trivial⟩ trivial trivial trivial
theorem o_law {fa0:Addr} (e:mg "law" = some (.ref fa0)):∃fd:FuncData,(∀(s:Shared) (u:Value),BindsTo s fd ⟨[u],[]⟩ [("_law_script",u)])∧∀base:Heap,K.In base→base.Ns mainGlobals mg→FnOk P w K mg base (L2.CX P w) 9 fa0 fd ["_law_script"] (spD (GK K) 1 g_law):=
 qw9 (G:=GK K) (T:=qph) (Γ:=qqj) (k:=8) (m:=7) (i:=19) (j:=149) (ir:=qoI) (d:=qub) c X N rfl rfl rfl rfl rfl rfl e qwe rfl qv8 (fun _ _ _ _ _ _ us hl=>match us,hl with | [_],_=>rfl) (fun base _ _=>qv3 c cx ct X N)
end
end
end K72
open PySem PySem.W PySem.Calls PyProof.Rows
theorem PySem.Challenge.cw_cluemaker_k72_puzzles_as_texts_holds : PySem.Challenge.rw_cluemaker_k72_puzzles_as_texts.Holds := by
  w_on; o_law
  refine HandSHeadRun.head_any (r := K72.R) (q := K72.vw) (H := Cm.hookL K72.as K72.fa K72.fn K72.xa K72.ts) (ob := Cm.obT K72.as K72.fa K72.fn K72.xa K72.ts) (M := 5841) (loose := K72.loose) (d := HandSHeadRun.topDef K72.R.prog 53) (kwd := []) Cm.obT_eq
    (by kernel_rfl) (fun s => by kernel_rfl) K72.run (by kernel_rfl) (by kernel_rfl) (by kernel_rfl) (by rfl) (by first | assumption | decide +kernel) (by decide +kernel) ⟨rfl, rfl, rfl, rfl, rfl, by decide +kernel⟩ ?hw ?hc
  case hw => w_witness2
  case hc =>
    refine LamX.walk_ofTsE (l := PySem.Challenge.rw_cluemaker_k72_puzzles_as_texts) (n := 63) (k := 9) (x := "_law_script") (CX := fun w => L2.CX PySem.Challenge.rw_cluemaker_k72_puzzles_as_texts.prog w) rfl (by decide) (by kernel_rfl) ⟨rfl, by decide, by decide⟩ ?F (fun w => Cm.cx_end)
    intro w mg fa0 h Y N hmg0
    obtain ⟨K, KX, c, cx, ct⟩ := Y
    have hmg : mg ("law" : PySem.Str) = some (.ref fa0) := by
      have e : (HandSHeadRun.topDef K72.R.prog 53).name = ("law" : PySem.Str) := by kernel_rfl
      rw [← e]
      exact hmg0
    exact ⟨K, KX, Cm.law_at (G := K72.GK K) (g := K72.g_law) rfl (K72.o_law c cx ct KX N hmg) K72.law_true⟩
