import PyProof.Rows.All
import HandS.Head0
import HandS.Head1
import HandS.Head2
import HandS.HeadEnd
import HandS.HeadHook1
import HandS.HeadHook2
import HandS.HeadHook3
import HandS.HeadWalk
import Wide.All
import OpenK.AllK
import Wide.FinOn
import HandS.ForMost
import HandS.Exc
import HandS.TryOnly
import HandS.ExcOwn
import HandS.WordsExc
import HandS.Deep
import HandS.IsInst
import HandS.SortInts
import HandS.Walk
import HandS.Flow
import HandS.Style
import HandS.Conv
import HandS.Defaults
import HandS.WideBits
import HandS.ExcIs
import HandS.ExcValue
import HandS.SetFor
import HandS.RevRange
import HandS.Replace
import HandS.SortKw
import KE.DataMinMax
import KE.LtSeq
import KE.KSortAsk
import HandS.SortRule
import HandS.Strs
import PyProof.FactsAll.tuple_0
import PyProof.FactsAll.tuple_2
import HandS.RevTup
import PyProof.ListNew
import HandS.Dict
import HandS.Codes
import PySem.Challenge.RW_cluemaker_k19_a_puzzle_told
set_option Elab.async false
set_option linter.all false
set_option maxRecDepth 100000
set_option maxHeartbeats 1000000
namespace Cm
open PySem PySem.Spec PyProof.Rows L2 PySem.W
def bltNames:List Str:=["len","abs","min","max","sum","sorted","all","any","list","int","str","bool","tuple","isinstance","range","zip","enumerate","reversed","set","divmod","ValueError"]
inductive Xa where
 |ck (x:Str) (own:Bool) (d:Str) (b:Bool)
 |ik (x:Str) (own:Bool) (d:Str) (b:Bool)
 |mk0 (x:Str)
 |tup (x:Str) (zs:List Str)
 |dno (x z:Str)
 |dtu (x z:Str) (zs:List Str)
def quu:Value→Option Str
 |.str z _=>some z
 |_=>none
def qnN (K:PySem.W.Frag) (u:Option (Option Value)) (zs:List Str):Bool:=match u with
 |some (some (.ref a))=>match K.lookup a with
  |some ⟨cls,dct,.seq its _,_⟩=>decide (cls=.type "tuple")&&decide (its.size≤1000)&&decide (its.toList.map quu=zs.map some)&&dct.isNone
  |_=>false
 |_=>false
def cv (K:PySem.W.Frag) (x:Str) (own:Bool):Value:=match own with
 |true=>.ref (He.ga K x)
 |false=>.type "ValueError"
def Xa.ok (K:PySem.W.Frag):Xa→Bool
 |.ck x own d b=>decide (PySem.W.kitOne K (.ref (He.ga K d)) (cv K x own)=some b)&&(decide (PySem.W.exmOne K (.ref (He.ga K d)) (cv K x own)=some b) &&
  (He.eqO (PySem.W.findIn K (.ref (He.ga K d)) "__getattribute__") (some (some (.builtin "BaseException.__getattribute__")))&&(He.eqO (PySem.W.findIn K (.ref (He.ga K d)) "__getattr__") (some none) &&
  (decide (PySem.W.subIn K (.ref (He.ga K d)) (.type "BaseException")=some true)&&(PySem.W.hasDictIn K (He.ga K d)&&(He.eqO (PySem.W.findIn K (.ref (He.ga K d)) "__class__") (some (some (.builtin "object.__class__"))) &&
  (He.eqO (PySem.W.specialIn K (.builtin "object.__class__") "__get__") (some (some (.builtin "getset_descriptor.__get__")))&&(decide (PySem.W.takesIn K (.builtin "object.__class__")=some true)&&decide (PySem.W.mroIn K (He.ga K d) (.type "object")=some true)))))))))
 |.ik x own d b=>decide (PySem.W.kitOne K (.ref (He.ga K d)) (cv K x own)=some b)&&((He.Fa.cls d).ok K&&(He.eqO (PySem.W.findIn K (.ref (He.ga K d)) "__class__") (some (some (.builtin "object.__class__"))) &&
  (He.eqO (PySem.W.specialIn K (.builtin "object.__class__") "__get__") (some (some (.builtin "getset_descriptor.__get__")))&&(decide (PySem.W.takesIn K (.builtin "object.__class__")=some true)&&decide (PySem.W.mroIn K (He.ga K d) (.type "object")=some true)))))
 |.mk0 x=>PySem.W.makesIn K (He.ga K x)&&(He.eqO (PySem.W.findIn K (.ref (He.ga K x)) "__init__") (some (some (.builtin "object.__init__")))&&PySem.W.keepIn K (.ref (He.ga K x)))
 |.tup x zs=>qnN K (PySem.W.nsIn K mainGlobals x) zs
 |.dno x z=>He.eqO (PySem.W.nsIn K (He.ga K x) z) (some none)
 |.dtu x z zs=>qnN K (PySem.W.nsIn K (He.ga K x) z) zs
def qts (xa:List Xa) (K:PySem.W.Frag):Bool:=xa.all (Xa.ok K)
def qui (ts:List (Str × List Str)) (w:World) (K:PySem.W.Frag):Prop:=(ts.map fun t=>He.dicW K (He.ga K t.1))=ts.map fun t=>some (He.keysIn w.params t.2)
theorem qvf {r:PySem.W.OpenRow} {q:Program} {H:PySem.W.Hook} {ob:PySem.W.SharedT→H.α} {M:Nat} {loose:List Str} {w:World}
  (a:∀os:OsState,(HandSHeadRun.endF (HandSHeadRun.stepQ (HandSHeadRun.denQ HandSHeadRun.tabQ) r.prog w) M r.prog w os).map (fun s=>HandSHeadRun.looksF r.prog (boot_heap w.params) s.abs)=some true)
  (b:∀os:OsState,(HandSHeadRun.endF (HandSHeadRun.stepQ (HandSHeadRun.denQ HandSHeadRun.tabQ) r.prog w) M r.prog w os).map (fun s=>HandSHeadRun.seenQ q loose (PySem.importedModules r.prog.main.body) (fun s=>PySem.W.xlAt q [] s&&PySem.W.recOk r.toRowW.records s) s.abs)=some (PySem.W.openGood q loose))
  (c:∀os:OsState,(HandSHeadRun.endF (HandSHeadRun.stepQ (HandSHeadRun.denQ HandSHeadRun.tabQ) r.prog w) M r.prog w os).map ob=some (H.val w)):HandSHeadRun.RunEq r q H ob M loose w:=by
 intro os
 have a:=a os
 have b:=b os
 have c:=c os
 cases e:HandSHeadRun.endF (HandSHeadRun.stepQ (HandSHeadRun.denQ HandSHeadRun.tabQ) r.prog w) M r.prog w os with
 |none=>rw[e] at a;cases a
 |some s =>
  rw[e] at a b c
  simp only[Option.map_some,Option.some.injEq] at a b c ⊢
  rw[a,b,c]
abbrev AlL:Type:=(He.AlD × Bool) × List (Option (List (Option (Str × Int))))
def obL (as:List Addr) (fa:List He.Fa) (fn:List He.DefD) (xa:List Xa) (ts:List (Str × List Str)) (g:Addr→Option Obj):AlL:=((He.obsD fa fn (He.frG g as),qts xa (He.frG g as)),ts.map fun(t:Str × List Str)=>He.dicW (He.frG g as) (He.ga (He.frG g as) t.1))
def hookL (as:List Addr) (fa:List He.Fa) (fn:List He.DefD) (xa:List Xa) (ts:List (Str × List Str)):PySem.W.Hook where
 α:=AlL
 obs:=fun s=>obL as fa fn xa ts s.heap.get?
 val:=fun w=>((He.valD fn,true),ts.map fun(t:Str × List Str)=>some (He.keysIn w.params t.2))
 says:=fun w h=>∃K:PySem.W.Frag,K.In h∧He.SaysD fa fn K∧qts xa K=true∧qui ts w K
 of:=fun _ _ e=>⟨_,He.frG_in,congrArg (fun z:AlL=>z.1.1) e,congrArg (fun z:AlL=>z.1.2) e,congrArg (fun z:AlL=>z.2) e⟩
 keeps:=fun _ _ _ ⟨K,kin,says⟩ st=>⟨K,PySem.W.Frag.In.keeps kin st,says⟩
def obT (as:List Addr) (fa:List He.Fa) (fn:List He.DefD) (xa:List Xa) (ts:List (Str × List Str)) (s:PySem.W.SharedT):AlL:=obL as fa fn xa ts (HandSHeadRun.getT s)
theorem obT_eq {as:List Addr} {fa:List He.Fa} {fn:List He.DefD} {xa:List Xa} {ts:List (Str × List Str)} (s:PySem.W.SharedT):obT as fa fn xa ts s=(hookL as fa fn xa ts).obs s.abs:=by
 have:HandSHeadRun.getT s=s.abs.heap.get?:=funext fun a=>HandSHeadRun.getT_eq s a
 show obL as fa fn xa ts (HandSHeadRun.getT s)=obL as fa fn xa ts s.abs.heap.get?
 rw[this]
end Cm
set_option maxHeartbeats 0
namespace K19
open Cm PySem PySem.Spec PyProof.Rows L2
def top (i:Nat):Stmt:=PySem.Challenge.pw_cluemaker_k19_a_puzzle_told.main.body.getD i (.Pass ⟨0,0,0,0⟩)
def sub (i j:Nat):Stmt:=match top i with
 |.ClassDef _ _ _ body _ _ _ _ _ _ _=>body.getD j (.Pass ⟨0,0,0,0⟩)
 |_=>.Pass ⟨0,0,0,0⟩
def mkF (n:Str) (e:Stmt):He.DefD:=⟨(n,none),n,n,defArgs e,defBody e,defScope e,[],[]⟩
def mkD (n:Str × Option Str) (a b:Str) (e:Stmt):He.DefD:=⟨n,a,b,defArgs e,defBody e,defScope e,[],[]⟩
def qjq:He.DefD:=mkF "_law_at" (top 36)
def qfR:He.DefD:=mkF "_law_floor" (top 38)
def qeB:He.DefD:=mkF "_law_filling" (top 44)
def qfg:He.DefD:=mkF "_law_stream" (top 39)
def qfO:He.DefD:=mkF "_law_order" (top 40)
def qgB:He.DefD:=mkF "_law_kept" (top 41)
def qgv:He.DefD:=mkF "_law_seen" (top 42)
def qgn:He.DefD:=mkF "_law_line" (top 43)
def qfT:He.DefD:=mkF "_law_clues" (top 45)
def qfM:He.DefD:=mkF "_law_whole" (top 37)
def qit:He.DefD:=mkF "_law_is" (top 46)
def qhg:He.DefD:=mkF "floor_of" (top 10)
def qgc:He.DefD:=mkF "number_of" (top 27)
def qf5:He.DefD:=mkF "sign_told" (top 28)
def qfF:He.DefD:=mkF "many_cells" (top 11)
def qfH:He.DefD:=mkF "whole_rule" (top 30)
def qfL:He.DefD:=mkF "cells_told" (top 29)
def qgd:He.DefD:=mkF "read_rule" (top 31)
def qfE:He.DefD:=mkF "is_filling" (top 13)
def qr7:He.DefD:=mkF "law" (top 47)
def qe2:He.DefD:=mkD ("Unlike",some "name") "name" "Unlike.name" (sub 16 0)
def qfJ:He.DefD:=mkD ("Total",some "name") "name" "Total.name" (sub 17 0)
def qfb:He.DefD:=mkD ("Rising",some "name") "name" "Rising.name" (sub 18 0)
def qgC:He.DefD:=mkD ("Seen",some "name") "name" "Seen.name" (sub 19 0)
def qex:He.DefD:=mkD ("Counted",some "name") "name" "Counted.name" (sub 20 0)
def qe4:He.DefD:=mkD ("Joined",some "name") "name" "Joined.name" (sub 21 0)
def qdU:He.DefD:=mkD ("NoSquare",some "name") "name" "NoSquare.name" (sub 22 0)
def qga:He.DefD:=mkD ("Ring",some "name") "name" "Ring.name" (sub 23 0)
def qbZ:He.DefD:=mkD ("Unlike",some "told_numbers") "told_numbers" "Rule.told_numbers" (sub 15 8)
def qca:He.DefD:=mkD ("Total",some "told_numbers") "told_numbers" "Total.told_numbers" (sub 17 3)
def qb6:He.DefD:=mkD ("Rising",some "told_numbers") "told_numbers" "Rule.told_numbers" (sub 15 8)
def qcp:He.DefD:=mkD ("Seen",some "told_numbers") "told_numbers" "Seen.told_numbers" (sub 19 3)
def qbA:He.DefD:=mkD ("Counted",some "told_numbers") "told_numbers" "Counted.told_numbers" (sub 20 2)
def qb1:He.DefD:=mkD ("Joined",some "told_numbers") "told_numbers" "Joined.told_numbers" (sub 21 2)
def qbx:He.DefD:=mkD ("NoSquare",some "told_numbers") "told_numbers" "NoSquare.told_numbers" (sub 22 2)
def qcB:He.DefD:=mkD ("Ring",some "told_numbers") "told_numbers" "Ring.told_numbers" (sub 23 2)
def qfh:He.DefD:=mkD ("Unlike",some "line") "line" "Rule.line" (sub 15 7)
def qfG:He.DefD:=mkD ("Total",some "line") "line" "Rule.line" (sub 15 7)
def qeX:He.DefD:=mkD ("Rising",some "line") "line" "Rule.line" (sub 15 7)
def qf9:He.DefD:=mkD ("Seen",some "line") "line" "Rule.line" (sub 15 7)
def qez:He.DefD:=mkD ("Counted",some "line") "line" "Rule.line" (sub 15 7)
def qe3:He.DefD:=mkD ("Joined",some "line") "line" "Rule.line" (sub 15 7)
def qd3:He.DefD:=mkD ("NoSquare",some "line") "line" "Rule.line" (sub 15 7)
def qgt:He.DefD:=mkD ("Ring",some "line") "line" "Rule.line" (sub 15 7)
def qey:He.DefD:=mkD ("Puzzle",some "place") "place" "Puzzle.place" (sub 34 1)
def qep:He.DefD:=mkD ("Puzzle",some "lines") "lines" "Puzzle.lines" (sub 34 3)
def qew:He.DefD:=mkD ("Puzzle",some "clues") "clues" "Puzzle.clues" (sub 34 4)
def qev:He.DefD:=mkD ("Puzzle",some "rules") "rules" "Puzzle.rules" (sub 34 5)
def qet:He.DefD:=mkD ("Puzzle",some "clued") "clued" "Puzzle.clued" (sub 34 10)
def qc6:He.DefD:=mkD ("Unlike",some "__init__") "__init__" "Rule.__init__" (sub 15 0)
def qdC:He.DefD:=mkD ("Total",some "__init__") "__init__" "Rule.__init__" (sub 15 0)
def qc8:He.DefD:=mkD ("Rising",some "__init__") "__init__" "Rule.__init__" (sub 15 0)
def qdW:He.DefD:=mkD ("Seen",some "__init__") "__init__" "Rule.__init__" (sub 15 0)
def qcE:He.DefD:=mkD ("Counted",some "__init__") "__init__" "Rule.__init__" (sub 15 0)
def qc5:He.DefD:=mkD ("Joined",some "__init__") "__init__" "Rule.__init__" (sub 15 0)
def qcq:He.DefD:=mkD ("NoSquare",some "__init__") "__init__" "Rule.__init__" (sub 15 0)
def qd8:He.DefD:=mkD ("Ring",some "__init__") "__init__" "Rule.__init__" (sub 15 0)
def qc4:He.DefD:=mkD ("Puzzle",some "__init__") "__init__" "Puzzle.__init__" (sub 34 0)
def fnA:List He.DefD:=[qjq,qfR,qeB,qfg,qfO,qgB,qgv,qgn,qfT,qfM,qit,qhg,qgc,qf5,qfF,qfH,qfL,qgd,qfE,qr7,qe2,qfJ,qfb,qgC,qex,qe4,qdU,qga,qbZ]
def fnB:List He.DefD:=[qca,qb6,qcp,qbA,qb1,qbx,qcB,qfh,qfG,qeX,qf9,qez,qe3,qd3,qgt,qey,qep,qew,qev,qet,qc6,qdC,qc8,qdW,qcE,qc5,qcq,qd8,qc4]
def fn:List He.DefD:=fnA++fnB
def fa0:List He.Fa:=[.glo "_law_at",.glo "_law_floor",.glo "_law_filling",.glo "_law_stream",.glo "_law_order",.glo "_law_kept",.glo "_law_seen",.glo "_law_line",.glo "_law_clues",.glo "_law_whole",.cls "Unlike",.noat "Unlike" "ground",.cls "Total",.noat "Total" "ground",.cls "Rising",.noat "Rising" "ground",.cls "Seen",.noat "Seen" "ground",.cls "Counted",.noat "Counted" "ground",.cls "Joined",.noat "Joined" "ground",.cls "NoSquare",.noat "NoSquare" "ground",.cls "Ring",.noat "Ring" "ground",.cls "Puzzle",.noat "Puzzle" "ground",.meth "Puzzle" "place",.meth "Unlike" "name",.meth "Total" "name",.meth "Rising" "name",.meth "Seen" "name",.meth "Counted" "name",.meth "Joined" "name",.meth "NoSquare" "name",.meth "Ring" "name",.noat "Unlike" "cells",.noat "Total" "cells",.noat "Rising" "cells",.noat "Seen" "cells",.noat "Counted" "cells",.noat "Joined" "cells",.noat "NoSquare" "cells",.noat "Ring" "cells",.meth "Unlike" "told_numbers",.meth "Rising" "told_numbers",.noat "Unlike" "wanted",.noat "Total" "wanted",.noat "Rising" "wanted",.noat "Seen" "wanted",.noat "Counted" "wanted",.noat "Joined" "wanted",.noat "NoSquare" "wanted",.noat "Ring" "wanted",.meth "Total" "told_numbers",.meth "Seen" "told_numbers",.noat "Unlike" "of_sign",.noat "Total" "of_sign",.noat "Rising" "of_sign",.noat "Seen" "of_sign",.noat "Counted" "of_sign",.noat "Joined" "of_sign",.noat "NoSquare" "of_sign",.noat "Ring" "of_sign",.meth "Counted" "told_numbers",.meth "Joined" "told_numbers",.meth "NoSquare" "told_numbers",.meth "Ring" "told_numbers",.meth "Unlike" "line",.meth "Total" "line",.meth "Rising" "line",.meth "Seen" "line",.meth "Counted" "line",.meth "Joined" "line",.meth "NoSquare" "line",.meth "Ring" "line",.noat "Puzzle" "rule_list",.meth "Puzzle" "lines",.noat "Puzzle" "clue_list",.meth "Puzzle" "clues",.meth "Puzzle" "rules",.glo "_law_is",.glo "NoFloor",.exc "NoFloor",.int "MOST_SIDE" 6,.int "MOST_CELLS" 16,.int "MOST_SIGNS" 6,.glo "floor_of",.glo "NoRule",.exc "NoRule",.int "LONGEST" 2,.str "FIGURES" "0123456789",.glo "number_of",.glo "sign_told",.glo "many_cells",.mkr "Unlike",.glo "Unlike",.mkr "Total",.glo "Total",.mkr "Rising",.glo "Rising",.mkr "Seen",.glo "Seen",.mkr "Counted",.glo "Counted",.mkr "Joined",.glo "Joined",.mkr "NoSquare",.glo "NoSquare",.mkr "Ring",.glo "Ring",.glo "whole_rule",.glo "cells_told",.glo "read_rule",.glo "is_filling",.glo "NoPuzzle",.exc "NoPuzzle",.int "MOST_RULES" 12,.mkr "Puzzle",.glo "Puzzle",.meth "Puzzle" "clued",.glo "law"]
abbrev fa:List He.Fa:=bltNames.map He.Fa.free++fa0
def xa:List Xa:=[]
def ts:List (Str × List Str):=[]
abbrev R:PySem.W.OpenRow:=PySem.W.OpenLaw.row PySem.Challenge.rw_cluemaker_k19_a_puzzle_told
def as:List Addr:=([3,31,30,44,43,56,55,68,67,167,166,202,201,249,248,289,288,336,335,376,375,416,415,456,455,496,495,614,613,625]:List Addr)++([624,639,638,675,674,646,645,653,652,658,657,665,664,670,669,680,679,632,631,550,549,185,184,218,217,265,264,305,304,352]:List Addr)++([351,392,391,432,431,472,471,157,156,239,238,326,325,366,365,406,405,446,445,486,485,150,149,562,561,569,568,576,575,685]:List Addr)++([684,77,76,505,504,512,511,84,83,103,102,526,525,519,518,531,530,89,88,543,542,611,610,690,689]:List Addr)
def loose:List Str:=(["_wall","ClueError","NoFloor","NoRule","NoPuzzle","MOST_SIDE","MOST_CELLS","MOST_SIGNS","floor_of","many_cells","is_filling","Rule","Unlike","Total","Rising","Seen","Counted","Joined","NoSquare","Ring","FIGURES","LONGEST","number_of","sign_told","cells_told","whole_rule","read_rule","MOST_RULES","Puzzle","_law_at"]:List Str)++(["_law_whole","_law_floor","_law_stream","_law_order","_law_kept","_law_seen","_law_line","_law_filling","_law_clues","_law_is"]:List Str)
abbrev vw:Program:=PySem.W.view R.prog [47]
theorem rA (w:World):∀os:OsState,(HandSHeadRun.endF (HandSHeadRun.stepQ (HandSHeadRun.denQ HandSHeadRun.tabQ) R.prog w) 5366 R.prog w os).map (fun s=>HandSHeadRun.looksF R.prog (PySem.W.boot_heap w.params) s.abs)=some true:=by
 intro os
 kernel_rfl
theorem rB (w:World):∀os:OsState,(HandSHeadRun.endF (HandSHeadRun.stepQ (HandSHeadRun.denQ HandSHeadRun.tabQ) R.prog w) 5366 R.prog w os).map (fun s=>HandSHeadRun.seenQ vw loose (PySem.importedModules R.prog.main.body) (fun s=>PySem.W.xlAt vw [] s&&PySem.W.recOk R.toRowW.records s) s.abs)=some (PySem.W.openGood vw loose):=by
 intro os
 kernel_rfl
theorem rC (w:World):∀os:OsState,(HandSHeadRun.endF (HandSHeadRun.stepQ (HandSHeadRun.denQ HandSHeadRun.tabQ) R.prog w) 5366 R.prog w os).map (obT as fa fn xa ts)=some ((hookL as fa fn xa ts).val w):=by
 intro os
 kernel_rfl
theorem run (w:World):HandSHeadRun.RunEq R vw (hookL as fa fn xa ts) (obT as fa fn xa ts) 5366 loose w:=qvf (rA w) (rB w) (rC w)
end K19
namespace Cm
open PySem PySem.Spec PyProof.Rows L2
inductive D where
 |non | bl (b:Bool) | int (i:Int) | str (s:List Nat)
 |lst (xs:List D) | tup (xs:List D)
 |ins (c:Nat) (fs:List D) | exc (c:Nat) (fs:List D)
mutual
@[simp] def D.flat:D→Bool
 |.lst _=>false
 |.tup xs=>D.flats xs
 |.exc _ fs=>D.flats fs
 |.non=>true
 |.bl _=>true
 |.int _=>true
 |.str _=>true
 |.ins _ _=>true
@[simp] def D.flats:List D→Bool
 |[]=>true
 |d::ds=>d.flat&&D.flats ds
end
mutual
def D.fit:D→Nat→Bool
 |.non,_=>true
 |.bl _,_=>true
 |.int _,_=>true
 |.str s,_=>PyData.strOk ⟨s.toArray⟩
 |.lst xs,n=>decide (0<n)&&D.fits xs (n - 1)
 |.tup xs,n=>decide (0<n)&&D.fits xs (n - 1)
 |.ins _ _,_=>false
 |.exc _ _,_=>false
def D.fits:List D→Nat→Bool
 |[],_=>true
 |d::ds,n=>d.fit n&&D.fits ds n
end
mutual
def D.py:D→PyData
 |.non=>.none
 |.bl b=>.bool b
 |.int i=>.int i
 |.str s=>.str ⟨s.toArray⟩
 |.lst xs=>.list (D.pys xs)
 |.tup xs=>.tuple (D.pys xs)
 |.ins _ _=>.none
 |.exc _ _=>.none
def D.pys:List D→List PyData
 |[]=>[]
 |d::ds=>d.py::D.pys ds
end
mutual
def D.eqb:D→D→Bool
 |.non,y=>match y with
  |.non=>true
  |_=>false
 |.bl a,y=>match y with
  |.bl b=>a == b
  |.int j=>decide ((if a then 1 else 0)=j)
  |_=>false
 |.int i,y=>match y with
  |.bl b=>decide (i=(if b then 1 else 0))
  |.int j=>decide (i=j)
  |_=>false
 |.str x,y=>match y with
  |.str z=>decide (x=z)
  |_=>false
 |.lst xs,y=>match y with
  |.lst ys=>D.eqbs xs ys
  |_=>false
 |.tup xs,y=>match y with
  |.tup ys=>D.eqbs xs ys
  |_=>false
 |.ins _ _,_=>false
 |.exc _ _,_=>false
def D.eqbs:List D→List D→Bool
 |[],ys=>match ys with
  |[]=>true
  |_=>false
 |x::xs,ys=>match ys with
  |[]=>false
  |y::ys=>D.eqb x y&&D.eqbs xs ys
end
mutual
theorem D.canLay:∀(d:D) (n:Nat),d.fit n=true→d.py.canLay0=true∧d.py.depth≤n
 |.non,n,_=>⟨by simp[D.py,PyData.canLay0],by simp[D.py,PyData.depth]⟩
 |.bl _,n,_=>⟨by simp[D.py,PyData.canLay0],by simp[D.py,PyData.depth]⟩
 |.int _,n,_=>⟨by simp[D.py,PyData.canLay0],by simp[D.py,PyData.depth]⟩
 |.str s,n,h=>⟨by simpa[D.py,PyData.canLay0,D.fit] using h,by simp[D.py,PyData.depth]⟩
 |.lst xs,n,h=>by
  simp only[D.fit,Bool.and_eq_true,decide_eq_true_eq] at h
  obtain⟨h1,h2⟩:=D.canLays xs (n - 1) h.2
  refine⟨by simpa[D.py,PyData.canLay0] using h1,?_⟩
  simp only[D.py,PyData.depth]
  omega
 |.tup xs,n,h=>by
  simp only[D.fit,Bool.and_eq_true,decide_eq_true_eq] at h
  obtain⟨h1,h2⟩:=D.canLays xs (n - 1) h.2
  refine⟨by simpa[D.py,PyData.canLay0] using h1,?_⟩
  simp only[D.py,PyData.depth]
  omega
 |.ins _ _,_,h=>by simp[D.fit] at h
 |.exc _ _,_,h=>by simp[D.fit] at h
theorem D.canLays:∀(ds:List D) (n:Nat),D.fits ds n=true→PyData.canLayAll0 (D.pys ds)=true∧PyData.depthAll (D.pys ds)≤n
 |[],n,_=>⟨by simp[D.pys,PyData.canLayAll0],by simp[D.pys,PyData.depthAll]⟩
 |d::ds,n,h=>by
  simp only[D.fits,Bool.and_eq_true] at h
  obtain⟨h1,h2⟩:=D.canLay d n h.1
  obtain⟨h3,h4⟩:=D.canLays ds n h.2
  refine⟨by simp[D.pys,PyData.canLayAll0,h1,h3],?_⟩
  simp only[D.pys,PyData.depthAll]
  omega
end
theorem D.shaped {d:D} (h:d.fit 64=true):SeqAt.shaped d.py=true:=by
 obtain⟨h1,h2⟩:=D.canLay d 64 h
 simp[SeqAt.shaped,h1,h2]
theorem qgH {x z:List Nat}:(x.toArray=z.toArray)↔x=z:=by
 constructor
 ·intro h
  have:=congrArg Array.toList h
  simpa using this
 ·rintro rfl;rfl
mutual
theorem D.eqv_py:∀(a b:D) (n m:Nat),a.fit n=true→b.fit m=true→PyData.eqv a.py b.py=a.eqb b
 |.non,b,_,_,_,hb=>by cases b<;>simp[D.py,D.eqb,PyData.eqv,D.fit] at *
 |.bl x,b,_,_,_,hb=>by
  cases b<;>simp[D.py,D.eqb,PyData.eqv,D.fit] at *
  cases x<;>simp[Bool.beq_eq_decide_eq]<;>rfl
 |.int x,b,_,_,_,hb=>by
  cases b<;>simp[D.py,D.eqb,PyData.eqv,D.fit] at *
  ·rename_i y;cases y<;>simp[Bool.beq_eq_decide_eq]<;>rfl
  ·rfl
 |.str x,b,_,_,_,hb=>by
  cases b<;>simp[D.py,D.eqb,PyData.eqv,D.fit] at *
  rename_i z
  by_cases e:x=z
  ·subst e;simp
  ·rw[decide_eq_false e]
   refine beq_eq_false_iff_ne.mpr fun q=>e ?_
   injection q with q
   exact qgH.mp q
 |.lst xs,b,n,m,ha,hb=>by
  cases b with
  |lst ys =>
   simp only[D.fit,Bool.and_eq_true,decide_eq_true_eq] at ha hb
   simp only[D.py,D.eqb,PyData.eqv]
   exact D.eqv_pys xs ys _ _ ha.2 hb.2
  |_=>simp[D.py,D.eqb,PyData.eqv,D.fit] at *
 |.tup xs,b,n,m,ha,hb=>by
  cases b with
  |tup ys =>
   simp only[D.fit,Bool.and_eq_true,decide_eq_true_eq] at ha hb
   simp only[D.py,D.eqb,PyData.eqv]
   exact D.eqv_pys xs ys _ _ ha.2 hb.2
  |_=>simp[D.py,D.eqb,PyData.eqv,D.fit] at *
 |.ins _ _,_,_,_,h,_=>by simp[D.fit] at h
 |.exc _ _,_,_,_,h,_=>by simp[D.fit] at h
theorem D.eqv_pys:∀(xs ys:List D) (n m:Nat),D.fits xs n=true→D.fits ys m=true→PyData.eqvAll (D.pys xs) (D.pys ys)=D.eqbs xs ys
 |[],ys,_,_,_,_=>by cases ys<;>simp[D.pys,D.eqbs,PyData.eqvAll]
 |x::xs,ys,n,m,ha,hb=>by
  cases ys with
  |nil=>simp[D.pys,D.eqbs,PyData.eqvAll]
  |cons y ys =>
   simp only[D.fits,Bool.and_eq_true] at ha hb
   simp only[D.pys,D.eqbs,PyData.eqvAll]
   rw[D.eqv_py x y n m ha.1 hb.1,D.eqv_pys xs ys n m ha.2 hb.2]
end
structure Glo where
 K:PySem.W.Frag
 ca:Nat→Addr
 fl:Nat→List Str
def exK (cls:Value) (a:Addr):HO:=.ext fun h=>∃(oe:Obj) (vs:Array Value),h.get? a=some oe∧Zc cls none oe∧oe.data=.fields vs
mutual
def Rep (G:Glo) (P:Hp) (LN:Addr→List V→Prop):D→V→Prop
 |.non,v=>v=.non
 |.bl b,v=>v=.bl b
 |.int i,v=>v=.int i
 |.str s,v=>v=.str ⟨s.toArray⟩
 |.lst ds,v=>∃a xs,v=.ref a∧LN a xs∧Reps G P LN ds xs
 |.tup ds,v=>∃a xs,v=.ref a∧SqT G.K P a xs∧Reps G P LN ds xs
 |.ins c ds,v=>∃a dx xs,v=.ref a∧P a=some (.ins (G.ca c) dx ((G.fl c).zip xs))∧(G.fl c).length=ds.length∧Reps G P (SqL G.K P) ds xs
 |.exc c fs,v=>fs=[]∧∃a,v=.ref a∧P a=some (exK (.ref (G.ca c)) a)
def Reps (G:Glo) (P:Hp) (LN:Addr→List V→Prop):List D→List V→Prop
 |[],vs=>vs=[]
 |d::ds,vs=>∃v r,vs=v::r∧Rep G P LN d v∧Reps G P LN ds r
end
theorem Same.seqT {K:PySem.W.Frag} {H H':Hp} {a:Addr} {xs:List V} (e:Same H H') (h:SqT K H a xs):SqT K H' a xs:=by
 rcases h with(h | ⟨o,h⟩) | h
 ·exact .inl (.inl (e _ _ h))
 ·exact .inl (.inr ⟨o,e _ _ h⟩)
 ·exact .inr h
section
variable {G:Glo} {P P':Hp} {LN LN':Addr→List V→Prop}
mutual
theorem Rep.mono (hp:Same P P'):∀(d:D) (v:V) {LN LN':Addr→List V→Prop} (_:∀a xs,LN a xs→LN' a xs),Rep G P LN d v→Rep G P' LN' d v
 |.non,_,_,_,_,h=>h
 |.bl _,_,_,_,_,h=>h
 |.int _,_,_,_,_,h=>h
 |.str _,_,_,_,_,h=>h
 |.lst ds,v,_,_,hl,⟨a,xs,e,h1,h2⟩=>⟨a,xs,e,hl _ _ h1,Reps.mono hp ds xs hl h2⟩
 |.tup ds,v,_,_,hl,⟨a,xs,e,h1,h2⟩=>⟨a,xs,e,Same.seqT hp h1,Reps.mono hp ds xs hl h2⟩
 |.ins c ds,v,_,_,hl,⟨a,dx,xs,e,h1,h2,h3⟩=>⟨a,dx,xs,e,hp _ _ h1,h2,Reps.mono hp ds xs (fun _ _ q=>L2.Same.seq hp q) h3⟩
 |.exc _ _,_,_,_,_,⟨e,a,h1,h2⟩=>⟨e,a,h1,hp _ _ h2⟩
theorem Reps.mono (hp:Same P P'):∀(ds:List D) (vs:List V) {LN LN':Addr→List V→Prop} (_:∀a xs,LN a xs→LN' a xs),Reps G P LN ds vs→Reps G P' LN' ds vs
 |[],_,_,_,_,h=>h
 |d::ds,vs,_,_,hl,⟨v,r,e,h1,h2⟩=>⟨v,r,e,Rep.mono hp d v hl h1,Reps.mono hp ds r hl h2⟩
end
mutual
theorem Rep.flat:∀(d:D) (v:V),d.flat=true→Rep G P LN d v→Rep G P LN' d v
 |.non,_,_,h=>h
 |.bl _,_,_,h=>h
 |.int _,_,_,h=>h
 |.str _,_,_,h=>h
 |.lst ds,v,f,_=>by simp[D.flat] at f
 |.tup ds,v,f,⟨a,xs,e,h1,h2⟩=>⟨a,xs,e,h1,Reps.flat ds xs (by simpa[D.flat] using f) h2⟩
 |.ins c ds,v,_,h=>h
 |.exc _ _,_,_,h=>h
theorem Reps.flat:∀(ds:List D) (vs:List V),D.flats ds=true→Reps G P LN ds vs→Reps G P LN' ds vs
 |[],_,_,h=>h
 |d::ds,vs,f,⟨v,r,e,h1,h2⟩=>by
  simp only[D.flats,Bool.and_eq_true] at f
  exact⟨v,r,e,Rep.flat d v f.1 h1,Reps.flat ds r f.2 h2⟩
end
theorem Reps.length:∀{ds:List D} {vs:List V},Reps G P LN ds vs→vs.length=ds.length
 |[],_,h=>by cases h;rfl
 |d::ds,vs,⟨v,r,e,h1,h2⟩=>by subst e;simp[Reps.length h2]
theorem Reps.get:∀{ds:List D} {vs:List V} {i:Nat} {d:D},Reps G P LN ds vs→ds[i]? = some d→∃v,vs[i]? = some v∧Rep G P LN d v
 |[],_,_,_,_,h=>by simp at h
 |d::ds,vs,0,_,⟨v,r,e,h1,h2⟩,h=>by subst e;simp at h;subst h;exact⟨v,rfl,h1⟩
 |d::ds,vs,i+1,_,⟨v,r,e,h1,h2⟩,h=>by subst e;simp at h;obtain⟨w,q1,q2⟩:=Reps.get h2 h;exact⟨w,by simpa using q1,q2⟩
theorem Reps.append:∀{ds es:List D} {vs us:List V},Reps G P LN ds vs→Reps G P LN es us→Reps G P LN (ds++es) (vs++us)
 |[],_,_,_,h,q=>by cases h;exact q
 |d::ds,es,vs,us,⟨v,r,e,h1,h2⟩,q=>by subst e;exact⟨v,r++us,rfl,h1,Reps.append h2 q⟩
theorem Reps.take:∀{ds:List D} {vs:List V} (n:Nat),Reps G P LN ds vs→Reps G P LN (ds.take n) (vs.take n)
 |[],_,_,h=>by cases h;simp[Reps]
 |d::ds,vs,0,_=>by simp[Reps]
 |d::ds,vs,n+1,⟨v,r,e,h1,h2⟩=>by subst e;exact⟨v,r.take n,rfl,h1,Reps.take n h2⟩
theorem Reps.drop:∀{ds:List D} {vs:List V} (n:Nat),Reps G P LN ds vs→Reps G P LN (ds.drop n) (vs.drop n)
 |[],_,_,h=>by cases h;simp[Reps]
 |d::ds,vs,0,h=>h
 |d::ds,vs,n+1,⟨v,r,e,h1,h2⟩=>by subst e;exact Reps.drop n h2
theorem Reps.set {x:D} {u:V} (hx:Rep G P LN x u):∀{ds:List D} {vs:List V} (n:Nat),Reps G P LN ds vs→Reps G P LN (ds.set n x) (vs.set n u)
 |[],_,_,h=>by cases h;simp[Reps]
 |d::ds,vs,0,⟨v,r,e,h1,h2⟩=>by subst e;exact⟨u,r,rfl,hx,h2⟩
 |d::ds,vs,n+1,⟨v,r,e,h1,h2⟩=>by subst e;exact⟨v,r.set n u,rfl,h1,Reps.set hx n h2⟩
theorem Reps.eraseIdx:∀{ds:List D} {vs:List V} (n:Nat),Reps G P LN ds vs→Reps G P LN (ds.eraseIdx n) (vs.eraseIdx n)
 |[],_,_,h=>by cases h;simp[Reps]
 |d::ds,vs,0,⟨v,r,e,h1,h2⟩=>by subst e;exact h2
 |d::ds,vs,n+1,⟨v,r,e,h1,h2⟩=>by subst e;exact⟨v,r.eraseIdx n,rfl,h1,Reps.eraseIdx n h2⟩
theorem Reps.one {d:D} {v:V} (h:Rep G P LN d v):Reps G P LN [d] [v]:=⟨v,[],rfl,h,rfl⟩
theorem Reps.ints:∀{ns:List Int} {vs:List V},Reps G P LN (ns.map D.int) vs↔vs=ns.map V.int
 |[],vs=>Iff.rfl
 |n::ns,vs=>by
  constructor
  ·rintro⟨v,r,e,h1,h2⟩
   rw[e,h1,Reps.ints.mp h2];rfl
  ·intro e
   exact⟨_,_,e,rfl,Reps.ints.mpr rfl⟩
theorem Reps.reverse:∀{ds:List D} {vs:List V},Reps G P LN ds vs→Reps G P LN ds.reverse vs.reverse
 |[],_,h=>by cases h;exact rfl
 |d::ds,vs,⟨v,r,e,h1,h2⟩=>by
  subst e
  simp only[List.reverse_cons]
  exact(Reps.reverse h2).append (Reps.one h1)
theorem Reps.replicate {d:D} {v:V} (h:Rep G P LN d v):∀n,Reps G P LN (List.replicate n d) (List.replicate n v)
 |0=>rfl
 |n+1=>⟨v,_,rfl,h,Reps.replicate h n⟩
mutual
theorem Rep.dp {H:Hp} (hp:Same P H) (hl:∀a xs,LN a xs→SqL G.K H a xs):∀(d:D) (v:V) (n:Nat),d.fit n=true→Rep G P LN d v→Dp G.K H v d.py
 |.non,_,_,_,h=>by cases h;exact .non
 |.bl b,_,_,_,h=>by cases h;exact .bl b
 |.int i,_,_,_,h=>by cases h;exact .int i
 |.str s,_,_,_,h=>by cases h;exact .str _
 |.lst ds,v,n,f,⟨a,xs,e,h1,h2⟩=>by
  subst e
  simp only[D.fit,Bool.and_eq_true] at f
  exact .lst (hl _ _ h1) (Reps.dp hp hl ds xs _ f.2 h2)
 |.tup ds,v,n,f,⟨a,xs,e,h1,h2⟩=>by
  subst e
  simp only[D.fit,Bool.and_eq_true] at f
  exact .tup (Same.seqT hp h1) (Reps.dp hp hl ds xs _ f.2 h2)
 |.ins c ds,v,_,f,_=>by simp[D.fit] at f
 |.exc _ _,_,_,f,_=>by simp[D.fit] at f
theorem Reps.dp {H:Hp} (hp:Same P H) (hl:∀a xs,LN a xs→SqL G.K H a xs):∀(ds:List D) (vs:List V) (n:Nat),D.fits ds n=true→Reps G P LN ds vs→DpAll G.K H vs (D.pys ds)
 |[],_,_,_,h=>by cases h;exact .nil
 |d::ds,vs,n,f,⟨v,r,e,h1,h2⟩=>by
  subst e
  simp only[D.fits,Bool.and_eq_true] at f
  exact .cons (Rep.dp hp hl d v n f.1 h1) (Reps.dp hp hl ds r n f.2 h2)
end
end
end Cm
namespace Cm
open PySem PySem.Spec PyProof.Rows L2
def WrT (G:Glo) (v:V):Prop:=∀a,v=.ref a→∃o,G.K.lookup a=some o∧o.cls=.type "tuple" ∧ o.dict=none
inductive RE (α:Type) where
 |bad | ok (a:α) | exc (c:Nat) (fs:List D)
def RE.bind {α β:Type}:RE α→(α→RE β)→RE β
 |.bad,_=>.bad
 |.ok a,f=>f a
 |.exc c fs,_=>.exc c fs
@[simp] theorem RE.bind_ok {α β:Type} (a:α) (f:α→RE β):(RE.ok a).bind f=f a:=rfl
@[simp] theorem RE.bind_bad {α β:Type} (f:α→RE β):(RE.bad:RE α).bind f=.bad:=rfl
@[simp] theorem RE.bind_exc {α β:Type} (c:Nat) (fs:List D) (f:α→RE β):(RE.exc c fs:RE α).bind f=.exc c fs:=rfl
inductive Sl where
 |non | val (d:D) (b:Bool) | own (ds:List D) (b:Bool)
 |slf (c:Nat) (fs:List D)
 |fxd (d:D) (k:Nat)
 |dct (m:List (Int × D)) (b:Bool)
 |row (dss:List (List D))
inductive ER where
 |val (d:D) (b:Bool) | fre (ds:List D) (b:Bool) | brw (ds:List D) (b:Bool)
def ER.d:ER→D
 |.val d _=>d
 |.fre ds _=>.lst ds
 |.brw ds _=>.lst ds
def ER.b:ER→Bool
 |.val _ b=>b
 |.fre _ b=>b
 |.brw _ b=>b
@[simp] theorem ER.d_val {d:D} {b:Bool}:(ER.val d b).d=d:=rfl
@[simp] theorem ER.d_fre {d:List D} {b:Bool}:(ER.fre d b).d=.lst d:=rfl
@[simp] theorem ER.d_brw {d:List D} {b:Bool}:(ER.brw d b).d=.lst d:=rfl
@[simp] theorem ER.b_val {d:D} {b:Bool}:(ER.val d b).b=b:=rfl
@[simp] theorem ER.b_fre {d:List D} {b:Bool}:(ER.fre d b).b=b:=rfl
@[simp] theorem ER.b_brw {d:List D} {b:Bool}:(ER.brw d b).b=b:=rfl
@[simp] def ER.isB:ER→Bool
 |.brw _ _=>true
 |_=>false
@[simp] def ER.isV:ER→Bool
 |.val _ _=>true
 |_=>false
@[simp] def ER.frz:ER→ER
 |.fre ds b=>.val (.lst ds) b
 |e=>e
def LNb (K:PySem.W.Frag) (P N R:Hp) (b:Bool):Addr→List V→Prop:=fun a xs=>N a=some (.lst xs)∨(b=false∧(SqL K P a xs∨SqL K N a xs∨SqL K R a xs))
theorem LNb.mono {K:PySem.W.Frag} {P N R P' N':Hp} {b:Bool} (hp:Same P P') (hn:Same N N'):∀a xs,LNb K P N R b a xs→LNb K P' N' R b a xs:=fun a xs h=>by
 rcases h with h | ⟨h1,h | h | h⟩
 ·exact .inl (hn _ _ h)
 ·exact .inr ⟨h1,.inl (L2.Same.seq hp h)⟩
 ·exact .inr ⟨h1,.inr (.inl (L2.Same.seq hn h))⟩
 ·exact .inr ⟨h1,.inr (.inr h)⟩
theorem LNb.weak {K:PySem.W.Frag} {P N R:Hp} {b:Bool}:∀a xs,LNb K P N R b a xs→LNb K P N R false a xs:=fun a xs h=>by
 rcases h with h | h
 ·exact .inl h
 ·exact .inr ⟨rfl,h.2⟩
theorem LNb.and1 {K:PySem.W.Frag} {P N R:Hp} {b c:Bool}:∀a xs,LNb K P N R b a xs→LNb K P N R (b&&c) a xs:=fun a xs h=>by
 rcases h with h | ⟨h1,h2⟩
 ·exact .inl h
 ·exact .inr ⟨by simp[h1],h2⟩
theorem LNb.and2 {K:PySem.W.Frag} {P N R:Hp} {b c:Bool}:∀a xs,LNb K P N R c a xs→LNb K P N R (b&&c) a xs:=fun a xs h=>by
 rcases h with h | ⟨h1,h2⟩
 ·exact .inl h
 ·exact .inr ⟨by simp[h1],h2⟩
theorem LNb.seq {K:PySem.W.Frag} {P N R H:Hp} {b:Bool} (hp:Same P H) (hn:Same N H) (hr:Same R H):∀a xs,LNb K P N R b a xs→SqL K H a xs:=fun a xs h=>by
 rcases h with h | ⟨_,h | h | h⟩
 ·exact .inl (.inl (hn _ _ h))
 ·exact L2.Same.seq hp h
 ·exact L2.Same.seq hn h
 ·exact L2.Same.seq hr h
theorem LNb.ofP {K:PySem.W.Frag} {P N R:Hp}:∀a xs,SqL K P a xs→LNb K P N R false a xs:=fun a xs h=>.inr ⟨rfl,.inl h⟩
theorem LNb.ofR {K:PySem.W.Frag} {P N R:Hp}:∀a xs,SqL K R a xs→LNb K P N R false a xs:=fun a xs h=>.inr ⟨rfl,.inr (.inr h)⟩
structure Adv (P N H P' N' H':Hp):Prop where
 hh:Same H H'
 pp:Same P P'
 nn:Same N N'
 pH:Same P' H'
 nH:Same N' H'
 pn:∀a,P' a≠none→P a≠none∨H a=none
 nw:∀a,N' a≠none→N a≠none∨H a=none
 dj:∀a,N' a≠none→P' a≠none→N a≠none
theorem Adv.refl {P N H:Hp} (hp:Same P H) (hn:Same N H):Adv P N H P N H:=⟨L2.Same.refl _,L2.Same.refl _,L2.Same.refl _,hp,hn,fun _ h=>.inl h,fun _ h=>.inl h,fun _ h _=>h⟩
theorem Adv.trans {P N H P' N' H' P'' N'' H'':Hp} (s:Adv P N H P' N' H') (t:Adv P' N' H' P'' N'' H''):Adv P N H P'' N'' H'' where
 hh:=s.hh.trans t.hh
 pp:=s.pp.trans t.pp
 nn:=s.nn.trans t.nn
 pH:=t.pH
 nH:=t.nH
 pn:=fun a h=>by
  rcases t.pn a h with h | h
  ·exact s.pn a h
  ·exact .inr (s.hh.free h)
 nw:=fun a h=>by
  rcases t.nw a h with h | h
  ·exact s.nw a h
  ·exact .inr (s.hh.free h)
 dj:=fun a h h2=>by
  have h3:=t.dj a h h2
  rcases t.pn a h2 with q | q
  ·exact s.dj a h3 q
  ·exact absurd (s.nH.free q) h3
theorem Adv.heap {P N H P' N' H' H'':Hp} (s:Adv P N H P' N' H') (e:Same H' H''):Adv P N H P' N' H'':=
 ⟨s.hh.trans e,s.pp,s.nn,s.pH.trans e,s.nH.trans e,s.pn,s.nw,s.dj⟩
theorem qaI {H:Hp} {p:Addr} {o:HO} (h:H p=none):Same H (upd H p o):=fun b u e=>by
 rw[upd_ne (ne_of_none e h)];exact e
theorem qmu {P H:Hp} {p:Addr} {o:HO} (h:Same P H):Same (upd P p o) (upd H p o):=fun b u e=>by
 by_cases q:b=p
 ·subst q;rw[upd_same] at e ⊢;exact e
 ·rw[upd_ne q] at e ⊢;exact h _ _ e
theorem qaJ {P H:Hp} {p:Addr} {o:HO} (h:Same P H) (n:P p=none):Same P (upd H p o):=fun b u e=>by
 rw[upd_ne (ne_of_none e n)];exact h _ _ e
theorem qkd {P H:Hp} {p:Addr} {o:HO} (h:Same P H) (e:H p=some o):Same (upd P p o) H:=fun b u q=>by
 by_cases z:b=p
 ·subst z;rw[upd_same] at q;cases q;exact e
 ·rw[upd_ne z] at q;exact h _ _ q
theorem Adv.newP {P N H P' N' H':Hp} (s:Adv P N H P' N' H') {p:Addr} {o:HO} (hp:H' p=none):Adv P N H (upd P' p o) N' (upd H' p o) where
 hh:=s.hh.trans (qaI hp)
 pp:=s.pp.trans (qaI (s.pH.free hp))
 nn:=s.nn
 pH:=qmu s.pH
 nH:=s.nH.trans (qaI hp)
 pn:=fun a h=>by
  by_cases q:a=p
  ·exact .inr (by rw[q];exact s.hh.free hp)
  ·rw[upd_ne q] at h;exact s.pn a h
 nw:=s.nw
 dj:=fun a h h2=>by
  by_cases q:a=p
  ·exact absurd (s.nH.free hp) (q ▸ h)
  ·rw[upd_ne q] at h2;exact s.dj a h h2
theorem Adv.holdN {P N H P' N' H':Hp} (s:Adv P N H P' N' H') {p:Addr} {o:HO} (h0:H p=none) (hp:H' p=some o) (hn:N' p=none) (hP:P' p=none):Adv P N H P' (upd N' p o) H' where
 hh:=s.hh
 pp:=s.pp
 nn:=s.nn.trans (qaI hn)
 pH:=s.pH
 nH:=qkd s.nH hp
 pn:=s.pn
 nw:=fun a h=>by
  by_cases q:a=p
  ·exact .inr (by rw[q];exact h0)
  ·rw[upd_ne q] at h;exact s.nw a h
 dj:=fun a h h2=>by
  by_cases q:a=p
  ·exact absurd hP (q ▸ h2)
  ·rw[upd_ne q] at h;exact s.dj a h h2
structure Ctx where
 G:Glo
 R:Hp
 B:Hp
 P0:Hp
 W:WX
 S:Addr
 fx:Nat→Option V:=fun _=>none
section
variable (C:Ctx) (P N H:Hp)
abbrev RepB (b:Bool) (d:D) (v:V):Prop:=Rep C.G P (LNb C.G.K P N C.R b) d v
abbrev RepsB (b:Bool) (ds:List D) (vs:List V):Prop:=Reps C.G P (LNb C.G.K P N C.R b) ds vs
def RowR (R:Addr→List D→Prop):List (List D)→List Addr→Prop
 |[],ps=>ps=[]
 |ds::r,ps=>∃a q,ps=a::q∧R a ds∧RowR R r q
def DctR (R:D→V→Prop):List (Int × D)→List (Key × V)→Prop
 |[],es=>es=[]
 |e::m,es=>∃v r,es=(.inl e.1,v)::r∧R e.2 v∧DctR R m r
def SlR:Sl→Option V→Prop
 |.non,_=>True
 |.val d b,o=>∃v,o=some v∧RepB C P N b d v
 |.own ds b,o=>∃p xs,o=some (.ref p)∧H p=some (.lst xs)∧P p=none∧N p=none∧C.B p=none∧RepsB C P N b ds xs
 |.slf c fs,o=>∃p dx xs,(p=C.S∧o=some (.ref p))∧H p=some (.ins (C.G.ca c) dx ((C.G.fl c).zip xs))∧P p=none∧N p=none∧C.B p=none∧fs.length≤(C.G.fl c).length∧RepsB C P N true fs xs
 |.fxd d k,o=>∃v,o=some v∧C.fx k=some v∧RepB C P N false d v
 |.dct m b,o=>∃p es,o=some (.ref p)∧H p=some (.dK es)∧P p=none∧N p=none∧C.B p=none∧DctR (RepB C P N b) m es
 |.row dss,o=>∃p ps,o=some (.ref p)∧H p=some (.lst (ps.map V.ref))∧P p=none∧N p=none∧C.B p=none∧RowR (fun a ds=>∃xs,H a=some (.lst xs)∧P a=none∧N a=none∧C.B a=none∧D.flats ds=true∧RepsB C P N true ds xs) dss ps∧(p::ps).Nodup
def ERr (H0:Hp):ER→V→Prop
 |.val d b,v=>RepB C P N b d v
 |.fre ds b,v=>∃p xs,v=.ref p∧H p=some (.lst xs)∧H0 p=none∧P p=none∧N p=none∧RepsB C P N b ds xs
 |.brw ds b,v=>∃p xs,v=.ref p∧H p=some (.lst xs)∧P p=none∧N p=none∧C.B p=none∧RepsB C P N b ds xs
def ERs (H0:Hp):List ER→List V→Prop
 |[],vs=>vs=[]
 |e::es,vs=>∃v r,vs=v::r∧ERr C P N H H0 e v∧ERs H0 es r
def ExR (fs:List D) (d:Option Addr):Prop:=(fs=[]∧d=none)∨∃dd f v,fs=[f]∧d=some dd∧H dd=some (.xd [(("at" : Str),v)])∧RepB C P N true f v
structure Reg:Prop where
 pH:Same P H
 nH:Same N H
 bH:Same C.B H
 rB:Same C.R C.B
 p0:Same C.P0 P
 pn:∀a,P a≠none→C.P0 a≠none∨C.B a=none
 nw:∀a,N a≠none→C.B a=none
 dj:∀a,N a≠none→P a=none
structure AD (ρ:List Sl) (σ:L2.St):Prop where
 un:∀(i j:Nat) (p:Addr) (m:List (Int × D)) (b:Bool) (m':List (Int × D)) (c:Bool),ρ[i]? = some (.dct m b)→ρ[j]? = some (.dct m' c)→σ[i]? = some (some (.ref p))→σ[j]? = some (some (.ref p))→i=j
inductive Held (H:Hp):Sl→Option V→Addr→Prop
 |own {ds:List D} {b:Bool} {a:Addr}:Held H (.own ds b) (some (.ref a)) a
 |rt {dss:List (List D)} {a:Addr}:Held H (.row dss) (some (.ref a)) a
 |it {dss:List (List D)} {p a:Addr} {ps:List Addr}:H p=some (.lst (ps.map V.ref))→a∈ps→Held H (.row dss) (some (.ref p)) a
structure AR (H:Hp) (ρ:List Sl) (σ:L2.St):Prop where
 un:∀(i j:Nat) (dss:List (List D)) (t:Sl) (o u:Option V) (a:Addr),ρ[i]? = some (.row dss)→ρ[j]? = some t→σ[i]? = some o→σ[j]? = some u→Held H (.row dss) o a→Held H t u a→i=j
structure SR (ρ:List Sl) (σ:L2.St):Prop where
 reg:Reg C P N H
 len:σ.length=ρ.length
 sl:∀(i:Nat) (s:Sl),ρ[i]? = some s→∃o,σ[i]? = some o∧SlR C P N H s o
 ap:∀(i j:Nat) (p:Addr) (ds:List D) (b:Bool) (es:List D) (c:Bool),ρ[i]? = some (.own ds b)→ρ[j]? = some (.own es c)→σ[i]? = some (some (.ref p))→σ[j]? = some (some (.ref p))→i=j
 ad:AD ρ σ
 ar:AR H ρ σ
end
def Sl.isD:Sl→Bool
 |.dct _ _=>true
 |_=>false
theorem AD.sub {ρ ρ':List Sl} {σ σ':L2.St} (h:AD ρ σ) (k:∀(i:Nat) (m:List (Int × D)) (b:Bool),ρ'[i]? = some (Sl.dct m b)→σ'[i]? = σ[i]? ∧ ∃m' c,ρ[i]? = some (Sl.dct m' c)):AD ρ' σ':=⟨fun i j p m b m' c e1 e2 e3 e4=>by
 obtain⟨f1,_,_,g1⟩:=k i m b e1
 obtain⟨f2,_,_,g2⟩:=k j m' c e2
 rw[f1] at e3
 rw[f2] at e4
 exact h.un i j p _ _ _ _ g1 g2 e3 e4⟩
theorem AD.no {ρ:List Sl} {σ:L2.St} (h:∀(i:Nat) s,ρ[i]? = some s→s.isD=false):AD ρ σ:=⟨fun i j p m b m' c e1 e2 e3 e4=>by
 have:=h i _ e1
 cases this⟩
def Sl.isW:Sl→Bool
 |.row _=>true
 |_=>false
def Sl.isH:Sl→Bool
 |.row _=>true
 |.own _ _=>true
 |_=>false
theorem Held.not {H:Hp} {s:Sl} {o:Option V} {a:Addr} (h:Held H s o a):s.isH=true:=by cases h<;>rfl
theorem AR.no {H:Hp} {ρ:List Sl} {σ:L2.St} (h:∀(i:Nat) s,ρ[i]? = some s→s.isW=false):AR H ρ σ:=⟨fun i j dss t o u a e1 e2 e3 e4 h1 h2=>by
 have:=h i _ e1
 cases this⟩
theorem AR.heap {H H':Hp} {ρ:List Sl} {σ:L2.St} (h:AR H ρ σ) (k:∀(i:Nat) (dss:List (List D)) (p:Addr),ρ[i]? = some (.row dss)→σ[i]? = some (some (.ref p))→H' p=H p):AR H' ρ σ:=⟨fun i j dss t o u a e1 e2 e3 e4 h1 h2=>by
 refine h.un i j dss t o u a e1 e2 e3 e4 ?_ ?_
 ·cases h1 with
  |rt=>exact .rt
  |it q m=>exact .it ((k i _ _ e1 e3) ▸ q) m
 ·cases h2 with
  |own=>exact .own
  |rt=>exact .rt
  |it q m=>exact .it ((k j _ _ e2 e4) ▸ q) m⟩
theorem qaG {α:Type} {xs:List α} {i j:Nat} {x y:α} (e:(xs.set i x)[j]? = some y):(i=j∧y=x)∨(i≠j∧xs[j]? = some y):=by
 by_cases q:i=j
 ·subst q
  rw[List.getElem?_set] at e
  simp only[if_true] at e
  split at e
  ·cases e;exact .inl ⟨rfl,rfl⟩
  ·cases e
 ·rw[List.getElem?_set_ne q] at e
  exact .inr ⟨q,e⟩
theorem AR.set {H:Hp} {ρ:List Sl} {σ:L2.St} (h:AR H ρ σ) {i:Nat} {s:Sl} {o:Option V} (hs:s.isH=false):AR H (ρ.set i s) (σ.set i o):=⟨fun j k dss t o1 u a e1 e2 e3 e4 h1 h2=>by
 rcases qaG e1 with⟨q1,z1⟩ | ⟨q1,z1⟩
 ·rw[z1] at h1;have:=h1.not;rw[hs] at this;cases this
 ·rcases qaG e2 with⟨q2,z2⟩ | ⟨q2,z2⟩
  ·rw[z2] at h2;have:=h2.not;rw[hs] at this;cases this
  ·rw[List.getElem?_set_ne q1] at e3
   rw[List.getElem?_set_ne q2] at e4
   exact h.un j k dss t o1 u a z1 z2 e3 e4 h1 h2⟩
theorem AR.setS {H:Hp} {ρ:List Sl} {σ:L2.St} (h:AR H ρ σ) {i:Nat} {s:Sl} (hs:s.isH=false):AR H (ρ.set i s) σ:=⟨fun j k dss t o1 u a e1 e2 e3 e4 h1 h2=>by
 rcases qaG e1 with⟨q1,z1⟩ | ⟨q1,z1⟩
 ·rw[z1] at h1;have:=h1.not;rw[hs] at this;cases this
 ·rcases qaG e2 with⟨q2,z2⟩ | ⟨q2,z2⟩
  ·rw[z2] at h2;have:=h2.not;rw[hs] at this;cases this
  ·exact h.un j k dss t o1 u a z1 z2 e3 e4 h1 h2⟩
theorem AR.setO {H:Hp} {ρ:List Sl} {σ:L2.St} (h:AR H ρ σ) {i:Nat} {ds:List D} {b:Bool} {p:Addr} (k:∀(j:Nat) (dss:List (List D)) (u:Option V),i≠j→ρ[j]? = some (.row dss)→σ[j]? = some u→¬Held H (.row dss) u p):AR H (ρ.set i (.own ds b)) (σ.set i (some (.ref p))):=⟨fun j l dss t o1 u a e1 e2 e3 e4 h1 h2=>by
 rcases qaG e1 with⟨q1,z1⟩ | ⟨q1,z1⟩
 ·cases z1
 ·rw[List.getElem?_set_ne q1] at e3
  rcases qaG e2 with⟨q2,z2⟩ | ⟨q2,z2⟩
  ·rcases qaG e4 with⟨_,z4⟩ | ⟨q4,_⟩
   ·rw[z2,z4] at h2
    cases h2
    exact absurd h1 (k j dss o1 q1 z1 e3)
   ·exact absurd q2 q4
  ·rw[List.getElem?_set_ne q2] at e4
   exact h.un j l dss t o1 u a z1 z2 e3 e4 h1 h2⟩
theorem AR.own {H:Hp} {ρ:List Sl} {σ:L2.St} (h:AR H ρ σ) {i:Nat} {ds ds':List D} {b b':Bool} (e:ρ[i]? = some (.own ds b)):AR H (ρ.set i (.own ds' b')) σ:=⟨fun j l dss t o1 u a e1 e2 e3 e4 h1 h2=>by
 rcases qaG e1 with⟨q1,z1⟩ | ⟨q1,z1⟩
 ·cases z1
 ·rcases qaG e2 with⟨q2,z2⟩ | ⟨q2,z2⟩
  ·subst q2
   rw[z2] at h2
   cases h2
   exact h.un j i dss (.own ds b) o1 _ a z1 e e3 e4 h1 .own
  ·exact h.un j l dss t o1 u a z1 z2 e3 e4 h1 h2⟩
theorem AD.set {ρ:List Sl} {σ:L2.St} (h:AD ρ σ) {i:Nat} {s:Sl} {o:Option V} (hs:s.isD=false):AD (ρ.set i s) (σ.set i o):=h.sub fun j m b e=>by
 by_cases q:i=j
 ·subst q
  rw[List.getElem?_set] at e
  simp only[if_true] at e
  split at e
  ·cases e;cases hs
  ·cases e
 ·rw[List.getElem?_set_ne q] at e
  rw[List.getElem?_set_ne q]
  exact⟨rfl,_,_,e⟩
theorem AD.setS {ρ:List Sl} {σ:L2.St} (h:AD ρ σ) {i:Nat} {s:Sl} (hs:s.isD=false):AD (ρ.set i s) σ:=h.sub fun j m b e=>by
 by_cases q:i=j
 ·subst q
  rw[List.getElem?_set] at e
  simp only[if_true] at e
  split at e
  ·cases e;cases hs
  ·cases e
 ·rw[List.getElem?_set_ne q] at e
  exact⟨rfl,_,_,e⟩
section
variable {C:Ctx} {P N H P' N' H':Hp} {ρ:List Sl} {σ:L2.St}
theorem Reg.rH (h:Reg C P N H):Same C.R H:=h.rB.trans h.bH
theorem Reg.adv (h:Reg C P N H) (a:Adv P N H P' N' H'):Reg C P' N' H' where
 pH:=a.pH
 nH:=a.nH
 bH:=h.bH.trans a.hh
 rB:=h.rB
 p0:=h.p0.trans a.pp
 pn:=fun q e=>by
  rcases a.pn q e with e | e
  ·exact h.pn q e
  ·exact .inr (h.bH.free e)
 nw:=fun q e=>by
  rcases a.nw q e with e | e
  ·exact h.nw q e
  ·exact h.bH.free e
 dj:=fun q e=>by
  cases e2:P' q with
  |none=>rfl
  |some o =>
   have e3:P' q≠none:=by rw[e2];exact fun z=>nomatch z
   have e4:=a.dj q e e3
   rcases a.pn q e3 with z | z
   ·exact absurd (h.dj q e4) z
   ·exact absurd (h.nH.free z) e4
theorem RepB.adv {b:Bool} {d:D} {v:V} (hp:Same P P') (hn:Same N N') (h:RepB C P N b d v):RepB C P' N' b d v:=Rep.mono hp d v (LNb.mono hp hn) h
theorem RepsB.adv {b:Bool} {ds:List D} {vs:List V} (hp:Same P P') (hn:Same N N') (h:RepsB C P N b ds vs):RepsB C P' N' b ds vs:=Reps.mono hp ds vs (LNb.mono hp hn) h
theorem RepB.and1 {b c:Bool} {d:D} {v:V} (h:RepB C P N b d v):RepB C P N (b&&c) d v:=Rep.mono (L2.Same.refl _) d v LNb.and1 h
theorem RepB.and2 {b c:Bool} {d:D} {v:V} (h:RepB C P N c d v):RepB C P N (b&&c) d v:=Rep.mono (L2.Same.refl _) d v LNb.and2 h
theorem RepsB.and1 {b c:Bool} {d:List D} {v:List V} (h:RepsB C P N b d v):RepsB C P N (b&&c) d v:=Reps.mono (L2.Same.refl _) d v LNb.and1 h
theorem RepsB.and2 {b c:Bool} {d:List D} {v:List V} (h:RepsB C P N c d v):RepsB C P N (b&&c) d v:=Reps.mono (L2.Same.refl _) d v LNb.and2 h
theorem RepB.nf {b:Bool} {d:D} {v:V} (h:RepB C P N b d v):RepB C P N (b||d.flat) d v:=by
 cases b with
 |true=>exact h
 |false =>
  cases e:d.flat with
  |true=>exact Rep.flat d v e h
  |false=>exact h
theorem RepsB.nf {b:Bool} {d:List D} {v:List V} (h:RepsB C P N b d v):RepsB C P N (b||D.flats d) d v:=by
 cases b with
 |true=>exact h
 |false =>
  cases e:D.flats d with
  |true=>exact Reps.flat d v e h
  |false=>exact h
theorem Adv.off (a:Adv P N H P' N' H') {p:Addr} {o:HO} (h:H p=some o) (hp:P p=none):P' p=none:=by
 cases q:P' p with
 |none=>rfl
 |some u =>
  rcases a.pn p (by rw[q];simp) with z | z
  ·exact absurd hp z
  ·rw[h] at z;cases z
theorem Adv.offN (a:Adv P N H P' N' H') {p:Addr} {o:HO} (h:H p=some o) (hn:N p=none):N' p=none:=by
 cases q:N' p with
 |none=>rfl
 |some u =>
  rcases a.nw p (by rw[q];simp) with z | z
  ·exact absurd hn z
  ·rw[h] at z;cases z
theorem RowR.mono {R R':Addr→List D→Prop} (k:∀a ds,R a ds→R' a ds):∀{dss:List (List D)} {ps:List Addr},RowR R dss ps→RowR R' dss ps
 |[],_,h=>h
 |_::_,_,⟨a,q,e,h1,h2⟩=>⟨a,q,e,k _ _ h1,RowR.mono k h2⟩
theorem RowR.sub {R R':Addr→List D→Prop}:∀{dss:List (List D)} {ps:List Addr},RowR R dss ps→(∀a∈ps,∀ds,R a ds→R' a ds)→RowR R' dss ps
 |[],_,h,_=>h
 |_::_,_,⟨a,q,e,h1,h2⟩,k=>by
  subst e
  exact⟨a,q,rfl,k a (by simp) _ h1,RowR.sub h2 fun b hb=>k b (List.mem_cons_of_mem _ hb)⟩
theorem RowR.all {R:Addr→List D→Prop}:∀{dss:List (List D)} {ps:List Addr},RowR R dss ps→∀a∈ps,∃ds,R a ds
 |[],_,h,a,m=>by cases h;cases m
 |ds::_,_,⟨b,q,e,h1,h2⟩,a,m=>by
  subst e
  rcases List.mem_cons.mp m with z | z
  ·rw[z];exact⟨ds,h1⟩
  ·exact RowR.all h2 a z
theorem qfe:∀{ps qs:List Addr},ps.map V.ref=qs.map V.ref→ps=qs
 |[],[],_=>rfl
 |[],_::_,h=>nomatch h
 |_::_,[],h=>nomatch h
 |p::ps,q::qs,h=>by
  simp only[List.map_cons,List.cons.injEq] at h
  obtain⟨h1,h2⟩:=h
  cases h1
  rw[qfe h2]
theorem SlR.held {C:Ctx} {P N H:Hp} {dss:List (List D)} {o:Option V} {a:Addr} (h:SlR C P N H (.row dss) o) (k:Held H (.row dss) o a):(∃xs,H a=some (.lst xs))∧P a=none∧N a=none∧C.B a=none:=by
 obtain⟨p,ps,rfl,h1,h2,h3,h4,h5,h6⟩:=h
 cases k with
 |rt=>exact⟨⟨_,h1⟩,h2,h3,h4⟩
 |it q m =>
  rw[h1] at q
  injection q with q
  injection q with q
  have:=qfe q
  subst this
  obtain⟨ds,xs,g1,g2,g3,g4,_⟩:=h5.all a m
  exact⟨⟨xs,g1⟩,g2,g3,g4⟩
theorem DctR.mono {R R':D→V→Prop} (k:∀d v,R d v→R' d v):∀{m:List (Int × D)} {es:List (Key × V)},DctR R m es→DctR R' m es
 |[],_,h=>h
 |_::_,_,⟨v,r,e,h1,h2⟩=>⟨v,r,e,k _ _ h1,DctR.mono k h2⟩
theorem DctR.adv {b:Bool} (hp:Same P P') (hn:Same N N') {m:List (Int × D)} {es:List (Key × V)} (h:DctR (RepB C P N b) m es):DctR (RepB C P' N' b) m es:=h.mono fun _ _=>RepB.adv hp hn
theorem SlR.adv (a:Adv P N H P' N' H') {s:Sl} {o:Option V} (h:SlR C P N H s o):SlR C P' N' H' s o:=by
 cases s with
 |non=>trivial
 |val d b =>
  obtain⟨v,h3,h4⟩:=h
  exact⟨v,h3,RepB.adv a.pp a.nn h4⟩
 |own ds b =>
  obtain⟨p,xs,h3,h4,h5,h6,h7,h8⟩:=h
  exact⟨p,xs,h3,a.hh _ _ h4,a.off h4 h5,a.offN h4 h6,h7,RepsB.adv a.pp a.nn h8⟩
 |slf c fs =>
  obtain⟨p,dx,xs,h3,h4,h5,h6,h7,h8,h9⟩:=h
  exact⟨p,dx,xs,h3,a.hh _ _ h4,a.off h4 h5,a.offN h4 h6,h7,h8,RepsB.adv a.pp a.nn h9⟩
 |fxd d k =>
  obtain⟨v,h3,h4,h5⟩:=h
  exact⟨v,h3,h4,RepB.adv a.pp a.nn h5⟩
 |dct m b =>
  obtain⟨p,es,h3,h4,h5,h6,h7,h8⟩:=h
  exact⟨p,es,h3,a.hh _ _ h4,a.off h4 h5,a.offN h4 h6,h7,h8.adv a.pp a.nn⟩
 |row dss =>
  obtain⟨p,ps,h3,h4,h5,h6,h7,h8,h9⟩:=h
  exact⟨p,ps,h3,a.hh _ _ h4,a.off h4 h5,a.offN h4 h6,h7,h8.mono fun b ds ⟨xs,g1,g2,g3,g4,g5,g6⟩=>⟨xs,a.hh _ _ g1,a.off g1 g2,a.offN g1 g3,g4,g5,RepsB.adv a.pp a.nn g6⟩,h9⟩
theorem SR.adv (S:SR C P N H ρ σ) (a:Adv P N H P' N' H'):SR C P' N' H' ρ σ where
 reg:=S.reg.adv a
 len:=S.len
 sl:=fun i s e=>by
  obtain⟨o,h1,h2⟩:=S.sl i s e
  exact⟨o,h1,h2.adv a⟩
 ap:=S.ap
 ad:=S.ad
 ar:=S.ar.heap fun i dss p e1 e2=>by
  obtain⟨o,z1,z2⟩:=S.sl i _ e1
  rw[z1] at e2;cases e2
  obtain⟨⟨xs,q⟩,_⟩:=z2.held .rt
  rw[q];exact a.hh _ _ q
theorem ERr.adv (a:Adv P N H P' N' H') {H0:Hp} {er:ER} {v:V} (h:ERr C P N H H0 er v):ERr C P' N' H' H0 er v:=by
 cases er with
 |val d b=>exact RepB.adv a.pp a.nn h
 |fre ds b =>
  obtain⟨p,xs,h3,h4,h5,h6,h7,h8⟩:=h
  exact⟨p,xs,h3,a.hh _ _ h4,h5,a.off h4 h6,a.offN h4 h7,RepsB.adv a.pp a.nn h8⟩
 |brw ds b =>
  obtain⟨p,xs,h3,h4,h5,h6,h7,h8⟩:=h
  exact⟨p,xs,h3,a.hh _ _ h4,a.off h4 h5,a.offN h4 h6,h7,RepsB.adv a.pp a.nn h8⟩
theorem ERs.adv (a:Adv P N H P' N' H') {H0:Hp}:∀{er:List ER} {v:List V},ERs C P N H H0 er v→ERs C P' N' H' H0 er v
 |[],_,h=>h
 |e::es,_,⟨v,r,h1,h2,h3⟩=>⟨v,r,h1,h2.adv a,ERs.adv a h3⟩
theorem ERr.from {H0 H1:Hp} (e:Same H1 H0) {er:ER} {v:V} (h:ERr C P N H H0 er v):ERr C P N H H1 er v:=by
 cases er with
 |val d b=>exact h
 |fre ds b =>
  obtain⟨p,xs,h3,h4,h5,h6⟩:=h
  exact⟨p,xs,h3,h4,e.free h5,h6⟩
 |brw ds b=>exact h
theorem ERs.from {H0 H1:Hp} (e:Same H1 H0):∀{er:List ER} {v:List V},ERs C P N H H0 er v→ERs C P N H H1 er v
 |[],_,h=>h
 |_::_,_,⟨v,r,h1,h2,h3⟩=>⟨v,r,h1,h2.from e,ERs.from e h3⟩
theorem ERr.freeze {P1 N1 H0:Hp} {er:ER} {v:V} (a:Adv P1 N1 H0 P N H) (h:ERr C P N H H0 er v):∃N'',Adv P1 N1 H0 P N'' H∧ERr C P N'' H H0 er.frz v:=by
 cases er with
 |val d b=>exact⟨N,a,h⟩
 |brw d b=>exact⟨N,a,h⟩
 |fre ds b =>
  obtain⟨p,xs,rfl,h1,h2,h3,h4,h5⟩:=h
  have sn:Same N (upd N p (.lst xs)):=qaI h4
  exact⟨upd N p (.lst xs),a.holdN h2 h1 h4 h3,p,xs,rfl,.inl upd_same,RepsB.adv (L2.Same.refl _) sn h5⟩
def ERw (C:Ctx) (P N H:Hp) (d:D) (b:Bool) (v:V):Prop:=
 match d with
 |.lst ds=>∃p xs,v=.ref p∧SqL C.G.K H p xs∧RepsB C P N b ds xs
 |d=>RepB C P N b d v
theorem ERr.w (r:Reg C P N H) {H0:Hp} {er:ER} {v:V} (h:ERr C P N H H0 er v):ERw C P N H er.d er.b v:=by
 cases er with
 |val d b =>
  cases d with
  |lst ds =>
   obtain⟨p,xs,e,h1,h2⟩:=h
   exact⟨p,xs,e,LNb.seq r.pH r.nH r.rH _ _ h1,h2⟩
  |_=>exact h
 |fre ds b =>
  obtain⟨p,xs,h3,h4,_,_,_,h5⟩:=h
  exact⟨p,xs,h3,.inl (.inl h4),h5⟩
 |brw ds b =>
  obtain⟨p,xs,h3,h4,_,_,_,h5⟩:=h
  exact⟨p,xs,h3,.inl (.inl h4),h5⟩
end
def spD (G:Glo) (n:Nat) (g:List D→RE ER):Sp:=fun vs H Q E=>∃P R ds,Same P H∧Same R H∧Reps G P (SqL G.K R) ds vs∧ds.length=n∧match g ds with
 |.bad=>False
 |.ok er=>∀v H' P' N',Adv P (fun _=>none) H P' N' H'→ERr ⟨G,R,H,P,fun _ _ _ _=>False,0,fun _=>none⟩ P' N' H' H er v→Q v H'
 |.exc c fs=>∀d H' P' N',Adv P (fun _=>none) H P' N' H'→ExR ⟨G,R,H,P,fun _ _ _ _=>False,0,fun _=>none⟩ P' N' H' fs d→E (.ref (G.ca c)) d H'
theorem qrb {G:Glo} {n:Nat} {g:List D→RE ER} {vs:List V} {H:Hp} {Q:VK} {E:XK} (h:spD G n g vs H Q E):vs.length=n:=by
 obtain⟨P,R,ds,_,_,h1,h2,_⟩:=h
 rw[h1.length,h2]
def spI (G:Glo) (c n:Nat) (g:List D→RE (List D)):Sp:=fun vs H Q E=>∃x dx H0 P R ds us,vs=.ref x::us∧H=upd (upd H0 dx (.own x)) x (.ins (G.ca c) dx [])∧H0 x=none∧H0 dx=none∧Same P H0∧Same R H0∧Reps G P (SqL G.K R) ds us∧ds.length=n∧match g ds with
 |.bad=>False
 |.ok fs=>∀H' P',Same H0 H'→Same P P'→Same P' H'→(∀a,P' a≠none→P a≠none∨H0 a=none)→Rep G P' (fun _ _=>False) (.ins c fs) (.ref x)→Q .non H'
 |.exc c fs=>∀d H' P' N',Adv P (fun _=>none) H0 P' N' H'→ExR ⟨G,R,H0,P,fun _ _ _ _=>False,0,fun _=>none⟩ P' N' H' fs d→E (.ref (G.ca c)) d H'
theorem qqa {G:Glo} {c n:Nat} {g:List D→RE (List D)} {vs:List V} {H:Hp} {Q:VK} {E:XK} (h:spI G c n g vs H Q E):vs.length=n+1:=by
 obtain⟨x,dx,H0,P,R,ds,us,rfl,_,_,_,_,_,h1,h2,_⟩:=h
 rw[List.length_cons,h1.length,h2]
end Cm
namespace Cm
open PySem PySem.Spec PyProof.Rows L2
def qa8 (s:List Nat):Str:=⟨s.toArray⟩
inductive Bop where
 |add | sub | mul | fdv | mdl | pow | shl | shr | and | or
inductive Cop where
 |eq | ne | lt | le | gt | ge | isin | nin
inductive Pri where
 |len | abs | min2 | max2 | min1 | max1 | sum | sorted | all | any | list | tupl | int | str | dmd
inductive Bme where
 |split | join | find
inductive Ty where
 |bool | int | str | list | tuple
mutual
inductive Ex where
 |nev
 |var (i:Nat)
 |cint (i:Int)
 |cbl (b:Bool)
 |cstr (s:List Nat)
 |glo (k:Nat)
 |bin (o:Bop) (a b:Ex)
 |cmp (o:Cop) (a b:Ex)
 |chn (o p:Cop) (a b c:Ex)
 |bop (and:Bool) (es:Exs)
 |bnot (a:Ex)
 |neg (a:Ex)
 |tup (es:Exs)
 |lst (es:Exs)
 |idx (a i:Ex)
 |slc (a:Ex) (lo hi:Exs)
 |call (f:Nat) (es:Exs)
 |pri (p:Pri) (es:Exs)
 |lrng (es:Exs)
 |mth (m:Nat) (o:Ex) (es:Exs)
 |bm1 (m:Bme) (o a:Ex)
 |fld (o:Ex) (f:Nat)
 |isi (a:Ex) (t:Ty)
 |lc (own:List Nat) (it:Itx) (tg:List Nat) (cnd:Tes) (e:Ex)
 |lset (a:Ex)
 |new (k:Nat) (es:Exs)
 |sfd (i f:Nat)
 |lrev (a:Ex)
 |pk (e:Ex)
inductive Te where
 |val (e:Ex)
 |bop (and:Bool) (ts:Tes)
 |not (t:Te)
inductive Tes where
 |nil
 |cons (t:Te) (ts:Tes)
inductive Exs where
 |nil
 |cons (e:Ex) (es:Exs)
inductive Itx where
 |any (e:Ex)
 |rng (es:Exs)
 |zp (a b:Ex)
 |en (a:Ex)
 |rv (a:Ex)
 |rvr (a:Ex)
end
@[simp] def ok (d:D):RE ER:=.ok (.val d true)
def qor (i j:Int):Prop:=(-(2 ^ 64)<i∧i<2 ^ 64)∨(-(2 ^ 64)<j∧j<2 ^ 64)
instance (i j:Int):Decidable (qor i j):=by unfold qor;infer_instance
def qop (j:Int):Prop:=j≠0∧j.natAbs<1073741824
instance (j:Int):Decidable (qop j):=by unfold qop;infer_instance
def qoJ (i j:Int):Prop:=0≤j∧j≤1000000∧i.natAbs<2 ^ 64
instance (i j:Int):Decidable (qoJ i j):=by unfold qoJ;infer_instance
def LIM:Nat:=16777216
def gd {α:Type} (b:Bool) (r:RE α):RE α:=match b with
 |true=>r
 |false=>.bad
@[simp] theorem qgs {α:Type} (r:RE α):gd true r=r:=rfl
theorem qek {α:Type} (b:Bool) (r:RE α):gd b r=if b=true then r else .bad:=by cases b<;>rfl
/- (they look at the first numeral alone: where it isn't known they stand still) -/
def qn2 (i j:Int):Bool:=Nat.ble i.natAbs 18446744073709551615||(Nat.ble j.natAbs 18446744073709551615||Nat.ble (Builtin.Int.intBits i+Builtin.Int.intBits j) 134217728)
def nzB (j:Int):Bool:=Nat.ble 1 j.natAbs
def qrI (j:Int):Bool:=nzB j&&Nat.ble j.natAbs 1073741823
def dmB (j:Int):Bool:=Nat.ble 1 j.toNat&&Nat.ble j.natAbs 1073741823
def nnB (j:Int):Bool:=match j with
 |.ofNat _=>true
 |.negSucc _=>false
def qrH (i j:Int):Bool:=nnB j&&(Nat.ble j.natAbs 1000000&&Nat.ble i.natAbs 18446744073709551615)
def leB (n:Nat):Bool:=Nat.ble n LIM
def qrF (n:Nat) (k:Int):Bool:=Nat.ble k.natAbs 9223372036854775807&&leB (n*k.toNat)
def qr5 (i:Int):Bool:=Nat.ble i.natAbs.log2 1919
def qs3 (t s:Nat):Bool:=Nat.ble 1 t&&leB (s+2)
theorem qbn (j:Int):(nzB j=true)=(j≠0):=by
 unfold nzB
 rw[Nat.ble_eq]
 exact propext ⟨fun h=>by omega,fun h=>by omega⟩
theorem qan (n:Nat):(leB n=true)=(n≤LIM):=by
 unfold leB
 rw[Nat.ble_eq]
theorem qbs (j:Int):(nnB j=true)=(0≤j):=by
 cases j with
 |ofNat n=>exact propext ⟨fun _=>Int.natCast_nonneg n,fun _=>rfl⟩
 |negSucc n=>exact propext ⟨fun h=>(by cases h),fun h=>(by omega)⟩
theorem qbh (i j:Int):(qn2 i j=true)=(qor i j∨CMulX i j):=by
 unfold qn2 qor CMulX
 rw[Bool.or_eq_true,Bool.or_eq_true,Nat.ble_eq,Nat.ble_eq,Nat.ble_eq]
 refine propext ⟨fun h=>?_,fun h=>?_⟩
 ·rcases h with h | h | h
  ·exact .inl (.inl (by omega))
  ·exact .inl (.inr (by omega))
  ·exact .inr (by omega)
 ·rcases h with(h | h) | h
  ·exact .inl (by omega)
  ·exact .inr (.inl (by omega))
  ·exact .inr (.inr (by omega))
theorem qbi (j:Int):(qrI j=true)=qop j:=by
 unfold qrI qop
 rw[Bool.and_eq_true,qbn,Nat.ble_eq]
 exact propext ⟨fun h=>⟨h.1,by omega⟩,fun h=>⟨h.1,by omega⟩⟩
theorem qqq (j:Int):(dmB j=true)=(0<j∧j<1073741824):=by
 unfold dmB
 rw[Bool.and_eq_true,Nat.ble_eq,Nat.ble_eq]
 exact propext ⟨fun h=>by omega,fun h=>by omega⟩
theorem qbj (i j:Int):(qrH i j=true)=qoJ i j:=by
 unfold qrH qoJ
 rw[Bool.and_eq_true,Bool.and_eq_true,qbs,Nat.ble_eq,Nat.ble_eq]
 exact propext ⟨fun h=>⟨h.1,by omega,by omega⟩,fun h=>⟨h.1,by omega,by omega⟩⟩
theorem qmS {n:Nat} {k:Int} (h:qrF n k=true):-(2 ^ 63)≤k∧k<2 ^ 63∧n*k.toNat≤LIM:=by
 unfold qrF at h
 rw[Bool.and_eq_true,qan,Nat.ble_eq] at h
 exact⟨by omega,by omega,h.2⟩
theorem qbg (i:Int):(qr5 i=true)=(i.natAbs.log2<1920):=by
 unfold qr5
 rw[Nat.ble_eq]
 exact propext ⟨fun h=>by omega,fun h=>by omega⟩
theorem qa5 (t s:Nat):(qs3 t s=true)=(t≠0∧s+2≤LIM):=by
 unfold qs3
 rw[Bool.and_eq_true,qan,Nat.ble_eq]
 exact propext ⟨fun h=>⟨by omega,h.2⟩,fun h=>⟨by omega,h.2⟩⟩
@[simp] def evB (o:Bop) (x y:D) (b:Bool):RE ER:=
 match o with
 |.add=>match x,y with
  |.int i,.int j=>ok (.int (i+j))
  |.str s,.str t=>gd (leB (s.length+t.length)) (ok (.str (s++t)))
  |.lst xs,.lst ys=>gd (leB (xs.length+ys.length)) (.ok (.fre (xs++ys) b))
  |_,_=>.bad
 |.sub=>match x,y with
  |.int i,.int j=>ok (.int (i - j))
  |_,_=>.bad
 |.mul=>match x,y with
  |.int i,.int j=>gd (qn2 i j) (ok (.int (i*j)))
  |.lst xs,.int k=>gd (qrF xs.length k) (.ok (.fre (List.replicate k.toNat xs).flatten b))
  |.str s,.int k=>gd (qrF s.length k&&(Nat.ble 1 k.toNat&&Nat.ble 1 s.length)) (ok (.str (List.replicate k.toNat s).flatten))
  |_,_=>.bad
 |.fdv=>match x,y with
  |.int i,.int j=>gd (qrI j) (ok (.int (i.fdiv j)))
  |_,_=>.bad
 |.mdl=>match x,y with
  |.int i,.int j=>gd (nzB j) (ok (.int (i.fmod j)))
  |_,_=>.bad
 |.pow=>match x,y with
  |.int i,.int j=>gd (qrH i j) (ok (.int (i ^ j.toNat)))
  |_,_=>.bad
 |.shl=>match x,y with
  |.int i,.int j=>gd (qrH i j) (ok (.int (i*2 ^ j.toNat)))
  |_,_=>.bad
 |.shr=>match x,y with
  |.int i,.int j=>gd (nnB j) (ok (.int (i / 2 ^ j.toNat)))
  |_,_=>.bad
 |.and=>match x,y with
  |.int i,.int j=>ok (.int (Builtin.bitAnd i j))
  |_,_=>.bad
 |.or=>match x,y with
  |.int i,.int j=>ok (.int (Builtin.bitOr i j))
  |_,_=>.bad
def qjH (x y:D):RE Bool:=
 match x,y with
 |.int i,.int j=>.ok (decide (i=j))
 |.str s,.str t=>.ok (decide (s=t))
 |.bl a,.bl b=>.ok (a == b)
 |x,y=>if (x.fit 64&&y.fit 64)=true then .ok (x.eqb y) else .bad
def qmn (x y:D):RE Bool:=
 match y with
 |.lst ys=>if (x.fit 64&&(D.lst ys).fit 64)=true then .ok (ys.any fun z=>z.eqb x) else .bad
 |.tup ys=>if (x.fit 0&&D.fits ys 0)=true then .ok (ys.any fun z=>z.eqb x) else .bad
 |.str t=>match x with
  |.str [c]=>.ok (decide (c∈t))
  |_=>.bad
 |_=>.bad
@[simp] def evC (o:Cop) (x y:D):RE Bool:=
 match o with
 |.eq=>qjH x y
 |.ne=>(qjH x y).bind fun b=>.ok (!b)
 |.isin=>qmn x y
 |.nin=>(qmn x y).bind fun b=>.ok (!b)
 |.lt=>match x,y with
  |.int i,.int j=>.ok (decide (i<j))
  |_,_=>.bad
 |.le=>match x,y with
  |.int i,.int j=>.ok (decide (i≤j))
  |_,_=>.bad
 |.gt=>match x,y with
  |.int i,.int j=>.ok (decide (j<i))
  |_,_=>.bad
 |.ge=>match x,y with
  |.int i,.int j=>.ok (decide (j≤i))
  |_,_=>.bad
@[simp] def qgI (x:D):RE Bool:=
 match x with
 |.bl b=>.ok b
 |.int i=>.ok (i != 0)
 |.non=>.ok false
 |.lst xs=>.ok (!xs.isEmpty)
 |.tup xs=>.ok (!xs.isEmpty)
 |_=>.bad
@[simp] def qpX (a i:D) (b:Bool):RE ER:=
 match a,i with
 |.lst xs,.int i=>match atI xs i with
  |some x=>.ok (.val x (b||x.flat))
  |none=>.bad
 |.tup xs,.int i=>match atI xs i with
  |some x=>.ok (.val x (b||x.flat))
  |none=>.bad
 |.str s,.int i=>gd (leB s.length) (match atI s i with
  |some c=>ok (.str [c])
  |none=>.bad)
 |_,_=>.bad
def qeu {α:Type} (xs:List α) (lo hi:Option Int):List α:=(xs.drop (HT.sIx xs.length 0 lo)).take (HT.sIx xs.length xs.length hi - HT.sIx xs.length 0 lo)
@[simp] def qtl (a:D) (lo hi:Option Int) (b:Bool):RE ER:=
 match a with
 |.lst xs=>.ok (.fre (qeu xs lo hi) b)
 |.tup xs=>gd (!(decide (HT.sIx xs.length 0 lo=0)&&decide (HT.sIx xs.length xs.length hi=xs.length))) (.ok (.val (.tup (qeu xs lo hi)) b))
 |.str s=>gd (leB s.length) (ok (.str (qeu s lo hi)))
 |_=>.bad
def qb0:List D→Option (List Int)
 |[]=>some []
 |.int i::ds=>(qb0 ds).map (i :: ·)
 |_::_=>none
def qfD:List D→Option (List Bool)
 |[]=>some []
 |.bl i::ds=>(qfD ds).map (i :: ·)
 |_::_=>none
def qiE:List D→Option (List (List Nat))
 |[]=>some []
 |.str i::ds=>(qiE ds).map (i :: ·)
 |_::_=>none
def qkl:List Int→Int
 |[]=>0
 |[x]=>x
 |x::xs=>max x (qkl xs)
def ql3:List Int→Int
 |[]=>0
 |[x]=>x
 |x::xs=>min x (ql3 xs)
def qqQ (x:Int):List Int→List Int
 |[]=>[x]
 |y::ys=>if x≤y then x::y::ys else y::qqQ x ys
def qeS:List Int→List Int
 |[]=>[]
 |x::xs=>qqQ x (qeS xs)
def qtE:List Int→List Int→Bool
 |[],[]=>false
 |[],_::_=>true
 |_::_,[]=>false
 |a::as,b::bs=>if a=b then qtE as bs else decide (a<b)
def quo (x:List Int):List (List Int)→List (List Int)
 |[]=>[x]
 |y::ys=>if qtE y x=true then y::quo x ys else x::y::ys
def qne:List (List Int)→List (List Int)
 |[]=>[]
 |x::xs=>quo x (qne xs)
def liD:D→Option (List Int)
 |.lst ds=>qb0 ds
 |_=>none
def qup:List D→Option (List (List Int))
 |[]=>some []
 |d::ds=>match liD d with
  |some n=>(qup ds).map (n :: ·)
  |none=>none
def liV (n:List Int):D:=.lst (n.map D.int)
def qu8 (x:D) (b:Bool):RE ER:=match x with
 |.lst xs=>match qup xs with
  |some ls=>.ok (.fre ((qne ls).map liV) b)
  |none=>.bad
 |_=>.bad
def qs8 (k:Bool) (ns:List Int) (d:Int):Int:=match ns with
 |[]=>d
 |n::ns=>if k=true then qkl (n::ns) else ql3 (n::ns)
def quH (k:Bool) (x y:D):RE ER:=match x with
 |.lst xs=>match qb0 xs with
  |some ns=>match y with
   |.int d=>ok (.int (qs8 k ns d))
   |_=>.bad
  |none=>.bad
 |_=>.bad
@[simp] def evP (p:Pri) (es:List ER):RE ER:=
 match p,es with
 |.len,[e]=>match e.d with
  |.lst xs=>ok (.int xs.length)
  |.tup xs=>ok (.int xs.length)
  |.str s=>gd (leB s.length) (ok (.int s.length))
  |_=>.bad
 |.abs,[e]=>match e.d with
  |.int i=>ok (.int (if i<0 then -i else i))
  |_=>.bad
 |.min2,[e,f]=>match e.d,f.d with
  |.int i,.int j=>ok (.int (if j<i then j else i))
  |_,_=>.bad
 |.max2,[e,f]=>match e.d,f.d with
  |.int i,.int j=>ok (.int (if j>i then j else i))
  |_,_=>.bad
 |.min1,[e]=>match e.d with
  |.lst xs=>match qb0 xs with
   |some (n::ns)=>ok (.int (ql3 (n::ns)))
   |_=>.bad
  |_=>.bad
 |.max1,[e]=>match e.d with
  |.lst xs=>match qb0 xs with
   |some (n::ns)=>ok (.int (qkl (n::ns)))
   |_=>.bad
  |_=>.bad
 |.sum,[e]=>match e.d with
  |.lst xs=>match qb0 xs with
   |some ns=>ok (.int ns.sum)
   |none=>.bad
  |_=>.bad
 |.sorted,[e]=>match e.d with
  |.lst xs=>match qb0 xs with
   |some ns=>.ok (.fre ((qeS ns).map D.int) true)
   |none=>.bad
  |_=>.bad
 |.all,[e]=>match e.d with
  |.lst xs=>match qfD xs with
   |some bs=>ok (.bl (bs.all id))
   |none=>.bad
  |_=>.bad
 |.any,[e]=>match e.d with
  |.lst xs=>match qfD xs with
   |some bs=>ok (.bl (bs.any id))
   |none=>.bad
  |_=>.bad
 |.list,[e]=>match e.d with
  |.lst xs=>.ok (.fre xs (e.b||D.flats xs))
  |.tup xs=>.ok (.fre xs (e.b||D.flats xs))
  |_=>.bad
 |.tupl,[e]=>match e.d with
  |.lst xs=>.ok (.val (.tup xs) (e.b||D.flats xs))
  |_=>.bad
 |.int,[e]=>match e.d with
  |.int i=>ok (.int i)
  |.bl c=>ok (.int (if c then 1 else 0))
  |.str s=>match intText? (qa8 s) with
   |some n=>gd (Nat.ble s.length 640) (ok (.int n))
   |none=>.bad
  |_=>.bad
 |.dmd,[e,f]=>match e.d,f.d with
  |.int i,.int j=>gd (dmB j) (ok (.tup [.int (i / j),.int (i % j)]))
  |_,_=>.bad
 |.str,[e]=>match e.d with
  |.int i=>gd (qr5 i) (ok (.str (toString i:Str).cps.toList))
  |_=>.bad
 |_,_=>.bad
def idxD (y:D):List D→Option Nat
 |[]=>none
 |x::xs=>if x.eqb y=true then some 0 else (idxD y xs).map (· + 1)
def qpS (xs:List D) (y:D):RE ER:=
 if (y.fit 0&&D.fits xs 0)=true then (match idxD y xs with
  |some j=>ok (.int j)
  |none=>.bad) else .bad
def qum (x:Int):List Int→List Int
 |[]=>[x]
 |y::ys=>if x<y then x::y::ys else if x=y then y::ys else y::qum x ys
def qtA:List Int→List Int
 |[]=>[]
 |x::xs=>qum x (qtA xs)
def qt5 (x:D):RE ER:=match x with
 |.lst xs=>match qb0 xs with
  |some ns=>gd (Nat.ble ns.length 63) (.ok (.fre ((qtA ns).map D.int) true))
  |none=>.bad
 |_=>.bad
def qnD (x:D):RE ER:=match x with
 |.lst xs=>match qb0 xs with
  |some ns=>gd (leB ns.length) (.ok (.fre (ns.reverse.map D.int) true))
  |none=>.bad
 |_=>.bad
def qug (z:Int):List Int→Option Nat
 |[]=>none
 |s::ss=>if s=z then some 0 else (qug z ss).map (· + 1)
def qtg (z:List Nat):List (List Nat)→Option Nat
 |[]=>none
 |s::ss=>if s=z then some 0 else (qtg z ss).map (· + 1)
def quq (ss:List (List Nat)) (y:D):RE ER:=match y with
 |.str z=>(match qtg z ss with
  |some j=>ok (.int j)
  |none=>.bad)
 |_=>.bad
def qvk:D→Option (List (List Nat))
 |.tup xs=>qiE xs
 |_=>none
def qtP (xs:List D) (y:D):RE ER:=
 match qb0 xs with
 |some ns=>match y with
  |.int k=>ok (.int (ns.count k:Nat))
  |_=>.bad
 |none=>.bad
def qsK (s:List Nat) (y:D):RE ER:=
 match y with
 |.str t=>(match Builtin.Str.occurrences (qa8 s) (qa8 t) 0 s.length 1 with
  |j::_=>ok (.int (j:Nat))
  |[]=>.bad)
 |_=>.bad
def qo2 (ns:List Int):Nat:=(PyProof.Rows.firstMet (fun i=>ns.getD i 0) ns.length).length
@[simp] def qls (x:D):RE ER:=
 match x with
 |.lst xs=>match qb0 xs with
  |some ns=>gd (Nat.ble ns.length 1000) (ok (.int (qo2 ns)))
  |none=>.bad
 |_=>.bad
@[simp] def evM (m:Bme) (s:List Nat) (y:D):RE ER:=
 match m with
 |.split=>match y with
  |.str t=>gd (qs3 t.length s.length) (.ok (.fre ((Txt.split (qa8 s) (qa8 t)).map fun z=>.str z.cps.toList) true))
  |_=>.bad
 |.join=>match y with
  |.lst xs=>match qiE xs with
   |some ss=>gd (leB ((ss.map List.length).sum+ss.length*s.length)) (ok (.str (Txt.join (qa8 s) (ss.map qa8)).cps.toList))
   |none=>.bad
  |_=>.bad
 |.find=>match y with
  |.str t=>ok (.int (Txt.find (qa8 s) (qa8 t)))
  |_=>.bad
@[simp] def qrL (x:D) (t:Ty):RE ER:=
 match x,t with
 |.bl _,.bool=>ok (.bl true)
 |.bl _,.int=>ok (.bl true)
 |.int _,.int=>ok (.bl true)
 |.str _,.str=>ok (.bl true)
 |.lst _,.list=>ok (.bl true)
 |.tup _,.tuple=>ok (.bl true)
 |.ins _ _,_=>.bad
 |.exc _ _,_=>.bad
 |_,_=>ok (.bl false)
def qfx (lo c:Int) (n:Nat):List Int:=(List.range n).map fun(i:Nat)=>lo+(i:Int)*c
def inB (i:Int):Prop:=-(2 ^ 62)≤i∧i<2 ^ 62
instance (i:Int):Decidable (inB i):=by unfold inB;infer_instance
def qrG (i j c:Int):Nat:=(Builtin.Range.rangeSize i j c).toNat
def qqt (i:Int):Bool:=Nat.ble i.natAbs 4611686018427387903
def qlV (n:Int):Bool:=qqt n&&leB n.toNat
def qrK (i j:Int):Bool:=qqt i&&(qqt j&&leB (j - i).toNat)
def qs5 (i j c:Int):Bool:=nzB c&&(Nat.ble c.natAbs 1073741823&&(Builtin.Range.small i j c&&(nnB (Builtin.Range.rangeSize i j c)&&leB (qrG i j c))))
theorem qka {i:Int} (h:qqt i=true):inB i:=by
 unfold qqt at h
 rw[Nat.ble_eq] at h
 exact⟨by omega,by omega⟩
theorem qj7 {n:Int} (h:qlV n=true):inB n∧n.toNat≤LIM:=by
 unfold qlV at h
 rw[Bool.and_eq_true,qan] at h
 exact⟨qka h.1,h.2⟩
theorem qmo {i j:Int} (h:qrK i j=true):inB i∧inB j∧(j - i).toNat≤LIM:=by
 unfold qrK at h
 rw[Bool.and_eq_true,Bool.and_eq_true,qan] at h
 exact⟨qka h.1,qka h.2.1,h.2.2⟩
theorem qbl (i j c:Int):(qs5 i j c=true)=(c≠0∧c.natAbs<1073741824∧Builtin.Range.small i j c=true∧0≤Builtin.Range.rangeSize i j c∧qrG i j c≤LIM):=by
 unfold qs5
 rw[Bool.and_eq_true,Bool.and_eq_true,Bool.and_eq_true,Bool.and_eq_true,qbn,Nat.ble_eq,qbs,qan]
 exact propext ⟨fun h=>⟨h.1,by omega,h.2.2⟩,fun h=>⟨h.1,by omega,h.2.2⟩⟩
@[simp] def qem (es:List ER):RE (List Int):=
 match es with
 |[a]=>match a.d with
  |.int n=>gd (qlV n) (.ok (qfx 0 1 n.toNat))
  |_=>.bad
 |[a,b]=>match a.d,b.d with
  |.int i,.int j=>gd (qrK i j) (.ok (qfx i 1 (j - i).toNat))
  |_,_=>.bad
 |[a,b,c]=>match a.d,b.d,c.d with
  |.int i,.int j,.int c=>gd (qs5 i j c) (.ok (qfx i c (qrG i j c)))
  |_,_,_=>.bad
 |_=>.bad
structure Env where
 fn:List (Str × (List D→RE ER))
 gc:List (Str × D)
 mn:List Str
 mt:Nat→Nat→Option (List D→RE ER)
 fs:List Str
 fi:Nat→Nat→Option Nat
 nw:List (Nat × (List D→RE (List D))):=[]
 ck:List (Nat→Option Bool):=[]
 ik:List (Nat→Option Bool):=[]
 xk:List Nat:=[]
 dc:List (Str × List (List Nat × Option D)):=[]
def qay:List (Nat × Nat × (List D→RE ER))→Nat→Nat→Option (List D→RE ER)
 |[],_,_=>none
 |t::r,c,m=>if t.1=c then (if t.2.1=m then some t.2.2 else qay r c m) else qay r c m
def qax:List (Nat × Nat × Nat)→Nat→Nat→Option Nat
 |[],_,_=>none
 |t::r,c,m=>if t.1=c then (if t.2.1=m then some t.2.2 else qax r c m) else qax r c m
@[simp] def qdH (k:Bool) (er:ER):RE ER:=
 match k with
 |false=>match er with
  |.brw _ _=>.bad
  |.val d b=>.ok (.val d (b||d.flat))
  |.fre ds b=>.ok (.fre ds b)
 |true=>match er with
  |.val d b=>if (b||d.flat)=true then .ok (.val d true) else .bad
  |.fre ds b=>if (b||D.flats ds)=true then .ok (.fre ds true) else .bad
  |.brw _ _=>.bad
def qrp:List ER→Option (List (List Int))
 |[]=>some []
 |.brw ds _::es=>match qb0 ds with
  |some ns=>(qrp es).map (ns :: ·)
  |none=>none
 |.val _ _::es=>qrp es
 |.fre _ _::es=>qrp es
mutual
def qpz (os:List (List Int)):D→Bool
 |.lst ds=>match qb0 ds with
  |some ns=>!decide (ns∈os)
  |none=>false
 |.tup ds=>qn8 os ds
 |.ins _ _=>false
 |.exc _ _=>false
 |.non=>true
 |.bl _=>true
 |.int _=>true
 |.str _=>true
def qn8 (os:List (List Int)):List D→Bool
 |[]=>true
 |d::ds=>qpz os d&&qn8 os ds
end
def qvQ (os:List (List Int)) (er:ER):RE ER:=match er with
 |.val d _=>if qpz os d=true then .ok (.val d d.flat) else .bad
 |_=>.bad
@[simp] def wipeS (ρ:List Sl):List Nat→List Sl
 |[]=>ρ
 |v::vs=>(wipeS ρ vs).set v .non
@[simp] def ql0:List Nat→List D→Bool→List Sl→Option (List Sl)
 |[],[],_,ρ=>some ρ
 |i::is,d::ds,b,ρ=>ql0 is ds b (ρ.set i (.val d (b||d.flat)))
 |_,_,_,_=>none
@[simp] def qe7 (tg:List Nat) (x:D) (b:Bool) (ρ:List Sl):Option (List Sl):=
 match tg with
 |[i]=>some (ρ.set i (.val x (b||x.flat)))
 |tg=>match x with
  |.tup ds=>ql0 tg ds b ρ
  |_=>none
def lcl (f:D→RE (Option (D × Bool))):List D→RE (List D × Bool)
 |[]=>.ok ([],true)
 |x::xs=>(f x).bind fun r=>(lcl f xs).bind fun q=>match r with
  |none=>.ok q
  |some y=>.ok (y.1::q.1,y.2&&q.2)
@[simp] def noX {α:Type}:RE α→RE α
 |.exc _ _=>.bad
 |r=>r
@[simp] def dis (f:List D→Bool→ER) (es:List ER):RE ER:=if (es.all ER.isV)=true then .ok (f (es.map ER.d) (es.all ER.b)) else .bad
structure Wk where
 xs:List D
 b:Bool
 own:Bool
@[simp] def qjy (e:ER):RE Wk:=
 match e.d with
 |.lst xs=>.ok ⟨xs,e.b,e.isB⟩
 |.tup xs=>.ok ⟨xs,e.b,false⟩
 |.str s=>.ok ⟨s.map fun c=>.str [c],true,false⟩
 |_=>.bad
def qt3:List (Option (Nat→Option Bool))→Nat→Option Bool
 |[],_=>some false
 |none::_,_=>none
 |some g::r,c=>match g c with
  |some true=>some true
  |some false=>qt3 r c
  |none=>none
def quf (cks:List (Option (Nat→Option Bool))) (x:D):RE ER:=match x with
 |.exc c []=>match qt3 cks c with
  |some b=>ok (.bl b)
  |none=>.bad
 |_=>.bad
def quI (ck ik:Option (Nat→Option Bool)) (x:D):RE ER:=
 match x with
 |.exc c fs=>match fs with
  |[]=>match ck with
   |some g=>match g c with
    |some b=>ok (.bl b)
    |none=>.bad
   |none=>.bad
  |_=>.bad
 |.ins c _=>match ik with
  |some g=>match g c with
   |some b=>ok (.bl b)
   |none=>.bad
  |none=>.bad
 |_=>.bad
def pkS:Sl→Sl
 |.row dss=>.val (.lst (dss.map D.lst)) true
 |s=>s
def frz (z:Bool) (ρ:List Sl):List Sl:=if z=true then ρ.map pkS else ρ
def pkR:RE ER→RE ER
 |.bad=>.bad
 |.exc c fs=>if D.flats fs=true then .exc c fs else .bad
 |.ok er=>match er with
  |.val d _=>if d.flat=true then .ok (.val d true) else .bad
  |.fre ds _=>if D.flats ds=true then .ok (.fre ds true) else .bad
  |.brw _ _=>.bad
def qn0 {α:Type} (k:Int):List (Int × α)→Option α
 |[]=>none
 |e::r=>if e.1=k then some e.2 else qn0 k r
def qtQ {α:Type} (k:Int) (x:α) (m:List (Int × α)):List (Int × α):=m.map fun e=>if e.1=k then (e.1,x) else e
def qtH {α:Type} (k:Int) (x:α) (m:List (Int × α)):List (Int × α):=if (qn0 k m).isSome=true then qtQ k x m else m++[(k,x)]
def quj (m:List (Int × D)) (n:Bool) (x:D):RE ER:=match x with
 |.int k=>ok (.bl ((qn0 k m).isSome == n))
 |_=>.bad
def qvj (m:List (Int × D)) (b:Bool) (x:D):RE ER:=match x with
 |.int k=>match qn0 k m with
  |some d=>.ok (.val d (b||d.flat))
  |none=>.bad
 |_=>.bad
def quC (t:List (List Nat × Option D)) (n:Bool) (x:D):RE ER:=
 match x with
 |.str s=>match t.lookup s with
  |some o=>ok (.bl (o.isSome == n))
  |none=>.bad
 |_=>.bad
def quO (t:List (List Nat × Option D)) (x:D):RE ER:=
 match x with
 |.str s=>match t.lookup s with
  |some (some d)=>ok d
  |_=>.bad
 |_=>.bad
@[simp] def D.isNon:D→Bool
 |.non=>true
 |_=>false
mutual
@[simp] def ev (Γ:Env):Ex→List Sl→RE ER
 |.nev,_=>.bad
 |.var i,ρ=>match ρ[i]? with
  |some (.val d b)=>.ok (.val d b)
  |some (.own ds b)=>.ok (.brw ds b)
  |some (.fxd d _)=>.ok (.val d false)
  |_=>.bad
 |.cint i,_=>ok (.int i)
 |.cbl b,_=>ok (.bl b)
 |.cstr s,_=>ok (.str s)
 |.glo k,_=>match Γ.gc[k]? with
  |some c=>.ok (.val c.2 true)
  |none=>.bad
 |.bin o a b,ρ=>(ev Γ a ρ).bind fun x=>(ev Γ b ρ).bind fun y=>evB o x.d y.d (x.b&&y.b)
 |.cmp o a b,ρ=>(ev Γ a ρ).bind fun x=>(ev Γ b ρ).bind fun y=>(evC o x.d y.d).bind fun c=>ok (.bl c)
 |.chn o p a b c,ρ=>(ev Γ a ρ).bind fun x=>(ev Γ b ρ).bind fun y=>(evC o x.d y.d).bind fun k=>if k=true then (ev Γ c ρ).bind fun z=>(evC p y.d z.d).bind fun k'=>ok (.bl k') else ok (.bl false)
 |.bop c es,ρ=>qnK Γ c es ρ
 |.bnot a,ρ=>(ev Γ a ρ).bind fun x=>(qgI x.d).bind fun k=>ok (.bl (!k))
 |.neg a,ρ=>(ev Γ a ρ).bind fun x=>match x.d with
  |.int i=>ok (.int (-i))
  |_=>.bad
 |.tup es,ρ=>(evs Γ es ρ).bind fun r=>dis (fun ds b=>.val (.tup ds) b) r
 |.lst es,ρ=>(evs Γ es ρ).bind fun r=>dis .fre r
 |.idx a i,ρ=>(ev Γ a ρ).bind fun x=>(ev Γ i ρ).bind fun y=>qpX x.d y.d x.b
 |.slc a lo hi,ρ=>(ev Γ a ρ).bind fun x=>(evO Γ lo ρ).bind fun l=>(evO Γ hi ρ).bind fun h=>qtl x.d l h x.b
 |.call f es,ρ=>match Γ.fn[f]? with
  |some g=>(evs Γ es ρ).bind fun r=>(g.2 (r.map ER.d)).bind (qdH (!r.all ER.isV))
  |none=>.bad
 |.pri p es,ρ=>(evs Γ es ρ).bind fun r=>evP p r
 |.lrng es,ρ=>(evs Γ es ρ).bind fun r=>(qem r).bind fun ns=>.ok (.fre (ns.map D.int) true)
 |.mth m o es,ρ=>(ev Γ o ρ).bind fun x=>match x.d with
  |.ins c fs=>match Γ.mt c m with
   |some g=>(evs Γ es ρ).bind fun r=>(g (.ins c fs::r.map ER.d)).bind (qdH (!r.all ER.isV))
   |none=>.bad
  |_=>.bad
 |.bm1 m o a,ρ=>(ev Γ o ρ).bind fun x=>match x.d with
  |.str s=>(ev Γ a ρ).bind fun y=>evM m s y.d
  |_=>.bad
 |.fld o f,ρ=>(ev Γ o ρ).bind fun x=>match x.d with
  |.ins c fs=>match Γ.fi c f with
   |some k=>match fs[k]? with
    |some d=>.ok (.val d d.flat)
    |none=>.bad
   |none=>.bad
  |_=>.bad
 |.isi a t,ρ=>(ev Γ a ρ).bind fun x=>qrL x.d t
 |.lc own it tg cnd e,ρ=>(evI Γ it ρ).bind fun xs=>gd (leB xs.xs.length) ((lcl (fun x=>match qe7 tg x xs.b (wipeS ρ own) with
   |some ρ'=>noX ((qhM Γ true cnd ρ').bind fun k=>if k=true then (ev Γ e ρ').bind fun y=>match y with
    |.brw _ _=>.bad
    |y=>.ok (some (y.d,y.b)) else .ok none)
   |none=>.bad) xs.xs).bind fun r=>.ok (.fre r.1 r.2))
 |.lset a,ρ=>(ev Γ a ρ).bind fun x=>qls x.d
 |.new k es,ρ=>match Γ.nw[k]? with
  |some g=>(evs Γ es ρ).bind fun r=>(g.2 (r.map ER.d)).bind fun fs=>.ok (.val (.ins g.1 fs) true)
  |none=>.bad
 |.sfd i f,ρ=>match ρ[i]? with
  |some (.slf c fs)=>match Γ.fi c f with
   |some k=>match fs[k]? with
    |some d=>.ok (.val d true)
    |none=>.bad
   |none=>.bad
  |_=>.bad
 |.lrev a,ρ=>(ev Γ a ρ).bind fun x=>qnD x.d
 |.pk e,ρ=>pkR (ev Γ e (ρ.map pkS))
@[simp] def evs (Γ:Env):Exs→List Sl→RE (List ER)
 |.nil,_=>.ok []
 |.cons e es,ρ=>(ev Γ e ρ).bind fun x=>(evs Γ es ρ).bind fun r=>.ok (x.frz::r)
@[simp] def evO (Γ:Env):Exs→List Sl→RE (Option Int)
 |.nil,_=>.ok none
 |.cons e es,ρ=>(ev Γ e ρ).bind fun x=>match x.d with
  |.int i=>.ok (some i)
  |_=>.bad
@[simp] def evT (Γ:Env):Te→List Sl→RE Bool
 |.bop c es,ρ=>qhM Γ c es ρ
 |.not a,ρ=>(evT Γ a ρ).bind fun k=>.ok (!k)
 |.val e,ρ=>(ev Γ e ρ).bind fun x=>qgI x.d
@[simp] def qhM (Γ:Env) (c:Bool):Tes→List Sl→RE Bool
 |.nil,_=>.ok c
 |.cons e es,ρ=>(evT Γ e ρ).bind fun k=>if k=c then qhM Γ c es ρ else .ok k
@[simp] def qnK (Γ:Env) (c:Bool):Exs→List Sl→RE ER
 |.nil,_=>ok (.bl c)
 |.cons e es,ρ=>(ev Γ e ρ).bind fun x=>match x.d with
  |.bl k=>if k=c then qnK Γ c es ρ else ok (.bl k)
  |_=>.bad
@[simp] def evI (Γ:Env):Itx→List Sl→RE Wk
 |.any e,ρ=>(ev Γ e ρ).bind qjy
 |.rng es,ρ=>(evs Γ es ρ).bind fun r=>(qem r).bind fun ns=>.ok ⟨ns.map D.int,true,false⟩
 |.zp a b,ρ=>(ev Γ a ρ).bind fun x=>(ev Γ b ρ).bind fun y=>match x.d,y.d with
  |.lst xs,.lst ys=>.ok ⟨List.zipWith (fun u v=>.tup [u,v]) xs ys,x.b&&y.b,x.isB||y.isB⟩
  |_,_=>.bad
 |.en a,ρ=>(ev Γ a ρ).bind fun x=>match x.d with
  |.lst xs=>.ok ⟨xs.zipIdx.map fun p=>.tup [.int p.2,p.1],x.b,x.isB⟩
  |_=>.bad
 |.rv a,ρ=>(ev Γ a ρ).bind fun x=>match x.d with
  |.lst xs=>.ok ⟨xs.reverse,x.b,x.isB⟩
  |_=>.bad
 |.rvr a,ρ=>(ev Γ a ρ).bind fun x=>match x.d with
  |.int n=>gd (qlV n) (.ok ⟨(qfx (0+(((n - 0).toNat:Nat):Int) - 1) (-1) (n - 0).toNat).map D.int,true,false⟩)
  |_=>.bad
end
inductive Pth where
 |var (j:Nat)
 |ix (p:Pth) (k:Nat)
inductive Ch1 where
 |clr (p:Pth)
 |app (p:Pth) (e:Ex)
 |put (p:Pth) (k:Nat) (e:Ex)
inductive Ch where
 |nil
 |one (c:Ch1) (r:Ch)
 |wlk (l:Nat) (p:Pth) (b:List Ch1) (r:Ch)
 |ifs (j:Nat) (b r:Ch)
mutual
def qeT:Ex→Bool
 |.cint _=>true
 |.cstr _=>true
 |.cbl _=>true
 |.tup es=>qnG es
 |.lst es=>qnG es
 |_=>false
def qnG:Exs→Bool
 |.nil=>true
 |.cons e es=>qeT e&&qnG es
end
@[simp] def D.isRef:D→Bool
 |.lst _=>true
 |.tup _=>true
 |.ins _ _=>true
 |.exc _ _=>true
 |_=>false
def clD (ds:List D):Nat:=if ds.isEmpty then 0 else if ds.any D.isRef then 2 else 1
abbrev Zs:=List Nat × Nat
def qoO (τ:List (Nat × D)) (Z:Zs):Pth→Option D
 |.var j=>τ.lookup j
 |.ix p k=>match qoO τ Z p with
  |some (.tup ds)=>ds[k]?
  |some (.lst ds)=>if clD ds∈Z.1 then none else ds[k]?
  |_=>none
def qlZ (τ:List (Nat × D)) (Z:Zs):Ch1→Option Zs
 |.clr p=>match qoO τ Z p with
  |some (.lst ds)=>some (clD ds::Z.1,Z.2)
  |_=>none
 |.app p e=>match qoO τ Z p with
  |some (.lst ds)=>if (qeT e&&leB (ds.length+(Z.2+1)))=true then some (clD ds::Z.1,Z.2+1) else none
  |_=>none
 |.put p k e=>match qoO τ Z p with
  |some (.lst ds)=>if clD ds∈Z.1 then none else if (qeT e&&decide (k<ds.length))=true then some (clD ds::Z.1,Z.2) else none
  |_=>none
def qns (τ:List (Nat × D)):List Ch1→Zs→Option Zs
 |[],Z=>some Z
 |c::cs,Z=>(qlZ τ Z c).bind (qns τ cs)
def qoA (f:D→Zs→Option Zs):List D→Zs→Option Zs
 |[],Z=>some Z
 |d::ds,Z=>(f d Z).bind (qoA f ds)
def drp (l:Nat) (τ:List (Nat × D)):List (Nat × D):=τ.filter fun e=>e.1 != l
def qnL (ls:List Nat) (τ:List (Nat × D)):List (Nat × D):=τ.filter fun e=>!ls.contains e.1
def Ch.tgs:Ch→List Nat
 |.nil=>[]
 |.one _ r=>r.tgs
 |.wlk l _ _ r=>l::r.tgs
 |.ifs _ b r=>b.tgs++r.tgs
def chg:Ch→List (Nat × D)→Zs→Option Zs
 |.nil,_,Z=>some Z
 |.one c r,τ,Z=>(qlZ τ Z c).bind (chg r τ)
 |.wlk l p b r,τ,Z=>match qoO τ Z p with
  |some (.lst ds)=>(qoA (fun d Z=>qns ((l,d)::drp l τ) b Z) ds Z).bind fun Z'=>if clD ds∈Z'.1 then none else chg r (drp l τ) Z'
  |_=>none
 |.ifs j b r,τ,Z=>match τ.lookup j with
  |some d=>if d.isNon=true then chg r (qnL b.tgs τ) Z else (chg b τ Z).bind (chg r (qnL b.tgs τ))
  |none=>none
def Ch1.len:List Ch1→Nat:=List.length
def Ch.len:Ch→Nat
 |.nil=>0
 |.one _ r=>r.len+1
 |.wlk _ _ _ r=>r.len+1
 |.ifs _ _ r=>r.len+1
def ent (k:Nat):Sl→Sl
 |.val d b=>if (b||d.flat)=true then .val d b else .fxd d k
 |.own ds b=>.own ds b
 |.fxd d _=>.fxd d k
 |_=>.non
def qjV:Nat→List Sl→List Sl
 |_,[]=>[]
 |k,q::qs=>ent k q::qjV (k+1) qs
def ext (k:Nat) (q:Sl):Sl→Sl
 |.val d b=>if (b||d.flat)=true then .val d b else .non
 |.own ds b=>if (b||D.flats ds)=true then .own ds b else .non
 |.fxd _ j=>if j=k then (match q with
  |.val d b=>.val d b
  |.fxd d m=>.fxd d m
  |_=>.non) else .non
 |_=>.non
def qjN (ρ:List Sl):Nat→List Sl→List Sl
 |_,[]=>[]
 |k,r::rs=>ext k (ρ[k]?.getD .non) r::qjN ρ (k+1) rs
def qlH:ER→Option D
 |.val d b=>if (b||d.flat)=true then some d else none
 |.fre ds b=>if (b||D.flats ds)=true then some (.lst ds) else none
 |.brw _ _=>none
mutual
def noK (k:Nat):D→Bool
 |.lst ds=>(clD ds != k)&&qrd k ds
 |.tup ds=>qrd k ds
 |_=>true
def qrd (k:Nat):List D→Bool
 |[]=>true
 |d::ds=>noK k d&&qrd k ds
end
def quV:ER→Option (List D × List D)
 |.val (.tup [.lst ds,.lst es]) true=>if (D.flats ds&&(clD ds != clD es)&&qrd (clD es) es)=true then some (ds,es) else none
 |_=>none
inductive Tr where
 |ex (e:Ex)
 |as (j:Nat) (e:Ex)
 |iff (t:Te) (a b:Tr)
mutual
inductive Sm where
 |nev
 |rse (k:Nat)
 |asg (i:Nat) (e:Ex)
 |own (i:Nat) (e:Ex)
 |put (i:Nat) (ix e:Ex)
 |app (i:Nat) (e:Ex)
 |clr (i:Nat)
 |expr (e:Ex)
 |ret (e:Ex)
 |retN
 |pas
 |brk
 |cnt
 |iff (c:Te) (a b:Sms)
 |for (it:Itx) (tg:List Nat) (b:Sms)
 |whl (c:Te) (b:Sms)
 |apop (i j:Nat) (ix:Ex)
 |fset (f:Nat) (e:Ex)
 |tapp (o e:Ex)
 |tclr (o:Ex)
 |row (i:Nat) (es:Exs)
 |rapp (i k:Nat) (e:Ex)
 |rclr (i k:Nat)
 |rput (z:Bool) (i k:Nat) (ix e:Ex)
inductive Sms where
 |nil
 |cons (s:Sm) (ss:Sms)
 |frz (i:Nat) (ss:Sms)
 |hav (i f:Nat) (es:Exs) (rd:Sms) (cs:Ch) (ss:Sms)
end
inductive Out where
 |bad | nx (ρ:List Sl) | brk (ρ:List Sl) | cnt (ρ:List Sl) | ret (er:ER) | exc (c:Nat) (fs:List D)
def RE.out {α:Type}:RE α→(α→Out)→Out
 |.bad,_=>.bad
 |.ok a,f=>f a
 |.exc c fs,_=>.exc c fs
@[simp] theorem RE.out_ok {α:Type} (a:α) (f:α→Out):(RE.ok a).out f=f a:=rfl
@[simp] theorem RE.out_bad {α:Type} (f:α→Out):(RE.bad:RE α).out f=.bad:=rfl
@[simp] theorem RE.out_exc {α:Type} (c:Nat) (fs:List D) (f:α→Out):(RE.exc c fs:RE α).out f=.exc c fs:=rfl
def gdO (b:Bool) (o:Out):Out:=match b with
 |true=>o
 |false=>.bad
@[simp] theorem qdg (o:Out):gdO true o=o:=rfl
theorem qa2 (b:Bool) (o:Out):gdO b o=if b=true then o else .bad:=by cases b<;>rfl
def Out.seq:Out→(List Sl→Out)→Out
 |.nx ρ,f=>f ρ
 |o,_=>o
@[simp] theorem Out.seq_nx (ρ:List Sl) (f:List Sl→Out):(Out.nx ρ).seq f=f ρ:=rfl
@[simp] theorem Out.seq_ret (e:ER) (f:List Sl→Out):(Out.ret e).seq f=.ret e:=rfl
@[simp] theorem Out.seq_brk (ρ:List Sl) (f:List Sl→Out):(Out.brk ρ).seq f=.brk ρ:=rfl
@[simp] theorem Out.seq_cnt (ρ:List Sl) (f:List Sl→Out):(Out.cnt ρ).seq f=.cnt ρ:=rfl
@[simp] theorem Out.seq_bad (f:List Sl→Out):Out.bad.seq f=.bad:=rfl
@[simp] theorem Out.seq_exc (c:Nat) (fs:List D) (f:List Sl→Out):(Out.exc c fs).seq f=.exc c fs:=rfl
def qfq (f:D→List Sl→Out):List D→List Sl→Out
 |[],ρ=>.nx ρ
 |x::xs,ρ=>match f x ρ with
  |.nx ρ'=>qfq f xs ρ'
  |.cnt ρ'=>qfq f xs ρ'
  |.brk ρ'=>.nx ρ'
  |o=>o
def qfW (c:List Sl→RE Bool) (f:List Sl→Out):Nat→List Sl→Out
 |0,_=>.bad
 |n+1,ρ=>(c ρ).out fun k=>if k=true then (match f ρ with
  |.nx ρ'=>qfW c f n ρ'
  |.cnt ρ'=>qfW c f n ρ'
  |.brk ρ'=>.nx ρ'
  |o=>o) else .nx ρ
def qsm:Nat:=1000000000
@[simp] def qtM:ER→ER
 |.brw ds b=>.fre ds b
 |e=>e
def qc1 (ρ:List Sl) (i:Nat) (f:List D→Bool→Out):Out:=
 match ρ[i]? with
 |some (.own ds b)=>f ds b
 |_=>.bad
def qvh (ρ:List Sl) (i:Nat) (f:List (Int × D)→Bool→Out):Out:=
 match ρ[i]? with
 |some (.dct m b)=>f m b
 |_=>.bad
def qfV (ρ:List Sl) (i k:Nat) (f:List (List D)→List D→Out):Out:=
 match ρ[i]? with
 |some (.row dss)=>match dss[k]? with
  |some ds=>f dss ds
  |none=>.bad
 |_=>.bad
def evF (Γ:Env):Exs→List Sl→RE (List (List D))
 |.nil,_=>.ok []
 |.cons e es,ρ=>(ev Γ e ρ).bind fun x=>match x with
  |.fre ds _=>if D.flats ds=true then (evF Γ es ρ).bind fun r=>.ok (ds::r) else .bad
  |_=>.bad
def quQ (ρ:List Sl) (i:Nat) (f:D→Bool→Out):Out:=
 match ρ[i]? with
 |some (.val d b)=>f d b
 |_=>.bad
@[simp] def held (er:ER) (f:D→Bool→Out):Out:=
 match er with
 |.brw _ _=>.bad
 |.val d b=>f d b
 |.fre ds b=>f (.lst ds) b
def onB (o:Option (List Sl)) (k:List Sl→Out):Out:=
 match o with
 |some ρ=>k ρ
 |none=>.bad
@[simp] def heldF (er:ER) (f:D→Out):Out:=
 match er with
 |.brw _ _=>.bad
 |.val d b=>gdO (b||d.flat) (f d)
 |.fre ds b=>gdO (b||D.flats ds) (f (.lst ds))
def qoq:List Sl→Bool
 |[]=>true
 |.slf _ _::_=>false
 |_::ρ=>qoq ρ
def qoH (ρ:List Sl) (f:Nat→List D→List Sl→Out):Out:=
 match ρ with
 |.slf c fs::r=>if qoq r=true then f c fs r else .bad
 |_=>.bad
@[simp] theorem qob (ρ:List Sl) (k:List Sl→Out):onB (some ρ) k=k ρ:=rfl
@[simp] theorem qs7 (k:List Sl→Out):onB none k=.bad:=rfl
@[simp] def qtn:List Nat→List ER→List Sl→Out
 |[],[],ρ=>.nx ρ
 |i::tg,e::es,ρ=>held e fun d b=>qtn tg es (ρ.set i (.val d b))
 |_,_,_=>.bad
def Out.hv (o:Out) (ρ:List Sl) (i:Nat) (d:D) (cs:Ch) (f:List Sl→Out):Out:=
 match o with
 |.nx ρ'=>(match ρ'[i]? with
  |some (.fxd _ k)=>gdO (k == i&&cs.tgs.all fun l=>Nat.blt l ρ'.length) (match chg cs [(i,d)] ([],0) with
   |some _=>f (wipeS (qjN (ρ.set i .non) 0 ρ') cs.tgs)
   |none=>.bad)
  |_=>.bad)
 |.ret er=>(match qlH er with
  |some _=>.ret er
  |none=>.bad)
 |.exc c fs=>.exc c fs
 |_=>.bad
def trB (Γ:Env):Tr→List Sl→RE (List Sl)
 |.ex e,ρ=>(ev Γ e ρ).bind fun _=>.ok ρ
 |.as j e,ρ=>(ev Γ e ρ).bind fun x=>match x with
  |.brw _ _=>.bad
  |.val d b=>.ok (ρ.set j (.val d b))
  |.fre ds b=>.ok (ρ.set j (.val (.lst ds) b))
 |.iff t a b,ρ=>(evT Γ t ρ).bind fun k=>if k=true then trB Γ a ρ else trB Γ b ρ
def trX (g:Option (Nat→Option Bool)) (i j:Nat) (ρ:List Sl):RE (List Sl)→Out
 |.ok ρ'=>.nx ρ'
 |.bad=>.bad
 |.exc c fs=>match g with
  |some g=>match g c with
   |some true=>if i=j then .bad else (match fs with
    |[]=>.nx ((ρ.set j (.val (.exc c []) true)).set i .non)
    |_=>.bad)
   |some false=>.exc c fs
   |none=>.bad
  |none=>.bad
mutual
@[simp] def run (Γ:Env):Sm→List Sl→Out
 |.nev,_=>.bad
 |.rse k,_=>match Γ.xk[k]? with
  |some c=>.exc c []
  |none=>.bad
 |.asg i e,ρ=>(ev Γ e ρ).out fun x=>held x fun d b=>.nx (ρ.set i (.val d b))
 |.own i e,ρ=>(ev Γ e ρ).out fun x=>match x with
  |.fre ds b=>.nx (ρ.set i (.own ds b))
  |.val .non _=>.nx (ρ.set i (.val .non true))
  |_=>.bad
 |.put i ix e,ρ=>(ev Γ e ρ).out fun x=>held x fun d b=>qc1 ρ i fun ds c=>(ev Γ ix ρ).out fun k=>match k.d with
  |.int k=>match ixN ds.length k with
   |some j=>.nx (ρ.set i (.own (ds.set j d) (b&&c)))
   |none=>.bad
  |_=>.bad
 |.app i e,ρ=>qc1 ρ i fun ds c=>(ev Γ e ρ).out fun x=>held x fun d b=>gdO (leB (ds.length+1)) (.nx (ρ.set i (.own (ds++[d]) (b&&c))))
 |.clr i,ρ=>qc1 ρ i fun _ _=>.nx (ρ.set i (.own [] true))
 |.expr e,ρ=>(ev Γ e ρ).out fun _=>.nx ρ
 |.ret e,ρ=>(ev Γ e ρ).out fun x=>.ret (qtM x)
 |.retN,_=>.ret (.val .non true)
 |.pas,ρ=>.nx ρ
 |.brk,ρ=>.brk ρ
 |.cnt,ρ=>.cnt ρ
 |.iff c a b,ρ=>(evT Γ c ρ).out fun k=>if k=true then qam Γ a ρ else qam Γ b ρ
 |.for it tg b,ρ=>(evI Γ it ρ).out fun w=>if w.own=true then .bad else qfq (fun x ρ=>onB (qe7 tg x w.b ρ) fun ρ'=>qam Γ b ρ') w.xs ρ
 |.apop i j ix,ρ=>if i=j then .bad else qc1 ρ i fun ds c=>qc1 ρ j fun es c2=>(ev Γ ix ρ).out fun k=>match k.d with
  |.int k=>match ixN es.length k with
   |some m=>match es[m]? with
    |some d=>gdO (leB es.length) (gdO (leB (ds.length+1)) (.nx ((ρ.set j (.own (es.eraseIdx m) c2)).set i (.own (ds++[d]) (c2&&c)))))
    |none=>.bad
   |none=>.bad
  |_=>.bad
 |.fset f e,ρ=>(ev Γ e ρ).out fun x=>heldF x fun d=>qoH ρ fun c fs r=>match Γ.fi c f with
  |some k=>if k=fs.length then gdO (Nat.ble k 900) (.nx (.slf c (fs++[d])::r)) else .bad
  |none=>.bad
 |.row i es,ρ=>(evF Γ es ρ).out fun dss=>gdO (leB dss.length) (.nx (ρ.set i (.row dss)))
 |.rapp i k e,ρ=>qfV ρ i k fun dss ds=>(ev Γ e ρ).out fun x=>held x fun d _=>gdO (d.flat&&leB (ds.length+1)) (.nx (ρ.set i (.row (dss.set k (ds++[d])))))
 |.rclr i k,ρ=>qfV ρ i k fun dss _=>.nx (ρ.set i (.row (dss.set k [])))
 |.rput z i k ix e,ρ=>(ev Γ e ρ).out fun x=>held x fun d _=>qfV ρ i k fun dss ds=>(ev Γ ix ρ).out fun m=>match m.d with
  |.int m=>match ixN ds.length m with
   |some j=>gdO d.flat (.nx (frz z (ρ.set i (.row (dss.set k (ds.set j d))))))
   |none=>.bad
  |_=>.bad
 |.tapp o e,ρ=>(ev Γ o ρ).out fun x=>match x with
  |.fre ds _=>(ev Γ e ρ).out fun y=>held y fun _ _=>gdO (leB (ds.length+1)) (.nx ρ)
  |_=>.bad
 |.tclr o,ρ=>(ev Γ o ρ).out fun x=>match x with
  |.fre _ _=>.nx ρ
  |_=>.bad
 |.whl c b,ρ=>qfW (fun ρ=>evT Γ c ρ) (fun ρ=>qam Γ b ρ) qsm ρ
@[simp] def qam (Γ:Env):Sms→List Sl→Out
 |.nil,ρ=>.nx ρ
 |.cons s ss,ρ=>(run Γ s ρ).seq fun ρ'=>qam Γ ss ρ'
 |.frz i ss,ρ=>qc1 ρ i fun ds b=>qam Γ ss (ρ.set i (.val (.lst ds) b))
 |.hav i f es rd cs ss,ρ=>match Γ.fn[f]? with
  |some g=>(evs Γ es ρ).out fun r=>(g.2 (r.map ER.d)).out fun er=>match qlH er with
   |some d=>gdO (Nat.blt i ρ.length) ((qam Γ rd ((qjV 0 ρ).set i (.fxd d i))).hv ρ i d cs fun ρ2=>qam Γ ss ρ2)
   |none=>.bad
  |none=>.bad
end
@[simp] def Out.fin:Out→RE ER
 |.ret er=>.ok er
 |.nx _=>ok .non
 |.exc c fs=>.exc c fs
 |_=>.bad
def qck (Γ:Env) (n m:Nat) (b:Sms) (ds:List D):RE ER:=
 if ds.length=n then (qam Γ b (ds.map (fun d=>Sl.val d d.flat)++List.replicate m .non)).fin else .bad
def qln (Γ:Env) (c nf n m:Nat) (b:Sms) (ds:List D):RE (List D):=
 if ds.length=n then (match qam Γ b (.slf c []::(ds.map (fun d=>Sl.val d d.flat)++List.replicate m .non)) with
  |.nx (.slf c' fs::_)=>if c'=c then (if fs.length=nf then .ok fs else .bad) else .bad
  |.exc c fs=>.exc c fs
  |_=>.bad) else .bad
def Sms.hd:Sms→Sm
 |.cons s _=>s
 |_=>.nev
def Sms.tl:Sms→Sms
 |.cons _ ss=>ss
 |.frz _ ss=>ss
 |.hav _ _ _ _ _ ss=>ss
 |.nil=>.nil
def Sms.len:Sms→Nat
 |.nil=>0
 |.cons _ ss=>ss.len+1
 |.frz _ ss=>ss.len
 |.hav _ _ _ rd cs ss=>rd.len+(cs.len+(ss.len+1))
def Sm.bd:Sm→Sms
 |.for _ _ b=>b
 |.whl _ b=>b
 |.iff _ a _=>a
 |_=>.nil
def Out.fst:Out→Option (Sl × Nat)
 |.nx (t::r)=>some (t,r.length)
 |_=>none
end Cm
namespace Cm
open PySem PySem.Spec PyProof.Rows L2
section
variable (C:Ctx)
def res {α:Type} (σ:L2.St) (P N H:Hp) (r:RE α) (K:α→Hp→Hp→Hp→Prop):Prop:=
 match r with
 |.bad=>False
 |.ok a=>∀P' N' H',Adv P N H P' N' H'→K a P' N' H'
 |.exc c fs=>∀d P' N' H',Adv P N H P' N' H'→ExR C P' N' H' fs d→C.W (.ref (C.G.ca c)) d σ H'
def kE (H:Hp) (Q:VK):ER→Hp→Hp→Hp→Prop:=fun er P' N' H'=>∀v,ERr C P' N' H' H er v→Q v H'
def tE (g:List Sl→RE ER):TE:=fun σ H Q=>∃ρ P N,SR C P N H ρ σ∧res C σ P N H (g ρ) (kE C H Q)
def tT (g:List Sl→RE Bool):TT:=fun σ H Q=>∃ρ P N,SR C P N H ρ σ∧res C σ P N H (g ρ) fun k _ _ H'=>Q k H'
def tA (g:List Sl→RE (List ER)):TA:=fun σ H Q=>∃ρ P N,SR C P N H ρ σ∧res C σ P N H (g ρ) fun es P' N' H'=>∀vs,ERs C P' N' H' H es vs→Q vs H'
def tO (g:List Sl→RE (Option Int)):TO:=fun σ H Q=>∃ρ P N,SR C P N H ρ σ∧res C σ P N H (g ρ) fun k _ _ H'=>Q k H'
end
section
variable {C:Ctx} {σ:L2.St} {P N H P1 N1 H1:Hp} {α β:Type} {K K':α→Hp→Hp→Hp→Prop}
theorem res.adv {r:RE α} (a:Adv P N H P1 N1 H1) (h:res C σ P N H r K):res C σ P1 N1 H1 r K:=by
 cases r with
 |bad=>exact h
 |ok x=>exact fun P' N' H' b=>h P' N' H' (a.trans b)
 |exc c fs=>exact fun d P' N' H' b=>h d P' N' H' (a.trans b)
theorem res.mono {r:RE α} (h:res C σ P N H r K) (f:∀a P' N' H',r=.ok a→Adv P N H P' N' H'→K a P' N' H'→K' a P' N' H'):res C σ P N H r K':=by
 cases r with
 |bad=>exact h
 |ok x=>exact fun P' N' H' b=>f _ _ _ _ rfl b (h P' N' H' b)
 |exc c fs=>exact h
theorem res.bind {r:RE α} {f:α→RE β} {K:β→Hp→Hp→Hp→Prop} (h:res C σ P N H (r.bind f) K):res C σ P N H r fun a P1 N1 H1=>res C σ P1 N1 H1 (f a) K:=by
 cases r with
 |bad=>exact h
 |ok x=>exact fun P' N' H' b=>res.adv b h
 |exc c fs=>exact h
theorem res.now {a:α} (r:Reg C P N H) (h:res C σ P N H (.ok a) K):K a P N H:=h _ _ _ (Adv.refl r.pH r.nH)
theorem res.val {H0:Hp} {Q:VK} {d:D} {b:Bool} {v:V} (r:Reg C P N H) (h:res C σ P N H (.ok (.val d b)) (kE C H0 Q)) (x:RepB C P N b d v):Q v H:=h _ _ _ (Adv.refl r.pH r.nH) v x
theorem res.fre {H0:Hp} {Q:VK} {ds:List D} {b:Bool} {xs:List V} {p:Addr} (r:Reg C P N H) (h:res C σ P N H (.ok (.fre ds b)) (kE C H0 Q)) (e:L2.Same H0 H) (x:RepsB C P N b ds xs) (hp:H p=none):Q (.ref p) (upd H p (.lst xs)):=
 h P N (upd H p (.lst xs)) ((Adv.refl r.pH r.nH).heap (qaI hp)) _ ⟨p,xs,rfl,upd_same,e.free hp,r.pH.free hp,r.nH.free hp,x⟩
theorem res.tup {H0:Hp} {Q:VK} {ds:List D} {b:Bool} {xs:List V} {p:Addr} (r:Reg C P N H) (h:res C σ P N H (.ok (.val (.tup ds) b)) (kE C H0 Q)) (x:RepsB C P N b ds xs) (hp:H p=none):Q (.ref p) (upd H p (.tup xs)):=
 h (upd P p (.tup xs)) N (upd H p (.tup xs)) ((Adv.refl r.pH r.nH).newP hp) _ ⟨p,xs,rfl,.inl (.inl upd_same),RepsB.adv (qaI (r.pH.free hp)) (L2.Same.refl _) x⟩
theorem ERw.int {i:Int} {b:Bool} {v:V} (h:ERw C P N H (.int i) b v):v=.int i:=h
theorem ERw.bl {i:Bool} {b:Bool} {v:V} (h:ERw C P N H (.bl i) b v):v=.bl i:=h
theorem ERw.str {s:List Nat} {b:Bool} {v:V} (h:ERw C P N H (.str s) b v):v=.str ⟨s.toArray⟩:=h
theorem ERw.lst {ds:List D} {b:Bool} {v:V} (h:ERw C P N H (.lst ds) b v):∃p xs,v=.ref p∧SqL C.G.K H p xs∧RepsB C P N b ds xs:=h
theorem ERw.tup {ds:List D} {b:Bool} {v:V} (r:Reg C P N H) (h:ERw C P N H (.tup ds) b v):∃p xs,v=.ref p∧SqT C.G.K H p xs∧RepsB C P N b ds xs:=by
 obtain⟨a,xs,e,h1,h2⟩:=h
 exact⟨a,xs,e,Same.seqT r.pH h1,h2⟩
theorem ERw.dp {d:D} {b:Bool} {v:V} {n:Nat} (r:Reg C P N H) (h:ERw C P N H d b v) (f:d.fit n=true):Dp C.G.K H v d.py:=by
 have hl:∀a xs,LNb C.G.K P N C.R b a xs→SqL C.G.K H a xs:=LNb.seq r.pH r.nH r.rH
 cases d with
 |lst ds =>
  obtain⟨p,xs,rfl,h1,h2⟩:=h
  simp only[D.fit,Bool.and_eq_true] at f
  exact .lst h1 (Reps.dp r.pH hl ds xs _ f.2 h2)
 |_=>exact Rep.dp r.pH hl _ v n f h
def qt7 (C:Ctx) (op:D→D→Bool→RE ER) (r:R2):Prop:=∀{P N H H0:Hp} {σ:L2.St} {x y:D} {b c:Bool} {v u:V} {Q:VK},Reg C P N H→ERw C P N H x b v→ERw C P N H y c u→L2.Same H0 H →
 res C σ P N H (op x y (b&&c)) (kE C H0 Q)→r v u H Q
theorem qsL {X:Cx} {op:Operator} {f:D→D→Bool→RE ER} {r:R2} {a b:Expr} {ga gb:List Sl→RE ER} {pos:Pos} (ho:OpR X (binaryOp op) r) (hf:qt7 C f r) (ha:PE X a (tE C ga)) (hb:PE X b (tE C gb)) :
  PE X (.BinOp a op b pos) (tE C fun ρ=>(ga ρ).bind fun x=>(gb ρ).bind fun y=>f x.d y.d (x.b&&y.b)):=by
 refine⟨fun pins s σ H Q I h=>(pe_op ho ha hb).run pins s σ H Q I ?_⟩
 obtain⟨ρ,P,N,S,h⟩:=h
 refine⟨ρ,P,N,S,h.bind.mono fun x P1 N1 H1 _ a1 h1 v rv=>⟨ρ,P1,N1,S.adv a1,h1.bind.mono fun y P2 N2 H2 _ a2 h2 u ru=>?_⟩⟩
 have r2:=(S.adv (a1.trans a2)).reg
 exact hf r2 ((rv.adv a2).w r2) (ru.w r2) (a1.trans a2).hh h2
def quR (C:Ctx) (op:D→D→RE Bool) (r:R2):Prop:=∀{P N H:Hp} {x y:D} {b c:Bool} {v u:V} {Q:VK} {k:Bool},Reg C P N H→ERw C P N H x b v→ERw C P N H y c u→op x y=.ok k→Q (.bl k) H→r v u H Q
def qgT {α:Type}:RE α→Prop
 |.exc _ _=>False
 |_=>True
theorem qnR (x y:D):qgT (qjH x y):=by
 unfold qjH
 split<;>first | trivial | (split<;>trivial)
theorem qni (x y:D):qgT (qmn x y):=by
 unfold qmn
 split
 ·split<;>trivial
 ·split<;>trivial
 ·split<;>trivial
 ·trivial
theorem qmV (o:Cop) (x y:D):qgT (evC o x y):=by
 cases o<;>simp only[evC]
 ·exact qnR x y
 ·have:=qnR x y
  cases h:qjH x y<;>simp_all[qgT]
 ·split<;>trivial
 ·split<;>trivial
 ·split<;>trivial
 ·split<;>trivial
 ·exact qni x y
 ·have:=qni x y
  cases h:qmn x y<;>simp_all[qgT]
end
end Cm
namespace Cm
open PySem PySem.Spec PyProof.Rows L2
section
variable {X:Cx}
def qst (K:PySem.W.Frag):R2:=fun x y H Q=>∃l b xs zs,x=.ref l∧y=.ref b∧SqL K H l xs∧SqL K H b zs∧xs.length+zs.length≤sizeLine∧∀p,H p=none→Q (.ref p) (upd H p (.lst (xs++zs)))
theorem qq4:OpR X (binaryOp .Add) (qst X.K):=by
 intro pins s σ H x y v u Q I rx ry hh
 obtain⟨l,b,xs,zs,rfl,rfl,hH,hB,hz,qq⟩:=hh
 cases rx
 cases ry
 obtain⟨its,r,p,_⟩:=I.list hH
 obtain⟨its2,r2,p2,_⟩:=I.list hB
 obtain⟨⟨cls,dd,data,sl⟩,n,ho,hc,hdd,hd⟩:=p
 obtain⟨⟨cls2,dd2,data2,sl2⟩,n2,ho2,hc2,hdd2,hd2⟩:=p2
 simp only at hc hd hdd hc2 hd2 hdd2
 subst hc hd hdd hc2 hd2 hdd2
 have l1:=r.length
 have l2:=r2.length
 refine concat_meets ⟨_,ho,rfl⟩ ⟨_,ho2,rfl⟩ noFill_list_add seq_list_add PySem.F.slot_list_add PySem.F.entry_list_add (PySem.F.args_list_add_2 _ _) (list_addW l b its.toArray its2.toArray n n2 _ _ sl sl2 (by simp only[List.size_toArray];omega)) ⟨ho,ho2,?_⟩
 have ea:its.toArray++its2.toArray=(its++its2).toArray:=by simp
 rw[ea]
 exact⟨.ref _,_,I.lnew (t':=s.toks) (r.append r2) (by rw[List.length_append];omega),rfl,qq _ I.fresh⟩
def qsw (K:PySem.W.Frag):R2:=fun x y H Q=>∃l k xs,x=.ref l∧y=.int k∧SqL K H l xs ∧ -(2 ^ 63)≤k∧k<2 ^ 63∧xs.length*k.toNat≤sizeLine ∧
 ∀p,H p=none→Q (.ref p) (upd H p (.lst (List.replicate k.toNat xs).flatten))
theorem qqH:OpR X (binaryOp .Mult) (qsw X.K):=by
 intro pins s σ H x y v u Q I rx ry hh
 obtain⟨l,k,xs,rfl,rfl,hH,h1,h2,hz,qq⟩:=hh
 cases rx
 obtain⟨t,rfl⟩:=ry
 obtain⟨its,r,p,_⟩:=I.list hH
 obtain⟨⟨cls,dd,data,sl⟩,n,ho,hc,hdd,hd⟩:=p
 simp only at hc hd hdd
 subst hc hd hdd
 have l1:=r.length
 have hsz:its.length*k.toNat≤16777216:=by rw[←l1];exact hz
 refine wpAny_binaryOp_repeat_ref (T:="list") (U:="int") (by decide) ⟨_,ho,rfl⟩ (fun s'=>typeIs_int s' k t) noFill_list_mul F.fills_int_mul F.slot_int_rmul repeat_list F.slot_int_index.lookup
  (call_meets F.slot_int_rmul (typeIs_int s k t) F.entry_int_rmul (F.args_int_rmul_2 _ _) (lm_int_rmul_list_any k t l its.toArray n _ sl)
   ⟨ho,rfl,⟨_,ho,rfl⟩,call_meets F.slot_list_mul ⟨_,ho,rfl⟩ F.entry_list_mul (F.args_list_mul_2 _ _)
    (lm_list_mul_any l its.toArray n _ sl k t (by simp[Builtin.List.listFitsIndex];omega) (by simp only[List.size_toArray];omega) (by simp[Builtin.List.listTooLong,sizeLine];omega))
    ⟨ho,?_⟩⟩)
 rw[listMul_foldl_if]
 exact⟨.ref _,_,I.lnew (t':=s.toks) (r.rep k.toNat) (by rw[PyProof.Rows.lm_len_rep_flat,Nat.mul_comm];exact hz),rfl,qq _ I.fresh⟩
theorem qlY {n:Nat} (h:n≤16777216):Builtin.Str.tooLong n=false:=by
 unfold Builtin.Str.tooLong
 exact decide_eq_false (show ¬n>16777216 by omega)
def rRepT:R2:=fun x y H Q=>∃(i:Str) (k:Int),x=.str i∧y=.int k∧1≤k∧k<2 ^ 63∧1≤i.length∧i.length*k.toNat≤sizeLine∧Q (.str ⟨(List.replicate k.toNat i.cps).foldl (· ++ ·) #[]⟩) H
theorem qq9:OpR X (binaryOp .Mult) rRepT:=by
 intro pins s σ H x y v u Q I rx ry h
 obtain⟨i,k,rfl,rfl,k1,k2,l1,hz,q⟩:=h
 obtain⟨t,rfl⟩:=rx
 obtain⟨t',rfl⟩:=ry
 have hz:i.length*k.toNat≤16777216:=hz
 have tl:Builtin.Str.tooLong (i.length*k.toNat)=false:=qlY hz
 refine P.mul_str (by rw[decide_eq_false (by omega),decide_eq_false (by omega)];rfl) (fun _ _ hb=>?_) (fun _ _=>tl) ?_
 ·have e:((i.length*k.toNat:Nat):Int)=(i.length:Int)*k:=by rw[Int.natCast_mul,Int.toNat_of_nonneg (by omega)]
  have h3:(2 ^ 63 - 1) / k<(i.length:Int):=hb
  have h4:(2:Int) ^ 63 - 1<(i.length:Int)*k:=(Int.ediv_lt_iff_lt_mul (by omega)).mp h3
  rw[←e] at h4
  omega
 ·rw[if_neg (by omega)]
  by_cases e:k=1
  ·subst e
   rw[if_pos (by simp)]
   have eq:(⟨(List.replicate (1:Int).toNat i.cps).foldl (· ++ ·) #[]⟩:Str)=i:=by
    show(⟨#[]++i.cps⟩:Str)=i
    rw[Array.empty_append]
   rw[eq] at q
   exact⟨.str i,H,I,⟨_,rfl⟩,q⟩
  ·rw[if_neg (by simp;omega)]
   exact⟨by
    have:=fits_reps (x:=i) (k:=k.toNat) tl
    exact this,⟨.str _,H,I.tok _,⟨_,rfl⟩,q⟩⟩
end
def quc:Bop→Operator
 |.add=>.Add | .sub=>.Sub | .mul=>.Mult | .fdv=>.FloorDiv | .mdl=>.Mod | .pow=>.Pow | .shl=>.LShift | .shr=>.RShift | .and=>.BitAnd | .or=>.BitOr
def qut (K:PySem.W.Frag):Bop→R2
 |.add=>fun x y H Q=>(rI0 (fun i j=>.int (i+j)) x y H Q∨(fun x y H Q=>∃i j,x=.str i∧y=.str j∧i.length+j.length≤sizeLine∧Q (.str (i++j)) H:R2) x y H Q)∨qst K x y H Q
 |.sub=>rI0 fun i j=>.int (i - j)
 |.mul=>fun x y H Q=>(rI CMul (fun i j=>.int (i*j)) x y H Q∨rI CMulX (fun i j=>.int (i*j)) x y H Q)∨(qsw K x y H Q∨rRepT x y H Q)
 |.fdv=>rI CDivN fun i j=>.int (i.fdiv j)
 |.mdl=>rI (fun _ j=>j≠0) fun i j=>.int (i.fmod j)
 |.pow=>rI CPow fun i j=>.int (i ^ j.toNat)
 |.shl=>rI CPow fun i j=>.int (i*2 ^ j.toNat)
 |.shr=>rI (fun _ j=>0≤j) fun i j=>.int (i / 2 ^ j.toNat)
 |.and=>rI0 fun i j=>.int (Builtin.bitAnd i j)
 |.or=>rI0 fun i j=>.int (Builtin.bitOr i j)
theorem qr8 {X:Cx}:∀o,OpR X (binaryOp (quc o)) (qut X.K o)
 |.add=>(op_add.or op_add_str).or qq4
 |.sub=>op_sub
 |.mul=>(op_mul.or op_mulX).or (qqH.or qq9)
 |.fdv=>op_fdivN
 |.mdl=>op_modN
 |.pow=>op_pow
 |.shl=>op_shl
 |.shr=>op_shr
 |.and=>op_and
 |.or=>op_or
theorem qqy (s t:List Nat):(⟨s.toArray⟩:Str)++(⟨t.toArray⟩:Str)=⟨(s++t).toArray⟩:=by
 show(⟨s.toArray++t.toArray⟩:Str)=⟨(s++t).toArray⟩
 simp
theorem qbB (s:List Nat):(⟨s.toArray⟩:Str).length=s.length:=by
 show s.toArray.size=s.length
 simp
theorem RepsB.rep {C:Ctx} {P N:Hp} {b:Bool} {ds:List D} {vs:List V} (h:RepsB C P N b ds vs):∀k,RepsB C P N b (List.replicate k ds).flatten (List.replicate k vs).flatten
 |0=>rfl
 |k+1=>by simpa[List.replicate_succ] using Reps.append h (RepsB.rep h k)
theorem qq2 (s:List Nat) (n:Nat):(⟨(List.replicate n (⟨s.toArray⟩:Str).cps).foldl (· ++ ·) #[]⟩:Str)=⟨((List.replicate n s).flatten).toArray⟩:=by
 have go:∀(n:Nat) (a:Array Nat),(List.replicate n s.toArray).foldl (· ++ ·) a=a++((List.replicate n s).flatten).toArray:=fun n=>by
  induction n with
  |zero=>intro a;simp
  |succ n ih=>intro a;rw[List.replicate_succ,List.foldl_cons,ih,List.replicate_succ,List.flatten_cons];simp
 show(⟨(List.replicate n s.toArray).foldl (· ++ ·) #[]⟩:Str)=_
 rw[go]
 simp
theorem qsD {C:Ctx} (o:Bop):qt7 C (evB o) (qut C.G.K o):=by
 intro P N H H0 σ x y b c v u Q r hx hy e h
 unfold evB at h
 simp only[qek,qa2,qan,qbi,qbn,qbj,qbs,qbg,qa5,qbl] at h
 cases o<;>simp only at h<;>split at h<;>try exact h.elim
 ·cases hx.int;cases hy.int
  exact .inl (.inl ⟨_,_,rfl,rfl,h.val r rfl⟩)
 ·cases hx.str;cases hy.str
  split at h
  ·rename_i hl
   refine .inl (.inr ⟨_,_,rfl,rfl,?_,?_⟩)
   ·rw[qbB,qbB];exact hl
   ·rw[qqy];exact h.val r rfl
  ·exact h.elim
 ·obtain⟨p,xs,rfl,h1,h2⟩:=hx.lst
  obtain⟨q,zs,rfl,h3,h4⟩:=hy.lst
  split at h
  ·rename_i hl
   refine .inr ⟨_,_,_,_,rfl,rfl,h1,h3,?_,fun p hp=>h.fre r e (Reps.append h2.and1 h4.and2) hp⟩
   rw[h2.length,h4.length];exact hl
  ·exact h.elim
 ·cases hx.int;cases hy.int
  exact⟨_,_,rfl,rfl,h.val r rfl⟩
 ·cases hx.int;cases hy.int
  split at h
  ·rename_i hl
   have hl:=qbh _ _ ▸ hl
   rcases hl with hl | hl
   ·exact .inl (.inl ⟨_,_,rfl,rfl,hl,h.val r rfl⟩)
   ·exact .inl (.inr ⟨_,_,rfl,rfl,hl,h.val r rfl⟩)
  ·exact h.elim
 ·obtain⟨p,xs,rfl,h1,h2⟩:=hx.lst
  cases hy.int
  split at h
  ·rename_i hl
   have hl:=qmS hl
   refine .inr (.inl ⟨_,_,_,rfl,rfl,h1,hl.1,hl.2.1,?_,fun p hp=>h.fre r e (RepsB.rep h2.and1 _) hp⟩)
   rw[h2.length];exact hl.2.2
  ·exact h.elim
 ·cases hx.str;cases hy.int
  split at h
  ·rename_i hl
   rw[Bool.and_eq_true,Bool.and_eq_true,Nat.ble_eq,Nat.ble_eq] at hl
   obtain⟨h1,h2,h3⟩:=hl
   have h1:=qmS h1
   refine .inr (.inr ⟨_,_,rfl,rfl,by omega,h1.2.1,by rw[qbB];exact h3,by rw[qbB];exact h1.2.2,?_⟩)
   rw[qq2]
   exact h.val r rfl
  ·exact h.elim
 ·cases hx.int;cases hy.int
  split at h
  ·rename_i hl
   exact⟨_,_,rfl,rfl,hl,h.val r rfl⟩
  ·exact h.elim
 ·cases hx.int;cases hy.int
  split at h
  ·rename_i hl
   exact⟨_,_,rfl,rfl,hl,h.val r rfl⟩
  ·exact h.elim
 ·cases hx.int;cases hy.int
  split at h
  ·rename_i hl
   exact⟨_,_,rfl,rfl,hl,h.val r rfl⟩
  ·exact h.elim
 ·cases hx.int;cases hy.int
  split at h
  ·rename_i hl
   exact⟨_,_,rfl,rfl,hl,h.val r rfl⟩
  ·exact h.elim
 ·cases hx.int;cases hy.int
  split at h
  ·rename_i hl
   exact⟨_,_,rfl,rfl,hl,h.val r rfl⟩
  ·exact h.elim
 ·cases hx.int;cases hy.int
  exact⟨_,_,rfl,rfl,h.val r rfl⟩
 ·cases hx.int;cases hy.int
  exact⟨_,_,rfl,rfl,h.val r rfl⟩
def qhP:Cop→CmpOp
 |.eq=>.Eq | .ne=>.NotEq | .lt=>.Lt | .le=>.LtE | .gt=>.Gt | .ge=>.GtE | .isin=>.In | .nin=>.NotIn
def qrV (K:PySem.W.Frag):Cop→R2
 |.eq=>fun x y H Q=>rEq x y H Q∨rEqD K x y H Q
 |.ne=>fun x y H Q=>rNe x y H Q∨rNeD K x y H Q
 |.lt=>rI0 fun i j=>.bl (decide (i<j))
 |.le=>rI0 fun i j=>.bl (decide (i≤j))
 |.gt=>rI0 fun i j=>.bl (decide (j<i))
 |.ge=>rI0 fun i j=>.bl (decide (j≤i))
 |.isin=>fun x y H Q=>(rInD K x y H Q∨rIn K false x y H Q)∨(fun x y H Q=>∃(c:Nat) (z:Str),x=.str ⟨#[c]⟩∧y=.str z∧Q (.bl (decide (c∈z.cps.toList))) H:R2) x y H Q
 |.nin=>fun x y H Q=>(rNotInD K x y H Q∨rIn K true x y H Q)∨(fun x y H Q=>∃(c:Nat) (z:Str),x=.str ⟨#[c]⟩∧y=.str z∧Q (.bl (!decide (c∈z.cps.toList))) H:R2) x y H Q
theorem qht {X:Cx} (hu:X.A.units+65<cLine):∀o,OpR X (compareOp (qhP o)) (qrV X.K o)
 |.eq=>op_eq.or (op_eqD (by omega))
 |.ne=>op_ne.or (op_neD (by omega))
 |.lt=>op_lt
 |.le=>op_le
 |.gt=>op_gt
 |.ge=>op_ge
 |.isin=>((op_inD hu).or op_in_seq).or op_in_sign
 |.nin=>((op_notInD hu).or op_notIn_seq).or op_notIn_sign
theorem qhl {C:Ctx} {P N H:Hp} {x y:D} {b c:Bool} {v u:V} {k:Bool} (r:Reg C P N H) (hx:ERw C P N H x b v) (hy:ERw C P N H y c u) (h:qjH x y=.ok k) :
  (scal v u=true∧decide (v=u)=k)∨∃d e,Dp C.G.K H v d∧Dp C.G.K H u e∧SeqAt.shaped d=true∧SeqAt.shaped e=true∧PyData.eqv d e=k:=by
 unfold qjH at h
 split at h
 ·cases hx.int;cases hy.int;cases h
  exact .inl ⟨rfl,by simp⟩
 ·cases hx.str;cases hy.str;cases h
  refine .inl ⟨rfl,?_⟩
  simp
 ·cases hx.bl;cases hy.bl;cases h
  exact .inl ⟨rfl,by rw[dec_bl]⟩
 ·split at h
  ·rename_i f
   simp only[Bool.and_eq_true] at f
   cases h
   exact .inr ⟨_,_,hx.dp r f.1,hy.dp r f.2,D.shaped f.1,D.shaped f.2,D.eqv_py _ _ _ _ f.1 f.2⟩
  ·cases h
theorem qpE {x:D} {n m:Nat} (hx:x.fit n=true):∀{ys:List D},D.fits ys m=true→((D.pys ys).any fun z=>PyData.eqv z x.py)=ys.any fun z=>z.eqb x
 |[],_=>rfl
 |y::ys,h=>by
  simp only[D.fits,Bool.and_eq_true] at h
  simp only[D.pys,List.any_cons]
  rw[qpE hx h.2,D.eqv_py y x m n h.1 hx]
theorem qi8 {C:Ctx} {P N H:Hp} {x:D} {b:Bool} {v:V} (hx:Rep C.G P (LNb C.G.K P N C.R b) x v) (f:x.fit 0=true):flatV v=true:=by
 cases x<;>simp[D.fit] at f<;>cases hx<;>rfl
theorem qhw {C:Ctx} {P N H:Hp} {b:Bool}:∀{xs:List D} {vs:List V},RepsB C P N b xs vs→D.fits xs 0=true→vs.all flatV=true
 |[],_,h,_=>by cases h;rfl
 |x::xs,_,⟨v,r,e,h1,h2⟩,f=>by
  subst e
  simp only[D.fits,Bool.and_eq_true] at f
  simp only[List.all_cons,Bool.and_eq_true]
  exact⟨qi8 (H:=H) h1 f.1,qhw (H:=H) h2 f.2⟩
theorem qpZ {C:Ctx} {P N:Hp} {x y:D} {b c:Bool} {v u:V} (hx:RepB C P N b x v) (hy:RepB C P N c y u) (fx:x.fit 0=true) (fy:y.fit 0=true):eqV v u=x.eqb y:=by
 cases x<;>simp[D.fit] at fx<;>cases y<;>simp[D.fit] at fy<;>cases hx<;>cases hy<;>simp[eqV,D.eqb]
 ·rw[Bool.eq_iff_iff,beq_iff_eq,decide_eq_true_iff]
 ·rw[Bool.eq_iff_iff,beq_iff_eq,decide_eq_true_iff]
 ·rw[Bool.eq_iff_iff,beq_iff_eq,decide_eq_true_iff]
 ·rw[Bool.eq_iff_iff,beq_iff_eq,decide_eq_true_iff]
  exact⟨fun q=>by injection q with q;exact qgH.mp q,fun q=>by rw[q]⟩
theorem qmB {C:Ctx} {P N:Hp} {x:D} {b c:Bool} {v:V} (hx:RepB C P N b x v) (fx:x.fit 0=true):∀{ys:List D} {us:List V},RepsB C P N c ys us→D.fits ys 0=true→inV v us=ys.any fun z=>z.eqb x
 |[],_,h,_=>by cases h;rfl
 |y::ys,_,⟨u,r,e,h1,h2⟩,f=>by
  subst e
  simp only[D.fits,Bool.and_eq_true] at f
  have:=qmB hx fx h2 f.2
  unfold inV at this ⊢
  simp only[List.any_cons]
  rw[this,qpZ h1 hx f.1 fx]
theorem qhA {C:Ctx} {P N H:Hp} {x y:D} {b c:Bool} {v u:V} {k:Bool} (r:Reg C P N H) (hx:ERw C P N H x b v) (hy:ERw C P N H y c u) (h:qmn x y=.ok k) :
  (∃d ds,Dp C.G.K H v d∧Dp C.G.K H u (.list ds)∧SeqAt.shaped d=true∧SeqAt.shaped (.list ds)=true∧(ds.any fun z=>PyData.eqv z d)=k) ∨
  (∃p xs,u=.ref p∧(SqL C.G.K H p xs∨SqT C.G.K H p xs)∧flatV v=true∧xs.all flatV=true∧inV v xs=k) ∨
  ∃(c:Nat) (z:Str),v=.str ⟨#[c]⟩∧u=.str z∧decide (c∈z.cps.toList)=k:=by
 unfold qmn at h
 split at h
 ·split at h
  ·rename_i ys f
   simp only[Bool.and_eq_true] at f
   cases h
   have f2:=f.2
   simp only[D.fit,Bool.and_eq_true] at f2
   refine .inl ⟨x.py,D.pys ys,hx.dp r f.1,hy.dp r f.2,D.shaped f.1,D.shaped f.2,qpE f.1 f2.2⟩
  ·cases h
 ·split at h
  ·rename_i ys f
   simp only[Bool.and_eq_true] at f
   cases h
   obtain⟨p,xs,rfl,h1,h2⟩:=hy.tup r
   have hx':RepB C P N b x v:=by
    cases x with
    |lst ds=>simp[D.fit] at f
    |_=>exact hx
   exact .inr (.inl ⟨p,xs,rfl,.inr h1,qi8 (H:=H) hx' f.1,qhw (H:=H) h2 f.2,qmB hx' f.1 h2 f.2⟩)
  ·cases h
 ·split at h
  ·cases hx.str;cases hy.str;cases h
   exact .inr (.inr ⟨_,_,rfl,rfl,rfl⟩)
  ·cases h
 ·cases h
theorem qmg {C:Ctx} (o:Cop):quR C (evC o) (qrV C.G.K o):=by
 intro P N H x y b c v u Q k r hx hy h q
 cases o<;>simp only[evC] at h
 ·rcases qhl r hx hy h with⟨h1,rfl⟩ | ⟨d,e,h1,h2,h3,h4,rfl⟩
  ·exact .inl ⟨h1,q⟩
  ·exact .inr ⟨d,e,h1,h2,h3,h4,q⟩
 ·cases e:qjH x y with
  |bad=>rw[e] at h;cases h
  |exc c fs=>rw[e] at h;cases h
  |ok k' =>
   rw[e] at h;cases h
   rcases qhl r hx hy e with⟨h1,rfl⟩ | ⟨d,d2,h1,h2,h3,h4,rfl⟩
   ·exact .inl ⟨h1,q⟩
   ·exact .inr ⟨d,d2,h1,h2,h3,h4,q⟩
 ·split at h
  ·cases hx.int;cases hy.int;cases h
   exact⟨_,_,rfl,rfl,q⟩
  ·cases h
 ·split at h
  ·cases hx.int;cases hy.int;cases h
   exact⟨_,_,rfl,rfl,q⟩
  ·cases h
 ·split at h
  ·cases hx.int;cases hy.int;cases h
   exact⟨_,_,rfl,rfl,q⟩
  ·cases h
 ·split at h
  ·cases hx.int;cases hy.int;cases h
   exact⟨_,_,rfl,rfl,q⟩
  ·cases h
 ·rcases qhA r hx hy h with⟨d,e,h1,h2,h3,h4,rfl⟩ | ⟨p,xs,h1,h2,h3,h4,rfl⟩ | ⟨c,z,h1,h2,rfl⟩
  ·exact .inl (.inl ⟨d,e,h1,h2,h3,h4,q⟩)
  ·exact .inl (.inr ⟨p,xs,h1,h2,h3,h4,q⟩)
  ·exact .inr ⟨c,z,h1,h2,q⟩
 ·cases e:qmn x y with
  |bad=>rw[e] at h;cases h
  |exc c fs=>rw[e] at h;cases h
  |ok k' =>
   rw[e] at h;cases h
   rcases qhA r hx hy e with⟨d,d2,h1,h2,h3,h4,rfl⟩ | ⟨p,xs,h1,h2,h3,h4,rfl⟩ | ⟨c,z,h1,h2,rfl⟩
   ·exact .inl (.inl ⟨d,d2,h1,h2,h3,h4,q⟩)
   ·exact .inl (.inr ⟨p,xs,h1,h2,h3,h4,q⟩)
   ·exact .inr ⟨c,z,h1,h2,q⟩
end Cm
namespace Cm
open PySem PySem.Spec PyProof.Rows L2
section
variable {C:Ctx} {X:Cx}
theorem qak {X:Cx} {e:Expr} {t u:TE} (h:PE X e t) (f:∀σ H Q,u σ H Q→t σ H Q):PE X e u:=⟨fun pins s σ H Q I q=>h.run pins s σ H Q I (f _ _ _ q)⟩
theorem qf6 {X:Cx} {e:Expr} {t u:TT} (h:PT X e t) (f:∀σ H Q,u σ H Q→t σ H Q):PT X e u:=⟨fun pins s σ H Q I q=>h.run pins s σ H Q I (f _ _ _ q)⟩
theorem qfB {X:Cx} {e:List Expr} {t u:TA} (h:PA X e t) (f:∀σ H Q,u σ H Q→t σ H Q):PA X e u:=⟨fun pos pins s σ H Q I q=>h.run pos pins s σ H Q I (f _ _ _ q)⟩
theorem qij {e:Expr}:PE X e (tE C fun _=>.bad):=⟨fun pins s σ H Q I h=>by obtain⟨ρ,P,N,S,h⟩:=h;exact h.elim⟩
theorem qqn {i:Nat} {x:Str} {pos:Pos} (hN:X.N[i]? = some x) (hv:Vis X.env.scope x) (hd:(x == ("__debug__" : Str))=false) (hcd:(x == ("__classdict__" : Str))=false) :
  PE X (.Name x pos) (tE C fun ρ=>match ρ[i]? with
  |some (.val d b)=>.ok (.val d b)
  |some (.own ds b)=>.ok (.brw ds b)
  |some (.fxd d _)=>.ok (.val d false)
  |_=>.bad):=by
 refine qak (pe_var (i:=i) hN hv hd hcd) fun σ H Q h=>?_
 obtain⟨ρ,P,N,S,h⟩:=h
 cases e:ρ[i]? with
 |none=>simp only[e] at h;exact h.elim
 |some s =>
  obtain⟨o,h1,h2⟩:=S.sl i s e
  simp only[e] at h
  cases s with
  |non=>exact h.elim
  |val d b =>
   obtain⟨v,rfl,h3⟩:=h2
   exact⟨v,h1,h.val S.reg h3⟩
  |own ds b =>
   obtain⟨p,xs,rfl,h3,h4,h5,h6,h7⟩:=h2
   exact⟨.ref p,h1,h.now S.reg _ ⟨p,xs,rfl,h3,h4,h5,h6,h7⟩⟩
  |slf c fs=>exact h.elim
  |fxd d k =>
   obtain⟨v,rfl,_,h3⟩:=h2
   exact⟨v,h1,h.val S.reg h3⟩
  |dct m b=>exact h.elim
  |row _=>exact h.elim
theorem qo9 {e:Expr} {v:V} {d:D} (h:PE X e (tC v)) (r:∀P N,RepB C P N true d v):PE X e (tE C fun _=>.ok (.val d true)):=by
 refine qak h fun σ H Q h=>?_
 obtain⟨ρ,P,N,S,h⟩:=h
 exact h.val S.reg (r P N)
theorem qny {g:List Sl→RE ER} (hg:∀ρ er,g ρ=.ok er→∃k,er=.val (.bl k) true) {σ:L2.St} {H:Hp} {Q:Bool→Hp→Prop} (h:tT C (fun ρ=>(g ρ).bind fun x=>qgI x.d) σ H Q) :
  tE C g σ H fun x H'=>∃k,x=.bl k∧Q k H':=by
 obtain⟨ρ,P,N,S,h⟩:=h
 refine⟨ρ,P,N,S,h.bind.mono fun x P1 N1 H1 e a1 h1 v rv=>?_⟩
 obtain⟨k,rfl⟩:=hg ρ x e
 exact⟨k,rv,h1.now (S.adv a1).reg⟩
abbrev qs6 (o p:Cop) (ga gb gc:List Sl→RE ER):List Sl→RE ER:=fun ρ=>(ga ρ).bind fun x=>(gb ρ).bind fun y=>(evC o x.d y.d).bind fun k=>if k=true then (gc ρ).bind fun z=>(evC p y.d z.d).bind fun k'=>ok (.bl k') else ok (.bl false)
theorem qmp {o p:Cop} {ga gb gc:List Sl→RE ER} {σ:L2.St} {H:Hp} {Q:VK} (h:tE C (qs6 o p ga gb gc) σ H Q):tChain (qrV C.G.K o) (qrV C.G.K p) (tE C ga) (tE C gb) (tE C gc) σ H Q:=by
 obtain⟨ρ,P,N,S,h⟩:=h
 refine⟨ρ,P,N,S,h.bind.mono fun x P1 N1 H1 _ a1 h1 v rv=>⟨ρ,P1,N1,S.adv a1,h1.bind.mono fun y P2 N2 H2 _ a2 h2 u ru=>?_⟩⟩
 have r2:=(S.adv (a1.trans a2)).reg
 have n1:=qmV o x.d y.d
 cases e:evC o x.d y.d with
 |bad=>rw[e] at h2;exact h2.elim
 |exc c fs=>rw[e] at n1;exact n1.elim
 |ok k =>
  rw[e] at h2
  refine qmg o r2 ((rv.adv a2).w r2) (ru.w r2) e ⟨k,rfl,?_⟩
  cases k with
  |false=>exact h2.val r2 rfl
  |true =>
   refine iteT ⟨ρ,P2,N2,S.adv (a1.trans a2),res.mono (res.bind h2) fun z P3 N3 H3 _ a3 h3 w rw'=>?_⟩
   have r3:=(S.adv ((a1.trans a2).trans a3)).reg
   have n2:=qmV p y.d z.d
   cases e3:evC p y.d z.d with
   |bad=>rw[e3] at h3;exact h3.elim
   |exc c fs=>rw[e3] at n2;exact n2.elim
   |ok k' =>
    rw[e3] at h3
    exact qmg p r3 ((ru.adv a3).w r3) (rw'.w r3) e3 (h3.val r3 rfl)
theorem qqE {o p:Cop} {a b c:Expr} {ga gb gc:List Sl→RE ER} {pos:Pos} (hu:X.A.units+65<cLine) (hK:X.K=C.G.K) (ha:PE X a (tE C ga)) (hb:PE X b (tE C gb)) (hc:PE X c (tE C gc)) (hm:lastMarks [qhP o,qhP p] [b,c]=false) :
  PE X (.Compare a [qhP o,qhP p] [b,c] pos) (tE C (qs6 o p ga gb gc)):=
 qak (pe_chain (qht hu o) (qht hu p) ha hb hc hm) fun σ H Q h=>by rw[hK];exact qmp h
theorem qq3 {o p:Cop} {a b c:Expr} {ga gb gc:List Sl→RE ER} {pos:Pos} (hu:X.A.units+65<cLine) (hK:X.K=C.G.K) (ha:PE X a (tE C ga)) (hb:PE X b (tE C gb)) (hc:PE X c (tE C gc)) (hm:lastMarks [qhP o,qhP p] [b,c]=false) :
  PT X (.Compare a [qhP o,qhP p] [b,c] pos) (tT C fun ρ=>(qs6 o p ga gb gc ρ).bind fun x=>qgI x.d):=
 qf6 (pt_chain (qht hu o) (qht hu p) ha hb hc hm) fun σ H Q h=>by
  rw[hK]
  refine qmp (qny (fun ρ er e=>?_) h)
  cases e1:ga ρ<;>simp only[qs6,e1,RE.bind_ok,RE.bind_bad,RE.bind_exc] at e<;>try cases e
  cases e2:gb ρ<;>simp only[e2,RE.bind_ok,RE.bind_bad,RE.bind_exc] at e<;>try cases e
  rename_i x y
  cases e3:evC o x.d y.d<;>simp only[e3,RE.bind_ok,RE.bind_bad,RE.bind_exc] at e<;>try cases e
  split at e
  ·cases e4:gc ρ<;>simp only[e4,RE.bind_ok,RE.bind_bad,RE.bind_exc] at e<;>try cases e
   rename_i z
   cases e5:evC p y.d z.d<;>simp only[e5,RE.bind_ok,RE.bind_bad,RE.bind_exc] at e<;>try cases e
   exact⟨_,rfl⟩
  ·cases e
   exact⟨_,rfl⟩
abbrev qs4 (o:Cop) (ga gb:List Sl→RE ER):List Sl→RE ER:=fun ρ=>(ga ρ).bind fun x=>(gb ρ).bind fun y=>(evC o x.d y.d).bind fun c=>ok (.bl c)
theorem qnI {o:Cop} {ga gb:List Sl→RE ER} {σ:L2.St} {H:Hp} {Q:VK} (h:tE C (qs4 o ga gb) σ H Q):tOp (qrV C.G.K o) (tE C ga) (tE C gb) σ H Q:=by
 obtain⟨ρ,P,N,S,h⟩:=h
 refine⟨ρ,P,N,S,h.bind.mono fun x P1 N1 H1 _ a1 h1 v rv=>⟨ρ,P1,N1,S.adv a1,h1.bind.mono fun y P2 N2 H2 _ a2 h2 u ru=>?_⟩⟩
 have r2:=(S.adv (a1.trans a2)).reg
 have n1:=qmV o x.d y.d
 cases e:evC o x.d y.d with
 |bad=>rw[e] at h2;exact h2.elim
 |exc c fs=>rw[e] at n1;exact n1.elim
 |ok k =>
  rw[e] at h2
  exact qmg o r2 ((rv.adv a2).w r2) (ru.w r2) e (h2.val r2 rfl)
theorem qrh {o:Cop} {a b:Expr} {ga gb:List Sl→RE ER} {pos:Pos} (hu:X.A.units+65<cLine) (hK:X.K=C.G.K) (ha:PE X a (tE C ga)) (hb:PE X b (tE C gb)) (hm:behindInMarks (qhP o) b=false) :
  PE X (.Compare a [qhP o] [b] pos) (tE C (qs4 o ga gb)):=
 qak (pe_cmpR (qht hu o) ha hb hm) fun σ H Q h=>by rw[hK];exact qnI h
theorem qq0 {o:Cop} {a b:Expr} {ga gb:List Sl→RE ER} {pos:Pos} (hu:X.A.units+65<cLine) (hK:X.K=C.G.K) (ha:PE X a (tE C ga)) (hb:PE X b (tE C gb)) (hm:behindInMarks (qhP o) b=false) :
  PT X (.Compare a [qhP o] [b] pos) (tT C fun ρ=>(qs4 o ga gb ρ).bind fun x=>qgI x.d):=
 qf6 (pt_cmpR (qht hu o) ha hb hm) fun σ H Q h=>by
  rw[hK]
  refine qnI (qny (fun ρ er e=>?_) h)
  cases e1:ga ρ<;>simp only[qs4,e1,RE.bind_ok,RE.bind_bad,RE.bind_exc] at e<;>try cases e
  cases e2:gb ρ<;>simp only[e2,RE.bind_ok,RE.bind_bad,RE.bind_exc] at e<;>try cases e
  rename_i x y
  cases e3:evC o x.d y.d<;>simp only[e3,RE.bind_ok,RE.bind_bad,RE.bind_exc] at e<;>try cases e
  exact⟨_,rfl⟩
theorem qhE {P N H:Hp} {d:D} {b:Bool} {v:V} {k:Bool} (r:Reg C P N H) (h:ERw C P N H d b v) (e:qgI d=.ok k):TruV C.G.K v H k:=by
 cases d<;>simp only[qgI] at e<;>cases e
 ·have e:v=.non:=h
  subst e;rfl
 ·cases h.bl;rfl
 ·cases h.int;rfl
 ·obtain⟨p,xs,rfl,h1,h2⟩:=h.lst
  refine .inl ⟨xs,h1,?_⟩
  have:=h2.length
  rw[Bool.eq_iff_iff]
  simp[←List.length_eq_zero_iff,this]
 ·obtain⟨p,xs,rfl,h1,h2⟩:=h.tup r
  refine .inr (.inl ⟨xs,h1,?_⟩)
  have:=h2.length
  rw[Bool.eq_iff_iff]
  simp[←List.length_eq_zero_iff,this]
theorem qj5 (d:D):qgT (qgI d):=by cases d<;>trivial
theorem qqS {g:List Sl→RE ER} {σ:L2.St} {H:Hp} {Q:Bool→Hp→Prop} (h:tT C (fun ρ=>(g ρ).bind fun x=>qgI x.d) σ H Q):tE C g σ H fun x H'=>∃k,TruV C.G.K x H' k∧Q k H':=by
 obtain⟨ρ,P,N,S,h⟩:=h
 refine⟨ρ,P,N,S,h.bind.mono fun x P1 N1 H1 e a1 h1 v rv=>?_⟩
 have r1:=(S.adv a1).reg
 have n1:=qj5 x.d
 cases e:qgI x.d with
 |bad=>rw[e] at h1;exact h1.elim
 |exc c fs=>rw[e] at n1;exact n1.elim
 |ok k =>
  rw[e] at h1
  exact⟨k,qhE r1 (rv.w r1) e,h1.now r1⟩
theorem qrt {e:Expr} {g:List Sl→RE ER} (hK:X.K=C.G.K) (h:PE X e (tE C g)) (he:∀whole,isTrue e X.env whole=(do let v ←whole;standAt e.pos;holding [v] (truthy v))):PT X e (tT C fun ρ=>(g ρ).bind fun x=>qgI x.d):=
 qf6 (pt_truth h he) fun σ H Q q=>by rw[hK];exact qqS q
theorem ERw.non {P N H:Hp} {d:D} {b:Bool} {v:V} (h:ERw C P N H d b v):decide (v=V.non)=d.isNon:=by
 cases d with
 |non=>have e:v=.non:=h;subst e;rfl
 |bl _=>cases h.bl;rfl
 |int _=>cases h.int;rfl
 |str _=>cases h.str;rfl
 |lst _=>obtain⟨p,xs,rfl,_⟩:=h;rfl
 |tup _=>obtain⟨p,xs,rfl,_⟩:=h;rfl
 |ins _ _=>obtain⟨p,dx,xs,rfl,_⟩:=h;rfl
 |exc _ _=>obtain⟨_,a,rfl,_⟩:=h;rfl
abbrev qvB (k:Bool) (g:List Sl→RE ER):List Sl→RE ER:=fun ρ=>(g ρ).bind fun x=>ok (.bl (if k=true then x.d.isNon else !x.d.isNon))
abbrev gBv (c:Bool) (g g':List Sl→RE ER):List Sl→RE ER:=fun ρ=>(g ρ).bind fun x=>match x.d with
  |.bl k=>if k=c then g' ρ else ok (.bl k)
  |_=>.bad
def qn1 (c:Bool):BoolOp:=if c=true then .And else .Or
theorem qsR {a:Expr} {c:Bool} {g:List Sl→RE ER} {pos:Pos} (h:PE X a (tE C g)):PE X (.BoolOp (qn1 c) [a] pos) (tE C (gBv c g fun _=>ok (.bl c))):=by
 refine qak (pe_one h) fun σ H Q q=>?_
 obtain⟨ρ,P,N,S,h⟩:=q
 refine⟨ρ,P,N,S,h.bind.mono fun x P1 N1 H1 e a1 h1 v rv=>?_⟩
 have r1:=(S.adv a1).reg
 split at h1
 ·rename_i k e
  have w:=rv.w r1
  rw[e] at w
  cases w.bl
  split at h1
  ·rename_i e;subst e;exact h1.val r1 rfl
  ·exact h1.val r1 rfl
 ·exact h1.elim
theorem qtV {a b:Expr} {rest:List Expr} {c:Bool} {g g':List Sl→RE ER} {pos:Pos} (h:PE X a (tE C g)) (h':PE X (.BoolOp (qn1 c) (b::rest) pos) (tE C g')):PE X (.BoolOp (qn1 c) (a::b::rest) pos) (tE C (gBv c g g')):=by
 have z:∀σ H Q,tE C (gBv c g g') σ H Q→tE C g σ H fun x H1=>∃k,x=.bl k∧if k=c then tE C g' σ H1 Q else Q (.bl k) H1:=fun σ H Q q=>by
  obtain⟨ρ,P,N,S,h⟩:=q
  refine⟨ρ,P,N,S,h.bind.mono fun x P1 N1 H1 e a1 h1 v rv=>?_⟩
  have r1:=(S.adv a1).reg
  split at h1
  ·rename_i k e
   have w:=rv.w r1
   rw[e] at w
   refine⟨k,w.bl,?_⟩
   split at h1
   ·rename_i e
    rw[if_pos e]
    exact⟨ρ,P1,N1,S.adv a1,h1.mono fun y P2 N2 H2 _ a2 h2 v rv=>h2 v (rv.from a1.hh)⟩
   ·rename_i e
    rw[if_neg e]
    exact h1.val r1 rfl
  ·exact h1.elim
 cases c with
 |true =>
  refine qak (pe_and h h') fun σ H Q q=>?_
  obtain⟨ρ,P,N,S,q⟩:=z σ H Q q
  refine⟨ρ,P,N,S,q.mono fun x P1 N1 H1 e a1 h1 v rv=>?_⟩
  obtain⟨k,e,h2⟩:=h1 v rv
  refine⟨k,e,?_⟩
  cases k
  ·exact h2
  ·exact h2
 |false =>
  refine qak (pe_or h h') fun σ H Q q=>?_
  obtain⟨ρ,P,N,S,q⟩:=z σ H Q q
  refine⟨ρ,P,N,S,q.mono fun x P1 N1 H1 e a1 h1 v rv=>?_⟩
  obtain⟨k,e,h2⟩:=h1 v rv
  refine⟨k,e,?_⟩
  cases k
  ·exact h2
  ·exact h2
theorem qo8 {a:Expr} {g:List Sl→RE ER} {pos:Pos} (hK:X.K=C.G.K) (h:PE X a (tE C g)):PE X (.UnaryOp .Not a pos) (tE C fun ρ=>(g ρ).bind fun x=>(qgI x.d).bind fun k=>ok (.bl (!k))):=by
 refine qak (pe_notT h) fun σ H Q q=>?_
 rw[hK]
 obtain⟨ρ,P,N,S,h⟩:=q
 refine⟨ρ,P,N,S,h.bind.mono fun x P1 N1 H1 e a1 h1 v rv=>?_⟩
 have r1:=(S.adv a1).reg
 have n1:=qj5 x.d
 cases e:qgI x.d with
 |bad=>rw[e] at h1;exact h1.elim
 |exc c fs=>rw[e] at n1;exact n1.elim
 |ok k =>
  rw[e] at h1
  exact⟨k,qhE r1 (rv.w r1) e,h1.val r1 rfl⟩
theorem qqu {a:Expr} {g:List Sl→RE Bool} {pos:Pos} (h:PT X a (tT C g)):PT X (.UnaryOp .Not a pos) (tT C fun ρ=>(g ρ).bind fun k=>.ok (!k)):=by
 refine qf6 (pt_not h) fun σ H Q q=>?_
 obtain⟨ρ,P,N,S,h⟩:=q
 exact⟨ρ,P,N,S,h.bind.mono fun x P1 N1 H1 e a1 h1=>h1.now (S.adv a1).reg⟩
abbrev gBs (c:Bool) (g g':List Sl→RE Bool):List Sl→RE Bool:=fun ρ=>(g ρ).bind fun k=>if k=c then g' ρ else .ok k
theorem qhV {e:Expr} {t u:TT} (h:PW X e t) (f:∀σ H Q,u σ H Q→t σ H Q):PW X e u:=⟨fun w pins s σ H Q I q=>h.run w pins s σ H Q I (f _ _ _ q)⟩
theorem qrZ {a:Expr} {c:Bool} {g:List Sl→RE Bool} {pos:Pos} (h:PT X a (tT C g)):PW X (.BoolOp (qn1 c) [a] pos) (tT C (gBs c g fun _=>.ok c)):=by
 have z:∀σ H Q,tT C (gBs c g fun _=>.ok c) σ H Q→tT C g σ H Q:=fun σ H Q q=>by
  obtain⟨ρ,P,N,S,h⟩:=q
  refine⟨ρ,P,N,S,h.bind.mono fun k P1 N1 H1 e a1 h1=>?_⟩
  split at h1
  ·rename_i e;subst e;exact h1.now (S.adv a1).reg
  ·exact h1.now (S.adv a1).reg
 cases c with
 |true=>exact qhV (pw_and1 h) z
 |false=>exact qhV (pw_or1 h) z
theorem qtj {a b:Expr} {rest:List Expr} {c:Bool} {g g':List Sl→RE Bool} {pos:Pos} (h:PT X a (tT C g)) (h':PW X (.BoolOp (qn1 c) (b::rest) pos) (tT C g')):PW X (.BoolOp (qn1 c) (a::b::rest) pos) (tT C (gBs c g g')):=by
 have z:∀σ H Q,tT C (gBs c g g') σ H Q→tT C g σ H fun k H1=>if k=c then tT C g' σ H1 Q else Q k H1:=fun σ H Q q=>by
  obtain⟨ρ,P,N,S,h⟩:=q
  refine⟨ρ,P,N,S,h.bind.mono fun k P1 N1 H1 e a1 h1=>?_⟩
  split at h1
  ·rename_i e;rw[if_pos e];exact⟨ρ,P1,N1,S.adv a1,h1⟩
  ·rename_i e;rw[if_neg e];exact h1.now (S.adv a1).reg
 cases c with
 |true =>
  refine qhV (pw_and h h') fun σ H Q q=>?_
  obtain⟨ρ,P,N,S,q⟩:=z σ H Q q
  refine⟨ρ,P,N,S,q.mono fun k P1 N1 H1 e a1 h1=>?_⟩
  cases k<;>exact h1
 |false =>
  refine qhV (pw_or h h') fun σ H Q q=>?_
  obtain⟨ρ,P,N,S,q⟩:=z σ H Q q
  refine⟨ρ,P,N,S,q.mono fun k P1 N1 H1 e a1 h1=>?_⟩
  cases k<;>exact h1
theorem qqB {a:Expr} {g:List Sl→RE ER} {pos:Pos} (h:PE X a (tE C g)):PE X (.UnaryOp .USub a pos) (tE C fun ρ=>(g ρ).bind fun x=>match x.d with
  |.int i=>ok (.int (-i))
  |_=>.bad):=by
 refine qak (pe_un un_neg h) fun σ H Q q=>?_
 obtain⟨ρ,P,N,S,h⟩:=q
 refine⟨ρ,P,N,S,h.bind.mono fun x P1 N1 H1 e a1 h1 v rv=>?_⟩
 have r1:=(S.adv a1).reg
 split at h1
 ·rename_i i e
  have w:=rv.w r1
  rw[e] at w
  exact⟨i,w.int,h1.val r1 rfl⟩
 ·exact h1.elim
theorem qrC:PA X [] (tA C fun _=>.ok []):=by
 refine qfB pa_nil fun σ H Q q=>?_
 obtain⟨ρ,P,N,S,h⟩:=q
 exact h.now S.reg [] rfl
theorem qo7 {e:Expr} {es:List Expr} {g:List Sl→RE ER} {g':List Sl→RE (List ER)} (h:PE X e (tE C g)) (h':PA X es (tA C g')) (hs:starEach (e::es) X.env=(false,eval e X.env)::starEach es X.env) :
  PA X (e::es) (tA C fun ρ=>(g ρ).bind fun x=>(g' ρ).bind fun r=>.ok (x.frz::r)):=by
 refine qfB (pa_cons h h' hs) fun σ H Q q=>?_
 obtain⟨ρ,P,N,S,h⟩:=q
 refine⟨ρ,P,N,S,h.bind.mono fun x P1 N1 H1 e a1 h1 v rv=>?_⟩
 obtain⟨N2,a2,r2⟩:=rv.freeze a1
 have h2:res C σ P1 N2 H1 ((g' ρ).bind fun r=>.ok (x.frz::r)) fun es P' N' H'=>∀vs,ERs C P' N' H' H es vs→Q vs H':=by
  simp only[e,RE.bind_ok] at h
  exact res.adv a2 h
 exact⟨ρ,P1,N2,S.adv a2,h2.bind.mono fun es P3 N3 H3 e a3 h3 vs rvs=>h3.now ((S.adv a2).adv a3).reg _ ⟨v,vs,rfl,r2.adv a3,rvs.from a2.hh⟩⟩
end
end Cm
namespace Cm
open PySem PySem.Spec PyProof.Rows L2
section
variable {C:Ctx} {X:Cx}
theorem ERs.reps {P N H H0:Hp}:∀{es:List ER} {vs:List V},ERs C P N H H0 es vs→es.all ER.isV=true→RepsB C P N (es.all ER.b) (es.map ER.d) vs
 |[],_,h,_=>h
 |e::es,_,⟨v,r,q,h2,h3⟩,z=>by
  subst q
  simp only[List.all_cons,Bool.and_eq_true] at z
  cases e with
  |val d b=>exact⟨v,r,rfl,RepB.and1 h2,RepsB.and2 (ERs.reps h3 z.2)⟩
  |fre d b=>exact absurd z.1 (by simp[ER.isV])
  |brw d b=>exact absurd z.1 (by simp[ER.isV])
theorem ERs.w {P N H H0:Hp} (r:Reg C P N H) {e:ER} {es:List ER} {vs:List V} (h:ERs C P N H H0 (e::es) vs):∃v u,vs=v::u∧ERw C P N H e.d e.b v∧ERs C P N H H0 es u:=by
 obtain⟨v,u,q,h2,h3⟩:=h
 exact⟨v,u,q,h2.w r,h3⟩
theorem qqK {es:List Expr} {k:Nat} {g:List Sl→RE (List ER)} {pos:Pos} (h:PA X es (tA C g)) (hl:∀ρ r,g ρ=.ok r→r.length≤LIM):PE X (.Tuple es k pos) (tE C fun ρ=>(g ρ).bind fun r=>dis (fun ds b=>.val (.tup ds) b) r):=by
 refine qak (pe_tup h) fun σ H Q q=>?_
 obtain⟨ρ,P,N,S,h⟩:=q
 refine⟨ρ,P,N,S,h.bind.mono fun r P1 N1 H1 e a1 h1 vs rv=>?_⟩
 have r1:=(S.adv a1).reg
 unfold dis at h1
 split at h1
 ·rename_i z
  have rr:=rv.reps z
  refine⟨?_,fun p hp=>h1.tup r1 rr hp⟩
  rw[rr.length,List.length_map]
  exact hl _ _ e
 ·exact h1.elim
theorem qqL {es:List Expr} {g:List Sl→RE (List ER)} {pos:Pos} (h:PA X es (tA C g)) (hl:∀ρ r,g ρ=.ok r→r.length≤LIM):PE X (.List es pos) (tE C fun ρ=>(g ρ).bind fun r=>dis .fre r):=by
 refine qak (pe_lst h) fun σ H Q q=>?_
 obtain⟨ρ,P,N,S,h⟩:=q
 refine⟨ρ,P,N,S,h.bind.mono fun r P1 N1 H1 e a1 h1 vs rv=>?_⟩
 have r1:=(S.adv a1).reg
 unfold dis at h1
 split at h1
 ·rename_i z
  have rr:=rv.reps z
  refine⟨?_,fun p hp=>h1.fre r1 a1.hh rr hp⟩
  rw[rr.length,List.length_map]
  exact hl _ _ e
 ·exact h1.elim
theorem qm2 {P N:Hp} {b:Bool} {ds:List D} {xs:List V} {i:Int} {d:D} (h:RepsB C P N b ds xs) (e:atI ds i=some d):∃v,atI xs i=some v∧RepB C P N b d v:=by
 unfold atI at e ⊢
 rw[h.length]
 cases q:ixN ds.length i with
 |none=>rw[q] at e;cases e
 |some j =>
  rw[q] at e
  exact h.get e
theorem qqI {a i:Expr} {ga gi:List Sl→RE ER} {pos:Pos} (hK:X.K=C.G.K) (ha:PE X a (tE C ga)) (hi:PE X i (tE C gi)) (hs:PlainIx i):PE X (.Subscript a i pos) (tE C fun ρ=>(ga ρ).bind fun x=>(gi ρ).bind fun y=>qpX x.d y.d x.b):=by
 refine qak (pe_ix ix_seq ha hi hs) fun σ H Q q=>?_
 rw[hK]
 obtain⟨ρ,P,N,S,h⟩:=q
 refine⟨ρ,P,N,S,h.bind.mono fun x P1 N1 H1 _ a1 h1 v rv=>⟨ρ,P1,N1,S.adv a1,h1.bind.mono fun y P2 N2 H2 _ a2 h2 u ru=>?_⟩⟩
 have r2:=(S.adv (a1.trans a2)).reg
 have wx:=(rv.adv a2).w r2
 have wy:=ru.w r2
 unfold qpX at h2
 simp only[qek,qa2,qan,qbh,qbi,qbn,qbj,qbs,qbg,qa5,qbl] at h2
 split at h2
 ·rename_i ds i e1 e2
  rw[e1] at wx;rw[e2] at wy
  obtain⟨p,xs,rfl,h3,h4⟩:=wx.lst
  cases wy.int
  split at h2
  ·rename_i d e
   obtain⟨v,e',h5⟩:=qm2 h4 e
   exact .inl ⟨p,xs,i,v,rfl,rfl,h3,e',h2.val r2 h5.nf⟩
  ·exact h2.elim
 ·rename_i ds i e1 e2
  rw[e1] at wx;rw[e2] at wy
  obtain⟨p,xs,rfl,h3,h4⟩:=wx.tup r2
  cases wy.int
  split at h2
  ·rename_i d e
   obtain⟨v,e',h5⟩:=qm2 h4 e
   exact .inr (.inl ⟨p,xs,i,v,rfl,rfl,h3,e',h2.val r2 h5.nf⟩)
  ·exact h2.elim
 ·rename_i s i e1 e2
  rw[e1] at wx;rw[e2] at wy
  cases wx.str
  cases wy.int
  split at h2
  ·rename_i hl
   split at h2
   ·rename_i c e
    refine .inr (.inr ⟨_,i,c,rfl,rfl,?_,?_,?_⟩)
    ·rw[qbB];exact hl
    ·exact e
    ·exact h2.val r2 rfl
   ·exact h2.elim
  ·exact h2.elim
 ·exact h2.elim
theorem qoh:PO X none (tO C fun _=>.ok none):=⟨fun pins s σ H Q I q=>by
 obtain⟨ρ,P,N,S,h⟩:=q
 exact po_none.run pins s σ H Q I (h.now S.reg)⟩
theorem qok {e:Expr} {g:List Sl→RE ER} (h:PE X e (tE C g)):PO X (some e) (tO C fun ρ=>(g ρ).bind fun x=>match x.d with
  |.int i=>.ok (some i)
  |_=>.bad):=⟨fun pins s σ H Q I q=>by
 obtain⟨ρ,P,N,S,h'⟩:=q
 refine(po_some h).run pins s σ H Q I ⟨ρ,P,N,S,h'.bind.mono fun x P1 N1 H1 _ a1 h1 v rv=>?_⟩
 have r1:=(S.adv a1).reg
 split at h1
 ·rename_i i e
  have w:=rv.w r1
  rw[e] at w
  exact⟨i,w.int,h1.now r1⟩
 ·exact h1.elim⟩
theorem qmD {P N:Hp} {b:Bool} {ds:List D} {xs:List V} (h:RepsB C P N b ds xs) (lo hi:Option Int):RepsB C P N b (qeu ds lo hi) (cutV xs lo hi):=by
 unfold qeu cutV
 rw[h.length]
 exact Reps.take _ (Reps.drop _ h)
theorem qql {a:Expr} {lo hi:Option Expr} {ga:List Sl→RE ER} {gl gh:List Sl→RE (Option Int)} {pos p2:Pos} (hK:X.K=C.G.K) (ha:PE X a (tE C ga)) (hl:PO X lo (tO C gl)) (hh:PO X hi (tO C gh)) :
  PE X (.Subscript a (.Slice lo hi none p2) pos) (tE C fun ρ=>(ga ρ).bind fun x=>(gl ρ).bind fun l=>(gh ρ).bind fun h=>qtl x.d l h x.b):=by
 refine qak (pe_slice (sl_list.or (sl_tup.or sl_str)) ha hl hh) fun σ H Q q=>?_
 rw[hK]
 obtain⟨ρ,P,N,S,h⟩:=q
 refine⟨ρ,P,N,S,h.bind.mono fun x P1 N1 H1 _ a1 h1 v rv=>⟨ρ,P1,N1,S.adv a1,h1.bind.mono fun l P2 N2 H2 _ a2 h2=>⟨ρ,P2,N2,S.adv (a1.trans a2),res.mono (res.bind h2) fun u P3 N3 H3 _ a3 h3=>?_⟩⟩⟩
 have a:=(a1.trans a2).trans a3
 have r3:=(S.adv a).reg
 have wx:=(rv.adv (a2.trans a3)).w r3
 unfold qtl at h3
 simp only[qek,qa2,qan,qbh,qbi,qbn,qbj,qbs,qbg,qa5,qbl] at h3
 split at h3
 ·rename_i ds e1
  rw[e1] at wx
  obtain⟨p,xs,rfl,h4,h5⟩:=wx.lst
  exact .inl ⟨p,xs,rfl,h4,fun p hp=>h3.fre r3 a.hh (qmD h5 l u) hp⟩
 ·rename_i ds e1
  rw[e1] at wx
  obtain⟨p,xs,rfl,h4,h5⟩:=wx.tup r3
  split at h3
  ·rename_i hw
   refine .inr (.inl ⟨p,xs,rfl,h4,?_,fun p hp=>h3.tup r3 (qmD h5 l u) hp⟩)
   rw[h5.length]
   rintro⟨q1,q2⟩
   simp[q1,q2] at hw
  ·exact h3.elim
 ·rename_i s e1
  rw[e1] at wx
  cases wx.str
  split at h3
  ·rename_i hl
   refine .inr (.inr ⟨_,rfl,?_,?_⟩)
   ·rw[qbB];exact hl
   ·exact h3.val r3 rfl
  ·exact h3.elim
 ·exact h3.elim
def qvi (K:PySem.W.Frag) (te:TE):TE:=fun σ H Q=>te σ H fun x H1=>(∃a xs,x=.ref a∧SqL K H1 a xs∧∀p,H1 p=none→Q (.ref p) (upd H1 p (.lst xs.reverse))) ∨
 (∃a xs,x=.ref a∧SqT K H1 a xs∧∀p,H1 p=none→Q (.ref p) (upd H1 p (.tup xs.reverse)))
def qt9:Pri→Value
 |.len=>.builtin "len" |.abs=>.builtin "abs" |.min2=>.builtin "min" |.max2=>.builtin "max" |.min1=>.builtin "min" |.max1=>.builtin "max" |.sum=>.builtin "sum" |.sorted=>.builtin "sorted"
 |.all=>.builtin "all" |.any=>.builtin "any" |.list=>.type "list" |.tupl=>.type "tuple" |.int=>.type "int" |.str=>.type "str" |.dmd=>.builtin "divmod"
def qpy:Pri→Str
 |.len=>"len" |.abs=>"abs" |.min2=>"min" |.max2=>"max" |.min1=>"min" |.max1=>"max" |.sum=>"sum" |.sorted=>"sorted"
 |.all=>"all" |.any=>"any" |.list=>"list" |.tupl=>"tuple" |.int=>"int" |.str=>"str" |.dmd=>"divmod"
def qul (K:PySem.W.Frag):Pri→List V→Hp→VK→Prop
 |.len=>fun xs H Q=>(∃x n,xs=[x]∧LenV K x H n∧Q (.int n) H)
 |.abs=>fun xs H Q=>∃i,xs=[.int i]∧Q (.int (if i<0 then -i else i)) H
 |.min2=>fun xs H Q=>∃i j,xs=[.int i,.int j]∧Q (.int (if j<i then j else i)) H
 |.max2=>fun xs H Q=>∃i j,xs=[.int i,.int j]∧Q (.int (if j>i then j else i)) H
 |.min1=>rMin K
 |.max1=>rMax K
 |.sum=>rSum K
 |.sorted=>rSortedI K
 |.all=>rAll K
 |.any=>rAny K
 |.list=>fun xs H Q=>∃p ys,xs=[.ref p]∧(SqL K H p ys∨SqT K H p ys)∧∀l,H l=none→Q (.ref l) (upd H l (.lst ys))
 |.tupl=>fun xs H Q=>∃p ys,xs=[.ref p]∧SqL K H p ys∧∀l,H l=none→Q (.ref l) (upd H l (.tup ys))
 |.int=>fun xs H Q=>((∃i,xs=[.int i]∧Q (.int i) H)∨∃k,xs=[.bl k]∧Q (.int (if k then 1 else 0)) H)∨∃a n,xs=[.str a]∧intText? a=some n∧a.length≤640∧Q (.int n) H
 |.dmd=>fun xs H Q=>∃i j,xs=[.int i,.int j]∧CDiv i j∧∀p,H p=none→Q (.ref p) (upd H p (.tup [.int (i / j),.int (i % j)]))
 |.str=>fun xs H Q=>∃i,xs=[.int i]∧i.natAbs.log2<1920∧Q (.str (toString i)) H
theorem qsc (hc:X.calm=true):∀p,CallR X (qt9 p) (qul X.K p)
 |.len=>call_len
 |.abs=>call_abs
 |.min2=>call_min2 hc
 |.max2=>call_max2 hc
 |.min1=>cr_min hc
 |.max1=>cr_max hc
 |.sum=>cr_sum hc
 |.sorted=>cr_sortedI
 |.all=>cr_all hc
 |.any=>cr_any hc
 |.list=>call_list_of
 |.tupl=>fun pins s σ H vs us Q I r q=>by
  obtain⟨p,ys,e,h1,h2⟩:=q
  exact call_tuple_of pins s σ H vs us Q I r ⟨p,ys,e,.inl ⟨h1,h2⟩⟩
 |.int=>fun pins s σ H vs us Q I r q=>by
  rcases q with q | q
  ·exact call_int1 pins s σ H vs us Q I r q
  ·exact call_int_str pins s σ H vs us Q I r q
 |.dmd=>call_divmod
 |.str=>call_str_int
theorem qcs {P N:Hp} {b:Bool}:∀{ds:List D} {ns:List Int} {xs:List V},qb0 ds=some ns→RepsB C P N b ds xs→xs=ns.map V.int
 |[],ns,xs,e,h=>by cases e;cases h;rfl
 |d::ds,ns,xs,e,⟨v,r,q,h1,h2⟩=>by
  cases d<;>simp only[qb0] at e<;>try cases e
  rename_i i
  cases e2:qb0 ds with
  |none=>rw[e2] at e;cases e
  |some ms =>
   rw[e2] at e;cases e
   have q1:v=.int i:=h1
   rw[q,q1,qcs e2 h2];rfl
theorem qfk {P N:Hp} {b:Bool}:∀{ds:List D} {ns:List Bool} {xs:List V},qfD ds=some ns→RepsB C P N b ds xs→xs=ns.map V.bl
 |[],ns,xs,e,h=>by cases e;cases h;rfl
 |d::ds,ns,xs,e,⟨v,r,q,h1,h2⟩=>by
  cases d<;>simp only[qfD] at e<;>try cases e
  rename_i i
  cases e2:qfD ds with
  |none=>rw[e2] at e;cases e
  |some ms =>
   rw[e2] at e;cases e
   have q1:v=.bl i:=h1
   rw[q,q1,qfk e2 h2];rfl
theorem qjF {P N:Hp} {b:Bool}:∀{ds:List D} {ns:List (List Nat)} {xs:List V},qiE ds=some ns→RepsB C P N b ds xs→xs=(ns.map qa8).map V.str
 |[],ns,xs,e,h=>by cases e;cases h;rfl
 |d::ds,ns,xs,e,⟨v,r,q,h1,h2⟩=>by
  cases d<;>simp only[qiE] at e<;>try cases e
  rename_i i
  cases e2:qiE ds with
  |none=>rw[e2] at e;cases e
  |some ms =>
   rw[e2] at e;cases e
   have q1:v=.str (qa8 i):=h1
   rw[q,q1,qjF e2 h2];rfl
theorem qnJ:∀(n:Int) (ns:List Int),ql3 (n::ns)∈n::ns∧∀y∈n::ns,ql3 (n::ns)≤y
 |n,[]=>by simp[ql3]
 |n,m::ns=>by
  obtain⟨h1,h2⟩:=qnJ m ns
  have e:ql3 (n::m::ns)=min n (ql3 (m::ns)):=rfl
  rw[e]
  constructor
  ·rcases Int.le_total n (ql3 (m::ns)) with h | h
   ·rw[Int.min_eq_left h];simp
   ·rw[Int.min_eq_right h];exact List.mem_cons_of_mem _ h1
  ·intro y hy
   rcases List.mem_cons.mp hy with rfl | hy
   ·exact Int.min_le_left _ _
   ·exact Int.le_trans (Int.min_le_right _ _) (h2 y hy)
theorem qnE:∀(n:Int) (ns:List Int),qkl (n::ns)∈n::ns∧∀y∈n::ns,y≤qkl (n::ns)
 |n,[]=>by simp[qkl]
 |n,m::ns=>by
  obtain⟨h1,h2⟩:=qnE m ns
  have e:qkl (n::m::ns)=max n (qkl (m::ns)):=rfl
  rw[e]
  constructor
  ·rcases Int.le_total n (qkl (m::ns)) with h | h
   ·rw[Int.max_eq_right h];exact List.mem_cons_of_mem _ h1
   ·rw[Int.max_eq_left h];simp
  ·intro y hy
   rcases List.mem_cons.mp hy with rfl | hy
   ·exact Int.le_max_left _ _
   ·exact Int.le_trans (h2 y hy) (Int.le_max_right _ _)
theorem qgw (x:Int):∀ns:List Int,(qqQ x ns).Perm (x::ns)
 |[]=>.refl _
 |y::ys=>by
  unfold qqQ
  split
  ·exact .refl _
  ·exact((qgw x ys).cons y).trans (List.Perm.swap x y ys)
theorem qhB:∀ns:List Int,(qeS ns).Perm ns
 |[]=>.refl _
 |x::xs=>(qgw x (qeS xs)).trans ((qhB xs).cons x)
theorem qlt (x:Int):∀ns:List Int,ns.Pairwise (· ≤ ·)→(qqQ x ns).Pairwise (· ≤ ·)
 |[],_=>by simp[qqQ]
 |y::ys,h=>by
  unfold qqQ
  have h':=List.pairwise_cons.mp h
  split
  ·rename_i hxy
   refine List.pairwise_cons.mpr ⟨fun z hz=>?_,h⟩
   rcases List.mem_cons.mp hz with rfl | hz
   ·exact hxy
   ·exact Int.le_trans hxy (h'.1 z hz)
  ·rename_i hxy
   refine List.pairwise_cons.mpr ⟨fun z hz=>?_,qlt x ys h'.2⟩
   rcases List.mem_cons.mp ((qgw x ys).mem_iff.mp hz) with rfl | hz
   ·omega
   ·exact h'.1 z hz
theorem qjx:∀ns:List Int,(qeS ns).Pairwise (· ≤ ·)
 |[]=>.nil
 |x::xs=>qlt x _ (qjx xs)
theorem qhs:∀{l m:List Int},l.Perm m→l.Pairwise (· ≤ ·)→m.Pairwise (· ≤ ·)→l=m
 |[],m,p,_,_=>(List.nil_perm.mp p).symm
 |x::l,[],p,_,_=>(List.perm_nil.mp p)
 |x::l,y::m,p,h,h'=>by
  have a:=List.pairwise_cons.mp h
  have b:=List.pairwise_cons.mp h'
  have e:x=y:=by
   have h1:x∈y::m:=p.mem_iff.mp (by simp)
   have h2:y∈x::l:=p.mem_iff.mpr (by simp)
   rcases List.mem_cons.mp h1 with h1 | h1
   ·exact h1
   ·rcases List.mem_cons.mp h2 with h2 | h2
    ·exact h2.symm
    ·have:=a.1 y h2;have:=b.1 x h1;omega
  subst e
  rw[qhs (List.Perm.cons_inv p) a.2 b.2]
theorem qqk (p:Pri) {g:List Sl→RE (List ER)} {σ:L2.St} {H:Hp} {Q:VK} (h:tE C (fun ρ=>(g ρ).bind (evP p)) σ H Q):tCB (qul C.G.K p) (tA C g) σ H Q:=by
 obtain⟨ρ,P,N,S,h⟩:=h
 refine⟨ρ,P,N,S,h.bind.mono fun es P1 N1 H1 _ a1 h1 vs rv=>?_⟩
 have r:=(S.adv a1).reg
 have hh:=a1.hh
 clear h S a1
 unfold evP at h1
 simp only[qek,qa2,qan,qbh,qbi,qbn,qbj,qbs,qbg,qa5,qbl] at h1
 split at h1
 all_goals try exact h1.elim
 all_goals obtain⟨v,u,rfl,w,rv⟩:=rv.w r
 all_goals first
  |(obtain⟨v2,u2,rfl,w2,rv⟩:=rv.w r;cases rv)
  |cases rv
 all_goals split at h1
 all_goals try exact h1.elim
 all_goals rename_i q1
 -- len
 ·rw[q1] at w
  obtain⟨p,xs,rfl,h4,h5⟩:=w.lst
  exact⟨_,xs.length,rfl,.inl ⟨xs,h4,rfl⟩,by rw[h5.length];exact h1.val r rfl⟩
 ·rw[q1] at w
  obtain⟨p,xs,rfl,h4,h5⟩:=w.tup r
  exact⟨_,xs.length,rfl,.inr ⟨xs,h4,rfl⟩,by rw[h5.length];exact h1.val r rfl⟩
 ·rw[q1] at w
  cases w.str
  split at h1
  ·rename_i hl
   exact⟨_,_,rfl,⟨by rw[qbB];exact hl,rfl⟩,by rw[qbB];exact h1.val r rfl⟩
  ·exact h1.elim
 -- abs
 ·rw[q1] at w
  cases w.int
  exact⟨_,rfl,h1.val r rfl⟩
 -- min2 max2
 ·rename_i q2
  rw[q2] at w;rw[q1] at w2
  cases w.int;cases w2.int
  exact⟨_,_,rfl,h1.val r rfl⟩
 ·rename_i q2
  rw[q2] at w;rw[q1] at w2
  cases w.int;cases w2.int
  exact⟨_,_,rfl,h1.val r rfl⟩
 -- min1 max1
 ·rw[q1] at w
  obtain⟨p,xs,rfl,h4,h5⟩:=w.lst
  split at h1
  ·rename_i n ns q2
   have e:=qcs q2 h5
   subst e
   obtain⟨z1,z2⟩:=qnJ n ns
   refine⟨p,n::ns,rfl,h4,by simp,fun m hm hy=>?_⟩
   have:m=ql3 (n::ns):=by
    have:=hy _ z1
    have:=z2 _ hm
    omega
   rw[this]
   exact h1.val r rfl
  ·exact h1.elim
 ·rw[q1] at w
  obtain⟨p,xs,rfl,h4,h5⟩:=w.lst
  split at h1
  ·rename_i n ns q2
   have e:=qcs q2 h5
   subst e
   obtain⟨z1,z2⟩:=qnE n ns
   refine⟨p,n::ns,rfl,h4,by simp,fun m hm hy=>?_⟩
   have:m=qkl (n::ns):=by
    have:=hy _ z1
    have:=z2 _ hm
    omega
   rw[this]
   exact h1.val r rfl
  ·exact h1.elim
 -- sum
 ·rw[q1] at w
  obtain⟨p,xs,rfl,h4,h5⟩:=w.lst
  split at h1
  ·rename_i ns q2
   have e:=qcs q2 h5
   subst e
   exact⟨p,ns,rfl,h4,h1.val r rfl⟩
  ·exact h1.elim
 -- sorted
 ·rw[q1] at w
  obtain⟨p,xs,rfl,h4,h5⟩:=w.lst
  split at h1
  ·rename_i ns q2
   have e:=qcs q2 h5
   subst e
   refine⟨p,ns,rfl,h4,fun ns' p z1 z2 hp=>?_⟩
   have:ns'=qeS ns:=qhs (z1.trans (qhB ns).symm) z2 (qjx ns)
   rw[this]
   exact h1.fre r hh (Reps.ints.mpr rfl) hp
  ·exact h1.elim
 -- all any
 ·rw[q1] at w
  obtain⟨p,xs,rfl,h4,h5⟩:=w.lst
  split at h1
  ·rename_i ns q2
   have e:=qfk q2 h5
   subst e
   exact⟨p,ns,rfl,h4,h1.val r rfl⟩
  ·exact h1.elim
 ·rw[q1] at w
  obtain⟨p,xs,rfl,h4,h5⟩:=w.lst
  split at h1
  ·rename_i ns q2
   have e:=qfk q2 h5
   subst e
   exact⟨p,ns,rfl,h4,h1.val r rfl⟩
  ·exact h1.elim
 -- list
 ·rw[q1] at w
  obtain⟨p,xs,rfl,h4,h5⟩:=w.lst
  exact⟨p,xs,rfl,.inl h4,fun l hl=>h1.fre r hh h5.nf hl⟩
 ·rw[q1] at w
  obtain⟨p,xs,rfl,h4,h5⟩:=w.tup r
  exact⟨p,xs,rfl,.inr h4,fun l hl=>h1.fre r hh h5.nf hl⟩
 -- tuple
 ·rw[q1] at w
  obtain⟨p,xs,rfl,h4,h5⟩:=w.lst
  exact⟨p,xs,rfl,h4,fun l hl=>h1.tup r h5.nf hl⟩
 -- int
 ·rw[q1] at w
  cases w.int
  exact .inl (.inl ⟨_,rfl,h1.val r rfl⟩)
 ·rw[q1] at w
  cases w.bl
  exact .inl (.inr ⟨_,rfl,h1.val r rfl⟩)
 ·rw[q1] at w
  cases w.str
  split at h1
  ·rename_i n q2
   split at h1
   ·rename_i hl
    rw[Nat.ble_eq] at hl
    exact .inr ⟨_,n,rfl,q2,by rw[qbB];exact hl,h1.val r rfl⟩
   ·exact h1.elim
  ·exact h1.elim
 -- divmod
 ·rename_i q2
  rw[q2] at w;rw[q1] at w2
  cases w.int;cases w2.int
  split at h1
  ·rename_i hl
   rw[qqq] at hl
   exact⟨_,_,rfl,hl,fun p hp=>h1.tup r ⟨_,_,rfl,rfl,_,_,rfl,rfl,rfl⟩ hp⟩
  ·exact h1.elim
 -- str
 ·rw[q1] at w
  cases w.int
  split at h1
  ·rename_i hl
   refine⟨_,rfl,hl,h1.val r ?_⟩
   show V.str _=V.str _
   rfl
  ·exact h1.elim
theorem qoZ:∀p,bootBuiltins (qpy p)=some (qt9 p)
 |.len=>boot_len
 |.abs=>by decide +kernel
 |.min2=>by decide +kernel
 |.max2=>by decide +kernel
 |.min1=>by decide +kernel
 |.max1=>by decide +kernel
 |.sum=>by decide +kernel
 |.sorted=>by decide +kernel
 |.all=>by decide +kernel
 |.any=>by decide +kernel
 |.list=>by decide +kernel
 |.tupl=>by decide +kernel
 |.int=>by decide +kernel
 |.str=>by decide +kernel
 |.dmd=>by decide +kernel
theorem qmt:∀p,qpy p ≠ "__name__" ∧ (qpy p == ("__debug__" : Str))=false:=by intro p;cases p<;>decide
theorem qk3 {x:Str} {f:Value} {r:List V→Hp→VK→Prop} {e:Expr} {es:List Expr} {t:TA} {p pos:Pos} (hc:CallR X f r) (hv:bootBuiltins x=some f) (hf:(∃id,f=.builtin id)∨∃T,f=.type T) (hg:Gl X x) (hm:X.mg x=none) (ha:PA X (e::es) t) (hn:x ≠ "__name__") (hdb:(x == ("__debug__" : Str))=false)
  (he:starEach (e::es) X.env=(false,eval e X.env)::starEach es X.env) (hpl:(backTo pos (starEach es X.env)).any (·.1)=false):PE X (.Call (.Name x p) (e::es) [] pos) (tCB r t):=by
 rcases hf with⟨id,rfl⟩ | ⟨T,rfl⟩
 ·exact pe_callB hc hg hm hv ha hn hdb he hpl
 ·exact pe_callTy hc hg hm hv ha hn hdb he hpl
theorem qqU {q:Pri} {g:List Sl→RE (List ER)} {e:Expr} {es:List Expr} {p pos:Pos} (hK:X.K=C.G.K) (hc:X.calm=true) (hg:Gl X (qpy q)) (hm:X.mg (qpy q)=none) (ha:PA X (e::es) (tA C g))
  (he:starEach (e::es) X.env=(false,eval e X.env)::starEach es X.env) (hpl:(backTo pos (starEach es X.env)).any (·.1)=false):PE X (.Call (.Name (qpy q) p) (e::es) [] pos) (tE C fun ρ=>(g ρ).bind (evP q)):=
 qak (qk3 (qsc hc q) (qoZ q) (by cases q<;>first | exact .inl ⟨_,rfl⟩ | exact .inr ⟨_,rfl⟩) hg hm ha (qmt q).1 (qmt q).2 he hpl) fun σ H Q h=>by rw[hK];exact qqk q h
end
end Cm
namespace Cm
open PySem PySem.Spec PyProof.Rows L2
section
variable {C:Ctx} {X:Cx}
open Classical in
noncomputable def un3 (P N R H:Hp):Hp:=fun a=>if P a≠none∨N a≠none∨R a≠none then H a else none
open Classical in
noncomputable def un2 (N N' H:Hp):Hp:=fun a=>if N a≠none∨N' a≠none then H a else none
theorem qtr {P N R H:Hp}:Same (un3 P N R H) H:=fun a o e=>by
 unfold un3 at e
 split at e
 ·exact e
 ·cases e
theorem qtv {P N R H:Hp} (h:Same P H):Same P (un3 P N R H):=fun a o e=>by
 unfold un3
 rw[if_pos (.inl (by rw[e];simp))]
 exact h _ _ e
theorem qrM {P N R H:Hp} (h:Same N H):Same N (un3 P N R H):=fun a o e=>by
 unfold un3
 rw[if_pos (.inr (.inl (by rw[e];simp)))]
 exact h _ _ e
theorem qtO {P N R H:Hp} (h:Same R H):Same R (un3 P N R H):=fun a o e=>by
 unfold un3
 rw[if_pos (.inr (.inr (by rw[e];simp)))]
 exact h _ _ e
theorem qpQ {P N R H:Hp} (hp:Same P H) (hn:Same N H) (hr:Same R H) {a:Addr} {o:HO} (e:un3 P N R H a=some o):P a=some o∨N a=some o∨R a=some o:=by
 unfold un3 at e
 split at e
 ·rename_i h
  rcases h with h | h | h
  ·obtain⟨u,q⟩:=Option.ne_none_iff_exists'.mp h
   have:=hp _ _ q
   rw[e] at this;cases this
   exact .inl q
  ·obtain⟨u,q⟩:=Option.ne_none_iff_exists'.mp h
   have:=hn _ _ q
   rw[e] at this;cases this
   exact .inr (.inl q)
  ·obtain⟨u,q⟩:=Option.ne_none_iff_exists'.mp h
   have:=hr _ _ q
   rw[e] at this;cases this
   exact .inr (.inr q)
 ·cases e
theorem qrr {K:PySem.W.Frag} {P N R H:Hp} (hp:Same P H) (hn:Same N H) (hr:Same R H) {a:Addr} {xs:List V} (h:SqL K (un3 P N R H) a xs):SqL K P a xs∨SqL K N a xs∨SqL K R a xs:=by
 rcases h with(h | ⟨o,h⟩) | h
 ·rcases qpQ hp hn hr h with h | h | h
  ·exact .inl (.inl (.inl h))
  ·exact .inr (.inl (.inl (.inl h)))
  ·exact .inr (.inr (.inl (.inl h)))
 ·rcases qpQ hp hn hr h with h | h | h
  ·exact .inl (.inl (.inr ⟨o,h⟩))
  ·exact .inr (.inl (.inl (.inr ⟨o,h⟩)))
  ·exact .inr (.inr (.inl (.inr ⟨o,h⟩)))
 ·exact .inl (.inr h)
theorem qr0 {N N' H:Hp}:Same (un2 N N' H) H:=fun a o e=>by
 unfold un2 at e
 split at e
 ·exact e
 ·cases e
theorem qoN {N N' H:Hp} (h:Same N H):Same N (un2 N N' H):=fun a o e=>by
 unfold un2
 rw[if_pos (.inl (by rw[e];simp))]
 exact h _ _ e
theorem qlQ {N N' H:Hp} (h:Same N' H):Same N' (un2 N N' H):=fun a o e=>by
 unfold un2
 rw[if_pos (.inr (by rw[e];simp))]
 exact h _ _ e
theorem Adv.back {P N H P' N' H':Hp} (hn:Same N H) (a:Adv P (fun _=>none) H P' N' H'):Adv P N H P' (un2 N N' H') H' where
 hh:=a.hh
 pp:=a.pp
 nn:=qoN (hn.trans a.hh)
 pH:=a.pH
 nH:=qr0
 pn:=a.pn
 nw:=fun q h=>by
  unfold un2 at h
  split at h
  ·rename_i z
   rcases z with z | z
   ·exact .inl z
   ·rcases a.nw q z with z | z
    ·exact absurd rfl z
    ·exact .inr z
  ·exact absurd rfl h
 dj:=fun q h h2=>by
  unfold un2 at h
  split at h
  ·rename_i z
   rcases z with z | z
   ·exact z
   ·exact absurd rfl (a.dj q z h2)
  ·exact absurd rfl h
theorem qlv {P N H H0:Hp} {σ:L2.St} {n:Nat} {g':List D→RE ER} {Q:VK} {es:List ER} {vs:List V} (r:Reg C P N H) (e0:L2.Same H0 H) (hv:ERs C P N H H0 es vs) (hn:es.length=n)
  (h:res C σ P N H ((g' (es.map ER.d)).bind (qdH (!es.all ER.isV))) (kE C H0 Q)):spD C.G n g' vs H Q (fun cls d H'=>C.W cls d σ H'):=by
 have rH:=r.rH
 cases ha:es.all ER.isV with
 |true =>
  rw[ha] at h
  have hr:=hv.reps ha
  refine⟨P,un3 P N C.R H,es.map ER.d,r.pH,qtr,Reps.mono (L2.Same.refl _) _ _ (fun a xs q=>?_) hr,by rw[List.length_map,hn],?_⟩
  ·rcases q with q | ⟨_,q | q | q⟩
   ·exact .inl (.inl (qrM r.nH _ _ q))
   ·exact L2.Same.seq (qtv r.pH) q
   ·exact L2.Same.seq (qrM r.nH) q
   ·exact L2.Same.seq (qtO rH) q
  ·have mono:∀{P' N' H':Hp} {b:Bool},Adv P (fun _=>none) H P' N' H'→∀a xs,LNb C.G.K P' N' (un3 P N C.R H) b a xs→LNb C.G.K P' (un2 N N' H') C.R b a xs:=fun {P' N' H' b} ad a xs q=>by
    rcases q with q | ⟨hb,q | q | q⟩
    ·exact .inl (qlQ ad.nH _ _ q)
    ·exact .inr ⟨hb,.inl q⟩
    ·exact .inr ⟨hb,.inr (.inl (L2.Same.seq (qlQ ad.nH) q))⟩
    ·rcases qrr r.pH r.nH rH q with q | q | q
     ·exact .inr ⟨hb,.inl (L2.Same.seq ad.pp q)⟩
     ·exact .inr ⟨hb,.inr (.inl (L2.Same.seq (qoN (r.nH.trans ad.hh)) q))⟩
     ·exact .inr ⟨hb,.inr (.inr q)⟩
   cases e:g' (es.map ER.d) with
   |bad=>rw[e] at h;exact h.elim
   |exc c fs =>
    rw[e] at h
    intro d H' P' N' ad hx
    refine h d _ _ _ (ad.back r.nH) ?_
    rcases hx with hx | ⟨dd,f,v,h1,h2,h3,h4⟩
    ·exact .inl hx
    ·exact .inr ⟨dd,f,v,h1,h2,h3,Rep.mono (L2.Same.refl _) _ _ (mono ad) h4⟩
   |ok er =>
    rw[e] at h
    intro v H' P' N' ad hx
    cases er with
    |brw ds b=>exact h.elim
    |val d b=>exact h _ _ _ (ad.back r.nH) v (RepB.nf (C:=C) (Rep.mono (L2.Same.refl _) _ _ (mono ad) hx))
    |fre ds b =>
     obtain⟨p,xs,rfl,h1,h2,h3,h4,h5⟩:=hx
     refine h _ _ _ (ad.back r.nH) _ ⟨p,xs,rfl,h1,e0.free h2,h3,?_,Reps.mono (L2.Same.refl _) _ _ (mono ad) h5⟩
     unfold un2
     rw[if_neg]
     rintro(z | z)
     ·exact z (r.nH.free h2)
     ·exact z h4
 |false =>
  rw[ha] at h
  have hr:Reps C.G P (SqL C.G.K H) (es.map ER.d) vs:=by
   clear h ha hn
   induction es generalizing vs with
   |nil=>cases hv;rfl
   |cons e es ih =>
    obtain⟨v,u,rfl,h1,h2⟩:=hv
    refine⟨v,u,rfl,?_,ih h2⟩
    have w:=h1.w r
    have mm:=fun a xs=>LNb.seq (K:=C.G.K) (b:=e.b) r.pH r.nH rH a xs
    cases q:e.d with
    |lst ds =>
     rw[q] at w
     obtain⟨p,xs,rfl,h3,h4⟩:=w
     exact⟨p,xs,rfl,h3,Reps.mono (L2.Same.refl _) _ _ mm h4⟩
    |non=>rw[q] at w;exact Rep.mono (L2.Same.refl _) _ _ mm w
    |bl _=>rw[q] at w;exact Rep.mono (L2.Same.refl _) _ _ mm w
    |int _=>rw[q] at w;exact Rep.mono (L2.Same.refl _) _ _ mm w
    |str _=>rw[q] at w;exact Rep.mono (L2.Same.refl _) _ _ mm w
    |tup _=>rw[q] at w;exact Rep.mono (L2.Same.refl _) _ _ mm w
    |ins _ _=>rw[q] at w;exact Rep.mono (L2.Same.refl _) _ _ mm w
    |exc _ _=>rw[q] at w;exact Rep.mono (L2.Same.refl _) _ _ mm w
  refine⟨P,H,es.map ER.d,r.pH,L2.Same.refl _,hr,by rw[List.length_map,hn],?_⟩
  have mono:∀{P' N' H':Hp},Adv P (fun _=>none) H P' N' H'→∀a xs,LNb C.G.K P' N' H true a xs→LNb C.G.K P' (un2 N N' H') C.R true a xs:=fun {P' N' H'} ad a xs q=>by
   rcases q with q | ⟨hb,q⟩
   ·exact .inl (qlQ ad.nH _ _ q)
   ·cases hb
  cases e:g' (es.map ER.d) with
  |bad=>rw[e] at h;exact h.elim
  |exc c fs =>
   rw[e] at h
   intro d H' P' N' ad hx
   refine h d _ _ _ (ad.back r.nH) ?_
   rcases hx with hx | ⟨dd,f,v,h1,h2,h3,h4⟩
   ·exact .inl hx
   ·exact .inr ⟨dd,f,v,h1,h2,h3,Rep.mono (L2.Same.refl _) _ _ (mono ad) h4⟩
  |ok er =>
   rw[e] at h
   intro v H' P' N' ad hx
   cases er with
   |brw ds b=>exact h.elim
   |val d b =>
    simp only[Bool.not_false,RE.bind_ok,qdH] at h
    split at h
    ·rename_i z
     refine h _ _ _ (ad.back r.nH) v ?_
     cases b with
     |true=>exact Rep.mono (L2.Same.refl _) _ _ (mono ad) hx
     |false=>exact Rep.flat _ _ (by simpa using z) hx
    ·exact h.elim
   |fre ds b =>
    simp only[Bool.not_false,RE.bind_ok,qdH] at h
    obtain⟨p,xs,rfl,h1,h2,h3,h4,h5⟩:=hx
    split at h
    ·rename_i z
     refine h _ _ _ (ad.back r.nH) _ ⟨p,xs,rfl,h1,e0.free h2,h3,?_,?_⟩
     ·unfold un2
      rw[if_neg]
      rintro(z | z)
      ·exact z (r.nH.free h2)
      ·exact z h4
     ·cases b with
      |true=>exact Reps.mono (L2.Same.refl _) _ _ (mono ad) h5
      |false=>exact Reps.flat _ _ (by simpa using z) h5
    ·exact h.elim
theorem qlx {G:Glo} {n m:Nat} {g gf:List D→RE ER} {dv:List D} {dvs vs:List V} {H:Hp} {Q:VK} {E:XK} (hm:dv.length=m) (hd:∀P LN,Reps G P LN dv dvs) (hg:∀xs,xs.length=n→g xs=gf (xs++dv)) (h:spD G n g vs H Q E):spD G (n+m) gf (vs++dvs) H Q E:=by
 obtain⟨P,R,ds,h1,h2,h3,h4,h5⟩:=h
 rw[hg ds h4] at h5
 exact⟨P,R,ds++dv,h1,h2,Reps.append h3 (hd _ _),by rw[List.length_append,h4,hm],h5⟩
theorem qno {k:Nat} {f:Addr} {fd:FuncData} {ps:List Str} {sp:Sp} {W:WX} {pins:List (Addr × Obj)} {σ:L2.St} {H:Hp} {s:Shared} {Q:VK} {us dus:List Value} {vs dvs:List V} (F:FnOk X.prog X.w X.K X.mg X.base (L2.CX X.prog X.w) k f fd ps sp) (hr:Room k X.A) (hb:Binds X.K fd ps dus) (hd:Vals dvs dus)
  (tk:Takes X W) (I:Inv X pins σ H s) (r:Vals vs us) (h:sp (vs++dvs) H Q (fun cls d H'=>W cls d σ H')):wpAny (model X.prog X.w) X.A (call (.ref f) us) (EP X pins σ Q) X.xe s:=by
 have r2:Vals (vs++dvs) (us++dus):=r.append hd
 have hl:(us++dus).length=ps.length:=by rw[←r2.length];exact F.len _ _ _ _ h
 refine wpAny_call (codeAny_mono (F.run X.A X.stack s H ⟨us,[]⟩ (us++dus) (vs++dvs) Q _ hr I.env0 (hb s us I.kIn hl) r2 h) fun r s' hq=>?_)
 cases r with
 |error e=>exact tk e s' (XE.of_call I (fun cls d H' q=>q) hq)
 |ok fl =>
  cases fl with
  |ret u=>exact I.after hq
  |next=>exact False.elim hq
  |brk=>exact False.elim hq
  |cont=>exact False.elim hq
theorem qna {k:Nat} {f:Addr} {fd:FuncData} {ps:List Str} {sp:Sp} {W:WX} {pins:List (Addr × Obj)} {σ:L2.St} {H:Hp} {s:Shared} {Q:VK} {us:List Value} {vs:List V} (F:FnOk X.prog X.w X.K X.mg X.base (L2.CX X.prog X.w) k f fd ps sp) (hr:Room k X.A) (hb:Binds X.K fd ps [])
  (tk:Takes X W) (I:Inv X pins σ H s) (r:Vals vs us) (h:sp vs H Q (fun cls d H'=>W cls d σ H')):wpAny (model X.prog X.w) X.A (call (.ref f) us) (EP X pins σ Q) X.xe s:=by
 have hl:us.length=ps.length:=by rw[←r.length];exact F.len _ _ _ _ h
 have hb':=hb s us I.kIn (by rw[List.append_nil];exact hl)
 rw[List.append_nil] at hb'
 refine wpAny_call (codeAny_mono (F.run X.A X.stack s H ⟨us,[]⟩ us vs Q _ hr I.env0 hb' r h) fun r s' hq=>?_)
 cases r with
 |error e=>exact tk e s' (XE.of_call I (fun cls d H' q=>q) hq)
 |ok fl =>
  cases fl with
  |ret u=>exact I.after hq
  |next=>exact False.elim hq
  |brk=>exact False.elim hq
  |cont=>exact False.elim hq
def qnB (X:Cx) (es:List Expr):Prop:=(∀e r,es=e::r→starEach (e::r) X.env=(false,eval e X.env)::starEach r X.env)∧∀pos e r,es=e::r→(backTo pos (starEach r X.env)).any (·.1)=false
def Part (K:PySem.W.Frag) (G:Glo) (fd:FuncData) (ps:List Str) (n m:Nat) (g gf:List D→RE ER):Prop:=
 ∃(dv:List D) (dvs:List V) (dus:List Value),Binds K fd ps dus∧Vals dvs dus∧dv.length=m∧(∀P LN,Reps G P LN dv dvs)∧∀xs,xs.length=n→g xs=gf (xs++dv)
theorem Part.all {K:PySem.W.Frag} {G:Glo} {fd:FuncData} {ps:List Str} {n:Nat} {g:List D→RE ER} (h:Binds K fd ps []):Part K G fd ps n 0 g g:=⟨[],[],[],h,.nil,rfl,fun _ _=>rfl,fun xs _=>by rw[List.append_nil]⟩
theorem qlu {x:Str} {k:Nat} {f:Addr} {fd:FuncData} {ps:List Str} {n m:Nat} {g' gf:List D→RE ER} {dv:List D} {dvs:List V} {dus:List Value} {g:List Sl→RE (List ER)} {es:List Expr} {p pos:Pos} (F:FnOk X.prog X.w X.K X.mg X.base (L2.CX X.prog X.w) k f fd ps (spD C.G (n+m) gf)) (hr:Room k X.A) (hg:Gl X x) (hm:X.mg x=some (.ref f)) (hk:PySem.W.keepIn X.K (.ref f)=true)
  (hb:Binds X.K fd ps dus) (hdv:Vals dvs dus) (hdm:dv.length=m) (hdr:∀P LN,Reps C.G P LN dv dvs) (hgf:∀xs,xs.length=n→g' xs=gf (xs++dv)) (tk:Takes X C.W) (ha:PA X es (tA C g)) (hdb:(x == ("__debug__" : Str))=false) (hs:qnB X es) (h0:es=[]→∀ρ,g ρ=.ok []) :
  PE X (.Call (.Name x p) es [] pos) (fun σ H Q=>tA C g σ H fun vs H1=>spD C.G n g' vs H1 Q (fun cls d H'=>C.W cls d σ H')):=by
  cases es with
  |nil =>
   refine⟨fun pins s σ H Q I h=>?_⟩
   refine wpAny_Call_Name_kw (ld_glob I hg hm ?_ hdb)
   refine PySem.W.callWith_K0 I.kIn hk ?_
   obtain⟨ρ,P,N,S,h⟩:=h
   rw[h0 rfl ρ] at h
   exact qno F hr hb hdv tk I .nil (qlx hdm hdr hgf (h.now S.reg [] rfl))
  |cons e es =>
   refine⟨fun pins s σ H Q I h=>?_⟩
   refine wpAny_Call_Name_kw (ld_glob I hg hm ?_ hdb)
   refine PySem.W.callWith_K (h₀:=X.base) I.ok.mod.kin hk (thn (ha.run pos pins s σ H _ I h) fun us s1 ⟨vs,H1,I1,r,q⟩=>⟨I1.kIn,?_⟩) (hs.1 _ _ rfl) (hs.2 _ _ _ rfl)
   exact qno F hr hb hdv tk I1 r (qlx hdm hdr hgf q)
theorem qoa {x:Str} {k:Nat} {f:Addr} {fd:FuncData} {ps:List Str} {n m:Nat} {g' gf:List D→RE ER} {dv:List D} {dvs:List V} {dus:List Value} {g:List Sl→RE (List ER)} {es:List Expr} {p pos:Pos} (F:FnOk X.prog X.w X.K X.mg X.base (L2.CX X.prog X.w) k f fd ps (spD C.G (n+m) gf)) (hr:Room k X.A) (hg:Gl X x) (hm:X.mg x=some (.ref f)) (hk:PySem.W.keepIn X.K (.ref f)=true)
  (hb:Binds X.K fd ps dus) (hdv:Vals dvs dus) (hdm:dv.length=m) (hdr:∀P LN,Reps C.G P LN dv dvs) (hgf:∀xs,xs.length=n→g' xs=gf (xs++dv)) (tk:Takes X C.W) (ha:PA X es (tA C g)) (hdb:(x == ("__debug__" : Str))=false) (hs:qnB X es) (hl:∀ρ r,g ρ=.ok r→r.length=n) (h0:es=[]→∀ρ,g ρ=.ok []) :
  PE X (.Call (.Name x p) es [] pos) (tE C fun ρ=>(g ρ).bind fun r=>(g' (r.map ER.d)).bind (qdH (!r.all ER.isV))):=by
 refine qak (qlu F hr hg hm hk hb hdv hdm hdr hgf tk ha hdb hs h0) fun σ H Q q=>?_
 obtain⟨ρ,P,N,S,h⟩:=q
 exact⟨ρ,P,N,S,h.bind.mono fun r P1 N1 H1 e a1 h1 vs rv=>qlv (S.adv a1).reg a1.hh rv (hl _ _ e) h1⟩
def ER.noF:ER→Bool
 |.fre _ _=>false
 |_=>true
theorem qhp {G:Glo} {P:Hp} {LN:Addr→List V→Prop}:∀{ds:List D} {ns:List Int} {xs:List V},qb0 ds=some ns→Reps G P LN ds xs→xs=ns.map V.int
 |[],ns,xs,e,h=>by cases e;cases h;rfl
 |d::ds,ns,xs,e,⟨v,r,q,h1,h2⟩=>by
  cases d<;>simp only[qb0] at e<;>try cases e
  rename_i i
  cases k:qb0 ds with
  |none=>rw[k] at e;cases e
  |some ms =>
   rw[k] at e
   cases e
   have h1:v=.int i:=h1
   rw[q,h1,qhp k h2]
   rfl
theorem qhz:∀{ds:List D} {ns:List Int},qb0 ds=some ns→D.flats ds=true
 |[],_,_=>rfl
 |d::ds,ns,e=>by
  cases d<;>simp only[qb0] at e<;>try cases e
  cases k:qb0 ds with
  |none=>rw[k] at e;cases e
  |some ms =>
   simp only[D.flats,D.flat,Bool.true_and]
   exact qhz k
mutual
theorem Rep.off {G:Glo} {P:Hp} {LN LN':Addr→List V→Prop} {os:List (List Int)} (h:∀a (ns:List Int),LN a (ns.map V.int)→ns∉os→LN' a (ns.map V.int)):∀(d:D) (v:V),qpz os d=true→Rep G P LN d v→Rep G P LN' d v
 |.non,_,_,q=>q
 |.bl _,_,_,q=>q
 |.int _,_,_,q=>q
 |.str _,_,_,q=>q
 |.lst ds,v,f,⟨a,xs,e,h1,h2⟩=>by
  unfold qpz at f
  split at f
  ·rename_i ns hn
   have ex:xs=ns.map V.int:=qhp hn h2
   refine⟨a,xs,e,?_,Reps.flat ds xs (qhz hn) h2⟩
   rw[ex] at h1 ⊢
   exact h a ns h1 (by simpa using f)
  ·cases f
 |.tup ds,v,f,⟨a,xs,e,h1,h2⟩=>⟨a,xs,e,h1,Reps.off h ds xs (by simpa[qpz] using f) h2⟩
 |.ins c ds,v,f,_=>by simp[qpz] at f
 |.exc _ _,v,f,_=>by simp[qpz] at f
theorem Reps.off {G:Glo} {P:Hp} {LN LN':Addr→List V→Prop} {os:List (List Int)} (h:∀a (ns:List Int),LN a (ns.map V.int)→ns∉os→LN' a (ns.map V.int)):∀(ds:List D) (vs:List V),qn8 os ds=true→Reps G P LN ds vs→Reps G P LN' ds vs
 |[],_,_,q=>q
 |d::ds,vs,f,⟨v,r,e,h1,h2⟩=>by
  simp only[qn8,Bool.and_eq_true] at f
  exact⟨v,r,e,Rep.off h d v f.1 h1,Reps.off h ds r f.2 h2⟩
end
open Classical in
noncomputable def atO (os:List (List Int)) (H:Hp):Hp:=fun a=>if ∃ns∈os,H a=some (.lst (ns.map V.int)) then H a else none
structure MtOk (C:Ctx) (X:Cx) (m:Str) (c:Nat) (n:Nat) (g':List D→RE ER):Prop where
 cls:Cls X.K (C.G.ca c)
 nf:m∉C.G.fl c
 fn:∃k f fd ps,Meth X.K (C.G.ca c) m f∧FnOk X.prog X.w X.K X.mg X.base (L2.CX X.prog X.w) k f fd ps (spD C.G (n+1) g')∧Room k X.A∧Binds X.K fd ps []
theorem qhy {α β:Type} [BEq α] [LawfulBEq α] {m:α}:∀{l:List α} {xs:List β},m∉l→(l.zip xs).lookup m=none
 |[],_,_=>rfl
 |a::l,[],_=>rfl
 |a::l,x::xs,h=>by
  simp only[List.mem_cons,not_or] at h
  have:(m == a)=false:=by simpa using h.1
  simp only[List.zip_cons_cons,List.lookup_cons,this]
  exact qhy h.2
theorem qqv {m:Str} {n:Nat} {mt:Nat→Option (List D→RE ER)} {o:Expr} {go:List Sl→RE ER} {g:List Sl→RE (List ER)} {es:List Expr} {apos pos:Pos} (hm:∀c g',mt c=some g'→MtOk C X m c n g')
  (tk:Takes X C.W) (ho:PE X o (tE C go)) (ha:PA X es (tA C g)) (hs:qnB X es) (hl:∀ρ r,g ρ=.ok r→r.length=n) (h0:es=[]→∀ρ,g ρ=.ok [])
  {pl:Sem Bool} (ht:eval (.Call (.Attribute o m apos) es [] pos) X.env=(do
   let ov ←eval o X.env
   standAt apos.atName
   let (f,first) ←holding [ov] (getMethod ov m pl)
   callWith pos f first (backTo pos (starEach es X.env)) (backToKw pos (keywordEach [] X.env)))) :
  PE X (.Call (.Attribute o m apos) es [] pos) (tE C fun ρ=>(go ρ).bind fun x=>match x.d with
  |.ins c fs=>match mt c with
   |some g'=>(g ρ).bind fun r=>(g' (.ins c fs::r.map ER.d)).bind (qdH (!r.all ER.isV))
   |none=>.bad
  |_=>.bad):=by
 refine⟨fun pins s σ H Q I h=>?_⟩
 have body:tE C go σ H fun x H1=>∃(a Ca dx:Addr) (fs:List (Str × V)) (f:Addr) (k:Nat) (fd:FuncData) (ps:List Str) (g':List D→RE ER),x=.ref a∧H1 a=some (.ins Ca dx fs)∧Cls X.K Ca∧Meth X.K Ca m f∧fs.lookup m=none ∧
   FnOk X.prog X.w X.K X.mg X.base (L2.CX X.prog X.w) k f fd ps (spD C.G (n+1) g')∧Room k X.A∧Binds X.K fd ps [] ∧
   ∃ρ P N r0,SR C P N H1 ρ σ∧(r0=g ρ)∧res C σ P N H1 r0 fun es' P' N' H'=>∀vs,ERs C P' N' H' H1 es' vs→spD C.G (n+1) g' (.ref a::vs) H' Q (fun cls d H'=>C.W cls d σ H'):=by
  obtain⟨ρ,P,N,S,h⟩:=h
  refine⟨ρ,P,N,S,h.bind.mono fun x P1 N1 H1 e1 a1 h1 v rv=>?_⟩
  have r1:=(S.adv a1).reg
  split at h1
  ·rename_i c fs q
   split at h1
   ·rename_i g' q2
    obtain⟨c1,c2,k,f,fd,ps,c3,c4,c5,c6⟩:=hm _ _ q2
    have w:=rv.w r1
    rw[q] at w
    have w':=w
    obtain⟨a,dx,xs,rfl,z1,z2,z3⟩:=w'
    refine⟨a,C.G.ca c,dx,_,f,k,fd,ps,g',rfl,r1.pH _ _ z1,c1,c3,qhy c2,c4,c5,c6,ρ,P1,N1,_,S.adv a1,rfl,?_⟩
    refine(res.bind h1).mono fun r P2 N2 H2 e2 a2 h2 vs rvs=>?_
    have r2:=(S.adv (a1.trans a2)).reg
    refine qlv (es:=.val (.ins c fs) x.b::r) r2 (a1.trans a2).hh ⟨_,vs,rfl,RepB.adv a2.pp a2.nn w,rvs.from a1.hh⟩ ?_ ?_
    ·rw[List.length_cons,hl _ _ e2]
    ·simpa[ER.isV] using h2
   ·exact h1.elim
  ·exact h1.elim
 refine PySem.W.methodCall_KW (pl:=pl) (thn (ho.run pins s σ H _ I body) fun u s1 ⟨x,H1,I1,rx,a,Ca,dx,fs,f,k,fd,ps,g',ex,ea,c,k',l,F,hr,hb,ρ,P,N,r0,S,e0,q⟩=>?_) ht
 subst ex
 obtain rfl:u=Value.ref a:=rx
 refine getmeth_ok I1 ea c k' l ?_
 subst e0
 cases es with
 |nil =>
  refine PySem.W.callWith_K0 (first:=[.ref a]) I1.kIn k'.kp ?_
  rw[h0 rfl ρ] at q
  exact qna (us:=[.ref a]) (vs:=[.ref a]) F hr hb tk I1 (.cons rfl .nil) (q.now S.reg [] rfl)
 |cons e es =>
  refine PySem.W.callWith_K (first:=[.ref a]) (h₀:=X.base) I1.ok.mod.kin k'.kp (thn (ha.run pos pins s1 σ H1 (fun vs H'=>spD C.G (n+1) g' (.ref a::vs) H' Q (fun cls d H'=>C.W cls d σ H')) I1 ⟨ρ,P,N,S,q⟩) fun us s2 ⟨vs,H2,I2,r,q2⟩=>⟨I2.kIn,?_⟩) (hs.1 _ _ rfl) (hs.2 _ _ _ rfl)
  exact qna (us:=.ref a::us) (vs:=.ref a::vs) F hr hb tk I2 (.cons rfl r) q2
structure FdOk (C:Ctx) (X:Cx) (f:Str) (c:Nat) (k:Nat):Prop where
 cls:Cls X.K (C.G.ca c)
 no:NoAttr X.K (C.G.ca c) f
 at_:(C.G.fl c)[k]? = some f
 nd:(C.G.fl c).Nodup
theorem qfz {f:Str}:∀{l:List Str} {xs:List V} {k:Nat} {v:V},l.Nodup→l[k]? = some f→xs[k]? = some v→(l.zip xs).lookup f=some v
 |[],_,_,_,_,h,_=>by simp at h
 |a::l,[],_,_,_,_,h=>by simp at h
 |a::l,x::xs,0,v,_,h,h'=>by
  simp at h h';subst h;subst h'
  simp
 |a::l,x::xs,k+1,v,nd,h,h'=>by
  have nd':=List.nodup_cons.mp nd
  have hl:l[k]? = some f:=by simpa using h
  have:f≠a:=fun e=>nd'.1 (e ▸ List.mem_of_getElem? hl)
  have e:(f == a)=false:=by simpa using this
  simp only[List.zip_cons_cons,List.lookup_cons,e]
  exact qfz nd'.2 hl (by simpa using h')
theorem qq7 {f:Str} {fi:Nat→Option Nat} {o:Expr} {go:List Sl→RE ER} {pos:Pos} (hK:X.K=C.G.K) (hf:∀c k,fi c=some k→FdOk C X f c k) (ho:PE X o (tE C go)) (hb:attributeBase o f X.env (eval o X.env)=eval o X.env) :
  PE X (.Attribute o f pos) (tE C fun ρ=>(go ρ).bind fun x=>match x.d with
  |.ins c fs=>match fi c with
   |some k=>match fs[k]? with
    |some d=>.ok (.val d d.flat)
    |none=>.bad
   |none=>.bad
  |_=>.bad):=by
 refine qak (pe_fld ho hb) fun σ H Q q=>?_
 obtain⟨ρ,P,N,S,h⟩:=q
 refine⟨ρ,P,N,S,h.bind.mono fun x P1 N1 H1 e1 a1 h1 v rv=>?_⟩
 have r1:=(S.adv a1).reg
 split at h1
 ·rename_i c fs q
  split at h1
  ·rename_i k q2
   obtain⟨c1,c2,c3,c4⟩:=hf _ _ q2
   have w:=rv.w r1
   rw[q] at w
   obtain⟨a,dx,xs,rfl,z1,z2,z3⟩:=w
   split at h1
   ·rename_i d q3
    obtain⟨u,q4,q5⟩:=Reps.get z3 q3
    refine⟨a,_,dx,_,u,rfl,r1.pH _ _ z1,c1,c2,qfz c4 c3 q4,h1.val r1 ?_⟩
    exact RepB.nf (b:=false) (Rep.mono (L2.Same.refl _) _ _ LNb.ofP q5)
   ·exact h1.elim
  ·exact h1.elim
 ·exact h1.elim
end
end Cm
namespace Cm
open PySem PySem.Spec PyProof.Rows L2
section
variable {C:Ctx} {X:Cx}
def tyS:Ty→String
 |.bool=>"bool" |.int=>"int" |.str=>"str" |.list=>"list" |.tuple=>"tuple"
def tyN:Ty→Str
 |.bool=>"bool" |.int=>"int" |.str=>"str" |.list=>"list" |.tuple=>"tuple"
theorem qrc:∀t,bootBuiltins (tyN t)=some (.type (tyS t))
 |.bool=>by decide +kernel
 |.int=>by decide +kernel
 |.str=>by decide +kernel
 |.list=>by decide +kernel
 |.tuple=>by decide +kernel
theorem qpH:∀t,tyN t ≠ "__name__" ∧ (tyN t == ("__debug__" : Str))=false:=by intro t;cases t<;>decide
theorem qiv {K:PySem.W.Frag} {H:Hp} {a:Addr} {xs:List V} (h:SqL K H a xs):TyX K H (.ref a) (.type "list"):=by
 rcases h with(h | ⟨o,h⟩) | ⟨o,its,n,h1,h2,_⟩
 ·exact .base (.lst h)
 ·exact .base (.frz h)
 ·exact .kList h1 h2
theorem qja {K:PySem.W.Frag} {H:Hp} {a:Addr} {xs:List V} (h:SqT K H a xs):TyX K H (.ref a) (.type "tuple"):=by
 rcases h with(h | ⟨o,h⟩) | ⟨o,its,n,h1,h2,_⟩
 ·exact .base (.tup h)
 ·exact .fTuple h
 ·exact .kTuple h1 h2
theorem qaQ (a b:String) (r:Bool) (h:kitB a b=some r) {K:PySem.W.Frag}:PySem.W.kitOne K (.type a) (.type b)=some r:=kit_ty h
theorem qq6 {g:List Sl→RE ER} {t:Ty} {σ:L2.St} {H:Hp} {Q:VK} (h:tE C (fun ρ=>(g ρ).bind fun x=>qrL x.d t) σ H Q):tCB (rIsi C.G.K) (tCons (tE C g) (tCons (tC (.ty (tyS t))) tNil)) σ H Q:=by
 obtain⟨ρ,P,N,S,h⟩:=h
 refine⟨ρ,P,N,S,h.bind.mono fun x P1 N1 H1 e1 a1 h1 v rv=>?_⟩
 have r1:=(S.adv a1).reg
 have w:=rv.w r1
 show ∃(x c:V) (t' u:Value) (b:Bool),[v,V.ty (tyS t)]=[x,c]∧ClsV c u∧TyX C.G.K H1 x t'∧PySem.W.kitOne C.G.K t' u=some b∧Q (.bl b) H1
 cases q:x.d with
 |non =>
  rw[q] at w h1
  obtain rfl:v=.non:=w
  refine⟨_,_,.type "NoneType",_,false,rfl,.ty _,.base .non,?_,?_⟩
  ·cases t<;>exact qaQ _ _ _ (by decide +kernel)
  ·cases t<;>exact h1.val r1 rfl
 |bl b =>
  rw[q] at w h1
  obtain rfl:=w.bl
  cases t
  ·exact⟨_,_,_,_,true,rfl,.ty _,.base (.bl b),qaQ _ _ _ (by decide +kernel),h1.val r1 rfl⟩
  ·exact⟨_,_,_,_,true,rfl,.ty _,.base (.bl b),qaQ _ _ _ (by decide +kernel),h1.val r1 rfl⟩
  ·exact⟨_,_,_,_,false,rfl,.ty _,.base (.bl b),qaQ _ _ _ (by decide +kernel),h1.val r1 rfl⟩
  ·exact⟨_,_,_,_,false,rfl,.ty _,.base (.bl b),qaQ _ _ _ (by decide +kernel),h1.val r1 rfl⟩
  ·exact⟨_,_,_,_,false,rfl,.ty _,.base (.bl b),qaQ _ _ _ (by decide +kernel),h1.val r1 rfl⟩
 |int b =>
  rw[q] at w h1
  obtain rfl:=w.int
  cases t
  ·exact⟨_,_,_,_,false,rfl,.ty _,.base (.int b),qaQ _ _ _ (by decide +kernel),h1.val r1 rfl⟩
  ·exact⟨_,_,_,_,true,rfl,.ty _,.base (.int b),qaQ _ _ _ (by decide +kernel),h1.val r1 rfl⟩
  ·exact⟨_,_,_,_,false,rfl,.ty _,.base (.int b),qaQ _ _ _ (by decide +kernel),h1.val r1 rfl⟩
  ·exact⟨_,_,_,_,false,rfl,.ty _,.base (.int b),qaQ _ _ _ (by decide +kernel),h1.val r1 rfl⟩
  ·exact⟨_,_,_,_,false,rfl,.ty _,.base (.int b),qaQ _ _ _ (by decide +kernel),h1.val r1 rfl⟩
 |str b =>
  rw[q] at w h1
  obtain rfl:=w.str
  cases t
  ·exact⟨_,_,_,_,false,rfl,.ty _,.base (.str _),qaQ _ _ _ (by decide +kernel),h1.val r1 rfl⟩
  ·exact⟨_,_,_,_,false,rfl,.ty _,.base (.str _),qaQ _ _ _ (by decide +kernel),h1.val r1 rfl⟩
  ·exact⟨_,_,_,_,true,rfl,.ty _,.base (.str _),qaQ _ _ _ (by decide +kernel),h1.val r1 rfl⟩
  ·exact⟨_,_,_,_,false,rfl,.ty _,.base (.str _),qaQ _ _ _ (by decide +kernel),h1.val r1 rfl⟩
  ·exact⟨_,_,_,_,false,rfl,.ty _,.base (.str _),qaQ _ _ _ (by decide +kernel),h1.val r1 rfl⟩
 |lst ds =>
  rw[q] at w h1
  obtain⟨p,xs,rfl,z,_⟩:=w.lst
  cases t
  ·exact⟨_,_,_,_,false,rfl,.ty _,qiv z,qaQ _ _ _ (by decide +kernel),h1.val r1 rfl⟩
  ·exact⟨_,_,_,_,false,rfl,.ty _,qiv z,qaQ _ _ _ (by decide +kernel),h1.val r1 rfl⟩
  ·exact⟨_,_,_,_,false,rfl,.ty _,qiv z,qaQ _ _ _ (by decide +kernel),h1.val r1 rfl⟩
  ·exact⟨_,_,_,_,true,rfl,.ty _,qiv z,qaQ _ _ _ (by decide +kernel),h1.val r1 rfl⟩
  ·exact⟨_,_,_,_,false,rfl,.ty _,qiv z,qaQ _ _ _ (by decide +kernel),h1.val r1 rfl⟩
 |tup ds =>
  rw[q] at w h1
  obtain⟨p,xs,rfl,z,_⟩:=w.tup r1
  cases t
  ·exact⟨_,_,_,_,false,rfl,.ty _,qja z,qaQ _ _ _ (by decide +kernel),h1.val r1 rfl⟩
  ·exact⟨_,_,_,_,false,rfl,.ty _,qja z,qaQ _ _ _ (by decide +kernel),h1.val r1 rfl⟩
  ·exact⟨_,_,_,_,false,rfl,.ty _,qja z,qaQ _ _ _ (by decide +kernel),h1.val r1 rfl⟩
  ·exact⟨_,_,_,_,false,rfl,.ty _,qja z,qaQ _ _ _ (by decide +kernel),h1.val r1 rfl⟩
  ·exact⟨_,_,_,_,true,rfl,.ty _,qja z,qaQ _ _ _ (by decide +kernel),h1.val r1 rfl⟩
 |ins c fs=>rw[q] at h1;exact h1.elim
 |exc c fs=>rw[q] at h1;exact h1.elim
theorem qog:bootBuiltins "isinstance" = some (.builtin "isinstance"):=by decide +kernel
theorem qqW {a:Expr} {g:List Sl→RE ER} {t:Ty} {p p2 pos:Pos} (hK:X.K=C.G.K) (hg:Gl X "isinstance") (hm:X.mg "isinstance" = none) (hg2:Gl X (tyN t)) (hm2:X.mg (tyN t)=none) (h:PE X a (tE C g))
  (hs:starEach [a,.Name (tyN t) p2] X.env=(false,eval a X.env)::starEach [.Name (tyN t) p2] X.env) (hpl:(backTo pos (starEach [.Name (tyN t) p2] X.env)).any (·.1)=false):PE X (.Call (.Name "isinstance" p) [a,.Name (tyN t) p2] [] pos) (tE C fun ρ=>(g ρ).bind fun x=>qrL x.d t):=
 qak (qk3 call_isi qog (.inl ⟨_,rfl⟩) hg hm (pa_cons h (pa_cons (pe_bltn (v:=.ty (tyS t)) hg2 hm2 (qrc t) rfl (qpH t).1 (qpH t).2) pa_nil) hs) (by decide) (by decide) hs hpl) fun σ H Q q=>by rw[hK];exact qq6 q
theorem qkZ {P N:Hp} {b:Bool}:∀ys:List Str,RepsB C P N b (ys.map fun z=>.str z.cps.toList) (ys.map V.str)
 |[]=>rfl
 |y::ys=>⟨_,_,rfl,rfl,qkZ ys⟩
def rBm (K:PySem.W.Frag):Bme→V→List V→Hp→VK→Prop
 |.split=>fun x xs H Q=>∃a b,x=.str a∧xs=[.str b]∧(b.length == 0)=false∧a.length+2≤sizeLine∧rNewStrs (Txt.split a b) H Q
 |.join=>fun x xs H Q=>∃a p,∃ys:List Str,x=.str a∧xs=[.ref p]∧(SqL K H p (ys.map V.str)∨SqT K H p (ys.map V.str))∧(ys.map (·.length)).sum+ys.length*a.length≤16777216∧Q (.str (Txt.join a ys)) H
 |.find=>fun x xs H Q=>∃a b,x=.str a∧xs=[.str b]∧Q (.int (Txt.find a b)) H
def bmN:Bme→Str
 |.split=>"split" |.join=>"join" |.find=>"find"
abbrev gBm (m:Bme) (go g:List Sl→RE ER):List Sl→RE ER:=fun ρ=>(go ρ).bind fun x=>match x.d with
  |.str s=>(g ρ).bind fun y=>evM m s y.d
  |_=>.bad
theorem qme {m:Bme} {go g:List Sl→RE ER} {σ:L2.St} {H:Hp} {Q:VK} (h:tE C (gBm m go g) σ H Q):tM1 (rBm C.G.K m) (tE C go) (tE C g) σ H Q:=by
 obtain⟨ρ,P,N,S,h⟩:=h
 refine⟨ρ,P,N,S,h.bind.mono fun x P1 N1 H1 e1 a1 h1 v rv=>?_⟩
 have r1:=(S.adv a1).reg
 split at h1
 ·rename_i s q
  have w:=rv.w r1
  rw[q] at w
  cases w.str
  refine⟨⟨_,rfl⟩,ρ,P1,N1,S.adv a1,(res.bind h1).mono fun y P2 N2 H2 e2 a2 h2 u ru=>?_⟩
  have r2:=(S.adv (a1.trans a2)).reg
  have w2:=ru.w r2
  cases m with
  |split =>
   simp only[evM,qek,qa2,qan,qbh,qbi,qbn,qbj,qbs,qbg,qa5,qbl] at h2
   split at h2
   ·rename_i t q2
    rw[q2] at w2
    cases w2.str
    split at h2
    ·rename_i hl
     refine⟨_,_,rfl,rfl,?_,?_,fun p hp=>?_⟩
     ·rw[qbB];simpa using hl.1
     ·rw[qbB];exact hl.2
     ·exact h2.fre r2 (a1.trans a2).hh (qkZ _) hp
    ·exact h2.elim
   ·exact h2.elim
  |join =>
   simp only[evM,qek,qa2,qan,qbh,qbi,qbn,qbj,qbs,qbg,qa5,qbl] at h2
   split at h2
   ·rename_i xs q2
    rw[q2] at w2
    obtain⟨p,us,rfl,z1,z2⟩:=w2.lst
    split at h2
    ·rename_i ss q3
     have e:=qjF q3 z2
     subst e
     split at h2
     ·rename_i hl
      refine⟨_,p,ss.map qa8,rfl,rfl,.inl z1,?_,h2.val r2 rfl⟩
      have e1:((ss.map qa8).map fun z=>z.length)=ss.map List.length:=by
       rw[List.map_map]
       exact List.map_congr_left fun a _=>qbB a
      rw[e1,List.length_map,qbB]
      exact hl
     ·exact h2.elim
    ·exact h2.elim
   ·exact h2.elim
  |find =>
   simp only[evM,qek,qa2,qan,qbh,qbi,qbn,qbj,qbs,qbg,qa5,qbl] at h2
   split at h2
   ·rename_i t q2
    rw[q2] at w2
    cases w2.str
    exact⟨_,_,rfl,rfl,h2.val r2 rfl⟩
   ·exact h2.elim
 ·exact h1.elim
theorem qsl {m:Bme} {o a:Expr} {go g:List Sl→RE ER} {apos pos:Pos} (hK:X.K=C.G.K) (ho:PE X o (tE C go)) (ha:PE X a (tE C g)) (hs:starEach [a] X.env=[(false,eval a X.env)]) (hbase:attributeBase o (bmN m) X.env (eval o X.env)=eval o X.env) (hline:(apos.endLine == pos.line)=true) :
  PE X (.Call (.Attribute o (bmN m) apos) [a] [] pos) (tE C (gBm m go g)):=by
 cases m with
 |split=>exact qak (pe_m1 PySem.F.slot_str_split PySem.F.type_str_split mt_split ho ha hs hbase hline) fun σ H Q q=>qme (m:=.split) q
 |join=>exact qak (pe_m1 PySem.F.slot_str_join PySem.F.type_str_join mt_join ho ha hs hbase hline) fun σ H Q q=>by rw[hK];exact qme (m:=.join) q
 |find=>exact qak (pe_m1 PySem.F.slot_str_find PySem.F.type_str_find mt_find ho ha hs hbase hline) fun σ H Q q=>qme (m:=.find) q
theorem qkY (a b:Int):rgV a b=(qfx a 1 (b - a).toNat).map V.int:=by
 unfold rgV qfx
 rw[List.map_map]
 exact List.map_congr_left fun i _=>by simp
theorem qmc {g:List Sl→RE ER} {σ:L2.St} {H:Hp} {Q:VK} (h:tE C (fun ρ=>((g ρ).bind fun x=>(RE.ok []).bind fun r=>.ok (x.frz::r)).bind fun r=>(qem r).bind fun ns=>.ok (.fre (ns.map D.int) true)) σ H Q):tLstRg (tRg1 (tE C g)) σ H Q:=by
 obtain⟨ρ,P,N,S,h⟩:=h
 refine⟨ρ,P,N,S,(res.bind (res.bind h)).mono fun x P1 N1 H1 e1 a1 h1 v rv=>?_⟩
 have r1:=(S.adv a1).reg
 have hd:x.frz.d=x.d:=by cases x<;>rfl
 have h2:res C σ P1 N1 H1 ((qem [x.frz]).bind fun ns=>.ok (.fre (ns.map D.int) true)) (kE C H Q):=h1.now r1
 unfold qem at h2
 simp only[hd,qek,qa2,qan,qbh,qbi,qbn,qbj,qbs,qbg,qa5,qbl] at h2
 split at h2
 ·rename_i n q
  have w:=rv.w r1
  rw[q] at w
  split at h2
  ·rename_i hl
   have hl:=qj7 hl
   refine⟨n,w.int,⟨by decide,by decide,hl.1.1,hl.1.2,by simpa[LIM] using hl.2⟩,fun p hp=>?_⟩
   rw[qkY,Int.sub_zero]
   exact h2.fre r1 a1.hh (Reps.ints.mpr rfl) hp
  ·exact h2.elim
 ·exact h2.elim
theorem qmm {g g':List Sl→RE ER} {σ:L2.St} {H:Hp} {Q:VK} (h:tE C (fun ρ=>((g ρ).bind fun x=>((g' ρ).bind fun y=>(RE.ok []).bind fun r=>.ok (y.frz::r)).bind fun r=>.ok (x.frz::r)).bind fun r=>(qem r).bind fun ns=>.ok (.fre (ns.map D.int) true)) σ H Q):tLstRg (tRg2 (tE C g) (tE C g')) σ H Q:=by
 obtain⟨ρ,P,N,S,h⟩:=h
 refine⟨ρ,P,N,S,(res.bind (res.bind h)).mono fun x P1 N1 H1 e1 a1 h1 v rv=>⟨ρ,P1,N1,S.adv a1,(res.bind (res.bind h1)).mono fun y P2 N2 H2 e2 a2 h2 u ru=>?_⟩⟩
 have r2:=(S.adv (a1.trans a2)).reg
 have hd:x.frz.d=x.d:=by cases x<;>rfl
 have hd2:y.frz.d=y.d:=by cases y<;>rfl
 have h3:res C σ P2 N2 H2 ((qem [x.frz,y.frz]).bind fun ns=>.ok (.fre (ns.map D.int) true)) (kE C H Q):=(h2.now r2).now r2
 unfold qem at h3
 simp only[hd,hd2,qek,qa2,qan,qbh,qbi,qbn,qbj,qbs,qbg,qa5,qbl] at h3
 split at h3
 ·rename_i i j q q2
  have w:=(rv.adv a2).w r2
  rw[q] at w
  have w2:=ru.w r2
  rw[q2] at w2
  split at h3
  ·rename_i hl
   have hl:=qmo hl
   refine⟨i,j,w.int,w2.int,⟨hl.1.1,hl.1.2,hl.2.1.1,hl.2.1.2,by simpa[LIM] using hl.2.2⟩,fun p hp=>?_⟩
   rw[qkY]
   exact h3.fre r2 (a1.trans a2).hh (Reps.ints.mpr rfl) hp
  ·exact h3.elim
 ·exact h3.elim
end
end Cm
namespace Cm
open PySem PySem.Spec PyProof.Rows L2
section
variable {C:Ctx} {X:Cx}
theorem SR.setV {P N H:Hp} {ρ:List Sl} {σ:L2.St} (S:SR C P N H ρ σ) {i:Nat} {d:D} {b:Bool} {v:V} (h:RepB C P N b d v):SR C P N H (ρ.set i (.val d b)) (σ.set i (some v)) where
 reg:=S.reg
 len:=by simp[S.len]
 sl:=fun j s e=>by
  by_cases q:i=j
  ·subst q
   have hi:i<ρ.length:=by
    rcases Nat.lt_or_ge i ρ.length with z | z
    ·exact z
    ·rw[List.getElem?_eq_none (by simpa using z)] at e;cases e
   rw[List.getElem?_set_self hi] at e
   cases e
   exact⟨some v,List.getElem?_set_self (by rw[S.len];exact hi),v,rfl,h⟩
  ·rw[List.getElem?_set_ne q] at e
   rw[List.getElem?_set_ne q]
   exact S.sl j s e
 ap:=fun j k p ds c es c' e1 e2 e3 e4=>by
  by_cases q:i=j
  ·subst q
   rcases Nat.lt_or_ge i ρ.length with z | z
   ·rw[List.getElem?_set_self z] at e1;cases e1
   ·rw[List.getElem?_eq_none (by simpa using z)] at e1;cases e1
  ·by_cases q2:i=k
   ·subst q2
    rcases Nat.lt_or_ge i ρ.length with z | z
    ·rw[List.getElem?_set_self z] at e2;cases e2
    ·rw[List.getElem?_eq_none (by simpa using z)] at e2;cases e2
   ·rw[List.getElem?_set_ne q] at e1 e3
    rw[List.getElem?_set_ne q2] at e2 e4
    exact S.ap j k p ds c es c' e1 e2 e3 e4
 ad:=S.ad.set rfl
 ar:=S.ar.set rfl
def qlo:List Nat→TGs
 |[]=>gNil
 |i::is=>gCons (gName i) (qlo is)
def tG (C:Ctx) (tg:List Nat):TG:=fun v σ H Q=>∃ρ P N d b ρ',SR C P N H ρ σ∧RepB C P N b d v∧qe7 tg d b ρ=some ρ'∧∀σ',SR C P N H ρ' σ'→(∀j,j∉tg→σ'[j]? = σ[j]?)→σ'.length=σ.length→Q σ' H
theorem qiR {P N H:Hp} {b:Bool}:∀{tg:List Nat} {ds:List D} {xs:List V} {ρ ρ':List Sl} {σ:L2.St} {Q:L2.St→Hp→Prop},SR C P N H ρ σ→RepsB C P N b ds xs→ql0 tg ds b ρ=some ρ' →
  (∀σ',SR C P N H ρ' σ'→(∀j,j∉tg→σ'[j]? = σ[j]?)→σ'.length=σ.length→Q σ' H)→qlo tg xs σ H Q
 |[],[],xs,ρ,ρ',σ,Q,S,h,e,q=>by
  cases h;cases e
  exact⟨rfl,q σ S (fun _ _=>rfl) rfl⟩
 |i::tg,d::ds,xs,ρ,ρ',σ,Q,S,⟨v,r,ex,h1,h2⟩,e,q=>by
  refine⟨v,r,ex,qiR (S.setV (RepB.nf (C:=C) h1)) h2 e fun σ' S' hj hl=>q σ' S' (fun j hj'=>?_) (by rw[hl];simp)⟩
  simp only[List.mem_cons,not_or] at hj'
  rw[hj j hj'.2,List.getElem?_set_ne (fun z=>hj'.1 z.symm)]
 |[],d::ds,xs,ρ,ρ',σ,Q,S,h,e,q=>by cases e
 |i::tg,[],xs,ρ,ρ',σ,Q,S,h,e,q=>by cases e
theorem qnp {t:Expr} {g g':TG} (h:PG X t g) (f:∀v σ H Q,g' v σ H Q→g v σ H Q):PG X t g':=⟨fun pins s σ H v u Q I r q=>h.run pins s σ H v u Q I r (f _ _ _ _ q)⟩
theorem qoc {i:Nat} {x:Str} {pos:Pos} (hN:X.N.Nodup) (hi:X.N[i]? = some x) (hx:Loc X.env.scope x) (hf:X.fn x=true∨X.env.scope.names.lookup x=some .local):PG X (.Name x pos) (tG C [i]):=
 qnp (pg_name hN hi hx hf) fun v σ H Q q=>by
  obtain⟨ρ,P,N,d,b,ρ',S,h,e,q⟩:=q
  cases e
  refine q _ (S.setV (RepB.nf (C:=C) h)) (fun j hj=>?_) (by simp)
  rw[List.getElem?_set_ne (fun z=>hj (by simp[z]))]
theorem qqX {es:List Expr} {k:Nat} {tg:List Nat} {pos:Pos} (hK:X.K=C.G.K) (hc:X.calm=true) (h:PGs X es (qlo tg)) (hl:es.length=tg.length) (h2:tg.length≠1) (hn:(assignEach es X.env).length=es.length) (hst:(assignEach es X.env).findIdx? (·.1)=none):PG X (.Tuple es k pos) (tG C tg):=
 qnp (pg_tup hc h rfl hst) fun v σ H Q q=>by
  obtain⟨ρ,P,N,d,b,ρ',S,h,e,q⟩:=q
  have e':∃ds,d=.tup ds∧ql0 tg ds b ρ=some ρ':=by
   unfold qe7 at e
   split at e
   ·exact absurd rfl h2
   ·split at e
    ·exact⟨_,rfl,e⟩
    ·cases e
  clear e
  obtain⟨ds,rfl,e⟩:=e'
  obtain⟨a,xs,rfl,z1,z2⟩:=h
  have hlen:∀{tg:List Nat} {ds:List D} {ρ:List Sl},ql0 tg ds b ρ=some ρ'→ds.length=tg.length:=by
   intro tg
   induction tg with
   |nil=>intro ds ρ e;cases ds with
    |nil=>rfl
    |cons _ _=>cases e
   |cons i tg ih=>intro ds ρ e;cases ds with
    |nil=>cases e
    |cons d ds=>simp only[List.length_cons];rw[ih e]
  refine⟨a,xs,rfl,hK ▸ Same.seqT S.reg.pH z1,?_,qiR S z2 e q⟩
  rw[z2.length,hlen e,hn,hl]
def Wok (C:Ctx) (P N H:Hp) (w:Wk) (J:It):Prop:=
 ∃(Gd:Hp→Prop) (Y:Nat→Hp→V→Hp→Prop),Walk J w.xs.length Gd Y∧(∀H2,L2.Same H H2→Gd H2)∧(w.own=false→∀P2 N2 H2,L2.Same P P2→L2.Same N N2→Reg C P2 N2 H2→Gd H2) ∧
  ∀i P2 N2 H2 x H3,i<w.xs.length→L2.Same P P2→L2.Same N N2→Reg C P2 N2 H2→Y i H2 x H3→∃P3,Adv P2 N2 H2 P3 N2 H3∧∃d,w.xs[i]? = some d∧RepB C P3 N2 w.b d x
def tI (C:Ctx) (g:List Sl→RE Wk):TI:=fun σ H R=>∃ρ P N,SR C P N H ρ σ∧res C σ P N H (g ρ) fun w P' N' H'=>∀J,Wok C P' N' H' w J→R J H'
theorem qd6 {tg e:Expr} {t u:TI} (h:PI X tg e t) (f:∀σ H R,u σ H R→t σ H R):PI X tg e u:=⟨fun pins s σ H R I q=>h.run pins s σ H R I (f _ _ _ q)⟩
theorem qpi {P N H:Hp} {er:ER} {ds:List D} {p:Addr} {xs:List V} (r:Reg C P N H) (hd:er.d=.lst ds) {H0:Hp} (h:ERr C P N H H0 er.frz (.ref p)) (h2:SqL C.G.K H p xs) (h3:RepsB C P N er.b ds xs) (hs:er.frz.isB=false→LNb C.G.K P N C.R er.b p xs):Wok C P N H ⟨ds,er.b,er.frz.isB⟩ (Itl C.G.K p):=by
 refine⟨fun H=>SqL C.G.K H p xs,YAt xs,?_,fun H2 e=>L2.Same.seq e h2,fun e P2 N2 H2 e1 e2 r2=>?_,fun i P2 N2 H2 x H3 hi e1 e2 r2 y=>?_⟩
 ·have:=walk_list (K:=C.G.K) (a:=p) (xs:=xs)
  rw[h3.length] at this
  exact this
 ·exact LNb.seq r2.pH r2.nH r2.rH _ _ (LNb.mono e1 e2 _ _ (hs e))
 ·obtain⟨rfl,e⟩:=y
  refine⟨P2,Adv.refl r2.pH r2.nH,ds[i]'hi,by simp,?_⟩
  obtain⟨v,q1,q2⟩:=Reps.get h3 (List.getElem?_eq_getElem hi)
  rw[q1] at e;cases e
  exact RepB.adv e1 e2 q2
theorem ERr.frz_lst {P N H H0:Hp} (r:Reg C P N H) {er:ER} {ds:List D} {v:V} (hd:er.d=.lst ds) (h:ERr C P N H H0 er.frz v):∃p xs,v=.ref p∧SqL C.G.K H p xs∧RepsB C P N er.b ds xs∧(er.frz.isB=false→LNb C.G.K P N C.R er.b p xs):=by
 cases er with
 |val d b =>
  have hd:d=.lst ds:=hd
  subst hd
  obtain⟨p,xs,e,h1,h2⟩:=h
  exact⟨p,xs,e,LNb.seq r.pH r.nH r.rH _ _ h1,h2,fun _=>h1⟩
 |fre d b =>
  have hd:D.lst d=.lst ds:=hd
  cases hd
  obtain⟨p,xs,e,h1,h2⟩:=h
  exact⟨p,xs,e,LNb.seq r.pH r.nH r.rH _ _ h1,h2,fun _=>h1⟩
 |brw d b =>
  have hd:D.lst d=.lst ds:=hd
  cases hd
  obtain⟨p,xs,e,h1,_,_,_,h2⟩:=h
  exact⟨p,xs,e,.inl (.inl h1),h2,fun z=>by cases z⟩
theorem qr9 (er:ER):er.frz.d=er.d:=by cases er<;>rfl
theorem qtB (er:ER):er.frz.b=er.b:=by cases er<;>rfl
theorem qgp (er:ER):er.frz.isB=er.isB:=by cases er<;>rfl
def qtG (K:PySem.W.Frag) (t:TE):TI:=fun σ H R=>t σ H fun v H1=>((∃a,v=.ref a∧(∃xs,SqL K H1 a xs)∧R (Itl K a) H1)∨(∃a,v=.ref a∧(∃xs,SqT K H1 a xs)∧R (Itt K a) H1))∨∃x,v=.str x∧R (Its x) H1
theorem qpv {tg e:Expr} {t:TE} (h:PE X e t):PI X tg e (qtG X.K t):=by
 refine⟨fun pins s σ H R I q=>?_⟩
 refine thn (h.run pins s σ H _ I q) fun v s1 ⟨x,H1,I1,r1,q1⟩=>?_
 rcases q1 with(⟨a,e,⟨xs,sq⟩,q⟩ | ⟨a,e,⟨xs,sq⟩,q⟩) | ⟨z,e,q⟩
 ·subst e
  cases r1
  obtain⟨vl,rw0,p,zl⟩:=I1.list sq
  refine wpAny_pyIter_list p.isList ?_
  refine⟨s1.heap.objs.size,[s1.heap.objs.size],_,_,H1,rfl,I1.kept (t':=s1.toks) fun b o e=>Heap.get?_push_of_some _ e,turn_list a _,⟨_,Heap.get?_push_size _ rfl,rfl,rfl⟩,fun b hb0=>?_,q⟩
  have eb:b=s1.heap.objs.size:=by simpa using hb0
  subst eb
  exact I1.fpOk (Nat.le_refl s1.heap.objs.size) (I1.hok.fresh (Nat.le_refl s1.heap.objs.size))
 ·subst e
  cases r1
  obtain⟨vl,rw0,p,zl⟩:=I1.tuple sq
  refine wpAny_pyIter_tuple (show s1.heap.IsTuple a vl.toArray from p) ?_
  refine⟨s1.heap.objs.size,[s1.heap.objs.size],_,_,H1,rfl,I1.kept (t':=s1.toks) fun b o e=>Heap.get?_push_of_some _ e,turn_tuple a _,⟨_,Heap.get?_push_size _ rfl,rfl,rfl⟩,fun b hb0=>?_,q⟩
  have eb:b=s1.heap.objs.size:=by simpa using hb0
  subst eb
  exact I1.fpOk (Nat.le_refl s1.heap.objs.size) (I1.hok.fresh (Nat.le_refl s1.heap.objs.size))
 ·subst e
  obtain⟨t,rfl⟩:=r1
  cases ha:z.cps.all (· < 128)
  ·exact wpAny_pyIter_wide ha (pi_one (tk:=s1.toks) I1 _ (turn_str _ z t "str_iterator" (.inr rfl)) ⟨_,Heap.get?_push_size _ rfl,rfl,rfl⟩ q)
  ·exact wpAny_pyIter_ascii ha (pi_one (tk:=s1.toks) I1 _ (turn_str _ z t "str_ascii_iterator" (.inl rfl)) ⟨_,Heap.get?_push_size _ rfl,rfl,rfl⟩ q)
theorem qqC {g:List Sl→RE ER} {σ:L2.St} {H:Hp} {R:It→Hp→Prop} (h:tI C (fun ρ=>(g ρ).bind qjy) σ H R):qtG C.G.K (tE C g) σ H R:=by
 obtain⟨ρ,P,N,S,h⟩:=h
 refine⟨ρ,P,N,S,h.bind.mono fun x P1 N1 H1 e1 a1 h1 v rv=>?_⟩
 obtain⟨N2,a2,rv⟩:=rv.freeze a1
 have r2:=(S.adv a2).reg
 have h2:res C σ P1 N2 H1 (qjy x) fun w P' N' H'=>∀J,Wok C P' N' H' w J→R J H':=by
  simp only[e1,RE.bind_ok] at h
  exact res.adv a2 h
 unfold qjy at h2
 split at h2
 ·rename_i ds q
  obtain⟨p,xs,rfl,z1,z2,z3⟩:=rv.frz_lst r2 q
  have:=qpi r2 q rv z1 z2 z3
  rw[qgp] at this
  exact .inl (.inl ⟨p,rfl,⟨xs,z1⟩,h2.now r2 _ this⟩)
 ·rename_i ds q
  have w:=rv.w r2
  rw[qr9,q] at w
  have w0:=w
  obtain⟨p,xs,rfl,z1,z2⟩:=w
  rw[qtB] at z2
  refine .inl (.inr ⟨p,rfl,⟨xs,Same.seqT r2.pH z1⟩,h2.now r2 _ ⟨fun H=>SqT C.G.K H p xs,YAt xs,?_,fun H2 e=>Same.seqT (r2.pH.trans e) z1,fun _ P2 N2 H2 e1 e2 r3=>Same.seqT (e1.trans r3.pH) z1,fun i P2 N2 H2 x H3 hi e1 e2 r2 y=>?_⟩⟩)
  ·have:=walk_tup (K:=C.G.K) (a:=p) (xs:=xs)
   rw[z2.length] at this
   exact this
  ·obtain⟨rfl,e⟩:=y
   refine⟨P2,Adv.refl r2.pH r2.nH,ds[i]'hi,by simp,?_⟩
   obtain⟨v,q1,q2⟩:=Reps.get z2 (List.getElem?_eq_getElem hi)
   rw[q1] at e;cases e
   exact RepB.adv e1 e2 q2
 ·rename_i s q
  have w:=rv.w r2
  rw[qr9,q] at w
  cases w.str
  refine .inr ⟨_,rfl,h2.now r2 _ ⟨fun _=>True,fun i H v H'=>H'=H∧∃c,s[i]? = some c∧v=.str ⟨#[c]⟩,?_,fun _ _=>trivial,fun _ _ _ _ _ _ _=>trivial,fun i P2 N2 H2 x H3 hi e1 e2 r2 y=>?_⟩⟩
  ·have:=walk_str (z:=(⟨s.toArray⟩:Str))
   simpa using this
  ·obtain⟨rfl,c,e,rfl⟩:=y
   refine⟨P2,Adv.refl r2.pH r2.nH,.str [c],?_,rfl⟩
   simp[e]
 ·exact h2.elim
theorem qqR {tg e:Expr} {g:List Sl→RE ER} (hK:X.K=C.G.K) (h:PE X e (tE C g)):PI X tg e (tI C fun ρ=>(g ρ).bind qjy):=
 qd6 (qpv h) fun σ H R q=>by rw[hK];exact qqC q
theorem qmw {P N H:Hp} (i:Int) (n:Nat):Wok C P N H ⟨(qfx i 1 n).map D.int,true,false⟩ (Itr i n):=by
 refine⟨fun _=>True,YFn fun k=>.int (i+k),?_,fun _ _=>trivial,fun _ _ _ _ _ _ _=>trivial,fun k P2 N2 H2 x H3 hi e1 e2 r2 y=>?_⟩
 ·have:=walk_range (lo:=i) (n:=n)
  simpa[qfx] using this
 ·obtain⟨rfl,rfl⟩:=y
  have hk:k<n:=by simpa[qfx] using hi
  refine⟨P2,Adv.refl r2.pH r2.nH,.int (i+k),?_,rfl⟩
  simp[qfx,hk]
theorem qk5 {P N H:Hp} (i c:Int) (n:Nat):Wok C P N H ⟨(qfx i c n).map D.int,true,false⟩ (Itc i c n):=by
 refine⟨fun _=>True,YFn fun k=>.int (i+(k:Nat)*c),?_,fun _ _=>trivial,fun _ _ _ _ _ _ _=>trivial,fun k P2 N2 H2 x H3 hi e1 e2 r2 y=>?_⟩
 ·have:=walk_rangeC (lo:=i) (c:=c) (n:=n)
  simpa[qfx] using this
 ·obtain⟨rfl,rfl⟩:=y
  have hk:k<n:=by simpa[qfx] using hi
  refine⟨P2,Adv.refl r2.pH r2.nH,.int (i+k*c),?_,rfl⟩
  simp[qfx,hk]
abbrev qtN (g:List Sl→RE (List ER)):List Sl→RE Wk:=fun ρ=>(g ρ).bind fun r=>(qem r).bind fun ns=>.ok ⟨ns.map D.int,true,false⟩
theorem qoS {tg a:Expr} {g:List Sl→RE (List ER)} {p pos:Pos} (hg:Gl X "range") (hm:X.mg "range" = none) (ha:PA X [a] (tA C g)) (hl:∀ρ r,g ρ=.ok r→r.length=1) (hs:starEach [a] X.env=[(false,eval a X.env)]):PI X tg (.Call (.Name "range" p) [a] [] pos) (tI C (qtN g)):=
 qd6 (pi_range1 hg hm ha hs) fun σ H R q=>by
  obtain⟨ρ,P,N,S,h⟩:=q
  refine⟨ρ,P,N,S,h.bind.mono fun r P1 N1 H1 e1 a1 h1 vs rv=>?_⟩
  have r1:=(S.adv a1).reg
  match r,hl _ _ e1,rv,h1 with
  |[x],_,rv,h1 =>
   obtain⟨v,u,rfl,w,rv⟩:=rv.w r1
   cases rv
   simp only[qem,qek,qa2,qan,qbh,qbi,qbn,qbj,qbs,qbg,qa5,qbl] at h1
   split at h1
   ·rename_i n q
    rw[q] at w
    split at h1
    ·rename_i hl
     have hl:=qj7 hl
     refine⟨n,by rw[w.int],hl.1.1,hl.1.2,?_⟩
     exact h1.now r1 _ (qmw 0 n.toNat)
    ·exact h1.elim
   ·exact h1.elim
theorem qoj {tg a b:Expr} {g:List Sl→RE (List ER)} {p pos:Pos} (hg:Gl X "range") (hm:X.mg "range" = none) (ha:PA X [a,b] (tA C g)) (hl:∀ρ r,g ρ=.ok r→r.length=2) (hs:starEach [a,b] X.env=[(false,eval a X.env),(false,eval b X.env)]) (hs2:starEach [b] X.env=[(false,eval b X.env)]) :
  PI X tg (.Call (.Name "range" p) [a,b] [] pos) (tI C (qtN g)):=
 qd6 (pi_range2 hg hm ha hs hs2) fun σ H R q=>by
  obtain⟨ρ,P,N,S,h⟩:=q
  refine⟨ρ,P,N,S,h.bind.mono fun r P1 N1 H1 e1 a1 h1 vs rv=>?_⟩
  have r1:=(S.adv a1).reg
  match r,hl _ _ e1,rv,h1 with
  |[x,y],_,rv,h1 =>
   obtain⟨v,u,rfl,w,rv⟩:=rv.w r1
   obtain⟨v2,u2,rfl,w2,rv⟩:=rv.w r1
   cases rv
   simp only[qem,qek,qa2,qan,qbh,qbi,qbn,qbj,qbs,qbg,qa5,qbl] at h1
   split at h1
   ·rename_i i j q q2
    rw[q] at w
    rw[q2] at w2
    split at h1
    ·rename_i hl
     have hl:=qmo hl
     refine⟨i,j,by rw[w.int,w2.int],⟨hl.1.1,hl.1.2,hl.2.1.1,hl.2.1.2⟩,?_⟩
     exact h1.now r1 _ (qmw i (j - i).toNat)
    ·exact h1.elim
   ·exact h1.elim
theorem qrf {tg a:Expr} {g:List Sl→RE ER} {p p2 pos pos2:Pos} (hg:Gl X "reversed") (hm:X.mg "reversed" = none) (hg2:Gl X "range") (hm2:X.mg "range" = none) (ha:PE X a (tE C g)) (hs:starEach [a] X.env=[(false,eval a X.env)]) :
  PI X tg (.Call (.Name "reversed" p2) [.Call (.Name "range" p) [a] [] pos] [] pos2) (tI C fun ρ=>(g ρ).bind fun x=>match x.d with
  |.int n=>gd (qlV n) (.ok ⟨(qfx (0+(((n - 0).toNat:Nat):Int) - 1) (-1) (n - 0).toNat).map D.int,true,false⟩)
  |_=>.bad):=
 qd6 (pi_revR hg hm (prg_1 hg2 hm2 ha hs)) fun σ H R q=>by
  obtain⟨ρ,P,N,S,h⟩:=q
  refine⟨ρ,P,N,S,h.bind.mono fun x P1 N1 H1 e1 a1 h1 v rv=>?_⟩
  have r1:=(S.adv a1).reg
  split at h1
  ·rename_i n q
   have w:=rv.w r1
   rw[q] at w
   simp only[qek] at h1
   split at h1
   ·rename_i hl
    have hl:=qj7 hl
    refine⟨n,w.int,by decide,by decide,hl.1.1,hl.1.2,?_⟩
    exact h1.now r1 _ (qk5 _ (-1) _)
   ·exact h1.elim
  ·exact h1.elim
theorem qsS {i j c:Int} (h:c≠0∧c.natAbs<1073741824∧Builtin.Range.small i j c=true∧0≤Builtin.Range.rangeSize i j c∧qrG i j c≤LIM):RgC i j c (qrG i j c):=
 ⟨h.1,h.2.1,h.2.2.1,(Int.toNat_of_nonneg h.2.2.2.1).symm⟩
theorem qoG {tg a b c:Expr} {g:List Sl→RE (List ER)} {p pos:Pos} (hg:Gl X "range") (hm:X.mg "range" = none) (ha:PA X [a,b,c] (tA C g)) (hl:∀ρ r,g ρ=.ok r→r.length=3) (hs:starEach [a,b,c] X.env=(false,eval a X.env)::starEach [b,c] X.env) (hpl:(backTo pos (starEach [b,c] X.env)).any (·.1)=false) :
  PI X tg (.Call (.Name "range" p) [a,b,c] [] pos) (tI C (qtN g)):=
 qd6 (pi_range3 hg hm ha hs hpl) fun σ H R q=>by
  obtain⟨ρ,P,N,S,h⟩:=q
  refine⟨ρ,P,N,S,h.bind.mono fun r P1 N1 H1 e1 a1 h1 vs rv=>?_⟩
  have r1:=(S.adv a1).reg
  match r,hl _ _ e1,rv,h1 with
  |[x,y,z],_,rv,h1 =>
   obtain⟨v,u,rfl,w,rv⟩:=rv.w r1
   obtain⟨v2,u2,rfl,w2,rv⟩:=rv.w r1
   obtain⟨v3,u3,rfl,w3,rv⟩:=rv.w r1
   cases rv
   simp only[qem,qek,qa2,qan,qbh,qbi,qbn,qbj,qbs,qbg,qa5,qbl] at h1
   split at h1
   ·rename_i i j c q q2 q3
    rw[q] at w
    rw[q2] at w2
    rw[q3] at w3
    split at h1
    ·rename_i hl
     exact⟨i,j,c,_,by rw[w.int,w2.int,w3.int],qsS hl,h1.now r1 _ (qk5 i c _)⟩
    ·exact h1.elim
   ·exact h1.elim
theorem qlk {P N H H':Hp} (r:Reg C P N H) {T:Addr} {x y:V} {d e:D} {b:Bool} (hT:H T=none) (eH:H'=upd H T (.tup [x,y])) (h:RepB C P N b d x) (h':RepB C P N b e y):∃P3,Adv P N H P3 N H'∧RepB C P3 N b (.tup [d,e]) (.ref T):=by
 subst eH
 have sp:=qaI (o:=.tup [x,y]) (r.pH.free hT)
 exact⟨upd P T (.tup [x,y]),(Adv.refl r.pH r.nH).newP hT,T,[x,y],rfl,.inl (.inl upd_same),x,[y],rfl,RepB.adv sp (L2.Same.refl _) h,y,[],rfl,RepB.adv sp (L2.Same.refl _) h',rfl⟩
theorem qs0 {a:Expr} {elts:List Expr} {kk:Nat} {g:List Sl→RE ER} {p pos tpos:Pos} (hK:X.K=C.G.K) (hg:Gl X "enumerate") (hm:X.mg "enumerate" = none) (h:PE X a (tE C g)) (hs:starEach [a] X.env=[(false,eval a X.env)]) :
  PI X (.Tuple elts kk tpos) (.Call (.Name "enumerate" p) [a] [] pos) (tI C fun ρ=>(g ρ).bind fun x=>match x.d with
  |.lst xs=>.ok ⟨xs.zipIdx.map fun p=>.tup [.int p.2,p.1],x.b,x.isB⟩
  |_=>.bad):=
 qd6 (pi_enum hg hm (pa_cons h pa_nil hs) hs) fun σ H R q=>by
  rw[hK]
  obtain⟨ρ,P,N,S,h⟩:=q
  refine⟨ρ,P,N,S,h.bind.mono fun x P1 N1 H1 e1 a1 h1 v rv=>?_⟩
  obtain⟨N2,a2,rv⟩:=rv.freeze a1
  have r2:=(S.adv a2).reg
  cases q:x.d with
  |lst ds =>
   simp only[e1,RE.bind_ok,q] at h
   have h2:=res.adv a2 h
   obtain⟨p,xs,rfl,z1,z2,z3⟩:=rv.frz_lst r2 q
   refine⟨p,xs,rfl,z1,h2.now r2 _ ⟨fun H=>SqL C.G.K H p xs,YPair (fun i=>some (.int (i:Nat))) (fun i=>xs[i]?),?_,fun H2 e=>L2.Same.seq e z1,fun e P2 N2 H2 e1 e2 r2=>?_,fun i P2 N2 H2 x H3 hi e1 e2 r2 y=>?_⟩⟩
   ·have:=walk_enum (K:=C.G.K) (a:=p) (xs:=xs)
    rw[z2.length] at this
    simpa using this
   ·exact LNb.seq r2.pH r2.nH r2.rH _ _ (LNb.mono e1 e2 _ _ (z3 (by rw[qgp];exact e)))
   ·obtain⟨T,x,y,rfl,hT,eH,ex,ey⟩:=y
    cases ex
    have hi:i<ds.length:=by simpa using hi
    obtain⟨v,q1,q2⟩:=Reps.get z2 (List.getElem?_eq_getElem hi)
    replace ey:xs[i]? = some y:=ey
    rw[q1] at ey;cases ey
    obtain⟨P3,q3,q4⟩:=qlk r2 hT eH (d:=.int i) rfl (RepB.adv e1 e2 q2)
    exact⟨P3,q3,_,by simp[hi],q4⟩
  |_=>simp only[q] at h1;exact h1.elim
theorem qsk {tg a:Expr} {g:List Sl→RE ER} {p pos:Pos} (hK:X.K=C.G.K) (hg:Gl X "reversed") (hm:X.mg "reversed" = none) (h:PE X a (tE C g)) (hs:starEach [a] X.env=[(false,eval a X.env)]) :
  PI X tg (.Call (.Name "reversed" p) [a] [] pos) (tI C fun ρ=>(g ρ).bind fun x=>match x.d with
  |.lst xs=>.ok ⟨xs.reverse,x.b,x.isB⟩
  |_=>.bad):=
 qd6 (pi_reversed hg hm (pa_cons h pa_nil hs) hs) fun σ H R q=>by
  rw[hK]
  obtain⟨ρ,P,N,S,h⟩:=q
  refine⟨ρ,P,N,S,h.bind.mono fun x P1 N1 H1 e1 a1 h1 v rv=>?_⟩
  obtain⟨N2,a2,rv⟩:=rv.freeze a1
  have r2:=(S.adv a2).reg
  cases q:x.d with
  |lst ds =>
   simp only[e1,RE.bind_ok,q] at h
   have h2:=res.adv a2 h
   obtain⟨p,xs,rfl,z1,z2,z3⟩:=rv.frz_lst r2 q
   refine⟨p,xs,rfl,z1,h2.now r2 _ ⟨fun H=>SqL C.G.K H p xs,fun i H x H'=>H'=H∧xs[xs.length - 1 - i]? = some x,?_,fun H2 e=>L2.Same.seq e z1,fun e P2 N2 H2 e1 e2 r2=>?_,fun i P2 N2 H2 x H3 hi e1 e2 r2 y=>?_⟩⟩
   ·have:=walk_rev (K:=C.G.K) (a:=p) (xs:=xs)
    have e:=z2.length
    simp only[List.length_reverse]
    rw[←e]
    exact this
   ·exact LNb.seq r2.pH r2.nH r2.rH _ _ (LNb.mono e1 e2 _ _ (z3 (by rw[qgp];exact e)))
   ·obtain⟨rfl,ex⟩:=y
    have hi:i<ds.length:=by simpa using hi
    have hj:ds.length - 1 - i<ds.length:=by omega
    rw[z2.length] at ex
    obtain⟨v,q1,q2⟩:=Reps.get z2 (List.getElem?_eq_getElem hj)
    rw[q1] at ex;cases ex
    refine⟨P2,Adv.refl r2.pH r2.nH,_,?_,RepB.adv e1 e2 q2⟩
    rw[List.getElem?_reverse hi,List.getElem?_eq_getElem]
  |_=>simp only[q] at h1;exact h1.elim
theorem qsM {a a':Expr} {elts:List Expr} {kk:Nat} {g g':List Sl→RE ER} {p pos tpos:Pos} (hK:X.K=C.G.K) (hg:Gl X "zip") (hm:X.mg "zip" = none) (h:PE X a (tE C g)) (h':PE X a' (tE C g')) (hs:starEach [a,a'] X.env=(false,eval a X.env)::starEach [a'] X.env) (hs2:starEach [a'] X.env=[(false,eval a' X.env)]) (hpl:(backTo pos (starEach [a'] X.env)).any (·.1)=false) :
  PI X (.Tuple elts kk tpos) (.Call (.Name "zip" p) [a,a'] [] pos) (tI C fun ρ=>(g ρ).bind fun x=>(g' ρ).bind fun y=>match x.d,y.d with
  |.lst xs,.lst ys=>.ok ⟨List.zipWith (fun u v=>.tup [u,v]) xs ys,x.b&&y.b,x.isB||y.isB⟩
  |_,_=>.bad):=
 qd6 (pi_zip hg hm (pa_cons h (pa_cons h' pa_nil hs2) hs) hs hpl) fun σ H R q=>by
  rw[hK]
  obtain⟨ρ,P,N,S,h⟩:=q
  refine⟨ρ,P,N,S,h.bind.mono fun x P1 N1 H1 e1 a1 h1 v rv=>?_⟩
  obtain⟨N2,a2,rv⟩:=rv.freeze a1
  simp only[e1,RE.bind_ok] at h
  have h2:=res.adv a2 h
  refine⟨ρ,P1,N2,S.adv a2,(res.bind h2).mono fun y P3 N3 H3 e3 a3 h3 u ru=>?_⟩
  obtain⟨N4,a4,ru⟩:=ru.freeze a3
  have r4:=((S.adv a2).adv a4).reg
  simp only[e3,RE.bind_ok] at h2
  have h4:=res.adv a4 h2
  have rv4:=rv.adv a4
  split at h4
  ·rename_i ds es q q2
   obtain⟨p,xs,rfl,z1,z2,z3⟩:=rv4.frz_lst r4 q
   obtain⟨p2,ys,rfl,y1,y2,y3⟩:=ru.frz_lst r4 q2
   refine⟨p,p2,xs,ys,rfl,z1,y1,h4.now r4 _ ⟨fun H=>SqL C.G.K H p xs∧SqL C.G.K H p2 ys,YPair (fun i=>xs[i]?) (fun i=>ys[i]?),?_,fun H2 e=>⟨L2.Same.seq e z1,L2.Same.seq e y1⟩,fun e P2 N2 H2 e1 e2 r2=>?_,fun i P2 N2 H2 x H3 hi e1 e2 r2 y=>?_⟩⟩
   ·have:=walk_zip (K:=C.G.K) (a:=p) (b:=p2) (xs:=xs) (ys:=ys) rfl
    rw[z2.length,y2.length] at this
    simpa using this
   ·simp only[Bool.or_eq_false_iff] at e
    exact⟨LNb.seq r2.pH r2.nH r2.rH _ _ (LNb.mono e1 e2 _ _ (z3 (by rw[qgp];exact e.1))),LNb.seq r2.pH r2.nH r2.rH _ _ (LNb.mono e1 e2 _ _ (y3 (by rw[qgp];exact e.2)))⟩
   ·obtain⟨T,x,y,rfl,hT,eH,ex,ey⟩:=y
    have hi':i<ds.length∧i<es.length:=by
     have:i<min ds.length es.length:=by simpa using hi
     omega
    replace ex:xs[i]? = some x:=ex
    replace ey:ys[i]? = some y:=ey
    obtain⟨v,q1,q2⟩:=Reps.get z2 (List.getElem?_eq_getElem hi'.1)
    rw[q1] at ex;cases ex
    obtain⟨v,q5,q6⟩:=Reps.get y2 (List.getElem?_eq_getElem hi'.2)
    rw[q5] at ey;cases ey
    obtain⟨P3,q3,q4⟩:=qlk r2 hT eH (RepB.adv e1 e2 (RepB.and1 q2)) (RepB.adv e1 e2 (RepB.and2 q6))
    exact⟨P3,q3,_,by rw[List.getElem?_zipWith,List.getElem?_eq_getElem hi'.1,List.getElem?_eq_getElem hi'.2],q4⟩
  ·exact h4.elim
end
end Cm
namespace Cm
open PySem PySem.Spec PyProof.Rows L2
def Ctx.nx (C:Ctx):Ctx:={ C with W:=fun _ _ _ _=>False }
section
variable {C:Ctx} {X:Cx}
theorem Reg.nx {P N H:Hp} (r:Reg C P N H):Reg C.nx P N H:=⟨r.pH,r.nH,r.bH,r.rB,r.p0,r.pn,r.nw,r.dj⟩
theorem Reg.unx {P N H:Hp} (r:Reg C.nx P N H):Reg C P N H:=⟨r.pH,r.nH,r.bH,r.rB,r.p0,r.pn,r.nw,r.dj⟩
theorem SlR.nx {P N H:Hp} {s:Sl} {o:Option V} (h:SlR C P N H s o):SlR C.nx P N H s o:=by cases s<;>exact h
theorem SR.nx {P N H:Hp} {ρ:List Sl} {σ:L2.St} (S:SR C P N H ρ σ):SR C.nx P N H ρ σ:=⟨S.reg.nx,S.len,fun i s e=>by
 obtain⟨o,h1,h2⟩:=S.sl i s e
 exact⟨o,h1,h2.nx⟩,S.ap,S.ad,S.ar⟩
theorem ERr.unx {P N H H0:Hp} {er:ER} {v:V} (h:ERr C.nx P N H H0 er v):ERr C P N H H0 er v:=by cases er<;>exact h
theorem qbO {σ:L2.St}:∀{vs:List Nat} {j:Nat},j∉vs→(wipe σ vs)[j]? = σ[j]?
 |[],_,_=>rfl
 |v::vs,j,h=>by
  simp only[List.mem_cons,not_or] at h
  unfold wipe
  rw[List.getElem?_set_ne (fun z=>h.1 z.symm)]
  exact qbO h.2
theorem qkC {σ:L2.St}:∀{vs:List Nat} {j:Nat},j∈vs→j<σ.length→(wipe σ vs)[j]? = some none
 |v::vs,j,h,hj=>by
  unfold wipe
  by_cases q:v=j
  ·subst q
   rw[List.getElem?_set_self (by rw[wipe_length];exact hj)]
  ·rw[List.getElem?_set_ne q]
   rcases List.mem_cons.mp h with h | h
   ·exact absurd h.symm q
   ·exact qkC h hj
theorem qmM {σ σ':L2.St} {vs:List Nat} (hl:σ'.length=σ.length) (h:∀j,j∉vs→σ'[j]? = σ[j]?):wipe σ' vs=wipe σ vs:=by
 apply List.ext_getElem?
 intro j
 by_cases q:j∈vs
 ·by_cases hj:j<σ.length
  ·rw[qkC q hj,qkC q (by rw[hl];exact hj)]
  ·rw[List.getElem?_eq_none (by rw[wipe_length];omega),List.getElem?_eq_none (by rw[wipe_length];omega)]
 ·rw[qbO q,qbO q,h j q]
theorem qmA {σ:L2.St} {vs:List Nat}:wipe (wipe σ vs) vs=wipe σ vs:=by
 refine qmM (wipe_length _ _) fun j h=>qbO h
theorem qgz {ρ:List Sl}:∀{vs:List Nat},(wipeS ρ vs).length=ρ.length
 |[]=>rfl
 |v::vs=>by unfold wipeS;rw[List.length_set];exact qgz
theorem qcD {ρ:List Sl}:∀{vs:List Nat} {j:Nat} {s:Sl},(wipeS ρ vs)[j]? = some s→s=.non∨(j∉vs∧ρ[j]? = some s)
 |[],_,_,h=>.inr ⟨by simp,h⟩
 |v::vs,j,s,h=>by
  unfold wipeS at h
  by_cases q:v=j
  ·subst q
   by_cases hv:v<(wipeS ρ vs).length
   ·rw[List.getElem?_set_self hv] at h;cases h;exact .inl rfl
   ·rw[List.getElem?_eq_none (by simpa using hv)] at h;cases h
  ·rw[List.getElem?_set_ne q] at h
   rcases qcD h with h | h
   ·exact .inl h
   ·exact .inr ⟨by simp only[List.mem_cons,not_or];exact⟨fun z=>q z.symm,h.1⟩,h.2⟩
theorem SR.wiped {P N H:Hp} {ρ:List Sl} {σ:L2.St} (S:SR C P N H ρ σ) (vs:List Nat):SR C P N H (wipeS ρ vs) (wipe σ vs) where
 reg:=S.reg
 len:=by rw[wipe_length,qgz,S.len]
 sl:=fun i s e=>by
  rcases qcD e with rfl | ⟨h1,h2⟩
  ·have hi:i<(wipeS ρ vs).length:=by
    rcases Nat.lt_or_ge i (wipeS ρ vs).length with z | z
    ·exact z
    ·rw[List.getElem?_eq_none z] at e;cases e
   rw[qgz,←S.len,←wipe_length σ vs] at hi
   exact⟨_,List.getElem?_eq_getElem hi,trivial⟩
  ·rw[qbO h1]
   exact S.sl i s h2
 ap:=fun i j p ds b es c e1 e2 e3 e4=>by
  rcases qcD e1 with z | ⟨h1,h2⟩
  ·cases z
  rcases qcD e2 with z | ⟨h3,h4⟩
  ·cases z
  rw[qbO h1] at e3
  rw[qbO h3] at e4
  exact S.ap i j p ds b es c h2 h4 e3 e4
 ad:=S.ad.sub fun i m b e=>by
  rcases qcD e with z | ⟨h1,h2⟩
  ·cases z
  ·exact⟨qbO h1,_,_,h2⟩
 ar:=⟨fun i j dss t o u a e1 e2 e3 e4 k1 k2=>by
  rcases qcD e1 with z | ⟨h1,h2⟩
  ·cases z
  rcases qcD e2 with z | ⟨h3,h4⟩
  ·subst z;cases k2
  rw[qbO h1] at e3
  rw[qbO h3] at e4
  exact S.ar.un i j dss t o u a h2 h4 e3 e4 k1 k2⟩
def tIl (C:Ctx) (g:List Sl→RE Wk):TI:=fun σ H R=>∃ρ P N,SR C P N H ρ σ∧res C σ P N H (g ρ) fun w P' N' H'=>∀J,Wok C P' N' H' w J→w.xs.length≤sizeLine→R J H'
abbrev gLc (own tg:List Nat) (gi:List Sl→RE Wk) (gc:List Sl→RE Bool) (ge:List Sl→RE ER):List Sl→RE ER:=fun ρ=>(gi ρ).bind fun xs=>gd (leB xs.xs.length) ((lcl (fun x=>match qe7 tg x xs.b (wipeS ρ own) with
   |some ρ'=>noX ((gc ρ').bind fun k=>if k=true then (ge ρ').bind fun y=>match y with
    |.brw _ _=>.bad
    |y=>.ok (some (y.d,y.b)) else .ok none)
   |none=>.bad) xs.xs).bind fun r=>.ok (.fre r.1 r.2))
theorem qpj {f:D→RE (Option (D × Bool))} {x:D} {xs:List D} {r:List D × Bool} (h:lcl f (x::xs)=.ok r):∃a q,f x=.ok a∧lcl f xs=.ok q∧r=match a with
  |none=>q
  |some y=>(y.1::q.1,y.2&&q.2):=by
 unfold lcl at h
 cases e:f x with
 |bad=>rw[e] at h;cases h
 |exc c fs=>rw[e] at h;cases h
 |ok a =>
  rw[e] at h
  cases e2:lcl f xs with
  |bad=>rw[e2] at h;cases h
  |exc c fs=>rw[e2] at h;cases h
  |ok q =>
   rw[e2] at h
   refine⟨a,q,rfl,rfl,?_⟩
   cases a<;>cases h<;>rfl
theorem qpM {f:D→RE (Option (D × Bool))} (hf:∀x,qgT (f x)):∀xs,qgT (lcl f xs)
 |[]=>trivial
 |x::xs=>by
  unfold lcl
  have h1:=hf x
  have h2:=qpM hf xs
  cases e:f x with
  |bad=>trivial
  |exc c fs=>rw[e] at h1;exact h1.elim
  |ok a =>
   cases e2:lcl f xs with
   |bad=>trivial
   |exc c fs=>rw[e2] at h2;exact h2.elim
   |ok q=>cases a<;>trivial
theorem qso {α:Type} (r:RE α):qgT (noX r):=by cases r<;>trivial
theorem qsy {α:Type} {r:RE α} {a:α} (h:noX r=.ok a):r=.ok a:=by
 cases r with
 |bad=>cases h
 |ok b=>exact h
 |exc c fs=>cases h
theorem qpK {own tg:List Nat} {gi:List Sl→RE Wk} {gc:List Sl→RE Bool} {ge:List Sl→RE ER} (hsub:∀i∈tg,i∈own) {σ:L2.St} {H:Hp} {Q:VK} (h:tE C (gLc own tg gi gc ge) σ H Q) :
  tLc (tI C gi) (tG C.nx tg) (tT C.nx gc) (tE C.nx ge) own σ H Q:=by
 obtain⟨ρ,P,N,S,h⟩:=h
 refine⟨ρ,P,N,S,h.bind.mono fun w P1 N1 H1 e1 a1 h1 J wj D hD=>?_⟩
 have S1:=S.adv a1
 simp only[qek,qan] at h1
 split at h1
 case isFalse=>exact h1.elim
 rename_i hlen
 generalize hf:(fun x=>match qe7 tg x w.b (wipeS ρ own) with
   |some ρ'=>noX ((gc ρ').bind fun k=>if k=true then (ge ρ').bind fun y=>match y with
    |.brw _ _=>.bad
    |y=>.ok (some (y.d,y.b)) else .ok none)
   |none=>.bad)=f at h1
 have fnx:∀x,qgT (f x):=fun x=>by
  subst hf
  simp only
  split
  ·exact qso _
  ·trivial
 cases e2:lcl f w.xs with
 |bad=>rw[e2] at h1;exact h1.elim
 |exc c fs=>have:=qpM fnx w.xs;rw[e2] at this;exact this.elim
 |ok tot =>
  rw[e2] at h1
  obtain⟨Gd,Y,wk,grow,_,item⟩:=wj
  refine lc_it wk (Pv:=fun i Hi=>∃(P N:Hp) (acc:List V) (ds:List Cm.D) (b:Bool) (rest:List Cm.D × Bool),Adv P1 N1 H1 P N Hi∧Hi D=some (.lst acc)∧P D=none∧N D=none∧RepsB C P N b ds acc∧ds.length≤i∧lcl f (w.xs.drop i)=.ok rest∧tot.1=ds++rest.1∧tot.2=(b&&rest.2)) ?_ (fun i Hi hi p=>?_) (fun i x Hi H' hi p y=>?_) (fun Hi p=>?_)
  ·exact⟨P1,N1,[],[],true,tot,(Adv.refl S1.reg.pH S1.reg.nH).heap (qaI hD),upd_same,S1.reg.pH.free hD,S1.reg.nH.free hD,rfl,Nat.le_refl _,by simpa using e2,rfl,by simp⟩
  ·obtain⟨P,N,acc,ds,b,rest,a,_⟩:=p
   exact grow Hi a.hh
  ·obtain⟨P2,N2,acc,ds,b,rest,a,hDi,pD,nD,rr,hdl,el,et,eb⟩:=p
   obtain⟨P3,a3,d,ed,rd⟩:=item i P2 N2 Hi x H' hi a.pp a.nn (S1.adv a).reg y
   have hdrop:w.xs.drop i=d::w.xs.drop (i+1):=by
    obtain⟨hi',e⟩:=List.getElem?_eq_some_iff.mp ed
    rw[List.drop_eq_getElem_cons hi',e]
   rw[hdrop] at el
   obtain⟨r1,q,ef,eq,er⟩:=qpj el
   have aa:=a.trans a3
   have hD':=a3.hh _ _ hDi
   have pD3:=a3.off hDi pD
   subst hf
   simp only at ef
   split at ef
   case h_2=>cases ef
   rename_i ρ' eb'
   have ef:=qsy ef
   refine⟨wipeS ρ own,P3,N2,d,w.b,ρ',((S1.adv aa).wiped own).nx,rd,eb',fun σ' S' hj hl=>⟨?_,?_⟩⟩
   ·rw[qmM (σ:=wipe σ own) hl fun j h=>hj j fun z=>h (hsub j z),qmA]
   ·cases e5:gc ρ' with
    |bad=>rw[e5] at ef;cases ef
    |exc c fs=>rw[e5] at ef;cases ef
    |ok k =>
     rw[e5,RE.bind_ok] at ef
     refine⟨ρ',P3,N2,S',?_⟩
     rw[e5]
     intro P4 N4 H4 a4
     have hD4:=a4.hh _ _ hD'
     have pD4:=a4.off hD' pD3
     have nD4:=a4.offN hD' nD
     cases k with
     |false =>
      simp only[Bool.false_eq_true,if_false] at ef ⊢
      cases ef
      have er':rest=q:=er
      exact⟨P4,N4,acc,ds,b,q,aa.trans a4,hD4,pD4,nD4,RepsB.adv (a3.pp.trans a4.pp) a4.nn rr,Nat.le_succ_of_le hdl,eq,by rw[et,er'],by rw[eb,er']⟩
     |true =>
      simp only[if_true] at ef ⊢
      cases e6:ge ρ' with
      |bad=>rw[e6] at ef;cases ef
      |exc c fs=>rw[e6] at ef;cases ef
      |ok y =>
       rw[e6,RE.bind_ok] at ef
       refine⟨ρ',P4,N4,S'.adv a4,?_⟩
       rw[e6]
       intro P5 N5 H5 a5 v rv
       have rv:=rv.unx
       obtain⟨N6,a6,rv6⟩:=rv.freeze a5
       have hD6:=a6.hh _ _ hD4
       have pD6:=a6.off hD4 pD4
       have nD6:=a6.offN hD4 nD4
       have ry:r1=some (y.d,y.b)∧RepB C P5 N6 y.b y.d v:=by
        cases y with
        |val d' b'=>exact⟨(RE.ok.inj ef).symm,rv6⟩
        |fre d' b'=>exact⟨(RE.ok.inj ef).symm,rv6⟩
        |brw d' b'=>cases ef
       obtain⟨rfl,rv7⟩:=ry
       have er':rest=(y.d::q.1,y.b&&q.2):=er
       have full:=((a.trans a3).trans a4).trans a6
       have hl2:acc.length=ds.length:=rr.length
       refine⟨acc,hD6,?_,P5,N6,acc++[v],ds++[y.d],b&&y.b,q,⟨?_,full.pp,full.nn,qaJ full.pH pD6,qaJ full.nH nD6,full.pn,full.nw,full.dj⟩,upd_same,pD6,nD6,?_,?_,eq,?_,?_⟩
       ·have:w.xs.length≤sizeLine:=hlen
        omega
       ·exact qaJ full.hh hD
       ·exact Reps.append (RepsB.and1 (RepsB.adv ((a3.pp.trans a4.pp).trans a6.pp) (a4.nn.trans a6.nn) rr)) (Reps.one (RepB.and2 rv7))
       ·simp only[List.length_append,List.length_singleton];omega
       ·rw[et,er'];simp
       ·rw[eb,er'];simp[Bool.and_assoc]
  ·obtain⟨P2,N2,acc,ds,b,rest,a,hDi,pD,nD,rr,hdl,el,et,eb⟩:=p
   rw[List.drop_length] at el
   cases el
   have et':tot.1=ds:=by simpa using et
   have eb':tot.2=b:=by simpa using eb
   refine h1 P2 N2 Hi a _ ⟨D,acc,rfl,hDi,a1.hh.free hD,pD,nD,?_⟩
   rw[et',eb']
   exact rr
end
end Cm
namespace Cm
open PySem PySem.Spec PyProof.Rows L2
section
variable (C:Ctx)
def outS (P0 N0:Hp) (D:Ends) (o:Out):Prop:=
 match o with
 |.bad=>False
 |.nx ρ=>∀σ P N H,SR C P N H ρ σ→L2.Same P0 P→L2.Same N0 N→D.nx σ H
 |.brk ρ=>∀σ P N H,SR C P N H ρ σ→L2.Same P0 P→L2.Same N0 N→D.bk σ H
 |.cnt ρ=>∀σ P N H,SR C P N H ρ σ→L2.Same P0 P→L2.Same N0 N→D.ct σ H
 |.ret er=>∀v P N H,Reg C P N H→ERr C P N H C.B er v→D.rt v H
 |.exc c fs=>∀σ d P N H,Reg C P N H→ExR C P N H fs d→C.W (.ref (C.G.ca c)) d σ H
def tS (g:List Sl→Out):TS:=fun D σ H=>∃ρ P N,SR C P N H ρ σ∧outS C P N D (g ρ)
end
section
variable {C:Ctx} {X:Cx}
theorem outS.res {α:Type} {D:Ends} {σ:L2.St} {P N H:Hp} {r:RE α} {f:α→Out} (rg:Reg C P N H) (h:outS C P N D (r.out f)):res C σ P N H r fun a _ _ _=>outS C P N D (f a):=by
 cases r with
 |bad=>exact h
 |ok a=>exact fun _ _ _ _=>h
 |exc c fs=>exact fun d P' N' H' a x=>h σ d P' N' H' (rg.adv a) x
theorem outS.adv {P N P' N':Hp} {D:Ends} {o:Out} (h:outS C P N D o) (hp:L2.Same P P') (hn:L2.Same N N'):outS C P' N' D o:=by
 cases o with
 |bad=>exact h
 |nx ρ=>exact fun σ P2 N2 H S e1 e2=>h σ P2 N2 H S (hp.trans e1) (hn.trans e2)
 |brk ρ=>exact fun σ P2 N2 H S e1 e2=>h σ P2 N2 H S (hp.trans e1) (hn.trans e2)
 |cnt ρ=>exact fun σ P2 N2 H S e1 e2=>h σ P2 N2 H S (hp.trans e1) (hn.trans e2)
 |ret er=>exact h
 |exc c fs=>exact h
theorem outS.mono {P0 N0:Hp} {D D':Ends} {o:Out} (h:outS C P0 N0 D o) (h1:∀σ H,D.nx σ H→D'.nx σ H) (h2:∀v H,D.rt v H→D'.rt v H) (h3:∀σ H,D.bk σ H→D'.bk σ H) (h4:∀σ H,D.ct σ H→D'.ct σ H):outS C P0 N0 D' o:=by
 cases o with
 |bad=>exact h
 |nx ρ=>exact fun σ P N H S e1 e2=>h1 _ _ (h σ P N H S e1 e2)
 |brk ρ=>exact fun σ P N H S e1 e2=>h3 _ _ (h σ P N H S e1 e2)
 |cnt ρ=>exact fun σ P N H S e1 e2=>h4 _ _ (h σ P N H S e1 e2)
 |ret er=>exact fun v P N H S e=>h2 _ _ (h v P N H S e)
 |exc c fs=>exact h
theorem qaj {s:Stmt} {t u:TS} (h:PS X s t) (f:∀D σ H,u D σ H→t D σ H):PS X s u:=⟨fun pins s σ H D I q=>h.run pins s σ H D I (f _ _ _ q)⟩
theorem qbq {s:List Stmt} {t u:TS} (h:PSs X s t) (f:∀D σ H,u D σ H→t D σ H):PSs X s u:=⟨fun pins s σ H D I q=>h.run pins s σ H D I (f _ _ _ q)⟩
theorem qmz {s:Stmt}:PS X s (tS C fun _=>.bad):=qaj ps_never fun D σ H q=>by obtain⟨ρ,P,N,S,h⟩:=q;exact h
theorem qos {pos:Pos}:PS X (.Pass pos) (tS C fun ρ=>.nx ρ):=qaj ps_pass fun D σ H q=>by obtain⟨ρ,P,N,S,h⟩:=q;exact h σ P N H S (L2.Same.refl _) (L2.Same.refl _)
theorem qqf {x:Str} {j:Nat} {pos pos':Pos}:PS X (.Expr (.Constant (.str x) j pos) pos') (tS C fun ρ=>.nx ρ):=qaj ps_doc fun D σ H q=>by obtain⟨ρ,P,N,S,h⟩:=q;exact h σ P N H S (L2.Same.refl _) (L2.Same.refl _)
theorem qp0 {pos:Pos}:PS X (.Break pos) (tS C fun ρ=>.brk ρ):=qaj ps_break fun D σ H q=>by obtain⟨ρ,P,N,S,h⟩:=q;exact h σ P N H S (L2.Same.refl _) (L2.Same.refl _)
theorem qqe {pos:Pos}:PS X (.Continue pos) (tS C fun ρ=>.cnt ρ):=qaj ps_continue fun D σ H q=>by obtain⟨ρ,P,N,S,h⟩:=q;exact h σ P N H S (L2.Same.refl _) (L2.Same.refl _)
theorem qox {pos:Pos}:PS X (.Return none pos) (tS C fun _=>.ret (.val .non true)):=qaj ps_retN fun D σ H q=>by obtain⟨ρ,P,N,S,h⟩:=q;exact h .non P N H S.reg rfl
theorem qre {e:Expr} {g:List Sl→RE ER} {pos:Pos} (h:PE X e (tE C g)):PS X (.Return (some e) pos) (tS C fun ρ=>(g ρ).out fun x=>.ret (qtM x)):=
 qaj (ps_ret h) fun D σ H q=>by
  obtain⟨ρ,P,N,S,h⟩:=q
  refine⟨ρ,P,N,S,(h.res S.reg).mono fun x P1 N1 H1 _ a1 h1 v rv=>?_⟩
  have r1:=(S.adv a1).reg
  refine h1 v P1 N1 H1 r1 ?_
  cases x with
  |val d b=>exact rv
  |fre ds b=>exact rv.from S.reg.bH
  |brw ds b =>
   obtain⟨p,xs,e,z1,z2,z3,z4,z5⟩:=rv
   exact⟨p,xs,e,z1,z4,z2,z3,z5⟩
theorem qn9 {e:Expr} {g:List Sl→RE ER} {pos:Pos} (h:PE X e (tE C g)) (hs:swapsWith e none pos.line X.env=pure false):PS X (.Expr e pos) (tS C fun ρ=>(g ρ).out fun _=>.nx ρ):=
 qaj (ps_expr h hs) fun D σ H q=>by
  obtain⟨ρ,P,N,S,h⟩:=q
  exact⟨ρ,P,N,S,(h.res S.reg).mono fun x P1 N1 H1 _ a1 h1 v rv=>h1 σ P1 N1 H1 (S.adv a1) a1.pp a1.nn⟩
theorem qqF {c:Expr} {a b:List Stmt} {gc:List Sl→RE Bool} {ga gb:List Sl→Out} {pos:Pos} (hc:PT X c (tT C gc)) (ha:PSs X a (tS C ga)) (hb:PSs X b (tS C gb)):PS X (.If c a b pos) (tS C fun ρ=>(gc ρ).out fun k=>if k=true then ga ρ else gb ρ):=
 qaj (ps_if hc ha hb) fun D σ H q=>by
  obtain⟨ρ,P,N,S,h⟩:=q
  refine⟨ρ,P,N,S,(h.res S.reg).mono fun k P1 N1 H1 _ a1 h1=>?_⟩
  cases k
  ·exact⟨ρ,P1,N1,S.adv a1,h1.adv a1.pp a1.nn⟩
  ·exact⟨ρ,P1,N1,S.adv a1,h1.adv a1.pp a1.nn⟩
theorem ERr.held {P1 N1 H0 P N H:Hp} {er:ER} {v:V} {f:Cm.D→Bool→Out} {D:Ends} (a:Adv P1 N1 H0 P N H) (h:ERr C P N H H0 er v) (o:outS C P1 N1 D (held er f)):∃N2 d b,Adv P1 N1 H0 P N2 H∧RepB C P N2 b d v∧outS C P1 N1 D (f d b):=by
 cases er with
 |brw ds b=>exact o.elim
 |val d b=>exact⟨N,d,b,a,h,o⟩
 |fre ds b =>
  obtain⟨N2,a2,r2⟩:=h.freeze a
  exact⟨N2,.lst ds,b,a2,r2,o⟩
theorem qp3 {i:Nat} {g:List Sl→RE ER} {D:Ends} {σ:L2.St} {H:Hp} (q:tS C (fun ρ=>(g ρ).out fun x=>held x fun d b=>.nx (ρ.set i (.val d b))) D σ H):tAsg (tE C g) (gName i) D σ H:=by
 obtain⟨ρ,P,N,S,h⟩:=q
 refine⟨ρ,P,N,S,(h.res S.reg).mono fun x P1 N1 H1 _ a1 h1 v rv=>?_⟩
 obtain⟨N2,d,b,a2,r2,o⟩:=rv.held a1 h1
 exact o _ P1 N2 H1 ((S.adv a2).setV r2) a2.pp a2.nn
theorem SR.newW {P0 N0 H0 H:Hp} {ρ:List Sl} {σ:L2.St} (S0:SR C P0 N0 H0 ρ σ) (hs:L2.Same H0 H) {p:Addr} (h0:H0 p=none) {j:Nat} {dss:List (List Cm.D)} {u:Option V} (e1:ρ[j]? = some (.row dss)) (e2:σ[j]? = some u):¬Held H (.row dss) u p:=fun k=>by
 obtain⟨o,z1,z2⟩:=S0.sl j _ e1
 rw[z1] at e2;cases e2
 have k0:Held H0 (.row dss) u p:=by
  obtain⟨q,ps,rfl,y1,_⟩:=z2
  cases k with
  |rt=>exact .rt
  |it e m =>
   rw[hs _ _ y1] at e
   injection e with e
   injection e with e
   rw[←qfe e] at m
   exact .it y1 m
 obtain⟨⟨xs,q⟩,_⟩:=z2.held k0
 rw[h0] at q;cases q
theorem SR.setO {P0 N0 H0 P N H:Hp} {ρ:List Sl} {σ:L2.St} (S0:SR C P0 N0 H0 ρ σ) (S:SR C P N H ρ σ) (hs:L2.Same H0 H) {i:Nat} {ds:List Cm.D} {b:Bool} {p:Addr} {xs:List V} (h0:H0 p=none) (hp:H p=some (.lst xs)) (pP:P p=none) (pN:N p=none) (h:RepsB C P N b ds xs):SR C P N H (ρ.set i (.own ds b)) (σ.set i (some (.ref p))) where
 reg:=S.reg
 len:=by simp[S.len]
 sl:=fun j s e=>by
  by_cases q:i=j
  ·subst q
   have hi:i<ρ.length:=by
    rcases Nat.lt_or_ge i ρ.length with z | z
    ·exact z
    ·rw[List.getElem?_eq_none (by simpa using z)] at e;cases e
   rw[List.getElem?_set_self hi] at e
   cases e
   exact⟨_,List.getElem?_set_self (by rw[S.len];exact hi),p,xs,rfl,hp,pP,pN,S0.reg.bH.free h0,h⟩
  ·rw[List.getElem?_set_ne q] at e
   rw[List.getElem?_set_ne q]
   exact S.sl j s e
 ap:=fun j k r ds' c es c' e1 e2 e3 e4=>by
  have old:∀{m:Nat} {r:Addr} {es:List Cm.D} {c:Bool},i≠m→(ρ.set i (.own ds b))[m]? = some (.own es c)→(σ.set i (some (.ref p)))[m]? = some (some (.ref r))→H0 r≠none:=fun {m r es c} hm e1 e2=>by
   rw[List.getElem?_set_ne hm] at e1 e2
   obtain⟨o,z1,q,ys,z2,z3,_⟩:=S0.sl m _ e1
   rw[z1] at e2
   cases e2
   cases z2
   rw[z3];simp
  have here:∀{m:Nat} {r:Addr},i=m→m<σ.length→(σ.set i (some (.ref p)))[m]? = some (some (.ref r))→r=p:=fun {m r} hm hl e=>by
   subst hm
   rw[List.getElem?_set_self hl] at e
   cases e;rfl
  have lt:∀{m:Nat} {o:Option V},(σ.set i (some (.ref p)))[m]? = some o→m<σ.length:=fun {m o} e=>by
   rcases Nat.lt_or_ge m σ.length with z | z
   ·exact z
   ·rw[List.getElem?_eq_none (by simpa using z)] at e;cases e
  by_cases q:i=j
  ·by_cases q2:i=k
   ·omega
   ·have:=here q (lt e3) e3
    subst this
    exact absurd h0 (old q2 e2 e4)
  ·by_cases q2:i=k
   ·have:=here q2 (lt e4) e4
    subst this
    exact absurd h0 (old q e1 e3)
   ·rw[List.getElem?_set_ne q] at e1 e3
    rw[List.getElem?_set_ne q2] at e2 e4
    exact S.ap j k r ds' c es c' e1 e2 e3 e4
 ad:=S.ad.set rfl
 ar:=S.ar.setO fun j dss u _ e1 e2=>S0.newW hs h0 e1 e2
theorem qqg {i:Nat} {g:List Sl→RE ER} {D:Ends} {σ:L2.St} {H:Hp} (q:tS C (fun ρ=>(g ρ).out fun x=>match x with
  |.fre ds b=>.nx (ρ.set i (.own ds b))
  |.val .non _=>.nx (ρ.set i (.val .non true))
  |_=>.bad) D σ H):tAsg (tE C g) (gName i) D σ H:=by
 obtain⟨ρ,P,N,S,h⟩:=q
 refine⟨ρ,P,N,S,(h.res S.reg).mono fun x P1 N1 H1 _ a1 h1 v rv=>?_⟩
 cases x with
 |fre ds b =>
  obtain⟨p,xs,rfl,z1,z2,z3,z4,z5⟩:=rv
  exact h1 _ P1 N1 H1 (S.setO (S.adv a1) a1.hh z2 z1 z3 z4 z5) a1.pp a1.nn
 |val d b =>
  cases d with
  |non=>exact h1 _ P1 N1 H1 ((S.adv a1).setV rv) a1.pp a1.nn
  |_=>exact h1.elim
 |brw _ _=>exact h1.elim
theorem qeg {P N:Hp} {D:Ends} {ρ:List Sl} {i:Nat} {f:List Cm.D→Bool→Out} (h:outS C P N D (qc1 ρ i f)):∃ds b,ρ[i]? = some (.own ds b)∧outS C P N D (f ds b):=by
 unfold qc1 at h
 split at h
 ·rename_i ds b e
  exact⟨ds,b,e,h⟩
 ·exact h.elim
theorem SR.write {P N H:Hp} {ρ:List Sl} {σ:L2.St} (S:SR C P N H ρ σ) {i:Nat} {ds ds':List Cm.D} {b b':Bool} {p:Addr} {xs':List V} (e:ρ[i]? = some (.own ds b)) (eσ:σ[i]? = some (some (.ref p))) (h:RepsB C P N b' ds' xs'):SR C P N (upd H p (.lst xs')) (ρ.set i (.own ds' b')) σ:=by
 obtain⟨o,z1,q,xs,z2,z3,z4,z5,z6,z7⟩:=S.sl i _ e
 rw[z1] at eσ;cases eσ;cases z2
 have hi:i<ρ.length:=(List.getElem?_eq_some_iff.mp e).1
 refine⟨⟨qaJ S.reg.pH z4,qaJ S.reg.nH z5,qaJ S.reg.bH z6,S.reg.rB,S.reg.p0,S.reg.pn,S.reg.nw,S.reg.dj⟩,by simp[S.len],fun j s ej=>?_,fun j k r ds1 c es c' e1 e2 e3 e4=>?_,S.ad.setS rfl,(S.ar.own e).heap fun j dss r ej ej2=>upd_ne fun er=>?_⟩
 ·by_cases q:i=j
  ·subst q
   rw[List.getElem?_set_self hi] at ej
   cases ej
   exact⟨_,z1,p,xs',rfl,upd_same,z4,z5,z6,h⟩
  ·rw[List.getElem?_set_ne q] at ej
   obtain⟨o,y1,y2⟩:=S.sl j s ej
   refine⟨o,y1,?_⟩
   cases s with
   |non=>trivial
   |val d b=>exact y2
   |own es c =>
    obtain⟨r,ys,y3,y4,y5⟩:=y2
    have hr:r≠p:=fun er=>q (S.ap i j p ds b es c e ej z1 (by rw[y1,y3,er]))
    exact⟨r,ys,y3,by rw[upd_ne hr];exact y4,y5⟩
   |slf c fs =>
    obtain⟨r,dx,ys,y3,y4,y5⟩:=y2
    have hr:r≠p:=fun er=>by rw[er,z3] at y4;cases y4
    exact⟨r,dx,ys,y3,by rw[upd_ne hr];exact y4,y5⟩
   |fxd d k=>exact y2
   |dct m c =>
    obtain⟨r,es,y3,y4,y5⟩:=y2
    have hr:r≠p:=fun er=>by rw[er,z3] at y4;cases y4
    exact⟨r,es,y3,by rw[upd_ne hr];exact y4,y5⟩
   |row dss =>
    have far:∀a,Held H (.row dss) o a→a≠p:=fun a k er=>q (S.ar.un j i dss _ _ _ a ej e y1 z1 k (by rw[er];exact .own)).symm
    obtain⟨r,ps,rfl,y4,y5,y6,y7,y8,y9⟩:=y2
    refine⟨r,ps,rfl,by rw[upd_ne (far r .rt)];exact y4,y5,y6,y7,?_,y9⟩
    exact y8.sub fun a m ds ⟨xs,g1,g2⟩=>⟨xs,by rw[upd_ne (far a (.it y4 m))];exact g1,g2⟩
 ·have un:∀{m:Nat} {es:List Cm.D} {c:Bool},(ρ.set i (.own ds' b'))[m]? = some (.own es c)→∃es' c',ρ[m]? = some (.own es' c'):=fun {m es c} em=>by
   by_cases q:i=m
   ·subst q;exact⟨_,_,e⟩
   ·rw[List.getElem?_set_ne q] at em;exact⟨_,_,em⟩
  obtain⟨_,_,f1⟩:=un e1
  obtain⟨_,_,f2⟩:=un e2
  exact S.ap j k r _ _ _ _ f1 f2 e3 e4
 ·rcases qaG ej with⟨_,z⟩ | ⟨qn,z⟩
  ·cases z
  ·exact qn (S.ar.un j i dss _ _ _ p z e ej2 z1 (by rw[er];exact .rt) .own).symm
theorem SR.root {P N H:Hp} {ρ:List Sl} {σ:L2.St} (S:SR C P N H ρ σ) {i:Nat} {ds:List Cm.D} {b:Bool} (e:ρ[i]? = some (.own ds b)):∃p xs,σ[i]? = some (some (.ref p))∧H p=some (.lst xs)∧P p=none∧N p=none∧C.B p=none∧RepsB C P N b ds xs:=by
 obtain⟨o,z1,p,xs,rfl,z2⟩:=S.sl i _ e
 exact⟨p,xs,z1,z2⟩
theorem qqV {i:Nat} {g:List Sl→Out} {D:Ends} {σ:L2.St} {H:Hp} (q:tS C (fun ρ=>qc1 ρ i fun ds b=>g (ρ.set i (.val (.lst ds) b))) D σ H):tS C g D σ H:=by
 obtain⟨ρ,P,N,S,h⟩:=q
 obtain⟨ds,b,e,o⟩:=qeg h
 obtain⟨p,xs,z1,z2,z3,z4,z5,z6⟩:=S.root e
 have hi:i<ρ.length:=(List.getElem?_eq_some_iff.mp e).1
 have sn:L2.Same N (upd N p (.lst xs)):=qaI z4
 refine⟨ρ.set i (.val (.lst ds) b),P,upd N p (.lst xs),⟨⟨S.reg.pH,qkd S.reg.nH z2,S.reg.bH,S.reg.rB,S.reg.p0,S.reg.pn,fun a ha=>?_,fun a ha=>?_⟩,by simp[S.len],fun j s ej=>?_,fun j k r ds1 c es c' e1 e2 e3 e4=>?_,S.ad.setS rfl,S.ar.setS rfl⟩,o.adv (L2.Same.refl _) sn⟩
 ·by_cases q:a=p
  ·rw[q];exact z5
  ·rw[upd_ne q] at ha;exact S.reg.nw a ha
 ·by_cases q:a=p
  ·rw[q];exact z3
  ·rw[upd_ne q] at ha;exact S.reg.dj a ha
 ·by_cases q:i=j
  ·subst q
   rw[List.getElem?_set_self hi] at ej
   cases ej
   exact⟨_,z1,_,rfl,p,xs,rfl,.inl upd_same,RepsB.adv (L2.Same.refl _) sn z6⟩
  ·rw[List.getElem?_set_ne q] at ej
   obtain⟨o,y1,y2⟩:=S.sl j s ej
   refine⟨o,y1,?_⟩
   cases s with
   |non=>trivial
   |val d b=>obtain⟨v,y3,y4⟩:=y2;exact⟨v,y3,RepB.adv (L2.Same.refl _) sn y4⟩
   |own es c =>
    obtain⟨r,ys,y3,y4,y5,y6,y7,y8⟩:=y2
    have hr:r≠p:=fun er=>q (S.ap i j p ds b es c e ej z1 (by rw[y1,y3,er]))
    exact⟨r,ys,y3,y4,y5,by rw[upd_ne hr];exact y6,y7,RepsB.adv (L2.Same.refl _) sn y8⟩
   |slf c fs =>
    obtain⟨r,dx,ys,y3,y4,y5,y6,y7,y8,y9⟩:=y2
    have hr:r≠p:=fun er=>by rw[er,z2] at y4;cases y4
    exact⟨r,dx,ys,y3,y4,y5,by rw[upd_ne hr];exact y6,y7,y8,RepsB.adv (L2.Same.refl _) sn y9⟩
   |fxd d k=>obtain⟨v,y3,y4,y5⟩:=y2;exact⟨v,y3,y4,RepB.adv (L2.Same.refl _) sn y5⟩
   |dct m c =>
    obtain⟨r,es,y3,y4,y5,y6,y7,y8⟩:=y2
    have hr:r≠p:=fun er=>by rw[er,z2] at y4;cases y4
    exact⟨r,es,y3,y4,y5,by rw[upd_ne hr];exact y6,y7,y8.adv (L2.Same.refl _) sn⟩
   |row dss =>
    have far:∀a,Held H (.row dss) o a→a≠p:=fun a k er=>q (S.ar.un j i dss _ _ _ a ej e y1 z1 k (by rw[er];exact .own)).symm
    obtain⟨r,ps,rfl,y4,y5,y6,y7,y8,y9⟩:=y2
    refine⟨r,ps,rfl,y4,y5,by rw[upd_ne (far r .rt)];exact y6,y7,?_,y9⟩
    exact y8.sub fun a m ds ⟨xs,g1,g2,g3,g4,g5,g6⟩=>⟨xs,g1,g2,by rw[upd_ne (far a (.it y4 m))];exact g3,g4,g5,RepsB.adv (L2.Same.refl _) sn g6⟩
 ·have un:∀{m:Nat} {es:List Cm.D} {c:Bool},(ρ.set i (.val (.lst ds) b))[m]? = some (.own es c)→ρ[m]? = some (.own es c):=fun {m es c} em=>by
   by_cases q:i=m
   ·subst q;rw[List.getElem?_set_self hi] at em;cases em
   ·rw[List.getElem?_set_ne q] at em;exact em
  exact S.ap j k r _ _ _ _ (un e1) (un e2) e3 e4
end
end Cm
namespace Cm
open PySem PySem.Spec PyProof.Rows L2
section
variable {C:Ctx} {X:Cx}
theorem qrl {i:Nat} {g:List Sl→RE ER} {D:Ends} {σ:L2.St} {H:Hp} {K:PySem.W.Frag} (q:tS C (fun ρ=>qc1 ρ i fun ds c=>(g ρ).out fun x=>held x fun d b=>gdO (leB (ds.length+1)) (.nx (ρ.set i (.own (ds++[d]) (b&&c))))) D σ H) :
  tDrop (tBM K "list" rAppend (tVar i) (tCons (tE C g) tNil)) D σ H:=by
 obtain⟨ρ,P,N,S,h⟩:=q
 obtain⟨ds,c,e,o⟩:=qeg h
 obtain⟨p,xs,z1,z2,z3,z4,z5,z6⟩:=S.root e
 refine⟨_,z1,.inl ⟨rfl,xs,.inl (.inl z2)⟩,ρ,P,N,S,(o.res S.reg).mono fun x P1 N1 H1 _ a1 h1 v rv=>?_⟩
 obtain⟨N2,d,b,a2,r2,o⟩:=rv.held a1 h1
 simp only[qa2,qan] at o
 split at o
 ·rename_i hl
  refine⟨p,xs,v,rfl,rfl,a1.hh _ _ z2,by rw[z6.length];exact hl,?_⟩
  exact o _ P1 N2 _ ((S.adv a2).write e z1 (Reps.append (RepsB.and2 (RepsB.adv a2.pp a2.nn z6)) (Reps.one (RepB.and1 r2)))) a2.pp a2.nn
 ·exact o.elim
theorem qqp {i:Nat} {D:Ends} {σ:L2.St} {H:Hp} {K:PySem.W.Frag} (q:tS C (fun ρ=>qc1 ρ i fun _ _=>.nx (ρ.set i (.own [] true))) D σ H):tDrop (tBM0 K "list" rClear (tVar i)) D σ H:=by
 obtain⟨ρ,P,N,S,h⟩:=q
 obtain⟨ds,c,e,o⟩:=qeg h
 obtain⟨p,xs,z1,z2,z3,z4,z5,z6⟩:=S.root e
 exact⟨_,z1,.inl ⟨rfl,xs,.inl (.inl z2)⟩,p,xs,rfl,rfl,z2,o _ P N _ (S.write e z1 rfl) (L2.Same.refl _) (L2.Same.refl _)⟩
theorem qrm {i:Nat} {g gi:List Sl→RE ER} {D:Ends} {σ:L2.St} {H:Hp} (q:tS C (fun ρ=>(g ρ).out fun x=>held x fun d b=>qc1 ρ i fun ds c=>(gi ρ).out fun k=>match k.d with
  |.int k=>match ixN ds.length k with
   |some j=>.nx (ρ.set i (.own (ds.set j d) (b&&c)))
   |none=>.bad
  |_=>.bad) D σ H):tAsg (tE C g) (gSub (tVar i) (tE C gi) rSetL) D σ H:=by
 obtain⟨ρ,P,N,S,h⟩:=q
 refine⟨ρ,P,N,S,(h.res S.reg).mono fun x P1 N1 H1 _ a1 h1 v rv=>?_⟩
 obtain⟨N2,d,b,a2,r2,o⟩:=rv.held a1 h1
 have S2:=S.adv a2
 obtain⟨ds,c,e,o⟩:=qeg o
 obtain⟨p,xs,z1,z2,z3,z4,z5,z6⟩:=S2.root e
 refine⟨_,z1,ρ,P1,N2,S2,((o.adv a2.pp a2.nn).res S2.reg).mono fun k P3 N3 H3 _ a3 h3 u ru=>?_⟩
 have r3:=(S2.adv a3).reg
 split at h3
 ·rename_i k' ek
  have w:=ru.w r3
  rw[ek] at w
  cases w.int
  split at h3
  ·rename_i j ej
   refine⟨p,xs,k',j,rfl,rfl,a3.hh _ _ z2,by rw[z6.length];exact ej,?_⟩
   exact h3 _ P3 N3 _ ((S2.adv a3).write e z1 (Reps.set (RepB.and1 (RepB.adv a3.pp a3.nn r2)) j (RepsB.and2 (RepsB.adv a3.pp a3.nn z6)))) a3.pp a3.nn
  ·exact h3.elim
 ·exact h3.elim
theorem qqA {gi:List Sl→RE Wk} {tg:List Nat} {gb:List Sl→Out} {D:Ends} {σ:L2.St} {H:Hp} (q:tS C (fun ρ=>(gi ρ).out fun w=>if w.own=true then .bad else qfq (fun x ρ=>onB (qe7 tg x w.b ρ) gb) w.xs ρ) D σ H):tFor (tI C gi) (tG C tg) (tS C gb) D σ H:=by
 obtain⟨ρ,P,N,S,h⟩:=q
 refine⟨ρ,P,N,S,(h.res S.reg).mono fun w P1 N1 H1 _ a1 h1 J wj=>?_⟩
 split at h1
 ·exact h1.elim
 rename_i how
 have how:w.own=false:=by simpa using how
 obtain⟨Gd,Y,wk,_,stay,item⟩:=wj
 generalize hf:(fun x ρ=>onB (qe7 tg x w.b ρ) gb)=f at h1
 have r1:=(S.adv a1).reg
 refine for_it wk (Pv:=fun i σ' H'=>∃ρ' P' N',SR C P' N' H' ρ' σ'∧L2.Same P1 P'∧L2.Same N1 N'∧outS C P1 N1 D (qfq f (w.xs.drop i) ρ')) ?_ (fun i σ' H' hi p=>?_) (fun i x σ' H' H'' hi p y=>?_) (fun σ' H' p=>?_)
 ·exact⟨ρ,P1,N1,S.adv a1,L2.Same.refl _,L2.Same.refl _,by simpa using h1.adv a1.pp a1.nn⟩
 ·obtain⟨ρ',P',N',S',s1,s2,_⟩:=p
  exact stay how P' N' H' s1 s2 S'.reg
 ·obtain⟨ρ',P',N',S',s1,s2,o⟩:=p
  obtain⟨P3,a3,d,ed,rd⟩:=item i P' N' H' x H'' hi s1 s2 S'.reg y
  have hdrop:w.xs.drop i=d::w.xs.drop (i+1):=by
   obtain⟨hi',e⟩:=List.getElem?_eq_some_iff.mp ed
   rw[List.drop_eq_getElem_cons hi',e]
  rw[hdrop] at o
  have o2:outS C P1 N1 D (match f d ρ' with
   |.nx ρ'=>qfq f (w.xs.drop (i+1)) ρ'
   |.cnt ρ'=>qfq f (w.xs.drop (i+1)) ρ'
   |.brk ρ'=>.nx ρ'
   |o=>o):=o
  have ef:f d ρ'=onB (qe7 tg d w.b ρ') gb:=by rw[←hf]
  cases eb:qe7 tg d w.b ρ' with
  |none=>rw[ef,eb] at o2;exact o2.elim
  |some ρ2 =>
   rw[ef,eb,qob] at o2
   refine⟨ρ',P3,N',d,w.b,ρ2,S'.adv a3,rd,eb,fun σ2 S2 _ _=>⟨ρ2,P3,N',S2,?_⟩⟩
   have t1:=s1.trans a3.pp
   cases e3:gb ρ2 with
   |bad=>simp only[e3] at o2;exact o2
   |nx ρ3=>simp only[e3] at o2;exact fun σ4 P4 N4 H4 S4 e1 e2=>⟨ρ3,P4,N4,S4,t1.trans e1,s2.trans e2,o2⟩
   |cnt ρ3=>simp only[e3] at o2;exact fun σ4 P4 N4 H4 S4 e1 e2=>⟨ρ3,P4,N4,S4,t1.trans e1,s2.trans e2,o2⟩
   |brk ρ3=>simp only[e3] at o2;exact fun σ4 P4 N4 H4 S4 e1 e2=>o2 σ4 P4 N4 H4 S4 (t1.trans e1) (s2.trans e2)
   |ret er=>simp only[e3] at o2;exact o2
   |exc c fs=>simp only[e3] at o2;exact o2
 ·obtain⟨ρ',P',N',S',s1,s2,o⟩:=p
  rw[List.drop_length] at o
  exact o σ' P' N' H' S' s1 s2
theorem qqs {gc:List Sl→RE Bool} {gb:List Sl→Out} {n:Nat} {D:Ends} {σ:L2.St} {H:Hp} (q:tS C (fun ρ=>qfW gc gb n ρ) D σ H):tWhile (tT C gc) (tS C gb) D σ H:=by
 obtain⟨ρ,P,N,S,h⟩:=q
 refine⟨fun m σ' H'=>∃ρ' P' N',SR C P' N' H' ρ' σ'∧L2.Same P P'∧L2.Same N N'∧outS C P N D (qfW gc gb m ρ'),⟨n,ρ,P,N,S,L2.Same.refl _,L2.Same.refl _,h⟩,fun m σ' H' p=>?_⟩
 obtain⟨ρ',P',N',S',s1,s2,o⟩:=p
 cases m with
 |zero=>exact o.elim
 |succ m =>
  have o2:outS C P N D ((gc ρ').out fun k=>if k=true then (match gb ρ' with
   |.nx ρ'=>qfW gc gb m ρ'
   |.cnt ρ'=>qfW gc gb m ρ'
   |.brk ρ'=>.nx ρ'
   |o=>o) else .nx ρ'):=o
  refine⟨ρ',P',N',S',((o2.adv s1 s2).res S'.reg).mono fun k P1 N1 H1 _ a1 h1=>?_⟩
  cases k with
  |false=>exact h1 σ' P1 N1 H1 (S'.adv a1) a1.pp a1.nn
  |true =>
   simp only[if_true] at h1 ⊢
   refine⟨fun σ' H'=>∃ρ' P' N',SR C P' N' H' ρ' σ'∧L2.Same P P'∧L2.Same N N'∧outS C P N D (qfW gc gb m ρ'),fun σ2 H2 z=>⟨m,Nat.lt_succ_self m,z⟩,ρ',P1,N1,S'.adv a1,?_⟩
   have t1:=s1.trans a1.pp
   have t2:=s2.trans a1.nn
   have o3:gc ρ'=.ok true:=by assumption
   rw[o3] at o2
   simp only[RE.out_ok,if_true] at o2
   cases e3:gb ρ' with
   |bad=>simp only[e3] at o2;exact o2
   |nx ρ3=>simp only[e3] at o2;exact fun σ4 P4 N4 H4 S4 e1 e2=>⟨ρ3,P4,N4,S4,t1.trans e1,t2.trans e2,o2⟩
   |cnt ρ3=>simp only[e3] at o2;exact fun σ4 P4 N4 H4 S4 e1 e2=>⟨ρ3,P4,N4,S4,t1.trans e1,t2.trans e2,o2⟩
   |brk ρ3=>simp only[e3] at o2;exact fun σ4 P4 N4 H4 S4 e1 e2=>o2 σ4 P4 N4 H4 S4 (t1.trans e1) (t2.trans e2)
   |ret er=>simp only[e3] at o2;exact o2
   |exc c fs=>simp only[e3] at o2;exact o2
end
end Cm
namespace Cm
open PySem PySem.Spec PyProof.Rows L2
structure Tb where
 N:List Str
 fn:List (Str × Nat)
 gc:List Str
 mn:List (Str × Nat)
 fs:List Str
 nw:List (Str × Nat):=[]
 ck:List (Str × Bool):=[]
 xk:List Str:=[]
 dc:List Str:=[]
def qko (sc:Scope) (x:Str):Bool:=match sc.names.lookup x with
 |some .local=>true
 |some .cell=>true
 |some .free=>true
 |_=>false
def glB (sc:Scope) (x:Str):Bool:=match sc.names.lookup x with
 |some .globalImplicit=>true
 |_=>false
def tgB (fc:Option Scope) (sc:Scope) (x:Str):Bool:=match sc.names.lookup x with
 |some .local=>true
 |some .cell=>(match fc with
  |none=>true
  |some so=>so.names.lookup x == some .cell)
 |_=>false
def nmB (x:Str):Bool:=!(x == ("__debug__" : Str)) && !(x == ("__classdict__" : Str))
def qag:Expr→Bool
 |.Starred _ _=>false
 |_=>true
def qe5:Expr→Bool
 |.Slice _ _ _ _=>false
 |_=>true
def qi7:Expr→Bool
 |.Call (.Name _ _) [] [] _=>false
 |_=>true
def qlr:Expr→Bool
 |.Set _ _ _=>false
 |_=>true
def qdO:Expr→Bool
 |.ListComp _ _ _ _=>false
 |.SetComp _ _ _ _=>false
 |.DictComp _ _ _ _ _=>false
 |_=>true
theorem qac {e:Expr} {es:List Expr} {env:PySem.Env} (h:qag e=true):starEach (e::es) env=(false,eval e env)::starEach es env:=by
 cases e<;>first | rfl | cases h
theorem qef {env:PySem.Env} {pos:Pos}:∀{es:List Expr},es.all qag=true→(backTo pos (starEach es env)).any (·.1)=false
 |[],_=>rfl
 |e::es,h=>by
  simp only[List.all_cons,Bool.and_eq_true] at h
  rw[qac h.1]
  have:=qef (env:=env) (pos:=pos) h.2
  unfold backTo at this ⊢
  simpa using this
theorem qe6 {X:Cx} {es:List Expr} (h:es.all qag=true):qnB X es:=⟨fun e r q=>by
 subst q
 simp only[List.all_cons,Bool.and_eq_true] at h
 exact qac h.1,fun pos e r q=>by
 subst q
 simp only[List.all_cons,Bool.and_eq_true] at h
 exact qef h.2⟩
theorem qeN {o:Expr} {m:Str} {env:PySem.Env} {w:Sem Value} (h:qi7 o=true):attributeBase o m env w=w:=by
 cases o with
 |Call f as ks p =>
  cases f with
  |Name x q =>
   cases as with
   |nil =>
    cases ks with
    |nil=>cases h
    |cons _ _=>rfl
   |cons _ _=>rfl
  |_=>rfl
 |_=>rfl
theorem qoE {o:Expr} {m:Str} {apos pos:Pos} {es:List Expr} {env:PySem.Env} (hb:qi7 o=true) (hs:es.all qag=true) (hn:es.length<20) (hl:(apos.endLine == pos.line)=true) :
  eval (.Call (.Attribute o m apos) es [] pos) env=(do
   let ov ←eval o env
   standAt apos.atName
   let (f,first) ←holding [ov] (getMethod ov m (plainOf o env))
   callWith pos f first (backTo pos (starEach es env)) (backToKw pos (keywordEach [] env))):=by
 have e1:eval (.Call (.Attribute o m apos) es [] pos) env=(do
   let ov ←attributeBase o m env (eval o env)
   standAt apos.atName
   methodCall o m apos pos env ov (es.length+([]:List Keyword).length) (backTo pos (starEach es env)) (backToKw pos (keywordEach [] env))):=by
  rfl
 rw[e1,qeN hb]
 have hf:methodCallForm (es.length+([]:List Keyword).length) (backTo pos (starEach es env)) (backToKw pos (keywordEach [] env))=true:=by
  unfold methodCallForm
  have:=qef (env:=env) (pos:=pos) hs
  have e:(backTo pos (starEach es env)).all (fun x=>!x.1)=true:=by
   rw[List.all_eq_not_any_not]
   simpa using this
  rw[e]
  simp[backToKw,keywordEach]
  omega
 have:∀ov,methodCall o m apos pos env ov (es.length+([]:List Keyword).length) (backTo pos (starEach es env)) (backToKw pos (keywordEach [] env))=_:=fun ov=>mcall_line hf hl
 simp only[this]
theorem qsx {e:Expr} {env:PySem.Env} (h:(match e with
  |.UnaryOp .Not _ _=>false
  |.BoolOp _ _ _=>false
  |.IfExp _ _ _ _=>false
  |.Compare _ _ _ _=>false
  |_=>true)=true):∀whole,isTrue e env whole=(do let v ←whole;standAt e.pos;holding [v] (truthy v)):=by
 cases e with
 |UnaryOp o a p=>cases o<;>first | (intro _;rfl) | cases h
 |BoolOp _ _ _=>cases h
 |IfExp _ _ _ _=>cases h
 |Compare _ _ _ _=>cases h
 |_=>intro _;rfl
theorem qiu {e:Expr} {t:Option Expr} {l:Nat} {env:PySem.Env} (h:qdO e=true):swapsWith e t l env=pure false:=by
 cases e<;>first | rfl | cases h
theorem qh8 {e:Expr} {env:PySem.Env} (h:qlr e=true):∀x,foldedSetIterable e env x=pure x:=by
 cases e<;>first | (intro _;rfl) | cases h
theorem qtb {e:Expr} (h:qe5 e=true):PlainIx e:=by
 cases e<;>first | (intro _ _;rfl) | cases h
end Cm
set_option maxHeartbeats 1000000
namespace Cm
open PySem PySem.Spec PyProof.Rows L2
section
variable {C:Ctx} {X:Cx}
abbrev qvc (go g:List Sl→RE ER):List Sl→RE ER:=fun ρ=>(go ρ).bind fun x=>match x.d with
  |.lst xs=>(g ρ).bind fun y=>qpS xs y.d
  |_=>.bad
abbrev qvm (go g:List Sl→RE ER):List Sl→RE ER:=fun ρ=>(go ρ).bind fun x=>match x.d with
  |.str s=>(g ρ).bind fun y=>qsK s y.d
  |_=>.bad
theorem qoR {a:Expr} {g:List Sl→RE ER} {p p2 q pos:Pos} (hK:X.K=C.G.K) (hc:X.calm=true) (hg:Gl X "len") (hm:X.mg "len" = none) (hg2:Gl X "set") (hm2:X.mg "set" = none) (ha:PE X a (tE C g))
  (na:qag a=true):PE X (.Call (.Name "len" p) [.Call (.Name "set" p2) [a] [] q] [] pos) (tE C fun ρ=>(g ρ).bind fun x=>qls x.d):=by
 have na:=qac (es:=[]) (env:=X.env) na
 refine⟨fun pins s σ H Q I h=>Call_ (ld_blt I hg hm PySem.boot_len (PyProof.Rows.callWith_builtin1 (PyProof.Rows.args_cons ?_ rfl) rfl rfl))⟩
 refine Call_ (ld_blt I hg2 hm2 PyProof.Rows.boot_set (PyProof.Rows.callWith_type1 (PyProof.Rows.args_cons ?_ na) na rfl))
 have body:tE C g σ H fun x H1=>∃(l:Addr) (ns:List Int),x=V.ref l∧SqL X.K H1 l (ns.map V.int)∧ns.length≤1000∧Q (.int (qo2 ns)) H1:=by
  obtain⟨ρ,P,N,S,h⟩:=h
  refine⟨ρ,P,N,S,h.bind.mono fun x P1 N1 H1 _ a1 h1 v rv=>?_⟩
  have r1:=(S.adv a1).reg
  unfold qls at h1
  split at h1
  ·rename_i ds hd
   split at h1
   ·rename_i ns hn
    have w:=rv.w r1
    rw[hd] at w
    obtain⟨l,xs,rfl,z1,z2⟩:=w
    rw[qek] at h1
    split at h1
    ·rename_i hl
     rw[Nat.ble_eq] at hl
     exact⟨l,ns,rfl,by rw[hK,←qcs hn z2];exact z1,hl,h1.val r1 rfl⟩
    ·exact h1.elim
   ·exact h1.elim
  ·exact h1.elim
 refine thn (ha.run pins s σ H _ I body) fun v s1 ⟨x,H1,I1,r1,q1⟩=>PyProof.Rows.args_nil ?_
 obtain⟨l,ns,rfl,hq,hl,q1⟩:=q1
 cases r1
 obtain⟨its,r,pl,_⟩:=I1.list hq
 have hz:its.toArray.size=ns.length:=by rw[List.size_toArray,←r.length,List.length_map]
 refine call_set_list (I1.ok.hd hc) pl.isList (ns:=ns) (by simpa using r.ints) (by unfold scanBound;omega) fun h' tk hS hk=>PyProof.Rows.args_nil ?_
 rw[hz] at hS
 obtain⟨o,es,ep,t,ho,hex,hd,_,_,_,hf,hn⟩:=hS
 have I2:Inv X pins σ H1 { s1 with heap:=h',toks:=tk }:=I1.kept fun b o e=>hk b o (Heap.lt_size e) e
 have le:qo2 ns≤ns.length:=PyProof.Rows.firstMet_length_le (fun i=>ns.getD i 0) ns.length
 have hn':es.size=qo2 ns:=hn
 exact call_len_set ho hex hd hf (by rw[hn'];omega) ⟨.int (qo2 ns),H1,I2.tok _,⟨_,by rw[hn']⟩,q1⟩
theorem qro {n:Nat} {k:Int} {m:Nat} (h:ixN n k=some m) (hn:n≤16777216):seqIndex? k n=some m ∧ -(2 ^ 63)≤k∧k<2 ^ 63:=by
 unfold ixN at h
 unfold seqIndex?
 split at h
 ·rename_i h0
  split at h
  ·rename_i h1
   cases h
   have e:¬k<0:=by omega
   refine⟨?_,by omega,by omega⟩
   simp only[e,if_false]
   rw[if_pos (by simp;omega)]
  ·cases h
 ·rename_i h0
  split at h
  ·rename_i h1
   cases h
   have e:k<0:=by omega
   refine⟨?_,by omega,by omega⟩
   simp only[e,if_true]
   rw[if_pos (by simp;omega)]
  ·cases h
theorem qn6 {i j:Nat} {g:List Sl→RE ER} {D:Ends} {σ:L2.St} {H:Hp} {K:PySem.W.Frag} (q:tS C (fun ρ=>if i=j then .bad else qc1 ρ i fun ds c=>qc1 ρ j fun es c2=>(g ρ).out fun k=>match k.d with
  |.int k=>match ixN es.length k with
   |some m=>match es[m]? with
    |some d=>gdO (leB es.length) (gdO (leB (ds.length+1)) (.nx ((ρ.set j (.own (es.eraseIdx m) c2)).set i (.own (ds++[d]) (c2&&c)))))
    |none=>.bad
   |none=>.bad
  |_=>.bad) D σ H) :
  tDrop (tBM K "list" rAppend (tVar i) (tCons (tBM K "list" rPopAt (tVar j) (tCons (tE C g) tNil)) tNil)) D σ H:=by
 obtain⟨ρ,P,N,S,h⟩:=q
 split at h
 ·exact h.elim
 rename_i hij
 obtain⟨ds,c,e,o⟩:=qeg h
 obtain⟨es,c2,e2,o⟩:=qeg o
 obtain⟨p,xs,z1,z2,z3,z4,z5,z6⟩:=S.root e
 obtain⟨p2,xs2,y1,y2,y3,y4,y5,y6⟩:=S.root e2
 refine⟨_,z1,.inl ⟨rfl,xs,.inl (.inl z2)⟩,_,y1,.inl ⟨rfl,xs2,.inl (.inl y2)⟩,ρ,P,N,S,(o.res S.reg).mono fun k P1 N1 H1 _ a1 h1 v rv=>?_⟩
 have S1:=S.adv a1
 split at h1
 ·rename_i k' ek
  have w:=rv.w S1.reg
  rw[ek] at w
  cases w.int
  split at h1
  ·rename_i m em
   split at h1
   ·rename_i d ed
    simp only[qa2,qan] at h1
    split at h1
    case isFalse=>exact h1.elim
    rename_i le2
    split at h1
    ·rename_i hl
     have r2:=RepsB.adv a1.pp a1.nn y6
     have r1:=RepsB.adv a1.pp a1.nn z6
     obtain⟨w,w1,w2⟩:=r2.get ed
     have hne:p≠p2:=fun z=>hij (S.ap i j p ds c es c2 e e2 z1 (by rw[z];exact y1))
     have le2:xs2.length≤16777216:=by rw[y6.length];exact le2
     rw[←y6.length] at em
     obtain⟨b1,b2,b3⟩:=qro em le2
     refine⟨p2,xs2,k',m,w,rfl,rfl,a1.hh _ _ y2,b2,b3,b1,w1,?_⟩
     have Sw:=S1.write e2 y1 (b':=c2) (xs':=xs2.eraseIdx m) (Reps.eraseIdx m r2)
     have e':(ρ.set j (.own (es.eraseIdx m) c2))[i]? = some (.own ds c):=by rw[List.getElem?_set_ne (fun z=>hij z.symm)];exact e
     have Sw2:=Sw.write e' z1 (b':=c2&&c) (xs':=xs++[w]) (Reps.append (RepsB.and2 r1) (Reps.one (RepB.and1 w2)))
     refine⟨p,xs,w,rfl,rfl,by rw[upd_ne hne];exact a1.hh _ _ z2,by rw[z6.length];exact hl,h1 _ P1 N1 _ Sw2 a1.pp a1.nn⟩
    ·exact h1.elim
   ·exact h1.elim
  ·exact h1.elim
 ·exact h1.elim
theorem qpY {i:Nat} {f:Str} {fi:Nat→Option Nat} {σ:L2.St} {H:Hp} {Q:VK} (hf:∀c k,fi c=some k→FdOk C X f c k) (h:tE C (fun ρ=>match ρ[i]? with
  |some (.slf c fs)=>match fi c with
   |some k=>match fs[k]? with
    |some d=>.ok (.val d true)
    |none=>.bad
   |none=>.bad
  |_=>.bad) σ H Q):tFld X.K (tVar i) f σ H Q:=by
 obtain⟨ρ,P,N,S,h⟩:=h
 dsimp only at h
 split at h
 ·rename_i c fs e
  split at h
  ·rename_i k ek
   split at h
   ·rename_i d ed
    obtain⟨o,z1,p,dx,xs,⟨ep,rfl⟩,z2,z3,z4,z5,z6,z7⟩:=S.sl i _ e
    obtain⟨c1,c2,c3,c4⟩:=hf _ _ ek
    obtain⟨u,q4,q5⟩:=Reps.get z7 ed
    exact⟨_,z1,p,_,dx,_,u,rfl,z2,c1,c2,qfz c4 c3 q4,h.val S.reg q5⟩
   ·exact h.elim
  ·exact h.elim
 ·exact h.elim
theorem qly {f:Str} {v:V}:∀{l:List Str} {xs:List V},l[xs.length]? = some f→f∉l.take xs.length→putF f v (l.zip xs)=l.zip (xs++[v])
 |[],_,h,_=>by simp at h
 |g::l,[],h,_=>by
  simp at h
  subst h
  simp[putF]
 |g::l,x::xs,h,hn=>by
  simp only[List.length_cons,List.take_succ_cons,List.mem_cons,not_or] at hn
  simp only[List.zip_cons_cons,List.cons_append,putF]
  rw[if_neg (fun e=>hn.1 e.symm),qly (by simpa using h) hn.2]
theorem qhj {f:Str}:∀{l:List Str} {k:Nat},l.Nodup→l[k]? = some f→f∉l.take k
 |[],_,_,h=>by simp at h
 |g::l,0,_,_=>by simp
 |g::l,k+1,hn,h=>by
  simp only[List.nodup_cons] at hn
  simp only[List.take_succ_cons,List.mem_cons,not_or]
  have h':l[k]? = some f:=by simpa using h
  exact⟨fun e=>hn.1 (e ▸ List.mem_of_getElem? h'),qhj hn.2 h'⟩
theorem qjt:∀{ρ:List Sl} {j c:Nat} {fs:List Cm.D},qoq ρ=true→ρ[j]? ≠ some (.slf c fs)
 |[],j,c,fs,_,e=>by simp at e
 |s::ρ,0,c,fs,h,e=>by
  simp at e
  subst e
  cases h
 |s::ρ,j+1,c,fs,h,e=>by
  refine qjt (ρ:=ρ) (j:=j) (c:=c) (fs:=fs) ?_ (by simpa using e)
  cases s<;>first | exact h | cases h
theorem ERr.heldF {P1 N1 H0 P N H:Hp} {er:ER} {v:V} {f:Cm.D→Out} {D:Ends} (a:Adv P1 N1 H0 P N H) (h:ERr C P N H H0 er v) (o:outS C P1 N1 D (heldF er f)):∃N2 d,Adv P1 N1 H0 P N2 H∧RepB C P N2 true d v∧outS C P1 N1 D (f d):=by
 cases er with
 |brw ds b=>exact o.elim
 |val d b =>
  simp only[Cm.heldF,qa2] at o
  split at o
  ·rename_i z
   exact⟨N,d,a,by have:=RepB.nf (C:=C) h;rw[z] at this;exact this,o⟩
  ·exact o.elim
 |fre ds b =>
  simp only[Cm.heldF,qa2] at o
  split at o
  ·rename_i z
   obtain⟨p,xs,rfl,h1,h2,h3,h4,h5⟩:=h
   have sn:L2.Same N (upd N p (.lst xs)):=qaI h4
   refine⟨upd N p (.lst xs),.lst ds,a.holdN h2 h1 h4 h3,⟨p,xs,rfl,.inl upd_same,?_⟩,o⟩
   have h6:=RepsB.adv (C:=C) (L2.Same.refl P) sn h5
   cases b with
   |true=>exact h6
   |false=>exact Reps.flat _ _ (by simpa using z) h6
  ·exact o.elim
theorem qow {f:Str} {fi:Nat→Option Nat} {g:List Sl→RE ER} {D:Ends} {σ:L2.St} {H:Hp} (hf:∀c k,fi c=some k→FdOk C X f c k) (q:tS C (fun ρ=>(g ρ).out fun x=>heldF x fun d=>qoH ρ fun c fs r=>match fi c with
  |some k=>if k=fs.length then gdO (Nat.ble k 900) (.nx (.slf c (fs++[d])::r)) else .bad
  |none=>.bad) D σ H):sFld X.K (tVar 0) (tE C g) f D σ H:=by
 obtain⟨ρ,P,N,S,h⟩:=q
 refine⟨ρ,P,N,S,(h.res S.reg).mono fun x P1 N1 H1 _ a1 h1 v rv=>?_⟩
 obtain⟨N2,d,a2,r2,o⟩:=ERr.heldF a1 rv h1
 have S2:=S.adv a2
 unfold qoH at o
 split at o
 ·rename_i c fs r zz
  split at o
  ·rename_i hn
   dsimp only at o
   split at o
   ·rename_i k ek
    split at o
    ·rename_i hk
     rw[qa2] at o
     split at o
     case isFalse=>exact o.elim
     rename_i hk9
     rw[Nat.ble_eq] at hk9
     obtain⟨o',z1,p,dx,xs,⟨ep,rfl⟩,z2,z3,z4,z5,z6,z7⟩:=S2.sl 0 _ rfl
     obtain⟨c1,c2,c3,c4⟩:=hf _ _ ek
     have lx:xs.length=fs.length:=z7.length
     have lf:(C.G.fl c)[xs.length]? = some f:=by rw[lx,←hk];exact c3
     have lt:fs.length<(C.G.fl c).length:=by
      have:=(List.getElem?_eq_some_iff.mp lf).1
      omega
     have few:((C.G.fl c).zip xs).length<1000:=by
      rw[List.length_zip];omega
     refine⟨_,z1,p,_,dx,_,rfl,z2,c1,c2,few,?_⟩
     rw[qly lf (qhj c4 lf)]
     refine o _ P1 N2 _ ⟨⟨qaJ S2.reg.pH z3,qaJ S2.reg.nH z4,qaJ S2.reg.bH z5,S2.reg.rB,S2.reg.p0,S2.reg.pn,S2.reg.nw,S2.reg.dj⟩,by simpa using S2.len,fun j s ej=>?_,fun j l r ds1 c es c' e1 e2 e3 e4=>?_,S2.ad.sub fun j m b e=>by
      cases j with
      |zero=>cases e
      |succ j=>exact⟨rfl,_,_,by simpa using e⟩,⟨fun j l dss t o1 o2 a e1 e2 e3 e4 k1 k2=>by
      have un:∀{l:Nat} {t:Sl},(Sl.slf c (fs++[d])::r)[l]? = some t→t.isH=true→(Sl.slf c fs::r)[l]? = some t:=fun {l t} e ht=>by
       cases l with
       |zero=>simp at e;subst e;cases ht
       |succ l=>simpa using e
      have old:∀{l:Nat} {t:Sl} {o:Option V} {a:Addr},(Sl.slf c fs::r)[l]? = some t→σ[l]? = some o→Held (upd H1 p (.ins (C.G.ca c) dx ((C.G.fl c).zip (xs++[v])))) t o a→Held H1 t o a:=fun {l t o a} e e2 k=>by
       cases k with
       |own=>exact .own
       |rt=>exact .rt
       |it q m =>
        refine .it ?_ m
        obtain⟨o,g1,g2⟩:=S2.sl l _ e
        rw[g1] at e2;cases e2
        obtain⟨⟨us,q2⟩,_⟩:=g2.held .rt
        rwa [upd_ne (fun z=>by rw[z,z2] at q2;cases q2)] at q
      exact S2.ar.un j l dss t o1 o2 a (un e1 rfl) (un e2 k2.not) e3 e4 (old (un e1 rfl) e3 k1) (old (un e2 k2.not) e4 k2)⟩⟩ a2.pp a2.nn
     ·cases j with
      |zero =>
       simp at ej
       subst ej
       exact⟨_,z1,p,dx,xs++[v],⟨ep,rfl⟩,upd_same,z3,z4,z5,by simp only[List.length_append,List.length_cons,List.length_nil];omega,Reps.append z7 (Reps.one r2)⟩
      |succ j =>
       have ej':r[j]? = some s:=by simpa using ej
       obtain⟨o,y1,y2⟩:=S2.sl (j+1) s (by simpa using ej')
       refine⟨o,y1,?_⟩
       cases s with
       |non=>trivial
       |val d b=>exact y2
       |own es c =>
        obtain⟨q,ys,y3,y4,y5⟩:=y2
        have hr:q≠p:=fun er=>by rw[er,z2] at y4;cases y4
        exact⟨q,ys,y3,by rw[upd_ne hr];exact y4,y5⟩
       |slf c fs=>exact absurd ej' (qjt hn)
       |fxd d k=>exact y2
       |dct m c =>
        obtain⟨q,es,y3,y4,y5⟩:=y2
        have hr:q≠p:=fun er=>by rw[er,z2] at y4;cases y4
        exact⟨q,es,y3,by rw[upd_ne hr];exact y4,y5⟩
       |row dss =>
        have far:∀a,Held H1 (.row dss) o a→a≠p:=fun a k er=>by
         obtain⟨⟨us,q⟩,_⟩:=y2.held k
         rw[er,z2] at q;cases q
        obtain⟨q,ps,rfl,y4,y5,y6,y7,y8,y9⟩:=y2
        refine⟨q,ps,rfl,by rw[upd_ne (far q .rt)];exact y4,y5,y6,y7,?_,y9⟩
        exact y8.sub fun a m ds ⟨us,g1,g2⟩=>⟨us,by rw[upd_ne (far a (.it y4 m))];exact g1,g2⟩
     ·cases j with
      |zero=>simp at e1
      |succ j =>
       cases l with
       |zero=>simp at e2
       |succ l=>exact S2.ap (j+1) (l+1) r ds1 c es c' (by simpa using e1) (by simpa using e2) e3 e4
    ·exact o.elim
   ·exact o.elim
  ·exact o.elim
 ·exact o.elim
theorem qkN {P N H H0:Hp} (r:Reg C P N H):∀{es:List ER} {vs:List V},ERs C P N H H0 es vs→Reps C.G P (SqL C.G.K H) (es.map ER.d) vs
 |[],_,h=>by cases h;rfl
 |e::es,_,⟨v,u,ex,h1,h2⟩=>by
  subst ex
  refine⟨v,u,rfl,?_,qkN r h2⟩
  have w:=h1.w r
  have mm:=fun a xs=>LNb.seq (K:=C.G.K) (b:=e.b) r.pH r.nH r.rH a xs
  cases q:e.d with
  |lst ds =>
   rw[q] at w
   obtain⟨p,xs,rfl,h3,h4⟩:=w
   exact⟨p,xs,rfl,h3,Reps.mono (L2.Same.refl _) _ _ mm h4⟩
  |non=>rw[q] at w;exact Rep.mono (L2.Same.refl _) _ _ mm w
  |bl _=>rw[q] at w;exact Rep.mono (L2.Same.refl _) _ _ mm w
  |int _=>rw[q] at w;exact Rep.mono (L2.Same.refl _) _ _ mm w
  |str _=>rw[q] at w;exact Rep.mono (L2.Same.refl _) _ _ mm w
  |tup _=>rw[q] at w;exact Rep.mono (L2.Same.refl _) _ _ mm w
  |ins _ _=>rw[q] at w;exact Rep.mono (L2.Same.refl _) _ _ mm w
  |exc _ _=>rw[q] at w;exact Rep.mono (L2.Same.refl _) _ _ mm w
theorem qrx {P N H H0:Hp} {σ:L2.St} {c n:Nat} {g:List Cm.D→RE (List Cm.D)} {Q:VK} {es:List ER} {vs:List V} (r:Reg C P N H) (hv:ERs C P N H H0 es vs) (hn:es.length=n)
  (h:res C σ P N H ((g (es.map ER.d)).bind fun fs=>.ok (.val (.ins c fs) true)) (kE C H0 Q)):∀x dx,H x=none→H dx=none→dx≠x →
  spI C.G c n g (.ref x::vs) (upd (upd H dx (.own x)) x (.ins (C.G.ca c) dx [])) (fun v H2=>v=.non∧Q (.ref x) H2) (fun cls d H'=>C.W cls d σ H'):=by
 intro x dx hx hdx _
 refine⟨x,dx,H,P,H,es.map ER.d,vs,rfl,rfl,hx,hdx,r.pH,L2.Same.refl _,qkN r hv,by rw[List.length_map,hn],?_⟩
 cases e:g (es.map ER.d) with
 |bad=>rw[e] at h;exact h.elim
 |ok fs =>
  rw[e] at h
  intro H' P' hh pp pH pn hr
  exact⟨rfl,h P' N H' ⟨hh,pp,L2.Same.refl _,pH,r.nH.trans hh,pn,fun _ q=>.inl q,fun _ q _=>q⟩ _ hr⟩
 |exc c' fs =>
  rw[e] at h
  intro d H' P' N' ad hx
  refine h d _ _ _ (ad.back r.nH) ?_
  have mono:∀a xs,LNb C.G.K P' N' H true a xs→LNb C.G.K P' (un2 N N' H') C.R true a xs:=fun a xs q=>by
   rcases q with q | ⟨hb,q⟩
   ·exact .inl (qlQ ad.nH _ _ q)
   ·cases hb
  rcases hx with hx | ⟨dd,f,v,h1,h2,h3,h4⟩
  ·exact .inl hx
  ·exact .inr ⟨dd,f,v,h1,h2,h3,Rep.mono (L2.Same.refl _) _ _ mono h4⟩
theorem qjw {k:Nat} {f K0:Addr} {fd:FuncData} {ps:List Str} {sp:Sp} {W:WX} {pins:List (Addr × Obj)} {σ:L2.St} {H:Hp} {s:Shared} {Q:VK} {us:List Value} {vs:List V} (M:Mk X.K K0 f) (F:FnOk X.prog X.w X.K X.mg X.base (L2.CX X.prog X.w) k f fd ps sp) (hr:Room (k+1) X.A) (hb:Binds X.K fd ps [])
  (tk:Takes X W) (I:Inv X pins σ H s) (r:Vals vs us)
  (h:∀x dx,H x=none→H dx=none→dx≠x→sp (.ref x::vs) (upd (upd H dx (.own x)) x (.ins K0 dx [])) (fun v H2=>v=.non∧Q (.ref x) H2) (fun cls d H'=>W cls d σ H')) :
  wpAny (model X.prog X.w) X.A (call (.ref K0) us) (EP X pins σ Q) X.xe s:=by
 have lt:=Nat.lt_succ_self s.heap.objs.size
 have hq:=h _ _ (I.hok.fresh (Nat.le_of_lt lt)) (I.hok.fresh (Nat.le_refl _)) (Nat.ne_of_lt lt)
 have J:=Inv.made (C:=K0) I
 have rr:Vals (V.ref (s.heap.objs.size+1)::vs) (Value.ref (s.heap.objs.size+1)::us):=.cons rfl r
 have hl:(Value.ref (s.heap.objs.size+1)::us).length=ps.length:=by
  rw[←rr.length]
  exact F.len _ _ _ _ hq
 have hb':=hb _ (Value.ref (s.heap.objs.size+1)::us) J.kIn (by rw[List.append_nil];exact hl)
 rw[List.append_nil] at hb'
 refine wpAny_call (make_map (f:=f) I.kIn M.makes M.init (beq_iff_eq.mp M.fn) (codeAny_mono (F.run _ X.stack _ _ ⟨Value.ref (s.heap.objs.size+1)::us,[]⟩ _ _ _ _ (hr.make K0 us []) (J.env0.make K0 us []) hb' rr hq) fun res s' hq'=>?_))
 cases res with
 |error e=>exact tk e s' (XE.of_call J (fun cls d H' q=>q) hq')
 |ok fl =>
  cases fl with
  |ret u =>
   obtain⟨v,H',J2,rv,ev,q3⟩:=J.after hq'
   subst ev
   exact⟨rv,V.ref _,H',J2,rfl,q3⟩
  |next=>exact False.elim hq'
  |brk=>exact False.elim hq'
  |cont=>exact False.elim hq'
structure Mk0 (K:PySem.W.Frag) (c:Addr):Prop where
 makes:PySem.W.makesIn K c=true
 init:PySem.W.findIn K (.ref c) "__init__" = some (some (.builtin "object.__init__"))
 kp:PySem.W.keepIn K (.ref c)=true
theorem qmU {K0:Addr} {pins:List (Addr × Obj)} {σ:L2.St} {H:Hp} {s:Shared} {Q:VK} (M:Mk0 X.K K0) (I:Inv X pins σ H s)
  (h:∀x dx,H x=none→H dx=none→dx≠x→Q (.ref x) (upd (upd H dx (.own x)) x (.ins K0 dx []))) :
  wpAny (model X.prog X.w) X.A (call (.ref K0) []) (EP X pins σ Q) X.xe s:=by
 have lt:=Nat.lt_succ_self s.heap.objs.size
 have hq:=h _ _ (I.hok.fresh (Nat.le_of_lt lt)) (I.hok.fresh (Nat.le_refl _)) (Nat.ne_of_lt lt)
 have J:=Inv.made (C:=K0) I
 have Y:=PySem.W.makes_of (M:=model X.prog X.w) I.kIn M.makes
 refine wpAny_call (make_map0 I.kIn M.makes M.init (fun self=>PySem.W.Looks.of_pure (PySem.W.oi_bind self)) ?_)
 have hg:((s.heap.push PySem.W.emptyDict).push (PySem.W.instObj K0 s.heap.objs.size)).get? (s.heap.objs.size+1)=some (PySem.W.instObj K0 s.heap.objs.size):=by
  have:=Heap.get?_push_size (s.heap.push PySem.W.emptyDict) (o:=PySem.W.instObj K0 s.heap.objs.size) rfl
  rwa [Heap.size_push] at this
 have t1:PySem.W.Looks (model X.prog X.w) ((s.heap.push PySem.W.emptyDict).push (PySem.W.instObj K0 s.heap.objs.size)) (typeOf (.ref (s.heap.objs.size+1))) (.ref K0):=(PySem.W.Looks.ld hg).andThen .now
 have t2:PySem.W.Looks (model X.prog X.w) ((s.heap.push PySem.W.emptyDict).push (PySem.W.instObj K0 s.heap.objs.size)) (isInstance (.ref (s.heap.objs.size+1)) (.type "object")) true:=t1.andThen (Y.top.keeps fun b o e=>Heap.get?_push_of_some _ (Heap.get?_push_of_some _ e))
 refine codeAny_call_builtin PySem.W.oi_plain PySem.W.entry_oi (@PySem.W.check_slot (model X.prog X.w) _ _ _ "object.__init__" "object" "__init__" (.ref (s.heap.objs.size+1)) [] [] _ PySem.W.oi_kind PySem.W.oi_split t2 (PySem.W.oi_args (.ref (s.heap.objs.size+1))) ?_)
 rw[PySem.W.oi_run]
 exact wpAny_pure (And.intro rfl ⟨V.ref _,_,J,rfl,hq⟩)
structure NwOk (C:Ctx) (X:Cx) (x:Str) (c n:Nat) (g:List D→RE (List D)):Prop where
 ex:(∃k f fd ps,Mk X.K (C.G.ca c) f∧FnOk X.prog X.w X.K X.mg X.base (L2.CX X.prog X.w) k f fd ps (spI C.G c n g)∧Room (k+1) X.A∧X.mg x=some (.ref (C.G.ca c))∧Binds X.K fd ps []) ∨
  (n=0∧g []=.ok []∧Mk0 X.K (C.G.ca c)∧C.G.fl c=[]∧X.mg x=some (.ref (C.G.ca c)))
theorem qqx {x:Str} {c n:Nat} {g':List Cm.D→RE (List Cm.D)} {g:List Sl→RE (List ER)} {es:List Expr} {p pos:Pos} (nw:NwOk C X x c n g') (hg:Gl X x)
  (tk:Takes X C.W) (ha:PA X es (tA C g)) (hdb:(x == ("__debug__" : Str))=false) (hs:qnB X es) (hl:∀ρ r,g ρ=.ok r→r.length=n) (h0:es=[]→∀ρ,g ρ=.ok []) (hn:es.length=n) :
  PE X (.Call (.Name x p) es [] pos) (tE C fun ρ=>(g ρ).bind fun r=>(g' (r.map ER.d)).bind fun fs=>.ok (.val (.ins c fs) true)):=by
 rcases nw.ex with⟨k,f,fd,ps,M,F,hr,hm,hb⟩ | ⟨rfl,hg0,M,hfl,hm⟩
 case inr =>
  by_cases hes:es=[]
  ·subst hes
   refine⟨fun pins s σ H Q I h=>wpAny_Call_Name_kw (ld_glob I hg hm ?_ hdb)⟩
   refine PySem.W.callWith_K0 I.kIn M.kp ?_
   refine qmU M I fun a dx ha hdx hne=>?_
   obtain⟨ρ,P,N,S,h⟩:=h
   dsimp only at h
   rw[h0 rfl ρ] at h
   simp only[RE.bind_ok,List.map_nil,hg0] at h
   have r:=S.reg
   have n1:∀{Y:Hp} {b:Addr},L2.Same Y H→H b=none→Y b=none:=fun {Y b} hs hb=>by
    cases e:Y b with
    |none=>rfl
    |some o=>have:=hs _ _ e;rw[hb] at this;cases this
   have pa:=n1 r.pH ha
   have sH:L2.Same H (upd (upd H dx (.own a)) a (.ins (C.G.ca c) dx [])):=(qaI hdx).trans (qaI (by rw[upd_ne (Ne.symm hne)];exact ha))
   refine h (upd P a (.ins (C.G.ca c) dx [])) N _ ⟨sH,qaI pa,L2.Same.refl _,fun b o e=>?_,r.nH.trans sH,fun b hb=>?_,fun _ q=>.inl q,fun _ q _=>q⟩ _ ?_
   ·by_cases hba:b=a
    ·subst hba
     rw[upd_same] at e ⊢
     exact e
    ·rw[upd_ne hba] at e
     exact sH _ _ (r.pH _ _ e)
   ·by_cases hba:b=a
    ·subst hba;exact .inr ha
    ·rw[upd_ne hba] at hb;exact .inl hb
   ·refine⟨a,dx,[],rfl,?_,by rw[hfl];rfl,rfl⟩
    rw[hfl]
    exact upd_same
  ·exact absurd (List.length_eq_zero_iff.mp hn) hes
 have body:PE X (.Call (.Name x p) es [] pos) (fun σ H Q=>tA C g σ H fun vs H1=>∀x dx,H1 x=none→H1 dx=none→dx≠x →
   spI C.G c n g' (.ref x::vs) (upd (upd H1 dx (.own x)) x (.ins (C.G.ca c) dx [])) (fun v H2=>v=.non∧Q (.ref x) H2) (fun cls d H'=>C.W cls d σ H')):=by
  cases es with
  |nil =>
   refine⟨fun pins s σ H Q I h=>wpAny_Call_Name_kw (ld_glob I hg hm ?_ hdb)⟩
   refine PySem.W.callWith_K0 I.kIn M.kp ?_
   obtain⟨ρ,P,N,S,h⟩:=h
   rw[h0 rfl ρ] at h
   exact qjw (us:=[]) M F hr hb tk I .nil (h.now S.reg [] rfl)
  |cons e es =>
   refine⟨fun pins s σ H Q I h=>wpAny_Call_Name_kw (ld_glob I hg hm ?_ hdb)⟩
   refine PySem.W.callWith_K (h₀:=X.base) I.ok.mod.kin M.kp (thn (ha.run pos pins s σ H _ I h) fun us s1 ⟨vs,H1,I1,r,q⟩=>⟨I1.kIn,?_⟩) (hs.1 _ _ rfl) (hs.2 _ _ _ rfl)
   exact qjw M F hr hb tk I1 r q
 refine qak body fun σ H Q q=>?_
 obtain⟨ρ,P,N,S,h⟩:=q
 exact⟨ρ,P,N,S,h.bind.mono fun r P1 N1 H1 e a1 h1 vs rv=>qrx (S.adv a1).reg rv (hl _ _ e) h1⟩
end
section
variable {prog:Program} {w:World} {A:Around} {E:Value→Shared→Prop} {s:Shared} {l:Addr} {its:List Value} {ns:List Int} {Q:Value→Shared→Prop} {d:Value}
end
def qu3 (k:Bool) (ns:List Int) (d m:Int):Prop:=(ns=[]∧m=d)∨(m∈ns∧∀y∈ns,if k=true then y≤m else m≤y)
def rMm (K:PySem.W.Frag) (k:Bool):List V→List V→Hp→VK→Prop:=fun vs zs H Q=>∃(a:Addr) (ns:List Int) (d:Int),vs=[V.ref a]∧zs=[V.int d]∧SqL K H a (ns.map V.int)∧∀m,qu3 k ns d m→Q (.int m) H
def mmN (k:Bool):String:=if k=true then "max" else "min"
section
variable {C:Ctx} {X:Cx}
abbrev gMm (k:Bool) (go g:List Sl→RE ER):List Sl→RE ER:=fun ρ=>(go ρ).bind fun x=>(g ρ).bind fun y=>quH k x.d y.d
end
def quZ (G:Glo) (K:PySem.W.Frag) (a:Addr) (s:List Nat) (o:Option Cm.D):Prop:=
 match o with
 |none=>PySem.W.nsIn K a (qa8 s)=some none
 |some d=>∃u v,PySem.W.nsIn K a (qa8 s)=some (some u)∧RelV v u∧∀P N R,Rep G P (LNb G.K P N R true) d v
def qs9 (G:Glo) (K:PySem.W.Frag) (w:World) (mg:Str→Option Value) (x:Str) (t:List (List Nat × Option Cm.D)):Prop:=
 ∃a es n,mg x=some (.ref a)∧KDict K w a es n∧∀s o,t.lookup s=some o→quZ G K a s o
section
variable {C:Ctx} {X:Cx}
end
end Cm
namespace Cm
open PySem PySem.Spec PyProof.Rows L2
def IsLI (h:Heap) (v:Value) (ns:List Int):Prop:=∃a its,v=.ref a∧h.IsList a its∧IntsAre its.toList ns
section
variable {prog:Program} {w:World} {A:Around} {s:Shared}
theorem qld:∀{vs:List Value} {ns ms:List Int},IntsAre vs ns→IntsAre vs ms→ns=ms
 |_,_,_,.nil,h=>by cases h;rfl
 |_,_,_,.cons n t r,h=>by cases h with
  |cons _ _ r'=>rw[qld r r']
theorem IsLI.inj {h:Heap} {v:Value} {ns ms:List Int} (h1:IsLI h v ns) (h2:IsLI h v ms):ns=ms:=by
 obtain⟨a,its,rfl,⟨o,ho,hc,n,hd⟩,hi⟩:=h1
 obtain⟨b,its2,e,⟨o2,ho2,hc2,n2,hd2⟩,hi2⟩:=h2
 cases e
 rw[ho] at ho2;cases ho2
 rw[hd] at hd2;cases hd2
 exact qld hi hi2
open Classical in
noncomputable def qvG (h:Heap) (v:Value):List Int:=if q:∃ns,IsLI h v ns then q.choose else []
end
def qnz (K:PySem.W.Frag) (H:Hp):List V→List (List Int)→Prop
 |[],[]=>True
 |x::xs,n::ns=>(∃t,x=.ref t∧SqL K H t (n.map V.int))∧qnz K H xs ns
 |_,_=>False
def qsC (K:PySem.W.Frag):List V→Hp→VK→Prop:=fun vs H Q=>∃(a:Addr) (xs:List V) (ls:List (List Int)),vs=[V.ref a]∧SqL K H a xs∧qnz K H xs ls ∧
 ∀ys ms p,ys.length=ms.length→(ys.zip ms).Perm (xs.zip ls)→(ms.Pairwise fun x y=>qtE y x=false)→H p=none→Q (.ref p) (upd H p (.lst ys))
section
variable {C:Ctx} {X:Cx}
end
end Cm
set_option maxHeartbeats 3200000
namespace Cm
open PySem PySem.Spec PyProof.Rows L2
def qvT (w:World):Obj:={ cls:=.type "set",dict:=none,data:=.set #[] 0 (.fresh 0 0 (!w.params.followText "set-order")) }
section
variable {P:Program} {w:World} {A:Around} {E:Value→Shared→Prop} {s:Shared}
abbrev Kp (h h':Heap):Prop:=∀b o,h.get? b=some o→h'.get? b=some o
end
section
variable {C:Ctx} {X:Cx}
end
end Cm
namespace Cm
open PySem PySem.Spec PyProof.Rows L2
section
variable {prog:Program} {w:World} {A:Around} {E:Value→Shared→Prop} {s:Shared} {R:Result→Shared→Prop}
theorem qlC {it l:Addr} {items:Array Value} {G:Array GenState→Array GenState→Prop} (W:WalksS prog w A.in1 it [it,l] [it] G items.size (fun i v=>items[items.size - 1 - i]? = some v) (fun i s=>i≤items.size∧s.heap.IsRevIter it l ((items.size:Int) - 1 - (i:Int))∧s.heap.IsList l items))
  (S:Addr) (res:Value) (c₀:Nat) (hit:s.heap.IsRevIter it l ((items.size:Int) - 1)) (hl:s.heap.IsList l items) (hSf:S∉[it,l])
  (hS:s.heap.get? S=some { cls:=.type "list",data:=.seq #[] c₀ }) (hn:items.size≤sizeLine)
  (hR:∀s' acc' c',Moved (S::[it]) G s s'→s'.heap.get? S=some { cls:=.type "list",dict:=none,data:=.seq acc' c',slots:=#[] }→ItemsOf (fun i v=>items[items.size - 1 - i]? = some v) acc' items.size→R (.ok (.ret res)) s') :
  wpAny (model prog w) A.in1 (Builtin.List.listExtendWith (.ref S) (.ref it) res)
   (fun fin s'=>match fin with | .done f=>R (.ok f) s' | .again c'=>c'.quiet=true∧codeAny (model prog w) A c' R s') (fun e s'=>R (.error e) s') s:=by
 have hSI:S≠it:=fun e=>hSf (by rw[e];simp)
 have hT:s.TypeIs (.ref it) "list_reverseiterator":=hit.typeIs
 have e0:((items.size:Nat):Int) - 1 - ((0:Nat):Int)=(items.size:Int) - 1:=by omega
 unfold Builtin.List.listExtendWith
 refine wpAny_bind (wpAny_typeOf hT ?_)
 have h1:Builtin.List.listSameRef (.ref S) (.ref it)=false:=by simp[Builtin.List.listSameRef,hSI]
 rw[if_neg (by rw[h1];decide)]
 refine wpAny_bind (wpAny_pyIter_revIter hit ?_)
 refine wpAny_bind (wpAny_holding ?_)
 unfold Builtin.List.listLengthHint
 refine wpAny_bind (wpAny_specialOf hT RT.nolen_lri ?_)
 show wpAny _ A.in1 (specialOf (Value.ref it) (Str.ofString "__length_hint__") >>= _) _ _ _
 refine wpAny_bind (wpAny_specialOf hT RT.hint_lri ?_)
 generalize hid:("list_reverseiterator.__length_hint__" : String)=id0
 wp_delta
 rw[show splitId id0=some ("list_reverseiterator","__length_hint__") from by subst hid;decide +kernel]
 subst hid
 refine wpAny_bind (wpAny_isInstance (b:=true) hT (by rw[isSubtype_type];kernel_rfl) ?_)
 refine wpAny_pure ?_
 rw[if_neg (by decide)]
 refine wpAny_pure ⟨plainId_quiet F.plain_extend_loop _,codeAny_extend_loopS W hn _ hSf _ items.size 0 _ _ _ rfl (Nat.zero_le _) ⟨Nat.zero_le _,by rw[e0];exact hit,hl⟩ hS (ItemsOf.nil _) fun s' acc' c' hm hS' hacc=>?_⟩
 exact hR s' acc' c' hm hS' hacc
theorem qhJ {it l:Addr} {items:Array Value} {G:Array GenState→Array GenState→Prop} (W:WalksS prog w A.in1 it [it,l] [it] G items.size (fun i v=>items[items.size - 1 - i]? = some v) (fun i s=>i≤items.size∧s.heap.IsRevIter it l ((items.size:Int) - 1 - (i:Int))∧s.heap.IsList l items))
  (S:Addr) (hit:s.heap.IsRevIter it l ((items.size:Int) - 1)) (hl:s.heap.IsList l items) (hSf:S∉[it,l])
  (hS:s.heap.get? S=some { cls:=.type "list",data:=.seq #[] }) (hn:items.size≤sizeLine)
  (hR:∀s' acc' c',Moved (S::[it]) G s s'→s'.heap.get? S=some { cls:=.type "list",dict:=none,data:=.seq acc' c',slots:=#[] }→ItemsOf (fun i v=>items[items.size - 1 - i]? = some v) acc' items.size→R (.ok (.ret .none)) s') :
  wpAny (model prog w) A.in1 (Builtin.«list.__init__» ⟨[.ref S,.ref it],[]⟩)
   (fun fin s'=>match fin with | .done f=>R (.ok f) s' | .again c'=>c'.quiet=true∧codeAny (model prog w) A c' R s') (fun e s'=>R (.error e) s') s:=by
 show wpAny _ A.in1 (do let old ←Builtin.List.listItems (.ref S);Builtin.List.listUpdate (.ref S) (fun _=>#[]);letGo old.toList.reverse;Builtin.List.listExtendWith (.ref S) (.ref it) .none) _ _ s
 refine wpAny_bind ?_
 unfold Builtin.List.listItems
 refine wpAny_bind (wpAny_seqItems hS rfl (wpAny_pure ?_))
 show wpAny _ A.in1 (updateSeq S (fun _=>#[]) >>= fun _=>letGo (#[]:Array Value).toList.reverse >>= fun _=>Builtin.List.listExtendWith (.ref S) (.ref it) .none) _ _ s
 refine wpAny_bind (wpAny_updateSeq hS rfl ?_)
 have hS₂:=Heap.get?_update_self (Obj.mapSeq (fun _=>(#[]:Array Value))) hS rfl
 have oth:∀b o,b≠S→s.heap.get? b=some o→(s.heap.update S (Obj.mapSeq (fun _=>(#[]:Array Value)))).get? b=some o:=
  fun b o hb e=>(Heap.get?_update_other _ _ (Ne.symm hb)).trans e
 have n1:it≠S:=fun e=>hSf (by rw[←e];simp)
 have n2:l≠S:=fun e=>hSf (by rw[←e];simp)
 refine wpAny_bind (wpAny_letGo ?_)
 have hl2:(s.heap.update S (Obj.mapSeq (fun _=>(#[]:Array Value)))).IsList l items:=by
  obtain⟨o,ho,r⟩:=hl
  exact⟨o,oth l o n2 ho,r⟩
 refine qlC W S .none _ (hit.at fun o e=>oth it o n1 e) hl2 hSf hS₂ hn fun s' acc' c' hm hS' hacc=>?_
 exact hR s' acc' c' (Moved.trans W.gtrans ((Moved.refl W.grefl).then_heap (Nat.le_refl _) fun b o hb e=>oth b o (fun h=>hb (h ▸ List.mem_cons_self)) e) hm) hS' hacc
theorem qhN {it l:Addr} {items:Array Value} {Q:Value→Shared→Prop} (hh:A.handled=none) (hit:s.heap.IsRevIter it l ((items.size:Int) - 1)) (hl:s.heap.IsList l items) (hne:l≠it) (hn:items.size≤sizeLine)
  (hQ:∀(h':Heap) (tk:Nat) (acc':Array Value) (c':Nat),(∀b o,b≠it→s.heap.get? b=some o→h'.get? b=some o)→h'.get? s.heap.objs.size=some { cls:=.type "list",dict:=none,data:=.seq acc' c',slots:=#[] }→ItemsOf (fun i v=>items[items.size - 1 - i]? = some v) acc' items.size→Q (.ref s.heap.objs.size) { s with heap:=h',toks:=tk }) :
  wpAny (model prog w) A (call (.type "list") [.ref it]) Q E s:=by
 obtain⟨oi,hoi,_⟩:=id hit
 obtain⟨ol,hol,_⟩:=id hl
 have hSi:s.heap.objs.size≠it:=Nat.ne_of_gt (Heap.lt_size hoi)
 have hSl:s.heap.objs.size≠l:=Nat.ne_of_gt (Heap.lt_size hol)
 have hSf:s.heap.objs.size∉[it,l]:=by simp only[List.mem_cons,List.not_mem_nil,or_false,not_or];exact⟨hSi,hSl⟩
 have h2:A.in1.in1.handled=none:=by simp[hh]
 have W:=(Walks.listRev (prog:=prog) (w:=w) (A:=A.in1.in1) h2 it l hne items).toS
 refine callType_codes (Q₁:=fun obj s₁=>obj=.ref s.heap.objs.size∧s₁={ s with heap:=s.heap.push { cls:=.type "list",data:=.seq #[] } }) F.called_list (F.typeCall_list_1 _) F.entry_list_init
  (code_list_new _ ⟨rfl,rfl⟩) fun obj s₁ h₁=>?_
 obtain⟨rfl,rfl⟩:=h₁
 have hS:(s.heap.push { cls:=.type "list",data:=.seq #[] }).get? s.heap.objs.size=some { cls:=.type "list",data:=.seq #[] }:=Heap.get?_push_size _ rfl
 refine⟨⟨_,hS,rfl⟩,F.args_list_init_2 _ _,qhJ W _ (hit.at fun o e=>Heap.get?_push_of_some _ e) (hl.push _) hSf hS hn fun s' acc' c' hm hS' hacc=>?_⟩
 refine⟨rfl,?_⟩
 rw[Moved.eq_with hm]
 refine hQ s'.heap s'.toks acc' c' (fun b o hb e=>hm.heap b o (fun hmem=>?_) (Heap.get?_push_of_some _ e)) hS' hacc
 rcases List.mem_cons.mp hmem with e' | hmem
 ·exact absurd (Heap.lt_size e) (by rw[e'];exact Nat.lt_irrefl _)
 ·exact hb (List.mem_singleton.mp hmem)
end
theorem qlw:∀{vs:List Value} {xs:List Int} {ws:List Value} {ys:List Int},IntsAre vs xs→IntsAre ws ys→IntsAre (vs++ws) (xs++ys)
 |_,_,_,_,.nil,k=>k
 |_,_,_,_,.cons n t h,k=>.cons n t (qlw h k)
theorem qk0:∀{vs:List Value} {xs:List Int},IntsAre vs xs→IntsAre vs.reverse xs.reverse
 |_,_,.nil=>.nil
 |_,_,.cons n t h=>by
  rw[List.reverse_cons,List.reverse_cons]
  exact qlw (qk0 h) (.cons n t .nil)
theorem qnV {items acc:Array Value} (h:ItemsOf (fun i v=>items[items.size - 1 - i]? = some v) acc items.size):acc.toList=items.toList.reverse:=by
 refine List.ext_getElem? fun i=>?_
 by_cases hi:i<items.size
 ·have h1:i<acc.size:=by rw[h.1];exact hi
  have h2:=h.2 i acc[i] (Array.getElem?_eq_getElem h1)
  rw[List.getElem?_reverse (by simpa using hi),Array.getElem?_toList,Array.getElem?_toList,Array.length_toList]
  have h2:items[items.size - 1 - i]? = some acc[i]:=h2
  rw[h2,Array.getElem?_eq_getElem h1]
 ·rw[List.getElem?_eq_none (by rw[Array.length_toList,h.1];omega),List.getElem?_eq_none (by rw[List.length_reverse,Array.length_toList];omega)]
section
variable {C:Ctx} {X:Cx}
theorem qo1 {a:Expr} {g:List Sl→RE ER} {p p2 q pos:Pos} (hK:X.K=C.G.K) (hc:X.calm=true) (hg:Gl X "list") (hm:X.mg "list" = none) (hg2:Gl X "reversed") (hm2:X.mg "reversed" = none) (ha:PE X a (tE C g))
  (na:qag a=true):PE X (.Call (.Name "list" p) [.Call (.Name "reversed" p2) [a] [] q] [] pos) (tE C fun ρ=>(g ρ).bind fun x=>qnD x.d):=by
 have na:=qac (es:=[]) (env:=X.env) na
 refine⟨fun pins s σ H Q I h=>Call_ (ld_blt I hg hm PyProof.Rows.boot_list (PyProof.Rows.callWith_type1 (PyProof.Rows.args_cons ?_ rfl) rfl rfl))⟩
 refine Call_ (ld_blt I hg2 hm2 PyProof.Rows.boot_reversed (PyProof.Rows.callWith_type1 (PyProof.Rows.args_cons ?_ na) na rfl))
 have body:tE C g σ H fun x H1=>∃(l:Addr) (ns:List Int),x=V.ref l∧SqL X.K H1 l (ns.map V.int)∧ns.length≤16777216∧∀p,H1 p=none→Q (.ref p) (upd H1 p (.lst (ns.reverse.map V.int))):=by
  obtain⟨ρ,P,N,S,h⟩:=h
  refine⟨ρ,P,N,S,h.bind.mono fun x P1 N1 H1 _ a1 h1 v rv=>?_⟩
  have r1:=(S.adv a1).reg
  unfold qnD at h1
  split at h1
  ·rename_i ds hd
   split at h1
   ·rename_i ns hn
    have w:=rv.w r1
    rw[hd] at w
    obtain⟨l,xs,rfl,z1,z2⟩:=w
    rw[qek] at h1
    split at h1
    ·rename_i hl
     unfold leB at hl
     rw[Nat.ble_eq] at hl
     refine⟨l,ns,rfl,by rw[hK,←qcs hn z2];exact z1,hl,fun p hp=>?_⟩
     exact h1.fre r1 a1.hh (Reps.ints.mpr rfl) hp
    ·exact h1.elim
   ·exact h1.elim
  ·exact h1.elim
 refine thn (ha.run pins s σ H _ I body) fun v s1 ⟨x,H1,I1,r1,q1⟩=>PyProof.Rows.args_nil ?_
 obtain⟨l,ns,rfl,hq,hl,q1⟩:=q1
 cases r1
 obtain⟨its,r,pl,_⟩:=I1.list hq
 have ia:IntsAre its.toArray.toList ns:=by simpa using r.ints
 have size:its.toArray.size=ns.length:=by
  rw[←Array.length_toList];exact IntsAre.length ia
 have sz:its.toArray.size≤sizeLine:=by rw[size,sizeLine_eq];omega
 have lt:l<s1.heap.objs.size:=by
  obtain⟨o,ho,_⟩:=pl.isList
  exact Heap.lt_size ho
 refine PySem.call_reversed_list pl.isList (PyProof.Rows.args_nil ?_)
 have hit:(s1.heap.push (revObj l ((its.toArray.size:Int) - 1))).IsRevIter s1.heap.objs.size l ((its.toArray.size:Int) - 1):=⟨_,Heap.get?_push_size _ rfl,rfl,rfl⟩
 refine qhN (s:={ s1 with heap:=s1.heap.push (revObj l ((its.toArray.size:Int) - 1)) }) (I1.ok.hd hc) hit (pl.isList.push _) (Nat.ne_of_lt lt) sz fun h' tk acc c' kp hget hacc=>?_
 have e:=qnV hacc
 have k:∀b o,s1.heap.get? b=some o→h'.get? b=some o:=fun b o hb=>kp b o (Nat.ne_of_lt (Heap.lt_size hb)) (Heap.get?_push_of_some _ hb)
 have hi:IntsAre acc.toList ns.reverse:=by rw[e];exact qk0 ia
 have hp:s1.heap.objs.size≤(s1.heap.push (revObj l ((its.toArray.size:Int) - 1))).objs.size:=by rw[Heap.size_push];omega
 have fresh:=I1.hok.fresh hp
 have fits:(ns.reverse.map V.int).length≤sizeLine:=by rw[List.length_map,List.length_reverse,sizeLine_eq];omega
 have J:Inv X pins σ (upd H1 (s1.heap.push (revObj l ((its.toArray.size:Int) - 1))).objs.size (.lst (ns.reverse.map V.int))) { s1 with heap:=h',toks:=tk }:=
  I1.call (ch:=[]) (Un.laid k hp fresh) (I1.hok.laid k hp ⟨fits,acc.toList,c',vals_of_ints hi,hget⟩) I1.bare (fun _ z=>nomatch z)
 exact⟨.ref (s1.heap.push (revObj l ((its.toArray.size:Int) - 1))).objs.size,_,J,rfl,q1 _ fresh⟩
end
end Cm
set_option maxHeartbeats 2000000
namespace Cm
open PySem PySem.Spec PyProof.Rows L2
def wK (K:PySem.W.Frag) (c:Value) (i j:Nat) (Wout:WX) (D:Ends):WX:=fun cls d σ H =>
 ∃b,PySem.W.exmOne K cls c=some b∧(b=true→d=none∧∀a,H a=none→D.nx ((σ.set j (some (.ref a))).set i none) (upd H a (exK cls a)))∧(b=false→Wout cls d σ H)
section
variable {X:Cx} {pins:List (Addr × Obj)} {σ:L2.St} {H:Hp} {s:Shared}
end
section
variable {X:Cx} {x n m:Str} {c:Value} {i j:Nat} {body:List Stmt} {np p1 p2 pa pos pos':Pos} {tb:WX→TS} {Wout:WX}
end
def qvI (K:PySem.W.Frag):List V→Hp→VK→Prop:=fun xs H Q=>rIsi K xs H Q∨∃(a D:Addr) (c:V) (u:Value) (b:Bool),xs=[.ref a,c]∧ClsV c u∧H a=some (exK (.ref D) a)∧ExcC K D∧PySem.W.kitOne K (.ref D) u=some b∧Q (.bl b) H
structure InsC (K:PySem.W.Frag) (D:Addr):Prop where
 cl:Cls K D
 ha:PySem.W.findIn K (.ref D) "__class__" = some (some (.builtin "object.__class__"))
 hn:PySem.W.specialIn K (.builtin "object.__class__") "__get__" = some (some (.builtin "getset_descriptor.__get__"))
 ht:PySem.W.takesIn K (.builtin "object.__class__")=some true
 hm:PySem.W.mroIn K D (.type "object")=some true
def NmC (mg:Str→Option Value) (x:Str) (own:Bool) (v:V) (u:Value):Prop:=ClsV v u∧(match own with
 |true=>mg x=some u
 |false=>x=("ValueError" : Str)∧u=.type "ValueError")
structure RsOk (K:PySem.W.Frag) (mg:Str→Option Value) (D:Addr) (x:Str):Prop where
 mg:mg x=some (.ref D)
 exc:PySem.W.excIn K D He.veBase "ValueError.__new__" = true
 keep:PySem.W.keepIn K (.ref D)=true
 sub:PySem.W.subIn K (.ref D) (.type "BaseException")=some true
 ty:PySem.W.typeIn K (.ref D)=some (.type "type")
structure CkOk (G:Glo) (K:PySem.W.Frag) (mg:Str→Option Value) (x:Str) (own:Bool) (ck ik:Option (Nat→Option Bool)):Prop where
 ex:∃v u,NmC mg x own v u∧(∀g,ck=some g→∀c b,g c=some b→PySem.W.kitOne K (.ref (G.ca c)) u=some b∧PySem.W.exmOne K (.ref (G.ca c)) u=some b∧ExcC K (G.ca c)) ∧
  (∀g,ik=some g→∀c b,g c=some b→PySem.W.kitOne K (.ref (G.ca c)) u=some b∧InsC K (G.ca c))
section
variable {C:Ctx} {X:Cx} {x:Str} {own:Bool} {v:V} {u:Value} {p p2 pos:Pos}
abbrev qvs (go g:List Sl→RE ER):List Sl→RE ER:=fun ρ=>(go ρ).bind fun x=>match x.d with
  |.lst xs=>(g ρ).bind fun y=>qtP xs y.d
  |_=>.bad
theorem qrs {c:Nat} {m:Str} {j:Nat} {pos':Pos} (hK:X.K=C.G.K) (hc:X.calm=true) (tk:Takes X C.W) (hg:Gl X x) (hd:(x == ("__debug__" : Str))=false) (h:RsOk X.K X.mg (C.G.ca c) x) :
  PS X (.Raise (some (.Call (.Name x p) [.Constant (.str m) j p2] [] pos)) none pos') (tS C fun _=>.exc c []):=
 qaj (ps_raise hc tk (pmk_own PySem.F.excBase_ValueError h.exc h.mg h.keep (raises_own h.sub h.ty) hg hd)) fun D σ H q=>by
  obtain⟨ρ,P,N,S,h⟩:=q
  exact h σ none P N H S.reg (.inl ⟨rfl,rfl⟩)
end
def tR (C:Ctx) (g:List Sl→RE (List Sl)):TS:=fun D σ H=>∃ρ P N,SR C P N H ρ σ∧res C σ P N H (g ρ) fun ρ' _ _ H'=>∀σ' P2 N2,Same P P2→Same N N2→SR C P2 N2 H' ρ' σ'→D.nx σ' H'
section
variable {C:Ctx} {X:Cx}
theorem SR.wish {W:WX} {P N H:Hp} {ρ:List Sl} {σ:L2.St} (S:SR C P N H ρ σ):SR { C with W:=W } P N H ρ σ:=
 ⟨⟨S.reg.pH,S.reg.nH,S.reg.bH,S.reg.rB,S.reg.p0,S.reg.pn,S.reg.nw,S.reg.dj⟩,S.len,fun i s e=>by
  obtain⟨o,h1,h2⟩:=S.sl i s e
  exact⟨o,h1,by cases s<;>exact h2⟩,S.ap,S.ad,S.ar⟩
end
end Cm
namespace Cm
open PySem PySem.Spec PyProof.Rows L2
inductive ClsVs:List V→List Value→Prop where
 |nil:ClsVs [] []
 |cons {v:V} {u:Value} {vs:List V} {us:List Value}:ClsV v u→ClsVs vs us→ClsVs (v::vs) (u::us)
theorem ClsVs.eq {vs:List V} {us its:List Value} (h:ClsVs vs us) (r:Vals vs its):its=us:=by
 induction h generalizing its with
 |nil=>cases r;rfl
 |cons k _ ih =>
  cases r with
  |cons rx rr=>rw[k.eq rx,ih rr]
def tVs (vs:List V):TA:=fun _ H Q=>Q vs H
section
variable {C:Ctx} {X:Cx}
end
end Cm
namespace Cm
open PySem PySem.Spec PyProof.Rows L2
section
variable {R:Cm.D→V→Prop}
theorem DctR.fnd:∀{m:List (Int × Cm.D)} {es:List (Key × V)} {k:Int},DctR R m es→match qn0 k m with
  |some d=>∃v,valV es (.inl k)=some v∧R d v
  |none=>valV es (.inl k)=none
 |[],_,_,h=>by cases h;rfl
 |e::m,_,k,⟨v,r,he,h1,h2⟩=>by
  subst he
  unfold qn0
  by_cases q:e.1=k
  ·rw[if_pos q]
   exact⟨v,valV_pos (by rw[←q]),h1⟩
  ·rw[if_neg q,valV_neg (fun z=>q (Sum.inl.inj z))]
   exact DctR.fnd h2
theorem DctR.some {m:List (Int × Cm.D)} {es:List (Key × V)} (h:DctR R m es) {k:Int} {d:Cm.D} (e:qn0 k m=some d):∃v,valV es (.inl k)=some v∧R d v:=by
 have:=h.fnd (k:=k)
 rw[e] at this;exact this
theorem DctR.has {m:List (Int × Cm.D)} {es:List (Key × V)} (h:DctR R m es) (k:Int):(valV es (.inl k)).isSome=(qn0 k m).isSome:=by
 have:=h.fnd (k:=k)
 cases e:qn0 k m with
 |none=>rw[e] at this;rw[this];rfl
 |some d=>rw[e] at this;obtain⟨v,q,_⟩:=this;rw[q];rfl
theorem DctR.len:∀{m:List (Int × Cm.D)} {es:List (Key × V)},DctR R m es→es.length=m.length
 |[],_,h=>by cases h;rfl
 |e::m,_,⟨v,r,he,h1,h2⟩=>by subst he;simp[DctR.len h2]
theorem DctR.set {k:Int} {d:Cm.D} {v:V} (hr:R d v):∀{m:List (Int × Cm.D)} {es:List (Key × V)},DctR R m es→DctR R (qtQ k d m) (es.map fun kv=>if kv.1=.inl k then (kv.1,v) else kv)
 |[],_,h=>by cases h;rfl
 |e::m,_,⟨w,r,he,h1,h2⟩=>by
  subst he
  have ih:=DctR.set (k:=k) hr h2
  unfold qtQ at ih ⊢
  rw[List.map_cons,List.map_cons]
  by_cases q:e.1=k
  ·rw[if_pos q,if_pos (by show Sum.inl e.1=Sum.inl k;rw[q])]
   exact⟨v,_,rfl,hr,ih⟩
  ·rw[if_neg q,if_neg (fun z=>q (Sum.inl.inj z))]
   exact⟨w,_,rfl,h1,ih⟩
theorem DctR.snoc {k:Int} {d:Cm.D} {v:V} (hr:R d v):∀{m:List (Int × Cm.D)} {es:List (Key × V)},DctR R m es→DctR R (m++[(k,d)]) (es++[(.inl k,v)])
 |[],_,h=>by cases h;exact⟨v,[],rfl,hr,rfl⟩
 |e::m,_,⟨w,r,he,h1,h2⟩=>by subst he;exact⟨w,_,rfl,h1,DctR.snoc hr h2⟩
theorem DctR.put {m:List (Int × Cm.D)} {es:List (Key × V)} (h:DctR R m es) {k:Int} {d:Cm.D} {v:V} (hr:R d v):DctR R (qtH k d m) (putK es (.inl k) v):=by
 unfold qtH putK
 rw[valV_any,h.has]
 split
 ·exact h.set hr
 ·exact h.snoc hr
end
section
variable {C:Ctx} {X:Cx} {P N H:Hp} {ρ:List Sl} {σ:L2.St}
theorem SR.offp {P0 N0 H0:Hp} {p:Addr} {u:HO} (S0:SR C P0 N0 H0 ρ σ) (hs:L2.Same H0 H) (h0:H0 p=none) (S:SR C P N H ρ σ) (pP:P p=none) (pN:N p=none):SR C P N (upd H p u) ρ σ where
 reg:=⟨qaJ S.reg.pH pP,qaJ S.reg.nH pN,qaJ S.reg.bH (S0.reg.bH.free h0),S.reg.rB,S.reg.p0,S.reg.pn,S.reg.nw,S.reg.dj⟩
 len:=S.len
 sl:=fun j s ej=>by
  obtain⟨o,y1,y2⟩:=S.sl j s ej
  obtain⟨o',w1,w2⟩:=S0.sl j s ej
  rw[y1] at w1
  cases w1
  refine⟨o,y1,?_⟩
  cases s with
  |non=>trivial
  |val d b=>exact y2
  |own es c =>
   obtain⟨r,ys,y3,y4,y5⟩:=y2
   obtain⟨r',ys',x3,x4,_⟩:=w2
   rw[y3] at x3;cases x3
   have hr:r≠p:=fun er=>by rw[er,h0] at x4;cases x4
   exact⟨r,ys,y3,by rw[upd_ne hr];exact y4,y5⟩
  |slf c fs =>
   obtain⟨r,dx,ys,y3,y4,y5⟩:=y2
   obtain⟨r',dx',ys',x3,x4,_⟩:=w2
   have e:r=r':=y3.1.trans x3.1.symm
   have hr:r≠p:=fun er=>by rw[←e,er,h0] at x4;cases x4
   exact⟨r,dx,ys,y3,by rw[upd_ne hr];exact y4,y5⟩
  |fxd d k=>exact y2
  |dct m c =>
   obtain⟨r,ys,y3,y4,y5⟩:=y2
   obtain⟨r',ys',x3,x4,_⟩:=w2
   rw[y3] at x3;cases x3
   have hr:r≠p:=fun er=>by rw[er,h0] at x4;cases x4
   exact⟨r,ys,y3,by rw[upd_ne hr];exact y4,y5⟩
  |row dss =>
   have far:∀a,Held H (.row dss) o a→a≠p:=fun a k er=>S0.newW hs h0 ej y1 (er ▸ k)
   obtain⟨r,ps,rfl,y4,y5,y6,y7,y8,y9⟩:=y2
   refine⟨r,ps,rfl,by rw[upd_ne (far r .rt)];exact y4,y5,y6,y7,?_,y9⟩
   exact y8.sub fun a m ds ⟨us,g1,g2⟩=>⟨us,by rw[upd_ne (far a (.it y4 m))];exact g1,g2⟩
 ap:=S.ap
 ad:=S.ad
 ar:=S.ar.heap fun i dss q e1 e2=>upd_ne fun er=>S0.newW hs h0 e1 e2 (by rw[er];exact .rt)
theorem qoD {go g:List Sl→RE ER} {D:Ends} {K:PySem.W.Frag} (q:tS C (fun ρ=>(go ρ).out fun x=>match x with
  |.fre ds _=>(g ρ).out fun y=>held y fun _ _=>gdO (leB (ds.length+1)) (.nx ρ)
  |_=>.bad) D σ H):tDrop (tBM K "list" rAppend (tE C go) (tCons (tE C g) tNil)) D σ H:=by
 obtain⟨ρ,P,N,S,h⟩:=q
 refine⟨ρ,P,N,S,(h.res S.reg).mono fun x P1 N1 H1 _ a1 h1 v rv=>?_⟩
 have S1:=S.adv a1
 cases x with
 |val _ _=>exact h1.elim
 |brw _ _=>exact h1.elim
 |fre ds b =>
  obtain⟨p,xs,rfl,z1,z2,z3,z4,z5⟩:=rv
  refine⟨.inl ⟨rfl,xs,.inl (.inl z1)⟩,ρ,P1,N1,S1,((h1.adv a1.pp a1.nn).res S1.reg).mono fun y P2 N2 H2 _ a2 h2 u ru=>?_⟩
  obtain⟨N3,d,b2,a3,r3,o⟩:=ru.held a2 h2
  simp only[qa2,qan] at o
  split at o
  ·rename_i hl
   refine⟨p,xs,u,rfl,rfl,a2.hh _ _ z1,by rw[z5.length];exact hl,?_⟩
   exact o σ P2 N3 _ (SR.offp S (a1.hh.trans a3.hh) z2 (S1.adv a3) (a3.off z1 z3) (a3.offN z1 z4)) a3.pp a3.nn
  ·exact o.elim
theorem qoC {go:List Sl→RE ER} {D:Ends} {K:PySem.W.Frag} (q:tS C (fun ρ=>(go ρ).out fun x=>match x with
  |.fre _ _=>.nx ρ
  |_=>.bad) D σ H):tDrop (tBM0 K "list" rClear (tE C go)) D σ H:=by
 obtain⟨ρ,P,N,S,h⟩:=q
 refine⟨ρ,P,N,S,(h.res S.reg).mono fun x P1 N1 H1 _ a1 h1 v rv=>?_⟩
 cases x with
 |val _ _=>exact h1.elim
 |brw _ _=>exact h1.elim
 |fre ds b =>
  obtain⟨p,xs,rfl,z1,z2,z3,z4,z5⟩:=rv
  exact⟨.inl ⟨rfl,xs,.inl (.inl z1)⟩,p,xs,rfl,rfl,z1,h1 σ P1 N1 _ (SR.offp S a1.hh z2 (S.adv a1) z3 z4) a1.pp a1.nn⟩
end
end Cm
namespace Cm
open PySem PySem.Spec PyProof.Rows L2
section
variable {C:Ctx} {X:Cx} {P N H:Hp} {ρ:List Sl} {σ:L2.St}
noncomputable def NW (H:Hp) (ρ:List Sl) (σ:L2.St) (N:Hp):Hp:=fun a=>@ite _ (∃(j:Nat) (dss:List (List Cm.D)) (u:Option V),ρ[j]? = some (.row dss)∧σ[j]? = some u∧Held H (.row dss) u a) (Classical.propDecidable _) (H a) (N a)
theorem qq8 {a:Addr} {j:Nat} {dss:List (List Cm.D)} {u:Option V} (e1:ρ[j]? = some (.row dss)) (e2:σ[j]? = some u) (k:Held H (.row dss) u a):NW H ρ σ N a=H a:=if_pos ⟨j,dss,u,e1,e2,k⟩
theorem qgh {a:Addr} (h:¬∃(j:Nat) (dss:List (List Cm.D)) (u:Option V),ρ[j]? = some (.row dss)∧σ[j]? = some u∧Held H (.row dss) u a):NW H ρ σ N a=N a:=if_neg h
theorem SR.heldW (S:SR C P N H ρ σ) {a:Addr} {j:Nat} {dss:List (List Cm.D)} {u:Option V} (e1:ρ[j]? = some (.row dss)) (e2:σ[j]? = some u) (k:Held H (.row dss) u a):(∃xs,H a=some (.lst xs))∧P a=none∧N a=none∧C.B a=none:=by
 obtain⟨o,z1,z2⟩:=S.sl j _ e1
 rw[z1] at e2;cases e2
 exact z2.held k
theorem SR.nwN (S:SR C P N H ρ σ):L2.Same N (NW H ρ σ N):=fun a o e=>by
 by_cases h:∃(j:Nat) (dss:List (List Cm.D)) (u:Option V),ρ[j]? = some (.row dss)∧σ[j]? = some u∧Held H (.row dss) u a
 ·obtain⟨j,dss,u,e1,e2,k⟩:=h
  rw[(S.heldW e1 e2 k).2.2.1] at e;cases e
 ·rw[qgh h];exact e
theorem qhI {α β:Type} {f:α→β} {xs:List α} {i:Nat} {y:β} (h:(xs.map f)[i]? = some y):∃x,xs[i]? = some x∧y=f x:=by
 rw[List.getElem?_map] at h
 cases e:xs[i]? with
 |none=>rw[e] at h;cases h
 |some x=>rw[e] at h;cases h;exact⟨x,rfl,rfl⟩
theorem SR.peek (S:SR C P N H ρ σ):SR C P (NW H ρ σ N) H (ρ.map pkS) σ where
 reg:=by
  have sn:=S.nwN
  refine⟨S.reg.pH,fun a o e=>?_,S.reg.bH,S.reg.rB,S.reg.p0,S.reg.pn,fun a e=>?_,fun a e=>?_⟩
  ·by_cases h:∃(j:Nat) (dss:List (List Cm.D)) (u:Option V),ρ[j]? = some (.row dss)∧σ[j]? = some u∧Held H (.row dss) u a
   ·obtain⟨j,dss,u,e1,e2,k⟩:=h
    rwa [qq8 e1 e2 k] at e
   ·rw[qgh h] at e;exact S.reg.nH _ _ e
  ·by_cases h:∃(j:Nat) (dss:List (List Cm.D)) (u:Option V),ρ[j]? = some (.row dss)∧σ[j]? = some u∧Held H (.row dss) u a
   ·obtain⟨j,dss,u,e1,e2,k⟩:=h
    exact(S.heldW e1 e2 k).2.2.2
   ·rw[qgh h] at e;exact S.reg.nw _ e
  ·by_cases h:∃(j:Nat) (dss:List (List Cm.D)) (u:Option V),ρ[j]? = some (.row dss)∧σ[j]? = some u∧Held H (.row dss) u a
   ·obtain⟨j,dss,u,e1,e2,k⟩:=h
    exact(S.heldW e1 e2 k).2.1
   ·rw[qgh h] at e;exact S.reg.dj _ e
 len:=by rw[List.length_map];exact S.len
 sl:=fun i s e=>by
  have sn:=S.nwN
  obtain⟨s0,e0,rfl⟩:=qhI e
  obtain⟨o,z1,z2⟩:=S.sl i s0 e0
  refine⟨o,z1,?_⟩
  have far:∀a,N a=none→(∀(j:Nat) (dss:List (List Cm.D)) (u:Option V),ρ[j]? = some (.row dss)→σ[j]? = some u→¬Held H (.row dss) u a)→NW H ρ σ N a=none:=fun a hn k=>by
   rw[qgh (fun⟨j,dss,u,e1,e2,h⟩=>k j dss u e1 e2 h)];exact hn
  cases s0 with
  |non=>trivial
  |val d b =>
   obtain⟨v,y1,y2⟩:=z2
   exact⟨v,y1,RepB.adv (L2.Same.refl _) sn y2⟩
  |own ds b =>
   obtain⟨p,xs,rfl,y2,y3,y4,y5,y6⟩:=z2
   refine⟨p,xs,rfl,y2,y3,far p y4 fun j dss u e1 e2 h=>?_,y5,RepsB.adv (L2.Same.refl _) sn y6⟩
   have:=S.ar.un j i dss _ _ _ p e1 e0 e2 z1 h .own
   subst this
   rw[e0] at e1;cases e1
  |slf c fs =>
   obtain⟨p,dx,xs,y1,y2,y3,y4,y5⟩:=z2
   refine⟨p,dx,xs,y1,y2,y3,far p y4 fun j dss u e1 e2 h=>?_,y5.1,y5.2.1,RepsB.adv (L2.Same.refl _) sn y5.2.2⟩
   obtain⟨⟨us,q⟩,_⟩:=S.heldW e1 e2 h
   rw[y2] at q;cases q
  |fxd d k =>
   obtain⟨v,y1,y2,y3⟩:=z2
   exact⟨v,y1,y2,RepB.adv (L2.Same.refl _) sn y3⟩
  |dct m b =>
   obtain⟨p,es,rfl,y2,y3,y4,y5,y6⟩:=z2
   refine⟨p,es,rfl,y2,y3,far p y4 fun j dss u e1 e2 h=>?_,y5,y6.adv (L2.Same.refl _) sn⟩
   obtain⟨⟨us,q⟩,_⟩:=S.heldW e1 e2 h
   rw[y2] at q;cases q
  |row dss =>
   obtain⟨p,ps,rfl,y2,y3,y4,y5,y6,y7⟩:=z2
   refine⟨.ref p,rfl,p,ps.map V.ref,rfl,.inl ?_,?_⟩
   ·rw[qq8 e0 z1 .rt];exact y2
   ·have go:∀{dss:List (List Cm.D)} {qs:List Addr},(∀a∈qs,NW H ρ σ N a=H a)→RowR (fun a ds=>∃xs,H a=some (.lst xs)∧P a=none∧N a=none∧C.B a=none∧D.flats ds=true∧RepsB C P N true ds xs) dss qs→RepsB C P (NW H ρ σ N) true (dss.map D.lst) (qs.map V.ref):=fun {dss}=>by
     induction dss with
     |nil=>intro qs _ h;cases h;exact rfl
     |cons ds r ih =>
      intro qs hq ⟨a,q,e,⟨xs,g1,_,_,_,_,g6⟩,h2⟩
      subst e
      refine⟨.ref a,q.map V.ref,rfl,⟨a,xs,rfl,.inl ?_,RepsB.adv (L2.Same.refl _) sn g6⟩,ih (fun b hb=>hq b (List.mem_cons_of_mem _ hb)) h2⟩
      rw[hq a (by simp)];exact g1
    exact go (fun a m=>qq8 e0 z1 (.it y2 m)) y6
 ap:=fun i j p ds b es c e1 e2 e3 e4=>by
  have un:∀{m:Nat} {es:List Cm.D} {c:Bool},(ρ.map pkS)[m]? = some (.own es c)→ρ[m]? = some (.own es c):=fun {m es c} e=>by
   obtain⟨s0,e0,h⟩:=qhI e
   rw[e0]
   cases s0 with
   |own _ _=>exact congrArg some h.symm
   |_=>cases h
  exact S.ap i j p ds b es c (un e1) (un e2) e3 e4
 ad:=S.ad.sub fun i m b e=>by
  obtain⟨s0,e0,h⟩:=qhI e
  refine⟨rfl,?_⟩
  rw[e0]
  cases s0 with
  |dct m' b'=>exact⟨_,_,rfl⟩
  |_=>cases h
 ar:=AR.no fun i s e=>by
  obtain⟨s0,e0,rfl⟩:=qhI e
  cases s0<;>rfl
noncomputable def NB (H:Hp) (ρ:List Sl) (σ:L2.St) (N2:Hp):Hp:=fun a=>@ite _ (∃(j:Nat) (dss:List (List Cm.D)) (u:Option V),ρ[j]? = some (.row dss)∧σ[j]? = some u∧Held H (.row dss) u a) (Classical.propDecidable _) none (N2 a)
theorem qri {N2:Hp} {a:Addr} (h:N2 a=none):NB H ρ σ N2 a=none:=by
 unfold NB
 split
 ·rfl
 ·exact h
theorem SR.unpeek (S:SR C P N H ρ σ) {P2 N2 H2:Hp} (a:Adv P (NW H ρ σ N) H P2 N2 H2):Adv P N H P2 (NB H ρ σ N2) H2 where
 hh:=a.hh
 pp:=a.pp
 nn:=fun b o e=>by
  by_cases h:∃(j:Nat) (dss:List (List Cm.D)) (u:Option V),ρ[j]? = some (.row dss)∧σ[j]? = some u∧Held H (.row dss) u b
  ·obtain⟨j,dss,u,e1,e2,k⟩:=h
   rw[(S.heldW e1 e2 k).2.2.1] at e;cases e
  ·unfold NB
   rw[if_neg h]
   exact a.nn b o (S.nwN b o e)
 pH:=a.pH
 nH:=fun b o e=>by
  unfold NB at e
  split at e
  ·cases e
  ·exact a.nH b o e
 pn:=a.pn
 nw:=fun b e=>by
  unfold NB at e
  split at e
  ·exact absurd rfl e
  ·rename_i h
   rcases a.nw b e with z | z
   ·rw[qgh h] at z;exact .inl z
   ·exact .inr z
 dj:=fun b e e2=>by
  unfold NB at e
  split at e
  ·exact absurd rfl e
  ·rename_i h
   have:=a.dj b e e2
   rwa [qgh h] at this
theorem ExR.flat {P2 N2 N3 H2:Hp} {fs:List Cm.D} {d:Option Addr} (f:D.flats fs=true) (h:ExR C P2 N2 H2 fs d):ExR C P2 N3 H2 fs d:=by
 rcases h with h | ⟨dd,g,v,e1,e2,e3,e4⟩
 ·exact .inl h
 ·subst e1
  simp only[D.flats,Bool.and_true] at f
  exact .inr ⟨dd,g,v,rfl,e2,e3,Rep.flat g v f e4⟩
theorem qsp {g:List Sl→RE ER} {Q:VK} (h:tE C (fun ρ=>pkR (g (ρ.map pkS))) σ H Q):tE C g σ H Q:=by
 obtain⟨ρ,P,N,S,h⟩:=h
 refine⟨ρ.map pkS,P,_,S.peek,?_⟩
 cases e:g (ρ.map pkS) with
 |bad=>simp only[e,pkR] at h;exact h.elim
 |exc c fs =>
  simp only[e,pkR] at h
  split at h
  ·rename_i f
   exact fun d P2 N2 H2 a x=>h d P2 _ H2 (S.unpeek a) (x.flat f)
  ·exact h.elim
 |ok er =>
  simp only[e,pkR] at h
  intro P2 N2 H2 a v rv
  cases er with
  |brw _ _=>exact h.elim
  |val d b =>
   simp only at h
   split at h
   ·rename_i f
    exact h P2 _ H2 (S.unpeek a) v (Rep.flat d v f rv)
   ·exact h.elim
  |fre ds b =>
   simp only at h
   split at h
   ·rename_i f
    obtain⟨p,xs,y1,y2,y3,y4,y5,y6⟩:=rv
    exact h P2 _ H2 (S.unpeek a) v ⟨p,xs,y1,y2,y3,y4,qri y5,Reps.flat ds xs f y6⟩
   ·exact h.elim
theorem qp8 {g:List Sl→RE ER} {Q:Bool→Hp→Prop} (h:tT C (fun ρ=>(pkR (g (ρ.map pkS))).bind fun x=>qgI x.d) σ H Q):tT C (fun ρ=>(g ρ).bind fun x=>qgI x.d) σ H Q:=by
 obtain⟨ρ,P,N,S,h⟩:=h
 refine⟨ρ.map pkS,P,_,S.peek,?_⟩
 show res C σ P (NW H ρ σ N) H ((g (ρ.map pkS)).bind fun x=>qgI x.d) fun k _ _ H'=>Q k H'
 cases e:g (ρ.map pkS) with
 |bad=>simp only[e,pkR] at h;exact h.elim
 |exc c fs =>
  simp only[e,pkR] at h
  split at h
  ·rename_i f
   exact fun d P2 N2 H2 a x=>h d P2 _ H2 (S.unpeek a) (x.flat f)
  ·exact h.elim
 |ok er =>
  simp only[e,pkR] at h
  have key:res C σ P N H (qgI er.d) fun k _ _ H'=>Q k H':=by
   cases er with
   |brw _ _=>exact h.elim
   |val d b =>
    simp only at h
    split at h
    ·exact h
    ·exact h.elim
   |fre ds b =>
    simp only at h
    split at h
    ·exact h
    ·exact h.elim
  rw[RE.bind_ok]
  have nx:=qj5 er.d
  cases e2:qgI er.d with
  |bad=>rw[e2] at key;exact key.elim
  |exc c fs=>rw[e2] at nx;exact nx.elim
  |ok k =>
   rw[e2] at key
   exact fun P2 N2 H2 a=>key P2 _ H2 (S.unpeek a)
theorem qsd {x:Expr} {g:List Sl→RE ER} (h:PE X x (tE C g)):PE X x (tE C fun ρ=>pkR (g (ρ.map pkS))):=qak h fun σ H Q q=>qsp q
theorem qsT {x:Expr} {g:List Sl→RE ER} (h:PT X x (tT C fun ρ=>(g ρ).bind fun x=>qgI x.d)):PT X x (tT C fun ρ=>(pkR (g (ρ.map pkS))).bind fun x=>qgI x.d):=qf6 h fun σ H Q q=>qp8 q
def FrR (C:Ctx) (P N H H0:Hp) (dss:List (List Cm.D)) (ps:List Addr):Prop:=RowR (fun a ds=>∃xs,H a=some (.lst xs)∧H0 a=none∧P a=none∧N a=none∧D.flats ds=true∧RepsB C P N true ds xs) dss ps∧ps.Nodup
def tF (C:Ctx) (g:List Sl→RE (List (List Cm.D))):TA:=fun σ H Q=>∃ρ P N,SR C P N H ρ σ∧res C σ P N H (g ρ) fun dss P' N' H'=>∀ps,FrR C P' N' H' H dss ps→Q (ps.map V.ref) H'
theorem qqh:PA X [] (tF C fun _=>.ok []):=qfB pa_nil fun σ H Q q=>by
 obtain⟨ρ,P,N,S,h⟩:=q
 exact h.now S.reg [] ⟨rfl,List.nodup_nil⟩
theorem qo0 {e:Expr} {es:List Expr} {ge:List Sl→RE ER} {g:List Sl→RE (List (List Cm.D))} (he:PE X e (tE C ge)) (hr:PA X es (tF C g)) (hs:starEach (e::es) X.env=(false,eval e X.env)::starEach es X.env) :
  PA X (e::es) (tF C fun ρ=>(ge ρ).bind fun x=>match x with
  |.fre ds _=>if D.flats ds=true then (g ρ).bind fun r=>.ok (ds::r) else .bad
  |_=>.bad):=qfB (pa_cons he hr hs) fun σ H Q q=>by
 obtain⟨ρ,P,N,S,h⟩:=q
 refine⟨ρ,P,N,S,h.bind.mono fun x P1 N1 H1 _ a1 h1 v rv=>?_⟩
 have S1:=S.adv a1
 cases x with
 |val _ _=>exact h1.elim
 |brw _ _=>exact h1.elim
 |fre ds b =>
  simp only at h1
  split at h1
  case isFalse=>exact h1.elim
  rename_i f
  obtain⟨p,xs,rfl,y1,y2,y3,y4,y5⟩:=rv
  refine⟨ρ,P1,N1,S1,h1.bind.mono fun r P2 N2 H2 _ a2 h2 ps fr=>?_⟩
  obtain⟨k1,k2⟩:=fr
  refine h2.now (S1.adv a2).reg (p::ps) ⟨⟨p,ps,rfl,⟨xs,a2.hh _ _ y1,y2,a2.off y1 y3,a2.offN y1 y4,f,RepsB.adv a2.pp a2.nn (Reps.flat ds xs f y5)⟩,?_⟩,?_⟩
  ·exact k1.mono fun a ds ⟨xs,g1,g2,g3⟩=>⟨xs,g1,a1.hh.free g2,g3⟩
  ·rw[List.nodup_cons]
   refine⟨fun m=>?_,k2⟩
   obtain⟨ds,xs,g1,g2,_⟩:=k1.all p m
   rw[y1] at g2;cases g2
theorem AR.setW {i:Nat} {dss:List (List Cm.D)} {p:Addr} (h:AR H ρ σ) (k:∀(j:Nat) (t:Sl) (u:Option V) (a:Addr),i≠j→ρ[j]? = some t→σ[j]? = some u→Held H t u a→¬Held H (.row dss) (some (.ref p)) a):AR H (ρ.set i (.row dss)) (σ.set i (some (.ref p))):=⟨fun j l es t o u a e1 e2 e3 e4 h1 h2=>by
 rcases qaG e1 with⟨q1,z1⟩ | ⟨q1,z1⟩
 ·cases z1
  rcases qaG e3 with⟨_,z3⟩ | ⟨q3,_⟩
  ·rcases qaG e2 with⟨q2,z2⟩ | ⟨q2,z2⟩
   ·omega
   ·rw[List.getElem?_set_ne q2] at e4
    rw[z3] at h1
    exact absurd h1 (k l t u a q2 z2 e4 h2)
  ·exact absurd q1 q3
 ·rw[List.getElem?_set_ne q1] at e3
  rcases qaG e2 with⟨q2,z2⟩ | ⟨q2,z2⟩
  ·rcases qaG e4 with⟨_,z4⟩ | ⟨q4,_⟩
   ·rw[z2,z4] at h2
    exact absurd h2 (k j _ o a q1 z1 e3 h1)
   ·exact absurd q2 q4
  ·rw[List.getElem?_set_ne q2] at e4
   exact h.un j l es t o u a z1 z2 e3 e4 h1 h2⟩
theorem SR.setW {P0 N0 H0:Hp} (S0:SR C P0 N0 H0 ρ σ) (S:SR C P N H ρ σ) (hs:L2.Same H0 H) {i:Nat} {dss:List (List Cm.D)} {p:Addr} {ps:List Addr} (h0:H0 p=none) (hp:H p=some (.lst (ps.map V.ref))) (pP:P p=none) (pN:N p=none) (fr:FrR C P N H H0 dss ps) (hn:p∉ps):SR C P N H (ρ.set i (.row dss)) (σ.set i (some (.ref p))) where
 reg:=S.reg
 len:=by simp[S.len]
 sl:=fun j s e=>by
  by_cases q:i=j
  ·subst q
   have hi:i<ρ.length:=by
    rcases Nat.lt_or_ge i ρ.length with z | z
    ·exact z
    ·rw[List.getElem?_eq_none (by simpa using z)] at e;cases e
   rw[List.getElem?_set_self hi] at e
   cases e
   exact⟨_,List.getElem?_set_self (by rw[S.len];exact hi),p,ps,rfl,hp,pP,pN,S0.reg.bH.free h0,fr.1.mono fun a ds ⟨xs,g1,g2,g3,g4,g5⟩=>⟨xs,g1,g3,g4,S0.reg.bH.free g2,g5⟩,List.nodup_cons.mpr ⟨hn,fr.2⟩⟩
  ·rw[List.getElem?_set_ne q] at e
   rw[List.getElem?_set_ne q]
   exact S.sl j s e
 ap:=fun j k r ds c es c' e1 e2 e3 e4=>by
  rcases qaG e1 with⟨_,z⟩ | ⟨q1,z1⟩
  ·cases z
  ·rcases qaG e2 with⟨_,z⟩ | ⟨q2,z2⟩
   ·cases z
   ·rw[List.getElem?_set_ne q1] at e3
    rw[List.getElem?_set_ne q2] at e4
    exact S.ap j k r ds c es c' z1 z2 e3 e4
 ad:=S.ad.set rfl
 ar:=S.ar.setW fun j t u a hj e1 e2 k1 k2=>by
  have fresh:H0 a=none:=by
   cases k2 with
   |rt=>exact h0
   |it e m =>
    rw[hp] at e
    injection e with e
    injection e with e
    rw[←qfe e] at m
    obtain⟨ds,xs,g1,g2,_⟩:=fr.1.all a m
    exact g2
  cases k1 with
  |own =>
   obtain⟨o,z1,z2⟩:=S0.sl j _ e1
   rw[z1] at e2;cases e2
   obtain⟨q,xs,y1,y2,_⟩:=z2
   cases y1
   rw[fresh] at y2;cases y2
  |rt=>exact S0.newW hs fresh e1 e2 .rt
  |it e m=>exact S0.newW hs fresh e1 e2 (.it e m)
theorem qp1 {i:Nat} {g:List Sl→RE (List (List Cm.D))} {D:Ends} (q:tS C (fun ρ=>(g ρ).out fun dss=>gdO (leB dss.length) (.nx (ρ.set i (.row dss)))) D σ H):tAsg (tLst (tF C g)) (gName i) D σ H:=by
 obtain⟨ρ,P,N,S,h⟩:=q
 refine⟨ρ,P,N,S,(h.res S.reg).mono fun dss P1 N1 H1 _ a1 h1 ps fr=>?_⟩
 simp only[qa2,qan] at h1
 split at h1
 case isFalse=>exact h1.elim
 rename_i hl
 have ln:∀{dss:List (List Cm.D)} {ps:List Addr} {R:Addr→List Cm.D→Prop},RowR R dss ps→ps.length=dss.length:=fun {dss}=>by
  induction dss with
  |nil=>intro ps R h;cases h;rfl
  |cons d r ih=>intro ps R ⟨a,q,e,_,h2⟩;subst e;simp[ih h2]
 refine⟨by rw[List.length_map,ln fr.1];exact hl,fun p hp=>?_⟩
 have S1:=S.adv a1
 have a2:Adv P1 N1 H1 P1 N1 (upd H1 p (.lst (ps.map V.ref))):=(Adv.refl S1.reg.pH S1.reg.nH).heap (qaI hp)
 have S2:=S1.adv a2
 have ne:p∉ps:=fun m=>by
  obtain⟨ds,xs,g1,_⟩:=fr.1.all p m
  rw[hp] at g1;cases g1
 refine h1 _ P1 N1 _ (SR.setW S S2 (a1.hh.trans a2.hh) (a1.hh.free hp) upd_same (S1.reg.pH.free hp) (S1.reg.nH.free hp) ⟨fr.1.sub fun a m ds ⟨xs,g1,g2⟩=>⟨xs,a2.hh _ _ g1,g2⟩,fr.2⟩ ne) a1.pp a1.nn
theorem qia {D:Ends} {i k:Nat} {f:List (List Cm.D)→List Cm.D→Out} (h:outS C P N D (qfV ρ i k f)):∃dss ds,ρ[i]? = some (.row dss)∧dss[k]? = some ds∧outS C P N D (f dss ds):=by
 unfold qfV at h
 split at h
 ·rename_i dss e
  split at h
  ·rename_i ds e2
   exact⟨dss,ds,e,e2,h⟩
  ·exact h.elim
 ·exact h.elim
theorem RowR.get {R:Addr→List Cm.D→Prop}:∀{dss:List (List Cm.D)} {ps:List Addr} {k:Nat} {ds:List Cm.D},RowR R dss ps→dss[k]? = some ds→∃a,ps[k]? = some a∧R a ds
 |[],_,_,_,_,e=>by simp at e
 |d::r,_,0,ds,⟨a,q,e,h1,h2⟩,e2=>by subst e;cases e2;exact⟨a,rfl,h1⟩
 |d::r,_,k+1,ds,⟨a,q,e,h1,h2⟩,e2=>by
  subst e
  obtain⟨b,g1,g2⟩:=RowR.get (k:=k) h2 (by simpa using e2)
  exact⟨b,by simpa using g1,g2⟩
theorem RowR.put {R R':Addr→List Cm.D→Prop}:∀{dss:List (List Cm.D)} {ps:List Addr} {k:Nat} {a:Addr} {ds':List Cm.D},RowR R dss ps→ps[k]? = some a→ps.Nodup→R' a ds'→(∀b∈ps,b≠a→∀ds,R b ds→R' b ds)→RowR R' (dss.set k ds') ps
 |[],_,_,_,_,h,e,_,_,_=>by cases h;simp at e
 |d::r,_,0,a,ds',⟨b,q,e,h1,h2⟩,e2,nd,h3,h4=>by
  subst e
  cases e2
  rw[List.nodup_cons] at nd
  exact⟨_,q,rfl,h3,h2.sub fun c m ds g=>h4 c (List.mem_cons_of_mem _ m) (fun z=>nd.1 (z ▸ m)) ds g⟩
 |d::r,_,k+1,a,ds',⟨b,q,e,h1,h2⟩,e2,nd,h3,h4=>by
  subst e
  rw[List.nodup_cons] at nd
  have e2:q[k]? = some a:=by simpa using e2
  exact⟨b,q,rfl,h4 b (by simp) (fun z=>nd.1 (z ▸ List.mem_of_getElem? e2)) _ h1,RowR.put h2 e2 nd.2 h3 fun c m=>h4 c (List.mem_cons_of_mem _ m)⟩
theorem AR.row {i:Nat} {dss dss':List (List Cm.D)} (h:AR H ρ σ) (e:ρ[i]? = some (.row dss)):AR H (ρ.set i (.row dss')) σ:=⟨fun j l es t o u a e1 e2 e3 e4 h1 h2=>by
 have back:∀{m:Nat} {t:Sl} {o:Option V},(ρ.set i (.row dss'))[m]? = some t→Held H t o a→∃t',ρ[m]? = some t'∧Held H t' o a∧(t.isW=true→t'.isW=true):=fun {m t o} em hh=>by
  rcases qaG em with⟨q,z⟩ | ⟨q,z⟩
  ·subst q
   rw[z] at hh
   refine⟨_,e,?_,fun _=>rfl⟩
   cases hh with
   |rt=>exact .rt
   |it e m=>exact .it e m
  ·exact⟨t,z,hh,id⟩
 obtain⟨t1,f1,g1,w1⟩:=back e1 h1
 obtain⟨t2,f2,g2,_⟩:=back e2 h2
 have w1:=w1 rfl
 cases t1 with
 |row es'=>exact h.un j l es' t2 o u a f1 f2 e3 e4 g1 g2
 |_=>cases w1⟩
theorem SR.rootW (S:SR C P N H ρ σ) {i:Nat} {dss:List (List Cm.D)} (e:ρ[i]? = some (.row dss)):∃p ps,σ[i]? = some (some (.ref p))∧H p=some (.lst (ps.map V.ref))∧P p=none∧N p=none∧C.B p=none∧RowR (fun a ds=>∃xs,H a=some (.lst xs)∧P a=none∧N a=none∧C.B a=none∧D.flats ds=true∧RepsB C P N true ds xs) dss ps∧(p::ps).Nodup:=by
 obtain⟨o,z1,p,ps,rfl,z2⟩:=S.sl i _ e
 exact⟨p,ps,z1,z2⟩
theorem SR.writeW (S:SR C P N H ρ σ) {i k:Nat} {dss:List (List Cm.D)} {ds':List Cm.D} {p a:Addr} {ps:List Addr} {xs':List V} (e:ρ[i]? = some (.row dss)) (eσ:σ[i]? = some (some (.ref p))) (hp:H p=some (.lst (ps.map V.ref))) (ha:ps[k]? = some a) (hf:D.flats ds'=true) (h:RepsB C P N true ds' xs'):SR C P N (upd H a (.lst xs')) (ρ.set i (.row (dss.set k ds'))) σ:=by
 obtain⟨p',ps',z1,z2,z3,z4,z5,z6,z7⟩:=S.rootW e
 rw[z1] at eσ;cases eσ
 rw[hp] at z2
 injection z2 with z2
 injection z2 with z2
 have z2:=qfe z2
 subst z2
 have ma:=List.mem_of_getElem? ha
 have hk:Held H (.row dss) (some (.ref p)) a:=.it hp ma
 obtain⟨⟨us,ha0⟩,a1,a2,a3⟩:=S.heldW e z1 hk
 have nd:=List.nodup_cons.mp z7
 have pa:p≠a:=fun z=>nd.1 (z ▸ ma)
 have hi:i<ρ.length:=(List.getElem?_eq_some_iff.mp e).1
 refine⟨⟨qaJ S.reg.pH a1,qaJ S.reg.nH a2,qaJ S.reg.bH a3,S.reg.rB,S.reg.p0,S.reg.pn,S.reg.nw,S.reg.dj⟩,by simp[S.len],fun j s ej=>?_,fun j l r ds1 c es c' e1 e2 e3 e4=>?_,S.ad.setS rfl,(S.ar.row e).heap fun j es r ej ej2=>upd_ne fun er=>?_⟩
 ·by_cases q:i=j
  ·subst q
   rw[List.getElem?_set_self hi] at ej
   cases ej
   refine⟨_,z1,p,ps,rfl,by rw[upd_ne pa];exact hp,z3,z4,z5,?_,z7⟩
   exact RowR.put z6 ha nd.2 ⟨xs',upd_same,a1,a2,a3,hf,h⟩ fun b m nb ds ⟨ys,g1,g2⟩=>⟨ys,by rw[upd_ne nb];exact g1,g2⟩
  ·rw[List.getElem?_set_ne q] at ej
   obtain⟨o,y1,y2⟩:=S.sl j s ej
   refine⟨o,y1,?_⟩
   cases s with
   |non=>trivial
   |val d b=>exact y2
   |own es c =>
    obtain⟨r,ys,rfl,y4,y5⟩:=y2
    have hr:r≠a:=fun er=>q (S.ar.un i j dss _ _ _ a e ej z1 y1 hk (by rw[er];exact .own))
    exact⟨r,ys,rfl,by rw[upd_ne hr];exact y4,y5⟩
   |slf c fs =>
    obtain⟨r,dx,ys,y3,y4,y5⟩:=y2
    have hr:r≠a:=fun er=>by rw[er,ha0] at y4;cases y4
    exact⟨r,dx,ys,y3,by rw[upd_ne hr];exact y4,y5⟩
   |fxd d k=>exact y2
   |dct m c =>
    obtain⟨r,ys,y3,y4,y5⟩:=y2
    have hr:r≠a:=fun er=>by rw[er,ha0] at y4;cases y4
    exact⟨r,ys,y3,by rw[upd_ne hr];exact y4,y5⟩
   |row es =>
    have far:∀b,Held H (.row es) o b→b≠a:=fun b kb er=>q (S.ar.un i j dss _ _ _ a e ej z1 y1 hk (er ▸ kb))
    obtain⟨r,qs,rfl,y4,y5,y6,y7,y8,y9⟩:=y2
    refine⟨r,qs,rfl,by rw[upd_ne (far r .rt)];exact y4,y5,y6,y7,?_,y9⟩
    exact y8.sub fun b m ds ⟨us,g1,g2⟩=>⟨us,by rw[upd_ne (far b (.it y4 m))];exact g1,g2⟩
 ·rcases qaG e1 with⟨_,z⟩ | ⟨_,f1⟩
  ·cases z
  ·rcases qaG e2 with⟨_,z⟩ | ⟨_,f2⟩
   ·cases z
   ·exact S.ap j l r _ _ _ _ f1 f2 e3 e4
 ·rcases qaG ej with⟨qn,z⟩ | ⟨qn,z⟩
  ·subst qn
   rw[z1] at ej2;cases ej2
   exact pa er
  ·exact qn (S.ar.un i j dss _ _ _ a e z z1 ej2 hk (by rw[er];exact .rt))
abbrev tRx (K:PySem.W.Frag) (i k:Nat):TE:=tOp (rIx K) (tVar i) (tC (.int k))
theorem qnr {K:PySem.W.Frag} (S:SR C P N H ρ σ) {i k:Nat} {dss:List (List Cm.D)} {ds:List Cm.D} (e:ρ[i]? = some (.row dss)) (e2:dss[k]? = some ds):∃(p:Addr) (ps:List Addr) (a:Addr) (xs:List V),σ[i]? = some (some (.ref p))∧H p=some (.lst (ps.map V.ref))∧ps[k]? = some a∧H a=some (.lst xs)∧D.flats ds=true∧RepsB C P N true ds xs∧∀{Q:VK},Q (.ref a) H→tRx K i k σ H Q:=by
 obtain⟨p,ps,z1,z2,z3,z4,z5,z6,z7⟩:=S.rootW e
 obtain⟨a,g1,xs,g2,_,_,_,g5,g6⟩:=z6.get e2
 refine⟨p,ps,a,xs,z1,z2,g1,g2,g5,g6,fun {Q} q=>⟨_,z1,.inl ⟨p,ps.map V.ref,k,.ref a,rfl,rfl,.inl (.inl z2),?_,q⟩⟩⟩
 have lt:=(List.getElem?_eq_some_iff.mp g1).1
 unfold atI
 have hix:ixN (ps.map V.ref).length (k:Int)=some k:=by
  unfold ixN
  rw[List.length_map,if_pos (by omega),if_pos (by omega)]
  simp
 rw[hix]
 show(ps.map V.ref)[k]? = some (.ref a)
 rw[List.getElem?_map,g1];rfl
theorem qpb {i k:Nat} {D:Ends} {K K':PySem.W.Frag} (q:tS C (fun ρ=>qfV ρ i k fun dss _=>.nx (ρ.set i (.row (dss.set k [])))) D σ H):tDrop (tBM0 K "list" rClear (tRx K' i k)) D σ H:=by
 obtain⟨ρ,P,N,S,h⟩:=q
 obtain⟨dss,ds,e,e2,o⟩:=qia h
 obtain⟨p,ps,a,xs,z1,z2,g1,g2,g5,g6,w⟩:=qnr (K:=K') S e e2
 refine w ⟨.inl ⟨rfl,xs,.inl (.inl g2)⟩,a,xs,rfl,rfl,g2,?_⟩
 exact o σ P N _ (S.writeW (ds':=[]) (xs':=[]) e z1 z2 g1 rfl rfl) (L2.Same.refl _) (L2.Same.refl _)
theorem qhC {d:Cm.D}:∀{ds:List Cm.D},D.flats ds=true→d.flat=true→D.flats (ds++[d])=true
 |[],_,h=>by simp[D.flats,h]
 |x::ds,h,h2=>by
  simp only[D.flats,Bool.and_eq_true,List.cons_append] at h ⊢
  exact⟨h.1,qhC h.2 h2⟩
theorem qjB {d:Cm.D} (h2:d.flat=true):∀{ds:List Cm.D} {j:Nat},D.flats ds=true→D.flats (ds.set j d)=true
 |[],_,_=>rfl
 |x::ds,0,h=>by
  simp only[D.flats,Bool.and_eq_true,List.set_cons_zero] at h ⊢
  exact⟨h2,h.2⟩
 |x::ds,j+1,h=>by
  simp only[D.flats,Bool.and_eq_true,List.set_cons_succ] at h ⊢
  exact⟨h.1,qjB h2 h.2⟩
theorem qpm {i k:Nat} {g:List Sl→RE ER} {D:Ends} {K K':PySem.W.Frag} (q:tS C (fun ρ=>qfV ρ i k fun dss ds=>(g ρ).out fun x=>held x fun d _=>gdO (d.flat&&leB (ds.length+1)) (.nx (ρ.set i (.row (dss.set k (ds++[d])))))) D σ H):tDrop (tBM K "list" rAppend (tRx K' i k) (tCons (tE C g) tNil)) D σ H:=by
 obtain⟨ρ,P,N,S,h⟩:=q
 obtain⟨dss,ds,e,e2,o⟩:=qia h
 obtain⟨p,ps,a,xs,z1,z2,g1,g2,g5,g6,w⟩:=qnr (K:=K') S e e2
 refine w ⟨.inl ⟨rfl,xs,.inl (.inl g2)⟩,ρ,P,N,S,(o.res S.reg).mono fun x P1 N1 H1 _ a1 h1 v rv=>?_⟩
 obtain⟨N2,d,b,a2,r2,o2⟩:=rv.held a1 h1
 simp only[qa2,qan,Bool.and_eq_true] at o2
 split at o2
 ·rename_i hl
  refine⟨a,xs,v,rfl,rfl,a1.hh _ _ g2,by rw[g6.length];exact hl.2,?_⟩
  exact o2 σ P1 N2 _ ((S.adv a2).writeW e z1 (a2.hh _ _ z2) g1 (qhC g5 hl.1) (Reps.append (RepsB.adv a2.pp a2.nn g6) (Reps.one (Rep.flat d v hl.1 r2)))) a2.pp a2.nn
 ·exact o2.elim
theorem qom {z:Bool} {i k:Nat} {g gi:List Sl→RE ER} {D:Ends} {K':PySem.W.Frag} (q:tS C (fun ρ=>(g ρ).out fun x=>held x fun d _=>qfV ρ i k fun dss ds=>(gi ρ).out fun m=>match m.d with
  |.int m=>match ixN ds.length m with
   |some j=>gdO d.flat (.nx (frz z (ρ.set i (.row (dss.set k (ds.set j d))))))
   |none=>.bad
  |_=>.bad) D σ H):tAsg (tE C g) (gSub (tRx K' i k) (tE C gi) rSetL) D σ H:=by
 obtain⟨ρ,P,N,S,h⟩:=q
 refine⟨ρ,P,N,S,(h.res S.reg).mono fun x P1 N1 H1 _ a1 h1 v rv=>?_⟩
 obtain⟨N2,d,b,a2,r2,o⟩:=rv.held a1 h1
 have S2:=S.adv a2
 obtain⟨dss,ds,e,e2,o⟩:=qia o
 obtain⟨p,ps,a,xs,z1,z2,g1,g2,g5,g6,w⟩:=qnr (K:=K') S2 e e2
 refine w ⟨ρ,P1,N2,S2,((o.adv a2.pp a2.nn).res S2.reg).mono fun m P3 N3 H3 _ a3 h3 u ru=>?_⟩
 have r3:=(S2.adv a3).reg
 split at h3
 ·rename_i k' ek
  have w3:=ru.w r3
  rw[ek] at w3
  cases w3.int
  split at h3
  ·rename_i j ej
   simp only[qa2] at h3
   split at h3
   ·rename_i hf
    refine⟨a,xs,k',j,rfl,rfl,a3.hh _ _ g2,by rw[g6.length];exact ej,?_⟩
    have SS:=(S2.adv a3).writeW e z1 (a3.hh _ _ z2) g1 (qjB hf g5) (Reps.set (Rep.flat d v hf (RepB.adv a3.pp a3.nn r2)) j (RepsB.adv a3.pp a3.nn g6))
    unfold frz at h3
    cases z with
    |false=>exact h3 _ P3 N3 _ SS a3.pp a3.nn
    |true=>exact h3 _ P3 _ _ SS.peek a3.pp (a3.nn.trans SS.nwN)
   ·exact h3.elim
  ·exact h3.elim
 ·exact h3.elim
end
end Cm
namespace Cm
open PySem PySem.Spec PyProof.Rows L2
def qra:Ex→Bool
 |.cmp _ _ _=>true
 |.chn _ _ _ _ _=>true
 |.pk e=>qra e
 |_=>false
def qrP:Expr→Bool
 |.UnaryOp .Not _ _=>false
 |.BoolOp _ _ _=>false
 |.IfExp _ _ _ _=>false
 |.Compare _ _ _ _=>false
 |_=>true
def tgE (T:Tb) (fc:Option Scope) (sc:Scope):List Nat→List Expr→Bool
 |[],[]=>true
 |i::is,.Name x _::es=>decide (T.N[i]? = some x)&&tgB fc sc x&&tgE T fc sc is es
 |_,_=>false
def qoI (T:Tb) (fc:Option Scope) (sc:Scope) (tg:List Nat) (t:Expr):Bool:=
 match t with
 |.Name x _=>match tg with
  |[i]=>decide (T.N[i]? = some x)&&tgB fc sc x
  |_=>false
 |.Tuple es _ _=>decide (tg.length≠1)&&tgE T fc sc tg es
 |_=>false
def qsn:Expr→Bool
 |.Tuple _ _ _=>true
 |_=>false
def quY (T:Tb) (sc:Scope):List Nat→List Expr→Bool
 |[],[]=>true
 |k::ks,.Name n _::es=>decide ((T.ck[k]?).map (·.1)=some n)&&glB sc n&&nmB n&&quY T sc ks es
 |_,_=>false
mutual
def qaP (T:Tb):Ex→Option Scope→Scope→Expr→Bool
 |.nev,_,_,_=>true
 |.var i,_,sc,e=>match e with
  |.Name x _=>decide (T.N[i]? = some x)&&qko sc x&&nmB x
  |_=>false
 |.cint i,_,_,e=>match e with
  |.Constant (.int j) _ _=>decide (i=j)
  |_=>false
 |.cbl i,_,_,e=>match e with
  |.Constant (.bool j) _ _=>decide (i=j)
  |_=>false
 |.cstr s,_,_,e=>match e with
  |.Constant (.str x) _ _=>decide (x=qa8 s)
  |_=>false
 |.glo k,_,sc,e=>match e with
  |.Name x _=>decide (T.gc[k]? = some x)&&glB sc x&&nmB x
  |_=>false
 |.bin o a b,fc,sc,e=>match e with
  |.BinOp x op y _=>decide (op=quc o)&&qaP T a fc sc x&&qaP T b fc sc y
  |_=>false
 |.cmp o a b,fc,sc,e=>match e with
  |.Compare x [op] [y] _=>decide (op=qhP o) && !behindInMarks (qhP o) y&&qaP T a fc sc x&&qaP T b fc sc y
  |_=>false
 |.chn o p a b c,fc,sc,e=>match e with
  |.Compare x [op,op'] [y,z] _=>decide (op=qhP o)&&decide (op'=qhP p) && !lastMarks [qhP o,qhP p] [y,z]&&qaP T a fc sc x&&qaP T b fc sc y&&qaP T c fc sc z
  |_=>false
 |.bop c es,fc,sc,e=>match e with
  |.BoolOp op xs _=>decide (op=qn1 c) && !xs.isEmpty&&qa7 T es fc sc xs
  |_=>false
 |.bnot a,fc,sc,e=>match e with
  |.UnaryOp .Not x _=>qaP T a fc sc x
  |_=>false
 |.neg a,fc,sc,e=>match e with
  |.UnaryOp .USub x _=>qaP T a fc sc x
  |_=>false
 |.tup es,fc,sc,e=>match e with
  |.Tuple xs _ _=>qa7 T es fc sc xs&&xs.all qag&&decide (xs.length<1000)
  |_=>false
 |.lst es,fc,sc,e=>match e with
  |.List xs _=>qa7 T es fc sc xs&&xs.all qag&&decide (xs.length<1000)
  |_=>false
 |.idx a i,fc,sc,e=>match e with
  |.Subscript x y _=>qaP T a fc sc x&&qaP T i fc sc y&&qe5 y
  |_=>false
 |.slc a lo hi,fc,sc,e=>match e with
  |.Subscript x (.Slice l h none _) _=>qaP T a fc sc x&&qsU T lo fc sc l&&qsU T hi fc sc h
  |_=>false
 |.call f es,fc,sc,e=>match e with
  |.Call (.Name x _) xs [] _=>decide (T.fn[f]? = some (x,xs.length))&&glB sc x&&nmB x&&qa7 T es fc sc xs&&xs.all qag
  |_=>false
 |.pri p es,fc,sc,e=>match e with
  |.Call (.Name x _) xs [] _=>decide (x=qpy p)&&glB sc x && !xs.isEmpty&&qa7 T es fc sc xs&&xs.all qag
  |_=>false
 |.lrng es,fc,sc,e=>match e with
  |.Call (.Name l _) [.Call (.Name r _) xs [] _] [] _=>decide (l=("list" : Str))&&decide (r=("range" : Str))&&glB sc "list" && glB sc "range" && qa7 T es fc sc xs&&xs.all qag&&decide (xs.length=1∨xs.length=2)
  |_=>false
 |.mth m o es,fc,sc,e=>match e with
  |.Call (.Attribute x mn apos) xs [] pos=>decide (T.mn[m]? = some (mn,xs.length))&&qaP T o fc sc x&&qa7 T es fc sc xs&&xs.all qag&&qi7 x&&decide (xs.length<20)&&(apos.endLine == pos.line)
  |_=>false
 |.bm1 m o a,fc,sc,e=>match e with
  |.Call (.Attribute x mn apos) [y] [] pos=>decide (mn=bmN m)&&qaP T o fc sc x&&qaP T a fc sc y&&qag y&&qi7 x&&(apos.endLine == pos.line)
  |_=>false
 |.fld o f,fc,sc,e=>match e with
  |.Attribute x fn _=>decide (T.fs[f]? = some fn)&&qaP T o fc sc x&&qi7 x
  |_=>false
 |.isi a t,fc,sc,e=>match e with
  |.Call (.Name x _) [y,.Name n _] [] _=>decide (x=("isinstance" : Str))&&decide (n=tyN t)&&glB sc "isinstance" && glB sc (tyN t)&&qaP T a fc sc y&&qag y
  |_=>false
 |.lc own it tg cnd e',fc,sc,e=>match e with
  |.ListComp elt [⟨tgt,iter,ifs,0⟩] scope _=>blkC T.N sc scope (own.map fun i=>(T.N.getD i Str.empty,i))&&qoW T it fc sc tgt iter&&qoI T (some scope) (relS scope sc) tg tgt&&tg.all (fun i=>decide (i∈own))&&qoF T cnd (some scope) (relS scope sc) ifs&&qaP T e' (some scope) (relS scope sc) elt&&qlr iter
  |_=>false
 |.lrev a,fc,sc,e=>match e with
  |.Call (.Name l _) [.Call (.Name r _) [y] [] _] [] _=>decide (l=("list" : Str))&&decide (r=("reversed" : Str))&&glB sc "list" && glB sc "reversed" && qaP T a fc sc y&&qag y
  |_=>false
 |.lset a,fc,sc,e=>match e with
  |.Call (.Name l _) [.Call (.Name r _) [y] [] _] [] _=>decide (l=("len" : Str))&&decide (r=("set" : Str))&&glB sc "len" && glB sc "set" && qaP T a fc sc y&&qag y
  |_=>false
 |.new k es,fc,sc,e=>match e with
  |.Call (.Name x _) xs [] _=>decide (T.nw[k]? = some (x,xs.length))&&glB sc x&&nmB x&&qa7 T es fc sc xs&&xs.all qag
  |_=>false
 |.pk a,fc,sc,e=>qaP T a fc sc e
 |.sfd i f,_,sc,e=>match e with
  |.Attribute (.Name x _) fn _=>decide (T.N[i]? = some x)&&qko sc x&&nmB x&&decide (T.fs[f]? = some fn)
  |_=>false
def qa7 (T:Tb):Exs→Option Scope→Scope→List Expr→Bool
 |.nil,_,_,xs=>xs.isEmpty
 |.cons e es,fc,sc,xs=>match xs with
  |x::xs=>qaP T e fc sc x&&qa7 T es fc sc xs
  |[]=>false
def qsU (T:Tb):Exs→Option Scope→Scope→Option Expr→Bool
 |.nil,_,_,x=>x.isNone
 |.cons e _,fc,sc,x=>match x with
  |some x=>qaP T e fc sc x
  |none=>false
def qnX (T:Tb):Te→Option Scope→Scope→Expr→Bool
 |.val e,fc,sc,x=>qaP T e fc sc x&&(qra e||qrP x)
 |.bop c ts,fc,sc,x=>match x with
  |.BoolOp op xs _=>decide (op=qn1 c) && !xs.isEmpty&&qlU T ts fc sc xs
  |_=>false
 |.not t,fc,sc,x=>match x with
  |.UnaryOp .Not x _=>qnX T t fc sc x
  |_=>false
def qlU (T:Tb):Tes→Option Scope→Scope→List Expr→Bool
 |.nil,_,_,xs=>xs.isEmpty
 |.cons t ts,fc,sc,xs=>match xs with
  |x::xs=>qnX T t fc sc x&&qlU T ts fc sc xs
  |[]=>false
def qoF (T:Tb):Tes→Option Scope→Scope→List Expr→Bool
 |.nil,_,_,xs=>xs.isEmpty
 |.cons t ts,fc,sc,xs=>match xs with
  |[x]=>qnX T t fc sc x&&(match ts with
   |.nil=>true
   |_=>false)
  |_=>false
def qoW (T:Tb):Itx→Option Scope→Scope→Expr→Expr→Bool
 |.any e,fc,sc,_,x=>qaP T e fc sc x
 |.rng es,fc,sc,_,x=>match x with
  |.Call (.Name r _) xs [] _=>decide (r=("range" : Str))&&glB sc "range" && qa7 T es fc sc xs&&xs.all qag&&decide (xs.length=1∨xs.length=2∨xs.length=3)
  |_=>false
 |.zp a b,fc,sc,t,x=>match x with
  |.Call (.Name r _) [y,z] [] _=>decide (r=("zip" : Str))&&glB sc "zip" && qaP T a fc sc y&&qaP T b fc sc z&&qag y&&qag z&&qsn t
  |_=>false
 |.en a,fc,sc,t,x=>match x with
  |.Call (.Name r _) [y] [] _=>decide (r=("enumerate" : Str))&&glB sc "enumerate" && qaP T a fc sc y&&qag y&&qsn t
  |_=>false
 |.rv a,fc,sc,_,x=>match x with
  |.Call (.Name r _) [y] [] _=>decide (r=("reversed" : Str))&&glB sc "reversed" && qaP T a fc sc y&&qag y
  |_=>false
 |.rvr a,fc,sc,_,x=>match x with
  |.Call (.Name r _) [.Call (.Name r2 _) [y] [] _] [] _=>decide (r=("reversed" : Str))&&decide (r2=("range" : Str))&&glB sc "reversed" && glB sc "range" && qaP T a fc sc y&&qag y
  |_=>false
end
structure XOk (T:Tb) (Γ:Env) (C:Ctx) (X:Cx) (fc:Option Scope) (sc:Scope):Prop where
 nm:X.N=T.N
 nd:X.N.Nodup
 sc:X.env.scope=sc
 K:X.K=C.G.K
 tk:Takes X C.W
 calm:X.calm=true
 un:X.A.units+65<cLine
 blt:∀x∈bltNames,X.mg x=none
 fnc:match fc with
  |none=>X.fn=fun _=>true
  |some so=>X.fn=fun x=>so.names.lookup x == some .cell
 fn:∀(f:Nat) (x:Str) (n:Nat),T.fn[f]? = some (x,n)→∀g,Γ.fn[f]? = some g→∃(k:Nat) (a:Addr) (fd:FuncData) (ps:List Str) (m:Nat) (gf:List Cm.D→RE ER),FnOk X.prog X.w X.K X.mg X.base (L2.CX X.prog X.w) k a fd ps (spD C.G (n+m) gf)∧Room k X.A∧X.mg x=some (.ref a)∧PySem.W.keepIn X.K (.ref a)=true∧Part X.K C.G fd ps n m g.2 gf
 gc:∀(k:Nat) (x:Str),T.gc[k]? = some x→∀c,Γ.gc[k]? = some c→∃u v,X.mg x=some u∧RelV v u∧(∀P N,RepB C P N true c.2 v)∧WrT C.G v
 mt:∀(m:Nat) (x:Str) (n:Nat),T.mn[m]? = some (x,n)→∀c g,Γ.mt c m=some g→MtOk C X x c n g
 fs:∀(f:Nat) (x:Str),T.fs[f]? = some x→∀c k,Γ.fi c f=some k→FdOk C X x c k
 nw:∀(k:Nat) (x:Str) (n:Nat),T.nw[k]? = some (x,n)→∀g,Γ.nw[k]? = some g→NwOk C X x g.1 n g.2
 ck:∀(k:Nat) (x:Str) (own:Bool),T.ck[k]? = some (x,own)→CkOk C.G X.K X.mg x own Γ.ck[k]? Γ.ik[k]?
 xk:∀(k:Nat) (x:Str),T.xk[k]? = some x→∀c,Γ.xk[k]? = some c→RsOk X.K X.mg (C.G.ca c) x
 dc:∀(k:Nat) (x:Str),T.dc[k]? = some x→∀t,Γ.dc[k]? = some t→qs9 C.G X.K X.w X.mg x t.2
end Cm
namespace Cm
open PySem PySem.Spec PyProof.Rows L2
theorem qaZ {C:Ctx} {X:Cx} {e:Expr} {g g':List Sl→RE ER} (h:PE X e (tE C g')) (q:∀ρ,g ρ=g' ρ):PE X e (tE C g):=by
 have:g=g':=funext q
 rw[this];exact h
theorem qkE {C:Ctx} {X:Cx} {e:Expr} {g g':List Sl→RE Bool} (h:PT X e (tT C g')) (q:∀ρ,g ρ=g' ρ):PT X e (tT C g):=by
 have:g=g':=funext q
 rw[this];exact h
theorem qr1 {C:Ctx} {X:Cx} {e:Expr} {g g':List Sl→RE Bool} (h:PW X e (tT C g')) (q:∀ρ,g ρ=g' ρ):PW X e (tT C g):=by
 have:g=g':=funext q
 rw[this];exact h
theorem qrR {C:Ctx} {X:Cx} {e:List Expr} {g g':List Sl→RE (List ER)} (h:PA X e (tA C g')) (q:∀ρ,g ρ=g' ρ):PA X e (tA C g):=by
 have:g=g':=funext q
 rw[this];exact h
theorem qsB {C:Ctx} {X:Cx} {e:Option Expr} {g g':List Sl→RE (Option Int)} (h:PO X e (tO C g')) (q:∀ρ,g ρ=g' ρ):PO X e (tO C g):=by
 have:g=g':=funext q
 rw[this];exact h
theorem qiB {C:Ctx} {X:Cx} {t e:Expr} {g g':List Sl→RE Wk} (h:PI X t e (tI C g')) (q:∀ρ,g ρ=g' ρ):PI X t e (tI C g):=by
 have:g=g':=funext q
 rw[this];exact h
theorem qb5 {C:Ctx} {X:Cx} {e:Stmt} {g g':List Sl→Out} (h:PS X e (tS C g')) (q:∀ρ,g ρ=g' ρ):PS X e (tS C g):=by
 have:g=g':=funext q
 rw[this];exact h
section
variable {T:Tb} {Γ:Env} {C:Ctx} {X:Cx} {fc:Option Scope} {sc:Scope}
theorem qdb (hs:X.env.scope=sc) {x:Str} (h:qko sc x=true):Vis X.env.scope x:=by
 rw[hs]
 unfold qko at h
 unfold Vis
 split at h
 ·exact .inl (by assumption)
 ·exact .inr (.inl (by assumption))
 ·exact .inr (.inr (by assumption))
 ·cases h
theorem qcd (hs:X.env.scope=sc) {x:Str} (h:glB sc x=true):Gl X x:=by
 unfold glB at h
 show X.env.scope.names.lookup x=_
 rw[hs]
 split at h
 ·assumption
 ·cases h
theorem qdI {x:Str} (h:nmB x=true):(x == ("__debug__" : Str))=false∧(x == ("__classdict__" : Str))=false:=by
 unfold nmB at h
 simp only[Bool.and_eq_true,Bool.not_eq_true'] at h
 exact h
theorem qlW (I:XOk T Γ C X fc sc) {x:Str} (h:tgB fc sc x=true):Loc X.env.scope x∧(X.fn x=true∨X.env.scope.names.lookup x=some .local):=by
 rw[I.sc]
 unfold tgB at h
 split at h
 ·rename_i e
  exact⟨.inl e,.inr e⟩
 ·rename_i e
  refine⟨.inr e,.inl ?_⟩
  have:=I.fnc
  cases fc with
  |none=>simp only at this;rw[this]
  |some so=>simp only at this h;rw[this];exact h
 ·cases h
theorem qc0:∀(es:Exs) (ρ:List Sl) (r:List ER) (xs:List Expr),qa7 T es fc sc xs=true→evs Γ es ρ=.ok r→r.length=xs.length
 |.nil,ρ,r,xs,h,e=>by
  unfold qa7 at h
  rw[evs] at e
  cases e
  cases xs with
  |nil=>rfl
  |cons _ _=>cases h
 |.cons a es,ρ,r,xs,h,e=>by
  unfold qa7 at h
  cases xs with
  |nil=>cases h
  |cons x xs =>
   simp only[Bool.and_eq_true] at h
   rw[evs] at e
   cases e1:ev Γ a ρ with
   |bad=>rw[e1] at e;cases e
   |exc c fs=>rw[e1] at e;cases e
   |ok v =>
    rw[e1] at e
    cases e2:evs Γ es ρ with
    |bad=>rw[RE.bind_ok,e2] at e;cases e
    |exc c fs=>rw[RE.bind_ok,e2] at e;cases e
    |ok q =>
     rw[RE.bind_ok,e2] at e
     cases e
     simp[qc0 es ρ q xs h.2 e2]
theorem qhL {es:Exs} {xs:List Expr} (h:qa7 T es fc sc xs=true) (e:xs=[]) (ρ:List Sl):evs Γ es ρ=.ok []:=by
 subst e
 cases es with
 |nil=>rw[evs]
 |cons a es=>unfold qa7 at h;cases h
theorem XOk.blk (I:XOk T Γ C X fc sc) {s:Shared} {H:Hp} {scope:Scope} {cl:List (Str × Addr)} {A:Addr} {fp:List Addr}:XOk T Γ C.nx (X.blk s H scope (compEnvC scope cl A X.env) fp) (some scope) (relS scope sc) where
 nm:=I.nm
 nd:=I.nd
 sc:=by
  have:=I.sc
  subst this
  rfl
 K:=I.K
 tk:=takes0
 calm:=I.calm
 un:=I.un
 blt:=I.blt
 fnc:=rfl
 fn:=I.fn
 gc:=I.gc
 mt:=fun m x n h c g e=>by
  obtain⟨h1,h2,h3⟩:=I.mt m x n h c g e
  exact⟨h1,h2,h3⟩
 fs:=fun f x h c k e=>by
  obtain⟨h1,h2,h3,h4⟩:=I.fs f x h c k e
  exact⟨h1,h2,h3,h4⟩
 nw:=fun k x n h g e=>by
  obtain⟨h1⟩:=I.nw k x n h g e
  exact⟨h1⟩
 ck:=I.ck
 xk:=I.xk
 dc:=I.dc
theorem XOk.tr {W:WX} {pn:List (Addr × Obj)} {xe:Value→Shared→Prop} (I:XOk T Γ C X fc sc) (tk:Takes (X.tr pn xe) W):XOk T Γ { C with W:=W } (X.tr pn xe) fc sc where
 nm:=I.nm
 nd:=I.nd
 sc:=I.sc
 K:=I.K
 tk:=tk
 calm:=I.calm
 un:=I.un
 blt:=I.blt
 fnc:=I.fnc
 fn:=I.fn
 gc:=I.gc
 mt:=fun m x n h c g e=>by
  obtain⟨h1,h2,h3⟩:=I.mt m x n h c g e
  exact⟨h1,h2,h3⟩
 fs:=fun f x h c k e=>by
  obtain⟨h1,h2,h3,h4⟩:=I.fs f x h c k e
  exact⟨h1,h2,h3,h4⟩
 nw:=fun k x n h g e=>by
  obtain⟨h1⟩:=I.nw k x n h g e
  exact⟨h1⟩
 ck:=I.ck
 xk:=I.xk
 dc:=I.dc
theorem qiJ (I:XOk T Γ C X fc sc):∀(tg:List Nat) (es:List Expr),tgE T fc sc tg es=true→PGs X es (qlo tg)∧es.length=tg.length∧(assignEach es X.env).length=es.length∧(assignEach es X.env).findIdx? (·.1)=none
 |[],[],_=>⟨pgs_nil,rfl,rfl,rfl⟩
 |i::is,.Name x p::es,h=>by
  unfold tgE at h
  simp only[Bool.and_eq_true,decide_eq_true_eq] at h
  obtain⟨h1,h2⟩:=qlW I h.1.2
  obtain⟨h3,h4,h5,h6⟩:=qiJ I is es h.2
  refine⟨pgs_cons (pg_name I.nd (by rw[I.nm];exact h.1.1) h1 h2) h3 rfl,by simp[h4],?_,?_⟩
  ·show(_::assignEach es X.env).length=_
   simp[h5]
  ·show List.findIdx? (·.1) ((false,_)::assignEach es X.env)=none
   rw[List.findIdx?_cons]
   simp[h6]
 |[],_::_,h=>by cases h
 |_::_,[],h=>by cases h
theorem qhH (I:XOk T Γ C X fc sc) {tg:List Nat} {t:Expr} (h:qoI T fc sc tg t=true):PG X t (tG C tg):=by
 unfold qoI at h
 split at h
 ·split at h
  ·simp only[Bool.and_eq_true,decide_eq_true_eq] at h
   obtain⟨h1,h2⟩:=qlW I h.2
   exact qoc I.nd (by rw[I.nm];exact h.1) h1 h2
  ·cases h
 ·simp only[Bool.and_eq_true,decide_eq_true_eq] at h
  obtain⟨h3,h4,h5,h6⟩:=qiJ I _ _ h.2
  exact qqX I.K I.calm h3 h4 h.1 h5 h6
 ·cases h
end
end Cm
set_option maxHeartbeats 1000000
namespace Cm
open PySem PySem.Spec PyProof.Rows L2
theorem qsN (p:Pri):qpy p∈bltNames:=by cases p<;>decide
theorem qtU (t:Ty):tyN t∈bltNames:=by cases t<;>decide
theorem qp2 {l:List Expr} (h:l.length=1):∃a,l=[a]:=by
 match l,h with
 |[a],_=>exact⟨a,rfl⟩
theorem qqm {l:List Expr} (h:l.length=2):∃a b,l=[a,b]:=by
 match l,h with
 |[a,b],_=>exact⟨a,b,rfl⟩
theorem qnQ {l:List Expr} (h:l.length=3):∃a b c,l=[a,b,c]:=by
 match l,h with
 |[a,b,c],_=>exact⟨a,b,c,rfl⟩
mutual
theorem qad {T:Tb} {Γ:Env}:∀(ir:Ex) {C:Ctx} {X:Cx} {fc:Option Scope} {sc:Scope} {e:Expr},XOk T Γ C X fc sc→qaP T ir fc sc e=true→PE X e (tE C (ev Γ ir))∧(qra ir=true→PT X e (tT C fun ρ=>(ev Γ ir ρ).bind fun x=>qgI x.d))
 |.nev,C,X,fc,sc,e,I,h=>by
  exact⟨qaZ qij fun ρ=>by rw[ev],fun z=>by cases z⟩
 |.var i,C,X,fc,sc,e,I,h=>by
  unfold qaP at h
  split at h
  case h_2=>cases h
  rename_i x p
  simp only[Bool.and_eq_true,decide_eq_true_eq] at h
  obtain⟨n1,n2⟩:=qdI h.2
  exact⟨qaZ (qqn (by rw[I.nm];exact h.1.1) (qdb I.sc h.1.2) n1 n2) fun ρ=>by rw[ev]<;>rfl,fun z=>by cases z⟩
 |.cint i,C,X,fc,sc,e,I,h=>by
  unfold qaP at h
  split at h
  case h_2=>cases h
  simp only[decide_eq_true_eq] at h
  subst h
  exact⟨qaZ (qo9 (d:=.int i) pe_int fun _ _=>rfl) fun ρ=>by rw[ev];rfl,fun z=>by cases z⟩
 |.cbl i,C,X,fc,sc,e,I,h=>by
  unfold qaP at h
  split at h
  case h_2=>cases h
  simp only[decide_eq_true_eq] at h
  subst h
  exact⟨qaZ (qo9 (d:=.bl i) pe_bl fun _ _=>rfl) fun ρ=>by rw[ev];rfl,fun z=>by cases z⟩
 |.cstr s,C,X,fc,sc,e,I,h=>by
  unfold qaP at h
  split at h
  case h_2=>cases h
  simp only[decide_eq_true_eq] at h
  subst h
  exact⟨qaZ (qo9 (d:=.str s) pe_str fun _ _=>rfl) fun ρ=>by rw[ev];rfl,fun z=>by cases z⟩
 |.glo k,C,X,fc,sc,e,I,h=>by
  unfold qaP at h
  split at h
  case h_2=>cases h
  rename_i x p
  simp only[Bool.and_eq_true,decide_eq_true_eq] at h
  obtain⟨n1,n2⟩:=qdI h.2
  cases q:Γ.gc[k]? with
  |none=>exact⟨qaZ qij fun ρ=>by rw[ev,q],fun z=>by cases z⟩
  |some c =>
   obtain⟨u,v,h1,h2,h3,_⟩:=I.gc k x h.1.1 c q
   exact⟨qaZ (qo9 (d:=c.2) (pe_glob (qcd I.sc h.1.2) h1 h2 n1) h3) fun ρ=>by rw[ev,q],fun z=>by cases z⟩
 |.bin o a b,C,X,fc,sc,e,I,h=>by
  unfold qaP at h
  split at h
  case h_2=>cases h
  simp only[Bool.and_eq_true,decide_eq_true_eq] at h
  obtain⟨⟨rfl,ha⟩,hb⟩:=h
  exact⟨qaZ (qsL (qr8 o) (I.K ▸ qsD o) (qad a I ha).1 (qad b I hb).1) fun ρ=>by rw[ev],fun z=>by cases z⟩
 |.cmp o a b,C,X,fc,sc,e,I,h=>by
  unfold qaP at h
  split at h
  case h_2=>cases h
  simp only[Bool.and_eq_true,decide_eq_true_eq,Bool.not_eq_true'] at h
  obtain⟨⟨⟨rfl,hm⟩,ha⟩,hb⟩:=h
  exact⟨qaZ (qrh I.un I.K (qad a I ha).1 (qad b I hb).1 hm) fun ρ=>by rw[ev],fun _=>qkE (qq0 I.un I.K (qad a I ha).1 (qad b I hb).1 hm) fun ρ=>by rw[ev]⟩
 |.chn o p a b c,C,X,fc,sc,e,I,h=>by
  unfold qaP at h
  split at h
  case h_2=>cases h
  simp only[Bool.and_eq_true,decide_eq_true_eq,Bool.not_eq_true'] at h
  obtain⟨⟨⟨⟨⟨rfl,rfl⟩,hm⟩,ha⟩,hb⟩,hc⟩:=h
  exact⟨qaZ (qqE I.un I.K (qad a I ha).1 (qad b I hb).1 (qad c I hc).1 hm) fun ρ=>by rw[ev],fun _=>qkE (qq3 I.un I.K (qad a I ha).1 (qad b I hb).1 (qad c I hc).1 hm) fun ρ=>by rw[ev]⟩
 |.bop c es,C,X,fc,sc,e,I,h=>by
  unfold qaP at h
  split at h
  case h_2=>cases h
  rename_i op xs p
  simp only[Bool.and_eq_true,decide_eq_true_eq,Bool.not_eq_true'] at h
  obtain⟨⟨rfl,hx⟩,he⟩:=h
  exact⟨qaZ (qnM c es I he (by rintro rfl;cases hx)) fun ρ=>by rw[ev],fun z=>by cases z⟩
 |.bnot a,C,X,fc,sc,e,I,h=>by
  unfold qaP at h
  split at h
  case h_2=>cases h
  exact⟨qaZ (qo8 I.K (qad a I h).1) fun ρ=>by rw[ev],fun z=>by cases z⟩
 |.neg a,C,X,fc,sc,e,I,h=>by
  unfold qaP at h
  split at h
  case h_2=>cases h
  exact⟨qaZ (qqB (qad a I h).1) fun ρ=>by rw[ev]<;>rfl,fun z=>by cases z⟩
 |.tup es,C,X,fc,sc,e,I,h=>by
  unfold qaP at h
  split at h
  case h_2=>cases h
  rename_i xs k p
  simp only[Bool.and_eq_true,decide_eq_true_eq] at h
  refine⟨qaZ (qqK (qdd es I h.1.1 h.1.2) fun ρ r e=>?_) fun ρ=>by rw[ev],fun z=>by cases z⟩
  rw[qc0 es ρ r xs h.1.1 e]
  have:(1000:Nat)≤LIM:=by decide
  omega
 |.lst es,C,X,fc,sc,e,I,h=>by
  unfold qaP at h
  split at h
  case h_2=>cases h
  rename_i xs p
  simp only[Bool.and_eq_true,decide_eq_true_eq] at h
  refine⟨qaZ (qqL (qdd es I h.1.1 h.1.2) fun ρ r e=>?_) fun ρ=>by rw[ev],fun z=>by cases z⟩
  rw[qc0 es ρ r xs h.1.1 e]
  have:(1000:Nat)≤LIM:=by decide
  omega
 |.idx a i,C,X,fc,sc,e,I,h=>by
  unfold qaP at h
  split at h
  case h_2=>cases h
  simp only[Bool.and_eq_true] at h
  exact⟨qaZ (qqI I.K (qad a I h.1.1).1 (qad i I h.1.2).1 (qtb h.2)) fun ρ=>by rw[ev],fun z=>by cases z⟩
 |.slc a lo hi,C,X,fc,sc,e,I,h=>by
  unfold qaP at h
  split at h
  case h_2=>cases h
  simp only[Bool.and_eq_true] at h
  exact⟨qaZ (qql I.K (qad a I h.1.1).1 (qpN lo I h.1.2) (qpN hi I h.2)) fun ρ=>by rw[ev],fun z=>by cases z⟩
 |.call f es,C,X,fc,sc,e,I,h=>by
  unfold qaP at h
  split at h
  case h_2=>cases h
  rename_i x p xs q
  simp only[Bool.and_eq_true,decide_eq_true_eq] at h
  obtain⟨⟨⟨⟨hf,hg⟩,hn⟩,he⟩,hs⟩:=h
  cases e:Γ.fn[f]? with
  |none=>exact⟨qaZ qij fun ρ=>by rw[ev,e],fun z=>by cases z⟩
  |some g =>
   obtain⟨k,a,fd,ps,m,gf,F,hr,hm,hk,dv,dvs,dus,hb,hdv,hdm,hdr,hgf⟩:=I.fn f x xs.length hf g e
   exact⟨qaZ (qoa F hr (qcd I.sc hg) hm hk hb hdv hdm hdr hgf I.tk (qdd es I he hs) (qdI hn).1 (qe6 hs) (fun ρ r e=>qc0 es ρ r xs he e) (fun z ρ=>qhL he z ρ)) fun ρ=>by rw[ev,e],fun z=>by cases z⟩
 |.pri p es,C,X,fc,sc,e,I,h=>by
  unfold qaP at h
  split at h
  case h_2=>cases h
  rename_i x p' xs q
  simp only[Bool.and_eq_true,decide_eq_true_eq,Bool.not_eq_true'] at h
  obtain⟨⟨⟨⟨rfl,hg⟩,hx⟩,he⟩,hs⟩:=h
  cases xs with
  |nil=>cases hx
  |cons y ys =>
   have pl:=qe6 (X:=X) hs
   exact⟨qaZ (qqU I.K I.calm (qcd I.sc hg) (I.blt _ (qsN p)) (qdd es I he hs) (pl.1 _ _ rfl) (pl.2 _ _ _ rfl)) fun ρ=>by rw[ev],fun z=>by cases z⟩
 |.pk a,C,X,fc,sc,e,I,h=>by
  unfold qaP at h
  exact⟨qaZ (qsd (qad a I h).1) fun ρ=>by rw[ev],fun z=>qkE (qsT ((qad a I h).2 z)) fun ρ=>by rw[ev]⟩
 |.lrng es,C,X,fc,sc,e,I,h=>by
  unfold qaP at h
  split at h
  case h_2=>cases h
  rename_i l p1 r p2 xs p3 p4
  simp only[Bool.and_eq_true,decide_eq_true_eq] at h
  obtain⟨⟨⟨⟨⟨⟨rfl,rfl⟩,hg⟩,hg2⟩,he⟩,hs⟩,hl⟩:=h
  refine⟨?_,fun z=>by cases z⟩
  have m1:=I.blt "list" (by decide)
  have m2:=I.blt "range" (by decide)
  cases es with
  |nil =>
   cases xs with
   |nil=>simp at hl
   |cons _ _=>unfold qa7 at he;cases he
  |cons a es =>
   cases xs with
   |nil=>simp at hl
   |cons x xs =>
    unfold qa7 at he
    simp only[Bool.and_eq_true] at he
    simp only[List.all_cons,Bool.and_eq_true] at hs
    have h1:=(qad a I he.1).1
    cases es with
    |nil =>
     cases xs with
     |cons _ _=>have:=he.2;unfold qa7 at this;cases this
     |nil =>
      refine qaZ (qak (pe_listRg I.calm (qcd I.sc hg) m1 (prg_1 (qcd I.sc hg2) m2 h1 (qac hs.1)) rfl) fun σ H Q q=>qmc q) fun ρ=>?_
      rw[ev,evs,evs]
    |cons b es =>
     cases xs with
     |nil=>have:=he.2;unfold qa7 at this;cases this
     |cons y xs =>
      have he2:=he.2
      unfold qa7 at he2
      simp only[Bool.and_eq_true] at he2
      simp only[List.all_cons,Bool.and_eq_true] at hs
      have h2:=(qad b I he2.1).1
      cases xs with
      |cons _ _=>simp at hl
      |nil =>
       cases es with
       |cons _ _=>have:=he2.2;unfold qa7 at this;cases this
       |nil =>
        refine qaZ (qak (pe_listRg I.calm (qcd I.sc hg) m1 (prg_2 (qcd I.sc hg2) m2 h1 h2 (qac hs.1) (qac hs.2.1) (qef (by simp[hs.2.1]))) rfl) fun σ H Q q=>qmm q) fun ρ=>?_
        rw[ev,evs,evs,evs]
 |.mth m o es,C,X,fc,sc,e,I,h=>by
  unfold qaP at h
  split at h
  case h_2=>cases h
  rename_i x mn apos xs pos
  simp only[Bool.and_eq_true,decide_eq_true_eq] at h
  obtain⟨⟨⟨⟨⟨⟨hm,ho⟩,he⟩,hs⟩,hb⟩,hn⟩,hl⟩:=h
  exact⟨qaZ (qqv (mt:=fun c=>Γ.mt c m) (fun c g' e=>I.mt m mn xs.length hm c g' e) I.tk (qad o I ho).1 (qdd es I he hs) (qe6 hs) (fun ρ r e=>qc0 es ρ r xs he e) (fun z ρ=>qhL he z ρ) (qoE hb hs hn hl)) fun ρ=>by rw[ev]<;>rfl,fun z=>by cases z⟩
 |.bm1 m o a,C,X,fc,sc,e,I,h=>by
  unfold qaP at h
  split at h
  case h_2=>cases h
  simp only[Bool.and_eq_true,decide_eq_true_eq] at h
  obtain⟨⟨⟨⟨⟨rfl,ho⟩,ha⟩,hs⟩,hb⟩,hl⟩:=h
  exact⟨qaZ (qsl I.K (qad o I ho).1 (qad a I ha).1 (qac hs) (qeN hb) hl) fun ρ=>by rw[ev]<;>rfl,fun z=>by cases z⟩
 |.fld o f,C,X,fc,sc,e,I,h=>by
  unfold qaP at h
  split at h
  case h_2=>cases h
  rename_i x fn p
  simp only[Bool.and_eq_true,decide_eq_true_eq] at h
  obtain⟨⟨hf,ho⟩,hb⟩:=h
  exact⟨qaZ (qq7 (fi:=fun c=>Γ.fi c f) I.K (fun c k e=>I.fs f fn hf c k e) (qad o I ho).1 (qeN hb)) fun ρ=>by rw[ev]<;>rfl,fun z=>by cases z⟩
 |.isi a t,C,X,fc,sc,e,I,h=>by
  unfold qaP at h
  split at h
  case h_2=>cases h
  simp only[Bool.and_eq_true,decide_eq_true_eq] at h
  obtain⟨⟨⟨⟨⟨rfl,rfl⟩,hg⟩,hg2⟩,ha⟩,hs⟩:=h
  exact⟨qaZ (qqW I.K (qcd I.sc hg) (I.blt _ (by decide)) (qcd I.sc hg2) (I.blt _ (qtU t)) (qad a I ha).1 (qac hs) rfl) fun ρ=>by rw[ev],fun z=>by cases z⟩
 |.lc own it tg cnd e',C,X,fc,sc,e,I,h=>by
  unfold qaP at h
  split at h
  case h_2=>cases h
  rename_i elt tgt iter ifs scope p
  simp only[Bool.and_eq_true] at h
  obtain⟨⟨⟨⟨⟨⟨hb,hi⟩,ht⟩,hsub⟩,hc⟩,he⟩,hs⟩:=h
  have hsub':∀i∈tg,i∈own:=fun i hi=>by simpa using List.all_eq_true.mp hsub i hi
  have hb':BlkOk X.N X.env.scope scope (own.map fun i=>(T.N.getD i Str.empty,i)):=by
   rw[I.nm,I.sc];exact blkOk_by hb
  have ho:((own.map fun i=>(T.N.getD i Str.empty,i)).map (·.2))=own:=by
   rw[List.map_map]
   exact List.map_id' own
  have lc:=pe_lc (elt:=elt) (pos:=p) I.calm I.nd (qnA it I hi) hb' (fun s H Cd cl fp=>qhH (I.blk (s:=s) (H:=H) (cl:=cl) (A:=Cd) (fp:=fp)) ht) (fun s H Cd cl fp=>qmr cnd (I.blk (s:=s) (H:=H) (cl:=cl) (A:=Cd) (fp:=fp)) hc) (fun s H Cd cl fp=>(qad e' (I.blk (s:=s) (H:=H) (cl:=cl) (A:=Cd) (fp:=fp)) he).1) (qh8 hs)
  rw[ho] at lc
  exact⟨qaZ (qak lc fun σ H Q q=>qpK hsub' q) fun ρ=>by rw[ev]<;>rfl,fun z=>by cases z⟩
 |.lset a,C,X,fc,sc,e,I,h=>by
  unfold qaP at h
  split at h
  case h_2=>cases h
  simp only[Bool.and_eq_true,decide_eq_true_eq] at h
  obtain⟨⟨⟨⟨⟨rfl,rfl⟩,hg⟩,hg2⟩,ha⟩,hs⟩:=h
  exact⟨qaZ (qoR I.K I.calm (qcd I.sc hg) (I.blt _ (by decide)) (qcd I.sc hg2) (I.blt _ (by decide)) (qad a I ha).1 hs) fun ρ=>by rw[ev],fun z=>by cases z⟩
 |.lrev a,C,X,fc,sc,e,I,h=>by
  unfold qaP at h
  split at h
  case h_2=>cases h
  simp only[Bool.and_eq_true,decide_eq_true_eq] at h
  obtain⟨⟨⟨⟨⟨rfl,rfl⟩,hg⟩,hg2⟩,ha⟩,hs⟩:=h
  exact⟨qaZ (qo1 I.K I.calm (qcd I.sc hg) (I.blt _ (by decide)) (qcd I.sc hg2) (I.blt _ (by decide)) (qad a I ha).1 hs) fun ρ=>by rw[ev],fun z=>by cases z⟩
 |.new k es,C,X,fc,sc,e,I,h=>by
  unfold qaP at h
  split at h
  case h_2=>cases h
  rename_i x p xs q
  simp only[Bool.and_eq_true,decide_eq_true_eq] at h
  obtain⟨⟨⟨⟨hf,hg⟩,hn⟩,he⟩,hs⟩:=h
  cases e:Γ.nw[k]? with
  |none=>exact⟨qaZ qij fun ρ=>by rw[ev,e],fun z=>by cases z⟩
  |some g=>exact⟨qaZ (qqx (I.nw k x xs.length hf g e) (qcd I.sc hg) I.tk (qdd es I he hs) (qdI hn).1 (qe6 hs) (fun ρ r e=>qc0 es ρ r xs he e) (fun z ρ=>qhL he z ρ) rfl) fun ρ=>by rw[ev,e],fun z=>by cases z⟩
 |.sfd i f,C,X,fc,sc,e,I,h=>by
  unfold qaP at h
  split at h
  case h_2=>cases h
  rename_i x p fn p'
  simp only[Bool.and_eq_true,decide_eq_true_eq] at h
  obtain⟨⟨⟨h1,h2⟩,h3⟩,h4⟩:=h
  obtain⟨n1,n2⟩:=qdI h3
  exact⟨qaZ (qak (pe_fld (pe_var (i:=i) (by rw[I.nm];exact h1) (qdb I.sc h2) n1 n2) rfl) fun σ H Q q=>qpY (fi:=fun c=>Γ.fi c f) (fun c k e=>I.fs f fn h4 c k e) q) fun ρ=>by rw[ev]<;>rfl,fun z=>by cases z⟩
theorem qdd {T:Tb} {Γ:Env}:∀(ir:Exs) {C:Ctx} {X:Cx} {fc:Option Scope} {sc:Scope} {xs:List Expr},XOk T Γ C X fc sc→qa7 T ir fc sc xs=true→xs.all qag=true→PA X xs (tA C (evs Γ ir))
 |.nil,C,X,fc,sc,xs,I,h,hs=>by
  unfold qa7 at h
  cases xs with
  |nil=>exact qrR qrC fun ρ=>by rw[evs]
  |cons _ _=>cases h
 |.cons a es,C,X,fc,sc,xs,I,h,hs=>by
  unfold qa7 at h
  cases xs with
  |nil=>cases h
  |cons x xs =>
   simp only[Bool.and_eq_true] at h
   simp only[List.all_cons,Bool.and_eq_true] at hs
   exact qrR (qo7 (qad a I h.1).1 (qdd es I h.2 hs.2) (qac hs.1)) fun ρ=>by rw[evs]
theorem qnM {T:Tb} {Γ:Env}:∀(c:Bool) (ir:Exs) {C:Ctx} {X:Cx} {fc:Option Scope} {sc:Scope} {xs:List Expr} {pos:Pos},XOk T Γ C X fc sc→qa7 T ir fc sc xs=true→xs≠[]→PE X (.BoolOp (qn1 c) xs pos) (tE C (qnK Γ c ir))
 |c,.nil,C,X,fc,sc,xs,pos,I,h,hn=>by
  unfold qa7 at h
  cases xs with
  |nil=>exact absurd rfl hn
  |cons _ _=>cases h
 |c,.cons a es,C,X,fc,sc,xs,pos,I,h,hn=>by
  unfold qa7 at h
  cases xs with
  |nil=>cases h
  |cons x xs =>
   simp only[Bool.and_eq_true] at h
   cases xs with
   |nil =>
    cases es with
    |nil=>exact qaZ (qsR (qad a I h.1).1) fun ρ=>by rw[qnK,qnK]<;>rfl
    |cons _ _=>have:=h.2;unfold qa7 at this;cases this
   |cons y ys=>exact qaZ (qtV (qad a I h.1).1 (qnM c es I h.2 (by simp))) fun ρ=>by rw[qnK]<;>rfl
theorem qpN {T:Tb} {Γ:Env}:∀(ir:Exs) {C:Ctx} {X:Cx} {fc:Option Scope} {sc:Scope} {x:Option Expr},XOk T Γ C X fc sc→qsU T ir fc sc x=true→PO X x (tO C (evO Γ ir))
 |.nil,C,X,fc,sc,x,I,h=>by
  unfold qsU at h
  cases x with
  |none=>exact qsB qoh fun ρ=>by rw[evO]
  |some _=>cases h
 |.cons a es,C,X,fc,sc,x,I,h=>by
  unfold qsU at h
  cases x with
  |none=>cases h
  |some x=>exact qsB (qok (qad a I h).1) fun ρ=>by rw[evO]<;>rfl
theorem qhk {T:Tb} {Γ:Env}:∀(ir:Te) {C:Ctx} {X:Cx} {fc:Option Scope} {sc:Scope} {x:Expr},XOk T Γ C X fc sc→qnX T ir fc sc x=true→PT X x (tT C (evT Γ ir))
 |.val e,C,X,fc,sc,x,I,h=>by
  unfold qnX at h
  simp only[Bool.and_eq_true,Bool.or_eq_true] at h
  obtain⟨h1,h2⟩:=qad e I h.1
  rcases h.2 with q | q
  ·exact qkE (h2 q) fun ρ=>by rw[evT]
  ·exact qkE (qrt I.K h1 (qsx q)) fun ρ=>by rw[evT]
 |.bop c ts,C,X,fc,sc,x,I,h=>by
  unfold qnX at h
  split at h
  case h_2=>cases h
  simp only[Bool.and_eq_true,decide_eq_true_eq,Bool.not_eq_true'] at h
  obtain⟨⟨rfl,hx⟩,he⟩:=h
  exact qkE (qmG c ts I he (by rintro rfl;cases hx)).pt fun ρ=>by rw[evT]
 |.not t,C,X,fc,sc,x,I,h=>by
  unfold qnX at h
  split at h
  case h_2=>cases h
  exact qkE (qqu (qhk t I h)) fun ρ=>by rw[evT]
theorem qmG {T:Tb} {Γ:Env}:∀(c:Bool) (ir:Tes) {C:Ctx} {X:Cx} {fc:Option Scope} {sc:Scope} {xs:List Expr} {pos:Pos},XOk T Γ C X fc sc→qlU T ir fc sc xs=true→xs≠[]→PW X (.BoolOp (qn1 c) xs pos) (tT C (qhM Γ c ir))
 |c,.nil,C,X,fc,sc,xs,pos,I,h,hn=>by
  unfold qlU at h
  cases xs with
  |nil=>exact absurd rfl hn
  |cons _ _=>cases h
 |c,.cons a es,C,X,fc,sc,xs,pos,I,h,hn=>by
  unfold qlU at h
  cases xs with
  |nil=>cases h
  |cons x xs =>
   simp only[Bool.and_eq_true] at h
   cases xs with
   |nil =>
    cases es with
    |nil=>exact qr1 (qrZ (qhk a I h.1)) fun ρ=>by rw[qhM,qhM]
    |cons _ _=>have:=h.2;unfold qlU at this;cases this
   |cons y ys=>exact qr1 (qtj (qhk a I h.1) (qmG c es I h.2 (by simp))) fun ρ=>by rw[qhM]
theorem qmr {T:Tb} {Γ:Env}:∀(ir:Tes) {C:Ctx} {X:Cx} {fc:Option Scope} {sc:Scope} {xs:List Expr},XOk T Γ C X fc sc→qoF T ir fc sc xs=true→PTs X xs (tT C (qhM Γ true ir))
 |.nil,C,X,fc,sc,xs,I,h=>by
  unfold qoF at h
  cases xs with
  |nil =>
   refine⟨fun pins s σ H Q J q=>pts_nil.run pins s σ H Q J ?_⟩
   obtain⟨ρ,P,N,S,q⟩:=q
   rw[qhM] at q
   exact q.now S.reg
  |cons _ _=>cases h
 |.cons t ts,C,X,fc,sc,xs,I,h=>by
  unfold qoF at h
  split at h
  case h_2=>cases h
  simp only[Bool.and_eq_true] at h
  cases ts with
  |cons _ _=>have:=h.2;cases this
  |nil =>
   have p:=qhk t I h.1
   refine⟨fun pins s σ H Q J q=>(pts_one p).run pins s σ H Q J ?_⟩
   obtain⟨ρ,P,N,S,q⟩:=q
   rw[qhM,qhM] at q
   refine⟨ρ,P,N,S,q.bind.mono fun k P1 N1 H1 e a1 h1=>?_⟩
   split at h1
   ·rename_i e;subst e;exact h1.now (S.adv a1).reg
   ·exact h1.now (S.adv a1).reg
theorem qnA {T:Tb} {Γ:Env}:∀(ir:Itx) {C:Ctx} {X:Cx} {fc:Option Scope} {sc:Scope} {t x:Expr},XOk T Γ C X fc sc→qoW T ir fc sc t x=true→PI X t x (tI C (evI Γ ir))
 |.any e,C,X,fc,sc,t,x,I,h=>by
  unfold qoW at h
  exact qiB (qqR I.K (qad e I h).1) fun ρ=>by rw[evI]
 |.rng es,C,X,fc,sc,t,x,I,h=>by
  unfold qoW at h
  split at h
  case h_2=>cases h
  rename_i r p xs q
  simp only[Bool.and_eq_true,decide_eq_true_eq] at h
  obtain⟨⟨⟨⟨rfl,hg⟩,he⟩,hs⟩,hl⟩:=h
  have m2:=I.blt "range" (by decide)
  have pa:=qdd es I he hs
  rcases hl with hl | hl | hl
  ·obtain⟨a,rfl⟩:=qp2 hl
   simp only[List.all_cons,Bool.and_eq_true] at hs
   exact qiB (qoS (qcd I.sc hg) m2 pa (fun ρ r e=>qc0 es ρ r _ he e) (qac hs.1)) fun ρ=>by rw[evI]
  ·obtain⟨a,b,rfl⟩:=qqm hl
   have hs':=hs
   simp only[List.all_cons,Bool.and_eq_true] at hs
   exact qiB (qoj (qcd I.sc hg) m2 pa (fun ρ r e=>qc0 es ρ r _ he e) (by rw[qac hs.1,qac hs.2.1];rfl) (qac hs.2.1)) fun ρ=>by rw[evI]
  ·obtain⟨a,b,c,rfl⟩:=qnQ hl
   simp only[List.all_cons,Bool.and_eq_true] at hs
   exact qiB (qoG (qcd I.sc hg) m2 pa (fun ρ r e=>qc0 es ρ r _ he e) (qac hs.1) (qef (by simp[hs.2.1,hs.2.2.1]))) fun ρ=>by rw[evI]
 |.zp a b,C,X,fc,sc,t,x,I,h=>by
  unfold qoW at h
  split at h
  case h_2=>cases h
  simp only[Bool.and_eq_true,decide_eq_true_eq] at h
  obtain⟨⟨⟨⟨⟨⟨rfl,hg⟩,ha⟩,hb⟩,hs⟩,hs2⟩,ht⟩:=h
  cases t<;>try cases ht
  exact qiB (qsM I.K (qcd I.sc hg) (I.blt _ (by decide)) (qad a I ha).1 (qad b I hb).1 (qac hs) (qac hs2) (qef (by simp[hs2]))) fun ρ=>by rw[evI]<;>rfl
 |.en a,C,X,fc,sc,t,x,I,h=>by
  unfold qoW at h
  split at h
  case h_2=>cases h
  simp only[Bool.and_eq_true,decide_eq_true_eq] at h
  obtain⟨⟨⟨⟨rfl,hg⟩,ha⟩,hs⟩,ht⟩:=h
  cases t<;>try cases ht
  exact qiB (qs0 I.K (qcd I.sc hg) (I.blt _ (by decide)) (qad a I ha).1 (qac hs)) fun ρ=>by rw[evI]<;>rfl
 |.rv a,C,X,fc,sc,t,x,I,h=>by
  unfold qoW at h
  split at h
  case h_2=>cases h
  simp only[Bool.and_eq_true,decide_eq_true_eq] at h
  obtain⟨⟨⟨rfl,hg⟩,ha⟩,hs⟩:=h
  exact qiB (qsk I.K (qcd I.sc hg) (I.blt _ (by decide)) (qad a I ha).1 (qac hs)) fun ρ=>by rw[evI]<;>rfl
 |.rvr a,C,X,fc,sc,t,x,I,h=>by
  unfold qoW at h
  split at h
  case h_2=>cases h
  simp only[Bool.and_eq_true,decide_eq_true_eq] at h
  obtain⟨⟨⟨⟨⟨rfl,rfl⟩,hg⟩,hg2⟩,ha⟩,hs⟩:=h
  exact qiB (qrf (qcd I.sc hg) (I.blt _ (by decide)) (qcd I.sc hg2) (I.blt _ (by decide)) (qad a I ha).1 (qac hs)) fun ρ=>by rw[evI]<;>rfl
end
end Cm
namespace Cm
open PySem PySem.Spec PyProof.Rows L2
def swB (sc:Scope) (x:Str) (pn:Pos) (v:Expr):Bool:=match v with
 |.ListComp _ _ scope pos=>decide (sc.names.lookup x≠some .local)||(match sc.kind with
  |.function=>true
  |_=>false)&&decide (sc.names.lookup x=some .local)&&(pn.line == pos.line) && !(scope.names.any fun(n,k)=>n == x&&(k == .local||k == .cell))
 |.SetComp _ _ _ _=>false
 |.DictComp _ _ _ _ _=>false
 |_=>true
def qsh:Ex→Bool
 |.lc _ _ _ _ _=>true
 |_=>false
def quh:Expr→Bool
 |.Tuple _ _ _=>false
 |_=>true
def qvl (T:Tb) (sc:Scope):List Nat→List Expr→Nat→Bool
 |[],[],_=>true
 |i::is,.Name x p::es,l=>decide (T.N[i]? = some x)&&decide (sc.names.lookup x=some .local)&&(p.line == l)&&qvl T sc is es l
 |_,_,_=>false
def qsz (T:Tb) (sc:Scope):Tr→List Stmt→Bool
 |.ex e,ss=>match ss with
  |[.Expr v _]=>qaP T e none sc v&&qdO v
  |_=>false
 |.as j e,ss=>match ss with
  |[.Assign [.Name x pn] v _]=>decide (T.N[j]? = some x)&&tgB none sc x&&qaP T e none sc v&&(if qsh e then swB sc x pn v else qdO v)
  |_=>false
 |.iff t a b,ss=>match ss with
  |[.If c xs ys _]=>qnX T t none sc c&&qsz T sc a xs&&qsz T sc b ys
  |_=>false
def qnC (T:Tb) (sc:Scope):Pth→Expr→Bool
 |.var j,e=>match e with
  |.Name x _=>decide (T.N[j]? = some x)&&qko sc x&&nmB x
  |_=>false
 |.ix p k,e=>match e with
  |.Subscript a (.Constant (.int m) _ _) _=>decide (m=(k:Int))&&qnC T sc p a
  |_=>false
def qlM (T:Tb) (sc:Scope):Ch1→Stmt→Bool
 |.clr p,s=>match s with
  |.Expr (.Call (.Attribute o mn apos) [] [] cpos) _=>decide (mn=("clear" : Str))&&qnC T sc p o&&(apos.endLine == cpos.line)
  |_=>false
 |.app p e,s=>match s with
  |.Expr (.Call (.Attribute o mn apos) [y] [] cpos) _=>decide (mn=("append" : Str))&&qnC T sc p o&&(apos.endLine == cpos.line)&&qaP T e none sc y&&qag y
  |_=>false
 |.put p k e,s=>match s with
  |.Assign [.Subscript o (.Constant (.int m) _ _) _] v _=>decide (m=(k:Int))&&qnC T sc p o&&qaP T e none sc v
  |_=>false
def qpn (T:Tb) (sc:Scope):List Ch1→List Stmt→Bool
 |[],[]=>true
 |c::cs,s::ss=>qlM T sc c s&&qpn T sc cs ss
 |_,_=>false
def qf8 (T:Tb) (sc:Scope):Ch→List Stmt→Bool
 |.nil,ss=>ss.isEmpty
 |.one c r,ss=>match ss with
  |s::ss=>qlM T sc c s&&qf8 T sc r ss
  |[]=>false
 |.wlk l p b r,ss=>match ss with
  |.For (.Name x _) iter body [] _::ss=>decide (T.N[l]? = some x)&&tgB none sc x&&qnC T sc p iter&&qpn T sc b body&&qf8 T sc r ss
  |_=>false
 |.ifs j b r,ss=>match ss with
  |.If (.Compare (.Name x _) [.IsNot] [.Constant .none _ _] _) body [] _::ss=>decide (T.N[j]? = some x)&&qko sc x&&nmB x&&qf8 T sc b body&&qf8 T sc r ss
  |_=>false
def qqZ (T:Tb) (sc:Scope) (i f:Nat) (es:Exs):Stmt→Bool
 |.Assign [.Name x _] (.Call (.Name g _) xs [] _) _=>decide (T.N[i]? = some x)&&tgB none sc x&&decide (T.fn[f]? = some (g,xs.length))&&glB sc g&&nmB g&&qa7 T es none sc xs&&xs.all qag
 |_=>false
mutual
def qfX (T:Tb) (sc:Scope):Sm→Stmt→Bool
 |.nev,_=>true
 |.rse k,s=>match s with
  |.Raise (some (.Call (.Name x _) [.Constant (.str _) _ _] [] _)) none _=>decide (T.xk[k]? = some x)&&glB sc x&&nmB x
  |_=>false
 |.asg i e,s=>match s with
  |.Assign [.Name x pn] v _=>decide (T.N[i]? = some x)&&tgB none sc x&&qaP T e none sc v&&(if qsh e then swB sc x pn v else qdO v)
  |_=>false
 |.own i e,s=>match s with
  |.Assign [.Name x pn] v _=>decide (T.N[i]? = some x)&&tgB none sc x&&qaP T e none sc v&&(if qsh e then swB sc x pn v else qdO v)
  |_=>false
 |.put i ix e,s=>match s with
  |.Assign [.Subscript (.Name x _) y _] v _=>decide (T.N[i]? = some x)&&qko sc x&&nmB x&&qe5 y&&qaP T ix none sc y&&qaP T e none sc v
  |_=>false
 |.app i e,s=>match s with
  |.Expr (.Call (.Attribute (.Name x _) mn apos) [y] [] cpos) _=>decide (T.N[i]? = some x)&&qko sc x&&nmB x&&decide (mn=("append" : Str))&&qaP T e none sc y&&qag y&&(apos.endLine == cpos.line)
  |_=>false
 |.clr i,s=>match s with
  |.Expr (.Call (.Attribute (.Name x _) mn apos) [] [] cpos) _=>decide (T.N[i]? = some x)&&qko sc x&&nmB x&&decide (mn=("clear" : Str))&&(apos.endLine == cpos.line)
  |_=>false
 |.expr e,s=>match s with
  |.Expr v _=>qaP T e none sc v&&qdO v
  |_=>false
 |.ret e,s=>match s with
  |.Return (some v) _=>qaP T e none sc v
  |_=>false
 |.retN,s=>match s with
  |.Return none _=>true
  |_=>false
 |.pas,s=>match s with
  |.Pass _=>true
  |.Expr (.Constant (.str _) _ _) _=>true
  |_=>false
 |.brk,s=>match s with
  |.Break _=>true
  |_=>false
 |.cnt,s=>match s with
  |.Continue _=>true
  |_=>false
 |.iff c a b,s=>match s with
  |.If t xs ys _=>qnX T c none sc t&&qah T sc a xs&&qah T sc b ys
  |_=>false
 |.for it tg b,s=>match s with
  |.For t iter body [] _=>qoW T it none sc t iter&&qoI T none sc tg t&&qah T sc b body&&qlr iter
  |_=>false
 |.apop i j ix,s=>match s with
  |.Expr (.Call (.Attribute (.Name x _) mn apos) [.Call (.Attribute (.Name y _) mn2 apos2) [z] [] cpos2] [] cpos) _=>decide (T.N[i]? = some x)&&qko sc x&&nmB x&&decide (mn=("append" : Str))&&(apos.endLine == cpos.line)&&decide (T.N[j]? = some y)&&qko sc y&&nmB y&&decide (mn2=("pop" : Str))&&(apos2.endLine == cpos2.line)&&qaP T ix none sc z&&qag z
  |_=>false
 |.fset f e,s=>match s with
  |.Assign [.Attribute (.Name x _) fn _] v _=>decide (T.N[0]? = some x)&&qko sc x&&nmB x&&decide (T.fs[f]? = some fn)&&qaP T e none sc v
  |_=>false
 |.row i es,s=>match s with
  |.Assign [.Name x _] (.List xs _) _=>decide (T.N[i]? = some x)&&tgB none sc x&&qa7 T es none sc xs&&xs.all qag
  |_=>false
 |.rapp i k e,s=>match s with
  |.Expr (.Call (.Attribute (.Subscript (.Name x _) (.Constant (.int m) _ _) _) mn apos) [y] [] cpos) _=>decide (T.N[i]? = some x)&&qko sc x&&nmB x&&decide (m=(k:Int))&&decide (mn=("append" : Str))&&qaP T e none sc y&&qag y&&(apos.endLine == cpos.line)
  |_=>false
 |.rclr i k,s=>match s with
  |.Expr (.Call (.Attribute (.Subscript (.Name x _) (.Constant (.int m) _ _) _) mn apos) [] [] cpos) _=>decide (T.N[i]? = some x)&&qko sc x&&nmB x&&decide (m=(k:Int))&&decide (mn=("clear" : Str))&&(apos.endLine == cpos.line)
  |_=>false
 |.rput _ i k ix e,s=>match s with
  |.Assign [.Subscript (.Subscript (.Name x _) (.Constant (.int m) _ _) _) y _] v _=>decide (T.N[i]? = some x)&&qko sc x&&nmB x&&decide (m=(k:Int))&&qe5 y&&qaP T ix none sc y&&qaP T e none sc v
  |_=>false
 |.tapp o e,s=>match s with
  |.Expr (.Call (.Attribute x mn apos) [y] [] cpos) _=>decide (mn=("append" : Str))&&qaP T o none sc x&&qaP T e none sc y&&qag y&&qi7 x&&(apos.endLine == cpos.line)
  |_=>false
 |.tclr o,s=>match s with
  |.Expr (.Call (.Attribute x mn apos) [] [] cpos) _=>decide (mn=("clear" : Str))&&qaP T o none sc x&&qi7 x&&(apos.endLine == cpos.line)
  |_=>false
 |.whl c b,s=>match s with
  |.While t body [] _=>qnX T c none sc t&&qah T sc b body
  |_=>false
def qah (T:Tb) (sc:Scope):Sms→List Stmt→Bool
 |.nil,ss=>ss.isEmpty
 |.cons s ir,ss=>match ss with
  |st::ss=>qfX T sc s st&&qah T sc ir ss
  |[]=>false
 |.frz _ ir,ss=>qah T sc ir ss
 |.hav i f es rd cs ir,ss=>match ss with
  |st::ss=>qqZ T sc i f es st&&qah T sc rd (ss.take rd.len)&&qf8 T sc cs ((ss.drop rd.len).take cs.len)&&qah T sc ir ((ss.drop rd.len).drop cs.len)
  |[]=>false
end
theorem qpl {T:Tb} {own:List Nat} {it:Itx} {tg:List Nat} {cnd:Tes} {e':Ex} {fc:Option Scope} {sc:Scope} {v:Expr} (h:qaP T (.lc own it tg cnd e') fc sc v=true):∃elt tgt iter ifs scope p,v=.ListComp elt [⟨tgt,iter,ifs,0⟩] scope p:=by
 unfold qaP at h
 split at h
 case h_2=>cases h
 exact⟨_,_,_,_,_,_,rfl⟩
theorem qof {elt:Expr} {gs:List Comprehension} {scope:Scope} {pos py:Pos} {y:Str} {l:Nat} {env:PySem.Env} (hy:env.scope.names.lookup y≠some .local):swapsWith (.ListComp elt gs scope pos) (some (.Name y py)) l env=pure false:=by
 have ky:(env.kindOf y == some .local)=false:=beq_eq_false_iff_ne.mpr hy
 unfold swapsWith
 simp only[ky]
 simp
section
variable {T:Tb} {Γ:Env} {C:Ctx} {X:Cx} {sc:Scope}
theorem qmZ {i:Nat} {e:Ex} {x:Str} {pn pos:Pos} {v:Expr} (I:XOk T Γ C X none sc) (hi:T.N[i]? = some x) (ht:tgB none sc x=true) (hv:qaP T e none sc v=true) (hw:(if qsh e then swB sc x pn v else qdO v)=true):PS X (.Assign [.Name x pn] v pos) (tAsg (tE C (ev Γ e)) (gName i)):=by
 obtain⟨h1,h2⟩:=qlW I ht
 cases e with
 |lc own it tg cnd e' =>
  obtain⟨elt,tgt,iter,ifs,scope,p,rfl⟩:=qpl hv
  have hv0:=hv
  unfold qaP at hv
  simp only[Bool.and_eq_true] at hv
  obtain⟨⟨⟨⟨⟨⟨hb,hi'⟩,ht'⟩,hsub⟩,hc⟩,he⟩,hs⟩:=hv
  simp only[qsh,if_true,swB,Bool.or_eq_true,Bool.and_eq_true,decide_eq_true_eq,Bool.not_eq_true'] at hw
  rcases hw with hw | hw
  ·exact ps_set I.nd (by rw[I.nm];exact hi) h1 (qad (.lc own it tg cnd e') I hv0).1 (qof (by rw[I.sc];exact hw)) h2
  obtain⟨⟨⟨hk,hl⟩,hline⟩,hany⟩:=hw
  have hsub':∀i∈tg,i∈own:=fun i hi=>by simpa using List.all_eq_true.mp hsub i hi
  have hb':BlkOk X.N X.env.scope scope (own.map fun i=>(T.N.getD i Str.empty,i)):=by
   rw[I.nm,I.sc];exact blkOk_by hb
  have ho:((own.map fun i=>(T.N.getD i Str.empty,i)).map (·.2))=own:=by
   rw[List.map_map]
   exact List.map_id' own
  have hk':X.env.scope.kind=.function:=by
   rw[I.sc]
   cases e:sc.kind<;>simp_all
  have hl':X.env.scope.names.lookup x=some .local:=by rw[I.sc];exact hl
  have lc:=ps_setLc (i:=i) (y:=x) (py:=pn) (spos:=pos) (elt:=elt) (pos:=p) I.calm I.nd (by rw[I.nm];exact hi) hl' (sw_true hk' hl' hline hany) (qnA it I hi') hb' (fun s H Cd cl fp=>qhH (I.blk (s:=s) (H:=H) (cl:=cl) (A:=Cd) (fp:=fp)) ht') (fun s H Cd cl fp=>qmr cnd (I.blk (s:=s) (H:=H) (cl:=cl) (A:=Cd) (fp:=fp)) hc) (fun s H Cd cl fp=>(qad e' (I.blk (s:=s) (H:=H) (cl:=cl) (A:=Cd) (fp:=fp)) he).1) (qh8 hs)
  rw[ho] at lc
  refine qaj lc fun D σ H q=>?_
  have eg:(ev Γ (.lc own it tg cnd e'))=gLc own tg (evI Γ it) (qhM Γ true cnd) (ev Γ e'):=by funext ρ;rw[ev]<;>rfl
  unfold tAsg at q ⊢
  rw[eg] at q
  exact qpK hsub' q
 |_ =>
  have hc:qdO v=true:=hw
  exact ps_set I.nd (by rw[I.nm];exact hi) h1 (qad _ I hv).1 (qiu hc) h2
theorem qh7 {x y:Expr} {p:Pos} {v:Expr} {l:Nat} {env:PySem.Env}:swapsWithSole [.Subscript x y p] v l env=pure false:=by
 cases v<;>rfl
theorem qfv {x y:Expr} {p:Pos} {v:Expr} {env:PySem.Env}:swappedStores [.Subscript x y p] v env=pure none:=by
 cases v<;>rfl
theorem qjU {x y:Expr} {p:Pos} {env:PySem.Env} (h:qe5 y=true) (v:Value):assign (.Subscript x y p) env v=(do
   let ov ←holding [v] (eval x env)
   let iv ←holding [v,ov] (eval y env)
   standAt p
   holding [v,ov,iv] (setItem ov iv v)
   release [v,ov,iv] []):=by
 cases y<;>first | rfl | cases h
theorem qgr {e:Expr} {env:PySem.Env} {cpos:Pos} (h:qag e=true):((backTo cpos (starEach [e] env)).all (fun x=>!x.1)&&(backToKw cpos (keywordEach [] env)).all (fun x=>x.1.isSome)
   && decide ([e].length+([]:List Keyword).length+(if ([]:List Keyword).isEmpty then 0 else 1)<30))=true:=by
 rw[qac h];rfl
end
section
variable {T:Tb} {Γ:Env} {C:Ctx} {X:Cx} {sc:Scope}
end
end Cm
namespace Cm
open PySem PySem.Spec PyProof.Rows L2
abbrev TL:=Addr→Option (List V)
def LT (T:TL):Addr→List V→Prop:=fun a xs=>T a=some xs
def qmQ:V→Bool
 |.ref _=>true
 |_=>false
def clV (xs:List V):Nat:=if xs.isEmpty then 0 else if xs.any qmQ then 2 else 1
section
variable {G:Glo} {P:Hp} {LN:Addr→List V→Prop}
theorem qmj:∀{d:D} {v:V},Rep G P LN d v→qmQ v=d.isRef:=fun {d v} h=>by
 cases d with
 |non=>cases h;rfl
 |bl b=>cases h;rfl
 |int i=>cases h;rfl
 |str s=>cases h;rfl
 |lst ds=>obtain⟨a,xs,rfl,_⟩:=h;rfl
 |tup ds=>obtain⟨a,xs,rfl,_⟩:=h;rfl
 |ins c ds=>obtain⟨a,dx,xs,rfl,_⟩:=h;rfl
 |exc c fs=>obtain⟨_,a,rfl,_⟩:=h;rfl
theorem qk7:∀{ds:List D} {vs:List V},Reps G P LN ds vs→vs.any qmQ=ds.any D.isRef
 |[],_,h=>by cases h;rfl
 |d::ds,vs,⟨v,r,e,h1,h2⟩=>by
  subst e
  rw[List.any_cons,List.any_cons,qmj h1,qk7 h2]
theorem qeC {ds:List D} {vs:List V} (h:Reps G P LN ds vs):clV vs=clD ds:=by
 unfold clV clD
 rw[qk7 h]
 have hl:=h.length
 have:vs.isEmpty=ds.isEmpty:=by
  cases vs<;>cases ds<;>first | rfl | cases hl
 rw[this]
end
section
variable (C:Ctx)
structure Raw (P N H:Hp) (ρ:List Sl) (σ:L2.St) (T:TL) (Z:Zs) (τ:List (Nat × D)):Prop where
 sr:SR C P N H ρ σ
 h:∀a xs,T a=some xs→∃ys,H a=some (.lst ys)∧(clV xs∉Z.1→ys=xs)∧ys.length≤xs.length+Z.2
 o:∀a xs,T a=some xs→P a=none∧N a=none∧C.B a=none
 ow:∀(j:Nat) (ds:List Cm.D) (b:Bool) (p:Addr),ρ[j]? = some (.own ds b)→σ[j]? = some (some (.ref p))→T p=none
 tr:∀(j:Nat) (d:Cm.D),(j,d)∈τ→ρ[j]? = some .non∧∃v,σ[j]? = some (some v)∧Rep C.G P (LT T) d v
 nr:∀(j:Nat) (s:Sl),ρ[j]? = some s→s.isW=false
end
section
variable {C:Ctx} {P N H P' N' H':Hp} {ρ:List Sl} {σ:L2.St} {T:TL} {Z:Zs} {τ:List (Nat × D)}
theorem Raw.sub {τ':List (Nat × D)} (h:Raw C P N H ρ σ T Z τ) (hs:∀e∈τ',e∈τ):Raw C P N H ρ σ T Z τ':=⟨h.sr,h.h,h.o,h.ow,fun j d m=>h.tr j d (hs _ m),h.nr⟩
theorem Raw.adv (h:Raw C P N H ρ σ T Z τ) (a:Adv P N H P' N' H'):Raw C P' N' H' ρ σ T Z τ where
 sr:=h.sr.adv a
 h:=fun b xs e=>by
  obtain⟨ys,h1,h2⟩:=h.h b xs e
  exact⟨ys,a.hh _ _ h1,h2⟩
 o:=fun b xs e=>by
  obtain⟨ys,h1,_⟩:=h.h b xs e
  obtain⟨o1,o2,o3⟩:=h.o b xs e
  exact⟨a.off h1 o1,a.offN h1 o2,o3⟩
 ow:=h.ow
 tr:=fun j d m=>by
  obtain⟨h1,v,h2,h3⟩:=h.tr j d m
  exact⟨h1,v,h2,Rep.mono a.pp d v (fun _ _ q=>q) h3⟩
 nr:=h.nr
theorem Raw.write {Z':Zs} {a:Addr} {xs ys:List V} (h:Raw C P N H ρ σ T Z τ) (e:T a=some xs) (hz:∀k,k∈Z.1→k∈Z'.1) (hc:clV xs∈Z'.1) (hn:Z.2≤Z'.2) (hl:ys.length≤xs.length+Z'.2):Raw C P N (upd H a (.lst ys)) ρ σ T Z' τ:=by
 obtain⟨o1,o2,o3⟩:=h.o a xs e
 obtain⟨zs,z1,_⟩:=h.h a xs e
 refine⟨⟨⟨qaJ h.sr.reg.pH o1,qaJ h.sr.reg.nH o2,qaJ h.sr.reg.bH o3,h.sr.reg.rB,h.sr.reg.p0,h.sr.reg.pn,h.sr.reg.nw,h.sr.reg.dj⟩,h.sr.len,fun j s ej=>?_,h.sr.ap,h.sr.ad,AR.no h.nr⟩,fun b us eb=>?_,h.o,h.ow,h.tr,h.nr⟩
 ·obtain⟨o,y1,y2⟩:=h.sr.sl j s ej
  refine⟨o,y1,?_⟩
  cases s with
  |non=>trivial
  |val d b=>exact y2
  |own es c =>
   obtain⟨r,vs,rfl,y4,y5⟩:=y2
   have hr:r≠a:=fun er=>by
    have:=h.ow j es c r ej y1
    rw[er,e] at this;cases this
   exact⟨r,vs,rfl,by rw[upd_ne hr];exact y4,y5⟩
  |slf c fs =>
   obtain⟨r,dx,vs,y3,y4,y5⟩:=y2
   have hr:r≠a:=fun er=>by rw[er,z1] at y4;cases y4
   exact⟨r,dx,vs,y3,by rw[upd_ne hr];exact y4,y5⟩
  |fxd d k=>exact y2
  |dct m c =>
   obtain⟨r,es,y3,y4,y5⟩:=y2
   have hr:r≠a:=fun er=>by rw[er,z1] at y4;cases y4
   exact⟨r,es,y3,by rw[upd_ne hr];exact y4,y5⟩
  |row dss=>have:=h.nr j _ ej;cases this
 ·by_cases q:b=a
  ·subst q
   rw[e] at eb;cases eb
   exact⟨ys,upd_same,fun hk=>absurd hc hk,hl⟩
  ·obtain⟨vs,h1,h2,h3⟩:=h.h b us eb
   exact⟨vs,by rw[upd_ne q];exact h1,fun hk=>h2 fun hk'=>hk (hz _ hk'),by omega⟩
theorem Raw.bind {l:Nat} {d:D} {v:V} (h:Raw C P N H ρ σ T Z τ) (hl:ρ[l]? = some .non) (r:Rep C.G P (LT T) d v):Raw C P N H ρ (σ.set l (some v)) T Z ((l,d)::drp l τ) where
 sr:=by
  refine⟨h.sr.reg,by rw[List.length_set];exact h.sr.len,fun j s ej=>?_,fun i j p ds b es c e1 e2 e3 e4=>?_,h.sr.ad.sub fun j m b e=>⟨List.getElem?_set_ne (fun q=>by subst q;rw[hl] at e;cases e),_,_,e⟩,AR.no h.nr⟩
  ·by_cases q:l=j
   ·subst q
    rw[hl] at ej;cases ej
    have hlt:l<σ.length:=by rw[h.sr.len];exact(List.getElem?_eq_some_iff.mp hl).1
    exact⟨some v,List.getElem?_set_self hlt,trivial⟩
   ·rw[List.getElem?_set_ne q];exact h.sr.sl j s ej
  ·have n1:l≠i:=fun q=>by subst q;rw[hl] at e1;cases e1
   have n2:l≠j:=fun q=>by subst q;rw[hl] at e2;cases e2
   rw[List.getElem?_set_ne n1] at e3
   rw[List.getElem?_set_ne n2] at e4
   exact h.sr.ap i j p ds b es c e1 e2 e3 e4
 h:=h.h
 o:=h.o
 ow:=fun j ds b p e1 e2=>by
  have n1:l≠j:=fun q=>by subst q;rw[hl] at e1;cases e1
  rw[List.getElem?_set_ne n1] at e2
  exact h.ow j ds b p e1 e2
 tr:=fun j e m=>by
  rcases List.mem_cons.mp m with m | m
  ·cases m
   have hlt:l<σ.length:=by rw[h.sr.len];exact(List.getElem?_eq_some_iff.mp hl).1
   exact⟨hl,v,List.getElem?_set_self hlt,r⟩
  ·have m':=List.mem_filter.mp m
   have n1:l≠j:=fun q=>by subst q;simp at m'
   obtain⟨h1,u,h2,h3⟩:=h.tr j e m'.1
   exact⟨h1,u,by rw[List.getElem?_set_ne n1];exact h2,h3⟩
 nr:=h.nr
theorem qfo {j:Nat} {d:D}:∀{τ:List (Nat × D)},τ.lookup j=some d→(j,d)∈τ
 |[],h=>by cases h
 |(k,e)::τ,h=>by
  rw[List.lookup_cons] at h
  by_cases q:j=k
  ·subst q
   simp at h
   subst h
   exact List.mem_cons_self
  ·have:(j == k)=false:=by simpa using q
   rw[this] at h
   exact List.mem_cons_of_mem _ (qfo h)
def tP (C:Ctx) (p:Pth):TE:=fun σ H Q=>∃P N ρ T Z τ d,Raw C P N H ρ σ T Z τ∧qoO τ Z p=some d∧∀v,Rep C.G P (LT T) d v→Q v H
end
theorem qnn {α:Type} {xs:List α} {k:Nat} {x:α} (h:xs[k]? = some x):atI xs (k:Int)=some x:=by
 have hk:=(List.getElem?_eq_some_iff.mp h).1
 unfold atI ixN
 have h1:(0:Int)≤k∧(k:Int)<xs.length:=⟨by omega,by omega⟩
 simp[h1,h]
mutual
theorem qjP {Γ:Env}:∀(e:Ex),qeT e=true→∀ρ,∃er,ev Γ e ρ=.ok er∧er.isB=false
 |.cint i,_,ρ=>⟨_,by rw[ev];rfl,rfl⟩
 |.cstr s,_,ρ=>⟨_,by rw[ev];rfl,rfl⟩
 |.cbl b,_,ρ=>⟨_,by rw[ev];rfl,rfl⟩
 |.tup es,h,ρ=>by
  rw[qeT] at h
  obtain⟨r,e1,e2⟩:=qhX es h ρ
  refine⟨.val (.tup (r.map ER.d)) (r.all ER.b),?_,rfl⟩
  rw[ev,e1,RE.bind_ok,dis,if_pos e2]
 |.lst es,h,ρ=>by
  rw[qeT] at h
  obtain⟨r,e1,e2⟩:=qhX es h ρ
  refine⟨.fre (r.map ER.d) (r.all ER.b),?_,rfl⟩
  rw[ev,e1,RE.bind_ok,dis,if_pos e2]
 |.nev,h,_=>by simp[qeT] at h
 |.var _,h,_=>by simp[qeT] at h
 |.glo _,h,_=>by simp[qeT] at h
 |.bin _ _ _,h,_=>by simp[qeT] at h
 |.cmp _ _ _,h,_=>by simp[qeT] at h
 |.chn _ _ _ _ _,h,_=>by simp[qeT] at h
 |.bop _ _,h,_=>by simp[qeT] at h
 |.bnot _,h,_=>by simp[qeT] at h
 |.neg _,h,_=>by simp[qeT] at h
 |.idx _ _,h,_=>by simp[qeT] at h
 |.slc _ _ _,h,_=>by simp[qeT] at h
 |.call _ _,h,_=>by simp[qeT] at h
 |.pri _ _,h,_=>by simp[qeT] at h
 |.lrng _,h,_=>by simp[qeT] at h
 |.mth _ _ _,h,_=>by simp[qeT] at h
 |.bm1 _ _ _,h,_=>by simp[qeT] at h
 |.fld _ _,h,_=>by simp[qeT] at h
 |.isi _ _,h,_=>by simp[qeT] at h
 |.lc _ _ _ _ _,h,_=>by simp[qeT] at h
 |.lset _,h,_=>by simp[qeT] at h
 |.new _ _,h,_=>by simp[qeT] at h
 |.sfd _ _,h,_=>by simp[qeT] at h
 |.pk _,h,_=>by simp[qeT] at h
 |.lrev _,h,_=>by simp[qeT] at h
theorem qhX {Γ:Env}:∀(es:Exs),qnG es=true→∀ρ,∃r,evs Γ es ρ=.ok r∧r.all ER.isV=true
 |.nil,_,ρ=>⟨[],by rw[evs],rfl⟩
 |.cons e es,h,ρ=>by
  rw[qnG,Bool.and_eq_true] at h
  obtain⟨x,e1,e2⟩:=qjP e h.1 ρ
  obtain⟨r,e3,e4⟩:=qhX es h.2 ρ
  refine⟨x.frz::r,by rw[evs,e1,RE.bind_ok,e3,RE.bind_ok],?_⟩
  rw[List.all_cons,e4,Bool.and_true]
  cases x<;>first | rfl | cases e2
end
theorem qnH {G:Glo} {P:Hp} {LN:Addr→List V→Prop} {d:D} {v:V} (h:Rep G P LN d v):d.isNon=decide (v=.non):=by
 cases d with
 |non=>cases h;rfl
 |bl b=>cases h;rfl
 |int i=>cases h;rfl
 |str s=>cases h;rfl
 |lst ds=>obtain⟨a,xs,rfl,_⟩:=h;rfl
 |tup ds=>obtain⟨a,xs,rfl,_⟩:=h;rfl
 |ins c ds=>obtain⟨a,dx,xs,rfl,_⟩:=h;rfl
 |exc c fs=>obtain⟨_,a,rfl,_⟩:=h;rfl
section
variable {T:Tb} {Γ:Env} {C:Ctx} {X:Cx} {sc:Scope}
theorem qfr:∀{p:Pth} {e:Expr},qnC T sc p e=true→qlr e=true∧qi7 e=true
 |.var j,e,h=>by
  unfold qnC at h
  split at h
  ·exact⟨rfl,rfl⟩
  ·cases h
 |.ix p k,e,h=>by
  unfold qnC at h
  split at h
  ·exact⟨rfl,rfl⟩
  ·cases h
theorem qjp (I:XOk T Γ C X none sc):∀(p:Pth) {e:Expr},qnC T sc p e=true→PE X e (tP C p)
 |.var j,e,h=>by
  unfold qnC at h
  split at h
  case h_2=>cases h
  simp only[Bool.and_eq_true,decide_eq_true_eq] at h
  obtain⟨⟨h1,h2⟩,h3⟩:=h
  obtain⟨n1,n2⟩:=qdI h3
  refine qak (pe_var (i:=j) (by rw[I.nm];exact h1) (qdb I.sc h2) n1 n2) fun σ H Q q=>?_
  obtain⟨P,N,ρ,TT,Z,τ,d,R,e,k⟩:=q
  obtain⟨_,v,e2,r⟩:=R.tr j d (qfo (by simpa[qoO] using e))
  exact⟨v,e2,k v r⟩
 |.ix p k,e,h=>by
  unfold qnC at h
  split at h
  case h_2=>cases h
  simp only[Bool.and_eq_true,decide_eq_true_eq] at h
  obtain⟨rfl,h2⟩:=h
  refine qak (pe_ix ix_seq (qjp I p h2) pe_int (fun _ _=>rfl)) fun σ H Q q=>?_
  obtain⟨P,N,ρ,TT,Z,τ,d,R,e,kk⟩:=q
  rw[qoO] at e
  split at e
  ·rename_i ds e1
   refine⟨P,N,ρ,TT,Z,τ,_,R,e1,fun v r=>?_⟩
   obtain⟨a,xs,rfl,z1,z2⟩:=r
   obtain⟨u,q1,q2⟩:=z2.get e
   exact .inr (.inl ⟨a,xs,k,u,rfl,rfl,I.K ▸ Same.seqT R.sr.reg.pH z1,qnn q1,kk u q2⟩)
  ·rename_i ds e1
   split at e
   ·cases e
   ·rename_i hz
    refine⟨P,N,ρ,TT,Z,τ,_,R,e1,fun v r=>?_⟩
    obtain⟨a,xs,rfl,z1,z2⟩:=r
    obtain⟨u,q1,q2⟩:=z2.get e
    obtain⟨ys,y1,y2,_⟩:=R.h a xs z1
    have:=y2 (by rw[qeC z2];exact hz)
    subst this
    exact .inl ⟨a,ys,k,u,rfl,rfl,.inl (.inl y1),qnn q1,kk u q2⟩
  ·cases e
theorem qmv {τ:List (Nat × D)} {Z Z':Zs} {c:Ch1} (h:qlZ τ Z c=some Z'):(∀k,k∈Z.1→k∈Z'.1)∧Z.2≤Z'.2:=by
 cases c with
 |clr p =>
  simp only[qlZ] at h
  split at h
  ·cases h;exact⟨fun k hk=>List.mem_cons_of_mem _ hk,Nat.le_refl _⟩
  ·cases h
 |app p e =>
  simp only[qlZ] at h
  split at h
  ·split at h
   ·cases h;exact⟨fun k hk=>List.mem_cons_of_mem _ hk,Nat.le_succ _⟩
   ·cases h
  ·cases h
 |put p k e =>
  simp only[qlZ] at h
  split at h
  ·split at h
   ·cases h
   ·split at h
    ·cases h;exact⟨fun k hk=>List.mem_cons_of_mem _ hk,Nat.le_refl _⟩
    ·cases h
  ·cases h
theorem qiW {τ:List (Nat × D)}:∀{cs:List Ch1} {Z Z':Zs},qns τ cs Z=some Z'→(∀k,k∈Z.1→k∈Z'.1)∧Z.2≤Z'.2
 |[],Z,Z',h=>by cases h;exact⟨fun _ h=>h,Nat.le_refl _⟩
 |c::cs,Z,Z',h=>by
  rw[qns] at h
  cases e:qlZ τ Z c with
  |none=>rw[e] at h;cases h
  |some Z1 =>
   rw[e] at h
   obtain⟨a1,a2⟩:=qmv e
   obtain⟨b1,b2⟩:=qiW (cs:=cs) h
   exact⟨fun k hk=>b1 k (a1 k hk),Nat.le_trans a2 b2⟩
theorem qgE {f:D→Zs→Option Zs} (hf:∀d Z Z',f d Z=some Z'→(∀k,k∈Z.1→k∈Z'.1)∧Z.2≤Z'.2):∀{ds:List D} {Z Z':Zs},qoA f ds Z=some Z'→(∀k,k∈Z.1→k∈Z'.1)∧Z.2≤Z'.2
 |[],Z,Z',h=>by cases h;exact⟨fun _ h=>h,Nat.le_refl _⟩
 |d::ds,Z,Z',h=>by
  rw[qoA] at h
  cases e:f d Z with
  |none=>rw[e] at h;cases h
  |some Z1 =>
   rw[e] at h
   obtain⟨a1,a2⟩:=hf _ _ _ e
   obtain⟨b1,b2⟩:=qgE hf (ds:=ds) h
   exact⟨fun k hk=>b1 k (a1 k hk),Nat.le_trans a2 b2⟩
def tC1 (C:Ctx) (c:Ch1):TS:=fun D σ H=>∃P N ρ T Z τ Z',Raw C P N H ρ σ T Z τ∧qlZ τ Z c=some Z'∧∀P' N' H',Raw C P' N' H' ρ σ T Z' τ→L2.Same P P'→L2.Same N N'→D.nx σ H'
theorem qh4 {G:Glo} {P:Hp} {LN:Addr→List V→Prop} {ds:List D} {v:V} (h:Rep G P LN (.lst ds) v):∃a xs,v=.ref a∧LN a xs∧Reps G P LN ds xs:=h
theorem qnm (I:XOk T Γ C X none sc):∀(c:Ch1) {s:Stmt},qlM T sc c s=true→PS X s (tC1 C c)
 |.clr p,s,h=>by
  simp only[qlM] at h
  split at h
  case h_2=>cases h
  simp only[Bool.and_eq_true,decide_eq_true_eq] at h
  obtain⟨⟨rfl,h2⟩,h3⟩:=h
  refine qaj (ps_expr (pe_bm0 PySem.F.plainAttrs_list PySem.F.slot_list_clear PySem.F.type_list_clear mt_clear (qjp I p h2) (qeN (qfr h2).2) h3) rfl) fun D σ H q=>?_
  obtain⟨P,N,ρ,TT,Z,τ,Z',R,e,k⟩:=q
  simp only[qlZ] at e
  split at e
  ·rename_i ds e1
   cases e
   refine⟨P,N,ρ,TT,Z,τ,_,R,e1,fun v r=>?_⟩
   obtain⟨a,xs,rfl,z1,z2⟩:=qh4 r
   obtain⟨ys,y1,_⟩:=R.h a xs z1
   refine⟨.inl ⟨rfl,ys,.inl (.inl y1)⟩,a,ys,rfl,rfl,y1,k P N _ (R.write z1 (fun k hk=>List.mem_cons_of_mem _ hk) ?_ (Nat.le_refl _) (Nat.zero_le _)) (L2.Same.refl _) (L2.Same.refl _)⟩
   rw[qeC z2];exact List.mem_cons_self
  ·cases e
 |.app p ex,s,h=>by
  simp only[qlM] at h
  split at h
  case h_2=>cases h
  simp only[Bool.and_eq_true,decide_eq_true_eq] at h
  obtain⟨⟨⟨⟨rfl,h2⟩,h3⟩,h4⟩,h5⟩:=h
  refine qaj (ps_expr (pe_bm PySem.F.plainAttrs_list PySem.F.slot_list_append PySem.F.type_list_append mt_append (qjp I p h2) (pa_cons (qad ex I h4).1 pa_nil (qac h5)) (qeN (qfr h2).2) (qgr h5) h3 (qac h5) rfl) rfl) fun D σ H q=>?_
  obtain⟨P,N,ρ,TT,Z,τ,Z',R,e,k⟩:=q
  simp only[qlZ] at e
  split at e
  ·rename_i ds e1
   split at e
   ·rename_i hc
    cases e
    simp only[Bool.and_eq_true,qan] at hc
    refine⟨P,N,ρ,TT,Z,τ,_,R,e1,fun v r=>?_⟩
    obtain⟨a,xs,rfl,z1,z2⟩:=qh4 r
    obtain⟨ys,y1,y2,y3⟩:=R.h a xs z1
    obtain⟨er,q1,q2⟩:=qjP (Γ:=Γ) ex hc.1 ρ
    refine⟨.inl ⟨rfl,ys,.inl (.inl y1)⟩,ρ,P,N,R.sr,?_⟩
    rw[q1]
    intro P1 N1 H1 a1 u ru
    have hl:=z2.length
    have h6:ys.length+1≤LIM:=by have:=hc.2;omega
    refine⟨a,ys,u,rfl,rfl,a1.hh _ _ y1,h6,?_⟩
    refine k P1 N1 _ ((R.adv a1).write z1 (fun k hk=>List.mem_cons_of_mem _ hk) ?_ (Nat.le_succ _) ?_) a1.pp a1.nn
    ·rw[qeC z2];exact List.mem_cons_self
    ·rw[List.length_append,List.length_singleton];show ys.length+1≤xs.length+(Z.2+1);omega
   ·cases e
  ·cases e
 |.put p m ex,s,h=>by
  simp only[qlM] at h
  split at h
  case h_2=>cases h
  simp only[Bool.and_eq_true,decide_eq_true_eq] at h
  obtain⟨⟨rfl,h2⟩,h4⟩:=h
  refine qaj (ps_asg (qad ex I h4).1 (pg_sub (qjp I p h2) pe_int set_list (qjU rfl)) qh7 qfv rfl) fun D σ H q=>?_
  obtain⟨P,N,ρ,TT,Z,τ,Z',R,e,k⟩:=q
  simp only[qlZ] at e
  split at e
  ·rename_i ds e1
   split at e
   ·cases e
   ·rename_i hz
    split at e
    ·rename_i hc
     cases e
     simp only[Bool.and_eq_true,decide_eq_true_eq] at hc
     obtain⟨er,q1,q2⟩:=qjP (Γ:=Γ) ex hc.1 ρ
     refine⟨ρ,P,N,R.sr,?_⟩
     rw[q1]
     intro P1 N1 H1 a1 u ru
     refine⟨P1,N1,ρ,TT,Z,τ,_,R.adv a1,e1,fun v r=>?_⟩
     obtain⟨a,xs,rfl,z1,z2⟩:=qh4 r
     obtain⟨ys,y1,y2,y3⟩:=(R.adv a1).h a xs z1
     have hy:=y2 (by rw[qeC z2];exact hz)
     subst hy
     have hl:=z2.length
     have hix:ixN ys.length (m:Int)=some m:=by
      unfold ixN
      rw[if_pos (by omega),if_pos (by omega)]
      simp
     refine⟨a,ys,m,m,rfl,rfl,y1,hix,k P1 N1 _ ((R.adv a1).write z1 (fun k hk=>List.mem_cons_of_mem _ hk) ?_ (Nat.le_refl _) ?_) a1.pp a1.nn⟩
     ·rw[qeC z2];exact List.mem_cons_self
     ·rw[List.length_set];exact Nat.le_add_right _ _
    ·cases e
  ·cases e
def tCL (C:Ctx) (cs:List Ch1):TS:=fun D σ H=>∃P N ρ T Z τ Z',Raw C P N H ρ σ T Z τ∧qns τ cs Z=some Z'∧∀P' N' H',Raw C P' N' H' ρ σ T Z' τ→L2.Same P P'→L2.Same N N'→D.nx σ H'
theorem qmX (I:XOk T Γ C X none sc):∀(cs:List Ch1) {ss:List Stmt},qpn T sc cs ss=true→PSs X ss (tCL C cs)
 |[],[],_=>qbq pss_nil fun D σ H q=>by
  obtain⟨P,N,ρ,TT,Z,τ,Z',R,e,k⟩:=q
  cases e
  exact k P N H R (L2.Same.refl _) (L2.Same.refl _)
 |c::cs,s::ss,h=>by
  simp only[qpn,Bool.and_eq_true] at h
  refine qbq (pss_cons (qnm I c h.1) (qmX I cs h.2)) fun D σ H q=>?_
  obtain⟨P,N,ρ,TT,Z,τ,Z',R,e,k⟩:=q
  rw[qns] at e
  cases e1:qlZ τ Z c with
  |none=>rw[e1] at e;cases e
  |some Z1 =>
   rw[e1] at e
   exact⟨P,N,ρ,TT,Z,τ,Z1,R,e1,fun P1 N1 H1 R1 s1 s2=>⟨P1,N1,ρ,TT,Z1,τ,Z',R1,e,fun P2 N2 H2 R2 s3 s4=>k P2 N2 H2 R2 (s1.trans s3) (s2.trans s4)⟩⟩
 |[],_::_,h=>by cases h
 |_::_,[],h=>by cases h
end
end Cm
namespace Cm
open PySem PySem.Spec PyProof.Rows L2
section
variable {T:Tb} {Γ:Env} {C:Ctx} {X:Cx} {sc:Scope}
theorem qqz {l:Nat} {τ:List (Nat × D)}:drp l (drp l τ)=drp l τ:=by
 unfold drp
 rw[List.filter_filter]
 simp
theorem qpW {l:Nat} {τ:List (Nat × D)} {e:Nat × D} (h:e∈drp l τ):e∈τ:=(List.mem_filter.mp h).1
theorem qlh {ls:List Nat} {τ:List (Nat × D)} {e:Nat × D} (h:e∈qnL ls τ):e∈τ:=(List.mem_filter.mp h).1
theorem qoe {l:Nat} {ls:List Nat} {τ:List (Nat × D)} {e:Nat × D} (h:e∈qnL (l::ls) τ):e∈qnL ls (drp l τ):=by
 unfold qnL drp at *
 rw[List.filter_filter]
 have:=List.mem_filter.mp h
 refine List.mem_filter.mpr ⟨this.1,?_⟩
 simpa[not_or,and_comm] using this.2
theorem qll {l ls:List Nat} {τ:List (Nat × D)} {e:Nat × D} (h:e∈qnL (l++ls) τ):e∈qnL ls (qnL l τ):=by
 unfold qnL at *
 rw[List.filter_filter]
 have:=List.mem_filter.mp h
 refine List.mem_filter.mpr ⟨this.1,?_⟩
 simpa[not_or,and_comm] using this.2
theorem qry (hK:X.K=C.G.K) {l:Nat} {p:Pth} {b:List Ch1} {D:Ends} {σ:L2.St} {H:Hp} {P N:Hp} {ρ:List Sl} {TT:TL} {Z Z1:Zs} {τ:List (Nat × Cm.D)} {ds:List Cm.D} (R:Raw C P N H ρ σ TT Z τ) (hl:ρ[l]? = some .non)
  (e:qoO τ Z p=some (.lst ds)) (ew:qoA (fun d Z=>qns ((l,d)::drp l τ) b Z) ds Z=some Z1) (hz:clD ds∉Z1.1)
  (k:∀σ' P' N' H',Raw C P' N' H' ρ σ' TT Z1 (drp l τ)→L2.Same P P'→L2.Same N N'→D.nx σ' H'):tFor (qtG X.K (tP C p)) (gName l) (tCL C b) D σ H:=by
 have hm:∀d Z Z',qns ((l,d)::drp l τ) b Z=some Z'→(∀k,k∈Z.1→k∈Z'.1)∧Z.2≤Z'.2:=fun d Z Z'=>qiW
 refine⟨P,N,ρ,TT,Z,τ,_,R,e,fun v r=>?_⟩
 obtain⟨a,xs,rfl,z1,z2⟩:=qh4 r
 have hlen:=z2.length
 have seq:∀{P' N' H':Hp} {σ':L2.St} {Z2:Zs} {τ':List (Nat × Cm.D)},Raw C P' N' H' ρ σ' TT Z2 τ'→(∀k,k∈Z2.1→k∈Z1.1)→SqL X.K H' a xs:=fun {P' N' H' σ' Z2 τ'} R' hs=>by
  obtain⟨ys,y1,y2,_⟩:=R'.h a xs z1
  have:=y2 fun q=>hz (by rw[←qeC z2];exact hs _ q)
  subst this
  exact .inl (.inl y1)
 refine .inl (.inl ⟨a,rfl,⟨xs,seq R (qgE hm ew).1⟩,?_⟩)
 refine for_it (walk_list (K:=X.K) (a:=a) (xs:=xs)) (Pv:=fun i σ' H'=>∃P' N' Z2,Raw C P' N' H' ρ σ' TT Z2 (drp l τ)∧L2.Same P P'∧L2.Same N N'∧qoA (fun d Z=>qns ((l,d)::drp l τ) b Z) (ds.drop i) Z2=some Z1) ?_ (fun i σ' H' hi q=>?_) (fun i x σ' H' H'' hi q y=>?_) (fun σ' H' q=>?_)
 ·exact⟨P,N,Z,R.sub fun _=>qpW,L2.Same.refl _,L2.Same.refl _,by simpa using ew⟩
 ·obtain⟨P',N',Z2,R',_,_,e'⟩:=q
  exact seq R' (qgE hm e').1
 ·obtain⟨P',N',Z2,R',s1,s2,e'⟩:=q
  obtain⟨rfl,ex⟩:=y
  have hi':i<ds.length:=by omega
  obtain⟨v,q1,q2⟩:=Reps.get z2 (List.getElem?_eq_getElem hi')
  rw[q1] at ex;cases ex
  rw[List.drop_eq_getElem_cons hi',qoA] at e'
  cases e2:qns ((l,ds[i])::drp l τ) b Z2 with
  |none=>rw[e2] at e';cases e'
  |some Z3 =>
   rw[e2] at e'
   have RB:=R'.bind hl (Rep.mono s1 _ _ (fun _ _ q=>q) q2)
   rw[qqz] at RB
   exact⟨P',N',ρ,TT,Z2,_,Z3,RB,e2,fun P4 N4 H4 R4 s3 s4=>⟨P4,N4,Z3,R4.sub fun _ h=>List.mem_cons_of_mem _ h,s1.trans s3,s2.trans s4,e'⟩⟩
 ·obtain⟨P',N',Z2,R',s1,s2,e'⟩:=q
  rw[hlen,List.drop_length,qoA] at e'
  cases e'
  exact k σ' P' N' H' R' s1 s2
def tCk (C:Ctx) (c:Ch) (u:TS):TS:=fun D σ H=>∃P N ρ T Z τ Z',Raw C P N H ρ σ T Z τ∧(∀l∈c.tgs,ρ[l]? = some .non)∧chg c τ Z=some Z'∧∀σ' P' N' H',Raw C P' N' H' ρ σ' T Z' (qnL c.tgs τ)→L2.Same P P'→L2.Same N N'→u D σ' H'
theorem qgj (I:XOk T Γ C X none sc) (hp:PassesOwn (model X.prog X.w) X.A X.env X.xe):∀(c:Ch) {ss rest:List Stmt} {u:TS},qf8 T sc c ss=true→PSs X rest u→PSs X (ss++rest) (tCk C c u)
 |.nil,ss,rest,u,h,hr=>by
  simp only[qf8,List.isEmpty_iff] at h
  subst h
  refine qbq hr fun D σ H q=>?_
  obtain⟨P,N,ρ,TT,Z,τ,Z',R,_,e,k⟩:=q
  cases e
  exact k σ P N H (R.sub fun _=>qlh) (L2.Same.refl _) (L2.Same.refl _)
 |.one c r,ss,rest,u,h,hr=>by
  cases ss with
  |nil=>simp[qf8] at h
  |cons s ss =>
   simp only[qf8,Bool.and_eq_true] at h
   refine qbq (pss_cons (qnm I c h.1) (qgj I hp r h.2 hr)) fun D σ H q=>?_
   obtain⟨P,N,ρ,TT,Z,τ,Z',R,hn,e,k⟩:=q
   rw[chg] at e
   cases e1:qlZ τ Z c with
   |none=>rw[e1] at e;cases e
   |some Z1 =>
    rw[e1] at e
    exact⟨P,N,ρ,TT,Z,τ,Z1,R,e1,fun P1 N1 H1 R1 s1 s2=>⟨P1,N1,ρ,TT,Z1,τ,Z',R1,hn,e,fun σ2 P2 N2 H2 R2 s3 s4=>k σ2 P2 N2 H2 R2 (s1.trans s3) (s2.trans s4)⟩⟩
 |.wlk l p b r,ss,rest,u,h,hr=>by
  simp only[qf8] at h
  split at h
  case h_2=>cases h
  simp only[Bool.and_eq_true,decide_eq_true_eq] at h
  obtain⟨⟨⟨⟨h1,h2⟩,h3⟩,h4⟩,h5⟩:=h
  obtain⟨t1,t2⟩:=qlW I h2
  refine qbq (pss_cons (ps_for hp I.calm (qpv (qjp I p h3)) (pg_name I.nd (by rw[I.nm];exact h1) t1 t2) (qmX I b h4) (qh8 (qfr h3).1)) (qgj I hp r h5 hr)) fun D σ H q=>?_
  obtain⟨P,N,ρ,TT,Z,τ,Z',R,hn,e,k⟩:=q
  rw[chg] at e
  split at e
  ·rename_i ds e1
   cases ew:qoA (fun d Z=>qns ((l,d)::drp l τ) b Z) ds Z with
   |none=>rw[ew] at e;cases e
   |some Z1 =>
    rw[ew] at e
    simp only[Option.bind_some] at e
    split at e
    ·cases e
    ·rename_i hz
     refine qry I.K R (hn l (by simp[Ch.tgs])) e1 ew hz fun σ1 P1 N1 H1 R1 s1 s2=>?_
     exact⟨P1,N1,ρ,TT,Z1,_,Z',R1,fun m hm=>hn m (by simp[Ch.tgs,hm]),e,fun σ2 P2 N2 H2 R2 s3 s4=>k σ2 P2 N2 H2 (R2.sub fun _ h=>qoe h) (s1.trans s3) (s2.trans s4)⟩
  ·cases e
 |.ifs j b r,ss,rest,u,h,hr=>by
  simp only[qf8] at h
  split at h
  case h_2=>cases h
  simp only[Bool.and_eq_true,decide_eq_true_eq] at h
  obtain⟨⟨⟨⟨h1,h2⟩,h3⟩,h4⟩,h5⟩:=h
  obtain⟨n1,n2⟩:=qdI h3
  have hb:=qgj I hp b (rest:=[]) (u:=tNext) h4 pss_nil
  rw[List.append_nil] at hb
  refine qbq (pss_cons (ps_if (pt_cmp (pc_notN (pe_var (i:=j) (by rw[I.nm];exact h1) (qdb I.sc h2) n1 n2))) hb pss_nil) (qgj I hp r h5 hr)) fun D σ H q=>?_
  obtain⟨P,N,ρ,TT,Z,τ,Z',R,hn,e,k⟩:=q
  rw[chg] at e
  split at e
  ·rename_i d ed
   obtain⟨_,v,ev,rv⟩:=R.tr j d (qfo ed)
   refine⟨v,ev,_,rfl,?_⟩
   rw[←qnH rv]
   have hnb:∀l∈b.tgs,ρ[l]? = some .non:=fun m hm=>hn m (by simp[Ch.tgs,hm])
   have hnr:∀l∈r.tgs,ρ[l]? = some .non:=fun m hm=>hn m (by simp[Ch.tgs,hm])
   cases hd:d.isNon with
   |true =>
    rw[hd] at e
    simp only[if_true] at e
    exact⟨P,N,ρ,TT,Z,_,Z',R.sub fun _=>qlh,hnr,e,fun σ2 P2 N2 H2 R2 s3 s4=>k σ2 P2 N2 H2 (R2.sub fun _ h=>qll h) s3 s4⟩
   |false =>
    rw[hd] at e
    simp only[Bool.false_eq_true,if_false] at e
    cases eb:chg b τ Z with
    |none=>rw[eb] at e;cases e
    |some Z1 =>
     rw[eb] at e
     simp only[Option.bind_some] at e
     exact⟨P,N,ρ,TT,Z,τ,Z1,R,hnb,eb,fun σ1 P1 N1 H1 R1 s1 s2=>⟨P1,N1,ρ,TT,Z1,_,Z',R1,hnr,e,fun σ2 P2 N2 H2 R2 s3 s4=>k σ2 P2 N2 H2 (R2.sub fun _ h=>qll h) (s1.trans s3) (s2.trans s4)⟩⟩
  ·cases e
end
end Cm
namespace Cm
open PySem PySem.Spec PyProof.Rows L2
def tSk (C:Ctx) (g:List Sl→Out) (u:TS):TS:=fun D σ H=>∃ρ P N,SR C P N H ρ σ∧outS C P N { D with nx:=u D } (g ρ)
structure HvR (P H P' H':Hp) (T:TL):Prop where
 hh:Same H H'
 pp:Same P P'
 pH:Same P' H'
 pn:∀a,P' a≠none→P a≠none∨H a=none
 t:∀a xs,T a=some xs→H' a=some (.lst xs)∧H a=none∧P' a=none
def TR (T:TL) (R:Hp):Hp:=fun a=>match T a with
 |some xs=>some (.lst xs)
 |none=>R a
theorem qgl {T:TL} {R:Hp} {a:Addr} {xs:List V} (h:T a=some xs):TR T R a=some (.lst xs):=by unfold TR;rw[h]
theorem qeR {T:TL} {R:Hp} {a:Addr} (h:T a=none):TR T R a=R a:=by unfold TR;rw[h]
theorem qiM {T:TL} {R:Hp} {a:Addr} (h:TR T R a=none):T a=none∧R a=none:=by
 unfold TR at h
 split at h
 ·cases h
 ·exact⟨by assumption,h⟩
section
variable {C:Ctx}
theorem qoL {P N H H0:Hp} {σ:L2.St} {n:Nat} {g':List D→RE ER} {Q:VK} {es:List ER} {vs:List V} (r:Reg C P N H) (hv:ERs C P N H H0 es vs) (hn:es.length=n)
  (h:match g' (es.map ER.d) with
   |.bad=>False
   |.ok er=>∃d,qlH er=some d∧∀v H' P' T,HvR P H P' H' T→Rep C.G P' (LT T) d v→Q v H'
   |.exc c fs=>∀d P' N' H',Adv P N H P' N' H'→ExR C P' N' H' fs d→C.W (.ref (C.G.ca c)) d σ H'):spD C.G n g' vs H Q (fun cls d H'=>C.W cls d σ H'):=by
 have rH:=r.rH
 have hr:Reps C.G P (SqL C.G.K H) (es.map ER.d) vs:=qkN r hv
 refine⟨P,H,es.map ER.d,r.pH,L2.Same.refl _,hr,by rw[List.length_map,hn],?_⟩
 cases e:g' (es.map ER.d) with
 |bad=>rw[e] at h;exact h.elim
 |exc c fs =>
  rw[e] at h
  intro d H' P' N' ad hx
  refine h d _ _ _ (ad.back r.nH) ?_
  rcases hx with hx | ⟨dd,f,v,h1,h2,h3,h4⟩
  ·exact .inl hx
  ·refine .inr ⟨dd,f,v,h1,h2,h3,Rep.mono (L2.Same.refl _) _ _ (fun a xs q=>?_) h4⟩
   rcases q with q | ⟨hb,q⟩
   ·exact .inl (qlQ ad.nH _ _ q)
   ·cases hb
 |ok er =>
  rw[e] at h
  obtain⟨d,ed,h⟩:=h
  intro v H' P' N' ad hx
  have base:∀a xs,N' a=some (.lst xs)→H' a=some (.lst xs)∧H a=none∧P' a=none:=fun a xs q=>by
   have hne:N' a≠none:=by rw[q];exact fun z=>nomatch z
   refine⟨ad.nH _ _ q,?_,?_⟩
   ·rcases ad.nw a hne with z | z
    ·exact absurd rfl z
    ·exact z
   ·cases e2:P' a with
    |none=>rfl
    |some o=>exact absurd rfl (ad.dj a hne (by rw[e2];exact fun z=>nomatch z))
  let T:TL:=fun a=>match N' a with
   |some (.lst xs)=>some xs
   |_=>none
  have hT:∀a xs,N' a=some (.lst xs)→T a=some xs:=fun a xs q=>by show(match N' a with | some (.lst xs)=>some xs | _=>none)=some xs;rw[q]
  have hT':∀a xs,T a=some xs→N' a=some (.lst xs):=fun a xs q=>by
   have q:(match N' a with | some (.lst xs)=>some xs | _=>none)=some xs:=q
   split at q
   ·rename_i ys e2;cases q;exact e2
   ·cases q
  cases er with
  |brw ds b=>cases ed
  |val d' b =>
   simp only[qlH] at ed
   split at ed
   ·rename_i hb
    cases ed
    refine h v H' P' T ⟨ad.hh,ad.pp,ad.pH,ad.pn,fun a xs q=>base a xs (hT' a xs q)⟩ ?_
    cases b with
    |true=>exact Rep.mono (L2.Same.refl _) _ _ (fun a xs q=>by
     rcases q with q | ⟨hb,_⟩
     ·exact hT a xs q
     ·cases hb) hx
    |false=>exact Rep.flat _ _ (by simpa using hb) hx
   ·cases ed
  |fre ds b =>
   simp only[qlH] at ed
   split at ed
   ·rename_i hb
    cases ed
    obtain⟨p,xs,rfl,h1,h2,h3,h4,h5⟩:=hx
    refine h _ H' P' (fun a=>if a=p then some xs else T a) ⟨ad.hh,ad.pp,ad.pH,ad.pn,fun a ys q=>?_⟩ ⟨p,xs,rfl,if_pos rfl,?_⟩
    ·split at q
     ·rename_i ea
      cases q
      subst ea
      exact⟨h1,h2,h3⟩
     ·exact base a ys (hT' a ys q)
    ·have mono:∀a ys,LNb C.G.K P' N' H true a ys→LT (fun a=>if a=p then some xs else T a) a ys:=fun a ys q=>by
      rcases q with q | ⟨hb,_⟩
      ·have:a≠p:=fun ea=>by rw[ea,h4] at q;cases q
       show(if a=p then some xs else T a)=some ys
       rw[if_neg this];exact hT a ys q
      ·cases hb
     cases b with
     |true=>exact Reps.mono (L2.Same.refl _) _ _ mono h5
     |false=>exact Reps.flat _ _ (by simpa using hb) h5
   ·cases ed
def Ctx.hv (C:Ctx) (T:TL) (fx:Nat→Option V):Ctx:={ C with R:=TR T C.R,B:=TR T C.B,fx:=fx }
theorem qff:∀{ρ:List Sl} {k j:Nat} {s:Sl},(qjV k ρ)[j]? = some s→∃q,ρ[j]? = some q∧s=ent (k+j) q
 |[],k,j,s,h=>by simp[qjV] at h
 |q::qs,k,0,s,h=>by simp[qjV] at h;exact⟨q,rfl,h.symm⟩
 |q::qs,k,j+1,s,h=>by
  simp[qjV] at h
  obtain⟨r,h1,h2⟩:=qff h
  exact⟨r,by simpa using h1,by rw[h2];congr 1;omega⟩
theorem qii:∀{ρ:List Sl} {k:Nat},(qjV k ρ).length=ρ.length
 |[],_=>rfl
 |q::qs,k=>by simp[qjV,qii]
theorem qee {ρ0:List Sl}:∀{ρ:List Sl} {k j:Nat} {s:Sl},(qjN ρ0 k ρ)[j]? = some s→∃q,ρ[j]? = some q∧s=ext (k+j) (ρ0[k+j]?.getD .non) q
 |[],k,j,s,h=>by simp[qjN] at h
 |q::qs,k,0,s,h=>by simp[qjN] at h;exact⟨q,rfl,h.symm⟩
 |q::qs,k,j+1,s,h=>by
  simp[qjN] at h
  obtain⟨r,h1,h2⟩:=qee h
  have:k+1+j=k+(j+1):=by omega
  exact⟨r,by simpa using h1,by rw[h2,this]⟩
theorem qfZ {ρ0:List Sl}:∀{ρ:List Sl} {k:Nat},(qjN ρ0 k ρ).length=ρ.length
 |[],_=>rfl
 |q::qs,k=>by simp[qjN,qfZ]
theorem LNb.up {K:PySem.W.Frag} {P N R R':Hp} {b:Bool} (h:L2.Same R R'):∀a xs,LNb K P N R b a xs→LNb K P N R' b a xs:=fun a xs q=>by
 rcases q with q | ⟨hb,q | q | q⟩
 ·exact .inl q
 ·exact .inr ⟨hb,.inl q⟩
 ·exact .inr ⟨hb,.inr (.inl q)⟩
 ·exact .inr ⟨hb,.inr (.inr (L2.Same.seq h q))⟩
theorem RepB.dn {C C':Ctx} {P N:Hp} {b:Bool} {d:Cm.D} {v:V} (hG:C'.G=C.G) (hb:(b||d.flat)=true) (h:RepB C' P N b d v):RepB C P N b d v:=by
 unfold RepB at *
 rw[hG] at h
 cases b with
 |true=>exact Rep.mono (L2.Same.refl _) _ _ (fun a xs q=>by
  rcases q with q | ⟨hb,_⟩
  ·exact .inl q
  ·cases hb) h
 |false=>exact Rep.flat _ _ (by simpa using hb) h
theorem RepsB.dn {C C':Ctx} {P N:Hp} {b:Bool} {d:List Cm.D} {v:List V} (hG:C'.G=C.G) (hb:(b||D.flats d)=true) (h:RepsB C' P N b d v):RepsB C P N b d v:=by
 unfold RepsB at *
 rw[hG] at h
 cases b with
 |true=>exact Reps.mono (L2.Same.refl _) _ _ (fun a xs q=>by
  rcases q with q | ⟨hb,_⟩
  ·exact .inl q
  ·cases hb) h
 |false=>exact Reps.flat _ _ (by simpa using hb) h
end
section
variable {C:Ctx} {P N H P' H':Hp} {ρ:List Sl} {σ:L2.St} {T:TL}
theorem HvR.tn (a:HvR P H P' H' T) {b:Addr} (h:H b≠none):T b=none:=by
 cases e:T b with
 |none=>rfl
 |some xs=>exact absurd (a.t b xs e).2.1 h
theorem HvR.tp (a:HvR P H P' H' T) {b:Addr} (h:P' b≠none):T b=none:=by
 cases e:T b with
 |none=>rfl
 |some xs=>exact absurd (a.t b xs e).2.2 h
theorem HvR.sR (a:HvR P H P' H' T) {R:Hp} (h:L2.Same R H):L2.Same R (TR T R):=fun b o e=>by
 rw[qeR (a.tn (b:=b) (by rw[h _ _ e];exact fun z=>nomatch z))];exact e
theorem HvR.reg (a:HvR P H P' H' T) (r:Reg C P N H) {fx:Nat→Option V}:Reg (C.hv T fx) P' N H' where
 pH:=a.pH
 nH:=r.nH.trans a.hh
 bH:=fun b o e=>by
  have e:TR T C.B b=some o:=e
  cases q:T b with
  |none=>rw[qeR q] at e;exact a.hh _ _ (r.bH _ _ e)
  |some xs=>rw[qgl q] at e;cases e;exact(a.t b xs q).1
 rB:=fun b o e=>by
  have e:TR T C.R b=some o:=e
  show TR T C.B b=some o
  cases q:T b with
  |none=>rw[qeR q] at e ⊢;exact r.rB _ _ e
  |some xs=>rw[qgl q] at e ⊢;exact e
 p0:=r.p0.trans a.pp
 pn:=fun b h=>by
  have t:=a.tp h
  show C.P0 b≠none∨TR T C.B b=none
  rw[qeR t]
  rcases a.pn b h with z | z
  ·exact r.pn b z
  ·exact .inr (r.bH.free z)
 nw:=fun b h=>by
  have hb:H b≠none:=fun z=>h (r.nH.free z)
  show TR T C.B b=none
  rw[qeR (a.tn hb)];exact r.nw b h
 dj:=fun b h=>by
  cases q:P' b with
  |none=>rfl
  |some o =>
   rcases a.pn b (by rw[q];exact fun z=>nomatch z) with z | z
   ·exact absurd (r.dj b h) z
   ·exact absurd (r.nH.free z) h
theorem qn5 {i:Nat} {v w:V} (hi:i<σ.length) (h:((σ.set i (some v))[i]?).join=some w):w=v:=by
 rw[List.getElem?_set_self hi] at h
 cases h;rfl
theorem HvR.into (a:HvR P H P' H' T) (S:SR C P N H ρ σ) {i:Nat} {d:D} {v:V} (hi:i<σ.length) (rv:Rep C.G P' (LT T) d v):SR (C.hv T fun k=>((σ.set i (some v))[k]?).join) P' N H' ((qjV 0 ρ).set i (.fxd d i)) (σ.set i (some v)) where
 reg:=a.reg S.reg
 len:=by simp[S.len,qii]
 sl:=fun j s e=>by
  by_cases q:i=j
  ·subst q
   rw[List.getElem?_set_self (by rw[qii,←S.len];exact hi)] at e
   cases e
   refine⟨some v,List.getElem?_set_self hi,v,rfl,?_,?_⟩
   ·show((σ.set i (some v))[i]?).join=some v
    rw[List.getElem?_set_self hi];rfl
   ·exact Rep.mono (L2.Same.refl _) _ _ (fun b xs z=>.inr ⟨rfl,.inr (.inr (.inl (.inl (qgl z))))⟩) rv
  ·rw[List.getElem?_set_ne q] at e
   obtain⟨s0,e0,rfl⟩:=qff e
   obtain⟨o,y1,y2⟩:=S.sl j s0 e0
   rw[List.getElem?_set_ne q]
   refine⟨o,y1,?_⟩
   have mR:=a.sR S.reg.rH
   have up:∀{b:Bool} {d:D} {v:V},RepB C P N b d v→RepB (C.hv T fun k=>((σ.set i (some v))[k]?).join) P' N b d v:=fun {b d v} h =>
    Rep.mono a.pp _ _ (fun c xs z=>LNb.up mR c xs (LNb.mono a.pp (L2.Same.refl _) c xs z)) h
   have ups:∀{b:Bool} {d:List D} {v:List V},RepsB C P N b d v→RepsB (C.hv T fun k=>none) P' N b d v:=fun {b d v} h =>
    Reps.mono a.pp _ _ (fun c xs z=>LNb.up mR c xs (LNb.mono a.pp (L2.Same.refl _) c xs z)) h
   have hfx:∀w,o=some w→((σ.set i (some v))[j]?).join=some w:=fun w ew=>by rw[List.getElem?_set_ne q,y1,ew];rfl
   rw[Nat.zero_add]
   cases s0 with
   |non=>trivial
   |val d b =>
    obtain⟨w,rfl,h3⟩:=y2
    by_cases hb:(b||d.flat)=true
    ·rw[show ent j (.val d b)=.val d b from if_pos hb]
     exact⟨w,rfl,up h3⟩
    ·rw[show ent j (.val d b)=.fxd d j from if_neg hb]
     have hb':b=false:=by cases b with
      |false=>rfl
      |true=>simp at hb
     subst hb'
     exact⟨w,rfl,hfx w rfl,up h3⟩
   |own ds b =>
    obtain⟨p,xs,rfl,h3,h4,h5,h6,h7⟩:=y2
    have hne:H p≠none:=by rw[h3];exact fun z=>nomatch z
    refine⟨p,xs,rfl,a.hh _ _ h3,?_,h5,?_,ups h7⟩
    ·cases q2:P' p with
     |none=>rfl
     |some o =>
      rcases a.pn p (by rw[q2];exact fun z=>nomatch z) with z | z
      ·exact absurd h4 z
      ·exact absurd z hne
    ·show TR T C.B p=none
     rw[qeR (a.tn hne)];exact h6
   |slf c fs=>trivial
   |fxd d k =>
    obtain⟨w,rfl,_,h3⟩:=y2
    exact⟨w,rfl,hfx w rfl,up h3⟩
   |dct m c=>trivial
   |row _=>trivial
 ap:=fun j k p ds b es c e1 e2 e3 e4=>by
  have old:∀{m:Nat} {es:List D} {c:Bool},((qjV 0 ρ).set i (.fxd d i))[m]? = some (.own es c)→i≠m∧ρ[m]? = some (.own es c):=fun {m es c} e=>by
   by_cases q:i=m
   ·subst q
    rcases Nat.lt_or_ge i (qjV 0 ρ).length with z | z
    ·rw[List.getElem?_set_self z] at e;cases e
    ·rw[List.getElem?_eq_none (by simpa using z)] at e;cases e
   ·rw[List.getElem?_set_ne q] at e
    obtain⟨s0,e0,es0⟩:=qff e
    refine⟨q,?_⟩
    rw[e0]
    cases s0 with
    |own ds' b'=>simp only[ent] at es0;rw[es0]
    |val d b =>
     by_cases hb:(b||d.flat)=true
     ·rw[show ent (0+m) (.val d b)=.val d b from if_pos hb] at es0;cases es0
     ·rw[show ent (0+m) (.val d b)=.fxd d (0+m) from if_neg hb] at es0;cases es0
    |_=>cases es0
  obtain⟨n1,o1⟩:=old e1
  obtain⟨n2,o2⟩:=old e2
  rw[List.getElem?_set_ne n1] at e3
  rw[List.getElem?_set_ne n2] at e4
  exact S.ap j k p ds b es c o1 o2 e3 e4
 ad:=AD.setS (AD.no fun j s e=>by
  obtain⟨s0,e0,rfl⟩:=qff e
  cases s0 with
  |val d b=>simp only[ent];split<;>rfl
  |_=>rfl) rfl
 ar:=AR.no fun j s e=>by
  rcases qaG e with⟨_,z⟩ | ⟨_,z⟩
  ·rw[z];rfl
  ·obtain⟨s0,e0,rfl⟩:=qff z
   cases s0 with
   |val d b=>simp only[ent];split<;>rfl
   |_=>rfl
theorem HvR.regO (a:HvR P H P' H' T) (r:Reg C P N H) {fx:Nat→Option V} {P2 N2 H2:Hp} (r2:Reg (C.hv T fx) P2 N2 H2):Reg C P2 N2 H2 where
 pH:=r2.pH
 nH:=r2.nH
 bH:=fun b o e=>r2.bH b o (by
  show TR T C.B b=some o
  rw[qeR (a.tn (b:=b) (by rw[r.bH _ _ e];exact fun z=>nomatch z))];exact e)
 rB:=r.rB
 p0:=r2.p0
 pn:=fun b h=>by
  rcases r2.pn b h with z | z
  ·exact .inl z
  ·exact .inr (qiM z).2
 nw:=fun b h=>(qiM (r2.nw b h)).2
 dj:=r2.dj
theorem SR.drop {P N H:Hp} {ρ:List Sl} {σ:L2.St} (S:SR C P N H ρ σ) (i:Nat):SR C P N H (ρ.set i .non) σ where
 reg:=S.reg
 len:=by simp[S.len]
 sl:=fun j s e=>by
  by_cases q:i=j
  ·subst q
   rcases Nat.lt_or_ge i ρ.length with z | z
   ·rw[List.getElem?_set_self z] at e
    cases e
    exact⟨_,List.getElem?_eq_getElem (by rw[S.len];exact z),trivial⟩
   ·rw[List.getElem?_eq_none (by simpa using z)] at e;cases e
  ·rw[List.getElem?_set_ne q] at e
   exact S.sl j s e
 ap:=fun j k p ds b es c e1 e2 e3 e4=>by
  have old:∀{m:Nat} {es:List D} {c:Bool},(ρ.set i .non)[m]? = some (.own es c)→ρ[m]? = some (.own es c):=fun {m es c} e=>by
   by_cases q:i=m
   ·subst q
    rcases Nat.lt_or_ge i ρ.length with z | z
    ·rw[List.getElem?_set_self z] at e;cases e
    ·rw[List.getElem?_eq_none (by simpa using z)] at e;cases e
   ·rw[List.getElem?_set_ne q] at e;exact e
  exact S.ap j k p ds b es c (old e1) (old e2) e3 e4
 ad:=S.ad.setS rfl
 ar:=S.ar.setS rfl
theorem SR.wipeS {P N H:Hp} {ρ:List Sl} {σ:L2.St} (S:SR C P N H ρ σ):∀vs:List Nat,SR C P N H (Cm.wipeS ρ vs) σ
 |[]=>S
 |v::vs=>(SR.wipeS S vs).drop v
theorem qfu {ρ:List Sl}:∀vs:List Nat,(wipeS ρ vs).length=ρ.length
 |[]=>rfl
 |v::vs=>by simp[wipeS,qfu vs]
theorem qkV {ρ:List Sl} {v:Nat} (hv:v<ρ.length):∀{vs:List Nat},v∈vs→(wipeS ρ vs)[v]? = some .non
 |[],h=>by cases h
 |w::vs,h=>by
  unfold wipeS
  by_cases q:w=v
  ·subst q;rw[List.getElem?_set_self (by rw[qfu];exact hv)]
  ·rw[List.getElem?_set_ne q]
   rcases List.mem_cons.mp h with h | h
   ·exact absurd h.symm q
   ·exact qkV hv h
theorem qi5 {ρ:List Sl} {j:Nat} {s:Sl} (hs:s≠.non):∀{vs:List Nat},(wipeS ρ vs)[j]? = some s→ρ[j]? = some s
 |[],h=>h
 |w::vs,h=>by
  unfold wipeS at h
  by_cases q:w=j
  ·subst q
   rcases Nat.lt_or_ge w (wipeS ρ vs).length with z | z
   ·rw[List.getElem?_set_self z] at h;cases h;exact absurd rfl hs
   ·rw[List.getElem?_eq_none (by simpa using z)] at h;cases h
  ·rw[List.getElem?_set_ne q] at h;exact qi5 hs h
theorem qiN {ρ:List Sl} {j:Nat} (h:ρ[j]? = some .non):∀{vs:List Nat},(wipeS ρ vs)[j]? = some .non
 |[]=>h
 |w::vs=>by
  unfold wipeS
  by_cases q:w=j
  ·subst q
   rw[List.getElem?_set_self (by rw[qfu];exact(List.getElem?_eq_some_iff.mp h).1)]
  ·rw[List.getElem?_set_ne q];exact qiN h
theorem qlc {ρ:List Sl} (h:∀(j:Nat) (s:Sl),ρ[j]? = some s→s.isW=false):∀{vs:List Nat} (j:Nat) (s:Sl),(Cm.wipeS ρ vs)[j]? = some s→s.isW=false
 |[],j,s,e=>h j s e
 |v::vs,j,s,e=>by
  unfold Cm.wipeS at e
  rcases qaG e with⟨_,z⟩ | ⟨_,z⟩
  ·rw[z];rfl
  ·exact qlc h j s z
theorem HvR.out (a:HvR P H P' H' T) (S:SR C P N H ρ σ) {i:Nat} {d d2:D} {v:V} (hi:i<σ.length) (rv:Rep C.G P' (LT T) d v) {P2 N2 H2:Hp} {ρ2:List Sl} {σ2:L2.St}
  (S2:SR (C.hv T fun k=>((σ.set i (some v))[k]?).join) P2 N2 H2 ρ2 σ2) (sp:L2.Same P' P2) (sn:L2.Same N N2) (e2:ρ2[i]? = some (.fxd d2 i)) (vs:List Nat) :
  Raw C P2 N2 H2 (wipeS (qjN (ρ.set i .non) 0 ρ2) vs) σ2 T ([],0) [(i,d)]:=by
 have rg:=a.regO S.reg S2.reg
 have own:∀{j:Nat} {ds:List D} {b:Bool},(qjN (ρ.set i .non) 0 ρ2)[j]? = some (.own ds b)→ρ2[j]? = some (.own ds b)∧(b||D.flats ds)=true:=fun {j ds b} e=>by
  obtain⟨q,h1,h2⟩:=qee e
  cases q with
  |own es c =>
   simp only[ext] at h2
   split at h2
   ·cases h2;exact⟨h1,by assumption⟩
   ·cases h2
  |val d' b' =>
   simp only[ext] at h2
   split at h2<;>cases h2
  |non=>cases h2
  |slf _ _=>cases h2
  |fxd _ k =>
   simp only[ext] at h2
   split at h2
   ·split at h2<;>cases h2
   ·cases h2
  |dct _ _=>cases h2
  |row _=>cases h2
 have ei:(qjN (ρ.set i .non) 0 ρ2)[i]? = some .non:=by
  have hl:i<ρ2.length:=(List.getElem?_eq_some_iff.mp e2).1
  have:i<(qjN (ρ.set i .non) 0 ρ2).length:=by rw[qfZ];exact hl
  obtain⟨q,h1,h2⟩:=qee (List.getElem?_eq_getElem this)
  rw[e2] at h1;cases h1
  rw[List.getElem?_eq_getElem this,h2]
  simp only[Nat.zero_add,ext,if_true]
  rw[List.getElem?_set_self (by rw[←S.len];exact hi)]
  rfl
 have noW:∀(j:Nat) (s:Sl),(qjN (ρ.set i .non) 0 ρ2)[j]? = some s→s.isW=false:=fun j s e=>by
  obtain⟨q,h1,rfl⟩:=qee e
  cases q with
  |val d b=>simp only[ext];split<;>rfl
  |own d b=>simp only[ext];split<;>rfl
  |fxd d k =>
   simp only[ext]
   split
   ·split<;>rfl
   ·rfl
  |_=>rfl
 have sr:SR C P2 N2 H2 (qjN (ρ.set i .non) 0 ρ2) σ2:=by
  refine⟨rg,by rw[qfZ,S2.len],fun j s e=>?_,fun j k p ds b es c e1 e3 e4 e5=>S2.ap j k p ds b es c (own e1).1 (own e3).1 e4 e5,AD.no fun j s e=>by
   obtain⟨q,h1,rfl⟩:=qee e
   cases q with
   |val d b=>simp only[ext];split<;>rfl
   |own d b=>simp only[ext];split<;>rfl
   |fxd d k =>
    simp only[ext]
    split
    ·split<;>rfl
    ·rfl
   |_=>rfl,AR.no noW⟩
  obtain⟨q,h1,h2⟩:=qee e
  obtain⟨o,y1,y2⟩:=S2.sl j q h1
  refine⟨o,y1,?_⟩
  rw[h2,Nat.zero_add]
  cases q with
  |non=>trivial
  |slf _ _=>trivial
  |dct _ _=>trivial
  |row _=>trivial
  |val d b =>
   simp only[ext]
   split
   ·rename_i hb
    obtain⟨w,rfl,h3⟩:=y2
    exact⟨w,rfl,RepB.dn (C':=C.hv T fun k=>((σ.set i (some v))[k]?).join) rfl hb h3⟩
   ·trivial
  |own ds b =>
   simp only[ext]
   split
   ·rename_i hb
    obtain⟨p,xs,rfl,h3,h4,h5,h6,h7⟩:=y2
    exact⟨p,xs,rfl,h3,h4,h5,(qiM h6).2,RepsB.dn (C':=C.hv T fun k=>((σ.set i (some v))[k]?).join) rfl hb h7⟩
   ·trivial
  |fxd d' k =>
   simp only[ext]
   split
   ·rename_i hk
    subst hk
    by_cases hki:i=k
    ·subst hki
     rw[List.getElem?_set_self (by rw[←S.len];exact hi)]
     trivial
    ·rw[List.getElem?_set_ne hki]
     obtain⟨w,rfl,h3,_⟩:=y2
     have h3:((σ.set i (some v))[k]?).join=some w:=h3
     rw[List.getElem?_set_ne hki] at h3
     cases e0:ρ[k]? with
     |none=>trivial
     |some s0 =>
      obtain⟨o,z1,z2⟩:=S.sl k s0 e0
      have ho:o=some w:=by
       rw[z1] at h3
       exact h3
      subst ho
      cases s0 with
      |val d b =>
       obtain⟨u,eu,h4⟩:=z2
       cases eu
       exact⟨w,rfl,RepB.adv (a.pp.trans sp) sn h4⟩
      |fxd d m =>
       obtain⟨u,eu,h5,h4⟩:=z2
       cases eu
       exact⟨w,rfl,h5,RepB.adv (a.pp.trans sp) sn h4⟩
      |non=>trivial
      |own _ _=>trivial
      |slf _ _=>trivial
      |dct _ _=>trivial
      |row _=>trivial
   ·trivial
 have tb:∀{b:Addr} {xs:List V},T b=some xs→TR T C.B b≠none:=fun {b xs} e=>by rw[qgl e];exact fun z=>nomatch z
 refine⟨sr.wipeS vs,fun b xs e=>⟨xs,S2.reg.bH b _ (qgl e),fun _=>rfl,Nat.le_add_right _ _⟩,fun b xs e=>⟨?_,?_,?_⟩,fun j ds b p e1 e3=>?_,fun j d' m=>?_,qlc noW⟩
 ·cases q:P2 b with
  |none=>rfl
  |some o =>
   rcases S2.reg.pn b (by rw[q];exact fun z=>nomatch z) with z | z
   ·have hb:=(a.t b xs e).2.1
    exact absurd (S.reg.p0.free (S.reg.pH.free hb)) z
   ·exact absurd z (tb e)
 ·cases q:N2 b with
  |none=>rfl
  |some o=>exact absurd (S2.reg.nw b (by rw[q];exact fun z=>nomatch z)) (tb e)
 ·exact S.reg.bH.free (a.t b xs e).2.1
 ·obtain⟨h1,_⟩:=own (qi5 (by simp) e1)
  obtain⟨o,y1,p',xs,rfl,h3,h4,h5,h6,h7⟩:=S2.sl j _ h1
  rw[y1] at e3;cases e3
  exact(qiM h6).1
 ·simp only[List.mem_singleton,Prod.mk.injEq] at m
  obtain⟨rfl,rfl⟩:=m
  refine⟨qiN ei,v,?_,Rep.mono sp _ _ (fun _ _ q=>q) rv⟩
  obtain⟨o,y1,w,rfl,h3,_⟩:=S2.sl j _ e2
  have:=qn5 hi h3
  subst this
  exact y1
end
section
variable {T:Tb} {Γ:Env} {C:Ctx} {X:Cx} {sc:Scope}
theorem XOk.hv {fc:Option Scope} {TT:TL} {fx:Nat→Option V} (I:XOk T Γ C X fc sc):XOk T Γ (C.hv TT fx) X fc sc where
 nm:=I.nm
 nd:=I.nd
 sc:=I.sc
 K:=I.K
 tk:=I.tk
 calm:=I.calm
 un:=I.un
 blt:=I.blt
 fnc:=I.fnc
 fn:=I.fn
 gc:=fun k x h c e=>by
  obtain⟨u,v,h1,h2,h3,h4⟩:=I.gc k x h c e
  refine⟨u,v,h1,h2,fun P N=>?_,h4⟩
  exact Rep.mono (L2.Same.refl _) _ _ (fun a xs q=>by
   rcases q with q | ⟨hb,_⟩
   ·exact .inl q
   ·cases hb) (h3 P N)
 mt:=fun m x n h c g e=>by
  obtain⟨h1,h2,h3⟩:=I.mt m x n h c g e
  exact⟨h1,h2,h3⟩
 fs:=fun f x h c k e=>by
  obtain⟨h1,h2,h3,h4⟩:=I.fs f x h c k e
  exact⟨h1,h2,h3,h4⟩
 nw:=fun k x n h g e=>by
  obtain⟨h1⟩:=I.nw k x n h g e
  exact⟨h1⟩
 ck:=I.ck
 xk:=I.xk
 dc:=I.dc
def tHv (C:Ctx) (i n:Nat) (g:List Sl→RE (List ER)) (g':List Cm.D→RE ER):TS:=tAsg (fun σ H Q=>tA C g σ H fun vs H1=>spD C.G n g' vs H1 Q (fun cls d H'=>C.W cls d σ H')) (gName i)
theorem qsi {i f:Nat} {es:Exs} {st:Stmt} (I:XOk T Γ C X none sc) (h:qqZ T sc i f es st=true):∀g,Γ.fn[f]? = some g→∃n,(∀ρ r,evs Γ es ρ=.ok r→r.length=n)∧PS X st (tHv C i n (evs Γ es) g.2):=fun g e=>by
 unfold qqZ at h
 split at h
 case h_2=>cases h
 rename_i x pn y p xs q pos
 simp only[Bool.and_eq_true,decide_eq_true_eq] at h
 obtain⟨⟨⟨⟨⟨⟨h1,h2⟩,h3⟩,h4⟩,h5⟩,h6⟩,h7⟩:=h
 obtain⟨t1,t2⟩:=qlW I h2
 obtain⟨k,a,fd,ps,m,gf,F,hr,hm,hk,dv,dvs,dus,hb,hdv,hdm,hdr,hgf⟩:=I.fn f y xs.length h3 g e
 refine⟨xs.length,fun ρ r er=>qc0 es ρ r xs h6 er,?_⟩
 exact ps_set I.nd (by rw[I.nm];exact h1) t1 (qlu (C:=C) F hr (qcd I.sc h4) hm hk hb hdv hdm hdr hgf I.tk (qdd es I h6 h7) (qdI h5).1 (qe6 h7) (fun z ρ=>qhL h6 z ρ)) rfl t2
def tIn (C:Ctx) (g:List Sl→Out) (u:TS):TS:=fun D σ H=>∃TT fx,tSk (C.hv TT fx) g u D σ H
theorem qsq {i n:Nat} {es:Exs} {g':List Cm.D→RE ER} {rd:List Sl→Out} {cs:Ch} {f:List Sl→Out} {D:Ends} {σ:L2.St} {H:Hp} {u:TS} (hn:∀ρ r,evs Γ es ρ=.ok r→r.length=n)
  (q:tSk C (fun ρ=>(evs Γ es ρ).out fun r=>(g' (r.map ER.d)).out fun er=>match qlH er with
   |some d=>gdO (Nat.blt i ρ.length) ((rd ((qjV 0 ρ).set i (.fxd d i))).hv ρ i d cs f)
   |none=>.bad) u D σ H):tHv C i n (evs Γ es) g' { D with nx:=tIn C rd (tCk C cs (tSk C f u)) D } σ H:=by
 obtain⟨ρ,P,N,S,o⟩:=q
 refine⟨ρ,P,N,S,(o.res S.reg).mono fun r P1 N1 H1 e1 a1 o1 vs rv=>?_⟩
 have S1:=S.adv a1
 refine qoL S1.reg rv (hn _ _ e1) ?_
 cases eg:g' (r.map ER.d) with
 |bad=>rw[eg] at o1;exact o1
 |exc c fs =>
  rw[eg] at o1
  exact fun d P' N' H' ad hx=>o1 σ d P' N' H' (S1.reg.adv ad) hx
 |ok er =>
  rw[eg] at o1
  simp only[RE.out_ok] at o1
  cases ed:qlH er with
  |none=>rw[ed] at o1;exact o1.elim
  |some d =>
   rw[ed] at o1
   simp only[qa2] at o1
   split at o1
   case isFalse=>exact o1.elim
   rename_i hi
   have hi:i<σ.length:=by rw[S.len];exact Nat.blt_eq.mp hi
   refine⟨d,ed,fun v H' P' TT a rvT=>?_⟩
   refine⟨TT,_,_,P',N1,a.into S1 hi rvT,?_⟩
   cases er2:rd ((qjV 0 ρ).set i (.fxd d i)) with
   |bad=>rw[er2] at o1;exact o1.elim
   |brk _=>rw[er2] at o1;exact o1.elim
   |cnt _=>rw[er2] at o1;exact o1.elim
   |exc c fs =>
    rw[er2] at o1
    intro σ2 d2 P2 N2 H2 r2 x2
    refine o1 σ2 d2 P2 N2 H2 (a.regO S1.reg r2) ?_
    rcases x2 with x2 | ⟨dd,f2,v2,h1,h2,h3,h4⟩
    ·exact .inl x2
    ·exact .inr ⟨dd,f2,v2,h1,h2,h3,RepB.dn (C':=C.hv TT fun k=>((σ.set i (some v))[k]?).join) rfl (by simp) h4⟩
   |ret er3 =>
    rw[er2] at o1
    simp only[Out.hv] at o1
    cases en:qlH er3 with
    |none=>rw[en] at o1;exact o1.elim
    |some d3 =>
     rw[en] at o1
     intro v2 P2 N2 H2 r2 x2
     refine o1 v2 P2 N2 H2 (a.regO S1.reg r2) ?_
     cases er3 with
     |brw _ _=>cases en
     |val d4 b4 =>
      simp only[qlH] at en
      split at en
      ·exact RepB.dn (C':=C.hv TT fun k=>((σ.set i (some v))[k]?).join) rfl (by assumption) x2
      ·cases en
     |fre d4 b4 =>
      simp only[qlH] at en
      split at en
      ·obtain⟨p,xs,rfl,h1,h2,h3,h4,h5⟩:=x2
       exact⟨p,xs,rfl,h1,(qiM h2).2,h3,h4,RepsB.dn (C':=C.hv TT fun k=>((σ.set i (some v))[k]?).join) rfl (by assumption) h5⟩
      ·cases en
   |nx ρ2 =>
    rw[er2] at o1
    simp only[Out.hv] at o1
    intro σ2 P2 N2 H2 S2 sp sn
    split at o1
    case h_2=>exact o1.elim
    rename_i d2 k2 e2
    simp only[qa2] at o1
    split at o1
    case isFalse=>exact o1.elim
    rename_i hk
    simp only[Bool.and_eq_true,beq_iff_eq,List.all_eq_true,Nat.blt_eq] at hk
    obtain⟨hk,htg⟩:=hk
    subst hk
    cases ec:chg cs [(k2,d)] ([],0) with
    |none=>rw[ec] at o1;exact o1.elim
    |some Z' =>
     rw[ec] at o1
     simp only at o1
     have R:=a.out S1 hi rvT S2 sp sn e2 cs.tgs
     exact⟨P2,N2,_,TT,_,_,Z',R,fun l hl=>qkV (by rw[qfZ];exact htg l hl) hl,ec,fun σ3 P3 N3 H3 R3 s3 s4=>⟨_,P3,N3,R3.sr,o1.adv ((a1.pp.trans a.pp).trans (sp.trans s3)) (a1.nn.trans (sn.trans s4))⟩⟩
end
end Cm
namespace Cm
open PySem PySem.Spec PyProof.Rows L2
section
variable {G:Glo} {P:Hp} {T:TL}
mutual
theorem qqb {p:Addr} {ys:List V} (hp:T p=some ys):∀(d:D) (v:V) {N:Hp},(∀a xs,T a=some xs→a≠p→N a=some (.lst xs))→noK (clV ys) d=true→Rep G P (LT T) d v→Rep G P (fun a xs=>N a=some (.lst xs)) d v
 |.non,_,_,_,_,h=>h
 |.bl _,_,_,_,_,h=>h
 |.int _,_,_,_,_,h=>h
 |.str _,_,_,_,_,h=>h
 |.lst ds,v,N,hN,hk,⟨a,xs,e,h1,h2⟩=>by
  simp only[noK,Bool.and_eq_true,bne_iff_ne] at hk
  have h1:T a=some xs:=h1
  refine⟨a,xs,e,hN a xs h1 fun z=>hk.1 ?_,qh2 hp ds xs hN hk.2 h2⟩
  subst z
  rw[hp] at h1;cases h1
  exact(qeC h2).symm
 |.tup ds,v,N,hN,hk,⟨a,xs,e,h1,h2⟩=>⟨a,xs,e,h1,qh2 hp ds xs hN hk h2⟩
 |.ins _ _,_,_,_,_,h=>h
 |.exc _ _,_,_,_,_,h=>h
theorem qh2 {p:Addr} {ys:List V} (hp:T p=some ys):∀(ds:List D) (vs:List V) {N:Hp},(∀a xs,T a=some xs→a≠p→N a=some (.lst xs))→qrd (clV ys) ds=true→Reps G P (LT T) ds vs→Reps G P (fun a xs=>N a=some (.lst xs)) ds vs
 |[],_,_,_,_,h=>h
 |d::ds,vs,N,hN,hk,⟨v,r,e,h1,h2⟩=>by
  simp only[qrd,Bool.and_eq_true] at hk
  exact⟨v,r,e,qqb hp d v hN hk.1 h1,qh2 hp ds r hN hk.2 h2⟩
end
end
def NT (T:TL) (p:Addr) (N:Hp):Hp:=fun b=>if b=p then none else match T b with
 |some xs=>some (.lst xs)
 |none=>N b
section
variable {C:Ctx} {P N H P' H':Hp} {T:TL} {p:Addr} {ys:List V}
end
section
variable {T:Tb} {Γ:Env} {C:Ctx} {X:Cx} {sc:Scope}
end
end Cm
namespace Cm
open PySem PySem.Spec PyProof.Rows L2
section
variable {C:Ctx} {X:Cx}
theorem qjM {ss:List Stmt} {g:List Sl→Out} (h:PSs X (ss++[]) (tSk C g tNext)):PSs X ss (tS C g):=by rw[List.append_nil] at h;exact h
theorem qo5 {g g':List Sl→Out} {u:TS} {D:Ends} {σ:L2.St} {H:Hp} (q:tSk C g u D σ H) (e:∀ρ,g ρ=g' ρ):tSk C g' u D σ H:=by
 have:g=g':=funext e
 rw[←this];exact q
theorem qsA {u:TS} {D:Ends} {σ:L2.St} {H:Hp} (q:tSk C (fun ρ=>Out.nx ρ) u D σ H):u D σ H:=by
 obtain⟨ρ,P,N,S,o⟩:=q
 exact o σ P N H S (L2.Same.refl _) (L2.Same.refl _)
theorem qrv {g g':List Sl→Out} {u:TS} {D:Ends} {σ:L2.St} {H:Hp} (q:tSk C (fun ρ=>(g ρ).seq g') u D σ H):tSeq (tS C g) (tSk C g' u) D σ H:=by
 obtain⟨ρ,P,N,S,h⟩:=q
 refine⟨ρ,P,N,S,?_⟩
 show outS C P N { D with nx:=tSk C g' u D } (g ρ)
 cases e:g ρ with
 |nx ρ'=>simp only[e,Out.seq_nx] at h;exact fun σ P' N' H' S e1 e2=>⟨ρ',P',N',S,h.adv e1 e2⟩
 |bad=>simp only[e] at h;exact h
 |brk ρ'=>simp only[e] at h;exact h
 |cnt ρ'=>simp only[e] at h;exact h
 |ret er=>simp only[e] at h;exact h
 |exc c fs=>simp only[e] at h;exact h
theorem qsO {i:Nat} {g:List Sl→Out} {u:TS} {D:Ends} {σ:L2.St} {H:Hp} (q:tSk C (fun ρ=>qc1 ρ i fun ds b=>g (ρ.set i (.val (.lst ds) b))) u D σ H):tSk C g u D σ H:=qqV (D:={ D with nx:=u D }) q
end
theorem qpJ {T:Tb} {Γ:Env} {C:Ctx} {X:Cx} {sc:Scope} (I:XOk T Γ C X none sc):∀(es:Exs) {xs:List Expr},qa7 T es none sc xs=true→xs.all qag=true→PA X xs (tF C (evF Γ es))
 |.nil,xs,h,_=>by
  unfold qa7 at h
  cases xs with
  |nil=>exact qfB qqh fun σ H Q q=>q
  |cons _ _=>cases h
 |.cons e es,xs,h,hs=>by
  unfold qa7 at h
  cases xs with
  |nil=>cases h
  |cons x xs =>
   simp only[Bool.and_eq_true,List.all_cons] at h hs
   have:=qo0 (qad e I h.1).1 (qpJ I es h.2 hs.2) (qac hs.1)
   exact qfB this fun σ H Q q=>by
    obtain⟨ρ,P,N,S,k⟩:=q
    exact⟨ρ,P,N,S,by rw[evF] at k;exact k⟩
structure FrOk (X:Cx):Prop where
 st:X.stack=X.env::X.outer
 fr:X.env.frame=some X.env.locals
 ex:X.ex=[]
mutual
theorem qrT {T:Tb} {Γ:Env} {C:Ctx} {X:Cx} {sc:Scope} (I:XOk T Γ C X none sc) (hp:PassesOwn (model X.prog X.w) X.A X.env X.xe) (hF:FrOk X):∀(ir:Sm) {s:Stmt},qfX T sc ir s=true→PS X s (tS C (run Γ ir))
 |.nev,s,h=>qb5 qmz fun ρ=>by rw[run]
 |.rse k,s,h=>by
  unfold qfX at h
  split at h
  case h_2=>cases h
  simp only[Bool.and_eq_true,decide_eq_true_eq] at h
  obtain⟨⟨h1,h2⟩,h3⟩:=h
  cases q:Γ.xk[k]? with
  |none=>exact qb5 qmz fun ρ=>by rw[run,q]
  |some c=>exact qb5 (qrs I.K I.calm I.tk (qcd I.sc h2) (qdI h3).1 (I.xk k _ h1 c q)) fun ρ=>by rw[run,q]
 |.asg i e,s,h=>by
  unfold qfX at h
  split at h
  case h_2=>cases h
  simp only[Bool.and_eq_true,decide_eq_true_eq] at h
  obtain⟨⟨⟨h1,h2⟩,h3⟩,h4⟩:=h
  exact qb5 (qaj (qmZ I h1 h2 h3 h4) fun D σ H q=>qp3 q) fun ρ=>by rw[run]
 |.own i e,s,h=>by
  unfold qfX at h
  split at h
  case h_2=>cases h
  simp only[Bool.and_eq_true,decide_eq_true_eq] at h
  obtain⟨⟨⟨h1,h2⟩,h3⟩,h4⟩:=h
  exact qb5 (qaj (qmZ I h1 h2 h3 h4) fun D σ H q=>qqg q) fun ρ=>by rw[run]<;>rfl
 |.put i ix e,s,h=>by
  unfold qfX at h
  split at h
  case h_2=>cases h
  simp only[Bool.and_eq_true,decide_eq_true_eq] at h
  obtain⟨⟨⟨⟨⟨h1,h2⟩,h3⟩,h4⟩,h5⟩,h6⟩:=h
  obtain⟨n1,n2⟩:=qdI h3
  refine qb5 (qaj (ps_asg (qad e I h6).1 (pg_sub (pe_var (i:=i) (by rw[I.nm];exact h1) (qdb I.sc h2) n1 n2) (qad ix I h5).1 set_list (qjU h4)) qh7 qfv rfl) fun D σ H q=>qrm q) fun ρ=>by rw[run]<;>rfl
 |.app i e,s,h=>by
  unfold qfX at h
  split at h
  case h_2=>cases h
  simp only[Bool.and_eq_true,decide_eq_true_eq] at h
  obtain⟨⟨⟨⟨⟨⟨h1,h2⟩,h3⟩,rfl⟩,h5⟩,h6⟩,h7⟩:=h
  obtain⟨n1,n2⟩:=qdI h3
  refine qb5 (qaj (ps_expr (pe_bm PySem.F.plainAttrs_list PySem.F.slot_list_append PySem.F.type_list_append mt_append (pe_var (i:=i) (by rw[I.nm];exact h1) (qdb I.sc h2) n1 n2) (pa_cons (qad e I h5).1 pa_nil (qac h6)) rfl (qgr h6) h7 (qac h6) rfl) rfl) fun D σ H q=>qrl q) fun ρ=>by rw[run]
 |.clr i,s,h=>by
  unfold qfX at h
  split at h
  case h_2=>cases h
  simp only[Bool.and_eq_true,decide_eq_true_eq] at h
  obtain⟨⟨⟨⟨h1,h2⟩,h3⟩,rfl⟩,h7⟩:=h
  obtain⟨n1,n2⟩:=qdI h3
  refine qb5 (qaj (ps_expr (pe_bm0 PySem.F.plainAttrs_list PySem.F.slot_list_clear PySem.F.type_list_clear mt_clear (pe_var (i:=i) (by rw[I.nm];exact h1) (qdb I.sc h2) n1 n2) rfl h7) rfl) fun D σ H q=>qqp q) fun ρ=>by rw[run]
 |.expr e,s,h=>by
  unfold qfX at h
  split at h
  case h_2=>cases h
  simp only[Bool.and_eq_true] at h
  exact qb5 (qn9 (qad e I h.1).1 (qiu h.2)) fun ρ=>by rw[run]
 |.ret e,s,h=>by
  unfold qfX at h
  split at h
  case h_2=>cases h
  exact qb5 (qre (qad e I h).1) fun ρ=>by rw[run]
 |.retN,s,h=>by
  unfold qfX at h
  split at h
  case h_2=>cases h
  exact qb5 qox fun ρ=>by rw[run]
 |.pas,s,h=>by
  unfold qfX at h
  split at h
  ·exact qb5 qos fun ρ=>by rw[run]
  ·exact qb5 qqf fun ρ=>by rw[run]
  ·cases h
 |.brk,s,h=>by
  unfold qfX at h
  split at h
  case h_2=>cases h
  exact qb5 qp0 fun ρ=>by rw[run]
 |.cnt,s,h=>by
  unfold qfX at h
  split at h
  case h_2=>cases h
  exact qb5 qqe fun ρ=>by rw[run]
 |.iff c a b,s,h=>by
  unfold qfX at h
  split at h
  case h_2=>cases h
  simp only[Bool.and_eq_true] at h
  exact qb5 (qqF (qhk c I h.1.1) (qjM (qdj I hp hF a h.1.2 pss_nil)) (qjM (qdj I hp hF b h.2 pss_nil))) fun ρ=>by rw[run]
 |.for it tg b,s,h=>by
  unfold qfX at h
  split at h
  case h_2=>cases h
  simp only[Bool.and_eq_true] at h
  obtain⟨⟨⟨h1,h2⟩,h3⟩,h4⟩:=h
  exact qb5 (qaj (ps_for hp I.calm (qnA it I h1) (qhH I h2) (qjM (qdj I hp hF b h3 pss_nil)) (qh8 h4)) fun D σ H q=>qqA q) fun ρ=>by rw[run]<;>rfl
 |.apop i j ix,s,h=>by
  unfold qfX at h
  split at h
  case h_2=>cases h
  simp only[Bool.and_eq_true,decide_eq_true_eq] at h
  obtain⟨⟨⟨⟨⟨⟨⟨⟨⟨⟨⟨h1,h2⟩,h3⟩,rfl⟩,h4⟩,g1⟩,g2⟩,g3⟩,rfl⟩,g4⟩,h5⟩,h6⟩:=h
  obtain⟨n1,n2⟩:=qdI h3
  obtain⟨m1,m2⟩:=qdI g3
  refine qb5 (qaj (ps_expr (pe_bm PySem.F.plainAttrs_list PySem.F.slot_list_append PySem.F.type_list_append mt_append (pe_var (i:=i) (by rw[I.nm];exact h1) (qdb I.sc h2) n1 n2) (pa_cons (pe_bm PySem.F.plainAttrs_list PySem.F.slot_list_pop PySem.F.type_list_pop mt_popAt (pe_var (i:=j) (by rw[I.nm];exact g1) (qdb I.sc g2) m1 m2) (pa_cons (qad ix I h5).1 pa_nil (qac h6)) rfl (qgr h6) g4 (qac h6) rfl) pa_nil rfl) rfl rfl h4 rfl rfl) rfl) fun D σ H q=>qn6 q) fun ρ=>by rw[run]<;>rfl
 |.fset f e,s,h=>by
  unfold qfX at h
  split at h
  case h_2=>cases h
  rename_i x p fn p' v pos
  simp only[Bool.and_eq_true,decide_eq_true_eq] at h
  obtain⟨⟨⟨⟨h1,h2⟩,h3⟩,h4⟩,h5⟩:=h
  obtain⟨n1,n2⟩:=qdI h3
  refine qb5 (qaj (ps_fld (pe_var (i:=0) (by rw[I.nm];exact h1) (qdb I.sc h2) n1 n2) (qad e I h5).1 (by cases v<;>rfl)) fun D σ H q=>qow (fi:=fun c=>Γ.fi c f) (fun c k e=>I.fs f fn h4 c k e) q) fun ρ=>by rw[run]<;>rfl
 |.row i es,s,h=>by
  unfold qfX at h
  split at h
  case h_2=>cases h
  simp only[Bool.and_eq_true,decide_eq_true_eq] at h
  obtain⟨⟨⟨h1,h2⟩,h3⟩,h4⟩:=h
  obtain⟨t1,t2⟩:=qlW I h2
  exact qb5 (qaj (ps_asg (pe_lst (qpJ I es h3 h4)) (pg_name I.nd (by rw[I.nm];exact h1) t1 t2)) fun D σ H q=>qp1 q) fun ρ=>by rw[run]
 |.rapp i k e,s,h=>by
  unfold qfX at h
  split at h
  case h_2=>cases h
  simp only[Bool.and_eq_true,decide_eq_true_eq] at h
  obtain⟨⟨⟨⟨⟨⟨⟨h1,h2⟩,h3⟩,rfl⟩,rfl⟩,h5⟩,h6⟩,h7⟩:=h
  obtain⟨n1,n2⟩:=qdI h3
  exact qb5 (qaj (ps_expr (pe_bm PySem.F.plainAttrs_list PySem.F.slot_list_append PySem.F.type_list_append mt_append (pe_ix ix_seq (pe_var (i:=i) (by rw[I.nm];exact h1) (qdb I.sc h2) n1 n2) pe_int (fun _ _=>rfl)) (pa_cons (qad e I h5).1 pa_nil (qac h6)) rfl (qgr h6) h7 (qac h6) rfl) rfl) fun D σ H q=>qpm q) fun ρ=>by rw[run]
 |.rclr i k,s,h=>by
  unfold qfX at h
  split at h
  case h_2=>cases h
  simp only[Bool.and_eq_true,decide_eq_true_eq] at h
  obtain⟨⟨⟨⟨⟨h1,h2⟩,h3⟩,rfl⟩,rfl⟩,h7⟩:=h
  obtain⟨n1,n2⟩:=qdI h3
  exact qb5 (qaj (ps_expr (pe_bm0 PySem.F.plainAttrs_list PySem.F.slot_list_clear PySem.F.type_list_clear mt_clear (pe_ix ix_seq (pe_var (i:=i) (by rw[I.nm];exact h1) (qdb I.sc h2) n1 n2) pe_int (fun _ _=>rfl)) rfl h7) rfl) fun D σ H q=>qpb q) fun ρ=>by rw[run]
 |.rput z i k ix e,s,h=>by
  unfold qfX at h
  split at h
  case h_2=>cases h
  simp only[Bool.and_eq_true,decide_eq_true_eq] at h
  obtain⟨⟨⟨⟨⟨⟨h1,h2⟩,h3⟩,rfl⟩,h4⟩,h5⟩,h6⟩:=h
  obtain⟨n1,n2⟩:=qdI h3
  exact qb5 (qaj (ps_asg (qad e I h6).1 (pg_sub (pe_ix ix_seq (pe_var (i:=i) (by rw[I.nm];exact h1) (qdb I.sc h2) n1 n2) pe_int (fun _ _=>rfl)) (qad ix I h5).1 set_list (qjU h4)) qh7 qfv rfl) fun D σ H q=>qom q) fun ρ=>by rw[run]<;>rfl
 |.tapp o e,s,h=>by
  unfold qfX at h
  split at h
  case h_2=>cases h
  simp only[Bool.and_eq_true,decide_eq_true_eq] at h
  obtain⟨⟨⟨⟨⟨rfl,ho⟩,h5⟩,h6⟩,hb⟩,h7⟩:=h
  refine qb5 (qaj (ps_expr (pe_bm PySem.F.plainAttrs_list PySem.F.slot_list_append PySem.F.type_list_append mt_append (qad o I ho).1 (pa_cons (qad e I h5).1 pa_nil (qac h6)) (qeN hb) (qgr h6) h7 (qac h6) rfl) rfl) fun D σ H q=>qoD q) fun ρ=>by rw[run]<;>rfl
 |.tclr o,s,h=>by
  unfold qfX at h
  split at h
  case h_2=>cases h
  simp only[Bool.and_eq_true,decide_eq_true_eq] at h
  obtain⟨⟨⟨rfl,ho⟩,hb⟩,h7⟩:=h
  refine qb5 (qaj (ps_expr (pe_bm0 PySem.F.plainAttrs_list PySem.F.slot_list_clear PySem.F.type_list_clear mt_clear (qad o I ho).1 (qeN hb) h7) rfl) fun D σ H q=>qoC q) fun ρ=>by rw[run]<;>rfl
 |.whl c b,s,h=>by
  unfold qfX at h
  split at h
  case h_2=>cases h
  simp only[Bool.and_eq_true] at h
  exact qb5 (qaj (ps_while hp (qhk c I h.1) (qjM (qdj I hp hF b h.2 pss_nil))) fun D σ H q=>qqs q) fun ρ=>by rw[run]
theorem qdj {T:Tb} {Γ:Env} {C:Ctx} {X:Cx} {sc:Scope} (I:XOk T Γ C X none sc) (hp:PassesOwn (model X.prog X.w) X.A X.env X.xe) (hF:FrOk X):∀(ir:Sms) {ss rest:List Stmt} {u:TS},qah T sc ir ss=true→PSs X rest u→PSs X (ss++rest) (tSk C (qam Γ ir) u)
 |.nil,ss,rest,u,h,hr=>by
  unfold qah at h
  cases ss with
  |nil=>exact qbq hr fun D σ H q=>qsA (qo5 q fun ρ=>by rw[qam])
  |cons _ _=>cases h
 |.cons s ir,ss,rest,u,h,hr=>by
  unfold qah at h
  cases ss with
  |nil=>cases h
  |cons st ss =>
   simp only[Bool.and_eq_true] at h
   refine qbq (pss_cons (qrT I hp hF s h.1) (qdj I hp hF ir h.2 hr)) fun D σ H q=>qrv (qo5 q fun ρ=>by rw[qam])
 |.frz i ir,ss,rest,u,h,hr=>by
  unfold qah at h
  refine qbq (qdj I hp hF ir h hr) fun D σ H q=>qsO (i:=i) (qo5 q fun ρ=>by rw[qam])
 |.hav i f es rd cs ir,ss,rest,u,h,hr=>by
  unfold qah at h
  cases ss with
  |nil=>cases h
  |cons st ss =>
   simp only[Bool.and_eq_true] at h
   obtain⟨⟨⟨h1,h2⟩,h3⟩,h4⟩:=h
   cases e:Γ.fn[f]? with
   |none =>
    refine qbq pss_never fun D σ H q=>?_
    obtain⟨ρ,P,N,S,o⟩:=q
    rw[qam,e] at o
    exact o.elim
   |some g =>
    obtain⟨n,hn,hs⟩:=qsi I h1 g e
    have in_:PSs X (ss++rest) (tIn C (qam Γ rd) (tCk C cs (tSk C (qam Γ ir) u))):=by
     have e1:ss++rest=ss.take rd.len++((ss.drop rd.len).take cs.len++((ss.drop rd.len).drop cs.len++rest)):=by
      rw[←List.append_assoc ((ss.drop rd.len).take cs.len),List.take_append_drop,←List.append_assoc,List.take_append_drop]
     rw[e1]
     have k:=qgj (C:=C) I hp cs h3 (qdj I hp hF ir h4 hr)
     exact⟨fun pins s σ H D I' q=>by
      obtain⟨TT,fx,q⟩:=q
      exact(qdj (I.hv (TT:=TT) (fx:=fx)) hp hF rd h2 k).run pins s σ H D I' q⟩
    refine qbq (pss_cons hs in_) fun D σ H q=>qsq hn (qo5 q fun ρ=>by rw[qam,e]<;>rfl)
end
theorem qmb {T:Tb} {Γ:Env} {C:Ctx} {X:Cx} {sc:Scope} (I:XOk T Γ C X none sc) (hp:PassesOwn (model X.prog X.w) X.A X.env X.xe) (hF:FrOk X) (ir:Sms) {ss:List Stmt} (h:qah T sc ir ss=true):PSs X ss (tS C (qam Γ ir)):=qjM (qdj I hp hF ir h pss_nil)
end Cm
namespace Cm
open PySem PySem.Spec PyProof.Rows L2
structure TabOk (P:Program) (w:World) (K:PySem.W.Frag) (mg:Str→Option Value) (base:Heap) (T:Tb) (Γ:Env) (G:Glo) (k:Nat):Prop where
 blt:∀x∈bltNames,mg x=none
 fn:∀(f:Nat) (x:Str) (n:Nat),T.fn[f]? = some (x,n)→∀g,Γ.fn[f]? = some g→∃(j:Nat) (a:Addr) (fd:FuncData) (ps:List Str) (m:Nat) (gf:List D→RE ER),j≤k∧FnOk P w K mg base (L2.CX P w) j a fd ps (spD G (n+m) gf)∧mg x=some (.ref a)∧PySem.W.keepIn K (.ref a)=true∧Part K G fd ps n m g.2 gf
 gc:∀(i:Nat) (x:Str),T.gc[i]? = some x→∀c,Γ.gc[i]? = some c→∃u v,mg x=some u∧RelV v u∧(∀(P N R:Hp),Rep G P (LNb G.K P N R true) c.2 v)∧WrT G v
 mt:∀(m:Nat) (x:Str) (n:Nat),T.mn[m]? = some (x,n)→∀c g,Γ.mt c m=some g→Cls K (G.ca c)∧x∉G.fl c∧∃(j:Nat) (a:Addr) (fd:FuncData) (ps:List Str),j≤k∧Meth K (G.ca c) x a∧FnOk P w K mg base (L2.CX P w) j a fd ps (spD G (n+1) g)∧Binds K fd ps []
 fs:∀(f:Nat) (x:Str),T.fs[f]? = some x→∀c i,Γ.fi c f=some i→Cls K (G.ca c)∧NoAttr K (G.ca c) x∧(G.fl c)[i]? = some x∧(G.fl c).Nodup
 nw:∀(i:Nat) (x:Str) (n:Nat),T.nw[i]? = some (x,n)→∀g,Γ.nw[i]? = some g→(∃(j:Nat) (a:Addr) (fd:FuncData) (ps:List Str),j+1≤k∧Mk K (G.ca g.1) a∧FnOk P w K mg base (L2.CX P w) j a fd ps (spI G g.1 n g.2)∧mg x=some (.ref (G.ca g.1))∧Binds K fd ps []) ∨
  (n=0∧g.2 []=.ok []∧Mk0 K (G.ca g.1)∧G.fl g.1=[]∧mg x=some (.ref (G.ca g.1)))
 ck:∀(i:Nat) (x:Str) (own:Bool),T.ck[i]? = some (x,own)→CkOk G K mg x own Γ.ck[i]? Γ.ik[i]?
 xk:∀(i:Nat) (x:Str),T.xk[i]? = some x→∀c,Γ.xk[i]? = some c→RsOk K mg (G.ca c) x
 dc:∀(i:Nat) (x:Str),T.dc[i]? = some x→∀t,Γ.dc[i]? = some t→qs9 G K w mg x t.2
theorem qkT {G:Glo} {P N R:Hp}:∀{ds:List D} {vs:List V},Reps G P (SqL G.K R) ds vs→Reps G P (LNb G.K P N R false) ds vs:=fun {ds vs} h=>Reps.mono (L2.Same.refl _) ds vs LNb.ofR h
theorem qoU {C:Ctx} {ds:List D} {vs:List V} {N:List Str} {m:Nat} (hp:Same C.P0 C.B) (hr:Same C.R C.B) (h:Reps C.G C.P0 (SqL C.G.K C.R) ds vs) (hm:N.length=ds.length+m) :
  SR C C.P0 (fun _=>none) C.B (ds.map (fun d=>Sl.val d d.flat)++List.replicate m .non) (L2.start N vs) where
 reg:=⟨hp,fun _ _ e=>(nomatch e),L2.Same.refl _,hr,L2.Same.refl _,fun _ e=>.inl e,fun _ e=>absurd rfl e,fun _ e=>absurd rfl e⟩
 len:=by
  have:=h.length
  simp only[L2.start,List.length_append,List.length_map,List.length_replicate]
  try omega
 sl:=fun i s e=>by
  have hl:=h.length
  by_cases hi:i<ds.length
  ·rw[List.getElem?_append_left (by simpa using hi),List.getElem?_map,List.getElem?_eq_getElem hi] at e
   cases e
   obtain⟨v,q1,q2⟩:=(qkT (N:=fun _=>none) h).get (List.getElem?_eq_getElem hi)
   refine⟨some v,?_,v,rfl,RepB.nf (C:=C) q2⟩
   unfold L2.start
   rw[List.getElem?_append_left (by simp;omega),List.getElem?_map,q1]
   rfl
  ·rw[List.getElem?_append_right (by simpa using hi),List.getElem?_replicate] at e
   split at e
   ·rename_i hm'
    cases e
    refine⟨none,?_,trivial⟩
    unfold L2.start
    simp only[List.length_map] at hm'
    rw[List.getElem?_append_right (by simp;omega),List.getElem?_replicate,if_pos]
    simp only[List.length_map]
    omega
   ·cases e
 ap:=fun i j p es b es' c e1 _ _ _=>by
  exfalso
  have:=List.mem_of_getElem? e1
  rcases List.mem_append.mp this with z | z
  ·obtain⟨_,_,z⟩:=List.mem_map.mp z;cases z
  ·have:=List.eq_of_mem_replicate z;cases this
 ad:=AD.no fun i s e=>by
  rcases List.mem_append.mp (List.mem_of_getElem? e) with z | z
  ·obtain⟨_,_,rfl⟩:=List.mem_map.mp z;rfl
  ·rw[List.eq_of_mem_replicate z];rfl
 ar:=AR.no fun i s e=>by
  rcases List.mem_append.mp (List.mem_of_getElem? e) with z | z
  ·obtain⟨_,_,rfl⟩:=List.mem_map.mp z;rfl
  ·rw[List.eq_of_mem_replicate z];rfl
theorem qqc {P:Program} {w:World} {K:PySem.W.Frag} {mg:Str→Option Value} {base:Heap} {x qual:Str} {params:Arguments} {body:List Stmt} {scope:Scope} {dvs:List V} {kws:List (Str × V)} {f:Addr} {fd:FuncData} {T:Tb} {Γ:Env} {G:Glo} {k m:Nat} {ps:List Str} {ir:Sms}
  (F:FunD K x qual params body scope dvs kws f fd) (S:FnScope T.N ps scope) (hG:G.K=K) (tab:TabOk P w K mg base T Γ G k) (hm:T.N.length=ps.length+m) (hc:qah T scope ir body=true) :
  FnOk P w K mg base (L2.CX P w) (k+1) f fd ps (spD G ps.length (qck Γ ps.length m ir)):=by
 refine F.ok S (fun vs H Q E h=>qrb h) (fun cdv A outer s H vs Q E hr h=>?_)
 obtain⟨Pr,R,ds,h1,h2,h3,h4,h5⟩:=h
 let C:Ctx:=⟨G,R,H,Pr,fun cls d _ H'=>E cls d H',0,fun _=>none⟩
 have I:XOk T Γ C (cxOf (L2.CX P w) P w K mg base T.N qual scope f cdv A outer s H E) none scope:={
  nm:=rfl
  nd:=S.nd
  sc:=rfl
  K:=hG.symm
  tk:=takes_of rfl rfl rfl rfl
  calm:=rfl
  un:=by
   have h:=hr.un
   have e:(cxOf (L2.CX P w) P w K mg base T.N qual scope f cdv A outer s H E).A=A.deeper (envOfC qual scope s.heap.objs.size f cdv):=rfl
   rw[e]
   omega
  blt:=tab.blt
  fnc:=rfl
  fn:=fun i y n e g eg=>by
   obtain⟨j,a,fd',ps',m',gf,hj,q1,q2,q3,q4⟩:=tab.fn i y n e g eg
   exact⟨j,a,fd',ps',m',gf,q1,hr.mono hj,q2,q3,q4⟩
  gc:=fun i y e c ec=>by
   obtain⟨u,v,q1,q2,q3,q4⟩:=tab.gc i y e c ec
   exact⟨u,v,q1,q2,fun P N=>q3 P N R,q4⟩
  mt:=fun i y n e c g eg=>by
   obtain⟨q0,q1,j,a,fd',ps',hj,q2,q3,q4⟩:=tab.mt i y n e c g eg
   exact⟨q0,q1,j,a,fd',ps',q2,q3,hr.mono hj,q4⟩
  fs:=fun i y e c j ej=>by
   obtain⟨q0,q1,q2,q3⟩:=tab.fs i y e c j ej
   exact⟨q0,q1,q2,q3⟩
  nw:=fun i y n e g eg=>by
   rcases tab.nw i y n e g eg with⟨j,a,fd',ps',hj,q1,q2,q3,q4⟩ | q
   ·exact⟨.inl ⟨j,a,fd',ps',q1,q2,hr.mono hj,q3,q4⟩⟩
   ·exact⟨.inr q⟩
  ck:=tab.ck
  xk:=tab.xk
  dc:=tab.dc }
 have hp:PassesOwn (model (cxOf (L2.CX P w) P w K mg base T.N qual scope f cdv A outer s H E).prog (cxOf (L2.CX P w) P w K mg base T.N qual scope f cdv A outer s H E).w) (cxOf (L2.CX P w) P w K mg base T.N qual scope f cdv A outer s H E).A (cxOf (L2.CX P w) P w K mg base T.N qual scope f cdv A outer s H E).env (cxOf (L2.CX P w) P w K mg base T.N qual scope f cdv A outer s H E).xe:=
  passes_of (K:=fun e s''=>L2.CX P w outer H s E e s'') rfl
 refine⟨tS C (qam Γ ir),qmb I hp ⟨rfl,rfl,rfl⟩ ir hc,ds.map (fun d=>Sl.val d d.flat)++List.replicate m .non,Pr,fun _=>none,qoU (C:=C) h1 h2 h3 (by rw[hm,h4]),?_⟩
 unfold qck at h5
 rw[if_pos h4] at h5
 have adv:∀{P' N' H':Hp},Reg C P' N' H'→Adv Pr (fun _=>none) H P' N' H':=fun {P' N' H'} r=>⟨r.bH,r.p0,fun _ _ e=>(nomatch e),r.pH,r.nH,r.pn,fun a q=>.inr (r.nw a q),fun a q q2=>absurd (r.dj a q) q2⟩
 cases e:qam Γ ir (ds.map (fun d=>Sl.val d d.flat)++List.replicate m .non) with
 |bad=>rw[e] at h5;exact h5.elim
 |brk ρ=>rw[e] at h5;exact h5.elim
 |cnt ρ=>rw[e] at h5;exact h5.elim
 |nx ρ=>rw[e] at h5;exact fun σ P' N' H' S' _ _=>h5 .non H' P' N' (adv S'.reg) rfl
 |ret er =>
  rw[e] at h5
  intro v P' N' H' r q
  exact h5 v H' P' N' (adv r) (by cases er<;>exact q)
 |exc c fs =>
  rw[e] at h5
  intro σ d P' N' H' r q
  exact h5 d H' P' N' (adv r) q
theorem qsG {C:Ctx} {P N P2:Hp} (hp:Same P P2) (hn:Same N P2) {ds:List D} {vs:List V} (h:RepsB C P N true ds vs):Reps C.G P2 (SqL C.G.K P2) ds vs:=Reps.mono hp ds vs (fun a xs q=>by
 rcases q with q | ⟨z,_⟩
 ·exact .inl (.inl (hn _ _ q))
 ·cases z) h
theorem qtD {P:Program} {w:World} {K:PySem.W.Frag} {mg:Str→Option Value} {base:Heap} {x qual:Str} {params:Arguments} {body:List Stmt} {scope:Scope} {dvs:List V} {kws:List (Str × V)} {f:Addr} {fd:FuncData} {T:Tb} {Γ:Env} {G:Glo} {k m n c nf:Nat} {ps:List Str} {ir:Sms}
  (F:FunD K x qual params body scope dvs kws f fd) (S:FnScope T.N ps scope) (hG:G.K=K) (tab:TabOk P w K mg base T Γ G k) (hm:T.N.length=ps.length+m) (hn:ps.length=n+1) (hc:qah T scope ir body=true) (hf:(G.fl c).length=nf) :
  FnOk P w K mg base (L2.CX P w) (k+1) f fd ps (spI G c n (qln Γ c nf n m ir)):=by
 refine F.ok S (fun vs H Q E h=>by rw[qqa h,hn]) (fun cdv A outer s H vs Q E hr h=>?_)
 obtain⟨x0,dx,H0,Pr,R,ds,us,rfl,rfl,hx,hdx,h1,h2,h3,h4,h5⟩:=h
 let C:Ctx:=⟨G,R,H0,Pr,fun cls d _ H'=>E cls d H',x0,fun _=>none⟩
 generalize eH:upd (upd H0 dx (.own x0)) x0 (.ins (G.ca c) dx [])=H at hr ⊢
 have H0x:Same H0 H:=fun a o e=>by
  rw[←eH,upd_ne (ne_of_none e hx),upd_ne (ne_of_none e hdx)]
  exact e
 have Hx:H x0=some (.ins (C.G.ca c) dx []):=by rw[←eH];exact upd_same
 have I:XOk T Γ C (cxOf (L2.CX P w) P w K mg base T.N qual scope f cdv A outer s H E) none scope:={
  nm:=rfl
  nd:=S.nd
  sc:=rfl
  K:=hG.symm
  tk:=takes_of rfl rfl rfl rfl
  calm:=rfl
  un:=by
   have h:=hr.un
   have e:(cxOf (L2.CX P w) P w K mg base T.N qual scope f cdv A outer s H E).A=A.deeper (envOfC qual scope s.heap.objs.size f cdv):=rfl
   rw[e]
   omega
  blt:=tab.blt
  fnc:=rfl
  fn:=fun i y n e g eg=>by
   obtain⟨j,a,fd',ps',m',gf,hj,q1,q2,q3,q4⟩:=tab.fn i y n e g eg
   exact⟨j,a,fd',ps',m',gf,q1,hr.mono hj,q2,q3,q4⟩
  gc:=fun i y e c ec=>by
   obtain⟨u,v,q1,q2,q3,q4⟩:=tab.gc i y e c ec
   exact⟨u,v,q1,q2,fun P N=>q3 P N R,q4⟩
  mt:=fun i y n e c g eg=>by
   obtain⟨q0,q1,j,a,fd',ps',hj,q2,q3,q4⟩:=tab.mt i y n e c g eg
   exact⟨q0,q1,j,a,fd',ps',q2,q3,hr.mono hj,q4⟩
  fs:=fun i y e c j ej=>by
   obtain⟨q0,q1,q2,q3⟩:=tab.fs i y e c j ej
   exact⟨q0,q1,q2,q3⟩
  nw:=fun i y n e g eg=>by
   rcases tab.nw i y n e g eg with⟨j,a,fd',ps',hj,q1,q2,q3,q4⟩ | q
   ·exact⟨.inl ⟨j,a,fd',ps',q1,q2,hr.mono hj,q3,q4⟩⟩
   ·exact⟨.inr q⟩
  ck:=tab.ck
  xk:=tab.xk
  dc:=tab.dc }
 have hp:PassesOwn (model (cxOf (L2.CX P w) P w K mg base T.N qual scope f cdv A outer s H E).prog (cxOf (L2.CX P w) P w K mg base T.N qual scope f cdv A outer s H E).w) (cxOf (L2.CX P w) P w K mg base T.N qual scope f cdv A outer s H E).A (cxOf (L2.CX P w) P w K mg base T.N qual scope f cdv A outer s H E).env (cxOf (L2.CX P w) P w K mg base T.N qual scope f cdv A outer s H E).xe:=
  passes_of (K:=fun e s''=>L2.CX P w outer H s E e s'') rfl
 have hl:=h3.length
 have st0:SR C Pr (fun _=>none) H (.slf c []::(ds.map (fun d=>Sl.val d d.flat)++List.replicate m .non)) (L2.start T.N (.ref x0::us)):=by
  refine⟨⟨h1.trans H0x,fun _ _ e=>(nomatch e),H0x,h2,L2.Same.refl _,fun _ e=>.inl e,fun _ e=>absurd rfl e,fun _ e=>absurd rfl e⟩,?_,fun i s e=>?_,fun i j p es b es' c' e1 _ _ _=>?_,AD.no fun i s e=>by
   cases i with
   |zero=>simp at e;subst e;rfl
   |succ i =>
    rcases List.mem_append.mp (List.mem_of_getElem? (show(ds.map (fun d=>Sl.val d d.flat)++List.replicate m .non)[i]? = some s by simpa using e)) with z | z
    ·obtain⟨_,_,rfl⟩:=List.mem_map.mp z;rfl
    ·rw[List.eq_of_mem_replicate z];rfl,AR.no fun i s e=>by
   cases i with
   |zero=>simp at e;subst e;rfl
   |succ i =>
    rcases List.mem_append.mp (List.mem_of_getElem? (show(ds.map (fun d=>Sl.val d d.flat)++List.replicate m .non)[i]? = some s by simpa using e)) with z | z
    ·obtain⟨_,_,rfl⟩:=List.mem_map.mp z;rfl
    ·rw[List.eq_of_mem_replicate z];rfl⟩
  ·simp only[L2.start,List.length_append,List.length_map,List.length_replicate,List.length_cons]
   omega
  ·cases i with
   |zero =>
    simp at e
    subst e
    exact⟨_,by simp[L2.start],x0,dx,[],⟨rfl,rfl⟩,by rw[Hx];simp,h1.free hx,rfl,hx,Nat.zero_le _,rfl⟩
   |succ i =>
    have e:(ds.map (fun d=>Sl.val d d.flat)++List.replicate m .non)[i]? = some s:=by simpa using e
    by_cases hi:i<ds.length
    ·rw[List.getElem?_append_left (by simpa using hi),List.getElem?_map,List.getElem?_eq_getElem hi] at e
     cases e
     obtain⟨v,q1,q2⟩:=(qkT (N:=fun _=>none) h3).get (List.getElem?_eq_getElem hi)
     refine⟨some v,?_,v,rfl,RepB.nf (C:=C) q2⟩
     unfold L2.start
     rw[List.getElem?_append_left (by simp;omega),List.getElem?_map,List.getElem?_cons_succ,q1]
     rfl
    ·rw[List.getElem?_append_right (by simpa using hi),List.getElem?_replicate] at e
     split at e
     ·rename_i hm'
      cases e
      refine⟨none,?_,trivial⟩
      unfold L2.start
      simp only[List.length_map] at hm'
      rw[List.getElem?_append_right (by simp;omega),List.getElem?_replicate,if_pos]
      simp only[List.length_map,List.length_cons]
      omega
     ·cases e
  ·exfalso
   cases i with
   |zero=>simp at e1
   |succ i =>
    have:=List.mem_of_getElem? (show(ds.map (fun d=>Sl.val d d.flat)++List.replicate m .non)[i]? = some (.own es b) by simpa using e1)
    rcases List.mem_append.mp this with z | z
    ·obtain⟨_,_,z⟩:=List.mem_map.mp z;cases z
    ·have:=List.eq_of_mem_replicate z;cases this
 refine⟨tS C (qam Γ ir),qmb I hp ⟨rfl,rfl,rfl⟩ ir hc,_,Pr,fun _=>none,st0,?_⟩
 unfold qln at h5
 rw[if_pos h4] at h5
 cases e:qam Γ ir (.slf c []::(ds.map (fun d=>Sl.val d d.flat)++List.replicate m .non)) with
 |bad=>rw[e] at h5;exact h5.elim
 |brk ρ=>rw[e] at h5;exact h5.elim
 |cnt ρ=>rw[e] at h5;exact h5.elim
 |ret er=>rw[e] at h5;exact h5.elim
 |exc c fs =>
  rw[e] at h5
  intro σ d P' N' H' r q
  exact h5 d H' P' N' ⟨r.bH,r.p0,fun _ _ e=>(nomatch e),r.pH,r.nH,r.pn,fun a q=>.inr (r.nw a q),fun a q q2=>absurd (r.dj a q) q2⟩ q
 |nx ρ =>
  rw[e] at h5
  intro σ P' N' H' S' e1 e2
  cases ρ with
  |nil=>exact h5.elim
  |cons s0 r =>
   cases s0 with
   |non=>exact h5.elim
   |val _ _=>exact h5.elim
   |own _ _=>exact h5.elim
   |fxd _ _=>exact h5.elim
   |dct _ _=>exact h5.elim
   |row _=>exact h5.elim
   |slf c' fs =>
    simp only at h5
    by_cases hc':c'=c
    ·rw[if_pos hc'] at h5
     by_cases hfs:fs.length=nf
     ·rw[if_pos hfs] at h5
      subst hc'
      obtain⟨o,z1,p,dx',xs,⟨ep,rfl⟩,z2,z3,z4,z5,z6,z7⟩:=S'.sl 0 _ rfl
      have ep:p=x0:=ep
      subst ep
      have rg:=S'.reg
      have z3':un2 P' N' H' p=none:=by
       unfold un2
       rw[if_neg]
       rintro(z | z)
       ·exact z z3
       ·exact z z4
      refine h5 H' (upd (un2 P' N' H') p (.ins (G.ca c') dx' ((G.fl c').zip xs))) rg.bH ((rg.p0.trans (qoN rg.pH)).trans (qaI z3')) (qkd qr0 z2) (fun a ha=>?_) ⟨p,dx',xs,rfl,upd_same,by rw[hfs,hf],qsG (C:=C) ((qoN rg.pH).trans (qaI z3')) ((qlQ rg.nH).trans (qaI z3')) z7⟩
      by_cases q:a=p
      ·rw[q];exact .inr hx
      ·rw[upd_ne q] at ha
       unfold un2 at ha
       split at ha
       ·rename_i z
        rcases z with z | z
        ·exact rg.pn a z
        ·exact .inr (rg.nw a z)
       ·exact absurd rfl ha
     ·rw[if_neg hfs] at h5;exact h5.elim
    ·rw[if_neg hc'] at h5;exact h5.elim
end Cm
namespace Cm
open PySem PySem.Spec PyProof.Rows L2 PySem.W
structure DefAt (P:Program) (w:World) (K:PySem.W.Frag) (mg:Str→Option Value) (base:Heap) (G:Glo) (k:Nat) (x:Str) (n:Nat) (g:List D→RE ER):Prop where
 ex:∃(j:Nat) (a:Addr) (fd:FuncData) (ps:List Str) (m:Nat) (gf:List D→RE ER),j≤k∧FnOk P w K mg base (L2.CX P w) j a fd ps (spD G (n+m) gf)∧mg x=some (.ref a)∧PySem.W.keepIn K (.ref a)=true∧Part K G fd ps n m g gf
theorem DefAt.mono {P:Program} {w:World} {K:PySem.W.Frag} {mg:Str→Option Value} {base:Heap} {G:Glo} {k k':Nat} {x:Str} {n:Nat} {g:List D→RE ER} (h:DefAt P w K mg base G k x n g) (e:k≤k'):DefAt P w K mg base G k' x n g:=by
 obtain⟨⟨j,a,fd,ps,m,gf,q,r⟩⟩:=h
 exact⟨⟨j,a,fd,ps,m,gf,Nat.le_trans q e,r⟩⟩
def FnsOk (P:Program) (w:World) (K:PySem.W.Frag) (mg:Str→Option Value) (base:Heap) (G:Glo) (k:Nat):List (Str × Nat)→List (Str × (List D→RE ER))→Prop
 |t::ts,g::gs=>DefAt P w K mg base G k t.1 t.2 g.2∧FnsOk P w K mg base G k ts gs
 |_,_=>True
theorem FnsOk.get {P:Program} {w:World} {K:PySem.W.Frag} {mg:Str→Option Value} {base:Heap} {G:Glo} {k:Nat}:∀{ts:List (Str × Nat)} {gs:List (Str × (List D→RE ER))},FnsOk P w K mg base G k ts gs →
  ∀(f:Nat) (x:Str) (n:Nat),ts[f]? = some (x,n)→∀g,gs[f]? = some g→∃(j:Nat) (a:Addr) (fd:FuncData) (ps:List Str) (m:Nat) (gf:List D→RE ER),j≤k∧FnOk P w K mg base (L2.CX P w) j a fd ps (spD G (n+m) gf)∧mg x=some (.ref a)∧PySem.W.keepIn K (.ref a)=true∧Part K G fd ps n m g.2 gf
 |[],_,_,f,x,n,e,_,_=>by simp at e
 |_::_,[],_,f,x,n,_,g,e=>by simp at e
 |t::ts,g::gs,⟨h,hs⟩,0,x,n,e,g',e'=>by
  simp at e e'
  subst e e'
  exact h.ex
 |t::ts,g::gs,⟨h,hs⟩,f+1,x,n,e,g',e'=>FnsOk.get hs f x n (by simpa using e) g' (by simpa using e')
theorem qsX {fa:List He.Fa} {fn:List He.DefD} {K:PySem.W.Frag} {h:Heap} {mg:Str→Option Value} (c:He.SaysD (bltNames.map He.Fa.free++fa) fn K) (X:K.In h) (N:h.Ns mainGlobals mg):∀x∈bltNames,mg x=none:=fun x hx=>by
 have hm:He.Fa.free x∈bltNames.map He.Fa.free++fa:=List.mem_append_left _ (List.mem_map_of_mem hx)
 obtain⟨i,hi⟩:=List.getElem?_of_mem hm
 exact He.free_ok X N (c.fact i hi)
structure MthAt (P:Program) (w:World) (K:PySem.W.Frag) (mg:Str→Option Value) (base:Heap) (G:Glo) (k:Nat) (c:Nat) (x:Str) (n:Nat) (g:List D→RE ER):Prop where
 ex:Cls K (G.ca c)∧x∉G.fl c∧∃(j:Nat) (a:Addr) (fd:FuncData) (ps:List Str),j≤k∧Meth K (G.ca c) x a∧FnOk P w K mg base (L2.CX P w) j a fd ps (spD G (n+1) g)∧Binds K fd ps []
theorem MthAt.mono {P:Program} {w:World} {K:PySem.W.Frag} {mg:Str→Option Value} {base:Heap} {G:Glo} {k k' c:Nat} {x:Str} {n:Nat} {g:List D→RE ER} (h:MthAt P w K mg base G k c x n g) (e:k≤k'):MthAt P w K mg base G k' c x n g:=by
 obtain⟨h1,h2,j,a,fd,ps,q,r⟩:=h
 exact⟨h1,h2,j,a,fd,ps,Nat.le_trans q e,r⟩
def MtsOk (P:Program) (w:World) (K:PySem.W.Frag) (mg:Str→Option Value) (base:Heap) (G:Glo) (k:Nat) (mn:List (Str × Nat)):List (Nat × Nat × (List D→RE ER))→Prop
 |[]=>True
 |t::ts=>(∀x n,mn[t.2.1]? = some (x,n)→MthAt P w K mg base G k t.1 x n t.2.2)∧MtsOk P w K mg base G k mn ts
theorem MtsOk.get {P:Program} {w:World} {K:PySem.W.Frag} {mg:Str→Option Value} {base:Heap} {G:Glo} {k:Nat} {mn:List (Str × Nat)}:∀{ts:List (Nat × Nat × (List D→RE ER))},MtsOk P w K mg base G k mn ts →
  ∀(m:Nat) (x:Str) (n:Nat),mn[m]? = some (x,n)→∀c g,qay ts c m=some g→MthAt P w K mg base G k c x n g
 |[],_,m,x,n,_,c,g,e=>by cases e
 |t::ts,⟨h,hs⟩,m,x,n,e,c,g,e'=>by
  unfold qay at e'
  split at e'
  ·rename_i h1
   split at e'
   ·rename_i h2
    subst h1 h2
    cases e'
    exact h x n e
   ·exact MtsOk.get hs m x n e c g e'
  ·exact MtsOk.get hs m x n e c g e'
def qth (K:PySem.W.Frag) (G:Glo) (c i:Nat) (x:Str):Prop:=Cls K (G.ca c)∧NoAttr K (G.ca c) x∧(G.fl c)[i]? = some x∧(G.fl c).Nodup
def FdsOk (K:PySem.W.Frag) (G:Glo) (fs:List Str):List (Nat × Nat × Nat)→Prop
 |[]=>True
 |t::ts=>(∀x,fs[t.2.1]? = some x→qth K G t.1 t.2.2 x)∧FdsOk K G fs ts
theorem FdsOk.get {K:PySem.W.Frag} {G:Glo} {fs:List Str}:∀{ts:List (Nat × Nat × Nat)},FdsOk K G fs ts→∀(f:Nat) (x:Str),fs[f]? = some x→∀c i,qax ts c f=some i→qth K G c i x
 |[],_,f,x,_,c,i,e=>by cases e
 |t::ts,⟨h,hs⟩,f,x,e,c,i,e'=>by
  unfold qax at e'
  split at e'
  ·rename_i h1
   split at e'
   ·rename_i h2
    subst h1 h2
    cases e'
    exact h x e
   ·exact FdsOk.get hs f x e c i e'
  ·exact FdsOk.get hs f x e c i e'
structure NwAt (P:Program) (w:World) (K:PySem.W.Frag) (mg:Str→Option Value) (base:Heap) (G:Glo) (k:Nat) (x:Str) (n:Nat) (c:Nat) (g:List D→RE (List D)):Prop where
 ex:(∃(j:Nat) (a:Addr) (fd:FuncData) (ps:List Str),j+1≤k∧Mk K (G.ca c) a∧FnOk P w K mg base (L2.CX P w) j a fd ps (spI G c n g)∧mg x=some (.ref (G.ca c))∧Binds K fd ps []) ∨
  (n=0∧g []=.ok []∧Mk0 K (G.ca c)∧G.fl c=[]∧mg x=some (.ref (G.ca c)))
theorem NwAt.mono {P:Program} {w:World} {K:PySem.W.Frag} {mg:Str→Option Value} {base:Heap} {G:Glo} {k k':Nat} {x:Str} {n c:Nat} {g:List D→RE (List D)} (h:NwAt P w K mg base G k x n c g) (e:k≤k'):NwAt P w K mg base G k' x n c g:=by
 rcases h.ex with⟨j,a,fd,ps,q,r⟩ | q
 ·exact⟨.inl ⟨j,a,fd,ps,Nat.le_trans q e,r⟩⟩
 ·exact⟨.inr q⟩
def NwsOk (P:Program) (w:World) (K:PySem.W.Frag) (mg:Str→Option Value) (base:Heap) (G:Glo) (k:Nat):List (Str × Nat)→List (Nat × (List D→RE (List D)))→Prop
 |t::ts,g::gs=>NwAt P w K mg base G k t.1 t.2 g.1 g.2∧NwsOk P w K mg base G k ts gs
 |_,_=>True
theorem NwsOk.get {P:Program} {w:World} {K:PySem.W.Frag} {mg:Str→Option Value} {base:Heap} {G:Glo} {k:Nat}:∀{ts:List (Str × Nat)} {gs:List (Nat × (List D→RE (List D)))},NwsOk P w K mg base G k ts gs →
  ∀(f:Nat) (x:Str) (n:Nat),ts[f]? = some (x,n)→∀g,gs[f]? = some g→NwAt P w K mg base G k x n g.1 g.2
 |[],_,_,f,x,n,e,_,_=>by simp at e
 |_::_,[],_,f,x,n,_,g,e=>by simp at e
 |t::ts,g::gs,⟨h,hs⟩,0,x,n,e,g',e'=>by
  simp at e e'
  subst e e'
  exact h
 |t::ts,g::gs,⟨h,hs⟩,f+1,x,n,e,g',e'=>NwsOk.get hs f x n (by simpa using e) g' (by simpa using e')
def qta (G:Glo) (mg:Str→Option Value) (x:Str) (c:D):Prop:=∃u v,mg x=some u∧RelV v u∧(∀(P N R:Hp),Rep G P (LNb G.K P N R true) c v)∧WrT G v
def GcsOk (G:Glo) (mg:Str→Option Value):List Str→List (Str × D)→Prop
 |t::ts,g::gs=>qta G mg t g.2∧GcsOk G mg ts gs
 |_,_=>True
theorem GcsOk.get {G:Glo} {mg:Str→Option Value}:∀{ts:List Str} {gs:List (Str × D)},GcsOk G mg ts gs→∀(f:Nat) (x:Str),ts[f]? = some x→∀g,gs[f]? = some g→qta G mg x g.2
 |[],_,_,f,x,e,_,_=>by simp at e
 |_::_,[],_,f,x,_,g,e=>by simp at e
 |t::ts,g::gs,⟨h,hs⟩,0,x,e,g',e'=>by
  simp at e e'
  subst e e'
  exact h
 |t::ts,g::gs,⟨h,hs⟩,f+1,x,e,g',e'=>GcsOk.get hs f x (by simpa using e) g' (by simpa using e')
theorem qss {K:PySem.W.Frag} {h:Heap} {mg:Str→Option Value} {G:Glo} {fa:List He.Fa} {fn:List He.DefD} {x:Str} {s:List Nat} {j:Nat} (c:He.SaysD fa fn K) (X:K.In h) (N:h.Ns mainGlobals mg) (hx:fa[j]? = some (.str x ⟨s.toArray⟩)):qta G mg x (.str s):=by
 obtain⟨t,e⟩:=He.str_ok X N (c.fact j hx)
 exact⟨_,.str ⟨s.toArray⟩,e,⟨t,rfl⟩,fun _ _ _=>rfl,fun _ z=>nomatch z⟩
theorem qiF {K:PySem.W.Frag} {h:Heap} {mg:Str→Option Value} {G:Glo} {fa:List He.Fa} {fn:List He.DefD} {x:Str} {i:Int} {j:Nat} (c:He.SaysD fa fn K) (X:K.In h) (N:h.Ns mainGlobals mg) (hx:fa[j]? = some (.int x i)):qta G mg x (.int i):=by
 obtain⟨t,e⟩:=He.int_ok X N (c.fact j hx)
 exact⟨_,.int i,e,⟨t,rfl⟩,fun _ _ _=>rfl,fun _ z=>nomatch z⟩
def qvu (G:Glo) (K:PySem.W.Frag) (x:Str) (own:Bool) (t:List (Nat × Bool)):Prop:=∀c b,t.lookup c=some b→PySem.W.kitOne K (.ref (G.ca c)) (cv K x own)=some b∧PySem.W.exmOne K (.ref (G.ca c)) (cv K x own)=some b∧ExcC K (G.ca c)
def qvC (G:Glo) (K:PySem.W.Frag) (x:Str) (own:Bool) (t:List (Nat × Bool)):Prop:=∀c b,t.lookup c=some b→PySem.W.kitOne K (.ref (G.ca c)) (cv K x own)=some b∧InsC K (G.ca c)
def CksOk (G:Glo) (K:PySem.W.Frag) (mg:Str→Option Value):List (Str × Bool)→List (Nat→Option Bool)→List (Nat→Option Bool)→Prop
 |t::ts,a::as,b::bs=>CkOk G K mg t.1 t.2 (some a) (some b)∧CksOk G K mg ts as bs
 |[],_,_=>True
 |_,_,_=>False
theorem CksOk.get {G:Glo} {K:PySem.W.Frag} {mg:Str→Option Value}:∀{ts:List (Str × Bool)} {as bs:List (Nat→Option Bool)},CksOk G K mg ts as bs→∀(f:Nat) (x:Str) (own:Bool),ts[f]? = some (x,own)→CkOk G K mg x own as[f]? bs[f]?
 |[],_,_,_,f,x,own,e=>by simp at e
 |_::_,[],_,h,f,x,own,e=>h.elim
 |_::_,_::_,[],h,f,x,own,e=>h.elim
 |t::ts,a::as,b::bs,⟨h,hs⟩,0,x,own,e=>by
  simp at e
  subst e
  exact h
 |t::ts,a::as,b::bs,⟨h,hs⟩,f+1,x,own,e=>by
  simp only[List.getElem?_cons_succ]
  exact CksOk.get hs f x own (by simpa using e)
theorem rs1 {K:PySem.W.Frag} {h:Heap} {mg:Str→Option Value} {G:Glo} {fa:List He.Fa} {fn:List He.DefD} {x:Str} {j j2 c0:Nat} (c:He.SaysD fa fn K) (X:K.In h) (N:h.Ns mainGlobals mg) (hx:fa[j]? = some (.glo x)) (hx2:fa[j2]? = some (.exc x)) (hc:G.ca c0=He.ga K x):RsOk K mg (G.ca c0) x:=by
 obtain⟨h1,h2,h3,h4⟩:=He.exc_ok (c.fact j2 hx2)
 rw[hc]
 exact⟨He.glo_ok X N (c.fact j hx),h1,h2,h3,h4⟩
def XksOk (G:Glo) (K:PySem.W.Frag) (mg:Str→Option Value):List Str→List Nat→Prop
 |t::ts,c::cs=>RsOk K mg (G.ca c) t∧XksOk G K mg ts cs
 |_,_=>True
theorem XksOk.get {G:Glo} {K:PySem.W.Frag} {mg:Str→Option Value}:∀{ts:List Str} {cs:List Nat},XksOk G K mg ts cs→∀(f:Nat) (x:Str),ts[f]? = some x→∀c,cs[f]? = some c→RsOk K mg (G.ca c) x
 |[],_,_,f,x,e,_,_=>by simp at e
 |_::_,[],_,f,x,_,c,e=>by simp at e
 |t::ts,g::gs,⟨h,hs⟩,0,x,e,g',e'=>by
  simp at e e'
  subst e e'
  exact h
 |t::ts,g::gs,⟨h,hs⟩,f+1,x,e,g',e'=>XksOk.get hs f x (by simpa using e) g' (by simpa using e')
def DcsOk (G:Glo) (K:PySem.W.Frag) (w:World) (mg:Str→Option Value):List Str→List (Str × List (List Nat × Option D))→Prop
 |t::ts,g::gs=>qs9 G K w mg t g.2∧DcsOk G K w mg ts gs
 |_,_=>True
theorem DcsOk.get {G:Glo} {K:PySem.W.Frag} {w:World} {mg:Str→Option Value}:∀{ts:List Str} {gs:List (Str × List (List Nat × Option D))},DcsOk G K w mg ts gs→∀(f:Nat) (x:Str),ts[f]? = some x→∀g,gs[f]? = some g→qs9 G K w mg x g.2
 |[],_,_,f,x,e,_,_=>by simp at e
 |_::_,[],_,f,x,_,g,e=>by simp at e
 |t::ts,g::gs,⟨h,hs⟩,0,x,e,g',e'=>by
  simp at e e'
  subst e e'
  exact h
 |t::ts,g::gs,⟨h,hs⟩,f+1,x,e,g',e'=>DcsOk.get hs f x (by simpa using e) g' (by simpa using e')
theorem qc3 {P:Program} {w:World} {K:PySem.W.Frag} {h:Heap} {mg:Str→Option Value} {base:Heap} {G:Glo} {fa:List He.Fa} {fn:List He.DefD} {T:Tb} {Γ:Env} {k:Nat} {mts:List (Nat × Nat × (List D→RE ER))} {fds:List (Nat × Nat × Nat)}
  (c:He.SaysD (bltNames.map He.Fa.free++fa) fn K) (X:K.In h) (N:h.Ns mainGlobals mg) (hf:FnsOk P w K mg base G k T.fn Γ.fn) (hgc:GcsOk G mg T.gc Γ.gc) (hmt:Γ.mt=qay mts) (hm:MtsOk P w K mg base G k T.mn mts)
  (hfi:Γ.fi=qax fds) (hfd:FdsOk K G T.fs fds) (hnw:NwsOk P w K mg base G k T.nw Γ.nw) (hck:CksOk G K mg T.ck Γ.ck Γ.ik) (hxk:XksOk G K mg T.xk Γ.xk) (hdc:DcsOk G K w mg T.dc Γ.dc):TabOk P w K mg base T Γ G k where
 blt:=qsX c X N
 fn:=hf.get
 gc:=hgc.get
 mt:=fun m x n e c g e'=>by
  rw[hmt] at e'
  exact(hm.get m x n e c g e').ex
 fs:=fun f x e c i e'=>by
  rw[hfi] at e'
  exact hfd.get f x e c i e'
 nw:=fun i x n e g e'=>(hnw.get i x n e g e').ex
 ck:=hck.get
 xk:=hxk.get
 dc:=hdc.get
section
variable {P:Program} {w:World} {K:PySem.W.Frag} {h:Heap} {mg:Str→Option Value} {base:Heap} {G:Glo} {fa:List He.Fa} {fn:List He.DefD} {T:Tb} {Γ:Env} {k m i j:Nat} {ir:Sms} {ps:List Str} {d:He.DefD} {x y:Str}
theorem qib (c:He.SaysD fa fn K) (X:K.In h) (N:h.Ns mainGlobals mg) (hG:G.K=K) (hd:fn[i]? = some d) (hat:d.at_=(x,none)) (hdf:d.dfl=[]) (hkw:d.kwd=[]) (hx:fa[j]? = some (.glo x))
  (S:FnScope T.N ps d.scope) (hm:T.N.length=ps.length+m) (hc:qah T d.scope ir d.body=true)
  (hb:∀(kV doc pm:Value) (an:Option Addr) (cdv ct:Value) (us:List Value),us.length=ps.length→bindArgs (PySem.W.fnOf d.name d.qual d.params d.body d.scope .none kV doc pm an cdv ct) ⟨us,[]⟩=pure (ps.zip us))
  (tab:TabOk P w K mg base T Γ G k):DefAt P w K mg base G (k+1) x ps.length (qck Γ ps.length m ir):=by
 obtain⟨fd,F⟩:=c.def_ i hd
 have e1:d.dvs K=[]:=by unfold He.DefD.dvs;rw[hdf];rfl
 have e2:d.kws K=[]:=by unfold He.DefD.kws;rw[hkw];rfl
 rw[e1,e2,hat] at F
 exact⟨⟨k+1,_,fd,ps,0,_,Nat.le_refl _,qqc F S hG tab hm hc,He.glo_ok X N (c.fact j hx),F.kp,Part.all (FunD.bindsN F hb)⟩⟩
theorem FnOk.bad {P:Program} {w:World} {K:PySem.W.Frag} {mg:Str→Option Value} {base:Heap} {CX:CXT} {k n:Nat} {f:Addr} {fd:FuncData} {ps:List Str} {G:Glo}:FnOk P w K mg base CX k f fd ps (spD G n fun _=>.bad):=
 ⟨fun _ _ _ _ ⟨_,_,_,_,_,_,_,h⟩=>h.elim,fun _ _ _ _ _ _ _ _ _ _ _ _ _ ⟨_,_,_,_,_,_,_,h⟩=>h.elim⟩
theorem mth1 {cn n j2:Nat} (c:He.SaysD fa fn K) (hG:G.K=K) (hd:fn[i]? = some d) (hat:d.at_=(x,some y)) (hdf:d.dfl=[]) (hkw:d.kwd=[]) (hx:fa[j]? = some (.meth x y)) (hx2:fa[j2]? = some (.cls x)) (hca:G.ca cn=He.ga K x) (hfl:y∉G.fl cn) (hn:ps.length=n+1)
  (S:FnScope T.N ps d.scope) (hm:T.N.length=ps.length+m) (hc:qah T d.scope ir d.body=true)
  (hb:∀(kV doc pm:Value) (an:Option Addr) (cdv ct:Value) (us:List Value),us.length=ps.length→bindArgs (PySem.W.fnOf d.name d.qual d.params d.body d.scope .none kV doc pm an cdv ct) ⟨us,[]⟩=pure (ps.zip us))
  (tab:TabOk P w K mg base T Γ G k):MthAt P w K mg base G (k+1) cn y n (qck Γ (n+1) m ir):=by
 obtain⟨fd,F⟩:=c.def_ i hd
 have e1:d.dvs K=[]:=by unfold He.DefD.dvs;rw[hdf];rfl
 have e2:d.kws K=[]:=by unfold He.DefD.kws;rw[hkw];rfl
 rw[e1,e2,hat] at F
 have M:=He.meth_ok (c.fact j hx)
 have O:=qqc F S hG tab hm hc
 rw[hn] at O
 exact⟨hca ▸ He.cls_ok (c.fact j2 hx2),hfl,k+1,_,fd,ps,Nat.le_refl _,hca ▸ M,O,FunD.bindsN F hb⟩
theorem qoz {cn n nf j2:Nat} (c:He.SaysD fa fn K) (X:K.In h) (N:h.Ns mainGlobals mg) (hG:G.K=K) (hd:fn[i]? = some d) (hat:d.at_=(x,some ("__init__" : Str))) (hdf:d.dfl=[]) (hkw:d.kwd=[]) (hx:fa[j]? = some (.mkr x)) (hx2:fa[j2]? = some (.glo x)) (hca:G.ca cn=He.ga K x) (hn:ps.length=n+1) (hnf:(G.fl cn).length=nf)
  (S:FnScope T.N ps d.scope) (hm:T.N.length=ps.length+m) (hc:qah T d.scope ir d.body=true)
  (hb:∀(kV doc pm:Value) (an:Option Addr) (cdv ct:Value) (us:List Value),us.length=ps.length→bindArgs (PySem.W.fnOf d.name d.qual d.params d.body d.scope .none kV doc pm an cdv ct) ⟨us,[]⟩=pure (ps.zip us))
  (tab:TabOk P w K mg base T Γ G k):NwAt P w K mg base G (k+2) x n cn (qln Γ cn nf n m ir):=by
 obtain⟨fd,F⟩:=c.def_ i hd
 have e1:d.dvs K=[]:=by unfold He.DefD.dvs;rw[hdf];rfl
 have e2:d.kws K=[]:=by unfold He.DefD.kws;rw[hkw];rfl
 rw[e1,e2,hat] at F
 have M:=He.mkr_ok (c.fact j hx)
 exact⟨.inl ⟨k+1,_,fd,ps,Nat.le_refl _,hca ▸ M,qtD F S hG tab hm hn hc hnf,hca ▸ He.glo_ok X N (c.fact j2 hx2),FunD.bindsN F hb⟩⟩
theorem fd1 {cn n j2:Nat} (c:He.SaysD fa fn K) (hx:fa[j]? = some (.cls x)) (hx2:fa[j2]? = some (.noat x y)) (hca:G.ca cn=He.ga K x) (h1:(G.fl cn)[n]? = some y) (h2:(G.fl cn).Nodup):qth K G cn n y:=
 ⟨hca ▸ He.cls_ok (c.fact j hx),hca ▸ He.noat_ok (c.fact j2 hx2),h1,h2⟩
end
theorem quK {P:Program} {w:World} {K:PySem.W.Frag} {h:Heap} {mg:Str→Option Value} {G:Glo} {fa:List He.Fa} {fn:List He.DefD} {T:Tb} {Γ:Env} {k m i j:Nat} {ir:Sms} {y:Str} {d:He.DefD} {x:Str} {f:Addr}
  (c:He.SaysD fa fn K) (X:K.In h) (N:h.Ns mainGlobals mg) (hG:G.K=K) (hd:fn[i]? = some d) (hat:d.at_=(x,none)) (hdf:d.dfl=[]) (hkw:d.kwd=[]) (hx:fa[j]? = some (.glo x)) (hfa:mg x=some (.ref f))
  (S:FnScope T.N [y] d.scope) (hm:T.N.length=1+m) (hc:qah T d.scope ir d.body=true)
  (hb:∀(kV doc pm:Value) (an:Option Addr) (cdv ct:Value) (us:List Value),us.length=1→bindArgs (PySem.W.fnOf d.name d.qual d.params d.body d.scope .none kV doc pm an cdv ct) ⟨us,[]⟩=pure ([y].zip us))
  (tab:∀base:Heap,K.In base→base.Ns mainGlobals mg→TabOk P w K mg base T Γ G k) :
  ∃fd:FuncData,(∀(s:Shared) (u:Value),BindsTo s fd ⟨[u],[]⟩ [(y,u)])∧∀base:Heap,K.In base→base.Ns mainGlobals mg→FnOk P w K mg base (L2.CX P w) (k+1) f fd [y] (spD G 1 (qck Γ 1 m ir)):=by
 obtain⟨fd,F⟩:=c.def_ i hd
 have e1:d.dvs K=[]:=by unfold He.DefD.dvs;rw[hdf];rfl
 have e2:d.kws K=[]:=by unfold He.DefD.kws;rw[hkw];rfl
 rw[e1,e2,hat] at F
 have e:=hfa.symm.trans (He.glo_ok X N (c.fact j hx))
 cases e
 exact⟨fd,fun s u=>FunD.bindsA (ps:=[y]) F hb s [u] rfl,fun base hB hN=>qqc F S hG (tab base hB hN) hm hc⟩
theorem law_at {l:PySem.W.OpenLaw} {w:World} {K:PySem.W.Frag} {mg:Str→Option Value} {f:Addr} {h:Heap} {G:Glo} {g:List D→RE ER} {k n:Nat} {y:Str} (hG:G.K=K)
  (ok:∃fd:FuncData,(∀(s:Shared) (u:Value),BindsTo s fd ⟨[u],[]⟩ [(y,u)])∧∀base:Heap,K.In base→base.Ns mainGlobals mg→FnOk l.prog w K mg base (L2.CX l.prog w) k f fd [y] (spD G 1 g))
  (tr:∀ns:List Int,ns.length≤n→(∀z∈ns,Builtin.Int.intBits z≤1048576)→∃b,g [.lst (ns.map D.int)]=.ok (.val (.bl true) b)):LamX.LawAtS l w K (L2.CX l.prog w) k n y mg f h:=by
 obtain⟨fd,hb,hF⟩:=ok
 refine⟨fd,[],spD G 1 g,fun p hp=>(nomatch hp),fun p hp=>(nomatch hp),fun p hp=>(nomatch hp),hb,fun H a ns hl hz _ hS=>?_,fun base h1 h2 _=>hF base h1 h2⟩
 obtain⟨b,e⟩:=tr ns hl hz
 refine⟨fun _=>none,H,[.lst (ns.map D.int)],fun _ _ q=>(nomatch q),L2.Same.refl _,⟨_,[],rfl,⟨a,_,rfl,hG ▸ hS,Reps.ints.mpr rfl⟩,rfl⟩,rfl,?_⟩
 rw[e]
 intro v H' P' N' _ q
 exact q
theorem cx_end {P:Program} {w:World} (H:Hp) (s:Shared) (e:Value) (s':Shared) (h:L2.CX P w [] H s (fun _ _ _=>False) e s'):False:=by
 obtain⟨a,B,H',cls,d,_,_,_,_,_,_,_,z⟩:=h
 exact z
end Cm
namespace K19
open Cm
def qdR:Sms:=(.cons (.iff (.val (.cmp .lt (.var 1) (.pri .len (.cons (.var 0) .nil)))) (.cons (.ret (.idx (.var 0) (.var 1)))
  .nil) .nil)
  (.cons (.asg 2 (.bin .add (.bin .mul (.cint 7) (.var 1)) (.cint 3)))
  (.cons (.iff (.val (.cmp .gt (.pri .len (.cons (.var 0) .nil)) (.cint 0))) (.cons (.asg 2 (.bin .add (.var 2) (.bin .mul (.bin .mdl (.idx (.var 0) (.bin .mdl (.var 1) (.pri .len (.cons (.var 0) .nil)))) (.cint 1000003)) (.bin .add (.var 1) (.cint 1)))))
  .nil) .nil)
  (.cons (.ret (.bin .add (.bin .mdl (.bin .mul (.var 2) (.var 2)) (.cint 999979)) (.bin .mdl (.var 2) (.cint 101))))
  .nil))))
def qfd:Env:={ fn:=[],gc:=[],mn:=[],mt:=qay [],fs:=[],fi:=qax [],nw:=[],ck:=[],ik:=[],xk:=[] }
def g__law_at:List D→RE ER:=qck qfd 2 1 qdR
def qb3:Sms:=(.cons (.asg 1 (.bin .add (.cint 1) (.bin .mdl (.call 0 (.cons (.var 0) (.cons (.cint 0) .nil))) (.cint 6))))
  (.cons (.asg 2 (.bin .add (.cint 1) (.bin .mdl (.call 0 (.cons (.var 0) (.cons (.cint 1) .nil))) (.pri .min2 (.cons (.cint 6) (.cons (.bin .fdv (.cint 16) (.var 1)) .nil))))))
  (.cons (.ret (.tup (.cons (.var 1) (.cons (.var 2) (.cons (.bin .add (.cint 1) (.bin .mdl (.call 0 (.cons (.var 0) (.cons (.cint 2) .nil))) (.cint 6))) .nil)))))
  .nil)))
def qcJ:Env:={ fn:=[("_law_at",g__law_at)],gc:=[],mn:=[],mt:=qay [],fs:=[],fi:=qax [],nw:=[],ck:=[],ik:=[],xk:=[] }
def g__law_floor:List D→RE ER:=qck qcJ 1 2 qb3
def qbe:Sms:=(.cons (.ret (.lc [3] (.rng (.cons (.bin .mul (.idx (.var 1) (.cint 0)) (.idx (.var 1) (.cint 1))) .nil)) [3] .nil (.bin .add (.cint 1) (.bin .mdl (.call 0 (.cons (.var 0) (.cons (.bin .add (.var 2) (.var 3)) .nil))) (.idx (.var 1) (.cint 2))))))
  .nil)
def qbD:Env:={ fn:=[("_law_at",g__law_at)],gc:=[],mn:=[],mt:=qay [],fs:=[],fi:=qax [],nw:=[],ck:=[],ik:=[],xk:=[] }
def g__law_filling:List D→RE ER:=qck qbD 3 1 qbe
def qbw:Sms:=(.cons (.asg 2 (.bin .add (.bin .mdl (.var 0) (.cint 1000003)) (.cint 11)))
  (.cons (.own 3 (.lst .nil))
  (.cons (.for (.rng (.cons (.var 1) .nil)) [4] (.cons (.asg 2 (.bin .mdl (.bin .add (.bin .add (.bin .mul (.var 2) (.var 2)) (.bin .mul (.cint 3) (.var 2))) (.var 4)) (.cint 1000003)))
  (.cons (.app 3 (.var 2))
  .nil)))
  (.cons (.ret (.var 3))
  .nil))))
def qch:Env:={ fn:=[],gc:=[],mn:=[],mt:=qay [],fs:=[],fi:=qax [],nw:=[],ck:=[],ik:=[],xk:=[] }
def g__law_stream:List D→RE ER:=qck qch 2 3 qbw
def qbX:Sms:=(.cons (.own 2 (.lrng (.cons (.var 1) .nil)))
  (.cons (.own 3 (.lst .nil))
  (.cons (.for (.rng (.cons (.var 1) .nil)) [4] (.cons (.apop 3 2 (.bin .mdl (.idx (.var 0) (.var 4)) (.pri .len (.cons (.var 2) .nil))))
  .nil))
  (.cons (.ret (.var 3))
  .nil))))
def qcH:Env:={ fn:=[],gc:=[],mn:=[],mt:=qay [],fs:=[],fi:=qax [],nw:=[],ck:=[],ik:=[],xk:=[] }
def g__law_order:List D→RE ER:=qck qcH 2 3 qbX
def qcl:Sms:=(.cons (.asg 3 (.lst .nil))
  (.cons (.for (.rng (.cons (.cint 1) (.cons (.cint 7) .nil))) [4] (.cons (.asg 5 (.lc [6] (.any (.var 0)) [6] (.cons (.val (.cmp .eq (.idx (.var 1) (.var 6)) (.var 4))) .nil) (.var 6)))
  (.cons (.asg 3 (.bin .add (.var 3) (.slc (.var 5) .nil (.cons (.cint 1) .nil))))
  .nil)))
  (.cons (.iff (.val (.var 2)) (.cons (.ret (.var 3))
  .nil) .nil)
  (.cons (.ret (.lc [6] (.any (.var 0)) [6] (.cons (.val (.cmp .isin (.var 6) (.var 3))) .nil) (.var 6)))
  .nil))))
def qds:Env:={ fn:=[],gc:=[],mn:=[],mt:=qay [],fs:=[],fi:=qax [],nw:=[],ck:=[],ik:=[],xk:=[] }
def g__law_kept:List D→RE ER:=qck qds 3 4 qcl
def qcC:Sms:=(.cons (.asg 2 (.cint 0))
  (.cons (.asg 3 (.cint 0))
  (.cons (.for (.any (.var 1)) [4] (.cons (.iff (.val (.cmp .gt (.idx (.var 0) (.var 4)) (.var 2))) (.cons (.asg 2 (.idx (.var 0) (.var 4)))
  (.cons (.asg 3 (.bin .add (.var 3) (.cint 1)))
  .nil)) .nil)
  .nil))
  (.cons (.ret (.var 3))
  .nil))))
def qdh:Env:={ fn:=[],gc:=[],mn:=[],mt:=qay [],fs:=[],fi:=qax [],nw:=[],ck:=[],ik:=[],xk:=[] }
def g__law_seen:List D→RE ER:=qck qdh 2 3 qcC
def qcx:Sms:=(.cons (.asg 3 (.bin .mul (.idx (.var 0) (.cint 0)) (.idx (.var 0) (.cint 1))))
  (.cons (.asg 4 (.call 0 (.cons (.bin .fdv (.var 2) (.cint 8)) (.cons (.bin .add (.var 3) (.cint 3)) .nil))))
  (.cons (.asg 5 (.call 1 (.cons (.var 4) (.cons (.var 3) .nil))))
  (.cons (.asg 6 (.slc (.var 5) .nil (.cons (.bin .add (.cint 1) (.bin .mdl (.idx (.var 4) (.var 3)) (.var 3))) .nil)))
  (.cons (.asg 7 (.bin .add (.cint 1) (.bin .mdl (.idx (.var 4) (.bin .add (.var 3) (.cint 1))) (.idx (.var 0) (.cint 2)))))
  (.cons (.asg 8 (.idx (.lst (.cons (.cint 0) (.cons (.cint 0) (.cons (.cint 0) (.cons (.cint 1) .nil))))) (.bin .mdl (.idx (.var 4) (.bin .add (.var 3) (.cint 2))) (.cint 4))))
  (.cons (.asg 9 (.bin .mdl (.var 2) (.cint 8)))
  (.cons (.iff (.val (.cmp .gt (.var 9) (.cint 4))) (.cons (.ret (.bin .add (.bin .add (.idx (.lst (.cons (.cstr [106,111,105,110,101,100]) (.cons (.cstr [110,111,115,113,117,97,114,101]) (.cons (.cstr [114,105,110,103]) .nil)))) (.bin .sub (.var 9) (.cint 5))) (.cstr [32])) (.pri .str (.cons (.var 7) .nil))))
  .nil) .nil)
  (.cons (.iff (.bop true (.cons (.val (.cmp .isin (.var 9) (.tup (.cons (.cint 0) (.cons (.cint 2) .nil))))) (.cons (.val (.cmp .eq (.var 8) (.cint 0))) .nil))) (.cons (.asg 6 (.slc (.call 2 (.cons (.var 5) (.cons (.var 1) (.cons (.cmp .eq (.var 9) (.cint 2)) .nil)))) .nil (.cons (.pri .len (.cons (.var 6) .nil)) .nil)))
  .nil) .nil)
  (.cons (.asg 10 (.lst (.cons (.cstr [117,110,108,105,107,101]) .nil)))
  (.cons (.iff (.val (.cmp .eq (.var 9) (.cint 1))) (.cons (.asg 10 (.lst (.cons (.cstr [115,117,109]) (.cons (.pri .str (.cons (.bin .add (.pri .sum (.cons (.lc [11] (.any (.var 6)) [11] .nil (.idx (.var 1) (.var 11))) .nil)) (.var 8)) .nil)) .nil))))
  .nil) .nil)
  (.cons (.iff (.val (.cmp .eq (.var 9) (.cint 2))) (.cons (.asg 10 (.lst (.cons (.cstr [114,105,115,105,110,103]) .nil)))
  .nil) .nil)
  (.cons (.iff (.val (.cmp .eq (.var 9) (.cint 3))) (.cons (.asg 10 (.lst (.cons (.cstr [115,101,101,110]) (.cons (.pri .str (.cons (.bin .add (.call 3 (.cons (.var 1) (.cons (.var 6) .nil))) (.var 8)) .nil)) .nil))))
  .nil) .nil)
  (.cons (.iff (.val (.cmp .eq (.var 9) (.cint 4))) (.cons (.asg 10 (.lst (.cons (.cstr [99,111,117,110,116]) (.cons (.pri .str (.cons (.bin .add (.pri .len (.cons (.lc [11] (.any (.var 6)) [11] (.cons (.val (.cmp .eq (.idx (.var 1) (.var 11)) (.var 7))) .nil) (.var 11)) .nil)) (.var 8)) .nil)) (.cons (.pri .str (.cons (.var 7) .nil)) .nil)))))
  .nil) .nil)
  (.cons (.ret (.bm1 .join (.cstr [32]) (.bin .add (.var 10) (.lc [11] (.any (.var 6)) [11] .nil (.pri .str (.cons (.var 11) .nil))))))
  .nil)))))))))))))))
def qdv:Env:={ fn:=[("_law_stream",g__law_stream),("_law_order",g__law_order),("_law_kept",g__law_kept),("_law_seen",g__law_seen)],gc:=[],mn:=[],mt:=qay [],fs:=[],fi:=qax [],nw:=[],ck:=[],ik:=[],xk:=[] }
def g__law_line:List D→RE ER:=qck qdv 3 9 qcx
def qbY:Sms:=(.cons (.ret (.lc [3,4] (.en (.var 1)) [3,4] .nil (.bin .mul (.var 4) (.bin .mdl (.bin .fdv (.call 0 (.cons (.var 0) (.cons (.bin .add (.var 2) (.var 3)) .nil))) (.cint 7)) (.cint 2)))))
  .nil)
def qcK:Env:={ fn:=[("_law_at",g__law_at)],gc:=[],mn:=[],mt:=qay [],fs:=[],fi:=qax [],nw:=[],ck:=[],ik:=[],xk:=[] }
def g__law_clues:List D→RE ER:=qck qcK 3 2 qbY
def qb7:Sms:=(.cons (.ret (.bop true (.cons (.isi (.var 0) .int) (.cons (.bnot (.isi (.var 0) .bool)) .nil))))
  .nil)
def qcT:Env:={ fn:=[],gc:=[],mn:=[],mt:=qay [],fs:=[],fi:=qax [],nw:=[],ck:=[],ik:=[],xk:=[] }
def g__law_whole:List D→RE ER:=qck qcT 1 0 qb7
def qbf:Sms:=(.cons (.ret (.fld (.var 0) 0))
  .nil)
def qbH:Env:={ fn:=[],gc:=[],mn:=[],mt:=qay [],fs:=[],fi:=qax [(0,0,0),(1,0,0),(2,0,0),(3,0,0),(4,0,0),(5,0,0),(6,0,0),(7,0,0),(25,0,0)],nw:=[],ck:=[],ik:=[],xk:=[] }
def g_Puzzle_place:List D→RE ER:=qck qbH 1 0 qbf
def qbv:Sms:=(.cons (.ret (.cstr [117,110,108,105,107,101]))
  .nil)
def qce:Env:={ fn:=[],gc:=[],mn:=[],mt:=qay [],fs:=[],fi:=qax [],nw:=[],ck:=[],ik:=[],xk:=[] }
def g_Unlike_name:List D→RE ER:=qck qce 1 0 qbv
def qbV:Sms:=(.cons (.ret (.cstr [115,117,109]))
  .nil)
def qcM:Env:={ fn:=[],gc:=[],mn:=[],mt:=qay [],fs:=[],fi:=qax [],nw:=[],ck:=[],ik:=[],xk:=[] }
def g_Total_name:List D→RE ER:=qck qcM 1 0 qbV
def qby:Sms:=(.cons (.ret (.cstr [114,105,115,105,110,103]))
  .nil)
def qcg:Env:={ fn:=[],gc:=[],mn:=[],mt:=qay [],fs:=[],fi:=qax [],nw:=[],ck:=[],ik:=[],xk:=[] }
def g_Rising_name:List D→RE ER:=qck qcg 1 0 qby
def qcv:Sms:=(.cons (.ret (.cstr [115,101,101,110]))
  .nil)
def qdc:Env:={ fn:=[],gc:=[],mn:=[],mt:=qay [],fs:=[],fi:=qax [],nw:=[],ck:=[],ik:=[],xk:=[] }
def g_Seen_name:List D→RE ER:=qck qdc 1 0 qcv
def qbd:Sms:=(.cons (.ret (.cstr [99,111,117,110,116]))
  .nil)
def qbS:Env:={ fn:=[],gc:=[],mn:=[],mt:=qay [],fs:=[],fi:=qax [],nw:=[],ck:=[],ik:=[],xk:=[] }
def g_Counted_name:List D→RE ER:=qck qbS 1 0 qbd
def qbr:Sms:=(.cons (.ret (.cstr [106,111,105,110,101,100]))
  .nil)
def qci:Env:={ fn:=[],gc:=[],mn:=[],mt:=qay [],fs:=[],fi:=qax [],nw:=[],ck:=[],ik:=[],xk:=[] }
def g_Joined_name:List D→RE ER:=qck qci 1 0 qbr
def qaY:Sms:=(.cons (.ret (.cstr [110,111,115,113,117,97,114,101]))
  .nil)
def qbu:Env:={ fn:=[],gc:=[],mn:=[],mt:=qay [],fs:=[],fi:=qax [],nw:=[],ck:=[],ik:=[],xk:=[] }
def g_NoSquare_name:List D→RE ER:=qck qbu 1 0 qaY
def qcw:Sms:=(.cons (.ret (.cstr [114,105,110,103]))
  .nil)
def qdi:Env:={ fn:=[],gc:=[],mn:=[],mt:=qay [],fs:=[],fi:=qax [],nw:=[],ck:=[],ik:=[],xk:=[] }
def g_Ring_name:List D→RE ER:=qck qdi 1 0 qcw
def qao:Sms:=(.cons (.ret (.pri .list (.cons (.fld (.var 0) 0) .nil)))
  .nil)
def qaz:Env:={ fn:=[],gc:=[],mn:=[],mt:=qay [],fs:=[],fi:=qax [(0,0,1),(1,0,1),(2,0,1),(3,0,1),(4,0,1),(5,0,1),(6,0,1),(7,0,1)],nw:=[],ck:=[],ik:=[],xk:=[] }
def g_Rule_told_numbers:List D→RE ER:=qck qaz 1 0 qao
def qau:Sms:=(.cons (.ret (.bin .add (.lst (.cons (.fld (.var 0) 0) .nil)) (.fld (.var 0) 1)))
  .nil)
def qaN:Env:={ fn:=[],gc:=[],mn:=[],mt:=qay [],fs:=[],fi:=qax [(0,0,2),(1,0,2),(2,0,2),(3,0,2),(4,0,2),(5,0,2),(6,0,2),(7,0,2),(0,1,1),(1,1,1),(2,1,1),(3,1,1),(4,1,1),(5,1,1),(6,1,1),(7,1,1)],nw:=[],ck:=[],ik:=[],xk:=[] }
def g_Total_told_numbers:List D→RE ER:=qck qaN 1 0 qau
def qaF:Sms:=(.cons (.ret (.bin .add (.lst (.cons (.fld (.var 0) 0) .nil)) (.fld (.var 0) 1)))
  .nil)
def qaT:Env:={ fn:=[],gc:=[],mn:=[],mt:=qay [],fs:=[],fi:=qax [(0,0,2),(1,0,2),(2,0,2),(3,0,2),(4,0,2),(5,0,2),(6,0,2),(7,0,2),(0,1,1),(1,1,1),(2,1,1),(3,1,1),(4,1,1),(5,1,1),(6,1,1),(7,1,1)],nw:=[],ck:=[],ik:=[],xk:=[] }
def g_Seen_told_numbers:List D→RE ER:=qck qaT 1 0 qaF
def qal:Sms:=(.cons (.ret (.bin .add (.lst (.cons (.fld (.var 0) 0) (.cons (.fld (.var 0) 1) .nil))) (.fld (.var 0) 2)))
  .nil)
def qaH:Env:={ fn:=[],gc:=[],mn:=[],mt:=qay [],fs:=[],fi:=qax [(0,0,2),(1,0,2),(2,0,2),(3,0,2),(4,0,2),(5,0,2),(6,0,2),(7,0,2),(0,1,3),(1,1,3),(2,1,3),(3,1,3),(4,1,3),(5,1,3),(6,1,3),(7,1,3),(0,2,1),(1,2,1),(2,2,1),(3,2,1),(4,2,1),(5,2,1),(6,2,1),(7,2,1)],nw:=[],ck:=[],ik:=[],xk:=[] }
def g_Counted_told_numbers:List D→RE ER:=qck qaH 1 0 qal
def qap:Sms:=(.cons (.ret (.lst (.cons (.fld (.var 0) 0) .nil)))
  .nil)
def qaM:Env:={ fn:=[],gc:=[],mn:=[],mt:=qay [],fs:=[],fi:=qax [(0,0,3),(1,0,3),(2,0,3),(3,0,3),(4,0,3),(5,0,3),(6,0,3),(7,0,3)],nw:=[],ck:=[],ik:=[],xk:=[] }
def g_Joined_told_numbers:List D→RE ER:=qck qaM 1 0 qap
def qai:Sms:=(.cons (.ret (.lst (.cons (.fld (.var 0) 0) .nil)))
  .nil)
def qav:Env:={ fn:=[],gc:=[],mn:=[],mt:=qay [],fs:=[],fi:=qax [(0,0,3),(1,0,3),(2,0,3),(3,0,3),(4,0,3),(5,0,3),(6,0,3),(7,0,3)],nw:=[],ck:=[],ik:=[],xk:=[] }
def g_NoSquare_told_numbers:List D→RE ER:=qck qav 1 0 qai
def qaE:Sms:=(.cons (.ret (.lst (.cons (.fld (.var 0) 0) .nil)))
  .nil)
def qaR:Env:={ fn:=[],gc:=[],mn:=[],mt:=qay [],fs:=[],fi:=qax [(0,0,3),(1,0,3),(2,0,3),(3,0,3),(4,0,3),(5,0,3),(6,0,3),(7,0,3)],nw:=[],ck:=[],ik:=[],xk:=[] }
def g_Ring_told_numbers:List D→RE ER:=qck qaR 1 0 qaE
def qat:Sms:=(.cons (.ret (.bm1 .join (.cstr [32]) (.bin .add (.lst (.cons (.mth 0 (.var 0) .nil) .nil)) (.lc [1] (.any (.mth 1 (.var 0) .nil)) [1] .nil (.pri .str (.cons (.var 1) .nil))))))
  .nil)
def qaB:Env:={ fn:=[],gc:=[],mn:=[],mt:=qay [(0,0,g_Unlike_name),(1,0,g_Total_name),(2,0,g_Rising_name),(3,0,g_Seen_name),(4,0,g_Counted_name),(5,0,g_Joined_name),(6,0,g_NoSquare_name),(7,0,g_Ring_name),(0,1,g_Rule_told_numbers),(1,1,g_Total_told_numbers),(2,1,g_Rule_told_numbers),(3,1,g_Seen_told_numbers),(4,1,g_Counted_told_numbers),(5,1,g_Joined_told_numbers),(6,1,g_NoSquare_told_numbers),(7,1,g_Ring_told_numbers)],fs:=[],fi:=qax [],nw:=[],ck:=[],ik:=[],xk:=[] }
def g_Rule_line:List D→RE ER:=qck qaB 1 1 qat
def qbb:Sms:=(.cons (.ret (.lc [1] (.any (.fld (.var 0) 0)) [1] .nil (.mth 0 (.var 1) .nil)))
  .nil)
def qbR:Env:={ fn:=[],gc:=[],mn:=[],mt:=qay [(0,0,g_Rule_line),(1,0,g_Rule_line),(2,0,g_Rule_line),(3,0,g_Rule_line),(4,0,g_Rule_line),(5,0,g_Rule_line),(6,0,g_Rule_line),(7,0,g_Rule_line)],fs:=[],fi:=qax [(25,0,1)],nw:=[],ck:=[],ik:=[],xk:=[] }
def g_Puzzle_lines:List D→RE ER:=qck qbR 1 1 qbb
def qa9:Sms:=(.cons (.ret (.pri .list (.cons (.fld (.var 0) 0) .nil)))
  .nil)
def qbP:Env:={ fn:=[],gc:=[],mn:=[],mt:=qay [],fs:=[],fi:=qax [(25,0,2)],nw:=[],ck:=[],ik:=[],xk:=[] }
def g_Puzzle_clues:List D→RE ER:=qck qbP 1 0 qa9
def qba:Sms:=(.cons (.ret (.pri .list (.cons (.fld (.var 0) 0) .nil)))
  .nil)
def qbL:Env:={ fn:=[],gc:=[],mn:=[],mt:=qay [],fs:=[],fi:=qax [(25,0,1)],nw:=[],ck:=[],ik:=[],xk:=[] }
def g_Puzzle_rules:List D→RE ER:=qck qbL 1 0 qba
def qdV:Sms:=(.cons (.asg 4 (.mth 0 (.var 0) .nil))
  (.cons (.iff (.bop false (.cons (.not (.val (.isi (.var 4) .tuple))) (.cons (.val (.cmp .ne (.var 4) (.var 1))) (.cons (.val (.cmp .ne (.pri .len (.cons (.lc [5] (.any (.var 4)) [5] (.cons (.val (.call 0 (.cons (.var 5) .nil))) .nil) (.var 5)) .nil)) (.cint 3))) .nil)))) (.cons (.ret (.cbl false))
  .nil) .nil)
  (.cons (.asg 6 (.mth 1 (.var 0) .nil))
  (.cons (.asg 7 (.mth 2 (.var 0) .nil))
  (.cons (.iff (.bop false (.cons (.not (.val (.isi (.var 6) .list))) (.cons (.val (.cmp .ne (.var 6) (.var 2))) (.cons (.not (.val (.isi (.var 7) .list))) (.cons (.val (.cmp .ne (.var 7) (.var 3))) .nil))))) (.cons (.ret (.cbl false))
  .nil) .nil)
  (.cons (.iff (.val (.cmp .ne (.pri .len (.cons (.lc [8] (.any (.var 6)) [8] (.cons (.val (.isi (.var 8) .str)) .nil) (.var 8)) .nil)) (.pri .len (.cons (.var 2) .nil)))) (.cons (.ret (.cbl false))
  .nil) .nil)
  (.cons (.iff (.val (.cmp .ne (.pri .len (.cons (.lc [9] (.any (.var 7)) [9] (.cons (.val (.call 0 (.cons (.var 9) .nil))) .nil) (.var 9)) .nil)) (.pri .len (.cons (.var 3) .nil)))) (.cons (.ret (.cbl false))
  .nil) .nil)
  (.cons (.asg 10 (.mth 3 (.var 0) .nil))
  (.cons (.ret (.bop true (.cons (.isi (.var 10) .list) (.cons (.cmp .eq (.lc [11] (.any (.var 10)) [11] .nil (.mth 4 (.var 11) .nil)) (.var 2)) .nil))))
  .nil)))))))))
def qe1:Env:={ fn:=[("_law_whole",g__law_whole)],gc:=[],mn:=[],mt:=qay [(25,0,g_Puzzle_place),(25,1,g_Puzzle_lines),(25,2,g_Puzzle_clues),(25,3,g_Puzzle_rules),(0,4,g_Rule_line),(1,4,g_Rule_line),(2,4,g_Rule_line),(3,4,g_Rule_line),(4,4,g_Rule_line),(5,4,g_Rule_line),(6,4,g_Rule_line),(7,4,g_Rule_line)],fs:=[],fi:=qax [],nw:=[],ck:=[],ik:=[],xk:=[] }
def g__law_is:List D→RE ER:=qck qe1 4 8 qdV
def qc7:Sms:=(.cons (.iff (.bop false (.cons (.not (.val (.chn .le .le (.cint 1) (.var 0) (.glo 0)))) (.cons (.not (.val (.chn .le .le (.cint 1) (.var 1) (.glo 0)))) (.cons (.val (.cmp .gt (.bin .mul (.var 0) (.var 1)) (.glo 1))) .nil)))) (.cons (.rse 0)
  .nil) .nil)
  (.cons (.iff (.not (.val (.chn .le .le (.cint 1) (.var 2) (.glo 2)))) (.cons (.rse 0)
  .nil) .nil)
  (.cons (.ret (.tup (.cons (.var 0) (.cons (.var 1) (.cons (.var 2) .nil)))))
  .nil)))
def qeb:Env:={ fn:=[],gc:=[("MOST_SIDE",.int 6),("MOST_CELLS",.int 16),("MOST_SIGNS",.int 6)],mn:=[],mt:=qay [],fs:=[],fi:=qax [],nw:=[],ck:=[],ik:=[],xk:=[31] }
def g_floor_of:List D→RE ER:=qck qeb 3 0 qc7
def qcn:Sms:=(.cons (.iff (.bop false (.cons (.not (.val (.chn .le .le (.cint 1) (.pri .len (.cons (.var 0) .nil)) (.glo 0)))) (.cons (.bop true (.cons (.val (.cmp .eq (.idx (.var 0) (.cint 0)) (.cstr [48]))) (.cons (.val (.cmp .gt (.pri .len (.cons (.var 0) .nil)) (.cint 1))) .nil))) .nil))) (.cons (.rse 0)
  .nil) .nil)
  (.cons (.for (.any (.var 0)) [1] (.cons (.iff (.val (.cmp .nin (.var 1) (.glo 1))) (.cons (.rse 0)
  .nil) .nil)
  .nil))
  (.cons (.ret (.pri .int (.cons (.var 0) .nil)))
  .nil)))
def qdl:Env:={ fn:=[],gc:=[("LONGEST",.int 2),("FIGURES",.str [48,49,50,51,52,53,54,55,56,57])],mn:=[],mt:=qay [],fs:=[],fi:=qax [],nw:=[],ck:=[],ik:=[],xk:=[33] }
def g_number_of:List D→RE ER:=qck qdl 1 1 qcn
def qcm:Sms:=(.cons (.iff (.bop false (.cons (.val (.cmp .ge (.var 2) (.pri .len (.cons (.var 1) .nil)))) (.cons (.not (.val (.chn .le .le (.cint 1) (.idx (.var 1) (.var 2)) (.idx (.var 0) (.cint 2))))) .nil))) (.cons (.rse 0)
  .nil) .nil)
  (.cons (.ret (.idx (.var 1) (.var 2)))
  .nil))
def qdr:Env:={ fn:=[],gc:=[],mn:=[],mt:=qay [],fs:=[],fi:=qax [],nw:=[],ck:=[],ik:=[],xk:=[33] }
def g_sign_told:List D→RE ER:=qck qdr 3 0 qcm
def qb2:Sms:=(.cons (.ret (.bin .mul (.idx (.var 0) (.cint 0)) (.idx (.var 0) (.cint 1))))
  .nil)
def qcP:Env:={ fn:=[],gc:=[],mn:=[],mt:=qay [],fs:=[],fi:=qax [],nw:=[],ck:=[],ik:=[],xk:=[] }
def g_many_cells:List D→RE ER:=qck qcP 1 0 qb2
def qaa:Sms:=(.cons (.fset 0 (.var 1))
  (.cons (.fset 1 (.pri .list (.cons (.var 2) .nil)))
  (.cons (.fset 2 (.var 3))
  (.cons (.fset 3 (.var 4))
  .nil))))
def qab:Env:={ fn:=[],gc:=[],mn:=[],mt:=qay [],fs:=[],fi:=qax [(0,0,0),(1,0,0),(2,0,0),(3,0,0),(4,0,0),(5,0,0),(6,0,0),(7,0,0),(25,0,0),(0,1,1),(1,1,1),(2,1,1),(3,1,1),(4,1,1),(5,1,1),(6,1,1),(7,1,1),(0,2,2),(1,2,2),(2,2,2),(3,2,2),(4,2,2),(5,2,2),(6,2,2),(7,2,2),(0,3,3),(1,3,3),(2,3,3),(3,3,3),(4,3,3),(5,3,3),(6,3,3),(7,3,3)],nw:=[],ck:=[],ik:=[],xk:=[] }
def ini_Unlike:List D→RE (List D):=qln qab 0 4 4 0 qaa
def ini_Total:List D→RE (List D):=qln qab 1 4 4 0 qaa
def ini_Rising:List D→RE (List D):=qln qab 2 4 4 0 qaa
def ini_Seen:List D→RE (List D):=qln qab 3 4 4 0 qaa
def ini_Counted:List D→RE (List D):=qln qab 4 4 4 0 qaa
def ini_Joined:List D→RE (List D):=qln qab 5 4 4 0 qaa
def ini_NoSquare:List D→RE (List D):=qln qab 6 4 4 0 qaa
def ini_Ring:List D→RE (List D):=qln qab 7 4 4 0 qaa
def qbW:Sms:=(.cons (.iff (.val (.cmp .ne (.pri .len (.cons (.var 2) .nil)) (.cint 1))) (.cons (.rse 0)
  .nil) .nil)
  (.cons (.asg 3 (.call 0 (.cons (.var 0) (.cons (.var 2) (.cons (.cint 0) .nil)))))
  (.cons (.asg 4 (.lrng (.cons (.call 1 (.cons (.var 0) .nil)) .nil)))
  (.cons (.iff (.val (.cmp .eq (.var 1) (.cstr [106,111,105,110,101,100]))) (.cons (.ret (.new 0 (.cons (.var 0) (.cons (.var 4) (.cons (.cint 0) (.cons (.var 3) .nil))))))
  .nil) .nil)
  (.cons (.iff (.val (.cmp .eq (.var 1) (.cstr [110,111,115,113,117,97,114,101]))) (.cons (.ret (.new 1 (.cons (.var 0) (.cons (.var 4) (.cons (.cint 0) (.cons (.var 3) .nil))))))
  .nil) .nil)
  (.cons (.ret (.new 2 (.cons (.var 0) (.cons (.var 4) (.cons (.cint 0) (.cons (.var 3) .nil))))))
  .nil))))))
def qcY:Env:={ fn:=[("sign_told",g_sign_told),("many_cells",g_many_cells)],gc:=[],mn:=[],mt:=qay [],fs:=[],fi:=qax [],nw:=[(5,ini_Joined),(6,ini_NoSquare),(7,ini_Ring)],ck:=[],ik:=[],xk:=[33] }
def g_whole_rule:List D→RE ER:=qck qcY 3 2 qbW
def qbU:Sms:=(.cons (.iff (.bop false (.cons (.val (.cmp .eq (.var 1) (.lst .nil))) (.cons (.val (.cmp .ne (.lset (.var 1)) (.pri .len (.cons (.var 1) .nil)))) (.cons (.val (.cmp .ge (.pri .max1 (.cons (.var 1) .nil)) (.call 0 (.cons (.var 0) .nil)))) .nil)))) (.cons (.rse 0)
  .nil) .nil)
  (.cons (.ret (.var 1))
  .nil))
def qcX:Env:={ fn:=[("many_cells",g_many_cells)],gc:=[],mn:=[],mt:=qay [],fs:=[],fi:=qax [],nw:=[],ck:=[],ik:=[],xk:=[33] }
def g_cells_told:List D→RE ER:=qck qcX 2 0 qbU
def qcu:Sms:=(.cons (.iff (.not (.val (.isi (.var 1) .str))) (.cons (.rse 0)
  .nil) .nil)
  (.cons (.asg 2 (.bm1 .split (.var 1) (.cstr [32])))
  (.cons (.asg 3 (.idx (.var 2) (.cint 0)))
  (.cons (.iff (.val (.cmp .nin (.var 3) (.tup (.cons (.cstr [117,110,108,105,107,101]) (.cons (.cstr [115,117,109]) (.cons (.cstr [114,105,115,105,110,103]) (.cons (.cstr [115,101,101,110]) (.cons (.cstr [99,111,117,110,116]) (.cons (.cstr [106,111,105,110,101,100]) (.cons (.cstr [110,111,115,113,117,97,114,101]) (.cons (.cstr [114,105,110,103]) .nil))))))))))) (.cons (.rse 0)
  .nil) .nil)
  (.cons (.asg 4 (.lc [5] (.any (.slc (.var 2) (.cons (.cint 1) .nil) .nil)) [5] .nil (.call 0 (.cons (.var 5) .nil))))
  (.cons (.iff (.val (.cmp .isin (.var 3) (.tup (.cons (.cstr [106,111,105,110,101,100]) (.cons (.cstr [110,111,115,113,117,97,114,101]) (.cons (.cstr [114,105,110,103]) .nil)))))) (.cons (.ret (.call 1 (.cons (.var 0) (.cons (.var 3) (.cons (.var 4) .nil)))))
  .nil) .nil)
  (.cons (.iff (.val (.cmp .eq (.var 3) (.cstr [117,110,108,105,107,101]))) (.cons (.ret (.new 0 (.cons (.var 0) (.cons (.call 2 (.cons (.var 0) (.cons (.var 4) .nil))) (.cons (.cint 0) (.cons (.cint 0) .nil))))))
  .nil) .nil)
  (.cons (.iff (.val (.cmp .eq (.var 3) (.cstr [114,105,115,105,110,103]))) (.cons (.ret (.new 1 (.cons (.var 0) (.cons (.call 2 (.cons (.var 0) (.cons (.var 4) .nil))) (.cons (.cint 0) (.cons (.cint 0) .nil))))))
  .nil) .nil)
  (.cons (.iff (.val (.cmp .eq (.var 3) (.cstr [99,111,117,110,116]))) (.cons (.asg 6 (.call 3 (.cons (.var 0) (.cons (.var 4) (.cons (.cint 1) .nil)))))
  (.cons (.ret (.new 2 (.cons (.var 0) (.cons (.call 2 (.cons (.var 0) (.cons (.slc (.var 4) (.cons (.cint 2) .nil) .nil) .nil))) (.cons (.idx (.var 4) (.cint 0)) (.cons (.var 6) .nil))))))
  .nil)) .nil)
  (.cons (.asg 7 (.call 2 (.cons (.var 0) (.cons (.slc (.var 4) (.cons (.cint 1) .nil) .nil) .nil))))
  (.cons (.iff (.val (.cmp .eq (.var 3) (.cstr [115,117,109]))) (.cons (.ret (.new 3 (.cons (.var 0) (.cons (.var 7) (.cons (.idx (.var 4) (.cint 0)) (.cons (.cint 0) .nil))))))
  .nil) .nil)
  (.cons (.ret (.new 4 (.cons (.var 0) (.cons (.var 7) (.cons (.idx (.var 4) (.cint 0)) (.cons (.cint 0) .nil))))))
  .nil))))))))))))
def qdo:Env:={ fn:=[("number_of",g_number_of),("whole_rule",g_whole_rule),("cells_told",g_cells_told),("sign_told",g_sign_told)],gc:=[],mn:=[],mt:=qay [],fs:=[],fi:=qax [],nw:=[(0,ini_Unlike),(2,ini_Rising),(4,ini_Counted),(1,ini_Total),(3,ini_Seen)],ck:=[],ik:=[],xk:=[33] }
def g_read_rule:List D→RE ER:=qck qdo 2 6 qcu
def qb4:Sms:=(.cons (.iff (.val (.cmp .ne (.pri .len (.cons (.var 1) .nil)) (.call 0 (.cons (.var 0) .nil)))) (.cons (.ret (.cbl false))
  .nil) .nil)
  (.cons (.ret (.pri .all (.cons (.lc [2] (.any (.var 1)) [2] .nil (.chn .le .le (.cint 0) (.var 2) (.idx (.var 0) (.cint 2)))) .nil)))
  .nil))
def qcG:Env:={ fn:=[("many_cells",g_many_cells)],gc:=[],mn:=[],mt:=qay [],fs:=[],fi:=qax [],nw:=[],ck:=[],ik:=[],xk:=[] }
def g_is_filling:List D→RE ER:=qck qcG 2 1 qb4
def qa6:Sms:=(.cons (.iff (.val (.cmp .ne (.pri .len (.cons (.var 1) .nil)) (.cint 3))) (.cons (.rse 0)
  .nil) .nil)
  (.cons (.fset 0 (.call 0 (.cons (.idx (.var 1) (.cint 0)) (.cons (.idx (.var 1) (.cint 1)) (.cons (.idx (.var 1) (.cint 2)) .nil)))))
  (.cons (.iff (.val (.cmp .gt (.pri .len (.cons (.var 2) .nil)) (.glo 0))) (.cons (.rse 1)
  .nil) .nil)
  (.cons (.fset 1 (.lc [4] (.any (.var 2)) [4] .nil (.call 1 (.cons (.sfd 0 0) (.cons (.var 4) .nil)))))
  (.cons (.iff (.not (.val (.call 2 (.cons (.sfd 0 0) (.cons (.var 3) .nil))))) (.cons (.rse 1)
  .nil) .nil)
  (.cons (.fset 2 (.pri .list (.cons (.var 3) .nil)))
  .nil))))))
def qbC:Env:={ fn:=[("floor_of",g_floor_of),("read_rule",g_read_rule),("is_filling",g_is_filling)],gc:=[("MOST_RULES",.int 12)],mn:=[],mt:=qay [],fs:=[],fi:=qax [(0,0,0),(1,0,0),(2,0,0),(3,0,0),(4,0,0),(5,0,0),(6,0,0),(7,0,0),(25,0,0),(25,1,1),(25,2,2)],nw:=[],ck:=[],ik:=[],xk:=[31,34] }
def ini_Puzzle:List D→RE (List D):=qln qbC 25 3 3 1 qa6
def qbc:Sms:=(.cons (.ret (.new 0 (.cons (.fld (.var 0) 0) (.cons (.mth 0 (.var 0) .nil) (.cons (.var 1) .nil)))))
  .nil)
def qbQ:Env:={ fn:=[],gc:=[],mn:=[],mt:=qay [(25,0,g_Puzzle_lines)],fs:=[],fi:=qax [(0,0,0),(1,0,0),(2,0,0),(3,0,0),(4,0,0),(5,0,0),(6,0,0),(7,0,0),(25,0,0)],nw:=[(25,ini_Puzzle)],ck:=[],ik:=[],xk:=[] }
def g_Puzzle_clued:List D→RE ER:=qck qbQ 2 0 qbc
def qm5:Sms:=(.cons (.asg 1 (.call 0 (.cons (.var 0) .nil)))
  (.cons (.asg 2 (.call 1 (.cons (.var 0) (.cons (.var 1) (.cons (.cint 20) .nil)))))
  (.cons (.asg 3 (.lc [4] (.rng (.cons (.bin .mdl (.call 2 (.cons (.var 0) (.cons (.cint 3) .nil))) (.cint 13)) .nil)) [4] .nil (.call 3 (.cons (.var 1) (.cons (.var 2) (.cons (.call 2 (.cons (.var 0) (.cons (.bin .add (.cint 4) (.var 4)) .nil))) .nil))))))
  (.cons (.asg 5 (.call 4 (.cons (.var 0) (.cons (.var 2) (.cons (.cint 36) .nil)))))
  (.cons (.asg 6 (.call 4 (.cons (.var 0) (.cons (.lrev (.var 2)) (.cons (.cint 45) .nil)))))
  (.cons (.row 7 (.cons (.pri .list (.cons (.var 3) .nil)) (.cons (.pri .list (.cons (.var 5) .nil)) (.cons (.pri .list (.cons (.var 6) .nil)) .nil))))
  (.cons (.asg 8 (.pk (.new 0 (.cons (.var 1) (.cons (.idx (.var 7) (.cint 0)) (.cons (.idx (.var 7) (.cint 1)) .nil))))))
  (.cons (.iff (.bop false (.cons (.val (.pk (.cmp .ne (.var 7) (.lst (.cons (.var 3) (.cons (.var 5) (.cons (.var 6) .nil))))))) (.cons (.not (.val (.call 5 (.cons (.var 8) (.cons (.var 1) (.cons (.var 3) (.cons (.var 5) .nil))))))) .nil))) (.cons (.ret (.cbl false))
  .nil) .nil)
  (.cons (.asg 9 (.pk (.mth 0 (.var 8) (.cons (.idx (.var 7) (.cint 2)) .nil))))
  (.cons (.rapp 7 0 (.cstr [115,117,109,32,48,32,48]))
  (.cons (.rclr 7 1)
  (.cons (.rput false 7 2 (.cint 0) (.neg (.cint 1)))
  (.cons (.iff (.bop false (.cons (.not (.val (.call 5 (.cons (.var 9) (.cons (.var 1) (.cons (.var 3) (.cons (.var 6) .nil))))))) (.cons (.not (.val (.call 5 (.cons (.var 8) (.cons (.var 1) (.cons (.var 3) (.cons (.var 5) .nil))))))) .nil))) (.cons (.ret (.cbl false))
  .nil) .nil)
  (.cons (.asg 10 (.lst (.cons (.mth 1 (.var 8) .nil) (.cons (.mth 2 (.var 8) .nil) (.cons (.pri .len (.cons (.mth 3 (.var 8) .nil) .nil)) .nil)))))
  (.cons (.tapp (.mth 1 (.var 8) .nil) (.cstr []))
  (.cons (.tclr (.mth 2 (.var 8) .nil))
  (.cons (.tclr (.mth 3 (.var 8) .nil))
  (.cons (.tapp (.mth 2 (.var 9) .nil) (.cint 0))
  (.cons (.iff (.bop false (.cons (.val (.cmp .ne (.var 10) (.lst (.cons (.var 3) (.cons (.var 5) (.cons (.pri .len (.cons (.var 3) .nil)) .nil)))))) (.cons (.not (.val (.call 5 (.cons (.var 8) (.cons (.var 1) (.cons (.var 3) (.cons (.var 5) .nil))))))) .nil))) (.cons (.ret (.cbl false))
  .nil) .nil)
  (.cons (.ret (.bop true (.cons (.call 5 (.cons (.var 9) (.cons (.var 1) (.cons (.var 3) (.cons (.var 6) .nil))))) (.cons (.cmp .eq (.var 10) (.lst (.cons (.var 3) (.cons (.var 5) (.cons (.pri .len (.cons (.var 3) .nil)) .nil))))) .nil))))
  .nil))))))))))))))))))))
def qpk:Env:={ fn:=[("_law_floor",g__law_floor),("_law_filling",g__law_filling),("_law_at",g__law_at),("_law_line",g__law_line),("_law_clues",g__law_clues),("_law_is",g__law_is)],gc:=[],mn:=[],mt:=qay [(25,0,g_Puzzle_clued),(25,1,g_Puzzle_lines),(25,2,g_Puzzle_clues),(25,3,g_Puzzle_rules)],fs:=[],fi:=qax [],nw:=[(25,ini_Puzzle)],ck:=[],ik:=[],xk:=[] }
def g_law:List D→RE ER:=qck qpk 1 10 qm5
end K19
namespace Cm
theorem qdK:∀ns:List Int,qb0 (ns.map D.int)=some ns
 |[]=>rfl
 |n::ns=>by simp[qb0,qdK ns]
theorem qdT (n:Nat):∀ns:List Int,D.fits (ns.map D.int) n=true
 |[]=>rfl
 |m::ns=>by simp[D.fits,D.fit,qdT n ns]
theorem qjI:∀ns ms:List Int,D.eqbs (ns.map D.int) (ms.map D.int)=decide (ns=ms)
 |[],[]=>by simp[D.eqbs]
 |[],_::_=>by simp[D.eqbs]
 |_::_,[]=>by simp[D.eqbs]
 |n::ns,m::ms=>by
  simp only[List.map_cons,D.eqbs,D.eqb,qjI ns ms]
  by_cases h:n=m<;>simp[h]
theorem qmO (ns ms:List Int):qjH (.lst (ns.map D.int)) (.lst (ms.map D.int))=.ok (decide (ns=ms)):=by
 simp[qjH,D.fit,qdT,D.eqb,qjI]
theorem qlj (x:Int):∀ns:List Int,((ns.map D.int).any fun z=>z.eqb (.int x))=decide (x∈ns)
 |[]=>by simp
 |n::ns=>by
  show(D.eqb (.int n) (.int x)||(ns.map D.int).any fun z=>z.eqb (.int x))=_
  rw[qlj x ns]
  simp only[D.eqb,List.mem_cons]
  by_cases h:n=x
  ·subst h;simp
  ·have:¬x=n:=fun e=>h e.symm
   simp[h,this]
theorem qq1 (x:Int) (ns:List Int):qmn (.int x) (.lst (ns.map D.int))=.ok (decide (x∈ns)):=by
 show(if ((D.int x).fit 64&&(D.lst (ns.map D.int)).fit 64)=true then RE.ok ((ns.map D.int).any fun z=>z.eqb (.int x)) else RE.bad)=_
 rw[if_pos (by simp[D.fit,qdT]),qlj]
theorem qin {α β:Type} (f:α→β):∀(l:List α) (i:Nat),(l.map f).eraseIdx i=(l.eraseIdx i).map f
 |[],_=>rfl
 |a::l,0=>rfl
 |a::l,i+1=>by simp[qin f l i]
theorem qhh {α:Type}:∀(l:List α) (i:Nat) (h:i<l.length),(l[i]::l.eraseIdx i).Perm l
 |[],_,h=>absurd h (Nat.not_lt_zero _)
 |a::l,0,_=>List.Perm.refl _
 |a::l,i+1,h=>(List.Perm.swap a _ _).trans ((qhh l i (Nat.lt_of_succ_lt_succ h)).cons a)
def IC (cs:List Nat):List Int:=cs.map fun c=>((c:Nat):Int)
theorem qux {j:Int} (h:j≠0):nzB j=true:=by rw[qbn];exact h
theorem qnZ {n:Nat} (h:n≤LIM):leB n=true:=by rw[qan];exact h
theorem qqN {i:Int} (h:-1000000≤i∧i≤1000000):qqt i=true:=by
 unfold qqt
 rw[Nat.ble_eq]
 omega
theorem qtc {n:Nat} (h:n≤1000000):qlV (n:Int)=true:=by
 have:LIM=16777216:=rfl
 unfold qlV
 rw[Bool.and_eq_true,qan]
 exact⟨qqN (by omega),by omega⟩
theorem qty {i j:Int} (h:-1000000≤i∧i≤1000000 ∧ -1000000≤j∧j≤1000000):qrK i j=true:=by
 have:LIM=16777216:=rfl
 unfold qrK
 rw[Bool.and_eq_true,Bool.and_eq_true,qan]
 exact⟨qqN (by omega),qqN (by omega),by omega⟩
section
variable {Γ:Env} {ss a b:Sms} {ρ ρ':List Sl} {i:Nat} {e ix:Ex} {d:D} {ds:List D} {f c:Bool}
theorem qmJ {n k:Nat} (h:k<n):L2.ixN n (k:Int)=some k:=by
 unfold L2.ixN
 rw[if_pos (by omega),if_pos (by omega)]
 simp
end
def qvR (r:RE ER):Bool:=match r with
 |.ok (.val (.bl true) _)=>true
 |_=>false
end Cm
namespace Cm
theorem RE.bind_assoc {α β γ:Type} (m:RE α) (f:α→RE β) (g:β→RE γ):(m.bind f).bind g=m.bind fun x=>(f x).bind g:=by cases m<;>rfl
@[simp] theorem RE.bind_pure {α:Type} (m:RE α):m.bind RE.ok=m:=by cases m<;>rfl
inductive Sh where
 |v | f | b | n | o
def ER.isF:ER→Bool
 |.fre _ _=>true
 |_=>false
def qim:Sh→ER→Prop
 |.v,er=>er.isV=true
 |.f,er=>er.isF=true
 |.b,er=>er.isB=true
 |.n,er=>er.isB=false
 |.o,er=>er.isF=true∨(er.isV=true∧er.d=.non)
def Sh.nb:Sh→Bool
 |.b=>false
 |_=>true
def Sh.ret:Sh→Sh
 |.b=>.f
 |s=>s
structure Is (s:Sh) (t:Bool) (d:D) (er:ER):Prop where
 d:er.d=d
 s:qim s er
 t:t=true→er.b=true
def XR {α β:Type} (r:RE β) (m:RE α) (R:α→β→Prop):Prop:=match m with
 |.bad=>True
 |.ok v=>∃x,r=.ok x∧R v x
 |.exc c fs=>r=.exc c fs
theorem XR.bind {α β γ δ:Type} {r:RE β} {m:RE α} {R:α→β→Prop} {f:β→RE γ} {g:α→RE δ} {S:δ→γ→Prop} (h:XR r m R) (k:∀v x,R v x→XR (f x) (g v) S):XR (r.bind f) (m.bind g) S:=by
 cases m with
 |bad=>trivial
 |ok v=>obtain⟨x,e,hx⟩:=h;rw[e];exact k v x hx
 |exc c fs=>have h:r=_:=h;rw[h];rfl
theorem XR.mono {α β:Type} {r:RE β} {m:RE α} {R S:α→β→Prop} (h:XR r m R) (k:∀v x,R v x→S v x):XR r m S:=by
 cases m with
 |bad=>trivial
 |ok v=>obtain⟨x,e,hx⟩:=h;exact⟨x,e,k v x hx⟩
 |exc c fs=>exact h
theorem XR.pure {α β:Type} {v:α} {x:β} {R:α→β→Prop} (h:R v x):XR (.ok x) (.ok v) R:=⟨x,rfl,h⟩
theorem XR.to {α β:Type} {r:RE β} {v:α} {R:α→β→Prop} (h:XR r (.ok v) R):∃x,r=.ok x∧R v x:=h
abbrev XE {α:Type} (Γ:Env) (e:Ex) (ρ:List Sl) (m:RE α) (en:α→D) (s:Sh) (t:Bool):Prop:=XR (ev Γ e ρ) m fun v er=>Is s t (en v) er
abbrev XT (Γ:Env) (e:Te) (ρ:List Sl) (m:RE Bool):Prop:=XR (evT Γ e ρ) m fun v x=>x=v
abbrev XI {α:Type} (Γ:Env) (e:Itx) (ρ:List Sl) (m:RE (List α)) (en:α→D) (t o:Bool):Prop:=XR (evI Γ e ρ) m fun xs w=>w.xs=xs.map en∧(t=true→w.b=true)∧(o=false→w.own=false)
abbrev Rf {α:Type} (r:RE ER) (m:RE α) (en:α→D) (s:Sh) (t:Bool):Prop:=XR r m fun v er=>Is s t (en v) er
theorem Is.val {d:D} {b t:Bool} (h:t=true→b=true):Is .v t d (.val d b):=⟨rfl,rfl,h⟩
theorem Is.fre {ds:List D} {b t:Bool} (h:t=true→b=true):Is .f t (.lst ds) (.fre ds b):=⟨rfl,rfl,h⟩
theorem xok {α:Type} {v:α} {d:D} {en:α→D} {t:Bool} (h:d=en v):XR (ok d) (.ok v) fun v er=>Is .v t (en v) er:=⟨_,rfl,h,rfl,fun _=>rfl⟩
theorem qs1 {α:Type} {v:α} {d:D} {b t:Bool} {en:α→D} (h:d=en v) (k:t=true→b=true):XR (RE.ok (.val d b)) (.ok v) fun v er=>Is .v t (en v) er:=⟨_,rfl,h,rfl,k⟩
theorem qpd {α:Type} {v:α} {ds:List D} {b t:Bool} {en:α→D} (h:.lst ds=en v) (k:t=true→b=true):XR (RE.ok (.fre ds b)) (.ok v) fun v er=>Is .f t (en v) er:=⟨_,rfl,h,rfl,k⟩
theorem Is.weak {s:Sh} {t:Bool} {d:D} {er:ER} (h:Is s t d er) (hs:s.nb=true):Is .n t d er:=⟨h.d,by
 have:=h.s
 cases s<;>cases er<;>simp_all[qim,ER.isF,Sh.nb],h.t⟩
theorem Is.low {s:Sh} {t:Bool} {d:D} {er:ER} (h:Is s t d er):Is s false d er:=⟨h.d,h.s,fun e=>nomatch e⟩
abbrev eI:Int→D:=D.int
abbrev eB:Bool→D:=D.bl
abbrev eS:List Nat→D:=D.str
def eC (c:Nat):D:=.str [c]
def eU (_:Unit):D:=.non
def eD (d:D):D:=d
def eL {α:Type} (en:α→D) (xs:List α):D:=.lst (xs.map en)
def eO {α:Type} (en:α→D):Option α→D
 |none=>.non
 |some x=>en x
def eT1 {α:Type} (a:α→D) (p:α):D:=.tup [a p]
def eT2 {α β:Type} (a:α→D) (b:β→D) (p:α × β):D:=.tup [a p.1,b p.2]
def eT3 {α β γ:Type} (a:α→D) (b:β→D) (c:γ→D) (p:α × β × γ):D:=.tup [a p.1,b p.2.1,c p.2.2]
def eT4 {α β γ δ:Type} (a:α→D) (b:β→D) (c:γ→D) (d:δ→D) (p:α × β × γ × δ):D:=.tup [a p.1,b p.2.1,c p.2.2.1,d p.2.2.2]
def eT5 {α β γ δ ε:Type} (a:α→D) (b:β→D) (c:γ→D) (d:δ→D) (e:ε→D) (p:α × β × γ × δ × ε):D:=.tup [a p.1,b p.2.1,c p.2.2.1,d p.2.2.2.1,e p.2.2.2.2]
def eT6 {α β γ δ ε ζ:Type} (a:α→D) (b:β→D) (c:γ→D) (d:δ→D) (e:ε→D) (f:ζ→D) (p:α × β × γ × δ × ε × ζ):D:=.tup [a p.1,b p.2.1,c p.2.2.1,d p.2.2.2.1,e p.2.2.2.2.1,f p.2.2.2.2.2]
def eX (c:Nat):D:=.exc c []
class Flat {α:Type} (en:α→D):Prop where
 flat:∀v,(en v).flat=true
instance:Flat eI:=⟨fun _=>rfl⟩
instance:Flat eB:=⟨fun _=>rfl⟩
instance:Flat eS:=⟨fun _=>rfl⟩
instance:Flat eC:=⟨fun _=>rfl⟩
instance:Flat eU:=⟨fun _=>rfl⟩
instance:Flat eX:=⟨fun _=>rfl⟩
instance {α:Type} {en:α→D} [Flat en]:Flat (eO en):=⟨fun v=>by cases v with
 |none=>rfl
 |some x=>exact Flat.flat (en:=en) x⟩
instance {α β:Type} {a:α→D} {b:β→D} [ha:Flat a] [hb:Flat b]:Flat (eT2 a b):=⟨fun v=>by simp[eT2,ha.flat,hb.flat]⟩
instance {α β γ:Type} {a:α→D} {b:β→D} {c:γ→D} [ha:Flat a] [hb:Flat b] [hc:Flat c]:Flat (eT3 a b c):=⟨fun v=>by simp[eT3,ha.flat,hb.flat,hc.flat]⟩
instance {α β γ δ:Type} {a:α→D} {b:β→D} {c:γ→D} {d:δ→D} [ha:Flat a] [hb:Flat b] [hc:Flat c] [hd:Flat d]:Flat (eT4 a b c d):=⟨fun v=>by simp[eT4,ha.flat,hb.flat,hc.flat,hd.flat]⟩
theorem qgF {α:Type} {en:α→D} [h:Flat en]:∀xs:List α,D.flats (xs.map en)=true
 |[]=>rfl
 |x::xs=>by simp[h.flat,qgF xs]
def qn3 {α:Type} (s:Sh) (t:Bool) (en:α→D):Prop:=t=true∨(s=.v∧∀v,(en v).flat=true)∨(s=.f∧∀v ds,en v=.lst ds→D.flats ds=true)
theorem qa3 {α:Type} {s:Sh} {en:α→D}:qn3 s true en:=.inl rfl
def Sl.rd:Sl→Sl
 |.fxd d _=>.val d false
 |s=>s
def SlV (t:Bool) (d:D) (s:Sl):Prop:=∃f,s.rd=.val d f∧(t=true→f=true)
theorem qnT {s:Sl} {d:D} {f:Bool} (h:s.rd=.val d f):s=.val d f∨(f=false∧∃k,s=.fxd d k):=by
 cases s with
 |fxd d' k=>cases h;exact .inr ⟨rfl,k,rfl⟩
 |val _ _=>exact .inl h
 |own _ _=>cases h
 |non=>cases h
 |slf _ _=>cases h
 |dct _ _=>cases h
 |row _=>cases h
def SlO (t:Bool) (ds:List D) (s:Sl):Prop:=∃f,s=.own ds f∧(t=true→f=true)
theorem SlV.low {t:Bool} {d:D} {s:Sl} (h:SlV t d s):SlV false d s:=by
 obtain⟨f,e,_⟩:=h
 exact⟨f,e,fun e=>nomatch e⟩
theorem SlO.low {t:Bool} {d:List D} {s:Sl} (h:SlO t d s):SlO false d s:=by
 obtain⟨f,e,_⟩:=h
 exact⟨f,e,fun e=>nomatch e⟩
theorem SlV.flat {α:Type} {en:α→D} [h:Flat en] {v:α}:SlV true (en v) (.val (en v) (en v).flat):=⟨_,rfl,fun _=>h.flat v⟩
theorem SlV.any {d:D} {b:Bool}:SlV false d (.val d b):=⟨_,rfl,fun e=>nomatch e⟩
section
variable {Γ:Env} {ρ:List Sl} {α β γ δ ε:Type} {en:α→D} {en2:β→D} {en3:γ→D} {a b c e:Ex} {s s1 s2 s3:Sh} {t t1 t2 t3:Bool} {m:RE α} {x:α} {y:β} {z:γ}
theorem XE.weak {m:RE α} (h:XE Γ e ρ m en s t) (hs:s.nb=true):XE Γ e ρ m en .n t:=XR.mono h fun _ _ k=>k.weak hs
theorem XE.low {m:RE α} (h:XE Γ e ρ m en s t):XE Γ e ρ m en s false:=XR.mono h fun _ _ k=>k.low
theorem XE.coe {x:α} {f:α→β} (h:XE Γ e ρ (.ok x) en s t) (k:∀v,en v=en2 (f v)):XE Γ e ρ (.ok (f x)) en2 s t:=by
 obtain⟨er,q,r⟩:=h
 exact⟨er,q,by rw[←k];exact r.d,r.s,r.t⟩
theorem XE.coeG {m:RE α} {f:α→β} (h:XE Γ e ρ m en s t) (k:∀v,en v=en2 (f v)):XE Γ e ρ (m.bind fun x=>.ok (f x)) en2 s t:=by
 cases m with
 |bad=>trivial
 |ok x=>exact XE.coe h k
 |exc c fs=>exact h
theorem XE.cast {m m':RE α} (h:XE Γ e ρ m en s t) (k:m'=m):XE Γ e ρ m' en s t:=by rw[k];exact h
theorem XE.var {i:Nat} {q:Sl} (h:ρ[i]? = some q) (hs:SlV t (en x) q):XE Γ (.var i) ρ (.ok x) en .v t:=by
 obtain⟨f,e,k⟩:=hs
 rcases qnT e with rfl | ⟨rfl,j,rfl⟩
 ·exact⟨.val (en x) f,by rw[ev,h],rfl,rfl,k⟩
 ·exact⟨.val (en x) false,by rw[ev,h],rfl,rfl,k⟩
theorem XE.varO {i:Nat} {q:Sl} {xs:List α} (h:ρ[i]? = some q) (hs:SlO t (xs.map en) q):XE Γ (.var i) ρ (.ok xs) (eL en) .b t:=by
 obtain⟨f,rfl,k⟩:=hs
 exact⟨.brw (xs.map en) f,by rw[ev,h],rfl,rfl,k⟩
theorem XE.cint {i:Int}:XE Γ (.cint i) ρ (.ok i) eI .v true:=by unfold XE;rw[ev];exact xok rfl
theorem XE.cbl {i:Bool}:XE Γ (.cbl i) ρ (.ok i) eB .v true:=by unfold XE;rw[ev];exact xok rfl
theorem XE.cstr {i:List Nat}:XE Γ (.cstr i) ρ (.ok i) eS .v true:=by unfold XE;rw[ev];exact xok rfl
theorem XE.glo {i:Nat} {nm:PySem.Str} {d:D} (h:Γ.gc[i]? = some (nm,d)) (k:d=en x):XE Γ (.glo i) ρ (.ok x) en .v true:=by unfold XE;rw[ev,h];exact qs1 k fun _=>rfl
theorem XE.bin {o:Bop} {m1:RE α} {m2:RE β} {f:α→β→RE γ} (ha:XE Γ a ρ m1 en s1 t1) (hb:XE Γ b ρ m2 en2 s2 t2) (h:∀x y bb,((t1&&t2)=true→bb=true)→XR (evB o (en x) (en2 y) bb) (f x y) fun v er=>Is s t (en3 v) er) :
  XE Γ (.bin o a b) ρ (m1.bind fun x=>m2.bind fun y=>f x y) en3 s t:=by
 unfold XE
 rw[ev]
 exact XR.bind ha fun x ex hx=>XR.bind hb fun y ey hy=>by
  rw[hx.d,hy.d]
  exact h x y _ fun k=>by
   rw[Bool.and_eq_true] at k
   rw[hx.t k.1,hy.t k.2];rfl
theorem XE.binP {o:Bop} {f:RE γ} (ha:XE Γ a ρ (.ok x) en s1 t1) (hb:XE Γ b ρ (.ok y) en2 s2 t2) (h:∀bb,((t1&&t2)=true→bb=true)→XR (evB o (en x) (en2 y) bb) f fun v er=>Is s t (en3 v) er) :
  XE Γ (.bin o a b) ρ f en3 s t:=by
 obtain⟨ex,e1,h1⟩:=ha
 obtain⟨ey,e2,h2⟩:=hb
 unfold XE
 rw[ev,e1,e2]
 simp only[RE.bind_ok]
 rw[h1.d,h2.d]
 exact h _ fun k=>by
  rw[Bool.and_eq_true] at k
  rw[h1.t k.1,h2.t k.2];rfl
theorem xgd {b:Bool} {r:RE ER} {m:RE α} {R:α→ER→Prop} (h:XR r m R):XR (gd b r) (gd b m) R:=by
 cases b
 ·trivial
 ·exact h
theorem qct (x y:Int) (bb:Bool) (_:(t1&&t2)=true→bb=true):XR (evB .add (eI x) (eI y) bb) (.ok (x+y)) fun v er=>Is .v true (eI v) er:=xok rfl
theorem qte (x y:Int) (bb:Bool) (_:(t1&&t2)=true→bb=true):XR (evB .sub (eI x) (eI y) bb) (.ok (x - y)) fun v er=>Is .v true (eI v) er:=xok rfl
theorem qpu (x y:Int) (h:qn2 x y=true) (bb:Bool) (_:(t1&&t2)=true→bb=true):XR (evB .mul (eI x) (eI y) bb) (.ok (x*y)) fun v er=>Is .v true (eI v) er:=by
 show XR (gd (qn2 x y) _) _ _
 rw[h];exact xok rfl
theorem qnk {x y:Int} (h:Nat.ble x.natAbs 18446744073709551615=true):qn2 x y=true:=by unfold qn2;rw[h];rfl
theorem qrU {x y:Int} (h:Nat.ble y.natAbs 18446744073709551615=true):qn2 x y=true:=by unfold qn2;rw[h];simp
def qjX (x y:Int):RE Int:=gd (qn2 x y) (.ok (x*y))
theorem qjc (x y:Int) (bb:Bool) (_:(t1&&t2)=true→bb=true):XR (evB .mul (eI x) (eI y) bb) (qjX x y) fun v er=>Is .v true (eI v) er:=xgd (xok rfl)
def qqj (x y:Int):RE Int:=gd (qrI y) (.ok (x.fdiv y))
theorem qt4 (x y:Int) (bb:Bool) (_:(t1&&t2)=true→bb=true):XR (evB .fdv (eI x) (eI y) bb) (qqj x y) fun v er=>Is .v true (eI v) er:=xgd (xok rfl)
theorem qpF (x y:Int) (h:qrI y=true) (bb:Bool) (_:(t1&&t2)=true→bb=true):XR (evB .fdv (eI x) (eI y) bb) (.ok (x.fdiv y)) fun v er=>Is .v true (eI v) er:=by
 show XR (gd (qrI y) _) _ _
 rw[h];exact xok rfl
def qlA (x y:Int):RE Int:=gd (nzB y) (.ok (x.fmod y))
theorem qlN (x y:Int) (bb:Bool) (_:(t1&&t2)=true→bb=true):XR (evB .mdl (eI x) (eI y) bb) (qlA x y) fun v er=>Is .v true (eI v) er:=xgd (xok rfl)
theorem qea (x y:Int) (h:nzB y=true) (bb:Bool) (_:(t1&&t2)=true→bb=true):XR (evB .mdl (eI x) (eI y) bb) (.ok (x.fmod y)) fun v er=>Is .v true (eI v) er:=by
 show XR (gd (nzB y) _) _ _
 rw[h];exact xok rfl
def qvA (x y:Int):RE Int:=gd (qrH x y) (.ok (x ^ y.toNat))
def qto (x y:Int):RE Int:=gd (qrH x y) (.ok (x*2 ^ y.toNat))
def qvH (x y:Int):RE Int:=gd (nnB y) (.ok (x / 2 ^ y.toNat))
def qoX (x y:List Nat):RE (List Nat):=gd (leB (x.length+y.length)) (.ok (x++y))
theorem qpr (x y:List Nat) (bb:Bool) (_:(t1&&t2)=true→bb=true):XR (evB .add (eS x) (eS y) bb) (qoX x y) fun v er=>Is .v true (eS v) er:=xgd (xok rfl)
def qf2 (x y:List α):RE (List α):=gd (leB (x.length+y.length)) (.ok (x++y))
theorem qhm (x y:List α) (bb:Bool) (h:(t1&&t2)=true→bb=true):XR (evB .add (eL en x) (eL en y) bb) (qf2 x y) fun v er=>Is .f (t1&&t2) (eL en v) er:=by
 show XR (gd (leB ((x.map en).length+(y.map en).length)) _) (gd _ _) _
 rw[List.length_map,List.length_map]
 exact xgd (qpd (by simp[eL]) h)
def qvw (x:List α) (k:Int):RE (List α):=gd (qrF x.length k) (.ok (List.replicate k.toNat x).flatten)
theorem XE.cmp {o:Cop} {m1:RE α} {m2:RE β} {f:α→β→RE Bool} (ha:XE Γ a ρ m1 en s1 t1) (hb:XE Γ b ρ m2 en2 s2 t2) (h:∀x y,evC o (en x) (en2 y)=f x y):XE Γ (.cmp o a b) ρ (m1.bind fun x=>m2.bind fun y=>f x y) eB .v true:=by
 unfold XE
 rw[ev]
 exact XR.bind ha fun x ex hx=>XR.bind hb fun y ey hy=>by
  rw[hx.d,hy.d,h]
  cases f x y with
  |bad=>trivial
  |ok v=>exact xok rfl
  |exc c fs=>rfl
theorem XE.cmpP {o:Cop} {f:RE Bool} (ha:XE Γ a ρ (.ok x) en s1 t1) (hb:XE Γ b ρ (.ok y) en2 s2 t2) (h:evC o (en x) (en2 y)=f):XE Γ (.cmp o a b) ρ f eB .v true:=by
 have:=XE.cmp (o:=o) ha hb (f:=fun x y=>evC o (en x) (en2 y)) (fun _ _=>rfl)
 rw[←h];exact this
theorem qjv (x y:Int):evC .eq (eI x) (eI y)=.ok (decide (x=y)):=rfl
theorem qkJ (x y:Int):evC .ne (eI x) (eI y)=.ok (!decide (x=y)):=rfl
theorem qtx (x y:Int):evC .lt (eI x) (eI y)=.ok (decide (x<y)):=rfl
theorem qfY (x y:Int):evC .le (eI x) (eI y)=.ok (decide (x≤y)):=rfl
theorem qlK (x y:Int):evC .gt (eI x) (eI y)=.ok (decide (y<x)):=rfl
theorem qse (x y:Int):evC .ge (eI x) (eI y)=.ok (decide (y≤x)):=rfl
theorem ql1 (x y:List Nat):evC .eq (eS x) (eS y)=.ok (decide (x=y)):=rfl
theorem qr2 (x y:List Int):evC .eq (eL eI x) (eL eI y)=.ok (decide (x=y)):=qmO x y
theorem qr4 (x y:List Int):evC .ne (eL eI x) (eL eI y)=.ok (!decide (x=y)):=by
 show(qjH (eL eI x) (eL eI y)).bind _=_
 rw[show qjH (eL eI x) (eL eI y)=.ok (decide (x=y)) from qmO x y];rfl
def qvy (d:D) {α:Type} (r:RE α):RE α:=gd (d.fit 64) r
theorem qtJ (x:Int) (y:List Int):evC .isin (eI x) (eL eI y)=.ok (decide (x∈y)):=qq1 x y
theorem qrX (x:Nat) (y:List Nat):evC .nin (eC x) (eS y)=.ok (!decide (x∈y)):=rfl
theorem qtY (x:Nat) (y:List Nat):evC .eq (eC x) (eS y)=.ok (decide ([x]=y)):=rfl
theorem XE.chn {o p:Cop} {m1:RE α} {m2:RE β} {m3:RE γ} {f:α→β→Bool} {g:β→γ→Bool} (ha:XE Γ a ρ m1 en s1 t1) (hb:XE Γ b ρ m2 en2 s2 t2) (hc:XE Γ c ρ m3 en3 s3 t3) (h:∀x y,evC o (en x) (en2 y)=.ok (f x y)) (k:∀x y,evC p (en2 x) (en3 y)=.ok (g x y)) :
  XE Γ (.chn o p a b c) ρ (m1.bind fun x=>m2.bind fun y=>if f x y=true then m3.bind fun z=>.ok (g y z) else .ok false) eB .v true:=by
 unfold XE
 rw[ev]
 refine XR.bind ha fun x ex hx=>XR.bind hb fun y ey hy=>?_
 ·rw[hx.d,hy.d,h]
  simp only[RE.bind_ok]
  cases f x y with
  |false=>exact xok rfl
  |true=>exact XR.bind hc fun z ez hz=>(by rw[hz.d,k];exact xok rfl)
theorem XE.chnP {o p:Cop} {f g:Bool} (ha:XE Γ a ρ (.ok x) en s1 t1) (hb:XE Γ b ρ (.ok y) en2 s2 t2) (hc:XE Γ c ρ (.ok z) en3 s3 t3) (h:evC o (en x) (en2 y)=.ok f) (k:evC p (en2 y) (en3 z)=.ok g) :
  XE Γ (.chn o p a b c) ρ (.ok (f&&g)) eB .v true:=by
 obtain⟨ex,e1,h1⟩:=ha
 obtain⟨ey,e2,h2⟩:=hb
 obtain⟨ez,e3,h3⟩:=hc
 unfold XE
 rw[ev,e1,e2]
 simp only[RE.bind_ok]
 rw[h1.d,h2.d,h]
 simp only[RE.bind_ok]
 cases f with
 |false=>exact xok rfl
 |true =>
  simp only[if_true,e3,RE.bind_ok]
  rw[h3.d,k]
  exact xok rfl
def unO:Option α→RE α
 |none=>.bad
 |some x=>.ok x
theorem XE.unO {x:Option α} (h:XE Γ e ρ (.ok x) (eO en) s t):XE Γ e ρ (unO x) en s t:=by
 cases x with
 |none=>trivial
 |some v=>exact h
abbrev XV (Γ:Env) (c:Bool) (es:Exs) (ρ:List Sl) (m:RE Bool):Prop:=XR (qnK Γ c es ρ) m fun v er=>Is .v true (eB v) er
abbrev XTs (Γ:Env) (c:Bool) (es:Tes) (ρ:List Sl) (m:RE Bool):Prop:=XR (qhM Γ c es ρ) m fun v x=>x=v
theorem XV.one {es:Ex} {c:Bool} {m:RE Bool} (h:XE Γ es ρ m eB s t):XV Γ c (.cons es .nil) ρ m:=by
 unfold XV
 rw[qnK]
 have:m=m.bind fun k=>.ok k:=by cases m<;>rfl
 rw[this]
 exact XR.bind h fun v er k=>by
  rw[k.d]
  simp only[qnK]
  split
  ·subst_vars;exact xok rfl
  ·exact xok rfl
theorem XV.and {e:Ex} {es:Exs} {m1 m2:RE Bool} (h:XE Γ e ρ m1 eB s t) (k:XV Γ true es ρ m2):XV Γ true (.cons e es) ρ (m1.bind fun x=>if x=true then m2 else .ok false):=by
 unfold XV
 rw[qnK]
 exact XR.bind h fun v er q=>by
  rw[q.d]
  cases v with
  |true=>exact k
  |false=>exact xok rfl
theorem XV.or {e:Ex} {es:Exs} {m1 m2:RE Bool} (h:XE Γ e ρ m1 eB s t) (k:XV Γ false es ρ m2):XV Γ false (.cons e es) ρ (m1.bind fun x=>if x=true then .ok true else m2):=by
 unfold XV
 rw[qnK]
 exact XR.bind h fun v er q=>by
  rw[q.d]
  cases v with
  |true=>exact xok rfl
  |false=>exact k
theorem XV.andP {e:Ex} {es:Exs} {x y:Bool} (h:XE Γ e ρ (.ok x) eB s t) (k:XV Γ true es ρ (.ok y)):XV Γ true (.cons e es) ρ (.ok (x&&y)):=by
 have:=XV.and h k
 cases x<;>exact this
theorem XV.orP {e:Ex} {es:Exs} {x y:Bool} (h:XE Γ e ρ (.ok x) eB s t) (k:XV Γ false es ρ (.ok y)):XV Γ false (.cons e es) ρ (.ok (x||y)):=by
 have:=XV.or h k
 cases x<;>exact this
theorem XE.bop {c:Bool} {es:Exs} {m:RE Bool} (h:XV Γ c es ρ m):XE Γ (.bop c es) ρ m eB .v true:=by unfold XE;rw[ev];exact h
class Tru {α:Type} (en:α→D) (f:outParam (α→Bool)):Prop where
 tru:∀v,qgI (en v)=.ok (f v)
instance:Tru eB id:=⟨fun _=>rfl⟩
instance:Tru eI (fun i=>i != 0):=⟨fun _=>rfl⟩
instance {α:Type} {en:α→D}:Tru (eL en) (fun xs=>!xs.isEmpty):=⟨fun v=>by cases v<;>rfl⟩
theorem XE.bnot {m:RE Bool} (h:XE Γ a ρ m eB s t):XE Γ (.bnot a) ρ (m.bind fun x=>.ok (!x)) eB .v true:=by
 unfold XE;rw[ev]
 exact XR.bind h fun v er k=>by rw[k.d];exact xok rfl
theorem XE.bnotP {x:Bool} (h:XE Γ a ρ (.ok x) eB s t):XE Γ (.bnot a) ρ (.ok (!x)) eB .v true:=XE.bnot h
theorem XE.neg {m:RE Int} (h:XE Γ a ρ m eI s t):XE Γ (.neg a) ρ (m.bind fun x=>.ok (-x)) eI .v true:=by
 unfold XE;rw[ev]
 exact XR.bind h fun v er k=>by rw[k.d];exact xok rfl
theorem XE.negP {x:Int} (h:XE Γ a ρ (.ok x) eI s t):XE Γ (.neg a) ρ (.ok (-x)) eI .v true:=XE.neg h
theorem XT.val {m:RE Bool} (h:XE Γ a ρ m eB s t):XT Γ (.val a) ρ m:=by
 unfold XT;rw[evT]
 have:m=m.bind fun k=>.ok k:=by cases m<;>rfl
 rw[this]
 exact XR.bind h fun v er k=>by rw[k.d];exact⟨_,rfl,rfl⟩
theorem XT.not {q:Te} {m:RE Bool} (h:XT Γ q ρ m):XT Γ (.not q) ρ (m.bind fun x=>.ok (!x)):=by
 unfold XT;rw[evT]
 exact XR.bind h fun v er k=>by subst k;exact⟨_,rfl,rfl⟩
theorem XT.notP {q:Te} {x:Bool} (h:XT Γ q ρ (.ok x)):XT Γ (.not q) ρ (.ok (!x)):=XT.not h
theorem XTs.one {q:Te} {c:Bool} {m:RE Bool} (h:XT Γ q ρ m):XTs Γ c (.cons q .nil) ρ m:=by
 unfold XTs;rw[qhM]
 have:m=m.bind fun k=>.ok k:=by cases m<;>rfl
 rw[this]
 exact XR.bind h fun v er k=>by
  subst k
  simp only[qhM]
  split
  ·subst_vars;exact⟨_,rfl,rfl⟩
  ·exact⟨_,rfl,rfl⟩
theorem XTs.and {q:Te} {es:Tes} {m1 m2:RE Bool} (h:XT Γ q ρ m1) (k:XTs Γ true es ρ m2):XTs Γ true (.cons q es) ρ (m1.bind fun x=>if x=true then m2 else .ok false):=by
 unfold XTs;rw[qhM]
 exact XR.bind h fun v er q=>by
  subst q
  cases er
  ·exact⟨_,rfl,rfl⟩
  ·exact k
theorem XTs.or {q:Te} {es:Tes} {m1 m2:RE Bool} (h:XT Γ q ρ m1) (k:XTs Γ false es ρ m2):XTs Γ false (.cons q es) ρ (m1.bind fun x=>if x=true then .ok true else m2):=by
 unfold XTs;rw[qhM]
 exact XR.bind h fun v er q=>by
  subst q
  cases er
  ·exact k
  ·exact⟨_,rfl,rfl⟩
theorem XTs.andP {q:Te} {es:Tes} {x y:Bool} (h:XT Γ q ρ (.ok x)) (k:XTs Γ true es ρ (.ok y)):XTs Γ true (.cons q es) ρ (.ok (x&&y)):=by
 have:=XTs.and h k
 cases x<;>exact this
theorem XTs.orP {q:Te} {es:Tes} {x y:Bool} (h:XT Γ q ρ (.ok x)) (k:XTs Γ false es ρ (.ok y)):XTs Γ false (.cons q es) ρ (.ok (x||y)):=by
 have:=XTs.or h k
 cases x<;>exact this
theorem XT.bop {c:Bool} {es:Tes} {m:RE Bool} (h:XTs Γ c es ρ m):XT Γ (.bop c es) ρ m:=by unfold XT;rw[evT];exact h
def atE (xs:List α) (k:Int):RE α:=match L2.atI xs k with
 |some x=>.ok x
 |none=>.bad
theorem qnO (f:α→β) (xs:List α) (k:Int):L2.atI (xs.map f) k=(L2.atI xs k).map f:=by
 unfold L2.atI
 rw[List.length_map]
 cases L2.ixN xs.length k<;>simp
theorem XE.idx {m1:RE (List α)} {m2:RE Int} (ha:XE Γ a ρ m1 (eL en) s1 t) (hb:XE Γ b ρ m2 eI s2 t2):XE Γ (.idx a b) ρ (m1.bind fun xs=>m2.bind fun k=>atE xs k) en .v t:=by
 unfold XE;rw[ev]
 exact XR.bind ha fun xs ex hx=>XR.bind hb fun k ek hk=>by
  rw[hx.d,hk.d]
  show XR (match L2.atI (xs.map en) k with
   |some x=>RE.ok (ER.val x (ex.b||x.flat))
   |none=>.bad) _ _
  rw[qnO]
  unfold atE
  cases L2.atI xs k with
  |none=>trivial
  |some x=>exact⟨_,rfl,rfl,rfl,fun z=>by show(_||_)=true;rw[hx.t z];rfl⟩
theorem XE.idxP {xs:List α} {k:Int} (ha:XE Γ a ρ (.ok xs) (eL en) s1 t) (hb:XE Γ b ρ (.ok k) eI s2 t2):XE Γ (.idx a b) ρ (atE xs k) en .v t:=XE.idx ha hb
theorem XE.flat [h:Flat en] {m:RE α} (k:XE Γ e ρ m en .v t) (q:∀x b,ev Γ e ρ=.ok (.val (en x) b)→b=true):XE Γ e ρ m en .v true:=by
 cases m with
 |bad=>trivial
 |ok x =>
  obtain⟨er,e1,e2⟩:=k
  refine⟨er,e1,e2.d,e2.s,fun _=>?_⟩
  cases er with
  |val d b =>
   have:=e2.d
   simp only[ER.d_val] at this
   subst this
   exact q _ _ e1
  |fre ds b=>exact nomatch e2.s
  |brw ds b=>exact nomatch e2.s
 |exc c fs=>exact k
theorem XE.idxF [h:Flat en] {m1:RE (List α)} {m2:RE Int} (ha:XE Γ a ρ m1 (eL en) s1 t) (hb:XE Γ b ρ m2 eI s2 t2):XE Γ (.idx a b) ρ (m1.bind fun xs=>m2.bind fun k=>atE xs k) en .v true:=by
 unfold XE;rw[ev]
 exact XR.bind ha fun xs ex hx=>XR.bind hb fun k ek hk=>by
  rw[hx.d,hk.d]
  show XR (match L2.atI (xs.map en) k with
   |some x=>RE.ok (ER.val x (ex.b||x.flat))
   |none=>.bad) _ _
  rw[qnO]
  unfold atE
  cases L2.atI xs k with
  |none=>trivial
  |some x=>exact⟨_,rfl,rfl,rfl,fun z=>by show(_||(en x).flat)=true;rw[h.flat x];simp⟩
theorem XE.idxFP [h:Flat en] {xs:List α} {k:Int} (ha:XE Γ a ρ (.ok xs) (eL en) s1 t) (hb:XE Γ b ρ (.ok k) eI s2 t2):XE Γ (.idx a b) ρ (atE xs k) en .v true:=XE.idxF ha hb
def qt1 (xs:List Nat) (k:Int):RE Nat:=gd (leB xs.length) (atE xs k)
theorem XE.idxS {m1:RE (List Nat)} {m2:RE Int} (ha:XE Γ a ρ m1 eS s1 t) (hb:XE Γ b ρ m2 eI s2 t2):XE Γ (.idx a b) ρ (m1.bind fun xs=>m2.bind fun k=>qt1 xs k) eC .v true:=by
 unfold XE;rw[ev]
 exact XR.bind ha fun xs ex hx=>XR.bind hb fun k ek hk=>by
  rw[hx.d,hk.d]
  refine xgd ?_
  unfold atE
  cases L2.atI xs k with
  |none=>trivial
  |some x=>exact⟨_,rfl,rfl,rfl,fun _=>rfl⟩
theorem XE.idxSP {xs:List Nat} {k:Int} (ha:XE Γ a ρ (.ok xs) eS s1 t) (hb:XE Γ b ρ (.ok k) eI s2 t2):XE Γ (.idx a b) ρ (qt1 xs k) eC .v true:=XE.idxS ha hb
theorem XE.prt {k:Int} {f:α→β} {m1:RE α} (ha:XE Γ a ρ m1 en s1 t) (h:∀v b,qpX (en v) (.int k) b=.ok (.val (en2 (f v)) (b||(en2 (f v)).flat))) (ht:t2=true→t=true∨Flat en2):XE Γ (.idx a (.cint k)) ρ (m1.bind fun x=>.ok (f x)) en2 .v t2:=by
 unfold XE;rw[ev]
 exact XR.bind ha fun x ex hx=>by
  rw[hx.d,ev]
  simp only[RE.bind_ok,ok,ER.d_val]
  rw[h]
  refine qs1 rfl fun z=>?_
  rcases ht z with q | q
  ·rw[hx.t q];rfl
  ·rw[q.flat];simp
theorem XE.prtP {k:Int} {f:α→β} (ha:XE Γ a ρ (.ok x) en s1 t) (h:∀v b,qpX (en v) (.int k) b=.ok (.val (en2 (f v)) (b||(en2 (f v)).flat))) (ht:t2=true→t=true∨Flat en2):XE Γ (.idx a (.cint k)) ρ (.ok (f x)) en2 .v t2:=XE.prt ha h ht
theorem ht0 {P:Prop}:false=true→P:=fun h=>nomatch h
theorem qoY (f:α→β) (xs:List α) (lo hi:Option Int):qeu (xs.map f) lo hi=(qeu xs lo hi).map f:=by
 unfold qeu
 rw[List.length_map,List.map_take,List.map_drop]
abbrev XO (Γ:Env) (es:Exs) (ρ:List Sl) (m:RE (Option Int)):Prop:=XR (evO Γ es ρ) m fun v x=>x=v
theorem XO.nil:XO Γ .nil ρ (.ok none):=by unfold XO;rw[evO];exact⟨_,rfl,rfl⟩
theorem XO.one {m:RE Int} (h:XE Γ a ρ m eI s t):XO Γ (.cons a .nil) ρ (m.bind fun k=>.ok (some k)):=by
 unfold XO;rw[evO]
 exact XR.bind h fun v er k=>by rw[k.d];exact⟨_,rfl,rfl⟩
theorem XO.oneP {k:Int} (h:XE Γ a ρ (.ok k) eI s t):XO Γ (.cons a .nil) ρ (.ok (some k)):=XO.one h
theorem XE.slc {m1:RE (List α)} {lo hi:Exs} {m2 m3:RE (Option Int)} (ha:XE Γ a ρ m1 (eL en) s1 t) (hb:XO Γ lo ρ m2) (hc:XO Γ hi ρ m3):XE Γ (.slc a lo hi) ρ (m1.bind fun xs=>m2.bind fun l=>m3.bind fun h=>.ok (qeu xs l h)) (eL en) .f t:=by
 unfold XE;rw[ev]
 exact XR.bind ha fun xs ex hx=>XR.bind hb fun l el hl=>XR.bind hc fun h eh hh=>by
  subst hl;subst hh
  rw[hx.d]
  exact qpd (by rw[qoY];rfl) hx.t
theorem XE.slcP {xs:List α} {lo hi:Exs} {l h:Option Int} (ha:XE Γ a ρ (.ok xs) (eL en) s1 t) (hb:XO Γ lo ρ (.ok l)) (hc:XO Γ hi ρ (.ok h)):XE Γ (.slc a lo hi) ρ (.ok (qeu xs l h)) (eL en) .f t:=XE.slc ha hb hc
def quN (xs:List Nat) (l h:Option Int):RE (List Nat):=gd (leB xs.length) (.ok (qeu xs l h))
theorem XE.isi {ty:Ty} {f:α→Bool} {m1:RE α} (ha:XE Γ a ρ m1 en s1 t) (h:∀v,qrL (en v) ty=ok (.bl (f v))):XE Γ (.isi a ty) ρ (m1.bind fun x=>.ok (f x)) eB .v true:=by
 unfold XE;rw[ev]
 exact XR.bind ha fun xs ex hx=>by rw[hx.d,h];exact xok rfl
theorem XE.isiP {ty:Ty} {f:α→Bool} (ha:XE Γ a ρ (.ok x) en s1 t) (h:∀v,qrL (en v) ty=ok (.bl (f v))):XE Γ (.isi a ty) ρ (.ok (f x)) eB .v true:=XE.isi ha h
def tyE (d:D) (ty:Ty):RE Bool:=(qrL d ty).bind fun x=>match x.d with
 |.bl b=>.ok b
 |_=>.bad
theorem XE.isiD {ty:Ty} (ha:XE Γ a ρ (.ok x) en s1 t):XE Γ (.isi a ty) ρ (tyE (en x) ty) eB .v true:=by
 obtain⟨er,e1,e2⟩:=ha
 unfold XE;rw[ev,e1]
 simp only[RE.bind_ok]
 rw[e2.d,tyE]
 cases en x<;>cases ty<;>first | trivial | exact xok rfl
theorem qrJ (Γ:Env) (ρ:List Sl) (a:Ex):evs Γ (.cons a .nil) ρ=(ev Γ a ρ).bind fun x=>.ok [x.frz]:=by
 rw[evs,evs];rfl
theorem qfI (x:ER):x.frz.d=x.d:=by cases x<;>rfl
theorem qnS (x:ER):x.frz.b=x.b:=by cases x<;>rfl
theorem XE.pri1 {p:Pri} {m1:RE α} {f:α→RE β} (ha:XE Γ a ρ m1 en s1 t1) (h:∀x e,e.d=en x→(t1=true→e.b=true)→XR (evP p [e]) (f x) fun v er=>Is s t (en2 v) er):XE Γ (.pri p (.cons a .nil)) ρ (m1.bind f) en2 s t:=by
 unfold XE;rw[ev,qrJ,RE.bind_assoc]
 exact XR.bind ha fun x ex hx=>h x _ (by rw[qfI,hx.d]) fun z=>by rw[qnS];exact hx.t z
theorem XE.pri1P {p:Pri} {f:RE β} (ha:XE Γ a ρ (.ok x) en s1 t1) (h:∀e,e.d=en x→(t1=true→e.b=true)→XR (evP p [e]) f fun v er=>Is s t (en2 v) er):XE Γ (.pri p (.cons a .nil)) ρ f en2 s t:=by
 obtain⟨er,e1,e2⟩:=ha
 unfold XE;rw[ev,qrJ,e1]
 simp only[RE.bind_ok]
 exact h _ (by rw[qfI,e2.d]) fun z=>by rw[qnS];exact e2.t z
theorem XE.pri2 {p:Pri} {m1:RE α} {m2:RE β} {f:α→β→RE γ} (ha:XE Γ a ρ m1 en s1 t1) (hb:XE Γ b ρ m2 en2 s2 t2) (h:∀x y e e',e.d=en x→e'.d=en2 y→XR (evP p [e,e']) (f x y) fun v er=>Is s t (en3 v) er):XE Γ (.pri p (.cons a (.cons b .nil))) ρ (m1.bind fun x=>m2.bind fun y=>f x y) en3 s t:=by
 unfold XE;rw[ev,evs,qrJ,RE.bind_assoc]
 exact XR.bind ha fun x ex hx=>by
  rw[RE.bind_assoc,RE.bind_assoc]
  exact XR.bind hb fun y ey hy=>h x y _ _ (by rw[qfI,hx.d]) (by rw[qfI,hy.d])
theorem qdp (x:List α) (e:ER) (h:e.d=eL en x) (_:t=true→e.b=true):XR (evP .len [e]) (.ok (x.length:Int)) fun v er=>Is .v true (eI v) er:=by
 simp only[evP,h,eL,List.length_map];exact xok rfl
def qpU (x:List Nat):RE Int:=gd (leB x.length) (.ok (x.length:Int))
theorem qpx (x:List Nat) (e:ER) (h:e.d=eS x) (_:t=true→e.b=true):XR (evP .len [e]) (qpU x) fun v er=>Is .v true (eI v) er:=by
 simp only[evP,h];exact xgd (xok rfl)
theorem qsQ (x y:Int) (e e':ER) (h:e.d=eI x) (h':e'.d=eI y):XR (evP .min2 [e,e']) (.ok (if y<x then y else x)) fun v er=>Is .v true (eI v) er:=by
 simp only[evP,h,h'];exact xok rfl
def qvV (x y:Int):RE (Int × Int):=gd (dmB y) (.ok (x / y,x % y))
def quP (x:List Int):RE Int:=match x with
 |[]=>.bad
 |n::ns=>.ok (ql3 (n::ns))
def qrA (x:List Int):RE Int:=match x with
 |[]=>.bad
 |n::ns=>.ok (qkl (n::ns))
theorem qsZ (x:List Int) (e:ER) (h:e.d=eL eI x) (_:t=true→e.b=true):XR (evP .max1 [e]) (qrA x) fun v er=>Is .v true (eI v) er:=by
 simp only[evP,h,eL,qdK]
 cases x with
 |nil=>trivial
 |cons n ns=>exact xok rfl
theorem qtm (x:List Int) (e:ER) (h:e.d=eL eI x) (_:t=true→e.b=true):XR (evP .sum [e]) (.ok x.sum) fun v er=>Is .v true (eI v) er:=by
 simp only[evP,h,eL,qdK];exact xok rfl
theorem qhu:∀bs:List Bool,qfD (bs.map D.bl)=some bs
 |[]=>rfl
 |b::bs=>by simp[qfD,qhu bs]
theorem qhv:∀bs:List (List Nat),qiE (bs.map D.str)=some bs
 |[]=>rfl
 |b::bs=>by simp[qiE,qhv bs]
theorem qtt (x:List Bool) (e:ER) (h:e.d=eL eB x) (_:t=true→e.b=true):XR (evP .all [e]) (.ok (x.all id)) fun v er=>Is .v true (eB v) er:=by
 simp only[evP,h,eL,qhu];exact xok rfl
theorem qbm [hf:Flat en] (x:List α) (e:ER) (h:e.d=eL en x) (k:t=true→e.b=true):XR (evP .list [e]) (.ok x) fun v er=>Is .f true (eL en v) er:=by
 simp only[evP,h,eL];exact qpd rfl fun _=>by rw[qgF];simp
def qmq (s:List Nat):RE Int:=match PySem.intText? (qa8 s) with
 |some n=>gd (Nat.ble s.length 640) (.ok n)
 |none=>.bad
theorem qsv (x:List Nat) (e:ER) (h:e.d=eS x) (_:t=true→e.b=true):XR (evP .int [e]) (qmq x) fun v er=>Is .v true (eI v) er:=by
 simp only[evP,h,qmq]
 cases PySem.intText? (qa8 x) with
 |none=>trivial
 |some n=>exact xgd (xok rfl)
def qkQ (i:Int):RE (List Nat):=gd (qr5 i) (.ok (toString i:PySem.Str).cps.toList)
theorem qkg (x:Int) (e:ER) (h:e.d=eI x) (_:t=true→e.b=true):XR (evP .str [e]) (qkQ x) fun v er=>Is .v true (eS v) er:=by
 simp only[evP,h];exact xgd (xok rfl)
def qbp (n:Int):RE (List Int):=gd (qlV n) (.ok (qfx 0 1 n.toNat))
def qkv (i j:Int):RE (List Int):=gd (qrK i j) (.ok (qfx i 1 (j - i).toNat))
def qtk (i j c:Int):RE (List Int):=gd (qs5 i j c) (.ok (qfx i c (qrG i j c)))
abbrev XRg (Γ:Env) (es:Exs) (ρ:List Sl) (m:RE (List Int)):Prop:=XR ((evs Γ es ρ).bind qem) m fun v x=>x=v
theorem qtL {α:Type} {b:Bool} {x:α}:XR (gd b (.ok x)) (gd b (.ok x)) fun v y=>y=v:=by
 cases b
 ·trivial
 ·exact⟨_,rfl,rfl⟩
theorem XRg.r1 {m1:RE Int} (ha:XE Γ a ρ m1 eI s1 t1):XRg Γ (.cons a .nil) ρ (m1.bind qbp):=by
 unfold XRg;rw[qrJ,RE.bind_assoc]
 exact XR.bind ha fun x ex hx=>by
  simp only[RE.bind_ok,qem,qfI,hx.d];exact qtL
theorem XRg.r2 {m1 m2:RE Int} (ha:XE Γ a ρ m1 eI s1 t1) (hb:XE Γ b ρ m2 eI s2 t2):XRg Γ (.cons a (.cons b .nil)) ρ (m1.bind fun x=>m2.bind fun y=>qkv x y):=by
 unfold XRg;rw[evs,qrJ,RE.bind_assoc]
 exact XR.bind ha fun x ex hx=>by
  rw[RE.bind_assoc,RE.bind_assoc]
  exact XR.bind hb fun y ey hy=>by
   simp only[RE.bind_ok,qem,qfI,hx.d,hy.d];exact qtL
theorem XRg.r3 {m1 m2 m3:RE Int} (ha:XE Γ a ρ m1 eI s1 t1) (hb:XE Γ b ρ m2 eI s2 t2) (hc:XE Γ c ρ m3 eI s3 t3):XRg Γ (.cons a (.cons b (.cons c .nil))) ρ (m1.bind fun x=>m2.bind fun y=>m3.bind fun z=>qtk x y z):=by
 unfold XRg;rw[evs,evs,qrJ,RE.bind_assoc]
 exact XR.bind ha fun x ex hx=>by
  simp only[RE.bind_assoc]
  exact XR.bind hb fun y ey hy=>XR.bind hc fun z ez hz=>by
   simp only[RE.bind_ok,qem,qfI,hx.d,hy.d,hz.d];exact qtL
theorem XRg.r1P {x:Int} (ha:XE Γ a ρ (.ok x) eI s1 t1):XRg Γ (.cons a .nil) ρ (qbp x):=XRg.r1 ha
theorem XRg.r2P {x y:Int} (ha:XE Γ a ρ (.ok x) eI s1 t1) (hb:XE Γ b ρ (.ok y) eI s2 t2):XRg Γ (.cons a (.cons b .nil)) ρ (qkv x y):=XRg.r2 ha hb
theorem XE.lrng {es:Exs} {m1:RE (List Int)} (h:XRg Γ es ρ m1):XE Γ (.lrng es) ρ m1 (eL eI) .f true:=by
 unfold XE;rw[ev]
 have e:m1=m1.bind fun k=>.ok k:=by cases m1<;>rfl
 rw[e,←RE.bind_assoc]
 exact XR.bind h fun v x k=>by subst k;exact qpd rfl fun _=>rfl
theorem XI.list {m1:RE (List α)} (h:XE Γ a ρ m1 (eL en) s t) (hs:s.nb=true):XI Γ (.any a) ρ m1 en t false:=by
 unfold XI;rw[evI]
 have e:m1=m1.bind fun k=>.ok k:=by cases m1<;>rfl
 rw[e]
 exact XR.bind h fun v er k=>by
  simp only[qjy,k.d,eL]
  refine⟨_,rfl,rfl,k.t,fun _=>?_⟩
  have:=k.s
  cases s<;>cases er<;>simp_all[qim,ER.isF,Sh.nb]
theorem XI.str {m1:RE (List Nat)} (h:XE Γ a ρ m1 eS s t):XI Γ (.any a) ρ m1 eC true false:=by
 unfold XI;rw[evI]
 have e:m1=m1.bind fun k=>.ok k:=by cases m1<;>rfl
 rw[e]
 exact XR.bind h fun v er k=>by
  simp only[qjy,k.d]
  exact⟨_,rfl,rfl,fun _=>rfl,fun _=>rfl⟩
theorem XI.tup {m1:RE α} {f:α→List β} (h:XE Γ a ρ m1 en s t) (k:∀v,en v=.tup ((f v).map en2)):XI Γ (.any a) ρ (m1.bind fun x=>.ok (f x)) en2 t false:=by
 unfold XI;rw[evI]
 exact XR.bind h fun v er q=>by
  simp only[qjy,q.d,k]
  exact⟨_,rfl,rfl,q.t,fun _=>rfl⟩
theorem XI.rng {es:Exs} {m1:RE (List Int)} (h:XRg Γ es ρ m1):XI Γ (.rng es) ρ m1 eI true false:=by
 unfold XI;rw[evI]
 have e:m1=m1.bind fun k=>.ok k:=by cases m1<;>rfl
 rw[e,←RE.bind_assoc]
 exact XR.bind h fun v x k=>by subst k;exact⟨_,rfl,rfl,fun _=>rfl,fun _=>rfl⟩
theorem qk6 (f:α→D) (g:β→D):∀(xs:List α) (ys:List β),List.zipWith (fun u v=>D.tup [u,v]) (xs.map f) (ys.map g)=(xs.zip ys).map (eT2 f g)
 |[],_=>rfl
 |_::_,[]=>rfl
 |x::xs,y::ys=>by simp[qk6 f g xs ys,eT2]
theorem XI.zp {m1:RE (List α)} {m2:RE (List β)} (ha:XE Γ a ρ m1 (eL en) s1 t1) (hb:XE Γ b ρ m2 (eL en2) s2 t2):XI Γ (.zp a b) ρ (m1.bind fun xs=>m2.bind fun ys=>.ok (xs.zip ys)) (eT2 en en2) (t1&&t2) (!(s1.nb&&s2.nb)):=by
 unfold XI;rw[evI]
 exact XR.bind ha fun x ex hx=>XR.bind hb fun y ey hy=>by
  simp only[hx.d,hy.d,eL]
  refine⟨_,rfl,qk6 _ _ _ _,fun z=>?_,fun z=>?_⟩
  ·rw[Bool.and_eq_true] at z
   show(_&&_)=true
   rw[hx.t z.1,hy.t z.2];rfl
  ·have h1:=hx.s
   have h2:=hy.s
   show(_||_)=false
   cases s1<;>cases s2<;>cases ex<;>cases ey<;>simp_all[qim,ER.isF,Sh.nb]
def qjs (xs:List α):List (Int × α):=xs.zipIdx.map fun p=>((p.2:Int),p.1)
theorem qf3 (f:α→D):∀(xs:List α) (k:Nat),((xs.map f).zipIdx k).map (fun p=>D.tup [.int p.2,p.1])=((xs.zipIdx k).map fun p=>((p.2:Int),p.1)).map (eT2 eI f)
 |[],_=>rfl
 |x::xs,k=>by simp[qf3 f xs (k+1),eT2]
theorem XI.enum {m1:RE (List α)} (ha:XE Γ a ρ m1 (eL en) s1 t1):XI Γ (.en a) ρ (m1.bind fun xs=>.ok (qjs xs)) (eT2 eI en) t1 (!s1.nb):=by
 unfold XI;rw[evI]
 exact XR.bind ha fun x ex hx=>by
  simp only[hx.d,eL]
  refine⟨_,rfl,qf3 _ _ 0,hx.t,fun z=>?_⟩
  have h1:=hx.s
  show ex.isB=false
  cases s1<;>cases ex<;>simp_all[qim,ER.isF,Sh.nb]
theorem XI.enumP {x:List α} (ha:XE Γ a ρ (.ok x) (eL en) s1 t1):XI Γ (.en a) ρ (.ok (qjs x)) (eT2 eI en) t1 (!s1.nb):=XI.enum ha
theorem XI.rv {m1:RE (List α)} (ha:XE Γ a ρ m1 (eL en) s1 t1):XI Γ (.rv a) ρ (m1.bind fun xs=>.ok xs.reverse) en t1 (!s1.nb):=by
 unfold XI;rw[evI]
 exact XR.bind ha fun x ex hx=>by
  simp only[hx.d,eL]
  refine⟨_,rfl,by simp,hx.t,fun z=>?_⟩
  have h1:=hx.s
  show ex.isB=false
  cases s1<;>cases ex<;>simp_all[qim,ER.isF,Sh.nb]
def lcE (c:α→RE Bool) (f:α→RE β):List α→RE (List β)
 |[]=>.ok []
 |x::xs=>(noX (c x)).bind fun k=>if k=true then (noX (f x)).bind fun y=>(lcE c f xs).bind fun ys=>.ok (y::ys) else lcE c f xs
def qrN (f:α→RE β):List α→RE (List β)
 |[]=>.ok []
 |x::xs=>(noX (f x)).bind fun y=>(qrN f xs).bind fun ys=>.ok (y::ys)
theorem qnq (f:α→RE β):∀xs,lcE (fun _=>.ok true) f xs=qrN f xs
 |[]=>rfl
 |x::xs=>by
  rw[lcE,qrN,qnq f xs]
  rfl
theorem qmT (f:α→β):∀xs:List α,qrN (fun x=>.ok (f x)) xs=.ok (xs.map f)
 |[]=>rfl
 |x::xs=>by rw[qrN,qmT f xs];rfl
theorem qpw (c:α→Bool) (f:α→β):∀xs:List α,lcE (fun x=>.ok (c x)) (fun x=>.ok (f x)) xs=.ok ((xs.filter c).map f)
 |[]=>rfl
 |x::xs=>by
  rw[lcE,qpw c f xs]
  simp only[noX,RE.bind_ok]
  cases h:c x<;>simp[h]
theorem qmC {cc:α→RE Bool} {ff:α→RE β} {F:D→RE (Option (D × Bool))} {t:Bool}:∀{xs:List α},(∀x∈xs,XR (F (en x)) ((noX (cc x)).bind fun k=>if k=true then (noX (ff x)).bind fun y=>.ok (some y) else .ok none) fun v r=>match v with
  |none=>r=none
  |some y=>∃f,r=some (en2 y,f)∧(t=true→f=true))→XR (lcl F (xs.map en)) (lcE cc ff xs) fun ys r=>r.1=ys.map en2∧(t=true→r.2=true)
 |[],_=>⟨_,rfl,rfl,fun _=>rfl⟩
 |x::xs,h=>by
  have ih:=qmC (F:=F) (xs:=xs) fun y hy=>h y (List.mem_cons_of_mem _ hy)
  have h0:=h x (by simp)
  simp only[List.map_cons,lcl,lcE]
  cases hc:noX (cc x) with
  |bad=>trivial
  |exc c fs=>cases e:cc x<;>rw[e] at hc<;>cases hc
  |ok k =>
   rw[hc] at h0
   simp only[RE.bind_ok] at h0 ⊢
   cases k with
   |false =>
    simp only[Bool.false_eq_true,if_false] at h0 ⊢
    obtain⟨r,e1,e2⟩:=h0
    cases e2
    rw[e1]
    simp only[RE.bind_ok]
    cases hl:lcE cc ff xs with
    |bad=>trivial
    |ok ys=>rw[hl] at ih;obtain⟨q,e3,e4⟩:=ih;rw[e3];exact⟨_,rfl,e4⟩
    |exc c fs=>rw[hl] at ih;have ih:lcl F (xs.map en)=_:=ih;rw[ih];rfl
   |true =>
    simp only[if_true] at h0 ⊢
    cases hf:noX (ff x) with
    |bad=>trivial
    |exc c fs=>cases e:ff x<;>rw[e] at hf<;>cases hf
    |ok y =>
     rw[hf] at h0
     obtain⟨r,e1,f,e2,e2'⟩:=h0
     subst e2
     rw[e1]
     simp only[RE.bind_ok]
     cases hl:lcE cc ff xs with
     |bad=>trivial
     |ok ys =>
      rw[hl] at ih
      obtain⟨q,e3,e4,e5⟩:=ih
      rw[e3]
      refine⟨_,rfl,by simp[e4],fun z=>?_⟩
      show(f&&q.2)=true
      rw[e2' z,e5 z];rfl
     |exc c fs=>rw[hl] at ih;have ih:lcl F (xs.map en)=_:=ih;rw[ih];rfl
theorem qnv {cnd:Tes} {e:Ex} {ρ':List Sl} {mc:RE Bool} {mf:RE β} (hc:XTs Γ true cnd ρ' mc) (hf:mc=.ok true→XE Γ e ρ' mf en2 s t) (hs:s.nb=true):XR (noX ((qhM Γ true cnd ρ').bind fun k=>if k=true then (ev Γ e ρ').bind fun y=>match y with
    |.brw _ _=>.bad
    |y=>.ok (some (y.d,y.b)) else .ok none)) ((noX mc).bind fun k=>if k=true then (noX mf).bind fun y=>.ok (some y) else .ok none) fun v r=>match v with
  |none=>r=none
  |some y=>∃f,r=some (en2 y,f)∧(t=true→f=true):=by
 cases mc with
 |bad=>trivial
 |exc c fs=>trivial
 |ok k =>
  obtain⟨x,e1,e2⟩:=hc
  subst e2
  rw[e1]
  cases x with
  |false=>exact⟨_,rfl,rfl⟩
  |true =>
   have hf:=hf rfl
   simp only[RE.bind_ok,if_true,noX]
   cases mf with
   |bad=>trivial
   |exc c fs=>trivial
   |ok y =>
    obtain⟨er,e3,e4⟩:=hf
    rw[e3]
    simp only[RE.bind_ok,noX]
    have hsh:=e4.s
    cases er with
    |brw ds b=>cases s<;>simp_all[qim,ER.isF,Sh.nb]
    |val d b=>exact⟨_,rfl,_,by rw[←e4.d],e4.t⟩
    |fre d b=>exact⟨_,rfl,_,by rw[←e4.d],e4.t⟩
theorem XE.lc {own:List Nat} {it:Itx} {i:Nat} {cnd:Tes} {m1:RE (List α)} {o t0:Bool} {mc:α→RE Bool} {mf:α→RE β} (ρ₂:Sl→List Sl) (hi:XI Γ it ρ m1 en t1 o) (ht:t0=true→t1=true∨Flat en) (hset:∀q,(wipeS ρ own).set i q=ρ₂ q)
  (hc:∀x q,SlV t0 (en x) q→XTs Γ true cnd (ρ₂ q) (mc x)) (hf:∀x q,SlV t0 (en x) q→mc x=.ok true→XE Γ e (ρ₂ q) (mf x) en2 s t) (hs:s.nb=true) :
  XE Γ (.lc own it [i] cnd e) ρ (m1.bind fun xs=>gd (leB xs.length) (lcE mc mf xs)) (eL en2) .f t:=by
 unfold XE;rw[ev]
 refine XR.bind hi fun xs w hw=>?_
 obtain⟨w1,w2,_⟩:=hw
 rw[w1,List.length_map]
 cases hl:leB xs.length with
 |false=>trivial
 |true =>
  simp only[qgs]
  have e:lcE mc mf xs=(lcE mc mf xs).bind fun k=>.ok k:=by cases lcE mc mf xs<;>rfl
  rw[e]
  refine XR.bind (qmC (t:=t) (en2:=en2) fun x _=>?_) fun ys r hr=>qpd (by rw[hr.1];rfl) hr.2
  simp only[qe7,hset]
  have hq:SlV t0 (en x) (.val (en x) (w.b||(en x).flat)):=⟨_,rfl,fun z=>by
   rcases ht z with q | q
   ·simp[w2 q]
   ·rw[q.flat];simp⟩
  exact qnv (hc x _ hq) (hf x _ hq) hs
theorem XE.lc2 {own:List Nat} {it:Itx} {i j:Nat} {cnd:Tes} {m1:RE (List (α × β))} {o t0 t0':Bool} {mc:α × β→RE Bool} {mf:α × β→RE γ} (ρ₂:Sl→Sl→List Sl) (hi:XI Γ it ρ m1 (eT2 en en2) t1 o) (ht:t0=true→t1=true∨Flat en) (ht':t0'=true→t1=true∨Flat en2) (hset:∀q r,((wipeS ρ own).set i q).set j r=ρ₂ q r)
  (hc:∀x q r,SlV t0 (en x.1) q→SlV t0' (en2 x.2) r→XTs Γ true cnd (ρ₂ q r) (mc x)) (hf:∀x q r,SlV t0 (en x.1) q→SlV t0' (en2 x.2) r→mc x=.ok true→XE Γ e (ρ₂ q r) (mf x) en3 s t) (hs:s.nb=true) :
  XE Γ (.lc own it [i,j] cnd e) ρ (m1.bind fun xs=>gd (leB xs.length) (lcE mc mf xs)) (eL en3) .f t:=by
 unfold XE;rw[ev]
 refine XR.bind hi fun xs w hw=>?_
 obtain⟨w1,w2,_⟩:=hw
 rw[w1,List.length_map]
 cases hl:leB xs.length with
 |false=>trivial
 |true =>
  simp only[qgs]
  have e:lcE mc mf xs=(lcE mc mf xs).bind fun k=>.ok k:=by cases lcE mc mf xs<;>rfl
  rw[e]
  refine XR.bind (qmC (t:=t) (en2:=en3) fun x _=>?_) fun ys r hr=>qpd (by rw[hr.1];rfl) hr.2
  simp only[qe7,ql0,eT2,hset]
  have hq:SlV t0 (en x.1) (.val (en x.1) (w.b||(en x.1).flat)):=⟨_,rfl,fun z=>by
   rcases ht z with q | q
   ·simp[w2 q]
   ·rw[q.flat];simp⟩
  have hr:SlV t0' (en2 x.2) (.val (en2 x.2) (w.b||(en2 x.2).flat)):=⟨_,rfl,fun z=>by
   rcases ht' z with q | q
   ·simp[w2 q]
   ·rw[q.flat];simp⟩
  exact qnv (hc x _ _ hq hr) (hf x _ _ hq hr) hs
theorem XTs.nil {c:Bool}:XTs Γ c .nil ρ (.ok c):=by unfold XTs;rw[qhM];exact⟨_,rfl,rfl⟩
end
end Cm
namespace Cm
def Out.rt:Out→RE ER
 |.ret er=>.ok er
 |.exc c fs=>.exc c fs
 |_=>.bad
inductive Fl (β σ:Type) where
 |nx (s:σ) | rt (b:β) | bk (s:σ)
def XN {σ:Type} (o:Out) (m:RE σ) (S:σ→List Sl→Prop):Prop:=match m with
 |.bad=>True
 |.ok v=>∃ρ',o=.nx ρ'∧S v ρ'
 |.exc c fs=>o=.exc c fs
def XL {σ:Type} (o:Out) (m:RE σ) (S:σ→List Sl→Prop):Prop:=match m with
 |.bad=>True
 |.ok v=>∃ρ',(o=.nx ρ'∨o=.cnt ρ')∧S v ρ'
 |.exc c fs=>o=.exc c fs
def XF {β σ:Type} (o:Out) (m:RE (Fl β σ)) (R:β→ER→Prop) (S:σ→List Sl→Prop):Prop:=match m with
 |.bad=>True
 |.ok (.nx v)=>∃ρ',(o=.nx ρ'∨o=.cnt ρ')∧S v ρ'
 |.ok (.rt b)=>∃er,o=.ret er∧R b er
 |.ok (.bk v)=>∃ρ',o=.brk ρ'∧S v ρ'
 |.exc c fs=>o=.exc c fs
def XX {β σ:Type} (o:Out) (m:RE (Fl β σ)) (R:β→ER→Prop) (S:σ→List Sl→Prop):Prop:=match m with
 |.bad=>True
 |.ok (.nx v)=>∃ρ',o=.cnt ρ'∧S v ρ'
 |.ok (.rt b)=>∃er,o=.ret er∧R b er
 |.ok (.bk v)=>∃ρ',o=.brk ρ'∧S v ρ'
 |.exc c fs=>o=.exc c fs
abbrev BR {β:Type} (Γ:Env) (ss:Sms) (ρ:List Sl) (m:RE β) (en:β→D) (s:Sh) (t:Bool):Prop:=XR (qam Γ ss ρ).rt m fun v er=>Is s t (en v) er
abbrev BN {σ:Type} (Γ:Env) (ss:Sms) (ρ:List Sl) (m:RE σ) (S:σ→List Sl→Prop):Prop:=XN (qam Γ ss ρ) m S
abbrev BL {σ:Type} (Γ:Env) (ss:Sms) (ρ:List Sl) (m:RE σ) (S:σ→List Sl→Prop):Prop:=XL (qam Γ ss ρ) m S
abbrev BF {β σ:Type} (Γ:Env) (ss:Sms) (ρ:List Sl) (m:RE (Fl β σ)) (R:β→ER→Prop) (S:σ→List Sl→Prop):Prop:=XF (qam Γ ss ρ) m R S
abbrev BX {β σ:Type} (Γ:Env) (ss:Sms) (ρ:List Sl) (m:RE (Fl β σ)) (R:β→ER→Prop) (S:σ→List Sl→Prop):Prop:=XX (qam Γ ss ρ) m R S
def XG {β σ:Type} (o:Out) (m:RE (Fl β σ)) (R:β→ER→Prop) (S:σ→List Sl→Prop):Prop:=match m with
 |.bad=>True
 |.ok (.nx v)=>∃ρ',o=.nx ρ'∧S v ρ'
 |.ok (.rt b)=>∃er,o=.ret er∧R b er
 |.ok (.bk v)=>False
 |.exc c fs=>o=.exc c fs
abbrev BG {β σ:Type} (Γ:Env) (ss:Sms) (ρ:List Sl) (m:RE (Fl β σ)) (R:β→ER→Prop) (S:σ→List Sl→Prop):Prop:=XG (qam Γ ss ρ) m R S
def Fl.bR {β σ:Type} (m:RE (Fl β σ)) (k:σ→RE β):RE β:=m.bind fun f=>match f with
 |.nx v=>k v
 |.rt b=>.ok b
 |.bk _=>.bad
def Fl.bF {β σ τ:Type} (m:RE (Fl β σ)) (k:σ→RE (Fl β τ)):RE (Fl β τ):=m.bind fun f=>match f with
 |.nx v=>k v
 |.rt b=>.ok (.rt b)
 |.bk _=>.bad
abbrev SN {σ:Type} (Γ:Env) (s:Sm) (ρ:List Sl) (m:RE σ) (S:σ→List Sl→Prop):Prop:=XN (run Γ s ρ) m S
abbrev SF {β σ:Type} (Γ:Env) (s:Sm) (ρ:List Sl) (m:RE (Fl β σ)) (R:β→ER→Prop) (S:σ→List Sl→Prop):Prop:=XG (run Γ s ρ) m R S
section
variable {Γ:Env} {ρ:List Sl} {α β γ δ σ τ:Type} {en:α→D} {en2:β→D} {e a b:Ex} {s s1 s2:Sh} {t t1 t2:Bool} {ss sa sb:Sms} {q:Sm} {R:β→ER→Prop} {S:σ→List Sl→Prop} {S':τ→List Sl→Prop}
theorem BR.cons {m:RE σ} {k:σ→RE β} (h:SN Γ q ρ m S) (hk:∀v ρ',S v ρ'→BR Γ ss ρ' (k v) en2 s t):BR Γ (.cons q ss) ρ (m.bind k) en2 s t:=by
 unfold BR
 rw[qam]
 cases m with
 |bad=>trivial
 |ok v=>obtain⟨ρ',e,h⟩:=h;rw[e];exact hk v ρ' h
 |exc c fs=>have h:run Γ q ρ=_:=h;rw[h];rfl
theorem BN.cons {m:RE σ} {k:σ→RE τ} (h:SN Γ q ρ m S) (hk:∀v ρ',S v ρ'→BN Γ ss ρ' (k v) S'):BN Γ (.cons q ss) ρ (m.bind k) S':=by
 unfold BN
 rw[qam]
 cases m with
 |bad=>trivial
 |ok v=>obtain⟨ρ',e,h⟩:=h;rw[e];exact hk v ρ' h
 |exc c fs=>have h:run Γ q ρ=_:=h;rw[h];rfl
theorem BL.cons {m:RE σ} {k:σ→RE τ} (h:SN Γ q ρ m S) (hk:∀v ρ',S v ρ'→BL Γ ss ρ' (k v) S'):BL Γ (.cons q ss) ρ (m.bind k) S':=by
 unfold BL
 rw[qam]
 cases m with
 |bad=>trivial
 |ok v=>obtain⟨ρ',e,h⟩:=h;rw[e];exact hk v ρ' h
 |exc c fs=>have h:run Γ q ρ=_:=h;rw[h];rfl
theorem BF.cons {m:RE σ} {k:σ→RE (Fl β τ)} (h:SN Γ q ρ m S) (hk:∀v ρ',S v ρ'→BF Γ ss ρ' (k v) R S'):BF Γ (.cons q ss) ρ (m.bind k) R S':=by
 unfold BF
 rw[qam]
 cases m with
 |bad=>trivial
 |ok v=>obtain⟨ρ',e,h⟩:=h;rw[e];exact hk v ρ' h
 |exc c fs=>have h:run Γ q ρ=_:=h;rw[h];rfl
theorem BX.cons {m:RE σ} {k:σ→RE (Fl β τ)} (h:SN Γ q ρ m S) (hk:∀v ρ',S v ρ'→BX Γ ss ρ' (k v) R S'):BX Γ (.cons q ss) ρ (m.bind k) R S':=by
 unfold BX
 rw[qam]
 cases m with
 |bad=>trivial
 |ok v=>obtain⟨ρ',e,h⟩:=h;rw[e];exact hk v ρ' h
 |exc c fs=>have h:run Γ q ρ=_:=h;rw[h];rfl
theorem BG.cons {m:RE σ} {k:σ→RE (Fl β τ)} (h:SN Γ q ρ m S) (hk:∀v ρ',S v ρ'→BG Γ ss ρ' (k v) R S'):BG Γ (.cons q ss) ρ (m.bind k) R S':=by
 unfold BG
 rw[qam]
 cases m with
 |bad=>trivial
 |ok v=>obtain⟨ρ',e,h⟩:=h;rw[e];exact hk v ρ' h
 |exc c fs=>have h:run Γ q ρ=_:=h;rw[h];rfl
theorem BG.nil {v:σ} (h:S v ρ):BG Γ .nil ρ (.ok (.nx v)) R S:=by unfold BG;rw[qam];exact⟨_,rfl,h⟩
theorem BN.nil {v:σ} (h:S v ρ):BN Γ .nil ρ (.ok v) S:=by unfold BN;rw[qam];exact⟨_,rfl,h⟩
theorem BL.nil {v:σ} (h:S v ρ):BL Γ .nil ρ (.ok v) S:=by unfold BL;rw[qam];exact⟨_,.inl rfl,h⟩
theorem BF.nil {v:σ} (h:S v ρ):BF Γ .nil ρ (.ok (.nx v)) R S:=by unfold BF;rw[qam];exact⟨_,.inl rfl,h⟩
theorem BL.cnt {v:σ} (h:S v ρ):BL Γ (.cons .cnt ss) ρ (.ok v) S:=by unfold BL;rw[qam,Cm.run];exact⟨_,.inr rfl,h⟩
theorem BF.cnt {v:σ} (h:S v ρ):BF Γ (.cons .cnt ss) ρ (.ok (.nx v)) R S:=by unfold BF;rw[qam,Cm.run];exact⟨_,.inr rfl,h⟩
theorem BX.cnt {v:σ} (h:S v ρ):BX Γ (.cons .cnt ss) ρ (.ok (.nx v)) R S:=by unfold BX;rw[qam,Cm.run];exact⟨_,rfl,h⟩
theorem BF.brk {v:σ} (h:S v ρ):BF Γ (.cons .brk ss) ρ (.ok (.bk v)) R S:=by unfold BF;rw[qam,Cm.run];exact⟨_,rfl,h⟩
theorem BX.brk {v:σ} (h:S v ρ):BX Γ (.cons .brk ss) ρ (.ok (.bk v)) R S:=by unfold BX;rw[qam,Cm.run];exact⟨_,rfl,h⟩
theorem BX.F {m:RE (Fl β σ)} (h:BX Γ ss ρ m R S):BF Γ ss ρ m R S:=by
 unfold BF
 cases m with
 |bad=>trivial
 |ok v =>
  cases v with
  |nx v=>obtain⟨ρ',e,h⟩:=h;exact⟨ρ',.inr e,h⟩
  |rt b=>exact h
  |bk v=>exact h
 |exc c fs=>exact h
theorem BR.X {m:RE β} (h:BR Γ ss ρ m en2 s t):BX (σ:=σ) Γ ss ρ (m.bind fun b=>.ok (.rt b)) (fun v er=>Is s t (en2 v) er) S:=by
 unfold BX
 cases m with
 |bad=>trivial
 |ok v =>
  obtain⟨er,e,h⟩:=h
  cases hr:qam Γ ss ρ<;>rw[hr] at e<;>cases e
  exact⟨_,rfl,h⟩
 |exc c fs =>
  have h:(qam Γ ss ρ).rt=_:=h
  cases hr:qam Γ ss ρ<;>rw[hr] at h<;>cases h
  rfl
theorem Is.ret {d:D} {er:ER} (h:Is s t d er):Is s.ret t d (qtM er):=by
 have:=h.s
 have:=h.d
 have:=h.t
 cases s<;>cases er<;>simp_all[qim,ER.isF,Sh.ret]<;>exact⟨by assumption,rfl,by simpa using h.t⟩
theorem BR.ret {m:RE α} (h:XE Γ e ρ m en s1 t) (hs:s1.ret=s):BR Γ (.cons (.ret e) ss) ρ m en s t:=by
 unfold BR
 rw[qam,Cm.run]
 subst hs
 cases m with
 |bad=>trivial
 |ok v=>obtain⟨er,e,h⟩:=h;rw[e];exact⟨_,rfl,h.ret⟩
 |exc c fs=>have h:ev Γ _ ρ=_:=h;rw[h];rfl
theorem BR.retN:BR Γ (.cons .retN ss) ρ (.ok ()) eU .v true:=by unfold BR;rw[qam,Cm.run];exact⟨_,rfl,rfl,rfl,fun _=>rfl⟩
theorem BR.rse {k c:Nat} (h:Γ.xk[k]? = some c):BR Γ (.cons (.rse k) ss) ρ (.exc c []) en s t:=by unfold BR;rw[qam,Cm.run,h];rfl
theorem BR.weak {m:RE α} (h:BR Γ ss ρ m en s t) (hs:s.nb=true):BR Γ ss ρ m en .n t:=XR.mono h fun _ _ k=>k.weak hs
theorem BR.low {m:RE α} (h:BR Γ ss ρ m en s t):BR Γ ss ρ m en s false:=XR.mono h fun _ _ k=>k.low
theorem BR.coe {m:RE α} {f:α→β} (h:BR Γ ss ρ m en s t) (k:∀v,en v=en2 (f v)):BR Γ ss ρ (m.bind fun x=>.ok (f x)) en2 s t:=by
 cases m with
 |bad=>trivial
 |ok v=>obtain⟨er,e,h⟩:=h;exact⟨_,e,by rw[←k];exact h.d,h.s,h.t⟩
 |exc c fs=>exact h
theorem BR.iff {c:Te} {mt:RE Bool} {m1 m2:RE β} (h:XT Γ c ρ mt) (ha:BR Γ sa ρ m1 en2 s t) (hb:BR Γ sb ρ m2 en2 s t):BR Γ (.cons (.iff c sa sb) ss) ρ (mt.bind fun k=>if k=true then m1 else m2) en2 s t:=by
 unfold BR
 rw[qam,Cm.run]
 cases mt with
 |bad=>trivial
 |exc c fs=>have h:evT Γ _ ρ=_:=h;rw[h];rfl
 |ok v =>
  obtain⟨x,e,rfl⟩:=h
  rw[e]
  simp only[RE.out_ok,RE.bind_ok]
  have key:∀{sx:Sms} {m:RE β},BR Γ sx ρ m en2 s t→XR (((qam Γ sx ρ).seq fun ρ'=>qam Γ ss ρ').rt) m fun v er=>Is s t (en2 v) er:=fun {sx m} hx=>by
   cases m with
   |bad=>trivial
   |ok v =>
    obtain⟨er,e,h⟩:=hx
    cases hr:qam Γ sx ρ<;>rw[hr] at e<;>cases e
    exact⟨_,rfl,h⟩
   |exc c fs =>
    have h:(qam Γ sx ρ).rt=_:=hx
    cases hr:qam Γ sx ρ<;>rw[hr] at h<;>cases h
    rfl
  cases x
  ·exact key hb
  ·exact key ha
theorem BR.ifR {c:Te} {mt:RE Bool} {m1 m2:RE β} (h:XT Γ c ρ mt) (ha:BR Γ sa ρ m1 en2 s t) (hb:BR Γ ss ρ m2 en2 s t):BR Γ (.cons (.iff c sa .nil) ss) ρ (mt.bind fun k=>if k=true then m1 else m2) en2 s t:=by
 unfold BR
 rw[qam,Cm.run]
 cases mt with
 |bad=>trivial
 |exc c fs=>have h:evT Γ _ ρ=_:=h;rw[h];rfl
 |ok v =>
  obtain⟨x,e,rfl⟩:=h
  rw[e]
  simp only[RE.out_ok,RE.bind_ok]
  cases x with
  |false=>simp only[Bool.false_eq_true,if_false,qam];exact hb
  |true =>
   simp only[if_true]
   cases m1 with
   |bad=>trivial
   |ok v =>
    obtain⟨er,e,h⟩:=ha
    cases hr:qam Γ sa ρ<;>rw[hr] at e<;>cases e
    exact⟨_,rfl,h⟩
   |exc c fs =>
    have h:(qam Γ sa ρ).rt=_:=ha
    cases hr:qam Γ sa ρ<;>rw[hr] at h<;>cases h
    rfl
theorem BF.iff {c:Te} {mt:RE Bool} {m1 m2:RE (Fl β σ)} (h:XT Γ c ρ mt) (ha:BF Γ sa ρ m1 R S) (hb:BF Γ sb ρ m2 R S):BF Γ (.cons (.iff c sa sb) .nil) ρ (mt.bind fun k=>if k=true then m1 else m2) R S:=by
 unfold BF
 rw[qam,Cm.run]
 cases mt with
 |bad=>trivial
 |exc c fs=>have h:evT Γ _ ρ=_:=h;rw[h];rfl
 |ok v =>
  obtain⟨x,e,rfl⟩:=h
  rw[e]
  simp only[RE.out_ok,RE.bind_ok]
  have key:∀{sx:Sms} {m:RE (Fl β σ)},BF Γ sx ρ m R S→XF ((qam Γ sx ρ).seq fun ρ'=>qam Γ .nil ρ') m R S:=fun {sx m} hx=>by
   have:((qam Γ sx ρ).seq fun ρ'=>qam Γ .nil ρ')=qam Γ sx ρ:=by
    cases qam Γ sx ρ<;>simp only[Out.seq,qam]
   rw[this];exact hx
  cases x
  ·exact key hb
  ·exact key ha
theorem BX.iff {c:Te} {mt:RE Bool} {m1 m2:RE (Fl β σ)} (h:XT Γ c ρ mt) (ha:BX Γ sa ρ m1 R S) (hb:BX Γ sb ρ m2 R S):BX Γ (.cons (.iff c sa sb) .nil) ρ (mt.bind fun k=>if k=true then m1 else m2) R S:=by
 unfold BX
 rw[qam,Cm.run]
 cases mt with
 |bad=>trivial
 |exc c fs=>have h:evT Γ _ ρ=_:=h;rw[h];rfl
 |ok v =>
  obtain⟨x,e,rfl⟩:=h
  rw[e]
  simp only[RE.out_ok,RE.bind_ok]
  have key:∀{sx:Sms} {m:RE (Fl β σ)},BX Γ sx ρ m R S→XX ((qam Γ sx ρ).seq fun ρ'=>qam Γ .nil ρ') m R S:=fun {sx m} hx=>by
   have:((qam Γ sx ρ).seq fun ρ'=>qam Γ .nil ρ')=qam Γ sx ρ:=by
    cases qam Γ sx ρ<;>simp only[Out.seq,qam]
   rw[this];exact hx
  cases x
  ·exact key hb
  ·exact key ha
theorem SN.iff {c:Te} {mt:RE Bool} {m1 m2:RE σ} (h:XT Γ c ρ mt) (ha:BN Γ sa ρ m1 S) (hb:BN Γ sb ρ m2 S):SN Γ (.iff c sa sb) ρ (mt.bind fun k=>if k=true then m1 else m2) S:=by
 unfold SN
 rw[Cm.run]
 cases mt with
 |bad=>trivial
 |exc c fs=>have h:evT Γ _ ρ=_:=h;rw[h];rfl
 |ok v =>
  obtain⟨x,e,rfl⟩:=h
  rw[e]
  cases x
  ·exact hb
  ·exact ha
theorem SF.iff {c:Te} {mt:RE Bool} {m1 m2:RE (Fl β σ)} (h:XT Γ c ρ mt) (ha:BG Γ sa ρ m1 R S) (hb:BG Γ sb ρ m2 R S):SF Γ (.iff c sa sb) ρ (mt.bind fun k=>if k=true then m1 else m2) R S:=by
 unfold SF
 rw[Cm.run]
 cases mt with
 |bad=>trivial
 |exc c fs=>have h:evT Γ _ ρ=_:=h;rw[h];rfl
 |ok v =>
  obtain⟨x,e,rfl⟩:=h
  rw[e]
  cases x
  ·exact hb
  ·exact ha
theorem BX.G {m:RE β} {en2:β→D} (h:BR Γ ss ρ m en2 s t):BG (σ:=σ) Γ ss ρ (m.bind fun b=>.ok (.rt b)) (fun v er=>Is s t (en2 v) er) S:=by
 unfold BG
 cases m with
 |bad=>trivial
 |ok v =>
  obtain⟨er,e,h⟩:=h
  cases hr:qam Γ ss ρ<;>rw[hr] at e<;>cases e
  exact⟨_,rfl,h⟩
 |exc c fs =>
  have h:(qam Γ ss ρ).rt=_:=h
  cases hr:qam Γ ss ρ<;>rw[hr] at h<;>cases h
  rfl
theorem BG.ifR {c:Te} {mt:RE Bool} {m1:RE β} {m2:RE (Fl β σ)} {en2:β→D} (h:XT Γ c ρ mt) (ha:BR Γ sa ρ m1 en2 s t) (hb:BG Γ ss ρ m2 (fun v er=>Is s t (en2 v) er) S):BG Γ (.cons (.iff c sa .nil) ss) ρ (mt.bind fun k=>if k=true then m1.bind fun b=>.ok (.rt b) else m2) (fun v er=>Is s t (en2 v) er) S:=by
 unfold BG
 rw[qam,Cm.run]
 cases mt with
 |bad=>trivial
 |exc c fs=>have h:evT Γ _ ρ=_:=h;rw[h];rfl
 |ok v =>
  obtain⟨x,e,rfl⟩:=h
  rw[e]
  simp only[RE.out_ok,RE.bind_ok]
  cases x with
  |false=>simp only[Bool.false_eq_true,if_false,qam];exact hb
  |true =>
   simp only[if_true]
   cases m1 with
   |bad=>trivial
   |ok v =>
    obtain⟨er,e,h⟩:=ha
    cases hr:qam Γ sa ρ<;>rw[hr] at e<;>cases e
    exact⟨_,rfl,h⟩
   |exc c fs =>
    have h:(qam Γ sa ρ).rt=_:=ha
    cases hr:qam Γ sa ρ<;>rw[hr] at h<;>cases h
    rfl
theorem qeL {k c:Nat} (h:Γ.xk[k]? = some c):qam Γ (.cons (.rse k) ss) ρ=.exc c []:=by rw[qam,Cm.run,h];rfl
theorem BN.rse {k c:Nat} (h:Γ.xk[k]? = some c):BN Γ (.cons (.rse k) ss) ρ (.exc c []) S:=by unfold BN;rw[qeL h];rfl
theorem BL.rse {k c:Nat} (h:Γ.xk[k]? = some c):BL Γ (.cons (.rse k) ss) ρ (.exc c []) S:=by unfold BL;rw[qeL h];rfl
theorem BF.rse {k c:Nat} (h:Γ.xk[k]? = some c):BF Γ (.cons (.rse k) ss) ρ (.exc c []) R S:=by unfold BF;rw[qeL h];rfl
theorem BX.rse {k c:Nat} (h:Γ.xk[k]? = some c):BX Γ (.cons (.rse k) ss) ρ (.exc c []) R S:=by unfold BX;rw[qeL h];rfl
theorem BG.rse {k c:Nat} (h:Γ.xk[k]? = some c):BG Γ (.cons (.rse k) ss) ρ (.exc c []) R S:=by unfold BG;rw[qeL h];rfl
theorem qpT {c:Te} {v:Bool} (h:evT Γ c ρ=.ok v):qam Γ (.cons (.iff c sa .nil) ss) ρ=(if v=true then qam Γ sa ρ else .nx ρ).seq fun ρ'=>qam Γ ss ρ':=by
 rw[qam,Cm.run,h]
 cases v<;>simp only[RE.out_ok,qam,if_true,if_false,Bool.false_eq_true]
theorem BN.ifE {c:Te} {k n:Nat} {mt:RE Bool} {m2:RE σ} (ha:sa=.cons (.rse k) .nil) (h:XT Γ c ρ mt) (hk:Γ.xk[k]? = some n) (hb:BN Γ ss ρ m2 S):BN Γ (.cons (.iff c sa .nil) ss) ρ (mt.bind fun k=>if k=true then .exc n [] else m2) S:=by
 subst ha
 unfold BN
 cases mt with
 |bad=>trivial
 |exc c fs=>have h:evT Γ _ ρ=_:=h;rw[qam,Cm.run,h];rfl
 |ok v =>
  obtain⟨x,e,rfl⟩:=h
  rw[qpT e]
  cases x with
  |false=>exact hb
  |true=>simp only[if_true,qeL hk];rfl
theorem BL.ifE {c:Te} {k n:Nat} {mt:RE Bool} {m2:RE σ} (ha:sa=.cons (.rse k) .nil) (h:XT Γ c ρ mt) (hk:Γ.xk[k]? = some n) (hb:BL Γ ss ρ m2 S):BL Γ (.cons (.iff c sa .nil) ss) ρ (mt.bind fun k=>if k=true then .exc n [] else m2) S:=by
 subst ha
 unfold BL
 cases mt with
 |bad=>trivial
 |exc c fs=>have h:evT Γ _ ρ=_:=h;rw[qam,Cm.run,h];rfl
 |ok v =>
  obtain⟨x,e,rfl⟩:=h
  rw[qpT e]
  cases x with
  |false=>exact hb
  |true=>simp only[if_true,qeL hk];rfl
theorem SN.asg {i:Nat} {m:RE α} (ρ₂:Sl→List Sl) (h:XE Γ e ρ m en s t) (hs:s.nb=true) (hset:∀q,ρ.set i q=ρ₂ q):SN Γ (.asg i e) ρ m fun v ρ'=>∃q,ρ'=ρ₂ q∧SlV t (en v) q:=by
 unfold SN
 rw[Cm.run]
 cases m with
 |bad=>trivial
 |ok v =>
  obtain⟨er,e,h⟩:=h
  rw[e]
  have h1:=h.s
  have h2:=h.d
  have h3:=h.t
  cases er with
  |val d b=>simp only[RE.out_ok,held];exact⟨_,rfl,_,hset _,b,by rw[←h2];rfl,h3⟩
  |fre d b=>simp only[RE.out_ok,held];exact⟨_,rfl,_,hset _,b,by rw[←h2];rfl,h3⟩
  |brw d b=>cases s<;>simp_all[qim,ER.isF,Sh.nb]
 |exc c fs=>have h:ev Γ _ ρ=_:=h;rw[h];rfl
theorem SN.own {i:Nat} {m:RE (List α)} (ρ₂:Sl→List Sl) (h:XE Γ e ρ m (eL en) .f t) (hset:∀q,ρ.set i q=ρ₂ q):SN Γ (.own i e) ρ m fun v ρ'=>∃q,ρ'=ρ₂ q∧SlO t (v.map en) q:=by
 unfold SN
 rw[Cm.run]
 cases m with
 |bad=>trivial
 |ok v =>
  obtain⟨er,e,h⟩:=h
  rw[e]
  have h1:=h.s
  have h2:=h.d
  have h3:=h.t
  cases er with
  |val d b=>cases h1
  |fre d b =>
   simp only[RE.out_ok]
   refine⟨_,rfl,_,hset _,b,?_,h3⟩
   cases h2
   rfl
  |brw d b=>cases h1
 |exc c fs=>have h:ev Γ _ ρ=_:=h;rw[h];rfl
theorem SN.expr {m:RE α} (h:XE Γ e ρ m en s t):SN Γ (.expr e) ρ m fun _ ρ'=>ρ'=ρ:=by
 unfold SN
 rw[Cm.run]
 cases m with
 |bad=>trivial
 |ok v=>obtain⟨er,e,h⟩:=h;rw[e];exact⟨_,rfl,rfl⟩
 |exc c fs=>have h:ev Γ _ ρ=_:=h;rw[h];rfl
theorem SN.pas:SN Γ .pas ρ (.ok ()) fun _ ρ'=>ρ'=ρ:=by unfold SN;rw[Cm.run];exact⟨_,rfl,rfl⟩
def qtF (ds es:List D):Bool:=D.flats ds&&(clD ds != clD es)&&qrd (clD es) es
def qlL {γ:Type} (e1:α→D) (e2:γ→D) (p:List α × List γ):RE (List α × List γ):=gd (qtF (p.1.map e1) (p.2.map e2)) (.ok p)
theorem qfs {d:D} {er:ER} (h:Is s t d er) (hs:s.nb=true):∃b,(∀f:D→Bool→Out,held er f=f d b)∧(t=true→b=true):=by
 have h1:=h.s
 have h2:=h.d
 have h3:=h.t
 cases er with
 |val d' b=>cases h2;exact⟨b,fun _=>rfl,h3⟩
 |fre d' b=>cases h2;exact⟨b,fun _=>rfl,h3⟩
 |brw d' b=>cases s<;>simp_all[qim,ER.isF,Sh.nb]
theorem Is.frz {d:D} {er:ER} (h:Is s t d er) (hs:s.nb=true):Is .v t d er.frz:=by
 have h1:=h.s
 have h2:=h.d
 have h3:=h.t
 cases er with
 |val d' b=>exact⟨h2,rfl,h3⟩
 |fre d' b=>exact⟨h2,rfl,h3⟩
 |brw d' b=>cases s<;>simp_all[qim,ER.isF,Sh.nb]
theorem SN.put {i:Nat} {ix:Ex} {m1:RE α} {m2:RE Int} {xs:List α} {q0:Sl} (ρ₂:Sl→List Sl) (h:XE Γ e ρ m1 en s t1) (hs:s.nb=true) (h0:ρ[i]? = some q0) (hq:SlO t2 (xs.map en) q0) (hi:XE Γ ix ρ m2 eI s2 t) (hset:∀q,ρ.set i q=ρ₂ q) :
  SN Γ (.put i ix e) ρ (m1.bind fun x=>m2.bind fun k=>(match L2.ixN xs.length k with
   |some j=>.ok (xs.set j x)
   |none=>.bad)) fun v ρ'=>∃q,ρ'=ρ₂ q∧SlO (t1&&t2) (v.map en) q:=by
 unfold SN
 rw[Cm.run]
 obtain⟨f,rfl,hf⟩:=hq
 cases m1 with
 |bad=>trivial
 |exc c fs=>have h:ev Γ _ ρ=_:=h;rw[h];rfl
 |ok x =>
  obtain⟨er,e1,h1⟩:=h
  rw[e1]
  simp only[RE.out_ok,RE.bind_ok]
  obtain⟨b1,q1,r1⟩:=qfs h1 hs
  rw[q1,qc1,h0]
  simp only
  cases m2 with
  |bad=>trivial
  |exc c fs=>have h:ev Γ _ ρ=_:=hi;rw[h];rfl
  |ok k =>
   obtain⟨er2,e2,h2⟩:=hi
   rw[e2]
   simp only[RE.out_ok,RE.bind_ok,h2.d,List.length_map]
   cases L2.ixN xs.length k with
   |none=>trivial
   |some j =>
    refine⟨_,rfl,_,hset _,_,by rw[List.map_set],fun z=>?_⟩
    rw[Bool.and_eq_true] at z
    rw[r1 z.1,hf z.2];rfl
def qpO (xs:List α) (k:Int) (x:α):RE (List α):=match L2.ixN xs.length k with
 |some j=>.ok (xs.set j x)
 |none=>.bad
def qfj (xs:List α) (x:α):RE (List α):=gd (leB (xs.length+1)) (.ok (xs++[x]))
theorem SN.app {i:Nat} {m1:RE α} {xs:List α} {q0:Sl} (ρ₂:Sl→List Sl) (h:XE Γ e ρ m1 en s t1) (hs:s.nb=true) (h0:ρ[i]? = some q0) (hq:SlO t2 (xs.map en) q0) (hset:∀q,ρ.set i q=ρ₂ q) :
  SN Γ (.app i e) ρ (m1.bind fun x=>qfj xs x) fun v ρ'=>∃q,ρ'=ρ₂ q∧SlO (t1&&t2) (v.map en) q:=by
 unfold SN
 rw[Cm.run]
 obtain⟨f,rfl,hf⟩:=hq
 rw[qc1,h0]
 simp only
 cases m1 with
 |bad=>trivial
 |exc c fs=>have h:ev Γ _ ρ=_:=h;rw[h];rfl
 |ok x =>
  obtain⟨er,e1,h1⟩:=h
  rw[e1]
  simp only[RE.out_ok,RE.bind_ok]
  obtain⟨b1,q1,r1⟩:=qfs h1 hs
  rw[q1,List.length_map,qfj]
  cases leB (xs.length+1) with
  |false=>trivial
  |true =>
   refine⟨_,rfl,_,hset _,(b1&&f),by simp,fun z=>?_⟩
   rw[Bool.and_eq_true] at z
   rw[r1 z.1,hf z.2];rfl
theorem SN.appP {i:Nat} {x:α} {xs:List α} {q0:Sl} (ρ₂:Sl→List Sl) (h:XE Γ e ρ (.ok x) en s t1) (hs:s.nb=true) (h0:ρ[i]? = some q0) (hq:SlO t2 (xs.map en) q0) (hset:∀q,ρ.set i q=ρ₂ q) :
  SN Γ (.app i e) ρ (qfj xs x) fun v ρ'=>∃q,ρ'=ρ₂ q∧SlO (t1&&t2) (v.map en) q:=SN.app ρ₂ h hs h0 hq hset
def qvq (xs ys:List α):RE (List α):=gd (leB (xs.length+ys.length)) (.ok (xs++ys))
def qvL (xs:List α):RE (α × List α):=match xs.getLast? with
 |some x=>.ok (x,xs.dropLast)
 |none=>.bad
theorem SN.clr {i:Nat} {xs:List α} {q0:Sl} (ρ₂:Sl→List Sl) (h0:ρ[i]? = some q0) (hq:SlO t (xs.map en) q0) (hset:∀q,ρ.set i q=ρ₂ q) :
  SN Γ (.clr i) ρ (.ok ([]:List α)) fun v ρ'=>∃q,ρ'=ρ₂ q∧SlO true (v.map en) q:=by
 unfold SN
 rw[Cm.run]
 obtain⟨f,rfl,hf⟩:=hq
 rw[qc1,h0]
 exact⟨_,rfl,_,hset _,_,rfl,fun _=>rfl⟩
def qlB (xs ys:List α) (k:Int):RE (List α × List α):=match L2.ixN ys.length k with
 |some m=>match ys[m]? with
  |some d=>gd (leB ys.length) (gd (leB (xs.length+1)) (.ok (xs++[d],ys.eraseIdx m)))
  |none=>.bad
 |none=>.bad
theorem SN.apop {i j:Nat} {ix:Ex} {m1:RE Int} {xs ys:List α} {q0 r0:Sl} (ρ₂:Sl→Sl→List Sl) (hij:(if i=j then false else true)=true) (h0:ρ[i]? = some q0) (hq:SlO t1 (xs.map en) q0) (h1:ρ[j]? = some r0) (hr:SlO t2 (ys.map en) r0) (hi:XE Γ ix ρ m1 eI s t) (hset:∀q r,(ρ.set j r).set i q=ρ₂ q r) :
  SN Γ (.apop i j ix) ρ (m1.bind fun k=>qlB xs ys k) fun v ρ'=>∃q r,ρ'=ρ₂ q r∧SlO (t2&&t1) (v.1.map en) q∧SlO t2 (v.2.map en) r:=by
 have hij:i≠j:=fun e=>by rw[if_pos e] at hij;cases hij
 unfold SN
 rw[Cm.run]
 obtain⟨f,rfl,hf⟩:=hq
 obtain⟨g,rfl,hg⟩:=hr
 rw[if_neg hij,qc1,h0]
 simp only[qc1,h1]
 cases m1 with
 |bad=>trivial
 |exc c fs=>have h:ev Γ _ ρ=_:=hi;rw[h];rfl
 |ok k =>
  obtain⟨er,e1,h1⟩:=hi
  rw[e1]
  simp only[RE.out_ok,RE.bind_ok,h1.d,List.length_map,qlB]
  cases L2.ixN ys.length k with
  |none=>trivial
  |some m =>
   simp only[List.getElem?_map]
   cases ys[m]? with
   |none=>trivial
   |some d =>
    simp only[Option.map_some]
    cases leB ys.length with
    |false=>trivial
    |true =>
     cases leB (xs.length+1) with
     |false=>trivial
     |true =>
      refine⟨_,rfl,_,_,hset _ _,⟨(g&&f),by simp,fun z=>?_⟩,⟨g,by rw[qin],hg⟩⟩
      rw[Bool.and_eq_true] at z
      rw[hg z.1,hf z.2];rfl
def quv (xs:List α) (k:Int):RE (List α):=match L2.ixN xs.length k with
 |some m=>match xs[m]? with
  |some _=>gd (leB xs.length) (.ok (xs.eraseIdx m))
  |none=>.bad
 |none=>.bad
def qvE (xs:List Int) (k:Int):RE (List Int):=match qug k xs with
 |some m=>.ok (xs.eraseIdx m)
 |none=>.bad
theorem qjD {i:Nat} {ds:List D} {q0:Sl} (ρ₂:Sl→List Sl) (h0:ρ[i]? = some q0) (hq:SlO t ds q0) (hset:∀q,ρ.set i q=ρ₂ q):∃q,qam Γ (.frz i ss) ρ=qam Γ ss (ρ₂ q)∧SlV t (.lst ds) q:=by
 obtain⟨f,rfl,hf⟩:=hq
 refine⟨.val (.lst ds) f,?_,_,rfl,hf⟩
 rw[qam,qc1,h0,←hset]
theorem BR.frz {i:Nat} {xs:List α} {q0:Sl} {m:RE β} {k1:Sh} {k2:Bool} (ρ₂:Sl→List Sl) (h0:ρ[i]? = some q0) (hq:SlO t (xs.map en) q0) (hset:∀q,ρ.set i q=ρ₂ q) (h:∀q,SlV t (eL en xs) q→BR Γ ss (ρ₂ q) m en2 k1 k2):BR Γ (.frz i ss) ρ m en2 k1 k2:=by
 obtain⟨q,e,r⟩:=qjD (Γ:=Γ) (ss:=ss) ρ₂ h0 hq hset
 unfold BR
 rw[e];exact h q r
theorem BN.frz {i:Nat} {xs:List α} {q0:Sl} {m:RE σ} (ρ₂:Sl→List Sl) (h0:ρ[i]? = some q0) (hq:SlO t (xs.map en) q0) (hset:∀q,ρ.set i q=ρ₂ q) (h:∀q,SlV t (eL en xs) q→BN Γ ss (ρ₂ q) m S):BN Γ (.frz i ss) ρ m S:=by
 obtain⟨q,e,r⟩:=qjD (Γ:=Γ) (ss:=ss) ρ₂ h0 hq hset
 unfold BN
 rw[e];exact h q r
theorem BL.frz {i:Nat} {xs:List α} {q0:Sl} {m:RE σ} (ρ₂:Sl→List Sl) (h0:ρ[i]? = some q0) (hq:SlO t (xs.map en) q0) (hset:∀q,ρ.set i q=ρ₂ q) (h:∀q,SlV t (eL en xs) q→BL Γ ss (ρ₂ q) m S):BL Γ (.frz i ss) ρ m S:=by
 obtain⟨q,e,r⟩:=qjD (Γ:=Γ) (ss:=ss) ρ₂ h0 hq hset
 unfold BL
 rw[e];exact h q r
theorem BF.frz {i:Nat} {xs:List α} {q0:Sl} {m:RE (Fl β σ)} (ρ₂:Sl→List Sl) (h0:ρ[i]? = some q0) (hq:SlO t (xs.map en) q0) (hset:∀q,ρ.set i q=ρ₂ q) (h:∀q,SlV t (eL en xs) q→BF Γ ss (ρ₂ q) m R S):BF Γ (.frz i ss) ρ m R S:=by
 obtain⟨q,e,r⟩:=qjD (Γ:=Γ) (ss:=ss) ρ₂ h0 hq hset
 unfold BF
 rw[e];exact h q r
theorem BX.frz {i:Nat} {xs:List α} {q0:Sl} {m:RE (Fl β σ)} (ρ₂:Sl→List Sl) (h0:ρ[i]? = some q0) (hq:SlO t (xs.map en) q0) (hset:∀q,ρ.set i q=ρ₂ q) (h:∀q,SlV t (eL en xs) q→BX Γ ss (ρ₂ q) m R S):BX Γ (.frz i ss) ρ m R S:=by
 obtain⟨q,e,r⟩:=qjD (Γ:=Γ) (ss:=ss) ρ₂ h0 hq hset
 unfold BX
 rw[e];exact h q r
theorem SlV.ent {d:D} {k:Nat} {q:Sl} (h:SlV t d q):SlV t d (Cm.ent k q):=by
 obtain⟨f,e,ht⟩:=h
 rcases qnT e with rfl | ⟨rfl,j,rfl⟩
 ·by_cases hb:(f||d.flat)=true
  ·rw[show Cm.ent k (.val d f)=.val d f from if_pos hb]
   exact⟨f,rfl,ht⟩
  ·rw[show Cm.ent k (.val d f)=.fxd d k from if_neg hb]
   exact⟨false,rfl,fun z=>by rw[ht z] at hb;exact absurd rfl hb⟩
 ·exact⟨false,rfl,ht⟩
theorem SlO.ent {ds:List D} {k:Nat} {q:Sl} (h:SlO t ds q):SlO t ds (Cm.ent k q):=by
 obtain⟨f,rfl,ht⟩:=h
 exact⟨f,rfl,ht⟩
def qvN (_:Nat):Sl:=.non
def qs2 (cs:Ch) (i:Nat) (d:D):RE Unit:=match chg cs [(i,d)] ([],0) with
 |some _=>.ok ()
 |none=>.bad
theorem qm9 {er er':ER} {k:Bool} {d:D} (h:qdH k er=.ok er') (hd:er'.d=d) (hb:er'.b=true):qlH er=some d:=by
 subst hd
 cases k with
 |false =>
  cases er with
  |brw _ _=>cases h
  |val d b=>cases h;exact if_pos hb
  |fre ds b=>cases h;exact if_pos (by rw[show b=true from hb];rfl)
 |true =>
  cases er with
  |brw _ _=>cases h
  |val d b =>
   simp only[qdH] at h
   split at h
   ·rename_i z;cases h;exact if_pos z
   ·cases h
  |fre ds b =>
   simp only[qdH] at h
   split at h
   ·rename_i z;cases h;exact if_pos z
   ·cases h
theorem BR.hav {i f:Nat} {es:Exs} {rd:Sms} {cs:Ch} {m:RE α} {k1:α→RE (Fl β σ)} {k2:α→σ→RE β} {s1:Sh} (S:α→σ→List Sl→Prop) (h:XE Γ (.call f es) ρ m en s1 true) (hsf:qn3 s t en2) (hsv:s=.v) (hi:Nat.blt i ρ.length=true)
  (h1:∀x,BG Γ rd ((qjV 0 ρ).set i (.fxd (en x) i)) (k1 x) (fun v er=>Is s t (en2 v) er) (S x))
  (h2:∀x st ρ',S x st ρ'→(∃d,ρ'[i]? = some (.fxd d i))∧(cs.tgs.all fun l=>Nat.blt l ρ'.length)=true∧BR Γ ss (wipeS (qjN (ρ.set i .non) 0 ρ') cs.tgs) (k2 x st) en2 s t) :
  BR Γ (.hav i f es rd cs ss) ρ (m.bind fun x=>Fl.bR (k1 x) fun st=>(qs2 cs i (en x)).bind fun _=>k2 x st) en2 s t:=by
 unfold BR
 rw[qam]
 unfold XE at h
 rw[ev] at h
 cases eg:Γ.fn[f]? with
 |none =>
  rw[eg] at h
  cases m with
  |bad=>trivial
  |ok v=>obtain⟨er,e,_⟩:=h;cases e
  |exc c fs=>have h:RE.bad=_:=h;cases h
 |some g =>
  rw[eg] at h
  simp only at h ⊢
  cases m with
  |bad=>trivial
  |exc c fs =>
   have h:_=RE.exc c fs:=h
   cases e1:evs Γ es ρ with
   |bad=>rw[e1] at h;cases h
   |exc c' fs'=>rw[e1] at h;cases h;rfl
   |ok r =>
    rw[e1] at h
    simp only[RE.bind_ok,RE.out_ok] at h ⊢
    cases e2:g.2 (r.map ER.d) with
    |bad=>rw[e2] at h;cases h
    |exc c' fs'=>rw[e2] at h;cases h;rfl
    |ok er =>
     rw[e2] at h
     simp only[RE.bind_ok] at h
     exfalso
     revert h
     cases (!r.all ER.isV)<;>cases er<;>simp only[qdH]<;>first | (intro z;cases z) | (split<;>intro z<;>cases z)
  |ok v =>
   obtain⟨er',e,his⟩:=h
   cases e1:evs Γ es ρ with
   |bad=>rw[e1] at e;cases e
   |exc c' fs'=>rw[e1] at e;cases e
   |ok r =>
    rw[e1] at e
    simp only[RE.bind_ok,RE.out_ok] at e ⊢
    cases e2:g.2 (r.map ER.d) with
    |bad=>rw[e2] at e;cases e
    |exc c' fs'=>rw[e2] at e;cases e
    |ok er =>
     rw[e2] at e
     simp only[RE.bind_ok] at e
     simp only[RE.out_ok,qm9 e his.d (his.t rfl),hi,qdg,RE.bind_ok]
     have h1:=h1 v
     cases ek:k1 v with
     |bad=>trivial
     |exc c fs =>
      rw[ek] at h1
      have h1:qam Γ rd _=_:=h1
      rw[h1];rfl
     |ok fl =>
      rw[ek] at h1
      cases fl with
      |bk _=>exact h1.elim
      |rt b =>
       obtain⟨er3,e3,h3⟩:=h1
       rw[e3]
       simp only[Out.hv]
       have hn:∃d,qlH er3=some d:=by
        subst hsv
        cases er3 with
        |fre _ _=>cases h3.s
        |brw _ _=>cases h3.s
        |val d b3 =>
         refine⟨d,if_pos ?_⟩
         have hd:d=en2 b:=h3.d
         rcases hsf with z | ⟨_,z⟩ | ⟨z,_⟩
         ·have:b3=true:=h3.t z
          rw[this];rfl
         ·rw[hd,z b];simp
         ·cases z
       obtain⟨d,hn⟩:=hn
       rw[hn]
       exact⟨er3,rfl,h3⟩
      |nx st =>
       obtain⟨ρ',e3,h3⟩:=h1
       obtain⟨⟨d2,q1⟩,q2,q3⟩:=h2 v st ρ' h3
       rw[e3]
       simp only[Out.hv,q1,q2,beq_self_eq_true,Bool.true_and,qdg,Fl.bR,RE.bind_ok,qs2]
       cases ec:chg cs [(i,en v)] ([],0) with
       |none=>trivial
       |some _=>exact q3
theorem BF.hav {i f:Nat} {es:Exs} {rd:Sms} {cs:Ch} {m:RE α} {k1:α→RE (Fl β σ)} {k2:α→σ→RE (Fl β τ)} {s1:Sh} (S:α→σ→List Sl→Prop) (h:XE Γ (.call f es) ρ m en s1 true) (hsf:qn3 s t en2) (hsv:s=.v) (hi:Nat.blt i ρ.length=true)
  (h1:∀x,BG Γ rd ((qjV 0 ρ).set i (.fxd (en x) i)) (k1 x) (fun v er=>Is s t (en2 v) er) (S x))
  (h2:∀x st ρ',S x st ρ'→(∃d,ρ'[i]? = some (.fxd d i))∧(cs.tgs.all fun l=>Nat.blt l ρ'.length)=true∧BF Γ ss (wipeS (qjN (ρ.set i .non) 0 ρ') cs.tgs) (k2 x st) (fun v er=>Is s t (en2 v) er) S') :
  BF Γ (.hav i f es rd cs ss) ρ (m.bind fun x=>Fl.bF (k1 x) fun st=>(qs2 cs i (en x)).bind fun _=>k2 x st) (fun v er=>Is s t (en2 v) er) S':=by
 unfold BF
 rw[qam]
 unfold XE at h
 rw[ev] at h
 cases eg:Γ.fn[f]? with
 |none =>
  rw[eg] at h
  cases m with
  |bad=>trivial
  |ok v=>obtain⟨er,e,_⟩:=h;cases e
  |exc c fs=>have h:RE.bad=_:=h;cases h
 |some g =>
  rw[eg] at h
  simp only at h ⊢
  cases m with
  |bad=>trivial
  |exc c fs =>
   have h:_=RE.exc c fs:=h
   cases e1:evs Γ es ρ with
   |bad=>rw[e1] at h;cases h
   |exc c' fs'=>rw[e1] at h;cases h;rfl
   |ok r =>
    rw[e1] at h
    simp only[RE.bind_ok,RE.out_ok] at h ⊢
    cases e2:g.2 (r.map ER.d) with
    |bad=>rw[e2] at h;cases h
    |exc c' fs'=>rw[e2] at h;cases h;rfl
    |ok er =>
     rw[e2] at h
     simp only[RE.bind_ok] at h
     exfalso
     revert h
     cases (!r.all ER.isV)<;>cases er<;>simp only[qdH]<;>first | (intro z;cases z) | (split<;>intro z<;>cases z)
  |ok v =>
   obtain⟨er',e,his⟩:=h
   cases e1:evs Γ es ρ with
   |bad=>rw[e1] at e;cases e
   |exc c' fs'=>rw[e1] at e;cases e
   |ok r =>
    rw[e1] at e
    simp only[RE.bind_ok,RE.out_ok] at e ⊢
    cases e2:g.2 (r.map ER.d) with
    |bad=>rw[e2] at e;cases e
    |exc c' fs'=>rw[e2] at e;cases e
    |ok er =>
     rw[e2] at e
     simp only[RE.bind_ok] at e
     simp only[RE.out_ok,qm9 e his.d (his.t rfl),hi,qdg,RE.bind_ok]
     have h1:=h1 v
     cases ek:k1 v with
     |bad=>trivial
     |exc c fs =>
      rw[ek] at h1
      have h1:qam Γ rd _=_:=h1
      rw[h1];rfl
     |ok fl =>
      rw[ek] at h1
      cases fl with
      |bk _=>exact h1.elim
      |rt b =>
       obtain⟨er3,e3,h3⟩:=h1
       rw[e3]
       simp only[Out.hv]
       have hn:∃d,qlH er3=some d:=by
        subst hsv
        cases er3 with
        |fre _ _=>cases h3.s
        |brw _ _=>cases h3.s
        |val d b3 =>
         refine⟨d,if_pos ?_⟩
         have hd:d=en2 b:=h3.d
         rcases hsf with z | ⟨_,z⟩ | ⟨z,_⟩
         ·have:b3=true:=h3.t z
          rw[this];rfl
         ·rw[hd,z b];simp
         ·cases z
       obtain⟨d,hn⟩:=hn
       rw[hn]
       exact⟨er3,rfl,h3⟩
      |nx st =>
       obtain⟨ρ',e3,h3⟩:=h1
       obtain⟨⟨d2,q1⟩,q2,q3⟩:=h2 v st ρ' h3
       rw[e3]
       simp only[Out.hv,q1,q2,beq_self_eq_true,Bool.true_and,qdg,Fl.bF,RE.bind_ok,qs2]
       cases ec:chg cs [(i,en v)] ([],0) with
       |none=>trivial
       |some _=>exact q3
end
end Cm
namespace Cm
def qaD {α σ:Type} (f:α→σ→RE σ):List α→σ→RE σ
 |[],s=>.ok s
 |x::xs,s=>(f x s).bind (qaD f xs)
def qb8 {α β σ:Type} (f:α→σ→RE (Fl β σ)):List α→σ→RE (Fl β σ)
 |[],s=>.ok (.nx s)
 |x::xs,s=>(f x s).bind fun r=>match r with
  |.nx s'=>qb8 f xs s'
  |.rt b=>.ok (.rt b)
  |.bk s'=>.ok (.nx s')
def qrW {σ:Type} (c:σ→RE Bool) (f:σ→RE σ):Nat→σ→RE σ
 |0,_=>.bad
 |n+1,s=>(c s).bind fun k=>if k=true then (f s).bind (qrW c f n) else .ok s
section
variable {Γ:Env} {ρ:List Sl} {α β γ σ:Type} {en:α→D} {en2:β→D} {en3:γ→D} {it:Itx} {i j:Nat} {b:Sms} {m:RE (List α)} {t t0 t0' t1:Bool} {s:Sh} {R:γ→ER→Prop} {S:σ→List Sl→Prop}
theorem qm1 {F:D→List Sl→Out} {f:α→σ→RE σ} (h:∀x st ρ',S st ρ'→XL (F (en x) ρ') (f x st) S):∀{xs:List α} {st:σ} {ρ':List Sl},S st ρ'→XN (qfq F (xs.map en) ρ') (qaD f xs st) S
 |[],st,ρ',hs=>⟨ρ',rfl,hs⟩
 |x::xs,st,ρ',hs=>by
  have h0:=h x st ρ' hs
  simp only[List.map_cons,qaD]
  unfold qfq
  cases e:f x st with
  |bad=>trivial
  |exc c fs=>rw[e] at h0;have h0:F (en x) ρ'=_:=h0;rw[h0];rfl
  |ok st' =>
   rw[e] at h0
   obtain⟨ρ2,e2,h2⟩:=h0
   rcases e2 with e2 | e2<;>rw[e2]<;>exact qm1 h h2
theorem qk8 {F:D→List Sl→Out} {f:α→σ→RE (Fl γ σ)} (h:∀x st ρ',S st ρ'→XF (F (en x) ρ') (f x st) R S):∀{xs:List α} {st:σ} {ρ':List Sl},S st ρ'→(match qb8 f xs st with
  |.bad=>True
  |.ok (.nx v)=>∃ρ2,qfq F (xs.map en) ρ'=.nx ρ2∧S v ρ2
  |.ok (.rt b)=>∃er,qfq F (xs.map en) ρ'=.ret er∧R b er
  |.ok (.bk v)=>False
  |.exc c fs=>qfq F (xs.map en) ρ'=.exc c fs)
 |[],st,ρ',hs=>⟨ρ',rfl,hs⟩
 |x::xs,st,ρ',hs=>by
  have h0:=h x st ρ' hs
  simp only[List.map_cons,qb8]
  unfold qfq
  cases e:f x st with
  |bad=>trivial
  |exc c fs=>rw[e] at h0;have h0:F (en x) ρ'=_:=h0;rw[h0];rfl
  |ok r =>
   rw[e] at h0
   simp only[RE.bind_ok]
   cases r with
   |nx st' =>
    obtain⟨ρ2,e2,h2⟩:=h0
    rcases e2 with e2 | e2<;>rw[e2]<;>exact qk8 h h2
   |rt b=>obtain⟨er,e2,h2⟩:=h0;rw[e2];exact⟨_,rfl,h2⟩
   |bk st'=>obtain⟨ρ2,e2,h2⟩:=h0;rw[e2];exact⟨_,rfl,h2⟩
theorem SN.forG {tg:List Nat} {f:α→σ→RE σ} {s0:σ} (hi:XI Γ it ρ m en t1 false) (h0:S s0 ρ) (hb:∀x st ρ' b',(t1=true→b'=true)→S st ρ'→XL (onB (qe7 tg (en x) b' ρ') fun ρ'=>qam Γ b ρ') (f x st) S) :
  SN Γ (.for it tg b) ρ (m.bind fun xs=>qaD f xs s0) S:=by
 unfold SN
 rw[Cm.run]
 cases m with
 |bad=>trivial
 |exc c fs=>have h:evI Γ it ρ=_:=hi;rw[h];rfl
 |ok xs =>
  obtain⟨w,e,w1,w2,w3⟩:=hi
  rw[e]
  simp only[RE.out_ok,w3 rfl,Bool.false_eq_true,if_false,RE.bind_ok,w1]
  exact qm1 (fun x st ρ' hs=>hb x st ρ' w.b w2 hs) h0
theorem SF.forG {tg:List Nat} {f:α→σ→RE (Fl γ σ)} {s0:σ} (hi:XI Γ it ρ m en t1 false) (h0:S s0 ρ) (hb:∀x st ρ' b',(t1=true→b'=true)→S st ρ'→XF (onB (qe7 tg (en x) b' ρ') fun ρ'=>qam Γ b ρ') (f x st) R S) :
  SF Γ (.for it tg b) ρ (m.bind fun xs=>qb8 f xs s0) R S:=by
 unfold SF
 rw[Cm.run]
 cases m with
 |bad=>trivial
 |exc c fs=>have h:evI Γ it ρ=_:=hi;rw[h];rfl
 |ok xs =>
  obtain⟨w,e,w1,w2,w3⟩:=hi
  rw[e]
  simp only[RE.out_ok,w3 rfl,Bool.false_eq_true,if_false,RE.bind_ok,w1]
  exact qk8 (fun x st ρ' hs=>hb x st ρ' w.b w2 hs) h0
theorem qpR {b':Bool} (ht:t0=true→t1=true∨Flat en) (h:t1=true→b'=true) (x:α):SlV t0 (en x) (.val (en x) (b'||(en x).flat)):=⟨_,rfl,fun z=>by
 rcases ht z with q | q
 ·simp[h q]
 ·rw[q.flat];simp⟩
theorem SN.for1 {f:α→σ→RE σ} {s0:σ} (S:σ→List Sl→Prop) (hi:XI Γ it ρ m en t1 false) (ht:t0=true→t1=true∨Flat en) (h0:S s0 ρ) (hb:∀x st ρ' q,S st ρ'→SlV t0 (en x) q→BL Γ b (ρ'.set i q) (f x st) S) :
  SN Γ (.for it [i] b) ρ (m.bind fun xs=>qaD f xs s0) S:=
 SN.forG hi h0 fun x st ρ' b' h1 hs=>hb x st ρ' _ hs (qpR ht h1 x)
theorem SF.for1 {f:α→σ→RE (Fl γ σ)} {s0:σ} (S:σ→List Sl→Prop) (hi:XI Γ it ρ m en t1 false) (ht:t0=true→t1=true∨Flat en) (h0:S s0 ρ) (hb:∀x st ρ' q,S st ρ'→SlV t0 (en x) q→BF Γ b (ρ'.set i q) (f x st) R S) :
  SF Γ (.for it [i] b) ρ (m.bind fun xs=>qb8 f xs s0) R S:=
 SF.forG hi h0 fun x st ρ' b' h1 hs=>hb x st ρ' _ hs (qpR ht h1 x)
theorem qps {c:Te} {cc:σ→RE Bool} {f:σ→RE σ} (hc:∀st ρ',S st ρ'→XT Γ c ρ' (cc st)) (hb:∀st ρ',S st ρ'→BL Γ b ρ' (f st) S):∀{n:Nat} {st:σ} {ρ':List Sl},S st ρ'→XN (qfW (fun ρ=>evT Γ c ρ) (fun ρ=>qam Γ b ρ) n ρ') (qrW cc f n st) S
 |0,st,ρ',hs=>trivial
 |n+1,st,ρ',hs=>by
  have h0:=hc st ρ' hs
  have h1:=hb st ρ' hs
  unfold qrW qfW
  cases e:cc st with
  |bad=>trivial
  |exc c fs=>rw[e] at h0;have h0:evT Γ _ ρ'=_:=h0;simp only[h0];rfl
  |ok k =>
   rw[e] at h0
   obtain⟨k',e0,rfl⟩:=h0
   simp only[e0,RE.bind_ok,RE.out_ok]
   cases k' with
   |false=>exact⟨ρ',rfl,hs⟩
   |true =>
    simp only[if_true]
    cases e1:f st with
    |bad=>trivial
    |exc c fs=>rw[e1] at h1;have h1:qam Γ b ρ'=_:=h1;simp only[h1];rfl
    |ok st' =>
     rw[e1] at h1
     obtain⟨ρ2,e2,h2⟩:=h1
     rcases e2 with e2 | e2<;>simp only[e2]<;>exact qps hc hb h2
theorem SN.whl {c:Te} {cc:σ→RE Bool} {f:σ→RE σ} {s0:σ} (S:σ→List Sl→Prop) (h0:S s0 ρ) (hc:∀st ρ',S st ρ'→XT Γ c ρ' (cc st)) (hb:∀st ρ',S st ρ'→BL Γ b ρ' (f st) S):SN Γ (.whl c b) ρ (qrW cc f qsm s0) S:=by
 unfold SN
 rw[Cm.run]
 exact qps hc hb h0
def qsI {σ γ:Type} (c:σ→RE Bool) (f:σ→RE (Fl γ σ)):Nat→σ→RE (Fl γ σ)
 |0,_=>.bad
 |n+1,s=>(c s).bind fun k=>if k=true then (f s).bind (fun r=>match r with
  |.nx s'=>qsI c f n s'
  |.rt b=>.ok (.rt b)
  |.bk s'=>.ok (.nx s')) else .ok (.nx s)
theorem ql4 {c:Te} {cc:σ→RE Bool} {f:σ→RE (Fl γ σ)} (hc:∀st ρ',S st ρ'→XT Γ c ρ' (cc st)) (hb:∀st ρ',S st ρ'→BF Γ b ρ' (f st) R S):∀{n:Nat} {st:σ} {ρ':List Sl},S st ρ'→XG (qfW (fun ρ=>evT Γ c ρ) (fun ρ=>qam Γ b ρ) n ρ') (qsI cc f n st) R S
 |0,st,ρ',hs=>trivial
 |n+1,st,ρ',hs=>by
  have h0:=hc st ρ' hs
  have h1:=hb st ρ' hs
  unfold qsI qfW
  cases e:cc st with
  |bad=>trivial
  |exc c fs=>rw[e] at h0;have h0:evT Γ _ ρ'=_:=h0;simp only[h0];rfl
  |ok k =>
   rw[e] at h0
   obtain⟨k',e0,rfl⟩:=h0
   simp only[e0,RE.bind_ok,RE.out_ok]
   cases k' with
   |false=>exact⟨ρ',rfl,hs⟩
   |true =>
    simp only[if_true]
    cases e1:f st with
    |bad=>trivial
    |exc c fs=>rw[e1] at h1;have h1:qam Γ b ρ'=_:=h1;simp only[h1];rfl
    |ok r =>
     rw[e1] at h1
     simp only[RE.bind_ok]
     cases r with
     |nx st' =>
      obtain⟨ρ2,e2,h2⟩:=h1
      rcases e2 with e2 | e2<;>simp only[e2]<;>exact ql4 hc hb h2
     |rt z=>obtain⟨er,e2,h2⟩:=h1;simp only[e2];exact⟨_,rfl,h2⟩
     |bk st'=>obtain⟨ρ2,e2,h2⟩:=h1;simp only[e2];exact⟨_,rfl,h2⟩
theorem SF.whl {c:Te} {cc:σ→RE Bool} {f:σ→RE (Fl γ σ)} {s0:σ} (S:σ→List Sl→Prop) (h0:S s0 ρ) (hc:∀st ρ',S st ρ'→XT Γ c ρ' (cc st)) (hb:∀st ρ',S st ρ'→BF Γ b ρ' (f st) R S):SF Γ (.whl c b) ρ (qsI cc f qsm s0) R S:=by
 unfold SF
 rw[Cm.run]
 exact ql4 hc hb h0
end
abbrev XS {α:Type} (Γ:Env) (es:Exs) (ρ:List Sl) (m:RE α) (enl:α→List D) (nb t:Bool):Prop:=XR (evs Γ es ρ) m fun v ers=>ers.map ER.d=enl v∧ers.all ER.isV=nb∧(t=true→ers.all ER.b=true)
section
variable {Γ:Env} {ρ:List Sl} {α β γ σ:Type} {en:α→D} {en2:β→D} {a b:Ex} {es:Exs} {s s1:Sh} {t t1 t2 nb:Bool} {m1:RE α} {m2:RE β} {enl:β→List D} {x:α} {y:β} {k:Nat} {nm:PySem.Str} {g:List D→RE ER}
theorem XS.nil:XS Γ .nil ρ (.ok ()) (fun _=>[]) true true:=by unfold XS;rw[evs];exact⟨_,rfl,rfl,rfl,fun _=>rfl⟩
theorem XS.cons (h:XE Γ a ρ m1 en s t1) (hs:XS Γ es ρ m2 enl nb t2):XS Γ (.cons a es) ρ (m1.bind fun v=>m2.bind fun w=>.ok (v,w)) (fun p=>en p.1::enl p.2) (s.nb&&nb) (t1&&t2):=by
 unfold XS
 rw[evs]
 exact XR.bind h fun v er h1=>XR.bind hs fun w ers h2=>by
  refine⟨_,rfl,?_,?_,fun z=>?_⟩
  ·simp only[List.map_cons,qfI,h1.d,h2.1]
  ·simp only[List.all_cons,h2.2.1]
   have:=h1.s
   cases s<;>cases er<;>simp_all[qim,ER.isF,Sh.nb]
  ·rw[Bool.and_eq_true] at z
   simp only[List.all_cons,Bool.and_eq_true,qnS]
   exact⟨h1.t z.1,h2.2.2 z.2⟩
theorem XS.consP (h:XE Γ a ρ (.ok x) en s t1) (hs:XS Γ es ρ (.ok y) enl nb t2):XS Γ (.cons a es) ρ (.ok (x,y)) (fun p=>en p.1::enl p.2) (s.nb&&nb) (t1&&t2):=XS.cons h hs
theorem qoQ {d:D} {er:ER} (h:Is s t d er) (hs:s.nb=true):∃er',qdH false er=.ok er'∧Is s t d er':=by
 have h1:=h.s
 have h2:=h.d
 have h3:=h.t
 cases er with
 |val d' b=>exact⟨_,rfl,h2,by cases s<;>simp_all[qim,ER.isF,Sh.nb],fun z=>by have:=h3 z;show(_||_)=true;simp only[ER.b_val] at this;rw[this];rfl⟩
 |fre d' b=>exact⟨_,rfl,h⟩
 |brw d' b=>cases s<;>simp_all[qim,ER.isF,Sh.nb]
theorem ql8 {v:α} {er:ER} (h:Is s t (en v) er) (hs:qn3 s t en) (hn:s.nb=true):∃er',qdH true er=.ok er'∧Is s true (en v) er':=by
 have h1:=h.s
 have h2:=h.d
 have h3:=h.t
 cases er with
 |val d' b =>
  have h2:d'=en v:=h2
  subst h2
  have:(b||(en v).flat)=true:=by
   rcases hs with q | q | q
   ·have:b=true:=h3 q
    rw[this];rfl
   ·rw[q.2];simp
   ·rw[q.1] at h1;cases h1
  simp only[qdH,this,if_true]
  exact⟨_,rfl,rfl,by cases s<;>simp_all[qim,ER.isF,Sh.nb],fun z=>rfl⟩
 |fre d' b =>
  have h2:D.lst d'=en v:=h2
  have:(b||D.flats d')=true:=by
   rcases hs with q | q | q
   ·have:b=true:=h3 q
    rw[this];rfl
   ·rw[q.1] at h1;cases h1
   ·rw[q.2 v d' h2.symm];simp
  simp only[qdH,this,if_true]
  exact⟨_,rfl,h2,by cases s<;>simp_all[qim,ER.isF,Sh.nb],fun z=>rfl⟩
 |brw d' b=>cases s<;>simp_all[qim,ER.isF,Sh.nb]
theorem qik {r:List ER} {e:RE ER} {m:RE α} (h:XR e m fun v er=>Is s t (en v) er) (hr:r.all ER.isV=true) (hn:s.nb=true):XR (e.bind (qdH (!r.all ER.isV))) m fun v er=>Is s t (en v) er:=by
 rw[hr]
 cases m with
 |bad=>trivial
 |exc c fs=>have h:e=_:=h;rw[h];rfl
 |ok v=>obtain⟨er,e1,h1⟩:=h;rw[e1];exact qoQ h1 hn
theorem qf1 {r:List ER} {e:RE ER} {m:RE α} (h:XR e m fun v er=>Is s t (en v) er) (hs:qn3 s t en) (hr:r.all ER.isV=false) (hn:s.nb=true):XR (e.bind (qdH (!r.all ER.isV))) m fun v er=>Is s true (en v) er:=by
 rw[hr]
 cases m with
 |bad=>trivial
 |exc c fs=>have h:e=_:=h;rw[h];rfl
 |ok v=>obtain⟨er,e1,h1⟩:=h;rw[e1];exact ql8 h1 hs hn
theorem XE.callS {F:β→RE α} (hg:Γ.fn[k]? = some (nm,g)) (ha:XS Γ es ρ m2 enl nb t2) (hr:∀w,XR (g (enl w)) (F w) fun v er=>Is s t (en v) er) (hs:nb=true) (hn:s.nb=true):XE Γ (.call k es) ρ (m2.bind F) en s t:=by
 unfold XE;rw[ev,hg]
 exact XR.bind ha fun w ers h=>by
  show XR ((g (ers.map ER.d)).bind _) _ _
  rw[h.1];exact qik (hr w) (h.2.1.trans hs) hn
theorem XE.callSb {F:β→RE α} (hg:Γ.fn[k]? = some (nm,g)) (ha:XS Γ es ρ m2 enl nb t2) (hr:∀w,XR (g (enl w)) (F w) fun v er=>Is s t (en v) er) (hs:nb=false) (hn:s.nb=true) (hf:qn3 s t en):XE Γ (.call k es) ρ (m2.bind F) en s true:=by
 unfold XE;rw[ev,hg]
 exact XR.bind ha fun w ers h=>by
  show XR ((g (ers.map ER.d)).bind _) _ _
  rw[h.1];exact qf1 (hr w) hf (h.2.1.trans hs) hn
theorem XE.callSP {m:RE α} (hg:Γ.fn[k]? = some (nm,g)) (ha:XS Γ es ρ (.ok y) enl nb t2) (hr:XR (g (enl y)) m fun v er=>Is s t (en v) er) (hs:nb=true) (hn:s.nb=true):XE Γ (.call k es) ρ m en s t:=by
 obtain⟨ers,e,h⟩:=ha
 unfold XE;rw[ev,hg,e]
 show XR ((g (ers.map ER.d)).bind _) _ _
 rw[h.1];exact qik hr (h.2.1.trans hs) hn
theorem XE.callSPb {m:RE α} (hg:Γ.fn[k]? = some (nm,g)) (ha:XS Γ es ρ (.ok y) enl nb t2) (hr:XR (g (enl y)) m fun v er=>Is s t (en v) er) (hs:nb=false) (hn:s.nb=true) (hf:qn3 s t en):XE Γ (.call k es) ρ m en s true:=by
 obtain⟨ers,e,h⟩:=ha
 unfold XE;rw[ev,hg,e]
 show XR ((g (ers.map ER.d)).bind _) _ _
 rw[h.1];exact qf1 hr hf (h.2.1.trans hs) hn
end
section
variable {Γ:Env} {ρ:List Sl} {α β γ σ τ:Type} {en:α→D} {en2:β→D} {e:τ→D} {a b:Ex} {es:Exs} {s s1 s0:Sh} {t t1 t2 t0 nb:Bool} {m0:RE τ} {m1:RE α} {m2:RE β} {enl:β→List D} {x:τ} {y:β} {k:Nat} {cl:τ→Nat} {fs:τ→List D}
theorem XE.mthS {F:τ→β→RE α} (h:XE Γ a ρ m0 e s0 t0) (hI:∀v,e v=.ins (cl v) (fs v)) (ha:XS Γ es ρ m2 enl nb t2) (hr:∀x,∃g,Γ.mt (cl x) k=some g∧∀w,XR (g (e x::enl w)) (F x w) fun v er=>Is s t (en v) er) (hs:nb=true) (hn:s.nb=true):XE Γ (.mth k a es) ρ (m0.bind fun x=>m2.bind fun w=>F x w) en s t:=by
 unfold XE;rw[ev]
 exact XR.bind h fun v er h1=>by
  obtain⟨g,hg,hr⟩:=hr v
  rw[h1.d,hI]
  simp only[hg]
  exact XR.bind ha fun w ers h=>by rw[h.1,←hI];exact qik (hr w) (h.2.1.trans hs) hn
theorem XE.mthSb {F:τ→β→RE α} (h:XE Γ a ρ m0 e s0 t0) (hI:∀v,e v=.ins (cl v) (fs v)) (ha:XS Γ es ρ m2 enl nb t2) (hr:∀x,∃g,Γ.mt (cl x) k=some g∧∀w,XR (g (e x::enl w)) (F x w) fun v er=>Is s t (en v) er) (hs:nb=false) (hn:s.nb=true) (hf:qn3 s t en):XE Γ (.mth k a es) ρ (m0.bind fun x=>m2.bind fun w=>F x w) en s true:=by
 unfold XE;rw[ev]
 exact XR.bind h fun v er h1=>by
  obtain⟨g,hg,hr⟩:=hr v
  rw[h1.d,hI]
  simp only[hg]
  exact XR.bind ha fun w ers h=>by rw[h.1,←hI];exact qf1 (hr w) hf (h.2.1.trans hs) hn
theorem XE.mthSP {m:RE α} (h:XE Γ a ρ (.ok x) e s0 t0) (hI:∀v,e v=.ins (cl v) (fs v)) (ha:XS Γ es ρ (.ok y) enl nb t2) (hr:∃g,Γ.mt (cl x) k=some g∧XR (g (e x::enl y)) m fun v er=>Is s t (en v) er) (hs:nb=true) (hn:s.nb=true):XE Γ (.mth k a es) ρ m en s t:=by
 obtain⟨er,e1,h1⟩:=h
 obtain⟨ers,e2,h2⟩:=ha
 obtain⟨g,hg,hr⟩:=hr
 unfold XE;rw[ev,e1]
 simp only[RE.bind_ok]
 rw[h1.d,hI]
 simp only[hg,e2,RE.bind_ok]
 rw[h2.1,←hI];exact qik hr (h2.2.1.trans hs) hn
theorem XE.mthSPb {m:RE α} (h:XE Γ a ρ (.ok x) e s0 t0) (hI:∀v,e v=.ins (cl v) (fs v)) (ha:XS Γ es ρ (.ok y) enl nb t2) (hr:∃g,Γ.mt (cl x) k=some g∧XR (g (e x::enl y)) m fun v er=>Is s t (en v) er) (hs:nb=false) (hn:s.nb=true) (hf:qn3 s t en):XE Γ (.mth k a es) ρ m en s true:=by
 obtain⟨er,e1,h1⟩:=h
 obtain⟨ers,e2,h2⟩:=ha
 obtain⟨g,hg,hr⟩:=hr
 unfold XE;rw[ev,e1]
 simp only[RE.bind_ok]
 rw[h1.d,hI]
 simp only[hg,e2,RE.bind_ok]
 rw[h2.1,←hI];exact qf1 hr hf (h2.2.1.trans hs) hn
theorem XE.newS {c:Nat} {g:List D→RE (List D)} {F:β→RE α} (hg:Γ.nw[k]? = some (c,g)) (ha:XS Γ es ρ m2 enl nb t2) (hr:∀w,XR (g (enl w)) (F w) fun v fs=>en v=.ins c fs):XE Γ (.new k es) ρ (m2.bind F) en .v true:=by
 unfold XE;rw[ev,hg]
 exact XR.bind ha fun w ers h=>by
  show XR ((g (ers.map ER.d)).bind _) _ _
  rw[h.1]
  have e:F w=(F w).bind RE.ok:=by simp
  rw[e]
  exact XR.bind (hr w) fun v fs q=>⟨_,rfl,q.symm,rfl,fun _=>rfl⟩
theorem XE.newSP {c:Nat} {g:List D→RE (List D)} {m:RE α} (hg:Γ.nw[k]? = some (c,g)) (ha:XS Γ es ρ (.ok y) enl nb t2) (hr:XR (g (enl y)) m fun v fs=>en v=.ins c fs):XE Γ (.new k es) ρ m en .v true:=by
 obtain⟨ers,e,h⟩:=ha
 unfold XE;rw[ev,hg,e]
 show XR ((g (ers.map ER.d)).bind _) _ _
 rw[h.1]
 have e:m=m.bind RE.ok:=by simp
 rw[e]
 exact XR.bind hr fun v fs q=>⟨_,rfl,q.symm,rfl,fun _=>rfl⟩
theorem XE.fldG {f:Nat} {p:τ→α} {t:Bool} (ht:t=true→∀v,(en v).flat=true) (h:XE Γ a ρ m0 e s0 t0) (hI:∀v,e v=.ins (cl v) (fs v)) (hk:∀v,∃i,Γ.fi (cl v) f=some i∧(fs v)[i]? = some (en (p v))):XE Γ (.fld a f) ρ (m0.bind fun x=>.ok (p x)) en .v t:=by
 unfold XE;rw[ev]
 exact XR.bind h fun v er h1=>by
  obtain⟨i,e1,e2⟩:=hk v
  rw[h1.d,hI]
  simp only[e1,e2]
  exact qs1 rfl fun q=>ht q _
theorem XE.fld {f:Nat} {p:τ→α} (h:XE Γ a ρ m0 e s0 t0) (hI:∀v,e v=.ins (cl v) (fs v)) (hk:∀v,∃i,Γ.fi (cl v) f=some i∧(fs v)[i]? = some (en (p v))):XE Γ (.fld a f) ρ (m0.bind fun x=>.ok (p x)) en .v false:=XE.fldG (fun q=>nomatch q) h hI hk
theorem XE.fldP {f:Nat} {p:τ→α} (h:XE Γ a ρ (.ok x) e s0 t0) (hI:∀v,e v=.ins (cl v) (fs v)) (hk:∀v,∃i,Γ.fi (cl v) f=some i∧(fs v)[i]? = some (en (p v))):XE Γ (.fld a f) ρ (.ok (p x)) en .v false:=XE.fld h hI hk
theorem XE.fldF [Flat en] {f:Nat} {p:τ→α} (h:XE Γ a ρ m0 e s0 t0) (hI:∀v,e v=.ins (cl v) (fs v)) (hk:∀v,∃i,Γ.fi (cl v) f=some i∧(fs v)[i]? = some (en (p v))):XE Γ (.fld a f) ρ (m0.bind fun x=>.ok (p x)) en .v true:=XE.fldG (fun _=>Flat.flat (en:=en)) h hI hk
theorem XE.fldFP [Flat en] {f:Nat} {p:τ→α} (h:XE Γ a ρ (.ok x) e s0 t0) (hI:∀v,e v=.ins (cl v) (fs v)) (hk:∀v,∃i,Γ.fi (cl v) f=some i∧(fs v)[i]? = some (en (p v))):XE Γ (.fld a f) ρ (.ok (p x)) en .v true:=XE.fldF h hI hk
theorem XE.tupS {F:β→α} (ha:XS Γ es ρ m2 enl nb t) (hf:∀w,en (F w)=.tup (enl w)) (hs:nb=true):XE Γ (.tup es) ρ (m2.bind fun w=>.ok (F w)) en .v t:=by
 unfold XE;rw[ev]
 exact XR.bind ha fun w ers h=>by
  show XR (if ers.all ER.isV=true then _ else _) _ _
  rw[if_pos (h.2.1.trans hs)]
  exact qs1 (by rw[hf,h.1]) h.2.2
theorem XE.lstS {F:β→List α} (ha:XS Γ es ρ m2 enl nb t) (hf:∀w,(F w).map en=enl w) (hs:nb=true):XE Γ (.lst es) ρ (m2.bind fun w=>.ok (F w)) (eL en) .f t:=by
 unfold XE;rw[ev]
 exact XR.bind ha fun w ers h=>by
  show XR (if ers.all ER.isV=true then _ else _) _ _
  rw[if_pos (h.2.1.trans hs)]
  exact qpd (by rw[eL,hf,h.1]) h.2.2
abbrev XLs (Γ:Env) (es:Exs) (ρ:List Sl) (xs:List α) (en:α→D) (t:Bool):Prop:=XS Γ es ρ (.ok xs) (fun xs=>xs.map en) true t
theorem XLs.nil:XLs Γ .nil ρ [] en true:=by unfold XLs;unfold XS;rw[evs];exact⟨_,rfl,rfl,rfl,fun _=>rfl⟩
theorem XLs.cons {x:α} {xs:List α} (h:XE Γ a ρ (.ok x) en s t1) (hn:s.nb=true) (hs:XLs Γ es ρ xs en t2):XLs Γ (.cons a es) ρ (x::xs) en (t1&&t2):=by
 have:=XS.consP h hs
 obtain⟨ers,e1,h1,h2,h3⟩:=this
 exact⟨ers,e1,h1,by rw[h2,hn];rfl,h3⟩
theorem XE.lstL {xs:List α} (ha:XLs Γ es ρ xs en t):XE Γ (.lst es) ρ (.ok xs) (eL en) .f t:=XE.lstS (F:=fun xs=>xs) ha (fun _=>rfl) rfl
theorem Rf.run {n m:Nat} {b:Sms} {as:List D} {mm:RE α} (hn:as.length=n) (h:BR Γ b (as.map (fun d=>Sl.val d d.flat)++List.replicate m .non) mm en s t):XR (qck Γ n m b as) mm fun v er=>Is s t (en v) er:=by
 unfold qck
 rw[if_pos hn]
 cases mm with
 |bad=>trivial
 |ok v =>
  obtain⟨er,e,h⟩:=h
  cases hr:qam Γ b (as.map (fun d=>Sl.val d d.flat)++List.replicate m .non)<;>rw[hr] at e<;>cases e
  exact⟨_,rfl,h⟩
 |exc c fs =>
  have h:(qam Γ b (as.map (fun d=>Sl.val d d.flat)++List.replicate m .non)).rt=_:=h
  cases hr:qam Γ b (as.map (fun d=>Sl.val d d.flat)++List.replicate m .non)<;>rw[hr] at h<;>cases h
  rfl
theorem Rf.weak {r:RE ER} {m:RE α} (h:Rf r m en s t) (hs:s.nb=true):Rf r m en .n t:=XR.mono h fun _ _ k=>k.weak hs
theorem Rf.low {r:RE ER} {m:RE α} (h:Rf r m en s t):Rf r m en s false:=XR.mono h fun _ _ k=>k.low
theorem Rf.mono {r:RE ER} {m:RE α} (h:Rf r m en s t) (hs:s.nb=true):Rf r m en .n false:=XR.mono h fun _ _ k=>(k.weak hs).low
end
end Cm
namespace Cm
section
variable {Γ:Env} {ρ:List Sl} {α:Type} {en:α→D} {s:Sh} {t:Bool}
theorem XE.mth0P {k:Nat} {τ:Type} {e:τ→D} {a:Ex} {sR:Sh} {tR:Bool} {x:τ}   {cl:τ→Nat} {fs:τ→List D} {F:τ→RE α} (h:XE Γ a ρ (.ok x) e sR tR) (hI:∀v,e v=.ins (cl v) (fs v))  (hr:∀x,∃g,Γ.mt (cl x) k=some g∧XR (g (e x::[])) (F x) fun v er=>Is s t (en v) er) (hs:true=true) (hn:s.nb=true):XE Γ (.mth k a .nil) ρ (F x) en s t:=XE.mthSP h hI XS.nil (hr x) hs hn
theorem XE.call1P {k:Nat} {nm:PySem.Str} {g:List D→RE ER} {τ0:Type} {e0:τ0→D} {a0:Ex} {s0:Sh} {t0:Bool} {x0:τ0} {m:RE α} (hg:Γ.fn[k]? = some (nm,g)) (h0:XE Γ a0 ρ (.ok x0) e0 s0 t0) (hr:XR (g [e0 x0]) m fun v er=>Is s t (en v) er) (hs:(s0.nb&&true)=true) (hn:s.nb=true):XE Γ (.call k (.cons a0 .nil)) ρ m en s t:=XE.callSP hg (XS.consP h0 XS.nil) hr hs hn
theorem XE.mth1 {k:Nat} {τ:Type} {e:τ→D} {a:Ex} {sR:Sh} {tR:Bool} {τ0:Type} {e0:τ0→D} {a0:Ex} {s0:Sh} {t0:Bool} {mR:RE τ} {m0:RE τ0} {cl:τ→Nat} {fs:τ→List D} {F:τ→τ0→RE α} (h:XE Γ a ρ mR e sR tR) (hI:∀v,e v=.ins (cl v) (fs v)) (h0:XE Γ a0 ρ m0 e0 s0 t0) (hr:∀x,∃g,Γ.mt (cl x) k=some g∧∀x0,XR (g (e x::[e0 x0])) (F x x0) fun v er=>Is s t (en v) er) (hs:(s0.nb&&true)=true) (hn:s.nb=true):XE Γ (.mth k a (.cons a0 .nil)) ρ (mR.bind fun x=>m0.bind fun x0=>F x x0) en s t:=
 (XE.mthS (F:=fun x w=>F x w.1) h hI (XS.cons h0 XS.nil) (fun x=>by obtain⟨g,h1,h2⟩:=hr x;exact⟨g,h1,fun w=>h2 _⟩) hs hn).cast (by simp only[RE.bind_assoc,RE.bind_ok])
theorem XE.call2P {k:Nat} {nm:PySem.Str} {g:List D→RE ER} {τ0:Type} {e0:τ0→D} {a0:Ex} {s0:Sh} {t0:Bool} {τ1:Type} {e1:τ1→D} {a1:Ex} {s1:Sh} {t1:Bool} {x0:τ0} {x1:τ1} {m:RE α} (hg:Γ.fn[k]? = some (nm,g)) (h0:XE Γ a0 ρ (.ok x0) e0 s0 t0) (h1:XE Γ a1 ρ (.ok x1) e1 s1 t1) (hr:XR (g [e0 x0,e1 x1]) m fun v er=>Is s t (en v) er) (hs:(s0.nb&&(s1.nb&&true))=true) (hn:s.nb=true):XE Γ (.call k (.cons a0 (.cons a1 .nil))) ρ m en s t:=XE.callSP hg (XS.consP h0 (XS.consP h1 XS.nil)) hr hs hn
theorem XE.tup2 {τ0:Type} {e0:τ0→D} {a0:Ex} {s0:Sh} {t0:Bool} {τ1:Type} {e1:τ1→D} {a1:Ex} {s1:Sh} {t1:Bool} {m0:RE τ0} {m1:RE τ1} (h0:XE Γ a0 ρ m0 e0 s0 t0) (h1:XE Γ a1 ρ m1 e1 s1 t1) (hs:(s0.nb&&(s1.nb&&true))=true):XE Γ (.tup (.cons a0 (.cons a1 .nil))) ρ (m0.bind fun x0=>m1.bind fun x1=>.ok (x0,x1)) (eT2 e0 e1) .v (t0&&(t1&&true)):=
 (XE.tupS (F:=fun w=>(w.1,w.2.1)) (en:=eT2 e0 e1) (XS.cons h0 (XS.cons h1 XS.nil)) (fun w=>rfl) hs).cast (by simp only[RE.bind_assoc,RE.bind_ok])
theorem XE.tup2P {τ0:Type} {e0:τ0→D} {a0:Ex} {s0:Sh} {t0:Bool} {τ1:Type} {e1:τ1→D} {a1:Ex} {s1:Sh} {t1:Bool} {x0:τ0} {x1:τ1} (h0:XE Γ a0 ρ (.ok x0) e0 s0 t0) (h1:XE Γ a1 ρ (.ok x1) e1 s1 t1) (hs:(s0.nb&&(s1.nb&&true))=true):XE Γ (.tup (.cons a0 (.cons a1 .nil))) ρ (.ok (x0,x1)) (eT2 e0 e1) .v (t0&&(t1&&true)):=XE.tup2 h0 h1 hs
theorem XE.call3 {k:Nat} {nm:PySem.Str} {g:List D→RE ER} {τ0:Type} {e0:τ0→D} {a0:Ex} {s0:Sh} {t0:Bool} {τ1:Type} {e1:τ1→D} {a1:Ex} {s1:Sh} {t1:Bool} {τ2:Type} {e2:τ2→D} {a2:Ex} {s2:Sh} {t2:Bool} {m0:RE τ0} {m1:RE τ1} {m2:RE τ2} {F:τ0→τ1→τ2→RE α} (hg:Γ.fn[k]? = some (nm,g)) (h0:XE Γ a0 ρ m0 e0 s0 t0) (h1:XE Γ a1 ρ m1 e1 s1 t1) (h2:XE Γ a2 ρ m2 e2 s2 t2) (hr:∀x0 x1 x2,XR (g [e0 x0,e1 x1,e2 x2]) (F x0 x1 x2) fun v er=>Is s t (en v) er) (hs:(s0.nb&&(s1.nb&&(s2.nb&&true)))=true) (hn:s.nb=true):XE Γ (.call k (.cons a0 (.cons a1 (.cons a2 .nil)))) ρ (m0.bind fun x0=>m1.bind fun x1=>m2.bind fun x2=>F x0 x1 x2) en s t:=
 (XE.callS (F:=fun w=>F w.1 w.2.1 w.2.2.1) hg (XS.cons h0 (XS.cons h1 (XS.cons h2 XS.nil))) (fun w=>hr _ _ _) hs hn).cast (by simp only[RE.bind_assoc,RE.bind_ok])
theorem XE.call3P {k:Nat} {nm:PySem.Str} {g:List D→RE ER} {τ0:Type} {e0:τ0→D} {a0:Ex} {s0:Sh} {t0:Bool} {τ1:Type} {e1:τ1→D} {a1:Ex} {s1:Sh} {t1:Bool} {τ2:Type} {e2:τ2→D} {a2:Ex} {s2:Sh} {t2:Bool} {x0:τ0} {x1:τ1} {x2:τ2} {m:RE α} (hg:Γ.fn[k]? = some (nm,g)) (h0:XE Γ a0 ρ (.ok x0) e0 s0 t0) (h1:XE Γ a1 ρ (.ok x1) e1 s1 t1) (h2:XE Γ a2 ρ (.ok x2) e2 s2 t2) (hr:XR (g [e0 x0,e1 x1,e2 x2]) m fun v er=>Is s t (en v) er) (hs:(s0.nb&&(s1.nb&&(s2.nb&&true)))=true) (hn:s.nb=true):XE Γ (.call k (.cons a0 (.cons a1 (.cons a2 .nil)))) ρ m en s t:=XE.callSP hg (XS.consP h0 (XS.consP h1 (XS.consP h2 XS.nil))) hr hs hn
theorem XE.new3 {k c:Nat} {g:List D→RE (List D)} {τ0:Type} {e0:τ0→D} {a0:Ex} {s0:Sh} {t0:Bool} {τ1:Type} {e1:τ1→D} {a1:Ex} {s1:Sh} {t1:Bool} {τ2:Type} {e2:τ2→D} {a2:Ex} {s2:Sh} {t2:Bool} {m0:RE τ0} {m1:RE τ1} {m2:RE τ2} {F:τ0→τ1→τ2→RE α} (hg:Γ.nw[k]? = some (c,g)) (h0:XE Γ a0 ρ m0 e0 s0 t0) (h1:XE Γ a1 ρ m1 e1 s1 t1) (h2:XE Γ a2 ρ m2 e2 s2 t2) (hr:∀x0 x1 x2,XR (g [e0 x0,e1 x1,e2 x2]) (F x0 x1 x2) fun v fs=>en v=.ins c fs):XE Γ (.new k (.cons a0 (.cons a1 (.cons a2 .nil)))) ρ (m0.bind fun x0=>m1.bind fun x1=>m2.bind fun x2=>F x0 x1 x2) en .v true:=
 (XE.newS (F:=fun w=>F w.1 w.2.1 w.2.2.1) hg (XS.cons h0 (XS.cons h1 (XS.cons h2 XS.nil))) (fun w=>hr _ _ _)).cast (by simp only[RE.bind_assoc,RE.bind_ok])
theorem XE.tup3 {τ0:Type} {e0:τ0→D} {a0:Ex} {s0:Sh} {t0:Bool} {τ1:Type} {e1:τ1→D} {a1:Ex} {s1:Sh} {t1:Bool} {τ2:Type} {e2:τ2→D} {a2:Ex} {s2:Sh} {t2:Bool} {m0:RE τ0} {m1:RE τ1} {m2:RE τ2} (h0:XE Γ a0 ρ m0 e0 s0 t0) (h1:XE Γ a1 ρ m1 e1 s1 t1) (h2:XE Γ a2 ρ m2 e2 s2 t2) (hs:(s0.nb&&(s1.nb&&(s2.nb&&true)))=true):XE Γ (.tup (.cons a0 (.cons a1 (.cons a2 .nil)))) ρ (m0.bind fun x0=>m1.bind fun x1=>m2.bind fun x2=>.ok (x0,x1,x2)) (eT3 e0 e1 e2) .v (t0&&(t1&&(t2&&true))):=
 (XE.tupS (F:=fun w=>(w.1,w.2.1,w.2.2.1)) (en:=eT3 e0 e1 e2) (XS.cons h0 (XS.cons h1 (XS.cons h2 XS.nil))) (fun w=>rfl) hs).cast (by simp only[RE.bind_assoc,RE.bind_ok])
theorem XE.tup3P {τ0:Type} {e0:τ0→D} {a0:Ex} {s0:Sh} {t0:Bool} {τ1:Type} {e1:τ1→D} {a1:Ex} {s1:Sh} {t1:Bool} {τ2:Type} {e2:τ2→D} {a2:Ex} {s2:Sh} {t2:Bool} {x0:τ0} {x1:τ1} {x2:τ2} (h0:XE Γ a0 ρ (.ok x0) e0 s0 t0) (h1:XE Γ a1 ρ (.ok x1) e1 s1 t1) (h2:XE Γ a2 ρ (.ok x2) e2 s2 t2) (hs:(s0.nb&&(s1.nb&&(s2.nb&&true)))=true):XE Γ (.tup (.cons a0 (.cons a1 (.cons a2 .nil)))) ρ (.ok (x0,x1,x2)) (eT3 e0 e1 e2) .v (t0&&(t1&&(t2&&true))):=XE.tup3 h0 h1 h2 hs
theorem XE.call4P {k:Nat} {nm:PySem.Str} {g:List D→RE ER} {τ0:Type} {e0:τ0→D} {a0:Ex} {s0:Sh} {t0:Bool} {τ1:Type} {e1:τ1→D} {a1:Ex} {s1:Sh} {t1:Bool} {τ2:Type} {e2:τ2→D} {a2:Ex} {s2:Sh} {t2:Bool} {τ3:Type} {e3:τ3→D} {a3:Ex} {s3:Sh} {t3:Bool} {x0:τ0} {x1:τ1} {x2:τ2} {x3:τ3} {m:RE α} (hg:Γ.fn[k]? = some (nm,g)) (h0:XE Γ a0 ρ (.ok x0) e0 s0 t0) (h1:XE Γ a1 ρ (.ok x1) e1 s1 t1) (h2:XE Γ a2 ρ (.ok x2) e2 s2 t2) (h3:XE Γ a3 ρ (.ok x3) e3 s3 t3) (hr:XR (g [e0 x0,e1 x1,e2 x2,e3 x3]) m fun v er=>Is s t (en v) er) (hs:(s0.nb&&(s1.nb&&(s2.nb&&(s3.nb&&true))))=true) (hn:s.nb=true):XE Γ (.call k (.cons a0 (.cons a1 (.cons a2 (.cons a3 .nil))))) ρ m en s t:=XE.callSP hg (XS.consP h0 (XS.consP h1 (XS.consP h2 (XS.consP h3 XS.nil)))) hr hs hn
theorem XE.new4 {k c:Nat} {g:List D→RE (List D)} {τ0:Type} {e0:τ0→D} {a0:Ex} {s0:Sh} {t0:Bool} {τ1:Type} {e1:τ1→D} {a1:Ex} {s1:Sh} {t1:Bool} {τ2:Type} {e2:τ2→D} {a2:Ex} {s2:Sh} {t2:Bool} {τ3:Type} {e3:τ3→D} {a3:Ex} {s3:Sh} {t3:Bool} {m0:RE τ0} {m1:RE τ1} {m2:RE τ2} {m3:RE τ3} {F:τ0→τ1→τ2→τ3→RE α} (hg:Γ.nw[k]? = some (c,g)) (h0:XE Γ a0 ρ m0 e0 s0 t0) (h1:XE Γ a1 ρ m1 e1 s1 t1) (h2:XE Γ a2 ρ m2 e2 s2 t2) (h3:XE Γ a3 ρ m3 e3 s3 t3) (hr:∀x0 x1 x2 x3,XR (g [e0 x0,e1 x1,e2 x2,e3 x3]) (F x0 x1 x2 x3) fun v fs=>en v=.ins c fs):XE Γ (.new k (.cons a0 (.cons a1 (.cons a2 (.cons a3 .nil))))) ρ (m0.bind fun x0=>m1.bind fun x1=>m2.bind fun x2=>m3.bind fun x3=>F x0 x1 x2 x3) en .v true:=
 (XE.newS (F:=fun w=>F w.1 w.2.1 w.2.2.1 w.2.2.2.1) hg (XS.cons h0 (XS.cons h1 (XS.cons h2 (XS.cons h3 XS.nil)))) (fun w=>hr _ _ _ _)).cast (by simp only[RE.bind_assoc,RE.bind_ok])
theorem XE.new4P {k c:Nat} {g:List D→RE (List D)} {τ0:Type} {e0:τ0→D} {a0:Ex} {s0:Sh} {t0:Bool} {τ1:Type} {e1:τ1→D} {a1:Ex} {s1:Sh} {t1:Bool} {τ2:Type} {e2:τ2→D} {a2:Ex} {s2:Sh} {t2:Bool} {τ3:Type} {e3:τ3→D} {a3:Ex} {s3:Sh} {t3:Bool} {x0:τ0} {x1:τ1} {x2:τ2} {x3:τ3} {m:RE α} (hg:Γ.nw[k]? = some (c,g)) (h0:XE Γ a0 ρ (.ok x0) e0 s0 t0) (h1:XE Γ a1 ρ (.ok x1) e1 s1 t1) (h2:XE Γ a2 ρ (.ok x2) e2 s2 t2) (h3:XE Γ a3 ρ (.ok x3) e3 s3 t3) (hr:XR (g [e0 x0,e1 x1,e2 x2,e3 x3]) m fun v fs=>en v=.ins c fs):XE Γ (.new k (.cons a0 (.cons a1 (.cons a2 (.cons a3 .nil))))) ρ m en .v true:=XE.newSP hg (XS.consP h0 (XS.consP h1 (XS.consP h2 (XS.consP h3 XS.nil)))) hr
end
end Cm
namespace Cm
open PySem PySem.Spec PyProof.Rows L2
section
variable {Γ:Env} {ρ:List Sl} {α β γ δ:Type} {en:α→D} {en2:β→D} {en3:γ→D} {a b c e:Ex} {s s1 s2 s3:Sh} {t t1 t2 t3:Bool} {m:RE α} {x:α} {y:β} {z:γ}
theorem XE.binR {o:Bop} {m1:RE α} {f:α→RE γ} (ha:XE Γ a ρ m1 en s1 t1) (hb:XE Γ b ρ (.ok y) en2 s2 t2) (h:∀x bb,((t1&&t2)=true→bb=true)→XR (evB o (en x) (en2 y) bb) (f x) fun v er=>Is s t (en3 v) er):XE Γ (.bin o a b) ρ (m1.bind f) en3 s t:=by
 cases m1 with
 |bad=>trivial
 |ok x=>exact XE.binP ha hb (h x)
 |exc c fs=>have ha:ev Γ a ρ=_:=ha;unfold XE;rw[ev,ha];rfl
theorem XE.binL {o:Bop} {m2:RE β} {f:β→RE γ} (ha:XE Γ a ρ (.ok x) en s1 t1) (hb:XE Γ b ρ m2 en2 s2 t2) (h:∀y bb,((t1&&t2)=true→bb=true)→XR (evB o (en x) (en2 y) bb) (f y) fun v er=>Is s t (en3 v) er):XE Γ (.bin o a b) ρ (m2.bind f) en3 s t:=by
 cases m2 with
 |bad=>trivial
 |ok y=>exact XE.binP ha hb (h y)
 |exc c fs =>
  obtain⟨er,e1,_⟩:=ha
  have hb:ev Γ b ρ=_:=hb
  unfold XE;rw[ev,e1,hb];rfl
theorem XE.cmpR {o:Cop} {m1:RE α} {f:α→RE Bool} (ha:XE Γ a ρ m1 en s1 t1) (hb:XE Γ b ρ (.ok y) en2 s2 t2) (h:∀x,evC o (en x) (en2 y)=f x):XE Γ (.cmp o a b) ρ (m1.bind f) eB .v true:=by
 cases m1 with
 |bad=>trivial
 |ok x=>exact XE.cmpP ha hb (h x)
 |exc c fs=>have ha:ev Γ a ρ=_:=ha;unfold XE;rw[ev,ha];rfl
theorem XE.cmpL {o:Cop} {m2:RE β} {f:β→RE Bool} (ha:XE Γ a ρ (.ok x) en s1 t1) (hb:XE Γ b ρ m2 en2 s2 t2) (h:∀y,evC o (en x) (en2 y)=f y):XE Γ (.cmp o a b) ρ (m2.bind f) eB .v true:=by
 cases m2 with
 |bad=>trivial
 |ok y=>exact XE.cmpP ha hb (h y)
 |exc c fs =>
  obtain⟨er,e1,_⟩:=ha
  have hb:ev Γ b ρ=_:=hb
  unfold XE;rw[ev,e1,hb];rfl
theorem XE.nev {e:Ex}:XE Γ e ρ (.bad:RE α) en s t:=trivial
def eTL {α:Type} (en:α→D) (xs:List α):D:=.tup (xs.map en)
theorem XE.tupL {es:Exs} {xs:List α} (ha:XLs Γ es ρ xs en t):XE Γ (.tup es) ρ (.ok xs) (eTL en) .v t:=XE.tupS (F:=fun xs=>xs) ha (fun _=>rfl) rfl
def qp6 (x:List Nat) (ts:List (List Nat)):RE Bool:=if ((D.str x).fit 0&&D.fits (ts.map eS) 0)=true then .ok (decide (x∈ts)) else .bad
def qod (x:List Nat) (ts:List (List Nat)):RE Bool:=(qp6 x ts).bind fun b=>.ok (!b)
theorem qlg (x:List Nat):∀ts:List (List Nat),((ts.map D.str).any fun z=>z.eqb (.str x))=decide (x∈ts)
 |[]=>by simp
 |n::ts=>by
  show(D.eqb (.str n) (.str x)||(ts.map D.str).any fun z=>z.eqb (.str x))=_
  rw[qlg x ts]
  simp only[D.eqb,List.mem_cons]
  by_cases h:n=x
  ·subst h;simp
  ·have:¬x=n:=fun e=>h e.symm
   simp[h,this]
theorem qkH {α β:Type} (o:Cop) (e1:α→D) (e2:β→D) (x:α) (y:β):evC o (e1 x) (e2 y)=evC o (e1 x) (e2 y):=rfl
theorem qpp (x:List Nat) (ts:List (List Nat)):evC .isin (eS x) (eTL eS ts)=qp6 x ts:=by
 show(if ((D.str x).fit 0&&D.fits (ts.map eS) 0)=true then RE.ok ((ts.map D.str).any fun z=>z.eqb (.str x)) else .bad)=_
 rw[qlg];rfl
theorem qrg (x:List Nat) (ts:List (List Nat)):evC .nin (eS x) (eTL eS ts)=qod x ts:=by
 show(evC .isin (eS x) (eTL eS ts)).bind _=_
 rw[qpp];rfl
theorem qgA {f:α→β} (k:∀v,en v=en2 (f v)) (v:List α):eL en v=eL en2 (v.map f):=by
 unfold eL
 rw[List.map_map]
 congr 1
 exact List.map_congr_left fun x _=>k x
theorem SlV.coe {f:α→β} {q:Sl} (h:SlV t (en x) q) (k:∀v,en v=en2 (f v)):SlV t (en2 (f x)) q:=by rw[←k];exact h
def Dec {α β:Type} (en:α→D) (en2:β→D) (f:α→RE β):Prop:=∀v,f v=.bad∨∃w,f v=.ok w∧en v=en2 w
theorem XE.dec {f:α→RE β} (h:XE Γ e ρ (.ok x) en s t) (k:Dec en en2 f):XE Γ e ρ (f x) en2 s t:=by
 rcases k x with k | ⟨w,q,k⟩
 ·rw[k];trivial
 ·rw[q];obtain⟨er,e1,e2⟩:=h;exact⟨er,e1,by rw[←k];exact e2.d,e2.s,e2.t⟩
theorem XE.decG {f:α→RE β} (h:XE Γ e ρ m en s t) (k:Dec en en2 f):XE Γ e ρ (m.bind f) en2 s t:=by
 cases m with
 |bad=>trivial
 |ok x=>exact XE.dec (x:=x) h k
 |exc c fs=>exact h
def dI:D→RE Int
 |.int i=>.ok i
 |_=>.bad
def dS:D→RE (List Nat)
 |.str i=>.ok i
 |_=>.bad
def dLs (f:α→RE β):List α→RE (List β)
 |[]=>.ok []
 |x::xs=>(f x).bind fun y=>(dLs f xs).bind fun ys=>.ok (y::ys)
def dL (f:D→RE β):D→RE (List β)
 |.lst xs=>dLs f xs
 |_=>.bad
def dT5 {α0 α1 α2 α3:Type} (f:α→RE β) (p:α0 × α1 × α2 × α3 × α):RE (α0 × α1 × α2 × α3 × β):=(f p.2.2.2.2).bind fun y=>.ok (p.1,p.2.1,p.2.2.1,p.2.2.2.1,y)
def dTH:D→RE (List Nat × Int × Int × Int × List D)
 |.tup [.str k,.int r,.int c,.int g,.lst m]=>.ok (k,r,c,g,m)
 |_=>.bad
theorem que:Dec eD eI dI:=fun v=>by cases v<;>first | exact .inl rfl | exact .inr ⟨_,rfl,rfl⟩
theorem quX:Dec eD eS dS:=fun v=>by cases v<;>first | exact .inl rfl | exact .inr ⟨_,rfl,rfl⟩
def dP2:D→RE (D × D)
 |.tup [a,b]=>.ok (a,b)
 |_=>.bad
theorem qpG {f:α→RE β} (h:Dec en en2 f):∀xs,dLs f xs=.bad∨∃ys,dLs f xs=.ok ys∧xs.map en=ys.map en2
 |[]=>.inr ⟨_,rfl,rfl⟩
 |x::xs=>by
  unfold dLs
  rcases h x with h1 | ⟨y,h1,h1'⟩
  ·rw[h1];exact .inl rfl
  ·rw[h1]
   rcases qpG h xs with h2 | ⟨ys,h2,h2'⟩
   ·rw[h2];exact .inl rfl
   ·rw[h2];exact .inr ⟨_,rfl,by simp[h1',h2']⟩
theorem qsb {f:α→RE β} (h:Dec en en2 f):Dec (eL en) (eL en2) (dLs f):=fun v=>by
 rcases qpG h v with h2 | ⟨ys,h2,h2'⟩
 ·exact .inl h2
 ·exact .inr ⟨ys,h2,by simp only[eL,h2']⟩
def thD (p:List Nat × Int × Int × Int × List Int):List Nat × Int × Int × Int × List D:=(p.1,p.2.1,p.2.2.1,p.2.2.2.1,p.2.2.2.2.map eI)
def t5L {α0 α1 α2 α3 α:Type} (g:α→D) (p:α0 × α1 × α2 × α3 × List α):α0 × α1 × α2 × α3 × List D:=(p.1,p.2.1,p.2.2.1,p.2.2.2.1,p.2.2.2.2.map g)
def qiQ (x:List Int):RE Int:=gd (Nat.ble x.length 1000) (.ok (qo2 x:Int))
theorem XE.lset {m:RE (List Int)} (h:XE Γ a ρ m (eL eI) s t):XE Γ (.lset a) ρ (m.bind qiQ) eI .v true:=by
 unfold XE;rw[ev]
 exact XR.bind h fun v er k=>by
  rw[k.d]
  simp only[qls,eL,qdK]
  exact xgd (xok rfl)
theorem XE.lsetP {x:List Int} (h:XE Γ a ρ (.ok x) (eL eI) s t):XE Γ (.lset a) ρ (qiQ x) eI .v true:=XE.lset h
def qi4 (x y:List Nat):RE (List (List Nat)):=gd (qs3 y.length x.length) (.ok ((Txt.split (qa8 x) (qa8 y)).map fun z=>z.cps.toList))
def qtZ (x y:List Nat):RE Int:=.ok (Txt.find (qa8 x) (qa8 y))
def qjo (s:List Nat) (ss:List (List Nat)):RE (List Nat):=gd (leB ((ss.map List.length).sum+ss.length*s.length)) (.ok (Txt.join (qa8 s) (ss.map qa8)).cps.toList)
theorem XE.split {m1 m2:RE (List Nat)} (ha:XE Γ a ρ m1 eS s1 t1) (hb:XE Γ b ρ m2 eS s2 t2):XE Γ (.bm1 .split a b) ρ (m1.bind fun x=>m2.bind fun y=>qi4 x y) (eL eS) .f true:=by
 unfold XE;rw[ev]
 exact XR.bind ha fun v er k=>by
  rw[k.d]
  exact XR.bind hb fun w er' k'=>by
   rw[k'.d]
   exact xgd (qpd (by simp[eL,List.map_map,Function.comp_def]) fun _=>rfl)
theorem XE.find {m1 m2:RE (List Nat)} (ha:XE Γ a ρ m1 eS s1 t1) (hb:XE Γ b ρ m2 eS s2 t2):XE Γ (.bm1 .find a b) ρ (m1.bind fun x=>m2.bind fun y=>qtZ x y) eI .v true:=by
 unfold XE;rw[ev]
 exact XR.bind ha fun v er k=>by
  rw[k.d]
  exact XR.bind hb fun w er' k'=>by rw[k'.d];exact xok rfl
theorem XE.join {m1:RE (List Nat)} {m2:RE (List (List Nat))} (ha:XE Γ a ρ m1 eS s1 t1) (hb:XE Γ b ρ m2 (eL eS) s2 t2):XE Γ (.bm1 .join a b) ρ (m1.bind fun x=>m2.bind fun y=>qjo x y) eS .v true:=by
 unfold XE;rw[ev]
 exact XR.bind ha fun v er k=>by
  rw[k.d]
  exact XR.bind hb fun w er' k'=>by
   rw[k'.d]
   simp only[evM,eL,qhv]
   exact xgd (xok rfl)
def qu0 (x y:List Nat):RE Int:=match PySem.Builtin.Str.occurrences (qa8 x) (qa8 y) 0 x.length 1 with
 |j::_=>.ok ((j:Nat):Int)
 |[]=>.bad
def qqP (xs:List Int) (y:Int):RE Int:=match xs.findIdx? (fun x=>decide (x=y)) with
 |some j=>.ok (j:Int)
 |none=>.bad
def mmE (k:Bool) (x:List Int) (y:Int):RE Int:=.ok (qs8 k x y)
def qvd (en:α→D) (en2:β→D) (xs:List α) (y:β):RE Int:=(qpS (xs.map en) (en2 y)).bind fun r=>match r.d with
 |.int i=>.ok i
 |_=>.bad
def qkW (d:D) (k:Int):RE D:=match d with
 |.lst xs=>atE xs k
 |.tup xs=>atE xs k
 |_=>.bad
theorem XE.idxD {m1:RE D} {m2:RE Int} (ha:XE Γ a ρ m1 eD s1 t) (hb:XE Γ b ρ m2 eI s2 t2):XE Γ (.idx a b) ρ (m1.bind fun x=>m2.bind fun k=>qkW x k) eD .v t:=by
 unfold XE;rw[ev]
 exact XR.bind ha fun v er k=>XR.bind hb fun w er' k'=>by
  rw[k.d,k'.d]
  unfold eD eI qkW atE
  cases v with
  |lst xs =>
   simp only[qpX]
   cases L2.atI xs w with
   |none=>trivial
   |some x=>exact⟨_,rfl,rfl,rfl,fun z=>by show(_||_)=true;rw[k.t z];rfl⟩
  |tup xs =>
   simp only[qpX]
   cases L2.atI xs w with
   |none=>trivial
   |some x=>exact⟨_,rfl,rfl,rfl,fun z=>by show(_||_)=true;rw[k.t z];rfl⟩
  |_=>trivial
def qvn (d:D):RE Int:=match d with
 |.lst xs=>.ok xs.length
 |.tup xs=>.ok xs.length
 |_=>.bad
theorem qq5 (x:α × β × γ) (e:ER) (h:e.d=eT3 en en2 en3 x) (_:t=true→e.b=true):XR (evP .len [e]) (.ok 3) fun v er=>Is .v true (eI v) er:=by
 simp only[evP,h,eT3];exact xok rfl
def quz (d:D):RE (List D):=match d with
 |.lst xs=>.ok xs
 |.tup xs=>.ok xs
 |_=>.bad
theorem qsu {α β:Type} (f:α→β) (m:RE (List α)):(m.bind fun xs=>gd (leB xs.length) (.ok (xs.map f)))=m.bind fun xs=>gd (leB xs.length) (lcE (fun _=>.ok true) (fun x=>.ok (f x)) xs):=by
 congr 1;funext xs;rw[qnq,qmT]
theorem qpo {α:Type} (c:α→Bool) (m:RE (List α)):(m.bind fun xs=>gd (leB xs.length) (.ok (xs.filter c)))=m.bind fun xs=>gd (leB xs.length) (lcE (fun x=>.ok (c x)) (fun x=>.ok x) xs):=by
 congr 1;funext xs;rw[qpw c fun x=>x,List.map_id']
end
theorem qr3 {g:List D→RE ER} {ns:List Int} {m:RE Bool} {t:Bool} (h:Rf (g [eL eI ns]) m eB .v t) (e:m=.ok true):∃b,g [.lst (ns.map D.int)]=.ok (.val (.bl true) b):=by
 rw[e] at h
 obtain⟨er,e1,e2⟩:=h
 have h1:=e2.d
 have h2:=e2.s
 cases er with
 |val d b=>cases h1;exact⟨b,e1⟩
 |fre d b=>cases h2
 |brw d b=>cases h2
def qvx {α:Type} (T:Nat→Option Bool) (x:Option Nat):RE α→RE (Option Nat)
 |.bad=>.bad
 |.ok _=>.ok x
 |.exc c fs=>match T c,fs with
  |some true,[]=>.ok (some c)
  |some false,fs=>.exc c fs
  |_,_=>.bad
def qvz {α:Type} (T:Nat→Option Bool) (x:Option Nat) (y:α):RE α→RE (Option Nat × α)
 |.bad=>.bad
 |.ok v=>.ok (x,v)
 |.exc c fs=>match T c,fs with
  |some true,[]=>.ok (some c,y)
  |some false,fs=>.exc c fs
  |_,_=>.bad
section
variable {Γ:Env} {ρ:List Sl} {α:Type} {en:α→D} {e a:Ex} {s:Sh} {t t1:Bool} {m:RE α}
def qvF (T:Nat→Option Bool):Option Nat→RE Bool
 |some c=>match T c with
  |some b=>.ok b
  |none=>.bad
 |none=>.bad
def quU (Ts:List (Option (Nat→Option Bool))):Option Nat→RE Bool
 |some c=>match qt3 Ts c with
  |some b=>.ok b
  |none=>.bad
 |none=>.bad
def qvv (T:Nat→Option Bool) (cl:α→Nat) (x:α):RE Bool:=match T (cl x) with
 |some b=>.ok b
 |none=>.bad
def qus (n:Int):RE (List Int):=gd (qlV n) (.ok (qfx 0 1 n.toNat).reverse)
theorem qo3 (n:Nat):qfx (0+(n:Int) - 1) (-1) n=(qfx 0 1 n).reverse:=by
 apply List.ext_getElem
 ·simp[qfx]
 ·intro i h1 h2
  simp[qfx] at h1 h2 ⊢
  omega
theorem XI.rvr {m1:RE Int} (h:XE Γ a ρ m1 eI s t):XI Γ (.rvr a) ρ (m1.bind qus) eI true false:=by
 unfold XI;rw[evI]
 exact XR.bind h fun n er h1=>by
  rw[h1.d]
  show XR (gd (qlV n) _) (gd (qlV n) _) _
  cases qlV n
  ·trivial
  ·refine⟨_,rfl,?_,fun _=>rfl,fun _=>rfl⟩
   show(qfx (0+(((n - 0).toNat:Nat):Int) - 1) (-1) (n - 0).toNat).map D.int=_
   rw[Int.sub_zero,qo3]
end
inductive RK where
 |unlike | total | rising | seen | counted | joined | nosquare | ring
deriving DecidableEq
def RK.c:RK→Nat
 |.unlike=>0 | .total=>1 | .rising=>2 | .seen=>3 | .counted=>4 | .joined=>5 | .nosquare=>6 | .ring=>7
structure RuleT where
 k:RK
 ground:Int × Int × Int
 cells:List Int
 wanted:Int
 sign:Int
def qaV (r:RuleT):List D:=[eT3 eI eI eI r.ground,eL eI r.cells,eI r.wanted,eI r.sign]
def eRule (r:RuleT):D:=.ins r.k.c (qaV r)
inductive KK where
 |clue | only | place | pair | count | step | sums | ways | square | reach | turn
deriving DecidableEq
def KK.c:KK→Nat
 |.clue=>10 | .only=>11 | .place=>12 | .pair=>13 | .count=>14 | .step=>15 | .sums=>16 | .ways=>17 | .square=>18 | .reach=>19 | .turn=>20
def eKind (k:KK):D:=.ins k.c []
structure PuzT where
 ground:Int × Int × Int
 rules:List RuleT
 clues:List Int
def qda (p:PuzT):List D:=[eT3 eI eI eI p.ground,eL eRule p.rules,eL eI p.clues]
def ePuz (p:PuzT):D:=.ins 25 (qda p)
instance:Flat eRule:=⟨fun _=>rfl⟩
instance:Flat eKind:=⟨fun _=>rfl⟩
instance:Flat ePuz:=⟨fun _=>rfl⟩
section
variable {Γ:Env} {ρ:List Sl} {α:Type} {en:α→D} {e a:Ex} {s:Sh} {t t1:Bool} {m:RE α} {ss:Sms}
theorem XE.sfd {i f c k:Nat} {fs:List D} {x:α} (h:ρ[i]? = some (.slf c fs)) (hf:Γ.fi c f=some k) (hk:fs[k]? = some (en x)):XE Γ (.sfd i f) ρ (.ok x) en .v true:=by
 unfold XE;rw[ev,h]
 simp only[hf,hk]
 exact qs1 rfl fun _=>rfl
theorem SN.fset {f c:Nat} {fs:List D} {r:List Sl} (h:XE Γ e ρ m en s t) (hs:s.nb=true) (hS:qn3 s t en) (h0:ρ=.slf c fs::r) (hr:qoq r=true) (hf:Γ.fi c f=some fs.length) (h9:Nat.ble fs.length 900=true):SN Γ (.fset f e) ρ m fun v ρ'=>ρ'=.slf c (fs++[en v])::r:=by
 unfold SN
 rw[Cm.run]
 cases m with
 |bad=>trivial
 |exc c fs=>have h:ev Γ e ρ=_:=h;rw[h];rfl
 |ok v =>
  obtain⟨er,e1,e2⟩:=h
  rw[e1]
  have h1:=e2.s
  have h2:=e2.d
  have h3:=e2.t
  have key:∀g:D→Out,heldF er g=g (en v):=fun g=>by
   cases er with
   |val d b =>
    have h2:d=en v:=h2
    subst h2
    have:(b||(en v).flat)=true:=by
     rcases hS with q | q | q
     ·have:b=true:=h3 q
      rw[this];rfl
     ·rw[q.2];simp
     ·rw[q.1] at h1;cases h1
    simp only[heldF,this,qdg]
   |fre d b =>
    have h2:D.lst d=en v:=h2
    have:(b||D.flats d)=true:=by
     rcases hS with q | q | q
     ·have:b=true:=h3 q
      rw[this];rfl
     ·rw[q.1] at h1;cases h1
     ·rw[q.2 v d h2.symm];simp
    simp only[heldF,this,qdg,h2]
   |brw d b=>cases s<;>simp_all[qim,ER.isF,Sh.nb]
  simp only[RE.out_ok]
  rw[key]
  subst h0
  simp only[qoH,hr,if_true,hf,h9,qdg]
  exact⟨_,rfl,rfl⟩
theorem Ini.run {c nf n k:Nat} {b:Sms} {as:List D} {mm:RE α} {fs:α→List D} (hn:as.length=n) (h:BN Γ b (.slf c []::(as.map (fun d=>Sl.val d d.flat)++List.replicate k .non)) mm fun v ρ'=>∃r,ρ'=.slf c (fs v)::r∧(fs v).length=nf) (he:∀v,mm=.ok v→en v=.ins c (fs v)):XR (qln Γ c nf n k b as) mm fun v gs=>en v=.ins c gs:=by
 unfold qln
 rw[if_pos hn]
 cases mm with
 |bad=>trivial
 |exc c fs=>have h:qam Γ b _=_:=h;rw[h];rfl
 |ok v =>
  obtain⟨ρ',e,r,e2,e3⟩:=h
  rw[e,e2]
  simp only[if_true,e3]
  exact⟨_,rfl,he v rfl⟩
end
instance:Flat (eTL eS):=⟨fun v=>by
 show D.flats (v.map eS)=true
 exact qgF v⟩
section
variable {Γ:Env} {ρ:List Sl} {a b:Ex} {s s1 s2:Sh} {t t1 t2:Bool}
def qt0 (x:List Int):RE (List Int):=gd (Nat.ble x.length 63) (.ok (qtA x))
def qvt {α:Type} (en:α→D) (os:List (List Int)) (v:α):RE α:=if qpz os (en v)=true then .ok v else .bad
def ql7 (x:List Int):RE (List Int):=gd (leB x.length) (.ok x.reverse)
theorem XE.lrev {m:RE (List Int)} (h:XE Γ a ρ m (eL eI) s t):XE Γ (.lrev a) ρ (m.bind ql7) (eL eI) .f true:=by
 unfold XE;rw[ev]
 exact XR.bind h fun x er hx=>by
  rw[hx.d]
  show XR (match qb0 (x.map eI) with
   |some ns=>gd (leB ns.length) (RE.ok (ER.fre (ns.reverse.map D.int) true))
   |none=>.bad) _ _
  rw[show qb0 (x.map eI)=some x from qdK x]
  unfold ql7
  show XR (gd _ _) (gd _ _) _
  cases leB x.length with
  |true=>exact qpd rfl fun z=>rfl
  |false=>trivial
theorem XE.lrevP {x:List Int} (h:XE Γ a ρ (.ok x) (eL eI) s t):XE Γ (.lrev a) ρ (ql7 x) (eL eI) .f true:=XE.lrev h
def qu1 (T:List (List Nat)) (x:List Nat):RE Int:=match qtg x T with
 |some j=>.ok (j:Int)
 |none=>.bad
abbrev DTb:Type:=List (List Nat × Option (List (List Nat)))
def dtD (t:DTb):List (List Nat × Option D):=t.map fun p=>(p.1,p.2.map (eTL eS))
def qva (t:DTb) (n:Bool) (x:List Nat):RE Bool:=match t.lookup x with
 |some o=>.ok (o.isSome == n)
 |none=>.bad
def qu9 (t:DTb) (x:List Nat):RE (List (List Nat)):=match t.lookup x with
 |some (some z)=>.ok z
 |_=>.bad
end
theorem XE.bad {Γ:Env} {ρ:List Sl} {α:Type} {en:α→D} {e:Ex} {s:Sh} {t:Bool}:XE Γ e ρ (RE.bad:RE α) en s t:=trivial
def qvo {α:Type} (en:α→D) (m:List (Int × α)):List (Int × D):=m.map fun e=>(e.1,en e.2)
def SlM (t:Bool) (m:List (Int × D)) (s:Sl):Prop:=∃f,s=.dct m f∧(t=true→f=true)
theorem SlM.low {t:Bool} {m:List (Int × D)} {s:Sl} (h:SlM t m s):SlM false m s:=by
 obtain⟨f,e,_⟩:=h
 exact⟨f,e,fun e=>nomatch e⟩
def quB {α:Type} (m:List (Int × α)) (k:Int):RE α:=match qn0 k m with
 |some x=>.ok x
 |none=>.bad
def quy {α:Type} (m:List (Int × α)) (k:Int) (x:α):RE (List (Int × α)):=gd (leB (m.length+1)) (.ok (qtH k x m))
section
variable {Γ:Env} {ρ:List Sl} {α:Type} {en:α→D} {e b ix:Ex} {s s2:Sh} {t t1 t2:Bool} {q0:Sl} {m:List (Int × α)} {i:Nat}
def qlP (xs:List α) (_:α):RE Unit:=gd (leB (xs.length+1)) (.ok ())
theorem SN.tapp {o:Ex} {t1:Bool} {m1:RE (List α)} {m2:RE α} (ho:XE Γ o ρ m1 (eL en) .f t1) (h:XE Γ e ρ m2 en s t) (hs:s.nb=true):SN Γ (.tapp o e) ρ (m1.bind fun xs=>m2.bind fun x=>qlP xs x) fun _ ρ'=>ρ'=ρ:=by
 unfold SN
 rw[Cm.run]
 cases m1 with
 |bad=>trivial
 |exc c fs=>have h:ev Γ _ ρ=_:=ho;rw[h];rfl
 |ok xs =>
  obtain⟨er,e1,h1⟩:=ho
  rw[e1]
  have k1:=h1.s
  have k2:=h1.d
  cases er with
  |val _ _=>cases k1
  |brw _ _=>cases k1
  |fre ds b =>
   cases k2
   simp only[RE.out_ok,RE.bind_ok]
   cases m2 with
   |bad=>trivial
   |exc c fs=>have h:ev Γ _ ρ=_:=h;rw[h];rfl
   |ok x =>
    obtain⟨er2,e2,h2⟩:=h
    rw[e2]
    simp only[RE.out_ok,RE.bind_ok]
    obtain⟨b1,q1,r1⟩:=qfs h2 hs
    rw[q1,List.length_map,qlP]
    cases leB (xs.length+1) with
    |false=>trivial
    |true=>exact⟨_,rfl,rfl⟩
theorem SN.tclr {o:Ex} {t1:Bool} {m1:RE (List α)} (ho:XE Γ o ρ m1 (eL en) .f t1):SN Γ (.tclr o) ρ (m1.bind fun _=>.ok ()) fun _ ρ'=>ρ'=ρ:=by
 unfold SN
 rw[Cm.run]
 cases m1 with
 |bad=>trivial
 |exc c fs=>have h:ev Γ _ ρ=_:=ho;rw[h];rfl
 |ok xs =>
  obtain⟨er,e1,h1⟩:=ho
  rw[e1]
  have k1:=h1.s
  cases er with
  |val _ _=>cases k1
  |brw _ _=>cases k1
  |fre ds b=>exact⟨_,rfl,rfl⟩
end
end Cm
set_option maxHeartbeats 2000000
namespace Cm
open PySem PySem.Spec PyProof.Rows L2
def SlW {α:Type} (en:α→D) (v:List (List α)) (s:Sl):Prop:=s=.row (v.map (List.map en))
theorem SlV.pk {t:Bool} {d:D} {s:Sl} (h:SlV t d s):SlV t d (pkS s):=by
 obtain⟨f,e,k⟩:=h
 rcases qnT e with rfl | ⟨rfl,j,rfl⟩
 ·exact⟨f,rfl,k⟩
 ·exact⟨false,rfl,k⟩
theorem SlO.pk {t:Bool} {ds:List D} {s:Sl} (h:SlO t ds s):SlO t ds (pkS s):=by
 obtain⟨f,rfl,k⟩:=h
 exact⟨f,rfl,k⟩
theorem SlM.pk {t:Bool} {m:List (Int × D)} {s:Sl} (h:SlM t m s):SlM t m (pkS s):=by
 obtain⟨f,rfl,k⟩:=h
 exact⟨f,rfl,k⟩
theorem SlW.pk {α:Type} {en:α→D} {v:List (List α)} {s:Sl} (h:SlW en v s):SlV true (eL (eL en) v) (pkS s):=by
 rw[show s=.row (v.map (List.map en)) from h]
 refine⟨true,?_,fun _=>rfl⟩
 show Sl.rd (.val (.lst ((v.map (List.map en)).map D.lst)) true)=.val (.lst (v.map (eL en))) true
 rw[List.map_map];rfl
def pkM {α:Type}:RE α→RE α
 |.exc c fs=>if D.flats fs=true then .exc c fs else .bad
 |m=>m
@[simp] theorem qpI {α:Type} (x:α):pkM (.ok x)=.ok x:=rfl
theorem qf0 {α:Type} {en:α→D} (h:∀v,(en v).flat=true):∀xs:List α,D.flats (xs.map en)=true
 |[]=>rfl
 |x::xs=>by
  show((en x).flat&&D.flats (xs.map en))=true
  rw[h x,qf0 h xs];rfl
def qnU {α:Type} (v:List (List α)) (k:Nat) (x:α):RE (List (List α)):=match v[k]? with
 |some xs=>gd (leB (xs.length+1)) (.ok (v.set k (xs++[x])))
 |none=>.bad
def qot {α:Type} (v:List (List α)) (k:Nat):RE (List (List α)):=match v[k]? with
 |some _=>.ok (v.set k [])
 |none=>.bad
def qjl {α:Type} (v:List (List α)) (k:Nat) (m:Int) (x:α):RE (List (List α)):=match v[k]? with
 |some xs=>match ixN xs.length m with
  |some j=>.ok (v.set k (xs.set j x))
  |none=>.bad
 |none=>.bad
section
variable {Γ:Env} {ρ:List Sl} {α β τ:Type} {en:α→D} {e ix:Ex} {es:Exs} {s s2:Sh} {t t1 t2:Bool} {q0:Sl} {i k:Nat} {v:List (List α)}
theorem XE.pkV {m:RE α} (h:XE Γ e (ρ.map pkS) m en .v t) (hf:∀v,(en v).flat=true):XE Γ (.pk e) ρ (pkM m) en .v true:=by
 unfold XE;rw[ev]
 cases m with
 |bad=>trivial
 |exc c fs =>
  have h:ev Γ e _=_:=h
  rw[h]
  show XR (if D.flats fs=true then RE.exc c fs else RE.bad) (if D.flats fs=true then RE.exc c fs else RE.bad) _
  split
  ·rfl
  ·trivial
 |ok v =>
  obtain⟨er,e1,h1⟩:=h
  rw[e1]
  have k1:=h1.s
  have k2:=h1.d
  cases er with
  |val d b =>
   have k2:d=en v:=k2
   subst k2
   refine⟨.val (en v) true,?_,rfl,rfl,fun _=>rfl⟩
   show(if (en v).flat=true then RE.ok (ER.val (en v) true) else .bad)=_
   rw[if_pos (hf v)]
  |fre _ _=>cases k1
  |brw _ _=>cases k1
abbrev XEF (Γ:Env) (es:Exs) (ρ:List Sl) (m:RE (List (List α))) (en:α→D):Prop:=XR (evF Γ es ρ) m fun v dss=>dss=v.map (List.map en)
theorem XEF.nil:XEF Γ .nil ρ (.ok []) en:=by unfold XEF;rw[evF];exact⟨_,rfl,rfl⟩
theorem XEF.cons {m1:RE (List α)} {m2:RE (List (List α))} (h:XE Γ e ρ m1 (eL en) .f t) (hf:∀v,(en v).flat=true) (hs:XEF Γ es ρ m2 en):XEF Γ (.cons e es) ρ (m1.bind fun x=>m2.bind fun r=>.ok (x::r)) en:=by
 unfold XEF;rw[evF]
 refine XR.bind h fun x er h1=>?_
 have k1:=h1.s
 have k2:=h1.d
 cases er with
 |val _ _=>cases k1
 |brw _ _=>cases k1
 |fre ds b =>
  have k2:D.lst ds=eL en x:=k2
  injection k2 with k2
  subst k2
  show XR (if D.flats (x.map en)=true then _ else _) _ _
  rw[if_pos (qf0 hf x)]
  exact XR.bind hs fun r dss e=>⟨_,rfl,by rw[e];rfl⟩
theorem SN.row {m:RE (List (List α))} (ρ₂:Sl→List Sl) (h:XEF Γ es ρ m en) (hset:∀q,ρ.set i q=ρ₂ q) :
  SN Γ (.row i es) ρ (m.bind fun v=>gd (leB v.length) (.ok v)) fun v ρ'=>∃q,ρ'=ρ₂ q∧SlW en v q:=by
 unfold SN
 rw[Cm.run]
 cases m with
 |bad=>trivial
 |exc c fs=>have h:evF Γ _ ρ=_:=h;rw[h];rfl
 |ok v =>
  obtain⟨dss,e1,rfl⟩:=h
  rw[e1]
  have hl:(v.map (List.map en)).length=v.length:=List.length_map _
  simp only[RE.out_ok,RE.bind_ok,hl]
  cases leB v.length with
  |false=>trivial
  |true=>exact⟨_,rfl,_,hset _,rfl⟩
theorem SN.rclr (ρ₂:Sl→List Sl) (h0:ρ[i]? = some q0) (hq:SlW en v q0) (hset:∀q,ρ.set i q=ρ₂ q) :
  SN Γ (.rclr i k) ρ (qot v k) fun v ρ'=>∃q,ρ'=ρ₂ q∧SlW en v q:=by
 unfold SN
 rw[Cm.run]
 have hq:q0=_:=hq
 subst hq
 rw[qfV,h0]
 simp only[List.getElem?_map,qot]
 cases e:v[k]? with
 |none=>trivial
 |some xs=>exact⟨_,rfl,_,hset _,by show Sl.row _=.row _;rw[List.map_set];rfl⟩
theorem SN.rput {m1:RE α} {m2:RE Int} (ρ₂:Sl→List Sl) (h:XE Γ e ρ m1 en s t1) (hs:s.nb=true) (hf:∀v,(en v).flat=true) (hk:(v[k]?).isSome=true) (h0:ρ[i]? = some q0) (hq:SlW en v q0) (hi:XE Γ ix ρ m2 eI s2 t) (hset:∀q,ρ.set i q=ρ₂ q) :
  SN Γ (.rput false i k ix e) ρ (m1.bind fun x=>m2.bind fun m=>qjl v k m x) fun v ρ'=>∃q,ρ'=ρ₂ q∧SlW en v q:=by
 unfold SN
 rw[Cm.run]
 have hq:q0=_:=hq
 subst hq
 cases m1 with
 |bad=>trivial
 |exc c fs=>have h:ev Γ _ ρ=_:=h;rw[h];rfl
 |ok x =>
  obtain⟨er,e1,h1⟩:=h
  rw[e1]
  simp only[RE.out_ok,RE.bind_ok]
  obtain⟨b1,q1,r1⟩:=qfs h1 hs
  rw[q1,qfV,h0]
  simp only[List.getElem?_map]
  cases ek:v[k]? with
  |none=>rw[ek] at hk;cases hk
  |some xs =>
   simp only[Option.map_some]
   cases m2 with
   |bad=>trivial
   |exc c fs=>have h:ev Γ _ ρ=_:=hi;rw[h];rfl
   |ok m =>
    obtain⟨er2,e2,h2⟩:=hi
    rw[e2]
    have hl:(xs.map en).length=xs.length:=List.length_map _
    simp only[RE.out_ok,RE.bind_ok,h2.d,hl,qjl,ek]
    cases ixN xs.length m with
    |none=>trivial
    |some j =>
     simp only[hf x]
     refine⟨_,rfl,_,hset _,?_⟩
     show Sl.row _=.row _
     rw[List.map_set,List.map_set]
theorem qjJ (xs:List D):xs.map eD=xs:=List.map_id xs
theorem XEF.consD {m1:RE (List D)} {m2:RE (List (List D))} (h:XE Γ e ρ m1 (eL eD) .f t) (hs:XEF Γ es ρ m2 eD):XEF Γ (.cons e es) ρ (m1.bind fun x=>gd (D.flats x) (m2.bind fun r=>.ok (x::r))) eD:=by
 unfold XEF;rw[evF]
 refine XR.bind h fun x er h1=>?_
 have k1:=h1.s
 have k2:=h1.d
 cases er with
 |val _ _=>cases k1
 |brw _ _=>cases k1
 |fre ds b =>
  have k2:D.lst ds=eL eD x:=k2
  injection k2 with k2
  subst k2
  show XR (if D.flats (x.map eD)=true then _ else _) _ _
  rw[qjJ]
  cases f:D.flats x with
  |false=>trivial
  |true =>
   rw[if_pos rfl,qgs]
   exact XR.bind hs fun r dss e=>⟨_,rfl,by rw[e];show x::_=(x.map eD)::_;rw[qjJ]⟩
theorem SN.rputP {x:α} {m:Int} (ρ₂:Sl→List Sl) (h:XE Γ e ρ (.ok x) en s t1) (hs:s.nb=true) (hf:(en x).flat=true) (h0:ρ[i]? = some q0) (hq:SlW en v q0) (hi:XE Γ ix ρ (.ok m) eI s2 t) (hset:∀q,ρ.set i q=ρ₂ q) :
  SN Γ (.rput false i k ix e) ρ (qjl v k m x) fun v ρ'=>∃q,ρ'=ρ₂ q∧SlW en v q:=by
 unfold SN
 rw[Cm.run]
 have hq:q0=_:=hq
 subst hq
 obtain⟨er,e1,h1⟩:=h
 rw[e1]
 simp only[RE.out_ok]
 obtain⟨b1,q1,r1⟩:=qfs h1 hs
 rw[q1,qfV,h0]
 simp only[List.getElem?_map]
 cases ek:v[k]? with
 |none=>simp only[qjl,ek];trivial
 |some xs =>
  simp only[Option.map_some]
  obtain⟨er2,e2,h2⟩:=hi
  rw[e2]
  have hl:(xs.map en).length=xs.length:=List.length_map _
  simp only[RE.out_ok,h2.d,hl,qjl,ek]
  cases ixN xs.length m with
  |none=>trivial
  |some j =>
   simp only[hf]
   refine⟨_,rfl,_,hset _,?_⟩
   show Sl.row _=.row _
   rw[List.map_set,List.map_set]
theorem SN.rappP {x:α} (ρ₂:Sl→List Sl) (h:XE Γ e ρ (.ok x) en s t1) (hs:s.nb=true) (hf:(en x).flat=true) (h0:ρ[i]? = some q0) (hq:SlW en v q0) (hset:∀q,ρ.set i q=ρ₂ q) :
  SN Γ (.rapp i k e) ρ (qnU v k x) fun v ρ'=>∃q,ρ'=ρ₂ q∧SlW en v q:=by
 unfold SN
 rw[Cm.run]
 have hq:q0=_:=hq
 subst hq
 rw[qfV,h0]
 simp only[List.getElem?_map]
 cases ek:v[k]? with
 |none=>simp only[qnU,ek];trivial
 |some xs =>
  simp only[Option.map_some]
  obtain⟨er,e1,h1⟩:=h
  rw[e1]
  simp only[RE.out_ok]
  obtain⟨b1,q1,r1⟩:=qfs h1 hs
  have hl:(xs.map en).length=xs.length:=List.length_map _
  rw[q1]
  simp only[qnU,ek,hf,Bool.true_and,hl]
  cases leB (xs.length+1) with
  |false=>trivial
  |true =>
   refine⟨_,rfl,_,hset _,?_⟩
   show Sl.row _=.row _
   rw[List.map_set,List.map_append];rfl
end
section
variable {Γ:Env} {ρ:List Sl} {α:Type} {en:α→D} {a:Ex} {s1:Sh} {t:Bool}
end
def qu6 (s:List Nat) (k:Int):RE (List Nat):=gd (qrF s.length k&&(Nat.ble 1 k.toNat&&Nat.ble 1 s.length)) (.ok (List.replicate k.toNat s).flatten)
end Cm
namespace Cm
def qaW:List (List Nat):=[[99,108,117,101],[111,110,108,121],[112,108,97,99,101],[99,111,117,110,116],[115,116,101,112],[115,117,109],[115,113,117,97,114,101],[114,101,97,99,104],[116,117,114,110],[112,97,105,114],[119,97,121,115]]
def qgf:DTb:=[([111,110,108,121],some [[117,110,108,105,107,101]]),([112,108,97,99,101],some [[117,110,108,105,107,101]]),([99,111,117,110,116],some [[99,111,117,110,116]]),([115,116,101,112],some [[114,105,115,105,110,103]]),([115,117,109],some [[115,117,109]]),([115,113,117,97,114,101],some [[110,111,115,113,117,97,114,101]]),([114,101,97,99,104],some [[106,111,105,110,101,100],[114,105,110,103]]),([116,117,114,110],some [[114,105,110,103]]),([112,97,105,114],some [[117,110,108,105,107,101]]),([99,108,117,101],none),([119,97,121,115],none)]
def F.are_numbers (aG:List D):RE Bool:=
 (((RE.ok aG).bind fun x3=>gd (leB x3.length) (lcE (fun(ao:D)=>(((tyE (eD ao) .int).bind fun x1=>RE.ok (!x1)).bind fun k2=>if k2=true then RE.ok true else (tyE (eD ao) .bool))) (fun(ao:D)=>(RE.ok ao)) x3)).bind fun x4=>RE.ok (List.length x4:Int)).bind fun x5=>RE.ok (decide (x5=0))
def F.floor_of (aO:Int) (aS:Int) (ay:Int):RE (Int × Int × Int):=
 ((RE.ok (!(decide (1≤aO)&&decide (aO≤6)))).bind fun k4=>if k4=true then RE.ok true else ((RE.ok (!(decide (1≤aS)&&decide (aS≤6)))).bind fun k3=>if k3=true then RE.ok true else ((qjX aO aS).bind fun x1=>RE.ok (decide (16<x1))))).bind fun k5=>if k5=true then (RE.exc 31 []) else ((RE.ok (!(decide (1≤ay)&&decide (ay≤6)))).bind fun k6=>if k6=true then (RE.exc 31 []) else (RE.ok (aO,aS,ay)))
def F.many_cells (af:Int × Int × Int):RE Int:=
 qjX af.1 af.2.1
def F.spot_of (af:Int × Int × Int) (ac:Int):RE (Int × Int):=
 (qqj ac af.2.1).bind fun x1=>(qlA ac af.2.1).bind fun x2=>RE.ok (x1,x2)
def F.beside (af:Int × Int × Int) (ac:Int):RE (List Int):=
 (RE.ok af).bind fun p1=>(F.spot_of af ac).bind fun p2=>(RE.ok ([]:List Int)).bind fun aj=>((RE.ok (decide (0<p2.1))).bind fun k3=>if k3=true then ((qfj aj (ac - p1.2.1)).bind fun aj=>RE.ok aj) else (RE.ok aj)).bind fun(p4:List Int)=>((RE.ok (decide (0<p2.2))).bind fun k5=>if k5=true then ((qfj p4 (ac - 1)).bind fun aj=>RE.ok aj) else (RE.ok p4)).bind fun(p6:List Int)=>((RE.ok (decide (p2.2<(p1.2.1 - 1)))).bind fun k7=>if k7=true then ((qfj p6 (ac+1)).bind fun aj=>RE.ok aj) else (RE.ok p6)).bind fun(p8:List Int)=>((RE.ok (decide (p2.1<(p1.1 - 1)))).bind fun k9=>if k9=true then ((qfj p8 (ac+p1.2.1)).bind fun aj=>RE.ok aj) else (RE.ok p8)).bind fun(p10:List Int)=>RE.ok p10
def F.squares (af:Int × Int × Int):RE (List (List Int)):=
 (RE.ok af).bind fun p1=>(RE.ok ([]:List (List Int))).bind fun aj=>(((F.many_cells af).bind qbp).bind fun y10=>qaD (fun(ac:Int) (s5:List (List Int))=>(F.spot_of af ac).bind fun p6=>((RE.ok ((decide (p6.1<(p1.1 - 1)))&&(decide (p6.2<(p1.2.1 - 1))))).bind fun k7=>if k7=true then ((qfj s5 ([ac,ac+1,ac+p1.2.1,(ac+p1.2.1)+1])).bind fun aj=>RE.ok aj) else (RE.ok s5)).bind fun(p8:List (List Int))=>RE.ok p8) y10 aj).bind fun(p9:List (List Int))=>RE.ok p9
def F.reached (af:Int × Int × Int) (al:List Int) (b9:Int):RE (List Int):=
 (RE.ok (!decide (b9∈al))).bind fun k1=>if k1=true then (RE.ok []) else ((RE.ok ([b9]:List Int)).bind fun aj=>(RE.ok (0:Int)).bind fun aK=>(qrW (fun(s10:(List Int) × Int)=>(RE.ok (decide (s10.2<(List.length s10.1:Int))))) (fun(s10:(List Int) × Int)=>(((RE.ok af).bind fun x11=>(atE s10.1 s10.2).bind fun x12=>F.beside x11 x12).bind fun y18=>qaD (fun(ac:Int) (s14:List Int)=>((RE.ok ((decide (ac∈al))&&(!decide (ac∈s14)))).bind fun k15=>if k15=true then ((qfj s14 ac).bind fun aj=>RE.ok aj) else (RE.ok s14)).bind fun(p16:List Int)=>RE.ok p16) y18 s10.1).bind fun(p17:List Int)=>(RE.ok (s10.2+1:Int)).bind fun aK=>RE.ok (p17,aK)) qsm (aj,aK)).bind fun(p19:(List Int) × Int)=>RE.ok (qeS p19.1))
def F.bit (ah:Int):RE Int:=
 qto 1 (ah - 1)
def F.stands (aU:Int) (ah:Int):RE Bool:=
 ((F.bit ah).bind fun x2=>RE.ok (PySem.Builtin.bitAnd aU x2)).bind fun x3=>RE.ok (!decide (x3=0))
def F.has_only (aU:Int) (ah:Int):RE Bool:=
 ((F.bit ah).bind fun x2=>RE.ok (PySem.Builtin.bitOr aU x2)).bind fun x3=>(F.bit ah).bind fun x4=>RE.ok (decide (x3=x4))
def F.signs_in (aU:Int):RE (List Int):=
 (qkv 1 ((PySem.Builtin.Int.intBits aU:Int)+1)).bind fun x1=>gd (leB x1.length) (lcE (fun(ah:Int)=>(F.stands aU ah)) (fun(ah:Int)=>(RE.ok ah)) x1)
def F.Clue_word (ab:KK):RE (List Nat):=
 RE.ok ([99,108,117,101])
def F.Clue_fits (ab:KK) (ae:PuzT) (ai:Option RuleT) (ag:List Nat × Int × Int × Int × (List Int)):RE Bool:=
 RE.ok ((decide (ag.2.1=0))&&(decide (ag.2.2.2.2=[])))
def F.Only_word (ab:KK):RE (List Nat):=
 RE.ok ([111,110,108,121])
def F.Only_strikes (ab:KK) (ae:PuzT) (ak:List Int) (ai:Option RuleT) (ag:List Nat × Int × Int × Int × (List Int)):RE Bool:=
 ((RE.ok ak).bind fun x1=>(atE ag.2.2.2.2 0).bind fun x2=>atE x1 x2).bind fun x3=>(RE.ok ag.2.2.2.1).bind fun x4=>F.has_only x3 x4
def F.Place_word (ab:KK):RE (List Nat):=
 RE.ok ([112,108,97,99,101])
def F.Pair_word (ab:KK):RE (List Nat):=
 RE.ok ([112,97,105,114])
def F.Pair_strikes (ab:KK) (ae:PuzT) (ak:List Int) (ai:Option RuleT) (ag:List Nat × Int × Int × Int × (List Int)):RE Bool:=
 ((((RE.ok ak).bind fun x1=>(atE ag.2.2.2.2 0).bind fun x2=>atE x1 x2).bind fun x5=>((RE.ok ak).bind fun x3=>(atE ag.2.2.2.2 1).bind fun x4=>atE x3 x4).bind fun x6=>RE.ok (PySem.Builtin.bitOr x5 x6)).bind fun x7=>F.signs_in x7).bind fun ay=>(((RE.ok ay).bind fun x8=>gd (leB x8.length) (RE.ok (List.filter (fun(ah:Int)=>!decide (ah=ag.2.2.2.1)) x8))).bind fun x9=>RE.ok (List.length x9:Int)).bind fun x10=>RE.ok (decide (x10≤1))
def F.Count_word (ab:KK):RE (List Nat):=
 RE.ok ([99,111,117,110,116])
def F.Step_word (ab:KK):RE (List Nat):=
 RE.ok ([115,116,101,112])
def F.Sums_word (ab:KK):RE (List Nat):=
 RE.ok ([115,117,109])
def F.Ways_word (ab:KK):RE (List Nat):=
 RE.ok ([119,97,121,115])
def F.may_have (ak:List Int) (ah:Int):RE (List Int):=
 (qbp (List.length ak:Int)).bind fun x3=>gd (leB x3.length) (lcE (fun(ac:Int)=>((atE ak ac).bind fun x1=>(RE.ok ah).bind fun x2=>F.stands x1 x2)) (fun(ac:Int)=>(RE.ok ac)) x3)
def F.Square_word (ab:KK):RE (List Nat):=
 RE.ok ([115,113,117,97,114,101])
def F.Reach_word (ab:KK):RE (List Nat):=
 RE.ok ([114,101,97,99,104])
def F.Turn_word (ab:KK):RE (List Nat):=
 RE.ok ([116,117,114,110])
def F.all_kinds  : RE (List KK):=
 (RE.ok ([KK.clue,KK.only,KK.place]:List KK)).bind fun az=>qf2 az ([KK.count,KK.step,KK.sums,KK.square,KK.reach,KK.turn,KK.pair,KK.ways])
def F.m_word (r:KK)  : RE (List Nat):=match r with
 |.clue=>F.Clue_word r
 |.only=>F.Only_word r
 |.place=>F.Place_word r
 |.pair=>F.Pair_word r
 |.count=>F.Count_word r
 |.step=>F.Step_word r
 |.sums=>F.Sums_word r
 |.ways=>F.Ways_word r
 |.square=>F.Square_word r
 |.reach=>F.Reach_word r
 |.turn=>F.Turn_word r
def F.kind_of (aE:List Nat):RE (Option KK):=
 Fl.bR (F.all_kinds.bind fun y10=>qb8 (fun(aH:KK) (s4:Unit)=>(((F.m_word aH).bind fun x5=>RE.ok (decide (x5=aE))).bind fun k7=>if k7=true then (RE.ok (.rt (some aH))) else (RE.ok (.nx ())):RE (Fl (Option KK) (Unit)))) y10 ()) fun(p9:Unit)=>RE.ok (none:Option KK)
def F.is_filling (af:Int × Int × Int) (au:List Int):RE Bool:=
 ((F.many_cells af).bind fun x2=>RE.ok (!decide ((List.length au:Int)=x2))).bind fun k3=>if k3=true then (RE.ok false) else (((RE.ok au).bind fun x4=>gd (leB x4.length) (RE.ok (List.map (fun(ah:Int)=>(decide (0≤ah)&&decide (ah≤af.2.2))) x4))).bind fun x5=>RE.ok (List.all x5 id))
def F.Rule_spots (ab:RuleT):RE (List Int):=
 RE.ok ab.cells
def F.Rule_number (ab:RuleT):RE Int:=
 RE.ok ab.wanted
def F.Rule_sign (ab:RuleT):RE Int:=
 RE.ok ab.sign
def F.Rule_told_numbers (ab:RuleT):RE (List Int):=
 RE.ok ab.cells
def F.Unlike_name (ab:RuleT):RE (List Nat):=
 RE.ok ([117,110,108,105,107,101])
def F.Unlike_holds (ab:RuleT) (au:List Int):RE Bool:=
 (((RE.ok ab.cells).bind fun x1=>gd (leB x1.length) (lcE (fun(ac:Int)=>(RE.ok true)) (fun(ac:Int)=>(atE au ac)) x1)).bind qiQ).bind fun x2=>RE.ok (decide (x2=(List.length ab.cells:Int)))
def F.Total_name (ab:RuleT):RE (List Nat):=
 RE.ok ([115,117,109])
def F.Total_holds (ab:RuleT) (au:List Int):RE Bool:=
 (((RE.ok ab.cells).bind fun x1=>gd (leB x1.length) (lcE (fun(ac:Int)=>(RE.ok true)) (fun(ac:Int)=>(atE au ac)) x1)).bind fun x2=>RE.ok (List.sum x2)).bind fun x3=>RE.ok (decide (x3=ab.wanted))
def F.Total_told_numbers (ab:RuleT):RE (List Int):=
 qf2 [ab.wanted] ab.cells
def F.Rising_name (ab:RuleT):RE (List Nat):=
 RE.ok ([114,105,115,105,110,103])
def F.Rising_holds (ab:RuleT) (au:List Int):RE Bool:=
 Fl.bR ((RE.ok (List.zip ab.cells (qeu ab.cells (some 1) none))).bind fun y11=>qb8 (fun(p5:Int × Int) (s4:Unit)=>(((atE au p5.1).bind fun x6=>(atE au p5.2).bind fun x7=>RE.ok (decide (x7≤x6))).bind fun k8=>if k8=true then (RE.ok (.rt false)) else (RE.ok (.nx ())):RE (Fl (Bool) (Unit)))) y11 ()) fun(p10:Unit)=>RE.ok true
def F.Seen_name (ab:RuleT):RE (List Nat):=
 RE.ok ([115,101,101,110])
def F.Seen_holds (ab:RuleT) (au:List Int):RE Bool:=
 (RE.ok (0:Int)).bind fun a9=>(RE.ok (0:Int)).bind fun bv=>((RE.ok ab.cells).bind fun y10=>qaD (fun(ac:Int) (s4:Int × Int)=>(((atE au ac).bind fun x5=>RE.ok (decide (s4.2<x5))).bind fun k7=>if k7=true then ((RE.ok (s4.1+1:Int)).bind fun a9=>(atE au ac).bind fun bv=>RE.ok (a9,bv)) else (RE.ok (s4.1,s4.2))).bind fun(p8:Int × Int)=>RE.ok (p8.1,p8.2)) y10 (a9,bv)).bind fun(p9:Int × Int)=>RE.ok (decide (p9.1=ab.wanted))
def F.Seen_told_numbers (ab:RuleT):RE (List Int):=
 qf2 [ab.wanted] ab.cells
def F.Counted_name (ab:RuleT):RE (List Nat):=
 RE.ok ([99,111,117,110,116])
def F.Counted_holds (ab:RuleT) (au:List Int):RE Bool:=
 (((RE.ok ab.cells).bind fun x3=>gd (leB x3.length) (lcE (fun(ac:Int)=>((atE au ac).bind fun x1=>RE.ok (decide (x1=ab.sign)))) (fun(ac:Int)=>(RE.ok ac)) x3)).bind fun x4=>RE.ok (List.length x4:Int)).bind fun x5=>RE.ok (decide (x5=ab.wanted))
def F.Counted_told_numbers (ab:RuleT):RE (List Int):=
 qf2 ([ab.wanted,ab.sign]) ab.cells
def F.cells_with (ai:RuleT) (au:List Int):RE (List Int):=
 (F.Rule_spots ai).bind fun x3=>gd (leB x3.length) (lcE (fun(ac:Int)=>((atE au ac).bind fun x1=>(F.Rule_sign ai).bind fun x2=>RE.ok (decide (x1=x2)))) (fun(ac:Int)=>(RE.ok ac)) x3)
def F.are_joined (af:Int × Int × Int) (al:List Int):RE Bool:=
 (RE.ok (decide (al=[]))).bind fun k7=>if k7=true then RE.ok true else ((((RE.ok af).bind fun x1=>(RE.ok al).bind fun x2=>(atE al 0).bind fun x3=>F.reached x1 x2 x3).bind fun x4=>RE.ok (List.length x4:Int)).bind fun x5=>RE.ok (decide (x5=(List.length al:Int))))
def F.Joined_name (ab:RuleT):RE (List Nat):=
 RE.ok ([106,111,105,110,101,100])
def F.Joined_holds (ab:RuleT) (au:List Int):RE Bool:=
 (RE.ok ab.ground).bind fun x1=>(F.cells_with ab au).bind fun x2=>F.are_joined x1 x2
def F.Joined_told_numbers (ab:RuleT):RE (List Int):=
 RE.ok [ab.sign]
def F.NoSquare_name (ab:RuleT):RE (List Nat):=
 RE.ok ([110,111,115,113,117,97,114,101])
def F.NoSquare_holds (ab:RuleT) (au:List Int):RE Bool:=
 Fl.bR ((F.squares ab.ground).bind fun y18=>qb8 (fun(ba:List Int) (s8:Unit)=>(((((RE.ok ba).bind fun x11=>gd (leB x11.length) (lcE (fun(ac:Int)=>((atE au ac).bind fun x9=>RE.ok (decide (x9=ab.sign)))) (fun(ac:Int)=>(RE.ok ac)) x11)).bind fun x12=>RE.ok (List.length x12:Int)).bind fun x13=>RE.ok (decide (x13=4))).bind fun k15=>if k15=true then (RE.ok (.rt false)) else (RE.ok (.nx ())):RE (Fl (Bool) (Unit)))) y18 ()) fun(p17:Unit)=>RE.ok true
def F.NoSquare_told_numbers (ab:RuleT):RE (List Int):=
 RE.ok [ab.sign]
def F.Ring_name (ab:RuleT):RE (List Nat):=
 RE.ok ([114,105,110,103])
def F.Ring_holds (ab:RuleT) (au:List Int):RE Bool:=
 (F.cells_with ab au).bind fun aj=>Fl.bR ((RE.ok aj).bind fun y14=>qb8 (fun(ac:Int) (s6:Unit)=>(((((F.beside ab.ground ac).bind fun x7=>gd (leB x7.length) (RE.ok (List.filter (fun(aC:Int)=>decide (aC∈aj)) x7))).bind fun x8=>RE.ok (List.length x8:Int)).bind fun x9=>RE.ok (!decide (x9=2))).bind fun k11=>if k11=true then (RE.ok (.rt false)) else (RE.ok (.nx ())):RE (Fl (Bool) (Unit)))) y14 ()) fun(p13:Unit)=>F.are_joined ab.ground aj
def F.Ring_told_numbers (ab:RuleT):RE (List Int):=
 RE.ok [ab.sign]
def F.number_of (aE:List Nat):RE Int:=
 ((((RE.ok 1).bind fun x1=>(qpU aE).bind fun x2=>if decide (x1≤x2)=true then (RE.ok 2).bind fun x3=>RE.ok (decide (x2≤x3)) else RE.ok false).bind fun x4=>RE.ok (!x4)).bind fun k10=>if k10=true then RE.ok true else (((qt1 aE 0).bind fun x5=>RE.ok (decide ([x5]=[48]))).bind fun k9=>if k9=true then ((qpU aE).bind fun x7=>RE.ok (decide (1<x7))) else RE.ok false)).bind fun k11=>if k11=true then (RE.exc 33 []) else (((RE.ok aE).bind fun y16=>qaD (fun(ah:Nat) (s13:Unit)=>(RE.ok (!decide (ah∈([48,49,50,51,52,53,54,55,56,57])))).bind fun k14=>if k14=true then RE.exc 33 [] else (RE.ok ())) y16 ()).bind fun(p15:Unit)=>qmq aE)
def F.sign_told (af:Int × Int × Int) (a7:List Int) (aK:Int):RE Int:=
 ((RE.ok (decide ((List.length a7:Int)≤aK))).bind fun k5=>if k5=true then RE.ok true else (((RE.ok 1).bind fun x1=>(atE a7 aK).bind fun x2=>if decide (x1≤x2)=true then (RE.ok af.2.2).bind fun x3=>RE.ok (decide (x2≤x3)) else RE.ok false).bind fun x4=>RE.ok (!x4))).bind fun k6=>if k6=true then (RE.exc 33 []) else (atE a7 aK)
def F.cells_told (af:Int × Int × Int) (a7:List Int):RE (List Int):=
 ((RE.ok (decide (a7=[]))).bind fun k6=>if k6=true then RE.ok true else (((qiQ a7).bind fun x1=>RE.ok (!decide (x1=(List.length a7:Int)))).bind fun k5=>if k5=true then RE.ok true else ((qrA a7).bind fun x3=>(F.many_cells af).bind fun x4=>RE.ok (decide (x4≤x3))))).bind fun k7=>if k7=true then (RE.exc 33 []) else (RE.ok a7)
def F.whole_rule (af:Int × Int × Int) (aE:List Nat) (a7:List Int):RE RuleT:=
 (RE.ok (!decide ((List.length a7:Int)=1))).bind fun k1=>if k1=true then (RE.exc 33 []) else ((F.sign_told af a7 0).bind fun ah=>((F.many_cells af).bind qbp).bind fun al=>(RE.ok (decide (aE=([106,111,105,110,101,100])))).bind fun k3=>if k3=true then (RE.ok (RuleT.mk .joined af al 0 ah)) else ((RE.ok (decide (aE=([110,111,115,113,117,97,114,101])))).bind fun k4=>if k4=true then (RE.ok (RuleT.mk .nosquare af al 0 ah)) else (RE.ok (RuleT.mk .ring af al 0 ah))))
def F.read_rule (af:Int × Int × Int) (aV:D):RE RuleT:=
 ((tyE (eD aV) .str).bind fun x1=>RE.ok (!x1)).bind fun k2=>if k2=true then (RE.exc 33 []) else (((dS aV).bind fun x3=>(RE.ok [32]).bind fun x4=>qi4 x3 x4).bind fun aN=>(atE aN 0).bind fun aE=>(qod aE ([[117,110,108,105,107,101],[115,117,109],[114,105,115,105,110,103],[115,101,101,110],[99,111,117,110,116],[106,111,105,110,101,100],[110,111,115,113,117,97,114,101],[114,105,110,103]])).bind fun k5=>if k5=true then (RE.exc 33 []) else (((RE.ok (qeu aN (some 1) none)).bind fun x6=>gd (leB x6.length) (lcE (fun(ao:List Nat)=>(RE.ok true)) (fun(ao:List Nat)=>(F.number_of ao)) x6)).bind fun a7=>(qp6 aE ([[106,111,105,110,101,100],[110,111,115,113,117,97,114,101],[114,105,110,103]])).bind fun k7=>if k7=true then (F.whole_rule af aE a7) else ((RE.ok (decide (aE=([117,110,108,105,107,101])))).bind fun k8=>if k8=true then ((RE.ok af).bind fun x9=>(F.cells_told af a7).bind fun x10=>(RE.ok 0).bind fun x11=>(RE.ok 0).bind fun x12=>RE.ok (RuleT.mk .unlike x9 x10 x11 x12)) else ((RE.ok (decide (aE=([114,105,115,105,110,103])))).bind fun k13=>if k13=true then ((RE.ok af).bind fun x14=>(F.cells_told af a7).bind fun x15=>(RE.ok 0).bind fun x16=>(RE.ok 0).bind fun x17=>RE.ok (RuleT.mk .rising x14 x15 x16 x17)) else ((RE.ok (decide (aE=([99,111,117,110,116])))).bind fun k18=>if k18=true then ((F.sign_told af a7 1).bind fun ah=>(RE.ok af).bind fun x19=>(F.cells_told af (qeu a7 (some 2) none)).bind fun x20=>(atE a7 0).bind fun x21=>(RE.ok ah).bind fun x22=>RE.ok (RuleT.mk .counted x19 x20 x21 x22)) else ((F.cells_told af (qeu a7 (some 1) none)).bind fun al=>(RE.ok (decide (aE=([115,117,109])))).bind fun k23=>if k23=true then ((RE.ok af).bind fun x24=>(RE.ok al).bind fun x25=>(atE a7 0).bind fun x26=>(RE.ok 0).bind fun x27=>RE.ok (RuleT.mk .total x24 x25 x26 x27)) else ((RE.ok af).bind fun x28=>(RE.ok al).bind fun x29=>(atE a7 0).bind fun x30=>(RE.ok 0).bind fun x31=>RE.ok (RuleT.mk .seen x28 x29 x30 x31))))))))
def F.Puzzle_place (ab:PuzT):RE (Int × Int × Int):=
 RE.ok ab.ground
def F.Puzzle_many (ab:PuzT):RE Int:=
 F.many_cells ab.ground
def F.Puzzle_clues (ab:PuzT):RE (List Int):=
 RE.ok ab.clues
def F.Puzzle_rules (ab:PuzT):RE (List RuleT):=
 RE.ok ab.rules
def F.Puzzle_rule_at (ab:PuzT) (aD:Int):RE RuleT:=
 atE ab.rules aD
def F.Puzzle_many_rules (ab:PuzT):RE Int:=
 RE.ok (List.length ab.rules:Int)
def F.Puzzle_clue_at (ab:PuzT) (ac:Int):RE Int:=
 atE ab.clues ac
def F.m_holds (r:RuleT) (a0:List Int):RE Bool:=match r.k with
 |.unlike=>F.Unlike_holds r a0
 |.total=>F.Total_holds r a0
 |.rising=>F.Rising_holds r a0
 |.seen=>F.Seen_holds r a0
 |.counted=>F.Counted_holds r a0
 |.joined=>F.Joined_holds r a0
 |.nosquare=>F.NoSquare_holds r a0
 |.ring=>F.Ring_holds r a0
def F.Puzzle_meets (ab:PuzT) (au:List Int):RE Bool:=
 (((F.is_filling ab.ground au).bind fun x1=>RE.ok (!x1)).bind fun k2=>if k2=true then RE.ok true else (RE.ok (decide (0∈au)))).bind fun k3=>if k3=true then (RE.ok false) else (Fl.bR ((RE.ok (List.zip ab.clues au)).bind fun y12=>qb8 (fun(p6:Int × Int) (s5:Unit)=>((RE.ok ((!decide (p6.1=0))&&(!decide (p6.1=p6.2)))).bind fun k7=>if k7=true then (RE.ok (.rt false)) else (RE.ok (.nx ())):RE (Fl (Bool) (Unit)))) y12 ()) fun(p9:Unit)=>((RE.ok ab.rules).bind fun x10=>gd (leB x10.length) (lcE (fun(ai:RuleT)=>(RE.ok true)) (fun(ai:RuleT)=>(F.m_holds ai au)) x10)).bind fun x11=>RE.ok (List.all x11 id))
def F.Puzzle_new (af:Int × Int × Int) (az:List D) (aF:List Int):RE PuzT:=
 (RE.ok (!decide (3=3))).bind fun k1=>if k1=true then RE.exc 31 [] else ((F.floor_of af.1 af.2.1 af.2.2).bind fun w_ground=>(RE.ok (decide (12<(List.length az:Int)))).bind fun k2=>if k2=true then RE.exc 34 [] else (((RE.ok az).bind fun x3=>gd (leB x3.length) (lcE (fun(aV:D)=>(RE.ok true)) (fun(aV:D)=>(F.read_rule w_ground aV)) x3)).bind fun w_rule_list=>((F.is_filling w_ground aF).bind fun x4=>RE.ok (!x4)).bind fun k5=>if k5=true then RE.exc 34 [] else ((RE.ok aF).bind fun w_clue_list=>RE.ok (PuzT.mk w_ground w_rule_list w_clue_list))))
def F.others_of (ai:RuleT) (ac:Int):RE (List Int):=
 (F.Rule_spots ai).bind fun x1=>gd (leB x1.length) (RE.ok (List.filter (fun(aC:Int)=>!decide (aC=ac)) x1))
def F.are_others (ai:RuleT) (ac:Int) (aG:List Int):RE Bool:=
 (F.others_of ai ac).bind fun aI=>((((RE.ok aG).bind fun x1=>gd (leB x1.length) (RE.ok (List.filter (fun(aC:Int)=>!decide (aC∈aI)) x1))).bind fun x2=>RE.ok (List.length x2:Int)).bind fun x3=>RE.ok (decide (x3=0))).bind fun k7=>if k7=true then ((qiQ aG).bind fun x5=>RE.ok (decide (x5=(List.length aG:Int)))) else RE.ok false
def F.Clue_strikes (ab:KK) (ae:PuzT) (ak:List Int) (ai:Option RuleT) (ag:List Nat × Int × Int × Int × (List Int)):RE Bool:=
 (F.Puzzle_clue_at ae ag.2.2.1).bind fun bu=>RE.ok ((!decide (bu=0))&&(!decide (bu=ag.2.2.2.1)))
def F.m_name (r:RuleT)  : RE (List Nat):=match r.k with
 |.unlike=>F.Unlike_name r
 |.total=>F.Total_name r
 |.rising=>F.Rising_name r
 |.seen=>F.Seen_name r
 |.counted=>F.Counted_name r
 |.joined=>F.Joined_name r
 |.nosquare=>F.NoSquare_name r
 |.ring=>F.Ring_name r
def F.is_unlike (ai:Option RuleT) (ac:Int):RE Bool:=
 (RE.ok ai.isSome).bind fun k8=>if k8=true then ((((unO ai).bind fun x1=>F.m_name x1).bind fun x2=>RE.ok (decide (x2=([117,110,108,105,107,101])))).bind fun k7=>if k7=true then (((unO ai).bind fun x4=>F.Rule_spots x4).bind fun x6=>RE.ok (decide (ac∈x6))) else RE.ok false) else RE.ok false
def F.Only_fits (ab:KK) (ae:PuzT) (ai:Option RuleT) (ag:List Nat × Int × Int × Int × (List Int)):RE Bool:=
 (RE.ok (ag.2.2.2.2:List Int)).bind fun aL=>(F.is_unlike ai ag.2.2.1).bind fun k5=>if k5=true then ((RE.ok (decide ((List.length aL:Int)=1))).bind fun k4=>if k4=true then ((unO ai).bind fun x1=>(RE.ok ag.2.2.1).bind fun x2=>(RE.ok aL).bind fun x3=>F.are_others x1 x2 x3) else RE.ok false) else RE.ok false
def F.Place_fits (ab:KK) (ae:PuzT) (ai:Option RuleT) (ag:List Nat × Int × Int × Int × (List Int)):RE Bool:=
 (RE.ok (ag.2.2.2.2:List Int)).bind fun aL=>((F.Puzzle_place ae).bind fun x1=>RE.ok x1.2.2).bind fun ay=>(((F.is_unlike ai ag.2.2.1).bind fun x2=>RE.ok (!x2)).bind fun k8=>if k8=true then RE.ok true else (((((unO ai).bind fun x3=>F.Rule_spots x3).bind fun x4=>RE.ok (List.length x4:Int)).bind fun x5=>RE.ok (!decide (x5=ay))).bind fun k7=>if k7=true then RE.ok true else (RE.ok (!decide ((List.length aL:Int)=1))))).bind fun k9=>if k9=true then (RE.ok false) else (((RE.ok 1).bind fun x10=>(atE aL 0).bind fun x11=>if decide (x10≤x11)=true then (RE.ok ay).bind fun x12=>RE.ok (decide (x11≤x12)) else RE.ok false).bind fun k15=>if k15=true then ((atE aL 0).bind fun x13=>RE.ok (!decide (x13=ag.2.2.2.1))) else RE.ok false)
def F.Place_strikes (ab:KK) (ae:PuzT) (ak:List Int) (ai:Option RuleT) (ag:List Nat × Int × Int × Int × (List Int)):RE Bool:=
 Fl.bR (((unO ai).bind fun x1=>(RE.ok ag.2.2.1).bind fun x2=>F.others_of x1 x2).bind fun y12=>qb8 (fun(aC:Int) (s6:Unit)=>(((atE ak aC).bind fun x7=>(atE ag.2.2.2.2 0).bind fun x8=>F.stands x7 x8).bind fun k9=>if k9=true then (RE.ok (.rt false)) else (RE.ok (.nx ())):RE (Fl (Bool) (Unit)))) y12 ()) fun(p11:Unit)=>RE.ok true
def F.Pair_fits (ab:KK) (ae:PuzT) (ai:Option RuleT) (ag:List Nat × Int × Int × Int × (List Int)):RE Bool:=
 (RE.ok (ag.2.2.2.2:List Int)).bind fun aL=>(((F.is_unlike ai ag.2.2.1).bind fun x1=>RE.ok (!x1)).bind fun k7=>if k7=true then RE.ok true else ((RE.ok (!decide ((List.length aL:Int)=2))).bind fun k6=>if k6=true then RE.ok true else (((unO ai).bind fun x2=>(RE.ok ag.2.2.1).bind fun x3=>(RE.ok aL).bind fun x4=>F.are_others x2 x3 x4).bind fun x5=>RE.ok (!x5)))).bind fun k8=>if k8=true then (RE.ok false) else (((unO ai).bind fun x9=>F.Rule_spots x9).bind fun be=>((RE.ok be).bind fun x10=>(atE aL 0).bind fun x11=>qqP x10 x11).bind fun x14=>((RE.ok be).bind fun x12=>(atE aL 1).bind fun x13=>qqP x12 x13).bind fun x15=>RE.ok (decide (x14<x15)))
def F.is_of (ai:Option RuleT) (aE:List Nat) (ac:Int):RE Bool:=
 (RE.ok ai.isSome).bind fun k8=>if k8=true then ((((unO ai).bind fun x1=>F.m_name x1).bind fun x2=>RE.ok (decide (x2=aE))).bind fun k7=>if k7=true then (((unO ai).bind fun x4=>F.Rule_spots x4).bind fun x6=>RE.ok (decide (ac∈x6))) else RE.ok false) else RE.ok false
def F.Count_fits (ab:KK) (ae:PuzT) (ai:Option RuleT) (ag:List Nat × Int × Int × Int × (List Int)):RE Bool:=
 (RE.ok (decide (ag.2.2.2.2=[]))).bind fun k1=>if k1=true then (F.is_of ai ([99,111,117,110,116]) ag.2.2.1) else RE.ok false
def F.Count_strikes (ab:KK) (ae:PuzT) (ak:List Int) (ai:Option RuleT) (ag:List Nat × Int × Int × Int × (List Int)):RE Bool:=
 ((unO ai).bind fun x1=>F.Rule_sign x1).bind fun ah=>((unO ai).bind fun x2=>(RE.ok ag.2.2.1).bind fun x3=>F.others_of x2 x3).bind fun aI=>(RE.ok (decide (ag.2.2.2.1=ah))).bind fun k4=>if k4=true then ((((RE.ok aI).bind fun x7=>gd (leB x7.length) (lcE (fun(aC:Int)=>((atE ak aC).bind fun x5=>(RE.ok ah).bind fun x6=>F.has_only x5 x6)) (fun(aC:Int)=>(RE.ok aC)) x7)).bind fun x8=>RE.ok (List.length x8:Int)).bind fun x10=>((unO ai).bind fun x9=>F.Rule_number x9).bind fun x11=>RE.ok (decide (x11≤x10))) else ((((RE.ok aI).bind fun x14=>gd (leB x14.length) (lcE (fun(aC:Int)=>((atE ak aC).bind fun x12=>(RE.ok ah).bind fun x13=>F.stands x12 x13)) (fun(aC:Int)=>(RE.ok aC)) x14)).bind fun x15=>RE.ok (List.length x15:Int)).bind fun x17=>((unO ai).bind fun x16=>F.Rule_number x16).bind fun x18=>RE.ok (decide (x17<x18)))
def F.neighbours_of (ai:RuleT) (ac:Int):RE ((Option Int) × (Option Int)):=
 (F.Rule_spots ai).bind fun be=>(qqP be ac).bind fun aK=>(RE.ok (():Unit)).bind fun bA=>(RE.ok (():Unit)).bind fun bB=>((RE.ok (decide (0<aK))).bind fun k1=>if k1=true then ((atE be (aK - 1)).bind fun bA=>RE.ok (some bA)) else (RE.ok (none:Option Int))).bind fun(p2:Option Int)=>((RE.ok (decide ((aK+1)<(List.length be:Int)))).bind fun k3=>if k3=true then ((atE be (aK+1)).bind fun bB=>RE.ok (some bB)) else (RE.ok (none:Option Int))).bind fun(p4:Option Int)=>RE.ok (p2,p4)
def F.Step_fits (ab:KK) (ae:PuzT) (ai:Option RuleT) (ag:List Nat × Int × Int × Int × (List Int)):RE Bool:=
 (RE.ok (decide (ag.2.2.2.2=[]))).bind fun k1=>if k1=true then (F.is_of ai ([114,105,115,105,110,103]) ag.2.2.1) else RE.ok false
def F.Step_strikes (ab:KK) (ae:PuzT) (ak:List Int) (ai:Option RuleT) (ag:List Nat × Int × Int × Int × (List Int)):RE Bool:=
 ((unO ai).bind fun x1=>(RE.ok ag.2.2.1).bind fun x2=>F.neighbours_of x1 x2).bind fun p3=>((RE.ok p3.1.isSome).bind fun k11=>if k11=true then (((((RE.ok ak).bind fun x4=>(unO p3.1).bind fun x5=>atE x4 x5).bind fun x6=>F.signs_in x6).bind fun x7=>(RE.ok ag.2.2.2.1).bind fun x8=>mmE false x7 x8).bind fun x9=>RE.ok (decide (ag.2.2.2.1≤x9))) else RE.ok false).bind fun k12=>if k12=true then (RE.ok true) else ((RE.ok p3.2.isSome).bind fun k20=>if k20=true then (((((RE.ok ak).bind fun x13=>(unO p3.2).bind fun x14=>atE x13 x14).bind fun x15=>F.signs_in x15).bind fun x16=>(RE.ok ag.2.2.2.1).bind fun x17=>mmE true x16 x17).bind fun x18=>RE.ok (decide (x18≤ag.2.2.2.1))) else RE.ok false)
def F.Sums_fits (ab:KK) (ae:PuzT) (ai:Option RuleT) (ag:List Nat × Int × Int × Int × (List Int)):RE Bool:=
 (RE.ok (decide (ag.2.2.2.2=[]))).bind fun k1=>if k1=true then (F.is_of ai ([115,117,109]) ag.2.2.1) else RE.ok false
def F.Sums_strikes (ab:KK) (ae:PuzT) (ak:List Int) (ai:Option RuleT) (ag:List Nat × Int × Int × Int × (List Int)):RE Bool:=
 (RE.ok (ag.2.2.2.1:Int)).bind fun bx=>(RE.ok (ag.2.2.2.1:Int)).bind fun aO=>Fl.bR (((unO ai).bind fun x1=>(RE.ok ag.2.2.1).bind fun x2=>F.others_of x1 x2).bind fun y25=>qb8 (fun(aC:Int) (s9:Int × Int)=>(((atE ak aC).bind fun x10=>F.signs_in x10).bind fun ay=>(RE.ok (decide (ay=[]))).bind fun k11=>if k11=true then (RE.ok (.rt true)) else (((atE ay 0).bind fun x14=>RE.ok (s9.1+x14)).bind fun bx=>((atE ay (-1)).bind fun x16=>RE.ok (s9.2+x16)).bind fun aO=>RE.ok (.nx (bx,aO))):RE (Fl (Bool) (Int × Int)))) y25 (bx,aO)) fun(p17:Int × Int)=>(((unO ai).bind fun x18=>F.Rule_number x18).bind fun x20=>RE.ok (decide (x20<p17.1))).bind fun k24=>if k24=true then RE.ok true else (((unO ai).bind fun x21=>F.Rule_number x21).bind fun x23=>RE.ok (decide (p17.2<x23)))
def F.Ways_fits (ab:KK) (ae:PuzT) (ai:Option RuleT) (ag:List Nat × Int × Int × Int × (List Int)):RE Bool:=
 (RE.ok (decide (ag.2.2.2.2=[]))).bind fun k5=>if k5=true then ((RE.ok ai.isSome).bind fun k4=>if k4=true then (((unO ai).bind fun x1=>F.Rule_spots x1).bind fun x3=>RE.ok (decide (ag.2.2.1∈x3))) else RE.ok false) else RE.ok false
def F.Ways_strikes (ab:KK) (ae:PuzT) (ak:List Int) (ai:Option RuleT) (ag:List Nat × Int × Int × Int × (List Int)):RE Bool:=
 ((unO ai).bind fun x1=>(RE.ok ag.2.2.1).bind fun x2=>F.others_of x1 x2).bind fun aI=>((RE.ok aI).bind fun x4=>gd (leB x4.length) (lcE (fun(aC:Int)=>(RE.ok true)) (fun(aC:Int)=>((atE ak aC).bind fun x3=>F.signs_in x3)) x4)).bind fun bC=>(RE.ok (1:Int)).bind fun a9=>((RE.ok bC).bind fun y43=>qaD (fun(ay:List Int) (s5:Int)=>(qjX s5 (List.length ay:Int)).bind fun a9=>RE.ok a9) y43 a9).bind fun(p6:Int)=>(RE.ok (decide (32<p6))).bind fun k7=>if k7=true then (RE.ok false) else (((qbp (List.length ak:Int)).bind fun x8=>gd (leB x8.length) (RE.ok (List.map (fun(ac:Int)=>0) x8))).bind fun au=>(qpO au ag.2.2.1 ag.2.2.2.1).bind fun au=>Fl.bR ((qbp p6).bind fun y42=>qb8 (fun(aD:Int) (s24:List Int)=>(((RE.ok (List.zip aI bC)).bind fun y40=>qaD (fun(p30:Int × (List Int)) (s29:(List Int) × Int)=>(((RE.ok p30.2).bind fun x31=>(qlA s29.2 (List.length p30.2:Int)).bind fun x32=>atE x31 x32).bind fun x33=>(RE.ok p30.1).bind fun x34=>qpO s29.1 x34 x33).bind fun au=>(qqj s29.2 (List.length p30.2:Int)).bind fun aD=>RE.ok (au,aD)) y40 (s24,aD)).bind fun(p35:(List Int) × Int)=>((unO ai).bind fun x37=>(RE.ok p35.1).bind fun x36=>F.m_holds x37 x36).bind fun k38=>if k38=true then (RE.ok (.rt false)) else (RE.ok (.nx p35.1)):RE (Fl (Bool) (List Int)))) y42 au) fun(p41:List Int)=>RE.ok true)
def F.square_at (ae:PuzT) (bL:Int):RE (List Int):=
 Fl.bR (((F.Puzzle_place ae).bind fun x1=>F.squares x1).bind fun y11=>qb8 (fun(ba:List Int) (s5:Unit)=>(((atE ba 0).bind fun x6=>RE.ok (decide (x6=bL))).bind fun k8=>if k8=true then (RE.ok (.rt ba)) else (RE.ok (.nx ())):RE (Fl (List Int) (Unit)))) y11 ()) fun(p10:Unit)=>RE.ok []
def F.Square_fits (ab:KK) (ae:PuzT) (ai:Option RuleT) (ag:List Nat × Int × Int × Int × (List Int)):RE Bool:=
 ((RE.ok ai.isNone).bind fun k9=>if k9=true then RE.ok true else ((((unO ai).bind fun x1=>F.m_name x1).bind fun x2=>RE.ok (!decide (x2=([110,111,115,113,117,97,114,101])))).bind fun k8=>if k8=true then RE.ok true else ((((unO ai).bind fun x4=>F.Rule_sign x4).bind fun x5=>RE.ok (!decide (x5=ag.2.2.2.1))).bind fun k7=>if k7=true then RE.ok true else (RE.ok (!decide ((List.length ag.2.2.2.2:Int)=1)))))).bind fun k10=>if k10=true then (RE.ok false) else (((RE.ok ae).bind fun x11=>(atE ag.2.2.2.2 0).bind fun x12=>F.square_at x11 x12).bind fun x14=>RE.ok (decide (ag.2.2.1∈x14)))
def F.Square_strikes (ab:KK) (ae:PuzT) (ak:List Int) (ai:Option RuleT) (ag:List Nat × Int × Int × Int × (List Int)):RE Bool:=
 Fl.bR (((RE.ok ae).bind fun x1=>(atE ag.2.2.2.2 0).bind fun x2=>F.square_at x1 x2).bind fun y16=>qb8 (fun(ac:Int) (s8:Unit)=>(((RE.ok (!decide (ac=ag.2.2.1))).bind fun k12=>if k12=true then (((atE ak ac).bind fun x9=>(RE.ok ag.2.2.2.1).bind fun x10=>F.has_only x9 x10).bind fun x11=>RE.ok (!x11)) else RE.ok false).bind fun k13=>if k13=true then (RE.ok (.rt false)) else (RE.ok (.nx ())):RE (Fl (Bool) (Unit)))) y16 ()) fun(p15:Unit)=>RE.ok true
def F.Reach_fits (ab:KK) (ae:PuzT) (ai:Option RuleT) (ag:List Nat × Int × Int × Int × (List Int)):RE Bool:=
 ((RE.ok ai.isNone).bind fun k8=>if k8=true then RE.ok true else ((((unO ai).bind fun x1=>F.m_name x1).bind fun x2=>RE.ok (!decide (x2=([106,111,105,110,101,100])))).bind fun k7=>if k7=true then (((unO ai).bind fun x4=>F.m_name x4).bind fun x5=>RE.ok (!decide (x5=([114,105,110,103])))) else RE.ok false)).bind fun k9=>if k9=true then (RE.ok false) else ((RE.ok (ag.2.2.2.2:List Int)).bind fun aL=>(((((unO ai).bind fun x10=>F.Rule_sign x10).bind fun x11=>RE.ok (decide (x11=ag.2.2.2.1))).bind fun x13=>RE.ok (if x13=true then 1 else 0:Int)).bind fun x15=>RE.ok (2 - x15)).bind fun aq=>((RE.ok (!decide ((List.length aL:Int)=aq))).bind fun k18=>if k18=true then RE.ok true else ((qiQ aL).bind fun x16=>RE.ok (!decide (x16=aq)))).bind fun k19=>if k19=true then (RE.ok false) else ((((RE.ok aL).bind fun x24=>gd (leB x24.length) (lcE (fun(ao:Int)=>((RE.ok (decide (ao=ag.2.2.1))).bind fun k23=>if k23=true then RE.ok true else ((RE.ok (decide (ao<0))).bind fun k22=>if k22=true then RE.ok true else ((F.Puzzle_many ae).bind fun x21=>RE.ok (decide (x21≤ao)))))) (fun(ao:Int)=>(RE.ok ao)) x24)).bind fun x25=>RE.ok (List.length x25:Int)).bind fun x26=>RE.ok (decide (x26=0))))
def F.Reach_strikes (ab:KK) (ae:PuzT) (ak:List Int) (ai:Option RuleT) (ag:List Nat × Int × Int × Int × (List Int)):RE Bool:=
 ((unO ai).bind fun x1=>F.Rule_sign x1).bind fun ah=>(RE.ok (ag.2.2.1:Int)).bind fun ac=>(RE.ok (ag.2.2.2.2:List Int)).bind fun aL=>Fl.bR ((RE.ok aL).bind fun y25=>qb8 (fun(ao:Int) (s6:Unit)=>((((atE ak ao).bind fun x7=>(RE.ok ah).bind fun x8=>F.has_only x7 x8).bind fun x9=>RE.ok (!x9)).bind fun k10=>if k10=true then (RE.ok (.rt false)) else (RE.ok (.nx ())):RE (Fl (Bool) (Unit)))) y25 ()) fun(p12:Unit)=>((F.may_have ak ah).bind fun x13=>gd (leB x13.length) (RE.ok (List.filter (fun(aC:Int)=>!decide (aC=ac)) x13))).bind fun aG=>(RE.ok (decide (ah=ag.2.2.2.1))).bind fun k14=>if k14=true then ((atE aL 0).bind fun x18=>((F.Puzzle_place ae).bind fun x15=>(qf2 aG [ac]).bind fun x16=>(RE.ok ac).bind fun x17=>F.reached x15 x16 x17).bind fun x19=>RE.ok (!decide (x18∈x19))) else ((atE aL 1).bind fun x23=>((F.Puzzle_place ae).bind fun x20=>(RE.ok aG).bind fun x21=>(atE aL 0).bind fun x22=>F.reached x20 x21 x22).bind fun x24=>RE.ok (!decide (x23∈x24)))
def F.Turn_fits (ab:KK) (ae:PuzT) (ai:Option RuleT) (ag:List Nat × Int × Int × Int × (List Int)):RE Bool:=
 ((RE.ok ai.isNone).bind fun k4=>if k4=true then RE.ok true else (((unO ai).bind fun x1=>F.m_name x1).bind fun x2=>RE.ok (!decide (x2=([114,105,110,103]))))).bind fun k5=>if k5=true then (RE.ok false) else ((RE.ok (decide (ag.2.2.2.2=[]))).bind fun k6=>if k6=true then (((unO ai).bind fun x7=>F.Rule_sign x7).bind fun x8=>RE.ok (decide (x8=ag.2.2.2.1))) else ((RE.ok (decide ((List.length ag.2.2.2.2:Int)=1))).bind fun k14=>if k14=true then ((atE ag.2.2.2.2 0).bind fun x12=>((F.Puzzle_place ae).bind fun x10=>(RE.ok ag.2.2.1).bind fun x11=>F.beside x10 x11).bind fun x13=>RE.ok (decide (x12∈x13))) else RE.ok false))
def F.Turn_strikes (ab:KK) (ae:PuzT) (ak:List Int) (ai:Option RuleT) (ag:List Nat × Int × Int × Int × (List Int)):RE Bool:=
 ((unO ai).bind fun x1=>F.Rule_sign x1).bind fun ah=>(RE.ok (ag.2.2.1:Int)).bind fun aK=>Fl.bR ((RE.ok (!decide (ag.2.2.2.2=[]))).bind fun k2=>if k2=true then ((atE ag.2.2.2.2 0).bind fun aK=>(((atE ak aK).bind fun x7=>(RE.ok ah).bind fun x8=>F.has_only x7 x8).bind fun x9=>RE.ok (!x9)).bind fun k10=>if k10=true then (RE.ok false).bind fun b=>RE.ok (.rt b) else (RE.ok (.nx aK))) else (RE.ok (.nx aK)):RE (Fl (Bool) (Int))) fun p11=>(((F.Puzzle_place ae).bind fun x12=>(RE.ok p11).bind fun x13=>F.beside x12 x13).bind fun x14=>gd (leB x14.length) (RE.ok (List.filter (fun(ac:Int)=>!decide (ac=ag.2.2.1)) x14))).bind fun bD=>(((RE.ok bD).bind fun x17=>gd (leB x17.length) (lcE (fun(ac:Int)=>((atE ak ac).bind fun x15=>(RE.ok ah).bind fun x16=>F.has_only x15 x16)) (fun(ac:Int)=>(RE.ok ac)) x17)).bind fun x18=>RE.ok (List.length x18:Int)).bind fun bf=>(((RE.ok bD).bind fun x21=>gd (leB x21.length) (lcE (fun(ac:Int)=>((atE ak ac).bind fun x19=>(RE.ok ah).bind fun x20=>F.stands x19 x20)) (fun(ac:Int)=>(RE.ok ac)) x21)).bind fun x22=>RE.ok (List.length x22:Int)).bind fun bE=>(RE.ok (decide (ag.2.2.2.2=[]))).bind fun k23=>if k23=true then (RE.ok ((decide (bE<2))||(decide (2<bf)))) else ((RE.ok (decide (ah=ag.2.2.2.1))).bind fun k24=>if k24=true then (RE.ok (decide (2≤bf))) else (RE.ok (decide (bE<2))))
def F.is_in_bounds (ae:PuzT) (ag:List Nat × Int × Int × Int × (List D)):RE Bool:=
 ((RE.ok 0).bind fun x1=>(RE.ok ag.2.2.1).bind fun x2=>if decide (x1≤x2)=true then (F.Puzzle_many ae).bind fun x3=>RE.ok (decide (x2<x3)) else RE.ok false).bind fun k8=>if k8=true then ((RE.ok 1).bind fun x5=>(RE.ok ag.2.2.2.1).bind fun x6=>if decide (x5≤x6)=true then ((F.Puzzle_place ae).bind fun x4=>RE.ok x4.2.2).bind fun x7=>RE.ok (decide (x6≤x7)) else RE.ok false) else RE.ok false
def F.rule_of (ae:PuzT) (ag:List Nat × Int × Int × Int × (List D)):RE (Option RuleT):=
 ((RE.ok 0).bind fun x1=>(RE.ok ag.2.1).bind fun x2=>if decide (x1≤x2)=true then (F.Puzzle_many_rules ae).bind fun x3=>RE.ok (decide (x2<x3)) else RE.ok false).bind fun k4=>if k4=true then ((F.Puzzle_rule_at ae ag.2.1).bind fun x5=>RE.ok ((some) x5)) else (RE.ok (none:Option RuleT))
def F.m_strikes (r:KK) (a0:PuzT) (a1:List Int) (a2:Option RuleT) (a3:List Nat × Int × Int × Int × (List Int)):RE Bool:=match r with
 |.clue=>F.Clue_strikes r a0 a1 a2 a3
 |.only=>F.Only_strikes r a0 a1 a2 a3
 |.place=>F.Place_strikes r a0 a1 a2 a3
 |.pair=>F.Pair_strikes r a0 a1 a2 a3
 |.count=>F.Count_strikes r a0 a1 a2 a3
 |.step=>F.Step_strikes r a0 a1 a2 a3
 |.sums=>F.Sums_strikes r a0 a1 a2 a3
 |.ways=>F.Ways_strikes r a0 a1 a2 a3
 |.square=>F.Square_strikes r a0 a1 a2 a3
 |.reach=>F.Reach_strikes r a0 a1 a2 a3
 |.turn=>F.Turn_strikes r a0 a1 a2 a3
def F.m_fits (r:KK) (a0:PuzT) (a1:Option RuleT) (a2:List Nat × Int × Int × Int × (List Int)):RE Bool:=match r with
 |.clue=>F.Clue_fits r a0 a1 a2
 |.only=>F.Only_fits r a0 a1 a2
 |.place=>F.Place_fits r a0 a1 a2
 |.pair=>F.Pair_fits r a0 a1 a2
 |.count=>F.Count_fits r a0 a1 a2
 |.step=>F.Step_fits r a0 a1 a2
 |.sums=>F.Sums_fits r a0 a1 a2
 |.ways=>F.Ways_fits r a0 a1 a2
 |.square=>F.Square_fits r a0 a1 a2
 |.reach=>F.Reach_fits r a0 a1 a2
 |.turn=>F.Turn_fits r a0 a1 a2
def F.allowed (ae:PuzT) (ak:List Int) (ag:List Nat × Int × Int × Int × (List D)):RE Bool:=
 (F.kind_of ag.1).bind fun aH=>((RE.ok aH.isNone).bind fun k4=>if k4=true then RE.ok true else (((F.is_in_bounds ae ag).bind fun x1=>RE.ok (!x1)).bind fun k3=>if k3=true then RE.ok true else ((F.are_numbers ag.2.2.2.2).bind fun x2=>RE.ok (!x2)))).bind fun k5=>if k5=true then (RE.ok false) else ((F.rule_of ae ag).bind fun ai=>((unO aH).bind fun x9=>(RE.ok ae).bind fun x6=>(RE.ok ai).bind fun x7=>(dT5 (dLs dI) ag).bind fun x8=>F.m_fits x9 x6 x7 x8).bind fun k15=>if k15=true then ((unO aH).bind fun x14=>(RE.ok ae).bind fun x10=>(RE.ok ak).bind fun x11=>(RE.ok ai).bind fun x12=>(dT5 (dLs dI) ag).bind fun x13=>F.m_strikes x14 x10 x11 x12 x13) else RE.ok false)
def F.m_told_numbers (r:RuleT)  : RE (List Int):=match r.k with
 |.unlike=>F.Rule_told_numbers r
 |.total=>F.Total_told_numbers r
 |.rising=>F.Rule_told_numbers r
 |.seen=>F.Seen_told_numbers r
 |.counted=>F.Counted_told_numbers r
 |.joined=>F.Joined_told_numbers r
 |.nosquare=>F.NoSquare_told_numbers r
 |.ring=>F.Ring_told_numbers r
def F.Rule_line (ab:RuleT):RE (List Nat):=
 (RE.ok [32]).bind fun x5=>(((F.m_name ab).bind fun x1=>RE.ok [x1]).bind fun x3=>((F.m_told_numbers ab).bind fun x2=>gd (leB x2.length) (lcE (fun(aD:Int)=>(RE.ok true)) (fun(aD:Int)=>(qkQ aD)) x2)).bind fun x4=>qf2 x3 x4).bind fun x6=>qjo x5 x6
def F.Puzzle_lines (ab:PuzT):RE (List (List Nat)):=
 (RE.ok ab.rules).bind fun x1=>gd (leB x1.length) (lcE (fun(ai:RuleT)=>(RE.ok true)) (fun(ai:RuleT)=>(F.Rule_line ai)) x1)
def F.look_at_move (aP:Int):RE Unit:=
 (RE.ok (!(decide (0≤aP)&&decide (aP≤7)))).bind fun k1=>if k1=true then RE.exc 38 [] else (RE.ok ())
def F.turned_spot (aO:Int) (aX:Int × Int):RE (Int × Int):=
 RE.ok (aX.2,(aO - 1) - aX.1)
def F.moved_floor (af:Int × Int × Int) (aP:Int):RE (Int × Int × Int):=
 (F.look_at_move aP).bind fun _=>(RE.ok af).bind fun p1=>(RE.ok (decide ((Int.fmod aP 2)=1))).bind fun k2=>if k2=true then (RE.ok (p1.2.1,p1.1,p1.2.2)) else (RE.ok (p1.1,p1.2.1,p1.2.2))
def F.moved_cells (af:Int × Int × Int) (aP:Int):RE (List Int):=
 (F.look_at_move aP).bind fun _=>(RE.ok ([]:List Int)).bind fun aj=>(((F.many_cells af).bind qbp).bind fun y33=>qaD (fun(ac:Int) (s16:List Int)=>(RE.ok af).bind fun p17=>(F.spot_of af ac).bind fun aX=>((RE.ok (decide (4≤aP))).bind fun k18=>if k18=true then ((RE.ok ((aX.1,(p17.2.1 - 1) - aX.2):Int × Int)).bind fun aX=>RE.ok aX) else (RE.ok aX)).bind fun(p19:Int × Int)=>((qbp (Int.fmod aP 4)).bind fun y31=>qaD (fun(bM:Int) (s23:Int × Int × (Int × Int))=>(F.turned_spot s23.1 s23.2.2).bind fun aX=>((RE.ok s23.2.1).bind fun x25=>(RE.ok s23.1).bind fun x26=>RE.ok (x25,x26)).bind fun p24=>RE.ok (p24.1,p24.2,aX)) y31 (p17.1,p17.2.1,p19)).bind fun(p27:Int × Int × (Int × Int))=>(((qjX p27.2.2.1 p27.2.1).bind fun x28=>RE.ok (x28+p27.2.2.2)).bind fun x30=>qfj s16 x30).bind fun aj=>RE.ok aj) y33 aj).bind fun(p32:List Int)=>RE.ok p32
def F.full (af:Int × Int × Int):RE (List Int):=
 ((F.many_cells af).bind qbp).bind fun x4=>gd (leB x4.length) (lcE (fun(ac:Int)=>(RE.ok true)) (fun(ac:Int)=>((F.bit (af.2.2+1)).bind fun x2=>RE.ok (x2 - 1))) x4)
def F.filling_by (ak:List Int):RE (List Int):=
 (RE.ok ([]:List Int)).bind fun au=>((RE.ok ak).bind fun y9=>qaD (fun(aU:Int) (s3:List Int)=>(F.signs_in aU).bind fun ay=>((RE.ok (decide ((List.length ay:Int)=1))).bind fun k4=>if k4=true then (((atE ay 0).bind fun x6=>qfj s3 x6).bind fun au=>RE.ok au) else ((qfj s3 0).bind fun au=>RE.ok au)).bind fun(p7:List Int)=>RE.ok p7) y9 au).bind fun(p8:List Int)=>RE.ok p8
def F.many_floors (ae:PuzT):RE Int:=
 (RE.ok (1:Int)).bind fun a9=>((F.Puzzle_clues ae).bind fun y21=>qaD (fun(bu:Int) (s7:Int)=>((RE.ok (decide (bu=0))).bind fun k8=>if k8=true then ((((F.Puzzle_place ae).bind fun x15=>RE.ok x15.2.2).bind fun x17=>qjX s7 x17).bind fun a9=>(RE.ok (decide (1024<a9))).bind fun k18=>if k18=true then RE.exc 36 [] else (RE.ok a9)) else (RE.ok s7)).bind fun(p19:Int)=>RE.ok p19) y21 a9).bind fun(p20:Int)=>RE.ok p20
def F.laid (ae:PuzT) (bj:List Int) (aD:Int):RE (List Int):=
 ((F.Puzzle_place ae).bind fun x1=>RE.ok x1.2.2).bind fun ay=>(F.Puzzle_clues ae).bind fun au=>(((F.Puzzle_many ae).bind qus).bind fun y35=>qaD (fun(ac:Int) (s13:Int × (List Int))=>(((atE s13.2 ac).bind fun x14=>RE.ok (decide (x14=0))).bind fun k16=>if k16=true then ((((((atE bj ac).bind fun x25=>RE.ok (x25+s13.1)).bind fun x27=>qlA x27 ay).bind fun x30=>RE.ok (1+x30)).bind fun x31=>(RE.ok ac).bind fun x32=>qpO s13.2 x32 x31).bind fun au=>(qqj s13.1 ay).bind fun aD=>RE.ok (aD,au)) else (RE.ok (s13.1,s13.2))).bind fun(p33:Int × (List Int))=>RE.ok (p33.1,p33.2)) y35 (aD,au)).bind fun(p34:Int × (List Int))=>RE.ok p34.2
def F.answers (ae:PuzT) (bN:Int):RE (List (List Int)):=
 (((F.Puzzle_many ae).bind qbp).bind fun x2=>gd (leB x2.length) (RE.ok (List.map (fun(ac:Int)=>0) x2))).bind fun bj=>(RE.ok ([]:List (List Int))).bind fun aj=>Fl.bR (((F.many_floors ae).bind qbp).bind fun y11=>qb8 (fun(aD:Int) (s6:List (List Int))=>((F.laid ae bj aD).bind fun au=>(F.Puzzle_meets ae au).bind fun k7=>if k7=true then ((qfj s6 au).bind fun aj=>(RE.ok (decide ((List.length aj:Int)=bN))).bind fun k8=>if k8=true then (RE.ok (.rt aj)) else (RE.ok (.nx aj))) else (RE.ok (.nx s6)):RE (Fl (List (List Int)) (List (List Int))))) y11 aj) fun(p10:List (List Int))=>RE.ok p10
def F.filled (ae:PuzT) (a7:List Int):RE (Option (List Int)):=
 ((F.Puzzle_place ae).bind fun x1=>RE.ok x1.2.2).bind fun ay=>((RE.ok a7).bind fun x2=>gd (leB x2.length) (lcE (fun(aD:Int)=>(RE.ok true)) (fun(aD:Int)=>(qlA aD ay)) x2)).bind fun bj=>Fl.bR (((F.many_floors ae).bind qbp).bind fun y9=>qb8 (fun(aD:Int) (s5:Unit)=>((F.laid ae bj aD).bind fun au=>(F.Puzzle_meets ae au).bind fun k6=>if k6=true then (RE.ok (.rt (some au))) else (RE.ok (.nx ())):RE (Fl (Option (List Int)) (Unit)))) y9 ()) fun(p8:Unit)=>RE.ok (none:Option (List Int))
def F.struck (ak:List Int) (ac:Int) (ah:Int):RE (List Int):=
 (RE.ok (ak:List Int)).bind fun aj=>(((atE aj ac).bind fun x1=>(RE.ok ah).bind fun x2=>F.stands x1 x2).bind fun k3=>if k3=true then ((((atE aj ac).bind fun x8=>(F.bit ah).bind fun x9=>RE.ok (x8 - x9)).bind fun x10=>(RE.ok ac).bind fun x11=>qpO aj x11 x10).bind fun aj=>RE.ok aj) else (RE.ok aj)).bind fun(p12:List Int)=>RE.ok p12
def F.clashes (ak:List Int):RE Bool:=
 RE.ok (decide (0∈ak))
def F.is_settled (ak:List Int):RE Bool:=
 ((RE.ok ak).bind fun x4=>gd (leB x4.length) (lcE (fun(aU:Int)=>(RE.ok true)) (fun(aU:Int)=>(((F.signs_in aU).bind fun x1=>RE.ok (List.length x1:Int)).bind fun x2=>RE.ok (decide (x2=1)))) x4)).bind fun x5=>RE.ok (List.all x5 id)
def F.ways (ak:List Int):RE Int:=
 (RE.ok (1:Int)).bind fun bz=>((RE.ok ak).bind fun y11=>qaD (fun(aU:Int) (s5:Int)=>(((F.signs_in aU).bind fun x7=>RE.ok (List.length x7:Int)).bind fun x9=>qjX s5 x9).bind fun bz=>RE.ok bz) y11 bz).bind fun(p10:Int)=>RE.ok p10
def F.Rule_reckons (ab:RuleT):RE Bool:=
 RE.ok false
def F.Total_reckons (ab:RuleT):RE Bool:=
 RE.ok true
def F.Rising_reckons (ab:RuleT):RE Bool:=
 RE.ok true
def F.Seen_reckons (ab:RuleT):RE Bool:=
 RE.ok true
def F.Puzzle_clued (ab:PuzT) (aF:List Int):RE PuzT:=
 (RE.ok ab.ground).bind fun x2=>((F.Puzzle_lines ab).bind fun x1=>RE.ok ((List.map (eS)) x1)).bind fun x3=>(RE.ok aF).bind fun x4=>F.Puzzle_new x2 x3 x4
def F.is_standing (ae:PuzT) (ak:List Int) (ag:List Nat × Int × Int × Int × (List D)):RE Bool:=
 (F.is_in_bounds ae ag).bind fun k3=>if k3=true then ((atE ak ag.2.2.1).bind fun x1=>(RE.ok ag.2.2.2.1).bind fun x2=>F.stands x1 x2) else RE.ok false
def F.Kind_mores (ab:KK) (ae:PuzT) (ak:List Int) (ai:Option RuleT) (ac:Int) (ah:Int):RE (List (List Int)):=
 RE.ok [[]]
def F.Only_mores (ab:KK) (ae:PuzT) (ak:List Int) (ai:Option RuleT) (ac:Int) (ah:Int):RE (List (List Int)):=
 (((unO ai).bind fun x1=>(RE.ok ac).bind fun x2=>F.others_of x1 x2).bind fun x3=>RE.ok (qeS x3)).bind fun x4=>gd (leB x4.length) (RE.ok (List.map (fun(aC:Int)=>[aC]) x4))
def F.Place_mores (ab:KK) (ae:PuzT) (ak:List Int) (ai:Option RuleT) (ac:Int) (ah:Int):RE (List (List Int)):=
 ((RE.ok 1).bind fun x4=>(((F.Puzzle_place ae).bind fun x1=>RE.ok x1.2.2).bind fun x2=>RE.ok (x2+1)).bind fun x5=>qkv x4 x5).bind fun x6=>gd (leB x6.length) (RE.ok (List.map (fun(aC:Int)=>[aC]) x6))
def F.Pair_mores (ab:KK) (ae:PuzT) (ak:List Int) (ai:Option RuleT) (ac:Int) (ah:Int):RE (List (List Int)):=
 ((unO ai).bind fun x1=>(RE.ok ac).bind fun x2=>F.others_of x1 x2).bind fun aI=>(RE.ok ([]:List (List Int))).bind fun aj=>((qbp (List.length aI:Int)).bind fun y23=>qaD (fun(aB:Int) (s12:List (List Int))=>((RE.ok (qeu aI (some (aB+1)) none)).bind fun y21=>qaD (fun(aC:Int) (s16:List (List Int))=>(((atE aI aB).bind fun x17=>(RE.ok aC).bind fun x18=>RE.ok [x17,x18]).bind fun x19=>qfj s16 x19).bind fun aj=>RE.ok aj) y21 s12).bind fun(p20:List (List Int))=>RE.ok p20) y23 aj).bind fun(p22:List (List Int))=>RE.ok (qne p22)
def F.must_have (ak:List Int) (ah:Int):RE (List Int):=
 (qbp (List.length ak:Int)).bind fun x3=>gd (leB x3.length) (lcE (fun(ac:Int)=>((atE ak ac).bind fun x1=>(RE.ok ah).bind fun x2=>F.has_only x1 x2)) (fun(ac:Int)=>(RE.ok ac)) x3)
def F.Square_mores (ab:KK) (ae:PuzT) (ak:List Int) (ai:Option RuleT) (ac:Int) (ah:Int):RE (List (List Int)):=
 ((F.Puzzle_place ae).bind fun x1=>F.squares x1).bind fun x3=>gd (leB x3.length) (lcE (fun(ba:List Int)=>(RE.ok (decide (ac∈ba)))) (fun(ba:List Int)=>((atE ba 0).bind fun x2=>RE.ok [x2])) x3)
def F.Reach_mores (ab:KK) (ae:PuzT) (ak:List Int) (ai:Option RuleT) (ac:Int) (ah:Int):RE (List (List Int)):=
 (((RE.ok ak).bind fun x2=>((unO ai).bind fun x1=>F.Rule_sign x1).bind fun x3=>F.must_have x2 x3).bind fun x4=>gd (leB x4.length) (RE.ok (List.filter (fun(aC:Int)=>!decide (aC=ac)) x4))).bind fun bf=>(((unO ai).bind fun x5=>F.Rule_sign x5).bind fun x7=>RE.ok (decide (ah=x7))).bind fun k8=>if k8=true then ((RE.ok bf).bind fun x9=>gd (leB x9.length) (RE.ok (List.map (fun(aC:Int)=>[aC]) x9))) else ((RE.ok (qeu bf (some 1) none)).bind fun x12=>gd (leB x12.length) (lcE (fun(aC:Int)=>(RE.ok true)) (fun(aC:Int)=>((atE bf 0).bind fun x10=>(RE.ok aC).bind fun x11=>RE.ok [x10,x11])) x12))
def F.Turn_mores (ab:KK) (ae:PuzT) (ak:List Int) (ai:Option RuleT) (ac:Int) (ah:Int):RE (List (List Int)):=
 (((F.Puzzle_place ae).bind fun x1=>(RE.ok ac).bind fun x2=>F.beside x1 x2).bind fun x3=>gd (leB x3.length) (RE.ok (List.map (fun(aC:Int)=>[aC]) x3))).bind fun x5=>qf2 [[]] x5
def F.kinds_by (aN:List (List Nat)):RE (List KK):=
 F.all_kinds.bind fun x3=>gd (leB x3.length) (lcE (fun(aH:KK)=>((F.m_word aH).bind fun x1=>evC .isin (eS x1) ((eL eS) aN))) (fun(aH:KK)=>(RE.ok aH)) x3)
def F.m_mores (r:KK) (a0:PuzT) (a1:List Int) (a2:Option RuleT) (a3:Int) (a4:Int):RE (List (List Int)):=match r with
 |.clue=>F.Kind_mores r a0 a1 a2 a3 a4
 |.only=>F.Only_mores r a0 a1 a2 a3 a4
 |.place=>F.Place_mores r a0 a1 a2 a3 a4
 |.pair=>F.Pair_mores r a0 a1 a2 a3 a4
 |.count=>F.Kind_mores r a0 a1 a2 a3 a4
 |.step=>F.Kind_mores r a0 a1 a2 a3 a4
 |.sums=>F.Kind_mores r a0 a1 a2 a3 a4
 |.ways=>F.Kind_mores r a0 a1 a2 a3 a4
 |.square=>F.Square_mores r a0 a1 a2 a3 a4
 |.reach=>F.Reach_mores r a0 a1 a2 a3 a4
 |.turn=>F.Turn_mores r a0 a1 a2 a3 a4
def F.thought_at (ae:PuzT) (ak:List Int) (aH:KK) (aD:Int) (ac:Int):RE (Option (List Nat × Int × Int × Int × (List Int))):=
 (RE.ok (():Unit)).bind fun ai=>(((F.Puzzle_many_rules ae).bind fun x2=>RE.ok (decide (aD<x2))).bind fun k3=>if k3=true then ((F.Puzzle_rule_at ae aD).bind fun ai=>RE.ok (some ai)) else (RE.ok (none:Option RuleT))).bind fun(p4:Option RuleT)=>Fl.bR (((atE ak ac).bind fun x5=>F.signs_in x5).bind fun y44=>qb8 (fun(ah:Int) (s24:Unit)=>(Fl.bF ((F.m_mores aH ae ak p4 ac ah).bind fun y42=>qb8 (fun(aL:List Int) (s32:Unit)=>(((F.m_word aH).bind fun x33=>(RE.ok aD).bind fun x34=>(RE.ok ac).bind fun x35=>(RE.ok ah).bind fun x36=>(RE.ok aL).bind fun x37=>RE.ok (x33,x34,x35,x36,x37)).bind fun ag=>((F.m_fits aH ae p4 ag).bind fun k38=>if k38=true then (F.m_strikes aH ae ak p4 ag) else RE.ok false).bind fun k39=>if k39=true then (RE.ok (.rt (some ag))) else (RE.ok (.nx ())):RE (Fl (Option (List Nat × Int × Int × Int × (List Int))) (Unit)))) y42 ()) fun(p41:Unit)=>RE.ok (.nx ()):RE (Fl (Option (List Nat × Int × Int × Int × (List Int))) (Unit)))) y44 ()) fun(p43:Unit)=>RE.ok (none:Option (List Nat × Int × Int × Int × (List Int)))
def F.first_of (ae:PuzT) (ak:List Int) (aH:KK) (aD:Int) (al:List Int):RE (Option (List Nat × Int × Int × Int × (List Int))):=
 Fl.bR ((RE.ok al).bind fun y6=>qb8 (fun(ac:Int) (s2:Unit)=>((F.thought_at ae ak aH aD ac).bind fun aj=>(RE.ok aj.isSome).bind fun k3=>if k3=true then (RE.ok (.rt aj)) else (RE.ok (.nx ())):RE (Fl (Option (List Nat × Int × Int × Int × (List Int))) (Unit)))) y6 ()) fun(p5:Unit)=>RE.ok (none:Option (List Nat × Int × Int × Int × (List Int)))
def F.is_for (aH:KK) (ai:RuleT):RE Bool:=
 ((F.m_word aH).bind fun x1=>qva qgf false x1).bind fun k5=>if k5=true then RE.ok true else ((F.m_name ai).bind fun x3=>((F.m_word aH).bind fun x2=>qu9 qgf x2).bind fun x4=>qp6 x3 x4)
def F.next_thought (ae:PuzT) (ak:List Int) (aZ:List (List Nat)):RE (Option (List Nat × Int × Int × Int × (List Int))):=
 (F.clashes ak).bind fun k1=>if k1=true then (RE.ok (none:Option (List Nat × Int × Int × Int × (List Int)))) else (Fl.bR ((F.kinds_by aZ).bind fun y113=>qb8 (fun(aH:KK) (s39:Unit)=>((RE.ok (():Unit)).bind fun aj=>(((F.m_word aH).bind fun x40=>(atE qaW 0).bind fun x41=>RE.ok (decide (x40=x41))).bind fun k42=>if k42=true then (((RE.ok ae).bind fun x77=>(RE.ok ak).bind fun x78=>(RE.ok aH).bind fun x79=>(RE.ok 0).bind fun x80=>((F.Puzzle_many ae).bind qbp).bind fun x81=>F.first_of x77 x78 x79 x80 x81).bind fun aj=>RE.ok aj) else ((((F.Puzzle_many_rules ae).bind qbp).bind fun y108=>qaD (fun(aD:Int) (s91:Option (List Nat × Int × Int × Int × (List Int)))=>(F.Puzzle_rule_at ae aD).bind fun ai=>(((RE.ok s91.isNone).bind fun k92=>if k92=true then (F.is_for aH ai) else RE.ok false).bind fun k93=>if k93=true then (((RE.ok ae).bind fun x101=>(RE.ok ak).bind fun x102=>(RE.ok aH).bind fun x103=>(RE.ok aD).bind fun x104=>((F.Rule_spots ai).bind fun x100=>RE.ok (qeS x100)).bind fun x105=>F.first_of x101 x102 x103 x104 x105).bind fun aj=>RE.ok aj) else (RE.ok s91)).bind fun(p106:Option (List Nat × Int × Int × Int × (List Int)))=>RE.ok p106) y108 (none:Option (List Nat × Int × Int × Int × (List Int)))).bind fun(p107:Option (List Nat × Int × Int × Int × (List Int)))=>RE.ok p107)).bind fun(p109:Option (List Nat × Int × Int × Int × (List Int)))=>(RE.ok p109.isSome).bind fun k110=>if k110=true then (RE.ok (.rt p109)) else (RE.ok (.nx ())):RE (Fl (Option (List Nat × Int × Int × Int × (List Int))) (Unit)))) y113 ()) fun(p112:Unit)=>RE.ok (none:Option (List Nat × Int × Int × Int × (List Int))))
def F.think (ae:PuzT) (ak:List Int) (aZ:List (List Nat)):RE ((List Int) × (List (List Nat × Int × Int × Int × (List Int)))):=
 (RE.ok (ak:List Int)).bind fun am=>(RE.ok ([]:List (List Nat × Int × Int × Int × (List Int)))).bind fun aM=>Fl.bR (qsI (fun(s8:(List Int) × (List (List Nat × Int × Int × Int × (List Int))))=>((F.clashes s8.1).bind fun x9=>RE.ok (!x9))) (fun(s8:(List Int) × (List (List Nat × Int × Int × Int × (List Int))))=>((F.next_thought ae s8.1 aZ).bind fun ag=>(RE.ok ag.isNone).bind fun k10=>if k10=true then (RE.ok (.bk (s8.1,s8.2))) else (((RE.ok s8.1).bind fun x13=>((unO ag).bind fun x11=>RE.ok x11.2.2.1).bind fun x14=>((unO ag).bind fun x12=>RE.ok x12.2.2.2.1).bind fun x15=>F.struck x13 x14 x15).bind fun am=>((unO ag).bind fun x16=>qfj s8.2 x16).bind fun aM=>RE.ok (.nx (am,aM))):RE (Fl ((List Int) × (List (List Nat × Int × Int × Int × (List Int)))) ((List Int) × (List (List Nat × Int × Int × Int × (List Int))))))) qsm (am,aM)) fun(p17:(List Int) × (List (List Nat × Int × Int × Int × (List Int))))=>RE.ok (p17.1,p17.2)
def F.settles (ae:PuzT) (aZ:List (List Nat)):RE Bool:=
 (((RE.ok ae).bind fun x2=>((F.Puzzle_place ae).bind fun x1=>F.full x1).bind fun x3=>(RE.ok aZ).bind fun x4=>F.think x2 x3 x4).bind fun x5=>RE.ok x5.1).bind fun am=>(F.is_settled am).bind fun k8=>if k8=true then ((RE.ok ae).bind fun x7=>(F.filling_by am).bind fun x6=>F.Puzzle_meets x7 x6) else RE.ok false
def F.with_only (ak:List Int) (ac:Int) (ah:Int):RE (List Int):=
 (RE.ok (ak:List Int)).bind fun am=>((qto 1 (ah - 1)).bind fun x1=>(RE.ok ac).bind fun x2=>qpO am x2 x1).bind fun am=>RE.ok am
def F.first_open (ak:List Int):RE Int:=
 Fl.bR ((qbp (List.length ak:Int)).bind fun y14=>qb8 (fun(ac:Int) (s6:Unit)=>(((((atE ak ac).bind fun x7=>F.signs_in x7).bind fun x8=>RE.ok (List.length x8:Int)).bind fun x9=>RE.ok (decide (1<x9))).bind fun k11=>if k11=true then (RE.ok (.rt ac)) else (RE.ok (.nx ())):RE (Fl (Int) (Unit)))) y14 ()) fun(p13:Unit)=>RE.ok 0
def F.answers_in__1 (ae:PuzT) (ak:List Int):RE (List (List Int)):=
 ((F.think ae ak qaW).bind fun x1=>RE.ok x1.1).bind fun am=>(F.clashes am).bind fun k2=>if k2=true then (RE.ok []) else ((F.is_settled am).bind fun k3=>if k3=true then ((F.filling_by am).bind fun x4=>RE.ok [x4]) else ((F.first_open am).bind fun ac=>(RE.ok ([]:List (List Int))).bind fun aj=>(((atE am ac).bind fun x5=>F.signs_in x5).bind fun y17=>qaD (fun(ah:Int) (s9:List (List Int))=>((RE.ok (decide ((List.length s9:Int)<2))).bind fun k10=>if k10=true then (((RE.bad:RE (List (List Int))).bind fun x14=>qf2 s9 x14).bind fun aj=>RE.ok aj) else (RE.ok s9)).bind fun(p15:List (List Int))=>RE.ok p15) y17 aj).bind fun(p16:List (List Int))=>RE.ok p16))
def F.answers_in__2 (ae:PuzT) (ak:List Int):RE (List (List Int)):=
 ((F.think ae ak qaW).bind fun x1=>RE.ok x1.1).bind fun am=>(F.clashes am).bind fun k2=>if k2=true then (RE.ok []) else ((F.is_settled am).bind fun k3=>if k3=true then ((F.filling_by am).bind fun x4=>RE.ok [x4]) else ((F.first_open am).bind fun ac=>(RE.ok ([]:List (List Int))).bind fun aj=>(((atE am ac).bind fun x5=>F.signs_in x5).bind fun y23=>qaD (fun(ah:Int) (s11:List (List Int))=>((RE.ok (decide ((List.length s11:Int)<2))).bind fun k12=>if k12=true then ((((RE.ok ae).bind fun x17=>(F.with_only am ac ah).bind fun x18=>F.answers_in__1 x17 x18).bind fun x20=>qf2 s11 x20).bind fun aj=>RE.ok aj) else (RE.ok s11)).bind fun(p21:List (List Int))=>RE.ok p21) y23 aj).bind fun(p22:List (List Int))=>RE.ok p22))
def F.answers_in__3 (ae:PuzT) (ak:List Int):RE (List (List Int)):=
 ((F.think ae ak qaW).bind fun x1=>RE.ok x1.1).bind fun am=>(F.clashes am).bind fun k2=>if k2=true then (RE.ok []) else ((F.is_settled am).bind fun k3=>if k3=true then ((F.filling_by am).bind fun x4=>RE.ok [x4]) else ((F.first_open am).bind fun ac=>(RE.ok ([]:List (List Int))).bind fun aj=>(((atE am ac).bind fun x5=>F.signs_in x5).bind fun y23=>qaD (fun(ah:Int) (s11:List (List Int))=>((RE.ok (decide ((List.length s11:Int)<2))).bind fun k12=>if k12=true then ((((RE.ok ae).bind fun x17=>(F.with_only am ac ah).bind fun x18=>F.answers_in__2 x17 x18).bind fun x20=>qf2 s11 x20).bind fun aj=>RE.ok aj) else (RE.ok s11)).bind fun(p21:List (List Int))=>RE.ok p21) y23 aj).bind fun(p22:List (List Int))=>RE.ok p22))
def F.answers_in__4 (ae:PuzT) (ak:List Int):RE (List (List Int)):=
 ((F.think ae ak qaW).bind fun x1=>RE.ok x1.1).bind fun am=>(F.clashes am).bind fun k2=>if k2=true then (RE.ok []) else ((F.is_settled am).bind fun k3=>if k3=true then ((F.filling_by am).bind fun x4=>RE.ok [x4]) else ((F.first_open am).bind fun ac=>(RE.ok ([]:List (List Int))).bind fun aj=>(((atE am ac).bind fun x5=>F.signs_in x5).bind fun y23=>qaD (fun(ah:Int) (s11:List (List Int))=>((RE.ok (decide ((List.length s11:Int)<2))).bind fun k12=>if k12=true then ((((RE.ok ae).bind fun x17=>(F.with_only am ac ah).bind fun x18=>F.answers_in__3 x17 x18).bind fun x20=>qf2 s11 x20).bind fun aj=>RE.ok aj) else (RE.ok s11)).bind fun(p21:List (List Int))=>RE.ok p21) y23 aj).bind fun(p22:List (List Int))=>RE.ok p22))
def F.answers_in__5 (ae:PuzT) (ak:List Int):RE (List (List Int)):=
 ((F.think ae ak qaW).bind fun x1=>RE.ok x1.1).bind fun am=>(F.clashes am).bind fun k2=>if k2=true then (RE.ok []) else ((F.is_settled am).bind fun k3=>if k3=true then ((F.filling_by am).bind fun x4=>RE.ok [x4]) else ((F.first_open am).bind fun ac=>(RE.ok ([]:List (List Int))).bind fun aj=>(((atE am ac).bind fun x5=>F.signs_in x5).bind fun y23=>qaD (fun(ah:Int) (s11:List (List Int))=>((RE.ok (decide ((List.length s11:Int)<2))).bind fun k12=>if k12=true then ((((RE.ok ae).bind fun x17=>(F.with_only am ac ah).bind fun x18=>F.answers_in__4 x17 x18).bind fun x20=>qf2 s11 x20).bind fun aj=>RE.ok aj) else (RE.ok s11)).bind fun(p21:List (List Int))=>RE.ok p21) y23 aj).bind fun(p22:List (List Int))=>RE.ok p22))
def F.supposed__1 (ae:PuzT) (ak:List Int) (ac:Int) (ah:Int):RE D:=
 ((RE.ok ([115,117,112,112,111,115,101])).bind fun x1=>(RE.ok 0).bind fun x2=>(RE.ok ac).bind fun x3=>(RE.ok ah).bind fun x4=>(RE.bad:RE (List D)).bind fun x5=>RE.ok (x1,x2,x3,x4,x5)).bind fun x6=>RE.ok (((eT5 eS eI eI eI (eL eD))) x6)
def F.refuted__1 (ae:PuzT) (ak:List Int):RE (List D):=
 ((F.think ae ak qaW).bind (qlL eI (eT5 eS eI eI eI (eL eI)))).bind fun p1=>(F.clashes p1.1).bind fun k2=>if k2=true then (RE.ok (List.map ((eT5 eS eI eI eI (eL eI))) p1.2)) else ((F.first_open p1.1).bind fun ac=>(((atE p1.1 ac).bind fun x3=>F.signs_in x3).bind fun y8=>qaD (fun(ah:Int) (s5:List D)=>((F.supposed__1 ae p1.1 ac ah).bind fun x6=>qfj s5 x6).bind fun aM=>RE.ok aM) y8 (List.map ((eT5 eS eI eI eI (eL eI))) p1.2)).bind fun(p7:List D)=>RE.ok p7)
def F.supposed__2 (ae:PuzT) (ak:List Int) (ac:Int) (ah:Int):RE D:=
 ((RE.ok ([115,117,112,112,111,115,101])).bind fun x3=>(RE.ok 0).bind fun x4=>(RE.ok ac).bind fun x5=>(RE.ok ah).bind fun x6=>((RE.ok ae).bind fun x1=>(F.with_only ak ac ah).bind fun x2=>F.refuted__1 x1 x2).bind fun x7=>RE.ok (x3,x4,x5,x6,x7)).bind fun x8=>RE.ok (((eT5 eS eI eI eI (eL eD))) x8)
def F.refuted__2 (ae:PuzT) (ak:List Int):RE (List D):=
 ((F.think ae ak qaW).bind (qlL eI (eT5 eS eI eI eI (eL eI)))).bind fun p1=>(F.clashes p1.1).bind fun k2=>if k2=true then (RE.ok (List.map ((eT5 eS eI eI eI (eL eI))) p1.2)) else ((F.first_open p1.1).bind fun ac=>(((atE p1.1 ac).bind fun x3=>F.signs_in x3).bind fun y8=>qaD (fun(ah:Int) (s5:List D)=>((F.supposed__2 ae p1.1 ac ah).bind fun x6=>qfj s5 x6).bind fun aM=>RE.ok aM) y8 (List.map ((eT5 eS eI eI eI (eL eI))) p1.2)).bind fun(p7:List D)=>RE.ok p7)
def F.supposed__3 (ae:PuzT) (ak:List Int) (ac:Int) (ah:Int):RE D:=
 ((RE.ok ([115,117,112,112,111,115,101])).bind fun x3=>(RE.ok 0).bind fun x4=>(RE.ok ac).bind fun x5=>(RE.ok ah).bind fun x6=>((RE.ok ae).bind fun x1=>(F.with_only ak ac ah).bind fun x2=>F.refuted__2 x1 x2).bind fun x7=>RE.ok (x3,x4,x5,x6,x7)).bind fun x8=>RE.ok (((eT5 eS eI eI eI (eL eD))) x8)
def F.refuted__3 (ae:PuzT) (ak:List Int):RE (List D):=
 ((F.think ae ak qaW).bind (qlL eI (eT5 eS eI eI eI (eL eI)))).bind fun p1=>(F.clashes p1.1).bind fun k2=>if k2=true then (RE.ok (List.map ((eT5 eS eI eI eI (eL eI))) p1.2)) else ((F.first_open p1.1).bind fun ac=>(((atE p1.1 ac).bind fun x3=>F.signs_in x3).bind fun y8=>qaD (fun(ah:Int) (s5:List D)=>((F.supposed__3 ae p1.1 ac ah).bind fun x6=>qfj s5 x6).bind fun aM=>RE.ok aM) y8 (List.map ((eT5 eS eI eI eI (eL eI))) p1.2)).bind fun(p7:List D)=>RE.ok p7)
def F.supposed__4 (ae:PuzT) (ak:List Int) (ac:Int) (ah:Int):RE D:=
 ((RE.ok ([115,117,112,112,111,115,101])).bind fun x3=>(RE.ok 0).bind fun x4=>(RE.ok ac).bind fun x5=>(RE.ok ah).bind fun x6=>((RE.ok ae).bind fun x1=>(F.with_only ak ac ah).bind fun x2=>F.refuted__3 x1 x2).bind fun x7=>RE.ok (x3,x4,x5,x6,x7)).bind fun x8=>RE.ok (((eT5 eS eI eI eI (eL eD))) x8)
def F.refuted__4 (ae:PuzT) (ak:List Int):RE (List D):=
 ((F.think ae ak qaW).bind (qlL eI (eT5 eS eI eI eI (eL eI)))).bind fun p1=>(F.clashes p1.1).bind fun k2=>if k2=true then (RE.ok (List.map ((eT5 eS eI eI eI (eL eI))) p1.2)) else ((F.first_open p1.1).bind fun ac=>(((atE p1.1 ac).bind fun x3=>F.signs_in x3).bind fun y8=>qaD (fun(ah:Int) (s5:List D)=>((F.supposed__4 ae p1.1 ac ah).bind fun x6=>qfj s5 x6).bind fun aM=>RE.ok aM) y8 (List.map ((eT5 eS eI eI eI (eL eI))) p1.2)).bind fun(p7:List D)=>RE.ok p7)
def F.supposed__5 (ae:PuzT) (ak:List Int) (ac:Int) (ah:Int):RE D:=
 ((RE.ok ([115,117,112,112,111,115,101])).bind fun x3=>(RE.ok 0).bind fun x4=>(RE.ok ac).bind fun x5=>(RE.ok ah).bind fun x6=>((RE.ok ae).bind fun x1=>(F.with_only ak ac ah).bind fun x2=>F.refuted__4 x1 x2).bind fun x7=>RE.ok (x3,x4,x5,x6,x7)).bind fun x8=>RE.ok (((eT5 eS eI eI eI (eL eD))) x8)
def F.refuted__5 (ae:PuzT) (ak:List Int):RE (List D):=
 ((F.think ae ak qaW).bind (qlL eI (eT5 eS eI eI eI (eL eI)))).bind fun p1=>(F.clashes p1.1).bind fun k2=>if k2=true then (RE.ok (List.map ((eT5 eS eI eI eI (eL eI))) p1.2)) else ((F.first_open p1.1).bind fun ac=>(((atE p1.1 ac).bind fun x3=>F.signs_in x3).bind fun y8=>qaD (fun(ah:Int) (s5:List D)=>((F.supposed__5 ae p1.1 ac ah).bind fun x6=>qfj s5 x6).bind fun aM=>RE.ok aM) y8 (List.map ((eT5 eS eI eI eI (eL eI))) p1.2)).bind fun(p7:List D)=>RE.ok p7)
def F.answers_in (ae:PuzT) (ak:List Int):RE (List (List Int)):=
 ((F.think ae ak qaW).bind fun x1=>RE.ok x1.1).bind fun am=>(F.clashes am).bind fun k2=>if k2=true then (RE.ok []) else ((F.is_settled am).bind fun k3=>if k3=true then ((F.filling_by am).bind fun x4=>RE.ok [x4]) else ((F.first_open am).bind fun ac=>(RE.ok ([]:List (List Int))).bind fun aj=>(((atE am ac).bind fun x5=>F.signs_in x5).bind fun y23=>qaD (fun(ah:Int) (s11:List (List Int))=>((RE.ok (decide ((List.length s11:Int)<2))).bind fun k12=>if k12=true then ((((RE.ok ae).bind fun x17=>(F.with_only am ac ah).bind fun x18=>F.answers_in__5 x17 x18).bind fun x20=>qf2 s11 x20).bind fun aj=>RE.ok aj) else (RE.ok s11)).bind fun(p21:List (List Int))=>RE.ok p21) y23 aj).bind fun(p22:List (List Int))=>RE.ok p22))
def F.supposed (ae:PuzT) (ak:List Int) (ac:Int) (ah:Int):RE D:=
 ((RE.ok ([115,117,112,112,111,115,101])).bind fun x3=>(RE.ok 0).bind fun x4=>(RE.ok ac).bind fun x5=>(RE.ok ah).bind fun x6=>((RE.ok ae).bind fun x1=>(F.with_only ak ac ah).bind fun x2=>F.refuted__5 x1 x2).bind fun x7=>RE.ok (x3,x4,x5,x6,x7)).bind fun x8=>RE.ok (((eT5 eS eI eI eI (eL eD))) x8)
def F.refuted (ae:PuzT) (ak:List Int):RE (List D):=
 ((F.think ae ak qaW).bind (qlL eI (eT5 eS eI eI eI (eL eI)))).bind fun p1=>(F.clashes p1.1).bind fun k2=>if k2=true then (RE.ok (List.map ((eT5 eS eI eI eI (eL eI))) p1.2)) else ((F.first_open p1.1).bind fun ac=>(((atE p1.1 ac).bind fun x3=>F.signs_in x3).bind fun y8=>qaD (fun(ah:Int) (s5:List D)=>((F.supposed ae p1.1 ac ah).bind fun x6=>qfj s5 x6).bind fun aM=>RE.ok aM) y8 (List.map ((eT5 eS eI eI eI (eL eI))) p1.2)).bind fun(p7:List D)=>RE.ok p7)
def F.left_alone (ae:PuzT) (ak:List Int) (bG:List Int):RE (List D):=
 (RE.ok (ak:List Int)).bind fun am=>(RE.ok ([]:List D)).bind fun aM=>((qbp (List.length bG:Int)).bind fun y43=>qaD (fun(ac:Int) (s21:(List Int) × (List D))=>(((atE s21.1 ac).bind fun x22=>F.signs_in x22).bind fun y41=>qaD (fun(ah:Int) (s30:(List Int) × (List D))=>((((atE bG ac).bind fun x32=>RE.ok (!decide (ah=x32))).bind fun k35=>if k35=true then ((atE s30.1 ac).bind fun x33=>(RE.ok ah).bind fun x34=>F.stands x33 x34) else RE.ok false).bind fun k36=>if k36=true then (((F.supposed ae s30.1 ac ah).bind fun x38=>qfj s30.2 x38).bind fun aM=>(F.struck s30.1 ac ah).bind fun am=>RE.ok (am,aM)) else (RE.ok (s30.1,s30.2))).bind fun(p39:(List Int) × (List D))=>RE.ok (p39.1,p39.2)) y41 (s21.1,s21.2)).bind fun(p40:(List Int) × (List D))=>RE.ok (p40.1,p40.2)) y43 (am,aM)).bind fun(p42:(List Int) × (List D))=>RE.ok p42.2
def F.solve (ae:PuzT):RE D:=
 ((RE.ok ae).bind fun x2=>((F.Puzzle_place ae).bind fun x1=>F.full x1).bind fun x3=>(RE.ok qaW).bind fun x4=>F.think x2 x3 x4).bind fun p5=>(F.clashes p5.1).bind fun k6=>if k6=true then (RE.ok ((eT2 eS (eL (eT5 eS eI eI eI (eL eI)))) ([110,111,110,101],p5.2))) else (((F.ways p5.1).bind fun x7=>RE.ok (decide (32<x7))).bind fun k9=>if k9=true then (RE.ok ((eT3 eS (eL eI) (eL (eT5 eS eI eI eI (eL eI)))) ([114,101,115,116,115],p5.1,p5.2))) else ((F.answers_in ae p5.1).bind fun aj=>(RE.ok (decide ((List.length aj:Int)=0))).bind fun k10=>if k10=true then (((RE.ok ([110,111,110,101])).bind fun x13=>((F.refuted ae p5.1).bind fun x12=>qf2 (List.map ((eT5 eS eI eI eI (eL eI))) p5.2) x12).bind fun x14=>RE.ok (x13,x14)).bind fun x15=>RE.ok (((eT2 eS (eL eD))) x15)) else ((RE.ok (decide (1<(List.length aj:Int)))).bind fun k16=>if k16=true then (((RE.ok ([116,119,111])).bind fun x17=>(atE aj 0).bind fun x18=>(atE aj 1).bind fun x19=>RE.ok (x17,x18,x19)).bind fun x20=>RE.ok (((eT3 eS (eL eI) (eL eI))) x20)) else (((RE.ok ([111,110,101])).bind fun x26=>(atE aj 0).bind fun x27=>(((RE.ok ae).bind fun x21=>(RE.ok p5.1).bind fun x22=>(atE aj 0).bind fun x23=>F.left_alone x21 x22 x23).bind fun x25=>qf2 (List.map ((eT5 eS eI eI eI (eL eI))) p5.2) x25).bind fun x28=>RE.ok (x26,x27,x28)).bind fun x29=>RE.ok (((eT3 eS (eL eI) (eL eD))) x29)))))
def F.without (aF:List Int) (ac:Int):RE (List Int):=
 (RE.ok (aF:List Int)).bind fun b0=>(qpO b0 ac 0).bind fun b0=>RE.ok b0
def F.taken (ae:PuzT) (bm:List Int) (aZ:List (List Nat)):RE (Option ((List Int) × (List (Int × (List Int))))):=
 ((F.settles ae aZ).bind fun x1=>RE.ok (!x1)).bind fun k2=>if k2=true then (RE.ok (none:Option ((List Int) × (List (Int × (List Int)))))) else ((F.Puzzle_clues ae).bind fun aF=>((RE.ok bm).bind fun y62=>qaD (fun(ac:Int) (s11:List Int)=>((((atE s11 ac).bind fun x12=>RE.ok (!decide (x12=0))).bind fun k18=>if k18=true then (((RE.ok ae).bind fun x15=>(F.without s11 ac).bind fun x14=>F.Puzzle_clued x15 x14).bind fun x16=>(RE.ok aZ).bind fun x17=>F.settles x16 x17) else RE.ok false).bind fun k19=>if k19=true then ((F.without s11 ac).bind fun aF=>RE.ok aF) else (RE.ok s11)).bind fun(p20:List Int)=>RE.ok p20) y62 aF).bind fun(p21:List Int)=>(RE.ok ([]:List (Int × (List Int)))).bind fun b5=>((qt0 bm).bind fun y61=>qaD (fun(ac:Int) (s35:List (Int × (List Int)))=>(((atE p21 ac).bind fun x36=>RE.ok (!decide (x36=0))).bind fun k38=>if k38=true then (((RE.ok ae).bind fun x50=>(F.without p21 ac).bind fun x49=>F.Puzzle_clued x50 x49).bind fun bO=>(((RE.ok ac).bind fun x56=>(((RE.ok bO).bind fun x52=>((F.Puzzle_place ae).bind fun x51=>F.full x51).bind fun x53=>(RE.ok aZ).bind fun x54=>F.think x52 x53 x54).bind fun x55=>RE.ok x55.1).bind fun x57=>RE.ok (x56,x57)).bind fun x58=>qfj s35 x58).bind fun b5=>RE.ok b5) else (RE.ok s35)).bind fun(p59:List (Int × (List Int)))=>RE.ok p59) y61 b5).bind fun(p60:List (Int × (List Int)))=>RE.ok (some (p21,p60)))
def F.other_answer (aj:D) (ac:Int) (ah:Int):RE D:=
 (((qkW aj 1).bind fun x1=>(RE.ok ac).bind fun x2=>qkW x1 x2).bind fun x3=>evC .ne (eD x3) (eI ah)).bind fun k5=>if k5=true then (qkW aj 1) else (qkW aj 2)
def F.least (ae:PuzT):RE D:=
 (((F.solve ae).bind fun x1=>(RE.ok 0).bind fun x2=>qkW x1 x2).bind fun x3=>evC .ne (eD x3) (eS ([111,110,101]))).bind fun k5=>if k5=true then (RE.exc 37 []) else ((F.Puzzle_clues ae).bind fun aF=>(RE.ok ([]:List (Int × D))).bind fun aI=>Fl.bR ((RE.ok (qjs aF)).bind fun y54=>qb8 (fun(p33:Int × Int) (s32:List (Int × D))=>((RE.ok (!decide (p33.2=0))).bind fun k34=>if k34=true then ((((RE.ok ae).bind fun x36=>(F.without aF p33.1).bind fun x35=>F.Puzzle_clued x36 x35).bind fun x37=>F.solve x37).bind fun aj=>((qkW aj 0).bind fun x38=>evC .eq (eD x38) (eS ([111,110,101]))).bind fun k40=>if k40=true then ((((RE.ok ([115,112,97,114,101])).bind fun x41=>(RE.ok p33.1).bind fun x42=>(qkW aj 2).bind fun x43=>RE.ok (x41,x42,x43)).bind fun x44=>RE.ok (((eT3 eS eI eD)) x44)).bind fun x45=>RE.ok (.rt x45)) else (((qkW aj 0).bind fun x46=>evC .eq (eD x46) (eS ([114,101,115,116,115]))).bind fun k48=>if k48=true then (RE.ok (.rt ((eT2 eS eI) ([114,101,115,116,115],p33.1)))) else ((((RE.ok p33.1).bind fun x50=>(F.other_answer aj p33.1 p33.2).bind fun x51=>RE.ok (x50,x51)).bind fun x52=>qfj s32 x52).bind fun aI=>RE.ok (.nx aI)))) else (RE.ok (.nx s32)):RE (Fl (D) (List (Int × D))))) y54 aI) fun(p53:List (Int × D))=>RE.ok ((eT2 eS (eL (eT2 eI eD))) ([108,101,97,115,116],p53)))
def F.all_signs (af:Int × Int × Int):RE (List Int):=
 qkv 1 (af.2.2+1)
def F.signs_by (af:Int × Int × Int) (ay:Option (List Int)):RE (List Int):=
 (RE.ok ay.isNone).bind fun k1=>if k1=true then (F.all_signs af) else ((((unO ay).bind fun x2=>RE.ok (qeS x2)).bind fun x3=>(F.all_signs af).bind fun x4=>RE.ok (!decide (x3=x4))).bind fun k5=>if k5=true then (RE.exc 38 []) else ((unO ay).bind fun x6=>RE.ok x6))
def F.moved_filling (af:Int × Int × Int) (au:List Int) (aP:Int) (ay:Option (List Int)):RE (List Int):=
 ((F.signs_by af ay).bind fun x2=>qf2 [0] x2).bind fun bn=>((RE.ok au).bind fun x3=>gd (leB x3.length) (RE.ok (List.map (fun(ac:Int)=>0) x3))).bind fun aj=>(((RE.ok au).bind fun x4=>(F.moved_cells af aP).bind fun x5=>RE.ok (List.zip x4 x5)).bind fun y13=>qaD (fun(p9:Int × Int) (s8:List Int)=>((atE bn p9.1).bind fun x10=>(RE.ok p9.2).bind fun x11=>qpO s8 x11 x10).bind fun aj=>RE.ok aj) y13 aj).bind fun(p12:List Int)=>RE.ok p12
def F.gone (ai:RuleT) (al:List Int):RE (List Int):=
 (F.Rule_spots ai).bind fun x1=>gd (leB x1.length) (lcE (fun(ac:Int)=>(RE.ok true)) (fun(ac:Int)=>(atE al ac)) x1)
def F.Unlike_carried (ab:RuleT) (af:Int × Int × Int) (al:List Int) (ay:List Int):RE RuleT:=
 (RE.ok af).bind fun x1=>(F.gone ab al).bind fun x2=>(RE.ok 0).bind fun x3=>(RE.ok 0).bind fun x4=>RE.ok (RuleT.mk .unlike x1 x2 x3 x4)
def F.Total_carried (ab:RuleT) (af:Int × Int × Int) (al:List Int) (ay:List Int):RE RuleT:=
 (RE.ok af).bind fun x1=>(F.gone ab al).bind fun x2=>(RE.ok ab.wanted).bind fun x3=>(RE.ok 0).bind fun x4=>RE.ok (RuleT.mk .total x1 x2 x3 x4)
def F.Rising_carried (ab:RuleT) (af:Int × Int × Int) (al:List Int) (ay:List Int):RE RuleT:=
 (RE.ok af).bind fun x1=>(F.gone ab al).bind fun x2=>(RE.ok 0).bind fun x3=>(RE.ok 0).bind fun x4=>RE.ok (RuleT.mk .rising x1 x2 x3 x4)
def F.Seen_carried (ab:RuleT) (af:Int × Int × Int) (al:List Int) (ay:List Int):RE RuleT:=
 (RE.ok af).bind fun x1=>(F.gone ab al).bind fun x2=>(RE.ok ab.wanted).bind fun x3=>(RE.ok 0).bind fun x4=>RE.ok (RuleT.mk .seen x1 x2 x3 x4)
def F.Counted_carried (ab:RuleT) (af:Int × Int × Int) (al:List Int) (ay:List Int):RE RuleT:=
 (RE.ok af).bind fun x1=>(F.gone ab al).bind fun x2=>(RE.ok ab.wanted).bind fun x3=>(atE ay (ab.sign - 1)).bind fun x4=>RE.ok (RuleT.mk .counted x1 x2 x3 x4)
def F.Joined_carried (ab:RuleT) (af:Int × Int × Int) (al:List Int) (ay:List Int):RE RuleT:=
 (RE.ok af).bind fun x2=>((F.many_cells af).bind qbp).bind fun x3=>(RE.ok 0).bind fun x4=>(atE ay (ab.sign - 1)).bind fun x5=>RE.ok (RuleT.mk .joined x2 x3 x4 x5)
def F.NoSquare_carried (ab:RuleT) (af:Int × Int × Int) (al:List Int) (ay:List Int):RE RuleT:=
 (RE.ok af).bind fun x2=>((F.many_cells af).bind qbp).bind fun x3=>(RE.ok 0).bind fun x4=>(atE ay (ab.sign - 1)).bind fun x5=>RE.ok (RuleT.mk .nosquare x2 x3 x4 x5)
def F.Ring_carried (ab:RuleT) (af:Int × Int × Int) (al:List Int) (ay:List Int):RE RuleT:=
 (RE.ok af).bind fun x2=>((F.many_cells af).bind qbp).bind fun x3=>(RE.ok 0).bind fun x4=>(atE ay (ab.sign - 1)).bind fun x5=>RE.ok (RuleT.mk .ring x2 x3 x4 x5)
def F.m_reckons (r:RuleT)  : RE Bool:=match r.k with
 |.unlike=>F.Rule_reckons r
 |.total=>F.Total_reckons r
 |.rising=>F.Rising_reckons r
 |.seen=>F.Seen_reckons r
 |.counted=>F.Rule_reckons r
 |.joined=>F.Rule_reckons r
 |.nosquare=>F.Rule_reckons r
 |.ring=>F.Rule_reckons r
def F.reckons (ae:PuzT):RE Bool:=
 ((F.Puzzle_rules ae).bind fun x1=>gd (leB x1.length) (lcE (fun(ai:RuleT)=>(RE.ok true)) (fun(ai:RuleT)=>(F.m_reckons ai)) x1)).bind fun x2=>RE.ok (List.any x2 id)
def F.m_carried (r:RuleT) (a0:Int × Int × Int) (a1:List Int) (a2:List Int):RE RuleT:=match r.k with
 |.unlike=>F.Unlike_carried r a0 a1 a2
 |.total=>F.Total_carried r a0 a1 a2
 |.rising=>F.Rising_carried r a0 a1 a2
 |.seen=>F.Seen_carried r a0 a1 a2
 |.counted=>F.Counted_carried r a0 a1 a2
 |.joined=>F.Joined_carried r a0 a1 a2
 |.nosquare=>F.NoSquare_carried r a0 a1 a2
 |.ring=>F.Ring_carried r a0 a1 a2
def F.moved (ae:PuzT) (aP:Int) (ay:Option (List Int)):RE PuzT:=
 (F.Puzzle_place ae).bind fun af=>(F.look_at_move aP).bind fun _=>(F.signs_by af ay).bind fun bn=>(((F.all_signs af).bind fun x2=>RE.ok (!decide (bn=x2))).bind fun k3=>if k3=true then (F.reckons ae) else RE.ok false).bind fun k4=>if k4=true then (RE.exc 38 []) else ((F.moved_floor af aP).bind fun bI=>(F.moved_cells af aP).bind fun al=>((F.Puzzle_rules ae).bind fun x6=>gd (leB x6.length) (lcE (fun(ai:RuleT)=>(RE.ok true)) (fun(ai:RuleT)=>((F.m_carried ai bI al bn).bind fun x5=>F.Rule_line x5)) x6)).bind fun az=>(RE.ok bI).bind fun x11=>(RE.ok (List.map (eS) az)).bind fun x12=>((RE.ok af).bind fun x7=>(F.Puzzle_clues ae).bind fun x8=>(RE.ok aP).bind fun x9=>(RE.ok (some bn)).bind fun x10=>F.moved_filling x7 x8 x9 x10).bind fun x13=>F.Puzzle_new x11 x12 x13)
def F.orders (aG:List Int):RE (List (List Int)):=
 (RE.ok ([[]]:List (List Int))).bind fun aj=>((RE.ok aG).bind fun y45=>qaD (fun(bM:Int) (s22:List (List Int))=>(RE.ok ([]:List (List Int))).bind fun b6=>((RE.ok s22).bind fun y43=>qaD (fun(bm:List Int) (s32:List (List Int))=>((RE.ok aG).bind fun y41=>qaD (fun(ao:Int) (s35:List (List Int))=>((RE.ok (!decide (ao∈bm))).bind fun k36=>if k36=true then (((qf2 bm [ao]).bind fun x38=>qfj s35 x38).bind fun b6=>RE.ok b6) else (RE.ok s35)).bind fun(p39:List (List Int))=>RE.ok p39) y41 s32).bind fun(p40:List (List Int))=>RE.ok p40) y43 b6).bind fun(p42:List (List Int))=>(RE.ok (p42:List (List Int))).bind fun aj=>RE.ok aj) y45 aj).bind fun(p44:List (List Int))=>RE.ok p44
end Cm
namespace Cm
section
variable {α β γ σ:Type}
def W (m:RE α) (Q:α→Prop):Prop:=∃v,m=.ok v∧Q v
theorem W.ok {v:α} {Q:α→Prop} (h:Q v):W (.ok v) Q:=⟨v,rfl,h⟩
theorem W.of {m:RE α} {v:α} {Q:α→Prop} (e:m=.ok v) (h:Q v):W m Q:=⟨v,e,h⟩
theorem W.bind {m:RE α} {f:α→RE β} {P:α→Prop} {Q:β→Prop} (h:W m P) (k:∀v,P v→W (f v) Q):W (m.bind f) Q:=by
 obtain⟨v,e,h⟩:=h;rw[e];exact k v h
theorem W.mono {m:RE α} {P Q:α→Prop} (h:W m P) (k:∀v,P v→Q v):W m Q:=by
 obtain⟨v,e,h⟩:=h;exact⟨v,e,k v h⟩
theorem W.eq {m:RE α} {v:α} (h:W m fun x=>x=v):m=.ok v:=by obtain⟨w,e,rfl⟩:=h;exact e
theorem W.get {m:RE α} {v:α} {Q:α→Prop} (h:W m Q) (e:m=.ok v):Q v:=by
 obtain⟨w,e',h⟩:=h;rw[e] at e';cases e';exact h
theorem qiw {b:Bool} {r:RE α} (h:b=true):gd b r=r:=by rw[h];rfl
theorem qeZ {f:α→σ→RE σ}:∀{xs:List α} {s:σ} (I:Nat→σ→Prop),I 0 s→(∀i x s,xs[i]? = some x→I i s→W (f x s) (I (i+1)))→W (qaD f xs s) (I xs.length)
 |[],s,I,h0,_=>⟨s,rfl,h0⟩
 |x::xs,s,I,h0,hs=>by
  obtain⟨v,e,h⟩:=hs 0 x s rfl h0
  unfold qaD
  rw[e]
  exact qeZ (xs:=xs) (fun i=>I (i+1)) h fun i y s hy=>hs (i+1) y s (by simpa using hy)
@[simp] theorem qu7 {b:β} {k:σ→RE β}:Fl.bR (.ok (.rt b)) k=.ok b:=rfl
@[simp] theorem qu5 {s:σ} {k:σ→RE β}:Fl.bR (.ok (.nx s)) k=k s:=rfl
@[simp] theorem quM {b:β} {τ:Type} {k:σ→RE (Fl β τ)}:Fl.bF (.ok (.rt b)) k=.ok (.rt b):=rfl
@[simp] theorem quA {s:σ} {τ:Type} {k:σ→RE (Fl β τ)}:Fl.bF (.ok (.nx s)) k=k s:=rfl
theorem qd0 {f:α→RE β} {g:α→β} {xs:List α} (h:∀x∈xs,f x=.ok (g x)):lcE (fun _=>.ok true) f xs=.ok (xs.map g):=by
 induction xs with
 |nil=>rfl
 |cons x xs ih =>
  rw[lcE,h x (by simp),ih fun y hy=>h y (List.mem_cons_of_mem _ hy)]
  rfl
theorem qsa {c:α→RE Bool} {p:α→Bool} {f:α→RE β} {g:α→β} {xs:List α} (hc:∀x∈xs,c x=.ok (p x)) (h:∀x∈xs,p x=true→f x=.ok (g x)):lcE c f xs=.ok ((xs.filter p).map g):=by
 induction xs with
 |nil=>rfl
 |cons x xs ih =>
  rw[lcE,hc x (by simp),ih (fun y hy=>hc y (List.mem_cons_of_mem _ hy)) fun y hy=>h y (List.mem_cons_of_mem _ hy)]
  cases e:p x with
  |false=>simp[e,noX]
  |true=>rw[h x (by simp) e];simp[e,noX]
theorem qkw {c:α→RE Bool} {p:α→Bool} {xs:List α} (hc:∀x∈xs,c x=.ok (p x)):lcE c (fun x=>.ok x) xs=.ok (xs.filter p):=by
 rw[qsa (g:=fun x=>x) hc fun _ _ _=>rfl,List.map_id']
theorem qfw {xs:List α} {k:Int} {v:α} (h0:0≤k) (h:xs[k.toNat]? = some v):atE xs k=.ok v:=by
 have hl:k.toNat<xs.length:=by
  rcases Nat.lt_or_ge k.toNat xs.length with h' | h'
  ·exact h'
  ·rw[List.getElem?_eq_none h'] at h;cases h
 unfold atE L2.atI
 have:L2.ixN xs.length k=some k.toNat:=by
  have:=qmJ hl
  rwa [show((k.toNat:Nat):Int)=k from by omega] at this
 rw[this]
 show(match xs[k.toNat]? with
  |some x=>RE.ok x
  |none=>.bad)=_
 rw[h]
def gI (xs:List Int) (k:Int):Int:=xs.getD k.toNat 0
theorem qgL {xs:List Int} {k:Int} (h0:0≤k) (h1:k<xs.length):atE xs k=.ok (gI xs k):=by
 refine qfw h0 ?_
 rw[gI,List.getD_eq_getElem?_getD,List.getElem?_eq_getElem (by omega)];rfl
@[simp] theorem qmF {x:α} {xs:List α}:atE (x::xs) 0=.ok x:=qfw (by decide) rfl
@[simp] theorem qtp {x y:α} {xs:List α}:atE (x::y::xs) 1=.ok y:=qfw (by decide) rfl
@[simp] theorem qtf {x y z:α} {xs:List α}:atE (x::y::z::xs) 2=.ok z:=qfw (by decide) rfl
@[simp] theorem qvg {x y z u:α} {xs:List α}:atE (x::y::z::u::xs) 3=.ok u:=qfw (by decide) rfl
theorem qmk {xs:List α} {x:α} (h:xs.length<16777216):qfj xs x=.ok (xs++[x]):=qiw (qnZ (by have:LIM=16777216:=rfl;omega))
theorem qfn {xs ys:List α} (h:xs.length+ys.length≤16777216):qf2 xs ys=.ok (xs++ys):=qiw (qnZ (by have:LIM=16777216:=rfl;omega))
theorem qlm {xs ys:List Nat} (h:xs.length+ys.length≤16777216):qoX xs ys=.ok (xs++ys):=qiw (qnZ (by have:LIM=16777216:=rfl;omega))
theorem gdl {xs:List α} {r:RE β} (h:xs.length≤16777216):gd (leB xs.length) r=r:=qiw (qnZ (by have:LIM=16777216:=rfl;omega))
theorem qgG {x y:Int} (h:x.natAbs≤18446744073709551615):qjX x y=.ok (x*y):=qiw (qnk (by rw[Nat.ble_eq];exact h))
theorem qsH {x y:Int} (h:y.natAbs≤18446744073709551615):qjX x y=.ok (x*y):=qiw (qrU (by rw[Nat.ble_eq];exact h))
theorem qfy {x y:Int} (h0:y≠0):qlA x y=.ok (x.fmod y):=qiw (qux h0)
def qdM (n:Nat):List Int:=(List.range n).map fun(i:Nat)=>(i:Int)
theorem qbk (n:Nat):(qdM n).length=n:=by simp[qdM]
theorem qeh {n:Nat} {x:Int}:x∈qdM n↔0≤x∧x<n:=by
 unfold qdM
 rw[List.mem_map]
 constructor
 ·rintro⟨i,h,rfl⟩
  have:=List.mem_range.mp h
  omega
 ·rintro⟨h0,h1⟩
  exact⟨x.toNat,List.mem_range.mpr (by omega),by omega⟩
theorem qli {n i:Nat} {x:Int} (h:(qdM n)[i]? = some x):x=i∧i<n:=by
 unfold qdM at h
 rw[List.getElem?_map] at h
 rcases Nat.lt_or_ge i n with q | q
 ·rw[List.getElem?_range q] at h;cases h;exact⟨rfl,q⟩
 ·rw[List.getElem?_eq_none (by simpa using q)] at h;cases h
theorem qeU {n:Int} (h:n≤1000000) (h0:0≤n):qbp n=.ok (qdM n.toNat):=by
 have h2:qlV n=true:=by
  have:=qtc (n:=n.toNat) (by omega)
  rwa [show((n.toNat:Nat):Int)=n from by omega] at this
 rw[qbp,h2]
 simp only[qgs,qdM,qfx]
 congr 1
 exact List.map_congr_left fun i _=>by omega
def qho (i j:Int):List Int:=qfx i 1 (j - i).toNat
theorem qlI {i j x:Int}:x∈qho i j↔i≤x∧x<j:=by
 unfold qho qfx
 rw[List.mem_map]
 constructor
 ·rintro⟨k,h,rfl⟩
  have:=List.mem_range.mp h
  omega
 ·rintro⟨h0,h1⟩
  exact⟨(x - i).toNat,List.mem_range.mpr (by omega),by omega⟩
theorem qoi {i j:Int} (h:-1000000≤i∧i≤1000000 ∧ -1000000≤j∧j≤1000000):qkv i j=.ok (qho i j):=qiw (qty h)
theorem qb9 (a:Int) {n:Int} (h:0<n):0≤a.fmod n∧a.fmod n<n:=by
 rw[Int.fmod_eq_emod_of_nonneg _ (Int.le_of_lt h)]
 exact⟨Int.emod_nonneg _ (by omega),Int.emod_lt_of_pos _ h⟩
theorem qnb {p:Prop} [Decidable p] {x y:α}:(if decide p=true then x else y)=if p then x else y:=by
 by_cases h:p<;>simp[h]
end
end Cm
namespace Cm
structure FOk (fl:Int × Int × Int):Prop where
 h1:1≤fl.1
 h2:fl.1≤6
 w1:1≤fl.2.1
 w2:fl.2.1≤6
 n:fl.1*fl.2.1≤16
 s1:1≤fl.2.2
 s2:fl.2.2≤6
abbrev nC (fl:Int × Int × Int):Int:=fl.1*fl.2.1
section
variable {fl:Int × Int × Int}
theorem FOk.n1 (h:FOk fl):1≤nC fl:=by
 have:=Int.mul_le_mul h.h1 h.w1 (by decide) (by have:=h.h1;omega)
 simpa using this
theorem qkc (h:FOk fl):F.many_cells fl=.ok (nC fl):=qgG (by have:=h.h1;have:=h.h2;omega)
def qg7 (fl:Int × Int × Int) (c:Int):List Int:=(if 0<c / fl.2.1 then [c - fl.2.1] else [])++(if 0<c % fl.2.1 then [c - 1] else [])++(if c % fl.2.1<fl.2.1 - 1 then [c+1] else [])++(if c / fl.2.1<fl.1 - 1 then [c+fl.2.1] else [])
abbrev inC (fl:Int × Int × Int) (c:Int):Prop:=0≤c∧c<nC fl
theorem qhq (h:FOk fl) {c:Int} (hc:inC fl c):c=c / fl.2.1*fl.2.1+c % fl.2.1∧0≤c / fl.2.1∧c / fl.2.1<fl.1∧0≤c % fl.2.1∧c % fl.2.1<fl.2.1:=by
 have w:=h.w1
 refine⟨?_,Int.ediv_nonneg hc.1 (by omega),?_,Int.emod_nonneg _ (by omega),Int.emod_lt_of_pos _ (by omega)⟩
 ·have:=Int.mul_ediv_add_emod c fl.2.1
  rw[Int.mul_comm] at this;omega
 ·exact Int.ediv_lt_of_lt_mul (by omega) hc.2
theorem qjg {w r q:Int} (h1:0≤q) (h2:q<w):(r*w+q) / w=r∧(r*w+q) % w=q:=by
 constructor
 ·rw[Int.add_comm,Int.add_mul_ediv_right _ _ (by omega),Int.ediv_eq_zero_of_lt h1 h2];omega
 ·rw[Int.add_comm,Int.add_mul_emod_self_right,Int.emod_eq_of_lt h1 h2]
end
def stB (m s:Int):Bool:=m.toNat.testBit (s - 1).toNat
def hoB (m s:Int):Bool:=decide (m.toNat ||| 2 ^ (s - 1).toNat=2 ^ (s - 1).toNat)
theorem qnw {m s:Int} (h1:1≤s):hoB m s=true↔∀t,1≤t→stB m t=true→t=s:=by
 unfold hoB stB
 rw[decide_eq_true_eq]
 constructor
 ·intro h t h0 ht
  have:=congrArg (fun n=>Nat.testBit n (t - 1).toNat) h
  simp only[Nat.testBit_or,Nat.testBit_two_pow,ht,Bool.true_or] at this
  have:=of_decide_eq_true this.symm
  omega
 ·intro h
  refine Nat.eq_of_testBit_eq fun i=>?_
  rw[Nat.testBit_or,Nat.testBit_two_pow]
  cases e:m.toNat.testBit i
  ·rfl
  ·have:=h (i+1) (by omega) (by rw[show((i:Int)+1 - 1).toNat=i from by omega];exact e)
   have:(s - 1).toNat=i:=by omega
   simp[this]
def sgn (m:Int):List Int:=(qho 1 7).filter (stB m)
def MOk (fl:Int × Int × Int) (ms:List Int):Prop:=(ms.length:Int)=nC fl∧∀m∈ms,0≤m∧m<64
theorem qmx {ms:List Int} {k:Int} (h0:0≤k) (h1:k<ms.length):gI ms k∈ms:=by
 unfold gI
 rw[List.getD_eq_getElem?_getD,List.getElem?_eq_getElem (by omega)]
 exact List.getElem_mem (by omega)
theorem MOk.at_ {fl:Int × Int × Int} {ms:List Int} (h:MOk fl ms) {c:Int} (hc:inC fl c):atE ms c=.ok (gI ms c):=qgL hc.1 (by have:=hc.2;have:=h.1;omega)
theorem MOk.b {fl:Int × Int × Int} {ms:List Int} (h:MOk fl ms) {c:Int} (hc:inC fl c):0≤gI ms c∧gI ms c<64:=h.2 _ (qmx hc.1 (by have:=hc.2;have:=h.1;omega))
end Cm
namespace Cm
def dg (n:Nat):List Nat:=if n<10 then [48+n] else [48+n / 10,48+n % 10]
def dgI (n:Int):List Nat:=dg n.toNat
theorem qsE:∀n<100,(toString ((n:Nat):Int):PySem.Str).cps.toList=dg n:=by decide +kernel
theorem qrj:∀n<100,qr5 ((n:Nat):Int)=true:=by decide +kernel
theorem qnF:∀n<100,∀c∈dg n,48≤c∧c<58:=by decide +kernel
theorem qpP:∀n<100,(dg n).length≤2∧1≤(dg n).length:=by decide +kernel
theorem qfA {n:Int} (h0:0≤n) (h1:n<100):qkQ n=.ok (dgI n):=by
 obtain⟨k,rfl⟩:∃k:Nat,n=k:=⟨n.toNat,by omega⟩
 unfold qkQ
 rw[qiw (qrj k (by omega)),qsE k (by omega)]
 simp[dgI]
def isI (r:RE Int) (n:Nat):Bool:=match r with
 |.ok (.ofNat m)=>Nat.beq m n
 |_=>false
theorem qpA {r:RE Int} {n:Nat} (h:isI r n=true):r=.ok ((n:Nat):Int):=by
 unfold isI at h
 split at h
 ·rename_i m
  rw[Nat.eq_of_beq_eq_true h];rfl
 ·cases h
theorem qrk:∀n<100,isI (F.number_of (dg n)) n=true:=by decide +kernel
theorem qjr {n:Int} (h0:0≤n) (h1:n<100):F.number_of (dgI n)=.ok n:=by
 obtain⟨k,rfl⟩:∃k:Nat,n=k:=⟨n.toNat,by omega⟩
 have:=qpA (qrk k (by omega))
 simpa[dgI] using this
theorem qpV (c:Nat) (ws:List (List Nat)):(PySem.Txt.join (qa8 [c]) (ws.map qa8)).cps.toList=TL.joinL [c] ws:=by
 have:=SX.join_S [c] ws
 show(PySem.Txt.join (SX.S [c]) (ws.map SX.S)).cps.toList=_
 rw[this]
theorem qoB (c:Nat) (ws:List (List Nat)) (hc:c<256) (hn:ws≠[]) (h:∀p∈ws,c∉p):((PySem.Txt.split (qa8 (TL.joinL [c] ws)) (qa8 [c])).map fun z=>z.cps.toList)=ws:=by
 have e:PySem.Txt.split (qa8 (TL.joinL [c] ws)) (qa8 [c])=ws.map SX.S:=by
  have:=SX.split_S (a:=TL.joinL [c] ws) (b:=[c]) (by simp) (by simp[hc])
  rw[SX.spl_join hn h] at this
  exact this
 rw[e,List.map_map]
 have:ws.map ((fun z:PySem.Str=>z.cps.toList) ∘ SX.S)=ws.map id:=List.map_congr_left fun w _=>rfl
 rw[this,List.map_id]
theorem qiG (c:Nat):∀ws:List (List Nat),(TL.joinL [c] ws).length≤(ws.map List.length).sum+ws.length
 |[]=>by simp[TL.joinL]
 |[p]=>by simp[TL.joinL]
 |p::q::r=>by
  have:=qiG c (q::r)
  simp only[TL.joinL,List.length_append,List.map_cons,List.sum_cons,List.length_cons,List.length_nil] at this ⊢
  omega
theorem qm6 {b:Nat}:∀{ws:List (List Nat)},(∀w∈ws,w.length≤b)→(ws.map List.length).sum≤ws.length*b
 |[],_=>by simp
 |w::ws,h=>by
  have h1:=h w (by simp)
  have h2:=qm6 (ws:=ws) fun v hv=>h v (List.mem_cons_of_mem _ hv)
  simp only[List.map_cons,List.sum_cons,List.length_cons,Nat.add_mul,Nat.one_mul]
  omega
theorem qk4 {c b:Nat} {ws:List (List Nat)} (h:∀w∈ws,w.length≤b) (hb:ws.length*(b+1)≤16777216):qjo [c] ws=.ok (TL.joinL [c] ws):=by
 unfold qjo
 rw[qpV,qiw (qnZ ?_)]
 have:=qm6 h
 have l:LIM=16777216:=rfl
 simp only[List.length_cons,List.length_nil]
 rw[Nat.mul_add] at hb
 omega
theorem qmH {c b:Nat} {ws:List (List Nat)} (h:∀w∈ws,w.length≤b) (hb:ws.length*(b+1)≤16777000) (hc:c<256) (hn:ws≠[]) (hf:∀p∈ws,c∉p):qi4 (TL.joinL [c] ws) [c]=.ok ws:=by
 unfold qi4
 rw[qoB c ws hc hn hf,qiw]
 rw[qa5]
 have h1:=qm6 h
 have h2:=qiG c ws
 have l:LIM=16777216:=rfl
 rw[Nat.mul_add] at hb
 exact⟨by simp,by omega⟩
theorem qtu {α:Type} (x:α) (xs:List α):qeu (x::xs) (some 1) none=xs:=by
 have h1:HT.sIx (x::xs).length 0 (some 1)=1:=by simp[HT.sIx]
 have h2:HT.sIx (x::xs).length (x::xs).length none=xs.length+1:=by simp[HT.sIx]
 unfold qeu
 rw[h1,h2]
 simp
theorem quF {α:Type} (x y:α) (xs:List α):qeu (x::y::xs) (some 2) none=xs:=by
 have h1:HT.sIx (x::y::xs).length 0 (some 2)=2:=by simp[HT.sIx]
 have h2:HT.sIx (x::y::xs).length (x::y::xs).length none=xs.length+2:=by simp[HT.sIx]
 unfold qeu
 rw[h1,h2]
 simp
theorem qfa (f:Nat→Int):∀i,(PyProof.Rows.firstMet f i).length=i→((List.range i).map f).Nodup
 |0,_=>by simp
 |i+1,h=>by
  rw[PyProof.Rows.firstMet_succ] at h
  unfold PyProof.Rows.step_dedup at h
  have hle:=PyProof.Rows.firstMet_length_le f i
  split at h
  ·omega
  ·rename_i hn
   rw[List.length_append,List.length_singleton] at h
   have ih:=qfa f i (by omega)
   rw[PyProof.Rows.firstMet_any] at hn
   rw[List.range_succ,List.map_append,List.nodup_append]
   refine⟨ih,by simp,?_⟩
   intro a ha b hb e
   simp only[List.map_cons,List.map_nil,List.mem_singleton] at hb
   subst hb
   subst e
   exact hn (List.any_eq_true.mpr ⟨_,ha,by simp⟩)
theorem qhD (ns:List Int):(List.range ns.length).map (fun i=>ns.getD i 0)=ns:=by
 apply List.ext_getElem
 ·simp
 ·intro i h1 h2
  simp at h1
  simp[h2]
theorem qf4 (f:Nat→Int):∀i,((List.range i).map f).Nodup→(PyProof.Rows.firstMet f i).length=i
 |0,_=>rfl
 |i+1,h=>by
  rw[List.range_succ,List.map_append,List.nodup_append] at h
  have ih:=qf4 f i h.1
  rw[PyProof.Rows.firstMet_succ]
  unfold PyProof.Rows.step_dedup
  split
  ·rename_i hn
   rw[PyProof.Rows.firstMet_any] at hn
   obtain⟨a,ha,e⟩:=List.any_eq_true.mp hn
   exact absurd (by simpa using e) (h.2.2 a ha (f i) (by simp))
  ·rw[List.length_append,List.length_singleton,ih]
theorem qmN {ns:List Int} (h:ns.Nodup):qo2 ns=ns.length:=qf4 _ _ (by rwa [qhD])
theorem qnc (ns:List Int):qo2 ns=ns.length↔ns.Nodup:=
 ⟨fun h=>by have:=qfa _ _ h;rwa [qhD] at this,qmN⟩
theorem qm4 {ns:List Int} (h:ns.length≤1000):qiQ ns=.ok (qo2 ns:Int):=qiw (by rw[Nat.ble_eq];exact h)
theorem qqd {ns:List Int} (h:ns.length≤1000):((qiQ ns).bind fun x=>RE.ok (decide (x=(List.length ns:Int))))=.ok (decide ns.Nodup):=by
 rw[qm4 h]
 simp only[RE.bind_ok]
 congr 1
 refine decide_eq_decide.mpr ⟨fun e=>(qnc ns).mp (by omega),fun e=>?_⟩
 have:=(qnc ns).mpr e
 omega
theorem qpC:∀{ns:List Int} {b:Int},ns≠[]→(∀n∈ns,n<b)→qkl ns<b
 |[],_,h,_=>absurd rfl h
 |[x],b,_,h=>h x (by simp)
 |x::y::r,b,_,h=>by
  have h1:=h x (by simp)
  have h2:=qpC (ns:=y::r) (b:=b) (by simp) fun n hn=>h n (List.mem_cons_of_mem _ hn)
  show max x (qkl (y::r))<b
  omega
theorem qnP:∀{n:Nat} {cs:List Int},cs.Nodup→(∀c∈cs,0≤c∧c<n)→cs.length≤n
 |0,[],_,_=>Nat.le_refl _
 |0,c::cs,_,h=>by have:=h c (by simp);omega
 |n+1,cs,hn,h=>by
  have ih:=qnP (n:=n) (cs:=cs.erase n) (hn.erase _) fun c hc=>by
   have h1:=(List.Nodup.mem_erase_iff hn).mp hc
   have:=h c h1.2
   have:=h1.1
   omega
  by_cases hm:(n:Int)∈cs
  ·have:=List.length_erase_of_mem hm
   omega
  ·rw[List.erase_of_not_mem hm] at ih
   omega
structure CsOk (fl:Int × Int × Int) (cs:List Int):Prop where
 ne:cs≠[]
 nd:cs.Nodup
 inn:∀c∈cs,inC fl c
theorem CsOk.len {fl:Int × Int × Int} {cs:List Int} (h:CsOk fl cs) (hf:FOk fl):cs.length≤16:=by
 have:=qnP (n:=(nC fl).toNat) h.nd fun c hc=>by have q:=h.inn c hc;have q1:=q.1;have q2:=q.2;exact⟨q1,by omega⟩
 have:=hf.n
 have:=hf.n1
 have e:nC fl=fl.1*fl.2.1:=rfl
 omega
theorem qbz {fl:Int × Int × Int} {cs:List Int} (hf:FOk fl) (h:CsOk fl cs):F.cells_told fl cs=.ok cs:=by
 have hl:=h.len hf
 have e:=qqd (ns:=cs) (by omega)
 unfold F.cells_told
 rw[decide_eq_false h.ne]
 simp only[RE.bind_ok,Bool.false_eq_true,if_false]
 rw[qm4 (by omega)] at e ⊢
 simp only[RE.bind_ok] at e ⊢
 rw[RE.ok.inj e,decide_eq_true h.nd]
 simp only[Bool.not_true,Bool.false_eq_true,if_false,qkc hf,RE.bind_ok]
 obtain⟨n0,nr,hI⟩:∃n0 nr,cs=n0::nr:=List.exists_cons_of_ne_nil h.ne
 have mx:=qpC (b:=nC fl) h.ne fun n hn=>(h.inn n hn).2
 have:qrA cs=.ok (qkl cs):=by rw[hI];rfl
 rw[this]
 simp only[RE.bind_ok]
 rw[decide_eq_false (by omega)]
 rfl
theorem qfC {fl:Int × Int × Int} {ns:List Int} {k s:Int} (h0:0≤k) (hk:ns[k.toNat]? = some s) (s1:1≤s) (s2:s≤fl.2.2):F.sign_told fl ns k=.ok s:=by
 have hl:k.toNat<ns.length:=by
  rcases Nat.lt_or_ge k.toNat ns.length with q | q
  ·exact q
  ·rw[List.getElem?_eq_none q] at hk;cases hk
 unfold F.sign_told
 have a:=qfw h0 hk
 rw[decide_eq_false (by omega)]
 simp only[RE.bind_ok,Bool.false_eq_true,if_false,a,decide_eq_true s1,if_true,decide_eq_true s2,Bool.not_true]
def qnW (w:List Nat) (ns:List Int):List Nat:=TL.joinL [32] (w::ns.map dgI)
def wordsL:List (List Nat):=[[117,110,108,105,107,101],[115,117,109],[114,105,115,105,110,103],[115,101,101,110],[99,111,117,110,116],[106,111,105,110,101,100],[110,111,115,113,117,97,114,101],[114,105,110,103]]
theorem qe0:∀w∈wordsL,(D.str w).fit 0=true∧w.length≤8∧32∉w:=by decide +kernel
theorem qlF:D.fits (wordsL.map eS) 0=true:=by decide +kernel
theorem qj0:D.fits ([[106,111,105,110,101,100],[110,111,115,113,117,97,114,101],[114,105,110,103]].map eS) 0=true:=by decide +kernel
def qcI (fl:Int × Int × Int) (w:List Nat) (ns:List Int):RE RuleT:=
 if w∈[[106,111,105,110,101,100],[110,111,115,113,117,97,114,101],[114,105,110,103]] then F.whole_rule fl w ns
 else if w=[117,110,108,105,107,101] then (F.cells_told fl ns).bind fun cs=>.ok (RuleT.mk .unlike fl cs 0 0)
 else if w=[114,105,115,105,110,103] then (F.cells_told fl ns).bind fun cs=>.ok (RuleT.mk .rising fl cs 0 0)
 else if w=[99,111,117,110,116] then (F.sign_told fl ns 1).bind fun s=>(F.cells_told fl (qeu ns (some 2) none)).bind fun cs=>(atE ns 0).bind fun n=>.ok (RuleT.mk .counted fl cs n s)
 else (F.cells_told fl (qeu ns (some 1) none)).bind fun cs=>if w=[115,117,109] then (atE ns 0).bind fun n=>.ok (RuleT.mk .total fl cs n 0) else (atE ns 0).bind fun n=>.ok (RuleT.mk .seen fl cs n 0)
theorem qn4 {fl:Int × Int × Int} {w:List Nat} {ns:List Int} (hw:w∈wordsL) (hl:ns.length≤20) (hn:∀n∈ns,0≤n∧n<100):F.read_rule fl (.str (qnW w ns))=qcI fl w ns:=by
 obtain⟨w1,w2,w3⟩:=qe0 w hw
 have sp:qi4 (qnW w ns) [32]=.ok (w::ns.map dgI):=by
  refine qmH (b:=8) (fun v hv=>?_) ?_ (by decide) (by simp) fun v hv=>?_
  ·rcases List.mem_cons.mp hv with e | e
   ·rw[e];exact w2
   ·obtain⟨n,hm,rfl⟩:=List.mem_map.mp e
    have:=(qpP n.toNat (by have:=hn n hm;omega)).1
    unfold dgI
    omega
  ·simp only[List.length_cons,List.length_map];omega
  ·rcases List.mem_cons.mp hv with e | e
   ·rw[e];exact w3
   ·obtain⟨n,hm,rfl⟩:=List.mem_map.mp e
    intro q
    have:=qnF n.toNat (by have:=hn n hm;omega) _ q
    omega
 have n8:qod w wordsL=.ok false:=by
  unfold qod qp6
  rw[w1,qlF]
  simp only[Bool.and_self,if_true,RE.bind_ok,decide_eq_true hw,Bool.not_true]
 have i3:qp6 w [[106,111,105,110,101,100],[110,111,115,113,117,97,114,101],[114,105,110,103]]=.ok (decide (w∈[[106,111,105,110,101,100],[110,111,115,113,117,97,114,101],[114,105,110,103]])):=by
  unfold qp6
  rw[w1,qj0]
  rfl
 have nums:lcE (fun _=>RE.ok true) (fun ao=>F.number_of ao) (ns.map dgI)=.ok ns:=by
  rw[show lcE (fun _=>RE.ok true) (fun ao=>F.number_of ao) (ns.map dgI)=.ok ((ns.map dgI).map fun d=>match F.number_of d with
   |.ok n=>n
   |_=>0) from qd0 fun d hd=>by
    obtain⟨n,hm,rfl⟩:=List.mem_map.mp hd
    rw[qjr (hn n hm).1 (hn n hm).2]]
  rw[List.map_map]
  congr 1
  have:ns.map ((fun d=>match F.number_of d with
   |.ok n=>n
   |_=>0) ∘ dgI)=ns.map id:=List.map_congr_left fun n hm=>by
    show(match F.number_of (dgI n) with
     |.ok n=>n
     |_=>0)=n
    rw[qjr (hn n hm).1 (hn n hm).2]
  rw[this,List.map_id]
 have n8':=n8
 unfold wordsL at n8'
 unfold F.read_rule qcI
 have ty:tyE (eD (.str (qnW w ns))) .str=.ok true:=rfl
 have ds:dS (.str (qnW w ns))=.ok (qnW w ns):=rfl
 simp only[ty,ds,RE.bind_ok,Bool.not_true,Bool.false_eq_true,if_false,sp,qmF,n8',qtu,i3]
 rw[gdl (by simp only[List.length_map];omega),nums]
 simp only[RE.bind_ok,qnb]
theorem qh9 {fl:Int × Int × Int} (hf:FOk fl) {w:List Nat} {s:Int} (s1:1≤s) (s2:s≤fl.2.2) (hw:w∈[[106,111,105,110,101,100],[110,111,115,113,117,97,114,101],[114,105,110,103]]) :
  qcI fl w [s]=.ok (RuleT.mk (if w=[106,111,105,110,101,100] then .joined else if w=[110,111,115,113,117,97,114,101] then .nosquare else .ring) fl (qdM (nC fl).toNat) 0 s):=by
 unfold qcI
 rw[if_pos hw]
 unfold F.whole_rule
 have st:=qfC (fl:=fl) (ns:=[s]) (k:=0) (by decide) rfl s1 s2
 have l1:((List.length [s]:Nat):Int)=1:=rfl
 have n1:=hf.n1
 have n2:=hf.n
 have e:nC fl=fl.1*fl.2.1:=rfl
 simp only[l1,RE.bind_ok,decide_true,Bool.not_true,Bool.false_eq_true,if_false,st,qkc hf,qeU (n:=nC fl) (by omega) (by omega),qnb]
 by_cases a:w=[106,111,105,110,101,100]
 ·simp[a]
 ·by_cases b:w=[110,111,115,113,117,97,114,101]
  ·simp[b]
  ·simp[a,b]
theorem ql5 {fl:Int × Int × Int} (hf:FOk fl) {cs:List Int} (h:CsOk fl cs):qcI fl [117,110,108,105,107,101] cs=.ok (RuleT.mk .unlike fl cs 0 0):=by
 unfold qcI
 rw[if_neg (by decide),if_pos rfl,qbz hf h];rfl
theorem qms {fl:Int × Int × Int} (hf:FOk fl) {cs:List Int} (h:CsOk fl cs):qcI fl [114,105,115,105,110,103] cs=.ok (RuleT.mk .rising fl cs 0 0):=by
 unfold qcI
 rw[if_neg (by decide),if_neg (by decide),if_pos rfl,qbz hf h];rfl
theorem qol {fl:Int × Int × Int} (hf:FOk fl) {cs:List Int} (h:CsOk fl cs) {n s:Int} (s1:1≤s) (s2:s≤fl.2.2):qcI fl [99,111,117,110,116] (n::s::cs)=.ok (RuleT.mk .counted fl cs n s):=by
 unfold qcI
 rw[if_neg (by decide),if_neg (by decide),if_neg (by decide),if_pos rfl,qfC (by decide) (k:=1) rfl s1 s2]
 simp only[RE.bind_ok,quF,qbz hf h,qmF]
theorem qrQ {fl:Int × Int × Int} (hf:FOk fl) {cs:List Int} (h:CsOk fl cs) {n:Int}:qcI fl [115,117,109] (n::cs)=.ok (RuleT.mk .total fl cs n 0):=by
 unfold qcI
 rw[if_neg (by decide),if_neg (by decide),if_neg (by decide),if_neg (by decide)]
 simp only[RE.bind_ok,qtu,qbz hf h,qmF,if_true]
theorem qkr {fl:Int × Int × Int} (hf:FOk fl) {cs:List Int} (h:CsOk fl cs) {n:Int}:qcI fl [115,101,101,110] (n::cs)=.ok (RuleT.mk .seen fl cs n 0):=by
 unfold qcI
 rw[if_neg (by decide),if_neg (by decide),if_neg (by decide),if_neg (by decide)]
 simp only[RE.bind_ok,qtu,qbz hf h,qmF]
 rw[if_neg (by decide)]
theorem qkf {fl:Int × Int × Int} (h:FOk fl):F.floor_of fl.1 fl.2.1 fl.2.2=.ok fl:=by
 have:=h.h1;have:=h.h2;have:=h.w1;have:=h.w2;have:=h.n;have:=h.s1;have:=h.s2
 unfold F.floor_of
 rw[qgG (by omega)]
 simp only[RE.bind_ok,decide_eq_true h.h1,decide_eq_true h.h2,decide_eq_true h.w1,decide_eq_true h.w2,decide_eq_true h.s1,decide_eq_true h.s2,Bool.and_self,Bool.not_true,Bool.false_eq_true,if_false]
 rw[decide_eq_false (show ¬16<fl.1*fl.2.1 by omega)]
 rfl
def qpe (fl:Int × Int × Int) (fi:List Int):Prop:=(fi.length:Int)=nC fl∧∀s∈fi,0≤s∧s≤fl.2.2
instance (fl:Int × Int × Int) (fi:List Int):Decidable (qpe fl fi):=by unfold qpe;infer_instance
theorem qic {fl:Int × Int × Int} (h:FOk fl) {fi:List Int} (hl:fi.length≤10000):F.is_filling fl fi=.ok (decide (qpe fl fi)):=by
 unfold F.is_filling
 simp only[RE.bind_ok,qkc h,gdl (xs:=fi) (by omega)]
 by_cases e:(fi.length:Int)=nC fl
 ·rw[decide_eq_true e]
  simp only[Bool.not_true,Bool.false_eq_true,if_false]
  congr 1
  rw[List.all_map,Bool.eq_iff_iff,List.all_eq_true,decide_eq_true_eq]
  unfold qpe
  constructor
  ·intro q
   refine⟨e,fun s hs=>?_⟩
   have:=q s hs
   simpa using this
  ·intro q s hs
   have:=q.2 s hs
   simp[this.1,this.2]
 ·rw[decide_eq_false e]
  simp only[Bool.not_false,if_true]
  congr 1
  exact(decide_eq_false fun q=>e q.1).symm
theorem qsg {fl:Int × Int × Int} (h:FOk fl) {ls:List D} {rs:List RuleT} {cl:List Int} (hl:ls.length≤12) (hr:lcE (fun _=>RE.ok true) (fun l=>F.read_rule fl l) ls=.ok rs) (hc:qpe fl cl):F.Puzzle_new fl ls cl=.ok (PuzT.mk fl rs cl):=by
 have:=h.n
 have l:cl.length≤10000:=by have:=hc.1;have e:nC fl=fl.1*fl.2.1:=rfl;omega
 unfold F.Puzzle_new
 have z:decide ((12:Int)<(List.length ls:Int))=false:=decide_eq_false (by omega)
 simp only[decide_true,Bool.not_true,RE.bind_ok,Bool.false_eq_true,if_false,qkf h,z,gdl (xs:=ls) (by omega),hr,qic h l,decide_eq_true hc]
end Cm
namespace Cm
abbrev TI:=List Nat × Int × Int × Int × List Int
theorem qhG:∀ns:List Int,dLs dI (ns.map eI)=.ok ns
 |[]=>rfl
 |n::ns=>by rw[List.map_cons,dLs,qhG ns];rfl
theorem qpq (th:TI):dT5 (dLs dI) (thD th)=.ok th:=by
 unfold dT5 thD
 rw[qhG];rfl
def qd5 (p:PuzT) (r:Int):Option RuleT:=if 0≤r∧r<(p.rules.length:Int) then p.rules[r.toNat]? else none
def qpL (p:PuzT) (c s:Int):Bool:=decide (0≤c∧c<nC p.ground∧1≤s∧s≤p.ground.2.2)
def RK.w:RK→List Nat
 |.unlike=>[117,110,108,105,107,101]
 |.total=>[115,117,109]
 |.rising=>[114,105,115,105,110,103]
 |.seen=>[115,101,101,110]
 |.counted=>[99,111,117,110,116]
 |.joined=>[106,111,105,110,101,100]
 |.nosquare=>[110,111,115,113,117,97,114,101]
 |.ring=>[114,105,110,103]
theorem qrq (r:RuleT):F.m_name r=.ok r.k.w:=by obtain⟨k,_,_,_,_⟩:=r;cases k<;>rfl
def rk (o:Option RuleT) (k:RK):Option RuleT:=o.bind fun r=>if r.k=k then some r else none
def qmL (o:Option RuleT) (fl:Int × Int × Int) (c s:Int) (more:List Int):Bool:=match o with
 |none=>false
 |some r=>decide (r.k=.ring)&&(if more=[] then decide (r.sign=s) else decide (more.length=1)&&decide (gI more 0∈qg7 fl c))
def qqT (r:RuleT) (fl:Int × Int × Int) (ms:List Int) (c s:Int) (more:List Int):Bool:=
 let at_:=if more=[] then c else gI more 0
 let near:=(qg7 fl at_).filter fun d=>!decide (d=c)
 let must:=(near.filter fun d=>hoB (gI ms d) r.sign).length
 let may:=(near.filter fun d=>stB (gI ms d) r.sign).length
 if more=[] then decide (may<2)||decide (2<must) else hoB (gI ms at_) r.sign&&if r.sign=s then decide (2≤must) else decide (may<2)
end Cm
namespace Cm
theorem qmE {xs:List Int}:∀{ys:List Int},xs.Nodup→(∀x∈xs,x∈ys)→xs.length≤ys.length:=by
 induction xs with
 |nil=>intro ys _ _;exact Nat.zero_le _
 |cons x xs ih =>
  intro ys hn hs
  rw[List.nodup_cons] at hn
  have hx:=hs x (by simp)
  have:=ih (ys:=ys.erase x) hn.2 fun y hy=>by
   have:y≠x:=fun e=>hn.1 (e ▸ hy)
   exact(List.mem_erase_of_ne this).mpr (hs y (List.mem_cons_of_mem _ hy))
  rw[List.length_erase_of_mem hx] at this
  have:=List.length_pos_of_mem hx
  simp only[List.length_cons]
  omega
theorem qp7 (n:Nat):(qdM n).Pairwise (· < ·):=by
 unfold qdM
 rw[List.pairwise_map]
 exact List.pairwise_lt_range.imp fun h=>by omega
inductive Rch (fl:Int × Int × Int) (cs:List Int) (a:Int):Int→Prop where
 |base:a∈cs→Rch fl cs a a
 |step {b c:Int}:Rch fl cs a b→c∈qg7 fl b→c∈cs→Rch fl cs a c
section
variable {fl:Int × Int × Int} {cs:List Int} {a:Int}
theorem Rch.start {b:Int} (h:Rch fl cs a b):a∈cs:=by induction h with
 |base h=>exact h
 |step _ _ _ ih=>exact ih
theorem Rch.mem {b:Int} (h:Rch fl cs a b):b∈cs:=by cases h with
 |base h=>exact h
 |step _ _ h=>exact h
theorem Rch.mono {cs':List Int} (hs:∀x∈cs,x∈cs') {b:Int} (h:Rch fl cs a b):Rch fl cs' a b:=by induction h with
 |base h=>exact .base (hs _ h)
 |step _ h1 h2 ih=>exact .step ih h1 (hs _ h2)
end
theorem qk1 {fl:Int × Int × Int} (hf:FOk fl) {c d:Int} (hc:inC fl c) (hd:inC fl d):d∈qg7 fl c↔((c / fl.2.1=d / fl.2.1∧(c % fl.2.1=d % fl.2.1+1∨d % fl.2.1=c % fl.2.1+1))∨(c % fl.2.1=d % fl.2.1∧(c / fl.2.1=d / fl.2.1+1∨d / fl.2.1=c / fl.2.1+1))):=by
 obtain⟨e,a1,a2,b1,b2⟩:=qhq hf hc
 obtain⟨e',a1',a2',b1',b2'⟩:=qhq hf hd
 have w:=hf.w1
 unfold qg7
 simp only[List.mem_append]
 have k:∀{p:Prop} [Decidable p] (x:Int),d∈(if p then [x] else [])↔p∧d=x:=fun {p} _ x=>by
  by_cases h:p<;>simp[h]
 simp only[k]
 generalize c / fl.2.1=R at *
 generalize c % fl.2.1=Q at *
 generalize d / fl.2.1=R' at *
 generalize d % fl.2.1=Q' at *
 generalize hw:fl.2.1=W at *
 have same:∀{x y:Int} {p q:Int},0≤p→p<W→0≤q→q<W→x*W+p=y*W+q→x=y∧p=q:=fun {x y p q} p0 p1 q0 q1 h=>by
  have h1:=qjg (r:=x) p0 p1
  have h2:=qjg (r:=y) q0 q1
  rw[h] at h1
  exact⟨h1.1.symm.trans h2.1,h1.2.symm.trans h2.2⟩
 constructor
 ·rintro(((⟨h,q⟩ | ⟨h,q⟩) | ⟨h,q⟩) | ⟨h,q⟩)
  ·have:=same (x:=R') (y:=R - 1) b1' b2' b1 b2 (by rw[Int.sub_mul];omega)
   omega
  ·have:=same (x:=R') (y:=R) b1' b2' (q:=Q - 1) (by omega) (by omega) (by omega)
   omega
  ·have:=same (x:=R') (y:=R) b1' b2' (q:=Q+1) (by omega) (by omega) (by omega)
   omega
  ·have:=same (x:=R') (y:=R+1) b1' b2' b1 b2 (by rw[Int.add_mul];omega)
   omega
 ·rintro(⟨h,q | q⟩ | ⟨h,q | q⟩)
  ·exact .inl (.inl (.inr ⟨by omega,by rw[e,e',h];omega⟩))
  ·exact .inl (.inr ⟨by omega,by rw[e,e',h];omega⟩)
  ·refine .inl (.inl (.inl ⟨by omega,?_⟩))
   have:R*W=R'*W+W:=by rw[q,Int.add_mul];omega
   omega
  ·refine .inr ⟨by omega,?_⟩
   have:R'*W=R*W+W:=by rw[q,Int.add_mul];omega
   omega
end Cm
namespace Cm
noncomputable def dec (p:Prop):Bool:=@decide p (Classical.propDecidable p)
def qt8 (ms:List Int) (s:Int):List Int:=(qdM ms.length).filter fun c=>stB (gI ms c) s
def qve (k:RK):Bool:=decide (k=.joined∨k=.ring)
def qla (o:Option RuleT) (fl:Int × Int × Int) (c s:Int) (more:List Int):Bool:=match o with
 |none=>false
 |some r=>qve r.k&&(decide ((more.length:Int)=2 - (if r.sign=s then 1 else 0))&&(decide more.Nodup&&more.all fun d=>!(decide (d=c)||(decide (d<0)||decide (nC fl≤d)))))
noncomputable def qpf (r:RuleT) (fl:Int × Int × Int) (ms:List Int) (c s:Int) (more:List Int):Bool:=
 (more.all fun d=>hoB (gI ms d) r.sign)&&(if r.sign=s then !dec (Rch fl (((qt8 ms r.sign).filter fun d=>!decide (d=c))++[c]) c (gI more 0)) else !dec (Rch fl ((qt8 ms r.sign).filter fun d=>!decide (d=c)) (gI more 0) (gI more 1)))
end Cm
namespace Cm
def qru (r:RuleT) (c:Int):List Int:=r.cells.filter fun d=>!decide (d=c)
def ofB (o:Option RuleT) (k:RK) (c:Int):Bool:=match o with
 |none=>false
 |some r=>decide (r.k=k)&&decide (c∈r.cells)
def qm3 (r:RuleT) (c:Int) (more:List Int):Bool:=(more.all fun d=>decide (d∈qru r c))&&decide more.Nodup
def qmh (i:Int) (more:List Int):Bool:=decide (i=0)&&decide (more=[])
def qrz (p:PuzT) (c s:Int):Bool:=!decide (gI p.clues c=0) && !decide (gI p.clues c=s)
def qnx (o:Option RuleT) (c:Int) (more:List Int):Bool:=match o with
 |none=>false
 |some r=>ofB o .unlike c&&(decide (more.length=1)&&qm3 r c more)
def qrw (ms:List Int) (s:Int) (more:List Int):Bool:=hoB (gI ms (gI more 0)) s
def qlp (o:Option RuleT) (sg c s:Int) (more:List Int):Bool:=match o with
 |none=>false
 |some r=>ofB o .unlike c&&(decide ((r.cells.length:Int)=sg)&&(decide (more.length=1)&&(decide (1≤gI more 0∧gI more 0≤sg) && !decide (gI more 0=s))))
def qoy (r:RuleT) (ms:List Int) (c:Int) (more:List Int):Bool:=(qru r c).all fun d=>!stB (gI ms d) (gI more 0)
def inR (fl:Int × Int × Int) (r:RuleT):Prop:=r.cells.length≤1000∧∀d∈r.cells,inC fl d
def qrE (xs:List Int) (x:Int):Nat:=xs.findIdx fun y=>decide (y=x)
def qma (o:Option RuleT) (c:Int) (more:List Int):Bool:=match o with
 |none=>false
 |some r=>ofB o .unlike c&&(decide (more.length=2)&&(qm3 r c more&&decide (qrE r.cells (gI more 0)<qrE r.cells (gI more 1))))
def qrB (ms:List Int) (s:Int) (more:List Int):Bool:=decide (((sgn (PySem.Builtin.bitOr (gI ms (gI more 0)) (gI ms (gI more 1)))).filter fun t=>!decide (t=s)).length≤1)
def qk9 (o:Option RuleT) (c:Int) (more:List Int):Bool:=decide (more=[])&&ofB o .counted c
def qoT (r:RuleT) (ms:List Int) (c s:Int):Bool:=if s=r.sign then decide (r.wanted≤(((qru r c).filter fun d=>hoB (gI ms d) r.sign).length:Int)) else decide ((((qru r c).filter fun d=>stB (gI ms d) r.sign).length:Int)<r.wanted)
end Cm
namespace Cm
theorem qp4 {xs ys:List Int} {k:Int} (h0:0≤k) (h1:k<ys.length) (hx:xs.length<16777216) (hy:ys.length≤16777216):∃d,qlB xs ys k=.ok (xs++[d],ys.eraseIdx k.toNat)∧((xs++[d])++ys.eraseIdx k.toNat).Perm (xs++ys):=by
 have hk:k.toNat<ys.length:=by omega
 have i:=qmJ hk
 rw[show((k.toNat:Nat):Int)=k from by omega] at i
 refine⟨ys[k.toNat],?_,?_⟩
 ·unfold qlB
  have l:LIM=16777216:=rfl
  simp only[i,List.getElem?_eq_getElem hk]
  rw[qiw (qnZ (by omega)),qiw (qnZ (by omega))]
 ·rw[List.append_assoc]
  exact(qhh ys k.toNat hk).append_left xs
theorem qoK {f:Int→(List Int × List Int)→RE (List Int × List Int)} {n:Nat} (hn:n≤1000) (hf:∀(i:Nat) (s:List Int × List Int),i<n→s.1.length=n - i→∃k,0≤k∧k<(s.1.length:Int)∧f i s=(qlB s.2 s.1 k).bind fun p=>.ok (p.2,p.1)):W (qaD f (qdM n) (qdM n,[])) fun s=>s.2.Perm (qdM n):=by
 refine W.mono (qeZ (fun i s=>s.2.length=i∧(s.2++s.1).Perm (qdM n)) ⟨rfl,by simp⟩ fun i x s hx ⟨hl,hp⟩=>?_) fun s ⟨hl,hp⟩=>?_
 ·obtain⟨rfl,hi⟩:=qli hx
  have:=hp.length_eq
  rw[List.length_append,qbk] at this
  obtain⟨k,k0,k1,e⟩:=hf i s hi (by omega)
  obtain⟨d,e2,p2⟩:=qp4 (xs:=s.2) (ys:=s.1) k0 k1 (by omega) (by omega)
  rw[e,e2]
  exact W.ok ⟨by simp[hl],p2.trans hp⟩
 ·have:=hp.length_eq
  rw[qbk] at hl
  rw[List.length_append,qbk,hl] at this
  have:s.1=[]:=List.length_eq_zero_iff.mp (by omega)
  rwa [this,List.append_nil] at hp
theorem qqJ (m b:Int):evC .isin (eI m) ((eT2 eI eI) (0,b))=.ok (decide (m=0∨m=b)):=by
 show qmn (.int m) (.tup [.int 0,.int b])=_
 simp[qmn,D.fit,D.fits,D.eqb,eq_comm]
end Cm
namespace Cm
def qpD (cs:List Int) (c:Int):Option Int:=if 0<qrE cs c then some (gI cs ((qrE cs c:Int) - 1)) else none
def qmK (cs:List Int) (c:Int):Option Int:=if qrE cs c+1<cs.length then some (gI cs ((qrE cs c:Int)+1)) else none
def qng (o:Option RuleT) (c:Int) (more:List Int):Bool:=decide (more=[])&&ofB o .rising c
def qqD (r:RuleT) (ms:List Int) (c s:Int):Bool:=(match qpD r.cells c with
 |some d=>decide (s≤qs8 false (sgn (gI ms d)) s)
 |none=>false)||(match qmK r.cells c with
 |some d=>decide (qs8 true (sgn (gI ms d)) s≤s)
 |none=>false)
theorem qnj {m t:Int}:t∈sgn m↔(1≤t∧t<7)∧stB m t=true:=by
 unfold sgn
 rw[List.mem_filter,qlI]
end Cm
namespace Cm
theorem qqY (m:Int):(sgn m).Pairwise (· < ·):=List.Pairwise.filter _ (by decide)
def qtq (cs ms:List Int) (c s:Int):Option (Int × Int):=
 let os:=cs.filter fun d=>!decide (d=c)
 if (os.any fun d=>decide (sgn (gI ms d)=[]))=true then none else some (s+(os.map fun d=>ql3 (sgn (gI ms d))).sum,s+(os.map fun d=>qkl (sgn (gI ms d))).sum)
def qpt (o:Option RuleT) (c:Int) (more:List Int):Bool:=decide (more=[])&&ofB o .total c
def qrS (r:RuleT) (ms:List Int) (c s:Int):Bool:=match qtq r.cells ms c s with
 |none=>true
 |some e=>decide (r.wanted<e.1)||decide (e.2<r.wanted)
end Cm
namespace Cm
def Snd (fl:Int × Int × Int) (ms fi:List Int):Prop:=∀c,inC fl c→stB (gI ms c) (gI fi c)=true∧1≤gI fi c∧gI fi c≤fl.2.2
def UnL (cs fi:List Int):Prop:=∀d∈cs,∀e∈cs,d≠e→gI fi d≠gI fi e
end Cm
namespace Cm
section
variable {α β γ:Type}
end
def qtR (fl:Int × Int × Int) (c:Int):Bool:=decide (c / fl.2.1<fl.1 - 1)&&decide (c % fl.2.1<fl.2.1 - 1)
def sqL (fl:Int × Int × Int) (c:Int):List Int:=[c,c+1,c+fl.2.1,c+fl.2.1+1]
def qur (fl:Int × Int × Int):List Int:=(qdM (nC fl).toNat).filter (qtR fl)
def qvb (fl:Int × Int × Int):List (List Int):=(qur fl).map (sqL fl)
section
variable {fl:Int × Int × Int}
theorem qmi (hf:FOk fl):(nC fl).toNat≤16:=by
 have:=hf.n
 have e:nC fl=fl.1*fl.2.1:=rfl
 omega
def qtK (fl:Int × Int × Int) (c:Int):List Int:=if c∈qur fl then sqL fl c else []
end
def qi9 (o:Option RuleT) (fl:Int × Int × Int) (c s:Int) (more:List Int):Bool:=match o with
 |none=>false
 |some r=>decide (r.k=.nosquare)&&(decide (r.sign=s)&&(decide (more.length=1)&&decide (c∈qtK fl (gI more 0))))
def qnf (fl:Int × Int × Int) (ms:List Int) (c s:Int) (more:List Int):Bool:=(qtK fl (gI more 0)).all fun d=>decide (d=c)||hoB (gI ms d) s
end Cm
namespace Cm
section
variable {fl:Int × Int × Int} {cs:List Int}
theorem qoP (hf:FOk fl) {c d:Int} (hc:inC fl c) (hd:inC fl d):d∈qg7 fl c↔c∈qg7 fl d:=by
 rw[qk1 hf hc hd,qk1 hf hd hc]
 omega
theorem Rch.trans {a b c:Int} (h:Rch fl cs a b) (k:Rch fl cs b c):Rch fl cs a c:=by induction k with
 |base _=>exact h
 |step _ h1 h2 ih=>exact .step ih h1 h2
theorem Rch.symm (hf:FOk fl) (hi:∀x∈cs,inC fl x) {a b:Int} (h:Rch fl cs a b):Rch fl cs b a:=by induction h with
 |base h=>exact .base h
 |step h h1 h2 ih=>exact(Rch.step (.base h2) ((qoP hf (hi _ h.mem) (hi _ h2)).mp h1) h.mem).trans ih
noncomputable def jnB (fl:Int × Int × Int) (cs:List Int):Bool:=dec (∀a∈cs,∀b∈cs,Rch fl cs a b)
theorem qrY {L:List Int} (h:L.Pairwise (· < ·)):L.Nodup:=h.imp fun h e=>by omega
end
def qtw (xs:List Int):Int × Int:=xs.foldl (fun s x=>if s.2<x then (s.1+1,x) else s) (0,0)
noncomputable def qsY (r:RuleT) (g:Int→Int):Bool:=match r.k with
 |.unlike=>decide (r.cells.map g).Nodup
 |.total=>decide ((r.cells.map g).sum=r.wanted)
 |.rising=>(r.cells.zip (r.cells.drop 1)).all fun p=>decide (g p.1<g p.2)
 |.seen=>decide ((qtw (r.cells.map g)).1=r.wanted)
 |.counted=>decide (((r.cells.filter fun d=>decide (g d=r.sign)).length:Int)=r.wanted)
 |.joined=>jnB r.ground (r.cells.filter fun d=>decide (g d=r.sign))
 |.nosquare=>(qvb r.ground).all fun q=>!decide ((q.filter fun d=>decide (g d=r.sign)).length=4)
 |.ring=>((r.cells.filter fun d=>decide (g d=r.sign)).all fun c=>decide (((qg7 r.ground c).filter fun d=>decide (d∈r.cells.filter fun d=>decide (g d=r.sign))).length=2))&&jnB r.ground (r.cells.filter fun d=>decide (g d=r.sign))
def qer:RK→Bool
 |.joined=>true
 |.nosquare=>true
 |.ring=>true
 |_=>false
structure WfR (fl:Int × Int × Int) (r:RuleT):Prop where
 g:r.ground=fl
 cs:CsOk fl r.cells
 w:qer r.k=true→r.cells=qdM (nC fl).toNat
 s:qer r.k=true∨r.k=.counted→1≤r.sign∧r.sign≤fl.2.2
 s0:¬(qer r.k=true∨r.k=.counted)→r.sign=0
 n0:0≤r.wanted
 n1:r.wanted<100
 n2:¬(r.k=.total∨r.k=.seen∨r.k=.counted)→r.wanted=0
theorem WfR.inR {fl:Int × Int × Int} (hf:FOk fl) {r:RuleT} (h:WfR fl r):inR fl r:=⟨by have:=h.cs.len hf;omega,h.cs.inn⟩
section
variable {fl:Int × Int × Int} {r:RuleT} {fi:List Int}
end
end Cm
namespace Cm
def qsW:List Int→Int
 |[]=>1
 |x::xs=>x*qsW xs
def lay:List (Int × List Int)→List Int→Int→List Int × Int
 |[],fi,n=>(fi,n)
 |p::os,fi,n=>lay os (fi.set p.1.toNat (gI p.2 (n % (p.2.length:Int)))) (n / (p.2.length:Int))
structure LyOk (n:Nat) (os:List (Int × List Int)):Prop where
 nd:(os.map Prod.fst).Nodup
 inn:∀p∈os,0≤p.1∧p.1<(n:Int)
 ne:∀p∈os,1≤p.2.length∧p.2.length≤6
theorem LyOk.tl {n:Nat} {p:Int × List Int} {os:List (Int × List Int)} (h:LyOk n (p::os)):LyOk n os∧∀q∈os,q.1≠p.1:=by
 have nd:=h.nd
 rw[List.map_cons,List.nodup_cons] at nd
 exact⟨⟨nd.2,fun q hq=>h.inn q (List.mem_cons_of_mem _ hq),fun q hq=>h.ne q (List.mem_cons_of_mem _ hq)⟩,fun q hq e=>nd.1 (List.mem_map.mpr ⟨q,hq,e⟩)⟩
def qnt (o:Option RuleT) (c:Int) (more:List Int):Bool:=decide (more=[])&&match o with
 |none=>false
 |some r=>decide (c∈r.cells)
def qti (r:RuleT) (ms:List Int) (c:Int):Int:=qsW ((qru r c).map fun d=>((sgn (gI ms d)).length:Int))
noncomputable def qqo (r:RuleT) (ms:List Int) (c s:Int):Bool:=decide (qti r ms c≤32)&&dec (∀g:Int→Int,g c=s→(∀d∈qru r c,g d∈sgn (gI ms d))→qsY r g=false)
end Cm
namespace Cm
def qm8:List KK:=[.clue,.only,.place,.count,.step,.sums,.square,.reach,.turn,.pair,.ways]
def KK.w:KK→List Nat
 |.clue=>[99,108,117,101]
 |.only=>[111,110,108,121]
 |.place=>[112,108,97,99,101]
 |.count=>[99,111,117,110,116]
 |.step=>[115,116,101,112]
 |.sums=>[115,117,109]
 |.square=>[115,113,117,97,114,101]
 |.reach=>[114,101,97,99,104]
 |.turn=>[116,117,114,110]
 |.pair=>[112,97,105,114]
 |.ways=>[119,97,121,115]
def quk (w:List Nat):Option KK:=qm8.find? fun k=>decide (k.w=w)
structure WfP (p:PuzT):Prop where
 f:FOk p.ground
 r:∀r∈p.rules,WfR p.ground r
 c:qpe p.ground p.clues
 n:p.rules.length≤12
def qun (k:KK) (p:PuzT) (o:Option RuleT) (th:TI):Bool:=match k with
 |.clue=>qmh th.2.1 th.2.2.2.2
 |.only=>qnx o th.2.2.1 th.2.2.2.2
 |.place=>qlp o p.ground.2.2 th.2.2.1 th.2.2.2.1 th.2.2.2.2
 |.count=>qk9 o th.2.2.1 th.2.2.2.2
 |.step=>qng o th.2.2.1 th.2.2.2.2
 |.sums=>qpt o th.2.2.1 th.2.2.2.2
 |.square=>qi9 o p.ground th.2.2.1 th.2.2.2.1 th.2.2.2.2
 |.reach=>qla o p.ground th.2.2.1 th.2.2.2.1 th.2.2.2.2
 |.turn=>qmL o p.ground th.2.2.1 th.2.2.2.1 th.2.2.2.2
 |.pair=>qma o th.2.2.1 th.2.2.2.2
 |.ways=>qnt o th.2.2.1 th.2.2.2.2
noncomputable def quE (k:KK) (p:PuzT) (ms:List Int) (r:RuleT) (th:TI):Bool:=match k with
 |.clue=>qrz p th.2.2.1 th.2.2.2.1
 |.only=>qrw ms th.2.2.2.1 th.2.2.2.2
 |.place=>qoy r ms th.2.2.1 th.2.2.2.2
 |.count=>qoT r ms th.2.2.1 th.2.2.2.1
 |.step=>qqD r ms th.2.2.1 th.2.2.2.1
 |.sums=>qrS r ms th.2.2.1 th.2.2.2.1
 |.square=>qnf p.ground ms th.2.2.1 th.2.2.2.1 th.2.2.2.2
 |.reach=>qpf r p.ground ms th.2.2.1 th.2.2.2.1 th.2.2.2.2
 |.turn=>qqT r p.ground ms th.2.2.1 th.2.2.2.1 th.2.2.2.2
 |.pair=>qrB ms th.2.2.2.1 th.2.2.2.2
 |.ways=>qqo r ms th.2.2.1 th.2.2.2.1
def noR:RuleT:=⟨.unlike,(1,1,1),[],0,0⟩
noncomputable def quS (k:KK) (p:PuzT) (ms:List Int) (th:TI):Bool:=quE k p ms ((qd5 p th.2.1).getD noR) th
noncomputable def alB (p:PuzT) (ms:List Int) (th:TI):Bool:=match quk th.1 with
 |none=>false
 |some k=>qpL p th.2.2.1 th.2.2.2.1&&(qun k p (qd5 p th.2.1) th&&quS k p ms th)
theorem qk2 {p:PuzT} {c s:Int}:qpL p c s=true↔inC p.ground c∧1≤s∧s≤p.ground.2.2:=by
 unfold qpL
 rw[decide_eq_true_eq]
 exact⟨fun⟨a,b,c,d⟩=>⟨⟨a,b⟩,c,d⟩,fun⟨⟨a,b⟩,c,d⟩=>⟨a,b,c,d⟩⟩
section
variable {p:PuzT} {ms:List Int} {th:TI}
end
end Cm
namespace Cm
def qt2 (k:KK) (p:PuzT) (r:RuleT) (th:TI):List Int:=match k with
 |.clue=>[]
 |.only=>th.2.2.2.2
 |.step=>qeS ((match qpD r.cells th.2.2.1 with
  |some d=>[d]
  |none=>[])++match qmK r.cells th.2.2.1 with
  |some d=>[d]
  |none=>[])
 |.square=>(qtK p.ground (gI th.2.2.2.2 0)).filter fun d=>!decide (d=th.2.2.1)
 |.reach=>(qdM (nC p.ground).toNat).filter fun d=>!decide (d=th.2.2.1)
 |.turn=>if th.2.2.2.2=[] then qg7 p.ground th.2.2.1 else qeS ((qg7 p.ground (gI th.2.2.2.2 0)++[gI th.2.2.2.2 0]).filter fun d=>!decide (d=th.2.2.1))
 |.pair=>qeS th.2.2.2.2
 |_=>qeS (qru r th.2.2.1)
def Sb (m' m:Int):Prop:=∀t,1≤t→stB m' t=true→stB m t=true
theorem Sb.refl (m:Int):Sb m m:=fun _ _ h=>h
theorem Sb.ho {m' m s:Int} (h:Sb m' m) (s1:1≤s) (k:hoB m s=true):hoB m' s=true:=(qnw s1).mpr fun t t1 ht=>(qnw s1).mp k t t1 (h t t1 ht)
theorem Sb.sg {m' m:Int} (h:Sb m' m):∀t∈sgn m',t∈sgn m:=fun t ht=>by
 obtain⟨⟨a,b⟩,c⟩:=qnj.mp ht
 exact qnj.mpr ⟨⟨a,b⟩,h t a c⟩
theorem qsf (m:Int):(sgn m).Nodup:=qrY (qqY m)
theorem Sb.ln {m' m:Int} (h:Sb m' m):(sgn m').length≤(sgn m).length:=qmE (qsf m') h.sg
section
variable {p:PuzT} {ms ms':List Int} {th:TI}
def qu4 (p:PuzT) (th:TI):List Int:=match quk th.1 with
 |none=>[]
 |some k=>qt2 k p ((qd5 p th.2.1).getD noR) th
end
end Cm
namespace Cm
section
variable {p:PuzT} {ms fi:List Int} {th:TI}
end
end Cm
namespace Cm
theorem qhR (n:Nat):(qdM n).Nodup:=qrY (qp7 n)
theorem qjW {x:Int} (h0:0≤x) (h1:x<100):(dgI x).length≤2:=(qpP _ (by omega)).1
theorem qmW (w:List Nat) {ns:List Int} (h:ns≠[]):qnW w ns=w++([32]++TL.joinL [32] (ns.map dgI)):=by
 obtain⟨a,as,rfl⟩:=List.exists_cons_of_ne_nil h
 unfold qnW
 simp[TL.joinL,List.append_assoc]
def qfU (r:RuleT):List Int:=match r.k with
 |.unlike=>r.cells
 |.rising=>r.cells
 |.total=>r.wanted::r.cells
 |.seen=>r.wanted::r.cells
 |.counted=>r.wanted::r.sign::r.cells
 |_=>[r.sign]
def qbo (r:RuleT):List Nat:=qnW r.k.w (qfU r)
theorem qiy (k:RK):k.w∈wordsL:=by cases k<;>decide
theorem RuleT.ext' {r s:RuleT} (h1:r.k=s.k) (h2:r.ground=s.ground) (h3:r.cells=s.cells) (h4:r.wanted=s.wanted) (h5:r.sign=s.sign):r=s:=by
 obtain⟨_,_,_,_,_⟩:=r
 obtain⟨_,_,_,_,_⟩:=s
 simp only at h1 h2 h3 h4 h5
 subst h1;subst h2;subst h3;subst h4;subst h5;rfl
section
variable {fl:Int × Int × Int}
theorem qed (hf:FOk fl) {r:RuleT} (hr:WfR fl r):(qfU r).length≤18∧(∀n∈qfU r,0≤n∧n<100)∧qfU r≠[]:=by
 have l:=hr.cs.len hf
 have s6:=hf.s2
 have n:=qmi hf
 have ci:∀c∈r.cells,0≤c∧c<100:=fun c hc=>by
  have:=hr.cs.inn c hc
  exact⟨this.1,by have:=this.2;omega⟩
 have n0:=hr.n0
 have n1:=hr.n1
 unfold qfU
 cases hk:r.k with
 |unlike=>exact⟨by show r.cells.length≤18;omega,ci,hr.cs.ne⟩
 |rising=>exact⟨by show r.cells.length≤18;omega,ci,hr.cs.ne⟩
 |total=>exact⟨by simp only[List.length_cons];omega,fun x hx=>by rcases List.mem_cons.mp hx with q | q;omega;exact ci x q,by simp⟩
 |seen=>exact⟨by simp only[List.length_cons];omega,fun x hx=>by rcases List.mem_cons.mp hx with q | q;omega;exact ci x q,by simp⟩
 |counted =>
  have:=hr.s (.inr hk)
  exact⟨by simp only[List.length_cons];omega,fun x hx=>by
   rcases List.mem_cons.mp hx with q | q
   ·omega
   ·rcases List.mem_cons.mp q with q | q
    ·omega
    ·exact ci x q,by simp⟩
 |joined =>
  have:=hr.s (.inl (by rw[hk];rfl))
  exact⟨by simp,fun x hx=>by rw[List.mem_singleton.mp hx];omega,by simp⟩
 |nosquare =>
  have:=hr.s (.inl (by rw[hk];rfl))
  exact⟨by simp,fun x hx=>by rw[List.mem_singleton.mp hx];omega,by simp⟩
 |ring =>
  have:=hr.s (.inl (by rw[hk];rfl))
  exact⟨by simp,fun x hx=>by rw[List.mem_singleton.mp hx];omega,by simp⟩
theorem qnh (hf:FOk fl) {r:RuleT} (hr:WfR fl r):F.read_rule fl (eS (qbo r))=.ok r:=by
 obtain⟨t1,t2,_⟩:=qed hf hr
 show F.read_rule fl (.str (qnW r.k.w (qfU r)))=_
 rw[qn4 (qiy r.k) (by omega) t2]
 unfold qfU
 cases hk:r.k with
 |unlike =>
  have:=ql5 hf hr.cs
  refine this.trans (congrArg RE.ok (RuleT.ext' hk.symm hr.g.symm rfl ?_ ?_))
  ·exact(hr.n2 (by rw[hk];decide)).symm
  ·exact(hr.s0 (by rw[hk];decide)).symm
 |rising =>
  have:=qms hf hr.cs
  refine this.trans (congrArg RE.ok (RuleT.ext' hk.symm hr.g.symm rfl ?_ ?_))
  ·exact(hr.n2 (by rw[hk];decide)).symm
  ·exact(hr.s0 (by rw[hk];decide)).symm
 |total =>
  have:=qrQ (n:=r.wanted) hf hr.cs
  exact this.trans (congrArg RE.ok (RuleT.ext' hk.symm hr.g.symm rfl rfl (hr.s0 (by rw[hk];decide)).symm))
 |seen =>
  have:=qkr (n:=r.wanted) hf hr.cs
  exact this.trans (congrArg RE.ok (RuleT.ext' hk.symm hr.g.symm rfl rfl (hr.s0 (by rw[hk];decide)).symm))
 |counted =>
  have s:=hr.s (.inr hk)
  have:=qol (n:=r.wanted) hf hr.cs s.1 s.2
  exact this.trans (congrArg RE.ok (RuleT.ext' hk.symm hr.g.symm rfl rfl rfl))
 |joined =>
  have wk:qer r.k=true:=by rw[hk];rfl
  have s:=hr.s (.inl wk)
  have:=qh9 hf s.1 s.2 (w:=RK.joined.w) (by decide)
  refine this.trans (congrArg RE.ok (RuleT.ext' hk.symm hr.g.symm (hr.w wk).symm ?_ rfl))
  exact(hr.n2 (by rw[hk];decide)).symm
 |nosquare =>
  have wk:qer r.k=true:=by rw[hk];rfl
  have s:=hr.s (.inl wk)
  have:=qh9 hf s.1 s.2 (w:=RK.nosquare.w) (by decide)
  refine this.trans (congrArg RE.ok (RuleT.ext' hk.symm hr.g.symm (hr.w wk).symm ?_ rfl))
  exact(hr.n2 (by rw[hk];decide)).symm
 |ring =>
  have wk:qer r.k=true:=by rw[hk];rfl
  have s:=hr.s (.inl wk)
  have:=qh9 hf s.1 s.2 (w:=RK.ring.w) (by decide)
  refine this.trans (congrArg RE.ok (RuleT.ext' hk.symm hr.g.symm (hr.w wk).symm ?_ rfl))
  exact(hr.n2 (by rw[hk];decide)).symm
theorem qhn (hf:FOk fl):∀{rs:List RuleT},(∀r∈rs,WfR fl r)→lcE (fun _=>RE.ok true) (fun l=>F.read_rule fl l) (rs.map fun r=>eS (qbo r))=.ok rs
 |[],_=>rfl
 |r::rs,h=>by
  rw[List.map_cons,lcE,qnh hf (h r (by simp)),qhn hf (rs:=rs) fun x hx=>h x (List.mem_cons_of_mem _ hx)]
  rfl
theorem qpB (hf:FOk fl) {rs:List RuleT} {ls:List (List Nat)} {cl:List Int} (hl:ls=rs.map qbo) (hn:rs.length≤12) (hr:∀r∈rs,WfR fl r) (hc:qpe fl cl):F.Puzzle_new fl (ls.map eS) cl=.ok ⟨fl,rs,cl⟩∧WfP ⟨fl,rs,cl⟩:=by
 subst hl
 refine⟨qsg hf (by rw[List.length_map,List.length_map];omega) ?_ hc,⟨hf,hr,hc,hn⟩⟩
 rw[List.map_map]
 exact qhn hf hr
theorem qf7 {k:RK} {cs:List Int} {n s:Int} (hk:qer k=false) (hc:CsOk fl cs) (hs:k=.counted→1≤s∧s≤fl.2.2) (h0:k≠.counted→s=0) (n0:0≤n) (n1:n<100) (n2:¬(k=.total∨k=.seen∨k=.counted)→n=0):WfR fl ⟨k,fl,cs,n,s⟩:=
 ⟨rfl,hc,fun h=>(by rw[hk] at h;cases h),fun h=>(by rcases h with h | h;rw[hk] at h;cases h;exact hs h),fun h=>h0 fun e=>h (.inr e),n0,n1,n2⟩
theorem csU (hf:FOk fl):CsOk fl (qdM (nC fl).toNat):=by
 have n1:=hf.n1
 refine⟨?_,qhR _,fun c hc=>?_⟩
 ·intro e
  have:=qbk (nC fl).toNat
  rw[e] at this
  simp only[List.length_nil] at this
  omega
 ·have:=qeh.mp hc
  exact⟨this.1,by omega⟩
theorem qjh {cs:List Int} (hc:CsOk fl cs):WfR fl ⟨.unlike,fl,cs,0,0⟩:=qf7 rfl hc (fun h=>nomatch h) (fun _=>rfl) (by decide) (by decide) fun _=>rfl
theorem qiP {cs:List Int} (hc:CsOk fl cs):WfR fl ⟨.rising,fl,cs,0,0⟩:=qf7 rfl hc (fun h=>nomatch h) (fun _=>rfl) (by decide) (by decide) fun _=>rfl
theorem qpc {cs:List Int} {n:Int} (hc:CsOk fl cs) (n0:0≤n) (n1:n<100):WfR fl ⟨.total,fl,cs,n,0⟩:=qf7 rfl hc (fun h=>nomatch h) (fun _=>rfl) n0 n1 fun h=>absurd (.inl rfl) h
theorem qrD {cs:List Int} {n:Int} (hc:CsOk fl cs) (n0:0≤n) (n1:n<100):WfR fl ⟨.seen,fl,cs,n,0⟩:=qf7 rfl hc (fun h=>nomatch h) (fun _=>rfl) n0 n1 fun h=>absurd (.inr (.inl rfl)) h
theorem qlS {cs:List Int} {n s:Int} (hc:CsOk fl cs) (n0:0≤n) (n1:n<100) (s1:1≤s) (s2:s≤fl.2.2):WfR fl ⟨.counted,fl,cs,n,s⟩:=qf7 rfl hc (fun _=>⟨s1,s2⟩) (fun h=>absurd rfl h) n0 n1 fun h=>absurd (.inr (.inr rfl)) h
theorem qou (hf:FOk fl) {k:RK} {s:Int} (hk:qer k=true) (s1:1≤s) (s2:s≤fl.2.2):WfR fl ⟨k,fl,qdM (nC fl).toNat,0,s⟩:=
 ⟨rfl,csU hf,fun _=>rfl,fun _=>⟨s1,s2⟩,fun h=>absurd (.inl hk) h,Int.le_refl _,(by decide:(0:Int)<100),fun _=>rfl⟩
theorem qtI {k:RK} {cs:List Int} {n s:Int} (hk:qer k=true):qbo ⟨k,fl,cs,n,s⟩=k.w++([32]++dgI s):=by
 have:qbo ⟨k,fl,cs,n,s⟩=qnW k.w [s]:=by
  unfold qbo qfU
  cases k<;>first | rfl | cases hk
 rw[this,qmW _ (by simp)]
 rfl
end
def ThP (k:Nat) (L:List TI):Prop:=L.length≤k∧∀th∈L,th.2.2.2.2.length≤2
theorem ThP.app {k:Nat} {L:List TI} {th:TI} (h:ThP k L) (hl:th.2.2.2.2.length≤2) (hk:k<1000):qfj L th=.ok (L++[th])∧ThP (k+1) (L++[th]):=by
 refine⟨qmk (by have:=h.1;omega),by have:=h.1;rw[List.length_append,List.length_singleton];omega,fun x hx=>?_⟩
 rcases List.mem_append.mp hx with q | q
 ·exact h.2 x q
 ·rw[List.mem_singleton.mp q];exact hl
theorem ThP.mono {k j:Nat} {L:List TI} (h:ThP k L) (hk:k≤j):ThP j L:=⟨by have:=h.1;omega,h.2⟩
end Cm
namespace Cm
def quJ (k:KK) (p:PuzT) (th:TI):Prop:=match k with
 |.place=>∃r,qd5 p th.2.1=some r
 |.count=>∃r,qd5 p th.2.1=some r
 |.sums=>∃r,qd5 p th.2.1=some r
 |.ways=>∃r,qd5 p th.2.1=some r
 |.step=>∃r,qd5 p th.2.1=some r∧th.2.2.1∈r.cells
 |.square=>th.2.2.2.2≠[]
 |_=>True
theorem qrn {fl:Int × Int × Int} {os:List Int} {k:Nat} (hp:os.Perm (qdM (nC fl).toNat)) (n1:1≤nC fl) (hk:1≤k):CsOk fl (os.take k):=by
 have nd:=hp.nodup_iff.mpr (qhR _)
 have ol:=hp.length_eq
 rw[qbk] at ol
 refine⟨?_,nd.sublist (List.take_sublist _ _),fun c hc=>?_⟩
 ·intro e
  have:=congrArg List.length e
  rw[List.length_take,List.length_nil] at this
  omega
 ·have:=qeh.mp (hp.mem_iff.mp (List.mem_of_mem_take hc))
  exact⟨this.1,by omega⟩
end Cm
namespace Cm
def zc (cs:List Int):Nat:=cs.count 0
def qub (s:Int):List (Int × Int)→Int→List Int
 |[],_=>[]
 |p::r,i=>(if p.1=0 then 1+(p.2+i / s ^ zc (r.map Prod.fst)) % s else p.1)::qub s r i
def quT (s:Int):List (Int × Int)→List Int→Prop
 |[],[]=>True
 |p::r,x::g=>(if p.1=0 then 1≤x∧x≤s else x=p.1)∧quT s r g
 |_,_=>False
def qu2 (s:Int):List (Int × Int)→List Int→Int
 |p::r,x::g=>(if p.1=0 then (x - 1 - p.2) % s*s ^ zc (r.map Prod.fst) else 0)+qu2 s r g
 |_,_=>0
section
variable {s:Int}
end
def mtB (p:PuzT) (g:List Int):Bool:=match F.Puzzle_meets p g with
 |.ok b=>b
 |_=>false
def nFl (p:PuzT):Int:=p.ground.2.2 ^ zc p.clues
def flo (p:PuzT) (st:List Int):List (List Int):=(qdM (nFl p).toNat).map (qub p.ground.2.2 (p.clues.zip st))
section
variable {p:PuzT}
def qvS (p:PuzT) (st:List Int):List (List Int):=(flo p st).filter (mtB p)
end
end Cm
namespace Cm
section
variable {p:PuzT} {ms:List Int} {c s:Int}
def quL (L:List (List Int)):Prop:=L.length≤300∧∀m∈L,m.length≤2
def MSg (fl:Int × Int × Int) (ms:List Int):Prop:=∀m∈ms,m<((2 ^ fl.2.2.toNat:Nat):Int)
def quD (p:PuzT) (ms:List Int) (k:KK) (n c s:Int):List (List Int):=match F.m_mores k p ms (qd5 p n) c s with
 |.ok L=>L
 |_=>[]
noncomputable def qua (p:PuzT) (ms:List Int) (k:KK) (n c:Int):Option TI:=(sgn (gI ms c)).findSome? fun s=>(quD p ms k n c s).findSome? fun m=>if alB p ms (k.w,n,c,s,m)=true then some (k.w,n,c,s,m) else none
end
end Cm
namespace Cm
section
variable {p:PuzT} {ms:List Int}
def quw (ws:List (List Nat)):List KK:=qm8.filter fun k=>decide (k.w∈ws)
def qsr:KK→RK→Bool
 |.only,k=>decide (k=.unlike)
 |.place,k=>decide (k=.unlike)
 |.pair,k=>decide (k=.unlike)
 |.count,k=>decide (k=.counted)
 |.step,k=>decide (k=.rising)
 |.sums,k=>decide (k=.total)
 |.square,k=>decide (k=.nosquare)
 |.reach,k=>decide (k=.joined∨k=.ring)
 |.turn,k=>decide (k=.ring)
 |.clue,_=>true
 |.ways,_=>true
def qvJ (r:RE Bool) (b:Bool):Bool:=match r with
 |.ok c=>c == b
 |_=>false
noncomputable def nK (p:PuzT) (ms:List Int) (k:KK):Option TI:=
 if k=.clue then (qdM (nC p.ground).toNat).findSome? (qua p ms k 0)
 else (qdM p.rules.length).findSome? fun n=>match qd5 p n with
  |some r=>if qsr k r.k=true then (qeS r.cells).findSome? (qua p ms k n) else none
  |none=>none
noncomputable def nT (p:PuzT) (ms:List Int) (ws:List (List Nat)):Option TI:=if 0∈ms then none else (quw ws).findSome? (nK p ms)
end
end Cm
namespace Cm
section
variable {p:PuzT} {ms:List Int}
end
end Cm
namespace Cm
section
variable {fl:Int × Int × Int} {ms:List Int} {c s:Int}
theorem qtS {m:Int} (m0:0≤m) (h:stB m s=true):((2 ^ (s - 1).toNat:Nat):Int)≤m:=by
 unfold stB at h
 have:=Nat.ge_two_pow_of_testBit h
 omega
def stk (ms:List Int) (c s:Int):List Int:=ms.set c.toNat (gI ms c - ((2 ^ (s - 1).toNat:Nat):Int))
theorem qnd (hm:MOk fl ms) (hc:inC fl c) (h:stB (gI ms c) s=true):MOk fl (stk ms c s):=by
 have b:=hm.b hc
 have l:=qtS b.1 h
 have p:=Nat.two_pow_pos (s - 1).toNat
 refine⟨by unfold stk;rw[List.length_set];exact hm.1,fun m hx=>?_⟩
 unfold stk at hx
 rcases List.mem_or_eq_of_mem_set hx with q | q
 ·exact hm.2 m q
 ·rw[q];omega
end
end Cm
namespace Cm
section
variable {p:PuzT} {ms:List Int} {ws:List (List Nat)}
def Nx (p:PuzT) (ws:List (List Nat)) (ms:List Int) (th:TI):Prop:=alB p ms th=true∧stB (gI ms th.2.2.1) th.2.2.2.1=true∧(∃k:KK,th.1=k.w∧k.w∈ws)∧0∉ms
inductive Steps (p:PuzT) (ws:List (List Nat)) (ms:List Int):List TI→List Int→Prop
 |nil:Steps p ws ms [] ms
 |snoc {book:List TI} {left:List Int} {th:TI}:Steps p ws ms book left→nT p left ws=some th→Steps p ws ms (book++[th]) (stk left th.2.2.1 th.2.2.2.1)
def wgt (ms:List Int):Nat:=(ms.map Int.toNat).sum
end
end Cm
namespace Cm
variable {fl:Int × Int × Int} {p:PuzT}
theorem qm0 (hf:FOk fl) {r:RuleT} (hr:WfR fl r):qjo [32] (r.k.w::(qfU r).map dgI)=.ok (qbo r):=by
 have h:=qed hf hr
 have hw:r.k.w.length≤8:=(qe0 _ (qiy r.k)).2.1
 rw[qk4 (b:=8) (fun w hw'=>?_) (by simp;omega)]
 ·rfl
 ·rcases List.mem_cons.mp hw' with q | q
  ·rw[q];exact hw
  ·obtain⟨n,hn,rfl⟩:=List.mem_map.mp q
   have:=qjW (h.2.1 n hn).1 (h.2.1 n hn).2
   omega
theorem qqG (hf:FOk fl) {r:RuleT} (hr:WfR fl r):F.m_told_numbers r=.ok (qfU r):=by
 have h:=(qed hf hr).1
 obtain⟨k,a,b,c,d⟩:=r
 cases k
 case unlike=>rfl
 case rising=>rfl
 case joined=>rfl
 case nosquare=>rfl
 case ring=>rfl
 case total=>exact qfn (by have:((c::b).length)≤18:=h;simp at this ⊢;omega)
 case seen=>exact qfn (by have:((c::b).length)≤18:=h;simp at this ⊢;omega)
 case counted=>exact qfn (by have:((c::d::b).length)≤18:=h;simp at this ⊢;omega)
theorem qkU (hf:FOk fl) {r:RuleT} (hr:WfR fl r):F.Rule_line r=.ok (qbo r):=by
 have h:=qed hf hr
 unfold F.Rule_line
 rw[qrq,qqG hf hr]
 simp only[RE.bind_ok]
 rw[gdl (by omega),qd0 (g:=dgI) fun c hc=>qfA (h.2.1 c hc).1 (h.2.1 c hc).2]
 simp only[RE.bind_ok]
 rw[qfn (by simp;omega)]
 exact qm0 hf hr
theorem qgo (hp:WfP p):F.Puzzle_lines p=.ok (p.rules.map qbo):=by
 unfold F.Puzzle_lines
 simp only[RE.bind_ok]
 rw[gdl (by have:=hp.n;omega),qd0 (g:=qbo) fun r hr=>qkU hp.f (hp.r r hr)]
theorem qon (hp:WfP p) {cl:List Int} (hc:qpe p.ground cl):F.Puzzle_clued p cl=.ok ⟨p.ground,p.rules,cl⟩∧WfP ⟨p.ground,p.rules,cl⟩:=by
 unfold F.Puzzle_clued
 rw[qgo hp]
 simp only[RE.bind_ok]
 exact qpB hp.f rfl hp.n hp.r hc
theorem qqO {s:List Nat} (h:∀c∈s,c<1000):PySem.PyData.strOk ⟨s.toArray⟩=true:=by
 unfold PySem.PyData.strOk
 simp only[List.all_toArray,List.all_eq_true,decide_eq_true_eq]
 intro c hc
 have:=h c hc
 omega
theorem qlf {b s:Nat} (hb:s<b):∀{ws:List (List Nat)},(∀w∈ws,∀c∈w,c<b)→∀c∈TL.joinL [s] ws,c<b
 |[],_=>by simp[TL.joinL]
 |[p],h=>by simpa[TL.joinL] using h p (by simp)
 |p::q::r,h=>by
  intro c hc
  simp only[TL.joinL,List.mem_append,List.mem_cons,List.not_mem_nil,or_false] at hc
  rcases hc with hc | hc | hc
  ·exact h p (by simp) c hc
  ·omega
  ·exact qlf hb (ws:=q::r) (fun w hw=>h w (List.mem_cons_of_mem _ hw)) c hc
theorem qpa:∀w∈wordsL,∀c∈w,c<256:=by decide +kernel
theorem qrO {x:Int} (h0:0≤x) (h1:x<100):∀c∈dgI x,c<256:=fun c hc=>by
 have:=qnF x.toNat (by omega) c hc
 omega
theorem qmd (hf:FOk fl) {r:RuleT} (hr:WfR fl r):∀c∈qbo r,c<256:=by
 have h:=(qed hf hr).2.1
 refine qlf (b:=256) (s:=32) (by decide) fun w hw=>?_
 rcases List.mem_cons.mp hw with rfl | hw
 ·exact qpa _ (qiy r.k)
 ·obtain⟨n,hn,rfl⟩:=List.mem_map.mp hw
  exact qrO (h n hn).1 (h n hn).2
theorem qdN {k:Nat}:∀{xs:List (List Nat)},(∀x∈xs,∀c∈x,c<256)→D.fits (xs.map eS) k=true
 |[],_=>rfl
 |x::xs,h=>by
  rw[List.map_cons,D.fits,qdN fun y hy=>h y (List.mem_cons_of_mem _ hy)]
  show(PySem.PyData.strOk ⟨x.toArray⟩&&true)=true
  rw[qqO fun c hc=>by have:=h x (by simp) c hc;omega];rfl
theorem qje:∀(xs ys:List (List Nat)),D.eqbs (xs.map eS) (ys.map eS)=decide (xs=ys)
 |[],[]=>by simp[D.eqbs]
 |[],_::_=>by simp[D.eqbs]
 |_::_,[]=>by simp[D.eqbs]
 |x::xs,y::ys=>by
  rw[List.map_cons,List.map_cons,D.eqbs,qje xs ys]
  show(decide (x=y)&&_)=_
  by_cases e:x=y
  ·subst e;simp
  ·simp[e]
theorem qnl {xs ys:List (List Nat)} (hx:∀x∈xs,∀c∈x,c<256) (hy:∀x∈ys,∀c∈x,c<256):evC .eq ((eL eS) xs) ((eL eS) ys)=.ok (decide (xs=ys)):=by
 show(if ((D.lst (xs.map eS)).fit 64&&(D.lst (ys.map eS)).fit 64)=true then RE.ok ((D.lst (xs.map eS)).eqb (D.lst (ys.map eS))) else .bad)=_
 rw[if_pos (by simp[D.fit,qdN hx,qdN hy])]
 rw[D.eqb]
 exact congrArg RE.ok (qje xs ys)
theorem qqw {xs ys:List (List Nat)} (hx:∀x∈xs,∀c∈x,c<256) (hy:∀x∈ys,∀c∈x,c<256):evC .ne ((eL eS) xs) ((eL eS) ys)=.ok (!decide (xs=ys)):=by
 have h:=qnl hx hy
 simp only[evC] at h ⊢
 rw[h];rfl
theorem qo4 (hf:FOk fl) {rs:List RuleT} (hr:∀r∈rs,WfR fl r):evC .ne ((eL eS) (rs.map qbo)) ((eL eS) (rs.map qbo))=.ok false:=by
 have h:∀x∈rs.map qbo,∀c∈x,c<256:=fun x hx=>by
  obtain⟨r,hr',rfl⟩:=List.mem_map.mp hx
  exact qmd hf (hr r hr')
 rw[qqw h h];simp
end Cm
namespace Cm
section
variable {p:PuzT} {ms:List Int} {ws:List (List Nat)} {th:TI}
theorem qsV (h:alB p ms th=true):qpL p th.2.2.1 th.2.2.2.1=true∧th.2.2.2.2.length≤2:=by
 unfold alB at h
 split at h
 ·cases h
 ·rename_i k _
  simp only[Bool.and_eq_true] at h
  refine⟨h.1,?_⟩
  have f:=h.2.1
  generalize qd5 p th.2.1=o at f
  cases k<;>unfold qun at f<;>simp only[qmh,qnx,qlp,qk9,qng,qpt,qi9,qla,qmL,qma,qnt,Bool.and_eq_true,decide_eq_true_eq] at f
  case clue=>rw[f.2];simp
  case count=>rw[f.1];simp
  case step=>rw[f.1];simp
  case sums=>rw[f.1];simp
  case ways=>rw[f.1];simp
  all_goals (cases o<;>simp only[Bool.and_eq_true,decide_eq_true_eq] at f<;>try exact absurd f Bool.false_ne_true)
  case h_2.only.some=>omega
  case h_2.place.some=>omega
  case h_2.square.some=>omega
  case h_2.pair.some=>omega
  case h_2.reach.some=>have:=f.2.1;split at this<;>omega
  case h_2.turn.some =>
   have:=f.2
   split at this
   ·rename_i e;rw[e];simp
   ·simp only[Bool.and_eq_true,decide_eq_true_eq] at this;omega
inductive Run (p:PuzT) (ws:List (List Nat)):List TI→List Int→List Int→Prop
 |nil {ms:List Int}:Run p ws [] ms ms
 |cons {ms left:List Int} {th:TI} {ths:List TI}:nT p ms ws=some th→Run p ws ths (stk ms th.2.2.1 th.2.2.2.1) left→Run p ws (th::ths) ms left
theorem Run.app {a b c:List Int} {xs ys:List TI} (h:Run p ws xs a b) (k:Run p ws ys b c):Run p ws (xs++ys) a c:=by
 induction h with
 |nil=>exact k
 |cons nx _ ih=>exact .cons nx (ih k)
theorem Steps.run {book:List TI} {left:List Int} (h:Steps p ws ms book left):Run p ws book ms left:=by
 induction h with
 |nil=>exact .nil
 |snoc _ nx ih=>exact ih.app (.cons nx .nil)
end
end Cm
namespace Cm
section
variable {p:PuzT} {ms:List Int} {ws:List (List Nat)} {fl:Int × Int × Int}
def qr6 (fl:Int × Int × Int):Int:=((2 ^ fl.2.2.toNat:Nat):Int) - 1
def qvr (fl:Int × Int × Int) (v:Int):Int:=if 0<v then ((2 ^ (v - 1).toNat:Nat):Int) else qr6 fl
theorem qle {α:Type} {xs:List α} {i:Nat} {q:Int × α} (h:(qjs xs)[i]? = some q):q.1=i∧xs[i]? = some q.2:=by
 unfold qjs at h
 rw[List.getElem?_map,List.getElem?_zipIdx] at h
 cases e:xs[i]? with
 |none=>rw[e] at h;cases h
 |some x =>
  rw[e] at h
  simp at h
  subst h
  exact⟨rfl,rfl⟩
end
end Cm
namespace Cm
theorem qqr:∀n<100,isI (qmq (dg n)) n=true:=by decide +kernel
theorem int_ok {n:Int} (h0:0≤n) (h1:n<100):qmq (dgI n)=.ok n:=by
 have:=qpA (qqr n.toNat (by omega))
 unfold dgI
 rw[this]
 congr 1
 omega
def trn:Nat→Int × Int × Int × Int→Int × Int × Int × Int
 |0,s=>s
 |n+1,s=>trn n (s.2.1,s.1,s.2.2.2,s.1 - 1 - s.2.2.1)
structure InS (s:Int × Int × Int × Int):Prop where
 h:1≤s.1∧s.1≤6
 w:1≤s.2.1∧s.2.1≤6
 r:0≤s.2.2.1∧s.2.2.1<s.1
 c:0≤s.2.2.2∧s.2.2.2<s.2.1
def spS (fl:Int × Int × Int) (mv c:Int):Int × Int × Int × Int:=trn (mv.fmod 4).toNat (fl.1,fl.2.1,c / fl.2.1,if 3<mv then fl.2.1 - 1 - c % fl.2.1 else c % fl.2.1)
def spF (fl:Int × Int × Int) (mv c:Int):Int:=(spS fl mv c).2.2.1*(spS fl mv c).2.1+(spS fl mv c).2.2.2
def grF (fl:Int × Int × Int) (mv:Int):Int × Int × Int:=if mv.fmod 2=1 then (fl.2.1,fl.1,fl.2.2) else fl
section
variable {fl:Int × Int × Int} {mv:Int}
def qvD (fl:Int × Int × Int) (sg:List Int):Prop:=sg.Perm (qho 1 (fl.2.2+1))
def qvK (fl:Int × Int × Int) (mv:Int) (sg:List Int) (r:RuleT):RuleT:=match r.k with
 |.unlike=>⟨.unlike,grF fl mv,r.cells.map (spF fl mv),0,0⟩
 |.rising=>⟨.rising,grF fl mv,r.cells.map (spF fl mv),0,0⟩
 |.total=>⟨.total,grF fl mv,r.cells.map (spF fl mv),r.wanted,0⟩
 |.seen=>⟨.seen,grF fl mv,r.cells.map (spF fl mv),r.wanted,0⟩
 |.counted=>⟨.counted,grF fl mv,r.cells.map (spF fl mv),r.wanted,gI sg (r.sign - 1)⟩
 |.joined=>⟨.joined,grF fl mv,qdM (nC (grF fl mv)).toNat,0,gI sg (r.sign - 1)⟩
 |.nosquare=>⟨.nosquare,grF fl mv,qdM (nC (grF fl mv)).toNat,0,gI sg (r.sign - 1)⟩
 |.ring=>⟨.ring,grF fl mv,qdM (nC (grF fl mv)).toNat,0,gI sg (r.sign - 1)⟩
variable {r:RuleT} {sg:List Int}
def rcK:RK→Bool
 |.total=>true
 |.rising=>true
 |.seen=>true
 |_=>false
end
end Cm
namespace Cm
section
variable {p:PuzT}
inductive Fol (p:PuzT):List TI→List Int→List Int→Prop
 |nil {ms:List Int}:Fol p [] ms ms
 |cons {ms left:List Int} {th:TI} {ths:List TI}:alB p ms th=true→stB (gI ms th.2.2.1) th.2.2.2.1=true→0∉ms→(∃k:KK,th.1=k.w)→Fol p ths (stk ms th.2.2.1 th.2.2.2.1) left→Fol p (th::ths) ms left
theorem Fol.app {xs ys:List TI} {a b c:List Int} (h:Fol p xs a b) (k:Fol p ys b c):Fol p (xs++ys) a c:=by
 induction h with
 |nil=>exact k
 |cons h1 h2 h3 h4 _ ih=>exact .cons h1 h2 h3 h4 (ih k)
theorem Fol.ok {xs:List TI} {a b:List Int} (h:Fol p xs a b) (hm:MOk p.ground a):MOk p.ground b:=by
 induction h with
 |nil=>exact hm
 |cons h1 h2 h3 _ _ ih=>exact ih (qnd hm (qk2.mp (qsV h1).1).1 h2)
theorem qp9 (k:KK):¬k.w=[115,117,112,112,111,115,101]:=by cases k<;>decide
end
end Cm
namespace Cm
abbrev THT:Type:=List Nat × Int × Int × Int × List D
def qvO (fo:PuzT→List Int→THT→RE (Option (List Int))) (ae:PuzT) (ak:List Int) (aM:List D):RE (Option (List Int)):=
 (RE.ok (ak:List Int)).bind fun am=>Fl.bR ((qbp (List.length aM:Int)).bind fun y41=>qb8 (fun(aB:Int) (s17:List Int)=>((atE aM aB).bind fun ag=>(F.clashes s17).bind fun k18=>if k18=true then (RE.ok (.rt (none:Option (List Int)))) else (((((RE.ok ae).bind fun x20=>(dTH ag).bind fun x21=>F.is_in_bounds x20 x21).bind fun x22=>RE.ok (!x22)).bind fun k26=>if k26=true then RE.ok true else ((RE.ok ae).bind fun x23=>(RE.ok s17).bind fun x24=>(dTH ag).bind fun x25=>F.is_standing x23 x24 x25)).bind fun k27=>if k27=true then (((RE.ok ae).bind fun x28=>(RE.ok s17).bind fun x29=>(dTH ag).bind fun x30=>fo x28 x29 x30).bind fun bp=>(RE.ok bp.isSome).bind fun k31=>if k31=true then ((((unO bp).bind fun x33=>qf2 [aB] x33).bind fun x34=>RE.ok ((some) x34)).bind fun x35=>RE.ok (.rt x35)) else (((RE.ok s17).bind fun x36=>((qkW ag 2).bind dI).bind fun x37=>((qkW ag 3).bind dI).bind fun x38=>F.struck x36 x37 x38).bind fun am=>RE.ok (.nx am))) else (RE.ok (.nx s17))):RE (Fl (Option (List Int)) (List Int)))) y41 am) fun(p39:List Int)=>(F.clashes p39).bind fun k40=>if k40=true then (RE.ok (none:Option (List Int))) else (RE.ok (some []))
def qvM (fi:PuzT→List Int→List D→RE (Option (List Int))) (ae:PuzT) (ak:List Int) (ag:THT):RE (Option (List Int)):=
 (RE.ok (!decide (ag.1=([115,117,112,112,111,115,101])))).bind fun k1=>if k1=true then ((F.allowed ae ak ag).bind fun k2=>if k2=true then (RE.ok (none:Option (List Int))) else (RE.ok (some []))) else (((RE.ok (!decide (ag.2.1=0))).bind fun k5=>if k5=true then RE.ok true else (((F.is_in_bounds ae ag).bind fun x3=>RE.ok (!x3)).bind fun k4=>if k4=true then RE.ok true else (RE.ok (decide ((List.length ag.2.2.2.2:Int)=0))))).bind fun k6=>if k6=true then (RE.ok (some [])) else ((RE.ok (ak:List Int)).bind fun am=>((qto 1 (ag.2.2.2.1 - 1)).bind fun x7=>(RE.ok ag.2.2.1).bind fun x8=>qpO am x8 x7).bind fun am=>fi ae am ag.2.2.2.2))
abbrev SUP:List Nat:=[115,117,112,112,111,115,101]
def fiL (lo:List Int→THT→Bool) (p:PuzT):List D→List Int→Bool
 |[],ms=>decide (0∈ms)
 |d::ds,ms=>if 0∈ms then true else match dTH d with
  |.ok t=>if (qpL p t.2.2.1 t.2.2.2.1 && !stB (gI ms t.2.2.1) t.2.2.2.1)=true then fiL lo p ds ms else if lo ms t=true then fiL lo p ds (stk ms t.2.2.1 t.2.2.2.1) else false
  |_=>false
noncomputable def lb0 (p:PuzT) (ms:List Int) (t:THT):Bool:=match dT5 (dLs dI) t with
 |.ok th=>alB p ms th
 |_=>false
noncomputable def lb (p:PuzT):Nat→List Int→THT→Bool
 |0,ms,t=>lb0 p ms t
 |m+1,ms,t=>if t.1=SUP then (decide (t.2.1=0)&&qpL p t.2.2.1 t.2.2.2.1 && !decide (t.2.2.2.2.length=0)&&fiL (lb p m) p t.2.2.2.2 (ms.set t.2.2.1.toNat ((2 ^ (t.2.2.2.1 - 1).toNat:Nat):Int))) else lb0 p ms t
def PlT (t:THT):Prop:=∃th:TI,t=thD th∧(∃k:KK,th.1=k.w)∧th.2.2.2.2.length≤1000
def Vt:Nat→THT→Prop
 |0,t=>PlT t
 |m+1,t=>PlT t∨(t.1=SUP∧t.2.2.2.2.length≤1000∧∀d∈t.2.2.2.2,∃t',dTH d=.ok t'∧Vt m t')
def qvP (fo:PuzT→List Int→THT→RE (Option (List Int))) (m:Nat):Prop:=∀{p:PuzT},WfP p→∀{ms:List Int},MOk p.ground ms→∀{t:THT},Vt m t→∃o,fo p ms t=.ok o∧o.isNone=lb p m ms t∧∀l,o=some l→l.length≤m
theorem qtW {p:PuzT} {ms:List Int} {th:TI} (m:Nat) (hk:∃k:KK,th.1=k.w):lb p m ms (thD th)=alB p ms th:=by
 have n:¬(thD th).1=SUP:=by
  obtain⟨k,hk⟩:=hk
  show ¬th.1=_
  rw[hk];exact qp9 k
 cases m with
 |zero=>unfold lb lb0;rw[qpq]
 |succ m=>unfold lb;rw[if_neg n];unfold lb0;rw[qpq]
theorem qtT {p:PuzT} {ms:List Int} {m:Nat} {t:THT} (hv:Vt m t) (h:lb p m ms t=true):qpL p t.2.2.1 t.2.2.2.1=true:=by
 have pl:∀m,PlT t→lb p m ms t=true→qpL p t.2.2.1 t.2.2.2.1=true:=fun m ⟨th,e,hk,_⟩ h=>by
  subst e
  rw[qtW m hk] at h
  exact(qsV h).1
 cases m with
 |zero=>exact pl 0 hv h
 |succ m =>
  rcases hv with hv | ⟨e,_,_⟩
  ·exact pl _ hv h
  ·unfold lb at h
   rw[if_pos e] at h
   simp only[Bool.and_eq_true] at h
   exact h.1.1.2
section
variable {p:PuzT} {fo:PuzT→List Int→THT→RE (Option (List Int))} {m:Nat}
def quG (fo:PuzT→List Int→THT→RE (Option (List Int))) (p:PuzT) (book:List D):Int→List Int→RE (Fl (Option (List Int)) (List Int)):=(fun(aB:Int) (s17:List Int)=>((atE book aB).bind fun ag=>(F.clashes s17).bind fun k18=>if k18=true then (RE.ok (.rt (none:Option (List Int)))) else (((((RE.ok p).bind fun x20=>(dTH ag).bind fun x21=>F.is_in_bounds x20 x21).bind fun x22=>RE.ok (!x22)).bind fun k26=>if k26=true then RE.ok true else ((RE.ok p).bind fun x23=>(RE.ok s17).bind fun x24=>(dTH ag).bind fun x25=>F.is_standing x23 x24 x25)).bind fun k27=>if k27=true then (((RE.ok p).bind fun x28=>(RE.ok s17).bind fun x29=>(dTH ag).bind fun x30=>fo x28 x29 x30).bind fun bp=>(RE.ok bp.isSome).bind fun k31=>if k31=true then ((((unO bp).bind fun x33=>qf2 [aB] x33).bind fun x34=>RE.ok ((some) x34)).bind fun x35=>RE.ok (.rt x35)) else (((RE.ok s17).bind fun x36=>((qkW ag 2).bind dI).bind fun x37=>((qkW ag 3).bind dI).bind fun x38=>F.struck x36 x37 x38).bind fun am=>RE.ok (.nx am))) else (RE.ok (.nx s17))):RE (Fl (Option (List Int)) (List Int))))
end
end Cm
namespace Cm
section
variable {p:PuzT}
def Le (a b:List Int):Prop:=∀d,Sb (gI a d) (gI b d)
def qvU (p:PuzT) (lo:List Int→THT→Bool) (V:THT→Prop):Prop:=∀t,V t→∀ms ms',MOk p.ground ms→MOk p.ground ms'→Le ms' ms→lo ms t=true→lo ms' t=true
end
end Cm
namespace Cm
section
variable {p:PuzT}
inductive FolS (p:PuzT):List THT→List Int→List Int→Prop
 |nil {ms:List Int}:FolS p [] ms ms
 |cons {ms left:List Int} {t:THT} {ts:List THT}:Vt 5 t→lb p 5 ms t=true→stB (gI ms t.2.2.1) t.2.2.2.1=true→0∉ms→FolS p ts (stk ms t.2.2.1 t.2.2.2.1) left→FolS p (t::ts) ms left
theorem FolS.app {xs ys:List THT} {a b c:List Int} (h:FolS p xs a b) (k:FolS p ys b c):FolS p (xs++ys) a c:=by
 induction h with
 |nil=>exact k
 |cons h0 h1 h2 h3 _ ih=>exact .cons h0 h1 h2 h3 (ih k)
theorem FolS.ok {xs:List THT} {a b:List Int} (h:FolS p xs a b) (hm:MOk p.ground a):MOk p.ground b:=by
 induction h with
 |nil=>exact hm
 |cons h0 h1 h2 h3 _ ih=>exact ih (qnd hm (qk2.mp (qtT h0 h1)).1 h2)
end
end Cm
namespace Cm
section
variable {p:PuzT} {ms:List Int} {ws:List (List Nat)} {fl:Int × Int × Int}
abbrev KWs (ws:List (List Nat)):Prop:=∀w∈ws,∃k:KK,w=k.w
def thk (p:PuzT) (ms:List Int) (ws:List (List Nat)):List Int × List TI:=match F.think p ms ws with
 |.ok v=>v
 |_=>([],[])
structure Thk (p:PuzT) (ms:List Int) (ws:List (List Nat)):Prop where
 e:F.think p ms ws=.ok (thk p ms ws)
 s:Steps p ws ms (thk p ms ws).2 (thk p ms ws).1
 m:MOk p.ground (thk p ms ws).1
 g:MSg p.ground (thk p ms ws).1
 n:0∈(thk p ms ws).1∨nT p (thk p ms ws).1 ws=none
def qt6 (fl:Int × Int × Int):List Int:=(qdM (nC fl).toNat).map fun _=>qr6 fl
def quW (ms:List Int):Bool:=ms.all fun m=>decide ((sgn m).length=1)
def fb1 (m:Int):Int:=match sgn m with
 |[s]=>s
 |_=>0
def qvp (p:PuzT) (ws:List (List Nat)):Bool:=quW (thk p (qt6 p.ground) ws).1&&mtB p ((thk p (qt6 p.ground) ws).1.map fb1)
mutual
theorem qkX:∀(d:D) (n:Nat),d.fit n=true→d.eqb d=true
 |.non,_,_=>rfl
 |.bl b,_,_=>by simp[D.eqb]
 |.int i,_,_=>by simp[D.eqb]
 |.str s,_,_=>by simp[D.eqb]
 |.lst xs,n,h=>by
  simp only[D.fit,Bool.and_eq_true] at h
  show D.eqbs xs xs=true
  exact qgy xs (n - 1) h.2
 |.tup xs,n,h=>by
  simp only[D.fit,Bool.and_eq_true] at h
  show D.eqbs xs xs=true
  exact qgy xs (n - 1) h.2
 |.ins _ _,_,h=>by simp[D.fit] at h
 |.exc _ _,_,h=>by simp[D.fit] at h
theorem qgy:∀(xs:List D) (n:Nat),D.fits xs n=true→D.eqbs xs xs=true
 |[],_,_=>rfl
 |x::xs,n,h=>by
  simp only[D.fits,Bool.and_eq_true] at h
  show(D.eqb x x&&D.eqbs xs xs)=true
  rw[qkX x n h.1,qgy xs n h.2];rfl
end
mutual
theorem qsj:∀(d:D) (n m:Nat),d.fit n=true→n≤m→d.fit m=true
 |.non,_,_,_,_=>rfl
 |.bl _,_,_,_,_=>rfl
 |.int _,_,_,_,_=>rfl
 |.str _,_,_,h,_=>h
 |.lst xs,n,m,h,hm=>by
  simp only[D.fit,Bool.and_eq_true,decide_eq_true_eq] at h ⊢
  exact⟨by omega,qjT xs (n - 1) (m - 1) h.2 (by omega)⟩
 |.tup xs,n,m,h,hm=>by
  simp only[D.fit,Bool.and_eq_true,decide_eq_true_eq] at h ⊢
  exact⟨by omega,qjT xs (n - 1) (m - 1) h.2 (by omega)⟩
 |.ins _ _,_,_,h,_=>by simp[D.fit] at h
 |.exc _ _,_,_,h,_=>by simp[D.fit] at h
theorem qjT:∀(xs:List D) (n m:Nat),D.fits xs n=true→n≤m→D.fits xs m=true
 |[],_,_,_,_=>rfl
 |x::xs,n,m,h,hm=>by
  simp only[D.fits,Bool.and_eq_true] at h ⊢
  exact⟨qsj x n m h.1 hm,qjT xs n m h.2 hm⟩
end
theorem qhi {d:D} (h:d.fit 64=true):evC .eq d d=.ok true:=by
 show qjH d d=_
 unfold qjH
 split
 ·simp
 ·simp
 ·simp
 ·rw[h];simp only[Bool.and_self,if_true];rw[qkX d 64 h]
theorem qhr {d:D} (h:d.fit 64=true):evC .ne d d=.ok false:=by
 show(qjH d d).bind _=_
 have:=qhi h
 have this:qjH d d=.ok true:=this
 rw[this];rfl
end
end Cm
set_option maxHeartbeats 400000
namespace K19
open Cm
def qkF (av:List Int) (aB:Int):RE Int:=
 (RE.ok (decide (aB<(List.length av:Int)))).bind fun k1=>if k1=true then (atE av aB) else ((RE.ok ((7*aB)+3:Int)).bind fun bg=>((RE.ok (decide (0<(List.length av:Int)))).bind fun k2=>if k2=true then ((((((RE.ok av).bind fun x19=>(qlA aB (List.length av:Int)).bind fun x20=>atE x19 x20).bind fun x21=>RE.ok (Int.fmod x21 1000003)).bind fun x23=>qjX x23 (aB+1)).bind fun x26=>RE.ok (bg+x26)).bind fun bg=>RE.ok bg) else (RE.ok bg)).bind fun(p27:Int)=>((qjX p27 p27).bind fun x28=>RE.ok (Int.fmod x28 999979)).bind fun x30=>RE.ok (x30+(Int.fmod p27 101)))
def qfp (av:List Int):RE (Int × Int × Int):=
 (((qkF av 0).bind fun x1=>RE.ok (Int.fmod x1 6)).bind fun x4=>RE.ok (1+x4)).bind fun aO=>(((qkF av 1).bind fun x7=>((RE.ok 6).bind fun x5=>(qqj 16 aO).bind fun x6=>RE.ok (if x6<x5 then x6 else x5)).bind fun x8=>qlA x7 x8).bind fun x10=>RE.ok (1+x10)).bind fun aS=>(RE.ok aO).bind fun x15=>(RE.ok aS).bind fun x16=>(((qkF av 2).bind fun x11=>RE.ok (Int.fmod x11 6)).bind fun x14=>RE.ok (1+x14)).bind fun x17=>RE.ok (x15,x16,x17)
def qc9 (av:List Int) (a8:Int × Int × Int) (aQ:Int):RE (List Int):=
 ((qjX a8.1 a8.2.1).bind qbp).bind fun x6=>gd (leB x6.length) (lcE (fun(aB:Int)=>(RE.ok true)) (fun(aB:Int)=>(((qkF av (aQ+aB)).bind fun x2=>qlA x2 a8.2.2).bind fun x5=>RE.ok (1+x5))) x6)
def qdx (ac:Int) (a9:Int):RE (List Int):=
 (RE.ok ((Int.fmod ac 1000003)+11:Int)).bind fun aD=>(RE.ok ([]:List Int)).bind fun aj=>((qbp a9).bind fun y15=>qaD (fun(aB:Int) (s7:Int × (List Int))=>((((qjX s7.1 s7.1).bind fun x8=>RE.ok (x8+(3*s7.1))).bind fun x10=>RE.ok (x10+aB)).bind fun x12=>RE.ok (Int.fmod x12 1000003)).bind fun aD=>(qfj s7.2 aD).bind fun aj=>RE.ok (aD,aj)) y15 (aD,aj)).bind fun(p14:Int × (List Int))=>RE.ok p14.2
def qeK (aW:List Int) (a9:Int):RE (List Int):=
 (qbp a9).bind fun am=>(RE.ok ([]:List Int)).bind fun aR=>((qbp a9).bind fun y11=>qaD (fun(aB:Int) (s5:(List Int) × (List Int))=>(((atE aW aB).bind fun x6=>qlA x6 (List.length s5.1:Int)).bind fun x9=>qlB s5.2 s5.1 x9).bind fun p8=>RE.ok (p8.2,p8.1)) y11 (am,aR)).bind fun(p10:(List Int) × (List Int))=>RE.ok p10.2
def qeY (aR:List Int) (aA:List Int) (bh:Bool):RE (List Int):=
 (RE.ok ([]:List Int)).bind fun br=>((qkv 1 7).bind fun y11=>qaD (fun(ah:Int) (s4:List Int)=>((RE.ok aR).bind fun x7=>gd (leB x7.length) (lcE (fun(ac:Int)=>((atE aA ac).bind fun x5=>RE.ok (decide (x5=ah)))) (fun(ac:Int)=>(RE.ok ac)) x7)).bind fun aG=>(qf2 s4 (qeu aG none (some 1))).bind fun br=>RE.ok br) y11 br).bind fun(p8:List Int)=>(RE.ok bh).bind fun k9=>if k9=true then (RE.ok p8) else ((RE.ok aR).bind fun x10=>gd (leB x10.length) (RE.ok (List.filter (fun(ac:Int)=>decide (ac∈p8)) x10)))
def qfQ (aA:List Int) (al:List Int):RE Int:=
 (RE.ok (0:Int)).bind fun bt=>(RE.ok (0:Int)).bind fun a9=>((RE.ok al).bind fun y10=>qaD (fun(ac:Int) (s4:Int × Int)=>(((atE aA ac).bind fun x5=>RE.ok (decide (s4.1<x5))).bind fun k7=>if k7=true then ((atE aA ac).bind fun bt=>(RE.ok (s4.2+1:Int)).bind fun a9=>RE.ok (bt,a9)) else (RE.ok (s4.1,s4.2))).bind fun(p8:Int × Int)=>RE.ok (p8.1,p8.2)) y10 (bt,a9)).bind fun(p9:Int × Int)=>RE.ok p9.2
def qgg (a8:Int × Int × Int) (aA:List Int) (ac:Int):RE (List Nat):=
 (qjX a8.1 a8.2.1).bind fun a9=>(qdx (Int.fdiv ac 8) (a9+3)).bind fun aW=>(qeK aW a9).bind fun aR=>((RE.ok aR).bind fun x6=>(RE.ok none).bind fun x7=>((((atE aW a9).bind fun x1=>qlA x1 a9).bind fun x4=>RE.ok (1+x4)).bind fun x5=>RE.ok (some x5)).bind fun x8=>RE.ok (qeu x6 x7 x8)).bind fun aG=>(((atE aW (a9+1)).bind fun x9=>qlA x9 a8.2.2).bind fun x12=>RE.ok (1+x12)).bind fun ah=>((RE.ok ([0,0,0,1])).bind fun x15=>((atE aW (a9+2)).bind fun x13=>RE.ok (Int.fmod x13 4)).bind fun x16=>atE x15 x16).bind fun bc=>(RE.ok (Int.fmod ac 8:Int)).bind fun aY=>(RE.ok (decide (4<aY))).bind fun k17=>if k17=true then (((atE ([[106,111,105,110,101,100],[110,111,115,113,117,97,114,101],[114,105,110,103]]) (aY - 5)).bind fun x18=>qoX x18 [32]).bind fun x20=>(qkQ ah).bind fun x21=>qoX x20 x21) else ((((evC .isin (eI aY) ((eT2 eI eI) (0,2))).bind fun k22=>if k22=true then (RE.ok (decide (bc=0))) else RE.ok false).bind fun k23=>if k23=true then (((qeY aR aA (decide (aY=2))).bind fun x27=>(RE.ok none).bind fun x28=>(RE.ok (some (List.length aG:Int))).bind fun x29=>RE.ok (qeu x27 x28 x29)).bind fun aG=>RE.ok aG) else (RE.ok aG)).bind fun(p30:List Int)=>(RE.ok ([[117,110,108,105,107,101]]:List (List Nat))).bind fun aN=>((RE.ok (decide (aY=1))).bind fun k31=>if k31=true then (((RE.ok ([115,117,109])).bind fun x44=>(((((RE.ok p30).bind fun x39=>gd (leB x39.length) (lcE (fun(ao:Int)=>(RE.ok true)) (fun(ao:Int)=>(atE aA ao)) x39)).bind fun x40=>RE.ok (List.sum x40)).bind fun x41=>RE.ok (x41+bc)).bind fun x43=>qkQ x43).bind fun x45=>RE.ok [x44,x45]).bind fun aN=>RE.ok aN) else (RE.ok aN)).bind fun(p46:List (List Nat))=>((RE.ok (decide (aY=2))).bind fun k47=>if k47=true then ((RE.ok ([[114,105,115,105,110,103]]:List (List Nat))).bind fun aN=>RE.ok aN) else (RE.ok p46)).bind fun(p48:List (List Nat))=>((RE.ok (decide (aY=3))).bind fun k49=>if k49=true then (((RE.ok ([115,101,101,110])).bind fun x58=>(((qfQ aA p30).bind fun x55=>RE.ok (x55+bc)).bind fun x57=>qkQ x57).bind fun x59=>RE.ok [x58,x59]).bind fun aN=>RE.ok aN) else (RE.ok p48)).bind fun(p60:List (List Nat))=>((RE.ok (decide (aY=4))).bind fun k61=>if k61=true then (((RE.ok ([99,111,117,110,116])).bind fun x79=>(((((RE.ok p30).bind fun x74=>gd (leB x74.length) (lcE (fun(ao:Int)=>((atE aA ao).bind fun x72=>RE.ok (decide (x72=ah)))) (fun(ao:Int)=>(RE.ok ao)) x74)).bind fun x75=>RE.ok (List.length x75:Int)).bind fun x76=>RE.ok (x76+bc)).bind fun x78=>qkQ x78).bind fun x80=>(qkQ ah).bind fun x81=>RE.ok [x79,x80,x81]).bind fun aN=>RE.ok aN) else (RE.ok p60)).bind fun(p82:List (List Nat))=>(RE.ok [32]).bind fun x86=>(((RE.ok p30).bind fun x83=>gd (leB x83.length) (lcE (fun(ao:Int)=>(RE.ok true)) (fun(ao:Int)=>(qkQ ao)) x83)).bind fun x85=>qf2 p82 x85).bind fun x87=>qjo x86 x87)
def qeE (av:List Int) (aA:List Int) (aQ:Int):RE (List Int):=
 (RE.ok (qjs aA)).bind fun x12=>gd (leB x12.length) (lcE (fun(p1:Int × Int)=>(RE.ok true)) (fun(p1:Int × Int)=>((((qkF av (aQ+p1.1)).bind fun x6=>RE.ok (Int.fdiv x6 7)).bind fun x8=>RE.ok (Int.fmod x8 2)).bind fun x11=>qjX p1.2 x11)) x12)
def qdZ (aj:Int):RE Bool:=
 RE.ok (true && !false)
def qnY (ae:PuzT) (a8:Int × Int × Int) (az:List (List Nat)) (aJ:List Int):RE Bool:=
 (F.Puzzle_place ae).bind fun aj=>((RE.ok !true).bind fun k6=>if k6=true then RE.ok true else ((evC .ne ((eT3 eI eI eI) aj) ((eT3 eI eI eI) a8)).bind fun k5=>if k5=true then RE.ok true else (((((RE.ok aj).bind fun p=>RE.ok [p.1,p.2.1,p.2.2]).bind fun x1=>gd (leB x1.length) (lcE (fun(ao:Int)=>(qdZ ao)) (fun(ao:Int)=>(RE.ok ao)) x1)).bind fun x2=>RE.ok (List.length x2:Int)).bind fun x3=>RE.ok (!decide (x3=3))))).bind fun k7=>if k7=true then (RE.ok false) else ((F.Puzzle_lines ae).bind fun b7=>(F.Puzzle_clues ae).bind fun ay=>((RE.ok !true).bind fun k9=>if k9=true then RE.ok true else ((evC .ne ((eL eS) b7) ((eL eS) az)).bind fun k8=>if k8=true then RE.ok true else (RE.ok (!true||(!decide (ay=aJ)))))).bind fun k10=>if k10=true then (RE.ok false) else (((((RE.ok b7).bind fun x11=>gd (leB x11.length) (RE.ok (List.filter (fun(bJ:List Nat)=>true) x11))).bind fun x12=>RE.ok (List.length x12:Int)).bind fun x13=>RE.ok (!decide (x13=(List.length az:Int)))).bind fun k15=>if k15=true then (RE.ok false) else (((((RE.ok ay).bind fun x16=>gd (leB x16.length) (lcE (fun(ah:Int)=>(qdZ ah)) (fun(ah:Int)=>(RE.ok ah)) x16)).bind fun x17=>RE.ok (List.length x17:Int)).bind fun x18=>RE.ok (!decide (x18=(List.length aJ:Int)))).bind fun k20=>if k20=true then (RE.ok false) else ((F.Puzzle_rules ae).bind fun bK=>(RE.ok true).bind fun k24=>if k24=true then (((RE.ok bK).bind fun x21=>gd (leB x21.length) (lcE (fun(ai:RuleT)=>(RE.ok true)) (fun(ai:RuleT)=>(F.Rule_line ai)) x21)).bind fun x22=>evC .eq ((eL eS) x22) ((eL eS) az)) else RE.ok false))))
def qmP (av:List Int):RE Bool:=
 (qfp av).bind fun a8=>(qc9 av a8 20).bind fun aA=>((((qkF av 3).bind fun x1=>RE.ok (Int.fmod x1 13)).bind qbp).bind fun x7=>gd (leB x7.length) (lcE (fun(aB:Int)=>(RE.ok true)) (fun(aB:Int)=>((RE.ok a8).bind fun x4=>(RE.ok aA).bind fun x5=>(qkF av (4+aB)).bind fun x6=>qgg x4 x5 x6)) x7)).bind fun az=>(qeE av aA 36).bind fun aJ=>((RE.ok av).bind fun x8=>(ql7 aA).bind fun x9=>(RE.ok 45).bind fun x10=>qeE x8 x9 x10).bind fun aI=>(((RE.ok (List.map (eS) az)).bind fun x15=>gd (D.flats x15) (((RE.ok (List.map (eI) aJ)).bind fun x13=>gd (D.flats x13) (((RE.ok (List.map (eI) aI)).bind fun x11=>gd (D.flats x11) ((RE.ok ([]:List (List D))).bind fun x12=>RE.ok (x11::x12))).bind fun x14=>RE.ok (x13::x14))).bind fun x16=>RE.ok (x15::x16))).bind fun x46=>gd (leB x46.length) (RE.ok x46)).bind fun aT=>(pkM ((RE.ok a8).bind fun x17=>(atE aT 0).bind fun x18=>((atE aT 1).bind (dLs dI)).bind fun x19=>F.Puzzle_new x17 x18 x19)).bind fun ae=>((pkM (evC .ne ((eL (eL eD)) aT) ((eL (eL eD)) ([(List.map (eS) az),(List.map (eI) aJ),(List.map (eI) aI)])))).bind fun k21=>if k21=true then RE.ok true else ((qnY ae a8 az aJ).bind fun x20=>RE.ok (!x20))).bind fun k22=>if k22=true then (RE.ok false) else ((pkM ((RE.ok ae).bind fun x24=>((atE aT 2).bind (dLs dI)).bind fun x23=>F.Puzzle_clued x24 x23)).bind fun bi=>(qnU aT 0 (eS ([115,117,109,32,48,32,48]))).bind fun aT=>(qot aT 1).bind fun aT=>(qjl aT 2 0 (eI (-1))).bind fun aT=>(((qnY bi a8 az aI).bind fun x25=>RE.ok (!x25)).bind fun k27=>if k27=true then RE.ok true else ((qnY ae a8 az aJ).bind fun x26=>RE.ok (!x26))).bind fun k28=>if k28=true then (RE.ok false) else ((((F.Puzzle_lines ae).bind fun x30=>RE.ok (((eL eS)) x30)).bind fun x33=>((F.Puzzle_clues ae).bind fun x31=>RE.ok (((eL eI)) x31)).bind fun x34=>(((F.Puzzle_rules ae).bind fun x29=>RE.ok (List.length x29:Int)).bind fun x32=>RE.ok ((eI) x32)).bind fun x35=>RE.ok [x33,x34,x35]).bind fun b8=>((F.Puzzle_lines ae).bind fun x36=>(RE.ok []).bind fun x37=>qlP x36 x37).bind fun _=>((F.Puzzle_clues ae).bind fun _=>RE.ok ()).bind fun _=>((F.Puzzle_rules ae).bind fun _=>RE.ok ()).bind fun _=>((F.Puzzle_clues bi).bind fun x38=>(RE.ok 0).bind fun x39=>qlP x38 x39).bind fun _=>((evC .ne ((eL eD) b8) ((eL eD) ([((eL eS) az),((eL eI) aJ),(eI (List.length az:Int))]))).bind fun k41=>if k41=true then RE.ok true else ((qnY ae a8 az aJ).bind fun x40=>RE.ok (!x40))).bind fun k42=>if k42=true then (RE.ok false) else ((qnY bi a8 az aI).bind fun k43=>if k43=true then (evC .eq ((eL eD) b8) ((eL eD) ([((eL eS) az),((eL eI) aJ),(eI (List.length az:Int))]))) else RE.ok false)))
theorem qcA (av:List Int) (aB:Int):Rf (g__law_at [(eL eI) av,eI aB]) (qkF av aB) eI .v true:=by
 have key:∀q0 q1 q2:Sl,SlV false ((eL eI) av) q0→SlV true (eI aB) q1→BR qfd qdR [q0,q1,q2] (qkF av aB) eI .v true:=by
  intro q0 q1 q2 h0 h1;unfold qkF qdR;refine BR.ifR (XT.val (XE.cmpP (XE.var (i:=1) rfl h1) (XE.pri1P (XE.var (i:=0) rfl h0) (qdp _)) (qtx _ _))) ?_ ?_
  ·exact BR.ret (XE.idxFP (XE.var (i:=0) rfl h0) (XE.var (i:=1) rfl h1)) rfl
  refine BR.cons (SN.asg (en:=eI) (fun q2=>[q0,q1,q2]) (XE.binP (XE.binP XE.cint (XE.var (i:=1) rfl h1) (qpu _ _ (qnk rfl))) XE.cint (qct _ _)) rfl fun _=>rfl) ?_;rintro bg _ ⟨q2,rfl,h2⟩;refine BR.cons (S:=(fun(st:Int) ρ=>∃q2,ρ=[q0,q1,q2]∧SlV true (eI st) q2)) (SN.iff (XT.val (XE.cmpP (XE.pri1P (XE.var (i:=0) rfl h0) (qdp _)) XE.cint (qlK _ _))) ?_ ?_) ?_
  ·refine BN.cons (SN.asg (en:=eI) (fun q2=>[q0,q1,q2]) (XE.binL (XE.var (i:=2) rfl h2) (XE.binR (XE.binR (XE.idxF (XE.var (i:=0) rfl h0) (XE.binP (XE.var (i:=1) rfl h1) (XE.pri1P (XE.var (i:=0) rfl h0) (qdp _)) (qlN _ _))) XE.cint (fun x=>qea x _ rfl)) (XE.binP (XE.var (i:=1) rfl h1) XE.cint (qct _ _)) (fun x=>qjc x _)) (fun y=>qct _ y)) rfl fun _=>rfl) ?_;rintro bg _ ⟨q2,rfl,h2⟩;exact BN.nil ⟨_,rfl,h2⟩
  ·exact BN.nil ⟨_,rfl,h2⟩
  rintro p27 _ ⟨q2,rfl,h2⟩;exact BR.ret (XE.binR (XE.binR (XE.binP (XE.var (i:=2) rfl h2) (XE.var (i:=2) rfl h2) (qjc _ _)) XE.cint (fun x=>qea x _ rfl)) (XE.binP (XE.var (i:=2) rfl h2) XE.cint (qea _ _ rfl)) (fun x=>qct x _)) rfl
 exact Rf.run rfl (key _ _ .non SlV.any SlV.flat)
theorem qjA (av:List Int):Rf (g__law_floor [(eL eI) av]) (qfp av) (eT3 eI eI eI) .v true:=by
 have key:∀q0 q1 q2:Sl,SlV false ((eL eI) av) q0→BR qcJ qb3 [q0,q1,q2] (qfp av) (eT3 eI eI eI) .v true:=by
  intro q0 q1 q2 h0;unfold qfp qb3;refine BR.cons (SN.asg (en:=eI) (fun q1=>[q0,q1,q2]) (XE.binL XE.cint (XE.binR (XE.call2P rfl (XE.var (i:=0) rfl h0) XE.cint (qcA av 0) rfl rfl) XE.cint (fun x=>qea x _ rfl)) (fun y=>qct _ y)) rfl fun _=>rfl) ?_;rintro aO _ ⟨q1,rfl,h1⟩;refine BR.cons (SN.asg (en:=eI) (fun q2=>[q0,q1,q2]) (XE.binL XE.cint (XE.bin (XE.call2P rfl (XE.var (i:=0) rfl h0) XE.cint (qcA av 1) rfl rfl) (XE.pri2 XE.cint (XE.binP XE.cint (XE.var (i:=1) rfl h1) (qt4 _ _)) (fun x y=>qsQ x y)) (fun x y=>qlN x y)) (fun y=>qct _ y)) rfl fun _=>rfl) ?_;rintro aS _ ⟨q2,rfl,h2⟩;exact BR.ret (XE.tup3 (XE.var (i:=1) rfl h1) (XE.var (i:=2) rfl h2) (XE.binL XE.cint (XE.binR (XE.call2P rfl (XE.var (i:=0) rfl h0) XE.cint (qcA av 2) rfl rfl) XE.cint (fun x=>qea x _ rfl)) (fun y=>qct _ y)) rfl) rfl
 exact Rf.run rfl (key _ .non .non SlV.any)
theorem qha (av:List Int) (a8:Int × Int × Int) (aQ:Int):Rf (g__law_filling [(eL eI) av,(eT3 eI eI eI) a8,eI aQ]) (qc9 av a8 aQ) (eL eI) .f true:=by
 have key:∀q0 q1 q2 q3:Sl,SlV false ((eL eI) av) q0→SlV true ((eT3 eI eI eI) a8) q1→SlV true (eI aQ) q2→BR qbD qbe [q0,q1,q2,q3] (qc9 av a8 aQ) (eL eI) .f true:=by
  intro q0 q1 q2 q3 h0 h1 h2;unfold qc9 qbe;exact BR.ret (XE.lc (t0:=true) (fun q3=>[q0,q1,q2,q3]) (XI.rng (XRg.r1 (XE.binP (XE.prtP (x:=a8) (t2:=true) (f:=fun p=>p.1) (en2:=eI) (XE.var (i:=1) rfl h1) (fun _ _=>rfl) (fun _=>.inl rfl)) (XE.prtP (x:=a8) (t2:=true) (f:=fun p=>p.2.1) (en2:=eI) (XE.var (i:=1) rfl h1) (fun _ _=>rfl) (fun _=>.inl rfl)) (qjc _ _)))) (fun _=>.inl rfl) (fun _=>rfl) (fun aB q3 h3=>XTs.nil) (fun aB q3 h3 _=>(XE.binL XE.cint (XE.binR (XE.call2P rfl (XE.var (i:=0) rfl h0) (XE.binP (XE.var (i:=2) rfl h2) (XE.var (i:=3) rfl h3) (qct _ _)) (qcA av (aQ+aB)) rfl rfl) (XE.prtP (x:=a8) (t2:=true) (f:=fun p=>p.2.2) (en2:=eI) (XE.var (i:=1) rfl h1) (fun _ _=>rfl) (fun _=>.inl rfl)) (fun x=>qlN x _)) (fun y=>qct _ y))) rfl) rfl
 exact Rf.run rfl (key _ _ _ .non SlV.any SlV.flat SlV.flat)
theorem qhO (ac:Int) (a9:Int):Rf (g__law_stream [eI ac,eI a9]) (qdx ac a9) (eL eI) .f true:=by
 have key:∀q0 q1 q2 q3 q4:Sl,SlV true (eI ac) q0→SlV true (eI a9) q1→BR qch qbw [q0,q1,q2,q3,q4] (qdx ac a9) (eL eI) .f true:=by
  intro q0 q1 q2 q3 q4 h0 h1;unfold qdx qbw;refine BR.cons (SN.asg (en:=eI) (fun q2=>[q0,q1,q2,q3,q4]) (XE.binP (XE.binP (XE.var (i:=0) rfl h0) XE.cint (qea _ _ rfl)) XE.cint (qct _ _)) rfl fun _=>rfl) ?_;rintro aD _ ⟨q2,rfl,h2⟩;refine BR.cons (SN.own (en:=eI) (fun q3=>[q0,q1,q2,q3,q4]) (XE.lstL XLs.nil) fun _=>rfl) ?_;rintro aj _ ⟨q3,rfl,h3⟩;refine BR.cons (S:=(fun(st:Int × (List Int)) ρ=>∃q2 q3 q4,ρ=[q0,q1,q2,q3,q4]∧SlV true (eI st.1) q2∧SlO true (List.map eI st.2) q3)) (SN.for1 (t0:=true) _ (XI.rng (XRg.r1P (XE.var (i:=1) rfl h1))) (fun _=>.inl rfl) ⟨_,_,_,rfl,h2,h3⟩ ?_) ?_
  ·intro aB s7 ρ1 q4 hS h4;obtain⟨q2,q3,_,rfl,h2,h3⟩:=hS;change BL _ _ [q0,q1,q2,q3,q4] _ _;refine BL.cons (SN.asg (en:=eI) (fun q2=>[q0,q1,q2,q3,q4]) (XE.binR (XE.binR (XE.binR (XE.binP (XE.var (i:=2) rfl h2) (XE.var (i:=2) rfl h2) (qjc _ _)) (XE.binP XE.cint (XE.var (i:=2) rfl h2) (qpu _ _ (qnk rfl))) (fun x=>qct x _)) (XE.var (i:=4) rfl h4) (fun x=>qct x _)) XE.cint (fun x=>qea x _ rfl)) rfl fun _=>rfl) ?_;rintro aD _ ⟨q2,rfl,h2⟩;refine BL.cons (SN.appP (en:=eI) (fun q3=>[q0,q1,q2,q3,q4]) (XE.var (i:=2) rfl h2) rfl rfl h3 (fun _=>rfl)) ?_;rintro aj _ ⟨q3,rfl,h3⟩;exact BL.nil ⟨_,_,_,rfl,h2,h3⟩
  rintro p14 _ ⟨q2,q3,q4,rfl,h2,h3⟩;exact BR.ret (XE.varO (i:=3) rfl h3) rfl
 exact Rf.run rfl (key _ _ .non .non .non SlV.flat SlV.flat)
theorem qi3 (aW:List Int) (a9:Int):Rf (g__law_order [(eL eI) aW,eI a9]) (qeK aW a9) (eL eI) .f true:=by
 have key:∀q0 q1 q2 q3 q4:Sl,SlV false ((eL eI) aW) q0→SlV true (eI a9) q1→BR qcH qbX [q0,q1,q2,q3,q4] (qeK aW a9) (eL eI) .f true:=by
  intro q0 q1 q2 q3 q4 h0 h1;unfold qeK qbX;refine BR.cons (SN.own (en:=eI) (fun q2=>[q0,q1,q2,q3,q4]) (XE.lrng (XRg.r1P (XE.var (i:=1) rfl h1))) fun _=>rfl) ?_;rintro am _ ⟨q2,rfl,h2⟩;refine BR.cons (SN.own (en:=eI) (fun q3=>[q0,q1,q2,q3,q4]) (XE.lstL XLs.nil) fun _=>rfl) ?_;rintro aR _ ⟨q3,rfl,h3⟩;refine BR.cons (S:=(fun(st:(List Int) × (List Int)) ρ=>∃q2 q3 q4,ρ=[q0,q1,q2,q3,q4]∧SlO true (List.map eI st.1) q2∧SlO true (List.map eI st.2) q3)) (SN.for1 (t0:=true) _ (XI.rng (XRg.r1P (XE.var (i:=1) rfl h1))) (fun _=>.inl rfl) ⟨_,_,_,rfl,h2,h3⟩ ?_) ?_
  ·intro aB s5 ρ1 q4 hS h4;obtain⟨q2,q3,_,rfl,h2,h3⟩:=hS;change BL _ _ [q0,q1,q2,q3,q4] _ _;refine BL.cons (SN.apop (en:=eI) (fun q3 q2=>[q0,q1,q2,q3,q4]) rfl rfl h3 rfl h2 (XE.binR (XE.idxFP (XE.var (i:=0) rfl h0) (XE.var (i:=4) rfl h4)) (XE.pri1P (XE.varO (i:=2) rfl h2) (qdp _)) (fun x=>qlN x _)) (fun _ _=>rfl)) ?_;rintro p8 _ ⟨q3,q2,rfl,h3,h2⟩;exact BL.nil ⟨_,_,_,rfl,h2,h3⟩
  rintro p10 _ ⟨q2,q3,q4,rfl,h2,h3⟩;exact BR.ret (XE.varO (i:=3) rfl h3) rfl
 exact Rf.run rfl (key _ _ .non .non .non SlV.any SlV.flat)
theorem qj8 (aR:List Int) (aA:List Int) (bh:Bool):Rf (g__law_kept [(eL eI) aR,(eL eI) aA,eB bh]) (qeY aR aA bh) (eL eI) .n true:=by
 have key:∀q0 q1 q2 q3 q4 q5 q6:Sl,SlV false ((eL eI) aR) q0→SlV false ((eL eI) aA) q1→SlV true (eB bh) q2→BR qds qcl [q0,q1,q2,q3,q4,q5,q6] (qeY aR aA bh) (eL eI) .n true:=by
  intro q0 q1 q2 q3 q4 q5 q6 h0 h1 h2;unfold qeY qcl;refine BR.cons (SN.asg (en:=(eL eI)) (fun q3=>[q0,q1,q2,q3,q4,q5,q6]) (XE.lstL XLs.nil) rfl fun _=>rfl) ?_;rintro br _ ⟨q3,rfl,h3⟩;refine BR.cons (S:=(fun(st:List Int) ρ=>∃q3 q4 q5,ρ=[q0,q1,q2,q3,q4,q5,q6]∧SlV true ((eL eI) st) q3)) (SN.for1 (t0:=true) _ (XI.rng (XRg.r2P XE.cint XE.cint)) (fun _=>.inl rfl) ⟨_,_,_,rfl,h3⟩ ?_) ?_
  ·intro ah s4 ρ1 q4 hS h4;obtain⟨q3,_,q5,rfl,h3⟩:=hS;change BL _ _ [q0,q1,q2,q3,q4,q5,q6] _ _;refine BL.cons (SN.asg (en:=(eL eI)) (fun q5=>[q0,q1,q2,q3,q4,q5,q6]) (XE.lc (t0:=true) (fun q6=>[q0,q1,q2,q3,q4,q5,q6]) (XI.list (XE.var (i:=0) rfl h0) rfl) (fun _=>.inr inferInstance) (fun _=>rfl) (fun ac q6 h6=>(XTs.one (XT.val (XE.cmpR (XE.idxFP (XE.var (i:=1) rfl h1) (XE.var (i:=6) rfl h6)) (XE.var (i:=4) rfl h4) (fun x=>qjv x _))))) (fun ac q6 h6 _=>(XE.var (i:=6) rfl h6)) rfl) rfl fun _=>rfl) ?_;rintro aG _ ⟨q5,rfl,h5⟩;refine BL.cons (SN.asg (en:=(eL eI)) (fun q3=>[q0,q1,q2,q3,q4,q5,q6]) (XE.binP (XE.var (i:=3) rfl h3) (XE.slcP (XE.var (i:=5) rfl h5) XO.nil (XO.oneP XE.cint)) (qhm (en:=eI) _ _)) rfl fun _=>rfl) ?_;rintro br _ ⟨q3,rfl,h3⟩;exact BL.nil ⟨_,_,_,rfl,h3⟩
  rintro p8 _ ⟨q3,q4,q5,rfl,h3⟩;refine BR.ifR (XT.val (XE.var (i:=2) rfl h2)) ?_ ?_
  ·exact(BR.ret (XE.var (i:=3) rfl h3) rfl).weak rfl
  exact(BR.ret ((XE.lc (t0:=true) (fun q6=>[q0,q1,q2,q3,q4,q5,q6]) (XI.list (XE.var (i:=0) rfl h0) rfl) (fun _=>.inr inferInstance) (fun _=>rfl) (fun ac q6 h6=>(XTs.one (XT.val (XE.cmpP (XE.var (i:=6) rfl h6) (XE.var (i:=3) rfl h3) (qtJ _ _))))) (fun ac q6 h6 _=>(XE.var (i:=6) rfl h6)) rfl).cast (qpo _ _)) rfl).weak rfl
 exact Rf.run rfl (key _ _ _ .non .non .non .non SlV.any SlV.any SlV.flat)
theorem qjS (aA:List Int) (al:List Int):Rf (g__law_seen [(eL eI) aA,(eL eI) al]) (qfQ aA al) eI .v true:=by
 have key:∀q0 q1 q2 q3 q4:Sl,SlV false ((eL eI) aA) q0→SlV false ((eL eI) al) q1→BR qdh qcC [q0,q1,q2,q3,q4] (qfQ aA al) eI .v true:=by
  intro q0 q1 q2 q3 q4 h0 h1;unfold qfQ qcC;refine BR.cons (SN.asg (en:=eI) (fun q2=>[q0,q1,q2,q3,q4]) XE.cint rfl fun _=>rfl) ?_;rintro bt _ ⟨q2,rfl,h2⟩;refine BR.cons (SN.asg (en:=eI) (fun q3=>[q0,q1,q2,q3,q4]) XE.cint rfl fun _=>rfl) ?_;rintro a9 _ ⟨q3,rfl,h3⟩;refine BR.cons (S:=(fun(st:Int × Int) ρ=>∃q2 q3 q4,ρ=[q0,q1,q2,q3,q4]∧SlV true (eI st.1) q2∧SlV true (eI st.2) q3)) (SN.for1 (t0:=true) _ (XI.list (XE.var (i:=1) rfl h1) rfl) (fun _=>.inr inferInstance) ⟨_,_,_,rfl,h2,h3⟩ ?_) ?_
  ·intro ac s4 ρ1 q4 hS h4;obtain⟨q2,q3,_,rfl,h2,h3⟩:=hS;change BL _ _ [q0,q1,q2,q3,q4] _ _;refine BL.cons (S:=(fun(st:Int × Int) ρ=>∃q2 q3,ρ=[q0,q1,q2,q3,q4]∧SlV true (eI st.1) q2∧SlV true (eI st.2) q3)) (SN.iff (XT.val (XE.cmpR (XE.idxFP (XE.var (i:=0) rfl h0) (XE.var (i:=4) rfl h4)) (XE.var (i:=2) rfl h2) (fun x=>qlK x _))) ?_ ?_) ?_
   ·refine BN.cons (SN.asg (en:=eI) (fun q2=>[q0,q1,q2,q3,q4]) (XE.idxFP (XE.var (i:=0) rfl h0) (XE.var (i:=4) rfl h4)) rfl fun _=>rfl) ?_;rintro bt _ ⟨q2,rfl,h2⟩;refine BN.cons (SN.asg (en:=eI) (fun q3=>[q0,q1,q2,q3,q4]) (XE.binP (XE.var (i:=3) rfl h3) XE.cint (qct _ _)) rfl fun _=>rfl) ?_;rintro a9 _ ⟨q3,rfl,h3⟩;exact BN.nil ⟨_,_,rfl,h2,h3⟩
   ·exact BN.nil ⟨_,_,rfl,h2,h3⟩
   rintro p8 _ ⟨q2,q3,rfl,h2,h3⟩;exact BL.nil ⟨_,_,_,rfl,h2,h3⟩
  rintro p9 _ ⟨q2,q3,q4,rfl,h2,h3⟩;exact BR.ret (XE.var (i:=3) rfl h3) rfl
 exact Rf.run rfl (key _ _ .non .non .non SlV.any SlV.any)
theorem qkR (a8:Int × Int × Int) (aA:List Int) (ac:Int):Rf (g__law_line [(eT3 eI eI eI) a8,(eL eI) aA,eI ac]) (qgg a8 aA ac) eS .v true:=by
 have key:∀q0 q1 q2 q3 q4 q5 q6 q7 q8 q9 q10 q11:Sl,SlV true ((eT3 eI eI eI) a8) q0→SlV false ((eL eI) aA) q1→SlV true (eI ac) q2→BR qdv qcx [q0,q1,q2,q3,q4,q5,q6,q7,q8,q9,q10,q11] (qgg a8 aA ac) eS .v true:=by
  intro q0 q1 q2 q3 q4 q5 q6 q7 q8 q9 q10 q11 h0 h1 h2;unfold qgg qcx;refine BR.cons (SN.asg (en:=eI) (fun q3=>[q0,q1,q2,q3,q4,q5,q6,q7,q8,q9,q10,q11]) (XE.binP (XE.prtP (x:=a8) (t2:=true) (f:=fun p=>p.1) (en2:=eI) (XE.var (i:=0) rfl h0) (fun _ _=>rfl) (fun _=>.inl rfl)) (XE.prtP (x:=a8) (t2:=true) (f:=fun p=>p.2.1) (en2:=eI) (XE.var (i:=0) rfl h0) (fun _ _=>rfl) (fun _=>.inl rfl)) (qjc _ _)) rfl fun _=>rfl) ?_;rintro a9 _ ⟨q3,rfl,h3⟩;refine BR.cons (SN.asg (en:=(eL eI)) (fun q4=>[q0,q1,q2,q3,q4,q5,q6,q7,q8,q9,q10,q11]) (XE.call2P rfl (XE.binP (XE.var (i:=2) rfl h2) XE.cint (qpF _ _ rfl)) (XE.binP (XE.var (i:=3) rfl h3) XE.cint (qct _ _)) (qhO (Int.fdiv ac 8) (a9+3)) rfl rfl) rfl fun _=>rfl) ?_;rintro aW _ ⟨q4,rfl,h4⟩;refine BR.cons (SN.asg (en:=(eL eI)) (fun q5=>[q0,q1,q2,q3,q4,q5,q6,q7,q8,q9,q10,q11]) (XE.call2P rfl (XE.var (i:=4) rfl h4) (XE.var (i:=3) rfl h3) (qi3 aW a9) rfl rfl) rfl fun _=>rfl) ?_;rintro aR _ ⟨q5,rfl,h5⟩;refine BR.cons (SN.asg (en:=(eL eI)) (fun q6=>[q0,q1,q2,q3,q4,q5,q6,q7,q8,q9,q10,q11]) (XE.slc (XE.var (i:=5) rfl h5) XO.nil (XO.one (XE.binL XE.cint (XE.binR (XE.idxFP (XE.var (i:=4) rfl h4) (XE.var (i:=3) rfl h3)) (XE.var (i:=3) rfl h3) (fun x=>qlN x _)) (fun y=>qct _ y)))) rfl fun _=>rfl) ?_;rintro aG _ ⟨q6,rfl,h6⟩;refine BR.cons (SN.asg (en:=eI) (fun q7=>[q0,q1,q2,q3,q4,q5,q6,q7,q8,q9,q10,q11]) (XE.binL XE.cint (XE.binR (XE.idxFP (XE.var (i:=4) rfl h4) (XE.binP (XE.var (i:=3) rfl h3) XE.cint (qct _ _))) (XE.prtP (x:=a8) (t2:=true) (f:=fun p=>p.2.2) (en2:=eI) (XE.var (i:=0) rfl h0) (fun _ _=>rfl) (fun _=>.inl rfl)) (fun x=>qlN x _)) (fun y=>qct _ y)) rfl fun _=>rfl) ?_;rintro ah _ ⟨q7,rfl,h7⟩;refine BR.cons (SN.asg (en:=eI) (fun q8=>[q0,q1,q2,q3,q4,q5,q6,q7,q8,q9,q10,q11]) (XE.idxF (XE.lstL (en:=eI) (XLs.cons XE.cint rfl (XLs.cons XE.cint rfl (XLs.cons XE.cint rfl (XLs.cons XE.cint rfl XLs.nil))))) (XE.binR (XE.idxFP (XE.var (i:=4) rfl h4) (XE.binP (XE.var (i:=3) rfl h3) XE.cint (qct _ _))) XE.cint (fun x=>qea x _ rfl))) rfl fun _=>rfl) ?_;rintro bc _ ⟨q8,rfl,h8⟩;refine BR.cons (SN.asg (en:=eI) (fun q9=>[q0,q1,q2,q3,q4,q5,q6,q7,q8,q9,q10,q11]) (XE.binP (XE.var (i:=2) rfl h2) XE.cint (qea _ _ rfl)) rfl fun _=>rfl) ?_;rintro aY _ ⟨q9,rfl,h9⟩;refine BR.ifR (XT.val (XE.cmpP (XE.var (i:=9) rfl h9) XE.cint (qlK _ _))) ?_ ?_
  ·exact BR.ret (XE.bin (XE.binR (XE.idxFP (XE.lstL (en:=eS) (XLs.cons XE.cstr rfl (XLs.cons XE.cstr rfl (XLs.cons XE.cstr rfl XLs.nil)))) (XE.binP (XE.var (i:=9) rfl h9) XE.cint (qte _ _))) XE.cstr (fun x=>qpr x _)) (XE.pri1P (XE.var (i:=7) rfl h7) (qkg _)) (fun x y=>qpr x y)) rfl
  refine BR.cons (S:=(fun(st:List Int) ρ=>∃q6,ρ=[q0,q1,q2,q3,q4,q5,q6,q7,q8,q9,q10,q11]∧SlV true ((eL eI) st) q6)) (SN.iff (XT.bop (XTs.and (XT.val (XE.cmpP (XE.var (i:=9) rfl h9) (XE.tup2P XE.cint XE.cint rfl) ((qkH .isin (eI) ((eT2 eI eI))) _ _))) (XTs.one (XT.val (XE.cmpP (XE.var (i:=8) rfl h8) XE.cint (qjv _ _)))))) ?_ ?_) ?_
  ·refine BN.cons (SN.asg (en:=(eL eI)) (fun q6=>[q0,q1,q2,q3,q4,q5,q6,q7,q8,q9,q10,q11]) (XE.slc (XE.call3P rfl (XE.var (i:=5) rfl h5) (XE.var (i:=1) rfl h1) (XE.cmpP (XE.var (i:=9) rfl h9) XE.cint (qjv _ _)) (qj8 aR aA (decide (aY=2))) rfl rfl) XO.nil (XO.oneP (XE.pri1P (XE.var (i:=6) rfl h6) (qdp _)))) rfl fun _=>rfl) ?_;rintro aG _ ⟨q6,rfl,h6⟩;exact BN.nil ⟨_,rfl,h6⟩
  ·exact BN.nil ⟨_,rfl,h6⟩
  rintro p30 _ ⟨q6,rfl,h6⟩;refine BR.cons (SN.asg (en:=(eL eS)) (fun q10=>[q0,q1,q2,q3,q4,q5,q6,q7,q8,q9,q10,q11]) (XE.lstL (en:=eS) (XLs.cons XE.cstr rfl XLs.nil)) rfl fun _=>rfl) ?_;rintro aN _ ⟨q10,rfl,h10⟩;refine BR.cons (S:=(fun(st:List (List Nat)) ρ=>∃q10,ρ=[q0,q1,q2,q3,q4,q5,q6,q7,q8,q9,q10,q11]∧SlV true ((eL eS) st) q10)) (SN.iff (XT.val (XE.cmpP (XE.var (i:=9) rfl h9) XE.cint (qjv _ _))) ?_ ?_) ?_
  ·refine BN.cons (SN.asg (en:=(eL eS)) (fun q10=>[q0,q1,q2,q3,q4,q5,q6,q7,q8,q9,q10,q11]) (XE.cast (m':=(RE.ok ([115,117,109])).bind fun x44=>(((((RE.ok p30).bind fun x39=>gd (leB x39.length) (lcE (fun(ao:Int)=>(RE.ok true)) (fun(ao:Int)=>(atE aA ao)) x39)).bind fun x40=>RE.ok (List.sum x40)).bind fun x41=>RE.ok (x41+bc)).bind fun x43=>qkQ x43).bind fun x45=>RE.ok [x44,x45]) (XE.lstS (F:=fun w=>[w.1,w.2.1]) (en:=eS) (XS.cons XE.cstr (XS.cons (XE.pri1 (XE.binR (XE.pri1 (XE.lc (t0:=true) (fun q11=>[q0,q1,q2,q3,q4,q5,q6,q7,q8,q9,q10,q11]) (XI.list (XE.var (i:=6) rfl h6) rfl) (fun _=>.inl rfl) (fun _=>rfl) (fun ao q11 h11=>XTs.nil) (fun ao q11 h11 _=>(XE.idxFP (XE.var (i:=1) rfl h1) (XE.var (i:=11) rfl h11))) rfl) (fun x=>qtm x)) (XE.var (i:=8) rfl h8) (fun x=>qct x _)) (fun x=>qkg x)) XS.nil)) (fun _=>rfl) rfl) (by simp only[RE.bind_assoc,RE.bind_ok])) rfl fun _=>rfl) ?_;rintro aN _ ⟨q10,rfl,h10⟩;exact BN.nil ⟨_,rfl,h10⟩
  ·exact BN.nil ⟨_,rfl,h10⟩
  rintro p46 _ ⟨q10,rfl,h10⟩;refine BR.cons (S:=(fun(st:List (List Nat)) ρ=>∃q10,ρ=[q0,q1,q2,q3,q4,q5,q6,q7,q8,q9,q10,q11]∧SlV true ((eL eS) st) q10)) (SN.iff (XT.val (XE.cmpP (XE.var (i:=9) rfl h9) XE.cint (qjv _ _))) ?_ ?_) ?_
  ·refine BN.cons (SN.asg (en:=(eL eS)) (fun q10=>[q0,q1,q2,q3,q4,q5,q6,q7,q8,q9,q10,q11]) (XE.lstL (en:=eS) (XLs.cons XE.cstr rfl XLs.nil)) rfl fun _=>rfl) ?_;rintro aN _ ⟨q10,rfl,h10⟩;exact BN.nil ⟨_,rfl,h10⟩
  ·exact BN.nil ⟨_,rfl,h10⟩
  rintro p48 _ ⟨q10,rfl,h10⟩;refine BR.cons (S:=(fun(st:List (List Nat)) ρ=>∃q10,ρ=[q0,q1,q2,q3,q4,q5,q6,q7,q8,q9,q10,q11]∧SlV true ((eL eS) st) q10)) (SN.iff (XT.val (XE.cmpP (XE.var (i:=9) rfl h9) XE.cint (qjv _ _))) ?_ ?_) ?_
  ·refine BN.cons (SN.asg (en:=(eL eS)) (fun q10=>[q0,q1,q2,q3,q4,q5,q6,q7,q8,q9,q10,q11]) (XE.cast (m':=(RE.ok ([115,101,101,110])).bind fun x58=>(((qfQ aA p30).bind fun x55=>RE.ok (x55+bc)).bind fun x57=>qkQ x57).bind fun x59=>RE.ok [x58,x59]) (XE.lstS (F:=fun w=>[w.1,w.2.1]) (en:=eS) (XS.cons XE.cstr (XS.cons (XE.pri1 (XE.binR (XE.call2P rfl (XE.var (i:=1) rfl h1) (XE.var (i:=6) rfl h6) (qjS aA p30) rfl rfl) (XE.var (i:=8) rfl h8) (fun x=>qct x _)) (fun x=>qkg x)) XS.nil)) (fun _=>rfl) rfl) (by simp only[RE.bind_assoc,RE.bind_ok])) rfl fun _=>rfl) ?_;rintro aN _ ⟨q10,rfl,h10⟩;exact BN.nil ⟨_,rfl,h10⟩
  ·exact BN.nil ⟨_,rfl,h10⟩
  rintro p60 _ ⟨q10,rfl,h10⟩;refine BR.cons (S:=(fun(st:List (List Nat)) ρ=>∃q10,ρ=[q0,q1,q2,q3,q4,q5,q6,q7,q8,q9,q10,q11]∧SlV true ((eL eS) st) q10)) (SN.iff (XT.val (XE.cmpP (XE.var (i:=9) rfl h9) XE.cint (qjv _ _))) ?_ ?_) ?_
  ·refine BN.cons (SN.asg (en:=(eL eS)) (fun q10=>[q0,q1,q2,q3,q4,q5,q6,q7,q8,q9,q10,q11]) (XE.cast (m':=(RE.ok ([99,111,117,110,116])).bind fun x79=>(((((RE.ok p30).bind fun x74=>gd (leB x74.length) (lcE (fun(ao:Int)=>((atE aA ao).bind fun x72=>RE.ok (decide (x72=ah)))) (fun(ao:Int)=>(RE.ok ao)) x74)).bind fun x75=>RE.ok (List.length x75:Int)).bind fun x76=>RE.ok (x76+bc)).bind fun x78=>qkQ x78).bind fun x80=>(qkQ ah).bind fun x81=>RE.ok [x79,x80,x81]) (XE.lstS (F:=fun w=>[w.1,w.2.1,w.2.2.1]) (en:=eS) (XS.cons XE.cstr (XS.cons (XE.pri1 (XE.binR (XE.pri1 (XE.lc (t0:=true) (fun q11=>[q0,q1,q2,q3,q4,q5,q6,q7,q8,q9,q10,q11]) (XI.list (XE.var (i:=6) rfl h6) rfl) (fun _=>.inl rfl) (fun _=>rfl) (fun ao q11 h11=>(XTs.one (XT.val (XE.cmpR (XE.idxFP (XE.var (i:=1) rfl h1) (XE.var (i:=11) rfl h11)) (XE.var (i:=7) rfl h7) (fun x=>qjv x _))))) (fun ao q11 h11 _=>(XE.var (i:=11) rfl h11)) rfl) (fun x=>qdp x)) (XE.var (i:=8) rfl h8) (fun x=>qct x _)) (fun x=>qkg x)) (XS.cons (XE.pri1P (XE.var (i:=7) rfl h7) (qkg _)) XS.nil))) (fun _=>rfl) rfl) (by simp only[RE.bind_assoc,RE.bind_ok])) rfl fun _=>rfl) ?_;rintro aN _ ⟨q10,rfl,h10⟩;exact BN.nil ⟨_,rfl,h10⟩
  ·exact BN.nil ⟨_,rfl,h10⟩
  rintro p82 _ ⟨q10,rfl,h10⟩;exact BR.ret (XE.join XE.cstr (XE.binL (XE.var (i:=10) rfl h10) (XE.lc (t0:=true) (fun q11=>[q0,q1,q2,q3,q4,q5,q6,q7,q8,q9,q10,q11]) (XI.list (XE.var (i:=6) rfl h6) rfl) (fun _=>.inl rfl) (fun _=>rfl) (fun ao q11 h11=>XTs.nil) (fun ao q11 h11 _=>(XE.pri1P (XE.var (i:=11) rfl h11) (qkg _))) rfl) (fun y=>qhm (en:=eS) _ y))) rfl
 exact Rf.run rfl (key _ _ _ .non .non .non .non .non .non .non .non .non SlV.flat SlV.any SlV.flat)
theorem qfK (av:List Int) (aA:List Int) (aQ:Int):Rf (g__law_clues [(eL eI) av,(eL eI) aA,eI aQ]) (qeE av aA aQ) (eL eI) .f true:=by
 have key:∀q0 q1 q2 q3 q4:Sl,SlV false ((eL eI) av) q0→SlV false ((eL eI) aA) q1→SlV true (eI aQ) q2→BR qcK qbY [q0,q1,q2,q3,q4] (qeE av aA aQ) (eL eI) .f true:=by
  intro q0 q1 q2 q3 q4 h0 h1 h2;unfold qeE qbY;exact BR.ret (XE.lc2 (t0:=true) (t0':=true) (fun q3 q4=>[q0,q1,q2,q3,q4]) (XI.enumP (XE.var (i:=1) rfl h1)) (fun _=>.inr inferInstance) (fun _=>.inr inferInstance) (fun _ _=>rfl) (fun p1 q3 q4 h3 h4=>XTs.nil) (fun p1 q3 q4 h3 h4 _=>(XE.binL (XE.var (i:=4) rfl h4) (XE.binR (XE.binR (XE.call2P rfl (XE.var (i:=0) rfl h0) (XE.binP (XE.var (i:=2) rfl h2) (XE.var (i:=3) rfl h3) (qct _ _)) (qcA av (aQ+p1.1)) rfl rfl) XE.cint (fun x=>qpF x _ rfl)) XE.cint (fun x=>qea x _ rfl)) (fun y=>qjc _ y))) rfl) rfl
 exact Rf.run rfl (key _ _ _ .non .non SlV.any SlV.any SlV.flat)
theorem ql2 (aO:Int) (aS:Int) (ay:Int):Rf (g_floor_of [eI aO,eI aS,eI ay]) (F.floor_of aO aS ay) (eT3 eI eI eI) .v true:=by
 have key:∀q0 q1 q2:Sl,SlV true (eI aO) q0→SlV true (eI aS) q1→SlV true (eI ay) q2→BR qeb qc7 [q0,q1,q2] (F.floor_of aO aS ay) (eT3 eI eI eI) .v true:=by
  intro q0 q1 q2 h0 h1 h2;unfold F.floor_of qc7;refine BR.ifR (XT.bop (XTs.or (XT.notP (XT.val (XE.chnP XE.cint (XE.var (i:=0) rfl h0) (XE.glo (x:=(6:Int)) rfl rfl) (qfY _ _) (qfY _ _)))) (XTs.or (XT.notP (XT.val (XE.chnP XE.cint (XE.var (i:=1) rfl h1) (XE.glo (x:=(6:Int)) rfl rfl) (qfY _ _) (qfY _ _)))) (XTs.one (XT.val (XE.cmpR (XE.binP (XE.var (i:=0) rfl h0) (XE.var (i:=1) rfl h1) (qjc _ _)) (XE.glo (x:=(16:Int)) rfl rfl) (fun x=>qlK x _))))))) ?_ ?_
  ·exact BR.rse rfl
  refine BR.ifR (XT.notP (XT.val (XE.chnP XE.cint (XE.var (i:=2) rfl h2) (XE.glo (x:=(6:Int)) rfl rfl) (qfY _ _) (qfY _ _)))) ?_ ?_
  ·exact BR.rse rfl
  exact BR.ret (XE.tup3P (XE.var (i:=0) rfl h0) (XE.var (i:=1) rfl h1) (XE.var (i:=2) rfl h2) rfl) rfl
 exact Rf.run rfl (key _ _ _  SlV.flat SlV.flat SlV.flat)
theorem qj1 (aE:List Nat):Rf (g_number_of [eS aE]) (F.number_of aE) eI .v true:=by
 have key:∀q0 q1:Sl,SlV true (eS aE) q0→BR qdl qcn [q0,q1] (F.number_of aE) eI .v true:=by
  intro q0 q1 h0;unfold F.number_of qcn;refine BR.ifR (XT.bop (XTs.or (XT.not (XT.val (XE.chn (f:=fun x y=>decide (x≤y)) (g:=fun x y=>decide (x≤y)) XE.cint (XE.pri1P (XE.var (i:=0) rfl h0) (qpx _)) (XE.glo (x:=(2:Int)) rfl rfl) qfY qfY))) (XTs.one (XT.bop (XTs.and (XT.val (XE.cmpR (XE.idxSP (XE.var (i:=0) rfl h0) XE.cint) XE.cstr (fun x=>qtY x _))) (XTs.one (XT.val (XE.cmpR (XE.pri1P (XE.var (i:=0) rfl h0) (qpx _)) XE.cint (fun x=>qlK x _))))))))) ?_ ?_
  ·exact BR.rse rfl
  refine BR.cons (S:=(fun(st:Unit) ρ=>∃q1,ρ=[q0,q1])) (SN.for1 (t0:=true) _ (XI.str (XE.var (i:=0) rfl h0)) (fun _=>.inl rfl) ⟨_,rfl⟩ ?_) ?_
  ·intro ah s13 ρ1 q1 hS h1;obtain⟨_,rfl⟩:=hS;change BL _ _ [q0,q1] _ _;refine BL.ifE rfl (XT.val (XE.cmpP (XE.var (i:=1) rfl h1) (XE.glo (en:=eS) (x:=[48,49,50,51,52,53,54,55,56,57]) rfl rfl) (qrX _ _))) rfl ?_;exact BL.nil ⟨_,rfl⟩
  rintro p15 _ ⟨q1,rfl⟩;exact BR.ret (XE.pri1P (XE.var (i:=0) rfl h0) (qsv _)) rfl
 exact Rf.run rfl (key _ .non SlV.flat)
theorem qgk (af:Int × Int × Int) (a7:List Int) (aK:Int):Rf (g_sign_told [(eT3 eI eI eI) af,(eL eI) a7,eI aK]) (F.sign_told af a7 aK) eI .v true:=by
 have key:∀q0 q1 q2:Sl,SlV true ((eT3 eI eI eI) af) q0→SlV false ((eL eI) a7) q1→SlV true (eI aK) q2→BR qdr qcm [q0,q1,q2] (F.sign_told af a7 aK) eI .v true:=by
  intro q0 q1 q2 h0 h1 h2;unfold F.sign_told qcm;refine BR.ifR (XT.bop (XTs.or (XT.val (XE.cmpP (XE.var (i:=2) rfl h2) (XE.pri1P (XE.var (i:=1) rfl h1) (qdp _)) (qse _ _))) (XTs.one (XT.not (XT.val (XE.chn (f:=fun x y=>decide (x≤y)) (g:=fun x y=>decide (x≤y)) XE.cint (XE.idxFP (XE.var (i:=1) rfl h1) (XE.var (i:=2) rfl h2)) (XE.prtP (x:=af) (t2:=true) (f:=fun p=>p.2.2) (en2:=eI) (XE.var (i:=0) rfl h0) (fun _ _=>rfl) (fun _=>.inl rfl)) qfY qfY)))))) ?_ ?_
  ·exact BR.rse rfl
  exact BR.ret (XE.idxFP (XE.var (i:=1) rfl h1) (XE.var (i:=2) rfl h2)) rfl
 exact Rf.run rfl (key _ _ _  SlV.flat SlV.any SlV.flat)
theorem qd7 (af:Int × Int × Int):Rf (g_many_cells [(eT3 eI eI eI) af]) (F.many_cells af) eI .v true:=by
 have key:∀q0:Sl,SlV true ((eT3 eI eI eI) af) q0→BR qcP qb2 [q0] (F.many_cells af) eI .v true:=by
  intro q0 h0;unfold F.many_cells qb2;exact BR.ret (XE.binP (XE.prtP (x:=af) (t2:=true) (f:=fun p=>p.1) (en2:=eI) (XE.var (i:=0) rfl h0) (fun _ _=>rfl) (fun _=>.inl rfl)) (XE.prtP (x:=af) (t2:=true) (f:=fun p=>p.2.1) (en2:=eI) (XE.var (i:=0) rfl h0) (fun _ _=>rfl) (fun _=>.inl rfl)) (qjc _ _)) rfl
 exact Rf.run rfl (key _  SlV.flat)
theorem qiT (aw:Int × Int × Int) (al:List Int) (aq:Int) (ax:Int):XR (ini_Joined [(eT3 eI eI eI) aw,(eL eI) al,eI aq,eI ax]) (RE.ok (RuleT.mk .joined aw al aq ax)) fun v fs=>eRule v=.ins 5 fs:=by
 have h1:SlV true ((eT3 eI eI eI) aw) (.val ((eT3 eI eI eI) aw) ((eT3 eI eI eI) aw).flat):=SlV.flat
 have h2:SlV false ((eL eI) al) (.val ((eL eI) al) ((eL eI) al).flat):=SlV.any
 have h3:SlV true (eI aq) (.val (eI aq) (eI aq).flat):=SlV.flat
 have h4:SlV true (eI ax) (.val (eI ax) (eI ax).flat):=SlV.flat
 refine Ini.run (fs:=qaV) (nf:=4) (n:=4) rfl ?_ ?_
 ·show BN _ _ _ ((RE.ok aw).bind fun w_ground=>(RE.ok al).bind fun w_cells=>(RE.ok aq).bind fun w_wanted=>(RE.ok ax).bind fun w_of_sign=>RE.ok (RuleT.mk .joined w_ground w_cells w_wanted w_of_sign)) _
  unfold qaa;refine BN.cons (SN.fset (c:=5) (fs:=[]) (en:=(eT3 eI eI eI)) (XE.var (i:=1) rfl h1) rfl qa3 rfl rfl rfl rfl) ?_;rintro w_ground _ rfl;refine BN.cons (SN.fset (c:=5) (fs:=[(eT3 eI eI eI) w_ground]) (en:=(eL eI)) (XE.pri1P (XE.var (i:=2) rfl h2) (qbm _)) rfl qa3 rfl rfl rfl rfl) ?_;rintro w_cells _ rfl;refine BN.cons (SN.fset (c:=5) (fs:=[(eT3 eI eI eI) w_ground,(eL eI) w_cells]) (en:=eI) (XE.var (i:=3) rfl h3) rfl qa3 rfl rfl rfl rfl) ?_;rintro w_wanted _ rfl;refine BN.cons (SN.fset (c:=5) (fs:=[(eT3 eI eI eI) w_ground,(eL eI) w_cells,eI w_wanted]) (en:=eI) (XE.var (i:=4) rfl h4) rfl qa3 rfl rfl rfl rfl) ?_;rintro w_of_sign _ rfl;exact BN.nil ⟨_,rfl,rfl⟩
 ·intro v e;cases e;rfl
theorem qgJ (aw:Int × Int × Int) (al:List Int) (aq:Int) (ax:Int):XR (ini_NoSquare [(eT3 eI eI eI) aw,(eL eI) al,eI aq,eI ax]) (RE.ok (RuleT.mk .nosquare aw al aq ax)) fun v fs=>eRule v=.ins 6 fs:=by
 have h1:SlV true ((eT3 eI eI eI) aw) (.val ((eT3 eI eI eI) aw) ((eT3 eI eI eI) aw).flat):=SlV.flat
 have h2:SlV false ((eL eI) al) (.val ((eL eI) al) ((eL eI) al).flat):=SlV.any
 have h3:SlV true (eI aq) (.val (eI aq) (eI aq).flat):=SlV.flat
 have h4:SlV true (eI ax) (.val (eI ax) (eI ax).flat):=SlV.flat
 refine Ini.run (fs:=qaV) (nf:=4) (n:=4) rfl ?_ ?_
 ·show BN _ _ _ ((RE.ok aw).bind fun w_ground=>(RE.ok al).bind fun w_cells=>(RE.ok aq).bind fun w_wanted=>(RE.ok ax).bind fun w_of_sign=>RE.ok (RuleT.mk .nosquare w_ground w_cells w_wanted w_of_sign)) _
  unfold qaa;refine BN.cons (SN.fset (c:=6) (fs:=[]) (en:=(eT3 eI eI eI)) (XE.var (i:=1) rfl h1) rfl qa3 rfl rfl rfl rfl) ?_;rintro w_ground _ rfl;refine BN.cons (SN.fset (c:=6) (fs:=[(eT3 eI eI eI) w_ground]) (en:=(eL eI)) (XE.pri1P (XE.var (i:=2) rfl h2) (qbm _)) rfl qa3 rfl rfl rfl rfl) ?_;rintro w_cells _ rfl;refine BN.cons (SN.fset (c:=6) (fs:=[(eT3 eI eI eI) w_ground,(eL eI) w_cells]) (en:=eI) (XE.var (i:=3) rfl h3) rfl qa3 rfl rfl rfl rfl) ?_;rintro w_wanted _ rfl;refine BN.cons (SN.fset (c:=6) (fs:=[(eT3 eI eI eI) w_ground,(eL eI) w_cells,eI w_wanted]) (en:=eI) (XE.var (i:=4) rfl h4) rfl qa3 rfl rfl rfl rfl) ?_;rintro w_of_sign _ rfl;exact BN.nil ⟨_,rfl,rfl⟩
 ·intro v e;cases e;rfl
theorem qlG (aw:Int × Int × Int) (al:List Int) (aq:Int) (ax:Int):XR (ini_Ring [(eT3 eI eI eI) aw,(eL eI) al,eI aq,eI ax]) (RE.ok (RuleT.mk .ring aw al aq ax)) fun v fs=>eRule v=.ins 7 fs:=by
 have h1:SlV true ((eT3 eI eI eI) aw) (.val ((eT3 eI eI eI) aw) ((eT3 eI eI eI) aw).flat):=SlV.flat
 have h2:SlV false ((eL eI) al) (.val ((eL eI) al) ((eL eI) al).flat):=SlV.any
 have h3:SlV true (eI aq) (.val (eI aq) (eI aq).flat):=SlV.flat
 have h4:SlV true (eI ax) (.val (eI ax) (eI ax).flat):=SlV.flat
 refine Ini.run (fs:=qaV) (nf:=4) (n:=4) rfl ?_ ?_
 ·show BN _ _ _ ((RE.ok aw).bind fun w_ground=>(RE.ok al).bind fun w_cells=>(RE.ok aq).bind fun w_wanted=>(RE.ok ax).bind fun w_of_sign=>RE.ok (RuleT.mk .ring w_ground w_cells w_wanted w_of_sign)) _
  unfold qaa;refine BN.cons (SN.fset (c:=7) (fs:=[]) (en:=(eT3 eI eI eI)) (XE.var (i:=1) rfl h1) rfl qa3 rfl rfl rfl rfl) ?_;rintro w_ground _ rfl;refine BN.cons (SN.fset (c:=7) (fs:=[(eT3 eI eI eI) w_ground]) (en:=(eL eI)) (XE.pri1P (XE.var (i:=2) rfl h2) (qbm _)) rfl qa3 rfl rfl rfl rfl) ?_;rintro w_cells _ rfl;refine BN.cons (SN.fset (c:=7) (fs:=[(eT3 eI eI eI) w_ground,(eL eI) w_cells]) (en:=eI) (XE.var (i:=3) rfl h3) rfl qa3 rfl rfl rfl rfl) ?_;rintro w_wanted _ rfl;refine BN.cons (SN.fset (c:=7) (fs:=[(eT3 eI eI eI) w_ground,(eL eI) w_cells,eI w_wanted]) (en:=eI) (XE.var (i:=4) rfl h4) rfl qa3 rfl rfl rfl rfl) ?_;rintro w_of_sign _ rfl;exact BN.nil ⟨_,rfl,rfl⟩
 ·intro v e;cases e;rfl
theorem qjz (af:Int × Int × Int) (aE:List Nat) (a7:List Int):Rf (g_whole_rule [(eT3 eI eI eI) af,eS aE,(eL eI) a7]) (F.whole_rule af aE a7) eRule .v true:=by
 have key:∀q0 q1 q2 q3 q4:Sl,SlV true ((eT3 eI eI eI) af) q0→SlV true (eS aE) q1→SlV false ((eL eI) a7) q2→BR qcY qbW [q0,q1,q2,q3,q4] (F.whole_rule af aE a7) eRule .v true:=by
  intro q0 q1 q2 q3 q4 h0 h1 h2;unfold F.whole_rule qbW;refine BR.ifR (XT.val (XE.cmpP (XE.pri1P (XE.var (i:=2) rfl h2) (qdp _)) XE.cint (qkJ _ _))) ?_ ?_
  ·exact BR.rse rfl
  refine BR.cons (SN.asg (en:=eI) (fun q3=>[q0,q1,q2,q3,q4]) (XE.call3P rfl (XE.var (i:=0) rfl h0) (XE.var (i:=2) rfl h2) XE.cint (qgk af a7 0) rfl rfl) rfl fun _=>rfl) ?_;rintro ah _ ⟨q3,rfl,h3⟩;refine BR.cons (SN.asg (en:=(eL eI)) (fun q4=>[q0,q1,q2,q3,q4]) (XE.lrng (XRg.r1 (XE.call1P rfl (XE.var (i:=0) rfl h0) (qd7 af) rfl rfl))) rfl fun _=>rfl) ?_;rintro al _ ⟨q4,rfl,h4⟩;refine BR.ifR (XT.val (XE.cmpP (XE.var (i:=1) rfl h1) XE.cstr (ql1 _ _))) ?_ ?_
  ·exact BR.ret (XE.new4P rfl (XE.var (i:=0) rfl h0) (XE.var (i:=4) rfl h4) XE.cint (XE.var (i:=3) rfl h3) (qiT _ _ _ _)) rfl
  refine BR.ifR (XT.val (XE.cmpP (XE.var (i:=1) rfl h1) XE.cstr (ql1 _ _))) ?_ ?_
  ·exact BR.ret (XE.new4P rfl (XE.var (i:=0) rfl h0) (XE.var (i:=4) rfl h4) XE.cint (XE.var (i:=3) rfl h3) (qgJ _ _ _ _)) rfl
  exact BR.ret (XE.new4P rfl (XE.var (i:=0) rfl h0) (XE.var (i:=4) rfl h4) XE.cint (XE.var (i:=3) rfl h3) (qlG _ _ _ _)) rfl
 exact Rf.run rfl (key _ _ _ .non .non SlV.flat SlV.flat SlV.any)
theorem qcO (af:Int × Int × Int) (a7:List Int):Rf (g_cells_told [(eT3 eI eI eI) af,(eL eI) a7]) (F.cells_told af a7) (eL eI) .v false:=by
 have key:∀q0 q1:Sl,SlV true ((eT3 eI eI eI) af) q0→SlV false ((eL eI) a7) q1→BR qcX qbU [q0,q1] (F.cells_told af a7) (eL eI) .v false:=by
  intro q0 q1 h0 h1;unfold F.cells_told qbU;refine BR.ifR (XT.bop (XTs.or (XT.val (XE.cmpP (XE.var (i:=1) rfl h1) (XE.lstL XLs.nil) (qr2 _ _))) (XTs.or (XT.val (XE.cmpR (XE.lsetP (XE.var (i:=1) rfl h1)) (XE.pri1P (XE.var (i:=1) rfl h1) (qdp _)) (fun x=>qkJ x _))) (XTs.one (XT.val (XE.cmp (XE.pri1P (XE.var (i:=1) rfl h1) (qsZ _)) (XE.call1P rfl (XE.var (i:=0) rfl h0) (qd7 af) rfl rfl) (fun x y=>qse x y))))))) ?_ ?_
  ·exact BR.rse rfl
  exact BR.ret (XE.var (i:=1) rfl h1) rfl
 exact Rf.run rfl (key _ _  SlV.flat SlV.any)
theorem qju (aw:Int × Int × Int) (al:List Int) (aq:Int) (ax:Int):XR (ini_Unlike [(eT3 eI eI eI) aw,(eL eI) al,eI aq,eI ax]) (RE.ok (RuleT.mk .unlike aw al aq ax)) fun v fs=>eRule v=.ins 0 fs:=by
 have h1:SlV true ((eT3 eI eI eI) aw) (.val ((eT3 eI eI eI) aw) ((eT3 eI eI eI) aw).flat):=SlV.flat
 have h2:SlV false ((eL eI) al) (.val ((eL eI) al) ((eL eI) al).flat):=SlV.any
 have h3:SlV true (eI aq) (.val (eI aq) (eI aq).flat):=SlV.flat
 have h4:SlV true (eI ax) (.val (eI ax) (eI ax).flat):=SlV.flat
 refine Ini.run (fs:=qaV) (nf:=4) (n:=4) rfl ?_ ?_
 ·show BN _ _ _ ((RE.ok aw).bind fun w_ground=>(RE.ok al).bind fun w_cells=>(RE.ok aq).bind fun w_wanted=>(RE.ok ax).bind fun w_of_sign=>RE.ok (RuleT.mk .unlike w_ground w_cells w_wanted w_of_sign)) _
  unfold qaa;refine BN.cons (SN.fset (c:=0) (fs:=[]) (en:=(eT3 eI eI eI)) (XE.var (i:=1) rfl h1) rfl qa3 rfl rfl rfl rfl) ?_;rintro w_ground _ rfl;refine BN.cons (SN.fset (c:=0) (fs:=[(eT3 eI eI eI) w_ground]) (en:=(eL eI)) (XE.pri1P (XE.var (i:=2) rfl h2) (qbm _)) rfl qa3 rfl rfl rfl rfl) ?_;rintro w_cells _ rfl;refine BN.cons (SN.fset (c:=0) (fs:=[(eT3 eI eI eI) w_ground,(eL eI) w_cells]) (en:=eI) (XE.var (i:=3) rfl h3) rfl qa3 rfl rfl rfl rfl) ?_;rintro w_wanted _ rfl;refine BN.cons (SN.fset (c:=0) (fs:=[(eT3 eI eI eI) w_ground,(eL eI) w_cells,eI w_wanted]) (en:=eI) (XE.var (i:=4) rfl h4) rfl qa3 rfl rfl rfl rfl) ?_;rintro w_of_sign _ rfl;exact BN.nil ⟨_,rfl,rfl⟩
 ·intro v e;cases e;rfl
theorem qjL (aw:Int × Int × Int) (al:List Int) (aq:Int) (ax:Int):XR (ini_Rising [(eT3 eI eI eI) aw,(eL eI) al,eI aq,eI ax]) (RE.ok (RuleT.mk .rising aw al aq ax)) fun v fs=>eRule v=.ins 2 fs:=by
 have h1:SlV true ((eT3 eI eI eI) aw) (.val ((eT3 eI eI eI) aw) ((eT3 eI eI eI) aw).flat):=SlV.flat
 have h2:SlV false ((eL eI) al) (.val ((eL eI) al) ((eL eI) al).flat):=SlV.any
 have h3:SlV true (eI aq) (.val (eI aq) (eI aq).flat):=SlV.flat
 have h4:SlV true (eI ax) (.val (eI ax) (eI ax).flat):=SlV.flat
 refine Ini.run (fs:=qaV) (nf:=4) (n:=4) rfl ?_ ?_
 ·show BN _ _ _ ((RE.ok aw).bind fun w_ground=>(RE.ok al).bind fun w_cells=>(RE.ok aq).bind fun w_wanted=>(RE.ok ax).bind fun w_of_sign=>RE.ok (RuleT.mk .rising w_ground w_cells w_wanted w_of_sign)) _
  unfold qaa;refine BN.cons (SN.fset (c:=2) (fs:=[]) (en:=(eT3 eI eI eI)) (XE.var (i:=1) rfl h1) rfl qa3 rfl rfl rfl rfl) ?_;rintro w_ground _ rfl;refine BN.cons (SN.fset (c:=2) (fs:=[(eT3 eI eI eI) w_ground]) (en:=(eL eI)) (XE.pri1P (XE.var (i:=2) rfl h2) (qbm _)) rfl qa3 rfl rfl rfl rfl) ?_;rintro w_cells _ rfl;refine BN.cons (SN.fset (c:=2) (fs:=[(eT3 eI eI eI) w_ground,(eL eI) w_cells]) (en:=eI) (XE.var (i:=3) rfl h3) rfl qa3 rfl rfl rfl rfl) ?_;rintro w_wanted _ rfl;refine BN.cons (SN.fset (c:=2) (fs:=[(eT3 eI eI eI) w_ground,(eL eI) w_cells,eI w_wanted]) (en:=eI) (XE.var (i:=4) rfl h4) rfl qa3 rfl rfl rfl rfl) ?_;rintro w_of_sign _ rfl;exact BN.nil ⟨_,rfl,rfl⟩
 ·intro v e;cases e;rfl
theorem qhY (aw:Int × Int × Int) (al:List Int) (aq:Int) (ax:Int):XR (ini_Counted [(eT3 eI eI eI) aw,(eL eI) al,eI aq,eI ax]) (RE.ok (RuleT.mk .counted aw al aq ax)) fun v fs=>eRule v=.ins 4 fs:=by
 have h1:SlV true ((eT3 eI eI eI) aw) (.val ((eT3 eI eI eI) aw) ((eT3 eI eI eI) aw).flat):=SlV.flat
 have h2:SlV false ((eL eI) al) (.val ((eL eI) al) ((eL eI) al).flat):=SlV.any
 have h3:SlV true (eI aq) (.val (eI aq) (eI aq).flat):=SlV.flat
 have h4:SlV true (eI ax) (.val (eI ax) (eI ax).flat):=SlV.flat
 refine Ini.run (fs:=qaV) (nf:=4) (n:=4) rfl ?_ ?_
 ·show BN _ _ _ ((RE.ok aw).bind fun w_ground=>(RE.ok al).bind fun w_cells=>(RE.ok aq).bind fun w_wanted=>(RE.ok ax).bind fun w_of_sign=>RE.ok (RuleT.mk .counted w_ground w_cells w_wanted w_of_sign)) _
  unfold qaa;refine BN.cons (SN.fset (c:=4) (fs:=[]) (en:=(eT3 eI eI eI)) (XE.var (i:=1) rfl h1) rfl qa3 rfl rfl rfl rfl) ?_;rintro w_ground _ rfl;refine BN.cons (SN.fset (c:=4) (fs:=[(eT3 eI eI eI) w_ground]) (en:=(eL eI)) (XE.pri1P (XE.var (i:=2) rfl h2) (qbm _)) rfl qa3 rfl rfl rfl rfl) ?_;rintro w_cells _ rfl;refine BN.cons (SN.fset (c:=4) (fs:=[(eT3 eI eI eI) w_ground,(eL eI) w_cells]) (en:=eI) (XE.var (i:=3) rfl h3) rfl qa3 rfl rfl rfl rfl) ?_;rintro w_wanted _ rfl;refine BN.cons (SN.fset (c:=4) (fs:=[(eT3 eI eI eI) w_ground,(eL eI) w_cells,eI w_wanted]) (en:=eI) (XE.var (i:=4) rfl h4) rfl qa3 rfl rfl rfl rfl) ?_;rintro w_of_sign _ rfl;exact BN.nil ⟨_,rfl,rfl⟩
 ·intro v e;cases e;rfl
theorem qks (aw:Int × Int × Int) (al:List Int) (aq:Int) (ax:Int):XR (ini_Total [(eT3 eI eI eI) aw,(eL eI) al,eI aq,eI ax]) (RE.ok (RuleT.mk .total aw al aq ax)) fun v fs=>eRule v=.ins 1 fs:=by
 have h1:SlV true ((eT3 eI eI eI) aw) (.val ((eT3 eI eI eI) aw) ((eT3 eI eI eI) aw).flat):=SlV.flat
 have h2:SlV false ((eL eI) al) (.val ((eL eI) al) ((eL eI) al).flat):=SlV.any
 have h3:SlV true (eI aq) (.val (eI aq) (eI aq).flat):=SlV.flat
 have h4:SlV true (eI ax) (.val (eI ax) (eI ax).flat):=SlV.flat
 refine Ini.run (fs:=qaV) (nf:=4) (n:=4) rfl ?_ ?_
 ·show BN _ _ _ ((RE.ok aw).bind fun w_ground=>(RE.ok al).bind fun w_cells=>(RE.ok aq).bind fun w_wanted=>(RE.ok ax).bind fun w_of_sign=>RE.ok (RuleT.mk .total w_ground w_cells w_wanted w_of_sign)) _
  unfold qaa;refine BN.cons (SN.fset (c:=1) (fs:=[]) (en:=(eT3 eI eI eI)) (XE.var (i:=1) rfl h1) rfl qa3 rfl rfl rfl rfl) ?_;rintro w_ground _ rfl;refine BN.cons (SN.fset (c:=1) (fs:=[(eT3 eI eI eI) w_ground]) (en:=(eL eI)) (XE.pri1P (XE.var (i:=2) rfl h2) (qbm _)) rfl qa3 rfl rfl rfl rfl) ?_;rintro w_cells _ rfl;refine BN.cons (SN.fset (c:=1) (fs:=[(eT3 eI eI eI) w_ground,(eL eI) w_cells]) (en:=eI) (XE.var (i:=3) rfl h3) rfl qa3 rfl rfl rfl rfl) ?_;rintro w_wanted _ rfl;refine BN.cons (SN.fset (c:=1) (fs:=[(eT3 eI eI eI) w_ground,(eL eI) w_cells,eI w_wanted]) (en:=eI) (XE.var (i:=4) rfl h4) rfl qa3 rfl rfl rfl rfl) ?_;rintro w_of_sign _ rfl;exact BN.nil ⟨_,rfl,rfl⟩
 ·intro v e;cases e;rfl
theorem qlJ (aw:Int × Int × Int) (al:List Int) (aq:Int) (ax:Int):XR (ini_Seen [(eT3 eI eI eI) aw,(eL eI) al,eI aq,eI ax]) (RE.ok (RuleT.mk .seen aw al aq ax)) fun v fs=>eRule v=.ins 3 fs:=by
 have h1:SlV true ((eT3 eI eI eI) aw) (.val ((eT3 eI eI eI) aw) ((eT3 eI eI eI) aw).flat):=SlV.flat
 have h2:SlV false ((eL eI) al) (.val ((eL eI) al) ((eL eI) al).flat):=SlV.any
 have h3:SlV true (eI aq) (.val (eI aq) (eI aq).flat):=SlV.flat
 have h4:SlV true (eI ax) (.val (eI ax) (eI ax).flat):=SlV.flat
 refine Ini.run (fs:=qaV) (nf:=4) (n:=4) rfl ?_ ?_
 ·show BN _ _ _ ((RE.ok aw).bind fun w_ground=>(RE.ok al).bind fun w_cells=>(RE.ok aq).bind fun w_wanted=>(RE.ok ax).bind fun w_of_sign=>RE.ok (RuleT.mk .seen w_ground w_cells w_wanted w_of_sign)) _
  unfold qaa;refine BN.cons (SN.fset (c:=3) (fs:=[]) (en:=(eT3 eI eI eI)) (XE.var (i:=1) rfl h1) rfl qa3 rfl rfl rfl rfl) ?_;rintro w_ground _ rfl;refine BN.cons (SN.fset (c:=3) (fs:=[(eT3 eI eI eI) w_ground]) (en:=(eL eI)) (XE.pri1P (XE.var (i:=2) rfl h2) (qbm _)) rfl qa3 rfl rfl rfl rfl) ?_;rintro w_cells _ rfl;refine BN.cons (SN.fset (c:=3) (fs:=[(eT3 eI eI eI) w_ground,(eL eI) w_cells]) (en:=eI) (XE.var (i:=3) rfl h3) rfl qa3 rfl rfl rfl rfl) ?_;rintro w_wanted _ rfl;refine BN.cons (SN.fset (c:=3) (fs:=[(eT3 eI eI eI) w_ground,(eL eI) w_cells,eI w_wanted]) (en:=eI) (XE.var (i:=4) rfl h4) rfl qa3 rfl rfl rfl rfl) ?_;rintro w_of_sign _ rfl;exact BN.nil ⟨_,rfl,rfl⟩
 ·intro v e;cases e;rfl
theorem qki (af:Int × Int × Int) (aV:D):Rf (g_read_rule [(eT3 eI eI eI) af,eD aV]) (F.read_rule af aV) eRule .v true:=by
 have key:∀q0 q1 q2 q3 q4 q5 q6 q7:Sl,SlV true ((eT3 eI eI eI) af) q0→SlV false (eD aV) q1→BR qdo qcu [q0,q1,q2,q3,q4,q5,q6,q7] (F.read_rule af aV) eRule .v true:=by
  intro q0 q1 q2 q3 q4 q5 q6 q7 h0 h1;unfold F.read_rule qcu;refine BR.ifR (XT.not (XT.val (XE.isiD (XE.var (i:=1) rfl h1)))) ?_ ?_
  ·exact BR.rse rfl
  refine BR.cons (SN.asg (en:=(eL eS)) (fun q2=>[q0,q1,q2,q3,q4,q5,q6,q7]) (XE.split (XE.dec (f:=dS) (XE.var (i:=1) rfl h1) quX) XE.cstr) rfl fun _=>rfl) ?_;rintro aN _ ⟨q2,rfl,h2⟩;refine BR.cons (SN.asg (en:=eS) (fun q3=>[q0,q1,q2,q3,q4,q5,q6,q7]) (XE.idxFP (XE.var (i:=2) rfl h2) XE.cint) rfl fun _=>rfl) ?_;rintro aE _ ⟨q3,rfl,h3⟩;refine BR.ifR (XT.val (XE.cmpP (XE.var (i:=3) rfl h3) (XE.tupL (en:=eS) (XLs.cons XE.cstr rfl (XLs.cons XE.cstr rfl (XLs.cons XE.cstr rfl (XLs.cons XE.cstr rfl (XLs.cons XE.cstr rfl (XLs.cons XE.cstr rfl (XLs.cons XE.cstr rfl (XLs.cons XE.cstr rfl XLs.nil))))))))) (qrg _ _))) ?_ ?_
  ·exact BR.rse rfl
  refine BR.cons (SN.asg (en:=(eL eI)) (fun q4=>[q0,q1,q2,q3,q4,q5,q6,q7]) (XE.lc (t0:=true) (fun q5=>[q0,q1,q2,q3,q4,q5,q6,q7]) (XI.list (XE.slcP (XE.var (i:=2) rfl h2) (XO.oneP XE.cint) XO.nil) rfl) (fun _=>.inl rfl) (fun _=>rfl) (fun ao q5 h5=>XTs.nil) (fun ao q5 h5 _=>(XE.call1P rfl (XE.var (i:=5) rfl h5) (qj1 ao) rfl rfl)) rfl) rfl fun _=>rfl) ?_;rintro a7 _ ⟨q4,rfl,h4⟩;refine BR.ifR (XT.val (XE.cmpP (XE.var (i:=3) rfl h3) (XE.tupL (en:=eS) (XLs.cons XE.cstr rfl (XLs.cons XE.cstr rfl (XLs.cons XE.cstr rfl XLs.nil)))) (qpp _ _))) ?_ ?_
  ·exact BR.ret (XE.call3P rfl (XE.var (i:=0) rfl h0) (XE.var (i:=3) rfl h3) (XE.var (i:=4) rfl h4) (qjz af aE a7) rfl rfl) rfl
  refine BR.ifR (XT.val (XE.cmpP (XE.var (i:=3) rfl h3) XE.cstr (ql1 _ _))) ?_ ?_
  ·exact BR.ret (XE.new4 rfl (XE.var (i:=0) rfl h0) (XE.call2P rfl (XE.var (i:=0) rfl h0) (XE.var (i:=4) rfl h4) (qcO af a7) rfl rfl) XE.cint XE.cint (fun _ _ _ _=>qju _ _ _ _)) rfl
  refine BR.ifR (XT.val (XE.cmpP (XE.var (i:=3) rfl h3) XE.cstr (ql1 _ _))) ?_ ?_
  ·exact BR.ret (XE.new4 rfl (XE.var (i:=0) rfl h0) (XE.call2P rfl (XE.var (i:=0) rfl h0) (XE.var (i:=4) rfl h4) (qcO af a7) rfl rfl) XE.cint XE.cint (fun _ _ _ _=>qjL _ _ _ _)) rfl
  refine BR.ifR (XT.val (XE.cmpP (XE.var (i:=3) rfl h3) XE.cstr (ql1 _ _))) ?_ ?_
  ·refine BR.cons (SN.asg (en:=eI) (fun q6=>[q0,q1,q2,q3,q4,q5,q6,q7]) (XE.call3P rfl (XE.var (i:=0) rfl h0) (XE.var (i:=4) rfl h4) XE.cint (qgk af a7 1) rfl rfl) rfl fun _=>rfl) ?_;rintro ah _ ⟨q6,rfl,h6⟩;exact BR.ret (XE.new4 rfl (XE.var (i:=0) rfl h0) (XE.call2P rfl (XE.var (i:=0) rfl h0) (XE.slcP (XE.var (i:=4) rfl h4) (XO.oneP XE.cint) XO.nil) (qcO af (qeu a7 (some 2) none)) rfl rfl) (XE.idxFP (XE.var (i:=4) rfl h4) XE.cint) (XE.var (i:=6) rfl h6) (fun _ _ _ _=>qhY _ _ _ _)) rfl
  refine BR.cons (SN.asg (en:=(eL eI)) (fun q7=>[q0,q1,q2,q3,q4,q5,q6,q7]) (XE.call2P rfl (XE.var (i:=0) rfl h0) (XE.slcP (XE.var (i:=4) rfl h4) (XO.oneP XE.cint) XO.nil) (qcO af (qeu a7 (some 1) none)) rfl rfl) rfl fun _=>rfl) ?_;rintro al _ ⟨q7,rfl,h7⟩;refine BR.ifR (XT.val (XE.cmpP (XE.var (i:=3) rfl h3) XE.cstr (ql1 _ _))) ?_ ?_
  ·exact BR.ret (XE.new4 rfl (XE.var (i:=0) rfl h0) (XE.var (i:=7) rfl h7) (XE.idxFP (XE.var (i:=4) rfl h4) XE.cint) XE.cint (fun _ _ _ _=>qks _ _ _ _)) rfl
  exact BR.ret (XE.new4 rfl (XE.var (i:=0) rfl h0) (XE.var (i:=7) rfl h7) (XE.idxFP (XE.var (i:=4) rfl h4) XE.cint) XE.cint (fun _ _ _ _=>qlJ _ _ _ _)) rfl
 exact Rf.run rfl (key _ _ .non .non .non .non .non .non SlV.flat SlV.any)
theorem qiU (af:Int × Int × Int) (au:List Int):Rf (g_is_filling [(eT3 eI eI eI) af,(eL eI) au]) (F.is_filling af au) eB .v true:=by
 have key:∀q0 q1 q2:Sl,SlV true ((eT3 eI eI eI) af) q0→SlV false ((eL eI) au) q1→BR qcG qb4 [q0,q1,q2] (F.is_filling af au) eB .v true:=by
  intro q0 q1 q2 h0 h1;unfold F.is_filling qb4;refine BR.ifR (XT.val (XE.cmpL (XE.pri1P (XE.var (i:=1) rfl h1) (qdp _)) (XE.call1P rfl (XE.var (i:=0) rfl h0) (qd7 af) rfl rfl) (fun y=>qkJ _ y))) ?_ ?_
  ·exact BR.ret XE.cbl rfl
  exact BR.ret (XE.pri1 ((XE.lc (t0:=true) (fun q2=>[q0,q1,q2]) (XI.list (XE.var (i:=1) rfl h1) rfl) (fun _=>.inr inferInstance) (fun _=>rfl) (fun ah q2 h2=>XTs.nil) (fun ah q2 h2 _=>(XE.chnP XE.cint (XE.var (i:=2) rfl h2) (XE.prtP (x:=af) (t2:=true) (f:=fun p=>p.2.2) (en2:=eI) (XE.var (i:=0) rfl h0) (fun _ _=>rfl) (fun _=>.inl rfl)) (qfY _ _) (qfY _ _))) rfl).cast (qsu _ _)) (fun x=>qtt x)) rfl
 exact Rf.run rfl (key _ _ .non SlV.flat SlV.any)
theorem qfP (af:Int × Int × Int) (az:List D) (aF:List Int):XR (ini_Puzzle [(eT3 eI eI eI) af,(eL eD) az,(eL eI) aF]) (F.Puzzle_new af az aF) fun v fs=>ePuz v=.ins 25 fs:=by
 have h1:SlV true ((eT3 eI eI eI) af) (.val ((eT3 eI eI eI) af) ((eT3 eI eI eI) af).flat):=SlV.flat
 have h2:SlV false ((eL eD) az) (.val ((eL eD) az) ((eL eD) az).flat):=SlV.any
 have h3:SlV false ((eL eI) aF) (.val ((eL eI) aF) ((eL eI) aF).flat):=SlV.any
 refine Ini.run (fs:=qda) (nf:=3) (n:=3) rfl ?_ ?_
 ·unfold F.Puzzle_new;unfold qa6;refine BN.ifE rfl (XT.val (XE.cmpP (XE.pri1P (XE.var (i:=1) rfl h1) (qq5 _)) XE.cint (qkJ _ _))) rfl ?_;refine BN.cons (SN.fset (c:=25) (fs:=[]) (en:=(eT3 eI eI eI)) (XE.call3P rfl (XE.prtP (x:=af) (t2:=true) (f:=fun p=>p.1) (en2:=eI) (XE.var (i:=1) rfl h1) (fun _ _=>rfl) (fun _=>.inl rfl)) (XE.prtP (x:=af) (t2:=true) (f:=fun p=>p.2.1) (en2:=eI) (XE.var (i:=1) rfl h1) (fun _ _=>rfl) (fun _=>.inl rfl)) (XE.prtP (x:=af) (t2:=true) (f:=fun p=>p.2.2) (en2:=eI) (XE.var (i:=1) rfl h1) (fun _ _=>rfl) (fun _=>.inl rfl)) (ql2 af.1 af.2.1 af.2.2) rfl rfl) rfl qa3 rfl rfl rfl rfl) ?_;rintro w_ground _ rfl;refine BN.ifE rfl (XT.val (XE.cmpP (XE.pri1P (XE.var (i:=2) rfl h2) (qdp _)) (XE.glo (x:=(12:Int)) rfl rfl) (qlK _ _))) rfl ?_;refine BN.cons (SN.fset (c:=25) (fs:=[(eT3 eI eI eI) w_ground]) (en:=(eL eRule)) (XE.lc (t0:=false) (fun q4=>[.slf 25 [(eT3 eI eI eI) w_ground],.val ((eT3 eI eI eI) af) ((eT3 eI eI eI) af).flat,.val ((eL eD) az) ((eL eD) az).flat,.val ((eL eI) aF) ((eL eI) aF).flat,q4]) (XI.list (XE.var (i:=2) rfl h2) rfl) ht0 (fun _=>rfl) (fun aV q4 h4=>XTs.nil) (fun aV q4 h4 _=>(XE.call2P rfl (XE.sfd (en:=(eT3 eI eI eI)) rfl rfl rfl) (XE.var (i:=4) rfl h4) (qki w_ground aV) rfl rfl)) rfl) rfl qa3 rfl rfl rfl rfl) ?_;rintro w_rule_list _ rfl;refine BN.ifE rfl (XT.not (XT.val (XE.call2P rfl (XE.sfd (en:=(eT3 eI eI eI)) rfl rfl rfl) (XE.var (i:=3) rfl h3) (qiU w_ground aF) rfl rfl))) rfl ?_;refine BN.cons (SN.fset (c:=25) (fs:=[(eT3 eI eI eI) w_ground,(eL eRule) w_rule_list]) (en:=(eL eI)) (XE.pri1P (XE.var (i:=3) rfl h3) (qbm _)) rfl qa3 rfl rfl rfl rfl) ?_;rintro w_clue_list _ rfl;exact BN.nil ⟨_,rfl,rfl⟩
 ·intro v e;rfl
theorem qgS (ab:PuzT):Rf (g_Puzzle_place [ePuz ab]) (F.Puzzle_place ab) (eT3 eI eI eI) .v true:=by
 have key:∀q0:Sl,SlV true (ePuz ab) q0→BR qbH qbf [q0] (F.Puzzle_place ab) (eT3 eI eI eI) .v true:=by
  intro q0 h0;unfold F.Puzzle_place qbf;exact BR.ret (XE.fldFP (x:=ab) (cl:=(fun _=>25)) (fs:=qda) (p:=fun v=>v.ground) (en:=(eT3 eI eI eI)) (XE.var (i:=0) rfl h0) (fun _=>rfl) (by intro v;obtain⟨_,_,_⟩:=v;exact⟨_,rfl,rfl⟩)) rfl
 exact Rf.run rfl (key _  SlV.flat)
theorem qfN (aj:Int):Rf (g__law_whole [eI aj]) (qdZ aj) eB .v true:=by
 have key:∀q0:Sl,SlV true (eI aj) q0→BR qcT qb7 [q0] (qdZ aj) eB .v true:=by
  intro q0 h0;unfold qdZ qb7;exact BR.ret (XE.bop (XV.andP (XE.isiP (f:=fun _=>true) (XE.var (i:=0) rfl h0) (fun _=>rfl)) (XV.one (XE.bnotP (XE.isiP (f:=fun _=>false) (XE.var (i:=0) rfl h0) (fun _=>rfl)))))) rfl
 exact Rf.run rfl (key _  SlV.flat)
theorem qhZ (ab:RuleT):Rf (g_Unlike_name [eRule ab]) (F.Unlike_name ab) eS .v true:=by
 have key:∀q0:Sl,SlV true (eRule ab) q0→BR qce qbv [q0] (F.Unlike_name ab) eS .v true:=by
  intro q0 h0;unfold F.Unlike_name qbv;exact BR.ret XE.cstr rfl
 exact Rf.run rfl (key _  SlV.flat)
theorem qjm (ab:RuleT):Rf (g_Total_name [eRule ab]) (F.Total_name ab) eS .v true:=by
 have key:∀q0:Sl,SlV true (eRule ab) q0→BR qcM qbV [q0] (F.Total_name ab) eS .v true:=by
  intro q0 h0;unfold F.Total_name qbV;exact BR.ret XE.cstr rfl
 exact Rf.run rfl (key _  SlV.flat)
theorem qih (ab:RuleT):Rf (g_Rising_name [eRule ab]) (F.Rising_name ab) eS .v true:=by
 have key:∀q0:Sl,SlV true (eRule ab) q0→BR qcg qby [q0] (F.Rising_name ab) eS .v true:=by
  intro q0 h0;unfold F.Rising_name qby;exact BR.ret XE.cstr rfl
 exact Rf.run rfl (key _  SlV.flat)
theorem qj9 (ab:RuleT):Rf (g_Seen_name [eRule ab]) (F.Seen_name ab) eS .v true:=by
 have key:∀q0:Sl,SlV true (eRule ab) q0→BR qdc qcv [q0] (F.Seen_name ab) eS .v true:=by
  intro q0 h0;unfold F.Seen_name qcv;exact BR.ret XE.cstr rfl
 exact Rf.run rfl (key _  SlV.flat)
theorem qhb (ab:RuleT):Rf (g_Counted_name [eRule ab]) (F.Counted_name ab) eS .v true:=by
 have key:∀q0:Sl,SlV true (eRule ab) q0→BR qbS qbd [q0] (F.Counted_name ab) eS .v true:=by
  intro q0 h0;unfold F.Counted_name qbd;exact BR.ret XE.cstr rfl
 exact Rf.run rfl (key _  SlV.flat)
theorem qhU (ab:RuleT):Rf (g_Joined_name [eRule ab]) (F.Joined_name ab) eS .v true:=by
 have key:∀q0:Sl,SlV true (eRule ab) q0→BR qci qbr [q0] (F.Joined_name ab) eS .v true:=by
  intro q0 h0;unfold F.Joined_name qbr;exact BR.ret XE.cstr rfl
 exact Rf.run rfl (key _  SlV.flat)
theorem qgu (ab:RuleT):Rf (g_NoSquare_name [eRule ab]) (F.NoSquare_name ab) eS .v true:=by
 have key:∀q0:Sl,SlV true (eRule ab) q0→BR qbu qaY [q0] (F.NoSquare_name ab) eS .v true:=by
  intro q0 h0;unfold F.NoSquare_name qaY;exact BR.ret XE.cstr rfl
 exact Rf.run rfl (key _  SlV.flat)
theorem qkh (ab:RuleT):Rf (g_Ring_name [eRule ab]) (F.Ring_name ab) eS .v true:=by
 have key:∀q0:Sl,SlV true (eRule ab) q0→BR qdi qcw [q0] (F.Ring_name ab) eS .v true:=by
  intro q0 h0;unfold F.Ring_name qcw;exact BR.ret XE.cstr rfl
 exact Rf.run rfl (key _  SlV.flat)
theorem qcz (ab:RuleT):Rf (g_Rule_told_numbers [eRule ab]) (F.Rule_told_numbers ab) (eL eI) .f true:=by
 have key:∀q0:Sl,SlV true (eRule ab) q0→BR qaz qao [q0] (F.Rule_told_numbers ab) (eL eI) .f true:=by
  intro q0 h0;unfold F.Rule_told_numbers qao;exact BR.ret (XE.pri1P (XE.fldP (x:=ab) (cl:=(fun r=>r.k.c)) (fs:=qaV) (p:=fun v=>v.cells) (en:=(eL eI)) (XE.var (i:=0) rfl h0) (fun _=>rfl) (by intro v;obtain⟨k,_,_,_,_⟩:=v;cases k<;>exact⟨_,rfl,rfl⟩)) (qbm _)) rfl
 exact Rf.run rfl (key _  SlV.flat)
theorem qei (ab:RuleT):Rf (g_Total_told_numbers [eRule ab]) (F.Total_told_numbers ab) (eL eI) .f false:=by
 have key:∀q0:Sl,SlV true (eRule ab) q0→BR qaN qau [q0] (F.Total_told_numbers ab) (eL eI) .f false:=by
  intro q0 h0;unfold F.Total_told_numbers qau;exact BR.ret (XE.binP (XE.lstL (en:=eI) (XLs.cons (XE.fldFP (x:=ab) (cl:=(fun r=>r.k.c)) (fs:=qaV) (p:=fun v=>v.wanted) (en:=eI) (XE.var (i:=0) rfl h0) (fun _=>rfl) (by intro v;obtain⟨k,_,_,_,_⟩:=v;cases k<;>exact⟨_,rfl,rfl⟩)) rfl XLs.nil)) (XE.fldP (x:=ab) (cl:=(fun r=>r.k.c)) (fs:=qaV) (p:=fun v=>v.cells) (en:=(eL eI)) (XE.var (i:=0) rfl h0) (fun _=>rfl) (by intro v;obtain⟨k,_,_,_,_⟩:=v;cases k<;>exact⟨_,rfl,rfl⟩)) (qhm (en:=eI) _ _)) rfl
 exact Rf.run rfl (key _  SlV.flat)
theorem qeO (ab:RuleT):Rf (g_Seen_told_numbers [eRule ab]) (F.Seen_told_numbers ab) (eL eI) .f false:=by
 have key:∀q0:Sl,SlV true (eRule ab) q0→BR qaT qaF [q0] (F.Seen_told_numbers ab) (eL eI) .f false:=by
  intro q0 h0;unfold F.Seen_told_numbers qaF;exact BR.ret (XE.binP (XE.lstL (en:=eI) (XLs.cons (XE.fldFP (x:=ab) (cl:=(fun r=>r.k.c)) (fs:=qaV) (p:=fun v=>v.wanted) (en:=eI) (XE.var (i:=0) rfl h0) (fun _=>rfl) (by intro v;obtain⟨k,_,_,_,_⟩:=v;cases k<;>exact⟨_,rfl,rfl⟩)) rfl XLs.nil)) (XE.fldP (x:=ab) (cl:=(fun r=>r.k.c)) (fs:=qaV) (p:=fun v=>v.cells) (en:=(eL eI)) (XE.var (i:=0) rfl h0) (fun _=>rfl) (by intro v;obtain⟨k,_,_,_,_⟩:=v;cases k<;>exact⟨_,rfl,rfl⟩)) (qhm (en:=eI) _ _)) rfl
 exact Rf.run rfl (key _  SlV.flat)
theorem qdD (ab:RuleT):Rf (g_Counted_told_numbers [eRule ab]) (F.Counted_told_numbers ab) (eL eI) .f false:=by
 have key:∀q0:Sl,SlV true (eRule ab) q0→BR qaH qal [q0] (F.Counted_told_numbers ab) (eL eI) .f false:=by
  intro q0 h0;unfold F.Counted_told_numbers qal;exact BR.ret (XE.binP (XE.lstL (en:=eI) (XLs.cons (XE.fldFP (x:=ab) (cl:=(fun r=>r.k.c)) (fs:=qaV) (p:=fun v=>v.wanted) (en:=eI) (XE.var (i:=0) rfl h0) (fun _=>rfl) (by intro v;obtain⟨k,_,_,_,_⟩:=v;cases k<;>exact⟨_,rfl,rfl⟩)) rfl (XLs.cons (XE.fldFP (x:=ab) (cl:=(fun r=>r.k.c)) (fs:=qaV) (p:=fun v=>v.sign) (en:=eI) (XE.var (i:=0) rfl h0) (fun _=>rfl) (by intro v;obtain⟨k,_,_,_,_⟩:=v;cases k<;>exact⟨_,rfl,rfl⟩)) rfl XLs.nil))) (XE.fldP (x:=ab) (cl:=(fun r=>r.k.c)) (fs:=qaV) (p:=fun v=>v.cells) (en:=(eL eI)) (XE.var (i:=0) rfl h0) (fun _=>rfl) (by intro v;obtain⟨k,_,_,_,_⟩:=v;cases k<;>exact⟨_,rfl,rfl⟩)) (qhm (en:=eI) _ _)) rfl
 exact Rf.run rfl (key _  SlV.flat)
theorem qd9 (ab:RuleT):Rf (g_Joined_told_numbers [eRule ab]) (F.Joined_told_numbers ab) (eL eI) .f true:=by
 have key:∀q0:Sl,SlV true (eRule ab) q0→BR qaM qap [q0] (F.Joined_told_numbers ab) (eL eI) .f true:=by
  intro q0 h0;unfold F.Joined_told_numbers qap;exact BR.ret (XE.lstL (en:=eI) (XLs.cons (XE.fldFP (x:=ab) (cl:=(fun r=>r.k.c)) (fs:=qaV) (p:=fun v=>v.sign) (en:=eI) (XE.var (i:=0) rfl h0) (fun _=>rfl) (by intro v;obtain⟨k,_,_,_,_⟩:=v;cases k<;>exact⟨_,rfl,rfl⟩)) rfl XLs.nil)) rfl
 exact Rf.run rfl (key _  SlV.flat)
theorem qdq (ab:RuleT):Rf (g_NoSquare_told_numbers [eRule ab]) (F.NoSquare_told_numbers ab) (eL eI) .f true:=by
 have key:∀q0:Sl,SlV true (eRule ab) q0→BR qav qai [q0] (F.NoSquare_told_numbers ab) (eL eI) .f true:=by
  intro q0 h0;unfold F.NoSquare_told_numbers qai;exact BR.ret (XE.lstL (en:=eI) (XLs.cons (XE.fldFP (x:=ab) (cl:=(fun r=>r.k.c)) (fs:=qaV) (p:=fun v=>v.sign) (en:=eI) (XE.var (i:=0) rfl h0) (fun _=>rfl) (by intro v;obtain⟨k,_,_,_,_⟩:=v;cases k<;>exact⟨_,rfl,rfl⟩)) rfl XLs.nil)) rfl
 exact Rf.run rfl (key _  SlV.flat)
theorem qeG (ab:RuleT):Rf (g_Ring_told_numbers [eRule ab]) (F.Ring_told_numbers ab) (eL eI) .f true:=by
 have key:∀q0:Sl,SlV true (eRule ab) q0→BR qaR qaE [q0] (F.Ring_told_numbers ab) (eL eI) .f true:=by
  intro q0 h0;unfold F.Ring_told_numbers qaE;exact BR.ret (XE.lstL (en:=eI) (XLs.cons (XE.fldFP (x:=ab) (cl:=(fun r=>r.k.c)) (fs:=qaV) (p:=fun v=>v.sign) (en:=eI) (XE.var (i:=0) rfl h0) (fun _=>rfl) (by intro v;obtain⟨k,_,_,_,_⟩:=v;cases k<;>exact⟨_,rfl,rfl⟩)) rfl XLs.nil)) rfl
 exact Rf.run rfl (key _  SlV.flat)
theorem qaf (ab:RuleT):Rf (g_Rule_line [eRule ab]) (F.Rule_line ab) eS .v true:=by
 have key:∀q0 q1:Sl,SlV true (eRule ab) q0→BR qaB qat [q0,q1] (F.Rule_line ab) eS .v true:=by
  intro q0 q1 h0;unfold F.Rule_line qat;exact BR.ret (XE.join XE.cstr (XE.bin (XE.cast (m':=(F.m_name ab).bind fun x1=>RE.ok [x1]) (XE.lstS (F:=fun w=>[w.1]) (en:=eS) (XS.cons (XE.mth0P (F:=fun r=>F.m_name r) (cl:=(fun r=>r.k.c)) (fs:=qaV) (XE.var (i:=0) rfl h0) (fun _=>rfl)  (by intro r;obtain⟨k,a0,a1,a2,a3⟩:=r;cases k;exact⟨_,rfl,qhZ ⟨.unlike,a0,a1,a2,a3⟩⟩;exact⟨_,rfl,qjm ⟨.total,a0,a1,a2,a3⟩⟩;exact⟨_,rfl,qih ⟨.rising,a0,a1,a2,a3⟩⟩;exact⟨_,rfl,qj9 ⟨.seen,a0,a1,a2,a3⟩⟩;exact⟨_,rfl,qhb ⟨.counted,a0,a1,a2,a3⟩⟩;exact⟨_,rfl,qhU ⟨.joined,a0,a1,a2,a3⟩⟩;exact⟨_,rfl,qgu ⟨.nosquare,a0,a1,a2,a3⟩⟩;exact⟨_,rfl,qkh ⟨.ring,a0,a1,a2,a3⟩⟩) rfl rfl) XS.nil) (fun _=>rfl) rfl) (by simp only[RE.bind_assoc,RE.bind_ok])) (XE.lc (t0:=true) (fun q1=>[q0,q1]) (XI.list (XE.mth0P (F:=fun r=>F.m_told_numbers r) (cl:=(fun r=>r.k.c)) (fs:=qaV) (XE.var (i:=0) rfl h0) (fun _=>rfl)  (by intro r;obtain⟨k,a0,a1,a2,a3⟩:=r;cases k;exact⟨_,rfl,Rf.low (qcz ⟨.unlike,a0,a1,a2,a3⟩)⟩;exact⟨_,rfl,qei ⟨.total,a0,a1,a2,a3⟩⟩;exact⟨_,rfl,Rf.low (qcz ⟨.rising,a0,a1,a2,a3⟩)⟩;exact⟨_,rfl,qeO ⟨.seen,a0,a1,a2,a3⟩⟩;exact⟨_,rfl,qdD ⟨.counted,a0,a1,a2,a3⟩⟩;exact⟨_,rfl,Rf.low (qd9 ⟨.joined,a0,a1,a2,a3⟩)⟩;exact⟨_,rfl,Rf.low (qdq ⟨.nosquare,a0,a1,a2,a3⟩)⟩;exact⟨_,rfl,Rf.low (qeG ⟨.ring,a0,a1,a2,a3⟩)⟩) rfl rfl) rfl) (fun _=>.inr inferInstance) (fun _=>rfl) (fun aD q1 h1=>XTs.nil) (fun aD q1 h1 _=>(XE.pri1P (XE.var (i:=1) rfl h1) (qkg _))) rfl) (fun x y=>qhm (en:=eS) x y))) rfl
 exact Rf.run rfl (key _ .non SlV.flat)
theorem qbF (ab:PuzT):Rf (g_Puzzle_lines [ePuz ab]) (F.Puzzle_lines ab) (eL eS) .f true:=by
 have key:∀q0 q1:Sl,SlV true (ePuz ab) q0→BR qbR qbb [q0,q1] (F.Puzzle_lines ab) (eL eS) .f true:=by
  intro q0 q1 h0;unfold F.Puzzle_lines qbb;exact BR.ret (XE.lc (t0:=true) (fun q1=>[q0,q1]) (XI.list (XE.fldP (x:=ab) (cl:=(fun _=>25)) (fs:=qda) (p:=fun v=>v.rules) (en:=(eL eRule)) (XE.var (i:=0) rfl h0) (fun _=>rfl) (by intro v;obtain⟨_,_,_⟩:=v;exact⟨_,rfl,rfl⟩)) rfl) (fun _=>.inr inferInstance) (fun _=>rfl) (fun ai q1 h1=>XTs.nil) (fun ai q1 h1 _=>(XE.mth0P (F:=fun r=>F.Rule_line r) (cl:=(fun r=>r.k.c)) (fs:=qaV) (XE.var (i:=1) rfl h1) (fun _=>rfl)  (by intro r;obtain⟨k,a0,a1,a2,a3⟩:=r;cases k;exact⟨_,rfl,qaf ⟨.unlike,a0,a1,a2,a3⟩⟩;exact⟨_,rfl,qaf ⟨.total,a0,a1,a2,a3⟩⟩;exact⟨_,rfl,qaf ⟨.rising,a0,a1,a2,a3⟩⟩;exact⟨_,rfl,qaf ⟨.seen,a0,a1,a2,a3⟩⟩;exact⟨_,rfl,qaf ⟨.counted,a0,a1,a2,a3⟩⟩;exact⟨_,rfl,qaf ⟨.joined,a0,a1,a2,a3⟩⟩;exact⟨_,rfl,qaf ⟨.nosquare,a0,a1,a2,a3⟩⟩;exact⟨_,rfl,qaf ⟨.ring,a0,a1,a2,a3⟩⟩) rfl rfl)) rfl) rfl
 exact Rf.run rfl (key _ .non SlV.flat)
theorem qbI (ab:PuzT):Rf (g_Puzzle_clues [ePuz ab]) (F.Puzzle_clues ab) (eL eI) .f true:=by
 have key:∀q0:Sl,SlV true (ePuz ab) q0→BR qbP qa9 [q0] (F.Puzzle_clues ab) (eL eI) .f true:=by
  intro q0 h0;unfold F.Puzzle_clues qa9;exact BR.ret (XE.pri1P (XE.fldP (x:=ab) (cl:=(fun _=>25)) (fs:=qda) (p:=fun v=>v.clues) (en:=(eL eI)) (XE.var (i:=0) rfl h0) (fun _=>rfl) (by intro v;obtain⟨_,_,_⟩:=v;exact⟨_,rfl,rfl⟩)) (qbm _)) rfl
 exact Rf.run rfl (key _  SlV.flat)
theorem qcZ (ab:PuzT):Rf (g_Puzzle_rules [ePuz ab]) (F.Puzzle_rules ab) (eL eRule) .f true:=by
 have key:∀q0:Sl,SlV true (ePuz ab) q0→BR qbL qba [q0] (F.Puzzle_rules ab) (eL eRule) .f true:=by
  intro q0 h0;unfold F.Puzzle_rules qba;exact BR.ret (XE.pri1P (XE.fldP (x:=ab) (cl:=(fun _=>25)) (fs:=qda) (p:=fun v=>v.rules) (en:=(eL eRule)) (XE.var (i:=0) rfl h0) (fun _=>rfl) (by intro v;obtain⟨_,_,_⟩:=v;exact⟨_,rfl,rfl⟩)) (qbm _)) rfl
 exact Rf.run rfl (key _  SlV.flat)
theorem qd2 (ae:PuzT) (a8:Int × Int × Int) (az:List (List Nat)) (aJ:List Int):Rf (g__law_is [ePuz ae,(eT3 eI eI eI) a8,(eL eS) az,(eL eI) aJ]) (qnY ae a8 az aJ) eB .v true:=by
 have key:∀q0 q1 q2 q3 q4 q5 q6 q7 q8 q9 q10 q11:Sl,SlV true (ePuz ae) q0→SlV true ((eT3 eI eI eI) a8) q1→SlV false ((eL eS) az) q2→SlV false ((eL eI) aJ) q3→BR qe1 qdV [q0,q1,q2,q3,q4,q5,q6,q7,q8,q9,q10,q11] (qnY ae a8 az aJ) eB .v true:=by
  intro q0 q1 q2 q3 q4 q5 q6 q7 q8 q9 q10 q11 h0 h1 h2 h3;unfold qnY qdV;refine BR.cons (SN.asg (en:=(eT3 eI eI eI)) (fun q4=>[q0,q1,q2,q3,q4,q5,q6,q7,q8,q9,q10,q11]) (XE.mth0P (F:=fun r=>F.Puzzle_place r) (cl:=(fun _=>25)) (fs:=qda) (XE.var (i:=0) rfl h0) (fun _=>rfl)  (fun r=>⟨_,rfl,qgS r⟩) rfl rfl) rfl fun _=>rfl) ?_;rintro aj _ ⟨q4,rfl,h4⟩;refine BR.ifR (XT.bop (XTs.or (XT.notP (XT.val (XE.isiP (f:=fun _=>true) (XE.var (i:=4) rfl h4) (fun _=>rfl)))) (XTs.or (XT.val (XE.cmpP (XE.var (i:=4) rfl h4) (XE.var (i:=1) rfl h1) ((qkH .ne ((eT3 eI eI eI)) ((eT3 eI eI eI))) _ _))) (XTs.one (XT.val (XE.cmpR (XE.pri1 (XE.lc (t0:=true) (fun q5=>[q0,q1,q2,q3,q4,q5,q6,q7,q8,q9,q10,q11]) (XI.tup (f:=fun p=>[p.1,p.2.1,p.2.2]) (XE.var (i:=4) rfl h4) (fun _=>rfl)) (fun _=>.inl rfl) (fun _=>rfl) (fun ao q5 h5=>(XTs.one (XT.val (XE.call1P rfl (XE.var (i:=5) rfl h5) (qfN ao) rfl rfl)))) (fun ao q5 h5 _=>(XE.var (i:=5) rfl h5)) rfl) (fun x=>qdp x)) XE.cint (fun x=>qkJ x _))))))) ?_ ?_
  ·exact BR.ret XE.cbl rfl
  refine BR.cons (SN.asg (en:=(eL eS)) (fun q6=>[q0,q1,q2,q3,q4,q5,q6,q7,q8,q9,q10,q11]) (XE.mth0P (F:=fun r=>F.Puzzle_lines r) (cl:=(fun _=>25)) (fs:=qda) (XE.var (i:=0) rfl h0) (fun _=>rfl)  (fun r=>⟨_,rfl,qbF r⟩) rfl rfl) rfl fun _=>rfl) ?_;rintro b7 _ ⟨q6,rfl,h6⟩;refine BR.cons (SN.asg (en:=(eL eI)) (fun q7=>[q0,q1,q2,q3,q4,q5,q6,q7,q8,q9,q10,q11]) (XE.mth0P (F:=fun r=>F.Puzzle_clues r) (cl:=(fun _=>25)) (fs:=qda) (XE.var (i:=0) rfl h0) (fun _=>rfl)  (fun r=>⟨_,rfl,qbI r⟩) rfl rfl) rfl fun _=>rfl) ?_;rintro ay _ ⟨q7,rfl,h7⟩;refine BR.ifR (XT.bop (XTs.or (XT.notP (XT.val (XE.isiP (f:=fun _=>true) (XE.var (i:=6) rfl h6) (fun _=>rfl)))) (XTs.or (XT.val (XE.cmpP (XE.var (i:=6) rfl h6) (XE.var (i:=2) rfl h2) ((qkH .ne ((eL eS)) ((eL eS))) _ _))) (XTs.orP (XT.notP (XT.val (XE.isiP (f:=fun _=>true) (XE.var (i:=7) rfl h7) (fun _=>rfl)))) (XTs.one (XT.val (XE.cmpP (XE.var (i:=7) rfl h7) (XE.var (i:=3) rfl h3) (qr4 _ _)))))))) ?_ ?_
  ·exact BR.ret XE.cbl rfl
  refine BR.ifR (XT.val (XE.cmpR (XE.pri1 ((XE.lc (t0:=true) (fun q8=>[q0,q1,q2,q3,q4,q5,q6,q7,q8,q9,q10,q11]) (XI.list (XE.var (i:=6) rfl h6) rfl) (fun _=>.inl rfl) (fun _=>rfl) (fun bJ q8 h8=>(XTs.one (XT.val (XE.isiP (f:=fun _=>true) (XE.var (i:=8) rfl h8) (fun _=>rfl))))) (fun bJ q8 h8 _=>(XE.var (i:=8) rfl h8)) rfl).cast (qpo _ _)) (fun x=>qdp x)) (XE.pri1P (XE.var (i:=2) rfl h2) (qdp _)) (fun x=>qkJ x _))) ?_ ?_
  ·exact BR.ret XE.cbl rfl
  refine BR.ifR (XT.val (XE.cmpR (XE.pri1 (XE.lc (t0:=true) (fun q9=>[q0,q1,q2,q3,q4,q5,q6,q7,q8,q9,q10,q11]) (XI.list (XE.var (i:=7) rfl h7) rfl) (fun _=>.inl rfl) (fun _=>rfl) (fun ah q9 h9=>(XTs.one (XT.val (XE.call1P rfl (XE.var (i:=9) rfl h9) (qfN ah) rfl rfl)))) (fun ah q9 h9 _=>(XE.var (i:=9) rfl h9)) rfl) (fun x=>qdp x)) (XE.pri1P (XE.var (i:=3) rfl h3) (qdp _)) (fun x=>qkJ x _))) ?_ ?_
  ·exact BR.ret XE.cbl rfl
  refine BR.cons (SN.asg (en:=(eL eRule)) (fun q10=>[q0,q1,q2,q3,q4,q5,q6,q7,q8,q9,q10,q11]) (XE.mth0P (F:=fun r=>F.Puzzle_rules r) (cl:=(fun _=>25)) (fs:=qda) (XE.var (i:=0) rfl h0) (fun _=>rfl)  (fun r=>⟨_,rfl,qcZ r⟩) rfl rfl) rfl fun _=>rfl) ?_;rintro bK _ ⟨q10,rfl,h10⟩;exact BR.ret (XE.bop (XV.and (XE.isiP (f:=fun _=>true) (XE.var (i:=10) rfl h10) (fun _=>rfl)) (XV.one (XE.cmpR (XE.lc (t0:=true) (fun q11=>[q0,q1,q2,q3,q4,q5,q6,q7,q8,q9,q10,q11]) (XI.list (XE.var (i:=10) rfl h10) rfl) (fun _=>.inl rfl) (fun _=>rfl) (fun ai q11 h11=>XTs.nil) (fun ai q11 h11 _=>(XE.mth0P (F:=fun r=>F.Rule_line r) (cl:=(fun r=>r.k.c)) (fs:=qaV) (XE.var (i:=11) rfl h11) (fun _=>rfl)  (by intro r;obtain⟨k,a0,a1,a2,a3⟩:=r;cases k;exact⟨_,rfl,qaf ⟨.unlike,a0,a1,a2,a3⟩⟩;exact⟨_,rfl,qaf ⟨.total,a0,a1,a2,a3⟩⟩;exact⟨_,rfl,qaf ⟨.rising,a0,a1,a2,a3⟩⟩;exact⟨_,rfl,qaf ⟨.seen,a0,a1,a2,a3⟩⟩;exact⟨_,rfl,qaf ⟨.counted,a0,a1,a2,a3⟩⟩;exact⟨_,rfl,qaf ⟨.joined,a0,a1,a2,a3⟩⟩;exact⟨_,rfl,qaf ⟨.nosquare,a0,a1,a2,a3⟩⟩;exact⟨_,rfl,qaf ⟨.ring,a0,a1,a2,a3⟩⟩) rfl rfl)) rfl) (XE.var (i:=2) rfl h2) (fun x=>(qkH .eq ((eL eS)) ((eL eS))) x _))))) rfl
 exact Rf.run rfl (key _ _ _ _ .non .non .non .non .non .non .non .non SlV.flat SlV.flat SlV.any SlV.any)
theorem qhd (ab:PuzT) (aF:List Int):Rf (g_Puzzle_clued [ePuz ab,(eL eI) aF]) (F.Puzzle_clued ab aF) ePuz .v true:=by
 have key:∀q0 q1:Sl,SlV true (ePuz ab) q0→SlV false ((eL eI) aF) q1→BR qbQ qbc [q0,q1] (F.Puzzle_clued ab aF) ePuz .v true:=by
  intro q0 q1 h0 h1;unfold F.Puzzle_clued qbc;exact BR.ret (XE.new3 rfl (XE.fldFP (x:=ab) (cl:=(fun _=>25)) (fs:=qda) (p:=fun v=>v.ground) (en:=(eT3 eI eI eI)) (XE.var (i:=0) rfl h0) (fun _=>rfl) (by intro v;obtain⟨_,_,_⟩:=v;exact⟨_,rfl,rfl⟩)) (XE.coeG (f:=List.map (eS)) (en2:=(eL eD)) (XE.mth0P (F:=fun r=>F.Puzzle_lines r) (cl:=(fun _=>25)) (fs:=qda) (XE.var (i:=0) rfl h0) (fun _=>rfl)  (fun r=>⟨_,rfl,qbF r⟩) rfl rfl) (qgA (fun _=>rfl))) (XE.var (i:=1) rfl h1) (fun _ _ _=>qfP _ _ _)) rfl
 exact Rf.run rfl (key _ _  SlV.flat SlV.any)
theorem qtz (av:List Int):Rf (g_law [(eL eI) av]) (qmP av) eB .v true:=by
 have key:∀q0 q1 q2 q3 q4 q5 q6 q7 q8 q9 q10:Sl,SlV false ((eL eI) av) q0→BR qpk qm5 [q0,q1,q2,q3,q4,q5,q6,q7,q8,q9,q10] (qmP av) eB .v true:=by
  intro q0 q1 q2 q3 q4 q5 q6 q7 q8 q9 q10 h0;unfold qmP qm5;refine BR.cons (SN.asg (en:=(eT3 eI eI eI)) (fun q1=>[q0,q1,q2,q3,q4,q5,q6,q7,q8,q9,q10]) (XE.call1P rfl (XE.var (i:=0) rfl h0) (qjA av) rfl rfl) rfl fun _=>rfl) ?_;rintro a8 _ ⟨q1,rfl,h1⟩;refine BR.cons (SN.asg (en:=(eL eI)) (fun q2=>[q0,q1,q2,q3,q4,q5,q6,q7,q8,q9,q10]) (XE.call3P rfl (XE.var (i:=0) rfl h0) (XE.var (i:=1) rfl h1) XE.cint (qha av a8 20) rfl rfl) rfl fun _=>rfl) ?_;rintro aA _ ⟨q2,rfl,h2⟩;refine BR.cons (SN.asg (en:=(eL eS)) (fun q3=>[q0,q1,q2,q3,q4,q5,q6,q7,q8,q9,q10]) (XE.lc (t0:=true) (fun q4=>[q0,q1,q2,q3,q4,q5,q6,q7,q8,q9,q10]) (XI.rng (XRg.r1 (XE.binR (XE.call2P rfl (XE.var (i:=0) rfl h0) XE.cint (qcA av 3) rfl rfl) XE.cint (fun x=>qea x _ rfl)))) (fun _=>.inl rfl) (fun _=>rfl) (fun aB q4 h4=>XTs.nil) (fun aB q4 h4 _=>(XE.call3 rfl (XE.var (i:=1) rfl h1) (XE.var (i:=2) rfl h2) (XE.call2P rfl (XE.var (i:=0) rfl h0) (XE.binP XE.cint (XE.var (i:=4) rfl h4) (qct _ _)) (qcA av (4+aB)) rfl rfl) (fun x0 x1 x2=>qkR x0 x1 x2) rfl rfl)) rfl) rfl fun _=>rfl) ?_;rintro az _ ⟨q3,rfl,h3⟩;refine BR.cons (SN.asg (en:=(eL eI)) (fun q5=>[q0,q1,q2,q3,q4,q5,q6,q7,q8,q9,q10]) (XE.call3P rfl (XE.var (i:=0) rfl h0) (XE.var (i:=2) rfl h2) XE.cint (qfK av aA 36) rfl rfl) rfl fun _=>rfl) ?_;rintro aJ _ ⟨q5,rfl,h5⟩;refine BR.cons (SN.asg (en:=(eL eI)) (fun q6=>[q0,q1,q2,q3,q4,q5,q6,q7,q8,q9,q10]) (XE.call3 rfl (XE.var (i:=0) rfl h0) (XE.lrevP (XE.var (i:=2) rfl h2)) XE.cint (fun x0 x1 x2=>qfK x0 x1 x2) rfl rfl) rfl fun _=>rfl) ?_;rintro aI _ ⟨q6,rfl,h6⟩;refine BR.cons (SN.row (en:=eD) (fun q7=>[q0,q1,q2,q3,q4,q5,q6,q7,q8,q9,q10]) (XEF.consD (XE.coe (x:=az) (f:=List.map (eS)) (en2:=(eL eD)) (XE.pri1P (XE.var (i:=3) rfl h3) (qbm _)) (qgA (fun _=>rfl))) (XEF.consD (XE.coe (x:=aJ) (f:=List.map (eI)) (en2:=(eL eD)) (XE.pri1P (XE.var (i:=5) rfl h5) (qbm _)) (qgA (fun _=>rfl))) (XEF.consD (XE.coe (x:=aI) (f:=List.map (eI)) (en2:=(eL eD)) (XE.pri1P (XE.var (i:=6) rfl h6) (qbm _)) (qgA (fun _=>rfl))) XEF.nil))) fun _=>rfl) ?_;rintro aT _ ⟨q7,rfl,h7⟩;refine BR.cons (SN.asg (en:=ePuz) (fun q8=>[q0,q1,q2,q3,q4,q5,q6,q7,q8,q9,q10]) (XE.pkV (XE.new3 rfl (XE.var (i:=1) rfl h1.pk) (XE.idxP (XE.var (i:=7) rfl h7.pk) XE.cint) (XE.decG (f:=dLs dI) (XE.idxP (XE.var (i:=7) rfl h7.pk) XE.cint) (qsb que)) (fun _ _ _=>qfP _ _ _)) fun _=>rfl) rfl fun _=>rfl) ?_;rintro ae _ ⟨q8,rfl,h8⟩;refine BR.ifR (XT.bop (XTs.or (XT.val (XE.pkV (XE.cmpP (XE.var (i:=7) rfl h7.pk) (XE.lstL (en:=(eL eD)) (XLs.cons (XE.coe (x:=az) (f:=List.map (eS)) (en2:=(eL eD)) (XE.var (i:=3) rfl h3.pk) (qgA (fun _=>rfl))) rfl (XLs.cons (XE.coe (x:=aJ) (f:=List.map (eI)) (en2:=(eL eD)) (XE.var (i:=5) rfl h5.pk) (qgA (fun _=>rfl))) rfl (XLs.cons (XE.coe (x:=aI) (f:=List.map (eI)) (en2:=(eL eD)) (XE.var (i:=6) rfl h6.pk) (qgA (fun _=>rfl))) rfl XLs.nil)))) ((qkH .ne ((eL (eL eD))) ((eL (eL eD)))) _ _)) fun _=>rfl)) (XTs.one (XT.not (XT.val (XE.call4P rfl (XE.var (i:=8) rfl h8) (XE.var (i:=1) rfl h1) (XE.var (i:=3) rfl h3) (XE.var (i:=5) rfl h5) (qd2 ae a8 az aJ) rfl rfl)))))) ?_ ?_
  ·exact BR.ret XE.cbl rfl
  refine BR.cons (SN.asg (en:=ePuz) (fun q9=>[q0,q1,q2,q3,q4,q5,q6,q7,q8,q9,q10]) (XE.pkV (XE.mth1 (cl:=(fun _=>25)) (fs:=qda) (XE.var (i:=8) rfl h8.pk) (fun _=>rfl) (XE.decG (f:=dLs dI) (XE.idxP (XE.var (i:=7) rfl h7.pk) XE.cint) (qsb que)) (fun r=>⟨_,rfl,fun x0=>qhd r x0⟩) rfl rfl) fun _=>rfl) rfl fun _=>rfl) ?_;rintro bi _ ⟨q9,rfl,h9⟩;refine BR.cons (SN.rappP (en:=eD) (fun q7=>[q0,q1,q2,q3,q4,q5,q6,q7,q8,q9,q10]) (XE.coe (x:=[115,117,109,32,48,32,48]) (f:=eS) (en2:=eD) XE.cstr (fun _=>rfl)) rfl rfl rfl h7 (fun _=>rfl)) ?_;rintro aT _ ⟨q7,rfl,h7⟩;refine BR.cons (SN.rclr (en:=eD) (fun q7=>[q0,q1,q2,q3,q4,q5,q6,q7,q8,q9,q10]) rfl h7 (fun _=>rfl)) ?_;rintro aT _ ⟨q7,rfl,h7⟩;refine BR.cons (SN.rputP (en:=eD) (fun q7=>[q0,q1,q2,q3,q4,q5,q6,q7,q8,q9,q10]) (XE.coe (x:=(-1)) (f:=eI) (en2:=eD) (XE.negP XE.cint) (fun _=>rfl)) rfl rfl rfl h7 XE.cint (fun _=>rfl)) ?_;rintro aT _ ⟨q7,rfl,h7⟩;refine BR.ifR (XT.bop (XTs.or (XT.not (XT.val (XE.call4P rfl (XE.var (i:=9) rfl h9) (XE.var (i:=1) rfl h1) (XE.var (i:=3) rfl h3) (XE.var (i:=6) rfl h6) (qd2 bi a8 az aI) rfl rfl))) (XTs.one (XT.not (XT.val (XE.call4P rfl (XE.var (i:=8) rfl h8) (XE.var (i:=1) rfl h1) (XE.var (i:=3) rfl h3) (XE.var (i:=5) rfl h5) (qd2 ae a8 az aJ) rfl rfl)))))) ?_ ?_
  ·exact BR.ret XE.cbl rfl
  refine BR.cons (SN.asg (en:=(eL eD)) (fun q10=>[q0,q1,q2,q3,q4,q5,q6,q7,q8,q9,q10]) (XE.cast (m':=((F.Puzzle_lines ae).bind fun x30=>RE.ok (((eL eS)) x30)).bind fun x33=>((F.Puzzle_clues ae).bind fun x31=>RE.ok (((eL eI)) x31)).bind fun x34=>(((F.Puzzle_rules ae).bind fun x29=>RE.ok (List.length x29:Int)).bind fun x32=>RE.ok ((eI) x32)).bind fun x35=>RE.ok [x33,x34,x35]) (XE.lstS (F:=fun w=>[w.1,w.2.1,w.2.2.1]) (en:=eD) (XS.cons (XE.coeG (f:=(eL eS)) (en2:=eD) (XE.mth0P (F:=fun r=>F.Puzzle_lines r) (cl:=(fun _=>25)) (fs:=qda) (XE.var (i:=8) rfl h8) (fun _=>rfl)  (fun r=>⟨_,rfl,qbF r⟩) rfl rfl) (fun _=>rfl)) (XS.cons (XE.coeG (f:=(eL eI)) (en2:=eD) (XE.mth0P (F:=fun r=>F.Puzzle_clues r) (cl:=(fun _=>25)) (fs:=qda) (XE.var (i:=8) rfl h8) (fun _=>rfl)  (fun r=>⟨_,rfl,qbI r⟩) rfl rfl) (fun _=>rfl)) (XS.cons (XE.coeG (f:=eI) (en2:=eD) (XE.pri1 (XE.mth0P (F:=fun r=>F.Puzzle_rules r) (cl:=(fun _=>25)) (fs:=qda) (XE.var (i:=8) rfl h8) (fun _=>rfl)  (fun r=>⟨_,rfl,qcZ r⟩) rfl rfl) (fun x=>qdp x)) (fun _=>rfl)) XS.nil))) (fun _=>rfl) rfl) (by simp only[RE.bind_assoc,RE.bind_ok])) rfl fun _=>rfl) ?_;rintro b8 _ ⟨q10,rfl,h10⟩;refine BR.cons (SN.tapp (en:=eS) (XE.mth0P (F:=fun r=>F.Puzzle_lines r) (cl:=(fun _=>25)) (fs:=qda) (XE.var (i:=8) rfl h8) (fun _=>rfl)  (fun r=>⟨_,rfl,qbF r⟩) rfl rfl) XE.cstr rfl) ?_;rintro _ _ rfl;refine BR.cons (SN.tclr (en:=eI) (XE.mth0P (F:=fun r=>F.Puzzle_clues r) (cl:=(fun _=>25)) (fs:=qda) (XE.var (i:=8) rfl h8) (fun _=>rfl)  (fun r=>⟨_,rfl,qbI r⟩) rfl rfl)) ?_;rintro _ _ rfl;refine BR.cons (SN.tclr (en:=eRule) (XE.mth0P (F:=fun r=>F.Puzzle_rules r) (cl:=(fun _=>25)) (fs:=qda) (XE.var (i:=8) rfl h8) (fun _=>rfl)  (fun r=>⟨_,rfl,qcZ r⟩) rfl rfl)) ?_;rintro _ _ rfl;refine BR.cons (SN.tapp (en:=eI) (XE.mth0P (F:=fun r=>F.Puzzle_clues r) (cl:=(fun _=>25)) (fs:=qda) (XE.var (i:=9) rfl h9) (fun _=>rfl)  (fun r=>⟨_,rfl,qbI r⟩) rfl rfl) XE.cint rfl) ?_;rintro _ _ rfl;refine BR.ifR (XT.bop (XTs.or (XT.val (XE.cmpP (XE.var (i:=10) rfl h10) (XE.lstL (en:=eD) (XLs.cons (XE.coe (x:=az) (f:=(eL eS)) (en2:=eD) (XE.var (i:=3) rfl h3) (fun _=>rfl)) rfl (XLs.cons (XE.coe (x:=aJ) (f:=(eL eI)) (en2:=eD) (XE.var (i:=5) rfl h5) (fun _=>rfl)) rfl (XLs.cons (XE.coe (x:=(List.length az:Int)) (f:=eI) (en2:=eD) (XE.pri1P (XE.var (i:=3) rfl h3) (qdp _)) (fun _=>rfl)) rfl XLs.nil)))) ((qkH .ne ((eL eD)) ((eL eD))) _ _))) (XTs.one (XT.not (XT.val (XE.call4P rfl (XE.var (i:=8) rfl h8) (XE.var (i:=1) rfl h1) (XE.var (i:=3) rfl h3) (XE.var (i:=5) rfl h5) (qd2 ae a8 az aJ) rfl rfl)))))) ?_ ?_
  ·exact BR.ret XE.cbl rfl
  exact BR.ret (XE.bop (XV.and (XE.call4P rfl (XE.var (i:=9) rfl h9) (XE.var (i:=1) rfl h1) (XE.var (i:=3) rfl h3) (XE.var (i:=6) rfl h6) (qd2 bi a8 az aI) rfl rfl) (XV.one (XE.cmpP (XE.var (i:=10) rfl h10) (XE.lstL (en:=eD) (XLs.cons (XE.coe (x:=az) (f:=(eL eS)) (en2:=eD) (XE.var (i:=3) rfl h3) (fun _=>rfl)) rfl (XLs.cons (XE.coe (x:=aJ) (f:=(eL eI)) (en2:=eD) (XE.var (i:=5) rfl h5) (fun _=>rfl)) rfl (XLs.cons (XE.coe (x:=(List.length az:Int)) (f:=eI) (en2:=eD) (XE.pri1P (XE.var (i:=3) rfl h3) (qdp _)) (fun _=>rfl)) rfl XLs.nil)))) ((qkH .eq ((eL eD)) ((eL eD))) _ _))))) rfl
 exact Rf.run rfl (key _ .non .non .non .non .non .non .non .non .non .non SlV.any)
end K19
namespace K19
open Cm
def cv (ns:List Int) (k:Int):Int:=match qkF ns k with
 |.ok v=>v
 |_=>0
theorem qjQ (ns:List Int) {k:Int} (h0:0≤k) (h1:k≤1000):qkF ns k=.ok (cv ns k):=by
 suffices h:W (qkF ns k) fun _=>True by
  obtain⟨v,e,_⟩:=h
  have:cv ns k=v:=by unfold cv;rw[e]
  rw[this];exact e
 unfold qkF
 simp only[RE.bind_ok,qnb]
 by_cases e:k<(ns.length:Int)
 ·rw[if_pos e,qgL h0 e];exact W.ok trivial
 ·rw[if_neg e]
  refine W.bind (P:=fun p:Int=>0≤p∧p≤2000000000) ?_ fun p hp=>?_
  ·by_cases q:(0:Int)<(ns.length:Int)
   ·rw[if_pos q,qfy (by omega)]
    have b:=qb9 k q
    simp only[RE.bind_ok]
    rw[qgL b.1 b.2]
    simp only[RE.bind_ok]
    have b2:=qb9 (gI ns (k.fmod (ns.length:Int))) (n:=1000003) (by decide)
    generalize (gI ns (k.fmod (ns.length:Int))).fmod 1000003=z at b2
    rw[qgG (by omega)]
    simp only[RE.bind_ok]
    have m0:0≤z*(k+1):=Int.mul_nonneg b2.1 (by omega)
    have m1:z*(k+1)≤1000003*1001:=Int.mul_le_mul (by omega) (by omega) (by omega) (by decide)
    exact W.ok ⟨by omega,by omega⟩
   ·rw[if_neg q]
    exact W.ok ⟨by omega,by omega⟩
  ·rw[qgG (by omega)]
   exact W.ok trivial
theorem qmf {α:Type} {xs:List α} {m:Int} (h:0≤m):qeu xs none (some m)=xs.take m.toNat:=by
 have h1:HT.sIx xs.length 0 none=0:=by simp[HT.sIx]
 have h2:HT.sIx xs.length xs.length (some m)=min m.toNat xs.length:=by
  have:=HT.sIx_nat xs.length xs.length m.toNat
  rwa [show((m.toNat:Nat):Int)=m by omega] at this
 unfold qeu
 rw[h1,h2,List.drop_zero,Nat.sub_zero]
 rcases Nat.le_total m.toNat xs.length with q | q
 ·rw[Nat.min_eq_left q]
 ·rw[Nat.min_eq_right q,List.take_length,List.take_of_length_le q]
theorem qud:∀{xs:List Int},(∀x∈xs,0≤x∧x≤6)→0≤xs.sum∧xs.sum≤6*(xs.length:Int)
 |[],_=>by simp
 |x::xs,h=>by
  have h1:=h x (by simp)
  have h2:=qud fun y hy=>h y (List.mem_cons_of_mem _ hy)
  rw[List.sum_cons,List.length_cons]
  omega
theorem qhx {fl:Int × Int × Int} {f:Int→RE (List Nat)}:∀{xs:List Int},(∀x∈xs,∃r,f x=.ok (qbo r)∧WfR fl r)→∃rs:List RuleT,lcE (fun _=>RE.ok true) f xs=.ok (rs.map qbo)∧rs.length=xs.length∧∀r∈rs,WfR fl r
 |[],_=>⟨[],rfl,rfl,by simp⟩
 |x::xs,h=>by
  obtain⟨r,e,w⟩:=h x (by simp)
  obtain⟨rs,e2,l2,w2⟩:=qhx (xs:=xs) fun y hy=>h y (List.mem_cons_of_mem _ hy)
  refine⟨r::rs,?_,by simp[l2],fun s hs=>?_⟩
  ·rw[lcE,e,e2];rfl
  ·rcases List.mem_cons.mp hs with q | q
   ·rw[q];exact w
   ·exact w2 s q
theorem qlR (ns:List Int) {fl:Int × Int × Int} (hf:FOk fl) {a:Int} (a0:0≤a) (a1:a≤500):∃f,qc9 ns fl a=.ok f∧(f.length:Int)=nC fl∧∀x∈f,1≤x∧x≤fl.2.2:=by
 have n1:=hf.n1
 have n16:=qmi hf
 have s1:=hf.s1
 have en:nC fl=fl.1*fl.2.1:=rfl
 unfold qc9
 rw[qgG (by have:=hf.h1;have:=hf.h2;omega)]
 simp only[RE.bind_ok]
 rw[qeU (by omega) (by omega)]
 simp only[RE.bind_ok]
 rw[gdl (by rw[qbk];omega),qd0 (g:=fun k=>1+(cv ns (a+k)).fmod fl.2.2) fun k hk=>by
  have:=qeh.mp hk
  rw[qjQ ns (by omega) (by omega)]
  simp only[RE.bind_ok]
  rw[qfy (by omega)];rfl]
 refine⟨_,rfl,by rw[List.length_map,qbk];omega,fun x hx=>?_⟩
 obtain⟨k,_,rfl⟩:=List.mem_map.mp hx
 have b:=qb9 (cv ns (a+k)) (n:=fl.2.2) (by omega)
 omega
theorem qmY (z:Int) {m:Int} (m0:0≤m) (m1:m≤100):∃xs,qdx z m=.ok xs∧(xs.length:Int)=m:=by
 suffices h:W (qdx z m) fun xs=>(xs.length:Int)=m by
  obtain⟨v,e,h⟩:=h;exact⟨v,e,h⟩
 unfold qdx
 rw[qeU (by omega) m0]
 simp only[RE.bind_ok]
 have b:=qb9 z (n:=1000003) (by decide)
 refine W.bind (P:=fun s:Int × List Int=>(s.2.length:Int)=m) ?_ fun s h=>W.ok h
 refine W.mono (qeZ (fun i (s:Int × List Int)=>0≤s.1∧s.1≤1000100∧s.2.length=i) ⟨by show 0≤z.fmod 1000003+11;omega,by show z.fmod 1000003+11≤1000100;omega,rfl⟩ fun i x s hx ⟨h1,h2,h3⟩=>?_) fun s h=>by have:=h.2.2;rw[qbk] at this;omega
 obtain⟨rfl,hi⟩:=qli hx
 rw[qgG (by omega)]
 simp only[RE.bind_ok]
 rw[qmk (by omega)]
 have b2:=qb9 (s.1*s.1+3*s.1+(i:Int)) (n:=1000003) (by decide)
 exact W.ok ⟨b2.1,by show(s.1*s.1+3*s.1+(i:Int)).fmod 1000003≤1000100;omega,by simp[h3]⟩
theorem qo6 {xs:List Int} {m:Int} (h0:1≤m) (h1:m≤16) (hx:m≤xs.length):∃cs,qeK xs m=.ok cs∧cs.Perm (qdM m.toNat):=by
 suffices h:W (qeK xs m) fun cs=>cs.Perm (qdM m.toNat) by
  obtain⟨v,e,h⟩:=h;exact⟨v,e,h⟩
 unfold qeK
 rw[qeU (by omega) (by omega)]
 simp only[RE.bind_ok]
 refine W.bind (qoK (n:=m.toNat) (by omega) fun i s hi hl=>?_) fun s h=>W.ok h
 refine⟨(gI xs (i:Int)).fmod (s.1.length:Int),?_⟩
 have b:=qb9 (gI xs (i:Int)) (n:=(s.1.length:Int)) (by omega)
 refine⟨b.1,b.2,?_⟩
 rw[qgL (by omega) (by omega)]
 simp only[RE.bind_ok]
 rw[qfy (by omega)]
 rfl
theorem qqM {os f:List Int} {n:Int} {b:Bool} (n0:1≤n) (n1:n≤16) (ho:os.Perm (qdM n.toNat)) (hl:(f.length:Int)=n) (hb:∀x∈f,1≤x∧x≤6):∃r,qeY os f b=.ok r∧r≠[]∧r.Nodup∧∀x∈r,x∈os:=by
 suffices h:W (qeY os f b) fun r=>r≠[]∧r.Nodup∧∀x∈r,x∈os by
  obtain⟨v,e,h⟩:=h;exact⟨v,e,h⟩
 have ol:=ho.length_eq
 rw[qbk] at ol
 have mo:∀c∈os,0≤c∧c<n:=fun c hc=>by
  have:=qeh.mp (ho.mem_iff.mp hc);omega
 have on:os.Nodup:=ho.nodup_iff.mpr (qhR _)
 have one:os≠[]:=fun e=>by rw[e] at ol;simp at ol;omega
 have fb:∀c∈os,1≤gI f c∧gI f c≤6:=fun c hc=>hb _ (qmx (mo c hc).1 (by have:=(mo c hc).2;omega))
 unfold qeY
 rw[qoi (by decide)]
 simp only[RE.bind_ok]
 have l6:qho 1 7=[1,2,3,4,5,6]:=by decide
 rw[l6]
 refine W.bind (P:=fun r:List Int=>r≠[]∧r.Nodup∧∀x∈r,x∈os) ?_ fun r hr=>?_
 ·refine W.mono (qeZ (fun i (r:List Int)=>r.length≤i∧r.Nodup∧(∀x∈r,x∈os∧gI f x≤i)∧((∃x∈os,gI f x≤i)→r≠[])) ⟨by simp,by simp,by simp,fun⟨x,hx,q⟩=>by have:=fb x hx;omega⟩ fun i s r hx ⟨h1,h2,h3,h4⟩=>?_) fun r ⟨h1,h2,h3,h4⟩=>⟨h4 ?_,h2,fun x hx=>(h3 x hx).1⟩
  ·have hs:s=(i:Int)+1∧i<6:=by
    match i,hx with
    |0,hx=>simp at hx;omega
    |1,hx=>simp at hx;omega
    |2,hx=>simp at hx;omega
    |3,hx=>simp at hx;omega
    |4,hx=>simp at hx;omega
    |5,hx=>simp at hx;omega
    |i+6,hx=>simp at hx
   rw[gdl (by omega),qkw (p:=fun c=>decide (gI f c=s)) fun c hc=>by rw[qgL (mo c hc).1 (by have:=(mo c hc).2;omega)];rfl]
   simp only[RE.bind_ok]
   rw[qmf (by decide)]
   have t1:((os.filter fun c=>decide (gI f c=s)).take (1:Int).toNat).length≤1:=by rw[List.length_take];exact Nat.min_le_left _ _
   have tm:∀x∈(os.filter fun c=>decide (gI f c=s)).take (1:Int).toNat,x∈os∧gI f x=s:=fun x hx=>by
    have:=List.mem_filter.mp (List.mem_of_mem_take hx)
    exact⟨this.1,by simpa using this.2⟩
   rw[qfn (by omega)]
   refine W.ok ⟨by rw[List.length_append];omega,?_,fun x hx=>?_,fun⟨x,hx,q⟩=>?_⟩
   ·rw[List.nodup_append]
    refine⟨h2,(List.take_sublist _ _).nodup (List.filter_sublist.nodup on),fun a ha b hb e=>?_⟩
    subst e
    have q1:=(h3 a ha).2
    have q2:=(tm a hb).2
    omega
   ·rcases List.mem_append.mp hx with q | q
    ·exact⟨(h3 x q).1,by have:=(h3 x q).2;omega⟩
    ·exact⟨(tm x q).1,by have:=(tm x q).2;omega⟩
   ·rcases Int.lt_or_le (gI f x) ((i:Int)+1) with z | z
    ·have:=h4 ⟨x,hx,by omega⟩
     intro e
     exact this (List.append_eq_nil_iff.mp e).1
    ·intro e
     have e2:=(List.append_eq_nil_iff.mp e).2
     have m:x∈os.filter fun c=>decide (gI f c=s):=List.mem_filter.mpr ⟨hx,by simp;omega⟩
     rcases List.take_eq_nil_iff.mp e2 with q | q
     ·cases q
     ·rw[q] at m;cases m
  ·obtain⟨x,hx⟩:=List.exists_mem_of_ne_nil os one
   exact⟨x,hx,by have:=(fb x hx).2;simpa using this⟩
 ·cases b with
  |true=>exact W.ok hr
  |false =>
   simp only[Bool.false_eq_true,if_false]
   rw[gdl (by omega)]
   refine W.ok ⟨fun e=>?_,List.filter_sublist.nodup on,fun x hx=>(List.mem_filter.mp hx).1⟩
   obtain⟨x,hx⟩:=List.exists_mem_of_ne_nil r hr.1
   have:x∈os.filter fun c=>decide (c∈r):=List.mem_filter.mpr ⟨hr.2.2 x hx,by simpa using hx⟩
   rw[e] at this
   cases this
theorem qkr {f cs:List Int} {n:Int} (hl:(f.length:Int)=n) (hc:∀c∈cs,0≤c∧c<n):∃m,qfQ f cs=.ok m∧0≤m∧m≤cs.length:=by
 suffices h:W (qfQ f cs) fun m=>0≤m∧m≤(cs.length:Int) by
  obtain⟨v,e,h⟩:=h;exact⟨v,e,h⟩
 unfold qfQ
 simp only[RE.bind_ok]
 refine W.bind (P:=fun s:Int × Int=>0≤s.2∧s.2≤(cs.length:Int)) ?_ fun s h=>W.ok h
 refine W.mono (qeZ (fun i (s:Int × Int)=>0≤s.2∧s.2≤(i:Int)) ⟨by decide,by decide⟩ fun i x s hx ⟨h1,h2⟩=>?_) fun s h=>h
 have hm:=hc x (List.mem_of_getElem? hx)
 rw[qgL hm.1 (by omega)]
 simp only[RE.bind_ok]
 split
 ·exact W.ok ⟨by show 0≤s.2+1;omega,by show s.2+1≤((i+1:Nat):Int);omega⟩
 ·exact W.ok ⟨h1,by show s.2≤((i+1:Nat):Int);omega⟩
theorem qpg {fl:Int × Int × Int} (hf:FOk fl) {r:RuleT} (hr:WfR fl r):qjo [32] (r.k.w::(qfU r).map dgI)=.ok (qbo r):=by
 have h:=qed hf hr
 have hw:r.k.w.length≤8:=(qe0 _ (qiy r.k)).2.1
 rw[qk4 (b:=8) (fun w hw'=>?_) (by simp;omega)]
 ·rfl
 ·rcases List.mem_cons.mp hw' with q | q
  ·rw[q];exact hw
  ·obtain⟨n,hn,rfl⟩:=List.mem_map.mp q
   have:=qjW (h.2.1 n hn).1 (h.2.1 n hn).2
   omega
end K19
namespace K19
open Cm
theorem qqi {fl:Int × Int × Int} (hf:FOk fl) (n9:nC fl≤16) {f:List Int} (hl:(f.length:Int)=nC fl) (hb:∀x∈f,1≤x∧x≤fl.2.2) (z:Int):∃r,qgg fl f z=.ok (qbo r)∧WfR fl r:=by
 have n1:=hf.n1
 have s1:=hf.s1
 have s2:=hf.s2
 have en:nC fl=fl.1*fl.2.1:=rfl
 have hb6:∀x∈f,1≤x∧x≤6:=fun x hx=>⟨(hb x hx).1,by have:=(hb x hx).2;omega⟩
 unfold qgg
 rw[qgG (by have:=hf.h1;have:=hf.h2;omega)]
 simp only[RE.bind_ok]
 rw[←en]
 obtain⟨xs,ex,xl⟩:=qmY (z.fdiv 8) (m:=nC fl+3) (by omega) (by omega)
 obtain⟨os,eo,ho⟩:=qo6 (xs:=xs) (m:=nC fl) n1 (by omega) (by omega)
 have ol:=ho.length_eq
 rw[qbk] at ol
 rw[ex]
 simp only[RE.bind_ok]
 rw[eo,qgL (xs:=xs) (k:=nC fl) (by omega) (by omega),qgL (xs:=xs) (k:=nC fl+1) (by omega) (by omega),qgL (xs:=xs) (k:=nC fl+2) (by omega) (by omega)]
 simp only[RE.bind_ok]
 rw[qfy (by omega),qfy (by omega)]
 simp only[RE.bind_ok]
 have bq:=qb9 (gI xs (nC fl)) (n:=nC fl) (by omega)
 have bs:=qb9 (gI xs (nC fl+1)) (n:=fl.2.2) (by omega)
 have bo:=qb9 (gI xs (nC fl+2)) (n:=4) (by decide)
 have bw:=qb9 z (n:=8) (by decide)
 rw[qmf (by omega)]
 generalize (gI xs (nC fl)).fmod (nC fl)=q at bq
 generalize (gI xs (nC fl+1)).fmod fl.2.2=s at bs
 generalize (gI xs (nC fl+2)).fmod 4=o at bo
 generalize z.fmod 8=w at bw
 obtain⟨off,eoff,o0,o1⟩:∃y:Int,atE ([0,0,0,1]:List Int) o=.ok y∧0≤y∧y≤1:=by
  have:o=0∨o=1∨o=2∨o=3:=by omega
  rcases this with e | e | e | e<;>subst e<;>exact⟨_,rfl,by decide,by decide⟩
 rw[eoff]
 simp only[RE.bind_ok]
 have hso:=qfA (n:=1+s) (by omega) (by omega)
 have dl:=qjW (x:=1+s) (by omega) (by omega)
 by_cases w4:4<w
 ·rw[if_pos (decide_eq_true w4)]
  obtain⟨k,ek,hk⟩:∃k:RK,atE ([[106,111,105,110,101,100],[110,111,115,113,117,97,114,101],[114,105,110,103]]:List (List Nat)) (w - 5)=.ok k.w∧qer k=true:=by
   have:w=5∨w=6∨w=7:=by omega
   rcases this with e | e | e<;>subst e
   ·exact⟨.joined,rfl,rfl⟩
   ·exact⟨.nosquare,rfl,rfl⟩
   ·exact⟨.ring,rfl,rfl⟩
  have wl:k.w.length≤8:=(qe0 _ (qiy k)).2.1
  rw[ek,hso]
  simp only[RE.bind_ok]
  rw[qlm (by simp only[List.length_cons,List.length_nil];omega)]
  simp only[RE.bind_ok]
  rw[qlm (by simp only[List.length_append,List.length_cons,List.length_nil];omega)]
  refine⟨⟨k,fl,qdM (nC fl).toNat,0,1+s⟩,?_,qou hf hk (by omega) (by omega)⟩
  rw[qtI hk,List.append_assoc]
 rw[if_neg (by simpa using w4),qqJ]
 have hc0:=qrn (k:=(1+q).toNat) ho n1 (by omega)
 simp only[RE.bind_ok]
 -- the cells
 obtain⟨cs,ec,hc,cl⟩:∃cs,(((if decide (w=0∨w=2)=true then RE.ok (decide (off=0)) else RE.ok false:RE Bool).bind fun k23=>if k23=true then (((qeY os f (decide (w=2))).bind fun x27=>RE.ok (qeu x27 none (some (List.length (os.take (1+q).toNat):Int)))).bind fun aG=>RE.ok aG) else RE.ok (os.take (1+q).toNat)):RE (List Int))=.ok cs∧CsOk fl cs∧cs.length≤16:=by
  obtain⟨r,er,rn,rd,ro⟩:=qqM (b:=decide (w=2)) n1 (by omega) ho hl hb6
  have a1:∃cs,((((qeY os f (decide (w=2))).bind fun x27=>RE.ok (qeu x27 none (some (List.length (os.take (1+q).toNat):Int)))).bind fun aG=>RE.ok aG):RE (List Int))=.ok cs∧CsOk fl cs∧cs.length≤16:=by
   rw[er]
   simp only[RE.bind_ok]
   rw[qmf (by omega),List.length_take]
   refine⟨_,rfl,⟨fun e=>?_,(List.take_sublist _ _).nodup rd,fun c hcc=>?_⟩,?_⟩
   ·rcases List.take_eq_nil_iff.mp e with z | z
    ·omega
    ·exact rn z
   ·have:=qeh.mp (ho.mem_iff.mp (ro c (List.mem_of_mem_take hcc)))
    exact⟨this.1,by omega⟩
   ·rw[List.length_take];omega
  have a2:∃cs,(RE.ok (os.take (1+q).toNat):RE (List Int))=.ok cs∧CsOk fl cs∧cs.length≤16:=⟨_,rfl,hc0,by rw[List.length_take];omega⟩
  by_cases p:(w=0∨w=2)
  ·rw[if_pos (decide_eq_true p)]
   simp only[RE.bind_ok]
   by_cases p2:off=0
   ·rw[if_pos (decide_eq_true p2)];exact a1
   ·rw[if_neg (by simpa using p2)];exact a2
  ·rw[if_neg (by simpa using p)]
   simp only[RE.bind_ok,Bool.false_eq_true,if_false]
   exact a2
 rw[ec]
 simp only[RE.bind_ok]
 have cp:=List.length_pos_iff.mpr hc.ne
 have cb:∀c∈cs,0≤c∧c<100:=fun c hcs=>by have:=hc.inn c hcs;exact⟨this.1,by have:=this.2;omega⟩
 have told:lcE (fun(ao:Int)=>(RE.ok true)) (fun(ao:Int)=>qkQ ao) cs=.ok (cs.map dgI):=qd0 fun c h=>qfA (cb c h).1 (cb c h).2
 have gf:∀c∈cs,atE f c=.ok (gI f c):=fun c h=>qgL (hc.inn c h).1 (by have:=(hc.inn c h).2;omega)
 have fin:∀r:RuleT,WfR fl r→r.cells=cs→∀ns:List Int,qfU r=ns++cs→ns.length≤2→((qf2 (r.k.w::ns.map dgI) (cs.map dgI)).bind fun x87=>qjo [32] x87)=.ok (qbo r):=fun r hr _ ns hn nl=>by
  rw[qfn (by simp;omega)]
  simp only[RE.bind_ok]
  have:=qpg hf hr
  rw[hn,List.map_append] at this
  exact this
 rw[gdl (xs:=cs) (by omega),gdl (xs:=cs) (by omega),gdl (xs:=cs) (by omega),told]
 simp only[RE.bind_ok]
 have:w=0∨w=1∨w=2∨w=3∨w=4:=by omega
 rcases this with e | e | e | e | e<;>subst e
 ·refine⟨⟨.unlike,fl,cs,0,0⟩,?_,qjh hc⟩
  exact fin ⟨.unlike,fl,cs,0,0⟩ (qjh hc) rfl [] rfl (by simp)
 ·rw[qd0 gf]
  have sb:=qud (xs:=cs.map (gI f)) fun x hx=>by
   obtain⟨c,h,rfl⟩:=List.mem_map.mp hx
   have:=hb6 _ (qmx (ms:=f) (hc.inn c h).1 (by have:=(hc.inn c h).2;omega))
   omega
  rw[List.length_map] at sb
  have es:=qfA (n:=(cs.map (gI f)).sum+off) (by omega) (by omega)
  simp only[RE.bind_ok]
  rw[es]
  have wf:=qpc (n:=(cs.map (gI f)).sum+off) hc (by omega) (by omega)
  refine⟨⟨.total,fl,cs,(cs.map (gI f)).sum+off,0⟩,?_,wf⟩
  exact fin _ wf rfl [(cs.map (gI f)).sum+off] rfl (by simp)
 ·refine⟨⟨.rising,fl,cs,0,0⟩,?_,qiP hc⟩
  exact fin ⟨.rising,fl,cs,0,0⟩ (qiP hc) rfl [] rfl (by simp)
 ·obtain⟨m,em,m0,m1⟩:=qkr hl (cs:=cs) fun c h=>hc.inn c h
  rw[em]
  have es:=qfA (n:=m+off) (by omega) (by omega)
  simp only[RE.bind_ok]
  rw[es]
  have wf:=qrD (n:=m+off) hc (by omega) (by omega)
  refine⟨⟨.seen,fl,cs,m+off,0⟩,?_,wf⟩
  exact fin _ wf rfl [m+off] rfl (by simp)
 ·rw[qkw (p:=fun c=>decide (gI f c=1+s)) fun c h=>by rw[gf c h];rfl,hso]
  have fl9:(cs.filter fun c=>decide (gI f c=1+s)).length≤cs.length:=List.length_filter_le _ _
  have es:=qfA (n:=((cs.filter fun c=>decide (gI f c=1+s)).length:Int)+off) (by omega) (by omega)
  simp only[RE.bind_ok]
  rw[es]
  have wf:=qlS (n:=((cs.filter fun c=>decide (gI f c=1+s)).length:Int)+off) (s:=1+s) hc (by omega) (by omega) (by omega) (by omega)
  refine⟨⟨.counted,fl,cs,((cs.filter fun c=>decide (gI f c=1+s)).length:Int)+off,1+s⟩,?_,wf⟩
  exact fin _ wf rfl [((cs.filter fun c=>decide (gI f c=1+s)).length:Int)+off,1+s] rfl (by simp)
end K19
namespace K19
open Cm
theorem qn7 (ns:List Int):∃fl,qfp ns=.ok fl∧FOk fl:=by
 unfold qfp
 simp only[RE.bind_ok,qjQ ns (k:=0) (by decide) (by decide),qjQ ns (k:=1) (by decide) (by decide),qjQ ns (k:=2) (by decide) (by decide)]
 have b1:=qb9 (cv ns 0) (n:=6) (by decide)
 have b2:=qb9 (cv ns 2) (n:=6) (by decide)
 generalize (cv ns 0).fmod 6=i at b1
 generalize (cv ns 2).fmod 6=j at b2
 generalize cv ns 1=z
 have:i=0∨i=1∨i=2∨i=3∨i=4∨i=5:=by omega
 have go:∀(h m:Int),1≤h→h≤6→1≤m→m≤6→h*m≤16→qqj 16 h=.ok (Int.fdiv 16 h)→(if (Int.fdiv 16 h)<6 then (Int.fdiv 16 h) else 6)=m→∃fl,((((qqj 16 h).bind fun x6=>RE.ok (if x6<6 then x6 else 6)).bind fun x8=>qlA z x8).bind fun x10=>RE.ok (1+x10)).bind (fun aS=>RE.ok (h,aS,1+j))=.ok fl∧FOk fl:=fun h m h1 h6 m1 m6 hm e1 e2=>by
  rw[e1]
  simp only[RE.bind_ok]
  rw[e2,qfy (by omega)]
  have b:=qb9 z (n:=m) (by omega)
  refine⟨_,rfl,h1,h6,by show 1≤1+z.fmod m;omega,by show 1+z.fmod m≤6;omega,?_,by show 1≤1+j;omega,by show 1+j≤6;omega⟩
  show h*(1+z.fmod m)≤16
  exact Int.le_trans (Int.mul_le_mul_of_nonneg_left (by omega) (by omega)) hm
 rcases this with e | e | e | e | e | e<;>subst e
 ·exact go 1 6 (by decide) (by decide) (by decide) (by decide) (by decide) rfl rfl
 ·exact go 2 6 (by decide) (by decide) (by decide) (by decide) (by decide) rfl rfl
 ·exact go 3 5 (by decide) (by decide) (by decide) (by decide) (by decide) rfl rfl
 ·exact go 4 4 (by decide) (by decide) (by decide) (by decide) (by decide) rfl rfl
 ·exact go 5 3 (by decide) (by decide) (by decide) (by decide) (by decide) rfl rfl
 ·exact go 6 2 (by decide) (by decide) (by decide) (by decide) (by decide) rfl rfl
theorem qlz (ns:List Int) {fl:Int × Int × Int} (hf:FOk fl) {fi:List Int} (il:(fi.length:Int)=nC fl) (ib:∀x∈fi,1≤x∧x≤fl.2.2) {a:Int} (a0:0≤a) (a1:a≤500):∃cl,qeE ns fi a=.ok cl∧qpe fl cl:=by
 have n16:=qmi hf
 have n1:=hf.n1
 have s1:=hf.s1
 have s2:=hf.s2
 unfold qeE
 simp only[RE.bind_ok]
 rw[gdl (by unfold qjs;simp;omega)]
 refine⟨_,qd0 (g:=fun p=>p.2*((cv ns (a+p.1)).fdiv 7).fmod 2) fun p hp=>?_,?_,fun x hx=>?_⟩
 ·obtain⟨i,hi⟩:=List.getElem?_of_mem hp
  obtain⟨q1,q2⟩:=Cm.qle hi
  have:=(List.getElem?_eq_some_iff.mp q2).1
  rw[qjQ ns (by omega) (by omega)]
  simp only[RE.bind_ok]
  have b:=qb9 ((cv ns (a+p.1)).fdiv 7) (n:=2) (by decide)
  rw[qsH (by omega)]
 ·rw[List.length_map];unfold qjs;simp;exact il
 ·obtain⟨p,hp,rfl⟩:=List.mem_map.mp hx
  obtain⟨i,hi⟩:=List.getElem?_of_mem hp
  obtain⟨q1,q2⟩:=Cm.qle hi
  have b:=qb9 ((cv ns (a+p.1)).fdiv 7) (n:=2) (by decide)
  have f:=ib _ (List.mem_of_getElem? q2)
  have:((cv ns (a+p.1)).fdiv 7).fmod 2=0∨((cv ns (a+p.1)).fdiv 7).fmod 2=1:=by omega
  rcases this with e | e<;>rw[e]<;>omega
theorem flS (xs:List (List Nat)):D.flats (xs.map eS)=true:=qf0 (fun _=>rfl) xs
theorem flI (xs:List Int):D.flats (xs.map eI)=true:=qf0 (fun _=>rfl) xs
theorem qkS {fl:Int × Int × Int} (hf:FOk fl) {rs:List RuleT} (hr:∀r∈rs,WfR fl r):∀x∈rs.map qbo,∀c∈x,c<256:=fun x hx=>by
 obtain⟨r,h,rfl⟩:=List.mem_map.mp hx
 exact qmd hf (hr r h)
theorem qsF {p:PuzT} (hp:WfP p):qnY p p.ground (p.rules.map qbo) p.clues=.ok true:=by
 have n:=hp.n
 have n16:=qmi hp.f
 have c:=hp.c.1
 have le:=qkS hp.f hp.r
 unfold qnY
 rw[qgo hp]
 unfold F.Puzzle_place F.Puzzle_clues F.Puzzle_rules
 have ne:evC .ne ((eT3 eI eI eI) p.ground) ((eT3 eI eI eI) p.ground)=.ok false:=by
  generalize p.ground=x
  obtain⟨a,b,c⟩:=x
  simp[evC,qjH,eT3,eI,D.fit,D.fits,D.eqb,D.eqbs]
 simp only[RE.bind_ok,Bool.not_true,Bool.false_eq_true,if_false]
 rw[ne,qo4 hp.f hp.r]
 simp only[RE.bind_ok,Bool.not_true,Bool.false_eq_true,if_false,decide_true,Bool.or_false]
 have w3:lcE (fun(ao:Int)=>(qdZ ao)) (fun(ao:Int)=>(RE.ok ao)) [p.ground.1,p.ground.2.1,p.ground.2.2]=.ok [p.ground.1,p.ground.2.1,p.ground.2.2]:=rfl
 rw[gdl (by simp),w3]
 simp only[RE.bind_ok,List.length_cons,List.length_nil]
 have w:lcE (fun(ao:Int)=>(qdZ ao)) (fun(ao:Int)=>(RE.ok ao)) p.clues=.ok p.clues:=by
  exact(qkw (c:=fun v=>qdZ v) (p:=fun _=>true) fun _ _=>rfl).trans (congrArg RE.ok (List.filter_eq_self.mpr fun _ _=>rfl))
 rw[gdl (xs:=p.rules.map qbo) (by rw[List.length_map];omega),gdl (xs:=p.clues) (by omega),gdl (xs:=p.rules) (by omega),w,qd0 (g:=qbo) fun r hr=>qkU hp.f (hp.r r hr)]
 simp only[RE.bind_ok]
 rw[qnl le le,List.filter_eq_self.mpr fun _ _=>rfl]
 simp
theorem qlb {ls:List (List Nat)} (hl:∀x∈ls,∀c∈x,c<256) (cl:List Int) (n:Int):(eL eD [eL eS ls,eL eI cl,eI n]).fit 64=true:=by
 show(D.lst [.lst (ls.map eS),.lst (cl.map eI),.int n]).fit 64=true
 simp[D.fit,D.fits,qdN hl,qdT]
theorem qph {ls:List (List Nat)} (hl:∀x∈ls,∀c∈x,c<256) (cl ot:List Int):(eL (eL eD) [ls.map eS,cl.map eI,ot.map eI]).fit 64=true:=by
 show(D.lst [.lst ((ls.map eS).map eD),.lst ((cl.map eI).map eD),.lst ((ot.map eI).map eD)]).fit 64=true
 rw[qjJ,qjJ,qjJ]
 simp[D.fit,D.fits,qdN hl,qdT]
theorem main (ns:List Int):qmP ns=.ok true:=by
 obtain⟨fl,ef,hf⟩:=qn7 ns
 obtain⟨fi,ei,il,ib⟩:=qlR ns hf (a:=20) (by decide) (by decide)
 have n1:=hf.n1
 have n16:=qmi hf
 have s1:=hf.s1
 have s2:=hf.s2
 unfold qmP
 rw[ef]
 simp only[RE.bind_ok]
 rw[ei,qjQ ns (k:=3) (by decide) (by decide)]
 simp only[RE.bind_ok]
 have b13:=qb9 (cv ns 3) (n:=13) (by decide)
 rw[qeU (by omega) (by omega)]
 simp only[RE.bind_ok]
 obtain⟨rs,er,rl,hr⟩:=qhx (fl:=fl) (f:=fun(aB:Int)=>((qkF ns (4+aB)).bind fun x6=>qgg fl fi x6)) (xs:=qdM ((cv ns 3).fmod 13).toNat) fun k hk=>by
  have:=qeh.mp hk
  rw[qjQ ns (by omega) (by omega)]
  exact qqi hf (by omega) il ib _
 rw[qbk] at rl
 rw[gdl (by rw[qbk];omega),er]
 simp only[RE.bind_ok]
 obtain⟨cl,ec,hc⟩:=qlz ns hf il ib (a:=36) (by decide) (by decide)
 obtain⟨ot,eo,ho⟩:=qlz ns hf (fi:=fi.reverse) (by rw[List.length_reverse];exact il) (fun x hx=>ib x (List.mem_reverse.mp hx)) (a:=45) (by decide) (by decide)
 rw[ec,show ql7 fi=.ok fi.reverse from gdl (by omega)]
 simp only[RE.bind_ok]
 rw[eo]
 simp only[RE.bind_ok]
 rw[flS,flI,flI]
 simp only[qgs,RE.bind_ok]
 have r12:rs.length≤12:=by omega
 have le:=qkS hf hr
 have cl_:=hc.1
 have ol:=ho.1
 rw[gdl (by simp)]
 simp only[RE.bind_ok]
 obtain⟨ep,hp⟩:=qpB (ls:=rs.map qbo) hf rfl r12 hr hc
 obtain⟨ea,ha⟩:=qon hp ho
 rw[qmF,qtp,qtf]
 simp only[RE.bind_ok]
 rw[qhG,qhG]
 simp only[RE.bind_ok]
 rw[ep,qhr (qph le cl ot)]
 simp only[RE.bind_ok,qpI,Bool.false_eq_true,if_false]
 have i1:=qsF hp
 have i2:=qsF ha
 rw[i1]
 simp only[RE.bind_ok,Bool.not_true,Bool.false_eq_true,if_false]
 rw[ea]
 simp only[RE.bind_ok,qpI]
 have a1:qnU [(rs.map qbo).map eS,cl.map eI,ot.map eI] 0 (eS [115,117,109,32,48,32,48])=.ok [(rs.map qbo).map eS++[eS [115,117,109,32,48,32,48]],cl.map eI,ot.map eI]:=by
  show gd (leB (((rs.map qbo).map eS).length+1)) _=_
  rw[qiw (qnZ (by have:LIM=16777216:=rfl;rw[List.length_map,List.length_map];omega))]
  rfl
 rw[a1]
 simp only[RE.bind_ok]
 have a2:qot [(rs.map qbo).map eS++[eS [115,117,109,32,48,32,48]],cl.map eI,ot.map eI] 1=.ok [(rs.map qbo).map eS++[eS [115,117,109,32,48,32,48]],[],ot.map eI]:=rfl
 rw[a2]
 simp only[RE.bind_ok]
 obtain⟨h3,a3⟩:∃h,qjl [(rs.map qbo).map eS++[eS [115,117,109,32,48,32,48]],[],ot.map eI] 2 0 (eI (-1))=.ok h:=by
  have e:L2.ixN (ot.map eI).length 0=some 0:=by
   unfold L2.ixN
   rw[List.length_map,if_pos (by omega),if_pos (by omega)];rfl
  unfold qjl
  simp only[List.getElem?_cons_succ,List.getElem?_cons_zero]
  rw[e]
  exact⟨_,rfl⟩
 rw[a3]
 simp only[RE.bind_ok]
 rw[i2]
 simp only[RE.bind_ok,Bool.not_true,Bool.false_eq_true,if_false]
 rw[qgo hp]
 unfold F.Puzzle_clues F.Puzzle_rules
 simp only[RE.bind_ok]
 have t1:∀(xs:List (List Nat)) (x:List Nat),xs.length≤1000→qlP xs x=.ok ():=fun xs x h=>qiw (qnZ (by have:LIM=16777216:=rfl;omega))
 have t2:∀(xs:List Int) (x:Int),xs.length≤1000→qlP xs x=.ok ():=fun xs x h=>qiw (qnZ (by have:LIM=16777216:=rfl;omega))
 rw[t1 _ _ (by rw[List.length_map];omega),t2 _ _ (by omega)]
 simp only[RE.bind_ok]
 rw[List.length_map,qhr (qlb le cl _),qhi (qlb le cl _)]
 simp only[RE.bind_ok,Bool.not_true,Bool.false_eq_true,if_false,if_true]
 try rfl
theorem law_true:∀ns:List Int,ns.length≤63→(∀z∈ns,PySem.Builtin.Int.intBits z≤1048576)→∃b,g_law [.lst (ns.map D.int)]=.ok (.val (.bl true) b):=
 fun ns _ _=>qr3 (qtz ns) (main ns)
end K19
set_option maxHeartbeats 0
namespace K19
open Cm PySem PySem.Spec PyProof.Rows L2
def FL:Nat→List Str:=fun c=>match c with
 |0=>["ground","cells","wanted","of_sign"]
 |1=>["ground","cells","wanted","of_sign"]
 |2=>["ground","cells","wanted","of_sign"]
 |3=>["ground","cells","wanted","of_sign"]
 |4=>["ground","cells","wanted","of_sign"]
 |5=>["ground","cells","wanted","of_sign"]
 |6=>["ground","cells","wanted","of_sign"]
 |7=>["ground","cells","wanted","of_sign"]
 |25=>["ground","rule_list","clue_list"]
 |_=>[]
def GK (K:PySem.W.Frag):Glo:=⟨K,fun c=>match c with
 |0=>He.ga K "Unlike"
 |1=>He.ga K "Total"
 |2=>He.ga K "Rising"
 |3=>He.ga K "Seen"
 |4=>He.ga K "Counted"
 |5=>He.ga K "Joined"
 |6=>He.ga K "NoSquare"
 |7=>He.ga K "Ring"
 |25=>He.ga K "Puzzle"
 |31=>He.ga K "NoFloor"
 |33=>He.ga K "NoRule"
 |34=>He.ga K "NoPuzzle"
 |_=>0,FL⟩
def qeV:Tb:={ N:=["_law_script","_law_k","_law_mixed"],fn:=[],gc:=[],mn:=[],fs:=[],nw:=[],ck:=[],xk:=[],dc:=[] }
theorem ql9:FnScope qeV.N ["_law_script","_law_k"] (defScope (top 36)):=⟨rfl,rfl,rfl,by decide +kernel,rfl,by decide +kernel,by decide +kernel⟩
theorem qm7:qah qeV (defScope (top 36)) qdR (defBody (top 36))=true:=by decide +kernel
def qcQ:Tb:={ N:=["_law_script","_law_high","_law_wide"],fn:=[("_law_at",2)],gc:=[],mn:=[],fs:=[],nw:=[],ck:=[],xk:=[],dc:=[] }
theorem qjd:FnScope qcQ.N ["_law_script"] (defScope (top 38)):=⟨rfl,rfl,rfl,by decide +kernel,rfl,by decide +kernel,by decide +kernel⟩
theorem qjE:qah qcQ (defScope (top 38)) qb3 (defBody (top 38))=true:=by decide +kernel
def qbG:Tb:={ N:=["_law_script","_law_floor_here","_law_at_here","_law_k"],fn:=[("_law_at",2)],gc:=[],mn:=[],fs:=[],nw:=[],ck:=[],xk:=[],dc:=[] }
theorem qg1:FnScope qbG.N ["_law_script","_law_floor_here","_law_at_here"] (defScope (top 44)):=⟨rfl,rfl,rfl,by decide +kernel,rfl,by decide +kernel,by decide +kernel⟩
theorem qgM:qah qbG (defScope (top 44)) qbe (defBody (top 44))=true:=by decide +kernel
def qcb:Tb:={ N:=["_law_cell","_law_many","_law_number","_law_found","_law_k"],fn:=[],gc:=[],mn:=[],fs:=[],nw:=[],ck:=[],xk:=[],dc:=[] }
theorem qhW:FnScope qcb.N ["_law_cell","_law_many"] (defScope (top 39)):=⟨rfl,rfl,rfl,by decide +kernel,rfl,by decide +kernel,by decide +kernel⟩
theorem qh1:qah qcb (defScope (top 39)) qbw (defBody (top 39))=true:=by decide +kernel
def qcR:Tb:={ N:=["_law_xs","_law_many","_law_left","_law_order_here","_law_k"],fn:=[],gc:=[],mn:=[],fs:=[],nw:=[],ck:=[],xk:=[],dc:=[] }
theorem qi0:FnScope qcR.N ["_law_xs","_law_many"] (defScope (top 40)):=⟨rfl,rfl,rfl,by decide +kernel,rfl,by decide +kernel,by decide +kernel⟩
theorem qiZ:qah qcR (defScope (top 40)) qbX (defBody (top 40))=true:=by decide +kernel
def qdf:Tb:={ N:=["_law_order_here","_law_filling_here","_law_rising","_law_kept_here","_law_sign","_law_some","_law_cell"],fn:=[],gc:=[],mn:=[],fs:=[],nw:=[],ck:=[],xk:=[],dc:=[] }
theorem qkP:FnScope qdf.N ["_law_order_here","_law_filling_here","_law_rising"] (defScope (top 41)):=⟨rfl,rfl,rfl,by decide +kernel,rfl,by decide +kernel,by decide +kernel⟩
theorem qky:qah qdf (defScope (top 41)) qcl (defBody (top 41))=true:=by decide +kernel
def qdA:Tb:={ N:=["_law_filling_here","_law_cells","_law_greatest","_law_many","_law_cell"],fn:=[],gc:=[],mn:=[],fs:=[],nw:=[],ck:=[],xk:=[],dc:=[] }
theorem qj4:FnScope qdA.N ["_law_filling_here","_law_cells"] (defScope (top 42)):=⟨rfl,rfl,rfl,by decide +kernel,rfl,by decide +kernel,by decide +kernel⟩
theorem qjR:qah qdA (defScope (top 42)) qcC (defBody (top 42))=true:=by decide +kernel
def qdy:Tb:={ N:=["_law_floor_here","_law_filling_here","_law_cell","_law_many","_law_xs","_law_order_here","_law_some","_law_sign","_law_off","_law_way","_law_words","_law_one"],fn:=[("_law_stream",2),("_law_order",2),("_law_kept",3),("_law_seen",2)],gc:=[],mn:=[],fs:=[],nw:=[],ck:=[],xk:=[],dc:=[] }
theorem qkj:FnScope qdy.N ["_law_floor_here","_law_filling_here","_law_cell"] (defScope (top 43)):=⟨rfl,rfl,rfl,by decide +kernel,rfl,by decide +kernel,by decide +kernel⟩
theorem qjY:qah qdy (defScope (top 43)) qcx (defBody (top 43))=true:=by decide +kernel
def qcW:Tb:={ N:=["_law_script","_law_filling_here","_law_at_here","_law_k","_law_sign"],fn:=[("_law_at",2)],gc:=[],mn:=[],fs:=[],nw:=[],ck:=[],xk:=[],dc:=[] }
theorem qji:FnScope qcW.N ["_law_script","_law_filling_here","_law_at_here"] (defScope (top 45)):=⟨rfl,rfl,rfl,by decide +kernel,rfl,by decide +kernel,by decide +kernel⟩
theorem qjK:qah qcW (defScope (top 45)) qbY (defBody (top 45))=true:=by decide +kernel
def qcS:Tb:={ N:=["_law_found"],fn:=[],gc:=[],mn:=[],fs:=[],nw:=[],ck:=[],xk:=[],dc:=[] }
theorem qiK:FnScope qcS.N ["_law_found"] (defScope (top 37)):=⟨rfl,rfl,rfl,by decide +kernel,rfl,by decide +kernel,by decide +kernel⟩
theorem qir:qah qcS (defScope (top 37)) qb7 (defBody (top 37))=true:=by decide +kernel
def qbN:Tb:={ N:=["self"],fn:=[],gc:=[],mn:=[],fs:=["ground"],nw:=[],ck:=[],xk:=[],dc:=[] }
theorem qgO:FnScope qbN.N ["self"] (defScope (sub 34 1)):=⟨rfl,rfl,rfl,by decide +kernel,rfl,by decide +kernel,by decide +kernel⟩
theorem qg0:qah qbN (defScope (sub 34 1)) qbf (defBody (sub 34 1))=true:=by decide +kernel
def qcc:Tb:={ N:=["self"],fn:=[],gc:=[],mn:=[],fs:=[],nw:=[],ck:=[],xk:=[],dc:=[] }
theorem qif:FnScope qcc.N ["self"] (defScope (sub 16 0)):=⟨rfl,rfl,rfl,by decide +kernel,rfl,by decide +kernel,by decide +kernel⟩
theorem qig:qah qcc (defScope (sub 16 0)) qbv (defBody (sub 16 0))=true:=by decide +kernel
def qcV:Tb:={ N:=["self"],fn:=[],gc:=[],mn:=[],fs:=[],nw:=[],ck:=[],xk:=[],dc:=[] }
theorem qi6:FnScope qcV.N ["self"] (defScope (sub 17 0)):=⟨rfl,rfl,rfl,by decide +kernel,rfl,by decide +kernel,by decide +kernel⟩
theorem qiz:qah qcV (defScope (sub 17 0)) qbV (defBody (sub 17 0))=true:=by decide +kernel
def qcf:Tb:={ N:=["self"],fn:=[],gc:=[],mn:=[],fs:=[],nw:=[],ck:=[],xk:=[],dc:=[] }
theorem qhT:FnScope qcf.N ["self"] (defScope (sub 18 0)):=⟨rfl,rfl,rfl,by decide +kernel,rfl,by decide +kernel,by decide +kernel⟩
theorem qhS:qah qcf (defScope (sub 18 0)) qby (defBody (sub 18 0))=true:=by decide +kernel
def qdw:Tb:={ N:=["self"],fn:=[],gc:=[],mn:=[],fs:=[],nw:=[],ck:=[],xk:=[],dc:=[] }
theorem qkK:FnScope qdw.N ["self"] (defScope (sub 19 0)):=⟨rfl,rfl,rfl,by decide +kernel,rfl,by decide +kernel,by decide +kernel⟩
theorem qkO:qah qdw (defScope (sub 19 0)) qcv (defBody (sub 19 0))=true:=by decide +kernel
def qbM:Tb:={ N:=["self"],fn:=[],gc:=[],mn:=[],fs:=[],nw:=[],ck:=[],xk:=[],dc:=[] }
theorem qgQ:FnScope qbM.N ["self"] (defScope (sub 20 0)):=⟨rfl,rfl,rfl,by decide +kernel,rfl,by decide +kernel,by decide +kernel⟩
theorem qgW:qah qbM (defScope (sub 20 0)) qbd (defBody (sub 20 0))=true:=by decide +kernel
def qcj:Tb:={ N:=["self"],fn:=[],gc:=[],mn:=[],fs:=[],nw:=[],ck:=[],xk:=[],dc:=[] }
theorem qh6:FnScope qcj.N ["self"] (defScope (sub 21 0)):=⟨rfl,rfl,rfl,by decide +kernel,rfl,by decide +kernel,by decide +kernel⟩
theorem qh3:qah qcj (defScope (sub 21 0)) qbr (defBody (sub 21 0))=true:=by decide +kernel
def qbt:Tb:={ N:=["self"],fn:=[],gc:=[],mn:=[],fs:=[],nw:=[],ck:=[],xk:=[],dc:=[] }
theorem qgb:FnScope qbt.N ["self"] (defScope (sub 22 0)):=⟨rfl,rfl,rfl,by decide +kernel,rfl,by decide +kernel,by decide +kernel⟩
theorem qgx:qah qbt (defScope (sub 22 0)) qaY (defBody (sub 22 0))=true:=by decide +kernel
def qdu:Tb:={ N:=["self"],fn:=[],gc:=[],mn:=[],fs:=[],nw:=[],ck:=[],xk:=[],dc:=[] }
theorem qkx:FnScope qdu.N ["self"] (defScope (sub 23 0)):=⟨rfl,rfl,rfl,by decide +kernel,rfl,by decide +kernel,by decide +kernel⟩
theorem qkt:qah qdu (defScope (sub 23 0)) qcw (defBody (sub 23 0))=true:=by decide +kernel
def qaA:Tb:={ N:=["self"],fn:=[],gc:=[],mn:=[],fs:=["cells"],nw:=[],ck:=[],xk:=[],dc:=[] }
theorem qcy:FnScope qaA.N ["self"] (defScope (sub 15 8)):=⟨rfl,rfl,rfl,by decide +kernel,rfl,by decide +kernel,by decide +kernel⟩
theorem qcr:qah qaA (defScope (sub 15 8)) qao (defBody (sub 15 8))=true:=by decide +kernel
def qaO:Tb:={ N:=["self"],fn:=[],gc:=[],mn:=[],fs:=["wanted","cells"],nw:=[],ck:=[],xk:=[],dc:=[] }
theorem qej:FnScope qaO.N ["self"] (defScope (sub 17 3)):=⟨rfl,rfl,rfl,by decide +kernel,rfl,by decide +kernel,by decide +kernel⟩
theorem qen:qah qaO (defScope (sub 17 3)) qau (defBody (sub 17 3))=true:=by decide +kernel
def qaU:Tb:={ N:=["self"],fn:=[],gc:=[],mn:=[],fs:=["wanted","cells"],nw:=[],ck:=[],xk:=[],dc:=[] }
theorem qeP:FnScope qaU.N ["self"] (defScope (sub 19 3)):=⟨rfl,rfl,rfl,by decide +kernel,rfl,by decide +kernel,by decide +kernel⟩
theorem qeQ:qah qaU (defScope (sub 19 3)) qaF (defBody (sub 19 3))=true:=by decide +kernel
def qaK:Tb:={ N:=["self"],fn:=[],gc:=[],mn:=[],fs:=["wanted","of_sign","cells"],nw:=[],ck:=[],xk:=[],dc:=[] }
theorem qdE:FnScope qaK.N ["self"] (defScope (sub 20 2)):=⟨rfl,rfl,rfl,by decide +kernel,rfl,by decide +kernel,by decide +kernel⟩
theorem qdF:qah qaK (defScope (sub 20 2)) qal (defBody (sub 20 2))=true:=by decide +kernel
def qaL:Tb:={ N:=["self"],fn:=[],gc:=[],mn:=[],fs:=["of_sign"],nw:=[],ck:=[],xk:=[],dc:=[] }
theorem qdQ:FnScope qaL.N ["self"] (defScope (sub 21 2)):=⟨rfl,rfl,rfl,by decide +kernel,rfl,by decide +kernel,by decide +kernel⟩
theorem qd1:qah qaL (defScope (sub 21 2)) qap (defBody (sub 21 2))=true:=by decide +kernel
def qaw:Tb:={ N:=["self"],fn:=[],gc:=[],mn:=[],fs:=["of_sign"],nw:=[],ck:=[],xk:=[],dc:=[] }
theorem qdB:FnScope qaw.N ["self"] (defScope (sub 22 2)):=⟨rfl,rfl,rfl,by decide +kernel,rfl,by decide +kernel,by decide +kernel⟩
theorem qdm:qah qaw (defScope (sub 22 2)) qai (defBody (sub 22 2))=true:=by decide +kernel
def qaS:Tb:={ N:=["self"],fn:=[],gc:=[],mn:=[],fs:=["of_sign"],nw:=[],ck:=[],xk:=[],dc:=[] }
theorem qeJ:FnScope qaS.N ["self"] (defScope (sub 23 2)):=⟨rfl,rfl,rfl,by decide +kernel,rfl,by decide +kernel,by decide +kernel⟩
theorem qeF:qah qaS (defScope (sub 23 2)) qaE (defBody (sub 23 2))=true:=by decide +kernel
def qaC:Tb:={ N:=["self","number"],fn:=[],gc:=[],mn:=[("name",0),("told_numbers",0)],fs:=[],nw:=[],ck:=[],xk:=[],dc:=[] }
theorem qa0:FnScope qaC.N ["self"] (defScope (sub 15 7)):=⟨rfl,rfl,rfl,by decide +kernel,rfl,by decide +kernel,by decide +kernel⟩
theorem qaX:qah qaC (defScope (sub 15 7)) qat (defBody (sub 15 7))=true:=by decide +kernel
def qbK:Tb:={ N:=["self","rule"],fn:=[],gc:=[],mn:=[("line",0)],fs:=["rule_list"],nw:=[],ck:=[],xk:=[],dc:=[] }
theorem qgY:FnScope qbK.N ["self"] (defScope (sub 34 3)):=⟨rfl,rfl,rfl,by decide +kernel,rfl,by decide +kernel,by decide +kernel⟩
theorem qhe:qah qbK (defScope (sub 34 3)) qbb (defBody (sub 34 3))=true:=by decide +kernel
def qbT:Tb:={ N:=["self"],fn:=[],gc:=[],mn:=[],fs:=["clue_list"],nw:=[],ck:=[],xk:=[],dc:=[] }
theorem qgN:FnScope qbT.N ["self"] (defScope (sub 34 4)):=⟨rfl,rfl,rfl,by decide +kernel,rfl,by decide +kernel,by decide +kernel⟩
theorem qgR:qah qbT (defScope (sub 34 4)) qa9 (defBody (sub 34 4))=true:=by decide +kernel
def qbJ:Tb:={ N:=["self"],fn:=[],gc:=[],mn:=[],fs:=["rule_list"],nw:=[],ck:=[],xk:=[],dc:=[] }
theorem qhf:FnScope qbJ.N ["self"] (defScope (sub 34 5)):=⟨rfl,rfl,rfl,by decide +kernel,rfl,by decide +kernel,by decide +kernel⟩
theorem qgK:qah qbJ (defScope (sub 34 5)) qba (defBody (sub 34 5))=true:=by decide +kernel
def qeW:Tb:={ N:=["_law_puzzle","_law_floor_here","_law_lines","_law_clues_here","_law_found","_law_one","_law_rows","_law_signs","_law_row","_law_sign","_law_rules","_law_rule"],fn:=[("_law_whole",1)],gc:=[],mn:=[("place",0),("lines",0),("clues",0),("rules",0),("line",0)],fs:=[],nw:=[],ck:=[],xk:=[],dc:=[] }
theorem qmR:FnScope qeW.N ["_law_puzzle","_law_floor_here","_law_lines","_law_clues_here"] (defScope (top 46)):=⟨rfl,rfl,rfl,by decide +kernel,rfl,by decide +kernel,by decide +kernel⟩
theorem qml:qah qeW (defScope (top 46)) qdV (defBody (top 46))=true:=by decide +kernel
def qec:Tb:={ N:=["high","wide","signs"],fn:=[],gc:=["MOST_SIDE","MOST_CELLS","MOST_SIGNS"],mn:=[],fs:=[],nw:=[],ck:=[],xk:=["NoFloor"],dc:=[] }
theorem qlE:FnScope qec.N ["high","wide","signs"] (defScope (top 10)):=⟨rfl,rfl,rfl,by decide +kernel,rfl,by decide +kernel,by decide +kernel⟩
theorem qlD:qah qec (defScope (top 10)) qc7 (defBody (top 10))=true:=by decide +kernel
def qdk:Tb:={ N:=["word","sign"],fn:=[],gc:=["LONGEST","FIGURES"],mn:=[],fs:=[],nw:=[],ck:=[],xk:=["NoRule"],dc:=[] }
theorem qjO:FnScope qdk.N ["word"] (defScope (top 27)):=⟨rfl,rfl,rfl,by decide +kernel,rfl,by decide +kernel,by decide +kernel⟩
theorem qjZ:qah qdk (defScope (top 27)) qcn (defBody (top 27))=true:=by decide +kernel
def qdz:Tb:={ N:=["floor","numbers","at"],fn:=[],gc:=[],mn:=[],fs:=[],nw:=[],ck:=[],xk:=["NoRule"],dc:=[] }
theorem qj6:FnScope qdz.N ["floor","numbers","at"] (defScope (top 28)):=⟨rfl,rfl,rfl,by decide +kernel,rfl,by decide +kernel,by decide +kernel⟩
theorem qkk:qah qdz (defScope (top 28)) qcm (defBody (top 28))=true:=by decide +kernel
def qcF:Tb:={ N:=["floor"],fn:=[],gc:=[],mn:=[],fs:=[],nw:=[],ck:=[],xk:=[],dc:=[] }
theorem qiC:FnScope qcF.N ["floor"] (defScope (top 11)):=⟨rfl,rfl,rfl,by decide +kernel,rfl,by decide +kernel,by decide +kernel⟩
theorem qiA:qah qcF (defScope (top 11)) qb2 (defBody (top 11))=true:=by decide +kernel
def qae:Tb:={ N:=["self","ground","cells","wanted","of_sign"],fn:=[],gc:=[],mn:=[],fs:=["ground","cells","wanted","of_sign"],nw:=[],ck:=[],xk:=[],dc:=[] }
theorem qar:FnScope qae.N ["self","ground","cells","wanted","of_sign"] (defScope (sub 15 0)):=⟨rfl,rfl,rfl,by decide +kernel,rfl,by decide +kernel,by decide +kernel⟩
theorem qas:qah qae (defScope (sub 15 0)) qaa (defBody (sub 15 0))=true:=by decide +kernel
def qcU:Tb:={ N:=["floor","word","numbers","sign","cells"],fn:=[("sign_told",3),("many_cells",1)],gc:=[],mn:=[],fs:=[],nw:=[("Joined",4),("NoSquare",4),("Ring",4)],ck:=[],xk:=["NoRule"],dc:=[] }
theorem qi2:FnScope qcU.N ["floor","word","numbers"] (defScope (top 30)):=⟨rfl,rfl,rfl,by decide +kernel,rfl,by decide +kernel,by decide +kernel⟩
theorem qjG:qah qcU (defScope (top 30)) qbW (defBody (top 30))=true:=by decide +kernel
def qcL:Tb:={ N:=["floor","numbers"],fn:=[("many_cells",1)],gc:=[],mn:=[],fs:=[],nw:=[],ck:=[],xk:=["NoRule"],dc:=[] }
theorem qjk:FnScope qcL.N ["floor","numbers"] (defScope (top 29)):=⟨rfl,rfl,rfl,by decide +kernel,rfl,by decide +kernel,by decide +kernel⟩
theorem qiI:qah qcL (defScope (top 29)) qbU (defBody (top 29))=true:=by decide +kernel
def qdt:Tb:={ N:=["floor","line","words","word","numbers","one","sign","cells"],fn:=[("number_of",1),("whole_rule",3),("cells_told",2),("sign_told",3)],gc:=[],mn:=[],fs:=[],nw:=[("Unlike",4),("Rising",4),("Counted",4),("Total",4),("Seen",4)],ck:=[],xk:=["NoRule"],dc:=[] }
theorem qkI:FnScope qdt.N ["floor","line"] (defScope (top 31)):=⟨rfl,rfl,rfl,by decide +kernel,rfl,by decide +kernel,by decide +kernel⟩
theorem qkq:qah qdt (defScope (top 31)) qcu (defBody (top 31))=true:=by decide +kernel
def qcN:Tb:={ N:=["floor","filling","sign"],fn:=[("many_cells",1)],gc:=[],mn:=[],fs:=[],nw:=[],ck:=[],xk:=[],dc:=[] }
theorem qiS:FnScope qcN.N ["floor","filling"] (defScope (top 13)):=⟨rfl,rfl,rfl,by decide +kernel,rfl,by decide +kernel,by decide +kernel⟩
theorem qjf:qah qcN (defScope (top 13)) qb4 (defBody (top 13))=true:=by decide +kernel
def qa4:Tb:={ N:=["self","floor","lines","clues","line"],fn:=[("floor_of",3),("read_rule",2),("is_filling",2)],gc:=["MOST_RULES"],mn:=[],fs:=["ground","rule_list","clue_list"],nw:=[],ck:=[],xk:=["NoFloor","NoPuzzle"],dc:=[] }
theorem qfl:FnScope qa4.N ["self","floor","lines","clues"] (defScope (sub 34 0)):=⟨rfl,rfl,rfl,by decide +kernel,rfl,by decide +kernel,by decide +kernel⟩
theorem qfm:qah qa4 (defScope (sub 34 0)) qa6 (defBody (sub 34 0))=true:=by decide +kernel
def qbE:Tb:={ N:=["self","clues"],fn:=[],gc:=[],mn:=[("lines",0)],fs:=["ground"],nw:=[("Puzzle",3)],ck:=[],xk:=[],dc:=[] }
theorem qg2:FnScope qbE.N ["self","clues"] (defScope (sub 34 10)):=⟨rfl,rfl,rfl,by decide +kernel,rfl,by decide +kernel,by decide +kernel⟩
theorem qgP:qah qbE (defScope (sub 34 10)) qbc (defBody (sub 34 10))=true:=by decide +kernel
def qov:Tb:={ N:=["_law_script","_law_floor_here","_law_filling_here","_law_lines","_law_k","_law_clues_here","_law_others","_law_handed","_law_puzzle","_law_again","_law_told"],fn:=[("_law_floor",1),("_law_filling",3),("_law_at",2),("_law_line",3),("_law_clues",3),("_law_is",4)],gc:=[],mn:=[("clued",1),("lines",0),("clues",0),("rules",0)],fs:=[],nw:=[("Puzzle",3)],ck:=[],xk:=[],dc:=[] }
theorem qtd:FnScope qov.N ["_law_script"] (defScope (top 47)):=⟨rfl,rfl,rfl,by decide +kernel,rfl,by decide +kernel,by decide +kernel⟩
theorem qtC:qah qov (defScope (top 47)) qm5 (defBody (top 47))=true:=by decide +kernel
section
variable {P:Program} {w:World} {K:PySem.W.Frag} {h:Heap} {mg:Str→Option Value} {base:Heap}
section
variable (c:He.SaysD fa fn K) (cx:qts xa K=true) (ct:qui ts w K) (X:K.In h) (N:h.Ns mainGlobals mg)
include c cx ct X N
theorem ql6:TabOk P w K mg base qeV qfd (GK K) 0:=
 qc3 (mts:=[]) (fds:=[]) c X N trivial trivial rfl trivial rfl trivial trivial trivial trivial trivial
theorem qe9:DefAt P w K mg base (GK K) 1 "_law_at" 2 g__law_at:=
 qib (G:=GK K) (T:=qeV) (Γ:=qfd) (k:=0) (m:=1) (i:=0) (j:=21) (ir:=qdR) (ps:=["_law_script","_law_k"]) (d:=qjq) c X N rfl rfl rfl rfl rfl rfl ql9 rfl qm7 (fun _ _ _ _ _ _ us hl=>match us,hl with | [_,_],_=>rfl) (ql6 c cx ct X N)
theorem qiY:TabOk P w K mg base qcQ qcJ (GK K) 1:=
 qc3 (mts:=[]) (fds:=[]) c X N ⟨(qe9 c cx ct X N).mono (by decide),trivial⟩ trivial rfl trivial rfl trivial trivial trivial trivial trivial
theorem qix:DefAt P w K mg base (GK K) 2 "_law_floor" 1 g__law_floor:=
 qib (G:=GK K) (T:=qcQ) (Γ:=qcJ) (k:=1) (m:=2) (i:=1) (j:=22) (ir:=qb3) (ps:=["_law_script"]) (d:=qfR) c X N rfl rfl rfl rfl rfl rfl qjd rfl qjE (fun _ _ _ _ _ _ us hl=>match us,hl with | [_],_=>rfl) (qiY c cx ct X N)
theorem qg4:TabOk P w K mg base qbG qbD (GK K) 1:=
 qc3 (mts:=[]) (fds:=[]) c X N ⟨(qe9 c cx ct X N).mono (by decide),trivial⟩ trivial rfl trivial rfl trivial trivial trivial trivial trivial
theorem qg5:DefAt P w K mg base (GK K) 2 "_law_filling" 3 g__law_filling:=
 qib (G:=GK K) (T:=qbG) (Γ:=qbD) (k:=1) (m:=1) (i:=2) (j:=23) (ir:=qbe) (ps:=["_law_script","_law_floor_here","_law_at_here"]) (d:=qeB) c X N rfl rfl rfl rfl rfl rfl qg1 rfl qgM (fun _ _ _ _ _ _ us hl=>match us,hl with | [_,_,_],_=>rfl) (qg4 c cx ct X N)
theorem qh5:TabOk P w K mg base qcb qch (GK K) 0:=
 qc3 (mts:=[]) (fds:=[]) c X N trivial trivial rfl trivial rfl trivial trivial trivial trivial trivial
theorem qhF:DefAt P w K mg base (GK K) 1 "_law_stream" 2 g__law_stream:=
 qib (G:=GK K) (T:=qcb) (Γ:=qch) (k:=0) (m:=3) (i:=3) (j:=24) (ir:=qbw) (ps:=["_law_cell","_law_many"]) (d:=qfg) c X N rfl rfl rfl rfl rfl rfl qhW rfl qh1 (fun _ _ _ _ _ _ us hl=>match us,hl with | [_,_],_=>rfl) (qh5 c cx ct X N)
theorem qjn:TabOk P w K mg base qcR qcH (GK K) 0:=
 qc3 (mts:=[]) (fds:=[]) c X N trivial trivial rfl trivial rfl trivial trivial trivial trivial trivial
theorem qjC:DefAt P w K mg base (GK K) 1 "_law_order" 2 g__law_order:=
 qib (G:=GK K) (T:=qcR) (Γ:=qcH) (k:=0) (m:=3) (i:=4) (j:=25) (ir:=qbX) (ps:=["_law_xs","_law_many"]) (d:=qfO) c X N rfl rfl rfl rfl rfl rfl qi0 rfl qiZ (fun _ _ _ _ _ _ us hl=>match us,hl with | [_,_],_=>rfl) (qjn c cx ct X N)
theorem qkn:TabOk P w K mg base qdf qds (GK K) 0:=
 qc3 (mts:=[]) (fds:=[]) c X N trivial trivial rfl trivial rfl trivial trivial trivial trivial trivial
theorem qkD:DefAt P w K mg base (GK K) 1 "_law_kept" 3 g__law_kept:=
 qib (G:=GK K) (T:=qdf) (Γ:=qds) (k:=0) (m:=4) (i:=5) (j:=26) (ir:=qcl) (ps:=["_law_order_here","_law_filling_here","_law_rising"]) (d:=qgB) c X N rfl rfl rfl rfl rfl rfl qkP rfl qky (fun _ _ _ _ _ _ us hl=>match us,hl with | [_,_,_],_=>rfl) (qkn c cx ct X N)
theorem qkG:TabOk P w K mg base qdA qdh (GK K) 0:=
 qc3 (mts:=[]) (fds:=[]) c X N trivial trivial rfl trivial rfl trivial trivial trivial trivial trivial
theorem qj2:DefAt P w K mg base (GK K) 1 "_law_seen" 2 g__law_seen:=
 qib (G:=GK K) (T:=qdA) (Γ:=qdh) (k:=0) (m:=3) (i:=6) (j:=27) (ir:=qcC) (ps:=["_law_filling_here","_law_cells"]) (d:=qgv) c X N rfl rfl rfl rfl rfl rfl qj4 rfl qjR (fun _ _ _ _ _ _ us hl=>match us,hl with | [_,_],_=>rfl) (qkG c cx ct X N)
theorem qkB:TabOk P w K mg base qdy qdv (GK K) 1:=
 qc3 (mts:=[]) (fds:=[]) c X N ⟨(qhF c cx ct X N).mono (by decide),(qjC c cx ct X N).mono (by decide),(qkD c cx ct X N).mono (by decide),(qj2 c cx ct X N).mono (by decide),trivial⟩ trivial rfl trivial rfl trivial trivial trivial trivial trivial
theorem qkM:DefAt P w K mg base (GK K) 2 "_law_line" 3 g__law_line:=
 qib (G:=GK K) (T:=qdy) (Γ:=qdv) (k:=1) (m:=9) (i:=7) (j:=28) (ir:=qcx) (ps:=["_law_floor_here","_law_filling_here","_law_cell"]) (d:=qgn) c X N rfl rfl rfl rfl rfl rfl qkj rfl qjY (fun _ _ _ _ _ _ us hl=>match us,hl with | [_,_,_],_=>rfl) (qkB c cx ct X N)
theorem qiX:TabOk P w K mg base qcW qcK (GK K) 1:=
 qc3 (mts:=[]) (fds:=[]) c X N ⟨(qe9 c cx ct X N).mono (by decide),trivial⟩ trivial rfl trivial rfl trivial trivial trivial trivial trivial
theorem qiO:DefAt P w K mg base (GK K) 2 "_law_clues" 3 g__law_clues:=
 qib (G:=GK K) (T:=qcW) (Γ:=qcK) (k:=1) (m:=2) (i:=8) (j:=29) (ir:=qbY) (ps:=["_law_script","_law_filling_here","_law_at_here"]) (d:=qfT) c X N rfl rfl rfl rfl rfl rfl qji rfl qjK (fun _ _ _ _ _ _ us hl=>match us,hl with | [_,_,_],_=>rfl) (qiX c cx ct X N)
theorem qis:TabOk P w K mg base qcS qcT (GK K) 0:=
 qc3 (mts:=[]) (fds:=[]) c X N trivial trivial rfl trivial rfl trivial trivial trivial trivial trivial
theorem qiL:DefAt P w K mg base (GK K) 1 "_law_whole" 1 g__law_whole:=
 qib (G:=GK K) (T:=qcS) (Γ:=qcT) (k:=0) (m:=0) (i:=9) (j:=30) (ir:=qb7) (ps:=["_law_found"]) (d:=qfM) c X N rfl rfl rfl rfl rfl rfl qiK rfl qir (fun _ _ _ _ _ _ us hl=>match us,hl with | [_],_=>rfl) (qis c cx ct X N)
theorem qg9:TabOk P w K mg base qbN qbH (GK K) 0:=
 qc3 (mts:=[]) (fds:=[(0,0,0),(1,0,0),(2,0,0),(3,0,0),(4,0,0),(5,0,0),(6,0,0),(7,0,0),(25,0,0)]) c X N trivial trivial rfl trivial rfl ⟨fun x e=>by cases e;exact fd1 (j:=31) (j2:=32) c rfl rfl rfl rfl (show(FL 0).Nodup by decide),fun x e=>by cases e;exact fd1 (j:=33) (j2:=34) c rfl rfl rfl rfl (show(FL 1).Nodup by decide),fun x e=>by cases e;exact fd1 (j:=35) (j2:=36) c rfl rfl rfl rfl (show(FL 2).Nodup by decide),fun x e=>by cases e;exact fd1 (j:=37) (j2:=38) c rfl rfl rfl rfl (show(FL 3).Nodup by decide),fun x e=>by cases e;exact fd1 (j:=39) (j2:=40) c rfl rfl rfl rfl (show(FL 4).Nodup by decide),fun x e=>by cases e;exact fd1 (j:=41) (j2:=42) c rfl rfl rfl rfl (show(FL 5).Nodup by decide),fun x e=>by cases e;exact fd1 (j:=43) (j2:=44) c rfl rfl rfl rfl (show(FL 6).Nodup by decide),fun x e=>by cases e;exact fd1 (j:=45) (j2:=46) c rfl rfl rfl rfl (show(FL 7).Nodup by decide),fun x e=>by cases e;exact fd1 (j:=47) (j2:=48) c rfl rfl rfl rfl (show(FL 25).Nodup by decide),trivial⟩ trivial trivial trivial trivial
theorem qhc:MthAt P w K mg base (GK K) 1 25 "place" 0 g_Puzzle_place:=
 mth1 (G:=GK K) (T:=qbN) (Γ:=qbH) (k:=0) (m:=0) (i:=44) (j:=49) (j2:=47) (ir:=qbf) (ps:=["self"]) (d:=qey) (cn:=25) c rfl rfl rfl rfl rfl rfl rfl rfl (show("place" : Str)∉FL 25 by decide) rfl qgO rfl qg0 (fun _ _ _ _ _ _ us hl=>match us,hl with | [_],_=>rfl) (qg9 c cx ct X N)
theorem qhQ:TabOk P w K mg base qcc qce (GK K) 0:=
 qc3 (mts:=[]) (fds:=[]) c X N trivial trivial rfl trivial rfl trivial trivial trivial trivial trivial
theorem qhK:MthAt P w K mg base (GK K) 1 0 "name" 0 g_Unlike_name:=
 mth1 (G:=GK K) (T:=qcc) (Γ:=qce) (k:=0) (m:=0) (i:=20) (j:=50) (j2:=31) (ir:=qbv) (ps:=["self"]) (d:=qe2) (cn:=0) c rfl rfl rfl rfl rfl rfl rfl rfl (show("name" : Str)∉FL 0 by decide) rfl qif rfl qig (fun _ _ _ _ _ _ us hl=>match us,hl with | [_],_=>rfl) (qhQ c cx ct X N)
theorem qio:TabOk P w K mg base qcV qcM (GK K) 0:=
 qc3 (mts:=[]) (fds:=[]) c X N trivial trivial rfl trivial rfl trivial trivial trivial trivial trivial
theorem qjj:MthAt P w K mg base (GK K) 1 1 "name" 0 g_Total_name:=
 mth1 (G:=GK K) (T:=qcV) (Γ:=qcM) (k:=0) (m:=0) (i:=21) (j:=51) (j2:=33) (ir:=qbV) (ps:=["self"]) (d:=qfJ) (cn:=1) c rfl rfl rfl rfl rfl rfl rfl rfl (show("name" : Str)∉FL 1 by decide) rfl qi6 rfl qiz (fun _ _ _ _ _ _ us hl=>match us,hl with | [_],_=>rfl) (qio c cx ct X N)
theorem qil:TabOk P w K mg base qcf qcg (GK K) 0:=
 qc3 (mts:=[]) (fds:=[]) c X N trivial trivial rfl trivial rfl trivial trivial trivial trivial trivial
theorem qid:MthAt P w K mg base (GK K) 1 2 "name" 0 g_Rising_name:=
 mth1 (G:=GK K) (T:=qcf) (Γ:=qcg) (k:=0) (m:=0) (i:=22) (j:=52) (j2:=35) (ir:=qby) (ps:=["self"]) (d:=qfb) (cn:=2) c rfl rfl rfl rfl rfl rfl rfl rfl (show("name" : Str)∉FL 2 by decide) rfl qhT rfl qhS (fun _ _ _ _ _ _ us hl=>match us,hl with | [_],_=>rfl) (qil c cx ct X N)
theorem qkm:TabOk P w K mg base qdw qdc (GK K) 0:=
 qc3 (mts:=[]) (fds:=[]) c X N trivial trivial rfl trivial rfl trivial trivial trivial trivial trivial
theorem qkp:MthAt P w K mg base (GK K) 1 3 "name" 0 g_Seen_name:=
 mth1 (G:=GK K) (T:=qdw) (Γ:=qdc) (k:=0) (m:=0) (i:=23) (j:=53) (j2:=37) (ir:=qcv) (ps:=["self"]) (d:=qgC) (cn:=3) c rfl rfl rfl rfl rfl rfl rfl rfl (show("name" : Str)∉FL 3 by decide) rfl qkK rfl qkO (fun _ _ _ _ _ _ us hl=>match us,hl with | [_],_=>rfl) (qkm c cx ct X N)
theorem qg8:TabOk P w K mg base qbM qbS (GK K) 0:=
 qc3 (mts:=[]) (fds:=[]) c X N trivial trivial rfl trivial rfl trivial trivial trivial trivial trivial
theorem qgZ:MthAt P w K mg base (GK K) 1 4 "name" 0 g_Counted_name:=
 mth1 (G:=GK K) (T:=qbM) (Γ:=qbS) (k:=0) (m:=0) (i:=24) (j:=54) (j2:=39) (ir:=qbd) (ps:=["self"]) (d:=qex) (cn:=4) c rfl rfl rfl rfl rfl rfl rfl rfl (show("name" : Str)∉FL 4 by decide) rfl qgQ rfl qgW (fun _ _ _ _ _ _ us hl=>match us,hl with | [_],_=>rfl) (qg8 c cx ct X N)
theorem qh0:TabOk P w K mg base qcj qci (GK K) 0:=
 qc3 (mts:=[]) (fds:=[]) c X N trivial trivial rfl trivial rfl trivial trivial trivial trivial trivial
theorem qie:MthAt P w K mg base (GK K) 1 5 "name" 0 g_Joined_name:=
 mth1 (G:=GK K) (T:=qcj) (Γ:=qci) (k:=0) (m:=0) (i:=25) (j:=55) (j2:=41) (ir:=qbr) (ps:=["self"]) (d:=qe4) (cn:=5) c rfl rfl rfl rfl rfl rfl rfl rfl (show("name" : Str)∉FL 5 by decide) rfl qh6 rfl qh3 (fun _ _ _ _ _ _ us hl=>match us,hl with | [_],_=>rfl) (qh0 c cx ct X N)
theorem qgq:TabOk P w K mg base qbt qbu (GK K) 0:=
 qc3 (mts:=[]) (fds:=[]) c X N trivial trivial rfl trivial rfl trivial trivial trivial trivial trivial
theorem qgD:MthAt P w K mg base (GK K) 1 6 "name" 0 g_NoSquare_name:=
 mth1 (G:=GK K) (T:=qbt) (Γ:=qbu) (k:=0) (m:=0) (i:=26) (j:=56) (j2:=43) (ir:=qaY) (ps:=["self"]) (d:=qdU) (cn:=6) c rfl rfl rfl rfl rfl rfl rfl rfl (show("name" : Str)∉FL 6 by decide) rfl qgb rfl qgx (fun _ _ _ _ _ _ us hl=>match us,hl with | [_],_=>rfl) (qgq c cx ct X N)
theorem qkA:TabOk P w K mg base qdu qdi (GK K) 0:=
 qc3 (mts:=[]) (fds:=[]) c X N trivial trivial rfl trivial rfl trivial trivial trivial trivial trivial
theorem qku:MthAt P w K mg base (GK K) 1 7 "name" 0 g_Ring_name:=
 mth1 (G:=GK K) (T:=qdu) (Γ:=qdi) (k:=0) (m:=0) (i:=27) (j:=57) (j2:=45) (ir:=qcw) (ps:=["self"]) (d:=qga) (cn:=7) c rfl rfl rfl rfl rfl rfl rfl rfl (show("name" : Str)∉FL 7 by decide) rfl qkx rfl qkt (fun _ _ _ _ _ _ us hl=>match us,hl with | [_],_=>rfl) (qkA c cx ct X N)
theorem qco:TabOk P w K mg base qaA qaz (GK K) 0:=
 qc3 (mts:=[]) (fds:=[(0,0,1),(1,0,1),(2,0,1),(3,0,1),(4,0,1),(5,0,1),(6,0,1),(7,0,1)]) c X N trivial trivial rfl trivial rfl ⟨fun x e=>by cases e;exact fd1 (j:=31) (j2:=58) c rfl rfl rfl rfl (show(FL 0).Nodup by decide),fun x e=>by cases e;exact fd1 (j:=33) (j2:=59) c rfl rfl rfl rfl (show(FL 1).Nodup by decide),fun x e=>by cases e;exact fd1 (j:=35) (j2:=60) c rfl rfl rfl rfl (show(FL 2).Nodup by decide),fun x e=>by cases e;exact fd1 (j:=37) (j2:=61) c rfl rfl rfl rfl (show(FL 3).Nodup by decide),fun x e=>by cases e;exact fd1 (j:=39) (j2:=62) c rfl rfl rfl rfl (show(FL 4).Nodup by decide),fun x e=>by cases e;exact fd1 (j:=41) (j2:=63) c rfl rfl rfl rfl (show(FL 5).Nodup by decide),fun x e=>by cases e;exact fd1 (j:=43) (j2:=64) c rfl rfl rfl rfl (show(FL 6).Nodup by decide),fun x e=>by cases e;exact fd1 (j:=45) (j2:=65) c rfl rfl rfl rfl (show(FL 7).Nodup by decide),trivial⟩ trivial trivial trivial trivial
theorem qdS:MthAt P w K mg base (GK K) 1 0 "told_numbers" 0 g_Rule_told_numbers:=
 mth1 (G:=GK K) (T:=qaA) (Γ:=qaz) (k:=0) (m:=0) (i:=28) (j:=66) (j2:=31) (ir:=qao) (ps:=["self"]) (d:=qbZ) (cn:=0) c rfl rfl rfl rfl rfl rfl rfl rfl (show("told_numbers" : Str)∉FL 0 by decide) rfl qcy rfl qcr (fun _ _ _ _ _ _ us hl=>match us,hl with | [_],_=>rfl) (qco c cx ct X N)
theorem qdP:MthAt P w K mg base (GK K) 1 2 "told_numbers" 0 g_Rule_told_numbers:=
 mth1 (G:=GK K) (T:=qaA) (Γ:=qaz) (k:=0) (m:=0) (i:=30) (j:=67) (j2:=35) (ir:=qao) (ps:=["self"]) (d:=qb6) (cn:=2) c rfl rfl rfl rfl rfl rfl rfl rfl (show("told_numbers" : Str)∉FL 2 by decide) rfl qcy rfl qcr (fun _ _ _ _ _ _ us hl=>match us,hl with | [_],_=>rfl) (qco c cx ct X N)
theorem qeo:TabOk P w K mg base qaO qaN (GK K) 0:=
 qc3 (mts:=[]) (fds:=[(0,0,2),(1,0,2),(2,0,2),(3,0,2),(4,0,2),(5,0,2),(6,0,2),(7,0,2),(0,1,1),(1,1,1),(2,1,1),(3,1,1),(4,1,1),(5,1,1),(6,1,1),(7,1,1)]) c X N trivial trivial rfl trivial rfl ⟨fun x e=>by cases e;exact fd1 (j:=31) (j2:=68) c rfl rfl rfl rfl (show(FL 0).Nodup by decide),fun x e=>by cases e;exact fd1 (j:=33) (j2:=69) c rfl rfl rfl rfl (show(FL 1).Nodup by decide),fun x e=>by cases e;exact fd1 (j:=35) (j2:=70) c rfl rfl rfl rfl (show(FL 2).Nodup by decide),fun x e=>by cases e;exact fd1 (j:=37) (j2:=71) c rfl rfl rfl rfl (show(FL 3).Nodup by decide),fun x e=>by cases e;exact fd1 (j:=39) (j2:=72) c rfl rfl rfl rfl (show(FL 4).Nodup by decide),fun x e=>by cases e;exact fd1 (j:=41) (j2:=73) c rfl rfl rfl rfl (show(FL 5).Nodup by decide),fun x e=>by cases e;exact fd1 (j:=43) (j2:=74) c rfl rfl rfl rfl (show(FL 6).Nodup by decide),fun x e=>by cases e;exact fd1 (j:=45) (j2:=75) c rfl rfl rfl rfl (show(FL 7).Nodup by decide),fun x e=>by cases e;exact fd1 (j:=31) (j2:=58) c rfl rfl rfl rfl (show(FL 0).Nodup by decide),fun x e=>by cases e;exact fd1 (j:=33) (j2:=59) c rfl rfl rfl rfl (show(FL 1).Nodup by decide),fun x e=>by cases e;exact fd1 (j:=35) (j2:=60) c rfl rfl rfl rfl (show(FL 2).Nodup by decide),fun x e=>by cases e;exact fd1 (j:=37) (j2:=61) c rfl rfl rfl rfl (show(FL 3).Nodup by decide),fun x e=>by cases e;exact fd1 (j:=39) (j2:=62) c rfl rfl rfl rfl (show(FL 4).Nodup by decide),fun x e=>by cases e;exact fd1 (j:=41) (j2:=63) c rfl rfl rfl rfl (show(FL 5).Nodup by decide),fun x e=>by cases e;exact fd1 (j:=43) (j2:=64) c rfl rfl rfl rfl (show(FL 6).Nodup by decide),fun x e=>by cases e;exact fd1 (j:=45) (j2:=65) c rfl rfl rfl rfl (show(FL 7).Nodup by decide),trivial⟩ trivial trivial trivial trivial
theorem qel:MthAt P w K mg base (GK K) 1 1 "told_numbers" 0 g_Total_told_numbers:=
 mth1 (G:=GK K) (T:=qaO) (Γ:=qaN) (k:=0) (m:=0) (i:=29) (j:=76) (j2:=33) (ir:=qau) (ps:=["self"]) (d:=qca) (cn:=1) c rfl rfl rfl rfl rfl rfl rfl rfl (show("told_numbers" : Str)∉FL 1 by decide) rfl qej rfl qen (fun _ _ _ _ _ _ us hl=>match us,hl with | [_],_=>rfl) (qeo c cx ct X N)
theorem qeD:TabOk P w K mg base qaU qaT (GK K) 0:=
 qc3 (mts:=[]) (fds:=[(0,0,2),(1,0,2),(2,0,2),(3,0,2),(4,0,2),(5,0,2),(6,0,2),(7,0,2),(0,1,1),(1,1,1),(2,1,1),(3,1,1),(4,1,1),(5,1,1),(6,1,1),(7,1,1)]) c X N trivial trivial rfl trivial rfl ⟨fun x e=>by cases e;exact fd1 (j:=31) (j2:=68) c rfl rfl rfl rfl (show(FL 0).Nodup by decide),fun x e=>by cases e;exact fd1 (j:=33) (j2:=69) c rfl rfl rfl rfl (show(FL 1).Nodup by decide),fun x e=>by cases e;exact fd1 (j:=35) (j2:=70) c rfl rfl rfl rfl (show(FL 2).Nodup by decide),fun x e=>by cases e;exact fd1 (j:=37) (j2:=71) c rfl rfl rfl rfl (show(FL 3).Nodup by decide),fun x e=>by cases e;exact fd1 (j:=39) (j2:=72) c rfl rfl rfl rfl (show(FL 4).Nodup by decide),fun x e=>by cases e;exact fd1 (j:=41) (j2:=73) c rfl rfl rfl rfl (show(FL 5).Nodup by decide),fun x e=>by cases e;exact fd1 (j:=43) (j2:=74) c rfl rfl rfl rfl (show(FL 6).Nodup by decide),fun x e=>by cases e;exact fd1 (j:=45) (j2:=75) c rfl rfl rfl rfl (show(FL 7).Nodup by decide),fun x e=>by cases e;exact fd1 (j:=31) (j2:=58) c rfl rfl rfl rfl (show(FL 0).Nodup by decide),fun x e=>by cases e;exact fd1 (j:=33) (j2:=59) c rfl rfl rfl rfl (show(FL 1).Nodup by decide),fun x e=>by cases e;exact fd1 (j:=35) (j2:=60) c rfl rfl rfl rfl (show(FL 2).Nodup by decide),fun x e=>by cases e;exact fd1 (j:=37) (j2:=61) c rfl rfl rfl rfl (show(FL 3).Nodup by decide),fun x e=>by cases e;exact fd1 (j:=39) (j2:=62) c rfl rfl rfl rfl (show(FL 4).Nodup by decide),fun x e=>by cases e;exact fd1 (j:=41) (j2:=63) c rfl rfl rfl rfl (show(FL 5).Nodup by decide),fun x e=>by cases e;exact fd1 (j:=43) (j2:=64) c rfl rfl rfl rfl (show(FL 6).Nodup by decide),fun x e=>by cases e;exact fd1 (j:=45) (j2:=65) c rfl rfl rfl rfl (show(FL 7).Nodup by decide),trivial⟩ trivial trivial trivial trivial
theorem qeI:MthAt P w K mg base (GK K) 1 3 "told_numbers" 0 g_Seen_told_numbers:=
 mth1 (G:=GK K) (T:=qaU) (Γ:=qaT) (k:=0) (m:=0) (i:=31) (j:=77) (j2:=37) (ir:=qaF) (ps:=["self"]) (d:=qcp) (cn:=3) c rfl rfl rfl rfl rfl rfl rfl rfl (show("told_numbers" : Str)∉FL 3 by decide) rfl qeP rfl qeQ (fun _ _ _ _ _ _ us hl=>match us,hl with | [_],_=>rfl) (qeD c cx ct X N)
theorem qdG:TabOk P w K mg base qaK qaH (GK K) 0:=
 qc3 (mts:=[]) (fds:=[(0,0,2),(1,0,2),(2,0,2),(3,0,2),(4,0,2),(5,0,2),(6,0,2),(7,0,2),(0,1,3),(1,1,3),(2,1,3),(3,1,3),(4,1,3),(5,1,3),(6,1,3),(7,1,3),(0,2,1),(1,2,1),(2,2,1),(3,2,1),(4,2,1),(5,2,1),(6,2,1),(7,2,1)]) c X N trivial trivial rfl trivial rfl ⟨fun x e=>by cases e;exact fd1 (j:=31) (j2:=68) c rfl rfl rfl rfl (show(FL 0).Nodup by decide),fun x e=>by cases e;exact fd1 (j:=33) (j2:=69) c rfl rfl rfl rfl (show(FL 1).Nodup by decide),fun x e=>by cases e;exact fd1 (j:=35) (j2:=70) c rfl rfl rfl rfl (show(FL 2).Nodup by decide),fun x e=>by cases e;exact fd1 (j:=37) (j2:=71) c rfl rfl rfl rfl (show(FL 3).Nodup by decide),fun x e=>by cases e;exact fd1 (j:=39) (j2:=72) c rfl rfl rfl rfl (show(FL 4).Nodup by decide),fun x e=>by cases e;exact fd1 (j:=41) (j2:=73) c rfl rfl rfl rfl (show(FL 5).Nodup by decide),fun x e=>by cases e;exact fd1 (j:=43) (j2:=74) c rfl rfl rfl rfl (show(FL 6).Nodup by decide),fun x e=>by cases e;exact fd1 (j:=45) (j2:=75) c rfl rfl rfl rfl (show(FL 7).Nodup by decide),fun x e=>by cases e;exact fd1 (j:=31) (j2:=78) c rfl rfl rfl rfl (show(FL 0).Nodup by decide),fun x e=>by cases e;exact fd1 (j:=33) (j2:=79) c rfl rfl rfl rfl (show(FL 1).Nodup by decide),fun x e=>by cases e;exact fd1 (j:=35) (j2:=80) c rfl rfl rfl rfl (show(FL 2).Nodup by decide),fun x e=>by cases e;exact fd1 (j:=37) (j2:=81) c rfl rfl rfl rfl (show(FL 3).Nodup by decide),fun x e=>by cases e;exact fd1 (j:=39) (j2:=82) c rfl rfl rfl rfl (show(FL 4).Nodup by decide),fun x e=>by cases e;exact fd1 (j:=41) (j2:=83) c rfl rfl rfl rfl (show(FL 5).Nodup by decide),fun x e=>by cases e;exact fd1 (j:=43) (j2:=84) c rfl rfl rfl rfl (show(FL 6).Nodup by decide),fun x e=>by cases e;exact fd1 (j:=45) (j2:=85) c rfl rfl rfl rfl (show(FL 7).Nodup by decide),fun x e=>by cases e;exact fd1 (j:=31) (j2:=58) c rfl rfl rfl rfl (show(FL 0).Nodup by decide),fun x e=>by cases e;exact fd1 (j:=33) (j2:=59) c rfl rfl rfl rfl (show(FL 1).Nodup by decide),fun x e=>by cases e;exact fd1 (j:=35) (j2:=60) c rfl rfl rfl rfl (show(FL 2).Nodup by decide),fun x e=>by cases e;exact fd1 (j:=37) (j2:=61) c rfl rfl rfl rfl (show(FL 3).Nodup by decide),fun x e=>by cases e;exact fd1 (j:=39) (j2:=62) c rfl rfl rfl rfl (show(FL 4).Nodup by decide),fun x e=>by cases e;exact fd1 (j:=41) (j2:=63) c rfl rfl rfl rfl (show(FL 5).Nodup by decide),fun x e=>by cases e;exact fd1 (j:=43) (j2:=64) c rfl rfl rfl rfl (show(FL 6).Nodup by decide),fun x e=>by cases e;exact fd1 (j:=45) (j2:=65) c rfl rfl rfl rfl (show(FL 7).Nodup by decide),trivial⟩ trivial trivial trivial trivial
theorem qdJ:MthAt P w K mg base (GK K) 1 4 "told_numbers" 0 g_Counted_told_numbers:=
 mth1 (G:=GK K) (T:=qaK) (Γ:=qaH) (k:=0) (m:=0) (i:=32) (j:=86) (j2:=39) (ir:=qal) (ps:=["self"]) (d:=qbA) (cn:=4) c rfl rfl rfl rfl rfl rfl rfl rfl (show("told_numbers" : Str)∉FL 4 by decide) rfl qdE rfl qdF (fun _ _ _ _ _ _ us hl=>match us,hl with | [_],_=>rfl) (qdG c cx ct X N)
theorem qdX:TabOk P w K mg base qaL qaM (GK K) 0:=
 qc3 (mts:=[]) (fds:=[(0,0,3),(1,0,3),(2,0,3),(3,0,3),(4,0,3),(5,0,3),(6,0,3),(7,0,3)]) c X N trivial trivial rfl trivial rfl ⟨fun x e=>by cases e;exact fd1 (j:=31) (j2:=78) c rfl rfl rfl rfl (show(FL 0).Nodup by decide),fun x e=>by cases e;exact fd1 (j:=33) (j2:=79) c rfl rfl rfl rfl (show(FL 1).Nodup by decide),fun x e=>by cases e;exact fd1 (j:=35) (j2:=80) c rfl rfl rfl rfl (show(FL 2).Nodup by decide),fun x e=>by cases e;exact fd1 (j:=37) (j2:=81) c rfl rfl rfl rfl (show(FL 3).Nodup by decide),fun x e=>by cases e;exact fd1 (j:=39) (j2:=82) c rfl rfl rfl rfl (show(FL 4).Nodup by decide),fun x e=>by cases e;exact fd1 (j:=41) (j2:=83) c rfl rfl rfl rfl (show(FL 5).Nodup by decide),fun x e=>by cases e;exact fd1 (j:=43) (j2:=84) c rfl rfl rfl rfl (show(FL 6).Nodup by decide),fun x e=>by cases e;exact fd1 (j:=45) (j2:=85) c rfl rfl rfl rfl (show(FL 7).Nodup by decide),trivial⟩ trivial trivial trivial trivial
theorem qdY:MthAt P w K mg base (GK K) 1 5 "told_numbers" 0 g_Joined_told_numbers:=
 mth1 (G:=GK K) (T:=qaL) (Γ:=qaM) (k:=0) (m:=0) (i:=33) (j:=87) (j2:=41) (ir:=qap) (ps:=["self"]) (d:=qb1) (cn:=5) c rfl rfl rfl rfl rfl rfl rfl rfl (show("told_numbers" : Str)∉FL 5 by decide) rfl qdQ rfl qd1 (fun _ _ _ _ _ _ us hl=>match us,hl with | [_],_=>rfl) (qdX c cx ct X N)
theorem qdn:TabOk P w K mg base qaw qav (GK K) 0:=
 qc3 (mts:=[]) (fds:=[(0,0,3),(1,0,3),(2,0,3),(3,0,3),(4,0,3),(5,0,3),(6,0,3),(7,0,3)]) c X N trivial trivial rfl trivial rfl ⟨fun x e=>by cases e;exact fd1 (j:=31) (j2:=78) c rfl rfl rfl rfl (show(FL 0).Nodup by decide),fun x e=>by cases e;exact fd1 (j:=33) (j2:=79) c rfl rfl rfl rfl (show(FL 1).Nodup by decide),fun x e=>by cases e;exact fd1 (j:=35) (j2:=80) c rfl rfl rfl rfl (show(FL 2).Nodup by decide),fun x e=>by cases e;exact fd1 (j:=37) (j2:=81) c rfl rfl rfl rfl (show(FL 3).Nodup by decide),fun x e=>by cases e;exact fd1 (j:=39) (j2:=82) c rfl rfl rfl rfl (show(FL 4).Nodup by decide),fun x e=>by cases e;exact fd1 (j:=41) (j2:=83) c rfl rfl rfl rfl (show(FL 5).Nodup by decide),fun x e=>by cases e;exact fd1 (j:=43) (j2:=84) c rfl rfl rfl rfl (show(FL 6).Nodup by decide),fun x e=>by cases e;exact fd1 (j:=45) (j2:=85) c rfl rfl rfl rfl (show(FL 7).Nodup by decide),trivial⟩ trivial trivial trivial trivial
theorem qde:MthAt P w K mg base (GK K) 1 6 "told_numbers" 0 g_NoSquare_told_numbers:=
 mth1 (G:=GK K) (T:=qaw) (Γ:=qav) (k:=0) (m:=0) (i:=34) (j:=88) (j2:=43) (ir:=qai) (ps:=["self"]) (d:=qbx) (cn:=6) c rfl rfl rfl rfl rfl rfl rfl rfl (show("told_numbers" : Str)∉FL 6 by decide) rfl qdB rfl qdm (fun _ _ _ _ _ _ us hl=>match us,hl with | [_],_=>rfl) (qdn c cx ct X N)
theorem qeH:TabOk P w K mg base qaS qaR (GK K) 0:=
 qc3 (mts:=[]) (fds:=[(0,0,3),(1,0,3),(2,0,3),(3,0,3),(4,0,3),(5,0,3),(6,0,3),(7,0,3)]) c X N trivial trivial rfl trivial rfl ⟨fun x e=>by cases e;exact fd1 (j:=31) (j2:=78) c rfl rfl rfl rfl (show(FL 0).Nodup by decide),fun x e=>by cases e;exact fd1 (j:=33) (j2:=79) c rfl rfl rfl rfl (show(FL 1).Nodup by decide),fun x e=>by cases e;exact fd1 (j:=35) (j2:=80) c rfl rfl rfl rfl (show(FL 2).Nodup by decide),fun x e=>by cases e;exact fd1 (j:=37) (j2:=81) c rfl rfl rfl rfl (show(FL 3).Nodup by decide),fun x e=>by cases e;exact fd1 (j:=39) (j2:=82) c rfl rfl rfl rfl (show(FL 4).Nodup by decide),fun x e=>by cases e;exact fd1 (j:=41) (j2:=83) c rfl rfl rfl rfl (show(FL 5).Nodup by decide),fun x e=>by cases e;exact fd1 (j:=43) (j2:=84) c rfl rfl rfl rfl (show(FL 6).Nodup by decide),fun x e=>by cases e;exact fd1 (j:=45) (j2:=85) c rfl rfl rfl rfl (show(FL 7).Nodup by decide),trivial⟩ trivial trivial trivial trivial
theorem qeM:MthAt P w K mg base (GK K) 1 7 "told_numbers" 0 g_Ring_told_numbers:=
 mth1 (G:=GK K) (T:=qaS) (Γ:=qaR) (k:=0) (m:=0) (i:=35) (j:=89) (j2:=45) (ir:=qaE) (ps:=["self"]) (d:=qcB) (cn:=7) c rfl rfl rfl rfl rfl rfl rfl rfl (show("told_numbers" : Str)∉FL 7 by decide) rfl qeJ rfl qeF (fun _ _ _ _ _ _ us hl=>match us,hl with | [_],_=>rfl) (qeH c cx ct X N)
theorem qa1:TabOk P w K mg base qaC qaB (GK K) 1:=
 qc3 (mts:=[(0,0,g_Unlike_name),(1,0,g_Total_name),(2,0,g_Rising_name),(3,0,g_Seen_name),(4,0,g_Counted_name),(5,0,g_Joined_name),(6,0,g_NoSquare_name),(7,0,g_Ring_name),(0,1,g_Rule_told_numbers),(1,1,g_Total_told_numbers),(2,1,g_Rule_told_numbers),(3,1,g_Seen_told_numbers),(4,1,g_Counted_told_numbers),(5,1,g_Joined_told_numbers),(6,1,g_NoSquare_told_numbers),(7,1,g_Ring_told_numbers)]) (fds:=[]) c X N trivial trivial rfl ⟨fun x n e=>by cases e;exact(qhK c cx ct X N).mono (by decide),fun x n e=>by cases e;exact(qjj c cx ct X N).mono (by decide),fun x n e=>by cases e;exact(qid c cx ct X N).mono (by decide),fun x n e=>by cases e;exact(qkp c cx ct X N).mono (by decide),fun x n e=>by cases e;exact(qgZ c cx ct X N).mono (by decide),fun x n e=>by cases e;exact(qie c cx ct X N).mono (by decide),fun x n e=>by cases e;exact(qgD c cx ct X N).mono (by decide),fun x n e=>by cases e;exact(qku c cx ct X N).mono (by decide),fun x n e=>by cases e;exact(qdS c cx ct X N).mono (by decide),fun x n e=>by cases e;exact(qel c cx ct X N).mono (by decide),fun x n e=>by cases e;exact(qdP c cx ct X N).mono (by decide),fun x n e=>by cases e;exact(qeI c cx ct X N).mono (by decide),fun x n e=>by cases e;exact(qdJ c cx ct X N).mono (by decide),fun x n e=>by cases e;exact(qdY c cx ct X N).mono (by decide),fun x n e=>by cases e;exact(qde c cx ct X N).mono (by decide),fun x n e=>by cases e;exact(qeM c cx ct X N).mono (by decide),trivial⟩ rfl trivial trivial trivial trivial trivial
theorem qfi:MthAt P w K mg base (GK K) 2 0 "line" 0 g_Rule_line:=
 mth1 (G:=GK K) (T:=qaC) (Γ:=qaB) (k:=1) (m:=1) (i:=36) (j:=90) (j2:=31) (ir:=qat) (ps:=["self"]) (d:=qfh) (cn:=0) c rfl rfl rfl rfl rfl rfl rfl rfl (show("line" : Str)∉FL 0 by decide) rfl qa0 rfl qaX (fun _ _ _ _ _ _ us hl=>match us,hl with | [_],_=>rfl) (qa1 c cx ct X N)
theorem qfS:MthAt P w K mg base (GK K) 2 1 "line" 0 g_Rule_line:=
 mth1 (G:=GK K) (T:=qaC) (Γ:=qaB) (k:=1) (m:=1) (i:=37) (j:=91) (j2:=33) (ir:=qat) (ps:=["self"]) (d:=qfG) (cn:=1) c rfl rfl rfl rfl rfl rfl rfl rfl (show("line" : Str)∉FL 1 by decide) rfl qa0 rfl qaX (fun _ _ _ _ _ _ us hl=>match us,hl with | [_],_=>rfl) (qa1 c cx ct X N)
theorem qe8:MthAt P w K mg base (GK K) 2 2 "line" 0 g_Rule_line:=
 mth1 (G:=GK K) (T:=qaC) (Γ:=qaB) (k:=1) (m:=1) (i:=38) (j:=92) (j2:=35) (ir:=qat) (ps:=["self"]) (d:=qeX) (cn:=2) c rfl rfl rfl rfl rfl rfl rfl rfl (show("line" : Str)∉FL 2 by decide) rfl qa0 rfl qaX (fun _ _ _ _ _ _ us hl=>match us,hl with | [_],_=>rfl) (qa1 c cx ct X N)
theorem qgm:MthAt P w K mg base (GK K) 2 3 "line" 0 g_Rule_line:=
 mth1 (G:=GK K) (T:=qaC) (Γ:=qaB) (k:=1) (m:=1) (i:=39) (j:=93) (j2:=37) (ir:=qat) (ps:=["self"]) (d:=qf9) (cn:=3) c rfl rfl rfl rfl rfl rfl rfl rfl (show("line" : Str)∉FL 3 by decide) rfl qa0 rfl qaX (fun _ _ _ _ _ _ us hl=>match us,hl with | [_],_=>rfl) (qa1 c cx ct X N)
theorem qes:MthAt P w K mg base (GK K) 2 4 "line" 0 g_Rule_line:=
 mth1 (G:=GK K) (T:=qaC) (Γ:=qaB) (k:=1) (m:=1) (i:=40) (j:=94) (j2:=39) (ir:=qat) (ps:=["self"]) (d:=qez) (cn:=4) c rfl rfl rfl rfl rfl rfl rfl rfl (show("line" : Str)∉FL 4 by decide) rfl qa0 rfl qaX (fun _ _ _ _ _ _ us hl=>match us,hl with | [_],_=>rfl) (qa1 c cx ct X N)
theorem qfc:MthAt P w K mg base (GK K) 2 5 "line" 0 g_Rule_line:=
 mth1 (G:=GK K) (T:=qaC) (Γ:=qaB) (k:=1) (m:=1) (i:=41) (j:=95) (j2:=41) (ir:=qat) (ps:=["self"]) (d:=qe3) (cn:=5) c rfl rfl rfl rfl rfl rfl rfl rfl (show("line" : Str)∉FL 5 by decide) rfl qa0 rfl qaX (fun _ _ _ _ _ _ us hl=>match us,hl with | [_],_=>rfl) (qa1 c cx ct X N)
theorem qdL:MthAt P w K mg base (GK K) 2 6 "line" 0 g_Rule_line:=
 mth1 (G:=GK K) (T:=qaC) (Γ:=qaB) (k:=1) (m:=1) (i:=42) (j:=96) (j2:=43) (ir:=qat) (ps:=["self"]) (d:=qd3) (cn:=6) c rfl rfl rfl rfl rfl rfl rfl rfl (show("line" : Str)∉FL 6 by decide) rfl qa0 rfl qaX (fun _ _ _ _ _ _ us hl=>match us,hl with | [_],_=>rfl) (qa1 c cx ct X N)
theorem qge:MthAt P w K mg base (GK K) 2 7 "line" 0 g_Rule_line:=
 mth1 (G:=GK K) (T:=qaC) (Γ:=qaB) (k:=1) (m:=1) (i:=43) (j:=97) (j2:=45) (ir:=qat) (ps:=["self"]) (d:=qgt) (cn:=7) c rfl rfl rfl rfl rfl rfl rfl rfl (show("line" : Str)∉FL 7 by decide) rfl qa0 rfl qaX (fun _ _ _ _ _ _ us hl=>match us,hl with | [_],_=>rfl) (qa1 c cx ct X N)
theorem qg3:TabOk P w K mg base qbK qbR (GK K) 2:=
 qc3 (mts:=[(0,0,g_Rule_line),(1,0,g_Rule_line),(2,0,g_Rule_line),(3,0,g_Rule_line),(4,0,g_Rule_line),(5,0,g_Rule_line),(6,0,g_Rule_line),(7,0,g_Rule_line)]) (fds:=[(25,0,1)]) c X N trivial trivial rfl ⟨fun x n e=>by cases e;exact(qfi c cx ct X N).mono (by decide),fun x n e=>by cases e;exact(qfS c cx ct X N).mono (by decide),fun x n e=>by cases e;exact(qe8 c cx ct X N).mono (by decide),fun x n e=>by cases e;exact(qgm c cx ct X N).mono (by decide),fun x n e=>by cases e;exact(qes c cx ct X N).mono (by decide),fun x n e=>by cases e;exact(qfc c cx ct X N).mono (by decide),fun x n e=>by cases e;exact(qdL c cx ct X N).mono (by decide),fun x n e=>by cases e;exact(qge c cx ct X N).mono (by decide),trivial⟩ rfl ⟨fun x e=>by cases e;exact fd1 (j:=47) (j2:=98) c rfl rfl rfl rfl (show(FL 25).Nodup by decide),trivial⟩ trivial trivial trivial trivial
theorem qc2:MthAt P w K mg base (GK K) 3 25 "lines" 0 g_Puzzle_lines:=
 mth1 (G:=GK K) (T:=qbK) (Γ:=qbR) (k:=2) (m:=1) (i:=45) (j:=99) (j2:=47) (ir:=qbb) (ps:=["self"]) (d:=qep) (cn:=25) c rfl rfl rfl rfl rfl rfl rfl rfl (show("lines" : Str)∉FL 25 by decide) rfl qgY rfl qhe (fun _ _ _ _ _ _ us hl=>match us,hl with | [_],_=>rfl) (qg3 c cx ct X N)
theorem qgX:TabOk P w K mg base qbT qbP (GK K) 0:=
 qc3 (mts:=[]) (fds:=[(25,0,2)]) c X N trivial trivial rfl trivial rfl ⟨fun x e=>by cases e;exact fd1 (j:=47) (j2:=100) c rfl rfl rfl rfl (show(FL 25).Nodup by decide),trivial⟩ trivial trivial trivial trivial
theorem qeA:MthAt P w K mg base (GK K) 1 25 "clues" 0 g_Puzzle_clues:=
 mth1 (G:=GK K) (T:=qbT) (Γ:=qbP) (k:=0) (m:=0) (i:=46) (j:=101) (j2:=47) (ir:=qa9) (ps:=["self"]) (d:=qew) (cn:=25) c rfl rfl rfl rfl rfl rfl rfl rfl (show("clues" : Str)∉FL 25 by decide) rfl qgN rfl qgR (fun _ _ _ _ _ _ us hl=>match us,hl with | [_],_=>rfl) (qgX c cx ct X N)
theorem qgV:TabOk P w K mg base qbJ qbL (GK K) 0:=
 qc3 (mts:=[]) (fds:=[(25,0,1)]) c X N trivial trivial rfl trivial rfl ⟨fun x e=>by cases e;exact fd1 (j:=47) (j2:=98) c rfl rfl rfl rfl (show(FL 25).Nodup by decide),trivial⟩ trivial trivial trivial trivial
theorem qeq:MthAt P w K mg base (GK K) 1 25 "rules" 0 g_Puzzle_rules:=
 mth1 (G:=GK K) (T:=qbJ) (Γ:=qbL) (k:=0) (m:=0) (i:=47) (j:=102) (j2:=47) (ir:=qba) (ps:=["self"]) (d:=qev) (cn:=25) c rfl rfl rfl rfl rfl rfl rfl rfl (show("rules" : Str)∉FL 25 by decide) rfl qhf rfl qgK (fun _ _ _ _ _ _ us hl=>match us,hl with | [_],_=>rfl) (qgV c cx ct X N)
theorem qnu:TabOk P w K mg base qeW qe1 (GK K) 3:=
 qc3 (mts:=[(25,0,g_Puzzle_place),(25,1,g_Puzzle_lines),(25,2,g_Puzzle_clues),(25,3,g_Puzzle_rules),(0,4,g_Rule_line),(1,4,g_Rule_line),(2,4,g_Rule_line),(3,4,g_Rule_line),(4,4,g_Rule_line),(5,4,g_Rule_line),(6,4,g_Rule_line),(7,4,g_Rule_line)]) (fds:=[]) c X N ⟨(qiL c cx ct X N).mono (by decide),trivial⟩ trivial rfl ⟨fun x n e=>by cases e;exact(qhc c cx ct X N).mono (by decide),fun x n e=>by cases e;exact(qc2 c cx ct X N).mono (by decide),fun x n e=>by cases e;exact(qeA c cx ct X N).mono (by decide),fun x n e=>by cases e;exact(qeq c cx ct X N).mono (by decide),fun x n e=>by cases e;exact(qfi c cx ct X N).mono (by decide),fun x n e=>by cases e;exact(qfS c cx ct X N).mono (by decide),fun x n e=>by cases e;exact(qe8 c cx ct X N).mono (by decide),fun x n e=>by cases e;exact(qgm c cx ct X N).mono (by decide),fun x n e=>by cases e;exact(qes c cx ct X N).mono (by decide),fun x n e=>by cases e;exact(qfc c cx ct X N).mono (by decide),fun x n e=>by cases e;exact(qdL c cx ct X N).mono (by decide),fun x n e=>by cases e;exact(qge c cx ct X N).mono (by decide),trivial⟩ rfl trivial trivial trivial trivial trivial
theorem qmy:DefAt P w K mg base (GK K) 4 "_law_is" 4 g__law_is:=
 qib (G:=GK K) (T:=qeW) (Γ:=qe1) (k:=3) (m:=8) (i:=10) (j:=103) (ir:=qdV) (ps:=["_law_puzzle","_law_floor_here","_law_lines","_law_clues_here"]) (d:=qit) c X N rfl rfl rfl rfl rfl rfl qmR rfl qml (fun _ _ _ _ _ _ us hl=>match us,hl with | [_,_,_,_],_=>rfl) (qnu c cx ct X N)
theorem qlO:TabOk P w K mg base qec qeb (GK K) 0:=
 qc3 (mts:=[]) (fds:=[]) c X N trivial ⟨qiF (j:=106) c X N rfl,qiF (j:=107) c X N rfl,qiF (j:=108) c X N rfl,trivial⟩ rfl trivial rfl trivial trivial trivial ⟨rs1 (j:=104) (j2:=105) c X N rfl rfl rfl,trivial⟩ trivial
theorem qlT:DefAt P w K mg base (GK K) 1 "floor_of" 3 g_floor_of:=
 qib (G:=GK K) (T:=qec) (Γ:=qeb) (k:=0) (m:=0) (i:=11) (j:=109) (ir:=qc7) (ps:=["high","wide","signs"]) (d:=qhg) c X N rfl rfl rfl rfl rfl rfl qlE rfl qlD (fun _ _ _ _ _ _ us hl=>match us,hl with | [_,_,_],_=>rfl) (qlO c cx ct X N)
theorem qke:TabOk P w K mg base qdk qdl (GK K) 0:=
 qc3 (mts:=[]) (fds:=[]) c X N trivial ⟨qiF (j:=112) c X N rfl,qss (j:=113) c X N rfl,trivial⟩ rfl trivial rfl trivial trivial trivial ⟨rs1 (j:=110) (j2:=111) c X N rfl rfl rfl,trivial⟩ trivial
theorem qkL:DefAt P w K mg base (GK K) 1 "number_of" 1 g_number_of:=
 qib (G:=GK K) (T:=qdk) (Γ:=qdl) (k:=0) (m:=1) (i:=12) (j:=114) (ir:=qcn) (ps:=["word"]) (d:=qgc) c X N rfl rfl rfl rfl rfl rfl qjO rfl qjZ (fun _ _ _ _ _ _ us hl=>match us,hl with | [_],_=>rfl) (qke c cx ct X N)
theorem qkb:TabOk P w K mg base qdz qdr (GK K) 0:=
 qc3 (mts:=[]) (fds:=[]) c X N trivial trivial rfl trivial rfl trivial trivial trivial ⟨rs1 (j:=110) (j2:=111) c X N rfl rfl rfl,trivial⟩ trivial
theorem qgi:DefAt P w K mg base (GK K) 1 "sign_told" 3 g_sign_told:=
 qib (G:=GK K) (T:=qdz) (Γ:=qdr) (k:=0) (m:=0) (i:=13) (j:=115) (ir:=qcm) (ps:=["floor","numbers","at"]) (d:=qf5) c X N rfl rfl rfl rfl rfl rfl qj6 rfl qkk (fun _ _ _ _ _ _ us hl=>match us,hl with | [_,_,_],_=>rfl) (qkb c cx ct X N)
theorem qip:TabOk P w K mg base qcF qcP (GK K) 0:=
 qc3 (mts:=[]) (fds:=[]) c X N trivial trivial rfl trivial rfl trivial trivial trivial trivial trivial
theorem qd4:DefAt P w K mg base (GK K) 1 "many_cells" 1 g_many_cells:=
 qib (G:=GK K) (T:=qcF) (Γ:=qcP) (k:=0) (m:=0) (i:=14) (j:=116) (ir:=qb2) (ps:=["floor"]) (d:=qfF) c X N rfl rfl rfl rfl rfl rfl qiC rfl qiA (fun _ _ _ _ _ _ us hl=>match us,hl with | [_],_=>rfl) (qip c cx ct X N)
theorem qaq:TabOk P w K mg base qae qab (GK K) 0:=
 qc3 (mts:=[]) (fds:=[(0,0,0),(1,0,0),(2,0,0),(3,0,0),(4,0,0),(5,0,0),(6,0,0),(7,0,0),(25,0,0),(0,1,1),(1,1,1),(2,1,1),(3,1,1),(4,1,1),(5,1,1),(6,1,1),(7,1,1),(0,2,2),(1,2,2),(2,2,2),(3,2,2),(4,2,2),(5,2,2),(6,2,2),(7,2,2),(0,3,3),(1,3,3),(2,3,3),(3,3,3),(4,3,3),(5,3,3),(6,3,3),(7,3,3)]) c X N trivial trivial rfl trivial rfl ⟨fun x e=>by cases e;exact fd1 (j:=31) (j2:=32) c rfl rfl rfl rfl (show(FL 0).Nodup by decide),fun x e=>by cases e;exact fd1 (j:=33) (j2:=34) c rfl rfl rfl rfl (show(FL 1).Nodup by decide),fun x e=>by cases e;exact fd1 (j:=35) (j2:=36) c rfl rfl rfl rfl (show(FL 2).Nodup by decide),fun x e=>by cases e;exact fd1 (j:=37) (j2:=38) c rfl rfl rfl rfl (show(FL 3).Nodup by decide),fun x e=>by cases e;exact fd1 (j:=39) (j2:=40) c rfl rfl rfl rfl (show(FL 4).Nodup by decide),fun x e=>by cases e;exact fd1 (j:=41) (j2:=42) c rfl rfl rfl rfl (show(FL 5).Nodup by decide),fun x e=>by cases e;exact fd1 (j:=43) (j2:=44) c rfl rfl rfl rfl (show(FL 6).Nodup by decide),fun x e=>by cases e;exact fd1 (j:=45) (j2:=46) c rfl rfl rfl rfl (show(FL 7).Nodup by decide),fun x e=>by cases e;exact fd1 (j:=47) (j2:=48) c rfl rfl rfl rfl (show(FL 25).Nodup by decide),fun x e=>by cases e;exact fd1 (j:=31) (j2:=58) c rfl rfl rfl rfl (show(FL 0).Nodup by decide),fun x e=>by cases e;exact fd1 (j:=33) (j2:=59) c rfl rfl rfl rfl (show(FL 1).Nodup by decide),fun x e=>by cases e;exact fd1 (j:=35) (j2:=60) c rfl rfl rfl rfl (show(FL 2).Nodup by decide),fun x e=>by cases e;exact fd1 (j:=37) (j2:=61) c rfl rfl rfl rfl (show(FL 3).Nodup by decide),fun x e=>by cases e;exact fd1 (j:=39) (j2:=62) c rfl rfl rfl rfl (show(FL 4).Nodup by decide),fun x e=>by cases e;exact fd1 (j:=41) (j2:=63) c rfl rfl rfl rfl (show(FL 5).Nodup by decide),fun x e=>by cases e;exact fd1 (j:=43) (j2:=64) c rfl rfl rfl rfl (show(FL 6).Nodup by decide),fun x e=>by cases e;exact fd1 (j:=45) (j2:=65) c rfl rfl rfl rfl (show(FL 7).Nodup by decide),fun x e=>by cases e;exact fd1 (j:=31) (j2:=68) c rfl rfl rfl rfl (show(FL 0).Nodup by decide),fun x e=>by cases e;exact fd1 (j:=33) (j2:=69) c rfl rfl rfl rfl (show(FL 1).Nodup by decide),fun x e=>by cases e;exact fd1 (j:=35) (j2:=70) c rfl rfl rfl rfl (show(FL 2).Nodup by decide),fun x e=>by cases e;exact fd1 (j:=37) (j2:=71) c rfl rfl rfl rfl (show(FL 3).Nodup by decide),fun x e=>by cases e;exact fd1 (j:=39) (j2:=72) c rfl rfl rfl rfl (show(FL 4).Nodup by decide),fun x e=>by cases e;exact fd1 (j:=41) (j2:=73) c rfl rfl rfl rfl (show(FL 5).Nodup by decide),fun x e=>by cases e;exact fd1 (j:=43) (j2:=74) c rfl rfl rfl rfl (show(FL 6).Nodup by decide),fun x e=>by cases e;exact fd1 (j:=45) (j2:=75) c rfl rfl rfl rfl (show(FL 7).Nodup by decide),fun x e=>by cases e;exact fd1 (j:=31) (j2:=78) c rfl rfl rfl rfl (show(FL 0).Nodup by decide),fun x e=>by cases e;exact fd1 (j:=33) (j2:=79) c rfl rfl rfl rfl (show(FL 1).Nodup by decide),fun x e=>by cases e;exact fd1 (j:=35) (j2:=80) c rfl rfl rfl rfl (show(FL 2).Nodup by decide),fun x e=>by cases e;exact fd1 (j:=37) (j2:=81) c rfl rfl rfl rfl (show(FL 3).Nodup by decide),fun x e=>by cases e;exact fd1 (j:=39) (j2:=82) c rfl rfl rfl rfl (show(FL 4).Nodup by decide),fun x e=>by cases e;exact fd1 (j:=41) (j2:=83) c rfl rfl rfl rfl (show(FL 5).Nodup by decide),fun x e=>by cases e;exact fd1 (j:=43) (j2:=84) c rfl rfl rfl rfl (show(FL 6).Nodup by decide),fun x e=>by cases e;exact fd1 (j:=45) (j2:=85) c rfl rfl rfl rfl (show(FL 7).Nodup by decide),trivial⟩ trivial trivial trivial trivial
theorem qoV:NwAt P w K mg base (GK K) 2 "Unlike" 4 0 ini_Unlike:=
 qoz (G:=GK K) (T:=qae) (Γ:=qab) (k:=0) (m:=0) (i:=49) (j:=117) (j2:=118) (ir:=qaa) (ps:=["self","ground","cells","wanted","of_sign"]) (d:=qc6) (cn:=0) c X N rfl rfl rfl rfl rfl rfl rfl rfl rfl rfl qar rfl qas (fun _ _ _ _ _ _ us hl=>match us,hl with | [_,_,_,_,_],_=>rfl) (qaq c cx ct X N)
theorem qp5:NwAt P w K mg base (GK K) 2 "Total" 4 1 ini_Total:=
 qoz (G:=GK K) (T:=qae) (Γ:=qab) (k:=0) (m:=0) (i:=50) (j:=119) (j2:=120) (ir:=qaa) (ps:=["self","ground","cells","wanted","of_sign"]) (d:=qdC) (cn:=1) c X N rfl rfl rfl rfl rfl rfl rfl rfl rfl rfl qar rfl qas (fun _ _ _ _ _ _ us hl=>match us,hl with | [_,_,_,_,_],_=>rfl) (qaq c cx ct X N)
theorem qoM:NwAt P w K mg base (GK K) 2 "Rising" 4 2 ini_Rising:=
 qoz (G:=GK K) (T:=qae) (Γ:=qab) (k:=0) (m:=0) (i:=51) (j:=121) (j2:=122) (ir:=qaa) (ps:=["self","ground","cells","wanted","of_sign"]) (d:=qc8) (cn:=2) c X N rfl rfl rfl rfl rfl rfl rfl rfl rfl rfl qar rfl qas (fun _ _ _ _ _ _ us hl=>match us,hl with | [_,_,_,_,_],_=>rfl) (qaq c cx ct X N)
theorem qsJ:NwAt P w K mg base (GK K) 2 "Seen" 4 3 ini_Seen:=
 qoz (G:=GK K) (T:=qae) (Γ:=qab) (k:=0) (m:=0) (i:=52) (j:=123) (j2:=124) (ir:=qaa) (ps:=["self","ground","cells","wanted","of_sign"]) (d:=qdW) (cn:=3) c X N rfl rfl rfl rfl rfl rfl rfl rfl rfl rfl qar rfl qas (fun _ _ _ _ _ _ us hl=>match us,hl with | [_,_,_,_,_],_=>rfl) (qaq c cx ct X N)
theorem qmI:NwAt P w K mg base (GK K) 2 "Counted" 4 4 ini_Counted:=
 qoz (G:=GK K) (T:=qae) (Γ:=qab) (k:=0) (m:=0) (i:=53) (j:=125) (j2:=126) (ir:=qaa) (ps:=["self","ground","cells","wanted","of_sign"]) (d:=qcE) (cn:=4) c X N rfl rfl rfl rfl rfl rfl rfl rfl rfl rfl qar rfl qas (fun _ _ _ _ _ _ us hl=>match us,hl with | [_,_,_,_,_],_=>rfl) (qaq c cx ct X N)
theorem qoo:NwAt P w K mg base (GK K) 2 "Joined" 4 5 ini_Joined:=
 qoz (G:=GK K) (T:=qae) (Γ:=qab) (k:=0) (m:=0) (i:=54) (j:=127) (j2:=128) (ir:=qaa) (ps:=["self","ground","cells","wanted","of_sign"]) (d:=qc5) (cn:=5) c X N rfl rfl rfl rfl rfl rfl rfl rfl rfl rfl qar rfl qas (fun _ _ _ _ _ _ us hl=>match us,hl with | [_,_,_,_,_],_=>rfl) (qaq c cx ct X N)
theorem qlX:NwAt P w K mg base (GK K) 2 "NoSquare" 4 6 ini_NoSquare:=
 qoz (G:=GK K) (T:=qae) (Γ:=qab) (k:=0) (m:=0) (i:=55) (j:=129) (j2:=130) (ir:=qaa) (ps:=["self","ground","cells","wanted","of_sign"]) (d:=qcq) (cn:=6) c X N rfl rfl rfl rfl rfl rfl rfl rfl rfl rfl qar rfl qas (fun _ _ _ _ _ _ us hl=>match us,hl with | [_,_,_,_,_],_=>rfl) (qaq c cx ct X N)
theorem qsP:NwAt P w K mg base (GK K) 2 "Ring" 4 7 ini_Ring:=
 qoz (G:=GK K) (T:=qae) (Γ:=qab) (k:=0) (m:=0) (i:=56) (j:=131) (j2:=132) (ir:=qaa) (ps:=["self","ground","cells","wanted","of_sign"]) (d:=qd8) (cn:=7) c X N rfl rfl rfl rfl rfl rfl rfl rfl rfl rfl qar rfl qas (fun _ _ _ _ _ _ us hl=>match us,hl with | [_,_,_,_,_],_=>rfl) (qaq c cx ct X N)
theorem qiq:TabOk P w K mg base qcU qcY (GK K) 2:=
 qc3 (mts:=[]) (fds:=[]) c X N ⟨(qgi c cx ct X N).mono (by decide),(qd4 c cx ct X N).mono (by decide),trivial⟩ trivial rfl trivial rfl trivial ⟨(qoo c cx ct X N).mono (by decide),(qlX c cx ct X N).mono (by decide),(qsP c cx ct X N).mono (by decide),trivial⟩ trivial ⟨rs1 (j:=110) (j2:=111) c X N rfl rfl rfl,trivial⟩ trivial
theorem qi1:DefAt P w K mg base (GK K) 3 "whole_rule" 3 g_whole_rule:=
 qib (G:=GK K) (T:=qcU) (Γ:=qcY) (k:=2) (m:=2) (i:=15) (j:=133) (ir:=qbW) (ps:=["floor","word","numbers"]) (d:=qfH) c X N rfl rfl rfl rfl rfl rfl qi2 rfl qjG (fun _ _ _ _ _ _ us hl=>match us,hl with | [_,_,_],_=>rfl) (qiq c cx ct X N)
theorem qiD:TabOk P w K mg base qcL qcX (GK K) 1:=
 qc3 (mts:=[]) (fds:=[]) c X N ⟨(qd4 c cx ct X N).mono (by decide),trivial⟩ trivial rfl trivial rfl trivial trivial trivial ⟨rs1 (j:=110) (j2:=111) c X N rfl rfl rfl,trivial⟩ trivial
theorem qiV:DefAt P w K mg base (GK K) 2 "cells_told" 2 g_cells_told:=
 qib (G:=GK K) (T:=qcL) (Γ:=qcX) (k:=1) (m:=0) (i:=16) (j:=134) (ir:=qbU) (ps:=["floor","numbers"]) (d:=qfL) c X N rfl rfl rfl rfl rfl rfl qjk rfl qiI (fun _ _ _ _ _ _ us hl=>match us,hl with | [_,_],_=>rfl) (qiD c cx ct X N)
theorem qkz:TabOk P w K mg base qdt qdo (GK K) 3:=
 qc3 (mts:=[]) (fds:=[]) c X N ⟨(qkL c cx ct X N).mono (by decide),(qi1 c cx ct X N).mono (by decide),(qiV c cx ct X N).mono (by decide),(qgi c cx ct X N).mono (by decide),trivial⟩ trivial rfl trivial rfl trivial ⟨(qoV c cx ct X N).mono (by decide),(qoM c cx ct X N).mono (by decide),(qmI c cx ct X N).mono (by decide),(qp5 c cx ct X N).mono (by decide),(qsJ c cx ct X N).mono (by decide),trivial⟩ trivial ⟨rs1 (j:=110) (j2:=111) c X N rfl rfl rfl,trivial⟩ trivial
theorem qj3:DefAt P w K mg base (GK K) 4 "read_rule" 2 g_read_rule:=
 qib (G:=GK K) (T:=qdt) (Γ:=qdo) (k:=3) (m:=6) (i:=17) (j:=135) (ir:=qcu) (ps:=["floor","line"]) (d:=qgd) c X N rfl rfl rfl rfl rfl rfl qkI rfl qkq (fun _ _ _ _ _ _ us hl=>match us,hl with | [_,_],_=>rfl) (qkz c cx ct X N)
theorem qjb:TabOk P w K mg base qcN qcG (GK K) 1:=
 qc3 (mts:=[]) (fds:=[]) c X N ⟨(qd4 c cx ct X N).mono (by decide),trivial⟩ trivial rfl trivial rfl trivial trivial trivial trivial trivial
theorem qiH:DefAt P w K mg base (GK K) 2 "is_filling" 2 g_is_filling:=
 qib (G:=GK K) (T:=qcN) (Γ:=qcG) (k:=1) (m:=1) (i:=18) (j:=136) (ir:=qb4) (ps:=["floor","filling"]) (d:=qfE) c X N rfl rfl rfl rfl rfl rfl qiS rfl qjf (fun _ _ _ _ _ _ us hl=>match us,hl with | [_,_],_=>rfl) (qjb c cx ct X N)
theorem qft:TabOk P w K mg base qa4 qbC (GK K) 4:=
 qc3 (mts:=[]) (fds:=[(0,0,0),(1,0,0),(2,0,0),(3,0,0),(4,0,0),(5,0,0),(6,0,0),(7,0,0),(25,0,0),(25,1,1),(25,2,2)]) c X N ⟨(qlT c cx ct X N).mono (by decide),(qj3 c cx ct X N).mono (by decide),(qiH c cx ct X N).mono (by decide),trivial⟩ ⟨qiF (j:=139) c X N rfl,trivial⟩ rfl trivial rfl ⟨fun x e=>by cases e;exact fd1 (j:=31) (j2:=32) c rfl rfl rfl rfl (show(FL 0).Nodup by decide),fun x e=>by cases e;exact fd1 (j:=33) (j2:=34) c rfl rfl rfl rfl (show(FL 1).Nodup by decide),fun x e=>by cases e;exact fd1 (j:=35) (j2:=36) c rfl rfl rfl rfl (show(FL 2).Nodup by decide),fun x e=>by cases e;exact fd1 (j:=37) (j2:=38) c rfl rfl rfl rfl (show(FL 3).Nodup by decide),fun x e=>by cases e;exact fd1 (j:=39) (j2:=40) c rfl rfl rfl rfl (show(FL 4).Nodup by decide),fun x e=>by cases e;exact fd1 (j:=41) (j2:=42) c rfl rfl rfl rfl (show(FL 5).Nodup by decide),fun x e=>by cases e;exact fd1 (j:=43) (j2:=44) c rfl rfl rfl rfl (show(FL 6).Nodup by decide),fun x e=>by cases e;exact fd1 (j:=45) (j2:=46) c rfl rfl rfl rfl (show(FL 7).Nodup by decide),fun x e=>by cases e;exact fd1 (j:=47) (j2:=48) c rfl rfl rfl rfl (show(FL 25).Nodup by decide),fun x e=>by cases e;exact fd1 (j:=47) (j2:=98) c rfl rfl rfl rfl (show(FL 25).Nodup by decide),fun x e=>by cases e;exact fd1 (j:=47) (j2:=100) c rfl rfl rfl rfl (show(FL 25).Nodup by decide),trivial⟩ trivial trivial ⟨rs1 (j:=104) (j2:=105) c X N rfl rfl rfl,rs1 (j:=137) (j2:=138) c X N rfl rfl rfl,trivial⟩ trivial
theorem qlq:NwAt P w K mg base (GK K) 6 "Puzzle" 3 25 ini_Puzzle:=
 qoz (G:=GK K) (T:=qa4) (Γ:=qbC) (k:=4) (m:=1) (i:=57) (j:=140) (j2:=141) (ir:=qa6) (ps:=["self","floor","lines","clues"]) (d:=qc4) (cn:=25) c X N rfl rfl rfl rfl rfl rfl rfl rfl rfl rfl qfl rfl qfm (fun _ _ _ _ _ _ us hl=>match us,hl with | [_,_,_,_],_=>rfl) (qft c cx ct X N)
theorem qgU:TabOk P w K mg base qbE qbQ (GK K) 6:=
 qc3 (mts:=[(25,0,g_Puzzle_lines)]) (fds:=[(0,0,0),(1,0,0),(2,0,0),(3,0,0),(4,0,0),(5,0,0),(6,0,0),(7,0,0),(25,0,0)]) c X N trivial trivial rfl ⟨fun x n e=>by cases e;exact(qc2 c cx ct X N).mono (by decide),trivial⟩ rfl ⟨fun x e=>by cases e;exact fd1 (j:=31) (j2:=32) c rfl rfl rfl rfl (show(FL 0).Nodup by decide),fun x e=>by cases e;exact fd1 (j:=33) (j2:=34) c rfl rfl rfl rfl (show(FL 1).Nodup by decide),fun x e=>by cases e;exact fd1 (j:=35) (j2:=36) c rfl rfl rfl rfl (show(FL 2).Nodup by decide),fun x e=>by cases e;exact fd1 (j:=37) (j2:=38) c rfl rfl rfl rfl (show(FL 3).Nodup by decide),fun x e=>by cases e;exact fd1 (j:=39) (j2:=40) c rfl rfl rfl rfl (show(FL 4).Nodup by decide),fun x e=>by cases e;exact fd1 (j:=41) (j2:=42) c rfl rfl rfl rfl (show(FL 5).Nodup by decide),fun x e=>by cases e;exact fd1 (j:=43) (j2:=44) c rfl rfl rfl rfl (show(FL 6).Nodup by decide),fun x e=>by cases e;exact fd1 (j:=45) (j2:=46) c rfl rfl rfl rfl (show(FL 7).Nodup by decide),fun x e=>by cases e;exact fd1 (j:=47) (j2:=48) c rfl rfl rfl rfl (show(FL 25).Nodup by decide),trivial⟩ ⟨(qlq c cx ct X N).mono (by decide),trivial⟩ trivial trivial trivial
theorem qg6:MthAt P w K mg base (GK K) 7 25 "clued" 1 g_Puzzle_clued:=
 mth1 (G:=GK K) (T:=qbE) (Γ:=qbQ) (k:=6) (m:=0) (i:=48) (j:=142) (j2:=47) (ir:=qbc) (ps:=["self","clues"]) (d:=qet) (cn:=25) c rfl rfl rfl rfl rfl rfl rfl rfl (show("clued" : Str)∉FL 25 by decide) rfl qg2 rfl qgP (fun _ _ _ _ _ _ us hl=>match us,hl with | [_,_],_=>rfl) (qgU c cx ct X N)
theorem qtX:TabOk P w K mg base qov qpk (GK K) 7:=
 qc3 (mts:=[(25,0,g_Puzzle_clued),(25,1,g_Puzzle_lines),(25,2,g_Puzzle_clues),(25,3,g_Puzzle_rules)]) (fds:=[]) c X N ⟨(qix c cx ct X N).mono (by decide),(qg5 c cx ct X N).mono (by decide),(qe9 c cx ct X N).mono (by decide),(qkM c cx ct X N).mono (by decide),(qiO c cx ct X N).mono (by decide),(qmy c cx ct X N).mono (by decide),trivial⟩ trivial rfl ⟨fun x n e=>by cases e;exact(qg6 c cx ct X N).mono (by decide),fun x n e=>by cases e;exact(qc2 c cx ct X N).mono (by decide),fun x n e=>by cases e;exact(qeA c cx ct X N).mono (by decide),fun x n e=>by cases e;exact(qeq c cx ct X N).mono (by decide),trivial⟩ rfl trivial ⟨(qlq c cx ct X N).mono (by decide),trivial⟩ trivial trivial trivial
theorem o_law {fa0:Addr} (e:mg "law" = some (.ref fa0)):∃fd:FuncData,(∀(s:Shared) (u:Value),BindsTo s fd ⟨[u],[]⟩ [("_law_script",u)])∧∀base:Heap,K.In base→base.Ns mainGlobals mg→FnOk P w K mg base (L2.CX P w) 8 fa0 fd ["_law_script"] (spD (GK K) 1 g_law):=
 quK (G:=GK K) (T:=qov) (Γ:=qpk) (k:=7) (m:=10) (i:=19) (j:=143) (ir:=qm5) (d:=qr7) c X N rfl rfl rfl rfl rfl rfl e qtd rfl qtC (fun _ _ _ _ _ _ us hl=>match us,hl with | [_],_=>rfl) (fun base _ _=>qtX c cx ct X N)
end
end
end K19
open PySem PySem.W PySem.Calls PyProof.Rows
theorem PySem.Challenge.cw_cluemaker_k19_a_puzzle_told_holds : PySem.Challenge.rw_cluemaker_k19_a_puzzle_told.Holds := by
  w_on; o_law
  refine HandSHeadRun.head_any (r := K19.R) (q := K19.vw) (H := Cm.hookL K19.as K19.fa K19.fn K19.xa K19.ts) (ob := Cm.obT K19.as K19.fa K19.fn K19.xa K19.ts) (M := 5366) (loose := K19.loose) (d := HandSHeadRun.topDef K19.R.prog 47) (kwd := []) Cm.obT_eq
    (by kernel_rfl) (fun s => by kernel_rfl) K19.run (by kernel_rfl) (by kernel_rfl) (by kernel_rfl) (by rfl) (by first | assumption | decide +kernel) (by decide +kernel) ⟨rfl, rfl, rfl, rfl, rfl, by decide +kernel⟩ ?hw ?hc
  case hw => w_witness2
  case hc =>
    refine LamX.walk_ofTsE (l := PySem.Challenge.rw_cluemaker_k19_a_puzzle_told) (n := 63) (k := 8) (x := "_law_script") (CX := fun w => L2.CX PySem.Challenge.rw_cluemaker_k19_a_puzzle_told.prog w) rfl (by decide) (by kernel_rfl) ⟨rfl, by decide, by decide⟩ ?F (fun w => Cm.cx_end)
    intro w mg fa0 h Y N hmg0
    obtain ⟨K, KX, c, cx, ct⟩ := Y
    have hmg : mg ("law" : PySem.Str) = some (.ref fa0) := by
      have e : (HandSHeadRun.topDef K19.R.prog 47).name = ("law" : PySem.Str) := by kernel_rfl
      rw [← e]
      exact hmg0
    exact ⟨K, KX, Cm.law_at (G := K19.GK K) (g := K19.g_law) rfl (K19.o_law c cx ct KX N hmg) K19.law_true⟩
