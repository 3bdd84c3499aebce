import PyProof.Rows.All
import Wide.All
import OpenK.AllK
import Wide.FinOn
import HandS.Head0
import HandS.Head1
import HandS.Head2
import HandS.HeadEnd
import HandS.HeadHook1
import HandS.HeadHook2
import HandS.HeadHook3
import HandS.Words
import HandS.ForMost
import HandS.ForExc
import HandS.TryMany
import HandS.TupAny
import HandS.TupMul
import HandS.Conv
import HandS.Deep
import HandS.SortInts
import HandS.IsInst
import HandS.Rev
import KE.KDictKeyed
import KE.KeyNested
import HandS.RaiseMore
import HandS.Text
import HandS.More
import HandS.Codes
import KE.GoesEnumKw
import KE.GoesEnum
import HandS.Iter
import HandS.WordsDict
import KE.KDictDisplayH
import HandS.HotCalls
import HandS.ExcIs
import PyProof.StrOps2
import KE.KSortedM
import KE.DatumOrd
import HandS.Call
import HandS.CallSlots
import HandS.Style
import HandS.SetFor
import HandS.Strs
import KE.OsSorts
import KE.KIndexOf
import HandS.Comp
import HandS.Exc
import KE.KAsSuite
import HandS.SetKeys
import HandS.Defaults
import PySem.Challenge.RW_guisery_k24_camps_told
set_option Elab.async false
set_option linter.all false
set_option maxRecDepth 100000
local macro_rules | `(tactic| symm) => `(tactic| decide +kernel)
namespace GM
theorem aa:type_of% @Bool.false_ne_true:=@Bool.false_ne_true
theorem ab:type_of% @Bool.and_eq_true:=@Bool.and_eq_true
theorem ac:type_of% @List.length_map:=@List.length_map
theorem ad:type_of% @Option.some.inj:=@Option.some.inj
theorem ae:type_of% @List.length_append:=@List.length_append
theorem af:type_of% @decide_eq_true_eq:=@decide_eq_true_eq
theorem ah:type_of% @List.mem_singleton:=@List.mem_singleton
theorem aj:type_of% @if_pos:=@if_pos
theorem ak:type_of% @List.getElem?_eq_getElem:=@List.getElem?_eq_getElem
theorem am:type_of% @List.length_range:=@List.length_range
theorem ao:type_of% @List.mem_append_right:=@List.mem_append_right
theorem ap:type_of% @List.mem_cons_self:=@List.mem_cons_self
theorem aq:type_of% @if_neg:=@if_neg
theorem au:type_of% @List.getElem?_eq_some_iff:=@List.getElem?_eq_some_iff
theorem av:type_of% @List.mem_cons_of_mem:=@List.mem_cons_of_mem
theorem aw:type_of% @List.length_cons:=@List.length_cons
theorem ax:type_of% @Nat.le_refl:=@Nat.le_refl
theorem ay:type_of% @List.getElem?_set_ne:=@List.getElem?_set_ne
theorem az:type_of% @Bool.not_eq_true':=@Bool.not_eq_true'
theorem aA:type_of% @Option.map_eq_some_iff:=@Option.map_eq_some_iff
theorem aB:type_of% @List.mem_cons:=@List.mem_cons
theorem aC:type_of% @List.mem_range:=@List.mem_range
theorem aD:type_of% @List.getElem?_map:=@List.getElem?_map
theorem aE:type_of% @decide_eq_false:=@decide_eq_false
theorem aF:type_of% @decide_eq_true:=@decide_eq_true
theorem aG:type_of% @List.mem_append_left:=@List.mem_append_left
theorem aH:type_of% @List.length_set:=@List.length_set
theorem aI:type_of% @List.map_cons:=@List.map_cons
theorem aJ:type_of% @List.getElem?_set_self:=@List.getElem?_set_self
theorem aK:type_of% @List.append_assoc:=@List.append_assoc
theorem aL:type_of% @List.contains_iff_mem:=@List.contains_iff_mem
theorem aM:type_of% @List.append_nil:=@List.append_nil
theorem aN:type_of% @List.size_toArray:=@List.size_toArray
theorem aO:type_of% @List.length_singleton:=@List.length_singleton
theorem aP:type_of% @List.nodup_iff_pairwise_ne:=@List.nodup_iff_pairwise_ne
theorem aQ:type_of% @List.mem_map:=@List.mem_map
theorem aR:type_of% @List.mem_append:=@List.mem_append
theorem aS:type_of% @List.getElem?_eq_none:=@List.getElem?_eq_none
theorem aT:type_of% @Int.toNat_natCast:=@Int.toNat_natCast
theorem aU:type_of% @List.map_map:=@List.map_map
theorem aV:type_of% @List.getElem?_append_right:=@List.getElem?_append_right
theorem aW:type_of% @Nat.zero_le:=@Nat.zero_le
theorem aX:type_of% @Nat.ne_of_lt:=@Nat.ne_of_lt
theorem aY:type_of% @Bool.and_eq_true_iff:=@Bool.and_eq_true_iff
theorem aZ:type_of% @Option.isSome_iff_exists:=@Option.isSome_iff_exists
theorem a0:type_of% @List.all_cons:=@List.all_cons
theorem a8:type_of% @Nat.le_trans:=@Nat.le_trans
theorem a9:type_of% @Nat.lt_or_ge:=@Nat.lt_or_ge
theorem ba:type_of% @Nat.not_lt_zero:=@Nat.not_lt_zero
theorem bc:type_of% @Option.bind_eq_some_iff:=@Option.bind_eq_some_iff
theorem be:type_of% @List.getElem?_range:=@List.getElem?_range
theorem bf:type_of% @Array.length_toList:=@Array.length_toList
theorem bg:type_of% @of_decide_eq_true:=@of_decide_eq_true
theorem bh:type_of% @List.eq_nil_of_length_eq_zero:=@List.eq_nil_of_length_eq_zero
theorem bj:type_of% @List.map_append:=@List.map_append
theorem bm:type_of% @Int.eq_ofNat_of_zero_le:=@Int.eq_ofNat_of_zero_le
theorem bp:type_of% @List.filterMap_cons:=@List.filterMap_cons
theorem bq:type_of% @List.mem_map_of_mem:=@List.mem_map_of_mem
theorem br:type_of% @List.getElem?_append_left:=@List.getElem?_append_left
theorem bt:type_of% @List.all_eq_true:=@List.all_eq_true
theorem bu:type_of% @List.nodup_append:=@List.nodup_append
theorem bv:type_of% @List.replicate_succ:=@List.replicate_succ
theorem bw:type_of% @beq_eq_false_iff_ne:=@beq_eq_false_iff_ne
theorem bx:type_of% @Nat.le_add_right:=@Nat.le_add_right
theorem bz:type_of% @beq_self_eq_true:=@beq_self_eq_true
theorem bA:type_of% @Array.getElem?_eq_some_iff:=@Array.getElem?_eq_some_iff
theorem bB:type_of% @decide_eq_true_iff:=@decide_eq_true_iff
theorem bC:type_of% @Nat.lt_succ_of_lt:=@Nat.lt_succ_of_lt
theorem bD:type_of% @congrArg:=@congrArg
theorem bE:type_of% @List.mem_of_getElem?:=@List.mem_of_getElem?
theorem bF:type_of% @Nat.lt_trichotomy:=@Nat.lt_trichotomy
theorem bG:type_of% @List.cons.inj:=@List.cons.inj
theorem bH:type_of% @List.pairwise_mergeSort:=@List.pairwise_mergeSort
theorem bI:type_of% @Bool.or_eq_true:=@Bool.or_eq_true
theorem bJ:type_of% @List.length_nil:=@List.length_nil
theorem bK:type_of% @Option.map_some:=@Option.map_some
theorem bL:type_of% @List.dropLast_eq_take:=@List.dropLast_eq_take
theorem bM:type_of% @Option.some.injEq:=@Option.some.injEq
theorem bN:type_of% @List.not_mem_nil:=@List.not_mem_nil
theorem bO:type_of% @Nat.sub_self:=@Nat.sub_self
theorem bP:type_of% @List.getElem_mem:=@List.getElem_mem
theorem bQ:type_of% @List.mergeSort_perm:=@List.mergeSort_perm
theorem bS:type_of% @List.length_pos_iff:=@List.length_pos_iff
theorem bT:type_of% @List.map_congr_left:=@List.map_congr_left
theorem bU:type_of% @Nat.lt_irrefl:=@Nat.lt_irrefl
theorem bV:type_of% @List.find?_cons:=@List.find?_cons
theorem bW:type_of% @List.length_zipIdx:=@List.length_zipIdx
theorem bX:type_of% @Nat.eq_zero_or_pos:=@Nat.eq_zero_or_pos
theorem bY:type_of% @beq_iff_eq:=@beq_iff_eq
theorem bZ:type_of% @Prod.mk.inj:=@Prod.mk.inj
end GM
local macro_rules | `(#v[]) => `(.nil) | `(#v[$x]) => `(.cons $x .nil) | `(#v[$x,$xs,*]) => `(.cons $x #v[$xs,*])
namespace GM
open PySem PySem.Spec PySem.Calls PyProof.Rows L2
def blts:List Str:=["len","abs","max","min","all","any","sum","sorted","tuple","list","dict","str","int","bool","isinstance","range","enumerate","zip","reversed","set"]
inductive Ct where | int (i:Int) | str (z:Str) | tab (kvs:List (Str × Str))
 deriving DecidableEq
def Ct.fa (x:Str):Ct→He.Fa
 | .int i=>.int x i
 | .str z=>.str x z
 | .tab _=>.glo x
def yd (fns en hn:List Str) (ct:List (Str × Ct)) (tab:List ((Str × Str) × Bool)):List He.Fa :=
 fns.map .glo++(en.map .glo++(en.map .exc++(hn.map .glo++(blts.map .free++(ct.map (fun p=>p.2.fa p.1)++tab.map fun p=>.exm p.1.1 p.1.2 p.2)))))
def IE (cl:List Str) (at_ mt:List (Str × Str)) (mk:List Str):List He.Fa :=
 cl.map .cls++(at_.map (fun p=>.noat p.1 p.2)++(mt.map (fun p=>.meth p.1 p.2)++(mk.map .mkr++mk.map .glo)))
abbrev HJ:Str:="GuiseError"
def HK (K:PySem.W.Frag) (x:Str):Bool:=match PySem.W.clsIn K (He.ga K x) with
 | some cd=>decide (cd.mro=[.ref (He.ga K x),.ref (He.ga K HJ),.type "ValueError",.type "Exception",.type "BaseException",.type "object"])
 | none=>false
def HL (K:PySem.W.Frag) (y:Str):Bool:=decide (PySem.W.subIn K (.ref (He.ga K y)) (.type "BaseException")=some true) && ((PySem.W.clsIn K (He.ga K y)).isSome && decide (PySem.W.typeIn K (.ref (He.ga K y))=some (.type "type")))
def HM (K:PySem.W.Frag) (x:Str):Bool :=
 He.eqO (PySem.W.findIn K (.ref (He.ga K x)) "__getattribute__") (some (some (.builtin "BaseException.__getattribute__"))) && (He.eqO (PySem.W.findIn K (.ref (He.ga K x)) "__getattr__") (some none) &&
 (PySem.W.hasDictIn K (He.ga K x) && He.eqO (PySem.W.findIn K (.ref (He.ga K x)) "__class__") (some (some (.builtin "object.__class__")))))
def GW (K:PySem.W.Frag):Bool:=He.eqO (PySem.W.specialIn K (.builtin "object.__class__") "__get__") (some (some (.builtin "getset_descriptor.__get__"))) && decide (PySem.W.takesIn K (.builtin "object.__class__")=some true)
def Bh (en hn al:List Str) (K:PySem.W.Frag):Bool:=(en.all (HK K) && hn.all (HL K)) && (decide ((al.map (He.ga K)).Nodup) && (en.all (HM K) && GW K))
abbrev El:Type:=He.AlD × Bool
def Bi (fa:List He.Fa) (fn:List He.DefD) (en hn al:List Str) (K:PySem.W.Frag):El:=(He.obsD fa fn K,Bh en hn al K)
def Em (g:Addr→Option Obj):Nat→List Addr
 | 0=>[mainGlobals]
 | n+1=>(Em g n).flatMap fun a=>match g a with
  | some o=>He.refsD o
  | none=>[]
def Ei (g:Addr→Option Obj):Nat→List Addr
 | 0=>Em g 0
 | n+1=>Ei g n++Em g (n+1)
def GX (n:Nat) (fa:List He.Fa) (fn:List He.DefD) (en hn al:List Str) (g:Addr→Option Obj):El:=Bi fa fn en hn al (He.frG g (Ei g n))
def qw (n:Nat) (fa:List He.Fa) (fn:List He.DefD) (g:Addr→Option Obj):He.AlD:=He.obsD fa fn (He.frG g (Ei g n))
def Eo (K:PySem.W.Frag) (c:Str):Bool:=He.eqO (PySem.W.findIn K (.ref (He.ga K c)) "__class__") (some (some (.builtin "object.__class__"))) && (GW K && (decide (PySem.W.mroIn K (He.ga K c) (.type "object")=some true) && decide (PySem.W.kitOne K (.ref (He.ga K c)) (.ref (He.ga K c))=some true)))
abbrev Tb:Type:=Str × List (Str × Str)
def Ep (u:Option (Option Value)) (y:Str):Bool:=match u with
 | some (some (.str z _))=>decide (z=y)
 | _=>false
def Er (K:PySem.W.Frag) (p:Tb):Bool:=p.2.all fun q=>Ep (PySem.W.nsIn K (He.ga K p.1) q.1) q.2
abbrev Es:Type:=El × (Bool × List (Option (List (Option (Str × Int)))))
def Et (fa:List He.Fa) (fn:List He.DefD) (en hn al ic:List Str) (ts:List Tb) (K:PySem.W.Frag):Es:=(Bi fa fn en hn al K,(ic.all (Eo K) && ts.all (Er K),ts.map fun t=>He.dicW K (He.ga K t.1)))
def HN (fn:List He.DefD) (ts:List Tb) (w:World):Es:=((He.valD fn,true),(true,ts.map fun t=>some (He.keysIn w.params (t.2.map (·.1)))))
def GY (n:Nat) (fa:List He.Fa) (fn:List He.DefD) (en hn al ic:List Str) (ts:List Tb) (g:Addr→Option Obj):Es:=Et fa fn en hn al ic ts (He.frG g (Ei g n))
def GZ (st:Stmt) (n:Nat):Stmt:=match st with
 | .ClassDef _ _ _ body _ _ _ _ _ _ _=>body.getD n (.Pass ⟨0,0,0,0⟩)
 | st=>st
open PySem.W in
def Eu {α:Type} (r:PySem.W.OpenRow) (q:Program) (ob:PySem.W.SharedT→α) (v:World→α) (M:Nat) (loose:List Str) (w:World):Prop :=
 ∀ os:OsState,(HandSHeadRun.endF (HandSHeadRun.stepQ (HandSHeadRun.denQ HandSHeadRun.tabQ) r.prog w) M r.prog w os).map (fun s=>(HandSHeadRun.looksF r.prog (boot_heap w.params) s.abs,HandSHeadRun.seenQ q loose (importedModules r.prog.main.body) (fun s=>PySem.W.xlAt q [] s && PySem.W.recOk r.toRowW.records s) s.abs,ob s))=some (true,PySem.W.openGood q loose,v w)
end GM

set_option maxHeartbeats 0
namespace LWk24
open PySem PySem.Spec PyProof.Rows L2 GM
def top (i:Nat):Stmt:=PySem.Challenge.pw_guisery_k24_camps_told.main.body.getD i (.Pass ⟨0,0,0,0⟩)
def en:List Str:=["BadWord","BadCount","TooMany"]
def hn:List Str:=["BadCount","TooMany"]
def ct:List (Str × Ct):=[("MOST_WORDS",.int 1024),("MOST_LETTERS",.int 1000)]
def tab:List ((Str × Str) × Bool):=([(("BadWord","BadCount"),false),(("BadWord","TooMany"),false),(("BadCount","BadCount"),true),(("BadCount","TooMany"),false),(("TooMany","BadCount"),false),(("TooMany","TooMany"),true)]:List ((Str × Str) × Bool))
def s4:Stmt:=top 26
def d4:He.DefD:=⟨("_law_cell",none),"_law_cell","_law_cell",defArgs s4,defBody s4,defScope s4,[],[]⟩
def vA:Stmt:=top 27
def G5:He.DefD:=⟨("_law_letters",none),"_law_letters","_law_letters",defArgs vA,defBody vA,defScope vA,[],[]⟩
def s9:Stmt:=top 28
def d9:He.DefD:=⟨("_law_in_line",none),"_law_in_line","_law_in_line",defArgs s9,defBody s9,defScope s9,[],[]⟩
def A1:Stmt:=top 29
def G6:He.DefD:=⟨("_law_shrunk",none),"_law_shrunk","_law_shrunk",defArgs A1,defBody A1,defScope A1,[],[]⟩
def A2:Stmt:=top 30
def G7:He.DefD:=⟨("_law_numbers",none),"_law_numbers","_law_numbers",defArgs A2,defBody A2,defScope A2,[],[]⟩
def A3:Stmt:=top 31
def G8:He.DefD:=⟨("_law_rearranged",none),"_law_rearranged","_law_rearranged",defArgs A3,defBody A3,defScope A3,[],[]⟩
def A4:Stmt:=top 32
def G9:He.DefD:=⟨("_law_rows",none),"_law_rows","_law_rows",defArgs A4,defBody A4,defScope A4,[],[]⟩
def s8:Stmt:=top 33
def d8:He.DefD:=⟨("_law_guise",none),"_law_guise","_law_guise",defArgs s8,defBody s8,defScope s8,[],[]⟩
def A5:Stmt:=top 34
def Ha:He.DefD:=⟨("_law_stories",none),"_law_stories","_law_stories",defArgs A5,defBody A5,defScope A5,[],[]⟩
def A6:Stmt:=top 35
def Hb:He.DefD:=⟨("_law_whole",none),"_law_whole","_law_whole",defArgs A6,defBody A6,defScope A6,[],[]⟩
def xB:Stmt:=top 36
def Hc:He.DefD:=⟨("_law_like",none),"_law_like","_law_like",defArgs xB,defBody xB,defScope xB,[],[]⟩
def s7:Stmt:=top 21
def d7:He.DefD:=⟨("_law_floor_size",none),"_law_floor_size","_law_floor_size",defArgs s7,defBody s7,defScope s7,[],[]⟩
def A7:Stmt:=top 22
def Hd:He.DefD:=⟨("_law_read",none),"_law_read","_law_read",defArgs A7,defBody A7,defScope A7,[],[]⟩
def s6:Stmt:=top 23
def d6:He.DefD:=⟨("_law_figures",none),"_law_figures","_law_figures",defArgs s6,defBody s6,defScope s6,[],[]⟩
def xC:Stmt:=top 24
def Hf:He.DefD:=⟨("_law_number",none),"_law_number","_law_number",defArgs xC,defBody xC,defScope xC,[],[]⟩
def A8:Stmt:=top 25
def Hg:He.DefD:=⟨("_law_table",none),"_law_table","_law_table",defArgs A8,defBody A8,defScope A8,[],[]⟩
def s5:Stmt:=top 37
def d5:He.DefD:=⟨("_law_due",none),"_law_due","_law_due",defArgs s5,defBody s5,defScope s5,[],[]⟩
def s0:Stmt:=top 6
def d0:He.DefD:=⟨("breadth",none),"breadth","breadth",defArgs s0,defBody s0,defScope s0,[],[]⟩
def A9:Stmt:=top 14
def Hh:He.DefD:=⟨("words_on",none),"words_on","words_on",defArgs A9,defBody A9,defScope A9,[],[]⟩
def Ba:Stmt:=top 17
def Hj:He.DefD:=⟨("size_of",none),"size_of","size_of",defArgs Ba,defBody Ba,defScope Ba,[],[]⟩
def Bb:Stmt:=top 10
def Hk:He.DefD:=⟨("worn_from",none),"worn_from","worn_from",defArgs Bb,defBody Bb,defScope Bb,[],[]⟩
def s2:Stmt:=top 8
def d2:He.DefD:=⟨("check_word",none),"check_word","check_word",defArgs s2,defBody s2,defScope s2,[],[]⟩
def Bc:Stmt:=top 15
def Hl:He.DefD:=⟨("number_of",none),"number_of","number_of",defArgs Bc,defBody Bc,defScope Bc,[],[]⟩
def Bd:Stmt:=top 16
def Hm:He.DefD:=⟨("word_of",none),"word_of","word_of",defArgs Bd,defBody Bd,defScope Bd,[],[]⟩
def s3:Stmt:=top 18
def d3:He.DefD:=⟨("floor",none),"floor","floor",defArgs s3,defBody s3,defScope s3,[],[]⟩
def s1:Stmt:=top 19
def d1:He.DefD:=⟨("camps",none),"camps","camps",defArgs s1,defBody s1,defScope s1,[],[]⟩
def Be:Stmt:=top 38
def Hn:He.DefD:=⟨("_law_told",none),"_law_told","_law_told",defArgs Be,defBody Be,defScope Be,[],[]⟩
def sX:Stmt:=top 39
def Ho:He.DefD:=⟨("law",none),"law","law",defArgs sX,defBody sX,defScope sX,[],[]⟩
def fn:List He.DefD:=[d4,G5,d9,G6,G7,G8,G9,d8,Ha,Hb,Hc,d7,Hd,d6,Hf,Hg,d5,d0,Hh,Hj,Hk,d2,Hl,Hm,d3,d1,Hn,Ho]
def fns:List Str:=(["_law_cell","_law_letters","_law_in_line","_law_shrunk","_law_numbers","_law_rearranged","_law_rows","_law_guise","_law_stories","_law_whole","_law_like","_law_floor_size","_law_read","_law_figures","_law_number","_law_table","_law_due","breadth","words_on","size_of"]:List Str)++(["worn_from","check_word","number_of","word_of","floor","camps","_law_told","law"]:List Str)
def fa:List He.Fa:=yd fns en hn ct tab
def loose:List Str:=(["GuiseError","BadWord","BadCount","TooMany","breadth","check_word","worn_from","MOST_WORDS","MOST_LETTERS","words_on","number_of","word_of","size_of","floor","camps","_law_floor_size","_law_read","_law_figures","_law_number","_law_table"]:List Str)++(["_law_cell","_law_letters","_law_in_line","_law_shrunk","_law_numbers","_law_rearranged","_law_rows","_law_guise","_law_stories","_law_whole","_law_like","_law_due","_law_told"]:List Str)
abbrev R:PySem.W.OpenRow:=PySem.W.OpenLaw.row PySem.Challenge.rw_guisery_k24_camps_told
theorem Ev (w:World):GM.Eu R (PySem.W.view R.prog [39]) (fun s=>GM.qw 4 fa fn (HandSHeadRun.getT s)) (fun _=>He.valD fn) 12000 loose w:=by
 intro os
 kernel_rfl
end LWk24
section
open PySem PySem.W PySem.Calls PyProof.Rows
namespace LZk24
abbrev R:OpenRow:=OpenLaw.row PySem.Challenge.rw_guisery_k24_camps_told
abbrev Q:Program:=view R.prog [39]
abbrev d0:DefRec:=HandSHeadRun.topDef R.prog 39
theorem z1:opening R.prog=plainProg R.prog.main.scope.names:=by kernel_rfl
theorem z2:∀ s,fenceModules? R.prog s=some s:=fun s=>by kernel_rfl
theorem z3:defOf Q R.name=some (d0,[]):=by kernel_rfl
theorem z4:R.prog.theDef R.name=some (d0.params,d0.body,d0.scope):=by kernel_rfl
theorem z5:kwWritten? d0.params.kwonlyargs d0.params.kw_defaults=some []:=by kernel_rfl
theorem z6:(!R.writes || R.records.isEmpty)=true:=by rfl
theorem z8:(chainsOk Q && opensWell R.prog && (frees R.toRowW && R.within.isEmpty))=true:=by symm
theorem z9:R.prog.bare:=⟨rfl,rfl,rfl,rfl,rfl,by symm⟩
theorem Bj:R.toRowW.promised:=by w_witness2
theorem HP:d0.name=("law":PySem.Str):=by kernel_rfl
theorem pre (hk:PySem.W.Hook) (ob:SharedT→hk.α) (oe:∀ s:SharedT,ob s=hk.obs s.abs) (rn:∀ w,HandSHeadRun.RunEq R Q hk ob 12000 LWk24.loose w) (zz:WalkO Q LWk24.loose (XL Q []) hk.says R.toRowW d0 [] fun f vs=>PySem.call f vs):PySem.Challenge.rw_guisery_k24_camps_told.Holds:=by
 w_on; o_law
 exact HandSHeadRun.head_any (r:=R) (q:=Q) (H:=hk) (ob:=ob) (M:=12000) (loose:=LWk24.loose) (d:=d0) (kwd:=[]) oe
  z1 z2 rn z3 z4 z5 z6 (by first | assumption | symm) z8 z9 Bj zz
end LZk24
end
set_option maxHeartbeats 200000

namespace GM
open PySem PySem.Spec PyProof.Rows L2


inductive D where
 | non | bl (b:Bool) | int (i:Int) | str (s:Str)
 | tup (xs:List D) | lst (xs:List D) | arr (xs:List D) | dic (k:Bool) (kvs:List (D × D)) | loc (n:Nat)
 | exc (c:Str) | fdc (kvs:List (D × D)) | cd (kvs:List (Str × Str))
noncomputable instance:DecidableEq D:=fun _ _=>Classical.propDecidable _
instance:Inhabited D:=⟨.non⟩

inductive Tag where | fr | bo | ow | nw
 deriving DecidableEq
structure Sl where
 k:Tag
 d:D
abbrev Lc:=List (Option Sl)

inductive Cell where
 | obj (d:D) | ins (cls:Str) (fs:List (Str × D)) | fz

abbrev cj:=List Cell
noncomputable instance:DecidableEq Cell:=fun _ _=>Classical.propDecidable _

structure Ex where
 cls:Str
 at_:Option D:=none
inductive R (α:Type) where
 | ok (a:α)
 | er (e:Ex) (s:cj) (l:Lc)
 | no
abbrev VT:=D × Tag × cj
def R.bind {α β:Type}:R α→(α→R β)→R β
 | .ok a,f=>f a
 | .er e s l,_=>.er e s l
 | .no,_=>.no


def R.noEr {α:Type}:R α→R α
 | .er _ _ _=>.no
 | r=>r

inductive BOp where | add | sub | mul | fdiv | mod | pow
 deriving DecidableEq
inductive COp where | eq | ne | lt | le | gt | ge | isin | notin | isn | isnn
 deriving DecidableEq
inductive BI where | len | abs | max2 | min2 | maxl | minl | all | any | sum | sorted | tuple | list | dict | str | int
 deriving DecidableEq
inductive MI where | get1 | get2 | index | join | split
 deriving DecidableEq
inductive Ty where | int | str | bool | list | tuple | dict
 deriving DecidableEq

inductive T where
 | n (i:Nat) | nil | cons (a b:T) | t (ts:T)

def T.slots:T→List Nat
 | .n i=>[i]
 | .nil=>[]
 | .cons a b=>T.slots a++T.slots b
 | .t ts=>T.slots ts

inductive X where
 | nil | cons (a b:X)
 | v (i:Nat) | kn | kb (b:Bool) | ki (i:Int) | ks (s:Str) | g (j:Nat)
 | tup (es:X) | lst (es:X) | dic (k:Bool) (ks vs:X)
 | bin (o:BOp) (a b:X) | neg (a:X) | not (a:X) | cmp (o:COp) (a b:X) | chn (o p:COp) (a b c:X)
 | and (es:X) | or (es:X) | ite (c a b:X)
 | ix (a i:X) | sl (a lo hi:X)
 | call (j:Nat) (es:X) | bi (f:BI) (es:X) | isi (a:X) (t:Ty) | mt (m:MI) (o es:X)
 | comp (own:List Nat) (t:T) (it c e:X) | comE (own:List Nat) (t:T) (it:X) (j:Nat) (es:X)
 | tupI (it:X) | lstI (it:X) | trev (a:X) | rsl (a:X) | ssl (a k:X) | sset (a:X)
 | calS (j:Nat) (es:X)
 | rm (m:MI) (a b:X) | popk (a k:X)
 | new (a:X) | rdl (f:BI) (a:X) | inl (neg:Bool) (k a:X) | ixl (a k:X) | fld (c f:Str) (a:X) | frz (a:X) | frzs (a:X) | calD (j:Nat) (es:X) | popl (a:X)
 | isc (c:Str) (a:X)
 | kd (a:X) | dis (ps:X) | xis (j:Nat) (a:X) | calX (j:Nat) (a:X) | keys (a:X)
 | mth (c m:Str) (j:Nat) (o es:X) | mk (c:Str) (j:Nat) (es:X)
 | it (a:X) | rng1 (a:X) | rng2 (a b:X) | rng3 (a b c:X) | enum (a:X) (st:Nat) | enumK (a:X) (st:Nat) | zip (a b:X) | items (a:X) | rev (a:X)


structure Fn where
 kp:List Bool
 run:List D→R (D × Tag)
 /-- where it works on the store -/
 runS:List D→cj→R (D × Tag × cj):=fun _ _=>.no


def vB (ms:Str→Str→Option Bool) (c:Str):Fn:={ kp:=[false],run:=fun ds=>match ds with
 | [.exc nm]=>match ms nm c with
  | some b=>.ok (.bl b,.fr)
  | none=>.no
 | _=>.no }


def ir {α:Type} (k:Int) (xs:List α):List α:=(sliceRange 0 (xs.length:Int) k).filterMap (xs[·]?)
def gK {α:Type} (xs:List α) (lo hi:Option Int):List α:=(xs.drop (HT.sIx xs.length 0 lo)).take (HT.sIx xs.length xs.length hi - HT.sIx xs.length 0 lo)
noncomputable def D.look (kvs:List (D × D)) (k:D):Option D:=(kvs.find? fun kv=>decide (kv.1=k)).map (·.2)
noncomputable def D.put (kvs:List (D × D)) (k v:D):List (D × D) :=
 if (D.look kvs k).isSome then kvs.map (fun kv=>if kv.1=k then (kv.1,v) else kv) else kvs++[(k,v)]
noncomputable def D.drop (kvs:List (D × D)) (k:D):List (D × D):=kvs.filter fun kv=>decide (kv.1≠k)
def D.sgn (c:Nat):D:=.str ⟨#[c]⟩

def D.items:D→Option (List D)
 | .tup xs=>some xs
 | .lst xs=>some xs
 | .str s=>some (s.cps.toList.map D.sgn)
 | _=>none
mutual
def D.py:D→PyData
 | .non=>.none
 | .bl b=>.bool b
 | .int i=>.int i
 | .str s=>.str s
 | .tup xs=>.tuple (D.pys xs)
 | .lst xs=>.list (D.pys xs)
 | .arr _=>.none
 | .dic _ _=>.none
 | .loc _=>.none
 | .exc _=>.none
 | .fdc _=>.none
 | .cd _=>.none
def D.pys:List D→List PyData
 | []=>[]
 | x :: xs=>D.py x :: D.pys xs
end

mutual
def D.seq:D→Bool
 | .tup xs=>D.seqs xs
 | .lst xs=>D.seqs xs
 | .arr _=>false
 | .dic _ _=>false
 | .loc _=>false
 | .exc _=>false
 | .fdc _=>false
 | .cd _=>false
 | _=>true
def D.seqs:List D→Bool
 | []=>true
 | x :: xs=>D.seq x && D.seqs xs
end

def D.flat:D→Bool
 | .non=>true
 | .bl _=>true
 | .int _=>true
 | .str _=>true
 | _=>false

def D.still:D→Bool
 | .lst _=>false
 | .dic _ _=>false
 | _=>true
def D.eqOk (a b:D):Bool:=a.seq && b.seq && SeqAt.shaped a.py && SeqAt.shaped b.py
def D.eqv (a b:D):Bool:=PyData.eqv a.py b.py
mutual
def D.nk:D→Option NestedKey
 | .non=>some .none
 | .int i=>some (.num i)
 | .str x=>some (.text x)
 | .tup xs=>(D.nks xs).map .tup
 | .bl _=>none
 | .lst _=>none
 | .arr _=>none
 | .dic _ _=>none
 | .loc _=>none
 | .exc _=>none
 | .fdc _=>none
 | .cd _=>none
def D.nks:List D→Option (List NestedKey)
 | []=>some []
 | x :: xs=>(D.nk x).bind fun k=>(D.nks xs).map (k :: ·)
end

def D.keyOf:D→Option Key
 | .int i=>some (.inl i)
 | .str x=>some (.inr x)
 | _=>none

def D.isKey (k:Bool) (d:D):Bool :=
 if k=true then match d with
  | .tup xs=>match D.nk (.tup xs) with
   | some n=>decide (n.depth≤8)
   | none=>false
  | _=>false
 else (D.keyOf d).isSome


def cZ:List D→Option (List Int)
 | []=>some []
 | .int i :: r=>(cZ r).map (i :: ·)
 | _ :: _=>none
def iu:List D→Option (List Bool)
 | []=>some []
 | .bl i :: r=>(iu r).map (i :: ·)
 | _ :: _=>none
def gc:List D→Option (List Str)
 | []=>some []
 | .str i :: r=>(gc r).map (i :: ·)
 | _ :: _=>none
def cr (d:D) (s:cj):R VT:=.ok (d,.fr,s)
def dW (d:D) (s:cj):R VT:=.ok (d,.nw,s)

def mG (z:Str) (n:Nat):Str:=⟨(List.replicate n z.cps.toList).flatten.toArray⟩
def BOp.run (o:BOp) (a b:D) (s:cj):R VT :=
 match o,a,b with
 | .add,.int i,.int j=>cr (.int (i+j)) s
 | .add,.str x,.str y=>if x.length+y.length≤sizeLine then cr (.str (x++y)) s else .no
 | .add,.tup xs,.tup ys=>if xs.length+ys.length≤sizeLine then cr (.tup (xs++ys)) s else .no
 | .add,.lst xs,.lst ys=>if xs.length+ys.length≤sizeLine then dW (.lst (xs++ys)) s else .no
 | .sub,.int i,.int j=>cr (.int (i - j)) s
 | .mul,.int i,.int j=>if (-(2 ^ 64) < i∧i < 2 ^ 64)∨(-(2 ^ 64) < j∧j < 2 ^ 64) then cr (.int (i*j)) s else .no
 | .mul,.str z,.int k=>if -(2 ^ 63)≤k∧k < 2 ^ 63∧z.length*k.toNat≤sizeLine then cr (.str (mG z k.toNat)) s else .no
 | .mul,.lst xs,.int k=>if -(2 ^ 63)≤k∧k < 2 ^ 63∧xs.length*k.toNat≤sizeLine then dW (.lst (List.replicate k.toNat xs).flatten) s else .no
 | .mul,.tup xs,.int k=>if -(2 ^ 63)≤k∧k < 2 ^ 63∧xs.length*k.toNat≤sizeLine then cr (.tup (List.replicate k.toNat xs).flatten) s else .no
 | .fdiv,.int i,.int j=>if 0 < j∧j < 1073741824 then cr (.int (i / j)) s else .no
 | .mod,.int i,.int j=>if 0 < j then cr (.int (i % j)) s else .no
 | .pow,.int i,.int j=>if 0≤j∧j≤1000000∧i.natAbs < 2 ^ 64 then cr (.int (i ^ j.toNat)) s else .no
 | _,_,_=>.no

def ik:List D→Option Bool
 | []=>some false
 | .non :: r=>(ik r).map fun _=>true
 | .int _ :: r=>ik r
 | .str _ :: r=>ik r
 | _ :: _=>none
noncomputable def COp.run (o:COp) (a b:D) (s:cj):R VT :=
 match o,a,b with
 | .lt,.int i,.int j=>cr (.bl (decide (i < j))) s
 | .le,.int i,.int j=>cr (.bl (decide (i≤j))) s
 | .gt,.int i,.int j=>cr (.bl (decide (j < i))) s
 | .ge,.int i,.int j=>cr (.bl (decide (j≤i))) s
 | .isn,x,.non=>cr (.bl (decide (x=.non))) s
 | .isnn,x,.non=>cr (.bl (!decide (x=.non))) s
 | .isn,.bl a,.bl b=>cr (.bl (decide (a=b))) s
 | .eq,x,y=>if D.eqOk x y then cr (.bl (D.eqv x y)) s else .no
 | .ne,x,y=>if D.eqOk x y then cr (.bl (!D.eqv x y)) s else .no
 | .isin,x,.dic k kvs=>if D.isKey k x then cr (.bl (D.look kvs x).isSome) s else .no
 | .notin,x,.dic k kvs=>if D.isKey k x then cr (.bl (!(D.look kvs x).isSome)) s else .no
 | .isin,.str x,.str y=>cr (.bl (!(Builtin.Str.occurrences y x 0 y.length 1).isEmpty)) s
 | .notin,.str x,.str y=>cr (.bl (!(!(Builtin.Str.occurrences y x 0 y.length 1).isEmpty))) s
 | .isin,.str x,.tup ys=>match gc ys with | some zs=>cr (.bl (decide (x∈zs))) s | none=>.no
 | .isin,.non,.tup ys=>match ik ys with | some b=>cr (.bl b) s | none=>.no
 | .notin,.str x,.tup ys=>match gc ys with | some zs=>cr (.bl (!decide (x∈zs))) s | none=>.no
 | .isin,.str x,.cd kvs=>cr (.bl (kvs.lookup x).isSome) s
 | .notin,.str x,.cd kvs=>cr (.bl (!(kvs.lookup x).isSome)) s
 | .isin,x,.fdc kvs=>if D.isKey false x then cr (.bl (D.look kvs x).isSome) s else .no
 | .notin,x,.fdc kvs=>if D.isKey false x then cr (.bl (!(D.look kvs x).isSome)) s else .no
 | .isin,x,.lst ys=>if D.eqOk x (.lst ys) then cr (.bl (ys.any fun y=>D.eqv y x)) s else .no
 | .notin,x,.lst ys=>if D.eqOk x (.lst ys) then cr (.bl (!ys.any fun y=>D.eqv y x)) s else .no
 | _,_,_=>.no
def jQ (a i:D) (s:cj):R VT :=
 match a,i with
 | .tup xs,.int i=>match atI xs i with | some d=>cr d s | none=>.no
 | .lst xs,.int i=>match atI xs i with | some d=>cr d s | none=>.no
 | .arr xs,.int i=>match atI xs i with | some d=>cr d s | none=>.no
 | .str z,.int i=>if z.length≤sizeLine then match atI z.cps.toList i with | some c=>cr (D.sgn c) s | none=>.no else .no
 | _,_=>.no
noncomputable def mH (a i:D) (s:cj):R VT :=
 match a with
 | .dic k kvs=>if D.isKey k i then match D.look kvs i with | some d=>cr d s | none=>.no else .no
 | .fdc kvs=>if D.isKey false i then match D.look kvs i with | some d=>cr d s | none=>.no else .no
 | _=>jQ a i s
def sY (a:D) (lo hi:Option Int) (s:cj):R VT :=
 match a with
 | .tup xs=>cr (.tup (gK xs lo hi)) s
 | .lst xs=>dW (.lst (gK xs lo hi)) s
 | .str z=>if z.length≤sizeLine then cr (.str ⟨(gK z.cps.toList lo hi).toArray⟩) s else .no
 | _=>.no
def dR:List Int→Int
 | []=>0
 | [x]=>x
 | x :: r=>max x (dR r)
def il:List Int→Int
 | []=>0
 | [x]=>x
 | x :: r=>min x (il r)

def jd:List (D × D)→Option (List Str)
 | []=>some []
 | (.str k,_) :: r=>(jd r).map (k :: ·)
 | _ :: _=>none

open Classical in
noncomputable def BI.run (f:BI) (as:List D) (s:cj):R VT :=
 match f,as with
 | .len,[.tup xs]=>cr (.int xs.length) s
 | .len,[.lst xs]=>cr (.int xs.length) s
 | .len,[.arr xs]=>cr (.int xs.length) s
 | .len,[.dic _ xs]=>cr (.int xs.length) s
 | .len,[.str z]=>if z.length≤sizeLine then cr (.int z.length) s else .no
 | .abs,[.int i]=>cr (.int (if i < 0 then -i else i)) s
 | .max2,[.int i,.int j]=>cr (.int (if j > i then j else i)) s
 | .min2,[.int i,.int j]=>cr (.int (if j < i then j else i)) s
 | .maxl,[.tup xs]=>match cZ xs with | some (n :: ns)=>cr (.int (dR (n :: ns))) s | _=>.no
 | .minl,[.tup xs]=>match cZ xs with | some (n :: ns)=>cr (.int (il (n :: ns))) s | _=>.no
 | .maxl,[.lst xs]=>match cZ xs with | some (n :: ns)=>cr (.int (dR (n :: ns))) s | _=>.no
 | .minl,[.lst xs]=>match cZ xs with | some (n :: ns)=>cr (.int (il (n :: ns))) s | _=>.no
 | .all,[.lst xs]=>match iu xs with | some bs=>cr (.bl (bs.all id)) s | none=>.no
 | .any,[.lst xs]=>match iu xs with | some bs=>cr (.bl (bs.any id)) s | none=>.no
 | .sum,[.lst xs]=>match cZ xs with | some ns=>cr (.int ns.sum) s | none=>.no
 | .sorted,[.lst xs]=>match cZ xs with | some ns=>dW (.lst ((ns.mergeSort fun a b=>decide (a≤b)).map D.int)) s | none=>.no
 | .sorted,[.tup xs]=>match cZ xs with | some ns=>dW (.lst ((ns.mergeSort fun a b=>decide (a≤b)).map D.int)) s | none=>.no
 | .sorted,[.dic false ps]=>match jd ps with
  | some ks=>if h:ks.length < 64∧∃ ys:List Str,∀ zs:List Str,zs.Perm ks→sortedS zs=true→zs=ys then dW (.lst (h.2.choose.map D.str)) s else .no
  | none=>match cZ (ps.map fun p=>p.1) with
   | some ns=>dW (.lst ((ns.mergeSort fun a b=>decide (a≤b)).map D.int)) s
   | none=>.no
 | .sorted,[.fdc ps]=>match jd ps with
  | some ks=>if h:ks.length < 64∧∃ ys:List Str,∀ zs:List Str,zs.Perm ks→sortedS zs=true→zs=ys then dW (.lst (h.2.choose.map D.str)) s else .no
  | none=>.no
 | .tuple,[.lst xs]=>cr (.tup xs) s
 | .tuple,[.tup xs]=>cr (.tup xs) s
 | .list,[.lst xs]=>dW (.lst xs) s
 | .list,[.tup xs]=>dW (.lst xs) s
 | .dict,[.dic false ps]=>dW (.dic false ps) s
 | .dict,[.fdc ps]=>dW (.dic false ps) s
 | .str,[.int i]=>if i.natAbs.log2 < 1920 then cr (.str (Str.ofString (toString i))) s else .no
 | .str,[.str x]=>cr (.str x) s
 | .int,[.int i]=>cr (.int i) s
 | .int,[.bl b]=>cr (.int (if b then 1 else 0)) s
 | .int,[.str z]=>match intText? z with
  | some i=>if z.length≤640 then cr (.int i) s else .no
  | none=>.no
 | _,_=>.no
noncomputable def MI.run (m:MI) (o:D) (as:List D) (s:cj):R VT :=
 match m,o,as with
 | .get1,.dic k kvs,[x]=>if D.isKey k x then cr ((D.look kvs x).getD .non) s else .no
 | .get1,.fdc kvs,[x]=>if D.isKey false x then cr ((D.look kvs x).getD .non) s else .no
 | .get2,.fdc kvs,[x,y]=>if D.isKey false x then cr ((D.look kvs x).getD y) s else .no
 | .get1,.cd kvs,[.str x]=>cr (((kvs.lookup x).map D.str).getD .non) s
 | .get2,.dic k kvs,[x,y]=>if D.isKey k x then cr ((D.look kvs x).getD y) s else .no
 | .index,.tup xs,[.int k]=>match cZ xs with
  | some ns=>if k∈ns then cr (.int (ns.idxOf k:Nat)) s else .no
  | none=>.no
 | .index,.lst xs,[.bl b]=>match iu xs with
  | some bs=>if b∈bs then cr (.int (bs.idxOf b:Nat)) s else .no
  | none=>.no
 | _,_,_=>.no

def MI.runT (m:MI) (z:Str) (y:D) (s:cj):R VT :=
 match m,y with
 | .join,.lst ys=>match gc ys with
  | some zs=>if (zs.map (·.length)).sum+zs.length*z.length≤16777216 then cr (.str (Txt.join z zs)) s else .no
  | none=>.no
 | .split,.str b=>if (b.length == 0)=false∧z.length+2≤sizeLine∧(Txt.split z b).length≤sizeLine then dW (.lst ((Txt.split z b).map D.str)) s else .no
 | _,_=>.no

def MI.recv (m:MI) (o:D):Bool:=match m,o with
 | .get1,.dic _ _=>true
 | .get1,.cd _=>true
 | .get1,.fdc _=>true
 | .get2,.fdc _=>true
 | .get2,.dic _ _=>true
 | .index,.tup _=>true
 | .index,.lst _=>true
 | _,_=>false
def D.ty:D→Option String
 | .non=>some "NoneType"
 | .bl _=>some "bool"
 | .int _=>some "int"
 | .str _=>some "str"
 | .tup _=>some "tuple"
 | .lst _=>some "list"
 | .dic false _=>some "dict"
 | _=>none
def Ty.nm:Ty→String
 | .int=>"int"
 | .str=>"str"
 | .bool=>"bool"
 | .list=>"list"
 | .tuple=>"tuple"
 | .dict=>"dict"
def Ty.run (t:Ty) (d:D):Option Bool:=d.ty.map fun n=>n == t.nm || (n == "bool" && t.nm == "int")


mutual
def T.put:T→D→Lc→Option Lc
 | .n i,d,l=>some (l.set i (some ⟨.fr,d⟩))
 | .t ts,.tup ds,l=>T.puts ts ds l
 | .t ts,.lst ds,l=>T.puts ts ds l
 | _,_,_=>none
def T.puts:T→List D→Lc→Option Lc
 | .nil,[],l=>some l
 | .cons a b,d :: ds,l=>(T.put a d l).bind fun l'=>T.puts b ds l'
 | _,_,_=>none
end


def cg {α:Type} (r:R VT) (f:D→cj→R α):R α:=r.bind fun (d,t,s)=>if (t=.bo∨t=.ow)∧d.still=false then .no else f d s

def fk (f:Fn) (r:R (List D × cj)) (l:Lc):R VT:=(R.noEr r).bind fun (ds,s1)=>match f.run ds with
 | .ok (d,t)=>.ok (d,t,s1)
 | .er e _ _=>.er e s1 l
 | .no=>.no

def fP {α:Type} (r:R VT) (f:D→cj→R α):R α:=r.bind fun (d,t,s)=>if t=.ow then .no else f d s
def X.isNil:X→Bool
 | .nil=>true
 | _=>false
def dE (l:Lc):List Nat→Lc
 | []=>l
 | i :: is=>(dE l is).set i none
def lZ (o:Option D) (r:List D):List D:=match o with
 | some d=>d :: r
 | none=>r

def pp (ns:List Int):List Int:=ns.eraseDups.mergeSort fun a b=>decide (a≤b)

def dh (body:D→cj→R (Option D × cj)):List D→cj→R (List D × cj)
 | [],s=>.ok ([],s)
 | x :: xs,s=>(body x s).bind fun (o,s1)=>(dh body xs s1).bind fun (r,s2)=>.ok (lZ o r,s2)
def gL (a:Int) (n:Nat):List D:=(List.range n).map fun i=>.int (a+(i:Nat))
def sZ (a:Int) (n:Nat):List D:=(List.range n).map fun i=>.int (a - (i:Nat))
def fU (a b:D):D:=.tup [a,b]

def vx (s:cj):D→Option D
 | .loc n=>match s[n]? with
  | some (.obj d)=>some d
  | _=>none
 | _=>none

def pq (s:cj) (c:Str):D→Option (List (Str × D))
 | .loc n=>match s[n]? with
  | some (.ins c' fs)=>if c'=c then some fs else none
  | _=>none
 | _=>none
mutual
def l9 (s:cj):D→D
 | .loc n=>match s[n]? with
  | some (.obj d)=>d
  | _=>.loc n
 | .tup xs=>.tup (eX s xs)
 | .lst xs=>.lst (eX s xs)
 | .non=>.non
 | .bl b=>.bl b
 | .int i=>.int i
 | .str z=>.str z
 | .arr xs=>.arr xs
 | .dic k kvs=>.dic k kvs
 | .exc c=>.exc c
 | .fdc kvs=>.fdc kvs
 | .cd kvs=>.cd kvs
def eX (s:cj):List D→List D
 | []=>[]
 | x :: xs=>l9 s x :: eX s xs
end


def pw:List D→cj→Option (List D × cj)
 | [],s=>some ([],s)
 | .loc n :: r,s=>match s[n]? with
  | some (.obj (.lst es))=>match pw r (s.set n .fz) with
   | some (ds,s')=>some (.lst es :: ds,s')
   | none=>none
  | _=>none
 | _ :: _,_=>none
mutual
noncomputable def b9 (fs:List Fn) (gs:List D):X→Lc→cj→R VT
 | .v i,l,s=>match l[i]? with
  | some (some ⟨k,d⟩)=>.ok (d,k,s)
  | _=>.no
 | .kn,_,s=>cr .non s
 | .kb b,_,s=>cr (.bl b) s
 | .ki i,_,s=>cr (.int i) s
 | .ks x,_,s=>cr (.str x) s
 | .g j,_,s=>match gs[j]? with | some d=>cr d s | none=>.no
 | .tup es,l,s=>(jp fs gs es l s).bind fun (ds,s1)=>if ds.length≤sizeLine then cr (.tup ds) s1 else .no
 | .lst es,l,s=>(jp fs gs es l s).bind fun (ds,s1)=>if ds.length≤sizeLine then dW (.lst ds) s1 else .no
 | .dic k .nil .nil,_,s=>dW (.dic k []) s
 | .dic k #v[a] #v[b],l,s=>R.noEr (cg (b9 fs gs a l s) fun x s1=>cg (b9 fs gs b l s1) fun y s2=>if D.isKey k x=true then dW (.dic k [(x,y)]) s2 else .no)
 | .bin o a b,l,s=>(b9 fs gs a l s).bind fun (x,_,s1)=>(b9 fs gs b l s1).bind fun (y,_,s2)=>BOp.run o x y s2
 | .neg a,l,s=>(b9 fs gs a l s).bind fun (x,_,s1)=>match x with | .int i=>cr (.int (-i)) s1 | _=>.no
 | .not a,l,s=>(b9 fs gs a l s).bind fun (x,_,s1)=>match x with | .bl i=>cr (.bl (!i)) s1 | _=>.no
 | .cmp o a b,l,s=>(b9 fs gs a l s).bind fun (x,_,s1)=>(b9 fs gs b l s1).bind fun (y,_,s2)=>COp.run o x y s2
 | .chn o p a b c,l,s=>(b9 fs gs a l s).bind fun (x,_,s1)=>(b9 fs gs b l s1).bind fun (y,_,s2)=>(COp.run o x y s2).bind fun (z,_,s3)=>match z with
  | .bl true=>(b9 fs gs c l s3).bind fun (w,_,s4)=>COp.run p y w s4
  | .bl false=>cr (.bl false) s3
  | _=>.no
 | .and es,l,s=>(fV fs gs es l s).bind fun (b,s1)=>cr (.bl b) s1
 | .or es,l,s=>(iw fs gs es l s).bind fun (b,s1)=>cr (.bl b) s1
 | .ite c a b,l,s=>(b9 fs gs c l s).bind fun (x,_,s1)=>match x with | .bl true=>b9 fs gs a l s1 | .bl false=>b9 fs gs b l s1 | _=>.no
 | .ix a i,l,s=>(b9 fs gs a l s).bind fun (x,_,s1)=>(b9 fs gs i l s1).bind fun (y,_,s2)=>mH x y s2
 | .sl a lo hi,l,s=>(b9 fs gs a l s).bind fun (x,_,s1) =>
   (if lo.isNil=true then R.ok (none,s1) else (b9 fs gs lo l s1).bind fun (p,_,s2)=>match p with | .int i=>.ok (some i,s2) | _=>.no).bind fun (p,s2) =>
   (if hi.isNil=true then R.ok (none,s2) else (b9 fs gs hi l s2).bind fun (p,_,s3)=>match p with | .int i=>.ok (some i,s3) | _=>.no).bind fun (q,s3)=>sY x p q s3
 | .call j es,l,s=>match fs[j]? with
  | some f=>(fE fs gs es f.kp l s).bind fun (ds,s1)=>match f.run ds with
   | .ok (d,t)=>.ok (d,t,s1)
   | .er e _ _=>.er e s1 l
   | .no=>.no
  | none=>.no
 | .calS j es,l,s=>match fs[j]? with
  | some f=>(fE fs gs es f.kp l s).bind fun (ds,s1)=>if s1=[] then .no else match f.runS ds s1 with
   | .ok (d,t,c :: s2)=>.ok (d,t,c :: s2)
   | .er e (c :: s2) _=>.er e (c :: s2) l
   | _=>.no
  | none=>.no
 | .new a,l,s=>(b9 fs gs a l s).bind fun (d,t,s1)=>if t=.nw∧s1≠[] then cr (.loc s1.length) (s1++[.obj d]) else .no
 | .rdl f a,l,s=>(b9 fs gs a l s).bind fun (x,_,s1)=>match vx s1 x with
  | some d=>BI.run f [d] s1
  | none=>.no
 | .inl b k a,l,s=>(b9 fs gs k l s).bind fun (y,_,s1)=>(b9 fs gs a l s1).bind fun (x,_,s2)=>match vx s2 x with
  | some d=>COp.run (if b=true then .notin else .isin) y d s2
  | none=>.no
 | .ixl a k,l,s=>(b9 fs gs a l s).bind fun (x,_,s1)=>(b9 fs gs k l s1).bind fun (y,_,s2)=>match vx s2 x with
  | some d=>mH d y s2
  | none=>.no
 | .fld c f a,l,s=>(b9 fs gs a l s).bind fun (x,_,s1)=>match pq s1 c x with
  | some fv=>match fv.lookup f with
   | some d=>cr d s1
   | none=>.no
  | none=>.no
 | .frz a,l,s=>(b9 fs gs a l s).bind fun (x,_,s1)=>match x with
  | .loc n=>match s1[n]? with
   | some (.obj (.dic false kvs))=>cr (.fdc kvs) (s1.set n .fz)
   | some (.obj d)=>cr d (s1.set n .fz)
   | _=>.no
  | _=>.no
 | .frzs a,l,s=>cg (b9 fs gs a l s) fun x s1=>match x with
  | .lst xs=>match pw xs s1 with
   | some (ds,s2)=>cr (.lst ds) s2
   | none=>.no
  | _=>.no
 | .calD j es,l,s=>match fs[j]? with
  | some f=>(fE fs gs es f.kp l s).bind fun (ds,s1)=>match f.run (eX s1 ds) with
   | .ok (d,.fr)=>if d.flat=true then cr d s1 else .no
   | _=>.no
  | none=>.no
 | .isc c a,l,s=>(b9 fs gs a l s).bind fun (x,_,s1)=>match pq s1 c x with
  | some _=>cr (.bl true) s1
  | none=>.no
 | .kd a,l,s=>(b9 fs gs a l s).bind fun (x,t,s1)=>match x,t with
  | .dic false kvs,.nw=>cr (.fdc kvs) s1
  | _,_=>.no
 | .dis ps,l,s=>(rJ fs gs ps l s).bind fun (kvs,s1)=>if (kvs.map (·.1)).Nodup∧kvs.length≤15 then dW (.dic false kvs) s1 else .no
 | .xis j a,l,s=>match fs[j]? with
  | some f=>(b9 fs gs a l s).bind fun (x,_,s1)=>match x with
   | .exc nm=>match f.run [.exc nm] with
    | .ok (.bl b,.fr)=>cr (.bl b) s1
    | _=>.no
   | _=>.no
  | none=>.no
 | .calX j a,l,s=>match fs[j]? with
  | some f=>(b9 fs gs a l s).bind fun (x,_,s1)=>match x with
   | .exc nm=>match f.run [.exc nm] with
    | .ok (d,.fr)=>if d.flat=true then cr d s1 else .no
    | _=>.no
   | _=>.no
  | none=>.no
 | .rm m a b,l,s=>(b9 fs gs a l s).bind fun (x,_,s1)=>match x with
  | .str z=>(b9 fs gs b l s1).bind fun (y,_,s2)=>MI.runT m z y s2
  | _=>.no
 | .popk a k,l,s=>(b9 fs gs a l s).bind fun (x,_,s1)=>match x with
  | .loc n=>match s1[n]? with
   | some (.obj (.dic false _))=>(b9 fs gs k l s1).bind fun (y,_,s2)=>match s2[n]? with
    | some (.obj (.dic false kvs))=>if (D.keyOf y).isSome=true then match D.look kvs y with
     | some d=>cr d (s2.set n (.obj (.dic false (D.drop kvs y))))
     | none=>.no
     else .no
    | _=>.no
   | _=>.no
  | _=>.no
 | .popl a,l,s=>(b9 fs gs a l s).bind fun (x,_,s1)=>match x with
  | .loc n=>match s1[n]? with
   | some (.obj (.lst es))=>match es[es.length - 1]? with
    | some d=>cr d (s1.set n (.obj (.lst es.dropLast)))
    | none=>.no
   | _=>.no
  | _=>.no
 | .mth c m j o es,l,s=>(b9 fs gs o l s).bind fun (x,_,s1)=>match pq s1 c x with
  | some fv=>if (fv.lookup m).isSome=true then .no else match fs[j]? with
   | some f=>(fE fs gs es f.kp.tail l s1).bind fun (ds,s2)=>if s2=[] then .no else match f.runS (x :: ds) s2 with
    | .ok (d,t,c :: s3)=>.ok (d,t,c :: s3)
    | .er e (c :: s3) _=>.er e (c :: s3) l
    | _=>.no
   | none=>.no
  | none=>.no
 | .mk c j es,l,s=>match fs[j]? with
  | some f=>(fE fs gs es f.kp.tail l s).bind fun (ds,s1)=>if s1=[] then .no else match f.runS (.loc s1.length :: ds) (s1++[.ins c []]) with
   | .ok (.non,.fr,c :: s2)=>.ok (.loc s1.length,.fr,c :: s2)
   | .er e (c :: s2) _=>.er e (c :: s2) l
   | _=>.no
  | none=>.no
 | .bi f es,l,s=>(fE fs gs es [] l s).bind fun (ds,s1)=>BI.run f ds s1
 | .tupI it,l,s=>(gM fs gs it l s).bind fun (ds,s1)=>if ds.length≤16777216 then cr (.tup ds) s1 else .no
 | .lstI it,l,s=>(gM fs gs it l s).bind fun (ds,s1)=>if ds.length≤16777216 then dW (.lst ds) s1 else .no
 | .trev a,l,s=>(b9 fs gs a l s).bind fun (x,_,s1)=>match x with | .lst ds=>cr (.tup ds.reverse) s1 | _=>.no
 | .rsl a,l,s=>(b9 fs gs a l s).bind fun (x,_,s1)=>match x with | .tup ds=>cr (.tup ds.reverse) s1 | _=>.no
 | .sset a,l,s=>(b9 fs gs a l s).bind fun (x,_,s1)=>match x with
  | .lst ds=>match cZ ds with
   | some ns=>if ns.length≤4000 then dW (.lst ((pp ns).map D.int)) s1 else .no
   | none=>.no
  | _=>.no
 | .ssl a k,l,s=>(b9 fs gs a l s).bind fun (x,_,s1) =>
   (if k.isNil=true then R.ok (none,s1) else (b9 fs gs k l s1).bind fun (p,_,s2)=>match p with | .int i=>.ok (some i,s2) | _=>.no).bind fun (p,s2)=>match x,p with
   | .lst ds,some i=>if 0 < i then dW (.lst (ir i ds)) s2 else .no
   | _,_=>.no
 | .isi a t,l,s=>(b9 fs gs a l s).bind fun (x,_,s1)=>match Ty.run t x with | some b=>cr (.bl b) s1 | none=>.no
 | .mt m o es,l,s=>(b9 fs gs o l s).bind fun (x,_,s1)=>if MI.recv m x=false then .no else (jp fs gs es l s1).bind fun (ds,s2)=>MI.run m x ds s2
 | .comp own t it c e,l,s=>if (own.all fun i=>match l[i]? with | some (some ⟨.ow,_⟩)=>false | _=>true)=false then .no else (gM fs gs it l s).bind fun (xs,s1) =>
   (R.noEr (dh (fun x s=>match T.put t x (dE l own) with
    | none=>.no
    | some l1=>(if c.isNil=true then R.ok (true,s) else (b9 fs gs c l1 s).bind fun (b,_,s2)=>match b with | .bl b=>.ok (b,s2) | _=>.no).bind fun (b,s2) =>
      if b=true then cg (b9 fs gs e l1 s2) (fun d s3=>.ok (some d,s3)) else .ok (none,s2)) xs s1)).bind fun (ds,s2)=>if ds.length≤sizeLine then dW (.lst ds) s2 else .no
 | .comE own t it j es,l,s=>if (own.all fun i=>match l[i]? with | some (some ⟨.ow,_⟩)=>false | _=>true)=false then .no else (gM fs gs it l s).bind fun (xs,s1) =>
   match fs[j]? with
   | none=>.no
   | some f=>if xs.length≤sizeLine then (match dh (fun x s=>match T.put t x (dE l own) with
     | none=>.no
     | some l1=>cg (fk f (fE fs gs es f.kp l1 s) l1) (fun d s3=>.ok (some d,s3))) xs s1 with
    | .ok (ds,s2)=>dW (.lst ds) s2
    | .er e s2 _=>.er e s2 l
    | .no=>.no) else .no
 | _,_,_=>.no
noncomputable def fV (fs:List Fn) (gs:List D):X→Lc→cj→R (Bool × cj)
 | .nil,_,s=>.ok (true,s)
 | .cons a b,l,s=>(b9 fs gs a l s).bind fun (x,_,s1)=>match x with | .bl true=>fV fs gs b l s1 | .bl false=>.ok (false,s1) | _=>.no
 | _,_,_=>.no
noncomputable def iw (fs:List Fn) (gs:List D):X→Lc→cj→R (Bool × cj)
 | .nil,_,s=>.ok (false,s)
 | .cons a b,l,s=>(b9 fs gs a l s).bind fun (x,_,s1)=>match x with | .bl false=>iw fs gs b l s1 | .bl true=>.ok (true,s1) | _=>.no
 | _,_,_=>.no
noncomputable def rJ (fs:List Fn) (gs:List D):X→Lc→cj→R (List (D × D) × cj)
 | .nil,_,s=>.ok ([],s)
 | .cons (.ks z) (.cons b r),l,s=>R.noEr (cg (b9 fs gs b l s) fun d s1=>(rJ fs gs r l s1).bind fun (ds,s2)=>.ok ((.str z,d) :: ds,s2))
 | _,_,_=>.no
noncomputable def jp (fs:List Fn) (gs:List D):X→Lc→cj→R (List D × cj)
 | .nil,_,s=>.ok ([],s)
 | .cons a b,l,s=>cg (b9 fs gs a l s) fun d s1=>(jp fs gs b l s1).bind fun (ds,s2)=>.ok (d :: ds,s2)
 | _,_,_=>.no
noncomputable def fE (fs:List Fn) (gs:List D):X→List Bool→Lc→cj→R (List D × cj)
 | .nil,_,_,s=>.ok ([],s)
 | .cons a b,kp,l,s=>(b9 fs gs a l s).bind fun (d,t,s1)=>if kp.headD false=true∧(t=.bo∨t=.ow)∧d.still=false then .no else (fE fs gs b kp.tail l s1).bind fun (ds,s2)=>.ok (d :: ds,s2)
 | _,_,_,_=>.no
noncomputable def gM (fs:List Fn) (gs:List D):X→Lc→cj→R (List D × cj)
 | .rng1 a,l,s=>(b9 fs gs a l s).bind fun (x,_,s1)=>match x with | .int j=>if -(2 ^ 62)≤j∧j < 2 ^ 62 then .ok (gL 0 j.toNat,s1) else .no | _=>.no
 | .rng2 a b,l,s=>(b9 fs gs a l s).bind fun (x,_,s1)=>(b9 fs gs b l s1).bind fun (y,_,s2)=>match x,y with
  | .int i,.int j=>if -(2 ^ 62)≤i∧i < 2 ^ 62∧-(2 ^ 62)≤j∧j < 2 ^ 62 then .ok (gL i (j - i).toNat,s2) else .no
  | _,_=>.no
 | .rng3 a b c,l,s=>(b9 fs gs a l s).bind fun (x,_,s1)=>(b9 fs gs b l s1).bind fun (y,_,s2)=>(b9 fs gs c l s2).bind fun (z,_,s3)=>match x,y,z with
  | .int i,.int j,.int (-1)=>if -(2 ^ 62)≤i∧i < 2 ^ 62∧-(2 ^ 62)≤j∧j < 2 ^ 62 then .ok (sZ i (i - j).toNat,s3) else .no
  | _,_,_=>.no
 | .enum a st,l,s=>fP (b9 fs gs a l s) fun x s1=>match x.items with | some xs=>.ok ((xs.zipIdx st).map fun p=>fU (.int (p.2:Nat)) p.1,s1) | none=>.no
 | .enumK a st,l,s=>fP (b9 fs gs a l s) fun x s1=>match x.items with | some xs=>.ok ((xs.zipIdx st).map fun p=>fU (.int (p.2:Nat)) p.1,s1) | none=>.no
 | .zip a b,l,s=>fP (b9 fs gs a l s) fun x s1=>fP (b9 fs gs b l s1) fun y s2=>match x.items,y.items with
  | some xs,some ys=>.ok ((xs.zip ys).map fun p=>fU p.1 p.2,s2)
  | _,_=>.no
 | .keys a,l,s=>(b9 fs gs a l s).bind fun (x,_,s1)=>match x with | .fdc kvs=>.ok (kvs.map (·.1),s1) | _=>.no
 | .items a,l,s=>(b9 fs gs a l s).bind fun (x,_,s1)=>match x with | .fdc kvs=>.ok (kvs.map fun p=>fU p.1 p.2,s1) | _=>.no
 | .it a,l,s=>fP (b9 fs gs a l s) fun x s1=>match x.items with | some xs=>.ok (xs,s1) | none=>.no
 | _,_,_=>.no
end

example (fs:List Fn) (gs:List D) (l:Lc) (s:cj):b9 fs gs (.bin .add (.ki 3) (.ki 4)) l s=cr (.int 7) s:=rfl

def TuF (H:Hp) (a:Addr) (vs:List V):Prop:=∃ o:Obj,o.dict=none∧H a=some (.frz o (.tup vs))
theorem TuF.sq {K:PySem.W.Frag} {H:Hp} {a:Addr} {vs:List V}:TuF H a vs→SqT K H a vs:=fun ⟨o,_,h⟩=>.inl (.inr ⟨o,h⟩)
theorem TuF.mono {H H':Hp} {a:Addr} {vs:List V} (e:Same H H'):TuF H a vs→TuF H' a vs:=fun ⟨o,d,h⟩=>⟨o,d,e _ _ h⟩
theorem TuF.new {H:Hp} {p:Addr} {ob:Obj} {vs:List V} (hd:ob.dict=none):TuF (upd H p (.frz ob (.tup vs))) p vs:=⟨ob,hd,upd_same⟩

def NT (H:Hp) (xs:List V) (Q:VK):Prop:=∀ p ob,H p=none→ob.dict=none→Q (.ref p) (upd H p (.frz ob (.tup xs)))
section
variable {X:Cx} {pins:List (Addr × Obj)} {σ:L2.St} {H:Hp} {s:Shared} {Q:VK} {e:Expr} {es:List Expr} {te:TE} {p pos:Pos}
theorem jq {xs:List V} {its:List Value} (I:Inv X pins σ H s) (r:Vals xs its) (z:xs.length≤sizeLine) (q:NT H xs Q) :
  EP X pins σ Q (.ref s.heap.objs.size) { s with heap:=s.heap.push { cls:=.type "tuple",data:=.seq its.toArray } } :=
 ⟨.ref s.heap.objs.size,_,I.laid (t':=s.toks) (o:=.frz { cls:=.type "tuple",data:=.seq its.toArray } (.tup xs)) (fun _ _ w=>Heap.get?_push_of_some _ w) (ax _)
  ⟨Heap.get?_push_size _ rfl,z,its,r,IsTup.new _ _⟩,rfl,q _ _ (I.hok.fresh (ax _)) rfl⟩
def Bk (t:TA):TE:=fun σ H Q=>t σ H fun xs H1=>xs.length≤sizeLine∧NT H1 xs Q
theorem vC {t:TA} {k:Nat} (h:PA X es t):PE X (.Tuple es k pos) (Bk t) :=
 ⟨fun pins s σ H Q I hq=>wpAny_Tuple_spliced (thn (h.run pos pins s σ H _ I hq) fun us s1 ⟨xs,H1,I1,r,z,q⟩=>⟨by rw [← r.length]; exact z,jq I1 r z q⟩)⟩

def xD (K:PySem.W.Frag) (x:V) (H:Hp) (Q:VK):Prop:=(∃ p xs,x=.ref p∧SqL K H p xs∧NT H xs Q)∨(∃ p xs,x=.ref p∧SqT K H p xs∧Q (.ref p) H)
theorem vD {x:V} {v:Value} (I:Inv X pins σ H s) (r:RelV x v) (h:xD X.K x H Q):wpAny (model X.prog X.w) X.A (call (.type "tuple") [v]) (EP X pins σ Q) X.xe s:=by
 rcases h with ⟨a,xs,rfl,hs,q⟩ | ⟨a,xs,rfl,hs,q⟩
 ·cases r
  obtain ⟨its,rv,pl,hz⟩:=I.list hs
  exact call_tuple_list pl.isList (fun h' hk=>jq (I.kept (t':=s.toks) hk) rv hz q) (by rw [aN,← rv.length]; exact hz)
 ·cases r
  obtain ⟨its,rv,pl,hz⟩:=I.tuple hs
  exact call_tuple_tup pl ⟨.ref a,H,I,rfl,q⟩

def vE (te:L2.St→Hp→(Int→Int→Hp→Prop)→Prop):TE:=fun σ H Q=>te σ H fun a b H1=>RgOk a b∧NT H1 (rgV a b) Q
theorem rK {te:L2.St→Hp→(Int→Int→Hp→Prop)→Prop} (hc:X.calm=true) (hg:Gl X "tuple") (hm:X.mg "tuple"=none) (he:PRg X e te) (na:starEach [e] X.env=(false,eval e X.env) :: starEach [] X.env) :
  PE X (.Call (.Name "tuple" p) [e] [] pos) (vE te):=by
 refine ⟨fun pins s σ H Q I h=>Call_ (ld_blt I hg hm boot_tuple (PyProof.Rows.callWith_type1 (args_cons (thn (he pins s σ H _ I h) ?_) na) na))⟩
 rintro x s1 ⟨r,a,b,t,u,v,H1,rfl,hr,I1,⟨b1,b2,b3,b4,b5⟩,q⟩
 refine args_nil (call_tuple_range (n:=(b - a).toNat) (I1.ok.hd hc) hr (small_one b1 b2 b3 b4) (rangeSize_nat a b) b5 fun h' tk acc hk hi=>?_)
 have I2:Inv X pins σ H1 { s1 with heap:=h',toks:=tk }:=I1.kept hk
 have hl:(rgV a b).length≤sizeLine:=by
  rw [rgV_length,sizeLine_eq]
  omega
 have z:=jq I2 (vals_rg hi) hl q
 simpa using z

def Bl (K:PySem.W.Frag):V→Option Int→Option Int→Hp→VK→Prop:=fun x lo hi H Q=>∃ a xs,x=.ref a∧SqT K H a xs ∧
 (HT.sIx xs.length 0 lo=0∧HT.sIx xs.length xs.length hi=xs.length→Q (.ref a) H)∧(¬ (HT.sIx xs.length 0 lo=0∧HT.sIx xs.length xs.length hi=xs.length)→NT H (cutV xs lo hi) Q)
theorem sl_tupX:L2.SlR X (Bl X.K):=by
 rintro pins s σ H x v vl vu lo hi sl Q I rx hs pl pu ⟨a,xs,rfl,hx,q1,q2⟩
 cases rx
 obtain ⟨its,r,ht,hz⟩:=I.tuple hx
 have hn:its.toArray.size=xs.length:=by rw [aN,r.length]
 refine ⟨"tuple",_,PyProof.Rows.slot_tuple_getitem.lookup,ht.typeIs,?_⟩
 by_cases hw:HT.sIx xs.length 0 lo=0∧HT.sIx xs.length xs.length hi=xs.length
 ·exact getItem_tuple_whole ht hs pl pu (by rw [hn]; exact hw) ⟨.ref a,H,I,rfl,q1 hw⟩
 ·refine HT.getItem_tuple_cut ht hs pl pu (by rw [hn]; exact hw) ?_ (by rw [hn]; exact hz)
  rw [hn]
  exact jq I ((r.drop (HT.sIx xs.length 0 lo)).take (HT.sIx xs.length xs.length hi - HT.sIx xs.length 0 lo)) (a8 (cutV_length xs lo hi) hz) (q2 hw)

def xE (K:PySem.W.Frag):R2:=fun x y H Q=>∃ a b xs ys,x=.ref a∧y=.ref b∧SqT K H a xs∧SqT K H b ys∧xs.length+ys.length≤sizeLine ∧
 (xs=[]→Q (.ref b) H)∧(xs≠[]→ys=[]→Q (.ref a) H)∧(xs≠[]→ys≠[]→NT H (xs++ys) Q)
theorem op_catX:OpR X (binaryOp .Add) (xE X.K):=by
 rintro pins s σ H x y v u Q I rx ry ⟨a,b,xs,ys,rfl,rfl,ha,hb,hz,q0,q1,q2⟩
 cases rx
 cases ry
 obtain ⟨its,r1,p1,_⟩:=I.tuple ha
 obtain ⟨jts,r2,p2,_⟩:=I.tuple hb
 by_cases hx:xs=[]
 ·subst hx
  cases r1
  exact cat_tup0 p1 p2 ⟨.ref b,H,I,rfl,q0 rfl⟩
 ·refine HT.cat_tup p1 p2 (fun z=>hx (r1.nil_iff.mp z)) (fun z=>⟨.ref a,H,I,rfl,q1 hx (r2.nil_iff.mp z)⟩) (fun z=>?_) (by rw [← r1.length,← r2.length]; exact hz)
  exact jq I (r1.append r2) (by rw [ae]; exact hz) (q2 hx fun w=>z (r2.nil_iff.mpr w))

def tc (K:PySem.W.Frag) (te:TE):TE:=fun σ H Q=>te σ H fun v H1=>∃ (a:Addr) (xs:List V),v=.ref a∧SqL K H1 a xs∧NT H1 xs.reverse Q
theorem pz {p2 pos2:Pos} (hc:X.calm=true) (hg:Gl X "tuple") (hm:X.mg "tuple"=none) (hg2:Gl X "reversed") (hm2:X.mg "reversed"=none) (he:PE X e te)
  (hs:starEach [e] X.env=(false,eval e X.env) :: starEach [] X.env) :
  PE X (.Call (.Name "tuple" p) [.Call (.Name "reversed" p2) [e] [] pos2] [] pos) (tc X.K te):=by
 have hs2:starEach [.Call (.Name "reversed" p2) [e] [] pos2] X.env=(false,eval (.Call (.Name "reversed" p2) [e] [] pos2) X.env) :: starEach [] X.env:=rfl
 refine ⟨fun pins s σ H Q I h=>Call_ (ld_blt I hg hm boot_tuple (PyProof.Rows.callWith_type1 (args_cons (Call_ (ld_blt I hg2 hm2 PyProof.Rows.boot_reversed (PyProof.Rows.callWith_type1 (args_cons (thn (he.run pins s σ H _ I h) ?_) hs) hs rfl))) hs2) hs2 rfl))⟩
 rintro u s1 ⟨v,H1,I1,r1,a,xs,rfl,hq,q⟩
 cases r1
 obtain ⟨its,rv,pl,hz⟩:=I1.list hq
 refine args_nil (call_reversed_list pl.isList (args_nil ?_))
 have hl:=pl.isList
 have hn:s1.heap.objs.size≠a:=by
  obtain ⟨ol,hol,_⟩:=id hl
  exact (aX (Heap.lt_size hol)).symm
 have I2:Inv X pins σ H1 { s1 with heap:=s1.heap.push (revObj a ((its.toArray.size:Int) - 1)) }:=I1.kept (t':=s1.toks) fun _ _ w=>Heap.get?_push_of_some _ w
 obtain ⟨f0,f1,f2,f3,f4,f5⟩:=I1.fpOk (H':=H1) (b:=s1.heap.objs.size) (ax _) (I1.hok.fresh (ax _))
 refine RT.call_tuple_rev (s:={ s1 with heap:=s1.heap.push (revObj a ((its.toArray.size:Int) - 1)) }) (I1.ok.hd hc) ⟨_,Heap.get?_push_size _ rfl,rfl,rfl⟩ (hl.push _) hn.symm (by rw [aN,← rv.length]; exact hz) fun h' tk acc hk hi=>?_
 have I3:Inv X pins σ H1 { s1 with heap:=h',toks:=tk }:=I2.turned (t':=tk) (fun c o hc w=>hk c o hc w) f0 f1 f3 f4 f5
 have z:=jq I3 (RT.vals_rev rv hi) (by rw [List.length_reverse]; exact hz) q
 simpa using z
end

inductive Dw | lst (a:Addr) | tup (a:Addr) | str (x:Str)
def Dw.on (K:PySem.W.Frag) (H:Hp):Dw→List V→Prop
 | .lst a,xs=>SqL K H a xs
 | .tup a,xs=>SqT K H a xs
 | .str x,xs=>xs=x.cps.toList.map fun c=>V.str ⟨#[c]⟩

def Dw.iter (h:Heap) (it:Addr) (i:Nat):Dw→Prop
 | .lst a=>h.IsListIter it a i∧a≠it
 | .tup a=>h.IsTupleIter it a i∧a≠it
 | .str x=>∃ t,h.IsStrIter it (strIterType x) x t i
def Dw.src:Dw→List Addr
 | .lst a=>[a]
 | .tup a=>[a]
 | .str _=>[]
def Dw.val:Dw→V
 | .lst a=>.ref a
 | .tup a=>.ref a
 | .str x=>.str x
theorem Dw.inj {X:Cx} {pins:List (Addr × Obj)} {σ:L2.St} {H:Hp} {s:Shared} (I:Inv X pins σ H s) {d:Dw} {xs ys:List V} (h:d.on X.K H xs) (h':d.on X.K H ys):xs=ys:=by
 cases d with
 | lst a=>exact I.list_inj h h'
 | tup a=>exact I.tuple_inj h h'
 | str x=>exact h.trans h'.symm
theorem Dw.keep {h h':Heap} {it:Addr} {i:Nat} {d:Dw} (k:∀ o,h.get? it=some o→h'.get? it=some o) (q:d.iter h it i):d.iter h' it i:=by
 cases d with
 | lst a=>exact ⟨q.1.at k,q.2⟩
 | tup a=>exact ⟨q.1.at k,q.2⟩
 | str x=>exact let ⟨t,o,e,r⟩:=q; ⟨t,o,k o e,r⟩
theorem tf (x:Str) (t:Nat→Tok):∀ (j:Nat) (v:Value),(∃ c u,x.cps[j]?=some c∧v=.str ⟨#[c]⟩ u)→∃ y,(x.cps.toList.map fun c=>V.str ⟨#[c]⟩)[j]?=some y∧RelV y v:=fun j v ⟨c,u,h,e⟩ =>
 ⟨.str ⟨#[c]⟩,by rw [aD,Array.getElem?_toList,h]; rfl,u,e⟩

theorem Dw.draws {X:Cx} {pins:List (Addr × Obj)} {σ:L2.St} {H:Hp} {s:Shared} (I:Inv X pins σ H s) (hh:X.A.handled=none) {d:Dw} {xs:List V} {it:Addr} {i:Nat} (h:d.on X.K H xs) (q:d.iter s.heap it i) :
  ∃ (P:Nat→Value→Prop) (St:Nat→Heap→Prop),Draws X.prog X.w X.A.in1 it (it :: d.src) xs.length P St∧St i s.heap∧(∀ j v,P j v→∃ y,xs[j]?=some y∧RelV y v)∧(∀ j h,St j h→d.iter h it j) ∧
   (∀ a∈d.src,∃ o,s.heap.get? a=some o∧(o.cls=.type "list"∨o.cls=.type "tuple")):=by
 cases d with
 | lst a =>
  obtain ⟨its,rv,p,hz⟩:=I.list h
  have D:=Draws.list (prog:=X.prog) (w:=X.w) (A:=X.A.in1) hh it a q.2 its.toArray
  rw [aN,← rv.length] at D
  refine ⟨_,_,D,⟨q.1,p.isList⟩,fun j v e=>?_,fun j h st=>⟨st.1,q.2⟩,fun b e=>?_⟩
  ·have e:its.toArray[j]?=some v:=e
   rw [List.getElem?_toArray] at e
   have hj:j < xs.length:=by
    rw [rv.length]
    exact (au.mp e).1
   obtain ⟨u,h1,h2⟩:=rv.get (ak hj)
   rw [e] at h1
   cases h1
   exact ⟨_,ak hj,h2⟩
  ·rw [ah.mp e]
   obtain ⟨o,n,e,c,_⟩:=p
   exact ⟨o,e,.inl c⟩
 | tup a =>
  obtain ⟨its,rv,p,hz⟩:=I.tuple h
  have D:=Draws.tuple (prog:=X.prog) (w:=X.w) (A:=X.A.in1) hh it a q.2 its.toArray
  rw [aN,← rv.length] at D
  refine ⟨_,_,D,⟨q.1,p⟩,fun j v e=>?_,fun j h st=>⟨st.1,q.2⟩,fun b e=>?_⟩
  ·have e:its.toArray[j]?=some v:=e
   rw [List.getElem?_toArray] at e
   have hj:j < xs.length:=by
    rw [rv.length]
    exact (au.mp e).1
   obtain ⟨u,h1,h2⟩:=rv.get (ak hj)
   rw [e] at h1
   cases h1
   exact ⟨_,ak hj,h2⟩
  ·rw [ah.mp e]
   obtain ⟨o,e,c,_⟩:=p
   exact ⟨o,e,.inr c⟩
 | str x =>
  obtain ⟨t,q⟩:=q
  have D:=Draws.text (prog:=X.prog) (w:=X.w) (A:=X.A.in1) hh it x t
  have e:xs=x.cps.toList.map fun c=>V.str ⟨#[c]⟩:=h
  subst e
  have el:(x.cps.toList.map fun c=>V.str ⟨#[c]⟩).length=x.cps.size:=by rw [ac,bf]
  rw [← el] at D
  exact ⟨_,_,D,q,fun j v e=>tf x (fun _=>0) j v e,fun j h st=>⟨t,st⟩,fun b e=>by cases e⟩
theorem Dw.obj {h:Heap} {it:Addr} {i:Nat} {d:Dw} (q:d.iter h it i):∃ o,h.get? it=some o∧∀ v,o.data≠.cell v:=by
 cases d with
 | lst a =>
  obtain ⟨⟨o,ho,hc,hd⟩,_⟩:=q
  exact ⟨o,ho,fun v z=>by rw [hd] at z; cases z⟩
 | tup a =>
  obtain ⟨⟨o,ho,hc,hd⟩,_⟩:=q
  exact ⟨o,ho,fun v z=>by rw [hd] at z; cases z⟩
 | str x =>
  obtain ⟨t,o,ho,hc,hd⟩:=q
  exact ⟨o,ho,fun v z=>by rw [hd] at z; cases z⟩

theorem Dw.begins {X:Cx} {pins:List (Addr × Obj)} {σ:L2.St} {H:Hp} {s:Shared} {u:Value} (I:Inv X pins σ H s) {d:Dw} {xs:List V} (h:d.on X.K H xs) (r:RelV d.val u) :
  ∃ (o:Obj) (hB:Heap→Prop),Begins u o hB∧hB s.heap∧(∀ a∈d.src,a < s.heap.objs.size)∧∀ (h':Heap) (it:Addr),s.heap.objs.size≤it→h'.get? it=some o→d.iter h' it 0:=by
 cases d with
 | lst a =>
  cases r
  obtain ⟨its,rv,p,hz⟩:=I.list h
  refine ⟨_,_,begins_list a its.toArray,p.isList,fun b hb=>?_,fun h' it hi e=>⟨⟨_,e,rfl,rfl⟩,?_⟩⟩
  ·rw [ah.mp hb]
   exact p.lt
  ·exact aX (Nat.lt_of_lt_of_le p.lt hi)
 | tup a =>
  cases r
  obtain ⟨its,rv,p,hz⟩:=I.tuple h
  refine ⟨_,_,begins_tuple a its.toArray,p,fun b hb=>?_,fun h' it hi e=>⟨⟨_,e,rfl,rfl⟩,?_⟩⟩
  ·rw [ah.mp hb]
   exact p.lt
  ·exact aX (Nat.lt_of_lt_of_le p.lt hi)
 | str x =>
  obtain ⟨t,rfl⟩:=r
  exact ⟨_,_,begins_text x t,trivial,(fun b hb=>nomatch hb),fun h' it hi e=>⟨t,_,e,rfl,rfl⟩⟩

def vF (K:PySem.W.Frag) (d:Dw) (k:Nat):It :=
 ⟨fun i H=>∃ xs x,d.on K H xs∧xs[i]?=some x,
  fun i H v H'=>∃ T ob x,v=V.ref T∧H T=none∧ob.dict=none∧H'=upd H T (.frz ob (.tup [.int ((k+i:Nat):Int),x]))∧∀ xs,d.on K H xs→xs[i]?=some x,
  fun i H=>∃ xs,d.on K H xs∧xs.length=i⟩
theorem kT {P:Program} {w:World} {K:PySem.W.Frag} {elts:List Expr} {kk:Nat} {tpos:Pos} (d:Dw) (k:Nat) (e it:Addr) :
  Turn P w K (.Tuple elts kk tpos) (vF K d k) [e,it] e (fun i h=>(∃ old,IsEnum h e it ((k+i:Nat):Int) old)∧d.iter h it i∧e≠it) where
 mem:=by simp
 obj:=fun i h st b hb=>by
  obtain ⟨⟨old,he⟩,hi,_⟩:=st
  rcases aB.mp hb with rfl | hb
  ·exact ⟨_,he,fun v q=>nomatch q⟩
  ·rw [ah.mp hb]
   exact Dw.obj hi
 keep:=fun i h h' st kp=>⟨st.1.imp fun old he=>kp e (by simp) _ he,Dw.keep (fun o q=>kp it (by simp) o q) st.2.1,st.2.2⟩
 item:=by
  intro X hP hw hK hc i pins s σ H E I hf st hg
  subst hP hw hK
  obtain ⟨⟨old,he⟩,hi,hne⟩:=st
  obtain ⟨xs,x,hq,hx⟩:=hg
  obtain ⟨P,St,D,st,pP,pS,src⟩:=Dw.draws I (I.ok.hd hc) hq hi
  have hel:e < s.heap.objs.size:=Heap.lt_size he
  have hil:it < s.heap.objs.size:=let ⟨_,q,_⟩:=Dw.obj hi; Heap.lt_size q
  have hef:e∉it :: d.src:=fun z=>by
   rcases aB.mp z with z | z
   ·exact hne z
   ·obtain ⟨o,h1,h2⟩:=src e z
    rw [show s.heap.get? e=_ from he] at h1
    cases h1
    rcases h2 with h2 | h2
    ·exact absurd (show Value.type "enumerate"=Value.type "list" from h2) (by decide)
    ·exact absurd (show Value.type "enumerate"=Value.type "tuple" from h2) (by decide)
  refine wpAny_pyNext_enum_itemC D he st (au.mp hx).1 hne hef fun y h' tk hy ho st' hT hsz hk=>⟨_,rfl,wpAny_letOwnedTupleGo_enum (s:={ s with heap:=h',toks:=tk+1 }) ho fun h2 he' sb=>?_⟩
  obtain ⟨y',h1,ry⟩:=pP i y hy
  rw [hx] at h1
  cases h1
  have hT2:=(sb.2 _ (Nat.ne_of_gt hel)).trans hT
  have new:ObjOk X.prog X.w (upd H s.heap.objs.size (.frz { cls:=.type "tuple",data:=.seq #[.int ((k+i:Nat):Int) tk,y] } (.tup [.int ((k+i:Nat):Int),x]))) h2 s.heap.objs.size (.frz { cls:=.type "tuple",data:=.seq #[.int ((k+i:Nat):Int) tk,y] } (.tup [.int ((k+i:Nat):Int),x])) :=
   ⟨hT2,(by decide:2≤sizeLine),[_,y],.cons ⟨_,rfl⟩ #v[ry],⟨_,hT2,rfl,_,rfl⟩⟩
  have I1:=I.turnedNew (t':=tk+1) (ch:=[e,it]) (fun b ob hb q=>by
   have b1:b≠e:=fun z=>hb (by simp [z])
   have b2:b≠it:=fun z=>hb (by simp [z])
   exact (sb.2 b b1).trans (hk b ob b1 b2 q)) hf (ax _) new
  refine ⟨.ref s.heap.objs.size,_,I1,rfl,⟨_,_,x,rfl,I.hok.fresh (ax _),rfl,rfl,fun ys hy=>by rw [Dw.inj I hy hq]; exact hx⟩,⟨⟨y,?_⟩,Dw.keep (fun o q=>(sb.2 it (Ne.symm hne)).trans q) (pS _ _ st'),hne⟩,fun b hb=>?_⟩
  ·have z:((k+(i+1):Nat):Int)=((k+i:Nat):Int)+1:=by omega
   rw [z]
   exact he'
  ·rw [upd_ne,(hf b hb).1]
   rcases aB.mp hb with rfl | hb
   ·exact aX hel
   ·rw [ah.mp hb]
    exact aX hil
 done:=by
  intro X hP hw hK hc i pins s σ H E I hf st hg
  subst hP hw hK
  obtain ⟨⟨old,he⟩,hi,hne⟩:=st
  obtain ⟨xs,hq,hx⟩:=hg
  obtain ⟨P,St,D,st,pP,pS,src⟩:=Dw.draws I (I.ok.hd hc) hq hi
  obtain ⟨f0,f1,f2,f3,f4,f5⟩:=hf it (by simp)
  rw [← hx] at st
  exact wpAny_pyNext_enum_endD D he st fun h' eb=>⟨rfl,I.turned (t':=s.toks) (fun b o hb q=>eb b o hb q) f0 f1 f3 f4 f5⟩
 self:=fun A i s Q E st h=>let ⟨⟨_,he⟩,_⟩:=st; wpAny_pyIter_enum he h

set_option maxHeartbeats 1000000 in
theorem rM {v:Value} {o:Obj} {H:Heap→Prop} (B:Begins v o H) :
  Meets (Builtin.«enumerate.__new__» ⟨[.type "enumerate",v],[]⟩) (fun _ R s=>H s.heap ∧
   R (.ok (.ret (.ref (s.heap.push o).objs.size))) { s with heap:=(s.heap.push o).push { cls:=.type "enumerate",data:=.fields #[.none,.bool false,.ref s.heap.objs.size,rawInt 0,.none,.none] } }) :=
 .of_wp fun prog w A R s h=>by
  obtain ⟨hp,g,d,tk,os⟩:=s; obtain ⟨h1,h⟩:=h
  have hsub:=sub_enumerate
  have q1:∀ {A':Around} {E:Value→Shared→Prop} {Q:Value→Shared→Prop},Q (.ref hp.objs.size) ⟨hp.push o,g,d,tk,os⟩→wpAny (model prog w) A' (pyIter v) Q E ⟨hp,g,d,tk,os⟩ :=
   fun q=>B.iter prog w _ _ ⟨hp,g,d,tk,os⟩ _ h1 q
  wp_walk using q1
  refine wpAny_stack_any fun st=>wpAny_pure ?_
  split
  ·rename_i c _ _ _ _ _
   cases (c == Value.type "enumerate")
   ·wp_walk using q1
    exact ⟨_,rfl,h⟩
   ·wp_walk using q1
    exact ⟨_,rfl,h⟩
  ·wp_walk using q1
   exact ⟨_,rfl,h⟩
section
variable {prog:Program} {w:World} {A:Around} {E:Value→Shared→Prop} {s:Shared}
theorem pA {v:Value} {o:Obj} {H:Heap→Prop} {Q:Value→Shared→Prop} (B:Begins v o H) (h1:H s.heap)
  (h:∀ h',IsEnum h' (s.heap.objs.size+1) s.heap.objs.size 0 .none→h'.get? s.heap.objs.size=some o→h'.objs.size=s.heap.objs.size+2 →
   (∀ b o,s.heap.get? b=some o→h'.get? b=some o)→Q (.ref (s.heap.objs.size+1)) { s with heap:=h' }) :
  wpAny (model prog w) A (call (.type "enumerate") [v]) Q E s:=by
 refine callType_new F.called_enumerate (by decide) (F.typeCall_enumerate_1 _) (F.newCall_enumerate_1 _) (fun obj=>F.args_object_init_2 obj _) F.entry_enumerate_new
  (rM B) ⟨h1,?_⟩
 have hz:(s.heap.push o).objs.size=s.heap.objs.size+1:=Heap.size_push ..
 show _∧_
 rw [hz]
 have he:IsEnum ((s.heap.push o).push { cls:=.type "enumerate",data:=.fields #[.none,.bool false,.ref s.heap.objs.size,rawInt 0,.none,.none] }) (s.heap.objs.size+1) s.heap.objs.size 0 .none:=by
  have:=Heap.get?_push_size (s.heap.push o) (o:={ cls:=.type "enumerate",data:=.fields #[.none,.bool false,.ref s.heap.objs.size,rawInt 0,.none,.none] }) rfl
  rw [hz] at this; exact this
 exact ⟨⟨_,he,rfl⟩,h _ he (Heap.get?_push_of_some _ (Heap.get?_push_size _ B.free)) (by rw [Heap.size_push,hz]) fun b o x=>Heap.get?_push_of_some _ (Heap.get?_push_of_some _ x)⟩
end
def yf (K:PySem.W.Frag) (ta:TA):TI:=fun σ H R=>ta σ H fun vs H1=>∃ d xs,vs=[d.val]∧d.on K H1 xs∧R (vF K d 0) H1
theorem th {X:Cx} {e:Expr} {ta:TA} {p pos tpos:Pos} {elts:List Expr} {kk:Nat} (hg:Gl X "enumerate") (hm:X.mg "enumerate"=none) (ha:PA X [e] ta) (hs:starEach [e] X.env=[(false,eval e X.env)]) :
  PI X (.Tuple elts kk tpos) (.Call (.Name "enumerate" p) [e] [] pos) (yf X.K ta):=by
 refine ⟨fun pins s σ H R I h=>Call_ (ld_blt I hg hm boot_enumerate (PyProof.Rows.callWith_type1 (thn (ha.run pos pins s σ H _ I h) ?_) hs rfl))⟩
 rintro us s1 ⟨vs,H1,I1,r1,d,xs,rfl,hq,q⟩
 obtain ⟨u,rfl,ru⟩:=Vals.one r1
 obtain ⟨o,B,b,c,l,n⟩:=Dw.begins I1 hq ru
 refine pA b c fun h' he ho hsz hk=>wpAny_pyIter_enum he ?_
 refine ⟨_,[s1.heap.objs.size+1,s1.heap.objs.size],_,_,H1,rfl,I1.kept (t':=s1.toks) hk,kT d 0 (s1.heap.objs.size+1) s1.heap.objs.size,⟨⟨.none,he⟩,n _ _ (ax _) ho,Nat.succ_ne_self _⟩,fun b hb=>?_,q⟩
 have hle:s1.heap.objs.size≤b:=by
  rcases aB.mp hb with rfl | hb
  ·exact bx _ _
  ·rw [ah.mp hb]
   exact ax _
 exact I1.fpOk hle (I1.hok.fresh hle)

theorem mI {M:Model} {A:Around} {E:Value→Shared→Prop} {s:Shared} {pos:Pos} {T:String} {x:Sem Value} {kws:List (Option Str × Sem Value)} {Q:Value→Shared→Prop}
  (h:wpAny M A x (fun v s₁=>wpAny M A (evalAll (kws.map (·.2))) (fun kvs s₂=>wpAny M A (call (.type T) [v] ((kws.filterMap (·.1)).zip kvs)) Q E s₂) E s₁) E s)
  (hall:kws.all (·.1.isSome)=true) (hkw:kws.any (·.1.isNone)=false) :
  wpAny M A (callWith pos (.type T) [] [(false,x)] kws) Q E s:=by
 unfold callWith
 refine wpAny_bind (wpAny_holding (wpAny_mono (PyProof.Rows.evalArgs_kwB (f:=.type T) (Q:=fun a s₁=>wpAny M A (call (.type T) a.pos a.kw) Q E s₁) hall (Calls.spliced_cons (wpAny_mono h (fun v s₁ h₁=>Calls.spliced_nil h₁) fun _ _ x=>x))) (fun a s₁ h₁=>wpAny_bind (wpAny_standAt ?_)) fun _ _ x=>x))
 have hp:([(false,x)]:List (Bool × Sem Value)).any (·.1)=false:=rfl
 simp only [hp,hkw,Bool.or_false]
 refine wpAny_bind (wpAny_pure ?_)
 exact wpAny_bind (wpAny_mono h₁ (fun r s₂ hr=>wpAny_bind (wpAny_holding (wpAny_point (wpAny_pure hr)))) fun _ _ x=>x)
def vG (K:PySem.W.Frag) (te:TE) (n:Nat):TI:=fun σ H R=>te σ H fun v H1=>∃ d xs,v=d.val∧d.on K H1 xs∧R (vF K d n) H1
theorem rN {X:Cx} {pins:List (Addr × Obj)} {σ:L2.St} {s2:Shared} {H2:Hp} {d:Dw} {xs:List V} {u:Value} {n:Nat} {t:Tok} {Q:Value→Shared→Prop} (hn:n < 1000) (I2:Inv X pins σ H2 s2) (hq:d.on X.K H2 xs) (ru:RelV d.val u)
  (h:∀ h',Inv X pins σ H2 { s2 with heap:=h' }→IsEnum h' (s2.heap.objs.size+1) s2.heap.objs.size (n:Nat) .none→d.iter h' s2.heap.objs.size 0→(∀ b,s2.heap.objs.size≤b→FpOk X pins H2 b)→Q (.ref (s2.heap.objs.size+1)) { s2 with heap:=h' }) :
  wpAny (model X.prog X.w) X.A (call (.type "enumerate") [u] [(Str.ofString "start",.int (n:Nat) t)]) Q X.xe s2:=by
 obtain ⟨o,B,b,c,l,nn⟩:=Dw.begins I2 hq ru
 refine enum_begins_start b c (by omega) (by omega) fun h' he ho hsz hk=>?_
 exact h h' (I2.kept (t':=s2.toks) hk) he (nn _ _ (ax _) ho) fun b hle=>I2.fpOk hle (I2.hok.fresh hle)
theorem tj {M:Model} {A:Around} {E:Value→Shared→Prop} {s:Shared} {env:Env} {x:Str} {np pos:Pos} {e:Expr} {kws:List Keyword} {Q:Value→Shared→Prop} (hs:starEach [e] env=[(false,eval e env)])
  (h:wpAny M A (eval (.Name x np) env) (fun f s₁=>wpAny M A (callWith pos f [] [(false,eval e env)] (backToKw pos (keywordEach kws env))) Q E s₁) E s) :
  wpAny M A (eval (.Call (.Name x np) [e] kws pos) env) Q E s:=by
 show wpAny M A (do callWith pos (← eval (.Name x np) env) [] (backTo pos (starEach [e] env)) (backToKw pos (keywordEach kws env))) Q E s
 rw [hs]
 exact wpAny_bind h
theorem yg {nm:Str} {k:Expr} {kpos pos:Pos} {env:Env}:backToKw pos (keywordEach [⟨some nm,k,kpos⟩] env)=[(some nm,do let v ← eval k env; standAt pos; pure v)]:=rfl
theorem rO {X:Cx} {e:Expr} {te:TE} {p pos tpos q kpos:Pos} {elts:List Expr} {kk n kc:Nat} (hn:n < 1000) (hg:Gl X "enumerate") (hm:X.mg "enumerate"=none) (ha:PE X e te) (hs:starEach [e] X.env=[(false,eval e X.env)]) :
  PI X (.Tuple elts kk tpos) (.Call (.Name "enumerate" p) [e] [⟨some "start",.Constant (.int (n:Nat)) kc q,kpos⟩] pos) (vG X.K te n):=by
 refine ⟨fun pins s σ H R I h=>?_⟩
 refine tj hs (ld_blt I hg hm boot_enumerate ?_)
 rw [yg]
 refine mI (thn (ha.run pins s σ H _ I h) ?_) rfl rfl
 rintro u s1 ⟨v,H1,I1,ru,d,xs,rfl,hq,q1⟩
 refine PyProof.Rows.evalAll_cons (wpAny_bind (thn ((pe_int (X:=X) (i:=(n:Nat))).run pins s1 σ H1 (fun v H2=>v=.int (n:Nat)∧H2=H1) I1 ⟨rfl,rfl⟩) ?_))
 rintro w s2 ⟨v,H2,I2,rv,rfl,rfl⟩
 obtain ⟨t,rfl⟩:=rv
 refine wpAny_bind (wpAny_standAt (wpAny_pure (PyProof.Rows.evalAll_nil ?_)))
 refine rN hn I2 hq ru fun h' I3 he hi hb=>wpAny_pyIter_enum he ?_
 exact ⟨_,[s2.heap.objs.size+1,s2.heap.objs.size],_,_,H2,rfl,I3,kT d n (s2.heap.objs.size+1) s2.heap.objs.size,⟨⟨.none,he⟩,hi,Nat.succ_ne_self _⟩,fun b hb2=>hb b (by
  rcases aB.mp hb2 with rfl | hb2
  ·exact bx _ _
  ·rw [ah.mp hb2]
   exact ax _),q1⟩

def yh (K:PySem.W.Frag) (d1 d2:Dw):It :=
 ⟨fun i H=>∃ xs ys x y,d1.on K H xs∧d2.on K H ys∧xs[i]?=some x∧ys[i]?=some y,
  fun i H v H'=>∃ T ob x y,v=V.ref T∧H T=none∧ob.dict=none∧H'=upd H T (.frz ob (.tup [x,y]))∧(∀ xs,d1.on K H xs→xs[i]?=some x)∧∀ ys,d2.on K H ys→ys[i]?=some y,
  fun i H=>∃ xs ys,d1.on K H xs∧d2.on K H ys∧i≤xs.length∧i≤ys.length∧(i=xs.length∨i=ys.length)⟩
theorem rP {P:Program} {w:World} {K:PySem.W.Frag} {elts:List Expr} {kk:Nat} {tpos:Pos} {d1 d2:Dw} {z TI TO i1 i2:Addr} (D:ZipSep2 z TI TO i1 i2 (i1 :: d1.src) (i2 :: d2.src)) :
  Turn P w K (.Tuple elts kk tpos) (yh K d1 d2) [z,TI,TO,i1,i2] z (fun i h=>IsZip h z TI TO .none∧IsTupOf2 h TI (.ref i1) (.ref i2)∧(∃ x y,IsTupOf2 h TO x y)∧d1.iter h i1 i∧d2.iter h i2 i) where
 mem:=by simp
 obj:=fun i h st c hc=>by
  obtain ⟨hz,hTI,⟨x,y,hTO⟩,h1,h2⟩:=st
  simp only [aB,bN,or_false] at hc
  rcases hc with rfl | rfl | rfl | rfl | rfl
  ·exact ⟨_,hz,fun v q=>nomatch q⟩
  ·exact ⟨_,hTI,fun v q=>nomatch q⟩
  ·exact ⟨_,hTO,fun v q=>nomatch q⟩
  ·exact Dw.obj h1
  ·exact Dw.obj h2
 keep:=fun i h h' st k=>⟨k z (by simp) _ st.1,k TI (by simp) _ st.2.1,st.2.2.1.imp fun x q=>q.imp fun y q=>k TO (by simp) _ q,Dw.keep (fun o q=>k i1 (by simp) o q) st.2.2.2.1,Dw.keep (fun o q=>k i2 (by simp) o q) st.2.2.2.2⟩
 item:=by
  intro X hP hw hK hc i pins s σ H E I hf st hg
  subst hP hw hK
  obtain ⟨hz,hTI,⟨x0,y0,hTO⟩,h1,h2⟩:=st
  obtain ⟨xs,ys,x,y,hq1,hq2,hx,hy⟩:=hg
  obtain ⟨P1,St1,D1,st1,pP1,pS1,_⟩:=Dw.draws I (I.ok.hd hc) hq1 h1
  obtain ⟨P2,St2,D2,st2,pP2,pS2,_⟩:=Dw.draws I (I.ok.hd hc) hq2 h2
  refine wpAny_pyNext_zipD2_item D D1 D2 hz hTI hTO st1 st2 (au.mp hx).1 (au.mp hy).1 fun u1 u2 h' tk y1 y2 z' TO' st1' st2' hT hsz hk=>⟨_,rfl,wpAny_letOwnedTupleGo_zip (s:={ s with heap:=h',toks:=tk }) z' fun h3 z3 sb=>?_⟩
  obtain ⟨x',e1,r1⟩:=pP1 i u1 y1
  rw [hx] at e1
  cases e1
  obtain ⟨y',e2,r2⟩:=pP2 i u2 y2
  rw [hy] at e2
  cases e2
  have hzl:z < s.heap.objs.size:=Heap.lt_size hz
  have hT2:=(sb.2 _ (Nat.ne_of_gt hzl)).trans hT
  have new:ObjOk X.prog X.w (upd H s.heap.objs.size (.frz { cls:=.type "tuple",data:=.seq #[u1,u2] } (.tup [x,y]))) h3 s.heap.objs.size (.frz { cls:=.type "tuple",data:=.seq #[u1,u2] } (.tup [x,y])) :=
   ⟨hT2,(by decide:2≤sizeLine),[u1,u2],.cons r1 #v[r2],⟨_,hT2,rfl,_,rfl⟩⟩
  have I1:=I.turnedNew (t':=tk) (ch:=[z,TI,TO,i1,i2]) (fun b ob hb q=>by
   simp only [aB,bN,or_false,not_or] at hb
   exact (sb.2 b hb.1).trans (hk b ob hb.1 hb.2.2.1 hb.2.2.2.1 hb.2.2.2.2 q)) hf (ax _) new
  refine ⟨.ref s.heap.objs.size,_,I1,rfl,⟨_,_,x,y,rfl,I.hok.fresh (ax _),rfl,rfl,fun l hl=>by rw [Dw.inj I hl hq1]; exact hx,fun l hl=>by rw [Dw.inj I hl hq2]; exact hy⟩,
   ⟨z3,(sb.2 _ D.TIz).trans (hk _ _ D.TIz D.TITO D.TIi1 D.TIi2 hTI),⟨u1,u2,(sb.2 _ D.TOz).trans TO'⟩,Dw.keep (fun o q=>(sb.2 _ D.zi1.symm).trans q) (pS1 _ _ st1'),Dw.keep (fun o q=>(sb.2 _ D.zi2.symm).trans q) (pS2 _ _ st2')⟩,fun c hcm=>?_⟩
  have hlt:c < s.heap.objs.size:=by
   have hcm':=hcm
   simp only [aB,bN,or_false] at hcm'
   rcases hcm' with rfl | rfl | rfl | rfl | rfl
   ·exact hzl
   ·exact Heap.lt_size hTI
   ·exact Heap.lt_size hTO
   ·exact let ⟨_,q,_⟩:=Dw.obj h1; Heap.lt_size q
   ·exact let ⟨_,q,_⟩:=Dw.obj h2; Heap.lt_size q
  rw [upd_ne (aX hlt)]
  exact (hf c hcm).1
 done:=by
  intro X hP hw hK hc i pins s σ H E I hf st hg
  subst hP hw hK
  obtain ⟨hz,hTI,⟨x0,y0,hTO⟩,h1,h2⟩:=st
  obtain ⟨xs,ys,hq1,hq2,l1,l2,le⟩:=hg
  obtain ⟨P1,St1,D1,st1,pP1,pS1,_⟩:=Dw.draws I (I.ok.hd hc) hq1 h1
  obtain ⟨P2,St2,D2,st2,pP2,pS2,_⟩:=Dw.draws I (I.ok.hd hc) hq2 h2
  exact wpAny_pyNext_zipD2_end D D1 D2 hz hTI hTO st1 st2 l1 l2 le fun h' tk hk=>⟨rfl,I.turnedL (t':=tk) (ch:=[z,TI,TO,i1,i2]) (fun c o hb q=>by
   simp only [aB,bN,or_false,not_or] at hb
   exact hk c o hb.1 hb.2.2.1 hb.2.2.2.1 hb.2.2.2.2 q) hf⟩
 self:=fun A i s Q E st h=>wpAny_pyIter_zip st.1 h
def Bm (K:PySem.W.Frag) (ta:TA):TI:=fun σ H R=>ta σ H fun vs H1=>∃ d1 d2 xs ys,vs=[d1.val,d2.val]∧d1.on K H1 xs∧d2.on K H1 ys∧R (yh K d1 d2) H1
theorem vH {X:Cx} {e e2:Expr} {ta:TA} {p pos tpos:Pos} {elts:List Expr} {kk:Nat} (hg:Gl X "zip") (hm:X.mg "zip"=none) (ha:PA X [e,e2] ta)
  (hs:starEach [e,e2] X.env=(false,eval e X.env) :: starEach [e2] X.env) (hpl:(backTo pos (starEach [e2] X.env)).any (·.1)=false) :
  PI X (.Tuple elts kk tpos) (.Call (.Name "zip" p) [e,e2] [] pos) (Bm X.K ta):=by
 refine ⟨fun pins s σ H R I h=>Call_ (ld_blt I hg hm PyProof.Rows.boot_zip (PyProof.Rows.callWith_type1 (thn (ha.run pos pins s σ H _ I h) ?_) hs hpl))⟩
 rintro us s1 ⟨vs,H1,I1,r1,d1,d2,xs,ys,rfl,hq1,hq2,q⟩
 obtain ⟨u1,u2,rfl,ru1,ru2⟩:=Vals.two r1
 obtain ⟨o1,B1,b1,c1,l1,n1⟩:=Dw.begins I1 hq1 ru1
 obtain ⟨o2,B2,b2,c2,l2,n2⟩:=Dw.begins I1 hq2 ru2
 refine zip_begins2 b1 b2 c1 c2 fun h' hz hTI hTO k1 k2 hsz hk=>wpAny_pyIter_zip hz ?_
 refine ⟨_,[s1.heap.objs.size+4,s1.heap.objs.size+2,s1.heap.objs.size+3,s1.heap.objs.size,s1.heap.objs.size+1],_,_,H1,rfl,I1.kept (t':=s1.toks) hk,rP (zip_sep2 l1 l2),⟨hz,hTI,⟨_,_,hTO⟩,n1 _ _ (ax _) k1,n2 _ _ (bx _ _) k2⟩,fun c hcm=>?_,q⟩
 have hle:s1.heap.objs.size≤c:=by
  simp only [aB,bN,or_false] at hcm
  rcases hcm with rfl | rfl | rfl | rfl | rfl
  ·exact bx _ _
  ·exact bx _ _
  ·exact bx _ _
  ·exact ax _
  ·exact bx _ _
 exact I1.fpOk hle (I1.hok.fresh hle)

structure Wd where
 P:Program
 w:World
 K:PySem.W.Frag
 /-- the exceptions that a suite holds,their classes' names -/
 pn:Addr→Option Str

def jR:Addr→Option Str:=fun _=>none

def kU (a:Addr) (ob:Obj):HO:=.ext fun h=>h.get? a=some ob

structure DtO (Y:Wd) (a:Addr) (ob:Obj) (xs:List (NestedKey × Addr × Value)):Prop where
 ex:ob.ExactDict
 nm:(a == sysModules)=false
 es:∃ es ep,ob.data=.dict es ep∧es.toList=xs.map (entryOfKey (nestedKind Y.P Y.w))
 nd:(xs.map (·.1)).Nodup
 sz:xs.length≤sizeLine


structure TbK (Y:Wd) (a:Addr) (kvs:List (Str × Str)):Prop where
 d:∃ es n,KDict Y.K Y.w a es n
 at_:∀ z:Str,∃ o,PySem.W.nsIn Y.K a z=some o∧RelO ((kvs.lookup z).map V.str) o


structure Fr where
 h:Hp
 m:Addr→Option Nat

structure Fr.le (F F':Fr):Prop where
 s:Same F.h F'.h
 m:∀ a n,F.m a=some n→F'.m a=some n
theorem Fr.le.refl (F:Fr):F.le F:=⟨Same.refl _,fun _ _ h=>h⟩
theorem Fr.le.trans {a b c:Fr} (x:a.le b) (y:b.le c):a.le c:=⟨x.s.trans y.s,fun p n h=>y.m p n (x.m p n h)⟩
abbrev Fr.upd (F:Fr) (p:Addr) (o:HO):Fr:=⟨L2.upd F.h p o,F.m⟩
mutual
inductive Rp (Y:Wd) (F:Fr):D→V→Prop
 | non:Rp Y F .non .non
 | bl (b:Bool):Rp Y F (.bl b) (.bl b)
 | int (i:Int):Rp Y F (.int i) (.int i)
 | str (x:Str):Rp Y F (.str x) (.str x)
 | tup {a:Addr} {vs:List V} {ds:List D}:TuF F.h a vs→Rps Y F ds vs→Rp Y F (.tup ds) (.ref a)
 | lst {a:Addr} {vs:List V} {ds:List D}:F.h a=some (.lst vs)→Rps Y F ds vs→Rp Y F (.lst ds) (.ref a)
 | arr {a:Addr} {vs:List V} {ds:List D}:SqL Y.K F.h a vs→Rps Y F ds vs→Rp Y F (.arr ds) (.ref a)
 | dk {a:Addr} {kvs:List (Key × V)} {ps:List (D × D)}:F.h a=some (.dK kvs)→Rpk Y F ps kvs→Rp Y F (.dic false ps) (.ref a)
 | dt {a:Addr} {ob:Obj} {xs:List (NestedKey × Addr × Value)} {ps:List (D × D)}:F.h a=some (kU a ob)→DtO Y a ob xs→Rpt Y F ps xs→Rp Y F (.dic true ps) (.ref a)
 | loc {a:Addr} {n:Nat}:F.m a=some n→Rp Y F (.loc n) (.ref a)
 | exc {a:Addr} {c:Str}:Y.pn a=some c→Rp Y F (.exc c) (.ref a)
 | fd {a:Addr} {o:Obj} {kvs:List (Key × V)} {ps:List (D × D)}:F.h a=some (.frz o (.dK kvs))→Rpk Y F ps kvs→Rp Y F (.fdc ps) (.ref a)
 | tb {a:Addr} {kvs:List (Str × Str)}:TbK Y a kvs→Rp Y F (.cd kvs) (.ref a)
inductive Rps (Y:Wd) (F:Fr):List D→List V→Prop
 | nil:Rps Y F [] []
 | cons {d:D} {ds:List D} {v:V} {vs:List V}:Rp Y F d v→Rps Y F ds vs→Rps Y F (d :: ds) (v :: vs)
inductive Rpk (Y:Wd) (F:Fr):List (D × D)→List (Key × V)→Prop
 | nil:Rpk Y F [] []
 | cons {k d:D} {ps:List (D × D)} {q:Key} {v:V} {kvs:List (Key × V)}:D.keyOf k=some q→Rp Y F d v→Rpk Y F ps kvs→Rpk Y F ((k,d) :: ps) ((q,v) :: kvs)
inductive Rpt (Y:Wd) (F:Fr):List (D × D)→List (NestedKey × Addr × Value)→Prop
 | nil:Rpt Y F [] []
 | cons {k d:D} {ps:List (D × D)} {q:NestedKey} {b:Addr} {v:V} {u:Value} {xs:List (NestedKey × Addr × Value)}:D.nk k=some q→q.depth≤8→Rp Y F k (.ref b)→Rp Y F d v→RelV v u→Rpt Y F ps xs →
   Rpt Y F ((k,d) :: ps) ((q,b,u) :: xs)
end


inductive TpW (Y:Wd) (F:Fr) (H:Hp):D→V→Prop
 | lst {a:Addr} {vs:List V} {ds:List D}:H a=some (.lst vs)→Rps Y F ds vs→TpW Y F H (.lst ds) (.ref a)
 | dk {a:Addr} {kvs:List (Key × V)} {ps:List (D × D)}:H a=some (.dK kvs)→Rpk Y F ps kvs→TpW Y F H (.dic false ps) (.ref a)
 | dt {a:Addr} {ob:Obj} {xs:List (NestedKey × Addr × Value)} {ps:List (D × D)}:H a=some (kU a ob)→DtO Y a ob xs→Rpt Y F ps xs→TpW Y F H (.dic true ps) (.ref a)

section
variable {Y:Wd} {F F':Fr} {H H':Hp}
theorem SqL.mono {K:PySem.W.Frag} {a:Addr} {xs:List V} (e:Same H H') (h:SqL K H a xs):SqL K H' a xs:=e.seq h
mutual
theorem Rp.mono (e:F.le F'):∀ {d:D} {v:V},Rp Y F d v→Rp Y F' d v
 | _,_,.non=>.non
 | _,_,.bl b=>.bl b
 | _,_,.int i=>.int i
 | _,_,.str x=>.str x
 | _,_,.tup h r=>.tup (h.mono e.s) (Rps.mono e r)
 | _,_,.lst h r=>.lst (e.s _ _ h) (Rps.mono e r)
 | _,_,.arr h r=>.arr (e.s.seq h) (Rps.mono e r)
 | _,_,.dk h r=>.dk (e.s _ _ h) (Rpk.mono e r)
 | _,_,.dt h o r=>.dt (e.s _ _ h) o (Rpt.mono e r)
 | _,_,.loc h=>.loc (e.m _ _ h)
 | _,_,.exc h=>.exc h
 | _,_,.fd h r=>.fd (e.s _ _ h) (Rpk.mono e r)
 | _,_,.tb h=>.tb h
theorem Rps.mono (e:F.le F'):∀ {ds:List D} {vs:List V},Rps Y F ds vs→Rps Y F' ds vs
 | _,_,.nil=>.nil
 | _,_,.cons h r=>.cons (Rp.mono e h) (Rps.mono e r)
theorem Rpk.mono (e:F.le F'):∀ {ps:List (D × D)} {kvs:List (Key × V)},Rpk Y F ps kvs→Rpk Y F' ps kvs
 | _,_,.nil=>.nil
 | _,_,.cons h r t=>.cons h (Rp.mono e r) (Rpk.mono e t)
theorem Rpt.mono (e:F.le F'):∀ {ps:List (D × D)} {xs:List (NestedKey × Addr × Value)},Rpt Y F ps xs→Rpt Y F' ps xs
 | _,_,.nil=>.nil
 | _,_,.cons h z k r u t=>.cons h z (Rp.mono e k) (Rp.mono e r) u (Rpt.mono e t)
end

theorem TpW.mono (e:F.le F') (e2:Same H H') {d:D} {v:V}:TpW Y F H d v→TpW Y F' H' d v
 | .lst h r=>.lst (e2 _ _ h) (r.mono e)
 | .dk h r=>.dk (e2 _ _ h) (r.mono e)
 | .dt h o r=>.dt (e2 _ _ h) o (r.mono e)
theorem TpW.isRef {d:D} {v:V}:TpW Y F H d v→∃ a,v=.ref a∧(H a).isSome=true
 | .lst h _=>⟨_,rfl,by rw [h]; rfl⟩
 | .dk h _=>⟨_,rfl,by rw [h]; rfl⟩
 | .dt h _ _=>⟨_,rfl,by rw [h]; rfl⟩
theorem TpW.notStill {d:D} {v:V}:TpW Y F H d v→d.still=false
 | .lst _ _=>rfl
 | .dk _ _=>rfl
 | .dt _ _ _=>rfl
theorem Rps.length:∀ {ds:List D} {vs:List V},Rps Y F ds vs→ds.length=vs.length
 | _,_,.nil=>rfl
 | _,_,.cons _ r=>by rw [aw,aw,Rps.length r]
theorem Rps.get:∀ {ds:List D} {vs:List V} {i:Nat} {d:D},Rps Y F ds vs→ds[i]?=some d→∃ v,vs[i]?=some v∧Rp Y F d v
 | _,_,_,_,.nil,e=>by simp at e
 | _,_,0,_,.cons h _,e=>by
  obtain rfl:=ad e
  exact ⟨_,rfl,h⟩
 | _,_,i+1,d,.cons _ r,e=>Rps.get (i:=i) r e
theorem Rps.append:∀ {ds es:List D} {vs ws:List V},Rps Y F ds vs→Rps Y F es ws→Rps Y F (ds++es) (vs++ws)
 | _,_,_,_,.nil,s=>s
 | _,_,_,_,.cons h r,s=>.cons h (Rps.append r s)
theorem Rps.take:∀ {ds:List D} {vs:List V} (n:Nat),Rps Y F ds vs→Rps Y F (ds.take n) (vs.take n)
 | _,_,0,_=>.nil
 | _,_,_+1,.nil=>.nil
 | _,_,n+1,.cons h r=>.cons h (Rps.take n r)
theorem Rps.drop:∀ {ds:List D} {vs:List V} (n:Nat),Rps Y F ds vs→Rps Y F (ds.drop n) (vs.drop n)
 | _,_,0,r=>r
 | _,_,_+1,.nil=>.nil
 | _,_,n+1,.cons _ r=>Rps.drop n r
theorem Rps.cut {ds:List D} {vs:List V} (lo hi:Option Int) (r:Rps Y F ds vs):Rps Y F (gK ds lo hi) (cutV vs lo hi):=by
 unfold gK cutV
 rw [r.length]
 exact (r.drop _).take _
theorem Rps.set:∀ {ds:List D} {vs:List V} (i:Nat) {d:D} {v:V},Rp Y F d v→Rps Y F ds vs→Rps Y F (ds.set i d) (vs.set i v)
 | _,_,_,_,_,_,.nil=>.nil
 | _,_,0,_,_,h,.cons _ r=>.cons h r
 | _,_,i+1,_,_,h,.cons q r=>.cons q (Rps.set i h r)
theorem Rps.rep {ds:List D} {vs:List V} (r:Rps Y F ds vs):∀ n:Nat,Rps Y F (List.replicate n ds).flatten (List.replicate n vs).flatten
 | 0=>.nil
 | n+1=>by
  rw [bv,bv,List.flatten_cons,List.flatten_cons]
  exact r.append (r.rep n)
theorem Rps.erase:∀ {ds:List D} {vs:List V} (i:Nat),Rps Y F ds vs→Rps Y F (ds.eraseIdx i) (vs.eraseIdx i)
 | _,_,_,.nil=>.nil
 | _,_,0,.cons _ r=>r
 | _,_,i+1,.cons h r=>.cons h (Rps.erase i r)
theorem Rps.rev {ds:List D} {vs:List V} (r:Rps Y F ds vs):Rps Y F ds.reverse vs.reverse:=by
 induction ds generalizing vs with
 | nil=>cases r; exact .nil
 | cons d ds ih =>
  cases r with
  | cons h r =>
   rw [List.reverse_cons,List.reverse_cons]
   exact (ih r).append #v[h]
theorem Rps.ints:∀ {ns:List Int} {vs:List V},Rps Y F (ns.map D.int) vs→vs=ns.map V.int
 | [],_,r=>by cases r; rfl
 | n :: ns,_,r=>by
  rw [aI] at r
  cases r with
  | cons h t =>
   cases h
   rw [Rps.ints t,aI]
theorem Rps.ofInts:∀ (ns:List Int),Rps Y F (ns.map D.int) (ns.map V.int)
 | []=>.nil
 | n :: ns=>.cons (.int n) (Rps.ofInts ns)
theorem Rps.bls:∀ {ns:List Bool} {vs:List V},Rps Y F (ns.map D.bl) vs→vs=ns.map V.bl
 | [],_,r=>by cases r; rfl
 | n :: ns,_,r=>by
  rw [aI] at r
  cases r with
  | cons h t =>
   cases h
   rw [Rps.bls t,aI]
theorem Rps.strs:∀ {ns:List Str} {vs:List V},Rps Y F (ns.map D.str) vs→vs=ns.map V.str
 | [],_,r=>by cases r; rfl
 | n :: ns,_,r=>by
  rw [aI] at r
  cases r with
  | cons h t =>
   cases h
   rw [Rps.strs t,aI]
theorem di:∀ {ds:List D} {ns:List Int},cZ ds=some ns→ds=ns.map D.int
 | [],ns,h=>by
  obtain rfl:=ad h
  rfl
 | .int i :: r,ns,h=>by
  obtain ⟨ms,h1,rfl⟩:=aA.mp (show (cZ r).map (i :: ·)=some ns from h)
  rw [di h1,aI]
 | .non :: _,_,h=>by cases h
 | .bl _ :: _,_,h=>by cases h
 | .str _ :: _,_,h=>by cases h
 | .tup _ :: _,_,h=>by cases h
 | .lst _ :: _,_,h=>by cases h
 | .arr _ :: _,_,h=>by cases h
 | .dic _ _ :: _,_,h=>by cases h
 | .loc _ :: _,_,h=>by cases h
 | .exc _ :: _,_,h=>by cases h
 | .fdc _ :: _,_,h=>by cases h
 | .cd _ :: _,_,h=>by cases h
theorem je:∀ ns:List Int,cZ (ns.map D.int)=some ns
 | []=>rfl
 | n :: ns=>by
  show (cZ (ns.map D.int)).map (n :: ·)=_
  rw [je ns]
  rfl
theorem hU:∀ {ds:List D} {ns:List Bool},iu ds=some ns→ds=ns.map D.bl
 | [],ns,h=>by
  obtain rfl:=ad h
  rfl
 | .bl i :: r,ns,h=>by
  obtain ⟨ms,h1,rfl⟩:=aA.mp (show (iu r).map (i :: ·)=some ns from h)
  rw [hU h1,aI]
 | .non :: _,_,h=>by cases h
 | .int _ :: _,_,h=>by cases h
 | .str _ :: _,_,h=>by cases h
 | .tup _ :: _,_,h=>by cases h
 | .lst _ :: _,_,h=>by cases h
 | .arr _ :: _,_,h=>by cases h
 | .dic _ _ :: _,_,h=>by cases h
 | .loc _ :: _,_,h=>by cases h
 | .exc _ :: _,_,h=>by cases h
 | .fdc _ :: _,_,h=>by cases h
 | .cd _ :: _,_,h=>by cases h
theorem gD:∀ {ds:List D} {ns:List Str},gc ds=some ns→ds=ns.map D.str
 | [],ns,h=>by
  obtain rfl:=ad h
  rfl
 | .str i :: r,ns,h=>by
  obtain ⟨ms,h1,rfl⟩:=aA.mp (show (gc r).map (i :: ·)=some ns from h)
  rw [gD h1,aI]
 | .non :: _,_,h=>by cases h
 | .int _ :: _,_,h=>by cases h
 | .bl _ :: _,_,h=>by cases h
 | .tup _ :: _,_,h=>by cases h
 | .lst _ :: _,_,h=>by cases h
 | .arr _ :: _,_,h=>by cases h
 | .dic _ _ :: _,_,h=>by cases h
 | .loc _ :: _,_,h=>by cases h
 | .exc _ :: _,_,h=>by cases h
 | .fdc _ :: _,_,h=>by cases h
 | .cd _ :: _,_,h=>by cases h

theorem iM {a b:D} {q:Key} (h:D.keyOf a=some q) (h':D.keyOf b=some q):a=b:=by
 cases a <;> simp only [D.keyOf,bM,reduceCtorEq] at h <;> cases b <;> simp only [D.keyOf,bM,reduceCtorEq] at h' <;> rw [← h] at h' <;> first | (injection h' with e; rw [e]) | cases h'
mutual
theorem pB:∀ {a b:D} {q:NestedKey},D.nk a=some q→D.nk b=some q→a=b
 | .non,b,q,h,h'=>by
  cases (ad h)
  cases b <;> simp [D.nk] at h' ⊢
 | .int i,b,q,h,h'=>by
  cases (ad h)
  cases b <;> simp [D.nk] at h' ⊢
  exact h'.symm
 | .str i,b,q,h,h'=>by
  cases (ad h)
  cases b <;> simp [D.nk] at h' ⊢
  exact h'.symm
 | .tup xs,b,q,h,h'=>by
  obtain ⟨ks,h1,rfl⟩:=aA.mp (show (D.nks xs).map NestedKey.tup=some q from h)
  cases b with
  | tup ys =>
   obtain ⟨ks',h2,e⟩:=aA.mp (show (D.nks ys).map NestedKey.tup=some (NestedKey.tup ks) from h')
   injection e with e
   rw [e] at h2
   rw [qx h1 h2]
  | _=>simp [D.nk] at h'
 | .bl _,_,_,h,_=>by simp [D.nk] at h
 | .lst _,_,_,h,_=>by simp [D.nk] at h
 | .arr _,_,_,h,_=>by simp [D.nk] at h
 | .dic _ _,_,_,h,_=>by simp [D.nk] at h
 | .loc _,_,_,h,_=>by simp [D.nk] at h
 | .exc _,_,_,h,_=>by simp [D.nk] at h
 | .fdc _,_,_,h,_=>by simp [D.nk] at h
 | .cd _,_,_,h,_=>by simp [D.nk] at h
theorem qx:∀ {a b:List D} {q:List NestedKey},D.nks a=some q→D.nks b=some q→a=b
 | [],b,q,h,h'=>by
  cases (ad h)
  cases b with
  | nil=>rfl
  | cons y ys =>
   obtain ⟨k,_,h2⟩:=bc.mp (show (D.nk y).bind (fun k=>(D.nks ys).map (k :: ·))=some [] from h')
   obtain ⟨_,_,e⟩:=aA.mp h2
   cases e
 | x :: xs,b,q,h,h'=>by
  obtain ⟨k,h1,h2⟩:=bc.mp (show (D.nk x).bind (fun k=>(D.nks xs).map (k :: ·))=some q from h)
  obtain ⟨ks,h3,rfl⟩:=aA.mp h2
  cases b with
  | nil=>cases (ad h')
  | cons y ys =>
   obtain ⟨k',g1,g2⟩:=bc.mp (show (D.nk y).bind (fun k=>(D.nks ys).map (k :: ·))=some (k :: ks) from h')
   obtain ⟨ks',g3,e⟩:=aA.mp g2
   injection e with e1 e2
   rw [e1] at g1
   rw [e2] at g3
   rw [pB h1 g1,qx h3 g3]
end


theorem nL {k:D}:D.look [] k=none:=rfl
theorem jS {p:D × D} {r:List (D × D)} {k:D}:D.look (p :: r) k=if p.1=k then some p.2 else D.look r k:=by
 unfold D.look
 rw [bV]
 by_cases e:p.1=k
 ·simp [e]
 ·simp [e]
theorem Rpk.look {k:D} {q:Key} (hk:D.keyOf k=some q):∀ {ps:List (D × D)} {kvs:List (Key × V)},Rpk Y F ps kvs →
  (D.look ps k=none∧valV kvs q=none)∨∃ d v,D.look ps k=some d∧valV kvs q=some v∧Rp Y F d v
 | _,_,.nil=>.inl ⟨rfl,rfl⟩
 | _,_,.cons (k:=k') (d:=d) (ps:=ps) (q:=q') (v:=v) (kvs:=kvs) h r t=>by
  rw [jS]
  by_cases e:k'=k
  ·subst e
   obtain rfl:q'=q:=ad (h.symm.trans hk)
   exact .inr ⟨d,v,aj rfl,valV_pos rfl,r⟩
  ·have e2:¬ q'=q:=fun z=>e (iM h (by rw [z]; exact hk))
   rw [aq e,valV_neg e2]
   exact Rpk.look hk t
theorem Rpk.drop {k:D} {q:Key} (hk:D.keyOf k=some q):∀ {ps:List (D × D)} {kvs:List (Key × V)},Rpk Y F ps kvs→Rpk Y F (D.drop ps k) (dropK kvs q)
 | _,_,.nil=>.nil
 | _,_,.cons (k:=k') (d:=d) (ps:=ps) (q:=q') (v:=v) (kvs:=kvs) h r t=>by
  have ih:=Rpk.drop hk t
  by_cases e:k'=k
  ·subst e
   obtain rfl:q'=q:=ad (h.symm.trans hk)
   have e1:D.drop ((k',d) :: ps) k'=D.drop ps k':=by simp [D.drop]
   have e2:dropK ((q',v) :: kvs) q'=dropK kvs q':=by simp [dropK]
   rw [e1,e2]
   exact ih
  ·have e2:¬ q'=q:=fun z=>e (iM h (by rw [z]; exact hk))
   have e3:D.drop ((k',d) :: ps) k=(k',d) :: D.drop ps k:=by simp [D.drop,e]
   have e4:dropK ((q',v) :: kvs) q=(q',v) :: dropK kvs q:=by simp [dropK,e2]
   rw [e3,e4]
   exact .cons h r ih
theorem Rpt.look {k:D} {q:NestedKey} (hk:D.nk k=some q):∀ {ps:List (D × D)} {xs:List (NestedKey × Addr × Value)},Rpt Y F ps xs →
  (D.look ps k=none∧atKey xs q=none)∨∃ d v b u,D.look ps k=some d∧atKey xs q=some (b,u)∧RelV v u∧Rp Y F d v
 | _,_,.nil=>.inl ⟨rfl,rfl⟩
 | _,_,.cons (k:=k') (d:=d) (ps:=ps) (q:=q') (b:=b) (v:=v) (u:=u) (xs:=xs) h z kr r ru t=>by
  rw [jS]
  by_cases e:k'=k
  ·subst e
   obtain rfl:q'=q:=ad (h.symm.trans hk)
   exact .inr ⟨d,v,b,u,aj rfl,by simp [atKey],ru,r⟩
  ·have e2:¬ q'=q:=fun z=>e (pB h (by rw [z]; exact hk))
   rw [aq e]
   have e3:atKey ((q',b,u) :: xs) q=atKey xs q:=by simp [atKey,bV,e2]
   rw [e3]
   exact Rpt.look hk t
theorem Rpk.put {k d:D} {q:Key} {v:V} (hk:D.keyOf k=some q) (hv:Rp Y F d v) {ps:List (D × D)} {kvs:List (Key × V)} (r:Rpk Y F ps kvs):Rpk Y F (D.put ps k d) (putK kvs q v):=by
 have hm:∀ {ps:List (D × D)} {kvs:List (Key × V)},Rpk Y F ps kvs→Rpk Y F (ps.map fun kv=>if kv.1=k then (kv.1,d) else kv) (kvs.map fun kv=>if kv.1=q then (kv.1,v) else kv):=by
  intro ps kvs r
  induction ps generalizing kvs with
  | nil=>cases r; exact .nil
  | cons p ps ih =>
   cases r with
   | cons h rr t =>
    rename_i k' d' q' v' kvs
    rw [aI,aI]
    by_cases e:k'=k
    ·subst e
     obtain rfl:q'=q:=ad (h.symm.trans hk)
     rw [aj rfl,aj rfl]
     exact .cons h hv (ih t)
    ·have e2:¬ q'=q:=fun z=>e (iM h (by rw [z]; exact hk))
     rw [aq e,aq e2]
     exact .cons h rr (ih t)
 have ha:∀ {ps:List (D × D)} {kvs:List (Key × V)},Rpk Y F ps kvs→Rpk Y F (ps++[(k,d)]) (kvs++[(q,v)]):=by
  intro ps kvs r
  induction ps generalizing kvs with
  | nil=>cases r; exact .cons hk hv .nil
  | cons p ps ih =>
   cases r with
   | cons h rr t=>exact .cons h rr (ih t)
 unfold D.put putK
 rw [valV_any]
 rcases r.look hk with ⟨e1,e2⟩ | ⟨d',v',e1,e2,_⟩
 ·rw [e1,e2]
  exact ha r
 ·rw [e1,e2]
  exact hm r
theorem Rpk.length:∀ {ps:List (D × D)} {kvs:List (Key × V)},Rpk Y F ps kvs→ps.length=kvs.length
 | _,_,.nil=>rfl
 | _,_,.cons _ _ t=>by rw [aw,aw,Rpk.length t]
theorem Rpt.length:∀ {ps:List (D × D)} {kvs:List (NestedKey × Addr × Value)},Rpt Y F ps kvs→ps.length=kvs.length
 | _,_,.nil=>rfl
 | _,_,.cons _ _ _ _ _ t=>by rw [aw,aw,Rpt.length t]
theorem Rpt.put {k d:D} {q:NestedKey} {b:Addr} {v:V} {u:Value} (hk:D.nk k=some q) (hz:q.depth≤8) (hb:Rp Y F k (.ref b)) (hv:Rp Y F d v) (hu:RelV v u) {ps:List (D × D)} {xs:List (NestedKey × Addr × Value)} (r:Rpt Y F ps xs) :
  Rpt Y F (D.put ps k d) (storedH xs q b u):=by
 have hm:∀ {ps:List (D × D)} {xs:List (NestedKey × Addr × Value)},Rpt Y F ps xs→Rpt Y F (ps.map fun kv=>if kv.1=k then (kv.1,d) else kv) (xs.map (putAt q u)):=by
  intro ps xs r
  induction ps generalizing xs with
  | nil=>cases r; exact .nil
  | cons p ps ih =>
   cases r with
   | cons h z kr rr ru t =>
    rename_i k' d' q' b' v' u' xs
    rw [aI,aI]
    by_cases e:k'=k
    ·subst e
     obtain rfl:q'=q:=ad (h.symm.trans hk)
     rw [aj rfl,show putAt q' u (q',b',u')=(q',b',u) by simp [putAt]]
     exact .cons h z kr hv hu (ih t)
    ·have e2:¬ q'=q:=fun z=>e (pB h (by rw [z]; exact hk))
     rw [aq e,show putAt q u (q',b',u')=(q',b',u') by simp [putAt,e2]]
     exact .cons h z kr rr ru (ih t)
 have ha:∀ {ps:List (D × D)} {xs:List (NestedKey × Addr × Value)},Rpt Y F ps xs→Rpt Y F (ps++[(k,d)]) (xs++[(q,b,u)]):=by
  intro ps xs r
  induction ps generalizing xs with
  | nil=>cases r; exact .cons hk hz hb hv hu .nil
  | cons p ps ih =>
   cases r with
   | cons h z kr rr ru t=>exact .cons h z kr rr ru (ih t)
 unfold D.put storedH
 rcases r.look hk with ⟨e1,e2⟩ | ⟨d',v',b',u',e1,e2,_⟩
 ·rw [e1,e2]
  exact ha r
 ·rw [e1,e2]
  exact hm r
end


structure Gh where
 F:Fr
 B:Hp
 M:Addr→Option Nat
structure Ext (g g':Gh):Prop where
 b:g'.B=g.B
 f:g.F.le g'.F
 new:∀ a o,g'.F.h a=some o→g.F.h a=none→g.B a=none
 m:g'.M=g.M
theorem Ext.refl (g:Gh):Ext g g:=⟨rfl,Fr.le.refl _,(fun a o e n=>by rw [n] at e; cases e),rfl⟩
theorem Ext.trans {a b c:Gh} (x:Ext a b) (y:Ext b c):Ext a c:=⟨y.b.trans x.b,x.f.trans y.f,(fun p o e n=>by
 cases q:b.F.h p with
 | none=>rw [← x.b]; exact y.new p o e q
 | some o'=>exact x.new p o' q n),y.m.trans x.m⟩

def FldR (Y:Wd) (F:Fr) (fs:List (Str × D)) (fv:List (Str × V)):Prop :=
 ∀ f,match fs.lookup f with
  | some d=>∃ v,fv.lookup f=some v∧Rp Y F d v
  | none=>fv.lookup f=none

structure CAt (F:Fr) (B:Hp) (n:Nat) (a:Addr):Prop where
 m:F.m a=some n
 u:∀ b,F.m b=some n→b=a
 f:F.h a=none
 b:B a=none

inductive CellR (Y:Wd) (F:Fr) (B H:Hp) (n:Nat):Cell→Prop
 | obj {d:D} {a:Addr}:CAt F B n a→TpW Y F H d (.ref a)→CellR Y F B H n (.obj d)
 | ins {c:Str} {fs:List (Str × D)} {a dx:Addr} {fv:List (Str × V)}:CAt F B n a→H a=some (.ins (He.ga Y.K c) dx fv)→fv.map (·.1)=fs.map (·.1)→FldR Y F fs fv→CellR Y F B H n (.ins c fs)
 | fz:CellR Y F B H n .fz

structure StR (Y:Wd) (g:Gh) (H:Hp) (s:cj):Prop where
 at_:∀ n c,s[n]?=some c→CellR Y g.F g.B H n c
 lv:∀ a n,g.F.m a=some n→(H a).isSome=true
 lt:s≠[]→∀ a n,g.F.m a=some n→n < s.length∧g.B a=none
 no:s=[]→g.F.m=g.M
 mb:∀ a n,g.M a=some n→g.F.m a=some n
theorem TpW.at {Y:Wd} {F F':Fr} {H H':Hp} {a:Addr} {d:D} (e:F.le F') (e2:∀ u,H a=some u→H' a=some u) (h:TpW Y F H d (.ref a)):TpW Y F' H' d (.ref a):=by
 cases h with
 | lst h r=>exact .lst (e2 _ h) (r.mono e)
 | dk h r=>exact .dk (e2 _ h) (r.mono e)
 | dt h o r=>exact .dt (e2 _ h) o (r.mono e)
theorem FldR.mono {Y:Wd} {F F':Fr} (e:F.le F') {fs:List (Str × D)} {fv:List (Str × V)} (h:FldR Y F fs fv):FldR Y F' fs fv:=fun f=>by
 have q:=h f
 cases el:fs.lookup f with
 | none=>rw [el] at q; exact q
 | some d =>
  rw [el] at q
  obtain ⟨v,h1,h2⟩:=q
  exact ⟨v,h1,h2.mono e⟩
theorem CellR.mono {Y:Wd} {F F':Fr} {B B' H H':Hp} {n:Nat} {c:Cell} (e:F.le F') (ca:∀ a,CAt F B n a→CAt F' B' n a) (hh:∀ a u,F.m a=some n→H a=some u→H' a=some u) (h:CellR Y F B H n c):CellR Y F' B' H' n c:=by
 cases h with
 | obj k t=>exact .obj (ca _ k) (t.at e fun u q=>hh _ u k.m q)
 | ins k t l f=>exact .ins (ca _ k) (hh _ _ k.m t) l (f.mono e)
 | fz=>exact .fz

theorem StR.heap {Y:Wd} {g:Gh} {H H':Hp} {s:cj} (S:StR Y g H s) (hh:∀ a n u,g.F.m a=some n→H a=some u→H' a=some u):StR Y g H' s where
 at_:=fun n c q=>(S.at_ n c q).mono (Fr.le.refl _) (fun _ k=>k) fun a u=>hh a n u
 lv:=fun a n q=>by
  obtain ⟨u,hu⟩:=aZ.mp (S.lv a n q)
  rw [hh a n u q hu]
  rfl
 lt:=S.lt
 no:=S.no
 mb:=S.mb

theorem StR.bnd {Y:Wd} {g g':Gh} {H:Hp} {s:cj} (S:StR Y g H s) (eF:g'.F=g.F) (eM:g'.M=g.M) (hb:∀ a n,g.F.m a=some n→g.B a=none→g'.B a=none):StR Y g' H s where
 at_:=fun n c q=>(S.at_ n c q).mono (by rw [eF]; exact Fr.le.refl _) (fun a k=>by rw [eF]; exact ⟨k.m,k.u,k.f,hb a n k.m k.b⟩) fun a u _ h=>h
 lv:=fun a n q=>S.lv a n (by rw [← eF]; exact q)
 lt:=fun h a n q=>by
  rw [eF] at q
  exact ⟨(S.lt h a n q).1,hb a n q (S.lt h a n q).2⟩
 no:=fun h=>by rw [eF,eM]; exact S.no h
 mb:=fun a n q=>by rw [eF]; exact S.mb a n (by rw [← eM]; exact q)

theorem StR.fro {Y:Wd} {g:Gh} {H:Hp} {s:cj} (S:StR Y g H s) {F':Fr} (e:g.F.le F') (em:F'.m=g.F.m) (hn:∀ a n,g.F.m a=some n→g.F.h a=none→F'.h a=none):StR Y ⟨F',g.B,g.M⟩ H s where
 at_:=fun n c q=>(S.at_ n c q).mono e (fun a k=>⟨e.m _ _ k.m,fun b hb=>k.u b (by rw [← em]; exact hb),hn a n k.m k.f,k.b⟩) fun a u _ h=>h
 lv:=fun a n q=>S.lv a n (by rw [← em]; exact q)
 lt:=fun h a n q=>S.lt h a n (by rw [← em]; exact q)
 no:=fun h=>em.trans (S.no h)
 mb:=fun a n q=>e.m a n (S.mb a n q)

def SlR (Y:Wd) (g:Gh) (H:Hp) (s:Sl) (v:V):Prop :=
 match s.k with
 | .fr=>Rp Y g.F s.d v
 | .bo=>Rp Y g.F s.d v∨TpW Y g.F g.B s.d v
 | .ow=>TpW Y g.F H s.d v∧∀ a,v=.ref a→g.F.h a=none∧g.B a=none∧∀ n,g.F.m a≠some n
 | .nw=>False
structure SR (Y:Wd) (g:Gh) (σ:L2.St) (H:Hp) (l:Lc) (s:cj):Prop where
 sB:Same g.B H
 sF:Same g.F.h H
 len:σ.length=l.length
 sl:∀ (i:Nat) (z:Sl),l[i]?=some (some z)→∃ v,σ[i]?=some (some v)∧SlR Y g H z v
 ow:∀ (i j:Nat) (z y:Sl) (a:Addr),l[i]?=some (some z)→l[j]?=some (some y)→z.k=.ow→y.k=.ow→σ[i]?=some (some (.ref a))→σ[j]?=some (some (.ref a))→i=j
 st:StR Y g H s

def VS (Y:Wd) (g:Gh) (σ:L2.St) (l:Lc) (d:D) (v:V):Prop :=
 Rp Y g.F d v∨TpW Y g.F g.B d v∨∃ i:Nat,σ[i]?=some (some v)∧l[i]?=some (some ⟨.ow,d⟩)

def RdV (Y:Wd) (F:Fr) (H:Hp) (d:D) (v:V):Prop:=Rp Y F d v∨TpW Y F H d v

def VN (Y:Wd) (g:Gh) (σ:L2.St) (H:Hp) (l:Lc) (d:D) (v:V):Prop :=
 ∃ a,v=.ref a∧(g.F.h a=none∧∀ n,g.F.m a≠some n)∧g.B a=none∧TpW Y g.F H d v∧∀ (i:Nat) (d':D),σ[i]?=some (some (.ref a))→l[i]?≠some (some ⟨.ow,d'⟩)
def VR (Y:Wd) (g:Gh) (σ:L2.St) (H:Hp) (l:Lc) (d:D) (t:Tag) (v:V):Prop :=
 match t with
 | .fr=>Rp Y g.F d v
 | .bo=>Rp Y g.F d v∨TpW Y g.F g.B d v
 | .ow=>∃ i:Nat,σ[i]?=some (some v)∧l[i]?=some (some ⟨.ow,d⟩)
 | .nw=>VN Y g σ H l d v
section
variable {Y:Wd} {g g':Gh} {σ:L2.St} {H H':Hp} {l:Lc} {s s':cj} {d:D} {v:V} {t:Tag} {p:Addr} {o:HO}
theorem VS.ext (e:Ext g g') (h:VS Y g σ l d v):VS Y g' σ l d v:=by
 rcases h with h | h | h
 ·exact .inl (h.mono e.f)
 ·exact .inr (.inl (by rw [e.b]; exact h.mono e.f (Same.refl _)))
 ·exact .inr (.inr h)
theorem SR.own (S:SR Y g σ H l s) {i:Nat} (h1:σ[i]?=some (some v)) (h2:l[i]?=some (some ⟨.ow,d⟩)):TpW Y g.F H d v∧∀ a,v=.ref a→g.F.h a=none∧g.B a=none∧∀ n,g.F.m a≠some n:=by
 obtain ⟨v',e,r⟩:=S.sl i _ h2
 rw [h1] at e
 obtain rfl:v=v':=by simpa using e
 exact r
theorem VS.rd (S:SR Y g σ H l s) (h:VS Y g σ l d v):RdV Y g.F H d v:=by
 rcases h with h | h | ⟨i,h1,h2⟩
 ·exact .inl h
 ·exact .inr (h.mono (Fr.le.refl _) S.sB)
 ·exact .inr (S.own h1 h2).1
theorem VS.still (S:SR Y g σ H l s) (h:VS Y g σ l d v) (q:d.still=true):Rp Y g.F d v:=by
 rcases h with h | h | ⟨i,h1,h2⟩
 ·exact h
 ·rw [h.notStill] at q; cases q
 ·rw [(S.own h1 h2).1.notStill] at q; cases q

theorem SR.add (S:SR Y g σ H l s) (hp:H p=some o) (hF:g.F.h p=none) (hm:∀ n,g.F.m p≠some n) (hB:g.B p=none) (ho:∀ (i:Nat) (d':D),σ[i]?=some (some (.ref p))→l[i]?≠some (some ⟨.ow,d'⟩)) :
  SR Y ⟨g.F.upd p o,g.B,g.M⟩ σ H l s∧Ext g ⟨g.F.upd p o,g.B,g.M⟩:=by
 have sm:Same g.F.h (upd g.F.h p o):=fun b u e=>by
  rw [upd_ne (ne_of_none e hF)]
  exact e
 have sl:g.F.le (g.F.upd p o):=⟨sm,fun _ _ h=>h⟩
 refine ⟨⟨S.sB,fun b u e=>?_,S.len,fun i z hz=>?_,S.ow,S.st.fro sl rfl fun a n h1 h2=>?_⟩,⟨rfl,sl,fun a u e n=>?_,rfl⟩⟩
 ·by_cases hb:b=p
  ·subst hb
   have e:upd g.F.h b o b=some u:=e
   rw [upd_same] at e
   rw [hp]
   exact e
  ·have e:upd g.F.h p o b=some u:=e
   rw [upd_ne hb] at e
   exact S.sF b u e
 ·obtain ⟨v,h1,h2⟩:=S.sl i z hz
  refine ⟨v,h1,?_⟩
  obtain ⟨k,d⟩:=z
  cases k with
  | fr=>exact Rp.mono sl h2
  | bo=>exact h2.imp (fun q=>q.mono sl) fun q=>q.mono sl (Same.refl _)
  | ow =>
   refine ⟨h2.1.mono sl (Same.refl _),fun a ea=>⟨?_,(h2.2 a ea).2⟩⟩
   by_cases hb:a=p
   ·subst hb ea
    exact absurd hz (ho i d h1)
   ·show upd g.F.h p o a=none
    rw [upd_ne hb]
    exact (h2.2 a ea).1
  | nw=>exact h2
 ·show upd g.F.h p o a=none
  rw [upd_ne (fun e=>hm n (by rw [← e]; exact h1))]
  exact h2
 ·by_cases hb:a=p
  ·subst hb; exact hB
  ·have e:upd g.F.h p o a=some u:=e
   rw [upd_ne hb,n] at e
   cases e

theorem SR.lay (S:SR Y g σ H l s) (hp:H p=none):SR Y g σ (upd H p o) l s:=by
 have sm:Same H (upd H p o):=fun b u e=>by
  rw [upd_ne (ne_of_none e hp)]
  exact e
 refine ⟨S.sB.trans sm,S.sF.trans sm,S.len,fun i z hz=>?_,S.ow,S.st.heap fun a n u _ h=>sm a u h⟩
 obtain ⟨v,h1,h2⟩:=S.sl i z hz
 refine ⟨v,h1,?_⟩
 obtain ⟨k,d⟩:=z
 cases k with
 | fr=>exact h2
 | bo=>exact h2
 | ow=>exact ⟨h2.1.mono (Fr.le.refl _) sm,h2.2⟩
 | nw=>exact h2
theorem SR.noown (S:SR Y g σ H l s) (hp:H p=none):∀ (i:Nat) (d':D),σ[i]?=some (some (.ref p))→l[i]?≠some (some ⟨.ow,d'⟩):=fun i d' h1 h2=>by
 obtain ⟨a,e,q⟩:=(S.own h1 h2).1.isRef
 cases e
 rw [hp] at q
 cases q
theorem SR.freeB (S:SR Y g σ H l s) (hp:H p=none):g.B p=none:=S.sB.free hp
theorem SR.freeF (S:SR Y g σ H l s) (hp:H p=none):g.F.h p=none:=S.sF.free hp
theorem SR.freeM (S:SR Y g σ H l s) (hp:H p=none):∀ n,g.F.m p≠some n:=fun n q=>by
 have:=S.st.lv p n q
 rw [hp] at this
 cases this

theorem SR.new (S:SR Y g σ H l s) (hp:H p=none):SR Y ⟨g.F.upd p o,g.B,g.M⟩ σ (upd H p o) l s∧Ext g ⟨g.F.upd p o,g.B,g.M⟩ :=
 (S.lay (o:=o) hp).add upd_same (S.freeF hp) (S.freeM hp) (S.freeB hp) (S.noown hp)
theorem SR.newN (S:SR Y g σ H l s) (hp:H p=none) (h:TpW Y g.F (upd H p o) d (.ref p)):VN Y g σ (upd H p o) l d (.ref p) :=
 ⟨p,rfl,⟨S.freeF hp,S.freeM hp⟩,S.freeB hp,h,S.noown hp⟩

theorem VN.keep (S:SR Y g σ H l s) (h:VN Y g σ H l d v):∃ g',Ext g g'∧SR Y g' σ H l s∧Rp Y g'.F d v:=by
 obtain ⟨a,e,hF,hB,tp,no⟩:=h
 subst e
 have key:∀ u,H a=some u→∃ g',Ext g g'∧SR Y g' σ H l s∧g'.F.h a=some u:=fun u hu=>by
  obtain ⟨S',E'⟩:=S.add hu hF.1 hF.2 hB no
  exact ⟨_,E',S',upd_same⟩
 cases tp with
 | lst h r =>
  obtain ⟨g',E',S',hf⟩:=key _ h
  exact ⟨g',E',S',.lst hf (r.mono E'.f)⟩
 | dk h r =>
  obtain ⟨g',E',S',hf⟩:=key _ h
  exact ⟨g',E',S',.dk hf (r.mono E'.f)⟩
 | dt h w r =>
  obtain ⟨g',E',S',hf⟩:=key _ h
  exact ⟨g',E',S',.dt hf w (r.mono E'.f)⟩
theorem VR.stay (S:SR Y g σ H l s) (h:VR Y g σ H l d t v):∃ g',Ext g g'∧SR Y g' σ H l s∧VS Y g' σ l d v:=by
 cases t with
 | fr=>exact ⟨g,.refl g,S,.inl h⟩
 | bo=>exact ⟨g,.refl g,S,h.elim .inl fun q=>.inr (.inl q)⟩
 | ow=>exact ⟨g,.refl g,S,.inr (.inr h)⟩
 | nw =>
  obtain ⟨g',E,S',r⟩:=VN.keep S h
  exact ⟨g',E,S',.inl r⟩
theorem VR.keep (S:SR Y g σ H l s) (h:VR Y g σ H l d t v) (hn:¬ ((t=.bo∨t=.ow)∧d.still=false)):∃ g',Ext g g'∧SR Y g' σ H l s∧Rp Y g'.F d v:=by
 by_cases hd:d.still=true
 ·obtain ⟨g',E,S',q⟩:=VR.stay S h
  exact ⟨g',E,S',q.still S' hd⟩
 ·have hd':d.still=false:=by simpa using hd
  cases t with
  | fr=>exact ⟨g,.refl g,S,h⟩
  | bo=>exact absurd ⟨.inl rfl,hd'⟩ hn
  | ow=>exact absurd ⟨.inr rfl,hd'⟩ hn
  | nw=>exact VN.keep S h
theorem VS.vr (h:VS Y g σ l d v):∃ t,VR Y g σ H l d t v∧t≠.nw:=by
 rcases h with h | h | h
 ·exact ⟨.fr,h,by simp⟩
 ·exact ⟨.bo,.inr h,by simp⟩
 ·exact ⟨.ow,h,by simp⟩

theorem RdV.int {i:Int} (h:RdV Y g.F H (.int i) v):v=.int i:=by
 rcases h with h | h
 ·cases h; rfl
 ·cases h
theorem RdV.bl {i:Bool} (h:RdV Y g.F H (.bl i) v):v=.bl i:=by
 rcases h with h | h
 ·cases h; rfl
 ·cases h
theorem RdV.str {i:Str} (h:RdV Y g.F H (.str i) v):v=.str i:=by
 rcases h with h | h
 ·cases h; rfl
 ·cases h
theorem RdV.non (h:RdV Y g.F H .non v):v=.non:=by
 rcases h with h | h
 ·cases h; rfl
 ·cases h
theorem RdV.tup {ds:List D} (S:SR Y g σ H l s) (h:RdV Y g.F H (.tup ds) v):∃ a vs,v=.ref a∧TuF g.F.h a vs∧TuF H a vs∧Rps Y g.F ds vs:=by
 rcases h with h | h
 ·cases h with
  | tup h r=>exact ⟨_,_,rfl,h,h.mono S.sF,r⟩
 ·cases h
theorem RdV.lst {ds:List D} (S:SR Y g σ H l s) (h:RdV Y g.F H (.lst ds) v):∃ a vs,v=.ref a∧H a=some (.lst vs)∧Rps Y g.F ds vs:=by
 rcases h with h | h
 ·cases h with
  | lst h r=>exact ⟨_,_,rfl,S.sF _ _ h,r⟩
 ·cases h with
  | lst h r=>exact ⟨_,_,rfl,h,r⟩
theorem RdV.arr {ds:List D} (S:SR Y g σ H l s) (h:RdV Y g.F H (.arr ds) v):∃ a vs,v=.ref a∧SqL Y.K H a vs∧Rps Y g.F ds vs:=by
 rcases h with h | h
 ·cases h with
  | arr h r=>exact ⟨_,_,rfl,S.sF.seq h,r⟩
 ·cases h
theorem RdV.dk {ps:List (D × D)} (S:SR Y g σ H l s) (h:RdV Y g.F H (.dic false ps) v):∃ a kvs,v=.ref a∧H a=some (.dK kvs)∧Rpk Y g.F ps kvs:=by
 rcases h with h | h
 ·cases h with
  | dk h r=>exact ⟨_,_,rfl,S.sF _ _ h,r⟩
 ·cases h with
  | dk h r=>exact ⟨_,_,rfl,h,r⟩
theorem RdV.dt {ps:List (D × D)} (S:SR Y g σ H l s) (h:RdV Y g.F H (.dic true ps) v):∃ a ob xs,v=.ref a∧H a=some (kU a ob)∧DtO Y a ob xs∧Rpt Y g.F ps xs:=by
 rcases h with h | h
 ·cases h with
  | dt h w r=>exact ⟨_,_,_,rfl,S.sF _ _ h,w,r⟩
 ·cases h with
  | dt h w r=>exact ⟨_,_,_,rfl,h,w,r⟩
theorem RdV.fd {ps:List (D × D)} (S:SR Y g σ H l s) (h:RdV Y g.F H (.fdc ps) v):∃ a o kvs,v=.ref a∧H a=some (.frz o (.dK kvs))∧Rpk Y g.F ps kvs:=by
 rcases h with h | h
 ·cases h with
  | fd h r=>exact ⟨_,_,_,rfl,S.sF _ _ h,r⟩
 ·cases h
theorem RdV.loc {n:Nat} (h:RdV Y g.F H (.loc n) v):∃ a,v=.ref a∧g.F.m a=some n:=by
 rcases h with h | h
 ·cases h with
  | loc h=>exact ⟨_,rfl,h⟩
 ·cases h
end



structure Gm where
 Y:Wd
 mg:Str→Option Value
 fs:List Fn
 gs:List D

def yi (mg:Str→Option Value) (e:Ex) (c:Value) (dd:Option Addr):Prop:=mg e.cls=some c∧e.at_=none∧dd=none
def ValE (G:Gm) (W:WX) (g:Gh) (σ:L2.St) (l:Lc) (r:R VT) (Q:VK):Prop :=
 match r with
 | .ok (d,t,s')=>∀ g' v H',Ext g g'→SR G.Y g' σ H' l s'→VR G.Y g' σ H' l d t v→Q v H'
 | .er e s' l'=>∀ g' H' c dd,Ext g g'→SR G.Y g' σ H' l' s'→yi G.mg e c dd→W c dd σ H'
 | .no=>False

def ValR {α:Type} (G:Gm) (W:WX) (g:Gh) (σ:L2.St) (r:R α) (K:α→Gh→Prop):Prop :=
 match r with
 | .ok a=>∀ g',Ext g g'→K a g'
 | .er e s' l'=>∀ g' H' c dd,Ext g g'→SR G.Y g' σ H' l' s'→yi G.mg e c dd→W c dd σ H'
 | .no=>False
def rd (G:Gm) (W:WX) (x:X):TE:=fun σ H Q=>∃ g l s,SR G.Y g σ H l s∧ValE G W g σ l (b9 G.fs G.gs x l s) Q
section
variable {G:Gm} {W:WX} {g g':Gh} {σ:L2.St} {H H':Hp} {l:Lc} {s s':cj} {x:X} {Q:VK}
theorem ValE.ext (e:Ext g g') {r:R VT} (h:ValE G W g σ l r Q):ValE G W g' σ l r Q:=by
 cases r with
 | ok a=>exact fun g2 v H' e2=>h g2 v H' (e.trans e2)
 | er a b c=>exact fun g2 H' c dd e2=>h g2 H' c dd (e.trans e2)
 | no=>exact h
theorem PE.imp {C:Cx} {e:Expr} {t t':TE} (h:PE C e t) (f:∀ σ H Q,t' σ H Q→t σ H Q):PE C e t':=⟨fun pins s σ H Q I w=>h.run pins s σ H Q I (f σ H Q w)⟩
theorem PT.imp {C:Cx} {e:Expr} {t t':TT} (h:PT C e t) (f:∀ σ H Q,t' σ H Q→t σ H Q):PT C e t':=⟨fun pins s σ H Q I w=>h.run pins s σ H Q I (f σ H Q w)⟩
theorem PA.imp {C:Cx} {e:List Expr} {t t':TA} (h:PA C e t) (f:∀ σ H Q,t' σ H Q→t σ H Q):PA C e t':=⟨fun pos pins s σ H Q I w=>h.run pos pins s σ H Q I (f σ H Q w)⟩
theorem PS.imp {C:Cx} {e:Stmt} {t t':TS} (h:PS C e t) (f:∀ D σ H,t' D σ H→t D σ H):PS C e t':=⟨fun pins s σ H D I w=>h.run pins s σ H D I (f D σ H w)⟩
theorem PSs.imp {C:Cx} {e:List Stmt} {t t':TS} (h:PSs C e t) (f:∀ D σ H,t' D σ H→t D σ H):PSs C e t':=⟨fun pins s σ H D I w=>h.run pins s σ H D I (f D σ H w)⟩

theorem kI {k:VT→R VT} (S:SR G.Y g σ H l s) (h:ValE G W g σ l ((b9 G.fs G.gs x l s).bind k) Q) {Q2:VK}
  (hk:∀ d t s1 g1 v H1,Ext g g1→SR G.Y g1 σ H1 l s1→VR G.Y g1 σ H1 l d t v→ValE G W g1 σ l (k (d,t,s1)) Q→Q2 v H1):rd G W x σ H Q2:=by
 refine ⟨g,l,s,S,?_⟩
 cases e:b9 G.fs G.gs x l s with
 | ok a =>
  obtain ⟨d,t,s1⟩:=a
  rw [e] at h
  exact fun g1 v H1 e1 S1 v1=>hk d t s1 g1 v H1 e1 S1 v1 (ValE.ext e1 h)
 | er a b c =>
  rw [e] at h
  exact h
 | no =>
  rw [e] at h
  exact h

theorem cB {k:VT→R VT} (S:SR G.Y g σ H l s) (h:ValE G W g σ l ((b9 G.fs G.gs x l s).bind k) Q) {Q2:VK}
  (hk:∀ d t s1 g1 v H1,Ext g g1→SR G.Y g1 σ H1 l s1→VS G.Y g1 σ l d v→ValE G W g1 σ l (k (d,t,s1)) Q→Q2 v H1):rd G W x σ H Q2 :=
 kI S h fun d t s1 g1 v H1 e1 S1 v1 h1=>by
  obtain ⟨g2,e2,S2,q⟩:=VR.stay S1 v1
  exact hk d t s1 g2 v H1 (e1.trans e2) S2 q (ValE.ext e2 h1)

theorem iN {k:D→cj→R VT} (S:SR G.Y g σ H l s) (h:ValE G W g σ l (cg (b9 G.fs G.gs x l s) k) Q) {Q2:VK}
  (hk:∀ d s1 g1 v H1,Ext g g1→SR G.Y g1 σ H1 l s1→Rp G.Y g1.F d v→ValE G W g1 σ l (k d s1) Q→Q2 v H1):rd G W x σ H Q2 :=
 kI S h fun d t s1 g1 v H1 e1 S1 v1 h1=>by
  have h1:ValE G W g1 σ l (if (t=.bo∨t=.ow)∧d.still=false then R.no else k d s1) Q:=h1
  by_cases c:(t=.bo∨t=.ow)∧d.still=false
  ·rw [aj c] at h1
   exact h1.elim
  ·rw [aq c] at h1
   obtain ⟨g2,e2,S2,q⟩:=VR.keep S1 v1 c
   exact hk d s1 g2 v H1 (e1.trans e2) S2 q (ValE.ext e2 h1)
theorem ValE.frz {d:D} {v:V} (h:ValE G W g σ l (cr d s) Q) (S:SR G.Y g σ H l s) (r:Rp G.Y g.F d v):Q v H:=h g v H (.refl g) S r
theorem ValE.frz' {d:D} {v:V} (h:ValE G W g σ l (cr d s) Q) (e:Ext g g') (S:SR G.Y g' σ H l s) (r:Rp G.Y g'.F d v):Q v H:=h g' v H e S r
theorem ValE.nwo {d:D} {v:V} (h:ValE G W g σ l (dW d s) Q) (S:SR G.Y g σ H l s) (r:VN G.Y g σ H l d v):Q v H:=h g v H (.refl g) S r

theorem ValE.tupN {ds:List D} {vs:List V} (h:ValE G W g σ l (cr (D.tup ds) s) Q) (S:SR G.Y g σ H l s) (r:Rps G.Y g.F ds vs):NT H vs Q:=fun p ob hp hd=>by
 obtain ⟨S',E'⟩:=S.new (o:=.frz ob (.tup vs)) hp
 exact h.frz' E' S' (.tup (.new hd) (r.mono E'.f))

theorem ValE.lstN {ds:List D} {vs:List V} {p:Addr} (h:ValE G W g σ l (dW (D.lst ds) s) Q) (S:SR G.Y g σ H l s) (r:Rps G.Y g.F ds vs) (hp:H p=none):Q (.ref p) (upd H p (.lst vs)) :=
 h.nwo (S.lay hp) (S.newN hp (.lst upd_same r))
end

section
variable {Y:Wd} {F:Fr} {H:Hp} {C:Cx} {pins:List (Addr × Obj)} {σ:L2.St} {s:Shared}
mutual
theorem Rp.nested (I:Inv C pins σ H s) (hF:Same F.h H):∀ {d:D} {q:NestedKey} {v:V} {u:Value},D.nk d=some q→Rp Y F d v→RelV v u→NestedIs s.heap q u
 | .non,q,v,u,h,r,z=>by
  cases (ad h); cases r; cases z; exact .none
 | .int i,q,v,u,h,r,z=>by
  cases (ad h); cases r; obtain ⟨t,rfl⟩:=z; exact .int i t
 | .str i,q,v,u,h,r,z=>by
  cases (ad h); cases r; obtain ⟨t,rfl⟩:=z; exact .text i t
 | .tup xs,q,v,u,h,r,z=>by
  obtain ⟨ks,h1,rfl⟩:=aA.mp (show (D.nks xs).map NestedKey.tup=some q from h)
  cases r with
  | tup hf rs =>
   cases z
   obtain ⟨ob0,_,hf⟩:=hf
   obtain ⟨_,hz,its,vr,ob,e,c,n,dd⟩:=I.hok _ _ (hF _ _ hf)
   exact .tup e c dd (by simpa using Rps.nested I hF h1 rs vr)
 | .bl _,_,_,_,h,_,_=>by simp [D.nk] at h
 | .lst _,_,_,_,h,_,_=>by simp [D.nk] at h
 | .arr _,_,_,_,h,_,_=>by simp [D.nk] at h
 | .dic _ _,_,_,_,h,_,_=>by simp [D.nk] at h
 | .loc _,_,_,_,h,_,_=>by simp [D.nk] at h
 | .exc _,_,_,_,h,_,_=>by simp [D.nk] at h
 | .fdc _,_,_,_,h,_,_=>by simp [D.nk] at h
 | .cd _,_,_,_,h,_,_=>by simp [D.nk] at h
theorem Rps.nested (I:Inv C pins σ H s) (hF:Same F.h H):∀ {ds:List D} {ks:List NestedKey} {vs:List V} {us:List Value},D.nks ds=some ks→Rps Y F ds vs→Vals vs us→NestedAll s.heap ks us
 | [],ks,_,_,h,r,z=>by
  cases (ad h); cases r; cases z; exact .nil
 | x :: xs,ks,_,_,h,r,z=>by
  obtain ⟨k,h1,h2⟩:=bc.mp (show (D.nk x).bind (fun k=>(D.nks xs).map (k :: ·))=some ks from h)
  obtain ⟨ks',h3,rfl⟩:=aA.mp h2
  cases r with
  | cons r1 r2 =>
   cases z with
   | cons z1 z2=>exact .cons (Rp.nested I hF h1 r1 z1) (Rps.nested I hF h3 r2 z2)
end


theorem Rpt.keys (I:Inv C pins σ H s) (hF:Same F.h H):∀ {ps:List (D × D)} {xs:List (NestedKey × Addr × Value)},Rpt Y F ps xs→∀ x∈xs,(nestedKind C.prog C.w).is s.heap x.1 x.2.1
 | _,_,.nil,x,hx=>by cases hx
 | _,_,.cons (q:=q) (b:=b) h z k r u t,x,hx=>by
  rcases aB.mp hx with rfl | hx
  ·exact ⟨Rp.nested I hF h k rfl,z⟩
  ·exact Rpt.keys I hF t x hx
theorem vI (I:Inv C pins σ H s) {a:Addr} {ob:Obj} (h:H a=some (kU a ob)):s.heap.get? a=some ob:=(I.hok a _ h).1
theorem gN (I:Inv C pins σ H s) (hF:Same F.h H) {a:Addr} {ob:Obj} {xs:List (NestedKey × Addr × Value)} {ps:List (D × D)} (hY:Y.P=C.prog∧Y.w=C.w) (h:H a=some (kU a ob)) (w:DtO Y a ob xs) (r:Rpt Y F ps xs) :
  s.heap.DictOfH (nestedKind C.prog C.w) a xs:=by
 obtain ⟨es,ep,h1,h2⟩:=w.es
 rw [hY.1,hY.2] at h2
 exact ⟨ob,es,ep,vI I h,w.ex,h1,h2,Rpt.keys I hF r,w.nd⟩
theorem pC {P:Program} {w:World} {H':Hp} {h:Heap} {a:Addr} {ob:Obj} (e:h.get? a=some ob):ObjOk P w H' h a (kU a ob):=⟨e,⟨ob,e⟩,fun h1 h2 x k=>k _ x⟩
theorem qy {a:Addr} {ob:Obj}:Mut (some (kU a ob)):=True.intro
end

def rQ (Y:Wd) (F:Fr) (k:D) (q:NestedKey) (b:Addr):Prop:=D.nk k=some q∧q.depth≤8∧Rp Y F k (.ref b)
theorem gg {k:D} (h:D.isKey true k=true):∃ q,D.nk k=some q∧q.depth≤8∧∃ xs,k=.tup xs:=by
 unfold D.isKey at h
 rw [aj rfl] at h
 cases k with
 | tup xs =>
  simp only at h
  cases e:D.nk (.tup xs) with
  | none=>rw [e] at h; cases h
  | some q=>rw [e] at h; exact ⟨q,rfl,bg h,xs,rfl⟩
 | _=>cases h
theorem dZ {k:D} (h:D.isKey false k=true):∃ q,D.keyOf k=some q:=by
 unfold D.isKey at h
 rw [aq (by decide)] at h
 exact aZ.mp h
theorem gP {Y:Wd} {F:Fr} {k:D} {q:Key} {v:V} (h:D.keyOf k=some q) (r:Rp Y F k v):v=kV q:=by
 cases k <;> simp only [D.keyOf,bM,reduceCtorEq] at h
 ·subst h; cases r; rfl
 ·subst h; cases r; rfl


def gh (Y:Wd) (F:Fr) (H:Hp) (x y:V) (r:Option V):Prop :=
 (∃ a,x=.ref a∧DGet H a y r) ∨
 (∃ a ob xs ps k q b,x=.ref a∧y=.ref b∧H a=some (kU a ob)∧DtO Y a ob xs∧Rpt Y F ps xs∧Same F.h H∧rQ Y F k q b∧RelO r ((atKey xs q).map (·.2))) ∨
 ∃ a kvs z,x=.ref a∧y=.str z∧TbK Y a kvs∧r=(kvs.lookup z).map V.str
section
variable {Y:Wd} {F:Fr} {H:Hp} {C:Cx} {pins:List (Addr × Obj)} {σ:L2.St} {s:Shared} {a:Addr} {x y:V} {o:Option V} {kvs:List (Str × Str)} {E:Value→Shared→Prop}
theorem RdV.look {g:Gh} {l:Lc} {sto:cj} {k:Bool} {ps:List (D × D)} {i:D} (S:SR Y g σ H l sto) (h:RdV Y g.F H (.dic k ps) x) (hi:RdV Y g.F H i y) (hk:D.isKey k i=true) :
  (D.look ps i=none∧gh Y g.F H x y none)∨∃ d v,D.look ps i=some d∧gh Y g.F H x y (some v)∧Rp Y g.F d v:=by
 have hi':Rp Y g.F i y:=by
  rcases hi with hi | hi
  ·exact hi
  ·cases k with
   | true=>obtain ⟨q,_,_,xs,rfl⟩:=gg hk; cases hi
   | false =>
    obtain ⟨q,hq⟩:=dZ hk
    cases hi <;> simp [D.keyOf] at hq
 cases k with
 | false =>
  obtain ⟨a,kvs,rfl,hH,r⟩:=h.dk S
  obtain ⟨q,hq⟩:=dZ hk
  have ey:=gP hq hi'
  subst ey
  rcases r.look hq with ⟨e1,e2⟩ | ⟨d,v,e1,e2,e3⟩
  ·exact .inl ⟨e1,.inl ⟨a,rfl,by rw [← e2]; exact DGet.k hH⟩⟩
  ·exact .inr ⟨d,v,e1,.inl ⟨a,rfl,by rw [← e2]; exact DGet.k hH⟩,e3⟩
 | true =>
  obtain ⟨a,ob,xs,rfl,hH,w,r⟩:=h.dt S
  obtain ⟨q,hq,hz,zs,rfl⟩:=gg hk
  cases hi' with
  | tup hb hr =>
   rename_i b vs
   have kt:rQ Y g.F (.tup zs) q b:=⟨hq,hz,.tup hb hr⟩
   rcases r.look hq with ⟨e1,e2⟩ | ⟨d,v,b',u,e1,e2,ru,e3⟩
   ·exact .inl ⟨e1,.inr (.inl ⟨a,ob,xs,ps,_,q,b,rfl,rfl,hH,w,r,S.sF,kt,by rw [e2]; trivial⟩)⟩
   ·exact .inr ⟨d,v,e1,.inr (.inl ⟨a,ob,xs,ps,_,q,b,rfl,rfl,hH,w,r,S.sF,kt,by rw [e2]; exact ru⟩),e3⟩
theorem RdV.lookF {g:Gh} {l:Lc} {sto:cj} {ps:List (D × D)} {i:D} (S:SR Y g σ H l sto) (h:RdV Y g.F H (.fdc ps) x) (hi:RdV Y g.F H i y) (hk:D.isKey false i=true) :
  (D.look ps i=none∧gh Y g.F H x y none)∨∃ d v,D.look ps i=some d∧gh Y g.F H x y (some v)∧Rp Y g.F d v:=by
 have hi':Rp Y g.F i y:=by
  rcases hi with hi | hi
  ·exact hi
  ·obtain ⟨q,hq⟩:=dZ hk
   cases hi <;> simp [D.keyOf] at hq
 obtain ⟨a,o,kvs,rfl,hH,r⟩:=h.fd S
 obtain ⟨q,hq⟩:=dZ hk
 have ey:=gP hq hi'
 subst ey
 have dg:DGet H a (kV q) (valV kvs q):=.inl ⟨kvs,q,.inr ⟨o,hH⟩,rfl,rfl⟩
 rcases r.look hq with ⟨e1,e2⟩ | ⟨d,v,e1,e2,e3⟩
 ·exact .inl ⟨e1,.inl ⟨a,rfl,by rw [← e2]; exact dg⟩⟩
 ·exact .inr ⟨d,v,e1,.inl ⟨a,rfl,by rw [← e2]; exact dg⟩,e3⟩
theorem RdV.lookC {g:Gh} {l:Lc} {sto:cj} {z:Str} (S:SR Y g σ H l sto) (h:RdV Y g.F H (.cd kvs) x) (hi:RdV Y g.F H (.str z) y):gh Y g.F H x y ((kvs.lookup z).map V.str):=by
 obtain rfl:=hi.str
 rcases h with h | h
 ·cases h with
  | tb h=>exact .inr (.inr ⟨_,kvs,z,rfl,rfl,h,rfl⟩)
 ·cases h
theorem iO {A:Around} (hu:A.units+64 < cLine):(nestedKind C.prog C.w).room A.in1:=by
 show A.units+1+8 < cLine
 omega
theorem jf (I:Inv C pins σ H s) (hF:Same F.h H) {k:D} {q:NestedKey} {b:Addr} (h:rQ Y F k q b):(nestedKind C.prog C.w).is s.heap q b:=⟨Rp.nested I hF h.1 h.2.2 rfl,h.2.1⟩
theorem nM {o:Option V} {p:Option (Addr × Value)} (r:RelO o (p.map (·.2))):o.isSome=p.isSome:=by
 have:=r.isSome_eq
 rw [this,Option.isSome_map]

theorem TbK.get (h:TbK Y a kvs) (hw:Y.w=C.w) (hK:Y.K=C.K) (z:Str):∃ es n o,KDict C.K C.w a es n∧PySem.W.nsIn C.K a z=some o∧RelO ((kvs.lookup z).map V.str) o:=by
 obtain ⟨es,n,d⟩:=h.d
 obtain ⟨o,e,r⟩:=h.at_ z
 rw [hK,hw] at d
 rw [hK] at e
 exact ⟨es,n,o,d,e,r⟩
theorem rR (I:Inv C pins σ H s) (hY:(Y.P=C.prog∧Y.w=C.w)∧Y.K=C.K) {u:Value} (g:gh Y F H x y o) (rx:RelV x u):s.TypeIs u "dict":=by
 rcases g with ⟨a,rfl,g⟩ | ⟨a,ob,xs,ps,k,q,b,rfl,_,h,w,r,hF,_,_⟩ | ⟨a,kvs,z,rfl,_,tb,_⟩
 ·cases rx
  exact dict_typeIs I g
 ·cases rx
  exact (gN I hF hY.1 h w r).typeIs
 ·cases rx
  obtain ⟨es,n,o,d,_,_⟩:=tb.get hY.1.2 hY.2 z
  exact kd_type d I
theorem pD {v:V} {u i:Value} {Q:Value→Shared→Prop} (hu:C.A.units+64 < cLine) (hY:(Y.P=C.prog∧Y.w=C.w)∧Y.K=C.K) (I:Inv C pins σ H s) (g:gh Y F H x y (some v)) (rx:RelV x u) (ry:RelV y i)
  (h:∀ w' s',Inv C pins σ H s'→RelV v w'→Q w' s'):wpAny (model C.prog C.w) C.A (getItem u i) Q E s:=by
 rcases g with ⟨a,rfl,g⟩ | ⟨a,ob,xs,ps,k,q,b,rfl,rfl,hH,w,r,hF,kt,ro⟩ | ⟨a,kvs,z,rfl,rfl,tb,eo⟩
 ·cases rx
  exact d_getItem (by omega) I g ry h
 ·cases rx
  cases ry
  obtain ⟨w',hw,rw'⟩:=RelO.some_of ro
  obtain ⟨p,hp,hp2⟩:=aA.mp hw
  refine wpAny_getItem_heap (iO hu) (jf I hF kt) (gN I hF hY.1 hH w r) hp ?_
  rw [hp2]
  exact h w' _ (I.tok _) rw'
 ·cases rx
  obtain ⟨t,rfl⟩:=ry
  obtain ⟨es,n,o,d,e,r⟩:=tb.get hY.1.2 hY.2 z
  rw [← eo] at r
  obtain ⟨w',rfl,rw'⟩:=RelO.some_of r
  exact wpAny_getItem_of (PySem.strKind_is C.prog C.w z t) (PySem.W.mapOf_K (prog:=C.prog) I.kIn d.at_ d.lit) (PySem.W.find_K d.at_ e) (h w' _ (I.tok _) rw')
theorem Bn {u i:Value} {Q:Value→Shared→Prop} (hu:C.A.units+64 < cLine) (hY:(Y.P=C.prog∧Y.w=C.w)∧Y.K=C.K) (I:Inv C pins σ H s) (g:gh Y F H x y o) (rx:RelV x u) (ry:RelV y i) (h:∀ s',Inv C pins σ H s'→Q (.bool o.isSome) s') :
  wpAny (model C.prog C.w) C.A (compareOp .In i u) Q E s:=by
 rcases g with ⟨a,rfl,g⟩ | ⟨a,ob,xs,ps,k,q,b,rfl,rfl,hH,w,r,hF,kt,ro⟩ | ⟨a,kvs,z,rfl,rfl,tb,eo⟩
 ·cases rx
  exact d_in (by omega) I g ry h
 ·cases rx
  cases ry
  refine wpAny_in_heap (iO hu) (jf I hF kt) w.nm (gN I hF hY.1 hH w r) ?_
  rw [← nM ro]
  exact h _ (I.tok _)
 ·cases rx
  obtain ⟨t,rfl⟩:=ry
  obtain ⟨es,n,o2,d,e,r⟩:=tb.get hY.1.2 hY.2 z
  rw [← eo] at r
  refine wpAny_in_of (PySem.strKind_is C.prog C.w z t) d.low (PySem.W.mapOf_K (prog:=C.prog) I.kIn d.at_ d.lit) ?_
  rw [PySem.W.find_K d.at_ e,← r.isSome_eq]
  exact h _ (I.tok _)
theorem tq {u i:Value} {Q:Value→Shared→Prop} (hu:C.A.units+64 < cLine) (hY:(Y.P=C.prog∧Y.w=C.w)∧Y.K=C.K) (I:Inv C pins σ H s) (g:gh Y F H x y o) (rx:RelV x u) (ry:RelV y i) (h:∀ s',Inv C pins σ H s'→Q (.bool (!o.isSome)) s') :
  wpAny (model C.prog C.w) C.A (compareOp .NotIn i u) Q E s:=by
 rcases g with ⟨a,rfl,g⟩ | ⟨a,ob,xs,ps,k,q,b,rfl,rfl,hH,w,r,hF,kt,ro⟩ | ⟨a,kvs,z,rfl,rfl,tb,eo⟩
 ·cases rx
  exact d_notIn (by omega) I g ry h
 ·cases rx
  cases ry
  refine wpAny_notIn_heap (iO hu) (jf I hF kt) w.nm (gN I hF hY.1 hH w r) ?_
  rw [← nM ro]
  exact h _ (I.tok _)
 ·cases rx
  obtain ⟨t,rfl⟩:=ry
  obtain ⟨es,n,o2,d,e,r⟩:=tb.get hY.1.2 hY.2 z
  rw [← eo] at r
  refine wpAny_notIn_of (PySem.strKind_is C.prog C.w z t) d.low (PySem.W.mapOf_K (prog:=C.prog) I.kIn d.at_ d.lit) ?_
  rw [PySem.W.find_K d.at_ e,← r.isSome_eq]
  exact h _ (I.tok _)
theorem kW {h:Heap} {P:Program} {w:World} {d:Addr} {xs:List (NestedKey × Addr × Value)} (x:h.DictOfH (nestedKind P w) d xs):h.DictKeyed (nestedKind P w) d (pairsH xs):=⟨xs,x,rfl⟩
theorem vJ {u i:Value} {Q:Value→Shared→Prop} (hu:C.A.units+64 < cLine) (hY:(Y.P=C.prog∧Y.w=C.w)∧Y.K=C.K) (I:Inv C pins σ H s) (g:gh Y F H x y o) (rx:RelV x u) (ry:RelV y i) (h:∀ w' s',Inv C pins σ H s'→RelV (o.getD .non) w'→Q w' s') :
  wpAny (model C.prog C.w) C.A (call (.builtin "dict.get") [u,i]) Q E s:=by
 rcases g with ⟨a,rfl,g⟩ | ⟨a,ob,xs,ps,k,q,b,rfl,rfl,hH,w,r,hF,kt,ro⟩ | ⟨a,kvs,z,rfl,rfl,tb,eo⟩
 ·cases rx
  exact d_get1 (by omega) I g ry h
 ·cases rx
  cases ry
  refine get_keyed (iO hu) (jf I hF kt) w.nm (kW (gN I hF hY.1 hH w r)) ?_
  rw [valueAt_pairsH]
  exact h _ _ (I.tok _) (ro.getD rfl)
 ·cases rx
  obtain ⟨t,rfl⟩:=ry
  obtain ⟨es,n,o2,d,e,r⟩:=tb.get hY.1.2 hY.2 z
  rw [← eo] at r
  refine call_meetsIn PySem.F.slot_dict_get (kd_type d I) PySem.F.entry_dict_get (PySem.F.args_dict_get_2 _ _) (meets_dict_get (PySem.strKind C.prog C.w) a (PySem.strKind_is C.prog C.w z t) d.low) ⟨_,PySem.W.mapOf_K (prog:=C.prog) I.kIn d.at_ d.lit,h _ _ (I.tok _) ?_⟩
  rw [PySem.W.find_K d.at_ e]
  exact r.getD rfl
theorem vK {z:V} {u i j:Value} {Q:Value→Shared→Prop} (hu:C.A.units+64 < cLine) (hY:(Y.P=C.prog∧Y.w=C.w)∧Y.K=C.K) (I:Inv C pins σ H s) (g:gh Y F H x y o) (rx:RelV x u) (ry:RelV y i) (rz:RelV z j)
  (h:∀ w' s',Inv C pins σ H s'→RelV (o.getD z) w'→Q w' s'):wpAny (model C.prog C.w) C.A (call (.builtin "dict.get") [u,i,j]) Q E s:=by
 rcases g with ⟨a,rfl,g⟩ | ⟨a,ob,xs,ps,k,q,b,rfl,rfl,hH,w,r,hF,kt,ro⟩ | ⟨a,kvs,z,rfl,rfl,tb,eo⟩
 ·cases rx
  exact d_get2 (by omega) I g ry rz h
 ·cases rx
  cases ry
  refine getOr_keyed (iO hu) (jf I hF kt) w.nm (kW (gN I hF hY.1 hH w r)) ?_
  rw [valueAt_pairsH]
  exact h _ _ (I.tok _) (ro.getD rz)
 ·cases rx
  obtain ⟨t,rfl⟩:=ry
  obtain ⟨es,n,o2,d,e,r⟩:=tb.get hY.1.2 hY.2 z
  rw [← eo] at r
  refine call_meetsIn PySem.F.slot_dict_get (kd_type d I) PySem.F.entry_dict_get (PySem.F.args_dict_get_3 _ _ _) (meets_dict_get_default (PySem.strKind C.prog C.w) a (PySem.strKind_is C.prog C.w z t) d.low j) ⟨_,PySem.W.mapOf_K (prog:=C.prog) I.kIn d.at_ d.lit,h _ _ (I.tok _) ?_⟩
  rw [PySem.W.find_K d.at_ e]
  exact r.getD rz
end

theorem pE {Y:Wd} {F:Fr} {H:Hp} {C:Cx} {pins:List (Addr × Obj)} {σ:L2.St} {s:Shared} {a b:Addr} {ob:Obj} {xs:List (NestedKey × Addr × Value)} {ps:List (D × D)} {k:D} {q:NestedKey} {v:V} {r:Value} {E:Value→Shared→Prop} {Q:Unit→Shared→Prop}
  (hu:C.A.units+64 < cLine) (hY:Y.P=C.prog∧Y.w=C.w) (I:Inv C pins σ H s) (hH:H a=some (kU a ob)) (w:DtO Y a ob xs) (rp:Rpt Y F ps xs) (hF:Same F.h H) (kt:rQ Y F k q b) (rv:RelV v r) (hz:xs.length < sizeLine)
  (h:∀ ob' s',DtO Y a ob' (storedH xs q b r)→Inv C pins σ (upd H a (kU a ob')) s'→Q () s'):wpAny (model C.prog C.w) C.A (setItem (.ref a) (.ref b) r) Q E s:=by
 refine wpAny_setItem_heap (hsz:=Nat.le_of_lt hz) (iO hu) (jf I hF kt) (gN I hF hY hH w rp) fun h' dd' hs=>?_
 obtain ⟨o',es,ep,h1,h2,h3,h4,_,h5⟩:=dd'
 refine h o' _ ⟨h2,w.nm,⟨es,ep,h3,by rw [hY.1,hY.2]; exact h4⟩,h5,?_⟩ (d_write I (by rw [hH]; exact qy) hs ⟨o',h1⟩ (pC h1))
 have:=w.sz
 unfold storedH
 split
 ·rw [ac]; exact this
 ·rw [ae]; exact hz

theorem tu {Y:Wd} {C:Cx} {pins:List (Addr × Obj)} {σ:L2.St} {H:Hp} {s:Shared} (I:Inv C pins σ H s) :
  ∃ ob,DtO Y s.heap.objs.size ob []∧Inv C pins σ (upd H s.heap.objs.size (kU s.heap.objs.size ob)) { s with heap:=s.heap.push { cls:=.type "dict",data:=.dict #[] } } :=
 ⟨{ cls:=.type "dict",data:=.dict #[] },⟨⟨rfl,rfl,rfl⟩,bw.mpr (Ne.symm (aX I.big)),⟨#[],0,rfl,rfl⟩,List.nodup_nil,aW _⟩,
  I.laid (a:=s.heap.objs.size) (o:=kU s.heap.objs.size { cls:=.type "dict",data:=.dict #[] }) (t':=s.toks) (fun _ _ q=>Heap.get?_push_of_some _ q) (ax _) (pC (Heap.get?_push_size _ rfl))⟩
theorem kX (l:Addr) (items:Array Value) (n:Nat) (dd:Option Addr) (sl:Array (Option Value)) (x:Int) (u:Tok) (c0:(decide (x < -(2 ^ 63)) || decide (x ≥ 2 ^ 63))=false) (c1:(items.isEmpty || x == 1)=true) :
  Meets (Builtin.«tuple.__mul__» ⟨[.ref l,.int x u],[]⟩) (fun _ R s=>s.heap.get? l=some { cls:=.type "tuple",dict:=dd,data:=.seq items n,slots:=sl } ∧
   R (.ok (.ret (Value.ref l))) s) :=
 .of_wp fun prog w A R s h=>by
  obtain ⟨hp,g,d,tk,os⟩:=s
  obtain ⟨hl,h⟩:=h
  have f1:=PySem.AutoSeq1.idx_int
  wp_walk using PySem.AutoSeq1.wpAny_loadPart' hl
  repeat (first
   | (refine wpAny_ite_false (aE (by rw [c0]; exact aa)) ?_; wp_walk using PySem.AutoSeq1.wpAny_loadPart' hl)
   | (refine wpAny_ite_true (aF c1) ?_; wp_walk using PySem.AutoSeq1.wpAny_loadPart' hl))
  exact ⟨_,rfl,h⟩
theorem kY (l:Addr) (items:Array Value) (n:Nat) (dd:Option Addr) (sl:Array (Option Value)) (x:Int) (u:Tok) (c0:(decide (x < -(2 ^ 63)) || decide (x ≥ 2 ^ 63))=false) (c1:(items.isEmpty || x == 1)=false) (c2:(decide (x≤0) || items.isEmpty)=true) :
  Meets (Builtin.«tuple.__mul__» ⟨[.ref l,.int x u],[]⟩) (fun _ R s=>s.heap.get? l=some { cls:=.type "tuple",dict:=dd,data:=.seq items n,slots:=sl } ∧
   R (.ok (.ret (Value.ref s.heap.objs.size))) { s with heap:=s.heap.push { cls:=Value.type "tuple",data:=Data.seq #[] },toks:=s.toks }) :=
 .of_wp fun prog w A R s h=>by
  obtain ⟨hp,g,d,tk,os⟩:=s
  obtain ⟨hl,h⟩:=h
  have f1:=PySem.AutoSeq1.idx_int
  wp_walk using PySem.AutoSeq1.wpAny_loadPart' hl
  repeat (first
   | (refine wpAny_ite_false (aE (by rw [c0]; exact aa)) ?_; wp_walk using PySem.AutoSeq1.wpAny_loadPart' hl)
   | (refine wpAny_ite_false (aE (by rw [c1]; exact aa)) ?_; wp_walk using PySem.AutoSeq1.wpAny_loadPart' hl)
   | (refine wpAny_ite_true (aF c2) ?_; wp_walk using PySem.AutoSeq1.wpAny_loadPart' hl))
  exact ⟨_,rfl,h⟩

def xF (K:PySem.W.Frag):R2:=fun x y H Q=>∃ l k xs,x=.ref l∧y=.int k∧SqT K H l xs∧-(2 ^ 63)≤k∧k < 2 ^ 63∧xs.length*k.toNat≤sizeLine ∧
 (xs=[]∨k=1→Q (.ref l) H)∧(xs≠[]→k≠1→NT H (List.replicate k.toNat xs).flatten Q)
theorem op_repA {C:Cx}:OpR C (binaryOp .Mult) (xF C.K):=by
 intro pins s σ H x y v u Q I rx ry h
 obtain ⟨l,k,xs,rfl,rfl,hT,h1,h2,hz,q1,q2⟩:=h
 cases rx
 obtain ⟨t,rfl⟩:=ry
 obtain ⟨its,r,⟨⟨cls,dd,data,sl⟩,ho,hc,n,hd⟩,hs⟩:=I.tuple hT
 simp only at hc hd
 subst hc hd
 have hle:its.length=xs.length:=r.length.symm
 have c0:(decide (k < -(2 ^ 63)) || decide (k ≥ 2 ^ 63))=false:=by
  rw [aE (by omega),aE (by omega)] <;> rfl
 by_cases hs1:xs=[]∨k=1
 ·have c1:(its.toArray.isEmpty || k == 1)=true:=by
   rcases hs1 with e | e
   ·subst e
    have:its=[]:=bh hle
    subst this
    rfl
   ·rw [e]
    simp
  refine wpAny_binaryOp_repeat_ref (T:="tuple") (U:="int") (by decide) ⟨_,ho,rfl⟩ (fun s'=>typeIs_int s' k t) noFill_tuple_mul F.fills_int_mul F.slot_int_rmul repeat_tuple F.slot_int_index.lookup
   (call_meets F.slot_int_rmul (typeIs_int s k t) F.entry_int_rmul (F.args_int_rmul_2 _ _) (int_rmul_tuple k t l its.toArray n dd sl)
    ⟨ho,rfl,⟨_,ho,rfl⟩,call_meets F.slot_tuple_mul ⟨_,ho,rfl⟩ F.entry_tuple_mul (F.args_tuple_mul_2 _ _) (kX l its.toArray n dd sl k t c0 c1) ⟨ho,?_⟩⟩)
  exact ⟨.ref l,H,I,rfl,q1 hs1⟩
 ·have hne:xs≠[]:=fun e=>hs1 (.inl e)
  have hk1:k≠1:=fun e=>hs1 (.inr e)
  have hn:its≠[]:=fun e=>hne (by
   rw [e] at hle
   exact bh hle.symm)
  have hi:its.toArray.isEmpty=false:=by
   cases its with
   | nil=>exact absurd rfl hn
   | cons a b=>rfl
  have c1:(its.toArray.isEmpty || k == 1)=false:=by
   rw [hi,Bool.false_or]
   exact bw.mpr hk1
  have hsz0:its.toArray.size=xs.length:=by rw [aN,hle]
  have flen:(List.replicate k.toNat its).flatten.length≤sizeLine:=by
   rw [PyProof.Rows.lm_len_rep_flat,hle,Nat.mul_comm]
   exact hz
  by_cases h0:k≤0
  ·have c2:(decide (k≤0) || its.toArray.isEmpty)=true:=by
    rw [aF h0]
    rfl
   refine wpAny_binaryOp_repeat_ref (T:="tuple") (U:="int") (by decide) ⟨_,ho,rfl⟩ (fun s'=>typeIs_int s' k t) noFill_tuple_mul F.fills_int_mul F.slot_int_rmul repeat_tuple F.slot_int_index.lookup
    (call_meets F.slot_int_rmul (typeIs_int s k t) F.entry_int_rmul (F.args_int_rmul_2 _ _) (int_rmul_tuple k t l its.toArray n dd sl)
     ⟨ho,rfl,⟨_,ho,rfl⟩,call_meets F.slot_tuple_mul ⟨_,ho,rfl⟩ F.entry_tuple_mul (F.args_tuple_mul_2 _ _) (kY l its.toArray n dd sl k t c0 c1 c2) ⟨ho,?_⟩⟩)
   have ez:(List.replicate k.toNat xs).flatten=[]:=by rw [show k.toNat=0 by omega]; rfl
   have q:=q2 hne hk1
   rw [ez] at q
   exact jq (its:=[]) I .nil (aW _) q
  ·have hm:((its.toArray.size:Nat):Int)*k≤(sizeLine:Nat):=by
    rw [hsz0]
    have e:k=((k.toNat:Nat):Int):=by omega
    rw [e,← Int.natCast_mul]
    exact Int.ofNat_le.mpr hz
   have hsl:((sizeLine:Nat):Int)=16777216:=by rw [sizeLine_eq]; rfl
   have c2:(decide (k≤0) || its.toArray.isEmpty)=false:=by
    rw [hi,Bool.or_false]
    exact aE (by omega)
   have c4:Builtin.Tuple.tupleTooMany (((its.toArray.size:Nat):Int)*k)=false:=by
    unfold Builtin.Tuple.tupleTooMany
    exact aE (by omega)
   refine wpAny_binaryOp_repeat_ref (T:="tuple") (U:="int") (by decide) ⟨_,ho,rfl⟩ (fun s'=>typeIs_int s' k t) noFill_tuple_mul F.fills_int_mul F.slot_int_rmul repeat_tuple F.slot_int_index.lookup
    (call_meets F.slot_int_rmul (typeIs_int s k t) F.entry_int_rmul (F.args_int_rmul_2 _ _) (int_rmul_tuple k t l its.toArray n dd sl)
     ⟨ho,rfl,⟨_,ho,rfl⟩,call_meets F.slot_tuple_mul ⟨_,ho,rfl⟩ F.entry_tuple_mul (F.args_tuple_mul_2 _ _) (tuple_mulW l its.toArray n dd sl k t c0 c1 c2 (by omega) c4 (by rw [size_rep,aN]; exact flen)) ⟨ho,?_⟩⟩)
   rw [size_rep]
   exact jq I (r.rep k.toNat) (by rw [PyProof.Rows.lm_len_rep_flat,Nat.mul_comm]; exact hz) (q2 hne hk1)


structure Sc where
 N:List Str
 sc:Scope
 cs:List Str
 gn:List Str
 top:Bool
 hot:Bool
 en:List Str
 hn:List Str
 /-- classes' fields,methods by their place among the callees,makings -/
 fl:List (Str × Str)
 mt:List (Nat × Str × Str)
 mks:List (Nat × Str)
 /-- classes that isinstance asks an exception for,by their place among the callees; callees that a suite may call with its exception -/
 xs:List (Nat × Str)
 hx:List Nat
 /-- classes that isinstance asks an instance for -/
 ic:List Str
def gQ (sc:Scope) (x:Str):Bool:=match sc.names.lookup x with
 | some .local=>true
 | some .cell=>true
 | some .free=>true
 | _=>false
def nN (sc:Scope) (x:Str):Bool:=match sc.names.lookup x with
 | some .local=>true
 | some .cell=>true
 | _=>false
def iy (sc:Scope) (x:Str):Bool:=match sc.names.lookup x with
 | some .local=>true
 | _=>false
def dc (sc:Scope) (x:Str):Bool:=match sc.names.lookup x with
 | some .globalImplicit=>true
 | _=>false
def fN (x:Str):Bool:=!(x == ("__debug__":Str)) && !(x == ("__classdict__":Str)) && !(x == ("__name__":Str))
def b8:Expr→Bool
 | .Starred _ _=>false
 | _=>true
def cO:Expr→Bool
 | .Slice _ _ _ _=>false
 | _=>true
def im:Expr→Bool
 | .Set _ _ _=>false
 | _=>true

def vL:Expr→Bool
 | .Name _ _=>true
 | .List _ _=>true
 | .Dict _ _ _=>true
 | .Call _ _ _ _=>true
 | .Attribute _ _ _=>true
 | .Subscript _ _ _=>true
 | _=>false

def cM:Expr→Bool
 | .Call _ [] _ _=>false
 | _=>true
def BOp.op:BOp→Operator
 | .add=>.Add | .sub=>.Sub | .mul=>.Mult | .fdiv=>.FloorDiv | .mod=>.Mod | .pow=>.Pow
def COp.op:COp→CmpOp
 | .eq=>.Eq | .ne=>.NotEq | .lt=>.Lt | .le=>.LtE | .gt=>.Gt | .ge=>.GtE | .isin=>.In | .notin=>.NotIn | .isn=>.Is | .isnn=>.IsNot
def Ew (o:BOp) (p:Operator):Bool:=match o,p with
 | .add,.Add=>true | .sub,.Sub=>true | .mul,.Mult=>true | .fdiv,.FloorDiv=>true | .mod,.Mod=>true | .pow,.Pow=>true
 | _,_=>false
def vM (o:COp) (p:CmpOp):Bool:=match o,p with
 | .eq,.Eq=>true | .ne,.NotEq=>true | .lt,.Lt=>true | .le,.LtE=>true | .gt,.Gt=>true | .ge,.GtE=>true | .isin,.In=>true | .notin,.NotIn=>true | .isn,.Is=>true | .isnn,.IsNot=>true
 | _,_=>false
theorem yj {o:BOp} {p:Operator} (h:Ew o p=true):p=o.op:=by cases o <;> cases p <;> first | rfl | cases h
theorem mJ {o:COp} {p:CmpOp} (h:vM o p=true):p=o.op:=by cases o <;> cases p <;> first | rfl | cases h

def jT (o:COp) (b:Expr):Bool:=match o with
 | .isn=>(match b with | .Constant .none _ _=>true | .Constant (.bool _) _ _=>true | _=>false)
 | .isnn=>(match b with | .Constant .none _ _=>true | _=>false)
 | .isin=>!behindInMarks .In b
 | .notin=>!behindInMarks .NotIn b
 | _=>true
def BI.nm:BI→Str
 | .len=>"len" | .abs=>"abs" | .max2=>"max" | .min2=>"min" | .maxl=>"max" | .minl=>"min" | .all=>"all" | .any=>"any" | .sum=>"sum" | .sorted=>"sorted"
 | .tuple=>"tuple" | .list=>"list" | .dict=>"dict" | .str=>"str" | .int=>"int"
def MI.nm:MI→Str
 | .get1=>"get" | .get2=>"get" | .index=>"index" | .join=>"join" | .split=>"split"
def MI.args:MI→Nat
 | .get1=>1 | .get2=>2 | .index=>1 | .join=>1 | .split=>1
def MI.has:MI→Bool
 | .get1=>true | .get2=>true | .index=>true | _=>false
def MI.txt:MI→Bool
 | .join=>true | .split=>true | _=>false
def X.len:X→Nat
 | .cons _ b=>b.len+1
 | _=>0
def kD (N:List Str) (own:List Nat):List (Str × Nat):=own.map fun i=>(N.getD i "",i)
mutual
def pF (S:Sc):T→Expr→Bool
 | .n i,.Name x _=>decide (S.N[i]?=some x) && nN S.sc x && (S.top || iy S.sc x)
 | .t ts,.Tuple es _ _=>!S.hot && mK S ts es
 | _,_=>false
def mK (S:Sc):T→List Expr→Bool
 | .nil,[]=>true
 | .cons a b,e :: es=>b8 e && pF S a e && mK S b es
 | _,_=>false
end

mutual
def cx (S:Sc):X→Expr→Bool
 | .v i,.Name x _=>decide (S.N[i]?=some x) && gQ S.sc x && fN x
 | .kn,.Constant .none _ _=>true
 | .kb b,.Constant (.bool c) _ _=>b == c
 | .ki i,.Constant (.int c) _ _=>decide (i=c)
 | .ks i,.Constant (.str c) _ _=>decide (i=c)
 | .g j,.Name x _=>decide (S.gn[j]?=some x) && dc S.sc x && fN x
 | .tup es,.Tuple l _ _=>io S es l
 | .lst es,.List l _=>io S es l
 | .dic _ .nil .nil,.Dict [] [] _=>true
 | .dic _ #v[a] #v[b],.Dict [some e] [f] _=>cx S a e && cx S b f
 | .bin o a b,.BinOp l p r _=>Ew o p && cx S a l && cx S b r
 | .neg a,.UnaryOp .USub e _=>cx S a e
 | .not a,.UnaryOp .Not e _=>cx S a e
 | .cmp o a b,.Compare l [p] [r] _=>vM o p && jT o r && cx S a l && cx S b r
 | .chn o q a b c,.Compare l [p,p2] [r,r2] _=>vM o p && vM q p2 && !lastMarks [p,p2] [r,r2] && jT o r && jT q r2 && cx S a l && cx S b r && cx S c r2
 | .and es,.BoolOp .And l _=>l.length ≥ 1 && io S es l
 | .or es,.BoolOp .Or l _=>l.length ≥ 1 && io S es l
 | .ite c a b,.IfExp e f g _=>cx S c e && cx S a f && cx S b g
 | .sl a lo hi,.Subscript e (.Slice p q none _) _=>cx S a e && (match p with | none=>lo.isNil | some f=>!lo.isNil && cx S lo f) && (match q with | none=>hi.isNil | some f=>!hi.isNil && cx S hi f)
 | .rsl a,.Subscript e (.Slice none none (some (.UnaryOp .USub (.Constant (.int n) _ _) _)) _) _=>decide (n=1) && cx S a e
 | .ssl a k,.Subscript e (.Slice none none (some f) _) _=>!k.isNil && cx S a e && cx S k f
 | .ix a i,.Subscript e f _=>cO f && cx S a e && cx S i f
 | .calS j es,.Call (.Name x _) l [] _=>!S.hot && decide (S.cs[j]?=some x) && dc S.sc x && fN x && l.length ≥ 1 && io S es l
 | .calD j es,.Call (.Name x _) l [] _=>!S.hot && decide (S.cs[j]?=some x) && dc S.sc x && fN x && l.length ≥ 1 && io S es l
 | .call j es,.Call (.Name x _) l [] _=>!S.hot && decide (S.cs[j]?=some x) && dc S.sc x && fN x && io S es l
 | .new a,e=>vL e && cx S a e
 | .frz a,e=>vL e && cx S a e
 | .frzs a,e=>vL e && cx S a e
 | .rdl f a,.Call (.Name x _) [e] [] _=>!S.hot && decide (x=f.nm) && dc S.sc x && b8 e && cx S a e
 | .kd a,e=>vL e && cx S a e
 | .dis ps,.Dict ks vs _=>decide (1≤ks.length) && decide (ks.length≤15) && tv S ps ks vs
 | .xis j a,.Call (.Name x _) [e,.Name y _] [] _=>decide (x="isinstance") && dc S.sc x && S.xs.contains (j,y) && dc S.sc y && fN y && b8 e && cx S a e
 | .isc c a,.Call (.Name x _) [e,.Name y _] [] _=>decide (x="isinstance") && dc S.sc x && decide (y=c) && S.ic.contains c && dc S.sc y && fN y && b8 e && cx S a e
 | .calX j a,.Call (.Name x _) [e] [] _=>S.hx.contains j && decide (S.cs[j]?=some x) && dc S.sc x && fN x && b8 e && cx S a e
 | .inl b k a,.Compare l [p] [r] _=>vM (if b=true then .notin else .isin) p && jT (if b=true then .notin else .isin) r && cx S k l && cx S a r
 | .ixl a k,.Subscript e f _=>cO f && cx S a e && cx S k f
 | .fld c f a,.Attribute e nm _=>decide (nm=f) && S.fl.contains (c,f) && cM e && cx S a e
 | .rm m a b,.Call (.Attribute o nm apos) [f] [] cpos=>m.txt && decide (nm=m.nm) && (apos.endLine == cpos.line) && cM o && b8 f && cx S a o && cx S b f
 | .popk a k,.Call (.Attribute o nm apos) [f] [] cpos=>decide (nm="pop") && (apos.endLine == cpos.line) && cM o && b8 f && cx S a o && cx S k f
 | .popl a,.Call (.Attribute o nm apos) [] [] cpos=>decide (nm="pop") && (apos.endLine == cpos.line) && cM o && cx S a o
 | .mth c m j o es,.Call (.Attribute e nm apos) l [] cpos=>!S.hot && decide (nm=m) && S.mt.contains (j,c,m) && (apos.endLine == cpos.line) && decide (l.length < 30) && cM e && cx S o e && io S es l
 | .mk c j es,.Call (.Name x _) l [] _=>!S.hot && decide (x=c) && S.mks.contains (j,c) && dc S.sc x && fN x && l.length ≥ 1 && io S es l
 | .bi f es,.Call (.Name x _) l [] _=>!S.hot && decide (x=f.nm) && dc S.sc x && l.length ≥ 1 && io S es l
 | .tupI it,.Call (.Name x _) [e] [] _=>!S.hot && decide (x="tuple") && dc S.sc x && b8 e && mL S it e
 | .lstI it,.Call (.Name x _) [e] [] _=>!S.hot && decide (x="list") && dc S.sc x && b8 e && mL S it e
 | .trev a,.Call (.Name x _) [.Call (.Name y _) [e] [] _] [] _=>!S.hot && decide (x="tuple") && decide (y="reversed") && dc S.sc x && dc S.sc y && b8 e && cx S a e
 | .sset a,.Call (.Name x _) [.Call (.Name y _) [e] [] _] [] _=>!S.hot && decide (x="sorted") && decide (y="set") && dc S.sc x && dc S.sc y && b8 e && cx S a e
 | .isi a t,.Call (.Name x _) [e,.Name y _] [] _=>decide (x="isinstance") && dc S.sc x && decide (y=Str.ofString t.nm) && dc S.sc y && b8 e && cx S a e
 | .mt m o es,.Call (.Attribute e nm apos) l [] cpos=>decide (nm=m.nm) && (m.has && decide (l.length=m.args)) && decide (es.len=m.args) && (apos.endLine == cpos.line) && cM e && cx S o e && io S es l
 | .comp own t it c e,.ListComp el [⟨tg,ite,ifs,0⟩] scope _ =>
   !S.hot && blkC S.N S.sc scope (kD S.N own) && (T.slots t).all (fun i=>own.contains i) && im ite && nO S it tg ite && pF { S with sc:=relS scope S.sc,top:=false } t tg && cx { S with sc:=relS scope S.sc,top:=false } e el &&
   (match ifs with | []=>c.isNil | [f]=>!c.isNil && cx { S with sc:=relS scope S.sc,top:=false } c f | _=>false)
 | .comE own t it j es,.ListComp (.Call (.Name x _) l [] _) [⟨tg,ite,[],0⟩] scope _ =>
   !S.hot && S.top && blkC S.N S.sc scope (kD S.N own) && (T.slots t).all (fun i=>own.contains i) && im ite && nO S it tg ite && pF { S with sc:=relS scope S.sc,top:=false } t tg &&
   (decide (S.cs[j]?=some x) && dc (relS scope S.sc) x && fN x && l.length ≥ 1 && io { S with sc:=relS scope S.sc,top:=false } es l)
 | _,_=>false
def tv (S:Sc):X→List (Option Expr)→List Expr→Bool
 | .nil,[],[]=>true
 | .cons (.ks z) (.cons b r),some (.Constant (.str c) _ _) :: ks,f :: vs=>decide (z=c) && b8 f && cx S b f && tv S r ks vs
 | _,_,_=>false
def io (S:Sc):X→List Expr→Bool
 | .nil,[]=>true
 | .cons a b,e :: es=>b8 e && cx S a e && io S b es
 | _,_=>false
def mL (S:Sc):X→Expr→Bool
 | .rng1 a,.Call (.Name x _) [e] [] _=>decide (x="range") && dc S.sc x && b8 e && cx S a e
 | .rng2 a b,.Call (.Name x _) [e,f] [] _=>decide (x="range") && dc S.sc x && b8 e && b8 f && cx S a e && cx S b f
 | _,_=>false
def nO (S:Sc):X→Expr→Expr→Bool
 | .rng1 a,_,.Call (.Name x _) [e] [] _=>decide (x="range") && dc S.sc x && b8 e && cx S a e
 | .rng2 a b,_,.Call (.Name x _) [e,f] [] _=>decide (x="range") && dc S.sc x && b8 e && b8 f && cx S a e && cx S b f
 | .rng3 a b c,_,.Call (.Name x _) [e,f,k] [] _=>decide (x="range") && dc S.sc x && b8 e && b8 f && b8 k && cx S a e && cx S b f && cx S c k
 | .enumK a n,.Tuple _ _ _,.Call (.Name x _) [e] [⟨some kw,.Constant (.int i) _ _,_⟩] _=>decide (x="enumerate") && decide (kw="start") && decide (i=(n:Nat)) && decide (n < 1000) && dc S.sc x && b8 e && cx S a e
 | .enum a 0,.Tuple _ _ _,.Call (.Name x _) [e] [] _=>decide (x="enumerate") && dc S.sc x && b8 e && cx S a e
 | .zip a b,.Tuple _ _ _,.Call (.Name x _) [e,f] [] _=>decide (x="zip") && dc S.sc x && b8 e && b8 f && cx S a e && cx S b f
 | .it a,_,e=>im e && cx S a e
 | .keys a,_,e=>im e && cx S a e
 | .items a,.Tuple _ _ _,.Call (.Attribute e nm apos) [] [] cpos=>decide (nm="items") && (apos.endLine == cpos.line) && cM e && cx S a e
 | _,_,_=>false
end


section
variable {sc:Scope} {x:Str}
theorem tA (h:gQ sc x=true):Vis sc x:=by
 unfold gQ at h
 split at h <;> first | cases h | skip
 ·exact .inl (by assumption)
 ·exact .inr (.inl (by assumption))
 ·exact .inr (.inr (by assumption))
theorem jr (h:nN sc x=true):Loc sc x:=by
 unfold nN at h
 split at h <;> first | cases h | skip
 ·exact .inl (by assumption)
 ·exact .inr (by assumption)
theorem gi (h:iy sc x=true):sc.names.lookup x=some .local:=by
 unfold iy at h
 split at h <;> first | assumption | cases h
theorem yk (h:dc sc x=true):sc.names.lookup x=some .globalImplicit:=by
 unfold dc at h
 split at h <;> first | assumption | cases h
theorem dX (h:fN x=true):(x == ("__debug__":Str))=false:=by
 simp only [fN,ab,az] at h
 exact h.1.1
theorem tB (h:fN x=true):(x == ("__classdict__":Str))=false:=by
 simp only [fN,ab,az] at h
 exact h.1.2
theorem b6 {e:Expr} {es:List Expr} {env:Env} (h:b8 e=true):starEach (e :: es) env=(false,eval e env) :: starEach es env:=by
 cases e <;> first | rfl | cases h
theorem ja {e:Expr} {es:List Expr} {env:Env} (h:b8 e=true):assignEach (e :: es) env=(false,assign e env) :: assignEach es env:=by
 cases e <;> first | rfl | cases h
theorem du:∀ {es:List Expr} {env:Env} {pos:Pos},es.all b8=true→(backTo pos (starEach es env)).any (·.1)=false
 | [],_,_,_=>rfl
 | e :: es,env,pos,h=>by
  rw [a0,ab] at h
  rw [b6 h.1]
  show ((false:Bool) || (backTo pos (starEach es env)).any (·.1))=false
  rw [du h.2]
  rfl
theorem jb {f:Expr} (h:cO f=true):PlainIx f:=fun o i=>by
 cases f <;> first | rfl | cases h
end

structure Gn where
 Y:Wd
 mg:Str→Option Value
 fs:List Fn
 gs:List D
 lv:Nat
 ms:Str→Str→Option Bool
abbrev Gn.gm (G:Gn):Gm:=⟨G.Y,G.mg,G.fs,G.gs⟩

def ArgR (Y:Wd) (g:Gh):List Bool→List D→List V→Prop
 | _,[],[]=>True
 | kp,d :: ds,v :: vs=>(if kp.headD false=true then Rp Y g.F d v else Rp Y g.F d v∨TpW Y g.F g.B d v)∧ArgR Y g kp.tail ds vs
 | _,_,_=>False

def Ey (Y:Wd) (F':Fr) (H H':Hp) (d:D) (t:Tag) (v:V):Prop :=
 match t with
 | .fr=>Rp Y F' d v
 | .nw=>∃ p,v=.ref p∧F'.h p=none∧H p=none∧TpW Y F' H' d v
 | _=>False

def Ez (Y:Wd) (F':Fr) (B H':Hp) (d:D) (t:Tag) (v:V):Prop :=
 match t with
 | .fr=>Rp Y F' d v
 | .nw=>∃ p,v=.ref p∧(F'.h p=none∧∀ n,F'.m p≠some n)∧B p=none∧TpW Y F' H' d v
 | _=>False

def HQ (Y:Wd) (mg:Str→Option Value) (f:Fn):Sp:=fun vs H Q E=>∃ (F:Fr) (ds:List D),Same F.h H∧(∀ a n,F.m a=some n→(H a).isSome=true)∧ArgR Y ⟨F,H,F.m⟩ f.kp ds vs ∧
 match f.run ds with
 | .ok (d,t)=>∀ F' H' v,Same H H'→Same F'.h H'→F'.m=F.m→Ext ⟨F,H,F.m⟩ ⟨F',H,F.m⟩→Ey Y F' H H' d t v→Q v H'
 | .er e _ _=>∀ H' c dd,Same H H'→yi mg e c dd→E c dd H'
 | .no=>False

def HR (Y:Wd) (mg:Str→Option Value) (f:Fn):Sp:=fun vs H Q E=>∃ (F:Fr) (B:Hp) (ds:List D) (s:cj),s≠[]∧Same B H∧Same F.h H∧StR Y ⟨F,B,F.m⟩ H s∧ArgR Y ⟨F,B,F.m⟩ f.kp ds vs ∧
 match f.runS ds s with
 | .ok (d,t,s')=>s'≠[]∧∀ F' H' v,Same B H'→Same F'.h H'→Ext ⟨F,B,F.m⟩ ⟨F',B,F.m⟩→StR Y ⟨F',B,F.m⟩ H' s'→Ez Y F' B H' d t v→Q v H'
 | .er e s' _=>s'≠[]∧∀ F' H' c dd,Same B H'→Same F'.h H'→Ext ⟨F,B,F.m⟩ ⟨F',B,F.m⟩→StR Y ⟨F',B,F.m⟩ H' s'→yi mg e c dd→E c dd H'
 | .no=>False
def gC (Y:Wd) (mg:Str→Option Value) (f:Fn):Sp:=fun vs H Q E=>HQ Y mg f vs H Q E∨HR Y mg f vs H Q E

def ym (K:PySem.W.Frag) (mg:Str→Option Value) (x:Str):Prop:=∃ (Ca:Addr) (bmB:List Value) (B newId initId:String),ExcBaseFacts B newId initId bmB∧PySem.W.excIn K Ca bmB newId=true∧mg x=some (.ref Ca) ∧
 PySem.W.keepIn K (.ref Ca)=true∧PySem.W.subIn K (.ref Ca) (.type "BaseException")=some true∧PySem.W.typeIn K (.ref Ca)=some (.type "type")

def EA (mg:Str→Option Value) (nm:Str) (oe:Obj):Prop:=∃ cv,mg nm=some cv∧Zc cv none oe∧∃ vs,oe.data=.fields vs

def FnX (P:Program) (w:World) (K:PySem.W.Frag) (mg:Str→Option Value) (base:Heap) (k:Nat) (f:Addr) (fd:FuncData) (ps:List Str) (F:Fn):Prop :=
 ps.length=1∧∀ (A:Around) (outer:List Env) (s:Shared) (H:Hp) (p:Addr × Obj) (nm:Str) (Q:VK),L2H.RoomH k A→L2H.PinOk outer H s p→Env0 P w K mg base A outer s H→EA mg nm p.2→BindsTo s fd ⟨[.ref p.1],[]⟩ (ps.zip [.ref p.1]) →
  (match F.run [.exc nm] with
   | .ok (d,.fr)=>d.flat=true∧∀ H' v,Same H H'→(∀ Y F',Rp Y F' d v)→Q v H'
   | _=>False) →
  codeAny (model P w) A (.call (.ref f) ⟨[.ref p.1],[]⟩) (CR (L2.CX P w) outer P w H s Q (fun _ _ _=>False)) s
theorem FnX.mono {P:Program} {w:World} {K:PySem.W.Frag} {mg:Str→Option Value} {base:Heap} {j k:Nat} {f:Addr} {fd:FuncData} {ps:List Str} {F:Fn} (h:FnX P w K mg base j f fd ps F) (hk:j≤k):FnX P w K mg base k f fd ps F :=
 ⟨h.1,fun A outer s H p nm Q hr=>h.2 A outer s H p nm Q (hr.mono hk)⟩

def Ej (K:PySem.W.Frag) (mg:Str→Option Value) (ms:Str→Str→Option Bool):Prop:=∀ (x y:Str) (b:Bool),ms x y=some b→(∃ Ca,mg x=some (.ref Ca)∧L2.ExcC K Ca∧PySem.W.subIn K (.ref Ca) (.ref Ca)=some true)∧∃ Cb,mg y=some (.ref Cb)
structure Gd (C:Cx) (S:Sc) (G:Gn) (W:WX):Prop where
 N:C.N=S.N
 nd:S.N.Nodup
 sc:C.env.scope=S.sc
 cool:S.hot=false→C.calm=true∧Room G.lv C.A
 un:C.A.units+200 < cLine
 top:S.top=true→(∀ x,C.fn x=true)∧C.stack=C.env :: C.outer∧C.env.frame=some C.env.locals
 tk:Takes C W
 Y:G.Y=⟨C.prog,C.w,C.K,G.Y.pn⟩
 mg:G.mg=C.mg
 fns:S.hot=false→∀ (j:Nat) (f:Str) (F:Fn),S.cs[j]?=some f→G.fs[j]?=some F→∃ a fd ps,FnOk C.prog C.w C.K C.mg C.base (L2.CX C.prog C.w) G.lv a fd ps (gC G.Y G.mg F)∧C.mg f=some (.ref a)∧PySem.W.keepIn C.K (.ref a)=true∧Binds C.K fd ps []
 blt:∀ n∈blts,C.mg n=none
 gns:∀ (j:Nat) (x:Str) (d:D),S.gn[j]?=some x→G.gs[j]?=some d→∃ v u,C.mg x=some u∧RelV v u∧∀ pn F,Rp ⟨C.prog,C.w,C.K,pn⟩ F d v
 exs:∀ x∈S.en,ym C.K C.mg x
 hns:∀ x∈S.hn,∃ c,C.mg x=some c
 ms:∀ (x y:Str) (b:Bool) (c d:Value),G.ms x y=some b→C.mg x=some c→C.mg y=some d→PySem.W.exmOne C.K c d=some b
 fl:∀ c f,(c,f)∈S.fl→L2.Cls C.K (He.ga C.K c)∧L2.NoAttr C.K (He.ga C.K c) f
 mt:S.hot=false→∀ j c m F,(j,c,m)∈S.mt→G.fs[j]?=some F→∃ a fd ps,FnOk C.prog C.w C.K C.mg C.base (L2.CX C.prog C.w) G.lv a fd ps (gC G.Y G.mg F)∧L2.Cls C.K (He.ga C.K c)∧L2.Meth C.K (He.ga C.K c) m a∧Binds C.K fd ps []
 mks:S.hot=false→∀ j c F,(j,c)∈S.mks→G.fs[j]?=some F→∃ k a fd ps,k+1≤G.lv∧FnOk C.prog C.w C.K C.mg C.base (L2.CX C.prog C.w) k a fd ps (gC G.Y G.mg F)∧L2.Mk C.K (He.ga C.K c) a∧C.mg c=some (.ref (He.ga C.K c))∧Binds C.K fd ps []
 px:∀ a nm,G.Y.pn a=some nm→∃ oe,(a,oe)∈C.pn∧EA C.mg nm oe
 px0:S.hot=false→G.Y.pn=jR
 rmh:L2H.RoomH G.lv C.A
 xs:∀ j c F,(j,c)∈S.xs→G.fs[j]?=some F→F=vB G.ms c
 hx:∀ j f F,j∈S.hx→S.cs[j]?=some f→G.fs[j]?=some F→∃ a fd ps,FnX C.prog C.w C.K C.mg C.base G.lv a fd ps F∧C.mg f=some (.ref a)∧PySem.W.keepIn C.K (.ref a)=true∧Binds C.K fd ps []
 xi:S.xs≠[]→Ej C.K C.mg G.ms
 isc:∀ c,c∈S.ic→C8.InsC C.K (He.ga C.K c)∧C.mg c=some (.ref (He.ga C.K c))
section
variable {C:Cx} {S:Sc} {G:Gn} {W:WX}
theorem Gd.gl (B:Gd C S G W) {x:Str} (h:dc S.sc x=true):Gl C x:=by
 show C.env.scope.names.lookup x=_
 rw [B.sc]
 exact yk h
theorem Gd.vis (B:Gd C S G W) {x:Str} (h:gQ S.sc x=true):Vis C.env.scope x:=by
 rw [B.sc]
 exact tA h
theorem Gd.hu (B:Gd C S G W):C.A.units+64 < cLine:=by have:=B.un; omega
theorem Gd.calm (B:Gd C S G W) (h:S.hot=false):C.calm=true:=(B.cool h).1
theorem Gd.room (B:Gd C S G W) (h:S.hot=false):Room G.lv C.A:=(B.cool h).2
theorem Gd.hY (B:Gd C S G W):G.Y.P=C.prog∧G.Y.w=C.w:=by rw [B.Y]; exact ⟨rfl,rfl⟩
theorem Gd.hK (B:Gd C S G W):G.Y.K=C.K:=by rw [B.Y]
end
def xG:R2:=fun x y H Q=>∃ z k,x=.str z∧y=.int k∧-(2 ^ 63)≤k∧k < 2 ^ 63∧z.length*k.toNat≤sizeLine∧Q (.str (mG z k.toNat)) H
theorem qz (a:Array Nat):∀ (n:Nat) (b:Array Nat),((List.replicate n a).foldl (·++·) b).toList=b.toList++(List.replicate n a.toList).flatten
 | 0,b=>by simp
 | n+1,b=>by
  rw [bv,List.foldl_cons,qz a n (b++a),bv,List.flatten_cons,Array.toList_append,aK]
theorem vN {C:Cx}:OpR C (binaryOp .Mult) xG:=by
 intro pins s σ H x y v u Q I rx ry h
 obtain ⟨z,k,rfl,rfl,h1,h2,hz,q⟩:=h
 obtain ⟨t,rfl⟩:=rx
 obtain ⟨t',rfl⟩:=ry
 have big:sizeLine=16777216:=by symm
 have c0:(decide (k < -(2 ^ 63)) || decide (k ≥ 2 ^ 63))=false:=by
  rw [aE (by omega),aE (by omega)] <;> rfl
 refine P.mul_str c0 (fun h3 _ h5=>?_) (fun h3 h4=>?_) ?_
 ·have e:((k.toNat:Nat):Int)=k:=by omega
  have h6:(z.length:Int)*k≤16777216:=by
   rw [← e,← Int.natCast_mul]
   omega
  have:(z.length:Int)≤(2 ^ 63 - 1) / k:=Int.le_ediv_of_mul_le (by omega) (by omega)
  omega
 ·unfold Builtin.Str.tooLong
  exact aE (by omega)
 ·by_cases h3:k < 1
  ·rw [aj h3]
   have e:mG z k.toNat=Str.empty:=by rw [show k.toNat=0 by omega]; rfl
   rw [e] at q
   exact ⟨by decide,⟨.str Str.empty,H,I.tok _,⟨_,rfl⟩,q⟩⟩
  ·rw [aq h3]
   by_cases h4:(k == 1 || z.length == 0)=true
   ·rw [aj h4]
    have e:mG z k.toNat=z:=by
     refine TL.ext_tl ?_
     show (List.replicate k.toNat z.cps.toList).flatten=z.cps.toList
     rw [bI,bY,bY] at h4
     rcases h4 with h4 | h4
     ·rw [h4]; simp
     ·have:z.cps.toList=[]:=bh (by rw [← h4]; exact bf)
      rw [this]
      simp
    rw [e] at q
    exact ⟨.str z,H,I.tok _,⟨_,rfl⟩,q⟩
   ·rw [aq h4]
    have e:(⟨(List.replicate k.toNat z.cps).foldl (·++·) #[]⟩:Str)=mG z k.toNat:=by
     refine TL.ext_tl ?_
     show ((List.replicate k.toNat z.cps).foldl (·++·) #[]).toList=(List.replicate k.toNat z.cps.toList).flatten
     rw [qz]
     rfl
    rw [e]
    refine ⟨?_,⟨.str (mG z k.toNat),H,I.tok _,⟨_,rfl⟩,q⟩⟩
    show (mG z k.toNat).length≤_
    have:(mG z k.toNat).length=z.length*k.toNat:=by
     show (List.replicate k.toNat z.cps.toList).flatten.toArray.size=_
     rw [aN,PyProof.Rows.lm_len_rep_flat]
     first
     | rfl
     | (rw [Nat.mul_comm]; rfl)
    omega
section
variable {G:Gm} {W:WX} {g g':Gh} {σ:L2.St} {H H':Hp} {l:Lc} {s s':cj} {Q:VK} {d e:D} {v w:V}

mutual
theorem Rp.dp {Y:Wd} {F:Fr} {H:Hp} (hF:Same F.h H):∀ {d:D} {v:V},d.seq=true→Rp Y F d v→Dp Y.K H v d.py
 | _,_,_,.non=>.non
 | _,_,_,.bl b=>.bl b
 | _,_,_,.int i=>.int i
 | _,_,_,.str x=>.str x
 | _,_,h,.tup e r=>.tup (e.mono hF).sq (Rps.dp hF h r)
 | _,_,h,.lst e r=>.lst (.inl (.inl (hF _ _ e))) (Rps.dp hF h r)
 | _,_,h,.arr e r=>by cases h
 | _,_,h,.dk e r=>by cases h
 | _,_,h,.dt e o r=>by cases h
 | _,_,h,.loc e=>by cases h
 | _,_,h,.exc e=>by cases h
 | _,_,h,.fd e r=>by cases h
 | _,_,h,.tb e=>by cases h
theorem Rps.dp {Y:Wd} {F:Fr} {H:Hp} (hF:Same F.h H):∀ {ds:List D} {vs:List V},D.seqs ds=true→Rps Y F ds vs→DpAll Y.K H vs (D.pys ds)
 | _,_,_,.nil=>.nil
 | d :: ds,_,h,.cons a b=>by
  have h':(d.seq && D.seqs ds)=true:=h
  rw [ab] at h'
  exact .cons (Rp.dp hF h'.1 a) (Rps.dp hF h'.2 b)
end

theorem RdV.dp (S:SR G.Y g σ H l s) (q:d.seq=true) (h:RdV G.Y g.F H d v):Dp G.Y.K H v d.py:=by
 rcases h with h | h
 ·exact h.dp S.sF q
 ·cases h with
  | lst h r=>exact .lst (.inl (.inl h)) (r.dp S.sF q)
  | dk h r=>cases q
  | dt h o r=>cases q
theorem RdV.isNon (h:RdV G.Y g.F H d v):decide (v=V.non)=decide (d=D.non):=by
 rcases h with h | h <;> cases h <;> simp
theorem pG (x:D):∀ ds:List D,((D.pys ds).any fun z=>PyData.eqv z x.py)=ds.any fun y=>D.eqv y x
 | []=>rfl
 | d :: ds=>by
  show (PyData.eqv d.py x.py || (D.pys ds).any fun z=>PyData.eqv z x.py)=_
  rw [pG x ds,List.any_cons]
  rfl

def bR (K:PySem.W.Frag):BOp→R2
 | .add=>fun x y H Q=>(∃ i j,x=.int i∧y=.int j∧Q (.int (i+j)) H)∨(∃ i j,x=.str i∧y=.str j∧i.length+j.length≤sizeLine∧Q (.str (i++j)) H)∨xE K x y H Q∨rCat x y H Q
 | .sub=>rI0 fun i j=>.int (i - j)
 | .mul=>fun x y H Q=>(∃ i j,x=.int i∧y=.int j∧CMul i j∧Q (.int (i*j)) H)∨xF K x y H Q∨rRep x y H Q∨xG x y H Q
 | .fdiv=>rI CDiv fun i j=>.int (i / j)
 | .mod=>rI (fun _ j=>0 < j) fun i j=>.int (i % j)
 | .pow=>rI CPow fun i j=>.int (i ^ j.toNat)
theorem Bo {C:Cx} (o:BOp):OpR C (binaryOp o.op) (bR C.K o):=by
 cases o with
 | add=>exact op_add.or (op_add_str.or (op_catX.or op_cat))
 | sub=>exact op_sub
 | mul=>exact op_mul.or (op_repA.or (op_rep.or vN))
 | fdiv=>exact op_fdiv
 | mod=>exact op_mod
 | pow=>exact op_pow
theorem yn (S:SR G.Y g σ H l s) {o:BOp} (h:ValE G W g σ l (BOp.run o d e s) Q) (v1:RdV G.Y g.F H d v) (v2:RdV G.Y g.F H e w):bR G.Y.K o v w H Q:=by
 cases o with
 | add =>
  cases d <;> cases e <;> first | exact h.elim | skip
  ·exact .inl ⟨_,_,v1.int,v2.int,h.frz S (.int _)⟩
  ·rename_i x y
   have h:ValE G W g σ l (if x.length+y.length≤sizeLine then cr (.str (x++y)) s else .no) Q:=h
   split at h
   ·exact .inr (.inl ⟨_,_,v1.str,v2.str,by assumption,h.frz S (.str _)⟩)
   ·exact h.elim
  ·rename_i xs ys
   have h:ValE G W g σ l (if xs.length+ys.length≤sizeLine then cr (.tup (xs++ys)) s else .no) Q:=h
   split at h
   ·rename_i hz
    obtain ⟨a,vs,rfl,fa,ha,ra⟩:=v1.tup S
    obtain ⟨b,ws,rfl,fb,hb,rb⟩:=v2.tup S
    refine .inr (.inr (.inl ⟨a,b,vs,ws,rfl,rfl,ha.sq,hb.sq,by rw [← ra.length,← rb.length]; exact hz,fun z=>?_,fun _ z=>?_,fun _ _=>?_⟩))
    ·subst z
     cases ra
     exact h.frz S (.tup fb rb)
    ·subst z
     cases rb
     rw [aM] at h
     exact h.frz S (.tup fa ra)
    ·exact h.tupN S (ra.append rb)
   ·exact h.elim
  ·rename_i xs ys
   have h:ValE G W g σ l (if xs.length+ys.length≤sizeLine then dW (.lst (xs++ys)) s else .no) Q:=h
   split at h
   ·rename_i hz
    obtain ⟨a,vs,rfl,ha,ra⟩:=v1.lst S
    obtain ⟨b,ws,rfl,hb,rb⟩:=v2.lst S
    exact .inr (.inr (.inr ⟨a,b,vs,ws,rfl,rfl,ha,hb,by rw [← ra.length,← rb.length]; exact hz,fun p hp=>h.lstN S (ra.append rb) hp⟩))
   ·exact h.elim
 | sub =>
  cases d <;> cases e <;> first | exact h.elim | skip
  exact ⟨_,_,v1.int,v2.int,h.frz S (.int _)⟩
 | mul =>
  cases d <;> cases e <;> first | exact h.elim | skip
  ·rename_i i j
   have h:ValE G W g σ l (if (-(2 ^ 64) < i∧i < 2 ^ 64)∨(-(2 ^ 64) < j∧j < 2 ^ 64) then cr (.int (i*j)) s else .no) Q:=h
   split at h
   ·exact .inl ⟨_,_,v1.int,v2.int,by assumption,h.frz S (.int _)⟩
   ·exact h.elim
  ·rename_i z k
   have h:ValE G W g σ l (if -(2 ^ 63)≤k∧k < 2 ^ 63∧z.length*k.toNat≤sizeLine then cr (.str (mG z k.toNat)) s else .no) Q:=h
   split at h
   ·rename_i hz
    exact .inr (.inr (.inr ⟨z,k,v1.str,v2.int,hz.1,hz.2.1,hz.2.2,h.frz S (.str _)⟩))
   ·exact h.elim
  ·rename_i xs k
   have h:ValE G W g σ l (if -(2 ^ 63)≤k∧k < 2 ^ 63∧xs.length*k.toNat≤sizeLine then cr (.tup (List.replicate k.toNat xs).flatten) s else .no) Q:=h
   split at h
   ·rename_i hz
    obtain ⟨a,vs,rfl,fa,ha,ra⟩:=v1.tup S
    refine .inr (.inl ⟨a,k,vs,rfl,v2.int,ha.sq,hz.1,hz.2.1,by rw [← ra.length]; exact hz.2.2,fun z=>?_,fun _ _=>h.tupN S (ra.rep _)⟩)
    have e:(List.replicate k.toNat xs).flatten=xs:=by
     rcases z with z | z
     ·subst z
      cases ra
      simp
     ·subst z
      simp
    rw [e] at h
    exact h.frz S (.tup fa ra)
   ·exact h.elim
  ·rename_i xs k
   have h:ValE G W g σ l (if -(2 ^ 63)≤k∧k < 2 ^ 63∧xs.length*k.toNat≤sizeLine then dW (.lst (List.replicate k.toNat xs).flatten) s else .no) Q:=h
   split at h
   ·rename_i hz
    obtain ⟨a,vs,rfl,ha,ra⟩:=v1.lst S
    exact .inr (.inr (.inl ⟨a,k,vs,rfl,v2.int,ha,hz.1,hz.2.1,by rw [← ra.length]; exact hz.2.2,fun p hp=>h.lstN S (ra.rep _) hp⟩))
   ·exact h.elim
 | fdiv =>
  cases d <;> cases e <;> first | exact h.elim | skip
  rename_i i j
  have h:ValE G W g σ l (if 0 < j∧j < 1073741824 then cr (.int (i / j)) s else .no) Q:=h
  split at h
  ·exact ⟨_,_,v1.int,v2.int,by assumption,h.frz S (.int _)⟩
  ·exact h.elim
 | mod =>
  cases d <;> cases e <;> first | exact h.elim | skip
  rename_i i j
  have h:ValE G W g σ l (if 0 < j then cr (.int (i % j)) s else .no) Q:=h
  split at h
  ·exact ⟨_,_,v1.int,v2.int,by assumption,h.frz S (.int _)⟩
  ·exact h.elim
 | pow =>
  cases d <;> cases e <;> first | exact h.elim | skip
  rename_i i j
  have h:ValE G W g σ l (if 0≤j∧j≤1000000∧i.natAbs < 2 ^ 64 then cr (.int (i ^ j.toNat)) s else .no) Q:=h
  split at h
  ·exact ⟨_,_,v1.int,v2.int,by assumption,h.frz S (.int _)⟩
  ·exact h.elim

def Bp (Y:Wd) (neg:Bool):R2:=fun x y H Q=>∃ F o,gh Y F H y x o∧Q (.bl (if neg then !o.isSome else o.isSome)) H
def cR (Y:Wd):COp→R2
 | .lt=>rI0 fun i j=>.bl (decide (i < j))
 | .le=>rI0 fun i j=>.bl (decide (i≤j))
 | .gt=>rI0 fun i j=>.bl (decide (j < i))
 | .ge=>rI0 fun i j=>.bl (decide (j≤i))
 | .isn=>fun x y H Q=>(y=.non∧Q (.bl (decide (x=.non))) H)∨∃ a b,x=.bl a∧y=.bl b∧Q (.bl (decide (a=b))) H
 | .isnn=>fun x y H Q=>y=.non∧Q (.bl (!decide (x=.non))) H
 | .eq=>rEqD Y.K
 | .ne=>rNeD Y.K
 | .isin=>fun x y H Q=>Bp Y false x y H Q∨(∃ i j,x=.str i∧y=.str j∧Q (.bl (!(Builtin.Str.occurrences j i 0 j.length 1).isEmpty)) H)∨rInD Y.K x y H Q∨rIn Y.K false x y H Q
 | .notin=>fun x y H Q=>Bp Y true x y H Q∨(∃ i j,x=.str i∧y=.str j∧Q (.bl (!(!(Builtin.Str.occurrences j i 0 j.length 1).isEmpty))) H)∨rNotInD Y.K x y H Q∨rIn Y.K true x y H Q
theorem yo {X:Cx}:OpR X (compareOp .Is) (fun x y H Q=>∃ a b,x=.bl a∧y=.bl b∧Q (.bl (decide (a=b))) H):=by
 intro pins s σ H x y v u Q I rx ry h
 obtain ⟨a,b,rfl,rfl,q⟩:=h
 cases rx
 cases ry
 cases a <;> cases b <;> exact wpAny_pure (fin_bl I q rfl)
theorem kj {C:Cx} {Y:Wd} (hu:C.A.units+65 < cLine) {pn:Addr→Option Str} (hY:Y=⟨C.prog,C.w,C.K,pn⟩) (o:COp):OpR C (compareOp o.op) (cR Y o):=by
 subst hY
 cases o with
 | lt=>exact op_lt
 | le=>exact op_le
 | gt=>exact op_gt
 | ge=>exact op_ge
 | isn=>exact op_isN.or yo
 | isnn=>exact op_notN
 | eq=>exact op_eqD (by omega)
 | ne=>exact op_neD (by omega)
 | isin =>
  refine OpR.or ?_ (op_in_str.or ((op_inD hu).or op_in_seq))
  intro pins s σ H x y v u Q I rx ry h
  obtain ⟨F,o,dl,q⟩:=h
  exact Bn (by omega) ⟨⟨rfl,rfl⟩,rfl⟩ I dl ry rx fun s' I'=>⟨.bl o.isSome,H,I',rfl,q⟩
 | notin =>
  refine OpR.or ?_ (op_notin_str.or ((op_notInD hu).or op_notIn_seq))
  intro pins s σ H x y v u Q I rx ry h
  obtain ⟨F,o,dl,q⟩:=h
  exact tq (by omega) ⟨⟨rfl,rfl⟩,rfl⟩ I dl ry rx fun s' I'=>⟨.bl (!o.isSome),H,I',rfl,q⟩
theorem jg {a b:D} (h:D.eqOk a b=true):a.seq=true∧b.seq=true∧SeqAt.shaped a.py=true∧SeqAt.shaped b.py=true:=by
 simp only [D.eqOk,ab] at h
 exact ⟨h.1.1.1,h.1.1.2,h.1.2,h.2⟩
theorem jU:∀ zs:List Str,(zs.map V.str).all flatV=true
 | []=>rfl
 | _ :: r=>by rw [aI,a0,jU r]; rfl
theorem kZ (x:Str):∀ zs:List Str,inV (.str x) (zs.map V.str)=decide (x∈zs)
 | []=>rfl
 | z :: r=>by
  have ih:=kZ x r
  unfold inV at ih ⊢
  rw [aI,List.any_cons,ih]
  by_cases e:x=z
  ·subst e
   simp [eqV]
  ·have e2:¬ z=x:=fun q=>e q.symm
   simp [eqV,e,e2]
theorem kJ {Y:Wd} {F:Fr}:∀ {ds:List D} {vs:List V} {b:Bool},Rps Y F ds vs→ik ds=some b→vs.all flatV=true∧inV .non vs=b
 | [],_,b,.nil,h=>by
  cases h
  exact ⟨rfl,rfl⟩
 | d :: ds,_,b,.cons r1 r2,h=>by
  cases d with
  | non =>
   cases r1
   cases e:ik ds with
   | none =>
    have h:(ik ds).map (fun _=>true)=some b:=h
    rw [e] at h
    cases h
   | some c =>
    have h:(ik ds).map (fun _=>true)=some b:=h
    rw [e] at h
    cases h
    obtain ⟨i1,i2⟩:=kJ r2 e
    exact ⟨by rw [a0,i1]; rfl,rfl⟩
  | int i =>
   cases r1
   obtain ⟨i1,i2⟩:=kJ r2 (show ik ds=some b from h)
   exact ⟨by rw [a0,i1]; rfl,i2⟩
  | str x =>
   cases r1
   obtain ⟨i1,i2⟩:=kJ r2 (show ik ds=some b from h)
   exact ⟨by rw [a0,i1]; rfl,i2⟩
  | _=>cases h
theorem nP (S:SR G.Y g σ H l s) {ys:List D} (hx:D.eqOk d (.lst ys)=true) (v1:RdV G.Y g.F H d v) (v2:RdV G.Y g.F H (.lst ys) w) :
  Dp G.Y.K H v d.py∧Dp G.Y.K H w (.list (D.pys ys))∧SeqAt.shaped d.py=true∧SeqAt.shaped (.list (D.pys ys))=true:=by
 obtain ⟨a,b,c,e⟩:=jg hx
 exact ⟨v1.dp S a,v2.dp S b,c,e⟩
theorem mM (S:SR G.Y g σ H l s) {o:COp} (h:ValE G W g σ l (COp.run o d e s) Q) (v1:RdV G.Y g.F H d v) (v2:RdV G.Y g.F H e w):cR G.Y o v w H Q:=by
 cases o with
 | lt =>
  cases d <;> cases e <;> first | exact h.elim | skip
  exact ⟨_,_,v1.int,v2.int,h.frz S (.bl _)⟩
 | le =>
  cases d <;> cases e <;> first | exact h.elim | skip
  exact ⟨_,_,v1.int,v2.int,h.frz S (.bl _)⟩
 | gt =>
  cases d <;> cases e <;> first | exact h.elim | skip
  exact ⟨_,_,v1.int,v2.int,h.frz S (.bl _)⟩
 | ge =>
  cases d <;> cases e <;> first | exact h.elim | skip
  exact ⟨_,_,v1.int,v2.int,h.frz S (.bl _)⟩
 | isn =>
  cases e <;> first | exact h.elim | skip
  ·have h:ValE G W g σ l (cr (.bl (decide (d=.non))) s) Q:=by cases d <;> exact h
   rw [← v1.isNon] at h
   exact .inl ⟨v2.non,h.frz S (.bl _)⟩
  ·cases d <;> first | exact h.elim | skip
   exact .inr ⟨_,_,v1.bl,v2.bl,h.frz S (.bl _)⟩
 | isnn =>
  cases e <;> first | exact h.elim | skip
  have h:ValE G W g σ l (cr (.bl (!decide (d=.non))) s) Q:=by cases d <;> exact h
  rw [← v1.isNon] at h
  exact ⟨v2.non,h.frz S (.bl _)⟩
 | eq =>
  have h:ValE G W g σ l (if D.eqOk d e then cr (.bl (D.eqv d e)) s else .no) Q:=by cases d <;> cases e <;> exact h
  split at h
  ·rename_i hx
   obtain ⟨a,b,c,f⟩:=jg hx
   exact ⟨d.py,e.py,v1.dp S a,v2.dp S b,c,f,h.frz S (.bl _)⟩
  ·exact h.elim
 | ne =>
  have h:ValE G W g σ l (if D.eqOk d e then cr (.bl (!D.eqv d e)) s else .no) Q:=by cases d <;> cases e <;> exact h
  split at h
  ·rename_i hx
   obtain ⟨a,b,c,f⟩:=jg hx
   exact ⟨d.py,e.py,v1.dp S a,v2.dp S b,c,f,h.frz S (.bl _)⟩
  ·exact h.elim
 | isin =>
  cases e with
  | dic k kvs =>
   have h:ValE G W g σ l (if D.isKey k d then cr (.bl (D.look kvs d).isSome) s else .no) Q:=by cases d <;> exact h
   split at h
   ·rename_i hx
    rcases v2.look S v1 hx with ⟨e1,dl⟩ | ⟨d',v',e1,dl,_⟩
    ·rw [e1] at h
     exact .inl ⟨g.F,_,dl,h.frz S (.bl _)⟩
    ·rw [e1] at h
     exact .inl ⟨g.F,_,dl,h.frz S (.bl _)⟩
   ·exact h.elim
  | str y =>
   cases d <;> first | exact h.elim | skip
   exact .inr (.inl ⟨_,_,v1.str,v2.str,h.frz S (.bl _)⟩)
  | lst ys =>
   have h:ValE G W g σ l (if D.eqOk d (.lst ys) then cr (.bl (ys.any fun y=>D.eqv y d)) s else .no) Q:=by cases d <;> exact h
   split at h
   ·rename_i hx
    obtain ⟨a,b,c,f⟩:=nP S hx v1 v2
    rw [← pG] at h
    exact .inr (.inr (.inl ⟨_,_,a,b,c,f,h.frz S (.bl _)⟩))
   ·exact h.elim
  | tup ys =>
   cases d with
   | non =>
    have h:ValE G W g σ l (match ik ys with | some b=>cr (.bl b) s | none=>.no) Q:=h
    cases es:ik ys with
    | none=>rw [es] at h; exact h.elim
    | some b =>
     rw [es] at h
     obtain ⟨a,vs,rfl,fa,ha,ra⟩:=v2.tup S
     obtain ⟨f1,f2⟩:=kJ ra es
     refine .inr (.inr (.inr ⟨a,_,rfl,.inr ha.sq,by rw [v1.non]; rfl,f1,?_⟩))
     rw [v1.non,f2]
     exact h.frz S (.bl _)
   | str x =>
    have h:ValE G W g σ l (match gc ys with | some zs=>cr (.bl (decide (x∈zs))) s | none=>.no) Q:=h
    cases es:gc ys with
    | none=>rw [es] at h; exact h.elim
    | some zs =>
     rw [es] at h
     obtain ⟨a,vs,rfl,fa,ha,ra⟩:=v2.tup S
     have e2:=gD es
     rw [e2] at ra
     rw [ra.strs] at ha
     refine .inr (.inr (.inr ⟨a,_,rfl,.inr ha.sq,by rw [v1.str]; rfl,jU zs,?_⟩))
     rw [v1.str,kZ]
     exact h.frz S (.bl _)
   | _=>exact h.elim
  | fdc kvs =>
   have h:ValE G W g σ l (if D.isKey false d then cr (.bl ((D.look kvs d).isSome)) s else .no) Q:=by cases d <;> exact h
   split at h
   ·rename_i hx
    rcases v2.lookF S v1 hx with ⟨e1,dl⟩ | ⟨d',v',e1,dl,_⟩
    ·rw [e1] at h
     exact .inl ⟨g.F,_,dl,h.frz S (.bl _)⟩
    ·rw [e1] at h
     exact .inl ⟨g.F,_,dl,h.frz S (.bl _)⟩
   ·exact h.elim
  | cd kvs =>
   cases d <;> first | exact h.elim | skip
   rename_i z
   have h:ValE G W g σ l (cr (.bl ((kvs.lookup z).isSome)) s) Q:=h
   refine .inl ⟨g.F,_,v2.lookC S v1,?_⟩
   rw [Option.isSome_map]
   exact h.frz S (.bl _)
  | _=>cases d <;> exact h.elim
 | notin =>
  cases e with
  | dic k kvs =>
   have h:ValE G W g σ l (if D.isKey k d then cr (.bl (!(D.look kvs d).isSome)) s else .no) Q:=by cases d <;> exact h
   split at h
   ·rename_i hx
    rcases v2.look S v1 hx with ⟨e1,dl⟩ | ⟨d',v',e1,dl,_⟩
    ·rw [e1] at h
     exact .inl ⟨g.F,_,dl,h.frz S (.bl _)⟩
    ·rw [e1] at h
     exact .inl ⟨g.F,_,dl,h.frz S (.bl _)⟩
   ·exact h.elim
  | str y =>
   cases d <;> first | exact h.elim | skip
   exact .inr (.inl ⟨_,_,v1.str,v2.str,h.frz S (.bl _)⟩)
  | lst ys =>
   have h:ValE G W g σ l (if D.eqOk d (.lst ys) then cr (.bl (!ys.any fun y=>D.eqv y d)) s else .no) Q:=by cases d <;> exact h
   split at h
   ·rename_i hx
    obtain ⟨a,b,c,f⟩:=nP S hx v1 v2
    rw [← pG] at h
    exact .inr (.inr (.inl ⟨_,_,a,b,c,f,h.frz S (.bl _)⟩))
   ·exact h.elim
  | tup ys =>
   cases d <;> first | exact h.elim | skip
   rename_i x
   have h:ValE G W g σ l (match gc ys with | some zs=>cr (.bl (!decide (x∈zs))) s | none=>.no) Q:=h
   cases es:gc ys with
   | none=>rw [es] at h; exact h.elim
   | some zs =>
    rw [es] at h
    obtain ⟨a,vs,rfl,fa,ha,ra⟩:=v2.tup S
    have e2:=gD es
    rw [e2] at ra
    rw [ra.strs] at ha
    refine .inr (.inr (.inr ⟨a,_,rfl,.inr ha.sq,by rw [v1.str]; rfl,jU zs,?_⟩))
    rw [v1.str,kZ]
    exact h.frz S (.bl _)
  | fdc kvs =>
   have h:ValE G W g σ l (if D.isKey false d then cr (.bl (!(D.look kvs d).isSome)) s else .no) Q:=by cases d <;> exact h
   split at h
   ·rename_i hx
    rcases v2.lookF S v1 hx with ⟨e1,dl⟩ | ⟨d',v',e1,dl,_⟩
    ·rw [e1] at h
     exact .inl ⟨g.F,_,dl,h.frz S (.bl _)⟩
    ·rw [e1] at h
     exact .inl ⟨g.F,_,dl,h.frz S (.bl _)⟩
   ·exact h.elim
  | cd kvs =>
   cases d <;> first | exact h.elim | skip
   rename_i z
   have h:ValE G W g σ l (cr (.bl (!(kvs.lookup z).isSome)) s) Q:=h
   refine .inl ⟨g.F,_,v2.lookC S v1,?_⟩
   rw [Option.isSome_map]
   exact h.frz S (.bl _)
  | _=>cases d <;> exact h.elim

theorem mN {Y:Wd} {F:Fr} {ds:List D} {vs:List V} {i:Int} {d:D} (r:Rps Y F ds vs) (h:atI ds i=some d):∃ v,atI vs i=some v∧Rp Y F d v:=by
 unfold atI at h ⊢
 rw [← r.length]
 obtain ⟨j,h1,h2⟩:=bc.mp h
 obtain ⟨v,h3,h4⟩:=r.get h2
 exact ⟨v,by rw [h1]; exact h3,h4⟩
def Bq (Y:Wd):R2:=fun x y H Q=>∃ F v,gh Y F H x y (some v)∧Q v H
theorem vO {C:Cx} {Y:Wd} (hu:C.A.units+64 < cLine) {pn:Addr→Option Str} (hY:Y=⟨C.prog,C.w,C.K,pn⟩):IxR C (Bq Y):=by
 subst hY
 intro value slice pins s σ H x y v u Q I rx ry h hs
 obtain ⟨F,z,dl,q⟩:=h
 have hT:=rR (Y:=⟨C.prog,C.w,C.K,pn⟩) I ⟨⟨rfl,rfl⟩,rfl⟩ dl rx
 unfold subscriptTail
 refine wpAny_bind ?_
 rw [getitemInPython_of_ne hT.not_modules]
 refine wpAny_bind (wpAny_specialOf hT PySem.F.slot_dict_getitem.lookup ?_)
 have fin:wpAny (model C.prog C.w) C.A (subscripted slice false v u) (fun r s₃=>wpAny (model C.prog C.w) C.A (letTemporaryGo value v r >>= fun _=>pure r) (EP C pins σ Q) C.xe s₃) C.xe s:=by
  rw [hs]
  exact wpAny_operating (pD (Y:=⟨C.prog,C.w,C.K,pn⟩) hu ⟨⟨rfl,rfl⟩,rfl⟩ I dl rx ry fun w' s' I' rw'=>wpAny_bind (wpAny_letTemporaryGo (wpAny_pure ⟨z,H,I',rw',q⟩)))
 first
  | exact wpAny_pure (wpAny_bind fin)
  | exact wpAny_bind (wpAny_pure (wpAny_bind fin))
  | exact wpAny_bind fin
def iR (Y:Wd):R2:=fun x y H Q=>Bq Y x y H Q∨rIxL Y.K x y H Q∨rIxT Y.K x y H Q∨rIxS x y H Q
theorem xH {C:Cx} {Y:Wd} (hu:C.A.units+64 < cLine) {pn:Addr→Option Str} (hY:Y=⟨C.prog,C.w,C.K,pn⟩):IxR C (iR Y):=by
 have h1:=vO (C:=C) (Y:=Y) hu hY
 subst hY
 exact h1.or (ix_list.or (ix_tup.or ix_str))
theorem tD (S:SR G.Y g σ H l s) (h:ValE G W g σ l (mH d e s) Q) (v1:RdV G.Y g.F H d v) (v2:RdV G.Y g.F H e w):iR G.Y v w H Q:=by
 cases d with
 | dic k kvs =>
  have h:ValE G W g σ l (if D.isKey k e then match D.look kvs e with | some d=>cr d s | none=>.no else .no) Q:=h
  split at h
  ·rename_i hx
   rcases v1.look S v2 hx with ⟨e1,dl⟩ | ⟨d',v',e1,dl,r⟩
   ·rw [e1] at h
    exact h.elim
   ·rw [e1] at h
    exact .inl ⟨g.F,_,dl,h.frz S r⟩
  ·exact h.elim
 | fdc kvs =>
  have h:ValE G W g σ l (if D.isKey false e then match D.look kvs e with | some d=>cr d s | none=>.no else .no) Q:=h
  split at h
  ·rename_i hx
   rcases v1.lookF S v2 hx with ⟨e1,dl⟩ | ⟨d',v',e1,dl,r⟩
   ·rw [e1] at h
    exact h.elim
   ·rw [e1] at h
    exact .inl ⟨g.F,_,dl,h.frz S r⟩
  ·exact h.elim
 | tup xs =>
  cases e <;> first | exact h.elim | skip
  rename_i i
  have h:ValE G W g σ l (match atI xs i with | some d=>cr d s | none=>.no) Q:=h
  obtain ⟨a,vs,rfl,fa,ha,ra⟩:=v1.tup S
  cases e1:atI xs i with
  | none=>rw [e1] at h; exact h.elim
  | some d' =>
   rw [e1] at h
   obtain ⟨v',h1,h2⟩:=mN ra e1
   exact .inr (.inr (.inl ⟨a,vs,i,v',rfl,v2.int,ha.sq,h1,h.frz S h2⟩))
 | lst xs =>
  cases e <;> first | exact h.elim | skip
  rename_i i
  have h:ValE G W g σ l (match atI xs i with | some d=>cr d s | none=>.no) Q:=h
  obtain ⟨a,vs,rfl,ha,ra⟩:=v1.lst S
  cases e1:atI xs i with
  | none=>rw [e1] at h; exact h.elim
  | some d' =>
   rw [e1] at h
   obtain ⟨v',h1,h2⟩:=mN ra e1
   exact .inr (.inl ⟨a,vs,i,v',rfl,v2.int,.inl (.inl ha),h1,h.frz S h2⟩)
 | arr xs =>
  cases e <;> first | exact h.elim | skip
  rename_i i
  have h:ValE G W g σ l (match atI xs i with | some d=>cr d s | none=>.no) Q:=h
  obtain ⟨a,vs,rfl,ha,ra⟩:=v1.arr S
  cases e1:atI xs i with
  | none=>rw [e1] at h; exact h.elim
  | some d' =>
   rw [e1] at h
   obtain ⟨v',h1,h2⟩:=mN ra e1
   exact .inr (.inl ⟨a,vs,i,v',rfl,v2.int,ha,h1,h.frz S h2⟩)
 | str z =>
  cases e <;> first | exact h.elim | skip
  rename_i i
  have h:ValE G W g σ l (if z.length≤sizeLine then match atI z.cps.toList i with | some c=>cr (D.sgn c) s | none=>.no else .no) Q:=h
  split at h
  ·cases e1:atI z.cps.toList i with
   | none=>rw [e1] at h; exact h.elim
   | some c =>
    rw [e1] at h
    exact .inr (.inr (.inr ⟨z,i,c,v1.str,v2.int,by assumption,e1,h.frz S (.str _)⟩))
  ·exact h.elim
 | _=>cases e <;> exact h.elim

def Hq (Y:Wd):V→Option Int→Option Int→Hp→VK→Prop:=fun x lo hi H Q=>Bl Y.K x lo hi H Q∨rSlL Y.K x lo hi H Q∨rSlS x lo hi H Q
theorem yp {C:Cx} {Y:Wd} {pn:Addr→Option Str} (hY:Y=⟨C.prog,C.w,C.K,pn⟩):L2.SlR C (Hq Y):=by
 subst hY
 exact sl_tupX.or (sl_list.or sl_str)
theorem vP (S:SR G.Y g σ H l s) {lo hi:Option Int} (h:ValE G W g σ l (sY d lo hi s) Q) (v1:RdV G.Y g.F H d v):Hq G.Y v lo hi H Q:=by
 cases d with
 | tup xs =>
  have h:ValE G W g σ l (cr (.tup (gK xs lo hi)) s) Q:=h
  obtain ⟨a,vs,rfl,fa,ha,ra⟩:=v1.tup S
  refine .inl ⟨a,vs,rfl,ha.sq,fun z=>?_,fun _=>h.tupN S (ra.cut _ _)⟩
  have e:gK xs lo hi=xs:=by
   unfold gK
   rw [ra.length,z.1,z.2,Nat.sub_zero,List.drop_zero,← ra.length,List.take_length]
  rw [e] at h
  exact h.frz S (.tup fa ra)
 | lst xs =>
  have h:ValE G W g σ l (dW (.lst (gK xs lo hi)) s) Q:=h
  obtain ⟨a,vs,rfl,ha,ra⟩:=v1.lst S
  exact .inr (.inl ⟨a,vs,rfl,.inl (.inl ha),fun p hp=>h.lstN S (ra.cut _ _) hp⟩)
 | str z =>
  have h:ValE G W g σ l (if z.length≤sizeLine then cr (.str ⟨(gK z.cps.toList lo hi).toArray⟩) s else .no) Q:=h
  split at h
  ·refine .inr (.inr ⟨z,v1.str,by assumption,?_⟩)
   have e:cutS z lo hi=⟨(gK z.cps.toList lo hi).toArray⟩:=by
    unfold cutS gK
    rw [show z.length=z.cps.toList.length by simp [Str.length]]
   rw [e]
   exact h.frz S (.str _)
  ·exact h.elim
 | _=>exact h.elim
end
section
variable {prog:Program} {w:World} {A:Around} {E:Value→Shared→Prop} {s:Shared}
theorem nQ {l:Addr} {vs:List Value} {Q:List Value→Shared→Prop} (hl:IsTup s.heap l vs.toArray)
  (h:Q vs { s with heap:=(s.heap.push (seqObj "list" #[] 0)).update s.heap.objs.size (Obj.mapSeq (·++vs.toArray)) }) (hsz:vs.length≤sizeLine) :
  wpAny (model prog w) A (collect (.ref l)) Q E s:=by
 obtain ⟨o,ho,hc,n,hd⟩:=id hl
 unfold collect
 refine wpAny_bind (wpAny_runValue (codeAny_builtin entry_proto_collect' ?_))
 show wpAny _ _ (do again (.builtin "list.__iadd__" ⟨[← newList [],.ref l],[]⟩)) _ _ s
 refine wpAny_bind (wpAny_newList (wpAny_pure ⟨Code.quiet_builtin _ (by symm),codeAny_builtin entry_list_iadd' ?_⟩))
 show wpAny _ _ (Builtin.List.listExtendWith (.ref s.heap.objs.size) (.ref l) (.ref s.heap.objs.size)) _ _ { s with heap:=s.heap.push (seqObj "list" #[] 0) }
 unfold Builtin.List.listExtendWith
 have ho':(s.heap.push (seqObj "list" #[] 0)).get? l=some o:=Heap.get?_push_of_some _ ho
 refine wpAny_bind (wpAny_typeOf (T:="tuple") ⟨o,ho',hc⟩ ?_)
 have ht:(Value.type "tuple" == Value.type "tuple")=true:=by rfl
 rw [aj (by rw [ht]; simp)]
 refine wpAny_bind (listItems_at ho' hd ?_)
 refine wpAny_bind (listItems_at (xs:=#[]) (n:=0) (Heap.get?_push_size _ rfl) rfl ?_)
 rw [aq (by simp)]
 refine wpAny_bind (listUpdate_at (xs:=#[]) (n:=0) (Heap.get?_push_size _ rfl) rfl ?_ (aW _) (by show (#[]++vs.toArray).size≤sizeLine+1; simp only [Array.size_append,aN,bJ]; omega))
 refine wpAny_pure ?_
 show wpAny (model prog w) A (do
   let o ← load s.heap.objs.size
   match o.data with
   | .seq xs _=>pure xs.toList
   | _=>unsupported "internal:collect") Q E { s with heap:=(s.heap.push (seqObj "list" #[] 0)).update s.heap.objs.size (Obj.mapSeq (·++vs.toArray)) }
 refine wpAny_bind (wpAny_load (get?_update_seq (Heap.get?_push_size _ rfl) _) ?_)
 show wpAny _ _ (pure ((#[]:Array Value)++vs.toArray).toList) Q E _
 rw [show ((#[]:Array Value)++vs.toArray).toList=vs by simp]
 exact wpAny_pure h
theorem nR {l:Addr} {vs:List Value} {ltv:Value→Value→Bool} {Q:Value→Shared→Prop} (O:SrtO.Swo ltv) (hl:IsTup s.heap l vs.toArray) (hz:vs.length≤sizeLine)
  (hS:2≤vs.length→∀ (h₁:Heap) (a:Addr),h₁.get? a=some (seqObj "list" vs.toArray 0)→(∀ b o,s.heap.get? b=some o→b≠a∧h₁.get? b=some o)→SrtO.SortableO prog w A.in1.in1 { s with heap:=h₁ } a vs ltv)
  (h:∀ out:List Value,SrtO.Srtd ltv out→SrtO.Stb ltv out vs→Q (.ref (s.heap.objs.size+1)) { s with heap:=sortedAll s.heap vs out.toArray }) :
  wpAny (model prog w) A (call (.builtin "sorted") [.ref l]) Q E s:=by
 refine Calls.call_function_entry kind_sorted plain_sorted entry_sorted (args_sorted1 _) ?_
 unfold Builtin.«sorted»
 refine wpAny_bind (m:=checkCount "sorted" 1 1 _) (wpAny_pure ?_)
 refine wpAny_bind (nQ hl ?_ hz)
 refine wpAny_bind (wpAny_newList ?_ hz)
 have hsz:((s.heap.push (seqObj "list" #[] 0)).update s.heap.objs.size (Obj.mapSeq (·++vs.toArray))).objs.size=s.heap.objs.size+1:=by
  rw [Heap.size_update]
  exact Heap.size_push _ _
 have hoL:(((s.heap.push (seqObj "list" #[] 0)).update s.heap.objs.size (Obj.mapSeq (·++vs.toArray))).push (seqObj "list" vs.toArray 0)).get? (s.heap.objs.size+1)=some (seqObj "list" vs.toArray 0):=by
  rw [← hsz]; exact Heap.get?_push_size _ rfl
 have keep:∀ b o,s.heap.get? b=some o→b≠s.heap.objs.size+1∧(((s.heap.push (seqObj "list" #[] 0)).update s.heap.objs.size (Obj.mapSeq (·++vs.toArray))).push (seqObj "list" vs.toArray 0)).get? b=some o:=fun b o q=>by
  have hlt:b < s.heap.objs.size:=Heap.lt_size q
  refine ⟨aX (bC hlt),Heap.get?_push_of_some _ ?_⟩
  rw [Heap.get?_update_ne _ _ _ _ (aX hlt)]
  exact Heap.get?_push_of_some _ q
 show wpAny _ _ _ _ _ { s with heap:=((s.heap.push (seqObj "list" #[] 0)).update s.heap.objs.size (Obj.mapSeq (·++vs.toArray))).push (seqObj "list" vs.toArray 0) }
 rw [hsz]
 refine wpAny_bind (wpAny_holding (wpAny_call_entry slot_list_sort ⟨_,hoL,rfl⟩ entry_list_sort (SrtO.list_sort_ord O hoL hz (fun h2=>hS h2 _ _ hoL keep) fun out hs hb=>⟨_,rfl,?_⟩) (args_list_sort _)))
 exact wpAny_pure ⟨_,rfl,h out hs hb⟩
end
def nT (K:PySem.W.Frag):List V→Hp→VK→Prop:=fun vs H Q=>∃ (a:Addr) (ns:List Int),vs=[V.ref a]∧SqT K H a (ns.map V.int) ∧
 ∀ (ns':List Int) (p:Addr),ns'.Perm ns→ns'.Pairwise (·≤·)→H p=none→Q (.ref p) (upd H p (.lst (ns'.map V.int)))
theorem cr_sortedT {C:Cx}:CallR C (.builtin "sorted") (nT C.K):=by
 intro pins s σ H vs us Q I r h
 obtain ⟨a,ns,rfl,hs,q⟩:=h
 obtain ⟨its,rv,hl,hz⟩:=I.tuple hs
 rw [Vals.ref1 r]
 have hi:=rv.ints
 refine nR SrtO.swo_int hl (by rw [← rv.length]; exact hz) (fun h2 h₁ a' _ _=>SrtO.ints_sortable hi h2) fun out h1 h2=>?_
 obtain ⟨k1,k2,k3⟩:=SrtO.ints_out hi h1 h2
 obtain ⟨ep,he'⟩:=PyProof.Rows.sortedAll_at s.heap its out.toArray
 have hlen:((out.map SrtO.iv).map V.int).length≤sizeLine:=by
  rw [ac,k2.length_eq]
  rw [ac] at hz
  exact hz
 exact ⟨.ref _,upd H (s.heap.objs.size+1) (.lst ((out.map SrtO.iv).map V.int)),I.laid (t':=s.toks) (fun _ _=>PyProof.Rows.sortedAll_old) (Nat.le_succ _) ⟨hlen,out,ep,vals_of_ints k1,he'⟩,rfl,q _ _ k2 k3 (I.hok.fresh (Nat.le_succ _))⟩
theorem k4 (ns:List Int) (ms:List Int) (p:ms.Perm ns) (w:ms.Pairwise (·≤·)):ms=ns.mergeSort fun a b=>decide (a≤b):=by
 refine PySem.W.ksm_same (p.trans (bQ ns _).symm) w ?_
 have:=bH (le:=fun a b:Int=>decide (a≤b)) (fun a b c h1 h2=>by simp only [af] at *; omega) (fun a b=>by simp only [bI,af]; omega) ns
 exact this.imp fun h=>by simpa using h
theorem rT {C:Cx} {Y:Wd} {pn:Addr→Option Str} (hY:Y=⟨C.prog,C.w,C.K,pn⟩):CallR C (.builtin "len") (fun xs H Q=>∃ F a ob ps zs,xs=[V.ref a]∧H a=some (kU a ob)∧DtO Y a ob zs∧Rpt Y F ps zs∧Same F.h H∧Q (.int ps.length) H):=by
 subst hY
 intro pins s σ H xs us Q I r h
 obtain ⟨F,a,ob,ps,zs,rfl,ha,w,rp,hF,q⟩:=h
 obtain ⟨u,rfl,ru⟩:=vals1 r
 cases ru
 have hd:=gN (Y:=⟨C.prog,C.w,C.K,pn⟩) I hF ⟨rfl,rfl⟩ ha w rp
 have hn:(pairsH zs).length=ps.length:=by rw [pairsH_length,rp.length]
 have hz:zs.length≤sizeLine:=w.sz
 have hl:=rp.length
 refine PyProof.Rows.call_len_slot (n:=((pairsH zs).length:Nat)) hd.typeIs PySem.F.slot_dict_len (fun Q' hq=>len_keyed w.nm (kW hd) hq) (by omega) (by rw [sizeLine_eq] at hz; rw [hn]; omega) ?_
 rw [hn]
 exact ⟨.int ps.length,H,I.tok _,⟨_,rfl⟩,q⟩

def xI (K:PySem.W.Frag):List V→Hp→VK→Prop:=fun vs H Q=>∃ (a:Addr) (ns:List Int),vs=[V.ref a]∧SqT K H a (ns.map V.int)∧0 < ns.length∧∀ m,m∈ns→(∀ y,y∈ns→y≤m)→Q (.int m) H
def xJ (K:PySem.W.Frag):List V→Hp→VK→Prop:=fun vs H Q=>∃ (a:Addr) (ns:List Int),vs=[V.ref a]∧SqT K H a (ns.map V.int)∧0 < ns.length∧∀ m,m∈ns→(∀ y,y∈ns→m≤y)→Q (.int m) H
theorem jV:∀ (xs:List Int) (x:Int),PySem.W.maxOf x xs∈x :: xs∧∀ y∈x :: xs,y≤PySem.W.maxOf x xs
 | [],x=>⟨ah.mpr rfl,fun y hy=>by rw [ah.mp hy]; exact Int.le_refl _⟩
 | z :: zs,x=>by
  have e:PySem.W.maxOf x (z :: zs)=PySem.W.maxOf (if decide (x < z)=true then z else x) zs:=rfl
  rw [e]
  have hb:((if decide (x < z)=true then z else x)=z∧x < z)∨((if decide (x < z)=true then z else x)=x∧¬ x < z):=by
   by_cases c:x < z
   ·exact .inl ⟨aj (aF c),c⟩
   ·exact .inr ⟨aq (fun q=>c (bg q)),c⟩
  rcases hb with ⟨hb,c⟩ | ⟨hb,c⟩
  ·rw [hb]
   obtain ⟨h1,h2⟩:=jV zs z
   have h3:=h2 z ap
   refine ⟨av _ h1,fun y hy=>?_⟩
   rcases aB.mp hy with rfl | hy
   ·omega
   ·exact h2 y hy
  ·rw [hb]
   obtain ⟨h1,h2⟩:=jV zs x
   have h3:=h2 x ap
   refine ⟨?_,fun y hy=>?_⟩
   ·rcases aB.mp h1 with h | h
    ·rw [h]; exact ap
    ·exact av _ (av _ h)
   ·rcases aB.mp hy with rfl | hy
    ·exact h3
    ·rcases aB.mp hy with rfl | hy
     ·omega
     ·exact h2 y (av _ hy)
theorem jW:∀ (xs:List Int) (x:Int),PySem.W.minOf x xs∈x :: xs∧∀ y∈x :: xs,PySem.W.minOf x xs≤y
 | [],x=>⟨ah.mpr rfl,fun y hy=>by rw [ah.mp hy]; exact Int.le_refl _⟩
 | z :: zs,x=>by
  have e:PySem.W.minOf x (z :: zs)=PySem.W.minOf (if decide (z < x)=true then z else x) zs:=rfl
  rw [e]
  have hb:((if decide (z < x)=true then z else x)=z∧z < x)∨((if decide (z < x)=true then z else x)=x∧¬ z < x):=by
   by_cases c:z < x
   ·exact .inl ⟨aj (aF c),c⟩
   ·exact .inr ⟨aq (fun q=>c (bg q)),c⟩
  rcases hb with ⟨hb,c⟩ | ⟨hb,c⟩
  ·rw [hb]
   obtain ⟨h1,h2⟩:=jW zs z
   have h3:=h2 z ap
   refine ⟨av _ h1,fun y hy=>?_⟩
   rcases aB.mp hy with rfl | hy
   ·omega
   ·exact h2 y hy
  ·rw [hb]
   obtain ⟨h1,h2⟩:=jW zs x
   have h3:=h2 x ap
   refine ⟨?_,fun y hy=>?_⟩
   ·rcases aB.mp h1 with h | h
    ·rw [h]; exact ap
    ·exact av _ (av _ h)
   ·rcases aB.mp hy with rfl | hy
    ·exact h3
    ·rcases aB.mp hy with rfl | hy
     ·omega
     ·exact h2 y (av _ hy)
theorem jc {h:Heap} {v:Value} {x:Int} (H:PySem.W.Holds h v x):∃ t,v=.int x t:=by
 obtain ⟨as,r⟩:=H
 cases r
 exact ⟨_,rfl⟩
theorem vQ {X:Cx} (hc:X.calm=true) (hu:X.A.units+64 < cLine):CallR X (.builtin "max") (xI X.K):=by
 intro pins s σ H vs us Q I r h
 obtain ⟨a,ns,rfl,hs,hne,q⟩:=h
 obtain ⟨its,rv,hl,_⟩:=I.tuple hs
 rw [Vals.ref1 r]
 cases ns with
 | nil=>exact absurd hne (bU 0)
 | cons n ns =>
  obtain ⟨h1,h2⟩:=jV ns n
  refine PySem.W.max_tuple_datum (I.ok.hd hc) hl (PySem.W.HoldAll.of_ints (by simpa using rv.ints)) (by show X.A.units+1+0 < cLine; omega) fun i v h' tk _ hv hk=>?_
  obtain ⟨t,rfl⟩:=jc hv
  exact ⟨.int _,H,I.kept hk,⟨_,rfl⟩,q _ h1 h2⟩
theorem vR {X:Cx} (hc:X.calm=true) (hu:X.A.units+64 < cLine):CallR X (.builtin "min") (xJ X.K):=by
 intro pins s σ H vs us Q I r h
 obtain ⟨a,ns,rfl,hs,hne,q⟩:=h
 obtain ⟨its,rv,hl,_⟩:=I.tuple hs
 rw [Vals.ref1 r]
 cases ns with
 | nil=>exact absurd hne (bU 0)
 | cons n ns =>
  obtain ⟨h1,h2⟩:=jW ns n
  refine PySem.W.min_tuple_datum (I.ok.hd hc) hl (PySem.W.HoldAll.of_ints (by simpa using rv.ints)) (by show X.A.units+1+0 < cLine; omega) fun i v h' tk _ hv hk=>?_
  obtain ⟨t,rfl⟩:=jc hv
  exact ⟨.int _,H,I.kept hk,⟨_,rfl⟩,q _ h1 h2⟩

def BI.val:BI→Value
 | .len=>.builtin "len" | .abs=>.builtin "abs" | .max2=>.builtin "max" | .min2=>.builtin "min" | .maxl=>.builtin "max" | .minl=>.builtin "min" | .all=>.builtin "all" | .any=>.builtin "any" | .sum=>.builtin "sum"
 | .sorted=>.builtin "sorted" | .tuple=>.type "tuple" | .list=>.type "list" | .dict=>.type "dict" | .str=>.type "str" | .int=>.type "int"
theorem BI.boot (f:BI):bootBuiltins f.nm=some f.val:=by cases f <;> symm
theorem BI.nmOk (f:BI):f.nm≠"__name__"∧(f.nm == ("__debug__":Str))=false∧f.nm∈blts:=by cases f <;> symm

def rV:List V→Hp→VK→Prop:=fun us H Q =>
 ∃ (b:Addr) (ps:List (Key × V)) (zs:List Str),us=[V.ref b]∧Rd H b (.dK ps)∧ps.map (fun p=>p.1)=zs.map (fun z=>Sum.inr z)∧zs.length < 64 ∧
  ∀ (ws:List Str) (c:Addr),ws.Perm zs→sortedS ws=true→H c=none→Q (V.ref c) (upd H c (HO.lst (ws.map fun z=>V.str z)))
theorem Rpk.keysS {Y:Wd} {F:Fr}:∀ {ps:List (D × D)} {kvs:List (Key × V)} {ks:List Str},Rpk Y F ps kvs→jd ps=some ks→kvs.map (fun p=>p.1)=ks.map (fun z=>Sum.inr z)
 | _,_,_,.nil,e=>by cases e; rfl
 | _,_,_,@Rpk.cons _ _ k d ps q v kvs hk hv r,e=>by
  cases k with
  | str k =>
   have e:(jd ps).map (k :: ·)=some _:=e
   rw [aA] at e
   obtain ⟨zs,e1,e2⟩:=e
   subst e2
   cases (ad hk)
   rw [aI,aI,Rpk.keysS r e1]
  | _=>cases e
theorem Rps.ofStrs {Y:Wd} {F:Fr}:∀ zs:List Str,Rps Y F (zs.map D.str) (zs.map fun z=>V.str z)
 | []=>.nil
 | z :: zs=>.cons (.str z) (Rps.ofStrs zs)

def mc:List V→Hp→VK→Prop:=fun us H Q =>
 ∃ (b:Addr) (ps:List (Key × V)) (ns:List Int),us=[V.ref b]∧Rd H b (.dK ps)∧ps.map (fun p=>p.1)=ns.map (fun z=>Sum.inl z) ∧
  ∀ (ws:List Int) (c:Addr),ws.Perm ns→ws.Pairwise (·≤·)→H c=none→Q (V.ref c) (upd H c (HO.lst (ws.map V.int)))
theorem nU {C:Cx} (hcalm:C.calm=true):CallR C (.builtin "sorted") mc:=by
 intro pins s σ H xs us Q I r q
 obtain ⟨a,kvs,ks,ex,hd,hks,q⟩:=q
 subst ex
 obtain ⟨u,eu,rx⟩:=vals1 r
 subst eu
 cases rx
 obtain ⟨z,lo,vs,rel,dd⟩:=dk_rd I.hok hd
 obtain ⟨ep,hat⟩:=dd.dictAt
 have hkeys:vs.map (fun p=>p.1)=ks.map (fun z=>Sum.inl z):=rel.keys.symm.trans hks
 have hl:vs.length=ks.length:=by
  have e:=bD List.length hkeys
  rw [ac,ac] at e
  exact e
 have h16:vs.length≤sizeLine:=by rw [← rel.length]; exact z
 refine Calls.call_function_entry PyProof.Rows.kind_sorted PyProof.Rows.plain_sorted PyProof.Rows.entry_sorted (PyProof.Rows.args_sorted1 _) ?_
 unfold Builtin.«sorted»
 refine wpAny_bind (m:=checkCount "sorted" 1 1 _) (wpAny_pure ?_)
 refine wpAny_bind (PySem.W.kdu_collect (A:=C.A.in1) (PySem.W.kdl_dict (knd:=mixKind C.prog C.w) (kvs:=vs) (ep:=ep) lo) (I.ok.hd hcalm) hat h16 fun h' tk acc hk hacc=>?_)
 have hal:acc.toList.length=ks.length:=by rw [bf,hacc.1,hl]
 have hS:IntsAre acc.toList ks:=ints_each hal fun j v e=>by
  obtain ⟨k,x,e1,e2⟩:=hacc.2 j v (by rw [← Array.getElem?_toList]; exact e)
  have e3:(vs.map (fun p=>p.1))[j]?=some k:=by rw [aD,e1]; rfl
  rw [hkeys,aD] at e3
  cases e4:ks[j]? with
  | none=>rw [e4] at e3; cases e3
  | some y =>
   rw [e4] at e3
   have e5:Sum.inl y=k:=ad e3
   subst e5
   rcases keyIs_shape (show keyIs (Sum.inl y) v=true from e2) with ⟨i,t,ek,ev⟩ | ⟨z,t,ek,ev⟩
   ·cases ek
    exact ⟨y,t,rfl,ev⟩
   ·cases ek
 have I1:Inv C pins σ H { s with heap:=h',toks:=tk }:=I.kept hk
 have few:acc.toList.length≤sizeLine:=by rw [hal,← hl]; exact h16
 refine wpAny_bind (wpAny_newList ?_ few)
 have hoL:(h'.push (seqObj "list" acc.toList.toArray 0)).get? h'.objs.size=some (seqObj "list" acc.toList.toArray 0):=Heap.get?_push_size _ rfl
 show wpAny _ _ _ _ _ { s with heap:=h'.push (seqObj "list" acc.toList.toArray 0),toks:=tk }
 refine wpAny_bind (wpAny_holding (wpAny_call_entry PyProof.Rows.slot_list_sort ⟨_,hoL,rfl⟩ PyProof.Rows.entry_list_sort (SrtO.list_sort_ord SrtO.swo_int hoL few (fun h2=>SrtO.ints_sortable hS h2) fun out h1 h2=>⟨_,rfl,?_⟩) (PyProof.Rows.args_list_sort _)))
 obtain ⟨q1,q2,q3⟩:=SrtO.ints_out hS h1 h2
 obtain ⟨e',he'⟩:=PyProof.Rows.sortedHeap_at (vs:=acc.toList) (out:=out.toArray) hoL
 have hlen:((out.map SrtO.iv).map V.int).length≤sizeLine:=by
  rw [ac,q2.length_eq,← hl]
  exact h16
 refine wpAny_pure ⟨_,rfl,.ref h'.objs.size,upd H h'.objs.size (.lst ((out.map SrtO.iv).map V.int)),I1.laid (t':=tk) (fun b u e=>?_) (ax _)
  (show ObjOk C.prog C.w _ _ _ (.lst ((out.map SrtO.iv).map V.int)) from ⟨hlen,out,e',vals_of_ints q1,he'⟩),rfl,q _ _ q2 q3 (I1.hok.fresh (ax _))⟩
 have hb:b < h'.objs.size:=Heap.lt_size e
 rw [PyProof.Rows.sortedHeap_old (aX hb) (by rw [PyProof.Rows.size_push']; exact bC hb)]
 exact Heap.get?_push_of_some _ e
theorem Rpk.keysI {Y:Wd} {F:Fr}:∀ {ps:List (D × D)} {kvs:List (Key × V)} {ks:List Int},Rpk Y F ps kvs→cZ (ps.map fun p=>p.1)=some ks→kvs.map (fun p=>p.1)=ks.map (fun z=>Sum.inl z)
 | _,_,_,.nil,e=>by cases e; rfl
 | _,_,_,@Rpk.cons _ _ k d ps q v kvs hk hv r,e=>by
  cases k with
  | int k =>
   have e:(cZ (ps.map fun p=>p.1)).map (k :: ·)=some _:=e
   rw [aA] at e
   obtain ⟨zs,e1,e2⟩:=e
   subst e2
   cases (ad hk)
   rw [aI,aI,Rpk.keysI r e1]
  | _=>cases e
def Hr (Y:Wd):BI→List V→Hp→VK→Prop
 | .len=>fun xs H Q=>(∃ p ys,xs=[.ref p]∧(SqL Y.K H p ys∨SqT Y.K H p ys)∧Q (.int ys.length) H)∨(∃ a kvs,xs=[V.ref a]∧H a=some (.dK kvs)∧Q (.int kvs.length) H) ∨
   (∃ F a ob ps zs,xs=[V.ref a]∧H a=some (kU a ob)∧DtO Y a ob zs∧Rpt Y F ps zs∧Same F.h H∧Q (.int ps.length) H)∨(∃ z,xs=[.str z]∧z.length≤sizeLine∧Q (.int z.length) H)
 | .abs=>fun xs H Q=>∃ i,xs=[.int i]∧Q (.int (if i < 0 then -i else i)) H
 | .max2=>fun xs H Q=>∃ i j,xs=[.int i,.int j]∧Q (.int (if j > i then j else i)) H
 | .min2=>fun xs H Q=>∃ i j,xs=[.int i,.int j]∧Q (.int (if j < i then j else i)) H
 | .maxl=>fun xs H Q=>xI Y.K xs H Q∨rMax Y.K xs H Q
 | .minl=>fun xs H Q=>xJ Y.K xs H Q∨rMin Y.K xs H Q
 | .all=>rAll Y.K
 | .any=>rAny Y.K
 | .sum=>rSum Y.K
 | .sorted=>fun xs H Q=>rSortedI Y.K xs H Q∨nT Y.K xs H Q∨rV xs H Q∨mc xs H Q
 | .tuple=>fun xs H Q=>∃ x,xs=[x]∧xD Y.K x H Q
 | .list=>fun xs H Q=>∃ p ys,xs=[.ref p]∧(SqL Y.K H p ys∨SqT Y.K H p ys)∧∀ l,H l=none→Q (.ref l) (upd H l (.lst ys))
 | .dict=>fun xs H Q=>∃ a kvs,xs=[V.ref a]∧Rd H a (.dK kvs)∧∀ p,H p=none→Q (.ref p) (upd H p (.dK kvs))
 | .str=>fun xs H Q=>(∃ i,xs=[.int i]∧i.natAbs.log2 < 1920∧Q (.str (toString i)) H)∨∃ a,xs=[.str a]∧Q (.str a) H
 | .int=>fun xs H Q=>((∃ i,xs=[.int i]∧Q (.int i) H)∨∃ k,xs=[.bl k]∧Q (.int (if k then 1 else 0)) H)∨∃ a n,xs=[.str a]∧PySem.intText? a=some n∧a.length≤640∧Q (.int n) H
theorem tE {C:Cx} {Y:Wd} {pn:Addr→Option Str} (hY:Y=⟨C.prog,C.w,C.K,pn⟩) (hc:C.calm=true) (hu:C.A.units+64 < cLine) (f:BI):CallR C f.val (Hr Y f):=by
 have hl:=rT (C:=C) (Y:=Y) hY
 subst hY
 cases f with
 | len=>exact call_len_seq.or (call_lenD.or (hl.or call_len_str))
 | abs=>exact call_abs
 | max2=>exact call_max2 hc
 | min2=>exact call_min2 hc
 | maxl=>exact (vQ hc hu).or (cr_max hc)
 | minl=>exact (vR hc hu).or (cr_min hc)
 | all=>exact cr_all hc
 | any=>exact cr_any hc
 | sum=>exact cr_sum hc
 | sorted=>exact cr_sortedI.or (cr_sortedT.or ((call_sortedD hc).or (nU hc)))
 | tuple =>
  intro pins s σ H xs us Q I r h
  obtain ⟨x,rfl,h⟩:=h
  obtain ⟨u,rfl,ru⟩:=vals1 r
  exact vD I ru h
 | list=>exact call_list_of
 | dict =>
  intro pins s σ H xs us Q I r h
  obtain ⟨a,kvs,rfl,ha,q⟩:=h
  obtain ⟨u,rfl,ru⟩:=vals1 r
  cases ru
  exact d_copyOf I ha fun p s' hp I'=>⟨.ref p,_,I',rfl,q p hp⟩
 | str=>exact call_str_int.or SkE.call_str_str
 | int=>exact call_int1.or call_int_str
section
variable {G:Gm} {W:WX} {g g':Gh} {σ:L2.St} {H H':Hp} {l:Lc} {s s':cj} {Q:VK} {d e:D} {v w:V}

def RdVs (Y:Wd) (F:Fr) (H:Hp):List D→List V→Prop
 | [],[]=>True
 | d :: ds,v :: vs=>RdV Y F H d v∧RdVs Y F H ds vs
 | _,_=>False
theorem RdVs.one {Y:Wd} {F:Fr} {H:Hp} {d:D} {vs:List V} (h:RdVs Y F H [d] vs):∃ v,vs=[v]∧RdV Y F H d v:=by
 cases vs with
 | nil=>exact h.elim
 | cons v vs =>
  cases vs with
  | nil=>exact ⟨v,rfl,h.1⟩
  | cons a b=>exact h.2.elim
theorem RdVs.two {Y:Wd} {F:Fr} {H:Hp} {d e:D} {vs:List V} (h:RdVs Y F H [d,e] vs):∃ v w,vs=[v,w]∧RdV Y F H d v∧RdV Y F H e w:=by
 cases vs with
 | nil=>exact h.elim
 | cons v vs =>
  obtain ⟨w,rfl,q⟩:=RdVs.one h.2
  exact ⟨v,w,rfl,h.1,q⟩
theorem km:∀ {n:Int} {ns:List Int} {m:Int},m∈n :: ns→(∀ y,y∈n :: ns→y≤m)→m=dR (n :: ns)
 | n,[],m,h,_=>by
  have:m=n:=by simpa using h
  rw [this]
  rfl
 | n,k :: ns,m,h,u=>by
  show m=max n (dR (k :: ns))
  have hg:∀ {a:Int} {as:List Int},dR (a :: as)∈a :: as∧∀ y∈a :: as,y≤dR (a :: as):=by
   intro a as
   induction as generalizing a with
   | nil=>exact ⟨ah.mpr rfl,fun y hy=>by rw [ah.mp hy]; exact Int.le_refl _⟩
   | cons b bs ih =>
    obtain ⟨i1,i2⟩:=ih (a:=b)
    have e:dR (a :: b :: bs)=max a (dR (b :: bs)):=rfl
    rw [e]
    refine ⟨?_,fun y hy=>?_⟩
    ·rcases Int.max_def a (dR (b :: bs)) with _
     by_cases c:a≤dR (b :: bs)
     ·rw [Int.max_eq_right c]; exact av _ i1
     ·rw [Int.max_eq_left (by omega)]; exact ap
    ·rcases aB.mp hy with rfl | hy
     ·exact Int.le_max_left _ _
     ·exact Int.le_trans (i2 y hy) (Int.le_max_right _ _)
  obtain ⟨g1,g2⟩:=hg (a:=k) (as:=ns)
  have h1:n≤m:=u n ap
  have h2:dR (k :: ns)≤m:=u _ (av _ g1)
  rcases aB.mp h with rfl | h
  ·omega
  ·have:=g2 m h
   omega
theorem nV:∀ {n:Int} {ns:List Int} {m:Int},m∈n :: ns→(∀ y,y∈n :: ns→m≤y)→m=il (n :: ns)
 | n,[],m,h,_=>by
  have:m=n:=by simpa using h
  rw [this]
  rfl
 | n,k :: ns,m,h,u=>by
  show m=min n (il (k :: ns))
  have hg:∀ {a:Int} {as:List Int},il (a :: as)∈a :: as∧∀ y∈a :: as,il (a :: as)≤y:=by
   intro a as
   induction as generalizing a with
   | nil=>exact ⟨ah.mpr rfl,fun y hy=>by rw [ah.mp hy]; exact Int.le_refl _⟩
   | cons b bs ih =>
    obtain ⟨i1,i2⟩:=ih (a:=b)
    have e:il (a :: b :: bs)=min a (il (b :: bs)):=rfl
    rw [e]
    refine ⟨?_,fun y hy=>?_⟩
    ·by_cases c:a≤il (b :: bs)
     ·rw [Int.min_eq_left c]; exact ap
     ·rw [Int.min_eq_right (by omega)]; exact av _ i1
    ·rcases aB.mp hy with rfl | hy
     ·exact Int.min_le_left _ _
     ·exact Int.le_trans (Int.min_le_right _ _) (i2 y hy)
  obtain ⟨g1,g2⟩:=hg (a:=k) (as:=ns)
  have h1:m≤n:=u n ap
  have h2:m≤il (k :: ns):=u _ (av _ g1)
  rcases aB.mp h with rfl | h
  ·omega
  ·have:=g2 m h
   omega
theorem mO {Y:Wd} {ds:List D} (S:SR Y g σ H l s) (h:RdV Y g.F H (.lst ds) v):∃ a vs,v=V.ref a∧SqL Y.K H a vs∧Rps Y g.F ds vs:=by
 obtain ⟨a,vs,e,ha,r⟩:=h.lst S
 exact ⟨a,vs,e,.inl (.inl ha),r⟩
theorem rW {Y:Wd} {ds:List D} (S:SR Y g σ H l s) (h:RdV Y g.F H (.tup ds) v):∃ a vs,v=V.ref a∧SqT Y.K H a vs∧Rps Y g.F ds vs∧TuF g.F.h a vs:=by
 obtain ⟨a,vs,e,fa,ha,r⟩:=h.tup S
 exact ⟨a,vs,e,ha.sq,r,fa⟩
theorem qA (S:SR G.Y g σ H l s) {f:BI} {as:List D} {vs:List V} (h:ValE G W g σ l (BI.run f as s) Q) (v1:RdVs G.Y g.F H as vs):Hr G.Y f vs H Q:=by
 unfold BI.run at h
 split at h <;> first | exact h.elim | skip
 ·obtain ⟨v,rfl,r⟩:=v1.one
  obtain ⟨a,vs,rfl,ha,ra,fa⟩:=rW S r
  rw [ra.length] at h
  exact .inl ⟨a,vs,rfl,.inr ha,h.frz S (.int _)⟩
 ·obtain ⟨v,rfl,r⟩:=v1.one
  obtain ⟨a,vs,rfl,ha,ra⟩:=mO S r
  rw [ra.length] at h
  exact .inl ⟨a,vs,rfl,.inl ha,h.frz S (.int _)⟩
 ·obtain ⟨v,rfl,r⟩:=v1.one
  obtain ⟨a,vs,rfl,ha,ra⟩:=r.arr S
  rw [ra.length] at h
  exact .inl ⟨a,vs,rfl,.inl ha,h.frz S (.int _)⟩
 ·rename_i k xs
  obtain ⟨v,rfl,r⟩:=v1.one
  cases k with
  | false =>
   obtain ⟨a,kvs,rfl,ha,ra⟩:=r.dk S
   rw [ra.length] at h
   exact .inr (.inl ⟨a,kvs,rfl,ha,h.frz S (.int _)⟩)
  | true =>
   obtain ⟨a,ob,zs,rfl,ha,w,ra⟩:=r.dt S
   exact .inr (.inr (.inl ⟨g.F,a,ob,xs,zs,rfl,ha,w,ra,S.sF,h.frz S (.int _)⟩))
 ·obtain ⟨v,rfl,r⟩:=v1.one
  split at h
  ·exact .inr (.inr (.inr ⟨_,by rw [r.str],by assumption,h.frz S (.int _)⟩))
  ·exact h.elim
 ·obtain ⟨v,rfl,r⟩:=v1.one
  exact ⟨_,by rw [r.int],h.frz S (.int _)⟩
 ·obtain ⟨v,w,rfl,r,r2⟩:=v1.two
  exact ⟨_,_,by rw [r.int,r2.int],h.frz S (.int _)⟩
 ·obtain ⟨v,w,rfl,r,r2⟩:=v1.two
  exact ⟨_,_,by rw [r.int,r2.int],h.frz S (.int _)⟩
 ·obtain ⟨v,rfl,r⟩:=v1.one
  obtain ⟨a,vs,rfl,ha,ra,fa⟩:=rW S r
  split at h
  ·rename_i n ns e
   have e2:=di e
   rw [e2] at ra
   rw [ra.ints] at ha
   exact .inl ⟨a,n :: ns,rfl,ha,by simp,fun m hm hb=>by rw [km hm hb]; exact h.frz S (.int _)⟩
  ·exact h.elim
 ·obtain ⟨v,rfl,r⟩:=v1.one
  obtain ⟨a,vs,rfl,ha,ra,fa⟩:=rW S r
  split at h
  ·rename_i n ns e
   have e2:=di e
   rw [e2] at ra
   rw [ra.ints] at ha
   exact .inl ⟨a,n :: ns,rfl,ha,by simp,fun m hm hb=>by rw [nV hm hb]; exact h.frz S (.int _)⟩
  ·exact h.elim
 ·obtain ⟨v,rfl,r⟩:=v1.one
  obtain ⟨a,vs,rfl,ha,ra⟩:=mO S r
  split at h
  ·rename_i n ns e
   have e2:=di e
   rw [e2] at ra
   rw [ra.ints] at ha
   exact .inr ⟨a,n :: ns,rfl,ha,by simp,fun m hm hb=>by rw [km hm hb]; exact h.frz S (.int _)⟩
  ·exact h.elim
 ·obtain ⟨v,rfl,r⟩:=v1.one
  obtain ⟨a,vs,rfl,ha,ra⟩:=mO S r
  split at h
  ·rename_i n ns e
   have e2:=di e
   rw [e2] at ra
   rw [ra.ints] at ha
   exact .inr ⟨a,n :: ns,rfl,ha,by simp,fun m hm hb=>by rw [nV hm hb]; exact h.frz S (.int _)⟩
  ·exact h.elim
 ·obtain ⟨v,rfl,r⟩:=v1.one
  obtain ⟨a,vs,rfl,ha,ra⟩:=mO S r
  split at h
  ·rename_i bs e
   have e2:=hU e
   rw [e2] at ra
   rw [ra.bls] at ha
   exact ⟨a,bs,rfl,ha,h.frz S (.bl _)⟩
  ·exact h.elim
 ·obtain ⟨v,rfl,r⟩:=v1.one
  obtain ⟨a,vs,rfl,ha,ra⟩:=mO S r
  split at h
  ·rename_i bs e
   have e2:=hU e
   rw [e2] at ra
   rw [ra.bls] at ha
   exact ⟨a,bs,rfl,ha,h.frz S (.bl _)⟩
  ·exact h.elim
 ·obtain ⟨v,rfl,r⟩:=v1.one
  obtain ⟨a,vs,rfl,ha,ra⟩:=mO S r
  split at h
  ·rename_i ns e
   have e2:=di e
   rw [e2] at ra
   rw [ra.ints] at ha
   exact ⟨a,ns,rfl,ha,h.frz S (.int _)⟩
  ·exact h.elim
 ·obtain ⟨v,rfl,r⟩:=v1.one
  obtain ⟨a,vs,rfl,ha,ra⟩:=mO S r
  split at h
  ·rename_i ns e
   have e2:=di e
   rw [e2] at ra
   rw [ra.ints] at ha
   exact .inl ⟨a,ns,rfl,ha,fun ms p hp hs hn=>by rw [k4 ns ms hp hs]; exact h.lstN S (Rps.ofInts _) hn⟩
  ·exact h.elim
 ·obtain ⟨v,rfl,r⟩:=v1.one
  obtain ⟨a,vs,rfl,ha,ra,fa⟩:=rW S r
  split at h
  ·rename_i ns e
   have e2:=di e
   rw [e2] at ra
   rw [ra.ints] at ha
   exact .inr (.inl ⟨a,ns,rfl,ha,fun ms p hp hs hn=>by rw [k4 ns ms hp hs]; exact h.lstN S (Rps.ofInts _) hn⟩)
  ·exact h.elim
 ·obtain ⟨v,rfl,r⟩:=v1.one
  obtain ⟨a,kvs,rfl,ha,ra⟩:=r.dk S
  split at h
  ·rename_i ks e
   split at h
   ·rename_i hh
    refine .inr (.inr (.inl ⟨a,kvs,ks,rfl,.inl ha,ra.keysS e,hh.1,fun ys p hp hs hn=>?_⟩))
    have e2:=hh.2.choose_spec ys hp hs
    rw [← e2] at h
    exact h.lstN S (Rps.ofStrs _) hn
   ·exact h.elim
  ·split at h
   ·rename_i ns e
    exact .inr (.inr (.inr ⟨a,kvs,ns,rfl,.inl ha,ra.keysI e,fun ms p hp hs hn=>by rw [k4 ns ms hp hs]; exact h.lstN S (Rps.ofInts _) hn⟩))
   ·exact h.elim
 ·obtain ⟨v,rfl,r⟩:=v1.one
  obtain ⟨a,oo,kvs,rfl,ha,ra⟩:=r.fd S
  split at h
  ·rename_i ks e
   split at h
   ·rename_i hh
    refine .inr (.inr (.inl ⟨a,kvs,ks,rfl,.inr ⟨oo,ha⟩,ra.keysS e,hh.1,fun ys p hp hs hn=>?_⟩))
    have e2:=hh.2.choose_spec ys hp hs
    rw [← e2] at h
    exact h.lstN S (Rps.ofStrs _) hn
   ·exact h.elim
  ·exact h.elim
 ·obtain ⟨v,rfl,r⟩:=v1.one
  obtain ⟨a,vs,rfl,ha,ra⟩:=mO S r
  exact ⟨_,rfl,.inl ⟨a,vs,rfl,ha,h.tupN S ra⟩⟩
 ·obtain ⟨v,rfl,r⟩:=v1.one
  obtain ⟨a,vs,rfl,ha,ra,fa⟩:=rW S r
  exact ⟨_,rfl,.inr ⟨a,vs,rfl,ha,h.frz S (.tup fa ra)⟩⟩
 ·obtain ⟨v,rfl,r⟩:=v1.one
  obtain ⟨a,vs,rfl,ha,ra⟩:=mO S r
  exact ⟨a,vs,rfl,.inl ha,fun p hp=>h.lstN S ra hp⟩
 ·obtain ⟨v,rfl,r⟩:=v1.one
  obtain ⟨a,vs,rfl,ha,ra,fa⟩:=rW S r
  exact ⟨a,vs,rfl,.inr ha,fun p hp=>h.lstN S ra hp⟩
 ·obtain ⟨v,rfl,r⟩:=v1.one
  obtain ⟨a,kvs,rfl,ha,ra⟩:=r.dk S
  exact ⟨a,kvs,rfl,.inl ha,fun p hp=>h.nwo (S.lay hp) (S.newN hp (.dk upd_same ra))⟩
 ·obtain ⟨v,rfl,r⟩:=v1.one
  obtain ⟨a,oo,kvs,rfl,ha,ra⟩:=r.fd S
  exact ⟨a,kvs,rfl,.inr ⟨oo,ha⟩,fun p hp=>h.nwo (S.lay hp) (S.newN hp (.dk upd_same ra))⟩
 ·obtain ⟨v,rfl,r⟩:=v1.one
  split at h
  ·exact .inl ⟨_,by rw [r.int],by assumption,h.frz S (.str _)⟩
  ·exact h.elim
 ·obtain ⟨v,rfl,r⟩:=v1.one
  exact .inr ⟨_,by rw [r.str],h.frz S (.str _)⟩
 ·obtain ⟨v,rfl,r⟩:=v1.one
  exact .inl (.inl ⟨_,by rw [r.int],h.frz S (.int _)⟩)
 ·obtain ⟨v,rfl,r⟩:=v1.one
  exact .inl (.inr ⟨_,by rw [r.bl],h.frz S (.int _)⟩)
 ·obtain ⟨v,rfl,r⟩:=v1.one
  split at h
  ·split at h
   ·exact .inr ⟨_,_,by rw [r.str],by assumption,by assumption,h.frz S (.int _)⟩
   ·exact h.elim
  ·exact h.elim
end
section
variable {G:Gm} {W:WX} {g g':Gh} {σ:L2.St} {H H':Hp} {l:Lc} {s s':cj} {x:X} {Q:VK}
theorem ValR.ext {α:Type} (e:Ext g g') {r:R α} {K:α→Gh→Prop} (h:ValR G W g σ r K):ValR G W g' σ r K:=by
 cases r with
 | ok a=>exact fun g2 e2=>h g2 (e.trans e2)
 | er a b c=>exact fun g2 H' c dd e2=>h g2 H' c dd (e.trans e2)
 | no=>exact h

def KE (G:Gm) (σ:L2.St) (l:Lc) (Q:VK):VT→Gh→Prop:=fun p g'=>∀ v H',SR G.Y g' σ H' l p.2.2→VR G.Y g' σ H' l p.1 p.2.1 v→Q v H'
theorem ValE.toR {r:R VT} (h:ValE G W g σ l r Q):ValR G W g σ r (KE G σ l Q):=by
 cases r with
 | ok a =>
  obtain ⟨d,t,s⟩:=a
  exact fun g' e v H' S r=>h g' v H' e S r
 | er a b c=>exact h
 | no=>exact h
theorem ValE.ofR {r:R VT} (h:ValR G W g σ r (KE G σ l Q)):ValE G W g σ l r Q:=by
 cases r with
 | ok a =>
  obtain ⟨d,t,s⟩:=a
  exact fun g' v H' e S r=>h g' e v H' S r
 | er a b c=>exact h
 | no=>exact h
theorem k5 {α:Type} {k:VT→R α} {K:α→Gh→Prop} (S:SR G.Y g σ H l s) (h:ValR G W g σ ((b9 G.fs G.gs x l s).bind k) K) {Q2:VK}
  (hk:∀ d t s1 g1 v H1,Ext g g1→SR G.Y g1 σ H1 l s1→VR G.Y g1 σ H1 l d t v→ValR G W g1 σ (k (d,t,s1)) K→Q2 v H1):rd G W x σ H Q2:=by
 refine ⟨g,l,s,S,?_⟩
 cases e:b9 G.fs G.gs x l s with
 | ok a =>
  obtain ⟨d,t,s1⟩:=a
  rw [e] at h
  exact fun g1 v H1 e1 S1 v1=>hk d t s1 g1 v H1 e1 S1 v1 (ValR.ext e1 h)
 | er a b c =>
  rw [e] at h
  exact h
 | no =>
  rw [e] at h
  exact h
theorem cS {α:Type} {k:VT→R α} {K:α→Gh→Prop} (S:SR G.Y g σ H l s) (h:ValR G W g σ ((b9 G.fs G.gs x l s).bind k) K) {Q2:VK}
  (hk:∀ d t s1 g1 v H1,Ext g g1→SR G.Y g1 σ H1 l s1→VS G.Y g1 σ l d v→ValR G W g1 σ (k (d,t,s1)) K→Q2 v H1):rd G W x σ H Q2 :=
 k5 S h fun d t s1 g1 v H1 e1 S1 v1 h1=>by
  obtain ⟨g2,e2,S2,q⟩:=VR.stay S1 v1
  exact hk d t s1 g2 v H1 (e1.trans e2) S2 q (ValR.ext e2 h1)
theorem fW {α:Type} {k:D→cj→R α} {K:α→Gh→Prop} (S:SR G.Y g σ H l s) (h:ValR G W g σ (cg (b9 G.fs G.gs x l s) k) K) {Q2:VK}
  (hk:∀ d s1 g1 v H1,Ext g g1→SR G.Y g1 σ H1 l s1→Rp G.Y g1.F d v→ValR G W g1 σ (k d s1) K→Q2 v H1):rd G W x σ H Q2 :=
 k5 S h fun d t s1 g1 v H1 e1 S1 v1 h1=>by
  have h1:ValR G W g1 σ (if (t=.bo∨t=.ow)∧d.still=false then R.no else k d s1) K:=h1
  by_cases c:(t=.bo∨t=.ow)∧d.still=false
  ·rw [aj c] at h1
   exact h1.elim
  ·rw [aq c] at h1
   obtain ⟨g2,e2,S2,q⟩:=VR.keep S1 v1 c
   exact hk d s1 g2 v H1 (e1.trans e2) S2 q (ValR.ext e2 h1)

def KL (G:Gm) (σ:L2.St) (l:Lc) (Q:List V→Hp→Prop):List D × cj→Gh→Prop:=fun p g'=>∀ vs H',SR G.Y g' σ H' l p.2→Rps G.Y g'.F p.1 vs→Q vs H'
def yq (G:Gm) (W:WX) (es:X):TA:=fun σ H Q=>∃ g l s,SR G.Y g σ H l s∧ValR G W g σ (jp G.fs G.gs es l s) (KL G σ l Q)

def AR (Y:Wd) (g:Gh) (σ:L2.St) (l:Lc):List Bool→List D→List V→Prop
 | _,[],[]=>True
 | kp,d :: ds,v :: vs=>VS Y g σ l d v∧(kp.headD false=true→Rp Y g.F d v)∧AR Y g σ l kp.tail ds vs
 | _,_,_=>False
theorem AR.ext {Y:Wd} (e:Ext g g'):∀ {kp:List Bool} {ds:List D} {vs:List V},AR Y g σ l kp ds vs→AR Y g' σ l kp ds vs
 | _,[],[],_=>trivial
 | _,_ :: _,_ :: _,h=>⟨h.1.ext e,fun q=>(h.2.1 q).mono e.f,AR.ext e h.2.2⟩
 | _,[],_ :: _,h=>h.elim
 | _,_ :: _,[],h=>h.elim
def KA (G:Gm) (σ:L2.St) (l:Lc) (kp:List Bool) (Q:List V→Hp→Prop):List D × cj→Gh→Prop:=fun p g'=>∀ vs H',SR G.Y g' σ H' l p.2→AR G.Y g' σ l kp p.1 vs→Q vs H'
def tF (G:Gm) (W:WX) (es:X) (kp:List Bool):TA:=fun σ H Q=>∃ g l s,SR G.Y g σ H l s∧ValR G W g σ (fE G.fs G.gs es kp l s) (KA G σ l kp Q)
theorem k6 {α:Type} {k:List D × cj→R α} {K:α→Gh→Prop} (S:SR G.Y g σ H l s) (h:ValR G W g σ ((jp G.fs G.gs x l s).bind k) K) {Q2:List V→Hp→Prop}
  (hk:∀ ds s1 g1 vs H1,Ext g g1→SR G.Y g1 σ H1 l s1→Rps G.Y g1.F ds vs→ValR G W g1 σ (k (ds,s1)) K→Q2 vs H1):yq G W x σ H Q2:=by
 refine ⟨g,l,s,S,?_⟩
 cases e:jp G.fs G.gs x l s with
 | ok a =>
  obtain ⟨ds,s1⟩:=a
  rw [e] at h
  exact fun g1 e1 vs H1 S1 v1=>hk ds s1 g1 vs H1 e1 S1 v1 (ValR.ext e1 h)
 | er a b c =>
  rw [e] at h
  exact h
 | no =>
  rw [e] at h
  exact h
theorem gj {α:Type} {kp:List Bool} {k:List D × cj→R α} {K:α→Gh→Prop} (S:SR G.Y g σ H l s) (h:ValR G W g σ ((fE G.fs G.gs x kp l s).bind k) K) {Q2:List V→Hp→Prop}
  (hk:∀ ds s1 g1 vs H1,Ext g g1→SR G.Y g1 σ H1 l s1→AR G.Y g1 σ l kp ds vs→ValR G W g1 σ (k (ds,s1)) K→Q2 vs H1):tF G W x kp σ H Q2:=by
 refine ⟨g,l,s,S,?_⟩
 cases e:fE G.fs G.gs x kp l s with
 | ok a =>
  obtain ⟨ds,s1⟩:=a
  rw [e] at h
  exact fun g1 e1 vs H1 S1 v1=>hk ds s1 g1 vs H1 e1 S1 v1 (ValR.ext e1 h)
 | er a b c =>
  rw [e] at h
  exact h
 | no =>
  rw [e] at h
  exact h
theorem AR.rd {Y:Wd} (S:SR Y g σ H l s):∀ {kp:List Bool} {ds:List D} {vs:List V},AR Y g σ l kp ds vs→RdVs Y g.F H ds vs
 | _,[],[],_=>trivial
 | _,_ :: _,_ :: _,h=>⟨h.1.rd S,AR.rd S h.2.2⟩
 | _,[],_ :: _,h=>h.elim
 | _,_ :: _,[],h=>h.elim
theorem Rps.rd {Y:Wd} {F:Fr}:∀ {ds:List D} {vs:List V},Rps Y F ds vs→RdVs Y F H ds vs
 | _,_,.nil=>trivial
 | _,_,.cons h r=>⟨.inl h,Rps.rd r⟩
end
section
variable {C:Cx} {S:Sc} {G:Gn} {W:WX} {e f b:Expr} {es:List Expr} {pos:Pos} {xa xb xc:X}

theorem HS (B:Gd C S G W) {i:Nat} {x:Str} (hN:S.N[i]?=some x) (hv:gQ S.sc x=true) (hn:fN x=true):PE C (.Name x pos) (rd G.gm W (.v i)):=by
 refine PE.imp (pe_var (i:=i) (by rw [B.N]; exact hN) (B.vis hv) (dX hn) (tB hn)) ?_
 rintro σ H Q ⟨g,l,s,SS,h⟩
 have h:ValE G.gm W g σ l (match l[i]? with | some (some ⟨k,d⟩)=>.ok (d,k,s) | _=>.no) Q:=h
 split at h
 ·rename_i k d e
  obtain ⟨v,h1,h2⟩:=SS.sl i _ e
  refine ⟨v,h1,h g v H (.refl g) SS ?_⟩
  cases k with
  | fr=>exact h2
  | bo=>exact h2
  | ow=>exact ⟨i,h1,e⟩
  | nw=>exact h2.elim
 ·exact h.elim
theorem gE {c:Const} {k:Nat} {v:V} {d:D} {x:X} (h0:PE C (.Constant c k pos) (tC v)) (hx:∀ l s,b9 G.fs G.gs x l s=cr d s) (hr:∀ F,Rp G.Y F d v):PE C (.Constant c k pos) (rd G.gm W x):=by
 refine PE.imp h0 ?_
 rintro σ H Q ⟨g,l,s,SS,h⟩
 have h:ValE G.gm W g σ l (b9 G.fs G.gs x l s) Q:=h
 rw [hx] at h
 exact h.frz SS (hr _)
theorem HU (B:Gd C S G W) {j:Nat} {x:Str} (hN:S.gn[j]?=some x) (hg:dc S.sc x=true) (hn:fN x=true):PE C (.Name x pos) (rd G.gm W (.g j)):=by
 cases e:G.gs[j]? with
 | none =>
  refine PE.imp (t:=fun _ _ _=>False) ⟨fun _ _ _ _ _ _ h=>h.elim⟩ ?_
  rintro σ H Q ⟨g,l,s,SS,h⟩
  have h:ValE G.gm W g σ l (match G.gs[j]? with | some d=>cr d s | none=>.no) Q:=h
  rw [e] at h
  exact h
 | some d =>
  obtain ⟨v,u,h1,h2,h3⟩:=B.gns j x d hN e
  refine PE.imp (pe_glob (B.gl hg) h1 h2 (dX hn)) ?_
  rintro σ H Q ⟨g,l,s,SS,h⟩
  have h:ValE G.gm W g σ l (match G.gs[j]? with | some d=>cr d s | none=>.no) Q:=h
  rw [e] at h
  refine h.frz SS (show Rp G.Y g.F d v from ?_)
  rw [B.Y]
  exact h3 _ _
theorem Br (B:Gd C S G W) (o:BOp) (ha:PE C e (rd G.gm W xa)) (hb:PE C b (rd G.gm W xb)):PE C (.BinOp e o.op b pos) (rd G.gm W (.bin o xa xb)):=by
 refine PE.imp (pe_op (Bo o) ha hb) ?_
 rintro σ H Q ⟨g,l,s,SS,h⟩
 refine cB SS (show ValE G.gm W g σ l ((b9 G.fs G.gs xa l s).bind _) Q from h) fun d t s1 g1 v H1 e1 S1 v1 h1=>?_
 refine cB S1 (show ValE G.gm W g1 σ l ((b9 G.fs G.gs xb l s1).bind _) Q from h1) fun d2 t2 s2 g2 v2 H2 e2 S2 w1 h2=>?_
 have:=yn S2 (show ValE G.gm W g2 σ l (BOp.run o d d2 s2) Q from h2) ((v1.ext e2).rd S2) (w1.rd S2)
 rw [show G.gm.Y.K=C.K from B.hK] at this
 exact this
theorem iz (B:Gd C S G W):C.A.units+65 < cLine:=by
 have:=B.un
 omega
theorem iP {o:COp} (h:jT o b=true):behindInMarks o.op b=false:=by
 cases o <;> first | exact nomark b | exact (az _).mp h
theorem xK (o:COp):∀ σ H Q,rd G.gm W (.cmp o xa xb) σ H Q→tOp (cR G.Y o) (rd G.gm W xa) (rd G.gm W xb) σ H Q:=by
 rintro σ H Q ⟨g,l,s,SS,h⟩
 refine cB SS (show ValE G.gm W g σ l ((b9 G.fs G.gs xa l s).bind _) Q from h) fun d t s1 g1 v H1 e1 S1 v1 h1=>?_
 refine cB S1 (show ValE G.gm W g1 σ l ((b9 G.fs G.gs xb l s1).bind _) Q from h1) fun d2 t2 s2 g2 v2 H2 e2 S2 w1 h2=>?_
 exact mM S2 (show ValE G.gm W g2 σ l (COp.run o d d2 s2) Q from h2) ((v1.ext e2).rd S2) (w1.rd S2)
theorem Bt (B:Gd C S G W) (o:COp) (hk:jT o b=true) (ha:PE C e (rd G.gm W xa)) (hb:PE C b (rd G.gm W xb)):PE C (.Compare e [o.op] [b] pos) (rd G.gm W (.cmp o xa xb)) :=
 PE.imp (pe_cmpR (kj (iz B) B.Y o) ha hb (iP hk)) (xK o)
theorem EB (B:Gd C S G W) (hs:cO f=true) (ha:PE C e (rd G.gm W xa)) (hb:PE C f (rd G.gm W xb)):PE C (.Subscript e f pos) (rd G.gm W (.ix xa xb)):=by
 refine PE.imp (pe_ix (xH B.hu B.Y) ha hb (jb hs)) ?_
 rintro σ H Q ⟨g,l,s,SS,h⟩
 refine cB SS (show ValE G.gm W g σ l ((b9 G.fs G.gs xa l s).bind _) Q from h) fun d t s1 g1 v H1 e1 S1 v1 h1=>?_
 refine cB S1 (show ValE G.gm W g1 σ l ((b9 G.fs G.gs xb l s1).bind _) Q from h1) fun d2 t2 s2 g2 v2 H2 e2 S2 w1 h2=>?_
 exact tD S2 (show ValE G.gm W g2 σ l (mH d d2 s2) Q from h2) ((v1.ext e2).rd S2) (w1.rd S2)
theorem Bu (ha:PE C e (rd G.gm W xa)):PE C (.UnaryOp .USub e pos) (rd G.gm W (.neg xa)):=by
 refine PE.imp (pe_un un_neg ha) ?_
 rintro σ H Q ⟨g,l,s,SS,h⟩
 refine cB SS (show ValE G.gm W g σ l ((b9 G.fs G.gs xa l s).bind _) Q from h) fun d t s1 g1 v H1 e1 S1 v1 h1=>?_
 cases d with
 | int i=>exact ⟨i,(v1.rd S1).int,ValE.frz (show ValE G.gm W g1 σ l (cr (.int (-i)) s1) Q from h1) S1 (.int _)⟩
 | _=>exact h1.elim

theorem Bv (ha:PE C e (rd G.gm W xa)):PE C (.UnaryOp .Not e pos) (rd G.gm W (.not xa)):=by
 refine PE.imp (pe_not ha) ?_
 rintro σ H Q ⟨g,l,s,SS,h⟩
 refine cB SS (show ValE G.gm W g σ l ((b9 G.fs G.gs xa l s).bind _) Q from h) fun d t s1 g1 v H1 e1 S1 v1 h1=>?_
 cases d with
 | bl i=>exact ⟨i,(v1.rd S1).bl,ValE.frz (show ValE G.gm W g1 σ l (cr (.bl (!i)) s1) Q from h1) S1 (.bl _)⟩
 | _=>exact h1.elim
theorem xL (o q:COp):∀ σ H Q,rd G.gm W (.chn o q xa xb xc) σ H Q→tChain (cR G.Y o) (cR G.Y q) (rd G.gm W xa) (rd G.gm W xb) (rd G.gm W xc) σ H Q:=by
 rintro σ H Q ⟨g,l,s,SS,h⟩
 refine cB SS (show ValE G.gm W g σ l ((b9 G.fs G.gs xa l s).bind _) Q from h) fun d t s1 g1 v H1 e1 S1 v1 h1=>?_
 refine cB S1 (show ValE G.gm W g1 σ l ((b9 G.fs G.gs xb l s1).bind _) Q from h1) fun d2 t2 s2 g2 v2 H2 e2 S2 w1 h2=>?_
 refine mM (W:=W) (Q:=fun z H3=>∃ k,z=.bl k∧(if k=true then rd G.gm W xc σ H3 fun w' H4=>cR G.Y q v2 w' H4 Q else Q (.bl false) H3)) S2 ?_ ((v1.ext e2).rd S2) (w1.rd S2)
 have h2:ValE G.gm W g2 σ l ((COp.run o d d2 s2).bind _) Q:=h2
 cases e3:COp.run o d d2 s2 with
 | ok p =>
  obtain ⟨z,t3,s3⟩:=p
  rw [e3] at h2
  intro g3 vz H3 e4 S3 rz
  cases z with
  | bl bb =>
   have hz:vz=.bl bb:=by
    obtain ⟨g5,_,S5,q5⟩:=VR.stay S3 rz
    exact (q5.rd S5).bl
   refine ⟨bb,hz,?_⟩
   cases bb with
   | true =>
    rw [aj rfl]
    refine cB S3 (ValE.ext e4 (show ValE G.gm W g2 σ l ((b9 G.fs G.gs xc l s3).bind _) Q from h2)) fun d5 t5 s5 g5 v5 H5 e5 S5 w5 h5=>?_
    exact mM S5 (show ValE G.gm W g5 σ l (COp.run q d2 d5 s5) Q from h5) (((w1.ext e4).ext e5).rd S5) (w5.rd S5)
   | false =>
    rw [aq aa]
    exact ValE.frz (ValE.ext e4 (show ValE G.gm W g2 σ l (cr (.bl false) s3) Q from h2)) S3 (.bl _)
  | _=>exact h2.elim
 | er a b c =>
  rw [e3] at h2
  exact h2
 | no =>
  rw [e3] at h2
  exact h2
theorem Bw (B:Gd C S G W) (o q:COp) {c:Expr} (hm:lastMarks [o.op,q.op] [b,c]=false) (ha:PE C e (rd G.gm W xa)) (hb:PE C b (rd G.gm W xb)) (hc:PE C c (rd G.gm W xc)) :
  PE C (.Compare e [o.op,q.op] [b,c] pos) (rd G.gm W (.chn o q xa xb xc)) :=
 PE.imp (pe_chain (kj (iz B) B.Y o) (kj (iz B) B.Y q) ha hb hc hm) (xL o q)

def nW (G:Gm) (W:WX) (es:X):TE:=fun σ H Q=>∃ g l s,SR G.Y g σ H l s∧ValE G W g σ l ((fV G.fs G.gs es l s).bind fun (b,s1)=>cr (.bl b) s1) Q
def tG (G:Gm) (W:WX) (es:X):TE:=fun σ H Q=>∃ g l s,SR G.Y g σ H l s∧ValE G W g σ l ((iw G.fs G.gs es l s).bind fun (b,s1)=>cr (.bl b) s1) Q
theorem gk {α β γ:Type} (r:R α) (f:α→R β) (k:β→R γ):(r.bind f).bind k=r.bind fun a=>(f a).bind k:=by cases r <;> rfl
theorem yr (ha:PE C e (rd G.gm W xa)):PE C (.BoolOp .And [e] pos) (nW G.gm W #v[xa]):=by
 refine PE.imp (pe_one ha) ?_
 rintro σ H Q ⟨g,l,s,SS,h⟩
 have h:ValE G.gm W g σ l (((b9 G.fs G.gs xa l s).bind fun (x,_,s1)=>match x with | .bl true=>fV G.fs G.gs .nil l s1 | .bl false=>.ok (false,s1) | _=>.no).bind fun (b,s1)=>cr (.bl b) s1) Q:=h
 rw [gk] at h
 refine cB SS h fun d t s1 g1 v H1 e1 S1 v1 h1=>?_
 cases d with
 | bl bb =>
  obtain rfl:=(v1.rd S1).bl
  cases bb with
  | true=>exact ValE.frz (show ValE G.gm W g1 σ l (cr (.bl true) s1) Q from h1) S1 (.bl _)
  | false=>exact ValE.frz (show ValE G.gm W g1 σ l (cr (.bl false) s1) Q from h1) S1 (.bl _)
 | _=>exact h1.elim
theorem Bx (ha:PE C e (rd G.gm W xa)) (hb:PE C (.BoolOp .And (b :: es) pos) (nW G.gm W xb)):PE C (.BoolOp .And (e :: b :: es) pos) (nW G.gm W (.cons xa xb)):=by
 refine PE.imp (pe_and ha hb) ?_
 rintro σ H Q ⟨g,l,s,SS,h⟩
 have h:ValE G.gm W g σ l (((b9 G.fs G.gs xa l s).bind fun (x,_,s1)=>match x with | .bl true=>fV G.fs G.gs xb l s1 | .bl false=>.ok (false,s1) | _=>.no).bind fun (b,s1)=>cr (.bl b) s1) Q:=h
 rw [gk] at h
 refine cB SS h fun d t s1 g1 v H1 e1 S1 v1 h1=>?_
 cases d with
 | bl bb =>
  obtain rfl:=(v1.rd S1).bl
  refine ⟨bb,rfl,?_⟩
  cases bb with
  | true=>exact (aj rfl).symm ▸ (⟨g1,l,s1,S1,h1⟩:nW G.gm W xb σ H1 Q)
  | false=>exact (aq aa).symm ▸ (ValE.frz (show ValE G.gm W g1 σ l (cr (.bl false) s1) Q from h1) S1 (.bl _))
 | _=>exact h1.elim
theorem By (ha:PE C e (rd G.gm W xa)):PE C (.BoolOp .Or [e] pos) (tG G.gm W #v[xa]):=by
 refine PE.imp (pe_one ha) ?_
 rintro σ H Q ⟨g,l,s,SS,h⟩
 have h:ValE G.gm W g σ l (((b9 G.fs G.gs xa l s).bind fun (x,_,s1)=>match x with | .bl false=>iw G.fs G.gs .nil l s1 | .bl true=>.ok (true,s1) | _=>.no).bind fun (b,s1)=>cr (.bl b) s1) Q:=h
 rw [gk] at h
 refine cB SS h fun d t s1 g1 v H1 e1 S1 v1 h1=>?_
 cases d with
 | bl bb =>
  obtain rfl:=(v1.rd S1).bl
  cases bb with
  | true=>exact ValE.frz (show ValE G.gm W g1 σ l (cr (.bl true) s1) Q from h1) S1 (.bl _)
  | false=>exact ValE.frz (show ValE G.gm W g1 σ l (cr (.bl false) s1) Q from h1) S1 (.bl _)
 | _=>exact h1.elim
theorem EC (ha:PE C e (rd G.gm W xa)) (hb:PE C (.BoolOp .Or (b :: es) pos) (tG G.gm W xb)):PE C (.BoolOp .Or (e :: b :: es) pos) (tG G.gm W (.cons xa xb)):=by
 refine PE.imp (pe_or ha hb) ?_
 rintro σ H Q ⟨g,l,s,SS,h⟩
 have h:ValE G.gm W g σ l (((b9 G.fs G.gs xa l s).bind fun (x,_,s1)=>match x with | .bl false=>iw G.fs G.gs xb l s1 | .bl true=>.ok (true,s1) | _=>.no).bind fun (b,s1)=>cr (.bl b) s1) Q:=h
 rw [gk] at h
 refine cB SS h fun d t s1 g1 v H1 e1 S1 v1 h1=>?_
 cases d with
 | bl bb =>
  obtain rfl:=(v1.rd S1).bl
  refine ⟨bb,rfl,?_⟩
  cases bb with
  | true=>exact (aj rfl).symm ▸ (ValE.frz (show ValE G.gm W g1 σ l (cr (.bl true) s1) Q from h1) S1 (.bl _))
  | false=>exact (aq aa).symm ▸ (⟨g1,l,s1,S1,h1⟩:tG G.gm W xb σ H1 Q)
 | _=>exact h1.elim

theorem yt:PA C [] (yq G.gm W .nil):=by
 refine PA.imp pa_nil ?_
 rintro σ H Q ⟨g,l,s,SS,h⟩
 exact h g (.refl g) [] H SS .nil
theorem vS (hs:b8 e=true) (ha:PE C e (rd G.gm W xa)) (hb:PA C es (yq G.gm W xb)):PA C (e :: es) (yq G.gm W (.cons xa xb)):=by
 refine PA.imp (pa_cons ha hb (b6 hs)) ?_
 rintro σ H Q ⟨g,l,s,SS,h⟩
 refine fW SS (show ValR G.gm W g σ (cg (b9 G.fs G.gs xa l s) _) (KL G.gm σ l Q) from h) fun d s1 g1 v H1 e1 S1 r1 h1=>?_
 refine k6 S1 (show ValR G.gm W g1 σ ((jp G.fs G.gs xb l s1).bind _) (KL G.gm σ l Q) from h1) fun ds s2 g2 vs H2 e2 S2 r2 h2=>?_
 exact h2 g2 (.refl g2) (v :: vs) H2 S2 (.cons (r1.mono e2.f) r2)
theorem yu {kp:List Bool}:PA C [] (tF G.gm W .nil kp):=by
 refine PA.imp pa_nil ?_
 rintro σ H Q ⟨g,l,s,SS,h⟩
 exact h g (.refl g) [] H SS trivial
theorem vT {kp:List Bool} (hs:b8 e=true) (ha:PE C e (rd G.gm W xa)) (hb:PA C es (tF G.gm W xb kp.tail)):PA C (e :: es) (tF G.gm W (.cons xa xb) kp):=by
 refine PA.imp (pa_cons ha hb (b6 hs)) ?_
 rintro σ H Q ⟨g,l,s,SS,h⟩
 refine k5 SS (show ValR G.gm W g σ ((b9 G.fs G.gs xa l s).bind _) (KA G.gm σ l kp Q) from h) fun d t s1 g1 v H1 e1 S1 v1 h1=>?_
 have h1:ValR G.gm W g1 σ (if kp.headD false=true∧(t=.bo∨t=.ow)∧d.still=false then .no else (fE G.fs G.gs xb kp.tail l s1).bind fun (ds,s2)=>.ok (d :: ds,s2)) (KA G.gm σ l kp Q):=h1
 split at h1
 ·exact h1.elim
 ·rename_i hc
  obtain ⟨g2,e2,S2,r2,r2'⟩:∃ g2,Ext g1 g2∧SR G.Y g2 σ H1 l s1∧VS G.Y g2 σ l d v∧(kp.headD false=true→Rp G.Y g2.F d v):=by
   by_cases hk:kp.headD false=true
   ·obtain ⟨g2,e2,S2,r⟩:=VR.keep S1 v1 (fun z=>hc ⟨hk,z⟩)
    exact ⟨g2,e2,S2,.inl r,fun _=>r⟩
   ·obtain ⟨g2,e2,S2,r⟩:=VR.stay S1 v1
    exact ⟨g2,e2,S2,r,fun z=>absurd z hk⟩
  refine gj S2 (ValR.ext e2 h1) fun ds s3 g3 vs H3 e3 S3 r3 h3=>?_
  exact h3 g3 (.refl g3) (v :: vs) H3 S3 ⟨r2.ext e3,fun z=>(r2' z).mono e3.f,r3⟩

theorem Bz {k:Nat} (h:PA C es (yq G.gm W xa)):PE C (.Tuple es k pos) (rd G.gm W (.tup xa)):=by
 refine PE.imp (vC h) ?_
 rintro σ H Q ⟨g,l,s,SS,h⟩
 refine k6 SS (show ValR G.gm W g σ ((jp G.fs G.gs xa l s).bind _) (KE G.gm σ l Q) from ValE.toR h) fun ds s1 g1 vs H1 e1 S1 r1 h1=>?_
 have h1:ValR G.gm W g1 σ (if ds.length≤sizeLine then cr (.tup ds) s1 else .no) (KE G.gm σ l Q):=h1
 split at h1
 ·exact ⟨by rw [← r1.length]; assumption,(ValE.ofR h1).tupN S1 r1⟩
 ·exact h1.elim
theorem BA (h:PA C es (yq G.gm W xa)):PE C (.List es pos) (rd G.gm W (.lst xa)):=by
 refine PE.imp (pe_lst h) ?_
 rintro σ H Q ⟨g,l,s,SS,h⟩
 refine k6 SS (show ValR G.gm W g σ ((jp G.fs G.gs xa l s).bind _) (KE G.gm σ l Q) from ValE.toR h) fun ds s1 g1 vs H1 e1 S1 r1 h1=>?_
 have h1:ValR G.gm W g1 σ (if ds.length≤sizeLine then dW (.lst ds) s1 else .no) (KE G.gm σ l Q):=h1
 split at h1
 ·exact ⟨by rw [← r1.length]; assumption,fun p hp=>(ValE.ofR h1).lstN S1 r1 hp⟩
 ·exact h1.elim
theorem yw (B:Gd C S G W) (k:Bool):PE C (.Dict [] [] pos) (rd G.gm W (.dic k .nil .nil)):=by
 cases k with
 | false =>
  refine PE.imp pe_dnewK ?_
  rintro σ H Q ⟨g,l,s,SS,h⟩ p hp
  exact ValE.nwo (show ValE G.gm W g σ l (dW (.dic false []) s) Q from h) (SS.lay hp) (SS.newN hp (.dk upd_same .nil))
 | true =>
  refine ⟨fun pins s σ H Q I h=>?_⟩
  obtain ⟨g,l,sto,SS,h⟩:=h
  obtain ⟨ob,w,I'⟩:=tu (Y:=⟨C.prog,C.w,C.K,G.Y.pn⟩) I
  have hp:H s.heap.objs.size=none:=I.hok.fresh (ax _)
  refine wpAny_Dict_empty ⟨.ref s.heap.objs.size,_,I',rfl,?_⟩
  refine ValE.nwo (show ValE G.gm W g σ l (dW (.dic true []) sto) Q from h) (SS.lay hp) (SS.newN hp (.dt upd_same ?_ .nil))
  rw [show G.gm.Y=_ from B.Y]
  exact w

def yx (G:Gm) (W:WX) (x:X):TO:=fun σ H Q=>∃ g l s,SR G.Y g σ H l s ∧
 ValR G W g σ (if x.isNil=true then R.ok ((none:Option Int),s) else (b9 G.fs G.gs x l s).bind fun (p,_,s2)=>match p with | .int i=>.ok (some i,s2) | _=>.no) (fun p g'=>∀ H',SR G.Y g' σ H' l p.2→Q p.1 H')
theorem BB (h:xa.isNil=true):PO C none (yx G.gm W xa):=by
 refine ⟨fun pins s σ H Q I q=>?_⟩
 obtain ⟨g,l,sto,SS,q⟩:=q
 rw [aj h] at q
 exact po_none.run pins s σ H Q I (q g (.refl g) H SS)
theorem qB (hn:xa.isNil=false) (ha:PE C e (rd G.gm W xa)):PO C (some e) (yx G.gm W xa):=by
 refine ⟨fun pins s σ H Q I q=>?_⟩
 refine (po_some ha).run pins s σ H Q I ?_
 obtain ⟨g,l,sto,SS,q⟩:=q
 rw [hn,aq aa] at q
 refine cS SS q fun d t s1 g1 v H1 e1 S1 v1 h1=>?_
 cases d with
 | int i =>
  obtain rfl:=(v1.rd S1).int
  exact ⟨i,rfl,h1 g1 (.refl g1) H1 S1⟩
 | _=>exact h1.elim
theorem k7 {G:Gm} {W:WX} {g:Gh} {σ:L2.St} {H:Hp} {l:Lc} {s:cj} {x:X} {α:Type} {k:Option Int × cj→R α} {K:α→Gh→Prop} (SS:SR G.Y g σ H l s)
  (h:ValR G W g σ ((if x.isNil=true then R.ok ((none:Option Int),s) else (b9 G.fs G.gs x l s).bind fun (p,_,s2)=>match p with | .int i=>.ok (some i,s2) | _=>.no).bind k) K) {Q2:Option Int→Hp→Prop}
  (hk:∀ p s1 g1 H1,Ext g g1→SR G.Y g1 σ H1 l s1→ValR G W g1 σ (k (p,s1)) K→Q2 p H1):yx G W x σ H Q2:=by
 refine ⟨g,l,s,SS,?_⟩
 generalize (if x.isNil=true then R.ok ((none:Option Int),s) else (b9 G.fs G.gs x l s).bind fun (p,_,s2)=>match p with | .int i=>.ok (some i,s2) | _=>.no)=r at h ⊢
 cases r with
 | ok a=>exact fun g1 e1 H1 S1=>hk a.1 a.2 g1 H1 e1 S1 (ValR.ext e1 h)
 | er a b c=>exact h
 | no=>exact h
theorem ED (B:Gd C S G W) {lo hi:Option Expr} {p2:Pos} (ha:PE C e (rd G.gm W xa)) (hl:PO C lo (yx G.gm W xb)) (hh:PO C hi (yx G.gm W xc)):PE C (.Subscript e (.Slice lo hi none p2) pos) (rd G.gm W (.sl xa xb xc)):=by
 refine PE.imp (pe_slice (yp B.Y) ha hl hh) ?_
 rintro σ H Q ⟨g,l,s,SS,h⟩
 refine cS SS (show ValR G.gm W g σ ((b9 G.fs G.gs xa l s).bind _) (KE G.gm σ l Q) from ValE.toR h) fun d t s1 g1 v H1 e1 S1 v1 h1=>?_
 refine k7 S1 h1 fun p s2 g2 H2 e2 S2 h2=>?_
 refine k7 S2 h2 fun q s3 g3 H3 e3 S3 h3=>?_
 exact vP S3 (ValE.ofR (show ValR G.gm W g3 σ (sY d p q s3) (KE G.gm σ l Q) from h3)) (((v1.ext e2).ext e3).rd S3)

theorem nX {f0:Value} {r:List V→Hp→VK→Prop} {t:TA} {x:Str} {p:Pos} (hf:(∃ id,f0=.builtin id)∨∃ T,f0=.type T) (hc:CallR C f0 r) (hg:Gl C x) (hm:C.mg x=none) (hv:bootBuiltins x=some f0) (ha:PA C (e :: es) t) (hn:x≠"__name__") (hdb:(x == ("__debug__":Str))=false)
  (he:starEach (e :: es) C.env=(false,eval e C.env) :: starEach es C.env) (hpl:(backTo pos (starEach es C.env)).any (·.1)=false):PE C (.Call (.Name x p) (e :: es) [] pos) (tCB r t):=by
 rcases hf with ⟨id,rfl⟩ | ⟨T,rfl⟩
 ·exact pe_callB hc hg hm hv ha hn hdb he hpl
 ·exact pe_callTy hc hg hm hv ha hn hdb he hpl
theorem BI.isV (f:BI):(∃ id,f.val=.builtin id)∨∃ T,f.val=.type T:=by cases f <;> first | exact .inl ⟨_,rfl⟩ | exact .inr ⟨_,rfl⟩
theorem EE (B:Gd C S G W) (hh:S.hot=false) (f:BI) {p:Pos} (hg:dc S.sc f.nm=true) (hs:b8 e=true) (hs2:es.all b8=true) (ha:PA C (e :: es) (tF G.gm W xa [])):PE C (.Call (.Name f.nm p) (e :: es) [] pos) (rd G.gm W (.bi f xa)):=by
 refine PE.imp (nX f.isV (tE B.Y (B.calm hh) B.hu f) (B.gl hg) (B.blt _ f.nmOk.2.2) f.boot ha f.nmOk.1 f.nmOk.2.1 (b6 hs) (du hs2)) ?_
 rintro σ H Q ⟨g,l,s,SS,h⟩
 refine gj SS (show ValR G.gm W g σ ((fE G.fs G.gs xa [] l s).bind _) (KE G.gm σ l Q) from ValE.toR h) fun ds s1 g1 vs H1 e1 S1 r1 h1=>?_
 exact qA S1 (ValE.ofR (show ValR G.gm W g1 σ (BI.run f ds s1) (KE G.gm σ l Q) from h1)) (r1.rd S1)

theorem SR.heap {Y:Wd} {g:Gh} {σ:L2.St} {H H':Hp} {l:Lc} {s:cj} (S:SR Y g σ H l s) (e:Same H H'):SR Y g σ H' l s:=by
 refine ⟨S.sB.trans e,S.sF.trans e,S.len,fun i z hz=>?_,S.ow,S.st.heap fun a n u _ h=>e a u h⟩
 obtain ⟨v,h1,h2⟩:=S.sl i z hz
 refine ⟨v,h1,?_⟩
 obtain ⟨k,d⟩:=z
 cases k with
 | fr=>exact h2
 | bo=>exact h2
 | ow=>exact ⟨h2.1.mono (Fr.le.refl _) e,h2.2⟩
 | nw=>exact h2
theorem SR.call {Y:Wd} {g:Gh} {σ:L2.St} {H H':Hp} {F':Fr} {l:Lc} {s:cj} (S:SR Y g σ H l s) (e:Same H H') (eF:Same F'.h H') (em:F'.m=g.F.m) (ex:Ext ⟨g.F,H,g.F.m⟩ ⟨F',H,g.F.m⟩):SR Y ⟨F',g.B,g.M⟩ σ H' l s∧Ext g ⟨F',g.B,g.M⟩:=by
 refine ⟨⟨S.sB.trans e,eF,S.len,fun i z hz=>?_,S.ow,(S.st.heap fun a n u _ h=>e a u h).fro ex.f em fun a n h1 h2=>?_⟩,⟨rfl,ex.f,fun a o h1 h2=>S.freeB (ex.new a o h1 h2),rfl⟩⟩
 rotate_left
 ·cases q:F'.h a with
  | none=>rfl
  | some o =>
   have hn:H a=none:=ex.new a o q h2
   have:=S.st.lv a n h1
   rw [hn] at this
   cases this
 obtain ⟨v,h1,h2⟩:=S.sl i z hz
 refine ⟨v,h1,?_⟩
 obtain ⟨k,d⟩:=z
 cases k with
 | fr=>exact Rp.mono ex.f h2
 | bo=>exact h2.imp (fun q=>q.mono ex.f) fun q=>q.mono ex.f (Same.refl _)
 | ow =>
  refine ⟨h2.1.mono ex.f e,fun a ea=>⟨?_,(h2.2 a ea).2.1,fun n q=>(h2.2 a ea).2.2 n (by rw [← em]; exact q)⟩⟩
  cases q:F'.h a with
  | none=>rfl
  | some o =>
   have hn:=ex.new a o q (h2.2 a ea).1
   obtain ⟨a',e',hs⟩:=h2.1.isRef
   rw [ea] at e'
   cases e'
   have hn:H a=none:=hn
   rw [hn] at hs
   cases hs
 | nw=>exact h2
theorem AR.arg {Y:Wd} {g:Gh} {σ:L2.St} {H:Hp} {l:Lc} {s:cj} (S:SR Y g σ H l s):∀ {kp:List Bool} {ds:List D} {vs:List V},AR Y g σ l kp ds vs→ArgR Y ⟨g.F,H,g.F.m⟩ kp ds vs
 | _,[],[],_=>trivial
 | kp,d :: ds,v :: vs,h=>by
  refine ⟨?_,AR.arg S h.2.2⟩
  split
  ·exact h.2.1 (by assumption)
  ·exact (show RdV Y g.F H d v from h.1.rd S)
 | _,[],_ :: _,h=>h.elim
 | _,_ :: _,[],h=>h.elim
theorem yy (B:Gd C S G W) (hh:S.hot=false) {j:Nat} {x:Str} {p:Pos} (hx:S.cs[j]?=some x) (hg:dc S.sc x=true) (hn:fN x=true) (hs:b8 e=true) (hs2:es.all b8=true) (ha:∀ kp,PA C (e :: es) (tF G.gm W xa kp)) :
  PE C (.Call (.Name x p) (e :: es) [] pos) (rd G.gm W (.call j xa)):=by
 cases ef:G.fs[j]? with
 | none =>
  refine PE.imp (t:=fun _ _ _=>False) ⟨fun _ _ _ _ _ _ h=>h.elim⟩ ?_
  rintro σ H Q ⟨g,l,s,SS,h⟩
  have h:ValE G.gm W g σ l (b9 G.fs G.gs (.call j xa) l s) Q:=h
  simp only [b9,ef] at h
  exact h
 | some F =>
  obtain ⟨a,fd,ps,hF,hm,hk,hb⟩:=B.fns hh j x F hx ef
  refine PE.imp (pe_callS hF (B.room hh) (B.gl hg) hm hk hb (fun σ=>passAt B.tk σ) (ha F.kp) (dX hn) (b6 hs) (du hs2)) ?_
  rintro σ H Q ⟨g,l,s,SS,h⟩
  have h:ValE G.gm W g σ l (b9 G.fs G.gs (.call j xa) l s) Q:=h
  simp only [b9,ef] at h
  refine gj SS (show ValR G.gm W g σ ((fE G.fs G.gs xa F.kp l s).bind _) (KE G.gm σ l Q) from ValE.toR h) fun ds s1 g1 vs H1 e1 S1 r1 h1=>?_
  refine .inl ⟨g1.F,ds,S1.sF,S1.st.lv,r1.arg S1,?_⟩
  cases er:F.run ds with
  | ok q =>
   obtain ⟨d,t⟩:=q
   simp only [er] at h1
   intro F' H' v sm sF em ex rr
   obtain ⟨S2,e2⟩:=S1.call sm sF em ex
   refine h1 _ e2 v H' S2 ?_
   cases t with
   | fr=>exact rr
   | nw =>
    obtain ⟨p',rfl,q1,q2,q3⟩:=rr
    exact ⟨p',rfl,⟨q1,fun n q=>S1.freeM q2 n (by rw [← em]; exact q)⟩,S1.freeB q2,q3,S1.noown q2⟩
   | bo=>exact rr.elim
   | ow=>exact rr.elim
  | er e s' l' =>
   simp only [er] at h1
   intro H' c dd sm ex
   exact h1 g1 H' c dd (.refl g1) (S1.heap sm) ex
  | no =>
   simp only [er] at h1
   exact h1

theorem rX {CX0:CXT} {k:Nat} {f:Addr} {fd:FuncData} {ps:List Str} {sp:Sp} {E:L2.St→XK} {x:Str} {p:Pos} (F:FnOk C.prog C.w C.K C.mg C.base CX0 k f fd ps sp) (hr:Room k C.A) (hg:Gl C x) (hm:C.mg x=some (.ref f)) (hk:PySem.W.keepIn C.K (.ref f)=true) (hb:Binds C.K fd ps []) (hx:∀ σ,PassesAt CX0 C σ (E σ))
  (hdb:(x == ("__debug__":Str))=false):PE C (.Call (.Name x p) [] [] pos) (tCallS sp E tNil):=by
 refine ⟨fun pins s σ H Q I h=>?_⟩
 refine wpAny_Call_Name_kw (ld_glob I hg hm ?_ hdb)
 exact PySem.W.callWith_K0 I.kIn hk (run_fnS (us:=[]) F hr hb (hx σ) I .nil h)
theorem vU (B:Gd C S G W) (hh:S.hot=false) {j:Nat} {x:Str} {p:Pos} (hx:S.cs[j]?=some x) (hg:dc S.sc x=true) (hn:fN x=true) :
  PE C (.Call (.Name x p) [] [] pos) (rd G.gm W (.call j .nil)):=by
 cases ef:G.fs[j]? with
 | none =>
  refine PE.imp (t:=fun _ _ _=>False) ⟨fun _ _ _ _ _ _ h=>h.elim⟩ ?_
  rintro σ H Q ⟨g,l,s,SS,h⟩
  have h:ValE G.gm W g σ l (b9 G.fs G.gs (.call j .nil) l s) Q:=h
  simp only [b9,ef] at h
  exact h
 | some F =>
  obtain ⟨a,fd,ps,hF,hm,hk,hb⟩:=B.fns hh j x F hx ef
  refine PE.imp (rX hF (B.room hh) (B.gl hg) hm hk hb (fun σ=>passAt B.tk σ) (dX hn)) ?_
  rintro σ H Q ⟨g,l,s,SS,h⟩
  have h:ValE G.gm W g σ l (b9 G.fs G.gs (.call j .nil) l s) Q:=h
  simp only [b9,ef,fE,R.bind] at h
  have h1:=ValE.toR h
  show _∨_
  refine .inl ⟨g.F,[],SS.sF,SS.st.lv,trivial,?_⟩
  cases er:F.run [] with
  | ok q =>
   obtain ⟨d,t⟩:=q
   simp only [er] at h1
   intro F' H' v sm sF em ex rr
   obtain ⟨S2,e2⟩:=SS.call sm sF em ex
   refine h1 _ e2 v H' S2 ?_
   cases t with
   | fr=>exact rr
   | nw =>
    obtain ⟨p',rfl,q1,q2,q3⟩:=rr
    exact ⟨p',rfl,⟨q1,fun n q=>SS.freeM q2 n (by rw [← em]; exact q)⟩,SS.freeB q2,q3,SS.noown q2⟩
   | bo=>exact rr.elim
   | ow=>exact rr.elim
  | er e s' l' =>
   simp only [er] at h1
   intro H' c dd sm ex
   exact h1 g H' c dd (.refl g) (SS.heap sm) ex
  | no =>
   simp only [er] at h1
   exact h1

def offB (F:Fr) (H:Hp):Hp:=fun a=>match F.m a with
 | none=>H a
 | some _=>none
theorem iQ {F:Fr} {H:Hp} {a:Addr} (h:∀ n,F.m a≠some n):offB F H a=H a:=by
 unfold offB
 cases e:F.m a with
 | none=>rfl
 | some n=>exact absurd e (h n)
theorem mP {F:Fr} {H:Hp} {a:Addr} {n:Nat} (h:F.m a=some n):offB F H a=none:=by
 unfold offB
 rw [h]
theorem qC {F:Fr} {H:Hp}:Same (offB F H) H:=fun a u e=>by
 cases q:F.m a with
 | none=>rw [iQ (fun n z=>by rw [q] at z; cases z)] at e; exact e
 | some n=>rw [mP q] at e; cases e
section
variable {Y:Wd} {g:Gh} {σ:L2.St} {H H':Hp} {l:Lc} {s s':cj}
theorem SR.offB (S:SR Y g σ H l s) (hs:s≠[]):Same g.B (offB g.F H):=fun a u e=>by
 have hm:∀ n,g.F.m a≠some n:=fun n q=>by
  have:=(S.st.lt hs a n q).2
  rw [e] at this
  cases this
 rw [iQ hm]
 exact S.sB a u e
theorem SR.stB (S:SR Y g σ H l s) (hs:s≠[]):StR Y ⟨g.F,GM.offB g.F H,g.F.m⟩ H s where
 at_:=fun n c q=>(S.st.at_ n c q).mono (Fr.le.refl _) (fun a k=>⟨k.m,k.u,k.f,mP k.m⟩) fun a u _ h=>h
 lv:=S.st.lv
 lt:=fun h a n q=>⟨(S.st.lt h a n q).1,mP q⟩
 no:=fun _=>rfl
 mb:=fun a n q=>q

theorem SR.callT (S:SR Y g σ H l s) (hs:s≠[]) (hs':s'≠[]) {F':Fr} (e:Same (GM.offB g.F H) H') (eF:Same F'.h H') (ex:Ext ⟨g.F,GM.offB g.F H,g.F.m⟩ ⟨F',GM.offB g.F H,g.F.m⟩) (st:StR Y ⟨F',GM.offB g.F H,g.F.m⟩ H' s') :
  SR Y ⟨F',g.B,g.M⟩ σ H' l s'∧Ext g ⟨F',g.B,g.M⟩:=by
 have sB:=S.offB hs
 have own:∀ p,(∀ n,g.F.m p≠some n)→(H p).isSome=true→g.F.h p=none→(∀ u,H p=some u→H' p=some u)∧F'.h p=none∧∀ n,F'.m p≠some n:=fun p hm hp hf=>by
  obtain ⟨u,hu⟩:=aZ.mp hp
  have hB:GM.offB g.F H p=some u:=by rw [iQ hm]; exact hu
  refine ⟨fun w hw=>?_,?_,fun n q=>?_⟩
  ·rw [hu] at hw
   cases hw
   exact e p u hB
  ·cases q:F'.h p with
   | none=>rfl
   | some o =>
    have z:GM.offB g.F H p=none:=ex.new p o q hf
    rw [hB] at z
    cases z
  ·have z:GM.offB g.F H p=none:=(st.lt hs' p n q).2
   rw [hB] at z
   cases z
 refine ⟨⟨sB.trans e,eF,S.len,fun i z hz=>?_,S.ow,⟨fun n c q=>?_,st.lv,fun h a n q=>⟨(st.lt h a n q).1,?_⟩,fun h=>absurd h hs',fun a n q=>ex.f.m a n (S.st.mb a n q)⟩⟩,⟨rfl,ex.f,fun a o h1 h2=>?_,rfl⟩⟩
 ·obtain ⟨v,h1,h2⟩:=S.sl i z hz
  refine ⟨v,h1,?_⟩
  obtain ⟨k,d⟩:=z
  cases k with
  | fr=>exact Rp.mono ex.f h2
  | bo=>exact h2.imp (fun q=>q.mono ex.f) fun q=>q.mono ex.f (Same.refl _)
  | ow =>
   obtain ⟨tp,no⟩:=h2
   obtain ⟨a,rfl,hp⟩:=tp.isRef
   obtain ⟨n1,n2,n3⟩:=no a rfl
   obtain ⟨k1,k2,k3⟩:=own a n3 hp n1
   exact ⟨tp.at ex.f k1,fun b eb=>by cases eb; exact ⟨k2,n2,k3⟩⟩
  | nw=>exact h2
 ·exact (st.at_ n c q).mono (Fr.le.refl _) (fun a k=>⟨k.m,k.u,k.f,by
   cases z:g.B a with
   | none=>rfl
   | some u =>
    have y:GM.offB g.F H a=none:=k.b
    rw [sB a u z] at y
    cases y⟩) fun a u _ h=>h
 ·cases z:g.B a with
  | none=>rfl
  | some u =>
   have y:GM.offB g.F H a=none:=(st.lt h a n q).2
   rw [sB a u z] at y
   cases y
 ·have hB:GM.offB g.F H a=none:=ex.new a o h1 h2
  cases z:g.B a with
  | none=>rfl
  | some u =>
   rw [sB a u z] at hB
   cases hB
end
theorem AR.argT {Y:Wd} {g:Gh} {σ:L2.St} {H:Hp} {l:Lc} {s:cj} (S:SR Y g σ H l s) (hs:s≠[]):∀ {kp:List Bool} {ds:List D} {vs:List V},AR Y g σ l kp ds vs→ArgR Y ⟨g.F,offB g.F H,g.F.m⟩ kp ds vs
 | _,[],[],_=>trivial
 | kp,d :: ds,v :: vs,h=>by
  refine ⟨?_,AR.argT S hs h.2.2⟩
  split
  ·exact h.2.1 (by assumption)
  ·rcases h.1 with q | q | ⟨i,h1,h2⟩
   ·exact .inl q
   ·exact .inr (q.mono (Fr.le.refl _) (S.offB hs))
   ·obtain ⟨tp,no⟩:=S.own h1 h2
    obtain ⟨a,rfl,hp⟩:=tp.isRef
    exact .inr (tp.at (H':=offB g.F H) (Fr.le.refl _) fun u hu=>by rw [iQ (no a rfl).2.2]; exact hu)
 | _,[],_ :: _,h=>h.elim
 | _,_ :: _,[],h=>h.elim
theorem yz (B:Gd C S G W) (hh:S.hot=false) {j:Nat} {x:Str} {p:Pos} (hx:S.cs[j]?=some x) (hg:dc S.sc x=true) (hn:fN x=true) (hs:b8 e=true) (hs2:es.all b8=true) (ha:∀ kp,PA C (e :: es) (tF G.gm W xa kp)) :
  PE C (.Call (.Name x p) (e :: es) [] pos) (rd G.gm W (.calS j xa)):=by
 cases ef:G.fs[j]? with
 | none =>
  refine PE.imp (t:=fun _ _ _=>False) ⟨fun _ _ _ _ _ _ h=>h.elim⟩ ?_
  rintro σ H Q ⟨g,l,s,SS,h⟩
  have h:ValE G.gm W g σ l (b9 G.fs G.gs (.calS j xa) l s) Q:=h
  simp only [b9,ef] at h
  exact h
 | some F =>
  obtain ⟨a,fd,ps,hF,hm,hk,hb⟩:=B.fns hh j x F hx ef
  refine PE.imp (pe_callS hF (B.room hh) (B.gl hg) hm hk hb (fun σ=>passAt B.tk σ) (ha F.kp) (dX hn) (b6 hs) (du hs2)) ?_
  rintro σ H Q ⟨g,l,s,SS,h⟩
  have h:ValE G.gm W g σ l (b9 G.fs G.gs (.calS j xa) l s) Q:=h
  simp only [b9,ef] at h
  refine gj SS (show ValR G.gm W g σ ((fE G.fs G.gs xa F.kp l s).bind _) (KE G.gm σ l Q) from ValE.toR h) fun ds s1 g1 vs H1 e1 S1 r1 h1=>?_
  have h1:ValR G.gm W g1 σ (if s1=[] then .no else match F.runS ds s1 with
   | .ok (d,t,c :: s2)=>.ok (d,t,c :: s2)
   | .er e (c :: s2) _=>.er e (c :: s2) l
   | _=>.no) (KE G.gm σ l Q):=h1
  split at h1
  ·exact h1.elim
  rename_i hs1
  refine .inr ⟨g1.F,offB g1.F H1,ds,s1,hs1,qC,S1.sF,S1.stB hs1,r1.argT S1 hs1,?_⟩
  cases er:F.runS ds s1 with
  | ok q =>
   obtain ⟨d,t,s2⟩:=q
   rw [er] at h1
   cases s2 with
   | nil=>exact h1.elim
   | cons c s2 =>
   refine ⟨by simp,fun F' H' v sm sF ex st rr=>?_⟩
   obtain ⟨S2,e2⟩:=S1.callT hs1 (by simp) sm sF ex st
   refine h1 _ e2 v H' S2 ?_
   cases t with
   | fr=>exact rr
   | nw =>
    obtain ⟨p',rfl,q1,q2,q3⟩:=rr
    refine ⟨p',rfl,q1,?_,q3,fun i d' k1 k2=>?_⟩
    ·cases z:g1.B p' with
     | none=>rfl
     | some u =>
      rw [S1.offB hs1 p' u z] at q2
      cases q2
    ·obtain ⟨tp,no⟩:=S1.own k1 k2
     obtain ⟨a',e',hp⟩:=tp.isRef
     cases e'
     rw [iQ (no _ rfl).2.2] at q2
     rw [q2] at hp
     cases hp
   | bo=>exact rr.elim
   | ow=>exact rr.elim
  | er ee s' l' =>
   rw [er] at h1
   cases s' with
   | nil=>exact h1.elim
   | cons c s' =>
   refine ⟨by simp,fun F' H' c2 dd sm sF ex st xr=>?_⟩
   obtain ⟨S2,e2⟩:=S1.callT hs1 (by simp) sm sF ex st
   exact h1 _ H' c2 dd e2 S2 xr
  | no =>
   rw [er] at h1
   exact h1

theorem yA {Y:Wd} {g:Gh} {σ:L2.St} {H:Hp} {l:Lc} {s:cj} {d:D} {v:V} {n:String} (S:SR Y g σ H l s) (h:RdV Y g.F H d v) (e:d.ty=some n):TyX Y.K H v (.type n):=by
 cases d with
 | non=>cases (ad e); obtain rfl:=h.non; exact .base .non
 | bl b=>cases (ad e); obtain rfl:=h.bl; exact .base (.bl b)
 | int b=>cases (ad e); obtain rfl:=h.int; exact .base (.int b)
 | str b=>cases (ad e); obtain rfl:=h.str; exact .base (.str b)
 | tup ds=>cases (ad e); obtain ⟨a,vs,rfl,_,ha,_⟩:=h.tup S; exact let ⟨_,_,ha⟩:=ha; .fTuple ha
 | lst ds=>cases (ad e); obtain ⟨a,vs,rfl,ha,_⟩:=h.lst S; exact .base (.lst ha)
 | arr ds=>cases e
 | dic k ps =>
  cases k with
  | false=>cases (ad e); obtain ⟨a,vs,rfl,ha,_⟩:=h.dk S; exact .base (.dK ha)
  | true=>cases e
 | loc n=>cases e
 | exc n=>cases e
 | fdc n=>cases e
 | cd n=>cases e
theorem Ty.nmOk (t:Ty):Str.ofString t.nm≠"__name__"∧(Str.ofString t.nm == ("__debug__":Str))=false∧Str.ofString t.nm∈blts∧bootBuiltins (Str.ofString t.nm)=some (.type t.nm):=by cases t <;> symm
theorem yB (t:Ty) (d:D) {n:String} (e:d.ty=some n):kitB n t.nm=some (n == t.nm || (n == "bool" && t.nm == "int")):=by
 cases d with
 | dic k ps =>
  cases k with
  | false=>cases (ad e); cases t <;> symm
  | true=>cases e
 | _=>first | (cases e; done) | (cases (ad e); cases t <;> symm)
theorem BC (B:Gd C S G W) (t:Ty) {p p2:Pos} (hg:dc S.sc "isinstance"=true) (hg2:dc S.sc (Str.ofString t.nm)=true) (hs:b8 e=true) (ha:PE C e (rd G.gm W xa)) :
  PE C (.Call (.Name "isinstance" p) [e,.Name (Str.ofString t.nm) p2] [] pos) (rd G.gm W (.isi xa t)):=by
 have ht:=t.nmOk
 have hb:PE C (.Name (Str.ofString t.nm) p2) (tC (.ty t.nm)):=pe_bltn (v:=.ty t.nm) (u:=.type t.nm) (B.gl hg2) (B.blt _ ht.2.2.1) ht.2.2.2 rfl ht.1 ht.2.1
 refine PE.imp (pe_callB call_isi (B.gl hg) (B.blt _ (by symm)) (by symm) (pa_cons ha (pa_cons hb pa_nil) (b6 hs)) (by decide) (by decide) (b6 hs) (by rfl)) ?_
 rintro σ H Q ⟨g,l,s,SS,h⟩
 refine cB SS (show ValE G.gm W g σ l ((b9 G.fs G.gs xa l s).bind _) Q from h) fun d t2 s1 g1 v H1 e1 S1 v1 h1=>?_
 have h1:ValE G.gm W g1 σ l (match Ty.run t d with | some b=>cr (.bl b) s1 | none=>.no) Q:=h1
 cases en:d.ty with
 | none =>
  have:Ty.run t d=none:=by unfold Ty.run; rw [en]; rfl
  rw [this] at h1
  exact h1.elim
 | some n =>
  have e2:Ty.run t d=some (n == t.nm || (n == "bool" && t.nm == "int")):=by unfold Ty.run; rw [en]; rfl
  rw [e2] at h1
  have ty:=yA S1 (v1.rd S1) en
  rw [show G.gm.Y.K=C.K from B.hK] at ty
  exact ⟨v,.ty t.nm,.type n,.type t.nm,_,rfl,.ty t.nm,ty,kit_ty (yB t d en),h1.frz S1 (.bl _)⟩

def js (G:Gm) (W:WX) (x:X):TT:=fun σ H Q=>∃ g l s,SR G.Y g σ H l s∧ValR G W g σ (b9 G.fs G.gs x l s) (fun p g'=>∃ b,p.1=.bl b∧∀ H',SR G.Y g' σ H' l p.2.2→Q b H')
theorem mQ {σ:L2.St} {H:Hp} {Q:Bool→Hp→Prop} (h:js G.gm W xa σ H Q):rd G.gm W xa σ H (fun x H'=>∃ k,x=.bl k∧Q k H'):=by
 obtain ⟨g,l,s,SS,h⟩:=h
 refine ⟨g,l,s,SS,?_⟩
 cases e:b9 G.fs G.gs xa l s with
 | ok p =>
  obtain ⟨d,t,s1⟩:=p
  have h:ValR G.gm W g σ (b9 G.fs G.gs xa l s) _:=h
  rw [e] at h
  intro g1 v H1 e1 S1 v1
  obtain ⟨b,eb,q⟩:=h g1 e1
  have eb:d=.bl b:=eb
  subst eb
  obtain ⟨g2,e2,S2,q2⟩:=VR.stay S1 v1
  exact ⟨b,(q2.rd S2).bl,q H1 S1⟩
 | er a b c =>
  have h:ValR G.gm W g σ (b9 G.fs G.gs xa l s) _:=h
  rw [e] at h
  exact h
 | no =>
  have h:ValR G.gm W g σ (b9 G.fs G.gs xa l s) _:=h
  rw [e] at h
  exact h

theorem cA {he:∀ whole,isTrue e C.env whole=(do let v ← whole; standAt e.pos; holding [v] (truthy v))} (ha:PE C e (rd G.gm W xa)):PT C e (js G.gm W xa):=PT.imp (pt_val ha he) fun σ H Q h=>mQ h
theorem BD (B:Gd C S G W) (o:COp) (hk:jT o b=true) (ha:PE C e (rd G.gm W xa)) (hb:PE C b (rd G.gm W xb)):PT C (.Compare e [o.op] [b] pos) (js G.gm W (.cmp o xa xb)) :=
 PT.imp (pt_cmpR (kj (iz B) B.Y o) ha hb (iP hk)) fun σ H Q h=>xK o σ H _ (mQ h)
theorem BE (B:Gd C S G W) (o q:COp) {c:Expr} (hm:lastMarks [o.op,q.op] [b,c]=false) (ha:PE C e (rd G.gm W xa)) (hb:PE C b (rd G.gm W xb)) (hc:PE C c (rd G.gm W xc)) :
  PT C (.Compare e [o.op,q.op] [b,c] pos) (js G.gm W (.chn o q xa xb xc)) :=
 PT.imp (pt_chain (kj (iz B) B.Y o) (kj (iz B) B.Y q) ha hb hc hm) fun σ H Q h=>xL o q σ H _ (mQ h)

theorem gp {g:Gh} {σ:L2.St} {H:Hp} {l:Lc} {s:cj} {α:Type} {k:VT→R α} {K:α→Gh→Prop} (SS:SR G.Y g σ H l s) (h:ValR G.gm W g σ ((b9 G.fs G.gs xa l s).bind k) K) {Q2:Bool→Hp→Prop}
  (hk:∀ d t s1 g1,Ext g g1→ValR G.gm W g1 σ (k (d,t,s1)) K→∃ b,d=.bl b∧∀ H1,SR G.Y g1 σ H1 l s1→Q2 b H1):js G.gm W xa σ H Q2:=by
 refine ⟨g,l,s,SS,?_⟩
 have h:ValR G.gm W g σ ((b9 G.gm.fs G.gm.gs xa l s).bind k) K:=h
 cases e:b9 G.gm.fs G.gm.gs xa l s with
 | ok p =>
  obtain ⟨d,t,s1⟩:=p
  rw [e] at h
  exact fun g1 e1=>hk d t s1 g1 e1 (ValR.ext e1 h)
 | er a b c =>
  rw [e] at h
  exact h
 | no =>
  rw [e] at h
  exact h
theorem BF (ha:PT C e (js G.gm W xa)):PT C (.UnaryOp .Not e pos) (js G.gm W (.not xa)):=by
 refine PT.imp (pt_not ha) ?_
 rintro σ H Q ⟨g,l,s,SS,h⟩
 refine gp SS (show ValR G.gm W g σ ((b9 G.fs G.gs xa l s).bind _) _ from h) fun d t s1 g1 e1 h1=>?_
 cases d with
 | bl b =>
  refine ⟨b,rfl,fun H1 S1=>?_⟩
  obtain ⟨b',eb,q⟩:=h1 g1 (.refl g1)
  cases eb
  exact q H1 S1
 | _=>exact h1.elim
def jX (G:Gm) (W:WX) (es:X):TT:=fun σ H Q=>∃ g l s,SR G.Y g σ H l s∧ValR G W g σ (fV G.fs G.gs es l s) (fun p g'=>∀ H',SR G.Y g' σ H' l p.2→Q p.1 H')
def md (G:Gm) (W:WX) (es:X):TT:=fun σ H Q=>∃ g l s,SR G.Y g σ H l s∧ValR G W g σ (iw G.fs G.gs es l s) (fun p g'=>∀ H',SR G.Y g' σ H' l p.2→Q p.1 H')
theorem yC (ha:PT C e (js G.gm W xa)):PW C (.BoolOp .And [e] pos) (jX G.gm W #v[xa]):=by
 refine ⟨fun wh pins s σ H Q I q=>(pw_and1 ha).run wh pins s σ H Q I ?_⟩
 obtain ⟨g,l,sto,SS,h⟩:=q
 refine gp SS (show ValR G.gm W g σ ((b9 G.fs G.gs xa l sto).bind _) _ from h) fun d t s1 g1 e1 h1=>?_
 cases d with
 | bl b =>
  refine ⟨b,rfl,fun H1 S1=>?_⟩
  cases b with
  | true=>exact h1 g1 (.refl g1) H1 S1
  | false=>exact h1 g1 (.refl g1) H1 S1
 | _=>exact h1.elim
theorem BG (ha:PT C e (js G.gm W xa)) (hb:PW C (.BoolOp .And (b :: es) pos) (jX G.gm W xb)):PW C (.BoolOp .And (e :: b :: es) pos) (jX G.gm W (.cons xa xb)):=by
 refine ⟨fun wh pins s σ H Q I q=>(pw_and ha hb).run wh pins s σ H Q I ?_⟩
 obtain ⟨g,l,sto,SS,h⟩:=q
 refine gp SS (show ValR G.gm W g σ ((b9 G.fs G.gs xa l sto).bind _) _ from h) fun d t s1 g1 e1 h1=>?_
 cases d with
 | bl b =>
  refine ⟨b,rfl,fun H1 S1=>?_⟩
  cases b with
  | true=>exact (aj rfl).symm ▸ (⟨g1,l,s1,S1,h1⟩:jX G.gm W xb σ H1 Q)
  | false=>exact (aq aa).symm ▸ (h1 g1 (.refl g1) H1 S1)
 | _=>exact h1.elim
theorem BH (ha:PT C e (js G.gm W xa)):PW C (.BoolOp .Or [e] pos) (md G.gm W #v[xa]):=by
 refine ⟨fun wh pins s σ H Q I q=>(pw_or1 ha).run wh pins s σ H Q I ?_⟩
 obtain ⟨g,l,sto,SS,h⟩:=q
 refine gp SS (show ValR G.gm W g σ ((b9 G.fs G.gs xa l sto).bind _) _ from h) fun d t s1 g1 e1 h1=>?_
 cases d with
 | bl b =>
  refine ⟨b,rfl,fun H1 S1=>?_⟩
  cases b with
  | true=>exact h1 g1 (.refl g1) H1 S1
  | false=>exact h1 g1 (.refl g1) H1 S1
 | _=>exact h1.elim
theorem EF (ha:PT C e (js G.gm W xa)) (hb:PW C (.BoolOp .Or (b :: es) pos) (md G.gm W xb)):PW C (.BoolOp .Or (e :: b :: es) pos) (md G.gm W (.cons xa xb)):=by
 refine ⟨fun wh pins s σ H Q I q=>(pw_or ha hb).run wh pins s σ H Q I ?_⟩
 obtain ⟨g,l,sto,SS,h⟩:=q
 refine gp SS (show ValR G.gm W g σ ((b9 G.fs G.gs xa l sto).bind _) _ from h) fun d t s1 g1 e1 h1=>?_
 cases d with
 | bl b =>
  refine ⟨b,rfl,fun H1 S1=>?_⟩
  cases b with
  | true=>exact (aj rfl).symm ▸ (h1 g1 (.refl g1) H1 S1)
  | false=>exact (aq aa).symm ▸ (⟨g1,l,s1,S1,h1⟩:md G.gm W xb σ H1 Q)
 | _=>exact h1.elim
theorem vV (h:PW C e (jX G.gm W xa)):PT C e (js G.gm W (.and xa)):=by
 refine PT.imp h.pt ?_
 rintro σ H Q ⟨g,l,s,SS,h⟩
 refine ⟨g,l,s,SS,?_⟩
 have h:ValR G.gm W g σ ((fV G.gm.fs G.gm.gs xa l s).bind fun (b,s1)=>cr (.bl b) s1) (fun p g'=>∃ b,p.1=.bl b∧∀ H',SR G.Y g' σ H' l p.2.2→Q b H'):=h
 cases e:fV G.gm.fs G.gm.gs xa l s with
 | ok p =>
  rw [e] at h
  intro g1 e1 H1 S1
  obtain ⟨b,eb,q⟩:=h g1 e1
  cases eb
  exact q H1 S1
 | er a b c=>rw [e] at h; exact h
 | no=>rw [e] at h; exact h
theorem yD (h:PW C e (md G.gm W xa)):PT C e (js G.gm W (.or xa)):=by
 refine PT.imp h.pt ?_
 rintro σ H Q ⟨g,l,s,SS,h⟩
 refine ⟨g,l,s,SS,?_⟩
 have h:ValR G.gm W g σ ((iw G.gm.fs G.gm.gs xa l s).bind fun (b,s1)=>cr (.bl b) s1) (fun p g'=>∃ b,p.1=.bl b∧∀ H',SR G.Y g' σ H' l p.2.2→Q b H'):=h
 cases e:iw G.gm.fs G.gm.gs xa l s with
 | ok p =>
  rw [e] at h
  intro g1 e1 H1 S1
  obtain ⟨b,eb,q⟩:=h g1 e1
  cases eb
  exact q H1 S1
 | er a b c=>rw [e] at h; exact h
 | no=>rw [e] at h; exact h

theorem BJ {c:Expr} (hc:PT C c (js G.gm W xc)) (ha:PE C e (rd G.gm W xa)) (hb:PE C b (rd G.gm W xb)):PE C (.IfExp c e b pos) (rd G.gm W (.ite xc xa xb)):=by
 refine PE.imp (pe_ifExp hc ha hb) ?_
 rintro σ H Q ⟨g,l,s,SS,h⟩
 refine gp SS (show ValR G.gm W g σ ((b9 G.fs G.gs xc l s).bind _) (KE G.gm σ l Q) from ValE.toR h) fun d t s1 g1 e1 h1=>?_
 cases d with
 | bl b =>
  refine ⟨b,rfl,fun H1 S1=>?_⟩
  cases b with
  | true=>exact (aj rfl).symm ▸ (⟨g1,l,s1,S1,ValE.ofR h1⟩:rd G.gm W xa σ H1 Q)
  | false=>exact (aq aa).symm ▸ (⟨g1,l,s1,S1,ValE.ofR h1⟩:rd G.gm W xb σ H1 Q)
 | _=>exact h1.elim
end
theorem pH {r:R VT} {d d':D} {t t':Tag} {s s':cj} (h:r=.ok (d,t,s)) (h':r=.ok (d',t',s')):d=d':=by
 rw [h] at h'
 injection h' with e
 exact (bZ e).1


structure ExtW (g g':Gh):Prop where
 f:g.F.le g'.F
 b:Same g.B g'.B
theorem ExtW.refl (g:Gh):ExtW g g:=⟨Fr.le.refl _,Same.refl _⟩
theorem ExtW.trans {a b c:Gh} (x:ExtW a b) (y:ExtW b c):ExtW a c:=⟨x.f.trans y.f,x.b.trans y.b⟩
theorem Ext.w {g g':Gh} (e:Ext g g'):ExtW g g':=⟨e.f,by rw [e.b]; exact Same.refl _⟩

def Wk (Y:Wd) (J:It) (g0:Gh) (ds:List D):Prop:=∀ g i σ H l s,ExtW g0 g→SR Y g σ H l s →
 (∀ d,ds[i]?=some d→J.go i H∧∀ x H',J.yld i H x H'→∃ g',Ext g g'∧Same H H'∧SR Y g' σ H' l s∧Rp Y g'.F d x)∧(i=ds.length→J.stop i H)
theorem gq {H:Hp} {p:Addr} {o:HO} (hp:H p=none):Same H (upd H p o):=fun b u e=>by
 rw [upd_ne (ne_of_none e hp)]
 exact e
theorem Wk.ext {Y:Wd} {J:It} {g0 g1:Gh} {ds:List D} (e:ExtW g0 g1) (w:Wk Y J g0 ds):Wk Y J g1 ds:=fun g i σ H l s e1 S=>w g i σ H l s (e.trans e1) S
def KI (G:Gm) (σ:L2.St) (l:Lc) (R:It→Hp→Prop):List D × cj→Gh→Prop:=fun p g'=>∀ J H',SR G.Y g' σ H' l p.2→Wk G.Y J g' p.1→R J H'
def nJ (G:Gm) (W:WX) (x:X):TI:=fun σ H R=>∃ g l s,SR G.Y g σ H l s∧ValR G W g σ (gM G.fs G.gs x l s) (KI G σ l R)

def PV (Y:Wd) (g:Gh) (d:D) (v:V):Prop:=Rp Y g.F d v∨TpW Y g.F g.B d v
theorem VR.pv {Y:Wd} {g:Gh} {σ:L2.St} {H:Hp} {l:Lc} {s:cj} {d:D} {t:Tag} {v:V} (S:SR Y g σ H l s) (h:VR Y g σ H l d t v) (ht:t≠.ow):∃ g',Ext g g'∧SR Y g' σ H l s∧PV Y g' d v:=by
 cases t with
 | fr=>exact ⟨g,.refl g,S,.inl h⟩
 | bo=>exact ⟨g,.refl g,S,h⟩
 | ow=>exact absurd rfl ht
 | nw =>
  obtain ⟨g',E,S',r⟩:=VN.keep S h
  exact ⟨g',E,S',.inl r⟩
theorem PV.ext {Y:Wd} {g g':Gh} {d:D} {v:V} (e:Ext g g') (h:PV Y g d v):PV Y g' d v:=h.imp (fun q=>q.mono e.f) fun q=>by rw [e.b]; exact q.mono e.f (Same.refl _)
theorem PV.rd {Y:Wd} {g:Gh} {σ:L2.St} {H:Hp} {l:Lc} {s:cj} {d:D} {v:V} (S:SR Y g σ H l s) (h:PV Y g d v):RdV Y g.F H d v:=h.imp id fun q=>q.mono (Fr.le.refl _) S.sB

theorem PV.lst {Y:Wd} {g:Gh} {ds:List D} {v:V} (h:PV Y g (.lst ds) v):∃ a vs,v=.ref a∧Rps Y g.F ds vs∧∀ g' σ H l s,ExtW g g'→SR Y g' σ H l s→H a=some (.lst vs):=by
 rcases h with h | h
 ·cases h with
  | lst h r=>exact ⟨_,_,rfl,r,fun g' σ H l s e S=>S.sF _ _ (e.f.s _ _ h)⟩
 ·cases h with
  | lst h r=>exact ⟨_,_,rfl,r,fun g' σ H l s e S=>S.sB _ _ (e.b _ _ h)⟩
theorem PV.tup {Y:Wd} {g:Gh} {ds:List D} {v:V} (h:PV Y g (.tup ds) v):∃ a vs,v=.ref a∧Rps Y g.F ds vs∧∀ g' σ H l s,ExtW g g'→SR Y g' σ H l s→TuF H a vs:=by
 rcases h with h | h
 ·cases h with
  | tup h r=>exact ⟨_,_,rfl,r,fun g' σ H l s e S=>(h.mono e.f.s).mono S.sF⟩
 ·cases h
theorem PV.str {Y:Wd} {g:Gh} {x:Str} {v:V} (h:PV Y g (.str x) v):v=.str x:=by
 rcases h with h | h <;> cases h
 rfl
theorem k8 {K:PySem.W.Frag} {H:Hp} {a:Addr} {xs:List V} (h:H a=some (.lst xs)):SqL K H a xs:=.inl (.inl h)
theorem vW {Y:Wd} {g0:Gh} {ds:List D} {a:Addr} {vs:List V} (r:Rps Y g0.F ds vs) (h:∀ g' σ H l s,ExtW g0 g'→SR Y g' σ H l s→H a=some (.lst vs)):Wk Y (Itl Y.K a) g0 ds:=by
 intro g i σ H l s e S
 have ha:=h g σ H l s e S
 refine ⟨fun d hd=>?_,fun hi=>⟨vs,k8 ha,by rw [← r.length,hi]; exact ax _⟩⟩
 obtain ⟨v,hv,rv⟩:=r.get hd
 refine ⟨⟨vs,v,k8 ha,hv⟩,fun x H' y=>?_⟩
 obtain ⟨rfl,y⟩:=y
 obtain rfl:v=x:=ad (hv.symm.trans (y vs (k8 ha)))
 exact ⟨g,.refl g,Same.refl _,S,rv.mono e.f⟩
theorem yE {Y:Wd} {g0:Gh} {ds:List D} {a:Addr} {vs:List V} (r:Rps Y g0.F ds vs) (h:∀ g' σ H l s,ExtW g0 g'→SR Y g' σ H l s→TuF H a vs):Wk Y (Itt Y.K a) g0 ds:=by
 intro g i σ H l s e S
 have ha:=h g σ H l s e S
 have sq:SqT Y.K H a vs:=ha.sq
 refine ⟨fun d hd=>?_,fun hi=>⟨vs,sq,by rw [← r.length,hi]; exact ax _⟩⟩
 obtain ⟨v,hv,rv⟩:=r.get hd
 refine ⟨⟨vs,v,sq,hv⟩,fun x H' y=>?_⟩
 obtain ⟨rfl,y⟩:=y
 obtain rfl:v=x:=ad (hv.symm.trans (y vs sq))
 exact ⟨g,.refl g,Same.refl _,S,rv.mono e.f⟩
theorem yF {Y:Wd} {g0:Gh} {x:Str}:Wk Y (Its x) g0 (x.cps.toList.map D.sgn):=by
 intro g i σ H l s e S
 refine ⟨fun d hd=>?_,fun hi=>?_⟩
 ·rw [aD,aA] at hd
  obtain ⟨c,hc,rfl⟩:=hd
  rw [Array.getElem?_toList] at hc
  have hlt:i < x.cps.size:=(bA.mp hc).1
  refine ⟨hlt,fun v H' y=>?_⟩
  obtain ⟨rfl,c',hc',rfl⟩:=y
  obtain rfl:c=c':=ad (hc.symm.trans hc')
  exact ⟨g,.refl g,Same.refl _,S,.str _⟩
 ·show x.cps.size≤i
  rw [hi,ac,bf]
  exact ax _
theorem tH {Y:Wd} {g0:Gh} {lo:Int} {n:Nat}:Wk Y (Itr lo n) g0 (gL lo n):=by
 intro g i σ H l s e S
 refine ⟨fun d hd=>?_,fun hi=>?_⟩
 ·unfold gL at hd
  rw [aD,aA] at hd
  obtain ⟨k,hk,rfl⟩:=hd
  have hlt:i < n:=by
   have:=(au.mp hk).1
   rwa [am] at this
  rw [be hlt] at hk
  obtain rfl:=ad hk
  refine ⟨hlt,fun v H' y=>?_⟩
  obtain ⟨rfl,rfl⟩:=y
  exact ⟨g,.refl g,Same.refl _,S,.int _⟩
 ·show n≤i
  rw [hi]
  unfold gL
  rw [ac,am]
  exact ax _
theorem vX {Y:Wd} {g0:Gh} {lo:Int} {n:Nat}:Wk Y (Itc lo (-1) n) g0 (sZ lo n):=by
 intro g i σ H l s e S
 refine ⟨fun d hd=>?_,fun hi=>?_⟩
 ·unfold sZ at hd
  rw [aD,aA] at hd
  obtain ⟨k,hk,rfl⟩:=hd
  have hlt:i < n:=by
   have:=(au.mp hk).1
   rwa [am] at this
  rw [be hlt] at hk
  obtain rfl:=ad hk
  refine ⟨hlt,fun v H' y=>?_⟩
  obtain ⟨rfl,rfl⟩:=y
  rw [show lo+(i:Nat)*(-1:Int)=lo - (i:Nat) by omega]
  exact ⟨g,.refl g,Same.refl _,S,.int _⟩
 ·show n≤i
  rw [hi]
  unfold sZ
  rw [ac,am]
  exact ax _
theorem pI {α:Type} (xs:List α) (i k:Nat):(xs.zipIdx k)[i]?=(xs[i]?).map fun x=>(x,i+k):=by
 rw [List.getElem?_zipIdx]
 cases xs[i]? with
 | none=>rfl
 | some x=>rw [Nat.add_comm]

theorem qD {Y:Wd} {F:Fr}:∀ cs:List Nat,Rps Y F (cs.map D.sgn) (cs.map fun c=>V.str ⟨#[c]⟩)
 | []=>.nil
 | _ :: r=>.cons (.str _) (qD r)
theorem PV.dw {Y:Wd} {g:Gh} {d:D} {ds:List D} {v:V} (h:PV Y g d v) (e:d.items=some ds):∃ (w:Dw) (vs:List V),v=w.val∧Rps Y g.F ds vs∧∀ g' σ H l s,ExtW g g'→SR Y g' σ H l s→w.on Y.K H vs:=by
 cases d with
 | lst xs =>
  cases e
  obtain ⟨a,vs,rfl,r,hh⟩:=h.lst
  exact ⟨.lst a,vs,rfl,r,fun g' σ H l s e S=>.inl (.inl (hh g' σ H l s e S))⟩
 | tup xs =>
  cases e
  obtain ⟨a,vs,rfl,r,hh⟩:=h.tup
  exact ⟨.tup a,vs,rfl,r,fun g' σ H l s e S=>(hh g' σ H l s e S).sq⟩
 | str x =>
  cases e
  obtain rfl:=h.str
  exact ⟨.str x,_,rfl,qD _,fun g' σ H l s e S=>rfl⟩
 | _=>cases e
theorem qE {Y:Wd} {g0:Gh} {ds:List D} {w:Dw} {vs:List V} (k:Nat) (r:Rps Y g0.F ds vs) (h:∀ g' σ H l s,ExtW g0 g'→SR Y g' σ H l s→w.on Y.K H vs):Wk Y (vF Y.K w k) g0 ((ds.zipIdx k).map fun p=>fU (.int (p.2:Nat)) p.1):=by
 intro g i σ H l s e S
 have ha:=h g σ H l s e S
 refine ⟨fun d hd=>?_,fun hi=>⟨vs,ha,by rw [← r.length,hi,ac,bW]⟩⟩
 rw [aD,pI,Option.map_map,aA] at hd
 obtain ⟨d',hd',rfl⟩:=hd
 obtain ⟨v,hv,rv⟩:=r.get hd'
 refine ⟨⟨vs,v,ha,hv⟩,fun x H' y=>?_⟩
 obtain ⟨T,ob,z,rfl,hT,ho,rfl,y⟩:=y
 obtain rfl:v=z:=ad (hv.symm.trans (y vs ha))
 obtain ⟨S',E'⟩:=S.new (o:=.frz ob (.tup [.int ((k+i:Nat):Int),v])) hT
 have q:Rp Y (g.F.upd T (.frz ob (.tup [.int ((k+i:Nat):Int),v]))) (fU (.int ((k+i:Nat):Int)) d') (.ref T):=.tup (.new ho) #v[.int _,((rv.mono e.f).mono E'.f)]
 rw [Nat.add_comm] at q
 exact ⟨_,E',gq hT,S',by rw [Nat.add_comm]; exact q⟩
theorem yG {Y:Wd} {g0:Gh} {ds es:List D} {w1 w2:Dw} {vs ws:List V} (r:Rps Y g0.F ds vs) (r2:Rps Y g0.F es ws) (h:∀ g' σ H l s,ExtW g0 g'→SR Y g' σ H l s→w1.on Y.K H vs)
  (h2:∀ g' σ H l s,ExtW g0 g'→SR Y g' σ H l s→w2.on Y.K H ws):Wk Y (yh Y.K w1 w2) g0 ((ds.zip es).map fun p=>fU p.1 p.2):=by
 intro g i σ H l s e S
 have ha:=h g σ H l s e S
 have hb:=h2 g σ H l s e S
 refine ⟨fun d hd=>?_,fun hi=>⟨vs,ws,ha,hb,?_⟩⟩
 ·rw [aD,aA] at hd
  obtain ⟨⟨d1,d2⟩,hd',rfl⟩:=hd
  obtain ⟨q1,q2⟩:=List.getElem?_zip_eq_some.mp hd'
  obtain ⟨v,hv,rv⟩:=r.get q1
  obtain ⟨w,hw,rw'⟩:=r2.get q2
  refine ⟨⟨vs,ws,v,w,ha,hb,hv,hw⟩,fun x H' y=>?_⟩
  obtain ⟨T,ob,z,z',rfl,hT,ho,rfl,y1,y2⟩:=y
  obtain rfl:v=z:=ad (hv.symm.trans (y1 vs ha))
  obtain rfl:w=z':=ad (hw.symm.trans (y2 ws hb))
  obtain ⟨S',E'⟩:=S.new (o:=.frz ob (.tup [v,w])) hT
  exact ⟨_,E',gq hT,S',.tup (.new ho) #v[((rv.mono e.f).mono E'.f),((rw'.mono e.f).mono E'.f)]⟩
 ·rw [ac,List.length_zip] at hi
  have e1:=r.length
  have e2:=r2.length
  omega
section
variable {C:Cx} {S:Sc} {G:Gn} {W:WX} {e f b tg:Expr} {es:List Expr} {pos:Pos} {xa xb xc:X}
theorem hW {t t':TI} (h:PI C tg e t) (k:∀ σ H R,t' σ H R→t σ H R):PI C tg e t':=⟨fun pins s σ H R I w=>h.run pins s σ H R I (k σ H R w)⟩
theorem xM {t t':TI} (h:PI C tg e t) (h':PI C tg e t'):PI C tg e (fun σ H R=>t σ H R∨t' σ H R):=⟨fun pins s σ H R I w=>w.elim (h.run pins s σ H R I) (h'.run pins s σ H R I)⟩
theorem fX {g:Gh} {σ:L2.St} {H:Hp} {l:Lc} {s:cj} {α:Type} {k:D→cj→R α} {K:α→Gh→Prop} (SS:SR G.Y g σ H l s) (h:ValR G.gm W g σ (fP (b9 G.fs G.gs xa l s) k) K) {Q2:VK}
  (hk:∀ d t s1 g1 v H1,b9 G.fs G.gs xa l s=.ok (d,t,s1)→Ext g g1→SR G.Y g1 σ H1 l s1→PV G.Y g1 d v→ValR G.gm W g1 σ (k d s1) K→Q2 v H1):rd G.gm W xa σ H Q2:=by
 refine ⟨g,l,s,SS,?_⟩
 have h:ValR G.gm W g σ ((b9 G.gm.fs G.gm.gs xa l s).bind fun (d,t,s)=>if t=.ow then .no else k d s) K:=h
 cases e:b9 G.gm.fs G.gm.gs xa l s with
 | ok p =>
  obtain ⟨d,t,s1⟩:=p
  rw [e] at h
  have h:ValR G.gm W g σ (if t=.ow then .no else k d s1) K:=h
  intro g1 v H1 e1 S1 v1
  split at h
  ·exact h.elim
  ·obtain ⟨g2,e2,S2,q⟩:=v1.pv S1 (by assumption)
   exact hk d t s1 g2 v H1 e (e1.trans e2) S2 q (ValR.ext (e1.trans e2) h)
 | er a b c =>
  rw [e] at h
  exact h
 | no =>
  rw [e] at h
  exact h

theorem rY {g:Gh} {σ:L2.St} {l:Lc} {s:cj} {α:Type} {k:D→cj→R α} {K:α→Gh→Prop} (h:ValR G.gm W g σ (fP (b9 G.fs G.gs xa l s) k) K) :
  (∃ d t s1,b9 G.fs G.gs xa l s=.ok (d,t,s1)∧ValR G.gm W g σ (k d s1) K)∨∃ e s1 l1,b9 G.fs G.gs xa l s=.er e s1 l1:=by
 unfold fP at h
 cases e:b9 G.fs G.gs xa l s with
 | ok p =>
  obtain ⟨d,t,s1⟩:=p
  rw [e] at h
  have h:ValR G.gm W g σ (if t=.ow then .no else k d s1) K:=h
  split at h
  ·exact h.elim
  ·exact .inl ⟨d,t,s1,rfl,h⟩
 | er a b c=>exact .inr ⟨a,b,c,rfl⟩
 | no =>
  rw [e] at h
  exact h.elim
theorem EG (hset:∀ x,foldedSetIterable e C.env x=pure x) (B:Gd C S G W) (ha:PE C e (rd G.gm W xa)):PI C tg e (nJ G.gm W (.it xa)):=by
 refine hW (xM (pi_list ha) (xM (pi_tup ha) (pi_str ha))) ?_
 rintro σ H R ⟨g,l,s,SS,h⟩
 have h:ValR G.gm W g σ (fP (b9 G.fs G.gs xa l s) fun x s1=>match x.items with | some xs=>.ok (xs,s1) | none=>.no) (KI G.gm σ l R):=h
 have hK:G.Y.K=C.K:=B.hK
 rcases rY h with ⟨d,t,s1,e1,q⟩ | ⟨a,b,c,e1⟩
 ·cases d with
  | lst ds =>
   refine .inl (fX SS h fun d' t' s1' g1 v H1 e2 x2 S1 p h1=>?_)
   obtain rfl:=pH e1 e2
   obtain ⟨a,vs,rfl,r,hh⟩:=p.lst
   refine ⟨a,rfl,⟨vs,.inl (.inl (hh g1 σ H1 l s1' (.refl g1) S1))⟩,?_⟩
   have w:=vW (Y:=G.Y) r hh
   rw [hK] at w
   exact h1 g1 (.refl g1) _ H1 S1 w
  | tup ds =>
   refine .inr (.inl (fX SS h fun d' t' s1' g1 v H1 e2 x2 S1 p h1=>?_))
   obtain rfl:=pH e1 e2
   obtain ⟨a,vs,rfl,r,hh⟩:=p.tup
   refine ⟨a,rfl,⟨vs,(hh g1 σ H1 l s1' (.refl g1) S1).sq⟩,?_⟩
   have w:=yE (Y:=G.Y) r hh
   rw [hK] at w
   exact h1 g1 (.refl g1) _ H1 S1 w
  | str x =>
   refine .inr (.inr (fX SS h fun d' t' s1' g1 v H1 e2 x2 S1 p h1=>?_))
   obtain rfl:=pH e1 e2
   exact ⟨x,p.str,h1 g1 (.refl g1) _ H1 S1 yF⟩
  | _=>exact q.elim
 ·refine .inl (fX SS h fun d' t' s1' g1 v H1 e2 x2 S1 p h1=>?_)
  rw [e1] at e2
  cases e2
theorem yH (B:Gd C S G W) {p:Pos} (hg:dc S.sc "range"=true) (hs:b8 e=true) (ha:PE C e (rd G.gm W xa)):PI C tg (.Call (.Name "range" p) [e] [] pos) (nJ G.gm W (.rng1 xa)):=by
 refine hW (pi_range1 (B.gl hg) (B.blt _ (by symm)) (pa_cons ha pa_nil (b6 hs)) (b6 hs)) ?_
 rintro σ H R ⟨g,l,s,SS,h⟩
 refine cS SS (show ValR G.gm W g σ ((b9 G.fs G.gs xa l s).bind _) (KI G.gm σ l R) from h) fun d t s1 g1 v H1 e1 S1 v1 h1=>?_
 cases d with
 | int j =>
  have h1:ValR G.gm W g1 σ (if -(2 ^ 62)≤j∧j < 2 ^ 62 then .ok (gL 0 j.toNat,s1) else .no) (KI G.gm σ l R):=h1
  split at h1
  ·rename_i hj
   exact ⟨j,by rw [(v1.rd S1).int],hj.1,hj.2,h1 g1 (.refl g1) _ H1 S1 tH⟩
  ·exact h1.elim
 | _=>exact h1.elim
theorem yI (B:Gd C S G W) {p:Pos} (hg:dc S.sc "range"=true) (hs:b8 e=true) (hs2:b8 f=true) (ha:PE C e (rd G.gm W xa)) (hb:PE C f (rd G.gm W xb)):PI C tg (.Call (.Name "range" p) [e,f] [] pos) (nJ G.gm W (.rng2 xa xb)):=by
 refine hW (pi_range2 (B.gl hg) (B.blt _ (by symm)) (pa_cons ha (pa_cons hb pa_nil (b6 hs2)) (b6 hs)) ((b6 hs).trans (by rw [b6 hs2]; rfl)) (b6 hs2)) ?_
 rintro σ H R ⟨g,l,s,SS,h⟩
 refine cS SS (show ValR G.gm W g σ ((b9 G.fs G.gs xa l s).bind _) (KI G.gm σ l R) from h) fun d t s1 g1 v H1 e1 S1 v1 h1=>?_
 refine cS S1 (show ValR G.gm W g1 σ ((b9 G.fs G.gs xb l s1).bind _) (KI G.gm σ l R) from h1) fun d2 t2 s2 g2 v2 H2 e2 S2 w1 h2=>?_
 cases d with
 | int i =>
  cases d2 with
  | int j =>
   have h2:ValR G.gm W g2 σ (if -(2 ^ 62)≤i∧i < 2 ^ 62∧-(2 ^ 62)≤j∧j < 2 ^ 62 then .ok (gL i (j - i).toNat,s2) else .no) (KI G.gm σ l R):=h2
   split at h2
   ·rename_i hj
    exact ⟨i,j,by rw [((v1.ext e2).rd S2).int,(w1.rd S2).int],hj,h2 g2 (.refl g2) _ H2 S2 tH⟩
   ·exact h2.elim
  | _=>exact h2.elim
 | _=>cases d2 <;> exact h2.elim
theorem yJ (B:Gd C S G W) {p tpos:Pos} {elts:List Expr} {kk:Nat} (hg:dc S.sc "enumerate"=true) (hs:b8 e=true) (ha:PE C e (rd G.gm W xa)) :
  PI C (.Tuple elts kk tpos) (.Call (.Name "enumerate" p) [e] [] pos) (nJ G.gm W (.enum xa 0)):=by
 refine hW (th (B.gl hg) (B.blt _ (by symm)) (pa_cons ha pa_nil (b6 hs)) (b6 hs)) ?_
 rintro σ H R ⟨g,l,s,SS,h⟩
 have h:ValR G.gm W g σ (fP (b9 G.fs G.gs xa l s) fun x s1=>match x.items with | some xs=>.ok ((xs.zipIdx 0).map fun p=>fU (.int (p.2:Nat)) p.1,s1) | none=>.no) (KI G.gm σ l R):=h
 have hK:G.Y.K=C.K:=B.hK
 refine fX SS h fun d' t' s1' g1 v H1 e2 x2 S1 p h1=>?_
 cases ei:d'.items with
 | none =>
  rw [ei] at h1
  exact h1.elim
 | some ds =>
  rw [ei] at h1
  obtain ⟨q,vs,rfl,r,hh⟩:=p.dw ei
  refine ⟨q,vs,rfl,by rw [← hK]; exact hh g1 σ H1 l s1' (.refl g1) S1,?_⟩
  have w:=qE 0 r hh
  rw [hK] at w
  exact h1 g1 (.refl g1) _ H1 S1 w
theorem vY {n kc:Nat} {q kpos:Pos} (hn:n < 1000) (B:Gd C S G W) {p tpos:Pos} {elts:List Expr} {kk:Nat} (hg:dc S.sc "enumerate"=true) (hs:b8 e=true) (ha:PE C e (rd G.gm W xa)) :
  PI C (.Tuple elts kk tpos) (.Call (.Name "enumerate" p) [e] [⟨some "start",.Constant (.int (n:Nat)) kc q,kpos⟩] pos) (nJ G.gm W (.enumK xa n)):=by
 refine hW (rO hn (B.gl hg) (B.blt _ (by symm)) ha (b6 hs)) ?_
 rintro σ H R ⟨g,l,s,SS,h⟩
 have h:ValR G.gm W g σ (fP (b9 G.fs G.gs xa l s) fun x s1=>match x.items with | some xs=>.ok ((xs.zipIdx n).map fun p=>fU (.int (p.2:Nat)) p.1,s1) | none=>.no) (KI G.gm σ l R):=h
 have hK:G.Y.K=C.K:=B.hK
 refine fX SS h fun d' t' s1' g1 v H1 e2 x2 S1 p h1=>?_
 cases ei:d'.items with
 | none =>
  rw [ei] at h1
  exact h1.elim
 | some ds =>
  rw [ei] at h1
  obtain ⟨q,vs,rfl,r,hh⟩:=p.dw ei
  refine ⟨q,vs,rfl,by rw [← hK]; exact hh g1 σ H1 l s1' (.refl g1) S1,?_⟩
  have w:=qE n r hh
  rw [hK] at w
  exact h1 g1 (.refl g1) _ H1 S1 w
theorem yK (B:Gd C S G W) {p:Pos} (hg:dc S.sc "range"=true) (hs:b8 e=true) (hs2:b8 f=true) (hs3:b8 b=true) (ha:PE C e (rd G.gm W xa)) (hb:PE C f (rd G.gm W xb)) (hc:PE C b (rd G.gm W xc)):PI C tg (.Call (.Name "range" p) [e,f,b] [] pos) (nJ G.gm W (.rng3 xa xb xc)):=by
 refine hW (pi_range3 (B.gl hg) (B.blt _ (by symm)) (pa_cons ha (pa_cons hb (pa_cons hc pa_nil (b6 hs3)) (b6 hs2)) (b6 hs)) (b6 hs) (du (by simp [hs2,hs3]))) ?_
 rintro σ H R ⟨g,l,s,SS,h⟩
 refine cS SS (show ValR G.gm W g σ ((b9 G.fs G.gs xa l s).bind _) (KI G.gm σ l R) from h) fun d t s1 g1 v H1 e1 S1 v1 h1=>?_
 refine cS S1 (show ValR G.gm W g1 σ ((b9 G.fs G.gs xb l s1).bind _) (KI G.gm σ l R) from h1) fun d2 t2 s2 g2 v2 H2 e2 S2 w1 h2=>?_
 refine cS S2 (show ValR G.gm W g2 σ ((b9 G.fs G.gs xc l s2).bind _) (KI G.gm σ l R) from h2) fun d3 t3 s3 g3 v3 H3 e3 S3 w2 h3=>?_
 have h3:ValR G.gm W g3 σ (match d,d2,d3 with
  | .int i,.int j,.int (-1)=>if -(2 ^ 62)≤i∧i < 2 ^ 62∧-(2 ^ 62)≤j∧j < 2 ^ 62 then .ok (sZ i (i - j).toNat,s3) else .no
  | _,_,_=>.no) (KI G.gm σ l R):=h3
 split at h3
 ·rename_i i j hq
  split at h3
  ·rename_i hj
   exact ⟨i,j,-1,_,by rw [((v1.ext (e2.trans e3)).rd S3).int,((w1.ext e3).rd S3).int,(w2.rd S3).int],.neg hj.1 hj.2.1 hj.2.2.1 hj.2.2.2,h3 g3 (.refl g3) _ H3 S3 vX⟩
  ·exact h3.elim
 ·exact h3.elim
theorem BK (B:Gd C S G W) {p tpos:Pos} {elts:List Expr} {kk:Nat} (hg:dc S.sc "zip"=true) (hs:b8 e=true) (hs2:b8 f=true) (ha:PE C e (rd G.gm W xa)) (hb:PE C f (rd G.gm W xb)) :
  PI C (.Tuple elts kk tpos) (.Call (.Name "zip" p) [e,f] [] pos) (nJ G.gm W (.zip xa xb)):=by
 refine hW (vH (B.gl hg) (B.blt _ (by symm)) (pa_cons ha (pa_cons hb pa_nil (b6 hs2)) (b6 hs)) (b6 hs) (du (by simp [hs2]))) ?_
 rintro σ H R ⟨g,l,s,SS,h⟩
 have hK:G.Y.K=C.K:=B.hK
 have h:ValR G.gm W g σ (fP (b9 G.fs G.gs xa l s) fun x s1=>fP (b9 G.fs G.gs xb l s1) fun y s2=>match x.items,y.items with
  | some xs,some ys=>.ok ((xs.zip ys).map fun p=>fU p.1 p.2,s2)
  | _,_=>.no) (KI G.gm σ l R):=h
 refine fX SS h fun d t s1 g1 v H1 e2 x2 S1 p h1=>?_
 refine fX S1 h1 fun d' t' s2 g2 v2 H2 e3 x3 S2 p2 h2=>?_
 cases ei:d.items with
 | none =>
  rw [ei] at h2
  exact h2.elim
 | some ds =>
  cases ej:d'.items with
  | none =>
   rw [ei,ej] at h2
   exact h2.elim
  | some es =>
   rw [ei,ej] at h2
   obtain ⟨a,vs,rfl,r,hh⟩:=(p.ext x3).dw ei
   obtain ⟨b,ws,rfl,r2,hh2⟩:=p2.dw ej
   refine ⟨a,b,vs,ws,rfl,by rw [← hK]; exact hh g2 σ H2 l s2 (.refl g2) S2,by rw [← hK]; exact hh2 g2 σ H2 l s2 (.refl g2) S2,?_⟩
   have w:=yG r r2 hh hh2
   rw [hK] at w
   exact h2 g2 (.refl g2) _ H2 S2 w

def pJ (G:Gm) (W:WX) (x:X):L2.St→Hp→(Int→Int→Hp→Prop)→Prop:=fun σ H Q=>∃ g l s,SR G.Y g σ H l s ∧
 ValR G W g σ (gM G.fs G.gs x l s) (fun p g'=>∀ H' i j,SR G.Y g' σ H' l p.2→p.1=gL i (j - i).toNat→-(2 ^ 62)≤i→i < 2 ^ 62→-(2 ^ 62)≤j→j < 2 ^ 62→Q i j H')
theorem qF {t t':L2.St→Hp→(Int→Int→Hp→Prop)→Prop} (h:PRg C e t) (k:∀ σ H R,t' σ H R→t σ H R):PRg C e t':=fun pins s σ H R I w=>h pins s σ H R I (k σ H R w)
theorem BL (B:Gd C S G W) {p:Pos} (hg:dc S.sc "range"=true) (hs:b8 e=true) (ha:PE C e (rd G.gm W xa)):PRg C (.Call (.Name "range" p) [e] [] pos) (pJ G.gm W (.rng1 xa)):=by
 refine qF (prg_1 (B.gl hg) (B.blt _ (by symm)) ha (b6 hs)) ?_
 rintro σ H R ⟨g,l,s,SS,h⟩
 refine cS SS (show ValR G.gm W g σ ((b9 G.fs G.gs xa l s).bind _) _ from h) fun d t s1 g1 v H1 e1 S1 v1 h1=>?_
 cases d with
 | int j =>
  have h1:ValR G.gm W g1 σ (if -(2 ^ 62)≤j∧j < 2 ^ 62 then .ok (gL 0 j.toNat,s1) else .no) (fun p g'=>∀ H' i j,SR G.Y g' σ H' l p.2→p.1=gL i (j - i).toNat→-(2 ^ 62)≤i→i < 2 ^ 62→-(2 ^ 62)≤j→j < 2 ^ 62→R i j H'):=h1
  split at h1
  ·rename_i hj
   exact ⟨j,(v1.rd S1).int,h1 g1 (.refl g1) H1 0 j S1 (by rw [Int.sub_zero]) (by omega) (by omega) hj.1 hj.2⟩
  ·exact h1.elim
 | _=>exact h1.elim
theorem BM (B:Gd C S G W) {p:Pos} (hg:dc S.sc "range"=true) (hs:b8 e=true) (hs2:b8 f=true) (ha:PE C e (rd G.gm W xa)) (hb:PE C f (rd G.gm W xb)):PRg C (.Call (.Name "range" p) [e,f] [] pos) (pJ G.gm W (.rng2 xa xb)):=by
 refine qF (prg_2 (B.gl hg) (B.blt _ (by symm)) ha hb (b6 hs) (b6 hs2) (du (by simp [hs2]))) ?_
 rintro σ H R ⟨g,l,s,SS,h⟩
 refine cS SS (show ValR G.gm W g σ ((b9 G.fs G.gs xa l s).bind _) _ from h) fun d t s1 g1 v H1 e1 S1 v1 h1=>?_
 refine cS S1 (show ValR G.gm W g1 σ ((b9 G.fs G.gs xb l s1).bind _) _ from h1) fun d2 t2 s2 g2 v2 H2 e2 S2 w1 h2=>?_
 cases d with
 | int i =>
  cases d2 with
  | int j =>
   have h2:ValR G.gm W g2 σ (if -(2 ^ 62)≤i∧i < 2 ^ 62∧-(2 ^ 62)≤j∧j < 2 ^ 62 then .ok (gL i (j - i).toNat,s2) else .no) (fun p g'=>∀ H' i j,SR G.Y g' σ H' l p.2→p.1=gL i (j - i).toNat→-(2 ^ 62)≤i→i < 2 ^ 62→-(2 ^ 62)≤j→j < 2 ^ 62→R i j H'):=h2
   split at h2
   ·rename_i hj
    exact ⟨i,j,((v1.ext e2).rd S2).int,(w1.rd S2).int,h2 g2 (.refl g2) H2 i j S2 rfl hj.1 hj.2.1 hj.2.2.1 hj.2.2.2⟩
   ·exact h2.elim
  | _=>exact h2.elim
 | _=>cases d2 <;> exact h2.elim
theorem qG {Y:Wd} {F:Fr} (i:Int) (n:Nat):Rps Y F (gL i n) ((List.range n).map fun k=>V.int (i+(k:Nat))):=by
 unfold gL
 generalize List.range n=ks
 induction ks with
 | nil=>exact .nil
 | cons k ks ih=>exact .cons (.int _) ih
theorem me {g:Gh} {σ:L2.St} {H:Hp} {l:Lc} {s:cj} {α:Type} {k:List D × cj→R α} {K:α→Gh→Prop} (SS:SR G.Y g σ H l s) (h:ValR G.gm W g σ ((gM G.fs G.gs xa l s).bind k) K) {Q2:Int→Int→Hp→Prop}
  (hk:∀ ds s1 g1 H1 i j,Ext g g1→SR G.Y g1 σ H1 l s1→ds=gL i (j - i).toNat→-(2 ^ 62)≤i→i < 2 ^ 62→-(2 ^ 62)≤j→j < 2 ^ 62→ValR G.gm W g1 σ (k (ds,s1)) K→Q2 i j H1):pJ G.gm W xa σ H Q2:=by
 refine ⟨g,l,s,SS,?_⟩
 have h:ValR G.gm W g σ ((gM G.gm.fs G.gm.gs xa l s).bind k) K:=h
 cases e:gM G.gm.fs G.gm.gs xa l s with
 | ok p =>
  obtain ⟨ds,s1⟩:=p
  rw [e] at h
  exact fun g1 e1 H1 i j S1 e2 h1 h2 h3 h4=>hk ds s1 g1 H1 i j e1 S1 e2 h1 h2 h3 h4 (ValR.ext e1 h)
 | er a b c =>
  rw [e] at h
  exact h
 | no =>
  rw [e] at h
  exact h
theorem yL (B:Gd C S G W) (hh:S.hot=false) {p:Pos} (hg:dc S.sc "tuple"=true) (hs:b8 e=true) (ha:PRg C e (pJ G.gm W xa)):PE C (.Call (.Name "tuple" p) [e] [] pos) (rd G.gm W (.tupI xa)):=by
 refine PE.imp (rK (B.calm hh) (B.gl hg) (B.blt _ (by symm)) ha (b6 hs)) ?_
 rintro σ H Q ⟨g,l,s,SS,h⟩
 refine me SS (show ValR G.gm W g σ ((gM G.fs G.gs xa l s).bind _) (KE G.gm σ l Q) from ValE.toR h) fun ds s1 g1 H1 i j e1 S1 ed q1 q2 q3 q4 h1=>?_
 have h1:ValR G.gm W g1 σ (if ds.length≤16777216 then cr (.tup ds) s1 else .no) (KE G.gm σ l Q):=h1
 split at h1
 ·rename_i hz
  subst ed
  have hz:(j - i).toNat≤2 ^ 24:=by
   unfold gL at hz
   rw [ac,am] at hz
   exact hz
  exact ⟨⟨q1,q2,q3,q4,hz⟩,(ValE.ofR h1).tupN S1 (qG i _)⟩
 ·exact h1.elim
theorem yM (B:Gd C S G W) (hh:S.hot=false) {p:Pos} (hg:dc S.sc "list"=true) (hs:b8 e=true) (ha:PRg C e (pJ G.gm W xa)):PE C (.Call (.Name "list" p) [e] [] pos) (rd G.gm W (.lstI xa)):=by
 refine PE.imp (pe_listRg (B.calm hh) (B.gl hg) (B.blt _ (by symm)) ha (b6 hs)) ?_
 rintro σ H Q ⟨g,l,s,SS,h⟩
 refine me SS (show ValR G.gm W g σ ((gM G.fs G.gs xa l s).bind _) (KE G.gm σ l Q) from ValE.toR h) fun ds s1 g1 H1 i j e1 S1 ed q1 q2 q3 q4 h1=>?_
 have h1:ValR G.gm W g1 σ (if ds.length≤16777216 then dW (.lst ds) s1 else .no) (KE G.gm σ l Q):=h1
 split at h1
 ·rename_i hz
  subst ed
  have hz:(j - i).toNat≤2 ^ 24:=by
   unfold gL at hz
   rw [ac,am] at hz
   exact hz
  exact ⟨⟨q1,q2,q3,q4,hz⟩,fun q hq=>(ValE.ofR h1).lstN S1 (qG i _) hq⟩
 ·exact h1.elim
end
section
variable {Y:Wd} {g g':Gh} {σ:L2.St} {H H':Hp} {l:Lc} {s s':cj} {d:D} {v:V}

theorem SR.set (S:SR Y g σ H l s) (i:Nat) (r:Rp Y g.F d v):SR Y g (σ.set i (some v)) H (l.set i (some ⟨.fr,d⟩)) s:=by
 refine ⟨S.sB,S.sF,by rw [aH,aH]; exact S.len,fun j z hz=>?_,fun j k z y a h1 h2 k1 k2 e1 e2=>?_,S.st⟩
 ·by_cases hj:i=j
  ·subst hj
   have hlt:i < l.length:=by
    have:=(au.mp hz).1
    rwa [aH] at this
   rw [aJ hlt] at hz
   obtain rfl:(⟨.fr,d⟩:Sl)=z:=ad (ad hz)
   exact ⟨v,by rw [aJ (by rw [S.len]; exact hlt)],r⟩
  ·rw [ay hj] at hz ⊢
   exact S.sl j z hz
 ·have nj:∀ {j:Nat} {z:Sl},(l.set i (some ⟨.fr,d⟩))[j]?=some (some z)→z.k=.ow→i≠j:=fun {j z} h k e=>by
   subst e
   have hlt:i < l.length:=by
    have:=(au.mp h).1
    rwa [aH] at this
   rw [aJ hlt] at h
   obtain rfl:(⟨.fr,d⟩:Sl)=z:=ad (ad h)
   cases k
  have n1:=nj h1 k1
  have n2:=nj h2 k2
  rw [ay n1] at h1 e1
  rw [ay n2] at h2 e2
  exact S.ow j k z y a h1 h2 k1 k2 e1 e2
end
def gT (G:Gm) (t:T):TG:=fun v σ H Q=>∃ g l s d l',SR G.Y g σ H l s∧Rp G.Y g.F d v∧T.put t d l=some l'∧∀ σ',σ'.length=σ.length→(∀ j,j∉T.slots t→σ'[j]?=σ[j]?)→SR G.Y g σ' H l' s→Q σ' H
def HV (G:Gm) (t:T):TGs:=fun vs σ H Q=>∃ g l s ds l',SR G.Y g σ H l s∧Rps G.Y g.F ds vs∧T.puts t ds l=some l'∧∀ σ',σ'.length=σ.length→(∀ j,j∉T.slots t→σ'[j]?=σ[j]?)→SR G.Y g σ' H l' s→Q σ' H
theorem tI {C:Cx} {e:Expr} {t t':TG} (h:PG C e t) (k:∀ v σ H Q,t' v σ H Q→t v σ H Q):PG C e t':=⟨fun pins s σ H v u Q I r w=>h.run pins s σ H v u Q I r (k v σ H Q w)⟩
theorem BN {C:Cx} {e:Expr} {t t':TG} (h:PG C e t) (h':PG C e t'):PG C e (fun v σ H Q=>t v σ H Q∨t' v σ H Q):=⟨fun pins s σ H v u Q I r w=>w.elim (h.run pins s σ H v u Q I r) (h'.run pins s σ H v u Q I r)⟩
theorem qH {C:Cx} {e:List Expr} {t t':TGs} (h:PGs C e t) (k:∀ v σ H Q,t' v σ H Q→t v σ H Q):PGs C e t':=⟨fun pins s σ H v u Q I r w=>h.run pins s σ H v u Q I r (k v σ H Q w)⟩
section
variable {C:Cx} {S:Sc} {G:Gn} {W:WX} {e f b tg:Expr} {es:List Expr} {pos:Pos} {xa xb xc:X}
theorem tJ:∀ {es:List Expr} {env:Env},es.all b8=true→(assignEach es env).length=es.length∧(assignEach es env).findIdx? (·.1)=none
 | [],_,_=>⟨rfl,rfl⟩
 | e :: es,env,h=>by
  rw [a0,ab] at h
  obtain ⟨h1,h2⟩:=tJ (env:=env) h.2
  rw [ja h.1]
  refine ⟨by rw [aw,h1,aw],?_⟩
  rw [List.findIdx?_cons,h2]
  rfl
theorem qI {S:Sc}:∀ {ts:T} {es:List Expr},mK S ts es=true→es.all b8=true
 | .nil,[],_=>rfl
 | .cons a b,e :: es,h=>by
  have h:(b8 e && pF S a e && mK S b es)=true:=h
  simp only [ab] at h
  rw [a0,h.1.1,qI h.2]
  rfl
 | .nil,_ :: _,h=>by cases h
 | .cons _ _,[],h=>by cases h
 | .n _,_,h=>by cases h
 | .t _,_,h=>by cases h
theorem nY {ts:T}:∀ {es:List Expr} {ds:List D} {l l':Lc},mK S ts es=true→T.puts ts ds l=some l'→ds.length=es.length:=by
 induction ts with
 | nil =>
  intro es ds l l' h q
  cases es with
  | nil=>cases ds with
   | nil=>rfl
   | cons _ _=>cases q
  | cons _ _=>cases h
 | cons a b _ ih =>
  intro es ds l l' h q
  cases es with
  | nil=>cases h
  | cons e es =>
   have h:(b8 e && pF S a e && mK S b es)=true:=h
   simp only [ab] at h
   cases ds with
   | nil=>cases q
   | cons d ds =>
    obtain ⟨l1,q1,q2⟩:=bc.mp (show (T.put a d l).bind (fun l'=>T.puts b ds l')=some l' from q)
    rw [aw,aw,ih h.2 q2]
 | n i=>intro es ds l l' h q; cases h
 | t ts _=>intro es ds l l' h q; cases h
mutual
theorem yO (B:Gd C S G W):∀ {t:T} {e:Expr},pF S t e=true→PG C e (gT G.gm t)
 | .n i,.Name x p,h=>by
  have h:(decide (S.N[i]?=some x) && nN S.sc x && (S.top || iy S.sc x))=true:=h
  simp only [ab,af,bI] at h
  obtain ⟨⟨h1,h2⟩,h3⟩:=h
  have hN:C.N.Nodup:=by rw [B.N]; exact B.nd
  have hi:C.N[i]?=some x:=by rw [B.N]; exact h1
  have hx:Loc C.env.scope x:=by rw [B.sc]; exact jr h2
  have hf:C.fn x=true∨C.env.scope.names.lookup x=some .local:=by
   rcases h3 with h3 | h3
   ·exact .inl ((B.top h3).1 x)
   ·rw [B.sc]; exact .inr (gi h3)
  refine tI (pg_name hN hi hx hf) ?_
  rintro v σ H Q ⟨g,l,s,d,l',SS,r,e,q⟩
  obtain rfl:=ad (show some (l.set i (some ⟨.fr,d⟩))=some l' from e)
  exact q _ (aH ..) (fun j hj=>ay (fun e=>hj (by rw [← e]; exact ah.mpr rfl))) (SS.set i r)
 | .t ts,.Tuple es k p,h=>by
  have h:(!S.hot && mK S ts es)=true:=h
  simp only [ab,az] at h
  obtain ⟨hh,h⟩:=h
  obtain ⟨hl,hs⟩:=tJ (env:=C.env) (qI h)
  have hg:=BO B h
  refine tI (BN (pg_tup (n:=es.length) (B.calm hh) hg hl hs) (pg_lst (n:=es.length) (B.calm hh) hg hl hs)) ?_
  rintro v σ H Q ⟨g,l,s,d,l',SS,r,e,q⟩
  cases d with
  | tup ds =>
   cases r with
   | tup hf rs =>
    refine .inl ⟨_,_,rfl,(hf.mono SS.sF).sq,?_,g,l,s,ds,l',SS,rs,e,q⟩
    rw [← rs.length]
    exact nY h e
  | lst ds =>
   cases r with
   | lst hf rs =>
    refine .inr ⟨_,_,rfl,.inl (.inl (SS.sF _ _ hf)),?_,g,l,s,ds,l',SS,rs,e,q⟩
    rw [← rs.length]
    exact nY h e
  | _=>cases e
theorem BO (B:Gd C S G W):∀ {t:T} {es:List Expr},mK S t es=true→PGs C es (HV G.gm t)
 | .nil,[],_=>by
  refine qH pgs_nil ?_
  rintro vs σ H Q ⟨g,l,s,ds,l',SS,r,e,q⟩
  cases ds with
  | nil =>
   cases r
   obtain rfl:=ad (show some l=some l' from e)
   exact ⟨rfl,q σ rfl (fun _ _=>rfl) SS⟩
  | cons _ _=>cases e
 | .cons a b,e :: es,h=>by
  have h:(b8 e && pF S a e && mK S b es)=true:=h
  simp only [ab] at h
  refine qH (pgs_cons (yO B h.1.2) (BO B h.2) (by rw [ja h.1.1]; rfl)) ?_
  rintro vs σ H Q ⟨g,l,s,ds,l',SS,r,eq,q⟩
  cases ds with
  | nil=>cases eq
  | cons d ds =>
   obtain ⟨l1,q1,q2⟩:=bc.mp (show (T.put a d l).bind (fun l'=>T.puts b ds l')=some l' from eq)
   cases r with
   | cons r1 r2=>exact ⟨_,_,rfl,g,l,s,d,l1,SS,r1,q1,fun σ' n1 f1 S'=>⟨g,l1,s,ds,l',S',r2,q2,fun σ2 n2 f2 S2=>q σ2 (n2.trans n1) (fun j hj=>(f2 j fun z=>hj (ao _ z)).trans (f1 j fun z=>hj (aG _ z))) S2⟩⟩
end


theorem SR.wipe {Y:Wd} {g:Gh} {σ:L2.St} {H:Hp} {l:Lc} {s:cj} (S:SR Y g σ H l s):∀ is:List Nat,SR Y g (L2.wipe σ is) H (dE l is) s
 | []=>S
 | i :: is=>by
  have q:=S.wipe is
  have hv:∀ {j:Nat} {z:Sl},((dE l is).set i none)[j]?=some (some z)→i≠j∧(dE l is)[j]?=some (some z):=fun {j z} h=>by
   by_cases e:i=j
   ·subst e
    by_cases hlt:i < (dE l is).length
    ·rw [aJ hlt] at h; cases h
    ·rw [aS (by rw [aH]; omega)] at h; cases h
   ·rw [ay e] at h
    exact ⟨e,h⟩
  refine ⟨q.sB,q.sF,?_,fun j z hz=>?_,fun j k z y a h1 h2 k1 k2 e1 e2=>?_,q.st⟩
  ·show ((L2.wipe σ is).set i none).length=((dE l is).set i none).length
   rw [aH,aH]
   exact q.len
  ·obtain ⟨n,hz⟩:=hv hz
   show ∃ v,((L2.wipe σ is).set i none)[j]?=_∧_
   rw [ay n]
   exact q.sl j z hz
  ·obtain ⟨n1,h1⟩:=hv h1
   obtain ⟨n2,h2⟩:=hv h2
   have e1:((L2.wipe σ is).set i none)[j]?=_:=e1
   have e2:((L2.wipe σ is).set i none)[k]?=_:=e2
   rw [ay n1] at e1
   rw [ay n2] at e2
   exact q.ow j k z y a h1 h2 k1 k2 e1 e2
end
theorem gR {σ:L2.St}:∀ {vs:List Nat} (j:Nat),(L2.wipe σ vs)[j]?=if j∈vs∧j < σ.length then some none else σ[j]?
 | [],j=>by rw [aq (fun h=>by cases h.1)]; rfl
 | v :: vs,j=>by
  show ((L2.wipe σ vs).set v none)[j]?=_
  by_cases h:v=j
  ·subst h
   by_cases hl:v < σ.length
   ·rw [aJ (by rw [wipe_length]; exact hl),aj ⟨ap,hl⟩]
   ·rw [aS (by rw [aH,wipe_length]; omega),aq (fun q=>hl q.2),aS (by omega)]
  ·rw [ay h,gR]
   by_cases hj:j∈vs∧j < σ.length
   ·rw [aj hj,aj ⟨av _ hj.1,hj.2⟩]
   ·rw [aq hj,aq fun q=>hj ⟨(aB.mp q.1).resolve_left (fun e=>h e.symm),q.2⟩]
theorem jY {l:Lc}:∀ {vs:List Nat} {j:Nat},j∉vs→(dE l vs)[j]?=l[j]?
 | [],j,_=>rfl
 | v :: vs,j,h=>by
  show ((dE l vs).set v none)[j]?=_
  rw [ay (fun e=>h (by rw [e]; exact ap)),jY fun q=>h (av _ q)]
theorem nZ {σ:L2.St} {vs:List Nat} {j:Nat} (h:j∉vs):(L2.wipe σ vs)[j]?=σ[j]?:=by rw [gR,aq fun q=>h q.1]
mutual
theorem mR:∀ {t:T} {d:D} {l l':Lc},T.put t d l=some l'→∀ j,j∉T.slots t→l'[j]?=l[j]?
 | .n i,d,l,l',h,j,hj=>by
  obtain rfl:=ad (show some (l.set i (some ⟨.fr,d⟩))=some l' from h)
  exact ay (fun e=>hj (by rw [← e]; exact ah.mpr rfl))
 | .t ts,.tup ds,l,l',h,j,hj=>k9 (show T.puts ts ds l=some l' from h) j hj
 | .t ts,.lst ds,l,l',h,j,hj=>k9 (show T.puts ts ds l=some l' from h) j hj
theorem k9:∀ {t:T} {d:List D} {l l':Lc},T.puts t d l=some l'→∀ j,j∉T.slots t→l'[j]?=l[j]?
 | .nil,[],l,l',h,j,hj=>by
  obtain rfl:=ad (show some l=some l' from h)
  rfl
 | .cons a b,d :: ds,l,l',h,j,hj=>by
  obtain ⟨l1,q1,q2⟩:=bc.mp (show (T.put a d l).bind (fun l'=>T.puts b ds l')=some l' from h)
  rw [k9 q2 j fun z=>hj (ao _ z),mR q1 j fun z=>hj (aG _ z)]
end

theorem TpW.other {Y:Wd} {F:Fr} {H:Hp} {d:D} {a p:Addr} {o:HO} (h:a≠p):TpW Y F H d (.ref a)→TpW Y F (upd H p o) d (.ref a)
 | .lst q r=>.lst (by rw [upd_ne h]; exact q) r
 | .dk q r=>.dk (by rw [upd_ne h]; exact q) r
 | .dt q x r=>.dt (by rw [upd_ne h]; exact q) x r
section
variable {Y:Wd} {g g':Gh} {σ σ2:L2.St} {H H':Hp} {l l1:Lc} {s s':cj} {d:D} {v:V} {p:Addr} {o u:HO}

theorem SR.lock (S:SR Y g σ H l s) (hp:H p=some o) (hm:∀ n,g.F.m p≠some n) (hB:g.B p=none) (no:∀ (i:Nat) (d':D),σ[i]?=some (some (.ref p))→l[i]?≠some (some ⟨.ow,d'⟩)):SR Y ⟨g.F,upd g.B p o,g.M⟩ σ H l s:=by
 have sm:=gq (o:=o) hB
 refine ⟨fun b w e=>?_,S.sF,S.len,fun i z hz=>?_,S.ow,S.st.bnd rfl rfl fun a n h1 h2=>by
  show upd g.B p o a=none
  rw [upd_ne fun e=>hm n (by rw [← e]; exact h1)]
  exact h2⟩
 ·by_cases hb:b=p
  ·subst hb
   have e:upd g.B b o b=some w:=e
   rw [upd_same] at e
   rw [hp]
   exact e
  ·have e:upd g.B p o b=some w:=e
   rw [upd_ne hb] at e
   exact S.sB b w e
 ·obtain ⟨v,h1,h2⟩:=S.sl i z hz
  refine ⟨v,h1,?_⟩
  obtain ⟨k,d⟩:=z
  cases k with
  | fr=>exact h2
  | bo=>exact h2.imp id fun q=>q.mono (Fr.le.refl _) sm
  | ow =>
   refine ⟨h2.1,fun a ea=>⟨(h2.2 a ea).1,?_,(h2.2 a ea).2.2⟩⟩
   by_cases hb:a=p
   ·subst hb ea
    exact absurd hz (no i d h1)
   ·show upd g.B p o a=none
    rw [upd_ne hb]
    exact (h2.2 a ea).2.1
  | nw=>exact h2

theorem SR.unlock {own:List Nat} {H4:Hp} {g4:Gh} {s4:cj} (S:SR Y g σ H l s) (hm:∀ n,g.F.m p≠some n) (hB:g.B p=none) (hF:g.F.h p=none) (E:Ext ⟨g.F,upd g.B p o,g.M⟩ g4) (S4:SR Y g4 σ2 H4 l1 s4)
  (hown:∀ i∈own,∀ d',l[i]?≠some (some ⟨.ow,d'⟩)) (hσ:∀ j,j∉own→σ2[j]?=σ[j]?) (hl:∀ j,j∉own→l1[j]?=l[j]?) :
  SR Y ⟨g4.F,g.B,g.M⟩ σ H4 l s4∧Ext g ⟨g4.F,g.B,g.M⟩∧H4 p=some o∧g4.F.h p=none∧∀ n,g4.F.m p≠some n:=by
 have eB:g4.B=upd g.B p o:=E.b
 have sm:=gq (o:=o) hB
 have hp4:g4.B p=some o:=by rw [eB,upd_same]
 have bn:∀ a,g4.B a=none→g.B a=none:=fun a h=>by
  rw [eB] at h
  exact sm.free h
 refine ⟨⟨fun b w e=>S4.sB b w (by rw [eB]; exact sm b w e),S4.sF,S.len,fun i z hz=>?_,fun i j z y a h1 h2 k1 k2 e1 e2=>?_,S4.st.bnd rfl E.m.symm fun a n _ h=>bn a h⟩,⟨rfl,E.f,fun a w e n=>bn a (by rw [E.b]; exact E.new a w e n),rfl⟩,S4.sB p o hp4,?_,fun n q=>?_⟩
 ·obtain ⟨v,h1,h2⟩:=S.sl i z hz
  refine ⟨v,h1,?_⟩
  obtain ⟨k,d⟩:=z
  cases k with
  | fr=>exact Rp.mono E.f h2
  | bo=>exact h2.imp (fun q=>q.mono E.f) fun q=>q.mono E.f (Same.refl _)
  | ow =>
   have hi:i∉own:=fun q=>hown i q d hz
   have q:=S4.own (v:=v) (d:=d) (i:=i) (by rw [hσ i hi]; exact h1) (by rw [hl i hi]; exact hz)
   exact ⟨q.1,fun a ea=>⟨(q.2 a ea).1,bn a (q.2 a ea).2.1,(q.2 a ea).2.2⟩⟩
  | nw=>exact h2
 ·exact S.ow i j z y a h1 h2 k1 k2 e1 e2
 ·cases e:g4.F.h p with
  | none=>rfl
  | some w =>
   have:=E.new p w e hF
   have:upd g.B p o p=none:=this
   rw [upd_same] at this
   cases this
 ·by_cases hs:s4=[]
  ·have e1:=S4.st.no hs
   rw [e1,E.m] at q
   exact hm n (S.st.mb p n q)
  ·have:=(S4.st.lt hs p n q).2
   rw [hp4] at this
   cases this

theorem SR.wr (S:SR Y g σ H l s) (hF:g.F.h p=none) (hm:∀ n,g.F.m p≠some n) (hB:g.B p=none) (no:∀ (i:Nat) (d':D),σ[i]?=some (some (.ref p))→l[i]?≠some (some ⟨.ow,d'⟩)):SR Y g σ (upd H p o) l s:=by
 refine ⟨fun b w e=>?_,fun b w e=>?_,S.len,fun i z hz=>?_,S.ow,S.st.heap fun a n u h q=>by rw [upd_ne fun e=>hm n (by rw [← e]; exact h)]; exact q⟩
 ·rw [upd_ne (ne_of_none e hB)]; exact S.sB b w e
 ·rw [upd_ne (ne_of_none e hF)]; exact S.sF b w e
 ·obtain ⟨v,h1,h2⟩:=S.sl i z hz
  refine ⟨v,h1,?_⟩
  obtain ⟨k,d⟩:=z
  cases k with
  | fr=>exact h2
  | bo=>exact h2
  | ow =>
   refine ⟨?_,h2.2⟩
   obtain ⟨a,e,q⟩:=h2.1.isRef
   subst e
   have hne:a≠p:=fun e=>by subst e; exact no i d h1 hz
   exact h2.1.other hne
  | nw=>exact h2
end
abbrev WF:WX:=fun _ _ _ _=>False
def yP (G:Gm) (c:X):TT:=if c.isNil=true then tYes else js G WF c
section
variable {C:Cx} {S:Sc} {G:Gn} {W:WX} {e f b tg:Expr} {es:List Expr} {pos:Pos} {xa xb xc:X}
theorem tK (B:Gd C S G W) {own:List Nat} {t:T} (hsl:(T.slots t).all (fun i=>own.contains i)=true):∀ σ H Q,rd G.gm W (.comp own t xa xc xb) σ H Q→tLc (nJ G.gm W xa) (gT G.gm t) (yP G.gm xc) (rd G.gm WF xb) own σ H Q:=by
 rintro σ H Q ⟨g0,l,s0,SS,h⟩
 have hsl:∀ j,j∉own→j∉T.slots t:=fun j hj q=>by
  have:=bt.mp hsl j q
  exact hj (aL.mp this)
 generalize hbd:(fun x s=>match T.put t x (dE l own) with
    | none=>R.no
    | some l1=>(if xc.isNil=true then R.ok (true,s) else (b9 G.fs G.gs xc l1 s).bind fun (b,_,s2)=>match b with | .bl b=>.ok (b,s2) | _=>.no).bind fun (b,s2) =>
      if b=true then cg (b9 G.fs G.gs xb l1 s2) (fun d s3=>R.ok (some d,s3)) else R.ok ((none:Option GM.D),s2):GM.D→cj→R (Option GM.D × cj))=body
 have h:ValE G.gm W g0 σ l (if (own.all fun i=>match l[i]? with | some (some ⟨.ow,_⟩)=>false | _=>true)=false then .no else (gM G.fs G.gs xa l s0).bind fun (xs,s1) =>
   (R.noEr (dh (fun x s=>match T.put t x (dE l own) with
    | none=>R.no
    | some l1=>(if xc.isNil=true then R.ok (true,s) else (b9 G.fs G.gs xc l1 s).bind fun (b,_,s2)=>match b with | .bl b=>.ok (b,s2) | _=>.no).bind fun (b,s2) =>
      if b=true then cg (b9 G.fs G.gs xb l1 s2) (fun d s3=>R.ok (some d,s3)) else R.ok ((none:Option GM.D),s2)) xs s1)).bind fun (ds,s2)=>if ds.length≤sizeLine then dW (.lst ds) s2 else .no) Q:=h
 rw [hbd] at h
 split at h
 ·exact h.elim
 rename_i how
 have how:(own.all fun i=>match l[i]? with | some (some ⟨.ow,_⟩)=>false | _=>true)=true:=by simpa using how
 have how:∀ i∈own,∀ d',l[i]?≠some (some ⟨.ow,d'⟩):=fun i hi d' e=>by
  have:=bt.mp how i hi
  rw [e] at this
  cases this
 refine ⟨g0,l,s0,SS,?_⟩
 have h:ValE G.gm W g0 σ l ((gM G.gm.fs G.gm.gs xa l s0).bind _) Q:=h
 cases e0:gM G.gm.fs G.gm.gs xa l s0 with
 | er a b c =>
  rw [e0] at h
  exact h
 | no =>
  rw [e0] at h
  exact h
 | ok p =>
  obtain ⟨xs,s1⟩:=p
  rw [e0] at h
  have h:ValE G.gm W g0 σ l ((R.noEr (dh body xs s1)).bind fun (ds,s2)=>if ds.length≤sizeLine then dW (.lst ds) s2 else .no) Q:=h
  cases ec:dh body xs s1 with
  | er a b c=>rw [ec] at h; exact h.elim
  | no=>rw [ec] at h; exact h.elim
  | ok q =>
   obtain ⟨ds,s2⟩:=q
   rw [ec] at h
   have h:ValE G.gm W g0 σ l (if ds.length≤sizeLine then dW (.lst ds) s2 else .no) Q:=h
   split at h
   case isFalse=>exact h.elim
   rename_i hlen
   intro g1 e1 J H1 S1 w L0 hD
   have no:=S1.noown hD
   have hB1:g1.B L0=none:=S1.freeB hD
   have hF1:g1.F.h L0=none∧∀ n,g1.F.m L0≠some n:=⟨S1.freeF hD,S1.freeM hD⟩
   refine ⟨fun i m H=>m=xs.length - i∧i≤xs.length∧∃ g acc accD rest s',Ext g1 g∧SR G.Y g σ H l s'∧H L0=some (.lst acc)∧(g.F.h L0=none∧∀ n,g.F.m L0≠some n)∧Rps G.Y g.F accD acc∧dh body (xs.drop i) s'=.ok (rest,s2)∧accD++rest=ds,
    ⟨xs.length,by simp,aW _,g1,[],[],ds,s1,.refl g1,S1.lay hD,upd_same,hF1,.nil,ec,rfl⟩,?_⟩
   rintro i m H2 ⟨rfl,hi,g2,acc,accD,rest,s',e2,S2,hD2,hF2,r2,ec2,ed⟩
   have hB2:g2.B L0=none:=by rw [e2.b]; exact hB1
   by_cases hlt:i < xs.length
   ·refine .inr ?_
    have SL:=S2.lock hD2 hF2.2 hB2 no
    have eW:ExtW g1 ⟨g2.F,upd g2.B L0 (.lst acc),g2.M⟩:=⟨e2.f,by rw [← e2.b]; exact gq hB2⟩
    obtain ⟨go,yl⟩:=(w _ i σ H2 l s' eW SL).1 xs[i] (ak hlt)
    refine ⟨go,fun H'=>∃ g acc accD rest s',Ext g1 g∧SR G.Y g σ H' l s'∧H' L0=some (.lst acc)∧(g.F.h L0=none∧∀ n,g.F.m L0≠some n)∧Rps G.Y g.F accD acc∧dh body (xs.drop (i+1)) s'=.ok (rest,s2)∧accD++rest=ds,
     fun H' n=>⟨xs.length - (i+1),by omega,rfl,hlt,n⟩,fun x H3 y=>?_⟩
    obtain ⟨g3,e3,sm3,S3,r3⟩:=yl x H3 y
    have S3w:=S3.wipe own
    rw [List.drop_eq_getElem_cons hlt] at ec2
    have ec2:(body xs[i] s').bind (fun (o,s1)=>(dh body (xs.drop (i+1)) s1).bind fun (r,s2)=>.ok (lZ o r,s2))=.ok (rest,s2):=ec2
    cases eb:body xs[i] s' with
    | er a b c=>rw [eb] at ec2; cases ec2
    | no=>rw [eb] at ec2; cases ec2
    | ok p =>
    obtain ⟨o,s3⟩:=p
    rw [eb] at ec2
    have ec2:(dh body (xs.drop (i+1)) s3).bind (fun (r,s2)=>R.ok (lZ o r,s2))=.ok (rest,s2):=ec2
    cases er2:dh body (xs.drop (i+1)) s3 with
    | er a b c=>rw [er2] at ec2; cases ec2
    | no=>rw [er2] at ec2; cases ec2
    | ok p =>
    obtain ⟨r,s2'⟩:=p
    rw [er2] at ec2
    have ec2:R.ok (lZ o r,s2')=.ok (rest,s2):=ec2
    injection ec2 with ec2
    obtain ⟨e5,e6⟩:=bZ ec2
    subst e6
    rw [← hbd] at eb
    cases et:T.put t xs[i] (dE l own) with
    | none =>
     simp only [et] at eb
     cases eb
    | some l1 =>
    have eb:(if xc.isNil=true then R.ok (true,s') else (b9 G.fs G.gs xc l1 s').bind fun (b,_,s2)=>match b with | .bl b=>.ok (b,s2) | _=>.no).bind (fun (b,s2) =>
      if b=true then cg (b9 G.fs G.gs xb l1 s2) (fun d s3=>R.ok (some d,s3)) else R.ok ((none:Option GM.D),s2))=R.ok (o,s3):=by
     simp only [et] at eb
     exact eb
    refine ⟨g3,dE l own,s',xs[i],l1,S3w,r3,et,fun σ4 n4 f4 S4=>?_⟩
    have hσ:∀ j,j∉own→σ4[j]?=σ[j]?:=fun j hj=>(f4 j (hsl j hj)).trans (nZ hj)
    have hl:∀ j,j∉own→l1[j]?=l[j]?:=fun j hj=>(mR et j (hsl j hj)).trans (jY hj)
    have n4':σ4.length=σ.length:=n4.trans (wipe_length _ _)
    have hw:L2.wipe σ4 own=L2.wipe σ own:=by
     apply List.ext_getElem?
     intro j
     rw [gR,gR,n4']
     by_cases hj:j∈own
     ·by_cases hj2:j < σ.length
      ·rw [aj ⟨hj,hj2⟩,aj ⟨hj,hj2⟩]
      ·rw [aq fun q=>hj2 q.2,aq fun q=>hj2 q.2,aS (by omega),aS (by omega)]
     ·rw [aq fun q=>hj q.1,aq fun q=>hj q.1,hσ j hj]
    refine ⟨hw,?_⟩
    have fin:∀ b sb g5 H5,Ext g3 g5→SR G.Y g5 σ4 H5 l1 sb→(if b=true then cg (b9 G.fs G.gs xb l1 sb) (fun d s3=>R.ok (some d,s3)) else R.ok ((none:Option GM.D),sb))=R.ok (o,s3) →
      (if b=true then rd G.gm WF xb σ4 H5 (fun y H4=>∃ acc,H4 L0=some (.lst acc)∧acc.length < sizeLine∧(fun H'=>∃ g acc accD rest s',Ext g1 g∧SR G.Y g σ H' l s'∧H' L0=some (.lst acc)∧(g.F.h L0=none∧∀ n,g.F.m L0≠some n)∧Rps G.Y g.F accD acc∧dh body (xs.drop (i+1)) s'=.ok (rest,s2')∧accD++rest=ds) (upd H4 L0 (.lst (acc++[y]))))
       else (fun H'=>∃ g acc accD rest s',Ext g1 g∧SR G.Y g σ H' l s'∧H' L0=some (.lst acc)∧(g.F.h L0=none∧∀ n,g.F.m L0≠some n)∧Rps G.Y g.F accD acc∧dh body (xs.drop (i+1)) s'=.ok (rest,s2')∧accD++rest=ds) H5):=fun b sb g5 H5 e7 S5 eq=>by
     cases b with
     | false =>
      rw [aq aa] at eq ⊢
      injection eq with eq
      obtain ⟨q1,q2⟩:=bZ eq
      subst q1 q2
      obtain ⟨U1,U2,U3,U4⟩:=S2.unlock (p:=L0) (o:=.lst acc) hF2.2 hB2 hF2.1 (e3.trans e7) S5 how hσ hl
      exact ⟨_,acc,accD,r,_,e2.trans U2,U1,U3,U4,r2.mono U2.f,er2,by rw [← ed,← e5]; rfl⟩
     | true =>
      rw [aj rfl] at eq ⊢
      have hV:ValR G.gm WF g5 σ4 (cg (b9 G.fs G.gs xb l1 sb) (fun d s3=>R.ok (some d,s3))) (fun p _=>p=(o,s3)):=by
       rw [eq]
       exact fun _ _=>rfl
      refine fW S5 hV fun d s6 g6 v H6 e8 S6 r6 q=>?_
      obtain ⟨q1,q2⟩:=bZ (show (some d,s6)=(o,s3) from q g6 (.refl g6))
      subst q1 q2
      obtain ⟨U1,U2,U3,U4⟩:=S2.unlock (p:=L0) (o:=.lst acc) hF2.2 hB2 hF2.1 ((e3.trans e7).trans e8) S6 how hσ hl
      have el:accD.length=acc.length:=r2.length
      have elen:accD.length+(r.length+1)=ds.length:=by rw [← ed,← e5,ae]; rfl
      refine ⟨acc,U3,by omega,⟨g6.F,g2.B,g2.M⟩,acc++[v],accD++[d],r,_,e2.trans U2,U1.wr U4.1 U4.2 hB2 no,upd_same,U4,(r2.mono U2.f).append #v[r6],er2,?_⟩
      rw [← ed,← e5,aK]
      rfl
    unfold yP
    by_cases hc:xc.isNil=true
    ·rw [aj hc] at eb ⊢
     exact fin true s' g3 H3 (.refl g3) S4 eb
    ·rw [aq hc] at eb ⊢
     refine ⟨g3,l1,s',S4,?_⟩
     show ValR G.gm WF g3 σ4 (b9 G.fs G.gs xc l1 s') _
     cases e7:b9 G.fs G.gs xc l1 s' with
     | er a b c=>rw [e7] at eb; cases eb
     | no=>rw [e7] at eb; cases eb
     | ok p =>
      obtain ⟨d,tg2,sb⟩:=p
      rw [e7] at eb
      cases d with
      | bl b=>exact fun g5 e8=>⟨b,rfl,fun H5 S5=>fin b sb g5 H5 e8 S5 eb⟩
      | _=>cases eb
   ·have hi2:i=xs.length:=by omega
    refine .inl ⟨(w g2 i σ H2 l s' e2.w S2).2 hi2,?_⟩
    rw [hi2,List.drop_length] at ec2
    have ec2:R.ok ([],s')=R.ok (rest,s2):=ec2
    injection ec2 with ec2
    obtain ⟨q1,q2⟩:=bZ ec2
    subst q1 q2
    rw [aM] at ed
    subst ed
    exact h g2 _ H2 (e1.trans e2) S2 ⟨L0,rfl,hF2,hB2,.lst hD2 r2,no⟩
theorem lc (N:List Str) (own:List Nat):(kD N own).map (·.2)=own:=by
 unfold kD
 rw [aU]
 exact List.map_id _

theorem Gd.blk (B:Gd C S G W) (hh:S.hot=false) (scope:Scope) (s:Shared) (H:Hp) (Cc:Addr) (cl:List (Str × Addr)) (fp:List Addr):Gd (C.blk s H scope (compEnvC scope cl Cc C.env) fp) { S with sc:=relS scope S.sc,top:=false } G WF :=
 ⟨B.N,B.nd,(by show relS scope C.env.scope=_; rw [B.sc]),B.cool,B.un,(fun h=>by cases h),takes0,B.Y,B.mg,B.fns,B.blt,B.gns,B.exs,B.hns,B.ms,B.fl,B.mt,B.mks,(fun a nm h=>by rw [B.px0 hh] at h; cases h),(fun _=>B.px0 hh),⟨B.rmh.dp,B.rmh.un⟩,B.xs,B.hx,B.xi,B.isc⟩
theorem yQ (B:Gd C S G W) (hh:S.hot=false) {own:List Nat} {t:T} {scope:Scope} {ite:Expr} {ifs:List Expr} (hsl:(T.slots t).all (fun i=>own.contains i)=true) (ok:blkC S.N S.sc scope (kD S.N own)=true)
  (hset:∀ x,foldedSetIterable ite C.env x=pure x) (hi:PI C tg ite (nJ G.gm W xa))
  (hg:∀ (s:Shared) (H:Hp) (Cc:Addr) (cl:List (Str × Addr)) (fp:List Addr),PG (C.blk s H scope (compEnvC scope cl Cc C.env) fp) tg (gT G.gm t))
  (ht:∀ (s:Shared) (H:Hp) (Cc:Addr) (cl:List (Str × Addr)) (fp:List Addr),PTs (C.blk s H scope (compEnvC scope cl Cc C.env) fp) ifs (yP G.gm xc))
  (he:∀ (s:Shared) (H:Hp) (Cc:Addr) (cl:List (Str × Addr)) (fp:List Addr),PE (C.blk s H scope (compEnvC scope cl Cc C.env) fp) e (rd G.gm WF xb)) :
  PE C (.ListComp e [⟨tg,ite,ifs,0⟩] scope pos) (rd G.gm W (.comp own t xa xc xb)):=by
 refine PE.imp (pe_lc (own:=kD S.N own) (B.calm hh) (by rw [B.N]; exact B.nd) hi (blkOk_by (by rw [B.N,B.sc]; exact ok)) hg ht he hset) ?_
 rw [lc]
 exact tK B hsl

theorem vZ (B:Gd C S G W) (hh:S.hot=false) {own:List Nat} {t:T} {scope:Scope} {ite:Expr} {ifs:List Expr} {i:Nat} {y:Str} {py spos:Pos} (hsl:(T.slots t).all (fun i=>own.contains i)=true) (ok:blkC S.N S.sc scope (kD S.N own)=true)
  (hN:S.N[i]?=some y) (hyl:iy S.sc y=true) (hsw:swapsWith (.ListComp e [⟨tg,ite,ifs,0⟩] scope pos) (some (.Name y py)) spos.line C.env=pure true)
  (hset:∀ x,foldedSetIterable ite C.env x=pure x) (hi:PI C tg ite (nJ G.gm W xa))
  (hg:∀ (s:Shared) (H:Hp) (Cc:Addr) (cl:List (Str × Addr)) (fp:List Addr),PG (C.blk s H scope (compEnvC scope cl Cc C.env) fp) tg (gT G.gm t))
  (ht:∀ (s:Shared) (H:Hp) (Cc:Addr) (cl:List (Str × Addr)) (fp:List Addr),PTs (C.blk s H scope (compEnvC scope cl Cc C.env) fp) ifs (yP G.gm xc))
  (he:∀ (s:Shared) (H:Hp) (Cc:Addr) (cl:List (Str × Addr)) (fp:List Addr),PE (C.blk s H scope (compEnvC scope cl Cc C.env) fp) e (rd G.gm WF xb)) :
  PS C (.Assign [.Name y py] (.ListComp e [⟨tg,ite,ifs,0⟩] scope pos) spos) (tAsg (rd G.gm W (.comp own t xa xc xb)) (gName i)):=by
 refine PS.imp (ps_setLc (own:=kD S.N own) (B.calm hh) (by rw [B.N]; exact B.nd) (by rw [B.N]; exact hN) (by rw [B.sc]; exact gi hyl) hsw hi (blkOk_by (by rw [B.N,B.sc]; exact ok)) hg ht he hset) ?_
 rw [lc]
 exact fun D σ H h=>tK B hsl σ H _ h
end
section
variable {Y:Wd} {g g':Gh} {σ:L2.St} {H H':Hp} {l:Lc} {s s':cj} {d:D} {v:V} {n:Nat}

theorem SR.ce (S:SR Y g σ H l s) (h:RdV Y g.F H (.loc n) v) (hc:s[n]?=some (.obj d)):∃ a,v=.ref a∧CAt g.F g.B n a∧TpW Y g.F H d (.ref a):=by
 obtain ⟨a,rfl,hm⟩:=h.loc
 cases S.st.at_ n _ hc with
 | obj k t =>
  have e:=k.u a hm
  subst e
  exact ⟨_,rfl,k,t⟩
theorem SR.ceR (S:SR Y g σ H l s) {x:D} (h:RdV Y g.F H x v) (hc:vx s x=some d):RdV Y g.F H d v:=by
 cases x with
 | loc n =>
  have hc:(match s[n]? with | some (.obj d)=>some d | _=>none)=some d:=hc
  cases e:s[n]? with
  | none=>rw [e] at hc; cases hc
  | some c =>
   rw [e] at hc
   cases c with
   | obj d' =>
    cases (ad hc)
    obtain ⟨a,rfl,_,t⟩:=S.ce h e
    exact .inr t
   | ins _ _=>cases hc
   | fz=>cases hc
 | _=>cases hc
theorem SR.ci (S:SR Y g σ H l s) {x:D} {c:Str} {fs:List (Str × D)} (h:RdV Y g.F H x v) (hc:pq s c x=some fs) :
  ∃ n a dx fv,x=.loc n∧s[n]?=some (.ins c fs)∧v=.ref a∧CAt g.F g.B n a∧H a=some (.ins (He.ga Y.K c) dx fv)∧fv.map (·.1)=fs.map (·.1)∧FldR Y g.F fs fv:=by
 cases x with
 | loc n =>
  have hc:(match s[n]? with | some (.ins c' fs)=>if c'=c then some fs else none | _=>none)=some fs:=hc
  cases e:s[n]? with
  | none=>rw [e] at hc; cases hc
  | some q =>
   rw [e] at hc
   cases q with
   | obj d'=>cases hc
   | fz=>cases hc
   | ins c' fs' =>
    have hc:(if c'=c then some fs' else none)=some fs:=hc
    by_cases ec:c'=c
    ·rw [aj ec] at hc
     cases hc
     subst ec
     obtain ⟨a,rfl,hm⟩:=h.loc
     cases S.st.at_ n _ e with
     | ins k t z f =>
      have e2:=k.u a hm
      subst e2
      exact ⟨n,_,_,_,rfl,e,rfl,k,t,z,f⟩
    ·rw [aq ec] at hc
     cases hc
 | _=>cases hc

theorem SR.cellG (S:SR Y g σ H l s) (hs:s≠[]) {a:Addr} {c:Cell} (hF:g.F.h a=none) (hm:∀ k,g.F.m a≠some k) (hB:g.B a=none) (hpa:(H a).isSome=true) (no:∀ (i:Nat) (d':D),σ[i]?=some (some (.ref a))→l[i]?≠some (some ⟨.ow,d'⟩))
  (hc:∀ F',g.F.le F'→CAt F' g.B s.length a→CellR Y F' g.B H s.length c):∃ g',Ext g g'∧SR Y g' σ H l (s++[c])∧g'.F.m a=some s.length:=by
 let m':Addr→Option Nat:=fun b=>if b=a then some s.length else g.F.m b
 have ma:m' a=some s.length:=aj rfl
 have mb:∀ b,b≠a→m' b=g.F.m b:=fun b hb=>aq hb
 have le:g.F.le ⟨g.F.h,m'⟩:=⟨Same.refl _,fun b k q=>by
  by_cases e:b=a
  ·subst e; exact absurd q (hm k)
  ·show m' b=_
   rw [mb b e]; exact q⟩
 have old:∀ b k,m' b=some k→(b=a∧k=s.length)∨(b≠a∧g.F.m b=some k):=fun b k q=>by
  by_cases e:b=a
  ·subst e
   rw [ma] at q
   exact .inl ⟨rfl,(ad q).symm⟩
  ·rw [mb b e] at q
   exact .inr ⟨e,q⟩
 refine ⟨⟨⟨g.F.h,m'⟩,g.B,g.M⟩,⟨rfl,le,(fun b o h1 h2=>by rw [show g.F.h b=some o from h1] at h2; cases h2),rfl⟩,⟨S.sB,S.sF,S.len,fun i z hz=>?_,S.ow,⟨fun k c q=>?_,fun b k q=>?_,fun _ b k q=>?_,fun h=>absurd h (by simp),fun b k q=>le.m b k (S.st.mb b k q)⟩⟩,ma⟩
 ·obtain ⟨w,h1,h2⟩:=S.sl i z hz
  refine ⟨w,h1,?_⟩
  obtain ⟨t,e⟩:=z
  cases t with
  | fr=>exact Rp.mono le h2
  | bo=>exact h2.imp (fun q=>q.mono le) fun q=>q.mono le (Same.refl _)
  | ow =>
   refine ⟨h2.1.mono le (Same.refl _),fun b eb=>⟨(h2.2 b eb).1,(h2.2 b eb).2.1,fun k q=>?_⟩⟩
   rcases old b k q with ⟨rfl,_⟩ | ⟨_,q2⟩
   ·subst eb
    exact no i e h1 hz
   ·exact (h2.2 b eb).2.2 k q2
  | nw=>exact h2
 ·by_cases hk:k < s.length
  ·rw [br hk] at q
   refine (S.st.at_ k c q).mono le (fun b kk=>⟨le.m _ _ kk.m,fun b2 hb2=>?_,kk.f,kk.b⟩) fun _ _ _ h=>h
   rcases old b2 k hb2 with ⟨_,e⟩ | ⟨_,q2⟩
   ·omega
   ·exact kk.u b2 q2
  ·have ek:k=s.length:=by
    have:=(au.mp q).1
    rw [ae,aO] at this
    omega
   subst ek
   rw [aV (ax _),bO] at q
   cases (ad q)
   refine hc _ le ⟨ma,fun b hb=>?_,hF,hB⟩
   rcases old b _ hb with ⟨e,_⟩ | ⟨_,q2⟩
   ·exact e
   ·have:=(S.st.lt hs b _ q2).1
    omega
 ·rcases old b k q with ⟨rfl,_⟩ | ⟨_,q2⟩
  ·exact hpa
  ·exact S.st.lv b k q2
 ·rw [ae,aO]
  rcases old b k q with ⟨rfl,e⟩ | ⟨_,q2⟩
  ·exact ⟨by omega,hB⟩
  ·have:=S.st.lt hs b k q2
   exact ⟨by omega,this.2⟩

theorem SR.cell (S:SR Y g σ H l s) (hs:s≠[]) (h:VN Y g σ H l d v):∃ g',Ext g g'∧SR Y g' σ H l (s++[.obj d])∧Rp Y g'.F (.loc s.length) v:=by
 obtain ⟨a,rfl,⟨hF,hm⟩,hB,tp,no⟩:=h
 obtain ⟨b,e,hb⟩:=tp.isRef
 cases e
 obtain ⟨g',e',S',m'⟩:=S.cellG hs hF hm hB hb no fun F' le k=>.obj k (tp.mono le (Same.refl _))
 exact ⟨g',e',S',.loc m'⟩

theorem SR.celI (S:SR Y g σ H l s) (hs:s≠[]) {y dy:Addr} {c:Str} (hy:H y=none) (hd:H dy=none) (hne:dy≠y) :
  ∃ g',Ext g g'∧SR Y g' σ (upd (upd H dy (.own y)) y (.ins (He.ga Y.K c) dy [])) l (s++[.ins c []])∧g'.F.m y=some s.length:=by
 have S1:SR Y g σ (upd H dy (.own y)) l s:=S.lay hd
 have hy1:upd H dy (.own y) y=none:=by rw [upd_ne (Ne.symm hne)]; exact hy
 have S2:SR Y g σ (upd (upd H dy (.own y)) y (.ins (He.ga Y.K c) dy [])) l s:=S1.lay hy1
 refine S2.cellG hs ?_ (fun k q=>?_) ?_ (by rw [upd_same]; rfl) (fun i d' h1 h2=>?_) fun F' le k=>.ins k upd_same rfl fun _=>rfl
 ·cases q:g.F.h y with
  | none=>rfl
  | some u=>rw [S.sF y u q] at hy; cases hy
 ·have:=S.st.lv y k q
  rw [hy] at this
  cases this
 ·cases q:g.B y with
  | none=>rfl
  | some u=>rw [S.sB y u q] at hy; cases hy
 ·obtain ⟨tp,_⟩:=S.own h1 h2
  obtain ⟨a',e',hp⟩:=tp.isRef
  cases e'
  rw [hy] at hp
  cases hp

theorem SR.cwr (S:SR Y g σ H l s) {c:Cell} {a:Addr} {o:HO} (hk:CAt g.F g.B n a) (hn:n < s.length) (hc:CellR Y g.F g.B (upd H a o) n c):SR Y g σ (upd H a o) l (s.set n c):=by
 have hs:s≠[]:=by
  intro e
  rw [e] at hn
  exact absurd hn (ba n)
 refine ⟨fun b w e=>?_,fun b w e=>?_,S.len,fun i z hz=>?_,S.ow,⟨fun k c' q=>?_,fun b k q=>?_,fun _ b k q=>?_,fun h=>?_,S.st.mb⟩⟩
 ·rw [upd_ne (ne_of_none e hk.b)]; exact S.sB b w e
 ·rw [upd_ne (ne_of_none e hk.f)]; exact S.sF b w e
 ·obtain ⟨w,h1,h2⟩:=S.sl i z hz
  refine ⟨w,h1,?_⟩
  obtain ⟨t,e⟩:=z
  cases t with
  | fr=>exact h2
  | bo=>exact h2
  | ow =>
   refine ⟨?_,h2.2⟩
   obtain ⟨b,rfl,q⟩:=h2.1.isRef
   refine h2.1.at (Fr.le.refl _) fun u hu=>?_
   rw [upd_ne fun e=>(h2.2 b rfl).2.2 n (by rw [e]; exact hk.m)]
   exact hu
  | nw=>exact h2
 ·by_cases ek:n=k
  ·subst ek
   rw [aJ hn] at q
   cases (ad q)
   exact hc
  ·rw [ay ek] at q
   refine (S.st.at_ k c' q).mono (Fr.le.refl _) (fun _ h=>h) fun b u hb hu=>?_
   rw [upd_ne fun e=>ek (by rw [e,hk.m] at hb; exact ad hb)]
   exact hu
 ·by_cases e:b=a
  ·subst e; rw [upd_same]; rfl
  ·rw [upd_ne e]; exact S.st.lv b k q
 ·rw [aH]
  exact S.st.lt hs b k q
 ·exact absurd h (fun h=>hs (bh (by have:=bD List.length h; rw [aH] at this; exact this)))

theorem SR.cfzU (S:SR Y g σ H l s) {a:Addr} {u:HO} (hk:CAt g.F g.B n a) (hn:n < s.length) (hu:H a=some u):∃ g',Ext g g'∧SR Y g' σ H l (s.set n .fz)∧g'.F=g.F.upd a u:=by
 have hs:s≠[]:=by
  intro e
  rw [e] at hn
  exact absurd hn (ba n)
 have sm:Same g.F.h (upd g.F.h a u):=fun b w e=>by
  rw [upd_ne (ne_of_none e hk.f)]
  exact e
 have le:g.F.le (g.F.upd a u):=⟨sm,fun _ _ h=>h⟩
 refine ⟨⟨g.F.upd a u,g.B,g.M⟩,⟨rfl,le,fun b o h1 h2=>?_,rfl⟩,⟨S.sB,fun b w e=>?_,S.len,fun i z hz=>?_,S.ow,⟨fun k c q=>?_,S.st.lv,fun _ b k q=>?_,fun h=>?_,S.st.mb⟩⟩,?_⟩
 ·by_cases e:b=a
  ·subst e; exact hk.b
  ·have h1:upd g.F.h a u b=some o:=h1
   rw [upd_ne e] at h1
   rw [h1] at h2
   cases h2
 ·by_cases eb:b=a
  ·subst eb
   have e:upd g.F.h b u b=some w:=e
   rw [upd_same] at e
   rw [hu]
   exact e
  ·have e:upd g.F.h a u b=some w:=e
   rw [upd_ne eb] at e
   exact S.sF b w e
 ·obtain ⟨w,h1,h2⟩:=S.sl i z hz
  refine ⟨w,h1,?_⟩
  obtain ⟨t,e⟩:=z
  cases t with
  | fr=>exact Rp.mono le h2
  | bo=>exact h2.imp (fun q=>q.mono le) fun q=>q.mono le (Same.refl _)
  | ow =>
   refine ⟨h2.1.mono le (Same.refl _),fun b eb=>⟨?_,(h2.2 b eb).2⟩⟩
   show upd g.F.h a u b=none
   rw [upd_ne fun e=>(h2.2 b eb).2.2 n (by rw [e]; exact hk.m)]
   exact (h2.2 b eb).1
  | nw=>exact h2
 ·by_cases ek:n=k
  ·subst ek
   rw [aJ hn] at q
   cases (ad q)
   exact .fz
  ·rw [ay ek] at q
   refine (S.st.at_ k c q).mono le (fun b kk=>⟨kk.m,kk.u,?_,kk.b⟩) fun _ _ _ h=>h
   show upd g.F.h a u b=none
   rw [upd_ne fun e=>ek (by have:=kk.m; rw [e,hk.m] at this; exact ad this)]
   exact kk.f
 ·rw [aH]
  exact S.st.lt hs b k q
 ·exact absurd h (fun h=>hs (bh (by have:=bD List.length h; rw [aH] at this; exact this)))
 ·rfl
theorem SR.cfz (S:SR Y g σ H l s) {a:Addr} (hk:CAt g.F g.B n a) (hn:n < s.length) (tp:TpW Y g.F H d (.ref a)):∃ g',Ext g g'∧SR Y g' σ H l (s.set n .fz)∧Rp Y g'.F d (.ref a):=by
 obtain ⟨_,e0,hpa⟩:=tp.isRef
 cases e0
 obtain ⟨u,hu⟩:=aZ.mp hpa
 obtain ⟨g',e,S',eF⟩:=S.cfzU hk hn hu
 refine ⟨g',e,S',?_⟩
 have le:g.F.le g'.F:=e.f
 have at_:g'.F.h a=some u:=by rw [eF]; exact upd_same
 cases tp with
 | lst h r=>rw [h] at hu; cases hu; exact .lst at_ (r.mono le)
 | dk h r=>rw [h] at hu; cases hu; exact .dk at_ (r.mono le)
 | dt h w r=>rw [h] at hu; cases hu; exact .dt at_ w (r.mono le)

theorem SR.cfzD (S:SR Y g σ H l s) {a:Addr} {kvs:List (Key × V)} {ps:List (D × D)} {ob:Obj} (hk:CAt g.F g.B n a) (hn:n < s.length) (r:Rpk Y g.F ps kvs) :
  ∃ g',Ext g g'∧SR Y g' σ (upd H a (.frz ob (.dK kvs))) l (s.set n .fz)∧Rp Y g'.F (.fdc ps) (.ref a):=by
 have S1:SR Y g σ (upd H a (.frz ob (.dK kvs))) l (s.set n .fz):=S.cwr hk hn .fz
 obtain ⟨g',e,S',eF⟩:=S1.cfzU hk (by rw [aH]; exact hn) upd_same
 rw [List.set_set] at S'
 exact ⟨g',e,S',.fd (by rw [eF]; exact upd_same) (r.mono e.f)⟩
end
section
variable {C:Cx} {S:Sc} {G:Gn} {W:WX} {e f b:Expr} {es:List Expr} {pos apos cpos:Pos} {xa xb xc:X}
theorem BP (ha:PE C e (rd G.gm W xa)):PE C e (rd G.gm W (.new xa)):=by
 refine PE.imp ha ?_
 rintro σ H Q ⟨g,l,s,SS,h⟩
 refine kI SS (show ValE G.gm W g σ l ((b9 G.fs G.gs xa l s).bind _) Q from h) fun d t s1 g1 v H1 e1 S1 v1 h1=>?_
 have h2:ValE G.gm W g1 σ l (if t=.nw∧s1≠[] then cr (.loc s1.length) (s1++[.obj d]) else .no) Q:=h1
 clear h1
 by_cases hc:t=.nw∧s1≠[]
 ·rw [aj hc] at h2
  obtain ⟨ht,hs⟩:=hc
  rw [ht] at v1
  obtain ⟨g2,e2,S2,r⟩:=S1.cell hs v1
  exact h2 g2 v H1 e2 S2 r
 ·rw [aq hc] at h2
  exact h2.elim

theorem qJ {t:TE} (ha:PE C e t):PE C e (fun σ H Q=>t σ H fun v H1=>Q v H1∨∃ a kvs,v=.ref a∧H1 a=some (.dK kvs)∧∀ ob,Q (.ref a) (upd H1 a (.frz ob (.dK kvs)))):=by
 refine ⟨fun pins s σ H Q I h=>thn (ha.run pins s σ H _ I h) fun u s1 ⟨v,H1,I1,rv,q⟩=>?_⟩
 rcases q with q | ⟨a,kvs,rfl,hd,q⟩
 ·exact ⟨v,H1,I1,rv,q⟩
 ·obtain ⟨ob,I2⟩:=I1.lock hd (by trivial)
  exact ⟨.ref a,_,I2,rv,q ob⟩
theorem BQ (ha:PE C e (rd G.gm W xa)):PE C e (rd G.gm W (.frz xa)):=by
 refine PE.imp (qJ ha) ?_
 rintro σ H Q ⟨g,l,s,SS,h⟩
 refine cB SS (show ValE G.gm W g σ l ((b9 G.fs G.gs xa l s).bind _) Q from h) fun d t s1 g1 v H1 e1 S1 v1 h1=>?_
 cases d with
 | loc n =>
  cases ec:s1[n]? with
  | none =>
   have h1:ValE G.gm W g1 σ l (match s1[n]? with | some (.obj (.dic false kvs))=>cr (.fdc kvs) (s1.set n .fz) | some (.obj d)=>cr d (s1.set n .fz) | _=>.no) Q:=h1
   rw [ec] at h1; exact h1.elim
  | some c =>
   have h1:ValE G.gm W g1 σ l (match s1[n]? with | some (.obj (.dic false kvs))=>cr (.fdc kvs) (s1.set n .fz) | some (.obj d)=>cr d (s1.set n .fz) | _=>.no) Q:=h1
   rw [ec] at h1
   cases c with
   | ins _ _=>exact h1.elim
   | fz=>exact h1.elim
   | obj d =>
    obtain ⟨a,rfl,k,tp⟩:=S1.ce (v1.rd S1) ec
    have hn:=(au.mp ec).1
    have other:(∀ kvs,d≠.dic false kvs)→ValE G.gm W g1 σ l (cr d (s1.set n .fz)) Q→(Q (.ref a) H1∨∃ a' kvs,(V.ref a:V)=.ref a'∧H1 a'=some (.dK kvs)∧∀ ob,Q (.ref a') (upd H1 a' (.frz ob (.dK kvs)))):=fun _ h2=>by
     obtain ⟨g2,e2,S2,r⟩:=S1.cfz k hn tp
     exact .inl (h2 g2 _ H1 e2 S2 r)
    cases d with
    | dic kk ps =>
     cases kk with
     | true=>exact other (fun _ z=>by cases z) h1
     | false =>
      cases tp with
      | dk hh r =>
       refine .inr ⟨a,_,rfl,hh,fun ob=>?_⟩
       obtain ⟨g2,e2,S2,r2⟩:=S1.cfzD (ob:=ob) k hn r
       exact h1 g2 _ _ e2 S2 r2
    | _=>exact other (fun _ z=>by cases z) h1
 | _=>exact h1.elim
theorem SR.cfzs {Y:Wd} {σ:L2.St} {H:Hp} {l:Lc}:∀ {xs ds:List D} {vs:List V} {g:Gh} {s s':cj},SR Y g σ H l s→Rps Y g.F xs vs→pw xs s=some (ds,s')→∃ g',Ext g g'∧SR Y g' σ H l s'∧Rps Y g'.F ds vs
 | [],ds,vs,g,s,s',S,r,e=>by
  have e:some (([]:List D),s)=some (ds,s'):=e
  cases e
  cases r
  exact ⟨g,.refl g,S,.nil⟩
 | x :: xs,ds,vs,g,s,s',S,r,e=>by
  cases x with
  | loc n =>
   have e:(match s[n]? with
    | some (.obj (.lst es))=>match pw xs (s.set n .fz) with
     | some (ds,s')=>some (.lst es :: ds,s')
     | none=>none
    | _=>none)=some (ds,s'):=e
   split at e
   ·rename_i es hc
    cases ef:pw xs (s.set n .fz) with
    | none=>rw [ef] at e; cases e
    | some p =>
     obtain ⟨ds2,s2⟩:=p
     rw [ef] at e
     cases e
     cases r with
     | cons r1 r2 =>
      obtain ⟨a,rfl,k,tp⟩:=S.ce (.inl r1) hc
      obtain ⟨g1,e1,S1,q1⟩:=S.cfz k (au.mp hc).1 tp
      obtain ⟨g2,e2,S2,q2⟩:=SR.cfzs S1 (r2.mono e1.f) ef
      exact ⟨g2,e1.trans e2,S2,.cons (q1.mono e2.f) q2⟩
   ·cases e
  | _=>cases e
theorem yR (ha:PE C e (rd G.gm W xa)):PE C e (rd G.gm W (.frzs xa)):=by
 refine PE.imp ha ?_
 rintro σ H Q ⟨g,l,s,SS,h⟩
 refine iN SS (show ValE G.gm W g σ l (cg (b9 G.fs G.gs xa l s) _) Q from h) fun d s1 g1 v H1 e1 S1 r1 h1=>?_
 cases d with
 | lst xs =>
  have h1:ValE G.gm W g1 σ l (match pw xs s1 with
   | some (ds,s2)=>cr (.lst ds) s2
   | none=>.no) Q:=h1
  cases ef:pw xs s1 with
  | none=>rw [ef] at h1; exact h1.elim
  | some p =>
   obtain ⟨ds,s2⟩:=p
   rw [ef] at h1
   cases r1 with
   | lst hh r =>
    obtain ⟨g2,e2,S2,r2⟩:=S1.cfzs r ef
    exact h1 g2 _ H1 e2 S2 (.lst (e2.f.s _ _ hh) r2)
 | _=>exact h1.elim

theorem TpW.toRp {Y:Wd} {F:Fr} {H:Hp} {m:Addr→Option Nat} {d:D} {v:V} (le:F.le ⟨H,m⟩):TpW Y F H d v→Rp Y ⟨H,m⟩ d v
 | .lst h r=>.lst h (r.mono le)
 | .dk h r=>.dk h (r.mono le)
 | .dt h o r=>.dt h o (r.mono le)
section
variable {Y:Wd} {g:Gh} {σ:L2.St} {H:Hp} {l:Lc} {s:cj}
theorem SR.leH (S:SR Y g σ H l s):g.F.le ⟨H,g.F.m⟩:=⟨S.sF,fun _ _ h=>h⟩
mutual
theorem Rp.deep (S:SR Y g σ H l s):∀ {d:D} {v:V},Rp Y g.F d v→Rp Y ⟨H,g.F.m⟩ (l9 s d) v
 | _,_,.non=>.non
 | _,_,.bl b=>.bl b
 | _,_,.int i=>.int i
 | _,_,.str x=>.str x
 | _,_,.tup h r=>.tup (h.mono S.leH.s) (Rps.deep S r)
 | _,_,.lst h r=>.lst (S.sF _ _ h) (Rps.deep S r)
 | _,_,.arr h r=>Rp.mono S.leH (.arr h r)
 | _,_,.dk h r=>Rp.mono S.leH (.dk h r)
 | _,_,.dt h o r=>Rp.mono S.leH (.dt h o r)
 | _,_,.loc (n:=n) h=>by
  show Rp Y ⟨H,g.F.m⟩ (match s[n]? with
   | some (.obj d)=>d
   | _=>.loc n) _
  split
  ·rename_i d ec
   obtain ⟨a,ea,k,tp⟩:=S.ce (.inl (.loc h)) ec
   cases ea
   exact tp.toRp S.leH
  ·exact .loc h
 | _,_,.exc h=>.exc h
 | _,_,.fd h r=>Rp.mono S.leH (.fd h r)
 | _,_,.tb h=>.tb h
theorem Rps.deep (S:SR Y g σ H l s):∀ {ds:List D} {vs:List V},Rps Y g.F ds vs→Rps Y ⟨H,g.F.m⟩ (eX s ds) vs
 | _,_,.nil=>.nil
 | _,_,.cons h r=>.cons (Rp.deep S h) (Rps.deep S r)
end

theorem TpW.deep (S:SR Y g σ H l s) {d:D} {v:V}:TpW Y g.F H d v→TpW Y ⟨H,g.F.m⟩ H (l9 s d) v
 | .lst h r=>.lst h (Rps.deep S r)
 | .dk h r=>.dk h (r.mono S.leH)
 | .dt h o r=>.dt h o (r.mono S.leH)
theorem mf (S:SR Y g σ H l s):∀ {kp:List Bool} {ds:List D} {vs:List V},ArgR Y ⟨g.F,H,g.F.m⟩ kp ds vs→ArgR Y ⟨⟨H,g.F.m⟩,H,g.F.m⟩ kp (eX s ds) vs
 | _,[],[],_=>trivial
 | kp,d :: ds,v :: vs,⟨h1,h2⟩=>by
  refine ⟨?_,mf S h2⟩
  by_cases hk:kp.headD false=true
  ·rw [aj hk] at h1 ⊢
   exact Rp.deep S h1
  ·rw [aq hk] at h1 ⊢
   exact h1.imp (Rp.deep S) (TpW.deep S)
 | _,[],_ :: _,h=>h.elim
 | _,_ :: _,[],h=>h.elim
end
theorem v6 {Y:Wd} {F F':Fr} {d:D} {v:V} (h:d.flat=true) (r:Rp Y F d v):Rp Y F' d v:=by
 cases r with
 | non=>exact .non
 | bl b=>exact .bl b
 | int i=>exact .int i
 | str x=>exact .str x
 | _=>cases h
theorem yS (B:Gd C S G W) (hh:S.hot=false) {j:Nat} {x:Str} {p:Pos} (hx:S.cs[j]?=some x) (hg:dc S.sc x=true) (hn:fN x=true) (hs:b8 e=true) (hs2:es.all b8=true) (ha:∀ kp,PA C (e :: es) (tF G.gm W xa kp)) :
  PE C (.Call (.Name x p) (e :: es) [] pos) (rd G.gm W (.calD j xa)):=by
 cases ef:G.fs[j]? with
 | none =>
  refine PE.imp (t:=fun _ _ _=>False) ⟨fun _ _ _ _ _ _ h=>h.elim⟩ ?_
  rintro σ H Q ⟨g,l,s,SS,h⟩
  have h:ValE G.gm W g σ l (b9 G.fs G.gs (.calD j xa) l s) Q:=h
  simp only [b9,ef] at h
  exact h
 | some F =>
  obtain ⟨a,fd,ps,hF,hm,hk,hb⟩:=B.fns hh j x F hx ef
  refine PE.imp (pe_callS hF (B.room hh) (B.gl hg) hm hk hb (fun σ=>passAt B.tk σ) (ha F.kp) (dX hn) (b6 hs) (du hs2)) ?_
  rintro σ H Q ⟨g,l,s,SS,h⟩
  have h:ValE G.gm W g σ l (b9 G.fs G.gs (.calD j xa) l s) Q:=h
  simp only [b9,ef] at h
  refine gj SS (show ValR G.gm W g σ ((fE G.fs G.gs xa F.kp l s).bind _) (KE G.gm σ l Q) from ValE.toR h) fun ds s1 g1 vs H1 e1 S1 r1 h1=>?_
  have h1:ValR G.gm W g1 σ (match F.run (eX s1 ds) with
   | .ok (d,.fr)=>if d.flat=true then cr d s1 else .no
   | _=>.no) (KE G.gm σ l Q):=h1
  refine .inl ⟨⟨H1,g1.F.m⟩,eX s1 ds,Same.refl H1,S1.st.lv,mf S1 (r1.arg S1),?_⟩
  cases er:F.run (eX s1 ds) with
  | ok q =>
   obtain ⟨d,t⟩:=q
   rw [er] at h1
   cases t with
   | fr =>
    have h1:ValR G.gm W g1 σ (if d.flat=true then cr d s1 else .no) (KE G.gm σ l Q):=h1
    by_cases hf:d.flat=true
    ·rw [aj hf] at h1
     intro F' H' v sm sF em ex rr
     exact h1 g1 (.refl g1) v H' (S1.heap sm) (v6 hf rr)
    ·rw [aq hf] at h1
     exact h1.elim
   | _=>exact h1.elim
  | er e s' l'=>rw [er] at h1; exact h1.elim
  | no=>rw [er] at h1; exact h1.elim
theorem BR (B:Gd C S G W) (hh:S.hot=false) (f:BI) {p:Pos} (hg:dc S.sc f.nm=true) (hs:b8 e=true) (ha:PE C e (rd G.gm W xa)):PE C (.Call (.Name f.nm p) [e] [] pos) (rd G.gm W (.rdl f xa)):=by
 refine PE.imp (nX f.isV (tE B.Y (B.calm hh) B.hu f) (B.gl hg) (B.blt _ f.nmOk.2.2) f.boot (pa_cons ha pa_nil (b6 hs)) f.nmOk.1 f.nmOk.2.1 (b6 hs) (by rfl)) ?_
 rintro σ H Q ⟨g,l,s,SS,h⟩
 refine cB SS (show ValE G.gm W g σ l ((b9 G.fs G.gs xa l s).bind _) Q from h) fun d t s1 g1 v H1 e1 S1 v1 h1=>?_
 have h1:ValE G.gm W g1 σ l (match vx s1 d with | some d=>BI.run f [d] s1 | none=>.no) Q:=h1
 cases ec:vx s1 d with
 | none=>rw [ec] at h1; exact h1.elim
 | some d' =>
  rw [ec] at h1
  exact qA S1 h1 ⟨S1.ceR (v1.rd S1) ec,trivial⟩
theorem xN (o:COp) (neg:Bool) (ho:o=if neg=true then .notin else .isin):∀ σ H Q,rd G.gm W (.inl neg xa xb) σ H Q→tOp (cR G.Y o) (rd G.gm W xa) (rd G.gm W xb) σ H Q:=by
 rintro σ H Q ⟨g,l,s,SS,h⟩
 refine cB SS (show ValE G.gm W g σ l ((b9 G.fs G.gs xa l s).bind _) Q from h) fun d t s1 g1 v H1 e1 S1 v1 h1=>?_
 refine cB S1 (show ValE G.gm W g1 σ l ((b9 G.fs G.gs xb l s1).bind _) Q from h1) fun d2 t2 s2 g2 v2 H2 e2 S2 w1 h2=>?_
 have h2:ValE G.gm W g2 σ l (match vx s2 d2 with | some z=>COp.run (if neg=true then .notin else .isin) d z s2 | none=>.no) Q:=h2
 cases ec:vx s2 d2 with
 | none=>rw [ec] at h2; exact h2.elim
 | some z =>
  rw [ec,← ho] at h2
  exact mM S2 h2 ((v1.ext e2).rd S2) (S2.ceR (w1.rd S2) ec)
theorem BS (B:Gd C S G W) (o:COp) (neg:Bool) (ho:o=if neg=true then .notin else .isin) (hk:jT o b=true) (ha:PE C e (rd G.gm W xa)) (hb:PE C b (rd G.gm W xb)):PE C (.Compare e [o.op] [b] pos) (rd G.gm W (.inl neg xa xb)) :=
 PE.imp (pe_cmpR (kj (iz B) B.Y o) ha hb (iP hk)) (xN o neg ho)
theorem BT (B:Gd C S G W) (o:COp) (neg:Bool) (ho:o=if neg=true then .notin else .isin) (hk:jT o b=true) (ha:PE C e (rd G.gm W xa)) (hb:PE C b (rd G.gm W xb)):PT C (.Compare e [o.op] [b] pos) (js G.gm W (.inl neg xa xb)) :=
 PT.imp (pt_cmpR (kj (iz B) B.Y o) ha hb (iP hk)) fun σ H Q h=>xN o neg ho σ H _ (mQ h)
theorem BU (B:Gd C S G W) (hs:cO f=true) (ha:PE C e (rd G.gm W xa)) (hb:PE C f (rd G.gm W xb)):PE C (.Subscript e f pos) (rd G.gm W (.ixl xa xb)):=by
 refine PE.imp (pe_ix (xH B.hu B.Y) ha hb (jb hs)) ?_
 rintro σ H Q ⟨g,l,s,SS,h⟩
 refine cB SS (show ValE G.gm W g σ l ((b9 G.fs G.gs xa l s).bind _) Q from h) fun d t s1 g1 v H1 e1 S1 v1 h1=>?_
 refine cB S1 (show ValE G.gm W g1 σ l ((b9 G.fs G.gs xb l s1).bind _) Q from h1) fun d2 t2 s2 g2 v2 H2 e2 S2 w1 h2=>?_
 have h2:ValE G.gm W g2 σ l (match vx s2 d with | some z=>mH z d2 s2 | none=>.no) Q:=h2
 cases ec:vx s2 d with
 | none=>rw [ec] at h2; exact h2.elim
 | some z =>
  rw [ec] at h2
  exact tD S2 h2 (S2.ceR ((v1.ext e2).rd S2) ec) (w1.rd S2)
theorem eh {o:Expr} {m:Str} {env:Env} {x:Sem Value} (h:cM o=true):attributeBase o m env x=x:=by
 cases o
 case Call f args kws p =>
  cases args with
  | nil=>cases h
  | cons a r=>cases f <;> rfl
 all_goals rfl
theorem BV (B:Gd C S G W) {c nm:Str} (hf:(c,nm)∈S.fl) (hn:cM e=true) (ha:PE C e (rd G.gm W xa)):PE C (.Attribute e nm pos) (rd G.gm W (.fld c nm xa)):=by
 refine PE.imp (pe_fld ha (eh hn)) ?_
 rintro σ H Q ⟨g,l,s,SS,h⟩
 refine cB SS (show ValE G.gm W g σ l ((b9 G.fs G.gs xa l s).bind _) Q from h) fun d t s1 g1 v H1 e1 S1 v1 h1=>?_
 have h2:ValE G.gm W g1 σ l (match pq s1 c d with
  | some fv=>match fv.lookup nm with
   | some d=>cr d s1
   | none=>.no
  | none=>.no) Q:=h1
 clear h1
 cases ec:pq s1 c d with
 | none=>rw [ec] at h2; exact h2.elim
 | some fs =>
  rw [ec] at h2
  obtain ⟨n,a,dx,fv,_,_,ev,k,hh,hz,hr⟩:=S1.ci (v1.rd S1) ec
  have h3:ValE G.gm W g1 σ l (match fs.lookup nm with | some d=>cr d s1 | none=>.no) Q:=h2
  have hq:=hr nm
  cases el:fs.lookup nm with
  | none=>rw [el] at h3; exact h3.elim
  | some d' =>
   rw [el] at h3 hq
   obtain ⟨w,q1,q2⟩:=hq
   obtain ⟨k1,k2⟩:=B.fl c nm hf
   have hh2:H1 a=some (.ins (He.ga C.K c) dx fv):=by rw [← B.hK]; exact hh
   exact ⟨a,_,dx,fv,w,ev,hh2,k1,k2,q1,h3.frz S1 q2⟩
end
section
variable {C:Cx} {S:Sc} {G:Gn} {W:WX} {e f b o:Expr} {es:List Expr} {pos apos cpos:Pos} {xa xb xc:X} {k:Nat} {sp:Sp} {m x:Str} {p:Pos} {a c:Addr} {fd:FuncData} {ps:List Str} {ta:TE} {t:TA}

theorem Rps.front {Y:Wd} {F:Fr} {ds:List D} {vs:List V} (r:Rps Y F ds vs):Rps Y F ds.dropLast vs.dropLast:=by
 rw [bL,bL,r.length]
 exact r.take _
theorem yT (hl:(apos.endLine == cpos.line)=true) (hn:cM o=true) (ha:PE C o (rd G.gm W xa)):PE C (.Call (.Attribute o "pop" apos) [] [] cpos) (rd G.gm W (.popl xa)):=by
 refine PE.imp (pe_bm0 PySem.F.plainAttrs_list PySem.F.slot_list_pop PySem.F.type_list_pop mt_pop ha (eh hn) hl) ?_
 rintro σ H Q ⟨g,l,s,SS,h⟩
 refine cB SS (show ValE G.gm W g σ l ((b9 G.fs G.gs xa l s).bind _) Q from h) fun d t s1 g1 v H1 e1 S1 v1 h1=>?_
 cases d with
 | loc n =>
  have h1:ValE G.gm W g1 σ l (match s1[n]? with
   | some (.obj (.lst es))=>match es[es.length - 1]? with
    | some d=>cr d (s1.set n (.obj (.lst es.dropLast)))
    | none=>.no
   | _=>.no) Q:=h1
  cases ec:s1[n]? with
  | none=>rw [ec] at h1; exact h1.elim
  | some q =>
   rw [ec] at h1
   cases q with
   | ins _ _=>exact h1.elim
   | fz=>exact h1.elim
   | obj d =>
    cases d with
    | lst ds =>
     obtain ⟨a,rfl,k,tp⟩:=S1.ce (v1.rd S1) ec
     cases tp with
     | lst hh r =>
      have h1:ValE G.gm W g1 σ l (match ds[ds.length - 1]? with
       | some d=>cr d (s1.set n (.obj (.lst ds.dropLast)))
       | none=>.no) Q:=h1
      cases ed:ds[ds.length - 1]? with
      | none=>rw [ed] at h1; exact h1.elim
      | some d =>
       rw [ed] at h1
       obtain ⟨w,hw,rw'⟩:=r.get ed
       refine ⟨.inl ⟨rfl,_,.inl (.inl hh)⟩,a,_,w,rfl,rfl,hh,by rw [← r.length]; exact hw,?_⟩
       exact h1 g1 _ _ (.refl g1) (S1.cwr k (au.mp ec).1 (.obj k (.lst upd_same r.front))) rw'
    | _=>exact h1.elim
 | _=>exact h1.elim
theorem yU (hl:(apos.endLine == cpos.line)=true) (hn:cM o=true) (hs:b8 f=true) (ha:PE C o (rd G.gm W xa)) (hk:PE C f (rd G.gm W xb)):PE C (.Call (.Attribute o "pop" apos) [f] [] cpos) (rd G.gm W (.popk xa xb)):=by
 refine PE.imp (pe_dpop1 ha hk ⟨eh hn,by rw [b6 hs]; rfl,hl,by rw [b6 hs]; rfl⟩) ?_
 rintro σ H Q ⟨g,l,s,SS,h⟩
 refine cB SS (show ValE G.gm W g σ l ((b9 G.fs G.gs xa l s).bind _) Q from h) fun d t s1 g1 v H1 e1 S1 v1 h1=>?_
 cases d with
 | loc n =>
  have h1:ValE G.gm W g1 σ l (match s1[n]? with
   | some (.obj (.dic false _))=>(b9 G.fs G.gs xb l s1).bind fun (y,_,s2)=>match s2[n]? with
    | some (.obj (.dic false kvs))=>if (D.keyOf y).isSome=true then match D.look kvs y with
     | some d=>cr d (s2.set n (.obj (.dic false (D.drop kvs y))))
     | none=>.no
     else .no
    | _=>.no
   | _=>.no) Q:=h1
  cases ec:s1[n]? with
  | none=>rw [ec] at h1; exact h1.elim
  | some q =>
   rw [ec] at h1
   cases q with
   | ins _ _=>exact h1.elim
   | fz=>exact h1.elim
   | obj d =>
    cases d with
    | dic b ds =>
     cases b with
     | true=>exact h1.elim
     | false =>
      obtain ⟨a,rfl,k,tp⟩:=S1.ce (v1.rd S1) ec
      cases tp with
      | dk hh r =>
       refine ⟨a,rfl,.inl ⟨_,.inl hh⟩,?_⟩
       have h1:ValE G.gm W g1 σ l ((b9 G.fs G.gs xb l s1).bind fun (y,_,s2)=>match s2[n]? with
        | some (.obj (.dic false kvs))=>if (D.keyOf y).isSome=true then match D.look kvs y with
         | some d=>cr d (s2.set n (.obj (.dic false (D.drop kvs y))))
         | none=>.no
         else .no
        | _=>.no) Q:=h1
       refine cB S1 h1 fun d2 t2 s2 g2 v2 H2 e2 S2 w1 h2=>?_
       have h2:ValE G.gm W g2 σ l (match s2[n]? with
        | some (.obj (.dic false kvs))=>if (D.keyOf d2).isSome=true then match D.look kvs d2 with
         | some d=>cr d (s2.set n (.obj (.dic false (D.drop kvs d2))))
         | none=>.no
         else .no
        | _=>.no) Q:=h2
       cases ec2:s2[n]? with
       | none=>rw [ec2] at h2; exact h2.elim
       | some q2 =>
        rw [ec2] at h2
        cases q2 with
        | ins _ _=>exact h2.elim
        | fz=>exact h2.elim
        | obj d3 =>
         cases d3 with
         | dic b3 ks =>
          cases b3 with
          | true=>exact h2.elim
          | false =>
           have h3:ValE G.gm W g2 σ l (if (D.keyOf d2).isSome=true then match D.look ks d2 with
            | some d=>cr d (s2.set n (.obj (.dic false (D.drop ks d2))))
            | none=>.no
            else .no) Q:=h2
           clear h2
           split at h3
           ·rename_i hk2
            obtain ⟨q3,hq⟩:=aZ.mp hk2
            obtain ⟨a2,ea,k2,tp2⟩:=S2.ce ((v1.ext e2).rd S2) ec2
            cases ea
            cases tp2 with
            | dk hh2 r2 =>
             have ky:v2=kV q3:=by
              cases d2 with
              | int i=>cases (ad hq); exact (w1.rd S2).int
              | str i=>cases (ad hq); exact (w1.rd S2).str
              | _=>cases hq
             rcases r2.look hq with ⟨e4,_⟩ | ⟨d4,v4,e4,e5,r5⟩
             ·rw [e4] at h3
              exact h3.elim
             ·rw [e4] at h3
              refine ⟨_,q3,v4,hh2,ky,e5,?_⟩
              exact h3 g2 _ _ (.refl g2) (S2.cwr k2 (au.mp ec2).1 (.obj k2 (.dk upd_same (r2.drop hq)))) r5
           ·exact h3.elim
         | _=>exact h2.elim
    | _=>exact h1.elim
 | _=>exact h1.elim

theorem n6:∀ {es:List Expr} {env:Env} {pos:Pos},es.all b8=true→(backTo pos (starEach es env)).all (fun z=>!z.1)=true
 | [],_,_,_=>rfl
 | e :: es,env,pos,h=>by
  rw [a0,ab] at h
  rw [b6 h.1]
  show ((!false) && (backTo pos (starEach es env)).all (fun z=>!z.1))=true
  rw [n6 h.2]
  rfl
theorem pK {M:Model} {A:Around} {env:Env} {s:Shared} {Q:Value→Shared→Prop} {E:Value→Shared→Prop} (hn:cM o=true) (hl:(apos.endLine == pos.line)=true) (hs:es.all b8=true) (hf:es.length < 30)
  (h:wpAny M A (eval o env) (fun w s1=>wpAny M A (getMethod w m (do return (← importBound o env).getD true)) (fun fx s2=>wpAny M A (callWith pos fx.1 fx.2 (backTo pos (starEach es env)) []) Q E s2) E s1) E s) :
  wpAny M A (eval (.Call (.Attribute o m apos) es [] pos) env) Q E s:=by
 rw [arm_eval_Call,eh hn]
 refine wpAny_bind (wpAny_mono h (fun w s1 h1=>wpAny_bind (wpAny_standAt ?_)) fun _ _ x=>x)
 have hform:methodCallForm (es.length+([]:List Keyword).length) (backTo pos (starEach es env)) (backToKw pos (keywordEach [] env))=true:=by
  unfold methodCallForm
  rw [n6 hs]
  show (true && true && decide (es.length+0+0 < 30))=true
  simpa using hf
 have hpos:methodCallPos true o env apos pos=pure pos:=by unfold methodCallPos; simp [hl]
 unfold methodCall
 rw [hform]
 exact wpAny_bind (wpAny_holding (wpAny_mono h1 (fun fx s2 h2=>wpAny_bind (wpAny_of_eq hpos h2)) fun _ _ x=>x))

def Hs (c:Addr) (m:Str) (sp:Sp) (W:WX) (ta:TE) (t:TA):TE:=fun σ H Q =>
 ta σ H fun v H1=>∃ a dx fv,v=.ref a∧H1 a=some (.ins c dx fv)∧fv.lookup m=none∧t σ H1 fun vs H2=>sp (v :: vs) H2 Q (WE W σ)
theorem yV (tk:Takes C W) (F:FnOk C.prog C.w C.K C.mg C.base (L2.CX C.prog C.w) k a fd ps sp) (hr:Room k C.A) (hc:L2.Cls C.K c) (hm:L2.Meth C.K c m a) (hb:Binds C.K fd ps []) (hn:cM o=true) (hl:(apos.endLine == pos.line)=true)
  (he:PE C o ta):PE C (.Call (.Attribute o m apos) [] [] pos) (Hs c m sp W ta tNil):=by
 refine ⟨fun pins s0 σ H Q I h=>pK hn hl rfl (by decide) (thn (he.run pins s0 σ H _ I h) ?_)⟩
 rintro u s1 ⟨v,H1,I1,rv,a2,dx,fv,ev,ea,lu,q⟩
 subst ev
 cases (show u=Value.ref a2 from rv)
 refine getmeth_ok I1 ea hc hm lu ?_
 exact PySem.W.callWith_K0 (first:=[.ref a2]) I1.kIn hm.kp (run_fnS (us:=[.ref a2]) (vs:=[.ref a2]) F hr hb (passAt tk σ) I1 #v[rfl] q)
theorem BW (tk:Takes C W) (F:FnOk C.prog C.w C.K C.mg C.base (L2.CX C.prog C.w) k a fd ps sp) (hr:Room k C.A) (hc:L2.Cls C.K c) (hm:L2.Meth C.K c m a) (hb:Binds C.K fd ps []) (hn:cM o=true) (hl:(apos.endLine == pos.line)=true) (hs:(e :: es).all b8=true) (hf:(e :: es).length < 30)
  (he:PE C o ta) (ha:PA C (e :: es) t):PE C (.Call (.Attribute o m apos) (e :: es) [] pos) (Hs c m sp W ta t):=by
 refine ⟨fun pins s0 σ H Q I h=>pK hn hl hs hf (thn (he.run pins s0 σ H _ I h) ?_)⟩
 rintro u s1 ⟨v,H1,I1,rv,a2,dx,fv,ev,ea,lu,q⟩
 subst ev
 cases (show u=Value.ref a2 from rv)
 refine getmeth_ok I1 ea hc hm lu ?_
 rw [a0,ab] at hs
 refine PySem.W.callWith_K (first:=[.ref a2]) (h₀:=C.base) I1.ok.mod.kin hm.kp (thn (ha.run pos pins s1 σ H1 _ I1 q) ?_) (b6 hs.1) (du hs.2)
 rintro us s2 ⟨vs,H2,I2,r,q2⟩
 exact ⟨I2.kIn,run_fnS (us:=.ref a2 :: us) (vs:=.ref a2 :: vs) F hr hb (passAt tk σ) I2 (.cons rfl r) q2⟩

def EH (c:Addr) (sp:Sp) (W:WX) (t:TA):TE:=fun σ H Q =>
 t σ H fun vs H1=>∀ y dy,H1 y=none→H1 dy=none→dy≠y→sp (.ref y :: vs) (upd (upd H1 dy (.own y)) y (.ins c dy [])) (fun v H2=>v=.non∧Q (.ref y) H2) (WE W σ)
theorem yW (tk:Takes C W) (M:L2.Mk C.K c a) (F:FnOk C.prog C.w C.K C.mg C.base (L2.CX C.prog C.w) k a fd ps sp) (hr:Room (k+1) C.A) (hg:Gl C x) (hx:C.mg x=some (.ref c)) (hb:Binds C.K fd ps []) (hd:(x == ("__debug__":Str))=false) (hs:b8 e=true) (hs2:es.all b8=true)
  (ha:PA C (e :: es) t):PE C (.Call (.Name x p) (e :: es) [] pos) (EH c sp W t):=by
 refine ⟨fun pins s0 σ H Q I h=>wpAny_Call_Name_kw (ld_glob I hg hx ?_ hd)⟩
 refine PySem.W.callWith_K (h₀:=C.base) I.ok.mod.kin M.kp (thn (ha.run pos pins s0 σ H _ I h) ?_) (b6 hs) (du hs2)
 rintro us s1 ⟨vs,H1,I1,r,q⟩
 refine ⟨I1.kIn,?_⟩
 have q1:=q (s1.heap.objs.size+1) s1.heap.objs.size (I1.hok.fresh (Nat.le_succ _)) (I1.hok.fresh (ax _)) (aX (Nat.lt_succ_self _))
 have J:=Inv.made (C:=c) I1
 have rs:Vals (V.ref (s1.heap.objs.size+1) :: vs) (Value.ref (s1.heap.objs.size+1) :: us):=.cons rfl r
 have hl:(Value.ref (s1.heap.objs.size+1) :: us).length=ps.length:=by rw [← rs.length]; exact F.len _ _ _ _ q1
 have bb:=hb { s1 with heap:=(s1.heap.push PySem.W.emptyDict).push (PySem.W.instObj c s1.heap.objs.size) } (Value.ref (s1.heap.objs.size+1) :: us) J.kIn (by rw [aM]; exact hl)
 rw [aM] at bb
 refine wpAny_call (make_map (f:=a) I1.kIn M.makes M.init (bY.mp M.fn) (codeAny_mono (F.run _ C.stack _ _ ⟨Value.ref (s1.heap.objs.size+1) :: us,[]⟩ _ _ _ (WE W σ) (hr.make c us []) (J.env0.make c us []) bb rs q1) ?_))
 intro res s2 hq
 cases res with
 | error ex=>exact passAt tk σ pins _ _ ex s2 J hq
 | ok fl =>
  cases fl with
  | ret u =>
   obtain ⟨v,H2,I2,rv,ev,q3⟩:=J.after hq
   subst ev
   exact ⟨rv,⟨V.ref (s1.heap.objs.size+1),H2,I2,rfl,q3⟩⟩
  | _=>exact False.elim hq

theorem qK {F:Fn} {g1:Gh} {σ:L2.St} {H1:Hp} {l:Lc} {s1:cj} {ds:List D} {vs:List V} {Q:VK} (S1:SR G.Y g1 σ H1 l s1) (hs1:s1≠[]) (ar:ArgR G.Y ⟨g1.F,offB g1.F H1,g1.F.m⟩ F.kp ds vs)
  (h:match F.runS ds s1 with
   | .ok (d,t,s2)=>s2≠[]∧∀ g2 v H2,Ext g1 g2→SR G.Y g2 σ H2 l s2→VR G.Y g2 σ H2 l d t v→Q v H2
   | .er e s2 _=>s2≠[]∧∀ g2 H2 c dd,Ext g1 g2→SR G.Y g2 σ H2 l s2→yi G.mg e c dd→W c dd σ H2
   | .no=>False):gC G.Y G.mg F vs H1 Q (WE W σ):=by
 refine .inr ⟨g1.F,offB g1.F H1,ds,s1,hs1,qC,S1.sF,S1.stB hs1,ar,?_⟩
 cases er:F.runS ds s1 with
 | no=>rw [er] at h; exact h
 | er ee s2 _ =>
  rw [er] at h
  refine ⟨h.1,fun F' H' c2 dd sm sF ex st xr=>?_⟩
  obtain ⟨S2,e2⟩:=S1.callT hs1 h.1 sm sF ex st
  exact h.2 _ H' c2 dd e2 S2 xr
 | ok q =>
  obtain ⟨d,t,s2⟩:=q
  rw [er] at h
  refine ⟨h.1,fun F' H' v sm sF ex st rr=>?_⟩
  obtain ⟨S2,e2⟩:=S1.callT hs1 h.1 sm sF ex st
  refine h.2 _ v H' e2 S2 ?_
  cases t with
  | fr=>exact rr
  | bo=>exact rr.elim
  | ow=>exact rr.elim
  | nw =>
   obtain ⟨p',rfl,q1,q2,q3⟩:=rr
   refine ⟨p',rfl,q1,?_,q3,fun i d' k1 k2=>?_⟩
   ·cases z:g1.B p' with
    | none=>rfl
    | some u =>
     rw [S1.offB hs1 p' u z] at q2
     cases q2
   ·obtain ⟨tp,no⟩:=S1.own k1 k2
    obtain ⟨a',e',hp⟩:=tp.isRef
    cases e'
    rw [iQ (no _ rfl).2.2] at q2
    rw [q2] at hp
    cases hp
theorem n8 {F:Fn} {g1:Gh} {σ:L2.St} {H1:Hp} {l:Lc} {s1:cj} {ds:List D} {vs:List V} {Q:VK} (S1:SR G.Y g1 σ H1 l s1) (ar:s1≠[]→ArgR G.Y ⟨g1.F,offB g1.F H1,g1.F.m⟩ F.kp ds vs)
  (h:ValR G.gm W g1 σ (if s1=[] then .no else match F.runS ds s1 with
   | .ok (d,t,c :: s2)=>.ok (d,t,c :: s2)
   | .er e (c :: s2) _=>.er e (c :: s2) l
   | _=>.no) (KE G.gm σ l Q)):gC G.Y G.mg F vs H1 Q (WE W σ):=by
 by_cases hs1:s1=[]
 ·rw [aj hs1] at h
  exact h.elim
 rw [aq hs1] at h
 refine qK S1 hs1 (ar hs1) ?_
 cases er:F.runS ds s1 with
 | no=>rw [er] at h; exact h
 | er ee s2 _ =>
  rw [er] at h
  cases s2 with
  | nil=>exact h.elim
  | cons c s2=>exact ⟨by simp,fun g2 H2 c2 dd e2 S2 xr=>h g2 H2 c2 dd e2 S2 xr⟩
 | ok q =>
  obtain ⟨d,t,s2⟩:=q
  rw [er] at h
  cases s2 with
  | nil=>exact h.elim
  | cons c s2=>exact ⟨by simp,fun g2 v H2 e2 S2 rr=>h g2 e2 v H2 S2 rr⟩

theorem qL {σ:L2.St} {H:Hp} {c:Str} {j:Nat} {F:Fn} {Q Q2:VK} (ef:G.fs[j]?=some F) (h:rd G.gm W (.mth c m j xa xb) σ H Q)
  (hk:∀ g1 l s1 n v dx fv H1,SR G.Y g1 σ H1 l s1→Rp G.Y g1.F (.loc n) (.ref v)→H1 v=some (.ins (He.ga G.Y.K c) dx fv)→fv.lookup m=none →
   ValR G.gm W g1 σ ((fE G.fs G.gs xb F.kp.tail l s1).bind fun (ds,s2)=>if s2=[] then .no else match F.runS (.loc n :: ds) s2 with
    | .ok (d,t,c :: s3)=>.ok (d,t,c :: s3)
    | .er e (c :: s3) _=>.er e (c :: s3) l
    | _=>.no) (KE G.gm σ l Q)→Q2 (.ref v) H1):rd G.gm W xa σ H Q2:=by
 obtain ⟨g,l,s,SS,h⟩:=h
 refine cS SS (show ValR G.gm W g σ ((b9 G.fs G.gs xa l s).bind _) (KE G.gm σ l Q) from ValE.toR h) fun d t s1 g1 v H1 e1 S1 v1 h1=>?_
 have h1:ValR G.gm W g1 σ (match pq s1 c d with
  | some fv=>if (fv.lookup m).isSome=true then .no else match G.fs[j]? with
   | some f=>(fE G.fs G.gs xb f.kp.tail l s1).bind fun (ds,s2)=>if s2=[] then .no else match f.runS (d :: ds) s2 with
    | .ok (d,t,c :: s3)=>.ok (d,t,c :: s3)
    | .er e (c :: s3) _=>.er e (c :: s3) l
    | _=>.no
   | none=>.no
  | none=>.no) (KE G.gm σ l Q):=h1
 cases ec:pq s1 c d with
 | none=>rw [ec] at h1; exact h1.elim
 | some fs =>
  rw [ec] at h1
  obtain ⟨n,a,dx,fv,rfl,_,rfl,k,hh,hz,hr⟩:=S1.ci (v1.rd S1) ec
  have h2:ValR G.gm W g1 σ (if (fs.lookup m).isSome=true then .no else match G.fs[j]? with
   | some f=>(fE G.fs G.gs xb f.kp.tail l s1).bind fun (ds,s2)=>if s2=[] then .no else match f.runS (.loc n :: ds) s2 with
    | .ok (d,t,c :: s3)=>.ok (d,t,c :: s3)
    | .er e (c :: s3) _=>.er e (c :: s3) l
    | _=>.no
   | none=>.no) (KE G.gm σ l Q):=h1
  have hq:=hr m
  cases el:fs.lookup m with
  | some d'=>rw [el] at h2; exact h2.elim
  | none =>
   rw [el,ef] at h2
   rw [el] at hq
   exact hk g1 l s1 n a dx fv H1 S1 (.loc k.m) hh hq h2
theorem tL {c:Str} {j:Nat} {q:List Expr} (ef:G.fs[j]?=none) (hl:(apos.endLine == pos.line)=true) (hn:cM o=true) (he:PE C o (rd G.gm W xa)) (hs:q.all b8=true) (hf:q.length < 30) :
  PE C (.Call (.Attribute o m apos) q [] pos) (rd G.gm W (.mth c m j xa xb)):=by
 refine ⟨fun pins s0 σ H Q I h=>pK hn hl hs hf (thn (he.run pins s0 σ H (fun _ _=>False) I ?_) fun u s1 ⟨_,_,_,_,z⟩=>z.elim)⟩
 obtain ⟨g,l,s,SS,h⟩:=h
 refine cS SS (show ValR G.gm W g σ ((b9 G.fs G.gs xa l s).bind _) (KE G.gm σ l Q) from ValE.toR h) fun d t s1 g1 v H1 e1 S1 v1 h1=>?_
 have h1:ValR G.gm W g1 σ (match pq s1 c d with
  | some fv=>if (fv.lookup m).isSome=true then .no else match G.fs[j]? with
   | some f=>(fE G.fs G.gs xb f.kp.tail l s1).bind fun (ds,s2)=>if s2=[] then .no else match f.runS (d :: ds) s2 with
    | .ok (d,t,c :: s3)=>.ok (d,t,c :: s3)
    | .er e (c :: s3) _=>.er e (c :: s3) l
    | _=>.no
   | none=>.no
  | none=>.no) (KE G.gm σ l Q):=h1
 rw [ef] at h1
 cases ec:pq s1 c d with
 | none=>rw [ec] at h1; exact h1.elim
 | some fs =>
  rw [ec] at h1
  have h2:ValR G.gm W g1 σ (if (fs.lookup m).isSome=true then .no else .no) (KE G.gm σ l Q):=h1
  split at h2 <;> exact h2.elim
theorem yX (B:Gd C S G W) (hh:S.hot=false) {c:Str} {j:Nat} (hj:(j,c,m)∈S.mt) (hl:(apos.endLine == pos.line)=true) (hn:cM o=true) (he:PE C o (rd G.gm W xa)) :
  PE C (.Call (.Attribute o m apos) [] [] pos) (rd G.gm W (.mth c m j xa .nil)):=by
 cases ef:G.fs[j]? with
 | none=>exact tL ef hl hn he rfl (by decide)
 | some F =>
  obtain ⟨a,fd,ps,hF,hc,hm,hb⟩:=B.mt hh j c m F hj ef
  refine PE.imp (yV B.tk hF (B.room hh) hc hm hb hn hl he) ?_
  rintro σ H Q h
  refine qL ef h fun g1 l s1 n v dx fv H1 S1 rv hh hq h2=>⟨v,dx,fv,rfl,(by rw [← B.hK]; exact hh),hq,?_⟩
  refine n8 S1 (ds:=[.loc n]) (fun _=>⟨?_,trivial⟩) h2
  split
  ·exact rv
  ·exact .inl rv
theorem BX (B:Gd C S G W) (hh:S.hot=false) {c:Str} {j:Nat} (hj:(j,c,m)∈S.mt) (hl:(apos.endLine == pos.line)=true) (hn:cM o=true) (hs:(e :: es).all b8=true) (hf:(e :: es).length < 30) (he:PE C o (rd G.gm W xa)) (ha:∀ kp,PA C (e :: es) (tF G.gm W xb kp)) :
  PE C (.Call (.Attribute o m apos) (e :: es) [] pos) (rd G.gm W (.mth c m j xa xb)):=by
 cases ef:G.fs[j]? with
 | none=>exact tL ef hl hn he hs hf
 | some F =>
  obtain ⟨a,fd,ps,hF,hc,hm,hb⟩:=B.mt hh j c m F hj ef
  refine PE.imp (BW B.tk hF (B.room hh) hc hm hb hn hl hs hf he (ha F.kp.tail)) ?_
  rintro σ H Q h
  refine qL ef h fun g1 l s1 n v dx fv H1 S1 rv hh hq h2=>⟨v,dx,fv,rfl,(by rw [← B.hK]; exact hh),hq,?_⟩
  refine gj S1 h2 fun ds s2 g2 vs H2 e2 S2 r2 h3=>?_
  refine n8 S2 (ds:=.loc n :: ds) (fun hs2=>⟨?_,r2.argT S2 hs2⟩) h3
  split
  ·exact rv.mono e2.f
  ·exact .inl (rv.mono e2.f)

theorem EI (B:Gd C S G W) (hh:S.hot=false) {c:Str} {j:Nat} {p:Pos} (hj:(j,c)∈S.mks) (hg:dc S.sc c=true) (hn:fN c=true) (hs:b8 e=true) (hs2:es.all b8=true) (ha:∀ kp,PA C (e :: es) (tF G.gm W xa kp)) :
  PE C (.Call (.Name c p) (e :: es) [] pos) (rd G.gm W (.mk c j xa)):=by
 cases ef:G.fs[j]? with
 | none =>
  refine PE.imp (t:=fun _ _ _=>False) ⟨fun _ _ _ _ _ _ h=>h.elim⟩ ?_
  rintro σ H Q ⟨g,l,s,SS,h⟩
  have h:ValE G.gm W g σ l (b9 G.fs G.gs (.mk c j xa) l s) Q:=h
  simp only [b9,ef] at h
  exact h
 | some F =>
  obtain ⟨k,a,fd,ps,hk,hF,hM,hx,hb⟩:=B.mks hh j c F hj ef
  refine PE.imp (yW B.tk hM hF ((B.room hh).mono hk) (B.gl hg) hx hb (dX hn) hs hs2 (ha F.kp.tail)) ?_
  rintro σ H Q ⟨g,l,s,SS,h⟩
  have h:ValE G.gm W g σ l (b9 G.fs G.gs (.mk c j xa) l s) Q:=h
  simp only [b9,ef] at h
  refine gj SS (show ValR G.gm W g σ ((fE G.fs G.gs xa F.kp.tail l s).bind _) (KE G.gm σ l Q) from ValE.toR h) fun ds s1 g1 vs H1 e1 S1 r1 h1=>?_
  intro y dy hy hd hne
  have h1:ValR G.gm W g1 σ (if s1=[] then .no else match F.runS (.loc s1.length :: ds) (s1++[.ins c []]) with
   | .ok (.non,.fr,c :: s2)=>.ok (.loc s1.length,.fr,c :: s2)
   | .er e (c :: s2) _=>.er e (c :: s2) l
   | _=>.no) (KE G.gm σ l Q):=h1
  by_cases hs1:s1=[]
  ·rw [aj hs1] at h1
   exact h1.elim
  rw [aq hs1] at h1
  obtain ⟨g2,e2,S2,m2⟩:=S1.celI (c:=c) hs1 hy hd hne
  have S2:SR G.Y g2 σ (upd (upd H1 dy (.own y)) y (.ins (He.ga C.K c) dy [])) l (s1++[.ins c []]):=by rw [← B.hK]; exact S2
  have ar:ArgR G.Y ⟨g2.F,offB g2.F (upd (upd H1 dy (.own y)) y (.ins (He.ga C.K c) dy [])),g2.F.m⟩ F.kp (.loc s1.length :: ds) (.ref y :: vs):=by
   refine ⟨?_,(AR.ext e2 r1).argT S2 (by simp)⟩
   split
   ·exact .loc m2
   ·exact .inl (.loc m2)
  refine qK S2 (by simp) ar ?_
  cases er:F.runS (.loc s1.length :: ds) (s1++[.ins c []]) with
  | no=>rw [er] at h1; exact h1
  | er ee s2 _ =>
   rw [er] at h1
   cases s2 with
   | nil=>exact h1.elim
   | cons c s2=>exact ⟨by simp,fun g3 H2 c2 dd e3 S3 xr=>h1 g3 H2 c2 dd (e2.trans e3) S3 xr⟩
  | ok q =>
   obtain ⟨d,t,s2⟩:=q
   rw [er] at h1
   cases s2 with
   | nil=>cases d <;> cases t <;> exact h1.elim
   | cons c s2 =>
    cases d with
    | non =>
     cases t with
     | fr =>
      refine ⟨by simp,fun g3 v H2 e3 S3 rr=>?_⟩
      obtain rfl:=RdV.non (H:=H2) (.inl (show Rp G.Y g3.F .non v from rr))
      exact ⟨rfl,h1 g3 (e2.trans e3) (.ref y) H2 S3 (.loc (e3.f.m _ _ m2))⟩
     | _=>exact h1.elim
    | _=>cases t <;> exact h1.elim
end
end GM


namespace GMS
open PySem PySem.Spec PyProof.Rows L2 HT GM
section
variable {prog:Program} {w:World} {A:Around} {E:Value→Shared→Prop} {s:Shared}
theorem pL (n:Nat):Builtin.Slice.sliceAdjust none none (-1) (n:Int)=((n:Int) - 1,-1):=by
 unfold Builtin.Slice.sliceAdjust
 have h1:((-1:Int) < 0):=by omega
 simp only [h1,if_true]
theorem pM (n:Nat):Builtin.Slice.slicePlaces ((n:Int) - 1) (-1) (-1)=n:=by
 unfold Builtin.Slice.slicePlaces
 have h1:¬ ((-1:Int) > 0):=by omega
 simp only [h1,if_false]
 have e:((n:Int) - 1 - -1 - 1) / - -1=(n:Int) - 1:=by
  rw [show (- -1:Int)=1 by decide,Int.ediv_one]
  omega
 split <;> omega
theorem n9 {α β:Type} {f g:α→Option β}:∀ {l:List α},(∀ x∈l,f x=g x)→l.filterMap f=l.filterMap g
 | [],_=>rfl
 | x :: l,h=>by
  rw [List.filterMap_cons,List.filterMap_cons,h x List.mem_cons_self,n9 fun y hy=>h y (List.mem_cons_of_mem _ hy)]
theorem tN (xs:Array Value):((List.range xs.size).filterMap fun (m:Nat)=>xs[((xs.size:Int) - 1+(m:Int)*-1).toNat]?).toArray=xs.toList.reverse.toArray:=by
 have e:(List.range xs.size).filterMap (fun (m:Nat)=>xs[((xs.size:Int) - 1+(m:Int)*-1).toNat]?)=((List.range xs.size).map fun k=>xs.size - 1 - k).filterMap (xs[·]?):=by
  rw [List.filterMap_map]
  refine n9 fun m hm=>?_
  have:=List.mem_range.mp hm
  show xs[((xs.size:Int) - 1+(m:Int)*-1).toNat]?=xs[xs.size - 1 - m]?
  rw [show ((xs.size:Int) - 1+(m:Int)*-1).toNat=xs.size - 1 - m by omega]
 rw [e,PySem.W.krv_range,List.filterMap_reverse,PySem.W.krv_all]
theorem jZ {sl:Addr} {vl vu vs:Value} {n:Nat} {Q:Int × Int × Nat→Shared→Prop} (hs:s.heap.IsSliceOf sl vl vu vs) (pl:IsPart vl none) (pu:IsPart vu none) (ps:IsPart vs (some (-1)))
  (h:Q ((n:Int) - 1,-1,n) s):wpAny (model prog w) A (Builtin.Slice.sliceApplied (.ref sl) (pure (n:Int))) Q E s:=by
 obtain ⟨os,hos,hcs,hds⟩:=id hs
 unfold Builtin.Slice.sliceApplied Builtin.Slice.sliceFields
 refine wpAny_bind (wpAny_bind (wpAny_field hos hds (x:=vl) rfl (wpAny_bind (wpAny_field hos hds (x:=vu) rfl (wpAny_bind (wpAny_field hos hds (x:=vs) rfl (wpAny_pure ?_)))))))
 refine wpAny_bind (slicePart_ ps ?_)
 show wpAny _ _ (if ((-1:Int) == 0)=true then _ else _) _ _ s
 rw [if_neg (by decide)]
 refine wpAny_bind (slicePart_ pl (wpAny_bind (slicePart_ pu (wpAny_bind (wpAny_pure ?_)))))
 show wpAny _ _ (match Builtin.Slice.sliceAdjust none none (-1) (n:Int) with | (lo,hi)=>pure (lo,(-1:Int),Builtin.Slice.slicePlaces lo hi (-1))) _ _ s
 rw [pL n]
 show wpAny _ _ (pure ((n:Int) - 1,(-1:Int),Builtin.Slice.slicePlaces ((n:Int) - 1) (-1) (-1))) _ _ s
 rw [pM]
 exact wpAny_pure h
theorem jt {t sl:Addr} {items:Array Value} {vl vu vs:Value} {Q:Value→Shared→Prop} (ht:IsTup s.heap t items) (hs:s.heap.IsSliceOf sl vl vu vs) (pl:IsPart vl none) (pu:IsPart vu none) (ps:IsPart vs (some (-1)))
  (h:Q (.ref s.heap.objs.size) { s with heap:=s.heap.push { cls:=.type "tuple",data:=.seq items.toList.reverse.toArray } })
  (hsz:items.size≤sizeLine):wpAny (model prog w) A (getItem (.ref t) (.ref sl)) Q E s:=by
 have htake:sizeOk (.seq items.toList.reverse.toArray):=by
  show items.toList.reverse.toArray.size≤sizeLine
  rw [List.size_toArray,List.length_reverse,Array.length_toList]
  exact hsz
 obtain ⟨os,hos,hcs,hds⟩:=id hs
 have hTs:s.TypeIs (.ref sl) "slice":=⟨os,hos,hcs⟩
 unfold getItem
 try with_reducible refine wpAny_holding ?_
 first | refine wpAny_bind (wpAny_pure ?_) | skip
 refine wpAny_bind (wpAny_sequenceKey ht.typeIs (by decide) ?_)
 refine wpAny_bind (wpAny_callSpecial?_slot (name:=Str.ofString "__getitem__") ht.typeIs PyProof.Rows.slot_tuple_getitem
  (wpAny_call_entry PyProof.Rows.slot_tuple_getitem ht.typeIs entry_tuple_getitem ?_ (args_tuple_getitem _ _)))
 show wpAny _ _ (Builtin.Tuple.tupleItemsOf (.ref t) >>= _) _ _ s
 refine wpAny_bind (tupleItemsOf_ ht ?_)
 refine wpAny_bind (wpAny_typeOf hTs ?_)
 rw [if_pos (by decide)]
 refine wpAny_bind (jZ hs pl pu ps ?_)
 have hno:¬ ((((items.size:Int) - 1) == 0 && (-1:Int) == 1 && items.size == items.size)=true):=by
  intro q
  rw [Bool.and_eq_true,Bool.and_eq_true] at q
  exact absurd (eq_of_beq q.1.2) (by decide)
 show wpAny _ _ (if ((((items.size:Int) - 1) == 0 && (-1:Int) == 1 && items.size == items.size)=true) then _ else _) _ _ s
 rw [if_neg hno,tN]
 first
  | exact wpAny_bind (m:=Builtin.Tuple.tupleExact _) (wpAny_newObj_type (wpAny_pure ⟨_,rfl,wpAny_pure h⟩) htake)
  | exact wpAny_bind (m:=Builtin.Tuple.tupleExact _) (wpAny_newObj_type (wpAny_bind (wpAny_pure (wpAny_pure ⟨_,rfl,wpAny_pure h⟩))) htake)
  | exact wpAny_bind (wpAny_bind (m:=Builtin.Tuple.tupleExact _) (wpAny_newObj_type (wpAny_pure (wpAny_pure ⟨_,rfl,wpAny_pure h⟩)) htake))
  | exact wpAny_bind (wpAny_bind (m:=Builtin.Tuple.tupleExact _) (wpAny_newObj_type (wpAny_pure ⟨_,rfl,wpAny_pure h⟩) htake))
end
section
variable {X:Cx}
def BY (K:PySem.W.Frag) (te:TE):TE:=fun σ H Q=>te σ H fun x H1=>∃ a xs,x=.ref a∧SqT K H1 a xs∧NT H1 xs.reverse Q
theorem pe_revT {e:Expr} {te:TE} {k:Nat} {p1 p2 p3 pos:Pos} (he:PE X e te):PE X (.Subscript e (.Slice none none (some (.UnaryOp .USub (.Constant (.int 1) k p1) p2)) p3) pos) (BY X.K te):=by
 refine ⟨fun pins s σ H Q I h=>?_⟩
 refine Subscript_ (thn (he.run pins s σ H _ I h) fun v s1 ⟨x,H1,I1,r1,q1⟩=>?_)
 obtain ⟨a,xs,ex,hx,q⟩:=q1
 subst ex
 cases r1
 have hst:PO X (some (.UnaryOp .USub (.Constant (.int 1) k p1) p2)) (tPart (tUn (rU fun i=>.int (-i)) (tC (.int 1)))):=po_some (pe_un un_neg pe_int)
 refine wpAny_Slice (thn (po_none.run pins s1 σ H1 (fun o H2=>o=none∧H2=H1) I1 ⟨rfl,rfl⟩) fun vl s2 ⟨l,H2,I2,pl,el,e2⟩=>?_)
 subst el e2
 refine thn (po_none.run pins s2 σ H2 (fun o H3=>o=none∧H3=H2) I2 ⟨rfl,rfl⟩) fun vu s3 ⟨u,H3,I3,pu,eu,e3⟩=>?_
 subst eu e3
 refine thn (hst.run pins s3 σ H3 (fun o H4=>o=some (-1)∧H4=H3) I3 ⟨1,rfl,-1,rfl,rfl,rfl⟩) fun vs s4 ⟨o,H4,I4,ps,eo,e4⟩=>?_
 subst eo e4
 have I5:Inv X pins σ H4 { s4 with heap:=s4.heap.push { cls:=.type "slice",data:=.fields #[vl,vu,vs] } }:=I4.kept (t':=s4.toks) fun b ob q=>Heap.get?_push_of_some _ q
 obtain ⟨its,r,ht,hz⟩:=I5.tuple hx
 have hlen:=r.length
 show wpAny (model X.prog X.w) X.A (subscriptTail e (.Slice none none (some (.UnaryOp .USub (.Constant (.int 1) k p1) p2)) p3) (.ref a) (.ref s4.heap.objs.size)) (EP X pins σ Q) X.xe { s4 with heap:=s4.heap.push { cls:=.type "slice",data:=.fields #[vl,vu,vs] } }
 refine tail_any (ops:=[.ref a,.ref s4.heap.objs.size]) ht.typeIs (PyProof.Rows.slot_tuple_getitem.lookup) ?_ (by with_unfolding_all rfl)
 refine jt ht (Heap.IsSliceOf.new _ vl vu vs) pl pu ps ?_ (by rw [List.size_toArray]; omega)
 exact jq I5 r.reverse (by rw [List.length_reverse]; exact hz) q
theorem iS {xs:List V} {us:List Value} (r:Vals xs us):∀ is:List Nat,Vals (is.filterMap (xs[·]?)) (is.filterMap (us[·]?))
 | []=>.nil
 | i :: is=>by
  rw [List.filterMap_cons,List.filterMap_cons]
  cases h:xs[i]? with
  | none =>
   rw [r.none_of h]
   exact iS r is
  | some x =>
   obtain ⟨u,h2,h3⟩:=r.get h
   rw [h2]
   exact .cons h3 (iS r is)
theorem oa {k:Int} (hk:0 < k) (n:Nat):sliceBounds none none (some k) n=(0,(n:Int),k):=by
 have h:k > 0:=hk
 simp [sliceBounds,h]
theorem rZ {k:Int} (hk:0 < k) (its:List Value):slicePick its.toArray none none (some k)=(ir k its).toArray:=by
 unfold slicePick ir
 rw [List.size_toArray,oa hk]
 simp only [List.getElem?_toArray]
def EJ (K:PySem.W.Frag) (te:TE) (tk:TO):TE:=fun σ H Q=>te σ H fun x H1=>tk σ H1 fun o H2=>∃ a xs k,x=.ref a∧o=some k∧0 < k∧SqL K H2 a xs∧∀ p,H2 p=none→Q (.ref p) (upd H2 p (.lst (ir k xs)))
theorem pe_stepL {e ke:Expr} {te:TE} {tk:TO} {p3 pos:Pos} (he:PE X e te) (hk:PO X (some ke) tk):PE X (.Subscript e (.Slice none none (some ke) p3) pos) (EJ X.K te tk):=by
 refine ⟨fun pins s σ H Q I h=>?_⟩
 refine Subscript_ (thn (he.run pins s σ H _ I h) fun v s1 ⟨x,H1,I1,r1,q1⟩=>?_)
 refine wpAny_Slice (thn (po_none.run pins s1 σ H1 (fun o H2=>o=none∧H2=H1) I1 ⟨rfl,rfl⟩) fun vl s2 ⟨l,H2,I2,pl,el,e2⟩=>?_)
 subst el e2
 refine thn (po_none.run pins s2 σ H2 (fun o H3=>o=none∧H3=H2) I2 ⟨rfl,rfl⟩) fun vu s3 ⟨u,H3,I3,pu,eu,e3⟩=>?_
 subst eu e3
 refine thn (hk.run pins s3 σ H3 _ I3 q1) fun vs s4 ⟨o,H4,I4,ps,a,xs,k,ex,eo,k0,hx,q⟩=>?_
 subst ex eo
 cases r1
 have I5:Inv X pins σ H4 { s4 with heap:=s4.heap.push { cls:=.type "slice",data:=.fields #[vl,vu,vs] } }:=I4.kept (t':=s4.toks) fun b ob q=>Heap.get?_push_of_some _ q
 obtain ⟨its,r,ht,hz⟩:=I5.list hx
 have hlen:=r.length
 show wpAny (model X.prog X.w) X.A (subscriptTail e (.Slice none none (some ke) p3) (.ref a) (.ref s4.heap.objs.size)) (EP X pins σ Q) X.xe { s4 with heap:=s4.heap.push { cls:=.type "slice",data:=.fields #[vl,vu,vs] } }
 refine tail_any (ops:=[.ref a,.ref s4.heap.objs.size]) ht.isList.typeIs (PySem.slot_list_getitem.lookup) ?_ (by with_unfolding_all rfl)
 refine wpAny_getItem_list_slice ht.isList (Heap.IsSliceOf.new _ vl vu vs) pl pu ps (by intro z; injection z with z; omega) ?_ (by rw [List.size_toArray]; omega)
 have hsz:=slicePick_size_le its.toArray none none (some k)
 rw [rZ k0] at hsz ⊢
 have el:(ir k xs).length=(ir k its).length:=by
  unfold ir
  rw [hlen]
  exact (iS r _).length
 refine ⟨.ref _,_,I5.laid (t':=s4.toks) (o:=.lst (ir k xs)) (fun b ob q=>Heap.get?_push_of_some _ q) (Nat.le_refl _) ?_,rfl,q _ (I5.hok.fresh (Nat.le_refl _))⟩
 refine ⟨by rw [el]; rw [List.size_toArray,List.size_toArray] at hsz; omega,_,0,?_,Heap.get?_push_size _ rfl⟩
 unfold ir
 rw [hlen]
 exact iS r _
end
end GMS

set_option maxHeartbeats 4000000

namespace GM
open PySem PySem.Spec PyProof.Rows L2

abbrev mS (w:World):Obj:={ cls:=.type "set",dict:=none,data:=.set #[] 0 (.fresh 0 0 (!w.params.followText "set-order")) }
section
variable {P:Program} {w:World} {A:Around} {E:Value→Shared→Prop} {s:Shared}
theorem og {l:Addr} {its:Array Value} (ns:List Int) {Q:Value→Shared→Prop} (nh:A.handled=none) (isl:s.heap.IsList l its) (isI:IntsAre its.toList ns) (few:ns.length+1 < scanBound)
  (fin:∀ (h':Heap) (tk c:Nat),SetR w h' s.heap.objs.size (fun j=>decide (j∈ns)) c→c≤ns.length→(∀ b o,s.heap.get? b=some o→h'.get? b=some o)→Q (.ref s.heap.objs.size) { s with heap:=h',toks:=tk }):wpAny (model P w) A (call (.type "set") [.ref l]) Q E s:=by
 have sz:its.size=ns.length:=by have q:=IntsAre.length isI; rw [bf] at q; exact q
 obtain ⟨c,tl,hmro⟩:=F.called_set.mro; have hmade:=F.called_set.made; have hsub:=F.called_set.sub
 refine wpAny_call (codeAny_of_tree (show wpAny _ _ (callAny (.type "set") _) _ _ _ from wpAny_pure ⟨Code.quiet_builtin _ (by symm),codeAny_builtin F.entry_type_call ?_⟩))
 rw [Around.under_plain (weight_type_call_type "set" [.ref l] []) rfl]
 have h1:=F.called_set.notType; have h2:=F.called_set.canCreate; have hct:=F.typeCall_set_1 (.ref l)
 repeat (any_goals (first | assumption | wp_step))
 refine codeAny_mono (code_set_led1 (.ref l) (E:=E) (Q₁:=fun ob t=>ob=.ref s.heap.objs.size∧t={ s with heap:=s.heap.push (mS w) }) ⟨rfl,rfl⟩) fun r t hr=>?_
 cases r with
 | error e=>exact hr
 | ok fl =>
  cases fl with
  | ret ob =>
   obtain ⟨rfl,rfl⟩:=hr
   have at0:(s.heap.push (mS w)).get? s.heap.objs.size=some (mS w):=Heap.get?_push_size _ rfl
   have ty0:Shared.TypeIs { s with heap:=s.heap.push (mS w) } (.ref s.heap.objs.size) "set":=⟨_,at0,rfl⟩
   have hli:=F.called_set.init.lookup; have hbi:=F.called_set.init.bind (.ref s.heap.objs.size)
   repeat (any_goals (first | assumption | wp_step))
   refine codeAny_mono (codeAny_call_builtin (R:=wants (fun r t2=>r=.none∧∃ h' tk c,t2={ s with heap:=h',toks:=tk }∧SetR w h' s.heap.objs.size (fun j=>decide (j∈ns)) c∧c≤ns.length∧(∀ b o,s.heap.get? b=some o→h'.get? b=some o)) E) F.called_set.init.plain F.entry_set_init (check_set_init_1 ty0 ?_)) fun r2 t2 hr2=>?_
   ·obtain ⟨⟨ocls,odict,odata,oslots⟩,hol,hcl,nl,hdl⟩:=isl
    simp only at hcl hdl; subst hcl; subst hdl
    have hol':(s.heap.push (mS w)).get? l=some { cls:=.type "list",dict:=odict,data:=.seq its nl,slots:=oslots }:=Heap.get?_push_of_some _ hol
    have hsls:=F.sub_list_set; have hslf:=F.sub_list_frozenset; have hne:(Value.type "list" == Value.type "dict")=false:=by decide
    have isl1:(s.heap.push (mS w)).IsList l its:=⟨_,hol',rfl,nl,rfl⟩
    unfold Builtin.«set.__init__» noKeywords Builtin.Frozenset.updateFrom
    generalize hPI:pyIter=PI
    wp_walk
    subst hPI
    refine wpAny_pyIter_list isl1 (wpAny_bind (wpAny_runValue ?_))
    have lS:l < s.heap.objs.size:=Heap.lt_size hol
    have nh3:A.in1.in1.in1.handled=none:=by simp [nh]
    have lI:l≠(s.heap.push (mS w)).objs.size:=by rw [Heap.size_push]; exact aX (bC lS)
    have sF:s.heap.objs.size∉[(s.heap.push (mS w)).objs.size,l]:=by
     rw [Heap.size_push]
     intro z
     rcases aB.mp z with z | z
     ·exact aX (Nat.lt_succ_self _) z
     ·exact Nat.ne_of_gt lS (ah.mp z)
    have vals:∀ (i:Nat) (v:Value),its[i]?=some v→∃ k t,ns[i]?=some k∧v=.int k t:=fun i v hv=>by
     have hi:i < ns.length:=by rw [← sz]; exact (bA.mp hv).1
     obtain ⟨t,e⟩:=PyProof.Rows.IntsAre.int_at isI i v (by rw [Array.getElem?_toList]; exact hv)
     exact ⟨ns[i],t,ak hi,by rw [e,List.getD_eq_getElem?_getD,ak hi] <;> rfl⟩
    refine set_update_ints ((Walks.list nh3 _ l lI its).toS) s.heap.objs.size sF ns sz few vals (its.size - 0) 0 _ (by omega) (aW _) ⟨⟨_,Heap.get?_push_size _ rfl,rfl,rfl⟩,(isl1.push _)⟩ ⟨0,ax 0,setR_new_at (Heap.get?_push_of_some _ at0)⟩ ?_
    intro s' c' hm hc' hS'
    obtain ⟨h',g2,d',tk',os'⟩:=s'
    have eg:g2=s.gens:=hm.gens
    have ed:d'=s.drawn:=hm.drawn
    have eo:os'=s.os:=hm.os
    subst eg; subst ed; subst eo
    refine (show wpAny _ _ _ _ _ _ from wpAny_pure (show wpAny _ _ (ret Value.none) _ _ _ from ?_))
    rw [sz] at hc'
    refine wpAny_pure ⟨rfl,h',tk',c',rfl,hS',hc',fun b o e=>?_⟩
    have b0:b < s.heap.objs.size:=Heap.lt_size e
    have b2:b≠(s.heap.push (mS w)).objs.size:=by rw [Heap.size_push]; exact aX (bC b0)
    refine hm.heap b o (fun z=>?_) (Heap.get?_push_of_some _ (Heap.get?_push_of_some _ e))
    rcases aB.mp z with z | z
    ·exact aX b0 z
    ·exact b2 (ah.mp z)
   ·cases r2 with
    | error e=>exact hr2
    | ok fl2 =>
     cases fl2 with
     | ret r =>
      obtain ⟨rfl,h',tk,c',rfl,hS',hc',hk'⟩:=hr2
      repeat (any_goals (first | assumption | wp_step))
      exact fin _ _ _ hS' hc' hk'
     | _=>exact hr2.elim
  | _=>exact hr.elim
variable {a:Addr}
theorem pN {S:Int→Bool} {n:Nat} {Q:Value→Shared→Prop} (R:SetR w s.heap a S n) (nh:A.handled=none)
  (fin:∀ s' p (out:List Value) (c:Nat) (ns:List Int),(∀ b o,s.heap.get? b=some o→s'.heap.get? b=some o)→s'.gens=s.gens→s'.os=s.os→s.heap.objs.size≤p→s'.heap.get? p=some (seqObj "list" out.toArray c)→IntsAre out ns→ns.Pairwise (· < ·)→(∀ k,k∈ns↔S k=true)→ns.length=n→Q (.ref p) s') :
  wpAny (model P w) A (call (.builtin "sorted") [.ref a]) Q E s:=by
 obtain ⟨o,es,ep,t,ho,hex,hd,g,nd,hm,hb,hf,hn,hr,hl⟩:=R
 refine Calls.call_function_entry kind_sorted plain_sorted entry_sorted (args_sorted1 _) (by
  unfold Builtin.«sorted»
  refine wpAny_bind (m:=checkCount "sorted" 1 1 _) (wpAny_pure (wpAny_bind (collect_set (A:=A.in1) nh ⟨o,ho,hex.1,hd⟩ hf hb hr hl fun s1 vs k1 hz g1 o1 pm=>?_)))
  have vl:vs.length=n:=by rw [pm.length_eq,ac,bf]; exact hn
  have big:=sizeLine_eq
  have few:vs.length≤sizeLine:=by
   have:scanBound≤1000000:=by decide
   omega
  have is:IntsAre vs (vs.map Builtin.Re.reRawOf):=ints_of vs fun v hv=>by
   obtain ⟨e,he,q⟩:=aQ.mp (pm.mem_iff.mp hv)
   obtain ⟨k,tk,h1,_⟩:=g e he
   exact ⟨k,tk,by rw [← q]; exact h1⟩
  have pk:(vs.map Builtin.Re.reRawOf).Perm (es.toList.map keyOf):=by have q:=pm.map Builtin.Re.reRawOf; rw [aU] at q; exact q
  refine wpAny_bind (wpAny_newList ?_ few)
  have oL:(s1.heap.push (seqObj "list" vs.toArray 0)).get? s1.heap.objs.size=some (seqObj "list" vs.toArray 0):=Heap.get?_push_size _ rfl
  refine wpAny_bind (wpAny_holding (wpAny_call_entry slot_list_sort ⟨_,oL,rfl⟩ entry_list_sort (SrtO.list_sort_ord SrtO.swo_int oL few (fun h2=>SrtO.ints_sortable is h2) fun out h1 h2=>⟨_,rfl,?_⟩) (args_list_sort _)))
  obtain ⟨q1,q2,q3⟩:=SrtO.ints_out is h1 h2
  obtain ⟨c,hc⟩:=sortedHeap_at (vs:=vs) (out:=out.toArray) oL
  have pn:(out.map SrtO.iv).Perm (es.toList.map keyOf):=q2.trans pk
  refine wpAny_pure ⟨_,rfl,fin _ s1.heap.objs.size out c _ (fun b u e=>?_) g1 o1 hz hc q1 (lt_of_le_nodup _ q3 (pn.nodup_iff.mpr nd)) (fun k=>by rw [pn.mem_iff,← hm k]) ?_⟩
  ·have q:=k1 b u e
   have hlt:=Heap.lt_size q
   show (sortedHeap (s1.heap.push (seqObj "list" vs.toArray 0)) s1.heap.objs.size vs out.toArray).get? b=some u
   rw [sortedHeap_old (aX hlt) (by rw [size_push']; exact bC hlt)]
   exact Heap.get?_push_of_some _ q
  ·rw [pn.length_eq,ac,bf]; exact hn)
end
def tO (K:PySem.W.Frag) (w:World):List V→Hp→VK→Prop:=fun xs H Q=>∃ (l:Addr) (ns:List Int),xs=[V.ref l]∧SqL K H l (ns.map V.int)∧ns.length≤4000∧∀ (p:Addr) (c:Nat),H p=none→c≤ns.length→Q (.ref p) (upd H p (SetO w p (fun j=>decide (j∈ns)) c))
theorem v7 {X:Cx} (hc:X.calm=true):CallR X (.type "set") (tO X.K X.w):=by
 intro pins s σ H vs us Q I r h
 obtain ⟨l,ns,rfl,hq,hl,q⟩:=h
 obtain ⟨its,rv,isl,hz⟩:=I.list hq
 rw [Vals.ref1 r]
 have hi:=rv.ints
 have hn:H s.heap.objs.size=none:=I.hok.fresh (ax _)
 refine og (its:=its.toArray) ns (I.ok.hd hc) isl.isList hi (by unfold scanBound; omega) fun h' tk c R hcn k=>?_
 exact ⟨.ref s.heap.objs.size,upd H s.heap.objs.size (SetO X.w s.heap.objs.size (fun j=>decide (j∈ns)) c),I.call (ch:=[]) (Un.laid k (ax _) hn) (I.hok.laid k (ax _) (setO_new R)) I.bare (fun _ z=>nomatch z),rfl,q _ c hn hcn⟩
def tP (w:World):List V→Hp→VK→Prop:=fun vs H Q=>∃ (a:Addr) (S:Int→Bool) (n:Nat),vs=[V.ref a]∧H a=some (SetO w a S n)∧∀ (ns:List Int) (p:Addr),ns.Pairwise (· < ·)→(∀ k:Int,k∈ns↔S k=true)→ns.length=n→H p=none→Q (.ref p) (upd H p (.lst (ns.map V.int)))
theorem pO {X:Cx} (hc:X.calm=true):CallR X (.builtin "sorted") (tP X.w):=by
 intro pins s σ H vs us Q I r h
 obtain ⟨a,S,n,rfl,ha,q⟩:=h
 have R:=setO_get I ha
 have hs:n < scanBound:=by
  obtain ⟨o,es,ep,t,ho,hex,hd,g,nd,hm,hb,hf,hn,hr,hl⟩:=R
  rw [← hn]; exact hb
 rw [Vals.ref1 r]
 refine pN R (I.ok.hd hc) fun s' p out c ns k g o hp hg hi hs2 hm hl=>?_
 have big:=sizeLine_eq
 have hlen:(ns.map V.int).length≤sizeLine:=by
  have:scanBound≤1000000:=by decide
  rw [ac,hl]
  omega
 have hn:H p=none:=I.hok.fresh hp
 have J:Inv X pins σ (upd H p (.lst (ns.map V.int))) { s with heap:=s'.heap,gens:=s'.gens,drawn:=s'.drawn,toks:=s'.toks }:=I.call (ch:=[]) (Un.laid k hp hn) (I.hok.laid k hp ⟨hlen,out,c,vals_of_ints hi,hg⟩) (by rw [g]; exact I.bare) (fun _ z=>nomatch z)
 have e:s'={ s with heap:=s'.heap,gens:=s'.gens,drawn:=s'.drawn,toks:=s'.toks }:=by cases s'; cases s; cases o; rfl
 rw [e]
 exact ⟨.ref p,_,J,rfl,q ns p hs2 hm hl hn⟩
section
variable {Y:Wd} {g g':Gh} {σ:L2.St} {H H':Hp} {l:Lc} {s s':cj} {d:D} {v:V} {p:Addr} {o u:HO}

theorem SR.unlock0 {H4:Hp} {g4:Gh} {s4:cj} (hm:∀ n,g.F.m p≠some n) (hB:g.B p=none) (hF:g.F.h p=none) (E:Ext ⟨g.F,upd g.B p o,g.M⟩ g4) (S:SR Y g σ H l s) (S4:SR Y g4 σ H4 l s4) :
  SR Y ⟨g4.F,g.B,g.M⟩ σ H4 l s4∧Ext g ⟨g4.F,g.B,g.M⟩∧H4 p=some o∧g4.F.h p=none∧∀ n,g4.F.m p≠some n :=
 S.unlock (own:=[]) hm hB hF E S4 (fun i h=>by cases h) (fun _ _=>rfl) fun _ _=>rfl
end
section
variable {C:Cx} {S:Sc} {G:Gn} {W:WX} {e f b:Expr} {es:List Expr} {pos apos cpos:Pos} {xa xb xc:X}
theorem v8 (B:Gd C S G W) (ha:PE C e (rd G.gm W xa)) (hb:PE C b (rd G.gm W xb)):PE C (.Dict [some e] [b] pos) (rd G.gm W (.dic false #v[xa] #v[xb])):=by
 refine PE.imp (pe_disp (pps_cons ha hb pps_nil) rfl rfl (by simp) (by show 1≤15; decide)) ?_
 rintro σ H Q ⟨g,l,s,SS,h⟩ p hp
 have h:ValE G.gm W g σ l (R.noEr (cg (b9 G.fs G.gs xa l s) fun x s1=>cg (b9 G.fs G.gs xb l s1) fun y s2=>if D.isKey false x=true then dW (.dic false [(x,y)]) s2 else .no)) Q:=h
 have hB:=SS.freeB hp
 have hF:=SS.freeF hp
 have hm:=SS.freeM hp
 have no:=SS.noown hp
 have S0:=SS.lay (o:=.dK []) hp
 have SL:=S0.lock (o:=.dK []) upd_same hm hB no
 -- what is wanted,as a word on results
 have hR:ValR G.gm W ⟨g.F,upd g.B p (.dK []),g.M⟩ σ (cg (b9 G.fs G.gs xa l s) fun x s1=>cg (b9 G.fs G.gs xb l s1) fun y s2=>if D.isKey false x=true then dW (.dic false [(x,y)]) s2 else .no)
   (fun r g4=>∀ v H4,SR G.Y ⟨g4.F,g.B,g.M⟩ σ H4 l r.2.2→Ext g ⟨g4.F,g.B,g.M⟩→VR G.Y ⟨g4.F,g.B,g.M⟩ σ H4 l r.1 r.2.1 v→Q v H4):=by
  revert h
  generalize (cg (b9 G.fs G.gs xa l s) fun x s1=>cg (b9 G.fs G.gs xb l s1) fun y s2=>if D.isKey false x=true then dW (.dic false [(x,y)]) s2 else .no)=r
  intro h
  cases r with
  | ok q =>
   obtain ⟨d,t,s1⟩:=q
   exact fun g4 e4 v H4 S4 e5 r4=>h ⟨g4.F,g.B,g.M⟩ v H4 e5 S4 r4
  | er ex s1 l1=>exact h.elim
  | no=>exact h
 refine fW SL hR fun d s1 g1 v H1 e1 S1 r1 h1=>?_
 refine fW S1 h1 fun d2 s2 g2 v2 H2 e2 S2 r2 h2=>?_
 show H2 p=some (.dK [])∧_
 have h2:ValR G.gm W g2 σ (if D.isKey false d=true then dW (.dic false [(d,d2)]) s2 else .no) _:=h2
 split at h2
 ·rename_i hk
  obtain ⟨q,hq⟩:=dZ hk
  have ev:=gP hq r1
  subst ev
  obtain ⟨U1,U2,U3,U4⟩:=SR.unlock0 (p:=p) (o:=.dK []) hm hB hF (e1.trans e2) S0 S2
  refine ⟨U3,[(q,v2)],rfl,(by show 1≤15; decide),?_⟩
  refine h2 g2 (.refl g2) (.ref p) _ (U1.wr U4.1 U4.2 hB no) U2 ⟨p,rfl,U4,hB,.dk upd_same (.cons hq r2 .nil),no⟩
 ·exact h2.elim
theorem tQ {prog:Program} {w:World} {A:Around} {E:Value→Shared→Prop} {s:Shared} {env:Env} {k v:Expr} {pos:Pos} {Q:Value→Shared→Prop} (hu:(nestedKind prog w).room A)
  (h:wpAny (model prog w) A (evalPairs (pairTrees [some k] [v] env pos)) (fun vs s₁=>∃ ps,CarriesH (nestedKind prog w) s₁.heap vs ps∧s₁.heap.DictOfH (nestedKind prog w) s.heap.objs.size [] ∧
   ∀ h' tk,h'.DictOfH (nestedKind prog w) s.heap.objs.size (storedAllH [] ps)→Heap.SameBut s.heap.objs.size s₁.heap h'→Q (.ref s.heap.objs.size) { s₁ with heap:=h',toks:=tk }) E
   { s with heap:=s.heap.push { cls:=.type "dict",data:=.dict #[] } }) :
  wpAny (model prog w) A (eval (.Dict [some k] [v] pos) env) Q E s:=by
 have hn:=pairTrees_length [some k] [v] env pos rfl rfl
 have hn:(pairTrees [some k] [v] env pos).length=1:=hn
 rw [arm_eval_Dict,zip_pairTrees [some k] [v] env pos rfl rfl,dictDisplay_pairs _ (by intro e; rw [e] at hn; cases hn) (by omega)]
 exact wpAny_bind (wpAny_standAt (wpAny_bind (wpAny_subDictH (knd:=nestedKind prog w) (Q:=fun d s'=>wpAny (model prog w) A (pure (Value.ref d)) Q E s') hu (by omega)
  (wpAny_mono h (fun vs s₁ h₁=>by obtain ⟨ps,hc,hm,hq⟩:=h₁; exact ⟨ps,hc,hm,fun h' tk a b=>wpAny_pure (hq h' tk a b)⟩) fun _ _ e=>e))))
theorem v9 (B:Gd C S G W) (ha:PE C e (rd G.gm W xa)) (hb:PE C b (rd G.gm W xb)):PE C (.Dict [some e] [b] pos) (rd G.gm W (.dic true #v[xa] #v[xb])):=by
 refine ⟨fun pins s σ H Q I hq=>?_⟩
 obtain ⟨g,l,sto,SS,h⟩:=hq
 have h:ValE G.gm W g σ l (R.noEr (cg (b9 G.fs G.gs xa l sto) fun x s1=>cg (b9 G.fs G.gs xb l s1) fun y s2=>if D.isKey true x=true then dW (.dic true [(x,y)]) s2 else .no)) Q:=h
 obtain ⟨ob,w,I'⟩:=tu (Y:=⟨C.prog,C.w,C.K,G.Y.pn⟩) I
 have hp:H s.heap.objs.size=none:=I.hok.fresh (ax _)
 have hB:=SS.freeB hp
 have hF:=SS.freeF hp
 have hm:=SS.freeM hp
 have no:=SS.noown hp
 have S0:=SS.lay (o:=kU s.heap.objs.size ob) hp
 have SL:=S0.lock (o:=kU s.heap.objs.size ob) upd_same hm hB no
 have hR:ValR G.gm W ⟨g.F,upd g.B s.heap.objs.size (kU s.heap.objs.size ob),g.M⟩ σ (cg (b9 G.fs G.gs xa l sto) fun x s1=>cg (b9 G.fs G.gs xb l s1) fun y s2=>if D.isKey true x=true then dW (.dic true [(x,y)]) s2 else .no)
   (fun r g4=>∀ v H4,SR G.Y ⟨g4.F,g.B,g.M⟩ σ H4 l r.2.2→Ext g ⟨g4.F,g.B,g.M⟩→VR G.Y ⟨g4.F,g.B,g.M⟩ σ H4 l r.1 r.2.1 v→Q v H4):=by
  revert h
  generalize (cg (b9 G.fs G.gs xa l sto) fun x s1=>cg (b9 G.fs G.gs xb l s1) fun y s2=>if D.isKey true x=true then dW (.dic true [(x,y)]) s2 else .no)=r
  intro h
  cases r with
  | ok q =>
   obtain ⟨d,t,s1⟩:=q
   exact fun g4 e4 v H4 S4 e5 r4=>h ⟨g4.F,g.B,g.M⟩ v H4 e5 S4 r4
  | er ex s1 l1=>exact h.elim
  | no=>exact h
 refine tQ (by have:=B.un; show C.A.units+8 < cLine; omega) (thn ((pps_cons ha hb pps_nil).run pins _ σ _ (fun ps H2=>∃ (d d2:D) (F2:Fr) (v v2:V),ps=[(v,v2)]∧H2 s.heap.objs.size=some (kU s.heap.objs.size ob)∧D.isKey true d=true∧Rp G.Y F2 d v∧Rp G.Y F2 d2 v2∧Same F2.h H2 ∧
   ∀ ob',TpW G.Y F2 (upd H2 s.heap.objs.size (kU s.heap.objs.size ob')) (.dic true [(d,d2)]) (.ref s.heap.objs.size)→Q (.ref s.heap.objs.size) (upd H2 s.heap.objs.size (kU s.heap.objs.size ob'))) I' ?_) fun ws s2 ⟨ps,H2,I2,rel,d,d2,F2,v,v2,ep,e,hk,r1,r2,sF,cont⟩=>?_)
 ·refine fW SL hR fun d s1 g1 v H1 e1 S1 r1 h1=>?_
  refine fW S1 h1 fun d2 s2 g2 v2 H2 e2 S2 r2 h2=>?_
  have h2:ValR G.gm W g2 σ (if D.isKey true d=true then dW (.dic true [(d,d2)]) s2 else .no) _:=h2
  split at h2
  ·rename_i hk
   obtain ⟨U1,U2,U3,U4⟩:=SR.unlock0 (p:=s.heap.objs.size) (o:=kU s.heap.objs.size ob) hm hB hF (e1.trans e2) S0 S2
   exact ⟨d,d2,g2.F,v,v2,rfl,U3,hk,r1.mono e2.f,r2,S2.sF,fun ob' tw=>h2 g2 (.refl g2) (.ref s.heap.objs.size) _ (U1.wr U4.1 U4.2 hB no) U2 ⟨s.heap.objs.size,rfl,U4,hB,tw,no⟩⟩
  ·exact h2.elim
 ·subst ep
  cases rel with
  | @cons x1 y1 xs1 ys1 a rest =>
   cases rest
   obtain ⟨kv,vv⟩:=y1
   obtain ⟨a1,a2⟩:=a
   obtain ⟨q,hq,hz,zs,rfl⟩:=gg hk
   cases r1 with
   | tup hb2 hr =>
    rename_i b2 vs2
    have kt:rQ G.Y F2 (.tup zs) q b2:=⟨hq,hz,.tup hb2 hr⟩
    have is:=jf I2 sF kt
    cases a1
    refine ⟨[(q,b2,vv)],⟨rfl,rfl,is,trivial⟩,gN (Y:=⟨C.prog,C.w,C.K,G.Y.pn⟩) (ps:=[]) (F:=F2) I2 sF ⟨rfl,rfl⟩ e w .nil,fun h' tk dd hs=>?_⟩
    obtain ⟨o',es,ep,h1,h2,h3,h4,_,h5⟩:=dd
    have w':DtO G.Y s.heap.objs.size o' [(q,b2,vv)]:=by
     rw [B.Y]
     exact ⟨h2,w.nm,⟨es,ep,h3,h4⟩,h5,by rw [sizeLine_eq]; show 1≤16777216; omega⟩
    exact ⟨.ref s.heap.objs.size,_,d_write I2 (by rw [e]; exact qy) hs ⟨o',h1⟩ (pC h1),rfl,cont o' (.dt upd_same w' (.cons hq hz (.tup hb2 hr) r2 a2 .nil))⟩

theorem gS {α β:Type} (r:R VT) (f:D→cj→R α) (k:α→R β):(cg r f).bind k=cg r fun d s=>(f d s).bind k:=by
 unfold cg
 rw [gk]
 congr 1
 funext ⟨d,t,s⟩
 show R.bind (if _ then R.no else f d s) k=if _ then R.no else (f d s).bind k
 split <;> rfl
theorem xO {m:Str} (hc:∀ env,attributeBase e m env (eval e env)=eval e env) (hs:b8 f=true) (hl:(apos.endLine == cpos.line)=true):M1 C e m apos f cpos :=
 ⟨hc _,by rw [b6 hs]; rfl,hl,by rw [b6 hs]; rfl⟩
theorem xP {m:Str} (hc:∀ env,attributeBase e m env (eval e env)=eval e env) (hs:b8 f=true) (hs2:b8 b=true) (hl:(apos.endLine == cpos.line)=true):M2 C e m apos f b cpos :=
 ⟨hc _,by rw [b6 hs,b6 hs2]; rfl,hl,by rw [b6 hs,b6 hs2]; rfl⟩
theorem iA {m:Str} (h:cM e=true):∀ env,attributeBase e m env (eval e env)=eval e env:=by
 intro env
 cases e
 case Call f args kws p =>
  cases args with
  | nil=>cases h
  | cons a r=>cases f <;> rfl
 all_goals rfl
theorem tR {g:Gh} {σ:L2.St} {H:Hp} {l:Lc} {sto:cj} {k:Bool} {ps:List (D × D)} {x:V} {u:Value} {pins:List (Addr × Obj)} {s:Shared} (B:Gd C S G W) (SS:SR G.Y g σ H l sto) (I:Inv C pins σ H s) (h:RdV G.Y g.F H (.dic k ps) x) (rx:RelV x u) :
  s.TypeIs u "dict"∧(∀ b,u=.ref b→∃ ob,s.heap.get? b=some ob∧ob.dict=none):=by
 cases k with
 | false =>
  obtain ⟨a,kvs,rfl,hH,r⟩:=h.dk SS
  obtain rfl:u=Value.ref a:=rx
  obtain ⟨t1,t2,_⟩:=isD_at I (.inl ⟨kvs,.inl hH⟩)
  exact ⟨t1,t2⟩
 | true =>
  obtain ⟨a,ob,xs,rfl,hH,w,r⟩:=h.dt SS
  obtain rfl:u=Value.ref a:=rx
  have dd:=gN I SS.sF B.hY hH w r
  refine ⟨dd.typeIs,fun b q=>?_⟩
  cases q
  obtain ⟨ob',_,_,h1,h2,_⟩:=dd
  exact ⟨ob',h1,h2.2.1⟩
theorem oh {g:Gh} {σ:L2.St} {H:Hp} {l:Lc} {sto:cj} {d:D} {x:V} {u:Value} {pins:List (Addr × Obj)} {s:Shared} (B:Gd C S G W) (SS:SR G.Y g σ H l sto) (I:Inv C pins σ H s) (h:RdV G.Y g.F H d x) (hr:MI.recv .get1 d=true) (rx:RelV x u) :
  s.TypeIs u "dict"∧(∀ b,u=.ref b→∃ ob,s.heap.get? b=some ob∧ob.dict=none):=by
 cases d with
 | dic k ps=>exact tR B SS I h rx
 | fdc ps =>
  obtain ⟨a,o,kvs,rfl,hH,_⟩:=RdV.fd SS h
  obtain rfl:u=Value.ref a:=rx
  obtain ⟨t1,t2,_⟩:=isD_at I (.inl ⟨kvs,.inr ⟨o,hH⟩⟩)
  exact ⟨t1,fun b q=>by cases q; exact t2 _ rfl⟩
 | cd kvs =>
  have ha:∃ a,x=.ref a∧TbK G.Y a kvs:=by
   rcases h with h | h
   ·cases h with
    | tb t=>exact ⟨_,rfl,t⟩
   ·cases h
  obtain ⟨a,rfl,tb⟩:=ha
  obtain rfl:u=Value.ref a:=rx
  obtain ⟨es,n,o,dd,_,_⟩:=tb.get B.hY.2 B.hK Str.empty
  refine ⟨kd_type dd I,fun b q=>?_⟩
  cases q
  exact ⟨_,I.kIn _ _ dd.at_,rfl⟩
 | _=>cases hr
theorem yY (B:Gd C S G W) (ho:PE C e (rd G.gm W xa)) (he:PE C f (rd G.gm W xb)) (m:M1 C e "get" apos f cpos):PE C (.Call (.Attribute e "get" apos) [f] [] cpos) (rd G.gm W (.mt .get1 xa #v[xb])):=by
 refine ⟨fun pins sh σ H Q I h=>?_⟩
 obtain ⟨g,l,s,SS,h⟩:=h
 refine wpAny_Call_method m.base m.few m.line PySem.F.plainAttrs_dict PySem.F.slot_dict_get PySem.F.type_dict_get (thn (ho.run pins sh σ H (fun v H1=>∃ g1 d s1,SR G.Y g1 σ H1 l s1∧VS G.Y g1 σ l d v∧MI.recv .get1 d=true ∧
  ValE G.gm W g1 σ l ((jp G.fs G.gs #v[xb] l s1).bind fun (ds,s2)=>MI.run .get1 d ds s2) Q) I ?_) fun u s1 ⟨x,H1,I1,rx,g1,dd,t1,S1,v1,hrc,h1⟩=>?_)
 ·refine cB SS (show ValE G.gm W g σ l ((b9 G.fs G.gs xa l s).bind _) Q from h) fun d t s1 g1 v H1 e1 S1 v1 h1=>?_
  have h1:ValE G.gm W g1 σ l (if MI.recv .get1 d=false then .no else (jp G.fs G.gs #v[xb] l s1).bind fun (ds,s2)=>MI.run .get1 d ds s2) Q:=h1
  split at h1
  ·exact h1.elim
  ·rename_i hr
   exact ⟨g1,d,s1,S1,v1,by simpa using hr,h1⟩
 obtain ⟨q1,q2⟩:=oh B S1 I1 (v1.rd S1) hrc rx
 refine ⟨q1,q2,?_⟩
 rw [m.trees]
 refine Calls.callWith_builtin rfl (Calls.evalArgs_plain (Calls.spliced_cons (thn (he.run pins s1 σ H1 (fun y H2=>∃ F o,gh G.Y F H2 x y o∧Q (o.getD .non) H2) I1 ?_) fun iv s2 ⟨y,H2,I2,ry,F,o,dl,q⟩=>Calls.spliced_nil ?_)))
 ·have h1:ValE G.gm W g1 σ l ((cg (b9 G.fs G.gs xb l t1) fun d s1=>R.ok ([d],s1)).bind fun (ds,s2)=>MI.run .get1 dd ds s2) Q:=h1
  rw [gS] at h1
  refine iN S1 h1 fun d s2 g2 y H2 e2 S2 r2 h2=>?_
  cases dd with
  | dic k ps =>
   have h2:ValE G.gm W g2 σ l (if D.isKey k d then cr ((D.look ps d).getD .non) s2 else .no) Q:=h2
   split at h2
   ·rename_i hk
    rcases RdV.look S2 ((v1.ext e2).rd S2) (.inl r2) hk with ⟨e3,q⟩ | ⟨d',v',e3,q,r3⟩
    ·rw [e3] at h2
     exact ⟨g2.F,none,q,h2.frz S2 .non⟩
    ·rw [e3] at h2
     exact ⟨g2.F,some v',q,h2.frz S2 r3⟩
   ·exact h2.elim
  | fdc ps =>
   have h2:ValE G.gm W g2 σ l (if D.isKey false d then cr ((D.look ps d).getD .non) s2 else .no) Q:=h2
   split at h2
   ·rename_i hk
    rcases RdV.lookF S2 ((v1.ext e2).rd S2) (.inl r2) hk with ⟨e3,q⟩ | ⟨d',v',e3,q,r3⟩
    ·rw [e3] at h2
     exact ⟨g2.F,none,q,h2.frz S2 .non⟩
    ·rw [e3] at h2
     exact ⟨g2.F,some v',q,h2.frz S2 r3⟩
   ·exact h2.elim
  | cd kvs =>
   cases d <;> first | exact h2.elim | skip
   rename_i z
   have h2:ValE G.gm W g2 σ l (cr (((kvs.lookup z).map D.str).getD .non) s2) Q:=h2
   refine ⟨g2.F,_,RdV.lookC S2 ((v1.ext e2).rd S2) (.inl r2),?_⟩
   cases el:kvs.lookup z with
   | none =>
    rw [el] at h2
    exact h2.frz S2 .non
   | some y =>
    rw [el] at h2
    exact h2.frz S2 (.str _)
  | _=>cases hrc
 ·exact vJ B.hu ⟨B.hY,B.hK⟩ I2 dl rx ry fun w' s3 I3 rw'=>⟨_,H2,I3,rw',q⟩
theorem yZ (B:Gd C S G W) (ho:PE C e (rd G.gm W xa)) (he:PE C f (rd G.gm W xb)) (hf:PE C b (rd G.gm W xc)) (m:M2 C e "get" apos f b cpos):PE C (.Call (.Attribute e "get" apos) [f,b] [] cpos) (rd G.gm W (.mt .get2 xa #v[xb,xc])):=by
 refine ⟨fun pins sh σ H Q I h=>?_⟩
 obtain ⟨g,l,s,SS,h⟩:=h
 refine wpAny_Call_method m.base m.few m.line PySem.F.plainAttrs_dict PySem.F.slot_dict_get PySem.F.type_dict_get (thn (ho.run pins sh σ H (fun v H1=>∃ g1 d s1,SR G.Y g1 σ H1 l s1∧VS G.Y g1 σ l d v∧MI.recv .get2 d=true ∧
  ValE G.gm W g1 σ l ((jp G.fs G.gs #v[xb,xc] l s1).bind fun (ds,s2)=>MI.run .get2 d ds s2) Q) I ?_) fun u s1 ⟨x,H1,I1,rx,g1,dd,t1,S1,v1,hrc,h1⟩=>?_)
 ·refine cB SS (show ValE G.gm W g σ l ((b9 G.fs G.gs xa l s).bind _) Q from h) fun d t s1 g1 v H1 e1 S1 v1 h1=>?_
  have h1:ValE G.gm W g1 σ l (if MI.recv .get2 d=false then .no else (jp G.fs G.gs #v[xb,xc] l s1).bind fun (ds,s2)=>MI.run .get2 d ds s2) Q:=h1
  split at h1
  ·exact h1.elim
  ·rename_i hr
   exact ⟨g1,d,s1,S1,v1,by simpa using hr,h1⟩
 obtain ⟨q1,q2⟩:=oh B S1 I1 (v1.rd S1) (by cases dd <;> first | rfl | cases hrc) rx
 refine ⟨q1,q2,?_⟩
 rw [m.trees]
 refine Calls.callWith_builtin rfl (Calls.evalArgs_plain (Calls.spliced_cons (thn (he.run pins s1 σ H1 (fun y H2=>rd G.gm W xc σ H2 fun z H3=>∃ F o,gh G.Y F H3 x y o∧Q (o.getD z) H3) I1 ?_) fun iv s2 ⟨y,H2,I2,ry,q⟩ =>
  Calls.spliced_cons (thn (hf.run pins s2 σ H2 _ I2 q) fun fv s3 ⟨z,H3,I3,rz,F,o,dl,q3⟩=>Calls.spliced_nil ?_))))
 ·have h1:ValE G.gm W g1 σ l ((cg (b9 G.fs G.gs xb l t1) fun d s1=>(cg (b9 G.fs G.gs xc l s1) fun d s1=>R.ok ([d],s1)).bind fun (ds,s2)=>.ok (d :: ds,s2)).bind fun (ds,s2)=>MI.run .get2 dd ds s2) Q:=h1
  rw [gS] at h1
  refine iN S1 h1 fun d s2 g2 y H2 e2 S2 r2 h2=>?_
  have h2:ValE G.gm W g2 σ l (((cg (b9 G.fs G.gs xc l s2) fun d s1=>R.ok ([d],s1)).bind fun (ds,s2)=>.ok (d :: ds,s2)).bind fun (ds,s2)=>MI.run .get2 dd ds s2) Q:=h2
  rw [gS,gS] at h2
  refine iN S2 h2 fun d2 s3 g3 z H3 e3 S3 r3 h3=>?_
  cases dd with
  | dic k ps =>
   have h3:ValE G.gm W g3 σ l (if D.isKey k d then cr ((D.look ps d).getD d2) s3 else .no) Q:=h3
   split at h3
   ·rename_i hk
    rcases RdV.look S3 (((v1.ext e2).ext e3).rd S3) (.inl (r2.mono e3.f)) hk with ⟨e4,q⟩ | ⟨d',v',e4,q,r4⟩
    ·rw [e4] at h3
     exact ⟨g3.F,none,q,h3.frz S3 r3⟩
    ·rw [e4] at h3
     exact ⟨g3.F,some v',q,h3.frz S3 r4⟩
   ·exact h3.elim
  | fdc ps =>
   have h3:ValE G.gm W g3 σ l (if D.isKey false d then cr ((D.look ps d).getD d2) s3 else .no) Q:=h3
   split at h3
   ·rename_i hk
    rcases RdV.lookF S3 (((v1.ext e2).ext e3).rd S3) (.inl (r2.mono e3.f)) hk with ⟨e4,q⟩ | ⟨d',v',e4,q,r4⟩
    ·rw [e4] at h3
     exact ⟨g3.F,none,q,h3.frz S3 r3⟩
    ·rw [e4] at h3
     exact ⟨g3.F,some v',q,h3.frz S3 r4⟩
   ·exact h3.elim
  | _=>cases hrc
 ·exact vK B.hu ⟨B.hY,B.hK⟩ I3 dl rx ry rz fun w' s4 I4 rw'=>⟨_,H3,I4,rw',q3⟩

theorem r8 {bs:List Bool} {b:Bool}:∀ (m:Nat) (z:V),m < bs.idxOf b→(bs.map V.bl)[m]?=some z→eqV z (.bl b)=false:=by
 intro m z hm hz
 rw [aD,aA] at hz
 obtain ⟨c,hc,rfl⟩:=hz
 have hne:c≠b:=fun e=>by
  subst e
  have:=List.not_of_lt_findIdx (p:=(· == c)) (xs:=bs) (i:=m) hm
  rw [(au.mp hc).2] at this
  simp at this
 cases c <;> cases b <;> first | rfl | exact absurd rfl hne
theorem wa (B:Gd C S G W) (ho:PE C e (rd G.gm W xa)) (he:PE C f (rd G.gm W xb)) (m:M1 C e "index" apos f cpos):PE C (.Call (.Attribute e "index" apos) [f] [] cpos) (rd G.gm W (.mt .index xa #v[xb])):=by
 refine ⟨fun pins sh σ H Q I h=>?_⟩
 obtain ⟨g,l,s,SS,h⟩:=h
 refine wpAny_Call_method_late m.base m.few m.line rfl (thn (ho.run pins sh σ H (fun v H1=>∃ g1 d s1,SR G.Y g1 σ H1 l s1∧VS G.Y g1 σ l d v∧MI.recv .index d=true ∧
  ValE G.gm W g1 σ l ((jp G.fs G.gs #v[xb] l s1).bind fun (ds,s2)=>MI.run .index d ds s2) Q) I ?_) fun u s1 ⟨x,H1,I1,rx,g1,d,t1,S1,v1,hr,h1⟩=>?_)
 ·refine cB SS (show ValE G.gm W g σ l ((b9 G.fs G.gs xa l s).bind _) Q from h) fun d t s1 g1 v H1 e1 S1 v1 h1=>?_
  have h1:ValE G.gm W g1 σ l (if MI.recv .index d=false then .no else (jp G.fs G.gs #v[xb] l s1).bind fun (ds,s2)=>MI.run .index d ds s2) Q:=h1
  cases er:MI.recv .index d with
  | true =>
   rw [er,aq (by simp)] at h1
   exact ⟨g1,d,s1,S1,v1,er,h1⟩
  | false =>
   rw [er,aj rfl] at h1
   exact h1.elim
 have h1:ValE G.gm W g1 σ l ((cg (b9 G.fs G.gs xb l t1) fun d s1=>R.ok ([d],s1)).bind fun (ds,s2)=>MI.run .index d ds s2) Q:=h1
 rw [gS] at h1
 cases d with
 | tup xs =>
  have arg:rd G.gm W xb σ H1 fun y H2=>∃ a,∃ ns:List Int,∃ k,x=.ref a∧y=.int k∧TuF H2 a (ns.map V.int)∧k∈ns∧Q (.int (ns.idxOf k:Nat)) H2:=by
   refine iN S1 h1 fun y s2 g2 yv H2 e2 S2 r2 h2=>?_
   cases y with
   | int k =>
    have h2:ValE G.gm W g2 σ l (match cZ xs with | some ns=>if k∈ns then cr (.int (ns.idxOf k:Nat)) s2 else .no | none=>.no) Q:=h2
    cases ei:cZ xs with
    | none=>rw [ei] at h2; exact h2.elim
    | some ns =>
     rw [ei] at h2
     have h2:ValE G.gm W g2 σ l (if k∈ns then cr (.int (ns.idxOf k:Nat)) s2 else .no) Q:=h2
     split at h2
     ·obtain ⟨a,vs,rfl,fa,ha,ra⟩:=((v1.ext e2).rd S2).tup S2
      rw [di ei] at ra
      have e3:=ra.ints
      subst e3
      cases r2
      exact ⟨a,ns,k,rfl,rfl,ha,by assumption,h2.frz S2 (.int _)⟩
     ·exact h2.elim
   | _=>exact h2.elim
  obtain ⟨a,vs,rfl,fa,ha,ra⟩:=(v1.rd S1).tup S1
  cases rx
  obtain ⟨o,hd,ha⟩:=ha
  obtain ⟨ho',_,its,rv,o2,ho2,hc,_⟩:=I1.hok a _ ha
  rw [ho'] at ho2
  cases ho2
  refine ⟨"tuple",_,PySem.F.plainAttrs_tuple,PySem.F.slot_tuple_index,PySem.F.type_tuple_index,⟨o,ho',hc⟩,fun b e=>by cases e; exact ⟨o,ho',hd⟩,?_⟩
  rw [m.trees]
  refine Calls.callWith_builtin rfl (Calls.evalArgs_plain (Calls.spliced_cons (thn (he.run pins s1 σ H1 _ I1 arg) fun w s2 ⟨y,H2,I2,ry,a',ns,k,ea,ey,hT,hk,q⟩=>Calls.spliced_nil ?_)))
  cases ea
  subst ey
  obtain ⟨t,rfl⟩:=ry
  obtain ⟨its,rv,hl,_⟩:=I2.tuple (hT.sq (K:=C.K))
  exact SeqAt.tuple_index_ints hl (intsAre_of rv) hk ⟨.int (ns.idxOf k:Nat),H2,I2.tok _,⟨_,rfl⟩,q⟩
 | lst xs =>
  have arg:rd G.gm W xb σ H1 fun y H2=>∃ a,∃ bs:List Bool,∃ b,x=.ref a∧y=.bl b∧H2 a=some (.lst (bs.map V.bl))∧b∈bs∧Q (.int (bs.idxOf b:Nat)) H2:=by
   refine iN S1 h1 fun y s2 g2 yv H2 e2 S2 r2 h2=>?_
   cases y with
   | bl k =>
    have h2:ValE G.gm W g2 σ l (match iu xs with | some ns=>if k∈ns then cr (.int (ns.idxOf k:Nat)) s2 else .no | none=>.no) Q:=h2
    cases ei:iu xs with
    | none=>rw [ei] at h2; exact h2.elim
    | some ns =>
     rw [ei] at h2
     have h2:ValE G.gm W g2 σ l (if k∈ns then cr (.int (ns.idxOf k:Nat)) s2 else .no) Q:=h2
     split at h2
     ·obtain ⟨a,vs,rfl,ha,ra⟩:=((v1.ext e2).rd S2).lst S2
      rw [hU ei] at ra
      have e3:=ra.bls
      subst e3
      cases r2
      exact ⟨a,ns,k,rfl,rfl,ha,by assumption,h2.frz S2 (.int _)⟩
     ·exact h2.elim
   | _=>exact h2.elim
  obtain ⟨a,vs,rfl,ha,ra⟩:=(v1.rd S1).lst S1
  cases rx
  obtain ⟨its,rv,pl,_⟩:=I1.list (.inl (.inl ha))
  obtain ⟨o,n,ho',hc,hd,_⟩:=pl
  refine ⟨"list",_,PySem.F.plainAttrs_list,PySem.F.slot_list_index,PySem.F.type_list_index,⟨o,ho',hc⟩,fun b e=>by cases e; exact ⟨o,ho',hd⟩,?_⟩
  rw [m.trees]
  refine Calls.callWith_builtin rfl (Calls.evalArgs_plain (Calls.spliced_cons (thn (he.run pins s1 σ H1 _ I1 arg) fun w s2 ⟨y,H2,I2,ry,a',bs,b,ea,ey,hT,hk,q⟩=>Calls.spliced_nil ?_)))
  cases ea
  subst ey
  have hb:bs.idxOf b < bs.length:=List.idxOf_lt_length_iff.mpr hk
  refine mt_index pins s2 σ H2 (.ref a) [.bl b] _ [w] Q I2 rfl #v[ry] ⟨a,_,_,bs.idxOf b,.bl b,rfl,rfl,.inl (.inl hT),rfl,?_,?_,?_,r8,q⟩
  ·rw [List.all_map]
   exact bt.mpr fun _ _=>rfl
  ·rw [aD,ak hb,List.getElem_idxOf hb]
   rfl
  ·cases b <;> rfl
 | _=>cases hr

theorem y4 (B:Gd C S G W) (hl:(apos.endLine == cpos.line)=true) (hn:cM e=true) (hs:b8 f=true) (ho:PE C e (rd G.gm W xa)) (he:PE C f (rd G.gm W xb)) :
  PE C (.Call (.Attribute e "join" apos) [f] [] cpos) (rd G.gm W (.rm .join xa xb)):=by
 refine PE.imp (L2.pe_join ho he (by rw [b6 hs]; rfl) (iA hn _) hl) ?_
 rintro σ H Q ⟨g,l,s,SS,h⟩
 refine cB SS (show ValE G.gm W g σ l ((b9 G.fs G.gs xa l s).bind _) Q from h) fun d t s1 g1 v H1 e1 S1 v1 h1=>?_
 cases d with
 | str z =>
  obtain rfl:=(v1.rd S1).str
  refine ⟨⟨z,rfl⟩,?_⟩
  have h1:ValE G.gm W g1 σ l ((b9 G.fs G.gs xb l s1).bind fun (y,_,s2)=>MI.runT .join z y s2) Q:=h1
  refine cB S1 h1 fun d t s2 g2 v H2 e2 S2 v2 h2=>?_
  cases d with
  | lst ys =>
   obtain ⟨a,vs,rfl,hH,r⟩:=(v2.rd S2).lst S2
   have h5:ValE G.gm W g2 σ l (match gc ys with
    | some zs=>if (zs.map (·.length)).sum+zs.length*z.length≤16777216 then cr (.str (Txt.join z zs)) s2 else .no
    | none=>.no) Q:=h2
   clear h2
   cases hi:gc ys with
   | none=>rw [hi] at h5; exact h5.elim
   | some zs =>
    rw [hi] at h5
    have h6:ValE G.gm W g2 σ l (if (zs.map (·.length)).sum+zs.length*z.length≤16777216 then cr (.str (Txt.join z zs)) s2 else .no) Q:=h5
    clear h5
    split at h6
    ·rename_i hz
     have e3:=gD hi
     subst e3
     have e4:=r.strs
     subst e4
     exact ⟨z,a,zs,rfl,rfl,.inl (.inl (.inl hH)),hz,h6.frz S2 (.str _)⟩
    ·exact h6.elim
  | _=>exact h2.elim
 | _=>exact h1.elim
theorem wb (B:Gd C S G W) (hl:(apos.endLine == cpos.line)=true) (hn:cM e=true) (hs:b8 f=true) (ho:PE C e (rd G.gm W xa)) (he:PE C f (rd G.gm W xb)) :
  PE C (.Call (.Attribute e "split" apos) [f] [] cpos) (rd G.gm W (.rm .split xa xb)):=by
 refine PE.imp (L2.pe_split ho he (by rw [b6 hs]; rfl) (iA hn _) hl) ?_
 rintro σ H Q ⟨g,l,s,SS,h⟩
 refine cB SS (show ValE G.gm W g σ l ((b9 G.fs G.gs xa l s).bind _) Q from h) fun d t s1 g1 v H1 e1 S1 v1 h1=>?_
 cases d with
 | str z =>
  obtain rfl:=(v1.rd S1).str
  refine ⟨⟨z,rfl⟩,?_⟩
  have h1:ValE G.gm W g1 σ l ((b9 G.fs G.gs xb l s1).bind fun (y,_,s2)=>MI.runT .split z y s2) Q:=h1
  refine cB S1 h1 fun d t s2 g2 v H2 e2 S2 v2 h2=>?_
  cases d with
  | str b =>
   obtain rfl:=(v2.rd S2).str
   have h6:ValE G.gm W g2 σ l (if (b.length == 0)=false∧z.length+2≤sizeLine∧(Txt.split z b).length≤sizeLine then dW (.lst ((Txt.split z b).map D.str)) s2 else .no) Q:=h2
   clear h2
   split at h6
   ·rename_i hz
    exact ⟨z,b,rfl,rfl,hz.1,hz.2.1,fun p hp=>h6.lstN S2 (Rps.ofStrs _) hp⟩
   ·exact h6.elim
  | _=>exact h2.elim
 | _=>exact h1.elim

theorem y5 (B:Gd C S G W) (hh:S.hot=false) {p p2 pos2:Pos} (hg:dc S.sc "tuple"=true) (hg2:dc S.sc "reversed"=true) (hs:b8 e=true) (ha:PE C e (rd G.gm W xa)) :
  PE C (.Call (.Name "tuple" p) [.Call (.Name "reversed" p2) [e] [] pos2] [] pos) (rd G.gm W (.trev xa)):=by
 refine PE.imp (pz (B.calm hh) (B.gl hg) (B.blt _ (by symm)) (B.gl hg2) (B.blt _ (by symm)) ha (b6 hs)) ?_
 rintro σ H Q ⟨g,l,s,SS,h⟩
 refine cB SS (show ValE G.gm W g σ l ((b9 G.fs G.gs xa l s).bind _) Q from h) fun d t s1 g1 v H1 e1 S1 v1 h1=>?_
 cases d with
 | lst ds =>
  obtain ⟨a,vs,rfl,hH,r⟩:=(v1.rd S1).lst S1
  refine ⟨a,vs,rfl,.inl (.inl hH),?_⟩
  exact (show ValE G.gm W g1 σ l (cr (.tup ds.reverse) s1) Q from h1).tupN S1 r.rev
 | _=>exact h1.elim

theorem mh:∀ (n:Nat) (ns:List Int),ns.length≤n→ns.eraseDups.Nodup
 | _,[],_=>by rw [List.eraseDups_nil]; exact .nil
 | 0,a :: r,h=>absurd h (Nat.not_succ_le_zero _)
 | n+1,a :: r,h=>by
  rw [List.eraseDups_cons,List.nodup_cons]
  refine ⟨fun z=>?_,mh n _ (a8 (List.length_filter_le _ _) (Nat.le_of_succ_le_succ h))⟩
  have:=List.mem_eraseDups.mp z
  simp at this
theorem wc {ns out:List Int} (h1:out.Pairwise (· < ·)) (h2:∀ k,k∈out↔k∈ns):pp ns=out:=by
 have hp:(pp ns).Perm ns.eraseDups:=bQ _ _
 have hs:(pp ns).Pairwise (·≤·):=by
  have q:=bH (le:=fun a b:Int=>decide (a≤b)) (fun a b c h1 h2=>by simp at *; omega) (fun a b=>by simp; omega) ns.eraseDups
  exact q.imp fun h=>by simpa using h
 have nd:out.Nodup:=aP.mpr (h1.imp fun h=>by omega)
 have pe:(pp ns).Perm out:=by
  refine hp.trans ((List.perm_ext_iff_of_nodup (mh _ _ (ax _)) nd).mpr fun k=>?_)
  rw [h2,List.mem_eraseDups]
 exact PySem.W.Srt.one _ _ pe hs (h1.imp fun h=>by omega)
theorem za (B:Gd C S G W) (hh:S.hot=false) {p p2 pos2:Pos} (hg:dc S.sc "sorted"=true) (hg2:dc S.sc "set"=true) (hs:b8 e=true) (ha:PE C e (rd G.gm W xa)) :
  PE C (.Call (.Name "sorted" p) [.Call (.Name "set" p2) [e] [] pos2] [] pos) (rd G.gm W (.sset xa)):=by
 have q1:=pe_callTy (p:=p2) (pos:=pos2) (v7 (B.calm hh)) (B.gl hg2) (B.blt _ (by symm)) (by symm) (pa_cons ha pa_nil (b6 hs)) (by decide) (by decide) (b6 hs) (by rfl)
 refine PE.imp (pe_callB (pO (B.calm hh)) (B.gl hg) (B.blt _ (by symm)) (by symm) (pa_cons q1 pa_nil (by rfl)) (by decide) (by decide) (by rfl) (by rfl)) ?_
 rintro σ H Q ⟨g,l,s,SS,h⟩
 refine cB SS (show ValE G.gm W g σ l ((b9 G.fs G.gs xa l s).bind _) Q from h) fun d t s1 g1 v H1 e1 S1 v1 h1=>?_
 cases d with
 | lst ds =>
  obtain ⟨a,vs,rfl,hH,r⟩:=(v1.rd S1).lst S1
  have h5:ValE G.gm W g1 σ l (match cZ ds with | some ns=>if ns.length≤4000 then dW (.lst ((pp ns).map D.int)) s1 else .no | none=>.no) Q:=h1
  clear h1
  cases hi:cZ ds with
  | none=>rw [hi] at h5; exact h5.elim
  | some ns =>
   rw [hi] at h5
   have h6:ValE G.gm W g1 σ l (if ns.length≤4000 then dW (.lst ((pp ns).map D.int)) s1 else .no) Q:=h5
   clear h5
   split at h6
   ·rename_i hz
    have e2:=di hi
    subst e2
    have e3:=r.ints
    subst e3
    refine ⟨a,ns,rfl,.inl (.inl hH),hz,fun p c hp _=>⟨p,_,c,rfl,upd_same,fun ns' q k1 k2 _ hq=>?_⟩⟩
    obtain ⟨S2,E2⟩:=S1.new (o:=SetO C.w p (fun j=>decide (j∈ns)) c) hp
    have e4:=wc k1 fun k=>(k2 k).trans bB
    rw [e4] at h6
    exact (ValE.ext E2 h6).lstN S2 (Rps.ofInts ns') hq
   ·exact h6.elim
 | _=>exact h1.elim

theorem BZ (B:Gd C S G W) {k:Nat} {p1 p2 p3:Pos} (ha:PE C e (rd G.gm W xa)) :
  PE C (.Subscript e (.Slice none none (some (.UnaryOp .USub (.Constant (.int 1) k p1) p2)) p3) pos) (rd G.gm W (.rsl xa)):=by
 refine PE.imp (GMS.pe_revT ha) ?_
 rintro σ H Q ⟨g,l,s,SS,h⟩
 refine cB SS (show ValE G.gm W g σ l ((b9 G.fs G.gs xa l s).bind _) Q from h) fun d t s1 g1 v H1 e1 S1 v1 h1=>?_
 cases d with
 | tup ds =>
  obtain ⟨a,vs,rfl,_,hH,r⟩:=(v1.rd S1).tup S1
  refine ⟨a,vs,rfl,hH.sq,?_⟩
  exact (show ValE G.gm W g1 σ l (cr (.tup ds.reverse) s1) Q from h1).tupN S1 r.rev
 | _=>exact h1.elim

theorem ld {Y:Wd} {F:Fr} {ds:List D} {vs:List V} (r:Rps Y F ds vs):∀ is:List Nat,Rps Y F (is.filterMap (ds[·]?)) (is.filterMap (vs[·]?))
 | []=>.nil
 | i :: is=>by
  rw [bp,bp]
  cases h:ds[i]? with
  | none =>
   have h2:vs[i]?=none:=by
    rw [List.getElem?_eq_none_iff] at h ⊢
    rw [← r.length]
    exact h
   rw [h2]
   exact ld r is
  | some x =>
   obtain ⟨u,h2,h3⟩:=r.get h
   rw [h2]
   exact .cons h3 (ld r is)
theorem B0 (B:Gd C S G W) {f:Expr} {p3:Pos} (ha:PE C e (rd G.gm W xa)) (hk:PO C (some f) (yx G.gm W xb)) :
  PE C (.Subscript e (.Slice none none (some f) p3) pos) (rd G.gm W (.ssl xa xb)):=by
 refine PE.imp (GMS.pe_stepL ha hk) ?_
 rintro σ H Q ⟨g,l,s,SS,h⟩
 refine cS SS (show ValR G.gm W g σ ((b9 G.fs G.gs xa l s).bind _) (KE G.gm σ l Q) from ValE.toR h) fun d t s1 g1 v H1 e1 S1 v1 h1=>?_
 refine k7 S1 h1 fun p s2 g2 H2 e2 S2 h2=>?_
 cases d with
 | lst ds =>
  cases p with
  | none=>exact h2.elim
  | some i =>
   have h2:ValR G.gm W g2 σ (if 0 < i then dW (.lst (ir i ds)) s2 else .no) (KE G.gm σ l Q):=h2
   by_cases hi:0 < i
   ·rw [aj hi] at h2
    obtain ⟨a,vs,rfl,hH,r⟩:=((v1.ext e2).rd S2).lst S2
    refine ⟨a,vs,i,rfl,rfl,hi,.inl (.inl hH),fun q hq=>?_⟩
    refine (ValE.ofR h2).lstN S2 ?_ hq
    unfold ir
    rw [r.length]
    exact ld r _
   ·rw [aq hi] at h2
    exact h2.elim
 | _=>exact h2.elim
end
section
variable {C:Cx} {S:Sc} {G:Gn} {W:WX} {e f b tg:Expr} {es:List Expr} {pos apos cpos:Pos} {xa xb xc:X}
theorem RdV.exc {Y:Wd} {F:Fr} {H:Hp} {nm:Str} {v:V} (h:RdV Y F H (.exc nm) v):∃ a,v=.ref a∧Y.pn a=some nm:=by
 rcases h with h | h
 ·cases h with
  | exc h=>exact ⟨_,rfl,h⟩
 ·cases h

theorem zb {pins:List (Addr × Obj)} {σ:L2.St} {H:Hp} {s:Shared} {p:Addr × Obj} (I:Inv C pins σ H s) (hp:p∈C.pn):L2H.PinOk C.stack H s p:=by
 have P1:=I.pin p (aG _ hp)
 exact ⟨P1.1,P1.2.1,fun hm=>(aB.mp (I.stkSub p.1 hm)).elim P1.2.2.1 P1.2.2.2.1,P1.2.2.2.2⟩


def EK (C:Cx):List V→Hp→VK→Prop:=fun xs H Q=>∃ (a D:Addr) (oe:Obj) (c:V) (cv:Value) (k:Bool),xs=[.ref a,c]∧(a,oe)∈C.pn∧L2.ExcC C.K D∧Zc (.ref D) none oe∧(∃ vs,oe.data=.fields vs) ∧
 (∀ u,RelV c u→u=cv)∧PySem.W.kitOne C.K (.ref D) cv=some k∧Q (.bl k) H
theorem tS:CallR C (.builtin "isinstance") (EK C):=by
 intro pins s σ H xs us Q I r h
 obtain ⟨a,D,oe,c,cv,k,rfl,hp,X,hz,hf,hcv,e,q⟩:=h
 cases r with
 | cons rx rr =>
  cases rr with
  | cons rt rr =>
   cases rr
   cases rx
   have ec:=hcv _ rt
   subst ec
   obtain ⟨hget,_⟩:=I.pin (a,oe) (aG _ hp)
   obtain ⟨vs,hv⟩:=hf
   have J:PySem.W.InstAt s.heap a oe D none:=by
    obtain ⟨oc,od,oda,osl⟩:=oe
    obtain ⟨h1,h2⟩:=hz
    dsimp only at h1 h2 hv
    subst h1 h2 hv
    exact ⟨hget,rfl,rfl,trivial⟩
   exact PySem.W.kia_one (PySem.W.handS_kitx_exc X.hg X.hk X.hs X.hd X.ha X.hn X.ht X.hm) I.kIn J e (fun z=>nomatch z) fun tk=>⟨.bl k,H,I.kept (t':=tk) fun _ _ z=>z,rfl,q⟩
theorem pQ {K:PySem.W.Frag} {t c:Value} {k:Bool} (h:PySem.W.exmOne K t c=some k) (hs:PySem.W.subIn K t t=some true):PySem.W.kitOne K t c=some k:=by
 have e1:(if (PySem.W.subIn K c (.type "BaseException") == some true)=true then PySem.W.kitCls K t c else none)=some k:=h
 split at e1
 ·unfold PySem.W.kitOne
  split
  ·rename_i q
   have e2:t=c:=eq_of_beq q
   subst e2
   unfold PySem.W.kitCls at e1
   cases t with
   | ref a =>
    simp only at e1
    split at e1
    ·rw [hs] at e1; exact e1
    ·cases e1
   | type T =>
    simp only at e1
    split at e1
    ·rw [hs] at e1; exact e1
    ·cases e1
   | _=>cases e1
  ·exact e1
 ·cases e1
theorem B3 (B:Gd C S G W) {j:Nat} {y:Str} {p p2:Pos} (hg:dc S.sc "isinstance"=true) (hj:(j,y)∈S.xs) (hg2:dc S.sc y=true) (hn:fN y=true) (hs:b8 e=true) (ha:PE C e (rd G.gm W xa)) :
  PE C (.Call (.Name "isinstance" p) [e,.Name y p2] [] pos) (rd G.gm W (.xis j xa)):=by
 cases ef:G.fs[j]? with
 | none =>
  refine PE.imp (t:=fun _ _ _=>False) ⟨fun _ _ _ _ _ _ h=>h.elim⟩ ?_
  rintro σ H Q ⟨g,l,s,SS,h⟩
  have h:ValE G.gm W g σ l (b9 G.fs G.gs (.xis j xa) l s) Q:=h
  simp only [b9,ef] at h
  exact h
 | some F =>
  have eF:=B.xs j y F hj ef
  subst eF
  obtain hne:S.xs≠[]:=fun z=>by rw [z] at hj; cases hj
  have X:=B.xi hne
  have rd1:∀ {σ:L2.St} {H:Hp} {Q Q2:VK},rd G.gm W (.xis j xa) σ H Q→(∀ nm k s1 l g1 v H1,SR G.Y g1 σ H1 l s1→RdV G.Y g1.F H1 (.exc nm) v→G.ms nm y=some k→ValE G.gm W g1 σ l (cr (.bl k) s1) Q→Q2 v H1)→rd G.gm W xa σ H Q2:=by
   rintro σ H Q Q2 ⟨g,l,s,SS,h⟩ hk
   have h:ValE G.gm W g σ l (b9 G.fs G.gs (.xis j xa) l s) Q:=h
   have e0:b9 G.fs G.gs (.xis j xa) l s=(b9 G.fs G.gs xa l s).bind fun (x,_,s1)=>match x with
    | .exc nm=>match (vB G.ms y).run [.exc nm] with
     | .ok (.bl b,.fr)=>cr (.bl b) s1
     | _=>.no
    | _=>.no:=by
    simp only [b9,ef] <;> rfl
   rw [e0] at h
   refine cB SS (show ValE G.gm W g σ l ((b9 G.fs G.gs xa l s).bind _) Q from h) fun d t s1 g1 v H1 e1 S1 v1 h1=>?_
   cases d with
   | exc nm =>
    have h1:ValE G.gm W g1 σ l (match (match G.ms nm y with | some b=>(.ok (.bl b,.fr):R (D × Tag)) | none=>.no) with
     | .ok (.bl b,.fr)=>cr (.bl b) s1
     | _=>.no) Q:=h1
    cases em:G.ms nm y with
    | none=>rw [em] at h1; exact h1.elim
    | some k =>
     rw [em] at h1
     exact hk nm k s1 l g1 v H1 S1 (v1.rd S1) em h1
   | _=>exact h1.elim
  by_cases hy:∃ c,C.mg y=some (.ref c)
  ·obtain ⟨c,hu⟩:=hy
   have hb:PE C (.Name y p2) (tC (.ref c)):=pe_glob (B.gl hg2) hu rfl (dX hn)
   refine PE.imp (pe_callB tS (B.gl hg) (B.blt _ (by symm)) (by symm) (pa_cons ha (pa_cons hb pa_nil) (b6 hs)) (by decide) (by decide) (b6 hs) (by rfl)) fun σ H Q h=>?_
   refine rd1 h fun nm k s1 l g1 v H1 S1 r em h1=>?_
   obtain ⟨a,rfl,hpn⟩:=r.exc
   obtain ⟨oe,hp,cv,hcv,hz,hf⟩:=B.px a nm hpn
   obtain ⟨⟨Ca,hCa,XC,hsub⟩,_⟩:=X nm y k em
   rw [hCa] at hcv
   obtain rfl:=ad hcv
   exact ⟨a,Ca,oe,.ref c,.ref c,k,rfl,hp,XC,hz,hf,(fun u ru=>ru),pQ (B.ms nm y k _ _ em hCa hu) hsub,h1.frz S1 (.bl _)⟩
  ·refine PE.imp (pe_callB (id:="isinstance") (r:=fun _ _ _=>False) (fun _ _ _ _ _ _ _ _ _ h=>h.elim) (B.gl hg) (B.blt _ (by symm)) (by symm) (pa_cons ha (pa_cons (e:=.Name y p2) (te:=fun _ _ _=>False) ⟨fun _ _ _ _ _ _ h=>h.elim⟩ pa_nil) (b6 hs)) (by decide) (by decide) (b6 hs) (by rfl)) fun σ H Q h=>?_
   refine rd1 h fun nm k s1 l g1 v H1 S1 r em h1=>?_
   obtain ⟨_,Cb,hCb⟩:=X nm y k em
   exact hy ⟨Cb,hCb⟩

theorem B4 (B:Gd C S G W) {c:Str} {p p2:Pos} (hg:dc S.sc "isinstance"=true) (hi:c∈S.ic) (hg2:dc S.sc c=true) (hn:fN c=true) (hs:b8 e=true) (ha:PE C e (rd G.gm W xa)) :
  PE C (.Call (.Name "isinstance" p) [e,.Name c p2] [] pos) (rd G.gm W (.isc c xa)):=by
 obtain ⟨IC,hm⟩:=B.isc c hi
 have hb:PE C (.Name c p2) (tC (.ref (He.ga C.K c))):=pe_glob (B.gl hg2) hm rfl (dX hn)
 refine PE.imp (pe_callB (C8.call_isC IC) (B.gl hg) (B.blt _ (by symm)) (by symm) (pa_cons ha (pa_cons hb pa_nil) (b6 hs)) (by decide) (by decide) (b6 hs) (by rfl)) ?_
 rintro σ H Q ⟨g,l,s,SS,h⟩
 refine cB SS (show ValE G.gm W g σ l ((b9 G.fs G.gs xa l s).bind _) Q from h) fun d t s1 g1 v H1 e1 S1 v1 h1=>?_
 have h2:ValE G.gm W g1 σ l (match pq s1 c d with
  | some _=>cr (.bl true) s1
  | none=>.no) Q:=h1
 clear h1
 cases ec:pq s1 c d with
 | none=>rw [ec] at h2; exact h2.elim
 | some fs =>
  rw [ec] at h2
  obtain ⟨n,a,dx,fv,_,_,ev,k,hh,hz,hr⟩:=S1.ci (v1.rd S1) ec
  have hh2:H1 a=some (.ins (He.ga C.K c) dx fv):=by rw [← B.hK]; exact hh
  subst ev
  exact ⟨a,dx,fv,rfl,hh2,h2.frz S1 (.bl _)⟩

theorem zc (B:Gd C S G W) {j:Nat} {x:Str} {p:Pos} (hj:j∈S.hx) (hx:S.cs[j]?=some x) (hg:dc S.sc x=true) (hn:fN x=true) (hs:b8 e=true) (ha:PE C e (rd G.gm W xa)) :
  PE C (.Call (.Name x p) [e] [] pos) (rd G.gm W (.calX j xa)):=by
 cases ef:G.fs[j]? with
 | none =>
  refine PE.imp (t:=fun _ _ _=>False) ⟨fun _ _ _ _ _ _ h=>h.elim⟩ ?_
  rintro σ H Q ⟨g,l,s,SS,h⟩
  have h:ValE G.gm W g σ l (b9 G.fs G.gs (.calX j xa) l s) Q:=h
  simp only [b9,ef] at h
  exact h
 | some F =>
  obtain ⟨a,fd,ps,hF,hm,hk,hb⟩:=B.hx j x F hj hx ef
  refine ⟨fun pins s σ H Q I h=>?_⟩
  obtain ⟨g,l,s0,SS,h⟩:=h
  refine wpAny_Call_Name_kw (ld_glob I (B.gl hg) hm ?_ (dX hn))
  have hA:=pa_cons ha pa_nil (b6 (es:=[]) (env:=C.env) hs)
  refine PySem.W.callWith_K (h₀:=C.base) I.ok.mod.kin hk (thn (hA.run pos pins s σ H (fun vs H1=>∃ b nm d s1 g1,vs=[.ref b]∧G.Y.pn b=some nm∧F.run [.exc nm]=.ok (d,.fr)∧d.flat=true∧SR G.Y g1 σ H1 l s1∧ValE G.gm W g1 σ l (cr d s1) Q) I ?_) fun us s1 ⟨vs,H1,I1,r,q⟩=>⟨I1.kIn,?_⟩) (b6 hs) (du (by simp [hs]))
  ·have e0:b9 G.fs G.gs (.calX j xa) l s0=(b9 G.fs G.gs xa l s0).bind fun (x,_,s1)=>match x with
    | .exc nm=>match F.run [.exc nm] with
     | .ok (d,.fr)=>if d.flat=true then cr d s1 else .no
     | _=>.no
    | _=>.no:=by
    simp only [b9,ef] <;> rfl
   have h:ValE G.gm W g σ l (b9 G.fs G.gs (.calX j xa) l s0) Q:=h
   rw [e0] at h
   refine cB SS (show ValE G.gm W g σ l ((b9 G.fs G.gs xa l s0).bind _) Q from h) fun d t s1 g1 v H1 e1 S1 v1 h1=>?_
   cases d with
   | exc nm =>
    have h1:ValE G.gm W g1 σ l (match F.run [.exc nm] with
     | .ok (d,.fr)=>if d.flat=true then cr d s1 else .no
     | _=>.no) Q:=h1
    cases er:F.run [.exc nm] with
    | ok q =>
     rw [er] at h1
     obtain ⟨d,t⟩:=q
     cases t with
     | fr =>
      have h1:ValE G.gm W g1 σ l (if d.flat=true then cr d s1 else .no) Q:=h1
      split at h1
      ·rename_i hf
       obtain ⟨b,rfl,hpn⟩:=(v1.rd S1).exc
       exact ⟨b,nm,d,s1,g1,rfl,hpn,er,hf,S1,h1⟩
      ·exact h1.elim
     | _=>exact h1.elim
    | er _ _ _=>rw [er] at h1; exact h1.elim
    | no=>rw [er] at h1; exact h1.elim
   | _=>exact h1.elim
  ·obtain ⟨b,nm,d,s2,g1,rfl,hpn,er,hf,S1,h1⟩:=q
   obtain ⟨u,rfl,ru⟩:=vals1 r
   cases ru
   obtain ⟨oe,hp,ex⟩:=B.px b nm hpn
   have bb:=hb s1 [.ref b] I1.kIn (by rw [aM]; exact hF.1.symm)
   rw [aM] at bb
   refine wpAny_call (codeAny_mono (hF.2 C.A C.stack s1 H1 (b,oe) nm Q B.rmh (zb I1 hp) I1.env0 ex bb ?_) fun r s' hq=>?_)
   ·rw [er]
    exact ⟨hf,fun H' v sm rv=>h1.frz (S1.heap sm) (rv _ _)⟩
   ·cases r with
    | error e =>
     obtain ⟨_,_,_,_,_,_,_,_,_,_,_,_,z⟩:=hq
     exact z.elim
    | ok fl =>
     cases fl with
     | ret u=>exact I1.after hq
     | next=>exact False.elim hq
     | brk=>exact False.elim hq
     | cont=>exact False.elim hq

theorem tT {g:Gh} {σ:L2.St} {l:Lc} {s:cj} {d:D} {t:Tag} {Q:VK} (ht:t≠.nw) (h:ValE G.gm W g σ l (match (generalizing:=false) d,t with
  | .dic false kvs,.nw=>cr (.fdc kvs) s
  | _,_=>.no) Q):False:=by
 cases t with
 | nw=>exact ht rfl
 | _ =>
  cases d with
  | dic kk ps=>cases kk <;> exact h
  | _=>exact h
theorem EL (ha:PE C e (rd G.gm W xa)):PE C e (rd G.gm W (.kd xa)):=by
 refine PE.imp (qJ ha) ?_
 rintro σ H Q ⟨g,l,s,SS,h⟩
 refine kI SS (show ValE G.gm W g σ l ((b9 G.fs G.gs xa l s).bind _) Q from h) fun d t s1 g1 v H1 e1 S1 v1 h1=>?_
 have h1:ValE G.gm W g1 σ l (match (generalizing:=false) d,t with
  | .dic false kvs,.nw=>cr (.fdc kvs) s1
  | _,_=>.no) Q:=h1
 cases t with
 | nw =>
  cases d with
  | dic kk ps =>
   cases kk with
   | true=>exact h1.elim
   | false =>
    obtain ⟨a,rfl,⟨hF,hm⟩,hB,tp,no⟩:=v1
    cases tp with
    | dk hh r =>
     rename_i kvs
     refine .inr ⟨a,kvs,rfl,hh,fun ob=>?_⟩
     have S2:=S1.wr (o:=.frz ob (.dK kvs)) hF hm hB no
     obtain ⟨S3,e3⟩:=S2.add upd_same hF hm hB no
     exact h1 _ _ _ e3 S3 (.fd upd_same (r.mono e3.f))
  | _=>exact h1.elim
 | fr=>exact (tT (by intro z; cases z) h1).elim
 | bo=>exact (tT (by intro z; cases z) h1).elim
 | ow=>exact (tT (by intro z; cases z) h1).elim

theorem tU {Y:Wd} {F:Fr} {d:D} {q:Key} (h:D.keyOf d=some q):Rp Y F d (kV q):=by
 cases d <;> simp only [D.keyOf,bM,reduceCtorEq] at h
 ·subst h; exact .int _
 ·subst h; exact .str _
theorem Rpk.at {Y:Wd} {F:Fr}:∀ {ps:List (D × D)} {kvs:List (Key × V)} {i:Nat} {p:D × D},Rpk Y F ps kvs→ps[i]?=some p→∃ q v,kvs[i]?=some (q,v)∧D.keyOf p.1=some q∧Rp Y F p.2 v
 | _,_,_,_,.nil,e=>by simp at e
 | _,_,0,_,.cons h r t,e=>by
  obtain rfl:=ad e
  exact ⟨_,_,rfl,h,r⟩
 | _,_,i+1,p,.cons h r t,e=>Rpk.at (i:=i) t e
theorem wd {Y:Wd} {g0:Gh} {a:Addr} {o:Obj} {kvs:List (Key × V)} {ps:List (D × D)} (hd:g0.F.h a=some (.frz o (.dK kvs))) (r:Rpk Y g0.F ps kvs):Wk Y (Itk a o kvs) g0 (ps.map (·.1)):=by
 intro g i σ H l s e S
 have ha:=S.sF _ _ (e.f.s _ _ hd)
 refine ⟨fun d hd=>?_,fun hi=>⟨ha,by rw [hi,ac,r.length]; exact ax _⟩⟩
 rw [aD,aA] at hd
 obtain ⟨p,hp,rfl⟩:=hd
 obtain ⟨q,v,hq,hk,_⟩:=r.at hp
 refine ⟨⟨ha,(au.mp hq).1⟩,fun x H' y=>?_⟩
 obtain ⟨rfl,k,v',hq',rfl⟩:=y
 rw [hq] at hq'
 cases hq'
 exact ⟨g,.refl g,Same.refl _,S,tU hk⟩

def zd (d:Addr) (o:Obj) (kvs:List (Key × V)):It :=
 ⟨fun i H=>H d=some (.frz o (.dK kvs))∧i < kvs.length,fun i H x H'=>∃ T ob k v,kvs[i]?=some (k,v)∧x=.ref T∧H T=none∧ob.dict=none∧H'=upd H T (.frz ob (.tup [kV k,v])),fun i H=>H d=some (.frz o (.dK kvs))∧kvs.length≤i⟩
theorem oi {P:Program} {w:World} {K:PySem.W.Frag} {d:Addr} {o:Obj} {es:Array DictEntry} {ep:Nat} {kvs:List (Key × V)} {elts:List Expr} {kk:Nat} {tpos:Pos} (it:Addr) (hod:o.data=.dict es ep) :
  Turn P w K (.Tuple elts kk tpos) (zd d o kvs) [it] it (fun i h=>∃ ok ov,IsItemIter h it d i kvs.length ep ok ov) where
 mem:=by simp
 obj:=fun i h st b hb=>by
  have e:b=it:=by simpa using hb
  subst e
  obtain ⟨ok,ov,e⟩:=st
  exact ⟨_,e,fun v z=>nomatch z⟩
 keep:=fun i h h' st k=>let ⟨ok,ov,e⟩:=st; ⟨ok,ov,k it (by simp) _ e⟩
 item:=by
  intro X hP hw hK hc i pins s σ H E I hf st hg
  subst hP hw hK
  obtain ⟨hd,hi⟩:=hg
  obtain ⟨hs,hgd,hx,es',ep',vs,hdt,hsz,kv,hm⟩:=I.frzK hd
  obtain ⟨rfl,rfl⟩:=dict_ep hod hdt
  obtain ⟨⟨k,v⟩,hkv⟩:∃ p,kvs[i]?=some p:=⟨kvs[i],ak hi⟩
  obtain ⟨u,hu,ru⟩:=kv_get kv hkv
  have hl:kvs.length=vs.length:=Paired.length kv
  obtain ⟨ok,ov,he⟩:=st
  rw [hl] at he
  have hlt:it < s.heap.objs.size:=Heap.lt_size he
  refine wpAny_pyNext_items_item he hm hu fun key h' hkey ho hT hz hk=>?_
  refine ⟨_,rfl,wpAny_letOwnedTupleGo_items (s:={ s with heap:=h' }) ho fun h'' he' sb=>?_⟩
  have hT2:h''.get? s.heap.objs.size=some { cls:=.type "tuple",data:=.seq #[key,u] }:=(sb.2 _ (Nat.ne_of_gt hlt)).trans hT
  have new:ObjOk X.prog X.w (upd H s.heap.objs.size (.frz { cls:=.type "tuple",data:=.seq #[key,u] } (.tup [kV k,v]))) h'' s.heap.objs.size (.frz { cls:=.type "tuple",data:=.seq #[key,u] } (.tup [kV k,v])) :=
   ⟨hT2,(by decide:2≤sizeLine),[key,u],.cons (relV_key (show keyIs k key=true from hkey)) #v[ru],⟨_,hT2,rfl,_,rfl⟩⟩
  have I1:Inv X pins σ (upd H s.heap.objs.size (.frz { cls:=.type "tuple",data:=.seq #[key,u] } (.tup [kV k,v]))) { s with heap:=h'' } :=
   I.turnedNew (t':=s.toks) (ch:=[it]) (fun b ob hb e=>(sb.2 b (by simpa using hb)).trans (hk b ob (by simpa using hb) e)) hf (ax _) new
  refine ⟨.ref s.heap.objs.size,_,I1,rfl,⟨_,_,k,v,hkv,rfl,I.hok.fresh (ax _),rfl,rfl⟩,⟨key,u,?_⟩,fun b hb=>?_⟩
  ·rw [hl]; exact he'
  ·have e:b=it:=by simpa using hb
   rw [e,upd_ne (aX hlt)]
   exact (hf it (by simp)).1
 done:=by
  intro X hP hw hK hc i pins s σ H E I hf st hg
  subst hP hw hK
  obtain ⟨hd,hi⟩:=hg
  obtain ⟨f0,f1,f2,f3,f4,f5⟩:=hf it (by simp)
  obtain ⟨hs,hgd,hx,es',ep',vs,hdt,hsz,kv,hm⟩:=I.frzK hd
  obtain ⟨rfl,rfl⟩:=dict_ep hod hdt
  have hl:kvs.length=vs.length:=Paired.length kv
  obtain ⟨ok,ov,he⟩:=st
  rw [hl] at he
  exact wpAny_pyNext_items_end (I.ok.hd hc) he hm (aS (by omega)) fun h' eb=>⟨rfl,I.turned (t':=s.toks) (fun b ob hb e=>eb b ob hb e) f0 f1 f3 f4 f5⟩
 self:=fun A i s Q E st h=>let ⟨_,_,e⟩:=st; PySem.W.kcp_self e h
def we (td:TE):TI:=fun σ H R=>td σ H fun x H1=>∃ d o kvs,x=.ref d∧H1 d=some (.frz o (.dK kvs))∧R (zd d o kvs) H1
theorem r9 {X:Cx} {e:Expr} {td:TE} {apos cpos:Pos} {elts:List Expr} {kk:Nat} {tpos:Pos} (he:PE X e td) (hbase:attributeBase e "items" X.env (eval e X.env)=eval e X.env:=by rfl) (hline:(apos.endLine == cpos.line)=true:=by rfl) :
  PI X (.Tuple elts kk tpos) (.Call (.Attribute e "items" apos) [] [] cpos) (we td):=by
 refine ⟨fun pins s σ H R I h=>?_⟩
 refine wpAny_Call_method (T:="dict") (id:="dict.items") hbase rfl hline F.plainAttrs_dict F.slot_dict_items F.type_dict_items (thn (he.run pins s σ H _ I h) fun u s1 ⟨x,H1,I1,rx,d,o,kvs,ex,hd,q⟩=>?_)
 subst ex
 obtain rfl:u=Value.ref d:=rx
 obtain ⟨hs,hgd,hx,es,ep,vs,hdt,hsz,kv,hm⟩:=I1.frzK hd
 have hl:kvs.length=vs.length:=Paired.length kv
 refine ⟨hm.dictOf.typeIs,hm.dictOf.mapOf.noDict,?_⟩
 have I2:Inv X pins σ H1 { s1 with heap:=s1.heap.push { cls:=.type "dict_items",data:=.fields #[.ref d] } }:=I1.kept (t':=s1.toks) fun b ob q=>Heap.get?_push_of_some _ q
 have fin:wpAny (model X.prog X.w) X.A (pyIter (.ref s1.heap.objs.size)) (PIE X pins σ (.Tuple elts kk tpos) R) X.xe { s1 with heap:=s1.heap.push { cls:=.type "dict_items",data:=.fields #[.ref d] } }:=by
  refine wpAny_pyIter_items (d:=d) (knd:=mixKind X.prog X.w) ⟨_,Heap.get?_push_size _ rfl,rfl,rfl⟩ (hm.push _) (pi_one (tk:=s1.toks) I2 _ (oi _ hdt) ⟨.none,.none,?_⟩ q)
  rw [hl]
  exact Heap.get?_push_size _ rfl
 show wpAny _ _ (callWith cpos (.builtin "dict.items") [.ref d] [] []) _ X.xe s1
 exact method_meetsIn F.slot_dict_items F.entry_dict_items rfl (PySem.evalArgs_none ⟨rfl,hm.dictOf.typeIs,F.args_dict_items_1 _,_,meets_dict_items (mixKind X.prog X.w) d hs,⟨vs,hm.dictOf⟩,fin⟩)
theorem tV {Y:Wd} {g0:Gh} {a:Addr} {o:Obj} {kvs:List (Key × V)} {ps:List (D × D)} (hd:g0.F.h a=some (.frz o (.dK kvs))) (r:Rpk Y g0.F ps kvs):Wk Y (zd a o kvs) g0 (ps.map fun p=>fU p.1 p.2):=by
 intro g i σ H l s e S
 have ha:=S.sF _ _ (e.f.s _ _ hd)
 refine ⟨fun d hd=>?_,fun hi=>⟨ha,by rw [hi,ac,r.length]; exact ax _⟩⟩
 rw [aD,aA] at hd
 obtain ⟨p,hp,rfl⟩:=hd
 obtain ⟨q,v,hq,hk,rv⟩:=r.at hp
 refine ⟨⟨ha,(au.mp hq).1⟩,fun x H' y=>?_⟩
 obtain ⟨T,ob,k,v',hq',rfl,hT,hob,rfl⟩:=y
 rw [hq] at hq'
 cases hq'
 obtain ⟨S',E'⟩:=S.new (o:=.frz ob (.tup [kV q,v])) hT
 exact ⟨_,E',gq hT,S',.tup (.new hob) #v[(tU hk),((rv.mono e.f).mono E'.f)]⟩
theorem ze (B:Gd C S G W) (ha:PE C e (rd G.gm W xa)):PI C tg e (nJ G.gm W (.keys xa)):=by
 refine hW (pi_keys ha) ?_
 rintro σ H R ⟨g,l,s,SS,h⟩
 refine cS SS (show ValR G.gm W g σ ((b9 G.fs G.gs xa l s).bind _) (KI G.gm σ l R) from h) fun d t s1 g1 v H1 e1 S1 v1 h1=>?_
 cases d with
 | fdc ps =>
  have h1:ValR G.gm W g1 σ (.ok (ps.map (·.1),s1)) (KI G.gm σ l R):=h1
  rcases v1.rd S1 with r | r
  ·cases r with
   | fd hd r=>exact ⟨_,_,rfl,.inl ⟨_,S1.sF _ _ hd,h1 g1 (.refl g1) _ H1 S1 (wd hd r)⟩⟩
  ·cases r
 | _=>exact h1.elim
theorem wf {elts:List Expr} {kk:Nat} {tpos:Pos} (B:Gd C S G W) (hc:cM e=true) (hl:(apos.endLine == cpos.line)=true) (ha:PE C e (rd G.gm W xa)):PI C (.Tuple elts kk tpos) (.Call (.Attribute e "items" apos) [] [] cpos) (nJ G.gm W (.items xa)):=by
 refine hW (r9 ha (by first | exact eh hc | (intro env; exact eh hc)) hl) ?_
 rintro σ H R ⟨g,l,s,SS,h⟩
 refine cS SS (show ValR G.gm W g σ ((b9 G.fs G.gs xa l s).bind _) (KI G.gm σ l R) from h) fun d t s1 g1 v H1 e1 S1 v1 h1=>?_
 cases d with
 | fdc ps =>
  have h1:ValR G.gm W g1 σ (.ok (ps.map (fun p=>fU p.1 p.2),s1)) (KI G.gm σ l R):=h1
  rcases v1.rd S1 with r | r
  ·cases r with
   | fd hd r=>exact ⟨_,_,_,rfl,S1.sF _ _ hd,h1 g1 (.refl g1) _ H1 S1 (tV hd r)⟩
  ·cases r
 | _=>exact h1.elim


structure PD (C:Cx) (pos:Pos) (keys:List (Option Expr)) (values:List Expr) (t:L2.St→Hp→(List (V × V)→Hp→Prop)→Prop):Prop where
 run:∀ (pins:List (Addr × Obj)) (s:Shared) (σ:L2.St) (H:Hp) (Q:List (V × V)→Hp→Prop),Inv C pins σ H s→t σ H Q →
  wpAny (model C.prog C.w) C.A (evalPairs (pairTrees keys values C.env pos)) (fun vs s'=>∃ ps H',Inv C pins σ H' s'∧VV ps vs∧Q ps H') C.xe s

inductive Prs (Y:Wd) (F:Fr):List (D × D)→List (V × V)→Prop
 | nil:Prs Y F [] []
 | cons {z:Str} {d:D} {v:V} {ps:List (D × D)} {vs:List (V × V)}:Rp Y F d v→Prs Y F ps vs→Prs Y F ((.str z,d) :: ps) ((.str z,v) :: vs)
theorem Prs.mono {Y:Wd} {F F':Fr} (e:F.le F'):∀ {ps:List (D × D)} {vs:List (V × V)},Prs Y F ps vs→Prs Y F' ps vs
 | _,_,.nil=>.nil
 | _,_,.cons h r=>.cons (h.mono e) (Prs.mono e r)
def pR (G:Gm) (W:WX) (x:X):L2.St→Hp→(List (V × V)→Hp→Prop)→Prop:=fun σ H Q=>∃ g l s,SR G.Y g σ H l s∧ValR G W g σ (rJ G.fs G.gs x l s) (fun p g'=>∀ vs H',SR G.Y g' σ H' l p.2→Prs G.Y g'.F p.1 vs→Q vs H')
theorem wg {g:Gh} {σ:L2.St} {α:Type} {r:R α} {K:α→Gh→Prop} (h:ValR G.gm W g σ (R.noEr r) K):ValR G.gm W g σ r K:=by
 cases r with
 | ok a=>exact h
 | er e s l=>exact h.elim
 | no=>exact h
theorem tW {fs:List Fn} {gs:List D}:∀ (x:X) (l:Lc) (s:cj) {e:Ex} {s1:cj} {l1:Lc},rJ fs gs x l s≠.er e s1 l1:=by
 intro x l s e s1 l1 h
 cases x with
 | cons a b =>
  cases a with
  | ks z =>
   cases b with
   | cons b r =>
    have h:R.noEr (cg (b9 fs gs b l s) fun d s1=>(rJ fs gs r l s1).bind fun (ds,s2)=>.ok ((.str z,d) :: ds,s2))=.er e s1 l1:=h
    generalize (cg (b9 fs gs b l s) fun d s1=>(rJ fs gs r l s1).bind fun (ds,s2)=>.ok ((.str z,d) :: ds,s2):R (List (D × D) × cj))=q at h
    cases q <;> cases h
   | _=>cases h
  | _=>cases h
 | nil=>cases h
 | _=>cases h
theorem zf:PD C pos [] [] (pR G.gm W .nil):=⟨fun pins s σ H Q I ⟨g,l,s0,SS,h⟩=>pairTrees_nil_walk ⟨[],H,I,.nil,h g (.refl g) [] H SS .nil⟩⟩
theorem wj {z:Str} {k:Nat} {q:Pos} {ks:List (Option Expr)} {vs:List Expr} {xr:X} (he:PE C f (rd G.gm W xb)) (hr:PD C pos ks vs (pR G.gm W xr)) :
  PD C pos (some (.Constant (.str z) k q) :: ks) (f :: vs) (pR G.gm W (.cons (.ks z) (.cons xb xr))):=by
 refine ⟨fun pins s σ H Q I ⟨g,l,s0,SS,h⟩=>?_⟩
 have h:=wg (show ValR G.gm W g σ (R.noEr (cg (b9 G.fs G.gs xb l s0) fun d s1=>(rJ G.fs G.gs xr l s1).bind fun (ds,s2)=>.ok ((.str z,d) :: ds,s2))) _ from h)
 have hk:PE C (.Constant (.str z) k q) (tC (.str z)):=pe_str
 refine pairTrees_cons_walk (thn (hk.run pins s σ H (fun x H1=>x=.str z∧H1=H) I ⟨rfl,rfl⟩) fun u s1 ⟨x,H1,I1,rx,ex,eH⟩=>?_)
 subst ex eH
 refine thn (he.run pins s1 σ H1 (fun v H2=>pR G.gm W xr σ H2 fun ps H3=>Q ((.str z,v) :: ps) H3) I1 ?_) fun w2 s2 ⟨y,H2,I2,ry,q2⟩=>thn (hr.run pins s2 σ H2 _ I2 q2) fun ws s3 ⟨ps,H3,I3,rel,q3⟩=>⟨(.str z,y) :: ps,H3,I3,.cons ⟨rx,ry⟩ rel,q3⟩
 refine fW SS h fun d s1 g1 v H2 e1 S1 r1 h1=>?_
 refine ⟨g1,l,s1,S1,?_⟩
 cases ed:rJ G.fs G.gs xr l s1 with
 | ok p =>
  obtain ⟨ds,s2⟩:=p
  have h1:ValR G.gm W g1 σ ((rJ G.fs G.gs xr l s1).bind fun (ds,s2)=>.ok ((.str z,d) :: ds,s2)) _:=h1
  rw [ed] at h1
  intro g2 e2 vs' H' S2 pr
  exact h1 g2 e2 _ H' S2 (.cons (r1.mono e2.f) pr)
 | er ex s' l' =>
  have h1:ValR G.gm W g1 σ ((rJ G.fs G.gs xr l s1).bind fun (ds,s2)=>.ok ((.str z,d) :: ds,s2)) _:=h1
  rw [ed] at h1
  exact h1
 | no =>
  have h1:ValR G.gm W g1 σ ((rJ G.fs G.gs xr l s1).bind fun (ds,s2)=>.ok ((.str z,d) :: ds,s2)) _:=h1
  rw [ed] at h1
  exact h1
def zg (t:L2.St→Hp→(List (V × V)→Hp→Prop)→Prop):TE:=fun σ H Q=>∀ p,H p=none→t σ (upd H p (.dK [])) fun ps H2=>H2 p=some (.dK [])∧∃ kvs:List (Key × V),ps=kvs.map (fun kv=>(kV kv.1,kv.2))∧(mergeK [] kvs).length≤sizeLine∧Q (.ref p) (upd H2 p (.dK (mergeK [] kvs)))
theorem tX {keys:List (Option Expr)} {values:List Expr} {t:L2.St→Hp→(List (V × V)→Hp→Prop)→Prop} (h:PD C pos keys values t) (hall:keys.all (·.isSome)=true) (hl:keys.length=values.length) (h0:keys≠[])
  (h15:keys.length≤15):PE C (.Dict keys values pos) (zg t):=by
 refine ⟨fun pins s σ H Q I q=>?_⟩
 have hn:=I.hok.fresh (ax s.heap.objs.size)
 have I1:=I.laid (a:=s.heap.objs.size) (o:=.dK []) (h':=s.heap.push { cls:=.type "dict",data:=.dict #[] }) (t':=s.toks) (fun _ _ q=>Heap.get?_push_of_some _ q) (ax _) (dk_empty s.heap I.big)
 refine wpAny_Dict_walk (knd:=mixKind C.prog C.w) hall hl h0 h15 (thn (h.run pins _ σ _ _ I1 (q _ hn)) fun ws s2 ⟨ps,H2,I2,rel,e,kvs,ep,hz,q2⟩=>?_)
 subst ep
 obtain ⟨rs,c,rk⟩:=carries_of (P:=C.prog) (w:=C.w) rel
 obtain ⟨z,hd,vs0,r0,dd⟩:=dk_of I2.hok e
 cases r0
 refine ⟨rs,c,dd,fun h' dd' hs=>⟨.ref s.heap.objs.size,_,?_,rfl,q2⟩⟩
 have he:∃ q,h'.get? s.heap.objs.size=some q:=let ⟨q,_,_,hq,_⟩:=dd'; ⟨q,hq⟩
 exact d_write I2 (by rw [e]; exact True.intro) hs he (dk_new hz hd (rk.merge .nil) dd')
theorem Prs.keys {Y:Wd} {F:Fr}:∀ {ps:List (D × D)} {vs:List (V × V)},Prs Y F ps vs→∃ kvs:List (Key × V),vs=kvs.map (fun kv=>(kV kv.1,kv.2))∧Rpk Y F ps kvs
 | _,_,.nil=>⟨[],rfl,.nil⟩
 | _,_,.cons (z:=z) (v:=v) h r=>by
  obtain ⟨kvs,e,q⟩:=r.keys
  exact ⟨(.inr z,v) :: kvs,by rw [e]; rfl,.cons rfl h q⟩
theorem ju:∀ {acc:List (Key × V)} {q:Key},q∉acc.map (·.1)→valV acc q=none
 | [],_,_=>rfl
 | (k,v) :: r,q,h=>by
  rw [aI,aB,not_or] at h
  rw [valV_neg (fun z=>h.1 z.symm)]
  exact ju h.2
theorem lf:∀ {kvs acc:List (Key × V)},((acc++kvs).map (·.1)).Nodup→mergeK acc kvs=acc++kvs
 | [],acc,_=>by rw [aM]; rfl
 | (k,v) :: r,acc,h=>by
  have hk:k∉acc.map (·.1):=fun hm=>by
   rw [bj,aI] at h
   exact (bu.mp h).2.2 _ hm _ ap rfl
  have e:putK acc k v=acc++[(k,v)]:=by
   unfold putK
   rw [valV_any,ju hk]
   rfl
  show mergeK (putK acc k v) r=_
  rw [e,lf (by rw [aK]; exact h),aK]
  rfl
theorem Rpk.nodup {Y:Wd} {F:Fr}:∀ {ps:List (D × D)} {kvs:List (Key × V)},Rpk Y F ps kvs→(ps.map (·.1)).Nodup→(kvs.map (·.1)).Nodup
 | _,_,.nil,_=>List.nodup_nil
 | _,_,.cons (q:=q) (kvs:=kvs) h r t,hn=>by
  rw [aI,List.nodup_cons] at hn ⊢
  refine ⟨fun hm=>hn.1 ?_,t.nodup hn.2⟩
  obtain ⟨⟨q',v'⟩,hm,e⟩:=aQ.mp hm
  obtain ⟨i,hi⟩:=List.mem_iff_getElem?.mp hm
  have:∀ {ps:List (D × D)} {kvs:List (Key × V)} {i:Nat} {p:Key × V},Rpk Y F ps kvs→kvs[i]?=some p→∃ d,ps[i]?=some d∧D.keyOf d.1=some p.1:=by
   intro ps kvs i p r
   induction ps generalizing kvs i with
   | nil=>cases r; intro h; simp at h
   | cons a as ih =>
    cases r with
    | cons h1 h2 h3 =>
     cases i with
     | zero=>intro h; cases (ad h); exact ⟨_,rfl,h1⟩
     | succ i=>intro h; exact ih h3 h
  obtain ⟨d,hd,hk⟩:=this t hi
  have e2:=iM (hk.trans (by rw [show q'=q from e])) h
  exact aQ.mpr ⟨d,bE hd,e2⟩
theorem B5 {ks:List (Option Expr)} {vs:List Expr} (hall:ks.all (·.isSome)=true) (hl:ks.length=vs.length) (h0:ks≠[]) (h15:ks.length≤15) (h:PD C pos ks vs (pR G.gm W xa)):PE C (.Dict ks vs pos) (rd G.gm W (.dis xa)):=by
 refine PE.imp (tX h hall hl h0 h15) ?_
 rintro σ H Q ⟨g,l,s,SS,h⟩ p hp
 have h:ValE G.gm W g σ l ((rJ G.fs G.gs xa l s).bind fun (kvs,s1)=>if (kvs.map (·.1)).Nodup∧kvs.length≤15 then dW (.dic false kvs) s1 else .no) Q:=h
 have hB:=SS.freeB hp
 have hF:=SS.freeF hp
 have hm:=SS.freeM hp
 have no:=SS.noown hp
 have S0:=SS.lay (o:=.dK []) hp
 have SL:=S0.lock (o:=.dK []) upd_same hm hB no
 refine ⟨_,l,s,SL,?_⟩
 cases ed:rJ G.fs G.gs xa l s with
 | ok r =>
  obtain ⟨kvs,s1⟩:=r
  rw [ed] at h
  have h:ValE G.gm W g σ l (if (kvs.map (·.1)).Nodup∧kvs.length≤15 then dW (.dic false kvs) s1 else .no) Q:=h
  split at h
  ·rename_i hc
   intro g2 e2 vs' H2 S2 pr
   show H2 p=some (.dK [])∧_
   obtain ⟨U1,U2,U3,U4⟩:=SR.unlock0 (p:=p) (o:=.dK []) hm hB hF e2 S0 S2
   obtain ⟨kv,ek,r⟩:=pr.keys
   have hnd:=r.nodup hc.1
   have em:mergeK [] kv=kv:=by rw [lf (by simpa using hnd)]; rfl
   refine ⟨U3,kv,ek,by rw [em,← r.length,sizeLine_eq]; have:kvs.length≤15:=hc.2; show kvs.length≤_; omega,?_⟩
   rw [em]
   exact h ⟨g2.F,g.B,g.M⟩ (.ref p) _ U2 (U1.wr U4.1 U4.2 hB no) ⟨p,rfl,U4,hB,.dk upd_same r,no⟩
  ·exact h.elim
 | er ex s1 l1=>exact (tW xa l s ed).elim
 | no=>rw [ed] at h; exact h
end
section
variable {C:Cx} {S:Sc} {G:Gn} {W:WX} {e f b:Expr} {es:List Expr} {pos:Pos} {xa xb xc:X}
theorem B6 {c:Expr} (hc:PT C c (js G.gm W xc)) (ha:PT C e (js G.gm W xa)) (hb:PT C b (js G.gm W xb)):PT C (.IfExp c e b pos) (js G.gm W (.ite xc xa xb)):=by
 refine ⟨fun pins sh σ H Q I q=>?_⟩
 refine isTrue_IfExp (thn (hc.run pins sh σ H (fun k H1=>if k=true then js G.gm W xa σ H1 Q else js G.gm W xb σ H1 Q) I ?_) fun k s1 ⟨H1,I1,q1⟩=>?_)
 ·obtain ⟨g,l,s,SS,h⟩:=q
  refine gp SS (show ValR G.gm W g σ ((b9 G.fs G.gs xc l s).bind _) _ from h) fun d t s1 g1 e1 h1=>?_
  cases d with
  | bl b =>
   refine ⟨b,rfl,fun H1 S1=>?_⟩
   cases b with
   | true=>exact (aj rfl).symm ▸ (⟨g1,l,s1,S1,h1⟩:js G.gm W xa σ H1 Q)
   | false=>exact (aq aa).symm ▸ (⟨g1,l,s1,S1,h1⟩:js G.gm W xb σ H1 Q)
  | _=>exact h1.elim
 ·cases k with
  | true=>exact ha.run pins s1 σ H1 Q I1 q1
  | false=>exact hb.run pins s1 σ H1 Q I1 q1

theorem HW {i:Nat} {e:Expr} (h:cx S (.v i) e=true):∃ x p,e=.Name x p∧(decide (S.N[i]?=some x) && gQ S.sc x && fN x)=true:=by
 cases e
 case Name x p =>
  exact ⟨x,p,rfl,h⟩
 all_goals exact absurd h aa
theorem EM {e:Expr} (h:cx S .kn e=true):∃ k p,e=.Constant .none k p:=by
 cases e
 case Constant u1 k p =>
  cases u1
  case none  =>
   exact ⟨k,p,rfl⟩
  all_goals exact absurd h aa
 all_goals exact absurd h aa
theorem EN {b:Bool} {e:Expr} (h:cx S (.kb b) e=true):∃ k p,e=.Constant (.bool b) k p:=by
 cases e
 case Constant u1 k p =>
  cases u1
  case bool c =>
   exact ⟨k,p,by rw [eq_of_beq (show (b == c)=true from h)]⟩
  all_goals exact absurd h aa
 all_goals exact absurd h aa
theorem EO {b:Int} {e:Expr} (h:cx S (.ki b) e=true):∃ k p,e=.Constant (.int b) k p:=by
 cases e
 case Constant u1 k p =>
  cases u1
  case int c =>
   exact ⟨k,p,by rw [bg (show decide (b=c)=true from h)]⟩
  all_goals exact absurd h aa
 all_goals exact absurd h aa
theorem EQ {b:Str} {e:Expr} (h:cx S (.ks b) e=true):∃ k p,e=.Constant (.str b) k p:=by
 cases e
 case Constant u1 k p =>
  cases u1
  case str c =>
   exact ⟨k,p,by rw [bg (show decide (b=c)=true from h)]⟩
  all_goals exact absurd h aa
 all_goals exact absurd h aa
theorem HX {i:Nat} {e:Expr} (h:cx S (.g i) e=true):∃ x p,e=.Name x p∧(decide (S.gn[i]?=some x) && dc S.sc x && fN x)=true:=by
 cases e
 case Name x p =>
  exact ⟨x,p,rfl,h⟩
 all_goals exact absurd h aa
theorem B7 {e:Expr} (h:cx S (.tup xa) e=true):∃ l k p,e=.Tuple l k p∧io S xa l=true:=by
 cases e
 case Tuple l k p =>
  exact ⟨l,k,p,rfl,h⟩
 all_goals exact absurd h aa
theorem B8 {e:Expr} (h:cx S (.lst xa) e=true):∃ l p,e=.List l p∧io S xa l=true:=by
 cases e
 case List l p =>
  exact ⟨l,p,rfl,h⟩
 all_goals exact absurd h aa
theorem xQ {k:Bool} {xa xb:X} {e:Expr} (h:cx S (.dic k xa xb) e=true):(xa=.nil∧xb=.nil∧∃ p,e=.Dict [] [] p)∨∃ ya yb a b p,xa=.cons ya .nil∧xb=.cons yb .nil∧e=.Dict [some a] [b] p∧(cx S ya a && cx S yb b)=true:=by
 cases xa
 case nil =>
  cases xb
  case nil =>
   cases e
   case Dict ks vs p =>
    cases ks
    case nil =>
     cases vs
     case nil=>exact .inl ⟨rfl,rfl,p,rfl⟩
     all_goals (cases k <;> exact absurd h aa)
    all_goals (cases k <;> exact absurd h aa)
   all_goals (cases k <;> exact absurd h aa)
  all_goals (cases k <;> exact absurd h aa)
 case cons ya r =>
  cases r
  case nil =>
   cases xb
   case cons yb r2 =>
    cases r2
    case nil =>
     cases e
     case Dict ks vs p =>
      cases ks
      case cons o r3 =>
       cases o
       case some a =>
        cases r3
        case nil =>
         cases vs
         case cons b r4 =>
          cases r4
          case nil =>
           cases k <;> exact .inr ⟨ya,yb,a,b,p,rfl,rfl,rfl,h⟩
          all_goals (cases k <;> exact absurd h aa)
         all_goals (cases k <;> exact absurd h aa)
        all_goals (cases k <;> exact absurd h aa)
       all_goals (cases k <;> exact absurd h aa)
      all_goals (cases k <;> exact absurd h aa)
     all_goals (cases k <;> exact absurd h aa)
    all_goals (cases k <;> exact absurd h aa)
   all_goals (cases k <;> exact absurd h aa)
  all_goals (cases k <;> exact absurd h aa)
 all_goals (cases k <;> exact absurd h aa)
theorem B9 {e:Expr} (h:cx S (.dis xa) e=true):∃ ks vs p,e=.Dict ks vs p∧(decide (1≤ks.length) && decide (ks.length≤15) && tv S xa ks vs)=true:=by
 cases e
 case Dict ks vs p =>
  exact ⟨ks,vs,p,rfl,h⟩
 all_goals exact absurd h aa
theorem Cd {j:Nat} {e:Expr} (h:cx S (.xis j xa) e=true):∃ x p a y p1 p2,e=.Call (.Name x p) [a,.Name y p1] [] p2∧(decide (x="isinstance") && dc S.sc x && S.xs.contains (j,y) && dc S.sc y && fN y && b8 a && cx S xa a)=true:=by
 cases e
 case Call u1 u2 u3 p2 =>
  cases u1
  case Name x p =>
   cases u2
   case cons a u4 =>
    cases u4
    case cons u5 u6 =>
     cases u5
     case Name y p1 =>
      cases u6
      case nil =>
       cases u3
       case nil =>
        exact ⟨x,p,a,y,p1,p2,rfl,h⟩
       all_goals exact absurd h aa
      all_goals exact absurd h aa
     all_goals exact absurd h aa
    all_goals exact absurd h aa
   all_goals exact absurd h aa
  all_goals exact absurd h aa
 all_goals exact absurd h aa
theorem Ce {c:Str} {e:Expr} (h:cx S (.isc c xa) e=true):∃ x p a y p1 p2,e=.Call (.Name x p) [a,.Name y p1] [] p2∧(decide (x="isinstance") && dc S.sc x && decide (y=c) && S.ic.contains c && dc S.sc y && fN y && b8 a && cx S xa a)=true:=by
 cases e
 case Call u1 u2 u3 p2 =>
  cases u1
  case Name x p =>
   cases u2
   case cons a u4 =>
    cases u4
    case cons u5 u6 =>
     cases u5
     case Name y p1 =>
      cases u6
      case nil =>
       cases u3
       case nil =>
        exact ⟨x,p,a,y,p1,p2,rfl,h⟩
       all_goals exact absurd h aa
      all_goals exact absurd h aa
     all_goals exact absurd h aa
    all_goals exact absurd h aa
   all_goals exact absurd h aa
  all_goals exact absurd h aa
 all_goals exact absurd h aa
theorem zh {j:Nat} {e:Expr} (h:cx S (.calX j xa) e=true):∃ x p a p2,e=.Call (.Name x p) [a] [] p2∧(S.hx.contains j && decide (S.cs[j]?=some x) && dc S.sc x && fN x && b8 a && cx S xa a)=true:=by
 cases e
 case Call u1 u2 u3 p2 =>
  cases u1
  case Name x p =>
   cases u2
   case cons a u4 =>
    cases u4
    case nil =>
     cases u3
     case nil =>
      exact ⟨x,p,a,p2,rfl,h⟩
     all_goals exact absurd h aa
    all_goals exact absurd h aa
   all_goals exact absurd h aa
  all_goals exact absurd h aa
 all_goals exact absurd h aa
theorem wk {tg e:Expr} (h:nO S (.items xa) tg e=true):∃ el k p1 a nm apos cpos,tg=.Tuple el k p1∧e=.Call (.Attribute a nm apos) [] [] cpos∧(decide (nm="items") && (apos.endLine == cpos.line) && cM a && cx S xa a)=true:=by
 cases tg
 case Tuple el k p1 =>
  cases e
  case Call u1 u2 u3 cpos =>
   cases u1
   case Attribute a nm apos =>
    cases u2
    case nil =>
     cases u3
     case nil =>
      exact ⟨el,k,p1,a,nm,apos,cpos,rfl,rfl,h⟩
     all_goals exact absurd h aa
    all_goals exact absurd h aa
   all_goals exact absurd h aa
  all_goals exact absurd h aa
 all_goals exact absurd h aa
theorem Cf {o:BOp} {e:Expr} (h:cx S (.bin o xa xb) e=true):∃ a q b p,e=.BinOp a q b p∧(Ew o q && cx S xa a && cx S xb b)=true:=by
 cases e
 case BinOp a q b p =>
  exact ⟨a,q,b,p,rfl,h⟩
 all_goals exact absurd h aa
theorem Cg {e:Expr} (h:cx S (.neg xa) e=true):∃ a p,e=.UnaryOp .USub a p∧cx S xa a=true:=by
 cases e
 case UnaryOp u1 a p =>
  cases u1
  case USub  =>
   exact ⟨a,p,rfl,h⟩
  all_goals exact absurd h aa
 all_goals exact absurd h aa
theorem Ch {e:Expr} (h:cx S (.not xa) e=true):∃ a p,e=.UnaryOp .Not a p∧cx S xa a=true:=by
 cases e
 case UnaryOp u1 a p =>
  cases u1
  case Not  =>
   exact ⟨a,p,rfl,h⟩
  all_goals exact absurd h aa
 all_goals exact absurd h aa
theorem Ci {o:COp} {e:Expr} (h:cx S (.cmp o xa xb) e=true):∃ l q r p,e=.Compare l [q] [r] p∧(vM o q && jT o r && cx S xa l && cx S xb r)=true:=by
 cases e
 case Compare l u1 u2 p =>
  cases u1
  case cons q u3 =>
   cases u3
   case nil =>
    cases u2
    case cons r u4 =>
     cases u4
     case nil =>
      exact ⟨l,q,r,p,rfl,h⟩
     all_goals exact absurd h aa
    all_goals exact absurd h aa
   all_goals exact absurd h aa
  all_goals exact absurd h aa
 all_goals exact absurd h aa
theorem Cj {o o2:COp} {e:Expr} (h:cx S (.chn o o2 xa xb xc) e=true):∃ l q q2 r r2 p,e=.Compare l [q,q2] [r,r2] p∧(vM o q && vM o2 q2 && !lastMarks [q,q2] [r,r2] && jT o r && jT o2 r2 && cx S xa l && cx S xb r && cx S xc r2)=true:=by
 cases e
 case Compare l u1 u2 p =>
  cases u1
  case cons q u3 =>
   cases u3
   case cons q2 u4 =>
    cases u4
    case nil =>
     cases u2
     case cons r u5 =>
      cases u5
      case cons r2 u6 =>
       cases u6
       case nil =>
        exact ⟨l,q,q2,r,r2,p,rfl,h⟩
       all_goals exact absurd h aa
      all_goals exact absurd h aa
     all_goals exact absurd h aa
    all_goals exact absurd h aa
   all_goals exact absurd h aa
  all_goals exact absurd h aa
 all_goals exact absurd h aa
theorem Ck {e:Expr} (h:cx S (.and xa) e=true):∃ l p,e=.BoolOp .And l p∧(l.length ≥ 1 && io S xa l)=true:=by
 cases e
 case BoolOp u1 l p =>
  cases u1
  case And  =>
   exact ⟨l,p,rfl,h⟩
  all_goals exact absurd h aa
 all_goals exact absurd h aa
theorem ER {e:Expr} (h:cx S (.or xa) e=true):∃ l p,e=.BoolOp .Or l p∧(l.length ≥ 1 && io S xa l)=true:=by
 cases e
 case BoolOp u1 l p =>
  cases u1
  case Or  =>
   exact ⟨l,p,rfl,h⟩
  all_goals exact absurd h aa
 all_goals exact absurd h aa
theorem Cn {e:Expr} (h:cx S (.ite xc xa xb) e=true):∃ c a b p,e=.IfExp c a b p∧(cx S xc c && cx S xa a && cx S xb b)=true:=by
 cases e
 case IfExp c a b p =>
  exact ⟨c,a,b,p,rfl,h⟩
 all_goals exact absurd h aa
theorem ES {e:Expr} (h:cx S (.sl xa xb xc) e=true):∃ a p q p2 p3,e=.Subscript a (.Slice p q none p2) p3 ∧
  (cx S xa a && (match p with | none=>xb.isNil | some f=>!xb.isNil && cx S xb f) && (match q with | none=>xc.isNil | some f=>!xc.isNil && cx S xc f))=true:=by
 cases e
 case Subscript a u1 p3 =>
  cases u1
  case Slice p q u2 p2 =>
   cases u2
   case none  =>
    exact ⟨a,p,q,p2,p3,rfl,h⟩
   all_goals exact absurd h aa
  all_goals exact absurd h aa
 all_goals exact absurd h aa
theorem Co {e:Expr} (h:cx S (.rsl xa) e=true):∃ a n k p1 p2 p3 p4,e=.Subscript a (.Slice none none (some (.UnaryOp .USub (.Constant (.int n) k p1) p2)) p3) p4∧(decide (n=1) && cx S xa a)=true:=by
 cases e
 case Subscript a u1 p4 =>
  cases u1
  case Slice u2 u3 u4 p3 =>
   cases u2
   case none  =>
    cases u3
    case none  =>
     cases u4
     case some u5 =>
      cases u5
      case UnaryOp u6 u7 p2 =>
       cases u6
       case USub  =>
        cases u7
        case Constant u8 k p1 =>
         cases u8
         case int n =>
          exact ⟨a,n,k,p1,p2,p3,p4,rfl,h⟩
         all_goals exact absurd h aa
        all_goals exact absurd h aa
       all_goals exact absurd h aa
      all_goals exact absurd h aa
     all_goals exact absurd h aa
    all_goals exact absurd h aa
   all_goals exact absurd h aa
  all_goals exact absurd h aa
 all_goals exact absurd h aa
theorem Cp {e:Expr} (h:cx S (.ssl xa xb) e=true):∃ a f p3 p4,e=.Subscript a (.Slice none none (some f) p3) p4∧(!xb.isNil && cx S xa a && cx S xb f)=true:=by
 cases e
 case Subscript a u1 p4 =>
  cases u1
  case Slice u2 u3 u4 p3 =>
   cases u2
   case none  =>
    cases u3
    case none  =>
     cases u4
     case some f =>
      exact ⟨a,f,p3,p4,rfl,h⟩
     all_goals exact absurd h aa
    all_goals exact absurd h aa
   all_goals exact absurd h aa
  all_goals exact absurd h aa
 all_goals exact absurd h aa
theorem ET {e:Expr} (h:cx S (.ix xa xb) e=true):∃ a f p,e=.Subscript a f p∧(cO f && cx S xa a && cx S xb f)=true:=by
 cases e
 case Subscript a f p =>
  exact ⟨a,f,p,rfl,h⟩
 all_goals exact absurd h aa
theorem zi {j:Nat} {e:Expr} (h:cx S (.call j xa) e=true):∃ x p l p2,e=.Call (.Name x p) l [] p2∧(!S.hot && decide (S.cs[j]?=some x) && dc S.sc x && fN x && io S xa l)=true:=by
 cases e
 case Call u1 l u2 p2 =>
  cases u1
  case Name x p =>
   cases u2
   case nil =>
    exact ⟨x,p,l,p2,rfl,h⟩
   all_goals exact absurd h aa
  all_goals exact absurd h aa
 all_goals exact absurd h aa
theorem EU {f:BI} {e:Expr} (h:cx S (.bi f xa) e=true):∃ x p l p2,e=.Call (.Name x p) l [] p2∧(!S.hot && decide (x=f.nm) && dc S.sc x && l.length ≥ 1 && io S xa l)=true:=by
 cases e
 case Call u1 l u2 p2 =>
  cases u1
  case Name x p =>
   cases u2
   case nil =>
    exact ⟨x,p,l,p2,rfl,h⟩
   all_goals exact absurd h aa
  all_goals exact absurd h aa
 all_goals exact absurd h aa
theorem zj {e:Expr} (h:cx S (.tupI xa) e=true):∃ x p a p2,e=.Call (.Name x p) [a] [] p2∧(!S.hot && decide (x="tuple") && dc S.sc x && b8 a && mL S xa a)=true:=by
 cases e
 case Call u1 u2 u3 p2 =>
  cases u1
  case Name x p =>
   cases u2
   case cons a u4 =>
    cases u4
    case nil =>
     cases u3
     case nil =>
      exact ⟨x,p,a,p2,rfl,h⟩
     all_goals exact absurd h aa
    all_goals exact absurd h aa
   all_goals exact absurd h aa
  all_goals exact absurd h aa
 all_goals exact absurd h aa
theorem zk {e:Expr} (h:cx S (.lstI xa) e=true):∃ x p a p2,e=.Call (.Name x p) [a] [] p2∧(!S.hot && decide (x="list") && dc S.sc x && b8 a && mL S xa a)=true:=by
 cases e
 case Call u1 u2 u3 p2 =>
  cases u1
  case Name x p =>
   cases u2
   case cons a u4 =>
    cases u4
    case nil =>
     cases u3
     case nil =>
      exact ⟨x,p,a,p2,rfl,h⟩
     all_goals exact absurd h aa
    all_goals exact absurd h aa
   all_goals exact absurd h aa
  all_goals exact absurd h aa
 all_goals exact absurd h aa
theorem zl {e:Expr} (h:cx S (.sset xa) e=true):∃ x p y p2 a p3 p4,e=.Call (.Name x p) [.Call (.Name y p2) [a] [] p3] [] p4∧(!S.hot && decide (x="sorted") && decide (y="set") && dc S.sc x && dc S.sc y && b8 a && cx S xa a)=true:=by
 cases e
 case Call u1 u2 u3 p4 =>
  cases u1
  case Name x p =>
   cases u2
   case cons u4 u5 =>
    cases u4
    case Call u6 u7 u8 p3 =>
     cases u6
     case Name y p2 =>
      cases u7
      case cons a u9 =>
       cases u9
       case nil =>
        cases u8
        case nil =>
         cases u5
         case nil =>
          cases u3
          case nil =>
           exact ⟨x,p,y,p2,a,p3,p4,rfl,h⟩
          all_goals exact absurd h aa
         all_goals exact absurd h aa
        all_goals exact absurd h aa
       all_goals exact absurd h aa
      all_goals exact absurd h aa
     all_goals exact absurd h aa
    all_goals exact absurd h aa
   all_goals exact absurd h aa
  all_goals exact absurd h aa
 all_goals exact absurd h aa
theorem zm {j:Nat} {e:Expr} (h:cx S (.calD j xa) e=true):∃ x p l p2,e=.Call (.Name x p) l [] p2∧(!S.hot && decide (S.cs[j]?=some x) && dc S.sc x && fN x && l.length ≥ 1 && io S xa l)=true:=by
 cases e
 case Call u1 l u2 p2 =>
  cases u1
  case Name x p =>
   cases u2
   case nil =>
    exact ⟨x,p,l,p2,rfl,h⟩
   all_goals exact absurd h aa
  all_goals exact absurd h aa
 all_goals exact absurd h aa
theorem zn {j:Nat} {e:Expr} (h:cx S (.calS j xa) e=true):∃ x p l p2,e=.Call (.Name x p) l [] p2∧(!S.hot && decide (S.cs[j]?=some x) && dc S.sc x && fN x && l.length ≥ 1 && io S xa l)=true:=by
 cases e
 case Call u1 l u2 p2 =>
  cases u1
  case Name x p =>
   cases u2
   case nil =>
    exact ⟨x,p,l,p2,rfl,h⟩
   all_goals exact absurd h aa
  all_goals exact absurd h aa
 all_goals exact absurd h aa
theorem Cq {f:BI} {e:Expr} (h:cx S (.rdl f xa) e=true):∃ x p a p2,e=.Call (.Name x p) [a] [] p2∧(!S.hot && decide (x=f.nm) && dc S.sc x && b8 a && cx S xa a)=true:=by
 cases e
 case Call u1 u2 u3 p2 =>
  cases u1
  case Name x p =>
   cases u2
   case cons a u4 =>
    cases u4
    case nil =>
     cases u3
     case nil =>
      exact ⟨x,p,a,p2,rfl,h⟩
     all_goals exact absurd h aa
    all_goals exact absurd h aa
   all_goals exact absurd h aa
  all_goals exact absurd h aa
 all_goals exact absurd h aa
theorem Cs {b:Bool} {e:Expr} (h:cx S (.inl b xa xb) e=true):∃ l q r p,e=.Compare l [q] [r] p∧(vM (if b=true then .notin else .isin) q && jT (if b=true then .notin else .isin) r && cx S xa l && cx S xb r)=true:=by
 cases e
 case Compare l u1 u2 p =>
  cases u1
  case cons q u3 =>
   cases u3
   case nil =>
    cases u2
    case cons r u4 =>
     cases u4
     case nil =>
      exact ⟨l,q,r,p,rfl,h⟩
     all_goals exact absurd h aa
    all_goals exact absurd h aa
   all_goals exact absurd h aa
  all_goals exact absurd h aa
 all_goals exact absurd h aa
theorem Cu {e:Expr} (h:cx S (.ixl xa xb) e=true):∃ a f p,e=.Subscript a f p∧(cO f && cx S xa a && cx S xb f)=true:=by
 cases e
 case Subscript a f p =>
  exact ⟨a,f,p,rfl,h⟩
 all_goals exact absurd h aa
theorem Cv {c f:Str} {e:Expr} (h:cx S (.fld c f xa) e=true):∃ a nm p,e=.Attribute a nm p∧(decide (nm=f) && S.fl.contains (c,f) && cM a && cx S xa a)=true:=by
 cases e
 case Attribute a nm p =>
  exact ⟨a,nm,p,rfl,h⟩
 all_goals exact absurd h aa
theorem zo {e:Expr} (h:cx S (.popl xa) e=true):∃ a nm apos cpos,e=.Call (.Attribute a nm apos) [] [] cpos∧(decide (nm="pop") && (apos.endLine == cpos.line) && cM a && cx S xa a)=true:=by
 cases e
 case Call u1 u2 u3 cpos =>
  cases u1
  case Attribute a nm apos =>
   cases u2
   case nil =>
    cases u3
    case nil =>
     exact ⟨a,nm,apos,cpos,rfl,h⟩
    all_goals exact absurd h aa
   all_goals exact absurd h aa
  all_goals exact absurd h aa
 all_goals exact absurd h aa
theorem EV {m:MI} {e:Expr} (h:cx S (.rm m xa xb) e=true):∃ a nm apos f cpos,e=.Call (.Attribute a nm apos) [f] [] cpos∧(m.txt && decide (nm=m.nm) && (apos.endLine == cpos.line) && cM a && b8 f && cx S xa a && cx S xb f)=true:=by
 cases e
 case Call u1 u2 u3 cpos =>
  cases u1
  case Attribute a nm apos =>
   cases u2
   case cons f u4 =>
    cases u4
    case nil =>
     cases u3
     case nil =>
      exact ⟨a,nm,apos,f,cpos,rfl,h⟩
     all_goals exact absurd h aa
    all_goals exact absurd h aa
   all_goals exact absurd h aa
  all_goals exact absurd h aa
 all_goals exact absurd h aa
theorem zp {e:Expr} (h:cx S (.popk xa xb) e=true):∃ a nm apos f cpos,e=.Call (.Attribute a nm apos) [f] [] cpos∧(decide (nm="pop") && (apos.endLine == cpos.line) && cM a && b8 f && cx S xa a && cx S xb f)=true:=by
 cases e
 case Call u1 u2 u3 cpos =>
  cases u1
  case Attribute a nm apos =>
   cases u2
   case cons f u4 =>
    cases u4
    case nil =>
     cases u3
     case nil =>
      exact ⟨a,nm,apos,f,cpos,rfl,h⟩
     all_goals exact absurd h aa
    all_goals exact absurd h aa
   all_goals exact absurd h aa
  all_goals exact absurd h aa
 all_goals exact absurd h aa
theorem Cw {c m:Str} {j:Nat} {e:Expr} (h:cx S (.mth c m j xa xb) e=true):∃ a nm apos l cpos,e=.Call (.Attribute a nm apos) l [] cpos ∧
  (!S.hot && decide (nm=m) && S.mt.contains (j,c,m) && (apos.endLine == cpos.line) && decide (l.length < 30) && cM a && cx S xa a && io S xb l)=true:=by
 cases e
 case Call u1 l u2 cpos =>
  cases u1
  case Attribute a nm apos =>
   cases u2
   case nil =>
    exact ⟨a,nm,apos,l,cpos,rfl,h⟩
   all_goals exact absurd h aa
  all_goals exact absurd h aa
 all_goals exact absurd h aa
theorem EW {c:Str} {j:Nat} {e:Expr} (h:cx S (.mk c j xa) e=true):∃ x p l p2,e=.Call (.Name x p) l [] p2∧(!S.hot && decide (x=c) && S.mks.contains (j,c) && dc S.sc x && fN x && l.length ≥ 1 && io S xa l)=true:=by
 cases e
 case Call u1 l u2 p2 =>
  cases u1
  case Name x p =>
   cases u2
   case nil =>
    exact ⟨x,p,l,p2,rfl,h⟩
   all_goals exact absurd h aa
  all_goals exact absurd h aa
 all_goals exact absurd h aa
theorem zq {e:Expr} (h:cx S (.trev xa) e=true):∃ x p y p2 a p3 p4,e=.Call (.Name x p) [.Call (.Name y p2) [a] [] p3] [] p4∧(!S.hot && decide (x="tuple") && decide (y="reversed") && dc S.sc x && dc S.sc y && b8 a && cx S xa a)=true:=by
 cases e
 case Call u1 u2 u3 p4 =>
  cases u1
  case Name x p =>
   cases u2
   case cons u4 u5 =>
    cases u4
    case Call u6 u7 u8 p3 =>
     cases u6
     case Name y p2 =>
      cases u7
      case cons a u9 =>
       cases u9
       case nil =>
        cases u8
        case nil =>
         cases u5
         case nil =>
          cases u3
          case nil =>
           exact ⟨x,p,y,p2,a,p3,p4,rfl,h⟩
          all_goals exact absurd h aa
         all_goals exact absurd h aa
        all_goals exact absurd h aa
       all_goals exact absurd h aa
      all_goals exact absurd h aa
     all_goals exact absurd h aa
    all_goals exact absurd h aa
   all_goals exact absurd h aa
  all_goals exact absurd h aa
 all_goals exact absurd h aa
theorem Cy {t:Ty} {e:Expr} (h:cx S (.isi xa t) e=true):∃ x p a y p1 p2,e=.Call (.Name x p) [a,.Name y p1] [] p2∧(decide (x="isinstance") && dc S.sc x && decide (y=Str.ofString t.nm) && dc S.sc y && b8 a && cx S xa a)=true:=by
 cases e
 case Call u1 u2 u3 p2 =>
  cases u1
  case Name x p =>
   cases u2
   case cons a u4 =>
    cases u4
    case cons u5 u6 =>
     cases u5
     case Name y p1 =>
      cases u6
      case nil =>
       cases u3
       case nil =>
        exact ⟨x,p,a,y,p1,p2,rfl,h⟩
       all_goals exact absurd h aa
      all_goals exact absurd h aa
     all_goals exact absurd h aa
    all_goals exact absurd h aa
   all_goals exact absurd h aa
  all_goals exact absurd h aa
 all_goals exact absurd h aa
theorem EX {m:MI} {e:Expr} (h:cx S (.mt m xa xb) e=true):∃ a nm apos l cpos,e=.Call (.Attribute a nm apos) l [] cpos ∧
  (decide (nm=m.nm) && (m.has && decide (l.length=m.args)) && decide (xb.len=m.args) && (apos.endLine == cpos.line) && cM a && cx S xa a && io S xb l)=true:=by
 cases e
 case Call u1 l u2 cpos =>
  cases u1
  case Attribute a nm apos =>
   cases u2
   case nil =>
    exact ⟨a,nm,apos,l,cpos,rfl,h⟩
   all_goals exact absurd h aa
  all_goals exact absurd h aa
 all_goals exact absurd h aa
theorem tY {own:List Nat} {t:T} {e:Expr} (h:cx S (.comp own t xa xc xb) e=true):∃ el tg ite ifs scope p,e=.ListComp el [⟨tg,ite,ifs,0⟩] scope p ∧
  (!S.hot && blkC S.N S.sc scope (kD S.N own) && (T.slots t).all (fun i=>own.contains i) && im ite && nO S xa tg ite && pF { S with sc:=relS scope S.sc,top:=false } t tg && cx { S with sc:=relS scope S.sc,top:=false } xb el &&
   (match ifs with | []=>xc.isNil | [f]=>!xc.isNil && cx { S with sc:=relS scope S.sc,top:=false } xc f | _=>false))=true:=by
 cases e
 case ListComp el u1 scope p =>
  cases u1
  case cons u2 u3 =>
   obtain ⟨tg,ite,ifs,u4⟩:=u2
   cases u4
   case ofNat u5 =>
    cases u5
    case zero =>
     cases u3
     case nil =>
      exact ⟨el,tg,ite,ifs,scope,p,rfl,h⟩
     all_goals exact absurd h aa
    all_goals exact absurd h aa
   all_goals exact absurd h aa
  all_goals exact absurd h aa
 all_goals exact absurd h aa
theorem zr {own:List Nat} {t:T} {j:Nat} {e:Expr} (h:cx S (.comE own t xa j xb) e=true):∃ x px l pc tg ite scope p,e=.ListComp (.Call (.Name x px) l [] pc) [⟨tg,ite,[],0⟩] scope p ∧
  (!S.hot && S.top && blkC S.N S.sc scope (kD S.N own) && (T.slots t).all (fun i=>own.contains i) && im ite && nO S xa tg ite && pF { S with sc:=relS scope S.sc,top:=false } t tg &&
   (decide (S.cs[j]?=some x) && dc (relS scope S.sc) x && fN x && l.length ≥ 1 && io { S with sc:=relS scope S.sc,top:=false } xb l))=true:=by
 cases e
 case ListComp u1 u2 scope p =>
  cases u1
  case Call u3 l u4 pc =>
   cases u3
   case Name x px =>
    cases u4
    case nil =>
     cases u2
     case cons u5 u6 =>
      obtain ⟨tg,ite,u7,u8⟩:=u5
      cases u7
      case nil =>
       cases u8
       case ofNat u9 =>
        cases u9
        case zero =>
         cases u6
         case nil =>
          exact ⟨x,px,l,pc,tg,ite,scope,p,rfl,h⟩
         all_goals exact absurd h aa
        all_goals exact absurd h aa
       all_goals exact absurd h aa
      all_goals exact absurd h aa
     all_goals exact absurd h aa
    all_goals exact absurd h aa
   all_goals exact absurd h aa
  all_goals exact absurd h aa
 all_goals exact absurd h aa
theorem zt {es:List Expr} (h:io S .nil es=true):es=[]:=by
 cases es
 case nil =>
  exact rfl
 all_goals exact absurd h aa
theorem jv:∀ {es:List Expr},io S (.cons xa xb) es=true→∃ a r,es=a :: r∧(b8 a && cx S xa a && io S xb r)=true
 | a :: r,h=>⟨a,r,rfl,h⟩
theorem EY {e:Expr} (h:mL S (.rng1 xa) e=true):∃ x p a p2,e=.Call (.Name x p) [a] [] p2∧(decide (x="range") && dc S.sc x && b8 a && cx S xa a)=true:=by
 cases e
 case Call u1 u2 u3 p2 =>
  cases u1
  case Name x p =>
   cases u2
   case cons a u4 =>
    cases u4
    case nil =>
     cases u3
     case nil =>
      exact ⟨x,p,a,p2,rfl,h⟩
     all_goals exact absurd h aa
    all_goals exact absurd h aa
   all_goals exact absurd h aa
  all_goals exact absurd h aa
 all_goals exact absurd h aa
theorem EZ {e:Expr} (h:mL S (.rng2 xa xb) e=true):∃ x p a b p2,e=.Call (.Name x p) [a,b] [] p2∧(decide (x="range") && dc S.sc x && b8 a && b8 b && cx S xa a && cx S xb b)=true:=by
 cases e
 case Call u1 u2 u3 p2 =>
  cases u1
  case Name x p =>
   cases u2
   case cons a u4 =>
    cases u4
    case cons b u5 =>
     cases u5
     case nil =>
      cases u3
      case nil =>
       exact ⟨x,p,a,b,p2,rfl,h⟩
      all_goals exact absurd h aa
     all_goals exact absurd h aa
    all_goals exact absurd h aa
   all_goals exact absurd h aa
  all_goals exact absurd h aa
 all_goals exact absurd h aa
theorem E0 {tg:Expr} {e:Expr} (h:nO S (.rng1 xa) tg e=true):∃ x p a p2,e=.Call (.Name x p) [a] [] p2∧(decide (x="range") && dc S.sc x && b8 a && cx S xa a)=true:=by
 cases e
 case Call u1 u2 u3 p2 =>
  cases u1
  case Name x p =>
   cases u2
   case cons a u4 =>
    cases u4
    case nil =>
     cases u3
     case nil =>
      exact ⟨x,p,a,p2,rfl,h⟩
     all_goals exact absurd h aa
    all_goals exact absurd h aa
   all_goals exact absurd h aa
  all_goals exact absurd h aa
 all_goals exact absurd h aa
theorem E1 {tg:Expr} {e:Expr} (h:nO S (.rng2 xa xb) tg e=true):∃ x p a b p2,e=.Call (.Name x p) [a,b] [] p2∧(decide (x="range") && dc S.sc x && b8 a && b8 b && cx S xa a && cx S xb b)=true:=by
 cases e
 case Call u1 u2 u3 p2 =>
  cases u1
  case Name x p =>
   cases u2
   case cons a u4 =>
    cases u4
    case cons b u5 =>
     cases u5
     case nil =>
      cases u3
      case nil =>
       exact ⟨x,p,a,b,p2,rfl,h⟩
      all_goals exact absurd h aa
     all_goals exact absurd h aa
    all_goals exact absurd h aa
   all_goals exact absurd h aa
  all_goals exact absurd h aa
 all_goals exact absurd h aa
theorem zu {n:Nat} {tg e:Expr} (h:nO S (.enum xa n) tg e=true):n=0∧∃ el k p1 x p a p2,tg=.Tuple el k p1∧e=.Call (.Name x p) [a] [] p2∧(decide (x="enumerate") && dc S.sc x && b8 a && cx S xa a)=true:=by
 cases n
 case zero =>
  cases tg
  case Tuple el k p1 =>
   cases e
   case Call u1 u2 u3 p2 =>
    cases u1
    case Name x p =>
     cases u2
     case cons a u4 =>
      cases u4
      case nil =>
       cases u3
       case nil =>
        exact ⟨rfl,el,k,p1,x,p,a,p2,rfl,rfl,h⟩
       all_goals exact absurd h aa
      all_goals exact absurd h aa
     all_goals exact absurd h aa
    all_goals exact absurd h aa
   all_goals exact absurd h aa
  all_goals exact absurd h aa
 all_goals exact absurd h aa
theorem E3 {tg:Expr} {e:Expr} (h:nO S (.rng3 xa xb xc) tg e=true):∃ x p a b k p2,e=.Call (.Name x p) [a,b,k] [] p2∧(decide (x="range") && dc S.sc x && b8 a && b8 b && b8 k && cx S xa a && cx S xb b && cx S xc k)=true:=by
 cases e
 case Call u1 u2 u3 p2 =>
  cases u1
  case Name x p =>
   cases u2
   case cons a u4 =>
    cases u4
    case cons b u5 =>
     cases u5
     case cons k u6 =>
      cases u6
      case nil =>
       cases u3
       case nil =>
        exact ⟨x,p,a,b,k,p2,rfl,h⟩
       all_goals exact absurd h aa
      all_goals exact absurd h aa
     all_goals exact absurd h aa
    all_goals exact absurd h aa
   all_goals exact absurd h aa
  all_goals exact absurd h aa
 all_goals exact absurd h aa
theorem wl {n:Nat} {tg e:Expr} (h:nO S (.enumK xa n) tg e=true):∃ el k p1 x p a kw i k2 p3 p4 p2,tg=.Tuple el k p1∧e=.Call (.Name x p) [a] [⟨some kw,.Constant (.int i) k2 p3,p4⟩] p2∧(decide (x="enumerate") && decide (kw="start") && decide (i=(n:Nat)) && decide (n < 1000) && dc S.sc x && b8 a && cx S xa a)=true:=by
 cases tg
 case Tuple el k p1 =>
  cases e
  case Call u1 u2 u3 p2 =>
   cases u1
   case Name x p =>
    cases u2
    case cons a u4 =>
     cases u4
     case nil =>
      cases u3
      case cons u5 u6 =>
       obtain ⟨u7,u8,p4⟩:=u5
       cases u7
       case some kw =>
        cases u8
        case Constant u9 k2 p3 =>
         cases u9
         case int i =>
          cases u6
          case nil =>
           exact ⟨el,k,p1,x,p,a,kw,i,k2,p3,p4,p2,rfl,rfl,h⟩
          all_goals exact absurd h aa
         all_goals exact absurd h aa
        all_goals exact absurd h aa
       all_goals exact absurd h aa
      all_goals exact absurd h aa
     all_goals exact absurd h aa
    all_goals exact absurd h aa
   all_goals exact absurd h aa
  all_goals exact absurd h aa
 all_goals exact absurd h aa
theorem Cz {tg e:Expr} (h:nO S (.zip xa xb) tg e=true):∃ el k p1 x p a b p2,tg=.Tuple el k p1∧e=.Call (.Name x p) [a,b] [] p2∧(decide (x="zip") && dc S.sc x && b8 a && b8 b && cx S xa a && cx S xb b)=true:=by
 cases tg
 case Tuple el k p1 =>
  cases e
  case Call u1 u2 u3 p2 =>
   cases u1
   case Name x p =>
    cases u2
    case cons a u4 =>
     cases u4
     case cons b u5 =>
      cases u5
      case nil =>
       cases u3
       case nil =>
        exact ⟨el,k,p1,x,p,a,b,p2,rfl,rfl,h⟩
       all_goals exact absurd h aa
      all_goals exact absurd h aa
     all_goals exact absurd h aa
    all_goals exact absurd h aa
   all_goals exact absurd h aa
  all_goals exact absurd h aa
 all_goals exact absurd h aa
theorem E4 {tg e:Expr} (h:nO S (.it xa) tg e=true):(im e && cx S xa e)=true:=h
theorem jh:∀ {x:X} {es:List Expr},io S x es=true→es.all b8=true
 | .nil,[],_=>rfl
 | .cons a b,e :: es,h=>by
  have h:(b8 e && cx S a e && io S b es)=true:=h
  simp only [ab] at h
  rw [a0,h.1.1,jh h.2]
  rfl
theorem oj {env:Env} (h:im e=true):∀ x,foldedSetIterable e env x=pure x:=by
 intro x
 cases e <;> first | rfl | cases h
end
end GM


namespace GM
open PySem PySem.Spec L2

def mT (M:Model) (A:Around) (E:Value→Shared→Prop) (Q:Value→Shared→Prop) (acc:Value) (cenv:Env) (r:Result) (s':Shared):Prop :=
 match r with
 | .ok _=>∃ m,s'.heap.Ns cenv.locals m∧∀ h',Heap.SameBut cenv.locals s'.heap h'→Q acc { s' with heap:=h' }
 | .error x=>∃ m,s'.heap.Ns cenv.locals m∧∀ h' m',h'.Ns cenv.locals m'→Heap.SameBut cenv.locals s'.heap h'→wpAny M A (passOn "comprehension.variables-let-go" x cenv:Sem Value) (fun _ _=>False) E { s' with heap:=h' }
theorem sd {M:Model} {A:Around} {E:Value→Shared→Prop} {s:Shared} {env:Env} {e:Expr} {scope:Scope} {pos:Pos} {newAcc first:Sem Value} {g:Comprehension} {gs:List Comprehension} {cl:List (Str × Addr)} {Q:Value→Shared→Prop}
  (hcl:clausesOf e=g :: gs) (hs:∀ x,foldedSetIterable g.iter env x=pure x) (hclos:closureFor scope env=pure cl)
  (hkind:scope.kind=.function) (hnames:∀ x∈scope.names,x.2=.local→scope.names.lookup x.1=some .local)
  (h:wpAny M A first (fun x s₁=>wpAny M A (pyIter x) (fun it s₂=>wpAny M A newAcc (fun acc s₃ =>
   wpAny M A (newFunctionEnv scope env.globals cl [] env.qual none .none (some env)) (fun cenv s₄ =>
    codeAny M A (.compStart e 0 it acc { cenv with scope:=relabel scope env }) (mT M A E Q acc { cenv with scope:=relabel scope env }) s₄) E s₃) E s₂) E s₁) E s) :
  wpAny M A (comprehension e scope env pos newAcc false first none) Q E s:=by
 unfold comprehension
 rw [hclos,hcl]
 refine wpAny_bind (wpAny_mono h (fun x s₁ h₁=>wpAny_bind (wpAny_standAt (wpAny_bind (wpAny_of_eq (hs x) (wpAny_bind (wpAny_holding (wpAny_mono h₁ (fun it s₂ h₂ =>
  wpAny_standIf (wpAny_bind (wpAny_mono h₂ (fun acc s₃ h₃=>wpAny_bind (wpAny_pure (wpAny_bind (wpAny_mono h₃ (fun cenv s₄ h₄=>?_) fun _ _ h'=>h')))) fun _ _ h'=>h')))
   fun _ _ h'=>h'))))))) fun _ _ h'=>h')
 dsimp only
 have hv:∀ x∈(scope.names.filter fun x=>(x.2 == .local || x.2 == .cell) && x.1 != (".0":Str)).reverse,x.2=.local →
   Env.kindOf { cenv with scope:=relabel scope env } x.1=some .local:=fun x hx hl=>lookup_relabel_local (hnames x (List.mem_filter.mp (List.mem_reverse.mp hx)).1 hl)
 have hv':∀ x∈(scope.names.filter fun x=>(x.2 == .local || x.2 == .cell) && x.1 != (".0":Str)).reverse.drop 1++(scope.names.filter fun x=>(x.2 == .local || x.2 == .cell) && x.1 != (".0":Str)).reverse.take 1,
   x.2=.local→Env.kindOf { cenv with scope:=relabel scope env } x.1=some .local:=fun x hx hl=>by
  rcases aR.mp hx with h1 | h1
  ·exact hv x (List.mem_of_mem_drop h1) hl
  ·exact hv x (List.mem_of_mem_take h1) hl
 refine wpAny_holding (wpAny_bind (wpAny_attempt (wpAny_holding (wpAny_run (codeAny_mono h₄ fun r s' hr=>?_)))))
 cases r with
 | ok f =>
  obtain ⟨m,hn,hr⟩:=hr
  exact wpAny_bind (wpAny_holding (wpAny_comp_letGo (cenv:={ cenv with scope:=relabel scope env }) hkind _ s' m hv hn fun h' m' _ hs'=>wpAny_pure (hr h' hs')))
 | error x =>
  obtain ⟨m,hn,hr⟩:=hr
  exact wpAny_bind (wpAny_holding (wpAny_comp_letGo (cenv:={ cenv with scope:=relabel scope env }) hkind _ s' m hv hn fun h' m' hn' hs'=>wpAny_mono (hr h' m' hn' hs') (fun _ _ f=>f.elim) fun _ _ y=>y))

theorem om {M:Model} {A:Around} {E:Value→Shared→Prop} {s:Shared} {Z:Obj→Prop} {base:Heap} {env:Env} {outer:List Env} {L C e:Addr} {Q:Unit→Shared→Prop} (hZ:HandSPX.Steady Z) (hfr:A.frames=some (env :: outer)) (hf:env.frame=some L) (hne:C≠L) (hfl:HandSPX.HeldZ base (env :: outer) e Z C s.heap)
  (hQ:∀ h',HandSPX.HeldZ base (env :: outer) e Z L h'→s.heap.UpToSlots h'→Q () { s with heap:=h' }):wpAny M A (noteFrame (.ref e) env) Q E s:=by
 obtain ⟨hkb,hen,hl,oe,vs,T,oT,ts,he,hz,hd,h1,hnT,hTe,hT,hdT,h3⟩:=hfl
 unfold noteFrame
 simp only [hf]
 refine wpAny_bind (wpAny_field he hd h1 ?_)
 rw [aj (show (Value.ref T != Value.none)=true from by simp)]
 refine wpAny_bind (wpAny_field hT hdT h3 ?_)
 rw [aq (show ¬ ((rawInt C == rawInt L)=true) from by simp only [rawInt]; intro q; exact hne (by have:=bY.mp q; injection this with q1; exact Int.ofNat.inj q1))]
 refine wpAny_bind (wpAny_setField hT hdT (bA.mp h3).1 ?_)
 have other:∀ b,b≠T→(s.heap.update T (Obj.mapFields (·.setIfInBounds 3 Value.none))).get? b=s.heap.get? b:=fun b hb=>Heap.get?_update_other _ _ (Ne.symm hb)
 have noRecord:∀ b o,s.heap.get? b=some o→(∀ vs,o.data≠.fields vs)→b≠T:=fun b o hb hnf q=>by
  rw [q,hT] at hb; injection hb with hb; subst hb; exact hnf ts hdT
 refine HandSPX.wpAny_entryZ hZ hfr (hl.of_keeps fun b o hb hnf=>⟨o,(other b (noRecord b o hb hnf)).trans hb,rfl⟩) hf ((other e (Ne.symm hTe)).trans he)
  (fun b o hbo=>(other b fun q=>by rw [q,hnT] at hbo; cases hbo).trans (hkb b o hbo)) hen hd (bA.mp h1).1 hz fun h' hN=>?_
 obtain ⟨x1,x2,x3,x4⟩:=hN
 exact hQ h' ⟨x1,hen,x2,x3⟩ fun b o hb hnf=>x4 b o ((other b (noRecord b o hb hnf)).trans hb) hnf
theorem tZ (e:Value) {cenv env:Env} (h:cenv.frame=env.frame):noteFrame e cenv=noteFrame e env:=by
 unfold noteFrame frameOf
 rw [h]

abbrev blkE (X:Cx) (s:Shared) (H:Hp) (scope:Scope) (cenv:Env) (fp:List Addr) (xe:Value→Shared→Prop):Cx:={ X.blk s H scope cenv fp with xe:=xe }
theorem se {X:Cx} {W:WX} {pins:List (Addr × Obj)} {σ:St} {H3:Hp} {s3:Shared} {scope:Scope} {ce:Env} {fp:List Addr} {Q:Value→Shared→Prop} {acc:Value} (tk:Takes X W) (hst:X.stack=X.env :: X.outer) (hfr:X.env.frame=some X.env.locals)
  (I3:Inv X pins σ H3 s3) (f3:∀ b∈fp,FpOk X pins H3 b∧b < s3.heap.objs.size) (hC:ce.locals=s3.heap.objs.size) (hcf:ce.frame=X.env.frame) :
  Takes (blkE X s3 H3 scope ce fp (notedBy (model X.prog X.w) X.A ce fun e s'=>mT (model X.prog X.w) X.A X.xe Q acc ce (.error e) s')) (fun c d _ H'=>W c d σ H'):=by
 rintro u s' ⟨a,B,sI,pins',σi,Hi,cls,d,rfl,I,nb,up,sky,na,os,ag,w⟩
 have hfrm:X.A.frames=some (X.env :: X.outer):=by rw [I3.ok.frames,hst]
 obtain ⟨m,hn,_⟩:=I.loc
 have hn:sI.heap.Ns ce.locals m:=hn
 have nC:Hi ce.locals=none:=I.free
 have FC:FpOk X pins Hi ce.locals:=by
  rw [hC]
  exact I3.fpOk (ax _) (by rw [← hC]; exact nC)
 have CL:ce.locals≠X.env.locals:=FC.2.1
 have I7:Inv X pins σ Hi sI:=I3.call' (ch:=fp) I.os I.base I.hok I.bare fun b hb=>⟨(f3 b hb).1.2.2.2.1,(f3 b hb).1.2.1,(f3 b hb).1.2.2.2.2.1,(f3 b hb).1.2.2.2.2.2⟩
 have sky:Sky B X.stack a (Zc cls d) ce.locals s'.heap:=sky
 have nb:∀ b o,sI.heap.get? b=some o→b∉frs X.stack→B.get? b=some o:=nb
 show wpAny (model X.prog X.w) X.A (noteFrame (.ref a) ce) (fun _ s1=>mT (model X.prog X.w) X.A X.xe Q acc ce (.error (.ref a)) s1) _ s'
 rw [tZ _ hcf]
 have fin:∀ h1,HandSPX.HeldZ B (X.env :: X.outer) a (Zc cls d) X.env.locals h1→s'.heap.UpToSlots h1→mT (model X.prog X.w) X.A X.xe Q acc ce (.error (.ref a)) { s' with heap:=h1 }:=fun h1 hh u1=>by
  obtain ⟨oL,es,ep,hoL,hdL,r⟩:=hn
  obtain ⟨sl1,e1⟩:=up _ oL hoL fun vs q=>by rw [hdL] at q; cases q
  obtain ⟨sl2,e2⟩:=u1 _ _ e1 fun vs q=>by rw [show _=oL.data from rfl,hdL] at q; cases q
  refine ⟨m,⟨_,es,ep,e2,hdL,r⟩,fun h2 m2 hn2 sb=>?_⟩
  have k2:∀ b o,h1.get? b=some o→b≠ce.locals→h2.get? b=some o:=fun b o e hb=>(sb.2 b hb).trans e
  obtain ⟨b1,b0,f1,oe,vs,T,oT,ts,he,hz,hd,h1',hnT,hTe,hT,hdT,h3⟩:=hh
  have neE:a≠ce.locals:=fun q=>by
   rw [q,e2] at he
   cases he
   rw [show _=oL.data from rfl,hdL] at hd
   cases hd
  have neT:T≠ce.locals:=fun q=>by
   rw [q,e2] at hT
   cases hT
   rw [show _=oL.data from rfl,hdL] at hdT
   cases hdT
  have hidN:∀ {h:Heap},(PySem.W.hideAll h [ce.locals]).get? ce.locals=none:=fun {h}=>PySem.W.hideAll_none _ (ah.mpr rfl)
  have hidG:∀ {h:Heap} {b:Addr} {o:Obj},h.get? b=some o→b≠ce.locals→(PySem.W.hideAll h [ce.locals]).get? b=some o:=fun {h b o} e hb=>PySem.W.hideAll_get _ e fun q=>hb (ah.mp q)
  have hidO:∀ {h:Heap} {b:Addr} {o:Obj},(PySem.W.hideAll h [ce.locals]).get? b=some o→h.get? b=some o∧b≠ce.locals:=fun {h b o} e=>⟨PySem.W.of_hideAll _ e,fun q=>by rw [q,hidN] at e; cases e⟩
  have hidZ:∀ {h:Heap} {b:Addr},h.get? b=none→(PySem.W.hideAll h [ce.locals]).get? b=none:=fun {h b} e=>by
   cases q:(PySem.W.hideAll h [ce.locals]).get? b with
   | none=>rfl
   | some o=>rw [(hidO q).1] at e; cases e
  have held2:HandSPX.HeldZ (PySem.W.hideAll B [ce.locals]) (X.env :: X.outer) a (Zc cls d) X.env.locals h2:=by
   refine ⟨fun b o hb=>k2 b o (b1 b o (hidO hb).1) (hidO hb).2,hidZ b0,Heap.FunFrames.sameBut sb hn2 (funFrames_none f1 fun L hL=>hidZ ?_),oe,vs,T,oT,ts,k2 _ _ he neE,hz,hd,h1',hidZ hnT,hTe,k2 _ _ hT neT,hdT,h3⟩
   exact (f1.mem hL).1
  unfold passOn
  refine wpAny_bind (wpAny_field (k2 _ _ he neE) hd h1' ?_)
  rw [aq (show ¬ ((Value.ref T == Value.none)=true) from by simp)]
  rw [hcf,hfr]
  refine wpAny_bind (HandSPX.setFlight_onZ held2 fun h3 hh3 u3=>?_)
  refine wpAny_throw ?_
  refine tk _ _ ⟨a,PySem.W.hideAll B [ce.locals],{ sI with heap:=PySem.W.hideAll sI.heap [ce.locals],toks:=sI.toks },pins,σ,Hi,cls,d,rfl,I7.turned (it:=ce.locals) (fun b o hb e=>hidG e hb) nC CL FC.2.2.2.1 FC.2.2.2.2.1 FC.2.2.2.2.2,fun b o e hb=>hidG (nb b o (hidO e).1 hb) (hidO e).2,fun b o e hd=>?_,?_,na,os,ag,w⟩
  ·obtain ⟨x1,y1⟩:=hidO e
   obtain ⟨sa,ea⟩:=up b o x1 hd
   obtain ⟨sb',eb⟩:=u1 b _ ea hd
   obtain ⟨sc,ec⟩:=u3 b _ (k2 b _ eb y1) hd
   exact ⟨sc,ec⟩
  ·rw [hst]
   exact .inr (.inr hh3)
 rw [hst] at sky
 rcases sky with ⟨hB,hn',hl,oe,vs,he,hz,hd,h1⟩ | fl | hh
 ·exact HandSPX.look_newZ Zc.steady hfrm hl hfr he hB hn' hd h1 hz fin
 ·exact HandSPX.looks_onZ Zc.steady hfrm hfr fl fin
 ·exact om Zc.steady hfrm hfr CL hh fin
section
variable {X:Cx}
theorem t0 {W:WX} {pins:List (Addr × Obj)} {s:Shared} {σ:St} {H:Hp} {Q:VK} {elt tg iter:Expr} {ifs:List Expr} {scope:Scope} {own:List (Str × Nat)} {pos pos':Pos} {wi:TI} {g:TG} {tt:TT} {te:TE} {Qf:Value→Shared→Prop}
  (tk:Takes X W) (hst:X.stack=X.env :: X.outer) (hfr:X.env.frame=some X.env.locals)
  (hc:X.calm=true) (hN:X.N.Nodup) (I:Inv X pins σ H s) (hi:PI X tg iter wi) (ok:BlkOk X.N X.env.scope scope own)
  (hg:∀ (s:Shared) (H:Hp) (C:Addr) (cl:List (Str × Addr)) (fp:List Addr) (xe:Value→Shared→Prop),Takes (blkE X s H scope (compEnvC scope cl C X.env) fp xe) (fun c d _ H'=>W c d σ H')→PG (blkE X s H scope (compEnvC scope cl C X.env) fp xe) tg g)
  (ht:∀ (s:Shared) (H:Hp) (C:Addr) (cl:List (Str × Addr)) (fp:List Addr) (xe:Value→Shared→Prop),Takes (blkE X s H scope (compEnvC scope cl C X.env) fp xe) (fun c d _ H'=>W c d σ H')→PTs (blkE X s H scope (compEnvC scope cl C X.env) fp xe) ifs tt)
  (he:∀ (s:Shared) (H:Hp) (C:Addr) (cl:List (Str × Addr)) (fp:List Addr) (xe:Value→Shared→Prop),Takes (blkE X s H scope (compEnvC scope cl C X.env) fp xe) (fun c d _ H'=>W c d σ H')→PE (blkE X s H scope (compEnvC scope cl C X.env) fp xe) elt te)
  (hs:∀ x,foldedSetIterable iter X.env x=pure x)
  (h:tLc wi g tt te (own.map (·.2)) σ H Q)
  (hRR:∀ D ce s' m H',Inv X pins σ H' s'→Q (.ref D) H'→s'.heap.Ns ce.locals m→FpOk X pins H' ce.locals→mT (model X.prog X.w) X.A X.xe Qf (.ref D) ce (.ok .next) s') :
  wpAny (model X.prog X.w) X.A (comprehension (.ListComp elt [⟨tg,iter,ifs,0⟩] scope pos) scope X.env pos' (newList []) false (eval iter X.env) none) Qf X.xe s:=by
 have hfree:∀ y∈scope.names,y.2=.free→∃ c,X.env.cells.lookup y.1=some c:=fun y hy e=>by
  rcases ok.free y hy e with k | k
  ·exact I.ok.has _ (.inl k)
  ·exact I.ok.has _ (.inr k)
 refine sd rfl hs (closure_ok hfree) ok.kind (fun y hy e=>by rw [ok.uniq y hy,e])
  (thn (hi.run pins s σ H _ I h) fun xv s1 hx=>thn hx fun itv s2 h2=>?_)
 obtain ⟨it,fp,tn,J,H2,e,I2,T,st2,f2,q⟩:=h2
 subst e
 refine wpAny_newObj_type (newEnv_comp ?_) (by show 0≤sizeLine; decide)
 generalize hD:s2.heap.objs.size=D
 have hDn:H2 D=none:=I2.hok.fresh (Nat.le_of_eq hD)
 obtain ⟨W0,⟨m0,w0⟩,turn⟩:=q D hDn
 generalize hs3:({ s2 with heap:=s2.heap.push { cls:=.type "list",data:=.seq ([]:List Value).toArray } }:Shared)=s3
 have I3:Inv X pins σ (upd H2 D (.lst [])) s3:=by
  rw [← hs3]
  refine I2.laid (t':=s2.toks) (fun b o e=>Heap.get?_push_of_some _ e) (Nat.le_of_eq hD) ⟨aW _,[],0,.nil,?_⟩
  rw [← hD]
  exact Heap.get?_push_size _ rfl
 have h3:s3.heap=s2.heap.push { cls:=.type "list",data:=.seq ([]:List Value).toArray }:=by rw [← hs3]
 have sz:∀ b∈fp,b < s2.heap.objs.size:=fun b hb=>by
  obtain ⟨o,e,_⟩:=T.obj _ _ st2 b hb
  exact Heap.lt_size e
 have f3:∀ b∈fp,FpOk X pins (upd H2 D (.lst [])) b∧b < s3.heap.objs.size:=fun b hb=>by
  have hlt:=sz b hb
  refine ⟨⟨?_,(f2 b hb).2⟩,by rw [h3,Heap.size_push]; exact bC hlt⟩
  rw [upd_ne (by rw [← hD]; exact aX hlt)]
  exact (f2 b hb).1
 have st3:tn 0 s3.heap:=T.keep _ _ _ st2 fun b _ o e=>by rw [h3]; exact Heap.get?_push_of_some _ e
 have I4:=block_start I3 ok hN f3
 have hcfr:∀ cl:List (Str × Addr),(compEnvC scope cl s3.heap.objs.size X.env).frame=X.env.frame:=fun _=>rfl
 have tkB:=se (scope:=scope) (ce:=compEnvC scope (cellsFrom (s3.heap.objs.size+1) scope.names (cloFrom X.env.cells scope.names [])) s3.heap.objs.size X.env) (Q:=Qf) (acc:=.ref D) tk hst hfr I3 f3 rfl rfl
 have pg:=hg s3 (upd H2 D (.lst [])) s3.heap.objs.size (cellsFrom (s3.heap.objs.size+1) scope.names (cloFrom X.env.cells scope.names [])) fp _ tkB
 have pt:=ht s3 (upd H2 D (.lst [])) s3.heap.objs.size (cellsFrom (s3.heap.objs.size+1) scope.names (cloFrom X.env.cells scope.names [])) fp _ tkB
 have pe:=he s3 (upd H2 D (.lst [])) s3.heap.objs.size (cellsFrom (s3.heap.objs.size+1) scope.names (cloFrom X.env.cells scope.names [])) fp _ tkB
 show codeAny _ _ (.compStart (.ListComp elt [⟨tg,iter,ifs,0⟩] scope pos) 0 (.ref it) (.ref D) (compEnvC scope (cellsFrom (s3.heap.objs.size+1) scope.names (cloFrom X.env.cells scope.names [])) s3.heap.objs.size X.env)) (mT (model X.prog X.w) X.A X.xe Qf (.ref D) (compEnvC scope (cellsFrom (s3.heap.objs.size+1) scope.names (cloFrom X.env.cells scope.names [])) s3.heap.objs.size X.env)) { s3 with heap:=pushCells (s3.heap.push { cls:=.type "dict",data:=.dict #[] }) scope.names }
 have nfp:∀ b∈fp,(upd H2 D (.lst [])) b=none:=fun b hb=>(f3 b hb).1.1
 clear tkB
 generalize hce:compEnvC scope (cellsFrom (s3.heap.objs.size+1) scope.names (cloFrom X.env.cells scope.names [])) s3.heap.objs.size X.env=ce at I4 pg pt pe ⊢
 have cL:ce.locals=s3.heap.objs.size:=by subst hce; rfl
 generalize hH3:upd H2 D (.lst [])=H3 at I3 I4 pg pt pe w0 nfp f3
 generalize hs4:({ s3 with heap:=pushCells (s3.heap.push { cls:=.type "dict",data:=.dict #[] }) scope.names }:Shared)=s4 at I4 ⊢
 have I4:Inv (blkE X s3 H3 scope ce fp (notedBy (model X.prog X.w) X.A ce fun e s'=>mT (model X.prog X.w) X.A X.xe Qf (.ref D) ce (.error e) s')) [] (wipe σ (own.map (·.2))) H3 s4:=by
  have o:=I4.ok
  exact ⟨⟨o.mod,o.kind,o.glob,o.blt,o.above,o.inj,o.has,o.cab,o.hd,o.frames,o.stk,o.exf,o.bs,o.bsz,o.noex,o.exfs,o.funs,o.frf⟩,I4.os,I4.bare,I4.base,I4.loc,I4.cell,I4.free,I4.freeC,I4.pin,I4.hok,I4.len⟩
 generalize hxe:(notedBy (model X.prog X.w) X.A ce fun e s'=>mT (model X.prog X.w) X.A X.xe Qf (.ref D) ce (.error e) s')=xe at I4 pg pt pe
 have st4:tn 0 s4.heap:=T.keep _ _ _ st3 fun b _ o e=>by rw [← hs4]; exact pushCells_keeps _ _ _ _ (Heap.get?_push_of_some _ e)
 have stat:∀ {σ':St} {H':Hp} {s':Shared},Inv (blkE X s3 H3 scope ce fp xe) [] σ' H' s'→(∀ b∈fp,H' b=none)→∀ b∈fp,FpOk (blkE X s3 H3 scope ce fp xe) [] H' b:=fun {σ' H' s'} I' hn b hb =>
  ⟨hn b hb,(I'.ok.exf b hb).1,I'.ok.exfs b hb,.inl hb,fun x c e=>(I'.ok.exf b hb).2 x c e,fun p hp=>absurd (show p∈([]:List (Addr × Obj))++[] from hp) (by simp)⟩
 have loop:codeAny (model X.prog X.w) X.A (.compLoop (.ListComp elt [⟨tg,iter,ifs,0⟩] scope pos) 0 (.ref it) (.ref D) ce) (mT (model X.prog X.w) X.A X.xe Qf (.ref D) ce) s4:=by
  refine compLoop_any (fun n s'=>∃ i H',Inv (blkE X s3 H3 scope ce fp xe) [] (wipe σ (own.map (·.2))) H' s'∧tn i s'.heap∧(∀ b∈fp,H' b=none)∧W0 i n H') ?_ m0 ⟨0,H3,I4,st4,nfp,w0⟩
  rintro n s5 ⟨i,H5,I5,st5,n5,w5⟩
  rw [hxe]
  rcases turn i n H5 w5 with ⟨stop,qq⟩ | ⟨go,Nx,hNx,step⟩
  ·have td:=T.done (blkE X s3 H3 scope ce fp xe) rfl rfl rfl hc i [] s5 _ H5 (fun _ _=>False) I5 (stat I5 n5) st5 stop
   refine thnF td fun r s6 ⟨hr,I6⟩=>?_
   subst hr
   have I7:Inv X pins σ H5 s6:=I3.call' (ch:=fp) I6.os I6.base I6.hok I6.bare fun b hb=>⟨(f3 b hb).1.2.2.2.1,(f3 b hb).1.2.1,(f3 b hb).1.2.2.2.2.1,(f3 b hb).1.2.2.2.2.2⟩
   have nC:H5 ce.locals=none:=I6.free
   obtain ⟨m,hn,_⟩:=I6.loc
   have hn:s6.heap.Ns ce.locals m:=hn
   exact hRR D ce s6 m H5 I7 qq hn (I3.fpOk (Nat.le_of_eq cL.symm) nC)
  ·have ti:=T.item (blkE X s3 H3 scope ce fp xe) rfl rfl rfl hc i [] s5 _ H5 (fun _ _=>False) I5 (stat I5 n5) st5 go
   refine thnF ti fun r s6 ⟨u,hr,h6⟩=>?_
   subst hr
   refine thnF h6 fun _ s7 ⟨x,H7,I7,r7,y7,st7,n7⟩=>?_
   have I7':=I7.pinned (stat I7 n7) (T.obj _ _ st7)
   refine thn (pg.run _ s7 _ H7 x u _ I7' r7 (step x H7 y7)) fun _ s8 ⟨σ8,H8,I8,hw8,q8⟩=>?_
   refine thn (pt.run _ s8 σ8 H8 _ I8 q8) fun b s9 ⟨H9,I9,q9⟩=>?_
   have fin:∀ {s':Shared} {H':Hp},Inv (blkE X s3 H3 scope ce fp xe) ([]++pinsAt fp s7.heap) σ8 H' s'→Nx H'→∃ m,m < n∧∃ i H',Inv (blkE X s3 H3 scope ce fp xe) [] (wipe σ (own.map (·.2))) H' s'∧tn i s'.heap∧(∀ b∈fp,H' b=none)∧W0 i m H':=fun {s' H'} I' nx=>by
    obtain ⟨m',hm,w'⟩:=hNx H' nx
    have pin':∀ b∈fp,∀ o,s7.heap.get? b=some o→s'.heap.get? b=some o∧H' b=none:=fun b hb o e =>
     let z:=I'.pin (b,o) (ao _ (ao _ (mem_pinsAt hb e)))
     ⟨z.1,z.2.1⟩
    have hl:(wipe σ (own.map (·.2))).length=σ8.length:=by rw [← hw8,wipe_length]
    refine ⟨m',hm,i+1,H',(I'.unpinned (pins:=[])).weak hl (fun j v e=>?_),T.keep _ _ _ st7 fun b hb o e=>(pin' b hb o e).1,fun b hb=>?_,w'⟩
    ·rw [← hw8] at e
     exact (wipe_some e).1
    ·obtain ⟨o,e,_⟩:=T.obj _ _ st7 b hb
     exact (pin' b hb o e).2
   cases b with
   | false =>
    simp only [Bool.false_eq_true,if_false] at q9 ⊢
    exact fin I9 q9
   | true =>
    simp only [if_true] at q9 ⊢
    refine thn (pe.run _ s9 σ8 H9 _ I9 q9) fun z sX ⟨yv,H10,I10,r10,acc,hD10,hz10,nx⟩=>?_
    exact L2.app_ok (X:=blkE X s3 H3 scope ce fp xe) I10 hD10 hz10 r10 fun vA I11=>fin I11 nx
 exact codeAny_compStart_list loop (T.self X.A 0 _ _ _ st4 loop)
theorem zv {W:WX} {elt tg iter:Expr} {ifs:List Expr} {scope:Scope} {own:List (Str × Nat)} {pos:Pos} {wi:TI} {g:TG} {tt:TT} {te:St→TE}
  (tk:Takes X W) (hst:X.stack=X.env :: X.outer) (hfr:X.env.frame=some X.env.locals)
  (hc:X.calm=true) (hN:X.N.Nodup) (hi:PI X tg iter wi) (ok:BlkOk X.N X.env.scope scope own)
  (hg:∀ (σ:St) (s:Shared) (H:Hp) (C:Addr) (cl:List (Str × Addr)) (fp:List Addr) (xe:Value→Shared→Prop),Takes (blkE X s H scope (compEnvC scope cl C X.env) fp xe) (fun c d _ H'=>W c d σ H')→PG (blkE X s H scope (compEnvC scope cl C X.env) fp xe) tg g)
  (ht:∀ (σ:St) (s:Shared) (H:Hp) (C:Addr) (cl:List (Str × Addr)) (fp:List Addr) (xe:Value→Shared→Prop),Takes (blkE X s H scope (compEnvC scope cl C X.env) fp xe) (fun c d _ H'=>W c d σ H')→PTs (blkE X s H scope (compEnvC scope cl C X.env) fp xe) ifs tt)
  (he:∀ (σ:St) (s:Shared) (H:Hp) (C:Addr) (cl:List (Str × Addr)) (fp:List Addr) (xe:Value→Shared→Prop),Takes (blkE X s H scope (compEnvC scope cl C X.env) fp xe) (fun c d _ H'=>W c d σ H')→PE (blkE X s H scope (compEnvC scope cl C X.env) fp xe) elt (te σ))
  (hs:∀ x,foldedSetIterable iter X.env x=pure x) :
  PE X (.ListComp elt [⟨tg,iter,ifs,0⟩] scope pos) (fun σ H Q=>tLc wi g tt (te σ) (own.map (·.2)) σ H Q):=by
 refine ⟨fun pins s σ H Q I h=>?_⟩
 rw [eval_ListComp]
 refine t0 tk hst hfr hc hN I hi ok (hg σ) (ht σ) (he σ) hs h fun D ce s' m H' I' q hn f=>⟨m,hn,fun h'' sb=>?_⟩
 obtain ⟨f0,f1,f2,f3,f4,f5⟩:=f
 exact ⟨.ref D,H',I'.turned (t':=s'.toks) (fun b o hb e=>(sb.2 b hb).trans e) f0 f1 f3 f4 f5,rfl,q⟩
end
end GM


namespace GM
open PySem PySem.Spec PyProof.Rows L2
section
variable {C:Cx} {S:Sc} {G:Gn} {W:WX} {e f b tg:Expr} {es:List Expr} {pos:Pos} {xa xb xc:X}
theorem jw {fs:List Fn} {gs:List D} {j:Nat} {F:Fn} {l:Lc} {s:cj} {r:R VT} (hf:fs[j]?=some F) (h:fk F (fE fs gs xb F.kp l s) l=r) (hr:r≠.no):b9 fs gs (.call j xb) l s=r:=by
 simp only [b9,hf]
 rw [← h]
 cases ea:fE fs gs xb F.kp l s with
 | ok q=>rfl
 | er a b c =>
  rw [ea] at h
  exact absurd h.symm hr
 | no=>rfl
theorem pT {fs:List Fn} {gs:List D} {F:Fn} {l:Lc} {s:cj} {a:Ex} {b:cj} {c:Lc} (h:fk F (fE fs gs xb F.kp l s) l=.er a b c):c=l:=by
 cases ea:fE fs gs xb F.kp l s with
 | ok q =>
  rw [ea] at h
  unfold fk at h
  have h:(match F.run q.1 with | .ok (d,t)=>R.ok (d,t,q.2) | .er e _ _=>.er e q.2 l | .no=>.no)=.er a b c:=h
  split at h
  ·cases h
  ·injection h with h1 h2 h3
   exact h3.symm
  ·cases h
 | er a b c=>rw [ea] at h; cases h
 | no=>rw [ea] at h; cases h
def sf (acc:List GM.D) (r:R (List GM.D × cj)):R (List GM.D × cj):=r.bind fun (ds,s)=>.ok (acc++ds,s)
theorem t4 (r:R (List GM.D × cj)):sf [] r=r:=by
 cases r with
 | ok q=>rfl
 | er a b c=>rfl
 | no=>rfl
theorem zw (B:Gd C S G W) {own:List Nat} {t:T} {j:Nat} (hsl:(T.slots t).all (fun i=>own.contains i)=true):∀ σ H Q,rd G.gm W (.comE own t xa j xb) σ H Q→tLc (nJ G.gm W xa) (gT G.gm t) tYes (rd G.gm (fun c d _ H'=>W c d σ H') (.call j xb)) own σ H Q:=by
 rintro σ H Q ⟨g0,l,s0,SS,h⟩
 have hsl:∀ j,j∉own→j∉T.slots t:=fun j hj q=>by
  have:=bt.mp hsl j q
  exact hj (aL.mp this)
 have h:ValE G.gm W g0 σ l (if (own.all fun i=>match l[i]? with | some (some ⟨.ow,_⟩)=>false | _=>true)=false then .no else (gM G.fs G.gs xa l s0).bind fun (xs,s1) =>
   match G.fs[j]? with
   | none=>.no
   | some f=>if xs.length≤sizeLine then (match dh (fun x s=>match T.put t x (dE l own) with
     | none=>.no
     | some l1=>cg (fk f (fE G.fs G.gs xb f.kp l1 s) l1) (fun d s3=>.ok (some d,s3))) xs s1 with
    | .ok (ds,s2)=>dW (.lst ds) s2
    | .er e s2 _=>.er e s2 l
    | .no=>.no) else .no) Q:=h
 split at h
 ·exact h.elim
 rename_i how
 have how:(own.all fun i=>match l[i]? with | some (some ⟨.ow,_⟩)=>false | _=>true)=true:=by simpa using how
 have how:∀ i∈own,∀ d',l[i]?≠some (some ⟨.ow,d'⟩):=fun i hi d' e=>by
  have:=bt.mp how i hi
  rw [e] at this
  cases this
 refine ⟨g0,l,s0,SS,?_⟩
 have h:ValE G.gm W g0 σ l ((gM G.gm.fs G.gm.gs xa l s0).bind _) Q:=h
 cases e0:gM G.gm.fs G.gm.gs xa l s0 with
 | er a b c =>
  rw [e0] at h
  exact h
 | no =>
  rw [e0] at h
  exact h
 | ok p =>
  obtain ⟨xs,s1⟩:=p
  rw [e0] at h
  cases ef:G.fs[j]? with
  | none =>
   have h:ValE G.gm W g0 σ l (match G.fs[j]? with
   | none=>.no
   | some f=>if xs.length≤sizeLine then (match dh (fun x s=>match T.put t x (dE l own) with
     | none=>.no
     | some l1=>cg (fk f (fE G.fs G.gs xb f.kp l1 s) l1) (fun d s3=>.ok (some d,s3))) xs s1 with
    | .ok (ds,s2)=>dW (.lst ds) s2
    | .er e s2 _=>.er e s2 l
    | .no=>.no) else .no) Q:=h
   rw [ef] at h
   exact h.elim
  | some F =>
   generalize hbd:(fun x s=>match T.put t x (dE l own) with
     | none=>R.no
     | some l1=>cg (fk F (fE G.fs G.gs xb F.kp l1 s) l1) (fun d s3=>R.ok (some d,s3)):GM.D→cj→R (Option GM.D × cj))=body
   have h:ValE G.gm W g0 σ l (match G.fs[j]? with
   | none=>.no
   | some f=>if xs.length≤sizeLine then (match dh (fun x s=>match T.put t x (dE l own) with
     | none=>.no
     | some l1=>cg (fk f (fE G.fs G.gs xb f.kp l1 s) l1) (fun d s3=>.ok (some d,s3))) xs s1 with
    | .ok (ds,s2)=>dW (.lst ds) s2
    | .er e s2 _=>.er e s2 l
    | .no=>.no) else .no) Q:=h
   rw [ef] at h
   have h:ValE G.gm W g0 σ l (if xs.length≤sizeLine then (match dh (fun x s=>match T.put t x (dE l own) with
     | none=>.no
     | some l1=>cg (fk F (fE G.fs G.gs xb F.kp l1 s) l1) (fun d s3=>.ok (some d,s3))) xs s1 with
    | .ok (ds,s2)=>dW (.lst ds) s2
    | .er e s2 _=>.er e s2 l
    | .no=>.no) else .no) Q:=h
   split at h
   case isFalse=>exact h.elim
   rename_i hlen
   rw [hbd] at h
   generalize eR:dh body xs s1=R0 at h
   intro g1 e1 J H1 S1 w L0 hD
   have no:=S1.noown hD
   have hB1:g1.B L0=none:=S1.freeB hD
   have hF1:g1.F.h L0=none∧∀ n,g1.F.m L0≠some n:=⟨S1.freeF hD,S1.freeM hD⟩
   refine ⟨fun i m H=>m=xs.length - i∧i≤xs.length∧∃ g acc accD s',Ext g1 g∧SR G.Y g σ H l s'∧H L0=some (.lst acc)∧(g.F.h L0=none∧∀ n,g.F.m L0≠some n)∧Rps G.Y g.F accD acc∧accD.length=i∧sf accD (dh body (xs.drop i) s')=R0,
    ⟨xs.length,by simp,aW _,g1,[],[],s1,.refl g1,S1.lay hD,upd_same,hF1,.nil,rfl,by rw [t4]; exact eR⟩,?_⟩
   rintro i m H2 ⟨rfl,hi,g2,acc,accD,s',e2,S2,hD2,hF2,r2,ai,ec2⟩
   have hB2:g2.B L0=none:=by rw [e2.b]; exact hB1
   by_cases hlt:i < xs.length
   ·refine .inr ?_
    have SL:=S2.lock hD2 hF2.2 hB2 no
    have eW:ExtW g1 ⟨g2.F,upd g2.B L0 (.lst acc),g2.M⟩:=⟨e2.f,by rw [← e2.b]; exact gq hB2⟩
    obtain ⟨go,yl⟩:=(w _ i σ H2 l s' eW SL).1 xs[i] (ak hlt)
    refine ⟨go,fun H'=>∃ g acc accD s',Ext g1 g∧SR G.Y g σ H' l s'∧H' L0=some (.lst acc)∧(g.F.h L0=none∧∀ n,g.F.m L0≠some n)∧Rps G.Y g.F accD acc∧accD.length=i+1∧sf accD (dh body (xs.drop (i+1)) s')=R0,
     fun H' n=>⟨xs.length - (i+1),by omega,rfl,hlt,n⟩,fun x H3 y=>?_⟩
    obtain ⟨g3,e3,sm3,S3,r3⟩:=yl x H3 y
    have S3w:=S3.wipe own
    rw [List.drop_eq_getElem_cons hlt] at ec2
    have ec2:sf accD ((body xs[i] s').bind (fun (o,s1)=>(dh body (xs.drop (i+1)) s1).bind fun (r,s2)=>.ok (lZ o r,s2)))=R0:=ec2
    have eb:body xs[i] s'=match T.put t xs[i] (dE l own) with
     | none=>R.no
     | some l1=>cg (fk F (fE G.fs G.gs xb F.kp l1 s') l1) (fun d s3=>R.ok (some d,s3)):=by rw [← hbd]
    cases et:T.put t xs[i] (dE l own) with
    | none =>
     rw [et] at eb
     rw [eb] at ec2
     rw [← ec2] at h
     exact h.elim
    | some l1 =>
    rw [et] at eb
    have eb:body xs[i] s'=cg (fk F (fE G.fs G.gs xb F.kp l1 s') l1) (fun d s3=>R.ok (some d,s3)):=eb
    refine ⟨g3,dE l own,s',xs[i],l1,S3w,r3,et,fun σ4 n4 f4 S4=>?_⟩
    have hσ:∀ j,j∉own→σ4[j]?=σ[j]?:=fun j hj=>(f4 j (hsl j hj)).trans (nZ hj)
    have hl:∀ j,j∉own→l1[j]?=l[j]?:=fun j hj=>(mR et j (hsl j hj)).trans (jY hj)
    have n4':σ4.length=σ.length:=n4.trans (wipe_length _ _)
    have hw:L2.wipe σ4 own=L2.wipe σ own:=by
     apply List.ext_getElem?
     intro j
     rw [gR,gR,n4']
     by_cases hj:j∈own
     ·by_cases hj2:j < σ.length
      ·rw [aj ⟨hj,hj2⟩,aj ⟨hj,hj2⟩]
      ·rw [aq fun q=>hj2 q.2,aq fun q=>hj2 q.2,aS (by omega),aS (by omega)]
     ·rw [aq fun q=>hj q.1,aq fun q=>hj q.1,hσ j hj]
    refine ⟨hw,?_⟩
    unfold tYes
    dsimp only
    rw [aj rfl]
    cases er:fk F (fE G.fs G.gs xb F.kp l1 s') l1 with
    | no =>
     rw [er] at eb
     rw [eb] at ec2
     rw [← ec2] at h
     exact h.elim
    | er a b c =>
     obtain rfl:=pT er
     rw [er] at eb
     rw [eb] at ec2
     rw [← ec2] at h
     have h:ValE G.gm W g0 σ l (.er a b l) Q:=h
     refine ⟨g3,c,s',S4,?_⟩
     show ValE G.gm _ g3 σ4 c (b9 G.fs G.gs (.call j xb) c s') _
     rw [jw ef er (by intro q; cases q)]
     intro g' H' cc dd e4 S5 xr
     obtain ⟨U1,U2,U3,U4⟩:=S2.unlock (p:=L0) (o:=.lst acc) hF2.2 hB2 hF2.1 (e3.trans e4) S5 how hσ hl
     exact h _ H' cc dd (e1.trans (e2.trans U2)) U1 xr
    | ok q =>
     have ec:=jw (s:=s') (gs:=G.gs) ef er (by intro q; cases q)
     have eb':body xs[i] s'=cg (b9 G.fs G.gs (.call j xb) l1 s') (fun d s3=>R.ok (some d,s3)):=by rw [ec,← er]; exact eb
     cases eo:body xs[i] s' with
     | no =>
      rw [eo] at ec2
      rw [← ec2] at h
      exact h.elim
     | er a b c =>
      rw [eo,ec] at eb'
      obtain ⟨d,tg2,s3⟩:=q
      have eb':R.er a b c=(if (tg2=.bo∨tg2=.ow)∧d.still=false then R.no else R.ok (some d,s3)):=eb'
      split at eb' <;> cases eb'
     | ok p =>
      obtain ⟨o,s3⟩:=p
      rw [eo] at ec2 eb'
      have hV:ValR G.gm (fun c d _ H'=>W c d σ H') g3 σ4 (cg (b9 G.fs G.gs (.call j xb) l1 s') (fun d s3=>R.ok (some d,s3))) (fun p _=>p=(o,s3)):=by
       rw [← eb']
       exact fun _ _=>rfl
      refine fW S4 hV fun d s6 g6 v H6 e8 S6 r6 q=>?_
      obtain ⟨q1,q2⟩:=bZ (show (some d,s6)=(o,s3) from q g6 (.refl g6))
      subst q1 q2
      obtain ⟨U1,U2,U3,U4⟩:=S2.unlock (p:=L0) (o:=.lst acc) hF2.2 hB2 hF2.1 (e3.trans e8) S6 how hσ hl
      have el:accD.length=acc.length:=r2.length
      have ec3:sf (accD++[d]) (dh body (xs.drop (i+1)) s6)=R0:=by
       rw [← ec2]
       show _=sf accD ((dh body (xs.drop (i+1)) s6).bind fun (r,s2)=>.ok (lZ (some d) r,s2))
       cases dh body (xs.drop (i+1)) s6 with
       | ok z =>
        obtain ⟨z1,z2⟩:=z
        show R.ok ((accD++[d])++z1,z2)=R.ok (accD++(d :: z1),z2)
        rw [aK]
        rfl
       | er a b c=>rfl
       | no=>rfl
      exact ⟨acc,U3,by omega,⟨g6.F,g2.B,g2.M⟩,acc++[v],accD++[d],_,e2.trans U2,U1.wr U4.1 U4.2 hB2 no,upd_same,U4,(r2.mono U2.f).append #v[r6],by rw [ae,ai]; rfl,ec3⟩
   ·have hi2:i=xs.length:=by omega
    refine .inl ⟨(w g2 i σ H2 l s' e2.w S2).2 hi2,?_⟩
    rw [hi2,List.drop_length] at ec2
    have ec2:R.ok (accD++[],s')=R0:=ec2
    rw [aM] at ec2
    rw [← ec2] at h
    have h:ValE G.gm W g0 σ l (dW (.lst accD) s') Q:=h
    exact h g2 _ H2 (e1.trans e2) S2 ⟨L0,rfl,hF2,hB2,.lst hD2 r2,no⟩

theorem Gd.blkE (B:Gd C S G W) (hh:S.hot=false) (scope:Scope) {W':WX} (s:Shared) (H:Hp) (Cc:Addr) (cl:List (Str × Addr)) (fp:List Addr) (xe:Value→Shared→Prop) (tk:Takes (GM.blkE C s H scope (compEnvC scope cl Cc C.env) fp xe) W') :
  Gd (GM.blkE C s H scope (compEnvC scope cl Cc C.env) fp xe) { S with sc:=relS scope S.sc,top:=false } G W' :=
 ⟨B.N,B.nd,(by show relS scope C.env.scope=_; rw [B.sc]),B.cool,B.un,(fun h=>by cases h),tk,B.Y,B.mg,B.fns,B.blt,B.gns,B.exs,B.hns,B.ms,B.fl,B.mt,B.mks,(fun a nm h=>by rw [B.px0 hh] at h; cases h),(fun _=>B.px0 hh),⟨B.rmh.dp,B.rmh.un⟩,B.xs,B.hx,B.xi,B.isc⟩
theorem wm {j:Nat} {x:Str} {px pc:Pos} {l:List Expr} {S2:Sc} (h0:S2.hot=false) (h:(((decide (S2.cs[j]?=some x)=true∧dc S2.sc x=true)∧fN x=true)∧decide (l.length ≥ 1)=true)∧io S2 xb l=true):cx S2 (.call j xb) (.Call (.Name x px) l [] pc)=true:=by
 show (!S2.hot && decide (S2.cs[j]?=some x) && dc S2.sc x && fN x && io S2 xb l)=true
 rw [h0]
 simp only [ab,Bool.not_false,true_and]
 exact ⟨h.1.1,h.2⟩
theorem zx (B:Gd C S G W) (hh:S.hot=false) (ht:S.top=true) {own:List Nat} {t:T} {j:Nat} {scope:Scope} {ite:Expr} (hsl:(T.slots t).all (fun i=>own.contains i)=true) (ok:blkC S.N S.sc scope (kD S.N own)=true)
  (hset:∀ x,foldedSetIterable ite C.env x=pure x) (hi:PI C tg ite (nJ G.gm W xa))
  (hg:∀ (σ:L2.St) (s:Shared) (H:Hp) (Cc:Addr) (cl:List (Str × Addr)) (fp:List Addr) (xe:Value→Shared→Prop),Takes (GM.blkE C s H scope (compEnvC scope cl Cc C.env) fp xe) (fun c d _ H'=>W c d σ H')→PG (GM.blkE C s H scope (compEnvC scope cl Cc C.env) fp xe) tg (gT G.gm t))
  (he:∀ (σ:L2.St) (s:Shared) (H:Hp) (Cc:Addr) (cl:List (Str × Addr)) (fp:List Addr) (xe:Value→Shared→Prop),Takes (GM.blkE C s H scope (compEnvC scope cl Cc C.env) fp xe) (fun c d _ H'=>W c d σ H')→PE (GM.blkE C s H scope (compEnvC scope cl Cc C.env) fp xe) e (rd G.gm (fun c d _ H'=>W c d σ H') (.call j xb))) :
  PE C (.ListComp e [⟨tg,ite,[],0⟩] scope pos) (rd G.gm W (.comE own t xa j xb)):=by
 refine PE.imp (zv (own:=kD S.N own) (tt:=tYes) (te:=fun σ=>rd G.gm (fun c d _ H'=>W c d σ H') (.call j xb)) B.tk (B.top ht).2.1 (B.top ht).2.2 (B.calm hh) (by rw [B.N]; exact B.nd) hi (blkOk_by (by rw [B.N,B.sc]; exact ok)) hg (fun _ _ _ _ _ _ _ _=>pts_nil) he hset) ?_
 rw [lc]
 exact zw B hsl
end

structure Snd (x:X):Prop where
 E:∀ {C:Cx} {S:Sc} {G:Gn} {W:WX} (B:Gd C S G W) (e:Expr),cx S x e=true→PE C e (rd G.gm W x)∧PT C e (js G.gm W x)
 L:∀ {C:Cx} {S:Sc} {G:Gn} {W:WX} (B:Gd C S G W) (es:List Expr),io S x es=true→PA C es (yq G.gm W x)∧∀ kp,PA C es (tF G.gm W x kp)
 B:∀ {C:Cx} {S:Sc} {G:Gn} {W:WX} (B:Gd C S G W) (e:Expr) (es:List Expr) (pos:Pos),io S x (e :: es)=true→PE C (.BoolOp .And (e :: es) pos) (nW G.gm W x)∧PE C (.BoolOp .Or (e :: es) pos) (tG G.gm W x) ∧
  PW C (.BoolOp .And (e :: es) pos) (jX G.gm W x)∧PW C (.BoolOp .Or (e :: es) pos) (md G.gm W x)
 R:∀ {C:Cx} {S:Sc} {G:Gn} {W:WX} (B:Gd C S G W) (e:Expr),mL S x e=true→PRg C e (pJ G.gm W x)
 I:∀ {C:Cx} {S:Sc} {G:Gn} {W:WX} (B:Gd C S G W) (tg e:Expr),nO S x tg e=true→PI C tg e (nJ G.gm W x)
 H1:∀ {a b:X},x=.cons a b→∀ {C:Cx} {S:Sc} {G:Gn} {W:WX} (B:Gd C S G W) (e:Expr),cx S a e=true→PE C e (rd G.gm W a)
 H2:∀ {a b c:X},x=.cons a (.cons b c)→∀ {C:Cx} {S:Sc} {G:Gn} {W:WX} (B:Gd C S G W) (e:Expr),cx S b e=true→PE C e (rd G.gm W b)
 D:∀ {C:Cx} {S:Sc} {G:Gn} {W:WX} (B:Gd C S G W) (ks:List (Option Expr)) (vs:List Expr) (pos:Pos),tv S x ks vs=true→PD C pos ks vs (pR G.gm W x)
 D1:∀ {a b:X},x=.cons a b→∀ {C:Cx} {S:Sc} {G:Gn} {W:WX} (B:Gd C S G W) (ks:List (Option Expr)) (vs:List Expr) (pos:Pos),tv S b ks vs=true→PD C pos ks vs (pR G.gm W b)
theorem Snd.ofE {x:X} (h:∀ {C:Cx} {S:Sc} {G:Gn} {W:WX} (B:Gd C S G W) (e:Expr),cx S x e=true→PE C e (rd G.gm W x)∧PT C e (js G.gm W x))
  (h1:∀ S es,io S x es=false) (h2:∀ S e,mL S x e=false) (h3:∀ S tg e,nO S x tg e=false) (h4:∀ a b,x≠.cons a b:=by intro _ _ e; cases e) (h5:∀ S ks vs,tv S x ks vs=false:=by intro S ks vs; cases ks <;> cases vs <;> rfl):Snd x :=
 ⟨h,(fun B es q=>by rw [h1] at q; cases q),(fun B e es pos q=>by rw [h1] at q; cases q),(fun B e q=>by rw [h2] at q; cases q),(fun B tg e q=>by rw [h3] at q; cases q),fun e=>absurd e (h4 _ _),fun e=>absurd e (h4 _ _),(fun B ks vs pos q=>by rw [h5] at q; cases q),fun e=>absurd e (h4 _ _)⟩
theorem Snd.ofI {x:X} (h:∀ S e,cx S x e=false) (h1:∀ S es,io S x es=false) (h2:∀ {C:Cx} {S:Sc} {G:Gn} {W:WX} (B:Gd C S G W) (e:Expr),mL S x e=true→PRg C e (pJ G.gm W x))
  (h3:∀ {C:Cx} {S:Sc} {G:Gn} {W:WX} (B:Gd C S G W) (tg e:Expr),nO S x tg e=true→PI C tg e (nJ G.gm W x)) (h4:∀ a b,x≠.cons a b:=by intro _ _ e; cases e) (h5:∀ S ks vs,tv S x ks vs=false:=by intro S ks vs; cases ks <;> cases vs <;> rfl):Snd x :=
 ⟨(fun B e q=>by rw [h] at q; cases q),(fun B es q=>by rw [h1] at q; cases q),(fun B e es pos q=>by rw [h1] at q; cases q),h2,h3,fun e=>absurd e (h4 _ _),fun e=>absurd e (h4 _ _),(fun B ks vs pos q=>by rw [h5] at q; cases q),fun e=>absurd e (h4 _ _)⟩
theorem t6 {y:X} (ih:Snd y) {C:Cx} {S:Sc} {G:Gn} {W:WX} (B:Gd C S G W) (o:Option Expr) (h:(match o with | none=>y.isNil | some f=>!y.isNil && cx S y f)=true):PO C o (yx G.gm W y):=by
 cases o with
 | none=>exact BB h
 | some f =>
  simp only [ab,az] at h
  exact qB h.1 (ih.E B _ h.2).1
theorem xR {y:X} (ih:Snd y) {C:Cx} {S:Sc} {G:Gn} (B:Gd C S G WF) (ifs:List Expr) (h:(match ifs with | []=>y.isNil | [f]=>!y.isNil && cx S y f | _=>false)=true):PTs C ifs (yP G.gm y):=by
 unfold yP
 cases ifs with
 | nil =>
  rw [aj h]
  exact pts_nil
 | cons f r =>
  cases r with
  | nil =>
   simp only [ab,az] at h
   rw [aq (by rw [h.1]; decide)]
   exact pts_one (ih.E B _ h.2).2
  | cons _ _=>cases h
theorem jx {e:Expr} {env:Env} {x:Sem Value} (h:vL e=true):PySem.isTrue e env x=(do let v ← x; standAt e.pos; holding [v] (truthy v)):=by
 cases e <;> first | rfl | cases h
theorem qM {S:Sc} {a b:X} {ks:List (Option Expr)} {vs:List Expr} (h:tv S (.cons a b) ks vs=true) :
  ∃ z y r k q ks' f vs',a=.ks z∧b=.cons y r∧ks=some (.Constant (.str z) k q) :: ks'∧vs=f :: vs'∧(cx S y f && tv S r ks' vs')=true:=by
 cases a
 case ks z =>
  cases b
  case cons y r =>
   cases ks
   case cons o ks' =>
    cases o
    case some e =>
     cases e
     case Constant c k q =>
      cases c
      case str w =>
       cases vs
       case cons f vs' =>
        have h:(decide (z=w) && b8 f && cx S y f && tv S r ks' vs')=true:=h
        simp only [ab,af] at h
        obtain ⟨⟨⟨rfl,_⟩,h1⟩,h2⟩:=h
        exact ⟨z,y,r,k,q,ks',f,vs',rfl,rfl,rfl,rfl,by rw [h1,h2]; rfl⟩
       all_goals exact absurd h aa
      all_goals (cases vs <;> exact absurd h aa)
     all_goals (cases vs <;> exact absurd h aa)
    all_goals (cases vs <;> exact absurd h aa)
   all_goals (cases vs <;> exact absurd h aa)
  all_goals (cases ks <;> cases vs <;> exact absurd h aa)
 all_goals (cases ks <;> cases vs <;> exact absurd h aa)
theorem zy {S:Sc}:∀ {x:X} {ks:List (Option Expr)} {vs:List Expr},tv S x ks vs=true→ks.all (·.isSome)=true∧ks.length=vs.length:=by
 intro x ks
 induction ks generalizing x with
 | nil =>
  intro vs h
  cases vs with
  | nil=>exact ⟨rfl,rfl⟩
  | cons f vs =>
   cases x
   case cons a b=>cases a <;> first | exact absurd h aa | (cases b <;> exact absurd h aa)
   all_goals exact absurd h aa
 | cons o ks ih =>
  intro vs h
  cases x
  case cons a b =>
   obtain ⟨z,y,r,k,q,ks',f,vs',rfl,rfl,e1,rfl,hh⟩:=qM h
   cases e1
   simp only [ab] at hh
   obtain ⟨q1,q2⟩:=ih hh.2
   exact ⟨by rw [a0,q1]; rfl,by rw [aw,aw,q2]⟩
  all_goals (cases vs <;> exact absurd h aa)
theorem wn {S:Sc} {x:X} (h:io S x []=true):x=.nil:=by
 cases x <;> first | rfl | cases h
theorem Snd.call {j:Nat} {es:X} (ih:Snd es):Snd (.call j es):=by
 refine .ofE (fun B e h=>?_) (fun _ es=>by cases es <;> rfl) (fun _ _=>rfl) (fun _ _ _=>rfl)
 obtain ⟨x,p,l,p2,rfl,hh⟩:=zi h
 clear h
 have h:=hh
 simp only [ab,af,az] at h
 cases l with
 | nil =>
  obtain rfl:=wn h.2
  have q:=vU (pos:=p2) (p:=p) B h.1.1.1.1 h.1.1.1.2 h.1.1.2 h.1.2
  exact ⟨q,cA (he:=fun _=>rfl) q⟩
 | cons e r =>
  have ns:=jh h.2
  rw [a0,ab] at ns
  have q:=yy (pos:=p2) (p:=p) B h.1.1.1.1 h.1.1.1.2 h.1.1.2 h.1.2 ns.1 ns.2 (ih.L B _ h.2).2
  exact ⟨q,cA (he:=fun _=>rfl) q⟩
theorem cT:∀ x:X,Snd x:=by
 intro x
 induction x with
 | nil =>
  refine ⟨fun B e h=>(by cases h),fun B es h=>?_,fun B e es pos h=>(by cases h),fun B e h=>(by cases h),fun B tg e h=>(by cases h),fun e=>(by cases e),fun e=>(by cases e),fun B ks vs pos h=>?_,fun e=>(by cases e)⟩
  ·obtain rfl:=zt h
   exact ⟨yt,fun kp=>yu⟩
  ·cases ks with
   | nil =>
    cases vs with
    | nil=>exact zf
    | cons _ _=>cases h
   | cons _ _=>cases vs <;> cases h
 | cons a b iha ihb =>
  refine ⟨fun B e h=>(by cases h),fun B es h=>?_,fun B e es pos h=>?_,fun B e h=>(by cases h),fun B tg e h=>(by cases h),fun e=>?_,fun e=>?_,fun B ks vs pos h=>?_,fun e=>?_⟩
  ·obtain ⟨e,r,rfl,hh⟩:=jv h
   clear h
   have h:=hh
   simp only [ab] at h
   obtain ⟨⟨h1,h2⟩,h3⟩:=h
   exact ⟨vS h1 (iha.E B _ h2).1 (ihb.L B _ h3).1,fun kp=>vT h1 (iha.E B _ h2).1 ((ihb.L B _ h3).2 _)⟩
  ·have h:(b8 e && cx _ a e && io _ b es)=true:=h
   simp only [ab] at h
   obtain ⟨⟨h1,h2⟩,h3⟩:=h
   obtain ⟨p1,p2⟩:=iha.E B _ h2
   cases es with
   | nil =>
    cases b with
    | nil=>exact ⟨yr p1,By p1,yC p2,BH p2⟩
    | _=>cases h3
   | cons e2 r =>
    obtain ⟨q1,q2,q3,q4⟩:=ihb.B B _ _ pos h3
    exact ⟨Bx p1 q1,EC p1 q2,BG p2 q3,EF p2 q4⟩
  ·cases e
   exact fun B e h=>(iha.E B e h).1
  ·cases e
   exact fun B e h=>ihb.H1 rfl B e h
  ·obtain ⟨z,y,r,k,q,ks,f,vs,rfl,rfl,rfl,rfl,hh⟩:=qM h
   simp only [ab] at hh
   exact wj (ihb.H1 rfl B f hh.1) (ihb.D1 rfl B ks vs pos hh.2)
  ·cases e
   exact fun B ks vs pos h=>ihb.D B ks vs pos h
 | v i =>
  refine .ofE (fun B e h=>?_) (fun _ es=>by cases es <;> rfl) (fun _ _=>rfl) (fun _ _ _=>rfl)
  obtain ⟨x,p,rfl,hh⟩:=HW h
  clear h
  have h:=hh
  simp only [ab,af] at h
  have q:=HS (pos:=p) B h.1.1 h.1.2 h.2
  exact ⟨q,cA (he:=fun _=>rfl) q⟩
 | kn =>
  refine .ofE (fun B e h=>?_) (fun _ es=>by cases es <;> rfl) (fun _ _=>rfl) (fun _ _ _=>rfl)
  obtain ⟨k,p,rfl⟩:=EM h
  exact ⟨gE (d:=.non) pe_non (fun _ _=>rfl) (fun _=>.non),cA (he:=fun _=>rfl) (gE (d:=.non) pe_non (fun _ _=>rfl) (fun _=>.non))⟩
 | kb c =>
  refine .ofE (fun B e h=>?_) (fun _ es=>by cases es <;> rfl) (fun _ _=>rfl) (fun _ _ _=>rfl)
  obtain ⟨k,p,rfl⟩:=EN h
  exact ⟨gE (d:=.bl c) pe_bl (fun _ _=>rfl) (fun _=>.bl c),cA (he:=fun _=>rfl) (gE (d:=.bl c) pe_bl (fun _ _=>rfl) (fun _=>.bl c))⟩
 | ki c =>
  refine .ofE (fun B e h=>?_) (fun _ es=>by cases es <;> rfl) (fun _ _=>rfl) (fun _ _ _=>rfl)
  obtain ⟨k,p,rfl⟩:=EO h
  exact ⟨gE (d:=.int c) pe_int (fun _ _=>rfl) (fun _=>.int c),cA (he:=fun _=>rfl) (gE (d:=.int c) pe_int (fun _ _=>rfl) (fun _=>.int c))⟩
 | ks c =>
  refine .ofE (fun B e h=>?_) (fun _ es=>by cases es <;> rfl) (fun _ _=>rfl) (fun _ _ _=>rfl)
  obtain ⟨k,p,rfl⟩:=EQ h
  exact ⟨gE (d:=.str c) pe_str (fun _ _=>rfl) (fun _=>.str c),cA (he:=fun _=>rfl) (gE (d:=.str c) pe_str (fun _ _=>rfl) (fun _=>.str c))⟩
 | g i =>
  refine .ofE (fun B e h=>?_) (fun _ es=>by cases es <;> rfl) (fun _ _=>rfl) (fun _ _ _=>rfl)
  obtain ⟨x,p,rfl,hh⟩:=HX h
  clear h
  have h:=hh
  simp only [ab,af] at h
  have q:=HU (pos:=p) B h.1.1 h.1.2 h.2
  exact ⟨q,cA (he:=fun _=>rfl) q⟩
 | tup es ih =>
  refine .ofE (fun B e h=>?_) (fun _ es=>by cases es <;> rfl) (fun _ _=>rfl) (fun _ _ _=>rfl)
  obtain ⟨l,k,p,rfl,hh⟩:=B7 h
  clear h
  have h:=hh
  have q:=Bz (pos:=p) (k:=k) (ih.L B _ h).1
  exact ⟨q,cA (he:=fun _=>rfl) q⟩
 | lst es ih =>
  refine .ofE (fun B e h=>?_) (fun _ es=>by cases es <;> rfl) (fun _ _=>rfl) (fun _ _ _=>rfl)
  obtain ⟨l,p,rfl,hh⟩:=B8 h
  clear h
  have h:=hh
  have q:=BA (pos:=p) (ih.L B _ h).1
  exact ⟨q,cA (he:=fun _=>rfl) q⟩
 | dic k ks vs ihk ihv =>
  refine .ofE (fun B e h=>?_) (fun _ es=>by cases es <;> rfl) (fun _ _=>rfl) (fun _ _ _=>rfl)
  rcases xQ h with ⟨rfl,rfl,p,rfl⟩ | ⟨ya,yb,a,b,p,rfl,rfl,rfl,hh⟩
  ·have q:=yw (pos:=p) B k
   exact ⟨q,cA (he:=fun _=>rfl) q⟩
  ·simp only [ab] at hh
   cases k with
   | false =>
    have q:=v8 (pos:=p) B (ihk.H1 rfl B _ hh.1) (ihv.H1 rfl B _ hh.2)
    exact ⟨q,cA (he:=fun _=>rfl) q⟩
   | true =>
    have q:=v9 (pos:=p) B (ihk.H1 rfl B _ hh.1) (ihv.H1 rfl B _ hh.2)
    exact ⟨q,cA (he:=fun _=>rfl) q⟩
 | dis ps ih =>
  refine .ofE (fun B e h=>?_) (fun _ es=>by cases es <;> rfl) (fun _ _=>rfl) (fun _ _ _=>rfl)
  obtain ⟨ks,vs,p,rfl,hh⟩:=B9 h
  clear h
  have h:=hh
  simp only [ab,af] at h
  obtain ⟨a1,a2⟩:=zy h.2
  have q:=B5 a1 a2 (by intro z; rw [z] at h; exact absurd h.1.1 (by decide)) h.1.2 (ih.D B ks vs p h.2)
  exact ⟨q,cA (he:=fun _=>rfl) q⟩
 | kd a iha =>
  refine .ofE (fun B e h=>?_) (fun _ es=>by cases es <;> rfl) (fun _ _=>rfl) (fun _ _ _=>rfl)
  have h:(vL e && cx _ a e)=true:=h
  rw [ab] at h
  have q:=EL (iha.E B _ h.2).1
  exact ⟨q,cA (he:=fun _=>jx h.1) q⟩
 | xis j a iha =>
  refine .ofE (fun B e h=>?_) (fun _ es=>by cases es <;> rfl) (fun _ _=>rfl) (fun _ _ _=>rfl)
  obtain ⟨x,p,a',y,p1,p2,rfl,hh⟩:=Cd h
  clear h
  have h:=hh
  simp only [ab,af,aL] at h
  obtain ⟨⟨⟨⟨⟨⟨rfl,h1⟩,h2⟩,h3⟩,h4⟩,h5⟩,h6⟩:=h
  have q:=B3 (pos:=p2) (p:=p) (p2:=p1) B h1 h2 h3 h4 h5 (iha.E B _ h6).1
  exact ⟨q,cA (he:=fun _=>rfl) q⟩
 | isc c a iha =>
  refine .ofE (fun B e h=>?_) (fun _ es=>by cases es <;> rfl) (fun _ _=>rfl) (fun _ _ _=>rfl)
  obtain ⟨x,p,a',y,p1,p2,rfl,hh⟩:=Ce h
  clear h
  have h:=hh
  simp only [ab,af,aL] at h
  obtain ⟨⟨⟨⟨⟨⟨⟨rfl,h1⟩,rfl⟩,h2⟩,h3⟩,h4⟩,h5⟩,h6⟩:=h
  have q:=B4 (pos:=p2) (p:=p) (p2:=p1) B h1 h2 h3 h4 h5 (iha.E B _ h6).1
  exact ⟨q,cA (he:=fun _=>rfl) q⟩
 | calX j a iha =>
  refine .ofE (fun B e h=>?_) (fun _ es=>by cases es <;> rfl) (fun _ _=>rfl) (fun _ _ _=>rfl)
  obtain ⟨x,p,a',p2,rfl,hh⟩:=zh h
  clear h
  have h:=hh
  simp only [ab,af,aL] at h
  obtain ⟨⟨⟨⟨⟨h1,h2⟩,h3⟩,h4⟩,h5⟩,h6⟩:=h
  have q:=zc (pos:=p2) (p:=p) B h1 h2 h3 h4 h5 (iha.E B _ h6).1
  exact ⟨q,cA (he:=fun _=>rfl) q⟩
 | bin o a b iha ihb =>
  refine .ofE (fun B e h=>?_) (fun _ es=>by cases es <;> rfl) (fun _ _=>rfl) (fun _ _ _=>rfl)
  obtain ⟨a',q,b',p,rfl,hh⟩:=Cf h
  clear h
  have h:=hh
  simp only [ab] at h
  obtain rfl:=yj h.1.1
  have q:=Br (pos:=p) B o (iha.E B _ h.1.2).1 (ihb.E B _ h.2).1
  exact ⟨q,cA (he:=fun _=>rfl) q⟩
 | neg a iha =>
  refine .ofE (fun B e h=>?_) (fun _ es=>by cases es <;> rfl) (fun _ _=>rfl) (fun _ _ _=>rfl)
  obtain ⟨a',p,rfl,hh⟩:=Cg h
  clear h
  have h:=hh
  have q:=Bu (pos:=p) (iha.E B _ h).1
  exact ⟨q,cA (he:=fun _=>rfl) q⟩
 | not a iha =>
  refine .ofE (fun B e h=>?_) (fun _ es=>by cases es <;> rfl) (fun _ _=>rfl) (fun _ _ _=>rfl)
  obtain ⟨a',p,rfl,hh⟩:=Ch h
  clear h
  have h:=hh
  exact ⟨Bv (iha.E B _ h).1,BF (iha.E B _ h).2⟩
 | cmp o a b iha ihb =>
  refine .ofE (fun B e h=>?_) (fun _ es=>by cases es <;> rfl) (fun _ _=>rfl) (fun _ _ _=>rfl)
  obtain ⟨l,q,r,p,rfl,hh⟩:=Ci h
  clear h
  have h:=hh
  simp only [ab] at h
  obtain rfl:=mJ h.1.1.1
  exact ⟨Bt B o h.1.1.2 (iha.E B _ h.1.2).1 (ihb.E B _ h.2).1,BD B o h.1.1.2 (iha.E B _ h.1.2).1 (ihb.E B _ h.2).1⟩
 | chn o o2 a b c iha ihb ihc =>
  refine .ofE (fun B e h=>?_) (fun _ es=>by cases es <;> rfl) (fun _ _=>rfl) (fun _ _ _=>rfl)
  obtain ⟨l,q,q2,r,r2,p,rfl,hh⟩:=Cj h
  clear h
  have h:=hh
  simp only [ab,az] at h
  obtain ⟨⟨⟨⟨⟨⟨⟨h1,h2⟩,h3⟩,h4⟩,h5⟩,h6⟩,h7⟩,h8⟩:=h
  obtain rfl:=mJ h1
  obtain rfl:=mJ h2
  exact ⟨Bw B o o2 h3 (iha.E B _ h6).1 (ihb.E B _ h7).1 (ihc.E B _ h8).1,BE B o o2 h3 (iha.E B _ h6).1 (ihb.E B _ h7).1 (ihc.E B _ h8).1⟩
 | and es ih =>
  refine .ofE (fun B e h=>?_) (fun _ es=>by cases es <;> rfl) (fun _ _=>rfl) (fun _ _ _=>rfl)
  obtain ⟨l,p,rfl,hh⟩:=Ck h
  clear h
  have h:=hh
  simp only [ab] at h
  cases l with
  | nil=>cases h.1
  | cons e r =>
   obtain ⟨q1,q2,q3,q4⟩:=ih.B B _ _ p h.2
   exact ⟨q1,vV q3⟩
 | or es ih =>
  refine .ofE (fun B e h=>?_) (fun _ es=>by cases es <;> rfl) (fun _ _=>rfl) (fun _ _ _=>rfl)
  obtain ⟨l,p,rfl,hh⟩:=ER h
  clear h
  have h:=hh
  simp only [ab] at h
  cases l with
  | nil=>cases h.1
  | cons e r =>
   obtain ⟨q1,q2,q3,q4⟩:=ih.B B _ _ p h.2
   exact ⟨q2,yD q4⟩
 | ite c a b ihc iha ihb =>
  refine .ofE (fun B e h=>?_) (fun _ es=>by cases es <;> rfl) (fun _ _=>rfl) (fun _ _ _=>rfl)
  obtain ⟨c',a',b',p,rfl,hh⟩:=Cn h
  clear h
  have h:=hh
  simp only [ab] at h
  exact ⟨BJ (ihc.E B _ h.1.1).2 (iha.E B _ h.1.2).1 (ihb.E B _ h.2).1,B6 (ihc.E B _ h.1.1).2 (iha.E B _ h.1.2).2 (ihb.E B _ h.2).2⟩
 | ix a i iha ihi =>
  refine .ofE (fun B e h=>?_) (fun _ es=>by cases es <;> rfl) (fun _ _=>rfl) (fun _ _ _=>rfl)
  obtain ⟨a',f,p,rfl,hh⟩:=ET h
  clear h
  have h:=hh
  simp only [ab] at h
  have q:=EB (pos:=p) B h.1.1 (iha.E B _ h.1.2).1 (ihi.E B _ h.2).1
  exact ⟨q,cA (he:=fun _=>rfl) q⟩
 | sl a lo hi iha ihl ihh =>
  refine .ofE (fun B e h=>?_) (fun _ es=>by cases es <;> rfl) (fun _ _=>rfl) (fun _ _ _=>rfl)
  obtain ⟨a',p,r,p2,p3,rfl,hh⟩:=ES h
  clear h
  have h:=hh
  simp only [ab] at h
  have q:=ED (pos:=p3) (p2:=p2) B (iha.E B _ h.1.1).1 (t6 ihl B p h.1.2) (t6 ihh B r h.2)
  exact ⟨q,cA (he:=fun _=>rfl) q⟩
 | new a iha =>
  refine .ofE (fun B e h=>?_) (fun _ es=>by cases es <;> rfl) (fun _ _=>rfl) (fun _ _ _=>rfl)
  have h:(vL e && cx _ a e)=true:=h
  rw [ab] at h
  have q:=BP (iha.E B _ h.2).1
  exact ⟨q,cA (he:=fun _=>jx h.1) q⟩
 | frz a iha =>
  refine .ofE (fun B e h=>?_) (fun _ es=>by cases es <;> rfl) (fun _ _=>rfl) (fun _ _ _=>rfl)
  have h:(vL e && cx _ a e)=true:=h
  rw [ab] at h
  have q:=BQ (iha.E B _ h.2).1
  exact ⟨q,cA (he:=fun _=>jx h.1) q⟩
 | frzs a iha =>
  refine .ofE (fun B e h=>?_) (fun _ es=>by cases es <;> rfl) (fun _ _=>rfl) (fun _ _ _=>rfl)
  have h:(vL e && cx _ a e)=true:=h
  rw [ab] at h
  have q:=yR (iha.E B _ h.2).1
  exact ⟨q,cA (he:=fun _=>jx h.1) q⟩
 | rdl f a iha =>
  refine .ofE (fun B e h=>?_) (fun _ es=>by cases es <;> rfl) (fun _ _=>rfl) (fun _ _ _=>rfl)
  obtain ⟨x,p,a',p2,rfl,hh⟩:=Cq h
  clear h
  have h:=hh
  simp only [ab,af,az] at h
  obtain ⟨⟨⟨⟨h0,rfl⟩,h1⟩,h2⟩,h3⟩:=h
  have q:=BR (pos:=p2) (p:=p) B h0 f h1 h2 (iha.E B _ h3).1
  exact ⟨q,cA (he:=fun _=>rfl) q⟩
 | inl b k a ihk iha =>
  refine .ofE (fun B e h=>?_) (fun _ es=>by cases es <;> rfl) (fun _ _=>rfl) (fun _ _ _=>rfl)
  obtain ⟨l,q,r,p,rfl,hh⟩:=Cs h
  clear h
  have h:=hh
  simp only [ab] at h
  obtain rfl:=mJ h.1.1.1
  exact ⟨BS B _ b rfl h.1.1.2 (ihk.E B _ h.1.2).1 (iha.E B _ h.2).1,BT B _ b rfl h.1.1.2 (ihk.E B _ h.1.2).1 (iha.E B _ h.2).1⟩
 | ixl a k iha ihk =>
  refine .ofE (fun B e h=>?_) (fun _ es=>by cases es <;> rfl) (fun _ _=>rfl) (fun _ _ _=>rfl)
  obtain ⟨a',f,p,rfl,hh⟩:=Cu h
  clear h
  have h:=hh
  simp only [ab] at h
  have q:=BU (pos:=p) B h.1.1 (iha.E B _ h.1.2).1 (ihk.E B _ h.2).1
  exact ⟨q,cA (he:=fun _=>rfl) q⟩
 | fld c f a iha =>
  refine .ofE (fun B e h=>?_) (fun _ es=>by cases es <;> rfl) (fun _ _=>rfl) (fun _ _ _=>rfl)
  obtain ⟨a',nm,p,rfl,hh⟩:=Cv h
  clear h
  have h:=hh
  simp only [ab,af,aL] at h
  obtain ⟨⟨⟨rfl,h1⟩,h2⟩,h3⟩:=h
  have q:=BV (pos:=p) B h1 h2 (iha.E B _ h3).1
  exact ⟨q,cA (he:=fun _=>rfl) q⟩
 | popl a iha =>
  refine .ofE (fun B e h=>?_) (fun _ es=>by cases es <;> rfl) (fun _ _=>rfl) (fun _ _ _=>rfl)
  obtain ⟨a',nm,apos,cpos,rfl,hh⟩:=zo h
  clear h
  have h:=hh
  simp only [ab,af] at h
  obtain ⟨⟨⟨rfl,h1⟩,h2⟩,h3⟩:=h
  have q:=yT (apos:=apos) (cpos:=cpos) h1 h2 (iha.E B _ h3).1
  exact ⟨q,cA (he:=fun _=>rfl) q⟩
 | popk a k iha ihk =>
  refine .ofE (fun B e h=>?_) (fun _ es=>by cases es <;> rfl) (fun _ _=>rfl) (fun _ _ _=>rfl)
  obtain ⟨a',nm,apos,f,cpos,rfl,hh⟩:=zp h
  clear h
  have h:=hh
  simp only [ab,af] at h
  obtain ⟨⟨⟨⟨⟨rfl,h1⟩,h2⟩,h3⟩,h4⟩,h5⟩:=h
  have q:=yU (apos:=apos) (cpos:=cpos) h1 h2 h3 (iha.E B _ h4).1 (ihk.E B _ h5).1
  exact ⟨q,cA (he:=fun _=>rfl) q⟩
 | rm m a b iha ihb =>
  refine .ofE (fun B e h=>?_) (fun _ es=>by cases es <;> rfl) (fun _ _=>rfl) (fun _ _ _=>rfl)
  obtain ⟨a',nm,apos,f,cpos,rfl,hh⟩:=EV h
  clear h
  have h:=hh
  simp only [ab,af] at h
  obtain ⟨⟨⟨⟨⟨⟨h0,rfl⟩,h1⟩,h2⟩,h3⟩,h4⟩,h5⟩:=h
  cases m with
  | join =>
   have q:=y4 (apos:=apos) (cpos:=cpos) B h1 h2 h3 (iha.E B _ h4).1 (ihb.E B _ h5).1
   exact ⟨q,cA (he:=fun _=>rfl) q⟩
  | split =>
   have q:=wb (apos:=apos) (cpos:=cpos) B h1 h2 h3 (iha.E B _ h4).1 (ihb.E B _ h5).1
   exact ⟨q,cA (he:=fun _=>rfl) q⟩
  | _=>cases h0
 | mth c m j o es iho ihe =>
  refine .ofE (fun B e h=>?_) (fun _ es=>by cases es <;> rfl) (fun _ _=>rfl) (fun _ _ _=>rfl)
  obtain ⟨a',nm,apos,l,cpos,rfl,hh⟩:=Cw h
  clear h
  have h:=hh
  simp only [ab,af,aL,az] at h
  obtain ⟨⟨⟨⟨⟨⟨⟨h0,rfl⟩,h1⟩,h2⟩,h3⟩,h4⟩,h5⟩,h6⟩:=h
  cases l with
  | nil =>
   cases es with
   | nil =>
    have q:=yX (apos:=apos) (pos:=cpos) B h0 h1 h2 h4 (iho.E B _ h5).1
    exact ⟨q,cA (he:=fun _=>rfl) q⟩
   | _=>cases h6
  | cons e r =>
   have ns:=jh h6
   have q:=BX (apos:=apos) (pos:=cpos) B h0 h1 h2 h4 ns h3 (iho.E B _ h5).1 (ihe.L B _ h6).2
   exact ⟨q,cA (he:=fun _=>rfl) q⟩
 | mk c j es ih =>
  refine .ofE (fun B e h=>?_) (fun _ es=>by cases es <;> rfl) (fun _ _=>rfl) (fun _ _ _=>rfl)
  obtain ⟨x,p,l,p2,rfl,hh⟩:=EW h
  clear h
  have h:=hh
  simp only [ab,af,aL,az] at h
  obtain ⟨⟨⟨⟨⟨⟨h0,rfl⟩,h1⟩,h2⟩,h3⟩,h4⟩,h5⟩:=h
  cases l with
  | nil=>exact absurd h4 (by simp)
  | cons e r =>
   have ns:=jh h5
   rw [a0,ab] at ns
   have q:=EI (pos:=p2) (p:=p) B h0 h1 h2 h3 ns.1 ns.2 (ih.L B _ h5).2
   exact ⟨q,cA (he:=fun _=>rfl) q⟩
 | calD j es ih =>
  refine .ofE (fun B e h=>?_) (fun _ es=>by cases es <;> rfl) (fun _ _=>rfl) (fun _ _ _=>rfl)
  obtain ⟨x,p,l,p2,rfl,hh⟩:=zm h
  clear h
  have h:=hh
  simp only [ab,af,az] at h
  cases l with
  | nil=>exact absurd h.1.2 (by simp)
  | cons e r =>
   have ns:=jh h.2
   rw [a0,ab] at ns
   have q:=yS (pos:=p2) (p:=p) B h.1.1.1.1.1 h.1.1.1.1.2 h.1.1.1.2 h.1.1.2 ns.1 ns.2 (ih.L B _ h.2).2
   exact ⟨q,cA (he:=fun _=>rfl) q⟩
 | calS j es ih =>
  refine .ofE (fun B e h=>?_) (fun _ es=>by cases es <;> rfl) (fun _ _=>rfl) (fun _ _ _=>rfl)
  obtain ⟨x,p,l,p2,rfl,hh⟩:=zn h
  clear h
  have h:=hh
  simp only [ab,af,az] at h
  cases l with
  | nil=>exact absurd h.1.2 (by simp)
  | cons e r =>
   have ns:=jh h.2
   rw [a0,ab] at ns
   have q:=yz (pos:=p2) (p:=p) B h.1.1.1.1.1 h.1.1.1.1.2 h.1.1.1.2 h.1.1.2 ns.1 ns.2 (ih.L B _ h.2).2
   exact ⟨q,cA (he:=fun _=>rfl) q⟩
 | call j es ih=>exact Snd.call ih
 | bi f es ih =>
  refine .ofE (fun B e h=>?_) (fun _ es=>by cases es <;> rfl) (fun _ _=>rfl) (fun _ _ _=>rfl)
  obtain ⟨x,p,l,p2,rfl,hh⟩:=EU h
  clear h
  have h:=hh
  simp only [ab,af,az] at h
  obtain ⟨⟨⟨⟨h0,rfl⟩,h1⟩,h2⟩,h3⟩:=h
  cases l with
  | nil=>exact absurd h2 (by simp)
  | cons e r =>
   have ns:=jh h3
   rw [a0,ab] at ns
   have q:=EE (pos:=p2) (p:=p) B h0 f h1 ns.1 ns.2 ((ih.L B _ h3).2 [])
   exact ⟨q,cA (he:=fun _=>rfl) q⟩
 | isi a t iha =>
  refine .ofE (fun B e h=>?_) (fun _ es=>by cases es <;> rfl) (fun _ _=>rfl) (fun _ _ _=>rfl)
  obtain ⟨x,p,a',y,p1,p2,rfl,hh⟩:=Cy h
  clear h
  have h:=hh
  simp only [ab,af] at h
  obtain ⟨⟨⟨⟨⟨rfl,h1⟩,rfl⟩,h2⟩,h3⟩,h4⟩:=h
  have q:=BC (pos:=p2) (p:=p) (p2:=p1) B t h1 h2 h3 (iha.E B _ h4).1
  exact ⟨q,cA (he:=fun _=>rfl) q⟩
 | mt m o es iho ihe =>
  refine .ofE (fun B e h=>?_) (fun _ es=>by cases es <;> rfl) (fun _ _=>rfl) (fun _ _ _=>rfl)
  obtain ⟨a,nm,apos,l,cpos,rfl,hh⟩:=EX h
  clear h
  have h:=hh
  simp only [ab,af] at h
  obtain ⟨⟨⟨⟨⟨⟨rfl,h0,h1⟩,h2⟩,h3⟩,h4⟩,h5⟩,h6⟩:=h
  have hb:∀ m env,attributeBase a m env (eval a env)=eval a env:=fun m env=>iA h4 env
  cases m with
  | get1 =>
   obtain ⟨e1,rfl⟩:=List.length_eq_one_iff.mp h1
   cases es with
   | cons y r =>
    obtain ⟨e1',r',er,hh2⟩:=jv h6
    obtain ⟨rfl,rfl⟩:=bG er
    simp only [ab] at hh2
    cases r with
    | nil =>
     have q:=yY (apos:=apos) (cpos:=cpos) B (iho.E B _ h5).1 (ihe.H1 rfl B _ hh2.1.2) (xO (hb _) hh2.1.1 h3)
     exact ⟨q,cA (he:=fun _=>rfl) q⟩
    | _=>cases hh2.2
   | _=>cases h6
  | get2 =>
   obtain ⟨e1,e2,rfl⟩:∃ e1 e2,l=[e1,e2]:=by
    match l,h1 with
    | [e1,e2],_=>exact ⟨e1,e2,rfl⟩
   cases es with
   | cons y r =>
    obtain ⟨e1',r',er,hh2⟩:=jv h6
    obtain ⟨rfl,rfl⟩:=bG er
    simp only [ab] at hh2
    cases r with
    | cons y2 r2 =>
     obtain ⟨e2',r2',er2,hh3⟩:=jv hh2.2
     obtain ⟨rfl,rfl⟩:=bG er2
     simp only [ab] at hh3
     cases r2 with
     | nil =>
      have q:=yZ (apos:=apos) (cpos:=cpos) B (iho.E B _ h5).1 (ihe.H1 rfl B _ hh2.1.2) (ihe.H2 rfl B _ hh3.1.2) (xP (hb _) hh2.1.1 hh3.1.1 h3)
      exact ⟨q,cA (he:=fun _=>rfl) q⟩
     | _=>cases hh3.2
    | _=>cases hh2.2
   | _=>cases h6
  | index =>
   obtain ⟨e1,rfl⟩:=List.length_eq_one_iff.mp h1
   cases es with
   | cons y r =>
    obtain ⟨e1',r',er,hh2⟩:=jv h6
    obtain ⟨rfl,rfl⟩:=bG er
    simp only [ab] at hh2
    cases r with
    | nil =>
     have q:=wa (apos:=apos) (cpos:=cpos) B (iho.E B _ h5).1 (ihe.H1 rfl B _ hh2.1.2) (xO (hb _) hh2.1.1 h3)
     exact ⟨q,cA (he:=fun _=>rfl) q⟩
    | _=>cases hh2.2
   | _=>cases h6
  | join=>cases h0
  | split=>cases h0
 | comE own t it j es ihi ihe =>
  refine .ofE (fun B e h=>?_) (fun _ es=>by cases es <;> rfl) (fun _ _=>rfl) (fun _ _ _=>rfl)
  obtain ⟨x,px,l,pc,tg,ite,scope,p,rfl,hh⟩:=zr h
  clear h
  have h:=hh
  simp only [ab,az] at h
  obtain ⟨⟨⟨⟨⟨⟨⟨h0,ht⟩,h1⟩,h2⟩,h3⟩,h4⟩,h5⟩,h6⟩:=h
  have q:=zx (e:=.Call (.Name x px) l [] pc) (pos:=p) B h0 ht h2 h1 (oj h3) (ihi.I B _ _ h4) (fun σ s H Cc cl fp xe tk=>yO (B.blkE h0 scope s H Cc cl fp xe tk) h5)
   (fun σ s H Cc cl fp xe tk=>((Snd.call ihe).E (B.blkE h0 scope s H Cc cl fp xe tk) (.Call (.Name x px) l [] pc) (wm (px:=px) (pc:=pc) h0 h6)).1)
  exact ⟨q,cA (he:=fun _=>rfl) q⟩
 | comp own t it c e ihi ihc ihe =>
  refine .ofE (fun B e h=>?_) (fun _ es=>by cases es <;> rfl) (fun _ _=>rfl) (fun _ _ _=>rfl)
  obtain ⟨el,tg,ite,ifs,scope,p,rfl,hh⟩:=tY h
  clear h
  have h:=hh
  simp only [ab,az] at h
  obtain ⟨⟨⟨⟨⟨⟨⟨h0,h1⟩,h2⟩,h3⟩,h4⟩,h5⟩,h6⟩,h7⟩:=h
  have ht:∀ (s:Shared) (H:Hp) (Cc:Addr) (cl:List (Str × Addr)) (fp:List Addr),PTs (Cx.blk _ s H scope (compEnvC scope cl Cc _) fp) ifs (yP _ c):=fun s H Cc cl fp=>xR ihc (B.blk h0 scope s H Cc cl fp) ifs h7
  have q:=yQ (pos:=p) B h0 h2 h1 (oj h3) (ihi.I B _ _ h4) (fun s H Cc cl fp=>yO (B.blk h0 scope s H Cc cl fp) h5)
   ht (fun s H Cc cl fp=>(ihe.E (B.blk h0 scope s H Cc cl fp) _ h6).1)
  exact ⟨q,cA (he:=fun _=>rfl) q⟩
 | tupI it ih =>
  refine .ofE (fun B e h=>?_) (fun _ es=>by cases es <;> rfl) (fun _ _=>rfl) (fun _ _ _=>rfl)
  obtain ⟨x,p,a,p2,rfl,hh⟩:=zj h
  clear h
  have h:=hh
  simp only [ab,af,az] at h
  obtain ⟨⟨⟨⟨h0,rfl⟩,h1⟩,h2⟩,h3⟩:=h
  have q:=yL (pos:=p2) (p:=p) B h0 h1 h2 (ih.R B _ h3)
  exact ⟨q,cA (he:=fun _=>rfl) q⟩
 | lstI it ih =>
  refine .ofE (fun B e h=>?_) (fun _ es=>by cases es <;> rfl) (fun _ _=>rfl) (fun _ _ _=>rfl)
  obtain ⟨x,p,a,p2,rfl,hh⟩:=zk h
  clear h
  have h:=hh
  simp only [ab,af,az] at h
  obtain ⟨⟨⟨⟨h0,rfl⟩,h1⟩,h2⟩,h3⟩:=h
  have q:=yM (pos:=p2) (p:=p) B h0 h1 h2 (ih.R B _ h3)
  exact ⟨q,cA (he:=fun _=>rfl) q⟩
 | sset a ih =>
  refine .ofE (fun B e h=>?_) (fun _ es=>by cases es <;> rfl) (fun _ _=>rfl) (fun _ _ _=>rfl)
  obtain ⟨x,p,y,p2,a',p3,p4,rfl,hh⟩:=zl h
  clear h
  have h:=hh
  simp only [ab,az,af] at h
  obtain ⟨⟨⟨⟨⟨⟨h0,rfl⟩,rfl⟩,h1⟩,h2⟩,h3⟩,h4⟩:=h
  have q:=za (pos:=p4) (p:=p) (p2:=p2) (pos2:=p3) B h0 h1 h2 h3 (ih.E B _ h4).1
  exact ⟨q,cA (he:=fun _=>rfl) q⟩
 | trev a ih =>
  refine .ofE (fun B e h=>?_) (fun _ es=>by cases es <;> rfl) (fun _ _=>rfl) (fun _ _ _=>rfl)
  obtain ⟨x,p,y,p2,a',p3,p4,rfl,hh⟩:=zq h
  clear h
  have h:=hh
  simp only [ab,az,af] at h
  obtain ⟨⟨⟨⟨⟨⟨h0,rfl⟩,rfl⟩,h1⟩,h2⟩,h3⟩,h4⟩:=h
  have q:=y5 (pos:=p4) (p:=p) (p2:=p2) (pos2:=p3) B h0 h1 h2 h3 (ih.E B _ h4).1
  exact ⟨q,cA (he:=fun _=>rfl) q⟩
 | rsl a ih =>
  refine .ofE (fun B e h=>?_) (fun _ es=>by cases es <;> rfl) (fun _ _=>rfl) (fun _ _ _=>rfl)
  obtain ⟨a',n,k,p1,p2,p3,p4,rfl,hh⟩:=Co h
  clear h
  have h:=hh
  simp only [ab,af] at h
  obtain ⟨rfl,h4⟩:=h
  have q:=BZ (pos:=p4) (k:=k) (p1:=p1) (p2:=p2) (p3:=p3) B (ih.E B _ h4).1
  exact ⟨q,cA (he:=fun _=>rfl) q⟩
 | ssl a k iha ihk =>
  refine .ofE (fun B e h=>?_) (fun _ es=>by cases es <;> rfl) (fun _ _=>rfl) (fun _ _ _=>rfl)
  obtain ⟨a',f,p3,p4,rfl,hh⟩:=Cp h
  clear h
  have h:=hh
  simp only [ab,az] at h
  have q:=B0 (pos:=p4) (p3:=p3) B (iha.E B _ h.1.2).1 (qB h.1.1 (ihk.E B _ h.2).1)
  exact ⟨q,cA (he:=fun _=>rfl) q⟩
 | keys a ih =>
  refine .ofI (fun _ _=>rfl) (fun _ es=>by cases es <;> rfl) (fun B e h=>by cases h) (fun B tg e h=>?_)
  have h:(im e && cx _ a e)=true:=h
  simp only [ab] at h
  exact ze B (ih.E B _ h.2).1
 | items a ih =>
  refine .ofI (fun _ _=>rfl) (fun _ es=>by cases es <;> rfl) (fun B e h=>by cases h) (fun B tg e h=>?_)
  obtain ⟨el,k,p1,a',nm,apos,cpos,rfl,rfl,hh⟩:=wk h
  simp only [ab,af] at hh
  obtain ⟨⟨⟨rfl,h1⟩,h2⟩,h3⟩:=hh
  exact wf B h2 h1 (ih.E B _ h3).1
 | it a ih =>
  refine .ofI (fun _ _=>rfl) (fun _ es=>by cases es <;> rfl) (fun B e h=>by cases h) (fun B tg e h=>?_)
  have h:=E4 h
  simp only [ab] at h
  exact EG (oj h.1) B (ih.E B _ h.2).1
 | rng1 a ih =>
  refine .ofI (fun _ _=>rfl) (fun _ es=>by cases es <;> rfl) (fun B e h=>?_) (fun B tg e h=>?_)
  ·obtain ⟨x,p,a',p2,rfl,hh⟩:=EY h
   clear h
   have h:=hh
   simp only [ab,af] at h
   obtain ⟨⟨⟨rfl,h1⟩,h2⟩,h3⟩:=h
   exact BL B h1 h2 (ih.E B _ h3).1
  ·obtain ⟨x,p,a',p2,rfl,hh⟩:=E0 h
   clear h
   have h:=hh
   simp only [ab,af] at h
   obtain ⟨⟨⟨rfl,h1⟩,h2⟩,h3⟩:=h
   exact yH B h1 h2 (ih.E B _ h3).1
 | rng2 a b ih ihb =>
  refine .ofI (fun _ _=>rfl) (fun _ es=>by cases es <;> rfl) (fun B e h=>?_) (fun B tg e h=>?_)
  ·obtain ⟨x,p,a',b',p2,rfl,hh⟩:=EZ h
   clear h
   have h:=hh
   simp only [ab,af] at h
   obtain ⟨⟨⟨⟨⟨rfl,h1⟩,h2⟩,h3⟩,h4⟩,h5⟩:=h
   exact BM B h1 h2 h3 (ih.E B _ h4).1 (ihb.E B _ h5).1
  ·obtain ⟨x,p,a',b',p2,rfl,hh⟩:=E1 h
   clear h
   have h:=hh
   simp only [ab,af] at h
   obtain ⟨⟨⟨⟨⟨rfl,h1⟩,h2⟩,h3⟩,h4⟩,h5⟩:=h
   exact yI B h1 h2 h3 (ih.E B _ h4).1 (ihb.E B _ h5).1
 | rng3 a b c ih ihb ihc =>
  refine .ofI (fun _ _=>rfl) (fun _ es=>by cases es <;> rfl) (fun B e h=>by cases h) (fun B tg e h=>?_)
  obtain ⟨x,p,a',b',k',p2,rfl,hh⟩:=E3 h
  clear h
  have h:=hh
  simp only [ab,af] at h
  obtain ⟨⟨⟨⟨⟨⟨⟨rfl,h1⟩,h2⟩,h3⟩,h4⟩,h5⟩,h6⟩,h7⟩:=h
  exact yK B h1 h2 h3 h4 (ih.E B _ h5).1 (ihb.E B _ h6).1 (ihc.E B _ h7).1
 | enumK a n ih =>
  refine .ofI (fun _ _=>rfl) (fun _ es=>by cases es <;> rfl) (fun B e h=>by cases h) (fun B tg e h=>?_)
  obtain ⟨el,k,p1,x,p,a',kw,i,k2,p3,p4,p2,rfl,rfl,hh⟩:=wl h
  clear h
  have h:=hh
  simp only [ab,af] at h
  obtain ⟨⟨⟨⟨⟨⟨rfl,rfl⟩,rfl⟩,h0⟩,h1⟩,h2⟩,h3⟩:=h
  exact vY h0 B h1 h2 (ih.E B _ h3).1
 | rev a=>exact .ofI (fun _ _=>rfl) (fun _ es=>by cases es <;> rfl) (fun B e h=>by cases h) (fun B tg e h=>by cases h)
 | enum a n ih =>
  refine .ofI (fun _ _=>rfl) (fun _ es=>by cases es <;> rfl) (fun B e h=>by cases h) (fun B tg e h=>?_)
  obtain ⟨rfl,el,k,p1,x,p,a',p2,rfl,rfl,hh⟩:=zu h
  clear h
  have h:=hh
  simp only [ab,af] at h
  obtain ⟨⟨⟨rfl,h1⟩,h2⟩,h3⟩:=h
  exact yJ B h1 h2 (ih.E B _ h3).1
 | zip a b ih ihb =>
  refine .ofI (fun _ _=>rfl) (fun _ es=>by cases es <;> rfl) (fun B e h=>by cases h) (fun B tg e h=>?_)
  obtain ⟨el,k,p1,x,p,a',b',p2,rfl,rfl,hh⟩:=Cz h
  clear h
  have h:=hh
  simp only [ab,af] at h
  obtain ⟨⟨⟨⟨⟨rfl,h1⟩,h2⟩,h3⟩,h4⟩,h5⟩:=h
  exact BK B h1 h2 h3 (ih.E B _ h4).1 (ihb.E B _ h5).1
mutual
def D.nx:D→Bool
 | .tup xs=>D.nxs xs
 | .lst xs=>D.nxs xs
 | .arr xs=>D.nxs xs
 | .dic _ ps=>D.nxp ps
 | .fdc ps=>D.nxp ps
 | .exc _=>false
 | _=>true
def D.nxs:List D→Bool
 | []=>true
 | x :: xs=>D.nx x && D.nxs xs
def D.nxp:List (D × D)→Bool
 | []=>true
 | p :: r=>D.nxq p && D.nxp r
def D.nxq:D × D→Bool
 | (a,b)=>D.nx a && D.nx b
end

theorem zA {k:D} {q:Key} (h:D.keyOf k=some q):k.nx=true:=by cases k <;> simp [D.keyOf] at h <;> rfl

structure YLe (Y Y':Wd):Prop where
 P:Y'.P=Y.P
 w:Y'.w=Y.w
 K:Y'.K=Y.K
 pn:∀ a c,Y.pn a=some c→Y'.pn a=some c

structure YEq (Y Y':Wd):Prop where
 P:Y'.P=Y.P
 w:Y'.w=Y.w
 K:Y'.K=Y.K
section
variable {Y Y':Wd} {F:Fr} {B H:Hp}
theorem DtO.to (eP:Y'.P=Y.P) (ew:Y'.w=Y.w) {a:Addr} {ob:Obj} {xs:List (NestedKey × Addr × Value)} (h:DtO Y a ob xs):DtO Y' a ob xs:=⟨h.ex,h.nm,by rw [eP,ew]; exact h.es,h.nd,h.sz⟩
theorem TbK.to {Y Y':Wd} (eK:Y'.K=Y.K) (ew:Y'.w=Y.w) {a:Addr} {kvs:List (Str × Str)} (h:TbK Y a kvs):TbK Y' a kvs:=⟨by rw [eK,ew]; exact h.d,by rw [eK]; exact h.at_⟩
theorem SqL.to {K K':PySem.W.Frag} (e:K'=K) {a:Addr} {vs:List V} (h:SqL K H a vs):SqL K' H a vs:=by rw [e]; exact h
mutual
theorem Rp.up (e:YLe Y Y'):∀ {d:D} {v:V},Rp Y F d v→Rp Y' F d v
 | _,_,.non=>.non
 | _,_,.bl b=>.bl b
 | _,_,.int i=>.int i
 | _,_,.str x=>.str x
 | _,_,.tup h r=>.tup h (Rps.up e r)
 | _,_,.lst h r=>.lst h (Rps.up e r)
 | _,_,.arr h r=>.arr (SqL.to e.K h) (Rps.up e r)
 | _,_,.dk h r=>.dk h (Rpk.up e r)
 | _,_,.dt h o r=>.dt h (o.to e.P e.w) (Rpt.up e r)
 | _,_,.loc h=>.loc h
 | _,_,.exc h=>.exc (e.pn _ _ h)
 | _,_,.fd h r=>.fd h (Rpk.up e r)
 | _,_,.tb h=>.tb (h.to e.K e.w)
theorem Rps.up (e:YLe Y Y'):∀ {ds:List D} {vs:List V},Rps Y F ds vs→Rps Y' F ds vs
 | _,_,.nil=>.nil
 | _,_,.cons h r=>.cons (Rp.up e h) (Rps.up e r)
theorem Rpk.up (e:YLe Y Y'):∀ {ps:List (D × D)} {kvs:List (Key × V)},Rpk Y F ps kvs→Rpk Y' F ps kvs
 | _,_,.nil=>.nil
 | _,_,.cons h r t=>.cons h (Rp.up e r) (Rpk.up e t)
theorem Rpt.up (e:YLe Y Y'):∀ {ps:List (D × D)} {xs:List (NestedKey × Addr × Value)},Rpt Y F ps xs→Rpt Y' F ps xs
 | _,_,.nil=>.nil
 | _,_,.cons h z k r u t=>.cons h z (Rp.up e k) (Rp.up e r) u (Rpt.up e t)
end

mutual
theorem Rp.dn (e:YEq Y Y'):∀ {d:D} {v:V},d.nx=true→Rp Y F d v→Rp Y' F d v
 | _,_,_,.non=>.non
 | _,_,_,.bl b=>.bl b
 | _,_,_,.int i=>.int i
 | _,_,_,.str x=>.str x
 | _,_,n,.tup h r=>.tup h (Rps.dn e n r)
 | _,_,n,.lst h r=>.lst h (Rps.dn e n r)
 | _,_,n,.arr h r=>.arr (SqL.to e.K h) (Rps.dn e n r)
 | _,_,n,.dk h r=>.dk h (Rpk.dn e n r)
 | _,_,n,.dt h o r=>.dt h (o.to e.P e.w) (Rpt.dn e n r)
 | _,_,_,.loc h=>.loc h
 | _,_,n,.exc h=>Bool.noConfusion (show false=true from n)
 | _,_,n,.fd h r=>.fd h (Rpk.dn e n r)
 | _,_,n,.tb h=>.tb (h.to e.K e.w)
theorem Rps.dn (e:YEq Y Y'):∀ {ds:List D} {vs:List V},D.nxs ds=true→Rps Y F ds vs→Rps Y' F ds vs
 | _,_,_,.nil=>.nil
 | d :: ds,_,n,.cons h r =>
  have n':(D.nx d && D.nxs ds)=true:=n
  .cons (Rp.dn e (aY.mp n').1 h) (Rps.dn e (aY.mp n').2 r)
theorem Rpk.dn (e:YEq Y Y'):∀ {ps:List (D × D)} {kvs:List (Key × V)},D.nxp ps=true→Rpk Y F ps kvs→Rpk Y' F ps kvs
 | _,_,_,.nil=>.nil
 | (k,d) :: ps,_,n,.cons h r t =>
  have n':((D.nx k && D.nx d) && D.nxp ps)=true:=n
  .cons h (Rp.dn e (aY.mp (aY.mp n').1).2 r) (Rpk.dn e (aY.mp n').2 t)
theorem Rpt.dn (e:YEq Y Y'):∀ {ps:List (D × D)} {xs:List (NestedKey × Addr × Value)},D.nxp ps=true→Rpt Y F ps xs→Rpt Y' F ps xs
 | _,_,_,.nil=>.nil
 | (kk,d) :: ps,_,n,.cons h z k r u t =>
  have n':((D.nx kk && D.nx d) && D.nxp ps)=true:=n
  .cons h z (Rp.dn e (aY.mp (aY.mp n').1).1 k) (Rp.dn e (aY.mp (aY.mp n').1).2 r) u (Rpt.dn e (aY.mp n').2 t)
end

mutual
theorem Rp.nx (h0:Y.pn=jR):∀ {d:D} {v:V},Rp Y F d v→d.nx=true
 | _,_,.non=>rfl
 | _,_,.bl b=>rfl
 | _,_,.int i=>rfl
 | _,_,.str x=>rfl
 | _,_,.tup h r=>Rps.nx h0 r
 | _,_,.lst h r=>Rps.nx h0 r
 | _,_,.arr h r=>Rps.nx h0 r
 | _,_,.dk h r=>Rpk.nx h0 r
 | _,_,.dt h o r=>Rpt.nx h0 r
 | _,_,.loc h=>rfl
 | _,_,.exc h=>by rw [h0] at h; cases h
 | _,_,.fd h r=>Rpk.nx h0 r
 | _,_,.tb h=>rfl
theorem Rps.nx (h0:Y.pn=jR):∀ {ds:List D} {vs:List V},Rps Y F ds vs→D.nxs ds=true
 | _,_,.nil=>rfl
 | d :: ds,_,.cons h r=>by
  show (D.nx d && D.nxs ds)=true
  rw [Rp.nx h0 h,Rps.nx h0 r]; rfl
theorem Rpk.nx (h0:Y.pn=jR):∀ {ps:List (D × D)} {kvs:List (Key × V)},Rpk Y F ps kvs→D.nxp ps=true
 | _,_,.nil=>rfl
 | (k,d) :: ps,_,.cons h r t=>by
  show ((D.nx k && D.nx d) && D.nxp ps)=true
  rw [zA h,Rp.nx h0 r,Rpk.nx h0 t]; rfl
theorem Rpt.nx (h0:Y.pn=jR):∀ {ps:List (D × D)} {xs:List (NestedKey × Addr × Value)},Rpt Y F ps xs→D.nxp ps=true
 | _,_,.nil=>rfl
 | (kk,d) :: ps,_,.cons h z k r u t=>by
  show ((D.nx kk && D.nx d) && D.nxp ps)=true
  rw [Rp.nx h0 k,Rp.nx h0 r,Rpt.nx h0 t]; rfl
end

theorem TpW.up (e:YLe Y Y') {d:D} {v:V}:TpW Y F H d v→TpW Y' F H d v
 | .lst h r=>.lst h (r.up e)
 | .dk h r=>.dk h (r.up e)
 | .dt h o r=>.dt h (o.to e.P e.w) (r.up e)
theorem TpW.dn (e:YEq Y Y') {d:D} {v:V} (n:d.nx=true):TpW Y F H d v→TpW Y' F H d v
 | .lst h r=>.lst h (r.dn e n)
 | .dk h r=>.dk h (r.dn e n)
 | .dt h o r=>.dt h (o.to e.P e.w) (r.dn e n)
theorem TpW.nx (h0:Y.pn=jR) {d:D} {v:V}:TpW Y F H d v→d.nx=true
 | .lst h r=>r.nx h0
 | .dk h r=>r.nx h0
 | .dt h o r=>r.nx h0

def Cell.nx:Cell→Prop
 | .obj d=>d.nx=true
 | .ins _ fs=>∀ f d,fs.lookup f=some d→d.nx=true
 | .fz=>True
theorem FldR.map {fs:List (Str × D)} {fv:List (Str × V)} (h:FldR Y F fs fv) (k:∀ f d v,fs.lookup f=some d→Rp Y F d v→Rp Y' F d v):FldR Y' F fs fv:=fun f=>by
 have q:=h f
 cases el:fs.lookup f with
 | none=>rw [el] at q; exact q
 | some d =>
  rw [el] at q
  obtain ⟨v,e1,r⟩:=q
  exact ⟨v,e1,k f d v el r⟩
theorem CellR.up (e:YLe Y Y') {n:Nat} {c:Cell}:CellR Y F B H n c→CellR Y' F B H n c
 | .obj k t=>.obj k (t.up e)
 | .ins k h z f=>.ins k (by rw [e.K]; exact h) z (f.map fun _ _ _ _ r=>r.up e)
 | .fz=>.fz
theorem CellR.dn (e:YEq Y Y') {n:Nat} {c:Cell} (hc:c.nx):CellR Y F B H n c→CellR Y' F B H n c
 | .obj k t=>.obj k (t.dn e hc)
 | .ins k h z f=>.ins k (by rw [e.K]; exact h) z (f.map fun f d _ hf r=>r.dn e (hc f d hf))
 | .fz=>.fz
theorem CellR.nx (h0:Y.pn=jR) {n:Nat} {c:Cell}:CellR Y F B H n c→c.nx
 | .obj k t=>t.nx h0
 | .ins (fs:=fs) (fv:=fv) k h z f=>fun g d hd=>by
  have q:=f g
  rw [hd] at q
  obtain ⟨_,_,r⟩:=q
  exact Rp.nx h0 r
 | .fz=>trivial
variable {g:Gh} {σ:L2.St} {l:Lc} {s:cj}
theorem SlR.up (e:YLe Y Y') {z:Sl} {v:V} (h:SlR Y g H z v):SlR Y' g H z v:=by
 obtain ⟨k,d⟩:=z
 cases k with
 | fr=>exact Rp.up e h
 | bo=>exact h.imp (fun q=>q.up e) fun q=>q.up e
 | ow=>exact ⟨h.1.up e,h.2⟩
 | nw=>exact h
theorem SlR.dn (e:YEq Y Y') {z:Sl} {v:V} (n:z.d.nx=true) (h:SlR Y g H z v):SlR Y' g H z v:=by
 obtain ⟨k,d⟩:=z
 cases k with
 | fr=>exact Rp.dn e n h
 | bo=>exact h.imp (fun q=>q.dn e n) fun q=>q.dn e n
 | ow=>exact ⟨h.1.dn e n,h.2⟩
 | nw=>exact h
theorem SlR.nx (h0:Y.pn=jR) {z:Sl} {v:V} (h:SlR Y g H z v):z.d.nx=true:=by
 obtain ⟨k,d⟩:=z
 cases k with
 | fr=>exact Rp.nx h0 h
 | bo=>exact h.elim (fun q=>Rp.nx h0 q) fun q=>q.nx h0
 | ow=>exact h.1.nx h0
 | nw=>exact h.elim
theorem SR.up (e:YLe Y Y') (S:SR Y g σ H l s):SR Y' g σ H l s :=
 ⟨S.sB,S.sF,S.len,fun i z hz=>let ⟨v,h1,h2⟩:=S.sl i z hz; ⟨v,h1,h2.up e⟩,S.ow,⟨fun n c h=>(S.st.at_ n c h).up e,S.st.lv,S.st.lt,S.st.no,S.st.mb⟩⟩
theorem SR.dn (e:YEq Y Y') (S:SR Y g σ H l s) (hl:∀ (i:Nat) (z:Sl),l[i]?=some (some z)→z.d.nx=true) (hs:∀ (n:Nat) (c:Cell),s[n]?=some c→c.nx):SR Y' g σ H l s :=
 ⟨S.sB,S.sF,S.len,fun i z hz=>let ⟨v,h1,h2⟩:=S.sl i z hz; ⟨v,h1,h2.dn e (hl i z hz)⟩,S.ow,⟨fun n c h=>(S.st.at_ n c h).dn e (hs n c h),S.st.lv,S.st.lt,S.st.no,S.st.mb⟩⟩
theorem SR.nxL (h0:Y.pn=jR) (S:SR Y g σ H l s) {i:Nat} {z:Sl} (h:l[i]?=some (some z)):z.d.nx=true:=let ⟨_,_,h2⟩:=S.sl i z h; h2.nx h0
theorem SR.nxS (h0:Y.pn=jR) (S:SR Y g σ H l s) {n:Nat} {c:Cell} (h:s[n]?=some c):c.nx:=(S.st.at_ n c h).nx h0

theorem SR.gone (S:SR Y g σ H l s) (i:Nat):SR Y g (σ.set i none) H (l.set i none) s:=by
 have key:∀ {j:Nat} {z:Sl},(l.set i none)[j]?=some (some z)→j≠i∧l[j]?=some (some z):=fun {j z} h=>by
  by_cases e:i=j
  ·subst e
   by_cases hl:i < l.length
   ·rw [aJ hl] at h; cases h
   ·rw [aS (by simpa using hl)] at h; cases h
  ·rw [ay e] at h
   exact ⟨fun q=>e q.symm,h⟩
 refine ⟨S.sB,S.sF,by rw [aH,aH]; exact S.len,fun j z hz=>?_,fun j k z y a h1 h2 k1 k2 e1 e2=>?_,S.st⟩
 ·obtain ⟨hj,hz⟩:=key hz
  obtain ⟨v,h1,h2⟩:=S.sl j z hz
  exact ⟨v,by rw [ay (Ne.symm hj)]; exact h1,h2⟩
 ·obtain ⟨n1,h1⟩:=key h1
  obtain ⟨n2,h2⟩:=key h2
  rw [ay (Ne.symm n1)] at e1
  rw [ay (Ne.symm n2)] at e2
  exact S.ow j k z y a h1 h2 k1 k2 e1 e2
end


inductive S where
 | nil | cons (a b:S)
 | pass | brk | cont
 | ex (x:X) | set (t:T) (x:X) | own (i:Nat) (x:X) | aug (i:Nat) (x:X)
 | fz (is:List Nat) (a:S)
 | ife (c:X) (a b:S) | loop (t:T) (it:X) (b:S) | whl (c:X) (b:S)
 | ret (x:X) | retN | rse (c:Str)
 | app (i:Nat) (x:X) | ext (i:Nat) (x:X) | appPop (i j:Nat) (x:X) | popT (t:T) (i:Nat) (x:X) | popX (i:Nat) (x:X) | rvs (i:Nat)
 | sub (i:Nat) (k v:X) | setS (i j:Nat) (k x:X)
 | fset (c f:Str) (o x:X) | csub (o k v:X) | capp (o x:X) | crev (o:X) | sdap (i:Nat) (k x:X) | upd (i:Nat) (x:X) | ins (i:Nat) (k x:X) | swS (i:Nat) (k h x:X)
 | tr (b hs:S) | hd (c:Str) (a r:S)
 | trA (b:S) (c:Str) (i:Nat) (a:S) | rseA (c:Str) (x:X)
inductive Out where
 | nx (l:Lc) (s:cj) | bk (l:Lc) (s:cj) | ct (l:Lc) (s:cj) | rt (d:D) (t:Tag) (s:cj)

def fzL (l:Lc):List Nat→Lc
 | []=>l
 | i :: is=>let l:=fzL l is
  match l[i]? with
  | some (some ⟨.ow,d⟩)=>l.set i (some ⟨.fr,d⟩)
  | _=>l

def dF (k:Lc→cj→R Out):Out→R Out
 | .nx l s=>k l s
 | .ct l s=>k l s
 | .bk l s=>.ok (.nx l s)
 | .rt d t s=>.ok (.rt d t s)
def gO (body:D→Lc→cj→R Out):List D→Lc→cj→R Out
 | [],l,s=>.ok (.nx l s)
 | x :: xs,l,s=>(body x l s).bind (dF (gO body xs))

def kE (c:Lc→cj→R (Bool × cj)) (body:Lc→cj→R Out):Nat→Lc→cj→R Out
 | 0,_,_=>.no
 | n+1,l,s=>(c l s).bind fun (b,s1)=>if b=true then (body l s1).bind (dF (kE c body n)) else .ok (.nx l s1)

open Classical in
noncomputable def jy (c:Lc→cj→R (Bool × cj)) (body:Lc→cj→R Out) (l:Lc) (s:cj):R Out :=
 if h:∃ n,kE c body n l s≠.no then kE c body h.choose l s else .no
noncomputable def dM (fs:List Fn) (gs:List D) (c:X) (l:Lc) (s:cj):R (Bool × cj):=(b9 fs gs c l s).bind fun (x,_,s1)=>match x with | .bl b=>.ok (b,s1) | _=>.no

def i9 (ds:List D) (i:Option Int):Option (D × List D):=match i with
 | none=>match ds[ds.length - 1]? with
  | some d=>some (d,ds.dropLast)
  | none=>none
 | some i=>if -(2 ^ 63)≤i∧i < 2 ^ 63 then match seqIndex? i ds.length with
  | some k=>match ds[k]? with
   | some d=>some (d,ds.eraseIdx k)
   | none=>none
  | none=>none
  else none

noncomputable def dO (fs:List Fn) (gs:List D) (x:X) (l:Lc) (s:cj):R (Option Int × cj) :=
 if x.isNil=true then .ok (none,s) else (b9 fs gs x l s).bind fun (p,_,s1)=>match p with | .int i=>.ok (some i,s1) | _=>.no
def sg (t:Tag) (d:D):Option Tag:=match t with
 | .fr=>some .fr
 | .nw=>some .nw
 | .ow=>some .nw
 | .bo=>if d.still=true then some .fr else none
noncomputable def kF (c k v:D):Option D:=match c with
 | .lst ds=>match k with
  | .int i=>match ixN ds.length i with
   | some j=>some (.lst (ds.set j v))
   | none=>none
  | _=>none
 | .dic kk kvs=>if D.isKey kk k=true∧kvs.length < sizeLine then some (.dic kk (D.put kvs k v)) else none
 | _=>none

def mU (f:Str) (d:D):List (Str × D)→List (Str × D)
 | []=>[(f,d)]
 | (g,x) :: r=>if g=f then (g,d) :: r else (g,x) :: mU f d r

def t7 (i:Nat) (l1 l2:Lc):Prop:=∀ (j:Nat) (z:Sl),j≠i→l2[j]?=some (some z)→l1[j]?=some (some z)∨z.d.nx=true

open Classical in
noncomputable def mj (i:Nat) (l1:Lc) (s1:cj):R Out→R Out
 | .ok (.nx l2 s2)=>if s2=s1∧t7 i l1 l2 then .ok (.nx (l2.set i none) s2) else .no
 | _=>.no

noncomputable def qN (ps qs:List (D × D)):List (D × D):=qs.foldl (fun acc p=>D.put acc p.1 p.2) ps

noncomputable def wo (fs:List Fn) (gs:List D) (i:Nat) (k:X) (y:D) (l:Lc) (s:cj):R Out:=match l[i]? with
 | some (some ⟨.ow,c⟩)=>cg (b9 fs gs k l s) fun x s2=>match kF c x y with
  | some c'=>.ok (.nx (l.set i (some ⟨.ow,c'⟩)) s2)
  | none=>.no
 | _=>.no

noncomputable def zB (fs:List Fn) (gs:List D) (n:Nat) (x:X) (l:Lc) (s:cj):R Out:=match s[n]? with
 | some (.obj (.lst _))=>cg (b9 fs gs x l s) fun d s2=>match s2[n]? with
  | some (.obj (.lst ds))=>if ds.length < sizeLine then .ok (.nx l (s2.set n (.obj (.lst (ds++[d]))))) else .no
  | _=>.no
 | _=>.no
mutual
noncomputable def cF (fs:List Fn) (gs:List D) (ms:Str→Str→Option Bool):S→Lc→cj→R Out
 | .nil,l,s=>.ok (.nx l s)
 | .cons a b,l,s=>(cF fs gs ms a l s).bind fun o=>match o with
  | .nx l1 s1=>cF fs gs ms b l1 s1
  | o=>.ok o
 | .pass,l,s=>.ok (.nx l s)
 | .brk,l,s=>.ok (.bk l s)
 | .cont,l,s=>.ok (.ct l s)
 | .ex x,l,s=>(b9 fs gs x l s).bind fun (_,_,s1)=>.ok (.nx l s1)
 | .set t x,l,s=>cg (b9 fs gs x l s) fun d s1=>match T.put t d l with | some l1=>.ok (.nx l1 s1) | none=>.no
 | .own i x,l,s=>(b9 fs gs x l s).bind fun (d,t,s1)=>if t=.nw then .ok (.nx (l.set i (some ⟨.ow,d⟩)) s1) else if (t=.bo∨t=.ow)∧d.still=false then .no else .ok (.nx (l.set i (some ⟨.fr,d⟩)) s1)
 | .aug i x,l,s=>match l[i]? with
  | some (some ⟨_,.int a⟩)=>(b9 fs gs x l s).bind fun (d,_,s1)=>match d with | .int b=>.ok (.nx (l.set i (some ⟨.fr,.int (a+b)⟩)) s1) | _=>.no
  | some (some ⟨.ow,.lst ds⟩)=>(b9 fs gs x l s).bind fun (d,_,s1)=>match d with | .lst es=>if ds.length+es.length≤sizeLine then .ok (.nx (l.set i (some ⟨.ow,.lst (ds++es)⟩)) s1) else .no | _=>.no
  | _=>.no
 | .fz is a,l,s=>cF fs gs ms a (fzL l is) s
 | .ife c a b,l,s=>(dM fs gs c l s).bind fun (x,s1)=>if x=true then cF fs gs ms a l s1 else cF fs gs ms b l s1
 | .loop t it b,l,s=>(gM fs gs it l s).bind fun (ds,s1)=>gO (fun d l s=>match T.put t d l with | some l1=>cF fs gs ms b l1 s | none=>.no) ds l s1
 | .whl c b,l,s=>jy (dM fs gs c) (cF fs gs ms b) l s
 | .ret x,l,s=>(b9 fs gs x l s).bind fun (d,t,s1)=>match sg t d with | some t'=>.ok (.rt d t' s1) | none=>.no
 | .retN,_,s=>.ok (.rt .non .fr s)
 | .rse c,l,s=>.er ⟨c,none⟩ s l
 | .app i x,l,s=>match l[i]? with
  | some (some ⟨.ow,.lst ds⟩)=>cg (b9 fs gs x l s) fun d s1=>if ds.length < sizeLine then .ok (.nx (l.set i (some ⟨.ow,.lst (ds++[d])⟩)) s1) else .no
  | _=>.no
 | .ext i x,l,s=>match l[i]? with
  | some (some ⟨.ow,.lst ds⟩)=>(b9 fs gs x l s).bind fun (d,_,s1)=>match d with
   | .lst es=>if ds.length+es.length≤sizeLine then .ok (.nx (l.set i (some ⟨.ow,.lst (ds++es)⟩)) s1) else .no
   | .tup es=>if ds.length+es.length≤sizeLine then .ok (.nx (l.set i (some ⟨.ow,.lst (ds++es)⟩)) s1) else .no
   | _=>.no
  | _=>.no
 | .appPop i j x,l,s=>match l[i]?,l[j]? with
  | some (some ⟨.ow,.lst ds⟩),some (some ⟨.ow,.lst es⟩)=>if i=j then .no else (dO fs gs x l s).bind fun (p,s1)=>match i9 es p with
   | some (d,es')=>if ds.length < sizeLine then .ok (.nx ((l.set j (some ⟨.ow,.lst es'⟩)).set i (some ⟨.ow,.lst (ds++[d])⟩)) s1) else .no
   | none=>.no
  | _,_=>.no
 | .popT t j x,l,s=>match l[j]? with
  | some (some ⟨.ow,.lst es⟩)=>(dO fs gs x l s).bind fun (p,s1)=>match i9 es p with
   | some (d,es')=>match T.put t d (l.set j (some ⟨.ow,.lst es'⟩)) with | some l1=>.ok (.nx l1 s1) | none=>.no
   | none=>.no
  | _=>.no
 | .popX j x,l,s=>match l[j]? with
  | some (some ⟨.ow,.lst es⟩)=>(dO fs gs x l s).bind fun (p,s1)=>match i9 es p with
   | some (_,es')=>.ok (.nx (l.set j (some ⟨.ow,.lst es'⟩)) s1)
   | none=>.no
  | _=>.no
 | .rvs j,l,s=>match l[j]? with
  | some (some ⟨.ow,.lst es⟩)=>.ok (.nx (l.set j (some ⟨.ow,.lst es.reverse⟩)) s)
  | _=>.no
 | .sub i k v,l,s=>cg (b9 fs gs v l s) fun y s1=>match l[i]? with
  | some (some ⟨.ow,c⟩)=>cg (b9 fs gs k l s1) fun x s2=>match kF c x y with
   | some c'=>.ok (.nx (l.set i (some ⟨.ow,c'⟩)) s2)
   | none=>.no
  | _=>.no
 | .setS i j k x,l,s=>cg (b9 fs gs x l s) fun d s1=>match d with
  | .tup [a,y]=>match (l.set i (some ⟨.fr,a⟩))[j]? with
   | some (some ⟨.ow,c⟩)=>cg (b9 fs gs k (l.set i (some ⟨.fr,a⟩)) s1) fun x s2=>match kF c x y with
    | some c'=>.ok (.nx ((l.set i (some ⟨.fr,a⟩)).set j (some ⟨.ow,c'⟩)) s2)
    | none=>.no
   | _=>.no
  | _=>.no
 | .fset c f o x,l,s=>cg (b9 fs gs x l s) fun d s1=>(b9 fs gs o l s1).bind fun (z,_,s2)=>match z with
  | .loc n=>match pq s2 c (.loc n) with
   | some fv=>if fv.length < 900 then .ok (.nx l (s2.set n (.ins c (mU f d fv)))) else .no
   | none=>.no
  | _=>.no
 | .csub o k v,l,s=>cg (b9 fs gs v l s) fun y s1=>(b9 fs gs o l s1).bind fun (z,_,s2)=>match z with
  | .loc n=>cg (b9 fs gs k l s2) fun x s3=>match s3[n]? with
   | some (.obj c)=>match kF c x y with
    | some c'=>.ok (.nx l (s3.set n (.obj c')))
    | none=>.no
   | _=>.no
  | _=>.no
 | .capp o x,l,s=>(b9 fs gs o l s).bind fun (z,_,s1)=>match z with
  | .loc n=>match s1[n]? with
   | some (.obj (.lst _))=>cg (b9 fs gs x l s1) fun d s2=>match s2[n]? with
    | some (.obj (.lst ds))=>if ds.length < sizeLine then .ok (.nx l (s2.set n (.obj (.lst (ds++[d]))))) else .no
    | _=>.no
   | _=>.no
  | _=>.no
 | .upd i x,l,s=>match l[i]? with
  | some (some ⟨.ow,.dic false ps⟩)=>(b9 fs gs x l s).bind fun (y,t,s1)=>match t,y with
   | .nw,.dic false qs=>if ps.length+qs.length≤sizeLine then .ok (.nx (l.set i (some ⟨.ow,.dic false (qN ps qs)⟩)) s1) else .no
   | _,_=>.no
  | _=>.no
 | .ins i k x,l,s=>match l[i]? with
  | some (some ⟨.ow,.lst ds⟩)=>(b9 fs gs k l s).bind fun (y,_,s1)=>match y with
   | .int j=>if 0≤j∧j < 2 ^ 63∧ds.length < sizeLine then cg (b9 fs gs x l s1) fun d s2=>.ok (.nx (l.set i (some ⟨.ow,.lst (ds.take j.toNat++[d]++ds.drop j.toNat)⟩)) s2) else .no
   | _=>.no
  | _=>.no
 | .swS i k h x,l,s=>cg (b9 fs gs x l s) fun d s1=>match d with
  | .tup [a,b]=>(wo fs gs i k a l s1).bind (dF fun l2 s2=>wo fs gs i h b l2 s2)
  | _=>.no
 | .sdap i k x,l,s=>match l[i]? with
  | some (some ⟨.ow,.dic false kvs⟩)=>cg (b9 fs gs k l s) fun y s1=>if (D.keyOf y).isSome=true∧kvs.length < sizeLine∧s1≠[] then match D.look kvs y with
    | some (.loc n)=>zB fs gs n x l s1
    | some _=>.no
    | none=>zB fs gs s1.length x (l.set i (some ⟨.ow,.dic false (D.put kvs y (.loc s1.length))⟩)) (s1++[.obj (.lst [])])
   else .no
  | _=>.no
 | .crev o,l,s=>(b9 fs gs o l s).bind fun (z,_,s1)=>match z with
  | .loc n=>match s1[n]? with
   | some (.obj (.lst ds))=>.ok (.nx l (s1.set n (.obj (.lst ds.reverse))))
   | _=>.no
  | _=>.no
 | .tr b hs,l,s=>match cF fs gs ms b l s with
  | .er e s1 l1=>nK fs gs ms e hs l1 s1
  | r=>r
 | .trA b c i a,l,s=>match cF fs gs ms b l s with
  | .er e s1 l1=>match ms e.cls c with
   | some true=>mj i l1 s1 (cF fs gs ms a (l1.set i (some ⟨.fr,.exc e.cls⟩)) s1)
   | some false=>.er e s1 l1
   | none=>.no
  | r=>r
 | _,_,_=>.no
noncomputable def nK (fs:List Fn) (gs:List D) (ms:Str→Str→Option Bool) (e:Ex):S→Lc→cj→R Out
 | .hd c a r,l,s=>match ms e.cls c with
  | some true=>R.noEr (cF fs gs ms a l s)
  | some false=>nK fs gs ms e r l s
  | none=>.no
 | .nil,l,s=>.er e s l
 | _,_,_=>.no
end


section
variable {c:Lc→cj→R (Bool × cj)} {body:Lc→cj→R Out}
theorem pU:∀ {n:Nat} {l:Lc} {s:cj},kE c body n l s≠.no→kE c body (n+1) l s=kE c body n l s
 | 0,l,s,h=>absurd rfl h
 | n+1,l,s,h=>by
  have e1:∀ n,kE c body (n+1) l s=(c l s).bind fun (b,s1)=>if b=true then (body l s1).bind (dF (kE c body n)) else .ok (.nx l s1):=fun _=>rfl
  rw [e1 n] at h
  rw [e1 (n+1),e1 n]
  cases e:c l s with
  | ok p =>
   obtain ⟨b,s1⟩:=p
   rw [e] at h
   cases b with
   | false=>rfl
   | true =>
    have h:(body l s1).bind (dF (kE c body n))≠R.no:=h
    show (body l s1).bind (dF (kE c body (n+1)))=(body l s1).bind (dF (kE c body n))
    cases eb:body l s1 with
    | ok o =>
     rw [eb] at h
     cases o with
     | nx l1 s2=>exact pU h
     | ct l1 s2=>exact pU h
     | bk l1 s2=>rfl
     | rt d t s2=>rfl
    | er _ _ _=>rfl
    | no=>rfl
  | er _ _ _=>rfl
  | no=>rfl
theorem t8 {n m:Nat} {l:Lc} {s:cj} (h:kE c body n l s≠.no) (hm:n≤m):kE c body m l s=kE c body n l s:=by
 induction m with
 | zero =>
  obtain rfl:n=0:=by omega
  rfl
 | succ m ih =>
  by_cases e:n=m+1
  ·rw [e]
  ·have:=ih (by omega)
   rw [pU (by rw [this]; exact h),this]
theorem ji {n:Nat} {l:Lc} {s:cj} {r:R Out} (h:kE c body n l s=r) (hr:r≠.no):jy c body l s=r:=by
 unfold jy
 have hx:∃ n,kE c body n l s≠.no:=⟨n,by rw [h]; exact hr⟩
 rw [dif_pos hx]
 have h1:=hx.choose_spec
 have h2:kE c body n l s≠.no:=by rw [h]; exact hr
 rw [← h,← t8 h1 (Nat.le_max_left hx.choose n),t8 h2 (Nat.le_max_right hx.choose n)]
theorem t9 {l:Lc} {s:cj} (h:jy c body l s≠.no):∃ n,kE c body n l s=jy c body l s:=by
 unfold jy at h ⊢
 split
 ·rename_i hx
  exact ⟨_,rfl⟩
 ·rename_i hx
  rw [dif_neg hx] at h
  exact absurd rfl h

theorem pV (l:Lc) (s:cj):jy c body l s=(c l s).bind fun (b,s1)=>if b=true then (body l s1).bind (dF (jy c body)) else .ok (.nx l s1):=by
 have e1:∀ n,kE c body (n+1) l s=(c l s).bind fun (b,s1)=>if b=true then (body l s1).bind (dF (kE c body n)) else .ok (.nx l s1):=fun _=>rfl
 cases e:c l s with
 | er a b d=>exact ji (n:=1) (by rw [e1,e]; rfl) (by intro h; cases h)
 | no =>
  unfold jy
  rw [dif_neg]
  ·rfl
  ·rintro ⟨n,h⟩
   cases n with
   | zero=>exact h rfl
   | succ n=>rw [e1,e] at h; exact h rfl
 | ok p =>
  obtain ⟨b,s1⟩:=p
  cases b with
  | false=>exact ji (n:=1) (by rw [e1,e]; rfl) (by intro h; cases h)
  | true =>
   show _=(body l s1).bind _
   cases eb:body l s1 with
   | er a b d=>exact ji (n:=1) (by rw [e1,e]; show (body l s1).bind _=_; rw [eb]; rfl) (by intro h; cases h)
   | no =>
    unfold jy
    rw [dif_neg]
    ·rfl
    ·rintro ⟨n,h⟩
     cases n with
     | zero=>exact h rfl
     | succ n =>
      rw [e1,e] at h
      have h:(body l s1).bind _≠R.no:=h
      rw [eb] at h
      exact h rfl
   | ok o =>
    have go:∀ l1 s2,(o=.nx l1 s2∨o=.ct l1 s2)→jy c body l s=jy c body l1 s2:=fun l1 s2 ho=>by
     have st:∀ n,kE c body (n+1) l s=kE c body n l1 s2:=fun n=>by
      rw [e1,e]
      show (body l s1).bind _=_
      rw [eb]
      rcases ho with rfl | rfl <;> rfl
     by_cases h:jy c body l1 s2=.no
     ·rw [h]
      unfold jy
      rw [dif_neg]
      rintro ⟨n,hn⟩
      cases n with
      | zero=>exact hn rfl
      | succ n =>
       rw [st] at hn
       have:=ji rfl hn
       rw [h] at this
       exact hn this.symm
     ·obtain ⟨n,hn⟩:=t9 h
      exact ji (n:=n+1) (by rw [st,hn]) h
    cases o with
    | nx l1 s2=>exact go l1 s2 (.inl rfl)
    | ct l1 s2=>exact go l1 s2 (.inr rfl)
    | bk l1 s2=>exact ji (n:=1) (by rw [e1,e]; show (body l s1).bind _=_; rw [eb]; rfl) (by intro h; cases h)
    | rt d t s2=>exact ji (n:=1) (by rw [e1,e]; show (body l s1).bind _=_; rw [eb]; rfl) (by intro h; cases h)
end
section
variable {Y:Wd} {g g':Gh} {σ:L2.St} {H H':Hp} {l:Lc} {s s':cj} {d:D} {v:V} {p:Addr} {o:HO}

theorem SR.forget (S:SR Y g σ H l s) (i:Nat):SR Y g σ H (l.set i none) s:=by
 have hv:∀ {j:Nat} {z:Sl},(l.set i none)[j]?=some (some z)→i≠j∧l[j]?=some (some z):=fun {j z} h=>by
  by_cases e:i=j
  ·subst e
   by_cases hlt:i < l.length
   ·rw [aJ hlt] at h; cases h
   ·rw [aS (by rw [aH]; omega)] at h; cases h
  ·rw [ay e] at h
   exact ⟨e,h⟩
 exact ⟨S.sB,S.sF,by rw [aH]; exact S.len,fun j z hz=>S.sl j z (hv hz).2,fun j k z y a h1 h2=>S.ow j k z y a (hv h1).2 (hv h2).2,S.st⟩

theorem SR.setO (S:SR Y g σ H l s) (i:Nat) (r:VN Y g σ H l d v):SR Y g (σ.set i (some v)) H (l.set i (some ⟨.ow,d⟩)) s:=by
 obtain ⟨a,rfl,hF,hB,tp,no⟩:=r
 have look:∀ {j:Nat} {z:Sl},(l.set i (some ⟨.ow,d⟩))[j]?=some (some z)→(i=j∧z=⟨.ow,d⟩∧i < l.length)∨(i≠j∧l[j]?=some (some z)):=fun {j z} h=>by
  by_cases e:i=j
  ·subst e
   have hlt:i < l.length:=by
    have:=(au.mp h).1
    rwa [aH] at this
   rw [aJ hlt] at h
   exact .inl ⟨rfl,(ad (ad h)).symm,hlt⟩
  ·rw [ay e] at h
   exact .inr ⟨e,h⟩
 refine ⟨S.sB,S.sF,by rw [aH,aH]; exact S.len,fun j z hz=>?_,fun j k z y b h1 h2 k1 k2 e1 e2=>?_,S.st⟩
 ·rcases look hz with ⟨rfl,rfl,hlt⟩ | ⟨hj,hz⟩
  ·exact ⟨.ref a,by rw [aJ (by rw [S.len]; exact hlt)],tp,fun b e=>by cases e; exact ⟨hF.1,hB,hF.2⟩⟩
  ·rw [ay hj]
   exact S.sl j z hz
 ·rcases look h1 with ⟨rfl,rfl,hlt⟩ | ⟨hj,hz⟩
  ·rcases look h2 with ⟨rfl,rfl,_⟩ | ⟨hk,hy⟩
   ·rfl
   ·rw [aJ (by rw [S.len]; exact hlt)] at e1
    cases e1
    rw [ay hk] at e2
    obtain ⟨ky,dy⟩:=y
    cases k2
    exact absurd hy (no k dy e2)
  ·rw [ay hj] at e1
   rcases look h2 with ⟨rfl,rfl,hlt⟩ | ⟨hk,hy⟩
   ·rw [aJ (by rw [S.len]; exact hlt)] at e2
    cases e2
    obtain ⟨kz,dz⟩:=z
    cases k1
    exact absurd hz (no j dz e1)
   ·rw [ay hk] at e2
    exact S.ow j k z y b hz hy k1 k2 e1 e2
theorem lg {α:Type} {l:List α} {i:Nat} {x:α} (h:l[i]?=some x):l.set i x=l:=by
 obtain ⟨hlt,e⟩:=au.mp h
 rw [← e]
 exact List.set_getElem_self hlt
theorem oq {α:Type} {l:List α} {i:Nat} {x y:α}:(l.set i x).set i y=l.set i y:=List.set_set ..

theorem SR.alone (S:SR Y g σ H l s) {i:Nat} {a:Addr} (h1:σ[i]?=some (some (.ref a))) (h2:l[i]?=some (some ⟨.ow,d⟩)):∀ (j:Nat) (d':D),σ[j]?=some (some (.ref a))→(l.set i none)[j]?≠some (some ⟨.ow,d'⟩):=fun j d' e1 e2=>by
 by_cases e:i=j
 ·subst e
  have hlt:i < l.length:=(au.mp h2).1
  rw [aJ hlt] at e2
  cases e2
 ·rw [ay e] at e2
  exact e (S.ow i j ⟨.ow,d⟩ ⟨.ow,d'⟩ a h2 e2 rfl rfl h1 e1)

theorem SR.fz (S:SR Y g σ H l s) {i:Nat} (h2:l[i]?=some (some ⟨.ow,d⟩)):∃ g',Ext g g'∧SR Y g' σ H (l.set i (some ⟨.fr,d⟩)) s:=by
 obtain ⟨v,h1,tp,no⟩:=S.sl i _ h2
 obtain ⟨a,rfl,hs⟩:=tp.isRef
 obtain ⟨hF,hB,hm⟩:=no a rfl
 have S1:=S.forget i
 obtain ⟨u,hu⟩:=aZ.mp hs
 obtain ⟨S2,E⟩:=S1.add hu hF hm hB (S.alone h1 h2)
 refine ⟨_,E,?_⟩
 have rp:Rp Y (g.F.upd a u) d (.ref a):=by
  cases tp with
  | lst h r=>rw [h] at hu; cases hu; exact .lst upd_same (r.mono E.f)
  | dk h r=>rw [h] at hu; cases hu; exact .dk upd_same (r.mono E.f)
  | dt h w r=>rw [h] at hu; cases hu; exact .dt upd_same w (r.mono E.f)
 have S3:=S2.set i rp
 rw [lg h1,oq] at S3
 exact S3
theorem SR.fzL (S:SR Y g σ H l s):∀ is:List Nat,∃ g',Ext g g'∧SR Y g' σ H (fzL l is) s
 | []=>⟨g,.refl g,S⟩
 | i :: is=>by
  obtain ⟨g1,e1,S1⟩:=S.fzL is
  show ∃ g',Ext g g'∧SR Y g' σ H (match (GM.fzL l is)[i]? with
   | some (some ⟨.ow,d⟩)=>(GM.fzL l is).set i (some ⟨.fr,d⟩)
   | _=>GM.fzL l is) s
  split
  ·rename_i d h
   obtain ⟨g2,e2,S2⟩:=S1.fz h
   exact ⟨g2,e1.trans e2,S2⟩
  ·exact ⟨g1,e1,S1⟩

theorem SR.wrO (S:SR Y g σ H l s) {i:Nat} {a:Addr} {d':D} (h1:σ[i]?=some (some (.ref a))) (h2:l[i]?=some (some ⟨.ow,d⟩)) (tp:TpW Y g.F (upd H a o) d' (.ref a)):SR Y g σ (upd H a o) (l.set i (some ⟨.ow,d'⟩)) s:=by
 obtain ⟨hF,hB,hm⟩:=(S.own h1 h2).2 a rfl
 have no:=S.alone h1 h2
 have S1:=(S.forget i).wr (o:=o) hF hm hB no
 have S2:=S1.setO i ⟨a,rfl,⟨hF,hm⟩,hB,tp,no⟩
 rw [lg h1,oq] at S2
 exact S2
end

def HY (Y:Wd) (g:Gh) (H:Hp) (d:D) (t:Tag) (v:V):Prop :=
 match t with
 | .fr=>Rp Y g.F d v
 | .nw=>∃ p,v=.ref p∧(g.F.h p=none∧∀ n,g.F.m p≠some n)∧g.B p=none∧TpW Y g.F H d v
 | _=>False
def KO (G:Gm) (E:Ends):Out→Gh→Prop:=fun o g=>match o with
 | .nx l s=>∀ σ' H',SR G.Y g σ' H' l s→E.nx σ' H'
 | .bk l s=>∀ σ' H',SR G.Y g σ' H' l s→E.bk σ' H'
 | .ct l s=>∀ σ' H',SR G.Y g σ' H' l s→E.ct σ' H'
 | .rt d t s=>∀ v H',Same g.B H'→Same g.F.h H'→StR G.Y g H' s→HY G.Y g H' d t v→E.rt v H'

def ValS {α:Type} (G:Gm) (W:WX) (g:Gh) (r:R α) (K:α→Gh→Prop):Prop :=
 match r with
 | .ok a=>∀ g',Ext g g'→K a g'
 | .er e s' l'=>∀ g' σ' H' c dd,Ext g g'→SR G.Y g' σ' H' l' s'→yi G.mg e c dd→W c dd σ' H'
 | .no=>False
def HZ (G:Gm) (ms:Str→Str→Option Bool) (W:WX) (x:S):TS:=fun E σ H=>∃ g l s,SR G.Y g σ H l s∧ValS G W g (cF G.fs G.gs ms x l s) (KO G E)
section
variable {α:Type} {G:Gm} {W:WX} {g g':Gh} {σ:L2.St} {H H':Hp} {l:Lc} {s s':cj} {K:α→Gh→Prop} {E:Ends}
theorem ValS.ext (e:Ext g g') {r:R α} (h:ValS G W g r K):ValS G W g' r K:=by
 cases r with
 | ok a=>exact fun g2 e2=>h g2 (e.trans e2)
 | er a b c=>exact fun g2 σ' H' c dd e2=>h g2 σ' H' c dd (e.trans e2)
 | no=>exact h
theorem ValS.toR {r:R α} (h:ValS G W g r K):ValR G W g σ r K:=by
 cases r with
 | ok a=>exact h
 | er a b c=>exact fun g2 H' c dd e2=>h g2 σ H' c dd e2
 | no=>exact h
theorem ValS.imp {r:R α} {K':α→Gh→Prop} (h:ValS G W g r K) (f:∀ a g',Ext g g'→K a g'→K' a g'):ValS G W g r K':=by
 cases r with
 | ok a=>exact fun g2 e2=>f a g2 e2 (h g2 e2)
 | er a b c=>exact h
 | no=>exact h

theorem ValS.split {β:Type} {r:R β} {k:β→R α} (h:ValS G W g (r.bind k) K):ValS G W g r (fun b g'=>ValS G W g' (k b) K):=by
 cases r with
 | ok a=>exact fun g2 e2=>ValS.ext e2 (show ValS G W g (k a) K from h)
 | er a b c=>exact h
 | no=>exact h
theorem gU {x:X} {k:VT→R α} (S:SR G.Y g σ H l s) (h:ValS G W g ((b9 G.fs G.gs x l s).bind k) K) {Q2:VK}
  (hk:∀ d t s1 g1 v H1,Ext g g1→SR G.Y g1 σ H1 l s1→VR G.Y g1 σ H1 l d t v→ValS G W g1 (k (d,t,s1)) K→Q2 v H1):rd G W x σ H Q2:=by
 refine ⟨g,l,s,S,?_⟩
 cases e:b9 G.fs G.gs x l s with
 | ok a =>
  obtain ⟨d,t,s1⟩:=a
  rw [e] at h
  exact fun g1 v H1 e1 S1 v1=>hk d t s1 g1 v H1 e1 S1 v1 (ValS.ext e1 h)
 | er a b c =>
  rw [e] at h
  exact fun g1 H1 c dd e1 S1=>h g1 σ H1 c dd e1 S1
 | no =>
  rw [e] at h
  exact h
theorem fY {x:X} {k:VT→R α} (S:SR G.Y g σ H l s) (h:ValS G W g ((b9 G.fs G.gs x l s).bind k) K) {Q2:VK}
  (hk:∀ d t s1 g1 v H1,Ext g g1→SR G.Y g1 σ H1 l s1→VS G.Y g1 σ l d v→ValS G W g1 (k (d,t,s1)) K→Q2 v H1):rd G W x σ H Q2 :=
 gU S h fun d t s1 g1 v H1 e1 S1 v1 h1=>by
  obtain ⟨g2,e2,S2,q⟩:=VR.stay S1 v1
  exact hk d t s1 g2 v H1 (e1.trans e2) S2 q (ValS.ext e2 h1)
theorem dv {x:X} {k:D→cj→R α} (S:SR G.Y g σ H l s) (h:ValS G W g (cg (b9 G.fs G.gs x l s) k) K) {Q2:VK}
  (hk:∀ d s1 g1 v H1,Ext g g1→SR G.Y g1 σ H1 l s1→Rp G.Y g1.F d v→ValS G W g1 (k d s1) K→Q2 v H1):rd G W x σ H Q2 :=
 gU S h fun d t s1 g1 v H1 e1 S1 v1 h1=>by
  have h1:ValS G W g1 (if (t=.bo∨t=.ow)∧d.still=false then R.no else k d s1) K:=h1
  by_cases c:(t=.bo∨t=.ow)∧d.still=false
  ·rw [aj c] at h1
   exact h1.elim
  ·rw [aq c] at h1
   obtain ⟨g2,e2,S2,q⟩:=VR.keep S1 v1 c
   exact hk d s1 g2 v H1 (e1.trans e2) S2 q (ValS.ext e2 h1)
theorem mm {x:X} {k:Bool × cj→R α} (S:SR G.Y g σ H l s) (h:ValS G W g ((dM G.fs G.gs x l s).bind k) K) {Q2:Bool→Hp→Prop}
  (hk:∀ b s1 g1 H1,Ext g g1→SR G.Y g1 σ H1 l s1→ValS G W g1 (k (b,s1)) K→Q2 b H1):js G W x σ H Q2:=by
 refine ⟨g,l,s,S,?_⟩
 unfold dM at h
 cases e:b9 G.fs G.gs x l s with
 | ok a =>
  obtain ⟨d,t,s1⟩:=a
  rw [e] at h
  cases d with
  | bl b=>exact fun g1 e1=>⟨b,rfl,fun H1 S1=>hk b s1 g1 H1 e1 S1 (ValS.ext e1 h)⟩
  | _=>exact h.elim
 | er a b c =>
  rw [e] at h
  exact fun g1 H1 c dd e1 S1=>h g1 σ H1 c dd e1 S1
 | no =>
  rw [e] at h
  exact h
theorem si {x:X} {k:List D × cj→R α} (S:SR G.Y g σ H l s) (h:ValS G W g ((gM G.fs G.gs x l s).bind k) K) {Q2:It→Hp→Prop}
  (hk:∀ ds s1 g1 J H1,Ext g g1→SR G.Y g1 σ H1 l s1→Wk G.Y J g1 ds→ValS G W g1 (k (ds,s1)) K→Q2 J H1):nJ G W x σ H Q2:=by
 refine ⟨g,l,s,S,?_⟩
 cases e:gM G.fs G.gs x l s with
 | ok a =>
  obtain ⟨ds,s1⟩:=a
  rw [e] at h
  exact fun g1 e1 J H1 S1 w=>hk ds s1 g1 J H1 e1 S1 w (ValS.ext e1 h)
 | er a b c =>
  rw [e] at h
  exact fun g1 H1 c dd e1 S1=>h g1 σ H1 c dd e1 S1
 | no =>
  rw [e] at h
  exact h

theorem ValS.step {k:Lc→cj→R Out} {r:R Out} {N:L2.St→Hp→Prop} (h:ValS G W g (r.bind (dF k)) (KO G E)) (hn:∀ g' l' s',Ext g g'→ValS G W g' (k l' s') (KO G E)→∀ σ' H',SR G.Y g' σ' H' l' s'→N σ' H') :
  ValS G W g r (KO G { E with nx:=N,ct:=N,bk:=E.nx }):=by
 cases r with
 | ok o =>
  have h:ValS G W g (dF k o) (KO G E):=h
  intro g' e
  cases o with
  | nx l s=>exact hn g' l s e (ValS.ext e h)
  | ct l s=>exact hn g' l s e (ValS.ext e h)
  | bk l s=>exact fun σ' H' S'=>h g' e σ' H' S'
  | rt d t s=>exact fun v H' q1 q2 q3 q4=>h g' e v H' q1 q2 q3 q4
 | er a b c=>exact h
 | no=>exact h
end

theorem SR.lstO {Y:Wd} {g:Gh} {σ:L2.St} {H:Hp} {l:Lc} {s:cj} {i:Nat} {ds:List D} (S:SR Y g σ H l s) (h:l[i]?=some (some ⟨.ow,.lst ds⟩)):∃ a vs,σ[i]?=some (some (.ref a))∧H a=some (.lst vs)∧Rps Y g.F ds vs:=by
 obtain ⟨v,h1,tp,_⟩:=S.sl i _ h
 cases tp with
 | lst hh r=>exact ⟨_,_,h1,hh,r⟩
def jj:Expr→Bool
 | .ListComp _ _ _ _=>false
 | .SetComp _ _ _ _=>false
 | .DictComp _ _ _ _ _=>false
 | _=>true
def ko:Expr→Bool
 | .Tuple _ _ _=>false
 | _=>true
theorem iT {e:Expr} {l:Nat} {env:Env} {t:Option Expr} (h:jj e=true):swapsWith e t l env=pure false:=by
 cases e <;> first | rfl | cases h
theorem CA {e:Expr} {l:Nat} {env:Env} {y:Str} {p:Pos} (h:env.scope.names.lookup y≠some .local):swapsWith e (some (.Name y p)) l env=pure false:=by
 have hk:(env.kindOf y == some .local)=false:=by
  unfold Env.kindOf
  exact bw.mpr h
 unfold swapsWith
 cases e <;> first | rfl | (simp only [hk,Bool.and_false,Bool.false_and]; done) | (simp only [hk,Bool.and_false,Bool.false_and]; rfl)
theorem jz {e t:Expr} {l:Nat} {env:Env} (h:∀ y p,t≠.Name y p):swapsWith e (some t) l env=pure false:=by
 unfold swapsWith
 cases e <;> first | rfl | (cases t <;> first | rfl | exact absurd rfl (h _ _))
theorem lh {e t:Expr} {env:Env} (h:ko e=true):swappedStores [t] e env=pure none:=by
 unfold swappedStores
 cases e <;> first | rfl | (cases t <;> rfl; done) | cases h
theorem qO {e o i:Expr} {p:Pos} {env:Env}:swappedStores [.Subscript o i p] e env=pure none:=by
 unfold swappedStores
 cases e <;> rfl
section
variable {C:Cx} {S:Sc} {G:Gn} {W:WX} {e f b tg:Expr} {es:List Expr} {pos:Pos} {x xa xb xc:X} {sa sb sc:GM.S} {st:Stmt} {sts:List Stmt}
abbrev rS (G:Gn) (W:WX) (x:GM.S):TS:=HZ G.gm G.ms W x
theorem zC:PS C (.Pass pos) (rS G W .pass):=PS.imp ps_pass fun E σ H ⟨g,l,s,SS,h⟩=>h g (.refl g) σ H SS
theorem CB:PS C (.Break pos) (rS G W .brk):=PS.imp ps_break fun E σ H ⟨g,l,s,SS,h⟩=>h g (.refl g) σ H SS
theorem zD:PS C (.Continue pos) (rS G W .cont):=PS.imp ps_continue fun E σ H ⟨g,l,s,SS,h⟩=>h g (.refl g) σ H SS
theorem CC:PSs C [] (rS G W .nil):=PSs.imp pss_nil fun E σ H ⟨g,l,s,SS,h⟩=>h g (.refl g) σ H SS
theorem CD (ha:PS C st (rS G W sa)) (hb:PSs C sts (rS G W sb)):PSs C (st :: sts) (rS G W (.cons sa sb)):=by
 refine PSs.imp (pss_cons ha hb) ?_
 rintro E σ H ⟨g,l,s,SS,h⟩
 refine ⟨g,l,s,SS,?_⟩
 refine ValS.imp (ValS.split (show ValS G.gm W g ((cF G.fs G.gs G.ms sa l s).bind _) (KO G.gm E) from h)) fun o g' e q=>?_
 cases o with
 | nx l1 s1=>exact fun σ' H' S'=>⟨g',l1,s1,S',q⟩
 | bk l1 s1=>exact q g' (.refl g')
 | ct l1 s1=>exact q g' (.refl g')
 | rt d t s1=>exact q g' (.refl g')
theorem E5 (he:PE C e (rd G.gm W x)) (hn:jj e=true):PS C (.Expr e pos) (rS G W (.ex x)):=by
 refine PS.imp (ps_expr he (iT hn)) ?_
 rintro E σ H ⟨g,l,s,SS,h⟩
 refine gU SS (show ValS G.gm W g ((b9 G.fs G.gs x l s).bind _) (KO G.gm E) from h) fun d t s1 g1 v H1 e1 S1 v1 h1=>?_
 exact h1 g1 (.refl g1) σ H1 S1
theorem zE {i:Nat} (h0:PS C st (tAsg (rd G.gm W x) (gName i))):PS C st (rS G W (.set (.n i) x)):=by
 refine PS.imp h0 ?_
 rintro E σ H ⟨g,l,s,SS,h⟩
 refine dv SS (show ValS G.gm W g (cg (b9 G.fs G.gs x l s) _) (KO G.gm E) from h) fun d s1 g1 v H1 e1 S1 r1 h1=>?_
 exact h1 g1 (.refl g1) _ H1 (S1.set i r1)
theorem CE {i:Nat} (h0:PS C st (tAsg (rd G.gm W x) (gName i))):PS C st (rS G W (.own i x)):=by
 refine PS.imp h0 ?_
 rintro E σ H ⟨g,l,s,SS,h⟩
 refine gU SS (show ValS G.gm W g ((b9 G.fs G.gs x l s).bind _) (KO G.gm E) from h) fun d t s1 g1 v H1 e1 S1 v1 h1=>?_
 have h1:ValS G.gm W g1 (if t=.nw then .ok (.nx (l.set i (some ⟨.ow,d⟩)) s1) else if (t=.bo∨t=.ow)∧d.still=false then .no else .ok (.nx (l.set i (some ⟨.fr,d⟩)) s1)) (KO G.gm E):=h1
 by_cases ht:t=.nw
 ·rw [aj ht] at h1
  subst ht
  exact h1 g1 (.refl g1) _ H1 (S1.setO i v1)
 ·rw [aq ht] at h1
  by_cases c:(t=.bo∨t=.ow)∧d.still=false
  ·rw [aj c] at h1
   exact h1.elim
  ·rw [aq c] at h1
   obtain ⟨g2,e2,S2,r1⟩:=VR.keep S1 v1 c
   exact (ValS.ext e2 h1) g2 (.refl g2) _ H1 (S2.set i r1)
theorem zF {t:T} {ts:List Expr} {k:Nat} {p:Pos} (he:PE C e (rd G.gm W x)) (hg:PG C (.Tuple ts k p) (gT G.gm t)) (hn:ko e=true):PS C (.Assign [.Tuple ts k p] e pos) (rS G W (.set t x)):=by
 refine PS.imp (ps_asg he hg (show swapsWith e (some (.Tuple ts k p)) pos.line C.env=pure false from jz (fun y p q=>by cases q)) (lh hn)) ?_
 rintro E σ H ⟨g,l,s,SS,h⟩
 refine dv SS (show ValS G.gm W g (cg (b9 G.fs G.gs x l s) _) (KO G.gm E) from h) fun d s1 g1 v H1 e1 S1 r1 h1=>?_
 have h1:ValS G.gm W g1 (match T.put t d l with | some l1=>.ok (.nx l1 s1) | none=>.no) (KO G.gm E):=h1
 cases ep:T.put t d l with
 | none=>rw [ep] at h1; exact h1.elim
 | some l1 =>
  rw [ep] at h1
  exact ⟨g1,l,s1,d,l1,S1,r1,ep,fun σ' _ _ S'=>h1 g1 (.refl g1) σ' H1 S'⟩

def CF:TIp:=fun x y H Q=>(ipI fun i j=>i+j) x y H Q∨rExt2 x y H Q
theorem zG {X:Cx}:PIp X .Add CF:=by
 intro pins s σ H x y v u Q I r1 r2 h
 rcases h with h | h
 ·exact ip_add pins s σ H x y v u Q I r1 r2 h
 ·exact iop_ext pins s σ H x y v u Q I r1 r2 h
theorem CG {i:Nat} {y:Str} {p:Pos} (B:Gd C S G W) (hN:S.N[i]?=some y) (hx:nN S.sc y=true) (hf:(S.top || iy S.sc y)=true) (he:PE C e (rd G.gm W x)):PS C (.AugAssign (.Name y p) .Add e pos) (rS G W (.aug i x)):=by
 refine PS.imp (ps_aug (i:=i) (by rw [B.N]; exact B.nd) (by rw [B.N]; exact hN) (by rw [B.sc]; exact jr hx) he zG (by
  rw [bI] at hf
  rcases hf with h | h
  ·exact .inl ((B.top h).1 y)
  ·rw [B.sc]; exact .inr (gi h))) ?_
 rintro E σ H ⟨g,l,s,SS,h⟩
 have h:ValS G.gm W g (match l[i]? with
  | some (some ⟨_,.int a⟩)=>(b9 G.fs G.gs x l s).bind fun (d,_,s1)=>match d with | .int b=>.ok (.nx (l.set i (some ⟨.fr,.int (a+b)⟩)) s1) | _=>.no
  | some (some ⟨.ow,.lst ds⟩)=>(b9 G.fs G.gs x l s).bind fun (d,_,s1)=>match d with | .lst es=>if ds.length+es.length≤sizeLine then .ok (.nx (l.set i (some ⟨.ow,.lst (ds++es)⟩)) s1) else .no | _=>.no
  | _=>.no) (KO G.gm E):=h
 split at h
 ·rename_i k a e0
  obtain ⟨v,h1,h2⟩:=SS.sl i _ e0
  have hv:v=.int a:=by
   cases k with
   | fr=>cases h2; rfl
   | bo=>rcases h2 with h2 | h2 <;> cases h2; rfl
   | ow=>cases h2.1
   | nw=>exact h2.elim
  refine ⟨v,h1,?_⟩
  refine fY SS h fun d t s1 g1 w H1 e1 S1 w1 q1=>?_
  cases d with
  | int b =>
   refine .inl ⟨a,b,hv,(w1.rd S1).int,?_⟩
   exact q1 g1 (.refl g1) _ H1 (S1.set i (.int _))
  | _=>exact q1.elim
 ·rename_i ds e0
  obtain ⟨a,vs,h1,h2,h3⟩:=SS.lstO e0
  refine ⟨.ref a,h1,?_⟩
  refine fY SS h fun d t s1 g1 w H1 e1 S1 w1 q1=>?_
  cases d with
  | lst es =>
   have q1:ValS G.gm W g1 (if ds.length+es.length≤sizeLine then .ok (.nx (l.set i (some ⟨.ow,.lst (ds++es)⟩)) s1) else .no) (KO G.gm E):=q1
   split at q1
   ·rename_i hz
    obtain ⟨a',vs',h1',h2',h3'⟩:=S1.lstO e0
    rw [h1] at h1'
    cases h1'
    obtain ⟨b,ws,rfl,hb,rb⟩:=(w1.rd S1).lst S1
    refine .inr ⟨a,b,vs',ws,rfl,rfl,h2',hb,by rw [← h3'.length,← rb.length]; exact hz,?_⟩
    have es:σ.set i (some (V.ref a))=σ:=lg h1
    show E.nx (σ.set i (some (V.ref a))) _
    rw [es]
    exact q1 g1 (.refl g1) σ _ (S1.wrO h1 e0 (.lst upd_same (h3'.append rb)))
   ·exact q1.elim
  | _=>exact q1.elim
 ·exact h.elim
theorem E6 {is:List Nat} (ha:PS C st (rS G W sa)):PS C st (rS G W (.fz is sa)):=by
 refine PS.imp ha ?_
 rintro E σ H ⟨g,l,s,SS,h⟩
 obtain ⟨g1,e1,S1⟩:=SS.fzL is
 exact ⟨g1,GM.fzL l is,s,S1,ValS.ext e1 h⟩
theorem E7 {a1 a2:List Stmt} (hc:PT C e (js G.gm W xc)) (ha:PSs C a1 (rS G W sa)) (hb:PSs C a2 (rS G W sb)):PS C (.If e a1 a2 pos) (rS G W (.ife xc sa sb)):=by
 refine PS.imp (ps_if hc ha hb) ?_
 rintro E σ H ⟨g,l,s,SS,h⟩
 refine mm SS (show ValS G.gm W g ((dM G.fs G.gs xc l s).bind _) (KO G.gm E) from h) fun b s1 g1 H1 e1 S1 h1=>?_
 cases b with
 | true=>exact (aj rfl).symm ▸ (⟨g1,l,s1,S1,h1⟩:rS G W sa E σ H1)
 | false=>exact (aq aa).symm ▸ (⟨g1,l,s1,S1,h1⟩:rS G W sb E σ H1)
theorem CH (B:Gd C S G W) (hp:PassesOwn (model C.prog C.w) C.A C.env C.xe) (hh:S.hot=false) {t:T} {ite:Expr} {body:List Stmt} (hs:im ite=true) (hi:PI C tg ite (nJ G.gm W xa)) (hg:PG C tg (gT G.gm t)) (hb:PSs C body (rS G W sb)) :
  PS C (.For tg ite body [] pos) (rS G W (.loop t xa sb)):=by
 refine PS.imp (ps_for hp (B.calm hh) hi hg hb (oj hs)) ?_
 rintro E σ H ⟨g,l,s,SS,h⟩
 generalize hbd:(fun d l s=>match T.put t d l with | some l1=>cF G.fs G.gs G.ms sb l1 s | none=>.no:D→Lc→cj→R Out)=bd
 have h:ValS G.gm W g ((gM G.fs G.gs xa l s).bind fun (ds,s1)=>gO (fun d l s=>match T.put t d l with | some l1=>cF G.fs G.gs G.ms sb l1 s | none=>.no) ds l s1) (KO G.gm E):=h
 rw [hbd] at h
 refine si SS h fun ds s1 g1 J H1 e1 S1 w h1=>?_
 refine ⟨fun i m σ' H'=>m=ds.length - i∧i≤ds.length∧∃ g2 l2 s2,Ext g1 g2∧SR G.Y g2 σ' H' l2 s2∧ValS G.gm W g2 (gO bd (ds.drop i) l2 s2) (KO G.gm E),⟨ds.length,by simp,aW _,g1,l,s1,.refl g1,S1,h1⟩,?_⟩
 rintro i m σ2 H2 ⟨rfl,hi2,g2,l2,s2,e2,S2,h2⟩
 obtain ⟨wgo,wstop⟩:=w g2 i σ2 H2 l2 s2 e2.w S2
 by_cases hlt:i < ds.length
 ·refine .inr ?_
  obtain ⟨go,yl⟩:=wgo ds[i] (ak hlt)
  refine ⟨go,fun σ' H'=>∃ g2 l2 s2,Ext g1 g2∧SR G.Y g2 σ' H' l2 s2∧ValS G.gm W g2 (gO bd (ds.drop (i+1)) l2 s2) (KO G.gm E),fun σ' H' n=>⟨ds.length - (i+1),by omega,rfl,hlt,n⟩,fun v H3 y=>?_⟩
  obtain ⟨g3,e3,_,S3,r3⟩:=yl v H3 y
  rw [List.drop_eq_getElem_cons hlt] at h2
  have h3:ValS G.gm W g3 ((bd ds[i] l2 s2).bind (dF (gO bd (ds.drop (i+1))))) (KO G.gm E):=ValS.ext e3 h2
  cases et:T.put t ds[i] l2 with
  | none =>
   rw [← hbd] at h3
   simp only [et] at h3
   exact h3.elim
  | some l3 =>
   have h4:ValS G.gm W g3 ((cF G.fs G.gs G.ms sb l3 s2).bind (dF (gO bd (ds.drop (i+1))))) (KO G.gm E):=by
    have:bd ds[i] l2 s2=cF G.fs G.gs G.ms sb l3 s2:=by
     rw [← hbd]
     simp only [et]
    rw [this] at h3
    exact h3
   refine ⟨g3,l2,s2,ds[i],l3,S3,r3,et,fun σ4 _ _ S4=>⟨g3,l3,s2,S4,?_⟩⟩
   exact h4.step fun g5 l5 s5 e5 q σ' H' S'=>⟨g5,l5,s5,(e2.trans e3).trans e5,S',q⟩
 ·have hi3:i=ds.length:=by omega
  refine .inl ⟨wstop hi3,?_⟩
  rw [hi3,List.drop_length] at h2
  exact h2 g2 (.refl g2) σ2 H2 S2
theorem wp (hp:PassesOwn (model C.prog C.w) C.A C.env C.xe) {body:List Stmt} (hc:PT C e (js G.gm W xc)) (hb:PSs C body (rS G W sb)):PS C (.While e body [] pos) (rS G W (.whl xc sb)):=by
 refine PS.imp (ps_while hp hc hb) ?_
 rintro E σ H ⟨g,l,s,SS,h⟩
 have h:ValS G.gm W g (jy (dM G.fs G.gs xc) (cF G.fs G.gs G.ms sb) l s) (KO G.gm E):=h
 have hne:jy (dM G.fs G.gs xc) (cF G.fs G.gs G.ms sb) l s≠.no:=fun q=>by rw [q] at h; exact h
 obtain ⟨n,hn⟩:=t9 hne
 rw [← hn] at h
 refine ⟨fun m σ' H'=>∃ g2 l2 s2,SR G.Y g2 σ' H' l2 s2∧ValS G.gm W g2 (kE (dM G.fs G.gs xc) (cF G.fs G.gs G.ms sb) m l2 s2) (KO G.gm E),⟨n,g,l,s,SS,h⟩,?_⟩
 rintro m σ2 H2 ⟨g2,l2,s2,S2,h2⟩
 cases m with
 | zero=>exact h2.elim
 | succ m =>
  refine mm S2 (show ValS G.gm W g2 ((dM G.fs G.gs xc l2 s2).bind _) (KO G.gm E) from h2) fun b s3 g3 H3 e3 S3 h3=>?_
  cases b with
  | true =>
   refine (aj rfl).symm ▸ ⟨fun σ' H'=>∃ g2 l2 s2,SR G.Y g2 σ' H' l2 s2∧ValS G.gm W g2 (kE (dM G.fs G.gs xc) (cF G.fs G.gs G.ms sb) m l2 s2) (KO G.gm E),fun σ' H' q=>⟨m,Nat.lt_succ_self m,q⟩,?_⟩
   refine ⟨g3,l2,s3,S3,?_⟩
   exact (show ValS G.gm W g3 ((cF G.fs G.gs G.ms sb l2 s3).bind (dF (kE (dM G.fs G.gs xc) (cF G.fs G.gs G.ms sb) m))) (KO G.gm E) from h3).step fun g5 l5 s5 e5 q σ' H' S'=>⟨g5,l5,s5,S',q⟩
  | false=>exact (aq aa).symm ▸ (h3 g3 (.refl g3) σ2 H3 S3)
theorem CI (he:PE C e (rd G.gm W x)):PS C (.Return (some e) pos) (rS G W (.ret x)):=by
 refine PS.imp (ps_ret he) ?_
 rintro E σ H ⟨g,l,s,SS,h⟩
 refine gU SS (show ValS G.gm W g ((b9 G.fs G.gs x l s).bind _) (KO G.gm E) from h) fun d t s1 g1 v H1 e1 S1 v1 h1=>?_
 have h1:ValS G.gm W g1 (match sg t d with | some t'=>.ok (.rt d t' s1) | none=>.no) (KO G.gm E):=h1
 cases t with
 | fr=>exact h1 g1 (.refl g1) v H1 S1.sB S1.sF S1.st v1
 | nw =>
  obtain ⟨p,e,hF,hB,tp,_⟩:=v1
  exact h1 g1 (.refl g1) v H1 S1.sB S1.sF S1.st ⟨p,e,hF,hB,tp⟩
 | ow =>
  obtain ⟨i,h2,h3⟩:=v1
  obtain ⟨tp,no⟩:=S1.own h2 h3
  obtain ⟨p,e,_⟩:=tp.isRef
  exact h1 g1 (.refl g1) v H1 S1.sB S1.sF S1.st ⟨p,e,⟨(no p e).1,(no p e).2.2⟩,(no p e).2.1,tp⟩
 | bo =>
  have h1:ValS G.gm W g1 (match (if d.still=true then some Tag.fr else none) with | some t'=>.ok (.rt d t' s1) | none=>.no) (KO G.gm E):=h1
  by_cases hd:d.still=true
  ·rw [aj hd] at h1
   refine h1 g1 (.refl g1) v H1 S1.sB S1.sF S1.st ?_
   rcases v1 with v1 | v1
   ·exact v1
   ·rw [v1.notStill] at hd; cases hd
  ·rw [aq hd] at h1
   exact h1.elim
theorem zH:PS C (.Return none pos) (rS G W .retN):=PS.imp ps_retN fun E σ H ⟨g,l,s,SS,h⟩=>h g (.refl g) .non H SS.sB SS.sF SS.st .non
theorem wq (B:Gd C S G W) (hh:S.hot=false) {c m:Str} {j:Nat} {p p2 p3:Pos} (hc:c∈S.en) (hg:dc S.sc c=true) (hn:fN c=true):PS C (.Raise (some (.Call (.Name c p) [.Constant (.str m) j p2] [] p3)) none pos) (rS G W (.rse c)):=by
 obtain ⟨Ca,bmB,Bs,n1,n2,F,q1,q2,q3,q4,q5⟩:=B.exs c hc
 refine PS.imp (ps_raise (B.calm hh) B.tk (pmk_own F q1 q2 q3 (raises_own q4 q5) (B.gl hg) (dX hn))) ?_
 rintro E σ H ⟨g,l,s,SS,h⟩
 refine h g σ H (.ref Ca) none (.refl g) SS ⟨?_,rfl,rfl⟩
 show G.gm.mg c=_
 rw [show G.gm.mg=C.mg from B.mg]
 exact q2
end
theorem Rps.dropLast {Y:Wd} {F:Fr} {ds:List D} {vs:List V} (r:Rps Y F ds vs):Rps Y F ds.dropLast vs.dropLast:=by
 rw [bL,bL,r.length]
 exact r.take _
theorem pW (l:Addr) (items:Array Value) (n:Nat) (b:Addr) (items2:Array Value) (hs0:¬(!items.isEmpty && Builtin.List.listTooLong (items.size+items2.size))=true) (hs1:items.size≤sizeLine) (hs2:items.size+items2.size≤sizeLine+1) :
  Meets (Builtin.«list.extend» ⟨[.ref l,.ref b],[]⟩) (fun _ R s=>s.heap.get? l=some { cls:=.type "list",dict:=none,data:=.seq items n,slots:=#[] }∧IsTup s.heap b items2∧R (.ok (.ret Value.none)) { s with heap:=s.heap.update l (Obj.mapSeq fun x=>x++items2),toks:=s.toks }) :=
 .of_wp fun prog w A R s h=>by
  obtain ⟨hl,⟨o,ho,hc,n2,hd⟩,h⟩:=h
  show wpAny _ _ (Builtin.List.listExtendWith (.ref l) (.ref b) .none) _ _ s
  unfold Builtin.List.listExtendWith
  refine wpAny_bind (wpAny_typeOf (T:="tuple") ⟨o,ho,hc⟩ ?_)
  have ht:(Value.type "tuple" == Value.type "tuple")=true:=by rfl
  rw [aj (by rw [ht]; simp)]
  refine wpAny_bind (listItems_at ho hd ?_)
  refine wpAny_bind (listItems_at (xs:=items) (n:=n) hl rfl ?_)
  rw [aq hs0]
  refine wpAny_bind (listUpdate_at (xs:=items) (n:=n) hl rfl ?_ hs1 (by show (items++items2).size≤sizeLine+1; rw [Array.size_append]; exact hs2))
  exact wpAny_pure ⟨_,rfl,h⟩
section
variable {X:Cx}
def ua (K:PySem.W.Frag):V→List V→Hp→VK→Prop:=fun x vs H Q=>∃ l b xs zs,x=.ref l∧vs=[.ref b]∧H l=some (.lst xs)∧(H b=some (.lst zs)∨SqT K H b zs)∧xs.length+zs.length≤sizeLine∧Q .non (upd H l (.lst (xs++zs)))
theorem pX:MtM X "list.extend" (ua X.K):=by
 intro pins s σ H x vs v us Q I rx rv h
 obtain ⟨l,b,xs,zs,rfl,rfl,hH,hB,hz,q⟩:=h
 rcases hB with hB | hB
 ·exact mt_extend pins s σ H _ _ v us Q I rx rv ⟨l,b,xs,zs,rfl,rfl,hH,hB,hz,q⟩
 cases rx
 obtain ⟨u,rfl,ru⟩:=rv.one
 cases ru
 obtain ⟨z,its,n,r,hl,e⟩:=I.lstM hH
 obtain ⟨its2,r2,ht,hz2⟩:=I.tuple hB
 have hl2:=r2.length
 have hsz:its.toArray.size+its2.toArray.size≤sizeLine:=by rw [aN,aN]; omega
 have hlong:¬ (!its.toArray.isEmpty && Builtin.List.listTooLong (its.toArray.size+its2.toArray.size))=true:=by
  rw [notLongL hsz,Bool.and_false]
  exact aa
 refine call_meets F.slot_list_extend ⟨_,e,rfl⟩ F.entry_list_extend (F.args_list_extend_2 _ _)
  (pW l its.toArray n b its2.toArray hlong (by rw [aN]; omega) (by omega)) ⟨e,ht,?_⟩
 refine ⟨.non,_,I.lset (its':=its++its2) hH e (by simp) (r.append r2) ?_,rfl,q⟩
 rw [ae]
 omega
end
section
variable {C:Cx} {S:Sc} {G:Gn} {W:WX} {e f b tg:Expr} {es:List Expr} {pos apos cpos p:Pos} {x xa xb xc:X} {y:Str} {i:Nat}
theorem pY {m:Str} (hs:b8 e=true):((backTo cpos (starEach [e] C.env)).all (fun x=>!x.1) && (backToKw cpos (keywordEach [] C.env)).all (fun x=>x.1.isSome)
   && decide (([e]:List Expr).length+([]:List Keyword).length+(if ([]:List Keyword).isEmpty then 0 else 1) < 30))=true:=by
 rw [b6 hs]
 rfl
theorem gV (B:Gd C S G W) (hN:S.N[i]?=some y) (hv:gQ S.sc y=true) (hn:fN y=true):PE C (.Name y p) (tVar i):=pe_var (by rw [B.N]; exact hN) (B.vis hv) (dX hn) (tB hn)

theorem CJ (B:Gd C S G W) (hN:S.N[i]?=some y) (hv:gQ S.sc y=true) (hn:fN y=true) (hs:b8 e=true) (hl:(apos.endLine == cpos.line)=true) (he:PE C e (rd G.gm W x)) :
  PS C (.Expr (.Call (.Attribute (.Name y p) "append" apos) [e] [] cpos) pos) (rS G W (.app i x)):=by
 refine PS.imp (ps_expr (pe_bm PySem.F.plainAttrs_list PySem.F.slot_list_append PySem.F.type_list_append mt_append (gV B hN hv hn) (pa_cons he pa_nil (b6 hs)) rfl (pY (m:="append") hs) hl (b6 hs) rfl) rfl) ?_
 rintro E σ H ⟨g,l,s,SS,h⟩
 have h:ValS G.gm W g (match l[i]? with
  | some (some ⟨.ow,.lst ds⟩)=>cg (b9 G.fs G.gs x l s) fun d s1=>if ds.length < sizeLine then .ok (.nx (l.set i (some ⟨.ow,.lst (ds++[d])⟩)) s1) else .no
  | _=>.no) (KO G.gm E):=h
 split at h
 ·rename_i ds e0
  obtain ⟨a,vs,h1,h2,h3⟩:=SS.lstO e0
  refine ⟨.ref a,h1,.inl ⟨rfl,vs,.inl (.inl h2)⟩,?_⟩
  refine dv SS h fun d s1 g1 v H1 e1 S1 r1 q1=>?_
  have q1:ValS G.gm W g1 (if ds.length < sizeLine then .ok (.nx (l.set i (some ⟨.ow,.lst (ds++[d])⟩)) s1) else .no) (KO G.gm E):=q1
  split at q1
  ·rename_i hz
   obtain ⟨a',vs',h1',h2',h3'⟩:=S1.lstO e0
   rw [h1] at h1'
   cases h1'
   refine ⟨a,vs',v,rfl,rfl,h2',by rw [← h3'.length]; exact hz,?_⟩
   exact q1 g1 (.refl g1) σ _ (S1.wrO h1 e0 (.lst upd_same (h3'.append #v[r1])))
  ·exact q1.elim
 ·exact h.elim

theorem CK (B:Gd C S G W) (hN:S.N[i]?=some y) (hv:gQ S.sc y=true) (hn:fN y=true) (hs:b8 e=true) (hl:(apos.endLine == cpos.line)=true) (he:PE C e (rd G.gm W x)) :
  PS C (.Expr (.Call (.Attribute (.Name y p) "extend" apos) [e] [] cpos) pos) (rS G W (.ext i x)):=by
 refine PS.imp (ps_expr (pe_bm PySem.F.plainAttrs_list PySem.F.slot_list_extend PySem.F.type_list_extend pX (gV B hN hv hn) (pa_cons he pa_nil (b6 hs)) rfl (pY (m:="extend") hs) hl (b6 hs) rfl) rfl) ?_
 rintro E σ H ⟨g,l,s,SS,h⟩
 have h:ValS G.gm W g (match l[i]? with
  | some (some ⟨.ow,.lst ds⟩)=>(b9 G.fs G.gs x l s).bind fun (d,_,s1)=>match d with
   | .lst es=>if ds.length+es.length≤sizeLine then .ok (.nx (l.set i (some ⟨.ow,.lst (ds++es)⟩)) s1) else .no
   | .tup es=>if ds.length+es.length≤sizeLine then .ok (.nx (l.set i (some ⟨.ow,.lst (ds++es)⟩)) s1) else .no
   | _=>.no
  | _=>.no) (KO G.gm E):=h
 split at h
 ·rename_i ds e0
  obtain ⟨a,vs,h1,h2,h3⟩:=SS.lstO e0
  refine ⟨.ref a,h1,.inl ⟨rfl,vs,.inl (.inl h2)⟩,?_⟩
  refine fY SS h fun d t s1 g1 v H1 e1 S1 r1 q1=>?_
  cases d with
  | lst es =>
   have q1:ValS G.gm W g1 (if ds.length+es.length≤sizeLine then .ok (.nx (l.set i (some ⟨.ow,.lst (ds++es)⟩)) s1) else .no) (KO G.gm E):=q1
   split at q1
   ·rename_i hz
    obtain ⟨a',vs',h1',h2',h3'⟩:=S1.lstO e0
    rw [h1] at h1'
    cases h1'
    obtain ⟨b,ws,rfl,hb,rb⟩:=(r1.rd S1).lst S1
    refine ⟨a,b,vs',ws,rfl,rfl,h2',.inl hb,by rw [← h3'.length,← rb.length]; exact hz,?_⟩
    exact q1 g1 (.refl g1) σ _ (S1.wrO h1 e0 (.lst upd_same (h3'.append rb)))
   ·exact q1.elim
  | tup es =>
   have q1:ValS G.gm W g1 (if ds.length+es.length≤sizeLine then .ok (.nx (l.set i (some ⟨.ow,.lst (ds++es)⟩)) s1) else .no) (KO G.gm E):=q1
   split at q1
   ·rename_i hz
    obtain ⟨a',vs',h1',h2',h3'⟩:=S1.lstO e0
    rw [h1] at h1'
    cases h1'
    obtain ⟨b,ws,rfl,_,hb,rb⟩:=(r1.rd S1).tup S1
    refine ⟨a,b,vs',ws,rfl,rfl,h2',.inr (hb.sq),by rw [← h3'.length,← rb.length]; exact hz,?_⟩
    exact q1 g1 (.refl g1) σ _ (S1.wrO h1 e0 (.lst upd_same (h3'.append rb)))
   ·exact q1.elim
  | _=>exact q1.elim
 ·exact h.elim

theorem CN (B:Gd C S G W) (hN:S.N[i]?=some y) (hv:gQ S.sc y=true) (hn:fN y=true) (hl:(apos.endLine == cpos.line)=true) :
  PS C (.Expr (.Call (.Attribute (.Name y p) "reverse" apos) [] [] cpos) pos) (rS G W (.rvs i)):=by
 refine PS.imp (ps_expr (pe_bm0 PySem.F.plainAttrs_list PySem.F.slot_list_reverse PySem.F.type_list_reverse mt_reverse (gV B hN hv hn) rfl hl) rfl) ?_
 rintro E σ H ⟨g,l,s,SS,h⟩
 have h:ValS G.gm W g (match l[i]? with
  | some (some ⟨.ow,.lst es⟩)=>.ok (.nx (l.set i (some ⟨.ow,.lst es.reverse⟩)) s)
  | _=>.no) (KO G.gm E):=h
 split at h
 ·rename_i ds e0
  obtain ⟨a,vs,h1,h2,h3⟩:=SS.lstO e0
  refine ⟨.ref a,h1,.inl ⟨rfl,vs,.inl (.inl h2)⟩,a,vs,rfl,rfl,h2,?_⟩
  exact h g (.refl g) σ _ (SS.wrO h1 e0 (.lst upd_same h3.rev))
 ·exact h.elim

def pZ (G:Gm) (W:WX) (j:Nat) (x:X):TE:=fun σ H Q=>∃ g l s es,SR G.Y g σ H l s∧l[j]?=some (some ⟨.ow,.lst es⟩) ∧
 ValR G W g σ (dO G.fs G.gs x l s) (fun p g1=>∃ d es',i9 es p.1=some (d,es')∧∀ v H1,SR G.Y g1 σ H1 (l.set j (some ⟨.ow,.lst es'⟩)) p.2→Rp G.Y g1.F d v→Q v H1)
def jA (S:Sc) (x:X):List Expr→Bool
 | []=>x.isNil
 | [e]=>!x.isNil && b8 e && cx S x e
 | _=>false
theorem mV (B:Gd C S G W) (hN:S.N[i]?=some y) (hv:gQ S.sc y=true) (hn:fN y=true) (hl:(apos.endLine == cpos.line)=true) (hc:jA S x es=true) :
  PE C (.Call (.Attribute (.Name y p) "pop" apos) es [] cpos) (pZ G.gm W i x):=by
 cases es with
 | nil =>
  have hc:x.isNil=true:=hc
  refine PE.imp (pe_bm0 PySem.F.plainAttrs_list PySem.F.slot_list_pop PySem.F.type_list_pop mt_pop (gV B hN hv hn) rfl hl) ?_
  rintro σ H Q ⟨g,l,s,ds,SS,e0,h⟩
  unfold dO at h
  rw [aj hc] at h
  obtain ⟨a,vs,h1,h2,h3⟩:=SS.lstO e0
  obtain ⟨d,es',hp,q⟩:=h g (.refl g)
  have hp:(match ds[ds.length - 1]? with | some d=>some (d,ds.dropLast) | none=>none)=some (d,es'):=hp
  split at hp
  ·rename_i d' ed
   cases hp
   obtain ⟨v,hv,rv⟩:=h3.get ed
   refine ⟨.ref a,h1,.inl ⟨rfl,vs,.inl (.inl h2)⟩,a,vs,v,rfl,rfl,h2,by rw [← h3.length]; exact hv,?_⟩
   exact q v _ (SS.wrO h1 e0 (.lst upd_same h3.dropLast)) rv
  ·cases hp
 | cons e r =>
  cases r with
  | cons _ _=>cases hc
  | nil =>
   have hc:(!x.isNil && b8 e && cx S x e)=true:=hc
   simp only [ab,az] at hc
   obtain ⟨⟨hx,hs⟩,hk⟩:=hc
   refine PE.imp (pe_bm PySem.F.plainAttrs_list PySem.F.slot_list_pop PySem.F.type_list_pop mt_popAt (gV B hN hv hn) (pa_cons ((cT x).E B e hk).1 pa_nil (b6 hs)) rfl (pY (m:="pop") hs) hl (b6 hs) rfl) ?_
   rintro σ H Q ⟨g,l,s,ds,SS,e0,h⟩
   unfold dO at h
   rw [aq (by rw [hx]; decide)] at h
   obtain ⟨a,vs,h1,h2,h3⟩:=SS.lstO e0
   refine ⟨.ref a,h1,.inl ⟨rfl,vs,.inl (.inl h2)⟩,?_⟩
   refine cS SS h fun d t s1 g1 v H1 e1 S1 r1 q1=>?_
   cases d with
   | int k =>
    obtain ⟨d,es',hp,q⟩:=q1 g1 (.refl g1)
    have hp:(if -(2 ^ 63)≤k∧k < 2 ^ 63 then match seqIndex? k ds.length with
     | some k=>match ds[k]? with
      | some d=>some (d,ds.eraseIdx k)
      | none=>none
     | none=>none
     else none)=some (d,es'):=hp
    split at hp
    ·rename_i hk2
     split at hp
     ·rename_i j ej
      split at hp
      ·rename_i d' ed
       cases hp
       obtain ⟨a',vs',h1',h2',h3'⟩:=S1.lstO e0
       rw [h1] at h1'
       cases h1'
       obtain ⟨w,hw,rw'⟩:=h3'.get ed
       refine ⟨a,vs',k,j,w,rfl,by rw [(r1.rd S1).int],h2',hk2.1,hk2.2,by rw [← h3'.length]; exact ej,hw,?_⟩
       exact q w _ (S1.wrO h1 e0 (.lst upd_same (h3'.erase j))) rw'
      ·cases hp
     ·cases hp
    ·cases hp
   | _=>exact q1.elim

theorem iU {α:Type} {g:Gh} {σ:L2.St} {H:Hp} {l:Lc} {s:cj} {K:α→Gh→Prop} {ds:List D} {k:D→List D→cj→R α} (SS:SR G.Y g σ H l s) (e0:l[i]?=some (some ⟨.ow,.lst ds⟩)) (h:ValS G.gm W g ((dO G.fs G.gs x l s).bind fun (p,s1)=>match i9 ds p with
   | some (d,es')=>k d es' s1
   | none=>.no) K) {Q2:VK} (hk:∀ d es' s1 g1 v H1,Ext g g1→SR G.Y g1 σ H1 (l.set i (some ⟨.ow,.lst es'⟩)) s1→Rp G.Y g1.F d v→ValS G.gm W g1 (k d es' s1) K→Q2 v H1):pZ G.gm W i x σ H Q2:=by
 refine ⟨g,l,s,ds,SS,e0,?_⟩
 show ValR G.gm W g σ (dO G.fs G.gs x l s) _
 cases e:dO G.fs G.gs x l s with
 | ok p =>
  obtain ⟨p,s1⟩:=p
  rw [e] at h
  have h:ValS G.gm W g (match i9 ds p with
   | some (d,es')=>k d es' s1
   | none=>.no) K:=h
  intro g1 e1
  cases ep:i9 ds p with
  | none=>rw [ep] at h; exact h.elim
  | some q =>
   obtain ⟨d,es'⟩:=q
   rw [ep] at h
   exact ⟨d,es',rfl,fun v H1 S1 r1=>hk d es' s1 g1 v H1 e1 S1 r1 (ValS.ext e1 h)⟩
 | er a b c =>
  rw [e] at h
  exact fun g1 H1 c dd e1 S1=>h g1 σ H1 c dd e1 S1
 | no =>
  rw [e] at h
  exact h
theorem zI (he:PE C e (pZ G.gm W i x)) (hn:jj e=true):PS C (.Expr e pos) (rS G W (.popX i x)):=by
 refine PS.imp (ps_expr he (iT hn)) ?_
 rintro E σ H ⟨g,l,s,SS,h⟩
 have h:ValS G.gm W g (match l[i]? with
  | some (some ⟨.ow,.lst es⟩)=>(dO G.fs G.gs x l s).bind fun (p,s1)=>match i9 es p with
   | some (_,es')=>.ok (.nx (l.set i (some ⟨.ow,.lst es'⟩)) s1)
   | none=>.no
  | _=>.no) (KO G.gm E):=h
 split at h
 ·rename_i ds e0
  exact iU (k:=fun _ es' s1=>R.ok (Out.nx (l.set i (some ⟨.ow,.lst es'⟩)) s1)) SS e0 h fun d es' s1 g1 v H1 e1 S1 r1 q=>q g1 (.refl g1) σ H1 S1
 ·exact h.elim
theorem zJ {j:Nat} {tp:Pos} {z:Str} (he:PE C e (pZ G.gm W i x)) (h0:PS C (.Assign [.Name z tp] e pos) (tAsg (pZ G.gm W i x) (gName j))):PS C (.Assign [.Name z tp] e pos) (rS G W (.popT (.n j) i x)):=by
 refine PS.imp h0 ?_
 rintro E σ H ⟨g,l,s,SS,h⟩
 have h:ValS G.gm W g (match l[i]? with
  | some (some ⟨.ow,.lst es⟩)=>(dO G.fs G.gs x l s).bind fun (p,s1)=>match i9 es p with
   | some (d,es')=>.ok (.nx ((l.set i (some ⟨.ow,.lst es'⟩)).set j (some ⟨.fr,d⟩)) s1)
   | none=>.no
  | _=>.no) (KO G.gm E):=h
 split at h
 ·rename_i ds e0
  exact iU (k:=fun d es' s1=>R.ok (Out.nx ((l.set i (some ⟨.ow,.lst es'⟩)).set j (some ⟨.fr,d⟩)) s1)) SS e0 h fun d es' s1 g1 v H1 e1 S1 r1 q=>q g1 (.refl g1) _ H1 (S1.set j r1)
 ·exact h.elim
theorem zK {t:T} {ts:List Expr} {k:Nat} {tp:Pos} (he:PE C e (pZ G.gm W i x)) (hg:PG C (.Tuple ts k tp) (gT G.gm t)) (hn:ko e=true):PS C (.Assign [.Tuple ts k tp] e pos) (rS G W (.popT t i x)):=by
 refine PS.imp (ps_asg he hg (show swapsWith e (some (.Tuple ts k tp)) pos.line C.env=pure false from jz (fun y p q=>by cases q)) (lh hn)) ?_
 rintro E σ H ⟨g,l,s,SS,h⟩
 have h:ValS G.gm W g (match l[i]? with
  | some (some ⟨.ow,.lst es⟩)=>(dO G.fs G.gs x l s).bind fun (p,s1)=>match i9 es p with
   | some (d,es')=>match T.put t d (l.set i (some ⟨.ow,.lst es'⟩)) with | some l1=>.ok (.nx l1 s1) | none=>.no
   | none=>.no
  | _=>.no) (KO G.gm E):=h
 split at h
 ·rename_i ds e0
  refine iU (k:=fun d es' s1=>match T.put t d (l.set i (some ⟨.ow,.lst es'⟩)) with | some l1=>R.ok (Out.nx l1 s1) | none=>.no) SS e0 h fun d es' s1 g1 v H1 e1 S1 r1 q=>?_
  cases ep:T.put t d (l.set i (some ⟨.ow,.lst es'⟩)) with
  | none=>simp only [ep] at q; exact q.elim
  | some l1 =>
   simp only [ep] at q
   exact ⟨g1,_,s1,d,l1,S1,r1,ep,fun σ' _ _ S'=>q g1 (.refl g1) σ' H1 S'⟩
 ·exact h.elim
theorem ub (B:Gd C S G W) {j:Nat} (hN:S.N[i]?=some y) (hv:gQ S.sc y=true) (hn:fN y=true) (hs:b8 e=true) (hl:(apos.endLine == cpos.line)=true) (he:PE C e (pZ G.gm W j x)) :
  PS C (.Expr (.Call (.Attribute (.Name y p) "append" apos) [e] [] cpos) pos) (rS G W (.appPop i j x)):=by
 refine PS.imp (ps_expr (pe_bm PySem.F.plainAttrs_list PySem.F.slot_list_append PySem.F.type_list_append mt_append (gV B hN hv hn) (pa_cons he pa_nil (b6 hs)) rfl (pY (m:="append") hs) hl (b6 hs) rfl) rfl) ?_
 rintro E σ H ⟨g,l,s,SS,h⟩
 have h:ValS G.gm W g (match l[i]?,l[j]? with
  | some (some ⟨.ow,.lst ds⟩),some (some ⟨.ow,.lst es⟩)=>if i=j then .no else (dO G.fs G.gs x l s).bind fun (p,s1)=>match i9 es p with
   | some (d,es')=>if ds.length < sizeLine then .ok (.nx ((l.set j (some ⟨.ow,.lst es'⟩)).set i (some ⟨.ow,.lst (ds++[d])⟩)) s1) else .no
   | none=>.no
  | _,_=>.no) (KO G.gm E):=h
 split at h
 ·rename_i ds es e0 e0'
  split at h
  ·exact h.elim
  rename_i hij
  obtain ⟨a,vs,h1,h2,h3⟩:=SS.lstO e0
  refine ⟨.ref a,h1,.inl ⟨rfl,vs,.inl (.inl h2)⟩,?_⟩
  refine iU (k:=fun d es' s1=>if ds.length < sizeLine then R.ok (Out.nx ((l.set j (some ⟨.ow,.lst es'⟩)).set i (some ⟨.ow,.lst (ds++[d])⟩)) s1) else .no) SS e0' h fun d es' s1 g1 v H1 e1 S1 r1 q=>?_
  have q:ValS G.gm W g1 (if ds.length < sizeLine then R.ok (Out.nx ((l.set j (some ⟨.ow,.lst es'⟩)).set i (some ⟨.ow,.lst (ds++[d])⟩)) s1) else .no) (KO G.gm E):=q
  split at q
  ·rename_i hz
   have e2:(l.set j (some ⟨.ow,.lst es'⟩))[i]?=some (some ⟨.ow,.lst ds⟩):=by rw [ay (Ne.symm hij)]; exact e0
   obtain ⟨a',vs',h1',h2',h3'⟩:=S1.lstO e2
   rw [h1] at h1'
   cases h1'
   refine ⟨a,vs',v,rfl,rfl,h2',by rw [← h3'.length]; exact hz,?_⟩
   exact q g1 (.refl g1) σ _ (S1.wrO h1 e2 (.lst upd_same (h3'.append #v[r1])))
  ·exact q.elim
 ·exact h.elim


def CO (C:Cx):TSet:=fun o i v H Q=>rSetL o i v H Q∨(∃ a H',o=.ref a∧DPut H a i v H'∧Q H') ∨
 ∃ (Y:Wd) (F:Fr) (a b:Addr) (ob:Obj) (xs:List (NestedKey × Addr × Value)) (ps:List (D × D)) (k:D) (q:NestedKey),o=.ref a∧i=.ref b∧(Y.P=C.prog∧Y.w=C.w)∧H a=some (kU a ob)∧DtO Y a ob xs∧Rpt Y F ps xs∧Same F.h H∧rQ Y F k q b∧xs.length < sizeLine ∧
  ∀ r ob',RelV v r→DtO Y a ob' (storedH xs q b r)→Q (upd H a (kU a ob'))
theorem jB (hu:C.A.units+64 < cLine):PSet C (CO C):=by
 intro pins s σ H o i v ov iv u Q I ro ri rv h
 rcases h with h | ⟨a,H',rfl,g,q⟩ | ⟨Y,F,a,b,ob,xs,ps,k,n,rfl,rfl,hY,hH,w,rp,hF,kt,hz,q⟩
 ·exact set_list pins s σ H o i v ov iv u Q I ro ri rv h
 ·cases ro
  exact d_setItem (by omega) I g ri rv fun s' I'=>⟨H',I',q⟩
 ·cases ro
  cases ri
  exact pE hu hY I hH w rp hF kt rv hz fun ob' s' w' I'=>⟨_,I',q u ob' rv w'⟩
theorem jC {o i:Expr} {to ti:TE} {t:TSet} (ho:PE C o to) (hi:PE C i ti) (hs:PSet C t) (hn:cO i=true):PG C (.Subscript o i pos) (gSub to ti t) :=
 pg_sub ho hi hs (by intro v; cases i <;> first | rfl | cases hn)
theorem Rpk.len {Y:Wd} {F:Fr}:∀ {ps:List (D × D)} {kvs:List (L2.Key × V)},Rpk Y F ps kvs→ps.length=kvs.length
 | _,_,.nil=>rfl
 | _,_,.cons _ _ r=>by rw [aw,aw,Rpk.len r]
theorem Rpt.len {Y:Wd} {F:Fr}:∀ {ps:List (D × D)} {xs:List (NestedKey × Addr × Value)},Rpt Y F ps xs→ps.length=xs.length
 | _,_,.nil=>rfl
 | _,_,.cons _ _ _ _ _ r=>by rw [aw,aw,Rpt.len r]

theorem mW (B:Gd C S G W) {E:Ends} {σ:L2.St} {H1:Hp} {l:Lc} {s1:cj} {g1:Gh} {d:D} {v:V} (S1:SR G.Y g1 σ H1 l s1) (r1:Rp G.Y g1.F d v) (h1:ValS G.gm W g1 (match l[i]? with
  | some (some ⟨.ow,c⟩)=>cg (b9 G.fs G.gs xa l s1) fun x s2=>match kF c x d with
   | some c'=>.ok (.nx (l.set i (some ⟨.ow,c'⟩)) s2)
   | none=>.no
  | _=>.no) (KO G.gm E)) {Qn:L2.St→Hp→Prop} (hQ:∀ σ H,E.nx σ H→Qn σ H):gSub (tVar i) (rd G.gm W xa) (CO C) v σ H1 Qn:=by
 split at h1
 ·rename_i c e0
  obtain ⟨vo,q1,q2,q3⟩:=S1.sl i _ e0
  obtain ⟨a,rfl,_⟩:=q2.isRef
  refine ⟨.ref a,q1,?_⟩
  refine dv S1 h1 fun dk s2 g2 vk H2 e2 S2 r2 h2=>?_
  have h2:ValS G.gm W g2 (match kF c dk d with
   | some c'=>.ok (.nx (l.set i (some ⟨.ow,c'⟩)) s2)
   | none=>.no) (KO G.gm E):=h2
  obtain ⟨tp,hno⟩:=S2.own q1 e0
  cases tp with
  | @lst _ vs ds hh r =>
   cases dk with
   | int k =>
    have h2:ValS G.gm W g2 (match (match ixN ds.length k with | some j=>some (D.lst (ds.set j d)) | none=>none) with
     | some c'=>.ok (.nx (l.set i (some ⟨.ow,c'⟩)) s2)
     | none=>.no) (KO G.gm E):=h2
    cases ej:ixN ds.length k with
    | none=>rw [ej] at h2; exact h2.elim
    | some j =>
     rw [ej] at h2
     cases r2
     refine .inl ⟨a,vs,k,j,rfl,rfl,hh,by rw [← r.length]; exact ej,?_⟩
     exact hQ _ _ (h2 g2 (.refl g2) σ _ (S2.wrO q1 e0 (.lst upd_same (r.set j (r1.mono e2.f)))))
   | _=>exact h2.elim
  | @dk _ kvs ps hh r =>
   have h2:ValS G.gm W g2 (match (if D.isKey false dk=true∧ps.length < sizeLine then some (D.dic false (D.put ps dk d)) else none) with
     | some c'=>.ok (.nx (l.set i (some ⟨.ow,c'⟩)) s2)
     | none=>.no) (KO G.gm E):=h2
   by_cases hc:D.isKey false dk=true∧ps.length < sizeLine
   ·rw [aj hc] at h2
    obtain ⟨q,hq⟩:=dZ hc.1
    obtain rfl:=gP hq r2
    refine .inr (.inl ⟨a,_,rfl,DPut.k hh (by rw [← r.len]; exact hc.2),?_⟩)
    exact hQ _ _ (h2 g2 (.refl g2) σ _ (S2.wrO q1 e0 (.dk upd_same (Rpk.put hq (r1.mono e2.f) r))))
   ·rw [aq hc] at h2
    exact h2.elim
  | @dt _ ob xs ps hh w r =>
   have h2:ValS G.gm W g2 (match (if D.isKey true dk=true∧ps.length < sizeLine then some (D.dic true (D.put ps dk d)) else none) with
     | some c'=>.ok (.nx (l.set i (some ⟨.ow,c'⟩)) s2)
     | none=>.no) (KO G.gm E):=h2
   by_cases hc:D.isKey true dk=true∧ps.length < sizeLine
   ·rw [aj hc] at h2
    obtain ⟨q,hq,hz,zs,rfl⟩:=gg hc.1
    cases r2 with
    | tup hb hr =>
     rename_i b vs
     refine .inr (.inr ⟨G.Y,g2.F,a,b,ob,xs,ps,_,q,rfl,rfl,B.hY,hh,w,r,S2.sF,⟨hq,hz,.tup hb hr⟩,by rw [← r.len]; exact hc.2,fun u ob' ru w'=>?_⟩)
     exact hQ _ _ (h2 g2 (.refl g2) σ _ (S2.wrO q1 e0 (.dt upd_same w' (Rpt.put hq hz (.tup hb hr) (r1.mono e2.f) ru r))))
   ·rw [aq hc] at h2
    exact h2.elim
 ·exact h1.elim

theorem CP (B:Gd C S G W) (hN:S.N[i]?=some y) (hv:gQ S.sc y=true) (hn:fN y=true) (hs:cO f=true) (hk:PE C f (rd G.gm W xa)) (he:PE C e (rd G.gm W xb)) (hlc:jj e=true) :
  PS C (.Assign [.Subscript (.Name y p) f apos] e pos) (rS G W (.sub i xa xb)):=by
 refine PS.imp (ps_asg he (jC (gV B hN hv hn) hk (jB B.hu) hs) (show swapsWith e (some (.Subscript (.Name y p) f apos)) pos.line C.env=pure false from iT hlc) qO) ?_
 rintro E σ H ⟨g,l,s,SS,h⟩
 refine dv SS (show ValS G.gm W g (cg (b9 G.fs G.gs xb l s) _) (KO G.gm E) from h) fun d s1 g1 v H1 e1 S1 r1 h1=>?_
 exact mW B S1 r1 h1 fun _ _ q=>q

theorem zL (B:Gd C S G W) (hh:S.hot=false) {i j:Nat} {y z:Str} {p q p2 p3:Pos} {kc:Nat} (hy0:S.N[i]?=some y) (hx0:nN S.sc y=true) (hf0:(S.top || iy S.sc y)=true) (hN:S.N[j]?=some z) (hv:gQ S.sc z=true) (hn:fN z=true) (hs:cO f=true) (hk:PE C f (rd G.gm W xa)) (he:PE C e (rd G.gm W xb)) (ht:ko e=true) :
  PS C (.Assign [.Tuple [.Name y p,.Subscript (.Name z q) f p2] kc p3] e pos) (rS G W (.setS i j xa xb)):=by
 have hCN:C.N.Nodup:=by rw [B.N]; exact B.nd
 have hf:C.fn y=true∨C.env.scope.names.lookup y=some .local:=by
  rw [bI] at hf0
  rcases hf0 with h | h
  ·exact .inl ((B.top h).1 y)
  ·rw [B.sc]; exact .inr (gi h)
 have g1:PG C (.Name y p) (gName i):=pg_name hCN (by rw [B.N]; exact hy0) (by rw [B.sc]; exact jr hx0) hf
 have g2:=pgs_cons g1 (pgs_cons (jC (pos:=p2) (gV (p:=q) B hN hv hn) hk (jB B.hu) hs) pgs_nil)
 refine PS.imp (ps_asg he (pg_tup (n:=2) (B.calm hh) g2) (show swapsWith e (some (.Tuple [.Name y p,.Subscript (.Name z q) f p2] kc p3)) pos.line C.env=pure false from jz (fun y p q=>by cases q)) (lh ht)) ?_
 rintro E σ H ⟨g,l,s,SS,h⟩
 refine dv SS (show ValS G.gm W g (cg (b9 G.fs G.gs xb l s) _) (KO G.gm E) from h) fun d s1 g1 v H1 e1 S1 r1 h1=>?_
 have h1:ValS G.gm W g1 (match d with
  | .tup [a,y]=>match (l.set i (some ⟨.fr,a⟩))[j]? with
   | some (some ⟨.ow,c⟩)=>cg (b9 G.fs G.gs xa (l.set i (some ⟨.fr,a⟩)) s1) fun x s2=>match kF c x y with
    | some c'=>.ok (.nx ((l.set i (some ⟨.fr,a⟩)).set j (some ⟨.ow,c'⟩)) s2)
    | none=>.no
   | _=>.no
  | _=>.no) (KO G.gm E):=h1
 split at h1
 ·rename_i da db
  cases r1 with
  | tup hf2 rs =>
   cases rs with
   | cons ra rs =>
    cases rs with
    | cons rb rs =>
     cases rs
     refine ⟨_,_,rfl,(hf2.mono S1.sF).sq,rfl,_,_,rfl,?_⟩
     refine ⟨_,_,rfl,?_⟩
     exact mW B (S1.set i ra) rb h1 fun _ _ q=>⟨rfl,q⟩
 ·exact h1.elim
end
theorem kq (f g:Str) (v:D):∀ fs:List (Str × D),(mU f v fs).lookup g=if g=f then some v else fs.lookup g
 | []=>by
  show List.lookup g [(f,v)]=_
  by_cases h:g=f
  ·have e:(g == f)=true:=bY.mpr h
   simp only [List.lookup,e,aj h]
  ·have e:(g == f)=false:=bw.mpr h
   simp only [List.lookup,e,aq h]
 | (k,x) :: r=>by
  have ih:=kq f g v r
  unfold mU
  by_cases hk:k=f
  ·rw [aj hk]
   by_cases h:g=k
   ·have e:(g == k)=true:=bY.mpr h
    simp only [List.lookup,e,aj (h.trans hk)]
   ·have e:(g == k)=false:=bw.mpr h
    simp only [List.lookup,e,aq (fun q:g=f=>h (q.trans hk.symm))]
  ·rw [aq hk]
   by_cases h:g=k
   ·have e:(g == k)=true:=bY.mpr h
    simp only [List.lookup,e,aq (fun q:g=f=>hk (h.symm.trans q))]
   ·have e:(g == k)=false:=bw.mpr h
    simp only [List.lookup,e]
    exact ih
theorem mn {f:Str} {d:D} {v:V}:∀ {fs:List (Str × D)} {fv:List (Str × V)},fv.map (·.1)=fs.map (·.1)→(putF f v fv).map (·.1)=(mU f d fs).map (·.1)
 | [],[],_=>rfl
 | [],_ :: _,h=>by cases h
 | _ :: _,[],h=>by cases h
 | (g,x) :: r,(g',x') :: r',h=>by
  obtain ⟨h1,h2⟩:=bG h
  obtain rfl:g'=g:=h1
  unfold putF mU
  by_cases e:g'=f
  ·rw [aj e,aj e]
   exact bD (g' :: ·) h2
  ·rw [aq e,aq e]
   exact bD (g' :: ·) (mn h2)
theorem FldR.put {Y:Wd} {F:Fr} {fs:List (Str × D)} {fv:List (Str × V)} {f:Str} {d:D} {v:V} (h:FldR Y F fs fv) (r:Rp Y F d v):FldR Y F (mU f d fs) (putF f v fv):=fun g=>by
 rw [kq,lookup_putF]
 by_cases e:g=f
 ·rw [aj e,aj e]
  exact ⟨v,rfl,r⟩
 ·rw [aq e,aq e]
  exact h g
section
variable {C:Cx} {S:Sc} {G:Gn} {W:WX} {e f b o:Expr} {es:List Expr} {pos apos cpos p2:Pos} {xa xb xc:X}

theorem zM (B:Gd C S G W) {c nm:Str} (hf:(c,nm)∈S.fl) (ho:PE C o (rd G.gm W xa)) (he:PE C e (rd G.gm W xb)) (hlc:jj e=true):PS C (.Assign [.Attribute o nm p2] e pos) (rS G W (.fset c nm xa xb)):=by
 refine PS.imp (ps_fld ho he (iT hlc)) ?_
 rintro E σ H ⟨g,l,s,SS,h⟩
 refine dv SS (show ValS G.gm W g (cg (b9 G.fs G.gs xb l s) _) (KO G.gm E) from h) fun d s1 g1 v H1 e1 S1 r1 h1=>?_
 refine fY S1 (show ValS G.gm W g1 ((b9 G.fs G.gs xa l s1).bind _) (KO G.gm E) from h1) fun z t s2 g2 vo H2 e2 S2 ro h2=>?_
 cases z with
 | loc n =>
  have h2:ValS G.gm W g2 (match pq s2 c (.loc n) with
   | some fv=>if fv.length < 900 then .ok (.nx l (s2.set n (.ins c (mU nm d fv)))) else .no
   | none=>.no) (KO G.gm E):=h2
  cases ec:pq s2 c (.loc n) with
  | none=>rw [ec] at h2; exact h2.elim
  | some fs =>
   rw [ec] at h2
   have h2:ValS G.gm W g2 (if fs.length < 900 then .ok (.nx l (s2.set n (.ins c (mU nm d fs)))) else .no) (KO G.gm E):=h2
   obtain ⟨n',a,dx,fv,en,hn,rfl,k,hh,hz,hr⟩:=S2.ci (ro.rd S2) ec
   cases en
   split at h2
   ·rename_i hl
    obtain ⟨k1,k2⟩:=B.fl c nm hf
    have hlen:fv.length=fs.length:=by
     have:=bD List.length hz
     rwa [ac,ac] at this
    rw [← B.hK] at k1 k2
    rw [← B.hK]
    refine ⟨a,_,dx,fv,rfl,hh,k1,k2,by omega,?_⟩
    exact h2 g2 (.refl g2) σ _ (S2.cwr k (au.mp hn).1 (.ins k upd_same (mn hz) (hr.put (r1.mono e2.f))))
   ·exact h2.elim
 | _=>exact h2.elim

theorem zN (hs:b8 e=true) (hl:(apos.endLine == cpos.line)=true) (hn:cM o=true) (ho:PE C o (rd G.gm W xa)) (he:PE C e (rd G.gm W xb)) :
  PS C (.Expr (.Call (.Attribute o "append" apos) [e] [] cpos) pos) (rS G W (.capp xa xb)):=by
 refine PS.imp (ps_expr (pe_bm PySem.F.plainAttrs_list PySem.F.slot_list_append PySem.F.type_list_append mt_append ho (pa_cons he pa_nil (b6 hs)) (eh hn) (pY (m:="append") hs) hl (b6 hs) rfl) rfl) ?_
 rintro E σ H ⟨g,l,s,SS,h⟩
 refine fY SS (show ValS G.gm W g ((b9 G.fs G.gs xa l s).bind _) (KO G.gm E) from h) fun z t s1 g1 vo H1 e1 S1 ro h1=>?_
 cases z with
 | loc n =>
  have h1:ValS G.gm W g1 (match s1[n]? with
   | some (.obj (.lst _))=>cg (b9 G.fs G.gs xb l s1) fun d s2=>match s2[n]? with
    | some (.obj (.lst ds))=>if ds.length < sizeLine then .ok (.nx l (s2.set n (.obj (.lst (ds++[d]))))) else .no
    | _=>.no
   | _=>.no) (KO G.gm E):=h1
  split at h1
  ·rename_i es ec
   obtain ⟨a,rfl,k,tp⟩:=S1.ce (ro.rd S1) ec
   cases tp with
   | lst hh r =>
    refine ⟨.inl ⟨rfl,_,.inl (.inl hh)⟩,?_⟩
    refine dv S1 h1 fun d s2 g2 v H2 e2 S2 r2 h2=>?_
    have h2:ValS G.gm W g2 (match s2[n]? with
     | some (.obj (.lst ds))=>if ds.length < sizeLine then .ok (.nx l (s2.set n (.obj (.lst (ds++[d]))))) else .no
     | _=>.no) (KO G.gm E):=h2
    split at h2
    ·rename_i ds ec2
     obtain ⟨a',ea,k',tp'⟩:=S2.ce (.inl (.loc (e2.f.m _ _ k.m))) ec2
     cases ea
     split at h2
     ·rename_i hz
      cases tp' with
      | lst hh' r' =>
       refine ⟨a,_,v,rfl,rfl,hh',by rw [← r'.length]; exact hz,?_⟩
       exact h2 g2 (.refl g2) σ _ (S2.cwr k' (au.mp ec2).1 (.obj k' (.lst upd_same (r'.append #v[r2]))))
     ·exact h2.elim
    ·exact h2.elim
  ·exact h1.elim
 | _=>exact h1.elim

theorem zO (B:Gd C S G W) {i:Nat} {y:Str} {p q cpos2 apos2:Pos} {ke:Expr} (hN:S.N[i]?=some y) (hv:gQ S.sc y=true) (hn:fN y=true) (hs1:b8 ke=true) (hs:b8 e=true) (hl1:(apos.endLine == cpos.line)=true) (hl2:(apos2.endLine == cpos2.line)=true)
  (hk:PE C ke (rd G.gm W xa)) (hem:PE C (.List [] q) (rd G.gm W (.lst .nil))) (he:PE C e (rd G.gm W xb)) :
  PS C (.Expr (.Call (.Attribute (.Call (.Attribute (.Name y p) "setdefault" apos) [ke,.List [] q] [] cpos) "append" apos2) [e] [] cpos2) pos) (rS G W (.sdap i xa xb)):=by
 refine PS.imp (ps_expr (pe_bm PySem.F.plainAttrs_list PySem.F.slot_list_append PySem.F.type_list_append mt_append (pe_dsetd (gV B hN hv hn) hk hem (xP (fun _=>rfl) hs1 rfl hl1)) (pa_cons he pa_nil (b6 hs)) rfl (pY (m:="append") hs) hl2 (b6 hs) rfl) rfl) ?_
 rintro E σ H ⟨g,l,s,SS,h⟩
 have h:ValS G.gm W g (match l[i]? with
  | some (some ⟨.ow,.dic false kvs⟩)=>cg (b9 G.fs G.gs xa l s) fun y s1=>if (D.keyOf y).isSome=true∧kvs.length < sizeLine∧s1≠[] then match D.look kvs y with
    | some (.loc n)=>zB G.fs G.gs n xb l s1
    | some _=>.no
    | none=>zB G.fs G.gs s1.length xb (l.set i (some ⟨.ow,.dic false (D.put kvs y (.loc s1.length))⟩)) (s1++[.obj (.lst [])])
   else .no
  | _=>.no) (KO G.gm E):=h
 have fin:∀ {g1:Gh} {H1:Hp} {l1:Lc} {s1:cj} {n:Nat} {v:V},SR G.Y g1 σ H1 l1 s1→Rp G.Y g1.F (.loc n) v→ValS G.gm W g1 (zB G.fs G.gs n xb l1 s1) (KO G.gm E)→tyV C.K "list" v H1∧tCons (rd G.gm W xb) tNil σ H1 fun xs H2=>rAppend v xs H2 fun _ H'=>E.nx σ H':=by
  intro g1 H1 l1 s1 n v S1 r1 h1
  have h1:ValS G.gm W g1 (match s1[n]? with
   | some (.obj (.lst _))=>cg (b9 G.fs G.gs xb l1 s1) fun d s2=>match s2[n]? with
    | some (.obj (.lst ds))=>if ds.length < sizeLine then .ok (.nx l1 (s2.set n (.obj (.lst (ds++[d]))))) else .no
    | _=>.no
   | _=>.no) (KO G.gm E):=h1
  split at h1
  ·rename_i es ec
   obtain ⟨a,rfl,k,tp⟩:=S1.ce (.inl r1) ec
   cases tp with
   | lst hh r =>
    refine ⟨.inl ⟨rfl,_,.inl (.inl hh)⟩,?_⟩
    refine dv S1 h1 fun d s2 g2 v H2 e2 S2 r2 h2=>?_
    have h2:ValS G.gm W g2 (match s2[n]? with
     | some (.obj (.lst ds))=>if ds.length < sizeLine then .ok (.nx l1 (s2.set n (.obj (.lst (ds++[d]))))) else .no
     | _=>.no) (KO G.gm E):=h2
    split at h2
    ·rename_i ds ec2
     obtain ⟨a',ea,k',tp'⟩:=S2.ce (.inl (.loc (e2.f.m _ _ k.m))) ec2
     cases ea
     split at h2
     ·rename_i hz
      cases tp' with
      | lst hh' r' =>
       refine ⟨a,_,v,rfl,rfl,hh',by rw [← r'.length]; exact hz,?_⟩
       exact h2 g2 (.refl g2) σ _ (S2.cwr k' (au.mp ec2).1 (.obj k' (.lst upd_same (r'.append #v[r2]))))
     ·exact h2.elim
    ·exact h2.elim
  ·exact h1.elim
 split at h
 ·rename_i kvs e0
  obtain ⟨vo,q1,tp0,hno0⟩:=SS.sl i _ e0
  obtain ⟨a,rfl,_⟩:=tp0.isRef
  refine ⟨.ref a,q1,a,rfl,?_,?_⟩
  ·cases tp0 with
   | dk hh r=>exact .inl ⟨_,.inl hh⟩
  refine dv SS h fun dk s1 g1 vk H1 e1 S1 r1 h1=>?_
  have h1:ValS G.gm W g1 (if (D.keyOf dk).isSome=true∧kvs.length < sizeLine∧s1≠[] then match D.look kvs dk with
    | some (.loc n)=>zB G.fs G.gs n xb l s1
    | some _=>.no
    | none=>zB G.fs G.gs s1.length xb (l.set i (some ⟨.ow,.dic false (D.put kvs dk (.loc s1.length))⟩)) (s1++[.obj (.lst [])])
   else .no) (KO G.gm E):=h1
  by_cases hc:(D.keyOf dk).isSome=true∧kvs.length < sizeLine∧s1≠[]
  ·rw [aj hc] at h1
   obtain ⟨hc1,hc2,hc3⟩:=hc
   obtain ⟨qk,hq⟩:=aZ.mp hc1
   obtain rfl:=gP hq r1
   refine ⟨g1,l,s1,S1,?_⟩
   have ev:b9 G.fs G.gs (.lst .nil) l s1=dW (.lst []) s1:=by simp [b9,jp,R.bind]
   show ValE G.gm W g1 σ l (b9 G.fs G.gs (.lst .nil) l s1) _
   rw [ev]
   intro g2 z H2 e2 S2 v2
   have v2:VN G.Y g2 σ H2 l (.lst []) z:=v2
   obtain ⟨tp,hno⟩:=S2.own q1 e0
   cases tp with
   | dk hh r =>
    refine ⟨_,qk,hh,rfl,by rw [← r.len]; exact hc2,fun v hv=>?_,fun hv=>?_⟩
    ·rcases Rpk.look hq r with ⟨e3,e4⟩ | ⟨d0,v0,e3,e4,r0⟩
     ·rw [e4] at hv; cases hv
     ·rw [e4] at hv
      cases hv
      rw [e3] at h1
      cases d0 with
      | loc n=>exact fin S2 r0 (ValS.ext e2 h1)
      | _=>exact h1.elim
    ·rcases Rpk.look hq r with ⟨e3,e4⟩ | ⟨d0,v0,e3,e4,r0⟩
     ·rw [e3] at h1
      obtain ⟨g3,e5,S3,r3⟩:=S2.cell hc3 v2
      have S4:=S3.wrO q1 e0 (TpW.dk upd_same (Rpk.put hq r3 (r.mono e5.f)))
      exact fin S4 r3 (ValS.ext (e2.trans e5) h1)
     ·rw [e4] at hv; cases hv
  ·rw [aq hc] at h1
   exact h1.elim
 ·exact h.elim

def ku (kvs more:List (L2.Key × V)):List (L2.Key × V):=more.foldl (fun acc p=>putK acc p.1 p.2) kvs
def E8:V→List V→Hp→VK→Prop:=fun x vs H Q=>∃ (d o:Addr) (kvs more:List (L2.Key × V)),x=.ref d∧vs=[.ref o]∧d≠o∧H d=some (.dK kvs)∧H o=some (.dK more)∧kvs.length+more.length≤sizeLine∧Q .non (upd H d (.dK (ku kvs more)))
theorem mo:∀ {more kvs:List (L2.Key × V)},(ku kvs more).length≤kvs.length+more.length
 | [],_=>ax _
 | p :: r,kvs=>by
  have h1:=mo (more:=r) (kvs:=putK kvs p.1 p.2)
  have h2:=length_putK kvs p.1 p.2
  have e:ku kvs (p :: r)=ku (putK kvs p.1 p.2) r:=rfl
  rw [e,aw]
  omega
theorem ot:∀ {more:List (L2.Key × V)} {ms:List (L2.Key × Value)} {kvs:List (L2.Key × V)} {vs:List (L2.Key × Value)},KV more ms→KV kvs vs→KV (ku kvs more) (merged vs ms)
 | _,_,_,_,.nil,r=>r
 | _,_,kvs,vs,.cons (a:=x) (b:=y) (l₁:=l1) (l₂:=l2) h t,r=>by
  obtain ⟨h1,h2⟩:=h
  have q:=r.put x.1 h2
  have q2:=ot t q
  have e1:ku kvs (x :: l1)=ku (putK kvs x.1 x.2) l1:=rfl
  have e2:merged vs (y :: l2)=merged (stored vs y.1 y.2) l2:=rfl
  rw [e1,e2,← h1]
  exact q2
theorem wt:MtR C "dict.update" E8:=by
 intro pins s σ H x vs v us Q I rx rv h
 obtain ⟨d,o,kvs,more,rfl,rfl,hne,hd,ho,hz,q⟩:=h
 cases rx
 obtain ⟨u,rfl,ru⟩:=rv.one
 cases ru
 obtain ⟨_,hd',vs,rel,dd⟩:=dk_of I.hok hd
 obtain ⟨_,ho',vs2,rel2,dd2⟩:=dk_of I.hok ho
 refine call_meetsIn PySem.F.slot_dict_update dd.typeIs PySem.F.entry_dict_update (PySem.F.args_dict_update_2 _ _) (meets_dict_update (mixKind C.prog C.w) d o hne ho') ⟨vs,vs2,dd,dd2,by rw [← rel.length,← rel2.length]; exact hz,fun h' dd' _ hs=>?_⟩
 have he:∃ q,h'.get? d=some q:=let ⟨q,_,_,hq,_⟩:=dd'; ⟨q,hq⟩
 exact ⟨.non,_,d_write (t':=s.toks) I (by rw [hd]; exact True.intro) hs he (dk_new (by have:=mo (kvs:=kvs) (more:=more); omega) hd' (ot rel2 rel) dd'),rfl,q⟩
theorem xS {Y:Wd} {F:Fr}:∀ {qs ps:List (D × D)} {more kvs:List (L2.Key × V)},Rpk Y F qs more→Rpk Y F ps kvs→Rpk Y F (qN ps qs) (ku kvs more)
 | _,_,_,_,.nil,r=>r
 | _,_,_,_,.cons h1 h2 t,r=>by
  have q:=xS t (Rpk.put h1 h2 r)
  exact q

theorem CQ (B:Gd C S G W) {i:Nat} {y:Str} {p:Pos} (hN:S.N[i]?=some y) (hv:gQ S.sc y=true) (hn:fN y=true) (hs:b8 e=true) (hl:(apos.endLine == cpos.line)=true) (he:PE C e (rd G.gm W xa)) :
  PS C (.Expr (.Call (.Attribute (.Name y p) "update" apos) [e] [] cpos) pos) (rS G W (.upd i xa)):=by
 refine PS.imp (ps_expr (pe_bm PySem.F.plainAttrs_dict PySem.F.slot_dict_update PySem.F.type_dict_update wt (gV B hN hv hn) (pa_cons he pa_nil (b6 hs)) rfl (pY (m:="update") hs) hl (b6 hs) rfl) rfl) ?_
 rintro E σ H ⟨g,l,s,SS,h⟩
 have h:ValS G.gm W g (match l[i]? with
  | some (some ⟨.ow,.dic false ps⟩)=>(b9 G.fs G.gs xa l s).bind fun (y,t,s1)=>match t,y with
   | .nw,.dic false qs=>if ps.length+qs.length≤sizeLine then .ok (.nx (l.set i (some ⟨.ow,.dic false (qN ps qs)⟩)) s1) else .no
   | _,_=>.no
  | _=>.no) (KO G.gm E):=h
 split at h
 ·rename_i ps e0
  obtain ⟨vo,q1,tp0,hno0⟩:=SS.sl i _ e0
  obtain ⟨a,rfl,_⟩:=tp0.isRef
  refine ⟨.ref a,q1,?_,?_⟩
  ·cases tp0 with
   | dk hh r=>exact .inr (.inr (.inl ⟨rfl,.inl ⟨_,hh⟩⟩))
  refine gU SS h fun z t s1 g1 v H1 e1 S1 ro h1=>?_
  replace h1:ValS G.gm W g1 (match t,z with
   | .nw,.dic false qs=>if ps.length+qs.length≤sizeLine then .ok (.nx (l.set i (some ⟨.ow,.dic false (qN ps qs)⟩)) s1) else .no
   | _,_=>.no) (KO G.gm E):=h1
  split at h1
  ·rename_i qs
   split at h1
   ·rename_i hz
    obtain ⟨o,rfl,_,_,tp2,hno2⟩:=(show VN G.Y g1 σ H1 l (.dic false qs) v from ro)
    obtain ⟨tp,hno⟩:=S1.own q1 e0
    have hne:a≠o:=fun q=>by
     subst q
     exact hno2 i _ q1 e0
    cases tp with
    | dk hh r =>
     cases tp2 with
     | dk hh2 r2 =>
      refine ⟨a,o,_,_,rfl,rfl,hne,hh,hh2,by rw [← r.len,← r2.len]; exact hz,?_⟩
      exact h1 g1 (.refl g1) σ _ (S1.wrO q1 e0 (.dk upd_same (xS r2 r)))
   ·exact h1.elim
  ·exact h1.elim
 ·exact h.elim

theorem CS (B:Gd C S G W) {i:Nat} {y:Str} {p:Pos} (hN:S.N[i]?=some y) (hv:gQ S.sc y=true) (hn:fN y=true) (hs1:b8 b=true) (hs:b8 e=true) (hl:(apos.endLine == cpos.line)=true) (hk:PE C b (rd G.gm W xa)) (he:PE C e (rd G.gm W xb)) :
  PS C (.Expr (.Call (.Attribute (.Name y p) "insert" apos) [b,e] [] cpos) pos) (rS G W (.ins i xa xb)):=by
 refine PS.imp (ps_expr (pe_bm PySem.F.plainAttrs_list PySem.F.slot_list_insert PySem.F.type_list_insert mt_insert (gV B hN hv hn) (pa_cons hk (pa_cons he pa_nil (b6 hs)) (b6 hs1)) rfl (by rw [b6 hs1,b6 hs]; rfl) hl (b6 hs1) (du (by simp [hs]))) rfl) ?_
 rintro E σ H ⟨g,l,s,SS,h⟩
 have h:ValS G.gm W g (match l[i]? with
  | some (some ⟨.ow,.lst ds⟩)=>(b9 G.fs G.gs xa l s).bind fun (y,_,s1)=>match y with
   | .int j=>if 0≤j∧j < 2 ^ 63∧ds.length < sizeLine then cg (b9 G.fs G.gs xb l s1) fun d s2=>.ok (.nx (l.set i (some ⟨.ow,.lst (ds.take j.toNat++[d]++ds.drop j.toNat)⟩)) s2) else .no
   | _=>.no
  | _=>.no) (KO G.gm E):=h
 split at h
 ·rename_i ds e0
  obtain ⟨a,vs,h1,h2,h3⟩:=SS.lstO e0
  refine ⟨.ref a,h1,.inl ⟨rfl,vs,.inl (.inl h2)⟩,?_⟩
  refine fY SS h fun z t s1 g1 w H1 e1 S1 w1 q1=>?_
  cases z with
  | int j =>
   have q1:ValS G.gm W g1 (if 0≤j∧j < 2 ^ 63∧ds.length < sizeLine then cg (b9 G.fs G.gs xb l s1) fun d s2=>.ok (.nx (l.set i (some ⟨.ow,.lst (ds.take j.toNat++[d]++ds.drop j.toNat)⟩)) s2) else .no) (KO G.gm E):=q1
   split at q1
   ·rename_i hz
    refine dv S1 q1 fun d s2 g2 v H2 e2 S2 r2 q2=>?_
    obtain ⟨a',vs',h1',h2',h3'⟩:=S2.lstO e0
    rw [h1] at h1'
    cases h1'
    have ew:=(w1.rd S1).int
    subst ew
    refine ⟨a,vs',j,v,rfl,rfl,h2',by rw [← h3'.length]; exact hz.2.2,hz.1,hz.2.1,?_⟩
    exact q2 g2 (.refl g2) σ _ (S2.wrO h1 e0 (.lst upd_same (((h3'.take _).append #v[r2]).append (h3'.drop _))))
   ·exact q1.elim
  | _=>exact q1.elim
 ·exact h.elim
theorem CT {o i o2 i2 x:Expr} {p p2 p3:Pos} {k:Nat} {env:Env}:swappedStores [.Tuple [.Subscript o i p,.Subscript o2 i2 p2] k p3] x env=pure none:=by
 unfold swappedStores
 cases x with
 | Tuple vs a b =>
  simp only [bp,List.filterMap_nil]
  by_cases c1:(!([Expr.Subscript o i p,Expr.Subscript o2 i2 p2].length == 2 || [Expr.Subscript o i p,Expr.Subscript o2 i2 p2].length == 3) || vs.length != [Expr.Subscript o i p,Expr.Subscript o2 i2 p2].length || env.blockKind != .function)=true
  ·rw [aj c1]
  ·rw [aq c1]
   split
   ·rfl
   ·rfl
 | _=>rfl

theorem CU (B:Gd C S G W) (hh:S.hot=false) {j:Nat} {z:Str} {q q2 p2 p4 p3:Pos} {kc:Nat} {f2:Expr} (hN:S.N[j]?=some z) (hv:gQ S.sc z=true) (hn:fN z=true) (hs:cO f=true) (hs2:cO f2=true) (hk:PE C f (rd G.gm W xa)) (hk2:PE C f2 (rd G.gm W xb)) (he:PE C e (rd G.gm W xc)) :
  PS C (.Assign [.Tuple [.Subscript (.Name z q) f p2,.Subscript (.Name z q2) f2 p4] kc p3] e pos) (rS G W (.swS j xa xb xc)):=by
 have g2:=pgs_cons (jC (pos:=p2) (gV (p:=q) B hN hv hn) hk (jB B.hu) hs) (pgs_cons (jC (pos:=p4) (gV (p:=q2) B hN hv hn) hk2 (jB B.hu) hs2) pgs_nil)
 refine PS.imp (ps_asg he (pg_tup (n:=2) (B.calm hh) g2) (show swapsWith e (some (.Tuple [.Subscript (.Name z q) f p2,.Subscript (.Name z q2) f2 p4] kc p3)) pos.line C.env=pure false from jz (fun y p q=>by cases q)) CT) ?_
 rintro E σ H ⟨g,l,s,SS,h⟩
 refine dv SS (show ValS G.gm W g (cg (b9 G.fs G.gs xc l s) _) (KO G.gm E) from h) fun d s1 g1 v H1 e1 S1 r1 h1=>?_
 have h1:ValS G.gm W g1 (match d with
  | .tup [a,b]=>(wo G.fs G.gs j xa a l s1).bind (dF fun l2 s2=>wo G.fs G.gs j xb b l2 s2)
  | _=>.no) (KO G.gm E):=h1
 split at h1
 ·rename_i da db
  cases r1 with
  | tup hf2 rs =>
   cases rs with
   | cons ra rs =>
    cases rs with
    | cons rb rs =>
     cases rs
     refine ⟨_,_,rfl,(hf2.mono S1.sF).sq,rfl,_,_,rfl,?_⟩
     exact mW B S1 ra (ValS.step h1 (N:=fun σ' H'=>_) fun g' l' s' e' h2 σ' H' S'=>⟨_,_,rfl,mW B S' (rb.mono e'.f) h2 fun _ _ q=>⟨rfl,q⟩⟩) fun _ _ q=>q
 ·exact h1.elim

theorem zP (hl:(apos.endLine == cpos.line)=true) (hn:cM o=true) (ho:PE C o (rd G.gm W xa)) :
  PS C (.Expr (.Call (.Attribute o "reverse" apos) [] [] cpos) pos) (rS G W (.crev xa)):=by
 refine PS.imp (ps_expr (pe_bm0 PySem.F.plainAttrs_list PySem.F.slot_list_reverse PySem.F.type_list_reverse mt_reverse ho (eh hn) hl) rfl) ?_
 rintro E σ H ⟨g,l,s,SS,h⟩
 refine fY SS (show ValS G.gm W g ((b9 G.fs G.gs xa l s).bind _) (KO G.gm E) from h) fun z t s1 g1 vo H1 e1 S1 ro h1=>?_
 cases z with
 | loc n =>
  have h1:ValS G.gm W g1 (match s1[n]? with
   | some (.obj (.lst ds))=>.ok (.nx l (s1.set n (.obj (.lst ds.reverse))))
   | _=>.no) (KO G.gm E):=h1
  split at h1
  ·rename_i ds ec
   obtain ⟨a,rfl,k,tp⟩:=S1.ce (ro.rd S1) ec
   cases tp with
   | lst hh r =>
    refine ⟨.inl ⟨rfl,_,.inl (.inl hh)⟩,a,_,rfl,rfl,hh,?_⟩
    exact h1 g1 (.refl g1) σ _ (S1.cwr k (au.mp ec).1 (.obj k (.lst upd_same r.rev)))
  ·exact h1.elim
 | _=>exact h1.elim

theorem zQ (B:Gd C S G W) (hs:cO f=true) (ho:PE C o (rd G.gm W xa)) (hk:PE C f (rd G.gm W xb)) (he:PE C e (rd G.gm W xc)) (hlc:jj e=true) :
  PS C (.Assign [.Subscript o f apos] e pos) (rS G W (.csub xa xb xc)):=by
 refine PS.imp (ps_asg he (jC ho hk (jB B.hu) hs) (show swapsWith e (some (.Subscript o f apos)) pos.line C.env=pure false from iT hlc) qO) ?_
 rintro E σ H ⟨g,l,s,SS,h⟩
 refine dv SS (show ValS G.gm W g (cg (b9 G.fs G.gs xc l s) _) (KO G.gm E) from h) fun d s1 g1 v H1 e1 S1 r1 h1=>?_
 refine fY S1 (show ValS G.gm W g1 ((b9 G.fs G.gs xa l s1).bind _) (KO G.gm E) from h1) fun z t s2 g2 vo H2 e2 S2 ro h2=>?_
 cases z with
 | loc n =>
  have h2:ValS G.gm W g2 (cg (b9 G.fs G.gs xb l s2) fun x s3=>match s3[n]? with
   | some (.obj c)=>match kF c x d with
    | some c'=>.ok (.nx l (s3.set n (.obj c')))
    | none=>.no
   | _=>.no) (KO G.gm E):=h2
  obtain ⟨a,rfl,hm⟩:=(ro.rd S2).loc
  refine dv S2 h2 fun dk s3 g3 vk H3 e3 S3 r3 h3=>?_
  have h3:ValS G.gm W g3 (match s3[n]? with
   | some (.obj c)=>match kF c dk d with
    | some c'=>.ok (.nx l (s3.set n (.obj c')))
    | none=>.no
   | _=>.no) (KO G.gm E):=h3
  split at h3
  ·rename_i c ec
   obtain ⟨a',ea,k,tp⟩:=S3.ce (.inl (.loc (e3.f.m _ _ hm))) ec
   cases ea
   have hn:=(au.mp ec).1
   have rv:=r1.mono (e2.f.trans e3.f)
   cases tp with
   | @lst _ vs ds hh r =>
    cases dk with
    | int q =>
     have h3:ValS G.gm W g3 (match (match ixN ds.length q with | some j=>some (D.lst (ds.set j d)) | none=>none) with
      | some c'=>.ok (.nx l (s3.set n (.obj c')))
      | none=>.no) (KO G.gm E):=h3
     cases ej:ixN ds.length q with
     | none=>rw [ej] at h3; exact h3.elim
     | some j =>
      rw [ej] at h3
      cases r3
      refine .inl ⟨a,vs,q,j,rfl,rfl,hh,by rw [← r.length]; exact ej,?_⟩
      exact h3 g3 (.refl g3) σ _ (S3.cwr k hn (.obj k (.lst upd_same (r.set j rv))))
    | _=>exact h3.elim
   | @dk _ kvs ps hh r =>
    have h3:ValS G.gm W g3 (match (if D.isKey false dk=true∧ps.length < sizeLine then some (D.dic false (D.put ps dk d)) else none) with
      | some c'=>.ok (.nx l (s3.set n (.obj c')))
      | none=>.no) (KO G.gm E):=h3
    by_cases hc:D.isKey false dk=true∧ps.length < sizeLine
    ·rw [aj hc] at h3
     obtain ⟨q,hq⟩:=dZ hc.1
     obtain rfl:=gP hq r3
     refine .inr (.inl ⟨a,_,rfl,DPut.k hh (by rw [← r.len]; exact hc.2),?_⟩)
     exact h3 g3 (.refl g3) σ _ (S3.cwr k hn (.obj k (.dk upd_same (Rpk.put hq rv r))))
    ·rw [aq hc] at h3
     exact h3.elim
   | @dt _ ob xs ps hh w r =>
    have h3:ValS G.gm W g3 (match (if D.isKey true dk=true∧ps.length < sizeLine then some (D.dic true (D.put ps dk d)) else none) with
      | some c'=>.ok (.nx l (s3.set n (.obj c')))
      | none=>.no) (KO G.gm E):=h3
    by_cases hc:D.isKey true dk=true∧ps.length < sizeLine
    ·rw [aj hc] at h3
     obtain ⟨q,hq,hz,zs,rfl⟩:=gg hc.1
     cases r3 with
     | tup hb hr =>
      rename_i b vs
      refine .inr (.inr ⟨G.Y,g3.F,a,b,ob,xs,ps,_,q,rfl,rfl,B.hY,hh,w,r,S3.sF,⟨hq,hz,.tup hb hr⟩,by rw [← r.len]; exact hc.2,fun u ob' ru w'=>?_⟩)
      exact h3 g3 (.refl g3) σ _ (S3.cwr k hn (.obj k (.dt upd_same w' (Rpt.put hq hz (.tup hb hr) rv ru r))))
    ·rw [aq hc] at h3
     exact h3.elim
  ·exact h3.elim
 | _=>exact h2.elim
end
def jD (S:Sc) (i:Nat) (y:Str):Bool:=decide (S.N[i]?=some y) && nN S.sc y && (S.top || iy S.sc y)
def fC (S:Sc) (i:Nat) (y:Str):Bool:=decide (S.N[i]?=some y) && gQ S.sc y && fN y
def E9 (sc:Scope):Bool:=match sc.kind with
 | .function=>true
 | _=>false
def sj:X→Bool
 | .comE _ _ _ _ _=>false
 | _=>true
def CV (S:Sc) (y:Str) (py:Pos):Expr→Bool
 | .ListComp _ _ scope p=>if iy S.sc y=true then E9 S.sc && (py.line == p.line) && !(scope.names.any fun (n,k)=>n == y && (k == .local || k == .cell)) else true
 | .SetComp _ _ _ _=>false
 | .DictComp _ _ _ _ _=>false
 | _=>true
mutual
def ip (S:Sc):GM.S→Stmt→Bool
 | .pass,.Pass _=>true
 | .brk,.Break _=>true
 | .cont,.Continue _=>true
 | .ex x,.Expr e _=>jj e && cx S x e
 | .set (.n i) x,.Assign [.Name y py] e _=>jD S i y && cx S x e && (CV S y py e && sj x)
 | .set (.t t) x,.Assign [.Tuple ts k p] e _=>pF S (.t t) (.Tuple ts k p) && cx S x e && ko e
 | .own i x,.Assign [.Name y py] e _=>jD S i y && cx S x e && (CV S y py e && sj x)
 | .aug i x,.AugAssign (.Name y _) .Add e _=>jD S i y && cx S x e
 | .fz _ a,st=>ip S a st
 | .ife c a b,.If t bs os _=>cx S c t && cU S a bs && cU S b os
 | .loop t it b,.For tg ite bs [] _=>!S.hot && im ite && nO S it tg ite && pF S t tg && cU S b bs
 | .whl c b,.While t bs [] _=>!S.hot && cx S c t && cU S b bs
 | .ret x,.Return (some e) _=>cx S x e
 | .retN,.Return none _=>true
 | .rse c,.Raise (some (.Call (.Name x _) [.Constant (.str _) _ _] [] _)) none _=>!S.hot && decide (x=c) && S.en.contains c && dc S.sc c && fN c
 | .app i x,.Expr (.Call (.Attribute (.Name y _) nm apos) [e] [] cpos) _=>decide (nm="append") && fC S i y && b8 e && (apos.endLine == cpos.line) && cx S x e
 | .ext i x,.Expr (.Call (.Attribute (.Name y _) nm apos) [e] [] cpos) _=>decide (nm="extend") && fC S i y && b8 e && (apos.endLine == cpos.line) && cx S x e
 | .rvs i,.Expr (.Call (.Attribute (.Name y _) nm apos) [] [] cpos) _=>decide (nm="reverse") && fC S i y && (apos.endLine == cpos.line)
 | .appPop i j x,.Expr (.Call (.Attribute (.Name y _) nm apos) [.Call (.Attribute (.Name z _) nm2 apos2) es [] cpos2] [] cpos) _ =>
   decide (nm="append") && fC S i y && (apos.endLine == cpos.line) && decide (nm2="pop") && fC S j z && (apos2.endLine == cpos2.line) && jA S x es
 | .popX j x,.Expr (.Call (.Attribute (.Name z _) nm2 apos2) es [] cpos2) _=>decide (nm2="pop") && fC S j z && (apos2.endLine == cpos2.line) && jA S x es
 | .popT (.n i) j x,.Assign [.Name y _] (.Call (.Attribute (.Name z _) nm2 apos2) es [] cpos2) _=>jD S i y && decide (nm2="pop") && fC S j z && (apos2.endLine == cpos2.line) && jA S x es
 | .popT (.t t) j x,.Assign [.Tuple ts k p] (.Call (.Attribute (.Name z _) nm2 apos2) es [] cpos2) _=>pF S (.t t) (.Tuple ts k p) && decide (nm2="pop") && fC S j z && (apos2.endLine == cpos2.line) && jA S x es
 | .sub i k v,.Assign [.Subscript (.Name y _) ke _] ve _=>fC S i y && cO ke && cx S k ke && cx S v ve && jj ve
 | .setS i j k x,.Assign [.Tuple [.Name a _,.Subscript (.Name y _) ke _] _ _] ve _=>!S.hot && jD S i a && fC S j y && cO ke && cx S k ke && cx S x ve && ko ve
 | .fset c f o x,.Assign [.Attribute oe nm _] e _=>decide (nm=f) && S.fl.contains (c,f) && cx S o oe && cx S x e && jj e
 | .csub o k v,.Assign [.Subscript oe ke _] ve _=>cO ke && cx S o oe && cx S k ke && cx S v ve && jj ve
 | .capp o x,.Expr (.Call (.Attribute oe nm apos) [e] [] cpos) _=>decide (nm="append") && cM oe && b8 e && (apos.endLine == cpos.line) && cx S o oe && cx S x e
 | .sdap i k x,.Expr (.Call (.Attribute (.Call (.Attribute (.Name y _) nm apos) [ke,.List [] _] [] cpos) nm2 apos2) [e] [] cpos2) _=>decide (nm="setdefault") && decide (nm2="append") && fC S i y && (apos.endLine == cpos.line) && (apos2.endLine == cpos2.line) && b8 ke && b8 e && cx S k ke && cx S x e
 | .crev o,.Expr (.Call (.Attribute oe nm apos) [] [] cpos) _=>decide (nm="reverse") && cM oe && (apos.endLine == cpos.line) && cx S o oe
 | .upd i x,.Expr (.Call (.Attribute (.Name y _) nm apos) [e] [] cpos) _=>decide (nm="update") && fC S i y && b8 e && (apos.endLine == cpos.line) && cx S x e
 | .ins i k x,.Expr (.Call (.Attribute (.Name y _) nm apos) [ke,e] [] cpos) _=>decide (nm="insert") && fC S i y && b8 ke && b8 e && (apos.endLine == cpos.line) && cx S k ke && cx S x e
 | .swS i k h x,.Assign [.Tuple [.Subscript (.Name y _) ke _,.Subscript (.Name z _) he _] _ _] ve _=>!S.hot && fC S i y && decide (z=y) && cO ke && cO he && cx S k ke && cx S h he && cx S x ve
 | .rseA c x,.Raise (some (.Call (.Name y _) [e] [] _)) none _=>!S.hot && decide (y=c) && cx S x e
 | .trA b c i a,.Try bs [.ExceptHandler (some (.Name x _)) (some n) (b0 :: suite) _] [] [] _=>!S.hot && cU S b bs && decide (x=c) && S.hn.contains c && dc S.sc c && fN c && decide (S.N[i]?=some n) && iy S.sc n && cU { S with hot:=true } a (b0 :: suite)
 | .tr b hs,.Try bs (h :: hds) [] [] _=>!S.hot && cU S b bs && zR { S with hot:=true } hs (h :: hds)
 | _,_=>false
def cU (S:Sc):GM.S→List Stmt→Bool
 | .nil,[]=>true
 | .cons a b,st :: sts=>ip S a st && cU S b sts
 | _,_=>false
def zR (S:Sc):GM.S→List ExceptHandler→Bool
 | .nil,[]=>true
 | .hd c a r,.ExceptHandler (some (.Name x _)) none (b0 :: suite) _ :: hds=>decide (x=c) && S.hn.contains c && dc S.sc c && fN c && cU S a (b0 :: suite) && zR S r hds
 | _,_=>false
end

section
variable {S:Sc} {x xa xb xc:X} {sa sb sc:GM.S}
theorem zS {st:Stmt} (h:ip S .pass st=true):∃ p,st=.Pass p:=by
 cases st
 case Pass p =>
  exact ⟨p,rfl⟩
 all_goals exact absurd h aa
theorem CW {st:Stmt} (h:ip S .brk st=true):∃ p,st=.Break p:=by
 cases st
 case Break p =>
  exact ⟨p,rfl⟩
 all_goals exact absurd h aa
theorem zT {st:Stmt} (h:ip S .cont st=true):∃ p,st=.Continue p:=by
 cases st
 case Continue p =>
  exact ⟨p,rfl⟩
 all_goals exact absurd h aa
theorem Fb {st:Stmt} (h:ip S (.ex x) st=true):∃ e p,st=.Expr e p∧(jj e && cx S x e)=true:=by
 cases st
 case Expr e p =>
  exact ⟨e,p,rfl,h⟩
 all_goals exact absurd h aa
theorem zU {i:Nat} {st:Stmt} (h:ip S (.set (.n i) x) st=true):∃ y py e p,st=.Assign [.Name y py] e p∧(jD S i y && cx S x e && (CV S y py e && sj x))=true:=by
 cases st
 case Assign u1 e p =>
  cases u1
  case cons u2 u3 =>
   cases u2
   case Name y py =>
    cases u3
    case nil =>
     exact ⟨y,py,e,p,rfl,h⟩
    all_goals exact absurd h aa
   all_goals exact absurd h aa
  all_goals exact absurd h aa
 all_goals exact absurd h aa
theorem zV {t:T} {st:Stmt} (h:ip S (.set (.t t) x) st=true):∃ ts k q e p,st=.Assign [.Tuple ts k q] e p∧(pF S (.t t) (.Tuple ts k q) && cx S x e && ko e)=true:=by
 cases st
 case Assign u1 e p =>
  cases u1
  case cons u2 u3 =>
   cases u2
   case Tuple ts k q =>
    cases u3
    case nil =>
     exact ⟨ts,k,q,e,p,rfl,h⟩
    all_goals exact absurd h aa
   all_goals exact absurd h aa
  all_goals exact absurd h aa
 all_goals exact absurd h aa
theorem CY {i:Nat} {st:Stmt} (h:ip S (.own i x) st=true):∃ y py e p,st=.Assign [.Name y py] e p∧(jD S i y && cx S x e && (CV S y py e && sj x))=true:=by
 cases st
 case Assign u1 e p =>
  cases u1
  case cons u2 u3 =>
   cases u2
   case Name y py =>
    cases u3
    case nil =>
     exact ⟨y,py,e,p,rfl,h⟩
    all_goals exact absurd h aa
   all_goals exact absurd h aa
  all_goals exact absurd h aa
 all_goals exact absurd h aa
theorem CZ {i:Nat} {st:Stmt} (h:ip S (.aug i x) st=true):∃ y py e p,st=.AugAssign (.Name y py) .Add e p∧(jD S i y && cx S x e)=true:=by
 cases st
 case AugAssign u1 u2 e p =>
  cases u1
  case Name y py =>
   cases u2
   case Add  =>
    exact ⟨y,py,e,p,rfl,h⟩
   all_goals exact absurd h aa
  all_goals exact absurd h aa
 all_goals exact absurd h aa
theorem C1 {st:Stmt} (h:ip S (.ife xc sa sb) st=true):∃ t bs os p,st=.If t bs os p∧(cx S xc t && cU S sa bs && cU S sb os)=true:=by
 cases st
 case If t bs os p =>
  exact ⟨t,bs,os,p,rfl,h⟩
 all_goals exact absurd h aa
theorem zW {t:T} {st:Stmt} (h:ip S (.loop t xa sb) st=true):∃ tg ite bs p,st=.For tg ite bs [] p∧(!S.hot && im ite && nO S xa tg ite && pF S t tg && cU S sb bs)=true:=by
 cases st
 case For tg ite bs u1 p =>
  cases u1
  case nil =>
   exact ⟨tg,ite,bs,p,rfl,h⟩
  all_goals exact absurd h aa
 all_goals exact absurd h aa
theorem C2 {st:Stmt} (h:ip S (.whl xc sb) st=true):∃ t bs p,st=.While t bs [] p∧(!S.hot && cx S xc t && cU S sb bs)=true:=by
 cases st
 case While t bs u1 p =>
  cases u1
  case nil =>
   exact ⟨t,bs,p,rfl,h⟩
  all_goals exact absurd h aa
 all_goals exact absurd h aa
theorem C3 {st:Stmt} (h:ip S (.ret x) st=true):∃ e p,st=.Return (some e) p∧cx S x e=true:=by
 cases st
 case Return u1 p =>
  cases u1
  case some e =>
   exact ⟨e,p,rfl,h⟩
  all_goals exact absurd h aa
 all_goals exact absurd h aa
theorem zX {st:Stmt} (h:ip S .retN st=true):∃ p,st=.Return none p:=by
 cases st
 case Return u1 p =>
  cases u1
  case none  =>
   exact ⟨p,rfl⟩
  all_goals exact absurd h aa
 all_goals exact absurd h aa
theorem C4 {c:Str} {st:Stmt} (h:ip S (.rse c) st=true):∃ y q m j q2 q3 p,st=.Raise (some (.Call (.Name y q) [.Constant (.str m) j q2] [] q3)) none p∧(!S.hot && decide (y=c) && S.en.contains c && dc S.sc c && fN c)=true:=by
 cases st
 case Raise u1 u2 p =>
  cases u1
  case some u3 =>
   cases u3
   case Call u4 u5 u6 q3 =>
    cases u4
    case Name y q =>
     cases u5
     case cons u7 u8 =>
      cases u7
      case Constant u9 j q2 =>
       cases u9
       case str m =>
        cases u8
        case nil =>
         cases u6
         case nil =>
          cases u2
          case none  =>
           exact ⟨y,q,m,j,q2,q3,p,rfl,h⟩
          all_goals exact absurd h aa
         all_goals exact absurd h aa
        all_goals exact absurd h aa
       all_goals exact absurd h aa
      all_goals exact absurd h aa
     all_goals exact absurd h aa
    all_goals exact absurd h aa
   all_goals exact absurd h aa
  all_goals exact absurd h aa
 all_goals exact absurd h aa
theorem C5 {i:Nat} {st:Stmt} (h:ip S (.app i x) st=true):∃ y q nm apos e cpos p,st=.Expr (.Call (.Attribute (.Name y q) nm apos) [e] [] cpos) p∧(decide (nm="append") && fC S i y && b8 e && (apos.endLine == cpos.line) && cx S x e)=true:=by
 cases st
 case Expr u1 p =>
  cases u1
  case Call u2 u3 u4 cpos =>
   cases u2
   case Attribute u5 nm apos =>
    cases u5
    case Name y q =>
     cases u3
     case cons e u6 =>
      cases u6
      case nil =>
       cases u4
       case nil =>
        exact ⟨y,q,nm,apos,e,cpos,p,rfl,h⟩
       all_goals exact absurd h aa
      all_goals exact absurd h aa
     all_goals exact absurd h aa
    all_goals exact absurd h aa
   all_goals exact absurd h aa
  all_goals exact absurd h aa
 all_goals exact absurd h aa
theorem C6 {i:Nat} {st:Stmt} (h:ip S (.ext i x) st=true):∃ y q nm apos e cpos p,st=.Expr (.Call (.Attribute (.Name y q) nm apos) [e] [] cpos) p∧(decide (nm="extend") && fC S i y && b8 e && (apos.endLine == cpos.line) && cx S x e)=true:=by
 cases st
 case Expr u1 p =>
  cases u1
  case Call u2 u3 u4 cpos =>
   cases u2
   case Attribute u5 nm apos =>
    cases u5
    case Name y q =>
     cases u3
     case cons e u6 =>
      cases u6
      case nil =>
       cases u4
       case nil =>
        exact ⟨y,q,nm,apos,e,cpos,p,rfl,h⟩
       all_goals exact absurd h aa
      all_goals exact absurd h aa
     all_goals exact absurd h aa
    all_goals exact absurd h aa
   all_goals exact absurd h aa
  all_goals exact absurd h aa
 all_goals exact absurd h aa
theorem C7 {i:Nat} {st:Stmt} (h:ip S (.rvs i) st=true):∃ y q nm apos cpos p,st=.Expr (.Call (.Attribute (.Name y q) nm apos) [] [] cpos) p∧(decide (nm="reverse") && fC S i y && (apos.endLine == cpos.line))=true:=by
 cases st
 case Expr u1 p =>
  cases u1
  case Call u2 u3 u4 cpos =>
   cases u2
   case Attribute u5 nm apos =>
    cases u5
    case Name y q =>
     cases u3
     case nil =>
      cases u4
      case nil =>
       exact ⟨y,q,nm,apos,cpos,p,rfl,h⟩
      all_goals exact absurd h aa
     all_goals exact absurd h aa
    all_goals exact absurd h aa
   all_goals exact absurd h aa
  all_goals exact absurd h aa
 all_goals exact absurd h aa
theorem uc {i j:Nat} {st:Stmt} (h:ip S (.appPop i j x) st=true):∃ y q nm apos z q2 nm2 apos2 es cpos2 cpos p,st=.Expr (.Call (.Attribute (.Name y q) nm apos) [.Call (.Attribute (.Name z q2) nm2 apos2) es [] cpos2] [] cpos) p∧(decide (nm="append") && fC S i y && (apos.endLine == cpos.line) && decide (nm2="pop") && fC S j z && (apos2.endLine == cpos2.line) && jA S x es)=true:=by
 cases st
 case Expr u1 p =>
  cases u1
  case Call u2 u3 u4 cpos =>
   cases u2
   case Attribute u5 nm apos =>
    cases u5
    case Name y q =>
     cases u3
     case cons u6 u7 =>
      cases u6
      case Call u8 es u9 cpos2 =>
       cases u8
       case Attribute u10 nm2 apos2 =>
        cases u10
        case Name z q2 =>
         cases u9
         case nil =>
          cases u7
          case nil =>
           cases u4
           case nil =>
            exact ⟨y,q,nm,apos,z,q2,nm2,apos2,es,cpos2,cpos,p,rfl,h⟩
           all_goals exact absurd h aa
          all_goals exact absurd h aa
         all_goals exact absurd h aa
        all_goals exact absurd h aa
       all_goals exact absurd h aa
      all_goals exact absurd h aa
     all_goals exact absurd h aa
    all_goals exact absurd h aa
   all_goals exact absurd h aa
  all_goals exact absurd h aa
 all_goals exact absurd h aa
theorem zY {j:Nat} {st:Stmt} (h:ip S (.popX j x) st=true):∃ z q2 nm2 apos2 es cpos2 p,st=.Expr (.Call (.Attribute (.Name z q2) nm2 apos2) es [] cpos2) p∧(decide (nm2="pop") && fC S j z && (apos2.endLine == cpos2.line) && jA S x es)=true:=by
 cases st
 case Expr u1 p =>
  cases u1
  case Call u2 es u3 cpos2 =>
   cases u2
   case Attribute u4 nm2 apos2 =>
    cases u4
    case Name z q2 =>
     cases u3
     case nil =>
      exact ⟨z,q2,nm2,apos2,es,cpos2,p,rfl,h⟩
     all_goals exact absurd h aa
    all_goals exact absurd h aa
   all_goals exact absurd h aa
  all_goals exact absurd h aa
 all_goals exact absurd h aa
theorem zZ {i j:Nat} {st:Stmt} (h:ip S (.popT (.n i) j x) st=true):∃ y q z q2 nm2 apos2 es cpos2 p,st=.Assign [.Name y q] (.Call (.Attribute (.Name z q2) nm2 apos2) es [] cpos2) p∧(jD S i y && decide (nm2="pop") && fC S j z && (apos2.endLine == cpos2.line) && jA S x es)=true:=by
 cases st
 case Assign u1 u2 p =>
  cases u1
  case cons u3 u4 =>
   cases u3
   case Name y q =>
    cases u4
    case nil =>
     cases u2
     case Call u5 es u6 cpos2 =>
      cases u5
      case Attribute u7 nm2 apos2 =>
       cases u7
       case Name z q2 =>
        cases u6
        case nil =>
         exact ⟨y,q,z,q2,nm2,apos2,es,cpos2,p,rfl,h⟩
        all_goals exact absurd h aa
       all_goals exact absurd h aa
      all_goals exact absurd h aa
     all_goals exact absurd h aa
    all_goals exact absurd h aa
   all_goals exact absurd h aa
  all_goals exact absurd h aa
 all_goals exact absurd h aa
theorem z0 {t:T} {j:Nat} {st:Stmt} (h:ip S (.popT (.t t) j x) st=true):∃ ts k q z q2 nm2 apos2 es cpos2 p,st=.Assign [.Tuple ts k q] (.Call (.Attribute (.Name z q2) nm2 apos2) es [] cpos2) p∧(pF S (.t t) (.Tuple ts k q) && decide (nm2="pop") && fC S j z && (apos2.endLine == cpos2.line) && jA S x es)=true:=by
 cases st
 case Assign u1 u2 p =>
  cases u1
  case cons u3 u4 =>
   cases u3
   case Tuple ts k q =>
    cases u4
    case nil =>
     cases u2
     case Call u5 es u6 cpos2 =>
      cases u5
      case Attribute u7 nm2 apos2 =>
       cases u7
       case Name z q2 =>
        cases u6
        case nil =>
         exact ⟨ts,k,q,z,q2,nm2,apos2,es,cpos2,p,rfl,h⟩
        all_goals exact absurd h aa
       all_goals exact absurd h aa
      all_goals exact absurd h aa
     all_goals exact absurd h aa
    all_goals exact absurd h aa
   all_goals exact absurd h aa
  all_goals exact absurd h aa
 all_goals exact absurd h aa
theorem z7 {c f:Str} {st:Stmt} (h:ip S (.fset c f xa xb) st=true):∃ oe nm p2 e p,st=.Assign [.Attribute oe nm p2] e p∧(decide (nm=f) && S.fl.contains (c,f) && cx S xa oe && cx S xb e && jj e)=true:=by
 cases st
 case Assign u1 e p =>
  cases u1
  case cons u2 u3 =>
   cases u2
   case Attribute oe nm p2 =>
    cases u3
    case nil =>
     exact ⟨oe,nm,p2,e,p,rfl,h⟩
    all_goals exact absurd h aa
   all_goals exact absurd h aa
  all_goals exact absurd h aa
 all_goals exact absurd h aa
theorem Aa {st:Stmt} (h:ip S (.csub xa xb xc) st=true):∃ oe ke q2 ve p,st=.Assign [.Subscript oe ke q2] ve p∧(cO ke && cx S xa oe && cx S xb ke && cx S xc ve && jj ve)=true:=by
 cases st
 case Assign u1 ve p =>
  cases u1
  case cons u2 u3 =>
   cases u2
   case Subscript oe ke q2 =>
    cases u3
    case nil =>
     exact ⟨oe,ke,q2,ve,p,rfl,h⟩
    all_goals exact absurd h aa
   all_goals exact absurd h aa
  all_goals exact absurd h aa
 all_goals exact absurd h aa
theorem Ab {i:Nat} {st:Stmt} (h:ip S (.sdap i xa xb) st=true):∃ y q nm apos ke q2 cpos nm2 apos2 e cpos2 p,st=.Expr (.Call (.Attribute (.Call (.Attribute (.Name y q) nm apos) [ke,.List [] q2] [] cpos) nm2 apos2) [e] [] cpos2) p∧(decide (nm="setdefault") && decide (nm2="append") && fC S i y && (apos.endLine == cpos.line) && (apos2.endLine == cpos2.line) && b8 ke && b8 e && cx S xa ke && cx S xb e)=true:=by
 cases st
 case Expr u1 p =>
  cases u1
  case Call u2 u3 u4 cpos2 =>
   cases u2
   case Attribute u5 nm2 apos2 =>
    cases u5
    case Call u6 u7 u8 cpos =>
     cases u6
     case Attribute u9 nm apos =>
      cases u9
      case Name y q =>
       cases u7
       case cons ke u10 =>
        cases u10
        case cons u11 u12 =>
         cases u11
         case List u13 q2 =>
          cases u13
          case nil =>
           cases u12
           case nil =>
            cases u8
            case nil =>
             cases u3
             case cons e u14 =>
              cases u14
              case nil =>
               cases u4
               case nil =>
                exact ⟨y,q,nm,apos,ke,q2,cpos,nm2,apos2,e,cpos2,p,rfl,h⟩
               all_goals exact absurd h aa
              all_goals exact absurd h aa
             all_goals exact absurd h aa
            all_goals exact absurd h aa
           all_goals exact absurd h aa
          all_goals exact absurd h aa
         all_goals exact absurd h aa
        all_goals exact absurd h aa
       all_goals exact absurd h aa
      all_goals exact absurd h aa
     all_goals exact absurd h aa
    all_goals exact absurd h aa
   all_goals exact absurd h aa
  all_goals exact absurd h aa
 all_goals exact absurd h aa
theorem C9 {i:Nat} {st:Stmt} (h:ip S (.upd i xa) st=true):∃ y q nm apos e cpos p,st=.Expr (.Call (.Attribute (.Name y q) nm apos) [e] [] cpos) p∧(decide (nm="update") && fC S i y && b8 e && (apos.endLine == cpos.line) && cx S xa e)=true:=by
 cases st
 case Expr u1 p =>
  cases u1
  case Call u2 u3 u4 cpos =>
   cases u2
   case Attribute u5 nm apos =>
    cases u5
    case Name y q =>
     cases u3
     case cons e u6 =>
      cases u6
      case nil =>
       cases u4
       case nil =>
        exact ⟨y,q,nm,apos,e,cpos,p,rfl,h⟩
       all_goals exact absurd h aa
      all_goals exact absurd h aa
     all_goals exact absurd h aa
    all_goals exact absurd h aa
   all_goals exact absurd h aa
  all_goals exact absurd h aa
 all_goals exact absurd h aa
theorem Da {i:Nat} {st:Stmt} (h:ip S (.ins i xa xb) st=true):∃ y q nm apos ke e cpos p,st=.Expr (.Call (.Attribute (.Name y q) nm apos) [ke,e] [] cpos) p∧(decide (nm="insert") && fC S i y && b8 ke && b8 e && (apos.endLine == cpos.line) && cx S xa ke && cx S xb e)=true:=by
 cases st
 case Expr u1 p =>
  cases u1
  case Call u2 u3 u4 cpos =>
   cases u2
   case Attribute u5 nm apos =>
    cases u5
    case Name y q =>
     cases u3
     case cons ke u6 =>
      cases u6
      case cons e u7 =>
       cases u7
       case nil =>
        cases u4
        case nil =>
         exact ⟨y,q,nm,apos,ke,e,cpos,p,rfl,h⟩
        all_goals exact absurd h aa
       all_goals exact absurd h aa
      all_goals exact absurd h aa
     all_goals exact absurd h aa
    all_goals exact absurd h aa
   all_goals exact absurd h aa
  all_goals exact absurd h aa
 all_goals exact absurd h aa
theorem Db {i:Nat} {st:Stmt} (h:ip S (.swS i xa xb xc) st=true):∃ y q ke q2 z q3 he q4 kc q5 ve p,st=.Assign [.Tuple [.Subscript (.Name y q) ke q2,.Subscript (.Name z q3) he q4] kc q5] ve p∧(!S.hot && fC S i y && decide (z=y) && cO ke && cO he && cx S xa ke && cx S xb he && cx S xc ve)=true:=by
 cases st
 case Assign u1 ve p =>
  cases u1
  case cons u2 u3 =>
   cases u2
   case Tuple u4 kc q5 =>
    cases u4
    case cons u5 u6 =>
     cases u5
     case Subscript u7 ke q2 =>
      cases u7
      case Name y q =>
       cases u6
       case cons u8 u9 =>
        cases u8
        case Subscript u10 he q4 =>
         cases u10
         case Name z q3 =>
          cases u9
          case nil =>
           cases u3
           case nil =>
            exact ⟨y,q,ke,q2,z,q3,he,q4,kc,q5,ve,p,rfl,h⟩
           all_goals exact absurd h aa
          all_goals exact absurd h aa
         all_goals exact absurd h aa
        all_goals exact absurd h aa
       all_goals exact absurd h aa
      all_goals exact absurd h aa
     all_goals exact absurd h aa
    all_goals exact absurd h aa
   all_goals exact absurd h aa
  all_goals exact absurd h aa
 all_goals exact absurd h aa
theorem Ac {st:Stmt} (h:ip S (.crev xa) st=true):∃ oe nm apos cpos p,st=.Expr (.Call (.Attribute oe nm apos) [] [] cpos) p∧(decide (nm="reverse") && cM oe && (apos.endLine == cpos.line) && cx S xa oe)=true:=by
 cases st
 case Expr u1 p =>
  cases u1
  case Call u2 u3 u4 cpos =>
   cases u2
   case Attribute oe nm apos =>
    cases u3
    case nil =>
     cases u4
     case nil =>
      exact ⟨oe,nm,apos,cpos,p,rfl,h⟩
     all_goals exact absurd h aa
    all_goals exact absurd h aa
   all_goals exact absurd h aa
  all_goals exact absurd h aa
 all_goals exact absurd h aa
theorem Ad {st:Stmt} (h:ip S (.capp xa xb) st=true):∃ oe nm apos e cpos p,st=.Expr (.Call (.Attribute oe nm apos) [e] [] cpos) p∧(decide (nm="append") && cM oe && b8 e && (apos.endLine == cpos.line) && cx S xa oe && cx S xb e)=true:=by
 cases st
 case Expr u1 p =>
  cases u1
  case Call u2 u3 u4 cpos =>
   cases u2
   case Attribute oe nm apos =>
    cases u3
    case cons e u5 =>
     cases u5
     case nil =>
      cases u4
      case nil =>
       exact ⟨oe,nm,apos,e,cpos,p,rfl,h⟩
      all_goals exact absurd h aa
     all_goals exact absurd h aa
    all_goals exact absurd h aa
   all_goals exact absurd h aa
  all_goals exact absurd h aa
 all_goals exact absurd h aa
theorem Dc {i:Nat} {st:Stmt} (h:ip S (.sub i xa xb) st=true):∃ y q ke q2 ve p,st=.Assign [.Subscript (.Name y q) ke q2] ve p∧(fC S i y && cO ke && cx S xa ke && cx S xb ve && jj ve)=true:=by
 cases st
 case Assign u1 ve p =>
  cases u1
  case cons u2 u3 =>
   cases u2
   case Subscript u4 ke q2 =>
    cases u4
    case Name y q =>
     cases u3
     case nil =>
      exact ⟨y,q,ke,q2,ve,p,rfl,h⟩
     all_goals exact absurd h aa
    all_goals exact absurd h aa
   all_goals exact absurd h aa
  all_goals exact absurd h aa
 all_goals exact absurd h aa
theorem Ae {i j:Nat} {st:Stmt} (h:ip S (.setS i j xa xb) st=true):∃ a q0 y q ke q2 kc q3 ve p,st=.Assign [.Tuple [.Name a q0,.Subscript (.Name y q) ke q2] kc q3] ve p∧(!S.hot && jD S i a && fC S j y && cO ke && cx S xa ke && cx S xb ve && ko ve)=true:=by
 cases st
 case Assign u1 ve p =>
  cases u1
  case cons u2 u3 =>
   cases u2
   case Tuple u4 kc q3 =>
    cases u4
    case cons u5 u6 =>
     cases u5
     case Name a q0 =>
      cases u6
      case cons u7 u8 =>
       cases u7
       case Subscript u9 ke q2 =>
        cases u9
        case Name y q =>
         cases u8
         case nil =>
          cases u3
          case nil =>
           exact ⟨a,q0,y,q,ke,q2,kc,q3,ve,p,rfl,h⟩
          all_goals exact absurd h aa
         all_goals exact absurd h aa
        all_goals exact absurd h aa
       all_goals exact absurd h aa
      all_goals exact absurd h aa
     all_goals exact absurd h aa
    all_goals exact absurd h aa
   all_goals exact absurd h aa
  all_goals exact absurd h aa
 all_goals exact absurd h aa
theorem Dd {c:Str} {i:Nat} {st:Stmt} (h:ip S (.trA sa c i sb) st=true):∃ bs x q n b0 suite p1 p2,st=.Try bs [.ExceptHandler (some (.Name x q)) (some n) (b0 :: suite) p1] [] [] p2 ∧
  (!S.hot && cU S sa bs && decide (x=c) && S.hn.contains c && dc S.sc c && fN c && decide (S.N[i]?=some n) && iy S.sc n && cU { S with hot:=true } sb (b0 :: suite))=true:=by
 cases st
 case Try bs hds os fs p =>
  cases hds
  case cons h0 hds =>
   cases h0
   case ExceptHandler t n body p1 =>
    cases t
    case some e =>
     cases e
     case Name x q =>
      cases n
      case some n =>
       cases body
       case cons b0 suite =>
        cases hds
        case nil =>
         cases os
         case nil =>
          cases fs
          case nil=>exact ⟨bs,x,q,n,b0,suite,p1,p,rfl,h⟩
          all_goals exact absurd h aa
         all_goals exact absurd h aa
        all_goals exact absurd h aa
       all_goals exact absurd h aa
      all_goals exact absurd h aa
     all_goals exact absurd h aa
    all_goals exact absurd h aa
  all_goals exact absurd h aa
 all_goals exact absurd h aa
theorem Fd {st:Stmt} (h:ip S (.tr sa sb) st=true):∃ bs hds p,st=.Try bs hds [] [] p∧hds≠[]∧(!S.hot && cU S sa bs && zR { S with hot:=true } sb hds)=true:=by
 cases st
 case Try bs hds os fs p =>
  cases hds
  case cons h0 hds =>
   cases os
   case nil =>
    cases fs
    case nil=>exact ⟨bs,h0 :: hds,p,rfl,by simp,h⟩
    all_goals exact absurd h aa
   all_goals exact absurd h aa
  all_goals exact absurd h aa
 all_goals exact absurd h aa
theorem Fe {c:Str} {a r:GM.S} {hds:List ExceptHandler} (h:zR S (.hd c a r) hds=true):∃ y q b0 suite p rest,hds=.ExceptHandler (some (.Name y q)) none (b0 :: suite) p :: rest∧(decide (y=c) && S.hn.contains c && dc S.sc c && fN c && cU S a (b0 :: suite) && zR S r rest)=true:=by
 cases hds
 case cons hd rest =>
  cases hd
  case ExceptHandler t n body p =>
   cases t
   case some e =>
    cases e
    case Name y q =>
     cases n
     case none =>
      cases body
      case cons b0 suite=>exact ⟨y,q,b0,suite,p,rest,rfl,h⟩
      all_goals exact absurd h aa
     all_goals exact absurd h aa
    all_goals exact absurd h aa
   all_goals exact absurd h aa
 all_goals exact absurd h aa
end

structure Go (C:Cx) (S:Sc):Prop where
 po:S.hot=false→PassesOwn (model C.prog C.w) C.A C.env C.xe
 hs:C.stack=C.env :: C.outer
 hf:C.env.frame=some C.env.locals
section
variable {C:Cx} {S:Sc} {G:Gn} {W:WX} {x:X}
theorem kK {i:Nat} {y:Str} (h:jD S i y=true):S.N[i]?=some y∧nN S.sc y=true∧(S.top || iy S.sc y)=true:=by
 unfold jD at h
 simp only [ab,af] at h
 exact ⟨h.1.1,h.1.2,h.2⟩
theorem dY {i:Nat} {y:Str} (h:fC S i y=true):S.N[i]?=some y∧gQ S.sc y=true∧fN y=true:=by
 unfold fC at h
 simp only [ab,af] at h
 exact ⟨h.1.1,h.1.2,h.2⟩
theorem De (B:Gd C S G W) {y:Str} (hf:(S.top || iy S.sc y)=true):C.fn y=true∨C.env.scope.names.lookup y=some .local:=by
 rw [bI] at hf
 rcases hf with h | h
 ·exact .inl ((B.top h).1 y)
 ·rw [B.sc]; exact .inr (gi h)
theorem ud {sc:Scope} {y:Str} (h:iy sc y=false):sc.names.lookup y≠some .local:=fun e=>by
 unfold iy at h
 rw [e] at h
 cases h
theorem p5 (B:Gd C S G W) {i:Nat} {y:Str} {py pos:Pos} {e:Expr} {te:TE} (hn:jD S i y=true) (he:PE C e te) (hs:swapsWith e (some (.Name y py)) pos.line C.env=pure false):PS C (.Assign [.Name y py] e pos) (tAsg te (gName i)):=by
 obtain ⟨h1,h2,h3⟩:=kK hn
 exact ps_set (by rw [B.N]; exact B.nd) (by rw [B.N]; exact h1) (by rw [B.sc]; exact jr h2) he hs (De B h3)
theorem wu:∀ {x:X} {el:Expr} {gs:List Comprehension} {scope:Scope} {p:Pos},sj x=true→cx S x (.ListComp el gs scope p)=true→∃ own t it c e,x=.comp own t it c e:=by
 intro x el gs scope p hce h
 cases x
 case comE=>cases hce
 case comp own t it c e=>exact ⟨own,t,it,c,e,rfl⟩
 case dic k ks vs=>rcases xQ h with ⟨_,_,_,q⟩ | ⟨_,_,_,_,_,_,_,q,_⟩ <;> cases q
 all_goals exact absurd h aa
theorem xT (B:Gd C S G W) {i:Nat} {y:Str} {py pos:Pos} {e:Expr} (h:(jD S i y && cx S x e && (CV S y py e && sj x))=true):PS C (.Assign [.Name y py] e pos) (tAsg (rd G.gm W x) (gName i)):=by
 simp only [ab] at h
 obtain ⟨⟨hn,hk⟩,hl,hce⟩:=h
 have he:=((cT x).E B e hk).1
 by_cases hc:jj e=true
 ·exact p5 B hn he (iT hc)
 ·cases e
  case ListComp el gs scope p =>
   by_cases hy:iy S.sc y=true
   ·have hl:(if iy S.sc y=true then E9 S.sc && (py.line == p.line) && !(scope.names.any fun (n,k)=>n == y && (k == .local || k == .cell)) else true)=true:=hl
    rw [aj hy] at hl
    simp only [ab,az] at hl
    obtain ⟨⟨l1,l2⟩,l3⟩:=hl
    obtain ⟨own,t,it,c,xe,rfl⟩:=wu hce hk
    obtain ⟨el',tg,ite,ifs,scope',p',ee,hh⟩:=tY hk
    cases ee
    simp only [ab,az] at hh
    obtain ⟨⟨⟨⟨⟨⟨⟨h0,h1⟩,h2⟩,h3⟩,h4⟩,h5⟩,h6⟩,h7⟩:=hh
    refine vZ B h0 h2 h1 (kK hn).1 hy (sw_true ?_ ?_ l2 l3) (oj h3) ((cT it).I B _ _ h4) (fun s H Cc cl fp=>yO (B.blk h0 scope s H Cc cl fp) h5)
     (fun s H Cc cl fp=>xR (cT c) (B.blk h0 scope s H Cc cl fp) ifs h7) (fun s H Cc cl fp=>((cT xe).E (B.blk h0 scope s H Cc cl fp) _ h6).1)
    ·rw [B.sc]
     unfold E9 at l1
     split at l1 <;> first | assumption | cases l1
    ·rw [B.sc]
     exact gi hy
   ·exact p5 B hn he (CA (by rw [B.sc]; exact ud (by simpa using hy)))
  case SetComp=>exact absurd hl aa
  case DictComp=>exact absurd hl aa
  all_goals exact absurd rfl hc

theorem Gd.tr (B:Gd C S G W) (hh:S.hot=false) {W':WX} (pn:List (Addr × Obj)) (xe:Value→Shared→Prop) (tk:Takes (C.tr pn xe) W'):Gd (C.tr pn xe) S G W' :=
 ⟨B.N,B.nd,B.sc,B.cool,B.un,B.top,tk,B.Y,B.mg,B.fns,B.blt,B.gns,B.exs,B.hns,B.ms,B.fl,B.mt,B.mks,(fun a nm h=>by rw [B.px0 hh] at h; cases h),(fun _=>B.px0 hh),⟨B.rmh.dp,B.rmh.un⟩,B.xs,B.hx,B.xi,B.isc⟩
theorem Gd.suite (B:Gd C S G W) (hh:S.hot=false) (a:Addr) (pn:List (Addr × Obj)):Gd (C.suite a pn) { S with hot:=true } G WF :=
 ⟨B.N,B.nd,B.sc,(fun h=>by cases h),B.un,B.top,takes0,B.Y,B.mg,(fun h=>by cases h),B.blt,B.gns,B.exs,B.hns,B.ms,B.fl,(fun h=>by cases h),(fun h=>by cases h),(fun a nm h=>by rw [B.px0 hh] at h; cases h),(fun h=>by cases h),⟨B.rmh.dp,B.rmh.un⟩,B.xs,B.hx,B.xi,B.isc⟩

def Gn.held (G:Gn) (a:Addr) (nm:Str):Gn:={ G with Y:={ G.Y with pn:=fun b=>if b=a then some nm else none } }
theorem Gd.suiteN (B:Gd C S G W) {a:Addr} {oe:Obj} {nm:Str} (pn:List (Addr × Obj)) (hx:EA C.mg nm oe):Gd (C.suite a ((a,oe) :: pn)) { S with hot:=true } (G.held a nm) WF :=
 ⟨B.N,B.nd,B.sc,(fun h=>by cases h),B.un,B.top,takes0,(by show (⟨G.Y.P,G.Y.w,G.Y.K,_⟩:Wd)=_; rw [B.hY.1,B.hY.2,B.hK]; rfl),B.mg,(fun h=>by cases h),B.blt,B.gns,B.exs,B.hns,B.ms,B.fl,(fun h=>by cases h),(fun h=>by cases h),
  (fun b m h=>by
   have h:(if b=a then some nm else none)=some m:=h
   split at h
   ·rename_i e
    cases h
    exact ⟨oe,by rw [e]; exact ap,hx⟩
   ·cases h),(fun h=>by cases h),⟨B.rmh.dp,B.rmh.un⟩,B.xs,B.hx,B.xi,B.isc⟩
theorem Go.suite (L:Go C S) (a:Addr) (pn:List (Addr × Obj)):Go (C.suite a pn) { S with hot:=true }:=⟨(fun h=>by cases h),L.hs,L.hf⟩
end
structure SndS (x:GM.S):Prop where
 F:∀ {C:Cx} {S:Sc} {G:Gn} {W:WX} (B:Gd C S G W) (L:Go C S) (st:Stmt),ip S x st=true→PS C st (rS G W x)
 L:∀ {C:Cx} {S:Sc} {G:Gn} {W:WX} (B:Gd C S G W) (L:Go C S) (sts:List Stmt),cU S x sts=true→PSs C sts (rS G W x)
 H:∀ {C:Cx} {S:Sc} {G:Gn} {W:WX} (B:Gd C S G W) (hh:S.hot=false) (L:Go C S) (hds:List ExceptHandler),zR { S with hot:=true } x hds=true→∃ lst,HdsOk C hds lst ∧
  ∀ (E:Ends) (g:Gh) (σ:L2.St) (H:Hp) (l:Lc) (s:cj) (e:Ex) (c:Value) (dd:Option Addr),SR G.Y g σ H l s→yi G.mg e c dd→ValS G.gm W g (nK G.fs G.gs G.ms e x l s) (KO G.gm E)→wMany C.K W E lst c dd σ H
theorem SndS.ofF {x:GM.S} (h:∀ {C:Cx} {S:Sc} {G:Gn} {W:WX} (B:Gd C S G W) (L:Go C S) (st:Stmt),ip S x st=true→PS C st (rS G W x)) (h1:∀ S es,cU S x es=false) (h2:∀ S es,zR S x es=false):SndS x :=
 ⟨h,(fun B L es q=>by rw [h1] at q; cases q),(fun B _ L es q=>by rw [h2] at q; cases q)⟩
theorem ue:∀ x:GM.S,SndS x:=by
 intro x
 induction x with
 | nil =>
  refine ⟨fun B L st h=>(by cases h),fun B L sts h=>?_,fun B hh0 L hds h=>?_⟩
  ·cases sts with
   | nil=>exact CC
   | cons _ _=>cases h
  ·cases hds with
   | nil =>
    refine ⟨[],.nil,fun E g σ H l s e c dd SS ex h=>?_⟩
    exact h g σ H c dd (.refl g) SS ex
   | cons _ _=>cases h
 | cons a b iha ihb =>
  refine ⟨fun B L st h=>(by cases h),fun B L sts h=>?_,fun B _ L hds h=>(by cases hds <;> cases h)⟩
  cases sts with
  | nil=>cases h
  | cons st sts =>
   have h:(ip _ a st && cU _ b sts)=true:=h
   simp only [ab] at h
   exact CD (iha.F B L st h.1) (ihb.L B L sts h.2)
 | pass =>
  refine .ofF (fun B L st h=>?_) (fun _ es=>by cases es <;> rfl) (fun _ es=>by cases es <;> rfl)
  obtain ⟨p,rfl⟩:=zS h
  exact zC
 | brk =>
  refine .ofF (fun B L st h=>?_) (fun _ es=>by cases es <;> rfl) (fun _ es=>by cases es <;> rfl)
  obtain ⟨p,rfl⟩:=CW h
  exact CB
 | cont =>
  refine .ofF (fun B L st h=>?_) (fun _ es=>by cases es <;> rfl) (fun _ es=>by cases es <;> rfl)
  obtain ⟨p,rfl⟩:=zT h
  exact zD
 | ex x =>
  refine .ofF (fun B L st h=>?_) (fun _ es=>by cases es <;> rfl) (fun _ es=>by cases es <;> rfl)
  obtain ⟨e,p,rfl,hh⟩:=Fb h
  simp only [ab] at hh
  exact E5 ((cT x).E B e hh.2).1 hh.1
 | set t x =>
  refine .ofF (fun B L st h=>?_) (fun _ es=>by cases es <;> rfl) (fun _ es=>by cases es <;> rfl)
  cases t with
  | n i =>
   obtain ⟨y,py,e,p,rfl,hh⟩:=zU h
   exact zE (xT B hh)
  | t ts =>
   obtain ⟨es,k,q,e,p,rfl,hh⟩:=zV h
   simp only [ab] at hh
   exact zF ((cT x).E B e hh.1.2).1 (yO B hh.1.1) hh.2
  | nil=>cases st <;> cases h
  | cons a b=>cases st <;> cases h
 | own i x =>
  refine .ofF (fun B L st h=>?_) (fun _ es=>by cases es <;> rfl) (fun _ es=>by cases es <;> rfl)
  obtain ⟨y,py,e,p,rfl,hh⟩:=CY h
  exact CE (xT B hh)
 | aug i x =>
  refine .ofF (fun B L st h=>?_) (fun _ es=>by cases es <;> rfl) (fun _ es=>by cases es <;> rfl)
  obtain ⟨y,py,e,p,rfl,hh⟩:=CZ h
  simp only [ab] at hh
  obtain ⟨h1,h2,h3⟩:=kK hh.1
  exact CG B h1 h2 h3 ((cT x).E B e hh.2).1
 | fz is a ih =>
  refine .ofF (fun B L st h=>?_) (fun _ es=>by cases es <;> rfl) (fun _ es=>by cases es <;> rfl)
  exact E6 (ih.F B L st (by cases st <;> exact h))
 | ife c a b iha ihb =>
  refine .ofF (fun B L st h=>?_) (fun _ es=>by cases es <;> rfl) (fun _ es=>by cases es <;> rfl)
  obtain ⟨t,bs,os,p,rfl,hh⟩:=C1 h
  simp only [ab] at hh
  exact E7 ((cT c).E B t hh.1.1).2 (iha.L B L bs hh.1.2) (ihb.L B L os hh.2)
 | loop t it b ihb =>
  refine .ofF (fun B L st h=>?_) (fun _ es=>by cases es <;> rfl) (fun _ es=>by cases es <;> rfl)
  obtain ⟨tg,ite,bs,p,rfl,hh⟩:=zW h
  simp only [ab,az] at hh
  obtain ⟨⟨⟨⟨h0,h1⟩,h2⟩,h3⟩,h4⟩:=hh
  exact CH B (L.po h0) h0 h1 ((cT it).I B _ _ h2) (yO B h3) (ihb.L B L bs h4)
 | whl c b ihb =>
  refine .ofF (fun B L st h=>?_) (fun _ es=>by cases es <;> rfl) (fun _ es=>by cases es <;> rfl)
  obtain ⟨t,bs,p,rfl,hh⟩:=C2 h
  simp only [ab,az] at hh
  obtain ⟨⟨h0,h1⟩,h2⟩:=hh
  exact wp (L.po h0) ((cT c).E B t h1).2 (ihb.L B L bs h2)
 | ret x =>
  refine .ofF (fun B L st h=>?_) (fun _ es=>by cases es <;> rfl) (fun _ es=>by cases es <;> rfl)
  obtain ⟨e,p,rfl,hh⟩:=C3 h
  exact CI ((cT x).E B e hh).1
 | retN =>
  refine .ofF (fun B L st h=>?_) (fun _ es=>by cases es <;> rfl) (fun _ es=>by cases es <;> rfl)
  obtain ⟨p,rfl⟩:=zX h
  exact zH
 | rse c =>
  refine .ofF (fun B L st h=>?_) (fun _ es=>by cases es <;> rfl) (fun _ es=>by cases es <;> rfl)
  obtain ⟨y,q,m,j,q2,q3,p,rfl,hh⟩:=C4 h
  simp only [ab,az,af] at hh
  obtain ⟨⟨⟨⟨h0,rfl⟩,h2⟩,h3⟩,h4⟩:=hh
  exact wq B h0 (aL.mp h2) h3 h4
 | app i x =>
  refine .ofF (fun B L st h=>?_) (fun _ es=>by cases es <;> rfl) (fun _ es=>by cases es <;> rfl)
  obtain ⟨y,q,nm,apos,e,cpos,p,rfl,hh⟩:=C5 h
  simp only [ab,af] at hh
  obtain ⟨⟨⟨⟨rfl,h1⟩,h2⟩,h3⟩,h4⟩:=hh
  obtain ⟨k1,k2,k3⟩:=dY h1
  exact CJ B k1 k2 k3 h2 h3 ((cT x).E B e h4).1
 | ext i x =>
  refine .ofF (fun B L st h=>?_) (fun _ es=>by cases es <;> rfl) (fun _ es=>by cases es <;> rfl)
  obtain ⟨y,q,nm,apos,e,cpos,p,rfl,hh⟩:=C6 h
  simp only [ab,af] at hh
  obtain ⟨⟨⟨⟨rfl,h1⟩,h2⟩,h3⟩,h4⟩:=hh
  obtain ⟨k1,k2,k3⟩:=dY h1
  exact CK B k1 k2 k3 h2 h3 ((cT x).E B e h4).1
 | rvs i =>
  refine .ofF (fun B L st h=>?_) (fun _ es=>by cases es <;> rfl) (fun _ es=>by cases es <;> rfl)
  obtain ⟨y,q,nm,apos,cpos,p,rfl,hh⟩:=C7 h
  simp only [ab,af] at hh
  obtain ⟨⟨rfl,h1⟩,h2⟩:=hh
  obtain ⟨k1,k2,k3⟩:=dY h1
  exact CN B k1 k2 k3 h2
 | appPop i j x =>
  refine .ofF (fun B L st h=>?_) (fun _ es=>by cases es <;> rfl) (fun _ es=>by cases es <;> rfl)
  obtain ⟨y,q,nm,apos,z,q2,nm2,apos2,es,cpos2,cpos,p,rfl,hh⟩:=uc h
  simp only [ab,af] at hh
  obtain ⟨⟨⟨⟨⟨⟨rfl,h1⟩,h2⟩,rfl⟩,h3⟩,h4⟩,h5⟩:=hh
  obtain ⟨k1,k2,k3⟩:=dY h1
  obtain ⟨j1,j2,j3⟩:=dY h3
  exact ub B k1 k2 k3 rfl h2 (mV B j1 j2 j3 h4 h5)
 | popX j x =>
  refine .ofF (fun B L st h=>?_) (fun _ es=>by cases es <;> rfl) (fun _ es=>by cases es <;> rfl)
  obtain ⟨z,q2,nm2,apos2,es,cpos2,p,rfl,hh⟩:=zY h
  simp only [ab,af] at hh
  obtain ⟨⟨⟨rfl,h3⟩,h4⟩,h5⟩:=hh
  obtain ⟨j1,j2,j3⟩:=dY h3
  exact zI (mV B j1 j2 j3 h4 h5) rfl
 | popT t j x =>
  refine .ofF (fun B L st h=>?_) (fun _ es=>by cases es <;> rfl) (fun _ es=>by cases es <;> rfl)
  cases t with
  | n i =>
   obtain ⟨y,q,z,q2,nm2,apos2,es,cpos2,p,rfl,hh⟩:=zZ h
   simp only [ab,af] at hh
   obtain ⟨⟨⟨⟨h1,rfl⟩,h3⟩,h4⟩,h5⟩:=hh
   obtain ⟨j1,j2,j3⟩:=dY h3
   have he:=mV (p:=q2) (x:=x) B j1 j2 j3 h4 h5
   exact zJ he (p5 B h1 he rfl)
  | t ts =>
   obtain ⟨es0,k,q,z,q2,nm2,apos2,es,cpos2,p,rfl,hh⟩:=z0 h
   simp only [ab,af] at hh
   obtain ⟨⟨⟨⟨h1,rfl⟩,h3⟩,h4⟩,h5⟩:=hh
   obtain ⟨j1,j2,j3⟩:=dY h3
   exact zK (mV B j1 j2 j3 h4 h5) (yO B h1) rfl
  | nil=>cases st <;> cases h
  | cons a b=>cases st <;> cases h
 | sub i k v =>
  refine .ofF (fun B L st h=>?_) (fun _ es=>by cases es <;> rfl) (fun _ es=>by cases es <;> rfl)
  obtain ⟨y,q,ke,q2,ve,p,rfl,hh⟩:=Dc h
  simp only [ab] at hh
  obtain ⟨⟨⟨⟨h1,h2⟩,h3⟩,h4⟩,h5⟩:=hh
  obtain ⟨k1,k2,k3⟩:=dY h1
  exact CP B k1 k2 k3 h2 ((cT k).E B ke h3).1 ((cT v).E B ve h4).1 h5
 | setS i j k x =>
  refine .ofF (fun B L st h=>?_) (fun _ es=>by cases es <;> rfl) (fun _ es=>by cases es <;> rfl)
  obtain ⟨a,q0,y,q,ke,q2,kc,q3,ve,p,rfl,hh⟩:=Ae h
  simp only [ab,az] at hh
  obtain ⟨⟨⟨⟨⟨⟨h0,h1⟩,h2⟩,h3⟩,h4⟩,h5⟩,h6⟩:=hh
  obtain ⟨j1,j2,j3⟩:=kK h1
  obtain ⟨k1,k2,k3⟩:=dY h2
  exact zL B h0 j1 j2 j3 k1 k2 k3 h3 ((cT k).E B ke h4).1 ((cT x).E B ve h5).1 h6
 | fset c f o x =>
  refine .ofF (fun B L st h=>?_) (fun _ es=>by cases es <;> rfl) (fun _ es=>by cases es <;> rfl)
  obtain ⟨oe,nm,p2,e,p,rfl,hh⟩:=z7 h
  simp only [ab,af,aL] at hh
  obtain ⟨⟨⟨⟨rfl,h1⟩,h2⟩,h3⟩,h4⟩:=hh
  exact zM B h1 ((cT o).E B oe h2).1 ((cT x).E B e h3).1 h4
 | csub o k v =>
  refine .ofF (fun B L st h=>?_) (fun _ es=>by cases es <;> rfl) (fun _ es=>by cases es <;> rfl)
  obtain ⟨oe,ke,q2,ve,p,rfl,hh⟩:=Aa h
  simp only [ab] at hh
  obtain ⟨⟨⟨⟨h1,h2⟩,h3⟩,h4⟩,h5⟩:=hh
  exact zQ B h1 ((cT o).E B oe h2).1 ((cT k).E B ke h3).1 ((cT v).E B ve h4).1 h5
 | capp o x =>
  refine .ofF (fun B L st h=>?_) (fun _ es=>by cases es <;> rfl) (fun _ es=>by cases es <;> rfl)
  obtain ⟨oe,nm,apos,e,cpos,p,rfl,hh⟩:=Ad h
  simp only [ab,af] at hh
  obtain ⟨⟨⟨⟨⟨rfl,h1⟩,h2⟩,h3⟩,h4⟩,h5⟩:=hh
  exact zN h2 h3 h1 ((cT o).E B oe h4).1 ((cT x).E B e h5).1
 | sdap i k x =>
  refine .ofF (fun B L st h=>?_) (fun _ es=>by cases es <;> rfl) (fun _ es=>by cases es <;> rfl)
  obtain ⟨y,q,nm,apos,ke,q2,cpos,nm2,apos2,e,cpos2,p,rfl,hh⟩:=Ab h
  simp only [ab,af] at hh
  obtain ⟨⟨⟨⟨⟨⟨⟨⟨rfl,rfl⟩,h1⟩,h2⟩,h3⟩,h4⟩,h5⟩,h6⟩,h7⟩:=hh
  obtain ⟨k1,k2,k3⟩:=dY h1
  exact zO B k1 k2 k3 h4 h5 h2 h3 ((cT k).E B ke h6).1 ((cT (.lst .nil)).E B _ rfl).1 ((cT x).E B e h7).1
 | upd i x =>
  refine .ofF (fun B L st h=>?_) (fun _ es=>by cases es <;> rfl) (fun _ es=>by cases es <;> rfl)
  obtain ⟨y,q,nm,apos,e,cpos,p,rfl,hh⟩:=C9 h
  simp only [ab,af] at hh
  obtain ⟨⟨⟨⟨rfl,h1⟩,h2⟩,h3⟩,h4⟩:=hh
  obtain ⟨k1,k2,k3⟩:=dY h1
  exact CQ B k1 k2 k3 h2 h3 ((cT x).E B e h4).1
 | ins i k x =>
  refine .ofF (fun B L st h=>?_) (fun _ es=>by cases es <;> rfl) (fun _ es=>by cases es <;> rfl)
  obtain ⟨y,q,nm,apos,ke,e,cpos,p,rfl,hh⟩:=Da h
  simp only [ab,af] at hh
  obtain ⟨⟨⟨⟨⟨⟨rfl,h1⟩,h2⟩,h3⟩,h4⟩,h5⟩,h6⟩:=hh
  obtain ⟨k1,k2,k3⟩:=dY h1
  exact CS B k1 k2 k3 h2 h3 h4 ((cT k).E B ke h5).1 ((cT x).E B e h6).1
 | swS i k u x =>
  refine .ofF (fun B L st h=>?_) (fun _ es=>by cases es <;> rfl) (fun _ es=>by cases es <;> rfl)
  obtain ⟨y,q,ke,q2,z,q3,he,q4,kc,q5,ve,p,rfl,hh⟩:=Db h
  simp only [ab,af,az] at hh
  obtain ⟨⟨⟨⟨⟨⟨⟨h0,h1⟩,rfl⟩,h2⟩,h3⟩,h4⟩,h5⟩,h6⟩:=hh
  obtain ⟨k1,k2,k3⟩:=dY h1
  exact CU B h0 k1 k2 k3 h2 h3 ((cT k).E B ke h4).1 ((cT u).E B he h5).1 ((cT x).E B ve h6).1
 | crev o =>
  refine .ofF (fun B L st h=>?_) (fun _ es=>by cases es <;> rfl) (fun _ es=>by cases es <;> rfl)
  obtain ⟨oe,nm,apos,cpos,p,rfl,hh⟩:=Ac h
  simp only [ab,af] at hh
  obtain ⟨⟨⟨rfl,h1⟩,h2⟩,h3⟩:=hh
  exact zP h2 h1 ((cT o).E B oe h3).1
 | tr b hs ihb ihh =>
  refine .ofF (fun {C S G W} B L st h=>?_) (fun _ es=>by cases es <;> rfl) (fun _ es=>by cases es <;> rfl)
  obtain ⟨bs,hds,p,rfl,hne,hh⟩:=Fd h
  simp only [ab,az] at hh
  obtain ⟨⟨h0,h1⟩,h2⟩:=hh
  obtain ⟨lst,hk,hw⟩:=ihh.H B h0 L hds h2
  cases hds with
  | nil=>exact absurd rfl hne
  | cons h0' hds =>
   refine PS.imp (ps_try_many (tb:=fun W'=>rS G W' b) L.hs L.hf B.tk (fun W' pn xe tk po=>ihb.L (B.tr h0 pn xe tk) ⟨fun _=>po,L.hs,L.hf⟩ bs h1) hk) ?_
   rintro E σ H ⟨g,l,s,SS,h⟩
   refine ⟨g,l,s,SS,?_⟩
   have h:ValS G.gm W g (match cF G.fs G.gs G.ms b l s with
    | .er e s1 l1=>nK G.fs G.gs G.ms e hs l1 s1
    | r=>r) (KO G.gm E):=h
   show ValS G.gm (wMany C.K W E lst) g (cF G.fs G.gs G.ms b l s) (KO G.gm E)
   cases e:cF G.fs G.gs G.ms b l s with
   | ok o=>rw [e] at h; exact h
   | no=>rw [e] at h; exact h
   | er ex s1 l1 =>
    rw [e] at h
    exact fun g1 σ1 H1 c dd e1 S1 xr=>hw E g1 σ1 H1 l1 s1 ex c dd S1 xr (ValS.ext e1 h)
 | hd c a r iha ihr =>
  refine ⟨fun B L st h=>(by cases st <;> cases h),fun B L sts h=>(by cases sts <;> cases h),fun {C S G W} B hh0 L hds h=>?_⟩
  obtain ⟨y,q,b0,suite,p,hds',rfl,hh⟩:=Fe h
  simp only [ab,af] at hh
  obtain ⟨⟨⟨⟨⟨rfl,h1⟩,h2⟩,h3⟩,h4⟩,h5⟩:=hh
  obtain ⟨lst,hk,hw⟩:=ihr.H B hh0 L hds' h5
  obtain ⟨cv,hcv⟩:=B.hns y (aL.mp h1)
  refine ⟨(cv,fun _ _ _=>rS G WF a) :: lst,.cons ⟨B.gl h2,dX h3,.inl hcv⟩ (fun a' oe cls d pn _ _=>iha.L (B.suite hh0 a' _) (L.suite a' _) _ h4) hk,fun E g σ H l s e c dd SS ex h=>?_⟩
  have h:ValS G.gm W g (match G.ms e.cls y with
   | some true=>R.noEr (cF G.fs G.gs G.ms a l s)
   | some false=>nK G.fs G.gs G.ms e r l s
   | none=>.no) (KO G.gm E):=h
  cases em:G.ms e.cls y with
  | none=>rw [em] at h; exact h.elim
  | some bb =>
   rw [em] at h
   have xm:=B.ms e.cls y bb c cv em (by rw [← B.mg]; exact ex.1) hcv
   refine ⟨bb,xm,fun hb a' _=>?_,fun hb=>?_⟩
   ·subst hb
    refine ⟨g,l,s,SS,?_⟩
    have h:ValS G.gm W g (R.noEr (cF G.fs G.gs G.ms a l s)) (KO G.gm E):=h
    show ValS G.gm WF g (cF G.fs G.gs G.ms a l s) (KO G.gm E)
    cases e1:cF G.fs G.gs G.ms a l s with
    | ok o=>rw [e1] at h; exact h
    | er _ _ _=>rw [e1] at h; exact h.elim
    | no=>rw [e1] at h; exact h.elim
   ·subst hb
    exact hw E g σ H l s e c dd SS ex h
 | rseA c x =>
  refine .ofF (fun B L st h=>?_) (fun _ es=>by cases es <;> rfl) (fun _ es=>by cases es <;> rfl)
  refine PS.imp (t:=fun _ _ _=>False) ⟨fun _ _ _ _ _ _ h=>h.elim⟩ ?_
  rintro E σ H ⟨g,l,s,SS,h⟩
  exact h
 | trA b c i a ihb iha =>
  refine .ofF (fun {C S G W} B L st h=>?_) (fun _ es=>by cases es <;> rfl) (fun _ es=>by cases es <;> rfl)
  obtain ⟨bs,x,q,n,b0,suite,p1,p2,rfl,hh⟩:=Dd h
  simp only [ab,az,af] at hh
  obtain ⟨⟨⟨⟨⟨⟨⟨⟨h0,h1⟩,rfl⟩,h2⟩,h3⟩,h4⟩,h5⟩,h6⟩,h7⟩:=hh
  obtain ⟨cv,hcv⟩:=B.hns x (aL.mp h2)
  have hk:C.env.kindOf n=some .local:=by
   show C.env.scope.names.lookup n=_
   rw [B.sc]
   exact gi h6
  have hsu:∀ (a':Addr) (oe:Obj) (cls:Value) (d:Option Addr) (pn:List (Addr × Obj)),Zc cls d oe→(∃ vs,oe.data=.fields vs)→PSs (C.suite a' ((a',oe) :: pn)) (b0 :: suite) (fun D σ H=>d=none∧∃ nm,C.mg nm=some cls∧rS (G.held a' nm) WF a D σ H):=by
   intro a' oe cls d pn hz hf
   refine ⟨fun pins s σ H D I hq=>?_⟩
   obtain ⟨rfl,nm,hm,hq⟩:=hq
   exact (iha.L (B.suiteN pn ⟨cls,hm,hz,hf⟩) (L.suite a' _) _ h7).run pins s σ H D I hq
  refine PS.imp (ps_try_as (tb:=fun W'=>rS G W' b) (i:=i) L.hs L.hf (by rw [B.N]; exact B.nd) (by rw [B.N]; exact h5) hk ⟨B.gl h3,dX h4,.inl hcv⟩ B.tk (fun W' pn xe tk po=>ihb.L (B.tr h0 pn xe tk) ⟨fun _=>po,L.hs,L.hf⟩ bs h1) hsu) ?_
  rintro E σ H ⟨g,l,s,SS,h⟩
  refine ⟨g,l,s,SS,?_⟩
  have h:ValS G.gm W g (match cF G.fs G.gs G.ms b l s with
   | .er e s1 l1=>match G.ms e.cls x with
    | some true=>mj i l1 s1 (cF G.fs G.gs G.ms a (l1.set i (some ⟨.fr,.exc e.cls⟩)) s1)
    | some false=>.er e s1 l1
    | none=>.no
   | r=>r) (KO G.gm E):=h
  show ValS G.gm (wAs C.K cv i _ W E) g (cF G.fs G.gs G.ms b l s) (KO G.gm E)
  cases e:cF G.fs G.gs G.ms b l s with
  | ok o=>rw [e] at h; exact h
  | no=>rw [e] at h; exact h
  | er ex s1 l1 =>
   rw [e] at h
   have h:ValS G.gm W g (match G.ms ex.cls x with
    | some true=>mj i l1 s1 (cF G.fs G.gs G.ms a (l1.set i (some ⟨.fr,.exc ex.cls⟩)) s1)
    | some false=>.er ex s1 l1
    | none=>.no) (KO G.gm E):=h
   intro g1 σ1 H1 cls dd e1 S1 xr
   have hm:C.mg ex.cls=some cls:=by rw [← B.mg]; exact xr.1
   cases em:G.ms ex.cls x with
   | none=>rw [em] at h; exact h.elim
   | some bb =>
    rw [em] at h
    refine ⟨bb,B.ms ex.cls x bb cls cv em hm hcv,fun hb a' ha'=>?_,fun hb=>?_⟩
    ·subst hb
     refine ⟨xr.2.2,ex.cls,hm,?_⟩
     have pn:G.Y.pn=jR:=B.px0 h0
     have yl:YLe G.Y (G.held a' ex.cls).Y:=⟨rfl,rfl,rfl,fun b c q=>by rw [pn] at q; cases q⟩
     have ye:YEq (G.held a' ex.cls).Y G.Y:=⟨rfl,rfl,rfl⟩
     have rx:Rp (G.held a' ex.cls).Y g1.F (.exc ex.cls) (.ref a'):=.exc (aj rfl)
     refine ⟨g1,_,s1,(S1.up yl).set i rx,?_⟩
     have h1:ValS G.gm W g1 (mj i l1 s1 (cF G.fs G.gs G.ms a (l1.set i (some ⟨.fr,.exc ex.cls⟩)) s1)) (KO G.gm E):=ValS.ext e1 h
     show ValS (G.held a' ex.cls).gm WF g1 (cF G.fs G.gs G.ms a (l1.set i (some ⟨.fr,.exc ex.cls⟩)) s1) (KO (G.held a' ex.cls).gm _)
     cases er:cF G.fs G.gs G.ms a (l1.set i (some ⟨.fr,.exc ex.cls⟩)) s1 with
     | no=>rw [er] at h1; exact h1.elim
     | er _ _ _=>rw [er] at h1; exact h1.elim
     | ok o =>
      rw [er] at h1
      cases o with
      | bk _ _=>exact h1.elim
      | ct _ _=>exact h1.elim
      | rt _ _ _=>exact h1.elim
      | nx l2 s2 =>
       have et:mj i l1 s1 (.ok (.nx l2 s2))=.no∨((s2=s1∧t7 i l1 l2)∧mj i l1 s1 (.ok (.nx l2 s2))=.ok (.nx (l2.set i none) s2)):=by
        by_cases hc:s2=s1∧t7 i l1 l2
        ·exact .inr ⟨hc,aj hc⟩
        ·exact .inl (aq hc)
       rcases et with et | ⟨hc,et⟩
       ·rw [et] at h1
        exact h1.elim
       ·rw [et] at h1
        obtain ⟨rfl,ho⟩:=hc
        intro g2 e2 σ2 H2 S2
        have S3:=S2.gone i
        refine h1 g2 e2 _ H2 (S3.dn ye (fun j z hz=>?_) fun n c hc=>S1.nxS pn hc)
        have hj:j≠i:=fun ej=>by
         subst ej
         by_cases hl:j < l2.length
         ·rw [aJ hl] at hz; cases hz
         ·rw [aS (by simpa using hl)] at hz; cases hz
        rw [ay (Ne.symm hj)] at hz
        rcases ho j z hj hz with q | q
        ·exact S1.nxL pn q
        ·exact q
    ·subst hb
     exact (ValS.ext e1 h) g1 σ1 H1 cls dd (.refl g1) S1 xr

def li:List Bool→List D→Lc
 | _,[]=>[]
 | kp,d :: ds=>some ⟨if kp.headD false=true then .fr else .bo,d⟩ :: li kp.tail ds
def fF (kp:List Bool) (n:Nat) (ds:List D):Lc:=li kp ds++List.replicate (n - ds.length) none

noncomputable def iB (fs:List Fn) (gs:List D) (ms:Str→Str→Option Bool) (body:S) (kp:List Bool) (n:Nat) (ds:List D):R (D × Tag) :=
 match cF fs gs ms body (fF kp n ds) [] with
 | .ok (.rt d t [])=>.ok (d,t)
 | .ok (.nx _ [])=>.ok (.non,.fr)
 | .er e _ _=>.er e [] []
 | _=>.no

noncomputable def callT (fs:List Fn) (gs:List D) (ms:Str→Str→Option Bool) (body:S) (kp:List Bool) (n:Nat) (ds:List D) (s:cj):R (D × Tag × cj) :=
 match cF fs gs ms body (fF kp n ds) s with
 | .ok (.rt d t (c :: s1))=>.ok (d,t,c :: s1)
 | .ok (.nx _ (c :: s1))=>.ok (.non,.fr,c :: s1)
 | .er e (c :: s1) _=>.er e (c :: s1) []
 | _=>.no
theorem iV:∀ {kp:List Bool} {ds:List D},(li kp ds).length=ds.length
 | _,[]=>rfl
 | kp,d :: ds=>by
  show (li kp.tail ds).length+1=ds.length+1
  rw [iV]
theorem ArgR.len {Y:Wd} {g:Gh}:∀ {kp:List Bool} {ds:List D} {vs:List V},ArgR Y g kp ds vs→ds.length=vs.length
 | _,[],[],_=>rfl
 | _,d :: ds,v :: vs,h=>by rw [aw,aw,ArgR.len h.2]
 | _,[],_ :: _,h=>h.elim
 | _,_ :: _,[],h=>h.elim
theorem ou {Y:Wd} {g:Gh} {H:Hp}:∀ {kp:List Bool} {ds:List D} {vs:List V} {i:Nat} {z:Sl},ArgR Y g kp ds vs→(li kp ds)[i]?=some (some z)→∃ v,(vs.map some)[i]?=some (some v)∧SlR Y g H z v∧z.k≠.ow
 | _,[],[],i,z,_,h=>by simp [li] at h
 | kp,d :: ds,v :: vs,0,z,h,e=>by
  obtain rfl:(⟨if kp.headD false=true then .fr else .bo,d⟩:Sl)=z:=ad (ad e)
  refine ⟨v,rfl,?_⟩
  by_cases hk:kp.headD false=true
  ·have h1:=h.1
   rw [aj hk] at h1
   rw [aj hk]
   exact ⟨h1,by simp⟩
  ·have h1:=h.1
   rw [aq hk] at h1
   rw [aq hk]
   exact ⟨h1,by simp⟩
 | kp,d :: ds,v :: vs,i+1,z,h,e=>ou h.2 (i:=i) e
 | _,[],_ :: _,_,_,h,_=>h.elim
 | _,_ :: _,[],_,_,h,_=>h.elim
theorem SR.init {Y:Wd} {F:Fr} {B H:Hp} {kp:List Bool} {ds:List D} {vs:List V} {N:List Str} {s:cj} (sB:Same B H) (sF:Same F.h H) (st:StR Y ⟨F,B,F.m⟩ H s) (h:ArgR Y ⟨F,B,F.m⟩ kp ds vs):SR Y ⟨F,B,F.m⟩ (start N vs) H (fF kp N.length ds) s:=by
 have hl:=h.len
 have key:∀ {i:Nat} {z:Sl},(fF kp N.length ds)[i]?=some (some z)→∃ v,(start N vs)[i]?=some (some v)∧SlR Y ⟨F,B,F.m⟩ H z v∧z.k≠.ow:=fun {i z} e=>by
  unfold fF at e
  by_cases hi:i < ds.length
  ·rw [br (by rw [iV]; exact hi)] at e
   obtain ⟨v,h1,h2⟩:=ou (H:=H) h e
   refine ⟨v,?_,h2⟩
   unfold L2.start
   rw [br (by rw [ac,← hl]; exact hi)]
   exact h1
  ·rw [aV (by rw [iV]; omega)] at e
   have:=bE e
   rw [List.mem_replicate] at this
   cases this.2
 refine ⟨sB,sF,?_,fun i z e=>?_,fun i j z y a h1 _ k1=>?_,st⟩
 ·unfold L2.start fF
  rw [ae,ae,ac,iV,List.length_replicate,List.length_replicate,hl]
 ·obtain ⟨v,h1,h2,_⟩:=key e
  exact ⟨v,h1,h2⟩
 ·obtain ⟨v,_,_,h3⟩:=key h1
  exact absurd k1 h3

structure Fx (P:Program) (w:World) (K:PySem.W.Frag) (mg:Str→Option Value) (base:Heap) (S:Sc) (G:Gn):Prop where
 eY:G.Y=⟨P,w,K,jR⟩
 emg:G.mg=mg
 fns:∀ (j:Nat) (f:Str) (F:Fn),S.cs[j]?=some f→G.fs[j]?=some F→∃ a fd ps,FnOk P w K mg base (L2.CX P w) G.lv a fd ps (gC G.Y G.mg F)∧mg f=some (.ref a)∧PySem.W.keepIn K (.ref a)=true∧Binds K fd ps []
 blt:∀ n∈blts,mg n=none
 gns:∀ (j:Nat) (x:Str) (d:D),S.gn[j]?=some x→G.gs[j]?=some d→∃ v u,mg x=some u∧RelV v u∧∀ pn F,Rp ⟨P,w,K,pn⟩ F d v
 exs:∀ x∈S.en,ym K mg x
 hns:∀ x∈S.hn,∃ c,mg x=some c
 ms:∀ (x y:Str) (b:Bool) (c d:Value),G.ms x y=some b→mg x=some c→mg y=some d→PySem.W.exmOne K c d=some b
 fl:∀ c f,(c,f)∈S.fl→L2.Cls K (He.ga K c)∧L2.NoAttr K (He.ga K c) f
 mt:∀ j c m F,(j,c,m)∈S.mt→G.fs[j]?=some F→∃ a fd ps,FnOk P w K mg base (L2.CX P w) G.lv a fd ps (gC G.Y G.mg F)∧L2.Cls K (He.ga K c)∧L2.Meth K (He.ga K c) m a∧Binds K fd ps []
 mks:∀ j c F,(j,c)∈S.mks→G.fs[j]?=some F→∃ k a fd ps,k+1≤G.lv∧FnOk P w K mg base (L2.CX P w) k a fd ps (gC G.Y G.mg F)∧L2.Mk K (He.ga K c) a∧mg c=some (.ref (He.ga K c))∧Binds K fd ps []
 xs:∀ j c F,(j,c)∈S.xs→G.fs[j]?=some F→F=vB G.ms c
 hx:∀ j f F,j∈S.hx→S.cs[j]?=some f→G.fs[j]?=some F→∃ a fd ps,FnX P w K mg base G.lv a fd ps F∧mg f=some (.ref a)∧PySem.W.keepIn K (.ref a)=true∧Binds K fd ps []
 xi:S.xs≠[]→Ej K mg G.ms
 isc:∀ c,c∈S.ic→C8.InsC K (He.ga K c)∧mg c=some (.ref (He.ga K c))

def Df (G:Gn) (body:S) (np n:Nat) (fn:Fn):Prop:=(∀ ds,fn.run ds=.no∨(ds.length=np∧iB G.fs G.gs G.ms body fn.kp n ds=fn.run ds))∧∀ ds s,fn.runS ds s=.no∨(ds.length=np∧s≠[]∧callT G.fs G.gs G.ms body fn.kp n ds s=fn.runS ds s)
theorem Dg {P:Program} {w:World} {K:PySem.W.Frag} {mg:Str→Option Value} {base:Heap} {S:Sc} {G:Gn} (X:Fx P w K mg base S G) {x qual:Str} {params:Arguments} {stmts:List Stmt} {scope:Scope} {dvs:List V} {kws:List (Str × V)} {f:Addr} {fd:FuncData} {ps:List Str}
  (F:FunD K x qual params stmts scope dvs kws f fd) (SC:FnScope S.N ps scope) (hsc:scope=S.sc) (ht:S.top=true) (hh:S.hot=false) {body:GM.S} (ck:cU S body stmts=true) {fn:Fn} (hk:Df G body ps.length S.N.length fn) :
  FnOk P w K mg base (L2.CX P w) (G.lv+1) f fd ps (gC G.Y G.mg fn):=by
 refine F.ok SC (fun vs H Q E h=>?_) (fun cdv A outer s H vs Q E hr h=>?_)
 ·rcases h with ⟨F',ds,_,_,h1,h2⟩ | ⟨F',B',ds,s0,_,_,_,_,h1,h2⟩
  ·rcases hk.1 ds with e | ⟨e,_⟩
   ·rw [e] at h2; exact h2.elim
   ·rw [← h1.len,e]
  ·rcases hk.2 ds s0 with e | ⟨e,_⟩
   ·rw [e] at h2; exact h2.elim
   ·rw [← h1.len,e]
 have hK:Gd (cxOf (L2.CX P w) P w K mg base S.N qual scope f cdv A outer s H E) S G (fun cls d _ H=>E cls d H) :=
  ⟨rfl,SC.nd,hsc,fun _=>⟨rfl,hr⟩,(by have:=hr.un; show (A.deeper _).units+200 < _; omega),fun _=>⟨fun _=>rfl,rfl,rfl⟩,takes_of rfl rfl rfl rfl,(by rw [X.eY]; rfl),X.emg,(fun _=>X.fns),X.blt,X.gns,X.exs,X.hns,X.ms,X.fl,(fun _=>X.mt),(fun _=>X.mks),(fun a nm h=>by rw [X.eY] at h; cases h),(fun _=>by rw [X.eY]),L2H.roomH_of hr,X.xs,X.hx,X.xi,X.isc⟩
 rcases h with ⟨F',ds,sF,lv,ar,h2⟩ | ⟨F',B',ds,s0,hs0,sB0,sF,st0,ar,h2⟩
 ·rcases hk.1 ds with e | ⟨e1,e2⟩
  ·rw [e] at h2; exact h2.elim
  refine ⟨rS G (fun cls d _ H=>E cls d H) body,(ue body).L hK ⟨fun _=>PassesOwn.leaving,rfl,rfl⟩ stmts ck,⟨F',H,F'.m⟩,_,[],SR.init (Same.refl _) sF ⟨(fun n c q=>by cases n <;> cases q),lv,fun h=>absurd rfl h,fun _=>rfl,fun _ _ q=>q⟩ ar,?_⟩
  show ValS G.gm _ ⟨F',H,F'.m⟩ (cF G.fs G.gs G.ms body (fF fn.kp S.N.length ds) []) _
  unfold iB at e2
  cases er:cF G.fs G.gs G.ms body (fF fn.kp S.N.length ds) [] with
  | ok o =>
   rw [er] at e2
   cases o with
   | rt d t s1 =>
    cases s1 with
    | cons c s1 =>
     have e2:R.no=fn.run ds:=e2
     rw [← e2] at h2
     exact h2.elim
    | nil =>
    have e2:R.ok (d,t)=fn.run ds:=e2
    rw [← e2] at h2
    intro g' e v H' sB' sF' st' rv
    have hB:g'.B=H:=e.b
    have em:g'.F.m=F'.m:=(st'.no rfl).trans e.m
    refine h2 g'.F H' v (by rw [← hB]; exact sB') sF' em ⟨rfl,e.f,fun a o q n=>e.new a o q n,rfl⟩ ?_
    cases t with
    | fr=>exact rv
    | nw =>
     obtain ⟨p,q1,q2,q3,q4⟩:=rv
     exact ⟨p,q1,q2.1,by rw [← hB]; exact q3,q4⟩
    | bo=>exact rv
    | ow=>exact rv
   | nx l1 s1 =>
    cases s1 with
    | cons c s1 =>
     have e2:R.no=fn.run ds:=e2
     rw [← e2] at h2
     exact h2.elim
    | nil =>
    have e2:R.ok (D.non,Tag.fr)=fn.run ds:=e2
    rw [← e2] at h2
    intro g' e σ' H' S'
    have hB:g'.B=H:=e.b
    have em:g'.F.m=F'.m:=(S'.st.no rfl).trans e.m
    exact h2 g'.F H' .non (by rw [← hB]; exact S'.sB) S'.sF em ⟨rfl,e.f,fun a o q n=>e.new a o q n,rfl⟩ .non
   | bk l1 s1 =>
    have e2:R.no=fn.run ds:=e2
    rw [← e2] at h2
    exact h2.elim
   | ct l1 s1 =>
    have e2:R.no=fn.run ds:=e2
    rw [← e2] at h2
    exact h2.elim
  | er ex s1 l1 =>
   rw [er] at e2
   have e2:R.er ex [] []=fn.run ds:=e2
   rw [← e2] at h2
   intro g' σ' H' c dd e S' xr
   have hB:g'.B=H:=e.b
   exact h2 H' c dd (by rw [← hB]; exact S'.sB) xr
  | no =>
   rw [er] at e2
   have e2:R.no=fn.run ds:=e2
   rw [← e2] at h2
   exact h2.elim
 ·rcases hk.2 ds s0 with e | ⟨e1,_,e2⟩
  ·rw [e] at h2; exact h2.elim
  refine ⟨rS G (fun cls d _ H=>E cls d H) body,(ue body).L hK ⟨fun _=>PassesOwn.leaving,rfl,rfl⟩ stmts ck,⟨F',B',F'.m⟩,_,s0,SR.init sB0 sF st0 ar,?_⟩
  show ValS G.gm _ ⟨F',B',F'.m⟩ (cF G.fs G.gs G.ms body (fF fn.kp S.N.length ds) s0) _
  unfold callT at e2
  cases er:cF G.fs G.gs G.ms body (fF fn.kp S.N.length ds) s0 with
  | ok o =>
   rw [er] at e2
   cases o with
   | rt d t s1 =>
    cases s1 with
    | nil =>
     have e2:R.no=fn.runS ds s0:=e2
     rw [← e2] at h2
     exact h2.elim
    | cons c s1 =>
    have e2:R.ok (d,t,c :: s1)=fn.runS ds s0:=e2
    rw [← e2] at h2
    intro g' e v H' sB' sF' st' rv
    have hB:g'.B=B':=e.b
    refine h2.2 g'.F H' v (by rw [← hB]; exact sB') sF' ⟨rfl,e.f,fun a o q n=>e.new a o q n,rfl⟩ (st'.bnd rfl e.m.symm fun a n _ q=>by rw [← hB]; exact q) ?_
    cases t with
    | fr=>exact rv
    | nw =>
     obtain ⟨p,q1,q2,q3,q4⟩:=rv
     exact ⟨p,q1,q2,by rw [← hB]; exact q3,q4⟩
    | bo=>exact rv
    | ow=>exact rv
   | nx l1 s1 =>
    cases s1 with
    | nil =>
     have e2:R.no=fn.runS ds s0:=e2
     rw [← e2] at h2
     exact h2.elim
    | cons c s1 =>
    have e2:R.ok (D.non,Tag.fr,c :: s1)=fn.runS ds s0:=e2
    rw [← e2] at h2
    intro g' e σ' H' S'
    have hB:g'.B=B':=e.b
    exact h2.2 g'.F H' .non (by rw [← hB]; exact S'.sB) S'.sF ⟨rfl,e.f,fun a o q n=>e.new a o q n,rfl⟩ (S'.st.bnd rfl e.m.symm fun a n _ q=>by rw [← hB]; exact q) .non
   | bk l1 s1 =>
    have e2:R.no=fn.runS ds s0:=e2
    rw [← e2] at h2
    exact h2.elim
   | ct l1 s1 =>
    have e2:R.no=fn.runS ds s0:=e2
    rw [← e2] at h2
    exact h2.elim
  | er ex s1 l1 =>
   rw [er] at e2
   cases s1 with
   | nil =>
    have e2:R.no=fn.runS ds s0:=e2
    rw [← e2] at h2
    exact h2.elim
   | cons c s1 =>
   have e2:R.er ex (c :: s1) []=fn.runS ds s0:=e2
   rw [← e2] at h2
   intro g' σ' H' c2 dd e S' xr
   have hB:g'.B=B':=e.b
   exact h2.2 g'.F H' c2 dd (by rw [← hB]; exact S'.sB) S'.sF ⟨rfl,e.f,fun a o q n=>e.new a o q n,rfl⟩ (S'.st.bnd rfl e.m.symm fun a n _ q=>by rw [← hB]; exact q) xr
  | no =>
   rw [er] at e2
   have e2:R.no=fn.runS ds s0:=e2
   rw [← e2] at h2
   exact h2.elim


structure En (α:Type) where
 e:α→D
 inj:∀ a b,e a=e b→a=b
def eI:En Int:=⟨D.int,fun a b h=>D.int.inj h⟩
def eB:En Bool:=⟨D.bl,fun a b h=>D.bl.inj h⟩
def eS:En Str:=⟨D.str,fun a b h=>D.str.inj h⟩

def eD:En D:=⟨id,fun _ _ h=>h⟩
theorem kL {α:Type} (x:En α):∀ {xs ys:List α},xs.map x.e=ys.map x.e→xs=ys
 | [],[],_=>rfl
 | a :: as,b :: bs,h=>by
  rw [aI,aI] at h
  obtain ⟨h1,h2⟩:=bG h
  rw [x.inj a b h1,kL x h2]
 | [],_ :: _,h=>by cases h
 | _ :: _,[],h=>by cases h
def eT {α:Type} (x:En α):En (List α):=⟨fun xs=>.tup (xs.map x.e),fun a b h=>kL x (D.tup.inj h)⟩
def eL {α:Type} (x:En α):En (List α):=⟨fun xs=>.lst (xs.map x.e),fun a b h=>kL x (D.lst.inj h)⟩
def eA {α:Type} (x:En α):En (List α):=⟨fun xs=>.arr (xs.map x.e),fun a b h=>kL x (D.arr.inj h)⟩
def eP {α β:Type} (x:En α) (y:En β):En (α × β):=⟨fun p=>.tup [x.e p.1,y.e p.2],fun a b h=>by
 have:=D.tup.inj h
 obtain ⟨h1,h2⟩:=bG this
 obtain ⟨h2,_⟩:=bG h2
 exact Prod.ext (x.inj _ _ h1) (y.inj _ _ h2)⟩

def a1 {α:Type} (x:En α):α→List D:=fun a=>[x.e a]
def a2 {α β:Type} (x:En α) (y:En β):α × β→List D:=fun p=>[x.e p.1,y.e p.2]
def a3 {α β γ:Type} (x:En α) (y:En β) (z:En γ):α × β × γ→List D:=fun p=>[x.e p.1,y.e p.2.1,z.e p.2.2]
def a4 {α β γ δ:Type} (x:En α) (y:En β) (z:En γ) (w:En δ):α × β × γ × δ→List D:=fun p=>[x.e p.1,y.e p.2.1,z.e p.2.2.1,w.e p.2.2.2]
open Classical in

noncomputable def Fn.of {α:Type} (kp:List Bool) (enc:α→List D) (f:α→R (D × Tag)):Fn:={ kp:=kp,run:=fun ds=>if h:∃ a,enc a=ds then f h.choose else .no }

def j4 (fs:List Fn) (gs:List D) (ms:Str→Str→Option Bool) (body:S) (np n:Nat) (fn:Fn):Prop:=(∀ ds,fn.run ds=.no∨(ds.length=np∧iB fs gs ms body fn.kp n ds=fn.run ds))∧∀ ds s,fn.runS ds s=.no∨(ds.length=np∧s≠[]∧callT fs gs ms body fn.kp n ds s=fn.runS ds s)


theorem gW {α τ:Type} {body:D→Lc→cj→R Out} (e:α→D) (L:τ→Lc) (F:τ→α→τ):∀ (xs:List α) (t:τ),(∀ t x,x∈xs→body (e x) (L t) []=.ok (.nx (L (F t x)) []))→gO body (xs.map e) (L t) []=.ok (.nx (L (xs.foldl F t)) [])
 | [],t,_=>rfl
 | x :: xs,t,h=>by
  show (body (e x) (L t) []).bind (dF (gO body (xs.map e)))=_
  rw [h t x ap]
  exact gW e L F xs (F t x) fun t y hy=>h t y (av _ hy)

theorem jE {α τ:Type} {body:D→Lc→cj→R Out} (e:α→D) (L:τ→Lc) (F:τ→α→τ) (I:List α→τ→Prop) (hb:∀ x r t,I (x :: r) t→body (e x) (L t) []=.ok (.nx (L (F t x)) [])∧I r (F t x)) :
  ∀ (xs:List α) (t:τ),I xs t→gO body (xs.map e) (L t) []=.ok (.nx (L (xs.foldl F t)) [])∧I [] (xs.foldl F t)
 | [],t,hi=>⟨rfl,hi⟩
 | x :: xs,t,hi=>by
  obtain ⟨h1,h2⟩:=hb x xs t hi
  have:=jE e L F I hb xs (F t x) h2
  refine ⟨?_,this.2⟩
  show (body (e x) (L t) []).bind (dF (gO body (xs.map e)))=_
  rw [h1]
  exact this.1

theorem qP {τ:Type} {cond:Lc→cj→R (Bool × cj)} {body:Lc→cj→R Out} (L:τ→Lc) (c:τ→Bool) (F:τ→τ) (I:τ→Prop) (m:τ→Nat)
  (hc:∀ t,I t→cond (L t) []=.ok (c t,[])) (hb:∀ t,I t→c t=true→body (L t) []=.ok (.nx (L (F t)) [])∧I (F t)∧m (F t) < m t) :
  ∀ t,I t→∃ t',jy cond body (L t) []=.ok (.nx (L t') [])∧I t'∧c t'=false:=by
 intro t
 induction h:m t using Nat.strongRecOn generalizing t with
 | _ n ih =>
  intro hi
  rw [pV,hc t hi]
  cases hct:c t with
  | false=>exact ⟨t,by simp [R.bind],hi,hct⟩
  | true =>
   obtain ⟨h1,h2,h3⟩:=hb t hi hct
   obtain ⟨t',q1,q2,q3⟩:=ih (m (F t)) (by omega) (F t) rfl h2
   refine ⟨t',?_,q2,q3⟩
   show (body (L t) []).bind (dF (jy cond body))=_
   rw [h1]
   exact q1
theorem mq {α:Type} {body:D→cj→R (Option D × cj)} (e:α→D) (g:α→D):∀ (xs:List α),(∀ x∈xs,body (e x) []=.ok (some (g x),[]))→dh body (xs.map e) []=.ok (xs.map g,[])
 | [],_=>rfl
 | x :: xs,h=>by
  show (body (e x) []).bind _=_
  rw [h x ap]
  show (dh body (xs.map e) []).bind _=_
  rw [mq e g xs fun y hy=>h y (av _ hy)]
  rfl

mutual
theorem dj {a b:D} (h1:a.seq=true) (h2:b.seq=true) (h3:SeqAt.shaped a.py=true) (h4:SeqAt.shaped b.py=true):D.eqOk a b=true:=by
 unfold D.eqOk
 rw [h1,h2,h3,h4]
 rfl
end

theorem gr (a b:Int) (s:cj):COp.run .eq (.int a) (.int b) s=cr (.bl (decide (a=b))) s:=by
 have h:D.eqOk (.int a) (.int b)=true:=dj rfl rfl (by simp [D.py,SeqAt.shaped,PyData.canLay0,PyData.depth]) (by simp [D.py,SeqAt.shaped,PyData.canLay0,PyData.depth])
 show (if D.eqOk (.int a) (.int b) then cr (.bl (D.eqv (.int a) (.int b))) s else .no)=_
 rw [aj h]
 rfl
theorem p6 (a b:Int) (s:cj):COp.run .ne (.int a) (.int b) s=cr (.bl (!decide (a=b))) s:=by
 have h:D.eqOk (.int a) (.int b)=true:=dj rfl rfl (by simp [D.py,SeqAt.shaped,PyData.canLay0,PyData.depth]) (by simp [D.py,SeqAt.shaped,PyData.canLay0,PyData.depth])
 show (if D.eqOk (.int a) (.int b) then cr (.bl (!D.eqv (.int a) (.int b))) s else .no)=_
 rw [aj h]
 rfl
theorem Af (a b:Int) (s:cj):COp.run .lt (.int a) (.int b) s=cr (.bl (decide (a < b))) s:=rfl
theorem Ag (a b:Int) (s:cj):COp.run .le (.int a) (.int b) s=cr (.bl (decide (a≤b))) s:=rfl
theorem Ah (a b:Int) (s:cj):COp.run .gt (.int a) (.int b) s=cr (.bl (decide (b < a))) s:=rfl
theorem Ai (a b:Int) (s:cj):COp.run .ge (.int a) (.int b) s=cr (.bl (decide (b≤a))) s:=rfl
theorem mX (d:D) (s:cj):COp.run .isn d .non s=cr (.bl (decide (d=.non))) s:=by cases d <;> rfl
theorem lj (d:D) (s:cj):COp.run .isnn d .non s=cr (.bl (!decide (d=.non))) s:=by cases d <;> rfl
theorem uf {α β:Type} {c:Prop} [Decidable c] (a b:R α) (f:α→R β):(if c then a else b).bind f=if c then a.bind f else b.bind f:=by split <;> rfl

theorem ug (xs:List Int) (n:Nat) (h:n < xs.length) (s:cj):jQ (.arr (xs.map D.int)) (.int (n:Int)) s=cr (.int (xs.getD n 0)) s:=by
 show (match atI (xs.map D.int) (n:Int) with | some d=>cr d s | none=>.no)=_
 rw [atI_nat (j:=n) (by rw [aD,ak h]; rfl)]
 simp [List.getD,h]
theorem ix_tup (xs:List Int) (n:Nat) (h:n < xs.length) (s:cj):jQ (.tup (xs.map D.int)) (.int (n:Int)) s=cr (.int (xs.getD n 0)) s:=by
 show (match atI (xs.map D.int) (n:Int) with | some d=>cr d s | none=>.no)=_
 rw [atI_nat (j:=n) (by rw [aD,ak h]; rfl)]
 simp [List.getD,h]
theorem mY (xs:List Int) (n:Nat) (h:n < xs.length) (s:cj):jQ (.lst (xs.map D.int)) (.int (n:Int)) s=cr (.int (xs.getD n 0)) s:=by
 show (match atI (xs.map D.int) (n:Int) with | some d=>cr d s | none=>.no)=_
 rw [atI_nat (j:=n) (by rw [aD,ak h]; rfl)]
 simp [List.getD,h]

section
variable {α β:Type}
theorem cJ (a:α) (f:α→R β):(R.ok a).bind f=f a:=rfl
theorem wv (e:Ex) (s:cj) (l:Lc) (f:α→R β):(R.er e s l).bind f=.er e s l:=rfl
theorem ww (f:α→R β):(R.no:R α).bind f=.no:=rfl
theorem fq (d:D) (t:Tag) (s:cj) (f:D→cj→R α):cg (.ok (d,t,s)) f=if (t=.bo∨t=.ow)∧d.still=false then .no else f d s:=rfl
theorem wx (e:Ex) (s:cj) (l:Lc) (f:D→cj→R α):cg (.er e s l) f=.er e s l:=rfl
theorem jF (d:D) (t:Tag) (s:cj) (f:D→cj→R α):fP (.ok (d,t,s)) f=if t=.ow then .no else f d s:=rfl
theorem wy (a:α):R.noEr (.ok a)=.ok a:=rfl
end
theorem jG (a b:Int) (s:cj):BOp.run .add (.int a) (.int b) s=cr (.int (a+b)) s:=rfl
theorem kM (a b:Int) (s:cj):BOp.run .sub (.int a) (.int b) s=cr (.int (a - b)) s:=rfl
theorem mZ (a b:Int) (s:cj) (h:(-(2 ^ 64) < a∧a < 2 ^ 64)∨(-(2 ^ 64) < b∧b < 2 ^ 64)):BOp.run .mul (.int a) (.int b) s=cr (.int (a*b)) s:=aj h
theorem iC (a b:Int) (s:cj) (h:0 < b∧b < 1073741824):BOp.run .fdiv (.int a) (.int b) s=cr (.int (a / b)) s:=aj h
theorem gF (a b:Int) (s:cj) (h:0 < b):BOp.run .mod (.int a) (.int b) s=cr (.int (a % b)) s:=aj h
theorem kN (a b:Int) (s:cj) (h:0≤b∧b≤1000000∧a.natAbs < 2 ^ 64):BOp.run .pow (.int a) (.int b) s=cr (.int (a ^ b.toNat)) s:=aj h
theorem wz (xs ys:List D) (s:cj) (h:xs.length+ys.length≤sizeLine):BOp.run .add (.tup xs) (.tup ys) s=cr (.tup (xs++ys)) s:=aj h
theorem wA (xs ys:List D) (s:cj) (h:xs.length+ys.length≤sizeLine):BOp.run .add (.lst xs) (.lst ys) s=dW (.lst (xs++ys)) s:=aj h
theorem wB (xs:List D) (k:Int) (s:cj) (h:-(2 ^ 63)≤k∧k < 2 ^ 63∧xs.length*k.toNat≤sizeLine):BOp.run .mul (.lst xs) (.int k) s=dW (.lst (List.replicate k.toNat xs).flatten) s:=aj h
theorem wC (xs:List D) (s:cj):BI.run .len [.tup xs] s=cr (.int xs.length) s:=rfl
theorem wD (xs:List D) (s:cj):BI.run .len [.lst xs] s=cr (.int xs.length) s:=rfl
theorem wE (xs:List D) (s:cj):BI.run .len [.arr xs] s=cr (.int xs.length) s:=rfl
theorem wF (k:Bool) (xs:List (D × D)) (s:cj):BI.run .len [.dic k xs] s=cr (.int xs.length) s:=rfl
theorem sk (xs:List D) (s:cj):BI.run .tuple [.lst xs] s=cr (.tup xs) s:=rfl
theorem sn (xs:List D) (s:cj):BI.run .tuple [.tup xs] s=cr (.tup xs) s:=rfl
theorem uh (xs:List D) (s:cj):BI.run .list [.lst xs] s=dW (.lst xs) s:=rfl
theorem ui (xs:List D) (s:cj):BI.run .list [.tup xs] s=dW (.lst xs) s:=rfl
theorem wG (a:Int) (s:cj):BI.run .abs [.int a] s=cr (.int (if a < 0 then -a else a)) s:=rfl
theorem wH (a b:Int) (s:cj):BI.run .max2 [.int a,.int b] s=cr (.int (if b > a then b else a)) s:=rfl
theorem wI (a b:Int) (s:cj):BI.run .min2 [.int a,.int b] s=cr (.int (if b < a then b else a)) s:=rfl
theorem qQ:∀ bs:List Bool,iu (bs.map D.bl)=some bs
 | []=>rfl
 | b :: bs=>by
  show (iu (bs.map D.bl)).map (b :: ·)=_
  rw [qQ bs]
  rfl
theorem wJ (bs:List Bool) (s:cj):BI.run .all [.lst (bs.map D.bl)] s=cr (.bl (bs.all id)) s:=by
 show (match iu (bs.map D.bl) with | some bs=>cr (.bl (bs.all id)) s | none=>.no)=_
 rw [qQ]
theorem Aj (xs:List D) (lo hi:Option Int) (s:cj):sY (.tup xs) lo hi s=cr (.tup (gK xs lo hi)) s:=rfl
theorem Ak (xs:List D) (lo hi:Option Int) (s:cj):sY (.lst xs) lo hi s=dW (.lst (gK xs lo hi)) s:=rfl
theorem wK (xs:List D) (i:D) (s:cj):mH (.tup xs) i s=jQ (.tup xs) i s:=rfl
theorem wL (xs:List D) (i:D) (s:cj):mH (.lst xs) i s=jQ (.lst xs) i s:=rfl
theorem wM (xs:List D) (i:D) (s:cj):mH (.arr xs) i s=jQ (.arr xs) i s:=rfl

section
variable {fs:List Fn} {gs:List D} {ms:Str→Str→Option Bool} {a b:S} {c:X} {l l1:Lc} {s s1:cj} {r:R Out} {d:D} {t:Tag} {e:Ex}
theorem b7 (h:cF fs gs ms a l s=.ok (.nx l1 s1)):cF fs gs ms (.cons a b) l s=cF fs gs ms b l1 s1:=by
 show (cF fs gs ms a l s).bind _=_
 rw [h]
 rfl
theorem cI (h:cF fs gs ms a l s=.ok (.rt d t s1)):cF fs gs ms (.cons a b) l s=.ok (.rt d t s1):=by
 show (cF fs gs ms a l s).bind _=_
 rw [h]
 rfl
theorem j5 (h:cF fs gs ms a l s=.er e s1 l1):cF fs gs ms (.cons a b) l s=.er e s1 l1:=by
 show (cF fs gs ms a l s).bind _=_
 rw [h]
 rfl
theorem gX (h:dM fs gs c l s=.ok (true,s1)):cF fs gs ms (.ife c a b) l s=cF fs gs ms a l s1:=by
 show (dM fs gs c l s).bind _=_
 rw [h]
 rfl
theorem dG (h:dM fs gs c l s=.ok (false,s1)):cF fs gs ms (.ife c a b) l s=cF fs gs ms b l s1:=by
 show (dM fs gs c l s).bind _=_
 rw [h]
 rfl
theorem cp:cF fs gs ms .nil l s=.ok (.nx l s):=rfl
theorem wN {kp:List Bool} {n:Nat} {ds:List D} (h:cF fs gs ms a (fF kp n ds) []=.ok (.rt d t s)) (hs:s=[]):iB fs gs ms a kp n ds=.ok (d,t):=by
 unfold iB
 rw [h,hs]
theorem wO {kp:List Bool} {n:Nat} {ds:List D} (h:cF fs gs ms a (fF kp n ds) []=.er e s l):iB fs gs ms a kp n ds=.er e [] []:=by
 unfold iB
 rw [h]
end

noncomputable def Fn.self (fs:List Fn) (gs:List D) (ms:Str→Str→Option Bool) (body:S) (kp:List Bool) (np n:Nat):Fn:={ kp:=kp,run:=fun ds=>if ds.length=np then iB fs gs ms body kp n ds else .no }
theorem cz {fs:List Fn} {gs:List D} {ms:Str→Str→Option Bool} {body:S} {kp:List Bool} {np n:Nat}:j4 fs gs ms body np n (Fn.self fs gs ms body kp np n):=by
 refine ⟨fun ds=>?_,fun _ _=>.inl rfl⟩
 by_cases h:ds.length=np
 ·exact .inr ⟨h,(aj h).symm⟩
 ·exact .inl (aq h)
def Fn.none (kp:List Bool):Fn:={ kp:=kp,run:=fun _=>.no }
section
variable {fs:List Fn} {gs:List D} {ms:Str→Str→Option Bool} {body:S} {kp:List Bool} {np n:Nat} {ds:List D} {d:D} {t:Tag} {s:cj} {e:Ex} {l:Lc}
theorem cH (hl:ds.length=np) (h:cF fs gs ms body (fF kp n ds) []=.ok (.rt d t s)) (hs:s=[]:=by rfl):(Fn.self fs gs ms body kp np n).run ds=.ok (d,t):=(aj hl).trans (wN h hs)
theorem qR (hl:ds.length=np) (h:cF fs gs ms body (fF kp n ds) []=.er e s l):(Fn.self fs gs ms body kp np n).run ds=.er e [] []:=(aj hl).trans (wO h)
theorem wP (hl:ds.length=np) (h:cF fs gs ms body (fF kp n ds) []=.ok (.nx l s)) (hs:s=[]:=by rfl):(Fn.self fs gs ms body kp np n).run ds=.ok (.non,.fr):=(aj hl).trans (by unfold iB; rw [h,hs])
end

noncomputable def Fn.both (fs:List Fn) (gs:List D) (ms:Str→Str→Option Bool) (body:S) (kp:List Bool) (np n:Nat):Fn :=
 { kp:=kp,run:=fun ds=>if ds.length=np then iB fs gs ms body kp n ds else .no,runS:=fun ds s=>if ds.length=np∧s≠[] then callT fs gs ms body kp n ds s else .no }
theorem jk {fs:List Fn} {gs:List D} {ms:Str→Str→Option Bool} {body:S} {kp:List Bool} {np n:Nat}:j4 fs gs ms body np n (Fn.both fs gs ms body kp np n):=by
 refine ⟨fun ds=>?_,fun ds s=>?_⟩
 ·by_cases h:ds.length=np
  ·exact .inr ⟨h,(aj h).symm⟩
  ·exact .inl (aq h)
 ·by_cases h:ds.length=np∧s≠[]
  ·exact .inr ⟨h.1,h.2,(aj h).symm⟩
  ·exact .inl (aq h)
section
variable {fs:List Fn} {gs:List D} {ms:Str→Str→Option Bool} {body:S} {kp:List Bool} {np n:Nat} {ds:List D} {d:D} {t:Tag} {s s1:cj} {e:Ex} {l:Lc} {c:Cell}
theorem kO (hl:ds.length=np) (hs:s≠[]) (h:cF fs gs ms body (fF kp n ds) s=.ok (.rt d t (c :: s1))):(Fn.both fs gs ms body kp np n).runS ds s=.ok (d,t,c :: s1):=(aj ⟨hl,hs⟩).trans (by unfold callT; rw [h])
theorem wQ (hl:ds.length=np) (hs:s≠[]) (h:cF fs gs ms body (fF kp n ds) s=.er e (c :: s1) l):(Fn.both fs gs ms body kp np n).runS ds s=.er e (c :: s1) []:=(aj ⟨hl,hs⟩).trans (by unfold callT; rw [h])
end
theorem p7 {ds:List D} {n:Nat} {d:D} (h:ds[n]?=some d) (s:cj):jQ (.tup ds) (.int (n:Int)) s=cr d s:=by
 show (match atI ds (n:Int) with | some d=>cr d s | none=>.no)=_
 rw [atI_nat (j:=n) h]
theorem jH {ds:List D} {n:Nat} {d:D} (h:ds[n]?=some d) (s:cj):jQ (.lst ds) (.int (n:Int)) s=cr d s:=by
 show (match atI ds (n:Int) with | some d=>cr d s | none=>.no)=_
 rw [atI_nat (j:=n) h]
section
variable {fs:List Fn} {gs:List D} {ms:Str→Str→Option Bool} {a hs:S} {l l1:Lc} {s s1:cj} {o:Out} {e:Ex} {c:Str} {r:S}
theorem Dh (h:cF fs gs ms a l s=.ok o):cF fs gs ms (.tr a hs) l s=.ok o:=by
 show (match cF fs gs ms a l s with
  | .er e s1 l1=>nK fs gs ms e hs l1 s1
  | r=>r)=_
 rw [h]
theorem Di (h:cF fs gs ms a l s=.er e s1 l1):cF fs gs ms (.tr a hs) l s=nK fs gs ms e hs l1 s1:=by
 show (match cF fs gs ms a l s with
  | .er e s1 l1=>nK fs gs ms e hs l1 s1
  | r=>r)=_
 rw [h]
theorem Ff (h:ms e.cls c=some true) (h2:cF fs gs ms a l s=.ok o):nK fs gs ms e (.hd c a r) l s=.ok o:=by
 show (match ms e.cls c with
  | some true=>R.noEr (cF fs gs ms a l s)
  | some false=>nK fs gs ms e r l s
  | none=>.no)=_
 rw [h,h2]
 rfl
theorem Fg (h:ms e.cls c=some false):nK fs gs ms e (.hd c a r) l s=nK fs gs ms e r l s:=by
 show (match ms e.cls c with
  | some true=>R.noEr (cF fs gs ms a l s)
  | some false=>nK fs gs ms e r l s
  | none=>.no)=_
 rw [h]
end

theorem ox {α:Type} (xs:List α) (a b:Nat):gK xs (some (a:Int)) (some (b:Int))=(xs.take b).drop a:=by
 unfold gK
 rw [HT.sIx_nat,HT.sIx_nat]
 apply List.ext_getElem?
 intro i
 simp only [List.getElem?_take,List.getElem?_drop]
 by_cases h:i < min b xs.length - min a xs.length
 ·rw [aj h,aj (by omega)]
  congr 1
  omega
 ·rw [aq h]
  by_cases h2:a+i < b
  ·rw [aj h2,aS (by omega)]
  ·rw [aq h2]
section
variable {fs:List Fn} {gs:List D} {ms:Str→Str→Option Bool} {b:S} {c x:X} {tg:T} {l l1:Lc} {s s1:cj} {ds:List D}
theorem whl_eq:cF fs gs ms (.whl c b) l s=jy (dM fs gs c) (cF fs gs ms b) l s:=rfl
theorem dA (h:gM fs gs x l s=.ok (ds,s1)):cF fs gs ms (.loop tg x b) l s=gO (fun d l s=>match T.put tg d l with | some l1=>cF fs gs ms b l1 s | none=>.no) ds l s1:=by
 show (gM fs gs x l s).bind _=_
 rw [h]
 rfl
end
theorem oy (s:cj):BOp.run .pow (.int 10) (.int 18) s=cr (.int 1000000000000000000) s:=(kN 10 18 s ⟨by decide,by decide,by decide⟩).trans (by simp)
theorem oz (s:cj):BOp.run .pow (.int 10) (.int 20) s=cr (.int 100000000000000000000) s:=(kN 10 20 s ⟨by decide,by decide,by decide⟩).trans (by simp)
theorem oA (s:cj):BOp.run .pow (.int 10) (.int 30) s=cr (.int 1000000000000000000000000000000) s:=(kN 10 30 s ⟨by decide,by decide,by decide⟩).trans (by simp)
theorem oB (s:cj):BOp.run .pow (.int 10) (.int 40) s=cr (.int 10000000000000000000000000000000000000000) s:=(kN 10 40 s ⟨by decide,by decide,by decide⟩).trans (by simp)

def oC (l:Lc) (own:List Nat):Bool:=own.all fun i=>match l[i]? with | some (some ⟨.ow,_⟩)=>false | _=>true
theorem iD {α:Type} {fs:List Fn} {gs:List D} {own:List Nat} {t:T} {it e:X} {l:Lc} {ds:List α} {en g:α→D} (ho:oC l own=true) (hi:gM fs gs it l []=.ok (ds.map en,[]))
  (hb:∀ x∈ds,∃ l1 tg,T.put t (en x) (dE l own)=some l1∧b9 fs gs e l1 []=.ok (g x,tg,[])∧(tg=.fr∨tg=.nw∨(g x).still=true)) (hz:ds.length≤sizeLine):b9 fs gs (.comp own t it .nil e) l []=.ok (.lst (ds.map g),.nw,[]):=by
 show (if oC l own=false then R.no else (gM fs gs it l []).bind fun (xs,s1) =>
   (R.noEr (dh (fun x s=>match T.put t x (dE l own) with
    | none=>R.no
    | some l1=>(if X.isNil .nil=true then R.ok (true,s) else (b9 fs gs .nil l1 s).bind fun (b,_,s2)=>match b with | .bl b=>.ok (b,s2) | _=>.no).bind fun (b,s2) =>
      if b=true then cg (b9 fs gs e l1 s2) (fun d s3=>R.ok (some d,s3)) else R.ok ((none:Option D),s2)) xs s1)).bind fun (ds,s2)=>if ds.length≤sizeLine then dW (.lst ds) s2 else .no)=_
 rw [ho,hi]
 show (R.noEr (dh _ (ds.map en) [])).bind _=_
 rw [mq en g ds fun x hx=>?_]
 ·show (if (ds.map g).length≤sizeLine then dW (.lst (ds.map g)) [] else R.no)=_
  rw [ac,aj hz]
  rfl
 ·obtain ⟨l1,tg,h1,h2,h3⟩:=hb x hx
  simp only [h1]
  show cg (b9 fs gs e l1 []) (fun d s3=>R.ok (some d,s3))=_
  rw [h2]
  show (if (tg=.bo∨tg=.ow)∧(g x).still=false then R.no else R.ok (some (g x),[]))=_
  rw [aq]
  rintro ⟨h4,h5⟩
  rcases h3 with rfl | rfl | h3
  ·rcases h4 with h4 | h4 <;> cases h4
  ·rcases h4 with h4 | h4 <;> cases h4
  ·rw [h3] at h5
   cases h5
theorem h9 {fs:List Fn} {gs:List D} {a:X} {l:Lc} {t:Tag} {j:Int} (h:b9 fs gs a l []=.ok (.int j,t,[])) (hj:-(2 ^ 62)≤j∧j < 2 ^ 62):gM fs gs (.rng1 a) l []=.ok ((List.range j.toNat).map fun i=>D.int (i:Nat),[]):=by
 show (b9 fs gs a l []).bind _=_
 rw [h]
 show (if -(2 ^ 62)≤j∧j < 2 ^ 62 then R.ok (gL 0 j.toNat,[]) else R.no)=_
 rw [aj hj]
 unfold gL
 simp only [Int.zero_add]
theorem m4 {fs:List Fn} {gs:List D} {a:X} {l:Lc} {t:Tag} {ds:List D} (h:b9 fs gs a l []=.ok (.lst ds,t,[])) (ht:t≠.ow):gM fs gs (.it a) l []=.ok (ds,[]):=by
 show fP (b9 fs gs a l []) (fun x s1=>match x.items with | some xs=>R.ok (xs,s1) | none=>.no)=R.ok (ds,[])
 rw [h,jF,aq ht]
 rfl
theorem iE {fs:List Fn} {gs:List D} {a:X} {l:Lc} {t:Tag} {ds:List D} (h:b9 fs gs a l []=.ok (.tup ds,t,[])) (ht:t≠.ow):gM fs gs (.it a) l []=.ok (ds,[]):=by
 show fP (b9 fs gs a l []) (fun x s1=>match x.items with | some xs=>R.ok (xs,s1) | none=>.no)=R.ok (ds,[])
 rw [h,jF,aq ht]
 rfl


theorem uj (t:Ty):Ty.run t .non=some false:=by cases t <;> rfl
theorem xU (t:Ty) (b:Bool):Ty.run t (.bl b)=some (match t with | .bool=>true | .int=>true | _=>false):=by cases t <;> rfl
theorem uk (t:Ty) (b:Int):Ty.run t (.int b)=some (match t with | .int=>true | _=>false):=by cases t <;> rfl
theorem ul (t:Ty) (b:Str):Ty.run t (.str b)=some (match t with | .str=>true | _=>false):=by cases t <;> rfl
theorem um (t:Ty) (b:List D):Ty.run t (.tup b)=some (match t with | .tuple=>true | _=>false):=by cases t <;> rfl
theorem uo (t:Ty) (b:List D):Ty.run t (.lst b)=some (match t with | .list=>true | _=>false):=by cases t <;> rfl
theorem qS (a:Bool):SeqAt.shaped (D.bl a).py=true:=by simp [D.py,SeqAt.shaped,PyData.canLay0,PyData.depth]
theorem m5 (a:Str) (h:PyData.strOk a=true):SeqAt.shaped (D.str a).py=true:=by simp [D.py,SeqAt.shaped,PyData.canLay0,PyData.depth,h]
theorem xV {a b:D} (h:D.eqOk a b=true) (s:cj):COp.run .eq a b s=cr (.bl (D.eqv a b)) s:=by
 have e:COp.run .eq a b s=if D.eqOk a b then cr (.bl (D.eqv a b)) s else .no:=by cases a <;> cases b <;> rfl
 rw [e,aj h]
theorem uq {a b:D} (h:D.eqOk a b=true) (s:cj):COp.run .ne a b s=cr (.bl (!D.eqv a b)) s:=by
 have e:COp.run .ne a b s=if D.eqOk a b then cr (.bl (!D.eqv a b)) s else .no:=by cases a <;> cases b <;> rfl
 rw [e,aj h]
theorem Dj (a b:Bool) (s:cj):COp.run .eq (.bl a) (.bl b) s=cr (.bl (a == b)) s:=xV (dj rfl rfl (qS a) (qS b)) s
theorem Dk (a b:Bool) (s:cj):COp.run .ne (.bl a) (.bl b) s=cr (.bl (!(a == b))) s:=uq (dj rfl rfl (qS a) (qS b)) s
theorem ur (a b:Str) (ha:PyData.strOk a=true) (hb:PyData.strOk b=true) (s:cj):COp.run .eq (.str a) (.str b) s=cr (.bl (a == b)) s:=xV (dj rfl rfl (m5 a ha) (m5 b hb)) s

def D.pl:Nat→D→Prop
 | 0,_=>False
 | _+1,.non=>True
 | _+1,.bl _=>True
 | _+1,.int _=>True
 | _+1,.str x=>PyData.strOk x=true
 | n+1,.tup xs=>xs.length≤sizeLine∧∀ x∈xs,D.pl n x
 | n+1,.lst xs=>xs.length≤sizeLine∧∀ x∈xs,D.pl n x
 | _+1,_=>False

def jm (P:Program) (w:World) (K:PySem.W.Frag) (mg:Str→Option Value) (base:Heap) (lv:Nat) (x:Str) (F:Fn):Prop :=
 ∃ a fd ps,FnOk P w K mg base (L2.CX P w) lv a fd ps (gC ⟨P,w,K,jR⟩ mg F)∧mg x=some (.ref a)∧PySem.W.keepIn K (.ref a)=true∧Binds K fd ps []
inductive Cals (P:Program) (w:World) (K:PySem.W.Frag) (mg:Str→Option Value) (base:Heap) (lv:Nat):List Str→List Fn→Prop
 | nil:Cals P w K mg base lv [] []
 | cons {x:Str} {F:Fn} {xs:List Str} {Fs:List Fn} {j:Nat}:jm P w K mg base j x F→j≤lv→Cals P w K mg base lv xs Fs→Cals P w K mg base lv (x :: xs) (F :: Fs)
section
variable {P:Program} {w:World} {K:PySem.W.Frag} {mg:Str→Option Value} {base:Heap} {lv:Nat}
theorem Cals.at:∀ {xs:List Str} {Fs:List Fn},Cals P w K mg base lv xs Fs→∀ (j:Nat) (f:Str) (F:Fn),xs[j]?=some f→Fs[j]?=some F →
  ∃ a fd ps,FnOk P w K mg base (L2.CX P w) lv a fd ps (gC ⟨P,w,K,jR⟩ mg F)∧mg f=some (.ref a)∧PySem.W.keepIn K (.ref a)=true∧Binds K fd ps []
 | _,_,.nil,j,f,F,h,_=>by simp at h
 | _,_,.cons ⟨a,fd,ps,h1,h2,h3,h4⟩ hl r,0,f,F,e1,e2=>by
  obtain rfl:=ad e1
  obtain rfl:=ad e2
  exact ⟨a,fd,ps,h1.mono hl,h2,h3,h4⟩
 | _,_,.cons _ _ r,j+1,f,F,e1,e2=>Cals.at r j f F e1 e2
def Ct.d:Ct→D
 | .int i=>.int i
 | .str z=>.str z
 | .tab kvs=>.cd kvs
def Ct.flat:Ct→Bool
 | .tab _=>false
 | _=>true

structure Cm (P:Program) (w:World) (K:PySem.W.Frag) (mg:Str→Option Value) (en hn:List Str) (ct:List (Str × Ct)) (ms:Str→Str→Option Bool):Prop where
 blt:∀ n∈blts,mg n=none
 exs:∀ x∈en,ym K mg x
 hns:∀ x∈hn,∃ c,mg x=some c
 ms:∀ (x y:Str) (b:Bool) (c d:Value),ms x y=some b→mg x=some c→mg y=some d→PySem.W.exmOne K c d=some b
 ct:∀ p∈ct,∃ v u,mg p.1=some u∧RelV v u∧∀ (pn:Addr→Option Str) (F:Fr),Rp ⟨P,w,K,pn⟩ F p.2.d v

structure Cl (P:Program) (w:World) (K:PySem.W.Frag) (mg:Str→Option Value) (base:Heap) (lv:Nat) (fs:List Fn) (fl:List (Str × Str)) (mt:List (Nat × Str × Str)) (mks:List (Nat × Str)) (ic:List Str):Prop where
 fl:∀ c f,(c,f)∈fl→L2.Cls K (He.ga K c)∧L2.NoAttr K (He.ga K c) f
 mt:∀ j c m F,(j,c,m)∈mt→fs[j]?=some F→∃ a fd ps,FnOk P w K mg base (L2.CX P w) lv a fd ps (gC ⟨P,w,K,jR⟩ mg F)∧L2.Cls K (He.ga K c)∧L2.Meth K (He.ga K c) m a∧Binds K fd ps []
 mks:∀ j c F,(j,c)∈mks→fs[j]?=some F→∃ k a fd ps,k+1≤lv∧FnOk P w K mg base (L2.CX P w) k a fd ps (gC ⟨P,w,K,jR⟩ mg F)∧L2.Mk K (He.ga K c) a∧mg c=some (.ref (He.ga K c))∧Binds K fd ps []
 isc:∀ c,c∈ic→C8.InsC K (He.ga K c)∧mg c=some (.ref (He.ga K c))
theorem Cl.none {fs:List Fn}:Cl P w K mg base lv fs [] [] [] []:=⟨(fun _ _ h=>by cases h),(fun _ _ _ _ h=>by cases h),(fun _ _ _ h=>by cases h),fun _ h=>by cases h⟩

structure Xl (P:Program) (w:World) (K:PySem.W.Frag) (mg:Str→Option Value) (base:Heap) (lv:Nat) (cs:List Str) (fs:List Fn) (ms:Str→Str→Option Bool) (xl:List (Nat × Str)) (hl:List Nat):Prop where
 xs:∀ j c F,(j,c)∈xl→fs[j]?=some F→F=vB ms c
 hx:∀ j f F,j∈hl→cs[j]?=some f→fs[j]?=some F→∃ a fd ps,FnX P w K mg base lv a fd ps F∧mg f=some (.ref a)∧PySem.W.keepIn K (.ref a)=true∧Binds K fd ps []
 xi:xl≠[]→Ej K mg ms
theorem Xl.none {cs:List Str} {fs:List Fn} {ms:Str→Str→Option Bool}:Xl P w K mg base lv cs fs ms [] []:=⟨(fun _ _ _ h=>by cases h),(fun _ _ _ h=>by cases h),fun h=>absurd rfl h⟩

theorem Xl.ask {cs:List Str} {fs:List Fn} {ms:Str→Str→Option Bool} {xs:List (Nat × Str)} (h:∀ p∈xs,fs[p.1]?=some (vB ms p.2)) (xi:Ej K mg ms):Xl P w K mg base lv cs fs ms xs [] :=
 ⟨(fun j c F hj hF=>by have:=h (j,c) hj; rw [hF] at this; exact ad this),(fun _ _ _ h=>by cases h),fun _=>xi⟩
theorem Xs.nil {fs:List Fn} {ms:Str→Str→Option Bool}:∀ p∈([]:List (Nat × Str)),fs[p.1]?=some (vB ms p.2):=fun _ h=>by cases h
theorem Xs.cons {fs:List Fn} {ms:Str→Str→Option Bool} {j:Nat} {c:Str} {r:List (Nat × Str)} (h:fs[j]?=some (vB ms c)) (hr:∀ p∈r,fs[p.1]?=some (vB ms p.2)):∀ p∈(j,c) :: r,fs[p.1]?=some (vB ms p.2):=fun p hp=>by
 rcases aB.mp hp with rfl | hp
 ·exact h
 ·exact hr p hp

theorem Xl.one {cs:List Str} {fs:List Fn} {ms:Str→Str→Option Bool} {j k:Nat} {f:Str} {F:Fn} {a:Addr} {fd:FuncData} {ps:List Str} (hc:cs[j]?=some f) (hF:fs[j]?=some F) (hX:FnX P w K mg base k a fd ps F) (hk:k≤lv) (hm:mg f=some (.ref a)) (hkp:PySem.W.keepIn K (.ref a)=true) (hb:Binds K fd ps []) :
  Xl P w K mg base lv cs fs ms [] [j] :=
 ⟨(fun _ _ _ h=>by cases h),(fun j' f' F' hj e1 e2=>by
  obtain rfl:=ah.mp hj
  rw [hc] at e1
  rw [hF] at e2
  cases e1
  cases e2
  exact ⟨a,fd,ps,hX.mono hk,hm,hkp,hb⟩),fun h=>absurd rfl h⟩
theorem Cals.len:∀ {xs:List Str} {Fs:List Fn},Cals P w K mg base lv xs Fs→xs.length=Fs.length
 | _,_,.nil=>rfl
 | _,_,.cons _ _ r=>bD (·+1) (Cals.len r)
theorem Dl {en hn:List Str} {ct:List (Str × Ct)} {ms:Str→Str→Option Bool} (X:Cm P w K mg en hn ct ms) {scope:Scope} {N cs:List Str} {gn:List (Str × Ct)} {fs fs2:List Fn}
  {fl:List (Str × Str)} {mt:List (Nat × Str × Str)} {mks xs:List (Nat × Str)} {hx:List Nat} {ic:List Str} (hcl:Cl P w K mg base lv (fs++fs2) fl mt mks ic) (hxl:Xl P w K mg base lv cs (fs++fs2) ms xs hx) (hgn:∀ p∈gn,p∈ct) (hc:Cals P w K mg base lv cs fs) :
  Fx P w K mg base ⟨N,scope,cs,gn.map (fun (p:Str × Ct)=>p.1),true,false,en,hn,fl,mt,mks,xs,hx,ic⟩ ⟨⟨P,w,K,jR⟩,mg,fs++fs2,gn.map (fun (p:Str × Ct)=>p.2.d),lv,ms⟩:=by
 refine ⟨rfl,rfl,fun j g G h1 h2=>hc.at j g G h1 ?_,X.blt,fun j y d h1 h2=>?_,X.exs,X.hns,X.ms,hcl.fl,hcl.mt,hcl.mks,hxl.xs,hxl.hx,hxl.xi,hcl.isc⟩
 ·have hj:j < cs.length:=(au.mp h1).1
  rw [hc.len] at hj
  have h2:(fs++fs2)[j]?=some G:=h2
  rw [br hj] at h2
  exact h2
 have h1:(gn.map (fun (p:Str × Ct)=>p.1))[j]?=some y:=h1
 have h2:(gn.map (fun (p:Str × Ct)=>p.2.d))[j]?=some d:=h2
 rw [aD,aA] at h1 h2
 obtain ⟨p,hp,rfl⟩:=h1
 obtain ⟨q,hq,rfl⟩:=h2
 rw [hp] at hq
 obtain rfl:=ad hq
 obtain ⟨v,u,h3,h4,h5⟩:=X.ct p (hgn p (bE hp))
 exact ⟨v,u,h3,h4,h5⟩
theorem ut {en hn:List Str} {ct:List (Str × Ct)} {ms:Str→Str→Option Bool} (X:Cm P w K mg en hn ct ms) {x qual:Str} {params:Arguments} {stmts:List Stmt} {scope:Scope} {f:Addr} {fd:FuncData} {ps N cs:List Str} {gn:List (Str × Ct)} {body:GM.S} {fs fs2:List Fn} {fn:Fn}
  {fl:List (Str × Str)} {mt:List (Nat × Str × Str)} {mks xs:List (Nat × Str)} {hx:List Nat} {ic:List Str} (hcl:Cl P w K mg base lv (fs++fs2) fl mt mks ic) (hxl:Xl P w K mg base lv cs (fs++fs2) ms xs hx)
  (F:FunD K x qual params stmts scope [] [] f fd) (SC:FnScope N ps scope) (ck:cU ⟨N,scope,cs,gn.map (fun (p:Str × Ct)=>p.1),true,false,en,hn,fl,mt,mks,xs,hx,ic⟩ body stmts=true) (hk:j4 (fs++fs2) (gn.map fun (p:Str × Ct)=>p.2.d) ms body ps.length N.length fn)
  (hgn:∀ p∈gn,p∈ct) (hc:Cals P w K mg base lv cs fs):FnOk P w K mg base (L2.CX P w) (lv+1) f fd ps (gC ⟨P,w,K,jR⟩ mg fn):=by
 exact Dg (Dl X hcl hxl hgn hc) F SC rfl rfl rfl ck hk
theorem qT {en hn:List Str} {ct:List (Str × Ct)} {ms:Str→Str→Option Bool} (X:Cm P w K mg en hn ct ms) {x qual:Str} {params:Arguments} {stmts:List Stmt} {scope:Scope} {f:Addr} {fd:FuncData} {ps N cs:List Str} {gn:List (Str × Ct)} {body:GM.S} {fs:List Fn} {fn:Fn}
  (F:FunD K x qual params stmts scope [] [] f fd) (SC:FnScope N ps scope) (ck:cU ⟨N,scope,cs,gn.map (fun (p:Str × Ct)=>p.1),true,false,en,hn,[],[],[],[],[],[]⟩ body stmts=true) (hk:j4 fs (gn.map fun (p:Str × Ct)=>p.2.d) ms body ps.length N.length fn)
  (hgn:∀ p∈gn,p∈ct) (hc:Cals P w K mg base lv cs fs):FnOk P w K mg base (L2.CX P w) (lv+1) f fd ps (gC ⟨P,w,K,jR⟩ mg fn) :=
 ut (fs2:=[]) X .none .none F SC ck (by rw [aM]; exact hk) hgn hc
theorem cQ {en hn:List Str} {ct:List (Str × Ct)} {ms:Str→Str→Option Bool} (X:Cm P w K mg en hn ct ms) {x x0 qual:Str} {params:Arguments} {stmts:List Stmt} {scope:Scope} {f:Addr} {fd:FuncData} {ps N cs:List Str} {gn:List (Str × Ct)} {body:GM.S} {fs:List Fn} {fn:Fn}
  (F:FunD K x0 qual params stmts scope [] [] f fd) (SC:FnScope N ps scope) (ck:cU ⟨N,scope,cs,gn.map (fun (p:Str × Ct)=>p.1),true,false,en,hn,[],[],[],[],[],[]⟩ body stmts=true) (hk:j4 fs (gn.map fun (p:Str × Ct)=>p.2.d) ms body ps.length N.length fn)
  (hgn:∀ p∈gn,p∈ct) (hg:mg x=some (.ref f)) (hb:Binds K fd ps []) (hc:Cals P w K mg base lv cs fs):jm P w K mg base (lv+1) x fn :=
 ⟨f,fd,ps,qT X F SC ck hk hgn hc,hg,F.kp,hb⟩



theorem qU {en hn:List Str} {ct:List (Str × Ct)} {ms:Str→Str→Option Bool} (X:Cm P w K mg en hn ct ms) {x qual:Str} {params:Arguments} {stmts:List Stmt} {scope:Scope} {f:Addr} {fd:FuncData} {ps N cs:List Str} {gn:List (Str × Ct)} {body:GM.S} {fs:Nat→List Fn} {fl:Nat→Fn}
  (F:FunD K x qual params stmts scope [] [] f fd) (SC:FnScope N ps scope) (ck:cU ⟨N,scope,cs,gn.map (fun (p:Str × Ct)=>p.1),true,false,en,hn,[],[],[],[],[],[]⟩ body stmts=true) (h0:(∀ ds,(fl 0).run ds=.no)∧∀ ds s,(fl 0).runS ds s=.no) (hk:∀ n,j4 (fs n) (gn.map fun (p:Str × Ct)=>p.2.d) ms body ps.length N.length (fl (n+1)))
  (hgn:∀ p∈gn,p∈ct) (hg:mg x=some (.ref f)) (hb:Binds K fd ps []) (hc:∀ n,jm P w K mg base (lv+n) x (fl n)→Cals P w K mg base (lv+n) cs (fs n)):∀ n,jm P w K mg base (lv+n) x (fl n)
 | 0 =>
  have z:∀ {vs H Q E},¬ gC ⟨P,w,K,jR⟩ mg (fl 0) vs H Q E:=fun h=>by
   rcases h with ⟨_,ds,_,_,_,h2⟩ | ⟨_,_,ds,s0,_,_,_,_,_,h2⟩
   ·rw [h0.1] at h2
    exact h2
   ·rw [h0.2] at h2
    exact h2
  ⟨f,fd,ps,⟨fun vs H Q E h=>absurd h z,fun A outer s H args us vs Q E _ _ _ _ h=>absurd h z⟩,hg,F.kp,hb⟩
 | n+1=>cQ (lv:=lv+n) X F SC ck (hk n) hgn hg hb (hc n (qU X F SC ck h0 hk hgn hg hb hc n))
end

theorem uu {P:Program} {w:World} {K:PySem.W.Frag} {ct:List (Str × Ct)} (h:(ct.all fun p=>p.2.flat)=true):∀ p∈ct,∀ kvs,p.2=.tab kvs→∀ pn,TbK ⟨P,w,K,pn⟩ (He.ga K p.1) kvs:=fun p hp kvs e=>by
 have:=bt.mp h p hp
 rw [e] at this
 cases this
def fu (tab:List ((Str × Str) × Bool)):Str→Str→Option Bool:=fun x y=>tab.lookup (x,y)
theorem lm {α β:Type} [BEq α] [LawfulBEq α]:∀ {l:List (α × β)} {a:α} {b:β},l.lookup a=some b→(a,b)∈l
 | [],_,_,h=>by cases h
 | (x,y) :: r,a,b,h=>by
  rw [List.lookup_cons] at h
  by_cases e:a == x
  ·rw [e] at h
   have e2:=eq_of_beq e
   subst e2
   obtain rfl:=ad h
   exact ap
  ·have e3:(a == x)=false:=by simpa using e
   rw [e3] at h
   exact av _ (lm h)
theorem xW {P:Program} {w:World} {K:PySem.W.Frag} {h:Heap} {mg:Str→Option Value} {fns en hn:List Str} {ct:List (Str × Ct)} {tab:List ((Str × Str) × Bool)} {fn:List He.DefD} (X:K.In h) (G:h.Ns mainGlobals mg) (c:He.SaysD (yd fns en hn ct tab) fn K)
  (ht:(tab.all fun p=>en.contains p.1.1 && hn.contains p.1.2)=true) (hT:∀ p∈ct,∀ kvs,p.2=.tab kvs→∀ pn,TbK ⟨P,w,K,pn⟩ (He.ga K p.1) kvs):Cm P w K mg en hn ct (fu tab)∧∀ x∈fns,mg x=some (.ref (He.ga K x)):=by
 have fact:∀ f∈yd fns en hn ct tab,f.ok K=true:=fun f hf=>by
  obtain ⟨i,hi⟩:=List.mem_iff_getElem?.mp hf
  exact c.fact i hi
 have e1:∀ x∈fns,mg x=some (.ref (He.ga K x)):=fun x hx=>He.glo_ok X G (fact _ (aG _ (bq hx)))
 have e2:∀ x∈en,mg x=some (.ref (He.ga K x)):=fun x hx=>He.glo_ok X G (fact _ (ao _ (aG _ (bq hx))))
 have e4:∀ x∈hn,mg x=some (.ref (He.ga K x)):=fun x hx=>He.glo_ok X G (fact _ (ao _ (ao _ (ao _ (aG _ (bq hx))))))
 refine ⟨⟨fun n hn'=>?_,fun x hx=>?_,fun x hx=>⟨_,e4 x hx⟩,fun x y b cc d hm h1 h2=>?_,fun p hp=>?_⟩,e1⟩
 ·exact He.free_ok X G (fact _ (ao _ (ao _ (ao _ (ao _ (aG _ (bq hn')))))))
 ·obtain ⟨q1,q2,q3,q4⟩:=He.exc_ok (fact (.exc x) (ao _ (ao _ (aG _ (bq hx)))))
  exact ⟨He.ga K x,He.veBase,"ValueError","ValueError.__new__","ValueError.__init__",PySem.F.excBase_ValueError,q1,e2 x hx,q2,q3,q4⟩
 ·have hmem:=lm (show tab.lookup (x,y)=some b from hm)
  have hc:=bt.mp ht _ hmem
  simp only [ab] at hc
  have r1:=e2 x (aL.mp hc.1)
  have r2:=e4 y (aL.mp hc.2)
  rw [r1] at h1
  rw [r2] at h2
  obtain rfl:=ad h1
  obtain rfl:=ad h2
  exact He.exm_ok (fact (.exm x y b) (ao _ (ao _ (ao _ (ao _ (ao _ (ao _ (bq (f:=fun (p:(Str × Str) × Bool)=>He.Fa.exm p.1.1 p.1.2 p.2) hmem))))))))
 ·have fp:=fact (p.2.fa p.1) (ao _ (ao _ (ao _ (ao _ (ao _ (aG _ (bq (f:=fun (p:Str × Ct)=>p.2.fa p.1) hp)))))))
  obtain ⟨x,c⟩:=p
  cases c with
  | int i =>
   obtain ⟨t,ht⟩:=He.int_ok X G fp
   exact ⟨.int i,.int i t,ht,⟨t,rfl⟩,fun _ _=>.int _⟩
  | str z =>
   obtain ⟨t,ht⟩:=He.str_ok X G fp
   exact ⟨.str z,.str z t,ht,⟨t,rfl⟩,fun _ _=>.str _⟩
  | tab kvs=>exact ⟨.ref (He.ga K x),.ref (He.ga K x),He.glo_ok X G fp,rfl,fun pn F=>.tb (hT _ hp kvs rfl pn)⟩


theorem sr {l:PySem.W.OpenLaw} {n k:Nat} {q:Program} {loose:List Str} {XP:(Str→Option Value)→Heap→Prop} {YP:World→Heap→Prop} {d:DefRec} {x:Str} {F:Fn}
  (hn:l.most=some n) (hn2:n≤sizeLine) (hdf:d.params.defaults=[]) (hr:Room k callerA) (hF:∀ ns:List Int,ns.length≤n→∃ c s,F.runS [.arr (ns.map D.int)] [.fz]=.ok (.bl true,.fr,c :: s))
  (A:∀ (w:World) (mg:Str→Option Value) (fa:Addr) (h:Heap),YP w h→h.Ns mainGlobals mg→mg d.name=some (.ref fa) →
   ∃ (K:PySem.W.Frag) (fd:FuncData),K.In h∧(∀ (s:Shared) (u:Value),BindsTo s fd ⟨[u],[]⟩ [(x,u)]) ∧
    ∀ base:Heap,K.In base→base.Ns mainGlobals mg→FnOk l.prog w K mg base (L2.CX l.prog w) k fa fd [x] (gC ⟨l.prog,w,K,jR⟩ mg F)) :
  PySem.W.WalkO q loose XP YP l.row.toRowW d [] (fun f vs=>PySem.call f vs):=by
 refine Att.attach_call hn hdf fun w s₀ s₁ mg mb fa o pm cd doc a vs ns G Y ho hd hcd hmg hobj hints hlen hg=>?_
 obtain ⟨K,fd,KX,hb,hA⟩:=A w mg fa _ Y G.T.g hmg
 refine law_call KX G.T.g G.T.b G.T.builtins G.T.nolimit hg hobj hints (a8 hlen hn2) hr hA hb (fun H hO hS=>?_) fun H e s' hx=>?_
 ·refine .inr ⟨⟨H,fun _=>none⟩,H,[.arr (ns.map D.int)],[.fz],by simp,Same.refl H,Same.refl H,⟨fun n c q=>?_,(fun a n q=>by cases q),(fun _ a n q=>by cases q),fun _=>rfl,(fun a n q=>by cases q)⟩,⟨?_,trivial⟩,?_⟩
  ·cases n with
   | zero=>cases (ad q); exact .fz
   | succ n=>cases q
  ·have rp:Rp ⟨l.prog,w,K,jR⟩ ⟨H,fun _=>none⟩ (.arr (ns.map D.int)) (.ref a):=.arr hS (by
    clear hints hlen hS
    induction ns with
    | nil=>exact .nil
    | cons n ns ih=>exact .cons (.int n) ih)
   by_cases hk:F.kp.headD false=true
   ·rw [aj hk]; exact rp
   ·rw [aq hk]; exact .inl rp
  ·obtain ⟨c,s,e⟩:=hF ns hlen
   rw [e]
   refine ⟨by simp,fun F' H' v _ _ _ _ r=>?_⟩
   cases r
   rfl
 ·obtain ⟨_,_,_,_,_,_,_,_,_,_,_,_,z⟩:=hx
  exact z

section
variable {P:Program} {w:World} {K:PySem.W.Frag} {mg:Str→Option Value} {base:Heap} {lv:Nat}
def Ia (P:Program) (w:World) (K:PySem.W.Frag) (mg:Str→Option Value) (base:Heap) (lv:Nat) (c m:Str) (F:Fn):Prop :=
 ∃ a fd ps,FnOk P w K mg base (L2.CX P w) lv a fd ps (gC ⟨P,w,K,jR⟩ mg F)∧L2.Cls K (He.ga K c)∧L2.Meth K (He.ga K c) m a∧Binds K fd ps []
def Ib (P:Program) (w:World) (K:PySem.W.Frag) (mg:Str→Option Value) (base:Heap) (lv:Nat) (c:Str) (F:Fn):Prop :=
 ∃ a fd ps,FnOk P w K mg base (L2.CX P w) lv a fd ps (gC ⟨P,w,K,jR⟩ mg F)∧L2.Mk K (He.ga K c) a∧mg c=some (.ref (He.ga K c))∧Binds K fd ps []
inductive Mts (P:Program) (w:World) (K:PySem.W.Frag) (mg:Str→Option Value) (base:Heap) (lv:Nat) (fs:List Fn):List (Nat × Str × Str)→Prop
 | nil:Mts P w K mg base lv fs []
 | cons {j i:Nat} {c m:Str} {F:Fn} {r:List (Nat × Str × Str)}:fs[j]?=some F→Ia P w K mg base i c m F→i≤lv→Mts P w K mg base lv fs r→Mts P w K mg base lv fs ((j,c,m) :: r)
inductive Mks (P:Program) (w:World) (K:PySem.W.Frag) (mg:Str→Option Value) (base:Heap) (lv:Nat) (fs:List Fn):List (Nat × Str)→Prop
 | nil:Mks P w K mg base lv fs []
 | cons {j i:Nat} {c:Str} {F:Fn} {r:List (Nat × Str)}:fs[j]?=some F→Ib P w K mg base i c F→i+1≤lv→Mks P w K mg base lv fs r→Mks P w K mg base lv fs ((j,c) :: r)
theorem Mts.at {fs:List Fn}:∀ {mt:List (Nat × Str × Str)},Mts P w K mg base lv fs mt→∀ j c m F,(j,c,m)∈mt→fs[j]?=some F →
  ∃ a fd ps,FnOk P w K mg base (L2.CX P w) lv a fd ps (gC ⟨P,w,K,jR⟩ mg F)∧L2.Cls K (He.ga K c)∧L2.Meth K (He.ga K c) m a∧Binds K fd ps []
 | _,.nil,_,_,_,_,h,_=>by cases h
 | _,.cons e ⟨a,fd,ps,q1,q2⟩ hl r,j,c,m,F,h,eF=>by
  rcases aB.mp h with h | h
  ·cases h
   rw [e] at eF
   cases eF
   exact ⟨a,fd,ps,q1.mono hl,q2⟩
  ·exact Mts.at r j c m F h eF
theorem Mks.at {fs:List Fn}:∀ {mk:List (Nat × Str)},Mks P w K mg base lv fs mk→∀ j c F,(j,c)∈mk→fs[j]?=some F →
  ∃ k a fd ps,k+1≤lv∧FnOk P w K mg base (L2.CX P w) k a fd ps (gC ⟨P,w,K,jR⟩ mg F)∧L2.Mk K (He.ga K c) a∧mg c=some (.ref (He.ga K c))∧Binds K fd ps []
 | _,.nil,_,_,_,h,_=>by cases h
 | _,.cons e ⟨a,fd,ps,q1,q2⟩ hl r,j,c,F,h,eF=>by
  rcases aB.mp h with h | h
  ·cases h
   rw [e] at eF
   cases eF
   exact ⟨_,a,fd,ps,hl,q1,q2⟩
  ·exact Mks.at r j c F h eF
structure Fc (K:PySem.W.Frag) (mg:Str→Option Value) (cl:List Str) (at_ mt:List (Str × Str)) (mk:List Str):Prop where
 cls:∀ x∈cl,L2.Cls K (He.ga K x)
 noat:∀ p∈at_,L2.NoAttr K (He.ga K p.1) p.2
 meth:∀ p∈mt,L2.Meth K (He.ga K p.1) p.2 (He.ma K (He.ga K p.1) p.2)
 mkr:∀ x∈mk,L2.Mk K (He.ga K x) (He.ma K (He.ga K x) "__init__")∧mg x=some (.ref (He.ga K x))
theorem Cl.of {fs:List Fn} {cl:List Str} {at_ mt0:List (Str × Str)} {mk0:List Str} {fl:List (Str × Str)} {mt:List (Nat × Str × Str)} {mks:List (Nat × Str)} {ic:List Str} (X:Fc K mg cl at_ mt0 mk0) (hfl:(fl.all fun p=>cl.contains p.1 && at_.contains p)=true) (hm:Mts P w K mg base lv fs mt) (hk:Mks P w K mg base lv fs mks) (hi:∀ c,c∈ic→C8.InsC K (He.ga K c)∧mg c=some (.ref (He.ga K c))):Cl P w K mg base lv fs fl mt mks ic:=by
 refine ⟨fun c f h=>?_,hm.at,hk.at,hi⟩
 have z:=bt.mp hfl _ h
 simp only [ab,aL] at z
 exact ⟨X.cls _ z.1,X.noat _ z.2⟩
end


section
variable {K:PySem.W.Frag} {en hn al:List Str}
end



def xX (n:Nat) (fa:List He.Fa) (fn:List He.DefD):PySem.W.Hook where
 α:=He.AlD
 obs:=fun s=>qw n fa fn s.heap.get?
 val:=fun _=>He.valD fn
 says:=fun _ h=>∃ K:PySem.W.Frag,K.In h∧He.SaysD fa fn K
 of:=fun _ _ e=>⟨_,He.frG_in,e⟩
 keeps:=fun _ _ _ ⟨K,hK,c⟩ k=>⟨K,PySem.W.Frag.In.keeps hK k,c⟩
theorem uv {n:Nat} {fa:List He.Fa} {fn:List He.DefD} {g:Addr→Option Obj} {s:Shared} (h:∀ a,g a=s.heap.get? a):qw n fa fn g=(xX n fa fn).obs s:=by
 have e:g=s.heap.get?:=funext h
 rw [e] <;> rfl


section
variable {fs:List Fn} {gs:List D} {ms:Str→Str→Option Bool} {a b x:X} {l l1:Lc} {s s1:cj} {d:D} {t t':Tag} {k:Bool} {tg:T} {ds:List D} {j:Nat} {f:Fn} {e:Ex}
theorem kP:fV fs gs .nil l s=.ok (true,s):=rfl
theorem kx (h:b9 fs gs a l s=.ok (.bl true,t,s1)):fV fs gs (.cons a b) l s=fV fs gs b l s1:=by
 show (b9 fs gs a l s).bind _=_
 rw [h]
 rfl
theorem xY (h:b9 fs gs a l s=.ok (.bl false,t,s1)):fV fs gs (.cons a b) l s=.ok (false,s1):=by
 show (b9 fs gs a l s).bind _=_
 rw [h]
 rfl
theorem j6 (h:fV fs gs x l s=.ok (k,s1)):b9 fs gs (.and x) l s=.ok (.bl k,.fr,s1):=by
 show (fV fs gs x l s).bind _=_
 rw [h]
 rfl
theorem p8:iw fs gs .nil l s=.ok (false,s):=rfl
theorem jn (h:b9 fs gs a l s=.ok (.bl false,t,s1)):iw fs gs (.cons a b) l s=iw fs gs b l s1:=by
 show (b9 fs gs a l s).bind _=_
 rw [h]
 rfl
theorem ss (h:b9 fs gs a l s=.ok (.bl true,t,s1)):iw fs gs (.cons a b) l s=.ok (true,s1):=by
 show (b9 fs gs a l s).bind _=_
 rw [h]
 rfl
theorem iF (h:iw fs gs x l s=.ok (k,s1)):b9 fs gs (.or x) l s=.ok (.bl k,.fr,s1):=by
 show (iw fs gs x l s).bind _=_
 rw [h]
 rfl
theorem p9 (h:b9 fs gs x l s=.ok (.bl k,t,s1)):b9 fs gs (.not x) l s=.ok (.bl (!k),.fr,s1):=by
 show (b9 fs gs x l s).bind _=_
 rw [h]
 rfl
theorem de (h:b9 fs gs x l s=.ok (.bl k,t,s1)):dM fs gs x l s=.ok (k,s1):=by
 unfold dM
 rw [h]
 rfl
theorem cY (h:b9 fs gs x l s=.ok (d,t,s1)) (h2:sg t d=some t'):cF fs gs ms (.ret x) l s=.ok (.rt d t' s1):=by
 show (b9 fs gs x l s).bind (fun (d,t,s1)=>match sg t d with | some t'=>R.ok (Out.rt d t' s1) | none=>.no)=_
 rw [h,cJ]
 show (match sg t d with | some t'=>R.ok (Out.rt d t' s1) | none=>.no)=_
 rw [h2]
theorem cD (h:b9 fs gs x l s=.ok (d,t,s1)) (ht:t=.fr∨t=.nw∨d.still=true) (h2:T.put tg d l=some l1):cF fs gs ms (.set tg x) l s=.ok (.nx l1 s1):=by
 show cg (b9 fs gs x l s) (fun d s1=>match T.put tg d l with | some l1=>R.ok (Out.nx l1 s1) | none=>.no)=_
 rw [h,fq,aq,h2]
 rintro ⟨h4,h5⟩
 rcases ht with rfl | rfl | ht
 ·rcases h4 with h4 | h4 <;> cases h4
 ·rcases h4 with h4 | h4 <;> cases h4
 ·rw [ht] at h5
  cases h5
theorem Al (h:b9 fs gs x l s=.er e s1 l1):cF fs gs ms (.set tg x) l s=.er e s1 l1:=by
 show cg (b9 fs gs x l s) _=_
 rw [h]
 rfl
theorem dr (hf:fs[j]?=some f) (ha:fE fs gs x f.kp l s=.ok (ds,s1)) (hr:f.run ds=.ok (d,t)):b9 fs gs (.call j x) l s=.ok (d,t,s1):=by
 show (match fs[j]? with
  | some f=>(fE fs gs x f.kp l s).bind fun (ds,s1)=>match f.run ds with
   | .ok (d,t)=>R.ok (d,t,s1)
   | .er e _ _=>.er e s1 l
   | .no=>.no
  | none=>.no)=_
 rw [hf]
 show (fE fs gs x f.kp l s).bind _=_
 rw [ha,cJ]
 show (match f.run ds with
   | .ok (d,t)=>R.ok (d,t,s1)
   | .er e _ _=>.er e s1 l
   | .no=>.no)=_
 rw [hr]
theorem uw {s2:cj} {l2:Lc} (hf:fs[j]?=some f) (ha:fE fs gs x f.kp l s=.ok (ds,s1)) (hr:f.run ds=.er e s2 l2):b9 fs gs (.call j x) l s=.er e s1 l:=by
 show (match fs[j]? with
  | some f=>(fE fs gs x f.kp l s).bind fun (ds,s1)=>match f.run ds with
   | .ok (d,t)=>R.ok (d,t,s1)
   | .er e _ _=>.er e s1 l
   | .no=>.no
  | none=>.no)=_
 rw [hf]
 show (fE fs gs x f.kp l s).bind _=_
 rw [ha,cJ]
 show (match f.run ds with
   | .ok (d,t)=>R.ok (d,t,s1)
   | .er e _ _=>.er e s1 l
   | .no=>.no)=_
 rw [hr]

theorem gu (h:b9 fs gs x l s=.ok (.lst ds,t,s1)):b9 fs gs (.bi .tuple #v[x]) l s=.ok (.tup ds,.fr,s1):=by
 show ((b9 fs gs x l s).bind fun (d,t,s1)=>if ([]:List Bool).headD false=true∧(t=.bo∨t=.ow)∧d.still=false then R.no else (R.ok (([]:List D),s1)).bind fun (ds,s2)=>.ok (d :: ds,s2)).bind (fun (ds,s1)=>BI.run .tuple ds s1)=_
 rw [h,cJ]
 show (if ([]:List Bool).headD false=true∧(t=.bo∨t=.ow)∧(D.lst ds).still=false then R.no else R.ok ([D.lst ds],s1)).bind _=_
 rw [aq (by rintro ⟨q,_⟩; cases q)]
 rfl
theorem Am {bs:List Bool} (h:b9 fs gs x l s=.ok (.lst (bs.map D.bl),t,s1)):b9 fs gs (.bi .all #v[x]) l s=.ok (.bl (bs.all id),.fr,s1):=by
 show ((b9 fs gs x l s).bind fun (d,t,s1)=>if ([]:List Bool).headD false=true∧(t=.bo∨t=.ow)∧d.still=false then R.no else (R.ok (([]:List D),s1)).bind fun (ds,s2)=>.ok (d :: ds,s2)).bind (fun (ds,s1)=>BI.run .all ds s1)=_
 rw [h,cJ]
 show (if ([]:List Bool).headD false=true∧(t=.bo∨t=.ow)∧(D.lst (bs.map D.bl)).still=false then R.no else R.ok ([D.lst (bs.map D.bl)],s1)).bind _=_
 rw [aq (by rintro ⟨q,_⟩; cases q),cJ]
 exact wJ bs s1

def kA (kp:List Bool) (t:Tag) (d:D):Prop:=kp.headD false=false∨t=.fr∨t=.nw∨d.still=true
theorem cw {kp:List Bool} {es:X} (h:b9 fs gs x l s=.ok (d,t,s1)) (hk:kA kp t d) {s2:cj} (h2:fE fs gs es kp.tail l s1=.ok (ds,s2)):fE fs gs (.cons x es) kp l s=.ok (d :: ds,s2):=by
 show (b9 fs gs x l s).bind (fun (d,t,s1)=>if kp.headD false=true∧(t=.bo∨t=.ow)∧d.still=false then R.no else (fE fs gs es kp.tail l s1).bind fun (ds,s2)=>.ok (d :: ds,s2))=_
 rw [h,cJ]
 show (if kp.headD false=true∧(t=.bo∨t=.ow)∧d.still=false then R.no else (fE fs gs es kp.tail l s1).bind fun (ds,s2)=>.ok (d :: ds,s2))=_
 rw [aq,h2]
 ·rfl
 rintro ⟨q1,q2,q3⟩
 rcases hk with hk | hk | hk | hk
 ·rw [hk] at q1; cases q1
 ·subst hk; rcases q2 with q2 | q2 <;> cases q2
 ·subst hk; rcases q2 with q2 | q2 <;> cases q2
 ·rw [hk] at q3; cases q3
theorem ux {kp:List Bool} {x y:X} {d d2:D} {t t2:Tag} (h:b9 fs gs x l []=.ok (d,t,[])) (h2:b9 fs gs y l []=.ok (d2,t2,[])) (k1:kA kp t d) (k2:kA kp.tail t2 d2):fE fs gs #v[x,y] kp l []=.ok ([d,d2],[]) :=
 cw h k1 (cw h2 k2 rfl)
theorem Fh {kp:List Bool} {x y z:X} {d d2 d3:D} {t t2 t3:Tag} (h:b9 fs gs x l []=.ok (d,t,[])) (h2:b9 fs gs y l []=.ok (d2,t2,[])) (h3:b9 fs gs z l []=.ok (d3,t3,[])) (k1:kA kp t d) (k2:kA kp.tail t2 d2) (k3:kA kp.tail.tail t3 d3) :
  fE fs gs #v[x,y,z] kp l []=.ok ([d,d2,d3],[]):=cw h k1 (cw h2 k2 (cw h3 k3 rfl))
theorem dP {o:BOp} {x y:X} {d d2 d3:D} {t t2 t3:Tag} {s2 s3:cj} (h:b9 fs gs x l s=.ok (d,t,s1)) (h2:b9 fs gs y l s1=.ok (d2,t2,s2)) (h3:BOp.run o d d2 s2=.ok (d3,t3,s3)):b9 fs gs (.bin o x y) l s=.ok (d3,t3,s3):=by
 show (b9 fs gs x l s).bind _=_
 rw [h,cJ]
 show (b9 fs gs y l s1).bind _=_
 rw [h2]
 exact h3
end
theorem An (a b:Str) (ha:PyData.strOk a=true) (hb:PyData.strOk b=true) (s:cj):COp.run .ne (.str a) (.str b) s=cr (.bl (!(a == b))) s:=uq (dj rfl rfl (m5 a ha) (m5 b hb)) s

section
variable {fs:List Fn} {gs:List D} {ms:Str→Str→Option Bool} {x:X} {l l1:Lc} {s s1:cj} {d:D} {t:Tag} {e:Ex}
theorem Dm (h:b9 fs gs x l s=.ok (d,t,s1)):cF fs gs ms (.ex x) l s=.ok (.nx l s1):=by
 show (b9 fs gs x l s).bind _=_
 rw [h]
 rfl
end
section
variable {fs:List Fn} {gs:List D} {ms:Str→Str→Option Bool} {x:X} {l l1:Lc} {s s1:cj} {d:D} {t:Tag} {e:Ex} {ds:List D} {i:Nat}
theorem dD (h:b9 fs gs x l s=.ok (d,.nw,s1)):cF fs gs ms (.own i x) l s=.ok (.nx (l.set i (some ⟨.ow,d⟩)) s1):=by
 show (b9 fs gs x l s).bind _=_
 rw [h]
 rfl
theorem m7 (h:b9 fs gs x l s=.ok (d,.fr,s1)):cF fs gs ms (.own i x) l s=.ok (.nx (l.set i (some ⟨.fr,d⟩)) s1):=by
 show (b9 fs gs x l s).bind _=_
 rw [h]
 rfl
theorem Ao (h:b9 fs gs x l s=.er e s1 l1):cF fs gs ms (.own i x) l s=.er e s1 l1:=by
 show (b9 fs gs x l s).bind _=_
 rw [h]
 rfl
theorem wR (h:b9 fs gs x l s=.ok (.lst ds,t,s1)):b9 fs gs (.trev x) l s=.ok (.tup ds.reverse,.fr,s1):=by
 show (b9 fs gs x l s).bind _=_
 rw [h]
 rfl
end
theorem wS {α:Type} (xs:List α) (b:Nat):gK xs none (some (b:Int))=xs.take b:=by
 have h:gK xs none (some (b:Int))=gK xs (some ((0:Nat):Int)) (some (b:Int)):=by
  unfold gK
  rw [HT.sIx_nat xs.length 0]
  show (xs.drop 0).take (_ - 0)=(xs.drop (min 0 xs.length)).take (_ - min 0 xs.length)
  rw [Nat.zero_min]
 rw [h,ox]
 rfl

def D.eqs:Nat→D→Prop
 | 0,_=>False
 | _+1,.non=>True
 | _+1,.int _=>True
 | _+1,.str x=>PyData.strOk x=true
 | n+1,.tup xs=>∀ x∈xs,D.eqs n x
 | n+1,.lst xs=>∀ x∈xs,D.eqs n x
 | _+1,_=>False
theorem qa:∀ (n:Nat) (d:D),D.eqs n d→d.seq=true∧d.py.canLay0=true∧d.py.depth≤n
 | 0,_,h=>h.elim
 | n+1,d,h=>by
  have row:∀ xs:List D,(∀ x∈xs,D.eqs n x)→D.seqs xs=true∧PyData.canLayAll0 (D.pys xs)=true∧PyData.depthAll (D.pys xs)≤n:=by
   intro xs
   induction xs with
   | nil=>intro _; exact ⟨rfl,by simp [D.pys,PyData.canLayAll0],by simp [D.pys,PyData.depthAll]⟩
   | cons x xs ih =>
    intro hx
    obtain ⟨q1,q2,q3⟩:=qa n x (hx x ap)
    obtain ⟨r1,r2,r3⟩:=ih fun y hy=>hx y (av _ hy)
    refine ⟨?_,?_,?_⟩
    ·show (D.seq x && D.seqs xs)=true
     rw [q1,r1]; rfl
    ·show PyData.canLayAll0 (D.py x :: D.pys xs)=true
     simp only [PyData.canLayAll0,q2,r2,Bool.and_self]
    ·show PyData.depthAll (D.py x :: D.pys xs)≤n
     simp only [PyData.depthAll]
     omega
  cases d with
  | non=>exact ⟨rfl,by simp [D.py,PyData.canLay0],by simp [D.py,PyData.depth]⟩
  | int i=>exact ⟨rfl,by simp [D.py,PyData.canLay0],by simp [D.py,PyData.depth]⟩
  | str x=>exact ⟨rfl,by simp only [D.py,PyData.canLay0]; exact h,by simp [D.py,PyData.depth]⟩
  | tup xs =>
   obtain ⟨q1,q2,q3⟩:=row xs h
   exact ⟨q1,by simp only [D.py,PyData.canLay0]; exact q2,by simp only [D.py,PyData.depth]; omega⟩
  | lst xs =>
   obtain ⟨q1,q2,q3⟩:=row xs h
   exact ⟨q1,by simp only [D.py,PyData.canLay0]; exact q2,by simp only [D.py,PyData.depth]; omega⟩
  | bl b=>exact h.elim
  | arr xs=>exact h.elim
  | dic k kvs=>exact h.elim
  | loc i=>exact h.elim
  | exc i=>exact h.elim
  | fdc i=>exact h.elim
  | cd i=>exact h.elim
theorem m9:∀ (n:Nat) (a b:D),D.eqs n a→D.eqs n b→(D.eqv a b=true↔a=b)
 | 0,_,_,h,_=>h.elim
 | n+1,a,b,ha,hb=>by
  have row:∀ xs ys:List D,(∀ x∈xs,D.eqs n x)→(∀ x∈ys,D.eqs n x)→(PyData.eqvAll (D.pys xs) (D.pys ys)=true↔xs=ys):=by
   intro xs
   induction xs with
   | nil =>
    intro ys _ _
    cases ys with
    | nil=>simp [D.pys,PyData.eqvAll]
    | cons y ys=>simp [D.pys,PyData.eqvAll]
   | cons x xs ih =>
    intro ys hx hy
    cases ys with
    | nil=>simp [D.pys,PyData.eqvAll]
    | cons y ys =>
     have q:=m9 n x y (hx x ap) (hy y ap)
     have r:=ih ys (fun z hz=>hx z (av _ hz)) (fun z hz=>hy z (av _ hz))
     show PyData.eqvAll (D.py x :: D.pys xs) (D.py y :: D.pys ys)=true↔_
     unfold D.eqv at q
     simp only [PyData.eqvAll,ab,q,r,List.cons.injEq]
  cases a <;> cases b <;> first | exact ha.elim | exact hb.elim | skip
  all_goals unfold D.eqv
  case tup.tup xs ys =>
   simp only [D.py,PyData.eqv,D.tup.injEq]
   exact row xs ys ha hb
  case lst.lst xs ys =>
   simp only [D.py,PyData.eqv,D.lst.injEq]
   exact row xs ys ha hb
  all_goals simp [D.py,PyData.eqv]
theorem Ap {n m:Nat} {a b:D} (ha:D.eqs n a) (hb:D.eqs m b) (hn:n≤64) (hm:m≤64):D.eqOk a b=true:=by
 obtain ⟨a1,a2,a3⟩:=qa n a ha
 obtain ⟨b1,b2,b3⟩:=qa m b hb
 refine dj a1 b1 ?_ ?_
 ·unfold SeqAt.shaped
  rw [a2,aF (by omega)]
  rfl
 ·unfold SeqAt.shaped
  rw [b2,aF (by omega)]
  rfl
theorem wT {n:Nat} {a b:D} (ha:D.eqs n a) (hb:D.eqs n b):D.eqv a b=decide (a=b):=by
 by_cases h:a=b
 ·rw [aF h,(m9 n a b ha hb).mpr h]
 ·rw [aE h]
  cases e:D.eqv a b with
  | false=>rfl
  | true=>exact absurd ((m9 n a b ha hb).mp e) h
theorem Fi {n:Nat} {a b:D} (ha:D.eqs n a) (hb:D.eqs n b) (hn:n≤64) (s:cj):COp.run .ne a b s=cr (.bl (!decide (a=b))) s:=by
 rw [uq (Ap ha hb hn hn),wT ha hb]

section
variable {fs:List Fn} {gs:List D} {l:Lc} {s s1:cj} {x y:X}
theorem cV {o:COp} {d d2 d3:D} {t t2 t3:Tag} {s2 s3:cj} (h:b9 fs gs x l s=.ok (d,t,s1)) (h2:b9 fs gs y l s1=.ok (d2,t2,s2)) (h3:COp.run o d d2 s2=.ok (d3,t3,s3)):b9 fs gs (.cmp o x y) l s=.ok (d3,t3,s3):=by
 show (b9 fs gs x l s).bind _=_
 rw [h,cJ]
 show (b9 fs gs y l s1).bind _=_
 rw [h2]
 exact h3
theorem Fj {a b:Int} (h:b≤a) (s:cj):COp.run .ge (.int a) (.int b) s=.ok (.bl true,.fr,s):=by
 show cr (.bl (decide (b≤a))) s=_
 rw [aF h]
 rfl
theorem Dn {a b:Int} (h:¬ b≤a) (s:cj):COp.run .ge (.int a) (.int b) s=.ok (.bl false,.fr,s):=by
 show cr (.bl (decide (b≤a))) s=_
 rw [aE h]
 rfl
end
theorem kQ {fs:List Fn} {gs:List D} {a b:X} {l:Lc} {d d2:D} (h:b9 fs gs a l []=.ok (d,.fr,[])) (h2:b9 fs gs b l []=.ok (d2,.fr,[])):b9 fs gs (.tup #v[a,b]) l []=.ok (.tup [d,d2],.fr,[]):=by
 show (cg (b9 fs gs a l []) fun d s1=>(cg (b9 fs gs b l s1) fun d2 s2=>(R.ok (([]:List D),s2)).bind fun (ds,s3)=>.ok (d2 :: ds,s3)).bind fun (ds,s2)=>.ok (d :: ds,s2)).bind (fun (ds,s1)=>if ds.length≤sizeLine then cr (.tup ds) s1 else .no)=_
 rw [h,fq,aq (by rintro ⟨q,_⟩; rcases q with q | q <;> cases q),h2,fq,aq (by rintro ⟨q,_⟩; rcases q with q | q <;> cases q)]
 show (if ([d,d2]:List D).length≤sizeLine then cr (.tup [d,d2]) [] else .no)=_
 rw [aj (by rw [sizeLine_eq]; show 2≤16777216; omega)]
 rfl
end GM


namespace GM
abbrev Mach:=List (List Nat × List Nat)
def Mach.row (M:Mach) (s:Nat):List Nat × List Nat:=M.getD s ([],[])
def Mach.fst (M:Mach) (s:Nat):List Nat:=(M.row s).1
def Mach.gos (M:Mach) (s:Nat):List Nat:=(M.row s).2
def Mach.nx (M:Mach) (s a:Nat):Nat:=(M.gos s).getD a 0

def MOk (L:Nat) (M:Mach):Prop:=∀ s,s < M.length→(M.fst s).length=L∧(M.gos s).length=L∧(∀ x∈M.fst s,x < L)∧∀ x∈M.gos s,x < M.length
theorem MOk.nx_lt {L:Nat} {M:Mach} (h:MOk L M) {s a:Nat} (hs:s < M.length) (ha:a < L):M.nx s a < M.length:=by
 obtain ⟨_,h2,_,h4⟩:=h s hs
 refine h4 _ ?_
 show (M.gos s).getD a 0∈M.gos s
 rw [List.getD,ak (by omega)]
 exact bP _

def ln (L:Nat) (M N:Mach):Nat→Nat→Nat→Prop
 | 0,s,t=>M.fst s=N.fst t
 | k+1,s,t=>M.fst s=N.fst t∧∀ a,a < L→ln L M N k (M.nx s a) (N.nx t a)
def Eqv (L:Nat) (M:Mach) (s:Nat) (N:Mach) (t:Nat):Prop:=∀ k,ln L M N k s t
section
variable {L:Nat} {M N K:Mach}
theorem qV:∀ {k s t},ln L M N k s t→M.fst s=N.fst t
 | 0,_,_,h=>h
 | _+1,_,_,h=>h.1
theorem oD:∀ k s,ln L M M k s s
 | 0,_=>rfl
 | k+1,s=>⟨rfl,fun a _=>oD k _⟩
theorem oE:∀ {k s t},ln L M N k s t→ln L N M k t s
 | 0,_,_,h=>Eq.symm h
 | _+1,_,_,h=>⟨h.1.symm,fun a ha=>oE (h.2 a ha)⟩
theorem j7:∀ {k s t u},ln L M N k s t→ln L N K k t u→ln L M K k s u
 | 0,_,_,_,h,g=>Eq.trans h g
 | _+1,_,_,_,h,g=>⟨h.1.trans g.1,fun a ha=>j7 (h.2 a ha) (g.2 a ha)⟩
theorem iG:∀ {k s t},ln L M N (k+1) s t→ln L M N k s t
 | 0,_,_,h=>h.1
 | _+1,_,_,h=>⟨h.1,fun a ha=>iG (h.2 a ha)⟩
theorem Eqv.refl (s:Nat):Eqv L M s M s:=fun k=>oD k s
theorem Eqv.symm {s t} (h:Eqv L M s N t):Eqv L N t M s:=fun k=>oE (h k)
theorem Eqv.trans {s t u} (h:Eqv L M s N t) (g:Eqv L N t K u):Eqv L M s K u:=fun k=>j7 (h k) (g k)
theorem Eqv.fst {s t} (h:Eqv L M s N t):M.fst s=N.fst t:=h 0
theorem Eqv.nx {s t a} (h:Eqv L M s N t) (ha:a < L):Eqv L M (M.nx s a) N (N.nx t a):=fun k=>(h (k+1)).2 a ha

theorem Eqv.of {P:Nat→Nat→Prop} (h1:∀ s t,P s t→M.fst s=N.fst t) (h2:∀ s t,P s t→∀ a,a < L→P (M.nx s a) (N.nx t a)) {s t:Nat} (h:P s t):Eqv L M s N t:=fun k=>by
 induction k generalizing s t with
 | zero=>exact h1 s t h
 | succ k ih=>exact ⟨h1 s t h,fun a ha=>ih (h2 s t h a ha)⟩
end

def fZ (j' k' j k:Nat):Prop:=j' < j∨(j'=j∧k' < k)

structure Form (L:Nat) (F:Mach):Prop where
 ok:MOk L F
 ne:0 < F.length
 mi:∀ i j,i < F.length→j < F.length→Eqv L F i F j→i=j
 fo:∀ m,0 < m→m < F.length→∃ j k,j < m∧k < L∧F.nx j k=m∧∀ j' k',k' < L→fZ j' k' j k→F.nx j' k' < m

structure Bfs (L:Nat) (M:Mach) (s:Nat) (o:List Nat):Prop where
 nd:o.Nodup
 hd:o[0]?=some s
 lt:∀ a∈o,a < M.length
 cl:∀ a∈o,∀ k,k < L→M.nx a k∈o
 bo:∀ p,0 < p→p < o.length→∃ q k,q < p∧k < L∧o.getD p 0=M.nx (o.getD q 0) k∧∀ q' k',k' < L→fZ q' k' q k→M.nx (o.getD q' 0) k'∈o.take p

structure Hds {α:Type} (μ:Nat→α) (o hs:List Nat):Prop where
 ne:∀ i j,i < hs.length→j < hs.length→μ (hs.getD i 0)=μ (hs.getD j 0)→i=j
 at_:∀ m,m < hs.length→∃ p,p < o.length∧o.getD p 0=hs.getD m 0∧∀ q,q < p→∃ i,i < m∧μ (hs.getD i 0)=μ (o.getD q 0)
 all:∀ a∈o,∃ i,i < hs.length∧μ (hs.getD i 0)=μ a
theorem cy (o:List Nat) (a i:Nat):(o++[a]).getD i 0=if i < o.length then o.getD i 0 else if i=o.length then a else 0:=by
 rw [List.getD,List.getElem?_append]
 by_cases h:i < o.length
 ·rw [aj h,aj h]
  rfl
 ·rw [aq h,aq h]
  by_cases h2:i=o.length
  ·subst h2
   rw [aj rfl,bO]
   rfl
  ·rw [aq h2,aS (by simp; omega)]
   rfl
theorem dH {o:List Nat} {i:Nat} (h:i < o.length):o.getD i 0∈o:=by
 rw [List.getD,ak h]
 exact bP _
theorem f6 {o:List Nat} {a:Nat} (h:a∈o):∃ i,i < o.length∧o.getD i 0=a:=by
 obtain ⟨i,hi,e⟩:=List.mem_iff_getElem.mp h
 exact ⟨i,hi,by rw [List.getD,ak hi]; exact e⟩
theorem Hds.nil {α:Type} {μ:Nat→α}:Hds μ [] []:=⟨fun i _ h=>absurd h (ba i),fun m h=>absurd h (ba m),fun a h=>by cases h⟩
theorem Hds.old {α:Type} {μ:Nat→α} {o hs:List Nat} {a:Nat} (h:Hds μ o hs) (ha:∃ i,i < hs.length∧μ (hs.getD i 0)=μ a):Hds μ (o++[a]) hs where
 ne:=h.ne
 at_:=fun m hm=>by
  obtain ⟨p,p1,p2,p3⟩:=h.at_ m hm
  refine ⟨p,by rw [ae]; omega,by rw [cy,aj p1]; exact p2,fun q hq=>?_⟩
  rw [cy,aj (by omega)]
  exact p3 q hq
 all:=fun b hb=>by
  rcases aR.mp hb with q | q
  ·exact h.all b q
  ·obtain rfl:=ah.mp q
   exact ha
theorem Hds.new {α:Type} {μ:Nat→α} {o hs:List Nat} {a:Nat} (h:Hds μ o hs) (ha:¬ ∃ i,i < hs.length∧μ (hs.getD i 0)=μ a):Hds μ (o++[a]) (hs++[a]) where
 ne:=fun i j hi hj e=>by
  rw [ae,aO] at hi hj
  rw [cy,cy] at e
  by_cases h1:i < hs.length
  ·by_cases h2:j < hs.length
   ·rw [aj h1,aj h2] at e
    exact h.ne i j h1 h2 e
   ·rw [aj h1,aq h2,aj (by omega)] at e
    exact absurd ⟨i,h1,e⟩ ha
  ·by_cases h2:j < hs.length
   ·rw [aq h1,aj (by omega),aj h2] at e
    exact absurd ⟨j,h2,e.symm⟩ ha
   ·omega
 at_:=fun m hm=>by
  rw [ae,aO] at hm
  by_cases h1:m < hs.length
  ·obtain ⟨p,p1,p2,p3⟩:=h.at_ m h1
   refine ⟨p,by rw [ae]; omega,by rw [cy,cy,aj p1,aj h1]; exact p2,fun q hq=>?_⟩
   obtain ⟨i,i1,i2⟩:=p3 q hq
   refine ⟨i,i1,?_⟩
   rw [cy,aj (by omega),cy,aj (by omega)]
   exact i2
  ·refine ⟨o.length,by simp,by rw [cy,cy,aq (bU _),aj rfl,aq h1,aj (by omega)],fun q hq=>?_⟩
   obtain ⟨i,i1,i2⟩:=h.all _ (dH hq)
   refine ⟨i,by omega,?_⟩
   rw [cy,aj i1,cy,aj hq]
   exact i2
 all:=fun b hb=>by
  rcases aR.mp hb with q | q
  ·obtain ⟨i,i1,i2⟩:=h.all b q
   refine ⟨i,by rw [ae]; omega,?_⟩
   rw [cy,aj i1]
   exact i2
  ·obtain rfl:=ah.mp q
   refine ⟨hs.length,by simp,?_⟩
   rw [cy,aq (bU _),aj rfl]
theorem Hds.congr {α β:Type} {μ:Nat→α} {ν:Nat→β} {o hs:List Nat} (h:Hds μ o hs) (e:∀ a∈o,∀ b∈o,(μ a=μ b↔ν a=ν b)):Hds ν o hs:=by
 have hm:∀ i,i < hs.length→hs.getD i 0∈o:=fun i hi=>by
  obtain ⟨p,p1,p2,_⟩:=h.at_ i hi
  rw [← p2]
  exact dH p1
 refine ⟨fun i j hi hj q=>h.ne i j hi hj ((e _ (hm i hi) _ (hm j hj)).mpr q),fun m hm2=>?_,fun a ha=>?_⟩
 ·obtain ⟨p,p1,p2,p3⟩:=h.at_ m hm2
  refine ⟨p,p1,p2,fun q hq=>?_⟩
  obtain ⟨i,i1,i2⟩:=p3 q hq
  exact ⟨i,i1,(e _ (hm i (by omega)) _ (dH (by omega))).mp i2⟩
 ·obtain ⟨i,i1,i2⟩:=h.all a ha
  exact ⟨i,i1,(e _ (hm i i1) _ ha).mp i2⟩
theorem Hds.mem {α:Type} {μ:Nat→α} {o hs:List Nat} (h:Hds μ o hs) {i:Nat} (hi:i < hs.length):hs.getD i 0∈o:=by
 obtain ⟨p,p1,p2,_⟩:=h.at_ i hi
 rw [← p2]
 exact dH p1
theorem oF (f:Nat→Nat) {X:List Nat} {k:Nat} (h:k < X.length):(X.map f).getD k 0=f (X.getD k 0):=by
 rw [List.getD,List.getD,aD,ak h]
 rfl

def vy (M:Mach) (hs:List Nat) (nm:Nat→Nat):Mach:=hs.map fun h=>(M.fst h,(M.gos h).map nm)

theorem wU {α:Type} {L:Nat} {M:Mach} {s:Nat} {o hs:List Nat} {μ:Nat→α} {nm:Nat→Nat} (hM:MOk L M) (hB:Bfs L M s o) (hμ:∀ a∈o,∀ b∈o,(μ a=μ b↔Eqv L M a M b)) (hH:Hds μ o hs) (hn:∀ a∈o,nm a < hs.length∧μ (hs.getD (nm a) 0)=μ a) :
  Form L (vy M hs nm)∧Eqv L (vy M hs nm) 0 M s:=by
 have hso:s∈o:=bE hB.hd
 have hmem:∀ i,i < hs.length→hs.getD i 0∈o:=fun i hi=>hH.mem hi
 have hrow:∀ i,i < hs.length→(vy M hs nm).row i=(M.fst (hs.getD i 0),(M.gos (hs.getD i 0)).map nm):=fun i hi=>by
  unfold Mach.row vy
  rw [List.getD,aD,List.getD,ak hi]
  rfl
 have hlen:(vy M hs nm).length=hs.length:=ac _
 generalize hF:vy M hs nm=F at hrow hlen
 have hfst:∀ i,i < hs.length→F.fst i=M.fst (hs.getD i 0):=fun i hi=>by
  unfold Mach.fst
  rw [hrow i hi]
  rfl
 have hgos:∀ i,i < hs.length→F.gos i=(M.gos (hs.getD i 0)).map nm:=fun i hi=>by
  show (F.row i).2=_
  rw [hrow i hi]
 have hnx:∀ i k,i < hs.length→k < L→F.nx i k=nm (M.nx (hs.getD i 0) k):=fun i k hi hk=>by
  show (F.gos i).getD k 0=nm ((M.gos (hs.getD i 0)).getD k 0)
  have hl:=(hM _ (hB.lt _ (hmem i hi))).2.1
  rw [hgos i hi]
  exact oF nm (by omega)
 have hOk:MOk L F:=fun i hi=>by
  rw [hlen] at hi
  have hm:=hmem i hi
  obtain ⟨q1,q2,q3,q4⟩:=hM _ (hB.lt _ hm)
  refine ⟨by rw [hfst i hi]; exact q1,by rw [hgos i hi,ac]; exact q2,by rw [hfst i hi]; exact q3,fun x hx=>?_⟩
  rw [hgos i hi] at hx
  obtain ⟨y,hy,rfl⟩:=aQ.mp hx
  rw [hlen]
  obtain ⟨k,hk,e⟩:=f6 hy
  have:y∈o:=by
   rw [← e]
   exact hB.cl _ hm k (by omega)
  exact (hn y this).1
 have hnm:∀ i,i < hs.length→nm (hs.getD i 0)=i:=fun i hi=>by
  have:=hn _ (hmem i hi)
  exact hH.ne _ _ this.1 hi this.2
 have nm_eq:∀ a∈o,∀ b∈o,μ a=μ b→nm a=nm b:=fun a ha b hb e=>hH.ne _ _ (hn a ha).1 (hn b hb).1 (by rw [(hn a ha).2,(hn b hb).2,e])
 have key:∀ a∈o,Eqv L F (nm a) M a:=by
  intro a ha k
  induction k generalizing a with
  | zero =>
   show F.fst (nm a)=M.fst a
   rw [hfst _ (hn a ha).1]
   exact ((hμ _ (hmem _ (hn a ha).1) a ha).mp (hn a ha).2).fst
  | succ k ih =>
   have hE:=(hμ _ (hmem _ (hn a ha).1) a ha).mp (hn a ha).2
   refine ⟨by rw [hfst _ (hn a ha).1]; exact hE.fst,fun c hc=>?_⟩
   rw [hnx _ _ (hn a ha).1 hc]
   exact j7 (ih _ (hB.cl _ (hmem _ (hn a ha).1) c hc)) ((hE.nx hc) k)
 obtain ⟨i0,hi0,_⟩:=hH.all s hso
 have hpos:0 < hs.length:=by omega
 have ho0:o.getD 0 0=s:=by rw [List.getD,hB.hd]; rfl
 have hs0:hs.getD 0 0=s:=by
  obtain ⟨p,p1,p2,p3⟩:=hH.at_ 0 hpos
  rcases bX p with rfl | z
  ·rw [← p2]; exact ho0
  ·obtain ⟨i,hi,_⟩:=p3 0 z
   omega
 have hnms:nm s=0:=by rw [← hs0]; exact hnm 0 hpos
 refine ⟨⟨hOk,by rw [hlen]; exact hpos,fun i j hi hj hE=>?_,fun m m0 hm=>?_⟩,by have:=key s hso; rw [hnms] at this; exact this⟩
 ·rw [hlen] at hi hj
  have e1:=key _ (hmem i hi)
  have e2:=key _ (hmem j hj)
  rw [hnm i hi] at e1
  rw [hnm j hj] at e2
  exact hH.ne i j hi hj ((hμ _ (hmem i hi) _ (hmem j hj)).mpr (e1.symm.trans (hE.trans e2)))
 ·rw [hlen] at hm
  obtain ⟨p,p1,p2,p3⟩:=hH.at_ m hm
  have p0:0 < p:=by
   rcases bX p with rfl | z
   ·rw [ho0,← hs0] at p2
    have:=hH.ne 0 m hpos hm (by rw [p2])
    omega
   ·exact z
  obtain ⟨q,k,hq,hk,e,hb⟩:=hB.bo p p0 p1
  have hqo:o.getD q 0∈o:=dH (by omega)
  have lowc:∀ q,q < p→nm (o.getD q 0) < m:=fun q hq=>by
   obtain ⟨i,i1,i2⟩:=p3 q hq
   have:=hH.ne _ _ (hn _ (dH (show q < o.length by omega))).1 (by omega) ((hn _ (dH (show q < o.length by omega))).2.trans i2.symm)
   omega
  generalize hi:nm (o.getD q 0)=i
  have him:i < m:=by rw [← hi]; exact lowc q hq
  have hil:i < hs.length:=by omega
  have hiq:μ (hs.getD i 0)=μ (o.getD q 0):=by rw [← hi]; exact (hn _ hqo).2
  obtain ⟨pi,pi1,pi2,pi3⟩:=hH.at_ i hil
  have hpq:pi≤q:=by
   rcases a9 q pi with z | z
   ·obtain ⟨i2,z1,z2⟩:=pi3 q z
    have:=hH.ne i2 i (by omega) hil (z2.trans hiq.symm)
    omega
   ·exact z
  refine ⟨i,k,him,hk,?_,fun j' k' hk' hA=>?_⟩
  ·rw [hnx i k hil hk]
   have hE:=((hμ _ (hmem i hil) _ hqo).mp hiq).nx hk
   rw [← e,p2] at hE
   have hx:=hB.cl _ (hmem i hil) k hk
   have:=nm_eq _ hx _ (hmem m hm) ((hμ _ hx _ (hmem m hm)).mpr hE)
   rw [this,hnm m hm]
  ·have hj:j' < hs.length:=by
    unfold fZ at hA
    omega
   rw [hnx j' k' hj hk']
   obtain ⟨pj,pj1,pj2,pj3⟩:=hH.at_ j' hj
   have hA2:fZ pj k' q k:=by
    rcases hA with z | ⟨rfl,z⟩
    ·refine .inl ?_
     rcases a9 pj pi with y | y
     ·omega
     ·rcases a9 pi pj with x | x
      ·obtain ⟨i3,x1,x2⟩:=pj3 pi x
       rw [pi2] at x2
       have:=hH.ne i3 i (by omega) hil x2
       omega
      ·have:pi=pj:=by omega
       rw [← this,pi2] at pj2
       have:=hH.ne i j' hil hj (by rw [pj2])
       omega
    ·have:pj=pi:=by
      rcases bF pj pi with y | y | y
      ·obtain ⟨i3,x1,x2⟩:=pi3 pj y
       rw [pj2] at x2
       have:=hH.ne i3 j' (by omega) hj x2
       omega
      ·exact y
      ·obtain ⟨i3,x1,x2⟩:=pj3 pi y
       rw [pi2] at x2
       have:=hH.ne i3 j' (by omega) hj x2
       omega
     rcases a9 pj q with y | y
     ·exact .inl y
     ·exact .inr ⟨by omega,z⟩
   have hin:=hb pj k' hk' hA2
   rw [pj2] at hin
   obtain ⟨q2,y1,y2⟩:=f6 hin
   rw [List.length_take] at y1
   have y3:(o.take p).getD q2 0=o.getD q2 0:=by rw [List.getD,List.getD,List.getElem?_take,aj (by omega)]
   rw [← y2,y3]
   exact lowc q2 (by omega)

theorem dS:∀ {l r:List Nat},l.Nodup→(∀ x∈l,x∈r)→l.length≤r.length
 | [],_,_,_=>aW _
 | x :: l,r,h,hs=>by
  have hx:=hs x ap
  have h2:=List.nodup_cons.mp h
  have:=dS (l:=l) (r:=r.erase x) h2.2 fun y hy=>by
   have:y≠x:=fun e=>h2.1 (e ▸ hy)
   exact (List.mem_erase_of_ne this).mpr (hs y (av _ hy))
  rw [List.length_erase_of_mem hx] at this
  have hp:=List.length_pos_of_mem hx
  rw [aw]
  omega
theorem su {l r:List Nat} (h:l.Nodup) (hs:∀ x∈l,x∈r) (hl:r.length≤l.length):∀ x∈r,x∈l:=fun x hx=>by
 by_cases hin:x∈l
 ·exact hin
 ·have:=dS (l:=l) (r:=r.erase x) h fun y hy=>by
   have:y≠x:=fun e=>hin (e ▸ hy)
   exact (List.mem_erase_of_ne this).mpr (hs y hy)
  rw [List.length_erase_of_mem hx] at this
  have hp:=List.length_pos_of_mem hx
  omega
theorem Hds.cls {α β:Type} {μ:Nat→α} {ν:Nat→β} {o hs gs:List Nat} (h:Hds μ o hs) (g:Hds ν o gs) (e:∀ a∈o,∀ b∈o,ν a=ν b→μ a=μ b) :
  ∃ cl:List Nat,cl.length=hs.length∧cl.Nodup∧(∀ x∈cl,x < gs.length)∧∀ i,i < hs.length→ν (gs.getD (cl.getD i 0) 0)=ν (hs.getD i 0):=by
 have hc:∀ i,∃ c,i < hs.length→c < gs.length∧ν (gs.getD c 0)=ν (hs.getD i 0):=fun i=>by
  by_cases hi:i < hs.length
  ·obtain ⟨c,c1,c2⟩:=g.all _ (h.mem hi)
   exact ⟨c,fun _=>⟨c1,c2⟩⟩
  ·exact ⟨0,fun q=>absurd q hi⟩
 let f:Nat→Nat:=fun i=>Classical.choose (hc i)
 have hf:∀ i,i < hs.length→f i < gs.length∧ν (gs.getD (f i) 0)=ν (hs.getD i 0):=fun i=>Classical.choose_spec (hc i)
 refine ⟨(List.range hs.length).map f,by rw [ac,am],?_,fun x hx=>?_,fun i hi=>?_⟩
 ·rw [aP,List.pairwise_map]
  refine List.Pairwise.imp_of_mem (fun {a b} ha hb hne he=>hne ?_) (aP.mp List.nodup_range)
  have ha:=aC.mp ha
  have hb:=aC.mp hb
  have:ν (hs.getD a 0)=ν (hs.getD b 0):=by rw [← (hf a ha).2,← (hf b hb).2,he]
  exact h.ne a b ha hb (e _ (h.mem ha) _ (h.mem hb) this)
 ·obtain ⟨i,hi,rfl⟩:=aQ.mp hx
  exact (hf i (aC.mp hi)).1
 ·have:((List.range hs.length).map f).getD i 0=f i:=by
   rw [List.getD,aD,be hi]
   rfl
  rw [this]
  exact (hf i hi).2

theorem Hds.le {α β:Type} {μ:Nat→α} {ν:Nat→β} {o hs gs:List Nat} (h:Hds μ o hs) (g:Hds ν o gs) (e:∀ a∈o,∀ b∈o,ν a=ν b→μ a=μ b):hs.length≤gs.length:=by
 obtain ⟨cl,c1,c2,c3,_⟩:=h.cls g e
 have:=dS (r:=List.range gs.length) c2 fun x hx=>aC.mpr (c3 x hx)
 rw [am] at this
 omega

theorem Hds.same {α β:Type} {μ:Nat→α} {ν:Nat→β} {o hs gs:List Nat} (h:Hds μ o hs) (g:Hds ν o gs) (e:∀ a∈o,∀ b∈o,ν a=ν b→μ a=μ b) (hl:gs.length≤hs.length):∀ a∈o,∀ b∈o,μ a=μ b→ν a=ν b:=by
 obtain ⟨cl,c1,c2,c3,c4⟩:=h.cls g e
 have al:=su (r:=List.range gs.length) c2 (fun x hx=>aC.mpr (c3 x hx)) (by rw [am]; omega)
 have rep:∀ a∈o,∃ i,i < hs.length∧ν (hs.getD i 0)=ν a:=fun a ha=>by
  obtain ⟨c,z1,z2⟩:=g.all a ha
  obtain ⟨i,i1,i2⟩:=f6 (al c (aC.mpr z1))
  rw [c1] at i1
  refine ⟨i,i1,?_⟩
  rw [← c4 i i1,i2]
  exact z2
 intro a ha b hb hab
 obtain ⟨i,i1,i2⟩:=rep a ha
 obtain ⟨j,j1,j2⟩:=rep b hb
 have q1:=e _ (h.mem i1) _ ha i2
 have q2:=e _ (h.mem j1) _ hb j2
 obtain rfl:=h.ne i j i1 j1 (by rw [q1,q2,hab])
 rw [← i2,← j2]
theorem Hds.len {α:Type} {μ:Nat→α} {o hs:List Nat} (h:Hds μ o hs):hs.length≤o.length:=by
 refine dS (l:=hs) ?_ fun x hx=>?_
 ·rw [aP,List.pairwise_iff_getElem]
  intro i j hi hj hij e
  have:=h.ne i j hi hj (by rw [List.getD,List.getD,ak hi,ak hj,e])
  omega
 ·obtain ⟨i,hi,rfl⟩:=f6 hx
  exact h.mem hi

theorem wV {L:Nat} {M:Mach} {o:List Nat} {k:Nat} (hc:∀ a∈o,∀ c,c < L→M.nx a c∈o) (h:∀ a∈o,∀ b∈o,ln L M M k a b→ln L M M (k+1) a b):∀ a∈o,∀ b∈o,ln L M M k a b→Eqv L M a M b:=by
 have up:∀ n,∀ a∈o,∀ b∈o,ln L M M k a b→ln L M M (k+n) a b:=by
  intro n
  induction n with
  | zero=>intro a _ b _ q; exact q
  | succ n ih =>
   intro a ha b hb q
   have q2:=h a ha b hb q
   exact ⟨qV q,fun c hc2=>ih _ (hc a ha c hc2) _ (hc b hb c hc2) (q2.2 c hc2)⟩
 have down:∀ n j a b,ln L M M (j+n) a b→ln L M M j a b:=by
  intro n
  induction n with
  | zero=>intro j a b q; exact q
  | succ n ih=>intro j a b q; exact ih j a b (iG q)
 intro a ha b hb q j
 have:=up j a ha b hb q
 rw [Nat.add_comm] at this
 exact down k j a b this
end GM


namespace GM
structure BInv (L:Nat) (M:Mach) (s:Nat) (o:List Nat) (at_ done:Nat):Prop where
 nd:o.Nodup
 hd:o[0]?=some s
 lt:∀ a∈o,a < M.length
 al:at_≤o.length
 cl:∀ q k,k < L→fZ q k at_ done→M.nx (o.getD q 0) k∈o
 bo:∀ p,0 < p→p < o.length→∃ q k,q < p∧k < L∧fZ q k at_ done∧o.getD p 0=M.nx (o.getD q 0) k∧∀ q' k',k' < L→fZ q' k' q k→M.nx (o.getD q' 0) k'∈o.take p
section
variable {L:Nat} {M:Mach} {s:Nat} {o:List Nat} {a d:Nat}
theorem BInv.start (hs:s < M.length):BInv L M s [s] 0 0 where
 nd:=by simp
 hd:=rfl
 lt:=fun a ha=>by rw [ah.mp ha]; exact hs
 al:=aW _
 cl:=fun q k _ h=>by unfold fZ at h; omega
 bo:=fun p h1 h2=>by rw [aO] at h2; omega
theorem BInv.old (h:BInv L M s o a d) (hd:d < L) (ho:M.nx (o.getD a 0) d∈o):BInv L M s o a (d+1) where
 nd:=h.nd
 hd:=h.hd
 lt:=h.lt
 al:=h.al
 cl:=fun q k hk hA=>by
  by_cases e:q=a∧k=d
  ·rw [e.1,e.2]; exact ho
  ·exact h.cl q k hk (by unfold fZ at hA ⊢; omega)
 bo:=fun p h1 h2=>by
  obtain ⟨q,k,q1,q2,q3,q4⟩:=h.bo p h1 h2
  exact ⟨q,k,q1,q2,by unfold fZ at q3 ⊢; omega,q4⟩
theorem BInv.new (h:BInv L M s o a d) (hM:MOk L M) (ha:a < o.length) (hd:d < L) (ho:M.nx (o.getD a 0) d∉o):BInv L M s (o++[M.nx (o.getD a 0) d]) a (d+1) where
 nd:=by
  rw [bu]
  refine ⟨h.nd,by simp,fun x hx y hy e=>?_⟩
  rw [ah] at hy
  exact ho (hy ▸ e ▸ hx)
 hd:=by
  rw [br (by omega)]
  exact h.hd
 lt:=fun x hx=>by
  rcases aR.mp hx with q | q
  ·exact h.lt x q
  ·rw [ah.mp q]
   exact hM.nx_lt (h.lt _ (dH ha)) hd
 al:=by rw [ae]; have:=h.al; omega
 cl:=fun q k hk hA=>by
  have hq:q < o.length:=by unfold fZ at hA; omega
  rw [cy,aj hq]
  by_cases e:q=a∧k=d
  ·rw [e.1,e.2]; exact ao _ (ah.mpr rfl)
  ·exact aG _ (h.cl q k hk (by unfold fZ at hA ⊢; omega))
 bo:=fun p h1 h2=>by
  rw [ae,aO] at h2
  by_cases e:p < o.length
  ·obtain ⟨q,k,q1,q2,q3,q4,q5⟩:=h.bo p h1 e
   refine ⟨q,k,q1,q2,by unfold fZ at q3 ⊢; omega,?_,fun q' k' hk' hA=>?_⟩
   ·rw [cy,aj e,cy,aj (by omega)]
    exact q4
   ·have:q' < o.length:=by unfold fZ at hA; omega
    rw [cy,aj this,List.take_append_of_le_length (by omega)]
    exact q5 q' k' hk' hA
  ·refine ⟨a,d,by omega,hd,.inr ⟨rfl,by omega⟩,?_,fun q' k' hk' hA=>?_⟩
   ·rw [cy,aq e,aj (by omega),cy,aj ha]
   ·have:q' < o.length:=by unfold fZ at hA; omega
    rw [cy,aj this,List.take_append_of_le_length (by omega),List.take_of_length_le (by omega)]
    exact h.cl q' k' hk' hA
theorem BInv.row (h:BInv L M s o a L) (ha:a < o.length):BInv L M s o (a+1) 0 where
 nd:=h.nd
 hd:=h.hd
 lt:=h.lt
 al:=ha
 cl:=fun q k hk hA=>h.cl q k hk (by unfold fZ at hA ⊢; omega)
 bo:=fun p h1 h2=>by
  obtain ⟨q,k,q1,q2,q3,q4⟩:=h.bo p h1 h2
  exact ⟨q,k,q1,q2,by unfold fZ at q3 ⊢; omega,q4⟩
theorem BInv.fin (h:BInv L M s o a 0) (ha:o.length≤a):Bfs L M s o where
 nd:=h.nd
 hd:=h.hd
 lt:=h.lt
 cl:=fun x hx k hk=>by
  obtain ⟨q,q1,rfl⟩:=f6 hx
  exact h.cl q k hk (.inl (by omega))
 bo:=fun p h1 h2=>by
  obtain ⟨q,k,q1,q2,_,q4⟩:=h.bo p h1 h2
  exact ⟨q,k,q1,q2,q4⟩
theorem BInv.len (h:BInv L M s o a d):o.length≤M.length:=by
 have:=dS (r:=List.range M.length) h.nd fun x hx=>aC.mpr (h.lt x hx)
 rw [am] at this
 exact this
theorem Bfs.len (h:Bfs L M s o):o.length≤M.length:=by
 have:=dS (r:=List.range M.length) h.nd fun x hx=>aC.mpr (h.lt x hx)
 rw [am] at this
 exact this
end
theorem Aq {α:Type} (μ:Nat→α) (o:List Nat):∃ hs,Hds μ o hs:=by
 have key:∀ (r pr:List Nat) (hs:List Nat),Hds μ pr hs→∃ hs,Hds μ (pr++r) hs:=by
  intro r
  induction r with
  | nil=>intro pr hs h; rw [aM]; exact ⟨hs,h⟩
  | cons x r ih =>
   intro pr hs h
   have e:pr++x :: r=(pr++[x])++r:=by rw [aK]; rfl
   rw [e]
   by_cases q:∃ i,i < hs.length∧μ (hs.getD i 0)=μ x
   ·exact ih _ _ (h.old q)
   ·exact ih _ _ (h.new q)
 obtain ⟨hs,h⟩:=key o [] [] Hds.nil
 exact ⟨hs,h⟩

end GM


namespace GM
open PySem PySem.Spec PyProof.Rows L2
theorem oG (k v k':D):∀ kvs:List (D × D),D.look (kvs.map fun kv=>if kv.1=k then (kv.1,v) else kv) k'=(D.look kvs k').map fun d=>if k'=k then v else d
 | []=>rfl
 | (a,b) :: r=>by
  have ih:=oG k v k' r
  unfold D.look at ih ⊢
  rw [aI,bV,bV]
  by_cases h:a=k'
  ·by_cases h2:a=k
   ·have e2:k'=k:=h ▸ h2
    rw [aj h2]
    simp only [aF h,bK,aj e2]
   ·have e2:¬ k'=k:=fun q=>h2 (h.trans q)
    rw [aq h2]
    simp only [aF h,bK,aq e2]
  ·have e:(if a=k then (a,v) else (a,b)).1=a:=by split <;> rfl
   rw [e]
   simp only [aE h]
   exact ih
theorem uy (kvs:List (D × D)) (k v k':D):D.look (kvs++[(k,v)]) k'=(D.look kvs k').or (if k'=k then some v else none):=by
 unfold D.look
 rw [List.find?_append]
 cases h:kvs.find? fun kv=>decide (kv.1=k') with
 | some p=>rfl
 | none =>
  rw [Option.none_or,bV]
  by_cases e:k=k'
  ·rw [aF e,aj e.symm]
   rfl
  ·rw [aE e,aq fun q=>e q.symm]
   rfl
theorem fG (kvs:List (D × D)) (k v k':D):D.look (D.put kvs k v) k'=if k'=k then some v else D.look kvs k':=by
 unfold D.put
 split
 ·rename_i h
  rw [oG]
  by_cases e:k'=k
  ·rw [aj e]
   subst e
   obtain ⟨d,hd⟩:=aZ.mp h
   rw [hd,bK,aj rfl]
  ·rw [aq e]
   simp only [aq e]
   cases D.look kvs k' <;> rfl
 ·rename_i h
  rw [uy]
  by_cases e:k'=k
  ·rw [aj e]
   subst e
   have:D.look kvs k'=none:=by
    cases q:D.look kvs k' with
    | none=>rfl
    | some d=>rw [q] at h; exact absurd rfl h
   rw [this,aj rfl]
   rfl
  ·rw [aq e,aq e,Option.or_none]
theorem jI (kvs:List (D × D)) (k v:D):(D.put kvs k v).length=if (D.look kvs k).isSome=true then kvs.length else kvs.length+1:=by
 unfold D.put
 split
 ·exact ac _
 ·rw [ae,aO]
theorem uz (kvs:List (D × D)) (k v:D):(D.put kvs k v).length≤kvs.length+1:=by
 rw [jI]
 split <;> omega
abbrev nD (n:Nat):D:=.int (n:Int)
theorem gv {a b:Nat} (h:nD a=nD b):a=b:=by
 have:=D.int.inj h
 omega
theorem wW {xs ys:List Nat} (h:xs.map nD=ys.map nD):xs=ys:=List.map_inj_right (fun _ _ e=>gv e) |>.mp h
theorem cP (i:Int):D.isKey false (.int i)=true:=rfl

def D.kd (n:Nat) (d:D):Prop:=∃ k,D.nk d=some k∧k.depth≤n
theorem uA (n:Nat) (i:Int):D.kd n (.int i):=⟨.num i,by simp [D.nk],by simp [NestedKey.depth]⟩
theorem Ht {n:Nat}:∀ {xs:List D},(∀ x∈xs,D.kd n x)→∃ ks,D.nks xs=some ks∧NestedKey.depthAll ks≤n
 | [],_=>⟨[],by simp [D.nks],by simp [NestedKey.depthAll]⟩
 | x :: xs,h=>by
  obtain ⟨k,h1,h2⟩:=h x ap
  obtain ⟨ks,h3,h4⟩:=Ht fun y hy=>h y (av _ hy)
  refine ⟨k :: ks,?_,?_⟩
  ·simp only [D.nks,h1,h3,Option.bind_some,bK]
  ·simp only [NestedKey.depthAll]
   omega
theorem qb {n:Nat} {xs:List D} (h:∀ x∈xs,D.kd n x):D.kd (n+1) (.tup xs):=by
 obtain ⟨ks,h1,h2⟩:=Ht h
 exact ⟨.tup ks,by simp only [D.nk,h1,bK],by simp only [NestedKey.depth]; omega⟩
theorem wX {n:Nat} {α:Type} (f:α→Int) (xs:List α):D.kd (n+1) (.tup (xs.map fun x=>.int (f x))):=qb fun x hx=>by
 obtain ⟨y,_,rfl⟩:=aQ.mp hx
 exact uA n _
theorem wY {n:Nat} {xs:List D} (h:D.kd n (.tup xs)) (hn:n≤8):D.isKey true (.tup xs)=true:=by
 obtain ⟨k,h1,h2⟩:=h
 show (if true=true then (match D.nk (.tup xs) with | some n=>decide (n.depth≤8) | none=>false) else _)=true
 rw [aj rfl,h1]
 exact aF (by omega)
section
variable {fs:List Fn} {gs:List D} {ms:Str→Str→Option Bool} {a b x:X} {l:Lc} {s s1 s2 s3:cj} {d d2 d3:D} {t t2 t3:Tag}
theorem dB (h:b9 fs gs a l s=.ok (d,t,s1)) (h2:b9 fs gs b l s1=.ok (d2,t2,s2)) (h3:mH d d2 s2=.ok (d3,t3,s3)):b9 fs gs (.ix a b) l s=.ok (d3,t3,s3):=by
 show (b9 fs gs a l s).bind _=_
 rw [h,cJ]
 show (b9 fs gs b l s1).bind _=_
 rw [h2]
 exact h3
def nc (t:Tag) (d:D):Prop:=t=.fr∨t=.nw∨d.still=true
theorem gG (h:nc t d):¬ ((t=.bo∨t=.ow)∧d.still=false):=by
 rintro ⟨q1,q2⟩
 rcases h with rfl | rfl | h
 ·rcases q1 with q | q <;> cases q
 ·rcases q1 with q | q <;> cases q
 ·rw [h] at q2; cases q2
theorem ia {i:Nat} {k v:X} {y c c':D} (hv:b9 fs gs v l s=.ok (y,t,s1)) (ht:nc t y) (hl:l[i]?=some (some ⟨.ow,c⟩)) (hk:b9 fs gs k l s1=.ok (d,t2,s2)) (ht2:nc t2 d) (hs:kF c d y=some c'):cF fs gs ms (.sub i k v) l s=.ok (.nx (l.set i (some ⟨.ow,c'⟩)) s2):=by
 show cg (b9 fs gs v l s) _=_
 rw [hv,fq,aq (gG ht),hl]
 show cg (b9 fs gs k l s1) _=_
 rw [hk,fq,aq (gG ht2),hs]
theorem app_ok {i:Nat} {ds:List D} (hl:l[i]?=some (some ⟨.ow,.lst ds⟩)) (h:b9 fs gs x l s=.ok (d,t,s1)) (ht:nc t d) (hz:ds.length < sizeLine):cF fs gs ms (.app i x) l s=.ok (.nx (l.set i (some ⟨.ow,.lst (ds++[d])⟩)) s1):=by
 show (match l[i]? with
  | some (some ⟨.ow,.lst ds⟩)=>cg (b9 fs gs x l s) fun d s1=>if ds.length < sizeLine then R.ok (Out.nx (l.set i (some ⟨.ow,.lst (ds++[d])⟩)) s1) else .no
  | _=>.no)=_
 rw [hl]
 show cg (b9 fs gs x l s) (fun d s1=>if ds.length < sizeLine then R.ok (Out.nx (l.set i (some ⟨.ow,.lst (ds++[d])⟩)) s1) else .no)=_
 rw [h,fq,aq (gG ht),aj hz]
theorem fz_eq {is:List Nat} {y:GM.S}:cF fs gs ms (.fz is y) l s=cF fs gs ms y (fzL l is) s:=rfl
theorem gw {k:Bool} {kvs:List (D × D)} {y:D} (hk:D.isKey k d=true) (hz:kvs.length < sizeLine):kF (.dic k kvs) d y=some (.dic k (D.put kvs d y)):=by
 show (if D.isKey k d=true∧kvs.length < sizeLine then _ else _)=_
 rw [aj ⟨hk,hz⟩]
theorem fy {k:Bool} {kvs:List (D × D)} (hk:D.isKey k d=true):COp.run .notin d (.dic k kvs) s=cr (.bl (!(D.look kvs d).isSome)) s:=by
 have e:COp.run .notin d (.dic k kvs) s=if D.isKey k d then cr (.bl (!(D.look kvs d).isSome)) s else .no:=by cases d <;> rfl
 rw [e,aj hk]
theorem jo {k:Bool} {kvs:List (D × D)} (hk:D.isKey k d=true) (h:D.look kvs d=some d2):mH (.dic k kvs) d s=cr d2 s:=by
 show (if D.isKey k d then (match D.look kvs d with | some d=>cr d s | none=>.no) else .no)=_
 rw [aj hk,h]
theorem qW {i j:Int} {k:Bool} (h:k=decide (j < i)):COp.run .gt (.int i) (.int j) s=.ok (.bl k,.fr,s):=by rw [h]; rfl
theorem oH {i j:Int} {k:Bool} (h:k=decide (i < j)):COp.run .lt (.int i) (.int j) s=.ok (.bl k,.fr,s):=by rw [h]; rfl
end

theorem gx {α τ:Type} {body:D→Lc→cj→R Out} (e:α→D) (L:τ→Lc) (I:List α→τ→Prop) (xs:List α) (hb:∀ pr x r t,xs=pr++x :: r→I pr t→∃ t',body (e x) (L t) []=.ok (.nx (L t') [])∧I (pr++[x]) t') (t:τ) (h0:I [] t) :
  ∃ t',gO body (xs.map e) (L t) []=.ok (.nx (L t') [])∧I xs t':=by
 have key:∀ (r pr:List α) (t:τ),xs=pr++r→I pr t→∃ t',gO body (r.map e) (L t) []=.ok (.nx (L t') [])∧I xs t':=by
  intro r
  induction r with
  | nil =>
   intro pr t hx hi
   rw [aM] at hx
   exact ⟨t,rfl,hx ▸ hi⟩
  | cons x r ih =>
   intro pr t hx hi
   obtain ⟨t1,h1,h2⟩:=hb pr x r t hx hi
   obtain ⟨t2,h3,h4⟩:=ih (pr++[x]) t1 (by rw [aK]; exact hx) h2
   refine ⟨t2,?_,h4⟩
   show (body (e x) (L t) []).bind (dF (gO body (r.map e)))=_
   rw [h1]
   exact h3
 exact key xs [] t rfl h0

theorem uB {τ:Type} {cond:Lc→cj→R (Bool × cj)} {body:Lc→cj→R Out} (L:τ→Lc) (c:τ→Bool) (I:τ→Prop) (m:τ→Nat) (e:Ex) (Bad:Prop)
  (hc:∀ t,I t→cond (L t) []=.ok (c t,[])) (hb:∀ t,I t→c t=true→(∃ t',body (L t) []=.ok (.nx (L t') [])∧I t'∧m t' < m t)∨((∃ l,body (L t) []=.er e [] l)∧Bad)) :
  ∀ t,I t→(∃ t',jy cond body (L t) []=.ok (.nx (L t') [])∧I t'∧c t'=false)∨((∃ l,jy cond body (L t) []=.er e [] l)∧Bad):=by
 intro t
 induction h:m t using Nat.strongRecOn generalizing t with
 | _ n ih =>
  intro hi
  rw [pV,hc t hi]
  cases hct:c t with
  | false=>exact .inl ⟨t,by simp [R.bind],hi,hct⟩
  | true =>
   rcases hb t hi hct with ⟨t1,h1,h2,h3⟩ | ⟨⟨l,h1⟩,h2⟩
   ·have e2:(R.ok (true,([]:cj))).bind (fun (b,s1)=>if b=true then (body (L t) s1).bind (dF (jy cond body)) else R.ok (Out.nx (L t) s1))=jy cond body (L t1) []:=by
     show (body (L t) []).bind (dF (jy cond body))=_
     rw [h1]
     rfl
    rw [e2]
    exact ih (m t1) (by omega) t1 rfl h2
   ·refine .inr ⟨⟨l,?_⟩,h2⟩
    rw [cJ]
    show (body (L t) []).bind (dF (jy cond body))=_
    rw [h1]
    rfl
-- reached(rows,start): slots 0=rows 1=start 2=seen 3=order 4=at 5=to
-- numbered(order,keys): slots 0=order 1=keys 2=known 3=marks 4=at 5=key
def fO (r:List Nat × List Nat):D:=.tup [.tup (r.1.map nD),.tup (r.2.map nD)]
def gY (d:D) (M:Mach):Prop:=d=.lst (M.map fO)∨d=.tup (M.map fO)
theorem oI {M:Mach} {n:Nat} (h:n < M.length):(M.map fO)[n]?=some (fO (M.row n)):=by
 unfold Mach.row
 rw [aD,List.getD,ak h]
 rfl
theorem qc {d:D} {M:Mach} (hd:gY d M) {n:Nat} (h:n < M.length) (s:cj):mH d (nD n) s=.ok (fO (M.row n),.fr,s):=by
 rcases hd with rfl | rfl
 ·exact jH (oI h) s
 ·exact p7 (oI h) s
theorem qd {A:List Nat} {i:Nat} (h:i < A.length):(A.map nD)[i]?=some (nD (A.getD i 0)):=by
 rw [aD,List.getD,ak h]
 rfl
theorem nf {A:List Nat} {i:Nat} (h:i < A.length) (s:cj):mH (.tup (A.map nD)) (nD i) s=.ok (nD (A.getD i 0),.fr,s):=p7 (qd h) s
theorem iW {A:List Nat} {i:Nat} (h:i < A.length) (s:cj):mH (.lst (A.map nD)) (nD i) s=.ok (nD (A.getD i 0),.fr,s):=jH (qd h) s
section
variable {fs:List Fn} {gs:List D} {ms:Str→Str→Option Bool} {a b:X} {l:Lc} {d:D} {t t2:Tag} {M:Mach} {n:Nat}
theorem j8 (hd:gY d M) (hn:n < M.length) (h:b9 fs gs a l []=.ok (d,t,[])) (h2:b9 fs gs b l []=.ok (nD n,t2,[])):b9 fs gs (.ix (.ix a b) (.ki 0)) l []=.ok (.tup ((M.fst n).map nD),.fr,[]) :=
 dB (dB h h2 (qc hd hn [])) rfl rfl
theorem ng (hd:gY d M) (hn:n < M.length) (h:b9 fs gs a l []=.ok (d,t,[])) (h2:b9 fs gs b l []=.ok (nD n,t2,[])):b9 fs gs (.ix (.ix a b) (.ki 1)) l []=.ok (.tup ((M.gos n).map nD),.fr,[]) :=
 dB (dB h h2 (qc hd hn [])) rfl rfl

def SD (kvs:List (D × D)) (o:List Nat) (g:Nat→D):Prop:=(∀ n:Nat,D.look kvs (nD n)=if n∈o then some (g n) else none)∧kvs.length≤o.length
theorem SD.put {kvs:List (D × D)} {o:List Nat} {g:Nat→D} (h:SD kvs o g) {x:Nat}:SD (D.put kvs (nD x) (g x)) (o++[x]) g:=by
 refine ⟨fun n=>?_,by have:=uz kvs (nD x) (g x); rw [ae,aO]; have:=h.2; omega⟩
 rw [fG,h.1]
 by_cases e:n=x
 ·subst e
  rw [aj rfl,aj (ao _ (ah.mpr rfl))]
 ·rw [aq fun q=>e (gv q)]
  by_cases e2:n∈o
  ·rw [aj e2,aj (aG _ e2)]
  ·rw [aq e2,aq fun q=>by
    rcases aR.mp q with q | q
    ·exact e2 q
    ·exact e (ah.mp q)]
theorem SD.one (s:Nat) (g:Nat→D):SD [(nD s,g s)] [s] g:=by
 have h0:SD [] [] g:=⟨fun n=>by rw [aq (by simp)]; rfl,ax _⟩
 exact h0.put (x:=s)

structure Nums (κ:Nat→D) (o hs:List Nat) (mk:List (D × D)) (ν:Nat→Nat):Prop where
 hd:Hds κ o hs
 lk:∀ a∈o,D.look mk (nD a)=some (nD (ν a))
 lt:∀ a∈o,ν a < hs.length
 ke:∀ a∈o,κ (hs.getD (ν a) 0)=κ a
 ml:mk.length≤o.length
theorem Nums.iff {κ:Nat→D} {o hs:List Nat} {mk:List (D × D)} {ν:Nat→Nat} (h:Nums κ o hs mk ν):∀ a∈o,∀ b∈o,(ν a=ν b↔κ a=κ b):=fun a ha b hb=>by
 constructor
 ·intro e
  rw [← h.ke a ha,← h.ke b hb,e]
 ·intro e
  exact h.hd.ne _ _ (h.lt a ha) (h.lt b hb) (by rw [h.ke a ha,h.ke b hb,e])
theorem Nums.hds {κ:Nat→D} {o hs:List Nat} {mk:List (D × D)} {ν:Nat→Nat} (h:Nums κ o hs mk ν):Hds ν o hs:=h.hd.congr fun a ha b hb=>(h.iff a ha b hb).symm
theorem eZ {α β:Type} (f:α→β) (xs:List α) (x:α):(xs++[x]).map f=xs.map f++[f x]:=by rw [bj]; rfl

structure Known (κ:Nat→D) (hs:List Nat) (kn:List (D × D)):Prop where
 len:kn.length=hs.length
 lk:∀ i,i < hs.length→D.look kn (κ (hs.getD i 0))=some (nD i)
 on:∀ d,(D.look kn d).isSome=true→∃ i,i < hs.length∧d=κ (hs.getD i 0)
theorem Known.new {κ:Nat→D} {hs:List Nat} {kn:List (D × D)} (h:Known κ hs kn) {x:Nat} (hx:¬ ∃ i,i < hs.length∧κ (hs.getD i 0)=κ x):Known κ (hs++[x]) (D.put kn (κ x) (nD kn.length)) where
 len:=by
  rw [jI,aq,ae,aO,h.len]
  intro q
  obtain ⟨i,i1,i2⟩:=h.on _ q
  exact hx ⟨i,i1,i2.symm⟩
 lk:=fun i hi=>by
  rw [ae,aO] at hi
  rw [fG,cy]
  by_cases e:i < hs.length
  ·rw [aj e,aq fun q=>hx ⟨i,e,q⟩]
   exact h.lk i e
  ·have e2:i=hs.length:=by omega
   rw [aq e,aj e2,aj rfl,h.len,e2]
 on:=fun d hd=>by
  rw [fG] at hd
  by_cases e:d=κ x
  ·exact ⟨hs.length,by simp,by rw [cy,aq (bU _),aj rfl]; exact e⟩
  ·rw [aq e] at hd
   obtain ⟨i,i1,i2⟩:=h.on d hd
   exact ⟨i,by rw [ae]; omega,by rw [cy,aj i1]; exact i2⟩
end
-- marked(rows,order): slots 0=rows 1=order 2=keys 3=at 4=grown 5=marks 6=many 7=more 8=to

def KD (kvs:List (D × D)) (o:List Nat):Prop:=∃ dom:List Nat,dom.Nodup∧(∀ n∈dom,n∈o)∧kvs.length=dom.length∧∀ n:Nat,(D.look kvs (nD n)).isSome=true↔n∈dom
theorem KD.nil (o:List Nat):KD [] o:=⟨[],by simp,(by intro n h; cases h),rfl,(by intro n; rw [nL]; simp)⟩
theorem KD.len {kvs:List (D × D)} {o:List Nat} (h:KD kvs o):kvs.length≤o.length:=by
 obtain ⟨dom,d1,d2,d3,_⟩:=h
 rw [d3]
 exact dS d1 d2
theorem KD.put {kvs:List (D × D)} {o:List Nat} (h:KD kvs o) {x:Nat} (hx:x∈o) (v:D):KD (D.put kvs (nD x) v) o:=by
 obtain ⟨dom,d1,d2,d3,d4⟩:=h
 by_cases e:x∈dom
 ·refine ⟨dom,d1,d2,by rw [jI,aj ((d4 x).mpr e),d3],fun n=>?_⟩
  rw [fG]
  by_cases q:n=x
  ·subst q
   rw [aj rfl]
   exact ⟨fun _=>e,fun _=>rfl⟩
  ·rw [aq fun z=>q (gv z)]
   exact d4 n
 ·refine ⟨dom++[x],?_,fun n hn=>?_,?_,fun n=>?_⟩
  ·rw [bu]
   refine ⟨d1,by simp,fun y hy z hz q=>?_⟩
   rw [ah] at hz
   exact e (hz ▸ q ▸ hy)
  ·rcases aR.mp hn with q | q
   ·exact d2 n q
   ·rw [ah.mp q]; exact hx
  ·rw [jI,aq fun q=>e ((d4 x).mp q),ae,aO,d3]
  ·rw [fG]
   by_cases q:n=x
   ·subst q
    rw [aj rfl]
    exact ⟨fun _=>ao _ (ah.mpr rfl),fun _=>rfl⟩
   ·rw [aq fun z=>q (gv z),d4 n]
    exact ⟨fun z=>aG _ z,fun z=>by
     rcases aR.mp z with z | z
     ·exact z
     ·exact absurd (ah.mp z) q⟩
section
variable {fs:List Fn} {gs:List D} {ms:Str→Str→Option Bool} {M:Mach} {L s:Nat} {o:List Nat} {d:D}

theorem uC:∀ a b,(D.tup ((M.fst a).map nD)=.tup ((M.fst b).map nD)↔ln L M M 0 a b):=fun a b =>
 ⟨fun e=>wW (D.tup.inj e),fun e=>by
  have e:M.fst a=M.fst b:=e
  rw [e]⟩

theorem qe (hM:MOk L M) (hB:Bfs L M s o) {a:Nat} (ha:a∈o):∀ c∈M.gos a,c∈o:=fun c hc=>by
 obtain ⟨k,hk,e⟩:=f6 hc
 rw [← e]
 exact hB.cl a ha k (by have:=(hM a (hB.lt a ha)).2.1; omega)
end
-- il(rows,start): slots 0=rows 1=start 2=order 3=marks 4=names 5=dU 6=at 7=made 8=head 9=to
section
variable {fs:List Fn} {gs:List D} {ms:Str→Str→Option Bool} {M:Mach} {L s:Nat} {o:List Nat} {d:D}

noncomputable def lR (mk names:List (D × D)) (a:Nat):Nat:=match D.look mk (nD a) with
 | some m=>match D.look names m with
  | some (.int i)=>i.toNat
  | _=>0
 | none=>0
theorem uD {mk names:List (D × D)} {ν:Nat→Nat} {hs:List Nat} (hH:Hds ν o hs) (hl:∀ a∈o,D.look mk (nD a)=some (nD (ν a))) (hk:Known (fun a=>nD (ν a)) hs names):∀ a∈o,lR mk names a < hs.length∧ν (hs.getD (lR mk names a) 0)=ν a∧D.look names (nD (ν a))=some (nD (lR mk names a)):=fun a ha=>by
 obtain ⟨i,i1,i2⟩:=hH.all a ha
 have e:=hk.lk i i1
 have e:D.look names (nD (ν (hs.getD i 0)))=some (nD i):=e
 rw [i2] at e
 have q:lR mk names a=i:=by
  unfold lR
  rw [hl a ha]
  show (match D.look names (nD (ν a)) with | some (.int i)=>i.toNat | _=>0)=i
  rw [e]
  exact aT i
 rw [q]
 exact ⟨i1,i2,e⟩
theorem lp {κ:Nat→D} {hs:List Nat} {kn:List (D × D)} (h:Known κ hs kn) {x:Nat} (hx:¬ ∃ i,i < hs.length∧κ (hs.getD i 0)=κ x):D.look kn (κ x)=none:=by
 cases q:D.look kn (κ x) with
 | none=>rfl
 | some d =>
  obtain ⟨i,z1,z2⟩:=h.on (κ x) (by rw [q]; rfl)
  exact absurd ⟨i,z1,z2.symm⟩ hx
theorem lq {κ:Nat→D} {hs:List Nat} {kn:List (D × D)} (h:Known κ hs kn) {x:Nat} (hx:∃ i,i < hs.length∧κ (hs.getD i 0)=κ x):(D.look kn (κ x)).isSome=true:=by
 obtain ⟨i,z1,z2⟩:=hx
 rw [← z2,h.lk i z1]
 rfl
theorem mr (κ:Nat→D):Known κ [] []:=⟨rfl,fun i hi=>absurd hi (ba i),by intro d hd; exact absurd (show (none:Option D).isSome=true from hd) (by simp)⟩
theorem nD_iff {ν:Nat→Nat} {hs:List Nat} {x:Nat}:(∃ i,i < hs.length∧nD (ν (hs.getD i 0))=nD (ν x))↔∃ i,i < hs.length∧ν (hs.getD i 0)=ν x :=
 ⟨fun ⟨i,a,b⟩=>⟨i,a,gv b⟩,fun ⟨i,a,b⟩=>⟨i,a,by rw [b]⟩⟩

theorem uE (hM:MOk L M) (hL:L≤1000) (hB:Bfs L M s o) (hd:gY d M) {mk names:List (D × D)} {ν:Nat→Nat} {hs:List Nat} (hH:Hds ν o hs) (hl:∀ a∈o,D.look mk (nD a)=some (nD (ν a))) (hk:Known (fun a=>nD (ν a)) hs names) {vr vh vt vn vm:Nat} {own:List Nat} {l:Lc} {h:Nat} (hh:h∈o) {td tn tm:Tag}
  (e0:b9 fs gs (.v vr) l []=.ok (d,td,[])) (e1:b9 fs gs (.v vh) l []=.ok (nD h,.fr,[])) (ow:oC l own=true) (l1:Nat→Lc) (ep:∀ c,T.put (.n vt) (nD c) (dE l own)=some (l1 c)) (ec:∀ c,b9 fs gs (.v vt) (l1 c) []=.ok (nD c,.fr,[])) (en:∀ c,b9 fs gs (.v vn) (l1 c) []=.ok (.dic false names,tn,[])) (em:∀ c,b9 fs gs (.v vm) (l1 c) []=.ok (.dic false mk,tm,[])) :
  b9 fs gs (.tup #v[.bi .tuple #v[.ix (.ix (.v vr) (.v vh)) (.ki 0)],.bi .tuple #v[.comp own (.n vt) (.it (.ix (.ix (.v vr) (.v vh)) (.ki 1))) .nil (.ix (.v vn) (.ix (.v vm) (.v vt)))]]) l []=.ok (fO (M.fst h,(M.gos h).map (lR mk names)),.fr,[]):=by
 have big:=sizeLine_eq
 have hal:=hB.lt h hh
 have hgl:=(hM h hal).2.1
 refine kQ (d:=.tup ((M.fst h).map nD)) (d2:=.tup (((M.gos h).map (lR mk names)).map nD)) ?_ ?_
 ·have q:=j8 (fs:=fs) (gs:=gs) hd hal e0 e1
  show (fE fs gs #v[.ix (.ix (.v vr) (.v vh)) (.ki 0)] [] l []).bind _=_
  rw [cw q (.inl rfl) rfl]
  rfl
 ·refine gu (t:=.nw) ?_
  rw [aU]
  refine iD (ds:=M.gos h) (en:=nD) ow (iE (t:=.fr) (ng hd hal e0 e1) (by intro q; cases q)) (fun c hc=>⟨l1 c,.fr,ep c,?_,.inl rfl⟩) (by omega)
  have hco:=qe hM hB hh c hc
  exact dB (en c) (dB (em c) (ec c) (jo (cP _) (hl c hco))) (jo (cP _) (uD hH hl hk c hco).2.2)
end
end GM
local macro_rules | `(tactic| simp! [$xs,*]) => `(tactic| simp only [GM.iB, GM.fF, GM.li, GM.a1, GM.a2, GM.a3, GM.a4, GM.eI, GM.eB, GM.eS, GM.eD, GM.eT, GM.eL, GM.eA, GM.eP, GM.cF, GM.b9, GM.fE, GM.jp, GM.fV, GM.iw, GM.gM, GM.dM, GM.dO, GM.cJ, GM.wv, GM.ww, GM.uf, GM.fq, GM.wx, GM.jF, GM.wy, GM.cr, GM.dW, GM.jG, GM.kM, GM.mZ, GM.iC, GM.gF, GM.oy, GM.oz, GM.oA, GM.oB, GM.wC, GM.wD, GM.wE, GM.wF, GM.sk, GM.sn, GM.uh, GM.ui, GM.wG, GM.wH, GM.wI, GM.Aj, GM.Ak, GM.wK, GM.wL, GM.wM, GM.Af, GM.Ag, GM.Ah, GM.Ai, GM.gr, GM.p6, GM.mX, GM.lj, GM.D.still, GM.sg, GM.T.put, GM.T.puts, GM.X.isNil, GM.D.items, GM.uj, GM.xU, GM.uk, GM.ul, GM.um, GM.uo, GM.Dj, GM.Dk, List.getElem?_cons_zero, List.getElem?_cons_succ, List.getElem?_nil, List.set_cons_zero, List.set_cons_succ, List.length_map, List.length_cons, List.length_nil, List.headD_cons, List.headD_nil, List.tail_cons, List.tail_nil, List.cons_append, List.nil_append, List.append_nil, List.replicate, List.map_cons, List.map_nil, Bool.false_eq_true, ite_true, ite_false, reduceIte, reduceCtorEq, false_and, and_false, true_and, and_true, or_false, false_or, or_true, true_or, or_self, and_self, not_true, not_false_eq_true, decide_true, decide_false, Bool.not_true, Bool.not_false, Nat.reduceSub, Nat.reduceAdd, Nat.reduceLT, Nat.reduceLeDiff, Int.reduceNeg, Nat.reducePow, Int.reduceToNat, Int.reduceLT, Int.reduceLE, Int.reducePow, Int.reduceMul, Int.reduceAdd, Int.reduceSub, Option.map_some, Option.bind_some, Option.some.injEq, GM.D.int.injEq, $xs,*])


namespace GM
open PySem PySem.Spec PyProof.Rows L2
-- _law_in_line(_law_rows_here,_law_line,_law_marks): slots 0=_law_rows_here 1=_law_line 2=_law_marks 3=_law_place 4=_law_heads 5=_law_row 6=_law_to
def fc:S:=#v[.own 3 (.dic false .nil .nil),.own 4 (.lst .nil),.loop (.n 5) (.it (.v 1))
 #v[.ife (.cmp .notin (.ix (.v 2) (.v 5)) (.v 3))
 #v[.sub 3 (.ix (.v 2) (.v 5)) (.bi .len #v[.v 4]),.app 4 (.v 5)]
 .nil],.fz [4] (.ret (.bi .tuple #v[.comp [5] (.n 5) (.it (.v 4)) .nil (.tup #v[.bi .tuple #v[.ix (.ix (.v 0) (.v 5)) (.ki 0)],.bi .tuple #v[.comp [6] (.n 6) (.it (.ix (.ix (.v 0) (.v 5)) (.ki 1))) .nil (.ix (.v 3) (.ix (.v 2) (.v 6)))]])]))]
noncomputable def cf (ms:Str→Str→Option Bool):Fn:=.self [] [] ms fc [false,false,false] 3 7
-- _law_shrunk(_law_rows_here,_law_start): slots 0=_law_rows_here 1=_law_start 2=_law_line 3=_law_marks 4=_law_at 5=_law_many 6=_law_grown 7=_law_to 8=_law_known 9=_law_fresh 10=_law_row 11=_law_key
def fH:S:=#v[.own 2 (.lst #v[.v 1]),.own 3 (.dic false #v[.v 1] #v[.ix (.ix (.v 0) (.v 1)) (.ki 0)]),.set (.n 4) (.ki 0),.whl (.cmp .lt (.v 4) (.bi .len #v[.v 2]))
 #v[.loop (.n 7) (.it (.ix (.ix (.v 0) (.ix (.v 2) (.v 4))) (.ki 1)))
 #v[.ife (.cmp .notin (.v 7) (.v 3))
 #v[.sub 3 (.v 7) (.ix (.ix (.v 0) (.v 7)) (.ki 0)),.app 2 (.v 7)]
 .nil],.aug 4 (.ki 1)],.set (.n 5) (.ki 0),.set (.n 6) (.kb true),.whl (.v 6)
 #v[.own 8 (.dic true .nil .nil),.own 9 (.dic false .nil .nil),.fz [2] (.loop (.n 10) (.it (.v 2))
 #v[.set (.n 11) (.tup #v[.ix (.v 3) (.v 10),.bi .tuple #v[.comp [7] (.n 7) (.it (.ix (.ix (.v 0) (.v 10)) (.ki 1))) .nil (.ix (.v 3) (.v 7))]]),.sub 8 (.v 11) (.mt .get2 (.v 8) #v[.v 11,.bi .len #v[.v 8]]),.sub 9 (.v 10) (.ix (.v 8) (.v 11))]),.set (.n 6) (.cmp .gt (.bi .len #v[.v 8]) (.v 5)),.set (.n 5) (.bi .len #v[.v 8]),.fz [9] (.set (.n 3) (.v 9))],.ret (.call 0 #v[.v 0,.v 2,.v 3])]
noncomputable def ib (ms:Str→Str→Option Bool):Fn:=.self [cf ms] [] ms fH [false,true] 2 12
section
variable {fs:List Fn} {gs:List D} {ms:Str→Str→Option Bool} {M:Mach} {L s:Nat} {o:List Nat} {d:D}
theorem oJ (hM:MOk L M) (hL:L≤1000) (hz:M.length≤100000) (hd:gY d M) (hB:Bfs L M s o) {mk:List (D × D)} {ν:Nat→Nat} (m2:∀ a∈o,D.look mk (nD a)=some (nD (ν a))) (m3:∀ a∈o,∀ b∈o,(ν a=ν b↔Eqv L M a M b)) :
  ∃ F,Form L F∧Eqv L F 0 M s∧F.length≤M.length∧(cf ms).run [d,.lst (o.map nD),.dic false mk]=.ok (.tup (F.map fO),.fr):=by
 have big:=sizeLine_eq
 have ol:=hB.len
 let LL:(List (D × D) × List Nat × Option Sl)→Lc:=fun t=>[some ⟨.bo,d⟩,some ⟨.bo,.lst (o.map nD)⟩,some ⟨.bo,.dic false mk⟩,some ⟨.ow,.dic false t.1⟩,some ⟨.ow,.lst (t.2.1.map nD)⟩,t.2.2,none]
 obtain ⟨⟨names,hs,x5⟩,h1,h2,h3,h6⟩:=gx (body:=fun d l s=>match T.put (.n 5) d l with | some l1=>cF [] [] ms #v[.ife (.cmp .notin (.ix (.v 2) (.v 5)) (.v 3)) #v[.sub 3 (.ix (.v 2) (.v 5)) (.bi .len #v[.v 4]),.app 4 (.v 5)] .nil] l1 s | none=>.no) nD LL
  (fun pr t=>Hds ν pr t.2.1∧Known (fun a=>nD (ν a)) t.2.1 t.1∧(t.2.2=none∨∃ n,t.2.2=some ⟨.fr,nD n⟩)) o (fun pr x r t hx ⟨i1,i2,_⟩=>by
   have hxo:x∈o:=by rw [hx]; exact ao _ ap
   have hsl:=i1.len
   have hpl:pr.length < o.length:=by rw [hx,ae,aw]; omega
   have kz:t.1.length < sizeLine:=by rw [i2.len]; omega
   have hz2:(t.2.1.map nD).length < sizeLine:=by rw [ac]; omega
   have ex:b9 [] [] (.ix (.v 2) (.v 5)) (LL (t.1,t.2.1,some ⟨.fr,nD x⟩)) []=.ok (nD (ν x),.fr,[]):=dB (d:=.dic false mk) (d2:=nD x) (t:=.bo) (t2:=.fr) (s1:=[]) (s2:=[]) rfl rfl (jo (cP _) (m2 x hxo))
   by_cases hc:∃ i,i < t.2.1.length∧ν (t.2.1.getD i 0)=ν x
   ·refine ⟨(t.1,t.2.1,some ⟨.fr,nD x⟩),(b7 ((dG (s1:=[]) (de (t:=.fr) (cV ex (d2:=.dic false t.1) (t2:=.ow) (s2:=[]) rfl ?_))).trans cp)).trans cp,i1.old hc,i2,.inr ⟨x,rfl⟩⟩
    rw [fy (cP _),lq i2 (nD_iff.mpr hc)]
    rfl
   ·have hc2:¬ ∃ i,i < t.2.1.length∧nD (ν (t.2.1.getD i 0))=nD (ν x):=fun q=>hc (nD_iff.mp q)
    refine ⟨(D.put t.1 (nD (ν x)) (nD t.1.length),t.2.1++[x],some ⟨.fr,nD x⟩),(b7 ((gX (s1:=[]) (de (t:=.fr) (cV ex (d2:=.dic false t.1) (t2:=.ow) (s2:=[]) rfl ?_))).trans ((b7 (l1:=LL (D.put t.1 (nD (ν x)) (nD t.1.length),t.2.1,some ⟨.fr,nD x⟩)) (ia (t:=.fr) (t2:=.fr) (s1:=[]) (s2:=[]) (y:=nD t.1.length) (d:=nD (ν x)) ?_ (.inl rfl) rfl ex (.inl rfl) (gw (cP _) kz))).trans ((b7 (app_ok (d:=nD x) (t:=.fr) (s1:=[]) rfl rfl (.inl rfl) hz2)).trans cp)))).trans ?_,i1.new hc,i2.new hc2,.inr ⟨x,rfl⟩⟩
    ·rw [fy (cP _),lp i2 hc2]
     rfl
    ·rw [i2.len]
     simp! [LL]
    ·show R.ok (Out.nx [some ⟨.bo,d⟩,some ⟨.bo,.lst (o.map nD)⟩,some ⟨.bo,.dic false mk⟩,some ⟨.ow,.dic false (D.put t.1 (nD (ν x)) (nD t.1.length))⟩,some ⟨.ow,.lst (t.2.1.map nD++[nD x])⟩,some ⟨.fr,nD x⟩,none] [])=R.ok (Out.nx [some ⟨.bo,d⟩,some ⟨.bo,.lst (o.map nD)⟩,some ⟨.bo,.dic false mk⟩,some ⟨.ow,.dic false (D.put t.1 (nD (ν x)) (nD t.1.length))⟩,some ⟨.ow,.lst ((t.2.1++[x]).map nD)⟩,some ⟨.fr,nD x⟩,none] [])
     rw [eZ]) ([],[],none) ⟨Hds.nil,mr _,.inl rfl⟩
 have h2:Hds ν o hs:=h2
 have h3:Known (fun a=>nD (ν a)) hs names:=h3
 obtain ⟨f1,f2⟩:=wU hM hB m3 h2 (nm:=lR mk names) fun a ha=>⟨(uD h2 m2 h3 a ha).1,(uD h2 m2 h3 a ha).2.1⟩
 have hsl:=h2.len
 have fl:(vy M hs (lR mk names)).length=hs.length:=by unfold vy; rw [ac]
 refine ⟨_,f1,f2,by rw [fl]; omega,cH (s:=[]) rfl ?_⟩
 refine (b7 (l1:=[some ⟨.bo,d⟩,some ⟨.bo,.lst (o.map nD)⟩,some ⟨.bo,.dic false mk⟩,some ⟨.ow,.dic false []⟩,none,none,none]) (s1:=[]) (dD (d:=.dic false []) rfl)).trans ?_
 refine (b7 (l1:=LL ([],[],none)) (s1:=[]) (dD (d:=.lst []) ?_)).trans ?_
 ·simp! [aW]
 refine (b7 ((dA (m4 (t:=.bo) rfl (by intro q; cases q))).trans h1)).trans (cI (fz_eq.trans (cY (t:=.fr) (gu (t:=.nw) (ds:=(vy M hs (lR mk names)).map fO) ?_) rfl)))
 unfold vy
 rw [aU]
 have ow5:oC (fzL (LL (names,hs,x5)) [4]) [5]=true:=by
  rcases h6 with h6 | ⟨n,h6⟩
  ·have h6:x5=none:=h6
   rw [h6]; rfl
  ·have h6:x5=some ⟨.fr,nD n⟩:=h6
   rw [h6]; rfl
 refine iD (ds:=hs) (en:=nD) ow5 (m4 (t:=.fr) rfl (by intro q; cases q)) (fun h hh=>⟨[some ⟨.bo,d⟩,some ⟨.bo,.lst (o.map nD)⟩,some ⟨.bo,.dic false mk⟩,some ⟨.ow,.dic false names⟩,some ⟨.fr,.lst (hs.map nD)⟩,some ⟨.fr,nD h⟩,none],.fr,rfl,?_,.inl rfl⟩) (by omega)
 obtain ⟨i,i1,i2⟩:=f6 hh
 have hho:h∈o:=by rw [← i2]; exact h2.mem i1
 exact uE hM hL hB hd h2 m2 h3 hho (td:=.bo) (tn:=.ow) (tm:=.bo) rfl rfl rfl (fun c=>[some ⟨.bo,d⟩,some ⟨.bo,.lst (o.map nD)⟩,some ⟨.bo,.dic false mk⟩,some ⟨.ow,.dic false names⟩,some ⟨.fr,.lst (hs.map nD)⟩,some ⟨.fr,nD h⟩,some ⟨.fr,nD c⟩]) (fun c=>rfl) (fun c=>rfl) (fun c=>rfl) (fun c=>rfl)

def sv (M:Mach) (μ:Nat→D) (a:Nat):D:=.tup [μ a,.tup ((M.gos a).map μ)]
theorem uF (hM:MOk L M) (hB:Bfs L M s o) {μ:Nat→D} {k:Nat} (hμ:∀ a∈o,∀ b∈o,(μ a=μ b↔ln L M M k a b)):∀ a∈o,∀ b∈o,(sv M μ a=sv M μ b↔ln L M M (k+1) a b):=fun a ha b hb=>by
 have la:=(hM a (hB.lt a ha)).2.1
 have lb:=(hM b (hB.lt b hb)).2.1
 have get:∀ (X:List Nat) (c:Nat) (hc:c < X.length),(X.map μ)[c]'(by rw [ac]; exact hc)=μ (X.getD c 0):=fun X c hc=>by
  rw [List.getElem_map,List.getD,ak hc]
  rfl
 constructor
 ·intro e
  have e:=D.tup.inj e
  injection e with e1 e2
  injection e2 with e2 _
  have e2:=D.tup.inj e2
  refine ⟨qV ((hμ a ha b hb).mp e1),fun c hc=>(hμ _ (hB.cl a ha c hc) _ (hB.cl b hb c hc)).mp ?_⟩
  show μ ((M.gos a).getD c 0)=μ ((M.gos b).getD c 0)
  rw [← get _ _ (by omega),← get _ _ (by omega)]
  exact List.getElem_of_eq e2 _
 ·intro e
  have e1:=(hμ a ha b hb).mpr (iG e)
  have e2:(M.gos a).map μ=(M.gos b).map μ:=by
   apply List.ext_getElem (by rw [ac,ac,la,lb])
   intro c h1 h2
   rw [ac] at h1 h2
   rw [get _ _ h1,get _ _ h2]
   exact (hμ _ (hB.cl a ha c (by omega)) _ (hB.cl b hb c (by omega))).mpr (e.2 c (by omega))
  unfold sv
  rw [e1,e2]
theorem wZ {μ:Nat→D} {a:Nat} (h:D.kd 1 (μ a)) (hg:∀ c∈M.gos a,D.kd 1 (μ c)):D.isKey true (sv M μ a)=true:=by
 refine wY (n:=3) (qb fun x hx=>?_) (by decide)
 rcases aB.mp hx with rfl | hx
 ·obtain ⟨k,h1,h2⟩:=h
  exact ⟨k,h1,by omega⟩
 rcases aB.mp hx with rfl | hx
 ·refine qb fun y hy=>?_
  obtain ⟨c,hc,rfl⟩:=aQ.mp hy
  exact hg c hc
 ·cases hx
theorem Known.again {κ:Nat→D} {hs:List Nat} {kn:List (D × D)} {o:List Nat} (h:Known κ hs kn) (hH:Hds κ o hs) {x i:Nat} (hi:i < hs.length) (hx:κ (hs.getD i 0)=κ x):Known κ hs (D.put kn (κ x) (nD i)) where
 len:=by
  rw [jI,aj (lq h ⟨i,hi,hx⟩),h.len]
 lk:=fun j hj=>by
  rw [fG]
  by_cases e:κ (hs.getD j 0)=κ x
  ·rw [aj e]
   have:=hH.ne j i hj hi (e.trans hx.symm)
   rw [this]
  ·rw [aq e]
   exact h.lk j hj
 on:=fun d hd=>by
  rw [fG] at hd
  by_cases e:d=κ x
  ·exact ⟨i,hi,e.trans hx.symm⟩
  ·rw [aq e] at hd
   exact h.on d hd

theorem ni (hM:MOk L M) (hL:L≤1000) (hz:M.length≤100000) (hd:gY d M) (hB:Bfs L M s o) {mk:List (D × D)} {μ:Nat→D} (hl:∀ a∈o,D.look mk (nD a)=some (μ a)) (hk:∀ a∈o,D.kd 1 (μ a)) {tm:Tag} {at_ many:Nat} {g:Bool} {x7:Option Nat} (x10 x11:Option Sl) :
  ∃ hs mk1 ν kn y10 y11,Nums (sv M μ) o hs mk1 ν∧kn.length=hs.length∧cF [cf ms] [] ms (.loop (.n 10) (.it (.v 2)) #v[.set (.n 11) (.tup #v[.ix (.v 3) (.v 10),.bi .tuple #v[.comp [7] (.n 7) (.it (.ix (.ix (.v 0) (.v 10)) (.ki 1))) .nil (.ix (.v 3) (.v 7))]]),.sub 8 (.v 11) (.mt .get2 (.v 8) #v[.v 11,.bi .len #v[.v 8]]),.sub 9 (.v 10) (.ix (.v 8) (.v 11))])
   [some ⟨.bo,d⟩,some ⟨.fr,nD s⟩,some ⟨.fr,.lst (o.map nD)⟩,some ⟨tm,.dic false mk⟩,some ⟨.fr,nD at_⟩,some ⟨.fr,nD many⟩,some ⟨.fr,.bl g⟩,x7.map fun n=>⟨.fr,nD n⟩,some ⟨.ow,.dic true []⟩,some ⟨.ow,.dic false []⟩,x10,x11] [] =
   .ok (.nx [some ⟨.bo,d⟩,some ⟨.fr,nD s⟩,some ⟨.fr,.lst (o.map nD)⟩,some ⟨tm,.dic false mk⟩,some ⟨.fr,nD at_⟩,some ⟨.fr,nD many⟩,some ⟨.fr,.bl g⟩,x7.map fun n=>⟨.fr,nD n⟩,some ⟨.ow,.dic true kn⟩,some ⟨.ow,.dic false mk1⟩,y10,y11] []):=by
 have big:=sizeLine_eq
 have ol:=hB.len
 let κ:Nat→D:=sv M μ
 let LL:(List (D × D) × List (D × D) × Option Sl × Option Sl)→Lc:=fun t=>[some ⟨.bo,d⟩,some ⟨.fr,nD s⟩,some ⟨.fr,.lst (o.map nD)⟩,some ⟨tm,.dic false mk⟩,some ⟨.fr,nD at_⟩,some ⟨.fr,nD many⟩,some ⟨.fr,.bl g⟩,x7.map fun n=>⟨.fr,nD n⟩,some ⟨.ow,.dic true t.1⟩,some ⟨.ow,.dic false t.2.1⟩,t.2.2.1,t.2.2.2]
 obtain ⟨t',h1,hs,h2,h3,h4,h5⟩:=gx (body:=fun d l s=>match T.put (.n 10) d l with | some l1=>cF [cf ms] [] ms #v[.set (.n 11) (.tup #v[.ix (.v 3) (.v 10),.bi .tuple #v[.comp [7] (.n 7) (.it (.ix (.ix (.v 0) (.v 10)) (.ki 1))) .nil (.ix (.v 3) (.v 7))]]),.sub 8 (.v 11) (.mt .get2 (.v 8) #v[.v 11,.bi .len #v[.v 8]]),.sub 9 (.v 10) (.ix (.v 8) (.v 11))] l1 s | none=>.no) nD LL
  (fun pr t=>∃ hs,Hds κ pr hs∧Known κ hs t.1∧(∀ a∈pr,∃ i,i < hs.length∧κ (hs.getD i 0)=κ a∧D.look t.2.1 (nD a)=some (nD i))∧t.2.1.length≤pr.length) o (fun pr x r t hx ⟨hs,i1,i2,i3,i4⟩=>by
   have hxo:x∈o:=by rw [hx]; exact ao _ ap
   have hxl:=hB.lt x hxo
   have hgl:=(hM x hxl).2.1
   have hsl:=i1.len
   have hpl:pr.length < o.length:=by rw [hx,ae,aw]; omega
   have kz:t.1.length < sizeLine:=by rw [i2.len]; omega
   have mz:t.2.1.length < sizeLine:=by omega
   have hky:D.isKey true (κ x)=true:=wZ (hk x hxo) fun c hc=>hk c (qe hM hB hxo c hc)
   have e11:cF [cf ms] [] ms (.set (.n 11) (.tup #v[.ix (.v 3) (.v 10),.bi .tuple #v[.comp [7] (.n 7) (.it (.ix (.ix (.v 0) (.v 10)) (.ki 1))) .nil (.ix (.v 3) (.v 7))]])) (LL (t.1,t.2.1,some ⟨.fr,nD x⟩,t.2.2.2)) []=.ok (.nx (LL (t.1,t.2.1,some ⟨.fr,nD x⟩,some ⟨.fr,κ x⟩)) []):=by
    refine cD (t:=.fr) (d:=κ x) (kQ (dB (d:=.dic false mk) (d2:=nD x) (t:=tm) (t2:=.fr) (s1:=[]) (s2:=[]) rfl rfl (jo (cP _) (hl x hxo))) (gu (t:=.nw) (ds:=(M.gos x).map μ) ?_)) (.inl rfl) rfl
    have ow7:oC (LL (t.1,t.2.1,some ⟨.fr,nD x⟩,t.2.2.2)) [7]=true:=by cases x7 <;> rfl
    refine iD (ds:=M.gos x) (en:=nD) ow7 (iE (t:=.fr) (ng hd hxl (t:=.bo) (t2:=.fr) rfl rfl) (by intro q; cases q)) (fun c hc=>⟨[some ⟨.bo,d⟩,some ⟨.fr,nD s⟩,some ⟨.fr,.lst (o.map nD)⟩,some ⟨tm,.dic false mk⟩,some ⟨.fr,nD at_⟩,some ⟨.fr,nD many⟩,some ⟨.fr,.bl g⟩,some ⟨.fr,nD c⟩,some ⟨.ow,.dic true t.1⟩,some ⟨.ow,.dic false t.2.1⟩,some ⟨.fr,nD x⟩,t.2.2.2],.fr,rfl,?_,.inl rfl⟩) (by omega)
    exact dB (d:=.dic false mk) (d2:=nD c) (t:=tm) (t2:=.fr) (s1:=[]) (s2:=[]) rfl rfl (jo (cP _) (hl c (qe hM hB hxo c hc)))
   have get:∀ v,(D.look t.1 (κ x)).getD (nD t.1.length)=v→b9 [cf ms] [] (.mt .get2 (.v 8) #v[.v 11,.bi .len #v[.v 8]]) (LL (t.1,t.2.1,some ⟨.fr,nD x⟩,some ⟨.fr,κ x⟩)) []=.ok (v,.fr,[]):=fun v hv=>by
    show (jp [cf ms] [] #v[.v 11,.bi .len #v[.v 8]] (LL (t.1,t.2.1,some ⟨.fr,nD x⟩,some ⟨.fr,κ x⟩)) []).bind (fun (ds,s2)=>MI.run .get2 (.dic true t.1) ds s2)=_
    have e:jp [cf ms] [] #v[.v 11,.bi .len #v[.v 8]] (LL (t.1,t.2.1,some ⟨.fr,nD x⟩,some ⟨.fr,κ x⟩)) []=.ok ([κ x,nD t.1.length],[]):=by
     simp! [LL]
    rw [e,cJ]
    show (if D.isKey true (κ x)=true then cr ((D.look t.1 (κ x)).getD (nD t.1.length)) [] else .no)=_
    rw [aj hky,hv]
    rfl
   have fin:∀ (i:Nat) (hs':List Nat),(D.look t.1 (κ x)).getD (nD t.1.length)=nD i→Hds κ (pr++[x]) hs'→Known κ hs' (D.put t.1 (κ x) (nD i))→i < hs'.length→κ (hs'.getD i 0)=κ x→(∀ a∈pr,∃ i,i < hs'.length∧κ (hs'.getD i 0)=κ a∧D.look t.2.1 (nD a)=some (nD i)) →
     ∃ t',cF [cf ms] [] ms #v[.set (.n 11) (.tup #v[.ix (.v 3) (.v 10),.bi .tuple #v[.comp [7] (.n 7) (.it (.ix (.ix (.v 0) (.v 10)) (.ki 1))) .nil (.ix (.v 3) (.v 7))]]),.sub 8 (.v 11) (.mt .get2 (.v 8) #v[.v 11,.bi .len #v[.v 8]]),.sub 9 (.v 10) (.ix (.v 8) (.v 11))] (LL (t.1,t.2.1,some ⟨.fr,nD x⟩,t.2.2.2)) []=.ok (.nx (LL t') []) ∧
      ∃ hs,Hds κ (pr++[x]) hs∧Known κ hs t'.1∧(∀ a∈pr++[x],∃ i,i < hs.length∧κ (hs.getD i 0)=κ a∧D.look t'.2.1 (nD a)=some (nD i))∧t'.2.1.length≤(pr++[x]).length:=fun i hs' g1 g2 g3 g4 g5 g6=>by
    have lk:=g3.lk i g4
    rw [g5] at lk
    refine ⟨(D.put t.1 (κ x) (nD i),D.put t.2.1 (nD x) (nD i),some ⟨.fr,nD x⟩,some ⟨.fr,κ x⟩),(b7 e11).trans ((b7 (ia (t:=.fr) (t2:=.fr) (s1:=[]) (s2:=[]) (y:=nD i) (d:=κ x) (get _ g1) (.inl rfl) rfl rfl (.inl rfl) (gw hky kz))).trans ((b7 (ia (t:=.fr) (t2:=.fr) (s1:=[]) (s2:=[]) (y:=nD i) (d:=nD x) (dB (d:=.dic true (D.put t.1 (κ x) (nD i))) (d2:=κ x) (t:=.ow) (t2:=.fr) (s1:=[]) (s2:=[]) rfl rfl (jo hky lk)) (.inl rfl) rfl rfl (.inl rfl) (gw (cP _) mz))).trans cp)),hs',g2,g3,fun a ha=>?_,?_⟩
    ·show ∃ i,i < hs'.length∧κ (hs'.getD i 0)=κ a∧D.look (D.put t.2.1 (nD x) (nD _)) (nD a)=some (nD i)
     rw [fG]
     by_cases e:a=x
     ·subst e
      exact ⟨i,g4,g5,aj rfl⟩
     ·rcases aR.mp ha with q | q
      ·rw [aq fun q=>e (gv q)]
       exact g6 a q
      ·exact absurd (ah.mp q) e
    ·show (D.put t.2.1 (nD x) (nD i)).length≤_
     have:=uz t.2.1 (nD x) (nD i)
     rw [ae,aO]
     omega
   by_cases hc:∃ i,i < hs.length∧κ (hs.getD i 0)=κ x
   ·have hc':=hc
    obtain ⟨i,c1,c2⟩:=hc
    have lkx:D.look t.1 (κ x)=some (nD i):=by rw [← c2]; exact i2.lk i c1
    exact fin i hs (by rw [lkx]; rfl) (i1.old hc') (i2.again i1 c1 c2) c1 c2 i3
   ·have lkx:=lp i2 hc
    refine fin hs.length (hs++[x]) (by rw [lkx,← i2.len]; rfl) (i1.new hc) (by have:=i2.new hc; rw [i2.len] at this; exact this) (by simp) (by rw [cy,aq (bU _),aj rfl]) fun a ha=>?_
    obtain ⟨i,z1,z2,z3⟩:=i3 a ha
    exact ⟨i,by rw [ae]; omega,by rw [cy,aj z1]; exact z2,z3⟩) ([],[],x10,x11) ⟨[],Hds.nil,mr _,(by intro a ha; cases ha),ax _⟩
 let ν:Nat→Nat:=fun a=>match D.look t'.2.1 (nD a) with | some (.int i)=>i.toNat | _=>0
 have hν:∀ a∈o,∃ i,i < hs.length∧κ (hs.getD i 0)=κ a∧D.look t'.2.1 (nD a)=some (nD i)∧ν a=i:=fun a ha=>by
  obtain ⟨i,z1,z2,z3⟩:=h4 a ha
  refine ⟨i,z1,z2,z3,?_⟩
  show (match D.look t'.2.1 (nD a) with | some (.int i)=>i.toNat | _=>0)=i
  rw [z3]
  exact aT i
 refine ⟨hs,t'.2.1,ν,t'.1,t'.2.2.1,t'.2.2.2,⟨h2,fun a ha=>?_,fun a ha=>?_,fun a ha=>?_,h5⟩,h3.len,(dA (m4 (t:=.fr) rfl (by intro q; cases q))).trans h1⟩
 ·obtain ⟨i,z1,z2,z3,z4⟩:=hν a ha
  rw [z4]
  exact z3
 ·obtain ⟨i,z1,z2,z3,z4⟩:=hν a ha
  rw [z4]
  exact z1
 ·obtain ⟨i,z1,z2,z3,z4⟩:=hν a ha
  rw [z4]
  exact z2
end
section
variable {fs:List Fn} {gs:List D} {ms:Str→Str→Option Bool} {M:Mach} {L s:Nat} {o:List Nat} {d:D}
theorem oK (hM:MOk L M) (hz:M.length≤100000) (hd:gY d M) (hs:s < M.length):∃ o kvs at_ x7,Bfs L M s o∧SD kvs o (fun a=>.tup ((M.fst a).map nD)) ∧
  cF [cf ms] [] ms (.whl (.cmp .lt (.v 4) (.bi .len #v[.v 2])) #v[.loop (.n 7) (.it (.ix (.ix (.v 0) (.ix (.v 2) (.v 4))) (.ki 1))) #v[.ife (.cmp .notin (.v 7) (.v 3)) #v[.sub 3 (.v 7) (.ix (.ix (.v 0) (.v 7)) (.ki 0)),.app 2 (.v 7)] .nil],.aug 4 (.ki 1)])
   [some ⟨.bo,d⟩,some ⟨.fr,nD s⟩,some ⟨.ow,.lst [nD s]⟩,some ⟨.ow,.dic false [(nD s,.tup ((M.fst s).map nD))]⟩,some ⟨.fr,nD 0⟩,none,none,none,none,none,none,none] [] =
   .ok (.nx [some ⟨.bo,d⟩,some ⟨.fr,nD s⟩,some ⟨.ow,.lst (o.map nD)⟩,some ⟨.ow,.dic false kvs⟩,some ⟨.fr,nD at_⟩,none,none,(x7:Option Nat).map fun n=>⟨.fr,nD n⟩,none,none,none,none] []):=by
 have big:=sizeLine_eq
 let g:Nat→D:=fun a=>.tup ((M.fst a).map nD)
 let LL:(List (D × D) × List Nat × Nat × Option Nat)→Lc:=fun t=>[some ⟨.bo,d⟩,some ⟨.fr,nD s⟩,some ⟨.ow,.lst (t.2.1.map nD)⟩,some ⟨.ow,.dic false t.1⟩,some ⟨.fr,nD t.2.2.1⟩,none,none,t.2.2.2.map fun n=>⟨.fr,nD n⟩,none,none,none,none]
 have hlen:∀ t,b9 [cf ms] [] (.bi .len #v[.v 2]) (LL t) []=.ok (.int (t.2.1.length:Int),.fr,[]):=fun t=>by
  simp! [LL]
 have hin:∀ t:(List (D × D) × List Nat × Nat × Option Nat),BInv L M s t.2.1 t.2.2.1 0→SD t.1 t.2.1 g→t.2.2.1 < t.2.1.length→∃ t',cF [cf ms] [] ms (.loop (.n 7) (.it (.ix (.ix (.v 0) (.ix (.v 2) (.v 4))) (.ki 1))) #v[.ife (.cmp .notin (.v 7) (.v 3)) #v[.sub 3 (.v 7) (.ix (.ix (.v 0) (.v 7)) (.ki 0)),.app 2 (.v 7)] .nil]) (LL t) []=.ok (.nx (LL t') [])∧BInv L M s t'.2.1 t'.2.2.1 L∧SD t'.1 t'.2.1 g∧t'.2.2.1=t.2.2.1∧t'.2.2.1 < t'.2.1.length:=fun t hB hS ha=>by
  have hao:t.2.1.getD t.2.2.1 0∈t.2.1:=dH ha
  generalize hA:t.2.1.getD t.2.2.1 0=A at hao
  have hAl:=hB.lt _ hao
  have hgl:=(hM A hAl).2.1
  have hit:gM [cf ms] [] (.it (.ix (.ix (.v 0) (.ix (.v 2) (.v 4))) (.ki 1))) (LL t) []=.ok ((M.gos A).map nD,[]):=by
   refine iE (t:=.fr) (ng hd hAl (t:=.bo) (t2:=.fr) rfl (dB (d:=.lst (t.2.1.map nD)) (d2:=nD t.2.2.1) (t:=.ow) (t2:=.fr) (s1:=[]) (s2:=[]) rfl rfl ?_)) (by intro q; cases q)
   rw [← hA]
   exact iW ha []
  obtain ⟨t',h1,h2,h3,h4,h5⟩:=gx (body:=fun d l s=>match T.put (.n 7) d l with | some l1=>cF [cf ms] [] ms #v[.ife (.cmp .notin (.v 7) (.v 3)) #v[.sub 3 (.v 7) (.ix (.ix (.v 0) (.v 7)) (.ki 0)),.app 2 (.v 7)] .nil] l1 s | none=>.no)
   nD LL (fun pr t'=>BInv L M s t'.2.1 t.2.2.1 pr.length∧SD t'.1 t'.2.1 g∧t'.2.2.1=t.2.2.1∧t'.2.1.getD t.2.2.1 0=A∧t.2.2.1 < t'.2.1.length) (M.gos A) (fun pr x r t' hx ⟨i1,i2,i3,i4,i5⟩=>by
    have hpl:pr.length < L:=by
     have:=bD List.length hx
     rw [ae,aw] at this
     omega
    have ex:M.nx A pr.length=x:=by
     show (M.gos A).getD pr.length 0=x
     rw [hx,List.getD,aV (ax _),bO]
     rfl
    have hlp:(pr++[x]).length=pr.length+1:=by rw [ae,aO]
    rw [hlp]
    have ex2:M.nx (t'.2.1.getD t.2.2.1 0) pr.length=x:=by rw [i4]; exact ex
    have hxl:x < M.length:=by rw [← ex]; exact hM.nx_lt hAl hpl
    have l1:=i1.len
    by_cases h:x∈t'.2.1
    ·refine ⟨(t'.1,t'.2.1,t'.2.2.1,some x),(b7 ((dG (s1:=[]) (de (t:=.fr) (cV (d:=nD x) (d2:=.dic false t'.1) (t:=.fr) (t2:=.ow) (s1:=[]) (s2:=[]) rfl rfl ?_))).trans cp)).trans cp,i1.old hpl (by rw [ex2]; exact h),i2,i3,i4,i5⟩
     rw [fy (cP _),i2.1,aj h]
     rfl
    ·have hk1:t'.1.length < sizeLine:=by have:=i2.2; omega
     have hk2:(t'.2.1.map nD).length < sizeLine:=by rw [ac]; omega
     refine ⟨(D.put t'.1 (nD x) (g x),t'.2.1++[x],t'.2.2.1,some x),(b7 ((gX (s1:=[]) (de (t:=.fr) (cV (d:=nD x) (d2:=.dic false t'.1) (t:=.fr) (t2:=.ow) (s1:=[]) (s2:=[]) rfl rfl ?_))).trans ((b7 (ia (t:=.fr) (t2:=.fr) (s1:=[]) (s2:=[]) (y:=g x) (d:=nD x) (j8 hd hxl (t:=.bo) (t2:=.fr) rfl rfl) (.inl rfl) rfl rfl (.inl rfl) (gw (cP _) hk1))).trans ((b7 (app_ok (d:=nD x) (t:=.fr) (s1:=[]) rfl rfl (.inl rfl) hk2)).trans cp)))).trans ?_,?_,i2.put,i3,?_,by rw [ae]; omega⟩
     ·rw [fy (cP _),i2.1,aq h]
      rfl
     ·show R.ok (Out.nx [some ⟨.bo,d⟩,some ⟨.fr,nD s⟩,some ⟨.ow,.lst (t'.2.1.map nD++[nD x])⟩,some ⟨.ow,.dic false (D.put t'.1 (nD x) (g x))⟩,some ⟨.fr,nD t'.2.2.1⟩,none,none,some ⟨.fr,nD x⟩,none,none,none,none] [])=R.ok (Out.nx [some ⟨.bo,d⟩,some ⟨.fr,nD s⟩,some ⟨.ow,.lst ((t'.2.1++[x]).map nD)⟩,some ⟨.ow,.dic false (D.put t'.1 (nD x) (g x))⟩,some ⟨.fr,nD t'.2.2.1⟩,none,none,some ⟨.fr,nD x⟩,none,none,none,none] [])
      rw [eZ]
     ·have:=i1.new hM i5 hpl (by rw [ex2]; exact h)
      rw [ex2] at this
      exact this
     ·rw [cy,aj i5]
      exact i4) t ⟨hB,hS,rfl,hA,ha⟩
  refine ⟨t',(dA hit).trans h1,?_,h3,h4,by rw [h4]; exact h5.2⟩
  rw [h4]
  rw [hgl] at h2
  exact h2
 have hw:=uB (cond:=dM [cf ms] [] (.cmp .lt (.v 4) (.bi .len #v[.v 2]))) (body:=cF [cf ms] [] ms #v[.loop (.n 7) (.it (.ix (.ix (.v 0) (.ix (.v 2) (.v 4))) (.ki 1))) #v[.ife (.cmp .notin (.v 7) (.v 3)) #v[.sub 3 (.v 7) (.ix (.ix (.v 0) (.v 7)) (.ki 0)),.app 2 (.v 7)] .nil],.aug 4 (.ki 1)]) LL (fun t=>decide (t.2.2.1 < t.2.1.length)) (fun t=>BInv L M s t.2.1 t.2.2.1 0∧SD t.1 t.2.1 g) (fun t=>M.length - t.2.2.1) ⟨"",none⟩ False
  (fun t ht=>by
   refine de (t:=.fr) (cV (d:=nD t.2.2.1) (t:=.fr) (s1:=[]) rfl (hlen t) (oH ?_))
   exact decide_eq_decide.mpr (by omega))
  (fun t ⟨hB,hS⟩ hc=>by
   have hc:t.2.2.1 < t.2.1.length:=bg hc
   obtain ⟨t',h1,h2,h3,h4,h5⟩:=hin t hB hS hc
   have l1:=h2.len
   refine .inl ⟨(t'.1,t'.2.1,t'.2.2.1+1,t'.2.2.2),(b7 h1).trans ((b7 (s1:=[]) (l1:=LL (t'.1,t'.2.1,t'.2.2.1+1,t'.2.2.2)) ?_).trans cp),⟨h2.row h5,h3⟩,?_⟩
   ·simp! [LL,nD,Int.natCast_add,Int.natCast_one]
   ·show M.length - (t'.2.2.1+1) < M.length - t.2.2.1
    omega)
  ([(nD s,g s)],[s],0,none) ⟨BInv.start hs,SD.one s g⟩
 rcases hw with ⟨t',h1,⟨h2,h3⟩,h4⟩ | ⟨_,h⟩
 ·have h4:¬ t'.2.2.1 < t'.2.1.length:=of_decide_eq_false h4
  have h5:=h2.al
  exact ⟨t'.2.1,t'.1,t'.2.2.1,t'.2.2.2,h2.fin (by omega),h3,whl_eq.trans h1⟩
 ·exact h.elim
theorem qf (hM:MOk L M) (hL:L≤1000) (hz:M.length≤100000) (hd:gY d M) (hs:s < M.length):∃ F,Form L F∧Eqv L F 0 M s∧F.length≤M.length∧(ib ms).run [d,nD s]=.ok (.tup (F.map fO),.fr):=by
 have big:=sizeLine_eq
 obtain ⟨o,kvs,at_,x7,hB,hS,c1⟩:=oK (ms:=ms) hM hz hd hs
 have ol:=hB.len
 have hso:s∈o:=bE hB.hd
 let LL:(Bool × List (D × D) × Nat × Bool × Option Sl × Option Sl × Option Sl × Option Sl)→Lc:=fun t=>[some ⟨.bo,d⟩,some ⟨.fr,nD s⟩,some ⟨if t.1=true then .ow else .fr,.lst (o.map nD)⟩,some ⟨if t.1=true then .ow else .fr,.dic false t.2.1⟩,some ⟨.fr,nD at_⟩,some ⟨.fr,nD t.2.2.1⟩,some ⟨.fr,.bl t.2.2.2.1⟩,x7.map fun n=>⟨.fr,nD n⟩,t.2.2.2.2.1,t.2.2.2.2.2.1,t.2.2.2.2.2.2.1,t.2.2.2.2.2.2.2]
 let I:(Bool × List (D × D) × Nat × Bool × Option Sl × Option Sl × Option Sl × Option Sl)→Prop:=fun t=>∃ (k:Nat) (μ:Nat→D) (hs:List Nat),(∀ a∈o,D.look t.2.1 (nD a)=some (μ a))∧(∀ a∈o,D.kd 1 (μ a))∧(∀ a∈o,∀ b∈o,(μ a=μ b↔ln L M M k a b))∧Hds μ o hs∧(t.2.2.1=hs.length∨t.2.2.1=0) ∧
  (t.2.2.2.1=false→∃ ν:Nat→Nat,(∀ a∈o,μ a=nD (ν a))∧∀ a∈o,∀ b∈o,(ν a=ν b↔Eqv L M a M b))
 have hμ0:∀ a∈o,D.look kvs (nD a)=some (.tup ((M.fst a).map nD)):=fun a ha=>by rw [hS.1,aj ha]
 obtain ⟨hs0,H0⟩:=Aq (fun a=>D.tup ((M.fst a).map nD)) o
 have hw:=uB (cond:=dM [cf ms] [] (.v 6)) (body:=cF [cf ms] [] ms #v[.own 8 (.dic true .nil .nil),.own 9 (.dic false .nil .nil),.fz [2] (.loop (.n 10) (.it (.v 2)) #v[.set (.n 11) (.tup #v[.ix (.v 3) (.v 10),.bi .tuple #v[.comp [7] (.n 7) (.it (.ix (.ix (.v 0) (.v 10)) (.ki 1))) .nil (.ix (.v 3) (.v 7))]]),.sub 8 (.v 11) (.mt .get2 (.v 8) #v[.v 11,.bi .len #v[.v 8]]),.sub 9 (.v 10) (.ix (.v 8) (.v 11))]),.set (.n 6) (.cmp .gt (.bi .len #v[.v 8]) (.v 5)),.set (.n 5) (.bi .len #v[.v 8]),.fz [9] (.set (.n 3) (.v 9))]) LL (fun t=>t.2.2.2.1) I (fun t=>if t.2.2.2.1=true then o.length+1 - t.2.2.1 else 0) ⟨"",none⟩ False
  (fun t _=>de (t:=.fr) rfl)
  (fun t ⟨k,μ,hs,i1,i2,i3,i4,i5,i6⟩ hc=>by
   have hc:t.2.2.2.1=true:=hc
   obtain ⟨hs1,mk1,ν,kn,y10,y11,N,kl,c2⟩:=ni (ms:=ms) (s:=s) hM hL hz hd hB i1 i2 (tm:=if t.1=true then .ow else .fr) (at_:=at_) (many:=t.2.2.1) (g:=t.2.2.2.1) (x7:=x7) t.2.2.2.2.2.2.1 t.2.2.2.2.2.2.2
   have hν:∀ a∈o,∀ b∈o,(ν a=ν b↔ln L M M (k+1) a b):=fun a ha b hb=>(N.iff a ha b hb).trans (uF hM hB i3 a ha b hb)
   have fine:∀ a∈o,∀ b∈o,ν a=ν b→μ a=μ b:=fun a ha b hb e=>(i3 a ha b hb).mpr (iG ((hν a ha b hb).mp e))
   have hle:=i4.le N.hds fine
   have hl1:=N.hd.len
   have hpos:0 < hs1.length:=Nat.lt_of_le_of_lt (aW _) (N.lt s hso)
   have ekn:∀ l:Lc,l[8]?=some (some ⟨.ow,.dic true kn⟩)→b9 [cf ms] [] (.bi .len #v[.v 8]) l []=.ok (nD hs1.length,.fr,[]):=fun l hl=>by
    have e:b9 [cf ms] [] (.v 8) l []=.ok (.dic true kn,.ow,[]):=by
     show (match l[8]? with | some (some ⟨k,d⟩)=>R.ok (d,k,[]) | _=>.no)=_
     rw [hl]
    show (fE [cf ms] [] #v[.v 8] [] l []).bind _=_
    rw [cw e (.inl rfl) rfl,cJ]
    show cr (.int (kn.length:Int)) []=_
    rw [kl]
    rfl
   refine .inl ⟨(false,mk1,hs1.length,decide (t.2.2.1 < hs1.length),some ⟨.ow,.dic true kn⟩,some ⟨.fr,.dic false mk1⟩,y10,y11),?_,⟨k+1,fun a=>nD (ν a),hs1,N.lk,fun a _=>uA 1 _,fun a ha b hb=>⟨fun e=>(hν a ha b hb).mp (gv e),fun e=>by show nD (ν a)=nD (ν b); rw [(hν a ha b hb).mpr e]⟩,N.hds.congr fun a _ b _=>⟨fun e=>by show nD (ν a)=nD (ν b); rw [e],fun e=>gv e⟩,.inl rfl,fun hg=>⟨ν,fun _ _=>rfl,?_⟩⟩,?_⟩
   ·have f2:fzL ((((LL t).set 8 (some ⟨.ow,.dic true []⟩)).set 9 (some ⟨.ow,.dic false []⟩))) [2]=[some ⟨.bo,d⟩,some ⟨.fr,nD s⟩,some ⟨.fr,.lst (o.map nD)⟩,some ⟨if t.1=true then .ow else .fr,.dic false t.2.1⟩,some ⟨.fr,nD at_⟩,some ⟨.fr,nD t.2.2.1⟩,some ⟨.fr,.bl t.2.2.2.1⟩,x7.map fun n=>⟨.fr,nD n⟩,some ⟨.ow,.dic true []⟩,some ⟨.ow,.dic false []⟩,t.2.2.2.2.2.2.1,t.2.2.2.2.2.2.2]:=by
     obtain ⟨b,r⟩:=t
     cases b <;> rfl
    refine (b7 (dD (d:=.dic true []) rfl)).trans ((b7 (dD (d:=.dic false []) rfl)).trans ((b7 (fz_eq.trans ((bD (fun l=>cF [cf ms] [] ms _ l []) f2).trans c2))).trans ?_))
    refine (b7 (s1:=[]) (cD (t:=.fr) (d:=.bl (decide (t.2.2.1 < hs1.length))) (cV (ekn _ rfl) (d2:=nD t.2.2.1) (t2:=.fr) (s2:=[]) rfl (qW ?_)) (.inl rfl) rfl)).trans ?_
    ·exact decide_eq_decide.mpr (by omega)
    refine (b7 (s1:=[]) (cD (t:=.fr) (ekn _ rfl) (.inl rfl) rfl)).trans ?_
    exact (b7 (fz_eq.trans (cD (t:=.fr) rfl (.inl rfl) rfl))).trans cp
   ·have hg:¬ t.2.2.1 < hs1.length:=of_decide_eq_false hg
    rcases i5 with i5 | i5
    ·have sm:=i4.same N.hds fine (by omega)
     have st:=wV hB.cl fun a ha b hb e=>(hν a ha b hb).mp (sm a ha b hb ((i3 a ha b hb).mpr e))
     exact fun a ha b hb=>⟨fun e=>st a ha b hb (iG ((hν a ha b hb).mp e)),fun e=>(hν a ha b hb).mpr (e (k+1))⟩
    ·omega
   ·show (if decide (t.2.2.1 < hs1.length)=true then o.length+1 - hs1.length else 0) < if t.2.2.2.1=true then o.length+1 - t.2.2.1 else 0
    rw [aj hc]
    have hsl:=i4.len
    split
    ·rename_i z
     have:=bg z
     omega
    ·rcases i5 with i5 | i5 <;> omega)
  (true,kvs,0,true,none,none,none,none) ⟨0,fun a=>.tup ((M.fst a).map nD),hs0,hμ0,fun a _=>wX (n:=0) (fun n:Nat=>(n:Int)) _,fun a _ b _=>uC a b,H0,.inr rfl,fun h=>by cases h⟩
 rcases hw with ⟨t',w1,⟨k,μ,hs,i1,_,_,_,_,i6⟩,w2⟩ | ⟨_,h⟩
 ·obtain ⟨ν,n1,n2⟩:=i6 w2
  obtain ⟨F,f1,f2,f3,c3⟩:=oJ (ms:=ms) hM hL hz hd hB (fun a ha=>by rw [i1 a ha,n1 a ha]) n2
  refine ⟨F,f1,f2,f3,cH (s:=[]) rfl ?_⟩
  have hfst:=j8 (fs:=[cf ms]) (gs:=[]) (a:=.v 0) (b:=.v 1) (l:=[some ⟨.bo,d⟩,some ⟨.fr,nD s⟩,some ⟨.ow,.lst [nD s]⟩,none,none,none,none,none,none,none,none,none]) hd ‹s < M.length› (t:=.bo) (t2:=.fr) rfl rfl
  refine (b7 (l1:=[some ⟨.bo,d⟩,some ⟨.fr,nD s⟩,some ⟨.ow,.lst [nD s]⟩,none,none,none,none,none,none,none,none,none]) (s1:=[]) (dD (d:=.lst [nD s]) ?_)).trans ?_
  ·have:1≤sizeLine:=by omega
   simp! [this]
  refine (b7 (l1:=[some ⟨.bo,d⟩,some ⟨.fr,nD s⟩,some ⟨.ow,.lst [nD s]⟩,some ⟨.ow,.dic false [(nD s,.tup ((M.fst s).map nD))]⟩,none,none,none,none,none,none,none,none]) (s1:=[]) (dD (d:=.dic false [(nD s,.tup ((M.fst s).map nD))]) ?_)).trans ?_
  ·show R.noEr (cg (b9 [cf ms] [] (.v 1) _ []) fun x s1=>cg (b9 [cf ms] [] (.ix (.ix (.v 0) (.v 1)) (.ki 0)) _ s1) fun y s2=>if D.isKey false x=true then dW (.dic false [(x,y)]) s2 else .no)=_
   show R.noEr (cg (.ok (nD s,.fr,[])) fun x s1=>cg (b9 [cf ms] [] (.ix (.ix (.v 0) (.v 1)) (.ki 0)) _ s1) fun y s2=>if D.isKey false x=true then dW (.dic false [(x,y)]) s2 else .no)=_
   rw [fq,aq (gG (.inl rfl)),hfst,fq,aq (gG (.inl rfl)),aj (cP _)]
   rfl
  refine (b7 (l1:=[some ⟨.bo,d⟩,some ⟨.fr,nD s⟩,some ⟨.ow,.lst [nD s]⟩,some ⟨.ow,.dic false [(nD s,.tup ((M.fst s).map nD))]⟩,some ⟨.fr,nD 0⟩,none,none,none,none,none,none,none]) (s1:=[]) (cD (t:=.fr) rfl (.inl rfl) rfl)).trans ?_
  refine (b7 c1).trans ?_
  refine (b7 (l1:=[some ⟨.bo,d⟩,some ⟨.fr,nD s⟩,some ⟨.ow,.lst (o.map nD)⟩,some ⟨.ow,.dic false kvs⟩,some ⟨.fr,nD at_⟩,some ⟨.fr,nD 0⟩,none,x7.map fun n=>⟨.fr,nD n⟩,none,none,none,none]) (s1:=[]) (cD (t:=.fr) rfl (.inl rfl) rfl)).trans ?_
  refine (b7 (l1:=LL (true,kvs,0,true,none,none,none,none)) (s1:=[]) (cD (t:=.fr) rfl (.inl rfl) rfl)).trans ?_
  refine (b7 (whl_eq.trans w1)).trans (cI (cY (t:=.fr) (dr (s1:=[]) (ds:=[d,.lst (o.map nD),.dic false t'.2.1]) rfl (Fh rfl rfl rfl (.inl rfl) (.inl rfl) (.inl rfl)) c3) rfl))
 ·exact h.elim
end
-- _law_cell(_law_script,_law_at): slots 0=_law_script 1=_law_at
def gy:S:=#v[.ife (.cmp .lt (.v 1) (.bi .len #v[.v 0]))
 #v[.ret (.ix (.v 0) (.v 1))]
 .nil,.ife (.cmp .eq (.bi .len #v[.v 0]) (.ki 0))
 #v[.ret (.bin .add (.bin .mul (.ki 29) (.v 1)) (.ki 5))]
 .nil,.ret (.bin .add (.bin .mod (.ix (.v 0) (.bin .mod (.v 1) (.bi .len #v[.v 0]))) (.ki 1000003)) (.bin .mul (.ki 103) (.v 1)))]
noncomputable def dQ (ms:Str→Str→Option Bool):Fn:=.self [] [] ms gy [false,false] 2 2
theorem oM (ms:Str→Str→Option Bool):(dQ ms).kp=[false,false]:=rfl
-- _law_letters(_law_script,_law_at): slots 0=_law_script 1=_law_at
def fe:S:=#v[.ret (.bin .add (.ki 2) (.bin .mod (.call 0 #v[.v 0,.v 1]) (.ki 4)))]
noncomputable def ff (ms:Str→Str→Option Bool):Fn:=.self [dQ ms] [] ms fe [false,false] 2 2
-- _law_numbers(_law_cell_here,_law_many): slots 0=_law_cell_here 1=_law_many 2=_law_row 3=_law_rest 4=_law_seed
def fg:S:=#v[.own 2 (.lst .nil),.set (.n 3) (.bin .sub (.v 0) (.bin .pow (.ki 10) (.ki 18))),.whl (.and #v[.cmp .gt (.v 3) (.ki 0),.cmp .lt (.bi .len #v[.v 2]) (.v 1)])
 #v[.app 2 (.bin .mod (.v 3) (.ki 1009)),.set (.n 3) (.bin .fdiv (.v 3) (.ki 1009))],.set (.n 4) (.bin .mod (.v 0) (.ki 2147483629)),.whl (.cmp .lt (.bi .len #v[.v 2]) (.v 1))
 #v[.set (.n 4) (.bin .mod (.bin .add (.bin .add (.bin .mul (.v 4) (.ki 48271)) (.ki 9973)) (.bi .len #v[.v 2])) (.ki 2147483647)),.app 2 (.bin .mod (.bin .fdiv (.bin .mod (.bin .mul (.v 4) (.ki 39373)) (.ki 2147483629)) (.ki 11)) (.ki 1009))],.ret (.v 2)]
noncomputable def cq (ms:Str→Str→Option Bool):Fn:=.self [] [] ms fg [false,false] 2 5
section
variable {ms:Str→Str→Option Bool}
theorem jJ (xs:List Int) (a:Int) (h:0≤a):∃ c:Int,(dQ ms).run [.arr (xs.map D.int),.int a]=.ok (.int c,.fr):=by
 obtain ⟨n,rfl⟩:=bm h
 have hn:(0:Int)≤n:=Int.natCast_nonneg n
 by_cases h1:n < xs.length
 ·have c1:(n:Int) < xs.length:=by omega
  refine ⟨_,cH (s:=[]) rfl (cI ((gX (s1:=[]) ?_).trans (cI (d:=.int (xs.getD n 0)) (s1:=[]) ?_)))⟩
  ·simp! [c1]
  ·simp! [ug _ _ h1]
 ·have c1:¬ (n:Int) < xs.length:=by omega
  by_cases h2:xs.length=0
  ·refine ⟨29*n+5,cH (s:=[]) rfl ((b7 ((dG (s1:=[]) ?_).trans cp)).trans (cI ((gX (s1:=[]) ?_).trans (cI ?_))))⟩
   ·simp! [c1]
   ·simp! [h2,Int.natCast_zero]
   ·simp! []
  ·have h3:0 < xs.length:=by omega
   have c2:¬ (xs.length:Int)=0:=by omega
   have c3:(0:Int) < xs.length:=by omega
   have h4:n % xs.length < xs.length:=Nat.mod_lt _ h3
   have e:(n:Int) % (xs.length:Int)=((n % xs.length:Nat):Int):=(Int.natCast_emod n xs.length).symm
   refine ⟨xs.getD (n % xs.length) 0 % 1000003+103*n,cH (s:=[]) rfl ((b7 ((dG (s1:=[]) ?_).trans cp)).trans ((b7 ((dG (s1:=[]) ?_).trans cp)).trans (cI ?_)))⟩
   ·simp! [c1]
   ·simp! [c2]
   ·simp! [c3,e,ug _ _ h4]
theorem oN (xs:List Int) (a:Int) (h:0≤a):∃ c:Int,(ff ms).run [.arr (xs.map D.int),.int a]=.ok (.int c,.fr)∧2≤c∧c≤5:=by
 obtain ⟨c,hc⟩:=jJ (ms:=ms) xs a h
 refine ⟨2+c % 4,cH (s:=[]) rfl (cI ?_),by omega,by omega⟩
 simp! [oM,hc]

theorem oO (c:Int) (m:Nat) (hm:m < 1000000):∃ ns:List Int,(cq ms).run [.int c,.int (m:Int)]=.ok (.lst (ns.map D.int),.nw)∧ns.length=m∧∀ x∈ns,0≤x∧x < 1009:=by
 have big:(1000000:Nat)≤sizeLine:=by rw [sizeLine_eq]; omega
 -- the first loop
 let L1:Int × List Int→Lc:=fun t=>[some ⟨.bo,.int c⟩,some ⟨.bo,.int (m:Int)⟩,some ⟨.ow,.lst (t.2.map D.int)⟩,some ⟨.fr,.int t.1⟩,none]
 obtain ⟨t1,w1,⟨i1,i2⟩,_⟩:=qP (cond:=dM [] [] (.and #v[.cmp .gt (.v 3) (.ki 0),.cmp .lt (.bi .len #v[.v 2]) (.v 1)]))
  (body:=cF [] [] ms #v[.app 2 (.bin .mod (.v 3) (.ki 1009)),.set (.n 3) (.bin .fdiv (.v 3) (.ki 1009))]) L1 (fun t=>decide (0 < t.1) && decide ((t.2.length:Int) < (m:Int))) (fun t=>(t.1 / 1009,t.2++[t.1 % 1009]))
  (fun t=>t.2.length≤m∧∀ x∈t.2,0≤x∧x < 1009) (fun t=>m - t.2.length) (fun t _=>by
   by_cases h:0 < t.1
   ·by_cases h2:(t.2.length:Int) < (m:Int)
    ·simp! [L1,h,h2,Bool.and_self]
    ·simp! [L1,h,h2,Bool.and_false]
   ·simp! [L1,h,Bool.false_and]) (fun t hi hc=>by
   simp only [ab,af] at hc
   have hl:t.2.length < m:=by omega
   have hz:t.2.length < sizeLine:=by omega
   refine ⟨?_,⟨by simp; omega,fun x hx=>?_⟩,by simp; omega⟩
   ·refine (b7 (l1:=[some ⟨.bo,.int c⟩,some ⟨.bo,.int (m:Int)⟩,some ⟨.ow,.lst ((t.2++[t.1 % 1009]).map D.int)⟩,some ⟨.fr,.int t.1⟩,none]) (s1:=[]) ?_).trans ((b7 (s1:=[]) ?_).trans cp)
    ·simp! [L1,hz,bj]
    ·simp! [L1]
   ·rcases aR.mp hx with h | h
    ·exact hi.2 x h
    ·rw [ah] at h
     omega) (c - 10 ^ 18,[]) ⟨aW _,by simp⟩
 -- the second
 let L2':Int × List Int→Lc:=fun t=>[some ⟨.bo,.int c⟩,some ⟨.bo,.int (m:Int)⟩,some ⟨.ow,.lst (t.2.map D.int)⟩,some ⟨.fr,.int t1.1⟩,some ⟨.fr,.int t.1⟩]
 obtain ⟨t2,w2,⟨j1,j2⟩,j3⟩:=qP (cond:=dM [] [] (.cmp .lt (.bi .len #v[.v 2]) (.v 1)))
  (body:=cF [] [] ms #v[.set (.n 4) (.bin .mod (.bin .add (.bin .add (.bin .mul (.v 4) (.ki 48271)) (.ki 9973)) (.bi .len #v[.v 2])) (.ki 2147483647)),.app 2 (.bin .mod (.bin .fdiv (.bin .mod (.bin .mul (.v 4) (.ki 39373)) (.ki 2147483629)) (.ki 11)) (.ki 1009))]) L2' (fun t=>decide ((t.2.length:Int) < (m:Int)))
  (fun t=>let z:=(t.1*48271+9973+t.2.length) % 2147483647; (z,t.2++[z*39373 % 2147483629 / 11 % 1009])) (fun t=>t.2.length≤m∧∀ x∈t.2,0≤x∧x < 1009) (fun t=>m - t.2.length) (fun t _=>by
   by_cases h2:(t.2.length:Int) < (m:Int)
   ·simp! [L2',h2]
   ·simp! [L2',h2]) (fun t hi hc=>by
   simp only [af] at hc
   have hl:t.2.length < m:=by omega
   have hz:t.2.length < sizeLine:=by omega
   refine ⟨?_,⟨by simp; omega,fun x hx=>?_⟩,by simp; omega⟩
   ·refine (b7 (l1:=[some ⟨.bo,.int c⟩,some ⟨.bo,.int (m:Int)⟩,some ⟨.ow,.lst (t.2.map D.int)⟩,some ⟨.fr,.int t1.1⟩,some ⟨.fr,.int ((t.1*48271+9973+t.2.length) % 2147483647)⟩]) (s1:=[]) ?_).trans ((b7 (s1:=[]) ?_).trans cp)
    ·simp! [L2']
    ·simp! [L2',hz,bj]
   ·rcases aR.mp hx with h | h
    ·exact hi.2 x h
    ·rw [ah] at h
     omega) (c % 2147483629,t1.2) ⟨i1,i2⟩
 refine ⟨t2.2,cH (s:=[]) rfl ?_,?_,j2⟩
 ·refine (b7 (l1:=[some ⟨.bo,.int c⟩,some ⟨.bo,.int (m:Int)⟩,some ⟨.ow,.lst []⟩,none,none]) (s1:=[]) ?_).trans ?_
  ·simp! [List.replicate]
   rfl
  refine (b7 (l1:=L1 (c - 10 ^ 18,[])) (s1:=[]) ?_).trans ?_
  ·simp! [L1]
  refine (b7 (whl_eq.trans w1)).trans ?_
  refine (b7 (l1:=L2' (c % 2147483629,t1.2)) (s1:=[]) ?_).trans ?_
  ·simp! [L1,L2']
  refine (b7 (whl_eq.trans w2)).trans (cI ?_)
  simp! [L2']
 ·simp only [decide_eq_false_iff_not] at j3
  omega
end
-- _law_coming(_law_letters_here,_law_cell_here,_law_most): slots 0=_law_letters_here 1=_law_cell_here 2=_law_most 3=_law_nums 4=_law_ahead 5=_law_ring 6=_law_pick
section
variable {ms:Str→Str→Option Bool}
end
-- _law_whole(_law_found): slots 0=_law_found
def f7:S:=#v[.ret (.and #v[.isi (.v 0) .int,.not (.isi (.v 0) .bool)])]
noncomputable def eE (ms:Str→Str→Option Bool):Fn:=.self [] [] ms f7 [false] 1 1
theorem nq (ms:Str→Str→Option Bool):(eE ms).kp=[false]:=rfl
-- _law_like(_law_found,_law_due): slots 0=_law_found 1=_law_due 2=_law_k
def eG:S:=#v[.ife (.cmp .isn (.v 1) .kn)
 #v[.ret (.cmp .isn (.v 0) .kn)]
 .nil,.ife (.isi (.v 1) .bool)
 #v[.ret (.and #v[.isi (.v 0) .bool,.cmp .eq (.v 0) (.v 1)])]
 .nil,.ife (.isi (.v 1) .int)
 #v[.ret (.and #v[.call 1 #v[.v 0],.cmp .eq (.v 0) (.v 1)])]
 .nil,.ife (.isi (.v 1) .str)
 #v[.ret (.and #v[.isi (.v 0) .str,.cmp .eq (.v 0) (.v 1)])]
 .nil,.ife (.or #v[.cmp .ne (.isi (.v 1) .list) (.isi (.v 0) .list),.cmp .ne (.isi (.v 1) .tuple) (.isi (.v 0) .tuple)])
 #v[.ret (.kb false)]
 .nil,.ret (.and #v[.cmp .eq (.bi .len #v[.v 0]) (.bi .len #v[.v 1]),.bi .all #v[.comp [2] (.n 2) (.rng1 (.bi .len #v[.v 1])) .nil (.call 0 #v[.ix (.v 0) (.v 2),.ix (.v 1) (.v 2)])]])]
noncomputable def cN (ms:Str→Str→Option Bool):Nat→Fn
 | 0=>.none [false,false]
 | n+1=>.self [cN ms n,eE ms] [] ms eG [false,false] 2 3
noncomputable def eJ (ms:Str→Str→Option Bool):Fn:=cN ms 8
section
variable {ms:Str→Str→Option Bool}
theorem sw (a:Int):(eE ms).run [.int a]=.ok (.bl true,.fr):=by
 refine cH (s:=[]) rfl (cI ?_)
 simp! []
theorem qg (n:Nat):(cN ms n).kp=[false,false]:=by cases n <;> rfl
theorem oP {n:Nat} {d:D} {xs:List D} (ih:∀ d,D.pl n d→(cN ms n).run [d,d]=.ok (.bl true,.fr)) (hx:xs.length≤sizeLine∧∀ x∈xs,D.pl n x)
  (hl:∀ s,BI.run .len [d] s=cr (.int xs.length) s) (hi:∀ i x s,xs[i]?=some x→mH d (.int (i:Nat)) s=cr x s) :
  b9 [cN ms n,eE ms] [] (.comp [2] (.n 2) (.rng1 (.bi .len #v[.v 1])) .nil (.call 0 #v[.ix (.v 0) (.v 2),.ix (.v 1) (.v 2)])) [some ⟨.bo,d⟩,some ⟨.bo,d⟩,none] []=.ok (.lst ((List.range xs.length).map fun _=>D.bl true),.nw,[]):=by
 have hz:=sizeLine_eq
 refine iD (ds:=List.range xs.length) (en:=fun i=>D.int (i:Nat)) rfl ((h9 (t:=.fr) (j:=(xs.length:Int)) ?_ (by omega)).trans (by rw [aT])) (fun i hi2=>?_) (by rw [am]; exact hx.1)
 ·simp! [hl]
 ·have hlt:i < xs.length:=aC.mp hi2
  have hg:xs[i]?=some xs[i]:=ak hlt
  have hr:=ih xs[i] (hx.2 _ (bP hlt))
  refine ⟨[some ⟨.bo,d⟩,some ⟨.bo,d⟩,some ⟨.fr,.int (i:Nat)⟩],.fr,rfl,?_,.inl rfl⟩
  simp! [qg,hi i _ _ hg,hr]
theorem mu:∀ (n:Nat) (d:D),D.pl n d→(cN ms n).run [d,d]=.ok (.bl true,.fr)
 | 0,_,h=>h.elim
 | n+1,d,h=>by
  have ih:=mu n
  have big:=sizeLine_eq
  have fin:∀ (xs:List D) (l:Lc) (x:X),b9 [cN ms n,eE ms] [] x l []=.ok (.lst ((List.range xs.length).map fun _=>D.bl true),.nw,[])→b9 [cN ms n,eE ms] [] (.bi .all #v[x]) l []=.ok (.bl true,.fr,[]):=fun xs l x h=>by
   have e:((List.range xs.length).map fun _=>D.bl true)=((List.range xs.length).map fun _=>true).map D.bl:=by rw [aU]; rfl
   rw [e] at h
   rw [Am h]
   congr 3
   simp
  cases d with
  | non =>
   refine cH (s:=[]) rfl (cI ((gX (s1:=[]) ?_).trans (cI ?_)))
   ·simp! []
   ·simp! []
  | bl b =>
   refine cH (s:=[]) rfl ((b7 ((dG (s1:=[]) ?_).trans cp)).trans (cI ((gX (s1:=[]) ?_).trans (cI ?_))))
   ·simp! []
   ·simp! []
   ·simp! [bz]
  | int b =>
   refine cH (s:=[]) rfl ((b7 ((dG (s1:=[]) ?_).trans cp)).trans ((b7 ((dG (s1:=[]) ?_).trans cp)).trans (cI ((gX (s1:=[]) ?_).trans (cI ?_)))))
   ·simp! []
   ·simp! []
   ·simp! []
   ·simp! [nq,sw]
  | str x =>
   have hs:PyData.strOk x=true:=h
   refine cH (s:=[]) rfl ((b7 ((dG (s1:=[]) ?_).trans cp)).trans ((b7 ((dG (s1:=[]) ?_).trans cp)).trans ((b7 ((dG (s1:=[]) ?_).trans cp)).trans (cI ((gX (s1:=[]) ?_).trans (cI ?_))))))
   ·simp! []
   ·simp! []
   ·simp! []
   ·simp! []
   ·simp! [ur x x hs hs,bz]
  | tup xs =>
   have hc:=oP (ms:=ms) (d:=.tup xs) ih h (fun s=>rfl) (fun i x s hi=>p7 hi s)
   refine cH (s:=[]) rfl ((b7 ((dG (s1:=[]) ?_).trans cp)).trans ((b7 ((dG (s1:=[]) ?_).trans cp)).trans ((b7 ((dG (s1:=[]) ?_).trans cp)).trans ((b7 ((dG (s1:=[]) ?_).trans cp)).trans ((b7 ((dG (s1:=[]) ?_).trans cp)).trans (cI ?_))))))
   ·simp! []
   ·simp! []
   ·simp! []
   ·simp! []
   ·simp! [bz]
   ·refine cY (j6 ((kx (t:=.fr) (s1:=[]) ?_).trans ((kx (fin xs _ _ hc)).trans kP))) rfl
    simp! []
  | lst xs =>
   have hc:=oP (ms:=ms) (d:=.lst xs) ih h (fun s=>rfl) (fun i x s hi=>jH hi s)
   refine cH (s:=[]) rfl ((b7 ((dG (s1:=[]) ?_).trans cp)).trans ((b7 ((dG (s1:=[]) ?_).trans cp)).trans ((b7 ((dG (s1:=[]) ?_).trans cp)).trans ((b7 ((dG (s1:=[]) ?_).trans cp)).trans ((b7 ((dG (s1:=[]) ?_).trans cp)).trans (cI ?_))))))
   ·simp! []
   ·simp! []
   ·simp! []
   ·simp! []
   ·simp! [bz]
   ·refine cY (j6 ((kx (t:=.fr) (s1:=[]) ?_).trans ((kx (fin xs _ _ hc)).trans kP))) rfl
    simp! []
  | _=>exact h.elim
theorem uG (d:D) (h:D.pl 8 d):(eJ ms).run [d,d]=.ok (.bl true,.fr):=mu 8 d h
end
-- _law_rearranged(_law_pick,_law_letters_here): slots 0=_law_pick 1=_law_letters_here 2=_law_left 3=_law_made 4=_law_k 5=_law_many
def cX:S:=#v[.own 2 (.lstI (.rng1 (.v 1))),.own 3 (.lst .nil),.loop (.n 4) (.rng1 (.v 1))
 #v[.set (.n 5) (.bi .len #v[.v 2]),.appPop 3 2 (.bin .mod (.v 0) (.v 5)),.set (.n 0) (.bin .fdiv (.v 0) (.v 5))],.ret (.bi .tuple #v[.v 3])]
noncomputable def cb (ms:Str→Str→Option Bool):Fn:=.self [] [] ms cX [false,false] 2 6
section
variable {fs:List Fn} {gs:List D} {a b c:X} {l:Lc} {p q:Bool} {t t2:Tag}
theorem Do (ha:b9 fs gs a l []=.ok (.bl p,t,[])) (hb:b9 fs gs b l []=.ok (.bl q,t2,[])):b9 fs gs (.and #v[a,b]) l []=.ok (.bl (p && q),.fr,[]):=by
 cases p with
 | false=>exact j6 (xY ha)
 | true =>
  cases q with
  | false=>exact j6 ((kx ha).trans (xY hb))
  | true=>exact j6 ((kx ha).trans ((kx hb).trans kP))
theorem Ic (ha:b9 fs gs a l []=.ok (.bl p,t,[])) (hb:b9 fs gs b l []=.ok (.bl q,t2,[])):b9 fs gs (.or #v[a,b]) l []=.ok (.bl (p || q),.fr,[]):=by
 cases p with
 | true=>exact iF (ss ha)
 | false =>
  cases q with
  | true=>exact iF ((jn ha).trans (ss hb))
  | false=>exact iF ((jn ha).trans ((jn hb).trans p8))
end
theorem uH {j n:Nat} (h:j < n):seqIndex? (j:Int) n=some j:=(ixN_seq (by unfold ixN; rw [aj (by omega),aj (by omega),aT])).1
theorem sA {ds:List D} {i:Int} {k:Nat} {d:D} (h:-(2 ^ 63)≤i∧i < 2 ^ 63) (hk:seqIndex? i ds.length=some k) (hd:ds[k]?=some d):i9 ds (some i)=some (d,ds.eraseIdx k):=by
 unfold i9
 simp only [aj h,hk,hd]
theorem sC {fs:List Fn} {gs:List D} {ms:Str→Str→Option Bool} {x:X} {l:Lc} {s s1:cj} {i j:Nat} {ds es es':List D} {p:Option Int} {d:D} (hi:l[i]?=some (some ⟨.ow,.lst ds⟩)) (hj:l[j]?=some (some ⟨.ow,.lst es⟩)) (hne:¬ i=j) (hp:dO fs gs x l s=.ok (p,s1)) (hd:i9 es p=some (d,es')) (hz:ds.length < sizeLine) :
  cF fs gs ms (.appPop i j x) l s=.ok (.nx ((l.set j (some ⟨.ow,.lst es'⟩)).set i (some ⟨.ow,.lst (ds++[d])⟩)) s1):=by
 simp only [cF,hi,hj,aq hne,hp,cJ,hd,aj hz]
theorem uI {fs:List Fn} {gs:List D} {x:X} {l:Lc} {s s1:cj} {i:Int} {t:Tag} (hx:x.isNil=false) (h:b9 fs gs x l s=.ok (.int i,t,s1)):dO fs gs x l s=.ok (some i,s1):=by
 unfold dO
 rw [hx,h]
 rfl
theorem jK {α β:Type} (f:α→β):∀ (xs:List α) (i:Nat),(xs.map f).eraseIdx i=(xs.eraseIdx i).map f
 | [],_=>rfl
 | x :: xs,0=>rfl
 | x :: xs,i+1=>by
  show f x :: (xs.map f).eraseIdx i=f x :: (xs.eraseIdx i).map f
  rw [jK f xs i]
theorem uJ {A:List Nat} {i:Nat} (h:i < A.length) (hz:A.length≤100000):i9 (A.map nD) (some (i:Int))=some (nD (A.getD i 0),(A.eraseIdx i).map nD):=by
 have h2:=sA (ds:=A.map nD) (i:=(i:Int)) (k:=i) (d:=nD (A.getD i 0)) (by omega) (by rw [ac]; exact uH h) (qd h)
 rw [h2,jK]
theorem lr:∀ (A:List Nat) (i:Nat),i < A.length→(A.getD i 0 :: A.eraseIdx i).Perm A
 | [],i,h=>absurd h (ba i)
 | x :: A,0,_=>List.Perm.refl _
 | x :: A,i+1,h=>by
  have ih:=lr A i (by rw [aw] at h; omega)
  show (A.getD i 0 :: x :: A.eraseIdx i).Perm (x :: A)
  exact (List.Perm.swap _ _ _).trans (ih.cons x)

def Turn (L:Nat) (P:List Nat):Prop:=P.Perm (List.range L)
theorem Turn.len {L:Nat} {P:List Nat} (h:Turn L P):P.length=L:=by have:=h.length_eq; rw [am] at this; exact this
theorem Turn.lt {L:Nat} {P:List Nat} (h:Turn L P):∀ x∈P,x < L:=fun x hx=>aC.mp (h.subset hx)
section
variable {ms:Str→Str→Option Bool} {L:Nat}
theorem ls (hL:L≤1000) (pick:Int) (hp:0≤pick):∃ P,Turn L P∧(cb ms).run [.int pick,nD L]=.ok (.tup (P.map nD),.fr):=by
 have big:=sizeLine_eq
 let LL:(Tag × Int × List Nat × List Nat × Option Sl × Option Sl)→Lc:=fun t=>[some ⟨t.1,.int t.2.1⟩,some ⟨.bo,nD L⟩,some ⟨.ow,.lst (t.2.2.1.map nD)⟩,some ⟨.ow,.lst (t.2.2.2.1.map nD)⟩,t.2.2.2.2.1,t.2.2.2.2.2]
 obtain ⟨t',h1,h2,h3,_⟩:=gx (body:=fun d l s=>match T.put (.n 4) d l with | some l1=>cF [] [] ms #v[.set (.n 5) (.bi .len #v[.v 2]),.appPop 3 2 (.bin .mod (.v 0) (.v 5)),.set (.n 0) (.bin .fdiv (.v 0) (.v 5))] l1 s | none=>.no)
  (fun i:Nat=>D.int (i:Int)) LL (fun pr t=>(t.2.2.2.1++t.2.2.1).Perm (List.range L)∧t.2.2.2.1.length=pr.length∧0≤t.2.1) (List.range L) (fun pr x r t hx ⟨i1,i2,i3⟩=>by
   have hpl:pr.length < L:=by
    have:=bD List.length hx
    rw [am,ae,aw] at this
    omega
   have hl:=i1.length_eq
   rw [ae,am] at hl
   have hpos:0 < t.2.2.1.length:=by omega
   obtain ⟨j,hj⟩:=bm (Int.emod_nonneg t.2.1 (show (t.2.2.1.length:Int)≠0 by omega))
   have hjl:j < t.2.2.1.length:=by
    have:=Int.emod_lt_of_pos t.2.1 (show (0:Int) < (t.2.2.1.length:Int) by omega)
    omega
   have e5:b9 [] [] (.bi .len #v[.v 2]) (LL (t.1,t.2.1,t.2.2.1,t.2.2.2.1,some ⟨.fr,.int (x:Int)⟩,t.2.2.2.2.2)) []=.ok (nD t.2.2.1.length,.fr,[]):=by simp! [LL]
   have epl:dO [] [] (.bin .mod (.v 0) (.v 5)) (LL (t.1,t.2.1,t.2.2.1,t.2.2.2.1,some ⟨.fr,.int (x:Int)⟩,some ⟨.fr,nD t.2.2.1.length⟩)) []=.ok (some (j:Int),[]):=by
    refine uI (t:=.fr) rfl ?_
    rw [← hj]
    exact dP (d:=.int t.2.1) (t:=t.1) (s1:=[]) (d2:=nD t.2.2.1.length) (t2:=.fr) (s2:=[]) rfl rfl (gF _ _ _ (by omega))
   have hz:(t.2.2.2.1.map nD).length < sizeLine:=by rw [ac]; omega
   refine ⟨(.fr,t.2.1 / (t.2.2.1.length:Int),t.2.2.1.eraseIdx j,t.2.2.2.1++[t.2.2.1.getD j 0],some ⟨.fr,.int (x:Int)⟩,some ⟨.fr,nD t.2.2.1.length⟩),(b7 (cD (t:=.fr) e5 (.inl rfl) rfl)).trans ((b7 (l1:=LL (t.1,t.2.1,t.2.2.1.eraseIdx j,t.2.2.2.1++[t.2.2.1.getD j 0],some ⟨.fr,.int (x:Int)⟩,some ⟨.fr,nD t.2.2.1.length⟩)) (s1:=[]) ?_).trans ((b7 (cD (t:=.fr) (dP (d:=.int t.2.1) (t:=t.1) (s1:=[]) (d2:=nD t.2.2.1.length) (t2:=.fr) (s2:=[]) rfl rfl (iC _ _ _ ⟨by omega,by omega⟩)) (.inl rfl) rfl)).trans cp)),?_,by rw [ae,ae,i2]; rfl,Int.ediv_nonneg i3 (by omega)⟩
   ·refine (sC (ds:=t.2.2.2.1.map nD) (es:=t.2.2.1.map nD) rfl rfl (by decide) epl (uJ hjl (by omega)) hz).trans ?_
    show R.ok (Out.nx [some ⟨t.1,.int t.2.1⟩,some ⟨.bo,nD L⟩,some ⟨.ow,.lst ((t.2.2.1.eraseIdx j).map nD)⟩,some ⟨.ow,.lst (t.2.2.2.1.map nD++[nD (t.2.2.1.getD j 0)])⟩,some ⟨.fr,.int (x:Int)⟩,some ⟨.fr,nD t.2.2.1.length⟩] [])=R.ok (Out.nx [some ⟨t.1,.int t.2.1⟩,some ⟨.bo,nD L⟩,some ⟨.ow,.lst ((t.2.2.1.eraseIdx j).map nD)⟩,some ⟨.ow,.lst ((t.2.2.2.1++[t.2.2.1.getD j 0]).map nD)⟩,some ⟨.fr,.int (x:Int)⟩,some ⟨.fr,nD t.2.2.1.length⟩] [])
    rw [eZ]
   ·show ((t.2.2.2.1++[t.2.2.1.getD j 0])++t.2.2.1.eraseIdx j).Perm (List.range L)
    rw [aK]
    exact ((lr t.2.2.1 j hjl).append_left t.2.2.2.1).trans i1) (.bo,pick,List.range L,[],none,none) ⟨List.Perm.refl _,rfl,hp⟩
 have h3:t'.2.2.2.1.length=L:=by rw [h3,am]
 have hl:=h2.length_eq
 rw [ae,am] at hl
 have hnil:t'.2.2.1=[]:=List.length_eq_zero_iff.mp (by omega)
 rw [hnil,aM] at h2
 refine ⟨t'.2.2.2.1,h2,cH (s:=[]) rfl ?_⟩
 have eL:∀ l:Lc,l[1]?=some (some ⟨.bo,nD L⟩)→gM [] [] (.rng1 (.v 1)) l []=.ok ((List.range L).map fun i:Nat=>D.int (i:Int),[]):=fun l hl=>by
  have e:b9 [] [] (.v 1) l []=.ok (.int (L:Int),.bo,[]):=by
   show (match l[1]? with | some (some ⟨k,d⟩)=>R.ok (d,k,[]) | _=>.no)=_
   rw [hl]
  exact (h9 e (by omega)).trans (by rw [aT])
 refine (b7 (l1:=[some ⟨.bo,.int pick⟩,some ⟨.bo,nD L⟩,some ⟨.ow,.lst ((List.range L).map nD)⟩,none,none,none]) (s1:=[]) (dD (d:=.lst ((List.range L).map nD)) ?_)).trans ?_
 ·show (gM [] [] (.rng1 (.v 1)) [some ⟨.bo,.int pick⟩,some ⟨.bo,nD L⟩,none,none,none,none] []).bind (fun (ds,s1)=>if ds.length≤16777216 then dW (.lst ds) s1 else .no)=_
  rw [eL _ rfl,cJ]
  show (if ((List.range L).map fun i:Nat=>D.int (i:Int)).length≤16777216 then _ else _)=_
  rw [aj (by rw [ac,am]; omega)]
  rfl
 refine (b7 (l1:=LL (.bo,pick,List.range L,[],none,none)) (s1:=[]) (dD (d:=.lst []) ?_)).trans ?_
 ·simp! [aW]
 exact (b7 ((dA (eL _ rfl)).trans h1)).trans (cI (cY (t:=.fr) (gu (t:=.ow) rfl) rfl))
end
-- _law_rows(_law_letters_here,_law_cell_here): slots 0=_law_letters_here 1=_law_cell_here 2=_law_nums 3=_law_many 4=_law_kind 5=_law_rows_here 6=_law_at 7=_law_pick 8=_law_first 9=_law_goings 10=_law_k 11=_law_to
def eN:S:=#v[.set (.n 2) (.call 1 #v[.v 1,.ki 64]),.set (.n 3) (.bin .add (.ki 1) (.bin .mod (.ix (.v 2) (.ki 0)) (.ki 8))),.set (.n 4) (.bin .mod (.ix (.v 2) (.ki 1)) (.ki 6)),.own 5 (.lst .nil),.loop (.n 6) (.rng1 (.v 3))
 #v[.set (.n 7) (.sl (.v 2) (.bin .add (.ki 2) (.bin .mul (.ki 6) (.v 6))) (.bin .add (.ki 8) (.bin .mul (.ki 6) (.v 6)))),.set (.n 8) (.call 0 #v[.ix (.v 7) (.ki 0),.v 0]),.set (.n 9) (.comp [10] (.n 10) (.rng1 (.v 0)) .nil (.bin .mod (.ix (.v 7) (.bin .add (.ki 1) (.v 10))) (.v 3))),.ife (.cmp .eq (.v 4) (.ki 1))
 #v[.set (.n 9) (.comp [11] (.n 11) (.it (.v 9)) .nil (.bi .min2 #v[.bin .sub (.v 3) (.ki 1),.bin .add (.bin .add (.v 6) (.ki 1)) (.v 11)]))]
 .nil,.ife (.cmp .eq (.v 4) (.ki 2))
 #v[.set (.n 9) (.comp [10] (.n 10) (.rng1 (.v 0)) .nil (.ite (.cmp .eq (.v 10) (.bin .mod (.bin .fdiv (.ix (.v 7) (.ki 0)) (.ki 120)) (.v 0))) (.ix (.v 9) (.v 10)) (.bin .sub (.v 3) (.ki 1))))]
 .nil,.ife (.or #v[.and #v[.chn .le .le (.ki 1) (.v 4) (.ki 3),.cmp .eq (.v 6) (.bin .sub (.v 3) (.ki 1))],.and #v[.cmp .eq (.v 4) (.ki 4),.cmp .eq (.bin .mod (.ix (.v 7) (.ki 0)) (.ki 2)) (.ki 1)]])
 #v[.set (.n 8) (.tupI (.rng1 (.v 0)))]
 .nil,.ife (.and #v[.chn .le .le (.ki 1) (.v 4) (.ki 3),.cmp .eq (.v 6) (.bin .sub (.v 3) (.ki 1))])
 #v[.set (.n 9) (.bin .mul (.lst #v[.v 6]) (.v 0))]
 .nil,.app 5 (.tup #v[.v 8,.bi .tuple #v[.v 9]])],.ret (.v 5)]
noncomputable def gz (ms:Str→Str→Option Bool):Fn:=.self [cb ms,cq ms] [] ms eN [false,false] 2 12
theorem qX {α:Type} (a:α):∀ k:Nat,(List.replicate k [a]).flatten=List.replicate k a
 | 0=>rfl
 | k+1=>by
  rw [bv,List.flatten_cons,qX a k,bv]
  rfl

def fI (L:Nat) (M:Mach):Prop:=MOk L M∧∀ s,s < M.length→Turn L (M.fst s)

def qY (L n:Nat) (r:List Nat × List Nat):Prop:=Turn L r.1∧r.2.length=L∧∀ x∈r.2,x < n
theorem uK {L n:Nat} {rs:Mach} (h:∀ r∈rs,qY L n r) (hn:rs.length=n):fI L rs:=by
 have key:∀ s,s < rs.length→qY L n (rs.row s):=fun s hs=>by
  refine h _ ?_
  unfold Mach.row
  rw [List.getD,ak hs]
  exact bP _
 refine ⟨fun s hs=>?_,fun s hs=>(key s hs).1⟩
 obtain ⟨q1,q2,q3⟩:=key s hs
 exact ⟨q1.len,q2,q1.lt,fun x hx=>by rw [hn]; exact q3 x hx⟩
section
variable {fs:List Fn} {gs:List D} {ms:Str→Str→Option Bool} {L:Nat}

theorem j9 {fs:List Fn} {gs:List D} {own:List Nat} {k:Nat} {it e:X} {l:Lc} {ds:List Nat} {n:Nat} (hz:ds.length≤1000) (ho:oC l own=true) (hi:gM fs gs it l []=.ok (ds.map nD,[])) (l1:Nat→Lc) (hp:∀ c,T.put (.n k) (nD c) (dE l own)=some (l1 c)) (hb:∀ c∈ds,∃ y,y < n∧b9 fs gs e (l1 c) []=.ok (nD y,.fr,[])) :
  ∃ G:List Nat,G.length=ds.length∧(∀ y∈G,y < n)∧b9 fs gs (.comp own (.n k) it .nil e) l []=.ok (.lst (G.map nD),.nw,[]):=by
 have big:=sizeLine_eq
 have hb':∀ c,∃ y,c∈ds→y < n∧b9 fs gs e (l1 c) []=.ok (nD y,.fr,[]):=fun c=>by
  by_cases hc:c∈ds
  ·obtain ⟨y,h⟩:=hb c hc
   exact ⟨y,fun _=>h⟩
  ·exact ⟨0,fun q=>absurd q hc⟩
 let f:Nat→Nat:=fun c=>Classical.choose (hb' c)
 have hf:∀ c,c∈ds→f c < n∧b9 fs gs e (l1 c) []=.ok (nD (f c),.fr,[]):=fun c=>Classical.choose_spec (hb' c)
 refine ⟨ds.map f,ac _,fun y hy=>?_,?_⟩
 ·obtain ⟨c,hc,rfl⟩:=aQ.mp hy
  exact (hf c hc).1
 ·rw [aU]
  exact iD (ds:=ds) (en:=nD) ho hi (fun c hc=>⟨l1 c,.fr,hp c,(hf c hc).2,.inl rfl⟩) (by omega)
theorem w6 {l:Lc} {x:X} {t:Tag} (h:b9 fs gs x l []=.ok (nD L,t,[])) (hL:L≤1000000):gM fs gs (.rng1 x) l []=.ok ((List.range L).map nD,[]) :=
 (h9 h (by omega)).trans (by rw [aT])
theorem lw {x:Int} {n:Nat} (hn:0 < n):∃ y:Nat,y < n∧x % (n:Int)=(y:Int):=by
 obtain ⟨y,hy⟩:=bm (Int.emod_nonneg x (show (n:Int)≠0 by omega))
 have:=Int.emod_lt_of_pos x (show (0:Int) < (n:Int) by omega)
 exact ⟨y,by omega,hy⟩
theorem sD (hL:2≤L) (hL5:L≤5) {c:Int} {nu:List Int} (hnl:nu.length=64) (hnb:∀ x∈nu,0≤x∧x < 1009) {n:Nat} (hn:n≤8) {kd:Int} {rs:Mach} {at_:Nat} (hat:at_ < n) (hrl:rs.length≤8) (x7 x8 x9:Option Sl) :
  ∃ r y7 y8 y9,qY L n r∧cF [cb ms,cq ms] [] ms #v[.set (.n 7) (.sl (.v 2) (.bin .add (.ki 2) (.bin .mul (.ki 6) (.v 6))) (.bin .add (.ki 8) (.bin .mul (.ki 6) (.v 6)))),.set (.n 8) (.call 0 #v[.ix (.v 7) (.ki 0),.v 0]),.set (.n 9) (.comp [10] (.n 10) (.rng1 (.v 0)) .nil (.bin .mod (.ix (.v 7) (.bin .add (.ki 1) (.v 10))) (.v 3))),.ife (.cmp .eq (.v 4) (.ki 1))
 #v[.set (.n 9) (.comp [11] (.n 11) (.it (.v 9)) .nil (.bi .min2 #v[.bin .sub (.v 3) (.ki 1),.bin .add (.bin .add (.v 6) (.ki 1)) (.v 11)]))]
 .nil,.ife (.cmp .eq (.v 4) (.ki 2))
 #v[.set (.n 9) (.comp [10] (.n 10) (.rng1 (.v 0)) .nil (.ite (.cmp .eq (.v 10) (.bin .mod (.bin .fdiv (.ix (.v 7) (.ki 0)) (.ki 120)) (.v 0))) (.ix (.v 9) (.v 10)) (.bin .sub (.v 3) (.ki 1))))]
 .nil,.ife (.or #v[.and #v[.chn .le .le (.ki 1) (.v 4) (.ki 3),.cmp .eq (.v 6) (.bin .sub (.v 3) (.ki 1))],.and #v[.cmp .eq (.v 4) (.ki 4),.cmp .eq (.bin .mod (.ix (.v 7) (.ki 0)) (.ki 2)) (.ki 1)]])
 #v[.set (.n 8) (.tupI (.rng1 (.v 0)))]
 .nil,.ife (.and #v[.chn .le .le (.ki 1) (.v 4) (.ki 3),.cmp .eq (.v 6) (.bin .sub (.v 3) (.ki 1))])
 #v[.set (.n 9) (.bin .mul (.lst #v[.v 6]) (.v 0))]
 .nil,.app 5 (.tup #v[.v 8,.bi .tuple #v[.v 9]])]
  [some ⟨.bo,nD L⟩,some ⟨.bo,.int c⟩,some ⟨.fr,.lst (nu.map D.int)⟩,some ⟨.fr,nD n⟩,some ⟨.fr,.int kd⟩,some ⟨.ow,.lst (rs.map fO)⟩,some ⟨.fr,nD at_⟩,x7,x8,x9,none,none] [] =
  .ok (.nx [some ⟨.bo,nD L⟩,some ⟨.bo,.int c⟩,some ⟨.fr,.lst (nu.map D.int)⟩,some ⟨.fr,nD n⟩,some ⟨.fr,.int kd⟩,some ⟨.ow,.lst ((rs++[r]).map fO)⟩,some ⟨.fr,nD at_⟩,y7,y8,y9,none,none] []):=by
 have big:=sizeLine_eq
 have hn0:0 < n:=by omega
 let S:Option Sl→Option Sl→Option Sl→Lc:=fun a b e=>[some ⟨.bo,nD L⟩,some ⟨.bo,.int c⟩,some ⟨.fr,.lst (nu.map D.int)⟩,some ⟨.fr,nD n⟩,some ⟨.fr,.int kd⟩,some ⟨.ow,.lst (rs.map fO)⟩,some ⟨.fr,nD at_⟩,a,b,e,none,none]
 let pk:List Int:=(nu.take (8+6*at_)).drop (2+6*at_)
 have hpl:pk.length=6:=by
  show ((nu.take (8+6*at_)).drop (2+6*at_)).length=6
  rw [List.length_drop,List.length_take]
  omega
 have hpb:∀ x∈pk,0≤x∧x < 1009:=fun x hx=>hnb x (List.mem_of_mem_take (List.mem_of_mem_drop hx))
 let K7:Option Sl:=some ⟨.fr,.lst (pk.map D.int)⟩
 have s7:cF [cb ms,cq ms] [] ms (.set (.n 7) (.sl (.v 2) (.bin .add (.ki 2) (.bin .mul (.ki 6) (.v 6))) (.bin .add (.ki 8) (.bin .mul (.ki 6) (.v 6))))) (S x7 x8 x9) []=.ok (.nx (S K7 x8 x9) []):=by
  have c1:-18446744073709551616 < (at_:Int):=by omega
  have c2:(at_:Int) < 18446744073709551616:=by omega
  have e1:(2:Int)+6*(at_:Int)=((2+6*at_:Nat):Int):=by omega
  have e2:(8:Int)+6*(at_:Int)=((8+6*at_:Nat):Int):=by omega
  refine cD (t:=.nw) (d:=.lst (pk.map D.int)) (s1:=[]) ?_ (.inr (.inl rfl)) rfl
  have e3:pk.map D.int=((nu.map D.int).take (8+6*at_)).drop (2+6*at_):=by
   show ((nu.take (8+6*at_)).drop (2+6*at_)).map D.int=_
   rw [List.map_drop,List.map_take]
  rw [e3]
  have m6:∀ s,BOp.run .mul (.int 6) (nD at_) s=cr (.int (6*(at_:Int))) s:=fun s=>mZ _ _ _ (.inl ⟨by decide,by decide⟩)
  simp! [S,m6,e1,e2,ox]
 obtain ⟨f0,hf0⟩:∃ f0:Int,pk.getD 0 0=f0:=⟨_,rfl⟩
 have hf00:0≤f0:=by
  have:pk.getD 0 0∈pk:=by rw [List.getD,ak (by omega)]; exact bP _
  rw [hf0] at this
  exact (hpb _ this).1
 have Bg:∀ s,jQ (.lst (pk.map D.int)) (.int 0) s=cr (.int f0) s:=fun s=>by
  have:=mY pk 0 (by omega) s
  rw [hf0] at this
  exact this
 have e70:∀ b e,b9 [cb ms,cq ms] [] (.ix (.v 7) (.ki 0)) (S K7 b e) []=.ok (.int f0,.fr,[]):=fun b e=>by
  simp! [S,K7,Bg]
 obtain ⟨P,hP,c8⟩:=ls (ms:=ms) (L:=L) (by omega) f0 hf00
 have s8:cF [cb ms,cq ms] [] ms (.set (.n 8) (.call 0 #v[.ix (.v 7) (.ki 0),.v 0])) (S K7 x8 x9) []=.ok (.nx (S K7 (some ⟨.fr,.tup (P.map nD)⟩) x9) []) :=
  cD (t:=.fr) (dr (s1:=[]) (ds:=[.int f0,nD L]) rfl (ux (e70 _ _) rfl (.inl rfl) (.inl rfl)) c8) (.inl rfl) rfl
 let V8:List Nat→Option Sl:=fun P=>some ⟨.fr,.tup (P.map nD)⟩
 let V9:List Nat→Option Sl:=fun G=>some ⟨.fr,.lst (G.map nD)⟩
 have rL:∀ a b e,gM [cb ms,cq ms] [] (.rng1 (.v 0)) (S a b e) []=.ok ((List.range L).map nD,[]):=fun a b e=>w6 (t:=.bo) rfl (by omega)
 obtain ⟨G1,g1l,g1b,e9⟩:=j9 (fs:=[cb ms,cq ms]) (gs:=[]) (own:=[10]) (k:=10) (e:=.bin .mod (.ix (.v 7) (.bin .add (.ki 1) (.v 10))) (.v 3)) (l:=S K7 (V8 P) x9) (ds:=List.range L) (n:=n) (by rw [am]; omega) rfl (rL _ _ _) (fun k=>[some ⟨.bo,nD L⟩,some ⟨.bo,.int c⟩,some ⟨.fr,.lst (nu.map D.int)⟩,some ⟨.fr,nD n⟩,some ⟨.fr,.int kd⟩,some ⟨.ow,.lst (rs.map fO)⟩,some ⟨.fr,nD at_⟩,K7,V8 P,x9,some ⟨.fr,nD k⟩,none]) (fun _=>rfl) (fun k hk=>by
  have hk:=aC.mp hk
  obtain ⟨y,y1,y2⟩:=lw (x:=pk.getD (1+k) 0) hn0
  refine ⟨y,y1,?_⟩
  have ex:(1:Int)+(k:Int)=((1+k:Nat):Int):=by omega
  show _=R.ok (D.int (y:Int),Tag.fr,[])
  rw [← y2]
  refine dP (d:=.int (pk.getD (1+k) 0)) (t:=.fr) (s1:=[]) (dB (d:=.lst (pk.map D.int)) (d2:=.int ((1+k:Nat):Int)) (t:=.fr) (t2:=.fr) (s1:=[]) (s2:=[]) rfl ?_ (mY pk (1+k) (by omega) [])) (d2:=nD n) (t2:=.fr) (s2:=[]) rfl (gF _ _ _ (by omega))
  rw [← ex]
  rfl)
 rw [am] at g1l
 have s9:cF [cb ms,cq ms] [] ms (.set (.n 9) (.comp [10] (.n 10) (.rng1 (.v 0)) .nil (.bin .mod (.ix (.v 7) (.bin .add (.ki 1) (.v 10))) (.v 3)))) (S K7 (V8 P) x9) []=.ok (.nx (S K7 (V8 P) (V9 G1)) []):=cD (t:=.nw) e9 (.inr (.inl rfl)) rfl
 obtain ⟨G2,g2l,g2b,sX⟩:∃ G2:List Nat,G2.length=L∧(∀ y∈G2,y < n)∧cF [cb ms,cq ms] [] ms (.ife (.cmp .eq (.v 4) (.ki 1))
   #v[.set (.n 9) (.comp [11] (.n 11) (.it (.v 9)) .nil (.bi .min2 #v[.bin .sub (.v 3) (.ki 1),.bin .add (.bin .add (.v 6) (.ki 1)) (.v 11)]))] .nil) (S K7 (V8 P) (V9 G1)) []=.ok (.nx (S K7 (V8 P) (V9 G2)) []):=by
  by_cases h1:kd=1
  ·obtain ⟨G2,g2l,g2b,e⟩:=j9 (fs:=[cb ms,cq ms]) (gs:=[]) (own:=[11]) (k:=11) (e:=.bi .min2 #v[.bin .sub (.v 3) (.ki 1),.bin .add (.bin .add (.v 6) (.ki 1)) (.v 11)]) (it:=.it (.v 9)) (l:=S K7 (V8 P) (V9 G1)) (ds:=G1) (n:=n) (by omega) rfl (m4 (t:=.fr) rfl (by intro q; cases q)) (fun k=>[some ⟨.bo,nD L⟩,some ⟨.bo,.int c⟩,some ⟨.fr,.lst (nu.map D.int)⟩,some ⟨.fr,nD n⟩,some ⟨.fr,.int kd⟩,some ⟨.ow,.lst (rs.map fO)⟩,some ⟨.fr,nD at_⟩,K7,V8 P,V9 G1,none,some ⟨.fr,nD k⟩]) (fun _=>rfl) (fun k hk=>by
    refine ⟨min (n - 1) (at_+1+k),by omega,?_⟩
    have e:b9 [cb ms,cq ms] [] (.bi .min2 #v[.bin .sub (.v 3) (.ki 1),.bin .add (.bin .add (.v 6) (.ki 1)) (.v 11)]) [some ⟨.bo,nD L⟩,some ⟨.bo,.int c⟩,some ⟨.fr,.lst (nu.map D.int)⟩,some ⟨.fr,nD n⟩,some ⟨.fr,.int kd⟩,some ⟨.ow,.lst (rs.map fO)⟩,some ⟨.fr,nD at_⟩,K7,V8 P,V9 G1,none,some ⟨.fr,nD k⟩] []=.ok (.int (if (at_:Int)+1+(k:Int) < (n:Int) - 1 then (at_:Int)+1+(k:Int) else (n:Int) - 1),.fr,[]):=rfl
    rw [e]
    have q:(if (at_:Int)+1+(k:Int) < (n:Int) - 1 then (at_:Int)+1+(k:Int) else (n:Int) - 1)=((min (n - 1) (at_+1+k):Nat):Int):=by split <;> omega
    rw [q])
   exact ⟨G2,by rw [g2l]; exact g1l,g2b,(gX (s1:=[]) (de (t:=.fr) (cV (d:=.int kd) (d2:=.int 1) (t:=.fr) (t2:=.fr) (s1:=[]) (s2:=[]) rfl rfl (by rw [gr,aF h1]; rfl)))).trans ((b7 (cD (t:=.nw) e (.inr (.inl rfl)) rfl)).trans cp)⟩
  ·exact ⟨G1,g1l,g1b,(dG (s1:=[]) (de (t:=.fr) (cV (d:=.int kd) (d2:=.int 1) (t:=.fr) (t2:=.fr) (s1:=[]) (s2:=[]) rfl rfl (by rw [gr,aE h1]; rfl)))).trans cp⟩
 obtain ⟨G3,g3l,g3b,vA⟩:∃ G3:List Nat,G3.length=L∧(∀ y∈G3,y < n)∧cF [cb ms,cq ms] [] ms (.ife (.cmp .eq (.v 4) (.ki 2))
   #v[.set (.n 9) (.comp [10] (.n 10) (.rng1 (.v 0)) .nil (.ite (.cmp .eq (.v 10) (.bin .mod (.bin .fdiv (.ix (.v 7) (.ki 0)) (.ki 120)) (.v 0))) (.ix (.v 9) (.v 10)) (.bin .sub (.v 3) (.ki 1))))] .nil) (S K7 (V8 P) (V9 G2)) []=.ok (.nx (S K7 (V8 P) (V9 G3)) []):=by
  by_cases h1:kd=2
  ·obtain ⟨G3,g3l,g3b,e⟩:=j9 (fs:=[cb ms,cq ms]) (gs:=[]) (own:=[10]) (k:=10) (e:=.ite (.cmp .eq (.v 10) (.bin .mod (.bin .fdiv (.ix (.v 7) (.ki 0)) (.ki 120)) (.v 0))) (.ix (.v 9) (.v 10)) (.bin .sub (.v 3) (.ki 1))) (it:=.rng1 (.v 0)) (l:=S K7 (V8 P) (V9 G2)) (ds:=List.range L) (n:=n) (by rw [am]; omega) rfl (rL _ _ _) (fun k=>[some ⟨.bo,nD L⟩,some ⟨.bo,.int c⟩,some ⟨.fr,.lst (nu.map D.int)⟩,some ⟨.fr,nD n⟩,some ⟨.fr,.int kd⟩,some ⟨.ow,.lst (rs.map fO)⟩,some ⟨.fr,nD at_⟩,K7,V8 P,V9 G2,some ⟨.fr,nD k⟩,none]) (fun _=>rfl) (fun k hk=>by
    have hk:=aC.mp hk
    have e1:b9 [cb ms,cq ms] [] (.cmp .eq (.v 10) (.bin .mod (.bin .fdiv (.ix (.v 7) (.ki 0)) (.ki 120)) (.v 0))) [some ⟨.bo,nD L⟩,some ⟨.bo,.int c⟩,some ⟨.fr,.lst (nu.map D.int)⟩,some ⟨.fr,nD n⟩,some ⟨.fr,.int kd⟩,some ⟨.ow,.lst (rs.map fO)⟩,some ⟨.fr,nD at_⟩,K7,V8 P,V9 G2,some ⟨.fr,nD k⟩,none] []=.ok (.bl (decide ((k:Int)=f0 / 120 % (L:Int))),.fr,[]):=by
     refine cV (d:=nD k) (t:=.fr) (s1:=[]) (d2:=.int (f0 / 120 % (L:Int))) (t2:=.fr) (s2:=[]) rfl (dP (d:=.int (f0 / 120)) (t:=.fr) (s1:=[]) (dP (d:=.int f0) (t:=.fr) (s1:=[]) ?_ (d2:=.int 120) (t2:=.fr) (s2:=[]) rfl (iC _ _ _ ⟨by decide,by decide⟩)) (d2:=nD L) (t2:=.bo) (s2:=[]) rfl (gF _ _ _ (by omega))) (by rw [gr]; rfl)
     simp! [K7,Bg]
    by_cases h2:(k:Int)=f0 / 120 % (L:Int)
    ·rw [aF h2] at e1
     refine ⟨G2.getD k 0,g2b _ (dH (by omega)),?_⟩
     show (b9 [cb ms,cq ms] [] (.cmp .eq (.v 10) (.bin .mod (.bin .fdiv (.ix (.v 7) (.ki 0)) (.ki 120)) (.v 0))) _ []).bind _=_
     rw [e1,cJ]
     exact dB (d:=.lst (G2.map nD)) (d2:=nD k) (t:=.fr) (t2:=.fr) (s1:=[]) (s2:=[]) rfl rfl (iW (by omega) [])
    ·rw [aE h2] at e1
     refine ⟨n - 1,by omega,?_⟩
     show (b9 [cb ms,cq ms] [] (.cmp .eq (.v 10) (.bin .mod (.bin .fdiv (.ix (.v 7) (.ki 0)) (.ki 120)) (.v 0))) _ []).bind _=_
     rw [e1,cJ]
     show R.ok (D.int ((n:Int) - 1),Tag.fr,[])=_
     rw [show (n:Int) - 1=((n - 1:Nat):Int) by omega])
   rw [am] at g3l
   exact ⟨G3,g3l,g3b,(gX (s1:=[]) (de (t:=.fr) (cV (d:=.int kd) (d2:=.int 2) (t:=.fr) (t2:=.fr) (s1:=[]) (s2:=[]) rfl rfl (by rw [gr,aF h1]; rfl)))).trans ((b7 (cD (t:=.nw) e (.inr (.inl rfl)) rfl)).trans cp)⟩
  ·exact ⟨G2,g2l,g2b,(dG (s1:=[]) (de (t:=.fr) (cV (d:=.int kd) (d2:=.int 2) (t:=.fr) (t2:=.fr) (s1:=[]) (s2:=[]) rfl rfl (by rw [gr,aE h1]; rfl)))).trans cp⟩
 obtain ⟨b1,hb1⟩:∃ b1,∀ a b e,b9 [cb ms,cq ms] [] (.and #v[.chn .le .le (.ki 1) (.v 4) (.ki 3),.cmp .eq (.v 6) (.bin .sub (.v 3) (.ki 1))]) (S a b e) []=.ok (.bl b1,.fr,[]):=by
  refine ⟨(decide (1≤kd) && decide (kd≤3)) && decide ((at_:Int)=(n:Int) - 1),fun a b e=>Do (t:=.fr) (t2:=.fr) ?_ (cV (d:=nD at_) (d2:=.int ((n:Int) - 1)) (t:=.fr) (t2:=.fr) (s1:=[]) (s2:=[]) rfl rfl (by rw [gr]; rfl))⟩
  by_cases h1:1≤kd
  ·simp! [S,h1,Bool.true_and]
  ·simp! [S,h1,Bool.false_and]
 obtain ⟨P2,hP2,xB⟩:∃ P2,Turn L P2∧cF [cb ms,cq ms] [] ms (.ife (.or #v[.and #v[.chn .le .le (.ki 1) (.v 4) (.ki 3),.cmp .eq (.v 6) (.bin .sub (.v 3) (.ki 1))],.and #v[.cmp .eq (.v 4) (.ki 4),.cmp .eq (.bin .mod (.ix (.v 7) (.ki 0)) (.ki 2)) (.ki 1)]])
   #v[.set (.n 8) (.tupI (.rng1 (.v 0)))] .nil) (S K7 (V8 P) (V9 G3)) []=.ok (.nx (S K7 (V8 P2) (V9 G3)) []):=by
  have e2:=Ic (hb1 K7 (V8 P) (V9 G3)) (Do (a:=.cmp .eq (.v 4) (.ki 4)) (b:=.cmp .eq (.bin .mod (.ix (.v 7) (.ki 0)) (.ki 2)) (.ki 1)) (p:=decide (kd=4)) (q:=decide (f0 % 2=1)) (t:=.fr) (t2:=.fr) (cV (d:=.int kd) (d2:=.int 4) (t:=.fr) (t2:=.fr) (s1:=[]) (s2:=[]) rfl rfl (by rw [gr]; rfl)) (cV (d:=.int (f0 % 2)) (d2:=.int 1) (t:=.fr) (t2:=.fr) (s1:=[]) (s2:=[]) (dP (e70 _ _) rfl (gF _ _ _ (by decide))) rfl (by rw [gr]; rfl)))
  generalize (b1 || decide (kd=4) && decide (f0 % 2=1))=b2 at e2
  cases b2 with
  | false=>exact ⟨P,hP,(dG (de e2)).trans cp⟩
  | true =>
   refine ⟨List.range L,List.Perm.refl _,(gX (de e2)).trans ((b7 (cD (t:=.fr) (d:=.tup ((List.range L).map nD)) (s1:=[]) ?_ (.inl rfl) rfl)).trans cp)⟩
   show (gM [cb ms,cq ms] [] (.rng1 (.v 0)) _ []).bind (fun (ds,s1)=>if ds.length≤16777216 then cr (.tup ds) s1 else .no)=_
   rw [rL,cJ]
   show (if ((List.range L).map nD).length≤16777216 then _ else _)=_
   rw [aj (by rw [ac,am]; omega)]
   rfl
 obtain ⟨G4,g4l,g4b,xC⟩:∃ G4:List Nat,G4.length=L∧(∀ y∈G4,y < n)∧cF [cb ms,cq ms] [] ms (.ife (.and #v[.chn .le .le (.ki 1) (.v 4) (.ki 3),.cmp .eq (.v 6) (.bin .sub (.v 3) (.ki 1))])
   #v[.set (.n 9) (.bin .mul (.lst #v[.v 6]) (.v 0))] .nil) (S K7 (V8 P2) (V9 G3)) []=.ok (.nx (S K7 (V8 P2) (V9 G4)) []):=by
  have e2:=hb1 K7 (V8 P2) (V9 G3)
  cases b1 with
  | false=>exact ⟨G3,g3l,g3b,(dG (de e2)).trans cp⟩
  | true =>
   refine ⟨List.replicate L at_,List.length_replicate,fun y hy=>by rw [(List.mem_replicate.mp hy).2]; exact hat,(gX (de e2)).trans ((b7 (cD (t:=.nw) (d:=.lst ((List.replicate L at_).map nD)) (s1:=[]) ?_ (.inr (.inl rfl)) rfl)).trans cp)⟩
   have el:b9 [cb ms,cq ms] [] (.lst #v[.v 6]) (S K7 (V8 P2) (V9 G3)) []=.ok (.lst [nD at_],.nw,[]):=by
    have:1≤sizeLine:=by omega
    simp! [S,this]
   have em:=wB [nD at_] (L:Int) [] ⟨by omega,by omega,by show 1*((L:Int)).toNat≤sizeLine; rw [aT]; omega⟩
   have e3:(List.replicate ((L:Int)).toNat [nD at_]).flatten=(List.replicate L at_).map nD:=by
    rw [aT,List.map_replicate,qX]
   rw [← e3]
   exact dP el (d2:=nD L) (t2:=.bo) (s2:=[]) rfl em
 refine ⟨(P2,G4),K7,V8 P2,V9 G4,⟨hP2,g4l,g4b⟩,?_⟩
 refine (b7 s7).trans ((b7 s8).trans ((b7 s9).trans ((b7 sX).trans ((b7 vA).trans ((b7 xB).trans ((b7 xC).trans ((b7 (app_ok (ds:=rs.map fO) (d:=fO (P2,G4)) (t:=.fr) (s1:=[]) rfl (kQ (d:=.tup (P2.map nD)) (d2:=.tup (G4.map nD)) rfl (gu (t:=.fr) rfl)) (.inl rfl) (by rw [ac]; omega))).trans ?_)))))))
 rw [eZ]
 rfl
theorem nr (hL:2≤L) (hL5:L≤5) (c:Int):∃ M,fI L M∧1≤M.length∧M.length≤8∧(gz ms).run [nD L,.int c]=.ok (.lst (M.map fO),.nw):=by
 have big:=sizeLine_eq
 obtain ⟨nu,hnu,hnl,hnb⟩:=oO (ms:=ms) c 64 (by decide)
 have hnu:(cq ms).run [.int c,.int 64]=.ok (.lst (nu.map D.int),.nw):=hnu
 obtain ⟨n0,hn0⟩:∃ n0:Int,nu.getD 0 0=n0:=⟨_,rfl⟩
 obtain ⟨n1,hn1⟩:∃ n1:Int,nu.getD 1 0=n1:=⟨_,rfl⟩
 have x0:∀ s,jQ (.lst (nu.map D.int)) (.int 0) s=cr (.int n0) s:=fun s=>by
  have:=mY nu 0 (by omega) s
  rw [hn0] at this
  exact this
 have x1:∀ s,jQ (.lst (nu.map D.int)) (.int 1) s=cr (.int n1) s:=fun s=>by
  have:=mY nu 1 (by omega) s
  rw [hn1] at this
  exact this
 obtain ⟨n,hn⟩:=bm (show 0≤1+n0 % 8 by omega)
 have hn1':1≤n:=by omega
 have hn8:n≤8:=by omega
 let LL:(Mach × Option Sl × Option Sl × Option Sl × Option Sl)→Lc:=fun t=>[some ⟨.bo,nD L⟩,some ⟨.bo,.int c⟩,some ⟨.fr,.lst (nu.map D.int)⟩,some ⟨.fr,nD n⟩,some ⟨.fr,.int (n1 % 6)⟩,some ⟨.ow,.lst (t.1.map fO)⟩,t.2.1,t.2.2.1,t.2.2.2.1,t.2.2.2.2,none,none]
 obtain ⟨t',h1,h2,h3⟩:=gx (body:=fun d l s=>match T.put (.n 6) d l with | some l1=>cF [cb ms,cq ms] [] ms _ l1 s | none=>.no) nD LL (fun pr t=>(∀ r∈t.1,qY L n r)∧t.1.length=pr.length) (List.range n) (fun pr x r t hx ⟨i1,i2⟩=>by
  have hpl:pr.length < n:=by
   have:=bD List.length hx
   rw [am,ae,aw] at this
   omega
  have hxn:x < n:=aC.mp (by rw [hx]; exact ao _ ap)
  obtain ⟨rw_,y7,y8,y9,q1,q2⟩:=sD (ms:=ms) hL hL5 (c:=c) hnl hnb hn8 (kd:=n1 % 6) (rs:=t.1) hxn (by omega) t.2.2.1 t.2.2.2.1 t.2.2.2.2
  exact ⟨(t.1++[rw_],some ⟨.fr,nD x⟩,y7,y8,y9),q2,fun r hr=>by
   rcases aR.mp hr with q | q
   ·exact i1 r q
   ·rw [ah.mp q]; exact q1,by rw [ae,ae,i2]; rfl⟩) ([],none,none,none,none) ⟨(by intro r hr; cases hr),rfl⟩
 have h3:t'.1.length=n:=by rw [h3,am]
 refine ⟨t'.1,uK h2 h3,by omega,by omega,cH (s:=[]) rfl ?_⟩
 refine (b7 (l1:=[some ⟨.bo,nD L⟩,some ⟨.bo,.int c⟩,some ⟨.fr,.lst (nu.map D.int)⟩,none,none,none,none,none,none,none,none,none]) (s1:=[]) (cD (t:=.nw) (dr (s1:=[]) (ds:=[.int c,.int 64]) rfl (ux rfl rfl (.inl rfl) (.inl rfl)) hnu) (.inr (.inl rfl)) rfl)).trans ?_
 refine (b7 (l1:=[some ⟨.bo,nD L⟩,some ⟨.bo,.int c⟩,some ⟨.fr,.lst (nu.map D.int)⟩,some ⟨.fr,nD n⟩,none,none,none,none,none,none,none,none]) (s1:=[]) (cD (t:=.fr) (d:=nD n) (s1:=[]) ?_ (.inl rfl) rfl)).trans ?_
 ·show _=R.ok (D.int (n:Int),Tag.fr,[])
  rw [← hn]
  simp! [x0]
 refine (b7 (l1:=[some ⟨.bo,nD L⟩,some ⟨.bo,.int c⟩,some ⟨.fr,.lst (nu.map D.int)⟩,some ⟨.fr,nD n⟩,some ⟨.fr,.int (n1 % 6)⟩,none,none,none,none,none,none,none]) (s1:=[]) (cD (t:=.fr) (d:=.int (n1 % 6)) (s1:=[]) ?_ (.inl rfl) rfl)).trans ?_
 ·simp! [x1]
 refine (b7 (l1:=LL ([],none,none,none,none)) (s1:=[]) (dD (d:=.lst []) ?_)).trans ?_
 ·simp! [aW]
 refine (b7 ((dA (w6 (t:=.fr) rfl (by omega))).trans h1)).trans (cI (cY (t:=.ow) rfl rfl))
end
-- _law_guise(_law_letters_here,_law_cell_here): slots 0=_law_letters_here 1=_law_cell_here
def f8:S:=#v[.ret (.call 0 #v[.call 1 #v[.v 0,.v 1],.ki 0])]
noncomputable def fA (ms:Str→Str→Option Bool):Fn:=.self [ib ms,gz ms] [] ms f8 [false,false] 2 2
-- _law_ample(_law_letters_here,_law_cell_here): slots 0=_law_letters_here 1=_law_cell_here 2=_law_nums 3=_law_many 4=_law_rows_here 5=_law_at 6=_law_goings 7=_law_k
theorem sE {L:Nat} {F M:Mach} {s:Nat} (hF:Form L F) (hM:MOk L M) (hs:s < M.length) (h0:Eqv L F 0 M s):∀ m,m < F.length→∃ a,a < M.length∧Eqv L F m M a:=by
 intro m
 induction m using Nat.strongRecOn with
 | _ m ih =>
  intro hm
  rcases bX m with rfl | m0
  ·exact ⟨s,hs,h0⟩
  obtain ⟨j,k,hj,hk,e,_⟩:=hF.fo m m0 hm
  obtain ⟨a,ha,hE⟩:=ih j hj (by omega)
  refine ⟨M.nx a k,hM.nx_lt ha hk,?_⟩
  have:=hE.nx hk
  rw [e] at this
  exact this

structure Guise (L:Nat) (F:Mach):Prop where
 fm:Form L F
 tn:∀ s,s < F.length→Turn L (F.fst s)
theorem uL {L:Nat} {F M:Mach} {s:Nat} (hF:Form L F) (hM:fI L M) (hs:s < M.length) (h0:Eqv L F 0 M s):Guise L F:=⟨hF,fun m hm=>by
 obtain ⟨a,ha,hE⟩:=sE hF hM.1 hs h0 m hm
 rw [hE.fst]
 exact hM.2 a ha⟩
theorem Guise.mt {L:Nat} {F:Mach} (h:Guise L F):fI L F:=⟨h.fm.ok,h.tn⟩
section
variable {ms:Str→Str→Option Bool} {L:Nat}
theorem sG (hL:2≤L) (hL5:L≤5) (c:Int):∃ F,Guise L F∧F.length≤8∧(fA ms).run [nD L,.int c]=.ok (.tup (F.map fO),.fr):=by
 obtain ⟨M,hM,m1,m8,c1⟩:=nr (ms:=ms) hL hL5 c
 obtain ⟨F,f1,f2,f3,c2⟩:=qf (ms:=ms) (s:=0) hM.1 (by omega) (by omega) (.inl rfl) (by omega)
 refine ⟨F,uL f1 hM (by omega) f2,by omega,cH (s:=[]) rfl (cI (cY (t:=.fr) (dr (s1:=[]) (ds:=[.lst (M.map fO),nD 0]) rfl ?_ c2) rfl))⟩
 exact ux (t:=.nw) (t2:=.fr) (dr (s1:=[]) (ds:=[nD L,.int c]) rfl (ux rfl rfl (.inl rfl) (.inl rfl)) c1) rfl (.inl rfl) (.inr (.inl rfl))

end
-- _law_word(_law_letters_here,_law_cell_here,_law_most): slots 0=_law_letters_here 1=_law_cell_here 2=_law_most 3=_law_nums 4=_law_pick
-- check_word(letters,word): slots 0=letters 1=word 2=letter
def fJ:S:=#v[.loop (.n 2) (.it (.v 1))
 #v[.ife (.or #v[.cmp .lt (.v 2) (.ki 0),.cmp .ge (.v 2) (.v 0)])
 #v[.rse "BadWord"]
 .nil]]
noncomputable def fK (ms:Str→Str→Option Bool):Fn:=.self [] [] ms fJ [false,false] 2 3
theorem lT (ms:Str→Str→Option Bool):(fK ms).kp=[false,false]:=rfl

section
variable {ms:Str→Str→Option Bool} {L:Nat}
theorem iX (w:List Nat):w.map nD=(w.map fun n:Nat=>(n:Int)).map D.int:=by rw [aU]; rfl
end
-- _law_read(_law_rows_here,_law_at,_law_word_here): slots 0=_law_rows_here 1=_law_at 2=_law_word_here 3=_law_made 4=_law_letter
def eO:S:=#v[.own 3 (.lst .nil),.loop (.n 4) (.it (.v 2))
 #v[.app 3 (.ix (.ix (.ix (.v 0) (.v 1)) (.ki 0)) (.v 4)),.set (.n 1) (.ix (.ix (.ix (.v 0) (.v 1)) (.ki 1)) (.v 4))],.ret (.tup #v[.bi .tuple #v[.v 3],.v 1])]
noncomputable def fL (ms:Str→Str→Option Bool):Fn:=.self [] [] ms eO [false,true,false] 3 5
-- breadth(guise): slots 0=guise
def gZ:S:=#v[.ret (.bi .len #v[.ix (.ix (.v 0) (.ki 0)) (.ki 0)])]
noncomputable def gf (ms:Str→Str→Option Bool):Fn:=.self [] [] ms gZ [false] 1 1
-- worn_from(guise,at,word): slots 0=guise 1=at 2=word 3=made 4=letter 5=first 6=goings
def f9:S:=#v[.own 3 (.lst .nil),.loop (.n 4) (.it (.v 2))
 #v[.set (.t #v[.n 5,.n 6]) (.ix (.v 0) (.v 1)),.app 3 (.ix (.v 5) (.v 4)),.set (.n 1) (.ix (.v 6) (.v 4))],.ret (.bi .tuple #v[.v 3])]
noncomputable def gH (ms:Str→Str→Option Bool):Fn:=.self [] [] ms f9 [false,false,false] 3 7
-- worn(guise,word): slots 0=guise 1=word

def Mach.out (M:Mach):Nat→List Nat→List Nat
 | _,[]=>[]
 | s,a :: w=>(M.fst s).getD a 0 :: Mach.out M (M.nx s a) w

def Mach.go (M:Mach):Nat→List Nat→Nat
 | s,[]=>s
 | s,a :: w=>Mach.go M (M.nx s a) w
section
variable {M N:Mach} {L:Nat}
theorem nt:∀ (v w:List Nat) (s:Nat),Mach.out M s (v++w)=Mach.out M s v++Mach.out M (Mach.go M s v) w
 | [],w,s=>rfl
 | a :: v,w,s=>by
  show (M.fst s).getD a 0 :: Mach.out M (M.nx s a) (v++w)=(M.fst s).getD a 0 :: (Mach.out M (M.nx s a) v++Mach.out M (Mach.go M (M.nx s a) v) w)
  rw [nt v w]
theorem qh:∀ (v w:List Nat) (s:Nat),Mach.go M s (v++w)=Mach.go M (Mach.go M s v) w
 | [],w,s=>rfl
 | a :: v,w,s=>qh v w (M.nx s a)
theorem iY:∀ (w:List Nat) (s:Nat),(Mach.out M s w).length=w.length
 | [],_=>rfl
 | a :: w,s=>by
  show (Mach.out M (M.nx s a) w).length+1=w.length+1
  rw [iY w]
theorem uM (hM:MOk L M):∀ (w:List Nat) (s:Nat),s < M.length→(∀ x∈w,x < L)→Mach.go M s w < M.length
 | [],s,hs,_=>hs
 | a :: w,s,hs,hw=>uM hM w _ (hM.nx_lt hs (hw a ap)) fun x hx=>hw x (av _ hx)
theorem lx (hM:MOk L M):∀ (w:List Nat) (s:Nat),s < M.length→(∀ x∈w,x < L)→∀ x∈Mach.out M s w,x < L
 | [],_,_,_,x,hx=>by cases hx
 | a :: w,s,hs,hw,x,hx=>by
  rcases aB.mp hx with rfl | hx
  ·obtain ⟨q1,_,q3,_⟩:=hM s hs
   exact q3 _ (dH (by rw [q1]; exact hw a ap))
  ·exact lx hM w _ (hM.nx_lt hs (hw a ap)) (fun x hx=>hw x (av _ hx)) x hx
theorem Eqv.out {s t:Nat} (h:Eqv L M s N t):∀ (w:List Nat),(∀ x∈w,x < L)→Mach.out M s w=Mach.out N t w:=by
 intro w
 induction w generalizing s t with
 | nil=>intro _; rfl
 | cons a w ih =>
  intro hw
  show (M.fst s).getD a 0 :: Mach.out M (M.nx s a) w=(N.fst t).getD a 0 :: Mach.out N (N.nx t a) w
  rw [h.fst,ih (h.nx (hw a ap)) fun x hx=>hw x (av _ hx)]
theorem Eqv.go {s t:Nat} (h:Eqv L M s N t):∀ (w:List Nat),(∀ x∈w,x < L)→Eqv L M (Mach.go M s w) N (Mach.go N t w):=by
 intro w
 induction w generalizing s t with
 | nil=>intro _; exact h
 | cons a w ih =>
  intro hw
  exact ih (h.nx (hw a ap)) fun x hx=>hw x (av _ hx)
end
section
variable {ms:Str→Str→Option Bool} {L s:Nat} {M:Mach} {d:D}
theorem iH (hM:MOk L M) (h0:0 < M.length) (hd:gY d M):(gf ms).run [d]=.ok (nD L,.fr):=by
 refine cH (s:=[]) rfl (cI (cY (t:=.fr) ?_ rfl))
 have e:=j8 (fs:=[]) (gs:=[]) (a:=.v 0) (b:=.ki 0) (l:=[some ⟨.bo,d⟩]) (n:=0) hd h0 (t:=.bo) (t2:=.fr) rfl rfl
 show (fE [] [] #v[.ix (.ix (.v 0) (.ki 0)) (.ki 0)] [] [some ⟨.bo,d⟩] []).bind _=_
 rw [cw e (.inl rfl) rfl,cJ]
 show cr (.int ((M.fst 0).map nD).length) []=_
 rw [ac,(hM 0 h0).1]
 rfl
theorem nv (hM:MOk L M) (hs:s < M.length) (hd:gY d M) (w:List Nat) (hw:∀ x∈w,x < L) (hz:w.length≤100000):(fL ms).run [d,nD s,.tup (w.map nD)]=.ok (.tup [.tup ((Mach.out M s w).map nD),nD (Mach.go M s w)],.fr):=by
 have big:=sizeLine_eq
 let LL:(Nat × List Nat × Option Sl)→Lc:=fun t=>[some ⟨.bo,d⟩,some ⟨.fr,nD t.1⟩,some ⟨.bo,.tup (w.map nD)⟩,some ⟨.ow,.lst (t.2.1.map nD)⟩,t.2.2]
 obtain ⟨⟨at_,made,x4⟩,h1,h2,h3⟩:=gx (body:=fun d l s=>match T.put (.n 4) d l with | some l1=>cF [] [] ms #v[.app 3 (.ix (.ix (.ix (.v 0) (.v 1)) (.ki 0)) (.v 4)),.set (.n 1) (.ix (.ix (.ix (.v 0) (.v 1)) (.ki 1)) (.v 4))] l1 s | none=>.no) nD LL
  (fun pr t=>t.1=Mach.go M s pr∧t.2.1=Mach.out M s pr) w (fun pr x r t hx ⟨i1,i2⟩=>by
   have hxL:x < L:=hw x (by rw [hx]; exact ao _ ap)
   have hpr:∀ y∈pr,y < L:=fun y hy=>hw y (by rw [hx]; exact aG _ hy)
   have hat:t.1 < M.length:=by rw [i1]; exact uM hM pr s hs hpr
   obtain ⟨q1,q2,_,_⟩:=hM t.1 hat
   have hpl:pr.length < w.length:=by rw [hx,ae,aw]; omega
   have hz2:(t.2.1.map nD).length < sizeLine:=by rw [i2,ac,iY]; omega
   refine ⟨(M.nx t.1 x,t.2.1++[(M.fst t.1).getD x 0],some ⟨.fr,nD x⟩),(b7 (l1:=LL (t.1,t.2.1++[(M.fst t.1).getD x 0],some ⟨.fr,nD x⟩)) (s1:=[]) ((app_ok (ds:=t.2.1.map nD) (d:=nD ((M.fst t.1).getD x 0)) (t:=.fr) (s1:=[]) rfl (dB (j8 hd hat (t:=.bo) (t2:=.fr) rfl rfl) (d2:=nD x) (t2:=.fr) (s2:=[]) rfl (nf (by omega) [])) (.inl rfl) hz2).trans ?_)).trans ((b7 (cD (t:=.fr) (dB (ng hd hat (t:=.bo) (t2:=.fr) rfl rfl) (d2:=nD x) (t2:=.fr) (s2:=[]) rfl (nf (by omega) [])) (.inl rfl) rfl)).trans cp),?_,?_⟩
   ·show R.ok (Out.nx [some ⟨.bo,d⟩,some ⟨.fr,nD t.1⟩,some ⟨.bo,.tup (w.map nD)⟩,some ⟨.ow,.lst (t.2.1.map nD++[nD ((M.fst t.1).getD x 0)])⟩,some ⟨.fr,nD x⟩] [])=R.ok (Out.nx [some ⟨.bo,d⟩,some ⟨.fr,nD t.1⟩,some ⟨.bo,.tup (w.map nD)⟩,some ⟨.ow,.lst ((t.2.1++[(M.fst t.1).getD x 0]).map nD)⟩,some ⟨.fr,nD x⟩] [])
    rw [eZ]
   ·show M.nx t.1 x=_
    rw [qh,← i1]
    rfl
   ·show t.2.1++[(M.fst t.1).getD x 0]=_
    rw [nt,← i1,i2]
    rfl) (s,[],none) ⟨rfl,rfl⟩
 have h2:at_=Mach.go M s w:=h2
 have h3:made=Mach.out M s w:=h3
 refine cH (s:=[]) rfl ((b7 (l1:=LL (s,[],none)) (s1:=[]) (dD (d:=.lst []) ?_)).trans ((b7 ((dA (iE (t:=.bo) rfl (by intro q; cases q))).trans h1)).trans (cI (cY (t:=.fr) (kQ (d:=.tup ((Mach.out M s w).map nD)) (d2:=nD (Mach.go M s w)) (gu (t:=.ow) ?_) ?_) rfl))))
 ·simp! [aW]
 ·rw [← h3]; rfl
 ·rw [← h2]; rfl
theorem lU (hM:MOk L M) (hs:s < M.length) (hd:gY d M) (w:List Nat) (hw:∀ x∈w,x < L) (hz:w.length≤100000):(gH ms).run [d,nD s,.tup (w.map nD)]=.ok (.tup ((Mach.out M s w).map nD),.fr):=by
 have big:=sizeLine_eq
 let LL:(Tag × Nat × List Nat × Option Sl × Option Sl × Option Sl)→Lc:=fun t=>[some ⟨.bo,d⟩,some ⟨t.1,nD t.2.1⟩,some ⟨.bo,.tup (w.map nD)⟩,some ⟨.ow,.lst (t.2.2.1.map nD)⟩,t.2.2.2.1,t.2.2.2.2.1,t.2.2.2.2.2]
 obtain ⟨⟨tg,at_,made,x4,x5,x6⟩,h1,h2,h3⟩:=gx (body:=fun d l s=>match T.put (.n 4) d l with | some l1=>cF [] [] ms #v[.set (.t #v[.n 5,.n 6]) (.ix (.v 0) (.v 1)),.app 3 (.ix (.v 5) (.v 4)),.set (.n 1) (.ix (.v 6) (.v 4))] l1 s | none=>.no) nD LL
  (fun pr t=>t.2.1=Mach.go M s pr∧t.2.2.1=Mach.out M s pr) w (fun pr x r t hx ⟨i1,i2⟩=>by
   have hxL:x < L:=hw x (by rw [hx]; exact ao _ ap)
   have hpr:∀ y∈pr,y < L:=fun y hy=>hw y (by rw [hx]; exact aG _ hy)
   have hat:t.2.1 < M.length:=by rw [i1]; exact uM hM pr s hs hpr
   obtain ⟨q1,q2,_,_⟩:=hM t.2.1 hat
   have hpl:pr.length < w.length:=by rw [hx,ae,aw]; omega
   have hz2:(t.2.2.1.map nD).length < sizeLine:=by rw [i2,ac,iY]; omega
   refine ⟨(.fr,M.nx t.2.1 x,t.2.2.1++[(M.fst t.2.1).getD x 0],some ⟨.fr,nD x⟩,some ⟨.fr,.tup ((M.fst t.2.1).map nD)⟩,some ⟨.fr,.tup ((M.gos t.2.1).map nD)⟩),(b7 (l1:=LL (t.1,t.2.1,t.2.2.1,some ⟨.fr,nD x⟩,some ⟨.fr,.tup ((M.fst t.2.1).map nD)⟩,some ⟨.fr,.tup ((M.gos t.2.1).map nD)⟩)) (s1:=[]) (cD (t:=.fr) (d:=fO (M.row t.2.1)) (dB (d:=d) (d2:=nD t.2.1) (t:=.bo) (t2:=t.1) (s1:=[]) (s2:=[]) rfl rfl (qc hd hat [])) (.inl rfl) rfl)).trans ((b7 (l1:=LL (t.1,t.2.1,t.2.2.1++[(M.fst t.2.1).getD x 0],some ⟨.fr,nD x⟩,some ⟨.fr,.tup ((M.fst t.2.1).map nD)⟩,some ⟨.fr,.tup ((M.gos t.2.1).map nD)⟩)) (s1:=[]) ((app_ok (ds:=t.2.2.1.map nD) (d:=nD ((M.fst t.2.1).getD x 0)) (t:=.fr) (s1:=[]) rfl (dB (d:=.tup ((M.fst t.2.1).map nD)) (t:=.fr) (s1:=[]) rfl (d2:=nD x) (t2:=.fr) (s2:=[]) rfl (nf (by omega) [])) (.inl rfl) hz2).trans ?_)).trans ((b7 (cD (t:=.fr) (d:=nD (M.nx t.2.1 x)) (dB (d:=.tup ((M.gos t.2.1).map nD)) (t:=.fr) (s1:=[]) rfl (d2:=nD x) (t2:=.fr) (s2:=[]) rfl (nf (by omega) [])) (.inl rfl) rfl)).trans cp)),?_,?_⟩
   ·show R.ok (Out.nx [some ⟨.bo,d⟩,some ⟨t.1,nD t.2.1⟩,some ⟨.bo,.tup (w.map nD)⟩,some ⟨.ow,.lst (t.2.2.1.map nD++[nD ((M.fst t.2.1).getD x 0)])⟩,some ⟨.fr,nD x⟩,some ⟨.fr,.tup ((M.fst t.2.1).map nD)⟩,some ⟨.fr,.tup ((M.gos t.2.1).map nD)⟩] [])=R.ok (Out.nx [some ⟨.bo,d⟩,some ⟨t.1,nD t.2.1⟩,some ⟨.bo,.tup (w.map nD)⟩,some ⟨.ow,.lst ((t.2.2.1++[(M.fst t.2.1).getD x 0]).map nD)⟩,some ⟨.fr,nD x⟩,some ⟨.fr,.tup ((M.fst t.2.1).map nD)⟩,some ⟨.fr,.tup ((M.gos t.2.1).map nD)⟩] [])
    rw [eZ]
   ·show M.nx t.2.1 x=_
    rw [qh,← i1]
    rfl
   ·show t.2.2.1++[(M.fst t.2.1).getD x 0]=_
    rw [nt,← i1,i2]
    rfl) (.bo,s,[],none,none,none) ⟨rfl,rfl⟩
 have h3:made=Mach.out M s w:=h3
 refine cH (s:=[]) rfl ((b7 (l1:=LL (.bo,s,[],none,none,none)) (s1:=[]) (dD (d:=.lst []) ?_)).trans ((b7 ((dA (iE (t:=.bo) rfl (by intro q; cases q))).trans h1)).trans (cI (cY (t:=.fr) (gu (t:=.ow) ?_) rfl))))
 ·simp! [aW]
 ·rw [← h3]; rfl
end
section
variable {fs:List Fn} {gs:List D} {a b c:X} {l:Lc} {t t2 t3:Tag} {xs:List D} {k m:Nat}
theorem Ar (h:b9 fs gs a l []=.ok (.tup xs,t,[])):b9 fs gs (.bi .len #v[a]) l []=.ok (.int (xs.length:Int),.fr,[]):=by
 show (fE fs gs #v[a] [] l []).bind _=_
 rw [cw h (.inl rfl) rfl]
 rfl
end
theorem Dq {a b:Int} (h:a=b) (s:cj):COp.run .eq (.int a) (.int b) s=.ok (.bl true,.fr,s):=by rw [gr,aF h]; rfl
theorem Dr {a b:Int} (h:¬ a=b) (s:cj):COp.run .eq (.int a) (.int b) s=.ok (.bl false,.fr,s):=by rw [gr,aE h]; rfl
theorem Ds {a b:Int} (h:¬ a=b) (s:cj):COp.run .ne (.int a) (.int b) s=.ok (.bl true,.fr,s):=by rw [p6,aE h]; rfl
theorem Dt {a b:Int} (h:a=b) (s:cj):COp.run .ne (.int a) (.int b) s=.ok (.bl false,.fr,s):=by rw [p6,aF h]; rfl
-- row_behind(guise,word): slots 0=guise 1=word 2=at 3=letter
-- behind(guise,word): slots 0=guise 1=word

section
variable {ms:Str→Str→Option Bool} {L s:Nat} {M N F:Mach} {d:D}
end

-- _law_floor_size(_law_letters_here,_law_many): slots 0=_law_letters_here 1=_law_many 2=_law_found 3=_law_turn
def dI:S:=#v[.set (.n 2) (.ki 1),.loop (.n 3) (.rng1 (.v 1))
 #v[.set (.n 2) (.bin .mul (.v 2) (.v 0))],.ret (.v 2)]
noncomputable def fQ (ms:Str→Str→Option Bool):Fn:=.self [] [] ms dI [false,false] 2 4
-- _law_figures(_law_letters_here,_law_many,_law_number_here): slots 0=_law_letters_here 1=_law_many 2=_law_number_here 3=_law_made 4=_law_turn
def fh:S:=#v[.set (.n 3) (.tup .nil),.loop (.n 4) (.rng1 (.v 1))
 #v[.set (.n 3) (.bin .add (.tup #v[.bin .mod (.v 2) (.v 0)]) (.v 3)),.set (.n 2) (.bin .fdiv (.v 2) (.v 0))],.ret (.v 3)]
noncomputable def fR (ms:Str→Str→Option Bool):Fn:=.self [] [] ms fh [false,false,false] 3 5
-- _law_number(_law_letters_here,_law_word): slots 0=_law_letters_here 1=_law_word 2=_law_number_here 3=_law_letter
def dJ:S:=#v[.set (.n 2) (.ki 0),.loop (.n 3) (.it (.v 1))
 #v[.set (.n 2) (.bin .add (.bin .mul (.v 2) (.v 0)) (.v 3))],.ret (.v 2)]
noncomputable def eU (ms:Str→Str→Option Bool):Fn:=.self [] [] ms dJ [false,false] 2 4
-- number_of(letters,word): slots 0=letters 1=word 2=number 3=letter
def gb:S:=#v[.ex (.call 0 #v[.v 0,.v 1]),.set (.n 2) (.ki 0),.loop (.n 3) (.it (.v 1))
 #v[.set (.n 2) (.bin .add (.bin .mul (.v 2) (.v 0)) (.v 3))],.ret (.v 2)]
noncomputable def gI (ms:Str→Str→Option Bool):Fn:=.self [fK ms] [] ms gb [false,false] 2 4
-- words_on(letters,many): slots 0=letters 1=many 2=found 3=turn
def gA:S:=#v[.set (.n 2) (.ki 1),.loop (.n 3) (.rng1 (.v 1))
 #v[.set (.n 2) (.bin .mul (.v 2) (.v 0))],.ret (.v 2)]
noncomputable def eQ (ms:Str→Str→Option Bool):Fn:=.self [] [] ms gA [false,false] 2 4
-- word_of(letters,many,number): slots 0=letters 1=many 2=number 3=made 4=turn
def hG:S:=#v[.ife (.or #v[.cmp .lt (.v 1) (.ki 0),.cmp .gt (.v 1) (.g 0),.cmp .lt (.v 2) (.ki 0),.cmp .ge (.v 2) (.call 0 #v[.v 0,.v 1])])
 #v[.rse "BadCount"]
 .nil,.own 3 (.lst .nil),.loop (.n 4) (.rng1 (.v 1))
 #v[.app 3 (.bin .mod (.v 2) (.v 0)),.set (.n 2) (.bin .fdiv (.v 2) (.v 0))],.ret (.trev (.v 3))]
noncomputable def iZ (ms:Str→Str→Option Bool):Fn:=.self [eQ ms] [.int 1000] ms hG [false,false,false] 3 5
-- size_of(letters,many): slots 0=letters 1=many
def hI:S:=#v[.ife (.cmp .lt (.v 1) (.ki 0))
 #v[.rse "BadCount"]
 .nil,.ife (.or #v[.cmp .gt (.v 1) (.ki 10),.cmp .gt (.call 0 #v[.v 0,.v 1]) (.g 0)])
 #v[.rse "TooMany"]
 .nil,.ret (.call 0 #v[.v 0,.v 1])]
noncomputable def dV (ms:Str→Str→Option Bool):Fn:=.self [eQ ms] [.int 1024] ms hI [false,false] 2 2
-- floor(guise,many): slots 0=guise 1=many 2=letters 3=found 4=number 5=word
def jL:S:=#v[.set (.n 2) (.call 4 #v[.v 0]),.own 3 (.lst .nil),.loop (.n 4) (.rng1 (.call 0 #v[.v 2,.v 1]))
 #v[.set (.n 5) (.call 3 #v[.v 2,.v 1,.v 4]),.app 3 (.call 1 #v[.v 2,.call 2 #v[.v 0,.ki 0,.v 5]])],.ret (.v 3)]
noncomputable def jM (ms:Str→Str→Option Bool):Fn:=.self [dV ms,gI ms,gH ms,iZ ms,gf ms] [] ms jL [false,false] 2 6

def ie (L:Int) (w:List Int):Int:=w.foldl (fun n x=>n*L+x) 0
def sH (L:Int):Nat→Int→List Int
 | 0,_=>[]
 | n+1,k=>k % L :: sH L n (k / L)
def ny (L:Int) (n:Nat) (k:Int):List Int:=(sH L n k).reverse
theorem sJ (L:Int) (w:List Int) (x:Int):ie L (w++[x])=ie L w*L+x:=by
 unfold ie
 rw [List.foldl_append]
 rfl

theorem mv {L:Int} (hL:0 < L):∀ (n:Nat) (w:List Int),w.length=n→(∀ x∈w,0≤x∧x < L)→ny L n (ie L w)=w∧0≤ie L w∧ie L w < L ^ n
 | 0,w,h,_=>by
  obtain rfl:w=[]:=List.length_eq_zero_iff.mp h
  exact ⟨rfl,Int.le_refl _,by simp [ie]⟩
 | n+1,w,h,hw=>by
  obtain ⟨u,x,rfl⟩:∃ u x,w=u++[x]:=by
   have hne:w≠[]:=by
    intro e
    rw [e] at h
    cases h
   exact ⟨w.dropLast,w.getLast hne,(List.dropLast_concat_getLast hne).symm⟩
  have hu:u.length=n:=by
   rw [ae,aO] at h
   omega
  obtain ⟨h1,h2,h3⟩:=mv hL n u hu fun y hy=>hw y (aG _ hy)
  have hx:=hw x (ao _ (ah.mpr rfl))
  rw [sJ]
  have e1:(ie L u*L+x) / L=ie L u:=by
   rw [Int.add_comm,Int.add_mul_ediv_right _ _ (by omega),Int.ediv_eq_zero_of_lt hx.1 hx.2,Int.zero_add]
  have e2:(ie L u*L+x) % L=x:=by
   rw [Int.add_comm,Int.add_mul_emod_self_right,Int.emod_eq_of_lt hx.1 hx.2]
  refine ⟨?_,?_,?_⟩
  ·show (((ie L u*L+x) % L) :: sH L n ((ie L u*L+x) / L)).reverse=u++[x]
   rw [e1,e2,List.reverse_cons]
   show ny L n (ie L u)++[x]=_
   rw [h1]
  ·have:=Int.mul_nonneg h2 (Int.le_of_lt hL)
   omega
  ·rw [Int.pow_succ]
   have:ie L u+1≤L ^ n:=h3
   have q:=Int.mul_le_mul_of_nonneg_right this (Int.le_of_lt hL)
   rw [Int.add_mul,Int.one_mul] at q
   omega
section
variable {ms:Str→Str→Option Bool} {L:Int}
theorem ly (h1:2≤L) (h2:L≤5) (w:List Int):(eU ms).run [.int L,.tup (w.map D.int)]=.ok (.int (ie L w),.fr):=by
 have c1:-18446744073709551616 < L:=by omega
 have c2:L < 18446744073709551616:=by omega
 let LL:Int × Option Sl→Lc:=fun t=>[some ⟨.bo,.int L⟩,some ⟨.bo,.tup (w.map D.int)⟩,some ⟨.fr,.int t.1⟩,t.2]
 refine cH (s:=[]) rfl ((b7 (l1:=LL (0,none)) (s1:=[]) (cD (t:=.fr) rfl (.inl rfl) rfl)).trans ?_)
 have hf:=gW (body:=fun d l s=>match T.put (.n 3) d l with | some l1=>cF [] [] ms #v[.set (.n 2) (.bin .add (.bin .mul (.v 2) (.v 0)) (.v 3))] l1 s | none=>.no) D.int LL (fun t x=>(t.1*L+x,some ⟨.fr,.int x⟩)) w (0,none) (fun t x _=>by
  refine (b7 (s1:=[]) ?_).trans cp
  simp! [LL,c1,c2])
 refine (b7 ((dA (iE (t:=.bo) rfl (by simp))).trans hf)).trans (cI (cY (t:=.fr) (d:=.int (ie L w)) ?_ rfl))
 have e:∀ (w:List Int) (n:Int) (o:Option Sl),(w.foldl (fun (t:Int × Option Sl) (x:Int)=>(t.1*L+x,some ⟨.fr,.int x⟩)) (n,o)).1=w.foldl (fun n x=>n*L+x) n:=by
  intro w
  induction w with
  | nil=>intro n o; rfl
  | cons x w ih=>intro n o; exact ih _ _
 show R.ok (D.int (w.foldl (fun (t:Int × Option Sl) (x:Int)=>(t.1*L+x,some ⟨.fr,.int x⟩)) (0,none)).1,Tag.fr,[])=_
 rw [e]
 rfl
theorem lz (w:List Int) (hw:∀ x∈w,0≤x∧x < L):(fK ms).run [.int L,.tup (w.map D.int)]=.ok (.non,.fr):=by
 let LL:Option Sl→Lc:=fun t=>[some ⟨.bo,.int L⟩,some ⟨.bo,.tup (w.map D.int)⟩,t]
 have hf:=jE (body:=fun d l s=>match T.put (.n 2) d l with | some l1=>cF [] [] ms #v[.ife (.or #v[.cmp .lt (.v 2) (.ki 0),.cmp .ge (.v 2) (.v 0)]) #v[.rse "BadWord"] .nil] l1 s | none=>.no) D.int LL (fun _ x=>some ⟨.fr,.int x⟩) (fun r _=>∀ x∈r,0≤x∧x < L) (fun x r t hi=>by
  obtain ⟨q1,q2⟩:=hi x ap
  have q1:¬ x < 0:=by omega
  have q2:¬ L≤x:=by omega
  refine ⟨(b7 ((dG (s1:=[]) ?_).trans cp)).trans cp,fun y hy=>hi y (av _ hy)⟩
  simp! [LL,q1,q2]) w none hw
 exact wP (s:=[]) rfl ((b7 ((dA (iE (t:=.bo) rfl (by simp))).trans hf.1)).trans cp)
theorem kG (h1:2≤L) (h2:L≤5) (w:List Int) (hw:∀ x∈w,0≤x∧x < L):(gI ms).run [.int L,.tup (w.map D.int)]=.ok (.int (ie L w),.fr):=by
 have c1:-18446744073709551616 < L:=by omega
 have c2:L < 18446744073709551616:=by omega
 let LL:Int × Option Sl→Lc:=fun t=>[some ⟨.bo,.int L⟩,some ⟨.bo,.tup (w.map D.int)⟩,some ⟨.fr,.int t.1⟩,t.2]
 refine cH (s:=[]) rfl ((b7 (l1:=[some ⟨.bo,.int L⟩,some ⟨.bo,.tup (w.map D.int)⟩,none,none]) (s1:=[]) (Dm (dr (s1:=[]) (ds:=[.int L,.tup (w.map D.int)]) rfl ?_ (lz w hw)))).trans ?_)
 ·simp! [lT]
 refine (b7 (l1:=LL (0,none)) (s1:=[]) (cD (t:=.fr) rfl (.inl rfl) rfl)).trans ?_
 have hf:=gW (body:=fun d l s=>match T.put (.n 3) d l with | some l1=>cF [fK ms] [] ms #v[.set (.n 2) (.bin .add (.bin .mul (.v 2) (.v 0)) (.v 3))] l1 s | none=>.no) D.int LL (fun t x=>(t.1*L+x,some ⟨.fr,.int x⟩)) w (0,none) (fun t x _=>by
  refine (b7 (s1:=[]) ?_).trans cp
  simp! [LL,c1,c2])
 refine (b7 ((dA (iE (t:=.bo) rfl (by simp))).trans hf)).trans (cI (cY (t:=.fr) (d:=.int (ie L w)) ?_ rfl))
 have e:∀ (w:List Int) (n:Int) (o:Option Sl),(w.foldl (fun (t:Int × Option Sl) (x:Int)=>(t.1*L+x,some ⟨.fr,.int x⟩)) (n,o)).1=w.foldl (fun n x=>n*L+x) n:=by
  intro w
  induction w with
  | nil=>intro n o; rfl
  | cons x w ih=>intro n o; exact ih _ _
 show R.ok (D.int (w.foldl (fun (t:Int × Option Sl) (x:Int)=>(t.1*L+x,some ⟨.fr,.int x⟩)) (0,none)).1,Tag.fr,[])=_
 rw [e]
 rfl
theorem lA (L:Int):∀ (xs:List Nat) (n:Int) (o:Option Sl),(xs.foldl (fun (t:Int × Option Sl) (x:Nat)=>(t.1*L,some ⟨.fr,.int (x:Int)⟩)) (n,o)).1=n*L ^ xs.length
 | [],n,o=>by simp
 | x :: xs,n,o=>by
  rw [List.foldl_cons,lA L xs,aw,Int.pow_succ,Int.mul_assoc,Int.mul_comm L]
theorem ig (h1:2≤L) (h2:L≤5) (n:Int) (hn:-(2 ^ 62)≤n∧n < 2 ^ 62):(eQ ms).run [.int L,.int n]=.ok (.int (L ^ n.toNat),.fr):=by
 have c1:-18446744073709551616 < L:=by omega
 have c2:L < 18446744073709551616:=by omega
 let LL:Int × Option Sl→Lc:=fun t=>[some ⟨.bo,.int L⟩,some ⟨.bo,.int n⟩,some ⟨.fr,.int t.1⟩,t.2]
 refine cH (s:=[]) rfl ((b7 (l1:=LL (1,none)) (s1:=[]) (cD (t:=.fr) rfl (.inl rfl) rfl)).trans ?_)
 have hf:=gW (body:=fun d l s=>match T.put (.n 3) d l with | some l1=>cF [] [] ms #v[.set (.n 2) (.bin .mul (.v 2) (.v 0))] l1 s | none=>.no) (fun i:Nat=>D.int (i:Int)) LL (fun t x=>(t.1*L,some ⟨.fr,.int (x:Int)⟩)) (List.range n.toNat) (1,none) (fun t x _=>by
  refine (b7 (s1:=[]) ?_).trans cp
  simp! [LL,c1,c2])
 refine (b7 ((dA (h9 (t:=.bo) (j:=n) rfl hn)).trans hf)).trans (cI (cY (t:=.fr) (d:=.int (L ^ n.toNat)) ?_ rfl))
 show R.ok (D.int ((List.range n.toNat).foldl (fun (t:Int × Option Sl) (x:Nat)=>(t.1*L,some ⟨.fr,.int (x:Int)⟩)) (1,none)).1,Tag.fr,[])=_
 rw [lA,am,Int.one_mul]
theorem lB (h1:2≤L) (h2:L≤5) (n:Int) (hn:-(2 ^ 62)≤n∧n < 2 ^ 62):(fQ ms).run [.int L,.int n]=.ok (.int (L ^ n.toNat),.fr):=by
 have c1:-18446744073709551616 < L:=by omega
 have c2:L < 18446744073709551616:=by omega
 let LL:Int × Option Sl→Lc:=fun t=>[some ⟨.bo,.int L⟩,some ⟨.bo,.int n⟩,some ⟨.fr,.int t.1⟩,t.2]
 refine cH (s:=[]) rfl ((b7 (l1:=LL (1,none)) (s1:=[]) (cD (t:=.fr) rfl (.inl rfl) rfl)).trans ?_)
 have hf:=gW (body:=fun d l s=>match T.put (.n 3) d l with | some l1=>cF [] [] ms #v[.set (.n 2) (.bin .mul (.v 2) (.v 0))] l1 s | none=>.no) (fun i:Nat=>D.int (i:Int)) LL (fun t x=>(t.1*L,some ⟨.fr,.int (x:Int)⟩)) (List.range n.toNat) (1,none) (fun t x _=>by
  refine (b7 (s1:=[]) ?_).trans cp
  simp! [LL,c1,c2])
 refine (b7 ((dA (h9 (t:=.bo) (j:=n) rfl hn)).trans hf)).trans (cI (cY (t:=.fr) (d:=.int (L ^ n.toNat)) ?_ rfl))
 show R.ok (D.int ((List.range n.toNat).foldl (fun (t:Int × Option Sl) (x:Nat)=>(t.1*L,some ⟨.fr,.int (x:Int)⟩)) (1,none)).1,Tag.fr,[])=_
 rw [lA,am,Int.one_mul]
theorem mw (L:Int):∀ (xs:List Nat) (k:Int) (ds:List Int) (o:Option Sl),(xs.foldl (fun (t:Int × List Int × Option Sl) (x:Nat)=>(t.1 / L,t.1 % L :: t.2.1,some ⟨.fr,.int (x:Int)⟩)) (k,ds,o)).2.1=(sH L xs.length k).reverse++ds
 | [],k,ds,o=>rfl
 | x :: xs,k,ds,o=>by
  rw [List.foldl_cons,mw L xs]
  show (sH L xs.length (k / L)).reverse++(k % L :: ds)=(k % L :: sH L xs.length (k / L)).reverse++ds
  rw [List.reverse_cons,aK]
  rfl
theorem oQ (h1:2≤L) (h2:L≤5) (n:Nat) (hn:n≤1000) (k:Int):(fR ms).run [.int L,.int (n:Int),.int k]=.ok (.tup ((ny L n k).map D.int),.fr):=by
 have big:=sizeLine_eq
 have c0:0 < L:=by omega
 have c1:L < 1073741824:=by omega
 have one:1≤sizeLine:=by omega
 let LL:Int × List Int × Option Sl→Lc:=fun t=>[some ⟨.bo,.int L⟩,some ⟨.bo,.int (n:Int)⟩,some ⟨if t.2.2=none then .bo else .fr,.int t.1⟩,some ⟨.fr,.tup (t.2.1.map D.int)⟩,t.2.2]
 have hf:=jE (body:=fun d l s=>match T.put (.n 4) d l with | some l1=>cF [] [] ms #v[.set (.n 3) (.bin .add (.tup #v[.bin .mod (.v 2) (.v 0)]) (.v 3)),.set (.n 2) (.bin .fdiv (.v 2) (.v 0))] l1 s | none=>.no) (fun i:Nat=>D.int (i:Int)) LL (fun t x=>(t.1 / L,t.1 % L :: t.2.1,some ⟨.fr,.int (x:Int)⟩)) (fun r t=>t.2.1.length+r.length≤1000) (fun x r t hi=>by
  have hz:([D.int (t.1 % L)]:List D).length+(t.2.1.map D.int).length≤sizeLine:=by
   rw [ac]
   simp only [aw,bJ] at hi ⊢
   omega
  refine ⟨(b7 (l1:=[some ⟨.bo,.int L⟩,some ⟨.bo,.int (n:Int)⟩,some ⟨if t.2.2=none then .bo else .fr,.int t.1⟩,some ⟨.fr,.tup ((t.1 % L :: t.2.1).map D.int)⟩,some ⟨.fr,.int (x:Int)⟩]) (s1:=[]) ?_).trans ((b7 (s1:=[]) ?_).trans cp),by simp only [aw] at hi ⊢; omega⟩
  ·simp! [LL,c0,one]
   rw [wz _ _ _ hz]
   rfl
  ·simp! [LL,c0,c1]) (List.range n) (k,[],none) (by simp; exact hn)
 refine cH (s:=[]) rfl ((b7 (l1:=LL (k,[],none)) (s1:=[]) (cD (t:=.fr) (d:=.tup []) rfl (.inl rfl) rfl)).trans ?_)
 refine (b7 ((dA ((h9 (t:=.bo) (j:=(n:Int)) rfl (by omega)).trans (by rw [aT]))).trans hf.1)).trans (cI (cY (t:=.fr) (d:=.tup ((ny L n k).map D.int)) ?_ rfl))
 show R.ok (D.tup (((List.range n).foldl (fun (t:Int × List Int × Option Sl) (x:Nat)=>(t.1 / L,t.1 % L :: t.2.1,some ⟨.fr,.int (x:Int)⟩)) (k,[],none)).2.1.map D.int),Tag.fr,[])=_
 rw [mw,am,aM]
 rfl
theorem oR (L:Int):∀ (xs:List Nat) (k:Int) (ds:List Int) (o:Option Sl),(xs.foldl (fun (t:Int × List Int × Option Sl) (x:Nat)=>(t.1 / L,t.2.1++[t.1 % L],some ⟨.fr,.int (x:Int)⟩)) (k,ds,o)).2.1=ds++sH L xs.length k
 | [],k,ds,o=>(aM ds).symm
 | x :: xs,k,ds,o=>by
  rw [List.foldl_cons,oR L xs]
  show (ds++[k % L])++sH L xs.length (k / L)=ds++(k % L :: sH L xs.length (k / L))
  rw [aK]
  rfl
theorem sK (h1:2≤L) (h2:L≤5) (n:Nat) (hn:n≤1000) (k:Int):∃ (k':Int) (t':Tag) (o:Option Sl),cF [eQ ms] [.int 1000] ms (.loop (.n 4) (.rng1 (.v 1)) #v[.app 3 (.bin .mod (.v 2) (.v 0)),.set (.n 2) (.bin .fdiv (.v 2) (.v 0))]) [some ⟨.bo,.int L⟩,some ⟨.bo,.int (n:Int)⟩,some ⟨.bo,.int k⟩,some ⟨.ow,.lst []⟩,none] [] =
  .ok (.nx [some ⟨.bo,.int L⟩,some ⟨.bo,.int (n:Int)⟩,some ⟨t',.int k'⟩,some ⟨.ow,.lst ((sH L n k).map D.int)⟩,o] []):=by
 have big:=sizeLine_eq
 have c0:0 < L:=by omega
 have c1:L < 1073741824:=by omega
 let LL:Int × List Int × Option Sl→Lc:=fun t=>[some ⟨.bo,.int L⟩,some ⟨.bo,.int (n:Int)⟩,some ⟨if t.2.2=none then .bo else .fr,.int t.1⟩,some ⟨.ow,.lst (t.2.1.map D.int)⟩,t.2.2]
 have hf:=jE (body:=fun d l s=>match T.put (.n 4) d l with | some l1=>cF [eQ ms] [.int 1000] ms #v[.app 3 (.bin .mod (.v 2) (.v 0)),.set (.n 2) (.bin .fdiv (.v 2) (.v 0))] l1 s | none=>.no) (fun i:Nat=>D.int (i:Int)) LL (fun t x=>(t.1 / L,t.2.1++[t.1 % L],some ⟨.fr,.int (x:Int)⟩)) (fun r t=>t.2.1.length+r.length≤1000) (fun x r t hi=>by
  have hz:t.2.1.length < sizeLine:=by
   simp only [aw] at hi
   omega
  refine ⟨(b7 (l1:=[some ⟨.bo,.int L⟩,some ⟨.bo,.int (n:Int)⟩,some ⟨if t.2.2=none then .bo else .fr,.int t.1⟩,some ⟨.ow,.lst ((t.2.1++[t.1 % L]).map D.int)⟩,some ⟨.fr,.int (x:Int)⟩]) (s1:=[]) ?_).trans ((b7 (s1:=[]) ?_).trans cp),by simp only [aw,ae,bJ] at hi ⊢; omega⟩
  ·simp! [LL,c0,hz,bj]
  ·simp! [LL,c0,c1]) (List.range n) (k,[],none) (by simp; exact hn)
 have hg:=(dA (ms:=ms) (fs:=[eQ ms]) (gs:=[.int 1000]) (tg:=.n 4) (b:=#v[.app 3 (.bin .mod (.v 2) (.v 0)),.set (.n 2) (.bin .fdiv (.v 2) (.v 0))]) (s1:=[]) ((h9 (a:=.v 1) (l:=LL (k,[],none)) (t:=.bo) (j:=(n:Int)) rfl (by omega)).trans (by rw [aT]))).trans hf.1
 have e:=oR L (List.range n) k [] none
 rw [am,List.nil_append] at e
 obtain ⟨r,hr⟩:∃ r,(List.range n).foldl (fun (t:Int × List Int × Option Sl) (x:Nat)=>(t.1 / L,t.2.1++[t.1 % L],some ⟨.fr,.int (x:Int)⟩)) (k,[],none)=r:=⟨_,rfl⟩
 rw [hr] at hg e
 refine ⟨r.1,if r.2.2=none then .bo else .fr,r.2.2,?_⟩
 rw [← e]
 exact hg
theorem oS (h1:2≤L) (h2:L≤5) (n:Nat) (hn:n≤1000) (k:Int) (hk:0≤k∧k < L ^ n):(iZ ms).run [.int L,.int (n:Int),.int k]=.ok (.tup ((ny L n k).map D.int),.fr):=by
 have big:=sizeLine_eq
 have q1:¬ (n:Int) < 0:=by omega
 have q2:¬ (1000:Int) < (n:Int):=by omega
 have q3:¬ k < 0:=by omega
 have hw:=ig (ms:=ms) h1 h2 (n:Int) (by omega)
 rw [aT] at hw
 generalize hz:L ^ n=z at hw hk
 have q4:¬ z≤k:=by omega
 obtain ⟨k',t',o,hl⟩:=sK (ms:=ms) h1 h2 n hn k
 have hc:dM [eQ ms] [.int 1000] (.or #v[.cmp .lt (.v 1) (.ki 0),.cmp .gt (.v 1) (.g 0),.cmp .lt (.v 2) (.ki 0),.cmp .ge (.v 2) (.call 0 #v[.v 0,.v 1])]) [some ⟨.bo,.int L⟩,some ⟨.bo,.int n⟩,some ⟨.bo,.int k⟩,none,none] []=.ok (false,[]):=by
  refine de (t:=.fr) (iF ((jn (t:=.fr) (s1:=[]) ?_).trans ((jn (t:=.fr) (s1:=[]) ?_).trans ((jn (t:=.fr) (s1:=[]) ?_).trans ((jn (t:=.fr) (s1:=[]) ?_).trans p8)))))
  ·simp! [q1]
  ·simp! [q2]
  ·simp! [q3]
  ·exact cV rfl (dr (s1:=[]) (ds:=[.int L,.int (n:Int)]) rfl (ux rfl rfl (.inl rfl) (.inl rfl)) hw) (Dn q4 [])
 refine cH (s:=[]) rfl ((b7 ((dG (s1:=[]) hc).trans cp)).trans ?_)
 refine (b7 (l1:=[some ⟨.bo,.int L⟩,some ⟨.bo,.int n⟩,some ⟨.bo,.int k⟩,some ⟨.ow,.lst []⟩,none]) (s1:=[]) (dD (d:=.lst []) ?_)).trans ?_
 ·simp! [aW]
 refine (b7 hl).trans (cI (cY (t:=.fr) (d:=.tup ((ny L n k).map D.int)) ?_ rfl))
 refine (wR (t:=.ow) (ds:=(sH L n k).map D.int) rfl).trans ?_
 unfold ny
 rw [List.map_reverse]
end
end GM


namespace GM

def gd (A R:List Int) (n:Nat):Int:=if n < A.length then A.getD n 0 else R.getD ((n - A.length) % R.length) 0

def Hu (R:List Int) (s:Nat):Prop:=∀ i,i+s < R.length→R.getD (i+s) 0=R.getD i 0
def Du (R:List Int):Prop:=R≠[]∧∀ s,0 < s→s < R.length→s∣R.length→¬ Hu R s
def oU (A R:List Int):Prop:=Du R∧(A≠[]→A.getD (A.length - 1) 0≠R.getD (R.length - 1) 0)
def EP (w:Nat→Int) (q:Nat):Prop:=0 < q∧∃ N,∀ n,N≤n→w (n+q)=w n
theorem oV {X Y:List Int} (hl:X.length=Y.length) (h:∀ i,i < X.length→X.getD i 0=Y.getD i 0):X=Y:=by
 apply List.ext_getElem hl
 intro i h1 h2
 have:=h i h1
 rw [List.getD,List.getD,ak h1,ak h2] at this
 exact this
theorem uN {w:Nat→Int} {d N:Nat} (h:∀ n,N≤n→w (n+d)=w n):∀ k n,N≤n→w (n+d*k)=w n
 | 0,n,_=>rfl
 | k+1,n,hn=>by
  have e:n+d*(k+1)=(n+d*k)+d:=by rw [Nat.mul_succ]; omega
  rw [e,h _ (by omega),uN h k n hn]
theorem As {w:Nat→Int} {d p:Nat} (hd:EP w d) (hp:EP w p):p % d=0∨EP w (p % d):=by
 obtain ⟨d0,N1,h1⟩:=hd
 obtain ⟨p0,N2,h2⟩:=hp
 rcases bX (p % d) with q | q
 ·exact .inl q
 refine .inr ⟨q,N1+N2,fun n hn=>?_⟩
 have e:=uN h1 (p / d) (n+p % d) (by omega)
 rw [← e,Nat.add_assoc,Nat.mod_add_div p d]
 exact h2 n (by omega)
theorem uO {w:Nat→Int} {p:Nat} (h:EP w p):∃ d,EP w d∧∀ q,EP w q→d∣q:=by
 have ⟨d,hd,hm⟩:∃ d,EP w d∧∀ q,EP w q→d≤q:=by
  induction p using Nat.strongRecOn with
  | _ p ih =>
   by_cases hq:∃ q,EP w q∧q < p
   ·obtain ⟨q,q1,q2⟩:=hq
    exact ih q q2 q1
   ·exact ⟨p,h,fun q hq2=>by
     rcases a9 q p with z | z
     ·exact absurd ⟨q,hq2,z⟩ hq
     ·exact z⟩
 refine ⟨d,hd,fun q hq=>?_⟩
 rcases As hd hq with z | z
 ·exact Nat.dvd_of_mod_eq_zero z
 ·have:=hm _ z
  have:=Nat.mod_lt q hd.1
  omega
theorem qZ {A R:List Int} {n:Nat} (hn:A.length≤n):gd A R (n+R.length)=gd A R n:=by
 unfold gd
 rw [aq (by omega),aq (by omega),show n+R.length - A.length=n - A.length+R.length by omega,Nat.add_mod_right]
theorem qi {A R:List Int} (hR:R≠[]):EP (gd A R) R.length:=⟨bS.mpr hR,A.length,fun _ hn=>qZ hn⟩
theorem iI {A R:List Int} {i:Nat} (hi:i < R.length) (N:Nat):gd A R (A.length+R.length*N+i)=R.getD i 0:=by
 unfold gd
 rw [aq (by omega),show A.length+R.length*N+i - A.length=i+R.length*N by omega,Nat.add_mul_mod_self_left,Nat.mod_eq_of_lt hi]
theorem sL {A R:List Int} {d:Nat} (h:EP (gd A R) d):Hu R d:=fun i hi=>by
 obtain ⟨d0,N,hN⟩:=h
 have:=hN (A.length+R.length*N+i) (by
  have:N≤R.length*N:=Nat.le_mul_of_pos_left N (by omega)
  omega)
 rw [Nat.add_assoc,iI hi,iI (by omega)] at this
 exact this
theorem oW {A R:List Int} (hR:Du R) {q:Nat} (hq:EP (gd A R) q):R.length∣q:=by
 obtain ⟨d,hd,hm⟩:=uO hq
 have h1:=hm _ (qi hR.1)
 have hl:=bS.mpr hR.1
 rcases a9 d R.length with z | z
 ·exact absurd (sL hd) (hR.2 d hd.1 z h1)
 ·have:=Nat.le_of_dvd hl h1
  have e:d=R.length:=by omega
  rw [← e]
  exact hm _ hq
theorem mx {A R B S:List Int} (h1:oU A R) (h2:oU B S) (h:∀ n,gd A R n=gd B S n) (hl:R.length=S.length):B.length≤A.length:=by
 rcases a9 A.length B.length with z | z
 ·have q:=qZ (A:=A) (R:=R) (n:=B.length - 1) (by omega)
  have hs:=bS.mpr h2.1.1
  rw [h,h,hl,show B.length - 1+S.length=B.length+S.length*0+(S.length - 1) by omega,iI (by omega)] at q
  have hB:B≠[]:=by
   intro e
   rw [e] at z
   exact absurd z (by simp)
  have r:=h2.2 hB
  unfold gd at q
  rw [aj (by omega)] at q
  exact absurd q.symm r
 ·exact z
theorem nz {A R B S:List Int} (h1:oU A R) (h2:oU B S) (h:∀ n,gd A R n=gd B S n):A=B∧R=S:=by
 have e:gd A R=gd B S:=funext h
 have hl:R.length=S.length:=Nat.dvd_antisymm (oW h1.1 (e ▸ qi h2.1.1)) (oW h2.1 (e ▸ qi h1.1.1))
 have hA:A.length=B.length:=Nat.le_antisymm (mx h2 h1 (fun n=>(h n).symm) hl.symm) (mx h1 h2 h hl)
 refine ⟨oV hA fun i hi=>?_,oV hl fun i hi=>?_⟩
 ·have:=h i
  unfold gd at this
  rw [aj hi,aj (by omega)] at this
  exact this
 ·have:=h (A.length+R.length*0+i)
  rw [iI hi,hl,hA,iI (by omega)] at this
  exact this




end GM


namespace GM
open PySem PySem.Spec PyProof.Rows L2
-- _law_plain(_law_ahead,_law_ring): slots 0=_law_ahead 1=_law_ring 2=_law_size 3=_law_many 4=_law_head 5=_law_k
-- shortest_ring(ring): slots 0=ring 1=size
-- plain_word(beginning,ring): slots 0=beginning 1=ring 2=size 3=back 4=cut
-- _law_told(_law_ahead,_law_ring): slots 0=_law_ahead 1=_law_ring 2=_law_told_here
section
variable {ms:Str→Str→Option Bool}

end
end GM


namespace GM

def Dv (u v:List Nat) (n:Nat):Nat:=if n < u.length then u.getD n 0 else v.getD ((n - u.length) % v.length) 0

def Mach.st (M:Mach) (s:Nat) (w:Nat→Nat):Nat→Nat
 | 0=>s
 | n+1=>M.nx (Mach.st M s w n) (w n)

def Mach.wear (M:Mach) (s:Nat) (w:Nat→Nat) (n:Nat):Nat:=(M.fst (Mach.st M s w n)).getD (w n) 0
abbrev ci (u:List Nat):List Int:=u.map fun n:Nat=>(n:Int)
theorem q6 (u:List Nat) (i:Nat):(ci u).getD i 0=((u.getD i 0:Nat):Int):=by
 rw [List.getD,List.getD,aD]
 cases u[i]? <;> rfl
theorem uP (u v:List Nat) (n:Nat):gd (ci u) (ci v) n=(Dv u v n:Int):=by
 unfold gd Dv
 rw [ac,ac,q6,q6]
 split <;> rfl

section
variable {M N:Mach} {L:Nat} {s:Nat} {w:Nat→Nat}

theorem Eqv.wear {t:Nat} (h:Eqv L M s N t) (hw:∀ n,w n < L):∀ n,Eqv L M (Mach.st M s w n) N (Mach.st N t w n)∧Mach.wear M s w n=Mach.wear N t w n:=by
 have hs:∀ n,Eqv L M (Mach.st M s w n) N (Mach.st N t w n):=fun n=>by
  induction n with
  | zero=>exact h
  | succ n ih=>exact ih.nx (hw n)
 refine fun n=>⟨hs n,?_⟩
 show (M.fst (Mach.st M s w n)).getD (w n) 0=(N.fst (Mach.st N t w n)).getD (w n) 0
 rw [(hs n).fst]
end
end GM


namespace GM
open PySem PySem.Spec PyProof.Rows L2
section
variable {ms:Str→Str→Option Bool}
end
section
variable {ms:Str→Str→Option Bool}
end

structure Tell (w:Nat→Nat) (a r:List Nat):Prop where
 pl:oU (ci a) (ci r)
 inf:∀ n,Dv a r n=w n
theorem qj {u v:List Nat} (h:ci u=ci v):u=v:=(List.map_inj_right (f:=fun n:Nat=>(n:Int)) (fun a b e=>by have e:(a:Int)=b:=e; omega)).mp h
section
variable {w w2:Nat→Nat} {a r a2 r2 u v:List Nat} {L:Nat} {ms:Str→Str→Option Bool}
theorem Tell.ne (h:Tell w a r):r≠[]:=fun e=>h.pl.1.1 (by rw [e]; rfl)
theorem Tell.unique (h:Tell w a r) (g:Tell w2 a2 r2) (hw:∀ n,w n=w2 n):a=a2∧r=r2:=by
 obtain ⟨q1,q2⟩:=nz h.pl g.pl fun n=>by rw [uP,uP,h.inf,g.inf,hw]
 exact ⟨qj q1,qj q2⟩
theorem Tell.lt (h:Tell w a r) (hw:∀ n,w n < L):(∀ x∈a,x < L)∧∀ x∈r,x < L:=by
 constructor
 ·intro x hx
  obtain ⟨i,hi,rfl⟩:=List.mem_iff_getElem.mp hx
  have:=h.inf i
  unfold Dv at this
  rw [aj hi,List.getD,ak hi] at this
  have e:a[i]=w i:=this
  rw [e]
  exact hw i
 ·intro x hx
  obtain ⟨i,hi,rfl⟩:=List.mem_iff_getElem.mp hx
  have:=h.inf (a.length+i)
  unfold Dv at this
  rw [aq (by omega),Nat.add_sub_cancel_left,Nat.mod_eq_of_lt hi,List.getD,ak hi] at this
  have e:r[i]=w (a.length+i):=this
  rw [e]
  exact hw _
end
section
variable {fs:List Fn} {gs:List D} {ms:Str→Str→Option Bool} {x y z:X} {l l1 l2:Lc} {s s1 s2 s3:cj} {d d2 d3:D} {t t2 t3:Tag} {i j:Int} {e:Ex}
theorem cG {n:Nat} (h:l[n]?=some (some ⟨t,d⟩)):b9 fs gs (.v n) l s=.ok (d,t,s):=by
 show (match l[n]? with
  | some (some ⟨k,d⟩)=>R.ok (d,k,s)
  | _=>.no)=_
 rw [h]
theorem Fk {n:Nat} (h:gs[n]?=some d):b9 fs gs (.g n) l s=.ok (d,.fr,s):=by
 show (match gs[n]? with | some d=>cr d s | none=>.no)=_
 rw [h]
 rfl
theorem fM:b9 fs gs (.ki i) l s=.ok (.int i,.fr,s):=rfl
theorem lC {a:Str}:b9 fs gs (.ks a) l s=.ok (.str a,.fr,s):=rfl
theorem oX {a:Bool}:b9 fs gs (.kb a) l s=.ok (.bl a,.fr,s):=rfl
theorem Dx:b9 fs gs .kn l s=.ok (.non,.fr,s):=rfl
theorem At (h:b9 fs gs x l s=.ok (.int i,t,s1)):b9 fs gs (.neg x) l s=.ok (.int (-i),.fr,s1):=by
 show (b9 fs gs x l s).bind _=_
 rw [h]
 rfl
theorem Dy (h:b9 fs gs x l s=.ok (.bl false,t,s1)):b9 fs gs (.not x) l s=.ok (.bl true,.fr,s1):=p9 h
theorem q7 (h:b9 fs gs x l s=.ok (.bl true,t,s1)):b9 fs gs (.not x) l s=.ok (.bl false,.fr,s1):=p9 h
theorem Bf {f:BI} (h:b9 fs gs x l s=.ok (d,t,s1)) (h2:BI.run f [d] s1=.ok (d2,t2,s2)):b9 fs gs (.bi f #v[x]) l s=.ok (d2,t2,s2):=by
 show (fE fs gs #v[x] [] l s).bind _=_
 rw [cw h (.inl rfl) rfl]
 exact h2
theorem Hv {f:BI} (h:b9 fs gs x l s=.ok (d,t,s1)) (h2:b9 fs gs y l s1=.ok (d2,t2,s2)) (h3:BI.run f [d,d2] s2=.ok (d3,t3,s3)):b9 fs gs (.bi f #v[x,y]) l s=.ok (d3,t3,s3):=by
 show (fE fs gs #v[x,y] [] l s).bind _=_
 rw [cw h (.inl rfl) (cw h2 (.inl rfl) rfl)]
 exact h3
theorem Au {ty:Ty} {b:Bool} (h:b9 fs gs x l s=.ok (d,t,s1)) (h2:Ty.run ty d=some b):b9 fs gs (.isi x ty) l s=.ok (.bl b,.fr,s1):=by
 show (b9 fs gs x l s).bind _=_
 rw [h,cJ]
 show (match Ty.run ty d with | some b=>cr (.bl b) s1 | none=>.no)=_
 rw [h2]
 rfl
theorem ii {kp:List Bool}:fE fs gs .nil kp l s=.ok ([],s):=rfl
theorem ka:jp fs gs .nil l s=.ok ([],s):=rfl
theorem lE {ds:List D} (h:b9 fs gs x l s=.ok (d,t,s1)) (ht:nc t d) (h2:jp fs gs y l s1=.ok (ds,s2)):jp fs gs (.cons x y) l s=.ok (d :: ds,s2):=by
 show cg (b9 fs gs x l s) (fun d s1=>(jp fs gs y l s1).bind fun (ds,s2)=>.ok (d :: ds,s2))=_
 rw [h,fq,aq (gG ht),h2]
 rfl
theorem sM {ds:List D} {n:Nat} (h:ds.length≤n):ds.length≤n:=h
theorem Av {ds:List D} (h:jp fs gs x l s=.ok (ds,s1)) (hz:ds.length≤1000):b9 fs gs (.tup x) l s=.ok (.tup ds,.fr,s1):=by
 have big:=sizeLine_eq
 show (jp fs gs x l s).bind _=_
 rw [h,cJ]
 show (if ds.length≤sizeLine then cr (.tup ds) s1 else .no)=_
 rw [aj (by omega)]
 rfl
theorem lF {ds:List D} (h:jp fs gs x l s=.ok (ds,s1)) (hz:ds.length≤1000):b9 fs gs (.lst x) l s=.ok (.lst ds,.nw,s1):=by
 have big:=sizeLine_eq
 show (jp fs gs x l s).bind _=_
 rw [h,cJ]
 show (if ds.length≤sizeLine then dW (.lst ds) s1 else .no)=_
 rw [aj (by omega)]
 rfl
theorem nA {k:Bool}:b9 fs gs (.dic k .nil .nil) l s=.ok (.dic k [],.nw,s):=rfl
theorem Dz:BOp.run .add (.int i) (.int j) s=.ok (.int (i+j),.fr,s):=rfl
theorem DA:BOp.run .sub (.int i) (.int j) s=.ok (.int (i - j),.fr,s):=rfl
theorem DB (h:(-(2 ^ 64) < i∧i < 2 ^ 64)∨(-(2 ^ 64) < j∧j < 2 ^ 64)):BOp.run .mul (.int i) (.int j) s=.ok (.int (i*j),.fr,s):=mZ _ _ _ h
theorem DC (h:0 < j∧j < 1073741824):BOp.run .fdiv (.int i) (.int j) s=.ok (.int (i / j),.fr,s):=iC _ _ _ h
theorem DD (h:0 < j):BOp.run .mod (.int i) (.int j) s=.ok (.int (i % j),.fr,s):=gF _ _ _ h
theorem Fl (h:i < j):COp.run .lt (.int i) (.int j) s=.ok (.bl true,.fr,s):=oH (aF h).symm
theorem Fm (h:¬ i < j):COp.run .lt (.int i) (.int j) s=.ok (.bl false,.fr,s):=oH (aE h).symm
theorem Fo (h:j < i):COp.run .gt (.int i) (.int j) s=.ok (.bl true,.fr,s):=qW (aF h).symm
theorem Fp (h:¬ j < i):COp.run .gt (.int i) (.int j) s=.ok (.bl false,.fr,s):=qW (aE h).symm
theorem Fq (h:i≤j):COp.run .le (.int i) (.int j) s=.ok (.bl true,.fr,s):=by
 show cr (.bl (decide (i≤j))) s=_
 rw [aF h]
 rfl
theorem Ft (h:¬ i≤j):COp.run .le (.int i) (.int j) s=.ok (.bl false,.fr,s):=by
 show cr (.bl (decide (i≤j))) s=_
 rw [aE h]
 rfl
theorem DE (h:j≤i):COp.run .ge (.int i) (.int j) s=.ok (.bl true,.fr,s):=Fj h s
theorem DF (h:¬ j≤i):COp.run .ge (.int i) (.int j) s=.ok (.bl false,.fr,s):=Dn h s
theorem Fu (h:i=j):COp.run .eq (.int i) (.int j) s=.ok (.bl true,.fr,s):=Dq h s
theorem Fv (h:¬ i=j):COp.run .eq (.int i) (.int j) s=.ok (.bl false,.fr,s):=Dr h s
theorem DG (h:¬ i=j):COp.run .ne (.int i) (.int j) s=.ok (.bl true,.fr,s):=Ds h s
theorem DH (h:i=j):COp.run .ne (.int i) (.int j) s=.ok (.bl false,.fr,s):=Dt h s
theorem DI:COp.run .isn .non .non s=.ok (.bl true,.fr,s):=by rw [mX,aF rfl]; rfl
theorem rc (h:d≠.non):COp.run .isn d .non s=.ok (.bl false,.fr,s):=by rw [mX,aE h]; rfl
theorem Aw:COp.run .isnn .non .non s=.ok (.bl false,.fr,s):=by rw [lj,aF rfl]; rfl
theorem nB (h:d≠.non):COp.run .isnn d .non s=.ok (.bl true,.fr,s):=by rw [lj,aE h]; rfl
theorem DJ:COp.run .isn (.int i) .non s=.ok (.bl false,.fr,s):=rc (by intro q; cases q)
theorem DK {a:Str}:COp.run .isn (.str a) .non s=.ok (.bl false,.fr,s):=rc (by intro q; cases q)
theorem DL {a:List D}:COp.run .isn (.tup a) .non s=.ok (.bl false,.fr,s):=rc (by intro q; cases q)
theorem DM {a:List D}:COp.run .isn (.lst a) .non s=.ok (.bl false,.fr,s):=rc (by intro q; cases q)
theorem Ax:COp.run .isnn (.int i) .non s=.ok (.bl true,.fr,s):=nB (by intro q; cases q)
theorem Ay {a:Str}:COp.run .isnn (.str a) .non s=.ok (.bl true,.fr,s):=nB (by intro q; cases q)
theorem Az {a:List D}:COp.run .isnn (.tup a) .non s=.ok (.bl true,.fr,s):=nB (by intro q; cases q)
theorem AA {a:List D}:COp.run .isnn (.lst a) .non s=.ok (.bl true,.fr,s):=nB (by intro q; cases q)
theorem DN {t:Tag} (h:b9 fs gs x l s=.ok (.bl true,t,s1)) {k:Bool} (h2:fV fs gs y l s1=.ok (k,s2)):fV fs gs (.cons x y) l s=.ok (k,s2):=(kx h).trans h2
theorem DO {t:Tag} (h:b9 fs gs x l s=.ok (.bl false,t,s1)) {k:Bool} (h2:iw fs gs y l s1=.ok (k,s2)):iw fs gs (.cons x y) l s=.ok (k,s2):=(jn h).trans h2
theorem DP {xs:List D}:BI.run .len [.tup xs] s=.ok (.int xs.length,.fr,s):=rfl
theorem uQ {xs:List D}:BI.run .len [.lst xs] s=.ok (.int xs.length,.fr,s):=rfl
theorem DQ {xs:List D}:BI.run .len [.arr xs] s=.ok (.int xs.length,.fr,s):=rfl
theorem DR {k:Bool} {xs:List (D × D)}:BI.run .len [.dic k xs] s=.ok (.int xs.length,.fr,s):=rfl
theorem w7 {xs:List D}:BI.run .tuple [.lst xs] s=.ok (.tup xs,.fr,s):=rfl
theorem w8 {xs:List D}:BI.run .tuple [.tup xs] s=.ok (.tup xs,.fr,s):=rfl
theorem uR {xs:List D}:BI.run .list [.lst xs] s=.ok (.lst xs,.nw,s):=rfl
theorem AB {xs:List D}:BI.run .list [.tup xs] s=.ok (.lst xs,.nw,s):=rfl
theorem DS:BI.run .abs [.int i] s=.ok (.int (if i < 0 then -i else i),.fr,s):=rfl
theorem DT:BI.run .max2 [.int i,.int j] s=.ok (.int (if j > i then j else i),.fr,s):=rfl
theorem DU:BI.run .min2 [.int i,.int j] s=.ok (.int (if j < i then j else i),.fr,s):=rfl
theorem uS {a:Str} (h:PyData.strOk a=true):COp.run .eq (.str a) (.str a) s=.ok (.bl true,.fr,s):=by rw [ur a a h h,bz]; rfl
theorem lG {a:Str} (h:PyData.strOk a=true):COp.run .ne (.str a) (.str a) s=.ok (.bl false,.fr,s):=by rw [An a a h h,bz]; rfl
theorem Fw:BOp.run .pow (.int 10) (.int 18) s=.ok (.int 1000000000000000000,.fr,s):=oy s
theorem Fy:BOp.run .pow (.int 10) (.int 20) s=.ok (.int 100000000000000000000,.fr,s):=oz s
theorem Fz:BOp.run .pow (.int 10) (.int 30) s=.ok (.int 1000000000000000000000000000000,.fr,s):=oA s
theorem FA:BOp.run .pow (.int 10) (.int 40) s=.ok (.int 10000000000000000000000000000000000000000,.fr,s):=oB s
theorem FB {a b:Option (Option Sl)} (h:a=b):a=b:=h
theorem FD {a b:Option Fn} (h:a=b):a=b:=h
theorem FE {a b:Option D} (h:a=b):a=b:=h
theorem Bg {r:List D}:mH (.tup (d :: r)) (.int 0) s=.ok (d,.fr,s):=p7 (n:=0) rfl s
theorem Id {r:List D}:mH (.tup (d2 :: d :: r)) (.int 1) s=.ok (d,.fr,s):=p7 (n:=1) rfl s
theorem Ie {r:List D}:mH (.tup (d3 :: d2 :: d :: r)) (.int 2) s=.ok (d,.fr,s):=p7 (n:=2) rfl s
theorem FF {r:List D}:mH (.lst (d :: r)) (.int 0) s=.ok (d,.fr,s):=jH (n:=0) rfl s
theorem FG {r:List D}:mH (.lst (d2 :: d :: r)) (.int 1) s=.ok (d,.fr,s):=jH (n:=1) rfl s
theorem FH {a hs:S} {r:R Out} (h:cF fs gs ms a l s=.er e s1 l1) (h2:nK fs gs ms e hs l1 s1=r):cF fs gs ms (.tr a hs) l s=r:=(Di h).trans h2
theorem DV {b c:Str} {at_:Option D} {a r:S} {o:Out} (h:ms b c=some true) (h2:cF fs gs ms a l s=.ok o):nK fs gs ms ⟨b,at_⟩ (.hd c a r) l s=.ok o:=Ff h h2
theorem FI {b c:Str} {at_:Option D} {a r:S} {o:R Out} (h:ms b c=some false) (h2:nK fs gs ms ⟨b,at_⟩ r l s=o):nK fs gs ms ⟨b,at_⟩ (.hd c a r) l s=o:=(Fg h).trans h2

theorem AC {n:Nat} (h:l[n]?=some (some ⟨t,.int i⟩)) (h2:b9 fs gs x l s=.ok (.int j,t2,s1)):cF fs gs ms (.aug n x) l s=.ok (.nx (l.set n (some ⟨.fr,.int (i+j)⟩)) s1):=by
 unfold cF
 rw [h]
 show (b9 fs gs x l s).bind _=_
 rw [h2]
 rfl

theorem dN {a b:S} {r:R Out} (h:cF fs gs ms a l s=.ok (.nx l1 s1)) (h2:cF fs gs ms b l1 s1=r):cF fs gs ms (.cons a b) l s=r:=(b7 h).trans h2
theorem rg {a b:S} (h:cF fs gs ms a l s=.ok (.rt d t s1)):cF fs gs ms (.cons a b) l s=.ok (.rt d t s1):=cI h
theorem uT {c:X} {a b:S} {r:R Out} (h:b9 fs gs c l s=.ok (.bl true,t,s1)) (h2:cF fs gs ms a l s1=r):cF fs gs ms (.ife c a b) l s=r:=(gX (de h)).trans h2
theorem lV {c:X} {a b:S} {r:R Out} (h:b9 fs gs c l s=.ok (.bl false,t,s1)) (h2:cF fs gs ms b l s1=r):cF fs gs ms (.ife c a b) l s=r:=(dG (de h)).trans h2
end

theorem rh {α:Type} {body:D→Lc→cj→R Out} (e:α→D) (L:List α→Lc) (xs:List α) (hb:∀ pr x r,xs=pr++x :: r→body (e x) (L pr) []=.ok (.nx (L (pr++[x])) [])):gO body (xs.map e) (L []) []=.ok (.nx (L xs) []):=by
 have key:∀ (r pr:List α),xs=pr++r→gO body (r.map e) (L pr) []=.ok (.nx (L xs) []):=by
  intro r
  induction r with
  | nil=>intro pr h; rw [aM] at h; rw [h]; rfl
  | cons x r ih =>
   intro pr h
   show (body (e x) (L pr) []).bind (dF (gO body (r.map e)))=_
   rw [hb pr x r h]
   exact ih (pr++[x]) (by rw [h,aK]; rfl)
 exact key xs [] rfl



def Fin:R Out→Prop
 | .ok (.rt _ _ _)=>True
 | .er _ _ _=>True
 | _=>False
theorem Fin.step {r:R Out} (h:Fin r) (k:Lc→cj→R Out):r.bind (dF k)=r:=by
 cases r with
 | ok o=>cases o <;> first | rfl | exact h.elim
 | er e s l=>rfl
 | no=>exact h.elim
theorem Fin.seq {r:R Out} (h:Fin r) {fs:List Fn} {gs:List D} {ms:Str→Str→Option Bool} {a b:S} {l:Lc} {s:cj} (e:cF fs gs ms a l s=r):cF fs gs ms (.cons a b) l s=r:=by
 show (cF fs gs ms a l s).bind _=_
 rw [e]
 cases r with
 | ok o=>cases o <;> first | rfl | exact h.elim
 | er e s l=>rfl
 | no=>exact h.elim










theorem w9 {n:Nat} {d:D} {s:cj} (h:D.eqs n d) (hn:n≤64):COp.run .ne d d s=.ok (.bl false,.fr,s):=by
 rw [Fi h h hn,aF rfl]
 rfl
theorem sN {n k:Nat} {pr r:List Nat} (h:List.range n=pr++k :: r):pr.length=k∧k < n:=by
 have hl:=bD List.length h
 rw [am,ae,aw] at hl
 have hg:=bD (fun x:List Nat=>x[pr.length]?) h
 rw [be (by omega),aV (ax _),bO] at hg
 have:=ad hg
 omega

def my {α:Type} (g:α→D) (pr:List α):Option Sl:=pr.getLast?.map fun x=>⟨.fr,g x⟩
theorem ij {α:Type} {g:α→D} {pr:List α} {x:α}:my g (pr++[x])=some ⟨.fr,g x⟩:=by
 unfold my
 rw [List.getLast?_concat]
 rfl
end GM
local macro_rules | `(tactic| bv_omega) => `(tactic| (repeat' first|(with_reducible first|assumption|apply GM.fM|apply GM.lC|apply GM.oX|apply GM.Dx|apply GM.cG|apply GM.Fk|apply GM.ii|apply GM.ka|apply GM.nA|apply GM.dP|apply GM.cV|apply GM.dr|apply GM.cw|apply GM.lE|apply GM.dB|apply GM.Dy|apply GM.q7|apply GM.p9|apply GM.Av|apply GM.lF|apply GM.Bf|apply GM.Hv|apply GM.Au|apply GM.At|apply GM.j6|apply GM.iF|apply GM.kP|apply GM.p8|apply GM.DN|apply GM.DO|apply GM.Dz|apply GM.DA|apply GM.Fw|apply GM.Fy|apply GM.Fz|apply GM.FA|apply GM.Bg|apply GM.Id|apply GM.Ie|apply GM.FF|apply GM.FG|apply GM.DI|apply GM.Aw|apply GM.DJ|apply GM.DK|apply GM.DL|apply GM.DM|apply GM.Ax|apply GM.Ay|apply GM.Az|apply GM.AA|apply GM.DP|apply GM.uQ|apply GM.DQ|apply GM.DR|apply GM.w7|apply GM.w8|apply GM.uR|apply GM.AB|apply GM.DS|apply GM.DT|apply GM.DU|apply GM.uk|apply GM.uj|apply GM.ul|apply GM.um|apply GM.uo|apply GM.xU)|((with_reducible first|apply GM.FB|apply GM.FD|apply GM.FE); exact rfl)|(with_reducible apply GM.sM; exact Nat.le_of_ble_eq_true rfl)|((with_reducible first|apply GM.DB|apply GM.DC|apply GM.DD|apply GM.Fl|apply GM.Fo|apply GM.Fq|apply GM.DE|apply GM.Fu|apply GM.DG); omega)|((with_reducible first|apply GM.Fm|apply GM.Fp|apply GM.Ft|apply GM.DF|apply GM.Fv|apply GM.DH); omega)|((with_reducible first|apply GM.uS|apply GM.lG); first|with_reducible assumption|symm)|(with_reducible first|exact GM.oH rfl|exact GM.qW rfl)|first|exact .inl rfl|exact .inr (.inl rfl)|exact .inr (.inr rfl)|exact .inr (.inr (.inl rfl))|exact .inr (.inr (.inr rfl))))


namespace GM
open PySem PySem.Spec PyProof.Rows L2
-- _law_stories(_law_letters_here): slots 0=_law_letters_here
def fi:S:=#v[.ret (.ix (.tup #v[.ki 10,.ki 6,.ki 5,.ki 4]) (.bin .sub (.v 0) (.ki 2)))]
noncomputable def fS (ms:Str→Str→Option Bool):Fn:=.self [] [] ms fi [false] 1 1
-- _law_table(_law_one,_law_many): slots 0=_law_one 1=_law_many 2=_law_letters_here 3=_law_made 4=_law_number_here 5=_law_word
def dT:S:=#v[.set (.n 2) (.bi .len #v[.ix (.ix (.v 0) (.ki 0)) (.ki 0)]),.own 3 (.lst .nil),.loop (.n 4) (.rng1 (.call 0 #v[.v 2,.v 1]))
 #v[.set (.n 5) (.ix (.call 2 #v[.v 0,.ki 0,.call 3 #v[.v 2,.v 1,.v 4]]) (.ki 0)),.app 3 (.call 1 #v[.v 2,.v 5])],.ret (.v 3)]
noncomputable def ft (ms:Str→Str→Option Bool):Fn:=.self [fQ ms,eU ms,fL ms,fR ms] [] ms dT [false,false] 2 6
def oY (L:Nat):Nat→Nat→List Nat
 | 0,_=>[]
 | n+1,k=>k % L :: oY L n (k / L)

def fw (L n k:Nat):List Nat:=(oY L n k).reverse

def iJ (L:Nat) (w:List Nat):Nat:=w.foldl (fun n x=>n*L+x) 0
theorem rj (L:Nat):∀ n k:Nat,sH (L:Int) n (k:Int)=ci (oY L n k)
 | 0,_=>rfl
 | n+1,k=>by
  show ((k:Int) % (L:Int)) :: sH L n ((k:Int) / (L:Int))=((k % L:Nat):Int) :: ci (oY L n (k / L))
  rw [← rj L n]
  rfl
theorem lH (L n k:Nat):ny (L:Int) n (k:Int)=ci (fw L n k):=by
 unfold ny fw
 rw [rj,ci,ci,List.map_reverse]
theorem lJ (L:Nat) (w:List Nat):ie (L:Int) (ci w)=(iJ L w:Int):=by
 have key:∀ (w:List Nat) (a:Nat),(ci w).foldl (fun (n x:Int)=>n*(L:Int)+x) (a:Int)=((w.foldl (fun n x=>n*L+x) a:Nat):Int):=by
  intro w
  induction w with
  | nil=>intro a; rfl
  | cons x w ih =>
   intro a
   show (ci w).foldl _ ((a:Int)*(L:Int)+(x:Int))=_
   rw [← Int.natCast_mul,← Int.natCast_add,ih]
   rfl
 exact key w 0
theorem oZ (L:Nat):∀ n k:Nat,(oY L n k).length=n
 | 0,_=>rfl
 | n+1,k=>by
  show (oY L n (k / L)).length+1=n+1
  rw [oZ L n]
theorem iK (L n k:Nat):(fw L n k).length=n:=by
 unfold fw
 rw [List.length_reverse,oZ]
theorem rq {L:Nat} (hL:0 < L):∀ (n k:Nat),∀ x∈oY L n k,x < L
 | 0,_,x,h=>by cases h
 | n+1,k,x,h=>by
  rcases aB.mp h with rfl | h
  ·exact Nat.mod_lt _ hL
  ·exact rq hL n _ x h
theorem gJ {L:Nat} (hL:0 < L) (n k:Nat):∀ x∈fw L n k,x < L:=fun x hx=>rq hL n k x (List.mem_reverse.mp hx)
theorem sO (L:Nat) (w:List Nat) (x:Nat):iJ L (w++[x])=iJ L w*L+x:=by
 unfold iJ
 rw [List.foldl_append]
 rfl
theorem sP (L n k:Nat):fw L (n+1) k=fw L n (k / L)++[k % L]:=by
 show (k % L :: oY L n (k / L)).reverse=_
 rw [List.reverse_cons]
 rfl
theorem lK {L:Nat} (hL:0 < L):∀ (n k:Nat),k < L ^ n→iJ L (fw L n k)=k
 | 0,k,h=>by
  obtain rfl:k=0:=by rw [Nat.pow_zero] at h; omega
  rfl
 | n+1,k,h=>by
  rw [sP,sO,lK hL n (k / L) (Nat.div_lt_of_lt_mul (by rw [Nat.pow_succ,Nat.mul_comm] at h; exact h)),Nat.mul_comm]
  exact Nat.div_add_mod k L
theorem nE {L:Nat} (hL:0 < L) {n:Nat} {w:List Nat} (h:w.length=n) (hw:∀ x∈w,x < L):fw L n (iJ L w)=w∧iJ L w < L ^ n:=by
 obtain ⟨h1,_,h3⟩:=mv (L:=(L:Int)) (by omega) n (ci w) (by rw [ci,ac]; exact h) (fun x hx=>by
  obtain ⟨y,hy,rfl⟩:=aQ.mp hx
  have:=hw y hy
  omega)
 rw [lJ] at h1 h3
 rw [lH] at h1
 refine ⟨qj h1,?_⟩
 rw [← Int.natCast_pow] at h3
 omega

def df (L:Nat) (M:Mach) (n:Nat):List Nat:=(List.range (L ^ n)).map fun k=>iJ L (Mach.out M 0 (fw L n k))
theorem kf (L:Nat) (M:Mach) (n:Nat):(df L M n).length=L ^ n:=by
 unfold df
 rw [ac,am]
def eV (L:Nat):Nat:=[10,6,5,4].getD (L - 2) 0
theorem hJ {L:Nat} (h2:2≤L) (h5:L≤5) (n:Nat):n≤eV L↔n≤10∧L ^ n≤1024:=by
 have up:∀ a b:Nat,a≤b→L ^ a≤L ^ b:=fun a b h=>Nat.pow_le_pow_right (by omega) h
 have hc:L=2∨L=3∨L=4∨L=5:=by omega
 constructor
 ·intro h
  have q:=up n (eV L) h
  rcases hc with rfl | rfl | rfl | rfl
  ·exact ⟨h,a8 q (by decide)⟩
  ·exact ⟨a8 h (by decide),a8 q (by decide)⟩
  ·exact ⟨a8 h (by decide),a8 q (by decide)⟩
  ·exact ⟨a8 h (by decide),a8 q (by decide)⟩
 ·rintro ⟨h1,h3⟩
  rcases a9 (eV L) n with z | z
  ·exfalso
   have q:=up (eV L+1) n z
   rcases hc with rfl | rfl | rfl | rfl
   ·have:(10:Nat) < n:=z
    omega
   ·have:(3:Nat) ^ (eV 3+1)=2187:=by decide
    omega
   ·have:(4:Nat) ^ (eV 4+1)=4096:=by decide
    omega
   ·have:(5:Nat) ^ (eV 5+1)=3125:=by decide
    omega
  ·exact z
section
variable {ms:Str→Str→Option Bool} {L:Nat} {M:Mach} {d:D}
theorem lL (h2:2≤L) (h5:L≤5) (w:List Nat):(eU ms).run [nD L,.tup (w.map nD)]=.ok (nD (iJ L w),.fr):=by
 have q:=ly (ms:=ms) (L:=(L:Int)) (by omega) (by omega) (ci w)
 rw [lJ] at q
 rw [iX]
 exact q
theorem nF (h2:2≤L) (h5:L≤5) (w:List Nat) (hw:∀ x∈w,x < L):(gI ms).run [nD L,.tup (w.map nD)]=.ok (nD (iJ L w),.fr):=by
 have q:=kG (ms:=ms) (L:=(L:Int)) (by omega) (by omega) (ci w) (fun x hx=>by
  obtain ⟨y,hy,rfl⟩:=aQ.mp hx
  have:=hw y hy
  omega)
 rw [lJ] at q
 rw [iX]
 exact q
theorem lW (h2:2≤L) (h5:L≤5) (n:Nat) (hn:n≤1000) (k:Nat):(fR ms).run [nD L,nD n,nD k]=.ok (.tup ((fw L n k).map nD),.fr):=by
 have q:=oQ (ms:=ms) (L:=(L:Int)) (by omega) (by omega) n hn (k:Int)
 rw [lH] at q
 rw [iX]
 exact q
theorem ql (h2:2≤L) (h5:L≤5) (n:Nat) (hn:n≤1000) (k:Nat) (hk:k < L ^ n):(iZ ms).run [nD L,nD n,nD k]=.ok (.tup ((fw L n k).map nD),.fr):=by
 have q:=oS (ms:=ms) (L:=(L:Int)) (by omega) (by omega) n hn (k:Int) ⟨by omega,by rw [← Int.natCast_pow]; omega⟩
 rw [lH] at q
 rw [iX]
 exact q
theorem o3 (h2:2≤L) (h5:L≤5):(fS ms).run [nD L]=.ok (nD (eV L),.fr):=by
 refine cH (s:=[]) rfl ?_
 have hc:L=2∨L=3∨L=4∨L=5:=by omega
 refine rg (cY (t:=.fr) (dB (d:=.tup [.int 10,.int 6,.int 5,.int 4]) (t:=.fr) (s1:=[]) (d2:=nD (L - 2)) (t2:=.fr) (s2:=[]) ?_ ?_ (p7 ?_ [])) rfl)
 ·bv_omega
 ·have e:((L - 2:Nat):Int)=(L:Int) - 2:=by omega
  show _=R.ok (D.int ((L - 2:Nat):Int),Tag.fr,[])
  rw [e]
  bv_omega
 ·rcases hc with rfl | rfl | rfl | rfl <;> rfl
theorem kB (h2:2≤L) (h5:L≤5) (n:Nat) (hn:n≤eV L):(dV ms).run [nD L,nD n]=.ok (nD (L ^ n),.fr):=by
 obtain ⟨n10,hz⟩:=(hJ h2 h5 n).mp hn
 have hw:=ig (ms:=ms) (L:=(L:Int)) (by omega) (by omega) (n:Int) (by omega)
 rw [aT,← Int.natCast_pow] at hw
 refine cH (s:=[]) rfl ?_
 apply dN (s1:=[]); (case h=>(apply lV (s1:=[]) (h2:=cp); bv_omega))
 apply dN (s1:=[]); (case h=>(apply lV (s1:=[]) (h2:=cp); bv_omega))
 apply rg; apply cY; (case h=>bv_omega); (case h2=>exact rfl)
theorem lM (n:Int) (hn:n < 0):(dV ms).run [nD L,.int n]=.er ⟨"BadCount",none⟩ [] []:=by
 refine qR (s:=[]) (l:=[some ⟨.bo,nD L⟩,some ⟨.bo,.int n⟩]) rfl ?_
 apply j5; apply uT (s1:=[]); (case h=>bv_omega)
 exact j5 rfl
theorem lX (h2:2≤L) (h5:L≤5) (n:Int) (hn:(eV L:Int) < n):(dV ms).run [nD L,.int n]=.er ⟨"TooMany",none⟩ [] []:=by
 refine qR (s:=[]) (l:=[some ⟨.bo,nD L⟩,some ⟨.bo,.int n⟩]) rfl ?_
 apply dN (s1:=[]); (case h=>(apply lV (s1:=[]) (h2:=cp); bv_omega))
 refine j5 (uT (s1:=[]) (t:=.fr) (iF ?_) (j5 rfl))
 by_cases h:10 < n
 ·refine ss (t:=.fr) ?_
  bv_omega
 ·refine DO (t:=.fr) (s1:=[]) ?_ (ss (t:=.fr) ?_)
  ·bv_omega
  ·obtain ⟨m,rfl⟩:=bm (show 0≤n by omega)
   have q:¬ m≤eV L:=by omega
   rw [hJ h2 h5] at q
   have q2:1024 < L ^ m:=by
    rcases a9 1024 (L ^ m) with z | z
    ·exact z
    ·exact absurd ⟨by omega,z⟩ q
   have hw:=ig (ms:=ms) (L:=(L:Int)) (by omega) (by omega) (m:Int) (by omega)
   rw [aT,← Int.natCast_pow] at hw
   bv_omega
theorem sQ (hM:MOk L M) (h0:0 < M.length) (hd:gY d M) (h2:2≤L) (h5:L≤5) (n:Nat) (hn:n≤1000) (hz:L ^ n≤100000):(ft ms).run [d,nD n]=.ok (.lst ((df L M n).map nD),.nw):=by
 have big:=sizeLine_eq
 have hf:=lB (ms:=ms) (L:=(L:Int)) (by omega) (by omega) (n:Int) (by omega)
 rw [aT,← Int.natCast_pow] at hf
 refine cH (s:=[]) rfl ?_
 refine dN (l1:=[some ⟨.bo,d⟩,some ⟨.bo,nD n⟩,some ⟨.fr,nD L⟩,none,none,none]) (s1:=[]) (cD (t:=.fr) (d:=nD L) ?_ (.inl rfl) rfl) ?_
 ·conv=>rhs; rw [← (hM 0 h0).1,← ac (f:=nD)]
  exact Ar (j8 hd h0 (t:=.bo) (t2:=.fr) rfl rfl)
 apply dN (s1:=[]); (case h=>(apply dD; bv_omega)); try dsimp only [List.set_cons_zero,List.set_cons_succ]
 refine dN ((dA (w6 (L:=L ^ n) (t:=.fr) ?_ (by omega))).trans (rh nD (fun pr=>[some ⟨.bo,d⟩,some ⟨.bo,nD n⟩,some ⟨.fr,nD L⟩,some ⟨.ow,.lst (pr.map fun k=>nD (iJ L (Mach.out M 0 (fw L n k))))⟩,my nD pr,my (fun k=>.tup ((Mach.out M 0 (fw L n k)).map nD)) pr]) (List.range (L ^ n)) ?_)) ?_
 ·bv_omega
 ·intro pr k r hk
  have hkl:k < L ^ n:=aC.mp (by rw [hk]; exact ao _ ap)
  have hpl:pr.length < L ^ n:=by have:=bD List.length hk; rw [am,ae,aw] at this; omega
  have c1:=lW (ms:=ms) h2 h5 n hn k
  have c2:=nv (ms:=ms) hM h0 hd (fw L n k) (gJ (by omega) n k) (by rw [iK]; omega)
  have c3:=lL (ms:=ms) h2 h5 (Mach.out M 0 (fw L n k))
  refine dN (l1:=[some ⟨.bo,d⟩,some ⟨.bo,nD n⟩,some ⟨.fr,nD L⟩,some ⟨.ow,.lst (pr.map fun k=>nD (iJ L (Mach.out M 0 (fw L n k))))⟩,some ⟨.fr,nD k⟩,some ⟨.fr,.tup ((Mach.out M 0 (fw L n k)).map nD)⟩]) (s1:=[]) (cD (t:=.fr) (d:=.tup ((Mach.out M 0 (fw L n k)).map nD)) ?_ (.inl rfl) rfl) ?_
  ·have c2':(fL ms).run [d,.int 0,.tup ((fw L n k).map nD)]=.ok (.tup [.tup ((Mach.out M 0 (fw L n k)).map nD),nD (Mach.go M 0 (fw L n k))],.fr):=c2
   bv_omega
  ·apply dN (s1:=[]); (case h=>(apply app_ok (hl:=rfl); (case h=>bv_omega); (case ht=>first|exact .inl rfl|exact .inr (.inl rfl)|exact .inr (.inr rfl)|exact .inr (.inr (.inl rfl))|exact .inr (.inr (.inr rfl))); (case hz=>(simp only [ac,ae,aw,bJ]; omega)))); try dsimp only [List.set_cons_zero,List.set_cons_succ]
   rw [ij,ij,eZ]
   rfl
 ·refine rg (cY (t:=.ow) (t':=.nw) (d:=.lst ((df L M n).map nD)) (cG ?_) rfl)
  unfold df
  rw [aU]
  rfl
end
-- _law_due(_law_one,_law_many): slots 0=_law_one 1=_law_many 2=_law_letters_here
-- _law_told(_law_one,_law_many): slots 0=_law_one 1=_law_many 2=_law_told_here
-- law(_law_script): slots 0=_law_script 1=_law_letters_here 2=_law_one 3=_law_pick 4=_law_many 5=_law_other 6=_law_count 7=_law_found

section
variable {ms:Str→Str→Option Bool} {L:Nat} {M:Mach} {d:D}

theorem nG (hM:MOk L M) (h0:0 < M.length) (hd:gY d M) (h2:2≤L) (h5:L≤5) (n:Nat) (hn:n≤eV L):(jM ms).run [d,nD n]=.ok (.lst ((df L M n).map nD),.nw):=by
 have big:=sizeLine_eq
 obtain ⟨q1,q2⟩:=(hJ h2 h5 n).mp hn
 have hb:=iH (ms:=ms) hM h0 hd
 have hs:=kB (ms:=ms) h2 h5 n hn
 refine cH (s:=[]) rfl ?_
 apply dN (s1:=[]); (case h=>(apply cD; (case h=>bv_omega); (case ht=>first|exact .inl rfl|exact .inr (.inl rfl)|exact .inr (.inr rfl)|exact .inr (.inr (.inl rfl))|exact .inr (.inr (.inr rfl))); (case h2=>exact rfl))); try dsimp only [List.set_cons_zero,List.set_cons_succ]
 apply dN (s1:=[]); (case h=>(apply dD; bv_omega)); try dsimp only [List.set_cons_zero,List.set_cons_succ]
 refine dN ((dA (w6 (L:=L ^ n) (t:=.fr) ?_ (by omega))).trans (rh nD (fun pr=>[some ⟨.bo,d⟩,some ⟨.bo,nD n⟩,some ⟨.fr,nD L⟩,some ⟨.ow,.lst (pr.map fun k=>nD (iJ L (Mach.out M 0 (fw L n k))))⟩,my nD pr,my (fun k=>.tup ((fw L n k).map nD)) pr]) (List.range (L ^ n)) ?_)) ?_
 ·bv_omega
 ·intro pr k r hk
  have hkl:k < L ^ n:=aC.mp (by rw [hk]; exact ao _ ap)
  have hpl:pr.length < L ^ n:=by have:=bD List.length hk; rw [am,ae,aw] at this; omega
  have c1:=ql (ms:=ms) h2 h5 n (by omega) k hkl
  have c2:(gH ms).run [d,.int 0,.tup ((fw L n k).map nD)]=_:=lU (ms:=ms) hM h0 hd (fw L n k) (gJ (by omega) n k) (by rw [iK]; omega)
  have c3:=nF (ms:=ms) h2 h5 (Mach.out M 0 (fw L n k)) (lx hM _ 0 h0 (gJ (by omega) n k))
  refine dN (l1:=[some ⟨.bo,d⟩,some ⟨.bo,nD n⟩,some ⟨.fr,nD L⟩,some ⟨.ow,.lst (pr.map fun k=>nD (iJ L (Mach.out M 0 (fw L n k))))⟩,some ⟨.fr,nD k⟩,some ⟨.fr,.tup ((fw L n k).map nD)⟩]) (s1:=[]) (cD (t:=.fr) (d:=.tup ((fw L n k).map nD)) ?_ (.inl rfl) rfl) ?_
  ·bv_omega
  ·apply dN (s1:=[]); (case h=>(apply app_ok (hl:=rfl); (case h=>bv_omega); (case ht=>first|exact .inl rfl|exact .inr (.inl rfl)|exact .inr (.inr rfl)|exact .inr (.inr (.inl rfl))|exact .inr (.inr (.inr rfl))); (case hz=>(simp only [ac,ae,aw,bJ]; omega)))); try dsimp only [List.set_cons_zero,List.set_cons_succ]
   rw [ij,ij,eZ]
   rfl
 ·refine rg (cY (t:=.ow) (t':=.nw) (d:=.lst ((df L M n).map nD)) (cG ?_) rfl)
  unfold df
  rw [aU]
  rfl
theorem AD {n:Nat} (A:List Nat) (h:A.length≤100000):D.pl (n+2) (.lst (A.map nD)):=by
 have big:=sizeLine_eq
 refine ⟨by rw [ac]; omega,fun x hx=>?_⟩
 obtain ⟨i,_,rfl⟩:=aQ.mp hx
 exact trivial
end
-- check_turn(letters,first): slots 0=letters 1=first
-- check_rows(letters,rows): slots 0=letters 1=rows 2=first 3=goings 4=to
-- form(letters,rows): slots 0=letters 1=rows
-- same_letters(letters): slots 0=letters
-- still(letters): slots 0=letters
-- _law_calm(_law_letters_here): slots 0=_law_letters_here
section
variable {fs:List Fn} {gs:List D} {ms:Str→Str→Option Bool} {it x:X} {l:Lc} {ds:List D} {L:Nat} {M:Mach} {d:D}

def nH (L:Nat):Mach:=[(List.range L,List.replicate L 0)]

end
-- _law_pairs(_law_one,_law_other): slots 0=_law_one 1=_law_other 2=_law_rows_here 3=_law_first 4=_law_goings 5=_law_late 6=_law_ends 7=_law_both 8=_law_paired 9=_law_became 10=_law_k
-- turned(one,other): slots 0=one 1=other 2=letter
-- joined(one,other): slots 0=one 1=other 2=numbers 3=pairs 4=rows 5=first 6=goings 7=left 8=right 9=letter 10=to 11=pair



section
variable {L:Nat} {M N:Mach}
end
section
variable {fs:List Fn} {gs:List D} {ms:Str→Str→Option Bool} {L:Nat} {M N:Mach} {d d2:D}

end
-- _law_dressed(_law_rows_here,_law_endless): slots 0=_law_rows_here 1=_law_endless 2=_law_ahead 3=_law_starts 4=_law_made 5=_law_at
-- check_endless(letters,endless): slots 0=letters 1=endless 2=beginning 3=ring
-- row_from(guise,at,word): slots 0=guise 1=at 2=word 3=letter
-- worn_endless(guise,endless): slots 0=guise 1=endless 2=at 3=seen 4=rounds 5=start 6=ahead 7=part 8=again 9=beginning 10=ring
-- _law_told(_law_one,_law_endless): slots 0=_law_one 1=_law_endless 2=_law_told_here

def Mach.turns (M:Mach) (s:Nat) (v:List Nat):Nat→Nat
 | 0=>s
 | k+1=>Mach.go M (Mach.turns M s v k) v
section
variable {M:Mach} {L s:Nat} {v:List Nat}


theorem xd {f:Nat→Nat} {k m:Nat} (h1:∀ i j,i < k→j < k→f i=f j→i=j) (h2:∀ i,f i < m):k≤m:=by
 have:=dS (l:=(List.range k).map f) (r:=List.range m) (by
  rw [aP,List.pairwise_map]
  refine List.Pairwise.imp_of_mem (fun {a b} ha hb hne he=>hne ?_) (aP.mp List.nodup_range)
  exact h1 a b (aC.mp ha) (aC.mp hb) he) (fun x hx=>by
  obtain ⟨i,_,rfl⟩:=aQ.mp hx
  exact aC.mpr (h2 i))
 rw [ac,am,am] at this
 exact this
end
section
variable {ms:Str→Str→Option Bool} {M:Mach} {L s:Nat} {d:D}

end
section
variable {fs:List Fn} {gs:List D} {a b es:X} {l:Lc} {d:D} {t:Tag} {ds:List D}
end
section
variable {ms:Str→Str→Option Bool} {M:Mach} {L:Nat} {d:D}
end
-- letter_at(endless,place): slots 0=endless 1=place 2=beginning 3=ring
-- alike_for(one,other): slots 0=one 1=other 2=place
-- _law_at_place(_law_endless,_law_place): slots 0=_law_endless 1=_law_place 2=_law_ahead 3=_law_ring
-- _law_alike(_law_one,_law_other): slots 0=_law_one 1=_law_other 2=_law_far 3=_law_place
-- _law_again(_law_endless,_law_pick): slots 0=_law_endless 1=_law_pick 2=_law_more 3=_law_longer 4=_law_wheel 5=_law_ahead 6=_law_ring 7=_law_place 8=_law_k


def Parts (A R B S:List Int) (d:D):Prop:=(d=.non∧∀ n,gd A R n=gd B S n)∨∃ m:Nat,d=.int (m:Int)∧gd A R m≠gd B S m∧∀ n,n < m→gd A R n=gd B S n
theorem Parts.symm {A R B S:List Int} {d:D} (h:Parts A R B S d):Parts B S A R d:=by
 rcases h with ⟨h1,h2⟩ | ⟨m,h1,h2,h3⟩
 ·exact .inl ⟨h1,fun n=>(h2 n).symm⟩
 ·exact .inr ⟨m,h1,fun e=>h2 e.symm,fun n hn=>(h3 n hn).symm⟩
theorem Parts.unique {A R B S:List Int} {d d':D} (h:Parts A R B S d) (g:Parts A R B S d'):d=d':=by
 rcases h with ⟨h1,h2⟩ | ⟨m,h1,h2,h3⟩
 ·rcases g with ⟨g1,_⟩ | ⟨k,_,g2,_⟩
  ·rw [h1,g1]
  ·exact absurd (h2 k) g2
 ·rcases g with ⟨_,g2⟩ | ⟨k,g1,g2,g3⟩
  ·exact absurd (g2 m) h2
  ·have:m=k:=by
    rcases bF m k with z | z | z
    ·exact absurd (g3 m z) h2
    ·exact z
    ·exact absurd (h3 k z) g2
   rw [h1,g1,this]
theorem Parts.pl {A R B S:List Int} {d:D} (h:Parts A R B S d):D.pl 8 d:=by
 rcases h with ⟨h1,_⟩ | ⟨m,h1,_,_⟩ <;> rw [h1] <;> exact trivial
section
variable {ms:Str→Str→Option Bool} {A R B S:List Int}

end

section
variable {ms:Str→Str→Option Bool} {L:Nat} {M N:Mach} {d d2:D}


end
end GM


namespace GM
section
variable {L:Nat} {P Q R:List Nat}
theorem qm (h:Turn L P):P.Nodup:=h.nodup_iff.mpr List.nodup_range
theorem sR {X:List Nat} (h:X.Nodup) {a b:Nat} (ha:a < X.length) (hb:b < X.length) (e:X.getD a 0=X.getD b 0):a=b:=by
 rw [List.getD,List.getD,ak ha,ak hb] at e
 have e:X[a]=X[b]:=e
 rw [aP,List.pairwise_iff_getElem] at h
 rcases bF a b with z | z | z
 ·exact absurd e (h a b ha hb z)
 ·exact z
 ·exact absurd e.symm (h b a hb ha z)
theorem uU (h:Turn L P) {a b:Nat} (ha:a < L) (hb:b < L) (e:P.getD a 0=P.getD b 0):a=b:=sR (qm h) (by rw [h.len]; exact ha) (by rw [h.len]; exact hb) e
theorem uV (h:Turn L P) {b:Nat} (hb:b < L):∃ a,a < L∧P.getD a 0=b:=by
 obtain ⟨a,ha,e⟩:=f6 (h.symm.subset (aC.mpr hb))
 exact ⟨a,by rw [← h.len]; exact ha,e⟩
theorem rA (h:Turn L P) {a:Nat} (ha:a < L):P.getD a 0 < L:=h.lt _ (dH (by rw [h.len]; exact ha))

def jN (L:Nat) (P:List Nat):List Nat:=(List.range L).map fun b=>((List.range L).find? fun a=>P.getD a 0 == b).getD 0
theorem AE (h:Turn L P) {b:Nat} (hb:b < L):(jN L P).getD b 0 < L∧P.getD ((jN L P).getD b 0) 0=b:=by
 have e:(jN L P).getD b 0=((List.range L).find? fun a=>P.getD a 0 == b).getD 0:=by
  unfold jN
  rw [List.getD,aD,be hb]
  rfl
 rw [e]
 obtain ⟨a,ha,ea⟩:=uV h hb
 cases q:(List.range L).find? fun a=>P.getD a 0 == b with
 | none =>
  rw [List.find?_eq_none] at q
  exact absurd (show (P.getD a 0 == b)=true by rw [ea]; exact bz b) (q a (aC.mpr ha))
 | some c =>
  have q1:=List.find?_some q
  have q2:=List.mem_of_find?_eq_some q
  exact ⟨aC.mp q2,eq_of_beq q1⟩
theorem xf:(jN L P).length=L:=by
 unfold jN
 rw [ac,am]
theorem o4 (h:Turn L P) {a:Nat} (ha:a < L):(jN L P).getD (P.getD a 0) 0=a:=by
 obtain ⟨q1,q2⟩:=AE h (rA h ha)
 exact uU h q1 ha q2
end

def iq (L:Nat) (M:Mach):Mach:=M.map fun r=>(jN L r.1,(jN L r.1).map fun a=>r.2.getD a 0)
section
variable {L:Nat} {M N K M' N':Mach}
theorem o5 {s:Nat} (hs:s < M.length):(iq L M).row s=(jN L (M.fst s),(jN L (M.fst s)).map fun a=>(M.gos s).getD a 0):=by
 unfold iq Mach.fst Mach.gos Mach.row
 rw [List.getD,aD,List.getD,ak hs]
 rfl
theorem uW {s:Nat} (hs:s < M.length):(iq L M).fst s=jN L (M.fst s):=by
 show ((iq L M).row s).1=_
 rw [o5 hs]
theorem uX {s:Nat} (hs:s < M.length):(iq L M).gos s=(jN L (M.fst s)).map fun a=>(M.gos s).getD a 0:=by
 show ((iq L M).row s).2=_
 rw [o5 hs]
theorem xg {s b:Nat} (hs:s < M.length) (hb:b < L):(iq L M).nx s b=M.nx s ((jN L (M.fst s)).getD b 0):=by
 show ((iq L M).gos s).getD b 0=_
 rw [uX hs]
 exact oF (fun a=>(M.gos s).getD a 0) (by rw [xf]; exact hb)
theorem uY {a:Nat} (ha:a < L):(nH L).nx 0 a=0:=by
 show (List.replicate L 0).getD a 0=0
 rw [List.getD,List.getElem?_replicate,aj ha]
 rfl

end
end GM


namespace GM
open PySem PySem.Spec PyProof.Rows L2
theorem sS (M:Mach):D.eqs 4 (.tup (M.map fO)):=fun x hx=>by
 obtain ⟨r,_,rfl⟩:=aQ.mp hx
 intro y hy
 have row:∀ X:List Nat,D.eqs 2 (.tup (X.map nD)):=fun X z hz=>by
  obtain ⟨i,_,rfl⟩:=aQ.mp hz
  exact trivial
 rcases aB.mp hy with rfl | hy
 ·exact row _
 rcases aB.mp hy with rfl | hy
 ·exact row _
 ·cases hy


-- head_of(endless,many): slots 0=endless 1=many 2=place

def pre (w:Nat→Nat) (n:Nat):List Nat:=(List.range n).map w
section
variable {M N:Mach} {L s i j:Nat} {w:Nat→Nat}
theorem lN (hM:fI L M):∀ (w:List Nat) (s:Nat),s < M.length→(∀ x∈w,x < L)→Mach.out (iq L M) s (Mach.out M s w)=w
 | [],_,_,_=>rfl
 | a :: w,s,hs,hw=>by
  have ha:=hw a ap
  have hb:(M.fst s).getD a 0 < L:=rA (hM.2 s hs) ha
  show ((iq L M).fst s).getD ((M.fst s).getD a 0) 0 :: Mach.out (iq L M) ((iq L M).nx s ((M.fst s).getD a 0)) (Mach.out M (M.nx s a) w)=a :: w
  rw [uW hs,o4 (hM.2 s hs) ha,xg hs hb,o4 (hM.2 s hs) ha,lN hM w _ (hM.1.nx_lt hs ha) fun x hx=>hw x (av _ hx)]
end
section
variable {ms:Str→Str→Option Bool} {a r:List Nat}
end
-- rounds(guise,word): slots 0=guise 1=word 2=many 3=now
-- whirls(guise,many): slots 0=guise 1=many 2=size
-- _law_round(_law_table_here,_law_number_here): slots 0=_law_table_here 1=_law_number_here 2=_law_many 3=_law_now
def mA {α:Type} (f:α→α):Nat→α→α
 | 0,a=>a
 | n+1,a=>mA f n (f a)
theorem o6 {α:Type} (f:α→α):∀ (n:Nat) (a:α),mA f (n+1) a=f (mA f n a)
 | 0,_=>rfl
 | n+1,a=>o6 f n (f a)
theorem rB {α:Type} (f:α→α) (m:Nat):∀ (n:Nat) (a:α),mA f (n+m) a=mA f m (mA f n a)
 | 0,a=>by rw [Nat.zero_add]; rfl
 | n+1,a=>by
  rw [Nat.succ_add]
  exact rB f m n (f a)

def IsRound {α:Type} (f:α→α) (a:α) (m:Nat):Prop:=1≤m∧mA f m a=a∧∀ j,1≤j→j < m→mA f j a≠a
theorem IsRound.unique {α:Type} {f:α→α} {a:α} {m n:Nat} (h:IsRound f a m) (g:IsRound f a n):m=n:=by
 rcases bF m n with z | z | z
 ·exact absurd h.2.1 (g.2.2 m h.1 z)
 ·exact z
 ·exact absurd g.2.1 (h.2.2 n g.1 z)
theorem uZ {P:Nat→Prop} (h:∃ m,P m):∃ m,P m∧∀ j,j < m→¬ P j:=by
 obtain ⟨m,hm⟩:=h
 induction m using Nat.strongRecOn with
 | _ m ih =>
  by_cases q:∃ j,j < m∧P j
  ·obtain ⟨j,hj,hp⟩:=q
   exact ih j hj hp
  ·exact ⟨m,hm,fun j hj hp=>q ⟨j,hj,hp⟩⟩
theorem qn {T:Nat→Nat} {N:Nat} (hT:∀ k,k < N→T k < N):∀ (j a:Nat),a < N→mA T j a < N
 | 0,_,h=>h
 | j+1,a,h=>qn hT j _ (hT a h)
theorem va {T:Nat→Nat} {N:Nat} (hT:∀ k,k < N→T k < N) (hi:∀ a b,a < N→b < N→T a=T b→a=b) {a:Nat} (ha:a < N):∃ m,IsRound T a m∧m≤N:=by
 have inj:∀ (i x y:Nat),x < N→y < N→mA T i x=mA T i y→x=y:=by
  intro i
  induction i with
  | zero=>intro x y _ _ h; exact h
  | succ i ih =>
   intro x y hx hy h
   exact hi x y hx hy (ih (T x) (T y) (hT x hx) (hT y hy) h)
 have two:∃ i j,i < j∧j < N+1∧mA T i a=mA T j a:=by
  by_cases q:∃ i j,i < j∧j < N+1∧mA T i a=mA T j a
  ·exact q
  ·have:=xd (f:=fun i=>mA T i a) (k:=N+1) (m:=N) (fun i j hi hj e=>by
    rcases bF i j with z | z | z
    ·exact absurd ⟨i,j,z,hj,e⟩ q
    ·exact z
    ·exact absurd ⟨j,i,z,hi,e.symm⟩ q) (fun i=>qn hT i a ha)
   omega
 obtain ⟨i,j,hij,hj,e⟩:=two
 have e2:mA T (j - i) a=a:=by
  refine inj i _ _ (qn hT _ a ha) ha ?_
  rw [← rB,show j - i+i=j by omega]
  exact e.symm
 obtain ⟨m,⟨h1,h2⟩,h3⟩:=uZ (P:=fun m=>1≤m∧mA T m a=a) ⟨j - i,by omega,e2⟩
 refine ⟨m,⟨h1,h2,fun k hk hkm q=>h3 k hkm ⟨hk,q⟩⟩,?_⟩
 rcases a9 N m with z | z
 ·exact absurd ⟨by omega,e2⟩ (h3 (j - i) (by omega))
 ·exact z

section
variable {L:Nat} {M:Mach}
theorem xh (hM:fI L M) (h0:0 < M.length) {w v:List Nat} (hw:∀ x∈w,x < L) (hv:∀ x∈v,x < L) (h:Mach.out M 0 w=Mach.out M 0 v):w=v:=by
 rw [← lN hM w 0 h0 hw,h,lN hM v 0 h0 hv]

abbrev jO (L:Nat) (M:Mach) (n k:Nat):Nat:=(df L M n).getD k 0
theorem qo {n k:Nat} (hk:k < L ^ n):jO L M n k=iJ L (Mach.out M 0 (fw L n k)):=by
 unfold jO df
 rw [List.getD,aD,be hk]
 rfl
theorem AF (hM:fI L M) (h0:0 < M.length) (hL:0 < L) {n k:Nat} (hk:k < L ^ n):jO L M n k < L ^ n:=by
 rw [qo hk]
 exact (nE hL (by rw [iY,iK]) (lx hM.1 _ 0 h0 (gJ hL n k))).2
theorem xj (hL:0 < L) {n:Nat} {w v:List Nat} (h1:w.length=n) (h2:v.length=n) (hw:∀ x∈w,x < L) (hv:∀ x∈v,x < L) (h:iJ L w=iJ L v):w=v:=by
 rw [← (nE hL h1 hw).1,h,(nE hL h2 hv).1]
theorem xk (hM:fI L M) (h0:0 < M.length) (hL:0 < L) {n a b:Nat} (ha:a < L ^ n) (hb:b < L ^ n) (h:jO L M n a=jO L M n b):a=b:=by
 rw [qo ha,qo hb] at h
 have e:=xj hL (by rw [iY,iK]) (by rw [iY,iK]) (lx hM.1 _ 0 h0 (gJ hL n a)) (lx hM.1 _ 0 h0 (gJ hL n b)) h
 have e2:=xh hM h0 (gJ hL n a) (gJ hL n b) e
 rw [← lK hL n a ha,e2,lK hL n b hb]
end
section
variable {ms:Str→Str→Option Bool} {L:Nat} {M:Mach} {d:D}

end
-- undone(one): slots 0=one 1=back 2=letter 3=became
-- back(guise): slots 0=guise 1=rows 2=first 3=goings 4=other 5=letter
-- _law_both(_law_one,_law_other): slots 0=_law_one 1=_law_other 2=_law_told
section
variable {ms:Str→Str→Option Bool} {L:Nat} {M N:Mach} {d d2:D}

end
-- _law_three(_law_one,_law_other,_law_third): slots 0=_law_one 1=_law_other 2=_law_third 3=_law_left 4=_law_right
-- law(_law_script): slots 0=_law_script 1=_law_letters_here 2=_law_one 3=_law_other 4=_law_third 5=_law_calm 6=_law_both_here 7=_law_word_here 8=_law_due
section
variable {ms:Str→Str→Option Bool} {L:Nat} {F G H:Mach}


end
-- sections(guise): slots 0=guise 1=at

abbrev mD (M:Mach):D:=.tup (M.map fO)
section
variable {ms:Str→Str→Option Bool} {L:Nat} {M:Mach} {d:D}

end
-- times(guise,many): slots 0=guise 1=many 2=one 3=found 4=turn

section
variable {L:Nat} {F:Mach}
end
section
variable {ms:Str→Str→Option Bool} {L:Nat} {F:Mach} {d:D}

end
-- _law_due(_law_one,_law_most): slots 0=_law_one 1=_law_most 2=_law_calm_here 3=_law_found 4=_law_many
-- order(guise,most): slots 0=guise 1=most 2=calm 3=found 4=many
-- _law_told(_law_one,_law_most): slots 0=_law_one 1=_law_most 2=_law_told_here
-- law(_law_script): slots 0=_law_script 1=_law_letters_here 2=_law_one 3=_law_pick 4=_law_most 5=_law_beyond 6=_law_many

section
variable {ms:Str→Str→Option Bool} {L:Nat} {F:Mach}


end
-- camps(guises,many): slots 0=guises 1=many 2=size 3=tables 4=marks 5=found 6=number 7=guise 8=camp 9=at 10=table
-- _law_first(_law_door,_law_one,_law_bad,_law_far): slots 0=_law_door 1=_law_one 2=_law_bad 3=_law_far
-- _law_second(_law_door,_law_one,_law_bad,_law_far): slots 0=_law_door 1=_law_one 2=_law_bad 3=_law_far
-- _law_told(_law_door,_law_one,_law_bad,_law_far): slots 0=_law_door 1=_law_one 2=_law_bad 3=_law_far 4=_law_told_here
-- law(_law_script): slots 0=_law_script 1=_law_letters_here 2=_law_one 3=_law_pick 4=_law_bad 5=_law_far 6=_law_due 7=_law_door
section
variable {ms:Str→Str→Option Bool} {L:Nat} {M:Mach} {d:D}
end
-- moved(guise,by): slots 0=guise 1=by 2=first 3=goings 4=to
-- branched(first,guises): slots 0=first 1=guises 2=rows 3=dU 4=guise
-- _law_together(_law_first,_law_guises): slots 0=_law_first 1=_law_guises 2=_law_rows_here 3=_law_heads 4=_law_one 5=_law_by 6=_law_late 7=_law_goings 8=_law_to


section
variable {L:Nat} {P:List Nat} {Gs:List Mach}

end
section
variable {ms:Str→Str→Option Bool} {L:Nat} {P:List Nat} {Gs:List Mach}

end
-- _law_told(_law_first,_law_guises): slots 0=_law_first 1=_law_guises 2=_law_told_here
-- law(_law_script): slots 0=_law_script 1=_law_letters_here 2=_law_first 3=_law_some 4=_law_guises 5=_law_handed 6=_law_due 7=_law_found 8=_law_letter 9=_law_k
-- law(_law_script): slots 0=_law_script 1=_law_letters_here 2=_law_one 3=_law_other 4=_law_many 5=_law_left 6=_law_right 7=_law_back_table 8=_law_both_here 9=_law_again 10=_law_lower 11=_law_number 12=_law_letter
section
variable {L:Nat} {M:Mach}
end
section
variable {L:Nat} {M N J:Mach}
end
-- depth(guise): slots 0=guise 1=calm 2=known 3=at 4=turn 5=row 6=to

def QD (L:Nat) (M:Mach):Nat→Nat→Prop
 | 0,s=>Eqv L (nH L) 0 M s
 | k+1,s=>∀ a,a < L→QD L M k (M.nx s a)
def IsDep (L:Nat) (M:Mach) (s d:Nat):Prop:=QD L M d s∧∀ k,k < d→¬ QD L M k s
section
variable {L:Nat} {M N:Mach}
theorem xn {s a:Nat} (h:Eqv L (nH L) 0 M s) (ha:a < L):Eqv L (nH L) 0 M (M.nx s a):=by
 have q:=h.nx ha
 rw [uY ha] at q
 exact q
theorem QD.up:∀ {k s:Nat},QD L M k s→QD L M (k+1) s
 | 0,_,h=>fun _ ha=>xn h ha
 | _+1,_,h=>fun a ha=>QD.up (h a ha)
theorem QD.mono {k m s:Nat} (h:QD L M k s) (hm:k≤m):QD L M m s:=by
 induction m with
 | zero =>
  obtain rfl:k=0:=by omega
  exact h
 | succ m ih =>
  rcases Nat.eq_or_lt_of_le hm with rfl | z
  ·exact h
  ·exact (ih (by omega)).up
theorem IsDep.unique {s d e:Nat} (h:IsDep L M s d) (g:IsDep L M s e):d=e:=by
 rcases bF d e with z | z | z
 ·exact absurd h.1 (g.2 d z)
 ·exact z
 ·exact absurd g.1 (h.2 e z)
theorem vb {s k:Nat} (h:QD L M k s):∃ d,IsDep L M s d∧d≤k:=by
 induction k using Nat.strongRecOn with
 | _ k ih =>
  by_cases q:∃ j,j < k∧QD L M j s
  ·obtain ⟨j,hj,hq⟩:=q
   obtain ⟨d,hd,hl⟩:=ih j hj hq
   exact ⟨d,hd,by omega⟩
  ·exact ⟨k,⟨h,fun j hj hq=>q ⟨j,hj,hq⟩⟩,ax _⟩

theorem IsDep.step (h0:0 < L) {s d:Nat} (h:IsDep L M s (d+1)):(∀ a,a < L→∃ e,IsDep L M (M.nx s a) e∧e≤d)∧∃ a,a < L∧IsDep L M (M.nx s a) d:=by
 have h1:∀ a,a < L→QD L M d (M.nx s a):=h.1
 refine ⟨fun a ha=>vb (h1 a ha),?_⟩
 by_cases q:∃ a,a < L∧IsDep L M (M.nx s a) d
 ·exact q
 exfalso
 cases d with
 | zero=>exact q ⟨0,h0,h1 0 h0,fun k hk=>absurd hk (ba k)⟩
 | succ d =>
  refine h.2 (d+1) (by omega) fun a ha=>?_
  obtain ⟨e,he,hl⟩:=vb (h1 a ha)
  rcases Nat.eq_or_lt_of_le hl with rfl | z
  ·exact absurd ⟨a,ha,he⟩ q
  ·exact he.1.mono (by omega)
theorem IsDep.lt (h0:0 < L) (hM:MOk L M):∀ {d s:Nat},s < M.length→IsDep L M s d→d < M.length:=by
 intro d s hs h
 have chain:∀ d s,s < M.length→IsDep L M s d→∃ f:Nat→Nat,∀ i,i≤d→f i < M.length∧IsDep L M (f i) i:=by
  intro d
  induction d with
  | zero =>
   intro s hs h
   refine ⟨fun _=>s,fun i hi=>?_⟩
   obtain rfl:i=0:=by omega
   exact ⟨hs,h⟩
  | succ d ih =>
   intro s hs h
   obtain ⟨a,ha,q⟩:=(h.step h0).2
   obtain ⟨f,hf⟩:=ih _ (hM.nx_lt hs ha) q
   refine ⟨fun i=>if i=d+1 then s else f i,fun i hi=>?_⟩
   show (if i=d+1 then s else f i) < M.length∧IsDep L M (if i=d+1 then s else f i) i
   by_cases z:i=d+1
   ·rw [aj z,z]; exact ⟨hs,h⟩
   ·rw [aq z]; exact hf i (by omega)
 obtain ⟨f,hf⟩:=chain d s hs h
 have hn:((List.range (d+1)).map f).Nodup:=by
  rw [aP,List.pairwise_map]
  refine List.Pairwise.imp_of_mem ?_ (aP.mp List.nodup_range)
  intro i j hi hj hne e
  have h1:=(hf i (by have:=aC.mp hi; omega)).2
  have h2:=(hf j (by have:=aC.mp hj; omega)).2
  rw [e] at h1
  exact hne (h1.unique h2)
 have q:=dS hn (r:=List.range M.length) fun x hx=>by
  obtain ⟨i,hi,rfl⟩:=aQ.mp hx
  exact aC.mpr (hf i (by have:=aC.mp hi; omega)).1
 rw [ac,am,am] at q
 omega
theorem QD.congr {s t:Nat} (h:Eqv L M s N t):∀ k,QD L M k s→QD L N k t:=by
 intro k
 induction k generalizing s t with
 | zero=>intro q; exact Eqv.trans q h
 | succ k ih=>intro q a ha; exact ih (h.nx ha) (q a ha)
theorem IsDep.congr {s t d:Nat} (h:Eqv L M s N t) (g:IsDep L M s d):IsDep L N t d:=⟨QD.congr h d g.1,fun k hk q=>g.2 k hk (QD.congr h.symm k q)⟩
end

def KnI (L:Nat) (M:Mach) (kv:List (D × D)):Prop:=KD kv (List.range M.length)∧∀ (s:Nat) (v:D),D.look kv (nD s)=some v→∃ d,v=nD d∧IsDep L M s d
section
variable {L:Nat} {M:Mach}
theorem KnI.nil:KnI L M []:=⟨KD.nil _,fun s v h=>by rw [nL] at h; cases h⟩
theorem KnI.put {kv:List (D × D)} {s d:Nat} (h:KnI L M kv) (hs:s < M.length) (hd:IsDep L M s d):KnI L M (D.put kv (nD s) (nD d)):=by
 refine ⟨h.1.put (aC.mpr hs) _,fun t v q=>?_⟩
 rw [fG] at q
 by_cases e:nD t=nD s
 ·rw [aj e] at q
  rw [gv e]
  exact ⟨d,(ad q).symm,hd⟩
 ·rw [aq e] at q
  exact h.2 t v q
theorem KnI.len {kv:List (D × D)} (h:KnI L M kv):kv.length≤M.length:=by
 have:=h.1.len
 rw [am] at this
 exact this
end
section
variable {ms:Str→Str→Option Bool} {L:Nat} {F:Mach}
end

inductive Rch (Ts:List (Nat→Nat)) (a:Nat):Nat→Prop
 | rf:Rch Ts a a
 | st {b:Nat} {f:Nat→Nat}:Rch Ts a b→f∈Ts→Rch Ts a (f b)

def gB (Ts:List (Nat→Nat)) (N:Nat):Prop:=∀ f∈Ts,(∀ k,k < N→f k < N)∧∀ a b,a < N→b < N→f a=f b→a=b
section
variable {Ts:List (Nat→Nat)} {N a b c:Nat}
theorem Rch.trans (h:Rch Ts a b) (g:Rch Ts b c):Rch Ts a c:=by
 induction g with
 | rf=>exact h
 | st _ hf ih=>exact .st ih hf
theorem Rch.lt (hp:gB Ts N) (ha:a < N) (h:Rch Ts a b):b < N:=by
 induction h with
 | rf=>exact ha
 | st _ hf ih=>exact (hp _ hf).1 _ ih
theorem Rch.it {f:Nat→Nat} (hf:f∈Ts):∀ (j a:Nat),Rch Ts a (mA f j a)
 | 0,a=>.rf
 | j+1,a=>by
  rw [o6]
  exact .st (Rch.it hf j a) hf
theorem Rch.back1 (hp:gB Ts N) {f:Nat→Nat} (hf:f∈Ts) (ha:a < N):Rch Ts (f a) a:=by
 obtain ⟨m,⟨m1,m2,_⟩,_⟩:=va (hp f hf).1 (hp f hf).2 ha
 obtain ⟨k,rfl⟩:∃ k,m=k+1:=⟨m - 1,by omega⟩
 have e:mA f k (f a)=a:=m2
 have q:=Rch.it hf k (f a)
 rw [e] at q
 exact q
theorem Rch.symm (hp:gB Ts N) (ha:a < N) (h:Rch Ts a b):Rch Ts b a:=by
 induction h with
 | rf=>exact .rf
 | st hb hf ih=>exact (Rch.back1 hp hf (hb.lt hp ha)).trans ih
open Classical in

noncomputable def cmp (Ts:List (Nat→Nat)) (N a:Nat):List Nat:=(List.range N).filter fun b=>decide (Rch Ts a b)
open Classical in

noncomputable def dU (Ts:List (Nat→Nat)) (n:Nat):List Nat:=(List.range n).filter fun a=>decide (∀ b,b < a→¬ Rch Ts b a)
noncomputable def cK (Ts:List (Nat→Nat)) (N n:Nat):List (List Nat):=(dU Ts n).map (cmp Ts N)

open Classical in
theorem rC {x:Nat}:x∈cmp Ts N a↔x < N∧Rch Ts a x:=by
 unfold cmp
 rw [List.mem_filter,aC,bB]

open Classical in
theorem heads_mem {n x:Nat}:x∈dU Ts n↔x < n∧∀ b,b < x→¬ Rch Ts b x:=by
 unfold dU
 rw [List.mem_filter,aC,bB]

open Classical in
theorem qp {n:Nat} (h:∃ b,b < n∧Rch Ts b n):cK Ts N (n+1)=cK Ts N n:=by
 unfold cK dU
 rw [List.range_succ,List.filter_append,List.filter_cons]
 rw [aq (by
  rw [bB]
  intro q
  obtain ⟨b,hb,hr⟩:=h
  exact q b hb hr),List.filter_nil,aM]

open Classical in
theorem qr {n:Nat} (h:∀ b,b < n→¬ Rch Ts b n):cK Ts N (n+1)=cK Ts N n++[cmp Ts N n]:=by
 unfold cK dU
 rw [List.range_succ,List.filter_append,List.filter_cons]
 rw [aj (by rw [bB]; exact h),List.filter_nil,bj]
 rfl
theorem o7 (N:Nat) (P:Nat→Bool):((List.range N).filter P).Pairwise (· < ·):=List.Pairwise.filter _ List.pairwise_lt_range
theorem vc {c:List Nat} (hn:c.Nodup) (h:∀ x,x∈c↔x∈cmp Ts N a):(c.map fun n:Nat=>(n:Int)).mergeSort (fun a b=>decide (a≤b))=(cmp Ts N a).map fun n:Nat=>(n:Int):=by
 have hu:(cmp Ts N a).Pairwise (· < ·):=o7 N _
 have nd:(cmp Ts N a).Nodup:=aP.mpr (hu.imp fun h=>by omega)
 have hp:((c.map fun n:Nat=>(n:Int)).mergeSort fun a b=>decide (a≤b)).Perm ((cmp Ts N a).map fun n:Nat=>(n:Int)) :=
  (bQ _ _).trans (((List.perm_ext_iff_of_nodup hn nd).mpr h).map _)
 have hs:((c.map fun n:Nat=>(n:Int)).mergeSort fun a b=>decide (a≤b)).Pairwise (·≤·):=by
  have q:=bH (le:=fun a b:Int=>decide (a≤b)) (fun a b c h1 h2=>by simp at *; omega) (fun a b=>by simp; omega) (c.map fun n:Nat=>(n:Int))
  exact q.imp fun h=>by simpa using h
 refine PySem.W.Srt.one _ _ hp hs ?_
 rw [List.pairwise_map]
 exact hu.imp fun h=>by omega

structure CInv (Ts:List (Nat→Nat)) (N a:Nat) (o0 c:List Nat) (j k:Nat):Prop where
 nd:(o0++c).Nodup
 lt:∀ x∈o0++c,x < N
 re:∀ x∈c,Rch Ts a x
 st:a∈c
 dn:∀ i,i < j→∀ f∈Ts,f (c.getD i 0)∈o0++c
 cu:∀ f∈Ts.take k,f (c.getD j 0)∈o0++c
 jl:j≤c.length
theorem CInv.len {o0 c:List Nat} {j k:Nat} (h:CInv Ts N a o0 c j k):o0.length+c.length≤N:=by
 have:=dS h.nd (r:=List.range N) fun x hx=>aC.mpr (h.lt x hx)
 rw [am,ae] at this
 exact this
theorem CInv.fin {o0 c:List Nat} {j k:Nat} (h:CInv Ts N a o0 c j k) (hj:c.length≤j) (ho:∀ x∈o0,¬ Rch Ts a x):∀ x,x∈c↔x∈cmp Ts N a:=fun x=>by
 rw [rC]
 constructor
 ·intro hx
  exact ⟨h.lt x (ao _ hx),h.re x hx⟩
 ·rintro ⟨hx,hr⟩
  clear hx
  induction hr with
  | rf=>exact h.st
  | @st b f hb hf ih =>
   have hbc:=ih
   obtain ⟨i,hi,e⟩:=List.getElem_of_mem hbc
   have q:=h.dn i (by omega) f hf
   rw [List.getD,ak hi] at q
   rw [show (some c[i]).getD 0=b from e] at q
   rcases aR.mp q with z | z
   ·exact absurd (.st hb hf) (ho _ z)
   ·exact z
end
def lD (c:List Nat):D:=.lst (c.map nD)
def fD (T:List Nat):Nat→Nat:=fun k=>T.getD k 0
section
variable {ms:Str→Str→Option Bool} {L:Nat}

abbrev cW:S:=.cons (.loop (.n 10) (.it (.v 3)) #v[.ife (.cmp .notin (.ix (.v 10) (.ix (.v 8) (.v 9))) (.v 4)) #v[.sub 4 (.ix (.v 10) (.ix (.v 8) (.v 9))) (.kb true),.app 8 (.ix (.v 10) (.ix (.v 8) (.v 9)))] .nil]) #v[.aug 9 (.ki 1)]
theorem mB {Ms:List Mach} (hL:0 < L) (n:Nat) (hM:∀ M∈Ms,fI L M∧0 < M.length):gB (Ms.map fun M=>jO L M n) (L ^ n):=fun f hf=>by
 obtain ⟨M,h,rfl⟩:=aQ.mp hf
 obtain ⟨h1,h2⟩:=hM M h
 exact ⟨fun k hk=>AF h1 h2 hL hk,fun a b ha hb e=>xk h1 h2 hL ha hb e⟩

noncomputable def cE (L:Nat) (Ms:List Mach) (n:Nat):List (List Nat):=cK (Ms.map fun M=>jO L M n) (L ^ n) (L ^ n)
end

end GM


namespace GM
section
variable {Ts Us:List (Nat→Nat)} {N n a b c:Nat}




end
section
variable {L:Nat} {M F G:Mach}


end
end GM


namespace GM
open PySem PySem.Spec PyProof.Rows L2
abbrev nS (n:Nat):Option Sl:=some ⟨.fr,nD n⟩

theorem o8 {α τ:Type} {fs:List Fn} {gs:List D} {ms:Str→Str→Option Bool} {tg:T} {it:X} {b:S} (e:α→D) (L:τ→Lc) (U:τ→cj) (I:List α→τ→Prop) (xs:List α) (t:τ) (hit:gM fs gs it (L t) (U t)=.ok (xs.map e,U t)) (h0:I [] t)
  (hb:∀ pr x r t,xs=pr++x :: r→I pr t→∃ l1 t',T.put tg (e x) (L t)=some l1∧cF fs gs ms b l1 (U t)=.ok (.nx (L t') (U t'))∧I (pr++[x]) t') :
  ∃ t',cF fs gs ms (.loop tg it b) (L t) (U t)=.ok (.nx (L t') (U t'))∧I xs t':=by
 rw [dA hit]
 have key:∀ (r pr:List α) (t:τ),xs=pr++r→I pr t→∃ t',gO (fun d l s=>match T.put tg d l with | some l1=>cF fs gs ms b l1 s | none=>.no) (r.map e) (L t) (U t)=.ok (.nx (L t') (U t'))∧I xs t':=by
  intro r
  induction r with
  | nil =>
   intro pr t hx hi
   rw [aM] at hx
   exact ⟨t,rfl,hx ▸ hi⟩
  | cons x r ih =>
   intro pr t hx hi
   obtain ⟨l1,t1,h1,h2,h3⟩:=hb pr x r t hx hi
   obtain ⟨t2,h4,h5⟩:=ih (pr++[x]) t1 (by rw [aK]; exact hx) h3
   refine ⟨t2,?_,h5⟩
   show ((match T.put tg (e x) (L t) with | some l1=>cF fs gs ms b l1 (U t) | none=>R.no).bind (dF (gO _ (r.map e))))=_
   rw [h1]
   show (cF fs gs ms b l1 (U t)).bind (dF (gO _ (r.map e)))=_
   rw [h2]
   exact h4
 exact key xs [] t rfl h0
theorem lO {α:Type} {body:D→cj→R (Option D × cj)} (e g:α→D) (s:cj):∀ xs:List α,(∀ x∈xs,body (e x) s=.ok (some (g x),s))→dh body (xs.map e) s=.ok (xs.map g,s)
 | [],_=>rfl
 | x :: xs,h=>by
  show (body (e x) s).bind _=_
  rw [h x ap]
  show (dh body (xs.map e) s).bind _=_
  rw [lO e g s xs fun y hy=>h y (av _ hy)]
  rfl
theorem i7 {α:Type} {fs:List Fn} {gs:List D} {own:List Nat} {t:T} {it e:X} {l:Lc} {s:cj} {ds:List α} {en g:α→D} (ho:oC l own=true) (hi:gM fs gs it l s=.ok (ds.map en,s))
  (hb:∀ x∈ds,∃ l1 tg,T.put t (en x) (dE l own)=some l1∧b9 fs gs e l1 s=.ok (g x,tg,s)∧nc tg (g x)) (hz:ds.length≤100000):b9 fs gs (.comp own t it .nil e) l s=.ok (.lst (ds.map g),.nw,s):=by
 have big:=sizeLine_eq
 show (if oC l own=false then R.no else (gM fs gs it l s).bind fun (xs,s1) =>
   (R.noEr (dh (fun x s=>match T.put t x (dE l own) with
    | none=>R.no
    | some l1=>(if X.isNil .nil=true then R.ok (true,s) else (b9 fs gs .nil l1 s).bind fun (b,_,s2)=>match b with | .bl b=>.ok (b,s2) | _=>.no).bind fun (b,s2) =>
      if b=true then cg (b9 fs gs e l1 s2) (fun d s3=>R.ok (some d,s3)) else R.ok ((none:Option D),s2)) xs s1)).bind fun (ds,s2)=>if ds.length≤sizeLine then dW (.lst ds) s2 else .no)=_
 rw [ho,hi]
 show (R.noEr (dh _ (ds.map en) s)).bind _=_
 rw [lO en g s ds fun x hx=>?_]
 ·show (if (ds.map g).length≤sizeLine then dW (.lst (ds.map g)) s else R.no)=_
  rw [ac,aj (by omega)]
  rfl
 ·obtain ⟨l1,tg,h1,h2,h3⟩:=hb x hx
  simp only [h1]
  show cg (b9 fs gs e l1 s) (fun d s3=>R.ok (some d,s3))=_
  rw [h2,fq,aq (gG h3)]

theorem kC {α β:Type} (f:α→β):∀ (xs:List α) (n:Nat),(xs.map f).zipIdx n=(xs.zipIdx n).map fun p=>(f p.1,p.2)
 | [],_=>rfl
 | x :: xs,n=>by
  show (f x,n) :: (xs.map f).zipIdx (n+1)=(f x,n) :: (xs.zipIdx (n+1)).map fun p=>(f p.1,p.2)
  rw [kC f xs]
theorem vd {fs:List Fn} {gs:List D} {x:X} {l:Lc} {s:cj} {t:Tag} {d:D} {A:List Nat} (h:b9 fs gs x l s=.ok (d,t,s)) (hd:d=.tup (A.map nD)∨d=.lst (A.map nD)) (ht:t≠.ow):gM fs gs (.enum x 0) l s=.ok ((A.zipIdx 0).map fun p=>fU (nD p.2) (nD p.1),s):=by
 show fP (b9 fs gs x l s) (fun x s1=>match x.items with | some xs=>R.ok ((xs.zipIdx 0).map fun p=>fU (.int (p.2:Nat)) p.1,s1) | none=>.no)=_
 rw [h,jF,aq ht]
 have e:d.items=some (A.map nD):=by rcases hd with rfl | rfl <;> rfl
 rw [e]
 show R.ok (((A.map nD).zipIdx 0).map fun p=>fU (.int (p.2:Nat)) p.1,s)=_
 rw [kC,aU]
 rfl
theorem AG {fs:List Fn} {gs:List D} {x:X} {l:Lc} {s:cj} {t:Tag} {n:Nat} (h:b9 fs gs x l s=.ok (nD n,t,s)) (hz:n≤1000000):gM fs gs (.rng1 x) l s=.ok ((List.range n).map nD,s):=by
 show (b9 fs gs x l s).bind _=_
 rw [h,cJ]
 show (if -(2 ^ 62)≤(n:Int)∧(n:Int) < 2 ^ 62 then R.ok (gL 0 (n:Int).toNat,s) else .no)=_
 rw [aj ⟨by omega,by omega⟩,aT]
 unfold gL
 congr 2
 refine bT fun i _=>?_
 show D.int (0+(i:Int))=D.int (i:Int)
 rw [Int.zero_add]
section
variable {fs:List Fn} {gs:List D} {ms:Str→Str→Option Bool} {k x:X} {l:Lc} {s:cj} {i n:Nat} {kvs:List (D × D)} {y d:D} {ds:List D} {t t2:Tag}
end
section
variable {fs:List Fn} {gs:List D} {ms:Str→Str→Option Bool} {l:Lc} {s s1 s2:cj} {o x k:X} {c f m:Str} {d d2:D} {t t2:Tag} {n j:Nat} {fv:List (Str × D)}
theorem AH (h:b9 fs gs x l s=.ok (d,.nw,s1)) (hs:s1≠[]):b9 fs gs (.new x) l s=.ok (.loc s1.length,.fr,s1++[.obj d]):=by
 show (b9 fs gs x l s).bind _=_
 rw [h]
 show (if Tag.nw=.nw∧s1≠[] then cr (.loc s1.length) (s1++[.obj d]) else .no)=_
 rw [aj ⟨rfl,hs⟩]
 rfl
variable {F:Fn} {es:X} {ds:List D} {c2:Cell} {s3:cj} {e:Ex} {l2:Lc}
theorem rD (hf:fs[j]?=some F) (ha:fE fs gs es F.kp l s=.ok (ds,s1)) (hs:s1≠[]) :
  b9 fs gs (.calS j es) l s=match F.runS ds s1 with
   | .ok (d,t,c :: s2)=>.ok (d,t,c :: s2)
   | .er e (c :: s2) _=>.er e (c :: s2) l
   | _=>.no:=by
 simp only [b9,hf,ha]
 exact aq hs
theorem kR (hf:fs[j]?=some F) (ha:fE fs gs es F.kp l s=.ok (ds,s1)) (hs:s1≠[]) (hr:F.runS ds s1=.ok (d2,t2,c2 :: s2)):b9 fs gs (.calS j es) l s=.ok (d2,t2,c2 :: s2):=by
 rw [rD hf ha hs,hr]
theorem xo (hf:fs[j]?=some F) (ha:fE fs gs es F.kp l s=.ok (ds,s1)) (hs:s1≠[]) (hr:F.runS ds s1=.er e (c2 :: s2) l2):b9 fs gs (.calS j es) l s=.er e (c2 :: s2) l:=by
 rw [rD hf ha hs,hr]
end
section
variable {fs:List Fn} {gs:List D} {ms:Str→Str→Option Bool} {x y o k v es:X} {l l1 l2:Lc} {s s1 s2 s3 s4:cj} {d d2 d3:D} {t t2 t3:Tag} {n j:Nat} {ds:List D}
theorem xp {ds0:List D} (ho:b9 fs gs o l s=.ok (.loc n,t,s1)) (h0:s1[n]?=some (.obj (.lst ds0))) (hx:b9 fs gs x l s1=.ok (d,t2,s2)) (ht:nc t2 d) (hc:s2[n]?=some (.obj (.lst ds))) (hz:ds.length < sizeLine) :
  cF fs gs ms (.capp o x) l s=.ok (.nx l (s2.set n (.obj (.lst (ds++[d]))))):=by
 show (b9 fs gs o l s).bind _=_
 rw [ho,cJ]
 show (match s1[n]? with
  | some (.obj (.lst _))=>cg (b9 fs gs x l s1) fun d s2=>match s2[n]? with
   | some (.obj (.lst ds))=>if ds.length < sizeLine then R.ok (Out.nx l (s2.set n (.obj (.lst (ds++[d]))))) else .no
   | _=>.no
  | _=>.no)=_
 rw [h0]
 show cg (b9 fs gs x l s1) _=_
 rw [hx,fq,aq (gG ht)]
 show (match s2[n]? with
   | some (.obj (.lst ds))=>if ds.length < sizeLine then R.ok (Out.nx l (s2.set n (.obj (.lst (ds++[d]))))) else .no
   | _=>.no)=_
 rw [hc]
 exact aj hz
end
-- camps(guises,many): slots 0=guises 1=many 2=size 3=tables 4=marks 5=found 6=number 7=guise 8=camp 9=at 10=table
def fB:S:=#v[.set (.n 2) (.call 1 #v[.call 2 #v[.ix (.v 0) (.ki 0)],.v 1]),.set (.n 3) (.comp [7] (.n 7) (.it (.v 0)) .nil (.call 0 #v[.v 7,.v 1])),.own 4 (.dic false .nil .nil),.own 5 (.lst .nil),.loop (.n 6) (.rng1 (.v 2))
 #v[.ife (.cmp .notin (.v 6) (.v 4))
 #v[.own 8 (.lst #v[.v 6]),.sub 4 (.v 6) (.kb true),.set (.n 9) (.ki 0),.whl (.cmp .lt (.v 9) (.bi .len #v[.v 8]))
 #v[.loop (.n 10) (.it (.v 3))
 #v[.ife (.cmp .notin (.ix (.v 10) (.ix (.v 8) (.v 9))) (.v 4))
 #v[.sub 4 (.ix (.v 10) (.ix (.v 8) (.v 9))) (.kb true),.app 8 (.ix (.v 10) (.ix (.v 8) (.v 9)))]
 .nil],.aug 9 (.ki 1)],.app 5 (.new (.bi .sorted #v[.v 8]))]
 .nil],.ret (.v 5)]
noncomputable def dC (ms:Str→Str→Option Bool):Fn:=.both [jM ms,dV ms,gf ms] [] ms fB [true,false] 2 11
theorem jP {fs:List Fn} {gs:List D} {x:X} {l:Lc} {s:cj} {t:Tag} {ds:List D} (h:b9 fs gs x l s=.ok (.lst ds,t,s)) (ht:t≠.ow):gM fs gs (.it x) l s=.ok (ds,s):=by
 show fP (b9 fs gs x l s) (fun x s1=>match x.items with | some xs=>R.ok (xs,s1) | none=>.no)=R.ok (ds,s)
 rw [h,jF,aq ht]
 rfl
theorem vf {fs:List Fn} {gs:List D} {ms:Str→Str→Option Bool} {body:S} {kp:List Bool} {np n:Nat} {ds:List D} {s s':cj} {d:D} {t:Tag} (hl:ds.length=np) (hs:s≠[]) (hs':s'≠[]) (h:cF fs gs ms body (fF kp n ds) s=.ok (.rt d t s')) :
  (Fn.both fs gs ms body kp np n).runS ds s=.ok (d,t,s'):=by
 cases s' with
 | nil=>exact absurd rfl hs'
 | cons c s'=>exact kO hl hs h

theorem Hw {τ:Type} {cond:Lc→cj→R (Bool × cj)} {body:Lc→cj→R Out} (L:τ→Lc) (s:cj) (c:τ→Bool) (I:τ→Prop) (m:τ→Nat)
  (hc:∀ t,I t→cond (L t) s=.ok (c t,s)) (hb:∀ t,I t→c t=true→∃ t',body (L t) s=.ok (.nx (L t') s)∧I t'∧m t' < m t) :
  ∀ t,I t→∃ t',jy cond body (L t) s=.ok (.nx (L t') s)∧I t'∧c t'=false:=by
 intro t
 induction h:m t using Nat.strongRecOn generalizing t with
 | _ n ih =>
  intro hi
  rw [pV,hc t hi]
  cases hct:c t with
  | false=>exact ⟨t,by simp [R.bind],hi,hct⟩
  | true =>
   obtain ⟨t1,h1,h2,h3⟩:=hb t hi hct
   have e2:(R.ok (true,s)).bind (fun (b,s1)=>if b=true then (body (L t) s1).bind (dF (jy cond body)) else R.ok (Out.nx (L t) s1))=jy cond body (L t1) s:=by
    show (body (L t) s).bind (dF (jy cond body))=_
    rw [h1]
    rfl
   rw [e2]
   exact ih (m t1) (by omega) t1 rfl h2
section
variable {ms:Str→Str→Option Bool} {L:Nat}
theorem o9 {fs:List Fn} {s:cj} {Tt:List (List Nat)} {N a:Nat} (hN:N≤100000) (hT:∀ T∈Tt,T.length=N) (hp:gB (Tt.map fD) N) (ha:a < N) {o0:List Nat} (hn:(o0++[a]).Nodup) (hl:∀ x∈o0,x < N) {kv:List (D × D)} (hs:SD kv (o0++[a]) fun _=>.bl true) (s0 s1 s2 s5 s6 s7 sX:Option Sl) :
  ∃ c kv' j s10',CInv (Tt.map fD) N a o0 c j 0∧c.length≤j∧SD kv' (o0++c) (fun _=>.bl true)∧cF fs [] ms (.whl (.cmp .lt (.v 9) (.bi .len #v[.v 8])) cW) [s0,s1,s2,some ⟨.fr,.lst (Tt.map lD)⟩,some ⟨.ow,.dic false kv⟩,s5,s6,s7,some ⟨.ow,lD [a]⟩,some ⟨.fr,nD 0⟩,sX] s =
   .ok (.nx [s0,s1,s2,some ⟨.fr,.lst (Tt.map lD)⟩,some ⟨.ow,.dic false kv'⟩,s5,s6,s7,some ⟨.ow,lD c⟩,some ⟨.fr,nD j⟩,s10'] s):=by
 have big:=sizeLine_eq
 let Ts:=Tt.map fD
 let LL:(List (D × D) × List Nat × Nat × Option Sl)→Lc:=fun t=>[s0,s1,s2,some ⟨.fr,.lst (Tt.map lD)⟩,some ⟨.ow,.dic false t.1⟩,s5,s6,s7,some ⟨.ow,lD t.2.1⟩,some ⟨.fr,nD t.2.2.1⟩,t.2.2.2]
 have hin:∀ t:(List (D × D) × List Nat × Nat × Option Sl),CInv Ts N a o0 t.2.1 t.2.2.1 0→SD t.1 (o0++t.2.1) (fun _=>.bl true)→t.2.2.1 < t.2.1.length→∃ t',cF fs [] ms (.loop (.n 10) (.it (.v 3)) #v[.ife (.cmp .notin (.ix (.v 10) (.ix (.v 8) (.v 9))) (.v 4)) #v[.sub 4 (.ix (.v 10) (.ix (.v 8) (.v 9))) (.kb true),.app 8 (.ix (.v 10) (.ix (.v 8) (.v 9)))] .nil]) (LL t) s=.ok (.nx (LL t') s)∧CInv Ts N a o0 t'.2.1 (t'.2.2.1+1) 0∧SD t'.1 (o0++t'.2.1) (fun _=>.bl true)∧t'.2.2.1=t.2.2.1:=fun t hB hS hj=>by
  generalize hA:t.2.1.getD t.2.2.1 0=A
  have hAc:A∈t.2.1:=by rw [← hA]; exact dH hj
  have hAN:A < N:=hB.lt A (ao _ hAc)
  obtain ⟨t',h1,h2,h3,h4,h5⟩:=o8 (fs:=fs) (gs:=[]) (ms:=ms) (tg:=.n 10) (it:=.it (.v 3)) (b:=#v[.ife (.cmp .notin (.ix (.v 10) (.ix (.v 8) (.v 9))) (.v 4)) #v[.sub 4 (.ix (.v 10) (.ix (.v 8) (.v 9))) (.kb true),.app 8 (.ix (.v 10) (.ix (.v 8) (.v 9)))] .nil])
   lD LL (fun _=>s) (fun pr t'=>CInv Ts N a o0 t'.2.1 t.2.2.1 pr.length∧SD t'.1 (o0++t'.2.1) (fun _=>.bl true)∧t'.2.2.1=t.2.2.1∧t.2.2.1 < t'.2.1.length∧t'.2.1.getD t.2.2.1 0=A) Tt t (jP (t:=.fr) (cG rfl) (by intro q; cases q)) ⟨hB,hS,rfl,hj,hA⟩ (fun pr T r t' hx ⟨i1,i2,i3,i4,i5⟩=>by
    obtain ⟨kv,c,j,y⟩:=t'
    have i1:CInv Ts N a o0 c t.2.2.1 pr.length:=i1
    have i2:SD kv (o0++c) (fun _=>.bl true):=i2
    have i3:j=t.2.2.1:=i3
    have i4:t.2.2.1 < c.length:=i4
    have i5:c.getD t.2.2.1 0=A:=i5
    have hTin:T∈Tt:=by rw [hx]; exact ao _ ap
    have tl:=hT T hTin
    have hTs:fD T∈Ts:=aQ.mpr ⟨T,hTin,rfl⟩
    have hlp:(pr++[T]).length=pr.length+1:=by rw [ae]; rfl
    have ll:=i1.len
    have eg:∀ kv2 c2 y,c2.getD j 0=A→j < c2.length→b9 fs [] (.ix (.v 10) (.ix (.v 8) (.v 9))) [s0,s1,s2,some ⟨.fr,.lst (Tt.map lD)⟩,some ⟨.ow,.dic false kv2⟩,s5,s6,s7,some ⟨.ow,lD c2⟩,some ⟨.fr,nD j⟩,y] s=.ok (nD (fD T A),.fr,s)∨y≠some ⟨.fr,lD T⟩:=fun kv2 c2 y ec hc=>by
     by_cases ey:y=some ⟨.fr,lD T⟩
     ·left
      subst ey
      have q1:=iW (A:=c2) hc s
      rw [ec] at q1
      exact dB (d:=.lst (T.map nD)) (t:=.fr) (s1:=s) rfl (dB (d:=.lst (c2.map nD)) (t:=.ow) (s1:=s) rfl (d2:=nD j) (t2:=.fr) (s2:=s) rfl q1) (iW (by omega) s)
     ·exact .inr ey
    have e1:=(eg kv c (some ⟨.fr,lD T⟩) (by rw [i3]; exact i5) (by omega)).resolve_right fun q=>q rfl
    have tk:Ts.take (pr.length+1)=Ts.take pr.length++[fD T]:=by
     show (Tt.map fD).take (pr.length+1)=(Tt.map fD).take pr.length++[fD T]
     rw [List.take_succ,hx,bj,aI,aV (by rw [ac]; exact ax _),ac,bO]
     rfl
    by_cases hm:fD T A∈o0++c
    ·refine ⟨_,(kv,c,j,some ⟨.fr,lD T⟩),rfl,?_,⟨i1.nd,i1.lt,i1.re,i1.st,i1.dn,?_,i1.jl⟩,i2,i3,i4,i5⟩
     ·refine dN (s1:=s) (lV (t:=.fr) (s1:=s) (cV e1 (d2:=.dic false kv) (t2:=.ow) (s2:=s) rfl ?_) rfl) cp
      rw [fy (cP _),i2.1,aj hm]
      rfl
     ·rw [hlp,tk]
      intro f hf
      rcases aR.mp hf with z | z
      ·exact i1.cu f z
      ·rw [ah.mp z,i5]; exact hm
    ·have hz1:kv.length < sizeLine:=by have:=i2.2; rw [ae] at this; omega
     have hz2:(c.map nD).length < sizeLine:=by rw [ac]; omega
     have es:D.put kv (nD (fD T A)) (.bl true)=D.put kv (nD (fD T A)) ((fun _=>.bl true:Nat→D) (fD T A)):=rfl
     have e2:=(eg (D.put kv (nD (fD T A)) (.bl true)) c (some ⟨.fr,lD T⟩) (by rw [i3]; exact i5) (by omega)).resolve_right fun q=>q rfl
     have hnx:(o0++(c++[fD T A])).Nodup:=by
      rw [← aK,bu]
      refine ⟨i1.nd,by simp,fun x hx y hy e=>?_⟩
      rw [ah.mp hy] at e
      rw [e] at hx
      exact hm hx
     refine ⟨_,(D.put kv (nD (fD T A)) (.bl true),c++[fD T A],j,some ⟨.fr,lD T⟩),rfl,?_,⟨hnx,fun x hx=>?_,fun x hx=>?_,aG _ i1.st,fun i hi f hf=>?_,fun f hf=>?_,by rw [ae]; omega⟩,?_,i3,by rw [ae]; omega,?_⟩
     ·refine dN (s1:=s) (uT (t:=.fr) (s1:=s) (cV e1 (d2:=.dic false kv) (t2:=.ow) (s2:=s) rfl ?_) (dN (s1:=s) (ia (c:=.dic false kv) (y:=.bl true) (t:=.fr) (s1:=s) rfl (.inl rfl) rfl (d:=nD (fD T A)) (t2:=.fr) (s2:=s) e1 (.inl rfl) (gw (cP _) hz1)) (dN (s1:=s) (app_ok (ds:=c.map nD) (d:=nD (fD T A)) (t:=.fr) (s1:=s) rfl e2 (.inl rfl) hz2) cp))) ?_
      ·rw [fy (cP _),i2.1,aq hm]
       rfl
      ·show R.ok (Out.nx [s0,s1,s2,some ⟨.fr,.lst (Tt.map lD)⟩,some ⟨.ow,.dic false (D.put kv (nD (fD T A)) (.bl true))⟩,s5,s6,s7,some ⟨.ow,.lst (c.map nD++[nD (fD T A)])⟩,some ⟨.fr,nD j⟩,some ⟨.fr,lD T⟩] s)=R.ok (Out.nx [s0,s1,s2,some ⟨.fr,.lst (Tt.map lD)⟩,some ⟨.ow,.dic false (D.put kv (nD (fD T A)) (.bl true))⟩,s5,s6,s7,some ⟨.ow,.lst ((c++[fD T A]).map nD)⟩,some ⟨.fr,nD j⟩,some ⟨.fr,lD T⟩] s)
       rw [eZ]
     ·rw [← aK] at hx
      rcases aR.mp hx with z | z
      ·exact i1.lt x z
      ·rw [ah.mp z]
       exact (hp _ hTs).1 _ hAN
     ·rcases aR.mp hx with z | z
      ·exact i1.re x z
      ·rw [ah.mp z]
       exact .st (hB.re A hAc) hTs
     ·have:=i1.dn i hi f hf
      rw [cy,aj (show i < c.length by omega),← aK]
      exact aG _ this
     ·rw [cy,aj (show t.2.2.1 < c.length from i4),← aK,i5]
      rw [hlp,tk] at hf
      rcases aR.mp hf with z | z
      ·have:=i1.cu f z
       rw [i5] at this
       exact aG _ this
      ·rw [ah.mp z]
       exact ao _ (ah.mpr rfl)
     ·rw [← aK]
      exact i2.put
     ·rw [cy,aj (show t.2.2.1 < c.length from i4)]
      exact i5)
  refine ⟨t',h1,?_,h3,h4⟩
  obtain ⟨h5,h6⟩:=h5
  have hcu:=h2.cu
  rw [List.take_of_length_le (by show (Tt.map fD).length≤_; rw [ac]; exact ax _)] at hcu
  rw [h4]
  refine ⟨h2.nd,h2.lt,h2.re,h2.st,fun i hi f hf=>?_,(fun f hf=>by rw [List.take_zero] at hf; cases hf),h5⟩
  rcases a9 i t.2.2.1 with z | z
  ·exact h2.dn i z f hf
  ·rw [show i=t.2.2.1 by omega]
   exact hcu f hf
 have hw:=Hw (cond:=dM fs [] (.cmp .lt (.v 9) (.bi .len #v[.v 8]))) (body:=cF fs [] ms cW) LL s (fun t=>decide (t.2.2.1 < t.2.1.length)) (fun t=>CInv Ts N a o0 t.2.1 t.2.2.1 0∧SD t.1 (o0++t.2.1) (fun _=>.bl true)) (fun t=>N - t.2.2.1)
  (fun t ht=>by
   refine de (t:=.fr) (cV (d:=nD t.2.2.1) (t:=.fr) (s1:=s) rfl (d2:=nD t.2.1.length) (t2:=.fr) (s2:=s) (Bf (t:=.ow) (s1:=s) (cG rfl) (by show BI.run .len [.lst (t.2.1.map nD)] s=_; rw [uQ,ac])) (oH ?_))
   exact decide_eq_decide.mpr ⟨fun h=>by omega,fun h=>by omega⟩)
  (fun t ⟨hB,hS⟩ hc=>by
   have hc:t.2.2.1 < t.2.1.length:=bg hc
   obtain ⟨t',h1,h2,h3,h4⟩:=hin t hB hS hc
   have l1:=hB.len
   refine ⟨(t'.1,t'.2.1,t'.2.2.1+1,t'.2.2.2),dN h1 (dN (s1:=s) (AC (h:=rfl) (j:=1) (t2:=.fr) rfl) cp),⟨h2,h3⟩,?_⟩
   show N - (t'.2.2.1+1) < N - t.2.2.1
   omega)
  (kv,[a],0,sX) ⟨⟨hn,fun x hx=>?_,fun x hx=>?_,ah.mpr rfl,fun i hi=>absurd hi (ba i),(fun f hf=>by rw [List.take_zero] at hf; cases hf),aW _⟩,hs⟩
 ·obtain ⟨t',h1,⟨h2,h3⟩,h4⟩:=hw
  ·have h4:¬ t'.2.2.1 < t'.2.1.length:=of_decide_eq_false h4
   exact ⟨t'.2.1,t'.1,t'.2.2.1,t'.2.2.2,h2,by omega,h3,whl_eq.trans h1⟩
 ·rcases aR.mp hx with z | z
  ·exact hl x z
  ·rw [ah.mp z]; exact ha
 ·rw [ah.mp hx]; exact .rf
theorem nI {fs:List Fn} {gs:List D} {x:X} {l:Lc} {s:cj} {t:Tag} {c r:List Nat} (h:b9 fs gs x l s=.ok (.lst (c.map nD),t,s)) (hs:(c.map fun n:Nat=>(n:Int)).mergeSort (fun a b=>decide (a≤b))=r.map fun n:Nat=>(n:Int)):b9 fs gs (.bi .sorted #v[x]) l s=.ok (.lst (r.map nD),.nw,s):=by
 refine Bf h ?_
 have e:c.map nD=(c.map fun n:Nat=>(n:Int)).map D.int:=by rw [aU]; rfl
 show (match cZ (c.map nD) with | some ns=>dW (.lst ((ns.mergeSort fun a b=>decide (a≤b)).map D.int)) s | none=>.no)=_
 rw [e,je]
 show dW (.lst (((c.map fun n:Nat=>(n:Int)).mergeSort fun a b=>decide (a≤b)).map D.int)) s=_
 rw [hs,aU]
 rfl
def dL (b k:Nat):List D:=(List.range k).map fun i=>D.loc (b+i)
def cC (cs:List (List Nat)):cj:=cs.map fun c=>Cell.obj (lD c)
theorem mC {b k:Nat}:dL b (k+1)=dL b k++[.loc (b+k)]:=by
 unfold dL
 rw [List.range_succ,bj]
 rfl
theorem qt {cs:List (List Nat)} {c:List Nat}:cC (cs++[c])=cC cs++[.obj (lD c)]:=by
 unfold cC
 rw [bj]
 rfl
theorem sT (h2:2≤L) (h5:L≤5) {Ms:List Mach} (hne:Ms≠[]) (hz:Ms.length≤1000) (hM:∀ M∈Ms,fI L M∧0 < M.length) (n:Nat) (hn:n≤eV L) {S0:cj} (hS:S0≠[]):(dC ms).runS [.lst (Ms.map mD),nD n] (S0++cC [])=.ok (.lst (dL S0.length (cE L Ms n).length),.nw,S0++cC (cE L Ms n)):=by
 have big:=sizeLine_eq
 obtain ⟨q1,q2⟩:=(hJ h2 h5 n).mp hn
 obtain ⟨M0,Mr,hMs⟩:∃ M0 Mr,Ms=M0 :: Mr:=by
  cases Ms with
  | nil=>exact absurd rfl hne
  | cons a b=>exact ⟨a,b,rfl⟩
 obtain ⟨g1,g2⟩:=hM M0 (by rw [hMs]; exact ap)
 have hb:=iH (ms:=ms) g1.1 g2 (d:=mD M0) (.inr rfl)
 have hs:=kB (ms:=ms) h2 h5 n hn
 let fs:List Fn:=[jM ms,dV ms,gf ms]
 let N:=L ^ n
 let Tt:List (List Nat):=Ms.map fun M=>df L M n
 let Ts:List (Nat→Nat):=Ms.map fun M=>jO L M n
 have eT:Tt.map fD=Ts:=by
  show (Ms.map fun M=>df L M n).map fD=Ms.map fun M=>jO L M n
  rw [aU]
  rfl
 have hp:gB Ts N:=mB (by omega) n hM
 have hT:∀ T∈Tt,T.length=N:=fun T h=>by
  obtain ⟨M,_,rfl⟩:=aQ.mp h
  exact kf L M n
 have ne:∀ cs,S0++cC cs≠[]:=fun cs z=>hS (List.append_eq_nil_iff.mp z).1
 let S1:cj:=S0++cC []
 let G0:Option Sl:=some ⟨.fr,.lst (Ms.map mD)⟩
 let N0:Option Sl:=some ⟨.bo,nD n⟩
 let T0:Option Sl:=some ⟨.fr,.lst (Tt.map lD)⟩
 have s1:cF fs [] ms (.set (.n 2) (.call 1 #v[.call 2 #v[.ix (.v 0) (.ki 0)],.v 1])) [G0,N0,none,none,none,none,none,none,none,none,none] S1=.ok (.nx [G0,N0,nS (L ^ n),none,none,none,none,none,none,none,none] S1):=cD (t:=.fr) (dr (hf:=rfl) (ds:=[nD L,nD n]) (s1:=S1) (cw (t:=.fr) (s1:=S1) (dr (hf:=rfl) (ds:=[mD M0]) (s1:=S1) (cw (t:=.fr) (s1:=S1) (dB (d:=.lst (Ms.map mD)) (t:=.fr) (s1:=S1) (cG rfl) (d2:=nD 0) (t2:=.fr) (s2:=S1) fM (jH (by rw [hMs]; rfl) S1)) (.inl rfl) rfl) hb) (.inl rfl) (cw (t:=.bo) (s1:=S1) (cG rfl) (.inl rfl) rfl)) hs) (.inl rfl) rfl
 have cc:b9 fs [] (.comp [7] (.n 7) (.it (.v 0)) .nil (.call 0 #v[.v 7,.v 1])) [G0,N0,nS (L ^ n),none,none,none,none,none,none,none,none] S1=.ok (.lst (Ms.map fun M=>lD (df L M n)),.nw,S1) :=
  i7 (ds:=Ms) (en:=mD) rfl (jP (t:=.fr) (cG rfl) (by intro q; cases q)) (fun M hm=>by
   obtain ⟨k1,k2⟩:=hM M hm
   exact ⟨[G0,N0,nS (L ^ n),none,none,none,none,some ⟨.fr,mD M⟩,none,none,none],.nw,rfl,dr (hf:=rfl) (ds:=[mD M,nD n]) (s1:=S1) (cw (t:=.fr) (s1:=S1) (cG rfl) (.inl rfl) (cw (t:=.bo) (s1:=S1) (cG rfl) (.inl rfl) rfl)) (nG k1.1 k2 (.inr rfl) h2 h5 n hn),.inr (.inl rfl)⟩) (by omega)
 have e3:(Ms.map fun M=>lD (df L M n))=Tt.map lD:=by
  show _=(Ms.map fun M=>df L M n).map lD
  rw [aU]
  rfl
 rw [e3] at cc
 let LL:=fun t:List (D × D) × List Nat × Nat × Option Sl × Option Sl × Option Sl × Option Sl=>([G0,N0,nS (L ^ n),T0,some ⟨.ow,.dic false t.1⟩,some ⟨.ow,.lst (dL S0.length (cK Ts N t.2.2.1).length)⟩,t.2.2.2.1,none,t.2.2.2.2.1,t.2.2.2.2.2.1,t.2.2.2.2.2.2]:Lc)
 let UU:=fun t:List (D × D) × List Nat × Nat × Option Sl × Option Sl × Option Sl × Option Sl=>S0++cC (cK Ts N t.2.2.1)
 obtain ⟨t',w1,w2,w3⟩:=o8 (fs:=fs) (gs:=[]) (ms:=ms) (tg:=.n 6) (it:=.rng1 (.v 2)) (b:=#v[.ife (.cmp .notin (.v 6) (.v 4)) #v[.own 8 (.lst #v[.v 6]),.sub 4 (.v 6) (.kb true),.set (.n 9) (.ki 0),.whl (.cmp .lt (.v 9) (.bi .len #v[.v 8])) cW,.app 5 (.new (.bi .sorted #v[.v 8]))] .nil]) nD LL UU
  (fun pr t=>t.2.2.1=pr.length∧SD t.1 t.2.1 (fun _=>.bl true)∧t.2.1.Nodup∧∀ k,k∈t.2.1↔k < N∧∃ b,b < pr.length∧Rch Ts b k) (List.range N) ([],[],0,none,none,none,none) (AG (n:=L ^ n) (t:=.fr) (cG rfl) (by omega)) ⟨rfl,⟨fun k=>rfl,ax 0⟩,.nil,fun k=>⟨(fun h=>by cases h),fun ⟨_,b,hb,_⟩=>absurd hb (ba b)⟩⟩ (fun pr x q t hx ⟨i0,i1,i2,i3⟩=>by
  obtain ⟨kv,o,m,y6,y8,y9,y10⟩:=t
  have i0:m=pr.length:=i0
  have i1:SD kv o (fun _=>.bl true):=i1
  have i2:o.Nodup:=i2
  have i3:∀ k,k∈o↔k < N∧∃ b,b < pr.length∧Rch Ts b k:=i3
  obtain ⟨ex,hxN⟩:=sN hx
  have el:(pr++[x]).length=pr.length+1:=by rw [ae]; rfl
  have ol:o.length≤N:=by
   have:=dS i2 (r:=List.range N) fun k hk=>aC.mpr ((i3 k).mp hk).1
   rw [am] at this
   exact this
  let Sm:cj:=S0++cC (cK Ts N m)
  by_cases hm:x∈o
  ·obtain ⟨_,b,hb,hr⟩:=(i3 x).mp hm
   have eo:cK Ts N (m+1)=cK Ts N m:=qp ⟨b,by omega,by rw [i0,ex]; exact hr⟩
   refine ⟨_,(kv,o,m+1,nS x,y8,y9,y10),rfl,?_,by rw [el,i0],i1,i2,fun k=>?_⟩
   ·refine (dN (s1:=Sm) (lV (t:=.fr) (s1:=Sm) (cV (d:=nD x) (t:=.fr) (s1:=Sm) (cG rfl) (d2:=.dic false kv) (t2:=.ow) (s2:=Sm) (cG rfl) ?_) rfl) cp).trans ?_
    ·rw [fy (cP _),i1.1,aj hm]
     rfl
    ·show R.ok (Out.nx [G0,N0,nS (L ^ n),T0,some ⟨.ow,.dic false kv⟩,some ⟨.ow,.lst (dL S0.length (cK Ts N m).length)⟩,nS x,none,y8,y9,y10] (S0++cC (cK Ts N m)))=R.ok (Out.nx [G0,N0,nS (L ^ n),T0,some ⟨.ow,.dic false kv⟩,some ⟨.ow,.lst (dL S0.length (cK Ts N (m+1)).length)⟩,nS x,none,y8,y9,y10] (S0++cC (cK Ts N (m+1))))
     rw [eo]
   ·rw [i3,el]
    constructor
    ·rintro ⟨k1,c,c1,c2⟩
     exact ⟨k1,c,by omega,c2⟩
    ·rintro ⟨k1,c,c1,c2⟩
     refine ⟨k1,?_⟩
     rcases a9 c pr.length with z | z
     ·exact ⟨c,z,c2⟩
     ·obtain rfl:c=x:=by omega
      exact ⟨b,hb,hr.trans c2⟩
  ·have hnr:∀ b,b < x→¬ Rch Ts b x:=fun b hb hr=>hm ((i3 x).mpr ⟨hxN,b,by omega,hr⟩)
   have ho:∀ y∈o,¬ Rch Ts x y:=fun y hy hr=>by
    obtain ⟨yN,b,hb,hby⟩:=(i3 y).mp hy
    exact hnr b (by omega) (hby.trans (hr.symm hp hxN))
   have hn1:(o++[x]).Nodup:=by
    rw [bu]
    refine ⟨i2,by simp,fun a ha b hb e=>?_⟩
    rw [ah.mp hb] at e
    rw [e] at ha
    exact hm ha
   have hz1:kv.length < sizeLine:=by have:=i1.2; omega
   obtain ⟨c,kv',j,Bj,c1,c2,c3,c4⟩:=o9 (ms:=ms) (fs:=fs) (s:=Sm) (Tt:=Tt) (N:=N) (a:=x) (by show L ^ n≤_; omega) hT (by rw [eT]; exact hp) hxN hn1 (fun k hk=>((i3 k).mp hk).1) (i1.put (x:=x)) G0 N0 (nS (L ^ n)) (some ⟨.ow,.lst (dL S0.length (cK Ts N m).length)⟩) (nS x) none y10
   rw [eT] at c1
   have cm:=c1.fin c2 ho
   have cn:c.Nodup:=(bu.mp c1.nd).2.1
   have fl:(cK Ts N m).length≤m:=by
    unfold cK dU
    rw [ac]
    refine a8 (List.length_filter_le _ _) ?_
    rw [am]
    exact ax _
   have ec:cK Ts N (m+1)=cK Ts N m++[cmp Ts N x]:=by
    have:m=x:=by omega
    rw [this]
    exact qr hnr
   have sl:Sm.length=S0.length+(cK Ts N m).length:=by
    show (S0++cC (cK Ts N m)).length=_
    unfold cC
    rw [ae,ac]
   refine ⟨_,(kv',o++c,m+1,nS x,some ⟨.ow,lD c⟩,nS j,Bj),rfl,?_,by rw [el,i0],c3,c1.nd,fun k=>?_⟩
   ·refine dN (s1:=S0++cC (cK Ts N (m+1))) (uT (t:=.fr) (s1:=Sm) (cV (d:=nD x) (t:=.fr) (s1:=Sm) (cG rfl) (d2:=.dic false kv) (t2:=.ow) (s2:=Sm) (cG rfl) ?_) ?_) cp
    ·rw [fy (cP _),i1.1,aq hm]
     rfl
    refine dN (s1:=Sm) (dD (d:=.lst [nD x]) (lF (lE (t:=.fr) (cG rfl) (.inl rfl) ka) (Nat.le_of_ble_eq_true rfl))) ?_
    refine dN (s1:=Sm) (ia (c:=.dic false kv) (y:=.bl true) (t:=.fr) (s1:=Sm) oX (.inl rfl) rfl (d:=nD x) (t2:=.fr) (s2:=Sm) (cG rfl) (.inl rfl) (gw (cP _) hz1)) ?_
    refine dN (s1:=Sm) (cD (t:=.fr) (d:=nD 0) fM (.inl rfl) rfl) ?_
    refine dN (s1:=Sm) c4 ?_
    refine (dN (app_ok (ds:=dL S0.length (cK Ts N m).length) (d:=.loc Sm.length) (t:=.fr) (s1:=Sm++[.obj (lD (cmp Ts N x))]) rfl (AH (nI (t:=.ow) (cG rfl) (vc cn cm)) (ne _)) (.inl rfl) (by unfold dL; rw [ac,am]; have:N≤1024:=q2; omega)) cp).trans ?_
    show R.ok (Out.nx [G0,N0,nS (L ^ n),T0,some ⟨.ow,.dic false kv'⟩,some ⟨.ow,.lst (dL S0.length (cK Ts N m).length++[.loc Sm.length])⟩,nS x,none,some ⟨.ow,lD c⟩,nS j,Bj] ((S0++cC (cK Ts N m))++[.obj (lD (cmp Ts N x))]))=R.ok (Out.nx [G0,N0,nS (L ^ n),T0,some ⟨.ow,.dic false kv'⟩,some ⟨.ow,.lst (dL S0.length (cK Ts N (m+1)).length)⟩,nS x,none,some ⟨.ow,lD c⟩,nS j,Bj] (S0++cC (cK Ts N (m+1))))
    rw [ec,qt,sl,aK,show (cK Ts N m++[cmp Ts N x]).length=(cK Ts N m).length+1 from ae,mC]
   ·rw [aR,i3,cm,rC,el]
    constructor
    ·rintro (⟨k1,b,b1,b2⟩ | ⟨k1,k2⟩)
     ·exact ⟨k1,b,by omega,b2⟩
     ·exact ⟨k1,x,by omega,k2⟩
    ·rintro ⟨k1,b,b1,b2⟩
     rcases a9 b pr.length with z | z
     ·exact .inl ⟨k1,b,z,b2⟩
     ·obtain rfl:b=x:=by omega
      exact .inr ⟨k1,b2⟩)
 have w2:t'.2.2.1=N:=by rw [w2,am]
 have w1:cF fs [] ms (.loop (.n 6) (.rng1 (.v 2)) #v[.ife (.cmp .notin (.v 6) (.v 4)) #v[.own 8 (.lst #v[.v 6]),.sub 4 (.v 6) (.kb true),.set (.n 9) (.ki 0),.whl (.cmp .lt (.v 9) (.bi .len #v[.v 8])) cW,.app 5 (.new (.bi .sorted #v[.v 8]))] .nil]) [G0,N0,nS (L ^ n),T0,some ⟨.ow,.dic false []⟩,some ⟨.ow,.lst []⟩,none,none,none,none,none] S1=.ok (.nx [G0,N0,nS (L ^ n),T0,some ⟨.ow,.dic false t'.1⟩,some ⟨.ow,.lst (dL S0.length (cK Ts N t'.2.2.1).length)⟩,t'.2.2.2.1,none,t'.2.2.2.2.1,t'.2.2.2.2.2.1,t'.2.2.2.2.2.2] (S0++cC (cK Ts N t'.2.2.1))):=w1
 rw [w2] at w1
 have ec:cE L Ms n=cK Ts N N:=rfl
 rw [ec]
 refine vf rfl (ne _) (ne _) ?_
 show cF fs [] ms fB [G0,N0,none,none,none,none,none,none,none,none,none] S1=_
 refine (b7 s1).trans ?_
 refine (b7 (l1:=[G0,N0,nS (L ^ n),T0,none,none,none,none,none,none,none]) (s1:=S1) (cD (t:=.nw) cc (.inr (.inl rfl)) rfl)).trans ?_
 refine (b7 (l1:=[G0,N0,nS (L ^ n),T0,some ⟨.ow,.dic false []⟩,none,none,none,none,none,none]) (s1:=S1) (dD nA)).trans ?_
 refine (b7 (l1:=[G0,N0,nS (L ^ n),T0,some ⟨.ow,.dic false []⟩,some ⟨.ow,.lst []⟩,none,none,none,none,none]) (s1:=S1) (dD (lF ka (aW _)))).trans ?_
 exact (b7 w1).trans (cI (cY (t:=.ow) (cG rfl) rfl))
theorem lY (h2:2≤L) (h5:L≤5) {Ms:List Mach} (hne:Ms≠[]) (hz:Ms.length≤1000) (hM:∀ M∈Ms,fI L M∧0 < M.length) (n:Nat) (hn:n≤eV L) {S0:cj} (hS:S0≠[]):(dC ms).runS [.lst (Ms.map mD),nD n] S0=.ok (.lst (dL S0.length (cE L Ms n).length),.nw,S0++cC (cE L Ms n)):=by
 have:=sT (ms:=ms) h2 h5 hne hz hM n hn hS
 rw [show S0++cC []=S0 from aM _] at this
 exact this
theorem kH {e:Ex} {Ms:List Mach} (hne:Ms≠[]) (hM:∀ M∈Ms,fI L M∧0 < M.length) (n:Int) (hs:(dV ms).run [nD L,.int n]=.er e [] []) {c0:Cell} {s:cj}:∃ l,(dC ms).runS [.lst (Ms.map mD),.int n] (c0 :: s)=.er e (c0 :: s) l:=by
 obtain ⟨M0,Mr,hMs⟩:∃ M0 Mr,Ms=M0 :: Mr:=by
  cases Ms with
  | nil=>exact absurd rfl hne
  | cons a b=>exact ⟨a,b,rfl⟩
 obtain ⟨g1,g2⟩:=hM M0 (by rw [hMs]; exact ap)
 have hb:=iH (ms:=ms) g1.1 g2 (d:=mD M0) (.inr rfl)
 let fs:List Fn:=[jM ms,dV ms,gf ms]
 let S1:cj:=c0 :: s
 refine ⟨_,wQ rfl (by simp) (j5 (Al (uw (hf:=rfl) (ds:=[nD L,.int n]) (s1:=S1) (cw (t:=.fr) (s1:=S1) (dr (hf:=rfl) (ds:=[mD M0]) (s1:=S1) (cw (t:=.fr) (s1:=S1) (dB (d:=.lst (Ms.map mD)) (t:=.fr) (s1:=S1) (cG rfl) (d2:=nD 0) (t2:=.fr) (s2:=S1) fM (jH (by rw [hMs]; rfl) S1)) (.inl rfl) rfl) hb) (.inl rfl) (cw (t:=.bo) (s1:=S1) (cG rfl) (.inl rfl) rfl)) hs)))⟩
end

structure Pnt (Ts:List (Nat→Nat)) (N:Nat) (P:List Nat):Prop where
 len:P.length=N
 le:∀ x,x < N→P.getD x 0≤x
 re:∀ x,x < N→Rch Ts (P.getD x 0) x
theorem lP {P:List Nat} {i j v:Nat} (hi:i < P.length):(P.set i v).getD j 0=if j=i then v else P.getD j 0:=by
 rw [List.getD,List.getElem?_set]
 by_cases e:i=j
 ·subst e
  rw [aj rfl,aj hi,aj rfl]
  rfl
 ·rw [aq e,aq (fun q=>e q.symm)]
  rfl
theorem rE {P:List Nat} {i v:Nat} (hi:i < P.length):(P.set i v).sum+P.getD i 0=P.sum+v:=by
 induction P generalizing i with
 | nil=>exact absurd hi (ba i)
 | cons p P ih =>
  cases i with
  | zero =>
   show v+P.sum+p=p+P.sum+v
   omega
  | succ i =>
   have:=ih (i:=i) (by simpa using hi)
   show p+(P.set i v).sum+(p :: P).getD (i+1) 0=p+P.sum+v
   rw [show (p :: P).getD (i+1) 0=P.getD i 0 from rfl]
   omega
section
variable {Ts:List (Nat→Nat)} {N:Nat} {P:List Nat}
theorem Pnt.start:Pnt Ts N (List.range N) where
 len:=am
 le:=fun x hx=>by rw [List.getD,be hx]; exact ax x
 re:=fun x hx=>by rw [List.getD,be hx]; exact .rf
theorem Pnt.set (h:Pnt Ts N P) {i v:Nat} (hi:i < N) (hv:v≤i) (hr:Rch Ts v i):Pnt Ts N (P.set i v) where
 len:=by rw [aH]; exact h.len
 le:=fun x hx=>by
  rw [lP (by rw [h.len]; exact hi)]
  split
  ·rename_i e; rw [e]; exact hv
  ·exact h.le x hx
 re:=fun x hx=>by
  rw [lP (by rw [h.len]; exact hi)]
  split
  ·rename_i e; rw [e]; exact hr
  ·exact h.re x hx

theorem Pnt.step (hp:gB Ts N) (h:Pnt Ts N P) {f:Nat→Nat} (hf:f∈Ts) {n:Nat} (hn:n < N) {low:Nat} (hl:low=if P.getD (f n) 0 < P.getD n 0 then P.getD (f n) 0 else P.getD n 0) (hc:P.getD n 0≠low∨P.getD (f n) 0≠low) :
  Pnt Ts N ((P.set n low).set (f n) low)∧((P.set n low).set (f n) low).sum < P.sum:=by
 have hfn:=(hp f hf).1 n hn
 have pl:=h.len
 have l1:=h.le n hn
 have l2:=h.le (f n) hfn
 have r1:=h.re n hn
 have r2:=h.re (f n) hfn
 have q1:Rch Ts n (f n):=.st .rf hf
 have q2:Rch Ts (f n) n:=Rch.back1 hp hf hn
 have rl:Rch Ts low n∧Rch Ts low (f n):=by
  rw [hl]
  split
  ·exact ⟨r2.trans q2,r2⟩
  ·exact ⟨r1,r1.trans q1⟩
 have le1:low≤P.getD n 0∧low≤P.getD (f n) 0:=by
  rw [hl]
  split <;> omega
 have s1:=h.set hn (a8 le1.1 l1) rl.1
 have s2:=s1.set hfn (a8 le1.2 l2) rl.2
 refine ⟨s2,?_⟩
 have e1:=rE (P:=P) (i:=n) (v:=low) (by omega)
 have e2:=rE (P:=P.set n low) (i:=f n) (v:=low) (by rw [aH]; omega)
 rw [lP (by omega)] at e2
 by_cases e:f n=n
 ·rw [aj e] at e2
  rw [e] at hc
  omega
 ·rw [aq e] at e2
  omega

theorem Pnt.fix (hp:gB Ts N) (h:Pnt Ts N P) (hs:∀ f∈Ts,∀ n,n < N→P.getD n 0=P.getD (f n) 0) {a b:Nat} (ha:a < N) (hr:Rch Ts a b):P.getD a 0=P.getD b 0:=by
 induction hr with
 | rf=>rfl
 | st hb hf ih=>exact ih.trans (hs _ hf _ (hb.lt hp ha))
theorem Pnt.iff (hp:gB Ts N) (h:Pnt Ts N P) (hs:∀ f∈Ts,∀ n,n < N→P.getD n 0=P.getD (f n) 0) {a x:Nat} (ha:a < N) (hx:x < N) (hh:∀ b,b < a→¬ Rch Ts b a):P.getD x 0=a↔Rch Ts a x:=by
 have pa:P.getD a 0=a:=by
  rcases a9 (P.getD a 0) a with q | q
  ·exact absurd (h.re a ha) (hh _ q)
  ·have:=h.le a ha
   omega
 constructor
 ·intro e
  have:=h.re x hx
  rw [e] at this
  exact this
 ·intro r
  rw [← h.fix hp hs ha r]
  exact pa
theorem Pnt.head (hp:gB Ts N) (h:Pnt Ts N P) (hs:∀ f∈Ts,∀ n,n < N→P.getD n 0=P.getD (f n) 0) {a:Nat} (ha:a < N):(∃ i,i < N∧P.getD i 0=a)↔∀ b,b < a→¬ Rch Ts b a:=by
 constructor
 ·rintro ⟨i,hi,e⟩ b hb hr
  have r:=h.re i hi
  rw [e] at r
  have e2:=h.fix hp hs (show b < N by omega) (hr.trans r)
  rw [e] at e2
  have:=h.le b (by omega)
  omega
 ·intro hh
  exact ⟨a,ha,(h.iff hp hs ha ha hh).mpr .rf⟩

def kg (P:List Nat) (j a:Nat):List Nat:=(List.range j).filter fun i=>decide (P.getD i 0=a)
theorem lQ {j a:Nat}:kg P (j+1) a=if P.getD j 0=a then kg P j a++[j] else kg P j a:=by
 unfold kg
 rw [List.range_succ,List.filter_append,List.filter_cons]
 split
 ·rename_i e
  rw [aj (bg e)]
  rfl
 ·rename_i e
  rw [aq (fun q=>e (aF q))]
  exact aM _
theorem vg (hp:gB Ts N) (h:Pnt Ts N P) (hs:∀ f∈Ts,∀ n,n < N→P.getD n 0=P.getD (f n) 0) {a:Nat} (ha:a < N) (hh:∀ b,b < a→¬ Rch Ts b a):kg P N a=cmp Ts N a:=by
 unfold kg cmp
 refine List.filter_congr fun x hx=>?_
 exact decide_eq_decide.mpr (h.iff hp hs ha (aC.mp hx) hh)

def kS (P:List Nat) (j:Nat) (ks:List Nat):List (D × D):=ks.map fun a=>(nD a,lD (kg P j a))
theorem iL {j a:Nat}:∀ {ks:List Nat},D.look (kS P j ks) (nD a)=if a∈ks then some (lD (kg P j a)) else none
 | []=>rfl
 | k :: ks=>by
  show D.look ((nD k,lD (kg P j k)) :: kS P j ks) (nD a)=_
  rw [jS,iL (ks:=ks)]
  by_cases e:nD k=nD a
  ·have e2:=gv e
   subst e2
   rw [aj e,aj ap]
  ·have e2:a≠k:=fun q=>e (by rw [q])
   rw [aq e]
   by_cases m:a∈ks
   ·rw [aj m,aj (av _ m)]
   ·rw [aq m,aq (fun q=>(aB.mp q).elim e2 m)]
theorem xq {j:Nat} {ks:List Nat} (h:P.getD j 0∈ks):D.put (kS P j ks) (nD (P.getD j 0)) (lD (kg P j (P.getD j 0)++[j]))=kS P (j+1) ks:=by
 unfold D.put
 rw [iL,aj h,aj (show (some (lD (kg P j (P.getD j 0)))).isSome=true from rfl)]
 unfold kS
 rw [aU]
 refine bT fun a _=>?_
 show (if nD a=nD (P.getD j 0) then (nD a,lD (kg P j (P.getD j 0)++[j])) else (nD a,lD (kg P j a)))=(nD a,lD (kg P (j+1) a))
 rw [lQ]
 by_cases e:nD a=nD (P.getD j 0)
 ·have e2:=gv e
  rw [aj e,aj e2.symm,← e2]
 ·rw [aq e,aq (fun q=>e (by rw [q]))]
theorem xt {j:Nat} {ks:List Nat} (h:P.getD j 0∉ks) (h0:kg P j (P.getD j 0)=[]):D.put (kS P j ks) (nD (P.getD j 0)) (lD [j])=kS P (j+1) (ks++[P.getD j 0]):=by
 unfold D.put
 rw [iL,aq h,aq (by simp)]
 unfold kS
 rw [bj]
 congr 1
 ·refine bT fun a ha=>?_
  rw [lQ,aq (fun q=>h (by rw [q]; exact ha))]
 ·show _=[(nD (P.getD j 0),lD (kg P (j+1) (P.getD j 0)))]
  rw [lQ,aj rfl,h0]
  rfl
theorem pb {j:Nat}:∀ ks:List Nat,(kS P j ks).map (fun p=>p.1)=ks.map nD
 | []=>rfl
 | k :: ks=>by
  show nD k :: (kS P j ks).map (fun p=>p.1)=_
  rw [pb ks]
  rfl
theorem pd {j a:Nat} (h:∀ i,i < j→P.getD i 0≠a):kg P j a=[]:=by
 unfold kg
 rw [List.filter_eq_nil_iff]
 intro i hi
 rw [bB]
 exact h i (aC.mp hi)
theorem vi (n:Nat):(dU Ts n).Pairwise (· < ·):=o7 n _
theorem qu (hp:gB Ts N) (h:Pnt Ts N P) (hs:∀ f∈Ts,∀ n,n < N→P.getD n 0=P.getD (f n) 0) {ks:List Nat} (nd:ks.Nodup) (hk:∀ a,a∈ks↔∃ i,i < N∧P.getD i 0=a):(ks.map fun n:Nat=>(n:Int)).mergeSort (fun a b=>decide (a≤b))=(dU Ts N).map fun n:Nat=>(n:Int):=by
 have hu:=vi (Ts:=Ts) N
 have ndh:(dU Ts N).Nodup:=aP.mpr (hu.imp fun h=>by omega)
 have mem:∀ x,x∈ks↔x∈dU Ts N:=fun x=>by
  rw [hk,heads_mem]
  constructor
  ·rintro ⟨i,hi,e⟩
   have hx:x < N:=by
    have:=h.le i hi
    omega
   exact ⟨hx,(h.head hp hs hx).mp ⟨i,hi,e⟩⟩
  ·rintro ⟨hx,q⟩
   exact (h.head hp hs hx).mpr q
 have hpm:((ks.map fun n:Nat=>(n:Int)).mergeSort fun a b=>decide (a≤b)).Perm ((dU Ts N).map fun n:Nat=>(n:Int)) :=
  (bQ _ _).trans (((List.perm_ext_iff_of_nodup nd ndh).mpr mem).map _)
 have hst:((ks.map fun n:Nat=>(n:Int)).mergeSort fun a b=>decide (a≤b)).Pairwise (·≤·):=by
  have q:=bH (le:=fun a b:Int=>decide (a≤b)) (fun a b c h1 h2=>by simp at *; omega) (fun a b=>by simp; omega) (ks.map fun n:Nat=>(n:Int))
  exact q.imp fun h=>by simpa using h
 refine PySem.W.Srt.one _ _ hpm hst ?_
 rw [List.pairwise_map]
 exact hu.imp fun h=>by omega
end
-- _law_due(_law_guises,_law_many): slots 0=_law_guises 1=_law_many 2=_law_tables 3=_law_paint 4=_law_changed 5=_law_sets 6=_law_table_here 7=_law_number_here 8=_law_low 9=_law_one 10=_law_there
def fj:S:=#v[.set (.n 2) (.comp [9] (.n 9) (.it (.v 0)) .nil (.call 0 #v[.v 9,.v 1])),.own 3 (.lstI (.rng1 (.bi .len #v[.ix (.v 2) (.ki 0)]))),.set (.n 4) (.kb true),.whl (.v 4)
 #v[.set (.n 4) (.kb false),.loop (.n 6) (.it (.v 2))
 #v[.loop (.t #v[.n 7,.n 10]) (.enum (.v 6) 0)
 #v[.set (.n 8) (.bi .min2 #v[.ix (.v 3) (.v 7),.ix (.v 3) (.v 10)]),.ife (.or #v[.cmp .ne (.ix (.v 3) (.v 7)) (.v 8),.cmp .ne (.ix (.v 3) (.v 10)) (.v 8)])
 #v[.sub 3 (.v 7) (.v 8),.sub 3 (.v 10) (.v 8),.set (.n 4) (.kb true)]
 .nil]]],.own 5 (.dic false .nil .nil),.fz [3] (.loop (.t #v[.n 7,.n 8]) (.enum (.v 3) 0)
 #v[.sub 5 (.v 8) (.bin .add (.mt .get2 (.v 5) #v[.v 8,.lst .nil]) (.lst #v[.v 7]))]),.ret (.comp [8] (.n 8) (.it (.bi .sorted #v[.v 5])) .nil (.ix (.v 5) (.v 8)))]
noncomputable def fT (ms:Str→Str→Option Bool):Fn:=.self [ft ms] [] ms fj [true,false] 2 11
section
variable {ms:Str→Str→Option Bool} {L:Nat} {s:cj}
theorem xZ {sh:List Nat} {q r:List (Nat × Nat)} {p:Nat × Nat} (h:sh.zipIdx 0=q++p :: r):p.2=q.length∧p.1=sh.getD q.length 0∧q.length < sh.length:=by
 have hl:q.length < (sh.zipIdx 0).length:=by rw [h,ae,aw]; omega
 have e:(sh.zipIdx 0)[q.length]?=some p:=by rw [h,aV (ax _),bO]; rfl
 rw [bW] at hl
 rw [List.getElem?_zipIdx,ak hl] at e
 have e:(sh[q.length],0+q.length)=p:=ad e
 refine ⟨by rw [← e]; exact Nat.zero_add _,?_,hl⟩
 rw [← e,List.getD,ak hl]
 rfl
theorem rF {P:List Nat} {i v:Nat} (h:i < P.length):kF (.lst (P.map nD)) (nD i) (nD v)=some (.lst ((P.set i v).map nD)):=by
 have e:ixN (P.map nD).length (i:Int)=some i:=by
  unfold ixN
  rw [ac,aj (by omega),aj (by omega),aT]
 show (match ixN (P.map nD).length (i:Int) with | some k=>some (D.lst ((P.map nD).set k (nD v))) | none=>none)=_
 rw [e,List.map_set]
theorem xu {a b:Nat}:BI.run .min2 [nD a,nD b] s=.ok (nD (if b < a then b else a),.fr,s):=by
 show cr (.int (if (b:Int) < (a:Int) then (b:Int) else (a:Int))) s=_
 by_cases h:b < a
 ·rw [aj h,aj (by omega)]
  rfl
 ·rw [aq h,aq (by omega)]
  rfl
theorem rG {a b:Nat}:COp.run .ne (nD a) (nD b) s=.ok (.bl (decide (a≠b)),.fr,s):=by
 by_cases h:a=b
 ·rw [aE (fun q=>q h)]
  exact DH (by rw [h])
 ·rw [aF h]
  exact DG (by omega)
theorem vj {fs:List Fn} {gs:List D} {x:X} {l:Lc} {t:Tag} {n:Nat} (h:b9 fs gs x l s=.ok (nD n,t,s)) (hz:n≤1000000):b9 fs gs (.lstI (.rng1 x)) l s=.ok (.lst ((List.range n).map nD),.nw,s):=by
 show (gM fs gs (.rng1 x) l s).bind _=_
 rw [AG h hz,cJ]
 show (if ((List.range n).map nD).length≤16777216 then dW (.lst ((List.range n).map nD)) s else .no)=_
 rw [aj (by rw [ac,am]; omega)]
 rfl
theorem pf {ps:List (D × D)} {ns:List Int} (h1:jd ps=none) (h2:cZ (ps.map fun p=>p.1)=some ns):BI.run .sorted [.dic false ps] s=dW (.lst ((ns.mergeSort fun a b=>decide (a≤b)).map D.int)) s:=by
 simp only [BI.run,h1,h2]
theorem sU {fs:List Fn} {gs:List D} {l:Lc} {o x y:X} {k:Bool} {kvs:List (D × D)} {d d2:D} {t t2 t3:Tag} (h:b9 fs gs o l s=.ok (.dic k kvs,t,s)) (h2:b9 fs gs x l s=.ok (d,t2,s)) (ht:nc t2 d) (h3:b9 fs gs y l s=.ok (d2,t3,s)) (ht3:nc t3 d2) (hk:D.isKey k d=true):b9 fs gs (.mt .get2 o #v[x,y]) l s=.ok ((D.look kvs d).getD d2,.fr,s):=by
 show (b9 fs gs o l s).bind _=_
 rw [h,cJ]
 show (if MI.recv .get2 (.dic k kvs)=false then R.no else (jp fs gs #v[x,y] l s).bind fun (ds,s2)=>MI.run .get2 (.dic k kvs) ds s2)=_
 rw [aq (by intro q; cases q),lE h2 ht (lE h3 ht3 ka),cJ]
 exact aj hk
abbrev Ek:S:=#v[.set (.n 8) (.bi .min2 #v[.ix (.v 3) (.v 7),.ix (.v 3) (.v 10)]),.ife (.or #v[.cmp .ne (.ix (.v 3) (.v 7)) (.v 8),.cmp .ne (.ix (.v 3) (.v 10)) (.v 8)]) #v[.sub 3 (.v 7) (.v 8),.sub 3 (.v 10) (.v 8),.set (.n 4) (.kb true)] .nil]
abbrev Hx:S:=.cons (.loop (.t #v[.n 7,.n 10]) (.enum (.v 6) 0) Ek) .nil
abbrev Hy:S:=.cons (.set (.n 4) (.kb false)) #v[.loop (.n 6) (.it (.v 2)) Hx]

structure PS where
 P:List Nat
 fl:Bool
 x6:Option Sl
 x7:Option Sl
 x8:Option Sl
 x10:Option Sl
def PS.l (G0 N0 T0 x5:Option Sl) (t:PS):Lc:=[G0,N0,T0,some ⟨.ow,.lst (t.P.map nD)⟩,some ⟨.fr,.bl t.fl⟩,x5,t.x6,t.x7,t.x8,none,t.x10]
abbrev DW (x:Option Sl):Prop:=x=none∨∃ d,x=some ⟨.fr,d⟩

def Pass (Ts:List (Nat→Nat)) (N:Nat) (P0:List Nat) (R:Prop) (t:PS):Prop:=Pnt Ts N t.P∧DW t.x8∧((t.fl=false∧t.P=P0∧R)∨(t.fl=true∧t.P.sum < P0.sum))
section
variable {fs:List Fn} {Tt:List (List Nat)} {N:Nat} {G0 N0 x5:Option Sl}
theorem vp (hN:N≤100000) (hT:∀ T∈Tt,T.length=N) (hp:gB (Tt.map fD) N) {T:List Nat} (hTm:T∈Tt) {P0:List Nat} {R:Prop} {n:Nat} (hn:n < N) {t:PS} (h:Pass (Tt.map fD) N P0 R t):∃ t':PS,t'.x6=t.x6∧Pass (Tt.map fD) N P0 (R∧P0.getD n 0=P0.getD (fD T n) 0) t' ∧
  cF fs [] ms Ek (PS.l G0 N0 (some ⟨.fr,.lst (Tt.map lD)⟩) x5 { t with x7:=nS n,x10:=nS (fD T n) }) s=.ok (.nx (PS.l G0 N0 (some ⟨.fr,.lst (Tt.map lD)⟩) x5 t') s):=by
 obtain ⟨h1,hx8,h2⟩:=h
 have hfm:fD T∈Tt.map fD:=aQ.mpr ⟨T,hTm,rfl⟩
 have hfn:=(hp _ hfm).1 n hn
 have pl:=h1.len
 obtain ⟨low,hlow⟩:∃ low,low=if t.P.getD (fD T n) 0 < t.P.getD n 0 then t.P.getD (fD T n) 0 else t.P.getD n 0:=⟨_,rfl⟩
 let l0:Lc:=PS.l G0 N0 (some ⟨.fr,.lst (Tt.map lD)⟩) x5 { t with x7:=nS n,x10:=nS (fD T n) }
 let l1:Lc:=PS.l G0 N0 (some ⟨.fr,.lst (Tt.map lD)⟩) x5 { t with x7:=nS n,x8:=nS low,x10:=nS (fD T n) }
 have ea:∀ l:Lc,l[3]?=some (some ⟨.ow,.lst (t.P.map nD)⟩)→l[7]?=some (nS n)→b9 fs [] (.ix (.v 3) (.v 7)) l s=.ok (nD (t.P.getD n 0),.fr,s):=fun l a b=>dB (t:=.ow) (t2:=.fr) (s1:=s) (s2:=s) (cG a) (cG b) (iW (by omega) s)
 have eb:∀ l:Lc,l[3]?=some (some ⟨.ow,.lst (t.P.map nD)⟩)→l[10]?=some (nS (fD T n))→b9 fs [] (.ix (.v 3) (.v 10)) l s=.ok (nD (t.P.getD (fD T n) 0),.fr,s):=fun l a b=>dB (t:=.ow) (t2:=.fr) (s1:=s) (s2:=s) (cG a) (cG b) (iW (by omega) s)
 have s1:cF fs [] ms (.set (.n 8) (.bi .min2 #v[.ix (.v 3) (.v 7),.ix (.v 3) (.v 10)])) l0 s=.ok (.nx l1 s):=cD (t:=.fr) (Hv (ea _ rfl rfl) (eb _ rfl rfl) (by rw [xu,← hlow])) (.inl rfl) rfl
 have c1:b9 fs [] (.cmp .ne (.ix (.v 3) (.v 7)) (.v 8)) l1 s=.ok (.bl (decide (t.P.getD n 0≠low)),.fr,s):=cV (ea _ rfl rfl) (d2:=nD low) (t2:=.fr) (s2:=s) (cG rfl) rG
 have c2:b9 fs [] (.cmp .ne (.ix (.v 3) (.v 10)) (.v 8)) l1 s=.ok (.bl (decide (t.P.getD (fD T n) 0≠low)),.fr,s):=cV (eb _ rfl rfl) (d2:=nD low) (t2:=.fr) (s2:=s) (cG rfl) rG
 have co:b9 fs [] (.or #v[.cmp .ne (.ix (.v 3) (.v 7)) (.v 8),.cmp .ne (.ix (.v 3) (.v 10)) (.v 8)]) l1 s=.ok (.bl (decide (t.P.getD n 0≠low∨t.P.getD (fD T n) 0≠low)),.fr,s):=by
  by_cases q1:t.P.getD n 0≠low
  ·rw [aF q1] at c1
   rw [aF (.inl q1)]
   exact iF (ss c1)
  ·rw [aE q1] at c1
   by_cases q2:t.P.getD (fD T n) 0≠low
   ·rw [aF q2] at c2
    rw [aF (.inr q2)]
    exact iF ((jn c1).trans (ss c2))
   ·rw [aE q2] at c2
    rw [aE (fun q=>q.elim q1 q2)]
    exact iF ((jn c1).trans ((jn c2).trans rfl))
 by_cases hc:t.P.getD n 0≠low∨t.P.getD (fD T n) 0≠low
 ·rw [aF hc] at co
  obtain ⟨g1,g2⟩:=h1.step hp hfm hn hlow hc
  refine ⟨{ t with P:=(t.P.set n low).set (fD T n) low,fl:=true,x7:=nS n,x8:=nS low,x10:=nS (fD T n) },rfl,⟨g1,.inr ⟨_,rfl⟩,.inr ⟨rfl,?_⟩⟩,?_⟩
  ·rcases h2 with ⟨_,e,_⟩ | ⟨_,e⟩
   ·rw [← e]; exact g2
   ·exact Nat.lt_trans g2 e
  ·refine (b7 s1).trans ((b7 (uT (t:=.fr) (s1:=s) co ?_)).trans cp)
   refine (b7 (ia (c:=.lst (t.P.map nD)) (y:=nD low) (t:=.fr) (s1:=s) (cG rfl) (.inl rfl) rfl (d:=nD n) (t2:=.fr) (s2:=s) (cG rfl) (.inl rfl) (rF (by omega)))).trans ?_
   refine (b7 (ia (c:=.lst ((t.P.set n low).map nD)) (y:=nD low) (t:=.fr) (s1:=s) (cG rfl) (.inl rfl) rfl (d:=nD (fD T n)) (t2:=.fr) (s2:=s) (cG rfl) (.inl rfl) (rF (by rw [aH]; omega)))).trans ?_
   exact (b7 (cD (t:=.fr) oX (.inl rfl) rfl)).trans cp
 ·rw [aE hc] at co
  have q:t.P.getD n 0=low∧t.P.getD (fD T n) 0=low:=⟨Classical.byContradiction fun z=>hc (.inl z),Classical.byContradiction fun z=>hc (.inr z)⟩
  refine ⟨{ t with x7:=nS n,x8:=nS low,x10:=nS (fD T n) },rfl,⟨h1,.inr ⟨_,rfl⟩,?_⟩,(b7 s1).trans ((b7 (lV (t:=.fr) (s1:=s) co cp)).trans cp)⟩
  rcases h2 with ⟨a,b,c⟩ | h2
  ·exact .inl ⟨a,b,c,by rw [← b]; omega⟩
  ·exact .inr h2
theorem xw (hN:N≤100000) (hT:∀ T∈Tt,T.length=N) (hp:gB (Tt.map fD) N) {t:PS} (h:Pnt (Tt.map fD) N t.P) (hx8:DW t.x8):∃ t':PS,Pass (Tt.map fD) N t.P (∀ T∈Tt,∀ n,n < N→t.P.getD n 0=t.P.getD (fD T n) 0) t' ∧
  cF fs [] ms Hy (PS.l G0 N0 (some ⟨.fr,.lst (Tt.map lD)⟩) x5 t) s=.ok (.nx (PS.l G0 N0 (some ⟨.fr,.lst (Tt.map lD)⟩) x5 t') s):=by
 let T0:Option Sl:=some ⟨.fr,.lst (Tt.map lD)⟩
 obtain ⟨t',w1,w2⟩:=o8 (fs:=fs) (gs:=[]) (ms:=ms) (tg:=.n 6) (it:=.it (.v 2)) (b:=Hx) lD (PS.l G0 N0 T0 x5) (fun _=>s) (fun pr t'=>Pass (Tt.map fD) N t.P (∀ T∈pr,∀ n,n < N→t.P.getD n 0=t.P.getD (fD T n) 0) t') Tt { t with fl:=false } (jP (t:=.fr) (cG rfl) (by intro q; cases q)) ⟨h,hx8,.inl ⟨rfl,rfl,fun T hT=>by cases hT⟩⟩ (fun pr T q t1 hx i1=>by
  have hTm:T∈Tt:=by rw [hx]; exact ao _ ap
  have tl:=hT T hTm
  obtain ⟨t2,v1,v2,v3⟩:=o8 (fs:=fs) (gs:=[]) (ms:=ms) (tg:=.t #v[.n 7,.n 10]) (it:=.enum (.v 6) 0) (b:=Ek) (fun p:Nat × Nat=>fU (nD p.2) (nD p.1)) (PS.l G0 N0 T0 x5) (fun _=>s) (fun pr2 t2=>t2.x6=some ⟨.fr,lD T⟩∧Pass (Tt.map fD) N t.P ((∀ T∈pr,∀ n,n < N→t.P.getD n 0=t.P.getD (fD T n) 0)∧∀ n,n < pr2.length→t.P.getD n 0=t.P.getD (fD T n) 0) t2) (T.zipIdx 0) { t1 with x6:=some ⟨.fr,lD T⟩ }
   (vd (t:=.fr) (d:=lD T) (cG rfl) (.inr rfl) (by intro q; cases q)) ⟨rfl,i1.1,i1.2.1,i1.2.2.imp (fun ⟨a,b,c⟩=>⟨a,b,c,fun n hn=>absurd hn (ba n)⟩) id⟩ (fun pr2 p r t2 hx2 ⟨j0,j1⟩=>by
    obtain ⟨e1,e2,e3⟩:=xZ hx2
    obtain ⟨t3,u0,u1,u2⟩:=vp (fs:=fs) (ms:=ms) (s:=s) (G0:=G0) (N0:=N0) (x5:=x5) hN hT hp hTm (n:=pr2.length) (by omega) j1
    have ep:p.1=fD T pr2.length:=e2
    refine ⟨_,t3,rfl,?_,u0.trans j0,u1.1,u1.2.1,?_⟩
    ·show cF fs [] ms Ek (PS.l G0 N0 T0 x5 { t2 with x7:=nS p.2,x10:=nS p.1 }) s=_
     rw [e1,ep]
     exact u2
    ·rcases u1.2.2 with ⟨a,b,c,d⟩ | q
     ·refine .inl ⟨a,b,c.1,fun n hn=>?_⟩
      rw [ae] at hn
      have hn:n < pr2.length+1:=hn
      rcases a9 n pr2.length with z | z
      ·exact c.2 n z
      ·rw [show n=pr2.length by omega]
       exact d
     ·exact .inr q)
  rw [bW,tl] at v3
  refine ⟨_,t2,rfl,(b7 v1).trans cp,v3.1,v3.2.1,?_⟩
  rcases v3.2.2 with ⟨a,b,c,d⟩ | q
  ·refine .inl ⟨a,b,fun T2 h2=>?_⟩
   rcases aR.mp h2 with z | z
   ·exact c T2 z
   ·rw [ah.mp z]; exact d
  ·exact .inr q)
 exact ⟨t',w2,(b7 (cD (t:=.fr) oX (.inl rfl) rfl)).trans ((b7 w1).trans cp)⟩
end
theorem sV (h2:2≤L) (h5:L≤5) {Ms:List Mach} (hne:Ms≠[]) (hz:Ms.length≤1000) (hM:∀ M∈Ms,fI L M∧0 < M.length) (n:Nat) (hn:n≤eV L):(fT ms).run [.lst (Ms.map mD),nD n]=.ok (.lst ((cE L Ms n).map lD),.nw):=by
 have big:=sizeLine_eq
 obtain ⟨q1,q2⟩:=(hJ h2 h5 n).mp hn
 obtain ⟨M0,Mr,hMs⟩:∃ M0 Mr,Ms=M0 :: Mr:=by
  cases Ms with
  | nil=>exact absurd rfl hne
  | cons a b=>exact ⟨a,b,rfl⟩
 let fs:List Fn:=[ft ms]
 let N:=L ^ n
 have hN0:0 < N:=Nat.pow_pos (by omega)
 let Tt:List (List Nat):=Ms.map fun M=>df L M n
 let Ts:List (Nat→Nat):=Ms.map fun M=>jO L M n
 have eT:Tt.map fD=Ts:=by
  show (Ms.map fun M=>df L M n).map fD=Ms.map fun M=>jO L M n
  rw [aU]
  rfl
 have hp:gB Ts N:=mB (by omega) n hM
 have hT:∀ T∈Tt,T.length=N:=fun T h=>by
  obtain ⟨M,_,rfl⟩:=aQ.mp h
  exact kf L M n
 let G0:Option Sl:=some ⟨.fr,.lst (Ms.map mD)⟩
 let N0:Option Sl:=some ⟨.bo,nD n⟩
 let T0:Option Sl:=some ⟨.fr,.lst (Tt.map lD)⟩
 have cc:b9 fs [] (.comp [9] (.n 9) (.it (.v 0)) .nil (.call 0 #v[.v 9,.v 1])) [G0,N0,none,none,none,none,none,none,none,none,none] []=.ok (.lst (Ms.map fun M=>lD (df L M n)),.nw,[]) :=
  i7 (ds:=Ms) (en:=mD) rfl (jP (t:=.fr) (cG rfl) (by intro q; cases q)) (fun M hm=>by
   obtain ⟨k1,k2⟩:=hM M hm
   exact ⟨[G0,N0,none,none,none,none,none,none,none,some ⟨.fr,mD M⟩,none],.nw,rfl,dr (hf:=rfl) (ds:=[mD M,nD n]) (s1:=[]) (cw (t:=.fr) (s1:=[]) (cG rfl) (.inl rfl) (cw (t:=.bo) (s1:=[]) (cG rfl) (.inl rfl) rfl)) (sQ k1.1 k2 (.inr rfl) h2 h5 n (by omega) (by omega)),.inr (.inl rfl)⟩) (by omega)
 have e3:(Ms.map fun M=>lD (df L M n))=Tt.map lD:=by
  show _=(Ms.map fun M=>df L M n).map lD
  rw [aU]
  rfl
 rw [e3] at cc
 have hT0:(Tt.map lD)[0]?=some (lD (df L M0 n)):=by
  show ((Ms.map fun M=>df L M n).map lD)[0]?=_
  rw [hMs]
  rfl
 have er:b9 fs [] (.lstI (.rng1 (.bi .len #v[.ix (.v 2) (.ki 0)]))) [G0,N0,T0,none,none,none,none,none,none,none,none] []=.ok (.lst ((List.range N).map nD),.nw,[]):=vj (n:=L ^ n) (t:=.fr) (Bf (t:=.fr) (s1:=[]) (dB (d:=.lst (Tt.map lD)) (d2:=nD 0) (d3:=lD (df L M0 n)) (t:=.fr) (t2:=.fr) (s1:=[]) (s2:=[]) (cG rfl) fM (jH hT0 [])) (by
  show BI.run .len [.lst ((df L M0 n).map nD)] []=_
  rw [uQ,ac,kf])) (by omega)
 have hw:=Hw (cond:=dM fs [] (.v 4)) (body:=cF fs [] ms Hy) (PS.l G0 N0 T0 none) [] (fun t=>t.fl) (fun t=>Pnt Ts N t.P∧DW t.x8∧(t.fl=false→∀ T∈Tt,∀ n,n < N→t.P.getD n 0=t.P.getD (fD T n) 0)) (fun t=>2*t.P.sum+(if t.fl=true then 1 else 0)) (fun t _=>de (t:=.fr) (cG rfl)) (fun t ⟨a1,a2,a3⟩ hc=>by
  obtain ⟨t',b1,b2⟩:=xw (fs:=fs) (ms:=ms) (s:=[]) (G0:=G0) (N0:=N0) (x5:=none) (N:=N) (Tt:=Tt) (by omega) hT (by rw [eT]; exact hp) (t:=t) (by rw [eT]; exact a1) a2
  rw [eT] at b1
  obtain ⟨b1,b3,b4⟩:=b1
  refine ⟨t',b2,⟨b1,b3,fun hf=>?_⟩,?_⟩
  ·rcases b4 with ⟨_,e,r⟩ | ⟨e,_⟩
   ·rw [e]; exact r
   ·rw [hf] at e; cases e
  ·have hc:t.fl=true:=hc
   show 2*t'.P.sum+_ < 2*t.P.sum+_
   rw [hc]
   rcases b4 with ⟨e1,e,_⟩ | ⟨e1,e⟩
   ·rw [e1,e,aj rfl,aq (by simp)]; omega
   ·rw [e1,aj rfl]; omega) ⟨List.range N,true,none,none,none,none⟩ ⟨Pnt.start,.inl rfl,fun q=>by cases q⟩
 obtain ⟨t,w1,⟨w2,w3,w4⟩,w5⟩:=hw
 have hs0:=w4 w5
 have hs:∀ f∈Ts,∀ n,n < N→t.P.getD n 0=t.P.getD (f n) 0:=fun f hf n hn=>by
  rw [← eT] at hf
  obtain ⟨T,hT,rfl⟩:=aQ.mp hf
  exact hs0 T hT n hn
 have pl:=w2.len
 let P3:Option Sl:=some ⟨.fr,.lst (t.P.map nD)⟩
 let F4:Option Sl:=some ⟨.fr,.bl t.fl⟩
 obtain ⟨⟨ks,j,y7,y8⟩,v1,v2,v3,v4,v5⟩:=o8 (fs:=fs) (gs:=[]) (ms:=ms) (tg:=.t #v[.n 7,.n 8]) (it:=.enum (.v 3) 0) (b:=#v[.sub 5 (.v 8) (.bin .add (.mt .get2 (.v 5) #v[.v 8,.lst .nil]) (.lst #v[.v 7]))]) (fun p:Nat × Nat=>fU (nD p.2) (nD p.1)) (fun u:List Nat × Nat × Option Sl × Option Sl=>([G0,N0,T0,P3,F4,some ⟨.ow,.dic false (kS t.P u.2.1 u.1)⟩,t.x6,u.2.2.1,u.2.2.2,none,t.x10]:Lc)) (fun _=>[]) (fun pr u=>u.2.1=pr.length∧u.1.Nodup∧(∀ a,a∈u.1↔∃ i,i < pr.length∧t.P.getD i 0=a)∧DW u.2.2.2) (t.P.zipIdx 0) ([],0,t.x7,t.x8)
  (vd (t:=.fr) (cG rfl) (.inr rfl) (by intro q; cases q)) ⟨rfl,.nil,fun a=>⟨(fun h=>by cases h),fun ⟨i,hi,_⟩=>absurd hi (ba i)⟩,w3⟩ (fun pr p r u hx ⟨i0,i1,i2,_⟩=>by
   obtain ⟨ks,j,y7,y8⟩:=u
   have i0:j=pr.length:=i0
   have i1:ks.Nodup:=i1
   have i2:∀ a,a∈ks↔∃ i,i < pr.length∧t.P.getD i 0=a:=i2
   obtain ⟨e1,e2,e3⟩:=xZ hx
   rw [← i0] at e1 e2
   have kl:ks.length≤pr.length:=by
    have:=dS i1 (r:=(List.range pr.length).map fun i=>t.P.getD i 0) (fun a ha=>by
     obtain ⟨i,hi,e⟩:=(i2 a).mp ha
     exact aQ.mpr ⟨i,aC.mpr hi,e⟩)
    rw [ac,am] at this
    exact this
   have hkz:(kS t.P j ks).length < sizeLine:=by
    unfold kS
    rw [ac]
    have:N≤1024:=q2
    omega
   let l1:Lc:=[G0,N0,T0,P3,F4,some ⟨.ow,.dic false (kS t.P j ks)⟩,t.x6,nS p.2,nS p.1,none,t.x10]
   have ev:b9 fs [] (.bin .add (.mt .get2 (.v 5) #v[.v 8,.lst .nil]) (.lst #v[.v 7])) l1 []=.ok (lD (kg t.P j (t.P.getD j 0)++[j]),.nw,[]):=by
    have g:=sU (fs:=fs) (gs:=[]) (o:=.v 5) (x:=.v 8) (y:=.lst .nil) (l:=l1) (s:=[]) (k:=false) (kvs:=kS t.P j ks) (d:=nD p.1) (d2:=.lst []) (t:=.ow) (t2:=.fr) (t3:=.nw) (cG rfl) (cG rfl) (.inl rfl) (lF ka (aW _)) (.inr (.inl rfl)) (cP _)
    have eg:(D.look (kS t.P j ks) (nD p.1)).getD (.lst [])=lD (kg t.P j (t.P.getD j 0)):=by
     rw [e2,iL]
     by_cases m:t.P.getD j 0∈ks
     ·rw [aj m]
      rfl
     ·rw [aq m,pd (fun i hi q=>m ((i2 _).mpr ⟨i,by omega,q⟩))]
      rfl
    rw [eg] at g
    refine dP (t:=.fr) (t2:=.nw) (s1:=[]) (s2:=[]) g (lF (lE (t:=.fr) (cG rfl) (.inl rfl) ka) (Nat.le_of_ble_eq_true rfl)) ?_
    show BOp.run .add (.lst ((kg t.P j (t.P.getD j 0)).map nD)) (.lst [nD p.2]) []=_
    have hpl:(kg t.P j (t.P.getD j 0)).length≤j:=by
     unfold kg
     refine a8 (List.length_filter_le _ _) ?_
     rw [am]
     exact ax _
    rw [wA _ _ _ (by rw [ac]; have:N≤1024:=q2; show _+1≤_; omega),e1]
    show dW (.lst ((kg t.P j (t.P.getD j 0)).map nD++[nD j])) []=_
    rw [← eZ]
    rfl
   have es:cF fs [] ms (.sub 5 (.v 8) (.bin .add (.mt .get2 (.v 5) #v[.v 8,.lst .nil]) (.lst #v[.v 7]))) l1 []=.ok (.nx (l1.set 5 (some ⟨.ow,.dic false (D.put (kS t.P j ks) (nD (t.P.getD j 0)) (lD (kg t.P j (t.P.getD j 0)++[j])))⟩)) []) :=
    ia (c:=.dic false (kS t.P j ks)) (t:=.nw) (s1:=[]) ev (.inr (.inl rfl)) rfl (d:=nD (t.P.getD j 0)) (t2:=.fr) (s2:=[]) (by rw [← e2]; exact cG rfl) (.inl rfl) (gw (cP _) hkz)
   have el:(pr++[p]).length=pr.length+1:=by rw [ae]; rfl
   by_cases m:t.P.getD j 0∈ks
   ·refine ⟨_,(ks,j+1,nS p.2,nS p.1),rfl,(b7 es).trans ?_,by rw [el,i0],i1,fun a=>?_,.inr ⟨_,rfl⟩⟩
    ·rw [xq m]
     rfl
    ·rw [i2,el]
     constructor
     ·rintro ⟨i,hi,e⟩
      exact ⟨i,by omega,e⟩
     ·rintro ⟨i,hi,e⟩
      rcases a9 i pr.length with z | z
      ·exact ⟨i,z,e⟩
      ·obtain rfl:i=j:=by omega
       rw [e] at m
       exact (i2 a).mp m
   ·have h0:kg t.P j (t.P.getD j 0)=[]:=pd (fun i hi q=>m ((i2 _).mpr ⟨i,by omega,q⟩))
    refine ⟨_,(ks++[t.P.getD j 0],j+1,nS p.2,nS p.1),rfl,(b7 es).trans ?_,by rw [el,i0],?_,fun a=>?_,.inr ⟨_,rfl⟩⟩
    ·rw [h0,List.nil_append,xt m h0]
     rfl
    ·rw [bu]
     refine ⟨i1,by simp,fun a ha b hb e=>?_⟩
     rw [ah.mp hb] at e
     rw [e] at ha
     exact m ha
    ·rw [aR,i2,el]
     constructor
     ·rintro (⟨i,hi,e⟩ | h)
      ·exact ⟨i,by omega,e⟩
      ·exact ⟨j,by omega,(ah.mp h).symm⟩
     ·rintro ⟨i,hi,e⟩
      rcases a9 i pr.length with z | z
      ·exact .inl ⟨i,z,e⟩
      ·obtain rfl:i=j:=by omega
       exact .inr (ah.mpr e.symm))
 rw [bW,pl] at v2 v4
 have v2:j=N:=v2
 subst v2
 have v3:ks.Nodup:=v3
 have v4:∀ a,a∈ks↔∃ i,i < N∧t.P.getD i 0=a:=v4
 have kne:ks≠[]:=fun z=>by
  have:=(v4 (t.P.getD 0 0)).mpr ⟨0,hN0,rfl⟩
  rw [z] at this
  cases this
 have so:BI.run .sorted [.dic false (kS t.P N ks)] ([]:cj)=.ok (.lst ((dU Ts N).map nD),.nw,[]):=by
  have e1:jd (kS t.P N ks)=none:=by
   obtain ⟨k,kr,rfl⟩:∃ k kr,ks=k :: kr:=by
    cases ks with
    | nil=>exact absurd rfl kne
    | cons a b=>exact ⟨a,b,rfl⟩
   rfl
  have e2:cZ ((kS t.P N ks).map fun p=>p.1)=some (ks.map fun n:Nat=>(n:Int)):=by
   rw [pb,show ks.map nD=(ks.map fun n:Nat=>(n:Int)).map D.int by rw [aU]; rfl,je]
  rw [pf e1 e2]
  show dW (.lst (((ks.map fun n:Nat=>(n:Int)).mergeSort fun a b=>decide (a≤b)).map D.int)) []=_
  rw [qu hp w2 hs v3 v4,aU]
  rfl
 have y8f:DW y8:=v5
 have hd:∀ a∈dU Ts N,a∈ks∧kg t.P N a=cmp Ts N a:=fun a ha=>by
  obtain ⟨h1,h2⟩:=heads_mem.mp ha
  exact ⟨(v4 a).mpr ((w2.head hp hs h1).mpr h2),vg hp w2 hs h1 h2⟩
 have hl:(dU Ts N).length≤100000:=by
  unfold dU
  refine a8 (List.length_filter_le _ _) ?_
  rw [am]
  have:N≤1024:=q2
  omega
 have fin:b9 fs [] (.comp [8] (.n 8) (.it (.bi .sorted #v[.v 5])) .nil (.ix (.v 5) (.v 8))) [G0,N0,T0,P3,F4,some ⟨.ow,.dic false (kS t.P N ks)⟩,t.x6,y7,y8,none,t.x10] []=.ok (.lst ((dU Ts N).map fun a=>lD (cmp Ts N a)),.nw,[]) :=
  i7 (ds:=dU Ts N) (en:=nD) (by rcases y8f with rfl | ⟨d,rfl⟩ <;> rfl) (jP (t:=.nw) (Bf (t:=.ow) (s1:=[]) (cG rfl) so) (by intro q; cases q)) (fun a ha=>⟨[G0,N0,T0,P3,F4,some ⟨.ow,.dic false (kS t.P N ks)⟩,t.x6,y7,nS a,none,t.x10],.fr,rfl,dB (d:=.dic false (kS t.P N ks)) (d2:=nD a) (t:=.ow) (t2:=.fr) (s1:=[]) (s2:=[]) (cG rfl) (cG rfl) (jo (cP _) (by rw [iL,aj (hd a ha).1,(hd a ha).2])),.inl rfl⟩) hl
 have ef:(dU Ts N).map (fun a=>lD (cmp Ts N a))=(cE L Ms n).map lD:=by
  show _=((dU Ts N).map (cmp Ts N)).map lD
  rw [aU]
  rfl
 rw [ef] at fin
 refine cH (s:=[]) rfl ((b7 (cD (t:=.nw) cc (.inr (.inl rfl)) rfl)).trans ((b7 (dD er)).trans ((b7 (cD (t:=.fr) oX (.inl rfl) rfl)).trans ((b7 (whl_eq.trans w1)).trans ((b7 (dD nA)).trans ((b7 v1).trans (cI (cY (t:=.nw) fin rfl))))))))
end
-- _law_told(_law_guises,_law_many): slots 0=_law_guises 1=_law_many 2=_law_told_here
def dm:S:=#v[.own 2 (.ks ""),.tr #v[.own 2 (.calS 0 #v[.v 0,.v 1])] (.hd "BadCount" #v[.own 2 (.ks "count")] (.hd "TooMany" #v[.own 2 (.ks "many")] .nil)),.ret (.v 2)]
noncomputable def dq (ms:Str→Str→Option Bool):Fn:=.both [dC ms] [] ms dm [true,false] 2 3
-- law(_law_script): slots 0=_law_script 1=_law_letters_here 2=_law_guises 3=_law_most 4=_law_many 5=_law_handed 6=_law_due_here 7=_law_found 8=_law_k
def i8:S:=#v[.set (.n 1) (.call 6 #v[.v 0,.ki 0]),.set (.n 2) (.comp [8] (.n 8) (.rng1 (.bin .add (.ki 1) (.bin .mod (.call 3 #v[.v 0,.ki 1]) (.ki 4)))) .nil (.call 5 #v[.v 1,.call 3 #v[.v 0,.bin .add (.ki 2) (.v 8)]])),.set (.n 3) (.call 4 #v[.v 1]),.set (.n 4) (.bin .mod (.call 3 #v[.v 0,.ki 6]) (.bin .add (.v 3) (.ki 1))),.set (.n 5) (.bi .list #v[.v 2]),.ife (.or #v[.cmp .ne (.calS 1 #v[.v 5,.bin .add (.v 3) (.ki 1)]) (.ks "many"),.cmp .ne (.calS 1 #v[.v 5,.bin .sub (.bin .sub (.ki 0) (.ki 1)) (.v 3)]) (.ks "count")])
 #v[.ret (.kb false)]
 .nil,.set (.n 6) (.call 2 #v[.v 2,.v 4]),.own 7 (.calS 1 #v[.v 5,.v 4]),.ife (.or #v[.not (.calD 0 #v[.v 7,.v 6]),.cmp .ne (.v 5) (.v 2)])
 #v[.ret (.kb false)]
 .nil,.capp (.ix (.v 7) (.ki 0)) (.bin .sub (.ki 0) (.ki 1)),.popX 7 .nil,.ife (.not (.calD 0 #v[.calS 1 #v[.v 5,.bin .fdiv (.v 4) (.ki 2)],.call 2 #v[.v 2,.bin .fdiv (.v 4) (.ki 2)]]))
 #v[.ret (.kb false)]
 .nil,.ife (.not (.calD 0 #v[.calS 1 #v[.sl (.v 5) .nil (.ki 1),.v 4],.call 2 #v[.sl (.v 2) .nil (.ki 1),.v 4]]))
 #v[.ret (.kb false)]
 .nil,.ret (.calD 0 #v[.calS 1 #v[.v 5,.v 4],.v 6])]
noncomputable def kh (ms:Str→Str→Option Bool):Fn:=.both [eJ ms,dq ms,fT ms,dQ ms,fS ms,fA ms,ff ms] [] ms i8 [false] 1 9
section
variable {ms:Str→Str→Option Bool} {L:Nat} {Ms:List Mach} {c0:Cell} {s:cj}
theorem xx (h2:2≤L) (h5:L≤5) (hne:Ms≠[]) (hz:Ms.length≤1000) (hM:∀ M∈Ms,fI L M∧0 < M.length) (n:Nat) (hn:n≤eV L):(dq ms).runS [.lst (Ms.map mD),nD n] (c0 :: s)=.ok (.lst (dL (c0 :: s).length (cE L Ms n).length),.nw,c0 :: (s++cC (cE L Ms n))):=by
 have hc:=lY (ms:=ms) h2 h5 hne hz hM n hn (S0:=c0 :: s) (by simp)
 let S0:cj:=c0 :: s
 let S1:cj:=c0 :: (s++cC (cE L Ms n))
 have hc:(dC ms).runS [.lst (Ms.map mD),nD n] S0=.ok (.lst (dL S0.length (cE L Ms n).length),.nw,S1):=hc
 let G0:Option Sl:=some ⟨.fr,.lst (Ms.map mD)⟩
 let N0:Option Sl:=some ⟨.bo,nD n⟩
 refine kO rfl (by simp) ?_
 show cF [dC ms] [] ms dm [G0,N0,none] S0=_
 refine (b7 (m7 lC)).trans ?_
 refine (b7 (Dh ((b7 (dD (kR (s1:=S0) rfl (cw (t:=.fr) (s1:=S0) (cG rfl) (.inr (.inl rfl)) (cw (t:=.bo) (s1:=S0) (cG rfl) (.inl rfl) ii)) (by simp [S0]) hc))).trans cp))).trans ?_
 exact cI (cY (t:=.ow) (cG rfl) rfl)
theorem rH {e:Str} {w:Str} (hne:Ms≠[]) (hM:∀ M∈Ms,fI L M∧0 < M.length) (n:Int) (hs:(dV ms).run [nD L,.int n]=.er ⟨e,none⟩ [] []) (hh:∀ l:Lc,nK [dC ms] [] ms ⟨e,none⟩ (.hd "BadCount" #v[.own 2 (.ks "count")] (.hd "TooMany" #v[.own 2 (.ks "many")] .nil)) l (c0 :: s)=.ok (.nx (l.set 2 (some ⟨.fr,.str w⟩)) (c0 :: s))):(dq ms).runS [.lst (Ms.map mD),.int n] (c0 :: s)=.ok (.str w,.fr,c0 :: s):=by
 obtain ⟨l,hc⟩:=kH (ms:=ms) hne hM n hs (c0:=c0) (s:=s)
 let S0:cj:=c0 :: s
 let G0:Option Sl:=some ⟨.fr,.lst (Ms.map mD)⟩
 let N0:Option Sl:=some ⟨.bo,.int n⟩
 refine kO rfl (by simp) ?_
 show cF [dC ms] [] ms dm [G0,N0,none] S0=_
 refine (b7 (m7 lC)).trans ?_
 refine (b7 (FH (j5 (Ao (xo (s1:=S0) rfl (cw (t:=.fr) (s1:=S0) (cG rfl) (.inr (.inl rfl)) (cw (t:=.bo) (s1:=S0) (cG rfl) (.inl rfl) ii)) (by simp [S0]) hc))) (hh _))).trans ?_
 exact cI (cY (t:=.fr) (cG rfl) rfl)

theorem mE {S0:cj}:∀ (cs:List (List Nat)) (a b:cj),eX (a++(cC cs++b)) ((List.range cs.length).map fun i=>D.loc (a.length+i))=cs.map lD
 | [],a,b=>rfl
 | c :: cs,a,b=>by
  rw [aw,List.range_succ_eq_map,aI,aU]
  have e1:(a++(cC (c :: cs)++b))[a.length+0]?=some (.obj (lD c)):=by
   rw [Nat.add_zero,aV (ax _),bO]
   rfl
  show (match (a++(cC (c :: cs)++b))[a.length+0]? with | some (.obj d)=>d | _=>.loc (a.length+0)) :: eX (a++(cC (c :: cs)++b)) _=lD c :: cs.map lD
  rw [e1]
  have ih:=mE (S0:=S0) cs (a++[.obj (lD c)]) b
  have e2:(a++[Cell.obj (lD c)])++(cC cs++b)=a++(cC (c :: cs)++b):=by
   rw [aK]
   rfl
  rw [e2] at ih
  have e3:(List.range cs.length).map ((fun i=>D.loc (a.length+i)) ∘ Nat.succ)=(List.range cs.length).map fun i=>D.loc ((a++[Cell.obj (lD c)]).length+i):=bT fun i _=>by
   show D.loc (a.length+(i+1))=D.loc ((a++[Cell.obj (lD c)]).length+i)
   rw [ae]
   congr 1
   show a.length+(i+1)=a.length+1+i
   omega
  rw [e3,ih]
theorem vq {cs:List (List Nat)} (h:cs.length≤100000) (hc:∀ c∈cs,c.length≤100000):D.pl 8 (.lst (cs.map lD)):=by
 have big:=sizeLine_eq
 refine ⟨by rw [ac]; omega,fun x hx=>?_⟩
 obtain ⟨c,hcm,rfl⟩:=aQ.mp hx
 exact AD (n:=5) c (hc c hcm)
theorem yc:∀ (n:Nat) (d:D) {S:cj},D.pl n d→l9 S d=d
 | 0,_,_,h=>h.elim
 | n+1,d,S,h=>by
  have row:∀ xs:List D,(∀ x∈xs,D.pl n x)→eX S xs=xs:=by
   intro xs
   induction xs with
   | nil=>intro _; rfl
   | cons x xs ih =>
    intro h
    show l9 S x :: eX S xs=_
    rw [yc n x (h x ap),ih fun y hy=>h y (av _ hy)]
  cases d with
  | tup xs=>show D.tup (eX S xs)=_; rw [row xs h.2]
  | lst xs=>show D.lst (eX S xs)=_; rw [row xs h.2]
  | loc n=>exact h.elim
  | _=>rfl
theorem mF (h2:2≤L) (h5:L≤5) (n:Nat) (hn:n≤eV L):(cE L Ms n).length≤1024∧(∀ c∈cE L Ms n,c.length≤1024)∧cE L Ms n≠[]:=by
 obtain ⟨q1,q2⟩:=(hJ h2 h5 n).mp hn
 have hN0:0 < L ^ n:=Nat.pow_pos (by omega)
 refine ⟨?_,fun c hc=>?_,fun z=>?_⟩
 ·unfold cE cK dU
  rw [ac]
  refine a8 (List.length_filter_le _ _) ?_
  rw [am]
  exact q2
 ·obtain ⟨a,_,rfl⟩:=aQ.mp (show c∈(dU _ _).map _ from hc)
  unfold cmp
  refine a8 (List.length_filter_le _ _) ?_
  rw [am]
  exact q2
 ·have:0∈dU (Ms.map fun M=>jO L M n) (L ^ n):=heads_mem.mpr ⟨hN0,fun b hb=>absurd hb (ba b)⟩
  have z2:(dU (Ms.map fun M=>jO L M n) (L ^ n)).map (cmp (Ms.map fun M=>jO L M n) (L ^ n))=[]:=z
  rw [List.map_eq_nil_iff] at z2
  rw [z2] at this
  cases this
theorem qv {fs:List Fn} {gs:List D} {l:Lc} {j:Nat} {xs:List D} {d:D} (h:l[j]?=some (some ⟨.ow,.lst (xs++[d])⟩)):cF fs gs ms (.popX j .nil) l s=.ok (.nx (l.set j (some ⟨.ow,.lst xs⟩)) s):=by
 show (match l[j]? with
  | some (some ⟨.ow,.lst es⟩)=>(dO fs gs .nil l s).bind fun (p,s1)=>match i9 es p with
   | some (_,es')=>R.ok (Out.nx (l.set j (some ⟨.ow,.lst es'⟩)) s1)
   | none=>.no
  | _=>.no)=_
 rw [h]
 show (match (match (xs++[d])[(xs++[d]).length - 1]? with | some d'=>some (d',(xs++[d]).dropLast) | none=>none) with
  | some (_,es')=>R.ok (Out.nx (l.set j (some ⟨.ow,.lst es'⟩)) s)
  | none=>.no)=_
 rw [ae,aV (by simp),List.dropLast_concat]
 simp
theorem vw {fs:List Fn} {gs:List D} {x:X} {l:Lc} {s s1:cj} {ds:List D} {d:D} {j:Nat} {F:Fn} (hf:fs[j]?=some F) (ha:fE fs gs x F.kp l s=.ok (ds,s1)) (hr:F.run (eX s1 ds)=.ok (d,.fr)) (hd:d.flat=true):b9 fs gs (.calD j x) l s=.ok (d,.fr,s1):=by
 show (match fs[j]? with
  | some f=>(fE fs gs x f.kp l s).bind fun (ds,s1)=>match f.run (eX s1 ds) with
   | .ok (d,.fr)=>if d.flat=true then cr d s1 else .no
   | _=>.no
  | none=>.no)=_
 rw [hf]
 show (fE fs gs x F.kp l s).bind _=_
 rw [ha,cJ]
 show (match F.run (eX s1 ds) with
   | .ok (d,.fr)=>if d.flat=true then cr d s1 else .no
   | _=>.no)=_
 rw [hr]
 exact aj hd
theorem sW {cs:List (List Nat)} {c0:Cell} {s:cj} (h1:cs.length≤100000) (h2:∀ c∈cs,c.length≤100000):eX (c0 :: (s++cC cs)) [.lst (dL (c0 :: s).length cs.length),.lst (cs.map lD)]=[.lst (cs.map lD),.lst (cs.map lD)]:=by
 have e:=mE (S0:=[]) cs (c0 :: s) []
 rw [aM] at e
 have e:eX (c0 :: (s++cC cs)) (dL (c0 :: s).length cs.length)=cs.map lD:=e
 show [D.lst (eX (c0 :: (s++cC cs)) (dL (c0 :: s).length cs.length)),l9 (c0 :: (s++cC cs)) (.lst (cs.map lD))]=_
 rw [yc 8 _ (vq h1 h2),e]
theorem xy {fs:List Fn} {gs:List D} {x:X} {l:Lc} {s:cj} {t:Tag} {xs:List D} (h:b9 fs gs x l s=.ok (.lst xs,t,s)):b9 fs gs (.sl x .nil (.ki 1)) l s=.ok (.lst (xs.take 1),.nw,s):=by
 have e:b9 fs gs (.sl x .nil (.ki 1)) l s=dW (.lst (gK xs none (some ((1:Nat):Int)))) s:=by
  show (b9 fs gs x l s).bind _=_
  rw [h]
  rfl
 rw [e,wS]
 rfl
theorem ph (Gs:List Mach):D.eqs 5 (.lst (Gs.map mD)):=fun x hx=>by
 obtain ⟨G,_,rfl⟩:=aQ.mp hx
 exact sS G
theorem xz (ms:Str→Str→Option Bool) (h0:ms "BadWord" "BadCount"=some false) (h1:ms "BadWord" "TooMany"=some false) (h2:ms "BadCount" "BadCount"=some true) (h3:ms "BadCount" "TooMany"=some false) (h4:ms "TooMany" "BadCount"=some false) (h5:ms "TooMany" "TooMany"=some true) (ns:List Int) (hl:ns.length≤63):∃ c s,(kh ms).runS [.arr (ns.map D.int)] [.fz]=.ok (.bl true,.fr,c :: s):=by
 have big:=sizeLine_eq
 obtain ⟨Li,hLr,hL1,hL2⟩:=oN (ms:=ms) ns 0 (by decide)
 obtain ⟨L,rfl⟩:=bm (show 0≤Li by omega)
 have hL1:2≤L:=by omega
 have hL2:L≤5:=by omega
 obtain ⟨c1,hc1⟩:=jJ (ms:=ms) ns 1 (by decide)
 obtain ⟨c6,hc6⟩:=jJ (ms:=ms) ns 6 (by decide)
 obtain ⟨k1,hk1,e1⟩:=lw (x:=c1) (n:=4) (by omega)
 have e1:c1 % 4=(k1:Int):=e1
 obtain ⟨n,hn,en⟩:=lw (x:=c6) (n:=eV L+1) (by omega)
 have hg:∀ k:Nat,∃ G:Mach,(Guise L G∧G.length≤8)∧∃ c:Int,(dQ ms).run [.arr (ns.map D.int),.int (2+(k:Int))]=.ok (.int c,.fr)∧(fA ms).run [nD L,.int c]=.ok (.tup (G.map fO),.fr):=fun k=>by
  obtain ⟨c,hc⟩:=jJ (ms:=ms) ns (2+(k:Int)) (by omega)
  obtain ⟨G,a,b,d⟩:=sG (ms:=ms) hL1 hL2 c
  exact ⟨G,⟨a,b⟩,c,hc,d⟩
 obtain ⟨g,hg⟩:∃ g:Nat→Mach,∀ k:Nat,(Guise L (g k)∧(g k).length≤8)∧∃ c:Int,(dQ ms).run [.arr (ns.map D.int),.int (2+(k:Int))]=.ok (.int c,.fr)∧(fA ms).run [nD L,.int c]=.ok (.tup ((g k).map fO),.fr):=⟨fun k=>Classical.choose (hg k),fun k=>Classical.choose_spec (hg k)⟩
 obtain ⟨Ms,hMs⟩:∃ Ms:List Mach,Ms=(List.range (1+k1)).map g:=⟨_,rfl⟩
 have ml:Ms.length=1+k1:=by rw [hMs,ac,am]
 have mne:Ms≠[]:=fun q=>by rw [q] at ml; simp at ml; omega
 have mz:Ms.length≤1000:=by omega
 have hM:∀ M∈Ms,fI L M∧0 < M.length:=fun M h=>by
  rw [hMs] at h
  obtain ⟨k,_,rfl⟩:=aQ.mp h
  exact ⟨(hg k).1.1.mt,(hg k).1.1.fm.ne⟩
 let fs:List Fn:=[eJ ms,dq ms,fT ms,dQ ms,fS ms,fA ms,ff ms]
 let A0:Option Sl:=some ⟨.bo,.arr (ns.map D.int)⟩
 let G0:Option Sl:=some ⟨.fr,.lst (Ms.map mD)⟩
 let S0:cj:=[.fz]
 have cell:∀ (x:X) (k c:Int) (l:Lc) (s:cj),b9 fs [] x (A0 :: l) s=.ok (.int k,.fr,s)→(dQ ms).run [.arr (ns.map D.int),.int k]=.ok (.int c,.fr)→b9 fs [] (.call 3 #v[.v 0,x]) (A0 :: l) s=.ok (.int c,.fr,s):=fun x k c l s hx hc =>
  dr (s1:=s) (ds:=[.arr (ns.map D.int),.int k]) rfl (cw (t:=.bo) (s1:=s) (cG rfl) (.inl rfl) (cw (t:=.fr) (s1:=s) hx (.inl rfl) rfl)) hc
 have hlr:(ff ms).run [.arr (ns.map D.int),.int 0]=.ok (nD L,.fr):=hLr
 have hst:=o3 (ms:=ms) hL1 hL2
 let l0:Lc:=[A0,none,none,none,none,none,none,none,none]
 let l1:Lc:=[A0,nS L,none,none,none,none,none,none,none]
 let l2:Lc:=[A0,nS L,G0,none,none,none,none,none,none]
 let l3:Lc:=[A0,nS L,G0,nS (eV L),none,none,none,none,none]
 let l4:Lc:=[A0,nS L,G0,nS (eV L),nS n,none,none,none,none]
 let l5:Lc:=[A0,nS L,G0,nS (eV L),nS n,G0,none,none,none]
 have g1:cF fs [] ms (.set (.n 1) (.call 6 #v[.v 0,.ki 0])) l0 S0=.ok (.nx l1 S0) :=
  cD (t:=.fr) (dr (s1:=S0) (ds:=[.arr (ns.map D.int),.int 0]) rfl (cw (t:=.bo) (s1:=S0) (cG rfl) (.inl rfl) (cw (t:=.fr) (s1:=S0) fM (.inl rfl) rfl)) hlr) (.inl rfl) rfl
 have g2e:b9 fs [] (.comp [8] (.n 8) (.rng1 (.bin .add (.ki 1) (.bin .mod (.call 3 #v[.v 0,.ki 1]) (.ki 4)))) .nil (.call 5 #v[.v 1,.call 3 #v[.v 0,.bin .add (.ki 2) (.v 8)]])) l1 S0=.ok (.lst ((List.range (1+k1)).map fun k=>mD (g k)),.nw,S0) :=
  i7 (ds:=List.range (1+k1)) (en:=nD) rfl (AG (t:=.fr) (n:=1+k1) (by
   have:b9 fs [] (.bin .add (.ki 1) (.bin .mod (.call 3 #v[.v 0,.ki 1]) (.ki 4))) l1 S0=.ok (.int (1+c1 % 4),.fr,S0):=dP (t:=.fr) (t2:=.fr) (s1:=S0) (s2:=S0) fM (dP (t:=.fr) (t2:=.fr) (s1:=S0) (s2:=S0) (cell _ 1 c1 _ _ fM hc1) fM (gF _ _ _ (by omega))) (jG _ _ _)
   rw [this,e1]
   show R.ok (D.int (1+(k1:Int)),Tag.fr,S0)=R.ok (D.int ((1+k1:Nat):Int),Tag.fr,S0)
   rw [Int.natCast_add]
   rfl) (by omega)) (fun k _=>by
    obtain ⟨c,hc,hr⟩:=(hg k).2
    exact ⟨[A0,nS L,none,none,none,none,none,none,nS k],.fr,rfl,dr (s1:=S0) (ds:=[nD L,.int c]) rfl (cw (t:=.fr) (s1:=S0) (cG rfl) (.inl rfl) (cw (t:=.fr) (s1:=S0) (cell _ _ c _ _ (dP (t:=.fr) (t2:=.fr) (s1:=S0) (s2:=S0) fM (d2:=nD k) (cG rfl) (jG _ _ _)) hc) (.inl rfl) rfl)) hr,.inl rfl⟩) (by rw [am]; omega)
 have eM:((List.range (1+k1)).map fun k=>mD (g k))=Ms.map mD:=by rw [hMs,aU]; rfl
 rw [eM] at g2e
 have g3:cF fs [] ms (.set (.n 3) (.call 4 #v[.v 1])) l2 S0=.ok (.nx l3 S0) :=
  cD (t:=.fr) (dr (s1:=S0) (ds:=[nD L]) rfl (cw (t:=.fr) (s1:=S0) (cG rfl) (.inl rfl) rfl) hst) (.inl rfl) rfl
 have g4:cF fs [] ms (.set (.n 4) (.bin .mod (.call 3 #v[.v 0,.ki 6]) (.bin .add (.v 3) (.ki 1)))) l3 S0=.ok (.nx l4 S0):=by
  refine cD (t:=.fr) (d:=nD n) ?_ (.inl rfl) rfl
  show _=R.ok (D.int (n:Int),Tag.fr,S0)
  rw [← en]
  exact dP (t:=.fr) (t2:=.fr) (s1:=S0) (s2:=S0) (d2:=.int ((eV L+1:Nat):Int)) (cell _ 6 c6 _ _ fM hc6) (dP (d:=nD (eV L)) (d2:=.int 1) (t:=.fr) (t2:=.fr) (s1:=S0) (s2:=S0) (cG rfl) fM (jG _ _ _)) (gF _ _ _ (by omega))
 have g5:cF fs [] ms (.set (.n 5) (.bi .list #v[.v 2])) l4 S0=.ok (.nx l5 S0) :=
  cD (t:=.nw) (Bf (t:=.fr) (s1:=S0) (cG rfl) uR) (.inr (.inl rfl)) rfl
 -- what is told of a list of guises
 have tel:∀ (Gs:List Mach) (m:Nat) (x y:X) (tx ty:Tag) (l:Lc) (sx:cj),Gs≠[]→Gs.length≤1000→(∀ M∈Gs,fI L M∧0 < M.length)→m≤eV L→b9 fs [] x l (.fz :: sx)=.ok (.lst (Gs.map mD),tx,.fz :: sx)→kA [true,false] tx (.lst (Gs.map mD))→b9 fs [] y l (.fz :: sx)=.ok (nD m,ty,.fz :: sx)→b9 fs [] (.calS 1 #v[x,y]) l (.fz :: sx)=.ok (.lst (dL (.fz :: sx:cj).length (cE L Gs m).length),.nw,.fz :: (sx++cC (cE L Gs m))):=fun Gs m x y tx ty l sx a1 a2 a3 a4 a5 a6 a7 =>
  kR (s1:=.fz :: sx) rfl (cw (t:=tx) (s1:=.fz :: sx) a5 a6 (cw (t:=ty) (s1:=.fz :: sx) a7 (.inl rfl) ii)) (by simp) (xx (c0:=.fz) hL1 hL2 a1 a2 a3 m a4)
 have due:∀ (Gs:List Mach) (m:Nat) (x y:X) (tx ty:Tag) (l:Lc) (sx:cj),Gs≠[]→Gs.length≤1000→(∀ M∈Gs,fI L M∧0 < M.length)→m≤eV L→b9 fs [] x l sx=.ok (.lst (Gs.map mD),tx,sx)→kA [true,false] tx (.lst (Gs.map mD))→b9 fs [] y l sx=.ok (nD m,ty,sx)→b9 fs [] (.call 2 #v[x,y]) l sx=.ok (.lst ((cE L Gs m).map lD),.nw,sx):=fun Gs m x y tx ty l sx a1 a2 a3 a4 a5 a6 a7 =>
  dr (s1:=sx) (ds:=[.lst (Gs.map mD),nD m]) rfl (cw (t:=tx) (s1:=sx) a5 a6 (cw (t:=ty) (s1:=sx) a7 (.inl rfl) rfl)) (sV hL1 hL2 a1 a2 a3 m a4)
 have lik:∀ (Gs:List Mach) (m:Nat) (x y:X) (tx ty:Tag) (l:Lc) (sa sx:cj),m≤eV L→b9 fs [] x l sa=.ok (.lst (dL (.fz :: sx:cj).length (cE L Gs m).length),tx,.fz :: (sx++cC (cE L Gs m)))→b9 fs [] y l (.fz :: (sx++cC (cE L Gs m)))=.ok (.lst ((cE L Gs m).map lD),ty,.fz :: (sx++cC (cE L Gs m)))→b9 fs [] (.calD 0 #v[x,y]) l sa=.ok (.bl true,.fr,.fz :: (sx++cC (cE L Gs m))):=fun Gs m x y tx ty l sa sx a4 a5 a6=>by
  obtain ⟨q1,q2,q3⟩:=mF (Ms:=Gs) hL1 hL2 m a4
  refine vw (F:=eJ ms) (s1:=.fz :: (sx++cC (cE L Gs m))) rfl (cw (t:=tx) a5 (.inl rfl) (cw (t:=ty) (s1:=.fz :: (sx++cC (cE L Gs m))) a6 (.inl rfl) ii)) ?_ rfl
  rw [sW (by omega) (fun c hc=>by have:=q2 c hc; omega)]
  exact uG _ (vq (by omega) (fun c hc=>by have:=q2 c hc; omega))
 obtain ⟨q1,q2,q3⟩:=mF (Ms:=Ms) hL1 hL2 n (by omega)
 have t1:b9 fs [] (.calS 1 #v[.v 5,.bin .add (.v 3) (.ki 1)]) l5 S0=.ok (.str "many",.fr,S0) :=
  kR (s1:=S0) (F:=dq ms) (ds:=[.lst (Ms.map mD),.int ((eV L:Int)+1)]) rfl (cw (t:=.fr) (s1:=S0) (cG rfl) (.inr (.inl rfl)) (cw (t:=.fr) (s1:=S0) (dP (d:=nD (eV L)) (d2:=.int 1) (t:=.fr) (t2:=.fr) (s1:=S0) (s2:=S0) (cG rfl) fM (jG _ _ _)) (.inl rfl) ii)) (by simp [S0]) (rH (c0:=.fz) (s:=[]) (e:="TooMany") (w:="many") mne hM _ (lX hL1 hL2 _ (by omega)) (fun l=>FI h4 (DV h5 ((b7 (m7 lC)).trans cp))))
 have t2:b9 fs [] (.calS 1 #v[.v 5,.bin .sub (.bin .sub (.ki 0) (.ki 1)) (.v 3)]) l5 S0=.ok (.str "count",.fr,S0) :=
  kR (s1:=S0) (F:=dq ms) (ds:=[.lst (Ms.map mD),.int ((0:Int) - 1 - (eV L:Int))]) rfl (cw (t:=.fr) (s1:=S0) (cG rfl) (.inr (.inl rfl)) (cw (t:=.fr) (s1:=S0) (dP (d:=.int (0 - 1)) (d2:=nD (eV L)) (t:=.fr) (t2:=.fr) (s1:=S0) (s2:=S0) (dP (t:=.fr) (t2:=.fr) (s1:=S0) (s2:=S0) fM fM (kM _ _ _)) (cG rfl) (kM _ _ _)) (.inl rfl) ii)) (by simp [S0]) (rH (c0:=.fz) (s:=[]) (e:="BadCount") (w:="count") mne hM _ (lM _ (by omega)) (fun l=>DV h2 ((b7 (m7 lC)).trans cp)))
 have hm:n / 2≤eV L:=by omega
 let D0:Option Sl:=some ⟨.fr,.lst ((cE L Ms n).map lD)⟩
 let l6:Lc:=[A0,nS L,G0,nS (eV L),nS n,G0,D0,none,none]
 obtain ⟨CL,hCL⟩:∃ CL,CL=cE L Ms n:=⟨_,rfl⟩
 let SA:cj:=.fz :: ([]++cC (cE L Ms n))
 obtain ⟨k,ek⟩:∃ k,(cE L Ms n).length=k+1:=⟨(cE L Ms n).length - 1,by have:=bS.mpr q3; omega⟩
 obtain ⟨C0,Cr,eC⟩:∃ C0 Cr,cE L Ms n=C0 :: Cr:=by
  cases hc:cE L Ms n with
  | nil=>exact absurd hc q3
  | cons a b=>exact ⟨a,b,rfl⟩
 let l7:Lc:=[A0,nS L,G0,nS (eV L),nS n,G0,D0,some ⟨.ow,.lst (dL 1 (cE L Ms n).length)⟩,none]
 let l8:Lc:=[A0,nS L,G0,nS (eV L),nS n,G0,D0,some ⟨.ow,.lst (dL 1 k)⟩,none]
 have g6:cF fs [] ms (.set (.n 6) (.call 2 #v[.v 2,.v 4])) l5 S0=.ok (.nx l6 S0) :=
  cD (t:=.nw) (due Ms n (.v 2) (.v 4) .fr .fr _ _ mne mz hM (by omega) (cG rfl) (.inr (.inl rfl)) (cG rfl)) (.inr (.inl rfl)) rfl
 have g7:cF fs [] ms (.own 7 (.calS 1 #v[.v 5,.v 4])) l6 S0=.ok (.nx l7 SA) :=
  dD (tel Ms n (.v 5) (.v 4) .fr .fr l6 [] mne mz hM (by omega) (cG rfl) (.inr (.inl rfl)) (cG rfl))
 have n1:b9 fs [] (.not (.calD 0 #v[.v 7,.v 6])) l7 SA=.ok (.bl false,.fr,SA) :=
  q7 (t:=.fr) (lik Ms n (.v 7) (.v 6) .ow .fr l7 SA [] (by omega) (cG rfl) (cG rfl))
 have n2:b9 fs [] (.cmp .ne (.v 5) (.v 2)) l7 SA=.ok (.bl false,.fr,SA) :=
  cV (t:=.fr) (t2:=.fr) (s1:=SA) (s2:=SA) (cG rfl) (cG rfl) (w9 (ph Ms) (by omega))
 have at1:SA[1]?=some (.obj (.lst (C0.map nD))):=by
  show ((.fz:Cell) :: ([]++cC (cE L Ms n)))[1]?=_
  rw [eC]
  rfl
 have c0z:=q2 C0 (by rw [eC]; exact ap)
 have Bg:jQ (.lst (dL 1 (cE L Ms n).length)) (.int ((0:Nat):Int)) SA=cr (.loc 1) SA:=jH (by
  rw [ek]
  show ((List.range (k+1)).map fun i=>D.loc (1+i))[0]?=_
  rw [aD,be (by omega)]
  rfl) SA
 obtain ⟨sx,hsx⟩:∃ sx,SA.set 1 (.obj (.lst (C0.map nD++[.int (0 - 1)])))=.fz :: sx:=⟨_,rfl⟩
 have g8:cF fs [] ms (.capp (.ix (.v 7) (.ki 0)) (.bin .sub (.ki 0) (.ki 1))) l7 SA=.ok (.nx l7 (.fz :: sx)):=by
  rw [← hsx]
  exact xp (n:=1) (t:=.fr) (t2:=.fr) (s1:=SA) (s2:=SA) (dB (d:=.lst (dL 1 (cE L Ms n).length)) (d2:=.int ((0:Nat):Int)) (d3:=.loc 1) (t:=.ow) (t2:=.fr) (s1:=SA) (s2:=SA) (cG rfl) fM Bg) at1 (dP (t:=.fr) (t2:=.fr) (s1:=SA) (s2:=SA) fM fM (kM _ _ _)) (.inl rfl) at1 (by rw [ac]; omega)
 have g9:cF fs [] ms (.popX 7 .nil) l7 (.fz :: sx)=.ok (.nx l8 (.fz :: sx)):=qv (xs:=dL 1 k) (d:=.loc (1+k)) (by
  show some (some (⟨.ow,.lst (dL 1 (cE L Ms n).length)⟩:Sl))=_
  rw [ek,mC])
 have half:∀ (l:Lc) (s:cj),l[4]?=some (nS n)→b9 fs [] (.bin .fdiv (.v 4) (.ki 2)) l s=.ok (nD (n / 2),.fr,s):=fun l s h=>by
  exact dP (t:=.fr) (t2:=.fr) (s1:=s) (s2:=s) (d:=.int (n:Int)) (d2:=.int 2) (cG h) fM (iC _ _ _ (by omega))
 have n3:b9 fs [] (.not (.calD 0 #v[.calS 1 #v[.v 5,.bin .fdiv (.v 4) (.ki 2)],.call 2 #v[.v 2,.bin .fdiv (.v 4) (.ki 2)]])) l8 (.fz :: sx)=.ok (.bl false,.fr,.fz :: (sx++cC (cE L Ms (n / 2)))) :=
  q7 (t:=.fr) (lik Ms (n / 2) _ _ .nw .nw l8 _ sx hm (tel Ms (n / 2) _ _ .fr .fr l8 sx mne mz hM hm (cG rfl) (.inr (.inl rfl)) (half _ _ rfl)) (due Ms (n / 2) _ _ .fr .fr l8 _ mne mz hM hm (cG rfl) (.inr (.inl rfl)) (half _ _ rfl)))
 obtain ⟨sy,hsy⟩:∃ sy,sx++cC (cE L Ms (n / 2))=sy:=⟨_,rfl⟩
 rw [hsy] at n3
 have tne:Ms.take 1≠[]:=by
  cases Ms with
  | nil=>exact absurd rfl mne
  | cons a b=>simp
 have tM:∀ M∈Ms.take 1,fI L M∧0 < M.length:=fun M h=>hM M (List.mem_of_mem_take h)
 have tz:(Ms.take 1).length≤1000:=by rw [List.length_take]; omega
 have tk:∀ (i:Nat) (l:Lc) (s:cj),l[i]?=some G0→b9 fs [] (.sl (.v i) .nil (.ki 1)) l s=.ok (.lst ((Ms.take 1).map mD),.nw,s):=fun i l s h=>by
  rw [List.map_take]
  exact xy (t:=.fr) (cG h)
 have n4:b9 fs [] (.not (.calD 0 #v[.calS 1 #v[.sl (.v 5) .nil (.ki 1),.v 4],.call 2 #v[.sl (.v 2) .nil (.ki 1),.v 4]])) l8 (.fz :: sy)=.ok (.bl false,.fr,.fz :: (sy++cC (cE L (Ms.take 1) n))) :=
  q7 (t:=.fr) (lik (Ms.take 1) n _ _ .nw .nw l8 _ sy (by omega) (tel (Ms.take 1) n _ _ .nw .fr l8 sy tne tz tM (by omega) (tk 5 _ _ rfl) (.inr (.inr (.inl rfl))) (cG rfl)) (due (Ms.take 1) n _ _ .nw .fr l8 _ tne tz tM (by omega) (tk 2 _ _ rfl) (.inr (.inr (.inl rfl))) (cG rfl)))
 obtain ⟨sz,hsz⟩:∃ sz,sy++cC (cE L (Ms.take 1) n)=sz:=⟨_,rfl⟩
 rw [hsz] at n4
 have fin:b9 fs [] (.calD 0 #v[.calS 1 #v[.v 5,.v 4],.v 6]) l8 (.fz :: sz)=.ok (.bl true,.fr,.fz :: (sz++cC (cE L Ms n))) :=
  lik Ms n _ _ .nw .fr l8 _ sz (by omega) (tel Ms n _ _ .fr .fr l8 sz mne mz hM (by omega) (cG rfl) (.inr (.inl rfl)) (cG rfl)) (cG rfl)
 have i1:b9 fs [] (.or #v[.cmp .ne (.calS 1 #v[.v 5,.bin .add (.v 3) (.ki 1)]) (.ks "many"),.cmp .ne (.calS 1 #v[.v 5,.bin .sub (.bin .sub (.ki 0) (.ki 1)) (.v 3)]) (.ks "count")]) l5 S0=.ok (.bl false,.fr,S0) :=
  iF ((jn (cV (t:=.fr) (t2:=.fr) (s1:=S0) (s2:=S0) t1 lC (lG (by symm)))).trans ((jn (cV (t:=.fr) (t2:=.fr) (s1:=S0) (s2:=S0) t2 lC (lG (by symm)))).trans rfl))
 refine ⟨.fz,sz++cC (cE L Ms n),kO rfl (by simp) ?_⟩
 refine (b7 g1).trans ((b7 (l1:=l2) (s1:=S0) (cD (t:=.nw) g2e (.inr (.inl rfl)) rfl)).trans ((b7 g3).trans ((b7 g4).trans ((b7 g5).trans ?_))))
 refine (b7 (lV (t:=.fr) (s1:=S0) i1 cp)).trans ((b7 g6).trans ((b7 g7).trans ?_))
 refine (b7 (lV (t:=.fr) (s1:=SA) (iF ((jn n1).trans ((jn n2).trans rfl))) cp)).trans ((b7 g8).trans ((b7 g9).trans ?_))
 refine (b7 (lV (t:=.fr) (s1:=.fz :: sy) n3 cp)).trans ((b7 (lV (t:=.fr) (s1:=.fz :: sz) n4 cp)).trans ?_)
 exact cI (cY (t:=.fr) fin rfl)
end
end GM

set_option maxHeartbeats 0
set_option maxHeartbeats 0
namespace LWk24
open PySem PySem.Spec PyProof.Rows L2 GM
def N4:List Str:=["_law_script","_law_at"]
def FJ:List Str:=["_law_script","_law_at"]
def Hz:List Str:=[]
def gn4:List (Str × Ct):=[]
theorem Ig:FnScope N4 FJ (defScope s4):=⟨rfl,rfl,rfl,by symm,rfl,by symm,by symm⟩
theorem Ih:cU ⟨N4,defScope s4,Hz,gn4.map (fun (p:Str × Ct)=>p.1),true,false,en,hn,[],[],[],[],[],[]⟩ gy (defBody s4)=true:=by symm
def FK:List Str:=["_law_script","_law_at"]
def AI:List Str:=["_law_script","_law_at"]
def DX:List Str:=["_law_cell"]
def gn11:List (Str × Ct):=[]
theorem FL:FnScope FK AI (defScope vA):=⟨rfl,rfl,rfl,by symm,rfl,by symm,by symm⟩
theorem FM:cU ⟨FK,defScope vA,DX,gn11.map (fun (p:Str × Ct)=>p.1),true,false,en,hn,[],[],[],[],[],[]⟩ fe (defBody vA)=true:=by symm
def N9:List Str:=["_law_rows_here","_law_line","_law_marks","_law_place","_law_heads","_law_row","_law_to"]
def FN:List Str:=["_law_rows_here","_law_line","_law_marks"]
def HA:List Str:=[]
def gn9:List (Str × Ct):=[]
theorem Ii:FnScope N9 FN (defScope s9):=⟨rfl,rfl,rfl,by symm,rfl,by symm,by symm⟩
theorem Ij:cU ⟨N9,defScope s9,HA,gn9.map (fun (p:Str × Ct)=>p.1),true,false,en,hn,[],[],[],[],[],[]⟩ fc (defBody s9)=true:=by symm
def FO:List Str:=["_law_rows_here","_law_start","_law_line","_law_marks","_law_at","_law_many","_law_grown","_law_to","_law_known","_law_fresh","_law_row","_law_key"]
def AJ:List Str:=["_law_rows_here","_law_start"]
def DY:List Str:=["_law_in_line"]
def gn18:List (Str × Ct):=[]
theorem FP:FnScope FO AJ (defScope A1):=⟨rfl,rfl,rfl,by symm,rfl,by symm,by symm⟩
theorem FQ:cU ⟨FO,defScope A1,DY,gn18.map (fun (p:Str × Ct)=>p.1),true,false,en,hn,[],[],[],[],[],[]⟩ fH (defBody A1)=true:=by symm
def FR:List Str:=["_law_cell_here","_law_many","_law_row","_law_rest","_law_seed"]
def AK:List Str:=["_law_cell_here","_law_many"]
def DZ:List Str:=[]
def gn14:List (Str × Ct):=[]
theorem FS:FnScope FR AK (defScope A2):=⟨rfl,rfl,rfl,by symm,rfl,by symm,by symm⟩
theorem FT:cU ⟨FR,defScope A2,DZ,gn14.map (fun (p:Str × Ct)=>p.1),true,false,en,hn,[],[],[],[],[],[]⟩ fg (defBody A2)=true:=by symm
def FU:List Str:=["_law_pick","_law_letters_here","_law_left","_law_made","_law_k","_law_many"]
def AL:List Str:=["_law_pick","_law_letters_here"]
def D3:List Str:=[]
def gn16:List (Str × Ct):=[]
theorem FV:FnScope FU AL (defScope A3):=⟨rfl,rfl,rfl,by symm,rfl,by symm,by symm⟩
theorem FW:cU ⟨FU,defScope A3,D3,gn16.map (fun (p:Str × Ct)=>p.1),true,false,en,hn,[],[],[],[],[],[]⟩ cX (defBody A3)=true:=by symm
def FX:List Str:=["_law_letters_here","_law_cell_here","_law_nums","_law_many","_law_kind","_law_rows_here","_law_at","_law_pick","_law_first","_law_goings","_law_k","_law_to"]
def AM:List Str:=["_law_letters_here","_law_cell_here"]
def D4:List Str:=["_law_rearranged","_law_numbers"]
def gn17:List (Str × Ct):=[]
theorem FY:FnScope FX AM (defScope A4):=⟨rfl,rfl,rfl,by symm,rfl,by symm,by symm⟩
theorem FZ:cU ⟨FX,defScope A4,D4,gn17.map (fun (p:Str × Ct)=>p.1),true,false,en,hn,[],[],[],[],[],[]⟩ eN (defBody A4)=true:=by symm
def N8:List Str:=["_law_letters_here","_law_cell_here"]
def F0:List Str:=["_law_letters_here","_law_cell_here"]
def HB:List Str:=["_law_shrunk","_law_rows"]
def gn8:List (Str × Ct):=[]
theorem Ik:FnScope N8 F0 (defScope s8):=⟨rfl,rfl,rfl,by symm,rfl,by symm,by symm⟩
theorem Il:cU ⟨N8,defScope s8,HB,gn8.map (fun (p:Str × Ct)=>p.1),true,false,en,hn,[],[],[],[],[],[]⟩ f8 (defBody s8)=true:=by symm
def F1:List Str:=["_law_letters_here"]
def AN:List Str:=["_law_letters_here"]
def D5:List Str:=[]
def gn19:List (Str × Ct):=[]
theorem F3:FnScope F1 AN (defScope A5):=⟨rfl,rfl,rfl,by symm,rfl,by symm,by symm⟩
theorem F5:cU ⟨F1,defScope A5,D5,gn19.map (fun (p:Str × Ct)=>p.1),true,false,en,hn,[],[],[],[],[],[]⟩ fi (defBody A5)=true:=by symm
def F6:List Str:=["_law_found"]
def AO:List Str:=["_law_found"]
def D6:List Str:=[]
def gn22:List (Str × Ct):=[]
theorem F7:FnScope F6 AO (defScope A6):=⟨rfl,rfl,rfl,by symm,rfl,by symm,by symm⟩
theorem F8:cU ⟨F6,defScope A6,D6,gn22.map (fun (p:Str × Ct)=>p.1),true,false,en,hn,[],[],[],[],[],[]⟩ f7 (defBody A6)=true:=by symm
def F9:List Str:=["_law_found","_law_due_here","_law_k"]
def AP:List Str:=["_law_found","_law_due_here"]
def D7:List Str:=["_law_like","_law_whole"]
def gn12:List (Str × Ct):=[]
theorem Ga:FnScope F9 AP (defScope xB):=⟨rfl,rfl,rfl,by symm,rfl,by symm,by symm⟩
theorem Gb:cU ⟨F9,defScope xB,D7,gn12.map (fun (p:Str × Ct)=>p.1),true,false,en,hn,[],[],[],[],[],[]⟩ eG (defBody xB)=true:=by symm
def N7:List Str:=["_law_letters_here","_law_many","_law_found","_law_turn"]
def Gc:List Str:=["_law_letters_here","_law_many"]
def HC:List Str:=[]
def gn7:List (Str × Ct):=[]
theorem Im:FnScope N7 Gc (defScope s7):=⟨rfl,rfl,rfl,by symm,rfl,by symm,by symm⟩
theorem Io:cU ⟨N7,defScope s7,HC,gn7.map (fun (p:Str × Ct)=>p.1),true,false,en,hn,[],[],[],[],[],[]⟩ dI (defBody s7)=true:=by symm
def Ge:List Str:=["_law_rows_here","_law_at","_law_word","_law_made","_law_letter"]
def AQ:List Str:=["_law_rows_here","_law_at","_law_word"]
def D8:List Str:=[]
def gn15:List (Str × Ct):=[]
theorem Gf:FnScope Ge AQ (defScope A7):=⟨rfl,rfl,rfl,by symm,rfl,by symm,by symm⟩
theorem Gg:cU ⟨Ge,defScope A7,D8,gn15.map (fun (p:Str × Ct)=>p.1),true,false,en,hn,[],[],[],[],[],[]⟩ eO (defBody A7)=true:=by symm
def N6:List Str:=["_law_letters_here","_law_many","_law_number_here","_law_made","_law_turn"]
def Gi:List Str:=["_law_letters_here","_law_many","_law_number_here"]
def HD:List Str:=[]
def gn6:List (Str × Ct):=[]
theorem Ip:FnScope N6 Gi (defScope s6):=⟨rfl,rfl,rfl,by symm,rfl,by symm,by symm⟩
theorem Iq:cU ⟨N6,defScope s6,HD,gn6.map (fun (p:Str × Ct)=>p.1),true,false,en,hn,[],[],[],[],[],[]⟩ fh (defBody s6)=true:=by symm
def Gj:List Str:=["_law_letters_here","_law_word","_law_number_here","_law_letter"]
def AS:List Str:=["_law_letters_here","_law_word"]
def D9:List Str:=[]
def gn13:List (Str × Ct):=[]
theorem Gk:FnScope Gj AS (defScope xC):=⟨rfl,rfl,rfl,by symm,rfl,by symm,by symm⟩
theorem Gp:cU ⟨Gj,defScope xC,D9,gn13.map (fun (p:Str × Ct)=>p.1),true,false,en,hn,[],[],[],[],[],[]⟩ dJ (defBody xC)=true:=by symm
def Gq:List Str:=["_law_one","_law_many","_law_letters_here","_law_made","_law_number_here","_law_word"]
def AT:List Str:=["_law_one","_law_many"]
def Ea:List Str:=["_law_floor_size","_law_number","_law_read","_law_figures"]
def gn20:List (Str × Ct):=[]
theorem Gr:FnScope Gq AT (defScope A8):=⟨rfl,rfl,rfl,by symm,rfl,by symm,by symm⟩
theorem Gu:cU ⟨Gq,defScope A8,Ea,gn20.map (fun (p:Str × Ct)=>p.1),true,false,en,hn,[],[],[],[],[],[]⟩ dT (defBody A8)=true:=by symm
def N5:List Str:=["_law_guises","_law_many","_law_tables","_law_paint","_law_changed","_law_sets","_law_table_here","_law_number_here","_law_low","_law_one","_law_there"]
def Gv:List Str:=["_law_guises","_law_many"]
def HE:List Str:=["_law_table"]
def gn5:List (Str × Ct):=[]
theorem Ir:FnScope N5 Gv (defScope s5):=⟨rfl,rfl,rfl,by symm,rfl,by symm,by symm⟩
theorem Iu:cU ⟨N5,defScope s5,HE,gn5.map (fun (p:Str × Ct)=>p.1),true,false,en,hn,[],[],[],[],[],[]⟩ fj (defBody s5)=true:=by symm
def N0:List Str:=["guise"]
def Gw:List Str:=["guise"]
def HF:List Str:=[]
def gn0:List (Str × Ct):=[]
theorem Iv:FnScope N0 Gw (defScope s0):=⟨rfl,rfl,rfl,by symm,rfl,by symm,by symm⟩
theorem Iw:cU ⟨N0,defScope s0,HF,gn0.map (fun (p:Str × Ct)=>p.1),true,false,en,hn,[],[],[],[],[],[]⟩ gZ (defBody s0)=true:=by symm
def Gx:List Str:=["letters","many","found","turn"]
def AU:List Str:=["letters","many"]
def Eb:List Str:=[]
def gn26:List (Str × Ct):=[]
theorem Gy:FnScope Gx AU (defScope A9):=⟨rfl,rfl,rfl,by symm,rfl,by symm,by symm⟩
theorem Gz:cU ⟨Gx,defScope A9,Eb,gn26.map (fun (p:Str × Ct)=>p.1),true,false,en,hn,[],[],[],[],[],[]⟩ gA (defBody A9)=true:=by symm
def GA:List Str:=["letters","many"]
def AV:List Str:=["letters","many"]
def Ec:List Str:=["words_on"]
def gn24:List (Str × Ct):=[("MOST_WORDS",.int 1024)]
theorem GB:FnScope GA AV (defScope Ba):=⟨rfl,rfl,rfl,by symm,rfl,by symm,by symm⟩
theorem GC:cU ⟨GA,defScope Ba,Ec,gn24.map (fun (p:Str × Ct)=>p.1),true,false,en,hn,[],[],[],[],[],[]⟩ hI (defBody Ba)=true:=by symm
def GD:List Str:=["guise","at","word","made","letter","first","goings"]
def AW:List Str:=["guise","at","word"]
def Ed:List Str:=[]
def gn27:List (Str × Ct):=[]
theorem GE:FnScope GD AW (defScope Bb):=⟨rfl,rfl,rfl,by symm,rfl,by symm,by symm⟩
theorem GF:cU ⟨GD,defScope Bb,Ed,gn27.map (fun (p:Str × Ct)=>p.1),true,false,en,hn,[],[],[],[],[],[]⟩ f9 (defBody Bb)=true:=by symm
def N2:List Str:=["letters","word","letter"]
def GG:List Str:=["letters","word"]
def HG:List Str:=[]
def gn2:List (Str × Ct):=[]
theorem Ix:FnScope N2 GG (defScope s2):=⟨rfl,rfl,rfl,by symm,rfl,by symm,by symm⟩
theorem Iy:cU ⟨N2,defScope s2,HG,gn2.map (fun (p:Str × Ct)=>p.1),true,false,en,hn,[],[],[],[],[],[]⟩ fJ (defBody s2)=true:=by symm
def GH:List Str:=["letters","word","number","letter"]
def AX:List Str:=["letters","word"]
def Ee:List Str:=["check_word"]
def gn23:List (Str × Ct):=[]
theorem GI:FnScope GH AX (defScope Bc):=⟨rfl,rfl,rfl,by symm,rfl,by symm,by symm⟩
theorem GJ:cU ⟨GH,defScope Bc,Ee,gn23.map (fun (p:Str × Ct)=>p.1),true,false,en,hn,[],[],[],[],[],[]⟩ gb (defBody Bc)=true:=by symm
def GK:List Str:=["letters","many","number","made","turn"]
def AY:List Str:=["letters","many","number"]
def Ef:List Str:=["words_on"]
def gn25:List (Str × Ct):=[("MOST_LETTERS",.int 1000)]
theorem GL:FnScope GK AY (defScope Bd):=⟨rfl,rfl,rfl,by symm,rfl,by symm,by symm⟩
theorem GN:cU ⟨GK,defScope Bd,Ef,gn25.map (fun (p:Str × Ct)=>p.1),true,false,en,hn,[],[],[],[],[],[]⟩ hG (defBody Bd)=true:=by symm
def N3:List Str:=["guise","many","letters","found","number","word"]
def GO:List Str:=["guise","many"]
def HH:List Str:=["size_of","number_of","worn_from","word_of","breadth"]
def gn3:List (Str × Ct):=[]
theorem Iz:FnScope N3 GO (defScope s3):=⟨rfl,rfl,rfl,by symm,rfl,by symm,by symm⟩
theorem IA:cU ⟨N3,defScope s3,HH,gn3.map (fun (p:Str × Ct)=>p.1),true,false,en,hn,[],[],[],[],[],[]⟩ jL (defBody s3)=true:=by symm
def N1:List Str:=["guises","many","size","tables","marks","found","number","guise","camp","at","table"]
def GP:List Str:=["guises","many"]
def HI:List Str:=["floor","size_of","breadth"]
def gn1:List (Str × Ct):=[]
theorem IB:FnScope N1 GP (defScope s1):=⟨rfl,rfl,rfl,by symm,rfl,by symm,by symm⟩
theorem ID:cU ⟨N1,defScope s1,HI,gn1.map (fun (p:Str × Ct)=>p.1),true,false,en,hn,[],[],[],[],[],[]⟩ fB (defBody s1)=true:=by symm
def GQ:List Str:=["_law_guises","_law_many","_law_told_here"]
def AZ:List Str:=["_law_guises","_law_many"]
def Eg:List Str:=["camps"]
def gn21:List (Str × Ct):=[]
theorem GR:FnScope GQ AZ (defScope Be):=⟨rfl,rfl,rfl,by symm,rfl,by symm,by symm⟩
theorem GS:cU ⟨GQ,defScope Be,Eg,gn21.map (fun (p:Str × Ct)=>p.1),true,false,en,hn,[],[],[],[],[],[]⟩ dm (defBody Be)=true:=by symm
def GT:List Str:=["_law_script","_law_letters_here","_law_guises","_law_most","_law_many","_law_handed","_law_due_here","_law_found","_law_k"]
def xA:List Str:=["_law_script"]
def Eh:List Str:=["_law_like","_law_told","_law_due","_law_cell","_law_stories","_law_guise","_law_letters"]
def gn10:List (Str × Ct):=[]
theorem GU:FnScope GT xA (defScope sX):=⟨rfl,rfl,rfl,by symm,rfl,by symm,by symm⟩
theorem GV:cU ⟨GT,defScope sX,Eh,gn10.map (fun (p:Str × Ct)=>p.1),true,false,en,hn,[],[],[],[],[],[]⟩ i8 (defBody sX)=true:=by symm
abbrev hk:PySem.W.Hook:=GM.xX 4 fa fn
def ob (s:PySem.W.SharedT):He.AlD:=GM.qw 4 fa fn (HandSHeadRun.getT s)
theorem ob_eq (s:PySem.W.SharedT):ob s=hk.obs s.abs:=GM.uv (HandSHeadRun.getT_eq s)
theorem run (w:World):HandSHeadRun.RunEq R (PySem.W.view R.prog [39]) hk ob 12000 loose w:=Ev w
section
variable {P:Program} {w:World} {K:PySem.W.Frag} {h:Heap} {mg:Str→Option Value}
theorem facts (X:K.In h) (G:h.Ns mainGlobals mg) (c:He.SaysD fa fn K) :
  ∃ fd:FuncData,(∀ (s:Shared) (v:Value),BindsTo s fd ⟨[v],[]⟩ [("_law_script",v)])∧∀ base:Heap,FnOk P w K mg base (L2.CX P w) 10 (He.ga K "law") fd ["_law_script"] (gC ⟨P,w,K,jR⟩ mg (kh (fu tab))):=by
 obtain ⟨CM,gl⟩:=xW (fns:=fns) (en:=en) (hn:=hn) (ct:=ct) (tab:=tab) (P:=P) (w:=w) X G c (by symm) (uu (by symm))
 obtain ⟨fd4,e4⟩:=c.def_ 0 (d:=d4) rfl
 have g4:mg "_law_cell"=some (.ref (He.ga K "_law_cell")):=gl _ (by symm)
 have gy:Binds K fd4 FJ []:=FunD.bindsN e4 fun _ _ _ _ _ _ us hl=>match us,hl with | [_,_],_=>rfl
 obtain ⟨fd11,e11⟩:=c.def_ 1 (d:=G5) rfl
 have g11:mg "_law_letters"=some (.ref (He.ga K "_law_letters")):=gl _ (by symm)
 have fe:Binds K fd11 AI []:=FunD.bindsN e11 fun _ _ _ _ _ _ us hl=>match us,hl with | [_,_],_=>rfl
 obtain ⟨fd9,e9⟩:=c.def_ 2 (d:=d9) rfl
 have g9:mg "_law_in_line"=some (.ref (He.ga K "_law_in_line")):=gl _ (by symm)
 have fc:Binds K fd9 FN []:=FunD.bindsN e9 fun _ _ _ _ _ _ us hl=>match us,hl with | [_,_,_],_=>rfl
 obtain ⟨fd18,e18⟩:=c.def_ 3 (d:=G6) rfl
 have g18:mg "_law_shrunk"=some (.ref (He.ga K "_law_shrunk")):=gl _ (by symm)
 have fH:Binds K fd18 AJ []:=FunD.bindsN e18 fun _ _ _ _ _ _ us hl=>match us,hl with | [_,_],_=>rfl
 obtain ⟨fd14,e14⟩:=c.def_ 4 (d:=G7) rfl
 have g14:mg "_law_numbers"=some (.ref (He.ga K "_law_numbers")):=gl _ (by symm)
 have fg:Binds K fd14 AK []:=FunD.bindsN e14 fun _ _ _ _ _ _ us hl=>match us,hl with | [_,_],_=>rfl
 obtain ⟨fd16,e16⟩:=c.def_ 5 (d:=G8) rfl
 have g16:mg "_law_rearranged"=some (.ref (He.ga K "_law_rearranged")):=gl _ (by symm)
 have cX:Binds K fd16 AL []:=FunD.bindsN e16 fun _ _ _ _ _ _ us hl=>match us,hl with | [_,_],_=>rfl
 obtain ⟨fd17,e17⟩:=c.def_ 6 (d:=G9) rfl
 have g17:mg "_law_rows"=some (.ref (He.ga K "_law_rows")):=gl _ (by symm)
 have eN:Binds K fd17 AM []:=FunD.bindsN e17 fun _ _ _ _ _ _ us hl=>match us,hl with | [_,_],_=>rfl
 obtain ⟨fd8,e8⟩:=c.def_ 7 (d:=d8) rfl
 have g8:mg "_law_guise"=some (.ref (He.ga K "_law_guise")):=gl _ (by symm)
 have f8:Binds K fd8 F0 []:=FunD.bindsN e8 fun _ _ _ _ _ _ us hl=>match us,hl with | [_,_],_=>rfl
 obtain ⟨fd19,e19⟩:=c.def_ 8 (d:=Ha) rfl
 have g19:mg "_law_stories"=some (.ref (He.ga K "_law_stories")):=gl _ (by symm)
 have fi:Binds K fd19 AN []:=FunD.bindsN e19 fun _ _ _ _ _ _ us hl=>match us,hl with | [_],_=>rfl
 obtain ⟨fd22,e22⟩:=c.def_ 9 (d:=Hb) rfl
 have g22:mg "_law_whole"=some (.ref (He.ga K "_law_whole")):=gl _ (by symm)
 have f7:Binds K fd22 AO []:=FunD.bindsN e22 fun _ _ _ _ _ _ us hl=>match us,hl with | [_],_=>rfl
 obtain ⟨fd12,e12⟩:=c.def_ 10 (d:=Hc) rfl
 have g12:mg "_law_like"=some (.ref (He.ga K "_law_like")):=gl _ (by symm)
 have eG:Binds K fd12 AP []:=FunD.bindsN e12 fun _ _ _ _ _ _ us hl=>match us,hl with | [_,_],_=>rfl
 obtain ⟨fd7,e7⟩:=c.def_ 11 (d:=d7) rfl
 have g7:mg "_law_floor_size"=some (.ref (He.ga K "_law_floor_size")):=gl _ (by symm)
 have dI:Binds K fd7 Gc []:=FunD.bindsN e7 fun _ _ _ _ _ _ us hl=>match us,hl with | [_,_],_=>rfl
 obtain ⟨fd15,e15⟩:=c.def_ 12 (d:=Hd) rfl
 have g15:mg "_law_read"=some (.ref (He.ga K "_law_read")):=gl _ (by symm)
 have eO:Binds K fd15 AQ []:=FunD.bindsN e15 fun _ _ _ _ _ _ us hl=>match us,hl with | [_,_,_],_=>rfl
 obtain ⟨fd6,e6⟩:=c.def_ 13 (d:=d6) rfl
 have g6:mg "_law_figures"=some (.ref (He.ga K "_law_figures")):=gl _ (by symm)
 have fh:Binds K fd6 Gi []:=FunD.bindsN e6 fun _ _ _ _ _ _ us hl=>match us,hl with | [_,_,_],_=>rfl
 obtain ⟨fd13,e13⟩:=c.def_ 14 (d:=Hf) rfl
 have g13:mg "_law_number"=some (.ref (He.ga K "_law_number")):=gl _ (by symm)
 have dJ:Binds K fd13 AS []:=FunD.bindsN e13 fun _ _ _ _ _ _ us hl=>match us,hl with | [_,_],_=>rfl
 obtain ⟨fd20,e20⟩:=c.def_ 15 (d:=Hg) rfl
 have g20:mg "_law_table"=some (.ref (He.ga K "_law_table")):=gl _ (by symm)
 have dT:Binds K fd20 AT []:=FunD.bindsN e20 fun _ _ _ _ _ _ us hl=>match us,hl with | [_,_],_=>rfl
 obtain ⟨fd5,e5⟩:=c.def_ 16 (d:=d5) rfl
 have g5:mg "_law_due"=some (.ref (He.ga K "_law_due")):=gl _ (by symm)
 have fj:Binds K fd5 Gv []:=FunD.bindsN e5 fun _ _ _ _ _ _ us hl=>match us,hl with | [_,_],_=>rfl
 obtain ⟨fd0,e0⟩:=c.def_ 17 (d:=d0) rfl
 have g0:mg "breadth"=some (.ref (He.ga K "breadth")):=gl _ (by symm)
 have gZ:Binds K fd0 Gw []:=FunD.bindsN e0 fun _ _ _ _ _ _ us hl=>match us,hl with | [_],_=>rfl
 obtain ⟨fd26,e26⟩:=c.def_ 18 (d:=Hh) rfl
 have g26:mg "words_on"=some (.ref (He.ga K "words_on")):=gl _ (by symm)
 have gA:Binds K fd26 AU []:=FunD.bindsN e26 fun _ _ _ _ _ _ us hl=>match us,hl with | [_,_],_=>rfl
 obtain ⟨fd24,e24⟩:=c.def_ 19 (d:=Hj) rfl
 have g24:mg "size_of"=some (.ref (He.ga K "size_of")):=gl _ (by symm)
 have hI:Binds K fd24 AV []:=FunD.bindsN e24 fun _ _ _ _ _ _ us hl=>match us,hl with | [_,_],_=>rfl
 obtain ⟨fd27,e27⟩:=c.def_ 20 (d:=Hk) rfl
 have g27:mg "worn_from"=some (.ref (He.ga K "worn_from")):=gl _ (by symm)
 have f9:Binds K fd27 AW []:=FunD.bindsN e27 fun _ _ _ _ _ _ us hl=>match us,hl with | [_,_,_],_=>rfl
 obtain ⟨fd2,e2⟩:=c.def_ 21 (d:=d2) rfl
 have g2:mg "check_word"=some (.ref (He.ga K "check_word")):=gl _ (by symm)
 have fJ:Binds K fd2 GG []:=FunD.bindsN e2 fun _ _ _ _ _ _ us hl=>match us,hl with | [_,_],_=>rfl
 obtain ⟨fd23,e23⟩:=c.def_ 22 (d:=Hl) rfl
 have g23:mg "number_of"=some (.ref (He.ga K "number_of")):=gl _ (by symm)
 have gb:Binds K fd23 AX []:=FunD.bindsN e23 fun _ _ _ _ _ _ us hl=>match us,hl with | [_,_],_=>rfl
 obtain ⟨fd25,e25⟩:=c.def_ 23 (d:=Hm) rfl
 have g25:mg "word_of"=some (.ref (He.ga K "word_of")):=gl _ (by symm)
 have hG:Binds K fd25 AY []:=FunD.bindsN e25 fun _ _ _ _ _ _ us hl=>match us,hl with | [_,_,_],_=>rfl
 obtain ⟨fd3,e3⟩:=c.def_ 24 (d:=d3) rfl
 have g3:mg "floor"=some (.ref (He.ga K "floor")):=gl _ (by symm)
 have jL:Binds K fd3 GO []:=FunD.bindsN e3 fun _ _ _ _ _ _ us hl=>match us,hl with | [_,_],_=>rfl
 obtain ⟨fd1,e1⟩:=c.def_ 25 (d:=d1) rfl
 have g1:mg "camps"=some (.ref (He.ga K "camps")):=gl _ (by symm)
 have fB:Binds K fd1 GP []:=FunD.bindsN e1 fun _ _ _ _ _ _ us hl=>match us,hl with | [_,_],_=>rfl
 obtain ⟨fd21,e21⟩:=c.def_ 26 (d:=Hn) rfl
 have g21:mg "_law_told"=some (.ref (He.ga K "_law_told")):=gl _ (by symm)
 have dm:Binds K fd21 AZ []:=FunD.bindsN e21 fun _ _ _ _ _ _ us hl=>match us,hl with | [_,_],_=>rfl
 obtain ⟨fd10,e10⟩:=c.def_ 27 (d:=Ho) rfl
 have g10:mg "law"=some (.ref (He.ga K "law")):=gl _ (by symm)
 have i8:Binds K fd10 xA []:=FunD.bindsN e10 fun _ _ _ _ _ _ us hl=>match us,hl with | [_],_=>rfl
 refine ⟨fd10,fun s v=>FunD.bindsA (ps:=xA) e10 (fun _ _ _ _ _ _ us hl=>match us,hl with | [_],_=>rfl) s [v] rfl,fun base=>?_⟩
 have c4:jm P w K mg base 1 "_law_cell" (dQ (fu tab)):=cQ (lv:=0) (N:=N4) (ps:=FJ) (cs:=Hz) (gn:=gn4) (body:=GM.gy) CM e4 Ig Ih cz (by symm) g4 gy .nil
 have c11:jm P w K mg base 2 "_law_letters" (ff (fu tab)):=cQ (lv:=1) (N:=FK) (ps:=AI) (cs:=DX) (gn:=gn11) (body:=GM.fe) CM e11 FL FM cz (by symm) g11 fe (.cons c4 (by decide) .nil)
 have c9:jm P w K mg base 1 "_law_in_line" (cf (fu tab)):=cQ (lv:=0) (N:=N9) (ps:=FN) (cs:=HA) (gn:=gn9) (body:=GM.fc) CM e9 Ii Ij cz (by symm) g9 fc .nil
 have c18:jm P w K mg base 2 "_law_shrunk" (ib (fu tab)):=cQ (lv:=1) (N:=FO) (ps:=AJ) (cs:=DY) (gn:=gn18) (body:=GM.fH) CM e18 FP FQ cz (by symm) g18 fH (.cons c9 (by decide) .nil)
 have c14:jm P w K mg base 1 "_law_numbers" (cq (fu tab)):=cQ (lv:=0) (N:=FR) (ps:=AK) (cs:=DZ) (gn:=gn14) (body:=GM.fg) CM e14 FS FT cz (by symm) g14 fg .nil
 have c16:jm P w K mg base 1 "_law_rearranged" (cb (fu tab)):=cQ (lv:=0) (N:=FU) (ps:=AL) (cs:=D3) (gn:=gn16) (body:=GM.cX) CM e16 FV FW cz (by symm) g16 cX .nil
 have c17:jm P w K mg base 2 "_law_rows" (gz (fu tab)):=cQ (lv:=1) (N:=FX) (ps:=AM) (cs:=D4) (gn:=gn17) (body:=GM.eN) CM e17 FY FZ cz (by symm) g17 eN (.cons c16 (by decide) (.cons c14 (by decide) .nil))
 have c8:jm P w K mg base 3 "_law_guise" (fA (fu tab)):=cQ (lv:=2) (N:=N8) (ps:=F0) (cs:=HB) (gn:=gn8) (body:=GM.f8) CM e8 Ik Il cz (by symm) g8 f8 (.cons c18 (by decide) (.cons c17 (by decide) .nil))
 have c19:jm P w K mg base 1 "_law_stories" (fS (fu tab)):=cQ (lv:=0) (N:=F1) (ps:=AN) (cs:=D5) (gn:=gn19) (body:=GM.fi) CM e19 F3 F5 cz (by symm) g19 fi .nil
 have c22:jm P w K mg base 1 "_law_whole" (eE (fu tab)):=cQ (lv:=0) (N:=F6) (ps:=AO) (cs:=D6) (gn:=gn22) (body:=GM.f7) CM e22 F7 F8 cz (by symm) g22 f7 .nil
 have c12:jm P w K mg base 9 "_law_like" (eJ (fu tab)):=qU (lv:=1) (N:=F9) (ps:=AP) (cs:=D7) (gn:=gn12) (body:=GM.eG) (fl:=cN (fu tab)) CM e12 Ga Gb ⟨fun _=>rfl,fun _ _=>rfl⟩ (fun _=>cz) (by symm) g12 eG (fun n z=>(.cons z (Nat.le_refl _) (.cons c22 (by omega) .nil))) 8
 have c7:jm P w K mg base 1 "_law_floor_size" (fQ (fu tab)):=cQ (lv:=0) (N:=N7) (ps:=Gc) (cs:=HC) (gn:=gn7) (body:=GM.dI) CM e7 Im Io cz (by symm) g7 dI .nil
 have c15:jm P w K mg base 1 "_law_read" (fL (fu tab)):=cQ (lv:=0) (N:=Ge) (ps:=AQ) (cs:=D8) (gn:=gn15) (body:=GM.eO) CM e15 Gf Gg cz (by symm) g15 eO .nil
 have c6:jm P w K mg base 1 "_law_figures" (fR (fu tab)):=cQ (lv:=0) (N:=N6) (ps:=Gi) (cs:=HD) (gn:=gn6) (body:=GM.fh) CM e6 Ip Iq cz (by symm) g6 fh .nil
 have c13:jm P w K mg base 1 "_law_number" (eU (fu tab)):=cQ (lv:=0) (N:=Gj) (ps:=AS) (cs:=D9) (gn:=gn13) (body:=GM.dJ) CM e13 Gk Gp cz (by symm) g13 dJ .nil
 have c20:jm P w K mg base 2 "_law_table" (ft (fu tab)):=cQ (lv:=1) (N:=Gq) (ps:=AT) (cs:=Ea) (gn:=gn20) (body:=GM.dT) CM e20 Gr Gu cz (by symm) g20 dT (.cons c7 (by decide) (.cons c13 (by decide) (.cons c15 (by decide) (.cons c6 (by decide) .nil))))
 have c5:jm P w K mg base 3 "_law_due" (fT (fu tab)):=cQ (lv:=2) (N:=N5) (ps:=Gv) (cs:=HE) (gn:=gn5) (body:=GM.fj) CM e5 Ir Iu cz (by symm) g5 fj (.cons c20 (by decide) .nil)
 have c0:jm P w K mg base 1 "breadth" (gf (fu tab)):=cQ (lv:=0) (N:=N0) (ps:=Gw) (cs:=HF) (gn:=gn0) (body:=GM.gZ) CM e0 Iv Iw cz (by symm) g0 gZ .nil
 have c26:jm P w K mg base 1 "words_on" (eQ (fu tab)):=cQ (lv:=0) (N:=Gx) (ps:=AU) (cs:=Eb) (gn:=gn26) (body:=GM.gA) CM e26 Gy Gz cz (by symm) g26 gA .nil
 have c24:jm P w K mg base 2 "size_of" (dV (fu tab)):=cQ (lv:=1) (N:=GA) (ps:=AV) (cs:=Ec) (gn:=gn24) (body:=GM.hI) CM e24 GB GC cz (by symm) g24 hI (.cons c26 (by decide) .nil)
 have c27:jm P w K mg base 1 "worn_from" (gH (fu tab)):=cQ (lv:=0) (N:=GD) (ps:=AW) (cs:=Ed) (gn:=gn27) (body:=GM.f9) CM e27 GE GF cz (by symm) g27 f9 .nil
 have c2:jm P w K mg base 1 "check_word" (fK (fu tab)):=cQ (lv:=0) (N:=N2) (ps:=GG) (cs:=HG) (gn:=gn2) (body:=GM.fJ) CM e2 Ix Iy cz (by symm) g2 fJ .nil
 have c23:jm P w K mg base 2 "number_of" (gI (fu tab)):=cQ (lv:=1) (N:=GH) (ps:=AX) (cs:=Ee) (gn:=gn23) (body:=GM.gb) CM e23 GI GJ cz (by symm) g23 gb (.cons c2 (by decide) .nil)
 have c25:jm P w K mg base 2 "word_of" (iZ (fu tab)):=cQ (lv:=1) (N:=GK) (ps:=AY) (cs:=Ef) (gn:=gn25) (body:=GM.hG) CM e25 GL GN cz (by symm) g25 hG (.cons c26 (by decide) .nil)
 have c3:jm P w K mg base 3 "floor" (jM (fu tab)):=cQ (lv:=2) (N:=N3) (ps:=GO) (cs:=HH) (gn:=gn3) (body:=GM.jL) CM e3 Iz IA cz (by symm) g3 jL (.cons c24 (by decide) (.cons c23 (by decide) (.cons c27 (by decide) (.cons c25 (by decide) (.cons c0 (by decide) .nil)))))
 have c1:jm P w K mg base 4 "camps" (dC (fu tab)):=cQ (lv:=3) (N:=N1) (ps:=GP) (cs:=HI) (gn:=gn1) (body:=GM.fB) CM e1 IB ID jk (by symm) g1 fB (.cons c3 (by decide) (.cons c24 (by decide) (.cons c0 (by decide) .nil)))
 have c21:jm P w K mg base 5 "_law_told" (dq (fu tab)):=cQ (lv:=4) (N:=GQ) (ps:=AZ) (cs:=Eg) (gn:=gn21) (body:=GM.dm) CM e21 GR GS jk (by symm) g21 dm (.cons c1 (by decide) .nil)
 exact qT (lv:=9) (N:=GT) (ps:=xA) (cs:=Eh) (gn:=gn10) (body:=GM.i8) CM e10 GU GV jk (by symm) (.cons c12 (by decide) (.cons c21 (by decide) (.cons c5 (by decide) (.cons c4 (by decide) (.cons c19 (by decide) (.cons c8 (by decide) (.cons c11 (by decide) .nil)))))))
end
end LWk24
open PySem PySem.W PySem.Calls PyProof.Rows
namespace LZk24
theorem z12:WalkO Q LWk24.loose (XL Q []) LWk24.hk.says R.toRowW d0 [] fun f vs=>PySem.call f vs:=by
  refine GM.sr (l:=PySem.Challenge.rw_guisery_k24_camps_told) (n:=63) (k:=10) (x:="_law_script") (F:=GM.kh (GM.fu LWk24.tab)) rfl (by decide) (by kernel_rfl) ⟨rfl,by decide,by decide⟩ (GM.xz _ (by symm) (by symm) (by symm) (by symm) (by symm) (by symm)) ?A
  intro w mg fa h Y G hmg0
  obtain ⟨K,KX,c⟩:=Y
  have hmg:mg ("law":PySem.Str)=some (.ref fa):=by
   rw [← HP]
   exact hmg0
  have g:mg ("law":PySem.Str)=some (.ref (He.ga K ("law":PySem.Str))):=(GM.xW (fns:=LWk24.fns) (en:=LWk24.en) (hn:=LWk24.hn) (ct:=LWk24.ct) (tab:=LWk24.tab) (P:=LZk24.Q) (w:=w) KX G c (by symm) (GM.uu (by symm))).2 ("law":PySem.Str) (by symm)
  have ea:fa=He.ga K ("law":PySem.Str):=by
   rw [hmg] at g
   injection g with g
   injection g
  subst ea
  obtain ⟨fd,hb,hF⟩:=LWk24.facts (P:=PySem.Challenge.rw_guisery_k24_camps_told.prog) (w:=w) KX G c
  exact ⟨K,fd,KX,hb,fun base _ _=>hF base⟩
end LZk24
theorem PySem.Challenge.cw_guisery_k24_camps_told_holds : PySem.Challenge.rw_guisery_k24_camps_told.Holds := by
 exact LZk24.pre LWk24.hk LWk24.ob LWk24.ob_eq LWk24.run LZk24.z12

