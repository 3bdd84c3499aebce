import PyProof.Rows.All
import Wide.All
import OpenK.AllK
import Wide.FinOn
import HandS.Head0
import HandS.Head1
import HandS.Head2
import HandS.HeadEnd
import HandS.HeadHook1
import HandS.HeadHook2
import HandS.HeadHook3
import HandS.Words
import HandS.ExcInit
import HandS.ExcField
import HandS.ForMost
import HandS.ForExc
import HandS.TryMany
import HandS.TupAny
import HandS.TupMul
import HandS.Conv
import HandS.Deep
import HandS.SortInts
import HandS.IsInst
import HandS.Rev
import KE.KDictKeyed
import KE.KeyNested
import HandS.RaiseMore
import HandS.Text
import HandS.More
import HandS.Codes
import KE.GoesEnumKw
import KE.GoesEnum
import HandS.Iter
import HandS.WordsDict
import KE.KDictDisplayH
import HandS.HotCalls
import HandS.ExcIs
import PyProof.StrOps2
import KE.KSortedM
import KE.DatumOrd
import HandS.Call
import HandS.CallSlots
import HandS.Style
import HandS.SetFor
import HandS.Strs
import HandS.TupSets
import KE.OsSorts
import KE.KIndexOf
import HandS.ExcBuiltin
import HandS.Comp
import HandS.Exc
import KE.KAsSuite
import HandS.SetKeys
import HandS.Defaults
import PySem.Challenge.RW_guisery_k26_sections_told
set_option Elab.async false
set_option linter.all false
set_option maxRecDepth 100000
local macro_rules | `(tactic| symm) => `(tactic| decide +kernel)
namespace GM
theorem aa:type_of% @Bool.false_ne_true:=@Bool.false_ne_true
theorem ab:type_of% @Bool.and_eq_true:=@Bool.and_eq_true
theorem ac:type_of% @List.length_map:=@List.length_map
theorem ad:type_of% @Option.some.inj:=@Option.some.inj
theorem ae:type_of% @List.length_append:=@List.length_append
theorem af:type_of% @decide_eq_true_eq:=@decide_eq_true_eq
theorem ah:type_of% @List.getElem?_eq_getElem:=@List.getElem?_eq_getElem
theorem aj:type_of% @List.mem_cons_self:=@List.mem_cons_self
theorem ak:type_of% @List.mem_singleton:=@List.mem_singleton
theorem am:type_of% @List.mem_append_right:=@List.mem_append_right
theorem ao:type_of% @List.mem_cons_of_mem:=@List.mem_cons_of_mem
theorem ap:type_of% @if_pos:=@if_pos
theorem aq:type_of% @List.length_range:=@List.length_range
theorem au:type_of% @List.getElem?_eq_some_iff:=@List.getElem?_eq_some_iff
theorem av:type_of% @if_neg:=@if_neg
theorem aw:type_of% @Bool.not_eq_true':=@Bool.not_eq_true'
theorem ax:type_of% @List.mem_cons:=@List.mem_cons
theorem ay:type_of% @List.getElem?_set_ne:=@List.getElem?_set_ne
theorem az:type_of% @Option.map_eq_some_iff:=@Option.map_eq_some_iff
theorem aA:type_of% @Nat.le_refl:=@Nat.le_refl
theorem aB:type_of% @List.length_cons:=@List.length_cons
theorem aC:type_of% @List.length_singleton:=@List.length_singleton
theorem aD:type_of% @List.getElem?_map:=@List.getElem?_map
theorem aE:type_of% @Bool.and_eq_true_iff:=@Bool.and_eq_true_iff
theorem aF:type_of% @List.mem_range:=@List.mem_range
theorem aG:type_of% @List.map_cons:=@List.map_cons
theorem aH:type_of% @decide_eq_false:=@decide_eq_false
theorem aI:type_of% @decide_eq_true:=@decide_eq_true
theorem aJ:type_of% @List.mem_append_left:=@List.mem_append_left
theorem aK:type_of% @List.contains_iff_mem:=@List.contains_iff_mem
theorem aL:type_of% @List.getElem?_set_self:=@List.getElem?_set_self
theorem aM:type_of% @List.mem_append:=@List.mem_append
theorem aN:type_of% @List.length_set:=@List.length_set
theorem aO:type_of% @List.size_toArray:=@List.size_toArray
theorem aP:type_of% @List.mem_map:=@List.mem_map
theorem aQ:type_of% @List.getElem?_eq_none:=@List.getElem?_eq_none
theorem aR:type_of% @List.all_eq_true:=@List.all_eq_true
theorem aS:type_of% @List.getElem?_append_right:=@List.getElem?_append_right
theorem aT:type_of% @Nat.ne_of_lt:=@Nat.ne_of_lt
theorem aU:type_of% @Option.bind_eq_some_iff:=@Option.bind_eq_some_iff
theorem aV:type_of% @Nat.zero_le:=@Nat.zero_le
theorem aW:type_of% @Array.length_toList:=@Array.length_toList
theorem aX:type_of% @List.append_nil:=@List.append_nil
theorem aY:type_of% @of_decide_eq_true:=@of_decide_eq_true
theorem aZ:type_of% @List.mem_of_getElem?:=@List.mem_of_getElem?
theorem a0:type_of% @Option.isSome_iff_exists:=@Option.isSome_iff_exists
theorem a5:type_of% @List.all_cons:=@List.all_cons
theorem a6:type_of% @Bool.false_eq_true:=@Bool.false_eq_true
theorem a7:type_of% @List.nodup_iff_pairwise_ne:=@List.nodup_iff_pairwise_ne
theorem a8:type_of% @List.eq_nil_of_length_eq_zero:=@List.eq_nil_of_length_eq_zero
theorem a9:type_of% @List.getElem?_append_left:=@List.getElem?_append_left
theorem ba:type_of% @Int.toNat_natCast:=@Int.toNat_natCast
theorem bc:type_of% @List.append_assoc:=@List.append_assoc
theorem be:type_of% @Nat.not_lt_zero:=@Nat.not_lt_zero
theorem bf:type_of% @List.map_append:=@List.map_append
theorem bg:type_of% @Nat.le_add_right:=@Nat.le_add_right
theorem bh:type_of% @Int.eq_ofNat_of_zero_le:=@Int.eq_ofNat_of_zero_le
theorem bj:type_of% @congrArg:=@congrArg
theorem bp:type_of% @beq_eq_false_iff_ne:=@beq_eq_false_iff_ne
theorem bq:type_of% @List.filterMap_cons:=@List.filterMap_cons
theorem br:type_of% @List.mem_map_of_mem:=@List.mem_map_of_mem
theorem bt:type_of% @Nat.eq_zero_or_pos:=@Nat.eq_zero_or_pos
theorem bu:type_of% @decide_eq_decide:=@decide_eq_decide
theorem bv:type_of% @Nat.lt_succ_of_lt:=@Nat.lt_succ_of_lt
theorem bw:type_of% @List.replicate_succ:=@List.replicate_succ
theorem bx:type_of% @List.getElem?_range:=@List.getElem?_range
theorem bz:type_of% @beq_self_eq_true:=@beq_self_eq_true
theorem bA:type_of% @List.getElem_mem:=@List.getElem_mem
theorem bB:type_of% @Array.getElem?_eq_some_iff:=@Array.getElem?_eq_some_iff
theorem bC:type_of% @Bool.or_eq_true:=@Bool.or_eq_true
theorem bD:type_of% @List.map_map:=@List.map_map
theorem bE:type_of% @Nat.lt_or_ge:=@Nat.lt_or_ge
theorem bF:type_of% @Nat.lt_irrefl:=@Nat.lt_irrefl
theorem bG:type_of% @List.cons.inj:=@List.cons.inj
theorem bH:type_of% @Nat.sub_self:=@Nat.sub_self
theorem bI:type_of% @of_decide_eq_false:=@of_decide_eq_false
theorem bJ:type_of% @Option.map_some:=@Option.map_some
theorem bK:type_of% @List.dropLast_eq_take:=@List.dropLast_eq_take
theorem bL:type_of% @Option.some.injEq:=@Option.some.injEq
theorem bM:type_of% @List.nodup_append:=@List.nodup_append
theorem bN:type_of% @List.mem_iff_getElem:=@List.mem_iff_getElem
theorem bO:type_of% @List.not_mem_nil:=@List.not_mem_nil
theorem bP:type_of% @List.find?_cons:=@List.find?_cons
theorem bQ:type_of% @List.nodup_cons:=@List.nodup_cons
theorem bS:type_of% @beq_iff_eq:=@beq_iff_eq
theorem bT:type_of% @Bool.and_false:=@Bool.and_false
theorem bU:type_of% @Bool.false_and:=@Bool.false_and
theorem bV:type_of% @Nat.succ_mul:=@Nat.succ_mul
theorem bW:type_of% @List.any_cons:=@List.any_cons
theorem bX:type_of% @Prod.mk.inj:=@Prod.mk.inj
end GM
local macro_rules | `(#v[]) => `(.nil) | `(#v[$x]) => `(.cons $x .nil) | `(#v[$x,$xs,*]) => `(.cons $x #v[$xs,*])
namespace GM
open PySem PySem.Spec PySem.Calls PyProof.Rows L2
def blts:List Str:=["len","abs","max","min","all","any","sum","sorted","tuple","list","dict","str","int","bool","isinstance","range","enumerate","zip","reversed","set","ValueError"]
inductive Ct where | int (i:Int) | str (z:Str) | tab (kvs:List (Str × Str))
 deriving DecidableEq
def Ct.fa (x:Str):Ct→He.Fa
 | .int i=>.int x i
 | .str z=>.str x z
 | .tab _=>.glo x
def wC (fns en hn:List Str) (ct:List (Str × Ct)) (tab:List ((Str × Str) × Bool)):List He.Fa :=
 fns.map .glo++(en.map .glo++(en.map .exc++(hn.map .glo++(blts.map .free++(ct.map (fun p=>p.2.fa p.1)++tab.map fun p=>.exm p.1.1 p.1.2 p.2)))))
def GD (cl:List Str) (at_ mt:List (Str × Str)) (mk:List Str):List He.Fa :=
 cl.map .cls++(at_.map (fun p=>.noat p.1 p.2)++(mt.map (fun p=>.meth p.1 p.2)++(mk.map .mkr++mk.map .glo)))
abbrev FM:Str:="GuiseError"
def FN (K:PySem.W.Frag) (x:Str):Bool:=match PySem.W.clsIn K (He.ga K x) with
 | some cd=>decide (cd.mro=[.ref (He.ga K x),.ref (He.ga K FM),.type "ValueError",.type "Exception",.type "BaseException",.type "object"])
 | none=>false
def FO (K:PySem.W.Frag) (y:Str):Bool:=decide (PySem.W.subIn K (.ref (He.ga K y)) (.type "BaseException")=some true) && ((PySem.W.clsIn K (He.ga K y)).isSome && decide (PySem.W.typeIn K (.ref (He.ga K y))=some (.type "type")))
def FP (K:PySem.W.Frag) (x:Str):Bool :=
 He.eqO (PySem.W.findIn K (.ref (He.ga K x)) "__getattribute__") (some (some (.builtin "BaseException.__getattribute__"))) && (He.eqO (PySem.W.findIn K (.ref (He.ga K x)) "__getattr__") (some none) &&
 (PySem.W.hasDictIn K (He.ga K x) && He.eqO (PySem.W.findIn K (.ref (He.ga K x)) "__class__") (some (some (.builtin "object.__class__")))))
def E7 (K:PySem.W.Frag):Bool:=He.eqO (PySem.W.specialIn K (.builtin "object.__class__") "__get__") (some (some (.builtin "getset_descriptor.__get__"))) && decide (PySem.W.takesIn K (.builtin "object.__class__")=some true)
def zU (en hn al:List Str) (K:PySem.W.Frag):Bool:=(en.all (FN K) && hn.all (FO K)) && (decide ((al.map (He.ga K)).Nodup) && (en.all (FP K) && E7 K))
abbrev C0:Type:=He.AlD × Bool
def zV (fa:List He.Fa) (fn:List He.DefD) (en hn al:List Str) (K:PySem.W.Frag):C0:=(He.obsD fa fn K,zU en hn al K)
def C1 (g:Addr→Option Obj):Nat→List Addr
 | 0=>[mainGlobals]
 | n+1=>(C1 g n).flatMap fun a=>match g a with
  | some o=>He.refsD o
  | none=>[]
def zW (g:Addr→Option Obj):Nat→List Addr
 | 0=>C1 g 0
 | n+1=>zW g n++C1 g (n+1)
def E8 (n:Nat) (fa:List He.Fa) (fn:List He.DefD) (en hn al:List Str) (g:Addr→Option Obj):C0:=zV fa fn en hn al (He.frG g (zW g n))
def ph (n:Nat) (fa:List He.Fa) (fn:List He.DefD) (g:Addr→Option Obj):He.AlD:=He.obsD fa fn (He.frG g (zW g n))
def C2 (K:PySem.W.Frag) (c:Str):Bool:=He.eqO (PySem.W.findIn K (.ref (He.ga K c)) "__class__") (some (some (.builtin "object.__class__"))) && (E7 K && (decide (PySem.W.mroIn K (He.ga K c) (.type "object")=some true) && decide (PySem.W.kitOne K (.ref (He.ga K c)) (.ref (He.ga K c))=some true)))
abbrev Tb:Type:=Str × List (Str × Str)
def C3 (u:Option (Option Value)) (y:Str):Bool:=match u with
 | some (some (.str z _))=>decide (z=y)
 | _=>false
def C4 (K:PySem.W.Frag) (p:Tb):Bool:=p.2.all fun q=>C3 (PySem.W.nsIn K (He.ga K p.1) q.1) q.2
abbrev CV:Type:=C0 × (Bool × List (Option (List (Option (Str × Int)))))
def zX (fa:List He.Fa) (fn:List He.DefD) (en hn al ic:List Str) (ts:List Tb) (K:PySem.W.Frag):CV:=(zV fa fn en hn al K,(ic.all (C2 K) && ts.all (C4 K),ts.map fun t=>He.dicW K (He.ga K t.1)))
def C5 (fn:List He.DefD) (ts:List Tb) (w:World):CV:=((He.valD fn,true),(true,ts.map fun t=>some (He.keysIn w.params (t.2.map (·.1)))))
def E9 (n:Nat) (fa:List He.Fa) (fn:List He.DefD) (en hn al ic:List Str) (ts:List Tb) (g:Addr→Option Obj):CV:=zX fa fn en hn al ic ts (He.frG g (zW g n))
def C6 (K:PySem.W.Frag) (C:Addr):Bool:=match K.lookup C with
 | some ⟨.type "type",_,.cls cd,sl⟩=>(match cd.mro,sl.toList with
  | .ref C' :: bm,[_,_,_,_,some (.builtin n),_]=>C' == C && n == "ValueError.__new__" && !cd.hasDel && cd.hasDict && PySem.HandSPX.refsVE bm
  | _,_=>false)
 | _=>false
def C7 (K:PySem.W.Frag) (C:Addr) (f:Str) (fI:Addr):Bool:=C6 K C && (decide (PySem.W.findIn K (.ref C) "__setattr__"=some (some (.builtin "object.__setattr__"))) && (decide (PySem.W.subIn K (.ref C) (.type "BaseException")=some true) &&
 (decide (PySem.W.typeIn K (.ref C)=some (.type "type")) && (PySem.W.keepIn K (.ref C) && (xfB K C && (decide (PySem.W.findIn K (.ref C) f=some none) && (decide (PySem.W.findIn K (.ref C) "__init__"=some (some (.ref fI))) && decide (PySem.W.typeIn K (.ref fI)=some (.type "function")))))))))
abbrev C9:Type:=CV × Bool
def Da (fa:List He.Fa) (fn:List He.DefD) (en hn al ic:List Str) (ts:List Tb) (eb:List (Str × Str)) (K:PySem.W.Frag):C9:=(zX fa fn en hn al ic ts K,eb.all fun p=>C7 K (He.ga K p.1) p.2 (He.fAd K (p.1,some "__init__")))
def FQ (fn:List He.DefD) (ts:List Tb) (w:World):C9:=(C5 fn ts w,true)
def Fb (n:Nat) (fa:List He.Fa) (fn:List He.DefD) (en hn al ic:List Str) (ts:List Tb) (eb:List (Str × Str)) (g:Addr→Option Obj):C9:=Da fa fn en hn al ic ts eb (He.frG g (zW g n))
def Fd (st:Stmt) (n:Nat):Stmt:=match st with
 | .ClassDef _ _ _ body _ _ _ _ _ _ _=>body.getD n (.Pass ⟨0,0,0,0⟩)
 | st=>st
open PySem.W in
def Db {α:Type} (r:PySem.W.OpenRow) (q:Program) (ob:PySem.W.SharedT→α) (v:World→α) (M:Nat) (loose:List Str) (w:World):Prop :=
 ∀ os:OsState,(HandSHeadRun.endF (HandSHeadRun.stepQ (HandSHeadRun.denQ HandSHeadRun.tabQ) r.prog w) M r.prog w os).map (fun s=>(HandSHeadRun.looksF r.prog (boot_heap w.params) s.abs,HandSHeadRun.seenQ q loose (importedModules r.prog.main.body) (fun s=>PySem.W.xlAt q [] s && PySem.W.recOk r.toRowW.records s) s.abs,ob s))=some (true,PySem.W.openGood q loose,v w)
end GM

set_option maxHeartbeats 0
namespace LWk26
open PySem PySem.Spec PyProof.Rows L2 GM
def top (i:Nat):Stmt:=PySem.Challenge.pw_guisery_k26_sections_told.main.body.getD i (.Pass ⟨0,0,0,0⟩)
def en:List Str:=["TooMany"]
def hn:List Str:=[]
def ct:List (Str × Ct):=[("MOST_FORM",.int 60)]
def tab:List ((Str × Str) × Bool):=[]
def s6:Stmt:=top 14
def d6:He.DefD:=⟨("_law_in_line",none),"_law_in_line","_law_in_line",defArgs s6,defBody s6,defScope s6,[],[]⟩
def zM:Stmt:=top 15
def Fe:He.DefD:=⟨("_law_shrunk",none),"_law_shrunk","_law_shrunk",defArgs zM,defBody zM,defScope zM,[],[]⟩
def s3:Stmt:=top 18
def d3:He.DefD:=⟨("_law_cell",none),"_law_cell","_law_cell",defArgs s3,defBody s3,defScope s3,[],[]⟩
def s8:Stmt:=top 19
def d8:He.DefD:=⟨("_law_letters",none),"_law_letters","_law_letters",defArgs s8,defBody s8,defScope s8,[],[]⟩
def tX:Stmt:=top 20
def Ff:He.DefD:=⟨("_law_numbers",none),"_law_numbers","_law_numbers",defArgs tX,defBody tX,defScope tX,[],[]⟩
def v6:Stmt:=top 21
def Fg:He.DefD:=⟨("_law_rearranged",none),"_law_rearranged","_law_rearranged",defArgs v6,defBody v6,defScope v6,[],[]⟩
def zN:Stmt:=top 22
def Fh:He.DefD:=⟨("_law_rows",none),"_law_rows","_law_rows",defArgs zN,defBody zN,defScope zN,[],[]⟩
def s5:Stmt:=top 23
def d5:He.DefD:=⟨("_law_guise",none),"_law_guise","_law_guise",defArgs s5,defBody s5,defScope s5,[],[]⟩
def s2:Stmt:=top 24
def d2:He.DefD:=⟨("_law_ample",none),"_law_ample","_law_ample",defArgs s2,defBody s2,defScope s2,[],[]⟩
def tY:Stmt:=top 25
def Fi:He.DefD:=⟨("_law_pairs",none),"_law_pairs","_law_pairs",defArgs tY,defBody tY,defScope tY,[],[]⟩
def zO:Stmt:=top 5
def Fj:He.DefD:=⟨("reached",none),"reached","reached",defArgs zO,defBody zO,defScope zO,[],[]⟩
def zP:Stmt:=top 6
def Fk:He.DefD:=⟨("numbered",none),"numbered","numbered",defArgs zP,defBody zP,defScope zP,[],[]⟩
def zQ:Stmt:=top 7
def Fl:He.DefD:=⟨("marked",none),"marked","marked",defArgs zQ,defBody zQ,defScope zQ,[],[]⟩
def zR:Stmt:=top 8
def Fm:He.DefD:=⟨("least",none),"least","least",defArgs zR,defBody zR,defScope zR,[],[]⟩
def zS:Stmt:=top 10
def Fo:He.DefD:=⟨("sections",none),"sections","sections",defArgs zS,defBody zS,defScope zS,[],[]⟩
def s0:Stmt:=top 11
def d0:He.DefD:=⟨("comes_again",none),"comes_again","comes_again",defArgs s0,defBody s0,defScope s0,[],[]⟩
def s1:Stmt:=top 12
def d1:He.DefD:=⟨("lasting",none),"lasting","lasting",defArgs s1,defBody s1,defScope s1,[],[]⟩
def zT:Stmt:=top 16
def Fp:He.DefD:=⟨("_law_whole",none),"_law_whole","_law_whole",defArgs zT,defBody zT,defScope zT,[],[]⟩
def s9:Stmt:=top 17
def d9:He.DefD:=⟨("_law_like",none),"_law_like","_law_like",defArgs s9,defBody s9,defScope s9,[],[]⟩
def s4:Stmt:=top 26
def d4:He.DefD:=⟨("_law_comes_again",none),"_law_comes_again","_law_comes_again",defArgs s4,defBody s4,defScope s4,[],[]⟩
def v7:Stmt:=top 27
def Fq:He.DefD:=⟨("_law_right",none),"_law_right","_law_right",defArgs v7,defBody v7,defScope v7,[],[]⟩
def s7:Stmt:=top 28
def d7:He.DefD:=⟨("law",none),"law","law",defArgs s7,defBody s7,defScope s7,[],[]⟩
def fn:List He.DefD:=[d6,Fe,d3,d8,Ff,Fg,Fh,d5,d2,Fi,Fj,Fk,Fl,Fm,Fo,d0,d1,Fp,d9,d4,Fq,d7]
def fns:List Str:=(["_law_in_line","_law_shrunk","_law_cell","_law_letters","_law_numbers","_law_rearranged","_law_rows","_law_guise","_law_ample","_law_pairs","reached","numbered","marked","least","sections","comes_again","lasting","_law_whole","_law_like","_law_comes_again"]:List Str)++(["_law_right","law"]:List Str)
def fa:List He.Fa:=wC fns en hn ct tab
def loose:List Str:=(["GuiseError","TooMany","MOST_FORM","reached","numbered","marked","least","sections","comes_again","lasting","_law_in_line","_law_shrunk","_law_whole","_law_like","_law_cell","_law_letters","_law_numbers","_law_rearranged","_law_rows","_law_guise"]:List Str)++(["_law_ample","_law_pairs","_law_comes_again","_law_right"]:List Str)
abbrev R:PySem.W.OpenRow:=PySem.W.OpenLaw.row PySem.Challenge.rw_guisery_k26_sections_told
theorem Dc (w:World):GM.Db R (PySem.W.view R.prog [28]) (fun s=>GM.ph 4 fa fn (HandSHeadRun.getT s)) (fun _=>He.valD fn) 12000 loose w:=by
 intro os
 kernel_rfl
end LWk26
section
open PySem PySem.W PySem.Calls PyProof.Rows
namespace LZk26
abbrev R:OpenRow:=OpenLaw.row PySem.Challenge.rw_guisery_k26_sections_told
abbrev Q:Program:=view R.prog [28]
abbrev d0:DefRec:=HandSHeadRun.topDef R.prog 28
theorem z1:opening R.prog=plainProg R.prog.main.scope.names:=by kernel_rfl
theorem z2:∀ s,fenceModules? R.prog s=some s:=fun s=>by kernel_rfl
theorem z3:defOf Q R.name=some (d0,[]):=by kernel_rfl
theorem z4:R.prog.theDef R.name=some (d0.params,d0.body,d0.scope):=by kernel_rfl
theorem z5:kwWritten? d0.params.kwonlyargs d0.params.kw_defaults=some []:=by kernel_rfl
theorem z6:(!R.writes || R.records.isEmpty)=true:=by rfl
theorem z8:(chainsOk Q && opensWell R.prog && (frees R.toRowW && R.within.isEmpty))=true:=by symm
theorem z9:R.prog.bare:=⟨rfl,rfl,rfl,rfl,rfl,by symm⟩
theorem FR:R.toRowW.promised:=by w_witness2
theorem FS:d0.name=("law":PySem.Str):=by kernel_rfl
theorem pre (hk:PySem.W.Hook) (ob:SharedT→hk.α) (oe:∀ s:SharedT,ob s=hk.obs s.abs) (rn:∀ w,HandSHeadRun.RunEq R Q hk ob 12000 LWk26.loose w) (zz:WalkO Q LWk26.loose (XL Q []) hk.says R.toRowW d0 [] fun f vs=>PySem.call f vs):PySem.Challenge.rw_guisery_k26_sections_told.Holds:=by
 w_on; o_law
 exact HandSHeadRun.head_any (r:=R) (q:=Q) (H:=hk) (ob:=ob) (M:=12000) (loose:=LWk26.loose) (d:=d0) (kwd:=[]) oe
  z1 z2 rn z3 z4 z5 z6 (by first | assumption | symm) z8 z9 FR zz
end LZk26
end
set_option maxHeartbeats 200000

namespace GM
open PySem PySem.Spec PyProof.Rows L2


inductive D where
 | non | bl (b:Bool) | int (i:Int) | str (s:Str)
 | tup (xs:List D) | lst (xs:List D) | arr (xs:List D) | dic (k:Bool) (kvs:List (D × D)) | loc (n:Nat)
 | exc (c:Str) | fdc (kvs:List (D × D)) | cd (kvs:List (Str × Str))
noncomputable instance:DecidableEq D:=fun _ _=>Classical.propDecidable _
instance:Inhabited D:=⟨.non⟩

inductive Tag where | fr | bo | ow | nw
 deriving DecidableEq
structure Sl where
 k:Tag
 d:D
abbrev Lc:=List (Option Sl)

inductive Cell where
 | obj (d:D) | ins (cls:Str) (fs:List (Str × D)) | fz

abbrev cj:=List Cell
noncomputable instance:DecidableEq Cell:=fun _ _=>Classical.propDecidable _

structure Ex where
 cls:Str
 at_:Option D:=none
inductive R (α:Type) where
 | ok (a:α)
 | er (e:Ex) (s:cj) (l:Lc)
 | no
abbrev VT:=D × Tag × cj
def R.bind {α β:Type}:R α→(α→R β)→R β
 | .ok a,f=>f a
 | .er e s l,_=>.er e s l
 | .no,_=>.no


def R.noEr {α:Type}:R α→R α
 | .er _ _ _=>.no
 | r=>r

inductive BOp where | add | sub | mul | fdiv | mod | pow
 deriving DecidableEq
inductive COp where | eq | ne | lt | le | gt | ge | isin | notin | isn | isnn
 deriving DecidableEq
inductive BI where | len | abs | max2 | min2 | maxl | minl | all | any | sum | sorted | tuple | list | dict | str | int
 deriving DecidableEq
inductive MI where | get1 | get2 | index | join | split
 deriving DecidableEq
inductive Ty where | int | str | bool | list | tuple | dict
 deriving DecidableEq

inductive T where
 | n (i:Nat) | nil | cons (a b:T) | t (ts:T)

def T.slots:T→List Nat
 | .n i=>[i]
 | .nil=>[]
 | .cons a b=>T.slots a++T.slots b
 | .t ts=>T.slots ts

inductive X where
 | nil | cons (a b:X)
 | v (i:Nat) | kn | kb (b:Bool) | ki (i:Int) | ks (s:Str) | g (j:Nat)
 | tup (es:X) | lst (es:X) | dic (k:Bool) (ks vs:X)
 | bin (o:BOp) (a b:X) | neg (a:X) | not (a:X) | cmp (o:COp) (a b:X) | chn (o p:COp) (a b c:X)
 | and (es:X) | or (es:X) | ite (c a b:X)
 | ix (a i:X) | sl (a lo hi:X)
 | call (j:Nat) (es:X) | bi (f:BI) (es:X) | isi (a:X) (t:Ty) | mt (m:MI) (o es:X)
 | comp (own:List Nat) (t:T) (it c e:X) | comE (own:List Nat) (t:T) (it:X) (j:Nat) (es:X)
 | tupI (it:X) | lstI (it:X) | trev (a:X) | rsl (a:X) | ssl (a k:X) | sset (a:X) | lset (a:X)
 | calS (j:Nat) (es:X)
 | rm (m:MI) (a b:X) | popk (a k:X)
 | new (a:X) | rdl (f:BI) (a:X) | inl (neg:Bool) (k a:X) | ixl (a k:X) | fld (c f:Str) (a:X) | frz (a:X) | frzs (a:X) | calD (j:Nat) (es:X) | popl (a:X)
 | isc (c:Str) (a:X)
 | kd (a:X) | dis (ps:X) | xis (j:Nat) (a:X) | calX (j:Nat) (a:X) | keys (a:X)
 | mth (c m:Str) (j:Nat) (o es:X) | mk (c:Str) (j:Nat) (es:X)
 | it (a:X) | rng1 (a:X) | rng2 (a b:X) | rng3 (a b c:X) | enum (a:X) (st:Nat) | enumK (a:X) (st:Nat) | zip (a b:X) | items (a:X) | rev (a:X)


structure Fn where
 kp:List Bool
 run:List D→R (D × Tag)
 /-- where it works on the store -/
 runS:List D→cj→R (D × Tag × cj):=fun _ _=>.no


def tZ (ms:Str→Str→Option Bool) (c:Str):Fn:={ kp:=[false],run:=fun ds=>match ds with
 | [.exc nm]=>match ms nm c with
  | some b=>.ok (.bl b,.fr)
  | none=>.no
 | _=>.no }


def gZ {α:Type} (k:Int) (xs:List α):List α:=(sliceRange 0 (xs.length:Int) k).filterMap (xs[·]?)
def iI {α:Type} (xs:List α) (lo hi:Option Int):List α:=(xs.drop (HT.sIx xs.length 0 lo)).take (HT.sIx xs.length xs.length hi - HT.sIx xs.length 0 lo)
noncomputable def D.look (kvs:List (D × D)) (k:D):Option D:=(kvs.find? fun kv=>decide (kv.1=k)).map (·.2)
noncomputable def D.put (kvs:List (D × D)) (k v:D):List (D × D) :=
 if (D.look kvs k).isSome then kvs.map (fun kv=>if kv.1=k then (kv.1,v) else kv) else kvs++[(k,v)]
noncomputable def D.drop (kvs:List (D × D)) (k:D):List (D × D):=kvs.filter fun kv=>decide (kv.1≠k)
def D.sgn (c:Nat):D:=.str ⟨#[c]⟩

def D.items:D→Option (List D)
 | .tup xs=>some xs
 | .lst xs=>some xs
 | .str s=>some (s.cps.toList.map D.sgn)
 | _=>none
mutual
def D.py:D→PyData
 | .non=>.none
 | .bl b=>.bool b
 | .int i=>.int i
 | .str s=>.str s
 | .tup xs=>.tuple (D.pys xs)
 | .lst xs=>.list (D.pys xs)
 | .arr _=>.none
 | .dic _ _=>.none
 | .loc _=>.none
 | .exc _=>.none
 | .fdc _=>.none
 | .cd _=>.none
def D.pys:List D→List PyData
 | []=>[]
 | x :: xs=>D.py x :: D.pys xs
end

mutual
def D.seq:D→Bool
 | .tup xs=>D.seqs xs
 | .lst xs=>D.seqs xs
 | .arr _=>false
 | .dic _ _=>false
 | .loc _=>false
 | .exc _=>false
 | .fdc _=>false
 | .cd _=>false
 | _=>true
def D.seqs:List D→Bool
 | []=>true
 | x :: xs=>D.seq x && D.seqs xs
end

def D.flat:D→Bool
 | .non=>true
 | .bl _=>true
 | .int _=>true
 | .str _=>true
 | _=>false

def D.still:D→Bool
 | .lst _=>false
 | .dic _ _=>false
 | _=>true
def D.eqOk (a b:D):Bool:=a.seq && b.seq && SeqAt.shaped a.py && SeqAt.shaped b.py
def D.eqv (a b:D):Bool:=PyData.eqv a.py b.py
mutual
def D.nk:D→Option NestedKey
 | .non=>some .none
 | .int i=>some (.num i)
 | .str x=>some (.text x)
 | .tup xs=>(D.nks xs).map .tup
 | .bl _=>none
 | .lst _=>none
 | .arr _=>none
 | .dic _ _=>none
 | .loc _=>none
 | .exc _=>none
 | .fdc _=>none
 | .cd _=>none
def D.nks:List D→Option (List NestedKey)
 | []=>some []
 | x :: xs=>(D.nk x).bind fun k=>(D.nks xs).map (k :: ·)
end


def D.tr:Nat→D→Bool
 | _,.int _=>true
 | n+1,.tup xs=>xs.all (D.tr n)
 | _,_=>false
def D.isT:D→Bool
 | .tup _=>true
 | _=>false

def fS (ds:List D) (ks:List NestedKey):Bool:=decide (ds.length < 64) && decide ks.Nodup && ks.all (fun k=>decide (k.depth≤8)) && ds.all fun d=>D.tr 8 d && D.isT d
def D.keyOf:D→Option Key
 | .int i=>some (.inl i)
 | .str x=>some (.inr x)
 | _=>none

def D.isKey (k:Bool) (d:D):Bool :=
 if k=true then match d with
  | .tup xs=>match D.nk (.tup xs) with
   | some n=>decide (n.depth≤8)
   | none=>false
  | _=>false
 else (D.keyOf d).isSome


def dF:List D→Option (List Int)
 | []=>some []
 | .int i :: r=>(dF r).map (i :: ·)
 | _ :: _=>none
def hJ:List D→Option (List Bool)
 | []=>some []
 | .bl i :: r=>(hJ r).map (i :: ·)
 | _ :: _=>none
def fk:List D→Option (List Str)
 | []=>some []
 | .str i :: r=>(fk r).map (i :: ·)
 | _ :: _=>none
def cg (d:D) (s:cj):R VT:=.ok (d,.fr,s)
def dY (d:D) (s:cj):R VT:=.ok (d,.nw,s)

def lE (z:Str) (n:Nat):Str:=⟨(List.replicate n z.cps.toList).flatten.toArray⟩
def BOp.run (o:BOp) (a b:D) (s:cj):R VT :=
 match o,a,b with
 | .add,.int i,.int j=>cg (.int (i+j)) s
 | .add,.str x,.str y=>if x.length+y.length≤sizeLine then cg (.str (x++y)) s else .no
 | .add,.tup xs,.tup ys=>if xs.length+ys.length≤sizeLine then cg (.tup (xs++ys)) s else .no
 | .add,.lst xs,.lst ys=>if xs.length+ys.length≤sizeLine then dY (.lst (xs++ys)) s else .no
 | .sub,.int i,.int j=>cg (.int (i - j)) s
 | .mul,.int i,.int j=>if (-(2 ^ 64) < i∧i < 2 ^ 64)∨(-(2 ^ 64) < j∧j < 2 ^ 64) then cg (.int (i*j)) s else .no
 | .mul,.str z,.int k=>if -(2 ^ 63)≤k∧k < 2 ^ 63∧z.length*k.toNat≤sizeLine then cg (.str (lE z k.toNat)) s else .no
 | .mul,.lst xs,.int k=>if -(2 ^ 63)≤k∧k < 2 ^ 63∧xs.length*k.toNat≤sizeLine then dY (.lst (List.replicate k.toNat xs).flatten) s else .no
 | .mul,.tup xs,.int k=>if -(2 ^ 63)≤k∧k < 2 ^ 63∧xs.length*k.toNat≤sizeLine then cg (.tup (List.replicate k.toNat xs).flatten) s else .no
 | .fdiv,.int i,.int j=>if 0 < j∧j < 1073741824 then cg (.int (i / j)) s else .no
 | .mod,.int i,.int j=>if 0 < j then cg (.int (i % j)) s else .no
 | .pow,.int i,.int j=>if 0≤j∧j≤1000000∧i.natAbs < 2 ^ 64 then cg (.int (i ^ j.toNat)) s else .no
 | _,_,_=>.no

def gQ:List D→Option Bool
 | []=>some false
 | .non :: r=>(gQ r).map fun _=>true
 | .int _ :: r=>gQ r
 | .str _ :: r=>gQ r
 | _ :: _=>none
noncomputable def COp.run (o:COp) (a b:D) (s:cj):R VT :=
 match o,a,b with
 | .lt,.int i,.int j=>cg (.bl (decide (i < j))) s
 | .le,.int i,.int j=>cg (.bl (decide (i≤j))) s
 | .gt,.int i,.int j=>cg (.bl (decide (j < i))) s
 | .ge,.int i,.int j=>cg (.bl (decide (j≤i))) s
 | .isn,x,.non=>cg (.bl (decide (x=.non))) s
 | .isnn,x,.non=>cg (.bl (!decide (x=.non))) s
 | .isn,.bl a,.bl b=>cg (.bl (decide (a=b))) s
 | .eq,x,y=>if D.eqOk x y then cg (.bl (D.eqv x y)) s else .no
 | .ne,x,y=>if D.eqOk x y then cg (.bl (!D.eqv x y)) s else .no
 | .isin,x,.dic k kvs=>if D.isKey k x then cg (.bl (D.look kvs x).isSome) s else .no
 | .notin,x,.dic k kvs=>if D.isKey k x then cg (.bl (!(D.look kvs x).isSome)) s else .no
 | .isin,.str x,.str y=>cg (.bl (!(Builtin.Str.occurrences y x 0 y.length 1).isEmpty)) s
 | .notin,.str x,.str y=>cg (.bl (!(!(Builtin.Str.occurrences y x 0 y.length 1).isEmpty))) s
 | .isin,.str x,.tup ys=>match fk ys with | some zs=>cg (.bl (decide (x∈zs))) s | none=>.no
 | .isin,.non,.tup ys=>match gQ ys with | some b=>cg (.bl b) s | none=>.no
 | .notin,.str x,.tup ys=>match fk ys with | some zs=>cg (.bl (!decide (x∈zs))) s | none=>.no
 | .isin,.str x,.cd kvs=>cg (.bl (kvs.lookup x).isSome) s
 | .notin,.str x,.cd kvs=>cg (.bl (!(kvs.lookup x).isSome)) s
 | .isin,x,.fdc kvs=>if D.isKey false x then cg (.bl (D.look kvs x).isSome) s else .no
 | .notin,x,.fdc kvs=>if D.isKey false x then cg (.bl (!(D.look kvs x).isSome)) s else .no
 | .isin,x,.lst ys=>if D.eqOk x (.lst ys) then cg (.bl (ys.any fun y=>D.eqv y x)) s else .no
 | .notin,x,.lst ys=>if D.eqOk x (.lst ys) then cg (.bl (!ys.any fun y=>D.eqv y x)) s else .no
 | _,_,_=>.no
def iX (a i:D) (s:cj):R VT :=
 match a,i with
 | .tup xs,.int i=>match atI xs i with | some d=>cg d s | none=>.no
 | .lst xs,.int i=>match atI xs i with | some d=>cg d s | none=>.no
 | .arr xs,.int i=>match atI xs i with | some d=>cg d s | none=>.no
 | .str z,.int i=>if z.length≤sizeLine then match atI z.cps.toList i with | some c=>cg (D.sgn c) s | none=>.no else .no
 | _,_=>.no
noncomputable def lF (a i:D) (s:cj):R VT :=
 match a with
 | .dic k kvs=>if D.isKey k i then match D.look kvs i with | some d=>cg d s | none=>.no else .no
 | .fdc kvs=>if D.isKey false i then match D.look kvs i with | some d=>cg d s | none=>.no else .no
 | _=>iX a i s
def rf (a:D) (lo hi:Option Int) (s:cj):R VT :=
 match a with
 | .tup xs=>cg (.tup (iI xs lo hi)) s
 | .lst xs=>dY (.lst (iI xs lo hi)) s
 | .str z=>if z.length≤sizeLine then cg (.str ⟨(iI z.cps.toList lo hi).toArray⟩) s else .no
 | _=>.no
def dH:List Int→Int
 | []=>0
 | [x]=>x
 | x :: r=>max x (dH r)
def gR:List Int→Int
 | []=>0
 | [x]=>x
 | x :: r=>min x (gR r)

def kf:List (D × D)→Option (List Str)
 | []=>some []
 | (.str k,_) :: r=>(kf r).map (k :: ·)
 | _ :: _=>none

open Classical in
noncomputable def BI.run (f:BI) (as:List D) (s:cj):R VT :=
 match f,as with
 | .len,[.tup xs]=>cg (.int xs.length) s
 | .len,[.lst xs]=>cg (.int xs.length) s
 | .len,[.arr xs]=>cg (.int xs.length) s
 | .len,[.dic _ xs]=>cg (.int xs.length) s
 | .len,[.str z]=>if z.length≤sizeLine then cg (.int z.length) s else .no
 | .abs,[.int i]=>cg (.int (if i < 0 then -i else i)) s
 | .max2,[.int i,.int j]=>cg (.int (if j > i then j else i)) s
 | .min2,[.int i,.int j]=>cg (.int (if j < i then j else i)) s
 | .maxl,[.tup xs]=>match dF xs with | some (n :: ns)=>cg (.int (dH (n :: ns))) s | _=>.no
 | .minl,[.tup xs]=>match dF xs with | some (n :: ns)=>cg (.int (gR (n :: ns))) s | _=>.no
 | .maxl,[.lst xs]=>match dF xs with | some (n :: ns)=>cg (.int (dH (n :: ns))) s | _=>.no
 | .minl,[.lst xs]=>match dF xs with | some (n :: ns)=>cg (.int (gR (n :: ns))) s | _=>.no
 | .all,[.lst xs]=>match hJ xs with | some bs=>cg (.bl (bs.all id)) s | none=>.no
 | .any,[.lst xs]=>match hJ xs with | some bs=>cg (.bl (bs.any id)) s | none=>.no
 | .sum,[.lst xs]=>match dF xs with | some ns=>cg (.int ns.sum) s | none=>.no
 | .sorted,[.lst xs]=>match dF xs with
  | some ns=>dY (.lst ((ns.mergeSort fun a b=>decide (a≤b)).map D.int)) s
  | none=>match fk xs with
   | some ks=>if h:ks.length < 64∧∃ ys:List Str,∀ zs:List Str,zs.Perm ks→sortedS zs=true→zs=ys then dY (.lst (h.2.choose.map D.str)) s else .no
   | none=>.no
 | .sorted,[.tup xs]=>match dF xs with | some ns=>dY (.lst ((ns.mergeSort fun a b=>decide (a≤b)).map D.int)) s | none=>.no
 | .sorted,[.dic false ps]=>match kf ps with
  | some ks=>if h:ks.length < 64∧∃ ys:List Str,∀ zs:List Str,zs.Perm ks→sortedS zs=true→zs=ys then dY (.lst (h.2.choose.map D.str)) s else .no
  | none=>match dF (ps.map fun p=>p.1) with
   | some ns=>dY (.lst ((ns.mergeSort fun a b=>decide (a≤b)).map D.int)) s
   | none=>.no
 | .sorted,[.fdc ps]=>match kf ps with
  | some ks=>if h:ks.length < 64∧∃ ys:List Str,∀ zs:List Str,zs.Perm ks→sortedS zs=true→zs=ys then dY (.lst (h.2.choose.map D.str)) s else .no
  | none=>.no
 | .tuple,[.lst xs]=>cg (.tup xs) s
 | .tuple,[.tup xs]=>cg (.tup xs) s
 | .list,[.lst xs]=>dY (.lst xs) s
 | .list,[.tup xs]=>dY (.lst xs) s
 | .dict,[.dic false ps]=>dY (.dic false ps) s
 | .dict,[.fdc ps]=>dY (.dic false ps) s
 | .str,[.int i]=>if i.natAbs.log2 < 1920 then cg (.str (Str.ofString (toString i))) s else .no
 | .str,[.str x]=>cg (.str x) s
 | .int,[.int i]=>cg (.int i) s
 | .int,[.bl b]=>cg (.int (if b then 1 else 0)) s
 | .int,[.str z]=>match intText? z with
  | some i=>if z.length≤640 then cg (.int i) s else .no
  | none=>.no
 | _,_=>.no
noncomputable def MI.run (m:MI) (o:D) (as:List D) (s:cj):R VT :=
 match m,o,as with
 | .get1,.dic k kvs,[x]=>if D.isKey k x then cg ((D.look kvs x).getD .non) s else .no
 | .get1,.fdc kvs,[x]=>if D.isKey false x then cg ((D.look kvs x).getD .non) s else .no
 | .get2,.fdc kvs,[x,y]=>if D.isKey false x then cg ((D.look kvs x).getD y) s else .no
 | .get1,.cd kvs,[.str x]=>cg (((kvs.lookup x).map D.str).getD .non) s
 | .get2,.dic k kvs,[x,y]=>if D.isKey k x then cg ((D.look kvs x).getD y) s else .no
 | .index,.tup xs,[.int k]=>match dF xs with
  | some ns=>if k∈ns then cg (.int (ns.idxOf k:Nat)) s else .no
  | none=>.no
 | .index,.lst xs,[.bl b]=>match hJ xs with
  | some bs=>if b∈bs then cg (.int (bs.idxOf b:Nat)) s else .no
  | none=>.no
 | _,_,_=>.no

def MI.runT (m:MI) (z:Str) (y:D) (s:cj):R VT :=
 match m,y with
 | .join,.lst ys=>match fk ys with
  | some zs=>if (zs.map (·.length)).sum+zs.length*z.length≤16777216 then cg (.str (Txt.join z zs)) s else .no
  | none=>.no
 | .split,.str b=>if (b.length == 0)=false∧z.length+2≤sizeLine∧(Txt.split z b).length≤sizeLine then dY (.lst ((Txt.split z b).map D.str)) s else .no
 | _,_=>.no

def MI.recv (m:MI) (o:D):Bool:=match m,o with
 | .get1,.dic _ _=>true
 | .get1,.cd _=>true
 | .get1,.fdc _=>true
 | .get2,.fdc _=>true
 | .get2,.dic _ _=>true
 | .index,.tup _=>true
 | .index,.lst _=>true
 | _,_=>false
def D.ty:D→Option String
 | .non=>some "NoneType"
 | .bl _=>some "bool"
 | .int _=>some "int"
 | .str _=>some "str"
 | .tup _=>some "tuple"
 | .lst _=>some "list"
 | .dic false _=>some "dict"
 | _=>none
def Ty.nm:Ty→String
 | .int=>"int"
 | .str=>"str"
 | .bool=>"bool"
 | .list=>"list"
 | .tuple=>"tuple"
 | .dict=>"dict"
def Ty.run (t:Ty) (d:D):Option Bool:=d.ty.map fun n=>n == t.nm || (n == "bool" && t.nm == "int")


mutual
def T.put:T→D→Lc→Option Lc
 | .n i,d,l=>some (l.set i (some ⟨.fr,d⟩))
 | .t ts,.tup ds,l=>T.puts ts ds l
 | .t ts,.lst ds,l=>T.puts ts ds l
 | _,_,_=>none
def T.puts:T→List D→Lc→Option Lc
 | .nil,[],l=>some l
 | .cons a b,d :: ds,l=>(T.put a d l).bind fun l'=>T.puts b ds l'
 | _,_,_=>none
end


def cf {α:Type} (r:R VT) (f:D→cj→R α):R α:=r.bind fun (d,t,s)=>if (t=.bo∨t=.ow)∧d.still=false then .no else f d s

def eU (f:Fn) (r:R (List D × cj)) (l:Lc):R VT:=(R.noEr r).bind fun (ds,s1)=>match f.run ds with
 | .ok (d,t)=>.ok (d,t,s1)
 | .er e _ _=>.er e s1 l
 | .no=>.no

def fR {α:Type} (r:R VT) (f:D→cj→R α):R α:=r.bind fun (d,t,s)=>if t=.ow then .no else f d s
def X.isNil:X→Bool
 | .nil=>true
 | _=>false
def de (l:Lc):List Nat→Lc
 | []=>l
 | i :: is=>(de l is).set i none
def k7 (o:Option D) (r:List D):List D:=match o with
 | some d=>d :: r
 | none=>r

def og (ns:List Int):List Int:=ns.eraseDups.mergeSort fun a b=>decide (a≤b)

def cY (body:D→cj→R (Option D × cj)):List D→cj→R (List D × cj)
 | [],s=>.ok ([],s)
 | x :: xs,s=>(body x s).bind fun (o,s1)=>(cY body xs s1).bind fun (r,s2)=>.ok (k7 o r,s2)
def gG (a:Int) (n:Nat):List D:=(List.range n).map fun i=>.int (a+(i:Nat))
def rg (a:Int) (n:Nat):List D:=(List.range n).map fun i=>.int (a - (i:Nat))
def gS (a b:D):D:=.tup [a,b]

def tV (s:cj):D→Option D
 | .loc n=>match s[n]? with
  | some (.obj d)=>some d
  | _=>none
 | _=>none

def oh (s:cj) (c:Str):D→Option (List (Str × D))
 | .loc n=>match s[n]? with
  | some (.ins c' fs)=>if c'=c then some fs else none
  | _=>none
 | _=>none
mutual
def rh (s:cj):D→D
 | .loc n=>match s[n]? with
  | some (.obj d)=>d
  | _=>.loc n
 | .tup xs=>.tup (iY s xs)
 | .lst xs=>.lst (iY s xs)
 | .non=>.non
 | .bl b=>.bl b
 | .int i=>.int i
 | .str z=>.str z
 | .arr xs=>.arr xs
 | .dic k kvs=>.dic k kvs
 | .exc c=>.exc c
 | .fdc kvs=>.fdc kvs
 | .cd kvs=>.cd kvs
def iY (s:cj):List D→List D
 | []=>[]
 | x :: xs=>rh s x :: iY s xs
end


def oi:List D→cj→Option (List D × cj)
 | [],s=>some ([],s)
 | .loc n :: r,s=>match s[n]? with
  | some (.obj (.lst es))=>match oi r (s.set n .fz) with
   | some (ds,s')=>some (.lst es :: ds,s')
   | none=>none
  | _=>none
 | _ :: _,_=>none
mutual
noncomputable def b7 (fs:List Fn) (gs:List D):X→Lc→cj→R VT
 | .v i,l,s=>match l[i]? with
  | some (some ⟨k,d⟩)=>.ok (d,k,s)
  | _=>.no
 | .kn,_,s=>cg .non s
 | .kb b,_,s=>cg (.bl b) s
 | .ki i,_,s=>cg (.int i) s
 | .ks x,_,s=>cg (.str x) s
 | .g j,_,s=>match gs[j]? with | some d=>cg d s | none=>.no
 | .tup es,l,s=>(ju fs gs es l s).bind fun (ds,s1)=>if ds.length≤sizeLine then cg (.tup ds) s1 else .no
 | .lst es,l,s=>(ju fs gs es l s).bind fun (ds,s1)=>if ds.length≤sizeLine then dY (.lst ds) s1 else .no
 | .dic k .nil .nil,_,s=>dY (.dic k []) s
 | .dic k #v[a] #v[b],l,s=>R.noEr (cf (b7 fs gs a l s) fun x s1=>cf (b7 fs gs b l s1) fun y s2=>if D.isKey k x=true then dY (.dic k [(x,y)]) s2 else .no)
 | .bin o a b,l,s=>(b7 fs gs a l s).bind fun (x,_,s1)=>(b7 fs gs b l s1).bind fun (y,_,s2)=>BOp.run o x y s2
 | .neg a,l,s=>(b7 fs gs a l s).bind fun (x,_,s1)=>match x with | .int i=>cg (.int (-i)) s1 | _=>.no
 | .not a,l,s=>(b7 fs gs a l s).bind fun (x,_,s1)=>match x with | .bl i=>cg (.bl (!i)) s1 | _=>.no
 | .cmp o a b,l,s=>(b7 fs gs a l s).bind fun (x,_,s1)=>(b7 fs gs b l s1).bind fun (y,_,s2)=>COp.run o x y s2
 | .chn o p a b c,l,s=>(b7 fs gs a l s).bind fun (x,_,s1)=>(b7 fs gs b l s1).bind fun (y,_,s2)=>(COp.run o x y s2).bind fun (z,_,s3)=>match z with
  | .bl true=>(b7 fs gs c l s3).bind fun (w,_,s4)=>COp.run p y w s4
  | .bl false=>cg (.bl false) s3
  | _=>.no
 | .and es,l,s=>(fA fs gs es l s).bind fun (b,s1)=>cg (.bl b) s1
 | .or es,l,s=>(hU fs gs es l s).bind fun (b,s1)=>cg (.bl b) s1
 | .ite c a b,l,s=>(b7 fs gs c l s).bind fun (x,_,s1)=>match x with | .bl true=>b7 fs gs a l s1 | .bl false=>b7 fs gs b l s1 | _=>.no
 | .ix a i,l,s=>(b7 fs gs a l s).bind fun (x,_,s1)=>(b7 fs gs i l s1).bind fun (y,_,s2)=>lF x y s2
 | .sl a lo hi,l,s=>(b7 fs gs a l s).bind fun (x,_,s1) =>
   (if lo.isNil=true then R.ok (none,s1) else (b7 fs gs lo l s1).bind fun (p,_,s2)=>match p with | .int i=>.ok (some i,s2) | _=>.no).bind fun (p,s2) =>
   (if hi.isNil=true then R.ok (none,s2) else (b7 fs gs hi l s2).bind fun (p,_,s3)=>match p with | .int i=>.ok (some i,s3) | _=>.no).bind fun (q,s3)=>rf x p q s3
 | .call j es,l,s=>match fs[j]? with
  | some f=>(ft fs gs es f.kp l s).bind fun (ds,s1)=>match f.run ds with
   | .ok (d,t)=>.ok (d,t,s1)
   | .er e _ _=>.er e s1 l
   | .no=>.no
  | none=>.no
 | .calS j es,l,s=>match fs[j]? with
  | some f=>(ft fs gs es f.kp l s).bind fun (ds,s1)=>if s1=[] then .no else match f.runS ds s1 with
   | .ok (d,t,c :: s2)=>.ok (d,t,c :: s2)
   | .er e (c :: s2) _=>.er e (c :: s2) l
   | _=>.no
  | none=>.no
 | .new a,l,s=>(b7 fs gs a l s).bind fun (d,t,s1)=>if t=.nw∧s1≠[] then cg (.loc s1.length) (s1++[.obj d]) else .no
 | .rdl f a,l,s=>(b7 fs gs a l s).bind fun (x,_,s1)=>match tV s1 x with
  | some d=>BI.run f [d] s1
  | none=>.no
 | .inl b k a,l,s=>(b7 fs gs k l s).bind fun (y,_,s1)=>(b7 fs gs a l s1).bind fun (x,_,s2)=>match tV s2 x with
  | some d=>COp.run (if b=true then .notin else .isin) y d s2
  | none=>.no
 | .ixl a k,l,s=>(b7 fs gs a l s).bind fun (x,_,s1)=>(b7 fs gs k l s1).bind fun (y,_,s2)=>match tV s2 x with
  | some d=>lF d y s2
  | none=>.no
 | .fld c f a,l,s=>(b7 fs gs a l s).bind fun (x,_,s1)=>match oh s1 c x with
  | some fv=>match fv.lookup f with
   | some d=>cg d s1
   | none=>.no
  | none=>.no
 | .frz a,l,s=>(b7 fs gs a l s).bind fun (x,_,s1)=>match x with
  | .loc n=>match s1[n]? with
   | some (.obj (.dic false kvs))=>cg (.fdc kvs) (s1.set n .fz)
   | some (.obj d)=>cg d (s1.set n .fz)
   | _=>.no
  | _=>.no
 | .frzs a,l,s=>cf (b7 fs gs a l s) fun x s1=>match x with
  | .lst xs=>match oi xs s1 with
   | some (ds,s2)=>cg (.lst ds) s2
   | none=>.no
  | _=>.no
 | .calD j es,l,s=>match fs[j]? with
  | some f=>(ft fs gs es f.kp l s).bind fun (ds,s1)=>match f.run (iY s1 ds) with
   | .ok (d,.fr)=>if d.flat=true then cg d s1 else .no
   | _=>.no
  | none=>.no
 | .isc c a,l,s=>(b7 fs gs a l s).bind fun (x,_,s1)=>match oh s1 c x with
  | some _=>cg (.bl true) s1
  | none=>.no
 | .kd a,l,s=>(b7 fs gs a l s).bind fun (x,t,s1)=>match x,t with
  | .dic false kvs,.nw=>cg (.fdc kvs) s1
  | _,_=>.no
 | .dis ps,l,s=>(qg fs gs ps l s).bind fun (kvs,s1)=>if (kvs.map (·.1)).Nodup∧kvs.length≤15 then dY (.dic false kvs) s1 else .no
 | .xis j a,l,s=>match fs[j]? with
  | some f=>(b7 fs gs a l s).bind fun (x,_,s1)=>match x with
   | .exc nm=>match f.run [.exc nm] with
    | .ok (.bl b,.fr)=>cg (.bl b) s1
    | _=>.no
   | _=>.no
  | none=>.no
 | .calX j a,l,s=>match fs[j]? with
  | some f=>(b7 fs gs a l s).bind fun (x,_,s1)=>match x with
   | .exc nm=>match f.run [.exc nm] with
    | .ok (d,.fr)=>if d.flat=true then cg d s1 else .no
    | _=>.no
   | _=>.no
  | none=>.no
 | .rm m a b,l,s=>(b7 fs gs a l s).bind fun (x,_,s1)=>match x with
  | .str z=>(b7 fs gs b l s1).bind fun (y,_,s2)=>MI.runT m z y s2
  | _=>.no
 | .popk a k,l,s=>(b7 fs gs a l s).bind fun (x,_,s1)=>match x with
  | .loc n=>match s1[n]? with
   | some (.obj (.dic false _))=>(b7 fs gs k l s1).bind fun (y,_,s2)=>match s2[n]? with
    | some (.obj (.dic false kvs))=>if (D.keyOf y).isSome=true then match D.look kvs y with
     | some d=>cg d (s2.set n (.obj (.dic false (D.drop kvs y))))
     | none=>.no
     else .no
    | _=>.no
   | _=>.no
  | _=>.no
 | .popl a,l,s=>(b7 fs gs a l s).bind fun (x,_,s1)=>match x with
  | .loc n=>match s1[n]? with
   | some (.obj (.lst es))=>match es[es.length - 1]? with
    | some d=>cg d (s1.set n (.obj (.lst es.dropLast)))
    | none=>.no
   | _=>.no
  | _=>.no
 | .mth c m j o es,l,s=>(b7 fs gs o l s).bind fun (x,_,s1)=>match oh s1 c x with
  | some fv=>if (fv.lookup m).isSome=true then .no else match fs[j]? with
   | some f=>(ft fs gs es f.kp.tail l s1).bind fun (ds,s2)=>if s2=[] then .no else match f.runS (x :: ds) s2 with
    | .ok (d,t,c :: s3)=>.ok (d,t,c :: s3)
    | .er e (c :: s3) _=>.er e (c :: s3) l
    | _=>.no
   | none=>.no
  | none=>.no
 | .mk c j es,l,s=>match fs[j]? with
  | some f=>(ft fs gs es f.kp.tail l s).bind fun (ds,s1)=>if s1=[] then .no else match f.runS (.loc s1.length :: ds) (s1++[.ins c []]) with
   | .ok (.non,.fr,c :: s2)=>.ok (.loc s1.length,.fr,c :: s2)
   | .er e (c :: s2) _=>.er e (c :: s2) l
   | _=>.no
  | none=>.no
 | .bi f es,l,s=>(ft fs gs es [] l s).bind fun (ds,s1)=>BI.run f ds s1
 | .tupI it,l,s=>(gq fs gs it l s).bind fun (ds,s1)=>if ds.length≤16777216 then cg (.tup ds) s1 else .no
 | .lstI it,l,s=>(gq fs gs it l s).bind fun (ds,s1)=>if ds.length≤16777216 then dY (.lst ds) s1 else .no
 | .trev a,l,s=>(b7 fs gs a l s).bind fun (x,_,s1)=>match x with | .lst ds=>cg (.tup ds.reverse) s1 | _=>.no
 | .rsl a,l,s=>(b7 fs gs a l s).bind fun (x,_,s1)=>match x with | .tup ds=>cg (.tup ds.reverse) s1 | _=>.no
 | .sset a,l,s=>(b7 fs gs a l s).bind fun (x,_,s1)=>match x with
  | .lst ds=>match dF ds with
   | some ns=>if ns.length≤4000 then dY (.lst ((og ns).map D.int)) s1 else .no
   | none=>.no
  | _=>.no
 | .lset a,l,s=>(b7 fs gs a l s).bind fun (x,_,s1)=>match x with
  | .lst ds=>match D.nks ds with
   | some ks=>if fS ds ks=true then cg (.int ds.length) s1 else .no
   | none=>.no
  | _=>.no
 | .ssl a k,l,s=>(b7 fs gs a l s).bind fun (x,_,s1) =>
   (if k.isNil=true then R.ok (none,s1) else (b7 fs gs k l s1).bind fun (p,_,s2)=>match p with | .int i=>.ok (some i,s2) | _=>.no).bind fun (p,s2)=>match x,p with
   | .lst ds,some i=>if 0 < i then dY (.lst (gZ i ds)) s2 else .no
   | _,_=>.no
 | .isi a t,l,s=>(b7 fs gs a l s).bind fun (x,_,s1)=>match Ty.run t x with | some b=>cg (.bl b) s1 | none=>.no
 | .mt m o es,l,s=>(b7 fs gs o l s).bind fun (x,_,s1)=>if MI.recv m x=false then .no else (ju fs gs es l s1).bind fun (ds,s2)=>MI.run m x ds s2
 | .comp own t it c e,l,s=>if (own.all fun i=>match l[i]? with | some (some ⟨.ow,_⟩)=>false | _=>true)=false then .no else (gq fs gs it l s).bind fun (xs,s1) =>
   (R.noEr (cY (fun x s=>match T.put t x (de l own) with
    | none=>.no
    | some l1=>(if c.isNil=true then R.ok (true,s) else (b7 fs gs c l1 s).bind fun (b,_,s2)=>match b with | .bl b=>.ok (b,s2) | _=>.no).bind fun (b,s2) =>
      if b=true then cf (b7 fs gs e l1 s2) (fun d s3=>.ok (some d,s3)) else .ok (none,s2)) xs s1)).bind fun (ds,s2)=>if ds.length≤sizeLine then dY (.lst ds) s2 else .no
 | .comE own t it j es,l,s=>if (own.all fun i=>match l[i]? with | some (some ⟨.ow,_⟩)=>false | _=>true)=false then .no else (gq fs gs it l s).bind fun (xs,s1) =>
   match fs[j]? with
   | none=>.no
   | some f=>if xs.length≤sizeLine then (match cY (fun x s=>match T.put t x (de l own) with
     | none=>.no
     | some l1=>cf (eU f (ft fs gs es f.kp l1 s) l1) (fun d s3=>.ok (some d,s3))) xs s1 with
    | .ok (ds,s2)=>dY (.lst ds) s2
    | .er e s2 _=>.er e s2 l
    | .no=>.no) else .no
 | _,_,_=>.no
noncomputable def fA (fs:List Fn) (gs:List D):X→Lc→cj→R (Bool × cj)
 | .nil,_,s=>.ok (true,s)
 | .cons a b,l,s=>(b7 fs gs a l s).bind fun (x,_,s1)=>match x with | .bl true=>fA fs gs b l s1 | .bl false=>.ok (false,s1) | _=>.no
 | _,_,_=>.no
noncomputable def hU (fs:List Fn) (gs:List D):X→Lc→cj→R (Bool × cj)
 | .nil,_,s=>.ok (false,s)
 | .cons a b,l,s=>(b7 fs gs a l s).bind fun (x,_,s1)=>match x with | .bl false=>hU fs gs b l s1 | .bl true=>.ok (true,s1) | _=>.no
 | _,_,_=>.no
noncomputable def qg (fs:List Fn) (gs:List D):X→Lc→cj→R (List (D × D) × cj)
 | .nil,_,s=>.ok ([],s)
 | .cons (.ks z) (.cons b r),l,s=>R.noEr (cf (b7 fs gs b l s) fun d s1=>(qg fs gs r l s1).bind fun (ds,s2)=>.ok ((.str z,d) :: ds,s2))
 | _,_,_=>.no
noncomputable def ju (fs:List Fn) (gs:List D):X→Lc→cj→R (List D × cj)
 | .nil,_,s=>.ok ([],s)
 | .cons a b,l,s=>cf (b7 fs gs a l s) fun d s1=>(ju fs gs b l s1).bind fun (ds,s2)=>.ok (d :: ds,s2)
 | _,_,_=>.no
noncomputable def ft (fs:List Fn) (gs:List D):X→List Bool→Lc→cj→R (List D × cj)
 | .nil,_,_,s=>.ok ([],s)
 | .cons a b,kp,l,s=>(b7 fs gs a l s).bind fun (d,t,s1)=>if kp.headD false=true∧(t=.bo∨t=.ow)∧d.still=false then .no else (ft fs gs b kp.tail l s1).bind fun (ds,s2)=>.ok (d :: ds,s2)
 | _,_,_,_=>.no
noncomputable def gq (fs:List Fn) (gs:List D):X→Lc→cj→R (List D × cj)
 | .rng1 a,l,s=>(b7 fs gs a l s).bind fun (x,_,s1)=>match x with | .int j=>if -(2 ^ 62)≤j∧j < 2 ^ 62 then .ok (gG 0 j.toNat,s1) else .no | _=>.no
 | .rng2 a b,l,s=>(b7 fs gs a l s).bind fun (x,_,s1)=>(b7 fs gs b l s1).bind fun (y,_,s2)=>match x,y with
  | .int i,.int j=>if -(2 ^ 62)≤i∧i < 2 ^ 62∧-(2 ^ 62)≤j∧j < 2 ^ 62 then .ok (gG i (j - i).toNat,s2) else .no
  | _,_=>.no
 | .rng3 a b c,l,s=>(b7 fs gs a l s).bind fun (x,_,s1)=>(b7 fs gs b l s1).bind fun (y,_,s2)=>(b7 fs gs c l s2).bind fun (z,_,s3)=>match x,y,z with
  | .int i,.int j,.int (-1)=>if -(2 ^ 62)≤i∧i < 2 ^ 62∧-(2 ^ 62)≤j∧j < 2 ^ 62 then .ok (rg i (i - j).toNat,s3) else .no
  | _,_,_=>.no
 | .enum a st,l,s=>fR (b7 fs gs a l s) fun x s1=>match x.items with | some xs=>.ok ((xs.zipIdx st).map fun p=>gS (.int (p.2:Nat)) p.1,s1) | none=>.no
 | .enumK a st,l,s=>fR (b7 fs gs a l s) fun x s1=>match x.items with | some xs=>.ok ((xs.zipIdx st).map fun p=>gS (.int (p.2:Nat)) p.1,s1) | none=>.no
 | .zip a b,l,s=>fR (b7 fs gs a l s) fun x s1=>fR (b7 fs gs b l s1) fun y s2=>match x.items,y.items with
  | some xs,some ys=>.ok ((xs.zip ys).map fun p=>gS p.1 p.2,s2)
  | _,_=>.no
 | .keys a,l,s=>(b7 fs gs a l s).bind fun (x,_,s1)=>match x with | .fdc kvs=>.ok (kvs.map (·.1),s1) | _=>.no
 | .items a,l,s=>(b7 fs gs a l s).bind fun (x,_,s1)=>match x with | .fdc kvs=>.ok (kvs.map fun p=>gS p.1 p.2,s1) | _=>.no
 | .it a,l,s=>fR (b7 fs gs a l s) fun x s1=>match x.items with | some xs=>.ok (xs,s1) | none=>.no
 | _,_,_=>.no
end

example (fs:List Fn) (gs:List D) (l:Lc) (s:cj):b7 fs gs (.bin .add (.ki 3) (.ki 4)) l s=cg (.int 7) s:=rfl

def TuF (H:Hp) (a:Addr) (vs:List V):Prop:=∃ o:Obj,o.dict=none∧H a=some (.frz o (.tup vs))
theorem TuF.sq {K:PySem.W.Frag} {H:Hp} {a:Addr} {vs:List V}:TuF H a vs→SqT K H a vs:=fun ⟨o,_,h⟩=>.inl (.inr ⟨o,h⟩)
theorem TuF.mono {H H':Hp} {a:Addr} {vs:List V} (e:Same H H'):TuF H a vs→TuF H' a vs:=fun ⟨o,d,h⟩=>⟨o,d,e _ _ h⟩
theorem TuF.new {H:Hp} {p:Addr} {ob:Obj} {vs:List V} (hd:ob.dict=none):TuF (upd H p (.frz ob (.tup vs))) p vs:=⟨ob,hd,upd_same⟩

def NT (H:Hp) (xs:List V) (Q:VK):Prop:=∀ p ob,H p=none→ob.dict=none→Q (.ref p) (upd H p (.frz ob (.tup xs)))
section
variable {X:Cx} {pins:List (Addr × Obj)} {σ:L2.St} {H:Hp} {s:Shared} {Q:VK} {e:Expr} {es:List Expr} {te:TE} {p pos:Pos}
theorem iZ {xs:List V} {its:List Value} (I:Inv X pins σ H s) (r:Vals xs its) (z:xs.length≤sizeLine) (q:NT H xs Q) :
  EP X pins σ Q (.ref s.heap.objs.size) { s with heap:=s.heap.push { cls:=.type "tuple",data:=.seq its.toArray } } :=
 ⟨.ref s.heap.objs.size,_,I.laid (t':=s.toks) (o:=.frz { cls:=.type "tuple",data:=.seq its.toArray } (.tup xs)) (fun _ _ w=>Heap.get?_push_of_some _ w) (aA _)
  ⟨Heap.get?_push_size _ rfl,z,its,r,IsTup.new _ _⟩,rfl,q _ _ (I.hok.fresh (aA _)) rfl⟩
def zY (t:TA):TE:=fun σ H Q=>t σ H fun xs H1=>xs.length≤sizeLine∧NT H1 xs Q
theorem t4 {t:TA} {k:Nat} (h:PA X es t):PE X (.Tuple es k pos) (zY t) :=
 ⟨fun pins s σ H Q I hq=>wpAny_Tuple_spliced (thn (h.run pos pins s σ H _ I hq) fun us s1 ⟨xs,H1,I1,r,z,q⟩=>⟨by rw [← r.length]; exact z,iZ I1 r z q⟩)⟩

def v8 (K:PySem.W.Frag) (x:V) (H:Hp) (Q:VK):Prop:=(∃ p xs,x=.ref p∧SqL K H p xs∧NT H xs Q)∨(∃ p xs,x=.ref p∧SqT K H p xs∧Q (.ref p) H)
theorem t6 {x:V} {v:Value} (I:Inv X pins σ H s) (r:RelV x v) (h:v8 X.K x H Q):wpAny (model X.prog X.w) X.A (call (.type "tuple") [v]) (EP X pins σ Q) X.xe s:=by
 rcases h with ⟨a,xs,rfl,hs,q⟩ | ⟨a,xs,rfl,hs,q⟩
 ·cases r
  obtain ⟨its,rv,pl,hz⟩:=I.list hs
  exact call_tuple_list pl.isList (fun h' hk=>iZ (I.kept (t':=s.toks) hk) rv hz q) (by rw [aO,← rv.length]; exact hz)
 ·cases r
  obtain ⟨its,rv,pl,hz⟩:=I.tuple hs
  exact call_tuple_tup pl ⟨.ref a,H,I,rfl,q⟩

def t7 (te:L2.St→Hp→(Int→Int→Hp→Prop)→Prop):TE:=fun σ H Q=>te σ H fun a b H1=>RgOk a b∧NT H1 (rgV a b) Q
theorem qh {te:L2.St→Hp→(Int→Int→Hp→Prop)→Prop} (hc:X.calm=true) (hg:Gl X "tuple") (hm:X.mg "tuple"=none) (he:PRg X e te) (na:starEach [e] X.env=(false,eval e X.env) :: starEach [] X.env) :
  PE X (.Call (.Name "tuple" p) [e] [] pos) (t7 te):=by
 refine ⟨fun pins s σ H Q I h=>Call_ (ld_blt I hg hm boot_tuple (PyProof.Rows.callWith_type1 (args_cons (thn (he pins s σ H _ I h) ?_) na) na))⟩
 rintro x s1 ⟨r,a,b,t,u,v,H1,rfl,hr,I1,⟨b1,b2,b3,b4,b5⟩,q⟩
 refine args_nil (call_tuple_range (n:=(b - a).toNat) (I1.ok.hd hc) hr (small_one b1 b2 b3 b4) (rangeSize_nat a b) b5 fun h' tk acc hk hi=>?_)
 have I2:Inv X pins σ H1 { s1 with heap:=h',toks:=tk }:=I1.kept hk
 have hl:(rgV a b).length≤sizeLine:=by
  rw [rgV_length,sizeLine_eq]
  omega
 have z:=iZ I2 (vals_rg hi) hl q
 simpa using z

def zZ (K:PySem.W.Frag):V→Option Int→Option Int→Hp→VK→Prop:=fun x lo hi H Q=>∃ a xs,x=.ref a∧SqT K H a xs ∧
 (HT.sIx xs.length 0 lo=0∧HT.sIx xs.length xs.length hi=xs.length→Q (.ref a) H)∧(¬ (HT.sIx xs.length 0 lo=0∧HT.sIx xs.length xs.length hi=xs.length)→NT H (cutV xs lo hi) Q)
theorem sl_tupX:L2.SlR X (zZ X.K):=by
 rintro pins s σ H x v vl vu lo hi sl Q I rx hs pl pu ⟨a,xs,rfl,hx,q1,q2⟩
 cases rx
 obtain ⟨its,r,ht,hz⟩:=I.tuple hx
 have hn:its.toArray.size=xs.length:=by rw [aO,r.length]
 refine ⟨"tuple",_,PyProof.Rows.slot_tuple_getitem.lookup,ht.typeIs,?_⟩
 by_cases hw:HT.sIx xs.length 0 lo=0∧HT.sIx xs.length xs.length hi=xs.length
 ·exact getItem_tuple_whole ht hs pl pu (by rw [hn]; exact hw) ⟨.ref a,H,I,rfl,q1 hw⟩
 ·refine HT.getItem_tuple_cut ht hs pl pu (by rw [hn]; exact hw) ?_ (by rw [hn]; exact hz)
  rw [hn]
  exact iZ I ((r.drop (HT.sIx xs.length 0 lo)).take (HT.sIx xs.length xs.length hi - HT.sIx xs.length 0 lo)) (Nat.le_trans (cutV_length xs lo hi) hz) (q2 hw)

def v9 (K:PySem.W.Frag):R2:=fun x y H Q=>∃ a b xs ys,x=.ref a∧y=.ref b∧SqT K H a xs∧SqT K H b ys∧xs.length+ys.length≤sizeLine ∧
 (xs=[]→Q (.ref b) H)∧(xs≠[]→ys=[]→Q (.ref a) H)∧(xs≠[]→ys≠[]→NT H (xs++ys) Q)
theorem op_catX:OpR X (binaryOp .Add) (v9 X.K):=by
 rintro pins s σ H x y v u Q I rx ry ⟨a,b,xs,ys,rfl,rfl,ha,hb,hz,q0,q1,q2⟩
 cases rx
 cases ry
 obtain ⟨its,r1,p1,_⟩:=I.tuple ha
 obtain ⟨jts,r2,p2,_⟩:=I.tuple hb
 by_cases hx:xs=[]
 ·subst hx
  cases r1
  exact cat_tup0 p1 p2 ⟨.ref b,H,I,rfl,q0 rfl⟩
 ·refine HT.cat_tup p1 p2 (fun z=>hx (r1.nil_iff.mp z)) (fun z=>⟨.ref a,H,I,rfl,q1 hx (r2.nil_iff.mp z)⟩) (fun z=>?_) (by rw [← r1.length,← r2.length]; exact hz)
  exact iZ I (r1.append r2) (by rw [ae]; exact hz) (q2 hx fun w=>z (r2.nil_iff.mpr w))

def rj (K:PySem.W.Frag) (te:TE):TE:=fun σ H Q=>te σ H fun v H1=>∃ (a:Addr) (xs:List V),v=.ref a∧SqL K H1 a xs∧NT H1 xs.reverse Q
theorem om {p2 pos2:Pos} (hc:X.calm=true) (hg:Gl X "tuple") (hm:X.mg "tuple"=none) (hg2:Gl X "reversed") (hm2:X.mg "reversed"=none) (he:PE X e te)
  (hs:starEach [e] X.env=(false,eval e X.env) :: starEach [] X.env) :
  PE X (.Call (.Name "tuple" p) [.Call (.Name "reversed" p2) [e] [] pos2] [] pos) (rj X.K te):=by
 have hs2:starEach [.Call (.Name "reversed" p2) [e] [] pos2] X.env=(false,eval (.Call (.Name "reversed" p2) [e] [] pos2) X.env) :: starEach [] X.env:=rfl
 refine ⟨fun pins s σ H Q I h=>Call_ (ld_blt I hg hm boot_tuple (PyProof.Rows.callWith_type1 (args_cons (Call_ (ld_blt I hg2 hm2 PyProof.Rows.boot_reversed (PyProof.Rows.callWith_type1 (args_cons (thn (he.run pins s σ H _ I h) ?_) hs) hs rfl))) hs2) hs2 rfl))⟩
 rintro u s1 ⟨v,H1,I1,r1,a,xs,rfl,hq,q⟩
 cases r1
 obtain ⟨its,rv,pl,hz⟩:=I1.list hq
 refine args_nil (call_reversed_list pl.isList (args_nil ?_))
 have hl:=pl.isList
 have hn:s1.heap.objs.size≠a:=by
  obtain ⟨ol,hol,_⟩:=id hl
  exact (aT (Heap.lt_size hol)).symm
 have I2:Inv X pins σ H1 { s1 with heap:=s1.heap.push (revObj a ((its.toArray.size:Int) - 1)) }:=I1.kept (t':=s1.toks) fun _ _ w=>Heap.get?_push_of_some _ w
 obtain ⟨f0,f1,f2,f3,f4,f5⟩:=I1.fpOk (H':=H1) (b:=s1.heap.objs.size) (aA _) (I1.hok.fresh (aA _))
 refine RT.call_tuple_rev (s:={ s1 with heap:=s1.heap.push (revObj a ((its.toArray.size:Int) - 1)) }) (I1.ok.hd hc) ⟨_,Heap.get?_push_size _ rfl,rfl,rfl⟩ (hl.push _) hn.symm (by rw [aO,← rv.length]; exact hz) fun h' tk acc hk hi=>?_
 have I3:Inv X pins σ H1 { s1 with heap:=h',toks:=tk }:=I2.turned (t':=tk) (fun c o hc w=>hk c o hc w) f0 f1 f3 f4 f5
 have z:=iZ I3 (RT.vals_rev rv hi) (by rw [List.length_reverse]; exact hz) q
 simpa using z
end

inductive Dw | lst (a:Addr) | tup (a:Addr) | str (x:Str)
def Dw.on (K:PySem.W.Frag) (H:Hp):Dw→List V→Prop
 | .lst a,xs=>SqL K H a xs
 | .tup a,xs=>SqT K H a xs
 | .str x,xs=>xs=x.cps.toList.map fun c=>V.str ⟨#[c]⟩

def Dw.iter (h:Heap) (it:Addr) (i:Nat):Dw→Prop
 | .lst a=>h.IsListIter it a i∧a≠it
 | .tup a=>h.IsTupleIter it a i∧a≠it
 | .str x=>∃ t,h.IsStrIter it (strIterType x) x t i
def Dw.src:Dw→List Addr
 | .lst a=>[a]
 | .tup a=>[a]
 | .str _=>[]
def Dw.val:Dw→V
 | .lst a=>.ref a
 | .tup a=>.ref a
 | .str x=>.str x
theorem Dw.inj {X:Cx} {pins:List (Addr × Obj)} {σ:L2.St} {H:Hp} {s:Shared} (I:Inv X pins σ H s) {d:Dw} {xs ys:List V} (h:d.on X.K H xs) (h':d.on X.K H ys):xs=ys:=by
 cases d with
 | lst a=>exact I.list_inj h h'
 | tup a=>exact I.tuple_inj h h'
 | str x=>exact h.trans h'.symm
theorem Dw.keep {h h':Heap} {it:Addr} {i:Nat} {d:Dw} (k:∀ o,h.get? it=some o→h'.get? it=some o) (q:d.iter h it i):d.iter h' it i:=by
 cases d with
 | lst a=>exact ⟨q.1.at k,q.2⟩
 | tup a=>exact ⟨q.1.at k,q.2⟩
 | str x=>exact let ⟨t,o,e,r⟩:=q; ⟨t,o,k o e,r⟩
theorem rq (x:Str) (t:Nat→Tok):∀ (j:Nat) (v:Value),(∃ c u,x.cps[j]?=some c∧v=.str ⟨#[c]⟩ u)→∃ y,(x.cps.toList.map fun c=>V.str ⟨#[c]⟩)[j]?=some y∧RelV y v:=fun j v ⟨c,u,h,e⟩ =>
 ⟨.str ⟨#[c]⟩,by rw [aD,Array.getElem?_toList,h]; rfl,u,e⟩

theorem Dw.draws {X:Cx} {pins:List (Addr × Obj)} {σ:L2.St} {H:Hp} {s:Shared} (I:Inv X pins σ H s) (hh:X.A.handled=none) {d:Dw} {xs:List V} {it:Addr} {i:Nat} (h:d.on X.K H xs) (q:d.iter s.heap it i) :
  ∃ (P:Nat→Value→Prop) (St:Nat→Heap→Prop),Draws X.prog X.w X.A.in1 it (it :: d.src) xs.length P St∧St i s.heap∧(∀ j v,P j v→∃ y,xs[j]?=some y∧RelV y v)∧(∀ j h,St j h→d.iter h it j) ∧
   (∀ a∈d.src,∃ o,s.heap.get? a=some o∧(o.cls=.type "list"∨o.cls=.type "tuple")):=by
 cases d with
 | lst a =>
  obtain ⟨its,rv,p,hz⟩:=I.list h
  have D:=Draws.list (prog:=X.prog) (w:=X.w) (A:=X.A.in1) hh it a q.2 its.toArray
  rw [aO,← rv.length] at D
  refine ⟨_,_,D,⟨q.1,p.isList⟩,fun j v e=>?_,fun j h st=>⟨st.1,q.2⟩,fun b e=>?_⟩
  ·have e:its.toArray[j]?=some v:=e
   rw [List.getElem?_toArray] at e
   have hj:j < xs.length:=by
    rw [rv.length]
    exact (au.mp e).1
   obtain ⟨u,h1,h2⟩:=rv.get (ah hj)
   rw [e] at h1
   cases h1
   exact ⟨_,ah hj,h2⟩
  ·rw [ak.mp e]
   obtain ⟨o,n,e,c,_⟩:=p
   exact ⟨o,e,.inl c⟩
 | tup a =>
  obtain ⟨its,rv,p,hz⟩:=I.tuple h
  have D:=Draws.tuple (prog:=X.prog) (w:=X.w) (A:=X.A.in1) hh it a q.2 its.toArray
  rw [aO,← rv.length] at D
  refine ⟨_,_,D,⟨q.1,p⟩,fun j v e=>?_,fun j h st=>⟨st.1,q.2⟩,fun b e=>?_⟩
  ·have e:its.toArray[j]?=some v:=e
   rw [List.getElem?_toArray] at e
   have hj:j < xs.length:=by
    rw [rv.length]
    exact (au.mp e).1
   obtain ⟨u,h1,h2⟩:=rv.get (ah hj)
   rw [e] at h1
   cases h1
   exact ⟨_,ah hj,h2⟩
  ·rw [ak.mp e]
   obtain ⟨o,e,c,_⟩:=p
   exact ⟨o,e,.inr c⟩
 | str x =>
  obtain ⟨t,q⟩:=q
  have D:=Draws.text (prog:=X.prog) (w:=X.w) (A:=X.A.in1) hh it x t
  have e:xs=x.cps.toList.map fun c=>V.str ⟨#[c]⟩:=h
  subst e
  have el:(x.cps.toList.map fun c=>V.str ⟨#[c]⟩).length=x.cps.size:=by rw [ac,aW]
  rw [← el] at D
  exact ⟨_,_,D,q,fun j v e=>rq x (fun _=>0) j v e,fun j h st=>⟨t,st⟩,fun b e=>by cases e⟩
theorem Dw.obj {h:Heap} {it:Addr} {i:Nat} {d:Dw} (q:d.iter h it i):∃ o,h.get? it=some o∧∀ v,o.data≠.cell v:=by
 cases d with
 | lst a =>
  obtain ⟨⟨o,ho,hc,hd⟩,_⟩:=q
  exact ⟨o,ho,fun v z=>by rw [hd] at z; cases z⟩
 | tup a =>
  obtain ⟨⟨o,ho,hc,hd⟩,_⟩:=q
  exact ⟨o,ho,fun v z=>by rw [hd] at z; cases z⟩
 | str x =>
  obtain ⟨t,o,ho,hc,hd⟩:=q
  exact ⟨o,ho,fun v z=>by rw [hd] at z; cases z⟩

theorem Dw.begins {X:Cx} {pins:List (Addr × Obj)} {σ:L2.St} {H:Hp} {s:Shared} {u:Value} (I:Inv X pins σ H s) {d:Dw} {xs:List V} (h:d.on X.K H xs) (r:RelV d.val u) :
  ∃ (o:Obj) (hB:Heap→Prop),Begins u o hB∧hB s.heap∧(∀ a∈d.src,a < s.heap.objs.size)∧∀ (h':Heap) (it:Addr),s.heap.objs.size≤it→h'.get? it=some o→d.iter h' it 0:=by
 cases d with
 | lst a =>
  cases r
  obtain ⟨its,rv,p,hz⟩:=I.list h
  refine ⟨_,_,begins_list a its.toArray,p.isList,fun b hb=>?_,fun h' it hi e=>⟨⟨_,e,rfl,rfl⟩,?_⟩⟩
  ·rw [ak.mp hb]
   exact p.lt
  ·exact aT (Nat.lt_of_lt_of_le p.lt hi)
 | tup a =>
  cases r
  obtain ⟨its,rv,p,hz⟩:=I.tuple h
  refine ⟨_,_,begins_tuple a its.toArray,p,fun b hb=>?_,fun h' it hi e=>⟨⟨_,e,rfl,rfl⟩,?_⟩⟩
  ·rw [ak.mp hb]
   exact p.lt
  ·exact aT (Nat.lt_of_lt_of_le p.lt hi)
 | str x =>
  obtain ⟨t,rfl⟩:=r
  exact ⟨_,_,begins_text x t,trivial,(fun b hb=>nomatch hb),fun h' it hi e=>⟨t,_,e,rfl,rfl⟩⟩

def t8 (K:PySem.W.Frag) (d:Dw) (k:Nat):It :=
 ⟨fun i H=>∃ xs x,d.on K H xs∧xs[i]?=some x,
  fun i H v H'=>∃ T ob x,v=V.ref T∧H T=none∧ob.dict=none∧H'=upd H T (.frz ob (.tup [.int ((k+i:Nat):Int),x]))∧∀ xs,d.on K H xs→xs[i]?=some x,
  fun i H=>∃ xs,d.on K H xs∧xs.length=i⟩
theorem kg {P:Program} {w:World} {K:PySem.W.Frag} {elts:List Expr} {kk:Nat} {tpos:Pos} (d:Dw) (k:Nat) (e it:Addr) :
  Turn P w K (.Tuple elts kk tpos) (t8 K d k) [e,it] e (fun i h=>(∃ old,IsEnum h e it ((k+i:Nat):Int) old)∧d.iter h it i∧e≠it) where
 mem:=by simp
 obj:=fun i h st b hb=>by
  obtain ⟨⟨old,he⟩,hi,_⟩:=st
  rcases ax.mp hb with rfl | hb
  ·exact ⟨_,he,fun v q=>nomatch q⟩
  ·rw [ak.mp hb]
   exact Dw.obj hi
 keep:=fun i h h' st kp=>⟨st.1.imp fun old he=>kp e (by simp) _ he,Dw.keep (fun o q=>kp it (by simp) o q) st.2.1,st.2.2⟩
 item:=by
  intro X hP hw hK hc i pins s σ H E I hf st hg
  subst hP hw hK
  obtain ⟨⟨old,he⟩,hi,hne⟩:=st
  obtain ⟨xs,x,hq,hx⟩:=hg
  obtain ⟨P,St,D,st,pP,pS,src⟩:=Dw.draws I (I.ok.hd hc) hq hi
  have hel:e < s.heap.objs.size:=Heap.lt_size he
  have hil:it < s.heap.objs.size:=let ⟨_,q,_⟩:=Dw.obj hi; Heap.lt_size q
  have hef:e∉it :: d.src:=fun z=>by
   rcases ax.mp z with z | z
   ·exact hne z
   ·obtain ⟨o,h1,h2⟩:=src e z
    rw [show s.heap.get? e=_ from he] at h1
    cases h1
    rcases h2 with h2 | h2
    ·exact absurd (show Value.type "enumerate"=Value.type "list" from h2) (by decide)
    ·exact absurd (show Value.type "enumerate"=Value.type "tuple" from h2) (by decide)
  refine wpAny_pyNext_enum_itemC D he st (au.mp hx).1 hne hef fun y h' tk hy ho st' hT hsz hk=>⟨_,rfl,wpAny_letOwnedTupleGo_enum (s:={ s with heap:=h',toks:=tk+1 }) ho fun h2 he' sb=>?_⟩
  obtain ⟨y',h1,ry⟩:=pP i y hy
  rw [hx] at h1
  cases h1
  have hT2:=(sb.2 _ (Nat.ne_of_gt hel)).trans hT
  have new:ObjOk X.prog X.w (upd H s.heap.objs.size (.frz { cls:=.type "tuple",data:=.seq #[.int ((k+i:Nat):Int) tk,y] } (.tup [.int ((k+i:Nat):Int),x]))) h2 s.heap.objs.size (.frz { cls:=.type "tuple",data:=.seq #[.int ((k+i:Nat):Int) tk,y] } (.tup [.int ((k+i:Nat):Int),x])) :=
   ⟨hT2,(by decide:2≤sizeLine),[_,y],.cons ⟨_,rfl⟩ #v[ry],⟨_,hT2,rfl,_,rfl⟩⟩
  have I1:=I.turnedNew (t':=tk+1) (ch:=[e,it]) (fun b ob hb q=>by
   have b1:b≠e:=fun z=>hb (by simp [z])
   have b2:b≠it:=fun z=>hb (by simp [z])
   exact (sb.2 b b1).trans (hk b ob b1 b2 q)) hf (aA _) new
  refine ⟨.ref s.heap.objs.size,_,I1,rfl,⟨_,_,x,rfl,I.hok.fresh (aA _),rfl,rfl,fun ys hy=>by rw [Dw.inj I hy hq]; exact hx⟩,⟨⟨y,?_⟩,Dw.keep (fun o q=>(sb.2 it (Ne.symm hne)).trans q) (pS _ _ st'),hne⟩,fun b hb=>?_⟩
  ·have z:((k+(i+1):Nat):Int)=((k+i:Nat):Int)+1:=by omega
   rw [z]
   exact he'
  ·rw [upd_ne,(hf b hb).1]
   rcases ax.mp hb with rfl | hb
   ·exact aT hel
   ·rw [ak.mp hb]
    exact aT hil
 done:=by
  intro X hP hw hK hc i pins s σ H E I hf st hg
  subst hP hw hK
  obtain ⟨⟨old,he⟩,hi,hne⟩:=st
  obtain ⟨xs,hq,hx⟩:=hg
  obtain ⟨P,St,D,st,pP,pS,src⟩:=Dw.draws I (I.ok.hd hc) hq hi
  obtain ⟨f0,f1,f2,f3,f4,f5⟩:=hf it (by simp)
  rw [← hx] at st
  exact wpAny_pyNext_enum_endD D he st fun h' eb=>⟨rfl,I.turned (t':=s.toks) (fun b o hb q=>eb b o hb q) f0 f1 f3 f4 f5⟩
 self:=fun A i s Q E st h=>let ⟨⟨_,he⟩,_⟩:=st; wpAny_pyIter_enum he h

set_option maxHeartbeats 1000000 in
theorem qi {v:Value} {o:Obj} {H:Heap→Prop} (B:Begins v o H) :
  Meets (Builtin.«enumerate.__new__» ⟨[.type "enumerate",v],[]⟩) (fun _ R s=>H s.heap ∧
   R (.ok (.ret (.ref (s.heap.push o).objs.size))) { s with heap:=(s.heap.push o).push { cls:=.type "enumerate",data:=.fields #[.none,.bool false,.ref s.heap.objs.size,rawInt 0,.none,.none] } }) :=
 .of_wp fun prog w A R s h=>by
  obtain ⟨hp,g,d,tk,os⟩:=s; obtain ⟨h1,h⟩:=h
  have hsub:=sub_enumerate
  have q1:∀ {A':Around} {E:Value→Shared→Prop} {Q:Value→Shared→Prop},Q (.ref hp.objs.size) ⟨hp.push o,g,d,tk,os⟩→wpAny (model prog w) A' (pyIter v) Q E ⟨hp,g,d,tk,os⟩ :=
   fun q=>B.iter prog w _ _ ⟨hp,g,d,tk,os⟩ _ h1 q
  wp_walk using q1
  refine wpAny_stack_any fun st=>wpAny_pure ?_
  split
  ·rename_i c _ _ _ _ _
   cases (c == Value.type "enumerate")
   ·wp_walk using q1
    exact ⟨_,rfl,h⟩
   ·wp_walk using q1
    exact ⟨_,rfl,h⟩
  ·wp_walk using q1
   exact ⟨_,rfl,h⟩
section
variable {prog:Program} {w:World} {A:Around} {E:Value→Shared→Prop} {s:Shared}
theorem oq {v:Value} {o:Obj} {H:Heap→Prop} {Q:Value→Shared→Prop} (B:Begins v o H) (h1:H s.heap)
  (h:∀ h',IsEnum h' (s.heap.objs.size+1) s.heap.objs.size 0 .none→h'.get? s.heap.objs.size=some o→h'.objs.size=s.heap.objs.size+2 →
   (∀ b o,s.heap.get? b=some o→h'.get? b=some o)→Q (.ref (s.heap.objs.size+1)) { s with heap:=h' }) :
  wpAny (model prog w) A (call (.type "enumerate") [v]) Q E s:=by
 refine callType_new F.called_enumerate (by decide) (F.typeCall_enumerate_1 _) (F.newCall_enumerate_1 _) (fun obj=>F.args_object_init_2 obj _) F.entry_enumerate_new
  (qi B) ⟨h1,?_⟩
 have hz:(s.heap.push o).objs.size=s.heap.objs.size+1:=Heap.size_push ..
 show _∧_
 rw [hz]
 have he:IsEnum ((s.heap.push o).push { cls:=.type "enumerate",data:=.fields #[.none,.bool false,.ref s.heap.objs.size,rawInt 0,.none,.none] }) (s.heap.objs.size+1) s.heap.objs.size 0 .none:=by
  have:=Heap.get?_push_size (s.heap.push o) (o:={ cls:=.type "enumerate",data:=.fields #[.none,.bool false,.ref s.heap.objs.size,rawInt 0,.none,.none] }) rfl
  rw [hz] at this; exact this
 exact ⟨⟨_,he,rfl⟩,h _ he (Heap.get?_push_of_some _ (Heap.get?_push_size _ B.free)) (by rw [Heap.size_push,hz]) fun b o x=>Heap.get?_push_of_some _ (Heap.get?_push_of_some _ x)⟩
end
def wD (K:PySem.W.Frag) (ta:TA):TI:=fun σ H R=>ta σ H fun vs H1=>∃ d xs,vs=[d.val]∧d.on K H1 xs∧R (t8 K d 0) H1
theorem rA {X:Cx} {e:Expr} {ta:TA} {p pos tpos:Pos} {elts:List Expr} {kk:Nat} (hg:Gl X "enumerate") (hm:X.mg "enumerate"=none) (ha:PA X [e] ta) (hs:starEach [e] X.env=[(false,eval e X.env)]) :
  PI X (.Tuple elts kk tpos) (.Call (.Name "enumerate" p) [e] [] pos) (wD X.K ta):=by
 refine ⟨fun pins s σ H R I h=>Call_ (ld_blt I hg hm boot_enumerate (PyProof.Rows.callWith_type1 (thn (ha.run pos pins s σ H _ I h) ?_) hs rfl))⟩
 rintro us s1 ⟨vs,H1,I1,r1,d,xs,rfl,hq,q⟩
 obtain ⟨u,rfl,ru⟩:=Vals.one r1
 obtain ⟨o,B,b,c,l,n⟩:=Dw.begins I1 hq ru
 refine oq b c fun h' he ho hsz hk=>wpAny_pyIter_enum he ?_
 refine ⟨_,[s1.heap.objs.size+1,s1.heap.objs.size],_,_,H1,rfl,I1.kept (t':=s1.toks) hk,kg d 0 (s1.heap.objs.size+1) s1.heap.objs.size,⟨⟨.none,he⟩,n _ _ (aA _) ho,Nat.succ_ne_self _⟩,fun b hb=>?_,q⟩
 have hle:s1.heap.objs.size≤b:=by
  rcases ax.mp hb with rfl | hb
  ·exact bg _ _
  ·rw [ak.mp hb]
   exact aA _
 exact I1.fpOk hle (I1.hok.fresh hle)

theorem lG {M:Model} {A:Around} {E:Value→Shared→Prop} {s:Shared} {pos:Pos} {T:String} {x:Sem Value} {kws:List (Option Str × Sem Value)} {Q:Value→Shared→Prop}
  (h:wpAny M A x (fun v s₁=>wpAny M A (evalAll (kws.map (·.2))) (fun kvs s₂=>wpAny M A (call (.type T) [v] ((kws.filterMap (·.1)).zip kvs)) Q E s₂) E s₁) E s)
  (hall:kws.all (·.1.isSome)=true) (hkw:kws.any (·.1.isNone)=false) :
  wpAny M A (callWith pos (.type T) [] [(false,x)] kws) Q E s:=by
 unfold callWith
 refine wpAny_bind (wpAny_holding (wpAny_mono (PyProof.Rows.evalArgs_kwB (f:=.type T) (Q:=fun a s₁=>wpAny M A (call (.type T) a.pos a.kw) Q E s₁) hall (Calls.spliced_cons (wpAny_mono h (fun v s₁ h₁=>Calls.spliced_nil h₁) fun _ _ x=>x))) (fun a s₁ h₁=>wpAny_bind (wpAny_standAt ?_)) fun _ _ x=>x))
 have hp:([(false,x)]:List (Bool × Sem Value)).any (·.1)=false:=rfl
 simp only [hp,hkw,Bool.or_false]
 refine wpAny_bind (wpAny_pure ?_)
 exact wpAny_bind (wpAny_mono h₁ (fun r s₂ hr=>wpAny_bind (wpAny_holding (wpAny_point (wpAny_pure hr)))) fun _ _ x=>x)
def t9 (K:PySem.W.Frag) (te:TE) (n:Nat):TI:=fun σ H R=>te σ H fun v H1=>∃ d xs,v=d.val∧d.on K H1 xs∧R (t8 K d n) H1
theorem qj {X:Cx} {pins:List (Addr × Obj)} {σ:L2.St} {s2:Shared} {H2:Hp} {d:Dw} {xs:List V} {u:Value} {n:Nat} {t:Tok} {Q:Value→Shared→Prop} (hn:n < 1000) (I2:Inv X pins σ H2 s2) (hq:d.on X.K H2 xs) (ru:RelV d.val u)
  (h:∀ h',Inv X pins σ H2 { s2 with heap:=h' }→IsEnum h' (s2.heap.objs.size+1) s2.heap.objs.size (n:Nat) .none→d.iter h' s2.heap.objs.size 0→(∀ b,s2.heap.objs.size≤b→FpOk X pins H2 b)→Q (.ref (s2.heap.objs.size+1)) { s2 with heap:=h' }) :
  wpAny (model X.prog X.w) X.A (call (.type "enumerate") [u] [(Str.ofString "start",.int (n:Nat) t)]) Q X.xe s2:=by
 obtain ⟨o,B,b,c,l,nn⟩:=Dw.begins I2 hq ru
 refine enum_begins_start b c (by omega) (by omega) fun h' he ho hsz hk=>?_
 exact h h' (I2.kept (t':=s2.toks) hk) he (nn _ _ (aA _) ho) fun b hle=>I2.fpOk hle (I2.hok.fresh hle)
theorem rB {M:Model} {A:Around} {E:Value→Shared→Prop} {s:Shared} {env:Env} {x:Str} {np pos:Pos} {e:Expr} {kws:List Keyword} {Q:Value→Shared→Prop} (hs:starEach [e] env=[(false,eval e env)])
  (h:wpAny M A (eval (.Name x np) env) (fun f s₁=>wpAny M A (callWith pos f [] [(false,eval e env)] (backToKw pos (keywordEach kws env))) Q E s₁) E s) :
  wpAny M A (eval (.Call (.Name x np) [e] kws pos) env) Q E s:=by
 show wpAny M A (do callWith pos (← eval (.Name x np) env) [] (backTo pos (starEach [e] env)) (backToKw pos (keywordEach kws env))) Q E s
 rw [hs]
 exact wpAny_bind h
theorem wE {nm:Str} {k:Expr} {kpos pos:Pos} {env:Env}:backToKw pos (keywordEach [⟨some nm,k,kpos⟩] env)=[(some nm,do let v ← eval k env; standAt pos; pure v)]:=rfl
theorem ql {X:Cx} {e:Expr} {te:TE} {p pos tpos q kpos:Pos} {elts:List Expr} {kk n kc:Nat} (hn:n < 1000) (hg:Gl X "enumerate") (hm:X.mg "enumerate"=none) (ha:PE X e te) (hs:starEach [e] X.env=[(false,eval e X.env)]) :
  PI X (.Tuple elts kk tpos) (.Call (.Name "enumerate" p) [e] [⟨some "start",.Constant (.int (n:Nat)) kc q,kpos⟩] pos) (t9 X.K te n):=by
 refine ⟨fun pins s σ H R I h=>?_⟩
 refine rB hs (ld_blt I hg hm boot_enumerate ?_)
 rw [wE]
 refine lG (thn (ha.run pins s σ H _ I h) ?_) rfl rfl
 rintro u s1 ⟨v,H1,I1,ru,d,xs,rfl,hq,q1⟩
 refine PyProof.Rows.evalAll_cons (wpAny_bind (thn ((pe_int (X:=X) (i:=(n:Nat))).run pins s1 σ H1 (fun v H2=>v=.int (n:Nat)∧H2=H1) I1 ⟨rfl,rfl⟩) ?_))
 rintro w s2 ⟨v,H2,I2,rv,rfl,rfl⟩
 obtain ⟨t,rfl⟩:=rv
 refine wpAny_bind (wpAny_standAt (wpAny_pure (PyProof.Rows.evalAll_nil ?_)))
 refine qj hn I2 hq ru fun h' I3 he hi hb=>wpAny_pyIter_enum he ?_
 exact ⟨_,[s2.heap.objs.size+1,s2.heap.objs.size],_,_,H2,rfl,I3,kg d n (s2.heap.objs.size+1) s2.heap.objs.size,⟨⟨.none,he⟩,hi,Nat.succ_ne_self _⟩,fun b hb2=>hb b (by
  rcases ax.mp hb2 with rfl | hb2
  ·exact bg _ _
  ·rw [ak.mp hb2]
   exact aA _),q1⟩

def wF (K:PySem.W.Frag) (d1 d2:Dw):It :=
 ⟨fun i H=>∃ xs ys x y,d1.on K H xs∧d2.on K H ys∧xs[i]?=some x∧ys[i]?=some y,
  fun i H v H'=>∃ T ob x y,v=V.ref T∧H T=none∧ob.dict=none∧H'=upd H T (.frz ob (.tup [x,y]))∧(∀ xs,d1.on K H xs→xs[i]?=some x)∧∀ ys,d2.on K H ys→ys[i]?=some y,
  fun i H=>∃ xs ys,d1.on K H xs∧d2.on K H ys∧i≤xs.length∧i≤ys.length∧(i=xs.length∨i=ys.length)⟩
theorem qm {P:Program} {w:World} {K:PySem.W.Frag} {elts:List Expr} {kk:Nat} {tpos:Pos} {d1 d2:Dw} {z TI TO i1 i2:Addr} (D:ZipSep2 z TI TO i1 i2 (i1 :: d1.src) (i2 :: d2.src)) :
  Turn P w K (.Tuple elts kk tpos) (wF K d1 d2) [z,TI,TO,i1,i2] z (fun i h=>IsZip h z TI TO .none∧IsTupOf2 h TI (.ref i1) (.ref i2)∧(∃ x y,IsTupOf2 h TO x y)∧d1.iter h i1 i∧d2.iter h i2 i) where
 mem:=by simp
 obj:=fun i h st c hc=>by
  obtain ⟨hz,hTI,⟨x,y,hTO⟩,h1,h2⟩:=st
  simp only [ax,bO,or_false] at hc
  rcases hc with rfl | rfl | rfl | rfl | rfl
  ·exact ⟨_,hz,fun v q=>nomatch q⟩
  ·exact ⟨_,hTI,fun v q=>nomatch q⟩
  ·exact ⟨_,hTO,fun v q=>nomatch q⟩
  ·exact Dw.obj h1
  ·exact Dw.obj h2
 keep:=fun i h h' st k=>⟨k z (by simp) _ st.1,k TI (by simp) _ st.2.1,st.2.2.1.imp fun x q=>q.imp fun y q=>k TO (by simp) _ q,Dw.keep (fun o q=>k i1 (by simp) o q) st.2.2.2.1,Dw.keep (fun o q=>k i2 (by simp) o q) st.2.2.2.2⟩
 item:=by
  intro X hP hw hK hc i pins s σ H E I hf st hg
  subst hP hw hK
  obtain ⟨hz,hTI,⟨x0,y0,hTO⟩,h1,h2⟩:=st
  obtain ⟨xs,ys,x,y,hq1,hq2,hx,hy⟩:=hg
  obtain ⟨P1,St1,D1,st1,pP1,pS1,_⟩:=Dw.draws I (I.ok.hd hc) hq1 h1
  obtain ⟨P2,St2,D2,st2,pP2,pS2,_⟩:=Dw.draws I (I.ok.hd hc) hq2 h2
  refine wpAny_pyNext_zipD2_item D D1 D2 hz hTI hTO st1 st2 (au.mp hx).1 (au.mp hy).1 fun u1 u2 h' tk y1 y2 z' TO' st1' st2' hT hsz hk=>⟨_,rfl,wpAny_letOwnedTupleGo_zip (s:={ s with heap:=h',toks:=tk }) z' fun h3 z3 sb=>?_⟩
  obtain ⟨x',e1,r1⟩:=pP1 i u1 y1
  rw [hx] at e1
  cases e1
  obtain ⟨y',e2,r2⟩:=pP2 i u2 y2
  rw [hy] at e2
  cases e2
  have hzl:z < s.heap.objs.size:=Heap.lt_size hz
  have hT2:=(sb.2 _ (Nat.ne_of_gt hzl)).trans hT
  have new:ObjOk X.prog X.w (upd H s.heap.objs.size (.frz { cls:=.type "tuple",data:=.seq #[u1,u2] } (.tup [x,y]))) h3 s.heap.objs.size (.frz { cls:=.type "tuple",data:=.seq #[u1,u2] } (.tup [x,y])) :=
   ⟨hT2,(by decide:2≤sizeLine),[u1,u2],.cons r1 #v[r2],⟨_,hT2,rfl,_,rfl⟩⟩
  have I1:=I.turnedNew (t':=tk) (ch:=[z,TI,TO,i1,i2]) (fun b ob hb q=>by
   simp only [ax,bO,or_false,not_or] at hb
   exact (sb.2 b hb.1).trans (hk b ob hb.1 hb.2.2.1 hb.2.2.2.1 hb.2.2.2.2 q)) hf (aA _) new
  refine ⟨.ref s.heap.objs.size,_,I1,rfl,⟨_,_,x,y,rfl,I.hok.fresh (aA _),rfl,rfl,fun l hl=>by rw [Dw.inj I hl hq1]; exact hx,fun l hl=>by rw [Dw.inj I hl hq2]; exact hy⟩,
   ⟨z3,(sb.2 _ D.TIz).trans (hk _ _ D.TIz D.TITO D.TIi1 D.TIi2 hTI),⟨u1,u2,(sb.2 _ D.TOz).trans TO'⟩,Dw.keep (fun o q=>(sb.2 _ D.zi1.symm).trans q) (pS1 _ _ st1'),Dw.keep (fun o q=>(sb.2 _ D.zi2.symm).trans q) (pS2 _ _ st2')⟩,fun c hcm=>?_⟩
  have hlt:c < s.heap.objs.size:=by
   have hcm':=hcm
   simp only [ax,bO,or_false] at hcm'
   rcases hcm' with rfl | rfl | rfl | rfl | rfl
   ·exact hzl
   ·exact Heap.lt_size hTI
   ·exact Heap.lt_size hTO
   ·exact let ⟨_,q,_⟩:=Dw.obj h1; Heap.lt_size q
   ·exact let ⟨_,q,_⟩:=Dw.obj h2; Heap.lt_size q
  rw [upd_ne (aT hlt)]
  exact (hf c hcm).1
 done:=by
  intro X hP hw hK hc i pins s σ H E I hf st hg
  subst hP hw hK
  obtain ⟨hz,hTI,⟨x0,y0,hTO⟩,h1,h2⟩:=st
  obtain ⟨xs,ys,hq1,hq2,l1,l2,le⟩:=hg
  obtain ⟨P1,St1,D1,st1,pP1,pS1,_⟩:=Dw.draws I (I.ok.hd hc) hq1 h1
  obtain ⟨P2,St2,D2,st2,pP2,pS2,_⟩:=Dw.draws I (I.ok.hd hc) hq2 h2
  exact wpAny_pyNext_zipD2_end D D1 D2 hz hTI hTO st1 st2 l1 l2 le fun h' tk hk=>⟨rfl,I.turnedL (t':=tk) (ch:=[z,TI,TO,i1,i2]) (fun c o hb q=>by
   simp only [ax,bO,or_false,not_or] at hb
   exact hk c o hb.1 hb.2.2.1 hb.2.2.2.1 hb.2.2.2.2 q) hf⟩
 self:=fun A i s Q E st h=>wpAny_pyIter_zip st.1 h
def z0 (K:PySem.W.Frag) (ta:TA):TI:=fun σ H R=>ta σ H fun vs H1=>∃ d1 d2 xs ys,vs=[d1.val,d2.val]∧d1.on K H1 xs∧d2.on K H1 ys∧R (wF K d1 d2) H1
theorem ua {X:Cx} {e e2:Expr} {ta:TA} {p pos tpos:Pos} {elts:List Expr} {kk:Nat} (hg:Gl X "zip") (hm:X.mg "zip"=none) (ha:PA X [e,e2] ta)
  (hs:starEach [e,e2] X.env=(false,eval e X.env) :: starEach [e2] X.env) (hpl:(backTo pos (starEach [e2] X.env)).any (·.1)=false) :
  PI X (.Tuple elts kk tpos) (.Call (.Name "zip" p) [e,e2] [] pos) (z0 X.K ta):=by
 refine ⟨fun pins s σ H R I h=>Call_ (ld_blt I hg hm PyProof.Rows.boot_zip (PyProof.Rows.callWith_type1 (thn (ha.run pos pins s σ H _ I h) ?_) hs hpl))⟩
 rintro us s1 ⟨vs,H1,I1,r1,d1,d2,xs,ys,rfl,hq1,hq2,q⟩
 obtain ⟨u1,u2,rfl,ru1,ru2⟩:=Vals.two r1
 obtain ⟨o1,B1,b1,c1,l1,n1⟩:=Dw.begins I1 hq1 ru1
 obtain ⟨o2,B2,b2,c2,l2,n2⟩:=Dw.begins I1 hq2 ru2
 refine zip_begins2 b1 b2 c1 c2 fun h' hz hTI hTO k1 k2 hsz hk=>wpAny_pyIter_zip hz ?_
 refine ⟨_,[s1.heap.objs.size+4,s1.heap.objs.size+2,s1.heap.objs.size+3,s1.heap.objs.size,s1.heap.objs.size+1],_,_,H1,rfl,I1.kept (t':=s1.toks) hk,qm (zip_sep2 l1 l2),⟨hz,hTI,⟨_,_,hTO⟩,n1 _ _ (aA _) k1,n2 _ _ (bg _ _) k2⟩,fun c hcm=>?_,q⟩
 have hle:s1.heap.objs.size≤c:=by
  simp only [ax,bO,or_false] at hcm
  rcases hcm with rfl | rfl | rfl | rfl | rfl
  ·exact bg _ _
  ·exact bg _ _
  ·exact bg _ _
  ·exact aA _
  ·exact bg _ _
 exact I1.fpOk hle (I1.hok.fresh hle)

structure Wd where
 P:Program
 w:World
 K:PySem.W.Frag
 /-- the exceptions that a suite holds,their classes' names -/
 pn:Addr→Option Str

def jw:Addr→Option Str:=fun _=>none

def kh (a:Addr) (ob:Obj):HO:=.ext fun h=>h.get? a=some ob

structure DtO (Y:Wd) (a:Addr) (ob:Obj) (xs:List (NestedKey × Addr × Value)):Prop where
 ex:ob.ExactDict
 nm:(a == sysModules)=false
 es:∃ es ep,ob.data=.dict es ep∧es.toList=xs.map (entryOfKey (nestedKind Y.P Y.w))
 nd:(xs.map (·.1)).Nodup
 sz:xs.length≤sizeLine


structure TbK (Y:Wd) (a:Addr) (kvs:List (Str × Str)):Prop where
 d:∃ es n,KDict Y.K Y.w a es n
 at_:∀ z:Str,∃ o,PySem.W.nsIn Y.K a z=some o∧RelO ((kvs.lookup z).map V.str) o


structure Fr where
 h:Hp
 m:Addr→Option Nat

structure Fr.le (F F':Fr):Prop where
 s:Same F.h F'.h
 m:∀ a n,F.m a=some n→F'.m a=some n
theorem Fr.le.refl (F:Fr):F.le F:=⟨Same.refl _,fun _ _ h=>h⟩
theorem Fr.le.trans {a b c:Fr} (x:a.le b) (y:b.le c):a.le c:=⟨x.s.trans y.s,fun p n h=>y.m p n (x.m p n h)⟩
abbrev Fr.upd (F:Fr) (p:Addr) (o:HO):Fr:=⟨L2.upd F.h p o,F.m⟩
mutual
inductive Rp (Y:Wd) (F:Fr):D→V→Prop
 | non:Rp Y F .non .non
 | bl (b:Bool):Rp Y F (.bl b) (.bl b)
 | int (i:Int):Rp Y F (.int i) (.int i)
 | str (x:Str):Rp Y F (.str x) (.str x)
 | tup {a:Addr} {vs:List V} {ds:List D}:TuF F.h a vs→Rps Y F ds vs→Rp Y F (.tup ds) (.ref a)
 | lst {a:Addr} {vs:List V} {ds:List D}:F.h a=some (.lst vs)→Rps Y F ds vs→Rp Y F (.lst ds) (.ref a)
 | arr {a:Addr} {vs:List V} {ds:List D}:SqL Y.K F.h a vs→Rps Y F ds vs→Rp Y F (.arr ds) (.ref a)
 | dk {a:Addr} {kvs:List (Key × V)} {ps:List (D × D)}:F.h a=some (.dK kvs)→Rpk Y F ps kvs→Rp Y F (.dic false ps) (.ref a)
 | dt {a:Addr} {ob:Obj} {xs:List (NestedKey × Addr × Value)} {ps:List (D × D)}:F.h a=some (kh a ob)→DtO Y a ob xs→Rpt Y F ps xs→Rp Y F (.dic true ps) (.ref a)
 | loc {a:Addr} {n:Nat}:F.m a=some n→Rp Y F (.loc n) (.ref a)
 | exc {a:Addr} {c:Str}:Y.pn a=some c→Rp Y F (.exc c) (.ref a)
 | fd {a:Addr} {o:Obj} {kvs:List (Key × V)} {ps:List (D × D)}:F.h a=some (.frz o (.dK kvs))→Rpk Y F ps kvs→Rp Y F (.fdc ps) (.ref a)
 | tb {a:Addr} {kvs:List (Str × Str)}:TbK Y a kvs→Rp Y F (.cd kvs) (.ref a)
inductive Rps (Y:Wd) (F:Fr):List D→List V→Prop
 | nil:Rps Y F [] []
 | cons {d:D} {ds:List D} {v:V} {vs:List V}:Rp Y F d v→Rps Y F ds vs→Rps Y F (d :: ds) (v :: vs)
inductive Rpk (Y:Wd) (F:Fr):List (D × D)→List (Key × V)→Prop
 | nil:Rpk Y F [] []
 | cons {k d:D} {ps:List (D × D)} {q:Key} {v:V} {kvs:List (Key × V)}:D.keyOf k=some q→Rp Y F d v→Rpk Y F ps kvs→Rpk Y F ((k,d) :: ps) ((q,v) :: kvs)
inductive Rpt (Y:Wd) (F:Fr):List (D × D)→List (NestedKey × Addr × Value)→Prop
 | nil:Rpt Y F [] []
 | cons {k d:D} {ps:List (D × D)} {q:NestedKey} {b:Addr} {v:V} {u:Value} {xs:List (NestedKey × Addr × Value)}:D.nk k=some q→q.depth≤8→Rp Y F k (.ref b)→Rp Y F d v→RelV v u→Rpt Y F ps xs →
   Rpt Y F ((k,d) :: ps) ((q,b,u) :: xs)
end


inductive TpW (Y:Wd) (F:Fr) (H:Hp):D→V→Prop
 | lst {a:Addr} {vs:List V} {ds:List D}:H a=some (.lst vs)→Rps Y F ds vs→TpW Y F H (.lst ds) (.ref a)
 | dk {a:Addr} {kvs:List (Key × V)} {ps:List (D × D)}:H a=some (.dK kvs)→Rpk Y F ps kvs→TpW Y F H (.dic false ps) (.ref a)
 | dt {a:Addr} {ob:Obj} {xs:List (NestedKey × Addr × Value)} {ps:List (D × D)}:H a=some (kh a ob)→DtO Y a ob xs→Rpt Y F ps xs→TpW Y F H (.dic true ps) (.ref a)

section
variable {Y:Wd} {F F':Fr} {H H':Hp}
theorem SqL.mono {K:PySem.W.Frag} {a:Addr} {xs:List V} (e:Same H H') (h:SqL K H a xs):SqL K H' a xs:=e.seq h
mutual
theorem Rp.mono (e:F.le F'):∀ {d:D} {v:V},Rp Y F d v→Rp Y F' d v
 | _,_,.non=>.non
 | _,_,.bl b=>.bl b
 | _,_,.int i=>.int i
 | _,_,.str x=>.str x
 | _,_,.tup h r=>.tup (h.mono e.s) (Rps.mono e r)
 | _,_,.lst h r=>.lst (e.s _ _ h) (Rps.mono e r)
 | _,_,.arr h r=>.arr (e.s.seq h) (Rps.mono e r)
 | _,_,.dk h r=>.dk (e.s _ _ h) (Rpk.mono e r)
 | _,_,.dt h o r=>.dt (e.s _ _ h) o (Rpt.mono e r)
 | _,_,.loc h=>.loc (e.m _ _ h)
 | _,_,.exc h=>.exc h
 | _,_,.fd h r=>.fd (e.s _ _ h) (Rpk.mono e r)
 | _,_,.tb h=>.tb h
theorem Rps.mono (e:F.le F'):∀ {ds:List D} {vs:List V},Rps Y F ds vs→Rps Y F' ds vs
 | _,_,.nil=>.nil
 | _,_,.cons h r=>.cons (Rp.mono e h) (Rps.mono e r)
theorem Rpk.mono (e:F.le F'):∀ {ps:List (D × D)} {kvs:List (Key × V)},Rpk Y F ps kvs→Rpk Y F' ps kvs
 | _,_,.nil=>.nil
 | _,_,.cons h r t=>.cons h (Rp.mono e r) (Rpk.mono e t)
theorem Rpt.mono (e:F.le F'):∀ {ps:List (D × D)} {xs:List (NestedKey × Addr × Value)},Rpt Y F ps xs→Rpt Y F' ps xs
 | _,_,.nil=>.nil
 | _,_,.cons h z k r u t=>.cons h z (Rp.mono e k) (Rp.mono e r) u (Rpt.mono e t)
end

theorem TpW.mono (e:F.le F') (e2:Same H H') {d:D} {v:V}:TpW Y F H d v→TpW Y F' H' d v
 | .lst h r=>.lst (e2 _ _ h) (r.mono e)
 | .dk h r=>.dk (e2 _ _ h) (r.mono e)
 | .dt h o r=>.dt (e2 _ _ h) o (r.mono e)
theorem TpW.isRef {d:D} {v:V}:TpW Y F H d v→∃ a,v=.ref a∧(H a).isSome=true
 | .lst h _=>⟨_,rfl,by rw [h]; rfl⟩
 | .dk h _=>⟨_,rfl,by rw [h]; rfl⟩
 | .dt h _ _=>⟨_,rfl,by rw [h]; rfl⟩
theorem TpW.notStill {d:D} {v:V}:TpW Y F H d v→d.still=false
 | .lst _ _=>rfl
 | .dk _ _=>rfl
 | .dt _ _ _=>rfl
theorem Rps.length:∀ {ds:List D} {vs:List V},Rps Y F ds vs→ds.length=vs.length
 | _,_,.nil=>rfl
 | _,_,.cons _ r=>by rw [aB,aB,Rps.length r]
theorem Rps.get:∀ {ds:List D} {vs:List V} {i:Nat} {d:D},Rps Y F ds vs→ds[i]?=some d→∃ v,vs[i]?=some v∧Rp Y F d v
 | _,_,_,_,.nil,e=>by simp at e
 | _,_,0,_,.cons h _,e=>by
  obtain rfl:=ad e
  exact ⟨_,rfl,h⟩
 | _,_,i+1,d,.cons _ r,e=>Rps.get (i:=i) r e
theorem Rps.append:∀ {ds es:List D} {vs ws:List V},Rps Y F ds vs→Rps Y F es ws→Rps Y F (ds++es) (vs++ws)
 | _,_,_,_,.nil,s=>s
 | _,_,_,_,.cons h r,s=>.cons h (Rps.append r s)
theorem Rps.take:∀ {ds:List D} {vs:List V} (n:Nat),Rps Y F ds vs→Rps Y F (ds.take n) (vs.take n)
 | _,_,0,_=>.nil
 | _,_,_+1,.nil=>.nil
 | _,_,n+1,.cons h r=>.cons h (Rps.take n r)
theorem Rps.drop:∀ {ds:List D} {vs:List V} (n:Nat),Rps Y F ds vs→Rps Y F (ds.drop n) (vs.drop n)
 | _,_,0,r=>r
 | _,_,_+1,.nil=>.nil
 | _,_,n+1,.cons _ r=>Rps.drop n r
theorem Rps.cut {ds:List D} {vs:List V} (lo hi:Option Int) (r:Rps Y F ds vs):Rps Y F (iI ds lo hi) (cutV vs lo hi):=by
 unfold iI cutV
 rw [r.length]
 exact (r.drop _).take _
theorem Rps.set:∀ {ds:List D} {vs:List V} (i:Nat) {d:D} {v:V},Rp Y F d v→Rps Y F ds vs→Rps Y F (ds.set i d) (vs.set i v)
 | _,_,_,_,_,_,.nil=>.nil
 | _,_,0,_,_,h,.cons _ r=>.cons h r
 | _,_,i+1,_,_,h,.cons q r=>.cons q (Rps.set i h r)
theorem Rps.rep {ds:List D} {vs:List V} (r:Rps Y F ds vs):∀ n:Nat,Rps Y F (List.replicate n ds).flatten (List.replicate n vs).flatten
 | 0=>.nil
 | n+1=>by
  rw [bw,bw,List.flatten_cons,List.flatten_cons]
  exact r.append (r.rep n)
theorem Rps.erase:∀ {ds:List D} {vs:List V} (i:Nat),Rps Y F ds vs→Rps Y F (ds.eraseIdx i) (vs.eraseIdx i)
 | _,_,_,.nil=>.nil
 | _,_,0,.cons _ r=>r
 | _,_,i+1,.cons h r=>.cons h (Rps.erase i r)
theorem Rps.rev {ds:List D} {vs:List V} (r:Rps Y F ds vs):Rps Y F ds.reverse vs.reverse:=by
 induction ds generalizing vs with
 | nil=>cases r; exact .nil
 | cons d ds ih =>
  cases r with
  | cons h r =>
   rw [List.reverse_cons,List.reverse_cons]
   exact (ih r).append #v[h]
theorem Rps.ints:∀ {ns:List Int} {vs:List V},Rps Y F (ns.map D.int) vs→vs=ns.map V.int
 | [],_,r=>by cases r; rfl
 | n :: ns,_,r=>by
  rw [aG] at r
  cases r with
  | cons h t =>
   cases h
   rw [Rps.ints t,aG]
theorem Rps.ofInts:∀ (ns:List Int),Rps Y F (ns.map D.int) (ns.map V.int)
 | []=>.nil
 | n :: ns=>.cons (.int n) (Rps.ofInts ns)
theorem Rps.bls:∀ {ns:List Bool} {vs:List V},Rps Y F (ns.map D.bl) vs→vs=ns.map V.bl
 | [],_,r=>by cases r; rfl
 | n :: ns,_,r=>by
  rw [aG] at r
  cases r with
  | cons h t =>
   cases h
   rw [Rps.bls t,aG]
theorem Rps.strs:∀ {ns:List Str} {vs:List V},Rps Y F (ns.map D.str) vs→vs=ns.map V.str
 | [],_,r=>by cases r; rfl
 | n :: ns,_,r=>by
  rw [aG] at r
  cases r with
  | cons h t =>
   cases h
   rw [Rps.strs t,aG]
theorem cZ:∀ {ds:List D} {ns:List Int},dF ds=some ns→ds=ns.map D.int
 | [],ns,h=>by
  obtain rfl:=ad h
  rfl
 | .int i :: r,ns,h=>by
  obtain ⟨ms,h1,rfl⟩:=az.mp (show (dF r).map (i :: ·)=some ns from h)
  rw [cZ h1,aG]
 | .non :: _,_,h=>by cases h
 | .bl _ :: _,_,h=>by cases h
 | .str _ :: _,_,h=>by cases h
 | .tup _ :: _,_,h=>by cases h
 | .lst _ :: _,_,h=>by cases h
 | .arr _ :: _,_,h=>by cases h
 | .dic _ _ :: _,_,h=>by cases h
 | .loc _ :: _,_,h=>by cases h
 | .exc _ :: _,_,h=>by cases h
 | .fdc _ :: _,_,h=>by cases h
 | .cd _ :: _,_,h=>by cases h
theorem gH:∀ {ds:List D} {ns:List Bool},hJ ds=some ns→ds=ns.map D.bl
 | [],ns,h=>by
  obtain rfl:=ad h
  rfl
 | .bl i :: r,ns,h=>by
  obtain ⟨ms,h1,rfl⟩:=az.mp (show (hJ r).map (i :: ·)=some ns from h)
  rw [gH h1,aG]
 | .non :: _,_,h=>by cases h
 | .int _ :: _,_,h=>by cases h
 | .str _ :: _,_,h=>by cases h
 | .tup _ :: _,_,h=>by cases h
 | .lst _ :: _,_,h=>by cases h
 | .arr _ :: _,_,h=>by cases h
 | .dic _ _ :: _,_,h=>by cases h
 | .loc _ :: _,_,h=>by cases h
 | .exc _ :: _,_,h=>by cases h
 | .fdc _ :: _,_,h=>by cases h
 | .cd _ :: _,_,h=>by cases h
theorem fB:∀ {ds:List D} {ns:List Str},fk ds=some ns→ds=ns.map D.str
 | [],ns,h=>by
  obtain rfl:=ad h
  rfl
 | .str i :: r,ns,h=>by
  obtain ⟨ms,h1,rfl⟩:=az.mp (show (fk r).map (i :: ·)=some ns from h)
  rw [fB h1,aG]
 | .non :: _,_,h=>by cases h
 | .int _ :: _,_,h=>by cases h
 | .bl _ :: _,_,h=>by cases h
 | .tup _ :: _,_,h=>by cases h
 | .lst _ :: _,_,h=>by cases h
 | .arr _ :: _,_,h=>by cases h
 | .dic _ _ :: _,_,h=>by cases h
 | .loc _ :: _,_,h=>by cases h
 | .exc _ :: _,_,h=>by cases h
 | .fdc _ :: _,_,h=>by cases h
 | .cd _ :: _,_,h=>by cases h

theorem ir {a b:D} {q:Key} (h:D.keyOf a=some q) (h':D.keyOf b=some q):a=b:=by
 cases a <;> simp only [D.keyOf,bL,reduceCtorEq] at h <;> cases b <;> simp only [D.keyOf,bL,reduceCtorEq] at h' <;> rw [← h] at h' <;> first | (injection h' with e; rw [e]) | cases h'
mutual
theorem lH:∀ {a b:D} {q:NestedKey},D.nk a=some q→D.nk b=some q→a=b
 | .non,b,q,h,h'=>by
  cases (ad h)
  cases b <;> simp [D.nk] at h' ⊢
 | .int i,b,q,h,h'=>by
  cases (ad h)
  cases b <;> simp [D.nk] at h' ⊢
  exact h'.symm
 | .str i,b,q,h,h'=>by
  cases (ad h)
  cases b <;> simp [D.nk] at h' ⊢
  exact h'.symm
 | .tup xs,b,q,h,h'=>by
  obtain ⟨ks,h1,rfl⟩:=az.mp (show (D.nks xs).map NestedKey.tup=some q from h)
  cases b with
  | tup ys =>
   obtain ⟨ks',h2,e⟩:=az.mp (show (D.nks ys).map NestedKey.tup=some (NestedKey.tup ks) from h')
   injection e with e
   rw [e] at h2
   rw [pp h1 h2]
  | _=>simp [D.nk] at h'
 | .bl _,_,_,h,_=>by simp [D.nk] at h
 | .lst _,_,_,h,_=>by simp [D.nk] at h
 | .arr _,_,_,h,_=>by simp [D.nk] at h
 | .dic _ _,_,_,h,_=>by simp [D.nk] at h
 | .loc _,_,_,h,_=>by simp [D.nk] at h
 | .exc _,_,_,h,_=>by simp [D.nk] at h
 | .fdc _,_,_,h,_=>by simp [D.nk] at h
 | .cd _,_,_,h,_=>by simp [D.nk] at h
theorem pp:∀ {a b:List D} {q:List NestedKey},D.nks a=some q→D.nks b=some q→a=b
 | [],b,q,h,h'=>by
  cases (ad h)
  cases b with
  | nil=>rfl
  | cons y ys =>
   obtain ⟨k,_,h2⟩:=aU.mp (show (D.nk y).bind (fun k=>(D.nks ys).map (k :: ·))=some [] from h')
   obtain ⟨_,_,e⟩:=az.mp h2
   cases e
 | x :: xs,b,q,h,h'=>by
  obtain ⟨k,h1,h2⟩:=aU.mp (show (D.nk x).bind (fun k=>(D.nks xs).map (k :: ·))=some q from h)
  obtain ⟨ks,h3,rfl⟩:=az.mp h2
  cases b with
  | nil=>cases (ad h')
  | cons y ys =>
   obtain ⟨k',g1,g2⟩:=aU.mp (show (D.nk y).bind (fun k=>(D.nks ys).map (k :: ·))=some (k :: ks) from h')
   obtain ⟨ks',g3,e⟩:=az.mp g2
   injection e with e1 e2
   rw [e1] at g1
   rw [e2] at g3
   rw [lH h1 g1,pp h3 g3]
end


theorem mF {k:D}:D.look [] k=none:=rfl
theorem k8 {p:D × D} {r:List (D × D)} {k:D}:D.look (p :: r) k=if p.1=k then some p.2 else D.look r k:=by
 unfold D.look
 rw [bP]
 by_cases e:p.1=k
 ·simp [e]
 ·simp [e]
theorem Rpk.look {k:D} {q:Key} (hk:D.keyOf k=some q):∀ {ps:List (D × D)} {kvs:List (Key × V)},Rpk Y F ps kvs →
  (D.look ps k=none∧valV kvs q=none)∨∃ d v,D.look ps k=some d∧valV kvs q=some v∧Rp Y F d v
 | _,_,.nil=>.inl ⟨rfl,rfl⟩
 | _,_,.cons (k:=k') (d:=d) (ps:=ps) (q:=q') (v:=v) (kvs:=kvs) h r t=>by
  rw [k8]
  by_cases e:k'=k
  ·subst e
   obtain rfl:q'=q:=ad (h.symm.trans hk)
   exact .inr ⟨d,v,ap rfl,valV_pos rfl,r⟩
  ·have e2:¬ q'=q:=fun z=>e (ir h (by rw [z]; exact hk))
   rw [av e,valV_neg e2]
   exact Rpk.look hk t
theorem Rpk.drop {k:D} {q:Key} (hk:D.keyOf k=some q):∀ {ps:List (D × D)} {kvs:List (Key × V)},Rpk Y F ps kvs→Rpk Y F (D.drop ps k) (dropK kvs q)
 | _,_,.nil=>.nil
 | _,_,.cons (k:=k') (d:=d) (ps:=ps) (q:=q') (v:=v) (kvs:=kvs) h r t=>by
  have ih:=Rpk.drop hk t
  by_cases e:k'=k
  ·subst e
   obtain rfl:q'=q:=ad (h.symm.trans hk)
   have e1:D.drop ((k',d) :: ps) k'=D.drop ps k':=by simp [D.drop]
   have e2:dropK ((q',v) :: kvs) q'=dropK kvs q':=by simp [dropK]
   rw [e1,e2]
   exact ih
  ·have e2:¬ q'=q:=fun z=>e (ir h (by rw [z]; exact hk))
   have e3:D.drop ((k',d) :: ps) k=(k',d) :: D.drop ps k:=by simp [D.drop,e]
   have e4:dropK ((q',v) :: kvs) q=(q',v) :: dropK kvs q:=by simp [dropK,e2]
   rw [e3,e4]
   exact .cons h r ih
theorem Rpt.look {k:D} {q:NestedKey} (hk:D.nk k=some q):∀ {ps:List (D × D)} {xs:List (NestedKey × Addr × Value)},Rpt Y F ps xs →
  (D.look ps k=none∧atKey xs q=none)∨∃ d v b u,D.look ps k=some d∧atKey xs q=some (b,u)∧RelV v u∧Rp Y F d v
 | _,_,.nil=>.inl ⟨rfl,rfl⟩
 | _,_,.cons (k:=k') (d:=d) (ps:=ps) (q:=q') (b:=b) (v:=v) (u:=u) (xs:=xs) h z kr r ru t=>by
  rw [k8]
  by_cases e:k'=k
  ·subst e
   obtain rfl:q'=q:=ad (h.symm.trans hk)
   exact .inr ⟨d,v,b,u,ap rfl,by simp [atKey],ru,r⟩
  ·have e2:¬ q'=q:=fun z=>e (lH h (by rw [z]; exact hk))
   rw [av e]
   have e3:atKey ((q',b,u) :: xs) q=atKey xs q:=by simp [atKey,bP,e2]
   rw [e3]
   exact Rpt.look hk t
theorem Rpk.put {k d:D} {q:Key} {v:V} (hk:D.keyOf k=some q) (hv:Rp Y F d v) {ps:List (D × D)} {kvs:List (Key × V)} (r:Rpk Y F ps kvs):Rpk Y F (D.put ps k d) (putK kvs q v):=by
 have hm:∀ {ps:List (D × D)} {kvs:List (Key × V)},Rpk Y F ps kvs→Rpk Y F (ps.map fun kv=>if kv.1=k then (kv.1,d) else kv) (kvs.map fun kv=>if kv.1=q then (kv.1,v) else kv):=by
  intro ps kvs r
  induction ps generalizing kvs with
  | nil=>cases r; exact .nil
  | cons p ps ih =>
   cases r with
   | cons h rr t =>
    rename_i k' d' q' v' kvs
    rw [aG,aG]
    by_cases e:k'=k
    ·subst e
     obtain rfl:q'=q:=ad (h.symm.trans hk)
     rw [ap rfl,ap rfl]
     exact .cons h hv (ih t)
    ·have e2:¬ q'=q:=fun z=>e (ir h (by rw [z]; exact hk))
     rw [av e,av e2]
     exact .cons h rr (ih t)
 have ha:∀ {ps:List (D × D)} {kvs:List (Key × V)},Rpk Y F ps kvs→Rpk Y F (ps++[(k,d)]) (kvs++[(q,v)]):=by
  intro ps kvs r
  induction ps generalizing kvs with
  | nil=>cases r; exact .cons hk hv .nil
  | cons p ps ih =>
   cases r with
   | cons h rr t=>exact .cons h rr (ih t)
 unfold D.put putK
 rw [valV_any]
 rcases r.look hk with ⟨e1,e2⟩ | ⟨d',v',e1,e2,_⟩
 ·rw [e1,e2]
  exact ha r
 ·rw [e1,e2]
  exact hm r
theorem Rpk.length:∀ {ps:List (D × D)} {kvs:List (Key × V)},Rpk Y F ps kvs→ps.length=kvs.length
 | _,_,.nil=>rfl
 | _,_,.cons _ _ t=>by rw [aB,aB,Rpk.length t]
theorem Rpt.length:∀ {ps:List (D × D)} {kvs:List (NestedKey × Addr × Value)},Rpt Y F ps kvs→ps.length=kvs.length
 | _,_,.nil=>rfl
 | _,_,.cons _ _ _ _ _ t=>by rw [aB,aB,Rpt.length t]
theorem Rpt.put {k d:D} {q:NestedKey} {b:Addr} {v:V} {u:Value} (hk:D.nk k=some q) (hz:q.depth≤8) (hb:Rp Y F k (.ref b)) (hv:Rp Y F d v) (hu:RelV v u) {ps:List (D × D)} {xs:List (NestedKey × Addr × Value)} (r:Rpt Y F ps xs) :
  Rpt Y F (D.put ps k d) (storedH xs q b u):=by
 have hm:∀ {ps:List (D × D)} {xs:List (NestedKey × Addr × Value)},Rpt Y F ps xs→Rpt Y F (ps.map fun kv=>if kv.1=k then (kv.1,d) else kv) (xs.map (putAt q u)):=by
  intro ps xs r
  induction ps generalizing xs with
  | nil=>cases r; exact .nil
  | cons p ps ih =>
   cases r with
   | cons h z kr rr ru t =>
    rename_i k' d' q' b' v' u' xs
    rw [aG,aG]
    by_cases e:k'=k
    ·subst e
     obtain rfl:q'=q:=ad (h.symm.trans hk)
     rw [ap rfl,show putAt q' u (q',b',u')=(q',b',u) by simp [putAt]]
     exact .cons h z kr hv hu (ih t)
    ·have e2:¬ q'=q:=fun z=>e (lH h (by rw [z]; exact hk))
     rw [av e,show putAt q u (q',b',u')=(q',b',u') by simp [putAt,e2]]
     exact .cons h z kr rr ru (ih t)
 have ha:∀ {ps:List (D × D)} {xs:List (NestedKey × Addr × Value)},Rpt Y F ps xs→Rpt Y F (ps++[(k,d)]) (xs++[(q,b,u)]):=by
  intro ps xs r
  induction ps generalizing xs with
  | nil=>cases r; exact .cons hk hz hb hv hu .nil
  | cons p ps ih =>
   cases r with
   | cons h z kr rr ru t=>exact .cons h z kr rr ru (ih t)
 unfold D.put storedH
 rcases r.look hk with ⟨e1,e2⟩ | ⟨d',v',b',u',e1,e2,_⟩
 ·rw [e1,e2]
  exact ha r
 ·rw [e1,e2]
  exact hm r
end


structure Gh where
 F:Fr
 B:Hp
 M:Addr→Option Nat
structure Ext (g g':Gh):Prop where
 b:g'.B=g.B
 f:g.F.le g'.F
 new:∀ a o,g'.F.h a=some o→g.F.h a=none→g.B a=none
 m:g'.M=g.M
theorem Ext.refl (g:Gh):Ext g g:=⟨rfl,Fr.le.refl _,(fun a o e n=>by rw [n] at e; cases e),rfl⟩
theorem Ext.trans {a b c:Gh} (x:Ext a b) (y:Ext b c):Ext a c:=⟨y.b.trans x.b,x.f.trans y.f,(fun p o e n=>by
 cases q:b.F.h p with
 | none=>rw [← x.b]; exact y.new p o e q
 | some o'=>exact x.new p o' q n),y.m.trans x.m⟩

def FldR (Y:Wd) (F:Fr) (fs:List (Str × D)) (fv:List (Str × V)):Prop :=
 ∀ f,match fs.lookup f with
  | some d=>∃ v,fv.lookup f=some v∧Rp Y F d v
  | none=>fv.lookup f=none

structure CAt (F:Fr) (B:Hp) (n:Nat) (a:Addr):Prop where
 m:F.m a=some n
 u:∀ b,F.m b=some n→b=a
 f:F.h a=none
 b:B a=none

inductive CellR (Y:Wd) (F:Fr) (B H:Hp) (n:Nat):Cell→Prop
 | obj {d:D} {a:Addr}:CAt F B n a→TpW Y F H d (.ref a)→CellR Y F B H n (.obj d)
 | ins {c:Str} {fs:List (Str × D)} {a dx:Addr} {fv:List (Str × V)}:CAt F B n a→H a=some (.ins (He.ga Y.K c) dx fv)→fv.map (·.1)=fs.map (·.1)→FldR Y F fs fv→CellR Y F B H n (.ins c fs)
 | fz:CellR Y F B H n .fz

structure StR (Y:Wd) (g:Gh) (H:Hp) (s:cj):Prop where
 at_:∀ n c,s[n]?=some c→CellR Y g.F g.B H n c
 lv:∀ a n,g.F.m a=some n→(H a).isSome=true
 lt:s≠[]→∀ a n,g.F.m a=some n→n < s.length∧g.B a=none
 no:s=[]→g.F.m=g.M
 mb:∀ a n,g.M a=some n→g.F.m a=some n
theorem TpW.at {Y:Wd} {F F':Fr} {H H':Hp} {a:Addr} {d:D} (e:F.le F') (e2:∀ u,H a=some u→H' a=some u) (h:TpW Y F H d (.ref a)):TpW Y F' H' d (.ref a):=by
 cases h with
 | lst h r=>exact .lst (e2 _ h) (r.mono e)
 | dk h r=>exact .dk (e2 _ h) (r.mono e)
 | dt h o r=>exact .dt (e2 _ h) o (r.mono e)
theorem FldR.mono {Y:Wd} {F F':Fr} (e:F.le F') {fs:List (Str × D)} {fv:List (Str × V)} (h:FldR Y F fs fv):FldR Y F' fs fv:=fun f=>by
 have q:=h f
 cases el:fs.lookup f with
 | none=>rw [el] at q; exact q
 | some d =>
  rw [el] at q
  obtain ⟨v,h1,h2⟩:=q
  exact ⟨v,h1,h2.mono e⟩
theorem CellR.mono {Y:Wd} {F F':Fr} {B B' H H':Hp} {n:Nat} {c:Cell} (e:F.le F') (ca:∀ a,CAt F B n a→CAt F' B' n a) (hh:∀ a u,F.m a=some n→H a=some u→H' a=some u) (h:CellR Y F B H n c):CellR Y F' B' H' n c:=by
 cases h with
 | obj k t=>exact .obj (ca _ k) (t.at e fun u q=>hh _ u k.m q)
 | ins k t l f=>exact .ins (ca _ k) (hh _ _ k.m t) l (f.mono e)
 | fz=>exact .fz

theorem StR.heap {Y:Wd} {g:Gh} {H H':Hp} {s:cj} (S:StR Y g H s) (hh:∀ a n u,g.F.m a=some n→H a=some u→H' a=some u):StR Y g H' s where
 at_:=fun n c q=>(S.at_ n c q).mono (Fr.le.refl _) (fun _ k=>k) fun a u=>hh a n u
 lv:=fun a n q=>by
  obtain ⟨u,hu⟩:=a0.mp (S.lv a n q)
  rw [hh a n u q hu]
  rfl
 lt:=S.lt
 no:=S.no
 mb:=S.mb

theorem StR.bnd {Y:Wd} {g g':Gh} {H:Hp} {s:cj} (S:StR Y g H s) (eF:g'.F=g.F) (eM:g'.M=g.M) (hb:∀ a n,g.F.m a=some n→g.B a=none→g'.B a=none):StR Y g' H s where
 at_:=fun n c q=>(S.at_ n c q).mono (by rw [eF]; exact Fr.le.refl _) (fun a k=>by rw [eF]; exact ⟨k.m,k.u,k.f,hb a n k.m k.b⟩) fun a u _ h=>h
 lv:=fun a n q=>S.lv a n (by rw [← eF]; exact q)
 lt:=fun h a n q=>by
  rw [eF] at q
  exact ⟨(S.lt h a n q).1,hb a n q (S.lt h a n q).2⟩
 no:=fun h=>by rw [eF,eM]; exact S.no h
 mb:=fun a n q=>by rw [eF]; exact S.mb a n (by rw [← eM]; exact q)

theorem StR.fro {Y:Wd} {g:Gh} {H:Hp} {s:cj} (S:StR Y g H s) {F':Fr} (e:g.F.le F') (em:F'.m=g.F.m) (hn:∀ a n,g.F.m a=some n→g.F.h a=none→F'.h a=none):StR Y ⟨F',g.B,g.M⟩ H s where
 at_:=fun n c q=>(S.at_ n c q).mono e (fun a k=>⟨e.m _ _ k.m,fun b hb=>k.u b (by rw [← em]; exact hb),hn a n k.m k.f,k.b⟩) fun a u _ h=>h
 lv:=fun a n q=>S.lv a n (by rw [← em]; exact q)
 lt:=fun h a n q=>S.lt h a n (by rw [← em]; exact q)
 no:=fun h=>em.trans (S.no h)
 mb:=fun a n q=>e.m a n (S.mb a n q)

def SlR (Y:Wd) (g:Gh) (H:Hp) (s:Sl) (v:V):Prop :=
 match s.k with
 | .fr=>Rp Y g.F s.d v
 | .bo=>Rp Y g.F s.d v∨TpW Y g.F g.B s.d v
 | .ow=>TpW Y g.F H s.d v∧∀ a,v=.ref a→g.F.h a=none∧g.B a=none∧∀ n,g.F.m a≠some n
 | .nw=>False
structure SR (Y:Wd) (g:Gh) (σ:L2.St) (H:Hp) (l:Lc) (s:cj):Prop where
 sB:Same g.B H
 sF:Same g.F.h H
 len:σ.length=l.length
 sl:∀ (i:Nat) (z:Sl),l[i]?=some (some z)→∃ v,σ[i]?=some (some v)∧SlR Y g H z v
 ow:∀ (i j:Nat) (z y:Sl) (a:Addr),l[i]?=some (some z)→l[j]?=some (some y)→z.k=.ow→y.k=.ow→σ[i]?=some (some (.ref a))→σ[j]?=some (some (.ref a))→i=j
 st:StR Y g H s

def VS (Y:Wd) (g:Gh) (σ:L2.St) (l:Lc) (d:D) (v:V):Prop :=
 Rp Y g.F d v∨TpW Y g.F g.B d v∨∃ i:Nat,σ[i]?=some (some v)∧l[i]?=some (some ⟨.ow,d⟩)

def RdV (Y:Wd) (F:Fr) (H:Hp) (d:D) (v:V):Prop:=Rp Y F d v∨TpW Y F H d v

def VN (Y:Wd) (g:Gh) (σ:L2.St) (H:Hp) (l:Lc) (d:D) (v:V):Prop :=
 ∃ a,v=.ref a∧(g.F.h a=none∧∀ n,g.F.m a≠some n)∧g.B a=none∧TpW Y g.F H d v∧∀ (i:Nat) (d':D),σ[i]?=some (some (.ref a))→l[i]?≠some (some ⟨.ow,d'⟩)
def VR (Y:Wd) (g:Gh) (σ:L2.St) (H:Hp) (l:Lc) (d:D) (t:Tag) (v:V):Prop :=
 match t with
 | .fr=>Rp Y g.F d v
 | .bo=>Rp Y g.F d v∨TpW Y g.F g.B d v
 | .ow=>∃ i:Nat,σ[i]?=some (some v)∧l[i]?=some (some ⟨.ow,d⟩)
 | .nw=>VN Y g σ H l d v
section
variable {Y:Wd} {g g':Gh} {σ:L2.St} {H H':Hp} {l:Lc} {s s':cj} {d:D} {v:V} {t:Tag} {p:Addr} {o:HO}
theorem VS.ext (e:Ext g g') (h:VS Y g σ l d v):VS Y g' σ l d v:=by
 rcases h with h | h | h
 ·exact .inl (h.mono e.f)
 ·exact .inr (.inl (by rw [e.b]; exact h.mono e.f (Same.refl _)))
 ·exact .inr (.inr h)
theorem SR.own (S:SR Y g σ H l s) {i:Nat} (h1:σ[i]?=some (some v)) (h2:l[i]?=some (some ⟨.ow,d⟩)):TpW Y g.F H d v∧∀ a,v=.ref a→g.F.h a=none∧g.B a=none∧∀ n,g.F.m a≠some n:=by
 obtain ⟨v',e,r⟩:=S.sl i _ h2
 rw [h1] at e
 obtain rfl:v=v':=by simpa using e
 exact r
theorem VS.rd (S:SR Y g σ H l s) (h:VS Y g σ l d v):RdV Y g.F H d v:=by
 rcases h with h | h | ⟨i,h1,h2⟩
 ·exact .inl h
 ·exact .inr (h.mono (Fr.le.refl _) S.sB)
 ·exact .inr (S.own h1 h2).1
theorem VS.still (S:SR Y g σ H l s) (h:VS Y g σ l d v) (q:d.still=true):Rp Y g.F d v:=by
 rcases h with h | h | ⟨i,h1,h2⟩
 ·exact h
 ·rw [h.notStill] at q; cases q
 ·rw [(S.own h1 h2).1.notStill] at q; cases q

theorem SR.add (S:SR Y g σ H l s) (hp:H p=some o) (hF:g.F.h p=none) (hm:∀ n,g.F.m p≠some n) (hB:g.B p=none) (ho:∀ (i:Nat) (d':D),σ[i]?=some (some (.ref p))→l[i]?≠some (some ⟨.ow,d'⟩)) :
  SR Y ⟨g.F.upd p o,g.B,g.M⟩ σ H l s∧Ext g ⟨g.F.upd p o,g.B,g.M⟩:=by
 have sm:Same g.F.h (upd g.F.h p o):=fun b u e=>by
  rw [upd_ne (ne_of_none e hF)]
  exact e
 have sl:g.F.le (g.F.upd p o):=⟨sm,fun _ _ h=>h⟩
 refine ⟨⟨S.sB,fun b u e=>?_,S.len,fun i z hz=>?_,S.ow,S.st.fro sl rfl fun a n h1 h2=>?_⟩,⟨rfl,sl,fun a u e n=>?_,rfl⟩⟩
 ·by_cases hb:b=p
  ·subst hb
   have e:upd g.F.h b o b=some u:=e
   rw [upd_same] at e
   rw [hp]
   exact e
  ·have e:upd g.F.h p o b=some u:=e
   rw [upd_ne hb] at e
   exact S.sF b u e
 ·obtain ⟨v,h1,h2⟩:=S.sl i z hz
  refine ⟨v,h1,?_⟩
  obtain ⟨k,d⟩:=z
  cases k with
  | fr=>exact Rp.mono sl h2
  | bo=>exact h2.imp (fun q=>q.mono sl) fun q=>q.mono sl (Same.refl _)
  | ow =>
   refine ⟨h2.1.mono sl (Same.refl _),fun a ea=>⟨?_,(h2.2 a ea).2⟩⟩
   by_cases hb:a=p
   ·subst hb ea
    exact absurd hz (ho i d h1)
   ·show upd g.F.h p o a=none
    rw [upd_ne hb]
    exact (h2.2 a ea).1
  | nw=>exact h2
 ·show upd g.F.h p o a=none
  rw [upd_ne (fun e=>hm n (by rw [← e]; exact h1))]
  exact h2
 ·by_cases hb:a=p
  ·subst hb; exact hB
  ·have e:upd g.F.h p o a=some u:=e
   rw [upd_ne hb,n] at e
   cases e

theorem SR.lay (S:SR Y g σ H l s) (hp:H p=none):SR Y g σ (upd H p o) l s:=by
 have sm:Same H (upd H p o):=fun b u e=>by
  rw [upd_ne (ne_of_none e hp)]
  exact e
 refine ⟨S.sB.trans sm,S.sF.trans sm,S.len,fun i z hz=>?_,S.ow,S.st.heap fun a n u _ h=>sm a u h⟩
 obtain ⟨v,h1,h2⟩:=S.sl i z hz
 refine ⟨v,h1,?_⟩
 obtain ⟨k,d⟩:=z
 cases k with
 | fr=>exact h2
 | bo=>exact h2
 | ow=>exact ⟨h2.1.mono (Fr.le.refl _) sm,h2.2⟩
 | nw=>exact h2
theorem SR.noown (S:SR Y g σ H l s) (hp:H p=none):∀ (i:Nat) (d':D),σ[i]?=some (some (.ref p))→l[i]?≠some (some ⟨.ow,d'⟩):=fun i d' h1 h2=>by
 obtain ⟨a,e,q⟩:=(S.own h1 h2).1.isRef
 cases e
 rw [hp] at q
 cases q
theorem SR.freeB (S:SR Y g σ H l s) (hp:H p=none):g.B p=none:=S.sB.free hp
theorem SR.freeF (S:SR Y g σ H l s) (hp:H p=none):g.F.h p=none:=S.sF.free hp
theorem SR.freeM (S:SR Y g σ H l s) (hp:H p=none):∀ n,g.F.m p≠some n:=fun n q=>by
 have:=S.st.lv p n q
 rw [hp] at this
 cases this

theorem SR.new (S:SR Y g σ H l s) (hp:H p=none):SR Y ⟨g.F.upd p o,g.B,g.M⟩ σ (upd H p o) l s∧Ext g ⟨g.F.upd p o,g.B,g.M⟩ :=
 (S.lay (o:=o) hp).add upd_same (S.freeF hp) (S.freeM hp) (S.freeB hp) (S.noown hp)
theorem SR.newN (S:SR Y g σ H l s) (hp:H p=none) (h:TpW Y g.F (upd H p o) d (.ref p)):VN Y g σ (upd H p o) l d (.ref p) :=
 ⟨p,rfl,⟨S.freeF hp,S.freeM hp⟩,S.freeB hp,h,S.noown hp⟩

theorem VN.keep (S:SR Y g σ H l s) (h:VN Y g σ H l d v):∃ g',Ext g g'∧SR Y g' σ H l s∧Rp Y g'.F d v:=by
 obtain ⟨a,e,hF,hB,tp,no⟩:=h
 subst e
 have key:∀ u,H a=some u→∃ g',Ext g g'∧SR Y g' σ H l s∧g'.F.h a=some u:=fun u hu=>by
  obtain ⟨S',E'⟩:=S.add hu hF.1 hF.2 hB no
  exact ⟨_,E',S',upd_same⟩
 cases tp with
 | lst h r =>
  obtain ⟨g',E',S',hf⟩:=key _ h
  exact ⟨g',E',S',.lst hf (r.mono E'.f)⟩
 | dk h r =>
  obtain ⟨g',E',S',hf⟩:=key _ h
  exact ⟨g',E',S',.dk hf (r.mono E'.f)⟩
 | dt h w r =>
  obtain ⟨g',E',S',hf⟩:=key _ h
  exact ⟨g',E',S',.dt hf w (r.mono E'.f)⟩
theorem VR.stay (S:SR Y g σ H l s) (h:VR Y g σ H l d t v):∃ g',Ext g g'∧SR Y g' σ H l s∧VS Y g' σ l d v:=by
 cases t with
 | fr=>exact ⟨g,.refl g,S,.inl h⟩
 | bo=>exact ⟨g,.refl g,S,h.elim .inl fun q=>.inr (.inl q)⟩
 | ow=>exact ⟨g,.refl g,S,.inr (.inr h)⟩
 | nw =>
  obtain ⟨g',E,S',r⟩:=VN.keep S h
  exact ⟨g',E,S',.inl r⟩
theorem VR.keep (S:SR Y g σ H l s) (h:VR Y g σ H l d t v) (hn:¬ ((t=.bo∨t=.ow)∧d.still=false)):∃ g',Ext g g'∧SR Y g' σ H l s∧Rp Y g'.F d v:=by
 by_cases hd:d.still=true
 ·obtain ⟨g',E,S',q⟩:=VR.stay S h
  exact ⟨g',E,S',q.still S' hd⟩
 ·have hd':d.still=false:=by simpa using hd
  cases t with
  | fr=>exact ⟨g,.refl g,S,h⟩
  | bo=>exact absurd ⟨.inl rfl,hd'⟩ hn
  | ow=>exact absurd ⟨.inr rfl,hd'⟩ hn
  | nw=>exact VN.keep S h
theorem VS.vr (h:VS Y g σ l d v):∃ t,VR Y g σ H l d t v∧t≠.nw:=by
 rcases h with h | h | h
 ·exact ⟨.fr,h,by simp⟩
 ·exact ⟨.bo,.inr h,by simp⟩
 ·exact ⟨.ow,h,by simp⟩

theorem RdV.int {i:Int} (h:RdV Y g.F H (.int i) v):v=.int i:=by
 rcases h with h | h
 ·cases h; rfl
 ·cases h
theorem RdV.bl {i:Bool} (h:RdV Y g.F H (.bl i) v):v=.bl i:=by
 rcases h with h | h
 ·cases h; rfl
 ·cases h
theorem RdV.str {i:Str} (h:RdV Y g.F H (.str i) v):v=.str i:=by
 rcases h with h | h
 ·cases h; rfl
 ·cases h
theorem RdV.non (h:RdV Y g.F H .non v):v=.non:=by
 rcases h with h | h
 ·cases h; rfl
 ·cases h
theorem RdV.tup {ds:List D} (S:SR Y g σ H l s) (h:RdV Y g.F H (.tup ds) v):∃ a vs,v=.ref a∧TuF g.F.h a vs∧TuF H a vs∧Rps Y g.F ds vs:=by
 rcases h with h | h
 ·cases h with
  | tup h r=>exact ⟨_,_,rfl,h,h.mono S.sF,r⟩
 ·cases h
theorem RdV.lst {ds:List D} (S:SR Y g σ H l s) (h:RdV Y g.F H (.lst ds) v):∃ a vs,v=.ref a∧H a=some (.lst vs)∧Rps Y g.F ds vs:=by
 rcases h with h | h
 ·cases h with
  | lst h r=>exact ⟨_,_,rfl,S.sF _ _ h,r⟩
 ·cases h with
  | lst h r=>exact ⟨_,_,rfl,h,r⟩
theorem RdV.arr {ds:List D} (S:SR Y g σ H l s) (h:RdV Y g.F H (.arr ds) v):∃ a vs,v=.ref a∧SqL Y.K H a vs∧Rps Y g.F ds vs:=by
 rcases h with h | h
 ·cases h with
  | arr h r=>exact ⟨_,_,rfl,S.sF.seq h,r⟩
 ·cases h
theorem RdV.dk {ps:List (D × D)} (S:SR Y g σ H l s) (h:RdV Y g.F H (.dic false ps) v):∃ a kvs,v=.ref a∧H a=some (.dK kvs)∧Rpk Y g.F ps kvs:=by
 rcases h with h | h
 ·cases h with
  | dk h r=>exact ⟨_,_,rfl,S.sF _ _ h,r⟩
 ·cases h with
  | dk h r=>exact ⟨_,_,rfl,h,r⟩
theorem RdV.dt {ps:List (D × D)} (S:SR Y g σ H l s) (h:RdV Y g.F H (.dic true ps) v):∃ a ob xs,v=.ref a∧H a=some (kh a ob)∧DtO Y a ob xs∧Rpt Y g.F ps xs:=by
 rcases h with h | h
 ·cases h with
  | dt h w r=>exact ⟨_,_,_,rfl,S.sF _ _ h,w,r⟩
 ·cases h with
  | dt h w r=>exact ⟨_,_,_,rfl,h,w,r⟩
theorem RdV.fd {ps:List (D × D)} (S:SR Y g σ H l s) (h:RdV Y g.F H (.fdc ps) v):∃ a o kvs,v=.ref a∧H a=some (.frz o (.dK kvs))∧Rpk Y g.F ps kvs:=by
 rcases h with h | h
 ·cases h with
  | fd h r=>exact ⟨_,_,_,rfl,S.sF _ _ h,r⟩
 ·cases h
theorem RdV.loc {n:Nat} (h:RdV Y g.F H (.loc n) v):∃ a,v=.ref a∧g.F.m a=some n:=by
 rcases h with h | h
 ·cases h with
  | loc h=>exact ⟨_,rfl,h⟩
 ·cases h
end



structure Gm where
 Y:Wd
 mg:Str→Option Value
 fs:List Fn
 gs:List D

def wG (mg:Str→Option Value) (e:Ex) (c:Value) (dd:Option Addr) (H:Hp):Prop:=mg e.cls=some c∧((e.at_=none∧dd=none)∨∃ (f:Str) (k:Int) (dx:Addr),e.at_=some (.tup [.str f,.int k])∧dd=some dx∧H dx=some (.xd [(f,.int k)]))
def ValE (G:Gm) (W:WX) (g:Gh) (σ:L2.St) (l:Lc) (r:R VT) (Q:VK):Prop :=
 match r with
 | .ok (d,t,s')=>∀ g' v H',Ext g g'→SR G.Y g' σ H' l s'→VR G.Y g' σ H' l d t v→Q v H'
 | .er e s' l'=>∀ g' H' c dd,Ext g g'→SR G.Y g' σ H' l' s'→wG G.mg e c dd H'→W c dd σ H'
 | .no=>False

def ValR {α:Type} (G:Gm) (W:WX) (g:Gh) (σ:L2.St) (r:R α) (K:α→Gh→Prop):Prop :=
 match r with
 | .ok a=>∀ g',Ext g g'→K a g'
 | .er e s' l'=>∀ g' H' c dd,Ext g g'→SR G.Y g' σ H' l' s'→wG G.mg e c dd H'→W c dd σ H'
 | .no=>False
def rd (G:Gm) (W:WX) (x:X):TE:=fun σ H Q=>∃ g l s,SR G.Y g σ H l s∧ValE G W g σ l (b7 G.fs G.gs x l s) Q
section
variable {G:Gm} {W:WX} {g g':Gh} {σ:L2.St} {H H':Hp} {l:Lc} {s s':cj} {x:X} {Q:VK}
theorem ValE.ext (e:Ext g g') {r:R VT} (h:ValE G W g σ l r Q):ValE G W g' σ l r Q:=by
 cases r with
 | ok a=>exact fun g2 v H' e2=>h g2 v H' (e.trans e2)
 | er a b c=>exact fun g2 H' c dd e2=>h g2 H' c dd (e.trans e2)
 | no=>exact h
theorem PE.imp {C:Cx} {e:Expr} {t t':TE} (h:PE C e t) (f:∀ σ H Q,t' σ H Q→t σ H Q):PE C e t':=⟨fun pins s σ H Q I w=>h.run pins s σ H Q I (f σ H Q w)⟩
theorem PT.imp {C:Cx} {e:Expr} {t t':TT} (h:PT C e t) (f:∀ σ H Q,t' σ H Q→t σ H Q):PT C e t':=⟨fun pins s σ H Q I w=>h.run pins s σ H Q I (f σ H Q w)⟩
theorem PA.imp {C:Cx} {e:List Expr} {t t':TA} (h:PA C e t) (f:∀ σ H Q,t' σ H Q→t σ H Q):PA C e t':=⟨fun pos pins s σ H Q I w=>h.run pos pins s σ H Q I (f σ H Q w)⟩
theorem PS.imp {C:Cx} {e:Stmt} {t t':TS} (h:PS C e t) (f:∀ D σ H,t' D σ H→t D σ H):PS C e t':=⟨fun pins s σ H D I w=>h.run pins s σ H D I (f D σ H w)⟩
theorem PSs.imp {C:Cx} {e:List Stmt} {t t':TS} (h:PSs C e t) (f:∀ D σ H,t' D σ H→t D σ H):PSs C e t':=⟨fun pins s σ H D I w=>h.run pins s σ H D I (f D σ H w)⟩

theorem j4 {k:VT→R VT} (S:SR G.Y g σ H l s) (h:ValE G W g σ l ((b7 G.fs G.gs x l s).bind k) Q) {Q2:VK}
  (hk:∀ d t s1 g1 v H1,Ext g g1→SR G.Y g1 σ H1 l s1→VR G.Y g1 σ H1 l d t v→ValE G W g1 σ l (k (d,t,s1)) Q→Q2 v H1):rd G W x σ H Q2:=by
 refine ⟨g,l,s,S,?_⟩
 cases e:b7 G.fs G.gs x l s with
 | ok a =>
  obtain ⟨d,t,s1⟩:=a
  rw [e] at h
  exact fun g1 v H1 e1 S1 v1=>hk d t s1 g1 v H1 e1 S1 v1 (ValE.ext e1 h)
 | er a b c =>
  rw [e] at h
  exact h
 | no =>
  rw [e] at h
  exact h

theorem cu {k:VT→R VT} (S:SR G.Y g σ H l s) (h:ValE G W g σ l ((b7 G.fs G.gs x l s).bind k) Q) {Q2:VK}
  (hk:∀ d t s1 g1 v H1,Ext g g1→SR G.Y g1 σ H1 l s1→VS G.Y g1 σ l d v→ValE G W g1 σ l (k (d,t,s1)) Q→Q2 v H1):rd G W x σ H Q2 :=
 j4 S h fun d t s1 g1 v H1 e1 S1 v1 h1=>by
  obtain ⟨g2,e2,S2,q⟩:=VR.stay S1 v1
  exact hk d t s1 g2 v H1 (e1.trans e2) S2 q (ValE.ext e2 h1)

theorem iu {k:D→cj→R VT} (S:SR G.Y g σ H l s) (h:ValE G W g σ l (cf (b7 G.fs G.gs x l s) k) Q) {Q2:VK}
  (hk:∀ d s1 g1 v H1,Ext g g1→SR G.Y g1 σ H1 l s1→Rp G.Y g1.F d v→ValE G W g1 σ l (k d s1) Q→Q2 v H1):rd G W x σ H Q2 :=
 j4 S h fun d t s1 g1 v H1 e1 S1 v1 h1=>by
  have h1:ValE G W g1 σ l (if (t=.bo∨t=.ow)∧d.still=false then R.no else k d s1) Q:=h1
  by_cases c:(t=.bo∨t=.ow)∧d.still=false
  ·rw [ap c] at h1
   exact h1.elim
  ·rw [av c] at h1
   obtain ⟨g2,e2,S2,q⟩:=VR.keep S1 v1 c
   exact hk d s1 g2 v H1 (e1.trans e2) S2 q (ValE.ext e2 h1)
theorem ValE.frz {d:D} {v:V} (h:ValE G W g σ l (cg d s) Q) (S:SR G.Y g σ H l s) (r:Rp G.Y g.F d v):Q v H:=h g v H (.refl g) S r
theorem ValE.frz' {d:D} {v:V} (h:ValE G W g σ l (cg d s) Q) (e:Ext g g') (S:SR G.Y g' σ H l s) (r:Rp G.Y g'.F d v):Q v H:=h g' v H e S r
theorem ValE.nwo {d:D} {v:V} (h:ValE G W g σ l (dY d s) Q) (S:SR G.Y g σ H l s) (r:VN G.Y g σ H l d v):Q v H:=h g v H (.refl g) S r

theorem ValE.tupN {ds:List D} {vs:List V} (h:ValE G W g σ l (cg (D.tup ds) s) Q) (S:SR G.Y g σ H l s) (r:Rps G.Y g.F ds vs):NT H vs Q:=fun p ob hp hd=>by
 obtain ⟨S',E'⟩:=S.new (o:=.frz ob (.tup vs)) hp
 exact h.frz' E' S' (.tup (.new hd) (r.mono E'.f))

theorem ValE.lstN {ds:List D} {vs:List V} {p:Addr} (h:ValE G W g σ l (dY (D.lst ds) s) Q) (S:SR G.Y g σ H l s) (r:Rps G.Y g.F ds vs) (hp:H p=none):Q (.ref p) (upd H p (.lst vs)) :=
 h.nwo (S.lay hp) (S.newN hp (.lst upd_same r))
end

section
variable {Y:Wd} {F:Fr} {H:Hp} {C:Cx} {pins:List (Addr × Obj)} {σ:L2.St} {s:Shared}
mutual
theorem Rp.nested (I:Inv C pins σ H s) (hF:Same F.h H):∀ {d:D} {q:NestedKey} {v:V} {u:Value},D.nk d=some q→Rp Y F d v→RelV v u→NestedIs s.heap q u
 | .non,q,v,u,h,r,z=>by
  cases (ad h); cases r; cases z; exact .none
 | .int i,q,v,u,h,r,z=>by
  cases (ad h); cases r; obtain ⟨t,rfl⟩:=z; exact .int i t
 | .str i,q,v,u,h,r,z=>by
  cases (ad h); cases r; obtain ⟨t,rfl⟩:=z; exact .text i t
 | .tup xs,q,v,u,h,r,z=>by
  obtain ⟨ks,h1,rfl⟩:=az.mp (show (D.nks xs).map NestedKey.tup=some q from h)
  cases r with
  | tup hf rs =>
   cases z
   obtain ⟨ob0,_,hf⟩:=hf
   obtain ⟨_,hz,its,vr,ob,e,c,n,dd⟩:=I.hok _ _ (hF _ _ hf)
   exact .tup e c dd (by simpa using Rps.nested I hF h1 rs vr)
 | .bl _,_,_,_,h,_,_=>by simp [D.nk] at h
 | .lst _,_,_,_,h,_,_=>by simp [D.nk] at h
 | .arr _,_,_,_,h,_,_=>by simp [D.nk] at h
 | .dic _ _,_,_,_,h,_,_=>by simp [D.nk] at h
 | .loc _,_,_,_,h,_,_=>by simp [D.nk] at h
 | .exc _,_,_,_,h,_,_=>by simp [D.nk] at h
 | .fdc _,_,_,_,h,_,_=>by simp [D.nk] at h
 | .cd _,_,_,_,h,_,_=>by simp [D.nk] at h
theorem Rps.nested (I:Inv C pins σ H s) (hF:Same F.h H):∀ {ds:List D} {ks:List NestedKey} {vs:List V} {us:List Value},D.nks ds=some ks→Rps Y F ds vs→Vals vs us→NestedAll s.heap ks us
 | [],ks,_,_,h,r,z=>by
  cases (ad h); cases r; cases z; exact .nil
 | x :: xs,ks,_,_,h,r,z=>by
  obtain ⟨k,h1,h2⟩:=aU.mp (show (D.nk x).bind (fun k=>(D.nks xs).map (k :: ·))=some ks from h)
  obtain ⟨ks',h3,rfl⟩:=az.mp h2
  cases r with
  | cons r1 r2 =>
   cases z with
   | cons z1 z2=>exact .cons (Rp.nested I hF h1 r1 z1) (Rps.nested I hF h3 r2 z2)
end


theorem Rpt.keys (I:Inv C pins σ H s) (hF:Same F.h H):∀ {ps:List (D × D)} {xs:List (NestedKey × Addr × Value)},Rpt Y F ps xs→∀ x∈xs,(nestedKind C.prog C.w).is s.heap x.1 x.2.1
 | _,_,.nil,x,hx=>by cases hx
 | _,_,.cons (q:=q) (b:=b) h z k r u t,x,hx=>by
  rcases ax.mp hx with rfl | hx
  ·exact ⟨Rp.nested I hF h k rfl,z⟩
  ·exact Rpt.keys I hF t x hx
theorem ub (I:Inv C pins σ H s) {a:Addr} {ob:Obj} (h:H a=some (kh a ob)):s.heap.get? a=some ob:=(I.hok a _ h).1
theorem gk (I:Inv C pins σ H s) (hF:Same F.h H) {a:Addr} {ob:Obj} {xs:List (NestedKey × Addr × Value)} {ps:List (D × D)} (hY:Y.P=C.prog∧Y.w=C.w) (h:H a=some (kh a ob)) (w:DtO Y a ob xs) (r:Rpt Y F ps xs) :
  s.heap.DictOfH (nestedKind C.prog C.w) a xs:=by
 obtain ⟨es,ep,h1,h2⟩:=w.es
 rw [hY.1,hY.2] at h2
 exact ⟨ob,es,ep,ub I h,w.ex,h1,h2,Rpt.keys I hF r,w.nd⟩
theorem ot {P:Program} {w:World} {H':Hp} {h:Heap} {a:Addr} {ob:Obj} (e:h.get? a=some ob):ObjOk P w H' h a (kh a ob):=⟨e,⟨ob,e⟩,fun h1 h2 x k=>k _ x⟩
theorem pq {a:Addr} {ob:Obj}:Mut (some (kh a ob)):=True.intro
end

def qn (Y:Wd) (F:Fr) (k:D) (q:NestedKey) (b:Addr):Prop:=D.nk k=some q∧q.depth≤8∧Rp Y F k (.ref b)
theorem fT {k:D} (h:D.isKey true k=true):∃ q,D.nk k=some q∧q.depth≤8∧∃ xs,k=.tup xs:=by
 unfold D.isKey at h
 rw [ap rfl] at h
 cases k with
 | tup xs =>
  simp only at h
  cases e:D.nk (.tup xs) with
  | none=>rw [e] at h; cases h
  | some q=>rw [e] at h; exact ⟨q,rfl,aY h,xs,rfl⟩
 | _=>cases h
theorem dR {k:D} (h:D.isKey false k=true):∃ q,D.keyOf k=some q:=by
 unfold D.isKey at h
 rw [av (by decide)] at h
 exact a0.mp h
theorem gr {Y:Wd} {F:Fr} {k:D} {q:Key} {v:V} (h:D.keyOf k=some q) (r:Rp Y F k v):v=kV q:=by
 cases k <;> simp only [D.keyOf,bL,reduceCtorEq] at h
 ·subst h; cases r; rfl
 ·subst h; cases r; rfl


def fU (Y:Wd) (F:Fr) (H:Hp) (x y:V) (r:Option V):Prop :=
 (∃ a,x=.ref a∧DGet H a y r) ∨
 (∃ a ob xs ps k q b,x=.ref a∧y=.ref b∧H a=some (kh a ob)∧DtO Y a ob xs∧Rpt Y F ps xs∧Same F.h H∧qn Y F k q b∧RelO r ((atKey xs q).map (·.2))) ∨
 ∃ a kvs z,x=.ref a∧y=.str z∧TbK Y a kvs∧r=(kvs.lookup z).map V.str
section
variable {Y:Wd} {F:Fr} {H:Hp} {C:Cx} {pins:List (Addr × Obj)} {σ:L2.St} {s:Shared} {a:Addr} {x y:V} {o:Option V} {kvs:List (Str × Str)} {E:Value→Shared→Prop}
theorem RdV.look {g:Gh} {l:Lc} {sto:cj} {k:Bool} {ps:List (D × D)} {i:D} (S:SR Y g σ H l sto) (h:RdV Y g.F H (.dic k ps) x) (hi:RdV Y g.F H i y) (hk:D.isKey k i=true) :
  (D.look ps i=none∧fU Y g.F H x y none)∨∃ d v,D.look ps i=some d∧fU Y g.F H x y (some v)∧Rp Y g.F d v:=by
 have hi':Rp Y g.F i y:=by
  rcases hi with hi | hi
  ·exact hi
  ·cases k with
   | true=>obtain ⟨q,_,_,xs,rfl⟩:=fT hk; cases hi
   | false =>
    obtain ⟨q,hq⟩:=dR hk
    cases hi <;> simp [D.keyOf] at hq
 cases k with
 | false =>
  obtain ⟨a,kvs,rfl,hH,r⟩:=h.dk S
  obtain ⟨q,hq⟩:=dR hk
  have ey:=gr hq hi'
  subst ey
  rcases r.look hq with ⟨e1,e2⟩ | ⟨d,v,e1,e2,e3⟩
  ·exact .inl ⟨e1,.inl ⟨a,rfl,by rw [← e2]; exact DGet.k hH⟩⟩
  ·exact .inr ⟨d,v,e1,.inl ⟨a,rfl,by rw [← e2]; exact DGet.k hH⟩,e3⟩
 | true =>
  obtain ⟨a,ob,xs,rfl,hH,w,r⟩:=h.dt S
  obtain ⟨q,hq,hz,zs,rfl⟩:=fT hk
  cases hi' with
  | tup hb hr =>
   rename_i b vs
   have kt:qn Y g.F (.tup zs) q b:=⟨hq,hz,.tup hb hr⟩
   rcases r.look hq with ⟨e1,e2⟩ | ⟨d,v,b',u,e1,e2,ru,e3⟩
   ·exact .inl ⟨e1,.inr (.inl ⟨a,ob,xs,ps,_,q,b,rfl,rfl,hH,w,r,S.sF,kt,by rw [e2]; trivial⟩)⟩
   ·exact .inr ⟨d,v,e1,.inr (.inl ⟨a,ob,xs,ps,_,q,b,rfl,rfl,hH,w,r,S.sF,kt,by rw [e2]; exact ru⟩),e3⟩
theorem RdV.lookF {g:Gh} {l:Lc} {sto:cj} {ps:List (D × D)} {i:D} (S:SR Y g σ H l sto) (h:RdV Y g.F H (.fdc ps) x) (hi:RdV Y g.F H i y) (hk:D.isKey false i=true) :
  (D.look ps i=none∧fU Y g.F H x y none)∨∃ d v,D.look ps i=some d∧fU Y g.F H x y (some v)∧Rp Y g.F d v:=by
 have hi':Rp Y g.F i y:=by
  rcases hi with hi | hi
  ·exact hi
  ·obtain ⟨q,hq⟩:=dR hk
   cases hi <;> simp [D.keyOf] at hq
 obtain ⟨a,o,kvs,rfl,hH,r⟩:=h.fd S
 obtain ⟨q,hq⟩:=dR hk
 have ey:=gr hq hi'
 subst ey
 have dg:DGet H a (kV q) (valV kvs q):=.inl ⟨kvs,q,.inr ⟨o,hH⟩,rfl,rfl⟩
 rcases r.look hq with ⟨e1,e2⟩ | ⟨d,v,e1,e2,e3⟩
 ·exact .inl ⟨e1,.inl ⟨a,rfl,by rw [← e2]; exact dg⟩⟩
 ·exact .inr ⟨d,v,e1,.inl ⟨a,rfl,by rw [← e2]; exact dg⟩,e3⟩
theorem RdV.lookC {g:Gh} {l:Lc} {sto:cj} {z:Str} (S:SR Y g σ H l sto) (h:RdV Y g.F H (.cd kvs) x) (hi:RdV Y g.F H (.str z) y):fU Y g.F H x y ((kvs.lookup z).map V.str):=by
 obtain rfl:=hi.str
 rcases h with h | h
 ·cases h with
  | tb h=>exact .inr (.inr ⟨_,kvs,z,rfl,rfl,h,rfl⟩)
 ·cases h
theorem iw {A:Around} (hu:A.units+64 < cLine):(nestedKind C.prog C.w).room A.in1:=by
 show A.units+1+8 < cLine
 omega
theorem iO (I:Inv C pins σ H s) (hF:Same F.h H) {k:D} {q:NestedKey} {b:Addr} (h:qn Y F k q b):(nestedKind C.prog C.w).is s.heap q b:=⟨Rp.nested I hF h.1 h.2.2 rfl,h.2.1⟩
theorem mG {o:Option V} {p:Option (Addr × Value)} (r:RelO o (p.map (·.2))):o.isSome=p.isSome:=by
 have:=r.isSome_eq
 rw [this,Option.isSome_map]

theorem TbK.get (h:TbK Y a kvs) (hw:Y.w=C.w) (hK:Y.K=C.K) (z:Str):∃ es n o,KDict C.K C.w a es n∧PySem.W.nsIn C.K a z=some o∧RelO ((kvs.lookup z).map V.str) o:=by
 obtain ⟨es,n,d⟩:=h.d
 obtain ⟨o,e,r⟩:=h.at_ z
 rw [hK,hw] at d
 rw [hK] at e
 exact ⟨es,n,o,d,e,r⟩
theorem qo (I:Inv C pins σ H s) (hY:(Y.P=C.prog∧Y.w=C.w)∧Y.K=C.K) {u:Value} (g:fU Y F H x y o) (rx:RelV x u):s.TypeIs u "dict":=by
 rcases g with ⟨a,rfl,g⟩ | ⟨a,ob,xs,ps,k,q,b,rfl,_,h,w,r,hF,_,_⟩ | ⟨a,kvs,z,rfl,_,tb,_⟩
 ·cases rx
  exact dict_typeIs I g
 ·cases rx
  exact (gk I hF hY.1 h w r).typeIs
 ·cases rx
  obtain ⟨es,n,o,d,_,_⟩:=tb.get hY.1.2 hY.2 z
  exact kd_type d I
theorem ou {v:V} {u i:Value} {Q:Value→Shared→Prop} (hu:C.A.units+64 < cLine) (hY:(Y.P=C.prog∧Y.w=C.w)∧Y.K=C.K) (I:Inv C pins σ H s) (g:fU Y F H x y (some v)) (rx:RelV x u) (ry:RelV y i)
  (h:∀ w' s',Inv C pins σ H s'→RelV v w'→Q w' s'):wpAny (model C.prog C.w) C.A (getItem u i) Q E s:=by
 rcases g with ⟨a,rfl,g⟩ | ⟨a,ob,xs,ps,k,q,b,rfl,rfl,hH,w,r,hF,kt,ro⟩ | ⟨a,kvs,z,rfl,rfl,tb,eo⟩
 ·cases rx
  exact d_getItem (by omega) I g ry h
 ·cases rx
  cases ry
  obtain ⟨w',hw,rw'⟩:=RelO.some_of ro
  obtain ⟨p,hp,hp2⟩:=az.mp hw
  refine wpAny_getItem_heap (iw hu) (iO I hF kt) (gk I hF hY.1 hH w r) hp ?_
  rw [hp2]
  exact h w' _ (I.tok _) rw'
 ·cases rx
  obtain ⟨t,rfl⟩:=ry
  obtain ⟨es,n,o,d,e,r⟩:=tb.get hY.1.2 hY.2 z
  rw [← eo] at r
  obtain ⟨w',rfl,rw'⟩:=RelO.some_of r
  exact wpAny_getItem_of (PySem.strKind_is C.prog C.w z t) (PySem.W.mapOf_K (prog:=C.prog) I.kIn d.at_ d.lit) (PySem.W.find_K d.at_ e) (h w' _ (I.tok _) rw')
theorem z7 {u i:Value} {Q:Value→Shared→Prop} (hu:C.A.units+64 < cLine) (hY:(Y.P=C.prog∧Y.w=C.w)∧Y.K=C.K) (I:Inv C pins σ H s) (g:fU Y F H x y o) (rx:RelV x u) (ry:RelV y i) (h:∀ s',Inv C pins σ H s'→Q (.bool o.isSome) s') :
  wpAny (model C.prog C.w) C.A (compareOp .In i u) Q E s:=by
 rcases g with ⟨a,rfl,g⟩ | ⟨a,ob,xs,ps,k,q,b,rfl,rfl,hH,w,r,hF,kt,ro⟩ | ⟨a,kvs,z,rfl,rfl,tb,eo⟩
 ·cases rx
  exact d_in (by omega) I g ry h
 ·cases rx
  cases ry
  refine wpAny_in_heap (iw hu) (iO I hF kt) w.nm (gk I hF hY.1 hH w r) ?_
  rw [← mG ro]
  exact h _ (I.tok _)
 ·cases rx
  obtain ⟨t,rfl⟩:=ry
  obtain ⟨es,n,o2,d,e,r⟩:=tb.get hY.1.2 hY.2 z
  rw [← eo] at r
  refine wpAny_in_of (PySem.strKind_is C.prog C.w z t) d.low (PySem.W.mapOf_K (prog:=C.prog) I.kIn d.at_ d.lit) ?_
  rw [PySem.W.find_K d.at_ e,← r.isSome_eq]
  exact h _ (I.tok _)
theorem rC {u i:Value} {Q:Value→Shared→Prop} (hu:C.A.units+64 < cLine) (hY:(Y.P=C.prog∧Y.w=C.w)∧Y.K=C.K) (I:Inv C pins σ H s) (g:fU Y F H x y o) (rx:RelV x u) (ry:RelV y i) (h:∀ s',Inv C pins σ H s'→Q (.bool (!o.isSome)) s') :
  wpAny (model C.prog C.w) C.A (compareOp .NotIn i u) Q E s:=by
 rcases g with ⟨a,rfl,g⟩ | ⟨a,ob,xs,ps,k,q,b,rfl,rfl,hH,w,r,hF,kt,ro⟩ | ⟨a,kvs,z,rfl,rfl,tb,eo⟩
 ·cases rx
  exact d_notIn (by omega) I g ry h
 ·cases rx
  cases ry
  refine wpAny_notIn_heap (iw hu) (iO I hF kt) w.nm (gk I hF hY.1 hH w r) ?_
  rw [← mG ro]
  exact h _ (I.tok _)
 ·cases rx
  obtain ⟨t,rfl⟩:=ry
  obtain ⟨es,n,o2,d,e,r⟩:=tb.get hY.1.2 hY.2 z
  rw [← eo] at r
  refine wpAny_notIn_of (PySem.strKind_is C.prog C.w z t) d.low (PySem.W.mapOf_K (prog:=C.prog) I.kIn d.at_ d.lit) ?_
  rw [PySem.W.find_K d.at_ e,← r.isSome_eq]
  exact h _ (I.tok _)
theorem kj {h:Heap} {P:Program} {w:World} {d:Addr} {xs:List (NestedKey × Addr × Value)} (x:h.DictOfH (nestedKind P w) d xs):h.DictKeyed (nestedKind P w) d (pairsH xs):=⟨xs,x,rfl⟩
theorem uc {u i:Value} {Q:Value→Shared→Prop} (hu:C.A.units+64 < cLine) (hY:(Y.P=C.prog∧Y.w=C.w)∧Y.K=C.K) (I:Inv C pins σ H s) (g:fU Y F H x y o) (rx:RelV x u) (ry:RelV y i) (h:∀ w' s',Inv C pins σ H s'→RelV (o.getD .non) w'→Q w' s') :
  wpAny (model C.prog C.w) C.A (call (.builtin "dict.get") [u,i]) Q E s:=by
 rcases g with ⟨a,rfl,g⟩ | ⟨a,ob,xs,ps,k,q,b,rfl,rfl,hH,w,r,hF,kt,ro⟩ | ⟨a,kvs,z,rfl,rfl,tb,eo⟩
 ·cases rx
  exact d_get1 (by omega) I g ry h
 ·cases rx
  cases ry
  refine get_keyed (iw hu) (iO I hF kt) w.nm (kj (gk I hF hY.1 hH w r)) ?_
  rw [valueAt_pairsH]
  exact h _ _ (I.tok _) (ro.getD rfl)
 ·cases rx
  obtain ⟨t,rfl⟩:=ry
  obtain ⟨es,n,o2,d,e,r⟩:=tb.get hY.1.2 hY.2 z
  rw [← eo] at r
  refine call_meetsIn PySem.F.slot_dict_get (kd_type d I) PySem.F.entry_dict_get (PySem.F.args_dict_get_2 _ _) (meets_dict_get (PySem.strKind C.prog C.w) a (PySem.strKind_is C.prog C.w z t) d.low) ⟨_,PySem.W.mapOf_K (prog:=C.prog) I.kIn d.at_ d.lit,h _ _ (I.tok _) ?_⟩
  rw [PySem.W.find_K d.at_ e]
  exact r.getD rfl
theorem ud {z:V} {u i j:Value} {Q:Value→Shared→Prop} (hu:C.A.units+64 < cLine) (hY:(Y.P=C.prog∧Y.w=C.w)∧Y.K=C.K) (I:Inv C pins σ H s) (g:fU Y F H x y o) (rx:RelV x u) (ry:RelV y i) (rz:RelV z j)
  (h:∀ w' s',Inv C pins σ H s'→RelV (o.getD z) w'→Q w' s'):wpAny (model C.prog C.w) C.A (call (.builtin "dict.get") [u,i,j]) Q E s:=by
 rcases g with ⟨a,rfl,g⟩ | ⟨a,ob,xs,ps,k,q,b,rfl,rfl,hH,w,r,hF,kt,ro⟩ | ⟨a,kvs,z,rfl,rfl,tb,eo⟩
 ·cases rx
  exact d_get2 (by omega) I g ry rz h
 ·cases rx
  cases ry
  refine getOr_keyed (iw hu) (iO I hF kt) w.nm (kj (gk I hF hY.1 hH w r)) ?_
  rw [valueAt_pairsH]
  exact h _ _ (I.tok _) (ro.getD rz)
 ·cases rx
  obtain ⟨t,rfl⟩:=ry
  obtain ⟨es,n,o2,d,e,r⟩:=tb.get hY.1.2 hY.2 z
  rw [← eo] at r
  refine call_meetsIn PySem.F.slot_dict_get (kd_type d I) PySem.F.entry_dict_get (PySem.F.args_dict_get_3 _ _ _) (meets_dict_get_default (PySem.strKind C.prog C.w) a (PySem.strKind_is C.prog C.w z t) d.low j) ⟨_,PySem.W.mapOf_K (prog:=C.prog) I.kIn d.at_ d.lit,h _ _ (I.tok _) ?_⟩
  rw [PySem.W.find_K d.at_ e]
  exact r.getD rz
end

theorem oy {Y:Wd} {F:Fr} {H:Hp} {C:Cx} {pins:List (Addr × Obj)} {σ:L2.St} {s:Shared} {a b:Addr} {ob:Obj} {xs:List (NestedKey × Addr × Value)} {ps:List (D × D)} {k:D} {q:NestedKey} {v:V} {r:Value} {E:Value→Shared→Prop} {Q:Unit→Shared→Prop}
  (hu:C.A.units+64 < cLine) (hY:Y.P=C.prog∧Y.w=C.w) (I:Inv C pins σ H s) (hH:H a=some (kh a ob)) (w:DtO Y a ob xs) (rp:Rpt Y F ps xs) (hF:Same F.h H) (kt:qn Y F k q b) (rv:RelV v r) (hz:xs.length < sizeLine)
  (h:∀ ob' s',DtO Y a ob' (storedH xs q b r)→Inv C pins σ (upd H a (kh a ob')) s'→Q () s'):wpAny (model C.prog C.w) C.A (setItem (.ref a) (.ref b) r) Q E s:=by
 refine wpAny_setItem_heap (hsz:=Nat.le_of_lt hz) (iw hu) (iO I hF kt) (gk I hF hY hH w rp) fun h' dd' hs=>?_
 obtain ⟨o',es,ep,h1,h2,h3,h4,_,h5⟩:=dd'
 refine h o' _ ⟨h2,w.nm,⟨es,ep,h3,by rw [hY.1,hY.2]; exact h4⟩,h5,?_⟩ (d_write I (by rw [hH]; exact pq) hs ⟨o',h1⟩ (ot h1))
 have:=w.sz
 unfold storedH
 split
 ·rw [ac]; exact this
 ·rw [ae]; exact hz

theorem rD {Y:Wd} {C:Cx} {pins:List (Addr × Obj)} {σ:L2.St} {H:Hp} {s:Shared} (I:Inv C pins σ H s) :
  ∃ ob,DtO Y s.heap.objs.size ob []∧Inv C pins σ (upd H s.heap.objs.size (kh s.heap.objs.size ob)) { s with heap:=s.heap.push { cls:=.type "dict",data:=.dict #[] } } :=
 ⟨{ cls:=.type "dict",data:=.dict #[] },⟨⟨rfl,rfl,rfl⟩,bp.mpr (Ne.symm (aT I.big)),⟨#[],0,rfl,rfl⟩,List.nodup_nil,aV _⟩,
  I.laid (a:=s.heap.objs.size) (o:=kh s.heap.objs.size { cls:=.type "dict",data:=.dict #[] }) (t':=s.toks) (fun _ _ q=>Heap.get?_push_of_some _ q) (aA _) (ot (Heap.get?_push_size _ rfl))⟩
theorem km (l:Addr) (items:Array Value) (n:Nat) (dd:Option Addr) (sl:Array (Option Value)) (x:Int) (u:Tok) (c0:(decide (x < -(2 ^ 63)) || decide (x ≥ 2 ^ 63))=false) (c1:(items.isEmpty || x == 1)=true) :
  Meets (Builtin.«tuple.__mul__» ⟨[.ref l,.int x u],[]⟩) (fun _ R s=>s.heap.get? l=some { cls:=.type "tuple",dict:=dd,data:=.seq items n,slots:=sl } ∧
   R (.ok (.ret (Value.ref l))) s) :=
 .of_wp fun prog w A R s h=>by
  obtain ⟨hp,g,d,tk,os⟩:=s
  obtain ⟨hl,h⟩:=h
  have f1:=PySem.AutoSeq1.idx_int
  wp_walk using PySem.AutoSeq1.wpAny_loadPart' hl
  repeat (first
   | (refine wpAny_ite_false (aH (by rw [c0]; exact aa)) ?_; wp_walk using PySem.AutoSeq1.wpAny_loadPart' hl)
   | (refine wpAny_ite_true (aI c1) ?_; wp_walk using PySem.AutoSeq1.wpAny_loadPart' hl))
  exact ⟨_,rfl,h⟩
theorem ko (l:Addr) (items:Array Value) (n:Nat) (dd:Option Addr) (sl:Array (Option Value)) (x:Int) (u:Tok) (c0:(decide (x < -(2 ^ 63)) || decide (x ≥ 2 ^ 63))=false) (c1:(items.isEmpty || x == 1)=false) (c2:(decide (x≤0) || items.isEmpty)=true) :
  Meets (Builtin.«tuple.__mul__» ⟨[.ref l,.int x u],[]⟩) (fun _ R s=>s.heap.get? l=some { cls:=.type "tuple",dict:=dd,data:=.seq items n,slots:=sl } ∧
   R (.ok (.ret (Value.ref s.heap.objs.size))) { s with heap:=s.heap.push { cls:=Value.type "tuple",data:=Data.seq #[] },toks:=s.toks }) :=
 .of_wp fun prog w A R s h=>by
  obtain ⟨hp,g,d,tk,os⟩:=s
  obtain ⟨hl,h⟩:=h
  have f1:=PySem.AutoSeq1.idx_int
  wp_walk using PySem.AutoSeq1.wpAny_loadPart' hl
  repeat (first
   | (refine wpAny_ite_false (aH (by rw [c0]; exact aa)) ?_; wp_walk using PySem.AutoSeq1.wpAny_loadPart' hl)
   | (refine wpAny_ite_false (aH (by rw [c1]; exact aa)) ?_; wp_walk using PySem.AutoSeq1.wpAny_loadPart' hl)
   | (refine wpAny_ite_true (aI c2) ?_; wp_walk using PySem.AutoSeq1.wpAny_loadPart' hl))
  exact ⟨_,rfl,h⟩

def wa (K:PySem.W.Frag):R2:=fun x y H Q=>∃ l k xs,x=.ref l∧y=.int k∧SqT K H l xs∧-(2 ^ 63)≤k∧k < 2 ^ 63∧xs.length*k.toNat≤sizeLine ∧
 (xs=[]∨k=1→Q (.ref l) H)∧(xs≠[]→k≠1→NT H (List.replicate k.toNat xs).flatten Q)
theorem op_repA {C:Cx}:OpR C (binaryOp .Mult) (wa C.K):=by
 intro pins s σ H x y v u Q I rx ry h
 obtain ⟨l,k,xs,rfl,rfl,hT,h1,h2,hz,q1,q2⟩:=h
 cases rx
 obtain ⟨t,rfl⟩:=ry
 obtain ⟨its,r,⟨⟨cls,dd,data,sl⟩,ho,hc,n,hd⟩,hs⟩:=I.tuple hT
 simp only at hc hd
 subst hc hd
 have hle:its.length=xs.length:=r.length.symm
 have c0:(decide (k < -(2 ^ 63)) || decide (k ≥ 2 ^ 63))=false:=by
  rw [aH (by omega),aH (by omega)] <;> rfl
 by_cases hs1:xs=[]∨k=1
 ·have c1:(its.toArray.isEmpty || k == 1)=true:=by
   rcases hs1 with e | e
   ·subst e
    have:its=[]:=a8 hle
    subst this
    rfl
   ·rw [e]
    simp
  refine wpAny_binaryOp_repeat_ref (T:="tuple") (U:="int") (by decide) ⟨_,ho,rfl⟩ (fun s'=>typeIs_int s' k t) noFill_tuple_mul F.fills_int_mul F.slot_int_rmul repeat_tuple F.slot_int_index.lookup
   (call_meets F.slot_int_rmul (typeIs_int s k t) F.entry_int_rmul (F.args_int_rmul_2 _ _) (int_rmul_tuple k t l its.toArray n dd sl)
    ⟨ho,rfl,⟨_,ho,rfl⟩,call_meets F.slot_tuple_mul ⟨_,ho,rfl⟩ F.entry_tuple_mul (F.args_tuple_mul_2 _ _) (km l its.toArray n dd sl k t c0 c1) ⟨ho,?_⟩⟩)
  exact ⟨.ref l,H,I,rfl,q1 hs1⟩
 ·have hne:xs≠[]:=fun e=>hs1 (.inl e)
  have hk1:k≠1:=fun e=>hs1 (.inr e)
  have hn:its≠[]:=fun e=>hne (by
   rw [e] at hle
   exact a8 hle.symm)
  have hi:its.toArray.isEmpty=false:=by
   cases its with
   | nil=>exact absurd rfl hn
   | cons a b=>rfl
  have c1:(its.toArray.isEmpty || k == 1)=false:=by
   rw [hi,Bool.false_or]
   exact bp.mpr hk1
  have hsz0:its.toArray.size=xs.length:=by rw [aO,hle]
  have flen:(List.replicate k.toNat its).flatten.length≤sizeLine:=by
   rw [PyProof.Rows.lm_len_rep_flat,hle,Nat.mul_comm]
   exact hz
  by_cases h0:k≤0
  ·have c2:(decide (k≤0) || its.toArray.isEmpty)=true:=by
    rw [aI h0]
    rfl
   refine wpAny_binaryOp_repeat_ref (T:="tuple") (U:="int") (by decide) ⟨_,ho,rfl⟩ (fun s'=>typeIs_int s' k t) noFill_tuple_mul F.fills_int_mul F.slot_int_rmul repeat_tuple F.slot_int_index.lookup
    (call_meets F.slot_int_rmul (typeIs_int s k t) F.entry_int_rmul (F.args_int_rmul_2 _ _) (int_rmul_tuple k t l its.toArray n dd sl)
     ⟨ho,rfl,⟨_,ho,rfl⟩,call_meets F.slot_tuple_mul ⟨_,ho,rfl⟩ F.entry_tuple_mul (F.args_tuple_mul_2 _ _) (ko l its.toArray n dd sl k t c0 c1 c2) ⟨ho,?_⟩⟩)
   have ez:(List.replicate k.toNat xs).flatten=[]:=by rw [show k.toNat=0 by omega]; rfl
   have q:=q2 hne hk1
   rw [ez] at q
   exact iZ (its:=[]) I .nil (aV _) q
  ·have hm:((its.toArray.size:Nat):Int)*k≤(sizeLine:Nat):=by
    rw [hsz0]
    have e:k=((k.toNat:Nat):Int):=by omega
    rw [e,← Int.natCast_mul]
    exact Int.ofNat_le.mpr hz
   have hsl:((sizeLine:Nat):Int)=16777216:=by rw [sizeLine_eq]; rfl
   have c2:(decide (k≤0) || its.toArray.isEmpty)=false:=by
    rw [hi,Bool.or_false]
    exact aH (by omega)
   have c4:Builtin.Tuple.tupleTooMany (((its.toArray.size:Nat):Int)*k)=false:=by
    unfold Builtin.Tuple.tupleTooMany
    exact aH (by omega)
   refine wpAny_binaryOp_repeat_ref (T:="tuple") (U:="int") (by decide) ⟨_,ho,rfl⟩ (fun s'=>typeIs_int s' k t) noFill_tuple_mul F.fills_int_mul F.slot_int_rmul repeat_tuple F.slot_int_index.lookup
    (call_meets F.slot_int_rmul (typeIs_int s k t) F.entry_int_rmul (F.args_int_rmul_2 _ _) (int_rmul_tuple k t l its.toArray n dd sl)
     ⟨ho,rfl,⟨_,ho,rfl⟩,call_meets F.slot_tuple_mul ⟨_,ho,rfl⟩ F.entry_tuple_mul (F.args_tuple_mul_2 _ _) (tuple_mulW l its.toArray n dd sl k t c0 c1 c2 (by omega) c4 (by rw [size_rep,aO]; exact flen)) ⟨ho,?_⟩⟩)
   rw [size_rep]
   exact iZ I (r.rep k.toNat) (by rw [PyProof.Rows.lm_len_rep_flat,Nat.mul_comm]; exact hz) (q2 hne hk1)


structure Sc where
 N:List Str
 sc:Scope
 cs:List Str
 gn:List Str
 top:Bool
 hot:Bool
 en:List Str
 hn:List Str
 /-- classes' fields,methods by their place among the callees,makings -/
 fl:List (Str × Str)
 mt:List (Nat × Str × Str)
 mks:List (Nat × Str)
 /-- classes that isinstance asks an exception for,by their place among the callees; callees that a suite may call with its exception -/
 xs:List (Nat × Str)
 hx:List Nat
 /-- classes that isinstance asks an instance for -/
 ic:List Str
 /-- exceptions' fields that their classes' own __init__ keeps -/
 ea:List (Str × Str)
def fV (sc:Scope) (x:Str):Bool:=match sc.names.lookup x with
 | some .local=>true
 | some .cell=>true
 | some .free=>true
 | _=>false
def kq (sc:Scope) (x:Str):Bool:=match sc.names.lookup x with
 | some .local=>true
 | some .cell=>true
 | _=>false
def fW (sc:Scope) (x:Str):Bool:=match sc.names.lookup x with
 | some .local=>true
 | _=>false
def cP (sc:Scope) (x:Str):Bool:=match sc.names.lookup x with
 | some .globalImplicit=>true
 | _=>false
def dZ (x:Str):Bool:=!(x == ("__debug__":Str)) && !(x == ("__classdict__":Str)) && !(x == ("__name__":Str))
def bZ:Expr→Bool
 | .Starred _ _=>false
 | _=>true
def cM:Expr→Bool
 | .Slice _ _ _ _=>false
 | _=>true
def gU:Expr→Bool
 | .Set _ _ _=>false
 | _=>true

def ue:Expr→Bool
 | .Name _ _=>true
 | .List _ _=>true
 | .Dict _ _ _=>true
 | .Call _ _ _ _=>true
 | .Attribute _ _ _=>true
 | .Subscript _ _ _=>true
 | _=>false

def cD:Expr→Bool
 | .Call _ [] _ _=>false
 | _=>true
def BOp.op:BOp→Operator
 | .add=>.Add | .sub=>.Sub | .mul=>.Mult | .fdiv=>.FloorDiv | .mod=>.Mod | .pow=>.Pow
def COp.op:COp→CmpOp
 | .eq=>.Eq | .ne=>.NotEq | .lt=>.Lt | .le=>.LtE | .gt=>.Gt | .ge=>.GtE | .isin=>.In | .notin=>.NotIn | .isn=>.Is | .isnn=>.IsNot
def Dd (o:BOp) (p:Operator):Bool:=match o,p with
 | .add,.Add=>true | .sub,.Sub=>true | .mul,.Mult=>true | .fdiv,.FloorDiv=>true | .mod,.Mod=>true | .pow,.Pow=>true
 | _,_=>false
def uf (o:COp) (p:CmpOp):Bool:=match o,p with
 | .eq,.Eq=>true | .ne,.NotEq=>true | .lt,.Lt=>true | .le,.LtE=>true | .gt,.Gt=>true | .ge,.GtE=>true | .isin,.In=>true | .notin,.NotIn=>true | .isn,.Is=>true | .isnn,.IsNot=>true
 | _,_=>false
theorem wH {o:BOp} {p:Operator} (h:Dd o p=true):p=o.op:=by cases o <;> cases p <;> first | rfl | cases h
theorem lJ {o:COp} {p:CmpOp} (h:uf o p=true):p=o.op:=by cases o <;> cases p <;> first | rfl | cases h

def jx (o:COp) (b:Expr):Bool:=match o with
 | .isn=>(match b with | .Constant .none _ _=>true | .Constant (.bool _) _ _=>true | _=>false)
 | .isnn=>(match b with | .Constant .none _ _=>true | _=>false)
 | .isin=>!behindInMarks .In b
 | .notin=>!behindInMarks .NotIn b
 | _=>true
def BI.nm:BI→Str
 | .len=>"len" | .abs=>"abs" | .max2=>"max" | .min2=>"min" | .maxl=>"max" | .minl=>"min" | .all=>"all" | .any=>"any" | .sum=>"sum" | .sorted=>"sorted"
 | .tuple=>"tuple" | .list=>"list" | .dict=>"dict" | .str=>"str" | .int=>"int"
def MI.nm:MI→Str
 | .get1=>"get" | .get2=>"get" | .index=>"index" | .join=>"join" | .split=>"split"
def MI.args:MI→Nat
 | .get1=>1 | .get2=>2 | .index=>1 | .join=>1 | .split=>1
def MI.has:MI→Bool
 | .get1=>true | .get2=>true | .index=>true | _=>false
def MI.txt:MI→Bool
 | .join=>true | .split=>true | _=>false
def X.len:X→Nat
 | .cons _ b=>b.len+1
 | _=>0
def jW (N:List Str) (own:List Nat):List (Str × Nat):=own.map fun i=>(N.getD i "",i)
mutual
def oA (S:Sc):T→Expr→Bool
 | .n i,.Name x _=>decide (S.N[i]?=some x) && kq S.sc x && (S.top || fW S.sc x)
 | .t ts,.Tuple es _ _=>!S.hot && lK S ts es
 | _,_=>false
def lK (S:Sc):T→List Expr→Bool
 | .nil,[]=>true
 | .cons a b,e :: es=>bZ e && oA S a e && lK S b es
 | _,_=>false
end

mutual
def cm (S:Sc):X→Expr→Bool
 | .v i,.Name x _=>decide (S.N[i]?=some x) && fV S.sc x && dZ x
 | .kn,.Constant .none _ _=>true
 | .kb b,.Constant (.bool c) _ _=>b == c
 | .ki i,.Constant (.int c) _ _=>decide (i=c)
 | .ks i,.Constant (.str c) _ _=>decide (i=c)
 | .g j,.Name x _=>decide (S.gn[j]?=some x) && cP S.sc x && dZ x
 | .tup es,.Tuple l _ _=>gV S es l
 | .lst es,.List l _=>gV S es l
 | .dic _ .nil .nil,.Dict [] [] _=>true
 | .dic _ #v[a] #v[b],.Dict [some e] [f] _=>cm S a e && cm S b f
 | .bin o a b,.BinOp l p r _=>Dd o p && cm S a l && cm S b r
 | .neg a,.UnaryOp .USub e _=>cm S a e
 | .not a,.UnaryOp .Not e _=>cm S a e
 | .cmp o a b,.Compare l [p] [r] _=>uf o p && jx o r && cm S a l && cm S b r
 | .chn o q a b c,.Compare l [p,p2] [r,r2] _=>uf o p && uf q p2 && !lastMarks [p,p2] [r,r2] && jx o r && jx q r2 && cm S a l && cm S b r && cm S c r2
 | .and es,.BoolOp .And l _=>l.length ≥ 1 && gV S es l
 | .or es,.BoolOp .Or l _=>l.length ≥ 1 && gV S es l
 | .ite c a b,.IfExp e f g _=>cm S c e && cm S a f && cm S b g
 | .sl a lo hi,.Subscript e (.Slice p q none _) _=>cm S a e && (match p with | none=>lo.isNil | some f=>!lo.isNil && cm S lo f) && (match q with | none=>hi.isNil | some f=>!hi.isNil && cm S hi f)
 | .rsl a,.Subscript e (.Slice none none (some (.UnaryOp .USub (.Constant (.int n) _ _) _)) _) _=>decide (n=1) && cm S a e
 | .ssl a k,.Subscript e (.Slice none none (some f) _) _=>!k.isNil && cm S a e && cm S k f
 | .ix a i,.Subscript e f _=>cM f && cm S a e && cm S i f
 | .calS j es,.Call (.Name x _) l [] _=>!S.hot && decide (S.cs[j]?=some x) && cP S.sc x && dZ x && l.length ≥ 1 && gV S es l
 | .calD j es,.Call (.Name x _) l [] _=>!S.hot && decide (S.cs[j]?=some x) && cP S.sc x && dZ x && l.length ≥ 1 && gV S es l
 | .call j es,.Call (.Name x _) l [] _=>!S.hot && decide (S.cs[j]?=some x) && cP S.sc x && dZ x && gV S es l
 | .new a,e=>ue e && cm S a e
 | .frz a,e=>ue e && cm S a e
 | .frzs a,e=>ue e && cm S a e
 | .rdl f a,.Call (.Name x _) [e] [] _=>!S.hot && decide (x=f.nm) && cP S.sc x && bZ e && cm S a e
 | .kd a,e=>ue e && cm S a e
 | .dis ps,.Dict ks vs _=>decide (1≤ks.length) && decide (ks.length≤15) && rE S ps ks vs
 | .xis j a,.Call (.Name x _) [e,.Name y _] [] _=>decide (x="isinstance") && cP S.sc x && S.xs.contains (j,y) && cP S.sc y && dZ y && bZ e && cm S a e
 | .isc c a,.Call (.Name x _) [e,.Name y _] [] _=>decide (x="isinstance") && cP S.sc x && decide (y=c) && S.ic.contains c && cP S.sc y && dZ y && bZ e && cm S a e
 | .calX j a,.Call (.Name x _) [e] [] _=>S.hx.contains j && decide (S.cs[j]?=some x) && cP S.sc x && dZ x && bZ e && cm S a e
 | .inl b k a,.Compare l [p] [r] _=>uf (if b=true then .notin else .isin) p && jx (if b=true then .notin else .isin) r && cm S k l && cm S a r
 | .ixl a k,.Subscript e f _=>cM f && cm S a e && cm S k f
 | .fld c f a,.Attribute e nm _=>decide (nm=f) && S.fl.contains (c,f) && cD e && cm S a e
 | .rm m a b,.Call (.Attribute o nm apos) [f] [] cpos=>m.txt && decide (nm=m.nm) && (apos.endLine == cpos.line) && cD o && bZ f && cm S a o && cm S b f
 | .popk a k,.Call (.Attribute o nm apos) [f] [] cpos=>decide (nm="pop") && (apos.endLine == cpos.line) && cD o && bZ f && cm S a o && cm S k f
 | .popl a,.Call (.Attribute o nm apos) [] [] cpos=>decide (nm="pop") && (apos.endLine == cpos.line) && cD o && cm S a o
 | .mth c m j o es,.Call (.Attribute e nm apos) l [] cpos=>!S.hot && decide (nm=m) && S.mt.contains (j,c,m) && (apos.endLine == cpos.line) && decide (l.length < 30) && cD e && cm S o e && gV S es l
 | .mk c j es,.Call (.Name x _) l [] _=>!S.hot && decide (x=c) && S.mks.contains (j,c) && cP S.sc x && dZ x && l.length ≥ 1 && gV S es l
 | .bi f es,.Call (.Name x _) l [] _=>!S.hot && decide (x=f.nm) && cP S.sc x && l.length ≥ 1 && gV S es l
 | .tupI it,.Call (.Name x _) [e] [] _=>!S.hot && decide (x="tuple") && cP S.sc x && bZ e && lL S it e
 | .lstI it,.Call (.Name x _) [e] [] _=>!S.hot && decide (x="list") && cP S.sc x && bZ e && lL S it e
 | .trev a,.Call (.Name x _) [.Call (.Name y _) [e] [] _] [] _=>!S.hot && decide (x="tuple") && decide (y="reversed") && cP S.sc x && cP S.sc y && bZ e && cm S a e
 | .sset a,.Call (.Name x _) [.Call (.Name y _) [e] [] _] [] _=>!S.hot && decide (x="sorted") && decide (y="set") && cP S.sc x && cP S.sc y && bZ e && cm S a e
 | .lset a,.Call (.Name x _) [.Call (.Name y _) [e] [] _] [] _=>!S.hot && decide (x="len") && decide (y="set") && cP S.sc x && cP S.sc y && bZ e && cm S a e
 | .isi a t,.Call (.Name x _) [e,.Name y _] [] _=>decide (x="isinstance") && cP S.sc x && decide (y=Str.ofString t.nm) && cP S.sc y && bZ e && cm S a e
 | .mt m o es,.Call (.Attribute e nm apos) l [] cpos=>decide (nm=m.nm) && (m.has && decide (l.length=m.args)) && decide (es.len=m.args) && (apos.endLine == cpos.line) && cD e && cm S o e && gV S es l
 | .comp own t it c e,.ListComp el [⟨tg,ite,ifs,0⟩] scope _ =>
   !S.hot && blkC S.N S.sc scope (jW S.N own) && (T.slots t).all (fun i=>own.contains i) && gU ite && mH S it tg ite && oA { S with sc:=relS scope S.sc,top:=false } t tg && cm { S with sc:=relS scope S.sc,top:=false } e el &&
   (match ifs with | []=>c.isNil | [f]=>!c.isNil && cm { S with sc:=relS scope S.sc,top:=false } c f | _=>false)
 | .comE own t it j es,.ListComp (.Call (.Name x _) l [] _) [⟨tg,ite,[],0⟩] scope _ =>
   !S.hot && S.top && blkC S.N S.sc scope (jW S.N own) && (T.slots t).all (fun i=>own.contains i) && gU ite && mH S it tg ite && oA { S with sc:=relS scope S.sc,top:=false } t tg &&
   (decide (S.cs[j]?=some x) && cP (relS scope S.sc) x && dZ x && l.length ≥ 1 && gV { S with sc:=relS scope S.sc,top:=false } es l)
 | _,_=>false
def rE (S:Sc):X→List (Option Expr)→List Expr→Bool
 | .nil,[],[]=>true
 | .cons (.ks z) (.cons b r),some (.Constant (.str c) _ _) :: ks,f :: vs=>decide (z=c) && bZ f && cm S b f && rE S r ks vs
 | _,_,_=>false
def gV (S:Sc):X→List Expr→Bool
 | .nil,[]=>true
 | .cons a b,e :: es=>bZ e && cm S a e && gV S b es
 | _,_=>false
def lL (S:Sc):X→Expr→Bool
 | .rng1 a,.Call (.Name x _) [e] [] _=>decide (x="range") && cP S.sc x && bZ e && cm S a e
 | .rng2 a b,.Call (.Name x _) [e,f] [] _=>decide (x="range") && cP S.sc x && bZ e && bZ f && cm S a e && cm S b f
 | _,_=>false
def mH (S:Sc):X→Expr→Expr→Bool
 | .rng1 a,_,.Call (.Name x _) [e] [] _=>decide (x="range") && cP S.sc x && bZ e && cm S a e
 | .rng2 a b,_,.Call (.Name x _) [e,f] [] _=>decide (x="range") && cP S.sc x && bZ e && bZ f && cm S a e && cm S b f
 | .rng3 a b c,_,.Call (.Name x _) [e,f,k] [] _=>decide (x="range") && cP S.sc x && bZ e && bZ f && bZ k && cm S a e && cm S b f && cm S c k
 | .enumK a n,.Tuple _ _ _,.Call (.Name x _) [e] [⟨some kw,.Constant (.int i) _ _,_⟩] _=>decide (x="enumerate") && decide (kw="start") && decide (i=(n:Nat)) && decide (n < 1000) && cP S.sc x && bZ e && cm S a e
 | .enum a 0,.Tuple _ _ _,.Call (.Name x _) [e] [] _=>decide (x="enumerate") && cP S.sc x && bZ e && cm S a e
 | .zip a b,.Tuple _ _ _,.Call (.Name x _) [e,f] [] _=>decide (x="zip") && cP S.sc x && bZ e && bZ f && cm S a e && cm S b f
 | .it a,_,e=>gU e && cm S a e
 | .keys a,_,e=>gU e && cm S a e
 | .items a,.Tuple _ _ _,.Call (.Attribute e nm apos) [] [] cpos=>decide (nm="items") && (apos.endLine == cpos.line) && cD e && cm S a e
 | _,_,_=>false
end


section
variable {sc:Scope} {x:Str}
theorem mI (h:fV sc x=true):Vis sc x:=by
 unfold fV at h
 split at h <;> first | cases h | skip
 ·exact .inl (by assumption)
 ·exact .inr (.inl (by assumption))
 ·exact .inr (.inr (by assumption))
theorem hW (h:kq sc x=true):Loc sc x:=by
 unfold kq at h
 split at h <;> first | cases h | skip
 ·exact .inl (by assumption)
 ·exact .inr (by assumption)
theorem fe (h:fW sc x=true):sc.names.lookup x=some .local:=by
 unfold fW at h
 split at h <;> first | assumption | cases h
theorem wI (h:cP sc x=true):sc.names.lookup x=some .globalImplicit:=by
 unfold cP at h
 split at h <;> first | assumption | cases h
theorem di (h:dZ x=true):(x == ("__debug__":Str))=false:=by
 simp only [dZ,ab,aw] at h
 exact h.1.1
theorem oB (h:dZ x=true):(x == ("__classdict__":Str))=false:=by
 simp only [dZ,ab,aw] at h
 exact h.1.2
theorem bY {e:Expr} {es:List Expr} {env:Env} (h:bZ e=true):starEach (e :: es) env=(false,eval e env) :: starEach es env:=by
 cases e <;> first | rfl | cases h
theorem iL {e:Expr} {es:List Expr} {env:Env} (h:bZ e=true):assignEach (e :: es) env=(false,assign e env) :: assignEach es env:=by
 cases e <;> first | rfl | cases h
theorem dh:∀ {es:List Expr} {env:Env} {pos:Pos},es.all bZ=true→(backTo pos (starEach es env)).any (·.1)=false
 | [],_,_,_=>rfl
 | e :: es,env,pos,h=>by
  rw [a5,ab] at h
  rw [bY h.1]
  show ((false:Bool) || (backTo pos (starEach es env)).any (·.1))=false
  rw [dh h.2]
  rfl
theorem iM {f:Expr} (h:cM f=true):PlainIx f:=fun o i=>by
 cases f <;> first | rfl | cases h
end

structure Gn where
 Y:Wd
 mg:Str→Option Value
 fs:List Fn
 gs:List D
 lv:Nat
 ms:Str→Str→Option Bool
abbrev Gn.gm (G:Gn):Gm:=⟨G.Y,G.mg,G.fs,G.gs⟩

def ArgR (Y:Wd) (g:Gh):List Bool→List D→List V→Prop
 | _,[],[]=>True
 | kp,d :: ds,v :: vs=>(if kp.headD false=true then Rp Y g.F d v else Rp Y g.F d v∨TpW Y g.F g.B d v)∧ArgR Y g kp.tail ds vs
 | _,_,_=>False

def De (Y:Wd) (F':Fr) (H H':Hp) (d:D) (t:Tag) (v:V):Prop :=
 match t with
 | .fr=>Rp Y F' d v
 | .nw=>∃ p,v=.ref p∧F'.h p=none∧H p=none∧TpW Y F' H' d v
 | _=>False

def Df (Y:Wd) (F':Fr) (B H':Hp) (d:D) (t:Tag) (v:V):Prop :=
 match t with
 | .fr=>Rp Y F' d v
 | .nw=>∃ p,v=.ref p∧(F'.h p=none∧∀ n,F'.m p≠some n)∧B p=none∧TpW Y F' H' d v
 | _=>False

def FT (Y:Wd) (mg:Str→Option Value) (f:Fn):Sp:=fun vs H Q E=>∃ (F:Fr) (ds:List D),Same F.h H∧(∀ a n,F.m a=some n→(H a).isSome=true)∧ArgR Y ⟨F,H,F.m⟩ f.kp ds vs ∧
 match f.run ds with
 | .ok (d,t)=>∀ F' H' v,Same H H'→Same F'.h H'→F'.m=F.m→Ext ⟨F,H,F.m⟩ ⟨F',H,F.m⟩→De Y F' H H' d t v→Q v H'
 | .er e _ _=>∀ H' c dd,Same H H'→wG mg e c dd H'→E c dd H'
 | .no=>False

def FU (Y:Wd) (mg:Str→Option Value) (f:Fn):Sp:=fun vs H Q E=>∃ (F:Fr) (B:Hp) (ds:List D) (s:cj),s≠[]∧Same B H∧Same F.h H∧StR Y ⟨F,B,F.m⟩ H s∧ArgR Y ⟨F,B,F.m⟩ f.kp ds vs ∧
 match f.runS ds s with
 | .ok (d,t,s')=>s'≠[]∧∀ F' H' v,Same B H'→Same F'.h H'→Ext ⟨F,B,F.m⟩ ⟨F',B,F.m⟩→StR Y ⟨F',B,F.m⟩ H' s'→Df Y F' B H' d t v→Q v H'
 | .er e s' _=>s'≠[]∧∀ F' H' c dd,Same B H'→Same F'.h H'→Ext ⟨F,B,F.m⟩ ⟨F',B,F.m⟩→StR Y ⟨F',B,F.m⟩ H' s'→wG mg e c dd H'→E c dd H'
 | .no=>False
def gh (Y:Wd) (mg:Str→Option Value) (f:Fn):Sp:=fun vs H Q E=>FT Y mg f vs H Q E∨FU Y mg f vs H Q E

def wJ (K:PySem.W.Frag) (mg:Str→Option Value) (x:Str):Prop:=∃ (Ca:Addr) (bmB:List Value) (B newId initId:String),ExcBaseFacts B newId initId bmB∧PySem.W.excIn K Ca bmB newId=true∧mg x=some (.ref Ca) ∧
 PySem.W.keepIn K (.ref Ca)=true∧PySem.W.subIn K (.ref Ca) (.type "BaseException")=some true∧PySem.W.typeIn K (.ref Ca)=some (.type "type")

def Dg (mg:Str→Option Value) (nm:Str) (oe:Obj):Prop:=∃ (cv:Value) (dd:Option Addr),mg nm=some cv∧Zc cv dd oe∧∃ vs,oe.data=.fields vs

def FnX (P:Program) (w:World) (K:PySem.W.Frag) (mg:Str→Option Value) (base:Heap) (k:Nat) (f:Addr) (fd:FuncData) (ps:List Str) (F:Fn):Prop :=
 ps.length=1∧∀ (A:Around) (outer:List Env) (s:Shared) (H:Hp) (p:Addr × Obj) (nm:Str) (Q:VK),L2H.RoomH k A→L2H.PinOk outer H s p→Env0 P w K mg base A outer s H→Dg mg nm p.2→BindsTo s fd ⟨[.ref p.1],[]⟩ (ps.zip [.ref p.1]) →
  (match F.run [.exc nm] with
   | .ok (d,.fr)=>d.flat=true∧∀ H' v,Same H H'→(∀ Y F',Rp Y F' d v)→Q v H'
   | _=>False) →
  codeAny (model P w) A (.call (.ref f) ⟨[.ref p.1],[]⟩) (CR (L2.CX P w) outer P w H s Q (fun _ _ _=>False)) s
theorem FnX.mono {P:Program} {w:World} {K:PySem.W.Frag} {mg:Str→Option Value} {base:Heap} {j k:Nat} {f:Addr} {fd:FuncData} {ps:List Str} {F:Fn} (h:FnX P w K mg base j f fd ps F) (hk:j≤k):FnX P w K mg base k f fd ps F :=
 ⟨h.1,fun A outer s H p nm Q hr=>h.2 A outer s H p nm Q (hr.mono hk)⟩

def CW (K:PySem.W.Frag) (mg:Str→Option Value) (ms:Str→Str→Option Bool):Prop:=∀ (x y:Str) (b:Bool),ms x y=some b→∃ Ca,mg x=some (.ref Ca)∧L2.ExcC K Ca∧PySem.W.subIn K (.ref Ca) (.ref Ca)=some true∧((∃ Cb,mg y=some (.ref Cb))∨(y="ValueError"∧mg y=none∧PySem.W.kitOne K (.ref Ca) (.type "ValueError")=some b))

def FV (K:PySem.W.Frag) (f:Str):Sp:=fun vs H Q E=>∃ (a C:Addr) (y:V),vs=[.ref a,y]∧OexC K C∧PySem.W.findIn K (.ref C) f=some none∧H a=some (exo a C none)∧∀ dx,H dx=none→dx≠a→Q .non (upd (upd H dx (exd dx [(f,y)])) a (exo a C (some dx)))

def rF (P:Program) (w:World) (K:PySem.W.Frag) (mg:Str→Option Value) (base:Heap) (lv:Nat) (c f:Str):Prop :=
 ∃ (Ca fI:Addr) (fd:FuncData) (ps:List Str) (k:Nat),mg c=some (.ref Ca)∧OexC K Ca∧XfC K Ca∧PySem.W.findIn K (.ref Ca) f=some none∧PySem.W.findIn K (.ref Ca) "__init__"=some (some (.ref fI)) ∧
  PySem.W.typeIn K (.ref fI)=some (.type "function")∧k+1≤lv∧FnOk P w K mg base (L2.CX P w) k fI fd ps (FV K f)∧Binds K fd ps []
structure Gd (C:Cx) (S:Sc) (G:Gn) (W:WX):Prop where
 N:C.N=S.N
 nd:S.N.Nodup
 sc:C.env.scope=S.sc
 cool:S.hot=false→C.calm=true∧Room G.lv C.A
 un:C.A.units+200 < cLine
 top:S.top=true→(∀ x,C.fn x=true)∧C.stack=C.env :: C.outer∧C.env.frame=some C.env.locals
 tk:Takes C W
 Y:G.Y=⟨C.prog,C.w,C.K,G.Y.pn⟩
 mg:G.mg=C.mg
 fns:S.hot=false→∀ (j:Nat) (f:Str) (F:Fn),S.cs[j]?=some f→G.fs[j]?=some F→∃ a fd ps,FnOk C.prog C.w C.K C.mg C.base (L2.CX C.prog C.w) G.lv a fd ps (gh G.Y G.mg F)∧C.mg f=some (.ref a)∧PySem.W.keepIn C.K (.ref a)=true∧Binds C.K fd ps []
 blt:∀ n∈blts,C.mg n=none
 gns:∀ (j:Nat) (x:Str) (d:D),S.gn[j]?=some x→G.gs[j]?=some d→∃ v u,C.mg x=some u∧RelV v u∧∀ pn F,Rp ⟨C.prog,C.w,C.K,pn⟩ F d v
 exs:∀ x∈S.en,wJ C.K C.mg x
 hns:∀ x∈S.hn,∃ c,C.mg x=some c
 ms:∀ (x y:Str) (b:Bool) (c d:Value),G.ms x y=some b→C.mg x=some c→C.mg y=some d→PySem.W.exmOne C.K c d=some b
 fl:∀ c f,(c,f)∈S.fl→L2.Cls C.K (He.ga C.K c)∧L2.NoAttr C.K (He.ga C.K c) f
 mt:S.hot=false→∀ j c m F,(j,c,m)∈S.mt→G.fs[j]?=some F→∃ a fd ps,FnOk C.prog C.w C.K C.mg C.base (L2.CX C.prog C.w) G.lv a fd ps (gh G.Y G.mg F)∧L2.Cls C.K (He.ga C.K c)∧L2.Meth C.K (He.ga C.K c) m a∧Binds C.K fd ps []
 mks:S.hot=false→∀ j c F,(j,c)∈S.mks→G.fs[j]?=some F→∃ k a fd ps,k+1≤G.lv∧FnOk C.prog C.w C.K C.mg C.base (L2.CX C.prog C.w) k a fd ps (gh G.Y G.mg F)∧L2.Mk C.K (He.ga C.K c) a∧C.mg c=some (.ref (He.ga C.K c))∧Binds C.K fd ps []
 px:∀ a nm,G.Y.pn a=some nm→∃ oe,(a,oe)∈C.pn∧Dg C.mg nm oe
 px0:S.hot=false→G.Y.pn=jw
 rmh:L2H.RoomH G.lv C.A
 xs:∀ j c F,(j,c)∈S.xs→G.fs[j]?=some F→F=tZ G.ms c
 hx:∀ j f F,j∈S.hx→S.cs[j]?=some f→G.fs[j]?=some F→∃ a fd ps,FnX C.prog C.w C.K C.mg C.base G.lv a fd ps F∧C.mg f=some (.ref a)∧PySem.W.keepIn C.K (.ref a)=true∧Binds C.K fd ps []
 xi:S.xs≠[]→CW C.K C.mg G.ms
 isc:∀ c,c∈S.ic→C8.InsC C.K (He.ga C.K c)∧C.mg c=some (.ref (He.ga C.K c))
 ea:S.hot=false→∀ c f,(c,f)∈S.ea→rF C.prog C.w C.K C.mg C.base G.lv c f
section
variable {C:Cx} {S:Sc} {G:Gn} {W:WX}
theorem Gd.gl (B:Gd C S G W) {x:Str} (h:cP S.sc x=true):Gl C x:=by
 show C.env.scope.names.lookup x=_
 rw [B.sc]
 exact wI h
theorem Gd.vis (B:Gd C S G W) {x:Str} (h:fV S.sc x=true):Vis C.env.scope x:=by
 rw [B.sc]
 exact mI h
theorem Gd.hu (B:Gd C S G W):C.A.units+64 < cLine:=by have:=B.un; omega
theorem Gd.calm (B:Gd C S G W) (h:S.hot=false):C.calm=true:=(B.cool h).1
theorem Gd.room (B:Gd C S G W) (h:S.hot=false):Room G.lv C.A:=(B.cool h).2
theorem Gd.hY (B:Gd C S G W):G.Y.P=C.prog∧G.Y.w=C.w:=by rw [B.Y]; exact ⟨rfl,rfl⟩
theorem Gd.hK (B:Gd C S G W):G.Y.K=C.K:=by rw [B.Y]
end
def wb:R2:=fun x y H Q=>∃ z k,x=.str z∧y=.int k∧-(2 ^ 63)≤k∧k < 2 ^ 63∧z.length*k.toNat≤sizeLine∧Q (.str (lE z k.toNat)) H
theorem pw (a:Array Nat):∀ (n:Nat) (b:Array Nat),((List.replicate n a).foldl (·++·) b).toList=b.toList++(List.replicate n a.toList).flatten
 | 0,b=>by simp
 | n+1,b=>by
  rw [bw,List.foldl_cons,pw a n (b++a),bw,List.flatten_cons,Array.toList_append,bc]
theorem ug {C:Cx}:OpR C (binaryOp .Mult) wb:=by
 intro pins s σ H x y v u Q I rx ry h
 obtain ⟨z,k,rfl,rfl,h1,h2,hz,q⟩:=h
 obtain ⟨t,rfl⟩:=rx
 obtain ⟨t',rfl⟩:=ry
 have big:sizeLine=16777216:=by symm
 have c0:(decide (k < -(2 ^ 63)) || decide (k ≥ 2 ^ 63))=false:=by
  rw [aH (by omega),aH (by omega)] <;> rfl
 refine P.mul_str c0 (fun h3 _ h5=>?_) (fun h3 h4=>?_) ?_
 ·have e:((k.toNat:Nat):Int)=k:=by omega
  have h6:(z.length:Int)*k≤16777216:=by
   rw [← e,← Int.natCast_mul]
   omega
  have:(z.length:Int)≤(2 ^ 63 - 1) / k:=Int.le_ediv_of_mul_le (by omega) (by omega)
  omega
 ·unfold Builtin.Str.tooLong
  exact aH (by omega)
 ·by_cases h3:k < 1
  ·rw [ap h3]
   have e:lE z k.toNat=Str.empty:=by rw [show k.toNat=0 by omega]; rfl
   rw [e] at q
   exact ⟨by decide,⟨.str Str.empty,H,I.tok _,⟨_,rfl⟩,q⟩⟩
  ·rw [av h3]
   by_cases h4:(k == 1 || z.length == 0)=true
   ·rw [ap h4]
    have e:lE z k.toNat=z:=by
     refine TL.ext_tl ?_
     show (List.replicate k.toNat z.cps.toList).flatten=z.cps.toList
     rw [bC,bS,bS] at h4
     rcases h4 with h4 | h4
     ·rw [h4]; simp
     ·have:z.cps.toList=[]:=a8 (by rw [← h4]; exact aW)
      rw [this]
      simp
    rw [e] at q
    exact ⟨.str z,H,I.tok _,⟨_,rfl⟩,q⟩
   ·rw [av h4]
    have e:(⟨(List.replicate k.toNat z.cps).foldl (·++·) #[]⟩:Str)=lE z k.toNat:=by
     refine TL.ext_tl ?_
     show ((List.replicate k.toNat z.cps).foldl (·++·) #[]).toList=(List.replicate k.toNat z.cps.toList).flatten
     rw [pw]
     rfl
    rw [e]
    refine ⟨?_,⟨.str (lE z k.toNat),H,I.tok _,⟨_,rfl⟩,q⟩⟩
    show (lE z k.toNat).length≤_
    have:(lE z k.toNat).length=z.length*k.toNat:=by
     show (List.replicate k.toNat z.cps.toList).flatten.toArray.size=_
     rw [aO,PyProof.Rows.lm_len_rep_flat]
     first
     | rfl
     | (rw [Nat.mul_comm]; rfl)
    omega
section
variable {G:Gm} {W:WX} {g g':Gh} {σ:L2.St} {H H':Hp} {l:Lc} {s s':cj} {Q:VK} {d e:D} {v w:V}

mutual
theorem Rp.dp {Y:Wd} {F:Fr} {H:Hp} (hF:Same F.h H):∀ {d:D} {v:V},d.seq=true→Rp Y F d v→Dp Y.K H v d.py
 | _,_,_,.non=>.non
 | _,_,_,.bl b=>.bl b
 | _,_,_,.int i=>.int i
 | _,_,_,.str x=>.str x
 | _,_,h,.tup e r=>.tup (e.mono hF).sq (Rps.dp hF h r)
 | _,_,h,.lst e r=>.lst (.inl (.inl (hF _ _ e))) (Rps.dp hF h r)
 | _,_,h,.arr e r=>by cases h
 | _,_,h,.dk e r=>by cases h
 | _,_,h,.dt e o r=>by cases h
 | _,_,h,.loc e=>by cases h
 | _,_,h,.exc e=>by cases h
 | _,_,h,.fd e r=>by cases h
 | _,_,h,.tb e=>by cases h
theorem Rps.dp {Y:Wd} {F:Fr} {H:Hp} (hF:Same F.h H):∀ {ds:List D} {vs:List V},D.seqs ds=true→Rps Y F ds vs→DpAll Y.K H vs (D.pys ds)
 | _,_,_,.nil=>.nil
 | d :: ds,_,h,.cons a b=>by
  have h':(d.seq && D.seqs ds)=true:=h
  rw [ab] at h'
  exact .cons (Rp.dp hF h'.1 a) (Rps.dp hF h'.2 b)
end

theorem RdV.dp (S:SR G.Y g σ H l s) (q:d.seq=true) (h:RdV G.Y g.F H d v):Dp G.Y.K H v d.py:=by
 rcases h with h | h
 ·exact h.dp S.sF q
 ·cases h with
  | lst h r=>exact .lst (.inl (.inl h)) (r.dp S.sF q)
  | dk h r=>cases q
  | dt h o r=>cases q
theorem RdV.isNon (h:RdV G.Y g.F H d v):decide (v=V.non)=decide (d=D.non):=by
 rcases h with h | h <;> cases h <;> simp
theorem oC (x:D):∀ ds:List D,((D.pys ds).any fun z=>PyData.eqv z x.py)=ds.any fun y=>D.eqv y x
 | []=>rfl
 | d :: ds=>by
  show (PyData.eqv d.py x.py || (D.pys ds).any fun z=>PyData.eqv z x.py)=_
  rw [oC x ds,bW]
  rfl

def bR (K:PySem.W.Frag):BOp→R2
 | .add=>fun x y H Q=>(∃ i j,x=.int i∧y=.int j∧Q (.int (i+j)) H)∨(∃ i j,x=.str i∧y=.str j∧i.length+j.length≤sizeLine∧Q (.str (i++j)) H)∨v9 K x y H Q∨rCat x y H Q
 | .sub=>rI0 fun i j=>.int (i - j)
 | .mul=>fun x y H Q=>(∃ i j,x=.int i∧y=.int j∧CMul i j∧Q (.int (i*j)) H)∨wa K x y H Q∨rRep x y H Q∨wb x y H Q
 | .fdiv=>rI CDiv fun i j=>.int (i / j)
 | .mod=>rI (fun _ j=>0 < j) fun i j=>.int (i % j)
 | .pow=>rI CPow fun i j=>.int (i ^ j.toNat)
theorem Aa {C:Cx} (o:BOp):OpR C (binaryOp o.op) (bR C.K o):=by
 cases o with
 | add=>exact op_add.or (op_add_str.or (op_catX.or op_cat))
 | sub=>exact op_sub
 | mul=>exact op_mul.or (op_repA.or (op_rep.or ug))
 | fdiv=>exact op_fdiv
 | mod=>exact op_mod
 | pow=>exact op_pow
theorem wK (S:SR G.Y g σ H l s) {o:BOp} (h:ValE G W g σ l (BOp.run o d e s) Q) (v1:RdV G.Y g.F H d v) (v2:RdV G.Y g.F H e w):bR G.Y.K o v w H Q:=by
 cases o with
 | add =>
  cases d <;> cases e <;> first | exact h.elim | skip
  ·exact .inl ⟨_,_,v1.int,v2.int,h.frz S (.int _)⟩
  ·rename_i x y
   have h:ValE G W g σ l (if x.length+y.length≤sizeLine then cg (.str (x++y)) s else .no) Q:=h
   split at h
   ·exact .inr (.inl ⟨_,_,v1.str,v2.str,by assumption,h.frz S (.str _)⟩)
   ·exact h.elim
  ·rename_i xs ys
   have h:ValE G W g σ l (if xs.length+ys.length≤sizeLine then cg (.tup (xs++ys)) s else .no) Q:=h
   split at h
   ·rename_i hz
    obtain ⟨a,vs,rfl,fa,ha,ra⟩:=v1.tup S
    obtain ⟨b,ws,rfl,fb,hb,rb⟩:=v2.tup S
    refine .inr (.inr (.inl ⟨a,b,vs,ws,rfl,rfl,ha.sq,hb.sq,by rw [← ra.length,← rb.length]; exact hz,fun z=>?_,fun _ z=>?_,fun _ _=>?_⟩))
    ·subst z
     cases ra
     exact h.frz S (.tup fb rb)
    ·subst z
     cases rb
     rw [aX] at h
     exact h.frz S (.tup fa ra)
    ·exact h.tupN S (ra.append rb)
   ·exact h.elim
  ·rename_i xs ys
   have h:ValE G W g σ l (if xs.length+ys.length≤sizeLine then dY (.lst (xs++ys)) s else .no) Q:=h
   split at h
   ·rename_i hz
    obtain ⟨a,vs,rfl,ha,ra⟩:=v1.lst S
    obtain ⟨b,ws,rfl,hb,rb⟩:=v2.lst S
    exact .inr (.inr (.inr ⟨a,b,vs,ws,rfl,rfl,ha,hb,by rw [← ra.length,← rb.length]; exact hz,fun p hp=>h.lstN S (ra.append rb) hp⟩))
   ·exact h.elim
 | sub =>
  cases d <;> cases e <;> first | exact h.elim | skip
  exact ⟨_,_,v1.int,v2.int,h.frz S (.int _)⟩
 | mul =>
  cases d <;> cases e <;> first | exact h.elim | skip
  ·rename_i i j
   have h:ValE G W g σ l (if (-(2 ^ 64) < i∧i < 2 ^ 64)∨(-(2 ^ 64) < j∧j < 2 ^ 64) then cg (.int (i*j)) s else .no) Q:=h
   split at h
   ·exact .inl ⟨_,_,v1.int,v2.int,by assumption,h.frz S (.int _)⟩
   ·exact h.elim
  ·rename_i z k
   have h:ValE G W g σ l (if -(2 ^ 63)≤k∧k < 2 ^ 63∧z.length*k.toNat≤sizeLine then cg (.str (lE z k.toNat)) s else .no) Q:=h
   split at h
   ·rename_i hz
    exact .inr (.inr (.inr ⟨z,k,v1.str,v2.int,hz.1,hz.2.1,hz.2.2,h.frz S (.str _)⟩))
   ·exact h.elim
  ·rename_i xs k
   have h:ValE G W g σ l (if -(2 ^ 63)≤k∧k < 2 ^ 63∧xs.length*k.toNat≤sizeLine then cg (.tup (List.replicate k.toNat xs).flatten) s else .no) Q:=h
   split at h
   ·rename_i hz
    obtain ⟨a,vs,rfl,fa,ha,ra⟩:=v1.tup S
    refine .inr (.inl ⟨a,k,vs,rfl,v2.int,ha.sq,hz.1,hz.2.1,by rw [← ra.length]; exact hz.2.2,fun z=>?_,fun _ _=>h.tupN S (ra.rep _)⟩)
    have e:(List.replicate k.toNat xs).flatten=xs:=by
     rcases z with z | z
     ·subst z
      cases ra
      simp
     ·subst z
      simp
    rw [e] at h
    exact h.frz S (.tup fa ra)
   ·exact h.elim
  ·rename_i xs k
   have h:ValE G W g σ l (if -(2 ^ 63)≤k∧k < 2 ^ 63∧xs.length*k.toNat≤sizeLine then dY (.lst (List.replicate k.toNat xs).flatten) s else .no) Q:=h
   split at h
   ·rename_i hz
    obtain ⟨a,vs,rfl,ha,ra⟩:=v1.lst S
    exact .inr (.inr (.inl ⟨a,k,vs,rfl,v2.int,ha,hz.1,hz.2.1,by rw [← ra.length]; exact hz.2.2,fun p hp=>h.lstN S (ra.rep _) hp⟩))
   ·exact h.elim
 | fdiv =>
  cases d <;> cases e <;> first | exact h.elim | skip
  rename_i i j
  have h:ValE G W g σ l (if 0 < j∧j < 1073741824 then cg (.int (i / j)) s else .no) Q:=h
  split at h
  ·exact ⟨_,_,v1.int,v2.int,by assumption,h.frz S (.int _)⟩
  ·exact h.elim
 | mod =>
  cases d <;> cases e <;> first | exact h.elim | skip
  rename_i i j
  have h:ValE G W g σ l (if 0 < j then cg (.int (i % j)) s else .no) Q:=h
  split at h
  ·exact ⟨_,_,v1.int,v2.int,by assumption,h.frz S (.int _)⟩
  ·exact h.elim
 | pow =>
  cases d <;> cases e <;> first | exact h.elim | skip
  rename_i i j
  have h:ValE G W g σ l (if 0≤j∧j≤1000000∧i.natAbs < 2 ^ 64 then cg (.int (i ^ j.toNat)) s else .no) Q:=h
  split at h
  ·exact ⟨_,_,v1.int,v2.int,by assumption,h.frz S (.int _)⟩
  ·exact h.elim

def Ab (Y:Wd) (neg:Bool):R2:=fun x y H Q=>∃ F o,fU Y F H y x o∧Q (.bl (if neg then !o.isSome else o.isSome)) H
def cR (Y:Wd):COp→R2
 | .lt=>rI0 fun i j=>.bl (decide (i < j))
 | .le=>rI0 fun i j=>.bl (decide (i≤j))
 | .gt=>rI0 fun i j=>.bl (decide (j < i))
 | .ge=>rI0 fun i j=>.bl (decide (j≤i))
 | .isn=>fun x y H Q=>(y=.non∧Q (.bl (decide (x=.non))) H)∨∃ a b,x=.bl a∧y=.bl b∧Q (.bl (decide (a=b))) H
 | .isnn=>fun x y H Q=>y=.non∧Q (.bl (!decide (x=.non))) H
 | .eq=>rEqD Y.K
 | .ne=>rNeD Y.K
 | .isin=>fun x y H Q=>Ab Y false x y H Q∨(∃ i j,x=.str i∧y=.str j∧Q (.bl (!(Builtin.Str.occurrences j i 0 j.length 1).isEmpty)) H)∨rInD Y.K x y H Q∨rIn Y.K false x y H Q
 | .notin=>fun x y H Q=>Ab Y true x y H Q∨(∃ i j,x=.str i∧y=.str j∧Q (.bl (!(!(Builtin.Str.occurrences j i 0 j.length 1).isEmpty))) H)∨rNotInD Y.K x y H Q∨rIn Y.K true x y H Q
theorem wL {X:Cx}:OpR X (compareOp .Is) (fun x y H Q=>∃ a b,x=.bl a∧y=.bl b∧Q (.bl (decide (a=b))) H):=by
 intro pins s σ H x y v u Q I rx ry h
 obtain ⟨a,b,rfl,rfl,q⟩:=h
 cases rx
 cases ry
 cases a <;> cases b <;> exact wpAny_pure (fin_bl I q rfl)
theorem jM {C:Cx} {Y:Wd} (hu:C.A.units+65 < cLine) {pn:Addr→Option Str} (hY:Y=⟨C.prog,C.w,C.K,pn⟩) (o:COp):OpR C (compareOp o.op) (cR Y o):=by
 subst hY
 cases o with
 | lt=>exact op_lt
 | le=>exact op_le
 | gt=>exact op_gt
 | ge=>exact op_ge
 | isn=>exact op_isN.or wL
 | isnn=>exact op_notN
 | eq=>exact op_eqD (by omega)
 | ne=>exact op_neD (by omega)
 | isin =>
  refine OpR.or ?_ (op_in_str.or ((op_inD hu).or op_in_seq))
  intro pins s σ H x y v u Q I rx ry h
  obtain ⟨F,o,dl,q⟩:=h
  exact z7 (by omega) ⟨⟨rfl,rfl⟩,rfl⟩ I dl ry rx fun s' I'=>⟨.bl o.isSome,H,I',rfl,q⟩
 | notin =>
  refine OpR.or ?_ (op_notin_str.or ((op_notInD hu).or op_notIn_seq))
  intro pins s σ H x y v u Q I rx ry h
  obtain ⟨F,o,dl,q⟩:=h
  exact rC (by omega) ⟨⟨rfl,rfl⟩,rfl⟩ I dl ry rx fun s' I'=>⟨.bl (!o.isSome),H,I',rfl,q⟩
theorem iP {a b:D} (h:D.eqOk a b=true):a.seq=true∧b.seq=true∧SeqAt.shaped a.py=true∧SeqAt.shaped b.py=true:=by
 simp only [D.eqOk,ab] at h
 exact ⟨h.1.1.1,h.1.1.2,h.1.2,h.2⟩
theorem jy:∀ zs:List Str,(zs.map V.str).all flatV=true
 | []=>rfl
 | _ :: r=>by rw [aG,a5,jy r]; rfl
theorem ku (x:Str):∀ zs:List Str,inV (.str x) (zs.map V.str)=decide (x∈zs)
 | []=>rfl
 | z :: r=>by
  have ih:=ku x r
  unfold inV at ih ⊢
  rw [aG,bW,ih]
  by_cases e:x=z
  ·subst e
   simp [eqV]
  ·have e2:¬ z=x:=fun q=>e q.symm
   simp [eqV,e,e2]
theorem j5 {Y:Wd} {F:Fr}:∀ {ds:List D} {vs:List V} {b:Bool},Rps Y F ds vs→gQ ds=some b→vs.all flatV=true∧inV .non vs=b
 | [],_,b,.nil,h=>by
  cases h
  exact ⟨rfl,rfl⟩
 | d :: ds,_,b,.cons r1 r2,h=>by
  cases d with
  | non =>
   cases r1
   cases e:gQ ds with
   | none =>
    have h:(gQ ds).map (fun _=>true)=some b:=h
    rw [e] at h
    cases h
   | some c =>
    have h:(gQ ds).map (fun _=>true)=some b:=h
    rw [e] at h
    cases h
    obtain ⟨i1,i2⟩:=j5 r2 e
    exact ⟨by rw [a5,i1]; rfl,rfl⟩
  | int i =>
   cases r1
   obtain ⟨i1,i2⟩:=j5 r2 (show gQ ds=some b from h)
   exact ⟨by rw [a5,i1]; rfl,i2⟩
  | str x =>
   cases r1
   obtain ⟨i1,i2⟩:=j5 r2 (show gQ ds=some b from h)
   exact ⟨by rw [a5,i1]; rfl,i2⟩
  | _=>cases h
theorem mJ (S:SR G.Y g σ H l s) {ys:List D} (hx:D.eqOk d (.lst ys)=true) (v1:RdV G.Y g.F H d v) (v2:RdV G.Y g.F H (.lst ys) w) :
  Dp G.Y.K H v d.py∧Dp G.Y.K H w (.list (D.pys ys))∧SeqAt.shaped d.py=true∧SeqAt.shaped (.list (D.pys ys))=true:=by
 obtain ⟨a,b,c,e⟩:=iP hx
 exact ⟨v1.dp S a,v2.dp S b,c,e⟩
theorem lM (S:SR G.Y g σ H l s) {o:COp} (h:ValE G W g σ l (COp.run o d e s) Q) (v1:RdV G.Y g.F H d v) (v2:RdV G.Y g.F H e w):cR G.Y o v w H Q:=by
 cases o with
 | lt =>
  cases d <;> cases e <;> first | exact h.elim | skip
  exact ⟨_,_,v1.int,v2.int,h.frz S (.bl _)⟩
 | le =>
  cases d <;> cases e <;> first | exact h.elim | skip
  exact ⟨_,_,v1.int,v2.int,h.frz S (.bl _)⟩
 | gt =>
  cases d <;> cases e <;> first | exact h.elim | skip
  exact ⟨_,_,v1.int,v2.int,h.frz S (.bl _)⟩
 | ge =>
  cases d <;> cases e <;> first | exact h.elim | skip
  exact ⟨_,_,v1.int,v2.int,h.frz S (.bl _)⟩
 | isn =>
  cases e <;> first | exact h.elim | skip
  ·have h:ValE G W g σ l (cg (.bl (decide (d=.non))) s) Q:=by cases d <;> exact h
   rw [← v1.isNon] at h
   exact .inl ⟨v2.non,h.frz S (.bl _)⟩
  ·cases d <;> first | exact h.elim | skip
   exact .inr ⟨_,_,v1.bl,v2.bl,h.frz S (.bl _)⟩
 | isnn =>
  cases e <;> first | exact h.elim | skip
  have h:ValE G W g σ l (cg (.bl (!decide (d=.non))) s) Q:=by cases d <;> exact h
  rw [← v1.isNon] at h
  exact ⟨v2.non,h.frz S (.bl _)⟩
 | eq =>
  have h:ValE G W g σ l (if D.eqOk d e then cg (.bl (D.eqv d e)) s else .no) Q:=by cases d <;> cases e <;> exact h
  split at h
  ·rename_i hx
   obtain ⟨a,b,c,f⟩:=iP hx
   exact ⟨d.py,e.py,v1.dp S a,v2.dp S b,c,f,h.frz S (.bl _)⟩
  ·exact h.elim
 | ne =>
  have h:ValE G W g σ l (if D.eqOk d e then cg (.bl (!D.eqv d e)) s else .no) Q:=by cases d <;> cases e <;> exact h
  split at h
  ·rename_i hx
   obtain ⟨a,b,c,f⟩:=iP hx
   exact ⟨d.py,e.py,v1.dp S a,v2.dp S b,c,f,h.frz S (.bl _)⟩
  ·exact h.elim
 | isin =>
  cases e with
  | dic k kvs =>
   have h:ValE G W g σ l (if D.isKey k d then cg (.bl (D.look kvs d).isSome) s else .no) Q:=by cases d <;> exact h
   split at h
   ·rename_i hx
    rcases v2.look S v1 hx with ⟨e1,dl⟩ | ⟨d',v',e1,dl,_⟩
    ·rw [e1] at h
     exact .inl ⟨g.F,_,dl,h.frz S (.bl _)⟩
    ·rw [e1] at h
     exact .inl ⟨g.F,_,dl,h.frz S (.bl _)⟩
   ·exact h.elim
  | str y =>
   cases d <;> first | exact h.elim | skip
   exact .inr (.inl ⟨_,_,v1.str,v2.str,h.frz S (.bl _)⟩)
  | lst ys =>
   have h:ValE G W g σ l (if D.eqOk d (.lst ys) then cg (.bl (ys.any fun y=>D.eqv y d)) s else .no) Q:=by cases d <;> exact h
   split at h
   ·rename_i hx
    obtain ⟨a,b,c,f⟩:=mJ S hx v1 v2
    rw [← oC] at h
    exact .inr (.inr (.inl ⟨_,_,a,b,c,f,h.frz S (.bl _)⟩))
   ·exact h.elim
  | tup ys =>
   cases d with
   | non =>
    have h:ValE G W g σ l (match gQ ys with | some b=>cg (.bl b) s | none=>.no) Q:=h
    cases es:gQ ys with
    | none=>rw [es] at h; exact h.elim
    | some b =>
     rw [es] at h
     obtain ⟨a,vs,rfl,fa,ha,ra⟩:=v2.tup S
     obtain ⟨f1,f2⟩:=j5 ra es
     refine .inr (.inr (.inr ⟨a,_,rfl,.inr ha.sq,by rw [v1.non]; rfl,f1,?_⟩))
     rw [v1.non,f2]
     exact h.frz S (.bl _)
   | str x =>
    have h:ValE G W g σ l (match fk ys with | some zs=>cg (.bl (decide (x∈zs))) s | none=>.no) Q:=h
    cases es:fk ys with
    | none=>rw [es] at h; exact h.elim
    | some zs =>
     rw [es] at h
     obtain ⟨a,vs,rfl,fa,ha,ra⟩:=v2.tup S
     have e2:=fB es
     rw [e2] at ra
     rw [ra.strs] at ha
     refine .inr (.inr (.inr ⟨a,_,rfl,.inr ha.sq,by rw [v1.str]; rfl,jy zs,?_⟩))
     rw [v1.str,ku]
     exact h.frz S (.bl _)
   | _=>exact h.elim
  | fdc kvs =>
   have h:ValE G W g σ l (if D.isKey false d then cg (.bl ((D.look kvs d).isSome)) s else .no) Q:=by cases d <;> exact h
   split at h
   ·rename_i hx
    rcases v2.lookF S v1 hx with ⟨e1,dl⟩ | ⟨d',v',e1,dl,_⟩
    ·rw [e1] at h
     exact .inl ⟨g.F,_,dl,h.frz S (.bl _)⟩
    ·rw [e1] at h
     exact .inl ⟨g.F,_,dl,h.frz S (.bl _)⟩
   ·exact h.elim
  | cd kvs =>
   cases d <;> first | exact h.elim | skip
   rename_i z
   have h:ValE G W g σ l (cg (.bl ((kvs.lookup z).isSome)) s) Q:=h
   refine .inl ⟨g.F,_,v2.lookC S v1,?_⟩
   rw [Option.isSome_map]
   exact h.frz S (.bl _)
  | _=>cases d <;> exact h.elim
 | notin =>
  cases e with
  | dic k kvs =>
   have h:ValE G W g σ l (if D.isKey k d then cg (.bl (!(D.look kvs d).isSome)) s else .no) Q:=by cases d <;> exact h
   split at h
   ·rename_i hx
    rcases v2.look S v1 hx with ⟨e1,dl⟩ | ⟨d',v',e1,dl,_⟩
    ·rw [e1] at h
     exact .inl ⟨g.F,_,dl,h.frz S (.bl _)⟩
    ·rw [e1] at h
     exact .inl ⟨g.F,_,dl,h.frz S (.bl _)⟩
   ·exact h.elim
  | str y =>
   cases d <;> first | exact h.elim | skip
   exact .inr (.inl ⟨_,_,v1.str,v2.str,h.frz S (.bl _)⟩)
  | lst ys =>
   have h:ValE G W g σ l (if D.eqOk d (.lst ys) then cg (.bl (!ys.any fun y=>D.eqv y d)) s else .no) Q:=by cases d <;> exact h
   split at h
   ·rename_i hx
    obtain ⟨a,b,c,f⟩:=mJ S hx v1 v2
    rw [← oC] at h
    exact .inr (.inr (.inl ⟨_,_,a,b,c,f,h.frz S (.bl _)⟩))
   ·exact h.elim
  | tup ys =>
   cases d <;> first | exact h.elim | skip
   rename_i x
   have h:ValE G W g σ l (match fk ys with | some zs=>cg (.bl (!decide (x∈zs))) s | none=>.no) Q:=h
   cases es:fk ys with
   | none=>rw [es] at h; exact h.elim
   | some zs =>
    rw [es] at h
    obtain ⟨a,vs,rfl,fa,ha,ra⟩:=v2.tup S
    have e2:=fB es
    rw [e2] at ra
    rw [ra.strs] at ha
    refine .inr (.inr (.inr ⟨a,_,rfl,.inr ha.sq,by rw [v1.str]; rfl,jy zs,?_⟩))
    rw [v1.str,ku]
    exact h.frz S (.bl _)
  | fdc kvs =>
   have h:ValE G W g σ l (if D.isKey false d then cg (.bl (!(D.look kvs d).isSome)) s else .no) Q:=by cases d <;> exact h
   split at h
   ·rename_i hx
    rcases v2.lookF S v1 hx with ⟨e1,dl⟩ | ⟨d',v',e1,dl,_⟩
    ·rw [e1] at h
     exact .inl ⟨g.F,_,dl,h.frz S (.bl _)⟩
    ·rw [e1] at h
     exact .inl ⟨g.F,_,dl,h.frz S (.bl _)⟩
   ·exact h.elim
  | cd kvs =>
   cases d <;> first | exact h.elim | skip
   rename_i z
   have h:ValE G W g σ l (cg (.bl (!(kvs.lookup z).isSome)) s) Q:=h
   refine .inl ⟨g.F,_,v2.lookC S v1,?_⟩
   rw [Option.isSome_map]
   exact h.frz S (.bl _)
  | _=>cases d <;> exact h.elim

theorem lN {Y:Wd} {F:Fr} {ds:List D} {vs:List V} {i:Int} {d:D} (r:Rps Y F ds vs) (h:atI ds i=some d):∃ v,atI vs i=some v∧Rp Y F d v:=by
 unfold atI at h ⊢
 rw [← r.length]
 obtain ⟨j,h1,h2⟩:=aU.mp h
 obtain ⟨v,h3,h4⟩:=r.get h2
 exact ⟨v,by rw [h1]; exact h3,h4⟩
def Ac (Y:Wd):R2:=fun x y H Q=>∃ F v,fU Y F H x y (some v)∧Q v H
theorem uh {C:Cx} {Y:Wd} (hu:C.A.units+64 < cLine) {pn:Addr→Option Str} (hY:Y=⟨C.prog,C.w,C.K,pn⟩):IxR C (Ac Y):=by
 subst hY
 intro value slice pins s σ H x y v u Q I rx ry h hs
 obtain ⟨F,z,dl,q⟩:=h
 have hT:=qo (Y:=⟨C.prog,C.w,C.K,pn⟩) I ⟨⟨rfl,rfl⟩,rfl⟩ dl rx
 unfold subscriptTail
 refine wpAny_bind ?_
 rw [getitemInPython_of_ne hT.not_modules]
 refine wpAny_bind (wpAny_specialOf hT PySem.F.slot_dict_getitem.lookup ?_)
 have fin:wpAny (model C.prog C.w) C.A (subscripted slice false v u) (fun r s₃=>wpAny (model C.prog C.w) C.A (letTemporaryGo value v r >>= fun _=>pure r) (EP C pins σ Q) C.xe s₃) C.xe s:=by
  rw [hs]
  exact wpAny_operating (ou (Y:=⟨C.prog,C.w,C.K,pn⟩) hu ⟨⟨rfl,rfl⟩,rfl⟩ I dl rx ry fun w' s' I' rw'=>wpAny_bind (wpAny_letTemporaryGo (wpAny_pure ⟨z,H,I',rw',q⟩)))
 first
  | exact wpAny_pure (wpAny_bind fin)
  | exact wpAny_bind (wpAny_pure (wpAny_bind fin))
  | exact wpAny_bind fin
def iR (Y:Wd):R2:=fun x y H Q=>Ac Y x y H Q∨rIxL Y.K x y H Q∨rIxT Y.K x y H Q∨rIxS x y H Q
theorem wc {C:Cx} {Y:Wd} (hu:C.A.units+64 < cLine) {pn:Addr→Option Str} (hY:Y=⟨C.prog,C.w,C.K,pn⟩):IxR C (iR Y):=by
 have h1:=uh (C:=C) (Y:=Y) hu hY
 subst hY
 exact h1.or (ix_list.or (ix_tup.or ix_str))
theorem rG (S:SR G.Y g σ H l s) (h:ValE G W g σ l (lF d e s) Q) (v1:RdV G.Y g.F H d v) (v2:RdV G.Y g.F H e w):iR G.Y v w H Q:=by
 cases d with
 | dic k kvs =>
  have h:ValE G W g σ l (if D.isKey k e then match D.look kvs e with | some d=>cg d s | none=>.no else .no) Q:=h
  split at h
  ·rename_i hx
   rcases v1.look S v2 hx with ⟨e1,dl⟩ | ⟨d',v',e1,dl,r⟩
   ·rw [e1] at h
    exact h.elim
   ·rw [e1] at h
    exact .inl ⟨g.F,_,dl,h.frz S r⟩
  ·exact h.elim
 | fdc kvs =>
  have h:ValE G W g σ l (if D.isKey false e then match D.look kvs e with | some d=>cg d s | none=>.no else .no) Q:=h
  split at h
  ·rename_i hx
   rcases v1.lookF S v2 hx with ⟨e1,dl⟩ | ⟨d',v',e1,dl,r⟩
   ·rw [e1] at h
    exact h.elim
   ·rw [e1] at h
    exact .inl ⟨g.F,_,dl,h.frz S r⟩
  ·exact h.elim
 | tup xs =>
  cases e <;> first | exact h.elim | skip
  rename_i i
  have h:ValE G W g σ l (match atI xs i with | some d=>cg d s | none=>.no) Q:=h
  obtain ⟨a,vs,rfl,fa,ha,ra⟩:=v1.tup S
  cases e1:atI xs i with
  | none=>rw [e1] at h; exact h.elim
  | some d' =>
   rw [e1] at h
   obtain ⟨v',h1,h2⟩:=lN ra e1
   exact .inr (.inr (.inl ⟨a,vs,i,v',rfl,v2.int,ha.sq,h1,h.frz S h2⟩))
 | lst xs =>
  cases e <;> first | exact h.elim | skip
  rename_i i
  have h:ValE G W g σ l (match atI xs i with | some d=>cg d s | none=>.no) Q:=h
  obtain ⟨a,vs,rfl,ha,ra⟩:=v1.lst S
  cases e1:atI xs i with
  | none=>rw [e1] at h; exact h.elim
  | some d' =>
   rw [e1] at h
   obtain ⟨v',h1,h2⟩:=lN ra e1
   exact .inr (.inl ⟨a,vs,i,v',rfl,v2.int,.inl (.inl ha),h1,h.frz S h2⟩)
 | arr xs =>
  cases e <;> first | exact h.elim | skip
  rename_i i
  have h:ValE G W g σ l (match atI xs i with | some d=>cg d s | none=>.no) Q:=h
  obtain ⟨a,vs,rfl,ha,ra⟩:=v1.arr S
  cases e1:atI xs i with
  | none=>rw [e1] at h; exact h.elim
  | some d' =>
   rw [e1] at h
   obtain ⟨v',h1,h2⟩:=lN ra e1
   exact .inr (.inl ⟨a,vs,i,v',rfl,v2.int,ha,h1,h.frz S h2⟩)
 | str z =>
  cases e <;> first | exact h.elim | skip
  rename_i i
  have h:ValE G W g σ l (if z.length≤sizeLine then match atI z.cps.toList i with | some c=>cg (D.sgn c) s | none=>.no else .no) Q:=h
  split at h
  ·cases e1:atI z.cps.toList i with
   | none=>rw [e1] at h; exact h.elim
   | some c =>
    rw [e1] at h
    exact .inr (.inr (.inr ⟨z,i,c,v1.str,v2.int,by assumption,e1,h.frz S (.str _)⟩))
  ·exact h.elim
 | _=>cases e <;> exact h.elim

def Ft (Y:Wd):V→Option Int→Option Int→Hp→VK→Prop:=fun x lo hi H Q=>zZ Y.K x lo hi H Q∨rSlL Y.K x lo hi H Q∨rSlS x lo hi H Q
theorem wM {C:Cx} {Y:Wd} {pn:Addr→Option Str} (hY:Y=⟨C.prog,C.w,C.K,pn⟩):L2.SlR C (Ft Y):=by
 subst hY
 exact sl_tupX.or (sl_list.or sl_str)
theorem ui (S:SR G.Y g σ H l s) {lo hi:Option Int} (h:ValE G W g σ l (rf d lo hi s) Q) (v1:RdV G.Y g.F H d v):Ft G.Y v lo hi H Q:=by
 cases d with
 | tup xs =>
  have h:ValE G W g σ l (cg (.tup (iI xs lo hi)) s) Q:=h
  obtain ⟨a,vs,rfl,fa,ha,ra⟩:=v1.tup S
  refine .inl ⟨a,vs,rfl,ha.sq,fun z=>?_,fun _=>h.tupN S (ra.cut _ _)⟩
  have e:iI xs lo hi=xs:=by
   unfold iI
   rw [ra.length,z.1,z.2,Nat.sub_zero,List.drop_zero,← ra.length,List.take_length]
  rw [e] at h
  exact h.frz S (.tup fa ra)
 | lst xs =>
  have h:ValE G W g σ l (dY (.lst (iI xs lo hi)) s) Q:=h
  obtain ⟨a,vs,rfl,ha,ra⟩:=v1.lst S
  exact .inr (.inl ⟨a,vs,rfl,.inl (.inl ha),fun p hp=>h.lstN S (ra.cut _ _) hp⟩)
 | str z =>
  have h:ValE G W g σ l (if z.length≤sizeLine then cg (.str ⟨(iI z.cps.toList lo hi).toArray⟩) s else .no) Q:=h
  split at h
  ·refine .inr (.inr ⟨z,v1.str,by assumption,?_⟩)
   have e:cutS z lo hi=⟨(iI z.cps.toList lo hi).toArray⟩:=by
    unfold cutS iI
    rw [show z.length=z.cps.toList.length by simp [Str.length]]
   rw [e]
   exact h.frz S (.str _)
  ·exact h.elim
 | _=>exact h.elim
end
section
variable {prog:Program} {w:World} {A:Around} {E:Value→Shared→Prop} {s:Shared}
theorem mK {l:Addr} {vs:List Value} {Q:List Value→Shared→Prop} (hl:IsTup s.heap l vs.toArray)
  (h:Q vs { s with heap:=(s.heap.push (seqObj "list" #[] 0)).update s.heap.objs.size (Obj.mapSeq (·++vs.toArray)) }) (hsz:vs.length≤sizeLine) :
  wpAny (model prog w) A (collect (.ref l)) Q E s:=by
 obtain ⟨o,ho,hc,n,hd⟩:=id hl
 unfold collect
 refine wpAny_bind (wpAny_runValue (codeAny_builtin entry_proto_collect' ?_))
 show wpAny _ _ (do again (.builtin "list.__iadd__" ⟨[← newList [],.ref l],[]⟩)) _ _ s
 refine wpAny_bind (wpAny_newList (wpAny_pure ⟨Code.quiet_builtin _ (by symm),codeAny_builtin entry_list_iadd' ?_⟩))
 show wpAny _ _ (Builtin.List.listExtendWith (.ref s.heap.objs.size) (.ref l) (.ref s.heap.objs.size)) _ _ { s with heap:=s.heap.push (seqObj "list" #[] 0) }
 unfold Builtin.List.listExtendWith
 have ho':(s.heap.push (seqObj "list" #[] 0)).get? l=some o:=Heap.get?_push_of_some _ ho
 refine wpAny_bind (wpAny_typeOf (T:="tuple") ⟨o,ho',hc⟩ ?_)
 have ht:(Value.type "tuple" == Value.type "tuple")=true:=by rfl
 rw [ap (by rw [ht]; simp)]
 refine wpAny_bind (listItems_at ho' hd ?_)
 refine wpAny_bind (listItems_at (xs:=#[]) (n:=0) (Heap.get?_push_size _ rfl) rfl ?_)
 rw [av (by simp)]
 refine wpAny_bind (listUpdate_at (xs:=#[]) (n:=0) (Heap.get?_push_size _ rfl) rfl ?_ (aV _) (by show (#[]++vs.toArray).size≤sizeLine+1; simp only [Array.size_append,aO,List.length_nil]; omega))
 refine wpAny_pure ?_
 show wpAny (model prog w) A (do
   let o ← load s.heap.objs.size
   match o.data with
   | .seq xs _=>pure xs.toList
   | _=>unsupported "internal:collect") Q E { s with heap:=(s.heap.push (seqObj "list" #[] 0)).update s.heap.objs.size (Obj.mapSeq (·++vs.toArray)) }
 refine wpAny_bind (wpAny_load (get?_update_seq (Heap.get?_push_size _ rfl) _) ?_)
 show wpAny _ _ (pure ((#[]:Array Value)++vs.toArray).toList) Q E _
 rw [show ((#[]:Array Value)++vs.toArray).toList=vs by simp]
 exact wpAny_pure h
theorem mL {l:Addr} {vs:List Value} {ltv:Value→Value→Bool} {Q:Value→Shared→Prop} (O:SrtO.Swo ltv) (hl:IsTup s.heap l vs.toArray) (hz:vs.length≤sizeLine)
  (hS:2≤vs.length→∀ (h₁:Heap) (a:Addr),h₁.get? a=some (seqObj "list" vs.toArray 0)→(∀ b o,s.heap.get? b=some o→b≠a∧h₁.get? b=some o)→SrtO.SortableO prog w A.in1.in1 { s with heap:=h₁ } a vs ltv)
  (h:∀ out:List Value,SrtO.Srtd ltv out→SrtO.Stb ltv out vs→Q (.ref (s.heap.objs.size+1)) { s with heap:=sortedAll s.heap vs out.toArray }) :
  wpAny (model prog w) A (call (.builtin "sorted") [.ref l]) Q E s:=by
 refine Calls.call_function_entry kind_sorted plain_sorted entry_sorted (args_sorted1 _) ?_
 unfold Builtin.«sorted»
 refine wpAny_bind (m:=checkCount "sorted" 1 1 _) (wpAny_pure ?_)
 refine wpAny_bind (mK hl ?_ hz)
 refine wpAny_bind (wpAny_newList ?_ hz)
 have hsz:((s.heap.push (seqObj "list" #[] 0)).update s.heap.objs.size (Obj.mapSeq (·++vs.toArray))).objs.size=s.heap.objs.size+1:=by
  rw [Heap.size_update]
  exact Heap.size_push _ _
 have hoL:(((s.heap.push (seqObj "list" #[] 0)).update s.heap.objs.size (Obj.mapSeq (·++vs.toArray))).push (seqObj "list" vs.toArray 0)).get? (s.heap.objs.size+1)=some (seqObj "list" vs.toArray 0):=by
  rw [← hsz]; exact Heap.get?_push_size _ rfl
 have keep:∀ b o,s.heap.get? b=some o→b≠s.heap.objs.size+1∧(((s.heap.push (seqObj "list" #[] 0)).update s.heap.objs.size (Obj.mapSeq (·++vs.toArray))).push (seqObj "list" vs.toArray 0)).get? b=some o:=fun b o q=>by
  have hlt:b < s.heap.objs.size:=Heap.lt_size q
  refine ⟨aT (bv hlt),Heap.get?_push_of_some _ ?_⟩
  rw [Heap.get?_update_ne _ _ _ _ (aT hlt)]
  exact Heap.get?_push_of_some _ q
 show wpAny _ _ _ _ _ { s with heap:=((s.heap.push (seqObj "list" #[] 0)).update s.heap.objs.size (Obj.mapSeq (·++vs.toArray))).push (seqObj "list" vs.toArray 0) }
 rw [hsz]
 refine wpAny_bind (wpAny_holding (wpAny_call_entry slot_list_sort ⟨_,hoL,rfl⟩ entry_list_sort (SrtO.list_sort_ord O hoL hz (fun h2=>hS h2 _ _ hoL keep) fun out hs hb=>⟨_,rfl,?_⟩) (args_list_sort _)))
 exact wpAny_pure ⟨_,rfl,h out hs hb⟩
end
def mM (K:PySem.W.Frag):List V→Hp→VK→Prop:=fun vs H Q=>∃ (a:Addr) (ns:List Int),vs=[V.ref a]∧SqT K H a (ns.map V.int) ∧
 ∀ (ns':List Int) (p:Addr),ns'.Perm ns→ns'.Pairwise (·≤·)→H p=none→Q (.ref p) (upd H p (.lst (ns'.map V.int)))
theorem cr_sortedT {C:Cx}:CallR C (.builtin "sorted") (mM C.K):=by
 intro pins s σ H vs us Q I r h
 obtain ⟨a,ns,rfl,hs,q⟩:=h
 obtain ⟨its,rv,hl,hz⟩:=I.tuple hs
 rw [Vals.ref1 r]
 have hi:=rv.ints
 refine mL SrtO.swo_int hl (by rw [← rv.length]; exact hz) (fun h2 h₁ a' _ _=>SrtO.ints_sortable hi h2) fun out h1 h2=>?_
 obtain ⟨k1,k2,k3⟩:=SrtO.ints_out hi h1 h2
 obtain ⟨ep,he'⟩:=PyProof.Rows.sortedAll_at s.heap its out.toArray
 have hlen:((out.map SrtO.iv).map V.int).length≤sizeLine:=by
  rw [ac,k2.length_eq]
  rw [ac] at hz
  exact hz
 exact ⟨.ref _,upd H (s.heap.objs.size+1) (.lst ((out.map SrtO.iv).map V.int)),I.laid (t':=s.toks) (fun _ _=>PyProof.Rows.sortedAll_old) (Nat.le_succ _) ⟨hlen,out,ep,vals_of_ints k1,he'⟩,rfl,q _ _ k2 k3 (I.hok.fresh (Nat.le_succ _))⟩
theorem kx (ns:List Int) (ms:List Int) (p:ms.Perm ns) (w:ms.Pairwise (·≤·)):ms=ns.mergeSort fun a b=>decide (a≤b):=by
 refine PySem.W.ksm_same (p.trans (List.mergeSort_perm ns _).symm) w ?_
 have:=List.pairwise_mergeSort (le:=fun a b:Int=>decide (a≤b)) (fun a b c h1 h2=>by simp only [af] at *; omega) (fun a b=>by simp only [bC,af]; omega) ns
 exact this.imp fun h=>by simpa using h
theorem qp {C:Cx} {Y:Wd} {pn:Addr→Option Str} (hY:Y=⟨C.prog,C.w,C.K,pn⟩):CallR C (.builtin "len") (fun xs H Q=>∃ F a ob ps zs,xs=[V.ref a]∧H a=some (kh a ob)∧DtO Y a ob zs∧Rpt Y F ps zs∧Same F.h H∧Q (.int ps.length) H):=by
 subst hY
 intro pins s σ H xs us Q I r h
 obtain ⟨F,a,ob,ps,zs,rfl,ha,w,rp,hF,q⟩:=h
 obtain ⟨u,rfl,ru⟩:=vals1 r
 cases ru
 have hd:=gk (Y:=⟨C.prog,C.w,C.K,pn⟩) I hF ⟨rfl,rfl⟩ ha w rp
 have hn:(pairsH zs).length=ps.length:=by rw [pairsH_length,rp.length]
 have hz:zs.length≤sizeLine:=w.sz
 have hl:=rp.length
 refine PyProof.Rows.call_len_slot (n:=((pairsH zs).length:Nat)) hd.typeIs PySem.F.slot_dict_len (fun Q' hq=>len_keyed w.nm (kj hd) hq) (by omega) (by rw [sizeLine_eq] at hz; rw [hn]; omega) ?_
 rw [hn]
 exact ⟨.int ps.length,H,I.tok _,⟨_,rfl⟩,q⟩

def wd (K:PySem.W.Frag):List V→Hp→VK→Prop:=fun vs H Q=>∃ (a:Addr) (ns:List Int),vs=[V.ref a]∧SqT K H a (ns.map V.int)∧0 < ns.length∧∀ m,m∈ns→(∀ y,y∈ns→y≤m)→Q (.int m) H
def we (K:PySem.W.Frag):List V→Hp→VK→Prop:=fun vs H Q=>∃ (a:Addr) (ns:List Int),vs=[V.ref a]∧SqT K H a (ns.map V.int)∧0 < ns.length∧∀ m,m∈ns→(∀ y,y∈ns→m≤y)→Q (.int m) H
theorem jz:∀ (xs:List Int) (x:Int),PySem.W.maxOf x xs∈x :: xs∧∀ y∈x :: xs,y≤PySem.W.maxOf x xs
 | [],x=>⟨ak.mpr rfl,fun y hy=>by rw [ak.mp hy]; exact Int.le_refl _⟩
 | z :: zs,x=>by
  have e:PySem.W.maxOf x (z :: zs)=PySem.W.maxOf (if decide (x < z)=true then z else x) zs:=rfl
  rw [e]
  have hb:((if decide (x < z)=true then z else x)=z∧x < z)∨((if decide (x < z)=true then z else x)=x∧¬ x < z):=by
   by_cases c:x < z
   ·exact .inl ⟨ap (aI c),c⟩
   ·exact .inr ⟨av (fun q=>c (aY q)),c⟩
  rcases hb with ⟨hb,c⟩ | ⟨hb,c⟩
  ·rw [hb]
   obtain ⟨h1,h2⟩:=jz zs z
   have h3:=h2 z aj
   refine ⟨ao _ h1,fun y hy=>?_⟩
   rcases ax.mp hy with rfl | hy
   ·omega
   ·exact h2 y hy
  ·rw [hb]
   obtain ⟨h1,h2⟩:=jz zs x
   have h3:=h2 x aj
   refine ⟨?_,fun y hy=>?_⟩
   ·rcases ax.mp h1 with h | h
    ·rw [h]; exact aj
    ·exact ao _ (ao _ h)
   ·rcases ax.mp hy with rfl | hy
    ·exact h3
    ·rcases ax.mp hy with rfl | hy
     ·omega
     ·exact h2 y (ao _ hy)
theorem jA:∀ (xs:List Int) (x:Int),PySem.W.minOf x xs∈x :: xs∧∀ y∈x :: xs,PySem.W.minOf x xs≤y
 | [],x=>⟨ak.mpr rfl,fun y hy=>by rw [ak.mp hy]; exact Int.le_refl _⟩
 | z :: zs,x=>by
  have e:PySem.W.minOf x (z :: zs)=PySem.W.minOf (if decide (z < x)=true then z else x) zs:=rfl
  rw [e]
  have hb:((if decide (z < x)=true then z else x)=z∧z < x)∨((if decide (z < x)=true then z else x)=x∧¬ z < x):=by
   by_cases c:z < x
   ·exact .inl ⟨ap (aI c),c⟩
   ·exact .inr ⟨av (fun q=>c (aY q)),c⟩
  rcases hb with ⟨hb,c⟩ | ⟨hb,c⟩
  ·rw [hb]
   obtain ⟨h1,h2⟩:=jA zs z
   have h3:=h2 z aj
   refine ⟨ao _ h1,fun y hy=>?_⟩
   rcases ax.mp hy with rfl | hy
   ·omega
   ·exact h2 y hy
  ·rw [hb]
   obtain ⟨h1,h2⟩:=jA zs x
   have h3:=h2 x aj
   refine ⟨?_,fun y hy=>?_⟩
   ·rcases ax.mp h1 with h | h
    ·rw [h]; exact aj
    ·exact ao _ (ao _ h)
   ·rcases ax.mp hy with rfl | hy
    ·exact h3
    ·rcases ax.mp hy with rfl | hy
     ·omega
     ·exact h2 y (ao _ hy)
theorem iN {h:Heap} {v:Value} {x:Int} (H:PySem.W.Holds h v x):∃ t,v=.int x t:=by
 obtain ⟨as,r⟩:=H
 cases r
 exact ⟨_,rfl⟩
theorem uj {X:Cx} (hc:X.calm=true) (hu:X.A.units+64 < cLine):CallR X (.builtin "max") (wd X.K):=by
 intro pins s σ H vs us Q I r h
 obtain ⟨a,ns,rfl,hs,hne,q⟩:=h
 obtain ⟨its,rv,hl,_⟩:=I.tuple hs
 rw [Vals.ref1 r]
 cases ns with
 | nil=>exact absurd hne (bF 0)
 | cons n ns =>
  obtain ⟨h1,h2⟩:=jz ns n
  refine PySem.W.max_tuple_datum (I.ok.hd hc) hl (PySem.W.HoldAll.of_ints (by simpa using rv.ints)) (by show X.A.units+1+0 < cLine; omega) fun i v h' tk _ hv hk=>?_
  obtain ⟨t,rfl⟩:=iN hv
  exact ⟨.int _,H,I.kept hk,⟨_,rfl⟩,q _ h1 h2⟩
theorem uk {X:Cx} (hc:X.calm=true) (hu:X.A.units+64 < cLine):CallR X (.builtin "min") (we X.K):=by
 intro pins s σ H vs us Q I r h
 obtain ⟨a,ns,rfl,hs,hne,q⟩:=h
 obtain ⟨its,rv,hl,_⟩:=I.tuple hs
 rw [Vals.ref1 r]
 cases ns with
 | nil=>exact absurd hne (bF 0)
 | cons n ns =>
  obtain ⟨h1,h2⟩:=jA ns n
  refine PySem.W.min_tuple_datum (I.ok.hd hc) hl (PySem.W.HoldAll.of_ints (by simpa using rv.ints)) (by show X.A.units+1+0 < cLine; omega) fun i v h' tk _ hv hk=>?_
  obtain ⟨t,rfl⟩:=iN hv
  exact ⟨.int _,H,I.kept hk,⟨_,rfl⟩,q _ h1 h2⟩

def BI.val:BI→Value
 | .len=>.builtin "len" | .abs=>.builtin "abs" | .max2=>.builtin "max" | .min2=>.builtin "min" | .maxl=>.builtin "max" | .minl=>.builtin "min" | .all=>.builtin "all" | .any=>.builtin "any" | .sum=>.builtin "sum"
 | .sorted=>.builtin "sorted" | .tuple=>.type "tuple" | .list=>.type "list" | .dict=>.type "dict" | .str=>.type "str" | .int=>.type "int"
theorem BI.boot (f:BI):bootBuiltins f.nm=some f.val:=by cases f <;> symm
theorem BI.nmOk (f:BI):f.nm≠"__name__"∧(f.nm == ("__debug__":Str))=false∧f.nm∈blts:=by cases f <;> symm

def qr:List V→Hp→VK→Prop:=fun us H Q =>
 ∃ (b:Addr) (ps:List (Key × V)) (zs:List Str),us=[V.ref b]∧Rd H b (.dK ps)∧ps.map (fun p=>p.1)=zs.map (fun z=>Sum.inr z)∧zs.length < 64 ∧
  ∀ (ws:List Str) (c:Addr),ws.Perm zs→sortedS ws=true→H c=none→Q (V.ref c) (upd H c (HO.lst (ws.map fun z=>V.str z)))
theorem Rpk.keysS {Y:Wd} {F:Fr}:∀ {ps:List (D × D)} {kvs:List (Key × V)} {ks:List Str},Rpk Y F ps kvs→kf ps=some ks→kvs.map (fun p=>p.1)=ks.map (fun z=>Sum.inr z)
 | _,_,_,.nil,e=>by cases e; rfl
 | _,_,_,@Rpk.cons _ _ k d ps q v kvs hk hv r,e=>by
  cases k with
  | str k =>
   have e:(kf ps).map (k :: ·)=some _:=e
   rw [az] at e
   obtain ⟨zs,e1,e2⟩:=e
   subst e2
   cases (ad hk)
   rw [aG,aG,Rpk.keysS r e1]
  | _=>cases e
theorem Rps.ofStrs {Y:Wd} {F:Fr}:∀ zs:List Str,Rps Y F (zs.map D.str) (zs.map fun z=>V.str z)
 | []=>.nil
 | z :: zs=>.cons (.str z) (Rps.ofStrs zs)

def k9:List V→Hp→VK→Prop:=fun us H Q =>
 ∃ (b:Addr) (ps:List (Key × V)) (ns:List Int),us=[V.ref b]∧Rd H b (.dK ps)∧ps.map (fun p=>p.1)=ns.map (fun z=>Sum.inl z) ∧
  ∀ (ws:List Int) (c:Addr),ws.Perm ns→ws.Pairwise (·≤·)→H c=none→Q (V.ref c) (upd H c (HO.lst (ws.map V.int)))
theorem mN {C:Cx} (hcalm:C.calm=true):CallR C (.builtin "sorted") k9:=by
 intro pins s σ H xs us Q I r q
 obtain ⟨a,kvs,ks,ex,hd,hks,q⟩:=q
 subst ex
 obtain ⟨u,eu,rx⟩:=vals1 r
 subst eu
 cases rx
 obtain ⟨z,lo,vs,rel,dd⟩:=dk_rd I.hok hd
 obtain ⟨ep,hat⟩:=dd.dictAt
 have hkeys:vs.map (fun p=>p.1)=ks.map (fun z=>Sum.inl z):=rel.keys.symm.trans hks
 have hl:vs.length=ks.length:=by
  have e:=bj List.length hkeys
  rw [ac,ac] at e
  exact e
 have h16:vs.length≤sizeLine:=by rw [← rel.length]; exact z
 refine Calls.call_function_entry PyProof.Rows.kind_sorted PyProof.Rows.plain_sorted PyProof.Rows.entry_sorted (PyProof.Rows.args_sorted1 _) ?_
 unfold Builtin.«sorted»
 refine wpAny_bind (m:=checkCount "sorted" 1 1 _) (wpAny_pure ?_)
 refine wpAny_bind (PySem.W.kdu_collect (A:=C.A.in1) (PySem.W.kdl_dict (knd:=mixKind C.prog C.w) (kvs:=vs) (ep:=ep) lo) (I.ok.hd hcalm) hat h16 fun h' tk acc hk hacc=>?_)
 have hal:acc.toList.length=ks.length:=by rw [aW,hacc.1,hl]
 have hS:IntsAre acc.toList ks:=ints_each hal fun j v e=>by
  obtain ⟨k,x,e1,e2⟩:=hacc.2 j v (by rw [← Array.getElem?_toList]; exact e)
  have e3:(vs.map (fun p=>p.1))[j]?=some k:=by rw [aD,e1]; rfl
  rw [hkeys,aD] at e3
  cases e4:ks[j]? with
  | none=>rw [e4] at e3; cases e3
  | some y =>
   rw [e4] at e3
   have e5:Sum.inl y=k:=ad e3
   subst e5
   rcases keyIs_shape (show keyIs (Sum.inl y) v=true from e2) with ⟨i,t,ek,ev⟩ | ⟨z,t,ek,ev⟩
   ·cases ek
    exact ⟨y,t,rfl,ev⟩
   ·cases ek
 have I1:Inv C pins σ H { s with heap:=h',toks:=tk }:=I.kept hk
 have few:acc.toList.length≤sizeLine:=by rw [hal,← hl]; exact h16
 refine wpAny_bind (wpAny_newList ?_ few)
 have hoL:(h'.push (seqObj "list" acc.toList.toArray 0)).get? h'.objs.size=some (seqObj "list" acc.toList.toArray 0):=Heap.get?_push_size _ rfl
 show wpAny _ _ _ _ _ { s with heap:=h'.push (seqObj "list" acc.toList.toArray 0),toks:=tk }
 refine wpAny_bind (wpAny_holding (wpAny_call_entry PyProof.Rows.slot_list_sort ⟨_,hoL,rfl⟩ PyProof.Rows.entry_list_sort (SrtO.list_sort_ord SrtO.swo_int hoL few (fun h2=>SrtO.ints_sortable hS h2) fun out h1 h2=>⟨_,rfl,?_⟩) (PyProof.Rows.args_list_sort _)))
 obtain ⟨q1,q2,q3⟩:=SrtO.ints_out hS h1 h2
 obtain ⟨e',he'⟩:=PyProof.Rows.sortedHeap_at (vs:=acc.toList) (out:=out.toArray) hoL
 have hlen:((out.map SrtO.iv).map V.int).length≤sizeLine:=by
  rw [ac,q2.length_eq,← hl]
  exact h16
 refine wpAny_pure ⟨_,rfl,.ref h'.objs.size,upd H h'.objs.size (.lst ((out.map SrtO.iv).map V.int)),I1.laid (t':=tk) (fun b u e=>?_) (aA _)
  (show ObjOk C.prog C.w _ _ _ (.lst ((out.map SrtO.iv).map V.int)) from ⟨hlen,out,e',vals_of_ints q1,he'⟩),rfl,q _ _ q2 q3 (I1.hok.fresh (aA _))⟩
 have hb:b < h'.objs.size:=Heap.lt_size e
 rw [PyProof.Rows.sortedHeap_old (aT hb) (by rw [PyProof.Rows.size_push']; exact bv hb)]
 exact Heap.get?_push_of_some _ e
theorem Rpk.keysI {Y:Wd} {F:Fr}:∀ {ps:List (D × D)} {kvs:List (Key × V)} {ks:List Int},Rpk Y F ps kvs→dF (ps.map fun p=>p.1)=some ks→kvs.map (fun p=>p.1)=ks.map (fun z=>Sum.inl z)
 | _,_,_,.nil,e=>by cases e; rfl
 | _,_,_,@Rpk.cons _ _ k d ps q v kvs hk hv r,e=>by
  cases k with
  | int k =>
   have e:(dF (ps.map fun p=>p.1)).map (k :: ·)=some _:=e
   rw [az] at e
   obtain ⟨zs,e1,e2⟩:=e
   subst e2
   cases (ad hk)
   rw [aG,aG,Rpk.keysI r e1]
  | _=>cases e
def Fu (Y:Wd):BI→List V→Hp→VK→Prop
 | .len=>fun xs H Q=>(∃ p ys,xs=[.ref p]∧(SqL Y.K H p ys∨SqT Y.K H p ys)∧Q (.int ys.length) H)∨(∃ a kvs,xs=[V.ref a]∧H a=some (.dK kvs)∧Q (.int kvs.length) H) ∨
   (∃ F a ob ps zs,xs=[V.ref a]∧H a=some (kh a ob)∧DtO Y a ob zs∧Rpt Y F ps zs∧Same F.h H∧Q (.int ps.length) H)∨(∃ z,xs=[.str z]∧z.length≤sizeLine∧Q (.int z.length) H)
 | .abs=>fun xs H Q=>∃ i,xs=[.int i]∧Q (.int (if i < 0 then -i else i)) H
 | .max2=>fun xs H Q=>∃ i j,xs=[.int i,.int j]∧Q (.int (if j > i then j else i)) H
 | .min2=>fun xs H Q=>∃ i j,xs=[.int i,.int j]∧Q (.int (if j < i then j else i)) H
 | .maxl=>fun xs H Q=>wd Y.K xs H Q∨rMax Y.K xs H Q
 | .minl=>fun xs H Q=>we Y.K xs H Q∨rMin Y.K xs H Q
 | .all=>rAll Y.K
 | .any=>rAny Y.K
 | .sum=>rSum Y.K
 | .sorted=>fun xs H Q=>rSortedI Y.K xs H Q∨mM Y.K xs H Q∨qr xs H Q∨k9 xs H Q∨rSortedS Y.K xs H Q
 | .tuple=>fun xs H Q=>∃ x,xs=[x]∧v8 Y.K x H Q
 | .list=>fun xs H Q=>∃ p ys,xs=[.ref p]∧(SqL Y.K H p ys∨SqT Y.K H p ys)∧∀ l,H l=none→Q (.ref l) (upd H l (.lst ys))
 | .dict=>fun xs H Q=>∃ a kvs,xs=[V.ref a]∧Rd H a (.dK kvs)∧∀ p,H p=none→Q (.ref p) (upd H p (.dK kvs))
 | .str=>fun xs H Q=>(∃ i,xs=[.int i]∧i.natAbs.log2 < 1920∧Q (.str (toString i)) H)∨∃ a,xs=[.str a]∧Q (.str a) H
 | .int=>fun xs H Q=>((∃ i,xs=[.int i]∧Q (.int i) H)∨∃ k,xs=[.bl k]∧Q (.int (if k then 1 else 0)) H)∨∃ a n,xs=[.str a]∧PySem.intText? a=some n∧a.length≤640∧Q (.int n) H
theorem rH {C:Cx} {Y:Wd} {pn:Addr→Option Str} (hY:Y=⟨C.prog,C.w,C.K,pn⟩) (hc:C.calm=true) (hu:C.A.units+64 < cLine) (f:BI):CallR C f.val (Fu Y f):=by
 have hl:=qp (C:=C) (Y:=Y) hY
 subst hY
 cases f with
 | len=>exact call_len_seq.or (call_lenD.or (hl.or call_len_str))
 | abs=>exact call_abs
 | max2=>exact call_max2 hc
 | min2=>exact call_min2 hc
 | maxl=>exact (uj hc hu).or (cr_max hc)
 | minl=>exact (uk hc hu).or (cr_min hc)
 | all=>exact cr_all hc
 | any=>exact cr_any hc
 | sum=>exact cr_sum hc
 | sorted=>exact cr_sortedI.or (cr_sortedT.or ((call_sortedD hc).or ((mN hc).or cr_sortedS)))
 | tuple =>
  intro pins s σ H xs us Q I r h
  obtain ⟨x,rfl,h⟩:=h
  obtain ⟨u,rfl,ru⟩:=vals1 r
  exact t6 I ru h
 | list=>exact call_list_of
 | dict =>
  intro pins s σ H xs us Q I r h
  obtain ⟨a,kvs,rfl,ha,q⟩:=h
  obtain ⟨u,rfl,ru⟩:=vals1 r
  cases ru
  exact d_copyOf I ha fun p s' hp I'=>⟨.ref p,_,I',rfl,q p hp⟩
 | str=>exact call_str_int.or SkE.call_str_str
 | int=>exact call_int1.or call_int_str
section
variable {G:Gm} {W:WX} {g g':Gh} {σ:L2.St} {H H':Hp} {l:Lc} {s s':cj} {Q:VK} {d e:D} {v w:V}

def RdVs (Y:Wd) (F:Fr) (H:Hp):List D→List V→Prop
 | [],[]=>True
 | d :: ds,v :: vs=>RdV Y F H d v∧RdVs Y F H ds vs
 | _,_=>False
theorem RdVs.one {Y:Wd} {F:Fr} {H:Hp} {d:D} {vs:List V} (h:RdVs Y F H [d] vs):∃ v,vs=[v]∧RdV Y F H d v:=by
 cases vs with
 | nil=>exact h.elim
 | cons v vs =>
  cases vs with
  | nil=>exact ⟨v,rfl,h.1⟩
  | cons a b=>exact h.2.elim
theorem RdVs.two {Y:Wd} {F:Fr} {H:Hp} {d e:D} {vs:List V} (h:RdVs Y F H [d,e] vs):∃ v w,vs=[v,w]∧RdV Y F H d v∧RdV Y F H e w:=by
 cases vs with
 | nil=>exact h.elim
 | cons v vs =>
  obtain ⟨w,rfl,q⟩:=RdVs.one h.2
  exact ⟨v,w,rfl,h.1,q⟩
theorem jN:∀ {n:Int} {ns:List Int} {m:Int},m∈n :: ns→(∀ y,y∈n :: ns→y≤m)→m=dH (n :: ns)
 | n,[],m,h,_=>by
  have:m=n:=by simpa using h
  rw [this]
  rfl
 | n,k :: ns,m,h,u=>by
  show m=max n (dH (k :: ns))
  have hg:∀ {a:Int} {as:List Int},dH (a :: as)∈a :: as∧∀ y∈a :: as,y≤dH (a :: as):=by
   intro a as
   induction as generalizing a with
   | nil=>exact ⟨ak.mpr rfl,fun y hy=>by rw [ak.mp hy]; exact Int.le_refl _⟩
   | cons b bs ih =>
    obtain ⟨i1,i2⟩:=ih (a:=b)
    have e:dH (a :: b :: bs)=max a (dH (b :: bs)):=rfl
    rw [e]
    refine ⟨?_,fun y hy=>?_⟩
    ·rcases Int.max_def a (dH (b :: bs)) with _
     by_cases c:a≤dH (b :: bs)
     ·rw [Int.max_eq_right c]; exact ao _ i1
     ·rw [Int.max_eq_left (by omega)]; exact aj
    ·rcases ax.mp hy with rfl | hy
     ·exact Int.le_max_left _ _
     ·exact Int.le_trans (i2 y hy) (Int.le_max_right _ _)
  obtain ⟨g1,g2⟩:=hg (a:=k) (as:=ns)
  have h1:n≤m:=u n aj
  have h2:dH (k :: ns)≤m:=u _ (ao _ g1)
  rcases ax.mp h with rfl | h
  ·omega
  ·have:=g2 m h
   omega
theorem mO:∀ {n:Int} {ns:List Int} {m:Int},m∈n :: ns→(∀ y,y∈n :: ns→m≤y)→m=gR (n :: ns)
 | n,[],m,h,_=>by
  have:m=n:=by simpa using h
  rw [this]
  rfl
 | n,k :: ns,m,h,u=>by
  show m=min n (gR (k :: ns))
  have hg:∀ {a:Int} {as:List Int},gR (a :: as)∈a :: as∧∀ y∈a :: as,gR (a :: as)≤y:=by
   intro a as
   induction as generalizing a with
   | nil=>exact ⟨ak.mpr rfl,fun y hy=>by rw [ak.mp hy]; exact Int.le_refl _⟩
   | cons b bs ih =>
    obtain ⟨i1,i2⟩:=ih (a:=b)
    have e:gR (a :: b :: bs)=min a (gR (b :: bs)):=rfl
    rw [e]
    refine ⟨?_,fun y hy=>?_⟩
    ·by_cases c:a≤gR (b :: bs)
     ·rw [Int.min_eq_left c]; exact aj
     ·rw [Int.min_eq_right (by omega)]; exact ao _ i1
    ·rcases ax.mp hy with rfl | hy
     ·exact Int.min_le_left _ _
     ·exact Int.le_trans (Int.min_le_right _ _) (i2 y hy)
  obtain ⟨g1,g2⟩:=hg (a:=k) (as:=ns)
  have h1:m≤n:=u n aj
  have h2:m≤gR (k :: ns):=u _ (ao _ g1)
  rcases ax.mp h with rfl | h
  ·omega
  ·have:=g2 m h
   omega
theorem lO {Y:Wd} {ds:List D} (S:SR Y g σ H l s) (h:RdV Y g.F H (.lst ds) v):∃ a vs,v=V.ref a∧SqL Y.K H a vs∧Rps Y g.F ds vs:=by
 obtain ⟨a,vs,e,ha,r⟩:=h.lst S
 exact ⟨a,vs,e,.inl (.inl ha),r⟩
theorem qt {Y:Wd} {ds:List D} (S:SR Y g σ H l s) (h:RdV Y g.F H (.tup ds) v):∃ a vs,v=V.ref a∧SqT Y.K H a vs∧Rps Y g.F ds vs∧TuF g.F.h a vs:=by
 obtain ⟨a,vs,e,fa,ha,r⟩:=h.tup S
 exact ⟨a,vs,e,ha.sq,r,fa⟩
theorem pz (S:SR G.Y g σ H l s) {f:BI} {as:List D} {vs:List V} (h:ValE G W g σ l (BI.run f as s) Q) (v1:RdVs G.Y g.F H as vs):Fu G.Y f vs H Q:=by
 unfold BI.run at h
 split at h <;> first | exact h.elim | skip
 ·obtain ⟨v,rfl,r⟩:=v1.one
  obtain ⟨a,vs,rfl,ha,ra,fa⟩:=qt S r
  rw [ra.length] at h
  exact .inl ⟨a,vs,rfl,.inr ha,h.frz S (.int _)⟩
 ·obtain ⟨v,rfl,r⟩:=v1.one
  obtain ⟨a,vs,rfl,ha,ra⟩:=lO S r
  rw [ra.length] at h
  exact .inl ⟨a,vs,rfl,.inl ha,h.frz S (.int _)⟩
 ·obtain ⟨v,rfl,r⟩:=v1.one
  obtain ⟨a,vs,rfl,ha,ra⟩:=r.arr S
  rw [ra.length] at h
  exact .inl ⟨a,vs,rfl,.inl ha,h.frz S (.int _)⟩
 ·rename_i k xs
  obtain ⟨v,rfl,r⟩:=v1.one
  cases k with
  | false =>
   obtain ⟨a,kvs,rfl,ha,ra⟩:=r.dk S
   rw [ra.length] at h
   exact .inr (.inl ⟨a,kvs,rfl,ha,h.frz S (.int _)⟩)
  | true =>
   obtain ⟨a,ob,zs,rfl,ha,w,ra⟩:=r.dt S
   exact .inr (.inr (.inl ⟨g.F,a,ob,xs,zs,rfl,ha,w,ra,S.sF,h.frz S (.int _)⟩))
 ·obtain ⟨v,rfl,r⟩:=v1.one
  split at h
  ·exact .inr (.inr (.inr ⟨_,by rw [r.str],by assumption,h.frz S (.int _)⟩))
  ·exact h.elim
 ·obtain ⟨v,rfl,r⟩:=v1.one
  exact ⟨_,by rw [r.int],h.frz S (.int _)⟩
 ·obtain ⟨v,w,rfl,r,r2⟩:=v1.two
  exact ⟨_,_,by rw [r.int,r2.int],h.frz S (.int _)⟩
 ·obtain ⟨v,w,rfl,r,r2⟩:=v1.two
  exact ⟨_,_,by rw [r.int,r2.int],h.frz S (.int _)⟩
 ·obtain ⟨v,rfl,r⟩:=v1.one
  obtain ⟨a,vs,rfl,ha,ra,fa⟩:=qt S r
  split at h
  ·rename_i n ns e
   have e2:=cZ e
   rw [e2] at ra
   rw [ra.ints] at ha
   exact .inl ⟨a,n :: ns,rfl,ha,by simp,fun m hm hb=>by rw [jN hm hb]; exact h.frz S (.int _)⟩
  ·exact h.elim
 ·obtain ⟨v,rfl,r⟩:=v1.one
  obtain ⟨a,vs,rfl,ha,ra,fa⟩:=qt S r
  split at h
  ·rename_i n ns e
   have e2:=cZ e
   rw [e2] at ra
   rw [ra.ints] at ha
   exact .inl ⟨a,n :: ns,rfl,ha,by simp,fun m hm hb=>by rw [mO hm hb]; exact h.frz S (.int _)⟩
  ·exact h.elim
 ·obtain ⟨v,rfl,r⟩:=v1.one
  obtain ⟨a,vs,rfl,ha,ra⟩:=lO S r
  split at h
  ·rename_i n ns e
   have e2:=cZ e
   rw [e2] at ra
   rw [ra.ints] at ha
   exact .inr ⟨a,n :: ns,rfl,ha,by simp,fun m hm hb=>by rw [jN hm hb]; exact h.frz S (.int _)⟩
  ·exact h.elim
 ·obtain ⟨v,rfl,r⟩:=v1.one
  obtain ⟨a,vs,rfl,ha,ra⟩:=lO S r
  split at h
  ·rename_i n ns e
   have e2:=cZ e
   rw [e2] at ra
   rw [ra.ints] at ha
   exact .inr ⟨a,n :: ns,rfl,ha,by simp,fun m hm hb=>by rw [mO hm hb]; exact h.frz S (.int _)⟩
  ·exact h.elim
 ·obtain ⟨v,rfl,r⟩:=v1.one
  obtain ⟨a,vs,rfl,ha,ra⟩:=lO S r
  split at h
  ·rename_i bs e
   have e2:=gH e
   rw [e2] at ra
   rw [ra.bls] at ha
   exact ⟨a,bs,rfl,ha,h.frz S (.bl _)⟩
  ·exact h.elim
 ·obtain ⟨v,rfl,r⟩:=v1.one
  obtain ⟨a,vs,rfl,ha,ra⟩:=lO S r
  split at h
  ·rename_i bs e
   have e2:=gH e
   rw [e2] at ra
   rw [ra.bls] at ha
   exact ⟨a,bs,rfl,ha,h.frz S (.bl _)⟩
  ·exact h.elim
 ·obtain ⟨v,rfl,r⟩:=v1.one
  obtain ⟨a,vs,rfl,ha,ra⟩:=lO S r
  split at h
  ·rename_i ns e
   have e2:=cZ e
   rw [e2] at ra
   rw [ra.ints] at ha
   exact ⟨a,ns,rfl,ha,h.frz S (.int _)⟩
  ·exact h.elim
 ·obtain ⟨v,rfl,r⟩:=v1.one
  obtain ⟨a,vs,rfl,ha,ra⟩:=lO S r
  split at h
  ·rename_i ns e
   have e2:=cZ e
   rw [e2] at ra
   rw [ra.ints] at ha
   exact .inl ⟨a,ns,rfl,ha,fun ms p hp hs hn=>by rw [kx ns ms hp hs]; exact h.lstN S (Rps.ofInts _) hn⟩
  ·split at h
   ·rename_i zs e
    have e2:=fB e
    rw [e2] at ra
    rw [ra.strs] at ha
    split at h
    ·rename_i hh
     refine .inr (.inr (.inr (.inr ⟨a,zs,rfl,ha,hh.1,fun ys p hp hs hn=>?_⟩)))
     have e3:=hh.2.choose_spec ys hp hs
     rw [← e3] at h
     exact h.lstN S (Rps.ofStrs _) hn
    ·exact h.elim
   ·exact h.elim
 ·obtain ⟨v,rfl,r⟩:=v1.one
  obtain ⟨a,vs,rfl,ha,ra,fa⟩:=qt S r
  split at h
  ·rename_i ns e
   have e2:=cZ e
   rw [e2] at ra
   rw [ra.ints] at ha
   exact .inr (.inl ⟨a,ns,rfl,ha,fun ms p hp hs hn=>by rw [kx ns ms hp hs]; exact h.lstN S (Rps.ofInts _) hn⟩)
  ·exact h.elim
 ·obtain ⟨v,rfl,r⟩:=v1.one
  obtain ⟨a,kvs,rfl,ha,ra⟩:=r.dk S
  split at h
  ·rename_i ks e
   split at h
   ·rename_i hh
    refine .inr (.inr (.inl ⟨a,kvs,ks,rfl,.inl ha,ra.keysS e,hh.1,fun ys p hp hs hn=>?_⟩))
    have e2:=hh.2.choose_spec ys hp hs
    rw [← e2] at h
    exact h.lstN S (Rps.ofStrs _) hn
   ·exact h.elim
  ·split at h
   ·rename_i ns e
    exact .inr (.inr (.inr (.inl ⟨a,kvs,ns,rfl,.inl ha,ra.keysI e,fun ms p hp hs hn=>by rw [kx ns ms hp hs]; exact h.lstN S (Rps.ofInts _) hn⟩)))
   ·exact h.elim
 ·obtain ⟨v,rfl,r⟩:=v1.one
  obtain ⟨a,oo,kvs,rfl,ha,ra⟩:=r.fd S
  split at h
  ·rename_i ks e
   split at h
   ·rename_i hh
    refine .inr (.inr (.inl ⟨a,kvs,ks,rfl,.inr ⟨oo,ha⟩,ra.keysS e,hh.1,fun ys p hp hs hn=>?_⟩))
    have e2:=hh.2.choose_spec ys hp hs
    rw [← e2] at h
    exact h.lstN S (Rps.ofStrs _) hn
   ·exact h.elim
  ·exact h.elim
 ·obtain ⟨v,rfl,r⟩:=v1.one
  obtain ⟨a,vs,rfl,ha,ra⟩:=lO S r
  exact ⟨_,rfl,.inl ⟨a,vs,rfl,ha,h.tupN S ra⟩⟩
 ·obtain ⟨v,rfl,r⟩:=v1.one
  obtain ⟨a,vs,rfl,ha,ra,fa⟩:=qt S r
  exact ⟨_,rfl,.inr ⟨a,vs,rfl,ha,h.frz S (.tup fa ra)⟩⟩
 ·obtain ⟨v,rfl,r⟩:=v1.one
  obtain ⟨a,vs,rfl,ha,ra⟩:=lO S r
  exact ⟨a,vs,rfl,.inl ha,fun p hp=>h.lstN S ra hp⟩
 ·obtain ⟨v,rfl,r⟩:=v1.one
  obtain ⟨a,vs,rfl,ha,ra,fa⟩:=qt S r
  exact ⟨a,vs,rfl,.inr ha,fun p hp=>h.lstN S ra hp⟩
 ·obtain ⟨v,rfl,r⟩:=v1.one
  obtain ⟨a,kvs,rfl,ha,ra⟩:=r.dk S
  exact ⟨a,kvs,rfl,.inl ha,fun p hp=>h.nwo (S.lay hp) (S.newN hp (.dk upd_same ra))⟩
 ·obtain ⟨v,rfl,r⟩:=v1.one
  obtain ⟨a,oo,kvs,rfl,ha,ra⟩:=r.fd S
  exact ⟨a,kvs,rfl,.inr ⟨oo,ha⟩,fun p hp=>h.nwo (S.lay hp) (S.newN hp (.dk upd_same ra))⟩
 ·obtain ⟨v,rfl,r⟩:=v1.one
  split at h
  ·exact .inl ⟨_,by rw [r.int],by assumption,h.frz S (.str _)⟩
  ·exact h.elim
 ·obtain ⟨v,rfl,r⟩:=v1.one
  exact .inr ⟨_,by rw [r.str],h.frz S (.str _)⟩
 ·obtain ⟨v,rfl,r⟩:=v1.one
  exact .inl (.inl ⟨_,by rw [r.int],h.frz S (.int _)⟩)
 ·obtain ⟨v,rfl,r⟩:=v1.one
  exact .inl (.inr ⟨_,by rw [r.bl],h.frz S (.int _)⟩)
 ·obtain ⟨v,rfl,r⟩:=v1.one
  split at h
  ·split at h
   ·exact .inr ⟨_,_,by rw [r.str],by assumption,by assumption,h.frz S (.int _)⟩
   ·exact h.elim
  ·exact h.elim
end
section
variable {G:Gm} {W:WX} {g g':Gh} {σ:L2.St} {H H':Hp} {l:Lc} {s s':cj} {x:X} {Q:VK}
theorem ValR.ext {α:Type} (e:Ext g g') {r:R α} {K:α→Gh→Prop} (h:ValR G W g σ r K):ValR G W g' σ r K:=by
 cases r with
 | ok a=>exact fun g2 e2=>h g2 (e.trans e2)
 | er a b c=>exact fun g2 H' c dd e2=>h g2 H' c dd (e.trans e2)
 | no=>exact h

def KE (G:Gm) (σ:L2.St) (l:Lc) (Q:VK):VT→Gh→Prop:=fun p g'=>∀ v H',SR G.Y g' σ H' l p.2.2→VR G.Y g' σ H' l p.1 p.2.1 v→Q v H'
theorem ValE.toR {r:R VT} (h:ValE G W g σ l r Q):ValR G W g σ r (KE G σ l Q):=by
 cases r with
 | ok a =>
  obtain ⟨d,t,s⟩:=a
  exact fun g' e v H' S r=>h g' v H' e S r
 | er a b c=>exact h
 | no=>exact h
theorem ValE.ofR {r:R VT} (h:ValR G W g σ r (KE G σ l Q)):ValE G W g σ l r Q:=by
 cases r with
 | ok a =>
  obtain ⟨d,t,s⟩:=a
  exact fun g' v H' e S r=>h g' e v H' S r
 | er a b c=>exact h
 | no=>exact h
theorem kA {α:Type} {k:VT→R α} {K:α→Gh→Prop} (S:SR G.Y g σ H l s) (h:ValR G W g σ ((b7 G.fs G.gs x l s).bind k) K) {Q2:VK}
  (hk:∀ d t s1 g1 v H1,Ext g g1→SR G.Y g1 σ H1 l s1→VR G.Y g1 σ H1 l d t v→ValR G W g1 σ (k (d,t,s1)) K→Q2 v H1):rd G W x σ H Q2:=by
 refine ⟨g,l,s,S,?_⟩
 cases e:b7 G.fs G.gs x l s with
 | ok a =>
  obtain ⟨d,t,s1⟩:=a
  rw [e] at h
  exact fun g1 v H1 e1 S1 v1=>hk d t s1 g1 v H1 e1 S1 v1 (ValR.ext e1 h)
 | er a b c =>
  rw [e] at h
  exact h
 | no =>
  rw [e] at h
  exact h
theorem cS {α:Type} {k:VT→R α} {K:α→Gh→Prop} (S:SR G.Y g σ H l s) (h:ValR G W g σ ((b7 G.fs G.gs x l s).bind k) K) {Q2:VK}
  (hk:∀ d t s1 g1 v H1,Ext g g1→SR G.Y g1 σ H1 l s1→VS G.Y g1 σ l d v→ValR G W g1 σ (k (d,t,s1)) K→Q2 v H1):rd G W x σ H Q2 :=
 kA S h fun d t s1 g1 v H1 e1 S1 v1 h1=>by
  obtain ⟨g2,e2,S2,q⟩:=VR.stay S1 v1
  exact hk d t s1 g2 v H1 (e1.trans e2) S2 q (ValR.ext e2 h1)
theorem fC {α:Type} {k:D→cj→R α} {K:α→Gh→Prop} (S:SR G.Y g σ H l s) (h:ValR G W g σ (cf (b7 G.fs G.gs x l s) k) K) {Q2:VK}
  (hk:∀ d s1 g1 v H1,Ext g g1→SR G.Y g1 σ H1 l s1→Rp G.Y g1.F d v→ValR G W g1 σ (k d s1) K→Q2 v H1):rd G W x σ H Q2 :=
 kA S h fun d t s1 g1 v H1 e1 S1 v1 h1=>by
  have h1:ValR G W g1 σ (if (t=.bo∨t=.ow)∧d.still=false then R.no else k d s1) K:=h1
  by_cases c:(t=.bo∨t=.ow)∧d.still=false
  ·rw [ap c] at h1
   exact h1.elim
  ·rw [av c] at h1
   obtain ⟨g2,e2,S2,q⟩:=VR.keep S1 v1 c
   exact hk d s1 g2 v H1 (e1.trans e2) S2 q (ValR.ext e2 h1)

def KL (G:Gm) (σ:L2.St) (l:Lc) (Q:List V→Hp→Prop):List D × cj→Gh→Prop:=fun p g'=>∀ vs H',SR G.Y g' σ H' l p.2→Rps G.Y g'.F p.1 vs→Q vs H'
def wN (G:Gm) (W:WX) (es:X):TA:=fun σ H Q=>∃ g l s,SR G.Y g σ H l s∧ValR G W g σ (ju G.fs G.gs es l s) (KL G σ l Q)

def AR (Y:Wd) (g:Gh) (σ:L2.St) (l:Lc):List Bool→List D→List V→Prop
 | _,[],[]=>True
 | kp,d :: ds,v :: vs=>VS Y g σ l d v∧(kp.headD false=true→Rp Y g.F d v)∧AR Y g σ l kp.tail ds vs
 | _,_,_=>False
theorem AR.ext {Y:Wd} (e:Ext g g'):∀ {kp:List Bool} {ds:List D} {vs:List V},AR Y g σ l kp ds vs→AR Y g' σ l kp ds vs
 | _,[],[],_=>trivial
 | _,_ :: _,_ :: _,h=>⟨h.1.ext e,fun q=>(h.2.1 q).mono e.f,AR.ext e h.2.2⟩
 | _,[],_ :: _,h=>h.elim
 | _,_ :: _,[],h=>h.elim
def KA (G:Gm) (σ:L2.St) (l:Lc) (kp:List Bool) (Q:List V→Hp→Prop):List D × cj→Gh→Prop:=fun p g'=>∀ vs H',SR G.Y g' σ H' l p.2→AR G.Y g' σ l kp p.1 vs→Q vs H'
def rJ (G:Gm) (W:WX) (es:X) (kp:List Bool):TA:=fun σ H Q=>∃ g l s,SR G.Y g σ H l s∧ValR G W g σ (ft G.fs G.gs es kp l s) (KA G σ l kp Q)
theorem kB {α:Type} {k:List D × cj→R α} {K:α→Gh→Prop} (S:SR G.Y g σ H l s) (h:ValR G W g σ ((ju G.fs G.gs x l s).bind k) K) {Q2:List V→Hp→Prop}
  (hk:∀ ds s1 g1 vs H1,Ext g g1→SR G.Y g1 σ H1 l s1→Rps G.Y g1.F ds vs→ValR G W g1 σ (k (ds,s1)) K→Q2 vs H1):wN G W x σ H Q2:=by
 refine ⟨g,l,s,S,?_⟩
 cases e:ju G.fs G.gs x l s with
 | ok a =>
  obtain ⟨ds,s1⟩:=a
  rw [e] at h
  exact fun g1 e1 vs H1 S1 v1=>hk ds s1 g1 vs H1 e1 S1 v1 (ValR.ext e1 h)
 | er a b c =>
  rw [e] at h
  exact h
 | no =>
  rw [e] at h
  exact h
theorem fX {α:Type} {kp:List Bool} {k:List D × cj→R α} {K:α→Gh→Prop} (S:SR G.Y g σ H l s) (h:ValR G W g σ ((ft G.fs G.gs x kp l s).bind k) K) {Q2:List V→Hp→Prop}
  (hk:∀ ds s1 g1 vs H1,Ext g g1→SR G.Y g1 σ H1 l s1→AR G.Y g1 σ l kp ds vs→ValR G W g1 σ (k (ds,s1)) K→Q2 vs H1):rJ G W x kp σ H Q2:=by
 refine ⟨g,l,s,S,?_⟩
 cases e:ft G.fs G.gs x kp l s with
 | ok a =>
  obtain ⟨ds,s1⟩:=a
  rw [e] at h
  exact fun g1 e1 vs H1 S1 v1=>hk ds s1 g1 vs H1 e1 S1 v1 (ValR.ext e1 h)
 | er a b c =>
  rw [e] at h
  exact h
 | no =>
  rw [e] at h
  exact h
theorem AR.rd {Y:Wd} (S:SR Y g σ H l s):∀ {kp:List Bool} {ds:List D} {vs:List V},AR Y g σ l kp ds vs→RdVs Y g.F H ds vs
 | _,[],[],_=>trivial
 | _,_ :: _,_ :: _,h=>⟨h.1.rd S,AR.rd S h.2.2⟩
 | _,[],_ :: _,h=>h.elim
 | _,_ :: _,[],h=>h.elim
theorem Rps.rd {Y:Wd} {F:Fr}:∀ {ds:List D} {vs:List V},Rps Y F ds vs→RdVs Y F H ds vs
 | _,_,.nil=>trivial
 | _,_,.cons h r=>⟨.inl h,Rps.rd r⟩
end
section
variable {C:Cx} {S:Sc} {G:Gn} {W:WX} {e f b:Expr} {es:List Expr} {pos:Pos} {xa xb xc:X}

theorem FW (B:Gd C S G W) {i:Nat} {x:Str} (hN:S.N[i]?=some x) (hv:fV S.sc x=true) (hn:dZ x=true):PE C (.Name x pos) (rd G.gm W (.v i)):=by
 refine PE.imp (pe_var (i:=i) (by rw [B.N]; exact hN) (B.vis hv) (di hn) (oB hn)) ?_
 rintro σ H Q ⟨g,l,s,SS,h⟩
 have h:ValE G.gm W g σ l (match l[i]? with | some (some ⟨k,d⟩)=>.ok (d,k,s) | _=>.no) Q:=h
 split at h
 ·rename_i k d e
  obtain ⟨v,h1,h2⟩:=SS.sl i _ e
  refine ⟨v,h1,h g v H (.refl g) SS ?_⟩
  cases k with
  | fr=>exact h2
  | bo=>exact h2
  | ow=>exact ⟨i,h1,e⟩
  | nw=>exact h2.elim
 ·exact h.elim
theorem gi {c:Const} {k:Nat} {v:V} {d:D} {x:X} (h0:PE C (.Constant c k pos) (tC v)) (hx:∀ l s,b7 G.fs G.gs x l s=cg d s) (hr:∀ F,Rp G.Y F d v):PE C (.Constant c k pos) (rd G.gm W x):=by
 refine PE.imp h0 ?_
 rintro σ H Q ⟨g,l,s,SS,h⟩
 have h:ValE G.gm W g σ l (b7 G.fs G.gs x l s) Q:=h
 rw [hx] at h
 exact h.frz SS (hr _)
theorem FX (B:Gd C S G W) {j:Nat} {x:Str} (hN:S.gn[j]?=some x) (hg:cP S.sc x=true) (hn:dZ x=true):PE C (.Name x pos) (rd G.gm W (.g j)):=by
 cases e:G.gs[j]? with
 | none =>
  refine PE.imp (t:=fun _ _ _=>False) ⟨fun _ _ _ _ _ _ h=>h.elim⟩ ?_
  rintro σ H Q ⟨g,l,s,SS,h⟩
  have h:ValE G.gm W g σ l (match G.gs[j]? with | some d=>cg d s | none=>.no) Q:=h
  rw [e] at h
  exact h
 | some d =>
  obtain ⟨v,u,h1,h2,h3⟩:=B.gns j x d hN e
  refine PE.imp (pe_glob (B.gl hg) h1 h2 (di hn)) ?_
  rintro σ H Q ⟨g,l,s,SS,h⟩
  have h:ValE G.gm W g σ l (match G.gs[j]? with | some d=>cg d s | none=>.no) Q:=h
  rw [e] at h
  refine h.frz SS (show Rp G.Y g.F d v from ?_)
  rw [B.Y]
  exact h3 _ _
theorem Ad (B:Gd C S G W) (o:BOp) (ha:PE C e (rd G.gm W xa)) (hb:PE C b (rd G.gm W xb)):PE C (.BinOp e o.op b pos) (rd G.gm W (.bin o xa xb)):=by
 refine PE.imp (pe_op (Aa o) ha hb) ?_
 rintro σ H Q ⟨g,l,s,SS,h⟩
 refine cu SS (show ValE G.gm W g σ l ((b7 G.fs G.gs xa l s).bind _) Q from h) fun d t s1 g1 v H1 e1 S1 v1 h1=>?_
 refine cu S1 (show ValE G.gm W g1 σ l ((b7 G.fs G.gs xb l s1).bind _) Q from h1) fun d2 t2 s2 g2 v2 H2 e2 S2 w1 h2=>?_
 have:=wK S2 (show ValE G.gm W g2 σ l (BOp.run o d d2 s2) Q from h2) ((v1.ext e2).rd S2) (w1.rd S2)
 rw [show G.gm.Y.K=C.K from B.hK] at this
 exact this
theorem ia (B:Gd C S G W):C.A.units+65 < cLine:=by
 have:=B.un
 omega
theorem iy {o:COp} (h:jx o b=true):behindInMarks o.op b=false:=by
 cases o <;> first | exact nomark b | exact (aw _).mp h
theorem wf (o:COp):∀ σ H Q,rd G.gm W (.cmp o xa xb) σ H Q→tOp (cR G.Y o) (rd G.gm W xa) (rd G.gm W xb) σ H Q:=by
 rintro σ H Q ⟨g,l,s,SS,h⟩
 refine cu SS (show ValE G.gm W g σ l ((b7 G.fs G.gs xa l s).bind _) Q from h) fun d t s1 g1 v H1 e1 S1 v1 h1=>?_
 refine cu S1 (show ValE G.gm W g1 σ l ((b7 G.fs G.gs xb l s1).bind _) Q from h1) fun d2 t2 s2 g2 v2 H2 e2 S2 w1 h2=>?_
 exact lM S2 (show ValE G.gm W g2 σ l (COp.run o d d2 s2) Q from h2) ((v1.ext e2).rd S2) (w1.rd S2)
theorem Ae (B:Gd C S G W) (o:COp) (hk:jx o b=true) (ha:PE C e (rd G.gm W xa)) (hb:PE C b (rd G.gm W xb)):PE C (.Compare e [o.op] [b] pos) (rd G.gm W (.cmp o xa xb)) :=
 PE.imp (pe_cmpR (jM (ia B) B.Y o) ha hb (iy hk)) (wf o)
theorem Dh (B:Gd C S G W) (hs:cM f=true) (ha:PE C e (rd G.gm W xa)) (hb:PE C f (rd G.gm W xb)):PE C (.Subscript e f pos) (rd G.gm W (.ix xa xb)):=by
 refine PE.imp (pe_ix (wc B.hu B.Y) ha hb (iM hs)) ?_
 rintro σ H Q ⟨g,l,s,SS,h⟩
 refine cu SS (show ValE G.gm W g σ l ((b7 G.fs G.gs xa l s).bind _) Q from h) fun d t s1 g1 v H1 e1 S1 v1 h1=>?_
 refine cu S1 (show ValE G.gm W g1 σ l ((b7 G.fs G.gs xb l s1).bind _) Q from h1) fun d2 t2 s2 g2 v2 H2 e2 S2 w1 h2=>?_
 exact rG S2 (show ValE G.gm W g2 σ l (lF d d2 s2) Q from h2) ((v1.ext e2).rd S2) (w1.rd S2)
theorem Af (ha:PE C e (rd G.gm W xa)):PE C (.UnaryOp .USub e pos) (rd G.gm W (.neg xa)):=by
 refine PE.imp (pe_un un_neg ha) ?_
 rintro σ H Q ⟨g,l,s,SS,h⟩
 refine cu SS (show ValE G.gm W g σ l ((b7 G.fs G.gs xa l s).bind _) Q from h) fun d t s1 g1 v H1 e1 S1 v1 h1=>?_
 cases d with
 | int i=>exact ⟨i,(v1.rd S1).int,ValE.frz (show ValE G.gm W g1 σ l (cg (.int (-i)) s1) Q from h1) S1 (.int _)⟩
 | _=>exact h1.elim

theorem Ag (ha:PE C e (rd G.gm W xa)):PE C (.UnaryOp .Not e pos) (rd G.gm W (.not xa)):=by
 refine PE.imp (pe_not ha) ?_
 rintro σ H Q ⟨g,l,s,SS,h⟩
 refine cu SS (show ValE G.gm W g σ l ((b7 G.fs G.gs xa l s).bind _) Q from h) fun d t s1 g1 v H1 e1 S1 v1 h1=>?_
 cases d with
 | bl i=>exact ⟨i,(v1.rd S1).bl,ValE.frz (show ValE G.gm W g1 σ l (cg (.bl (!i)) s1) Q from h1) S1 (.bl _)⟩
 | _=>exact h1.elim
theorem wg (o q:COp):∀ σ H Q,rd G.gm W (.chn o q xa xb xc) σ H Q→tChain (cR G.Y o) (cR G.Y q) (rd G.gm W xa) (rd G.gm W xb) (rd G.gm W xc) σ H Q:=by
 rintro σ H Q ⟨g,l,s,SS,h⟩
 refine cu SS (show ValE G.gm W g σ l ((b7 G.fs G.gs xa l s).bind _) Q from h) fun d t s1 g1 v H1 e1 S1 v1 h1=>?_
 refine cu S1 (show ValE G.gm W g1 σ l ((b7 G.fs G.gs xb l s1).bind _) Q from h1) fun d2 t2 s2 g2 v2 H2 e2 S2 w1 h2=>?_
 refine lM (W:=W) (Q:=fun z H3=>∃ k,z=.bl k∧(if k=true then rd G.gm W xc σ H3 fun w' H4=>cR G.Y q v2 w' H4 Q else Q (.bl false) H3)) S2 ?_ ((v1.ext e2).rd S2) (w1.rd S2)
 have h2:ValE G.gm W g2 σ l ((COp.run o d d2 s2).bind _) Q:=h2
 cases e3:COp.run o d d2 s2 with
 | ok p =>
  obtain ⟨z,t3,s3⟩:=p
  rw [e3] at h2
  intro g3 vz H3 e4 S3 rz
  cases z with
  | bl bb =>
   have hz:vz=.bl bb:=by
    obtain ⟨g5,_,S5,q5⟩:=VR.stay S3 rz
    exact (q5.rd S5).bl
   refine ⟨bb,hz,?_⟩
   cases bb with
   | true =>
    rw [ap rfl]
    refine cu S3 (ValE.ext e4 (show ValE G.gm W g2 σ l ((b7 G.fs G.gs xc l s3).bind _) Q from h2)) fun d5 t5 s5 g5 v5 H5 e5 S5 w5 h5=>?_
    exact lM S5 (show ValE G.gm W g5 σ l (COp.run q d2 d5 s5) Q from h5) (((w1.ext e4).ext e5).rd S5) (w5.rd S5)
   | false =>
    rw [av aa]
    exact ValE.frz (ValE.ext e4 (show ValE G.gm W g2 σ l (cg (.bl false) s3) Q from h2)) S3 (.bl _)
  | _=>exact h2.elim
 | er a b c =>
  rw [e3] at h2
  exact h2
 | no =>
  rw [e3] at h2
  exact h2
theorem Ah (B:Gd C S G W) (o q:COp) {c:Expr} (hm:lastMarks [o.op,q.op] [b,c]=false) (ha:PE C e (rd G.gm W xa)) (hb:PE C b (rd G.gm W xb)) (hc:PE C c (rd G.gm W xc)) :
  PE C (.Compare e [o.op,q.op] [b,c] pos) (rd G.gm W (.chn o q xa xb xc)) :=
 PE.imp (pe_chain (jM (ia B) B.Y o) (jM (ia B) B.Y q) ha hb hc hm) (wg o q)

def mP (G:Gm) (W:WX) (es:X):TE:=fun σ H Q=>∃ g l s,SR G.Y g σ H l s∧ValE G W g σ l ((fA G.fs G.gs es l s).bind fun (b,s1)=>cg (.bl b) s1) Q
def rM (G:Gm) (W:WX) (es:X):TE:=fun σ H Q=>∃ g l s,SR G.Y g σ H l s∧ValE G W g σ l ((hU G.fs G.gs es l s).bind fun (b,s1)=>cg (.bl b) s1) Q
theorem fY {α β γ:Type} (r:R α) (f:α→R β) (k:β→R γ):(r.bind f).bind k=r.bind fun a=>(f a).bind k:=by cases r <;> rfl
theorem wO (ha:PE C e (rd G.gm W xa)):PE C (.BoolOp .And [e] pos) (mP G.gm W #v[xa]):=by
 refine PE.imp (pe_one ha) ?_
 rintro σ H Q ⟨g,l,s,SS,h⟩
 have h:ValE G.gm W g σ l (((b7 G.fs G.gs xa l s).bind fun (x,_,s1)=>match x with | .bl true=>fA G.fs G.gs .nil l s1 | .bl false=>.ok (false,s1) | _=>.no).bind fun (b,s1)=>cg (.bl b) s1) Q:=h
 rw [fY] at h
 refine cu SS h fun d t s1 g1 v H1 e1 S1 v1 h1=>?_
 cases d with
 | bl bb =>
  obtain rfl:=(v1.rd S1).bl
  cases bb with
  | true=>exact ValE.frz (show ValE G.gm W g1 σ l (cg (.bl true) s1) Q from h1) S1 (.bl _)
  | false=>exact ValE.frz (show ValE G.gm W g1 σ l (cg (.bl false) s1) Q from h1) S1 (.bl _)
 | _=>exact h1.elim
theorem Ai (ha:PE C e (rd G.gm W xa)) (hb:PE C (.BoolOp .And (b :: es) pos) (mP G.gm W xb)):PE C (.BoolOp .And (e :: b :: es) pos) (mP G.gm W (.cons xa xb)):=by
 refine PE.imp (pe_and ha hb) ?_
 rintro σ H Q ⟨g,l,s,SS,h⟩
 have h:ValE G.gm W g σ l (((b7 G.fs G.gs xa l s).bind fun (x,_,s1)=>match x with | .bl true=>fA G.fs G.gs xb l s1 | .bl false=>.ok (false,s1) | _=>.no).bind fun (b,s1)=>cg (.bl b) s1) Q:=h
 rw [fY] at h
 refine cu SS h fun d t s1 g1 v H1 e1 S1 v1 h1=>?_
 cases d with
 | bl bb =>
  obtain rfl:=(v1.rd S1).bl
  refine ⟨bb,rfl,?_⟩
  cases bb with
  | true=>exact (ap rfl).symm ▸ (⟨g1,l,s1,S1,h1⟩:mP G.gm W xb σ H1 Q)
  | false=>exact (av aa).symm ▸ (ValE.frz (show ValE G.gm W g1 σ l (cg (.bl false) s1) Q from h1) S1 (.bl _))
 | _=>exact h1.elim
theorem Aj (ha:PE C e (rd G.gm W xa)):PE C (.BoolOp .Or [e] pos) (rM G.gm W #v[xa]):=by
 refine PE.imp (pe_one ha) ?_
 rintro σ H Q ⟨g,l,s,SS,h⟩
 have h:ValE G.gm W g σ l (((b7 G.fs G.gs xa l s).bind fun (x,_,s1)=>match x with | .bl false=>hU G.fs G.gs .nil l s1 | .bl true=>.ok (true,s1) | _=>.no).bind fun (b,s1)=>cg (.bl b) s1) Q:=h
 rw [fY] at h
 refine cu SS h fun d t s1 g1 v H1 e1 S1 v1 h1=>?_
 cases d with
 | bl bb =>
  obtain rfl:=(v1.rd S1).bl
  cases bb with
  | true=>exact ValE.frz (show ValE G.gm W g1 σ l (cg (.bl true) s1) Q from h1) S1 (.bl _)
  | false=>exact ValE.frz (show ValE G.gm W g1 σ l (cg (.bl false) s1) Q from h1) S1 (.bl _)
 | _=>exact h1.elim
theorem Di (ha:PE C e (rd G.gm W xa)) (hb:PE C (.BoolOp .Or (b :: es) pos) (rM G.gm W xb)):PE C (.BoolOp .Or (e :: b :: es) pos) (rM G.gm W (.cons xa xb)):=by
 refine PE.imp (pe_or ha hb) ?_
 rintro σ H Q ⟨g,l,s,SS,h⟩
 have h:ValE G.gm W g σ l (((b7 G.fs G.gs xa l s).bind fun (x,_,s1)=>match x with | .bl false=>hU G.fs G.gs xb l s1 | .bl true=>.ok (true,s1) | _=>.no).bind fun (b,s1)=>cg (.bl b) s1) Q:=h
 rw [fY] at h
 refine cu SS h fun d t s1 g1 v H1 e1 S1 v1 h1=>?_
 cases d with
 | bl bb =>
  obtain rfl:=(v1.rd S1).bl
  refine ⟨bb,rfl,?_⟩
  cases bb with
  | true=>exact (ap rfl).symm ▸ (ValE.frz (show ValE G.gm W g1 σ l (cg (.bl true) s1) Q from h1) S1 (.bl _))
  | false=>exact (av aa).symm ▸ (⟨g1,l,s1,S1,h1⟩:rM G.gm W xb σ H1 Q)
 | _=>exact h1.elim

theorem wP:PA C [] (wN G.gm W .nil):=by
 refine PA.imp pa_nil ?_
 rintro σ H Q ⟨g,l,s,SS,h⟩
 exact h g (.refl g) [] H SS .nil
theorem ul (hs:bZ e=true) (ha:PE C e (rd G.gm W xa)) (hb:PA C es (wN G.gm W xb)):PA C (e :: es) (wN G.gm W (.cons xa xb)):=by
 refine PA.imp (pa_cons ha hb (bY hs)) ?_
 rintro σ H Q ⟨g,l,s,SS,h⟩
 refine fC SS (show ValR G.gm W g σ (cf (b7 G.fs G.gs xa l s) _) (KL G.gm σ l Q) from h) fun d s1 g1 v H1 e1 S1 r1 h1=>?_
 refine kB S1 (show ValR G.gm W g1 σ ((ju G.fs G.gs xb l s1).bind _) (KL G.gm σ l Q) from h1) fun ds s2 g2 vs H2 e2 S2 r2 h2=>?_
 exact h2 g2 (.refl g2) (v :: vs) H2 S2 (.cons (r1.mono e2.f) r2)
theorem wQ {kp:List Bool}:PA C [] (rJ G.gm W .nil kp):=by
 refine PA.imp pa_nil ?_
 rintro σ H Q ⟨g,l,s,SS,h⟩
 exact h g (.refl g) [] H SS trivial
theorem um {kp:List Bool} (hs:bZ e=true) (ha:PE C e (rd G.gm W xa)) (hb:PA C es (rJ G.gm W xb kp.tail)):PA C (e :: es) (rJ G.gm W (.cons xa xb) kp):=by
 refine PA.imp (pa_cons ha hb (bY hs)) ?_
 rintro σ H Q ⟨g,l,s,SS,h⟩
 refine kA SS (show ValR G.gm W g σ ((b7 G.fs G.gs xa l s).bind _) (KA G.gm σ l kp Q) from h) fun d t s1 g1 v H1 e1 S1 v1 h1=>?_
 have h1:ValR G.gm W g1 σ (if kp.headD false=true∧(t=.bo∨t=.ow)∧d.still=false then .no else (ft G.fs G.gs xb kp.tail l s1).bind fun (ds,s2)=>.ok (d :: ds,s2)) (KA G.gm σ l kp Q):=h1
 split at h1
 ·exact h1.elim
 ·rename_i hc
  obtain ⟨g2,e2,S2,r2,r2'⟩:∃ g2,Ext g1 g2∧SR G.Y g2 σ H1 l s1∧VS G.Y g2 σ l d v∧(kp.headD false=true→Rp G.Y g2.F d v):=by
   by_cases hk:kp.headD false=true
   ·obtain ⟨g2,e2,S2,r⟩:=VR.keep S1 v1 (fun z=>hc ⟨hk,z⟩)
    exact ⟨g2,e2,S2,.inl r,fun _=>r⟩
   ·obtain ⟨g2,e2,S2,r⟩:=VR.stay S1 v1
    exact ⟨g2,e2,S2,r,fun z=>absurd z hk⟩
  refine fX S2 (ValR.ext e2 h1) fun ds s3 g3 vs H3 e3 S3 r3 h3=>?_
  exact h3 g3 (.refl g3) (v :: vs) H3 S3 ⟨r2.ext e3,fun z=>(r2' z).mono e3.f,r3⟩

theorem Ak {k:Nat} (h:PA C es (wN G.gm W xa)):PE C (.Tuple es k pos) (rd G.gm W (.tup xa)):=by
 refine PE.imp (t4 h) ?_
 rintro σ H Q ⟨g,l,s,SS,h⟩
 refine kB SS (show ValR G.gm W g σ ((ju G.fs G.gs xa l s).bind _) (KE G.gm σ l Q) from ValE.toR h) fun ds s1 g1 vs H1 e1 S1 r1 h1=>?_
 have h1:ValR G.gm W g1 σ (if ds.length≤sizeLine then cg (.tup ds) s1 else .no) (KE G.gm σ l Q):=h1
 split at h1
 ·exact ⟨by rw [← r1.length]; assumption,(ValE.ofR h1).tupN S1 r1⟩
 ·exact h1.elim
theorem Al (h:PA C es (wN G.gm W xa)):PE C (.List es pos) (rd G.gm W (.lst xa)):=by
 refine PE.imp (pe_lst h) ?_
 rintro σ H Q ⟨g,l,s,SS,h⟩
 refine kB SS (show ValR G.gm W g σ ((ju G.fs G.gs xa l s).bind _) (KE G.gm σ l Q) from ValE.toR h) fun ds s1 g1 vs H1 e1 S1 r1 h1=>?_
 have h1:ValR G.gm W g1 σ (if ds.length≤sizeLine then dY (.lst ds) s1 else .no) (KE G.gm σ l Q):=h1
 split at h1
 ·exact ⟨by rw [← r1.length]; assumption,fun p hp=>(ValE.ofR h1).lstN S1 r1 hp⟩
 ·exact h1.elim
theorem wR (B:Gd C S G W) (k:Bool):PE C (.Dict [] [] pos) (rd G.gm W (.dic k .nil .nil)):=by
 cases k with
 | false =>
  refine PE.imp pe_dnewK ?_
  rintro σ H Q ⟨g,l,s,SS,h⟩ p hp
  exact ValE.nwo (show ValE G.gm W g σ l (dY (.dic false []) s) Q from h) (SS.lay hp) (SS.newN hp (.dk upd_same .nil))
 | true =>
  refine ⟨fun pins s σ H Q I h=>?_⟩
  obtain ⟨g,l,sto,SS,h⟩:=h
  obtain ⟨ob,w,I'⟩:=rD (Y:=⟨C.prog,C.w,C.K,G.Y.pn⟩) I
  have hp:H s.heap.objs.size=none:=I.hok.fresh (aA _)
  refine wpAny_Dict_empty ⟨.ref s.heap.objs.size,_,I',rfl,?_⟩
  refine ValE.nwo (show ValE G.gm W g σ l (dY (.dic true []) sto) Q from h) (SS.lay hp) (SS.newN hp (.dt upd_same ?_ .nil))
  rw [show G.gm.Y=_ from B.Y]
  exact w

def wS (G:Gm) (W:WX) (x:X):TO:=fun σ H Q=>∃ g l s,SR G.Y g σ H l s ∧
 ValR G W g σ (if x.isNil=true then R.ok ((none:Option Int),s) else (b7 G.fs G.gs x l s).bind fun (p,_,s2)=>match p with | .int i=>.ok (some i,s2) | _=>.no) (fun p g'=>∀ H',SR G.Y g' σ H' l p.2→Q p.1 H')
theorem Am (h:xa.isNil=true):PO C none (wS G.gm W xa):=by
 refine ⟨fun pins s σ H Q I q=>?_⟩
 obtain ⟨g,l,sto,SS,q⟩:=q
 rw [ap h] at q
 exact po_none.run pins s σ H Q I (q g (.refl g) H SS)
theorem pA (hn:xa.isNil=false) (ha:PE C e (rd G.gm W xa)):PO C (some e) (wS G.gm W xa):=by
 refine ⟨fun pins s σ H Q I q=>?_⟩
 refine (po_some ha).run pins s σ H Q I ?_
 obtain ⟨g,l,sto,SS,q⟩:=q
 rw [hn,av aa] at q
 refine cS SS q fun d t s1 g1 v H1 e1 S1 v1 h1=>?_
 cases d with
 | int i =>
  obtain rfl:=(v1.rd S1).int
  exact ⟨i,rfl,h1 g1 (.refl g1) H1 S1⟩
 | _=>exact h1.elim
theorem kC {G:Gm} {W:WX} {g:Gh} {σ:L2.St} {H:Hp} {l:Lc} {s:cj} {x:X} {α:Type} {k:Option Int × cj→R α} {K:α→Gh→Prop} (SS:SR G.Y g σ H l s)
  (h:ValR G W g σ ((if x.isNil=true then R.ok ((none:Option Int),s) else (b7 G.fs G.gs x l s).bind fun (p,_,s2)=>match p with | .int i=>.ok (some i,s2) | _=>.no).bind k) K) {Q2:Option Int→Hp→Prop}
  (hk:∀ p s1 g1 H1,Ext g g1→SR G.Y g1 σ H1 l s1→ValR G W g1 σ (k (p,s1)) K→Q2 p H1):wS G W x σ H Q2:=by
 refine ⟨g,l,s,SS,?_⟩
 generalize (if x.isNil=true then R.ok ((none:Option Int),s) else (b7 G.fs G.gs x l s).bind fun (p,_,s2)=>match p with | .int i=>.ok (some i,s2) | _=>.no)=r at h ⊢
 cases r with
 | ok a=>exact fun g1 e1 H1 S1=>hk a.1 a.2 g1 H1 e1 S1 (ValR.ext e1 h)
 | er a b c=>exact h
 | no=>exact h
theorem Dj (B:Gd C S G W) {lo hi:Option Expr} {p2:Pos} (ha:PE C e (rd G.gm W xa)) (hl:PO C lo (wS G.gm W xb)) (hh:PO C hi (wS G.gm W xc)):PE C (.Subscript e (.Slice lo hi none p2) pos) (rd G.gm W (.sl xa xb xc)):=by
 refine PE.imp (pe_slice (wM B.Y) ha hl hh) ?_
 rintro σ H Q ⟨g,l,s,SS,h⟩
 refine cS SS (show ValR G.gm W g σ ((b7 G.fs G.gs xa l s).bind _) (KE G.gm σ l Q) from ValE.toR h) fun d t s1 g1 v H1 e1 S1 v1 h1=>?_
 refine kC S1 h1 fun p s2 g2 H2 e2 S2 h2=>?_
 refine kC S2 h2 fun q s3 g3 H3 e3 S3 h3=>?_
 exact ui S3 (ValE.ofR (show ValR G.gm W g3 σ (rf d p q s3) (KE G.gm σ l Q) from h3)) (((v1.ext e2).ext e3).rd S3)

theorem mQ {f0:Value} {r:List V→Hp→VK→Prop} {t:TA} {x:Str} {p:Pos} (hf:(∃ id,f0=.builtin id)∨∃ T,f0=.type T) (hc:CallR C f0 r) (hg:Gl C x) (hm:C.mg x=none) (hv:bootBuiltins x=some f0) (ha:PA C (e :: es) t) (hn:x≠"__name__") (hdb:(x == ("__debug__":Str))=false)
  (he:starEach (e :: es) C.env=(false,eval e C.env) :: starEach es C.env) (hpl:(backTo pos (starEach es C.env)).any (·.1)=false):PE C (.Call (.Name x p) (e :: es) [] pos) (tCB r t):=by
 rcases hf with ⟨id,rfl⟩ | ⟨T,rfl⟩
 ·exact pe_callB hc hg hm hv ha hn hdb he hpl
 ·exact pe_callTy hc hg hm hv ha hn hdb he hpl
theorem BI.isV (f:BI):(∃ id,f.val=.builtin id)∨∃ T,f.val=.type T:=by cases f <;> first | exact .inl ⟨_,rfl⟩ | exact .inr ⟨_,rfl⟩
theorem Dk (B:Gd C S G W) (hh:S.hot=false) (f:BI) {p:Pos} (hg:cP S.sc f.nm=true) (hs:bZ e=true) (hs2:es.all bZ=true) (ha:PA C (e :: es) (rJ G.gm W xa [])):PE C (.Call (.Name f.nm p) (e :: es) [] pos) (rd G.gm W (.bi f xa)):=by
 refine PE.imp (mQ f.isV (rH B.Y (B.calm hh) B.hu f) (B.gl hg) (B.blt _ f.nmOk.2.2) f.boot ha f.nmOk.1 f.nmOk.2.1 (bY hs) (dh hs2)) ?_
 rintro σ H Q ⟨g,l,s,SS,h⟩
 refine fX SS (show ValR G.gm W g σ ((ft G.fs G.gs xa [] l s).bind _) (KE G.gm σ l Q) from ValE.toR h) fun ds s1 g1 vs H1 e1 S1 r1 h1=>?_
 exact pz S1 (ValE.ofR (show ValR G.gm W g1 σ (BI.run f ds s1) (KE G.gm σ l Q) from h1)) (r1.rd S1)

theorem SR.heap {Y:Wd} {g:Gh} {σ:L2.St} {H H':Hp} {l:Lc} {s:cj} (S:SR Y g σ H l s) (e:Same H H'):SR Y g σ H' l s:=by
 refine ⟨S.sB.trans e,S.sF.trans e,S.len,fun i z hz=>?_,S.ow,S.st.heap fun a n u _ h=>e a u h⟩
 obtain ⟨v,h1,h2⟩:=S.sl i z hz
 refine ⟨v,h1,?_⟩
 obtain ⟨k,d⟩:=z
 cases k with
 | fr=>exact h2
 | bo=>exact h2
 | ow=>exact ⟨h2.1.mono (Fr.le.refl _) e,h2.2⟩
 | nw=>exact h2
theorem SR.call {Y:Wd} {g:Gh} {σ:L2.St} {H H':Hp} {F':Fr} {l:Lc} {s:cj} (S:SR Y g σ H l s) (e:Same H H') (eF:Same F'.h H') (em:F'.m=g.F.m) (ex:Ext ⟨g.F,H,g.F.m⟩ ⟨F',H,g.F.m⟩):SR Y ⟨F',g.B,g.M⟩ σ H' l s∧Ext g ⟨F',g.B,g.M⟩:=by
 refine ⟨⟨S.sB.trans e,eF,S.len,fun i z hz=>?_,S.ow,(S.st.heap fun a n u _ h=>e a u h).fro ex.f em fun a n h1 h2=>?_⟩,⟨rfl,ex.f,fun a o h1 h2=>S.freeB (ex.new a o h1 h2),rfl⟩⟩
 rotate_left
 ·cases q:F'.h a with
  | none=>rfl
  | some o =>
   have hn:H a=none:=ex.new a o q h2
   have:=S.st.lv a n h1
   rw [hn] at this
   cases this
 obtain ⟨v,h1,h2⟩:=S.sl i z hz
 refine ⟨v,h1,?_⟩
 obtain ⟨k,d⟩:=z
 cases k with
 | fr=>exact Rp.mono ex.f h2
 | bo=>exact h2.imp (fun q=>q.mono ex.f) fun q=>q.mono ex.f (Same.refl _)
 | ow =>
  refine ⟨h2.1.mono ex.f e,fun a ea=>⟨?_,(h2.2 a ea).2.1,fun n q=>(h2.2 a ea).2.2 n (by rw [← em]; exact q)⟩⟩
  cases q:F'.h a with
  | none=>rfl
  | some o =>
   have hn:=ex.new a o q (h2.2 a ea).1
   obtain ⟨a',e',hs⟩:=h2.1.isRef
   rw [ea] at e'
   cases e'
   have hn:H a=none:=hn
   rw [hn] at hs
   cases hs
 | nw=>exact h2
theorem AR.arg {Y:Wd} {g:Gh} {σ:L2.St} {H:Hp} {l:Lc} {s:cj} (S:SR Y g σ H l s):∀ {kp:List Bool} {ds:List D} {vs:List V},AR Y g σ l kp ds vs→ArgR Y ⟨g.F,H,g.F.m⟩ kp ds vs
 | _,[],[],_=>trivial
 | kp,d :: ds,v :: vs,h=>by
  refine ⟨?_,AR.arg S h.2.2⟩
  split
  ·exact h.2.1 (by assumption)
  ·exact (show RdV Y g.F H d v from h.1.rd S)
 | _,[],_ :: _,h=>h.elim
 | _,_ :: _,[],h=>h.elim
theorem wT (B:Gd C S G W) (hh:S.hot=false) {j:Nat} {x:Str} {p:Pos} (hx:S.cs[j]?=some x) (hg:cP S.sc x=true) (hn:dZ x=true) (hs:bZ e=true) (hs2:es.all bZ=true) (ha:∀ kp,PA C (e :: es) (rJ G.gm W xa kp)) :
  PE C (.Call (.Name x p) (e :: es) [] pos) (rd G.gm W (.call j xa)):=by
 cases ef:G.fs[j]? with
 | none =>
  refine PE.imp (t:=fun _ _ _=>False) ⟨fun _ _ _ _ _ _ h=>h.elim⟩ ?_
  rintro σ H Q ⟨g,l,s,SS,h⟩
  have h:ValE G.gm W g σ l (b7 G.fs G.gs (.call j xa) l s) Q:=h
  simp only [b7,ef] at h
  exact h
 | some F =>
  obtain ⟨a,fd,ps,hF,hm,hk,hb⟩:=B.fns hh j x F hx ef
  refine PE.imp (pe_callS hF (B.room hh) (B.gl hg) hm hk hb (fun σ=>passAt B.tk σ) (ha F.kp) (di hn) (bY hs) (dh hs2)) ?_
  rintro σ H Q ⟨g,l,s,SS,h⟩
  have h:ValE G.gm W g σ l (b7 G.fs G.gs (.call j xa) l s) Q:=h
  simp only [b7,ef] at h
  refine fX SS (show ValR G.gm W g σ ((ft G.fs G.gs xa F.kp l s).bind _) (KE G.gm σ l Q) from ValE.toR h) fun ds s1 g1 vs H1 e1 S1 r1 h1=>?_
  refine .inl ⟨g1.F,ds,S1.sF,S1.st.lv,r1.arg S1,?_⟩
  cases er:F.run ds with
  | ok q =>
   obtain ⟨d,t⟩:=q
   simp only [er] at h1
   intro F' H' v sm sF em ex rr
   obtain ⟨S2,e2⟩:=S1.call sm sF em ex
   refine h1 _ e2 v H' S2 ?_
   cases t with
   | fr=>exact rr
   | nw =>
    obtain ⟨p',rfl,q1,q2,q3⟩:=rr
    exact ⟨p',rfl,⟨q1,fun n q=>S1.freeM q2 n (by rw [← em]; exact q)⟩,S1.freeB q2,q3,S1.noown q2⟩
   | bo=>exact rr.elim
   | ow=>exact rr.elim
  | er e s' l' =>
   simp only [er] at h1
   intro H' c dd sm ex
   exact h1 g1 H' c dd (.refl g1) (S1.heap sm) ex
  | no =>
   simp only [er] at h1
   exact h1

theorem qu {CX0:CXT} {k:Nat} {f:Addr} {fd:FuncData} {ps:List Str} {sp:Sp} {E:L2.St→XK} {x:Str} {p:Pos} (F:FnOk C.prog C.w C.K C.mg C.base CX0 k f fd ps sp) (hr:Room k C.A) (hg:Gl C x) (hm:C.mg x=some (.ref f)) (hk:PySem.W.keepIn C.K (.ref f)=true) (hb:Binds C.K fd ps []) (hx:∀ σ,PassesAt CX0 C σ (E σ))
  (hdb:(x == ("__debug__":Str))=false):PE C (.Call (.Name x p) [] [] pos) (tCallS sp E tNil):=by
 refine ⟨fun pins s σ H Q I h=>?_⟩
 refine wpAny_Call_Name_kw (ld_glob I hg hm ?_ hdb)
 exact PySem.W.callWith_K0 I.kIn hk (run_fnS (us:=[]) F hr hb (hx σ) I .nil h)
theorem uo (B:Gd C S G W) (hh:S.hot=false) {j:Nat} {x:Str} {p:Pos} (hx:S.cs[j]?=some x) (hg:cP S.sc x=true) (hn:dZ x=true) :
  PE C (.Call (.Name x p) [] [] pos) (rd G.gm W (.call j .nil)):=by
 cases ef:G.fs[j]? with
 | none =>
  refine PE.imp (t:=fun _ _ _=>False) ⟨fun _ _ _ _ _ _ h=>h.elim⟩ ?_
  rintro σ H Q ⟨g,l,s,SS,h⟩
  have h:ValE G.gm W g σ l (b7 G.fs G.gs (.call j .nil) l s) Q:=h
  simp only [b7,ef] at h
  exact h
 | some F =>
  obtain ⟨a,fd,ps,hF,hm,hk,hb⟩:=B.fns hh j x F hx ef
  refine PE.imp (qu hF (B.room hh) (B.gl hg) hm hk hb (fun σ=>passAt B.tk σ) (di hn)) ?_
  rintro σ H Q ⟨g,l,s,SS,h⟩
  have h:ValE G.gm W g σ l (b7 G.fs G.gs (.call j .nil) l s) Q:=h
  simp only [b7,ef,ft,R.bind] at h
  have h1:=ValE.toR h
  show _∨_
  refine .inl ⟨g.F,[],SS.sF,SS.st.lv,trivial,?_⟩
  cases er:F.run [] with
  | ok q =>
   obtain ⟨d,t⟩:=q
   simp only [er] at h1
   intro F' H' v sm sF em ex rr
   obtain ⟨S2,e2⟩:=SS.call sm sF em ex
   refine h1 _ e2 v H' S2 ?_
   cases t with
   | fr=>exact rr
   | nw =>
    obtain ⟨p',rfl,q1,q2,q3⟩:=rr
    exact ⟨p',rfl,⟨q1,fun n q=>SS.freeM q2 n (by rw [← em]; exact q)⟩,SS.freeB q2,q3,SS.noown q2⟩
   | bo=>exact rr.elim
   | ow=>exact rr.elim
  | er e s' l' =>
   simp only [er] at h1
   intro H' c dd sm ex
   exact h1 g H' c dd (.refl g) (SS.heap sm) ex
  | no =>
   simp only [er] at h1
   exact h1

def offB (F:Fr) (H:Hp):Hp:=fun a=>match F.m a with
 | none=>H a
 | some _=>none
theorem iz {F:Fr} {H:Hp} {a:Addr} (h:∀ n,F.m a≠some n):offB F H a=H a:=by
 unfold offB
 cases e:F.m a with
 | none=>rfl
 | some n=>exact absurd e (h n)
theorem lP {F:Fr} {H:Hp} {a:Addr} {n:Nat} (h:F.m a=some n):offB F H a=none:=by
 unfold offB
 rw [h]
theorem pB {F:Fr} {H:Hp}:Same (offB F H) H:=fun a u e=>by
 cases q:F.m a with
 | none=>rw [iz (fun n z=>by rw [q] at z; cases z)] at e; exact e
 | some n=>rw [lP q] at e; cases e
section
variable {Y:Wd} {g:Gh} {σ:L2.St} {H H':Hp} {l:Lc} {s s':cj}
theorem SR.offB (S:SR Y g σ H l s) (hs:s≠[]):Same g.B (offB g.F H):=fun a u e=>by
 have hm:∀ n,g.F.m a≠some n:=fun n q=>by
  have:=(S.st.lt hs a n q).2
  rw [e] at this
  cases this
 rw [iz hm]
 exact S.sB a u e
theorem SR.stB (S:SR Y g σ H l s) (hs:s≠[]):StR Y ⟨g.F,GM.offB g.F H,g.F.m⟩ H s where
 at_:=fun n c q=>(S.st.at_ n c q).mono (Fr.le.refl _) (fun a k=>⟨k.m,k.u,k.f,lP k.m⟩) fun a u _ h=>h
 lv:=S.st.lv
 lt:=fun h a n q=>⟨(S.st.lt h a n q).1,lP q⟩
 no:=fun _=>rfl
 mb:=fun a n q=>q

theorem SR.callT (S:SR Y g σ H l s) (hs:s≠[]) (hs':s'≠[]) {F':Fr} (e:Same (GM.offB g.F H) H') (eF:Same F'.h H') (ex:Ext ⟨g.F,GM.offB g.F H,g.F.m⟩ ⟨F',GM.offB g.F H,g.F.m⟩) (st:StR Y ⟨F',GM.offB g.F H,g.F.m⟩ H' s') :
  SR Y ⟨F',g.B,g.M⟩ σ H' l s'∧Ext g ⟨F',g.B,g.M⟩:=by
 have sB:=S.offB hs
 have own:∀ p,(∀ n,g.F.m p≠some n)→(H p).isSome=true→g.F.h p=none→(∀ u,H p=some u→H' p=some u)∧F'.h p=none∧∀ n,F'.m p≠some n:=fun p hm hp hf=>by
  obtain ⟨u,hu⟩:=a0.mp hp
  have hB:GM.offB g.F H p=some u:=by rw [iz hm]; exact hu
  refine ⟨fun w hw=>?_,?_,fun n q=>?_⟩
  ·rw [hu] at hw
   cases hw
   exact e p u hB
  ·cases q:F'.h p with
   | none=>rfl
   | some o =>
    have z:GM.offB g.F H p=none:=ex.new p o q hf
    rw [hB] at z
    cases z
  ·have z:GM.offB g.F H p=none:=(st.lt hs' p n q).2
   rw [hB] at z
   cases z
 refine ⟨⟨sB.trans e,eF,S.len,fun i z hz=>?_,S.ow,⟨fun n c q=>?_,st.lv,fun h a n q=>⟨(st.lt h a n q).1,?_⟩,fun h=>absurd h hs',fun a n q=>ex.f.m a n (S.st.mb a n q)⟩⟩,⟨rfl,ex.f,fun a o h1 h2=>?_,rfl⟩⟩
 ·obtain ⟨v,h1,h2⟩:=S.sl i z hz
  refine ⟨v,h1,?_⟩
  obtain ⟨k,d⟩:=z
  cases k with
  | fr=>exact Rp.mono ex.f h2
  | bo=>exact h2.imp (fun q=>q.mono ex.f) fun q=>q.mono ex.f (Same.refl _)
  | ow =>
   obtain ⟨tp,no⟩:=h2
   obtain ⟨a,rfl,hp⟩:=tp.isRef
   obtain ⟨n1,n2,n3⟩:=no a rfl
   obtain ⟨k1,k2,k3⟩:=own a n3 hp n1
   exact ⟨tp.at ex.f k1,fun b eb=>by cases eb; exact ⟨k2,n2,k3⟩⟩
  | nw=>exact h2
 ·exact (st.at_ n c q).mono (Fr.le.refl _) (fun a k=>⟨k.m,k.u,k.f,by
   cases z:g.B a with
   | none=>rfl
   | some u =>
    have y:GM.offB g.F H a=none:=k.b
    rw [sB a u z] at y
    cases y⟩) fun a u _ h=>h
 ·cases z:g.B a with
  | none=>rfl
  | some u =>
   have y:GM.offB g.F H a=none:=(st.lt h a n q).2
   rw [sB a u z] at y
   cases y
 ·have hB:GM.offB g.F H a=none:=ex.new a o h1 h2
  cases z:g.B a with
  | none=>rfl
  | some u =>
   rw [sB a u z] at hB
   cases hB
end
theorem AR.argT {Y:Wd} {g:Gh} {σ:L2.St} {H:Hp} {l:Lc} {s:cj} (S:SR Y g σ H l s) (hs:s≠[]):∀ {kp:List Bool} {ds:List D} {vs:List V},AR Y g σ l kp ds vs→ArgR Y ⟨g.F,offB g.F H,g.F.m⟩ kp ds vs
 | _,[],[],_=>trivial
 | kp,d :: ds,v :: vs,h=>by
  refine ⟨?_,AR.argT S hs h.2.2⟩
  split
  ·exact h.2.1 (by assumption)
  ·rcases h.1 with q | q | ⟨i,h1,h2⟩
   ·exact .inl q
   ·exact .inr (q.mono (Fr.le.refl _) (S.offB hs))
   ·obtain ⟨tp,no⟩:=S.own h1 h2
    obtain ⟨a,rfl,hp⟩:=tp.isRef
    exact .inr (tp.at (H':=offB g.F H) (Fr.le.refl _) fun u hu=>by rw [iz (no a rfl).2.2]; exact hu)
 | _,[],_ :: _,h=>h.elim
 | _,_ :: _,[],h=>h.elim
theorem wU (B:Gd C S G W) (hh:S.hot=false) {j:Nat} {x:Str} {p:Pos} (hx:S.cs[j]?=some x) (hg:cP S.sc x=true) (hn:dZ x=true) (hs:bZ e=true) (hs2:es.all bZ=true) (ha:∀ kp,PA C (e :: es) (rJ G.gm W xa kp)) :
  PE C (.Call (.Name x p) (e :: es) [] pos) (rd G.gm W (.calS j xa)):=by
 cases ef:G.fs[j]? with
 | none =>
  refine PE.imp (t:=fun _ _ _=>False) ⟨fun _ _ _ _ _ _ h=>h.elim⟩ ?_
  rintro σ H Q ⟨g,l,s,SS,h⟩
  have h:ValE G.gm W g σ l (b7 G.fs G.gs (.calS j xa) l s) Q:=h
  simp only [b7,ef] at h
  exact h
 | some F =>
  obtain ⟨a,fd,ps,hF,hm,hk,hb⟩:=B.fns hh j x F hx ef
  refine PE.imp (pe_callS hF (B.room hh) (B.gl hg) hm hk hb (fun σ=>passAt B.tk σ) (ha F.kp) (di hn) (bY hs) (dh hs2)) ?_
  rintro σ H Q ⟨g,l,s,SS,h⟩
  have h:ValE G.gm W g σ l (b7 G.fs G.gs (.calS j xa) l s) Q:=h
  simp only [b7,ef] at h
  refine fX SS (show ValR G.gm W g σ ((ft G.fs G.gs xa F.kp l s).bind _) (KE G.gm σ l Q) from ValE.toR h) fun ds s1 g1 vs H1 e1 S1 r1 h1=>?_
  have h1:ValR G.gm W g1 σ (if s1=[] then .no else match F.runS ds s1 with
   | .ok (d,t,c :: s2)=>.ok (d,t,c :: s2)
   | .er e (c :: s2) _=>.er e (c :: s2) l
   | _=>.no) (KE G.gm σ l Q):=h1
  split at h1
  ·exact h1.elim
  rename_i hs1
  refine .inr ⟨g1.F,offB g1.F H1,ds,s1,hs1,pB,S1.sF,S1.stB hs1,r1.argT S1 hs1,?_⟩
  cases er:F.runS ds s1 with
  | ok q =>
   obtain ⟨d,t,s2⟩:=q
   rw [er] at h1
   cases s2 with
   | nil=>exact h1.elim
   | cons c s2 =>
   refine ⟨by simp,fun F' H' v sm sF ex st rr=>?_⟩
   obtain ⟨S2,e2⟩:=S1.callT hs1 (by simp) sm sF ex st
   refine h1 _ e2 v H' S2 ?_
   cases t with
   | fr=>exact rr
   | nw =>
    obtain ⟨p',rfl,q1,q2,q3⟩:=rr
    refine ⟨p',rfl,q1,?_,q3,fun i d' k1 k2=>?_⟩
    ·cases z:g1.B p' with
     | none=>rfl
     | some u =>
      rw [S1.offB hs1 p' u z] at q2
      cases q2
    ·obtain ⟨tp,no⟩:=S1.own k1 k2
     obtain ⟨a',e',hp⟩:=tp.isRef
     cases e'
     rw [iz (no _ rfl).2.2] at q2
     rw [q2] at hp
     cases hp
   | bo=>exact rr.elim
   | ow=>exact rr.elim
  | er ee s' l' =>
   rw [er] at h1
   cases s' with
   | nil=>exact h1.elim
   | cons c s' =>
   refine ⟨by simp,fun F' H' c2 dd sm sF ex st xr=>?_⟩
   obtain ⟨S2,e2⟩:=S1.callT hs1 (by simp) sm sF ex st
   exact h1 _ H' c2 dd e2 S2 xr
  | no =>
   rw [er] at h1
   exact h1

theorem wV {Y:Wd} {g:Gh} {σ:L2.St} {H:Hp} {l:Lc} {s:cj} {d:D} {v:V} {n:String} (S:SR Y g σ H l s) (h:RdV Y g.F H d v) (e:d.ty=some n):TyX Y.K H v (.type n):=by
 cases d with
 | non=>cases (ad e); obtain rfl:=h.non; exact .base .non
 | bl b=>cases (ad e); obtain rfl:=h.bl; exact .base (.bl b)
 | int b=>cases (ad e); obtain rfl:=h.int; exact .base (.int b)
 | str b=>cases (ad e); obtain rfl:=h.str; exact .base (.str b)
 | tup ds=>cases (ad e); obtain ⟨a,vs,rfl,_,ha,_⟩:=h.tup S; exact let ⟨_,_,ha⟩:=ha; .fTuple ha
 | lst ds=>cases (ad e); obtain ⟨a,vs,rfl,ha,_⟩:=h.lst S; exact .base (.lst ha)
 | arr ds=>cases e
 | dic k ps =>
  cases k with
  | false=>cases (ad e); obtain ⟨a,vs,rfl,ha,_⟩:=h.dk S; exact .base (.dK ha)
  | true=>cases e
 | loc n=>cases e
 | exc n=>cases e
 | fdc n=>cases e
 | cd n=>cases e
theorem Ty.nmOk (t:Ty):Str.ofString t.nm≠"__name__"∧(Str.ofString t.nm == ("__debug__":Str))=false∧Str.ofString t.nm∈blts∧bootBuiltins (Str.ofString t.nm)=some (.type t.nm):=by cases t <;> symm
theorem wW (t:Ty) (d:D) {n:String} (e:d.ty=some n):kitB n t.nm=some (n == t.nm || (n == "bool" && t.nm == "int")):=by
 cases d with
 | dic k ps =>
  cases k with
  | false=>cases (ad e); cases t <;> symm
  | true=>cases e
 | _=>first | (cases e; done) | (cases (ad e); cases t <;> symm)
theorem An (B:Gd C S G W) (t:Ty) {p p2:Pos} (hg:cP S.sc "isinstance"=true) (hg2:cP S.sc (Str.ofString t.nm)=true) (hs:bZ e=true) (ha:PE C e (rd G.gm W xa)) :
  PE C (.Call (.Name "isinstance" p) [e,.Name (Str.ofString t.nm) p2] [] pos) (rd G.gm W (.isi xa t)):=by
 have ht:=t.nmOk
 have hb:PE C (.Name (Str.ofString t.nm) p2) (tC (.ty t.nm)):=pe_bltn (v:=.ty t.nm) (u:=.type t.nm) (B.gl hg2) (B.blt _ ht.2.2.1) ht.2.2.2 rfl ht.1 ht.2.1
 refine PE.imp (pe_callB call_isi (B.gl hg) (B.blt _ (by symm)) (by symm) (pa_cons ha (pa_cons hb pa_nil) (bY hs)) (by decide) (by decide) (bY hs) (by rfl)) ?_
 rintro σ H Q ⟨g,l,s,SS,h⟩
 refine cu SS (show ValE G.gm W g σ l ((b7 G.fs G.gs xa l s).bind _) Q from h) fun d t2 s1 g1 v H1 e1 S1 v1 h1=>?_
 have h1:ValE G.gm W g1 σ l (match Ty.run t d with | some b=>cg (.bl b) s1 | none=>.no) Q:=h1
 cases en:d.ty with
 | none =>
  have:Ty.run t d=none:=by unfold Ty.run; rw [en]; rfl
  rw [this] at h1
  exact h1.elim
 | some n =>
  have e2:Ty.run t d=some (n == t.nm || (n == "bool" && t.nm == "int")):=by unfold Ty.run; rw [en]; rfl
  rw [e2] at h1
  have ty:=wV S1 (v1.rd S1) en
  rw [show G.gm.Y.K=C.K from B.hK] at ty
  exact ⟨v,.ty t.nm,.type n,.type t.nm,_,rfl,.ty t.nm,ty,kit_ty (wW t d en),h1.frz S1 (.bl _)⟩

def i7 (G:Gm) (W:WX) (x:X):TT:=fun σ H Q=>∃ g l s,SR G.Y g σ H l s∧ValR G W g σ (b7 G.fs G.gs x l s) (fun p g'=>∃ b,p.1=.bl b∧∀ H',SR G.Y g' σ H' l p.2.2→Q b H')
theorem lQ {σ:L2.St} {H:Hp} {Q:Bool→Hp→Prop} (h:i7 G.gm W xa σ H Q):rd G.gm W xa σ H (fun x H'=>∃ k,x=.bl k∧Q k H'):=by
 obtain ⟨g,l,s,SS,h⟩:=h
 refine ⟨g,l,s,SS,?_⟩
 cases e:b7 G.fs G.gs xa l s with
 | ok p =>
  obtain ⟨d,t,s1⟩:=p
  have h:ValR G.gm W g σ (b7 G.fs G.gs xa l s) _:=h
  rw [e] at h
  intro g1 v H1 e1 S1 v1
  obtain ⟨b,eb,q⟩:=h g1 e1
  have eb:d=.bl b:=eb
  subst eb
  obtain ⟨g2,e2,S2,q2⟩:=VR.stay S1 v1
  exact ⟨b,(q2.rd S2).bl,q H1 S1⟩
 | er a b c =>
  have h:ValR G.gm W g σ (b7 G.fs G.gs xa l s) _:=h
  rw [e] at h
  exact h
 | no =>
  have h:ValR G.gm W g σ (b7 G.fs G.gs xa l s) _:=h
  rw [e] at h
  exact h

theorem cr {he:∀ whole,isTrue e C.env whole=(do let v ← whole; standAt e.pos; holding [v] (truthy v))} (ha:PE C e (rd G.gm W xa)):PT C e (i7 G.gm W xa):=PT.imp (pt_val ha he) fun σ H Q h=>lQ h
theorem Ao (B:Gd C S G W) (o:COp) (hk:jx o b=true) (ha:PE C e (rd G.gm W xa)) (hb:PE C b (rd G.gm W xb)):PT C (.Compare e [o.op] [b] pos) (i7 G.gm W (.cmp o xa xb)) :=
 PT.imp (pt_cmpR (jM (ia B) B.Y o) ha hb (iy hk)) fun σ H Q h=>wf o σ H _ (lQ h)
theorem Ap (B:Gd C S G W) (o q:COp) {c:Expr} (hm:lastMarks [o.op,q.op] [b,c]=false) (ha:PE C e (rd G.gm W xa)) (hb:PE C b (rd G.gm W xb)) (hc:PE C c (rd G.gm W xc)) :
  PT C (.Compare e [o.op,q.op] [b,c] pos) (i7 G.gm W (.chn o q xa xb xc)) :=
 PT.imp (pt_chain (jM (ia B) B.Y o) (jM (ia B) B.Y q) ha hb hc hm) fun σ H Q h=>wg o q σ H _ (lQ h)

theorem fZ {g:Gh} {σ:L2.St} {H:Hp} {l:Lc} {s:cj} {α:Type} {k:VT→R α} {K:α→Gh→Prop} (SS:SR G.Y g σ H l s) (h:ValR G.gm W g σ ((b7 G.fs G.gs xa l s).bind k) K) {Q2:Bool→Hp→Prop}
  (hk:∀ d t s1 g1,Ext g g1→ValR G.gm W g1 σ (k (d,t,s1)) K→∃ b,d=.bl b∧∀ H1,SR G.Y g1 σ H1 l s1→Q2 b H1):i7 G.gm W xa σ H Q2:=by
 refine ⟨g,l,s,SS,?_⟩
 have h:ValR G.gm W g σ ((b7 G.gm.fs G.gm.gs xa l s).bind k) K:=h
 cases e:b7 G.gm.fs G.gm.gs xa l s with
 | ok p =>
  obtain ⟨d,t,s1⟩:=p
  rw [e] at h
  exact fun g1 e1=>hk d t s1 g1 e1 (ValR.ext e1 h)
 | er a b c =>
  rw [e] at h
  exact h
 | no =>
  rw [e] at h
  exact h
theorem Aq (ha:PT C e (i7 G.gm W xa)):PT C (.UnaryOp .Not e pos) (i7 G.gm W (.not xa)):=by
 refine PT.imp (pt_not ha) ?_
 rintro σ H Q ⟨g,l,s,SS,h⟩
 refine fZ SS (show ValR G.gm W g σ ((b7 G.fs G.gs xa l s).bind _) _ from h) fun d t s1 g1 e1 h1=>?_
 cases d with
 | bl b =>
  refine ⟨b,rfl,fun H1 S1=>?_⟩
  obtain ⟨b',eb,q⟩:=h1 g1 (.refl g1)
  cases eb
  exact q H1 S1
 | _=>exact h1.elim
def jB (G:Gm) (W:WX) (es:X):TT:=fun σ H Q=>∃ g l s,SR G.Y g σ H l s∧ValR G W g σ (fA G.fs G.gs es l s) (fun p g'=>∀ H',SR G.Y g' σ H' l p.2→Q p.1 H')
def lc (G:Gm) (W:WX) (es:X):TT:=fun σ H Q=>∃ g l s,SR G.Y g σ H l s∧ValR G W g σ (hU G.fs G.gs es l s) (fun p g'=>∀ H',SR G.Y g' σ H' l p.2→Q p.1 H')
theorem wX (ha:PT C e (i7 G.gm W xa)):PW C (.BoolOp .And [e] pos) (jB G.gm W #v[xa]):=by
 refine ⟨fun wh pins s σ H Q I q=>(pw_and1 ha).run wh pins s σ H Q I ?_⟩
 obtain ⟨g,l,sto,SS,h⟩:=q
 refine fZ SS (show ValR G.gm W g σ ((b7 G.fs G.gs xa l sto).bind _) _ from h) fun d t s1 g1 e1 h1=>?_
 cases d with
 | bl b =>
  refine ⟨b,rfl,fun H1 S1=>?_⟩
  cases b with
  | true=>exact h1 g1 (.refl g1) H1 S1
  | false=>exact h1 g1 (.refl g1) H1 S1
 | _=>exact h1.elim
theorem Ar (ha:PT C e (i7 G.gm W xa)) (hb:PW C (.BoolOp .And (b :: es) pos) (jB G.gm W xb)):PW C (.BoolOp .And (e :: b :: es) pos) (jB G.gm W (.cons xa xb)):=by
 refine ⟨fun wh pins s σ H Q I q=>(pw_and ha hb).run wh pins s σ H Q I ?_⟩
 obtain ⟨g,l,sto,SS,h⟩:=q
 refine fZ SS (show ValR G.gm W g σ ((b7 G.fs G.gs xa l sto).bind _) _ from h) fun d t s1 g1 e1 h1=>?_
 cases d with
 | bl b =>
  refine ⟨b,rfl,fun H1 S1=>?_⟩
  cases b with
  | true=>exact (ap rfl).symm ▸ (⟨g1,l,s1,S1,h1⟩:jB G.gm W xb σ H1 Q)
  | false=>exact (av aa).symm ▸ (h1 g1 (.refl g1) H1 S1)
 | _=>exact h1.elim
theorem As (ha:PT C e (i7 G.gm W xa)):PW C (.BoolOp .Or [e] pos) (lc G.gm W #v[xa]):=by
 refine ⟨fun wh pins s σ H Q I q=>(pw_or1 ha).run wh pins s σ H Q I ?_⟩
 obtain ⟨g,l,sto,SS,h⟩:=q
 refine fZ SS (show ValR G.gm W g σ ((b7 G.fs G.gs xa l sto).bind _) _ from h) fun d t s1 g1 e1 h1=>?_
 cases d with
 | bl b =>
  refine ⟨b,rfl,fun H1 S1=>?_⟩
  cases b with
  | true=>exact h1 g1 (.refl g1) H1 S1
  | false=>exact h1 g1 (.refl g1) H1 S1
 | _=>exact h1.elim
theorem Dl (ha:PT C e (i7 G.gm W xa)) (hb:PW C (.BoolOp .Or (b :: es) pos) (lc G.gm W xb)):PW C (.BoolOp .Or (e :: b :: es) pos) (lc G.gm W (.cons xa xb)):=by
 refine ⟨fun wh pins s σ H Q I q=>(pw_or ha hb).run wh pins s σ H Q I ?_⟩
 obtain ⟨g,l,sto,SS,h⟩:=q
 refine fZ SS (show ValR G.gm W g σ ((b7 G.fs G.gs xa l sto).bind _) _ from h) fun d t s1 g1 e1 h1=>?_
 cases d with
 | bl b =>
  refine ⟨b,rfl,fun H1 S1=>?_⟩
  cases b with
  | true=>exact (ap rfl).symm ▸ (h1 g1 (.refl g1) H1 S1)
  | false=>exact (av aa).symm ▸ (⟨g1,l,s1,S1,h1⟩:lc G.gm W xb σ H1 Q)
 | _=>exact h1.elim
theorem uq (h:PW C e (jB G.gm W xa)):PT C e (i7 G.gm W (.and xa)):=by
 refine PT.imp h.pt ?_
 rintro σ H Q ⟨g,l,s,SS,h⟩
 refine ⟨g,l,s,SS,?_⟩
 have h:ValR G.gm W g σ ((fA G.gm.fs G.gm.gs xa l s).bind fun (b,s1)=>cg (.bl b) s1) (fun p g'=>∃ b,p.1=.bl b∧∀ H',SR G.Y g' σ H' l p.2.2→Q b H'):=h
 cases e:fA G.gm.fs G.gm.gs xa l s with
 | ok p =>
  rw [e] at h
  intro g1 e1 H1 S1
  obtain ⟨b,eb,q⟩:=h g1 e1
  cases eb
  exact q H1 S1
 | er a b c=>rw [e] at h; exact h
 | no=>rw [e] at h; exact h
theorem wY (h:PW C e (lc G.gm W xa)):PT C e (i7 G.gm W (.or xa)):=by
 refine PT.imp h.pt ?_
 rintro σ H Q ⟨g,l,s,SS,h⟩
 refine ⟨g,l,s,SS,?_⟩
 have h:ValR G.gm W g σ ((hU G.gm.fs G.gm.gs xa l s).bind fun (b,s1)=>cg (.bl b) s1) (fun p g'=>∃ b,p.1=.bl b∧∀ H',SR G.Y g' σ H' l p.2.2→Q b H'):=h
 cases e:hU G.gm.fs G.gm.gs xa l s with
 | ok p =>
  rw [e] at h
  intro g1 e1 H1 S1
  obtain ⟨b,eb,q⟩:=h g1 e1
  cases eb
  exact q H1 S1
 | er a b c=>rw [e] at h; exact h
 | no=>rw [e] at h; exact h

theorem At {c:Expr} (hc:PT C c (i7 G.gm W xc)) (ha:PE C e (rd G.gm W xa)) (hb:PE C b (rd G.gm W xb)):PE C (.IfExp c e b pos) (rd G.gm W (.ite xc xa xb)):=by
 refine PE.imp (pe_ifExp hc ha hb) ?_
 rintro σ H Q ⟨g,l,s,SS,h⟩
 refine fZ SS (show ValR G.gm W g σ ((b7 G.fs G.gs xc l s).bind _) (KE G.gm σ l Q) from ValE.toR h) fun d t s1 g1 e1 h1=>?_
 cases d with
 | bl b =>
  refine ⟨b,rfl,fun H1 S1=>?_⟩
  cases b with
  | true=>exact (ap rfl).symm ▸ (⟨g1,l,s1,S1,ValE.ofR h1⟩:rd G.gm W xa σ H1 Q)
  | false=>exact (av aa).symm ▸ (⟨g1,l,s1,S1,ValE.ofR h1⟩:rd G.gm W xb σ H1 Q)
 | _=>exact h1.elim
end
theorem oD {r:R VT} {d d':D} {t t':Tag} {s s':cj} (h:r=.ok (d,t,s)) (h':r=.ok (d',t',s')):d=d':=by
 rw [h] at h'
 injection h' with e
 exact (bX e).1


structure ExtW (g g':Gh):Prop where
 f:g.F.le g'.F
 b:Same g.B g'.B
theorem ExtW.refl (g:Gh):ExtW g g:=⟨Fr.le.refl _,Same.refl _⟩
theorem ExtW.trans {a b c:Gh} (x:ExtW a b) (y:ExtW b c):ExtW a c:=⟨x.f.trans y.f,x.b.trans y.b⟩
theorem Ext.w {g g':Gh} (e:Ext g g'):ExtW g g':=⟨e.f,by rw [e.b]; exact Same.refl _⟩

def Wk (Y:Wd) (J:It) (g0:Gh) (ds:List D):Prop:=∀ g i σ H l s,ExtW g0 g→SR Y g σ H l s →
 (∀ d,ds[i]?=some d→J.go i H∧∀ x H',J.yld i H x H'→∃ g',Ext g g'∧Same H H'∧SR Y g' σ H' l s∧Rp Y g'.F d x)∧(i=ds.length→J.stop i H)
theorem f6 {H:Hp} {p:Addr} {o:HO} (hp:H p=none):Same H (upd H p o):=fun b u e=>by
 rw [upd_ne (ne_of_none e hp)]
 exact e
theorem Wk.ext {Y:Wd} {J:It} {g0 g1:Gh} {ds:List D} (e:ExtW g0 g1) (w:Wk Y J g0 ds):Wk Y J g1 ds:=fun g i σ H l s e1 S=>w g i σ H l s (e.trans e1) S
def KI (G:Gm) (σ:L2.St) (l:Lc) (R:It→Hp→Prop):List D × cj→Gh→Prop:=fun p g'=>∀ J H',SR G.Y g' σ H' l p.2→Wk G.Y J g' p.1→R J H'
def mC (G:Gm) (W:WX) (x:X):TI:=fun σ H R=>∃ g l s,SR G.Y g σ H l s∧ValR G W g σ (gq G.fs G.gs x l s) (KI G σ l R)

def PV (Y:Wd) (g:Gh) (d:D) (v:V):Prop:=Rp Y g.F d v∨TpW Y g.F g.B d v
theorem VR.pv {Y:Wd} {g:Gh} {σ:L2.St} {H:Hp} {l:Lc} {s:cj} {d:D} {t:Tag} {v:V} (S:SR Y g σ H l s) (h:VR Y g σ H l d t v) (ht:t≠.ow):∃ g',Ext g g'∧SR Y g' σ H l s∧PV Y g' d v:=by
 cases t with
 | fr=>exact ⟨g,.refl g,S,.inl h⟩
 | bo=>exact ⟨g,.refl g,S,h⟩
 | ow=>exact absurd rfl ht
 | nw =>
  obtain ⟨g',E,S',r⟩:=VN.keep S h
  exact ⟨g',E,S',.inl r⟩
theorem PV.ext {Y:Wd} {g g':Gh} {d:D} {v:V} (e:Ext g g') (h:PV Y g d v):PV Y g' d v:=h.imp (fun q=>q.mono e.f) fun q=>by rw [e.b]; exact q.mono e.f (Same.refl _)
theorem PV.rd {Y:Wd} {g:Gh} {σ:L2.St} {H:Hp} {l:Lc} {s:cj} {d:D} {v:V} (S:SR Y g σ H l s) (h:PV Y g d v):RdV Y g.F H d v:=h.imp id fun q=>q.mono (Fr.le.refl _) S.sB

theorem PV.lst {Y:Wd} {g:Gh} {ds:List D} {v:V} (h:PV Y g (.lst ds) v):∃ a vs,v=.ref a∧Rps Y g.F ds vs∧∀ g' σ H l s,ExtW g g'→SR Y g' σ H l s→H a=some (.lst vs):=by
 rcases h with h | h
 ·cases h with
  | lst h r=>exact ⟨_,_,rfl,r,fun g' σ H l s e S=>S.sF _ _ (e.f.s _ _ h)⟩
 ·cases h with
  | lst h r=>exact ⟨_,_,rfl,r,fun g' σ H l s e S=>S.sB _ _ (e.b _ _ h)⟩
theorem PV.tup {Y:Wd} {g:Gh} {ds:List D} {v:V} (h:PV Y g (.tup ds) v):∃ a vs,v=.ref a∧Rps Y g.F ds vs∧∀ g' σ H l s,ExtW g g'→SR Y g' σ H l s→TuF H a vs:=by
 rcases h with h | h
 ·cases h with
  | tup h r=>exact ⟨_,_,rfl,r,fun g' σ H l s e S=>(h.mono e.f.s).mono S.sF⟩
 ·cases h
theorem PV.str {Y:Wd} {g:Gh} {x:Str} {v:V} (h:PV Y g (.str x) v):v=.str x:=by
 rcases h with h | h <;> cases h
 rfl
theorem kD {K:PySem.W.Frag} {H:Hp} {a:Addr} {xs:List V} (h:H a=some (.lst xs)):SqL K H a xs:=.inl (.inl h)
theorem ur {Y:Wd} {g0:Gh} {ds:List D} {a:Addr} {vs:List V} (r:Rps Y g0.F ds vs) (h:∀ g' σ H l s,ExtW g0 g'→SR Y g' σ H l s→H a=some (.lst vs)):Wk Y (Itl Y.K a) g0 ds:=by
 intro g i σ H l s e S
 have ha:=h g σ H l s e S
 refine ⟨fun d hd=>?_,fun hi=>⟨vs,kD ha,by rw [← r.length,hi]; exact aA _⟩⟩
 obtain ⟨v,hv,rv⟩:=r.get hd
 refine ⟨⟨vs,v,kD ha,hv⟩,fun x H' y=>?_⟩
 obtain ⟨rfl,y⟩:=y
 obtain rfl:v=x:=ad (hv.symm.trans (y vs (kD ha)))
 exact ⟨g,.refl g,Same.refl _,S,rv.mono e.f⟩
theorem wZ {Y:Wd} {g0:Gh} {ds:List D} {a:Addr} {vs:List V} (r:Rps Y g0.F ds vs) (h:∀ g' σ H l s,ExtW g0 g'→SR Y g' σ H l s→TuF H a vs):Wk Y (Itt Y.K a) g0 ds:=by
 intro g i σ H l s e S
 have ha:=h g σ H l s e S
 have sq:SqT Y.K H a vs:=ha.sq
 refine ⟨fun d hd=>?_,fun hi=>⟨vs,sq,by rw [← r.length,hi]; exact aA _⟩⟩
 obtain ⟨v,hv,rv⟩:=r.get hd
 refine ⟨⟨vs,v,sq,hv⟩,fun x H' y=>?_⟩
 obtain ⟨rfl,y⟩:=y
 obtain rfl:v=x:=ad (hv.symm.trans (y vs sq))
 exact ⟨g,.refl g,Same.refl _,S,rv.mono e.f⟩
theorem xf {Y:Wd} {g0:Gh} {x:Str}:Wk Y (Its x) g0 (x.cps.toList.map D.sgn):=by
 intro g i σ H l s e S
 refine ⟨fun d hd=>?_,fun hi=>?_⟩
 ·rw [aD,az] at hd
  obtain ⟨c,hc,rfl⟩:=hd
  rw [Array.getElem?_toList] at hc
  have hlt:i < x.cps.size:=(bB.mp hc).1
  refine ⟨hlt,fun v H' y=>?_⟩
  obtain ⟨rfl,c',hc',rfl⟩:=y
  obtain rfl:c=c':=ad (hc.symm.trans hc')
  exact ⟨g,.refl g,Same.refl _,S,.str _⟩
 ·show x.cps.size≤i
  rw [hi,ac,aW]
  exact aA _
theorem rN {Y:Wd} {g0:Gh} {lo:Int} {n:Nat}:Wk Y (Itr lo n) g0 (gG lo n):=by
 intro g i σ H l s e S
 refine ⟨fun d hd=>?_,fun hi=>?_⟩
 ·unfold gG at hd
  rw [aD,az] at hd
  obtain ⟨k,hk,rfl⟩:=hd
  have hlt:i < n:=by
   have:=(au.mp hk).1
   rwa [aq] at this
  rw [bx hlt] at hk
  obtain rfl:=ad hk
  refine ⟨hlt,fun v H' y=>?_⟩
  obtain ⟨rfl,rfl⟩:=y
  exact ⟨g,.refl g,Same.refl _,S,.int _⟩
 ·show n≤i
  rw [hi]
  unfold gG
  rw [ac,aq]
  exact aA _
theorem ut {Y:Wd} {g0:Gh} {lo:Int} {n:Nat}:Wk Y (Itc lo (-1) n) g0 (rg lo n):=by
 intro g i σ H l s e S
 refine ⟨fun d hd=>?_,fun hi=>?_⟩
 ·unfold rg at hd
  rw [aD,az] at hd
  obtain ⟨k,hk,rfl⟩:=hd
  have hlt:i < n:=by
   have:=(au.mp hk).1
   rwa [aq] at this
  rw [bx hlt] at hk
  obtain rfl:=ad hk
  refine ⟨hlt,fun v H' y=>?_⟩
  obtain ⟨rfl,rfl⟩:=y
  rw [show lo+(i:Nat)*(-1:Int)=lo - (i:Nat) by omega]
  exact ⟨g,.refl g,Same.refl _,S,.int _⟩
 ·show n≤i
  rw [hi]
  unfold rg
  rw [ac,aq]
  exact aA _
theorem oE {α:Type} (xs:List α) (i k:Nat):(xs.zipIdx k)[i]?=(xs[i]?).map fun x=>(x,i+k):=by
 rw [List.getElem?_zipIdx]
 cases xs[i]? with
 | none=>rfl
 | some x=>rw [Nat.add_comm]

theorem pC {Y:Wd} {F:Fr}:∀ cs:List Nat,Rps Y F (cs.map D.sgn) (cs.map fun c=>V.str ⟨#[c]⟩)
 | []=>.nil
 | _ :: r=>.cons (.str _) (pC r)
theorem PV.dw {Y:Wd} {g:Gh} {d:D} {ds:List D} {v:V} (h:PV Y g d v) (e:d.items=some ds):∃ (w:Dw) (vs:List V),v=w.val∧Rps Y g.F ds vs∧∀ g' σ H l s,ExtW g g'→SR Y g' σ H l s→w.on Y.K H vs:=by
 cases d with
 | lst xs =>
  cases e
  obtain ⟨a,vs,rfl,r,hh⟩:=h.lst
  exact ⟨.lst a,vs,rfl,r,fun g' σ H l s e S=>.inl (.inl (hh g' σ H l s e S))⟩
 | tup xs =>
  cases e
  obtain ⟨a,vs,rfl,r,hh⟩:=h.tup
  exact ⟨.tup a,vs,rfl,r,fun g' σ H l s e S=>(hh g' σ H l s e S).sq⟩
 | str x =>
  cases e
  obtain rfl:=h.str
  exact ⟨.str x,_,rfl,pC _,fun g' σ H l s e S=>rfl⟩
 | _=>cases e
theorem pD {Y:Wd} {g0:Gh} {ds:List D} {w:Dw} {vs:List V} (k:Nat) (r:Rps Y g0.F ds vs) (h:∀ g' σ H l s,ExtW g0 g'→SR Y g' σ H l s→w.on Y.K H vs):Wk Y (t8 Y.K w k) g0 ((ds.zipIdx k).map fun p=>gS (.int (p.2:Nat)) p.1):=by
 intro g i σ H l s e S
 have ha:=h g σ H l s e S
 refine ⟨fun d hd=>?_,fun hi=>⟨vs,ha,by rw [← r.length,hi,ac,List.length_zipIdx]⟩⟩
 rw [aD,oE,Option.map_map,az] at hd
 obtain ⟨d',hd',rfl⟩:=hd
 obtain ⟨v,hv,rv⟩:=r.get hd'
 refine ⟨⟨vs,v,ha,hv⟩,fun x H' y=>?_⟩
 obtain ⟨T,ob,z,rfl,hT,ho,rfl,y⟩:=y
 obtain rfl:v=z:=ad (hv.symm.trans (y vs ha))
 obtain ⟨S',E'⟩:=S.new (o:=.frz ob (.tup [.int ((k+i:Nat):Int),v])) hT
 have q:Rp Y (g.F.upd T (.frz ob (.tup [.int ((k+i:Nat):Int),v]))) (gS (.int ((k+i:Nat):Int)) d') (.ref T):=.tup (.new ho) #v[.int _,((rv.mono e.f).mono E'.f)]
 rw [Nat.add_comm] at q
 exact ⟨_,E',f6 hT,S',by rw [Nat.add_comm]; exact q⟩
theorem xg {Y:Wd} {g0:Gh} {ds es:List D} {w1 w2:Dw} {vs ws:List V} (r:Rps Y g0.F ds vs) (r2:Rps Y g0.F es ws) (h:∀ g' σ H l s,ExtW g0 g'→SR Y g' σ H l s→w1.on Y.K H vs)
  (h2:∀ g' σ H l s,ExtW g0 g'→SR Y g' σ H l s→w2.on Y.K H ws):Wk Y (wF Y.K w1 w2) g0 ((ds.zip es).map fun p=>gS p.1 p.2):=by
 intro g i σ H l s e S
 have ha:=h g σ H l s e S
 have hb:=h2 g σ H l s e S
 refine ⟨fun d hd=>?_,fun hi=>⟨vs,ws,ha,hb,?_⟩⟩
 ·rw [aD,az] at hd
  obtain ⟨⟨d1,d2⟩,hd',rfl⟩:=hd
  obtain ⟨q1,q2⟩:=List.getElem?_zip_eq_some.mp hd'
  obtain ⟨v,hv,rv⟩:=r.get q1
  obtain ⟨w,hw,rw'⟩:=r2.get q2
  refine ⟨⟨vs,ws,v,w,ha,hb,hv,hw⟩,fun x H' y=>?_⟩
  obtain ⟨T,ob,z,z',rfl,hT,ho,rfl,y1,y2⟩:=y
  obtain rfl:v=z:=ad (hv.symm.trans (y1 vs ha))
  obtain rfl:w=z':=ad (hw.symm.trans (y2 ws hb))
  obtain ⟨S',E'⟩:=S.new (o:=.frz ob (.tup [v,w])) hT
  exact ⟨_,E',f6 hT,S',.tup (.new ho) #v[((rv.mono e.f).mono E'.f),((rw'.mono e.f).mono E'.f)]⟩
 ·rw [ac,List.length_zip] at hi
  have e1:=r.length
  have e2:=r2.length
  omega
section
variable {C:Cx} {S:Sc} {G:Gn} {W:WX} {e f b tg:Expr} {es:List Expr} {pos:Pos} {xa xb xc:X}
theorem gI {t t':TI} (h:PI C tg e t) (k:∀ σ H R,t' σ H R→t σ H R):PI C tg e t':=⟨fun pins s σ H R I w=>h.run pins s σ H R I (k σ H R w)⟩
theorem wj {t t':TI} (h:PI C tg e t) (h':PI C tg e t'):PI C tg e (fun σ H R=>t σ H R∨t' σ H R):=⟨fun pins s σ H R I w=>w.elim (h.run pins s σ H R I) (h'.run pins s σ H R I)⟩
theorem fD {g:Gh} {σ:L2.St} {H:Hp} {l:Lc} {s:cj} {α:Type} {k:D→cj→R α} {K:α→Gh→Prop} (SS:SR G.Y g σ H l s) (h:ValR G.gm W g σ (fR (b7 G.fs G.gs xa l s) k) K) {Q2:VK}
  (hk:∀ d t s1 g1 v H1,b7 G.fs G.gs xa l s=.ok (d,t,s1)→Ext g g1→SR G.Y g1 σ H1 l s1→PV G.Y g1 d v→ValR G.gm W g1 σ (k d s1) K→Q2 v H1):rd G.gm W xa σ H Q2:=by
 refine ⟨g,l,s,SS,?_⟩
 have h:ValR G.gm W g σ ((b7 G.gm.fs G.gm.gs xa l s).bind fun (d,t,s)=>if t=.ow then .no else k d s) K:=h
 cases e:b7 G.gm.fs G.gm.gs xa l s with
 | ok p =>
  obtain ⟨d,t,s1⟩:=p
  rw [e] at h
  have h:ValR G.gm W g σ (if t=.ow then .no else k d s1) K:=h
  intro g1 v H1 e1 S1 v1
  split at h
  ·exact h.elim
  ·obtain ⟨g2,e2,S2,q⟩:=v1.pv S1 (by assumption)
   exact hk d t s1 g2 v H1 e (e1.trans e2) S2 q (ValR.ext (e1.trans e2) h)
 | er a b c =>
  rw [e] at h
  exact h
 | no =>
  rw [e] at h
  exact h

theorem qv {g:Gh} {σ:L2.St} {l:Lc} {s:cj} {α:Type} {k:D→cj→R α} {K:α→Gh→Prop} (h:ValR G.gm W g σ (fR (b7 G.fs G.gs xa l s) k) K) :
  (∃ d t s1,b7 G.fs G.gs xa l s=.ok (d,t,s1)∧ValR G.gm W g σ (k d s1) K)∨∃ e s1 l1,b7 G.fs G.gs xa l s=.er e s1 l1:=by
 unfold fR at h
 cases e:b7 G.fs G.gs xa l s with
 | ok p =>
  obtain ⟨d,t,s1⟩:=p
  rw [e] at h
  have h:ValR G.gm W g σ (if t=.ow then .no else k d s1) K:=h
  split at h
  ·exact h.elim
  ·exact .inl ⟨d,t,s1,rfl,h⟩
 | er a b c=>exact .inr ⟨a,b,c,rfl⟩
 | no =>
  rw [e] at h
  exact h.elim
theorem Dm (hset:∀ x,foldedSetIterable e C.env x=pure x) (B:Gd C S G W) (ha:PE C e (rd G.gm W xa)):PI C tg e (mC G.gm W (.it xa)):=by
 refine gI (wj (pi_list ha) (wj (pi_tup ha) (pi_str ha))) ?_
 rintro σ H R ⟨g,l,s,SS,h⟩
 have h:ValR G.gm W g σ (fR (b7 G.fs G.gs xa l s) fun x s1=>match x.items with | some xs=>.ok (xs,s1) | none=>.no) (KI G.gm σ l R):=h
 have hK:G.Y.K=C.K:=B.hK
 rcases qv h with ⟨d,t,s1,e1,q⟩ | ⟨a,b,c,e1⟩
 ·cases d with
  | lst ds =>
   refine .inl (fD SS h fun d' t' s1' g1 v H1 e2 x2 S1 p h1=>?_)
   obtain rfl:=oD e1 e2
   obtain ⟨a,vs,rfl,r,hh⟩:=p.lst
   refine ⟨a,rfl,⟨vs,.inl (.inl (hh g1 σ H1 l s1' (.refl g1) S1))⟩,?_⟩
   have w:=ur (Y:=G.Y) r hh
   rw [hK] at w
   exact h1 g1 (.refl g1) _ H1 S1 w
  | tup ds =>
   refine .inr (.inl (fD SS h fun d' t' s1' g1 v H1 e2 x2 S1 p h1=>?_))
   obtain rfl:=oD e1 e2
   obtain ⟨a,vs,rfl,r,hh⟩:=p.tup
   refine ⟨a,rfl,⟨vs,(hh g1 σ H1 l s1' (.refl g1) S1).sq⟩,?_⟩
   have w:=wZ (Y:=G.Y) r hh
   rw [hK] at w
   exact h1 g1 (.refl g1) _ H1 S1 w
  | str x =>
   refine .inr (.inr (fD SS h fun d' t' s1' g1 v H1 e2 x2 S1 p h1=>?_))
   obtain rfl:=oD e1 e2
   exact ⟨x,p.str,h1 g1 (.refl g1) _ H1 S1 xf⟩
  | _=>exact q.elim
 ·refine .inl (fD SS h fun d' t' s1' g1 v H1 e2 x2 S1 p h1=>?_)
  rw [e1] at e2
  cases e2
theorem xh (B:Gd C S G W) {p:Pos} (hg:cP S.sc "range"=true) (hs:bZ e=true) (ha:PE C e (rd G.gm W xa)):PI C tg (.Call (.Name "range" p) [e] [] pos) (mC G.gm W (.rng1 xa)):=by
 refine gI (pi_range1 (B.gl hg) (B.blt _ (by symm)) (pa_cons ha pa_nil (bY hs)) (bY hs)) ?_
 rintro σ H R ⟨g,l,s,SS,h⟩
 refine cS SS (show ValR G.gm W g σ ((b7 G.fs G.gs xa l s).bind _) (KI G.gm σ l R) from h) fun d t s1 g1 v H1 e1 S1 v1 h1=>?_
 cases d with
 | int j =>
  have h1:ValR G.gm W g1 σ (if -(2 ^ 62)≤j∧j < 2 ^ 62 then .ok (gG 0 j.toNat,s1) else .no) (KI G.gm σ l R):=h1
  split at h1
  ·rename_i hj
   exact ⟨j,by rw [(v1.rd S1).int],hj.1,hj.2,h1 g1 (.refl g1) _ H1 S1 rN⟩
  ·exact h1.elim
 | _=>exact h1.elim
theorem xj (B:Gd C S G W) {p:Pos} (hg:cP S.sc "range"=true) (hs:bZ e=true) (hs2:bZ f=true) (ha:PE C e (rd G.gm W xa)) (hb:PE C f (rd G.gm W xb)):PI C tg (.Call (.Name "range" p) [e,f] [] pos) (mC G.gm W (.rng2 xa xb)):=by
 refine gI (pi_range2 (B.gl hg) (B.blt _ (by symm)) (pa_cons ha (pa_cons hb pa_nil (bY hs2)) (bY hs)) ((bY hs).trans (by rw [bY hs2]; rfl)) (bY hs2)) ?_
 rintro σ H R ⟨g,l,s,SS,h⟩
 refine cS SS (show ValR G.gm W g σ ((b7 G.fs G.gs xa l s).bind _) (KI G.gm σ l R) from h) fun d t s1 g1 v H1 e1 S1 v1 h1=>?_
 refine cS S1 (show ValR G.gm W g1 σ ((b7 G.fs G.gs xb l s1).bind _) (KI G.gm σ l R) from h1) fun d2 t2 s2 g2 v2 H2 e2 S2 w1 h2=>?_
 cases d with
 | int i =>
  cases d2 with
  | int j =>
   have h2:ValR G.gm W g2 σ (if -(2 ^ 62)≤i∧i < 2 ^ 62∧-(2 ^ 62)≤j∧j < 2 ^ 62 then .ok (gG i (j - i).toNat,s2) else .no) (KI G.gm σ l R):=h2
   split at h2
   ·rename_i hj
    exact ⟨i,j,by rw [((v1.ext e2).rd S2).int,(w1.rd S2).int],hj,h2 g2 (.refl g2) _ H2 S2 rN⟩
   ·exact h2.elim
  | _=>exact h2.elim
 | _=>cases d2 <;> exact h2.elim
theorem xk (B:Gd C S G W) {p tpos:Pos} {elts:List Expr} {kk:Nat} (hg:cP S.sc "enumerate"=true) (hs:bZ e=true) (ha:PE C e (rd G.gm W xa)) :
  PI C (.Tuple elts kk tpos) (.Call (.Name "enumerate" p) [e] [] pos) (mC G.gm W (.enum xa 0)):=by
 refine gI (rA (B.gl hg) (B.blt _ (by symm)) (pa_cons ha pa_nil (bY hs)) (bY hs)) ?_
 rintro σ H R ⟨g,l,s,SS,h⟩
 have h:ValR G.gm W g σ (fR (b7 G.fs G.gs xa l s) fun x s1=>match x.items with | some xs=>.ok ((xs.zipIdx 0).map fun p=>gS (.int (p.2:Nat)) p.1,s1) | none=>.no) (KI G.gm σ l R):=h
 have hK:G.Y.K=C.K:=B.hK
 refine fD SS h fun d' t' s1' g1 v H1 e2 x2 S1 p h1=>?_
 cases ei:d'.items with
 | none =>
  rw [ei] at h1
  exact h1.elim
 | some ds =>
  rw [ei] at h1
  obtain ⟨q,vs,rfl,r,hh⟩:=p.dw ei
  refine ⟨q,vs,rfl,by rw [← hK]; exact hh g1 σ H1 l s1' (.refl g1) S1,?_⟩
  have w:=pD 0 r hh
  rw [hK] at w
  exact h1 g1 (.refl g1) _ H1 S1 w
theorem uu {n kc:Nat} {q kpos:Pos} (hn:n < 1000) (B:Gd C S G W) {p tpos:Pos} {elts:List Expr} {kk:Nat} (hg:cP S.sc "enumerate"=true) (hs:bZ e=true) (ha:PE C e (rd G.gm W xa)) :
  PI C (.Tuple elts kk tpos) (.Call (.Name "enumerate" p) [e] [⟨some "start",.Constant (.int (n:Nat)) kc q,kpos⟩] pos) (mC G.gm W (.enumK xa n)):=by
 refine gI (ql hn (B.gl hg) (B.blt _ (by symm)) ha (bY hs)) ?_
 rintro σ H R ⟨g,l,s,SS,h⟩
 have h:ValR G.gm W g σ (fR (b7 G.fs G.gs xa l s) fun x s1=>match x.items with | some xs=>.ok ((xs.zipIdx n).map fun p=>gS (.int (p.2:Nat)) p.1,s1) | none=>.no) (KI G.gm σ l R):=h
 have hK:G.Y.K=C.K:=B.hK
 refine fD SS h fun d' t' s1' g1 v H1 e2 x2 S1 p h1=>?_
 cases ei:d'.items with
 | none =>
  rw [ei] at h1
  exact h1.elim
 | some ds =>
  rw [ei] at h1
  obtain ⟨q,vs,rfl,r,hh⟩:=p.dw ei
  refine ⟨q,vs,rfl,by rw [← hK]; exact hh g1 σ H1 l s1' (.refl g1) S1,?_⟩
  have w:=pD n r hh
  rw [hK] at w
  exact h1 g1 (.refl g1) _ H1 S1 w
theorem xn (B:Gd C S G W) {p:Pos} (hg:cP S.sc "range"=true) (hs:bZ e=true) (hs2:bZ f=true) (hs3:bZ b=true) (ha:PE C e (rd G.gm W xa)) (hb:PE C f (rd G.gm W xb)) (hc:PE C b (rd G.gm W xc)):PI C tg (.Call (.Name "range" p) [e,f,b] [] pos) (mC G.gm W (.rng3 xa xb xc)):=by
 refine gI (pi_range3 (B.gl hg) (B.blt _ (by symm)) (pa_cons ha (pa_cons hb (pa_cons hc pa_nil (bY hs3)) (bY hs2)) (bY hs)) (bY hs) (dh (by simp [hs2,hs3]))) ?_
 rintro σ H R ⟨g,l,s,SS,h⟩
 refine cS SS (show ValR G.gm W g σ ((b7 G.fs G.gs xa l s).bind _) (KI G.gm σ l R) from h) fun d t s1 g1 v H1 e1 S1 v1 h1=>?_
 refine cS S1 (show ValR G.gm W g1 σ ((b7 G.fs G.gs xb l s1).bind _) (KI G.gm σ l R) from h1) fun d2 t2 s2 g2 v2 H2 e2 S2 w1 h2=>?_
 refine cS S2 (show ValR G.gm W g2 σ ((b7 G.fs G.gs xc l s2).bind _) (KI G.gm σ l R) from h2) fun d3 t3 s3 g3 v3 H3 e3 S3 w2 h3=>?_
 have h3:ValR G.gm W g3 σ (match d,d2,d3 with
  | .int i,.int j,.int (-1)=>if -(2 ^ 62)≤i∧i < 2 ^ 62∧-(2 ^ 62)≤j∧j < 2 ^ 62 then .ok (rg i (i - j).toNat,s3) else .no
  | _,_,_=>.no) (KI G.gm σ l R):=h3
 split at h3
 ·rename_i i j hq
  split at h3
  ·rename_i hj
   exact ⟨i,j,-1,_,by rw [((v1.ext (e2.trans e3)).rd S3).int,((w1.ext e3).rd S3).int,(w2.rd S3).int],.neg hj.1 hj.2.1 hj.2.2.1 hj.2.2.2,h3 g3 (.refl g3) _ H3 S3 ut⟩
  ·exact h3.elim
 ·exact h3.elim
theorem Au (B:Gd C S G W) {p tpos:Pos} {elts:List Expr} {kk:Nat} (hg:cP S.sc "zip"=true) (hs:bZ e=true) (hs2:bZ f=true) (ha:PE C e (rd G.gm W xa)) (hb:PE C f (rd G.gm W xb)) :
  PI C (.Tuple elts kk tpos) (.Call (.Name "zip" p) [e,f] [] pos) (mC G.gm W (.zip xa xb)):=by
 refine gI (ua (B.gl hg) (B.blt _ (by symm)) (pa_cons ha (pa_cons hb pa_nil (bY hs2)) (bY hs)) (bY hs) (dh (by simp [hs2]))) ?_
 rintro σ H R ⟨g,l,s,SS,h⟩
 have hK:G.Y.K=C.K:=B.hK
 have h:ValR G.gm W g σ (fR (b7 G.fs G.gs xa l s) fun x s1=>fR (b7 G.fs G.gs xb l s1) fun y s2=>match x.items,y.items with
  | some xs,some ys=>.ok ((xs.zip ys).map fun p=>gS p.1 p.2,s2)
  | _,_=>.no) (KI G.gm σ l R):=h
 refine fD SS h fun d t s1 g1 v H1 e2 x2 S1 p h1=>?_
 refine fD S1 h1 fun d' t' s2 g2 v2 H2 e3 x3 S2 p2 h2=>?_
 cases ei:d.items with
 | none =>
  rw [ei] at h2
  exact h2.elim
 | some ds =>
  cases ej:d'.items with
  | none =>
   rw [ei,ej] at h2
   exact h2.elim
  | some es =>
   rw [ei,ej] at h2
   obtain ⟨a,vs,rfl,r,hh⟩:=(p.ext x3).dw ei
   obtain ⟨b,ws,rfl,r2,hh2⟩:=p2.dw ej
   refine ⟨a,b,vs,ws,rfl,by rw [← hK]; exact hh g2 σ H2 l s2 (.refl g2) S2,by rw [← hK]; exact hh2 g2 σ H2 l s2 (.refl g2) S2,?_⟩
   have w:=xg r r2 hh hh2
   rw [hK] at w
   exact h2 g2 (.refl g2) _ H2 S2 w

def oF (G:Gm) (W:WX) (x:X):L2.St→Hp→(Int→Int→Hp→Prop)→Prop:=fun σ H Q=>∃ g l s,SR G.Y g σ H l s ∧
 ValR G W g σ (gq G.fs G.gs x l s) (fun p g'=>∀ H' i j,SR G.Y g' σ H' l p.2→p.1=gG i (j - i).toNat→-(2 ^ 62)≤i→i < 2 ^ 62→-(2 ^ 62)≤j→j < 2 ^ 62→Q i j H')
theorem pE {t t':L2.St→Hp→(Int→Int→Hp→Prop)→Prop} (h:PRg C e t) (k:∀ σ H R,t' σ H R→t σ H R):PRg C e t':=fun pins s σ H R I w=>h pins s σ H R I (k σ H R w)
theorem Av (B:Gd C S G W) {p:Pos} (hg:cP S.sc "range"=true) (hs:bZ e=true) (ha:PE C e (rd G.gm W xa)):PRg C (.Call (.Name "range" p) [e] [] pos) (oF G.gm W (.rng1 xa)):=by
 refine pE (prg_1 (B.gl hg) (B.blt _ (by symm)) ha (bY hs)) ?_
 rintro σ H R ⟨g,l,s,SS,h⟩
 refine cS SS (show ValR G.gm W g σ ((b7 G.fs G.gs xa l s).bind _) _ from h) fun d t s1 g1 v H1 e1 S1 v1 h1=>?_
 cases d with
 | int j =>
  have h1:ValR G.gm W g1 σ (if -(2 ^ 62)≤j∧j < 2 ^ 62 then .ok (gG 0 j.toNat,s1) else .no) (fun p g'=>∀ H' i j,SR G.Y g' σ H' l p.2→p.1=gG i (j - i).toNat→-(2 ^ 62)≤i→i < 2 ^ 62→-(2 ^ 62)≤j→j < 2 ^ 62→R i j H'):=h1
  split at h1
  ·rename_i hj
   exact ⟨j,(v1.rd S1).int,h1 g1 (.refl g1) H1 0 j S1 (by rw [Int.sub_zero]) (by omega) (by omega) hj.1 hj.2⟩
  ·exact h1.elim
 | _=>exact h1.elim
theorem Aw (B:Gd C S G W) {p:Pos} (hg:cP S.sc "range"=true) (hs:bZ e=true) (hs2:bZ f=true) (ha:PE C e (rd G.gm W xa)) (hb:PE C f (rd G.gm W xb)):PRg C (.Call (.Name "range" p) [e,f] [] pos) (oF G.gm W (.rng2 xa xb)):=by
 refine pE (prg_2 (B.gl hg) (B.blt _ (by symm)) ha hb (bY hs) (bY hs2) (dh (by simp [hs2]))) ?_
 rintro σ H R ⟨g,l,s,SS,h⟩
 refine cS SS (show ValR G.gm W g σ ((b7 G.fs G.gs xa l s).bind _) _ from h) fun d t s1 g1 v H1 e1 S1 v1 h1=>?_
 refine cS S1 (show ValR G.gm W g1 σ ((b7 G.fs G.gs xb l s1).bind _) _ from h1) fun d2 t2 s2 g2 v2 H2 e2 S2 w1 h2=>?_
 cases d with
 | int i =>
  cases d2 with
  | int j =>
   have h2:ValR G.gm W g2 σ (if -(2 ^ 62)≤i∧i < 2 ^ 62∧-(2 ^ 62)≤j∧j < 2 ^ 62 then .ok (gG i (j - i).toNat,s2) else .no) (fun p g'=>∀ H' i j,SR G.Y g' σ H' l p.2→p.1=gG i (j - i).toNat→-(2 ^ 62)≤i→i < 2 ^ 62→-(2 ^ 62)≤j→j < 2 ^ 62→R i j H'):=h2
   split at h2
   ·rename_i hj
    exact ⟨i,j,((v1.ext e2).rd S2).int,(w1.rd S2).int,h2 g2 (.refl g2) H2 i j S2 rfl hj.1 hj.2.1 hj.2.2.1 hj.2.2.2⟩
   ·exact h2.elim
  | _=>exact h2.elim
 | _=>cases d2 <;> exact h2.elim
theorem pF {Y:Wd} {F:Fr} (i:Int) (n:Nat):Rps Y F (gG i n) ((List.range n).map fun k=>V.int (i+(k:Nat))):=by
 unfold gG
 generalize List.range n=ks
 induction ks with
 | nil=>exact .nil
 | cons k ks ih=>exact .cons (.int _) ih
theorem lf {g:Gh} {σ:L2.St} {H:Hp} {l:Lc} {s:cj} {α:Type} {k:List D × cj→R α} {K:α→Gh→Prop} (SS:SR G.Y g σ H l s) (h:ValR G.gm W g σ ((gq G.fs G.gs xa l s).bind k) K) {Q2:Int→Int→Hp→Prop}
  (hk:∀ ds s1 g1 H1 i j,Ext g g1→SR G.Y g1 σ H1 l s1→ds=gG i (j - i).toNat→-(2 ^ 62)≤i→i < 2 ^ 62→-(2 ^ 62)≤j→j < 2 ^ 62→ValR G.gm W g1 σ (k (ds,s1)) K→Q2 i j H1):oF G.gm W xa σ H Q2:=by
 refine ⟨g,l,s,SS,?_⟩
 have h:ValR G.gm W g σ ((gq G.gm.fs G.gm.gs xa l s).bind k) K:=h
 cases e:gq G.gm.fs G.gm.gs xa l s with
 | ok p =>
  obtain ⟨ds,s1⟩:=p
  rw [e] at h
  exact fun g1 e1 H1 i j S1 e2 h1 h2 h3 h4=>hk ds s1 g1 H1 i j e1 S1 e2 h1 h2 h3 h4 (ValR.ext e1 h)
 | er a b c =>
  rw [e] at h
  exact h
 | no =>
  rw [e] at h
  exact h
theorem xo (B:Gd C S G W) (hh:S.hot=false) {p:Pos} (hg:cP S.sc "tuple"=true) (hs:bZ e=true) (ha:PRg C e (oF G.gm W xa)):PE C (.Call (.Name "tuple" p) [e] [] pos) (rd G.gm W (.tupI xa)):=by
 refine PE.imp (qh (B.calm hh) (B.gl hg) (B.blt _ (by symm)) ha (bY hs)) ?_
 rintro σ H Q ⟨g,l,s,SS,h⟩
 refine lf SS (show ValR G.gm W g σ ((gq G.fs G.gs xa l s).bind _) (KE G.gm σ l Q) from ValE.toR h) fun ds s1 g1 H1 i j e1 S1 ed q1 q2 q3 q4 h1=>?_
 have h1:ValR G.gm W g1 σ (if ds.length≤16777216 then cg (.tup ds) s1 else .no) (KE G.gm σ l Q):=h1
 split at h1
 ·rename_i hz
  subst ed
  have hz:(j - i).toNat≤2 ^ 24:=by
   unfold gG at hz
   rw [ac,aq] at hz
   exact hz
  exact ⟨⟨q1,q2,q3,q4,hz⟩,(ValE.ofR h1).tupN S1 (pF i _)⟩
 ·exact h1.elim
theorem xp (B:Gd C S G W) (hh:S.hot=false) {p:Pos} (hg:cP S.sc "list"=true) (hs:bZ e=true) (ha:PRg C e (oF G.gm W xa)):PE C (.Call (.Name "list" p) [e] [] pos) (rd G.gm W (.lstI xa)):=by
 refine PE.imp (pe_listRg (B.calm hh) (B.gl hg) (B.blt _ (by symm)) ha (bY hs)) ?_
 rintro σ H Q ⟨g,l,s,SS,h⟩
 refine lf SS (show ValR G.gm W g σ ((gq G.fs G.gs xa l s).bind _) (KE G.gm σ l Q) from ValE.toR h) fun ds s1 g1 H1 i j e1 S1 ed q1 q2 q3 q4 h1=>?_
 have h1:ValR G.gm W g1 σ (if ds.length≤16777216 then dY (.lst ds) s1 else .no) (KE G.gm σ l Q):=h1
 split at h1
 ·rename_i hz
  subst ed
  have hz:(j - i).toNat≤2 ^ 24:=by
   unfold gG at hz
   rw [ac,aq] at hz
   exact hz
  exact ⟨⟨q1,q2,q3,q4,hz⟩,fun q hq=>(ValE.ofR h1).lstN S1 (pF i _) hq⟩
 ·exact h1.elim
end
section
variable {Y:Wd} {g g':Gh} {σ:L2.St} {H H':Hp} {l:Lc} {s s':cj} {d:D} {v:V}

theorem SR.set (S:SR Y g σ H l s) (i:Nat) (r:Rp Y g.F d v):SR Y g (σ.set i (some v)) H (l.set i (some ⟨.fr,d⟩)) s:=by
 refine ⟨S.sB,S.sF,by rw [aN,aN]; exact S.len,fun j z hz=>?_,fun j k z y a h1 h2 k1 k2 e1 e2=>?_,S.st⟩
 ·by_cases hj:i=j
  ·subst hj
   have hlt:i < l.length:=by
    have:=(au.mp hz).1
    rwa [aN] at this
   rw [aL hlt] at hz
   obtain rfl:(⟨.fr,d⟩:Sl)=z:=ad (ad hz)
   exact ⟨v,by rw [aL (by rw [S.len]; exact hlt)],r⟩
  ·rw [ay hj] at hz ⊢
   exact S.sl j z hz
 ·have nj:∀ {j:Nat} {z:Sl},(l.set i (some ⟨.fr,d⟩))[j]?=some (some z)→z.k=.ow→i≠j:=fun {j z} h k e=>by
   subst e
   have hlt:i < l.length:=by
    have:=(au.mp h).1
    rwa [aN] at this
   rw [aL hlt] at h
   obtain rfl:(⟨.fr,d⟩:Sl)=z:=ad (ad h)
   cases k
  have n1:=nj h1 k1
  have n2:=nj h2 k2
  rw [ay n1] at h1 e1
  rw [ay n2] at h2 e2
  exact S.ow j k z y a h1 h2 k1 k2 e1 e2
end
def gT (G:Gm) (t:T):TG:=fun v σ H Q=>∃ g l s d l',SR G.Y g σ H l s∧Rp G.Y g.F d v∧T.put t d l=some l'∧∀ σ',σ'.length=σ.length→(∀ j,j∉T.slots t→σ'[j]?=σ[j]?)→SR G.Y g σ' H l' s→Q σ' H
def FY (G:Gm) (t:T):TGs:=fun vs σ H Q=>∃ g l s ds l',SR G.Y g σ H l s∧Rps G.Y g.F ds vs∧T.puts t ds l=some l'∧∀ σ',σ'.length=σ.length→(∀ j,j∉T.slots t→σ'[j]?=σ[j]?)→SR G.Y g σ' H l' s→Q σ' H
theorem rO {C:Cx} {e:Expr} {t t':TG} (h:PG C e t) (k:∀ v σ H Q,t' v σ H Q→t v σ H Q):PG C e t':=⟨fun pins s σ H v u Q I r w=>h.run pins s σ H v u Q I r (k v σ H Q w)⟩
theorem Ax {C:Cx} {e:Expr} {t t':TG} (h:PG C e t) (h':PG C e t'):PG C e (fun v σ H Q=>t v σ H Q∨t' v σ H Q):=⟨fun pins s σ H v u Q I r w=>w.elim (h.run pins s σ H v u Q I r) (h'.run pins s σ H v u Q I r)⟩
theorem pG {C:Cx} {e:List Expr} {t t':TGs} (h:PGs C e t) (k:∀ v σ H Q,t' v σ H Q→t v σ H Q):PGs C e t':=⟨fun pins s σ H v u Q I r w=>h.run pins s σ H v u Q I r (k v σ H Q w)⟩
section
variable {C:Cx} {S:Sc} {G:Gn} {W:WX} {e f b tg:Expr} {es:List Expr} {pos:Pos} {xa xb xc:X}
theorem rP:∀ {es:List Expr} {env:Env},es.all bZ=true→(assignEach es env).length=es.length∧(assignEach es env).findIdx? (·.1)=none
 | [],_,_=>⟨rfl,rfl⟩
 | e :: es,env,h=>by
  rw [a5,ab] at h
  obtain ⟨h1,h2⟩:=rP (env:=env) h.2
  rw [iL h.1]
  refine ⟨by rw [aB,h1,aB],?_⟩
  rw [List.findIdx?_cons,h2]
  rfl
theorem pH {S:Sc}:∀ {ts:T} {es:List Expr},lK S ts es=true→es.all bZ=true
 | .nil,[],_=>rfl
 | .cons a b,e :: es,h=>by
  have h:(bZ e && oA S a e && lK S b es)=true:=h
  simp only [ab] at h
  rw [a5,h.1.1,pH h.2]
  rfl
 | .nil,_ :: _,h=>by cases h
 | .cons _ _,[],h=>by cases h
 | .n _,_,h=>by cases h
 | .t _,_,h=>by cases h
theorem mR {ts:T}:∀ {es:List Expr} {ds:List D} {l l':Lc},lK S ts es=true→T.puts ts ds l=some l'→ds.length=es.length:=by
 induction ts with
 | nil =>
  intro es ds l l' h q
  cases es with
  | nil=>cases ds with
   | nil=>rfl
   | cons _ _=>cases q
  | cons _ _=>cases h
 | cons a b _ ih =>
  intro es ds l l' h q
  cases es with
  | nil=>cases h
  | cons e es =>
   have h:(bZ e && oA S a e && lK S b es)=true:=h
   simp only [ab] at h
   cases ds with
   | nil=>cases q
   | cons d ds =>
    obtain ⟨l1,q1,q2⟩:=aU.mp (show (T.put a d l).bind (fun l'=>T.puts b ds l')=some l' from q)
    rw [aB,aB,ih h.2 q2]
 | n i=>intro es ds l l' h q; cases h
 | t ts _=>intro es ds l l' h q; cases h
mutual
theorem xq (B:Gd C S G W):∀ {t:T} {e:Expr},oA S t e=true→PG C e (gT G.gm t)
 | .n i,.Name x p,h=>by
  have h:(decide (S.N[i]?=some x) && kq S.sc x && (S.top || fW S.sc x))=true:=h
  simp only [ab,af,bC] at h
  obtain ⟨⟨h1,h2⟩,h3⟩:=h
  have hN:C.N.Nodup:=by rw [B.N]; exact B.nd
  have hi:C.N[i]?=some x:=by rw [B.N]; exact h1
  have hx:Loc C.env.scope x:=by rw [B.sc]; exact hW h2
  have hf:C.fn x=true∨C.env.scope.names.lookup x=some .local:=by
   rcases h3 with h3 | h3
   ·exact .inl ((B.top h3).1 x)
   ·rw [B.sc]; exact .inr (fe h3)
  refine rO (pg_name hN hi hx hf) ?_
  rintro v σ H Q ⟨g,l,s,d,l',SS,r,e,q⟩
  obtain rfl:=ad (show some (l.set i (some ⟨.fr,d⟩))=some l' from e)
  exact q _ (aN ..) (fun j hj=>ay (fun e=>hj (by rw [← e]; exact ak.mpr rfl))) (SS.set i r)
 | .t ts,.Tuple es k p,h=>by
  have h:(!S.hot && lK S ts es)=true:=h
  simp only [ab,aw] at h
  obtain ⟨hh,h⟩:=h
  obtain ⟨hl,hs⟩:=rP (env:=C.env) (pH h)
  have hg:=Ay B h
  refine rO (Ax (pg_tup (n:=es.length) (B.calm hh) hg hl hs) (pg_lst (n:=es.length) (B.calm hh) hg hl hs)) ?_
  rintro v σ H Q ⟨g,l,s,d,l',SS,r,e,q⟩
  cases d with
  | tup ds =>
   cases r with
   | tup hf rs =>
    refine .inl ⟨_,_,rfl,(hf.mono SS.sF).sq,?_,g,l,s,ds,l',SS,rs,e,q⟩
    rw [← rs.length]
    exact mR h e
  | lst ds =>
   cases r with
   | lst hf rs =>
    refine .inr ⟨_,_,rfl,.inl (.inl (SS.sF _ _ hf)),?_,g,l,s,ds,l',SS,rs,e,q⟩
    rw [← rs.length]
    exact mR h e
  | _=>cases e
theorem Ay (B:Gd C S G W):∀ {t:T} {es:List Expr},lK S t es=true→PGs C es (FY G.gm t)
 | .nil,[],_=>by
  refine pG pgs_nil ?_
  rintro vs σ H Q ⟨g,l,s,ds,l',SS,r,e,q⟩
  cases ds with
  | nil =>
   cases r
   obtain rfl:=ad (show some l=some l' from e)
   exact ⟨rfl,q σ rfl (fun _ _=>rfl) SS⟩
  | cons _ _=>cases e
 | .cons a b,e :: es,h=>by
  have h:(bZ e && oA S a e && lK S b es)=true:=h
  simp only [ab] at h
  refine pG (pgs_cons (xq B h.1.2) (Ay B h.2) (by rw [iL h.1.1]; rfl)) ?_
  rintro vs σ H Q ⟨g,l,s,ds,l',SS,r,eq,q⟩
  cases ds with
  | nil=>cases eq
  | cons d ds =>
   obtain ⟨l1,q1,q2⟩:=aU.mp (show (T.put a d l).bind (fun l'=>T.puts b ds l')=some l' from eq)
   cases r with
   | cons r1 r2=>exact ⟨_,_,rfl,g,l,s,d,l1,SS,r1,q1,fun σ' n1 f1 S'=>⟨g,l1,s,ds,l',S',r2,q2,fun σ2 n2 f2 S2=>q σ2 (n2.trans n1) (fun j hj=>(f2 j fun z=>hj (am _ z)).trans (f1 j fun z=>hj (aJ _ z))) S2⟩⟩
end


theorem SR.wipe {Y:Wd} {g:Gh} {σ:L2.St} {H:Hp} {l:Lc} {s:cj} (S:SR Y g σ H l s):∀ is:List Nat,SR Y g (L2.wipe σ is) H (de l is) s
 | []=>S
 | i :: is=>by
  have q:=S.wipe is
  have hv:∀ {j:Nat} {z:Sl},((de l is).set i none)[j]?=some (some z)→i≠j∧(de l is)[j]?=some (some z):=fun {j z} h=>by
   by_cases e:i=j
   ·subst e
    by_cases hlt:i < (de l is).length
    ·rw [aL hlt] at h; cases h
    ·rw [aQ (by rw [aN]; omega)] at h; cases h
   ·rw [ay e] at h
    exact ⟨e,h⟩
  refine ⟨q.sB,q.sF,?_,fun j z hz=>?_,fun j k z y a h1 h2 k1 k2 e1 e2=>?_,q.st⟩
  ·show ((L2.wipe σ is).set i none).length=((de l is).set i none).length
   rw [aN,aN]
   exact q.len
  ·obtain ⟨n,hz⟩:=hv hz
   show ∃ v,((L2.wipe σ is).set i none)[j]?=_∧_
   rw [ay n]
   exact q.sl j z hz
  ·obtain ⟨n1,h1⟩:=hv h1
   obtain ⟨n2,h2⟩:=hv h2
   have e1:((L2.wipe σ is).set i none)[j]?=_:=e1
   have e2:((L2.wipe σ is).set i none)[k]?=_:=e2
   rw [ay n1] at e1
   rw [ay n2] at e2
   exact q.ow j k z y a h1 h2 k1 k2 e1 e2
end
theorem gu {σ:L2.St}:∀ {vs:List Nat} (j:Nat),(L2.wipe σ vs)[j]?=if j∈vs∧j < σ.length then some none else σ[j]?
 | [],j=>by rw [av (fun h=>by cases h.1)]; rfl
 | v :: vs,j=>by
  show ((L2.wipe σ vs).set v none)[j]?=_
  by_cases h:v=j
  ·subst h
   by_cases hl:v < σ.length
   ·rw [aL (by rw [wipe_length]; exact hl),ap ⟨aj,hl⟩]
   ·rw [aQ (by rw [aN,wipe_length]; omega),av (fun q=>hl q.2),aQ (by omega)]
  ·rw [ay h,gu]
   by_cases hj:j∈vs∧j < σ.length
   ·rw [ap hj,ap ⟨ao _ hj.1,hj.2⟩]
   ·rw [av hj,av fun q=>hj ⟨(ax.mp q.1).resolve_left (fun e=>h e.symm),q.2⟩]
theorem jC {l:Lc}:∀ {vs:List Nat} {j:Nat},j∉vs→(de l vs)[j]?=l[j]?
 | [],j,_=>rfl
 | v :: vs,j,h=>by
  show ((de l vs).set v none)[j]?=_
  rw [ay (fun e=>h (by rw [e]; exact aj)),jC fun q=>h (ao _ q)]
theorem mS {σ:L2.St} {vs:List Nat} {j:Nat} (h:j∉vs):(L2.wipe σ vs)[j]?=σ[j]?:=by rw [gu,av fun q=>h q.1]
mutual
theorem lR:∀ {t:T} {d:D} {l l':Lc},T.put t d l=some l'→∀ j,j∉T.slots t→l'[j]?=l[j]?
 | .n i,d,l,l',h,j,hj=>by
  obtain rfl:=ad (show some (l.set i (some ⟨.fr,d⟩))=some l' from h)
  exact ay (fun e=>hj (by rw [← e]; exact ak.mpr rfl))
 | .t ts,.tup ds,l,l',h,j,hj=>kE (show T.puts ts ds l=some l' from h) j hj
 | .t ts,.lst ds,l,l',h,j,hj=>kE (show T.puts ts ds l=some l' from h) j hj
theorem kE:∀ {t:T} {d:List D} {l l':Lc},T.puts t d l=some l'→∀ j,j∉T.slots t→l'[j]?=l[j]?
 | .nil,[],l,l',h,j,hj=>by
  obtain rfl:=ad (show some l=some l' from h)
  rfl
 | .cons a b,d :: ds,l,l',h,j,hj=>by
  obtain ⟨l1,q1,q2⟩:=aU.mp (show (T.put a d l).bind (fun l'=>T.puts b ds l')=some l' from h)
  rw [kE q2 j fun z=>hj (am _ z),lR q1 j fun z=>hj (aJ _ z)]
end

theorem TpW.other {Y:Wd} {F:Fr} {H:Hp} {d:D} {a p:Addr} {o:HO} (h:a≠p):TpW Y F H d (.ref a)→TpW Y F (upd H p o) d (.ref a)
 | .lst q r=>.lst (by rw [upd_ne h]; exact q) r
 | .dk q r=>.dk (by rw [upd_ne h]; exact q) r
 | .dt q x r=>.dt (by rw [upd_ne h]; exact q) x r
section
variable {Y:Wd} {g g':Gh} {σ σ2:L2.St} {H H':Hp} {l l1:Lc} {s s':cj} {d:D} {v:V} {p:Addr} {o u:HO}

theorem SR.lock (S:SR Y g σ H l s) (hp:H p=some o) (hm:∀ n,g.F.m p≠some n) (hB:g.B p=none) (no:∀ (i:Nat) (d':D),σ[i]?=some (some (.ref p))→l[i]?≠some (some ⟨.ow,d'⟩)):SR Y ⟨g.F,upd g.B p o,g.M⟩ σ H l s:=by
 have sm:=f6 (o:=o) hB
 refine ⟨fun b w e=>?_,S.sF,S.len,fun i z hz=>?_,S.ow,S.st.bnd rfl rfl fun a n h1 h2=>by
  show upd g.B p o a=none
  rw [upd_ne fun e=>hm n (by rw [← e]; exact h1)]
  exact h2⟩
 ·by_cases hb:b=p
  ·subst hb
   have e:upd g.B b o b=some w:=e
   rw [upd_same] at e
   rw [hp]
   exact e
  ·have e:upd g.B p o b=some w:=e
   rw [upd_ne hb] at e
   exact S.sB b w e
 ·obtain ⟨v,h1,h2⟩:=S.sl i z hz
  refine ⟨v,h1,?_⟩
  obtain ⟨k,d⟩:=z
  cases k with
  | fr=>exact h2
  | bo=>exact h2.imp id fun q=>q.mono (Fr.le.refl _) sm
  | ow =>
   refine ⟨h2.1,fun a ea=>⟨(h2.2 a ea).1,?_,(h2.2 a ea).2.2⟩⟩
   by_cases hb:a=p
   ·subst hb ea
    exact absurd hz (no i d h1)
   ·show upd g.B p o a=none
    rw [upd_ne hb]
    exact (h2.2 a ea).2.1
  | nw=>exact h2

theorem SR.unlock {own:List Nat} {H4:Hp} {g4:Gh} {s4:cj} (S:SR Y g σ H l s) (hm:∀ n,g.F.m p≠some n) (hB:g.B p=none) (hF:g.F.h p=none) (E:Ext ⟨g.F,upd g.B p o,g.M⟩ g4) (S4:SR Y g4 σ2 H4 l1 s4)
  (hown:∀ i∈own,∀ d',l[i]?≠some (some ⟨.ow,d'⟩)) (hσ:∀ j,j∉own→σ2[j]?=σ[j]?) (hl:∀ j,j∉own→l1[j]?=l[j]?) :
  SR Y ⟨g4.F,g.B,g.M⟩ σ H4 l s4∧Ext g ⟨g4.F,g.B,g.M⟩∧H4 p=some o∧g4.F.h p=none∧∀ n,g4.F.m p≠some n:=by
 have eB:g4.B=upd g.B p o:=E.b
 have sm:=f6 (o:=o) hB
 have hp4:g4.B p=some o:=by rw [eB,upd_same]
 have bn:∀ a,g4.B a=none→g.B a=none:=fun a h=>by
  rw [eB] at h
  exact sm.free h
 refine ⟨⟨fun b w e=>S4.sB b w (by rw [eB]; exact sm b w e),S4.sF,S.len,fun i z hz=>?_,fun i j z y a h1 h2 k1 k2 e1 e2=>?_,S4.st.bnd rfl E.m.symm fun a n _ h=>bn a h⟩,⟨rfl,E.f,fun a w e n=>bn a (by rw [E.b]; exact E.new a w e n),rfl⟩,S4.sB p o hp4,?_,fun n q=>?_⟩
 ·obtain ⟨v,h1,h2⟩:=S.sl i z hz
  refine ⟨v,h1,?_⟩
  obtain ⟨k,d⟩:=z
  cases k with
  | fr=>exact Rp.mono E.f h2
  | bo=>exact h2.imp (fun q=>q.mono E.f) fun q=>q.mono E.f (Same.refl _)
  | ow =>
   have hi:i∉own:=fun q=>hown i q d hz
   have q:=S4.own (v:=v) (d:=d) (i:=i) (by rw [hσ i hi]; exact h1) (by rw [hl i hi]; exact hz)
   exact ⟨q.1,fun a ea=>⟨(q.2 a ea).1,bn a (q.2 a ea).2.1,(q.2 a ea).2.2⟩⟩
  | nw=>exact h2
 ·exact S.ow i j z y a h1 h2 k1 k2 e1 e2
 ·cases e:g4.F.h p with
  | none=>rfl
  | some w =>
   have:=E.new p w e hF
   have:upd g.B p o p=none:=this
   rw [upd_same] at this
   cases this
 ·by_cases hs:s4=[]
  ·have e1:=S4.st.no hs
   rw [e1,E.m] at q
   exact hm n (S.st.mb p n q)
  ·have:=(S4.st.lt hs p n q).2
   rw [hp4] at this
   cases this

theorem SR.wr (S:SR Y g σ H l s) (hF:g.F.h p=none) (hm:∀ n,g.F.m p≠some n) (hB:g.B p=none) (no:∀ (i:Nat) (d':D),σ[i]?=some (some (.ref p))→l[i]?≠some (some ⟨.ow,d'⟩)):SR Y g σ (upd H p o) l s:=by
 refine ⟨fun b w e=>?_,fun b w e=>?_,S.len,fun i z hz=>?_,S.ow,S.st.heap fun a n u h q=>by rw [upd_ne fun e=>hm n (by rw [← e]; exact h)]; exact q⟩
 ·rw [upd_ne (ne_of_none e hB)]; exact S.sB b w e
 ·rw [upd_ne (ne_of_none e hF)]; exact S.sF b w e
 ·obtain ⟨v,h1,h2⟩:=S.sl i z hz
  refine ⟨v,h1,?_⟩
  obtain ⟨k,d⟩:=z
  cases k with
  | fr=>exact h2
  | bo=>exact h2
  | ow =>
   refine ⟨?_,h2.2⟩
   obtain ⟨a,e,q⟩:=h2.1.isRef
   subst e
   have hne:a≠p:=fun e=>by subst e; exact no i d h1 hz
   exact h2.1.other hne
  | nw=>exact h2
end
abbrev WF:WX:=fun _ _ _ _=>False
def xt (G:Gm) (c:X):TT:=if c.isNil=true then tYes else i7 G WF c
section
variable {C:Cx} {S:Sc} {G:Gn} {W:WX} {e f b tg:Expr} {es:List Expr} {pos:Pos} {xa xb xc:X}
theorem rQ (B:Gd C S G W) {own:List Nat} {t:T} (hsl:(T.slots t).all (fun i=>own.contains i)=true):∀ σ H Q,rd G.gm W (.comp own t xa xc xb) σ H Q→tLc (mC G.gm W xa) (gT G.gm t) (xt G.gm xc) (rd G.gm WF xb) own σ H Q:=by
 rintro σ H Q ⟨g0,l,s0,SS,h⟩
 have hsl:∀ j,j∉own→j∉T.slots t:=fun j hj q=>by
  have:=aR.mp hsl j q
  exact hj (aK.mp this)
 generalize hbd:(fun x s=>match T.put t x (de l own) with
    | none=>R.no
    | some l1=>(if xc.isNil=true then R.ok (true,s) else (b7 G.fs G.gs xc l1 s).bind fun (b,_,s2)=>match b with | .bl b=>.ok (b,s2) | _=>.no).bind fun (b,s2) =>
      if b=true then cf (b7 G.fs G.gs xb l1 s2) (fun d s3=>R.ok (some d,s3)) else R.ok ((none:Option GM.D),s2):GM.D→cj→R (Option GM.D × cj))=body
 have h:ValE G.gm W g0 σ l (if (own.all fun i=>match l[i]? with | some (some ⟨.ow,_⟩)=>false | _=>true)=false then .no else (gq G.fs G.gs xa l s0).bind fun (xs,s1) =>
   (R.noEr (cY (fun x s=>match T.put t x (de l own) with
    | none=>R.no
    | some l1=>(if xc.isNil=true then R.ok (true,s) else (b7 G.fs G.gs xc l1 s).bind fun (b,_,s2)=>match b with | .bl b=>.ok (b,s2) | _=>.no).bind fun (b,s2) =>
      if b=true then cf (b7 G.fs G.gs xb l1 s2) (fun d s3=>R.ok (some d,s3)) else R.ok ((none:Option GM.D),s2)) xs s1)).bind fun (ds,s2)=>if ds.length≤sizeLine then dY (.lst ds) s2 else .no) Q:=h
 rw [hbd] at h
 split at h
 ·exact h.elim
 rename_i how
 have how:(own.all fun i=>match l[i]? with | some (some ⟨.ow,_⟩)=>false | _=>true)=true:=by simpa using how
 have how:∀ i∈own,∀ d',l[i]?≠some (some ⟨.ow,d'⟩):=fun i hi d' e=>by
  have:=aR.mp how i hi
  rw [e] at this
  cases this
 refine ⟨g0,l,s0,SS,?_⟩
 have h:ValE G.gm W g0 σ l ((gq G.gm.fs G.gm.gs xa l s0).bind _) Q:=h
 cases e0:gq G.gm.fs G.gm.gs xa l s0 with
 | er a b c =>
  rw [e0] at h
  exact h
 | no =>
  rw [e0] at h
  exact h
 | ok p =>
  obtain ⟨xs,s1⟩:=p
  rw [e0] at h
  have h:ValE G.gm W g0 σ l ((R.noEr (cY body xs s1)).bind fun (ds,s2)=>if ds.length≤sizeLine then dY (.lst ds) s2 else .no) Q:=h
  cases ec:cY body xs s1 with
  | er a b c=>rw [ec] at h; exact h.elim
  | no=>rw [ec] at h; exact h.elim
  | ok q =>
   obtain ⟨ds,s2⟩:=q
   rw [ec] at h
   have h:ValE G.gm W g0 σ l (if ds.length≤sizeLine then dY (.lst ds) s2 else .no) Q:=h
   split at h
   case isFalse=>exact h.elim
   rename_i hlen
   intro g1 e1 J H1 S1 w L0 hD
   have no:=S1.noown hD
   have hB1:g1.B L0=none:=S1.freeB hD
   have hF1:g1.F.h L0=none∧∀ n,g1.F.m L0≠some n:=⟨S1.freeF hD,S1.freeM hD⟩
   refine ⟨fun i m H=>m=xs.length - i∧i≤xs.length∧∃ g acc accD rest s',Ext g1 g∧SR G.Y g σ H l s'∧H L0=some (.lst acc)∧(g.F.h L0=none∧∀ n,g.F.m L0≠some n)∧Rps G.Y g.F accD acc∧cY body (xs.drop i) s'=.ok (rest,s2)∧accD++rest=ds,
    ⟨xs.length,by simp,aV _,g1,[],[],ds,s1,.refl g1,S1.lay hD,upd_same,hF1,.nil,ec,rfl⟩,?_⟩
   rintro i m H2 ⟨rfl,hi,g2,acc,accD,rest,s',e2,S2,hD2,hF2,r2,ec2,ed⟩
   have hB2:g2.B L0=none:=by rw [e2.b]; exact hB1
   by_cases hlt:i < xs.length
   ·refine .inr ?_
    have SL:=S2.lock hD2 hF2.2 hB2 no
    have eW:ExtW g1 ⟨g2.F,upd g2.B L0 (.lst acc),g2.M⟩:=⟨e2.f,by rw [← e2.b]; exact f6 hB2⟩
    obtain ⟨go,yl⟩:=(w _ i σ H2 l s' eW SL).1 xs[i] (ah hlt)
    refine ⟨go,fun H'=>∃ g acc accD rest s',Ext g1 g∧SR G.Y g σ H' l s'∧H' L0=some (.lst acc)∧(g.F.h L0=none∧∀ n,g.F.m L0≠some n)∧Rps G.Y g.F accD acc∧cY body (xs.drop (i+1)) s'=.ok (rest,s2)∧accD++rest=ds,
     fun H' n=>⟨xs.length - (i+1),by omega,rfl,hlt,n⟩,fun x H3 y=>?_⟩
    obtain ⟨g3,e3,sm3,S3,r3⟩:=yl x H3 y
    have S3w:=S3.wipe own
    rw [List.drop_eq_getElem_cons hlt] at ec2
    have ec2:(body xs[i] s').bind (fun (o,s1)=>(cY body (xs.drop (i+1)) s1).bind fun (r,s2)=>.ok (k7 o r,s2))=.ok (rest,s2):=ec2
    cases eb:body xs[i] s' with
    | er a b c=>rw [eb] at ec2; cases ec2
    | no=>rw [eb] at ec2; cases ec2
    | ok p =>
    obtain ⟨o,s3⟩:=p
    rw [eb] at ec2
    have ec2:(cY body (xs.drop (i+1)) s3).bind (fun (r,s2)=>R.ok (k7 o r,s2))=.ok (rest,s2):=ec2
    cases er2:cY body (xs.drop (i+1)) s3 with
    | er a b c=>rw [er2] at ec2; cases ec2
    | no=>rw [er2] at ec2; cases ec2
    | ok p =>
    obtain ⟨r,s2'⟩:=p
    rw [er2] at ec2
    have ec2:R.ok (k7 o r,s2')=.ok (rest,s2):=ec2
    injection ec2 with ec2
    obtain ⟨e5,e6⟩:=bX ec2
    subst e6
    rw [← hbd] at eb
    cases et:T.put t xs[i] (de l own) with
    | none =>
     simp only [et] at eb
     cases eb
    | some l1 =>
    have eb:(if xc.isNil=true then R.ok (true,s') else (b7 G.fs G.gs xc l1 s').bind fun (b,_,s2)=>match b with | .bl b=>.ok (b,s2) | _=>.no).bind (fun (b,s2) =>
      if b=true then cf (b7 G.fs G.gs xb l1 s2) (fun d s3=>R.ok (some d,s3)) else R.ok ((none:Option GM.D),s2))=R.ok (o,s3):=by
     simp only [et] at eb
     exact eb
    refine ⟨g3,de l own,s',xs[i],l1,S3w,r3,et,fun σ4 n4 f4 S4=>?_⟩
    have hσ:∀ j,j∉own→σ4[j]?=σ[j]?:=fun j hj=>(f4 j (hsl j hj)).trans (mS hj)
    have hl:∀ j,j∉own→l1[j]?=l[j]?:=fun j hj=>(lR et j (hsl j hj)).trans (jC hj)
    have n4':σ4.length=σ.length:=n4.trans (wipe_length _ _)
    have hw:L2.wipe σ4 own=L2.wipe σ own:=by
     apply List.ext_getElem?
     intro j
     rw [gu,gu,n4']
     by_cases hj:j∈own
     ·by_cases hj2:j < σ.length
      ·rw [ap ⟨hj,hj2⟩,ap ⟨hj,hj2⟩]
      ·rw [av fun q=>hj2 q.2,av fun q=>hj2 q.2,aQ (by omega),aQ (by omega)]
     ·rw [av fun q=>hj q.1,av fun q=>hj q.1,hσ j hj]
    refine ⟨hw,?_⟩
    have fin:∀ b sb g5 H5,Ext g3 g5→SR G.Y g5 σ4 H5 l1 sb→(if b=true then cf (b7 G.fs G.gs xb l1 sb) (fun d s3=>R.ok (some d,s3)) else R.ok ((none:Option GM.D),sb))=R.ok (o,s3) →
      (if b=true then rd G.gm WF xb σ4 H5 (fun y H4=>∃ acc,H4 L0=some (.lst acc)∧acc.length < sizeLine∧(fun H'=>∃ g acc accD rest s',Ext g1 g∧SR G.Y g σ H' l s'∧H' L0=some (.lst acc)∧(g.F.h L0=none∧∀ n,g.F.m L0≠some n)∧Rps G.Y g.F accD acc∧cY body (xs.drop (i+1)) s'=.ok (rest,s2')∧accD++rest=ds) (upd H4 L0 (.lst (acc++[y]))))
       else (fun H'=>∃ g acc accD rest s',Ext g1 g∧SR G.Y g σ H' l s'∧H' L0=some (.lst acc)∧(g.F.h L0=none∧∀ n,g.F.m L0≠some n)∧Rps G.Y g.F accD acc∧cY body (xs.drop (i+1)) s'=.ok (rest,s2')∧accD++rest=ds) H5):=fun b sb g5 H5 e7 S5 eq=>by
     cases b with
     | false =>
      rw [av aa] at eq ⊢
      injection eq with eq
      obtain ⟨q1,q2⟩:=bX eq
      subst q1 q2
      obtain ⟨U1,U2,U3,U4⟩:=S2.unlock (p:=L0) (o:=.lst acc) hF2.2 hB2 hF2.1 (e3.trans e7) S5 how hσ hl
      exact ⟨_,acc,accD,r,_,e2.trans U2,U1,U3,U4,r2.mono U2.f,er2,by rw [← ed,← e5]; rfl⟩
     | true =>
      rw [ap rfl] at eq ⊢
      have hV:ValR G.gm WF g5 σ4 (cf (b7 G.fs G.gs xb l1 sb) (fun d s3=>R.ok (some d,s3))) (fun p _=>p=(o,s3)):=by
       rw [eq]
       exact fun _ _=>rfl
      refine fC S5 hV fun d s6 g6 v H6 e8 S6 r6 q=>?_
      obtain ⟨q1,q2⟩:=bX (show (some d,s6)=(o,s3) from q g6 (.refl g6))
      subst q1 q2
      obtain ⟨U1,U2,U3,U4⟩:=S2.unlock (p:=L0) (o:=.lst acc) hF2.2 hB2 hF2.1 ((e3.trans e7).trans e8) S6 how hσ hl
      have el:accD.length=acc.length:=r2.length
      have elen:accD.length+(r.length+1)=ds.length:=by rw [← ed,← e5,ae]; rfl
      refine ⟨acc,U3,by omega,⟨g6.F,g2.B,g2.M⟩,acc++[v],accD++[d],r,_,e2.trans U2,U1.wr U4.1 U4.2 hB2 no,upd_same,U4,(r2.mono U2.f).append #v[r6],er2,?_⟩
      rw [← ed,← e5,bc]
      rfl
    unfold xt
    by_cases hc:xc.isNil=true
    ·rw [ap hc] at eb ⊢
     exact fin true s' g3 H3 (.refl g3) S4 eb
    ·rw [av hc] at eb ⊢
     refine ⟨g3,l1,s',S4,?_⟩
     show ValR G.gm WF g3 σ4 (b7 G.fs G.gs xc l1 s') _
     cases e7:b7 G.fs G.gs xc l1 s' with
     | er a b c=>rw [e7] at eb; cases eb
     | no=>rw [e7] at eb; cases eb
     | ok p =>
      obtain ⟨d,tg2,sb⟩:=p
      rw [e7] at eb
      cases d with
      | bl b=>exact fun g5 e8=>⟨b,rfl,fun H5 S5=>fin b sb g5 H5 e8 S5 eb⟩
      | _=>cases eb
   ·have hi2:i=xs.length:=by omega
    refine .inl ⟨(w g2 i σ H2 l s' e2.w S2).2 hi2,?_⟩
    rw [hi2,List.drop_length] at ec2
    have ec2:R.ok ([],s')=R.ok (rest,s2):=ec2
    injection ec2 with ec2
    obtain ⟨q1,q2⟩:=bX ec2
    subst q1 q2
    rw [aX] at ed
    subst ed
    exact h g2 _ H2 (e1.trans e2) S2 ⟨L0,rfl,hF2,hB2,.lst hD2 r2,no⟩
theorem kF (N:List Str) (own:List Nat):(jW N own).map (·.2)=own:=by
 unfold jW
 rw [bD]
 exact List.map_id _

theorem Gd.blk (B:Gd C S G W) (hh:S.hot=false) (scope:Scope) (s:Shared) (H:Hp) (Cc:Addr) (cl:List (Str × Addr)) (fp:List Addr):Gd (C.blk s H scope (compEnvC scope cl Cc C.env) fp) { S with sc:=relS scope S.sc,top:=false } G WF :=
 ⟨B.N,B.nd,(by show relS scope C.env.scope=_; rw [B.sc]),B.cool,B.un,(fun h=>by cases h),takes0,B.Y,B.mg,B.fns,B.blt,B.gns,B.exs,B.hns,B.ms,B.fl,B.mt,B.mks,(fun a nm h=>by rw [B.px0 hh] at h; cases h),(fun _=>B.px0 hh),⟨B.rmh.dp,B.rmh.un⟩,B.xs,B.hx,B.xi,B.isc,B.ea⟩
theorem xu (B:Gd C S G W) (hh:S.hot=false) {own:List Nat} {t:T} {scope:Scope} {ite:Expr} {ifs:List Expr} (hsl:(T.slots t).all (fun i=>own.contains i)=true) (ok:blkC S.N S.sc scope (jW S.N own)=true)
  (hset:∀ x,foldedSetIterable ite C.env x=pure x) (hi:PI C tg ite (mC G.gm W xa))
  (hg:∀ (s:Shared) (H:Hp) (Cc:Addr) (cl:List (Str × Addr)) (fp:List Addr),PG (C.blk s H scope (compEnvC scope cl Cc C.env) fp) tg (gT G.gm t))
  (ht:∀ (s:Shared) (H:Hp) (Cc:Addr) (cl:List (Str × Addr)) (fp:List Addr),PTs (C.blk s H scope (compEnvC scope cl Cc C.env) fp) ifs (xt G.gm xc))
  (he:∀ (s:Shared) (H:Hp) (Cc:Addr) (cl:List (Str × Addr)) (fp:List Addr),PE (C.blk s H scope (compEnvC scope cl Cc C.env) fp) e (rd G.gm WF xb)) :
  PE C (.ListComp e [⟨tg,ite,ifs,0⟩] scope pos) (rd G.gm W (.comp own t xa xc xb)):=by
 refine PE.imp (pe_lc (own:=jW S.N own) (B.calm hh) (by rw [B.N]; exact B.nd) hi (blkOk_by (by rw [B.N,B.sc]; exact ok)) hg ht he hset) ?_
 rw [kF]
 exact rQ B hsl

theorem uv (B:Gd C S G W) (hh:S.hot=false) {own:List Nat} {t:T} {scope:Scope} {ite:Expr} {ifs:List Expr} {i:Nat} {y:Str} {py spos:Pos} (hsl:(T.slots t).all (fun i=>own.contains i)=true) (ok:blkC S.N S.sc scope (jW S.N own)=true)
  (hN:S.N[i]?=some y) (hyl:fW S.sc y=true) (hsw:swapsWith (.ListComp e [⟨tg,ite,ifs,0⟩] scope pos) (some (.Name y py)) spos.line C.env=pure true)
  (hset:∀ x,foldedSetIterable ite C.env x=pure x) (hi:PI C tg ite (mC G.gm W xa))
  (hg:∀ (s:Shared) (H:Hp) (Cc:Addr) (cl:List (Str × Addr)) (fp:List Addr),PG (C.blk s H scope (compEnvC scope cl Cc C.env) fp) tg (gT G.gm t))
  (ht:∀ (s:Shared) (H:Hp) (Cc:Addr) (cl:List (Str × Addr)) (fp:List Addr),PTs (C.blk s H scope (compEnvC scope cl Cc C.env) fp) ifs (xt G.gm xc))
  (he:∀ (s:Shared) (H:Hp) (Cc:Addr) (cl:List (Str × Addr)) (fp:List Addr),PE (C.blk s H scope (compEnvC scope cl Cc C.env) fp) e (rd G.gm WF xb)) :
  PS C (.Assign [.Name y py] (.ListComp e [⟨tg,ite,ifs,0⟩] scope pos) spos) (tAsg (rd G.gm W (.comp own t xa xc xb)) (gName i)):=by
 refine PS.imp (ps_setLc (own:=jW S.N own) (B.calm hh) (by rw [B.N]; exact B.nd) (by rw [B.N]; exact hN) (by rw [B.sc]; exact fe hyl) hsw hi (blkOk_by (by rw [B.N,B.sc]; exact ok)) hg ht he hset) ?_
 rw [kF]
 exact fun D σ H h=>rQ B hsl σ H _ h
end
section
variable {Y:Wd} {g g':Gh} {σ:L2.St} {H H':Hp} {l:Lc} {s s':cj} {d:D} {v:V} {n:Nat}

theorem SR.ce (S:SR Y g σ H l s) (h:RdV Y g.F H (.loc n) v) (hc:s[n]?=some (.obj d)):∃ a,v=.ref a∧CAt g.F g.B n a∧TpW Y g.F H d (.ref a):=by
 obtain ⟨a,rfl,hm⟩:=h.loc
 cases S.st.at_ n _ hc with
 | obj k t =>
  have e:=k.u a hm
  subst e
  exact ⟨_,rfl,k,t⟩
theorem SR.ceR (S:SR Y g σ H l s) {x:D} (h:RdV Y g.F H x v) (hc:tV s x=some d):RdV Y g.F H d v:=by
 cases x with
 | loc n =>
  have hc:(match s[n]? with | some (.obj d)=>some d | _=>none)=some d:=hc
  cases e:s[n]? with
  | none=>rw [e] at hc; cases hc
  | some c =>
   rw [e] at hc
   cases c with
   | obj d' =>
    cases (ad hc)
    obtain ⟨a,rfl,_,t⟩:=S.ce h e
    exact .inr t
   | ins _ _=>cases hc
   | fz=>cases hc
 | _=>cases hc
theorem SR.ci (S:SR Y g σ H l s) {x:D} {c:Str} {fs:List (Str × D)} (h:RdV Y g.F H x v) (hc:oh s c x=some fs) :
  ∃ n a dx fv,x=.loc n∧s[n]?=some (.ins c fs)∧v=.ref a∧CAt g.F g.B n a∧H a=some (.ins (He.ga Y.K c) dx fv)∧fv.map (·.1)=fs.map (·.1)∧FldR Y g.F fs fv:=by
 cases x with
 | loc n =>
  have hc:(match s[n]? with | some (.ins c' fs)=>if c'=c then some fs else none | _=>none)=some fs:=hc
  cases e:s[n]? with
  | none=>rw [e] at hc; cases hc
  | some q =>
   rw [e] at hc
   cases q with
   | obj d'=>cases hc
   | fz=>cases hc
   | ins c' fs' =>
    have hc:(if c'=c then some fs' else none)=some fs:=hc
    by_cases ec:c'=c
    ·rw [ap ec] at hc
     cases hc
     subst ec
     obtain ⟨a,rfl,hm⟩:=h.loc
     cases S.st.at_ n _ e with
     | ins k t z f =>
      have e2:=k.u a hm
      subst e2
      exact ⟨n,_,_,_,rfl,e,rfl,k,t,z,f⟩
    ·rw [av ec] at hc
     cases hc
 | _=>cases hc

theorem SR.cellG (S:SR Y g σ H l s) (hs:s≠[]) {a:Addr} {c:Cell} (hF:g.F.h a=none) (hm:∀ k,g.F.m a≠some k) (hB:g.B a=none) (hpa:(H a).isSome=true) (no:∀ (i:Nat) (d':D),σ[i]?=some (some (.ref a))→l[i]?≠some (some ⟨.ow,d'⟩))
  (hc:∀ F',g.F.le F'→CAt F' g.B s.length a→CellR Y F' g.B H s.length c):∃ g',Ext g g'∧SR Y g' σ H l (s++[c])∧g'.F.m a=some s.length:=by
 let m':Addr→Option Nat:=fun b=>if b=a then some s.length else g.F.m b
 have ma:m' a=some s.length:=ap rfl
 have mb:∀ b,b≠a→m' b=g.F.m b:=fun b hb=>av hb
 have le:g.F.le ⟨g.F.h,m'⟩:=⟨Same.refl _,fun b k q=>by
  by_cases e:b=a
  ·subst e; exact absurd q (hm k)
  ·show m' b=_
   rw [mb b e]; exact q⟩
 have old:∀ b k,m' b=some k→(b=a∧k=s.length)∨(b≠a∧g.F.m b=some k):=fun b k q=>by
  by_cases e:b=a
  ·subst e
   rw [ma] at q
   exact .inl ⟨rfl,(ad q).symm⟩
  ·rw [mb b e] at q
   exact .inr ⟨e,q⟩
 refine ⟨⟨⟨g.F.h,m'⟩,g.B,g.M⟩,⟨rfl,le,(fun b o h1 h2=>by rw [show g.F.h b=some o from h1] at h2; cases h2),rfl⟩,⟨S.sB,S.sF,S.len,fun i z hz=>?_,S.ow,⟨fun k c q=>?_,fun b k q=>?_,fun _ b k q=>?_,fun h=>absurd h (by simp),fun b k q=>le.m b k (S.st.mb b k q)⟩⟩,ma⟩
 ·obtain ⟨w,h1,h2⟩:=S.sl i z hz
  refine ⟨w,h1,?_⟩
  obtain ⟨t,e⟩:=z
  cases t with
  | fr=>exact Rp.mono le h2
  | bo=>exact h2.imp (fun q=>q.mono le) fun q=>q.mono le (Same.refl _)
  | ow =>
   refine ⟨h2.1.mono le (Same.refl _),fun b eb=>⟨(h2.2 b eb).1,(h2.2 b eb).2.1,fun k q=>?_⟩⟩
   rcases old b k q with ⟨rfl,_⟩ | ⟨_,q2⟩
   ·subst eb
    exact no i e h1 hz
   ·exact (h2.2 b eb).2.2 k q2
  | nw=>exact h2
 ·by_cases hk:k < s.length
  ·rw [a9 hk] at q
   refine (S.st.at_ k c q).mono le (fun b kk=>⟨le.m _ _ kk.m,fun b2 hb2=>?_,kk.f,kk.b⟩) fun _ _ _ h=>h
   rcases old b2 k hb2 with ⟨_,e⟩ | ⟨_,q2⟩
   ·omega
   ·exact kk.u b2 q2
  ·have ek:k=s.length:=by
    have:=(au.mp q).1
    rw [ae,aC] at this
    omega
   subst ek
   rw [aS (aA _),bH] at q
   cases (ad q)
   refine hc _ le ⟨ma,fun b hb=>?_,hF,hB⟩
   rcases old b _ hb with ⟨e,_⟩ | ⟨_,q2⟩
   ·exact e
   ·have:=(S.st.lt hs b _ q2).1
    omega
 ·rcases old b k q with ⟨rfl,_⟩ | ⟨_,q2⟩
  ·exact hpa
  ·exact S.st.lv b k q2
 ·rw [ae,aC]
  rcases old b k q with ⟨rfl,e⟩ | ⟨_,q2⟩
  ·exact ⟨by omega,hB⟩
  ·have:=S.st.lt hs b k q2
   exact ⟨by omega,this.2⟩

theorem SR.cell (S:SR Y g σ H l s) (hs:s≠[]) (h:VN Y g σ H l d v):∃ g',Ext g g'∧SR Y g' σ H l (s++[.obj d])∧Rp Y g'.F (.loc s.length) v:=by
 obtain ⟨a,rfl,⟨hF,hm⟩,hB,tp,no⟩:=h
 obtain ⟨b,e,hb⟩:=tp.isRef
 cases e
 obtain ⟨g',e',S',m'⟩:=S.cellG hs hF hm hB hb no fun F' le k=>.obj k (tp.mono le (Same.refl _))
 exact ⟨g',e',S',.loc m'⟩

theorem SR.celI (S:SR Y g σ H l s) (hs:s≠[]) {y dy:Addr} {c:Str} (hy:H y=none) (hd:H dy=none) (hne:dy≠y) :
  ∃ g',Ext g g'∧SR Y g' σ (upd (upd H dy (.own y)) y (.ins (He.ga Y.K c) dy [])) l (s++[.ins c []])∧g'.F.m y=some s.length:=by
 have S1:SR Y g σ (upd H dy (.own y)) l s:=S.lay hd
 have hy1:upd H dy (.own y) y=none:=by rw [upd_ne (Ne.symm hne)]; exact hy
 have S2:SR Y g σ (upd (upd H dy (.own y)) y (.ins (He.ga Y.K c) dy [])) l s:=S1.lay hy1
 refine S2.cellG hs ?_ (fun k q=>?_) ?_ (by rw [upd_same]; rfl) (fun i d' h1 h2=>?_) fun F' le k=>.ins k upd_same rfl fun _=>rfl
 ·cases q:g.F.h y with
  | none=>rfl
  | some u=>rw [S.sF y u q] at hy; cases hy
 ·have:=S.st.lv y k q
  rw [hy] at this
  cases this
 ·cases q:g.B y with
  | none=>rfl
  | some u=>rw [S.sB y u q] at hy; cases hy
 ·obtain ⟨tp,_⟩:=S.own h1 h2
  obtain ⟨a',e',hp⟩:=tp.isRef
  cases e'
  rw [hy] at hp
  cases hp

theorem SR.cwr (S:SR Y g σ H l s) {c:Cell} {a:Addr} {o:HO} (hk:CAt g.F g.B n a) (hn:n < s.length) (hc:CellR Y g.F g.B (upd H a o) n c):SR Y g σ (upd H a o) l (s.set n c):=by
 have hs:s≠[]:=by
  intro e
  rw [e] at hn
  exact absurd hn (be n)
 refine ⟨fun b w e=>?_,fun b w e=>?_,S.len,fun i z hz=>?_,S.ow,⟨fun k c' q=>?_,fun b k q=>?_,fun _ b k q=>?_,fun h=>?_,S.st.mb⟩⟩
 ·rw [upd_ne (ne_of_none e hk.b)]; exact S.sB b w e
 ·rw [upd_ne (ne_of_none e hk.f)]; exact S.sF b w e
 ·obtain ⟨w,h1,h2⟩:=S.sl i z hz
  refine ⟨w,h1,?_⟩
  obtain ⟨t,e⟩:=z
  cases t with
  | fr=>exact h2
  | bo=>exact h2
  | ow =>
   refine ⟨?_,h2.2⟩
   obtain ⟨b,rfl,q⟩:=h2.1.isRef
   refine h2.1.at (Fr.le.refl _) fun u hu=>?_
   rw [upd_ne fun e=>(h2.2 b rfl).2.2 n (by rw [e]; exact hk.m)]
   exact hu
  | nw=>exact h2
 ·by_cases ek:n=k
  ·subst ek
   rw [aL hn] at q
   cases (ad q)
   exact hc
  ·rw [ay ek] at q
   refine (S.st.at_ k c' q).mono (Fr.le.refl _) (fun _ h=>h) fun b u hb hu=>?_
   rw [upd_ne fun e=>ek (by rw [e,hk.m] at hb; exact ad hb)]
   exact hu
 ·by_cases e:b=a
  ·subst e; rw [upd_same]; rfl
  ·rw [upd_ne e]; exact S.st.lv b k q
 ·rw [aN]
  exact S.st.lt hs b k q
 ·exact absurd h (fun h=>hs (a8 (by have:=bj List.length h; rw [aN] at this; exact this)))

theorem SR.cfzU (S:SR Y g σ H l s) {a:Addr} {u:HO} (hk:CAt g.F g.B n a) (hn:n < s.length) (hu:H a=some u):∃ g',Ext g g'∧SR Y g' σ H l (s.set n .fz)∧g'.F=g.F.upd a u:=by
 have hs:s≠[]:=by
  intro e
  rw [e] at hn
  exact absurd hn (be n)
 have sm:Same g.F.h (upd g.F.h a u):=fun b w e=>by
  rw [upd_ne (ne_of_none e hk.f)]
  exact e
 have le:g.F.le (g.F.upd a u):=⟨sm,fun _ _ h=>h⟩
 refine ⟨⟨g.F.upd a u,g.B,g.M⟩,⟨rfl,le,fun b o h1 h2=>?_,rfl⟩,⟨S.sB,fun b w e=>?_,S.len,fun i z hz=>?_,S.ow,⟨fun k c q=>?_,S.st.lv,fun _ b k q=>?_,fun h=>?_,S.st.mb⟩⟩,?_⟩
 ·by_cases e:b=a
  ·subst e; exact hk.b
  ·have h1:upd g.F.h a u b=some o:=h1
   rw [upd_ne e] at h1
   rw [h1] at h2
   cases h2
 ·by_cases eb:b=a
  ·subst eb
   have e:upd g.F.h b u b=some w:=e
   rw [upd_same] at e
   rw [hu]
   exact e
  ·have e:upd g.F.h a u b=some w:=e
   rw [upd_ne eb] at e
   exact S.sF b w e
 ·obtain ⟨w,h1,h2⟩:=S.sl i z hz
  refine ⟨w,h1,?_⟩
  obtain ⟨t,e⟩:=z
  cases t with
  | fr=>exact Rp.mono le h2
  | bo=>exact h2.imp (fun q=>q.mono le) fun q=>q.mono le (Same.refl _)
  | ow =>
   refine ⟨h2.1.mono le (Same.refl _),fun b eb=>⟨?_,(h2.2 b eb).2⟩⟩
   show upd g.F.h a u b=none
   rw [upd_ne fun e=>(h2.2 b eb).2.2 n (by rw [e]; exact hk.m)]
   exact (h2.2 b eb).1
  | nw=>exact h2
 ·by_cases ek:n=k
  ·subst ek
   rw [aL hn] at q
   cases (ad q)
   exact .fz
  ·rw [ay ek] at q
   refine (S.st.at_ k c q).mono le (fun b kk=>⟨kk.m,kk.u,?_,kk.b⟩) fun _ _ _ h=>h
   show upd g.F.h a u b=none
   rw [upd_ne fun e=>ek (by have:=kk.m; rw [e,hk.m] at this; exact ad this)]
   exact kk.f
 ·rw [aN]
  exact S.st.lt hs b k q
 ·exact absurd h (fun h=>hs (a8 (by have:=bj List.length h; rw [aN] at this; exact this)))
 ·rfl
theorem SR.cfz (S:SR Y g σ H l s) {a:Addr} (hk:CAt g.F g.B n a) (hn:n < s.length) (tp:TpW Y g.F H d (.ref a)):∃ g',Ext g g'∧SR Y g' σ H l (s.set n .fz)∧Rp Y g'.F d (.ref a):=by
 obtain ⟨_,e0,hpa⟩:=tp.isRef
 cases e0
 obtain ⟨u,hu⟩:=a0.mp hpa
 obtain ⟨g',e,S',eF⟩:=S.cfzU hk hn hu
 refine ⟨g',e,S',?_⟩
 have le:g.F.le g'.F:=e.f
 have at_:g'.F.h a=some u:=by rw [eF]; exact upd_same
 cases tp with
 | lst h r=>rw [h] at hu; cases hu; exact .lst at_ (r.mono le)
 | dk h r=>rw [h] at hu; cases hu; exact .dk at_ (r.mono le)
 | dt h w r=>rw [h] at hu; cases hu; exact .dt at_ w (r.mono le)

theorem SR.cfzD (S:SR Y g σ H l s) {a:Addr} {kvs:List (Key × V)} {ps:List (D × D)} {ob:Obj} (hk:CAt g.F g.B n a) (hn:n < s.length) (r:Rpk Y g.F ps kvs) :
  ∃ g',Ext g g'∧SR Y g' σ (upd H a (.frz ob (.dK kvs))) l (s.set n .fz)∧Rp Y g'.F (.fdc ps) (.ref a):=by
 have S1:SR Y g σ (upd H a (.frz ob (.dK kvs))) l (s.set n .fz):=S.cwr hk hn .fz
 obtain ⟨g',e,S',eF⟩:=S1.cfzU hk (by rw [aN]; exact hn) upd_same
 rw [List.set_set] at S'
 exact ⟨g',e,S',.fd (by rw [eF]; exact upd_same) (r.mono e.f)⟩
end
section
variable {C:Cx} {S:Sc} {G:Gn} {W:WX} {e f b:Expr} {es:List Expr} {pos apos cpos:Pos} {xa xb xc:X}
theorem Az (ha:PE C e (rd G.gm W xa)):PE C e (rd G.gm W (.new xa)):=by
 refine PE.imp ha ?_
 rintro σ H Q ⟨g,l,s,SS,h⟩
 refine j4 SS (show ValE G.gm W g σ l ((b7 G.fs G.gs xa l s).bind _) Q from h) fun d t s1 g1 v H1 e1 S1 v1 h1=>?_
 have h2:ValE G.gm W g1 σ l (if t=.nw∧s1≠[] then cg (.loc s1.length) (s1++[.obj d]) else .no) Q:=h1
 clear h1
 by_cases hc:t=.nw∧s1≠[]
 ·rw [ap hc] at h2
  obtain ⟨ht,hs⟩:=hc
  rw [ht] at v1
  obtain ⟨g2,e2,S2,r⟩:=S1.cell hs v1
  exact h2 g2 v H1 e2 S2 r
 ·rw [av hc] at h2
  exact h2.elim

theorem pI {t:TE} (ha:PE C e t):PE C e (fun σ H Q=>t σ H fun v H1=>Q v H1∨∃ a kvs,v=.ref a∧H1 a=some (.dK kvs)∧∀ ob,Q (.ref a) (upd H1 a (.frz ob (.dK kvs)))):=by
 refine ⟨fun pins s σ H Q I h=>thn (ha.run pins s σ H _ I h) fun u s1 ⟨v,H1,I1,rv,q⟩=>?_⟩
 rcases q with q | ⟨a,kvs,rfl,hd,q⟩
 ·exact ⟨v,H1,I1,rv,q⟩
 ·obtain ⟨ob,I2⟩:=I1.lock hd (by trivial)
  exact ⟨.ref a,_,I2,rv,q ob⟩
theorem AA (ha:PE C e (rd G.gm W xa)):PE C e (rd G.gm W (.frz xa)):=by
 refine PE.imp (pI ha) ?_
 rintro σ H Q ⟨g,l,s,SS,h⟩
 refine cu SS (show ValE G.gm W g σ l ((b7 G.fs G.gs xa l s).bind _) Q from h) fun d t s1 g1 v H1 e1 S1 v1 h1=>?_
 cases d with
 | loc n =>
  cases ec:s1[n]? with
  | none =>
   have h1:ValE G.gm W g1 σ l (match s1[n]? with | some (.obj (.dic false kvs))=>cg (.fdc kvs) (s1.set n .fz) | some (.obj d)=>cg d (s1.set n .fz) | _=>.no) Q:=h1
   rw [ec] at h1; exact h1.elim
  | some c =>
   have h1:ValE G.gm W g1 σ l (match s1[n]? with | some (.obj (.dic false kvs))=>cg (.fdc kvs) (s1.set n .fz) | some (.obj d)=>cg d (s1.set n .fz) | _=>.no) Q:=h1
   rw [ec] at h1
   cases c with
   | ins _ _=>exact h1.elim
   | fz=>exact h1.elim
   | obj d =>
    obtain ⟨a,rfl,k,tp⟩:=S1.ce (v1.rd S1) ec
    have hn:=(au.mp ec).1
    have other:(∀ kvs,d≠.dic false kvs)→ValE G.gm W g1 σ l (cg d (s1.set n .fz)) Q→(Q (.ref a) H1∨∃ a' kvs,(V.ref a:V)=.ref a'∧H1 a'=some (.dK kvs)∧∀ ob,Q (.ref a') (upd H1 a' (.frz ob (.dK kvs)))):=fun _ h2=>by
     obtain ⟨g2,e2,S2,r⟩:=S1.cfz k hn tp
     exact .inl (h2 g2 _ H1 e2 S2 r)
    cases d with
    | dic kk ps =>
     cases kk with
     | true=>exact other (fun _ z=>by cases z) h1
     | false =>
      cases tp with
      | dk hh r =>
       refine .inr ⟨a,_,rfl,hh,fun ob=>?_⟩
       obtain ⟨g2,e2,S2,r2⟩:=S1.cfzD (ob:=ob) k hn r
       exact h1 g2 _ _ e2 S2 r2
    | _=>exact other (fun _ z=>by cases z) h1
 | _=>exact h1.elim
theorem SR.cfzs {Y:Wd} {σ:L2.St} {H:Hp} {l:Lc}:∀ {xs ds:List D} {vs:List V} {g:Gh} {s s':cj},SR Y g σ H l s→Rps Y g.F xs vs→oi xs s=some (ds,s')→∃ g',Ext g g'∧SR Y g' σ H l s'∧Rps Y g'.F ds vs
 | [],ds,vs,g,s,s',S,r,e=>by
  have e:some (([]:List D),s)=some (ds,s'):=e
  cases e
  cases r
  exact ⟨g,.refl g,S,.nil⟩
 | x :: xs,ds,vs,g,s,s',S,r,e=>by
  cases x with
  | loc n =>
   have e:(match s[n]? with
    | some (.obj (.lst es))=>match oi xs (s.set n .fz) with
     | some (ds,s')=>some (.lst es :: ds,s')
     | none=>none
    | _=>none)=some (ds,s'):=e
   split at e
   ·rename_i es hc
    cases ef:oi xs (s.set n .fz) with
    | none=>rw [ef] at e; cases e
    | some p =>
     obtain ⟨ds2,s2⟩:=p
     rw [ef] at e
     cases e
     cases r with
     | cons r1 r2 =>
      obtain ⟨a,rfl,k,tp⟩:=S.ce (.inl r1) hc
      obtain ⟨g1,e1,S1,q1⟩:=S.cfz k (au.mp hc).1 tp
      obtain ⟨g2,e2,S2,q2⟩:=SR.cfzs S1 (r2.mono e1.f) ef
      exact ⟨g2,e1.trans e2,S2,.cons (q1.mono e2.f) q2⟩
   ·cases e
  | _=>cases e
theorem xw (ha:PE C e (rd G.gm W xa)):PE C e (rd G.gm W (.frzs xa)):=by
 refine PE.imp ha ?_
 rintro σ H Q ⟨g,l,s,SS,h⟩
 refine iu SS (show ValE G.gm W g σ l (cf (b7 G.fs G.gs xa l s) _) Q from h) fun d s1 g1 v H1 e1 S1 r1 h1=>?_
 cases d with
 | lst xs =>
  have h1:ValE G.gm W g1 σ l (match oi xs s1 with
   | some (ds,s2)=>cg (.lst ds) s2
   | none=>.no) Q:=h1
  cases ef:oi xs s1 with
  | none=>rw [ef] at h1; exact h1.elim
  | some p =>
   obtain ⟨ds,s2⟩:=p
   rw [ef] at h1
   cases r1 with
   | lst hh r =>
    obtain ⟨g2,e2,S2,r2⟩:=S1.cfzs r ef
    exact h1 g2 _ H1 e2 S2 (.lst (e2.f.s _ _ hh) r2)
 | _=>exact h1.elim

theorem TpW.toRp {Y:Wd} {F:Fr} {H:Hp} {m:Addr→Option Nat} {d:D} {v:V} (le:F.le ⟨H,m⟩):TpW Y F H d v→Rp Y ⟨H,m⟩ d v
 | .lst h r=>.lst h (r.mono le)
 | .dk h r=>.dk h (r.mono le)
 | .dt h o r=>.dt h o (r.mono le)
section
variable {Y:Wd} {g:Gh} {σ:L2.St} {H:Hp} {l:Lc} {s:cj}
theorem SR.leH (S:SR Y g σ H l s):g.F.le ⟨H,g.F.m⟩:=⟨S.sF,fun _ _ h=>h⟩
mutual
theorem Rp.deep (S:SR Y g σ H l s):∀ {d:D} {v:V},Rp Y g.F d v→Rp Y ⟨H,g.F.m⟩ (rh s d) v
 | _,_,.non=>.non
 | _,_,.bl b=>.bl b
 | _,_,.int i=>.int i
 | _,_,.str x=>.str x
 | _,_,.tup h r=>.tup (h.mono S.leH.s) (Rps.deep S r)
 | _,_,.lst h r=>.lst (S.sF _ _ h) (Rps.deep S r)
 | _,_,.arr h r=>Rp.mono S.leH (.arr h r)
 | _,_,.dk h r=>Rp.mono S.leH (.dk h r)
 | _,_,.dt h o r=>Rp.mono S.leH (.dt h o r)
 | _,_,.loc (n:=n) h=>by
  show Rp Y ⟨H,g.F.m⟩ (match s[n]? with
   | some (.obj d)=>d
   | _=>.loc n) _
  split
  ·rename_i d ec
   obtain ⟨a,ea,k,tp⟩:=S.ce (.inl (.loc h)) ec
   cases ea
   exact tp.toRp S.leH
  ·exact .loc h
 | _,_,.exc h=>.exc h
 | _,_,.fd h r=>Rp.mono S.leH (.fd h r)
 | _,_,.tb h=>.tb h
theorem Rps.deep (S:SR Y g σ H l s):∀ {ds:List D} {vs:List V},Rps Y g.F ds vs→Rps Y ⟨H,g.F.m⟩ (iY s ds) vs
 | _,_,.nil=>.nil
 | _,_,.cons h r=>.cons (Rp.deep S h) (Rps.deep S r)
end

theorem TpW.deep (S:SR Y g σ H l s) {d:D} {v:V}:TpW Y g.F H d v→TpW Y ⟨H,g.F.m⟩ H (rh s d) v
 | .lst h r=>.lst h (Rps.deep S r)
 | .dk h r=>.dk h (r.mono S.leH)
 | .dt h o r=>.dt h o (r.mono S.leH)
theorem lg (S:SR Y g σ H l s):∀ {kp:List Bool} {ds:List D} {vs:List V},ArgR Y ⟨g.F,H,g.F.m⟩ kp ds vs→ArgR Y ⟨⟨H,g.F.m⟩,H,g.F.m⟩ kp (iY s ds) vs
 | _,[],[],_=>trivial
 | kp,d :: ds,v :: vs,⟨h1,h2⟩=>by
  refine ⟨?_,lg S h2⟩
  by_cases hk:kp.headD false=true
  ·rw [ap hk] at h1 ⊢
   exact Rp.deep S h1
  ·rw [av hk] at h1 ⊢
   exact h1.imp (Rp.deep S) (TpW.deep S)
 | _,[],_ :: _,h=>h.elim
 | _,_ :: _,[],h=>h.elim
end
theorem uw {Y:Wd} {F F':Fr} {d:D} {v:V} (h:d.flat=true) (r:Rp Y F d v):Rp Y F' d v:=by
 cases r with
 | non=>exact .non
 | bl b=>exact .bl b
 | int i=>exact .int i
 | str x=>exact .str x
 | _=>cases h
theorem xx (B:Gd C S G W) (hh:S.hot=false) {j:Nat} {x:Str} {p:Pos} (hx:S.cs[j]?=some x) (hg:cP S.sc x=true) (hn:dZ x=true) (hs:bZ e=true) (hs2:es.all bZ=true) (ha:∀ kp,PA C (e :: es) (rJ G.gm W xa kp)) :
  PE C (.Call (.Name x p) (e :: es) [] pos) (rd G.gm W (.calD j xa)):=by
 cases ef:G.fs[j]? with
 | none =>
  refine PE.imp (t:=fun _ _ _=>False) ⟨fun _ _ _ _ _ _ h=>h.elim⟩ ?_
  rintro σ H Q ⟨g,l,s,SS,h⟩
  have h:ValE G.gm W g σ l (b7 G.fs G.gs (.calD j xa) l s) Q:=h
  simp only [b7,ef] at h
  exact h
 | some F =>
  obtain ⟨a,fd,ps,hF,hm,hk,hb⟩:=B.fns hh j x F hx ef
  refine PE.imp (pe_callS hF (B.room hh) (B.gl hg) hm hk hb (fun σ=>passAt B.tk σ) (ha F.kp) (di hn) (bY hs) (dh hs2)) ?_
  rintro σ H Q ⟨g,l,s,SS,h⟩
  have h:ValE G.gm W g σ l (b7 G.fs G.gs (.calD j xa) l s) Q:=h
  simp only [b7,ef] at h
  refine fX SS (show ValR G.gm W g σ ((ft G.fs G.gs xa F.kp l s).bind _) (KE G.gm σ l Q) from ValE.toR h) fun ds s1 g1 vs H1 e1 S1 r1 h1=>?_
  have h1:ValR G.gm W g1 σ (match F.run (iY s1 ds) with
   | .ok (d,.fr)=>if d.flat=true then cg d s1 else .no
   | _=>.no) (KE G.gm σ l Q):=h1
  refine .inl ⟨⟨H1,g1.F.m⟩,iY s1 ds,Same.refl H1,S1.st.lv,lg S1 (r1.arg S1),?_⟩
  cases er:F.run (iY s1 ds) with
  | ok q =>
   obtain ⟨d,t⟩:=q
   rw [er] at h1
   cases t with
   | fr =>
    have h1:ValR G.gm W g1 σ (if d.flat=true then cg d s1 else .no) (KE G.gm σ l Q):=h1
    by_cases hf:d.flat=true
    ·rw [ap hf] at h1
     intro F' H' v sm sF em ex rr
     exact h1 g1 (.refl g1) v H' (S1.heap sm) (uw hf rr)
    ·rw [av hf] at h1
     exact h1.elim
   | _=>exact h1.elim
  | er e s' l'=>rw [er] at h1; exact h1.elim
  | no=>rw [er] at h1; exact h1.elim
theorem AB (B:Gd C S G W) (hh:S.hot=false) (f:BI) {p:Pos} (hg:cP S.sc f.nm=true) (hs:bZ e=true) (ha:PE C e (rd G.gm W xa)):PE C (.Call (.Name f.nm p) [e] [] pos) (rd G.gm W (.rdl f xa)):=by
 refine PE.imp (mQ f.isV (rH B.Y (B.calm hh) B.hu f) (B.gl hg) (B.blt _ f.nmOk.2.2) f.boot (pa_cons ha pa_nil (bY hs)) f.nmOk.1 f.nmOk.2.1 (bY hs) (by rfl)) ?_
 rintro σ H Q ⟨g,l,s,SS,h⟩
 refine cu SS (show ValE G.gm W g σ l ((b7 G.fs G.gs xa l s).bind _) Q from h) fun d t s1 g1 v H1 e1 S1 v1 h1=>?_
 have h1:ValE G.gm W g1 σ l (match tV s1 d with | some d=>BI.run f [d] s1 | none=>.no) Q:=h1
 cases ec:tV s1 d with
 | none=>rw [ec] at h1; exact h1.elim
 | some d' =>
  rw [ec] at h1
  exact pz S1 h1 ⟨S1.ceR (v1.rd S1) ec,trivial⟩
theorem wk (o:COp) (neg:Bool) (ho:o=if neg=true then .notin else .isin):∀ σ H Q,rd G.gm W (.inl neg xa xb) σ H Q→tOp (cR G.Y o) (rd G.gm W xa) (rd G.gm W xb) σ H Q:=by
 rintro σ H Q ⟨g,l,s,SS,h⟩
 refine cu SS (show ValE G.gm W g σ l ((b7 G.fs G.gs xa l s).bind _) Q from h) fun d t s1 g1 v H1 e1 S1 v1 h1=>?_
 refine cu S1 (show ValE G.gm W g1 σ l ((b7 G.fs G.gs xb l s1).bind _) Q from h1) fun d2 t2 s2 g2 v2 H2 e2 S2 w1 h2=>?_
 have h2:ValE G.gm W g2 σ l (match tV s2 d2 with | some z=>COp.run (if neg=true then .notin else .isin) d z s2 | none=>.no) Q:=h2
 cases ec:tV s2 d2 with
 | none=>rw [ec] at h2; exact h2.elim
 | some z =>
  rw [ec,← ho] at h2
  exact lM S2 h2 ((v1.ext e2).rd S2) (S2.ceR (w1.rd S2) ec)
theorem AC (B:Gd C S G W) (o:COp) (neg:Bool) (ho:o=if neg=true then .notin else .isin) (hk:jx o b=true) (ha:PE C e (rd G.gm W xa)) (hb:PE C b (rd G.gm W xb)):PE C (.Compare e [o.op] [b] pos) (rd G.gm W (.inl neg xa xb)) :=
 PE.imp (pe_cmpR (jM (ia B) B.Y o) ha hb (iy hk)) (wk o neg ho)
theorem AD (B:Gd C S G W) (o:COp) (neg:Bool) (ho:o=if neg=true then .notin else .isin) (hk:jx o b=true) (ha:PE C e (rd G.gm W xa)) (hb:PE C b (rd G.gm W xb)):PT C (.Compare e [o.op] [b] pos) (i7 G.gm W (.inl neg xa xb)) :=
 PT.imp (pt_cmpR (jM (ia B) B.Y o) ha hb (iy hk)) fun σ H Q h=>wk o neg ho σ H _ (lQ h)
theorem AE (B:Gd C S G W) (hs:cM f=true) (ha:PE C e (rd G.gm W xa)) (hb:PE C f (rd G.gm W xb)):PE C (.Subscript e f pos) (rd G.gm W (.ixl xa xb)):=by
 refine PE.imp (pe_ix (wc B.hu B.Y) ha hb (iM hs)) ?_
 rintro σ H Q ⟨g,l,s,SS,h⟩
 refine cu SS (show ValE G.gm W g σ l ((b7 G.fs G.gs xa l s).bind _) Q from h) fun d t s1 g1 v H1 e1 S1 v1 h1=>?_
 refine cu S1 (show ValE G.gm W g1 σ l ((b7 G.fs G.gs xb l s1).bind _) Q from h1) fun d2 t2 s2 g2 v2 H2 e2 S2 w1 h2=>?_
 have h2:ValE G.gm W g2 σ l (match tV s2 d with | some z=>lF z d2 s2 | none=>.no) Q:=h2
 cases ec:tV s2 d with
 | none=>rw [ec] at h2; exact h2.elim
 | some z =>
  rw [ec] at h2
  exact rG S2 h2 (S2.ceR ((v1.ext e2).rd S2) ec) (w1.rd S2)
theorem dS {o:Expr} {m:Str} {env:Env} {x:Sem Value} (h:cD o=true):attributeBase o m env x=x:=by
 cases o
 case Call f args kws p =>
  cases args with
  | nil=>cases h
  | cons a r=>cases f <;> rfl
 all_goals rfl
theorem AF (B:Gd C S G W) {c nm:Str} (hf:(c,nm)∈S.fl) (hn:cD e=true) (ha:PE C e (rd G.gm W xa)):PE C (.Attribute e nm pos) (rd G.gm W (.fld c nm xa)):=by
 refine PE.imp (pe_fld ha (dS hn)) ?_
 rintro σ H Q ⟨g,l,s,SS,h⟩
 refine cu SS (show ValE G.gm W g σ l ((b7 G.fs G.gs xa l s).bind _) Q from h) fun d t s1 g1 v H1 e1 S1 v1 h1=>?_
 have h2:ValE G.gm W g1 σ l (match oh s1 c d with
  | some fv=>match fv.lookup nm with
   | some d=>cg d s1
   | none=>.no
  | none=>.no) Q:=h1
 clear h1
 cases ec:oh s1 c d with
 | none=>rw [ec] at h2; exact h2.elim
 | some fs =>
  rw [ec] at h2
  obtain ⟨n,a,dx,fv,_,_,ev,k,hh,hz,hr⟩:=S1.ci (v1.rd S1) ec
  have h3:ValE G.gm W g1 σ l (match fs.lookup nm with | some d=>cg d s1 | none=>.no) Q:=h2
  have hq:=hr nm
  cases el:fs.lookup nm with
  | none=>rw [el] at h3; exact h3.elim
  | some d' =>
   rw [el] at h3 hq
   obtain ⟨w,q1,q2⟩:=hq
   obtain ⟨k1,k2⟩:=B.fl c nm hf
   have hh2:H1 a=some (.ins (He.ga C.K c) dx fv):=by rw [← B.hK]; exact hh
   exact ⟨a,_,dx,fv,w,ev,hh2,k1,k2,q1,h3.frz S1 q2⟩
end
section
variable {C:Cx} {S:Sc} {G:Gn} {W:WX} {e f b o:Expr} {es:List Expr} {pos apos cpos:Pos} {xa xb xc:X} {k:Nat} {sp:Sp} {m x:Str} {p:Pos} {a c:Addr} {fd:FuncData} {ps:List Str} {ta:TE} {t:TA}

theorem Rps.front {Y:Wd} {F:Fr} {ds:List D} {vs:List V} (r:Rps Y F ds vs):Rps Y F ds.dropLast vs.dropLast:=by
 rw [bK,bK,r.length]
 exact r.take _
theorem xy (hl:(apos.endLine == cpos.line)=true) (hn:cD o=true) (ha:PE C o (rd G.gm W xa)):PE C (.Call (.Attribute o "pop" apos) [] [] cpos) (rd G.gm W (.popl xa)):=by
 refine PE.imp (pe_bm0 PySem.F.plainAttrs_list PySem.F.slot_list_pop PySem.F.type_list_pop mt_pop ha (dS hn) hl) ?_
 rintro σ H Q ⟨g,l,s,SS,h⟩
 refine cu SS (show ValE G.gm W g σ l ((b7 G.fs G.gs xa l s).bind _) Q from h) fun d t s1 g1 v H1 e1 S1 v1 h1=>?_
 cases d with
 | loc n =>
  have h1:ValE G.gm W g1 σ l (match s1[n]? with
   | some (.obj (.lst es))=>match es[es.length - 1]? with
    | some d=>cg d (s1.set n (.obj (.lst es.dropLast)))
    | none=>.no
   | _=>.no) Q:=h1
  cases ec:s1[n]? with
  | none=>rw [ec] at h1; exact h1.elim
  | some q =>
   rw [ec] at h1
   cases q with
   | ins _ _=>exact h1.elim
   | fz=>exact h1.elim
   | obj d =>
    cases d with
    | lst ds =>
     obtain ⟨a,rfl,k,tp⟩:=S1.ce (v1.rd S1) ec
     cases tp with
     | lst hh r =>
      have h1:ValE G.gm W g1 σ l (match ds[ds.length - 1]? with
       | some d=>cg d (s1.set n (.obj (.lst ds.dropLast)))
       | none=>.no) Q:=h1
      cases ed:ds[ds.length - 1]? with
      | none=>rw [ed] at h1; exact h1.elim
      | some d =>
       rw [ed] at h1
       obtain ⟨w,hw,rw'⟩:=r.get ed
       refine ⟨.inl ⟨rfl,_,.inl (.inl hh)⟩,a,_,w,rfl,rfl,hh,by rw [← r.length]; exact hw,?_⟩
       exact h1 g1 _ _ (.refl g1) (S1.cwr k (au.mp ec).1 (.obj k (.lst upd_same r.front))) rw'
    | _=>exact h1.elim
 | _=>exact h1.elim
theorem xz (hl:(apos.endLine == cpos.line)=true) (hn:cD o=true) (hs:bZ f=true) (ha:PE C o (rd G.gm W xa)) (hk:PE C f (rd G.gm W xb)):PE C (.Call (.Attribute o "pop" apos) [f] [] cpos) (rd G.gm W (.popk xa xb)):=by
 refine PE.imp (pe_dpop1 ha hk ⟨dS hn,by rw [bY hs]; rfl,hl,by rw [bY hs]; rfl⟩) ?_
 rintro σ H Q ⟨g,l,s,SS,h⟩
 refine cu SS (show ValE G.gm W g σ l ((b7 G.fs G.gs xa l s).bind _) Q from h) fun d t s1 g1 v H1 e1 S1 v1 h1=>?_
 cases d with
 | loc n =>
  have h1:ValE G.gm W g1 σ l (match s1[n]? with
   | some (.obj (.dic false _))=>(b7 G.fs G.gs xb l s1).bind fun (y,_,s2)=>match s2[n]? with
    | some (.obj (.dic false kvs))=>if (D.keyOf y).isSome=true then match D.look kvs y with
     | some d=>cg d (s2.set n (.obj (.dic false (D.drop kvs y))))
     | none=>.no
     else .no
    | _=>.no
   | _=>.no) Q:=h1
  cases ec:s1[n]? with
  | none=>rw [ec] at h1; exact h1.elim
  | some q =>
   rw [ec] at h1
   cases q with
   | ins _ _=>exact h1.elim
   | fz=>exact h1.elim
   | obj d =>
    cases d with
    | dic b ds =>
     cases b with
     | true=>exact h1.elim
     | false =>
      obtain ⟨a,rfl,k,tp⟩:=S1.ce (v1.rd S1) ec
      cases tp with
      | dk hh r =>
       refine ⟨a,rfl,.inl ⟨_,.inl hh⟩,?_⟩
       have h1:ValE G.gm W g1 σ l ((b7 G.fs G.gs xb l s1).bind fun (y,_,s2)=>match s2[n]? with
        | some (.obj (.dic false kvs))=>if (D.keyOf y).isSome=true then match D.look kvs y with
         | some d=>cg d (s2.set n (.obj (.dic false (D.drop kvs y))))
         | none=>.no
         else .no
        | _=>.no) Q:=h1
       refine cu S1 h1 fun d2 t2 s2 g2 v2 H2 e2 S2 w1 h2=>?_
       have h2:ValE G.gm W g2 σ l (match s2[n]? with
        | some (.obj (.dic false kvs))=>if (D.keyOf d2).isSome=true then match D.look kvs d2 with
         | some d=>cg d (s2.set n (.obj (.dic false (D.drop kvs d2))))
         | none=>.no
         else .no
        | _=>.no) Q:=h2
       cases ec2:s2[n]? with
       | none=>rw [ec2] at h2; exact h2.elim
       | some q2 =>
        rw [ec2] at h2
        cases q2 with
        | ins _ _=>exact h2.elim
        | fz=>exact h2.elim
        | obj d3 =>
         cases d3 with
         | dic b3 ks =>
          cases b3 with
          | true=>exact h2.elim
          | false =>
           have h3:ValE G.gm W g2 σ l (if (D.keyOf d2).isSome=true then match D.look ks d2 with
            | some d=>cg d (s2.set n (.obj (.dic false (D.drop ks d2))))
            | none=>.no
            else .no) Q:=h2
           clear h2
           split at h3
           ·rename_i hk2
            obtain ⟨q3,hq⟩:=a0.mp hk2
            obtain ⟨a2,ea,k2,tp2⟩:=S2.ce ((v1.ext e2).rd S2) ec2
            cases ea
            cases tp2 with
            | dk hh2 r2 =>
             have ky:v2=kV q3:=by
              cases d2 with
              | int i=>cases (ad hq); exact (w1.rd S2).int
              | str i=>cases (ad hq); exact (w1.rd S2).str
              | _=>cases hq
             rcases r2.look hq with ⟨e4,_⟩ | ⟨d4,v4,e4,e5,r5⟩
             ·rw [e4] at h3
              exact h3.elim
             ·rw [e4] at h3
              refine ⟨_,q3,v4,hh2,ky,e5,?_⟩
              exact h3 g2 _ _ (.refl g2) (S2.cwr k2 (au.mp ec2).1 (.obj k2 (.dk upd_same (r2.drop hq)))) r5
           ·exact h3.elim
         | _=>exact h2.elim
    | _=>exact h1.elim
 | _=>exact h1.elim

theorem mT:∀ {es:List Expr} {env:Env} {pos:Pos},es.all bZ=true→(backTo pos (starEach es env)).all (fun z=>!z.1)=true
 | [],_,_,_=>rfl
 | e :: es,env,pos,h=>by
  rw [a5,ab] at h
  rw [bY h.1]
  show ((!false) && (backTo pos (starEach es env)).all (fun z=>!z.1))=true
  rw [mT h.2]
  rfl
theorem oG {M:Model} {A:Around} {env:Env} {s:Shared} {Q:Value→Shared→Prop} {E:Value→Shared→Prop} (hn:cD o=true) (hl:(apos.endLine == pos.line)=true) (hs:es.all bZ=true) (hf:es.length < 30)
  (h:wpAny M A (eval o env) (fun w s1=>wpAny M A (getMethod w m (do return (← importBound o env).getD true)) (fun fx s2=>wpAny M A (callWith pos fx.1 fx.2 (backTo pos (starEach es env)) []) Q E s2) E s1) E s) :
  wpAny M A (eval (.Call (.Attribute o m apos) es [] pos) env) Q E s:=by
 rw [arm_eval_Call,dS hn]
 refine wpAny_bind (wpAny_mono h (fun w s1 h1=>wpAny_bind (wpAny_standAt ?_)) fun _ _ x=>x)
 have hform:methodCallForm (es.length+([]:List Keyword).length) (backTo pos (starEach es env)) (backToKw pos (keywordEach [] env))=true:=by
  unfold methodCallForm
  rw [mT hs]
  show (true && true && decide (es.length+0+0 < 30))=true
  simpa using hf
 have hpos:methodCallPos true o env apos pos=pure pos:=by unfold methodCallPos; simp [hl]
 unfold methodCall
 rw [hform]
 exact wpAny_bind (wpAny_holding (wpAny_mono h1 (fun fx s2 h2=>wpAny_bind (wpAny_of_eq hpos h2)) fun _ _ x=>x))

def Fv (c:Addr) (m:Str) (sp:Sp) (W:WX) (ta:TE) (t:TA):TE:=fun σ H Q =>
 ta σ H fun v H1=>∃ a dx fv,v=.ref a∧H1 a=some (.ins c dx fv)∧fv.lookup m=none∧t σ H1 fun vs H2=>sp (v :: vs) H2 Q (WE W σ)
theorem xA (tk:Takes C W) (F:FnOk C.prog C.w C.K C.mg C.base (L2.CX C.prog C.w) k a fd ps sp) (hr:Room k C.A) (hc:L2.Cls C.K c) (hm:L2.Meth C.K c m a) (hb:Binds C.K fd ps []) (hn:cD o=true) (hl:(apos.endLine == pos.line)=true)
  (he:PE C o ta):PE C (.Call (.Attribute o m apos) [] [] pos) (Fv c m sp W ta tNil):=by
 refine ⟨fun pins s0 σ H Q I h=>oG hn hl rfl (by decide) (thn (he.run pins s0 σ H _ I h) ?_)⟩
 rintro u s1 ⟨v,H1,I1,rv,a2,dx,fv,ev,ea,lu,q⟩
 subst ev
 cases (show u=Value.ref a2 from rv)
 refine getmeth_ok I1 ea hc hm lu ?_
 exact PySem.W.callWith_K0 (first:=[.ref a2]) I1.kIn hm.kp (run_fnS (us:=[.ref a2]) (vs:=[.ref a2]) F hr hb (passAt tk σ) I1 #v[rfl] q)
theorem AG (tk:Takes C W) (F:FnOk C.prog C.w C.K C.mg C.base (L2.CX C.prog C.w) k a fd ps sp) (hr:Room k C.A) (hc:L2.Cls C.K c) (hm:L2.Meth C.K c m a) (hb:Binds C.K fd ps []) (hn:cD o=true) (hl:(apos.endLine == pos.line)=true) (hs:(e :: es).all bZ=true) (hf:(e :: es).length < 30)
  (he:PE C o ta) (ha:PA C (e :: es) t):PE C (.Call (.Attribute o m apos) (e :: es) [] pos) (Fv c m sp W ta t):=by
 refine ⟨fun pins s0 σ H Q I h=>oG hn hl hs hf (thn (he.run pins s0 σ H _ I h) ?_)⟩
 rintro u s1 ⟨v,H1,I1,rv,a2,dx,fv,ev,ea,lu,q⟩
 subst ev
 cases (show u=Value.ref a2 from rv)
 refine getmeth_ok I1 ea hc hm lu ?_
 rw [a5,ab] at hs
 refine PySem.W.callWith_K (first:=[.ref a2]) (h₀:=C.base) I1.ok.mod.kin hm.kp (thn (ha.run pos pins s1 σ H1 _ I1 q) ?_) (bY hs.1) (dh hs.2)
 rintro us s2 ⟨vs,H2,I2,r,q2⟩
 exact ⟨I2.kIn,run_fnS (us:=.ref a2 :: us) (vs:=.ref a2 :: vs) F hr hb (passAt tk σ) I2 (.cons rfl r) q2⟩

def Dn (c:Addr) (sp:Sp) (W:WX) (t:TA):TE:=fun σ H Q =>
 t σ H fun vs H1=>∀ y dy,H1 y=none→H1 dy=none→dy≠y→sp (.ref y :: vs) (upd (upd H1 dy (.own y)) y (.ins c dy [])) (fun v H2=>v=.non∧Q (.ref y) H2) (WE W σ)
theorem xB (tk:Takes C W) (M:L2.Mk C.K c a) (F:FnOk C.prog C.w C.K C.mg C.base (L2.CX C.prog C.w) k a fd ps sp) (hr:Room (k+1) C.A) (hg:Gl C x) (hx:C.mg x=some (.ref c)) (hb:Binds C.K fd ps []) (hd:(x == ("__debug__":Str))=false) (hs:bZ e=true) (hs2:es.all bZ=true)
  (ha:PA C (e :: es) t):PE C (.Call (.Name x p) (e :: es) [] pos) (Dn c sp W t):=by
 refine ⟨fun pins s0 σ H Q I h=>wpAny_Call_Name_kw (ld_glob I hg hx ?_ hd)⟩
 refine PySem.W.callWith_K (h₀:=C.base) I.ok.mod.kin M.kp (thn (ha.run pos pins s0 σ H _ I h) ?_) (bY hs) (dh hs2)
 rintro us s1 ⟨vs,H1,I1,r,q⟩
 refine ⟨I1.kIn,?_⟩
 have q1:=q (s1.heap.objs.size+1) s1.heap.objs.size (I1.hok.fresh (Nat.le_succ _)) (I1.hok.fresh (aA _)) (aT (Nat.lt_succ_self _))
 have J:=Inv.made (C:=c) I1
 have rs:Vals (V.ref (s1.heap.objs.size+1) :: vs) (Value.ref (s1.heap.objs.size+1) :: us):=.cons rfl r
 have hl:(Value.ref (s1.heap.objs.size+1) :: us).length=ps.length:=by rw [← rs.length]; exact F.len _ _ _ _ q1
 have bb:=hb { s1 with heap:=(s1.heap.push PySem.W.emptyDict).push (PySem.W.instObj c s1.heap.objs.size) } (Value.ref (s1.heap.objs.size+1) :: us) J.kIn (by rw [aX]; exact hl)
 rw [aX] at bb
 refine wpAny_call (make_map (f:=a) I1.kIn M.makes M.init (bS.mp M.fn) (codeAny_mono (F.run _ C.stack _ _ ⟨Value.ref (s1.heap.objs.size+1) :: us,[]⟩ _ _ _ (WE W σ) (hr.make c us []) (J.env0.make c us []) bb rs q1) ?_))
 intro res s2 hq
 cases res with
 | error ex=>exact passAt tk σ pins _ _ ex s2 J hq
 | ok fl =>
  cases fl with
  | ret u =>
   obtain ⟨v,H2,I2,rv,ev,q3⟩:=J.after hq
   subst ev
   exact ⟨rv,⟨V.ref (s1.heap.objs.size+1),H2,I2,rfl,q3⟩⟩
  | _=>exact False.elim hq

theorem pJ {F:Fn} {g1:Gh} {σ:L2.St} {H1:Hp} {l:Lc} {s1:cj} {ds:List D} {vs:List V} {Q:VK} (S1:SR G.Y g1 σ H1 l s1) (hs1:s1≠[]) (ar:ArgR G.Y ⟨g1.F,offB g1.F H1,g1.F.m⟩ F.kp ds vs)
  (h:match F.runS ds s1 with
   | .ok (d,t,s2)=>s2≠[]∧∀ g2 v H2,Ext g1 g2→SR G.Y g2 σ H2 l s2→VR G.Y g2 σ H2 l d t v→Q v H2
   | .er e s2 _=>s2≠[]∧∀ g2 H2 c dd,Ext g1 g2→SR G.Y g2 σ H2 l s2→wG G.mg e c dd H2→W c dd σ H2
   | .no=>False):gh G.Y G.mg F vs H1 Q (WE W σ):=by
 refine .inr ⟨g1.F,offB g1.F H1,ds,s1,hs1,pB,S1.sF,S1.stB hs1,ar,?_⟩
 cases er:F.runS ds s1 with
 | no=>rw [er] at h; exact h
 | er ee s2 _ =>
  rw [er] at h
  refine ⟨h.1,fun F' H' c2 dd sm sF ex st xr=>?_⟩
  obtain ⟨S2,e2⟩:=S1.callT hs1 h.1 sm sF ex st
  exact h.2 _ H' c2 dd e2 S2 xr
 | ok q =>
  obtain ⟨d,t,s2⟩:=q
  rw [er] at h
  refine ⟨h.1,fun F' H' v sm sF ex st rr=>?_⟩
  obtain ⟨S2,e2⟩:=S1.callT hs1 h.1 sm sF ex st
  refine h.2 _ v H' e2 S2 ?_
  cases t with
  | fr=>exact rr
  | bo=>exact rr.elim
  | ow=>exact rr.elim
  | nw =>
   obtain ⟨p',rfl,q1,q2,q3⟩:=rr
   refine ⟨p',rfl,q1,?_,q3,fun i d' k1 k2=>?_⟩
   ·cases z:g1.B p' with
    | none=>rfl
    | some u =>
     rw [S1.offB hs1 p' u z] at q2
     cases q2
   ·obtain ⟨tp,no⟩:=S1.own k1 k2
    obtain ⟨a',e',hp⟩:=tp.isRef
    cases e'
    rw [iz (no _ rfl).2.2] at q2
    rw [q2] at hp
    cases hp
theorem mU {F:Fn} {g1:Gh} {σ:L2.St} {H1:Hp} {l:Lc} {s1:cj} {ds:List D} {vs:List V} {Q:VK} (S1:SR G.Y g1 σ H1 l s1) (ar:s1≠[]→ArgR G.Y ⟨g1.F,offB g1.F H1,g1.F.m⟩ F.kp ds vs)
  (h:ValR G.gm W g1 σ (if s1=[] then .no else match F.runS ds s1 with
   | .ok (d,t,c :: s2)=>.ok (d,t,c :: s2)
   | .er e (c :: s2) _=>.er e (c :: s2) l
   | _=>.no) (KE G.gm σ l Q)):gh G.Y G.mg F vs H1 Q (WE W σ):=by
 by_cases hs1:s1=[]
 ·rw [ap hs1] at h
  exact h.elim
 rw [av hs1] at h
 refine pJ S1 hs1 (ar hs1) ?_
 cases er:F.runS ds s1 with
 | no=>rw [er] at h; exact h
 | er ee s2 _ =>
  rw [er] at h
  cases s2 with
  | nil=>exact h.elim
  | cons c s2=>exact ⟨by simp,fun g2 H2 c2 dd e2 S2 xr=>h g2 H2 c2 dd e2 S2 xr⟩
 | ok q =>
  obtain ⟨d,t,s2⟩:=q
  rw [er] at h
  cases s2 with
  | nil=>exact h.elim
  | cons c s2=>exact ⟨by simp,fun g2 v H2 e2 S2 rr=>h g2 e2 v H2 S2 rr⟩

theorem pK {σ:L2.St} {H:Hp} {c:Str} {j:Nat} {F:Fn} {Q Q2:VK} (ef:G.fs[j]?=some F) (h:rd G.gm W (.mth c m j xa xb) σ H Q)
  (hk:∀ g1 l s1 n v dx fv H1,SR G.Y g1 σ H1 l s1→Rp G.Y g1.F (.loc n) (.ref v)→H1 v=some (.ins (He.ga G.Y.K c) dx fv)→fv.lookup m=none →
   ValR G.gm W g1 σ ((ft G.fs G.gs xb F.kp.tail l s1).bind fun (ds,s2)=>if s2=[] then .no else match F.runS (.loc n :: ds) s2 with
    | .ok (d,t,c :: s3)=>.ok (d,t,c :: s3)
    | .er e (c :: s3) _=>.er e (c :: s3) l
    | _=>.no) (KE G.gm σ l Q)→Q2 (.ref v) H1):rd G.gm W xa σ H Q2:=by
 obtain ⟨g,l,s,SS,h⟩:=h
 refine cS SS (show ValR G.gm W g σ ((b7 G.fs G.gs xa l s).bind _) (KE G.gm σ l Q) from ValE.toR h) fun d t s1 g1 v H1 e1 S1 v1 h1=>?_
 have h1:ValR G.gm W g1 σ (match oh s1 c d with
  | some fv=>if (fv.lookup m).isSome=true then .no else match G.fs[j]? with
   | some f=>(ft G.fs G.gs xb f.kp.tail l s1).bind fun (ds,s2)=>if s2=[] then .no else match f.runS (d :: ds) s2 with
    | .ok (d,t,c :: s3)=>.ok (d,t,c :: s3)
    | .er e (c :: s3) _=>.er e (c :: s3) l
    | _=>.no
   | none=>.no
  | none=>.no) (KE G.gm σ l Q):=h1
 cases ec:oh s1 c d with
 | none=>rw [ec] at h1; exact h1.elim
 | some fs =>
  rw [ec] at h1
  obtain ⟨n,a,dx,fv,rfl,_,rfl,k,hh,hz,hr⟩:=S1.ci (v1.rd S1) ec
  have h2:ValR G.gm W g1 σ (if (fs.lookup m).isSome=true then .no else match G.fs[j]? with
   | some f=>(ft G.fs G.gs xb f.kp.tail l s1).bind fun (ds,s2)=>if s2=[] then .no else match f.runS (.loc n :: ds) s2 with
    | .ok (d,t,c :: s3)=>.ok (d,t,c :: s3)
    | .er e (c :: s3) _=>.er e (c :: s3) l
    | _=>.no
   | none=>.no) (KE G.gm σ l Q):=h1
  have hq:=hr m
  cases el:fs.lookup m with
  | some d'=>rw [el] at h2; exact h2.elim
  | none =>
   rw [el,ef] at h2
   rw [el] at hq
   exact hk g1 l s1 n a dx fv H1 S1 (.loc k.m) hh hq h2
theorem rR {c:Str} {j:Nat} {q:List Expr} (ef:G.fs[j]?=none) (hl:(apos.endLine == pos.line)=true) (hn:cD o=true) (he:PE C o (rd G.gm W xa)) (hs:q.all bZ=true) (hf:q.length < 30) :
  PE C (.Call (.Attribute o m apos) q [] pos) (rd G.gm W (.mth c m j xa xb)):=by
 refine ⟨fun pins s0 σ H Q I h=>oG hn hl hs hf (thn (he.run pins s0 σ H (fun _ _=>False) I ?_) fun u s1 ⟨_,_,_,_,z⟩=>z.elim)⟩
 obtain ⟨g,l,s,SS,h⟩:=h
 refine cS SS (show ValR G.gm W g σ ((b7 G.fs G.gs xa l s).bind _) (KE G.gm σ l Q) from ValE.toR h) fun d t s1 g1 v H1 e1 S1 v1 h1=>?_
 have h1:ValR G.gm W g1 σ (match oh s1 c d with
  | some fv=>if (fv.lookup m).isSome=true then .no else match G.fs[j]? with
   | some f=>(ft G.fs G.gs xb f.kp.tail l s1).bind fun (ds,s2)=>if s2=[] then .no else match f.runS (d :: ds) s2 with
    | .ok (d,t,c :: s3)=>.ok (d,t,c :: s3)
    | .er e (c :: s3) _=>.er e (c :: s3) l
    | _=>.no
   | none=>.no
  | none=>.no) (KE G.gm σ l Q):=h1
 rw [ef] at h1
 cases ec:oh s1 c d with
 | none=>rw [ec] at h1; exact h1.elim
 | some fs =>
  rw [ec] at h1
  have h2:ValR G.gm W g1 σ (if (fs.lookup m).isSome=true then .no else .no) (KE G.gm σ l Q):=h1
  split at h2 <;> exact h2.elim
theorem xC (B:Gd C S G W) (hh:S.hot=false) {c:Str} {j:Nat} (hj:(j,c,m)∈S.mt) (hl:(apos.endLine == pos.line)=true) (hn:cD o=true) (he:PE C o (rd G.gm W xa)) :
  PE C (.Call (.Attribute o m apos) [] [] pos) (rd G.gm W (.mth c m j xa .nil)):=by
 cases ef:G.fs[j]? with
 | none=>exact rR ef hl hn he rfl (by decide)
 | some F =>
  obtain ⟨a,fd,ps,hF,hc,hm,hb⟩:=B.mt hh j c m F hj ef
  refine PE.imp (xA B.tk hF (B.room hh) hc hm hb hn hl he) ?_
  rintro σ H Q h
  refine pK ef h fun g1 l s1 n v dx fv H1 S1 rv hh hq h2=>⟨v,dx,fv,rfl,(by rw [← B.hK]; exact hh),hq,?_⟩
  refine mU S1 (ds:=[.loc n]) (fun _=>⟨?_,trivial⟩) h2
  split
  ·exact rv
  ·exact .inl rv
theorem AH (B:Gd C S G W) (hh:S.hot=false) {c:Str} {j:Nat} (hj:(j,c,m)∈S.mt) (hl:(apos.endLine == pos.line)=true) (hn:cD o=true) (hs:(e :: es).all bZ=true) (hf:(e :: es).length < 30) (he:PE C o (rd G.gm W xa)) (ha:∀ kp,PA C (e :: es) (rJ G.gm W xb kp)) :
  PE C (.Call (.Attribute o m apos) (e :: es) [] pos) (rd G.gm W (.mth c m j xa xb)):=by
 cases ef:G.fs[j]? with
 | none=>exact rR ef hl hn he hs hf
 | some F =>
  obtain ⟨a,fd,ps,hF,hc,hm,hb⟩:=B.mt hh j c m F hj ef
  refine PE.imp (AG B.tk hF (B.room hh) hc hm hb hn hl hs hf he (ha F.kp.tail)) ?_
  rintro σ H Q h
  refine pK ef h fun g1 l s1 n v dx fv H1 S1 rv hh hq h2=>⟨v,dx,fv,rfl,(by rw [← B.hK]; exact hh),hq,?_⟩
  refine fX S1 h2 fun ds s2 g2 vs H2 e2 S2 r2 h3=>?_
  refine mU S2 (ds:=.loc n :: ds) (fun hs2=>⟨?_,r2.argT S2 hs2⟩) h3
  split
  ·exact rv.mono e2.f
  ·exact .inl (rv.mono e2.f)

theorem Do (B:Gd C S G W) (hh:S.hot=false) {c:Str} {j:Nat} {p:Pos} (hj:(j,c)∈S.mks) (hg:cP S.sc c=true) (hn:dZ c=true) (hs:bZ e=true) (hs2:es.all bZ=true) (ha:∀ kp,PA C (e :: es) (rJ G.gm W xa kp)) :
  PE C (.Call (.Name c p) (e :: es) [] pos) (rd G.gm W (.mk c j xa)):=by
 cases ef:G.fs[j]? with
 | none =>
  refine PE.imp (t:=fun _ _ _=>False) ⟨fun _ _ _ _ _ _ h=>h.elim⟩ ?_
  rintro σ H Q ⟨g,l,s,SS,h⟩
  have h:ValE G.gm W g σ l (b7 G.fs G.gs (.mk c j xa) l s) Q:=h
  simp only [b7,ef] at h
  exact h
 | some F =>
  obtain ⟨k,a,fd,ps,hk,hF,hM,hx,hb⟩:=B.mks hh j c F hj ef
  refine PE.imp (xB B.tk hM hF ((B.room hh).mono hk) (B.gl hg) hx hb (di hn) hs hs2 (ha F.kp.tail)) ?_
  rintro σ H Q ⟨g,l,s,SS,h⟩
  have h:ValE G.gm W g σ l (b7 G.fs G.gs (.mk c j xa) l s) Q:=h
  simp only [b7,ef] at h
  refine fX SS (show ValR G.gm W g σ ((ft G.fs G.gs xa F.kp.tail l s).bind _) (KE G.gm σ l Q) from ValE.toR h) fun ds s1 g1 vs H1 e1 S1 r1 h1=>?_
  intro y dy hy hd hne
  have h1:ValR G.gm W g1 σ (if s1=[] then .no else match F.runS (.loc s1.length :: ds) (s1++[.ins c []]) with
   | .ok (.non,.fr,c :: s2)=>.ok (.loc s1.length,.fr,c :: s2)
   | .er e (c :: s2) _=>.er e (c :: s2) l
   | _=>.no) (KE G.gm σ l Q):=h1
  by_cases hs1:s1=[]
  ·rw [ap hs1] at h1
   exact h1.elim
  rw [av hs1] at h1
  obtain ⟨g2,e2,S2,m2⟩:=S1.celI (c:=c) hs1 hy hd hne
  have S2:SR G.Y g2 σ (upd (upd H1 dy (.own y)) y (.ins (He.ga C.K c) dy [])) l (s1++[.ins c []]):=by rw [← B.hK]; exact S2
  have ar:ArgR G.Y ⟨g2.F,offB g2.F (upd (upd H1 dy (.own y)) y (.ins (He.ga C.K c) dy [])),g2.F.m⟩ F.kp (.loc s1.length :: ds) (.ref y :: vs):=by
   refine ⟨?_,(AR.ext e2 r1).argT S2 (by simp)⟩
   split
   ·exact .loc m2
   ·exact .inl (.loc m2)
  refine pJ S2 (by simp) ar ?_
  cases er:F.runS (.loc s1.length :: ds) (s1++[.ins c []]) with
  | no=>rw [er] at h1; exact h1
  | er ee s2 _ =>
   rw [er] at h1
   cases s2 with
   | nil=>exact h1.elim
   | cons c s2=>exact ⟨by simp,fun g3 H2 c2 dd e3 S3 xr=>h1 g3 H2 c2 dd (e2.trans e3) S3 xr⟩
  | ok q =>
   obtain ⟨d,t,s2⟩:=q
   rw [er] at h1
   cases s2 with
   | nil=>cases d <;> cases t <;> exact h1.elim
   | cons c s2 =>
    cases d with
    | non =>
     cases t with
     | fr =>
      refine ⟨by simp,fun g3 v H2 e3 S3 rr=>?_⟩
      obtain rfl:=RdV.non (H:=H2) (.inl (show Rp G.Y g3.F .non v from rr))
      exact ⟨rfl,h1 g3 (e2.trans e3) (.ref y) H2 S3 (.loc (e3.f.m _ _ m2))⟩
     | _=>exact h1.elim
    | _=>cases t <;> exact h1.elim
end
end GM


namespace GMS
open PySem PySem.Spec PyProof.Rows L2 HT GM
section
variable {prog:Program} {w:World} {A:Around} {E:Value→Shared→Prop} {s:Shared}
theorem oH (n:Nat):Builtin.Slice.sliceAdjust none none (-1) (n:Int)=((n:Int) - 1,-1):=by
 unfold Builtin.Slice.sliceAdjust
 have h1:((-1:Int) < 0):=by omega
 simp only [h1,if_true]
theorem oI (n:Nat):Builtin.Slice.slicePlaces ((n:Int) - 1) (-1) (-1)=n:=by
 unfold Builtin.Slice.slicePlaces
 have h1:¬ ((-1:Int) > 0):=by omega
 simp only [h1,if_false]
 have e:((n:Int) - 1 - -1 - 1) / - -1=(n:Int) - 1:=by
  rw [show (- -1:Int)=1 by decide,Int.ediv_one]
  omega
 split <;> omega
theorem mV {α β:Type} {f g:α→Option β}:∀ {l:List α},(∀ x∈l,f x=g x)→l.filterMap f=l.filterMap g
 | [],_=>rfl
 | x :: l,h=>by
  rw [List.filterMap_cons,List.filterMap_cons,h x List.mem_cons_self,mV fun y hy=>h y (List.mem_cons_of_mem _ hy)]
theorem rT (xs:Array Value):((List.range xs.size).filterMap fun (m:Nat)=>xs[((xs.size:Int) - 1+(m:Int)*-1).toNat]?).toArray=xs.toList.reverse.toArray:=by
 have e:(List.range xs.size).filterMap (fun (m:Nat)=>xs[((xs.size:Int) - 1+(m:Int)*-1).toNat]?)=((List.range xs.size).map fun k=>xs.size - 1 - k).filterMap (xs[·]?):=by
  rw [List.filterMap_map]
  refine mV fun m hm=>?_
  have:=List.mem_range.mp hm
  show xs[((xs.size:Int) - 1+(m:Int)*-1).toNat]?=xs[xs.size - 1 - m]?
  rw [show ((xs.size:Int) - 1+(m:Int)*-1).toNat=xs.size - 1 - m by omega]
 rw [e,PySem.W.krv_range,List.filterMap_reverse,PySem.W.krv_all]
theorem jD {sl:Addr} {vl vu vs:Value} {n:Nat} {Q:Int × Int × Nat→Shared→Prop} (hs:s.heap.IsSliceOf sl vl vu vs) (pl:IsPart vl none) (pu:IsPart vu none) (ps:IsPart vs (some (-1)))
  (h:Q ((n:Int) - 1,-1,n) s):wpAny (model prog w) A (Builtin.Slice.sliceApplied (.ref sl) (pure (n:Int))) Q E s:=by
 obtain ⟨os,hos,hcs,hds⟩:=id hs
 unfold Builtin.Slice.sliceApplied Builtin.Slice.sliceFields
 refine wpAny_bind (wpAny_bind (wpAny_field hos hds (x:=vl) rfl (wpAny_bind (wpAny_field hos hds (x:=vu) rfl (wpAny_bind (wpAny_field hos hds (x:=vs) rfl (wpAny_pure ?_)))))))
 refine wpAny_bind (slicePart_ ps ?_)
 show wpAny _ _ (if ((-1:Int) == 0)=true then _ else _) _ _ s
 rw [if_neg (by decide)]
 refine wpAny_bind (slicePart_ pl (wpAny_bind (slicePart_ pu (wpAny_bind (wpAny_pure ?_)))))
 show wpAny _ _ (match Builtin.Slice.sliceAdjust none none (-1) (n:Int) with | (lo,hi)=>pure (lo,(-1:Int),Builtin.Slice.slicePlaces lo hi (-1))) _ _ s
 rw [oH n]
 show wpAny _ _ (pure ((n:Int) - 1,(-1:Int),Builtin.Slice.slicePlaces ((n:Int) - 1) (-1) (-1))) _ _ s
 rw [oI]
 exact wpAny_pure h
theorem i8 {t sl:Addr} {items:Array Value} {vl vu vs:Value} {Q:Value→Shared→Prop} (ht:IsTup s.heap t items) (hs:s.heap.IsSliceOf sl vl vu vs) (pl:IsPart vl none) (pu:IsPart vu none) (ps:IsPart vs (some (-1)))
  (h:Q (.ref s.heap.objs.size) { s with heap:=s.heap.push { cls:=.type "tuple",data:=.seq items.toList.reverse.toArray } })
  (hsz:items.size≤sizeLine):wpAny (model prog w) A (getItem (.ref t) (.ref sl)) Q E s:=by
 have htake:sizeOk (.seq items.toList.reverse.toArray):=by
  show items.toList.reverse.toArray.size≤sizeLine
  rw [List.size_toArray,List.length_reverse,Array.length_toList]
  exact hsz
 obtain ⟨os,hos,hcs,hds⟩:=id hs
 have hTs:s.TypeIs (.ref sl) "slice":=⟨os,hos,hcs⟩
 unfold getItem
 try with_reducible refine wpAny_holding ?_
 first | refine wpAny_bind (wpAny_pure ?_) | skip
 refine wpAny_bind (wpAny_sequenceKey ht.typeIs (by decide) ?_)
 refine wpAny_bind (wpAny_callSpecial?_slot (name:=Str.ofString "__getitem__") ht.typeIs PyProof.Rows.slot_tuple_getitem
  (wpAny_call_entry PyProof.Rows.slot_tuple_getitem ht.typeIs entry_tuple_getitem ?_ (args_tuple_getitem _ _)))
 show wpAny _ _ (Builtin.Tuple.tupleItemsOf (.ref t) >>= _) _ _ s
 refine wpAny_bind (tupleItemsOf_ ht ?_)
 refine wpAny_bind (wpAny_typeOf hTs ?_)
 rw [if_pos (by decide)]
 refine wpAny_bind (jD hs pl pu ps ?_)
 have hno:¬ ((((items.size:Int) - 1) == 0 && (-1:Int) == 1 && items.size == items.size)=true):=by
  intro q
  rw [Bool.and_eq_true,Bool.and_eq_true] at q
  exact absurd (eq_of_beq q.1.2) (by decide)
 show wpAny _ _ (if ((((items.size:Int) - 1) == 0 && (-1:Int) == 1 && items.size == items.size)=true) then _ else _) _ _ s
 rw [if_neg hno,rT]
 first
  | exact wpAny_bind (m:=Builtin.Tuple.tupleExact _) (wpAny_newObj_type (wpAny_pure ⟨_,rfl,wpAny_pure h⟩) htake)
  | exact wpAny_bind (m:=Builtin.Tuple.tupleExact _) (wpAny_newObj_type (wpAny_bind (wpAny_pure (wpAny_pure ⟨_,rfl,wpAny_pure h⟩))) htake)
  | exact wpAny_bind (wpAny_bind (m:=Builtin.Tuple.tupleExact _) (wpAny_newObj_type (wpAny_pure (wpAny_pure ⟨_,rfl,wpAny_pure h⟩)) htake))
  | exact wpAny_bind (wpAny_bind (m:=Builtin.Tuple.tupleExact _) (wpAny_newObj_type (wpAny_pure ⟨_,rfl,wpAny_pure h⟩) htake))
end
section
variable {X:Cx}
def AI (K:PySem.W.Frag) (te:TE):TE:=fun σ H Q=>te σ H fun x H1=>∃ a xs,x=.ref a∧SqT K H1 a xs∧NT H1 xs.reverse Q
theorem pe_revT {e:Expr} {te:TE} {k:Nat} {p1 p2 p3 pos:Pos} (he:PE X e te):PE X (.Subscript e (.Slice none none (some (.UnaryOp .USub (.Constant (.int 1) k p1) p2)) p3) pos) (AI X.K te):=by
 refine ⟨fun pins s σ H Q I h=>?_⟩
 refine Subscript_ (thn (he.run pins s σ H _ I h) fun v s1 ⟨x,H1,I1,r1,q1⟩=>?_)
 obtain ⟨a,xs,ex,hx,q⟩:=q1
 subst ex
 cases r1
 have hst:PO X (some (.UnaryOp .USub (.Constant (.int 1) k p1) p2)) (tPart (tUn (rU fun i=>.int (-i)) (tC (.int 1)))):=po_some (pe_un un_neg pe_int)
 refine wpAny_Slice (thn (po_none.run pins s1 σ H1 (fun o H2=>o=none∧H2=H1) I1 ⟨rfl,rfl⟩) fun vl s2 ⟨l,H2,I2,pl,el,e2⟩=>?_)
 subst el e2
 refine thn (po_none.run pins s2 σ H2 (fun o H3=>o=none∧H3=H2) I2 ⟨rfl,rfl⟩) fun vu s3 ⟨u,H3,I3,pu,eu,e3⟩=>?_
 subst eu e3
 refine thn (hst.run pins s3 σ H3 (fun o H4=>o=some (-1)∧H4=H3) I3 ⟨1,rfl,-1,rfl,rfl,rfl⟩) fun vs s4 ⟨o,H4,I4,ps,eo,e4⟩=>?_
 subst eo e4
 have I5:Inv X pins σ H4 { s4 with heap:=s4.heap.push { cls:=.type "slice",data:=.fields #[vl,vu,vs] } }:=I4.kept (t':=s4.toks) fun b ob q=>Heap.get?_push_of_some _ q
 obtain ⟨its,r,ht,hz⟩:=I5.tuple hx
 have hlen:=r.length
 show wpAny (model X.prog X.w) X.A (subscriptTail e (.Slice none none (some (.UnaryOp .USub (.Constant (.int 1) k p1) p2)) p3) (.ref a) (.ref s4.heap.objs.size)) (EP X pins σ Q) X.xe { s4 with heap:=s4.heap.push { cls:=.type "slice",data:=.fields #[vl,vu,vs] } }
 refine tail_any (ops:=[.ref a,.ref s4.heap.objs.size]) ht.typeIs (PyProof.Rows.slot_tuple_getitem.lookup) ?_ (by with_unfolding_all rfl)
 refine i8 ht (Heap.IsSliceOf.new _ vl vu vs) pl pu ps ?_ (by rw [List.size_toArray]; omega)
 exact iZ I5 r.reverse (by rw [List.length_reverse]; exact hz) q
theorem iA {xs:List V} {us:List Value} (r:Vals xs us):∀ is:List Nat,Vals (is.filterMap (xs[·]?)) (is.filterMap (us[·]?))
 | []=>.nil
 | i :: is=>by
  rw [List.filterMap_cons,List.filterMap_cons]
  cases h:xs[i]? with
  | none =>
   rw [r.none_of h]
   exact iA r is
  | some x =>
   obtain ⟨u,h2,h3⟩:=r.get h
   rw [h2]
   exact .cons h3 (iA r is)
theorem mW {k:Int} (hk:0 < k) (n:Nat):sliceBounds none none (some k) n=(0,(n:Int),k):=by
 have h:k > 0:=hk
 simp [sliceBounds,h]
theorem qw {k:Int} (hk:0 < k) (its:List Value):slicePick its.toArray none none (some k)=(gZ k its).toArray:=by
 unfold slicePick gZ
 rw [List.size_toArray,mW hk]
 simp only [List.getElem?_toArray]
def Dq (K:PySem.W.Frag) (te:TE) (tk:TO):TE:=fun σ H Q=>te σ H fun x H1=>tk σ H1 fun o H2=>∃ a xs k,x=.ref a∧o=some k∧0 < k∧SqL K H2 a xs∧∀ p,H2 p=none→Q (.ref p) (upd H2 p (.lst (gZ k xs)))
theorem pe_stepL {e ke:Expr} {te:TE} {tk:TO} {p3 pos:Pos} (he:PE X e te) (hk:PO X (some ke) tk):PE X (.Subscript e (.Slice none none (some ke) p3) pos) (Dq X.K te tk):=by
 refine ⟨fun pins s σ H Q I h=>?_⟩
 refine Subscript_ (thn (he.run pins s σ H _ I h) fun v s1 ⟨x,H1,I1,r1,q1⟩=>?_)
 refine wpAny_Slice (thn (po_none.run pins s1 σ H1 (fun o H2=>o=none∧H2=H1) I1 ⟨rfl,rfl⟩) fun vl s2 ⟨l,H2,I2,pl,el,e2⟩=>?_)
 subst el e2
 refine thn (po_none.run pins s2 σ H2 (fun o H3=>o=none∧H3=H2) I2 ⟨rfl,rfl⟩) fun vu s3 ⟨u,H3,I3,pu,eu,e3⟩=>?_
 subst eu e3
 refine thn (hk.run pins s3 σ H3 _ I3 q1) fun vs s4 ⟨o,H4,I4,ps,a,xs,k,ex,eo,k0,hx,q⟩=>?_
 subst ex eo
 cases r1
 have I5:Inv X pins σ H4 { s4 with heap:=s4.heap.push { cls:=.type "slice",data:=.fields #[vl,vu,vs] } }:=I4.kept (t':=s4.toks) fun b ob q=>Heap.get?_push_of_some _ q
 obtain ⟨its,r,ht,hz⟩:=I5.list hx
 have hlen:=r.length
 show wpAny (model X.prog X.w) X.A (subscriptTail e (.Slice none none (some ke) p3) (.ref a) (.ref s4.heap.objs.size)) (EP X pins σ Q) X.xe { s4 with heap:=s4.heap.push { cls:=.type "slice",data:=.fields #[vl,vu,vs] } }
 refine tail_any (ops:=[.ref a,.ref s4.heap.objs.size]) ht.isList.typeIs (PySem.slot_list_getitem.lookup) ?_ (by with_unfolding_all rfl)
 refine wpAny_getItem_list_slice ht.isList (Heap.IsSliceOf.new _ vl vu vs) pl pu ps (by intro z; injection z with z; omega) ?_ (by rw [List.size_toArray]; omega)
 have hsz:=slicePick_size_le its.toArray none none (some k)
 rw [qw k0] at hsz ⊢
 have el:(gZ k xs).length=(gZ k its).length:=by
  unfold gZ
  rw [hlen]
  exact (iA r _).length
 refine ⟨.ref _,_,I5.laid (t':=s4.toks) (o:=.lst (gZ k xs)) (fun b ob q=>Heap.get?_push_of_some _ q) (Nat.le_refl _) ?_,rfl,q _ (I5.hok.fresh (Nat.le_refl _))⟩
 refine ⟨by rw [el]; rw [List.size_toArray,List.size_toArray] at hsz; omega,_,0,?_,Heap.get?_push_size _ rfl⟩
 unfold gZ
 rw [hlen]
 exact iA r _
end
end GMS

set_option maxHeartbeats 4000000

namespace GM
open PySem PySem.Spec PyProof.Rows L2

abbrev set0 (w:World):Obj:={ cls:=.type "set",dict:=none,data:=.set #[] 0 (.fresh 0 0 (!w.params.followText "set-order")) }
section
variable {P:Program} {w:World} {A:Around} {E:Value→Shared→Prop} {s:Shared}
theorem mX {l:Addr} {its:Array Value} (ns:List Int) {Q:Value→Shared→Prop} (nh:A.handled=none) (isl:s.heap.IsList l its) (isI:IntsAre its.toList ns) (few:ns.length+1 < scanBound)
  (fin:∀ (h':Heap) (tk c:Nat),SetR w h' s.heap.objs.size (fun j=>decide (j∈ns)) c→c≤ns.length→(∀ b o,s.heap.get? b=some o→h'.get? b=some o)→Q (.ref s.heap.objs.size) { s with heap:=h',toks:=tk }):wpAny (model P w) A (call (.type "set") [.ref l]) Q E s:=by
 have sz:its.size=ns.length:=by have q:=IntsAre.length isI; rw [aW] at q; exact q
 obtain ⟨c,tl,hmro⟩:=F.called_set.mro; have hmade:=F.called_set.made; have hsub:=F.called_set.sub
 refine wpAny_call (codeAny_of_tree (show wpAny _ _ (callAny (.type "set") _) _ _ _ from wpAny_pure ⟨Code.quiet_builtin _ (by symm),codeAny_builtin F.entry_type_call ?_⟩))
 rw [Around.under_plain (weight_type_call_type "set" [.ref l] []) rfl]
 have h1:=F.called_set.notType; have h2:=F.called_set.canCreate; have hct:=F.typeCall_set_1 (.ref l)
 repeat (any_goals (first | assumption | wp_step))
 refine codeAny_mono (code_set_led1 (.ref l) (E:=E) (Q₁:=fun ob t=>ob=.ref s.heap.objs.size∧t={ s with heap:=s.heap.push (set0 w) }) ⟨rfl,rfl⟩) fun r t hr=>?_
 cases r with
 | error e=>exact hr
 | ok fl =>
  cases fl with
  | ret ob =>
   obtain ⟨rfl,rfl⟩:=hr
   have at0:(s.heap.push (set0 w)).get? s.heap.objs.size=some (set0 w):=Heap.get?_push_size _ rfl
   have ty0:Shared.TypeIs { s with heap:=s.heap.push (set0 w) } (.ref s.heap.objs.size) "set":=⟨_,at0,rfl⟩
   have hli:=F.called_set.init.lookup; have hbi:=F.called_set.init.bind (.ref s.heap.objs.size)
   repeat (any_goals (first | assumption | wp_step))
   refine codeAny_mono (codeAny_call_builtin (R:=wants (fun r t2=>r=.none∧∃ h' tk c,t2={ s with heap:=h',toks:=tk }∧SetR w h' s.heap.objs.size (fun j=>decide (j∈ns)) c∧c≤ns.length∧(∀ b o,s.heap.get? b=some o→h'.get? b=some o)) E) F.called_set.init.plain F.entry_set_init (check_set_init_1 ty0 ?_)) fun r2 t2 hr2=>?_
   ·obtain ⟨⟨ocls,odict,odata,oslots⟩,hol,hcl,nl,hdl⟩:=isl
    simp only at hcl hdl; subst hcl; subst hdl
    have hol':(s.heap.push (set0 w)).get? l=some { cls:=.type "list",dict:=odict,data:=.seq its nl,slots:=oslots }:=Heap.get?_push_of_some _ hol
    have hsls:=F.sub_list_set; have hslf:=F.sub_list_frozenset; have hne:(Value.type "list" == Value.type "dict")=false:=by decide
    have isl1:(s.heap.push (set0 w)).IsList l its:=⟨_,hol',rfl,nl,rfl⟩
    unfold Builtin.«set.__init__» noKeywords Builtin.Frozenset.updateFrom
    generalize hPI:pyIter=PI
    wp_walk
    subst hPI
    refine wpAny_pyIter_list isl1 (wpAny_bind (wpAny_runValue ?_))
    have lS:l < s.heap.objs.size:=Heap.lt_size hol
    have nh3:A.in1.in1.in1.handled=none:=by simp [nh]
    have lI:l≠(s.heap.push (set0 w)).objs.size:=by rw [Heap.size_push]; exact aT (bv lS)
    have sF:s.heap.objs.size∉[(s.heap.push (set0 w)).objs.size,l]:=by
     rw [Heap.size_push]
     intro z
     rcases ax.mp z with z | z
     ·exact aT (Nat.lt_succ_self _) z
     ·exact Nat.ne_of_gt lS (ak.mp z)
    have vals:∀ (i:Nat) (v:Value),its[i]?=some v→∃ k t,ns[i]?=some k∧v=.int k t:=fun i v hv=>by
     have hi:i < ns.length:=by rw [← sz]; exact (bB.mp hv).1
     obtain ⟨t,e⟩:=PyProof.Rows.IntsAre.int_at isI i v (by rw [Array.getElem?_toList]; exact hv)
     exact ⟨ns[i],t,ah hi,by rw [e,List.getD_eq_getElem?_getD,ah hi] <;> rfl⟩
    refine set_update_ints ((Walks.list nh3 _ l lI its).toS) s.heap.objs.size sF ns sz few vals (its.size - 0) 0 _ (by omega) (aV _) ⟨⟨_,Heap.get?_push_size _ rfl,rfl,rfl⟩,(isl1.push _)⟩ ⟨0,aA 0,setR_new_at (Heap.get?_push_of_some _ at0)⟩ ?_
    intro s' c' hm hc' hS'
    obtain ⟨h',g2,d',tk',os'⟩:=s'
    have eg:g2=s.gens:=hm.gens
    have ed:d'=s.drawn:=hm.drawn
    have eo:os'=s.os:=hm.os
    subst eg; subst ed; subst eo
    refine (show wpAny _ _ _ _ _ _ from wpAny_pure (show wpAny _ _ (ret Value.none) _ _ _ from ?_))
    rw [sz] at hc'
    refine wpAny_pure ⟨rfl,h',tk',c',rfl,hS',hc',fun b o e=>?_⟩
    have b0:b < s.heap.objs.size:=Heap.lt_size e
    have b2:b≠(s.heap.push (set0 w)).objs.size:=by rw [Heap.size_push]; exact aT (bv b0)
    refine hm.heap b o (fun z=>?_) (Heap.get?_push_of_some _ (Heap.get?_push_of_some _ e))
    rcases ax.mp z with z | z
    ·exact aT b0 z
    ·exact b2 (ak.mp z)
   ·cases r2 with
    | error e=>exact hr2
    | ok fl2 =>
     cases fl2 with
     | ret r =>
      obtain ⟨rfl,h',tk,c',rfl,hS',hc',hk'⟩:=hr2
      repeat (any_goals (first | assumption | wp_step))
      exact fin _ _ _ hS' hc' hk'
     | _=>exact hr2.elim
  | _=>exact hr.elim
variable {a:Addr}
theorem oJ {S:Int→Bool} {n:Nat} {Q:Value→Shared→Prop} (R:SetR w s.heap a S n) (nh:A.handled=none)
  (fin:∀ s' p (out:List Value) (c:Nat) (ns:List Int),(∀ b o,s.heap.get? b=some o→s'.heap.get? b=some o)→s'.gens=s.gens→s'.os=s.os→s.heap.objs.size≤p→s'.heap.get? p=some (seqObj "list" out.toArray c)→IntsAre out ns→ns.Pairwise (· < ·)→(∀ k,k∈ns↔S k=true)→ns.length=n→Q (.ref p) s') :
  wpAny (model P w) A (call (.builtin "sorted") [.ref a]) Q E s:=by
 obtain ⟨o,es,ep,t,ho,hex,hd,g,nd,hm,hb,hf,hn,hr,hl⟩:=R
 refine Calls.call_function_entry kind_sorted plain_sorted entry_sorted (args_sorted1 _) (by
  unfold Builtin.«sorted»
  refine wpAny_bind (m:=checkCount "sorted" 1 1 _) (wpAny_pure (wpAny_bind (collect_set (A:=A.in1) nh ⟨o,ho,hex.1,hd⟩ hf hb hr hl fun s1 vs k1 hz g1 o1 pm=>?_)))
  have vl:vs.length=n:=by rw [pm.length_eq,ac,aW]; exact hn
  have big:=sizeLine_eq
  have few:vs.length≤sizeLine:=by
   have:scanBound≤1000000:=by decide
   omega
  have is:IntsAre vs (vs.map Builtin.Re.reRawOf):=ints_of vs fun v hv=>by
   obtain ⟨e,he,q⟩:=aP.mp (pm.mem_iff.mp hv)
   obtain ⟨k,tk,h1,_⟩:=g e he
   exact ⟨k,tk,by rw [← q]; exact h1⟩
  have pk:(vs.map Builtin.Re.reRawOf).Perm (es.toList.map keyOf):=by have q:=pm.map Builtin.Re.reRawOf; rw [bD] at q; exact q
  refine wpAny_bind (wpAny_newList ?_ few)
  have oL:(s1.heap.push (seqObj "list" vs.toArray 0)).get? s1.heap.objs.size=some (seqObj "list" vs.toArray 0):=Heap.get?_push_size _ rfl
  refine wpAny_bind (wpAny_holding (wpAny_call_entry slot_list_sort ⟨_,oL,rfl⟩ entry_list_sort (SrtO.list_sort_ord SrtO.swo_int oL few (fun h2=>SrtO.ints_sortable is h2) fun out h1 h2=>⟨_,rfl,?_⟩) (args_list_sort _)))
  obtain ⟨q1,q2,q3⟩:=SrtO.ints_out is h1 h2
  obtain ⟨c,hc⟩:=sortedHeap_at (vs:=vs) (out:=out.toArray) oL
  have pn:(out.map SrtO.iv).Perm (es.toList.map keyOf):=q2.trans pk
  refine wpAny_pure ⟨_,rfl,fin _ s1.heap.objs.size out c _ (fun b u e=>?_) g1 o1 hz hc q1 (lt_of_le_nodup _ q3 (pn.nodup_iff.mpr nd)) (fun k=>by rw [pn.mem_iff,← hm k]) ?_⟩
  ·have q:=k1 b u e
   have hlt:=Heap.lt_size q
   show (sortedHeap (s1.heap.push (seqObj "list" vs.toArray 0)) s1.heap.objs.size vs out.toArray).get? b=some u
   rw [sortedHeap_old (aT hlt) (by rw [size_push']; exact bv hlt)]
   exact Heap.get?_push_of_some _ q
  ·rw [pn.length_eq,ac,aW]; exact hn)
end
def rV (K:PySem.W.Frag) (w:World):List V→Hp→VK→Prop:=fun xs H Q=>∃ (l:Addr) (ns:List Int),xs=[V.ref l]∧SqL K H l (ns.map V.int)∧ns.length≤4000∧∀ (p:Addr) (c:Nat),H p=none→c≤ns.length→Q (.ref p) (upd H p (SetO w p (fun j=>decide (j∈ns)) c))
theorem ux {X:Cx} (hc:X.calm=true):CallR X (.type "set") (rV X.K X.w):=by
 intro pins s σ H vs us Q I r h
 obtain ⟨l,ns,rfl,hq,hl,q⟩:=h
 obtain ⟨its,rv,isl,hz⟩:=I.list hq
 rw [Vals.ref1 r]
 have hi:=rv.ints
 have hn:H s.heap.objs.size=none:=I.hok.fresh (aA _)
 refine mX (its:=its.toArray) ns (I.ok.hd hc) isl.isList hi (by unfold scanBound; omega) fun h' tk c R hcn k=>?_
 exact ⟨.ref s.heap.objs.size,upd H s.heap.objs.size (SetO X.w s.heap.objs.size (fun j=>decide (j∈ns)) c),I.call (ch:=[]) (Un.laid k (aA _) hn) (I.hok.laid k (aA _) (setO_new R)) I.bare (fun _ z=>nomatch z),rfl,q _ c hn hcn⟩
def rW (w:World):List V→Hp→VK→Prop:=fun vs H Q=>∃ (a:Addr) (S:Int→Bool) (n:Nat),vs=[V.ref a]∧H a=some (SetO w a S n)∧∀ (ns:List Int) (p:Addr),ns.Pairwise (· < ·)→(∀ k:Int,k∈ns↔S k=true)→ns.length=n→H p=none→Q (.ref p) (upd H p (.lst (ns.map V.int)))
theorem oK {X:Cx} (hc:X.calm=true):CallR X (.builtin "sorted") (rW X.w):=by
 intro pins s σ H vs us Q I r h
 obtain ⟨a,S,n,rfl,ha,q⟩:=h
 have R:=setO_get I ha
 have hs:n < scanBound:=by
  obtain ⟨o,es,ep,t,ho,hex,hd,g,nd,hm,hb,hf,hn,hr,hl⟩:=R
  rw [← hn]; exact hb
 rw [Vals.ref1 r]
 refine oJ R (I.ok.hd hc) fun s' p out c ns k g o hp hg hi hs2 hm hl=>?_
 have big:=sizeLine_eq
 have hlen:(ns.map V.int).length≤sizeLine:=by
  have:scanBound≤1000000:=by decide
  rw [ac,hl]
  omega
 have hn:H p=none:=I.hok.fresh hp
 have J:Inv X pins σ (upd H p (.lst (ns.map V.int))) { s with heap:=s'.heap,gens:=s'.gens,drawn:=s'.drawn,toks:=s'.toks }:=I.call (ch:=[]) (Un.laid k hp hn) (I.hok.laid k hp ⟨hlen,out,c,vals_of_ints hi,hg⟩) (by rw [g]; exact I.bare) (fun _ z=>nomatch z)
 have e:s'={ s with heap:=s'.heap,gens:=s'.gens,drawn:=s'.drawn,toks:=s'.toks }:=by cases s'; cases s; cases o; rfl
 rw [e]
 exact ⟨.ref p,_,J,rfl,q ns p hs2 hm hl hn⟩
end GM


namespace GN
open PySem PySem.Spec PyProof.Rows L2

inductive NumT (h:Heap):Nat→Value→Prop
 | num (n:Nat) (i:Int) (t:Tok):NumT h n (.int i t)
 | tup {n:Nat} {a:Addr} {o:Obj} {vs:Array Value} {m:Nat}:h.get? a=some o→o.cls=.type "tuple"→o.data=.seq vs m→(∀ v∈vs.toList,NumT h n v)→NumT h (n+1) (.ref a)
theorem NumT.keep {h h':Heap} (k:∀ a o vs m,h.get? a=some o→o.data=.seq vs m→h'.get? a=some o):∀ {n:Nat} {v:Value},NumT h n v→NumT h' n v
 | _,_,.num n i t=>.num n i t
 | _,_,.tup h1 h2 h3 h4=>.tup (k _ _ _ _ h1 h3) h2 h3 fun v hv=>(h4 v hv).keep k
section
variable {P:Program} {w:World} {s:Shared}

def Ans (P:Program) (w:World) (s:Shared) (p:Sem Bool) (b:Bool):Prop:=∀ (A:Around) (E:Value→Shared→Prop) (Q:Bool→Shared→Prop),Q b s→wpAny (model P w) A p Q E s
theorem Ans.pure {b:Bool}:Ans P w s (pure b) b:=fun _ _ _ q=>wpAny_pure q

theorem Ans.tree {f:Nat→Value→Sem Bool} {b:Bool} (h1:∀ n i t,f n (.int i t)=Pure.pure b)
  (h2:∀ (n:Nat) (a:Addr) (o:Obj) (vs:Array Value) (m:Nat),s.heap.get? a=some o→o.cls=.type "tuple"→o.data=.seq vs m→(∀ v∈vs.toList,Ans P w s (f n v) b)→Ans P w s (f (n+1) (.ref a)) b) :
  ∀ {n:Nat} {v:Value},NumT s.heap n v→Ans P w s (f n v) b
 | _,_,.num n i t=>by rw [h1]; exact .pure
 | _,_,.tup e1 e2 e3 e4=>h2 _ _ _ _ _ e1 e2 e3 fun v hv=>Ans.tree h1 h2 (e4 v hv)

theorem Ans.walk {vs:Array Value} {b:Bool} {f:Value→Sem Bool} {g:Value→Option Bool × Unit→Sem (ForInStep (Option Bool × Unit))} {A:Around} {E:Value→Shared→Prop} {Q:Option Bool × Unit→Shared→Prop} (h:∀ v∈vs.toList,Ans P w s (f v) b)
  (hg:∀ (v:Value) (E:Value→Shared→Prop) (Q:ForInStep (Option Bool × Unit)→Shared→Prop),Ans P w s (f v) b→Q (.yield (none,())) s→wpAny (model P w) A (g v (none,())) Q E s) (q:Q (none,()) s) :
  wpAny (model P w) A (forIn vs (none,()) g) Q E s:=by
 rw [← Array.forIn_toList]
 refine wpAny_forIn_list _ (fun rest r s'=>r=(none,())∧s'=s∧∀ v∈rest,Ans P w s (f v) b) _ ?_ ?_ _ _ ⟨rfl,rfl,h⟩
 ·rintro v rest r s' ⟨rfl,rfl,hall⟩
  exact hg v _ _ (hall v List.mem_cons_self) ⟨rfl,rfl,fun y hy=>hall y (List.mem_cons_of_mem _ hy)⟩
 ·rintro r s' ⟨rfl,rfl,_⟩
  exact q
theorem mY {n:Nat} {v:Value} (h:NumT s.heap n v):Ans P w s (ofAClassStatement n v) false :=
 Ans.tree (fun n i t=>by cases n <;> rfl) (fun n a o vs m e1 e2 e3 hall A E Q q=>by
  have hT:s.TypeIs (.ref a) "tuple":=⟨o,e1,e2⟩
  unfold ofAClassStatement
  refine wpAny_bind (wpAny_typeOf hT ?_)
  dsimp only
  have e:(("tuple":String) == "tuple")=true:=by decide
  simp only [e,if_true,Bool.not_true,Bool.false_eq_true,if_false]
  try refine wpAny_bind (wpAny_pure ?_)
  try simp only [Bool.not_true,Bool.false_eq_true,if_false]
  show wpAny _ _ (seqItems? (.ref a) >>= _) _ _ s
  refine wpAny_bind (wpAny_seqItems e1 e3 ?_)
  dsimp only
  refine wpAny_bind (Ans.walk (f:=ofAClassStatement n) (b:=false) hall (fun v E' Q' hv hq=>?_) (wpAny_pure q))
  refine wpAny_bind (hv _ _ _ ?_)
  simp only [Bool.false_eq_true,if_false]
  exact wpAny_pure hq) h
theorem lh {n:Nat} {v:Value} (h:NumT s.heap n v):Ans P w s (hashByValue n v) true :=
 Ans.tree (fun n i t=>by cases n <;> rfl) (fun n a o vs m e1 e2 e3 hall A E Q q=>by
  have hT:s.TypeIs (.ref a) "tuple":=⟨o,e1,e2⟩
  unfold hashByValue
  refine wpAny_bind (wpAny_specialOf hT F.slot_tuple_hash.lookup ?_)
  show wpAny _ _ (seqItems? (.ref a) >>= _) _ _ s
  refine wpAny_bind (wpAny_seqItems e1 e3 ?_)
  refine wpAny_bind ?_
  show wpAny _ _ (forIn vs _ _) _ _ s
  refine (Ans.walk (f:=hashByValue n) (b:=true) hall (fun v E' Q' hv hq=>?_) (wpAny_pure q))
  refine wpAny_bind (hv _ _ _ ?_)
  simp only [Bool.not_true,Bool.false_eq_true,if_false]
  exact wpAny_pure hq) h

structure NumK (h:Heap) (k:NestedKey) (a:Addr):Prop where
 is_:NestedIs h k (.ref a)
 d:k.depth≤8
 t:NumT h 8 (.ref a)
theorem NumK.keep {h h':Heap} {k:NestedKey} {a:Addr} (x:NumK h k a) (kp:∀ a o vs m,h.get? a=some o→o.data=.seq vs m→h'.get? a=some o):NumK h' k a:=⟨x.is_.at kp _ _,x.d,x.t.keep kp⟩
theorem NumK.kind {h:Heap} {k:NestedKey} {a:Addr} (x:NumK h k a):(nestedKind P w).is h k a:=⟨x.is_,x.d⟩

theorem qx {k:NestedKey} {b:Addr} (hk:NumK s.heap k b) {ys:List Value} (hy:∀ y∈ys,∃ k' c,y=Value.ref c∧NumK s.heap k' c):Ans P w s (searchCouldBeSeen (.ref b) ys) false:=fun A E Q q=>by
 unfold searchCouldBeSeen
 refine wpAny_bind ?_
 refine wpAny_forIn_list _ (fun rest r s'=>r.1=none∧s'=s∧∀ y∈rest,∃ k' c,y=Value.ref c∧NumK s.heap k' c) _ ?_ ?_ _ _ ⟨rfl,rfl,hy⟩
 ·rintro v rest r s' ⟨hr,rfl,hall⟩
  obtain ⟨k',c,rfl,hc⟩:=hall v List.mem_cons_self
  have go:∀ y∈rest,∃ k' c,y=Value.ref c∧NumK s'.heap k' c:=fun u hu=>hall u (List.mem_cons_of_mem _ hu)
  dsimp only
  by_cases hv:(b == c || (carriedByValue (.ref b) && carriedByValue (.ref c)))=true
  ·exact wp_if_pos hv (wpAny_pure ⟨rfl,rfl,go⟩)
  ·refine wp_if_neg hv (wpAny_bind ((nestedKind P w).quiet hk.kind ?_))
   simp only [Bool.not_true,Bool.false_eq_true,if_false]
   refine wpAny_bind ((nestedKind P w).quiet hc.kind ?_)
   simp only [Bool.not_true,Bool.false_eq_true,if_false]
   refine wpAny_bind (mY hk.t _ _ _ ?_)
   simp only [Bool.false_eq_true,if_false]
   refine wpAny_bind (mY hc.t _ _ _ ?_)
   simp only [Bool.false_eq_true,if_false]
   exact wpAny_pure ⟨rfl,rfl,go⟩
 ·rintro ⟨r1,r2⟩ s' ⟨hr,rfl,_⟩
  simp only at hr
  subst hr
  exact wpAny_pure q
end
end GN


namespace GN
open PySem PySem.Spec PyProof.Rows L2
abbrev iJ:=Addr × NestedKey

def tW (w:World) (p:iJ):Int × Value:=(p.2.hash w,.ref p.1)

structure SetN (w:World) (h:Heap) (a:Addr) (L:List iJ) (es:Array (Int × Value)) (ep:Nat) (t:SetTable):Prop where
 ob:∃ o,h.get? a=some o∧o.ExactSet∧o.data=.set es ep t
 rows:es.toList=L.map (tW w)
 tab:TabOk t (L.map fun p=>p.2.hash w)
 keys:∀ p∈L,NumK h p.2 p.1
 plain:t.plain=true
 led:w.params.followText "set-order"=true∨t.led=true
 room:L.length*5 < t.mask*3
 few:L.length < 64
theorem esz {w:World} {L:List iJ} {es:Array (Int × Value)} (h:es.toList=L.map (tW w)):es.size=L.length:=by
 rw [← Array.length_toList,h,List.length_map]
theorem Fw {w:World} {L:List iJ} {es:Array (Int × Value)} (h:es.toList=L.map (tW w)) {i:Nat} {p:iJ} (hp:L[i]?=some p):es[i]?=some (tW w p):=by
 rw [← Array.getElem?_toList,h,List.getElem?_map,hp]
 rfl
theorem pL {t:SetTable} {n:Nat} (h1:t.place.size=n) (h2:t.dummies=#[]) (h3:n≤t.mask):t.fits n=true:=by
 unfold SetTable.fits SetTable.fill
 rw [h2,Bool.and_eq_true,beq_iff_eq,decide_eq_true_eq]
 exact ⟨h1,by rw [h1]; exact h3⟩
theorem rX (m:Nat):∀ (n:Nat) (p:SetTable.Probe),p.dummy=none→(nth m p n).dummy=none
 | 0,_,h=>h
 | n+1,p,h=>rX m n (adv m p) (by unfold adv; split <;> exact h)

abbrev wl (t:SetTable) (h:Int) (c:Nat):SetTable.Probe:=nth t.mask (runAt t.mask (SetTable.bits h % (t.mask+1)) (SetTable.bits h)) c
section
variable {P:Program} {w:World} {A:Around} {E:Value→Shared→Prop} {s:Shared} {a:Addr} {L:List iJ} {es:Array (Int × Value)} {ep:Nat} {t:SetTable}
theorem SetN.fits (R:SetN w s.heap a L es ep t):t.fits es.size=true:=by
 have h1:=R.tab.sz
 have h2:=R.room
 rw [List.length_map] at h1
 rw [esz R.rows]
 exact pL h1 R.tab.dm (by omega)
theorem SetN.gw (R:SetN w s.heap a L es ep t):¬ t.gaveWay=true:=by
 unfold SetTable.gaveWay
 rw [mask_odd R.tab.mok]
 decide

theorem li (R:SetN w s.heap a L es ep t) {x:Addr} {k:NestedKey} (hx:NumK s.heap k x) (hk:k∉L.map (·.2)) (hu:A.units+8 < cLine) {K:Nat} (hK:way t.mask (k.hash w) K∉t.place.toList) (hKb:∀ c,c < K→way t.mask (k.hash w) c∈t.place.toList) (hz:K < 10*SetTable.turns t.mask)
  {Q:SetFound→Shared→Prop} (q:Q (.free (way t.mask (k.hash w) K) false) s):∀ (f c:Nat) (st:Option SetTable.Probe),st.getD (t.probeStart (k.hash w))=wl t (k.hash w) c→c≤K→K - c < f→wpAny (model P w) A (setSearchFrom a (.ref x) (k.hash w) true f st) Q E s
 | 0,_,_,_,_,hf=>absurd hf (Nat.not_lt_zero _)
 | f+1,c,st,hst,hc,hf=>by
  obtain ⟨o,ho,hex,hd⟩:=R.ob
  have step:∀ n,nth t.mask (wl t (k.hash w) c) n=wl t (k.hash w) (c+n):=fun n=>(nth_add t.mask c _ n).symm
  have stepj:∀ n,(nth t.mask (wl t (k.hash w) c) n).j=way t.mask (k.hash w) (c+n):=fun n=>congrArg SetTable.Probe.j (step n)
  have end_:c+(K - c)=K:=by omega
  rw [setSearchFrom_succ]
  refine wpAny_bind (wpAny_setState_of ho hd R.fits ?_)
  dsimp only
  refine wp_if_neg R.gw ?_
  try refine wpAny_bind (wpAny_pure ?_)
  rcases go_spec t R.tab.ris R.tab.dm (fun i=>(es[i]?.map (·.1)).getD 0) (k.hash w) (10*SetTable.turns t.mask) (K - c) (wl t (k.hash w) c) (rX _ _ _ rfl) (by omega)
   (fun n hn=>by rw [stepj]; exact hKb _ (by omega)) (by rw [stepj,end_]; exact hK) with ⟨n,i,hn,hi,_,_,hpr⟩ | ⟨_,hpr⟩
  ·have hpr2:t.probe (fun i=>(es[i]?.map (·.1)).getD 0) (k.hash w) (st.getD (t.probeStart (k.hash w)))=some (.candidate (way t.mask (k.hash w) (c+n)) i (wl t (k.hash w) (c+(n+1)))):=by
    rw [hst,← stepj,← step]
    exact hpr
   rw [hpr2]
   dsimp only
   rw [stepj] at hi
   obtain ⟨p,hp⟩:∃ p,L[i]?=some p:=by
    have h1:=(List.getElem?_eq_some_iff.mp hi).1
    have h2:=R.tab.sz
    rw [List.length_map] at h2
    rw [Array.length_toList,h2] at h1
    exact ⟨_,List.getElem?_eq_getElem h1⟩
   have pm:=List.mem_of_getElem? hp
   have ne:p.2≠k:=fun e=>hk (List.mem_map.mpr ⟨p,pm,e⟩)
   have sl:t.slot (way t.mask (k.hash w) (c+n))=.live i:=slot_live R.tab.ris hi
   have on:wpAny (model P w) A (searchRest a (.ref x) (k.hash w) true f es t (way t.mask (k.hash w) (c+n)) i (wl t (k.hash w) (c+(n+1)))) Q E s:=by
    unfold searchRest
    rw [Fw R.rows hp]
    dsimp only [tW]
    refine wpAny_bind (wpAny_holding ((nestedKind P w).eqBool hu (R.keys p pm).kind hx.kind ?_))
    refine wpAny_bind (wpAny_setState_of ho hd R.fits ?_)
    dsimp only
    refine wp_if_neg (by simp [ne]) ?_
    try refine wpAny_bind (wpAny_pure ?_)
    rw [sameMem]
    dsimp only
    simp only [if_true,sl,Fw R.rows hp,tW]
    refine wpAny_bind (wpAny_isSame_ref_self (wpAny_bind (wpAny_pure ?_)))
    simp only [if_true]
    refine wp_if_neg (by simp [ne]) ?_
    exact li R hx hk hu hK hKb hz q f (c+(n+1)) _ rfl (by omega) (by omega)
   by_cases hl:t.led=true
   ·refine wp_if_neg (by simp [hl]) ?_
    try refine wpAny_bind (wpAny_pure ?_)
    exact on
   ·refine wp_if_pos (by simp [hl]) (wpAny_bind (qx hx (fun y hy=>?_) _ _ _ ?_))
    ·obtain ⟨e,he,rfl⟩:=List.mem_map.mp hy
     have he1:e∈es∧e.1=k.hash w:=by simpa using he
     have he2:e∈es.toList:=by simpa using he1.1
     rw [R.rows] at he2
     obtain ⟨p2,hp2,rfl⟩:=List.mem_map.mp he2
     exact ⟨p2.2,p2.1,rfl,R.keys p2 hp2⟩
    ·refine wp_if_neg (by decide) ?_
     try refine wpAny_bind (wpAny_pure ?_)
     exact on
  ·have hpr2:t.probe (fun i=>(es[i]?.map (·.1)).getD 0) (k.hash w) (st.getD (t.probeStart (k.hash w)))=some (.empty (way t.mask (k.hash w) K) none):=by
    have e:way t.mask (k.hash w) K=(nth t.mask (wl t (k.hash w) c) (K - c)).j:=by rw [stepj,end_]
    rw [hst,e]
    exact hpr
   rw [hpr2]
   exact wpAny_pure q

theorem uy (R:SetN w s.heap a L es ep t) {x:Addr} {k:NestedKey} (hx:NumK s.heap k x) (hk:k∉L.map (·.2)) (hu:A.units+8 < cLine) {Q:SetFound→Shared→Prop}
  (q:∀ K,way t.mask (k.hash w) K∉t.place.toList→(∀ c,c < K→way t.mask (k.hash w) c∈t.place.toList)→Q (.free (way t.mask (k.hash w) K) false) s):wpAny (model P w) A (setSearch a (.ref x) (k.hash w) true) Q E s:=by
 have room:=R.room
 obtain ⟨K,h1,h2,h3⟩:=R.tab.first (by rw [List.length_map]; omega) (k.hash w)
 have big:10*SetTable.turns t.mask≤1420:=by
  unfold SetTable.turns
  rcases R.tab.mok with e | e | e <;> omega
 unfold setSearch
 exact li R hx hk hu h2 h3 h1 (q K h2 h3) 100000 0 none rfl (Nat.zero_le _) (by omega)
end
end GN


namespace GN
open PySem PySem.Spec PyProof.Rows L2
theorem mZ {α:Type} (L:List α):∀ n,n≤L.length→(List.range n).filterMap (fun i=>L[i]?)=L.take n
 | 0,_=>rfl
 | n+1,h=>by
  rw [List.range_succ,List.filterMap_append,mZ L n (by omega),List.take_succ,List.filterMap_cons_some (List.getElem?_eq_getElem (show n < L.length from h)),List.getElem?_eq_getElem (show n < L.length from h)]
  rfl
theorem m5 {α:Type} (f:α→Int × Value) (L:List α) (es:Array (Int × Value)) (h:es.toList=L.map f):∀ l:List Nat,(∀ i∈l,i < L.length)→l.filterMap (fun i=>es[i]?)=(l.filterMap fun i=>L[i]?).map f∧(l.filterMap fun i=>L[i]?).map (fun p=>(f p).1)=l.map fun i=>(es.map (·.1)).getD i 0
 | [],_=>⟨rfl,rfl⟩
 | i :: l,hl=>by
  obtain ⟨e1,e2⟩:=m5 f L es h l fun j hj=>hl j (List.mem_cons_of_mem _ hj)
  have hi:=hl i List.mem_cons_self
  have hL:L[i]?=some L[i]:=List.getElem?_eq_getElem hi
  have hE:es[i]?=some (f L[i]):=by
   rw [← Array.getElem?_toList,h,List.getElem?_map,hL]
   rfl
  have hG:(es.map (·.1)).getD i 0=(f L[i]).1:=by
   have e5:(es.map (·.1))[i]?=some (f L[i]).1:=by rw [Array.getElem?_map,hE]; rfl
   simp [Array.getD_eq_getD_getElem?,e5]
  rw [List.filterMap_cons_some hE,List.filterMap_cons_some hL,List.map_cons,List.map_cons,List.map_cons,e1,e2,hG]
  exact ⟨rfl,rfl⟩

theorem uz {α:Type} (f:α→Int × Value) (L:List α) (es:Array (Int × Value)) (order:Array Nat) (h:es.toList=L.map f) (hp:order.toList.Perm (List.range L.length)) :
  ∃ L2:List α,(order.filterMap (es[·]?)).toList=L2.map f∧L2.Perm L∧L2.map (fun p=>(f p).1)=order.toList.map fun i=>(es.map (·.1)).getD i 0:=by
 obtain ⟨e1,e2⟩:=m5 f L es h order.toList fun i hi=>List.mem_range.mp (hp.mem_iff.mp hi)
 refine ⟨order.toList.filterMap fun i=>L[i]?,by first | (rw [Array.toList_filterMap]; exact e1) | simpa using e1,?_,e2⟩
 have q:=hp.filterMap fun i=>L[i]?
 rw [mZ L L.length (Nat.le_refl _),List.take_length] at q
 exact q
section
variable {P:Program} {w:World} {A:Around} {E:Value→Shared→Prop} {s:Shared} {a:Addr} {L:List iJ} {es:Array (Int × Value)} {ep:Nat} {t:SetTable}

theorem kG {h h':Heap} {o:Obj} (ho:h.get? a=some o) (hd:o.data=.set es ep t) (sb:Heap.SameBut a h h'):∀ b u vs m,h.get? b=some u→u.data=.seq vs m→h'.get? b=some u:=fun b u vs m hb hs =>
 (sb.2 b fun e=>by
  rw [e,ho] at hb
  cases hb
  rw [hd] at hs
  cases hs).trans hb
theorem uA {o:Obj} (ho:s.heap.get? a=some o) (hex:o.ExactSet) (hd:o.data=.set es ep t) (rows:es.toList=L.map (tW w)) (h1:t.place.size=es.size) (h2:t.dummies=#[]) (h3:es.size≤t.mask)
  (keys:∀ p∈L,NumK s.heap p.2 p.1) (pl:t.plain=true) (ld:w.params.followText "set-order"=true∨t.led=true) (few:L.length < 64) {wanted M:Nat} (hw:SetTable.sizeAbove wanted - 1=M) (hM:MaskOk M) (hz:SetTable.sizeAbove wanted≤128) (hn:L.length*5 < M*3)
  {Q:Unit→Shared→Prop} (q:∀ h' L' es' ep' t',Heap.SameBut a s.heap h'→SetN w h' a L' es' ep' t'→L'.Perm L→Q () { s with heap:=h' }):wpAny (model P w) A (setRelay a wanted) Q E s:=by
 have sz:=esz rows
 obtain ⟨t',order,e,hp,T,em,el,ep',ed⟩:=relaid_ok t (hs:=es.map (·.1)) (wanted:=wanted) hw hM (by rw [Array.size_map,sz]; omega)
 rw [Array.size_map,sz] at hp
 obtain ⟨L2,r1,r2,r3⟩:=uz (tW w) L es order rows hp
 have T:TabOk t' (L2.map fun p=>p.2.hash w):=by
  rw [show (L2.map fun p:iJ=>p.2.hash w)=L2.map (fun p=>(tW w p).1) from rfl,r3]
  exact T
 have sz2:(order.filterMap (es[·]?)).size=es.size:=by rw [esz r1,r2.length_eq,sz]
 rw [setRelay_eq]
 refine wpAny_bind (wpAny_setState_of ho hd (pL h1 h2 h3) ?_)
 dsimp only
 refine wp_if_neg (by rw [sizeLine_eq]; omega) ?_
 try refine wpAny_bind (wpAny_pure ?_)
 rw [e]
 dsimp only
 refine wpAny_bind (wp_if_neg (by rw [sz2]; simp) ?_)
 try refine wpAny_bind (wpAny_pure ?_)
 refine wpAny_pure ?_
 dsimp only
 have sb:Heap.SameBut a s.heap (s.heap.update a (Obj.putSet (order.filterMap (es[·]?)) t')):=Heap.SameBut.update ..
 exact wpAny_storeSet_of ho hd (q _ L2 (order.filterMap (es[·]?)) (ep+1) t' sb ⟨⟨_,store_at ho hd,⟨hex.1,hex.2.1,hex.2.2⟩,rfl⟩,r1,T,fun p hm=>(keys p (r2.mem_iff.mp hm)).keep (kG ho hd sb),by rw [ep']; exact pl,by rw [el]; exact ld,by rw [r2.length_eq,em]; exact hn,by rw [r2.length_eq]; exact few⟩ r2) (by rw [sz2,sz,sizeLine_eq]; omega)
theorem pM {α β:Type} (f:α→β) (L:List α) (p:Nat) (x:α):(L.take p++x :: L.drop p).map f=(L.map f).take p++f x :: (L.map f).drop p:=by
 rw [List.map_append,List.map_cons,List.map_take,List.map_drop]
theorem rY {α:Type} (L:List α) (p:Nat) (x:α):(L.take p++x :: L.drop p).Perm (x :: L):=by
 have h:(L.take p++x :: L.drop p).Perm (x :: (L.take p++L.drop p)):=List.perm_middle
 rw [List.take_append_drop] at h
 exact h

theorem AJ (R:SetN w s.heap a L es ep t) {x:Addr} {k:NestedKey} (hx:NumK s.heap k x) (hk:k∉L.map (·.2)) (hu:A.units+8 < cLine) (few:L.length+1 < 64) {Q:Bool→Shared→Prop}
  (q:∀ b h' L' es' ep' t',Heap.SameBut a s.heap h'→SetN w h' a L' es' ep' t'→L'.Perm ((x,k) :: L)→Q b { s with heap:=h' }):wpAny (model P w) A (setAddHashed a (.ref x) (k.hash w)) Q E s:=by
 obtain ⟨o,ho,hex,hd⟩:=R.ob
 have sz:=esz R.rows
 have room:=R.room
 unfold setAddHashed
 refine wpAny_holding ?_
 rw [show (100000:Nat)=99999+1 from rfl,setAddHashedIn_succ]
 refine wpAny_bind (wpAny_setState_of ho hd R.fits ?_)
 dsimp only
 refine wp_if_neg (by simp [byScan,Value.scannable]) ?_
 try refine wpAny_bind (wpAny_pure ?_)
 refine wpAny_bind (uy R hx hk hu fun K hK hb=>?_)
 dsimp only
 refine wpAny_bind (wpAny_setState_of ho hd R.fits ?_)
 dsimp only
 obtain ⟨q1,q2,q3,q4,q5,q6,q7,q8,q9⟩:=R.tab.put hK hb
 have pl1:(t.put (way t.mask (k.hash w) K)).1.plain=true:=by rw [q6]; exact R.plain
 generalize hpt:t.put (way t.mask (k.hash w) K)=pt at q1 q3 q4 q5 q6 q7 q8 q9 pl1 ⊢
 obtain ⟨t1,p⟩:=pt
 dsimp only at q1 q3 q4 q5 q6 q7 q8 q9 pl1 ⊢
 subst q1
 first
  | (refine wpAny_bind (wp_if_pos pl1 (lh hx.t _ _ _ ?_)))
  | refine wp_if_pos pl1 (wpAny_bind (lh hx.t _ _ _ ?_))
 simp only [if_true]
 have rows1:(SetTable.insertAt es (SetTable.below t.place (way t.mask (k.hash w) K)) (k.hash w,Value.ref x)).toList=(L.take (SetTable.below t.place (way t.mask (k.hash w) K))++(x,k) :: L.drop (SetTable.below t.place (way t.mask (k.hash w) K))).map (tW w):=by
  rw [SetTable.toList_insertAt,pM,R.rows]
  rfl
 generalize SetTable.below t.place (way t.mask (k.hash w) K)=p at q2 q3 rows1 ⊢
 have pm:=rY L p (x,k)
 have ln:(L.take p++(x,k) :: L.drop p).length=L.length+1:=pm.length_eq
 rw [← pM (fun p:iJ=>p.2.hash w) L p (x,k)] at q3
 have s1:(SetTable.insertAt es p (k.hash w,Value.ref x)).size=L.length+1:=(esz rows1).trans ln
 generalize SetTable.insertAt es p (k.hash w,Value.ref x)=es1 at rows1 s1 ⊢
 generalize L.take p++(x,k) :: L.drop p=L1 at pm ln q3 rows1
 refine wpAny_bind (wpAny_storeSet_of ho hd ?_ (by rw [s1,sizeLine_eq]; omega))
 have sb:Heap.SameBut a s.heap (s.heap.update a (Obj.putSet es1 t1)):=Heap.SameBut.update ..
 have ho1:=store_at (es':=es1) (t':=t1) ho hd
 generalize s.heap.update a (Obj.putSet es1 t1)=h1 at sb ho1 ⊢
 have keys1:∀ p∈L1,NumK h1 p.2 p.1:=fun p hp=>by
  rcases List.mem_cons.mp (pm.mem_iff.mp hp) with rfl | hp
  ·exact hx.keep (kG ho hd sb)
  ·exact (R.keys p hp).keep (kG ho hd sb)
 have ld1:w.params.followText "set-order"=true∨t1.led=true:=by rw [q5]; exact R.led
 by_cases hf:t1.tooFull=true
 ·first
   | refine wpAny_bind (wp_if_pos (by simp [hf]) ?_)
   | refine wp_if_pos (by simp [hf]) (wpAny_bind ?_)
  have full:(L.length+1)*5 ≥ t1.mask*3:=by
   have h:=hf
   unfold SetTable.tooFull at h
   rw [decide_eq_true_eq,q9,List.length_map] at h
   exact h
  rw [sz]
  have two:(t.mask=7∧L.length=4)∨(t.mask=31∧L.length=18):=by
   rw [q4] at full
   rcases R.tab.mok with e | e | e <;> rw [e] at full room
   ·exact .inl ⟨e,by omega⟩
   ·exact .inr ⟨e,by omega⟩
   ·omega
  have go:∀ M,SetTable.sizeAbove (SetTable.grown (L.length+1)) - 1=M→MaskOk M→SetTable.sizeAbove (SetTable.grown (L.length+1))≤128→(L.length+1)*5 < M*3 →
    wpAny (model P w) A (setRelay a (SetTable.grown (L.length+1))) (fun _ s'=>wpAny (model P w) A (pure true) Q E s') E { s with heap:=h1 }:=fun M m1 m2 m3 m4 =>
   uA (s:={ s with heap:=h1 }) ho1 ⟨hex.1,hex.2.1,hex.2.2⟩ rfl rows1 (by have h:=q3.sz; rw [List.length_map,ln] at h; rw [h,s1]) q3.dm (by rw [s1,q4]; rcases two with ⟨e,e2⟩ | ⟨e,e2⟩ <;> omega) keys1 pl1 ld1 (by rw [ln]; exact few) m1 m2 m3 (by rw [ln]; exact m4)
    fun h2 L2 es2 ep2 t2 sb2 R2 pm2=>wpAny_pure (q true h2 L2 es2 ep2 t2 (sb.trans sb2) R2 (pm2.trans pm))
  rcases two with ⟨_,e2⟩ | ⟨_,e2⟩
  ·exact go 31 (by rw [e2,size_20]) (.inr (.inl rfl)) (by rw [e2,size_20]; decide) (by omega)
  ·exact go 127 (by rw [e2,size_76]) (.inr (.inr rfl)) (by rw [e2,size_76]; decide) (by omega)
 ·first
   | refine wp_if_neg (by simp [hf]) ?_
   | refine wpAny_bind (wp_if_neg (by simp [hf]) (wpAny_pure ?_))
  refine wpAny_pure (q true h1 L1 es1 (ep+1) t1 sb ⟨⟨_,ho1,⟨hex.1,hex.2.1,hex.2.2⟩,rfl⟩,rows1,q3,keys1,pl1,ld1,?_,by rw [ln]; exact few⟩ pm)
  have h:=hf
  unfold SetTable.tooFull at h
  rw [decide_eq_true_eq,q9,List.length_map] at h
  rw [ln]
  omega
end
end GN


namespace GN
open PySem PySem.Spec PyProof.Rows L2
section
variable {P:Program} {w:World} {A:Around} {E:Value→Shared→Prop} {s:Shared}
theorem SetN.keep {h h':Heap} {a:Addr} {L:List iJ} {es:Array (Int × Value)} {ep:Nat} {t:SetTable} (R:SetN w h a L es ep t) (ha:∀ o,h.get? a=some o→h'.get? a=some o) (hk:∀ p∈L,NumK h' p.2 p.1):SetN w h' a L es ep t:=by
 obtain ⟨o,ho,r⟩:=R.ob
 exact ⟨⟨o,ha o ho,r⟩,R.rows,R.tab,hk,R.plain,R.led,R.room,R.few⟩

abbrev set0 (w:World):Obj:={ cls:=.type "set",dict:=none,data:=.set #[] 0 (.fresh 0 0 (!w.params.followText "set-order")) }
theorem SetN.none {h:Heap} {a:Addr} (ho:h.get? a=some (set0 w)):SetN w h a [] #[] 0 (.fresh 0 0 (!w.params.followText "set-order")) where
 ob:=⟨_,ho,⟨rfl,rfl,rfl⟩,rfl⟩
 rows:=rfl
 tab:=⟨List.Pairwise.nil,rfl,rfl,.inl rfl,fun x hx=>(by cases hx),fun i h j hi=>(by simp at hi)⟩
 keys:=fun p hp=>(by cases hp)
 plain:=rfl
 led:=by
  show _∨(!w.params.followText "set-order")=true
  by_cases e:w.params.followText "set-order"=true
  ·exact .inl e
  ·exact .inr (by simp [e])
 room:=by show 0*5 < 7*3; decide
 few:=by show 0 < 64; decide
theorem uB {ks:List iJ} (hd:(ks.map (·.2)).Nodup) {i:Nat} {p:iJ} (hp:ks[i]?=some p) {L:List iJ} (pm:L.Perm (ks.take i)):p.2∉L.map (·.2)∧ks.take (i+1)=ks.take i++[p]:=by
 have e:ks.take (i+1)=ks.take i++[p]:=take_next hp
 refine ⟨fun h=>?_,e⟩
 have h2:p.2∈(ks.take i).map (·.2):=(pm.map (·.2)).mem_iff.mp h
 have nd:((ks.take (i+1)).map (·.2)).Nodup:=by
  rw [List.map_take]
  exact List.Nodup.sublist (List.take_sublist _ _) hd
 rw [e,List.map_append,List.nodup_append] at nd
 exact nd.2.2 _ h2 _ (by simp) rfl

theorem rZ {I:Addr} {fp wr:List Addr} {G:Array GenState→Array GenState→Prop} {n:Nat} {Pv:Nat→Value→Prop} {St:Nat→Shared→Prop} {R:Result→Shared→Prop}
  (W:WalksS P w A.in1 I fp wr G n Pv St) (S:Addr) (hSf:S∉fp) (ks:List iJ) (hn:n=ks.length) (few:ks.length < 64) (hd:(ks.map (·.2)).Nodup) (hval:∀ i v,Pv i v→∃ p,ks[i]?=some p∧v=.ref p.1)
  (h0:Heap) (hk:∀ p∈ks,NumK h0 p.2 p.1) (hS0:h0.get? S=none) (hw0:∀ b∈wr,h0.get? b=none) (hu:A.in1.units+8 < cLine) :
  ∀ (k i:Nat) (s:Shared),n - i=k→i≤n→St i s→(∀ b o,h0.get? b=some o→s.heap.get? b=some o)→(∃ L es ep t,SetN w s.heap S L es ep t∧L.Perm (ks.take i)) →
   (∀ s' L es ep t,Moved (S :: wr) G s s'→SetN w s'.heap S L es ep t→L.Perm ks→(∀ b o,h0.get? b=some o→s'.heap.get? b=some o)→R (.ok (.ret .none)) s') →
   codeAny (model P w) A (.builtin "set.update.loop" ⟨[.ref S,.ref I],[]⟩) R s:=by
 have Sw:S∉wr:=fun h=>hSf (W.sub _ h)
 have more:∀ b∈wr,b∈S :: wr:=fun b hb=>List.mem_cons_of_mem _ hb
 have on:∀ {s s':Shared},Moved wr G s s'→(∀ b o,h0.get? b=some o→s.heap.get? b=some o)→∀ b o,h0.get? b=some o→s'.heap.get? b=some o:=fun hm kp b o e =>
  hm.heap b o (fun hb=>by rw [hw0 b hb] at e; cases e) (kp b o e)
 have nk:∀ {h':Heap},(∀ b o,h0.get? b=some o→h'.get? b=some o)→∀ p∈ks,NumK h' p.2 p.1:=fun kp p hp=>(hk p hp).keep fun b o _ _ e _=>kp b o e
 intro k
 induction k with
 | zero =>
  rintro i s hk' hi hst kp ⟨L,es,ep,t,hS,pm⟩ hR
  obtain rfl:i=n:=by omega
  refine codeAny_builtin F.entry_set_update_loop ?_
  rw [Around.under_plainId F.plain_set_update_loop _]
  refine wpAny_bind (W.done s _ _ hst fun s' hm=>?_)
  have kp':=on hm kp
  rw [hn,List.take_length] at pm
  exact wpAny_pure (hR s' L es ep t (hm.mono more) (hS.keep (fun o e=>hm.heap S o Sw e) fun p hp=>nk kp' p (pm.mem_iff.mp hp)) pm kp')
 | succ k ih =>
  rintro i s hk' hi hst kp ⟨L,es,ep,t,hS,pm⟩ hR
  have lt:i < n:=by omega
  refine codeAny_builtin F.entry_set_update_loop ?_
  rw [Around.under_plainId F.plain_set_update_loop _]
  refine wpAny_bind (W.item i s _ _ lt hst fun v s' hP hst' hm=>?_)
  obtain ⟨p,hp,rfl⟩:=hval i v hP
  have kp':=on hm kp
  have hS':SetN w s'.heap S L es ep t:=hS.keep (fun o e=>hm.heap S o Sw e) fun q hq=>nk kp' q (List.mem_of_mem_take (pm.mem_iff.mp hq))
  have hx:NumK s'.heap p.2 p.1:=nk kp' p (List.mem_of_getElem? hp)
  obtain ⟨kn,tk⟩:=uB hd hp pm
  have ll:L.length+1 < 64:=by
   have:=pm.length_eq
   rw [List.length_take] at this
   omega
  show wpAny _ A.in1 (holding [Value.ref p.1] (setAdd S (.ref p.1)) >>= _) _ _ s'
  refine wpAny_bind (wpAny_holding ?_)
  unfold setAdd
  refine wpAny_holding ?_
  refine wpAny_bind ((nestedKind P w).pyHash (K:=NestedKey) hu hx.kind ?_)
  refine AJ (s:={ s' with toks:=s'.toks+(nestedKind P w).draws p.2 }) hS' hx kn hu ll fun b h' L' es' ep' t' sb hS2 pm2=>?_
  have pm':L'.Perm (ks.take (i+1)):=by
   rw [tk]
   exact (pm2.trans (pm.cons _)).trans (List.perm_append_singleton _ _).symm
  have kp2:∀ b o,h0.get? b=some o→h'.get? b=some o:=fun b o e=>(sb.2 b (fun z=>by rw [z,hS0] at e; cases e)).trans (kp' b o e)
  refine wpAny_pure ⟨plainId_quiet F.plain_set_update_loop _,ih (i+1) _ (by omega) lt (W.frame _ s' _ _ hst' (Nat.le_add_right _ _) fun b hb o e=>?_) kp2 ⟨L',es',ep',t',hS2,pm'⟩ fun s'' L2 es2 ep2 t2 hm'' hS'' g'' kp''=>?_⟩
  ·rw [sb.2 b (fun h:b=S=>hSf (by rw [← h]; exact hb))]; exact e
  ·refine hR s'' L2 es2 ep2 t2 (Moved.trans W.gtrans ((hm.mono more).then_heap (Nat.le_add_right _ _) fun b o hb e=>?_) hm'') hS'' g'' kp''
   rw [sb.2 b (fun h:b=S=>hb (by rw [h]; exact List.mem_cons_self))]; exact e
set_option maxHeartbeats 3200000 in

theorem set_n {l:Addr} {items:Array Value} (ks:List iJ) {Q:Value→Shared→Prop} (hh:A.handled=none) (hl:s.heap.IsList l items) (hit:items.toList=ks.map fun p=>Value.ref p.1) (hd:(ks.map (·.2)).Nodup)
  (hk:∀ p∈ks,NumK s.heap p.2 p.1) (few:ks.length < 64) (hu:A.units+16 < cLine)
  (h:∀ (h':Heap) (tk:Nat) L es ep t,SetN w h' s.heap.objs.size L es ep t→L.Perm ks→(∀ b o,s.heap.get? b=some o→h'.get? b=some o)→Q (.ref s.heap.objs.size) { s with heap:=h',toks:=tk }) :
  wpAny (model P w) A (call (.type "set") [.ref l]) Q E s:=by
 have isz:items.size=ks.length:=by
  have q:=congrArg List.length hit
  rwa [Array.length_toList,List.length_map] at q
 obtain ⟨c,tl,hmro⟩:=F.called_set.mro
 have hmade:=F.called_set.made
 have hsub:=F.called_set.sub
 refine wpAny_call (codeAny_of_tree ?_)
 show wpAny _ _ (callAny (.type "set") _) _ _ _
 refine wpAny_pure ⟨Code.quiet_builtin _ (by symm),codeAny_builtin F.entry_type_call ?_⟩
 rw [Around.under_plain (weight_type_call_type "set" [.ref l] []) rfl]
 have h1:=F.called_set.notType
 have h2:=F.called_set.canCreate
 have hct:=F.typeCall_set_1 (.ref l)
 repeat (any_goals (first | assumption | wp_step))
 refine codeAny_mono (code_set_led1 (.ref l) (E:=E) (Q₁:=fun obj s₁=>obj=.ref s.heap.objs.size∧s₁={ s with heap:=s.heap.push (set0 w) }) ⟨rfl,rfl⟩) fun r s₁ hr=>?_
 cases r with
 | error e=>exact hr
 | ok fl =>
  cases fl with
  | ret obj =>
   obtain ⟨rfl,rfl⟩:=hr
   have hS:(s.heap.push (set0 w)).get? s.heap.objs.size=some (set0 w):=Heap.get?_push_size _ rfl
   have hT:Shared.TypeIs { s with heap:=s.heap.push (set0 w) } (.ref s.heap.objs.size) "set":=⟨_,hS,rfl⟩
   have hli:=F.called_set.init.lookup
   have hbi:=F.called_set.init.bind (.ref s.heap.objs.size)
   repeat (any_goals (first | assumption | wp_step))
   refine codeAny_mono (codeAny_call_builtin (R:=wants (fun r s₂=>r=.none∧∃ h' tk L es ep t,s₂={ s with heap:=h',toks:=tk }∧SetN w h' s.heap.objs.size L es ep t∧L.Perm ks ∧
     (∀ b o,s.heap.get? b=some o→h'.get? b=some o)) E) F.called_set.init.plain F.entry_set_init (check_set_init_1 hT ?_)) fun r₂ s₂ hr₂=>?_
   ·obtain ⟨ol,hol,hcl,nl,hdl⟩:=hl
    obtain ⟨ocls,odict,odata,oslots⟩:=ol
    simp only at hcl hdl
    subst hcl; subst hdl
    have hol':(s.heap.push (set0 w)).get? l=some { cls:=.type "list",dict:=odict,data:=.seq items nl,slots:=oslots }:=Heap.get?_push_of_some _ hol
    have hsls:=F.sub_list_set
    have hslf:=F.sub_list_frozenset
    have hne:(Value.type "list" == Value.type "dict")=false:=by decide
    have hl1:(s.heap.push (set0 w)).IsList l items:=⟨_,hol',rfl,nl,rfl⟩
    unfold Builtin.«set.__init__» noKeywords Builtin.Frozenset.updateFrom
    generalize hPI:pyIter=PI
    wp_walk
    subst hPI
    refine wpAny_pyIter_list hl1 ?_
    refine wpAny_bind (wpAny_runValue ?_)
    have lS:l < s.heap.objs.size:=Heap.lt_size hol
    have hh3:A.in1.in1.in1.handled=none:=by simp [hh]
    have z1:(s.heap.push (set0 w)).objs.size=s.heap.objs.size+1:=Heap.size_push ..
    have nI:l≠(s.heap.push (set0 w)).objs.size:=by rw [z1]; exact Nat.ne_of_lt (Nat.lt_succ_of_lt lS)
    have Sf:s.heap.objs.size∉[(s.heap.push (set0 w)).objs.size,l]:=by
     rw [z1]
     intro hm
     rcases List.mem_cons.mp hm with e | e
     ·exact absurd e (Nat.ne_of_lt (Nat.lt_succ_self _))
     ·exact Nat.ne_of_gt lS (List.mem_singleton.mp e)
    have hval:∀ (i:Nat) (v:Value),items[i]?=some v→∃ p,ks[i]?=some p∧v=.ref p.1:=fun i v hv=>by
     have q:items.toList[i]?=some v:=by rw [Array.getElem?_toList]; exact hv
     rw [hit,List.getElem?_map,Option.map_eq_some_iff] at q
     obtain ⟨p,e1,e2⟩:=q
     exact ⟨p,e1,e2.symm⟩
    have none_of:∀ b,s.heap.objs.size≤b→s.heap.get? b=none:=fun b hb=>by
     cases q:s.heap.get? b with
     | none=>rfl
     | some o=>exact absurd (Nat.lt_of_lt_of_le (Heap.lt_size q) hb) (Nat.lt_irrefl _)
    refine rZ ((Walks.list hh3 _ l nI items).toS) s.heap.objs.size
     Sf ks isz few hd hval s.heap hk (none_of _ (Nat.le_refl _)) (fun b hb=>none_of b (by rw [List.mem_singleton.mp hb,z1]; exact Nat.le_succ _)) (by show A.in1.in1.in1.units+8 < cLine; have e1:∀ B:Around,B.in1.units≤B.units+1:=fun B=>(Nat.le_refl _); have a1:=e1 A; have a2:=e1 A.in1; have a3:=e1 A.in1.in1; omega) (items.size - 0) 0 _ (by omega) (Nat.zero_le _)
     ⟨⟨_,Heap.get?_push_size _ rfl,rfl,rfl⟩,(hl1.push _)⟩ (fun b o e=>Heap.get?_push_of_some _ (Heap.get?_push_of_some _ e)) ?hS0 ?hR
    case hS0=>exact ⟨[],#[],0,_,SetN.none (Heap.get?_push_of_some _ hS),.refl _⟩
    case hR =>
     intro s' L es ep t hm hS' g' hkp
     obtain ⟨h',g2,d',tk',os'⟩:=s'
     obtain rfl:g2=s.gens:=hm.gens
     obtain rfl:d'=s.drawn:=hm.drawn
     obtain rfl:os'=s.os:=hm.os
     show wpAny _ _ _ _ _ _
     refine wpAny_pure ?_
     exact wpAny_pure ⟨rfl,h',tk',L,es,ep,t,rfl,hS',g',hkp⟩
   ·cases r₂ with
    | error e=>exact hr₂
    | ok fl₂ =>
     cases fl₂ with
     | ret r =>
      obtain ⟨rfl,h',tk,L,es,ep,t,rfl,hS',g',hk'⟩:=hr₂
      repeat (any_goals (first | assumption | wp_step))
      exact h _ _ _ _ _ _ hS' g' hk'
     | _=>exact hr₂.elim
  | _=>exact hr.elim
end
end GN


namespace GM
open PySem PySem.Spec PyProof.Rows L2 GN
section
variable {Y:Wd} {F:Fr} {H:Hp} {C:Cx} {pins:List (Addr × Obj)} {σ:L2.St} {s:Shared}
theorem Rps.back:∀ {ds:List D} {vs:List V} {us:List Value},Rps Y F ds vs→Vals vs us→∀ u∈us,∃ d∈ds,∃ v,Rp Y F d v∧RelV v u
 | _,_,_,.nil,.nil,u,hu=>by cases hu
 | _,_,_,.cons r1 r2,.cons z1 z2,u,hu=>by
  rcases ax.mp hu with rfl | hu
  ·exact ⟨_,aj,_,r1,z1⟩
  ·obtain ⟨d,h1,h2⟩:=Rps.back r2 z2 u hu
   exact ⟨d,ao _ h1,h2⟩
theorem pN (I:Inv C pins σ H s) (hF:Same F.h H):∀ (n:Nat) {d:D} {v:V} {u:Value},D.tr n d=true→Rp Y F d v→RelV v u→NumT s.heap n u
 | n,.int i,v,u,h,r,z=>by
  cases r
  obtain ⟨t,rfl⟩:=z
  exact .num n i t
 | n+1,.tup xs,v,u,h,r,z=>by
  cases r with
  | tup hf rs =>
   cases z
   obtain ⟨ob0,_,hf⟩:=hf
   obtain ⟨_,hz,its,vr,ob,e,c,m,dd⟩:=I.hok _ _ (hF _ _ hf)
   refine .tup e c dd fun w hw=>?_
   obtain ⟨d,h1,v',h2,h3⟩:=rs.back vr w (by simpa using hw)
   have h:xs.all (D.tr n)=true:=h
   exact pN I hF n (aR.mp h d h1) h2 h3
 | 0,.tup xs,_,_,h,_,_=>by simp [D.tr] at h
 | n,.non,_,_,h,_,_=>by cases n <;> simp [D.tr] at h
 | n,.str _,_,_,h,_,_=>by cases n <;> simp [D.tr] at h
 | n,.bl _,_,_,h,_,_=>by cases n <;> simp [D.tr] at h
 | n,.lst _,_,_,h,_,_=>by cases n <;> simp [D.tr] at h
 | n,.arr _,_,_,h,_,_=>by cases n <;> simp [D.tr] at h
 | n,.dic _ _,_,_,h,_,_=>by cases n <;> simp [D.tr] at h
 | n,.loc _,_,_,h,_,_=>by cases n <;> simp [D.tr] at h
 | n,.exc _,_,_,h,_,_=>by cases n <;> simp [D.tr] at h
 | n,.fdc _,_,_,h,_,_=>by cases n <;> simp [D.tr] at h
 | n,.cd _,_,_,h,_,_=>by cases n <;> simp [D.tr] at h
theorem r8 (I:Inv C pins σ H s) (hF:Same F.h H):∀ {ds:List D} {ks:List NestedKey} {vs:List V} {us:List Value},D.nks ds=some ks→(∀ k∈ks,k.depth≤8)→(∀ d∈ds,D.tr 8 d=true∧D.isT d=true)→Rps Y F ds vs→Vals vs us →
  ∃ ps:List iJ,ps.map (·.2)=ks∧us=(ps.map fun p=>Value.ref p.1)∧∀ p∈ps,NumK s.heap p.2 p.1
 | [],ks,_,_,h,_,_,r,z=>by
  cases (ad h); cases r; cases z
  exact ⟨[],rfl,rfl,fun p hp=>by cases hp⟩
 | x :: xs,ks,_,_,h,hk,hd,r,z=>by
  obtain ⟨k,h1,h2⟩:=aU.mp (show (D.nk x).bind (fun k=>(D.nks xs).map (k :: ·))=some ks from h)
  obtain ⟨ks',h3,rfl⟩:=az.mp h2
  cases r with
  | cons r1 r2 =>
   cases z with
   | cons z1 z2 =>
    obtain ⟨ps,e1,e2,e3⟩:=r8 I hF h3 (fun k hm=>hk k (ao _ hm)) (fun d hm=>hd d (ao _ hm)) r2 z2
    obtain ⟨t1,t2⟩:=hd x aj
    have i1:=Rp.nested I hF h1 r1 z1
    have i2:=pN I hF 8 t1 r1 z1
    cases x with
    | tup ys =>
     cases r1 with
     | tup hf rs =>
      cases z1
      rename_i a _
      refine ⟨(a,k) :: ps,by rw [aG,e1],by rw [aG,e2],fun p hp=>?_⟩
      rcases ax.mp hp with rfl | hp
      ·exact ⟨i1,hk _ aj,i2⟩
      ·exact e3 p hp
    | _=>simp [D.isT] at t2
theorem xD {ds:List D} {ks:List NestedKey} (h:fS ds ks=true):ds.length < 64∧ks.Nodup∧(∀ k∈ks,k.depth≤8)∧∀ d∈ds,D.tr 8 d=true∧D.isT d=true:=by
 unfold fS at h
 simp only [ab,af,aR] at h
 obtain ⟨⟨⟨h1,h2⟩,h3⟩,h4⟩:=h
 exact ⟨h1,h2,h3,h4⟩
end
end GM


namespace GM
open PySem PySem.Spec PyProof.Rows L2
section
variable {Y:Wd} {g g':Gh} {σ:L2.St} {H H':Hp} {l:Lc} {s s':cj} {d:D} {v:V} {p:Addr} {o u:HO}

theorem SR.unlock0 {H4:Hp} {g4:Gh} {s4:cj} (hm:∀ n,g.F.m p≠some n) (hB:g.B p=none) (hF:g.F.h p=none) (E:Ext ⟨g.F,upd g.B p o,g.M⟩ g4) (S:SR Y g σ H l s) (S4:SR Y g4 σ H4 l s4) :
  SR Y ⟨g4.F,g.B,g.M⟩ σ H4 l s4∧Ext g ⟨g4.F,g.B,g.M⟩∧H4 p=some o∧g4.F.h p=none∧∀ n,g4.F.m p≠some n :=
 S.unlock (own:=[]) hm hB hF E S4 (fun i h=>by cases h) (fun _ _=>rfl) fun _ _=>rfl
end
section
variable {C:Cx} {S:Sc} {G:Gn} {W:WX} {e f b:Expr} {es:List Expr} {pos apos cpos:Pos} {xa xb xc:X}
theorem uC (B:Gd C S G W) (ha:PE C e (rd G.gm W xa)) (hb:PE C b (rd G.gm W xb)):PE C (.Dict [some e] [b] pos) (rd G.gm W (.dic false #v[xa] #v[xb])):=by
 refine PE.imp (pe_disp (pps_cons ha hb pps_nil) rfl rfl (by simp) (by show 1≤15; decide)) ?_
 rintro σ H Q ⟨g,l,s,SS,h⟩ p hp
 have h:ValE G.gm W g σ l (R.noEr (cf (b7 G.fs G.gs xa l s) fun x s1=>cf (b7 G.fs G.gs xb l s1) fun y s2=>if D.isKey false x=true then dY (.dic false [(x,y)]) s2 else .no)) Q:=h
 have hB:=SS.freeB hp
 have hF:=SS.freeF hp
 have hm:=SS.freeM hp
 have no:=SS.noown hp
 have S0:=SS.lay (o:=.dK []) hp
 have SL:=S0.lock (o:=.dK []) upd_same hm hB no
 -- what is wanted,as a word on results
 have hR:ValR G.gm W ⟨g.F,upd g.B p (.dK []),g.M⟩ σ (cf (b7 G.fs G.gs xa l s) fun x s1=>cf (b7 G.fs G.gs xb l s1) fun y s2=>if D.isKey false x=true then dY (.dic false [(x,y)]) s2 else .no)
   (fun r g4=>∀ v H4,SR G.Y ⟨g4.F,g.B,g.M⟩ σ H4 l r.2.2→Ext g ⟨g4.F,g.B,g.M⟩→VR G.Y ⟨g4.F,g.B,g.M⟩ σ H4 l r.1 r.2.1 v→Q v H4):=by
  revert h
  generalize (cf (b7 G.fs G.gs xa l s) fun x s1=>cf (b7 G.fs G.gs xb l s1) fun y s2=>if D.isKey false x=true then dY (.dic false [(x,y)]) s2 else .no)=r
  intro h
  cases r with
  | ok q =>
   obtain ⟨d,t,s1⟩:=q
   exact fun g4 e4 v H4 S4 e5 r4=>h ⟨g4.F,g.B,g.M⟩ v H4 e5 S4 r4
  | er ex s1 l1=>exact h.elim
  | no=>exact h
 refine fC SL hR fun d s1 g1 v H1 e1 S1 r1 h1=>?_
 refine fC S1 h1 fun d2 s2 g2 v2 H2 e2 S2 r2 h2=>?_
 show H2 p=some (.dK [])∧_
 have h2:ValR G.gm W g2 σ (if D.isKey false d=true then dY (.dic false [(d,d2)]) s2 else .no) _:=h2
 split at h2
 ·rename_i hk
  obtain ⟨q,hq⟩:=dR hk
  have ev:=gr hq r1
  subst ev
  obtain ⟨U1,U2,U3,U4⟩:=SR.unlock0 (p:=p) (o:=.dK []) hm hB hF (e1.trans e2) S0 S2
  refine ⟨U3,[(q,v2)],rfl,(by show 1≤15; decide),?_⟩
  refine h2 g2 (.refl g2) (.ref p) _ (U1.wr U4.1 U4.2 hB no) U2 ⟨p,rfl,U4,hB,.dk upd_same (.cons hq r2 .nil),no⟩
 ·exact h2.elim
theorem r9 {prog:Program} {w:World} {A:Around} {E:Value→Shared→Prop} {s:Shared} {env:Env} {k v:Expr} {pos:Pos} {Q:Value→Shared→Prop} (hu:(nestedKind prog w).room A)
  (h:wpAny (model prog w) A (evalPairs (pairTrees [some k] [v] env pos)) (fun vs s₁=>∃ ps,CarriesH (nestedKind prog w) s₁.heap vs ps∧s₁.heap.DictOfH (nestedKind prog w) s.heap.objs.size [] ∧
   ∀ h' tk,h'.DictOfH (nestedKind prog w) s.heap.objs.size (storedAllH [] ps)→Heap.SameBut s.heap.objs.size s₁.heap h'→Q (.ref s.heap.objs.size) { s₁ with heap:=h',toks:=tk }) E
   { s with heap:=s.heap.push { cls:=.type "dict",data:=.dict #[] } }) :
  wpAny (model prog w) A (eval (.Dict [some k] [v] pos) env) Q E s:=by
 have hn:=pairTrees_length [some k] [v] env pos rfl rfl
 have hn:(pairTrees [some k] [v] env pos).length=1:=hn
 rw [arm_eval_Dict,zip_pairTrees [some k] [v] env pos rfl rfl,dictDisplay_pairs _ (by intro e; rw [e] at hn; cases hn) (by omega)]
 exact wpAny_bind (wpAny_standAt (wpAny_bind (wpAny_subDictH (knd:=nestedKind prog w) (Q:=fun d s'=>wpAny (model prog w) A (pure (Value.ref d)) Q E s') hu (by omega)
  (wpAny_mono h (fun vs s₁ h₁=>by obtain ⟨ps,hc,hm,hq⟩:=h₁; exact ⟨ps,hc,hm,fun h' tk a b=>wpAny_pure (hq h' tk a b)⟩) fun _ _ e=>e))))
theorem uD (B:Gd C S G W) (ha:PE C e (rd G.gm W xa)) (hb:PE C b (rd G.gm W xb)):PE C (.Dict [some e] [b] pos) (rd G.gm W (.dic true #v[xa] #v[xb])):=by
 refine ⟨fun pins s σ H Q I hq=>?_⟩
 obtain ⟨g,l,sto,SS,h⟩:=hq
 have h:ValE G.gm W g σ l (R.noEr (cf (b7 G.fs G.gs xa l sto) fun x s1=>cf (b7 G.fs G.gs xb l s1) fun y s2=>if D.isKey true x=true then dY (.dic true [(x,y)]) s2 else .no)) Q:=h
 obtain ⟨ob,w,I'⟩:=rD (Y:=⟨C.prog,C.w,C.K,G.Y.pn⟩) I
 have hp:H s.heap.objs.size=none:=I.hok.fresh (aA _)
 have hB:=SS.freeB hp
 have hF:=SS.freeF hp
 have hm:=SS.freeM hp
 have no:=SS.noown hp
 have S0:=SS.lay (o:=kh s.heap.objs.size ob) hp
 have SL:=S0.lock (o:=kh s.heap.objs.size ob) upd_same hm hB no
 have hR:ValR G.gm W ⟨g.F,upd g.B s.heap.objs.size (kh s.heap.objs.size ob),g.M⟩ σ (cf (b7 G.fs G.gs xa l sto) fun x s1=>cf (b7 G.fs G.gs xb l s1) fun y s2=>if D.isKey true x=true then dY (.dic true [(x,y)]) s2 else .no)
   (fun r g4=>∀ v H4,SR G.Y ⟨g4.F,g.B,g.M⟩ σ H4 l r.2.2→Ext g ⟨g4.F,g.B,g.M⟩→VR G.Y ⟨g4.F,g.B,g.M⟩ σ H4 l r.1 r.2.1 v→Q v H4):=by
  revert h
  generalize (cf (b7 G.fs G.gs xa l sto) fun x s1=>cf (b7 G.fs G.gs xb l s1) fun y s2=>if D.isKey true x=true then dY (.dic true [(x,y)]) s2 else .no)=r
  intro h
  cases r with
  | ok q =>
   obtain ⟨d,t,s1⟩:=q
   exact fun g4 e4 v H4 S4 e5 r4=>h ⟨g4.F,g.B,g.M⟩ v H4 e5 S4 r4
  | er ex s1 l1=>exact h.elim
  | no=>exact h
 refine r9 (by have:=B.un; show C.A.units+8 < cLine; omega) (thn ((pps_cons ha hb pps_nil).run pins _ σ _ (fun ps H2=>∃ (d d2:D) (F2:Fr) (v v2:V),ps=[(v,v2)]∧H2 s.heap.objs.size=some (kh s.heap.objs.size ob)∧D.isKey true d=true∧Rp G.Y F2 d v∧Rp G.Y F2 d2 v2∧Same F2.h H2 ∧
   ∀ ob',TpW G.Y F2 (upd H2 s.heap.objs.size (kh s.heap.objs.size ob')) (.dic true [(d,d2)]) (.ref s.heap.objs.size)→Q (.ref s.heap.objs.size) (upd H2 s.heap.objs.size (kh s.heap.objs.size ob'))) I' ?_) fun ws s2 ⟨ps,H2,I2,rel,d,d2,F2,v,v2,ep,e,hk,r1,r2,sF,cont⟩=>?_)
 ·refine fC SL hR fun d s1 g1 v H1 e1 S1 r1 h1=>?_
  refine fC S1 h1 fun d2 s2 g2 v2 H2 e2 S2 r2 h2=>?_
  have h2:ValR G.gm W g2 σ (if D.isKey true d=true then dY (.dic true [(d,d2)]) s2 else .no) _:=h2
  split at h2
  ·rename_i hk
   obtain ⟨U1,U2,U3,U4⟩:=SR.unlock0 (p:=s.heap.objs.size) (o:=kh s.heap.objs.size ob) hm hB hF (e1.trans e2) S0 S2
   exact ⟨d,d2,g2.F,v,v2,rfl,U3,hk,r1.mono e2.f,r2,S2.sF,fun ob' tw=>h2 g2 (.refl g2) (.ref s.heap.objs.size) _ (U1.wr U4.1 U4.2 hB no) U2 ⟨s.heap.objs.size,rfl,U4,hB,tw,no⟩⟩
  ·exact h2.elim
 ·subst ep
  cases rel with
  | @cons x1 y1 xs1 ys1 a rest =>
   cases rest
   obtain ⟨kv,vv⟩:=y1
   obtain ⟨a1,a2⟩:=a
   obtain ⟨q,hq,hz,zs,rfl⟩:=fT hk
   cases r1 with
   | tup hb2 hr =>
    rename_i b2 vs2
    have kt:qn G.Y F2 (.tup zs) q b2:=⟨hq,hz,.tup hb2 hr⟩
    have is:=iO I2 sF kt
    cases a1
    refine ⟨[(q,b2,vv)],⟨rfl,rfl,is,trivial⟩,gk (Y:=⟨C.prog,C.w,C.K,G.Y.pn⟩) (ps:=[]) (F:=F2) I2 sF ⟨rfl,rfl⟩ e w .nil,fun h' tk dd hs=>?_⟩
    obtain ⟨o',es,ep,h1,h2,h3,h4,_,h5⟩:=dd
    have w':DtO G.Y s.heap.objs.size o' [(q,b2,vv)]:=by
     rw [B.Y]
     exact ⟨h2,w.nm,⟨es,ep,h3,h4⟩,h5,by rw [sizeLine_eq]; show 1≤16777216; omega⟩
    exact ⟨.ref s.heap.objs.size,_,d_write I2 (by rw [e]; exact pq) hs ⟨o',h1⟩ (ot h1),rfl,cont o' (.dt upd_same w' (.cons hq hz (.tup hb2 hr) r2 a2 .nil))⟩

theorem gv {α β:Type} (r:R VT) (f:D→cj→R α) (k:α→R β):(cf r f).bind k=cf r fun d s=>(f d s).bind k:=by
 unfold cf
 rw [fY]
 congr 1
 funext ⟨d,t,s⟩
 show R.bind (if _ then R.no else f d s) k=if _ then R.no else (f d s).bind k
 split <;> rfl
theorem wm {m:Str} (hc:∀ env,attributeBase e m env (eval e env)=eval e env) (hs:bZ f=true) (hl:(apos.endLine == cpos.line)=true):M1 C e m apos f cpos :=
 ⟨hc _,by rw [bY hs]; rfl,hl,by rw [bY hs]; rfl⟩
theorem wn {m:Str} (hc:∀ env,attributeBase e m env (eval e env)=eval e env) (hs:bZ f=true) (hs2:bZ b=true) (hl:(apos.endLine == cpos.line)=true):M2 C e m apos f b cpos :=
 ⟨hc _,by rw [bY hs,bY hs2]; rfl,hl,by rw [bY hs,bY hs2]; rfl⟩
theorem ib {m:Str} (h:cD e=true):∀ env,attributeBase e m env (eval e env)=eval e env:=by
 intro env
 cases e
 case Call f args kws p =>
  cases args with
  | nil=>cases h
  | cons a r=>cases f <;> rfl
 all_goals rfl
theorem sd {g:Gh} {σ:L2.St} {H:Hp} {l:Lc} {sto:cj} {k:Bool} {ps:List (D × D)} {x:V} {u:Value} {pins:List (Addr × Obj)} {s:Shared} (B:Gd C S G W) (SS:SR G.Y g σ H l sto) (I:Inv C pins σ H s) (h:RdV G.Y g.F H (.dic k ps) x) (rx:RelV x u) :
  s.TypeIs u "dict"∧(∀ b,u=.ref b→∃ ob,s.heap.get? b=some ob∧ob.dict=none):=by
 cases k with
 | false =>
  obtain ⟨a,kvs,rfl,hH,r⟩:=h.dk SS
  obtain rfl:u=Value.ref a:=rx
  obtain ⟨t1,t2,_⟩:=isD_at I (.inl ⟨kvs,.inl hH⟩)
  exact ⟨t1,t2⟩
 | true =>
  obtain ⟨a,ob,xs,rfl,hH,w,r⟩:=h.dt SS
  obtain rfl:u=Value.ref a:=rx
  have dd:=gk I SS.sF B.hY hH w r
  refine ⟨dd.typeIs,fun b q=>?_⟩
  cases q
  obtain ⟨ob',_,_,h1,h2,_⟩:=dd
  exact ⟨ob',h1,h2.2.1⟩
theorem m7 {g:Gh} {σ:L2.St} {H:Hp} {l:Lc} {sto:cj} {d:D} {x:V} {u:Value} {pins:List (Addr × Obj)} {s:Shared} (B:Gd C S G W) (SS:SR G.Y g σ H l sto) (I:Inv C pins σ H s) (h:RdV G.Y g.F H d x) (hr:MI.recv .get1 d=true) (rx:RelV x u) :
  s.TypeIs u "dict"∧(∀ b,u=.ref b→∃ ob,s.heap.get? b=some ob∧ob.dict=none):=by
 cases d with
 | dic k ps=>exact sd B SS I h rx
 | fdc ps =>
  obtain ⟨a,o,kvs,rfl,hH,_⟩:=RdV.fd SS h
  obtain rfl:u=Value.ref a:=rx
  obtain ⟨t1,t2,_⟩:=isD_at I (.inl ⟨kvs,.inr ⟨o,hH⟩⟩)
  exact ⟨t1,fun b q=>by cases q; exact t2 _ rfl⟩
 | cd kvs =>
  have ha:∃ a,x=.ref a∧TbK G.Y a kvs:=by
   rcases h with h | h
   ·cases h with
    | tb t=>exact ⟨_,rfl,t⟩
   ·cases h
  obtain ⟨a,rfl,tb⟩:=ha
  obtain rfl:u=Value.ref a:=rx
  obtain ⟨es,n,o,dd,_,_⟩:=tb.get B.hY.2 B.hK Str.empty
  refine ⟨kd_type dd I,fun b q=>?_⟩
  cases q
  exact ⟨_,I.kIn _ _ dd.at_,rfl⟩
 | _=>cases hr
theorem xE (B:Gd C S G W) (ho:PE C e (rd G.gm W xa)) (he:PE C f (rd G.gm W xb)) (m:M1 C e "get" apos f cpos):PE C (.Call (.Attribute e "get" apos) [f] [] cpos) (rd G.gm W (.mt .get1 xa #v[xb])):=by
 refine ⟨fun pins sh σ H Q I h=>?_⟩
 obtain ⟨g,l,s,SS,h⟩:=h
 refine wpAny_Call_method m.base m.few m.line PySem.F.plainAttrs_dict PySem.F.slot_dict_get PySem.F.type_dict_get (thn (ho.run pins sh σ H (fun v H1=>∃ g1 d s1,SR G.Y g1 σ H1 l s1∧VS G.Y g1 σ l d v∧MI.recv .get1 d=true ∧
  ValE G.gm W g1 σ l ((ju G.fs G.gs #v[xb] l s1).bind fun (ds,s2)=>MI.run .get1 d ds s2) Q) I ?_) fun u s1 ⟨x,H1,I1,rx,g1,dd,t1,S1,v1,hrc,h1⟩=>?_)
 ·refine cu SS (show ValE G.gm W g σ l ((b7 G.fs G.gs xa l s).bind _) Q from h) fun d t s1 g1 v H1 e1 S1 v1 h1=>?_
  have h1:ValE G.gm W g1 σ l (if MI.recv .get1 d=false then .no else (ju G.fs G.gs #v[xb] l s1).bind fun (ds,s2)=>MI.run .get1 d ds s2) Q:=h1
  split at h1
  ·exact h1.elim
  ·rename_i hr
   exact ⟨g1,d,s1,S1,v1,by simpa using hr,h1⟩
 obtain ⟨q1,q2⟩:=m7 B S1 I1 (v1.rd S1) hrc rx
 refine ⟨q1,q2,?_⟩
 rw [m.trees]
 refine Calls.callWith_builtin rfl (Calls.evalArgs_plain (Calls.spliced_cons (thn (he.run pins s1 σ H1 (fun y H2=>∃ F o,fU G.Y F H2 x y o∧Q (o.getD .non) H2) I1 ?_) fun iv s2 ⟨y,H2,I2,ry,F,o,dl,q⟩=>Calls.spliced_nil ?_)))
 ·have h1:ValE G.gm W g1 σ l ((cf (b7 G.fs G.gs xb l t1) fun d s1=>R.ok ([d],s1)).bind fun (ds,s2)=>MI.run .get1 dd ds s2) Q:=h1
  rw [gv] at h1
  refine iu S1 h1 fun d s2 g2 y H2 e2 S2 r2 h2=>?_
  cases dd with
  | dic k ps =>
   have h2:ValE G.gm W g2 σ l (if D.isKey k d then cg ((D.look ps d).getD .non) s2 else .no) Q:=h2
   split at h2
   ·rename_i hk
    rcases RdV.look S2 ((v1.ext e2).rd S2) (.inl r2) hk with ⟨e3,q⟩ | ⟨d',v',e3,q,r3⟩
    ·rw [e3] at h2
     exact ⟨g2.F,none,q,h2.frz S2 .non⟩
    ·rw [e3] at h2
     exact ⟨g2.F,some v',q,h2.frz S2 r3⟩
   ·exact h2.elim
  | fdc ps =>
   have h2:ValE G.gm W g2 σ l (if D.isKey false d then cg ((D.look ps d).getD .non) s2 else .no) Q:=h2
   split at h2
   ·rename_i hk
    rcases RdV.lookF S2 ((v1.ext e2).rd S2) (.inl r2) hk with ⟨e3,q⟩ | ⟨d',v',e3,q,r3⟩
    ·rw [e3] at h2
     exact ⟨g2.F,none,q,h2.frz S2 .non⟩
    ·rw [e3] at h2
     exact ⟨g2.F,some v',q,h2.frz S2 r3⟩
   ·exact h2.elim
  | cd kvs =>
   cases d <;> first | exact h2.elim | skip
   rename_i z
   have h2:ValE G.gm W g2 σ l (cg (((kvs.lookup z).map D.str).getD .non) s2) Q:=h2
   refine ⟨g2.F,_,RdV.lookC S2 ((v1.ext e2).rd S2) (.inl r2),?_⟩
   cases el:kvs.lookup z with
   | none =>
    rw [el] at h2
    exact h2.frz S2 .non
   | some y =>
    rw [el] at h2
    exact h2.frz S2 (.str _)
  | _=>cases hrc
 ·exact uc B.hu ⟨B.hY,B.hK⟩ I2 dl rx ry fun w' s3 I3 rw'=>⟨_,H2,I3,rw',q⟩
theorem xF (B:Gd C S G W) (ho:PE C e (rd G.gm W xa)) (he:PE C f (rd G.gm W xb)) (hf:PE C b (rd G.gm W xc)) (m:M2 C e "get" apos f b cpos):PE C (.Call (.Attribute e "get" apos) [f,b] [] cpos) (rd G.gm W (.mt .get2 xa #v[xb,xc])):=by
 refine ⟨fun pins sh σ H Q I h=>?_⟩
 obtain ⟨g,l,s,SS,h⟩:=h
 refine wpAny_Call_method m.base m.few m.line PySem.F.plainAttrs_dict PySem.F.slot_dict_get PySem.F.type_dict_get (thn (ho.run pins sh σ H (fun v H1=>∃ g1 d s1,SR G.Y g1 σ H1 l s1∧VS G.Y g1 σ l d v∧MI.recv .get2 d=true ∧
  ValE G.gm W g1 σ l ((ju G.fs G.gs #v[xb,xc] l s1).bind fun (ds,s2)=>MI.run .get2 d ds s2) Q) I ?_) fun u s1 ⟨x,H1,I1,rx,g1,dd,t1,S1,v1,hrc,h1⟩=>?_)
 ·refine cu SS (show ValE G.gm W g σ l ((b7 G.fs G.gs xa l s).bind _) Q from h) fun d t s1 g1 v H1 e1 S1 v1 h1=>?_
  have h1:ValE G.gm W g1 σ l (if MI.recv .get2 d=false then .no else (ju G.fs G.gs #v[xb,xc] l s1).bind fun (ds,s2)=>MI.run .get2 d ds s2) Q:=h1
  split at h1
  ·exact h1.elim
  ·rename_i hr
   exact ⟨g1,d,s1,S1,v1,by simpa using hr,h1⟩
 obtain ⟨q1,q2⟩:=m7 B S1 I1 (v1.rd S1) (by cases dd <;> first | rfl | cases hrc) rx
 refine ⟨q1,q2,?_⟩
 rw [m.trees]
 refine Calls.callWith_builtin rfl (Calls.evalArgs_plain (Calls.spliced_cons (thn (he.run pins s1 σ H1 (fun y H2=>rd G.gm W xc σ H2 fun z H3=>∃ F o,fU G.Y F H3 x y o∧Q (o.getD z) H3) I1 ?_) fun iv s2 ⟨y,H2,I2,ry,q⟩ =>
  Calls.spliced_cons (thn (hf.run pins s2 σ H2 _ I2 q) fun fv s3 ⟨z,H3,I3,rz,F,o,dl,q3⟩=>Calls.spliced_nil ?_))))
 ·have h1:ValE G.gm W g1 σ l ((cf (b7 G.fs G.gs xb l t1) fun d s1=>(cf (b7 G.fs G.gs xc l s1) fun d s1=>R.ok ([d],s1)).bind fun (ds,s2)=>.ok (d :: ds,s2)).bind fun (ds,s2)=>MI.run .get2 dd ds s2) Q:=h1
  rw [gv] at h1
  refine iu S1 h1 fun d s2 g2 y H2 e2 S2 r2 h2=>?_
  have h2:ValE G.gm W g2 σ l (((cf (b7 G.fs G.gs xc l s2) fun d s1=>R.ok ([d],s1)).bind fun (ds,s2)=>.ok (d :: ds,s2)).bind fun (ds,s2)=>MI.run .get2 dd ds s2) Q:=h2
  rw [gv,gv] at h2
  refine iu S2 h2 fun d2 s3 g3 z H3 e3 S3 r3 h3=>?_
  cases dd with
  | dic k ps =>
   have h3:ValE G.gm W g3 σ l (if D.isKey k d then cg ((D.look ps d).getD d2) s3 else .no) Q:=h3
   split at h3
   ·rename_i hk
    rcases RdV.look S3 (((v1.ext e2).ext e3).rd S3) (.inl (r2.mono e3.f)) hk with ⟨e4,q⟩ | ⟨d',v',e4,q,r4⟩
    ·rw [e4] at h3
     exact ⟨g3.F,none,q,h3.frz S3 r3⟩
    ·rw [e4] at h3
     exact ⟨g3.F,some v',q,h3.frz S3 r4⟩
   ·exact h3.elim
  | fdc ps =>
   have h3:ValE G.gm W g3 σ l (if D.isKey false d then cg ((D.look ps d).getD d2) s3 else .no) Q:=h3
   split at h3
   ·rename_i hk
    rcases RdV.lookF S3 (((v1.ext e2).ext e3).rd S3) (.inl (r2.mono e3.f)) hk with ⟨e4,q⟩ | ⟨d',v',e4,q,r4⟩
    ·rw [e4] at h3
     exact ⟨g3.F,none,q,h3.frz S3 r3⟩
    ·rw [e4] at h3
     exact ⟨g3.F,some v',q,h3.frz S3 r4⟩
   ·exact h3.elim
  | _=>cases hrc
 ·exact ud B.hu ⟨B.hY,B.hK⟩ I3 dl rx ry rz fun w' s4 I4 rw'=>⟨_,H3,I4,rw',q3⟩

theorem qy {bs:List Bool} {b:Bool}:∀ (m:Nat) (z:V),m < bs.idxOf b→(bs.map V.bl)[m]?=some z→eqV z (.bl b)=false:=by
 intro m z hm hz
 rw [aD,az] at hz
 obtain ⟨c,hc,rfl⟩:=hz
 have hne:c≠b:=fun e=>by
  subst e
  have:=List.not_of_lt_findIdx (p:=(· == c)) (xs:=bs) (i:=m) hm
  rw [(au.mp hc).2] at this
  simp at this
 cases c <;> cases b <;> first | rfl | exact absurd rfl hne
theorem uE (B:Gd C S G W) (ho:PE C e (rd G.gm W xa)) (he:PE C f (rd G.gm W xb)) (m:M1 C e "index" apos f cpos):PE C (.Call (.Attribute e "index" apos) [f] [] cpos) (rd G.gm W (.mt .index xa #v[xb])):=by
 refine ⟨fun pins sh σ H Q I h=>?_⟩
 obtain ⟨g,l,s,SS,h⟩:=h
 refine wpAny_Call_method_late m.base m.few m.line rfl (thn (ho.run pins sh σ H (fun v H1=>∃ g1 d s1,SR G.Y g1 σ H1 l s1∧VS G.Y g1 σ l d v∧MI.recv .index d=true ∧
  ValE G.gm W g1 σ l ((ju G.fs G.gs #v[xb] l s1).bind fun (ds,s2)=>MI.run .index d ds s2) Q) I ?_) fun u s1 ⟨x,H1,I1,rx,g1,d,t1,S1,v1,hr,h1⟩=>?_)
 ·refine cu SS (show ValE G.gm W g σ l ((b7 G.fs G.gs xa l s).bind _) Q from h) fun d t s1 g1 v H1 e1 S1 v1 h1=>?_
  have h1:ValE G.gm W g1 σ l (if MI.recv .index d=false then .no else (ju G.fs G.gs #v[xb] l s1).bind fun (ds,s2)=>MI.run .index d ds s2) Q:=h1
  cases er:MI.recv .index d with
  | true =>
   rw [er,av (by simp)] at h1
   exact ⟨g1,d,s1,S1,v1,er,h1⟩
  | false =>
   rw [er,ap rfl] at h1
   exact h1.elim
 have h1:ValE G.gm W g1 σ l ((cf (b7 G.fs G.gs xb l t1) fun d s1=>R.ok ([d],s1)).bind fun (ds,s2)=>MI.run .index d ds s2) Q:=h1
 rw [gv] at h1
 cases d with
 | tup xs =>
  have arg:rd G.gm W xb σ H1 fun y H2=>∃ a,∃ ns:List Int,∃ k,x=.ref a∧y=.int k∧TuF H2 a (ns.map V.int)∧k∈ns∧Q (.int (ns.idxOf k:Nat)) H2:=by
   refine iu S1 h1 fun y s2 g2 yv H2 e2 S2 r2 h2=>?_
   cases y with
   | int k =>
    have h2:ValE G.gm W g2 σ l (match dF xs with | some ns=>if k∈ns then cg (.int (ns.idxOf k:Nat)) s2 else .no | none=>.no) Q:=h2
    cases ei:dF xs with
    | none=>rw [ei] at h2; exact h2.elim
    | some ns =>
     rw [ei] at h2
     have h2:ValE G.gm W g2 σ l (if k∈ns then cg (.int (ns.idxOf k:Nat)) s2 else .no) Q:=h2
     split at h2
     ·obtain ⟨a,vs,rfl,fa,ha,ra⟩:=((v1.ext e2).rd S2).tup S2
      rw [cZ ei] at ra
      have e3:=ra.ints
      subst e3
      cases r2
      exact ⟨a,ns,k,rfl,rfl,ha,by assumption,h2.frz S2 (.int _)⟩
     ·exact h2.elim
   | _=>exact h2.elim
  obtain ⟨a,vs,rfl,fa,ha,ra⟩:=(v1.rd S1).tup S1
  cases rx
  obtain ⟨o,hd,ha⟩:=ha
  obtain ⟨ho',_,its,rv,o2,ho2,hc,_⟩:=I1.hok a _ ha
  rw [ho'] at ho2
  cases ho2
  refine ⟨"tuple",_,PySem.F.plainAttrs_tuple,PySem.F.slot_tuple_index,PySem.F.type_tuple_index,⟨o,ho',hc⟩,fun b e=>by cases e; exact ⟨o,ho',hd⟩,?_⟩
  rw [m.trees]
  refine Calls.callWith_builtin rfl (Calls.evalArgs_plain (Calls.spliced_cons (thn (he.run pins s1 σ H1 _ I1 arg) fun w s2 ⟨y,H2,I2,ry,a',ns,k,ea,ey,hT,hk,q⟩=>Calls.spliced_nil ?_)))
  cases ea
  subst ey
  obtain ⟨t,rfl⟩:=ry
  obtain ⟨its,rv,hl,_⟩:=I2.tuple (hT.sq (K:=C.K))
  exact SeqAt.tuple_index_ints hl (intsAre_of rv) hk ⟨.int (ns.idxOf k:Nat),H2,I2.tok _,⟨_,rfl⟩,q⟩
 | lst xs =>
  have arg:rd G.gm W xb σ H1 fun y H2=>∃ a,∃ bs:List Bool,∃ b,x=.ref a∧y=.bl b∧H2 a=some (.lst (bs.map V.bl))∧b∈bs∧Q (.int (bs.idxOf b:Nat)) H2:=by
   refine iu S1 h1 fun y s2 g2 yv H2 e2 S2 r2 h2=>?_
   cases y with
   | bl k =>
    have h2:ValE G.gm W g2 σ l (match hJ xs with | some ns=>if k∈ns then cg (.int (ns.idxOf k:Nat)) s2 else .no | none=>.no) Q:=h2
    cases ei:hJ xs with
    | none=>rw [ei] at h2; exact h2.elim
    | some ns =>
     rw [ei] at h2
     have h2:ValE G.gm W g2 σ l (if k∈ns then cg (.int (ns.idxOf k:Nat)) s2 else .no) Q:=h2
     split at h2
     ·obtain ⟨a,vs,rfl,ha,ra⟩:=((v1.ext e2).rd S2).lst S2
      rw [gH ei] at ra
      have e3:=ra.bls
      subst e3
      cases r2
      exact ⟨a,ns,k,rfl,rfl,ha,by assumption,h2.frz S2 (.int _)⟩
     ·exact h2.elim
   | _=>exact h2.elim
  obtain ⟨a,vs,rfl,ha,ra⟩:=(v1.rd S1).lst S1
  cases rx
  obtain ⟨its,rv,pl,_⟩:=I1.list (.inl (.inl ha))
  obtain ⟨o,n,ho',hc,hd,_⟩:=pl
  refine ⟨"list",_,PySem.F.plainAttrs_list,PySem.F.slot_list_index,PySem.F.type_list_index,⟨o,ho',hc⟩,fun b e=>by cases e; exact ⟨o,ho',hd⟩,?_⟩
  rw [m.trees]
  refine Calls.callWith_builtin rfl (Calls.evalArgs_plain (Calls.spliced_cons (thn (he.run pins s1 σ H1 _ I1 arg) fun w s2 ⟨y,H2,I2,ry,a',bs,b,ea,ey,hT,hk,q⟩=>Calls.spliced_nil ?_)))
  cases ea
  subst ey
  have hb:bs.idxOf b < bs.length:=List.idxOf_lt_length_iff.mpr hk
  refine mt_index pins s2 σ H2 (.ref a) [.bl b] _ [w] Q I2 rfl #v[ry] ⟨a,_,_,bs.idxOf b,.bl b,rfl,rfl,.inl (.inl hT),rfl,?_,?_,?_,qy,q⟩
  ·rw [List.all_map]
   exact aR.mpr fun _ _=>rfl
  ·rw [aD,ah hb,List.getElem_idxOf hb]
   rfl
  ·cases b <;> rfl
 | _=>cases hr

theorem xG (B:Gd C S G W) (hl:(apos.endLine == cpos.line)=true) (hn:cD e=true) (hs:bZ f=true) (ho:PE C e (rd G.gm W xa)) (he:PE C f (rd G.gm W xb)) :
  PE C (.Call (.Attribute e "join" apos) [f] [] cpos) (rd G.gm W (.rm .join xa xb)):=by
 refine PE.imp (L2.pe_join ho he (by rw [bY hs]; rfl) (ib hn _) hl) ?_
 rintro σ H Q ⟨g,l,s,SS,h⟩
 refine cu SS (show ValE G.gm W g σ l ((b7 G.fs G.gs xa l s).bind _) Q from h) fun d t s1 g1 v H1 e1 S1 v1 h1=>?_
 cases d with
 | str z =>
  obtain rfl:=(v1.rd S1).str
  refine ⟨⟨z,rfl⟩,?_⟩
  have h1:ValE G.gm W g1 σ l ((b7 G.fs G.gs xb l s1).bind fun (y,_,s2)=>MI.runT .join z y s2) Q:=h1
  refine cu S1 h1 fun d t s2 g2 v H2 e2 S2 v2 h2=>?_
  cases d with
  | lst ys =>
   obtain ⟨a,vs,rfl,hH,r⟩:=(v2.rd S2).lst S2
   have h5:ValE G.gm W g2 σ l (match fk ys with
    | some zs=>if (zs.map (·.length)).sum+zs.length*z.length≤16777216 then cg (.str (Txt.join z zs)) s2 else .no
    | none=>.no) Q:=h2
   clear h2
   cases hi:fk ys with
   | none=>rw [hi] at h5; exact h5.elim
   | some zs =>
    rw [hi] at h5
    have h6:ValE G.gm W g2 σ l (if (zs.map (·.length)).sum+zs.length*z.length≤16777216 then cg (.str (Txt.join z zs)) s2 else .no) Q:=h5
    clear h5
    split at h6
    ·rename_i hz
     have e3:=fB hi
     subst e3
     have e4:=r.strs
     subst e4
     exact ⟨z,a,zs,rfl,rfl,.inl (.inl (.inl hH)),hz,h6.frz S2 (.str _)⟩
    ·exact h6.elim
  | _=>exact h2.elim
 | _=>exact h1.elim
theorem uF (B:Gd C S G W) (hl:(apos.endLine == cpos.line)=true) (hn:cD e=true) (hs:bZ f=true) (ho:PE C e (rd G.gm W xa)) (he:PE C f (rd G.gm W xb)) :
  PE C (.Call (.Attribute e "split" apos) [f] [] cpos) (rd G.gm W (.rm .split xa xb)):=by
 refine PE.imp (L2.pe_split ho he (by rw [bY hs]; rfl) (ib hn _) hl) ?_
 rintro σ H Q ⟨g,l,s,SS,h⟩
 refine cu SS (show ValE G.gm W g σ l ((b7 G.fs G.gs xa l s).bind _) Q from h) fun d t s1 g1 v H1 e1 S1 v1 h1=>?_
 cases d with
 | str z =>
  obtain rfl:=(v1.rd S1).str
  refine ⟨⟨z,rfl⟩,?_⟩
  have h1:ValE G.gm W g1 σ l ((b7 G.fs G.gs xb l s1).bind fun (y,_,s2)=>MI.runT .split z y s2) Q:=h1
  refine cu S1 h1 fun d t s2 g2 v H2 e2 S2 v2 h2=>?_
  cases d with
  | str b =>
   obtain rfl:=(v2.rd S2).str
   have h6:ValE G.gm W g2 σ l (if (b.length == 0)=false∧z.length+2≤sizeLine∧(Txt.split z b).length≤sizeLine then dY (.lst ((Txt.split z b).map D.str)) s2 else .no) Q:=h2
   clear h2
   split at h6
   ·rename_i hz
    exact ⟨z,b,rfl,rfl,hz.1,hz.2.1,fun p hp=>h6.lstN S2 (Rps.ofStrs _) hp⟩
   ·exact h6.elim
  | _=>exact h2.elim
 | _=>exact h1.elim

theorem xH (B:Gd C S G W) (hh:S.hot=false) {p p2 pos2:Pos} (hg:cP S.sc "tuple"=true) (hg2:cP S.sc "reversed"=true) (hs:bZ e=true) (ha:PE C e (rd G.gm W xa)) :
  PE C (.Call (.Name "tuple" p) [.Call (.Name "reversed" p2) [e] [] pos2] [] pos) (rd G.gm W (.trev xa)):=by
 refine PE.imp (om (B.calm hh) (B.gl hg) (B.blt _ (by symm)) (B.gl hg2) (B.blt _ (by symm)) ha (bY hs)) ?_
 rintro σ H Q ⟨g,l,s,SS,h⟩
 refine cu SS (show ValE G.gm W g σ l ((b7 G.fs G.gs xa l s).bind _) Q from h) fun d t s1 g1 v H1 e1 S1 v1 h1=>?_
 cases d with
 | lst ds =>
  obtain ⟨a,vs,rfl,hH,r⟩:=(v1.rd S1).lst S1
  refine ⟨a,vs,rfl,.inl (.inl hH),?_⟩
  exact (show ValE G.gm W g1 σ l (cg (.tup ds.reverse) s1) Q from h1).tupN S1 r.rev
 | _=>exact h1.elim

theorem lj:∀ (n:Nat) (ns:List Int),ns.length≤n→ns.eraseDups.Nodup
 | _,[],_=>by rw [List.eraseDups_nil]; exact .nil
 | 0,a :: r,h=>absurd h (Nat.not_succ_le_zero _)
 | n+1,a :: r,h=>by
  rw [List.eraseDups_cons,bQ]
  refine ⟨fun z=>?_,lj n _ (Nat.le_trans (List.length_filter_le _ _) (Nat.le_of_succ_le_succ h))⟩
  have:=List.mem_eraseDups.mp z
  simp at this
theorem uG {ns out:List Int} (h1:out.Pairwise (· < ·)) (h2:∀ k,k∈out↔k∈ns):og ns=out:=by
 have hp:(og ns).Perm ns.eraseDups:=List.mergeSort_perm _ _
 have hs:(og ns).Pairwise (·≤·):=by
  have q:=List.pairwise_mergeSort (le:=fun a b:Int=>decide (a≤b)) (fun a b c h1 h2=>by simp at *; omega) (fun a b=>by simp; omega) ns.eraseDups
  exact q.imp fun h=>by simpa using h
 have nd:out.Nodup:=a7.mpr (h1.imp fun h=>by omega)
 have pe:(og ns).Perm out:=by
  refine hp.trans ((List.perm_ext_iff_of_nodup (lj _ _ (aA _)) nd).mpr fun k=>?_)
  rw [h2,List.mem_eraseDups]
 exact PySem.W.Srt.one _ _ pe hs (h1.imp fun h=>by omega)
theorem xI (B:Gd C S G W) (hh:S.hot=false) {p p2 pos2:Pos} (hg:cP S.sc "sorted"=true) (hg2:cP S.sc "set"=true) (hs:bZ e=true) (ha:PE C e (rd G.gm W xa)) :
  PE C (.Call (.Name "sorted" p) [.Call (.Name "set" p2) [e] [] pos2] [] pos) (rd G.gm W (.sset xa)):=by
 have q1:=pe_callTy (p:=p2) (pos:=pos2) (ux (B.calm hh)) (B.gl hg2) (B.blt _ (by symm)) (by symm) (pa_cons ha pa_nil (bY hs)) (by decide) (by decide) (bY hs) (by rfl)
 refine PE.imp (pe_callB (oK (B.calm hh)) (B.gl hg) (B.blt _ (by symm)) (by symm) (pa_cons q1 pa_nil (by rfl)) (by decide) (by decide) (by rfl) (by rfl)) ?_
 rintro σ H Q ⟨g,l,s,SS,h⟩
 refine cu SS (show ValE G.gm W g σ l ((b7 G.fs G.gs xa l s).bind _) Q from h) fun d t s1 g1 v H1 e1 S1 v1 h1=>?_
 cases d with
 | lst ds =>
  obtain ⟨a,vs,rfl,hH,r⟩:=(v1.rd S1).lst S1
  have h5:ValE G.gm W g1 σ l (match dF ds with | some ns=>if ns.length≤4000 then dY (.lst ((og ns).map D.int)) s1 else .no | none=>.no) Q:=h1
  clear h1
  cases hi:dF ds with
  | none=>rw [hi] at h5; exact h5.elim
  | some ns =>
   rw [hi] at h5
   have h6:ValE G.gm W g1 σ l (if ns.length≤4000 then dY (.lst ((og ns).map D.int)) s1 else .no) Q:=h5
   clear h5
   split at h6
   ·rename_i hz
    have e2:=cZ hi
    subst e2
    have e3:=r.ints
    subst e3
    refine ⟨a,ns,rfl,.inl (.inl hH),hz,fun p c hp _=>⟨p,_,c,rfl,upd_same,fun ns' q k1 k2 _ hq=>?_⟩⟩
    obtain ⟨S2,E2⟩:=S1.new (o:=SetO C.w p (fun j=>decide (j∈ns)) c) hp
    have e4:=uG k1 fun k=>(k2 k).trans decide_eq_true_iff
    rw [e4] at h6
    exact (ValE.ext E2 h6).lstN S2 (Rps.ofInts ns') hq
   ·exact h6.elim
 | _=>exact h1.elim

theorem xJ (B:Gd C S G W) (hh:S.hot=false) {p p2 pos2:Pos} (hg:cP S.sc "len"=true) (hg2:cP S.sc "set"=true) (hs:bZ e=true) (ha:PE C e (rd G.gm W xa)) :
  PE C (.Call (.Name "len" p) [.Call (.Name "set" p2) [e] [] pos2] [] pos) (rd G.gm W (.lset xa)):=by
 refine ⟨fun pins s σ H Q I h=>?_⟩
 obtain ⟨g,l,st,SS,h⟩:=h
 have hu:=B.hu
 have q:=ha.run pins s σ H (fun v H1=>∃ (a:Addr) (ds:List D) (ks:List NestedKey) (vs:List V) (F:Fr),v=V.ref a∧SqL C.K H1 a vs∧Rps G.Y F ds vs∧Same F.h H1∧D.nks ds=some ks∧fS ds ks=true∧Q (.int ds.length) H1) I
  (cu SS (show ValE G.gm W g σ l ((b7 G.fs G.gs xa l st).bind _) Q from h) fun d t s1 g1 v H1 e1 S1 v1 h1=>by
   cases d with
   | lst ds =>
    obtain ⟨a,vs,rfl,hH,r⟩:=(v1.rd S1).lst S1
    have h5:ValE G.gm W g1 σ l (match D.nks ds with | some ks=>if fS ds ks=true then cg (.int ds.length) s1 else .no | none=>.no) Q:=h1
    clear h1
    cases hi:D.nks ds with
    | none=>rw [hi] at h5; exact h5.elim
    | some ks =>
     rw [hi] at h5
     have h6:ValE G.gm W g1 σ l (if fS ds ks=true then cg (.int ds.length) s1 else .no) Q:=h5
     clear h5
     split at h6
     ·rename_i hz
      exact ⟨a,ds,ks,vs,g1.F,rfl,.inl (.inl hH),r,S1.sF,hi,hz,h6.frz S1 (.int _)⟩
     ·exact h6.elim
   | _=>exact h1.elim)
 refine Call_ (ld_blt I (B.gl hg) (B.blt _ (by symm)) PySem.boot_len ?_)
 refine PyProof.Rows.callWith_builtin1 (PyProof.Rows.args_cons ?_ rfl) rfl rfl
 refine Call_ (ld_blt I (B.gl hg2) (B.blt _ (by symm)) PyProof.Rows.boot_set ?_)
 refine PyProof.Rows.callWith_type1 (PyProof.Rows.args_cons (thn q fun v s1 ⟨x,H1,I1,r1,q1⟩=>PyProof.Rows.args_nil ?_) (bY hs)) (bY hs) rfl
 obtain ⟨a,ds,ks,vs,F,rfl,hq,rp,hF,hk,ok,q1⟩:=q1
 cases r1
 obtain ⟨few,nd,dep,tr⟩:=xD ok
 obtain ⟨its,r,pl,hz⟩:=I1.list hq
 obtain ⟨ps,e1,e2,e3⟩:=r8 I1 hF hk dep tr rp r
 have n1:ps.length=ds.length:=by
  have:=bj List.length e2
  rw [ac] at this
  rw [← this,← r.length,rp.length]
 refine GN.set_n (P:=C.prog) (w:=C.w) ps (I1.ok.hd (B.calm hh)) pl.isList (by simpa using e2) (by rw [e1]; exact nd) e3 (by omega) (by omega) fun h' tk L es ep t R pm hk=>?_
 refine PyProof.Rows.args_nil ?_
 obtain ⟨o,ho,hex,hd⟩:=R.ob
 have sz:es.size=ds.length:=by rw [GN.esz R.rows,pm.length_eq,n1]
 have I2:Inv C pins σ H1 { s1 with heap:=h',toks:=tk }:=I1.kept fun b o e=>hk b o e
 exact call_len_set ho hex hd (GN.SetN.fits (s:={ s1 with heap:=h',toks:=tk }) R) (by rw [sz]; omega) ⟨.int ds.length,H1,I2.tok _,⟨_,by rw [sz]⟩,q1⟩

theorem AK (B:Gd C S G W) {k:Nat} {p1 p2 p3:Pos} (ha:PE C e (rd G.gm W xa)) :
  PE C (.Subscript e (.Slice none none (some (.UnaryOp .USub (.Constant (.int 1) k p1) p2)) p3) pos) (rd G.gm W (.rsl xa)):=by
 refine PE.imp (GMS.pe_revT ha) ?_
 rintro σ H Q ⟨g,l,s,SS,h⟩
 refine cu SS (show ValE G.gm W g σ l ((b7 G.fs G.gs xa l s).bind _) Q from h) fun d t s1 g1 v H1 e1 S1 v1 h1=>?_
 cases d with
 | tup ds =>
  obtain ⟨a,vs,rfl,_,hH,r⟩:=(v1.rd S1).tup S1
  refine ⟨a,vs,rfl,hH.sq,?_⟩
  exact (show ValE G.gm W g1 σ l (cg (.tup ds.reverse) s1) Q from h1).tupN S1 r.rev
 | _=>exact h1.elim

theorem kH {Y:Wd} {F:Fr} {ds:List D} {vs:List V} (r:Rps Y F ds vs):∀ is:List Nat,Rps Y F (is.filterMap (ds[·]?)) (is.filterMap (vs[·]?))
 | []=>.nil
 | i :: is=>by
  rw [bq,bq]
  cases h:ds[i]? with
  | none =>
   have h2:vs[i]?=none:=by
    rw [List.getElem?_eq_none_iff] at h ⊢
    rw [← r.length]
    exact h
   rw [h2]
   exact kH r is
  | some x =>
   obtain ⟨u,h2,h3⟩:=r.get h
   rw [h2]
   exact .cons h3 (kH r is)
theorem AL (B:Gd C S G W) {f:Expr} {p3:Pos} (ha:PE C e (rd G.gm W xa)) (hk:PO C (some f) (wS G.gm W xb)) :
  PE C (.Subscript e (.Slice none none (some f) p3) pos) (rd G.gm W (.ssl xa xb)):=by
 refine PE.imp (GMS.pe_stepL ha hk) ?_
 rintro σ H Q ⟨g,l,s,SS,h⟩
 refine cS SS (show ValR G.gm W g σ ((b7 G.fs G.gs xa l s).bind _) (KE G.gm σ l Q) from ValE.toR h) fun d t s1 g1 v H1 e1 S1 v1 h1=>?_
 refine kC S1 h1 fun p s2 g2 H2 e2 S2 h2=>?_
 cases d with
 | lst ds =>
  cases p with
  | none=>exact h2.elim
  | some i =>
   have h2:ValR G.gm W g2 σ (if 0 < i then dY (.lst (gZ i ds)) s2 else .no) (KE G.gm σ l Q):=h2
   by_cases hi:0 < i
   ·rw [ap hi] at h2
    obtain ⟨a,vs,rfl,hH,r⟩:=((v1.ext e2).rd S2).lst S2
    refine ⟨a,vs,i,rfl,rfl,hi,.inl (.inl hH),fun q hq=>?_⟩
    refine (ValE.ofR h2).lstN S2 ?_ hq
    unfold gZ
    rw [r.length]
    exact kH r _
   ·rw [av hi] at h2
    exact h2.elim
 | _=>exact h2.elim
end
end GM


namespace GM
open PySem PySem.Spec PySem.Calls PyProof.Rows Builtin.ObjectAttr Builtin.Getset_descriptor

def ClsAt (D x:Addr) (h:Heap):Prop:=∃ o:Obj,h.get? x=some o∧o.cls=.ref D
section
variable {P:Program} {w:World} {A:Around} {E:Value→Shared→Prop} {s:Shared} {K:PySem.W.Frag} {x D:Addr}
theorem ClsAt.ty {M:Model} {h:Heap}:ClsAt D x h→PySem.W.Looks M h (typeOf (.ref x)) (.ref D)
 | ⟨_,e,c⟩=>c ▸ (PySem.W.Looks.ld (part:=none) e).andThen .now

theorem oM {M:Model} {h:Heap} {n:Str} {a g:Value} (X:K.In h) (f1:PySem.W.findIn K (.ref D) n=some (some a)) (f2:PySem.W.specialIn K a "__get__"=some (some g)) (f3:PySem.W.takesIn K a=some true) :
  PySem.W.Looks M h (find (.ref x) (.ref D) n) (.bind g a):=by
 have l1:PySem.W.Looks M h (getOf (some a)) (some g):=PySem.W.looks_specialIn X f2
 have l2:PySem.W.Looks M h (dataDescriptor? (some a) (some g)) (some (g,a)):=(PySem.W.looks_takesIn X f3).andThen .now
 exact (PySem.W.looks_findIn X f1).andThen (l1.andThen (l2.andThen (PySem.W.Looks.tag .now)))
theorem oN {t:Value} {R:Result→Shared→Prop} (X:K.In s.heap) (c:ClsAt D x s.heap) (m:PySem.W.mroIn K D (.type "object")=some true) (q:R (.ok (.ret (.ref D))) s) :
  codeAny (model P w) A (.call (.builtin "getset_descriptor.__get__") ⟨[.builtin "object.__class__",.ref x,t],[]⟩) R s:=by
 have T:=c.ty (M:=model P w)
 have Z:=PySem.W.looks_mroIn (M:=model P w) X m
 obtain ⟨h0,g0,d0,t0,o0⟩:=s
 refine codeAny_call_builtin PySem.W.KF.slot_gs.plain PySem.W.KF.entry_gs (PySem.W.KF.slot_gs.check _ _ _ _ _ _ _ _ PySem.W.KF.type_class (PySem.W.KF.args_gs _ _ _) ?_)
 unfold Builtin.«getset_descriptor.__get__» descrGet descrGetter descrCheckInstance descrNameAndClass isInstance
 rw [PySem.W.dga_obj]
 refine wpAny_bind (wpAny_pure ?_)
 simp only [PySem.W.KF.owner_class]
 repeat lk
 refine ⟨Code.quiet_builtin _ (by symm),codeAny_builtin PySem.W.KF.entry_class ?_⟩
 unfold Builtin.«object.__class__» shownTypeOf
 repeat lk
 exact q
theorem uH:(Value.builtin "BaseException.__getattribute__" == Value.builtin "object.__getattribute__")=false:=by symm
set_option maxHeartbeats 1000000 in

theorem se {Q:Option Value→Shared→Prop} (F:L2.ExcC K D) (X:K.In s.heap) (c:ClsAt D x s.heap) (q:Q (some (.ref D)) { s with toks:=s.toks+1 }):wpAny (model P w) A (getAttr? (.ref x) "__class__") Q E s:=by
 have T:=c.ty (M:=model P w)
 have l1:=PySem.W.looks_findIn (M:=model P w) X F.hg
 have l2:=PySem.W.looks_findIn (M:=model P w) X F.hk
 have l3:PySem.W.Looks (model P w) s.heap (find (.ref x) (.ref D) "__class__") _:=oM X F.ha F.hn F.ht
 have l4:PySem.W.Looks (model P w) s.heap (isInstance (.ref x) (.type "BaseException")) true:=T.andThen (PySem.W.looks_subIn X F.hs)
 have n1:(onTheHeap (Value.ref D) && Value.builtin "BaseException.__getattribute__" == Value.builtin "object.__getattribute__")=false:=by rw [uH,bT]
 obtain ⟨h0,g0,d0,t0,o0⟩:=s
 unfold getAttr? getAttrBy? getAttrBy
 refine wpAny_bind (wpAny_mkText (wpAny_bind (wpAny_attempt (wpAny_holding (wpAny_bind (T.at (wpAny_bind (l1.at ?_))))))))
 show wpAny _ _ (if (onTheHeap (Value.ref D) && Value.builtin "BaseException.__getattribute__" == Value.builtin "object.__getattribute__")=true then _ else _) _ _ _
 rw [n1,av aa]
 unfold getAttrByItsOwn hookBefore
 refine wpAny_bind ?_
 rw [ap (show onTheHeap (Value.ref D)=true from rfl)]
 refine l2.at (wpAny_bind (wpAny_attempt (wpAny_holding ?_)))
 unfold callGetattribute boundAndCalled
 rw [bU,av aa,PySem.F.excAttr_ValueError.ga.bind (.ref x)]
 refine wpAny_bind (wpAny_pure ?_)
 show wpAny _ _ (call (.builtin "BaseException.__getattribute__") [.ref x,.str "__class__" t0]) _ _ _
 refine wpAny_call (codeAny_call_builtin PySem.F.excAttr_ValueError.ga.plain PySem.F.entry_bexc_ga ?_)
 refine @PySem.W.check_slot (model P w) _ _ ⟨h0,g0,d0,t0+1,o0⟩ "BaseException.__getattribute__" "BaseException" "__getattribute__" (.ref x) [.str "__class__" t0] [] _ (by symm) (by symm) l4 (PySem.F.args_bexc_ga (.ref x) (.str "__class__" t0)) ?_
 unfold Builtin.«object.__getattribute__»
 refine wpAny_bind (wpAny_of_eq (a:=((Value.ref x:Value),[Value.str "__class__" t0])) (by first | rfl | (simp only [slotArgs]; rfl)) ?_)
 refine wpAny_bind (wpAny_pure (wpAny_bind (T.at (wpAny_bind (l3.at ?_)))))
 show wpAny _ _ (holding [Value.builtin "object.__class__"] (call (.builtin "getset_descriptor.__get__") [.builtin "object.__class__",.ref x,.ref D]) >>= ret) _ _ _
 refine wpAny_bind (wpAny_holding (wpAny_call (oN (s:=⟨h0,g0,d0,t0+1,o0⟩) X c F.hm ?_)))
 refine wpAny_pure ?_
 show wpAny _ _ (handedOut (.ref D)) _ _ _
 rw [PySem.W.handedOut_of (v:=.ref D) rfl]
 first | exact wpAny_pure (wpAny_pure q) | exact wpAny_pure q | exact wpAny_pure (wpAny_bind (wpAny_pure (wpAny_pure q)))

theorem uI (F:L2.ExcC K D):PySem.W.KitX K (.ref x) (.ref D) (ClsAt D x):=by
 refine ⟨fun M h _ c=>c.ty,fun M h X _ A' Q' E' s' k q=>?_,(PySem.W.handS_kitx_exc (x:=x) (ox:=default) F.hg F.hk F.hs F.hd F.ha F.hn F.ht F.hm).ne,fun X c q=>se F X c q⟩
 obtain ⟨cd,e,_⟩:=PySem.W.any_some F.hd
 unfold PySem.W.clsIn at e
 split at e
 ·rename_i ho
  exact wpAny_bind (wpAny_loadPart (k _ _ (X _ _ ho)) (wpAny_pure q))
 ·cases e
end
end GM


namespace GM
open PySem PySem.Spec PyProof.Rows L2
section
variable {C:Cx} {S:Sc} {G:Gn} {W:WX} {e f b tg:Expr} {es:List Expr} {pos apos cpos:Pos} {xa xb xc:X}
theorem RdV.exc {Y:Wd} {F:Fr} {H:Hp} {nm:Str} {v:V} (h:RdV Y F H (.exc nm) v):∃ a,v=.ref a∧Y.pn a=some nm:=by
 rcases h with h | h
 ·cases h with
  | exc h=>exact ⟨_,rfl,h⟩
 ·cases h

theorem xK {pins:List (Addr × Obj)} {σ:L2.St} {H:Hp} {s:Shared} {p:Addr × Obj} (I:Inv C pins σ H s) (hp:p∈C.pn):L2H.PinOk C.stack H s p:=by
 have P1:=I.pin p (aJ _ hp)
 exact ⟨P1.1,P1.2.1,fun hm=>(ax.mp (I.stkSub p.1 hm)).elim P1.2.2.1 P1.2.2.2.1,P1.2.2.2.2⟩


def Dr (C:Cx):List V→Hp→VK→Prop:=fun xs H Q=>∃ (a D:Addr) (oe:Obj) (c:V) (cv:Value) (k:Bool),xs=[.ref a,c]∧(a,oe)∈C.pn∧L2.ExcC C.K D∧oe.cls=.ref D ∧
 (∀ u,RelV c u→u=cv)∧PySem.W.kitOne C.K (.ref D) cv=some k∧Q (.bl k) H
theorem m9:CallR C (.builtin "isinstance") (Dr C):=by
 intro pins s σ H xs us Q I r h
 obtain ⟨a,D,oe,c,cv,k,rfl,hp,X,hz,hcv,e,q⟩:=h
 cases r with
 | cons rx rr =>
  cases rr with
  | cons rt rr =>
   cases rr
   cases rx
   have ec:=hcv _ rt
   subst ec
   obtain ⟨hget,_⟩:=I.pin (a,oe) (aJ _ hp)
   exact PySem.W.kia_one (uI X) I.kIn ⟨oe,hget,hz⟩ e (fun z=>nomatch z) fun tk=>⟨.bl k,H,I.kept (t':=tk) fun _ _ z=>z,rfl,q⟩
theorem oO {K:PySem.W.Frag} {t c:Value} {k:Bool} (h:PySem.W.exmOne K t c=some k) (hs:PySem.W.subIn K t t=some true):PySem.W.kitOne K t c=some k:=by
 have e1:(if (PySem.W.subIn K c (.type "BaseException") == some true)=true then PySem.W.kitCls K t c else none)=some k:=h
 split at e1
 ·unfold PySem.W.kitOne
  split
  ·rename_i q
   have e2:t=c:=eq_of_beq q
   subst e2
   unfold PySem.W.kitCls at e1
   cases t with
   | ref a =>
    simp only at e1
    split at e1
    ·rw [hs] at e1; exact e1
    ·cases e1
   | type T =>
    simp only at e1
    split at e1
    ·rw [hs] at e1; exact e1
    ·cases e1
   | _=>cases e1
  ·exact e1
 ·cases e1
theorem AM (B:Gd C S G W) {j:Nat} {y:Str} {p p2:Pos} (hg:cP S.sc "isinstance"=true) (hj:(j,y)∈S.xs) (hg2:cP S.sc y=true) (hn:dZ y=true) (hs:bZ e=true) (ha:PE C e (rd G.gm W xa)) :
  PE C (.Call (.Name "isinstance" p) [e,.Name y p2] [] pos) (rd G.gm W (.xis j xa)):=by
 cases ef:G.fs[j]? with
 | none =>
  refine PE.imp (t:=fun _ _ _=>False) ⟨fun _ _ _ _ _ _ h=>h.elim⟩ ?_
  rintro σ H Q ⟨g,l,s,SS,h⟩
  have h:ValE G.gm W g σ l (b7 G.fs G.gs (.xis j xa) l s) Q:=h
  simp only [b7,ef] at h
  exact h
 | some F =>
  have eF:=B.xs j y F hj ef
  subst eF
  obtain hne:S.xs≠[]:=fun z=>by rw [z] at hj; cases hj
  have X:=B.xi hne
  have rd1:∀ {σ:L2.St} {H:Hp} {Q Q2:VK},rd G.gm W (.xis j xa) σ H Q→(∀ nm k s1 l g1 v H1,SR G.Y g1 σ H1 l s1→RdV G.Y g1.F H1 (.exc nm) v→G.ms nm y=some k→ValE G.gm W g1 σ l (cg (.bl k) s1) Q→Q2 v H1)→rd G.gm W xa σ H Q2:=by
   rintro σ H Q Q2 ⟨g,l,s,SS,h⟩ hk
   have h:ValE G.gm W g σ l (b7 G.fs G.gs (.xis j xa) l s) Q:=h
   have e0:b7 G.fs G.gs (.xis j xa) l s=(b7 G.fs G.gs xa l s).bind fun (x,_,s1)=>match x with
    | .exc nm=>match (tZ G.ms y).run [.exc nm] with
     | .ok (.bl b,.fr)=>cg (.bl b) s1
     | _=>.no
    | _=>.no:=by
    simp only [b7,ef] <;> rfl
   rw [e0] at h
   refine cu SS (show ValE G.gm W g σ l ((b7 G.fs G.gs xa l s).bind _) Q from h) fun d t s1 g1 v H1 e1 S1 v1 h1=>?_
   cases d with
   | exc nm =>
    have h1:ValE G.gm W g1 σ l (match (match G.ms nm y with | some b=>(.ok (.bl b,.fr):R (D × Tag)) | none=>.no) with
     | .ok (.bl b,.fr)=>cg (.bl b) s1
     | _=>.no) Q:=h1
    cases em:G.ms nm y with
    | none=>rw [em] at h1; exact h1.elim
    | some k =>
     rw [em] at h1
     exact hk nm k s1 l g1 v H1 S1 (v1.rd S1) em h1
   | _=>exact h1.elim
  by_cases hy:∃ c,C.mg y=some (.ref c)
  ·obtain ⟨c,hu⟩:=hy
   have hb:PE C (.Name y p2) (tC (.ref c)):=pe_glob (B.gl hg2) hu rfl (di hn)
   refine PE.imp (pe_callB m9 (B.gl hg) (B.blt _ (by symm)) (by symm) (pa_cons ha (pa_cons hb pa_nil) (bY hs)) (by decide) (by decide) (bY hs) (by rfl)) fun σ H Q h=>?_
   refine rd1 h fun nm k s1 l g1 v H1 S1 r em h1=>?_
   obtain ⟨a,rfl,hpn⟩:=r.exc
   obtain ⟨oe,hp,cv,dd,hcv,hz,hf⟩:=B.px a nm hpn
   obtain ⟨Ca,hCa,XC,hsub,_⟩:=X nm y k em
   rw [hCa] at hcv
   obtain rfl:=ad hcv
   exact ⟨a,Ca,oe,.ref c,.ref c,k,rfl,hp,XC,hz.1,(fun u ru=>ru),oO (B.ms nm y k _ _ em hCa hu) hsub,h1.frz S1 (.bl _)⟩
  ·by_cases hv:y="ValueError"∧C.mg y=none
   ·obtain ⟨hv1,hv2⟩:=hv
    have hb:PE C (.Name y p2) (tC (.ty "ValueError")):=pe_bltn (v:=.ty "ValueError") (u:=.type "ValueError") (B.gl hg2) hv2 (by rw [hv1]; exact boot_ValueError) rfl (by rw [hv1]; decide) (by rw [hv1]; decide)
    refine PE.imp (pe_callB m9 (B.gl hg) (B.blt _ (by symm)) (by symm) (pa_cons ha (pa_cons hb pa_nil) (bY hs)) (by decide) (by decide) (bY hs) (by rfl)) fun σ H Q h=>?_
    refine rd1 h fun nm k s1 l g1 v H1 S1 r em h1=>?_
    obtain ⟨a,rfl,hpn⟩:=r.exc
    obtain ⟨oe,hp,cv,dd,hcv,hz,hf⟩:=B.px a nm hpn
    obtain ⟨Ca,hCa,XC,hsub,hor⟩:=X nm y k em
    rw [hCa] at hcv
    obtain rfl:=ad hcv
    rcases hor with ⟨Cb,hCb⟩ | ⟨_,_,hk⟩
    ·exact absurd ⟨Cb,hCb⟩ hy
    ·exact ⟨a,Ca,oe,.ty "ValueError",.type "ValueError",k,rfl,hp,XC,hz.1,(fun u ru=>ru),hk,h1.frz S1 (.bl _)⟩
   ·refine PE.imp (pe_callB (id:="isinstance") (r:=fun _ _ _=>False) (fun _ _ _ _ _ _ _ _ _ h=>h.elim) (B.gl hg) (B.blt _ (by symm)) (by symm) (pa_cons ha (pa_cons (e:=.Name y p2) (te:=fun _ _ _=>False) ⟨fun _ _ _ _ _ _ h=>h.elim⟩ pa_nil) (bY hs)) (by decide) (by decide) (bY hs) (by rfl)) fun σ H Q h=>?_
    refine rd1 h fun nm k s1 l g1 v H1 S1 r em h1=>?_
    obtain ⟨_,_,_,_,hor⟩:=X nm y k em
    rcases hor with ⟨Cb,hCb⟩ | ⟨h1,h2,_⟩
    ·exact hy ⟨Cb,hCb⟩
    ·exact hv ⟨h1,h2⟩

theorem AN (B:Gd C S G W) {c:Str} {p p2:Pos} (hg:cP S.sc "isinstance"=true) (hi:c∈S.ic) (hg2:cP S.sc c=true) (hn:dZ c=true) (hs:bZ e=true) (ha:PE C e (rd G.gm W xa)) :
  PE C (.Call (.Name "isinstance" p) [e,.Name c p2] [] pos) (rd G.gm W (.isc c xa)):=by
 obtain ⟨IC,hm⟩:=B.isc c hi
 have hb:PE C (.Name c p2) (tC (.ref (He.ga C.K c))):=pe_glob (B.gl hg2) hm rfl (di hn)
 refine PE.imp (pe_callB (C8.call_isC IC) (B.gl hg) (B.blt _ (by symm)) (by symm) (pa_cons ha (pa_cons hb pa_nil) (bY hs)) (by decide) (by decide) (bY hs) (by rfl)) ?_
 rintro σ H Q ⟨g,l,s,SS,h⟩
 refine cu SS (show ValE G.gm W g σ l ((b7 G.fs G.gs xa l s).bind _) Q from h) fun d t s1 g1 v H1 e1 S1 v1 h1=>?_
 have h2:ValE G.gm W g1 σ l (match oh s1 c d with
  | some _=>cg (.bl true) s1
  | none=>.no) Q:=h1
 clear h1
 cases ec:oh s1 c d with
 | none=>rw [ec] at h2; exact h2.elim
 | some fs =>
  rw [ec] at h2
  obtain ⟨n,a,dx,fv,_,_,ev,k,hh,hz,hr⟩:=S1.ci (v1.rd S1) ec
  have hh2:H1 a=some (.ins (He.ga C.K c) dx fv):=by rw [← B.hK]; exact hh
  subst ev
  exact ⟨a,dx,fv,rfl,hh2,h2.frz S1 (.bl _)⟩

theorem xL (B:Gd C S G W) {j:Nat} {x:Str} {p:Pos} (hj:j∈S.hx) (hx:S.cs[j]?=some x) (hg:cP S.sc x=true) (hn:dZ x=true) (hs:bZ e=true) (ha:PE C e (rd G.gm W xa)) :
  PE C (.Call (.Name x p) [e] [] pos) (rd G.gm W (.calX j xa)):=by
 cases ef:G.fs[j]? with
 | none =>
  refine PE.imp (t:=fun _ _ _=>False) ⟨fun _ _ _ _ _ _ h=>h.elim⟩ ?_
  rintro σ H Q ⟨g,l,s,SS,h⟩
  have h:ValE G.gm W g σ l (b7 G.fs G.gs (.calX j xa) l s) Q:=h
  simp only [b7,ef] at h
  exact h
 | some F =>
  obtain ⟨a,fd,ps,hF,hm,hk,hb⟩:=B.hx j x F hj hx ef
  refine ⟨fun pins s σ H Q I h=>?_⟩
  obtain ⟨g,l,s0,SS,h⟩:=h
  refine wpAny_Call_Name_kw (ld_glob I (B.gl hg) hm ?_ (di hn))
  have hA:=pa_cons ha pa_nil (bY (es:=[]) (env:=C.env) hs)
  refine PySem.W.callWith_K (h₀:=C.base) I.ok.mod.kin hk (thn (hA.run pos pins s σ H (fun vs H1=>∃ b nm d s1 g1,vs=[.ref b]∧G.Y.pn b=some nm∧F.run [.exc nm]=.ok (d,.fr)∧d.flat=true∧SR G.Y g1 σ H1 l s1∧ValE G.gm W g1 σ l (cg d s1) Q) I ?_) fun us s1 ⟨vs,H1,I1,r,q⟩=>⟨I1.kIn,?_⟩) (bY hs) (dh (by simp [hs]))
  ·have e0:b7 G.fs G.gs (.calX j xa) l s0=(b7 G.fs G.gs xa l s0).bind fun (x,_,s1)=>match x with
    | .exc nm=>match F.run [.exc nm] with
     | .ok (d,.fr)=>if d.flat=true then cg d s1 else .no
     | _=>.no
    | _=>.no:=by
    simp only [b7,ef] <;> rfl
   have h:ValE G.gm W g σ l (b7 G.fs G.gs (.calX j xa) l s0) Q:=h
   rw [e0] at h
   refine cu SS (show ValE G.gm W g σ l ((b7 G.fs G.gs xa l s0).bind _) Q from h) fun d t s1 g1 v H1 e1 S1 v1 h1=>?_
   cases d with
   | exc nm =>
    have h1:ValE G.gm W g1 σ l (match F.run [.exc nm] with
     | .ok (d,.fr)=>if d.flat=true then cg d s1 else .no
     | _=>.no) Q:=h1
    cases er:F.run [.exc nm] with
    | ok q =>
     rw [er] at h1
     obtain ⟨d,t⟩:=q
     cases t with
     | fr =>
      have h1:ValE G.gm W g1 σ l (if d.flat=true then cg d s1 else .no) Q:=h1
      split at h1
      ·rename_i hf
       obtain ⟨b,rfl,hpn⟩:=(v1.rd S1).exc
       exact ⟨b,nm,d,s1,g1,rfl,hpn,er,hf,S1,h1⟩
      ·exact h1.elim
     | _=>exact h1.elim
    | er _ _ _=>rw [er] at h1; exact h1.elim
    | no=>rw [er] at h1; exact h1.elim
   | _=>exact h1.elim
  ·obtain ⟨b,nm,d,s2,g1,rfl,hpn,er,hf,S1,h1⟩:=q
   obtain ⟨u,rfl,ru⟩:=vals1 r
   cases ru
   obtain ⟨oe,hp,ex⟩:=B.px b nm hpn
   have bb:=hb s1 [.ref b] I1.kIn (by rw [aX]; exact hF.1.symm)
   rw [aX] at bb
   refine wpAny_call (codeAny_mono (hF.2 C.A C.stack s1 H1 (b,oe) nm Q B.rmh (xK I1 hp) I1.env0 ex bb ?_) fun r s' hq=>?_)
   ·rw [er]
    exact ⟨hf,fun H' v sm rv=>h1.frz (S1.heap sm) (rv _ _)⟩
   ·cases r with
    | error e =>
     obtain ⟨_,_,_,_,_,_,_,_,_,_,_,_,z⟩:=hq
     exact z.elim
    | ok fl =>
     cases fl with
     | ret u=>exact I1.after hq
     | next=>exact False.elim hq
     | brk=>exact False.elim hq
     | cont=>exact False.elim hq

theorem sf {g:Gh} {σ:L2.St} {l:Lc} {s:cj} {d:D} {t:Tag} {Q:VK} (ht:t≠.nw) (h:ValE G.gm W g σ l (match (generalizing:=false) d,t with
  | .dic false kvs,.nw=>cg (.fdc kvs) s
  | _,_=>.no) Q):False:=by
 cases t with
 | nw=>exact ht rfl
 | _ =>
  cases d with
  | dic kk ps=>cases kk <;> exact h
  | _=>exact h
theorem Ds (ha:PE C e (rd G.gm W xa)):PE C e (rd G.gm W (.kd xa)):=by
 refine PE.imp (pI ha) ?_
 rintro σ H Q ⟨g,l,s,SS,h⟩
 refine j4 SS (show ValE G.gm W g σ l ((b7 G.fs G.gs xa l s).bind _) Q from h) fun d t s1 g1 v H1 e1 S1 v1 h1=>?_
 have h1:ValE G.gm W g1 σ l (match (generalizing:=false) d,t with
  | .dic false kvs,.nw=>cg (.fdc kvs) s1
  | _,_=>.no) Q:=h1
 cases t with
 | nw =>
  cases d with
  | dic kk ps =>
   cases kk with
   | true=>exact h1.elim
   | false =>
    obtain ⟨a,rfl,⟨hF,hm⟩,hB,tp,no⟩:=v1
    cases tp with
    | dk hh r =>
     rename_i kvs
     refine .inr ⟨a,kvs,rfl,hh,fun ob=>?_⟩
     have S2:=S1.wr (o:=.frz ob (.dK kvs)) hF hm hB no
     obtain ⟨S3,e3⟩:=S2.add upd_same hF hm hB no
     exact h1 _ _ _ e3 S3 (.fd upd_same (r.mono e3.f))
  | _=>exact h1.elim
 | fr=>exact (sf (by intro z; cases z) h1).elim
 | bo=>exact (sf (by intro z; cases z) h1).elim
 | ow=>exact (sf (by intro z; cases z) h1).elim

theorem sg {Y:Wd} {F:Fr} {d:D} {q:Key} (h:D.keyOf d=some q):Rp Y F d (kV q):=by
 cases d <;> simp only [D.keyOf,bL,reduceCtorEq] at h
 ·subst h; exact .int _
 ·subst h; exact .str _
theorem Rpk.at {Y:Wd} {F:Fr}:∀ {ps:List (D × D)} {kvs:List (Key × V)} {i:Nat} {p:D × D},Rpk Y F ps kvs→ps[i]?=some p→∃ q v,kvs[i]?=some (q,v)∧D.keyOf p.1=some q∧Rp Y F p.2 v
 | _,_,_,_,.nil,e=>by simp at e
 | _,_,0,_,.cons h r t,e=>by
  obtain rfl:=ad e
  exact ⟨_,_,rfl,h,r⟩
 | _,_,i+1,p,.cons h r t,e=>Rpk.at (i:=i) t e
theorem uJ {Y:Wd} {g0:Gh} {a:Addr} {o:Obj} {kvs:List (Key × V)} {ps:List (D × D)} (hd:g0.F.h a=some (.frz o (.dK kvs))) (r:Rpk Y g0.F ps kvs):Wk Y (Itk a o kvs) g0 (ps.map (·.1)):=by
 intro g i σ H l s e S
 have ha:=S.sF _ _ (e.f.s _ _ hd)
 refine ⟨fun d hd=>?_,fun hi=>⟨ha,by rw [hi,ac,r.length]; exact aA _⟩⟩
 rw [aD,az] at hd
 obtain ⟨p,hp,rfl⟩:=hd
 obtain ⟨q,v,hq,hk,_⟩:=r.at hp
 refine ⟨⟨ha,(au.mp hq).1⟩,fun x H' y=>?_⟩
 obtain ⟨rfl,k,v',hq',rfl⟩:=y
 rw [hq] at hq'
 cases hq'
 exact ⟨g,.refl g,Same.refl _,S,sg hk⟩

def xM (d:Addr) (o:Obj) (kvs:List (Key × V)):It :=
 ⟨fun i H=>H d=some (.frz o (.dK kvs))∧i < kvs.length,fun i H x H'=>∃ T ob k v,kvs[i]?=some (k,v)∧x=.ref T∧H T=none∧ob.dict=none∧H'=upd H T (.frz ob (.tup [kV k,v])),fun i H=>H d=some (.frz o (.dK kvs))∧kvs.length≤i⟩
theorem nc {P:Program} {w:World} {K:PySem.W.Frag} {d:Addr} {o:Obj} {es:Array DictEntry} {ep:Nat} {kvs:List (Key × V)} {elts:List Expr} {kk:Nat} {tpos:Pos} (it:Addr) (hod:o.data=.dict es ep) :
  Turn P w K (.Tuple elts kk tpos) (xM d o kvs) [it] it (fun i h=>∃ ok ov,IsItemIter h it d i kvs.length ep ok ov) where
 mem:=by simp
 obj:=fun i h st b hb=>by
  have e:b=it:=by simpa using hb
  subst e
  obtain ⟨ok,ov,e⟩:=st
  exact ⟨_,e,fun v z=>nomatch z⟩
 keep:=fun i h h' st k=>let ⟨ok,ov,e⟩:=st; ⟨ok,ov,k it (by simp) _ e⟩
 item:=by
  intro X hP hw hK hc i pins s σ H E I hf st hg
  subst hP hw hK
  obtain ⟨hd,hi⟩:=hg
  obtain ⟨hs,hgd,hx,es',ep',vs,hdt,hsz,kv,hm⟩:=I.frzK hd
  obtain ⟨rfl,rfl⟩:=dict_ep hod hdt
  obtain ⟨⟨k,v⟩,hkv⟩:∃ p,kvs[i]?=some p:=⟨kvs[i],ah hi⟩
  obtain ⟨u,hu,ru⟩:=kv_get kv hkv
  have hl:kvs.length=vs.length:=Paired.length kv
  obtain ⟨ok,ov,he⟩:=st
  rw [hl] at he
  have hlt:it < s.heap.objs.size:=Heap.lt_size he
  refine wpAny_pyNext_items_item he hm hu fun key h' hkey ho hT hz hk=>?_
  refine ⟨_,rfl,wpAny_letOwnedTupleGo_items (s:={ s with heap:=h' }) ho fun h'' he' sb=>?_⟩
  have hT2:h''.get? s.heap.objs.size=some { cls:=.type "tuple",data:=.seq #[key,u] }:=(sb.2 _ (Nat.ne_of_gt hlt)).trans hT
  have new:ObjOk X.prog X.w (upd H s.heap.objs.size (.frz { cls:=.type "tuple",data:=.seq #[key,u] } (.tup [kV k,v]))) h'' s.heap.objs.size (.frz { cls:=.type "tuple",data:=.seq #[key,u] } (.tup [kV k,v])) :=
   ⟨hT2,(by decide:2≤sizeLine),[key,u],.cons (relV_key (show keyIs k key=true from hkey)) #v[ru],⟨_,hT2,rfl,_,rfl⟩⟩
  have I1:Inv X pins σ (upd H s.heap.objs.size (.frz { cls:=.type "tuple",data:=.seq #[key,u] } (.tup [kV k,v]))) { s with heap:=h'' } :=
   I.turnedNew (t':=s.toks) (ch:=[it]) (fun b ob hb e=>(sb.2 b (by simpa using hb)).trans (hk b ob (by simpa using hb) e)) hf (aA _) new
  refine ⟨.ref s.heap.objs.size,_,I1,rfl,⟨_,_,k,v,hkv,rfl,I.hok.fresh (aA _),rfl,rfl⟩,⟨key,u,?_⟩,fun b hb=>?_⟩
  ·rw [hl]; exact he'
  ·have e:b=it:=by simpa using hb
   rw [e,upd_ne (aT hlt)]
   exact (hf it (by simp)).1
 done:=by
  intro X hP hw hK hc i pins s σ H E I hf st hg
  subst hP hw hK
  obtain ⟨hd,hi⟩:=hg
  obtain ⟨f0,f1,f2,f3,f4,f5⟩:=hf it (by simp)
  obtain ⟨hs,hgd,hx,es',ep',vs,hdt,hsz,kv,hm⟩:=I.frzK hd
  obtain ⟨rfl,rfl⟩:=dict_ep hod hdt
  have hl:kvs.length=vs.length:=Paired.length kv
  obtain ⟨ok,ov,he⟩:=st
  rw [hl] at he
  exact wpAny_pyNext_items_end (I.ok.hd hc) he hm (aQ (by omega)) fun h' eb=>⟨rfl,I.turned (t':=s.toks) (fun b ob hb e=>eb b ob hb e) f0 f1 f3 f4 f5⟩
 self:=fun A i s Q E st h=>let ⟨_,_,e⟩:=st; PySem.W.kcp_self e h
def uK (td:TE):TI:=fun σ H R=>td σ H fun x H1=>∃ d o kvs,x=.ref d∧H1 d=some (.frz o (.dK kvs))∧R (xM d o kvs) H1
theorem qz {X:Cx} {e:Expr} {td:TE} {apos cpos:Pos} {elts:List Expr} {kk:Nat} {tpos:Pos} (he:PE X e td) (hbase:attributeBase e "items" X.env (eval e X.env)=eval e X.env:=by rfl) (hline:(apos.endLine == cpos.line)=true:=by rfl) :
  PI X (.Tuple elts kk tpos) (.Call (.Attribute e "items" apos) [] [] cpos) (uK td):=by
 refine ⟨fun pins s σ H R I h=>?_⟩
 refine wpAny_Call_method (T:="dict") (id:="dict.items") hbase rfl hline F.plainAttrs_dict F.slot_dict_items F.type_dict_items (thn (he.run pins s σ H _ I h) fun u s1 ⟨x,H1,I1,rx,d,o,kvs,ex,hd,q⟩=>?_)
 subst ex
 obtain rfl:u=Value.ref d:=rx
 obtain ⟨hs,hgd,hx,es,ep,vs,hdt,hsz,kv,hm⟩:=I1.frzK hd
 have hl:kvs.length=vs.length:=Paired.length kv
 refine ⟨hm.dictOf.typeIs,hm.dictOf.mapOf.noDict,?_⟩
 have I2:Inv X pins σ H1 { s1 with heap:=s1.heap.push { cls:=.type "dict_items",data:=.fields #[.ref d] } }:=I1.kept (t':=s1.toks) fun b ob q=>Heap.get?_push_of_some _ q
 have fin:wpAny (model X.prog X.w) X.A (pyIter (.ref s1.heap.objs.size)) (PIE X pins σ (.Tuple elts kk tpos) R) X.xe { s1 with heap:=s1.heap.push { cls:=.type "dict_items",data:=.fields #[.ref d] } }:=by
  refine wpAny_pyIter_items (d:=d) (knd:=mixKind X.prog X.w) ⟨_,Heap.get?_push_size _ rfl,rfl,rfl⟩ (hm.push _) (pi_one (tk:=s1.toks) I2 _ (nc _ hdt) ⟨.none,.none,?_⟩ q)
  rw [hl]
  exact Heap.get?_push_size _ rfl
 show wpAny _ _ (callWith cpos (.builtin "dict.items") [.ref d] [] []) _ X.xe s1
 exact method_meetsIn F.slot_dict_items F.entry_dict_items rfl (PySem.evalArgs_none ⟨rfl,hm.dictOf.typeIs,F.args_dict_items_1 _,_,meets_dict_items (mixKind X.prog X.w) d hs,⟨vs,hm.dictOf⟩,fin⟩)
theorem si {Y:Wd} {g0:Gh} {a:Addr} {o:Obj} {kvs:List (Key × V)} {ps:List (D × D)} (hd:g0.F.h a=some (.frz o (.dK kvs))) (r:Rpk Y g0.F ps kvs):Wk Y (xM a o kvs) g0 (ps.map fun p=>gS p.1 p.2):=by
 intro g i σ H l s e S
 have ha:=S.sF _ _ (e.f.s _ _ hd)
 refine ⟨fun d hd=>?_,fun hi=>⟨ha,by rw [hi,ac,r.length]; exact aA _⟩⟩
 rw [aD,az] at hd
 obtain ⟨p,hp,rfl⟩:=hd
 obtain ⟨q,v,hq,hk,rv⟩:=r.at hp
 refine ⟨⟨ha,(au.mp hq).1⟩,fun x H' y=>?_⟩
 obtain ⟨T,ob,k,v',hq',rfl,hT,hob,rfl⟩:=y
 rw [hq] at hq'
 cases hq'
 obtain ⟨S',E'⟩:=S.new (o:=.frz ob (.tup [kV q,v])) hT
 exact ⟨_,E',f6 hT,S',.tup (.new hob) #v[(sg hk),((rv.mono e.f).mono E'.f)]⟩
theorem xN (B:Gd C S G W) (ha:PE C e (rd G.gm W xa)):PI C tg e (mC G.gm W (.keys xa)):=by
 refine gI (pi_keys ha) ?_
 rintro σ H R ⟨g,l,s,SS,h⟩
 refine cS SS (show ValR G.gm W g σ ((b7 G.fs G.gs xa l s).bind _) (KI G.gm σ l R) from h) fun d t s1 g1 v H1 e1 S1 v1 h1=>?_
 cases d with
 | fdc ps =>
  have h1:ValR G.gm W g1 σ (.ok (ps.map (·.1),s1)) (KI G.gm σ l R):=h1
  rcases v1.rd S1 with r | r
  ·cases r with
   | fd hd r=>exact ⟨_,_,rfl,.inl ⟨_,S1.sF _ _ hd,h1 g1 (.refl g1) _ H1 S1 (uJ hd r)⟩⟩
  ·cases r
 | _=>exact h1.elim
theorem uL {elts:List Expr} {kk:Nat} {tpos:Pos} (B:Gd C S G W) (hc:cD e=true) (hl:(apos.endLine == cpos.line)=true) (ha:PE C e (rd G.gm W xa)):PI C (.Tuple elts kk tpos) (.Call (.Attribute e "items" apos) [] [] cpos) (mC G.gm W (.items xa)):=by
 refine gI (qz ha (by first | exact dS hc | (intro env; exact dS hc)) hl) ?_
 rintro σ H R ⟨g,l,s,SS,h⟩
 refine cS SS (show ValR G.gm W g σ ((b7 G.fs G.gs xa l s).bind _) (KI G.gm σ l R) from h) fun d t s1 g1 v H1 e1 S1 v1 h1=>?_
 cases d with
 | fdc ps =>
  have h1:ValR G.gm W g1 σ (.ok (ps.map (fun p=>gS p.1 p.2),s1)) (KI G.gm σ l R):=h1
  rcases v1.rd S1 with r | r
  ·cases r with
   | fd hd r=>exact ⟨_,_,_,rfl,S1.sF _ _ hd,h1 g1 (.refl g1) _ H1 S1 (si hd r)⟩
  ·cases r
 | _=>exact h1.elim


structure PD (C:Cx) (pos:Pos) (keys:List (Option Expr)) (values:List Expr) (t:L2.St→Hp→(List (V × V)→Hp→Prop)→Prop):Prop where
 run:∀ (pins:List (Addr × Obj)) (s:Shared) (σ:L2.St) (H:Hp) (Q:List (V × V)→Hp→Prop),Inv C pins σ H s→t σ H Q →
  wpAny (model C.prog C.w) C.A (evalPairs (pairTrees keys values C.env pos)) (fun vs s'=>∃ ps H',Inv C pins σ H' s'∧VV ps vs∧Q ps H') C.xe s

inductive Prs (Y:Wd) (F:Fr):List (D × D)→List (V × V)→Prop
 | nil:Prs Y F [] []
 | cons {z:Str} {d:D} {v:V} {ps:List (D × D)} {vs:List (V × V)}:Rp Y F d v→Prs Y F ps vs→Prs Y F ((.str z,d) :: ps) ((.str z,v) :: vs)
theorem Prs.mono {Y:Wd} {F F':Fr} (e:F.le F'):∀ {ps:List (D × D)} {vs:List (V × V)},Prs Y F ps vs→Prs Y F' ps vs
 | _,_,.nil=>.nil
 | _,_,.cons h r=>.cons (h.mono e) (Prs.mono e r)
def oP (G:Gm) (W:WX) (x:X):L2.St→Hp→(List (V × V)→Hp→Prop)→Prop:=fun σ H Q=>∃ g l s,SR G.Y g σ H l s∧ValR G W g σ (qg G.fs G.gs x l s) (fun p g'=>∀ vs H',SR G.Y g' σ H' l p.2→Prs G.Y g'.F p.1 vs→Q vs H')
theorem uM {g:Gh} {σ:L2.St} {α:Type} {r:R α} {K:α→Gh→Prop} (h:ValR G.gm W g σ (R.noEr r) K):ValR G.gm W g σ r K:=by
 cases r with
 | ok a=>exact h
 | er e s l=>exact h.elim
 | no=>exact h
theorem sj {fs:List Fn} {gs:List D}:∀ (x:X) (l:Lc) (s:cj) {e:Ex} {s1:cj} {l1:Lc},qg fs gs x l s≠.er e s1 l1:=by
 intro x l s e s1 l1 h
 cases x with
 | cons a b =>
  cases a with
  | ks z =>
   cases b with
   | cons b r =>
    have h:R.noEr (cf (b7 fs gs b l s) fun d s1=>(qg fs gs r l s1).bind fun (ds,s2)=>.ok ((.str z,d) :: ds,s2))=.er e s1 l1:=h
    generalize (cf (b7 fs gs b l s) fun d s1=>(qg fs gs r l s1).bind fun (ds,s2)=>.ok ((.str z,d) :: ds,s2):R (List (D × D) × cj))=q at h
    cases q <;> cases h
   | _=>cases h
  | _=>cases h
 | nil=>cases h
 | _=>cases h
theorem xO:PD C pos [] [] (oP G.gm W .nil):=⟨fun pins s σ H Q I ⟨g,l,s0,SS,h⟩=>pairTrees_nil_walk ⟨[],H,I,.nil,h g (.refl g) [] H SS .nil⟩⟩
theorem uN {z:Str} {k:Nat} {q:Pos} {ks:List (Option Expr)} {vs:List Expr} {xr:X} (he:PE C f (rd G.gm W xb)) (hr:PD C pos ks vs (oP G.gm W xr)) :
  PD C pos (some (.Constant (.str z) k q) :: ks) (f :: vs) (oP G.gm W (.cons (.ks z) (.cons xb xr))):=by
 refine ⟨fun pins s σ H Q I ⟨g,l,s0,SS,h⟩=>?_⟩
 have h:=uM (show ValR G.gm W g σ (R.noEr (cf (b7 G.fs G.gs xb l s0) fun d s1=>(qg G.fs G.gs xr l s1).bind fun (ds,s2)=>.ok ((.str z,d) :: ds,s2))) _ from h)
 have hk:PE C (.Constant (.str z) k q) (tC (.str z)):=pe_str
 refine pairTrees_cons_walk (thn (hk.run pins s σ H (fun x H1=>x=.str z∧H1=H) I ⟨rfl,rfl⟩) fun u s1 ⟨x,H1,I1,rx,ex,eH⟩=>?_)
 subst ex eH
 refine thn (he.run pins s1 σ H1 (fun v H2=>oP G.gm W xr σ H2 fun ps H3=>Q ((.str z,v) :: ps) H3) I1 ?_) fun w2 s2 ⟨y,H2,I2,ry,q2⟩=>thn (hr.run pins s2 σ H2 _ I2 q2) fun ws s3 ⟨ps,H3,I3,rel,q3⟩=>⟨(.str z,y) :: ps,H3,I3,.cons ⟨rx,ry⟩ rel,q3⟩
 refine fC SS h fun d s1 g1 v H2 e1 S1 r1 h1=>?_
 refine ⟨g1,l,s1,S1,?_⟩
 cases ed:qg G.fs G.gs xr l s1 with
 | ok p =>
  obtain ⟨ds,s2⟩:=p
  have h1:ValR G.gm W g1 σ ((qg G.fs G.gs xr l s1).bind fun (ds,s2)=>.ok ((.str z,d) :: ds,s2)) _:=h1
  rw [ed] at h1
  intro g2 e2 vs' H' S2 pr
  exact h1 g2 e2 _ H' S2 (.cons (r1.mono e2.f) pr)
 | er ex s' l' =>
  have h1:ValR G.gm W g1 σ ((qg G.fs G.gs xr l s1).bind fun (ds,s2)=>.ok ((.str z,d) :: ds,s2)) _:=h1
  rw [ed] at h1
  exact h1
 | no =>
  have h1:ValR G.gm W g1 σ ((qg G.fs G.gs xr l s1).bind fun (ds,s2)=>.ok ((.str z,d) :: ds,s2)) _:=h1
  rw [ed] at h1
  exact h1
def xP (t:L2.St→Hp→(List (V × V)→Hp→Prop)→Prop):TE:=fun σ H Q=>∀ p,H p=none→t σ (upd H p (.dK [])) fun ps H2=>H2 p=some (.dK [])∧∃ kvs:List (Key × V),ps=kvs.map (fun kv=>(kV kv.1,kv.2))∧(mergeK [] kvs).length≤sizeLine∧Q (.ref p) (upd H2 p (.dK (mergeK [] kvs)))
theorem sk {keys:List (Option Expr)} {values:List Expr} {t:L2.St→Hp→(List (V × V)→Hp→Prop)→Prop} (h:PD C pos keys values t) (hall:keys.all (·.isSome)=true) (hl:keys.length=values.length) (h0:keys≠[])
  (h15:keys.length≤15):PE C (.Dict keys values pos) (xP t):=by
 refine ⟨fun pins s σ H Q I q=>?_⟩
 have hn:=I.hok.fresh (aA s.heap.objs.size)
 have I1:=I.laid (a:=s.heap.objs.size) (o:=.dK []) (h':=s.heap.push { cls:=.type "dict",data:=.dict #[] }) (t':=s.toks) (fun _ _ q=>Heap.get?_push_of_some _ q) (aA _) (dk_empty s.heap I.big)
 refine wpAny_Dict_walk (knd:=mixKind C.prog C.w) hall hl h0 h15 (thn (h.run pins _ σ _ _ I1 (q _ hn)) fun ws s2 ⟨ps,H2,I2,rel,e,kvs,ep,hz,q2⟩=>?_)
 subst ep
 obtain ⟨rs,c,rk⟩:=carries_of (P:=C.prog) (w:=C.w) rel
 obtain ⟨z,hd,vs0,r0,dd⟩:=dk_of I2.hok e
 cases r0
 refine ⟨rs,c,dd,fun h' dd' hs=>⟨.ref s.heap.objs.size,_,?_,rfl,q2⟩⟩
 have he:∃ q,h'.get? s.heap.objs.size=some q:=let ⟨q,_,_,hq,_⟩:=dd'; ⟨q,hq⟩
 exact d_write I2 (by rw [e]; exact True.intro) hs he (dk_new hz hd (rk.merge .nil) dd')
theorem Prs.keys {Y:Wd} {F:Fr}:∀ {ps:List (D × D)} {vs:List (V × V)},Prs Y F ps vs→∃ kvs:List (Key × V),vs=kvs.map (fun kv=>(kV kv.1,kv.2))∧Rpk Y F ps kvs
 | _,_,.nil=>⟨[],rfl,.nil⟩
 | _,_,.cons (z:=z) (v:=v) h r=>by
  obtain ⟨kvs,e,q⟩:=r.keys
  exact ⟨(.inr z,v) :: kvs,by rw [e]; rfl,.cons rfl h q⟩
theorem i9:∀ {acc:List (Key × V)} {q:Key},q∉acc.map (·.1)→valV acc q=none
 | [],_,_=>rfl
 | (k,v) :: r,q,h=>by
  rw [aG,ax,not_or] at h
  rw [valV_neg (fun z=>h.1 z.symm)]
  exact i9 h.2
theorem kI:∀ {kvs acc:List (Key × V)},((acc++kvs).map (·.1)).Nodup→mergeK acc kvs=acc++kvs
 | [],acc,_=>by rw [aX]; rfl
 | (k,v) :: r,acc,h=>by
  have hk:k∉acc.map (·.1):=fun hm=>by
   rw [bf,aG] at h
   exact (bM.mp h).2.2 _ hm _ aj rfl
  have e:putK acc k v=acc++[(k,v)]:=by
   unfold putK
   rw [valV_any,i9 hk]
   rfl
  show mergeK (putK acc k v) r=_
  rw [e,kI (by rw [bc]; exact h),bc]
  rfl
theorem Rpk.nodup {Y:Wd} {F:Fr}:∀ {ps:List (D × D)} {kvs:List (Key × V)},Rpk Y F ps kvs→(ps.map (·.1)).Nodup→(kvs.map (·.1)).Nodup
 | _,_,.nil,_=>List.nodup_nil
 | _,_,.cons (q:=q) (kvs:=kvs) h r t,hn=>by
  rw [aG,bQ] at hn ⊢
  refine ⟨fun hm=>hn.1 ?_,t.nodup hn.2⟩
  obtain ⟨⟨q',v'⟩,hm,e⟩:=aP.mp hm
  obtain ⟨i,hi⟩:=List.mem_iff_getElem?.mp hm
  have:∀ {ps:List (D × D)} {kvs:List (Key × V)} {i:Nat} {p:Key × V},Rpk Y F ps kvs→kvs[i]?=some p→∃ d,ps[i]?=some d∧D.keyOf d.1=some p.1:=by
   intro ps kvs i p r
   induction ps generalizing kvs i with
   | nil=>cases r; intro h; simp at h
   | cons a as ih =>
    cases r with
    | cons h1 h2 h3 =>
     cases i with
     | zero=>intro h; cases (ad h); exact ⟨_,rfl,h1⟩
     | succ i=>intro h; exact ih h3 h
  obtain ⟨d,hd,hk⟩:=this t hi
  have e2:=ir (hk.trans (by rw [show q'=q from e])) h
  exact aP.mpr ⟨d,aZ hd,e2⟩
theorem AO {ks:List (Option Expr)} {vs:List Expr} (hall:ks.all (·.isSome)=true) (hl:ks.length=vs.length) (h0:ks≠[]) (h15:ks.length≤15) (h:PD C pos ks vs (oP G.gm W xa)):PE C (.Dict ks vs pos) (rd G.gm W (.dis xa)):=by
 refine PE.imp (sk h hall hl h0 h15) ?_
 rintro σ H Q ⟨g,l,s,SS,h⟩ p hp
 have h:ValE G.gm W g σ l ((qg G.fs G.gs xa l s).bind fun (kvs,s1)=>if (kvs.map (·.1)).Nodup∧kvs.length≤15 then dY (.dic false kvs) s1 else .no) Q:=h
 have hB:=SS.freeB hp
 have hF:=SS.freeF hp
 have hm:=SS.freeM hp
 have no:=SS.noown hp
 have S0:=SS.lay (o:=.dK []) hp
 have SL:=S0.lock (o:=.dK []) upd_same hm hB no
 refine ⟨_,l,s,SL,?_⟩
 cases ed:qg G.fs G.gs xa l s with
 | ok r =>
  obtain ⟨kvs,s1⟩:=r
  rw [ed] at h
  have h:ValE G.gm W g σ l (if (kvs.map (·.1)).Nodup∧kvs.length≤15 then dY (.dic false kvs) s1 else .no) Q:=h
  split at h
  ·rename_i hc
   intro g2 e2 vs' H2 S2 pr
   show H2 p=some (.dK [])∧_
   obtain ⟨U1,U2,U3,U4⟩:=SR.unlock0 (p:=p) (o:=.dK []) hm hB hF e2 S0 S2
   obtain ⟨kv,ek,r⟩:=pr.keys
   have hnd:=r.nodup hc.1
   have em:mergeK [] kv=kv:=by rw [kI (by simpa using hnd)]; rfl
   refine ⟨U3,kv,ek,by rw [em,← r.length,sizeLine_eq]; have:kvs.length≤15:=hc.2; show kvs.length≤_; omega,?_⟩
   rw [em]
   exact h ⟨g2.F,g.B,g.M⟩ (.ref p) _ U2 (U1.wr U4.1 U4.2 hB no) ⟨p,rfl,U4,hB,.dk upd_same r,no⟩
  ·exact h.elim
 | er ex s1 l1=>exact (sj xa l s ed).elim
 | no=>rw [ed] at h; exact h
end
section
variable {C:Cx} {S:Sc} {G:Gn} {W:WX} {e f b:Expr} {es:List Expr} {pos:Pos} {xa xb xc:X}
theorem AP {c:Expr} (hc:PT C c (i7 G.gm W xc)) (ha:PT C e (i7 G.gm W xa)) (hb:PT C b (i7 G.gm W xb)):PT C (.IfExp c e b pos) (i7 G.gm W (.ite xc xa xb)):=by
 refine ⟨fun pins sh σ H Q I q=>?_⟩
 refine isTrue_IfExp (thn (hc.run pins sh σ H (fun k H1=>if k=true then i7 G.gm W xa σ H1 Q else i7 G.gm W xb σ H1 Q) I ?_) fun k s1 ⟨H1,I1,q1⟩=>?_)
 ·obtain ⟨g,l,s,SS,h⟩:=q
  refine fZ SS (show ValR G.gm W g σ ((b7 G.fs G.gs xc l s).bind _) _ from h) fun d t s1 g1 e1 h1=>?_
  cases d with
  | bl b =>
   refine ⟨b,rfl,fun H1 S1=>?_⟩
   cases b with
   | true=>exact (ap rfl).symm ▸ (⟨g1,l,s1,S1,h1⟩:i7 G.gm W xa σ H1 Q)
   | false=>exact (av aa).symm ▸ (⟨g1,l,s1,S1,h1⟩:i7 G.gm W xb σ H1 Q)
  | _=>exact h1.elim
 ·cases k with
  | true=>exact ha.run pins s1 σ H1 Q I1 q1
  | false=>exact hb.run pins s1 σ H1 Q I1 q1

theorem FZ {i:Nat} {e:Expr} (h:cm S (.v i) e=true):∃ x p,e=.Name x p∧(decide (S.N[i]?=some x) && fV S.sc x && dZ x)=true:=by
 cases e
 case Name x p =>
  exact ⟨x,p,rfl,h⟩
 all_goals exact absurd h aa
theorem Dt {e:Expr} (h:cm S .kn e=true):∃ k p,e=.Constant .none k p:=by
 cases e
 case Constant u1 k p =>
  cases u1
  case none  =>
   exact ⟨k,p,rfl⟩
  all_goals exact absurd h aa
 all_goals exact absurd h aa
theorem Du {b:Bool} {e:Expr} (h:cm S (.kb b) e=true):∃ k p,e=.Constant (.bool b) k p:=by
 cases e
 case Constant u1 k p =>
  cases u1
  case bool c =>
   exact ⟨k,p,by rw [eq_of_beq (show (b == c)=true from h)]⟩
  all_goals exact absurd h aa
 all_goals exact absurd h aa
theorem Dv {b:Int} {e:Expr} (h:cm S (.ki b) e=true):∃ k p,e=.Constant (.int b) k p:=by
 cases e
 case Constant u1 k p =>
  cases u1
  case int c =>
   exact ⟨k,p,by rw [aY (show decide (b=c)=true from h)]⟩
  all_goals exact absurd h aa
 all_goals exact absurd h aa
theorem Dx {b:Str} {e:Expr} (h:cm S (.ks b) e=true):∃ k p,e=.Constant (.str b) k p:=by
 cases e
 case Constant u1 k p =>
  cases u1
  case str c =>
   exact ⟨k,p,by rw [aY (show decide (b=c)=true from h)]⟩
  all_goals exact absurd h aa
 all_goals exact absurd h aa
theorem F1 {i:Nat} {e:Expr} (h:cm S (.g i) e=true):∃ x p,e=.Name x p∧(decide (S.gn[i]?=some x) && cP S.sc x && dZ x)=true:=by
 cases e
 case Name x p =>
  exact ⟨x,p,rfl,h⟩
 all_goals exact absurd h aa
theorem AQ {e:Expr} (h:cm S (.tup xa) e=true):∃ l k p,e=.Tuple l k p∧gV S xa l=true:=by
 cases e
 case Tuple l k p =>
  exact ⟨l,k,p,rfl,h⟩
 all_goals exact absurd h aa
theorem AS {e:Expr} (h:cm S (.lst xa) e=true):∃ l p,e=.List l p∧gV S xa l=true:=by
 cases e
 case List l p =>
  exact ⟨l,p,rfl,h⟩
 all_goals exact absurd h aa
theorem wo {k:Bool} {xa xb:X} {e:Expr} (h:cm S (.dic k xa xb) e=true):(xa=.nil∧xb=.nil∧∃ p,e=.Dict [] [] p)∨∃ ya yb a b p,xa=.cons ya .nil∧xb=.cons yb .nil∧e=.Dict [some a] [b] p∧(cm S ya a && cm S yb b)=true:=by
 cases xa
 case nil =>
  cases xb
  case nil =>
   cases e
   case Dict ks vs p =>
    cases ks
    case nil =>
     cases vs
     case nil=>exact .inl ⟨rfl,rfl,p,rfl⟩
     all_goals (cases k <;> exact absurd h aa)
    all_goals (cases k <;> exact absurd h aa)
   all_goals (cases k <;> exact absurd h aa)
  all_goals (cases k <;> exact absurd h aa)
 case cons ya r =>
  cases r
  case nil =>
   cases xb
   case cons yb r2 =>
    cases r2
    case nil =>
     cases e
     case Dict ks vs p =>
      cases ks
      case cons o r3 =>
       cases o
       case some a =>
        cases r3
        case nil =>
         cases vs
         case cons b r4 =>
          cases r4
          case nil =>
           cases k <;> exact .inr ⟨ya,yb,a,b,p,rfl,rfl,rfl,h⟩
          all_goals (cases k <;> exact absurd h aa)
         all_goals (cases k <;> exact absurd h aa)
        all_goals (cases k <;> exact absurd h aa)
       all_goals (cases k <;> exact absurd h aa)
      all_goals (cases k <;> exact absurd h aa)
     all_goals (cases k <;> exact absurd h aa)
    all_goals (cases k <;> exact absurd h aa)
   all_goals (cases k <;> exact absurd h aa)
  all_goals (cases k <;> exact absurd h aa)
 all_goals (cases k <;> exact absurd h aa)
theorem AT {e:Expr} (h:cm S (.dis xa) e=true):∃ ks vs p,e=.Dict ks vs p∧(decide (1≤ks.length) && decide (ks.length≤15) && rE S xa ks vs)=true:=by
 cases e
 case Dict ks vs p =>
  exact ⟨ks,vs,p,rfl,h⟩
 all_goals exact absurd h aa
theorem AU {j:Nat} {e:Expr} (h:cm S (.xis j xa) e=true):∃ x p a y p1 p2,e=.Call (.Name x p) [a,.Name y p1] [] p2∧(decide (x="isinstance") && cP S.sc x && S.xs.contains (j,y) && cP S.sc y && dZ y && bZ a && cm S xa a)=true:=by
 cases e
 case Call u1 u2 u3 p2 =>
  cases u1
  case Name x p =>
   cases u2
   case cons a u4 =>
    cases u4
    case cons u5 u6 =>
     cases u5
     case Name y p1 =>
      cases u6
      case nil =>
       cases u3
       case nil =>
        exact ⟨x,p,a,y,p1,p2,rfl,h⟩
       all_goals exact absurd h aa
      all_goals exact absurd h aa
     all_goals exact absurd h aa
    all_goals exact absurd h aa
   all_goals exact absurd h aa
  all_goals exact absurd h aa
 all_goals exact absurd h aa
theorem AV {c:Str} {e:Expr} (h:cm S (.isc c xa) e=true):∃ x p a y p1 p2,e=.Call (.Name x p) [a,.Name y p1] [] p2∧(decide (x="isinstance") && cP S.sc x && decide (y=c) && S.ic.contains c && cP S.sc y && dZ y && bZ a && cm S xa a)=true:=by
 cases e
 case Call u1 u2 u3 p2 =>
  cases u1
  case Name x p =>
   cases u2
   case cons a u4 =>
    cases u4
    case cons u5 u6 =>
     cases u5
     case Name y p1 =>
      cases u6
      case nil =>
       cases u3
       case nil =>
        exact ⟨x,p,a,y,p1,p2,rfl,h⟩
       all_goals exact absurd h aa
      all_goals exact absurd h aa
     all_goals exact absurd h aa
    all_goals exact absurd h aa
   all_goals exact absurd h aa
  all_goals exact absurd h aa
 all_goals exact absurd h aa
theorem xQ {j:Nat} {e:Expr} (h:cm S (.calX j xa) e=true):∃ x p a p2,e=.Call (.Name x p) [a] [] p2∧(S.hx.contains j && decide (S.cs[j]?=some x) && cP S.sc x && dZ x && bZ a && cm S xa a)=true:=by
 cases e
 case Call u1 u2 u3 p2 =>
  cases u1
  case Name x p =>
   cases u2
   case cons a u4 =>
    cases u4
    case nil =>
     cases u3
     case nil =>
      exact ⟨x,p,a,p2,rfl,h⟩
     all_goals exact absurd h aa
    all_goals exact absurd h aa
   all_goals exact absurd h aa
  all_goals exact absurd h aa
 all_goals exact absurd h aa
theorem uO {tg e:Expr} (h:mH S (.items xa) tg e=true):∃ el k p1 a nm apos cpos,tg=.Tuple el k p1∧e=.Call (.Attribute a nm apos) [] [] cpos∧(decide (nm="items") && (apos.endLine == cpos.line) && cD a && cm S xa a)=true:=by
 cases tg
 case Tuple el k p1 =>
  cases e
  case Call u1 u2 u3 cpos =>
   cases u1
   case Attribute a nm apos =>
    cases u2
    case nil =>
     cases u3
     case nil =>
      exact ⟨el,k,p1,a,nm,apos,cpos,rfl,rfl,h⟩
     all_goals exact absurd h aa
    all_goals exact absurd h aa
   all_goals exact absurd h aa
  all_goals exact absurd h aa
 all_goals exact absurd h aa
theorem AW {o:BOp} {e:Expr} (h:cm S (.bin o xa xb) e=true):∃ a q b p,e=.BinOp a q b p∧(Dd o q && cm S xa a && cm S xb b)=true:=by
 cases e
 case BinOp a q b p =>
  exact ⟨a,q,b,p,rfl,h⟩
 all_goals exact absurd h aa
theorem AX {e:Expr} (h:cm S (.neg xa) e=true):∃ a p,e=.UnaryOp .USub a p∧cm S xa a=true:=by
 cases e
 case UnaryOp u1 a p =>
  cases u1
  case USub  =>
   exact ⟨a,p,rfl,h⟩
  all_goals exact absurd h aa
 all_goals exact absurd h aa
theorem AY {e:Expr} (h:cm S (.not xa) e=true):∃ a p,e=.UnaryOp .Not a p∧cm S xa a=true:=by
 cases e
 case UnaryOp u1 a p =>
  cases u1
  case Not  =>
   exact ⟨a,p,rfl,h⟩
  all_goals exact absurd h aa
 all_goals exact absurd h aa
theorem AZ {o:COp} {e:Expr} (h:cm S (.cmp o xa xb) e=true):∃ l q r p,e=.Compare l [q] [r] p∧(uf o q && jx o r && cm S xa l && cm S xb r)=true:=by
 cases e
 case Compare l u1 u2 p =>
  cases u1
  case cons q u3 =>
   cases u3
   case nil =>
    cases u2
    case cons r u4 =>
     cases u4
     case nil =>
      exact ⟨l,q,r,p,rfl,h⟩
     all_goals exact absurd h aa
    all_goals exact absurd h aa
   all_goals exact absurd h aa
  all_goals exact absurd h aa
 all_goals exact absurd h aa
theorem A0 {o o2:COp} {e:Expr} (h:cm S (.chn o o2 xa xb xc) e=true):∃ l q q2 r r2 p,e=.Compare l [q,q2] [r,r2] p∧(uf o q && uf o2 q2 && !lastMarks [q,q2] [r,r2] && jx o r && jx o2 r2 && cm S xa l && cm S xb r && cm S xc r2)=true:=by
 cases e
 case Compare l u1 u2 p =>
  cases u1
  case cons q u3 =>
   cases u3
   case cons q2 u4 =>
    cases u4
    case nil =>
     cases u2
     case cons r u5 =>
      cases u5
      case cons r2 u6 =>
       cases u6
       case nil =>
        exact ⟨l,q,q2,r,r2,p,rfl,h⟩
       all_goals exact absurd h aa
      all_goals exact absurd h aa
     all_goals exact absurd h aa
    all_goals exact absurd h aa
   all_goals exact absurd h aa
  all_goals exact absurd h aa
 all_goals exact absurd h aa
theorem A1 {e:Expr} (h:cm S (.and xa) e=true):∃ l p,e=.BoolOp .And l p∧(l.length ≥ 1 && gV S xa l)=true:=by
 cases e
 case BoolOp u1 l p =>
  cases u1
  case And  =>
   exact ⟨l,p,rfl,h⟩
  all_goals exact absurd h aa
 all_goals exact absurd h aa
theorem Dy {e:Expr} (h:cm S (.or xa) e=true):∃ l p,e=.BoolOp .Or l p∧(l.length ≥ 1 && gV S xa l)=true:=by
 cases e
 case BoolOp u1 l p =>
  cases u1
  case Or  =>
   exact ⟨l,p,rfl,h⟩
  all_goals exact absurd h aa
 all_goals exact absurd h aa
theorem A2 {e:Expr} (h:cm S (.ite xc xa xb) e=true):∃ c a b p,e=.IfExp c a b p∧(cm S xc c && cm S xa a && cm S xb b)=true:=by
 cases e
 case IfExp c a b p =>
  exact ⟨c,a,b,p,rfl,h⟩
 all_goals exact absurd h aa
theorem Dz {e:Expr} (h:cm S (.sl xa xb xc) e=true):∃ a p q p2 p3,e=.Subscript a (.Slice p q none p2) p3 ∧
  (cm S xa a && (match p with | none=>xb.isNil | some f=>!xb.isNil && cm S xb f) && (match q with | none=>xc.isNil | some f=>!xc.isNil && cm S xc f))=true:=by
 cases e
 case Subscript a u1 p3 =>
  cases u1
  case Slice p q u2 p2 =>
   cases u2
   case none  =>
    exact ⟨a,p,q,p2,p3,rfl,h⟩
   all_goals exact absurd h aa
  all_goals exact absurd h aa
 all_goals exact absurd h aa
theorem A3 {e:Expr} (h:cm S (.rsl xa) e=true):∃ a n k p1 p2 p3 p4,e=.Subscript a (.Slice none none (some (.UnaryOp .USub (.Constant (.int n) k p1) p2)) p3) p4∧(decide (n=1) && cm S xa a)=true:=by
 cases e
 case Subscript a u1 p4 =>
  cases u1
  case Slice u2 u3 u4 p3 =>
   cases u2
   case none  =>
    cases u3
    case none  =>
     cases u4
     case some u5 =>
      cases u5
      case UnaryOp u6 u7 p2 =>
       cases u6
       case USub  =>
        cases u7
        case Constant u8 k p1 =>
         cases u8
         case int n =>
          exact ⟨a,n,k,p1,p2,p3,p4,rfl,h⟩
         all_goals exact absurd h aa
        all_goals exact absurd h aa
       all_goals exact absurd h aa
      all_goals exact absurd h aa
     all_goals exact absurd h aa
    all_goals exact absurd h aa
   all_goals exact absurd h aa
  all_goals exact absurd h aa
 all_goals exact absurd h aa
theorem A4 {e:Expr} (h:cm S (.ssl xa xb) e=true):∃ a f p3 p4,e=.Subscript a (.Slice none none (some f) p3) p4∧(!xb.isNil && cm S xa a && cm S xb f)=true:=by
 cases e
 case Subscript a u1 p4 =>
  cases u1
  case Slice u2 u3 u4 p3 =>
   cases u2
   case none  =>
    cases u3
    case none  =>
     cases u4
     case some f =>
      exact ⟨a,f,p3,p4,rfl,h⟩
     all_goals exact absurd h aa
    all_goals exact absurd h aa
   all_goals exact absurd h aa
  all_goals exact absurd h aa
 all_goals exact absurd h aa
theorem DA {e:Expr} (h:cm S (.ix xa xb) e=true):∃ a f p,e=.Subscript a f p∧(cM f && cm S xa a && cm S xb f)=true:=by
 cases e
 case Subscript a f p =>
  exact ⟨a,f,p,rfl,h⟩
 all_goals exact absurd h aa
theorem xR {j:Nat} {e:Expr} (h:cm S (.call j xa) e=true):∃ x p l p2,e=.Call (.Name x p) l [] p2∧(!S.hot && decide (S.cs[j]?=some x) && cP S.sc x && dZ x && gV S xa l)=true:=by
 cases e
 case Call u1 l u2 p2 =>
  cases u1
  case Name x p =>
   cases u2
   case nil =>
    exact ⟨x,p,l,p2,rfl,h⟩
   all_goals exact absurd h aa
  all_goals exact absurd h aa
 all_goals exact absurd h aa
theorem DB {f:BI} {e:Expr} (h:cm S (.bi f xa) e=true):∃ x p l p2,e=.Call (.Name x p) l [] p2∧(!S.hot && decide (x=f.nm) && cP S.sc x && l.length ≥ 1 && gV S xa l)=true:=by
 cases e
 case Call u1 l u2 p2 =>
  cases u1
  case Name x p =>
   cases u2
   case nil =>
    exact ⟨x,p,l,p2,rfl,h⟩
   all_goals exact absurd h aa
  all_goals exact absurd h aa
 all_goals exact absurd h aa
theorem xS {e:Expr} (h:cm S (.tupI xa) e=true):∃ x p a p2,e=.Call (.Name x p) [a] [] p2∧(!S.hot && decide (x="tuple") && cP S.sc x && bZ a && lL S xa a)=true:=by
 cases e
 case Call u1 u2 u3 p2 =>
  cases u1
  case Name x p =>
   cases u2
   case cons a u4 =>
    cases u4
    case nil =>
     cases u3
     case nil =>
      exact ⟨x,p,a,p2,rfl,h⟩
     all_goals exact absurd h aa
    all_goals exact absurd h aa
   all_goals exact absurd h aa
  all_goals exact absurd h aa
 all_goals exact absurd h aa
theorem xT {e:Expr} (h:cm S (.lstI xa) e=true):∃ x p a p2,e=.Call (.Name x p) [a] [] p2∧(!S.hot && decide (x="list") && cP S.sc x && bZ a && lL S xa a)=true:=by
 cases e
 case Call u1 u2 u3 p2 =>
  cases u1
  case Name x p =>
   cases u2
   case cons a u4 =>
    cases u4
    case nil =>
     cases u3
     case nil =>
      exact ⟨x,p,a,p2,rfl,h⟩
     all_goals exact absurd h aa
    all_goals exact absurd h aa
   all_goals exact absurd h aa
  all_goals exact absurd h aa
 all_goals exact absurd h aa
theorem xU {e:Expr} (h:cm S (.sset xa) e=true):∃ x p y p2 a p3 p4,e=.Call (.Name x p) [.Call (.Name y p2) [a] [] p3] [] p4∧(!S.hot && decide (x="sorted") && decide (y="set") && cP S.sc x && cP S.sc y && bZ a && cm S xa a)=true:=by
 cases e
 case Call u1 u2 u3 p4 =>
  cases u1
  case Name x p =>
   cases u2
   case cons u4 u5 =>
    cases u4
    case Call u6 u7 u8 p3 =>
     cases u6
     case Name y p2 =>
      cases u7
      case cons a u9 =>
       cases u9
       case nil =>
        cases u8
        case nil =>
         cases u5
         case nil =>
          cases u3
          case nil =>
           exact ⟨x,p,y,p2,a,p3,p4,rfl,h⟩
          all_goals exact absurd h aa
         all_goals exact absurd h aa
        all_goals exact absurd h aa
       all_goals exact absurd h aa
      all_goals exact absurd h aa
     all_goals exact absurd h aa
    all_goals exact absurd h aa
   all_goals exact absurd h aa
  all_goals exact absurd h aa
 all_goals exact absurd h aa
theorem xV {e:Expr} (h:cm S (.lset xa) e=true):∃ x p y p2 a p3 p4,e=.Call (.Name x p) [.Call (.Name y p2) [a] [] p3] [] p4∧(!S.hot && decide (x="len") && decide (y="set") && cP S.sc x && cP S.sc y && bZ a && cm S xa a)=true:=by
 cases e
 case Call u1 u2 u3 p4 =>
  cases u1
  case Name x p =>
   cases u2
   case cons u4 u5 =>
    cases u4
    case Call u6 u7 u8 p3 =>
     cases u6
     case Name y p2 =>
      cases u7
      case cons a u9 =>
       cases u9
       case nil =>
        cases u8
        case nil =>
         cases u5
         case nil =>
          cases u3
          case nil =>
           exact ⟨x,p,y,p2,a,p3,p4,rfl,h⟩
          all_goals exact absurd h aa
         all_goals exact absurd h aa
        all_goals exact absurd h aa
       all_goals exact absurd h aa
      all_goals exact absurd h aa
     all_goals exact absurd h aa
    all_goals exact absurd h aa
   all_goals exact absurd h aa
  all_goals exact absurd h aa
 all_goals exact absurd h aa
theorem xW {j:Nat} {e:Expr} (h:cm S (.calD j xa) e=true):∃ x p l p2,e=.Call (.Name x p) l [] p2∧(!S.hot && decide (S.cs[j]?=some x) && cP S.sc x && dZ x && l.length ≥ 1 && gV S xa l)=true:=by
 cases e
 case Call u1 l u2 p2 =>
  cases u1
  case Name x p =>
   cases u2
   case nil =>
    exact ⟨x,p,l,p2,rfl,h⟩
   all_goals exact absurd h aa
  all_goals exact absurd h aa
 all_goals exact absurd h aa
theorem xX {j:Nat} {e:Expr} (h:cm S (.calS j xa) e=true):∃ x p l p2,e=.Call (.Name x p) l [] p2∧(!S.hot && decide (S.cs[j]?=some x) && cP S.sc x && dZ x && l.length ≥ 1 && gV S xa l)=true:=by
 cases e
 case Call u1 l u2 p2 =>
  cases u1
  case Name x p =>
   cases u2
   case nil =>
    exact ⟨x,p,l,p2,rfl,h⟩
   all_goals exact absurd h aa
  all_goals exact absurd h aa
 all_goals exact absurd h aa
theorem A5 {f:BI} {e:Expr} (h:cm S (.rdl f xa) e=true):∃ x p a p2,e=.Call (.Name x p) [a] [] p2∧(!S.hot && decide (x=f.nm) && cP S.sc x && bZ a && cm S xa a)=true:=by
 cases e
 case Call u1 u2 u3 p2 =>
  cases u1
  case Name x p =>
   cases u2
   case cons a u4 =>
    cases u4
    case nil =>
     cases u3
     case nil =>
      exact ⟨x,p,a,p2,rfl,h⟩
     all_goals exact absurd h aa
    all_goals exact absurd h aa
   all_goals exact absurd h aa
  all_goals exact absurd h aa
 all_goals exact absurd h aa
theorem A6 {b:Bool} {e:Expr} (h:cm S (.inl b xa xb) e=true):∃ l q r p,e=.Compare l [q] [r] p∧(uf (if b=true then .notin else .isin) q && jx (if b=true then .notin else .isin) r && cm S xa l && cm S xb r)=true:=by
 cases e
 case Compare l u1 u2 p =>
  cases u1
  case cons q u3 =>
   cases u3
   case nil =>
    cases u2
    case cons r u4 =>
     cases u4
     case nil =>
      exact ⟨l,q,r,p,rfl,h⟩
     all_goals exact absurd h aa
    all_goals exact absurd h aa
   all_goals exact absurd h aa
  all_goals exact absurd h aa
 all_goals exact absurd h aa
theorem A7 {e:Expr} (h:cm S (.ixl xa xb) e=true):∃ a f p,e=.Subscript a f p∧(cM f && cm S xa a && cm S xb f)=true:=by
 cases e
 case Subscript a f p =>
  exact ⟨a,f,p,rfl,h⟩
 all_goals exact absurd h aa
theorem A8 {c f:Str} {e:Expr} (h:cm S (.fld c f xa) e=true):∃ a nm p,e=.Attribute a nm p∧(decide (nm=f) && S.fl.contains (c,f) && cD a && cm S xa a)=true:=by
 cases e
 case Attribute a nm p =>
  exact ⟨a,nm,p,rfl,h⟩
 all_goals exact absurd h aa
theorem xY {e:Expr} (h:cm S (.popl xa) e=true):∃ a nm apos cpos,e=.Call (.Attribute a nm apos) [] [] cpos∧(decide (nm="pop") && (apos.endLine == cpos.line) && cD a && cm S xa a)=true:=by
 cases e
 case Call u1 u2 u3 cpos =>
  cases u1
  case Attribute a nm apos =>
   cases u2
   case nil =>
    cases u3
    case nil =>
     exact ⟨a,nm,apos,cpos,rfl,h⟩
    all_goals exact absurd h aa
   all_goals exact absurd h aa
  all_goals exact absurd h aa
 all_goals exact absurd h aa
theorem DC {m:MI} {e:Expr} (h:cm S (.rm m xa xb) e=true):∃ a nm apos f cpos,e=.Call (.Attribute a nm apos) [f] [] cpos∧(m.txt && decide (nm=m.nm) && (apos.endLine == cpos.line) && cD a && bZ f && cm S xa a && cm S xb f)=true:=by
 cases e
 case Call u1 u2 u3 cpos =>
  cases u1
  case Attribute a nm apos =>
   cases u2
   case cons f u4 =>
    cases u4
    case nil =>
     cases u3
     case nil =>
      exact ⟨a,nm,apos,f,cpos,rfl,h⟩
     all_goals exact absurd h aa
    all_goals exact absurd h aa
   all_goals exact absurd h aa
  all_goals exact absurd h aa
 all_goals exact absurd h aa
theorem xZ {e:Expr} (h:cm S (.popk xa xb) e=true):∃ a nm apos f cpos,e=.Call (.Attribute a nm apos) [f] [] cpos∧(decide (nm="pop") && (apos.endLine == cpos.line) && cD a && bZ f && cm S xa a && cm S xb f)=true:=by
 cases e
 case Call u1 u2 u3 cpos =>
  cases u1
  case Attribute a nm apos =>
   cases u2
   case cons f u4 =>
    cases u4
    case nil =>
     cases u3
     case nil =>
      exact ⟨a,nm,apos,f,cpos,rfl,h⟩
     all_goals exact absurd h aa
    all_goals exact absurd h aa
   all_goals exact absurd h aa
  all_goals exact absurd h aa
 all_goals exact absurd h aa
theorem A9 {c m:Str} {j:Nat} {e:Expr} (h:cm S (.mth c m j xa xb) e=true):∃ a nm apos l cpos,e=.Call (.Attribute a nm apos) l [] cpos ∧
  (!S.hot && decide (nm=m) && S.mt.contains (j,c,m) && (apos.endLine == cpos.line) && decide (l.length < 30) && cD a && cm S xa a && gV S xb l)=true:=by
 cases e
 case Call u1 l u2 cpos =>
  cases u1
  case Attribute a nm apos =>
   cases u2
   case nil =>
    exact ⟨a,nm,apos,l,cpos,rfl,h⟩
   all_goals exact absurd h aa
  all_goals exact absurd h aa
 all_goals exact absurd h aa
theorem DD {c:Str} {j:Nat} {e:Expr} (h:cm S (.mk c j xa) e=true):∃ x p l p2,e=.Call (.Name x p) l [] p2∧(!S.hot && decide (x=c) && S.mks.contains (j,c) && cP S.sc x && dZ x && l.length ≥ 1 && gV S xa l)=true:=by
 cases e
 case Call u1 l u2 p2 =>
  cases u1
  case Name x p =>
   cases u2
   case nil =>
    exact ⟨x,p,l,p2,rfl,h⟩
   all_goals exact absurd h aa
  all_goals exact absurd h aa
 all_goals exact absurd h aa
theorem yc {e:Expr} (h:cm S (.trev xa) e=true):∃ x p y p2 a p3 p4,e=.Call (.Name x p) [.Call (.Name y p2) [a] [] p3] [] p4∧(!S.hot && decide (x="tuple") && decide (y="reversed") && cP S.sc x && cP S.sc y && bZ a && cm S xa a)=true:=by
 cases e
 case Call u1 u2 u3 p4 =>
  cases u1
  case Name x p =>
   cases u2
   case cons u4 u5 =>
    cases u4
    case Call u6 u7 u8 p3 =>
     cases u6
     case Name y p2 =>
      cases u7
      case cons a u9 =>
       cases u9
       case nil =>
        cases u8
        case nil =>
         cases u5
         case nil =>
          cases u3
          case nil =>
           exact ⟨x,p,y,p2,a,p3,p4,rfl,h⟩
          all_goals exact absurd h aa
         all_goals exact absurd h aa
        all_goals exact absurd h aa
       all_goals exact absurd h aa
      all_goals exact absurd h aa
     all_goals exact absurd h aa
    all_goals exact absurd h aa
   all_goals exact absurd h aa
  all_goals exact absurd h aa
 all_goals exact absurd h aa
theorem Ba {t:Ty} {e:Expr} (h:cm S (.isi xa t) e=true):∃ x p a y p1 p2,e=.Call (.Name x p) [a,.Name y p1] [] p2∧(decide (x="isinstance") && cP S.sc x && decide (y=Str.ofString t.nm) && cP S.sc y && bZ a && cm S xa a)=true:=by
 cases e
 case Call u1 u2 u3 p2 =>
  cases u1
  case Name x p =>
   cases u2
   case cons a u4 =>
    cases u4
    case cons u5 u6 =>
     cases u5
     case Name y p1 =>
      cases u6
      case nil =>
       cases u3
       case nil =>
        exact ⟨x,p,a,y,p1,p2,rfl,h⟩
       all_goals exact absurd h aa
      all_goals exact absurd h aa
     all_goals exact absurd h aa
    all_goals exact absurd h aa
   all_goals exact absurd h aa
  all_goals exact absurd h aa
 all_goals exact absurd h aa
theorem DE {m:MI} {e:Expr} (h:cm S (.mt m xa xb) e=true):∃ a nm apos l cpos,e=.Call (.Attribute a nm apos) l [] cpos ∧
  (decide (nm=m.nm) && (m.has && decide (l.length=m.args)) && decide (xb.len=m.args) && (apos.endLine == cpos.line) && cD a && cm S xa a && gV S xb l)=true:=by
 cases e
 case Call u1 l u2 cpos =>
  cases u1
  case Attribute a nm apos =>
   cases u2
   case nil =>
    exact ⟨a,nm,apos,l,cpos,rfl,h⟩
   all_goals exact absurd h aa
  all_goals exact absurd h aa
 all_goals exact absurd h aa
theorem sn {own:List Nat} {t:T} {e:Expr} (h:cm S (.comp own t xa xc xb) e=true):∃ el tg ite ifs scope p,e=.ListComp el [⟨tg,ite,ifs,0⟩] scope p ∧
  (!S.hot && blkC S.N S.sc scope (jW S.N own) && (T.slots t).all (fun i=>own.contains i) && gU ite && mH S xa tg ite && oA { S with sc:=relS scope S.sc,top:=false } t tg && cm { S with sc:=relS scope S.sc,top:=false } xb el &&
   (match ifs with | []=>xc.isNil | [f]=>!xc.isNil && cm { S with sc:=relS scope S.sc,top:=false } xc f | _=>false))=true:=by
 cases e
 case ListComp el u1 scope p =>
  cases u1
  case cons u2 u3 =>
   obtain ⟨tg,ite,ifs,u4⟩:=u2
   cases u4
   case ofNat u5 =>
    cases u5
    case zero =>
     cases u3
     case nil =>
      exact ⟨el,tg,ite,ifs,scope,p,rfl,h⟩
     all_goals exact absurd h aa
    all_goals exact absurd h aa
   all_goals exact absurd h aa
  all_goals exact absurd h aa
 all_goals exact absurd h aa
theorem yd {own:List Nat} {t:T} {j:Nat} {e:Expr} (h:cm S (.comE own t xa j xb) e=true):∃ x px l pc tg ite scope p,e=.ListComp (.Call (.Name x px) l [] pc) [⟨tg,ite,[],0⟩] scope p ∧
  (!S.hot && S.top && blkC S.N S.sc scope (jW S.N own) && (T.slots t).all (fun i=>own.contains i) && gU ite && mH S xa tg ite && oA { S with sc:=relS scope S.sc,top:=false } t tg &&
   (decide (S.cs[j]?=some x) && cP (relS scope S.sc) x && dZ x && l.length ≥ 1 && gV { S with sc:=relS scope S.sc,top:=false } xb l))=true:=by
 cases e
 case ListComp u1 u2 scope p =>
  cases u1
  case Call u3 l u4 pc =>
   cases u3
   case Name x px =>
    cases u4
    case nil =>
     cases u2
     case cons u5 u6 =>
      obtain ⟨tg,ite,u7,u8⟩:=u5
      cases u7
      case nil =>
       cases u8
       case ofNat u9 =>
        cases u9
        case zero =>
         cases u6
         case nil =>
          exact ⟨x,px,l,pc,tg,ite,scope,p,rfl,h⟩
         all_goals exact absurd h aa
        all_goals exact absurd h aa
       all_goals exact absurd h aa
      all_goals exact absurd h aa
     all_goals exact absurd h aa
    all_goals exact absurd h aa
   all_goals exact absurd h aa
  all_goals exact absurd h aa
 all_goals exact absurd h aa
theorem yf {es:List Expr} (h:gV S .nil es=true):es=[]:=by
 cases es
 case nil =>
  exact rfl
 all_goals exact absurd h aa
theorem ja:∀ {es:List Expr},gV S (.cons xa xb) es=true→∃ a r,es=a :: r∧(bZ a && cm S xa a && gV S xb r)=true
 | a :: r,h=>⟨a,r,rfl,h⟩
theorem DF {e:Expr} (h:lL S (.rng1 xa) e=true):∃ x p a p2,e=.Call (.Name x p) [a] [] p2∧(decide (x="range") && cP S.sc x && bZ a && cm S xa a)=true:=by
 cases e
 case Call u1 u2 u3 p2 =>
  cases u1
  case Name x p =>
   cases u2
   case cons a u4 =>
    cases u4
    case nil =>
     cases u3
     case nil =>
      exact ⟨x,p,a,p2,rfl,h⟩
     all_goals exact absurd h aa
    all_goals exact absurd h aa
   all_goals exact absurd h aa
  all_goals exact absurd h aa
 all_goals exact absurd h aa
theorem DG {e:Expr} (h:lL S (.rng2 xa xb) e=true):∃ x p a b p2,e=.Call (.Name x p) [a,b] [] p2∧(decide (x="range") && cP S.sc x && bZ a && bZ b && cm S xa a && cm S xb b)=true:=by
 cases e
 case Call u1 u2 u3 p2 =>
  cases u1
  case Name x p =>
   cases u2
   case cons a u4 =>
    cases u4
    case cons b u5 =>
     cases u5
     case nil =>
      cases u3
      case nil =>
       exact ⟨x,p,a,b,p2,rfl,h⟩
      all_goals exact absurd h aa
     all_goals exact absurd h aa
    all_goals exact absurd h aa
   all_goals exact absurd h aa
  all_goals exact absurd h aa
 all_goals exact absurd h aa
theorem DH {tg:Expr} {e:Expr} (h:mH S (.rng1 xa) tg e=true):∃ x p a p2,e=.Call (.Name x p) [a] [] p2∧(decide (x="range") && cP S.sc x && bZ a && cm S xa a)=true:=by
 cases e
 case Call u1 u2 u3 p2 =>
  cases u1
  case Name x p =>
   cases u2
   case cons a u4 =>
    cases u4
    case nil =>
     cases u3
     case nil =>
      exact ⟨x,p,a,p2,rfl,h⟩
     all_goals exact absurd h aa
    all_goals exact absurd h aa
   all_goals exact absurd h aa
  all_goals exact absurd h aa
 all_goals exact absurd h aa
theorem DI {tg:Expr} {e:Expr} (h:mH S (.rng2 xa xb) tg e=true):∃ x p a b p2,e=.Call (.Name x p) [a,b] [] p2∧(decide (x="range") && cP S.sc x && bZ a && bZ b && cm S xa a && cm S xb b)=true:=by
 cases e
 case Call u1 u2 u3 p2 =>
  cases u1
  case Name x p =>
   cases u2
   case cons a u4 =>
    cases u4
    case cons b u5 =>
     cases u5
     case nil =>
      cases u3
      case nil =>
       exact ⟨x,p,a,b,p2,rfl,h⟩
      all_goals exact absurd h aa
     all_goals exact absurd h aa
    all_goals exact absurd h aa
   all_goals exact absurd h aa
  all_goals exact absurd h aa
 all_goals exact absurd h aa
theorem yg {n:Nat} {tg e:Expr} (h:mH S (.enum xa n) tg e=true):n=0∧∃ el k p1 x p a p2,tg=.Tuple el k p1∧e=.Call (.Name x p) [a] [] p2∧(decide (x="enumerate") && cP S.sc x && bZ a && cm S xa a)=true:=by
 cases n
 case zero =>
  cases tg
  case Tuple el k p1 =>
   cases e
   case Call u1 u2 u3 p2 =>
    cases u1
    case Name x p =>
     cases u2
     case cons a u4 =>
      cases u4
      case nil =>
       cases u3
       case nil =>
        exact ⟨rfl,el,k,p1,x,p,a,p2,rfl,rfl,h⟩
       all_goals exact absurd h aa
      all_goals exact absurd h aa
     all_goals exact absurd h aa
    all_goals exact absurd h aa
   all_goals exact absurd h aa
  all_goals exact absurd h aa
 all_goals exact absurd h aa
theorem DJ {tg:Expr} {e:Expr} (h:mH S (.rng3 xa xb xc) tg e=true):∃ x p a b k p2,e=.Call (.Name x p) [a,b,k] [] p2∧(decide (x="range") && cP S.sc x && bZ a && bZ b && bZ k && cm S xa a && cm S xb b && cm S xc k)=true:=by
 cases e
 case Call u1 u2 u3 p2 =>
  cases u1
  case Name x p =>
   cases u2
   case cons a u4 =>
    cases u4
    case cons b u5 =>
     cases u5
     case cons k u6 =>
      cases u6
      case nil =>
       cases u3
       case nil =>
        exact ⟨x,p,a,b,k,p2,rfl,h⟩
       all_goals exact absurd h aa
      all_goals exact absurd h aa
     all_goals exact absurd h aa
    all_goals exact absurd h aa
   all_goals exact absurd h aa
  all_goals exact absurd h aa
 all_goals exact absurd h aa
theorem uP {n:Nat} {tg e:Expr} (h:mH S (.enumK xa n) tg e=true):∃ el k p1 x p a kw i k2 p3 p4 p2,tg=.Tuple el k p1∧e=.Call (.Name x p) [a] [⟨some kw,.Constant (.int i) k2 p3,p4⟩] p2∧(decide (x="enumerate") && decide (kw="start") && decide (i=(n:Nat)) && decide (n < 1000) && cP S.sc x && bZ a && cm S xa a)=true:=by
 cases tg
 case Tuple el k p1 =>
  cases e
  case Call u1 u2 u3 p2 =>
   cases u1
   case Name x p =>
    cases u2
    case cons a u4 =>
     cases u4
     case nil =>
      cases u3
      case cons u5 u6 =>
       obtain ⟨u7,u8,p4⟩:=u5
       cases u7
       case some kw =>
        cases u8
        case Constant u9 k2 p3 =>
         cases u9
         case int i =>
          cases u6
          case nil =>
           exact ⟨el,k,p1,x,p,a,kw,i,k2,p3,p4,p2,rfl,rfl,h⟩
          all_goals exact absurd h aa
         all_goals exact absurd h aa
        all_goals exact absurd h aa
       all_goals exact absurd h aa
      all_goals exact absurd h aa
     all_goals exact absurd h aa
    all_goals exact absurd h aa
   all_goals exact absurd h aa
  all_goals exact absurd h aa
 all_goals exact absurd h aa
theorem Bb {tg e:Expr} (h:mH S (.zip xa xb) tg e=true):∃ el k p1 x p a b p2,tg=.Tuple el k p1∧e=.Call (.Name x p) [a,b] [] p2∧(decide (x="zip") && cP S.sc x && bZ a && bZ b && cm S xa a && cm S xb b)=true:=by
 cases tg
 case Tuple el k p1 =>
  cases e
  case Call u1 u2 u3 p2 =>
   cases u1
   case Name x p =>
    cases u2
    case cons a u4 =>
     cases u4
     case cons b u5 =>
      cases u5
      case nil =>
       cases u3
       case nil =>
        exact ⟨el,k,p1,x,p,a,b,p2,rfl,rfl,h⟩
       all_goals exact absurd h aa
      all_goals exact absurd h aa
     all_goals exact absurd h aa
    all_goals exact absurd h aa
   all_goals exact absurd h aa
  all_goals exact absurd h aa
 all_goals exact absurd h aa
theorem DK {tg e:Expr} (h:mH S (.it xa) tg e=true):(gU e && cm S xa e)=true:=h
theorem iQ:∀ {x:X} {es:List Expr},gV S x es=true→es.all bZ=true
 | .nil,[],_=>rfl
 | .cons a b,e :: es,h=>by
  have h:(bZ e && cm S a e && gV S b es)=true:=h
  simp only [ab] at h
  rw [a5,h.1.1,iQ h.2]
  rfl
theorem nf {env:Env} (h:gU e=true):∀ x,foldedSetIterable e env x=pure x:=by
 intro x
 cases e <;> first | rfl | cases h
end
end GM


namespace GM
open PySem PySem.Spec L2

def lT (M:Model) (A:Around) (E:Value→Shared→Prop) (Q:Value→Shared→Prop) (acc:Value) (cenv:Env) (r:Result) (s':Shared):Prop :=
 match r with
 | .ok _=>∃ m,s'.heap.Ns cenv.locals m∧∀ h',Heap.SameBut cenv.locals s'.heap h'→Q acc { s' with heap:=h' }
 | .error x=>∃ m,s'.heap.Ns cenv.locals m∧∀ h' m',h'.Ns cenv.locals m'→Heap.SameBut cenv.locals s'.heap h'→wpAny M A (passOn "comprehension.variables-let-go" x cenv:Sem Value) (fun _ _=>False) E { s' with heap:=h' }
theorem qA {M:Model} {A:Around} {E:Value→Shared→Prop} {s:Shared} {env:Env} {e:Expr} {scope:Scope} {pos:Pos} {newAcc first:Sem Value} {g:Comprehension} {gs:List Comprehension} {cl:List (Str × Addr)} {Q:Value→Shared→Prop}
  (hcl:clausesOf e=g :: gs) (hs:∀ x,foldedSetIterable g.iter env x=pure x) (hclos:closureFor scope env=pure cl)
  (hkind:scope.kind=.function) (hnames:∀ x∈scope.names,x.2=.local→scope.names.lookup x.1=some .local)
  (h:wpAny M A first (fun x s₁=>wpAny M A (pyIter x) (fun it s₂=>wpAny M A newAcc (fun acc s₃ =>
   wpAny M A (newFunctionEnv scope env.globals cl [] env.qual none .none (some env)) (fun cenv s₄ =>
    codeAny M A (.compStart e 0 it acc { cenv with scope:=relabel scope env }) (lT M A E Q acc { cenv with scope:=relabel scope env }) s₄) E s₃) E s₂) E s₁) E s) :
  wpAny M A (comprehension e scope env pos newAcc false first none) Q E s:=by
 unfold comprehension
 rw [hclos,hcl]
 refine wpAny_bind (wpAny_mono h (fun x s₁ h₁=>wpAny_bind (wpAny_standAt (wpAny_bind (wpAny_of_eq (hs x) (wpAny_bind (wpAny_holding (wpAny_mono h₁ (fun it s₂ h₂ =>
  wpAny_standIf (wpAny_bind (wpAny_mono h₂ (fun acc s₃ h₃=>wpAny_bind (wpAny_pure (wpAny_bind (wpAny_mono h₃ (fun cenv s₄ h₄=>?_) fun _ _ h'=>h')))) fun _ _ h'=>h')))
   fun _ _ h'=>h'))))))) fun _ _ h'=>h')
 dsimp only
 have hv:∀ x∈(scope.names.filter fun x=>(x.2 == .local || x.2 == .cell) && x.1 != (".0":Str)).reverse,x.2=.local →
   Env.kindOf { cenv with scope:=relabel scope env } x.1=some .local:=fun x hx hl=>lookup_relabel_local (hnames x (List.mem_filter.mp (List.mem_reverse.mp hx)).1 hl)
 have hv':∀ x∈(scope.names.filter fun x=>(x.2 == .local || x.2 == .cell) && x.1 != (".0":Str)).reverse.drop 1++(scope.names.filter fun x=>(x.2 == .local || x.2 == .cell) && x.1 != (".0":Str)).reverse.take 1,
   x.2=.local→Env.kindOf { cenv with scope:=relabel scope env } x.1=some .local:=fun x hx hl=>by
  rcases aM.mp hx with h1 | h1
  ·exact hv x (List.mem_of_mem_drop h1) hl
  ·exact hv x (List.mem_of_mem_take h1) hl
 refine wpAny_holding (wpAny_bind (wpAny_attempt (wpAny_holding (wpAny_run (codeAny_mono h₄ fun r s' hr=>?_)))))
 cases r with
 | ok f =>
  obtain ⟨m,hn,hr⟩:=hr
  exact wpAny_bind (wpAny_holding (wpAny_comp_letGo (cenv:={ cenv with scope:=relabel scope env }) hkind _ s' m hv hn fun h' m' _ hs'=>wpAny_pure (hr h' hs')))
 | error x =>
  obtain ⟨m,hn,hr⟩:=hr
  exact wpAny_bind (wpAny_holding (wpAny_comp_letGo (cenv:={ cenv with scope:=relabel scope env }) hkind _ s' m hv hn fun h' m' hn' hs'=>wpAny_mono (hr h' m' hn' hs') (fun _ _ f=>f.elim) fun _ _ y=>y))

theorem ng {M:Model} {A:Around} {E:Value→Shared→Prop} {s:Shared} {Z:Obj→Prop} {base:Heap} {env:Env} {outer:List Env} {L C e:Addr} {Q:Unit→Shared→Prop} (hZ:HandSPX.Steady Z) (hfr:A.frames=some (env :: outer)) (hf:env.frame=some L) (hne:C≠L) (hfl:HandSPX.HeldZ base (env :: outer) e Z C s.heap)
  (hQ:∀ h',HandSPX.HeldZ base (env :: outer) e Z L h'→s.heap.UpToSlots h'→Q () { s with heap:=h' }):wpAny M A (noteFrame (.ref e) env) Q E s:=by
 obtain ⟨hkb,hen,hl,oe,vs,T,oT,ts,he,hz,hd,h1,hnT,hTe,hT,hdT,h3⟩:=hfl
 unfold noteFrame
 simp only [hf]
 refine wpAny_bind (wpAny_field he hd h1 ?_)
 rw [ap (show (Value.ref T != Value.none)=true from by simp)]
 refine wpAny_bind (wpAny_field hT hdT h3 ?_)
 rw [av (show ¬ ((rawInt C == rawInt L)=true) from by simp only [rawInt]; intro q; exact hne (by have:=bS.mp q; injection this with q1; exact Int.ofNat.inj q1))]
 refine wpAny_bind (wpAny_setField hT hdT (bB.mp h3).1 ?_)
 have other:∀ b,b≠T→(s.heap.update T (Obj.mapFields (·.setIfInBounds 3 Value.none))).get? b=s.heap.get? b:=fun b hb=>Heap.get?_update_other _ _ (Ne.symm hb)
 have noRecord:∀ b o,s.heap.get? b=some o→(∀ vs,o.data≠.fields vs)→b≠T:=fun b o hb hnf q=>by
  rw [q,hT] at hb; injection hb with hb; subst hb; exact hnf ts hdT
 refine HandSPX.wpAny_entryZ hZ hfr (hl.of_keeps fun b o hb hnf=>⟨o,(other b (noRecord b o hb hnf)).trans hb,rfl⟩) hf ((other e (Ne.symm hTe)).trans he)
  (fun b o hbo=>(other b fun q=>by rw [q,hnT] at hbo; cases hbo).trans (hkb b o hbo)) hen hd (bB.mp h1).1 hz fun h' hN=>?_
 obtain ⟨x1,x2,x3,x4⟩:=hN
 exact hQ h' ⟨x1,hen,x2,x3⟩ fun b o hb hnf=>x4 b o ((other b (noRecord b o hb hnf)).trans hb) hnf
theorem so (e:Value) {cenv env:Env} (h:cenv.frame=env.frame):noteFrame e cenv=noteFrame e env:=by
 unfold noteFrame frameOf
 rw [h]

abbrev blkE (X:Cx) (s:Shared) (H:Hp) (scope:Scope) (cenv:Env) (fp:List Addr) (xe:Value→Shared→Prop):Cx:={ X.blk s H scope cenv fp with xe:=xe }
theorem qB {X:Cx} {W:WX} {pins:List (Addr × Obj)} {σ:St} {H3:Hp} {s3:Shared} {scope:Scope} {ce:Env} {fp:List Addr} {Q:Value→Shared→Prop} {acc:Value} (tk:Takes X W) (hst:X.stack=X.env :: X.outer) (hfr:X.env.frame=some X.env.locals)
  (I3:Inv X pins σ H3 s3) (f3:∀ b∈fp,FpOk X pins H3 b∧b < s3.heap.objs.size) (hC:ce.locals=s3.heap.objs.size) (hcf:ce.frame=X.env.frame) :
  Takes (blkE X s3 H3 scope ce fp (notedBy (model X.prog X.w) X.A ce fun e s'=>lT (model X.prog X.w) X.A X.xe Q acc ce (.error e) s')) (fun c d _ H'=>W c d σ H'):=by
 rintro u s' ⟨a,B,sI,pins',σi,Hi,cls,d,rfl,I,nb,up,sky,na,os,ag,w⟩
 have hfrm:X.A.frames=some (X.env :: X.outer):=by rw [I3.ok.frames,hst]
 obtain ⟨m,hn,_⟩:=I.loc
 have hn:sI.heap.Ns ce.locals m:=hn
 have nC:Hi ce.locals=none:=I.free
 have FC:FpOk X pins Hi ce.locals:=by
  rw [hC]
  exact I3.fpOk (aA _) (by rw [← hC]; exact nC)
 have CL:ce.locals≠X.env.locals:=FC.2.1
 have I7:Inv X pins σ Hi sI:=I3.call' (ch:=fp) I.os I.base I.hok I.bare fun b hb=>⟨(f3 b hb).1.2.2.2.1,(f3 b hb).1.2.1,(f3 b hb).1.2.2.2.2.1,(f3 b hb).1.2.2.2.2.2⟩
 have sky:Sky B X.stack a (Zc cls d) ce.locals s'.heap:=sky
 have nb:∀ b o,sI.heap.get? b=some o→b∉frs X.stack→B.get? b=some o:=nb
 show wpAny (model X.prog X.w) X.A (noteFrame (.ref a) ce) (fun _ s1=>lT (model X.prog X.w) X.A X.xe Q acc ce (.error (.ref a)) s1) _ s'
 rw [so _ hcf]
 have fin:∀ h1,HandSPX.HeldZ B (X.env :: X.outer) a (Zc cls d) X.env.locals h1→s'.heap.UpToSlots h1→lT (model X.prog X.w) X.A X.xe Q acc ce (.error (.ref a)) { s' with heap:=h1 }:=fun h1 hh u1=>by
  obtain ⟨oL,es,ep,hoL,hdL,r⟩:=hn
  obtain ⟨sl1,e1⟩:=up _ oL hoL fun vs q=>by rw [hdL] at q; cases q
  obtain ⟨sl2,e2⟩:=u1 _ _ e1 fun vs q=>by rw [show _=oL.data from rfl,hdL] at q; cases q
  refine ⟨m,⟨_,es,ep,e2,hdL,r⟩,fun h2 m2 hn2 sb=>?_⟩
  have k2:∀ b o,h1.get? b=some o→b≠ce.locals→h2.get? b=some o:=fun b o e hb=>(sb.2 b hb).trans e
  obtain ⟨b1,b0,f1,oe,vs,T,oT,ts,he,hz,hd,h1',hnT,hTe,hT,hdT,h3⟩:=hh
  have neE:a≠ce.locals:=fun q=>by
   rw [q,e2] at he
   cases he
   rw [show _=oL.data from rfl,hdL] at hd
   cases hd
  have neT:T≠ce.locals:=fun q=>by
   rw [q,e2] at hT
   cases hT
   rw [show _=oL.data from rfl,hdL] at hdT
   cases hdT
  have hidN:∀ {h:Heap},(PySem.W.hideAll h [ce.locals]).get? ce.locals=none:=fun {h}=>PySem.W.hideAll_none _ (ak.mpr rfl)
  have hidG:∀ {h:Heap} {b:Addr} {o:Obj},h.get? b=some o→b≠ce.locals→(PySem.W.hideAll h [ce.locals]).get? b=some o:=fun {h b o} e hb=>PySem.W.hideAll_get _ e fun q=>hb (ak.mp q)
  have hidO:∀ {h:Heap} {b:Addr} {o:Obj},(PySem.W.hideAll h [ce.locals]).get? b=some o→h.get? b=some o∧b≠ce.locals:=fun {h b o} e=>⟨PySem.W.of_hideAll _ e,fun q=>by rw [q,hidN] at e; cases e⟩
  have hidZ:∀ {h:Heap} {b:Addr},h.get? b=none→(PySem.W.hideAll h [ce.locals]).get? b=none:=fun {h b} e=>by
   cases q:(PySem.W.hideAll h [ce.locals]).get? b with
   | none=>rfl
   | some o=>rw [(hidO q).1] at e; cases e
  have held2:HandSPX.HeldZ (PySem.W.hideAll B [ce.locals]) (X.env :: X.outer) a (Zc cls d) X.env.locals h2:=by
   refine ⟨fun b o hb=>k2 b o (b1 b o (hidO hb).1) (hidO hb).2,hidZ b0,Heap.FunFrames.sameBut sb hn2 (funFrames_none f1 fun L hL=>hidZ ?_),oe,vs,T,oT,ts,k2 _ _ he neE,hz,hd,h1',hidZ hnT,hTe,k2 _ _ hT neT,hdT,h3⟩
   exact (f1.mem hL).1
  unfold passOn
  refine wpAny_bind (wpAny_field (k2 _ _ he neE) hd h1' ?_)
  rw [av (show ¬ ((Value.ref T == Value.none)=true) from by simp)]
  rw [hcf,hfr]
  refine wpAny_bind (HandSPX.setFlight_onZ held2 fun h3 hh3 u3=>?_)
  refine wpAny_throw ?_
  refine tk _ _ ⟨a,PySem.W.hideAll B [ce.locals],{ sI with heap:=PySem.W.hideAll sI.heap [ce.locals],toks:=sI.toks },pins,σ,Hi,cls,d,rfl,I7.turned (it:=ce.locals) (fun b o hb e=>hidG e hb) nC CL FC.2.2.2.1 FC.2.2.2.2.1 FC.2.2.2.2.2,fun b o e hb=>hidG (nb b o (hidO e).1 hb) (hidO e).2,fun b o e hd=>?_,?_,na,os,ag,w⟩
  ·obtain ⟨x1,y1⟩:=hidO e
   obtain ⟨sa,ea⟩:=up b o x1 hd
   obtain ⟨sb',eb⟩:=u1 b _ ea hd
   obtain ⟨sc,ec⟩:=u3 b _ (k2 b _ eb y1) hd
   exact ⟨sc,ec⟩
  ·rw [hst]
   exact .inr (.inr hh3)
 rw [hst] at sky
 rcases sky with ⟨hB,hn',hl,oe,vs,he,hz,hd,h1⟩ | fl | hh
 ·exact HandSPX.look_newZ Zc.steady hfrm hl hfr he hB hn' hd h1 hz fin
 ·exact HandSPX.looks_onZ Zc.steady hfrm hfr fl fin
 ·exact ng Zc.steady hfrm hfr CL hh fin
section
variable {X:Cx}
theorem sr {W:WX} {pins:List (Addr × Obj)} {s:Shared} {σ:St} {H:Hp} {Q:VK} {elt tg iter:Expr} {ifs:List Expr} {scope:Scope} {own:List (Str × Nat)} {pos pos':Pos} {wi:TI} {g:TG} {tt:TT} {te:TE} {Qf:Value→Shared→Prop}
  (tk:Takes X W) (hst:X.stack=X.env :: X.outer) (hfr:X.env.frame=some X.env.locals)
  (hc:X.calm=true) (hN:X.N.Nodup) (I:Inv X pins σ H s) (hi:PI X tg iter wi) (ok:BlkOk X.N X.env.scope scope own)
  (hg:∀ (s:Shared) (H:Hp) (C:Addr) (cl:List (Str × Addr)) (fp:List Addr) (xe:Value→Shared→Prop),Takes (blkE X s H scope (compEnvC scope cl C X.env) fp xe) (fun c d _ H'=>W c d σ H')→PG (blkE X s H scope (compEnvC scope cl C X.env) fp xe) tg g)
  (ht:∀ (s:Shared) (H:Hp) (C:Addr) (cl:List (Str × Addr)) (fp:List Addr) (xe:Value→Shared→Prop),Takes (blkE X s H scope (compEnvC scope cl C X.env) fp xe) (fun c d _ H'=>W c d σ H')→PTs (blkE X s H scope (compEnvC scope cl C X.env) fp xe) ifs tt)
  (he:∀ (s:Shared) (H:Hp) (C:Addr) (cl:List (Str × Addr)) (fp:List Addr) (xe:Value→Shared→Prop),Takes (blkE X s H scope (compEnvC scope cl C X.env) fp xe) (fun c d _ H'=>W c d σ H')→PE (blkE X s H scope (compEnvC scope cl C X.env) fp xe) elt te)
  (hs:∀ x,foldedSetIterable iter X.env x=pure x)
  (h:tLc wi g tt te (own.map (·.2)) σ H Q)
  (hRR:∀ D ce s' m H',Inv X pins σ H' s'→Q (.ref D) H'→s'.heap.Ns ce.locals m→FpOk X pins H' ce.locals→lT (model X.prog X.w) X.A X.xe Qf (.ref D) ce (.ok .next) s') :
  wpAny (model X.prog X.w) X.A (comprehension (.ListComp elt [⟨tg,iter,ifs,0⟩] scope pos) scope X.env pos' (newList []) false (eval iter X.env) none) Qf X.xe s:=by
 have hfree:∀ y∈scope.names,y.2=.free→∃ c,X.env.cells.lookup y.1=some c:=fun y hy e=>by
  rcases ok.free y hy e with k | k
  ·exact I.ok.has _ (.inl k)
  ·exact I.ok.has _ (.inr k)
 refine qA rfl hs (closure_ok hfree) ok.kind (fun y hy e=>by rw [ok.uniq y hy,e])
  (thn (hi.run pins s σ H _ I h) fun xv s1 hx=>thn hx fun itv s2 h2=>?_)
 obtain ⟨it,fp,tn,J,H2,e,I2,T,st2,f2,q⟩:=h2
 subst e
 refine wpAny_newObj_type (newEnv_comp ?_) (by show 0≤sizeLine; decide)
 generalize hD:s2.heap.objs.size=D
 have hDn:H2 D=none:=I2.hok.fresh (Nat.le_of_eq hD)
 obtain ⟨W0,⟨m0,w0⟩,turn⟩:=q D hDn
 generalize hs3:({ s2 with heap:=s2.heap.push { cls:=.type "list",data:=.seq ([]:List Value).toArray } }:Shared)=s3
 have I3:Inv X pins σ (upd H2 D (.lst [])) s3:=by
  rw [← hs3]
  refine I2.laid (t':=s2.toks) (fun b o e=>Heap.get?_push_of_some _ e) (Nat.le_of_eq hD) ⟨aV _,[],0,.nil,?_⟩
  rw [← hD]
  exact Heap.get?_push_size _ rfl
 have h3:s3.heap=s2.heap.push { cls:=.type "list",data:=.seq ([]:List Value).toArray }:=by rw [← hs3]
 have sz:∀ b∈fp,b < s2.heap.objs.size:=fun b hb=>by
  obtain ⟨o,e,_⟩:=T.obj _ _ st2 b hb
  exact Heap.lt_size e
 have f3:∀ b∈fp,FpOk X pins (upd H2 D (.lst [])) b∧b < s3.heap.objs.size:=fun b hb=>by
  have hlt:=sz b hb
  refine ⟨⟨?_,(f2 b hb).2⟩,by rw [h3,Heap.size_push]; exact bv hlt⟩
  rw [upd_ne (by rw [← hD]; exact aT hlt)]
  exact (f2 b hb).1
 have st3:tn 0 s3.heap:=T.keep _ _ _ st2 fun b _ o e=>by rw [h3]; exact Heap.get?_push_of_some _ e
 have I4:=block_start I3 ok hN f3
 have hcfr:∀ cl:List (Str × Addr),(compEnvC scope cl s3.heap.objs.size X.env).frame=X.env.frame:=fun _=>rfl
 have tkB:=qB (scope:=scope) (ce:=compEnvC scope (cellsFrom (s3.heap.objs.size+1) scope.names (cloFrom X.env.cells scope.names [])) s3.heap.objs.size X.env) (Q:=Qf) (acc:=.ref D) tk hst hfr I3 f3 rfl rfl
 have pg:=hg s3 (upd H2 D (.lst [])) s3.heap.objs.size (cellsFrom (s3.heap.objs.size+1) scope.names (cloFrom X.env.cells scope.names [])) fp _ tkB
 have pt:=ht s3 (upd H2 D (.lst [])) s3.heap.objs.size (cellsFrom (s3.heap.objs.size+1) scope.names (cloFrom X.env.cells scope.names [])) fp _ tkB
 have pe:=he s3 (upd H2 D (.lst [])) s3.heap.objs.size (cellsFrom (s3.heap.objs.size+1) scope.names (cloFrom X.env.cells scope.names [])) fp _ tkB
 show codeAny _ _ (.compStart (.ListComp elt [⟨tg,iter,ifs,0⟩] scope pos) 0 (.ref it) (.ref D) (compEnvC scope (cellsFrom (s3.heap.objs.size+1) scope.names (cloFrom X.env.cells scope.names [])) s3.heap.objs.size X.env)) (lT (model X.prog X.w) X.A X.xe Qf (.ref D) (compEnvC scope (cellsFrom (s3.heap.objs.size+1) scope.names (cloFrom X.env.cells scope.names [])) s3.heap.objs.size X.env)) { s3 with heap:=pushCells (s3.heap.push { cls:=.type "dict",data:=.dict #[] }) scope.names }
 have nfp:∀ b∈fp,(upd H2 D (.lst [])) b=none:=fun b hb=>(f3 b hb).1.1
 clear tkB
 generalize hce:compEnvC scope (cellsFrom (s3.heap.objs.size+1) scope.names (cloFrom X.env.cells scope.names [])) s3.heap.objs.size X.env=ce at I4 pg pt pe ⊢
 have cL:ce.locals=s3.heap.objs.size:=by subst hce; rfl
 generalize hH3:upd H2 D (.lst [])=H3 at I3 I4 pg pt pe w0 nfp f3
 generalize hs4:({ s3 with heap:=pushCells (s3.heap.push { cls:=.type "dict",data:=.dict #[] }) scope.names }:Shared)=s4 at I4 ⊢
 have I4:Inv (blkE X s3 H3 scope ce fp (notedBy (model X.prog X.w) X.A ce fun e s'=>lT (model X.prog X.w) X.A X.xe Qf (.ref D) ce (.error e) s')) [] (wipe σ (own.map (·.2))) H3 s4:=by
  have o:=I4.ok
  exact ⟨⟨o.mod,o.kind,o.glob,o.blt,o.above,o.inj,o.has,o.cab,o.hd,o.frames,o.stk,o.exf,o.bs,o.bsz,o.noex,o.exfs,o.funs,o.frf⟩,I4.os,I4.bare,I4.base,I4.loc,I4.cell,I4.free,I4.freeC,I4.pin,I4.hok,I4.len⟩
 generalize hxe:(notedBy (model X.prog X.w) X.A ce fun e s'=>lT (model X.prog X.w) X.A X.xe Qf (.ref D) ce (.error e) s')=xe at I4 pg pt pe
 have st4:tn 0 s4.heap:=T.keep _ _ _ st3 fun b _ o e=>by rw [← hs4]; exact pushCells_keeps _ _ _ _ (Heap.get?_push_of_some _ e)
 have stat:∀ {σ':St} {H':Hp} {s':Shared},Inv (blkE X s3 H3 scope ce fp xe) [] σ' H' s'→(∀ b∈fp,H' b=none)→∀ b∈fp,FpOk (blkE X s3 H3 scope ce fp xe) [] H' b:=fun {σ' H' s'} I' hn b hb =>
  ⟨hn b hb,(I'.ok.exf b hb).1,I'.ok.exfs b hb,.inl hb,fun x c e=>(I'.ok.exf b hb).2 x c e,fun p hp=>absurd (show p∈([]:List (Addr × Obj))++[] from hp) (by simp)⟩
 have loop:codeAny (model X.prog X.w) X.A (.compLoop (.ListComp elt [⟨tg,iter,ifs,0⟩] scope pos) 0 (.ref it) (.ref D) ce) (lT (model X.prog X.w) X.A X.xe Qf (.ref D) ce) s4:=by
  refine compLoop_any (fun n s'=>∃ i H',Inv (blkE X s3 H3 scope ce fp xe) [] (wipe σ (own.map (·.2))) H' s'∧tn i s'.heap∧(∀ b∈fp,H' b=none)∧W0 i n H') ?_ m0 ⟨0,H3,I4,st4,nfp,w0⟩
  rintro n s5 ⟨i,H5,I5,st5,n5,w5⟩
  rw [hxe]
  rcases turn i n H5 w5 with ⟨stop,qq⟩ | ⟨go,Nx,hNx,step⟩
  ·have td:=T.done (blkE X s3 H3 scope ce fp xe) rfl rfl rfl hc i [] s5 _ H5 (fun _ _=>False) I5 (stat I5 n5) st5 stop
   refine thnF td fun r s6 ⟨hr,I6⟩=>?_
   subst hr
   have I7:Inv X pins σ H5 s6:=I3.call' (ch:=fp) I6.os I6.base I6.hok I6.bare fun b hb=>⟨(f3 b hb).1.2.2.2.1,(f3 b hb).1.2.1,(f3 b hb).1.2.2.2.2.1,(f3 b hb).1.2.2.2.2.2⟩
   have nC:H5 ce.locals=none:=I6.free
   obtain ⟨m,hn,_⟩:=I6.loc
   have hn:s6.heap.Ns ce.locals m:=hn
   exact hRR D ce s6 m H5 I7 qq hn (I3.fpOk (Nat.le_of_eq cL.symm) nC)
  ·have ti:=T.item (blkE X s3 H3 scope ce fp xe) rfl rfl rfl hc i [] s5 _ H5 (fun _ _=>False) I5 (stat I5 n5) st5 go
   refine thnF ti fun r s6 ⟨u,hr,h6⟩=>?_
   subst hr
   refine thnF h6 fun _ s7 ⟨x,H7,I7,r7,y7,st7,n7⟩=>?_
   have I7':=I7.pinned (stat I7 n7) (T.obj _ _ st7)
   refine thn (pg.run _ s7 _ H7 x u _ I7' r7 (step x H7 y7)) fun _ s8 ⟨σ8,H8,I8,hw8,q8⟩=>?_
   refine thn (pt.run _ s8 σ8 H8 _ I8 q8) fun b s9 ⟨H9,I9,q9⟩=>?_
   have fin:∀ {s':Shared} {H':Hp},Inv (blkE X s3 H3 scope ce fp xe) ([]++pinsAt fp s7.heap) σ8 H' s'→Nx H'→∃ m,m < n∧∃ i H',Inv (blkE X s3 H3 scope ce fp xe) [] (wipe σ (own.map (·.2))) H' s'∧tn i s'.heap∧(∀ b∈fp,H' b=none)∧W0 i m H':=fun {s' H'} I' nx=>by
    obtain ⟨m',hm,w'⟩:=hNx H' nx
    have pin':∀ b∈fp,∀ o,s7.heap.get? b=some o→s'.heap.get? b=some o∧H' b=none:=fun b hb o e =>
     let z:=I'.pin (b,o) (am _ (am _ (mem_pinsAt hb e)))
     ⟨z.1,z.2.1⟩
    have hl:(wipe σ (own.map (·.2))).length=σ8.length:=by rw [← hw8,wipe_length]
    refine ⟨m',hm,i+1,H',(I'.unpinned (pins:=[])).weak hl (fun j v e=>?_),T.keep _ _ _ st7 fun b hb o e=>(pin' b hb o e).1,fun b hb=>?_,w'⟩
    ·rw [← hw8] at e
     exact (wipe_some e).1
    ·obtain ⟨o,e,_⟩:=T.obj _ _ st7 b hb
     exact (pin' b hb o e).2
   cases b with
   | false =>
    simp only [a6,if_false] at q9 ⊢
    exact fin I9 q9
   | true =>
    simp only [if_true] at q9 ⊢
    refine thn (pe.run _ s9 σ8 H9 _ I9 q9) fun z tX ⟨yv,H10,I10,r10,acc,hD10,hz10,nx⟩=>?_
    exact L2.app_ok (X:=blkE X s3 H3 scope ce fp xe) I10 hD10 hz10 r10 fun tY I11=>fin I11 nx
 exact codeAny_compStart_list loop (T.self X.A 0 _ _ _ st4 loop)
theorem yh {W:WX} {elt tg iter:Expr} {ifs:List Expr} {scope:Scope} {own:List (Str × Nat)} {pos:Pos} {wi:TI} {g:TG} {tt:TT} {te:St→TE}
  (tk:Takes X W) (hst:X.stack=X.env :: X.outer) (hfr:X.env.frame=some X.env.locals)
  (hc:X.calm=true) (hN:X.N.Nodup) (hi:PI X tg iter wi) (ok:BlkOk X.N X.env.scope scope own)
  (hg:∀ (σ:St) (s:Shared) (H:Hp) (C:Addr) (cl:List (Str × Addr)) (fp:List Addr) (xe:Value→Shared→Prop),Takes (blkE X s H scope (compEnvC scope cl C X.env) fp xe) (fun c d _ H'=>W c d σ H')→PG (blkE X s H scope (compEnvC scope cl C X.env) fp xe) tg g)
  (ht:∀ (σ:St) (s:Shared) (H:Hp) (C:Addr) (cl:List (Str × Addr)) (fp:List Addr) (xe:Value→Shared→Prop),Takes (blkE X s H scope (compEnvC scope cl C X.env) fp xe) (fun c d _ H'=>W c d σ H')→PTs (blkE X s H scope (compEnvC scope cl C X.env) fp xe) ifs tt)
  (he:∀ (σ:St) (s:Shared) (H:Hp) (C:Addr) (cl:List (Str × Addr)) (fp:List Addr) (xe:Value→Shared→Prop),Takes (blkE X s H scope (compEnvC scope cl C X.env) fp xe) (fun c d _ H'=>W c d σ H')→PE (blkE X s H scope (compEnvC scope cl C X.env) fp xe) elt (te σ))
  (hs:∀ x,foldedSetIterable iter X.env x=pure x) :
  PE X (.ListComp elt [⟨tg,iter,ifs,0⟩] scope pos) (fun σ H Q=>tLc wi g tt (te σ) (own.map (·.2)) σ H Q):=by
 refine ⟨fun pins s σ H Q I h=>?_⟩
 rw [eval_ListComp]
 refine sr tk hst hfr hc hN I hi ok (hg σ) (ht σ) (he σ) hs h fun D ce s' m H' I' q hn f=>⟨m,hn,fun h'' sb=>?_⟩
 obtain ⟨f0,f1,f2,f3,f4,f5⟩:=f
 exact ⟨.ref D,H',I'.turned (t':=s'.toks) (fun b o hb e=>(sb.2 b hb).trans e) f0 f1 f3 f4 f5,rfl,q⟩
end
end GM


namespace GM
open PySem PySem.Spec PyProof.Rows L2
section
variable {C:Cx} {S:Sc} {G:Gn} {W:WX} {e f b tg:Expr} {es:List Expr} {pos:Pos} {xa xb xc:X}
theorem jb {fs:List Fn} {gs:List D} {j:Nat} {F:Fn} {l:Lc} {s:cj} {r:R VT} (hf:fs[j]?=some F) (h:eU F (ft fs gs xb F.kp l s) l=r) (hr:r≠.no):b7 fs gs (.call j xb) l s=r:=by
 simp only [b7,hf]
 rw [← h]
 cases ea:ft fs gs xb F.kp l s with
 | ok q=>rfl
 | er a b c =>
  rw [ea] at h
  exact absurd h.symm hr
 | no=>rfl
theorem oQ {fs:List Fn} {gs:List D} {F:Fn} {l:Lc} {s:cj} {a:Ex} {b:cj} {c:Lc} (h:eU F (ft fs gs xb F.kp l s) l=.er a b c):c=l:=by
 cases ea:ft fs gs xb F.kp l s with
 | ok q =>
  rw [ea] at h
  unfold eU at h
  have h:(match F.run q.1 with | .ok (d,t)=>R.ok (d,t,q.2) | .er e _ _=>.er e q.2 l | .no=>.no)=.er a b c:=h
  split at h
  ·cases h
  ·injection h with h1 h2 h3
   exact h3.symm
  ·cases h
 | er a b c=>rw [ea] at h; cases h
 | no=>rw [ea] at h; cases h
def qC (acc:List GM.D) (r:R (List GM.D × cj)):R (List GM.D × cj):=r.bind fun (ds,s)=>.ok (acc++ds,s)
theorem ss (r:R (List GM.D × cj)):qC [] r=r:=by
 cases r with
 | ok q=>rfl
 | er a b c=>rfl
 | no=>rfl
theorem yi (B:Gd C S G W) {own:List Nat} {t:T} {j:Nat} (hsl:(T.slots t).all (fun i=>own.contains i)=true):∀ σ H Q,rd G.gm W (.comE own t xa j xb) σ H Q→tLc (mC G.gm W xa) (gT G.gm t) tYes (rd G.gm (fun c d _ H'=>W c d σ H') (.call j xb)) own σ H Q:=by
 rintro σ H Q ⟨g0,l,s0,SS,h⟩
 have hsl:∀ j,j∉own→j∉T.slots t:=fun j hj q=>by
  have:=aR.mp hsl j q
  exact hj (aK.mp this)
 have h:ValE G.gm W g0 σ l (if (own.all fun i=>match l[i]? with | some (some ⟨.ow,_⟩)=>false | _=>true)=false then .no else (gq G.fs G.gs xa l s0).bind fun (xs,s1) =>
   match G.fs[j]? with
   | none=>.no
   | some f=>if xs.length≤sizeLine then (match cY (fun x s=>match T.put t x (de l own) with
     | none=>.no
     | some l1=>cf (eU f (ft G.fs G.gs xb f.kp l1 s) l1) (fun d s3=>.ok (some d,s3))) xs s1 with
    | .ok (ds,s2)=>dY (.lst ds) s2
    | .er e s2 _=>.er e s2 l
    | .no=>.no) else .no) Q:=h
 split at h
 ·exact h.elim
 rename_i how
 have how:(own.all fun i=>match l[i]? with | some (some ⟨.ow,_⟩)=>false | _=>true)=true:=by simpa using how
 have how:∀ i∈own,∀ d',l[i]?≠some (some ⟨.ow,d'⟩):=fun i hi d' e=>by
  have:=aR.mp how i hi
  rw [e] at this
  cases this
 refine ⟨g0,l,s0,SS,?_⟩
 have h:ValE G.gm W g0 σ l ((gq G.gm.fs G.gm.gs xa l s0).bind _) Q:=h
 cases e0:gq G.gm.fs G.gm.gs xa l s0 with
 | er a b c =>
  rw [e0] at h
  exact h
 | no =>
  rw [e0] at h
  exact h
 | ok p =>
  obtain ⟨xs,s1⟩:=p
  rw [e0] at h
  cases ef:G.fs[j]? with
  | none =>
   have h:ValE G.gm W g0 σ l (match G.fs[j]? with
   | none=>.no
   | some f=>if xs.length≤sizeLine then (match cY (fun x s=>match T.put t x (de l own) with
     | none=>.no
     | some l1=>cf (eU f (ft G.fs G.gs xb f.kp l1 s) l1) (fun d s3=>.ok (some d,s3))) xs s1 with
    | .ok (ds,s2)=>dY (.lst ds) s2
    | .er e s2 _=>.er e s2 l
    | .no=>.no) else .no) Q:=h
   rw [ef] at h
   exact h.elim
  | some F =>
   generalize hbd:(fun x s=>match T.put t x (de l own) with
     | none=>R.no
     | some l1=>cf (eU F (ft G.fs G.gs xb F.kp l1 s) l1) (fun d s3=>R.ok (some d,s3)):GM.D→cj→R (Option GM.D × cj))=body
   have h:ValE G.gm W g0 σ l (match G.fs[j]? with
   | none=>.no
   | some f=>if xs.length≤sizeLine then (match cY (fun x s=>match T.put t x (de l own) with
     | none=>.no
     | some l1=>cf (eU f (ft G.fs G.gs xb f.kp l1 s) l1) (fun d s3=>.ok (some d,s3))) xs s1 with
    | .ok (ds,s2)=>dY (.lst ds) s2
    | .er e s2 _=>.er e s2 l
    | .no=>.no) else .no) Q:=h
   rw [ef] at h
   have h:ValE G.gm W g0 σ l (if xs.length≤sizeLine then (match cY (fun x s=>match T.put t x (de l own) with
     | none=>.no
     | some l1=>cf (eU F (ft G.fs G.gs xb F.kp l1 s) l1) (fun d s3=>.ok (some d,s3))) xs s1 with
    | .ok (ds,s2)=>dY (.lst ds) s2
    | .er e s2 _=>.er e s2 l
    | .no=>.no) else .no) Q:=h
   split at h
   case isFalse=>exact h.elim
   rename_i hlen
   rw [hbd] at h
   generalize eR:cY body xs s1=R0 at h
   intro g1 e1 J H1 S1 w L0 hD
   have no:=S1.noown hD
   have hB1:g1.B L0=none:=S1.freeB hD
   have hF1:g1.F.h L0=none∧∀ n,g1.F.m L0≠some n:=⟨S1.freeF hD,S1.freeM hD⟩
   refine ⟨fun i m H=>m=xs.length - i∧i≤xs.length∧∃ g acc accD s',Ext g1 g∧SR G.Y g σ H l s'∧H L0=some (.lst acc)∧(g.F.h L0=none∧∀ n,g.F.m L0≠some n)∧Rps G.Y g.F accD acc∧accD.length=i∧qC accD (cY body (xs.drop i) s')=R0,
    ⟨xs.length,by simp,aV _,g1,[],[],s1,.refl g1,S1.lay hD,upd_same,hF1,.nil,rfl,by rw [ss]; exact eR⟩,?_⟩
   rintro i m H2 ⟨rfl,hi,g2,acc,accD,s',e2,S2,hD2,hF2,r2,ai,ec2⟩
   have hB2:g2.B L0=none:=by rw [e2.b]; exact hB1
   by_cases hlt:i < xs.length
   ·refine .inr ?_
    have SL:=S2.lock hD2 hF2.2 hB2 no
    have eW:ExtW g1 ⟨g2.F,upd g2.B L0 (.lst acc),g2.M⟩:=⟨e2.f,by rw [← e2.b]; exact f6 hB2⟩
    obtain ⟨go,yl⟩:=(w _ i σ H2 l s' eW SL).1 xs[i] (ah hlt)
    refine ⟨go,fun H'=>∃ g acc accD s',Ext g1 g∧SR G.Y g σ H' l s'∧H' L0=some (.lst acc)∧(g.F.h L0=none∧∀ n,g.F.m L0≠some n)∧Rps G.Y g.F accD acc∧accD.length=i+1∧qC accD (cY body (xs.drop (i+1)) s')=R0,
     fun H' n=>⟨xs.length - (i+1),by omega,rfl,hlt,n⟩,fun x H3 y=>?_⟩
    obtain ⟨g3,e3,sm3,S3,r3⟩:=yl x H3 y
    have S3w:=S3.wipe own
    rw [List.drop_eq_getElem_cons hlt] at ec2
    have ec2:qC accD ((body xs[i] s').bind (fun (o,s1)=>(cY body (xs.drop (i+1)) s1).bind fun (r,s2)=>.ok (k7 o r,s2)))=R0:=ec2
    have eb:body xs[i] s'=match T.put t xs[i] (de l own) with
     | none=>R.no
     | some l1=>cf (eU F (ft G.fs G.gs xb F.kp l1 s') l1) (fun d s3=>R.ok (some d,s3)):=by rw [← hbd]
    cases et:T.put t xs[i] (de l own) with
    | none =>
     rw [et] at eb
     rw [eb] at ec2
     rw [← ec2] at h
     exact h.elim
    | some l1 =>
    rw [et] at eb
    have eb:body xs[i] s'=cf (eU F (ft G.fs G.gs xb F.kp l1 s') l1) (fun d s3=>R.ok (some d,s3)):=eb
    refine ⟨g3,de l own,s',xs[i],l1,S3w,r3,et,fun σ4 n4 f4 S4=>?_⟩
    have hσ:∀ j,j∉own→σ4[j]?=σ[j]?:=fun j hj=>(f4 j (hsl j hj)).trans (mS hj)
    have hl:∀ j,j∉own→l1[j]?=l[j]?:=fun j hj=>(lR et j (hsl j hj)).trans (jC hj)
    have n4':σ4.length=σ.length:=n4.trans (wipe_length _ _)
    have hw:L2.wipe σ4 own=L2.wipe σ own:=by
     apply List.ext_getElem?
     intro j
     rw [gu,gu,n4']
     by_cases hj:j∈own
     ·by_cases hj2:j < σ.length
      ·rw [ap ⟨hj,hj2⟩,ap ⟨hj,hj2⟩]
      ·rw [av fun q=>hj2 q.2,av fun q=>hj2 q.2,aQ (by omega),aQ (by omega)]
     ·rw [av fun q=>hj q.1,av fun q=>hj q.1,hσ j hj]
    refine ⟨hw,?_⟩
    unfold tYes
    dsimp only
    rw [ap rfl]
    cases er:eU F (ft G.fs G.gs xb F.kp l1 s') l1 with
    | no =>
     rw [er] at eb
     rw [eb] at ec2
     rw [← ec2] at h
     exact h.elim
    | er a b c =>
     obtain rfl:=oQ er
     rw [er] at eb
     rw [eb] at ec2
     rw [← ec2] at h
     have h:ValE G.gm W g0 σ l (.er a b l) Q:=h
     refine ⟨g3,c,s',S4,?_⟩
     show ValE G.gm _ g3 σ4 c (b7 G.fs G.gs (.call j xb) c s') _
     rw [jb ef er (by intro q; cases q)]
     intro g' H' cc dd e4 S5 xr
     obtain ⟨U1,U2,U3,U4⟩:=S2.unlock (p:=L0) (o:=.lst acc) hF2.2 hB2 hF2.1 (e3.trans e4) S5 how hσ hl
     exact h _ H' cc dd (e1.trans (e2.trans U2)) U1 xr
    | ok q =>
     have ec:=jb (s:=s') (gs:=G.gs) ef er (by intro q; cases q)
     have eb':body xs[i] s'=cf (b7 G.fs G.gs (.call j xb) l1 s') (fun d s3=>R.ok (some d,s3)):=by rw [ec,← er]; exact eb
     cases eo:body xs[i] s' with
     | no =>
      rw [eo] at ec2
      rw [← ec2] at h
      exact h.elim
     | er a b c =>
      rw [eo,ec] at eb'
      obtain ⟨d,tg2,s3⟩:=q
      have eb':R.er a b c=(if (tg2=.bo∨tg2=.ow)∧d.still=false then R.no else R.ok (some d,s3)):=eb'
      split at eb' <;> cases eb'
     | ok p =>
      obtain ⟨o,s3⟩:=p
      rw [eo] at ec2 eb'
      have hV:ValR G.gm (fun c d _ H'=>W c d σ H') g3 σ4 (cf (b7 G.fs G.gs (.call j xb) l1 s') (fun d s3=>R.ok (some d,s3))) (fun p _=>p=(o,s3)):=by
       rw [← eb']
       exact fun _ _=>rfl
      refine fC S4 hV fun d s6 g6 v H6 e8 S6 r6 q=>?_
      obtain ⟨q1,q2⟩:=bX (show (some d,s6)=(o,s3) from q g6 (.refl g6))
      subst q1 q2
      obtain ⟨U1,U2,U3,U4⟩:=S2.unlock (p:=L0) (o:=.lst acc) hF2.2 hB2 hF2.1 (e3.trans e8) S6 how hσ hl
      have el:accD.length=acc.length:=r2.length
      have ec3:qC (accD++[d]) (cY body (xs.drop (i+1)) s6)=R0:=by
       rw [← ec2]
       show _=qC accD ((cY body (xs.drop (i+1)) s6).bind fun (r,s2)=>.ok (k7 (some d) r,s2))
       cases cY body (xs.drop (i+1)) s6 with
       | ok z =>
        obtain ⟨z1,z2⟩:=z
        show R.ok ((accD++[d])++z1,z2)=R.ok (accD++(d :: z1),z2)
        rw [bc]
        rfl
       | er a b c=>rfl
       | no=>rfl
      exact ⟨acc,U3,by omega,⟨g6.F,g2.B,g2.M⟩,acc++[v],accD++[d],_,e2.trans U2,U1.wr U4.1 U4.2 hB2 no,upd_same,U4,(r2.mono U2.f).append #v[r6],by rw [ae,ai]; rfl,ec3⟩
   ·have hi2:i=xs.length:=by omega
    refine .inl ⟨(w g2 i σ H2 l s' e2.w S2).2 hi2,?_⟩
    rw [hi2,List.drop_length] at ec2
    have ec2:R.ok (accD++[],s')=R0:=ec2
    rw [aX] at ec2
    rw [← ec2] at h
    have h:ValE G.gm W g0 σ l (dY (.lst accD) s') Q:=h
    exact h g2 _ H2 (e1.trans e2) S2 ⟨L0,rfl,hF2,hB2,.lst hD2 r2,no⟩

theorem Gd.blkE (B:Gd C S G W) (hh:S.hot=false) (scope:Scope) {W':WX} (s:Shared) (H:Hp) (Cc:Addr) (cl:List (Str × Addr)) (fp:List Addr) (xe:Value→Shared→Prop) (tk:Takes (GM.blkE C s H scope (compEnvC scope cl Cc C.env) fp xe) W') :
  Gd (GM.blkE C s H scope (compEnvC scope cl Cc C.env) fp xe) { S with sc:=relS scope S.sc,top:=false } G W' :=
 ⟨B.N,B.nd,(by show relS scope C.env.scope=_; rw [B.sc]),B.cool,B.un,(fun h=>by cases h),tk,B.Y,B.mg,B.fns,B.blt,B.gns,B.exs,B.hns,B.ms,B.fl,B.mt,B.mks,(fun a nm h=>by rw [B.px0 hh] at h; cases h),(fun _=>B.px0 hh),⟨B.rmh.dp,B.rmh.un⟩,B.xs,B.hx,B.xi,B.isc,B.ea⟩
theorem uQ {j:Nat} {x:Str} {px pc:Pos} {l:List Expr} {S2:Sc} (h0:S2.hot=false) (h:(((decide (S2.cs[j]?=some x)=true∧cP S2.sc x=true)∧dZ x=true)∧decide (l.length ≥ 1)=true)∧gV S2 xb l=true):cm S2 (.call j xb) (.Call (.Name x px) l [] pc)=true:=by
 show (!S2.hot && decide (S2.cs[j]?=some x) && cP S2.sc x && dZ x && gV S2 xb l)=true
 rw [h0]
 simp only [ab,Bool.not_false,true_and]
 exact ⟨h.1.1,h.2⟩
theorem yj (B:Gd C S G W) (hh:S.hot=false) (ht:S.top=true) {own:List Nat} {t:T} {j:Nat} {scope:Scope} {ite:Expr} (hsl:(T.slots t).all (fun i=>own.contains i)=true) (ok:blkC S.N S.sc scope (jW S.N own)=true)
  (hset:∀ x,foldedSetIterable ite C.env x=pure x) (hi:PI C tg ite (mC G.gm W xa))
  (hg:∀ (σ:L2.St) (s:Shared) (H:Hp) (Cc:Addr) (cl:List (Str × Addr)) (fp:List Addr) (xe:Value→Shared→Prop),Takes (GM.blkE C s H scope (compEnvC scope cl Cc C.env) fp xe) (fun c d _ H'=>W c d σ H')→PG (GM.blkE C s H scope (compEnvC scope cl Cc C.env) fp xe) tg (gT G.gm t))
  (he:∀ (σ:L2.St) (s:Shared) (H:Hp) (Cc:Addr) (cl:List (Str × Addr)) (fp:List Addr) (xe:Value→Shared→Prop),Takes (GM.blkE C s H scope (compEnvC scope cl Cc C.env) fp xe) (fun c d _ H'=>W c d σ H')→PE (GM.blkE C s H scope (compEnvC scope cl Cc C.env) fp xe) e (rd G.gm (fun c d _ H'=>W c d σ H') (.call j xb))) :
  PE C (.ListComp e [⟨tg,ite,[],0⟩] scope pos) (rd G.gm W (.comE own t xa j xb)):=by
 refine PE.imp (yh (own:=jW S.N own) (tt:=tYes) (te:=fun σ=>rd G.gm (fun c d _ H'=>W c d σ H') (.call j xb)) B.tk (B.top ht).2.1 (B.top ht).2.2 (B.calm hh) (by rw [B.N]; exact B.nd) hi (blkOk_by (by rw [B.N,B.sc]; exact ok)) hg (fun _ _ _ _ _ _ _ _=>pts_nil) he hset) ?_
 rw [kF]
 exact yi B hsl
end

structure Snd (x:X):Prop where
 E:∀ {C:Cx} {S:Sc} {G:Gn} {W:WX} (B:Gd C S G W) (e:Expr),cm S x e=true→PE C e (rd G.gm W x)∧PT C e (i7 G.gm W x)
 L:∀ {C:Cx} {S:Sc} {G:Gn} {W:WX} (B:Gd C S G W) (es:List Expr),gV S x es=true→PA C es (wN G.gm W x)∧∀ kp,PA C es (rJ G.gm W x kp)
 B:∀ {C:Cx} {S:Sc} {G:Gn} {W:WX} (B:Gd C S G W) (e:Expr) (es:List Expr) (pos:Pos),gV S x (e :: es)=true→PE C (.BoolOp .And (e :: es) pos) (mP G.gm W x)∧PE C (.BoolOp .Or (e :: es) pos) (rM G.gm W x) ∧
  PW C (.BoolOp .And (e :: es) pos) (jB G.gm W x)∧PW C (.BoolOp .Or (e :: es) pos) (lc G.gm W x)
 R:∀ {C:Cx} {S:Sc} {G:Gn} {W:WX} (B:Gd C S G W) (e:Expr),lL S x e=true→PRg C e (oF G.gm W x)
 I:∀ {C:Cx} {S:Sc} {G:Gn} {W:WX} (B:Gd C S G W) (tg e:Expr),mH S x tg e=true→PI C tg e (mC G.gm W x)
 H1:∀ {a b:X},x=.cons a b→∀ {C:Cx} {S:Sc} {G:Gn} {W:WX} (B:Gd C S G W) (e:Expr),cm S a e=true→PE C e (rd G.gm W a)
 H2:∀ {a b c:X},x=.cons a (.cons b c)→∀ {C:Cx} {S:Sc} {G:Gn} {W:WX} (B:Gd C S G W) (e:Expr),cm S b e=true→PE C e (rd G.gm W b)
 D:∀ {C:Cx} {S:Sc} {G:Gn} {W:WX} (B:Gd C S G W) (ks:List (Option Expr)) (vs:List Expr) (pos:Pos),rE S x ks vs=true→PD C pos ks vs (oP G.gm W x)
 D1:∀ {a b:X},x=.cons a b→∀ {C:Cx} {S:Sc} {G:Gn} {W:WX} (B:Gd C S G W) (ks:List (Option Expr)) (vs:List Expr) (pos:Pos),rE S b ks vs=true→PD C pos ks vs (oP G.gm W b)
theorem Snd.ofE {x:X} (h:∀ {C:Cx} {S:Sc} {G:Gn} {W:WX} (B:Gd C S G W) (e:Expr),cm S x e=true→PE C e (rd G.gm W x)∧PT C e (i7 G.gm W x))
  (h1:∀ S es,gV S x es=false) (h2:∀ S e,lL S x e=false) (h3:∀ S tg e,mH S x tg e=false) (h4:∀ a b,x≠.cons a b:=by intro _ _ e; cases e) (h5:∀ S ks vs,rE S x ks vs=false:=by intro S ks vs; cases ks <;> cases vs <;> rfl):Snd x :=
 ⟨h,(fun B es q=>by rw [h1] at q; cases q),(fun B e es pos q=>by rw [h1] at q; cases q),(fun B e q=>by rw [h2] at q; cases q),(fun B tg e q=>by rw [h3] at q; cases q),fun e=>absurd e (h4 _ _),fun e=>absurd e (h4 _ _),(fun B ks vs pos q=>by rw [h5] at q; cases q),fun e=>absurd e (h4 _ _)⟩
theorem Snd.ofI {x:X} (h:∀ S e,cm S x e=false) (h1:∀ S es,gV S x es=false) (h2:∀ {C:Cx} {S:Sc} {G:Gn} {W:WX} (B:Gd C S G W) (e:Expr),lL S x e=true→PRg C e (oF G.gm W x))
  (h3:∀ {C:Cx} {S:Sc} {G:Gn} {W:WX} (B:Gd C S G W) (tg e:Expr),mH S x tg e=true→PI C tg e (mC G.gm W x)) (h4:∀ a b,x≠.cons a b:=by intro _ _ e; cases e) (h5:∀ S ks vs,rE S x ks vs=false:=by intro S ks vs; cases ks <;> cases vs <;> rfl):Snd x :=
 ⟨(fun B e q=>by rw [h] at q; cases q),(fun B es q=>by rw [h1] at q; cases q),(fun B e es pos q=>by rw [h1] at q; cases q),h2,h3,fun e=>absurd e (h4 _ _),fun e=>absurd e (h4 _ _),(fun B ks vs pos q=>by rw [h5] at q; cases q),fun e=>absurd e (h4 _ _)⟩
theorem su {y:X} (ih:Snd y) {C:Cx} {S:Sc} {G:Gn} {W:WX} (B:Gd C S G W) (o:Option Expr) (h:(match o with | none=>y.isNil | some f=>!y.isNil && cm S y f)=true):PO C o (wS G.gm W y):=by
 cases o with
 | none=>exact Am h
 | some f =>
  simp only [ab,aw] at h
  exact pA h.1 (ih.E B _ h.2).1
theorem wp {y:X} (ih:Snd y) {C:Cx} {S:Sc} {G:Gn} (B:Gd C S G WF) (ifs:List Expr) (h:(match ifs with | []=>y.isNil | [f]=>!y.isNil && cm S y f | _=>false)=true):PTs C ifs (xt G.gm y):=by
 unfold xt
 cases ifs with
 | nil =>
  rw [ap h]
  exact pts_nil
 | cons f r =>
  cases r with
  | nil =>
   simp only [ab,aw] at h
   rw [av (by rw [h.1]; decide)]
   exact pts_one (ih.E B _ h.2).2
  | cons _ _=>cases h
theorem jc {e:Expr} {env:Env} {x:Sem Value} (h:ue e=true):PySem.isTrue e env x=(do let v ← x; standAt e.pos; holding [v] (truthy v)):=by
 cases e <;> first | rfl | cases h
theorem pO {S:Sc} {a b:X} {ks:List (Option Expr)} {vs:List Expr} (h:rE S (.cons a b) ks vs=true) :
  ∃ z y r k q ks' f vs',a=.ks z∧b=.cons y r∧ks=some (.Constant (.str z) k q) :: ks'∧vs=f :: vs'∧(cm S y f && rE S r ks' vs')=true:=by
 cases a
 case ks z =>
  cases b
  case cons y r =>
   cases ks
   case cons o ks' =>
    cases o
    case some e =>
     cases e
     case Constant c k q =>
      cases c
      case str w =>
       cases vs
       case cons f vs' =>
        have h:(decide (z=w) && bZ f && cm S y f && rE S r ks' vs')=true:=h
        simp only [ab,af] at h
        obtain ⟨⟨⟨rfl,_⟩,h1⟩,h2⟩:=h
        exact ⟨z,y,r,k,q,ks',f,vs',rfl,rfl,rfl,rfl,by rw [h1,h2]; rfl⟩
       all_goals exact absurd h aa
      all_goals (cases vs <;> exact absurd h aa)
     all_goals (cases vs <;> exact absurd h aa)
    all_goals (cases vs <;> exact absurd h aa)
   all_goals (cases vs <;> exact absurd h aa)
  all_goals (cases ks <;> cases vs <;> exact absurd h aa)
 all_goals (cases ks <;> cases vs <;> exact absurd h aa)
theorem yk {S:Sc}:∀ {x:X} {ks:List (Option Expr)} {vs:List Expr},rE S x ks vs=true→ks.all (·.isSome)=true∧ks.length=vs.length:=by
 intro x ks
 induction ks generalizing x with
 | nil =>
  intro vs h
  cases vs with
  | nil=>exact ⟨rfl,rfl⟩
  | cons f vs =>
   cases x
   case cons a b=>cases a <;> first | exact absurd h aa | (cases b <;> exact absurd h aa)
   all_goals exact absurd h aa
 | cons o ks ih =>
  intro vs h
  cases x
  case cons a b =>
   obtain ⟨z,y,r,k,q,ks',f,vs',rfl,rfl,e1,rfl,hh⟩:=pO h
   cases e1
   simp only [ab] at hh
   obtain ⟨q1,q2⟩:=ih hh.2
   exact ⟨by rw [a5,q1]; rfl,by rw [aB,aB,q2]⟩
  all_goals (cases vs <;> exact absurd h aa)
theorem uR {S:Sc} {x:X} (h:gV S x []=true):x=.nil:=by
 cases x <;> first | rfl | cases h
theorem Snd.call {j:Nat} {es:X} (ih:Snd es):Snd (.call j es):=by
 refine .ofE (fun B e h=>?_) (fun _ es=>by cases es <;> rfl) (fun _ _=>rfl) (fun _ _ _=>rfl)
 obtain ⟨x,p,l,p2,rfl,hh⟩:=xR h
 clear h
 have h:=hh
 simp only [ab,af,aw] at h
 cases l with
 | nil =>
  obtain rfl:=uR h.2
  have q:=uo (pos:=p2) (p:=p) B h.1.1.1.1 h.1.1.1.2 h.1.1.2 h.1.2
  exact ⟨q,cr (he:=fun _=>rfl) q⟩
 | cons e r =>
  have ns:=iQ h.2
  rw [a5,ab] at ns
  have q:=wT (pos:=p2) (p:=p) B h.1.1.1.1 h.1.1.1.2 h.1.1.2 h.1.2 ns.1 ns.2 (ih.L B _ h.2).2
  exact ⟨q,cr (he:=fun _=>rfl) q⟩
theorem cO:∀ x:X,Snd x:=by
 intro x
 induction x with
 | nil =>
  refine ⟨fun B e h=>(by cases h),fun B es h=>?_,fun B e es pos h=>(by cases h),fun B e h=>(by cases h),fun B tg e h=>(by cases h),fun e=>(by cases e),fun e=>(by cases e),fun B ks vs pos h=>?_,fun e=>(by cases e)⟩
  ·obtain rfl:=yf h
   exact ⟨wP,fun kp=>wQ⟩
  ·cases ks with
   | nil =>
    cases vs with
    | nil=>exact xO
    | cons _ _=>cases h
   | cons _ _=>cases vs <;> cases h
 | cons a b iha ihb =>
  refine ⟨fun B e h=>(by cases h),fun B es h=>?_,fun B e es pos h=>?_,fun B e h=>(by cases h),fun B tg e h=>(by cases h),fun e=>?_,fun e=>?_,fun B ks vs pos h=>?_,fun e=>?_⟩
  ·obtain ⟨e,r,rfl,hh⟩:=ja h
   clear h
   have h:=hh
   simp only [ab] at h
   obtain ⟨⟨h1,h2⟩,h3⟩:=h
   exact ⟨ul h1 (iha.E B _ h2).1 (ihb.L B _ h3).1,fun kp=>um h1 (iha.E B _ h2).1 ((ihb.L B _ h3).2 _)⟩
  ·have h:(bZ e && cm _ a e && gV _ b es)=true:=h
   simp only [ab] at h
   obtain ⟨⟨h1,h2⟩,h3⟩:=h
   obtain ⟨p1,p2⟩:=iha.E B _ h2
   cases es with
   | nil =>
    cases b with
    | nil=>exact ⟨wO p1,Aj p1,wX p2,As p2⟩
    | _=>cases h3
   | cons e2 r =>
    obtain ⟨q1,q2,q3,q4⟩:=ihb.B B _ _ pos h3
    exact ⟨Ai p1 q1,Di p1 q2,Ar p2 q3,Dl p2 q4⟩
  ·cases e
   exact fun B e h=>(iha.E B e h).1
  ·cases e
   exact fun B e h=>ihb.H1 rfl B e h
  ·obtain ⟨z,y,r,k,q,ks,f,vs,rfl,rfl,rfl,rfl,hh⟩:=pO h
   simp only [ab] at hh
   exact uN (ihb.H1 rfl B f hh.1) (ihb.D1 rfl B ks vs pos hh.2)
  ·cases e
   exact fun B ks vs pos h=>ihb.D B ks vs pos h
 | v i =>
  refine .ofE (fun B e h=>?_) (fun _ es=>by cases es <;> rfl) (fun _ _=>rfl) (fun _ _ _=>rfl)
  obtain ⟨x,p,rfl,hh⟩:=FZ h
  clear h
  have h:=hh
  simp only [ab,af] at h
  have q:=FW (pos:=p) B h.1.1 h.1.2 h.2
  exact ⟨q,cr (he:=fun _=>rfl) q⟩
 | kn =>
  refine .ofE (fun B e h=>?_) (fun _ es=>by cases es <;> rfl) (fun _ _=>rfl) (fun _ _ _=>rfl)
  obtain ⟨k,p,rfl⟩:=Dt h
  exact ⟨gi (d:=.non) pe_non (fun _ _=>rfl) (fun _=>.non),cr (he:=fun _=>rfl) (gi (d:=.non) pe_non (fun _ _=>rfl) (fun _=>.non))⟩
 | kb c =>
  refine .ofE (fun B e h=>?_) (fun _ es=>by cases es <;> rfl) (fun _ _=>rfl) (fun _ _ _=>rfl)
  obtain ⟨k,p,rfl⟩:=Du h
  exact ⟨gi (d:=.bl c) pe_bl (fun _ _=>rfl) (fun _=>.bl c),cr (he:=fun _=>rfl) (gi (d:=.bl c) pe_bl (fun _ _=>rfl) (fun _=>.bl c))⟩
 | ki c =>
  refine .ofE (fun B e h=>?_) (fun _ es=>by cases es <;> rfl) (fun _ _=>rfl) (fun _ _ _=>rfl)
  obtain ⟨k,p,rfl⟩:=Dv h
  exact ⟨gi (d:=.int c) pe_int (fun _ _=>rfl) (fun _=>.int c),cr (he:=fun _=>rfl) (gi (d:=.int c) pe_int (fun _ _=>rfl) (fun _=>.int c))⟩
 | ks c =>
  refine .ofE (fun B e h=>?_) (fun _ es=>by cases es <;> rfl) (fun _ _=>rfl) (fun _ _ _=>rfl)
  obtain ⟨k,p,rfl⟩:=Dx h
  exact ⟨gi (d:=.str c) pe_str (fun _ _=>rfl) (fun _=>.str c),cr (he:=fun _=>rfl) (gi (d:=.str c) pe_str (fun _ _=>rfl) (fun _=>.str c))⟩
 | g i =>
  refine .ofE (fun B e h=>?_) (fun _ es=>by cases es <;> rfl) (fun _ _=>rfl) (fun _ _ _=>rfl)
  obtain ⟨x,p,rfl,hh⟩:=F1 h
  clear h
  have h:=hh
  simp only [ab,af] at h
  have q:=FX (pos:=p) B h.1.1 h.1.2 h.2
  exact ⟨q,cr (he:=fun _=>rfl) q⟩
 | tup es ih =>
  refine .ofE (fun B e h=>?_) (fun _ es=>by cases es <;> rfl) (fun _ _=>rfl) (fun _ _ _=>rfl)
  obtain ⟨l,k,p,rfl,hh⟩:=AQ h
  clear h
  have h:=hh
  have q:=Ak (pos:=p) (k:=k) (ih.L B _ h).1
  exact ⟨q,cr (he:=fun _=>rfl) q⟩
 | lst es ih =>
  refine .ofE (fun B e h=>?_) (fun _ es=>by cases es <;> rfl) (fun _ _=>rfl) (fun _ _ _=>rfl)
  obtain ⟨l,p,rfl,hh⟩:=AS h
  clear h
  have h:=hh
  have q:=Al (pos:=p) (ih.L B _ h).1
  exact ⟨q,cr (he:=fun _=>rfl) q⟩
 | dic k ks vs ihk ihv =>
  refine .ofE (fun B e h=>?_) (fun _ es=>by cases es <;> rfl) (fun _ _=>rfl) (fun _ _ _=>rfl)
  rcases wo h with ⟨rfl,rfl,p,rfl⟩ | ⟨ya,yb,a,b,p,rfl,rfl,rfl,hh⟩
  ·have q:=wR (pos:=p) B k
   exact ⟨q,cr (he:=fun _=>rfl) q⟩
  ·simp only [ab] at hh
   cases k with
   | false =>
    have q:=uC (pos:=p) B (ihk.H1 rfl B _ hh.1) (ihv.H1 rfl B _ hh.2)
    exact ⟨q,cr (he:=fun _=>rfl) q⟩
   | true =>
    have q:=uD (pos:=p) B (ihk.H1 rfl B _ hh.1) (ihv.H1 rfl B _ hh.2)
    exact ⟨q,cr (he:=fun _=>rfl) q⟩
 | dis ps ih =>
  refine .ofE (fun B e h=>?_) (fun _ es=>by cases es <;> rfl) (fun _ _=>rfl) (fun _ _ _=>rfl)
  obtain ⟨ks,vs,p,rfl,hh⟩:=AT h
  clear h
  have h:=hh
  simp only [ab,af] at h
  obtain ⟨a1,a2⟩:=yk h.2
  have q:=AO a1 a2 (by intro z; rw [z] at h; exact absurd h.1.1 (by decide)) h.1.2 (ih.D B ks vs p h.2)
  exact ⟨q,cr (he:=fun _=>rfl) q⟩
 | kd a iha =>
  refine .ofE (fun B e h=>?_) (fun _ es=>by cases es <;> rfl) (fun _ _=>rfl) (fun _ _ _=>rfl)
  have h:(ue e && cm _ a e)=true:=h
  rw [ab] at h
  have q:=Ds (iha.E B _ h.2).1
  exact ⟨q,cr (he:=fun _=>jc h.1) q⟩
 | xis j a iha =>
  refine .ofE (fun B e h=>?_) (fun _ es=>by cases es <;> rfl) (fun _ _=>rfl) (fun _ _ _=>rfl)
  obtain ⟨x,p,a',y,p1,p2,rfl,hh⟩:=AU h
  clear h
  have h:=hh
  simp only [ab,af,aK] at h
  obtain ⟨⟨⟨⟨⟨⟨rfl,h1⟩,h2⟩,h3⟩,h4⟩,h5⟩,h6⟩:=h
  have q:=AM (pos:=p2) (p:=p) (p2:=p1) B h1 h2 h3 h4 h5 (iha.E B _ h6).1
  exact ⟨q,cr (he:=fun _=>rfl) q⟩
 | isc c a iha =>
  refine .ofE (fun B e h=>?_) (fun _ es=>by cases es <;> rfl) (fun _ _=>rfl) (fun _ _ _=>rfl)
  obtain ⟨x,p,a',y,p1,p2,rfl,hh⟩:=AV h
  clear h
  have h:=hh
  simp only [ab,af,aK] at h
  obtain ⟨⟨⟨⟨⟨⟨⟨rfl,h1⟩,rfl⟩,h2⟩,h3⟩,h4⟩,h5⟩,h6⟩:=h
  have q:=AN (pos:=p2) (p:=p) (p2:=p1) B h1 h2 h3 h4 h5 (iha.E B _ h6).1
  exact ⟨q,cr (he:=fun _=>rfl) q⟩
 | calX j a iha =>
  refine .ofE (fun B e h=>?_) (fun _ es=>by cases es <;> rfl) (fun _ _=>rfl) (fun _ _ _=>rfl)
  obtain ⟨x,p,a',p2,rfl,hh⟩:=xQ h
  clear h
  have h:=hh
  simp only [ab,af,aK] at h
  obtain ⟨⟨⟨⟨⟨h1,h2⟩,h3⟩,h4⟩,h5⟩,h6⟩:=h
  have q:=xL (pos:=p2) (p:=p) B h1 h2 h3 h4 h5 (iha.E B _ h6).1
  exact ⟨q,cr (he:=fun _=>rfl) q⟩
 | bin o a b iha ihb =>
  refine .ofE (fun B e h=>?_) (fun _ es=>by cases es <;> rfl) (fun _ _=>rfl) (fun _ _ _=>rfl)
  obtain ⟨a',q,b',p,rfl,hh⟩:=AW h
  clear h
  have h:=hh
  simp only [ab] at h
  obtain rfl:=wH h.1.1
  have q:=Ad (pos:=p) B o (iha.E B _ h.1.2).1 (ihb.E B _ h.2).1
  exact ⟨q,cr (he:=fun _=>rfl) q⟩
 | neg a iha =>
  refine .ofE (fun B e h=>?_) (fun _ es=>by cases es <;> rfl) (fun _ _=>rfl) (fun _ _ _=>rfl)
  obtain ⟨a',p,rfl,hh⟩:=AX h
  clear h
  have h:=hh
  have q:=Af (pos:=p) (iha.E B _ h).1
  exact ⟨q,cr (he:=fun _=>rfl) q⟩
 | not a iha =>
  refine .ofE (fun B e h=>?_) (fun _ es=>by cases es <;> rfl) (fun _ _=>rfl) (fun _ _ _=>rfl)
  obtain ⟨a',p,rfl,hh⟩:=AY h
  clear h
  have h:=hh
  exact ⟨Ag (iha.E B _ h).1,Aq (iha.E B _ h).2⟩
 | cmp o a b iha ihb =>
  refine .ofE (fun B e h=>?_) (fun _ es=>by cases es <;> rfl) (fun _ _=>rfl) (fun _ _ _=>rfl)
  obtain ⟨l,q,r,p,rfl,hh⟩:=AZ h
  clear h
  have h:=hh
  simp only [ab] at h
  obtain rfl:=lJ h.1.1.1
  exact ⟨Ae B o h.1.1.2 (iha.E B _ h.1.2).1 (ihb.E B _ h.2).1,Ao B o h.1.1.2 (iha.E B _ h.1.2).1 (ihb.E B _ h.2).1⟩
 | chn o o2 a b c iha ihb ihc =>
  refine .ofE (fun B e h=>?_) (fun _ es=>by cases es <;> rfl) (fun _ _=>rfl) (fun _ _ _=>rfl)
  obtain ⟨l,q,q2,r,r2,p,rfl,hh⟩:=A0 h
  clear h
  have h:=hh
  simp only [ab,aw] at h
  obtain ⟨⟨⟨⟨⟨⟨⟨h1,h2⟩,h3⟩,h4⟩,h5⟩,h6⟩,h7⟩,h8⟩:=h
  obtain rfl:=lJ h1
  obtain rfl:=lJ h2
  exact ⟨Ah B o o2 h3 (iha.E B _ h6).1 (ihb.E B _ h7).1 (ihc.E B _ h8).1,Ap B o o2 h3 (iha.E B _ h6).1 (ihb.E B _ h7).1 (ihc.E B _ h8).1⟩
 | and es ih =>
  refine .ofE (fun B e h=>?_) (fun _ es=>by cases es <;> rfl) (fun _ _=>rfl) (fun _ _ _=>rfl)
  obtain ⟨l,p,rfl,hh⟩:=A1 h
  clear h
  have h:=hh
  simp only [ab] at h
  cases l with
  | nil=>cases h.1
  | cons e r =>
   obtain ⟨q1,q2,q3,q4⟩:=ih.B B _ _ p h.2
   exact ⟨q1,uq q3⟩
 | or es ih =>
  refine .ofE (fun B e h=>?_) (fun _ es=>by cases es <;> rfl) (fun _ _=>rfl) (fun _ _ _=>rfl)
  obtain ⟨l,p,rfl,hh⟩:=Dy h
  clear h
  have h:=hh
  simp only [ab] at h
  cases l with
  | nil=>cases h.1
  | cons e r =>
   obtain ⟨q1,q2,q3,q4⟩:=ih.B B _ _ p h.2
   exact ⟨q2,wY q4⟩
 | ite c a b ihc iha ihb =>
  refine .ofE (fun B e h=>?_) (fun _ es=>by cases es <;> rfl) (fun _ _=>rfl) (fun _ _ _=>rfl)
  obtain ⟨c',a',b',p,rfl,hh⟩:=A2 h
  clear h
  have h:=hh
  simp only [ab] at h
  exact ⟨At (ihc.E B _ h.1.1).2 (iha.E B _ h.1.2).1 (ihb.E B _ h.2).1,AP (ihc.E B _ h.1.1).2 (iha.E B _ h.1.2).2 (ihb.E B _ h.2).2⟩
 | ix a i iha ihi =>
  refine .ofE (fun B e h=>?_) (fun _ es=>by cases es <;> rfl) (fun _ _=>rfl) (fun _ _ _=>rfl)
  obtain ⟨a',f,p,rfl,hh⟩:=DA h
  clear h
  have h:=hh
  simp only [ab] at h
  have q:=Dh (pos:=p) B h.1.1 (iha.E B _ h.1.2).1 (ihi.E B _ h.2).1
  exact ⟨q,cr (he:=fun _=>rfl) q⟩
 | sl a lo hi iha ihl ihh =>
  refine .ofE (fun B e h=>?_) (fun _ es=>by cases es <;> rfl) (fun _ _=>rfl) (fun _ _ _=>rfl)
  obtain ⟨a',p,r,p2,p3,rfl,hh⟩:=Dz h
  clear h
  have h:=hh
  simp only [ab] at h
  have q:=Dj (pos:=p3) (p2:=p2) B (iha.E B _ h.1.1).1 (su ihl B p h.1.2) (su ihh B r h.2)
  exact ⟨q,cr (he:=fun _=>rfl) q⟩
 | new a iha =>
  refine .ofE (fun B e h=>?_) (fun _ es=>by cases es <;> rfl) (fun _ _=>rfl) (fun _ _ _=>rfl)
  have h:(ue e && cm _ a e)=true:=h
  rw [ab] at h
  have q:=Az (iha.E B _ h.2).1
  exact ⟨q,cr (he:=fun _=>jc h.1) q⟩
 | frz a iha =>
  refine .ofE (fun B e h=>?_) (fun _ es=>by cases es <;> rfl) (fun _ _=>rfl) (fun _ _ _=>rfl)
  have h:(ue e && cm _ a e)=true:=h
  rw [ab] at h
  have q:=AA (iha.E B _ h.2).1
  exact ⟨q,cr (he:=fun _=>jc h.1) q⟩
 | frzs a iha =>
  refine .ofE (fun B e h=>?_) (fun _ es=>by cases es <;> rfl) (fun _ _=>rfl) (fun _ _ _=>rfl)
  have h:(ue e && cm _ a e)=true:=h
  rw [ab] at h
  have q:=xw (iha.E B _ h.2).1
  exact ⟨q,cr (he:=fun _=>jc h.1) q⟩
 | rdl f a iha =>
  refine .ofE (fun B e h=>?_) (fun _ es=>by cases es <;> rfl) (fun _ _=>rfl) (fun _ _ _=>rfl)
  obtain ⟨x,p,a',p2,rfl,hh⟩:=A5 h
  clear h
  have h:=hh
  simp only [ab,af,aw] at h
  obtain ⟨⟨⟨⟨h0,rfl⟩,h1⟩,h2⟩,h3⟩:=h
  have q:=AB (pos:=p2) (p:=p) B h0 f h1 h2 (iha.E B _ h3).1
  exact ⟨q,cr (he:=fun _=>rfl) q⟩
 | inl b k a ihk iha =>
  refine .ofE (fun B e h=>?_) (fun _ es=>by cases es <;> rfl) (fun _ _=>rfl) (fun _ _ _=>rfl)
  obtain ⟨l,q,r,p,rfl,hh⟩:=A6 h
  clear h
  have h:=hh
  simp only [ab] at h
  obtain rfl:=lJ h.1.1.1
  exact ⟨AC B _ b rfl h.1.1.2 (ihk.E B _ h.1.2).1 (iha.E B _ h.2).1,AD B _ b rfl h.1.1.2 (ihk.E B _ h.1.2).1 (iha.E B _ h.2).1⟩
 | ixl a k iha ihk =>
  refine .ofE (fun B e h=>?_) (fun _ es=>by cases es <;> rfl) (fun _ _=>rfl) (fun _ _ _=>rfl)
  obtain ⟨a',f,p,rfl,hh⟩:=A7 h
  clear h
  have h:=hh
  simp only [ab] at h
  have q:=AE (pos:=p) B h.1.1 (iha.E B _ h.1.2).1 (ihk.E B _ h.2).1
  exact ⟨q,cr (he:=fun _=>rfl) q⟩
 | fld c f a iha =>
  refine .ofE (fun B e h=>?_) (fun _ es=>by cases es <;> rfl) (fun _ _=>rfl) (fun _ _ _=>rfl)
  obtain ⟨a',nm,p,rfl,hh⟩:=A8 h
  clear h
  have h:=hh
  simp only [ab,af,aK] at h
  obtain ⟨⟨⟨rfl,h1⟩,h2⟩,h3⟩:=h
  have q:=AF (pos:=p) B h1 h2 (iha.E B _ h3).1
  exact ⟨q,cr (he:=fun _=>rfl) q⟩
 | popl a iha =>
  refine .ofE (fun B e h=>?_) (fun _ es=>by cases es <;> rfl) (fun _ _=>rfl) (fun _ _ _=>rfl)
  obtain ⟨a',nm,apos,cpos,rfl,hh⟩:=xY h
  clear h
  have h:=hh
  simp only [ab,af] at h
  obtain ⟨⟨⟨rfl,h1⟩,h2⟩,h3⟩:=h
  have q:=xy (apos:=apos) (cpos:=cpos) h1 h2 (iha.E B _ h3).1
  exact ⟨q,cr (he:=fun _=>rfl) q⟩
 | popk a k iha ihk =>
  refine .ofE (fun B e h=>?_) (fun _ es=>by cases es <;> rfl) (fun _ _=>rfl) (fun _ _ _=>rfl)
  obtain ⟨a',nm,apos,f,cpos,rfl,hh⟩:=xZ h
  clear h
  have h:=hh
  simp only [ab,af] at h
  obtain ⟨⟨⟨⟨⟨rfl,h1⟩,h2⟩,h3⟩,h4⟩,h5⟩:=h
  have q:=xz (apos:=apos) (cpos:=cpos) h1 h2 h3 (iha.E B _ h4).1 (ihk.E B _ h5).1
  exact ⟨q,cr (he:=fun _=>rfl) q⟩
 | rm m a b iha ihb =>
  refine .ofE (fun B e h=>?_) (fun _ es=>by cases es <;> rfl) (fun _ _=>rfl) (fun _ _ _=>rfl)
  obtain ⟨a',nm,apos,f,cpos,rfl,hh⟩:=DC h
  clear h
  have h:=hh
  simp only [ab,af] at h
  obtain ⟨⟨⟨⟨⟨⟨h0,rfl⟩,h1⟩,h2⟩,h3⟩,h4⟩,h5⟩:=h
  cases m with
  | join =>
   have q:=xG (apos:=apos) (cpos:=cpos) B h1 h2 h3 (iha.E B _ h4).1 (ihb.E B _ h5).1
   exact ⟨q,cr (he:=fun _=>rfl) q⟩
  | split =>
   have q:=uF (apos:=apos) (cpos:=cpos) B h1 h2 h3 (iha.E B _ h4).1 (ihb.E B _ h5).1
   exact ⟨q,cr (he:=fun _=>rfl) q⟩
  | _=>cases h0
 | mth c m j o es iho ihe =>
  refine .ofE (fun B e h=>?_) (fun _ es=>by cases es <;> rfl) (fun _ _=>rfl) (fun _ _ _=>rfl)
  obtain ⟨a',nm,apos,l,cpos,rfl,hh⟩:=A9 h
  clear h
  have h:=hh
  simp only [ab,af,aK,aw] at h
  obtain ⟨⟨⟨⟨⟨⟨⟨h0,rfl⟩,h1⟩,h2⟩,h3⟩,h4⟩,h5⟩,h6⟩:=h
  cases l with
  | nil =>
   cases es with
   | nil =>
    have q:=xC (apos:=apos) (pos:=cpos) B h0 h1 h2 h4 (iho.E B _ h5).1
    exact ⟨q,cr (he:=fun _=>rfl) q⟩
   | _=>cases h6
  | cons e r =>
   have ns:=iQ h6
   have q:=AH (apos:=apos) (pos:=cpos) B h0 h1 h2 h4 ns h3 (iho.E B _ h5).1 (ihe.L B _ h6).2
   exact ⟨q,cr (he:=fun _=>rfl) q⟩
 | mk c j es ih =>
  refine .ofE (fun B e h=>?_) (fun _ es=>by cases es <;> rfl) (fun _ _=>rfl) (fun _ _ _=>rfl)
  obtain ⟨x,p,l,p2,rfl,hh⟩:=DD h
  clear h
  have h:=hh
  simp only [ab,af,aK,aw] at h
  obtain ⟨⟨⟨⟨⟨⟨h0,rfl⟩,h1⟩,h2⟩,h3⟩,h4⟩,h5⟩:=h
  cases l with
  | nil=>exact absurd h4 (by simp)
  | cons e r =>
   have ns:=iQ h5
   rw [a5,ab] at ns
   have q:=Do (pos:=p2) (p:=p) B h0 h1 h2 h3 ns.1 ns.2 (ih.L B _ h5).2
   exact ⟨q,cr (he:=fun _=>rfl) q⟩
 | calD j es ih =>
  refine .ofE (fun B e h=>?_) (fun _ es=>by cases es <;> rfl) (fun _ _=>rfl) (fun _ _ _=>rfl)
  obtain ⟨x,p,l,p2,rfl,hh⟩:=xW h
  clear h
  have h:=hh
  simp only [ab,af,aw] at h
  cases l with
  | nil=>exact absurd h.1.2 (by simp)
  | cons e r =>
   have ns:=iQ h.2
   rw [a5,ab] at ns
   have q:=xx (pos:=p2) (p:=p) B h.1.1.1.1.1 h.1.1.1.1.2 h.1.1.1.2 h.1.1.2 ns.1 ns.2 (ih.L B _ h.2).2
   exact ⟨q,cr (he:=fun _=>rfl) q⟩
 | calS j es ih =>
  refine .ofE (fun B e h=>?_) (fun _ es=>by cases es <;> rfl) (fun _ _=>rfl) (fun _ _ _=>rfl)
  obtain ⟨x,p,l,p2,rfl,hh⟩:=xX h
  clear h
  have h:=hh
  simp only [ab,af,aw] at h
  cases l with
  | nil=>exact absurd h.1.2 (by simp)
  | cons e r =>
   have ns:=iQ h.2
   rw [a5,ab] at ns
   have q:=wU (pos:=p2) (p:=p) B h.1.1.1.1.1 h.1.1.1.1.2 h.1.1.1.2 h.1.1.2 ns.1 ns.2 (ih.L B _ h.2).2
   exact ⟨q,cr (he:=fun _=>rfl) q⟩
 | call j es ih=>exact Snd.call ih
 | bi f es ih =>
  refine .ofE (fun B e h=>?_) (fun _ es=>by cases es <;> rfl) (fun _ _=>rfl) (fun _ _ _=>rfl)
  obtain ⟨x,p,l,p2,rfl,hh⟩:=DB h
  clear h
  have h:=hh
  simp only [ab,af,aw] at h
  obtain ⟨⟨⟨⟨h0,rfl⟩,h1⟩,h2⟩,h3⟩:=h
  cases l with
  | nil=>exact absurd h2 (by simp)
  | cons e r =>
   have ns:=iQ h3
   rw [a5,ab] at ns
   have q:=Dk (pos:=p2) (p:=p) B h0 f h1 ns.1 ns.2 ((ih.L B _ h3).2 [])
   exact ⟨q,cr (he:=fun _=>rfl) q⟩
 | isi a t iha =>
  refine .ofE (fun B e h=>?_) (fun _ es=>by cases es <;> rfl) (fun _ _=>rfl) (fun _ _ _=>rfl)
  obtain ⟨x,p,a',y,p1,p2,rfl,hh⟩:=Ba h
  clear h
  have h:=hh
  simp only [ab,af] at h
  obtain ⟨⟨⟨⟨⟨rfl,h1⟩,rfl⟩,h2⟩,h3⟩,h4⟩:=h
  have q:=An (pos:=p2) (p:=p) (p2:=p1) B t h1 h2 h3 (iha.E B _ h4).1
  exact ⟨q,cr (he:=fun _=>rfl) q⟩
 | mt m o es iho ihe =>
  refine .ofE (fun B e h=>?_) (fun _ es=>by cases es <;> rfl) (fun _ _=>rfl) (fun _ _ _=>rfl)
  obtain ⟨a,nm,apos,l,cpos,rfl,hh⟩:=DE h
  clear h
  have h:=hh
  simp only [ab,af] at h
  obtain ⟨⟨⟨⟨⟨⟨rfl,h0,h1⟩,h2⟩,h3⟩,h4⟩,h5⟩,h6⟩:=h
  have hb:∀ m env,attributeBase a m env (eval a env)=eval a env:=fun m env=>ib h4 env
  cases m with
  | get1 =>
   obtain ⟨e1,rfl⟩:=List.length_eq_one_iff.mp h1
   cases es with
   | cons y r =>
    obtain ⟨e1',r',er,hh2⟩:=ja h6
    obtain ⟨rfl,rfl⟩:=bG er
    simp only [ab] at hh2
    cases r with
    | nil =>
     have q:=xE (apos:=apos) (cpos:=cpos) B (iho.E B _ h5).1 (ihe.H1 rfl B _ hh2.1.2) (wm (hb _) hh2.1.1 h3)
     exact ⟨q,cr (he:=fun _=>rfl) q⟩
    | _=>cases hh2.2
   | _=>cases h6
  | get2 =>
   obtain ⟨e1,e2,rfl⟩:∃ e1 e2,l=[e1,e2]:=by
    match l,h1 with
    | [e1,e2],_=>exact ⟨e1,e2,rfl⟩
   cases es with
   | cons y r =>
    obtain ⟨e1',r',er,hh2⟩:=ja h6
    obtain ⟨rfl,rfl⟩:=bG er
    simp only [ab] at hh2
    cases r with
    | cons y2 r2 =>
     obtain ⟨e2',r2',er2,hh3⟩:=ja hh2.2
     obtain ⟨rfl,rfl⟩:=bG er2
     simp only [ab] at hh3
     cases r2 with
     | nil =>
      have q:=xF (apos:=apos) (cpos:=cpos) B (iho.E B _ h5).1 (ihe.H1 rfl B _ hh2.1.2) (ihe.H2 rfl B _ hh3.1.2) (wn (hb _) hh2.1.1 hh3.1.1 h3)
      exact ⟨q,cr (he:=fun _=>rfl) q⟩
     | _=>cases hh3.2
    | _=>cases hh2.2
   | _=>cases h6
  | index =>
   obtain ⟨e1,rfl⟩:=List.length_eq_one_iff.mp h1
   cases es with
   | cons y r =>
    obtain ⟨e1',r',er,hh2⟩:=ja h6
    obtain ⟨rfl,rfl⟩:=bG er
    simp only [ab] at hh2
    cases r with
    | nil =>
     have q:=uE (apos:=apos) (cpos:=cpos) B (iho.E B _ h5).1 (ihe.H1 rfl B _ hh2.1.2) (wm (hb _) hh2.1.1 h3)
     exact ⟨q,cr (he:=fun _=>rfl) q⟩
    | _=>cases hh2.2
   | _=>cases h6
  | join=>cases h0
  | split=>cases h0
 | comE own t it j es ihi ihe =>
  refine .ofE (fun B e h=>?_) (fun _ es=>by cases es <;> rfl) (fun _ _=>rfl) (fun _ _ _=>rfl)
  obtain ⟨x,px,l,pc,tg,ite,scope,p,rfl,hh⟩:=yd h
  clear h
  have h:=hh
  simp only [ab,aw] at h
  obtain ⟨⟨⟨⟨⟨⟨⟨h0,ht⟩,h1⟩,h2⟩,h3⟩,h4⟩,h5⟩,h6⟩:=h
  have q:=yj (e:=.Call (.Name x px) l [] pc) (pos:=p) B h0 ht h2 h1 (nf h3) (ihi.I B _ _ h4) (fun σ s H Cc cl fp xe tk=>xq (B.blkE h0 scope s H Cc cl fp xe tk) h5)
   (fun σ s H Cc cl fp xe tk=>((Snd.call ihe).E (B.blkE h0 scope s H Cc cl fp xe tk) (.Call (.Name x px) l [] pc) (uQ (px:=px) (pc:=pc) h0 h6)).1)
  exact ⟨q,cr (he:=fun _=>rfl) q⟩
 | comp own t it c e ihi ihc ihe =>
  refine .ofE (fun B e h=>?_) (fun _ es=>by cases es <;> rfl) (fun _ _=>rfl) (fun _ _ _=>rfl)
  obtain ⟨el,tg,ite,ifs,scope,p,rfl,hh⟩:=sn h
  clear h
  have h:=hh
  simp only [ab,aw] at h
  obtain ⟨⟨⟨⟨⟨⟨⟨h0,h1⟩,h2⟩,h3⟩,h4⟩,h5⟩,h6⟩,h7⟩:=h
  have ht:∀ (s:Shared) (H:Hp) (Cc:Addr) (cl:List (Str × Addr)) (fp:List Addr),PTs (Cx.blk _ s H scope (compEnvC scope cl Cc _) fp) ifs (xt _ c):=fun s H Cc cl fp=>wp ihc (B.blk h0 scope s H Cc cl fp) ifs h7
  have q:=xu (pos:=p) B h0 h2 h1 (nf h3) (ihi.I B _ _ h4) (fun s H Cc cl fp=>xq (B.blk h0 scope s H Cc cl fp) h5)
   ht (fun s H Cc cl fp=>(ihe.E (B.blk h0 scope s H Cc cl fp) _ h6).1)
  exact ⟨q,cr (he:=fun _=>rfl) q⟩
 | tupI it ih =>
  refine .ofE (fun B e h=>?_) (fun _ es=>by cases es <;> rfl) (fun _ _=>rfl) (fun _ _ _=>rfl)
  obtain ⟨x,p,a,p2,rfl,hh⟩:=xS h
  clear h
  have h:=hh
  simp only [ab,af,aw] at h
  obtain ⟨⟨⟨⟨h0,rfl⟩,h1⟩,h2⟩,h3⟩:=h
  have q:=xo (pos:=p2) (p:=p) B h0 h1 h2 (ih.R B _ h3)
  exact ⟨q,cr (he:=fun _=>rfl) q⟩
 | lstI it ih =>
  refine .ofE (fun B e h=>?_) (fun _ es=>by cases es <;> rfl) (fun _ _=>rfl) (fun _ _ _=>rfl)
  obtain ⟨x,p,a,p2,rfl,hh⟩:=xT h
  clear h
  have h:=hh
  simp only [ab,af,aw] at h
  obtain ⟨⟨⟨⟨h0,rfl⟩,h1⟩,h2⟩,h3⟩:=h
  have q:=xp (pos:=p2) (p:=p) B h0 h1 h2 (ih.R B _ h3)
  exact ⟨q,cr (he:=fun _=>rfl) q⟩
 | sset a ih =>
  refine .ofE (fun B e h=>?_) (fun _ es=>by cases es <;> rfl) (fun _ _=>rfl) (fun _ _ _=>rfl)
  obtain ⟨x,p,y,p2,a',p3,p4,rfl,hh⟩:=xU h
  clear h
  have h:=hh
  simp only [ab,aw,af] at h
  obtain ⟨⟨⟨⟨⟨⟨h0,rfl⟩,rfl⟩,h1⟩,h2⟩,h3⟩,h4⟩:=h
  have q:=xI (pos:=p4) (p:=p) (p2:=p2) (pos2:=p3) B h0 h1 h2 h3 (ih.E B _ h4).1
  exact ⟨q,cr (he:=fun _=>rfl) q⟩
 | lset a ih =>
  refine .ofE (fun B e h=>?_) (fun _ es=>by cases es <;> rfl) (fun _ _=>rfl) (fun _ _ _=>rfl)
  obtain ⟨x,p,y,p2,a',p3,p4,rfl,hh⟩:=xV h
  clear h
  have h:=hh
  simp only [ab,aw,af] at h
  obtain ⟨⟨⟨⟨⟨⟨h0,rfl⟩,rfl⟩,h1⟩,h2⟩,h3⟩,h4⟩:=h
  have q:=xJ (pos:=p4) (p:=p) (p2:=p2) (pos2:=p3) B h0 h1 h2 h3 (ih.E B _ h4).1
  exact ⟨q,cr (he:=fun _=>rfl) q⟩
 | trev a ih =>
  refine .ofE (fun B e h=>?_) (fun _ es=>by cases es <;> rfl) (fun _ _=>rfl) (fun _ _ _=>rfl)
  obtain ⟨x,p,y,p2,a',p3,p4,rfl,hh⟩:=yc h
  clear h
  have h:=hh
  simp only [ab,aw,af] at h
  obtain ⟨⟨⟨⟨⟨⟨h0,rfl⟩,rfl⟩,h1⟩,h2⟩,h3⟩,h4⟩:=h
  have q:=xH (pos:=p4) (p:=p) (p2:=p2) (pos2:=p3) B h0 h1 h2 h3 (ih.E B _ h4).1
  exact ⟨q,cr (he:=fun _=>rfl) q⟩
 | rsl a ih =>
  refine .ofE (fun B e h=>?_) (fun _ es=>by cases es <;> rfl) (fun _ _=>rfl) (fun _ _ _=>rfl)
  obtain ⟨a',n,k,p1,p2,p3,p4,rfl,hh⟩:=A3 h
  clear h
  have h:=hh
  simp only [ab,af] at h
  obtain ⟨rfl,h4⟩:=h
  have q:=AK (pos:=p4) (k:=k) (p1:=p1) (p2:=p2) (p3:=p3) B (ih.E B _ h4).1
  exact ⟨q,cr (he:=fun _=>rfl) q⟩
 | ssl a k iha ihk =>
  refine .ofE (fun B e h=>?_) (fun _ es=>by cases es <;> rfl) (fun _ _=>rfl) (fun _ _ _=>rfl)
  obtain ⟨a',f,p3,p4,rfl,hh⟩:=A4 h
  clear h
  have h:=hh
  simp only [ab,aw] at h
  have q:=AL (pos:=p4) (p3:=p3) B (iha.E B _ h.1.2).1 (pA h.1.1 (ihk.E B _ h.2).1)
  exact ⟨q,cr (he:=fun _=>rfl) q⟩
 | keys a ih =>
  refine .ofI (fun _ _=>rfl) (fun _ es=>by cases es <;> rfl) (fun B e h=>by cases h) (fun B tg e h=>?_)
  have h:(gU e && cm _ a e)=true:=h
  simp only [ab] at h
  exact xN B (ih.E B _ h.2).1
 | items a ih =>
  refine .ofI (fun _ _=>rfl) (fun _ es=>by cases es <;> rfl) (fun B e h=>by cases h) (fun B tg e h=>?_)
  obtain ⟨el,k,p1,a',nm,apos,cpos,rfl,rfl,hh⟩:=uO h
  simp only [ab,af] at hh
  obtain ⟨⟨⟨rfl,h1⟩,h2⟩,h3⟩:=hh
  exact uL B h2 h1 (ih.E B _ h3).1
 | it a ih =>
  refine .ofI (fun _ _=>rfl) (fun _ es=>by cases es <;> rfl) (fun B e h=>by cases h) (fun B tg e h=>?_)
  have h:=DK h
  simp only [ab] at h
  exact Dm (nf h.1) B (ih.E B _ h.2).1
 | rng1 a ih =>
  refine .ofI (fun _ _=>rfl) (fun _ es=>by cases es <;> rfl) (fun B e h=>?_) (fun B tg e h=>?_)
  ·obtain ⟨x,p,a',p2,rfl,hh⟩:=DF h
   clear h
   have h:=hh
   simp only [ab,af] at h
   obtain ⟨⟨⟨rfl,h1⟩,h2⟩,h3⟩:=h
   exact Av B h1 h2 (ih.E B _ h3).1
  ·obtain ⟨x,p,a',p2,rfl,hh⟩:=DH h
   clear h
   have h:=hh
   simp only [ab,af] at h
   obtain ⟨⟨⟨rfl,h1⟩,h2⟩,h3⟩:=h
   exact xh B h1 h2 (ih.E B _ h3).1
 | rng2 a b ih ihb =>
  refine .ofI (fun _ _=>rfl) (fun _ es=>by cases es <;> rfl) (fun B e h=>?_) (fun B tg e h=>?_)
  ·obtain ⟨x,p,a',b',p2,rfl,hh⟩:=DG h
   clear h
   have h:=hh
   simp only [ab,af] at h
   obtain ⟨⟨⟨⟨⟨rfl,h1⟩,h2⟩,h3⟩,h4⟩,h5⟩:=h
   exact Aw B h1 h2 h3 (ih.E B _ h4).1 (ihb.E B _ h5).1
  ·obtain ⟨x,p,a',b',p2,rfl,hh⟩:=DI h
   clear h
   have h:=hh
   simp only [ab,af] at h
   obtain ⟨⟨⟨⟨⟨rfl,h1⟩,h2⟩,h3⟩,h4⟩,h5⟩:=h
   exact xj B h1 h2 h3 (ih.E B _ h4).1 (ihb.E B _ h5).1
 | rng3 a b c ih ihb ihc =>
  refine .ofI (fun _ _=>rfl) (fun _ es=>by cases es <;> rfl) (fun B e h=>by cases h) (fun B tg e h=>?_)
  obtain ⟨x,p,a',b',k',p2,rfl,hh⟩:=DJ h
  clear h
  have h:=hh
  simp only [ab,af] at h
  obtain ⟨⟨⟨⟨⟨⟨⟨rfl,h1⟩,h2⟩,h3⟩,h4⟩,h5⟩,h6⟩,h7⟩:=h
  exact xn B h1 h2 h3 h4 (ih.E B _ h5).1 (ihb.E B _ h6).1 (ihc.E B _ h7).1
 | enumK a n ih =>
  refine .ofI (fun _ _=>rfl) (fun _ es=>by cases es <;> rfl) (fun B e h=>by cases h) (fun B tg e h=>?_)
  obtain ⟨el,k,p1,x,p,a',kw,i,k2,p3,p4,p2,rfl,rfl,hh⟩:=uP h
  clear h
  have h:=hh
  simp only [ab,af] at h
  obtain ⟨⟨⟨⟨⟨⟨rfl,rfl⟩,rfl⟩,h0⟩,h1⟩,h2⟩,h3⟩:=h
  exact uu h0 B h1 h2 (ih.E B _ h3).1
 | rev a=>exact .ofI (fun _ _=>rfl) (fun _ es=>by cases es <;> rfl) (fun B e h=>by cases h) (fun B tg e h=>by cases h)
 | enum a n ih =>
  refine .ofI (fun _ _=>rfl) (fun _ es=>by cases es <;> rfl) (fun B e h=>by cases h) (fun B tg e h=>?_)
  obtain ⟨rfl,el,k,p1,x,p,a',p2,rfl,rfl,hh⟩:=yg h
  clear h
  have h:=hh
  simp only [ab,af] at h
  obtain ⟨⟨⟨rfl,h1⟩,h2⟩,h3⟩:=h
  exact xk B h1 h2 (ih.E B _ h3).1
 | zip a b ih ihb =>
  refine .ofI (fun _ _=>rfl) (fun _ es=>by cases es <;> rfl) (fun B e h=>by cases h) (fun B tg e h=>?_)
  obtain ⟨el,k,p1,x,p,a',b',p2,rfl,rfl,hh⟩:=Bb h
  clear h
  have h:=hh
  simp only [ab,af] at h
  obtain ⟨⟨⟨⟨⟨rfl,h1⟩,h2⟩,h3⟩,h4⟩,h5⟩:=h
  exact Au B h1 h2 h3 (ih.E B _ h4).1 (ihb.E B _ h5).1
mutual
def D.nx:D→Bool
 | .tup xs=>D.nxs xs
 | .lst xs=>D.nxs xs
 | .arr xs=>D.nxs xs
 | .dic _ ps=>D.nxp ps
 | .fdc ps=>D.nxp ps
 | .exc _=>false
 | _=>true
def D.nxs:List D→Bool
 | []=>true
 | x :: xs=>D.nx x && D.nxs xs
def D.nxp:List (D × D)→Bool
 | []=>true
 | p :: r=>D.nxq p && D.nxp r
def D.nxq:D × D→Bool
 | (a,b)=>D.nx a && D.nx b
end

theorem ym {k:D} {q:Key} (h:D.keyOf k=some q):k.nx=true:=by cases k <;> simp [D.keyOf] at h <;> rfl

structure YLe (Y Y':Wd):Prop where
 P:Y'.P=Y.P
 w:Y'.w=Y.w
 K:Y'.K=Y.K
 pn:∀ a c,Y.pn a=some c→Y'.pn a=some c

structure YEq (Y Y':Wd):Prop where
 P:Y'.P=Y.P
 w:Y'.w=Y.w
 K:Y'.K=Y.K
section
variable {Y Y':Wd} {F:Fr} {B H:Hp}
theorem DtO.to (eP:Y'.P=Y.P) (ew:Y'.w=Y.w) {a:Addr} {ob:Obj} {xs:List (NestedKey × Addr × Value)} (h:DtO Y a ob xs):DtO Y' a ob xs:=⟨h.ex,h.nm,by rw [eP,ew]; exact h.es,h.nd,h.sz⟩
theorem TbK.to {Y Y':Wd} (eK:Y'.K=Y.K) (ew:Y'.w=Y.w) {a:Addr} {kvs:List (Str × Str)} (h:TbK Y a kvs):TbK Y' a kvs:=⟨by rw [eK,ew]; exact h.d,by rw [eK]; exact h.at_⟩
theorem SqL.to {K K':PySem.W.Frag} (e:K'=K) {a:Addr} {vs:List V} (h:SqL K H a vs):SqL K' H a vs:=by rw [e]; exact h
mutual
theorem Rp.up (e:YLe Y Y'):∀ {d:D} {v:V},Rp Y F d v→Rp Y' F d v
 | _,_,.non=>.non
 | _,_,.bl b=>.bl b
 | _,_,.int i=>.int i
 | _,_,.str x=>.str x
 | _,_,.tup h r=>.tup h (Rps.up e r)
 | _,_,.lst h r=>.lst h (Rps.up e r)
 | _,_,.arr h r=>.arr (SqL.to e.K h) (Rps.up e r)
 | _,_,.dk h r=>.dk h (Rpk.up e r)
 | _,_,.dt h o r=>.dt h (o.to e.P e.w) (Rpt.up e r)
 | _,_,.loc h=>.loc h
 | _,_,.exc h=>.exc (e.pn _ _ h)
 | _,_,.fd h r=>.fd h (Rpk.up e r)
 | _,_,.tb h=>.tb (h.to e.K e.w)
theorem Rps.up (e:YLe Y Y'):∀ {ds:List D} {vs:List V},Rps Y F ds vs→Rps Y' F ds vs
 | _,_,.nil=>.nil
 | _,_,.cons h r=>.cons (Rp.up e h) (Rps.up e r)
theorem Rpk.up (e:YLe Y Y'):∀ {ps:List (D × D)} {kvs:List (Key × V)},Rpk Y F ps kvs→Rpk Y' F ps kvs
 | _,_,.nil=>.nil
 | _,_,.cons h r t=>.cons h (Rp.up e r) (Rpk.up e t)
theorem Rpt.up (e:YLe Y Y'):∀ {ps:List (D × D)} {xs:List (NestedKey × Addr × Value)},Rpt Y F ps xs→Rpt Y' F ps xs
 | _,_,.nil=>.nil
 | _,_,.cons h z k r u t=>.cons h z (Rp.up e k) (Rp.up e r) u (Rpt.up e t)
end

mutual
theorem Rp.dn (e:YEq Y Y'):∀ {d:D} {v:V},d.nx=true→Rp Y F d v→Rp Y' F d v
 | _,_,_,.non=>.non
 | _,_,_,.bl b=>.bl b
 | _,_,_,.int i=>.int i
 | _,_,_,.str x=>.str x
 | _,_,n,.tup h r=>.tup h (Rps.dn e n r)
 | _,_,n,.lst h r=>.lst h (Rps.dn e n r)
 | _,_,n,.arr h r=>.arr (SqL.to e.K h) (Rps.dn e n r)
 | _,_,n,.dk h r=>.dk h (Rpk.dn e n r)
 | _,_,n,.dt h o r=>.dt h (o.to e.P e.w) (Rpt.dn e n r)
 | _,_,_,.loc h=>.loc h
 | _,_,n,.exc h=>Bool.noConfusion (show false=true from n)
 | _,_,n,.fd h r=>.fd h (Rpk.dn e n r)
 | _,_,n,.tb h=>.tb (h.to e.K e.w)
theorem Rps.dn (e:YEq Y Y'):∀ {ds:List D} {vs:List V},D.nxs ds=true→Rps Y F ds vs→Rps Y' F ds vs
 | _,_,_,.nil=>.nil
 | d :: ds,_,n,.cons h r =>
  have n':(D.nx d && D.nxs ds)=true:=n
  .cons (Rp.dn e (aE.mp n').1 h) (Rps.dn e (aE.mp n').2 r)
theorem Rpk.dn (e:YEq Y Y'):∀ {ps:List (D × D)} {kvs:List (Key × V)},D.nxp ps=true→Rpk Y F ps kvs→Rpk Y' F ps kvs
 | _,_,_,.nil=>.nil
 | (k,d) :: ps,_,n,.cons h r t =>
  have n':((D.nx k && D.nx d) && D.nxp ps)=true:=n
  .cons h (Rp.dn e (aE.mp (aE.mp n').1).2 r) (Rpk.dn e (aE.mp n').2 t)
theorem Rpt.dn (e:YEq Y Y'):∀ {ps:List (D × D)} {xs:List (NestedKey × Addr × Value)},D.nxp ps=true→Rpt Y F ps xs→Rpt Y' F ps xs
 | _,_,_,.nil=>.nil
 | (kk,d) :: ps,_,n,.cons h z k r u t =>
  have n':((D.nx kk && D.nx d) && D.nxp ps)=true:=n
  .cons h z (Rp.dn e (aE.mp (aE.mp n').1).1 k) (Rp.dn e (aE.mp (aE.mp n').1).2 r) u (Rpt.dn e (aE.mp n').2 t)
end

mutual
theorem Rp.nx (h0:Y.pn=jw):∀ {d:D} {v:V},Rp Y F d v→d.nx=true
 | _,_,.non=>rfl
 | _,_,.bl b=>rfl
 | _,_,.int i=>rfl
 | _,_,.str x=>rfl
 | _,_,.tup h r=>Rps.nx h0 r
 | _,_,.lst h r=>Rps.nx h0 r
 | _,_,.arr h r=>Rps.nx h0 r
 | _,_,.dk h r=>Rpk.nx h0 r
 | _,_,.dt h o r=>Rpt.nx h0 r
 | _,_,.loc h=>rfl
 | _,_,.exc h=>by rw [h0] at h; cases h
 | _,_,.fd h r=>Rpk.nx h0 r
 | _,_,.tb h=>rfl
theorem Rps.nx (h0:Y.pn=jw):∀ {ds:List D} {vs:List V},Rps Y F ds vs→D.nxs ds=true
 | _,_,.nil=>rfl
 | d :: ds,_,.cons h r=>by
  show (D.nx d && D.nxs ds)=true
  rw [Rp.nx h0 h,Rps.nx h0 r]; rfl
theorem Rpk.nx (h0:Y.pn=jw):∀ {ps:List (D × D)} {kvs:List (Key × V)},Rpk Y F ps kvs→D.nxp ps=true
 | _,_,.nil=>rfl
 | (k,d) :: ps,_,.cons h r t=>by
  show ((D.nx k && D.nx d) && D.nxp ps)=true
  rw [ym h,Rp.nx h0 r,Rpk.nx h0 t]; rfl
theorem Rpt.nx (h0:Y.pn=jw):∀ {ps:List (D × D)} {xs:List (NestedKey × Addr × Value)},Rpt Y F ps xs→D.nxp ps=true
 | _,_,.nil=>rfl
 | (kk,d) :: ps,_,.cons h z k r u t=>by
  show ((D.nx kk && D.nx d) && D.nxp ps)=true
  rw [Rp.nx h0 k,Rp.nx h0 r,Rpt.nx h0 t]; rfl
end

theorem TpW.up (e:YLe Y Y') {d:D} {v:V}:TpW Y F H d v→TpW Y' F H d v
 | .lst h r=>.lst h (r.up e)
 | .dk h r=>.dk h (r.up e)
 | .dt h o r=>.dt h (o.to e.P e.w) (r.up e)
theorem TpW.dn (e:YEq Y Y') {d:D} {v:V} (n:d.nx=true):TpW Y F H d v→TpW Y' F H d v
 | .lst h r=>.lst h (r.dn e n)
 | .dk h r=>.dk h (r.dn e n)
 | .dt h o r=>.dt h (o.to e.P e.w) (r.dn e n)
theorem TpW.nx (h0:Y.pn=jw) {d:D} {v:V}:TpW Y F H d v→d.nx=true
 | .lst h r=>r.nx h0
 | .dk h r=>r.nx h0
 | .dt h o r=>r.nx h0

def Cell.nx:Cell→Prop
 | .obj d=>d.nx=true
 | .ins _ fs=>∀ f d,fs.lookup f=some d→d.nx=true
 | .fz=>True
theorem FldR.map {fs:List (Str × D)} {fv:List (Str × V)} (h:FldR Y F fs fv) (k:∀ f d v,fs.lookup f=some d→Rp Y F d v→Rp Y' F d v):FldR Y' F fs fv:=fun f=>by
 have q:=h f
 cases el:fs.lookup f with
 | none=>rw [el] at q; exact q
 | some d =>
  rw [el] at q
  obtain ⟨v,e1,r⟩:=q
  exact ⟨v,e1,k f d v el r⟩
theorem CellR.up (e:YLe Y Y') {n:Nat} {c:Cell}:CellR Y F B H n c→CellR Y' F B H n c
 | .obj k t=>.obj k (t.up e)
 | .ins k h z f=>.ins k (by rw [e.K]; exact h) z (f.map fun _ _ _ _ r=>r.up e)
 | .fz=>.fz
theorem CellR.dn (e:YEq Y Y') {n:Nat} {c:Cell} (hc:c.nx):CellR Y F B H n c→CellR Y' F B H n c
 | .obj k t=>.obj k (t.dn e hc)
 | .ins k h z f=>.ins k (by rw [e.K]; exact h) z (f.map fun f d _ hf r=>r.dn e (hc f d hf))
 | .fz=>.fz
theorem CellR.nx (h0:Y.pn=jw) {n:Nat} {c:Cell}:CellR Y F B H n c→c.nx
 | .obj k t=>t.nx h0
 | .ins (fs:=fs) (fv:=fv) k h z f=>fun g d hd=>by
  have q:=f g
  rw [hd] at q
  obtain ⟨_,_,r⟩:=q
  exact Rp.nx h0 r
 | .fz=>trivial
variable {g:Gh} {σ:L2.St} {l:Lc} {s:cj}
theorem SlR.up (e:YLe Y Y') {z:Sl} {v:V} (h:SlR Y g H z v):SlR Y' g H z v:=by
 obtain ⟨k,d⟩:=z
 cases k with
 | fr=>exact Rp.up e h
 | bo=>exact h.imp (fun q=>q.up e) fun q=>q.up e
 | ow=>exact ⟨h.1.up e,h.2⟩
 | nw=>exact h
theorem SlR.dn (e:YEq Y Y') {z:Sl} {v:V} (n:z.d.nx=true) (h:SlR Y g H z v):SlR Y' g H z v:=by
 obtain ⟨k,d⟩:=z
 cases k with
 | fr=>exact Rp.dn e n h
 | bo=>exact h.imp (fun q=>q.dn e n) fun q=>q.dn e n
 | ow=>exact ⟨h.1.dn e n,h.2⟩
 | nw=>exact h
theorem SlR.nx (h0:Y.pn=jw) {z:Sl} {v:V} (h:SlR Y g H z v):z.d.nx=true:=by
 obtain ⟨k,d⟩:=z
 cases k with
 | fr=>exact Rp.nx h0 h
 | bo=>exact h.elim (fun q=>Rp.nx h0 q) fun q=>q.nx h0
 | ow=>exact h.1.nx h0
 | nw=>exact h.elim
theorem SR.up (e:YLe Y Y') (S:SR Y g σ H l s):SR Y' g σ H l s :=
 ⟨S.sB,S.sF,S.len,fun i z hz=>let ⟨v,h1,h2⟩:=S.sl i z hz; ⟨v,h1,h2.up e⟩,S.ow,⟨fun n c h=>(S.st.at_ n c h).up e,S.st.lv,S.st.lt,S.st.no,S.st.mb⟩⟩
theorem SR.dn (e:YEq Y Y') (S:SR Y g σ H l s) (hl:∀ (i:Nat) (z:Sl),l[i]?=some (some z)→z.d.nx=true) (hs:∀ (n:Nat) (c:Cell),s[n]?=some c→c.nx):SR Y' g σ H l s :=
 ⟨S.sB,S.sF,S.len,fun i z hz=>let ⟨v,h1,h2⟩:=S.sl i z hz; ⟨v,h1,h2.dn e (hl i z hz)⟩,S.ow,⟨fun n c h=>(S.st.at_ n c h).dn e (hs n c h),S.st.lv,S.st.lt,S.st.no,S.st.mb⟩⟩
theorem SR.nxL (h0:Y.pn=jw) (S:SR Y g σ H l s) {i:Nat} {z:Sl} (h:l[i]?=some (some z)):z.d.nx=true:=let ⟨_,_,h2⟩:=S.sl i z h; h2.nx h0
theorem SR.nxS (h0:Y.pn=jw) (S:SR Y g σ H l s) {n:Nat} {c:Cell} (h:s[n]?=some c):c.nx:=(S.st.at_ n c h).nx h0

theorem SR.gone (S:SR Y g σ H l s) (i:Nat):SR Y g (σ.set i none) H (l.set i none) s:=by
 have key:∀ {j:Nat} {z:Sl},(l.set i none)[j]?=some (some z)→j≠i∧l[j]?=some (some z):=fun {j z} h=>by
  by_cases e:i=j
  ·subst e
   by_cases hl:i < l.length
   ·rw [aL hl] at h; cases h
   ·rw [aQ (by simpa using hl)] at h; cases h
  ·rw [ay e] at h
   exact ⟨fun q=>e q.symm,h⟩
 refine ⟨S.sB,S.sF,by rw [aN,aN]; exact S.len,fun j z hz=>?_,fun j k z y a h1 h2 k1 k2 e1 e2=>?_,S.st⟩
 ·obtain ⟨hj,hz⟩:=key hz
  obtain ⟨v,h1,h2⟩:=S.sl j z hz
  exact ⟨v,by rw [ay (Ne.symm hj)]; exact h1,h2⟩
 ·obtain ⟨n1,h1⟩:=key h1
  obtain ⟨n2,h2⟩:=key h2
  rw [ay (Ne.symm n1)] at e1
  rw [ay (Ne.symm n2)] at e2
  exact S.ow j k z y a h1 h2 k1 k2 e1 e2
end


inductive S where
 | nil | cons (a b:S)
 | pass | brk | cont
 | ex (x:X) | set (t:T) (x:X) | own (i:Nat) (x:X) | aug (i:Nat) (x:X)
 | fz (is:List Nat) (a:S)
 | ife (c:X) (a b:S) | loop (t:T) (it:X) (b:S) | whl (c:X) (b:S)
 | ret (x:X) | retN | rse (c:Str)
 | app (i:Nat) (x:X) | ext (i:Nat) (x:X) | appPop (i j:Nat) (x:X) | popT (t:T) (i:Nat) (x:X) | popX (i:Nat) (x:X) | rvs (i:Nat)
 | sub (i:Nat) (k v:X) | setS (i j:Nat) (k x:X)
 | fset (c f:Str) (o x:X) | csub (o k v:X) | capp (o x:X) | crev (o:X) | lend (i:Nat) (x:X) | sdap (i:Nat) (k x:X) | upd (i:Nat) (x:X) | ins (i:Nat) (k x:X) | swS (i:Nat) (k h x:X) | rseF (c f:Str) (x:X) | trF (b:S) (c:Str) (i:Nat) (f:Str) (j:Nat)
 | tr (b hs:S) | hd (c:Str) (a r:S)
 | trA (b:S) (c:Str) (i:Nat) (a:S) | rseA (c:Str) (x:X)
inductive Out where
 | nx (l:Lc) (s:cj) | bk (l:Lc) (s:cj) | ct (l:Lc) (s:cj) | rt (d:D) (t:Tag) (s:cj)

def fzL (l:Lc):List Nat→Lc
 | []=>l
 | i :: is=>let l:=fzL l is
  match l[i]? with
  | some (some ⟨.ow,d⟩)=>l.set i (some ⟨.fr,d⟩)
  | _=>l

def dN (k:Lc→cj→R Out):Out→R Out
 | .nx l s=>k l s
 | .ct l s=>k l s
 | .bk l s=>.ok (.nx l s)
 | .rt d t s=>.ok (.rt d t s)
def iK (body:D→Lc→cj→R Out):List D→Lc→cj→R Out
 | [],l,s=>.ok (.nx l s)
 | x :: xs,l,s=>(body x l s).bind (dN (iK body xs))

def jX (c:Lc→cj→R (Bool × cj)) (body:Lc→cj→R Out):Nat→Lc→cj→R Out
 | 0,_,_=>.no
 | n+1,l,s=>(c l s).bind fun (b,s1)=>if b=true then (body l s1).bind (dN (jX c body n)) else .ok (.nx l s1)

open Classical in
noncomputable def jY (c:Lc→cj→R (Bool × cj)) (body:Lc→cj→R Out) (l:Lc) (s:cj):R Out :=
 if h:∃ n,jX c body n l s≠.no then jX c body h.choose l s else .no
noncomputable def dE (fs:List Fn) (gs:List D) (c:X) (l:Lc) (s:cj):R (Bool × cj):=(b7 fs gs c l s).bind fun (x,_,s1)=>match x with | .bl b=>.ok (b,s1) | _=>.no

def f7 (ds:List D) (i:Option Int):Option (D × List D):=match i with
 | none=>match ds[ds.length - 1]? with
  | some d=>some (d,ds.dropLast)
  | none=>none
 | some i=>if -(2 ^ 63)≤i∧i < 2 ^ 63 then match seqIndex? i ds.length with
  | some k=>match ds[k]? with
   | some d=>some (d,ds.eraseIdx k)
   | none=>none
  | none=>none
  else none

noncomputable def dv (fs:List Fn) (gs:List D) (x:X) (l:Lc) (s:cj):R (Option Int × cj) :=
 if x.isNil=true then .ok (none,s) else (b7 fs gs x l s).bind fun (p,_,s1)=>match p with | .int i=>.ok (some i,s1) | _=>.no
def qD (t:Tag) (d:D):Option Tag:=match t with
 | .fr=>some .fr
 | .nw=>some .nw
 | .ow=>some .nw
 | .bo=>if d.still=true then some .fr else none
noncomputable def jZ (c k v:D):Option D:=match c with
 | .lst ds=>match k with
  | .int i=>match ixN ds.length i with
   | some j=>some (.lst (ds.set j v))
   | none=>none
  | _=>none
 | .dic kk kvs=>if D.isKey kk k=true∧kvs.length < sizeLine then some (.dic kk (D.put kvs k v)) else none
 | _=>none

def lU (f:Str) (d:D):List (Str × D)→List (Str × D)
 | []=>[(f,d)]
 | (g,x) :: r=>if g=f then (g,d) :: r else (g,x) :: lU f d r

def jd (s:cj) (n:Nat):Bool:=match s[n]? with
 | some (.obj _)=>true
 | some (.ins _ _)=>true
 | _=>false

def D.lhd:List D→Bool
 | []=>true
 | .int _ :: _=>true
 | .str _ :: _=>true
 | .bl _ :: _=>true
 | .non :: _=>true
 | _=>false
mutual
def D.nl (s:cj):D→Bool
 | .non=>true
 | .bl _=>true
 | .int _=>true
 | .str _=>true
 | .tup xs=>D.nls s xs
 | .lst xs=>D.lhd xs && D.nls s xs
 | .arr xs=>D.lhd xs && D.nls s xs
 | .dic _ ps=>D.nlp s ps
 | .loc n=>jd s n
 | .exc _=>true
 | .fdc ps=>D.nlp s ps
 | .cd _=>true
def D.nls (s:cj):List D→Bool
 | []=>true
 | d :: ds=>D.nl s d && D.nls s ds
def D.nlp (s:cj):List (D × D)→Bool
 | []=>true
 | p :: ps=>D.nlq s p && D.nlp s ps
def D.nlq (s:cj):D × D→Bool
 | (a,b)=>D.nl s a && D.nl s b
end

def D.nlT (s:cj):D→Bool
 | .lst xs=>D.nls s xs
 | .dic _ ps=>D.nlp s ps
 | _=>false

def Cell.fgt (s:cj):Cell→Cell
 | .obj d=>if D.nlT s d=true then .obj d else .fz
 | .ins c fs=>if (fs.all fun p=>D.nl s p.2)=true then .ins c fs else .fz
 | .fz=>.fz

def wq (i:Nat) (l:Lc) (ds:List D):Bool:=(match ds with
 | .tup _ :: _=>true
 | _=>false) && (l.set i none).all fun z=>match z with
  | some ⟨.ow,_⟩=>false
  | _=>true

def sv (i:Nat) (l1 l2:Lc):Prop:=∀ (j:Nat) (z:Sl),j≠i→l2[j]?=some (some z)→l1[j]?=some (some z)∨z.d.nx=true

open Classical in
noncomputable def kJ (i:Nat) (l1:Lc) (s1:cj):R Out→R Out
 | .ok (.nx l2 s2)=>if s2=s1∧sv i l1 l2 then .ok (.nx (l2.set i none) s2) else .no
 | _=>.no

def Bc (ms:Str→Str→Option Bool) (r:R Out) (c:Str) (i:Nat) (f:Str) (j:Nat):R Out:=match r with
 | .er e s1 l1=>match ms e.cls c with
  | some true=>match e.at_ with
   | some (.tup [.str h,.int k])=>if e.cls=c∧h=f∧i < l1.length then .ok (.nx ((l1.set j (some ⟨.fr,.int k⟩)).set i none) s1) else .no
   | _=>.no
  | some false=>.er e s1 l1
  | none=>.no
 | r=>r

noncomputable def pQ (ps qs:List (D × D)):List (D × D):=qs.foldl (fun acc p=>D.put acc p.1 p.2) ps

noncomputable def uS (fs:List Fn) (gs:List D) (i:Nat) (k:X) (y:D) (l:Lc) (s:cj):R Out:=match l[i]? with
 | some (some ⟨.ow,c⟩)=>cf (b7 fs gs k l s) fun x s2=>match jZ c x y with
  | some c'=>.ok (.nx (l.set i (some ⟨.ow,c'⟩)) s2)
  | none=>.no
 | _=>.no

noncomputable def yn (fs:List Fn) (gs:List D) (n:Nat) (x:X) (l:Lc) (s:cj):R Out:=match s[n]? with
 | some (.obj (.lst _))=>cf (b7 fs gs x l s) fun d s2=>match s2[n]? with
  | some (.obj (.lst ds))=>if ds.length < sizeLine then .ok (.nx l (s2.set n (.obj (.lst (ds++[d]))))) else .no
  | _=>.no
 | _=>.no
mutual
noncomputable def cy (fs:List Fn) (gs:List D) (ms:Str→Str→Option Bool):S→Lc→cj→R Out
 | .nil,l,s=>.ok (.nx l s)
 | .cons a b,l,s=>(cy fs gs ms a l s).bind fun o=>match o with
  | .nx l1 s1=>cy fs gs ms b l1 s1
  | o=>.ok o
 | .pass,l,s=>.ok (.nx l s)
 | .brk,l,s=>.ok (.bk l s)
 | .cont,l,s=>.ok (.ct l s)
 | .ex x,l,s=>(b7 fs gs x l s).bind fun (_,_,s1)=>.ok (.nx l s1)
 | .set t x,l,s=>cf (b7 fs gs x l s) fun d s1=>match T.put t d l with | some l1=>.ok (.nx l1 s1) | none=>.no
 | .own i x,l,s=>(b7 fs gs x l s).bind fun (d,t,s1)=>if t=.nw then .ok (.nx (l.set i (some ⟨.ow,d⟩)) s1) else if (t=.bo∨t=.ow)∧d.still=false then .no else .ok (.nx (l.set i (some ⟨.fr,d⟩)) s1)
 | .aug i x,l,s=>match l[i]? with
  | some (some ⟨_,.int a⟩)=>(b7 fs gs x l s).bind fun (d,_,s1)=>match d with | .int b=>.ok (.nx (l.set i (some ⟨.fr,.int (a+b)⟩)) s1) | _=>.no
  | some (some ⟨.ow,.lst ds⟩)=>(b7 fs gs x l s).bind fun (d,_,s1)=>match d with | .lst es=>if ds.length+es.length≤sizeLine then .ok (.nx (l.set i (some ⟨.ow,.lst (ds++es)⟩)) s1) else .no | _=>.no
  | _=>.no
 | .fz is a,l,s=>cy fs gs ms a (fzL l is) s
 | .ife c a b,l,s=>(dE fs gs c l s).bind fun (x,s1)=>if x=true then cy fs gs ms a l s1 else cy fs gs ms b l s1
 | .loop t it b,l,s=>(gq fs gs it l s).bind fun (ds,s1)=>iK (fun d l s=>match T.put t d l with | some l1=>cy fs gs ms b l1 s | none=>.no) ds l s1
 | .whl c b,l,s=>jY (dE fs gs c) (cy fs gs ms b) l s
 | .ret x,l,s=>(b7 fs gs x l s).bind fun (d,t,s1)=>match qD t d with | some t'=>.ok (.rt d t' s1) | none=>.no
 | .retN,_,s=>.ok (.rt .non .fr s)
 | .rse c,l,s=>.er ⟨c,none⟩ s l
 | .app i x,l,s=>match l[i]? with
  | some (some ⟨.ow,.lst ds⟩)=>cf (b7 fs gs x l s) fun d s1=>if ds.length < sizeLine then .ok (.nx (l.set i (some ⟨.ow,.lst (ds++[d])⟩)) s1) else .no
  | _=>.no
 | .ext i x,l,s=>match l[i]? with
  | some (some ⟨.ow,.lst ds⟩)=>(b7 fs gs x l s).bind fun (d,_,s1)=>match d with
   | .lst es=>if ds.length+es.length≤sizeLine then .ok (.nx (l.set i (some ⟨.ow,.lst (ds++es)⟩)) s1) else .no
   | .tup es=>if ds.length+es.length≤sizeLine then .ok (.nx (l.set i (some ⟨.ow,.lst (ds++es)⟩)) s1) else .no
   | _=>.no
  | _=>.no
 | .appPop i j x,l,s=>match l[i]?,l[j]? with
  | some (some ⟨.ow,.lst ds⟩),some (some ⟨.ow,.lst es⟩)=>if i=j then .no else (dv fs gs x l s).bind fun (p,s1)=>match f7 es p with
   | some (d,es')=>if ds.length < sizeLine then .ok (.nx ((l.set j (some ⟨.ow,.lst es'⟩)).set i (some ⟨.ow,.lst (ds++[d])⟩)) s1) else .no
   | none=>.no
  | _,_=>.no
 | .popT t j x,l,s=>match l[j]? with
  | some (some ⟨.ow,.lst es⟩)=>(dv fs gs x l s).bind fun (p,s1)=>match f7 es p with
   | some (d,es')=>match T.put t d (l.set j (some ⟨.ow,.lst es'⟩)) with | some l1=>.ok (.nx l1 s1) | none=>.no
   | none=>.no
  | _=>.no
 | .popX j x,l,s=>match l[j]? with
  | some (some ⟨.ow,.lst es⟩)=>(dv fs gs x l s).bind fun (p,s1)=>match f7 es p with
   | some (_,es')=>.ok (.nx (l.set j (some ⟨.ow,.lst es'⟩)) s1)
   | none=>.no
  | _=>.no
 | .rvs j,l,s=>match l[j]? with
  | some (some ⟨.ow,.lst es⟩)=>.ok (.nx (l.set j (some ⟨.ow,.lst es.reverse⟩)) s)
  | _=>.no
 | .sub i k v,l,s=>cf (b7 fs gs v l s) fun y s1=>match l[i]? with
  | some (some ⟨.ow,c⟩)=>cf (b7 fs gs k l s1) fun x s2=>match jZ c x y with
   | some c'=>.ok (.nx (l.set i (some ⟨.ow,c'⟩)) s2)
   | none=>.no
  | _=>.no
 | .setS i j k x,l,s=>cf (b7 fs gs x l s) fun d s1=>match d with
  | .tup [a,y]=>match (l.set i (some ⟨.fr,a⟩))[j]? with
   | some (some ⟨.ow,c⟩)=>cf (b7 fs gs k (l.set i (some ⟨.fr,a⟩)) s1) fun x s2=>match jZ c x y with
    | some c'=>.ok (.nx ((l.set i (some ⟨.fr,a⟩)).set j (some ⟨.ow,c'⟩)) s2)
    | none=>.no
   | _=>.no
  | _=>.no
 | .fset c f o x,l,s=>cf (b7 fs gs x l s) fun d s1=>(b7 fs gs o l s1).bind fun (z,_,s2)=>match z with
  | .loc n=>match oh s2 c (.loc n) with
   | some fv=>if fv.length < 900 then .ok (.nx l (s2.set n (.ins c (lU f d fv)))) else .no
   | none=>.no
  | _=>.no
 | .csub o k v,l,s=>cf (b7 fs gs v l s) fun y s1=>(b7 fs gs o l s1).bind fun (z,_,s2)=>match z with
  | .loc n=>cf (b7 fs gs k l s2) fun x s3=>match s3[n]? with
   | some (.obj c)=>match jZ c x y with
    | some c'=>.ok (.nx l (s3.set n (.obj c')))
    | none=>.no
   | _=>.no
  | _=>.no
 | .capp o x,l,s=>(b7 fs gs o l s).bind fun (z,_,s1)=>match z with
  | .loc n=>match s1[n]? with
   | some (.obj (.lst _))=>cf (b7 fs gs x l s1) fun d s2=>match s2[n]? with
    | some (.obj (.lst ds))=>if ds.length < sizeLine then .ok (.nx l (s2.set n (.obj (.lst (ds++[d]))))) else .no
    | _=>.no
   | _=>.no
  | _=>.no
 | .lend i x,l,s=>match l[i]? with
  | some (some ⟨.ow,.lst ds⟩)=>if wq i l ds=true then (b7 fs gs x (l.set i (some ⟨.fr,.lst ds⟩)) s).bind fun (_,_,s1)=>.ok (.nx l (s1.map (Cell.fgt s1))) else .no
  | _=>.no
 | .upd i x,l,s=>match l[i]? with
  | some (some ⟨.ow,.dic false ps⟩)=>(b7 fs gs x l s).bind fun (y,t,s1)=>match t,y with
   | .nw,.dic false qs=>if ps.length+qs.length≤sizeLine then .ok (.nx (l.set i (some ⟨.ow,.dic false (pQ ps qs)⟩)) s1) else .no
   | _,_=>.no
  | _=>.no
 | .ins i k x,l,s=>match l[i]? with
  | some (some ⟨.ow,.lst ds⟩)=>(b7 fs gs k l s).bind fun (y,_,s1)=>match y with
   | .int j=>if 0≤j∧j < 2 ^ 63∧ds.length < sizeLine then cf (b7 fs gs x l s1) fun d s2=>.ok (.nx (l.set i (some ⟨.ow,.lst (ds.take j.toNat++[d]++ds.drop j.toNat)⟩)) s2) else .no
   | _=>.no
  | _=>.no
 | .swS i k h x,l,s=>cf (b7 fs gs x l s) fun d s1=>match d with
  | .tup [a,b]=>(uS fs gs i k a l s1).bind (dN fun l2 s2=>uS fs gs i h b l2 s2)
  | _=>.no
 | .sdap i k x,l,s=>match l[i]? with
  | some (some ⟨.ow,.dic false kvs⟩)=>cf (b7 fs gs k l s) fun y s1=>if (D.keyOf y).isSome=true∧kvs.length < sizeLine∧s1≠[] then match D.look kvs y with
    | some (.loc n)=>yn fs gs n x l s1
    | some _=>.no
    | none=>yn fs gs s1.length x (l.set i (some ⟨.ow,.dic false (D.put kvs y (.loc s1.length))⟩)) (s1++[.obj (.lst [])])
   else .no
  | _=>.no
 | .crev o,l,s=>(b7 fs gs o l s).bind fun (z,_,s1)=>match z with
  | .loc n=>match s1[n]? with
   | some (.obj (.lst ds))=>.ok (.nx l (s1.set n (.obj (.lst ds.reverse))))
   | _=>.no
  | _=>.no
 | .tr b hs,l,s=>match cy fs gs ms b l s with
  | .er e s1 l1=>Bd fs gs ms e hs l1 s1
  | r=>r
 | .rseF c f x,l,s=>(b7 fs gs x l s).bind fun (d,_,s1)=>match d with
  | .int k=>.er ⟨c,some (.tup [.str f,.int k])⟩ s1 l
  | _=>.no
 | .trF b c i f j,l,s=>Bc ms (cy fs gs ms b l s) c i f j
 | .trA b c i a,l,s=>match cy fs gs ms b l s with
  | .er e s1 l1=>match ms e.cls c with
   | some true=>kJ i l1 s1 (cy fs gs ms a (l1.set i (some ⟨.fr,.exc e.cls⟩)) s1)
   | some false=>.er e s1 l1
   | none=>.no
  | r=>r
 | _,_,_=>.no
noncomputable def Bd (fs:List Fn) (gs:List D) (ms:Str→Str→Option Bool) (e:Ex):S→Lc→cj→R Out
 | .hd c a r,l,s=>match ms e.cls c with
  | some true=>R.noEr (cy fs gs ms a l s)
  | some false=>Bd fs gs ms e r l s
  | none=>.no
 | .nil,l,s=>.er e s l
 | _,_,_=>.no
end


section
variable {c:Lc→cj→R (Bool × cj)} {body:Lc→cj→R Out}
theorem oR:∀ {n:Nat} {l:Lc} {s:cj},jX c body n l s≠.no→jX c body (n+1) l s=jX c body n l s
 | 0,l,s,h=>absurd rfl h
 | n+1,l,s,h=>by
  have e1:∀ n,jX c body (n+1) l s=(c l s).bind fun (b,s1)=>if b=true then (body l s1).bind (dN (jX c body n)) else .ok (.nx l s1):=fun _=>rfl
  rw [e1 n] at h
  rw [e1 (n+1),e1 n]
  cases e:c l s with
  | ok p =>
   obtain ⟨b,s1⟩:=p
   rw [e] at h
   cases b with
   | false=>rfl
   | true =>
    have h:(body l s1).bind (dN (jX c body n))≠R.no:=h
    show (body l s1).bind (dN (jX c body (n+1)))=(body l s1).bind (dN (jX c body n))
    cases eb:body l s1 with
    | ok o =>
     rw [eb] at h
     cases o with
     | nx l1 s2=>exact oR h
     | ct l1 s2=>exact oR h
     | bk l1 s2=>rfl
     | rt d t s2=>rfl
    | er _ _ _=>rfl
    | no=>rfl
  | er _ _ _=>rfl
  | no=>rfl
theorem sw {n m:Nat} {l:Lc} {s:cj} (h:jX c body n l s≠.no) (hm:n≤m):jX c body m l s=jX c body n l s:=by
 induction m with
 | zero =>
  obtain rfl:n=0:=by omega
  rfl
 | succ m ih =>
  by_cases e:n=m+1
  ·rw [e]
  ·have:=ih (by omega)
   rw [oR (by rw [this]; exact h),this]
theorem iS {n:Nat} {l:Lc} {s:cj} {r:R Out} (h:jX c body n l s=r) (hr:r≠.no):jY c body l s=r:=by
 unfold jY
 have hx:∃ n,jX c body n l s≠.no:=⟨n,by rw [h]; exact hr⟩
 rw [dif_pos hx]
 have h1:=hx.choose_spec
 have h2:jX c body n l s≠.no:=by rw [h]; exact hr
 rw [← h,← sw h1 (Nat.le_max_left hx.choose n),sw h2 (Nat.le_max_right hx.choose n)]
theorem sx {l:Lc} {s:cj} (h:jY c body l s≠.no):∃ n,jX c body n l s=jY c body l s:=by
 unfold jY at h ⊢
 split
 ·rename_i hx
  exact ⟨_,rfl⟩
 ·rename_i hx
  rw [dif_neg hx] at h
  exact absurd rfl h

theorem sy (l:Lc) (s:cj):jY c body l s=(c l s).bind fun (b,s1)=>if b=true then (body l s1).bind (dN (jY c body)) else .ok (.nx l s1):=by
 have e1:∀ n,jX c body (n+1) l s=(c l s).bind fun (b,s1)=>if b=true then (body l s1).bind (dN (jX c body n)) else .ok (.nx l s1):=fun _=>rfl
 cases e:c l s with
 | er a b d=>exact iS (n:=1) (by rw [e1,e]; rfl) (by intro h; cases h)
 | no =>
  unfold jY
  rw [dif_neg]
  ·rfl
  ·rintro ⟨n,h⟩
   cases n with
   | zero=>exact h rfl
   | succ n=>rw [e1,e] at h; exact h rfl
 | ok p =>
  obtain ⟨b,s1⟩:=p
  cases b with
  | false=>exact iS (n:=1) (by rw [e1,e]; rfl) (by intro h; cases h)
  | true =>
   show _=(body l s1).bind _
   cases eb:body l s1 with
   | er a b d=>exact iS (n:=1) (by rw [e1,e]; show (body l s1).bind _=_; rw [eb]; rfl) (by intro h; cases h)
   | no =>
    unfold jY
    rw [dif_neg]
    ·rfl
    ·rintro ⟨n,h⟩
     cases n with
     | zero=>exact h rfl
     | succ n =>
      rw [e1,e] at h
      have h:(body l s1).bind _≠R.no:=h
      rw [eb] at h
      exact h rfl
   | ok o =>
    have go:∀ l1 s2,(o=.nx l1 s2∨o=.ct l1 s2)→jY c body l s=jY c body l1 s2:=fun l1 s2 ho=>by
     have st:∀ n,jX c body (n+1) l s=jX c body n l1 s2:=fun n=>by
      rw [e1,e]
      show (body l s1).bind _=_
      rw [eb]
      rcases ho with rfl | rfl <;> rfl
     by_cases h:jY c body l1 s2=.no
     ·rw [h]
      unfold jY
      rw [dif_neg]
      rintro ⟨n,hn⟩
      cases n with
      | zero=>exact hn rfl
      | succ n =>
       rw [st] at hn
       have:=iS rfl hn
       rw [h] at this
       exact hn this.symm
     ·obtain ⟨n,hn⟩:=sx h
      exact iS (n:=n+1) (by rw [st,hn]) h
    cases o with
    | nx l1 s2=>exact go l1 s2 (.inl rfl)
    | ct l1 s2=>exact go l1 s2 (.inr rfl)
    | bk l1 s2=>exact iS (n:=1) (by rw [e1,e]; show (body l s1).bind _=_; rw [eb]; rfl) (by intro h; cases h)
    | rt d t s2=>exact iS (n:=1) (by rw [e1,e]; show (body l s1).bind _=_; rw [eb]; rfl) (by intro h; cases h)
end
section
variable {Y:Wd} {g g':Gh} {σ:L2.St} {H H':Hp} {l:Lc} {s s':cj} {d:D} {v:V} {p:Addr} {o:HO}

theorem SR.forget (S:SR Y g σ H l s) (i:Nat):SR Y g σ H (l.set i none) s:=by
 have hv:∀ {j:Nat} {z:Sl},(l.set i none)[j]?=some (some z)→i≠j∧l[j]?=some (some z):=fun {j z} h=>by
  by_cases e:i=j
  ·subst e
   by_cases hlt:i < l.length
   ·rw [aL hlt] at h; cases h
   ·rw [aQ (by rw [aN]; omega)] at h; cases h
  ·rw [ay e] at h
   exact ⟨e,h⟩
 exact ⟨S.sB,S.sF,by rw [aN]; exact S.len,fun j z hz=>S.sl j z (hv hz).2,fun j k z y a h1 h2=>S.ow j k z y a (hv h1).2 (hv h2).2,S.st⟩

theorem SR.setO (S:SR Y g σ H l s) (i:Nat) (r:VN Y g σ H l d v):SR Y g (σ.set i (some v)) H (l.set i (some ⟨.ow,d⟩)) s:=by
 obtain ⟨a,rfl,hF,hB,tp,no⟩:=r
 have look:∀ {j:Nat} {z:Sl},(l.set i (some ⟨.ow,d⟩))[j]?=some (some z)→(i=j∧z=⟨.ow,d⟩∧i < l.length)∨(i≠j∧l[j]?=some (some z)):=fun {j z} h=>by
  by_cases e:i=j
  ·subst e
   have hlt:i < l.length:=by
    have:=(au.mp h).1
    rwa [aN] at this
   rw [aL hlt] at h
   exact .inl ⟨rfl,(ad (ad h)).symm,hlt⟩
  ·rw [ay e] at h
   exact .inr ⟨e,h⟩
 refine ⟨S.sB,S.sF,by rw [aN,aN]; exact S.len,fun j z hz=>?_,fun j k z y b h1 h2 k1 k2 e1 e2=>?_,S.st⟩
 ·rcases look hz with ⟨rfl,rfl,hlt⟩ | ⟨hj,hz⟩
  ·exact ⟨.ref a,by rw [aL (by rw [S.len]; exact hlt)],tp,fun b e=>by cases e; exact ⟨hF.1,hB,hF.2⟩⟩
  ·rw [ay hj]
   exact S.sl j z hz
 ·rcases look h1 with ⟨rfl,rfl,hlt⟩ | ⟨hj,hz⟩
  ·rcases look h2 with ⟨rfl,rfl,_⟩ | ⟨hk,hy⟩
   ·rfl
   ·rw [aL (by rw [S.len]; exact hlt)] at e1
    cases e1
    rw [ay hk] at e2
    obtain ⟨ky,dy⟩:=y
    cases k2
    exact absurd hy (no k dy e2)
  ·rw [ay hj] at e1
   rcases look h2 with ⟨rfl,rfl,hlt⟩ | ⟨hk,hy⟩
   ·rw [aL (by rw [S.len]; exact hlt)] at e2
    cases e2
    obtain ⟨kz,dz⟩:=z
    cases k1
    exact absurd hz (no j dz e1)
   ·rw [ay hk] at e2
    exact S.ow j k z y b hz hy k1 k2 e1 e2
theorem je {α:Type} {l:List α} {i:Nat} {x:α} (h:l[i]?=some x):l.set i x=l:=by
 obtain ⟨hlt,e⟩:=au.mp h
 rw [← e]
 exact List.set_getElem_self hlt
theorem kK {α:Type} {l:List α} {i:Nat} {x y:α}:(l.set i x).set i y=l.set i y:=List.set_set ..

theorem SR.alone (S:SR Y g σ H l s) {i:Nat} {a:Addr} (h1:σ[i]?=some (some (.ref a))) (h2:l[i]?=some (some ⟨.ow,d⟩)):∀ (j:Nat) (d':D),σ[j]?=some (some (.ref a))→(l.set i none)[j]?≠some (some ⟨.ow,d'⟩):=fun j d' e1 e2=>by
 by_cases e:i=j
 ·subst e
  have hlt:i < l.length:=(au.mp h2).1
  rw [aL hlt] at e2
  cases e2
 ·rw [ay e] at e2
  exact e (S.ow i j ⟨.ow,d⟩ ⟨.ow,d'⟩ a h2 e2 rfl rfl h1 e1)

theorem SR.fz (S:SR Y g σ H l s) {i:Nat} (h2:l[i]?=some (some ⟨.ow,d⟩)):∃ g',Ext g g'∧SR Y g' σ H (l.set i (some ⟨.fr,d⟩)) s:=by
 obtain ⟨v,h1,tp,no⟩:=S.sl i _ h2
 obtain ⟨a,rfl,hs⟩:=tp.isRef
 obtain ⟨hF,hB,hm⟩:=no a rfl
 have S1:=S.forget i
 obtain ⟨u,hu⟩:=a0.mp hs
 obtain ⟨S2,E⟩:=S1.add hu hF hm hB (S.alone h1 h2)
 refine ⟨_,E,?_⟩
 have rp:Rp Y (g.F.upd a u) d (.ref a):=by
  cases tp with
  | lst h r=>rw [h] at hu; cases hu; exact .lst upd_same (r.mono E.f)
  | dk h r=>rw [h] at hu; cases hu; exact .dk upd_same (r.mono E.f)
  | dt h w r=>rw [h] at hu; cases hu; exact .dt upd_same w (r.mono E.f)
 have S3:=S2.set i rp
 rw [je h1,kK] at S3
 exact S3
theorem SR.fzL (S:SR Y g σ H l s):∀ is:List Nat,∃ g',Ext g g'∧SR Y g' σ H (fzL l is) s
 | []=>⟨g,.refl g,S⟩
 | i :: is=>by
  obtain ⟨g1,e1,S1⟩:=S.fzL is
  show ∃ g',Ext g g'∧SR Y g' σ H (match (GM.fzL l is)[i]? with
   | some (some ⟨.ow,d⟩)=>(GM.fzL l is).set i (some ⟨.fr,d⟩)
   | _=>GM.fzL l is) s
  split
  ·rename_i d h
   obtain ⟨g2,e2,S2⟩:=S1.fz h
   exact ⟨g2,e1.trans e2,S2⟩
  ·exact ⟨g1,e1,S1⟩

theorem SR.wrO (S:SR Y g σ H l s) {i:Nat} {a:Addr} {d':D} (h1:σ[i]?=some (some (.ref a))) (h2:l[i]?=some (some ⟨.ow,d⟩)) (tp:TpW Y g.F (upd H a o) d' (.ref a)):SR Y g σ (upd H a o) (l.set i (some ⟨.ow,d'⟩)) s:=by
 obtain ⟨hF,hB,hm⟩:=(S.own h1 h2).2 a rfl
 have no:=S.alone h1 h2
 have S1:=(S.forget i).wr (o:=o) hF hm hB no
 have S2:=S1.setO i ⟨a,rfl,⟨hF,hm⟩,hB,tp,no⟩
 rw [je h1,kK] at S2
 exact S2
end

def F3 (Y:Wd) (g:Gh) (H:Hp) (d:D) (t:Tag) (v:V):Prop :=
 match t with
 | .fr=>Rp Y g.F d v
 | .nw=>∃ p,v=.ref p∧(g.F.h p=none∧∀ n,g.F.m p≠some n)∧g.B p=none∧TpW Y g.F H d v
 | _=>False
def KO (G:Gm) (E:Ends):Out→Gh→Prop:=fun o g=>match o with
 | .nx l s=>∀ σ' H',SR G.Y g σ' H' l s→E.nx σ' H'
 | .bk l s=>∀ σ' H',SR G.Y g σ' H' l s→E.bk σ' H'
 | .ct l s=>∀ σ' H',SR G.Y g σ' H' l s→E.ct σ' H'
 | .rt d t s=>∀ v H',Same g.B H'→Same g.F.h H'→StR G.Y g H' s→F3 G.Y g H' d t v→E.rt v H'

def ValS {α:Type} (G:Gm) (W:WX) (g:Gh) (r:R α) (K:α→Gh→Prop):Prop :=
 match r with
 | .ok a=>∀ g',Ext g g'→K a g'
 | .er e s' l'=>∀ g' σ' H' c dd,Ext g g'→SR G.Y g' σ' H' l' s'→wG G.mg e c dd H'→W c dd σ' H'
 | .no=>False
def F4 (G:Gm) (ms:Str→Str→Option Bool) (W:WX) (x:S):TS:=fun E σ H=>∃ g l s,SR G.Y g σ H l s∧ValS G W g (cy G.fs G.gs ms x l s) (KO G E)
section
variable {α:Type} {G:Gm} {W:WX} {g g':Gh} {σ:L2.St} {H H':Hp} {l:Lc} {s s':cj} {K:α→Gh→Prop} {E:Ends}
theorem ValS.ext (e:Ext g g') {r:R α} (h:ValS G W g r K):ValS G W g' r K:=by
 cases r with
 | ok a=>exact fun g2 e2=>h g2 (e.trans e2)
 | er a b c=>exact fun g2 σ' H' c dd e2=>h g2 σ' H' c dd (e.trans e2)
 | no=>exact h
theorem ValS.toR {r:R α} (h:ValS G W g r K):ValR G W g σ r K:=by
 cases r with
 | ok a=>exact h
 | er a b c=>exact fun g2 H' c dd e2=>h g2 σ H' c dd e2
 | no=>exact h
theorem ValS.imp {r:R α} {K':α→Gh→Prop} (h:ValS G W g r K) (f:∀ a g',Ext g g'→K a g'→K' a g'):ValS G W g r K':=by
 cases r with
 | ok a=>exact fun g2 e2=>f a g2 e2 (h g2 e2)
 | er a b c=>exact h
 | no=>exact h

theorem ValS.split {β:Type} {r:R β} {k:β→R α} (h:ValS G W g (r.bind k) K):ValS G W g r (fun b g'=>ValS G W g' (k b) K):=by
 cases r with
 | ok a=>exact fun g2 e2=>ValS.ext e2 (show ValS G W g (k a) K from h)
 | er a b c=>exact h
 | no=>exact h
theorem gx {x:X} {k:VT→R α} (S:SR G.Y g σ H l s) (h:ValS G W g ((b7 G.fs G.gs x l s).bind k) K) {Q2:VK}
  (hk:∀ d t s1 g1 v H1,Ext g g1→SR G.Y g1 σ H1 l s1→VR G.Y g1 σ H1 l d t v→ValS G W g1 (k (d,t,s1)) K→Q2 v H1):rd G W x σ H Q2:=by
 refine ⟨g,l,s,S,?_⟩
 cases e:b7 G.fs G.gs x l s with
 | ok a =>
  obtain ⟨d,t,s1⟩:=a
  rw [e] at h
  exact fun g1 v H1 e1 S1 v1=>hk d t s1 g1 v H1 e1 S1 v1 (ValS.ext e1 h)
 | er a b c =>
  rw [e] at h
  exact fun g1 H1 c dd e1 S1=>h g1 σ H1 c dd e1 S1
 | no =>
  rw [e] at h
  exact h
theorem ff {x:X} {k:VT→R α} (S:SR G.Y g σ H l s) (h:ValS G W g ((b7 G.fs G.gs x l s).bind k) K) {Q2:VK}
  (hk:∀ d t s1 g1 v H1,Ext g g1→SR G.Y g1 σ H1 l s1→VS G.Y g1 σ l d v→ValS G W g1 (k (d,t,s1)) K→Q2 v H1):rd G W x σ H Q2 :=
 gx S h fun d t s1 g1 v H1 e1 S1 v1 h1=>by
  obtain ⟨g2,e2,S2,q⟩:=VR.stay S1 v1
  exact hk d t s1 g2 v H1 (e1.trans e2) S2 q (ValS.ext e2 h1)
theorem dj {x:X} {k:D→cj→R α} (S:SR G.Y g σ H l s) (h:ValS G W g (cf (b7 G.fs G.gs x l s) k) K) {Q2:VK}
  (hk:∀ d s1 g1 v H1,Ext g g1→SR G.Y g1 σ H1 l s1→Rp G.Y g1.F d v→ValS G W g1 (k d s1) K→Q2 v H1):rd G W x σ H Q2 :=
 gx S h fun d t s1 g1 v H1 e1 S1 v1 h1=>by
  have h1:ValS G W g1 (if (t=.bo∨t=.ow)∧d.still=false then R.no else k d s1) K:=h1
  by_cases c:(t=.bo∨t=.ow)∧d.still=false
  ·rw [ap c] at h1
   exact h1.elim
  ·rw [av c] at h1
   obtain ⟨g2,e2,S2,q⟩:=VR.keep S1 v1 c
   exact hk d s1 g2 v H1 (e1.trans e2) S2 q (ValS.ext e2 h1)
theorem lm {x:X} {k:Bool × cj→R α} (S:SR G.Y g σ H l s) (h:ValS G W g ((dE G.fs G.gs x l s).bind k) K) {Q2:Bool→Hp→Prop}
  (hk:∀ b s1 g1 H1,Ext g g1→SR G.Y g1 σ H1 l s1→ValS G W g1 (k (b,s1)) K→Q2 b H1):i7 G W x σ H Q2:=by
 refine ⟨g,l,s,S,?_⟩
 unfold dE at h
 cases e:b7 G.fs G.gs x l s with
 | ok a =>
  obtain ⟨d,t,s1⟩:=a
  rw [e] at h
  cases d with
  | bl b=>exact fun g1 e1=>⟨b,rfl,fun H1 S1=>hk b s1 g1 H1 e1 S1 (ValS.ext e1 h)⟩
  | _=>exact h.elim
 | er a b c =>
  rw [e] at h
  exact fun g1 H1 c dd e1 S1=>h g1 σ H1 c dd e1 S1
 | no =>
  rw [e] at h
  exact h
theorem qE {x:X} {k:List D × cj→R α} (S:SR G.Y g σ H l s) (h:ValS G W g ((gq G.fs G.gs x l s).bind k) K) {Q2:It→Hp→Prop}
  (hk:∀ ds s1 g1 J H1,Ext g g1→SR G.Y g1 σ H1 l s1→Wk G.Y J g1 ds→ValS G W g1 (k (ds,s1)) K→Q2 J H1):mC G W x σ H Q2:=by
 refine ⟨g,l,s,S,?_⟩
 cases e:gq G.fs G.gs x l s with
 | ok a =>
  obtain ⟨ds,s1⟩:=a
  rw [e] at h
  exact fun g1 e1 J H1 S1 w=>hk ds s1 g1 J H1 e1 S1 w (ValS.ext e1 h)
 | er a b c =>
  rw [e] at h
  exact fun g1 H1 c dd e1 S1=>h g1 σ H1 c dd e1 S1
 | no =>
  rw [e] at h
  exact h

theorem ValS.step {k:Lc→cj→R Out} {r:R Out} {N:L2.St→Hp→Prop} (h:ValS G W g (r.bind (dN k)) (KO G E)) (hn:∀ g' l' s',Ext g g'→ValS G W g' (k l' s') (KO G E)→∀ σ' H',SR G.Y g' σ' H' l' s'→N σ' H') :
  ValS G W g r (KO G { E with nx:=N,ct:=N,bk:=E.nx }):=by
 cases r with
 | ok o =>
  have h:ValS G W g (dN k o) (KO G E):=h
  intro g' e
  cases o with
  | nx l s=>exact hn g' l s e (ValS.ext e h)
  | ct l s=>exact hn g' l s e (ValS.ext e h)
  | bk l s=>exact fun σ' H' S'=>h g' e σ' H' S'
  | rt d t s=>exact fun v H' q1 q2 q3 q4=>h g' e v H' q1 q2 q3 q4
 | er a b c=>exact h
 | no=>exact h
end

theorem SR.lstO {Y:Wd} {g:Gh} {σ:L2.St} {H:Hp} {l:Lc} {s:cj} {i:Nat} {ds:List D} (S:SR Y g σ H l s) (h:l[i]?=some (some ⟨.ow,.lst ds⟩)):∃ a vs,σ[i]?=some (some (.ref a))∧H a=some (.lst vs)∧Rps Y g.F ds vs:=by
 obtain ⟨v,h1,tp,_⟩:=S.sl i _ h
 cases tp with
 | lst hh r=>exact ⟨_,_,h1,hh,r⟩
def gX:Expr→Bool
 | .ListComp _ _ _ _=>false
 | .SetComp _ _ _ _=>false
 | .DictComp _ _ _ _ _=>false
 | _=>true
def jO:Expr→Bool
 | .Tuple _ _ _=>false
 | _=>true
theorem gj {e:Expr} {l:Nat} {env:Env} {t:Option Expr} (h:gX e=true):swapsWith e t l env=pure false:=by
 cases e <;> first | rfl | cases h
theorem Be {e:Expr} {l:Nat} {env:Env} {y:Str} {p:Pos} (h:env.scope.names.lookup y≠some .local):swapsWith e (some (.Name y p)) l env=pure false:=by
 have hk:(env.kindOf y == some .local)=false:=by
  unfold Env.kindOf
  exact bp.mpr h
 unfold swapsWith
 cases e <;> first | rfl | (simp only [hk,bT,bU]; done) | (simp only [hk,bT,bU]; rfl)
theorem jf {e t:Expr} {l:Nat} {env:Env} (h:∀ y p,t≠.Name y p):swapsWith e (some t) l env=pure false:=by
 unfold swapsWith
 cases e <;> first | rfl | (cases t <;> first | rfl | exact absurd rfl (h _ _))
theorem kL {e t:Expr} {env:Env} (h:jO e=true):swappedStores [t] e env=pure none:=by
 unfold swappedStores
 cases e <;> first | rfl | (cases t <;> rfl; done) | cases h
theorem pR {e o i:Expr} {p:Pos} {env:Env}:swappedStores [.Subscript o i p] e env=pure none:=by
 unfold swappedStores
 cases e <;> rfl
section
variable {C:Cx} {S:Sc} {G:Gn} {W:WX} {e f b tg:Expr} {es:List Expr} {pos:Pos} {x xa xb xc:X} {sa sb sc:GM.S} {st:Stmt} {sts:List Stmt}
abbrev rS (G:Gn) (W:WX) (x:GM.S):TS:=F4 G.gm G.ms W x
theorem yo:PS C (.Pass pos) (rS G W .pass):=PS.imp ps_pass fun E σ H ⟨g,l,s,SS,h⟩=>h g (.refl g) σ H SS
theorem Bf:PS C (.Break pos) (rS G W .brk):=PS.imp ps_break fun E σ H ⟨g,l,s,SS,h⟩=>h g (.refl g) σ H SS
theorem yp:PS C (.Continue pos) (rS G W .cont):=PS.imp ps_continue fun E σ H ⟨g,l,s,SS,h⟩=>h g (.refl g) σ H SS
theorem Bg:PSs C [] (rS G W .nil):=PSs.imp pss_nil fun E σ H ⟨g,l,s,SS,h⟩=>h g (.refl g) σ H SS
theorem Bh (ha:PS C st (rS G W sa)) (hb:PSs C sts (rS G W sb)):PSs C (st :: sts) (rS G W (.cons sa sb)):=by
 refine PSs.imp (pss_cons ha hb) ?_
 rintro E σ H ⟨g,l,s,SS,h⟩
 refine ⟨g,l,s,SS,?_⟩
 refine ValS.imp (ValS.split (show ValS G.gm W g ((cy G.fs G.gs G.ms sa l s).bind _) (KO G.gm E) from h)) fun o g' e q=>?_
 cases o with
 | nx l1 s1=>exact fun σ' H' S'=>⟨g',l1,s1,S',q⟩
 | bk l1 s1=>exact q g' (.refl g')
 | ct l1 s1=>exact q g' (.refl g')
 | rt d t s1=>exact q g' (.refl g')
theorem DL (he:PE C e (rd G.gm W x)) (hn:gX e=true):PS C (.Expr e pos) (rS G W (.ex x)):=by
 refine PS.imp (ps_expr he (gj hn)) ?_
 rintro E σ H ⟨g,l,s,SS,h⟩
 refine gx SS (show ValS G.gm W g ((b7 G.fs G.gs x l s).bind _) (KO G.gm E) from h) fun d t s1 g1 v H1 e1 S1 v1 h1=>?_
 exact h1 g1 (.refl g1) σ H1 S1
theorem yq {i:Nat} (h0:PS C st (tAsg (rd G.gm W x) (gName i))):PS C st (rS G W (.set (.n i) x)):=by
 refine PS.imp h0 ?_
 rintro E σ H ⟨g,l,s,SS,h⟩
 refine dj SS (show ValS G.gm W g (cf (b7 G.fs G.gs x l s) _) (KO G.gm E) from h) fun d s1 g1 v H1 e1 S1 r1 h1=>?_
 exact h1 g1 (.refl g1) _ H1 (S1.set i r1)
theorem Bi {i:Nat} (h0:PS C st (tAsg (rd G.gm W x) (gName i))):PS C st (rS G W (.own i x)):=by
 refine PS.imp h0 ?_
 rintro E σ H ⟨g,l,s,SS,h⟩
 refine gx SS (show ValS G.gm W g ((b7 G.fs G.gs x l s).bind _) (KO G.gm E) from h) fun d t s1 g1 v H1 e1 S1 v1 h1=>?_
 have h1:ValS G.gm W g1 (if t=.nw then .ok (.nx (l.set i (some ⟨.ow,d⟩)) s1) else if (t=.bo∨t=.ow)∧d.still=false then .no else .ok (.nx (l.set i (some ⟨.fr,d⟩)) s1)) (KO G.gm E):=h1
 by_cases ht:t=.nw
 ·rw [ap ht] at h1
  subst ht
  exact h1 g1 (.refl g1) _ H1 (S1.setO i v1)
 ·rw [av ht] at h1
  by_cases c:(t=.bo∨t=.ow)∧d.still=false
  ·rw [ap c] at h1
   exact h1.elim
  ·rw [av c] at h1
   obtain ⟨g2,e2,S2,r1⟩:=VR.keep S1 v1 c
   exact (ValS.ext e2 h1) g2 (.refl g2) _ H1 (S2.set i r1)
theorem yr {t:T} {ts:List Expr} {k:Nat} {p:Pos} (he:PE C e (rd G.gm W x)) (hg:PG C (.Tuple ts k p) (gT G.gm t)) (hn:jO e=true):PS C (.Assign [.Tuple ts k p] e pos) (rS G W (.set t x)):=by
 refine PS.imp (ps_asg he hg (show swapsWith e (some (.Tuple ts k p)) pos.line C.env=pure false from jf (fun y p q=>by cases q)) (kL hn)) ?_
 rintro E σ H ⟨g,l,s,SS,h⟩
 refine dj SS (show ValS G.gm W g (cf (b7 G.fs G.gs x l s) _) (KO G.gm E) from h) fun d s1 g1 v H1 e1 S1 r1 h1=>?_
 have h1:ValS G.gm W g1 (match T.put t d l with | some l1=>.ok (.nx l1 s1) | none=>.no) (KO G.gm E):=h1
 cases ep:T.put t d l with
 | none=>rw [ep] at h1; exact h1.elim
 | some l1 =>
  rw [ep] at h1
  exact ⟨g1,l,s1,d,l1,S1,r1,ep,fun σ' _ _ S'=>h1 g1 (.refl g1) σ' H1 S'⟩

def Bj:TIp:=fun x y H Q=>(ipI fun i j=>i+j) x y H Q∨rExt2 x y H Q
theorem yt {X:Cx}:PIp X .Add Bj:=by
 intro pins s σ H x y v u Q I r1 r2 h
 rcases h with h | h
 ·exact ip_add pins s σ H x y v u Q I r1 r2 h
 ·exact iop_ext pins s σ H x y v u Q I r1 r2 h
theorem Bk {i:Nat} {y:Str} {p:Pos} (B:Gd C S G W) (hN:S.N[i]?=some y) (hx:kq S.sc y=true) (hf:(S.top || fW S.sc y)=true) (he:PE C e (rd G.gm W x)):PS C (.AugAssign (.Name y p) .Add e pos) (rS G W (.aug i x)):=by
 refine PS.imp (ps_aug (i:=i) (by rw [B.N]; exact B.nd) (by rw [B.N]; exact hN) (by rw [B.sc]; exact hW hx) he yt (by
  rw [bC] at hf
  rcases hf with h | h
  ·exact .inl ((B.top h).1 y)
  ·rw [B.sc]; exact .inr (fe h))) ?_
 rintro E σ H ⟨g,l,s,SS,h⟩
 have h:ValS G.gm W g (match l[i]? with
  | some (some ⟨_,.int a⟩)=>(b7 G.fs G.gs x l s).bind fun (d,_,s1)=>match d with | .int b=>.ok (.nx (l.set i (some ⟨.fr,.int (a+b)⟩)) s1) | _=>.no
  | some (some ⟨.ow,.lst ds⟩)=>(b7 G.fs G.gs x l s).bind fun (d,_,s1)=>match d with | .lst es=>if ds.length+es.length≤sizeLine then .ok (.nx (l.set i (some ⟨.ow,.lst (ds++es)⟩)) s1) else .no | _=>.no
  | _=>.no) (KO G.gm E):=h
 split at h
 ·rename_i k a e0
  obtain ⟨v,h1,h2⟩:=SS.sl i _ e0
  have hv:v=.int a:=by
   cases k with
   | fr=>cases h2; rfl
   | bo=>rcases h2 with h2 | h2 <;> cases h2; rfl
   | ow=>cases h2.1
   | nw=>exact h2.elim
  refine ⟨v,h1,?_⟩
  refine ff SS h fun d t s1 g1 w H1 e1 S1 w1 q1=>?_
  cases d with
  | int b =>
   refine .inl ⟨a,b,hv,(w1.rd S1).int,?_⟩
   exact q1 g1 (.refl g1) _ H1 (S1.set i (.int _))
  | _=>exact q1.elim
 ·rename_i ds e0
  obtain ⟨a,vs,h1,h2,h3⟩:=SS.lstO e0
  refine ⟨.ref a,h1,?_⟩
  refine ff SS h fun d t s1 g1 w H1 e1 S1 w1 q1=>?_
  cases d with
  | lst es =>
   have q1:ValS G.gm W g1 (if ds.length+es.length≤sizeLine then .ok (.nx (l.set i (some ⟨.ow,.lst (ds++es)⟩)) s1) else .no) (KO G.gm E):=q1
   split at q1
   ·rename_i hz
    obtain ⟨a',vs',h1',h2',h3'⟩:=S1.lstO e0
    rw [h1] at h1'
    cases h1'
    obtain ⟨b,ws,rfl,hb,rb⟩:=(w1.rd S1).lst S1
    refine .inr ⟨a,b,vs',ws,rfl,rfl,h2',hb,by rw [← h3'.length,← rb.length]; exact hz,?_⟩
    have es:σ.set i (some (V.ref a))=σ:=je h1
    show E.nx (σ.set i (some (V.ref a))) _
    rw [es]
    exact q1 g1 (.refl g1) σ _ (S1.wrO h1 e0 (.lst upd_same (h3'.append rb)))
   ·exact q1.elim
  | _=>exact q1.elim
 ·exact h.elim
theorem DM {is:List Nat} (ha:PS C st (rS G W sa)):PS C st (rS G W (.fz is sa)):=by
 refine PS.imp ha ?_
 rintro E σ H ⟨g,l,s,SS,h⟩
 obtain ⟨g1,e1,S1⟩:=SS.fzL is
 exact ⟨g1,GM.fzL l is,s,S1,ValS.ext e1 h⟩
theorem DN {a1 a2:List Stmt} (hc:PT C e (i7 G.gm W xc)) (ha:PSs C a1 (rS G W sa)) (hb:PSs C a2 (rS G W sb)):PS C (.If e a1 a2 pos) (rS G W (.ife xc sa sb)):=by
 refine PS.imp (ps_if hc ha hb) ?_
 rintro E σ H ⟨g,l,s,SS,h⟩
 refine lm SS (show ValS G.gm W g ((dE G.fs G.gs xc l s).bind _) (KO G.gm E) from h) fun b s1 g1 H1 e1 S1 h1=>?_
 cases b with
 | true=>exact (ap rfl).symm ▸ (⟨g1,l,s1,S1,h1⟩:rS G W sa E σ H1)
 | false=>exact (av aa).symm ▸ (⟨g1,l,s1,S1,h1⟩:rS G W sb E σ H1)
theorem Bl (B:Gd C S G W) (hp:PassesOwn (model C.prog C.w) C.A C.env C.xe) (hh:S.hot=false) {t:T} {ite:Expr} {body:List Stmt} (hs:gU ite=true) (hi:PI C tg ite (mC G.gm W xa)) (hg:PG C tg (gT G.gm t)) (hb:PSs C body (rS G W sb)) :
  PS C (.For tg ite body [] pos) (rS G W (.loop t xa sb)):=by
 refine PS.imp (ps_for hp (B.calm hh) hi hg hb (nf hs)) ?_
 rintro E σ H ⟨g,l,s,SS,h⟩
 generalize hbd:(fun d l s=>match T.put t d l with | some l1=>cy G.fs G.gs G.ms sb l1 s | none=>.no:D→Lc→cj→R Out)=bd
 have h:ValS G.gm W g ((gq G.fs G.gs xa l s).bind fun (ds,s1)=>iK (fun d l s=>match T.put t d l with | some l1=>cy G.fs G.gs G.ms sb l1 s | none=>.no) ds l s1) (KO G.gm E):=h
 rw [hbd] at h
 refine qE SS h fun ds s1 g1 J H1 e1 S1 w h1=>?_
 refine ⟨fun i m σ' H'=>m=ds.length - i∧i≤ds.length∧∃ g2 l2 s2,Ext g1 g2∧SR G.Y g2 σ' H' l2 s2∧ValS G.gm W g2 (iK bd (ds.drop i) l2 s2) (KO G.gm E),⟨ds.length,by simp,aV _,g1,l,s1,.refl g1,S1,h1⟩,?_⟩
 rintro i m σ2 H2 ⟨rfl,hi2,g2,l2,s2,e2,S2,h2⟩
 obtain ⟨wgo,wstop⟩:=w g2 i σ2 H2 l2 s2 e2.w S2
 by_cases hlt:i < ds.length
 ·refine .inr ?_
  obtain ⟨go,yl⟩:=wgo ds[i] (ah hlt)
  refine ⟨go,fun σ' H'=>∃ g2 l2 s2,Ext g1 g2∧SR G.Y g2 σ' H' l2 s2∧ValS G.gm W g2 (iK bd (ds.drop (i+1)) l2 s2) (KO G.gm E),fun σ' H' n=>⟨ds.length - (i+1),by omega,rfl,hlt,n⟩,fun v H3 y=>?_⟩
  obtain ⟨g3,e3,_,S3,r3⟩:=yl v H3 y
  rw [List.drop_eq_getElem_cons hlt] at h2
  have h3:ValS G.gm W g3 ((bd ds[i] l2 s2).bind (dN (iK bd (ds.drop (i+1))))) (KO G.gm E):=ValS.ext e3 h2
  cases et:T.put t ds[i] l2 with
  | none =>
   rw [← hbd] at h3
   simp only [et] at h3
   exact h3.elim
  | some l3 =>
   have h4:ValS G.gm W g3 ((cy G.fs G.gs G.ms sb l3 s2).bind (dN (iK bd (ds.drop (i+1))))) (KO G.gm E):=by
    have:bd ds[i] l2 s2=cy G.fs G.gs G.ms sb l3 s2:=by
     rw [← hbd]
     simp only [et]
    rw [this] at h3
    exact h3
   refine ⟨g3,l2,s2,ds[i],l3,S3,r3,et,fun σ4 _ _ S4=>⟨g3,l3,s2,S4,?_⟩⟩
   exact h4.step fun g5 l5 s5 e5 q σ' H' S'=>⟨g5,l5,s5,(e2.trans e3).trans e5,S',q⟩
 ·have hi3:i=ds.length:=by omega
  refine .inl ⟨wstop hi3,?_⟩
  rw [hi3,List.drop_length] at h2
  exact h2 g2 (.refl g2) σ2 H2 S2
theorem uT (hp:PassesOwn (model C.prog C.w) C.A C.env C.xe) {body:List Stmt} (hc:PT C e (i7 G.gm W xc)) (hb:PSs C body (rS G W sb)):PS C (.While e body [] pos) (rS G W (.whl xc sb)):=by
 refine PS.imp (ps_while hp hc hb) ?_
 rintro E σ H ⟨g,l,s,SS,h⟩
 have h:ValS G.gm W g (jY (dE G.fs G.gs xc) (cy G.fs G.gs G.ms sb) l s) (KO G.gm E):=h
 have hne:jY (dE G.fs G.gs xc) (cy G.fs G.gs G.ms sb) l s≠.no:=fun q=>by rw [q] at h; exact h
 obtain ⟨n,hn⟩:=sx hne
 rw [← hn] at h
 refine ⟨fun m σ' H'=>∃ g2 l2 s2,SR G.Y g2 σ' H' l2 s2∧ValS G.gm W g2 (jX (dE G.fs G.gs xc) (cy G.fs G.gs G.ms sb) m l2 s2) (KO G.gm E),⟨n,g,l,s,SS,h⟩,?_⟩
 rintro m σ2 H2 ⟨g2,l2,s2,S2,h2⟩
 cases m with
 | zero=>exact h2.elim
 | succ m =>
  refine lm S2 (show ValS G.gm W g2 ((dE G.fs G.gs xc l2 s2).bind _) (KO G.gm E) from h2) fun b s3 g3 H3 e3 S3 h3=>?_
  cases b with
  | true =>
   refine (ap rfl).symm ▸ ⟨fun σ' H'=>∃ g2 l2 s2,SR G.Y g2 σ' H' l2 s2∧ValS G.gm W g2 (jX (dE G.fs G.gs xc) (cy G.fs G.gs G.ms sb) m l2 s2) (KO G.gm E),fun σ' H' q=>⟨m,Nat.lt_succ_self m,q⟩,?_⟩
   refine ⟨g3,l2,s3,S3,?_⟩
   exact (show ValS G.gm W g3 ((cy G.fs G.gs G.ms sb l2 s3).bind (dN (jX (dE G.fs G.gs xc) (cy G.fs G.gs G.ms sb) m))) (KO G.gm E) from h3).step fun g5 l5 s5 e5 q σ' H' S'=>⟨g5,l5,s5,S',q⟩
  | false=>exact (av aa).symm ▸ (h3 g3 (.refl g3) σ2 H3 S3)
theorem Bm (he:PE C e (rd G.gm W x)):PS C (.Return (some e) pos) (rS G W (.ret x)):=by
 refine PS.imp (ps_ret he) ?_
 rintro E σ H ⟨g,l,s,SS,h⟩
 refine gx SS (show ValS G.gm W g ((b7 G.fs G.gs x l s).bind _) (KO G.gm E) from h) fun d t s1 g1 v H1 e1 S1 v1 h1=>?_
 have h1:ValS G.gm W g1 (match qD t d with | some t'=>.ok (.rt d t' s1) | none=>.no) (KO G.gm E):=h1
 cases t with
 | fr=>exact h1 g1 (.refl g1) v H1 S1.sB S1.sF S1.st v1
 | nw =>
  obtain ⟨p,e,hF,hB,tp,_⟩:=v1
  exact h1 g1 (.refl g1) v H1 S1.sB S1.sF S1.st ⟨p,e,hF,hB,tp⟩
 | ow =>
  obtain ⟨i,h2,h3⟩:=v1
  obtain ⟨tp,no⟩:=S1.own h2 h3
  obtain ⟨p,e,_⟩:=tp.isRef
  exact h1 g1 (.refl g1) v H1 S1.sB S1.sF S1.st ⟨p,e,⟨(no p e).1,(no p e).2.2⟩,(no p e).2.1,tp⟩
 | bo =>
  have h1:ValS G.gm W g1 (match (if d.still=true then some Tag.fr else none) with | some t'=>.ok (.rt d t' s1) | none=>.no) (KO G.gm E):=h1
  by_cases hd:d.still=true
  ·rw [ap hd] at h1
   refine h1 g1 (.refl g1) v H1 S1.sB S1.sF S1.st ?_
   rcases v1 with v1 | v1
   ·exact v1
   ·rw [v1.notStill] at hd; cases hd
  ·rw [av hd] at h1
   exact h1.elim
theorem yu:PS C (.Return none pos) (rS G W .retN):=PS.imp ps_retN fun E σ H ⟨g,l,s,SS,h⟩=>h g (.refl g) .non H SS.sB SS.sF SS.st .non
theorem uU (B:Gd C S G W) (hh:S.hot=false) {c m:Str} {j:Nat} {p p2 p3:Pos} (hc:c∈S.en) (hg:cP S.sc c=true) (hn:dZ c=true):PS C (.Raise (some (.Call (.Name c p) [.Constant (.str m) j p2] [] p3)) none pos) (rS G W (.rse c)):=by
 obtain ⟨Ca,bmB,Bs,n1,n2,F,q1,q2,q3,q4,q5⟩:=B.exs c hc
 refine PS.imp (ps_raise (B.calm hh) B.tk (pmk_own F q1 q2 q3 (raises_own q4 q5) (B.gl hg) (di hn))) ?_
 rintro E σ H ⟨g,l,s,SS,h⟩
 refine h g σ H (.ref Ca) none (.refl g) SS ⟨?_,.inl ⟨rfl,rfl⟩⟩
 show G.gm.mg c=_
 rw [show G.gm.mg=C.mg from B.mg]
 exact q2
end
theorem Rps.dropLast {Y:Wd} {F:Fr} {ds:List D} {vs:List V} (r:Rps Y F ds vs):Rps Y F ds.dropLast vs.dropLast:=by
 rw [bK,bK,r.length]
 exact r.take _
theorem oS (l:Addr) (items:Array Value) (n:Nat) (b:Addr) (items2:Array Value) (hs0:¬(!items.isEmpty && Builtin.List.listTooLong (items.size+items2.size))=true) (hs1:items.size≤sizeLine) (hs2:items.size+items2.size≤sizeLine+1) :
  Meets (Builtin.«list.extend» ⟨[.ref l,.ref b],[]⟩) (fun _ R s=>s.heap.get? l=some { cls:=.type "list",dict:=none,data:=.seq items n,slots:=#[] }∧IsTup s.heap b items2∧R (.ok (.ret Value.none)) { s with heap:=s.heap.update l (Obj.mapSeq fun x=>x++items2),toks:=s.toks }) :=
 .of_wp fun prog w A R s h=>by
  obtain ⟨hl,⟨o,ho,hc,n2,hd⟩,h⟩:=h
  show wpAny _ _ (Builtin.List.listExtendWith (.ref l) (.ref b) .none) _ _ s
  unfold Builtin.List.listExtendWith
  refine wpAny_bind (wpAny_typeOf (T:="tuple") ⟨o,ho,hc⟩ ?_)
  have ht:(Value.type "tuple" == Value.type "tuple")=true:=by rfl
  rw [ap (by rw [ht]; simp)]
  refine wpAny_bind (listItems_at ho hd ?_)
  refine wpAny_bind (listItems_at (xs:=items) (n:=n) hl rfl ?_)
  rw [av hs0]
  refine wpAny_bind (listUpdate_at (xs:=items) (n:=n) hl rfl ?_ hs1 (by show (items++items2).size≤sizeLine+1; rw [Array.size_append]; exact hs2))
  exact wpAny_pure ⟨_,rfl,h⟩
section
variable {X:Cx}
def sA (K:PySem.W.Frag):V→List V→Hp→VK→Prop:=fun x vs H Q=>∃ l b xs zs,x=.ref l∧vs=[.ref b]∧H l=some (.lst xs)∧(H b=some (.lst zs)∨SqT K H b zs)∧xs.length+zs.length≤sizeLine∧Q .non (upd H l (.lst (xs++zs)))
theorem oU:MtM X "list.extend" (sA X.K):=by
 intro pins s σ H x vs v us Q I rx rv h
 obtain ⟨l,b,xs,zs,rfl,rfl,hH,hB,hz,q⟩:=h
 rcases hB with hB | hB
 ·exact mt_extend pins s σ H _ _ v us Q I rx rv ⟨l,b,xs,zs,rfl,rfl,hH,hB,hz,q⟩
 cases rx
 obtain ⟨u,rfl,ru⟩:=rv.one
 cases ru
 obtain ⟨z,its,n,r,hl,e⟩:=I.lstM hH
 obtain ⟨its2,r2,ht,hz2⟩:=I.tuple hB
 have hl2:=r2.length
 have hsz:its.toArray.size+its2.toArray.size≤sizeLine:=by rw [aO,aO]; omega
 have hlong:¬ (!its.toArray.isEmpty && Builtin.List.listTooLong (its.toArray.size+its2.toArray.size))=true:=by
  rw [notLongL hsz,bT]
  exact aa
 refine call_meets F.slot_list_extend ⟨_,e,rfl⟩ F.entry_list_extend (F.args_list_extend_2 _ _)
  (oS l its.toArray n b its2.toArray hlong (by rw [aO]; omega) (by omega)) ⟨e,ht,?_⟩
 refine ⟨.non,_,I.lset (its':=its++its2) hH e (by simp) (r.append r2) ?_,rfl,q⟩
 rw [ae]
 omega
end
section
variable {C:Cx} {S:Sc} {G:Gn} {W:WX} {e f b tg:Expr} {es:List Expr} {pos apos cpos p:Pos} {x xa xb xc:X} {y:Str} {i:Nat}
theorem oV {m:Str} (hs:bZ e=true):((backTo cpos (starEach [e] C.env)).all (fun x=>!x.1) && (backToKw cpos (keywordEach [] C.env)).all (fun x=>x.1.isSome)
   && decide (([e]:List Expr).length+([]:List Keyword).length+(if ([]:List Keyword).isEmpty then 0 else 1) < 30))=true:=by
 rw [bY hs]
 rfl
theorem gy (B:Gd C S G W) (hN:S.N[i]?=some y) (hv:fV S.sc y=true) (hn:dZ y=true):PE C (.Name y p) (tVar i):=pe_var (by rw [B.N]; exact hN) (B.vis hv) (di hn) (oB hn)

theorem Bn (B:Gd C S G W) (hN:S.N[i]?=some y) (hv:fV S.sc y=true) (hn:dZ y=true) (hs:bZ e=true) (hl:(apos.endLine == cpos.line)=true) (he:PE C e (rd G.gm W x)) :
  PS C (.Expr (.Call (.Attribute (.Name y p) "append" apos) [e] [] cpos) pos) (rS G W (.app i x)):=by
 refine PS.imp (ps_expr (pe_bm PySem.F.plainAttrs_list PySem.F.slot_list_append PySem.F.type_list_append mt_append (gy B hN hv hn) (pa_cons he pa_nil (bY hs)) rfl (oV (m:="append") hs) hl (bY hs) rfl) rfl) ?_
 rintro E σ H ⟨g,l,s,SS,h⟩
 have h:ValS G.gm W g (match l[i]? with
  | some (some ⟨.ow,.lst ds⟩)=>cf (b7 G.fs G.gs x l s) fun d s1=>if ds.length < sizeLine then .ok (.nx (l.set i (some ⟨.ow,.lst (ds++[d])⟩)) s1) else .no
  | _=>.no) (KO G.gm E):=h
 split at h
 ·rename_i ds e0
  obtain ⟨a,vs,h1,h2,h3⟩:=SS.lstO e0
  refine ⟨.ref a,h1,.inl ⟨rfl,vs,.inl (.inl h2)⟩,?_⟩
  refine dj SS h fun d s1 g1 v H1 e1 S1 r1 q1=>?_
  have q1:ValS G.gm W g1 (if ds.length < sizeLine then .ok (.nx (l.set i (some ⟨.ow,.lst (ds++[d])⟩)) s1) else .no) (KO G.gm E):=q1
  split at q1
  ·rename_i hz
   obtain ⟨a',vs',h1',h2',h3'⟩:=S1.lstO e0
   rw [h1] at h1'
   cases h1'
   refine ⟨a,vs',v,rfl,rfl,h2',by rw [← h3'.length]; exact hz,?_⟩
   exact q1 g1 (.refl g1) σ _ (S1.wrO h1 e0 (.lst upd_same (h3'.append #v[r1])))
  ·exact q1.elim
 ·exact h.elim

theorem Bo (B:Gd C S G W) (hN:S.N[i]?=some y) (hv:fV S.sc y=true) (hn:dZ y=true) (hs:bZ e=true) (hl:(apos.endLine == cpos.line)=true) (he:PE C e (rd G.gm W x)) :
  PS C (.Expr (.Call (.Attribute (.Name y p) "extend" apos) [e] [] cpos) pos) (rS G W (.ext i x)):=by
 refine PS.imp (ps_expr (pe_bm PySem.F.plainAttrs_list PySem.F.slot_list_extend PySem.F.type_list_extend oU (gy B hN hv hn) (pa_cons he pa_nil (bY hs)) rfl (oV (m:="extend") hs) hl (bY hs) rfl) rfl) ?_
 rintro E σ H ⟨g,l,s,SS,h⟩
 have h:ValS G.gm W g (match l[i]? with
  | some (some ⟨.ow,.lst ds⟩)=>(b7 G.fs G.gs x l s).bind fun (d,_,s1)=>match d with
   | .lst es=>if ds.length+es.length≤sizeLine then .ok (.nx (l.set i (some ⟨.ow,.lst (ds++es)⟩)) s1) else .no
   | .tup es=>if ds.length+es.length≤sizeLine then .ok (.nx (l.set i (some ⟨.ow,.lst (ds++es)⟩)) s1) else .no
   | _=>.no
  | _=>.no) (KO G.gm E):=h
 split at h
 ·rename_i ds e0
  obtain ⟨a,vs,h1,h2,h3⟩:=SS.lstO e0
  refine ⟨.ref a,h1,.inl ⟨rfl,vs,.inl (.inl h2)⟩,?_⟩
  refine ff SS h fun d t s1 g1 v H1 e1 S1 r1 q1=>?_
  cases d with
  | lst es =>
   have q1:ValS G.gm W g1 (if ds.length+es.length≤sizeLine then .ok (.nx (l.set i (some ⟨.ow,.lst (ds++es)⟩)) s1) else .no) (KO G.gm E):=q1
   split at q1
   ·rename_i hz
    obtain ⟨a',vs',h1',h2',h3'⟩:=S1.lstO e0
    rw [h1] at h1'
    cases h1'
    obtain ⟨b,ws,rfl,hb,rb⟩:=(r1.rd S1).lst S1
    refine ⟨a,b,vs',ws,rfl,rfl,h2',.inl hb,by rw [← h3'.length,← rb.length]; exact hz,?_⟩
    exact q1 g1 (.refl g1) σ _ (S1.wrO h1 e0 (.lst upd_same (h3'.append rb)))
   ·exact q1.elim
  | tup es =>
   have q1:ValS G.gm W g1 (if ds.length+es.length≤sizeLine then .ok (.nx (l.set i (some ⟨.ow,.lst (ds++es)⟩)) s1) else .no) (KO G.gm E):=q1
   split at q1
   ·rename_i hz
    obtain ⟨a',vs',h1',h2',h3'⟩:=S1.lstO e0
    rw [h1] at h1'
    cases h1'
    obtain ⟨b,ws,rfl,_,hb,rb⟩:=(r1.rd S1).tup S1
    refine ⟨a,b,vs',ws,rfl,rfl,h2',.inr (hb.sq),by rw [← h3'.length,← rb.length]; exact hz,?_⟩
    exact q1 g1 (.refl g1) σ _ (S1.wrO h1 e0 (.lst upd_same (h3'.append rb)))
   ·exact q1.elim
  | _=>exact q1.elim
 ·exact h.elim

theorem Bp (B:Gd C S G W) (hN:S.N[i]?=some y) (hv:fV S.sc y=true) (hn:dZ y=true) (hl:(apos.endLine == cpos.line)=true) :
  PS C (.Expr (.Call (.Attribute (.Name y p) "reverse" apos) [] [] cpos) pos) (rS G W (.rvs i)):=by
 refine PS.imp (ps_expr (pe_bm0 PySem.F.plainAttrs_list PySem.F.slot_list_reverse PySem.F.type_list_reverse mt_reverse (gy B hN hv hn) rfl hl) rfl) ?_
 rintro E σ H ⟨g,l,s,SS,h⟩
 have h:ValS G.gm W g (match l[i]? with
  | some (some ⟨.ow,.lst es⟩)=>.ok (.nx (l.set i (some ⟨.ow,.lst es.reverse⟩)) s)
  | _=>.no) (KO G.gm E):=h
 split at h
 ·rename_i ds e0
  obtain ⟨a,vs,h1,h2,h3⟩:=SS.lstO e0
  refine ⟨.ref a,h1,.inl ⟨rfl,vs,.inl (.inl h2)⟩,a,vs,rfl,rfl,h2,?_⟩
  exact h g (.refl g) σ _ (SS.wrO h1 e0 (.lst upd_same h3.rev))
 ·exact h.elim

def oW (G:Gm) (W:WX) (j:Nat) (x:X):TE:=fun σ H Q=>∃ g l s es,SR G.Y g σ H l s∧l[j]?=some (some ⟨.ow,.lst es⟩) ∧
 ValR G W g σ (dv G.fs G.gs x l s) (fun p g1=>∃ d es',f7 es p.1=some (d,es')∧∀ v H1,SR G.Y g1 σ H1 (l.set j (some ⟨.ow,.lst es'⟩)) p.2→Rp G.Y g1.F d v→Q v H1)
def jg (S:Sc) (x:X):List Expr→Bool
 | []=>x.isNil
 | [e]=>!x.isNil && bZ e && cm S x e
 | _=>false
theorem lV (B:Gd C S G W) (hN:S.N[i]?=some y) (hv:fV S.sc y=true) (hn:dZ y=true) (hl:(apos.endLine == cpos.line)=true) (hc:jg S x es=true) :
  PE C (.Call (.Attribute (.Name y p) "pop" apos) es [] cpos) (oW G.gm W i x):=by
 cases es with
 | nil =>
  have hc:x.isNil=true:=hc
  refine PE.imp (pe_bm0 PySem.F.plainAttrs_list PySem.F.slot_list_pop PySem.F.type_list_pop mt_pop (gy B hN hv hn) rfl hl) ?_
  rintro σ H Q ⟨g,l,s,ds,SS,e0,h⟩
  unfold dv at h
  rw [ap hc] at h
  obtain ⟨a,vs,h1,h2,h3⟩:=SS.lstO e0
  obtain ⟨d,es',hp,q⟩:=h g (.refl g)
  have hp:(match ds[ds.length - 1]? with | some d=>some (d,ds.dropLast) | none=>none)=some (d,es'):=hp
  split at hp
  ·rename_i d' ed
   cases hp
   obtain ⟨v,hv,rv⟩:=h3.get ed
   refine ⟨.ref a,h1,.inl ⟨rfl,vs,.inl (.inl h2)⟩,a,vs,v,rfl,rfl,h2,by rw [← h3.length]; exact hv,?_⟩
   exact q v _ (SS.wrO h1 e0 (.lst upd_same h3.dropLast)) rv
  ·cases hp
 | cons e r =>
  cases r with
  | cons _ _=>cases hc
  | nil =>
   have hc:(!x.isNil && bZ e && cm S x e)=true:=hc
   simp only [ab,aw] at hc
   obtain ⟨⟨hx,hs⟩,hk⟩:=hc
   refine PE.imp (pe_bm PySem.F.plainAttrs_list PySem.F.slot_list_pop PySem.F.type_list_pop mt_popAt (gy B hN hv hn) (pa_cons ((cO x).E B e hk).1 pa_nil (bY hs)) rfl (oV (m:="pop") hs) hl (bY hs) rfl) ?_
   rintro σ H Q ⟨g,l,s,ds,SS,e0,h⟩
   unfold dv at h
   rw [av (by rw [hx]; decide)] at h
   obtain ⟨a,vs,h1,h2,h3⟩:=SS.lstO e0
   refine ⟨.ref a,h1,.inl ⟨rfl,vs,.inl (.inl h2)⟩,?_⟩
   refine cS SS h fun d t s1 g1 v H1 e1 S1 r1 q1=>?_
   cases d with
   | int k =>
    obtain ⟨d,es',hp,q⟩:=q1 g1 (.refl g1)
    have hp:(if -(2 ^ 63)≤k∧k < 2 ^ 63 then match seqIndex? k ds.length with
     | some k=>match ds[k]? with
      | some d=>some (d,ds.eraseIdx k)
      | none=>none
     | none=>none
     else none)=some (d,es'):=hp
    split at hp
    ·rename_i hk2
     split at hp
     ·rename_i j ej
      split at hp
      ·rename_i d' ed
       cases hp
       obtain ⟨a',vs',h1',h2',h3'⟩:=S1.lstO e0
       rw [h1] at h1'
       cases h1'
       obtain ⟨w,hw,rw'⟩:=h3'.get ed
       refine ⟨a,vs',k,j,w,rfl,by rw [(r1.rd S1).int],h2',hk2.1,hk2.2,by rw [← h3'.length]; exact ej,hw,?_⟩
       exact q w _ (S1.wrO h1 e0 (.lst upd_same (h3'.erase j))) rw'
      ·cases hp
     ·cases hp
    ·cases hp
   | _=>exact q1.elim

theorem iB {α:Type} {g:Gh} {σ:L2.St} {H:Hp} {l:Lc} {s:cj} {K:α→Gh→Prop} {ds:List D} {k:D→List D→cj→R α} (SS:SR G.Y g σ H l s) (e0:l[i]?=some (some ⟨.ow,.lst ds⟩)) (h:ValS G.gm W g ((dv G.fs G.gs x l s).bind fun (p,s1)=>match f7 ds p with
   | some (d,es')=>k d es' s1
   | none=>.no) K) {Q2:VK} (hk:∀ d es' s1 g1 v H1,Ext g g1→SR G.Y g1 σ H1 (l.set i (some ⟨.ow,.lst es'⟩)) s1→Rp G.Y g1.F d v→ValS G.gm W g1 (k d es' s1) K→Q2 v H1):oW G.gm W i x σ H Q2:=by
 refine ⟨g,l,s,ds,SS,e0,?_⟩
 show ValR G.gm W g σ (dv G.fs G.gs x l s) _
 cases e:dv G.fs G.gs x l s with
 | ok p =>
  obtain ⟨p,s1⟩:=p
  rw [e] at h
  have h:ValS G.gm W g (match f7 ds p with
   | some (d,es')=>k d es' s1
   | none=>.no) K:=h
  intro g1 e1
  cases ep:f7 ds p with
  | none=>rw [ep] at h; exact h.elim
  | some q =>
   obtain ⟨d,es'⟩:=q
   rw [ep] at h
   exact ⟨d,es',rfl,fun v H1 S1 r1=>hk d es' s1 g1 v H1 e1 S1 r1 (ValS.ext e1 h)⟩
 | er a b c =>
  rw [e] at h
  exact fun g1 H1 c dd e1 S1=>h g1 σ H1 c dd e1 S1
 | no =>
  rw [e] at h
  exact h
theorem yw (he:PE C e (oW G.gm W i x)) (hn:gX e=true):PS C (.Expr e pos) (rS G W (.popX i x)):=by
 refine PS.imp (ps_expr he (gj hn)) ?_
 rintro E σ H ⟨g,l,s,SS,h⟩
 have h:ValS G.gm W g (match l[i]? with
  | some (some ⟨.ow,.lst es⟩)=>(dv G.fs G.gs x l s).bind fun (p,s1)=>match f7 es p with
   | some (_,es')=>.ok (.nx (l.set i (some ⟨.ow,.lst es'⟩)) s1)
   | none=>.no
  | _=>.no) (KO G.gm E):=h
 split at h
 ·rename_i ds e0
  exact iB (k:=fun _ es' s1=>R.ok (Out.nx (l.set i (some ⟨.ow,.lst es'⟩)) s1)) SS e0 h fun d es' s1 g1 v H1 e1 S1 r1 q=>q g1 (.refl g1) σ H1 S1
 ·exact h.elim
theorem yx {j:Nat} {tp:Pos} {z:Str} (he:PE C e (oW G.gm W i x)) (h0:PS C (.Assign [.Name z tp] e pos) (tAsg (oW G.gm W i x) (gName j))):PS C (.Assign [.Name z tp] e pos) (rS G W (.popT (.n j) i x)):=by
 refine PS.imp h0 ?_
 rintro E σ H ⟨g,l,s,SS,h⟩
 have h:ValS G.gm W g (match l[i]? with
  | some (some ⟨.ow,.lst es⟩)=>(dv G.fs G.gs x l s).bind fun (p,s1)=>match f7 es p with
   | some (d,es')=>.ok (.nx ((l.set i (some ⟨.ow,.lst es'⟩)).set j (some ⟨.fr,d⟩)) s1)
   | none=>.no
  | _=>.no) (KO G.gm E):=h
 split at h
 ·rename_i ds e0
  exact iB (k:=fun d es' s1=>R.ok (Out.nx ((l.set i (some ⟨.ow,.lst es'⟩)).set j (some ⟨.fr,d⟩)) s1)) SS e0 h fun d es' s1 g1 v H1 e1 S1 r1 q=>q g1 (.refl g1) _ H1 (S1.set j r1)
 ·exact h.elim
theorem yy {t:T} {ts:List Expr} {k:Nat} {tp:Pos} (he:PE C e (oW G.gm W i x)) (hg:PG C (.Tuple ts k tp) (gT G.gm t)) (hn:jO e=true):PS C (.Assign [.Tuple ts k tp] e pos) (rS G W (.popT t i x)):=by
 refine PS.imp (ps_asg he hg (show swapsWith e (some (.Tuple ts k tp)) pos.line C.env=pure false from jf (fun y p q=>by cases q)) (kL hn)) ?_
 rintro E σ H ⟨g,l,s,SS,h⟩
 have h:ValS G.gm W g (match l[i]? with
  | some (some ⟨.ow,.lst es⟩)=>(dv G.fs G.gs x l s).bind fun (p,s1)=>match f7 es p with
   | some (d,es')=>match T.put t d (l.set i (some ⟨.ow,.lst es'⟩)) with | some l1=>.ok (.nx l1 s1) | none=>.no
   | none=>.no
  | _=>.no) (KO G.gm E):=h
 split at h
 ·rename_i ds e0
  refine iB (k:=fun d es' s1=>match T.put t d (l.set i (some ⟨.ow,.lst es'⟩)) with | some l1=>R.ok (Out.nx l1 s1) | none=>.no) SS e0 h fun d es' s1 g1 v H1 e1 S1 r1 q=>?_
  cases ep:T.put t d (l.set i (some ⟨.ow,.lst es'⟩)) with
  | none=>simp only [ep] at q; exact q.elim
  | some l1 =>
   simp only [ep] at q
   exact ⟨g1,_,s1,d,l1,S1,r1,ep,fun σ' _ _ S'=>q g1 (.refl g1) σ' H1 S'⟩
 ·exact h.elim
theorem sC (B:Gd C S G W) {j:Nat} (hN:S.N[i]?=some y) (hv:fV S.sc y=true) (hn:dZ y=true) (hs:bZ e=true) (hl:(apos.endLine == cpos.line)=true) (he:PE C e (oW G.gm W j x)) :
  PS C (.Expr (.Call (.Attribute (.Name y p) "append" apos) [e] [] cpos) pos) (rS G W (.appPop i j x)):=by
 refine PS.imp (ps_expr (pe_bm PySem.F.plainAttrs_list PySem.F.slot_list_append PySem.F.type_list_append mt_append (gy B hN hv hn) (pa_cons he pa_nil (bY hs)) rfl (oV (m:="append") hs) hl (bY hs) rfl) rfl) ?_
 rintro E σ H ⟨g,l,s,SS,h⟩
 have h:ValS G.gm W g (match l[i]?,l[j]? with
  | some (some ⟨.ow,.lst ds⟩),some (some ⟨.ow,.lst es⟩)=>if i=j then .no else (dv G.fs G.gs x l s).bind fun (p,s1)=>match f7 es p with
   | some (d,es')=>if ds.length < sizeLine then .ok (.nx ((l.set j (some ⟨.ow,.lst es'⟩)).set i (some ⟨.ow,.lst (ds++[d])⟩)) s1) else .no
   | none=>.no
  | _,_=>.no) (KO G.gm E):=h
 split at h
 ·rename_i ds es e0 e0'
  split at h
  ·exact h.elim
  rename_i hij
  obtain ⟨a,vs,h1,h2,h3⟩:=SS.lstO e0
  refine ⟨.ref a,h1,.inl ⟨rfl,vs,.inl (.inl h2)⟩,?_⟩
  refine iB (k:=fun d es' s1=>if ds.length < sizeLine then R.ok (Out.nx ((l.set j (some ⟨.ow,.lst es'⟩)).set i (some ⟨.ow,.lst (ds++[d])⟩)) s1) else .no) SS e0' h fun d es' s1 g1 v H1 e1 S1 r1 q=>?_
  have q:ValS G.gm W g1 (if ds.length < sizeLine then R.ok (Out.nx ((l.set j (some ⟨.ow,.lst es'⟩)).set i (some ⟨.ow,.lst (ds++[d])⟩)) s1) else .no) (KO G.gm E):=q
  split at q
  ·rename_i hz
   have e2:(l.set j (some ⟨.ow,.lst es'⟩))[i]?=some (some ⟨.ow,.lst ds⟩):=by rw [ay (Ne.symm hij)]; exact e0
   obtain ⟨a',vs',h1',h2',h3'⟩:=S1.lstO e2
   rw [h1] at h1'
   cases h1'
   refine ⟨a,vs',v,rfl,rfl,h2',by rw [← h3'.length]; exact hz,?_⟩
   exact q g1 (.refl g1) σ _ (S1.wrO h1 e2 (.lst upd_same (h3'.append #v[r1])))
  ·exact q.elim
 ·exact h.elim


def Bq (C:Cx):TSet:=fun o i v H Q=>rSetL o i v H Q∨(∃ a H',o=.ref a∧DPut H a i v H'∧Q H') ∨
 ∃ (Y:Wd) (F:Fr) (a b:Addr) (ob:Obj) (xs:List (NestedKey × Addr × Value)) (ps:List (D × D)) (k:D) (q:NestedKey),o=.ref a∧i=.ref b∧(Y.P=C.prog∧Y.w=C.w)∧H a=some (kh a ob)∧DtO Y a ob xs∧Rpt Y F ps xs∧Same F.h H∧qn Y F k q b∧xs.length < sizeLine ∧
  ∀ r ob',RelV v r→DtO Y a ob' (storedH xs q b r)→Q (upd H a (kh a ob'))
theorem jh (hu:C.A.units+64 < cLine):PSet C (Bq C):=by
 intro pins s σ H o i v ov iv u Q I ro ri rv h
 rcases h with h | ⟨a,H',rfl,g,q⟩ | ⟨Y,F,a,b,ob,xs,ps,k,n,rfl,rfl,hY,hH,w,rp,hF,kt,hz,q⟩
 ·exact set_list pins s σ H o i v ov iv u Q I ro ri rv h
 ·cases ro
  exact d_setItem (by omega) I g ri rv fun s' I'=>⟨H',I',q⟩
 ·cases ro
  cases ri
  exact oy hu hY I hH w rp hF kt rv hz fun ob' s' w' I'=>⟨_,I',q u ob' rv w'⟩
theorem ji {o i:Expr} {to ti:TE} {t:TSet} (ho:PE C o to) (hi:PE C i ti) (hs:PSet C t) (hn:cM i=true):PG C (.Subscript o i pos) (gSub to ti t) :=
 pg_sub ho hi hs (by intro v; cases i <;> first | rfl | cases hn)
theorem Rpk.len {Y:Wd} {F:Fr}:∀ {ps:List (D × D)} {kvs:List (L2.Key × V)},Rpk Y F ps kvs→ps.length=kvs.length
 | _,_,.nil=>rfl
 | _,_,.cons _ _ r=>by rw [aB,aB,Rpk.len r]
theorem Rpt.len {Y:Wd} {F:Fr}:∀ {ps:List (D × D)} {xs:List (NestedKey × Addr × Value)},Rpt Y F ps xs→ps.length=xs.length
 | _,_,.nil=>rfl
 | _,_,.cons _ _ _ _ _ r=>by rw [aB,aB,Rpt.len r]

theorem lW (B:Gd C S G W) {E:Ends} {σ:L2.St} {H1:Hp} {l:Lc} {s1:cj} {g1:Gh} {d:D} {v:V} (S1:SR G.Y g1 σ H1 l s1) (r1:Rp G.Y g1.F d v) (h1:ValS G.gm W g1 (match l[i]? with
  | some (some ⟨.ow,c⟩)=>cf (b7 G.fs G.gs xa l s1) fun x s2=>match jZ c x d with
   | some c'=>.ok (.nx (l.set i (some ⟨.ow,c'⟩)) s2)
   | none=>.no
  | _=>.no) (KO G.gm E)) {Qn:L2.St→Hp→Prop} (hQ:∀ σ H,E.nx σ H→Qn σ H):gSub (tVar i) (rd G.gm W xa) (Bq C) v σ H1 Qn:=by
 split at h1
 ·rename_i c e0
  obtain ⟨vo,q1,q2,q3⟩:=S1.sl i _ e0
  obtain ⟨a,rfl,_⟩:=q2.isRef
  refine ⟨.ref a,q1,?_⟩
  refine dj S1 h1 fun dk s2 g2 vk H2 e2 S2 r2 h2=>?_
  have h2:ValS G.gm W g2 (match jZ c dk d with
   | some c'=>.ok (.nx (l.set i (some ⟨.ow,c'⟩)) s2)
   | none=>.no) (KO G.gm E):=h2
  obtain ⟨tp,hno⟩:=S2.own q1 e0
  cases tp with
  | @lst _ vs ds hh r =>
   cases dk with
   | int k =>
    have h2:ValS G.gm W g2 (match (match ixN ds.length k with | some j=>some (D.lst (ds.set j d)) | none=>none) with
     | some c'=>.ok (.nx (l.set i (some ⟨.ow,c'⟩)) s2)
     | none=>.no) (KO G.gm E):=h2
    cases ej:ixN ds.length k with
    | none=>rw [ej] at h2; exact h2.elim
    | some j =>
     rw [ej] at h2
     cases r2
     refine .inl ⟨a,vs,k,j,rfl,rfl,hh,by rw [← r.length]; exact ej,?_⟩
     exact hQ _ _ (h2 g2 (.refl g2) σ _ (S2.wrO q1 e0 (.lst upd_same (r.set j (r1.mono e2.f)))))
   | _=>exact h2.elim
  | @dk _ kvs ps hh r =>
   have h2:ValS G.gm W g2 (match (if D.isKey false dk=true∧ps.length < sizeLine then some (D.dic false (D.put ps dk d)) else none) with
     | some c'=>.ok (.nx (l.set i (some ⟨.ow,c'⟩)) s2)
     | none=>.no) (KO G.gm E):=h2
   by_cases hc:D.isKey false dk=true∧ps.length < sizeLine
   ·rw [ap hc] at h2
    obtain ⟨q,hq⟩:=dR hc.1
    obtain rfl:=gr hq r2
    refine .inr (.inl ⟨a,_,rfl,DPut.k hh (by rw [← r.len]; exact hc.2),?_⟩)
    exact hQ _ _ (h2 g2 (.refl g2) σ _ (S2.wrO q1 e0 (.dk upd_same (Rpk.put hq (r1.mono e2.f) r))))
   ·rw [av hc] at h2
    exact h2.elim
  | @dt _ ob xs ps hh w r =>
   have h2:ValS G.gm W g2 (match (if D.isKey true dk=true∧ps.length < sizeLine then some (D.dic true (D.put ps dk d)) else none) with
     | some c'=>.ok (.nx (l.set i (some ⟨.ow,c'⟩)) s2)
     | none=>.no) (KO G.gm E):=h2
   by_cases hc:D.isKey true dk=true∧ps.length < sizeLine
   ·rw [ap hc] at h2
    obtain ⟨q,hq,hz,zs,rfl⟩:=fT hc.1
    cases r2 with
    | tup hb hr =>
     rename_i b vs
     refine .inr (.inr ⟨G.Y,g2.F,a,b,ob,xs,ps,_,q,rfl,rfl,B.hY,hh,w,r,S2.sF,⟨hq,hz,.tup hb hr⟩,by rw [← r.len]; exact hc.2,fun u ob' ru w'=>?_⟩)
     exact hQ _ _ (h2 g2 (.refl g2) σ _ (S2.wrO q1 e0 (.dt upd_same w' (Rpt.put hq hz (.tup hb hr) (r1.mono e2.f) ru r))))
   ·rw [av hc] at h2
    exact h2.elim
 ·exact h1.elim

theorem Br (B:Gd C S G W) (hN:S.N[i]?=some y) (hv:fV S.sc y=true) (hn:dZ y=true) (hs:cM f=true) (hk:PE C f (rd G.gm W xa)) (he:PE C e (rd G.gm W xb)) (hlc:gX e=true) :
  PS C (.Assign [.Subscript (.Name y p) f apos] e pos) (rS G W (.sub i xa xb)):=by
 refine PS.imp (ps_asg he (ji (gy B hN hv hn) hk (jh B.hu) hs) (show swapsWith e (some (.Subscript (.Name y p) f apos)) pos.line C.env=pure false from gj hlc) pR) ?_
 rintro E σ H ⟨g,l,s,SS,h⟩
 refine dj SS (show ValS G.gm W g (cf (b7 G.fs G.gs xb l s) _) (KO G.gm E) from h) fun d s1 g1 v H1 e1 S1 r1 h1=>?_
 exact lW B S1 r1 h1 fun _ _ q=>q

theorem yz (B:Gd C S G W) (hh:S.hot=false) {i j:Nat} {y z:Str} {p q p2 p3:Pos} {kc:Nat} (hy0:S.N[i]?=some y) (hx0:kq S.sc y=true) (hf0:(S.top || fW S.sc y)=true) (hN:S.N[j]?=some z) (hv:fV S.sc z=true) (hn:dZ z=true) (hs:cM f=true) (hk:PE C f (rd G.gm W xa)) (he:PE C e (rd G.gm W xb)) (ht:jO e=true) :
  PS C (.Assign [.Tuple [.Name y p,.Subscript (.Name z q) f p2] kc p3] e pos) (rS G W (.setS i j xa xb)):=by
 have hCN:C.N.Nodup:=by rw [B.N]; exact B.nd
 have hf:C.fn y=true∨C.env.scope.names.lookup y=some .local:=by
  rw [bC] at hf0
  rcases hf0 with h | h
  ·exact .inl ((B.top h).1 y)
  ·rw [B.sc]; exact .inr (fe h)
 have g1:PG C (.Name y p) (gName i):=pg_name hCN (by rw [B.N]; exact hy0) (by rw [B.sc]; exact hW hx0) hf
 have g2:=pgs_cons g1 (pgs_cons (ji (pos:=p2) (gy (p:=q) B hN hv hn) hk (jh B.hu) hs) pgs_nil)
 refine PS.imp (ps_asg he (pg_tup (n:=2) (B.calm hh) g2) (show swapsWith e (some (.Tuple [.Name y p,.Subscript (.Name z q) f p2] kc p3)) pos.line C.env=pure false from jf (fun y p q=>by cases q)) (kL ht)) ?_
 rintro E σ H ⟨g,l,s,SS,h⟩
 refine dj SS (show ValS G.gm W g (cf (b7 G.fs G.gs xb l s) _) (KO G.gm E) from h) fun d s1 g1 v H1 e1 S1 r1 h1=>?_
 have h1:ValS G.gm W g1 (match d with
  | .tup [a,y]=>match (l.set i (some ⟨.fr,a⟩))[j]? with
   | some (some ⟨.ow,c⟩)=>cf (b7 G.fs G.gs xa (l.set i (some ⟨.fr,a⟩)) s1) fun x s2=>match jZ c x y with
    | some c'=>.ok (.nx ((l.set i (some ⟨.fr,a⟩)).set j (some ⟨.ow,c'⟩)) s2)
    | none=>.no
   | _=>.no
  | _=>.no) (KO G.gm E):=h1
 split at h1
 ·rename_i da db
  cases r1 with
  | tup hf2 rs =>
   cases rs with
   | cons ra rs =>
    cases rs with
    | cons rb rs =>
     cases rs
     refine ⟨_,_,rfl,(hf2.mono S1.sF).sq,rfl,_,_,rfl,?_⟩
     refine ⟨_,_,rfl,?_⟩
     exact lW B (S1.set i ra) rb h1 fun _ _ q=>⟨rfl,q⟩
 ·exact h1.elim
end
theorem jP (f g:Str) (v:D):∀ fs:List (Str × D),(lU f v fs).lookup g=if g=f then some v else fs.lookup g
 | []=>by
  show List.lookup g [(f,v)]=_
  by_cases h:g=f
  ·have e:(g == f)=true:=bS.mpr h
   simp only [List.lookup,e,ap h]
  ·have e:(g == f)=false:=bp.mpr h
   simp only [List.lookup,e,av h]
 | (k,x) :: r=>by
  have ih:=jP f g v r
  unfold lU
  by_cases hk:k=f
  ·rw [ap hk]
   by_cases h:g=k
   ·have e:(g == k)=true:=bS.mpr h
    simp only [List.lookup,e,ap (h.trans hk)]
   ·have e:(g == k)=false:=bp.mpr h
    simp only [List.lookup,e,av (fun q:g=f=>h (q.trans hk.symm))]
  ·rw [av hk]
   by_cases h:g=k
   ·have e:(g == k)=true:=bS.mpr h
    simp only [List.lookup,e,av (fun q:g=f=>hk (h.symm.trans q))]
   ·have e:(g == k)=false:=bp.mpr h
    simp only [List.lookup,e]
    exact ih
theorem lq {f:Str} {d:D} {v:V}:∀ {fs:List (Str × D)} {fv:List (Str × V)},fv.map (·.1)=fs.map (·.1)→(putF f v fv).map (·.1)=(lU f d fs).map (·.1)
 | [],[],_=>rfl
 | [],_ :: _,h=>by cases h
 | _ :: _,[],h=>by cases h
 | (g,x) :: r,(g',x') :: r',h=>by
  obtain ⟨h1,h2⟩:=bG h
  obtain rfl:g'=g:=h1
  unfold putF lU
  by_cases e:g'=f
  ·rw [ap e,ap e]
   exact bj (g' :: ·) h2
  ·rw [av e,av e]
   exact bj (g' :: ·) (lq h2)
theorem FldR.put {Y:Wd} {F:Fr} {fs:List (Str × D)} {fv:List (Str × V)} {f:Str} {d:D} {v:V} (h:FldR Y F fs fv) (r:Rp Y F d v):FldR Y F (lU f d fs) (putF f v fv):=fun g=>by
 rw [jP,lookup_putF]
 by_cases e:g=f
 ·rw [ap e,ap e]
  exact ⟨v,rfl,r⟩
 ·rw [av e,av e]
  exact h g
section
variable {C:Cx} {S:Sc} {G:Gn} {W:WX} {e f b o:Expr} {es:List Expr} {pos apos cpos p2:Pos} {xa xb xc:X}

theorem yA (B:Gd C S G W) {c nm:Str} (hf:(c,nm)∈S.fl) (ho:PE C o (rd G.gm W xa)) (he:PE C e (rd G.gm W xb)) (hlc:gX e=true):PS C (.Assign [.Attribute o nm p2] e pos) (rS G W (.fset c nm xa xb)):=by
 refine PS.imp (ps_fld ho he (gj hlc)) ?_
 rintro E σ H ⟨g,l,s,SS,h⟩
 refine dj SS (show ValS G.gm W g (cf (b7 G.fs G.gs xb l s) _) (KO G.gm E) from h) fun d s1 g1 v H1 e1 S1 r1 h1=>?_
 refine ff S1 (show ValS G.gm W g1 ((b7 G.fs G.gs xa l s1).bind _) (KO G.gm E) from h1) fun z t s2 g2 vo H2 e2 S2 ro h2=>?_
 cases z with
 | loc n =>
  have h2:ValS G.gm W g2 (match oh s2 c (.loc n) with
   | some fv=>if fv.length < 900 then .ok (.nx l (s2.set n (.ins c (lU nm d fv)))) else .no
   | none=>.no) (KO G.gm E):=h2
  cases ec:oh s2 c (.loc n) with
  | none=>rw [ec] at h2; exact h2.elim
  | some fs =>
   rw [ec] at h2
   have h2:ValS G.gm W g2 (if fs.length < 900 then .ok (.nx l (s2.set n (.ins c (lU nm d fs)))) else .no) (KO G.gm E):=h2
   obtain ⟨n',a,dx,fv,en,hn,rfl,k,hh,hz,hr⟩:=S2.ci (ro.rd S2) ec
   cases en
   split at h2
   ·rename_i hl
    obtain ⟨k1,k2⟩:=B.fl c nm hf
    have hlen:fv.length=fs.length:=by
     have:=bj List.length hz
     rwa [ac,ac] at this
    rw [← B.hK] at k1 k2
    rw [← B.hK]
    refine ⟨a,_,dx,fv,rfl,hh,k1,k2,by omega,?_⟩
    exact h2 g2 (.refl g2) σ _ (S2.cwr k (au.mp hn).1 (.ins k upd_same (lq hz) (hr.put (r1.mono e2.f))))
   ·exact h2.elim
 | _=>exact h2.elim

theorem yB (hs:bZ e=true) (hl:(apos.endLine == cpos.line)=true) (hn:cD o=true) (ho:PE C o (rd G.gm W xa)) (he:PE C e (rd G.gm W xb)) :
  PS C (.Expr (.Call (.Attribute o "append" apos) [e] [] cpos) pos) (rS G W (.capp xa xb)):=by
 refine PS.imp (ps_expr (pe_bm PySem.F.plainAttrs_list PySem.F.slot_list_append PySem.F.type_list_append mt_append ho (pa_cons he pa_nil (bY hs)) (dS hn) (oV (m:="append") hs) hl (bY hs) rfl) rfl) ?_
 rintro E σ H ⟨g,l,s,SS,h⟩
 refine ff SS (show ValS G.gm W g ((b7 G.fs G.gs xa l s).bind _) (KO G.gm E) from h) fun z t s1 g1 vo H1 e1 S1 ro h1=>?_
 cases z with
 | loc n =>
  have h1:ValS G.gm W g1 (match s1[n]? with
   | some (.obj (.lst _))=>cf (b7 G.fs G.gs xb l s1) fun d s2=>match s2[n]? with
    | some (.obj (.lst ds))=>if ds.length < sizeLine then .ok (.nx l (s2.set n (.obj (.lst (ds++[d]))))) else .no
    | _=>.no
   | _=>.no) (KO G.gm E):=h1
  split at h1
  ·rename_i es ec
   obtain ⟨a,rfl,k,tp⟩:=S1.ce (ro.rd S1) ec
   cases tp with
   | lst hh r =>
    refine ⟨.inl ⟨rfl,_,.inl (.inl hh)⟩,?_⟩
    refine dj S1 h1 fun d s2 g2 v H2 e2 S2 r2 h2=>?_
    have h2:ValS G.gm W g2 (match s2[n]? with
     | some (.obj (.lst ds))=>if ds.length < sizeLine then .ok (.nx l (s2.set n (.obj (.lst (ds++[d]))))) else .no
     | _=>.no) (KO G.gm E):=h2
    split at h2
    ·rename_i ds ec2
     obtain ⟨a',ea,k',tp'⟩:=S2.ce (.inl (.loc (e2.f.m _ _ k.m))) ec2
     cases ea
     split at h2
     ·rename_i hz
      cases tp' with
      | lst hh' r' =>
       refine ⟨a,_,v,rfl,rfl,hh',by rw [← r'.length]; exact hz,?_⟩
       exact h2 g2 (.refl g2) σ _ (S2.cwr k' (au.mp ec2).1 (.obj k' (.lst upd_same (r'.append #v[r2]))))
     ·exact h2.elim
    ·exact h2.elim
  ·exact h1.elim
 | _=>exact h1.elim

theorem yC (B:Gd C S G W) {i:Nat} {y:Str} {p q cpos2 apos2:Pos} {ke:Expr} (hN:S.N[i]?=some y) (hv:fV S.sc y=true) (hn:dZ y=true) (hs1:bZ ke=true) (hs:bZ e=true) (hl1:(apos.endLine == cpos.line)=true) (hl2:(apos2.endLine == cpos2.line)=true)
  (hk:PE C ke (rd G.gm W xa)) (hem:PE C (.List [] q) (rd G.gm W (.lst .nil))) (he:PE C e (rd G.gm W xb)) :
  PS C (.Expr (.Call (.Attribute (.Call (.Attribute (.Name y p) "setdefault" apos) [ke,.List [] q] [] cpos) "append" apos2) [e] [] cpos2) pos) (rS G W (.sdap i xa xb)):=by
 refine PS.imp (ps_expr (pe_bm PySem.F.plainAttrs_list PySem.F.slot_list_append PySem.F.type_list_append mt_append (pe_dsetd (gy B hN hv hn) hk hem (wn (fun _=>rfl) hs1 rfl hl1)) (pa_cons he pa_nil (bY hs)) rfl (oV (m:="append") hs) hl2 (bY hs) rfl) rfl) ?_
 rintro E σ H ⟨g,l,s,SS,h⟩
 have h:ValS G.gm W g (match l[i]? with
  | some (some ⟨.ow,.dic false kvs⟩)=>cf (b7 G.fs G.gs xa l s) fun y s1=>if (D.keyOf y).isSome=true∧kvs.length < sizeLine∧s1≠[] then match D.look kvs y with
    | some (.loc n)=>yn G.fs G.gs n xb l s1
    | some _=>.no
    | none=>yn G.fs G.gs s1.length xb (l.set i (some ⟨.ow,.dic false (D.put kvs y (.loc s1.length))⟩)) (s1++[.obj (.lst [])])
   else .no
  | _=>.no) (KO G.gm E):=h
 have fin:∀ {g1:Gh} {H1:Hp} {l1:Lc} {s1:cj} {n:Nat} {v:V},SR G.Y g1 σ H1 l1 s1→Rp G.Y g1.F (.loc n) v→ValS G.gm W g1 (yn G.fs G.gs n xb l1 s1) (KO G.gm E)→tyV C.K "list" v H1∧tCons (rd G.gm W xb) tNil σ H1 fun xs H2=>rAppend v xs H2 fun _ H'=>E.nx σ H':=by
  intro g1 H1 l1 s1 n v S1 r1 h1
  have h1:ValS G.gm W g1 (match s1[n]? with
   | some (.obj (.lst _))=>cf (b7 G.fs G.gs xb l1 s1) fun d s2=>match s2[n]? with
    | some (.obj (.lst ds))=>if ds.length < sizeLine then .ok (.nx l1 (s2.set n (.obj (.lst (ds++[d]))))) else .no
    | _=>.no
   | _=>.no) (KO G.gm E):=h1
  split at h1
  ·rename_i es ec
   obtain ⟨a,rfl,k,tp⟩:=S1.ce (.inl r1) ec
   cases tp with
   | lst hh r =>
    refine ⟨.inl ⟨rfl,_,.inl (.inl hh)⟩,?_⟩
    refine dj S1 h1 fun d s2 g2 v H2 e2 S2 r2 h2=>?_
    have h2:ValS G.gm W g2 (match s2[n]? with
     | some (.obj (.lst ds))=>if ds.length < sizeLine then .ok (.nx l1 (s2.set n (.obj (.lst (ds++[d]))))) else .no
     | _=>.no) (KO G.gm E):=h2
    split at h2
    ·rename_i ds ec2
     obtain ⟨a',ea,k',tp'⟩:=S2.ce (.inl (.loc (e2.f.m _ _ k.m))) ec2
     cases ea
     split at h2
     ·rename_i hz
      cases tp' with
      | lst hh' r' =>
       refine ⟨a,_,v,rfl,rfl,hh',by rw [← r'.length]; exact hz,?_⟩
       exact h2 g2 (.refl g2) σ _ (S2.cwr k' (au.mp ec2).1 (.obj k' (.lst upd_same (r'.append #v[r2]))))
     ·exact h2.elim
    ·exact h2.elim
  ·exact h1.elim
 split at h
 ·rename_i kvs e0
  obtain ⟨vo,q1,tp0,hno0⟩:=SS.sl i _ e0
  obtain ⟨a,rfl,_⟩:=tp0.isRef
  refine ⟨.ref a,q1,a,rfl,?_,?_⟩
  ·cases tp0 with
   | dk hh r=>exact .inl ⟨_,.inl hh⟩
  refine dj SS h fun dk s1 g1 vk H1 e1 S1 r1 h1=>?_
  have h1:ValS G.gm W g1 (if (D.keyOf dk).isSome=true∧kvs.length < sizeLine∧s1≠[] then match D.look kvs dk with
    | some (.loc n)=>yn G.fs G.gs n xb l s1
    | some _=>.no
    | none=>yn G.fs G.gs s1.length xb (l.set i (some ⟨.ow,.dic false (D.put kvs dk (.loc s1.length))⟩)) (s1++[.obj (.lst [])])
   else .no) (KO G.gm E):=h1
  by_cases hc:(D.keyOf dk).isSome=true∧kvs.length < sizeLine∧s1≠[]
  ·rw [ap hc] at h1
   obtain ⟨hc1,hc2,hc3⟩:=hc
   obtain ⟨qk,hq⟩:=a0.mp hc1
   obtain rfl:=gr hq r1
   refine ⟨g1,l,s1,S1,?_⟩
   have ev:b7 G.fs G.gs (.lst .nil) l s1=dY (.lst []) s1:=by simp [b7,ju,R.bind]
   show ValE G.gm W g1 σ l (b7 G.fs G.gs (.lst .nil) l s1) _
   rw [ev]
   intro g2 z H2 e2 S2 v2
   have v2:VN G.Y g2 σ H2 l (.lst []) z:=v2
   obtain ⟨tp,hno⟩:=S2.own q1 e0
   cases tp with
   | dk hh r =>
    refine ⟨_,qk,hh,rfl,by rw [← r.len]; exact hc2,fun v hv=>?_,fun hv=>?_⟩
    ·rcases Rpk.look hq r with ⟨e3,e4⟩ | ⟨d0,v0,e3,e4,r0⟩
     ·rw [e4] at hv; cases hv
     ·rw [e4] at hv
      cases hv
      rw [e3] at h1
      cases d0 with
      | loc n=>exact fin S2 r0 (ValS.ext e2 h1)
      | _=>exact h1.elim
    ·rcases Rpk.look hq r with ⟨e3,e4⟩ | ⟨d0,v0,e3,e4,r0⟩
     ·rw [e3] at h1
      obtain ⟨g3,e5,S3,r3⟩:=S2.cell hc3 v2
      have S4:=S3.wrO q1 e0 (TpW.dk upd_same (Rpk.put hq r3 (r.mono e5.f)))
      exact fin S4 r3 (ValS.ext (e2.trans e5) h1)
     ·rw [e4] at hv; cases hv
  ·rw [av hc] at h1
   exact h1.elim
 ·exact h.elim

def jQ (kvs more:List (L2.Key × V)):List (L2.Key × V):=more.foldl (fun acc p=>putK acc p.1 p.2) kvs
def DO:V→List V→Hp→VK→Prop:=fun x vs H Q=>∃ (d o:Addr) (kvs more:List (L2.Key × V)),x=.ref d∧vs=[.ref o]∧d≠o∧H d=some (.dK kvs)∧H o=some (.dK more)∧kvs.length+more.length≤sizeLine∧Q .non (upd H d (.dK (jQ kvs more)))
theorem lr:∀ {more kvs:List (L2.Key × V)},(jQ kvs more).length≤kvs.length+more.length
 | [],_=>aA _
 | p :: r,kvs=>by
  have h1:=lr (more:=r) (kvs:=putK kvs p.1 p.2)
  have h2:=length_putK kvs p.1 p.2
  have e:jQ kvs (p :: r)=jQ (putK kvs p.1 p.2) r:=rfl
  rw [e,aB]
  omega
theorem ni:∀ {more:List (L2.Key × V)} {ms:List (L2.Key × Value)} {kvs:List (L2.Key × V)} {vs:List (L2.Key × Value)},KV more ms→KV kvs vs→KV (jQ kvs more) (merged vs ms)
 | _,_,_,_,.nil,r=>r
 | _,_,kvs,vs,.cons (a:=x) (b:=y) (l₁:=l1) (l₂:=l2) h t,r=>by
  obtain ⟨h1,h2⟩:=h
  have q:=r.put x.1 h2
  have q2:=ni t q
  have e1:jQ kvs (x :: l1)=jQ (putK kvs x.1 x.2) l1:=rfl
  have e2:merged vs (y :: l2)=merged (stored vs y.1 y.2) l2:=rfl
  rw [e1,e2,← h1]
  exact q2
theorem uV:MtR C "dict.update" DO:=by
 intro pins s σ H x vs v us Q I rx rv h
 obtain ⟨d,o,kvs,more,rfl,rfl,hne,hd,ho,hz,q⟩:=h
 cases rx
 obtain ⟨u,rfl,ru⟩:=rv.one
 cases ru
 obtain ⟨_,hd',vs,rel,dd⟩:=dk_of I.hok hd
 obtain ⟨_,ho',vs2,rel2,dd2⟩:=dk_of I.hok ho
 refine call_meetsIn PySem.F.slot_dict_update dd.typeIs PySem.F.entry_dict_update (PySem.F.args_dict_update_2 _ _) (meets_dict_update (mixKind C.prog C.w) d o hne ho') ⟨vs,vs2,dd,dd2,by rw [← rel.length,← rel2.length]; exact hz,fun h' dd' _ hs=>?_⟩
 have he:∃ q,h'.get? d=some q:=let ⟨q,_,_,hq,_⟩:=dd'; ⟨q,hq⟩
 exact ⟨.non,_,d_write (t':=s.toks) I (by rw [hd]; exact True.intro) hs he (dk_new (by have:=lr (kvs:=kvs) (more:=more); omega) hd' (ni rel2 rel) dd'),rfl,q⟩
theorem wt {Y:Wd} {F:Fr}:∀ {qs ps:List (D × D)} {more kvs:List (L2.Key × V)},Rpk Y F qs more→Rpk Y F ps kvs→Rpk Y F (pQ ps qs) (jQ kvs more)
 | _,_,_,_,.nil,r=>r
 | _,_,_,_,.cons h1 h2 t,r=>by
  have q:=wt t (Rpk.put h1 h2 r)
  exact q

theorem Bt (B:Gd C S G W) {i:Nat} {y:Str} {p:Pos} (hN:S.N[i]?=some y) (hv:fV S.sc y=true) (hn:dZ y=true) (hs:bZ e=true) (hl:(apos.endLine == cpos.line)=true) (he:PE C e (rd G.gm W xa)) :
  PS C (.Expr (.Call (.Attribute (.Name y p) "update" apos) [e] [] cpos) pos) (rS G W (.upd i xa)):=by
 refine PS.imp (ps_expr (pe_bm PySem.F.plainAttrs_dict PySem.F.slot_dict_update PySem.F.type_dict_update uV (gy B hN hv hn) (pa_cons he pa_nil (bY hs)) rfl (oV (m:="update") hs) hl (bY hs) rfl) rfl) ?_
 rintro E σ H ⟨g,l,s,SS,h⟩
 have h:ValS G.gm W g (match l[i]? with
  | some (some ⟨.ow,.dic false ps⟩)=>(b7 G.fs G.gs xa l s).bind fun (y,t,s1)=>match t,y with
   | .nw,.dic false qs=>if ps.length+qs.length≤sizeLine then .ok (.nx (l.set i (some ⟨.ow,.dic false (pQ ps qs)⟩)) s1) else .no
   | _,_=>.no
  | _=>.no) (KO G.gm E):=h
 split at h
 ·rename_i ps e0
  obtain ⟨vo,q1,tp0,hno0⟩:=SS.sl i _ e0
  obtain ⟨a,rfl,_⟩:=tp0.isRef
  refine ⟨.ref a,q1,?_,?_⟩
  ·cases tp0 with
   | dk hh r=>exact .inr (.inr (.inl ⟨rfl,.inl ⟨_,hh⟩⟩))
  refine gx SS h fun z t s1 g1 v H1 e1 S1 ro h1=>?_
  replace h1:ValS G.gm W g1 (match t,z with
   | .nw,.dic false qs=>if ps.length+qs.length≤sizeLine then .ok (.nx (l.set i (some ⟨.ow,.dic false (pQ ps qs)⟩)) s1) else .no
   | _,_=>.no) (KO G.gm E):=h1
  split at h1
  ·rename_i qs
   split at h1
   ·rename_i hz
    obtain ⟨o,rfl,_,_,tp2,hno2⟩:=(show VN G.Y g1 σ H1 l (.dic false qs) v from ro)
    obtain ⟨tp,hno⟩:=S1.own q1 e0
    have hne:a≠o:=fun q=>by
     subst q
     exact hno2 i _ q1 e0
    cases tp with
    | dk hh r =>
     cases tp2 with
     | dk hh2 r2 =>
      refine ⟨a,o,_,_,rfl,rfl,hne,hh,hh2,by rw [← r.len,← r2.len]; exact hz,?_⟩
      exact h1 g1 (.refl g1) σ _ (S1.wrO q1 e0 (.dk upd_same (wt r2 r)))
   ·exact h1.elim
  ·exact h1.elim
 ·exact h.elim

theorem Bu (B:Gd C S G W) {i:Nat} {y:Str} {p:Pos} (hN:S.N[i]?=some y) (hv:fV S.sc y=true) (hn:dZ y=true) (hs1:bZ b=true) (hs:bZ e=true) (hl:(apos.endLine == cpos.line)=true) (hk:PE C b (rd G.gm W xa)) (he:PE C e (rd G.gm W xb)) :
  PS C (.Expr (.Call (.Attribute (.Name y p) "insert" apos) [b,e] [] cpos) pos) (rS G W (.ins i xa xb)):=by
 refine PS.imp (ps_expr (pe_bm PySem.F.plainAttrs_list PySem.F.slot_list_insert PySem.F.type_list_insert mt_insert (gy B hN hv hn) (pa_cons hk (pa_cons he pa_nil (bY hs)) (bY hs1)) rfl (by rw [bY hs1,bY hs]; rfl) hl (bY hs1) (dh (by simp [hs]))) rfl) ?_
 rintro E σ H ⟨g,l,s,SS,h⟩
 have h:ValS G.gm W g (match l[i]? with
  | some (some ⟨.ow,.lst ds⟩)=>(b7 G.fs G.gs xa l s).bind fun (y,_,s1)=>match y with
   | .int j=>if 0≤j∧j < 2 ^ 63∧ds.length < sizeLine then cf (b7 G.fs G.gs xb l s1) fun d s2=>.ok (.nx (l.set i (some ⟨.ow,.lst (ds.take j.toNat++[d]++ds.drop j.toNat)⟩)) s2) else .no
   | _=>.no
  | _=>.no) (KO G.gm E):=h
 split at h
 ·rename_i ds e0
  obtain ⟨a,vs,h1,h2,h3⟩:=SS.lstO e0
  refine ⟨.ref a,h1,.inl ⟨rfl,vs,.inl (.inl h2)⟩,?_⟩
  refine ff SS h fun z t s1 g1 w H1 e1 S1 w1 q1=>?_
  cases z with
  | int j =>
   have q1:ValS G.gm W g1 (if 0≤j∧j < 2 ^ 63∧ds.length < sizeLine then cf (b7 G.fs G.gs xb l s1) fun d s2=>.ok (.nx (l.set i (some ⟨.ow,.lst (ds.take j.toNat++[d]++ds.drop j.toNat)⟩)) s2) else .no) (KO G.gm E):=q1
   split at q1
   ·rename_i hz
    refine dj S1 q1 fun d s2 g2 v H2 e2 S2 r2 q2=>?_
    obtain ⟨a',vs',h1',h2',h3'⟩:=S2.lstO e0
    rw [h1] at h1'
    cases h1'
    have ew:=(w1.rd S1).int
    subst ew
    refine ⟨a,vs',j,v,rfl,rfl,h2',by rw [← h3'.length]; exact hz.2.2,hz.1,hz.2.1,?_⟩
    exact q2 g2 (.refl g2) σ _ (S2.wrO h1 e0 (.lst upd_same (((h3'.take _).append #v[r2]).append (h3'.drop _))))
   ·exact q1.elim
  | _=>exact q1.elim
 ·exact h.elim
theorem Bv {o i o2 i2 x:Expr} {p p2 p3:Pos} {k:Nat} {env:Env}:swappedStores [.Tuple [.Subscript o i p,.Subscript o2 i2 p2] k p3] x env=pure none:=by
 unfold swappedStores
 cases x with
 | Tuple vs a b =>
  simp only [bq,List.filterMap_nil]
  by_cases c1:(!([Expr.Subscript o i p,Expr.Subscript o2 i2 p2].length == 2 || [Expr.Subscript o i p,Expr.Subscript o2 i2 p2].length == 3) || vs.length != [Expr.Subscript o i p,Expr.Subscript o2 i2 p2].length || env.blockKind != .function)=true
  ·rw [ap c1]
  ·rw [av c1]
   split
   ·rfl
   ·rfl
 | _=>rfl

theorem Bw (B:Gd C S G W) (hh:S.hot=false) {j:Nat} {z:Str} {q q2 p2 p4 p3:Pos} {kc:Nat} {f2:Expr} (hN:S.N[j]?=some z) (hv:fV S.sc z=true) (hn:dZ z=true) (hs:cM f=true) (hs2:cM f2=true) (hk:PE C f (rd G.gm W xa)) (hk2:PE C f2 (rd G.gm W xb)) (he:PE C e (rd G.gm W xc)) :
  PS C (.Assign [.Tuple [.Subscript (.Name z q) f p2,.Subscript (.Name z q2) f2 p4] kc p3] e pos) (rS G W (.swS j xa xb xc)):=by
 have g2:=pgs_cons (ji (pos:=p2) (gy (p:=q) B hN hv hn) hk (jh B.hu) hs) (pgs_cons (ji (pos:=p4) (gy (p:=q2) B hN hv hn) hk2 (jh B.hu) hs2) pgs_nil)
 refine PS.imp (ps_asg he (pg_tup (n:=2) (B.calm hh) g2) (show swapsWith e (some (.Tuple [.Subscript (.Name z q) f p2,.Subscript (.Name z q2) f2 p4] kc p3)) pos.line C.env=pure false from jf (fun y p q=>by cases q)) Bv) ?_
 rintro E σ H ⟨g,l,s,SS,h⟩
 refine dj SS (show ValS G.gm W g (cf (b7 G.fs G.gs xc l s) _) (KO G.gm E) from h) fun d s1 g1 v H1 e1 S1 r1 h1=>?_
 have h1:ValS G.gm W g1 (match d with
  | .tup [a,b]=>(uS G.fs G.gs j xa a l s1).bind (dN fun l2 s2=>uS G.fs G.gs j xb b l2 s2)
  | _=>.no) (KO G.gm E):=h1
 split at h1
 ·rename_i da db
  cases r1 with
  | tup hf2 rs =>
   cases rs with
   | cons ra rs =>
    cases rs with
    | cons rb rs =>
     cases rs
     refine ⟨_,_,rfl,(hf2.mono S1.sF).sq,rfl,_,_,rfl,?_⟩
     exact lW B S1 ra (ValS.step h1 (N:=fun σ' H'=>_) fun g' l' s' e' h2 σ' H' S'=>⟨_,_,rfl,lW B S' (rb.mono e'.f) h2 fun _ _ q=>⟨rfl,q⟩⟩) fun _ _ q=>q
 ·exact h1.elim

theorem yD (hl:(apos.endLine == cpos.line)=true) (hn:cD o=true) (ho:PE C o (rd G.gm W xa)) :
  PS C (.Expr (.Call (.Attribute o "reverse" apos) [] [] cpos) pos) (rS G W (.crev xa)):=by
 refine PS.imp (ps_expr (pe_bm0 PySem.F.plainAttrs_list PySem.F.slot_list_reverse PySem.F.type_list_reverse mt_reverse ho (dS hn) hl) rfl) ?_
 rintro E σ H ⟨g,l,s,SS,h⟩
 refine ff SS (show ValS G.gm W g ((b7 G.fs G.gs xa l s).bind _) (KO G.gm E) from h) fun z t s1 g1 vo H1 e1 S1 ro h1=>?_
 cases z with
 | loc n =>
  have h1:ValS G.gm W g1 (match s1[n]? with
   | some (.obj (.lst ds))=>.ok (.nx l (s1.set n (.obj (.lst ds.reverse))))
   | _=>.no) (KO G.gm E):=h1
  split at h1
  ·rename_i ds ec
   obtain ⟨a,rfl,k,tp⟩:=S1.ce (ro.rd S1) ec
   cases tp with
   | lst hh r =>
    refine ⟨.inl ⟨rfl,_,.inl (.inl hh)⟩,a,_,rfl,rfl,hh,?_⟩
    exact h1 g1 (.refl g1) σ _ (S1.cwr k (au.mp ec).1 (.obj k (.lst upd_same r.rev)))
  ·exact h1.elim
 | _=>exact h1.elim

theorem yE (B:Gd C S G W) (hs:cM f=true) (ho:PE C o (rd G.gm W xa)) (hk:PE C f (rd G.gm W xb)) (he:PE C e (rd G.gm W xc)) (hlc:gX e=true) :
  PS C (.Assign [.Subscript o f apos] e pos) (rS G W (.csub xa xb xc)):=by
 refine PS.imp (ps_asg he (ji ho hk (jh B.hu) hs) (show swapsWith e (some (.Subscript o f apos)) pos.line C.env=pure false from gj hlc) pR) ?_
 rintro E σ H ⟨g,l,s,SS,h⟩
 refine dj SS (show ValS G.gm W g (cf (b7 G.fs G.gs xc l s) _) (KO G.gm E) from h) fun d s1 g1 v H1 e1 S1 r1 h1=>?_
 refine ff S1 (show ValS G.gm W g1 ((b7 G.fs G.gs xa l s1).bind _) (KO G.gm E) from h1) fun z t s2 g2 vo H2 e2 S2 ro h2=>?_
 cases z with
 | loc n =>
  have h2:ValS G.gm W g2 (cf (b7 G.fs G.gs xb l s2) fun x s3=>match s3[n]? with
   | some (.obj c)=>match jZ c x d with
    | some c'=>.ok (.nx l (s3.set n (.obj c')))
    | none=>.no
   | _=>.no) (KO G.gm E):=h2
  obtain ⟨a,rfl,hm⟩:=(ro.rd S2).loc
  refine dj S2 h2 fun dk s3 g3 vk H3 e3 S3 r3 h3=>?_
  have h3:ValS G.gm W g3 (match s3[n]? with
   | some (.obj c)=>match jZ c dk d with
    | some c'=>.ok (.nx l (s3.set n (.obj c')))
    | none=>.no
   | _=>.no) (KO G.gm E):=h3
  split at h3
  ·rename_i c ec
   obtain ⟨a',ea,k,tp⟩:=S3.ce (.inl (.loc (e3.f.m _ _ hm))) ec
   cases ea
   have hn:=(au.mp ec).1
   have rv:=r1.mono (e2.f.trans e3.f)
   cases tp with
   | @lst _ vs ds hh r =>
    cases dk with
    | int q =>
     have h3:ValS G.gm W g3 (match (match ixN ds.length q with | some j=>some (D.lst (ds.set j d)) | none=>none) with
      | some c'=>.ok (.nx l (s3.set n (.obj c')))
      | none=>.no) (KO G.gm E):=h3
     cases ej:ixN ds.length q with
     | none=>rw [ej] at h3; exact h3.elim
     | some j =>
      rw [ej] at h3
      cases r3
      refine .inl ⟨a,vs,q,j,rfl,rfl,hh,by rw [← r.length]; exact ej,?_⟩
      exact h3 g3 (.refl g3) σ _ (S3.cwr k hn (.obj k (.lst upd_same (r.set j rv))))
    | _=>exact h3.elim
   | @dk _ kvs ps hh r =>
    have h3:ValS G.gm W g3 (match (if D.isKey false dk=true∧ps.length < sizeLine then some (D.dic false (D.put ps dk d)) else none) with
      | some c'=>.ok (.nx l (s3.set n (.obj c')))
      | none=>.no) (KO G.gm E):=h3
    by_cases hc:D.isKey false dk=true∧ps.length < sizeLine
    ·rw [ap hc] at h3
     obtain ⟨q,hq⟩:=dR hc.1
     obtain rfl:=gr hq r3
     refine .inr (.inl ⟨a,_,rfl,DPut.k hh (by rw [← r.len]; exact hc.2),?_⟩)
     exact h3 g3 (.refl g3) σ _ (S3.cwr k hn (.obj k (.dk upd_same (Rpk.put hq rv r))))
    ·rw [av hc] at h3
     exact h3.elim
   | @dt _ ob xs ps hh w r =>
    have h3:ValS G.gm W g3 (match (if D.isKey true dk=true∧ps.length < sizeLine then some (D.dic true (D.put ps dk d)) else none) with
      | some c'=>.ok (.nx l (s3.set n (.obj c')))
      | none=>.no) (KO G.gm E):=h3
    by_cases hc:D.isKey true dk=true∧ps.length < sizeLine
    ·rw [ap hc] at h3
     obtain ⟨q,hq,hz,zs,rfl⟩:=fT hc.1
     cases r3 with
     | tup hb hr =>
      rename_i b vs
      refine .inr (.inr ⟨G.Y,g3.F,a,b,ob,xs,ps,_,q,rfl,rfl,B.hY,hh,w,r,S3.sF,⟨hq,hz,.tup hb hr⟩,by rw [← r.len]; exact hc.2,fun u ob' ru w'=>?_⟩)
      exact h3 g3 (.refl g3) σ _ (S3.cwr k hn (.obj k (.dt upd_same w' (Rpt.put hq hz (.tup hb hr) rv ru r))))
    ·rw [av hc] at h3
     exact h3.elim
  ·exact h3.elim
 | _=>exact h2.elim
end
def jj (S:Sc) (i:Nat) (y:Str):Bool:=decide (S.N[i]?=some y) && kq S.sc y && (S.top || fW S.sc y)
def fc (S:Sc) (i:Nat) (y:Str):Bool:=decide (S.N[i]?=some y) && fV S.sc y && dZ y
def DP (sc:Scope):Bool:=match sc.kind with
 | .function=>true
 | _=>false
def qF:X→Bool
 | .comE _ _ _ _ _=>false
 | _=>true
def Bx (S:Sc) (y:Str) (py:Pos):Expr→Bool
 | .ListComp _ _ scope p=>if fW S.sc y=true then DP S.sc && (py.line == p.line) && !(scope.names.any fun (n,k)=>n == y && (k == .local || k == .cell)) else true
 | .SetComp _ _ _ _=>false
 | .DictComp _ _ _ _ _=>false
 | _=>true
mutual
def gz (S:Sc):GM.S→Stmt→Bool
 | .pass,.Pass _=>true
 | .brk,.Break _=>true
 | .cont,.Continue _=>true
 | .ex x,.Expr e _=>gX e && cm S x e
 | .lend _ x,.Expr e _=>gX e && cm S x e
 | .set (.n i) x,.Assign [.Name y py] e _=>jj S i y && cm S x e && (Bx S y py e && qF x)
 | .set (.t t) x,.Assign [.Tuple ts k p] e _=>oA S (.t t) (.Tuple ts k p) && cm S x e && jO e
 | .own i x,.Assign [.Name y py] e _=>jj S i y && cm S x e && (Bx S y py e && qF x)
 | .aug i x,.AugAssign (.Name y _) .Add e _=>jj S i y && cm S x e
 | .fz _ a,st=>gz S a st
 | .ife c a b,.If t bs os _=>cm S c t && cV S a bs && cV S b os
 | .loop t it b,.For tg ite bs [] _=>!S.hot && gU ite && mH S it tg ite && oA S t tg && cV S b bs
 | .whl c b,.While t bs [] _=>!S.hot && cm S c t && cV S b bs
 | .ret x,.Return (some e) _=>cm S x e
 | .retN,.Return none _=>true
 | .rse c,.Raise (some (.Call (.Name x _) [.Constant (.str _) _ _] [] _)) none _=>!S.hot && decide (x=c) && S.en.contains c && cP S.sc c && dZ c
 | .app i x,.Expr (.Call (.Attribute (.Name y _) nm apos) [e] [] cpos) _=>decide (nm="append") && fc S i y && bZ e && (apos.endLine == cpos.line) && cm S x e
 | .ext i x,.Expr (.Call (.Attribute (.Name y _) nm apos) [e] [] cpos) _=>decide (nm="extend") && fc S i y && bZ e && (apos.endLine == cpos.line) && cm S x e
 | .rvs i,.Expr (.Call (.Attribute (.Name y _) nm apos) [] [] cpos) _=>decide (nm="reverse") && fc S i y && (apos.endLine == cpos.line)
 | .appPop i j x,.Expr (.Call (.Attribute (.Name y _) nm apos) [.Call (.Attribute (.Name z _) nm2 apos2) es [] cpos2] [] cpos) _ =>
   decide (nm="append") && fc S i y && (apos.endLine == cpos.line) && decide (nm2="pop") && fc S j z && (apos2.endLine == cpos2.line) && jg S x es
 | .popX j x,.Expr (.Call (.Attribute (.Name z _) nm2 apos2) es [] cpos2) _=>decide (nm2="pop") && fc S j z && (apos2.endLine == cpos2.line) && jg S x es
 | .popT (.n i) j x,.Assign [.Name y _] (.Call (.Attribute (.Name z _) nm2 apos2) es [] cpos2) _=>jj S i y && decide (nm2="pop") && fc S j z && (apos2.endLine == cpos2.line) && jg S x es
 | .popT (.t t) j x,.Assign [.Tuple ts k p] (.Call (.Attribute (.Name z _) nm2 apos2) es [] cpos2) _=>oA S (.t t) (.Tuple ts k p) && decide (nm2="pop") && fc S j z && (apos2.endLine == cpos2.line) && jg S x es
 | .sub i k v,.Assign [.Subscript (.Name y _) ke _] ve _=>fc S i y && cM ke && cm S k ke && cm S v ve && gX ve
 | .setS i j k x,.Assign [.Tuple [.Name a _,.Subscript (.Name y _) ke _] _ _] ve _=>!S.hot && jj S i a && fc S j y && cM ke && cm S k ke && cm S x ve && jO ve
 | .fset c f o x,.Assign [.Attribute oe nm _] e _=>decide (nm=f) && S.fl.contains (c,f) && cm S o oe && cm S x e && gX e
 | .csub o k v,.Assign [.Subscript oe ke _] ve _=>cM ke && cm S o oe && cm S k ke && cm S v ve && gX ve
 | .capp o x,.Expr (.Call (.Attribute oe nm apos) [e] [] cpos) _=>decide (nm="append") && cD oe && bZ e && (apos.endLine == cpos.line) && cm S o oe && cm S x e
 | .sdap i k x,.Expr (.Call (.Attribute (.Call (.Attribute (.Name y _) nm apos) [ke,.List [] _] [] cpos) nm2 apos2) [e] [] cpos2) _=>decide (nm="setdefault") && decide (nm2="append") && fc S i y && (apos.endLine == cpos.line) && (apos2.endLine == cpos2.line) && bZ ke && bZ e && cm S k ke && cm S x e
 | .crev o,.Expr (.Call (.Attribute oe nm apos) [] [] cpos) _=>decide (nm="reverse") && cD oe && (apos.endLine == cpos.line) && cm S o oe
 | .rseF c f x,.Raise (some (.Call (.Name z _) [e] [] _)) none _=>!S.hot && decide (z=c) && S.ea.contains (c,f) && cP S.sc c && dZ c && bZ e && cm S x e
 | .trF b c i f j,.Try bs [.ExceptHandler (some (.Name z _)) (some n) [.Assign [.Name m _] (.Attribute (.Name n2 _) f2 _) _] _] [] [] _=>!S.hot && cV S b bs && decide (z=c) && S.ea.contains (c,f) && cP S.sc c && dZ c && decide (S.N[i]?=some n) && decide (S.N[j]?=some m) && decide (i≠j) && fW S.sc n && fW S.sc m && decide (n2=n) && dZ n && fV S.sc n && decide (f2=f) && kq S.sc m
 | .upd i x,.Expr (.Call (.Attribute (.Name y _) nm apos) [e] [] cpos) _=>decide (nm="update") && fc S i y && bZ e && (apos.endLine == cpos.line) && cm S x e
 | .ins i k x,.Expr (.Call (.Attribute (.Name y _) nm apos) [ke,e] [] cpos) _=>decide (nm="insert") && fc S i y && bZ ke && bZ e && (apos.endLine == cpos.line) && cm S k ke && cm S x e
 | .swS i k h x,.Assign [.Tuple [.Subscript (.Name y _) ke _,.Subscript (.Name z _) he _] _ _] ve _=>!S.hot && fc S i y && decide (z=y) && cM ke && cM he && cm S k ke && cm S h he && cm S x ve
 | .rseA c x,.Raise (some (.Call (.Name y _) [e] [] _)) none _=>!S.hot && decide (y=c) && cm S x e
 | .trA b c i a,.Try bs [.ExceptHandler (some (.Name x _)) (some n) (b0 :: suite) _] [] [] _=>!S.hot && cV S b bs && decide (x=c) && S.hn.contains c && cP S.sc c && dZ c && decide (S.N[i]?=some n) && fW S.sc n && cV { S with hot:=true } a (b0 :: suite)
 | .tr b hs,.Try bs (h :: hds) [] [] _=>!S.hot && cV S b bs && yF { S with hot:=true } hs (h :: hds)
 | _,_=>false
def cV (S:Sc):GM.S→List Stmt→Bool
 | .nil,[]=>true
 | .cons a b,st :: sts=>gz S a st && cV S b sts
 | _,_=>false
def yF (S:Sc):GM.S→List ExceptHandler→Bool
 | .nil,[]=>true
 | .hd c a r,.ExceptHandler (some (.Name x _)) none (b0 :: suite) _ :: hds=>decide (x=c) && S.hn.contains c && cP S.sc c && dZ c && cV S a (b0 :: suite) && yF S r hds
 | _,_=>false
end

section
variable {S:Sc} {x xa xb xc:X} {sa sb sc:GM.S}
theorem yG {st:Stmt} (h:gz S .pass st=true):∃ p,st=.Pass p:=by
 cases st
 case Pass p =>
  exact ⟨p,rfl⟩
 all_goals exact absurd h aa
theorem By {st:Stmt} (h:gz S .brk st=true):∃ p,st=.Break p:=by
 cases st
 case Break p =>
  exact ⟨p,rfl⟩
 all_goals exact absurd h aa
theorem yH {st:Stmt} (h:gz S .cont st=true):∃ p,st=.Continue p:=by
 cases st
 case Continue p =>
  exact ⟨p,rfl⟩
 all_goals exact absurd h aa
theorem DQ {st:Stmt} (h:gz S (.ex x) st=true):∃ e p,st=.Expr e p∧(gX e && cm S x e)=true:=by
 cases st
 case Expr e p =>
  exact ⟨e,p,rfl,h⟩
 all_goals exact absurd h aa
theorem yI {i:Nat} {st:Stmt} (h:gz S (.lend i xa) st=true):∃ e p,st=.Expr e p∧(gX e && cm S xa e)=true:=by
 cases st
 case Expr e p =>
  exact ⟨e,p,rfl,h⟩
 all_goals exact absurd h aa
theorem yJ {i:Nat} {st:Stmt} (h:gz S (.set (.n i) x) st=true):∃ y py e p,st=.Assign [.Name y py] e p∧(jj S i y && cm S x e && (Bx S y py e && qF x))=true:=by
 cases st
 case Assign u1 e p =>
  cases u1
  case cons u2 u3 =>
   cases u2
   case Name y py =>
    cases u3
    case nil =>
     exact ⟨y,py,e,p,rfl,h⟩
    all_goals exact absurd h aa
   all_goals exact absurd h aa
  all_goals exact absurd h aa
 all_goals exact absurd h aa
theorem yK {t:T} {st:Stmt} (h:gz S (.set (.t t) x) st=true):∃ ts k q e p,st=.Assign [.Tuple ts k q] e p∧(oA S (.t t) (.Tuple ts k q) && cm S x e && jO e)=true:=by
 cases st
 case Assign u1 e p =>
  cases u1
  case cons u2 u3 =>
   cases u2
   case Tuple ts k q =>
    cases u3
    case nil =>
     exact ⟨ts,k,q,e,p,rfl,h⟩
    all_goals exact absurd h aa
   all_goals exact absurd h aa
  all_goals exact absurd h aa
 all_goals exact absurd h aa
theorem Bz {i:Nat} {st:Stmt} (h:gz S (.own i x) st=true):∃ y py e p,st=.Assign [.Name y py] e p∧(jj S i y && cm S x e && (Bx S y py e && qF x))=true:=by
 cases st
 case Assign u1 e p =>
  cases u1
  case cons u2 u3 =>
   cases u2
   case Name y py =>
    cases u3
    case nil =>
     exact ⟨y,py,e,p,rfl,h⟩
    all_goals exact absurd h aa
   all_goals exact absurd h aa
  all_goals exact absurd h aa
 all_goals exact absurd h aa
theorem BA {i:Nat} {st:Stmt} (h:gz S (.aug i x) st=true):∃ y py e p,st=.AugAssign (.Name y py) .Add e p∧(jj S i y && cm S x e)=true:=by
 cases st
 case AugAssign u1 u2 e p =>
  cases u1
  case Name y py =>
   cases u2
   case Add  =>
    exact ⟨y,py,e,p,rfl,h⟩
   all_goals exact absurd h aa
  all_goals exact absurd h aa
 all_goals exact absurd h aa
theorem BB {st:Stmt} (h:gz S (.ife xc sa sb) st=true):∃ t bs os p,st=.If t bs os p∧(cm S xc t && cV S sa bs && cV S sb os)=true:=by
 cases st
 case If t bs os p =>
  exact ⟨t,bs,os,p,rfl,h⟩
 all_goals exact absurd h aa
theorem yL {t:T} {st:Stmt} (h:gz S (.loop t xa sb) st=true):∃ tg ite bs p,st=.For tg ite bs [] p∧(!S.hot && gU ite && mH S xa tg ite && oA S t tg && cV S sb bs)=true:=by
 cases st
 case For tg ite bs u1 p =>
  cases u1
  case nil =>
   exact ⟨tg,ite,bs,p,rfl,h⟩
  all_goals exact absurd h aa
 all_goals exact absurd h aa
theorem BC {st:Stmt} (h:gz S (.whl xc sb) st=true):∃ t bs p,st=.While t bs [] p∧(!S.hot && cm S xc t && cV S sb bs)=true:=by
 cases st
 case While t bs u1 p =>
  cases u1
  case nil =>
   exact ⟨t,bs,p,rfl,h⟩
  all_goals exact absurd h aa
 all_goals exact absurd h aa
theorem BD {st:Stmt} (h:gz S (.ret x) st=true):∃ e p,st=.Return (some e) p∧cm S x e=true:=by
 cases st
 case Return u1 p =>
  cases u1
  case some e =>
   exact ⟨e,p,rfl,h⟩
  all_goals exact absurd h aa
 all_goals exact absurd h aa
theorem yM {st:Stmt} (h:gz S .retN st=true):∃ p,st=.Return none p:=by
 cases st
 case Return u1 p =>
  cases u1
  case none  =>
   exact ⟨p,rfl⟩
  all_goals exact absurd h aa
 all_goals exact absurd h aa
theorem BE {c:Str} {st:Stmt} (h:gz S (.rse c) st=true):∃ y q m j q2 q3 p,st=.Raise (some (.Call (.Name y q) [.Constant (.str m) j q2] [] q3)) none p∧(!S.hot && decide (y=c) && S.en.contains c && cP S.sc c && dZ c)=true:=by
 cases st
 case Raise u1 u2 p =>
  cases u1
  case some u3 =>
   cases u3
   case Call u4 u5 u6 q3 =>
    cases u4
    case Name y q =>
     cases u5
     case cons u7 u8 =>
      cases u7
      case Constant u9 j q2 =>
       cases u9
       case str m =>
        cases u8
        case nil =>
         cases u6
         case nil =>
          cases u2
          case none  =>
           exact ⟨y,q,m,j,q2,q3,p,rfl,h⟩
          all_goals exact absurd h aa
         all_goals exact absurd h aa
        all_goals exact absurd h aa
       all_goals exact absurd h aa
      all_goals exact absurd h aa
     all_goals exact absurd h aa
    all_goals exact absurd h aa
   all_goals exact absurd h aa
  all_goals exact absurd h aa
 all_goals exact absurd h aa
theorem BF {i:Nat} {st:Stmt} (h:gz S (.app i x) st=true):∃ y q nm apos e cpos p,st=.Expr (.Call (.Attribute (.Name y q) nm apos) [e] [] cpos) p∧(decide (nm="append") && fc S i y && bZ e && (apos.endLine == cpos.line) && cm S x e)=true:=by
 cases st
 case Expr u1 p =>
  cases u1
  case Call u2 u3 u4 cpos =>
   cases u2
   case Attribute u5 nm apos =>
    cases u5
    case Name y q =>
     cases u3
     case cons e u6 =>
      cases u6
      case nil =>
       cases u4
       case nil =>
        exact ⟨y,q,nm,apos,e,cpos,p,rfl,h⟩
       all_goals exact absurd h aa
      all_goals exact absurd h aa
     all_goals exact absurd h aa
    all_goals exact absurd h aa
   all_goals exact absurd h aa
  all_goals exact absurd h aa
 all_goals exact absurd h aa
theorem BG {i:Nat} {st:Stmt} (h:gz S (.ext i x) st=true):∃ y q nm apos e cpos p,st=.Expr (.Call (.Attribute (.Name y q) nm apos) [e] [] cpos) p∧(decide (nm="extend") && fc S i y && bZ e && (apos.endLine == cpos.line) && cm S x e)=true:=by
 cases st
 case Expr u1 p =>
  cases u1
  case Call u2 u3 u4 cpos =>
   cases u2
   case Attribute u5 nm apos =>
    cases u5
    case Name y q =>
     cases u3
     case cons e u6 =>
      cases u6
      case nil =>
       cases u4
       case nil =>
        exact ⟨y,q,nm,apos,e,cpos,p,rfl,h⟩
       all_goals exact absurd h aa
      all_goals exact absurd h aa
     all_goals exact absurd h aa
    all_goals exact absurd h aa
   all_goals exact absurd h aa
  all_goals exact absurd h aa
 all_goals exact absurd h aa
theorem BH {i:Nat} {st:Stmt} (h:gz S (.rvs i) st=true):∃ y q nm apos cpos p,st=.Expr (.Call (.Attribute (.Name y q) nm apos) [] [] cpos) p∧(decide (nm="reverse") && fc S i y && (apos.endLine == cpos.line))=true:=by
 cases st
 case Expr u1 p =>
  cases u1
  case Call u2 u3 u4 cpos =>
   cases u2
   case Attribute u5 nm apos =>
    cases u5
    case Name y q =>
     cases u3
     case nil =>
      cases u4
      case nil =>
       exact ⟨y,q,nm,apos,cpos,p,rfl,h⟩
      all_goals exact absurd h aa
     all_goals exact absurd h aa
    all_goals exact absurd h aa
   all_goals exact absurd h aa
  all_goals exact absurd h aa
 all_goals exact absurd h aa
theorem sD {i j:Nat} {st:Stmt} (h:gz S (.appPop i j x) st=true):∃ y q nm apos z q2 nm2 apos2 es cpos2 cpos p,st=.Expr (.Call (.Attribute (.Name y q) nm apos) [.Call (.Attribute (.Name z q2) nm2 apos2) es [] cpos2] [] cpos) p∧(decide (nm="append") && fc S i y && (apos.endLine == cpos.line) && decide (nm2="pop") && fc S j z && (apos2.endLine == cpos2.line) && jg S x es)=true:=by
 cases st
 case Expr u1 p =>
  cases u1
  case Call u2 u3 u4 cpos =>
   cases u2
   case Attribute u5 nm apos =>
    cases u5
    case Name y q =>
     cases u3
     case cons u6 u7 =>
      cases u6
      case Call u8 es u9 cpos2 =>
       cases u8
       case Attribute u10 nm2 apos2 =>
        cases u10
        case Name z q2 =>
         cases u9
         case nil =>
          cases u7
          case nil =>
           cases u4
           case nil =>
            exact ⟨y,q,nm,apos,z,q2,nm2,apos2,es,cpos2,cpos,p,rfl,h⟩
           all_goals exact absurd h aa
          all_goals exact absurd h aa
         all_goals exact absurd h aa
        all_goals exact absurd h aa
       all_goals exact absurd h aa
      all_goals exact absurd h aa
     all_goals exact absurd h aa
    all_goals exact absurd h aa
   all_goals exact absurd h aa
  all_goals exact absurd h aa
 all_goals exact absurd h aa
theorem yN {j:Nat} {st:Stmt} (h:gz S (.popX j x) st=true):∃ z q2 nm2 apos2 es cpos2 p,st=.Expr (.Call (.Attribute (.Name z q2) nm2 apos2) es [] cpos2) p∧(decide (nm2="pop") && fc S j z && (apos2.endLine == cpos2.line) && jg S x es)=true:=by
 cases st
 case Expr u1 p =>
  cases u1
  case Call u2 es u3 cpos2 =>
   cases u2
   case Attribute u4 nm2 apos2 =>
    cases u4
    case Name z q2 =>
     cases u3
     case nil =>
      exact ⟨z,q2,nm2,apos2,es,cpos2,p,rfl,h⟩
     all_goals exact absurd h aa
    all_goals exact absurd h aa
   all_goals exact absurd h aa
  all_goals exact absurd h aa
 all_goals exact absurd h aa
theorem yO {i j:Nat} {st:Stmt} (h:gz S (.popT (.n i) j x) st=true):∃ y q z q2 nm2 apos2 es cpos2 p,st=.Assign [.Name y q] (.Call (.Attribute (.Name z q2) nm2 apos2) es [] cpos2) p∧(jj S i y && decide (nm2="pop") && fc S j z && (apos2.endLine == cpos2.line) && jg S x es)=true:=by
 cases st
 case Assign u1 u2 p =>
  cases u1
  case cons u3 u4 =>
   cases u3
   case Name y q =>
    cases u4
    case nil =>
     cases u2
     case Call u5 es u6 cpos2 =>
      cases u5
      case Attribute u7 nm2 apos2 =>
       cases u7
       case Name z q2 =>
        cases u6
        case nil =>
         exact ⟨y,q,z,q2,nm2,apos2,es,cpos2,p,rfl,h⟩
        all_goals exact absurd h aa
       all_goals exact absurd h aa
      all_goals exact absurd h aa
     all_goals exact absurd h aa
    all_goals exact absurd h aa
   all_goals exact absurd h aa
  all_goals exact absurd h aa
 all_goals exact absurd h aa
theorem yP {t:T} {j:Nat} {st:Stmt} (h:gz S (.popT (.t t) j x) st=true):∃ ts k q z q2 nm2 apos2 es cpos2 p,st=.Assign [.Tuple ts k q] (.Call (.Attribute (.Name z q2) nm2 apos2) es [] cpos2) p∧(oA S (.t t) (.Tuple ts k q) && decide (nm2="pop") && fc S j z && (apos2.endLine == cpos2.line) && jg S x es)=true:=by
 cases st
 case Assign u1 u2 p =>
  cases u1
  case cons u3 u4 =>
   cases u3
   case Tuple ts k q =>
    cases u4
    case nil =>
     cases u2
     case Call u5 es u6 cpos2 =>
      cases u5
      case Attribute u7 nm2 apos2 =>
       cases u7
       case Name z q2 =>
        cases u6
        case nil =>
         exact ⟨ts,k,q,z,q2,nm2,apos2,es,cpos2,p,rfl,h⟩
        all_goals exact absurd h aa
       all_goals exact absurd h aa
      all_goals exact absurd h aa
     all_goals exact absurd h aa
    all_goals exact absurd h aa
   all_goals exact absurd h aa
  all_goals exact absurd h aa
 all_goals exact absurd h aa
theorem yQ {c f:Str} {st:Stmt} (h:gz S (.fset c f xa xb) st=true):∃ oe nm p2 e p,st=.Assign [.Attribute oe nm p2] e p∧(decide (nm=f) && S.fl.contains (c,f) && cm S xa oe && cm S xb e && gX e)=true:=by
 cases st
 case Assign u1 e p =>
  cases u1
  case cons u2 u3 =>
   cases u2
   case Attribute oe nm p2 =>
    cases u3
    case nil =>
     exact ⟨oe,nm,p2,e,p,rfl,h⟩
    all_goals exact absurd h aa
   all_goals exact absurd h aa
  all_goals exact absurd h aa
 all_goals exact absurd h aa
theorem yR {st:Stmt} (h:gz S (.csub xa xb xc) st=true):∃ oe ke q2 ve p,st=.Assign [.Subscript oe ke q2] ve p∧(cM ke && cm S xa oe && cm S xb ke && cm S xc ve && gX ve)=true:=by
 cases st
 case Assign u1 ve p =>
  cases u1
  case cons u2 u3 =>
   cases u2
   case Subscript oe ke q2 =>
    cases u3
    case nil =>
     exact ⟨oe,ke,q2,ve,p,rfl,h⟩
    all_goals exact absurd h aa
   all_goals exact absurd h aa
  all_goals exact absurd h aa
 all_goals exact absurd h aa
theorem yS {i:Nat} {st:Stmt} (h:gz S (.sdap i xa xb) st=true):∃ y q nm apos ke q2 cpos nm2 apos2 e cpos2 p,st=.Expr (.Call (.Attribute (.Call (.Attribute (.Name y q) nm apos) [ke,.List [] q2] [] cpos) nm2 apos2) [e] [] cpos2) p∧(decide (nm="setdefault") && decide (nm2="append") && fc S i y && (apos.endLine == cpos.line) && (apos2.endLine == cpos2.line) && bZ ke && bZ e && cm S xa ke && cm S xb e)=true:=by
 cases st
 case Expr u1 p =>
  cases u1
  case Call u2 u3 u4 cpos2 =>
   cases u2
   case Attribute u5 nm2 apos2 =>
    cases u5
    case Call u6 u7 u8 cpos =>
     cases u6
     case Attribute u9 nm apos =>
      cases u9
      case Name y q =>
       cases u7
       case cons ke u10 =>
        cases u10
        case cons u11 u12 =>
         cases u11
         case List u13 q2 =>
          cases u13
          case nil =>
           cases u12
           case nil =>
            cases u8
            case nil =>
             cases u3
             case cons e u14 =>
              cases u14
              case nil =>
               cases u4
               case nil =>
                exact ⟨y,q,nm,apos,ke,q2,cpos,nm2,apos2,e,cpos2,p,rfl,h⟩
               all_goals exact absurd h aa
              all_goals exact absurd h aa
             all_goals exact absurd h aa
            all_goals exact absurd h aa
           all_goals exact absurd h aa
          all_goals exact absurd h aa
         all_goals exact absurd h aa
        all_goals exact absurd h aa
       all_goals exact absurd h aa
      all_goals exact absurd h aa
     all_goals exact absurd h aa
    all_goals exact absurd h aa
   all_goals exact absurd h aa
  all_goals exact absurd h aa
 all_goals exact absurd h aa
theorem BJ {i:Nat} {st:Stmt} (h:gz S (.upd i xa) st=true):∃ y q nm apos e cpos p,st=.Expr (.Call (.Attribute (.Name y q) nm apos) [e] [] cpos) p∧(decide (nm="update") && fc S i y && bZ e && (apos.endLine == cpos.line) && cm S xa e)=true:=by
 cases st
 case Expr u1 p =>
  cases u1
  case Call u2 u3 u4 cpos =>
   cases u2
   case Attribute u5 nm apos =>
    cases u5
    case Name y q =>
     cases u3
     case cons e u6 =>
      cases u6
      case nil =>
       cases u4
       case nil =>
        exact ⟨y,q,nm,apos,e,cpos,p,rfl,h⟩
       all_goals exact absurd h aa
      all_goals exact absurd h aa
     all_goals exact absurd h aa
    all_goals exact absurd h aa
   all_goals exact absurd h aa
  all_goals exact absurd h aa
 all_goals exact absurd h aa
theorem BK {i:Nat} {st:Stmt} (h:gz S (.ins i xa xb) st=true):∃ y q nm apos ke e cpos p,st=.Expr (.Call (.Attribute (.Name y q) nm apos) [ke,e] [] cpos) p∧(decide (nm="insert") && fc S i y && bZ ke && bZ e && (apos.endLine == cpos.line) && cm S xa ke && cm S xb e)=true:=by
 cases st
 case Expr u1 p =>
  cases u1
  case Call u2 u3 u4 cpos =>
   cases u2
   case Attribute u5 nm apos =>
    cases u5
    case Name y q =>
     cases u3
     case cons ke u6 =>
      cases u6
      case cons e u7 =>
       cases u7
       case nil =>
        cases u4
        case nil =>
         exact ⟨y,q,nm,apos,ke,e,cpos,p,rfl,h⟩
        all_goals exact absurd h aa
       all_goals exact absurd h aa
      all_goals exact absurd h aa
     all_goals exact absurd h aa
    all_goals exact absurd h aa
   all_goals exact absurd h aa
  all_goals exact absurd h aa
 all_goals exact absurd h aa
theorem BL {i:Nat} {st:Stmt} (h:gz S (.swS i xa xb xc) st=true):∃ y q ke q2 z q3 he q4 kc q5 ve p,st=.Assign [.Tuple [.Subscript (.Name y q) ke q2,.Subscript (.Name z q3) he q4] kc q5] ve p∧(!S.hot && fc S i y && decide (z=y) && cM ke && cM he && cm S xa ke && cm S xb he && cm S xc ve)=true:=by
 cases st
 case Assign u1 ve p =>
  cases u1
  case cons u2 u3 =>
   cases u2
   case Tuple u4 kc q5 =>
    cases u4
    case cons u5 u6 =>
     cases u5
     case Subscript u7 ke q2 =>
      cases u7
      case Name y q =>
       cases u6
       case cons u8 u9 =>
        cases u8
        case Subscript u10 he q4 =>
         cases u10
         case Name z q3 =>
          cases u9
          case nil =>
           cases u3
           case nil =>
            exact ⟨y,q,ke,q2,z,q3,he,q4,kc,q5,ve,p,rfl,h⟩
           all_goals exact absurd h aa
          all_goals exact absurd h aa
         all_goals exact absurd h aa
        all_goals exact absurd h aa
       all_goals exact absurd h aa
      all_goals exact absurd h aa
     all_goals exact absurd h aa
    all_goals exact absurd h aa
   all_goals exact absurd h aa
  all_goals exact absurd h aa
 all_goals exact absurd h aa
theorem yT {c f:Str} {st:Stmt} (h:gz S (.rseF c f xa) st=true):∃ z q e p3 p,st=.Raise (some (.Call (.Name z q) [e] [] p3)) none p∧(!S.hot && decide (z=c) && S.ea.contains (c,f) && cP S.sc c && dZ c && bZ e && cm S xa e)=true:=by
 cases st
 case Raise u1 u2 p =>
  cases u1
  case some u3 =>
   cases u3
   case Call u4 u5 u6 p3 =>
    cases u4
    case Name z q =>
     cases u5
     case cons e u7 =>
      cases u7
      case nil =>
       cases u6
       case nil =>
        cases u2
        case none  =>
         exact ⟨z,q,e,p3,p,rfl,h⟩
        all_goals exact absurd h aa
       all_goals exact absurd h aa
      all_goals exact absurd h aa
     all_goals exact absurd h aa
    all_goals exact absurd h aa
   all_goals exact absurd h aa
  all_goals exact absurd h aa
 all_goals exact absurd h aa
theorem BM {c f:Str} {i j:Nat} {st:Stmt} (h:gz S (.trF sa c i f j) st=true):∃ bs z q n m p3 n2 p4 f2 p5 p p1 p2,st=.Try bs [.ExceptHandler (some (.Name z q)) (some n) [.Assign [.Name m p3] (.Attribute (.Name n2 p4) f2 p5) p] p1] [] [] p2∧(!S.hot && cV S sa bs && decide (z=c) && S.ea.contains (c,f) && cP S.sc c && dZ c && decide (S.N[i]?=some n) && decide (S.N[j]?=some m) && decide (i≠j) && fW S.sc n && fW S.sc m && decide (n2=n) && dZ n && fV S.sc n && decide (f2=f) && kq S.sc m)=true:=by
 cases st
 case Try bs u1 u2 u3 p2 =>
  cases u1
  case cons u4 u5 =>
   cases u4
   case ExceptHandler u6 u7 u8 p1 =>
    cases u6
    case some u9 =>
     cases u9
     case Name z q =>
      cases u7
      case some n =>
       cases u8
       case cons u10 u11 =>
        cases u10
        case Assign u12 u13 p =>
         cases u12
         case cons u14 u15 =>
          cases u14
          case Name m p3 =>
           cases u15
           case nil =>
            cases u13
            case Attribute u16 f2 p5 =>
             cases u16
             case Name n2 p4 =>
              cases u11
              case nil =>
               cases u5
               case nil =>
                cases u2
                case nil =>
                 cases u3
                 case nil =>
                  exact ⟨bs,z,q,n,m,p3,n2,p4,f2,p5,p,p1,p2,rfl,h⟩
                 all_goals exact absurd h aa
                all_goals exact absurd h aa
               all_goals exact absurd h aa
              all_goals exact absurd h aa
             all_goals exact absurd h aa
            all_goals exact absurd h aa
           all_goals exact absurd h aa
          all_goals exact absurd h aa
         all_goals exact absurd h aa
        all_goals exact absurd h aa
       all_goals exact absurd h aa
      all_goals exact absurd h aa
     all_goals exact absurd h aa
    all_goals exact absurd h aa
   all_goals exact absurd h aa
  all_goals exact absurd h aa
 all_goals exact absurd h aa
theorem yU {st:Stmt} (h:gz S (.crev xa) st=true):∃ oe nm apos cpos p,st=.Expr (.Call (.Attribute oe nm apos) [] [] cpos) p∧(decide (nm="reverse") && cD oe && (apos.endLine == cpos.line) && cm S xa oe)=true:=by
 cases st
 case Expr u1 p =>
  cases u1
  case Call u2 u3 u4 cpos =>
   cases u2
   case Attribute oe nm apos =>
    cases u3
    case nil =>
     cases u4
     case nil =>
      exact ⟨oe,nm,apos,cpos,p,rfl,h⟩
     all_goals exact absurd h aa
    all_goals exact absurd h aa
   all_goals exact absurd h aa
  all_goals exact absurd h aa
 all_goals exact absurd h aa
theorem yV {st:Stmt} (h:gz S (.capp xa xb) st=true):∃ oe nm apos e cpos p,st=.Expr (.Call (.Attribute oe nm apos) [e] [] cpos) p∧(decide (nm="append") && cD oe && bZ e && (apos.endLine == cpos.line) && cm S xa oe && cm S xb e)=true:=by
 cases st
 case Expr u1 p =>
  cases u1
  case Call u2 u3 u4 cpos =>
   cases u2
   case Attribute oe nm apos =>
    cases u3
    case cons e u5 =>
     cases u5
     case nil =>
      cases u4
      case nil =>
       exact ⟨oe,nm,apos,e,cpos,p,rfl,h⟩
      all_goals exact absurd h aa
     all_goals exact absurd h aa
    all_goals exact absurd h aa
   all_goals exact absurd h aa
  all_goals exact absurd h aa
 all_goals exact absurd h aa
theorem BN {i:Nat} {st:Stmt} (h:gz S (.sub i xa xb) st=true):∃ y q ke q2 ve p,st=.Assign [.Subscript (.Name y q) ke q2] ve p∧(fc S i y && cM ke && cm S xa ke && cm S xb ve && gX ve)=true:=by
 cases st
 case Assign u1 ve p =>
  cases u1
  case cons u2 u3 =>
   cases u2
   case Subscript u4 ke q2 =>
    cases u4
    case Name y q =>
     cases u3
     case nil =>
      exact ⟨y,q,ke,q2,ve,p,rfl,h⟩
     all_goals exact absurd h aa
    all_goals exact absurd h aa
   all_goals exact absurd h aa
  all_goals exact absurd h aa
 all_goals exact absurd h aa
theorem yW {i j:Nat} {st:Stmt} (h:gz S (.setS i j xa xb) st=true):∃ a q0 y q ke q2 kc q3 ve p,st=.Assign [.Tuple [.Name a q0,.Subscript (.Name y q) ke q2] kc q3] ve p∧(!S.hot && jj S i a && fc S j y && cM ke && cm S xa ke && cm S xb ve && jO ve)=true:=by
 cases st
 case Assign u1 ve p =>
  cases u1
  case cons u2 u3 =>
   cases u2
   case Tuple u4 kc q3 =>
    cases u4
    case cons u5 u6 =>
     cases u5
     case Name a q0 =>
      cases u6
      case cons u7 u8 =>
       cases u7
       case Subscript u9 ke q2 =>
        cases u9
        case Name y q =>
         cases u8
         case nil =>
          cases u3
          case nil =>
           exact ⟨a,q0,y,q,ke,q2,kc,q3,ve,p,rfl,h⟩
          all_goals exact absurd h aa
         all_goals exact absurd h aa
        all_goals exact absurd h aa
       all_goals exact absurd h aa
      all_goals exact absurd h aa
     all_goals exact absurd h aa
    all_goals exact absurd h aa
   all_goals exact absurd h aa
  all_goals exact absurd h aa
 all_goals exact absurd h aa
theorem BO {c:Str} {i:Nat} {st:Stmt} (h:gz S (.trA sa c i sb) st=true):∃ bs x q n b0 suite p1 p2,st=.Try bs [.ExceptHandler (some (.Name x q)) (some n) (b0 :: suite) p1] [] [] p2 ∧
  (!S.hot && cV S sa bs && decide (x=c) && S.hn.contains c && cP S.sc c && dZ c && decide (S.N[i]?=some n) && fW S.sc n && cV { S with hot:=true } sb (b0 :: suite))=true:=by
 cases st
 case Try bs hds os fs p =>
  cases hds
  case cons h0 hds =>
   cases h0
   case ExceptHandler t n body p1 =>
    cases t
    case some e =>
     cases e
     case Name x q =>
      cases n
      case some n =>
       cases body
       case cons b0 suite =>
        cases hds
        case nil =>
         cases os
         case nil =>
          cases fs
          case nil=>exact ⟨bs,x,q,n,b0,suite,p1,p,rfl,h⟩
          all_goals exact absurd h aa
         all_goals exact absurd h aa
        all_goals exact absurd h aa
       all_goals exact absurd h aa
      all_goals exact absurd h aa
     all_goals exact absurd h aa
    all_goals exact absurd h aa
  all_goals exact absurd h aa
 all_goals exact absurd h aa
theorem DR {st:Stmt} (h:gz S (.tr sa sb) st=true):∃ bs hds p,st=.Try bs hds [] [] p∧hds≠[]∧(!S.hot && cV S sa bs && yF { S with hot:=true } sb hds)=true:=by
 cases st
 case Try bs hds os fs p =>
  cases hds
  case cons h0 hds =>
   cases os
   case nil =>
    cases fs
    case nil=>exact ⟨bs,h0 :: hds,p,rfl,by simp,h⟩
    all_goals exact absurd h aa
   all_goals exact absurd h aa
  all_goals exact absurd h aa
 all_goals exact absurd h aa
theorem DS {c:Str} {a r:GM.S} {hds:List ExceptHandler} (h:yF S (.hd c a r) hds=true):∃ y q b0 suite p rest,hds=.ExceptHandler (some (.Name y q)) none (b0 :: suite) p :: rest∧(decide (y=c) && S.hn.contains c && cP S.sc c && dZ c && cV S a (b0 :: suite) && yF S r rest)=true:=by
 cases hds
 case cons hd rest =>
  cases hd
  case ExceptHandler t n body p =>
   cases t
   case some e =>
    cases e
    case Name y q =>
     cases n
     case none =>
      cases body
      case cons b0 suite=>exact ⟨y,q,b0,suite,p,rest,rfl,h⟩
      all_goals exact absurd h aa
     all_goals exact absurd h aa
    all_goals exact absurd h aa
   all_goals exact absurd h aa
 all_goals exact absurd h aa
end
structure Go (C:Cx) (S:Sc):Prop where
 po:S.hot=false→PassesOwn (model C.prog C.w) C.A C.env C.xe
 hs:C.stack=C.env :: C.outer
 hf:C.env.frame=some C.env.locals
section
variable {C:Cx} {S:Sc} {G:Gn} {W:WX} {e:Expr} {pos:Pos} {x:X}
theorem uW {H:Hp} {a dx Cc:Addr} {fs fs':List (Str × V)} (ha:H a=none) (hd:H dx=none):upd (del (upd (upd (upd H a (exo a Cc none)) dx (exd dx fs)) a (exo a Cc (some dx))) a) dx (.xd fs')=upd H dx (.xd fs'):=by
 funext b
 by_cases h:b=dx
 ·rw [h,upd_same,upd_same]
 ·rw [upd_ne h,upd_ne h]
  by_cases h2:b=a
  ·rw [h2,del_same,ha]
  ·rw [del_ne h2,upd_ne h2,upd_ne h,upd_ne h2]

theorem yX (B:Gd C S G W) (hh:S.hot=false) {c f:Str} {p p3:Pos} (hF:rF C.prog C.w C.K C.mg C.base G.lv c f) (hg:cP S.sc c=true) (hn:dZ c=true) (hs:bZ e=true) (he:PE C e (rd G.gm W x)) (hx:Passes (L2.CX C.prog C.w) C (fun _ _ _=>False)) :
  PS C (.Raise (some (.Call (.Name c p) [e] [] p3)) none pos) (fun E σ H=>∃ g l s,SR G.Y g σ H l s∧ValS G.gm W g ((b7 G.fs G.gs x l s).bind fun (d,_,s1)=>match d with
   | .int k=>(.er ⟨c,some (.tup [.str f,.int k])⟩ s1 l:R Out)
   | _=>.no) (KO G.gm E)):=by
 obtain ⟨Ca,fI,fd,ps,k,q1,q2,q3,q4,q5,q6,q7,q8,q9⟩:=hF
 refine PS.imp (ps_raise (B.calm hh) B.tk (pmk_oex q2 q5 q6 q8 (Room.mono (B.room hh) q7) q9 .nil hx (B.gl hg) q1 (pa_cons he pa_nil (bY hs)) (di hn) (bY hs) rfl)) ?_
 rintro E σ H ⟨g,l,s,SS,h⟩
 refine ff SS h fun d t s1 g1 v H1 e1 S1 ro h1=>?_
 cases d with
 | int i =>
  have h1:ValS G.gm W g1 (.er ⟨c,some (.tup [.str f,.int i])⟩ s1 l:R Out) (KO G.gm E):=h1
  obtain rfl:=(ro.rd S1).int
  refine ⟨by show 1≤1000; decide,fun a ha=>⟨a,Ca,.int i,rfl,q2,q4,upd_same,fun dx hdx ne=>⟨rfl,dx,[(f,.int i)],upd_same,?_,?_,?_⟩⟩⟩
  ·rw [upd_ne ne,upd_same]
  ·rw [upd_ne ne] at hdx
   exact hdx
  ·rw [upd_ne ne] at hdx
   rw [uW ha hdx]
   have sm:Same H1 (upd H1 dx (.xd [(f,.int i)])):=fun b o hb=>by
    rw [upd_ne (fun z=>by rw [z,hdx] at hb; cases hb)]
    exact hb
   refine h1 g1 σ _ (.ref Ca) (some dx) (.refl g1) (S1.heap sm) ⟨?_,.inr ⟨f,i,dx,rfl,rfl,upd_same⟩⟩
   show G.gm.mg c=_
   rw [show G.gm.mg=C.mg from B.mg]
   exact q1
 | _=>exact h1.elim

theorem BP (tk:Takes C W):Passes (L2.CX C.prog C.w) C (fun _ _ _=>False):=passes_call tk fun _ _ _ _ h=>h.elim
theorem BQ (B:Gd C S G W) (L:Go C S) (hh:S.hot=false) {sb:GM.S} {bs:List Stmt} {c f n m:Str} {i j:Nat} {p q p1 p2 p3 p4 p5:Pos} (hF:rF C.prog C.w C.K C.mg C.base G.lv c f) (hg:cP S.sc c=true) (hn:dZ c=true) (hi:S.N[i]?=some n) (hj:S.N[j]?=some m) (hij:i≠j)
  (h6:fW S.sc n=true) (h7:fW S.sc m=true) (h8:dZ n=true) (hv:fV S.sc n=true) (hm:kq S.sc m=true) (hb:∀ (W':WX) (pn:List (Addr × Obj)) (xe:Value→Shared→Prop),Takes (C.tr pn xe) W'→PassesOwn (model C.prog C.w) C.A C.env xe→PSs (C.tr pn xe) bs (rS G W' sb)) :
  PS C (.Try bs [.ExceptHandler (some (.Name c q)) (some n) [.Assign [.Name m p3] (.Attribute (.Name n p4) f p5) p] p1] [] [] p2) (fun E σ H=>∃ g l s,SR G.Y g σ H l s∧ValS G.gm W g (Bc G.ms (cy G.fs G.gs G.ms sb l s) c i f j) (KO G.gm E)):=by
 obtain ⟨Ca,fI,fd,ps,k0,q1,q2,q3,q4,q5,q6,q7,q8,q9⟩:=hF
 have hk:C.env.kindOf n=some .local:=by
  show C.env.scope.names.lookup n=_
  rw [B.sc]
  exact fe h6
 have hsu:∀ (a':Addr) (oe:Obj) (cls:Value) (d:Option Addr) (pn:List (Addr × Obj)),Zc cls d oe→(∃ vs,oe.data=.fields vs)→PSs (C.suite a' ((a',oe) :: pn)) [.Assign [.Name m p3] (.Attribute (.Name n p4) f p5) p] (tAsg (tXf a' cls d Ca f (tVar i)) (gName j)):=by
  intro a' oe cls d pn hz hf
  refine pss_one (ps_set (by show C.N.Nodup; rw [B.N]; exact B.nd) (by show C.N[j]?=_; rw [B.N]; exact hj) (by show Loc C.env.scope m; rw [B.sc]; exact hW hm) (pe_xf q3 q4 hz hf (pe_var (by show C.N[i]?=_; rw [B.N]; exact hi) (by show Vis C.env.scope n; rw [B.sc]; exact mI hv) (di h8) (oB h8)) rfl) (gj rfl) (.inr (by show C.env.scope.names.lookup m=_; rw [B.sc]; exact fe h7)))
 refine PS.imp (ps_try_as (tb:=fun W'=>rS G W' sb) (i:=i) L.hs L.hf (by rw [B.N]; exact B.nd) (by rw [B.N]; exact hi) hk ⟨B.gl hg,di hn,.inl q1⟩ B.tk hb hsu) ?_
 rintro E σ H ⟨g,l,s,SS,h⟩
 refine ⟨g,l,s,SS,?_⟩
 show ValS G.gm (wAs C.K (.ref Ca) i _ W E) g (cy G.fs G.gs G.ms sb l s) (KO G.gm E)
 cases e:cy G.fs G.gs G.ms sb l s with
 | ok o=>rw [e] at h; exact h
 | no=>rw [e] at h; exact h
 | er ex s1 l1 =>
  rw [e] at h
  have h:ValS G.gm W g (match G.ms ex.cls c with
   | some true=>(match ex.at_ with
    | some (.tup [.str h,.int k])=>if ex.cls=c∧h=f∧i < l1.length then .ok (.nx ((l1.set j (some ⟨.fr,.int k⟩)).set i none) s1) else .no
    | _=>.no)
   | some false=>.er ex s1 l1
   | none=>.no:R Out) (KO G.gm E):=h
  intro g1 σ1 H1 cls dd e1 S1 xr
  have hm:C.mg ex.cls=some cls:=by rw [← B.mg]; exact xr.1
  cases em:G.ms ex.cls c with
  | none=>rw [em] at h; exact h.elim
  | some bb =>
   rw [em] at h
   refine ⟨bb,B.ms ex.cls c bb cls (.ref Ca) em hm q1,fun hb a' ha'=>?_,fun hb=>?_⟩
   ·subst hb
    rcases xr.2 with ⟨z1,_⟩ | ⟨f',k,dx,z1,z2,z3⟩
    ·rw [z1] at h
     exact h.elim
    ·rw [z1] at h
     have h4:ValS G.gm W g (if ex.cls=c∧f'=f∧i < l1.length then .ok (.nx ((l1.set j (some ⟨.fr,.int k⟩)).set i none) s1) else .no:R Out) (KO G.gm E):=h
     clear h
     by_cases hc:ex.cls=c∧f'=f∧i < l1.length
     ·rw [ap hc] at h4
      obtain ⟨hc1,hc2,hc3⟩:=hc
      subst hc2
      rw [hc1,q1] at hm
      have hl:i < σ1.length:=by rw [S1.len]; exact hc3
      refine ⟨.ref a',aL hl,rfl,(ad hm).symm,dx,[(f',.int k)],.int k,z2,z3,by simp [List.lookup],?_⟩
      show E.nx (((σ1.set i (some (.ref a'))).set j (some (.int k))).set i none) H1
      rw [List.set_comm _ _ hij,List.set_set]
      exact h4 g1 e1 _ H1 ((S1.set j (.int k)).gone i)
     ·rw [av hc] at h4
      exact h4.elim
   ·subst hb
    exact (ValS.ext e1 h) g1 σ1 H1 cls dd (.refl g1) S1 xr
end

def Fr.del (F:Fr) (p:Addr):Fr:=⟨fun b=>if b=p then none else F.h b,fun b=>if b=p then none else F.m b⟩
section
variable {Y:Wd} {F:Fr} {H:Hp} {p q:Addr} {vs':List V} {s:cj}
theorem jR {a:Addr} {o:HO} (h:F.h a=some o) (ne:a≠p):(F.del p).h a=some o:=(av ne).trans h
theorem sE {F0:Fr} (e:F0.le F) (h1:F0.h p=none) (h2:∀ n,F0.m p≠some n):F0.le (F.del p) :=
 ⟨fun a o h=>jR (e.s _ _ h) (fun z=>by rw [z,h1] at h; cases h),fun a n h=>(av (fun z=>h2 n (by rw [← z]; exact h))).trans (e.m _ _ h)⟩
theorem pT {ds:List D} {vs:List V} (h:D.lhd ds=true) (r:Rps Y F ds vs):vs≠.ref q :: vs':=by
 intro z
 subst z
 cases r with
 | cons h1 h2 =>
  rename_i d ds
  cases h1 <;> cases h
theorem yY {a:Addr} {vs:List V} (hp:F.h p=some (.lst (.ref q :: vs'))) (h:TuF F.h a vs):a≠p:=fun z=>by
 obtain ⟨o,_,h⟩:=h
 rw [z,hp] at h
 cases h
mutual
theorem Rp.del (hp:F.h p=some (.lst (.ref q :: vs'))) (hs:∀ n,jd s n=true→∀ b,F.m b=some n→b≠p):∀ {d:D} {v:V},Rp Y F d v→D.nl s d=true→Rp Y (F.del p) d v
 | _,_,.non,_=>.non
 | _,_,.bl b,_=>.bl b
 | _,_,.int i,_=>.int i
 | _,_,.str x,_=>.str x
 | _,_,.tup h r,n=>.tup (let ⟨o,hd,h'⟩:=h; ⟨o,hd,jR h' (yY hp h)⟩) (Rps.del hp hs r n)
 | _,_,.lst h r,n =>
  have n':=aE.mp n
  .lst (jR h (fun z=>by
   rw [z,hp] at h
   exact pT n'.1 r (HO.lst.inj (ad h)).symm)) (Rps.del hp hs r n'.2)
 | _,_,.arr h r,n =>
  have n':=aE.mp n
  .arr (h.elim (fun h=>.inl (h.elim (fun h=>.inl (jR h (fun z=>by
   rw [z,hp] at h
   exact pT n'.1 r (HO.lst.inj (ad h)).symm))) fun ⟨o,h⟩=>.inr ⟨o,jR h (fun z=>by
   rw [z,hp] at h
   cases h)⟩)) .inr) (Rps.del hp hs r n'.2)
 | _,_,.dk h r,n=>.dk (jR h (fun z=>by rw [z,hp] at h; cases h)) (Rpk.del hp hs r n)
 | _,_,.dt h o r,n=>.dt (jR h (fun z=>by rw [z,hp] at h; cases h)) o (Rpt.del hp hs r n)
 | _,_,.loc h,n=>.loc ((av (hs _ n _ h)).trans h)
 | _,_,.exc h,_=>.exc h
 | _,_,.fd h r,n=>.fd (jR h (fun z=>by rw [z,hp] at h; cases h)) (Rpk.del hp hs r n)
 | _,_,.tb h,_=>.tb h
theorem Rps.del (hp:F.h p=some (.lst (.ref q :: vs'))) (hs:∀ n,jd s n=true→∀ b,F.m b=some n→b≠p):∀ {ds:List D} {vs:List V},Rps Y F ds vs→D.nls s ds=true→Rps Y (F.del p) ds vs
 | _,_,.nil,_=>.nil
 | _,_,.cons h r,n=>.cons (Rp.del hp hs h (aE.mp n).1) (Rps.del hp hs r (aE.mp n).2)
theorem Rpk.del (hp:F.h p=some (.lst (.ref q :: vs'))) (hs:∀ n,jd s n=true→∀ b,F.m b=some n→b≠p):∀ {ps:List (D × D)} {kvs:List (Key × V)},Rpk Y F ps kvs→D.nlp s ps=true→Rpk Y (F.del p) ps kvs
 | _,_,.nil,_=>.nil
 | (k,d) :: ps,_,.cons h r t,n =>
  have n':((D.nl s k && D.nl s d) && D.nlp s ps)=true:=n
  .cons h (Rp.del hp hs r (aE.mp (aE.mp n').1).2) (Rpk.del hp hs t (aE.mp n').2)
theorem Rpt.del (hp:F.h p=some (.lst (.ref q :: vs'))) (hs:∀ n,jd s n=true→∀ b,F.m b=some n→b≠p):∀ {ps:List (D × D)} {xs:List (NestedKey × Addr × Value)},Rpt Y F ps xs→D.nlp s ps=true→Rpt Y (F.del p) ps xs
 | _,_,.nil,_=>.nil
 | (kk,d) :: ps,_,.cons h z k r u t,n =>
  have n':((D.nl s kk && D.nl s d) && D.nlp s ps)=true:=n
  .cons h z (Rp.del hp hs k (aE.mp (aE.mp n').1).1) (Rp.del hp hs r (aE.mp (aE.mp n').1).2) u (Rpt.del hp hs t (aE.mp n').2)
end

theorem TpW.del (hp:F.h p=some (.lst (.ref q :: vs'))) (hs:∀ n,jd s n=true→∀ b,F.m b=some n→b≠p) {d:D} {v:V} (h:TpW Y F H d v) (n:D.nlT s d=true):TpW Y (F.del p) H d v:=by
 cases h with
 | lst h r=>exact .lst h (r.del hp hs n)
 | dk h r=>exact .dk h (r.del hp hs n)
 | dt h o r=>exact .dt h o (r.del hp hs n)
theorem FldR.del (hp:F.h p=some (.lst (.ref q :: vs'))) (hs:∀ n,jd s n=true→∀ b,F.m b=some n→b≠p) {fs:List (Str × D)} {fv:List (Str × V)} (h:FldR Y F fs fv) (n:(fs.all fun p=>D.nl s p.2)=true):FldR Y (F.del p) fs fv:=fun f=>by
 have k:=h f
 cases el:fs.lookup f with
 | none=>rw [el] at k; exact k
 | some d =>
  rw [el] at k
  obtain ⟨v,h1,h2⟩:=k
  have hm:(f,d)∈fs:=by
   clear h n h1 h2
   induction fs with
   | nil=>cases el
   | cons a r ih =>
    obtain ⟨x,y⟩:=a
    rw [List.lookup_cons] at el
    by_cases e:f=x
    ·subst e
     rw [bz] at el
     obtain rfl:=ad el
     exact aj
    ·rw [show (f == x)=false from bp.mpr e] at el
     exact ao _ (ih el)
  exact ⟨v,h1,h2.del hp hs (aR.mp n _ hm)⟩
end
section
variable {Y:Wd} {g g4:Gh} {σ:L2.St} {H H4:Hp} {l:Lc} {s s4:cj} {p q:Addr} {vs':List V}

theorem StR.del (S:StR Y g4 H4 s4) (hp:g4.F.h p=some (.lst (.ref q :: vs'))) (hM:∀ n,g4.M p≠some n):StR Y ⟨g4.F.del p,g4.B,g4.M⟩ H4 (s4.map (Cell.fgt s4)):=by
 have off:∀ {n a},CAt g4.F g4.B n a→a≠p:=fun k z=>by
  have:=k.f
  rw [z,hp] at this
  cases this
 have hs:∀ n,jd s4 n=true→∀ b,g4.F.m b=some n→b≠p:=fun n h b hb=>by
  unfold jd at h
  cases e:s4[n]? with
  | none=>rw [e] at h; cases h
  | some c =>
   have k:=S.at_ n c e
   cases k with
   | obj k _=>rw [k.u b hb]; exact off k
   | ins k _ _ _=>rw [k.u b hb]; exact off k
   | fz=>rw [e] at h; cases h
 have dm:∀ {a n},(g4.F.del p).m a=some n→g4.F.m a=some n:=fun {a n} h=>by
  have h:(if a=p then none else g4.F.m a)=some n:=h
  split at h
  ·cases h
  ·exact h
 have ca:∀ {n a},CAt g4.F g4.B n a→CAt (g4.F.del p) g4.B n a:=fun {n a} k=>⟨(av (off k)).trans k.m,fun b hb=>k.u b (dm hb),by
  show (if a=p then none else g4.F.h a)=none
  rw [av (off k)]
  exact k.f,k.b⟩
 refine ⟨fun n c h=>?_,fun a n h=>S.lv a n (dm h),fun h a n e=>?_,fun h=>?_,fun a n h=>?_⟩
 ·rw [aD,az] at h
  obtain ⟨c0,e0,rfl⟩:=h
  have k:=S.at_ n c0 e0
  cases k with
  | obj k t =>
   rename_i d a
   show CellR Y (g4.F.del p) g4.B H4 n (if D.nlT s4 d=true then .obj d else .fz)
   split
   ·rename_i hn
    exact .obj (ca k) (t.del hp hs hn)
   ·exact .fz
  | ins k t u f =>
   rename_i cc fs a dx fv
   show CellR Y (g4.F.del p) g4.B H4 n (if (fs.all fun p=>D.nl s4 p.2)=true then .ins cc fs else .fz)
   split
   ·rename_i hn
    exact .ins (ca k) t u (f.del hp hs hn)
   ·exact .fz
  | fz=>exact .fz
 ·have:=S.lt (fun z=>h (by rw [z]; rfl)) a n (dm e)
  exact ⟨by rw [ac]; exact this.1,this.2⟩
 ·have e:s4=[]:=List.map_eq_nil_iff.mp h
  have e2:=S.no e
  funext b
  show (if b=p then none else g4.F.m b)=g4.M b
  split
  ·rename_i z
   rw [z]
   cases h:g4.M p with
   | none=>rfl
   | some n=>exact absurd h (hM n)
  ·rw [e2]
 ·have ne:a≠p:=fun z=>hM n (by rw [← z]; exact h)
  exact (av ne).trans (S.mb a n h)
end
section
variable {C:Cx} {S:Sc} {G:Gn} {W:WX} {e:Expr} {pos:Pos} {xa:X}

theorem yZ {i:Nat} (he:PE C e (rd G.gm W xa)) (hn:gX e=true):PS C (.Expr e pos) (rS G W (.lend i xa)):=by
 refine PS.imp (ps_expr he (gj hn)) ?_
 rintro E σ H ⟨g,l,s,SS,h⟩
 have h:ValS G.gm W g (match l[i]? with
  | some (some ⟨.ow,.lst ds⟩)=>if wq i l ds=true then (b7 G.fs G.gs xa (l.set i (some ⟨.fr,.lst ds⟩)) s).bind fun (_,_,s1)=>.ok (.nx l (s1.map (Cell.fgt s1))) else .no
  | _=>.no) (KO G.gm E):=h
 split at h
 ·rename_i ds e0
  split at h
  ·rename_i hb
   obtain ⟨hd,ho⟩:=aE.mp hb
   obtain ⟨v,h1,tp,no⟩:=SS.sl i _ e0
   cases tp with
   | lst hl rp =>
    rename_i p vs
    obtain ⟨hF,hB,hm⟩:=no p rfl
    obtain ⟨S2,E2⟩:=(SS.forget i).add hl hF hm hB (SS.alone h1 e0)
    have rl:Rp G.Y (g.F.upd p (.lst vs)) (.lst ds) (.ref p):=.lst upd_same (rp.mono E2.f)
    have S3:=S2.set i rl
    rw [je h1,kK] at S3
    obtain ⟨q,vs',rfl⟩:∃ q vs',vs=.ref q :: vs':=by
     cases ds with
     | nil=>cases hd
     | cons d ds =>
      cases d with
      | tup xs =>
       cases rp with
       | cons a b =>
        cases a with
        | tup _ _=>exact ⟨_,_,rfl⟩
      | _=>cases hd
    have hM:∀ n,g.M p≠some n:=fun n z=>hm n (SS.st.mb p n z)
    refine ⟨_,_,s,S3,?_⟩
    have h:ValS G.gm W ⟨g.F.upd p (.lst (.ref q :: vs')),g.B,g.M⟩ ((b7 G.fs G.gs xa (l.set i (some ⟨.fr,.lst ds⟩)) s).bind fun (_,_,s1)=>(.ok (.nx l (s1.map (Cell.fgt s1))):R Out)) (fun o g'=>match o with
      | .nx l' s'=>∀ σ' H',SR G.Y ⟨g'.F.del p,g'.B,g'.M⟩ σ' H' l' s'→E.nx σ' H'
      | _=>False):=by
     cases er:b7 G.fs G.gs xa (l.set i (some ⟨.fr,.lst ds⟩)) s with
     | ok z =>
      obtain ⟨d,t,s1⟩:=z
      rw [er] at h
      have h:ValS G.gm W g (.ok (.nx l (s1.map (Cell.fgt s1))):R Out) (KO G.gm E):=h
      intro g4 e4 σ' H' S5
      refine h ⟨g4.F.del p,g4.B,g4.M⟩ ⟨e4.b,sE (E2.f.trans e4.f) hF hm,fun a o h1 h2=>?_,e4.m⟩ σ' H' S5
      have h1:(if a=p then none else g4.F.h a)=some o:=h1
      split at h1
      ·cases h1
      ·rename_i ne
       exact e4.new a o h1 (by show upd g.F.h p _ a=none; rw [upd_ne ne]; exact h2)
     | er e1 s1 l1 =>
      rw [er] at h
      have h:ValS G.gm W g (.er e1 s1 l1:R Out) (KO G.gm E):=h
      exact ValS.ext E2 h
     | no=>rw [er] at h; exact h
    cases er:b7 G.fs G.gs xa (l.set i (some ⟨.fr,.lst ds⟩)) s with
    | no=>rw [er] at h; exact h
    | er e1 s1 l1 =>
     rw [er] at h
     intro g4 H' c dd e4 S4 xr
     exact h g4 σ H' c dd e4 S4 xr
    | ok z =>
     obtain ⟨d,t,s1⟩:=z
     rw [er] at h
     intro g4 v4 H4 e4 S4 _
     have hp:g4.F.h p=some (.lst (.ref q :: vs')):=e4.f.s _ _ upd_same
     have gM:g4.M=g.M:=e4.m
     have gB:g4.B=g.B:=e4.b
     have le:g.F.le (g4.F.del p):=sE (E2.f.trans e4.f) hF hm
     refine h g4 e4 σ H4 ⟨S4.sB,fun a o h1=>?_,?_,fun j z hz=>?_,fun j k z y a hj hk oj ok _ _=>?_,S4.st.del hp (by rw [gM]; exact hM)⟩
     ·have h1:(if a=p then none else g4.F.h a)=some o:=h1
      split at h1
      ·cases h1
      ·exact S4.sF a o h1
     ·exact SS.len
     ·by_cases ij:j=i
      ·subst ij
       rw [e0] at hz
       obtain rfl:=ad (ad hz)
       refine ⟨.ref p,h1,.lst (S4.sF _ _ hp) (rp.mono le),fun a ea=>?_⟩
       obtain rfl:p=a:=V.ref.inj ea
       refine ⟨ap rfl,by show g4.B p=none; rw [gB]; exact hB,fun n z=>?_⟩
       have z:(if p=p then none else g4.F.m p)=some n:=z
       rw [ap rfl] at z
       cases z
      ·obtain ⟨w,k1,k2⟩:=SS.sl j z hz
       refine ⟨w,k1,?_⟩
       obtain ⟨k,d'⟩:=z
       cases k with
       | fr=>exact Rp.mono le k2
       | bo =>
        show Rp G.Y (g4.F.del p) d' w∨TpW G.Y (g4.F.del p) g4.B d' w
        rw [gB]
        exact k2.imp (fun z=>z.mono le) fun z=>z.mono le (Same.refl _)
       | ow =>
        exfalso
        have hx:=aR.mp ho (some ⟨.ow,d'⟩) (aZ (by rw [ay (Ne.symm ij)]; exact hz))
        cases hx
       | nw=>exact k2
     ·have own:∀ {j:Nat} {z:Sl},l[j]?=some (some z)→z.k=.ow→j=i:=fun {j z} hz ok=>by
       apply Decidable.byContradiction
       intro ij
       obtain ⟨k,d'⟩:=z
       have ok:k=.ow:=ok
       subst ok
       have hx:=aR.mp ho (some ⟨.ow,d'⟩) (aZ (by rw [ay (Ne.symm ij)]; exact hz))
       cases hx
      rw [own hj oj,own hk ok]
  ·exact h.elim
 ·exact h.elim
end
section
variable {C:Cx} {S:Sc} {G:Gn} {W:WX} {x:X}
theorem j6 {i:Nat} {y:Str} (h:jj S i y=true):S.N[i]?=some y∧kq S.sc y=true∧(S.top || fW S.sc y)=true:=by
 unfold jj at h
 simp only [ab,af] at h
 exact ⟨h.1.1,h.1.2,h.2⟩
theorem dO {i:Nat} {y:Str} (h:fc S i y=true):S.N[i]?=some y∧fV S.sc y=true∧dZ y=true:=by
 unfold fc at h
 simp only [ab,af] at h
 exact ⟨h.1.1,h.1.2,h.2⟩
theorem BR (B:Gd C S G W) {y:Str} (hf:(S.top || fW S.sc y)=true):C.fn y=true∨C.env.scope.names.lookup y=some .local:=by
 rw [bC] at hf
 rcases hf with h | h
 ·exact .inl ((B.top h).1 y)
 ·rw [B.sc]; exact .inr (fe h)
theorem sG {sc:Scope} {y:Str} (h:fW sc y=false):sc.names.lookup y≠some .local:=fun e=>by
 unfold fW at h
 rw [e] at h
 cases h
theorem oX (B:Gd C S G W) {i:Nat} {y:Str} {py pos:Pos} {e:Expr} {te:TE} (hn:jj S i y=true) (he:PE C e te) (hs:swapsWith e (some (.Name y py)) pos.line C.env=pure false):PS C (.Assign [.Name y py] e pos) (tAsg te (gName i)):=by
 obtain ⟨h1,h2,h3⟩:=j6 hn
 exact ps_set (by rw [B.N]; exact B.nd) (by rw [B.N]; exact h1) (by rw [B.sc]; exact hW h2) he hs (BR B h3)
theorem uX:∀ {x:X} {el:Expr} {gs:List Comprehension} {scope:Scope} {p:Pos},qF x=true→cm S x (.ListComp el gs scope p)=true→∃ own t it c e,x=.comp own t it c e:=by
 intro x el gs scope p hce h
 cases x
 case comE=>cases hce
 case comp own t it c e=>exact ⟨own,t,it,c,e,rfl⟩
 case dic k ks vs=>rcases wo h with ⟨_,_,_,q⟩ | ⟨_,_,_,_,_,_,_,q,_⟩ <;> cases q
 all_goals exact absurd h aa
theorem wu (B:Gd C S G W) {i:Nat} {y:Str} {py pos:Pos} {e:Expr} (h:(jj S i y && cm S x e && (Bx S y py e && qF x))=true):PS C (.Assign [.Name y py] e pos) (tAsg (rd G.gm W x) (gName i)):=by
 simp only [ab] at h
 obtain ⟨⟨hn,hk⟩,hl,hce⟩:=h
 have he:=((cO x).E B e hk).1
 by_cases hc:gX e=true
 ·exact oX B hn he (gj hc)
 ·cases e
  case ListComp el gs scope p =>
   by_cases hy:fW S.sc y=true
   ·have hl:(if fW S.sc y=true then DP S.sc && (py.line == p.line) && !(scope.names.any fun (n,k)=>n == y && (k == .local || k == .cell)) else true)=true:=hl
    rw [ap hy] at hl
    simp only [ab,aw] at hl
    obtain ⟨⟨l1,l2⟩,l3⟩:=hl
    obtain ⟨own,t,it,c,xe,rfl⟩:=uX hce hk
    obtain ⟨el',tg,ite,ifs,scope',p',ee,hh⟩:=sn hk
    cases ee
    simp only [ab,aw] at hh
    obtain ⟨⟨⟨⟨⟨⟨⟨h0,h1⟩,h2⟩,h3⟩,h4⟩,h5⟩,h6⟩,h7⟩:=hh
    refine uv B h0 h2 h1 (j6 hn).1 hy (sw_true ?_ ?_ l2 l3) (nf h3) ((cO it).I B _ _ h4) (fun s H Cc cl fp=>xq (B.blk h0 scope s H Cc cl fp) h5)
     (fun s H Cc cl fp=>wp (cO c) (B.blk h0 scope s H Cc cl fp) ifs h7) (fun s H Cc cl fp=>((cO xe).E (B.blk h0 scope s H Cc cl fp) _ h6).1)
    ·rw [B.sc]
     unfold DP at l1
     split at l1 <;> first | assumption | cases l1
    ·rw [B.sc]
     exact fe hy
   ·exact oX B hn he (Be (by rw [B.sc]; exact sG (by simpa using hy)))
  case SetComp=>exact absurd hl aa
  case DictComp=>exact absurd hl aa
  all_goals exact absurd rfl hc

theorem Gd.tr (B:Gd C S G W) (hh:S.hot=false) {W':WX} (pn:List (Addr × Obj)) (xe:Value→Shared→Prop) (tk:Takes (C.tr pn xe) W'):Gd (C.tr pn xe) S G W' :=
 ⟨B.N,B.nd,B.sc,B.cool,B.un,B.top,tk,B.Y,B.mg,B.fns,B.blt,B.gns,B.exs,B.hns,B.ms,B.fl,B.mt,B.mks,(fun a nm h=>by rw [B.px0 hh] at h; cases h),(fun _=>B.px0 hh),⟨B.rmh.dp,B.rmh.un⟩,B.xs,B.hx,B.xi,B.isc,B.ea⟩
theorem Gd.suite (B:Gd C S G W) (hh:S.hot=false) (a:Addr) (pn:List (Addr × Obj)):Gd (C.suite a pn) { S with hot:=true } G WF :=
 ⟨B.N,B.nd,B.sc,(fun h=>by cases h),B.un,B.top,takes0,B.Y,B.mg,(fun h=>by cases h),B.blt,B.gns,B.exs,B.hns,B.ms,B.fl,(fun h=>by cases h),(fun h=>by cases h),(fun a nm h=>by rw [B.px0 hh] at h; cases h),(fun h=>by cases h),⟨B.rmh.dp,B.rmh.un⟩,B.xs,B.hx,B.xi,B.isc,(fun h=>by cases h)⟩

def Gn.held (G:Gn) (a:Addr) (nm:Str):Gn:={ G with Y:={ G.Y with pn:=fun b=>if b=a then some nm else none } }
theorem Gd.suiteN (B:Gd C S G W) {a:Addr} {oe:Obj} {nm:Str} (pn:List (Addr × Obj)) (hx:Dg C.mg nm oe):Gd (C.suite a ((a,oe) :: pn)) { S with hot:=true } (G.held a nm) WF :=
 ⟨B.N,B.nd,B.sc,(fun h=>by cases h),B.un,B.top,takes0,(by show (⟨G.Y.P,G.Y.w,G.Y.K,_⟩:Wd)=_; rw [B.hY.1,B.hY.2,B.hK]; rfl),B.mg,(fun h=>by cases h),B.blt,B.gns,B.exs,B.hns,B.ms,B.fl,(fun h=>by cases h),(fun h=>by cases h),
  (fun b m h=>by
   have h:(if b=a then some nm else none)=some m:=h
   split at h
   ·rename_i e
    cases h
    exact ⟨oe,by rw [e]; exact aj,hx⟩
   ·cases h),(fun h=>by cases h),⟨B.rmh.dp,B.rmh.un⟩,B.xs,B.hx,B.xi,B.isc,(fun h=>by cases h)⟩
theorem Go.suite (L:Go C S) (a:Addr) (pn:List (Addr × Obj)):Go (C.suite a pn) { S with hot:=true }:=⟨(fun h=>by cases h),L.hs,L.hf⟩
end
structure SndS (x:GM.S):Prop where
 F:∀ {C:Cx} {S:Sc} {G:Gn} {W:WX} (B:Gd C S G W) (L:Go C S) (st:Stmt),gz S x st=true→PS C st (rS G W x)
 L:∀ {C:Cx} {S:Sc} {G:Gn} {W:WX} (B:Gd C S G W) (L:Go C S) (sts:List Stmt),cV S x sts=true→PSs C sts (rS G W x)
 H:∀ {C:Cx} {S:Sc} {G:Gn} {W:WX} (B:Gd C S G W) (hh:S.hot=false) (L:Go C S) (hds:List ExceptHandler),yF { S with hot:=true } x hds=true→∃ lst,HdsOk C hds lst ∧
  ∀ (E:Ends) (g:Gh) (σ:L2.St) (H:Hp) (l:Lc) (s:cj) (e:Ex) (c:Value) (dd:Option Addr),SR G.Y g σ H l s→wG G.mg e c dd H→ValS G.gm W g (Bd G.fs G.gs G.ms e x l s) (KO G.gm E)→wMany C.K W E lst c dd σ H
theorem SndS.ofF {x:GM.S} (h:∀ {C:Cx} {S:Sc} {G:Gn} {W:WX} (B:Gd C S G W) (L:Go C S) (st:Stmt),gz S x st=true→PS C st (rS G W x)) (h1:∀ S es,cV S x es=false) (h2:∀ S es,yF S x es=false):SndS x :=
 ⟨h,(fun B L es q=>by rw [h1] at q; cases q),(fun B _ L es q=>by rw [h2] at q; cases q)⟩
theorem sH:∀ x:GM.S,SndS x:=by
 intro x
 induction x with
 | nil =>
  refine ⟨fun B L st h=>(by cases h),fun B L sts h=>?_,fun B hh0 L hds h=>?_⟩
  ·cases sts with
   | nil=>exact Bg
   | cons _ _=>cases h
  ·cases hds with
   | nil =>
    refine ⟨[],.nil,fun E g σ H l s e c dd SS ex h=>?_⟩
    exact h g σ H c dd (.refl g) SS ex
   | cons _ _=>cases h
 | cons a b iha ihb =>
  refine ⟨fun B L st h=>(by cases h),fun B L sts h=>?_,fun B _ L hds h=>(by cases hds <;> cases h)⟩
  cases sts with
  | nil=>cases h
  | cons st sts =>
   have h:(gz _ a st && cV _ b sts)=true:=h
   simp only [ab] at h
   exact Bh (iha.F B L st h.1) (ihb.L B L sts h.2)
 | pass =>
  refine .ofF (fun B L st h=>?_) (fun _ es=>by cases es <;> rfl) (fun _ es=>by cases es <;> rfl)
  obtain ⟨p,rfl⟩:=yG h
  exact yo
 | brk =>
  refine .ofF (fun B L st h=>?_) (fun _ es=>by cases es <;> rfl) (fun _ es=>by cases es <;> rfl)
  obtain ⟨p,rfl⟩:=By h
  exact Bf
 | cont =>
  refine .ofF (fun B L st h=>?_) (fun _ es=>by cases es <;> rfl) (fun _ es=>by cases es <;> rfl)
  obtain ⟨p,rfl⟩:=yH h
  exact yp
 | ex x =>
  refine .ofF (fun B L st h=>?_) (fun _ es=>by cases es <;> rfl) (fun _ es=>by cases es <;> rfl)
  obtain ⟨e,p,rfl,hh⟩:=DQ h
  simp only [ab] at hh
  exact DL ((cO x).E B e hh.2).1 hh.1
 | set t x =>
  refine .ofF (fun B L st h=>?_) (fun _ es=>by cases es <;> rfl) (fun _ es=>by cases es <;> rfl)
  cases t with
  | n i =>
   obtain ⟨y,py,e,p,rfl,hh⟩:=yJ h
   exact yq (wu B hh)
  | t ts =>
   obtain ⟨es,k,q,e,p,rfl,hh⟩:=yK h
   simp only [ab] at hh
   exact yr ((cO x).E B e hh.1.2).1 (xq B hh.1.1) hh.2
  | nil=>cases st <;> cases h
  | cons a b=>cases st <;> cases h
 | own i x =>
  refine .ofF (fun B L st h=>?_) (fun _ es=>by cases es <;> rfl) (fun _ es=>by cases es <;> rfl)
  obtain ⟨y,py,e,p,rfl,hh⟩:=Bz h
  exact Bi (wu B hh)
 | aug i x =>
  refine .ofF (fun B L st h=>?_) (fun _ es=>by cases es <;> rfl) (fun _ es=>by cases es <;> rfl)
  obtain ⟨y,py,e,p,rfl,hh⟩:=BA h
  simp only [ab] at hh
  obtain ⟨h1,h2,h3⟩:=j6 hh.1
  exact Bk B h1 h2 h3 ((cO x).E B e hh.2).1
 | fz is a ih =>
  refine .ofF (fun B L st h=>?_) (fun _ es=>by cases es <;> rfl) (fun _ es=>by cases es <;> rfl)
  exact DM (ih.F B L st (by cases st <;> exact h))
 | ife c a b iha ihb =>
  refine .ofF (fun B L st h=>?_) (fun _ es=>by cases es <;> rfl) (fun _ es=>by cases es <;> rfl)
  obtain ⟨t,bs,os,p,rfl,hh⟩:=BB h
  simp only [ab] at hh
  exact DN ((cO c).E B t hh.1.1).2 (iha.L B L bs hh.1.2) (ihb.L B L os hh.2)
 | loop t it b ihb =>
  refine .ofF (fun B L st h=>?_) (fun _ es=>by cases es <;> rfl) (fun _ es=>by cases es <;> rfl)
  obtain ⟨tg,ite,bs,p,rfl,hh⟩:=yL h
  simp only [ab,aw] at hh
  obtain ⟨⟨⟨⟨h0,h1⟩,h2⟩,h3⟩,h4⟩:=hh
  exact Bl B (L.po h0) h0 h1 ((cO it).I B _ _ h2) (xq B h3) (ihb.L B L bs h4)
 | whl c b ihb =>
  refine .ofF (fun B L st h=>?_) (fun _ es=>by cases es <;> rfl) (fun _ es=>by cases es <;> rfl)
  obtain ⟨t,bs,p,rfl,hh⟩:=BC h
  simp only [ab,aw] at hh
  obtain ⟨⟨h0,h1⟩,h2⟩:=hh
  exact uT (L.po h0) ((cO c).E B t h1).2 (ihb.L B L bs h2)
 | ret x =>
  refine .ofF (fun B L st h=>?_) (fun _ es=>by cases es <;> rfl) (fun _ es=>by cases es <;> rfl)
  obtain ⟨e,p,rfl,hh⟩:=BD h
  exact Bm ((cO x).E B e hh).1
 | retN =>
  refine .ofF (fun B L st h=>?_) (fun _ es=>by cases es <;> rfl) (fun _ es=>by cases es <;> rfl)
  obtain ⟨p,rfl⟩:=yM h
  exact yu
 | rse c =>
  refine .ofF (fun B L st h=>?_) (fun _ es=>by cases es <;> rfl) (fun _ es=>by cases es <;> rfl)
  obtain ⟨y,q,m,j,q2,q3,p,rfl,hh⟩:=BE h
  simp only [ab,aw,af] at hh
  obtain ⟨⟨⟨⟨h0,rfl⟩,h2⟩,h3⟩,h4⟩:=hh
  exact uU B h0 (aK.mp h2) h3 h4
 | app i x =>
  refine .ofF (fun B L st h=>?_) (fun _ es=>by cases es <;> rfl) (fun _ es=>by cases es <;> rfl)
  obtain ⟨y,q,nm,apos,e,cpos,p,rfl,hh⟩:=BF h
  simp only [ab,af] at hh
  obtain ⟨⟨⟨⟨rfl,h1⟩,h2⟩,h3⟩,h4⟩:=hh
  obtain ⟨k1,k2,k3⟩:=dO h1
  exact Bn B k1 k2 k3 h2 h3 ((cO x).E B e h4).1
 | ext i x =>
  refine .ofF (fun B L st h=>?_) (fun _ es=>by cases es <;> rfl) (fun _ es=>by cases es <;> rfl)
  obtain ⟨y,q,nm,apos,e,cpos,p,rfl,hh⟩:=BG h
  simp only [ab,af] at hh
  obtain ⟨⟨⟨⟨rfl,h1⟩,h2⟩,h3⟩,h4⟩:=hh
  obtain ⟨k1,k2,k3⟩:=dO h1
  exact Bo B k1 k2 k3 h2 h3 ((cO x).E B e h4).1
 | rvs i =>
  refine .ofF (fun B L st h=>?_) (fun _ es=>by cases es <;> rfl) (fun _ es=>by cases es <;> rfl)
  obtain ⟨y,q,nm,apos,cpos,p,rfl,hh⟩:=BH h
  simp only [ab,af] at hh
  obtain ⟨⟨rfl,h1⟩,h2⟩:=hh
  obtain ⟨k1,k2,k3⟩:=dO h1
  exact Bp B k1 k2 k3 h2
 | appPop i j x =>
  refine .ofF (fun B L st h=>?_) (fun _ es=>by cases es <;> rfl) (fun _ es=>by cases es <;> rfl)
  obtain ⟨y,q,nm,apos,z,q2,nm2,apos2,es,cpos2,cpos,p,rfl,hh⟩:=sD h
  simp only [ab,af] at hh
  obtain ⟨⟨⟨⟨⟨⟨rfl,h1⟩,h2⟩,rfl⟩,h3⟩,h4⟩,h5⟩:=hh
  obtain ⟨k1,k2,k3⟩:=dO h1
  obtain ⟨j1,j2,j3⟩:=dO h3
  exact sC B k1 k2 k3 rfl h2 (lV B j1 j2 j3 h4 h5)
 | popX j x =>
  refine .ofF (fun B L st h=>?_) (fun _ es=>by cases es <;> rfl) (fun _ es=>by cases es <;> rfl)
  obtain ⟨z,q2,nm2,apos2,es,cpos2,p,rfl,hh⟩:=yN h
  simp only [ab,af] at hh
  obtain ⟨⟨⟨rfl,h3⟩,h4⟩,h5⟩:=hh
  obtain ⟨j1,j2,j3⟩:=dO h3
  exact yw (lV B j1 j2 j3 h4 h5) rfl
 | popT t j x =>
  refine .ofF (fun B L st h=>?_) (fun _ es=>by cases es <;> rfl) (fun _ es=>by cases es <;> rfl)
  cases t with
  | n i =>
   obtain ⟨y,q,z,q2,nm2,apos2,es,cpos2,p,rfl,hh⟩:=yO h
   simp only [ab,af] at hh
   obtain ⟨⟨⟨⟨h1,rfl⟩,h3⟩,h4⟩,h5⟩:=hh
   obtain ⟨j1,j2,j3⟩:=dO h3
   have he:=lV (p:=q2) (x:=x) B j1 j2 j3 h4 h5
   exact yx he (oX B h1 he rfl)
  | t ts =>
   obtain ⟨es0,k,q,z,q2,nm2,apos2,es,cpos2,p,rfl,hh⟩:=yP h
   simp only [ab,af] at hh
   obtain ⟨⟨⟨⟨h1,rfl⟩,h3⟩,h4⟩,h5⟩:=hh
   obtain ⟨j1,j2,j3⟩:=dO h3
   exact yy (lV B j1 j2 j3 h4 h5) (xq B h1) rfl
  | nil=>cases st <;> cases h
  | cons a b=>cases st <;> cases h
 | sub i k v =>
  refine .ofF (fun B L st h=>?_) (fun _ es=>by cases es <;> rfl) (fun _ es=>by cases es <;> rfl)
  obtain ⟨y,q,ke,q2,ve,p,rfl,hh⟩:=BN h
  simp only [ab] at hh
  obtain ⟨⟨⟨⟨h1,h2⟩,h3⟩,h4⟩,h5⟩:=hh
  obtain ⟨k1,k2,k3⟩:=dO h1
  exact Br B k1 k2 k3 h2 ((cO k).E B ke h3).1 ((cO v).E B ve h4).1 h5
 | setS i j k x =>
  refine .ofF (fun B L st h=>?_) (fun _ es=>by cases es <;> rfl) (fun _ es=>by cases es <;> rfl)
  obtain ⟨a,q0,y,q,ke,q2,kc,q3,ve,p,rfl,hh⟩:=yW h
  simp only [ab,aw] at hh
  obtain ⟨⟨⟨⟨⟨⟨h0,h1⟩,h2⟩,h3⟩,h4⟩,h5⟩,h6⟩:=hh
  obtain ⟨j1,j2,j3⟩:=j6 h1
  obtain ⟨k1,k2,k3⟩:=dO h2
  exact yz B h0 j1 j2 j3 k1 k2 k3 h3 ((cO k).E B ke h4).1 ((cO x).E B ve h5).1 h6
 | fset c f o x =>
  refine .ofF (fun B L st h=>?_) (fun _ es=>by cases es <;> rfl) (fun _ es=>by cases es <;> rfl)
  obtain ⟨oe,nm,p2,e,p,rfl,hh⟩:=yQ h
  simp only [ab,af,aK] at hh
  obtain ⟨⟨⟨⟨rfl,h1⟩,h2⟩,h3⟩,h4⟩:=hh
  exact yA B h1 ((cO o).E B oe h2).1 ((cO x).E B e h3).1 h4
 | csub o k v =>
  refine .ofF (fun B L st h=>?_) (fun _ es=>by cases es <;> rfl) (fun _ es=>by cases es <;> rfl)
  obtain ⟨oe,ke,q2,ve,p,rfl,hh⟩:=yR h
  simp only [ab] at hh
  obtain ⟨⟨⟨⟨h1,h2⟩,h3⟩,h4⟩,h5⟩:=hh
  exact yE B h1 ((cO o).E B oe h2).1 ((cO k).E B ke h3).1 ((cO v).E B ve h4).1 h5
 | capp o x =>
  refine .ofF (fun B L st h=>?_) (fun _ es=>by cases es <;> rfl) (fun _ es=>by cases es <;> rfl)
  obtain ⟨oe,nm,apos,e,cpos,p,rfl,hh⟩:=yV h
  simp only [ab,af] at hh
  obtain ⟨⟨⟨⟨⟨rfl,h1⟩,h2⟩,h3⟩,h4⟩,h5⟩:=hh
  exact yB h2 h3 h1 ((cO o).E B oe h4).1 ((cO x).E B e h5).1
 | sdap i k x =>
  refine .ofF (fun B L st h=>?_) (fun _ es=>by cases es <;> rfl) (fun _ es=>by cases es <;> rfl)
  obtain ⟨y,q,nm,apos,ke,q2,cpos,nm2,apos2,e,cpos2,p,rfl,hh⟩:=yS h
  simp only [ab,af] at hh
  obtain ⟨⟨⟨⟨⟨⟨⟨⟨rfl,rfl⟩,h1⟩,h2⟩,h3⟩,h4⟩,h5⟩,h6⟩,h7⟩:=hh
  obtain ⟨k1,k2,k3⟩:=dO h1
  exact yC B k1 k2 k3 h4 h5 h2 h3 ((cO k).E B ke h6).1 ((cO (.lst .nil)).E B _ rfl).1 ((cO x).E B e h7).1
 | lend i x =>
  refine .ofF (fun B L st h=>?_) (fun _ es=>by cases es <;> rfl) (fun _ es=>by cases es <;> rfl)
  obtain ⟨e,p,rfl,hh⟩:=yI h
  simp only [ab] at hh
  exact yZ ((cO x).E B e hh.2).1 hh.1
 | upd i x =>
  refine .ofF (fun B L st h=>?_) (fun _ es=>by cases es <;> rfl) (fun _ es=>by cases es <;> rfl)
  obtain ⟨y,q,nm,apos,e,cpos,p,rfl,hh⟩:=BJ h
  simp only [ab,af] at hh
  obtain ⟨⟨⟨⟨rfl,h1⟩,h2⟩,h3⟩,h4⟩:=hh
  obtain ⟨k1,k2,k3⟩:=dO h1
  exact Bt B k1 k2 k3 h2 h3 ((cO x).E B e h4).1
 | ins i k x =>
  refine .ofF (fun B L st h=>?_) (fun _ es=>by cases es <;> rfl) (fun _ es=>by cases es <;> rfl)
  obtain ⟨y,q,nm,apos,ke,e,cpos,p,rfl,hh⟩:=BK h
  simp only [ab,af] at hh
  obtain ⟨⟨⟨⟨⟨⟨rfl,h1⟩,h2⟩,h3⟩,h4⟩,h5⟩,h6⟩:=hh
  obtain ⟨k1,k2,k3⟩:=dO h1
  exact Bu B k1 k2 k3 h2 h3 h4 ((cO k).E B ke h5).1 ((cO x).E B e h6).1
 | swS i k u x =>
  refine .ofF (fun B L st h=>?_) (fun _ es=>by cases es <;> rfl) (fun _ es=>by cases es <;> rfl)
  obtain ⟨y,q,ke,q2,z,q3,he,q4,kc,q5,ve,p,rfl,hh⟩:=BL h
  simp only [ab,af,aw] at hh
  obtain ⟨⟨⟨⟨⟨⟨⟨h0,h1⟩,rfl⟩,h2⟩,h3⟩,h4⟩,h5⟩,h6⟩:=hh
  obtain ⟨k1,k2,k3⟩:=dO h1
  exact Bw B h0 k1 k2 k3 h2 h3 ((cO k).E B ke h4).1 ((cO u).E B he h5).1 ((cO x).E B ve h6).1
 | crev o =>
  refine .ofF (fun B L st h=>?_) (fun _ es=>by cases es <;> rfl) (fun _ es=>by cases es <;> rfl)
  obtain ⟨oe,nm,apos,cpos,p,rfl,hh⟩:=yU h
  simp only [ab,af] at hh
  obtain ⟨⟨⟨rfl,h1⟩,h2⟩,h3⟩:=hh
  exact yD h2 h1 ((cO o).E B oe h3).1
 | tr b hs ihb ihh =>
  refine .ofF (fun {C S G W} B L st h=>?_) (fun _ es=>by cases es <;> rfl) (fun _ es=>by cases es <;> rfl)
  obtain ⟨bs,hds,p,rfl,hne,hh⟩:=DR h
  simp only [ab,aw] at hh
  obtain ⟨⟨h0,h1⟩,h2⟩:=hh
  obtain ⟨lst,hk,hw⟩:=ihh.H B h0 L hds h2
  cases hds with
  | nil=>exact absurd rfl hne
  | cons h0' hds =>
   refine PS.imp (ps_try_many (tb:=fun W'=>rS G W' b) L.hs L.hf B.tk (fun W' pn xe tk po=>ihb.L (B.tr h0 pn xe tk) ⟨fun _=>po,L.hs,L.hf⟩ bs h1) hk) ?_
   rintro E σ H ⟨g,l,s,SS,h⟩
   refine ⟨g,l,s,SS,?_⟩
   have h:ValS G.gm W g (match cy G.fs G.gs G.ms b l s with
    | .er e s1 l1=>Bd G.fs G.gs G.ms e hs l1 s1
    | r=>r) (KO G.gm E):=h
   show ValS G.gm (wMany C.K W E lst) g (cy G.fs G.gs G.ms b l s) (KO G.gm E)
   cases e:cy G.fs G.gs G.ms b l s with
   | ok o=>rw [e] at h; exact h
   | no=>rw [e] at h; exact h
   | er ex s1 l1 =>
    rw [e] at h
    exact fun g1 σ1 H1 c dd e1 S1 xr=>hw E g1 σ1 H1 l1 s1 ex c dd S1 xr (ValS.ext e1 h)
 | hd c a r iha ihr =>
  refine ⟨fun B L st h=>(by cases st <;> cases h),fun B L sts h=>(by cases sts <;> cases h),fun {C S G W} B hh0 L hds h=>?_⟩
  obtain ⟨y,q,b0,suite,p,hds',rfl,hh⟩:=DS h
  simp only [ab,af] at hh
  obtain ⟨⟨⟨⟨⟨rfl,h1⟩,h2⟩,h3⟩,h4⟩,h5⟩:=hh
  obtain ⟨lst,hk,hw⟩:=ihr.H B hh0 L hds' h5
  obtain ⟨cv,hcv⟩:=B.hns y (aK.mp h1)
  refine ⟨(cv,fun _ _ _=>rS G WF a) :: lst,.cons ⟨B.gl h2,di h3,.inl hcv⟩ (fun a' oe cls d pn _ _=>iha.L (B.suite hh0 a' _) (L.suite a' _) _ h4) hk,fun E g σ H l s e c dd SS ex h=>?_⟩
  have h:ValS G.gm W g (match G.ms e.cls y with
   | some true=>R.noEr (cy G.fs G.gs G.ms a l s)
   | some false=>Bd G.fs G.gs G.ms e r l s
   | none=>.no) (KO G.gm E):=h
  cases em:G.ms e.cls y with
  | none=>rw [em] at h; exact h.elim
  | some bb =>
   rw [em] at h
   have xm:=B.ms e.cls y bb c cv em (by rw [← B.mg]; exact ex.1) hcv
   refine ⟨bb,xm,fun hb a' _=>?_,fun hb=>?_⟩
   ·subst hb
    refine ⟨g,l,s,SS,?_⟩
    have h:ValS G.gm W g (R.noEr (cy G.fs G.gs G.ms a l s)) (KO G.gm E):=h
    show ValS G.gm WF g (cy G.fs G.gs G.ms a l s) (KO G.gm E)
    cases e1:cy G.fs G.gs G.ms a l s with
    | ok o=>rw [e1] at h; exact h
    | er _ _ _=>rw [e1] at h; exact h.elim
    | no=>rw [e1] at h; exact h.elim
   ·subst hb
    exact hw E g σ H l s e c dd SS ex h
 | rseF c f x =>
  refine .ofF (fun B L st h=>?_) (fun _ es=>by cases es <;> rfl) (fun _ es=>by cases es <;> rfl)
  obtain ⟨z,q,e,p3,p,rfl,hh⟩:=yT h
  simp only [ab,aw,af,aK] at hh
  obtain ⟨⟨⟨⟨⟨⟨h0,rfl⟩,h1⟩,h2⟩,h3⟩,h4⟩,h5⟩:=hh
  exact yX B h0 (B.ea h0 _ _ h1) h2 h3 h4 ((cO x).E B e h5).1 (BP B.tk)
 | trF b c i f j ihb =>
  refine .ofF (fun {C S G W} B L st h=>?_) (fun _ es=>by cases es <;> rfl) (fun _ es=>by cases es <;> rfl)
  obtain ⟨bs,z,q,n,m,p3,n2,p4,f2,p5,p,p1,p2,rfl,hh⟩:=BM h
  simp only [ab,aw,af,aK] at hh
  obtain ⟨⟨⟨⟨⟨⟨⟨⟨⟨⟨⟨⟨⟨⟨⟨h0,h1⟩,rfl⟩,h2⟩,h3⟩,h4⟩,h5⟩,h6⟩,h7⟩,h8⟩,h9⟩,rfl⟩,ha⟩,hb⟩,rfl⟩,hc⟩:=hh
  refine PS.imp (BQ B L h0 (sb:=b) (B.ea h0 _ _ h2) h3 h4 h5 h6 h7 h8 h9 ha hb hc fun W' pn xe tk po=>ihb.L (B.tr h0 pn xe tk) ⟨fun _=>po,L.hs,L.hf⟩ bs h1) ?_
  rintro E σ H ⟨g,l,s,SS,h⟩
  exact ⟨g,l,s,SS,h⟩
 | rseA c x =>
  refine .ofF (fun B L st h=>?_) (fun _ es=>by cases es <;> rfl) (fun _ es=>by cases es <;> rfl)
  refine PS.imp (t:=fun _ _ _=>False) ⟨fun _ _ _ _ _ _ h=>h.elim⟩ ?_
  rintro E σ H ⟨g,l,s,SS,h⟩
  exact h
 | trA b c i a ihb iha =>
  refine .ofF (fun {C S G W} B L st h=>?_) (fun _ es=>by cases es <;> rfl) (fun _ es=>by cases es <;> rfl)
  obtain ⟨bs,x,q,n,b0,suite,p1,p2,rfl,hh⟩:=BO h
  simp only [ab,aw,af] at hh
  obtain ⟨⟨⟨⟨⟨⟨⟨⟨h0,h1⟩,rfl⟩,h2⟩,h3⟩,h4⟩,h5⟩,h6⟩,h7⟩:=hh
  obtain ⟨cv,hcv⟩:=B.hns x (aK.mp h2)
  have hk:C.env.kindOf n=some .local:=by
   show C.env.scope.names.lookup n=_
   rw [B.sc]
   exact fe h6
  have hsu:∀ (a':Addr) (oe:Obj) (cls:Value) (d:Option Addr) (pn:List (Addr × Obj)),Zc cls d oe→(∃ vs,oe.data=.fields vs)→PSs (C.suite a' ((a',oe) :: pn)) (b0 :: suite) (fun D σ H=>∃ nm,C.mg nm=some cls∧rS (G.held a' nm) WF a D σ H):=by
   intro a' oe cls d pn hz hf
   refine ⟨fun pins s σ H D I hq=>?_⟩
   obtain ⟨nm,hm,hq⟩:=hq
   exact (iha.L (B.suiteN pn ⟨cls,d,hm,hz,hf⟩) (L.suite a' _) _ h7).run pins s σ H D I hq
  refine PS.imp (ps_try_as (tb:=fun W'=>rS G W' b) (i:=i) L.hs L.hf (by rw [B.N]; exact B.nd) (by rw [B.N]; exact h5) hk ⟨B.gl h3,di h4,.inl hcv⟩ B.tk (fun W' pn xe tk po=>ihb.L (B.tr h0 pn xe tk) ⟨fun _=>po,L.hs,L.hf⟩ bs h1) hsu) ?_
  rintro E σ H ⟨g,l,s,SS,h⟩
  refine ⟨g,l,s,SS,?_⟩
  have h:ValS G.gm W g (match cy G.fs G.gs G.ms b l s with
   | .er e s1 l1=>match G.ms e.cls x with
    | some true=>kJ i l1 s1 (cy G.fs G.gs G.ms a (l1.set i (some ⟨.fr,.exc e.cls⟩)) s1)
    | some false=>.er e s1 l1
    | none=>.no
   | r=>r) (KO G.gm E):=h
  show ValS G.gm (wAs C.K cv i _ W E) g (cy G.fs G.gs G.ms b l s) (KO G.gm E)
  cases e:cy G.fs G.gs G.ms b l s with
  | ok o=>rw [e] at h; exact h
  | no=>rw [e] at h; exact h
  | er ex s1 l1 =>
   rw [e] at h
   have h:ValS G.gm W g (match G.ms ex.cls x with
    | some true=>kJ i l1 s1 (cy G.fs G.gs G.ms a (l1.set i (some ⟨.fr,.exc ex.cls⟩)) s1)
    | some false=>.er ex s1 l1
    | none=>.no) (KO G.gm E):=h
   intro g1 σ1 H1 cls dd e1 S1 xr
   have hm:C.mg ex.cls=some cls:=by rw [← B.mg]; exact xr.1
   cases em:G.ms ex.cls x with
   | none=>rw [em] at h; exact h.elim
   | some bb =>
    rw [em] at h
    refine ⟨bb,B.ms ex.cls x bb cls cv em hm hcv,fun hb a' ha'=>?_,fun hb=>?_⟩
    ·subst hb
     have h:ValS G.gm W g (kJ i l1 s1 (cy G.fs G.gs G.ms a (l1.set i (some ⟨.fr,.exc ex.cls⟩)) s1)) (KO G.gm E):=h
     refine ⟨ex.cls,hm,?_⟩
     have pn:G.Y.pn=jw:=B.px0 h0
     have yl:YLe G.Y (G.held a' ex.cls).Y:=⟨rfl,rfl,rfl,fun b c q=>by rw [pn] at q; cases q⟩
     have ye:YEq (G.held a' ex.cls).Y G.Y:=⟨rfl,rfl,rfl⟩
     have rx:Rp (G.held a' ex.cls).Y g1.F (.exc ex.cls) (.ref a'):=.exc (ap rfl)
     refine ⟨g1,_,s1,(S1.up yl).set i rx,?_⟩
     have h1:ValS G.gm W g1 (kJ i l1 s1 (cy G.fs G.gs G.ms a (l1.set i (some ⟨.fr,.exc ex.cls⟩)) s1)) (KO G.gm E):=ValS.ext e1 h
     show ValS (G.held a' ex.cls).gm WF g1 (cy G.fs G.gs G.ms a (l1.set i (some ⟨.fr,.exc ex.cls⟩)) s1) (KO (G.held a' ex.cls).gm _)
     cases er:cy G.fs G.gs G.ms a (l1.set i (some ⟨.fr,.exc ex.cls⟩)) s1 with
     | no=>rw [er] at h1; exact h1.elim
     | er _ _ _=>rw [er] at h1; exact h1.elim
     | ok o =>
      rw [er] at h1
      cases o with
      | bk _ _=>exact h1.elim
      | ct _ _=>exact h1.elim
      | rt _ _ _=>exact h1.elim
      | nx l2 s2 =>
       have et:kJ i l1 s1 (.ok (.nx l2 s2))=.no∨((s2=s1∧sv i l1 l2)∧kJ i l1 s1 (.ok (.nx l2 s2))=.ok (.nx (l2.set i none) s2)):=by
        by_cases hc:s2=s1∧sv i l1 l2
        ·exact .inr ⟨hc,ap hc⟩
        ·exact .inl (av hc)
       rcases et with et | ⟨hc,et⟩
       ·rw [et] at h1
        exact h1.elim
       ·rw [et] at h1
        obtain ⟨rfl,ho⟩:=hc
        intro g2 e2 σ2 H2 S2
        have S3:=S2.gone i
        refine h1 g2 e2 _ H2 (S3.dn ye (fun j z hz=>?_) fun n c hc=>S1.nxS pn hc)
        have hj:j≠i:=fun ej=>by
         subst ej
         by_cases hl:j < l2.length
         ·rw [aL hl] at hz; cases hz
         ·rw [aQ (by simpa using hl)] at hz; cases hz
        rw [ay (Ne.symm hj)] at hz
        rcases ho j z hj hz with q | q
        ·exact S1.nxL pn q
        ·exact q
    ·subst hb
     exact (ValS.ext e1 h) g1 σ1 H1 cls dd (.refl g1) S1 xr

def kM:List Bool→List D→Lc
 | _,[]=>[]
 | kp,d :: ds=>some ⟨if kp.headD false=true then .fr else .bo,d⟩ :: kM kp.tail ds
def f8 (kp:List Bool) (n:Nat) (ds:List D):Lc:=kM kp ds++List.replicate (n - ds.length) none

noncomputable def jk (fs:List Fn) (gs:List D) (ms:Str→Str→Option Bool) (body:S) (kp:List Bool) (n:Nat) (ds:List D):R (D × Tag) :=
 match cy fs gs ms body (f8 kp n ds) [] with
 | .ok (.rt d t [])=>.ok (d,t)
 | .ok (.nx _ [])=>.ok (.non,.fr)
 | .er e _ _=>.er e [] []
 | _=>.no

noncomputable def callT (fs:List Fn) (gs:List D) (ms:Str→Str→Option Bool) (body:S) (kp:List Bool) (n:Nat) (ds:List D) (s:cj):R (D × Tag × cj) :=
 match cy fs gs ms body (f8 kp n ds) s with
 | .ok (.rt d t (c :: s1))=>.ok (d,t,c :: s1)
 | .ok (.nx _ (c :: s1))=>.ok (.non,.fr,c :: s1)
 | .er e (c :: s1) _=>.er e (c :: s1) []
 | _=>.no
theorem iC:∀ {kp:List Bool} {ds:List D},(kM kp ds).length=ds.length
 | _,[]=>rfl
 | kp,d :: ds=>by
  show (kM kp.tail ds).length+1=ds.length+1
  rw [iC]
theorem ArgR.len {Y:Wd} {g:Gh}:∀ {kp:List Bool} {ds:List D} {vs:List V},ArgR Y g kp ds vs→ds.length=vs.length
 | _,[],[],_=>rfl
 | _,d :: ds,v :: vs,h=>by rw [aB,aB,ArgR.len h.2]
 | _,[],_ :: _,h=>h.elim
 | _,_ :: _,[],h=>h.elim
theorem nq {Y:Wd} {g:Gh} {H:Hp}:∀ {kp:List Bool} {ds:List D} {vs:List V} {i:Nat} {z:Sl},ArgR Y g kp ds vs→(kM kp ds)[i]?=some (some z)→∃ v,(vs.map some)[i]?=some (some v)∧SlR Y g H z v∧z.k≠.ow
 | _,[],[],i,z,_,h=>by simp [kM] at h
 | kp,d :: ds,v :: vs,0,z,h,e=>by
  obtain rfl:(⟨if kp.headD false=true then .fr else .bo,d⟩:Sl)=z:=ad (ad e)
  refine ⟨v,rfl,?_⟩
  by_cases hk:kp.headD false=true
  ·have h1:=h.1
   rw [ap hk] at h1
   rw [ap hk]
   exact ⟨h1,by simp⟩
  ·have h1:=h.1
   rw [av hk] at h1
   rw [av hk]
   exact ⟨h1,by simp⟩
 | kp,d :: ds,v :: vs,i+1,z,h,e=>nq h.2 (i:=i) e
 | _,[],_ :: _,_,_,h,_=>h.elim
 | _,_ :: _,[],_,_,h,_=>h.elim
theorem SR.init {Y:Wd} {F:Fr} {B H:Hp} {kp:List Bool} {ds:List D} {vs:List V} {N:List Str} {s:cj} (sB:Same B H) (sF:Same F.h H) (st:StR Y ⟨F,B,F.m⟩ H s) (h:ArgR Y ⟨F,B,F.m⟩ kp ds vs):SR Y ⟨F,B,F.m⟩ (start N vs) H (f8 kp N.length ds) s:=by
 have hl:=h.len
 have key:∀ {i:Nat} {z:Sl},(f8 kp N.length ds)[i]?=some (some z)→∃ v,(start N vs)[i]?=some (some v)∧SlR Y ⟨F,B,F.m⟩ H z v∧z.k≠.ow:=fun {i z} e=>by
  unfold f8 at e
  by_cases hi:i < ds.length
  ·rw [a9 (by rw [iC]; exact hi)] at e
   obtain ⟨v,h1,h2⟩:=nq (H:=H) h e
   refine ⟨v,?_,h2⟩
   unfold L2.start
   rw [a9 (by rw [ac,← hl]; exact hi)]
   exact h1
  ·rw [aS (by rw [iC]; omega)] at e
   have:=aZ e
   rw [List.mem_replicate] at this
   cases this.2
 refine ⟨sB,sF,?_,fun i z e=>?_,fun i j z y a h1 _ k1=>?_,st⟩
 ·unfold L2.start f8
  rw [ae,ae,ac,iC,List.length_replicate,List.length_replicate,hl]
 ·obtain ⟨v,h1,h2,_⟩:=key e
  exact ⟨v,h1,h2⟩
 ·obtain ⟨v,_,_,h3⟩:=key h1
  exact absurd k1 h3

structure Fx (P:Program) (w:World) (K:PySem.W.Frag) (mg:Str→Option Value) (base:Heap) (S:Sc) (G:Gn):Prop where
 eY:G.Y=⟨P,w,K,jw⟩
 emg:G.mg=mg
 fns:∀ (j:Nat) (f:Str) (F:Fn),S.cs[j]?=some f→G.fs[j]?=some F→∃ a fd ps,FnOk P w K mg base (L2.CX P w) G.lv a fd ps (gh G.Y G.mg F)∧mg f=some (.ref a)∧PySem.W.keepIn K (.ref a)=true∧Binds K fd ps []
 blt:∀ n∈blts,mg n=none
 gns:∀ (j:Nat) (x:Str) (d:D),S.gn[j]?=some x→G.gs[j]?=some d→∃ v u,mg x=some u∧RelV v u∧∀ pn F,Rp ⟨P,w,K,pn⟩ F d v
 exs:∀ x∈S.en,wJ K mg x
 hns:∀ x∈S.hn,∃ c,mg x=some c
 ms:∀ (x y:Str) (b:Bool) (c d:Value),G.ms x y=some b→mg x=some c→mg y=some d→PySem.W.exmOne K c d=some b
 fl:∀ c f,(c,f)∈S.fl→L2.Cls K (He.ga K c)∧L2.NoAttr K (He.ga K c) f
 mt:∀ j c m F,(j,c,m)∈S.mt→G.fs[j]?=some F→∃ a fd ps,FnOk P w K mg base (L2.CX P w) G.lv a fd ps (gh G.Y G.mg F)∧L2.Cls K (He.ga K c)∧L2.Meth K (He.ga K c) m a∧Binds K fd ps []
 mks:∀ j c F,(j,c)∈S.mks→G.fs[j]?=some F→∃ k a fd ps,k+1≤G.lv∧FnOk P w K mg base (L2.CX P w) k a fd ps (gh G.Y G.mg F)∧L2.Mk K (He.ga K c) a∧mg c=some (.ref (He.ga K c))∧Binds K fd ps []
 xs:∀ j c F,(j,c)∈S.xs→G.fs[j]?=some F→F=tZ G.ms c
 hx:∀ j f F,j∈S.hx→S.cs[j]?=some f→G.fs[j]?=some F→∃ a fd ps,FnX P w K mg base G.lv a fd ps F∧mg f=some (.ref a)∧PySem.W.keepIn K (.ref a)=true∧Binds K fd ps []
 xi:S.xs≠[]→CW K mg G.ms
 isc:∀ c,c∈S.ic→C8.InsC K (He.ga K c)∧mg c=some (.ref (He.ga K c))
 ea:∀ c f,(c,f)∈S.ea→rF P w K mg base G.lv c f

def BS (G:Gn) (body:S) (np n:Nat) (fn:Fn):Prop:=(∀ ds,fn.run ds=.no∨(ds.length=np∧jk G.fs G.gs G.ms body fn.kp n ds=fn.run ds))∧∀ ds s,fn.runS ds s=.no∨(ds.length=np∧s≠[]∧callT G.fs G.gs G.ms body fn.kp n ds s=fn.runS ds s)
theorem BT {P:Program} {w:World} {K:PySem.W.Frag} {mg:Str→Option Value} {base:Heap} {S:Sc} {G:Gn} (X:Fx P w K mg base S G) {x qual:Str} {params:Arguments} {stmts:List Stmt} {scope:Scope} {dvs:List V} {kws:List (Str × V)} {f:Addr} {fd:FuncData} {ps:List Str}
  (F:FunD K x qual params stmts scope dvs kws f fd) (SC:FnScope S.N ps scope) (hsc:scope=S.sc) (ht:S.top=true) (hh:S.hot=false) {body:GM.S} (ck:cV S body stmts=true) {fn:Fn} (hk:BS G body ps.length S.N.length fn) :
  FnOk P w K mg base (L2.CX P w) (G.lv+1) f fd ps (gh G.Y G.mg fn):=by
 refine F.ok SC (fun vs H Q E h=>?_) (fun cdv A outer s H vs Q E hr h=>?_)
 ·rcases h with ⟨F',ds,_,_,h1,h2⟩ | ⟨F',B',ds,s0,_,_,_,_,h1,h2⟩
  ·rcases hk.1 ds with e | ⟨e,_⟩
   ·rw [e] at h2; exact h2.elim
   ·rw [← h1.len,e]
  ·rcases hk.2 ds s0 with e | ⟨e,_⟩
   ·rw [e] at h2; exact h2.elim
   ·rw [← h1.len,e]
 have hK:Gd (cxOf (L2.CX P w) P w K mg base S.N qual scope f cdv A outer s H E) S G (fun cls d _ H=>E cls d H) :=
  ⟨rfl,SC.nd,hsc,fun _=>⟨rfl,hr⟩,(by have:=hr.un; show (A.deeper _).units+200 < _; omega),fun _=>⟨fun _=>rfl,rfl,rfl⟩,takes_of rfl rfl rfl rfl,(by rw [X.eY]; rfl),X.emg,(fun _=>X.fns),X.blt,X.gns,X.exs,X.hns,X.ms,X.fl,(fun _=>X.mt),(fun _=>X.mks),(fun a nm h=>by rw [X.eY] at h; cases h),(fun _=>by rw [X.eY]),L2H.roomH_of hr,X.xs,X.hx,X.xi,X.isc,(fun _=>X.ea)⟩
 rcases h with ⟨F',ds,sF,lv,ar,h2⟩ | ⟨F',B',ds,s0,hs0,sB0,sF,st0,ar,h2⟩
 ·rcases hk.1 ds with e | ⟨e1,e2⟩
  ·rw [e] at h2; exact h2.elim
  refine ⟨rS G (fun cls d _ H=>E cls d H) body,(sH body).L hK ⟨fun _=>PassesOwn.leaving,rfl,rfl⟩ stmts ck,⟨F',H,F'.m⟩,_,[],SR.init (Same.refl _) sF ⟨(fun n c q=>by cases n <;> cases q),lv,fun h=>absurd rfl h,fun _=>rfl,fun _ _ q=>q⟩ ar,?_⟩
  show ValS G.gm _ ⟨F',H,F'.m⟩ (cy G.fs G.gs G.ms body (f8 fn.kp S.N.length ds) []) _
  unfold jk at e2
  cases er:cy G.fs G.gs G.ms body (f8 fn.kp S.N.length ds) [] with
  | ok o =>
   rw [er] at e2
   cases o with
   | rt d t s1 =>
    cases s1 with
    | cons c s1 =>
     have e2:R.no=fn.run ds:=e2
     rw [← e2] at h2
     exact h2.elim
    | nil =>
    have e2:R.ok (d,t)=fn.run ds:=e2
    rw [← e2] at h2
    intro g' e v H' sB' sF' st' rv
    have hB:g'.B=H:=e.b
    have em:g'.F.m=F'.m:=(st'.no rfl).trans e.m
    refine h2 g'.F H' v (by rw [← hB]; exact sB') sF' em ⟨rfl,e.f,fun a o q n=>e.new a o q n,rfl⟩ ?_
    cases t with
    | fr=>exact rv
    | nw =>
     obtain ⟨p,q1,q2,q3,q4⟩:=rv
     exact ⟨p,q1,q2.1,by rw [← hB]; exact q3,q4⟩
    | bo=>exact rv
    | ow=>exact rv
   | nx l1 s1 =>
    cases s1 with
    | cons c s1 =>
     have e2:R.no=fn.run ds:=e2
     rw [← e2] at h2
     exact h2.elim
    | nil =>
    have e2:R.ok (D.non,Tag.fr)=fn.run ds:=e2
    rw [← e2] at h2
    intro g' e σ' H' S'
    have hB:g'.B=H:=e.b
    have em:g'.F.m=F'.m:=(S'.st.no rfl).trans e.m
    exact h2 g'.F H' .non (by rw [← hB]; exact S'.sB) S'.sF em ⟨rfl,e.f,fun a o q n=>e.new a o q n,rfl⟩ .non
   | bk l1 s1 =>
    have e2:R.no=fn.run ds:=e2
    rw [← e2] at h2
    exact h2.elim
   | ct l1 s1 =>
    have e2:R.no=fn.run ds:=e2
    rw [← e2] at h2
    exact h2.elim
  | er ex s1 l1 =>
   rw [er] at e2
   have e2:R.er ex [] []=fn.run ds:=e2
   rw [← e2] at h2
   intro g' σ' H' c dd e S' xr
   have hB:g'.B=H:=e.b
   exact h2 H' c dd (by rw [← hB]; exact S'.sB) xr
  | no =>
   rw [er] at e2
   have e2:R.no=fn.run ds:=e2
   rw [← e2] at h2
   exact h2.elim
 ·rcases hk.2 ds s0 with e | ⟨e1,_,e2⟩
  ·rw [e] at h2; exact h2.elim
  refine ⟨rS G (fun cls d _ H=>E cls d H) body,(sH body).L hK ⟨fun _=>PassesOwn.leaving,rfl,rfl⟩ stmts ck,⟨F',B',F'.m⟩,_,s0,SR.init sB0 sF st0 ar,?_⟩
  show ValS G.gm _ ⟨F',B',F'.m⟩ (cy G.fs G.gs G.ms body (f8 fn.kp S.N.length ds) s0) _
  unfold callT at e2
  cases er:cy G.fs G.gs G.ms body (f8 fn.kp S.N.length ds) s0 with
  | ok o =>
   rw [er] at e2
   cases o with
   | rt d t s1 =>
    cases s1 with
    | nil =>
     have e2:R.no=fn.runS ds s0:=e2
     rw [← e2] at h2
     exact h2.elim
    | cons c s1 =>
    have e2:R.ok (d,t,c :: s1)=fn.runS ds s0:=e2
    rw [← e2] at h2
    intro g' e v H' sB' sF' st' rv
    have hB:g'.B=B':=e.b
    refine h2.2 g'.F H' v (by rw [← hB]; exact sB') sF' ⟨rfl,e.f,fun a o q n=>e.new a o q n,rfl⟩ (st'.bnd rfl e.m.symm fun a n _ q=>by rw [← hB]; exact q) ?_
    cases t with
    | fr=>exact rv
    | nw =>
     obtain ⟨p,q1,q2,q3,q4⟩:=rv
     exact ⟨p,q1,q2,by rw [← hB]; exact q3,q4⟩
    | bo=>exact rv
    | ow=>exact rv
   | nx l1 s1 =>
    cases s1 with
    | nil =>
     have e2:R.no=fn.runS ds s0:=e2
     rw [← e2] at h2
     exact h2.elim
    | cons c s1 =>
    have e2:R.ok (D.non,Tag.fr,c :: s1)=fn.runS ds s0:=e2
    rw [← e2] at h2
    intro g' e σ' H' S'
    have hB:g'.B=B':=e.b
    exact h2.2 g'.F H' .non (by rw [← hB]; exact S'.sB) S'.sF ⟨rfl,e.f,fun a o q n=>e.new a o q n,rfl⟩ (S'.st.bnd rfl e.m.symm fun a n _ q=>by rw [← hB]; exact q) .non
   | bk l1 s1 =>
    have e2:R.no=fn.runS ds s0:=e2
    rw [← e2] at h2
    exact h2.elim
   | ct l1 s1 =>
    have e2:R.no=fn.runS ds s0:=e2
    rw [← e2] at h2
    exact h2.elim
  | er ex s1 l1 =>
   rw [er] at e2
   cases s1 with
   | nil =>
    have e2:R.no=fn.runS ds s0:=e2
    rw [← e2] at h2
    exact h2.elim
   | cons c s1 =>
   have e2:R.er ex (c :: s1) []=fn.runS ds s0:=e2
   rw [← e2] at h2
   intro g' σ' H' c2 dd e S' xr
   have hB:g'.B=B':=e.b
   exact h2.2 g'.F H' c2 dd (by rw [← hB]; exact S'.sB) S'.sF ⟨rfl,e.f,fun a o q n=>e.new a o q n,rfl⟩ (S'.st.bnd rfl e.m.symm fun a n _ q=>by rw [← hB]; exact q) xr
  | no =>
   rw [er] at e2
   have e2:R.no=fn.runS ds s0:=e2
   rw [← e2] at h2
   exact h2.elim


structure En (α:Type) where
 e:α→D
 inj:∀ a b,e a=e b→a=b
def eI:En Int:=⟨D.int,fun a b h=>D.int.inj h⟩
def eB:En Bool:=⟨D.bl,fun a b h=>D.bl.inj h⟩
def eS:En Str:=⟨D.str,fun a b h=>D.str.inj h⟩

def eD:En D:=⟨id,fun _ _ h=>h⟩
theorem j7 {α:Type} (x:En α):∀ {xs ys:List α},xs.map x.e=ys.map x.e→xs=ys
 | [],[],_=>rfl
 | a :: as,b :: bs,h=>by
  rw [aG,aG] at h
  obtain ⟨h1,h2⟩:=bG h
  rw [x.inj a b h1,j7 x h2]
 | [],_ :: _,h=>by cases h
 | _ :: _,[],h=>by cases h
def eT {α:Type} (x:En α):En (List α):=⟨fun xs=>.tup (xs.map x.e),fun a b h=>j7 x (D.tup.inj h)⟩
def eL {α:Type} (x:En α):En (List α):=⟨fun xs=>.lst (xs.map x.e),fun a b h=>j7 x (D.lst.inj h)⟩
def eA {α:Type} (x:En α):En (List α):=⟨fun xs=>.arr (xs.map x.e),fun a b h=>j7 x (D.arr.inj h)⟩
def eP {α β:Type} (x:En α) (y:En β):En (α × β):=⟨fun p=>.tup [x.e p.1,y.e p.2],fun a b h=>by
 have:=D.tup.inj h
 obtain ⟨h1,h2⟩:=bG this
 obtain ⟨h2,_⟩:=bG h2
 exact Prod.ext (x.inj _ _ h1) (y.inj _ _ h2)⟩

def a1 {α:Type} (x:En α):α→List D:=fun a=>[x.e a]
def a2 {α β:Type} (x:En α) (y:En β):α × β→List D:=fun p=>[x.e p.1,y.e p.2]
def a3 {α β γ:Type} (x:En α) (y:En β) (z:En γ):α × β × γ→List D:=fun p=>[x.e p.1,y.e p.2.1,z.e p.2.2]
def a4 {α β γ δ:Type} (x:En α) (y:En β) (z:En γ) (w:En δ):α × β × γ × δ→List D:=fun p=>[x.e p.1,y.e p.2.1,z.e p.2.2.1,w.e p.2.2.2]
open Classical in

noncomputable def Fn.of {α:Type} (kp:List Bool) (enc:α→List D) (f:α→R (D × Tag)):Fn:={ kp:=kp,run:=fun ds=>if h:∃ a,enc a=ds then f h.choose else .no }

def kN (fs:List Fn) (gs:List D) (ms:Str→Str→Option Bool) (body:S) (np n:Nat) (fn:Fn):Prop:=(∀ ds,fn.run ds=.no∨(ds.length=np∧jk fs gs ms body fn.kp n ds=fn.run ds))∧∀ ds s,fn.runS ds s=.no∨(ds.length=np∧s≠[]∧callT fs gs ms body fn.kp n ds s=fn.runS ds s)




theorem pU {τ:Type} {cond:Lc→cj→R (Bool × cj)} {body:Lc→cj→R Out} (L:τ→Lc) (c:τ→Bool) (F:τ→τ) (I:τ→Prop) (m:τ→Nat)
  (hc:∀ t,I t→cond (L t) []=.ok (c t,[])) (hb:∀ t,I t→c t=true→body (L t) []=.ok (.nx (L (F t)) [])∧I (F t)∧m (F t) < m t) :
  ∀ t,I t→∃ t',jY cond body (L t) []=.ok (.nx (L t') [])∧I t'∧c t'=false:=by
 intro t
 induction h:m t using Nat.strongRecOn generalizing t with
 | _ n ih =>
  intro hi
  rw [sy,hc t hi]
  cases hct:c t with
  | false=>exact ⟨t,by simp [R.bind],hi,hct⟩
  | true =>
   obtain ⟨h1,h2,h3⟩:=hb t hi hct
   obtain ⟨t',q1,q2,q3⟩:=ih (m (F t)) (by omega) (F t) rfl h2
   refine ⟨t',?_,q2,q3⟩
   show (body (L t) []).bind (dN (jY cond body))=_
   rw [h1]
   exact q1
theorem lw {α:Type} {body:D→cj→R (Option D × cj)} (e:α→D) (g:α→D):∀ (xs:List α),(∀ x∈xs,body (e x) []=.ok (some (g x),[]))→cY body (xs.map e) []=.ok (xs.map g,[])
 | [],_=>rfl
 | x :: xs,h=>by
  show (body (e x) []).bind _=_
  rw [h x aj]
  show (cY body (xs.map e) []).bind _=_
  rw [lw e g xs fun y hy=>h y (ao _ hy)]
  rfl

mutual
theorem c7 {a b:D} (h1:a.seq=true) (h2:b.seq=true) (h3:SeqAt.shaped a.py=true) (h4:SeqAt.shaped b.py=true):D.eqOk a b=true:=by
 unfold D.eqOk
 rw [h1,h2,h3,h4]
 rfl
end

theorem fO (a b:Int) (s:cj):COp.run .eq (.int a) (.int b) s=cg (.bl (decide (a=b))) s:=by
 have h:D.eqOk (.int a) (.int b)=true:=c7 rfl rfl (by simp [D.py,SeqAt.shaped,PyData.canLay0,PyData.depth]) (by simp [D.py,SeqAt.shaped,PyData.canLay0,PyData.depth])
 show (if D.eqOk (.int a) (.int b) then cg (.bl (D.eqv (.int a) (.int b))) s else .no)=_
 rw [ap h]
 rfl
theorem lX (a b:Int) (s:cj):COp.run .ne (.int a) (.int b) s=cg (.bl (!decide (a=b))) s:=by
 have h:D.eqOk (.int a) (.int b)=true:=c7 rfl rfl (by simp [D.py,SeqAt.shaped,PyData.canLay0,PyData.depth]) (by simp [D.py,SeqAt.shaped,PyData.canLay0,PyData.depth])
 show (if D.eqOk (.int a) (.int b) then cg (.bl (!D.eqv (.int a) (.int b))) s else .no)=_
 rw [ap h]
 rfl
theorem y4 (a b:Int) (s:cj):COp.run .lt (.int a) (.int b) s=cg (.bl (decide (a < b))) s:=rfl
theorem y5 (a b:Int) (s:cj):COp.run .le (.int a) (.int b) s=cg (.bl (decide (a≤b))) s:=rfl
theorem y6 (a b:Int) (s:cj):COp.run .gt (.int a) (.int b) s=cg (.bl (decide (b < a))) s:=rfl
theorem za (a b:Int) (s:cj):COp.run .ge (.int a) (.int b) s=cg (.bl (decide (b≤a))) s:=rfl
theorem lY (d:D) (s:cj):COp.run .isn d .non s=cg (.bl (decide (d=.non))) s:=by cases d <;> rfl
theorem kO (d:D) (s:cj):COp.run .isnn d .non s=cg (.bl (!decide (d=.non))) s:=by cases d <;> rfl
theorem sJ {α β:Type} {c:Prop} [Decidable c] (a b:R α) (f:α→R β):(if c then a else b).bind f=if c then a.bind f else b.bind f:=by split <;> rfl

theorem sK (xs:List Int) (n:Nat) (h:n < xs.length) (s:cj):iX (.arr (xs.map D.int)) (.int (n:Int)) s=cg (.int (xs.getD n 0)) s:=by
 show (match atI (xs.map D.int) (n:Int) with | some d=>cg d s | none=>.no)=_
 rw [atI_nat (j:=n) (by rw [aD,ah h]; rfl)]
 simp [List.getD,h]
theorem ix_tup (xs:List Int) (n:Nat) (h:n < xs.length) (s:cj):iX (.tup (xs.map D.int)) (.int (n:Int)) s=cg (.int (xs.getD n 0)) s:=by
 show (match atI (xs.map D.int) (n:Int) with | some d=>cg d s | none=>.no)=_
 rw [atI_nat (j:=n) (by rw [aD,ah h]; rfl)]
 simp [List.getD,h]
theorem iT (xs:List Int) (n:Nat) (h:n < xs.length) (s:cj):iX (.lst (xs.map D.int)) (.int (n:Int)) s=cg (.int (xs.getD n 0)) s:=by
 show (match atI (xs.map D.int) (n:Int) with | some d=>cg d s | none=>.no)=_
 rw [atI_nat (j:=n) (by rw [aD,ah h]; rfl)]
 simp [List.getD,h]

section
variable {α β:Type}
theorem cN (a:α) (f:α→R β):(R.ok a).bind f=f a:=rfl
theorem uY (e:Ex) (s:cj) (l:Lc) (f:α→R β):(R.er e s l).bind f=.er e s l:=rfl
theorem uZ (f:α→R β):(R.no:R α).bind f=.no:=rfl
theorem fu (d:D) (t:Tag) (s:cj) (f:D→cj→R α):cf (.ok (d,t,s)) f=if (t=.bo∨t=.ow)∧d.still=false then .no else f d s:=rfl
theorem u0 (e:Ex) (s:cj) (l:Lc) (f:D→cj→R α):cf (.er e s l) f=.er e s l:=rfl
theorem lZ (d:D) (t:Tag) (s:cj) (f:D→cj→R α):fR (.ok (d,t,s)) f=if t=.ow then .no else f d s:=rfl
theorem va (a:α):R.noEr (.ok a)=.ok a:=rfl
end
theorem vb (a b:Int) (s:cj):BOp.run .add (.int a) (.int b) s=cg (.int (a+b)) s:=rfl
theorem vc (a b:Int) (s:cj):BOp.run .sub (.int a) (.int b) s=cg (.int (a - b)) s:=rfl
theorem gJ (a b:Int) (s:cj) (h:(-(2 ^ 64) < a∧a < 2 ^ 64)∨(-(2 ^ 64) < b∧b < 2 ^ 64)):BOp.run .mul (.int a) (.int b) s=cg (.int (a*b)) s:=ap h
theorem jl (a b:Int) (s:cj) (h:0 < b∧b < 1073741824):BOp.run .fdiv (.int a) (.int b) s=cg (.int (a / b)) s:=ap h
theorem eV (a b:Int) (s:cj) (h:0 < b):BOp.run .mod (.int a) (.int b) s=cg (.int (a % b)) s:=ap h
theorem j8 (a b:Int) (s:cj) (h:0≤b∧b≤1000000∧a.natAbs < 2 ^ 64):BOp.run .pow (.int a) (.int b) s=cg (.int (a ^ b.toNat)) s:=ap h
theorem vd (xs:List D) (k:Int) (s:cj) (h:-(2 ^ 63)≤k∧k < 2 ^ 63∧xs.length*k.toNat≤sizeLine):BOp.run .mul (.lst xs) (.int k) s=dY (.lst (List.replicate k.toNat xs).flatten) s:=ap h
theorem vf (xs:List D) (s:cj):BI.run .len [.tup xs] s=cg (.int xs.length) s:=rfl
theorem vg (xs:List D) (s:cj):BI.run .len [.lst xs] s=cg (.int xs.length) s:=rfl
theorem vi (xs:List D) (s:cj):BI.run .len [.arr xs] s=cg (.int xs.length) s:=rfl
theorem vj (k:Bool) (xs:List (D × D)) (s:cj):BI.run .len [.dic k xs] s=cg (.int xs.length) s:=rfl
theorem qG (xs:List D) (s:cj):BI.run .tuple [.lst xs] s=cg (.tup xs) s:=rfl
theorem qH (xs:List D) (s:cj):BI.run .tuple [.tup xs] s=cg (.tup xs) s:=rfl
theorem sL (xs:List D) (s:cj):BI.run .list [.lst xs] s=dY (.lst xs) s:=rfl
theorem sM (xs:List D) (s:cj):BI.run .list [.tup xs] s=dY (.lst xs) s:=rfl
theorem vp (a:Int) (s:cj):BI.run .abs [.int a] s=cg (.int (if a < 0 then -a else a)) s:=rfl
theorem vq (a b:Int) (s:cj):BI.run .max2 [.int a,.int b] s=cg (.int (if b > a then b else a)) s:=rfl
theorem vw (a b:Int) (s:cj):BI.run .min2 [.int a,.int b] s=cg (.int (if b < a then b else a)) s:=rfl
theorem pV:∀ bs:List Bool,hJ (bs.map D.bl)=some bs
 | []=>rfl
 | b :: bs=>by
  show (hJ (bs.map D.bl)).map (b :: ·)=_
  rw [pV bs]
  rfl
theorem vx (bs:List Bool) (s:cj):BI.run .all [.lst (bs.map D.bl)] s=cg (.bl (bs.all id)) s:=by
 show (match hJ (bs.map D.bl) with | some bs=>cg (.bl (bs.all id)) s | none=>.no)=_
 rw [pV]
theorem zb (xs:List D) (lo hi:Option Int) (s:cj):rf (.tup xs) lo hi s=cg (.tup (iI xs lo hi)) s:=rfl
theorem zc (xs:List D) (lo hi:Option Int) (s:cj):rf (.lst xs) lo hi s=dY (.lst (iI xs lo hi)) s:=rfl
theorem vy (xs:List D) (i:D) (s:cj):lF (.tup xs) i s=iX (.tup xs) i s:=rfl
theorem vA (xs:List D) (i:D) (s:cj):lF (.lst xs) i s=iX (.lst xs) i s:=rfl
theorem vB (xs:List D) (i:D) (s:cj):lF (.arr xs) i s=iX (.arr xs) i s:=rfl

section
variable {fs:List Fn} {gs:List D} {ms:Str→Str→Option Bool} {a b:S} {c:X} {l l1:Lc} {s s1:cj} {r:R Out} {d:D} {t:Tag} {e:Ex}
theorem b6 (h:cy fs gs ms a l s=.ok (.nx l1 s1)):cy fs gs ms (.cons a b) l s=cy fs gs ms b l1 s1:=by
 show (cy fs gs ms a l s).bind _=_
 rw [h]
 rfl
theorem cE (h:cy fs gs ms a l s=.ok (.rt d t s1)):cy fs gs ms (.cons a b) l s=.ok (.rt d t s1):=by
 show (cy fs gs ms a l s).bind _=_
 rw [h]
 rfl
theorem oY (h:cy fs gs ms a l s=.er e s1 l1):cy fs gs ms (.cons a b) l s=.er e s1 l1:=by
 show (cy fs gs ms a l s).bind _=_
 rw [h]
 rfl
theorem fj (h:dE fs gs c l s=.ok (true,s1)):cy fs gs ms (.ife c a b) l s=cy fs gs ms a l s1:=by
 show (dE fs gs c l s).bind _=_
 rw [h]
 rfl
theorem dc (h:dE fs gs c l s=.ok (false,s1)):cy fs gs ms (.ife c a b) l s=cy fs gs ms b l s1:=by
 show (dE fs gs c l s).bind _=_
 rw [h]
 rfl
theorem cn:cy fs gs ms .nil l s=.ok (.nx l s):=rfl
theorem vC {kp:List Bool} {n:Nat} {ds:List D} (h:cy fs gs ms a (f8 kp n ds) []=.ok (.rt d t s)) (hs:s=[]):jk fs gs ms a kp n ds=.ok (d,t):=by
 unfold jk
 rw [h,hs]
theorem vD {kp:List Bool} {n:Nat} {ds:List D} (h:cy fs gs ms a (f8 kp n ds) []=.er e s l):jk fs gs ms a kp n ds=.er e [] []:=by
 unfold jk
 rw [h]
end

noncomputable def Fn.self (fs:List Fn) (gs:List D) (ms:Str→Str→Option Bool) (body:S) (kp:List Bool) (np n:Nat):Fn:={ kp:=kp,run:=fun ds=>if ds.length=np then jk fs gs ms body kp n ds else .no }
theorem cw {fs:List Fn} {gs:List D} {ms:Str→Str→Option Bool} {body:S} {kp:List Bool} {np n:Nat}:kN fs gs ms body np n (Fn.self fs gs ms body kp np n):=by
 refine ⟨fun ds=>?_,fun _ _=>.inl rfl⟩
 by_cases h:ds.length=np
 ·exact .inr ⟨h,(ap h).symm⟩
 ·exact .inl (av h)
def Fn.none (kp:List Bool):Fn:={ kp:=kp,run:=fun _=>.no }
section
variable {fs:List Fn} {gs:List D} {ms:Str→Str→Option Bool} {body:S} {kp:List Bool} {np n:Nat} {ds:List D} {d:D} {t:Tag} {s:cj} {e:Ex} {l:Lc}
theorem cA (hl:ds.length=np) (h:cy fs gs ms body (f8 kp n ds) []=.ok (.rt d t s)) (hs:s=[]:=by rfl):(Fn.self fs gs ms body kp np n).run ds=.ok (d,t):=(ap hl).trans (vC h hs)
theorem pW (hl:ds.length=np) (h:cy fs gs ms body (f8 kp n ds) []=.er e s l):(Fn.self fs gs ms body kp np n).run ds=.er e [] []:=(ap hl).trans (vD h)
end

section
variable {fs:List Fn} {gs:List D} {ms:Str→Str→Option Bool} {body:S} {kp:List Bool} {np n:Nat} {ds:List D} {d:D} {t:Tag} {s s1:cj} {e:Ex} {l:Lc} {c:Cell}
end
theorem qI {ds:List D} {n:Nat} {d:D} (h:ds[n]?=some d) (s:cj):iX (.tup ds) (.int (n:Int)) s=cg d s:=by
 show (match atI ds (n:Int) with | some d=>cg d s | none=>.no)=_
 rw [atI_nat (j:=n) h]
theorem kP {ds:List D} {n:Nat} {d:D} (h:ds[n]?=some d) (s:cj):iX (.lst ds) (.int (n:Int)) s=cg d s:=by
 show (match atI ds (n:Int) with | some d=>cg d s | none=>.no)=_
 rw [atI_nat (j:=n) h]
section
variable {fs:List Fn} {gs:List D} {ms:Str→Str→Option Bool} {a hs:S} {l l1:Lc} {s s1:cj} {o:Out} {e:Ex} {c:Str} {r:S}
end

theorem sN {α:Type} (xs:List α) (a b:Nat):iI xs (some (a:Int)) (some (b:Int))=(xs.take b).drop a:=by
 unfold iI
 rw [HT.sIx_nat,HT.sIx_nat]
 apply List.ext_getElem?
 intro i
 simp only [List.getElem?_take,List.getElem?_drop]
 by_cases h:i < min b xs.length - min a xs.length
 ·rw [ap h,ap (by omega)]
  congr 1
  omega
 ·rw [av h]
  by_cases h2:a+i < b
  ·rw [ap h2,aQ (by omega)]
  ·rw [av h2]
section
variable {fs:List Fn} {gs:List D} {ms:Str→Str→Option Bool} {b:S} {c x:X} {tg:T} {l l1:Lc} {s s1:cj} {ds:List D}
theorem whl_eq:cy fs gs ms (.whl c b) l s=jY (dE fs gs c) (cy fs gs ms b) l s:=rfl
theorem dG (h:gq fs gs x l s=.ok (ds,s1)):cy fs gs ms (.loop tg x b) l s=iK (fun d l s=>match T.put tg d l with | some l1=>cy fs gs ms b l1 s | none=>.no) ds l s1:=by
 show (gq fs gs x l s).bind _=_
 rw [h]
 rfl
end
theorem nr (s:cj):BOp.run .pow (.int 10) (.int 18) s=cg (.int 1000000000000000000) s:=(j8 10 18 s ⟨by decide,by decide,by decide⟩).trans (by simp)
theorem nt (s:cj):BOp.run .pow (.int 10) (.int 20) s=cg (.int 100000000000000000000) s:=(j8 10 20 s ⟨by decide,by decide,by decide⟩).trans (by simp)
theorem nv (s:cj):BOp.run .pow (.int 10) (.int 30) s=cg (.int 1000000000000000000000000000000) s:=(j8 10 30 s ⟨by decide,by decide,by decide⟩).trans (by simp)
theorem ny (s:cj):BOp.run .pow (.int 10) (.int 40) s=cg (.int 10000000000000000000000000000000000000000) s:=(j8 10 40 s ⟨by decide,by decide,by decide⟩).trans (by simp)

def l6 (l:Lc) (own:List Nat):Bool:=own.all fun i=>match l[i]? with | some (some ⟨.ow,_⟩)=>false | _=>true
theorem eh {α:Type} {fs:List Fn} {gs:List D} {own:List Nat} {t:T} {it e:X} {l:Lc} {ds:List α} {en g:α→D} (ho:l6 l own=true) (hi:gq fs gs it l []=.ok (ds.map en,[]))
  (hb:∀ x∈ds,∃ l1 tg,T.put t (en x) (de l own)=some l1∧b7 fs gs e l1 []=.ok (g x,tg,[])∧(tg=.fr∨tg=.nw∨(g x).still=true)) (hz:ds.length≤sizeLine):b7 fs gs (.comp own t it .nil e) l []=.ok (.lst (ds.map g),.nw,[]):=by
 show (if l6 l own=false then R.no else (gq fs gs it l []).bind fun (xs,s1) =>
   (R.noEr (cY (fun x s=>match T.put t x (de l own) with
    | none=>R.no
    | some l1=>(if X.isNil .nil=true then R.ok (true,s) else (b7 fs gs .nil l1 s).bind fun (b,_,s2)=>match b with | .bl b=>.ok (b,s2) | _=>.no).bind fun (b,s2) =>
      if b=true then cf (b7 fs gs e l1 s2) (fun d s3=>R.ok (some d,s3)) else R.ok ((none:Option D),s2)) xs s1)).bind fun (ds,s2)=>if ds.length≤sizeLine then dY (.lst ds) s2 else .no)=_
 rw [ho,hi]
 show (R.noEr (cY _ (ds.map en) [])).bind _=_
 rw [lw en g ds fun x hx=>?_]
 ·show (if (ds.map g).length≤sizeLine then dY (.lst (ds.map g)) [] else R.no)=_
  rw [ac,ap hz]
  rfl
 ·obtain ⟨l1,tg,h1,h2,h3⟩:=hb x hx
  simp only [h1]
  show cf (b7 fs gs e l1 []) (fun d s3=>R.ok (some d,s3))=_
  rw [h2]
  show (if (tg=.bo∨tg=.ow)∧(g x).still=false then R.no else R.ok (some (g x),[]))=_
  rw [av]
  rintro ⟨h4,h5⟩
  rcases h3 with rfl | rfl | h3
  ·rcases h4 with h4 | h4 <;> cases h4
  ·rcases h4 with h4 | h4 <;> cases h4
  ·rw [h3] at h5
   cases h5
theorem l7 {fs:List Fn} {gs:List D} {a:X} {l:Lc} {t:Tag} {j:Int} (h:b7 fs gs a l []=.ok (.int j,t,[])) (hj:-(2 ^ 62)≤j∧j < 2 ^ 62):gq fs gs (.rng1 a) l []=.ok ((List.range j.toNat).map fun i=>D.int (i:Nat),[]):=by
 show (b7 fs gs a l []).bind _=_
 rw [h]
 show (if -(2 ^ 62)≤j∧j < 2 ^ 62 then R.ok (gG 0 j.toNat,[]) else R.no)=_
 rw [ap hj]
 unfold gG
 simp only [Int.zero_add]
theorem gK {fs:List Fn} {gs:List D} {a:X} {l:Lc} {t:Tag} {ds:List D} (h:b7 fs gs a l []=.ok (.lst ds,t,[])) (ht:t≠.ow):gq fs gs (.it a) l []=.ok (ds,[]):=by
 show fR (b7 fs gs a l []) (fun x s1=>match x.items with | some xs=>R.ok (xs,s1) | none=>.no)=R.ok (ds,[])
 rw [h,lZ,av ht]
 rfl
theorem ie {fs:List Fn} {gs:List D} {a:X} {l:Lc} {t:Tag} {ds:List D} (h:b7 fs gs a l []=.ok (.tup ds,t,[])) (ht:t≠.ow):gq fs gs (.it a) l []=.ok (ds,[]):=by
 show fR (b7 fs gs a l []) (fun x s1=>match x.items with | some xs=>R.ok (xs,s1) | none=>.no)=R.ok (ds,[])
 rw [h,lZ,av ht]
 rfl


theorem sO (t:Ty):Ty.run t .non=some false:=by cases t <;> rfl
theorem wv (t:Ty) (b:Bool):Ty.run t (.bl b)=some (match t with | .bool=>true | .int=>true | _=>false):=by cases t <;> rfl
theorem sP (t:Ty) (b:Int):Ty.run t (.int b)=some (match t with | .int=>true | _=>false):=by cases t <;> rfl
theorem sQ (t:Ty) (b:Str):Ty.run t (.str b)=some (match t with | .str=>true | _=>false):=by cases t <;> rfl
theorem sR (t:Ty) (b:List D):Ty.run t (.tup b)=some (match t with | .tuple=>true | _=>false):=by cases t <;> rfl
theorem sS (t:Ty) (b:List D):Ty.run t (.lst b)=some (match t with | .list=>true | _=>false):=by cases t <;> rfl
theorem pX (a:Bool):SeqAt.shaped (D.bl a).py=true:=by simp [D.py,SeqAt.shaped,PyData.canLay0,PyData.depth]
theorem l8 (a:Str) (h:PyData.strOk a=true):SeqAt.shaped (D.str a).py=true:=by simp [D.py,SeqAt.shaped,PyData.canLay0,PyData.depth,h]
theorem ww {a b:D} (h:D.eqOk a b=true) (s:cj):COp.run .eq a b s=cg (.bl (D.eqv a b)) s:=by
 have e:COp.run .eq a b s=if D.eqOk a b then cg (.bl (D.eqv a b)) s else .no:=by cases a <;> cases b <;> rfl
 rw [e,ap h]
theorem sT {a b:D} (h:D.eqOk a b=true) (s:cj):COp.run .ne a b s=cg (.bl (!D.eqv a b)) s:=by
 have e:COp.run .ne a b s=if D.eqOk a b then cg (.bl (!D.eqv a b)) s else .no:=by cases a <;> cases b <;> rfl
 rw [e,ap h]
theorem BU (a b:Bool) (s:cj):COp.run .eq (.bl a) (.bl b) s=cg (.bl (a == b)) s:=ww (c7 rfl rfl (pX a) (pX b)) s
theorem BV (a b:Bool) (s:cj):COp.run .ne (.bl a) (.bl b) s=cg (.bl (!(a == b))) s:=sT (c7 rfl rfl (pX a) (pX b)) s
theorem sU (a b:Str) (ha:PyData.strOk a=true) (hb:PyData.strOk b=true) (s:cj):COp.run .eq (.str a) (.str b) s=cg (.bl (a == b)) s:=ww (c7 rfl rfl (l8 a ha) (l8 b hb)) s

def D.pl:Nat→D→Prop
 | 0,_=>False
 | _+1,.non=>True
 | _+1,.bl _=>True
 | _+1,.int _=>True
 | _+1,.str x=>PyData.strOk x=true
 | n+1,.tup xs=>xs.length≤sizeLine∧∀ x∈xs,D.pl n x
 | n+1,.lst xs=>xs.length≤sizeLine∧∀ x∈xs,D.pl n x
 | _+1,_=>False

def j0 (P:Program) (w:World) (K:PySem.W.Frag) (mg:Str→Option Value) (base:Heap) (lv:Nat) (x:Str) (F:Fn):Prop :=
 ∃ a fd ps,FnOk P w K mg base (L2.CX P w) lv a fd ps (gh ⟨P,w,K,jw⟩ mg F)∧mg x=some (.ref a)∧PySem.W.keepIn K (.ref a)=true∧Binds K fd ps []
inductive Cals (P:Program) (w:World) (K:PySem.W.Frag) (mg:Str→Option Value) (base:Heap) (lv:Nat):List Str→List Fn→Prop
 | nil:Cals P w K mg base lv [] []
 | cons {x:Str} {F:Fn} {xs:List Str} {Fs:List Fn} {j:Nat}:j0 P w K mg base j x F→j≤lv→Cals P w K mg base lv xs Fs→Cals P w K mg base lv (x :: xs) (F :: Fs)
section
variable {P:Program} {w:World} {K:PySem.W.Frag} {mg:Str→Option Value} {base:Heap} {lv:Nat}
theorem Cals.at:∀ {xs:List Str} {Fs:List Fn},Cals P w K mg base lv xs Fs→∀ (j:Nat) (f:Str) (F:Fn),xs[j]?=some f→Fs[j]?=some F →
  ∃ a fd ps,FnOk P w K mg base (L2.CX P w) lv a fd ps (gh ⟨P,w,K,jw⟩ mg F)∧mg f=some (.ref a)∧PySem.W.keepIn K (.ref a)=true∧Binds K fd ps []
 | _,_,.nil,j,f,F,h,_=>by simp at h
 | _,_,.cons ⟨a,fd,ps,h1,h2,h3,h4⟩ hl r,0,f,F,e1,e2=>by
  obtain rfl:=ad e1
  obtain rfl:=ad e2
  exact ⟨a,fd,ps,h1.mono hl,h2,h3,h4⟩
 | _,_,.cons _ _ r,j+1,f,F,e1,e2=>Cals.at r j f F e1 e2
def Ct.d:Ct→D
 | .int i=>.int i
 | .str z=>.str z
 | .tab kvs=>.cd kvs
def Ct.flat:Ct→Bool
 | .tab _=>false
 | _=>true

structure Cm (P:Program) (w:World) (K:PySem.W.Frag) (mg:Str→Option Value) (en hn:List Str) (ct:List (Str × Ct)) (ms:Str→Str→Option Bool):Prop where
 blt:∀ n∈blts,mg n=none
 exs:∀ x∈en,wJ K mg x
 hns:∀ x∈hn,∃ c,mg x=some c
 ms:∀ (x y:Str) (b:Bool) (c d:Value),ms x y=some b→mg x=some c→mg y=some d→PySem.W.exmOne K c d=some b
 ct:∀ p∈ct,∃ v u,mg p.1=some u∧RelV v u∧∀ (pn:Addr→Option Str) (F:Fr),Rp ⟨P,w,K,pn⟩ F p.2.d v

structure Cl (P:Program) (w:World) (K:PySem.W.Frag) (mg:Str→Option Value) (base:Heap) (lv:Nat) (fs:List Fn) (fl:List (Str × Str)) (mt:List (Nat × Str × Str)) (mks:List (Nat × Str)) (ic:List Str):Prop where
 fl:∀ c f,(c,f)∈fl→L2.Cls K (He.ga K c)∧L2.NoAttr K (He.ga K c) f
 mt:∀ j c m F,(j,c,m)∈mt→fs[j]?=some F→∃ a fd ps,FnOk P w K mg base (L2.CX P w) lv a fd ps (gh ⟨P,w,K,jw⟩ mg F)∧L2.Cls K (He.ga K c)∧L2.Meth K (He.ga K c) m a∧Binds K fd ps []
 mks:∀ j c F,(j,c)∈mks→fs[j]?=some F→∃ k a fd ps,k+1≤lv∧FnOk P w K mg base (L2.CX P w) k a fd ps (gh ⟨P,w,K,jw⟩ mg F)∧L2.Mk K (He.ga K c) a∧mg c=some (.ref (He.ga K c))∧Binds K fd ps []
 isc:∀ c,c∈ic→C8.InsC K (He.ga K c)∧mg c=some (.ref (He.ga K c))
theorem Cl.none {fs:List Fn}:Cl P w K mg base lv fs [] [] [] []:=⟨(fun _ _ h=>by cases h),(fun _ _ _ _ h=>by cases h),(fun _ _ _ h=>by cases h),fun _ h=>by cases h⟩

structure Xl (P:Program) (w:World) (K:PySem.W.Frag) (mg:Str→Option Value) (base:Heap) (lv:Nat) (cs:List Str) (fs:List Fn) (ms:Str→Str→Option Bool) (xl:List (Nat × Str)) (hl:List Nat):Prop where
 xs:∀ j c F,(j,c)∈xl→fs[j]?=some F→F=tZ ms c
 hx:∀ j f F,j∈hl→cs[j]?=some f→fs[j]?=some F→∃ a fd ps,FnX P w K mg base lv a fd ps F∧mg f=some (.ref a)∧PySem.W.keepIn K (.ref a)=true∧Binds K fd ps []
 xi:xl≠[]→CW K mg ms
theorem Xl.none {cs:List Str} {fs:List Fn} {ms:Str→Str→Option Bool}:Xl P w K mg base lv cs fs ms [] []:=⟨(fun _ _ _ h=>by cases h),(fun _ _ _ h=>by cases h),fun h=>absurd rfl h⟩

theorem Xl.ask {cs:List Str} {fs:List Fn} {ms:Str→Str→Option Bool} {xs:List (Nat × Str)} (h:∀ p∈xs,fs[p.1]?=some (tZ ms p.2)) (xi:CW K mg ms):Xl P w K mg base lv cs fs ms xs [] :=
 ⟨(fun j c F hj hF=>by have:=h (j,c) hj; rw [hF] at this; exact ad this),(fun _ _ _ h=>by cases h),fun _=>xi⟩
theorem Xs.nil {fs:List Fn} {ms:Str→Str→Option Bool}:∀ p∈([]:List (Nat × Str)),fs[p.1]?=some (tZ ms p.2):=fun _ h=>by cases h
theorem Xs.cons {fs:List Fn} {ms:Str→Str→Option Bool} {j:Nat} {c:Str} {r:List (Nat × Str)} (h:fs[j]?=some (tZ ms c)) (hr:∀ p∈r,fs[p.1]?=some (tZ ms p.2)):∀ p∈(j,c) :: r,fs[p.1]?=some (tZ ms p.2):=fun p hp=>by
 rcases ax.mp hp with rfl | hp
 ·exact h
 ·exact hr p hp

theorem Xl.one {cs:List Str} {fs:List Fn} {ms:Str→Str→Option Bool} {j k:Nat} {f:Str} {F:Fn} {a:Addr} {fd:FuncData} {ps:List Str} (hc:cs[j]?=some f) (hF:fs[j]?=some F) (hX:FnX P w K mg base k a fd ps F) (hk:k≤lv) (hm:mg f=some (.ref a)) (hkp:PySem.W.keepIn K (.ref a)=true) (hb:Binds K fd ps []) :
  Xl P w K mg base lv cs fs ms [] [j] :=
 ⟨(fun _ _ _ h=>by cases h),(fun j' f' F' hj e1 e2=>by
  obtain rfl:=ak.mp hj
  rw [hc] at e1
  rw [hF] at e2
  cases e1
  cases e2
  exact ⟨a,fd,ps,hX.mono hk,hm,hkp,hb⟩),fun h=>absurd rfl h⟩
theorem Cals.len:∀ {xs:List Str} {Fs:List Fn},Cals P w K mg base lv xs Fs→xs.length=Fs.length
 | _,_,.nil=>rfl
 | _,_,.cons _ _ r=>bj (·+1) (Cals.len r)
theorem BW {en hn:List Str} {ct:List (Str × Ct)} {ms:Str→Str→Option Bool} (X:Cm P w K mg en hn ct ms) {scope:Scope} {N cs:List Str} {gn:List (Str × Ct)} {fs fs2:List Fn}
  {fl:List (Str × Str)} {mt:List (Nat × Str × Str)} {mks xs:List (Nat × Str)} {hx:List Nat} {ic:List Str} {ea:List (Str × Str)} (hea:∀ c f,(c,f)∈ea→rF P w K mg base lv c f) (hcl:Cl P w K mg base lv (fs++fs2) fl mt mks ic) (hxl:Xl P w K mg base lv cs (fs++fs2) ms xs hx) (hgn:∀ p∈gn,p∈ct) (hc:Cals P w K mg base lv cs fs) :
  Fx P w K mg base ⟨N,scope,cs,gn.map (fun (p:Str × Ct)=>p.1),true,false,en,hn,fl,mt,mks,xs,hx,ic,ea⟩ ⟨⟨P,w,K,jw⟩,mg,fs++fs2,gn.map (fun (p:Str × Ct)=>p.2.d),lv,ms⟩:=by
 refine ⟨rfl,rfl,fun j g G h1 h2=>hc.at j g G h1 ?_,X.blt,fun j y d h1 h2=>?_,X.exs,X.hns,X.ms,hcl.fl,hcl.mt,hcl.mks,hxl.xs,hxl.hx,hxl.xi,hcl.isc,hea⟩
 ·have hj:j < cs.length:=(au.mp h1).1
  rw [hc.len] at hj
  have h2:(fs++fs2)[j]?=some G:=h2
  rw [a9 hj] at h2
  exact h2
 have h1:(gn.map (fun (p:Str × Ct)=>p.1))[j]?=some y:=h1
 have h2:(gn.map (fun (p:Str × Ct)=>p.2.d))[j]?=some d:=h2
 rw [aD,az] at h1 h2
 obtain ⟨p,hp,rfl⟩:=h1
 obtain ⟨q,hq,rfl⟩:=h2
 rw [hp] at hq
 obtain rfl:=ad hq
 obtain ⟨v,u,h3,h4,h5⟩:=X.ct p (hgn p (aZ hp))
 exact ⟨v,u,h3,h4,h5⟩
theorem sV {en hn:List Str} {ct:List (Str × Ct)} {ms:Str→Str→Option Bool} (X:Cm P w K mg en hn ct ms) {x qual:Str} {params:Arguments} {stmts:List Stmt} {scope:Scope} {f:Addr} {fd:FuncData} {ps N cs:List Str} {gn:List (Str × Ct)} {body:GM.S} {fs fs2:List Fn} {fn:Fn}
  {fl:List (Str × Str)} {mt:List (Nat × Str × Str)} {mks xs:List (Nat × Str)} {hx:List Nat} {ic:List Str} (hcl:Cl P w K mg base lv (fs++fs2) fl mt mks ic) (hxl:Xl P w K mg base lv cs (fs++fs2) ms xs hx)
  (F:FunD K x qual params stmts scope [] [] f fd) (SC:FnScope N ps scope) (ck:cV ⟨N,scope,cs,gn.map (fun (p:Str × Ct)=>p.1),true,false,en,hn,fl,mt,mks,xs,hx,ic,[]⟩ body stmts=true) (hk:kN (fs++fs2) (gn.map fun (p:Str × Ct)=>p.2.d) ms body ps.length N.length fn)
  (hgn:∀ p∈gn,p∈ct) (hc:Cals P w K mg base lv cs fs):FnOk P w K mg base (L2.CX P w) (lv+1) f fd ps (gh ⟨P,w,K,jw⟩ mg fn):=by
 exact BT (BW X (ea:=[]) (fun _ _ h=>by cases h) hcl hxl hgn hc) F SC rfl rfl rfl ck hk
theorem pY {en hn:List Str} {ct:List (Str × Ct)} {ms:Str→Str→Option Bool} (X:Cm P w K mg en hn ct ms) {x qual:Str} {params:Arguments} {stmts:List Stmt} {scope:Scope} {f:Addr} {fd:FuncData} {ps N cs:List Str} {gn:List (Str × Ct)} {body:GM.S} {fs:List Fn} {fn:Fn}
  (F:FunD K x qual params stmts scope [] [] f fd) (SC:FnScope N ps scope) (ck:cV ⟨N,scope,cs,gn.map (fun (p:Str × Ct)=>p.1),true,false,en,hn,[],[],[],[],[],[],[]⟩ body stmts=true) (hk:kN fs (gn.map fun (p:Str × Ct)=>p.2.d) ms body ps.length N.length fn)
  (hgn:∀ p∈gn,p∈ct) (hc:Cals P w K mg base lv cs fs):FnOk P w K mg base (L2.CX P w) (lv+1) f fd ps (gh ⟨P,w,K,jw⟩ mg fn) :=
 sV (fs2:=[]) X .none .none F SC ck (by rw [aX]; exact hk) hgn hc
theorem dr {en hn:List Str} {ct:List (Str × Ct)} {ms:Str→Str→Option Bool} (X:Cm P w K mg en hn ct ms) {x x0 qual:Str} {params:Arguments} {stmts:List Stmt} {scope:Scope} {f:Addr} {fd:FuncData} {ps N cs:List Str} {gn:List (Str × Ct)} {body:GM.S} {fs:List Fn} {fn:Fn}
  (F:FunD K x0 qual params stmts scope [] [] f fd) (SC:FnScope N ps scope) (ck:cV ⟨N,scope,cs,gn.map (fun (p:Str × Ct)=>p.1),true,false,en,hn,[],[],[],[],[],[],[]⟩ body stmts=true) (hk:kN fs (gn.map fun (p:Str × Ct)=>p.2.d) ms body ps.length N.length fn)
  (hgn:∀ p∈gn,p∈ct) (hg:mg x=some (.ref f)) (hb:Binds K fd ps []) (hc:Cals P w K mg base lv cs fs):j0 P w K mg base (lv+1) x fn :=
 ⟨f,fd,ps,pY X F SC ck hk hgn hc,hg,F.kp,hb⟩



theorem pZ {en hn:List Str} {ct:List (Str × Ct)} {ms:Str→Str→Option Bool} (X:Cm P w K mg en hn ct ms) {x qual:Str} {params:Arguments} {stmts:List Stmt} {scope:Scope} {f:Addr} {fd:FuncData} {ps N cs:List Str} {gn:List (Str × Ct)} {body:GM.S} {fs:Nat→List Fn} {fl:Nat→Fn}
  (F:FunD K x qual params stmts scope [] [] f fd) (SC:FnScope N ps scope) (ck:cV ⟨N,scope,cs,gn.map (fun (p:Str × Ct)=>p.1),true,false,en,hn,[],[],[],[],[],[],[]⟩ body stmts=true) (h0:(∀ ds,(fl 0).run ds=.no)∧∀ ds s,(fl 0).runS ds s=.no) (hk:∀ n,kN (fs n) (gn.map fun (p:Str × Ct)=>p.2.d) ms body ps.length N.length (fl (n+1)))
  (hgn:∀ p∈gn,p∈ct) (hg:mg x=some (.ref f)) (hb:Binds K fd ps []) (hc:∀ n,j0 P w K mg base (lv+n) x (fl n)→Cals P w K mg base (lv+n) cs (fs n)):∀ n,j0 P w K mg base (lv+n) x (fl n)
 | 0 =>
  have z:∀ {vs H Q E},¬ gh ⟨P,w,K,jw⟩ mg (fl 0) vs H Q E:=fun h=>by
   rcases h with ⟨_,ds,_,_,_,h2⟩ | ⟨_,_,ds,s0,_,_,_,_,_,h2⟩
   ·rw [h0.1] at h2
    exact h2
   ·rw [h0.2] at h2
    exact h2
  ⟨f,fd,ps,⟨fun vs H Q E h=>absurd h z,fun A outer s H args us vs Q E _ _ _ _ h=>absurd h z⟩,hg,F.kp,hb⟩
 | n+1=>dr (lv:=lv+n) X F SC ck (hk n) hgn hg hb (hc n (pZ X F SC ck h0 hk hgn hg hb hc n))
end

theorem sW {P:Program} {w:World} {K:PySem.W.Frag} {ct:List (Str × Ct)} (h:(ct.all fun p=>p.2.flat)=true):∀ p∈ct,∀ kvs,p.2=.tab kvs→∀ pn,TbK ⟨P,w,K,pn⟩ (He.ga K p.1) kvs:=fun p hp kvs e=>by
 have:=aR.mp h p hp
 rw [e] at this
 cases this
def fP (tab:List ((Str × Str) × Bool)):Str→Str→Option Bool:=fun x y=>tab.lookup (x,y)
theorem kQ {α β:Type} [BEq α] [LawfulBEq α]:∀ {l:List (α × β)} {a:α} {b:β},l.lookup a=some b→(a,b)∈l
 | [],_,_,h=>by cases h
 | (x,y) :: r,a,b,h=>by
  rw [List.lookup_cons] at h
  by_cases e:a == x
  ·rw [e] at h
   have e2:=eq_of_beq e
   subst e2
   obtain rfl:=ad h
   exact aj
  ·have e3:(a == x)=false:=by simpa using e
   rw [e3] at h
   exact ao _ (kQ h)
theorem wx {P:Program} {w:World} {K:PySem.W.Frag} {h:Heap} {mg:Str→Option Value} {fns en hn:List Str} {ct:List (Str × Ct)} {tab:List ((Str × Str) × Bool)} {fn:List He.DefD} (X:K.In h) (G:h.Ns mainGlobals mg) (c:He.SaysD (wC fns en hn ct tab) fn K)
  (ht:(tab.all fun p=>(en.contains p.1.1 || fns.contains p.1.1) && hn.contains p.1.2)=true) (hT:∀ p∈ct,∀ kvs,p.2=.tab kvs→∀ pn,TbK ⟨P,w,K,pn⟩ (He.ga K p.1) kvs):Cm P w K mg en hn ct (fP tab)∧∀ x∈fns,mg x=some (.ref (He.ga K x)):=by
 have fact:∀ f∈wC fns en hn ct tab,f.ok K=true:=fun f hf=>by
  obtain ⟨i,hi⟩:=List.mem_iff_getElem?.mp hf
  exact c.fact i hi
 have e1:∀ x∈fns,mg x=some (.ref (He.ga K x)):=fun x hx=>He.glo_ok X G (fact _ (aJ _ (br hx)))
 have e2:∀ x∈en,mg x=some (.ref (He.ga K x)):=fun x hx=>He.glo_ok X G (fact _ (am _ (aJ _ (br hx))))
 have e4:∀ x∈hn,mg x=some (.ref (He.ga K x)):=fun x hx=>He.glo_ok X G (fact _ (am _ (am _ (am _ (aJ _ (br hx))))))
 refine ⟨⟨fun n hn'=>?_,fun x hx=>?_,fun x hx=>⟨_,e4 x hx⟩,fun x y b cc d hm h1 h2=>?_,fun p hp=>?_⟩,e1⟩
 ·exact He.free_ok X G (fact _ (am _ (am _ (am _ (am _ (aJ _ (br hn')))))))
 ·obtain ⟨q1,q2,q3,q4⟩:=He.exc_ok (fact (.exc x) (am _ (am _ (aJ _ (br hx)))))
  exact ⟨He.ga K x,He.veBase,"ValueError","ValueError.__new__","ValueError.__init__",PySem.F.excBase_ValueError,q1,e2 x hx,q2,q3,q4⟩
 ·have hmem:=kQ (show tab.lookup (x,y)=some b from hm)
  have hc:=aR.mp ht _ hmem
  simp only [ab] at hc
  have r1:mg x=some (.ref (He.ga K x)):=by
   have q:=hc.1
   rw [bC] at q
   rcases q with q | q
   ·exact e2 x (aK.mp q)
   ·exact e1 x (aK.mp q)
  have r2:=e4 y (aK.mp hc.2)
  rw [r1] at h1
  rw [r2] at h2
  obtain rfl:=ad h1
  obtain rfl:=ad h2
  exact He.exm_ok (fact (.exm x y b) (am _ (am _ (am _ (am _ (am _ (am _ (br (f:=fun (p:(Str × Str) × Bool)=>He.Fa.exm p.1.1 p.1.2 p.2) hmem))))))))
 ·have fp:=fact (p.2.fa p.1) (am _ (am _ (am _ (am _ (am _ (aJ _ (br (f:=fun (p:Str × Ct)=>p.2.fa p.1) hp)))))))
  obtain ⟨x,c⟩:=p
  cases c with
  | int i =>
   obtain ⟨t,ht⟩:=He.int_ok X G fp
   exact ⟨.int i,.int i t,ht,⟨t,rfl⟩,fun _ _=>.int _⟩
  | str z =>
   obtain ⟨t,ht⟩:=He.str_ok X G fp
   exact ⟨.str z,.str z t,ht,⟨t,rfl⟩,fun _ _=>.str _⟩
  | tab kvs=>exact ⟨.ref (He.ga K x),.ref (He.ga K x),He.glo_ok X G fp,rfl,fun pn F=>.tb (hT _ hp kvs rfl pn)⟩

theorem sX {l:PySem.W.OpenLaw} {n k:Nat} {q:Program} {loose:List Str} {XP:(Str→Option Value)→Heap→Prop} {YP:World→Heap→Prop} {d:DefRec} {x:Str} {F:Fn}
  (hn:l.most=some n) (hn2:n≤sizeLine) (hdf:d.params.defaults=[]) (hr:Room k callerA) (hF:∀ ns:List Int,ns.length≤n→F.run [.arr (ns.map D.int)]=.ok (.bl true,.fr))
  (A:∀ (w:World) (mg:Str→Option Value) (fa:Addr) (h:Heap),YP w h→h.Ns mainGlobals mg→mg d.name=some (.ref fa) →
   ∃ (K:PySem.W.Frag) (fd:FuncData),K.In h∧(∀ (s:Shared) (u:Value),BindsTo s fd ⟨[u],[]⟩ [(x,u)]) ∧
    ∀ base:Heap,K.In base→base.Ns mainGlobals mg→FnOk l.prog w K mg base (L2.CX l.prog w) k fa fd [x] (gh ⟨l.prog,w,K,jw⟩ mg F)) :
  PySem.W.WalkO q loose XP YP l.row.toRowW d [] (fun f vs=>PySem.call f vs):=by
 refine Att.attach_call hn hdf fun w s₀ s₁ mg mb fa o pm cd doc a vs ns G Y ho hd hcd hmg hobj hints hlen hg=>?_
 obtain ⟨K,fd,KX,hb,hA⟩:=A w mg fa _ Y G.T.g hmg
 refine law_call KX G.T.g G.T.b G.T.builtins G.T.nolimit hg hobj hints (Nat.le_trans hlen hn2) hr hA hb (fun H hO hS=>?_) fun H e s' hx=>?_
 ·refine .inl ⟨⟨H,fun _=>none⟩,[.arr (ns.map D.int)],Same.refl H,(fun a n q=>by cases q),⟨?_,trivial⟩,?_⟩
  ·have rp:Rp ⟨l.prog,w,K,jw⟩ ⟨H,fun _=>none⟩ (.arr (ns.map D.int)) (.ref a):=.arr hS (by
    clear hints hlen hS
    induction ns with
    | nil=>exact .nil
    | cons n ns ih=>exact .cons (.int n) ih)
   by_cases hk:F.kp.headD false=true
   ·rw [ap hk]; exact rp
   ·rw [av hk]; exact .inl rp
  ·rw [hF ns hlen]
   intro F' H' v _ _ _ _ r
   cases r
   rfl
 ·obtain ⟨_,_,_,_,_,_,_,_,_,_,_,_,z⟩:=hx
  exact z


section
variable {P:Program} {w:World} {K:PySem.W.Frag} {mg:Str→Option Value} {base:Heap} {lv:Nat}
def F5 (P:Program) (w:World) (K:PySem.W.Frag) (mg:Str→Option Value) (base:Heap) (lv:Nat) (c m:Str) (F:Fn):Prop :=
 ∃ a fd ps,FnOk P w K mg base (L2.CX P w) lv a fd ps (gh ⟨P,w,K,jw⟩ mg F)∧L2.Cls K (He.ga K c)∧L2.Meth K (He.ga K c) m a∧Binds K fd ps []
def F6 (P:Program) (w:World) (K:PySem.W.Frag) (mg:Str→Option Value) (base:Heap) (lv:Nat) (c:Str) (F:Fn):Prop :=
 ∃ a fd ps,FnOk P w K mg base (L2.CX P w) lv a fd ps (gh ⟨P,w,K,jw⟩ mg F)∧L2.Mk K (He.ga K c) a∧mg c=some (.ref (He.ga K c))∧Binds K fd ps []
inductive Mts (P:Program) (w:World) (K:PySem.W.Frag) (mg:Str→Option Value) (base:Heap) (lv:Nat) (fs:List Fn):List (Nat × Str × Str)→Prop
 | nil:Mts P w K mg base lv fs []
 | cons {j i:Nat} {c m:Str} {F:Fn} {r:List (Nat × Str × Str)}:fs[j]?=some F→F5 P w K mg base i c m F→i≤lv→Mts P w K mg base lv fs r→Mts P w K mg base lv fs ((j,c,m) :: r)
inductive Mks (P:Program) (w:World) (K:PySem.W.Frag) (mg:Str→Option Value) (base:Heap) (lv:Nat) (fs:List Fn):List (Nat × Str)→Prop
 | nil:Mks P w K mg base lv fs []
 | cons {j i:Nat} {c:Str} {F:Fn} {r:List (Nat × Str)}:fs[j]?=some F→F6 P w K mg base i c F→i+1≤lv→Mks P w K mg base lv fs r→Mks P w K mg base lv fs ((j,c) :: r)
theorem Mts.at {fs:List Fn}:∀ {mt:List (Nat × Str × Str)},Mts P w K mg base lv fs mt→∀ j c m F,(j,c,m)∈mt→fs[j]?=some F →
  ∃ a fd ps,FnOk P w K mg base (L2.CX P w) lv a fd ps (gh ⟨P,w,K,jw⟩ mg F)∧L2.Cls K (He.ga K c)∧L2.Meth K (He.ga K c) m a∧Binds K fd ps []
 | _,.nil,_,_,_,_,h,_=>by cases h
 | _,.cons e ⟨a,fd,ps,q1,q2⟩ hl r,j,c,m,F,h,eF=>by
  rcases ax.mp h with h | h
  ·cases h
   rw [e] at eF
   cases eF
   exact ⟨a,fd,ps,q1.mono hl,q2⟩
  ·exact Mts.at r j c m F h eF
theorem Mks.at {fs:List Fn}:∀ {mk:List (Nat × Str)},Mks P w K mg base lv fs mk→∀ j c F,(j,c)∈mk→fs[j]?=some F →
  ∃ k a fd ps,k+1≤lv∧FnOk P w K mg base (L2.CX P w) k a fd ps (gh ⟨P,w,K,jw⟩ mg F)∧L2.Mk K (He.ga K c) a∧mg c=some (.ref (He.ga K c))∧Binds K fd ps []
 | _,.nil,_,_,_,h,_=>by cases h
 | _,.cons e ⟨a,fd,ps,q1,q2⟩ hl r,j,c,F,h,eF=>by
  rcases ax.mp h with h | h
  ·cases h
   rw [e] at eF
   cases eF
   exact ⟨_,a,fd,ps,hl,q1,q2⟩
  ·exact Mks.at r j c F h eF
structure Fc (K:PySem.W.Frag) (mg:Str→Option Value) (cl:List Str) (at_ mt:List (Str × Str)) (mk:List Str):Prop where
 cls:∀ x∈cl,L2.Cls K (He.ga K x)
 noat:∀ p∈at_,L2.NoAttr K (He.ga K p.1) p.2
 meth:∀ p∈mt,L2.Meth K (He.ga K p.1) p.2 (He.ma K (He.ga K p.1) p.2)
 mkr:∀ x∈mk,L2.Mk K (He.ga K x) (He.ma K (He.ga K x) "__init__")∧mg x=some (.ref (He.ga K x))
theorem Cl.of {fs:List Fn} {cl:List Str} {at_ mt0:List (Str × Str)} {mk0:List Str} {fl:List (Str × Str)} {mt:List (Nat × Str × Str)} {mks:List (Nat × Str)} {ic:List Str} (X:Fc K mg cl at_ mt0 mk0) (hfl:(fl.all fun p=>cl.contains p.1 && at_.contains p)=true) (hm:Mts P w K mg base lv fs mt) (hk:Mks P w K mg base lv fs mks) (hi:∀ c,c∈ic→C8.InsC K (He.ga K c)∧mg c=some (.ref (He.ga K c))):Cl P w K mg base lv fs fl mt mks ic:=by
 refine ⟨fun c f h=>?_,hm.at,hk.at,hi⟩
 have z:=aR.mp hfl _ h
 simp only [ab,aK] at z
 exact ⟨X.cls _ z.1,X.noat _ z.2⟩
end


section
variable {K:PySem.W.Frag} {en hn al:List Str}
end



def wy (n:Nat) (fa:List He.Fa) (fn:List He.DefD):PySem.W.Hook where
 α:=He.AlD
 obs:=fun s=>ph n fa fn s.heap.get?
 val:=fun _=>He.valD fn
 says:=fun _ h=>∃ K:PySem.W.Frag,K.In h∧He.SaysD fa fn K
 of:=fun _ _ e=>⟨_,He.frG_in,e⟩
 keeps:=fun _ _ _ ⟨K,hK,c⟩ k=>⟨K,PySem.W.Frag.In.keeps hK k,c⟩
theorem sY {n:Nat} {fa:List He.Fa} {fn:List He.DefD} {g:Addr→Option Obj} {s:Shared} (h:∀ a,g a=s.heap.get? a):ph n fa fn g=(wy n fa fn).obs s:=by
 have e:g=s.heap.get?:=funext h
 rw [e] <;> rfl


section
variable {fs:List Fn} {gs:List D} {ms:Str→Str→Option Bool} {a b x:X} {l l1:Lc} {s s1:cj} {d:D} {t t':Tag} {k:Bool} {tg:T} {ds:List D} {j:Nat} {f:Fn} {e:Ex}
theorem j9:fA fs gs .nil l s=.ok (true,s):=rfl
theorem jS (h:b7 fs gs a l s=.ok (.bl true,t,s1)):fA fs gs (.cons a b) l s=fA fs gs b l s1:=by
 show (b7 fs gs a l s).bind _=_
 rw [h]
 rfl
theorem wz (h:b7 fs gs a l s=.ok (.bl false,t,s1)):fA fs gs (.cons a b) l s=.ok (false,s1):=by
 show (b7 fs gs a l s).bind _=_
 rw [h]
 rfl
theorem jE (h:fA fs gs x l s=.ok (k,s1)):b7 fs gs (.and x) l s=.ok (.bl k,.fr,s1):=by
 show (fA fs gs x l s).bind _=_
 rw [h]
 rfl
theorem sZ:hU fs gs .nil l s=.ok (false,s):=rfl
theorem vE (h:b7 fs gs a l s=.ok (.bl false,t,s1)):hU fs gs (.cons a b) l s=hU fs gs b l s1:=by
 show (b7 fs gs a l s).bind _=_
 rw [h]
 rfl
theorem BX (h:b7 fs gs a l s=.ok (.bl true,t,s1)):hU fs gs (.cons a b) l s=.ok (true,s1):=by
 show (b7 fs gs a l s).bind _=_
 rw [h]
 rfl
theorem p6 (h:hU fs gs x l s=.ok (k,s1)):b7 fs gs (.or x) l s=.ok (.bl k,.fr,s1):=by
 show (hU fs gs x l s).bind _=_
 rw [h]
 rfl
theorem oZ (h:b7 fs gs x l s=.ok (.bl k,t,s1)):b7 fs gs (.not x) l s=.ok (.bl (!k),.fr,s1):=by
 show (b7 fs gs x l s).bind _=_
 rw [h]
 rfl
theorem cB (h:b7 fs gs x l s=.ok (.bl k,t,s1)):dE fs gs x l s=.ok (k,s1):=by
 unfold dE
 rw [h]
 rfl
theorem du (h:b7 fs gs x l s=.ok (d,t,s1)) (h2:qD t d=some t'):cy fs gs ms (.ret x) l s=.ok (.rt d t' s1):=by
 show (b7 fs gs x l s).bind (fun (d,t,s1)=>match qD t d with | some t'=>R.ok (Out.rt d t' s1) | none=>.no)=_
 rw [h,cN]
 show (match qD t d with | some t'=>R.ok (Out.rt d t' s1) | none=>.no)=_
 rw [h2]
theorem cx (h:b7 fs gs x l s=.ok (d,t,s1)) (ht:t=.fr∨t=.nw∨d.still=true) (h2:T.put tg d l=some l1):cy fs gs ms (.set tg x) l s=.ok (.nx l1 s1):=by
 show cf (b7 fs gs x l s) (fun d s1=>match T.put tg d l with | some l1=>R.ok (Out.nx l1 s1) | none=>.no)=_
 rw [h,fu,av,h2]
 rintro ⟨h4,h5⟩
 rcases ht with rfl | rfl | ht
 ·rcases h4 with h4 | h4 <;> cases h4
 ·rcases h4 with h4 | h4 <;> cases h4
 ·rw [ht] at h5
  cases h5
theorem zd (h:b7 fs gs x l s=.er e s1 l1):cy fs gs ms (.set tg x) l s=.er e s1 l1:=by
 show cf (b7 fs gs x l s) _=_
 rw [h]
 rfl
theorem cQ (hf:fs[j]?=some f) (ha:ft fs gs x f.kp l s=.ok (ds,s1)) (hr:f.run ds=.ok (d,t)):b7 fs gs (.call j x) l s=.ok (d,t,s1):=by
 show (match fs[j]? with
  | some f=>(ft fs gs x f.kp l s).bind fun (ds,s1)=>match f.run ds with
   | .ok (d,t)=>R.ok (d,t,s1)
   | .er e _ _=>.er e s1 l
   | .no=>.no
  | none=>.no)=_
 rw [hf]
 show (ft fs gs x f.kp l s).bind _=_
 rw [ha,cN]
 show (match f.run ds with
   | .ok (d,t)=>R.ok (d,t,s1)
   | .er e _ _=>.er e s1 l
   | .no=>.no)=_
 rw [hr]
theorem tc {s2:cj} {l2:Lc} (hf:fs[j]?=some f) (ha:ft fs gs x f.kp l s=.ok (ds,s1)) (hr:f.run ds=.er e s2 l2):b7 fs gs (.call j x) l s=.er e s1 l:=by
 show (match fs[j]? with
  | some f=>(ft fs gs x f.kp l s).bind fun (ds,s1)=>match f.run ds with
   | .ok (d,t)=>R.ok (d,t,s1)
   | .er e _ _=>.er e s1 l
   | .no=>.no
  | none=>.no)=_
 rw [hf]
 show (ft fs gs x f.kp l s).bind _=_
 rw [ha,cN]
 show (match f.run ds with
   | .ok (d,t)=>R.ok (d,t,s1)
   | .er e _ _=>.er e s1 l
   | .no=>.no)=_
 rw [hr]

theorem eC (h:b7 fs gs x l s=.ok (.lst ds,t,s1)):b7 fs gs (.bi .tuple #v[x]) l s=.ok (.tup ds,.fr,s1):=by
 show ((b7 fs gs x l s).bind fun (d,t,s1)=>if ([]:List Bool).headD false=true∧(t=.bo∨t=.ow)∧d.still=false then R.no else (R.ok (([]:List D),s1)).bind fun (ds,s2)=>.ok (d :: ds,s2)).bind (fun (ds,s1)=>BI.run .tuple ds s1)=_
 rw [h,cN]
 show (if ([]:List Bool).headD false=true∧(t=.bo∨t=.ow)∧(D.lst ds).still=false then R.no else R.ok ([D.lst ds],s1)).bind _=_
 rw [av (by rintro ⟨q,_⟩; cases q)]
 rfl
theorem ze {bs:List Bool} (h:b7 fs gs x l s=.ok (.lst (bs.map D.bl),t,s1)):b7 fs gs (.bi .all #v[x]) l s=.ok (.bl (bs.all id),.fr,s1):=by
 show ((b7 fs gs x l s).bind fun (d,t,s1)=>if ([]:List Bool).headD false=true∧(t=.bo∨t=.ow)∧d.still=false then R.no else (R.ok (([]:List D),s1)).bind fun (ds,s2)=>.ok (d :: ds,s2)).bind (fun (ds,s1)=>BI.run .all ds s1)=_
 rw [h,cN]
 show (if ([]:List Bool).headD false=true∧(t=.bo∨t=.ow)∧(D.lst (bs.map D.bl)).still=false then R.no else R.ok ([D.lst (bs.map D.bl)],s1)).bind _=_
 rw [av (by rintro ⟨q,_⟩; cases q),cN]
 exact vx bs s1

def lx (kp:List Bool) (t:Tag) (d:D):Prop:=kp.headD false=false∨t=.fr∨t=.nw∨d.still=true
theorem cz {kp:List Bool} {es:X} (h:b7 fs gs x l s=.ok (d,t,s1)) (hk:lx kp t d) {s2:cj} (h2:ft fs gs es kp.tail l s1=.ok (ds,s2)):ft fs gs (.cons x es) kp l s=.ok (d :: ds,s2):=by
 show (b7 fs gs x l s).bind (fun (d,t,s1)=>if kp.headD false=true∧(t=.bo∨t=.ow)∧d.still=false then R.no else (ft fs gs es kp.tail l s1).bind fun (ds,s2)=>.ok (d :: ds,s2))=_
 rw [h,cN]
 show (if kp.headD false=true∧(t=.bo∨t=.ow)∧d.still=false then R.no else (ft fs gs es kp.tail l s1).bind fun (ds,s2)=>.ok (d :: ds,s2))=_
 rw [av,h2]
 ·rfl
 rintro ⟨q1,q2,q3⟩
 rcases hk with hk | hk | hk | hk
 ·rw [hk] at q1; cases q1
 ·subst hk; rcases q2 with q2 | q2 <;> cases q2
 ·subst hk; rcases q2 with q2 | q2 <;> cases q2
 ·rw [hk] at q3; cases q3
theorem jF {kp:List Bool} {x y:X} {d d2:D} {t t2:Tag} (h:b7 fs gs x l []=.ok (d,t,[])) (h2:b7 fs gs y l []=.ok (d2,t2,[])) (k1:lx kp t d) (k2:lx kp.tail t2 d2):ft fs gs #v[x,y] kp l []=.ok ([d,d2],[]) :=
 cz h k1 (cz h2 k2 rfl)
theorem DT {kp:List Bool} {x y z:X} {d d2 d3:D} {t t2 t3:Tag} (h:b7 fs gs x l []=.ok (d,t,[])) (h2:b7 fs gs y l []=.ok (d2,t2,[])) (h3:b7 fs gs z l []=.ok (d3,t3,[])) (k1:lx kp t d) (k2:lx kp.tail t2 d2) (k3:lx kp.tail.tail t3 d3) :
  ft fs gs #v[x,y,z] kp l []=.ok ([d,d2,d3],[]):=cz h k1 (cz h2 k2 (cz h3 k3 rfl))
theorem cW {o:BOp} {x y:X} {d d2 d3:D} {t t2 t3:Tag} {s2 s3:cj} (h:b7 fs gs x l s=.ok (d,t,s1)) (h2:b7 fs gs y l s1=.ok (d2,t2,s2)) (h3:BOp.run o d d2 s2=.ok (d3,t3,s3)):b7 fs gs (.bin o x y) l s=.ok (d3,t3,s3):=by
 show (b7 fs gs x l s).bind _=_
 rw [h,cN]
 show (b7 fs gs y l s1).bind _=_
 rw [h2]
 exact h3
end
theorem zf (a b:Str) (ha:PyData.strOk a=true) (hb:PyData.strOk b=true) (s:cj):COp.run .ne (.str a) (.str b) s=cg (.bl (!(a == b))) s:=sT (c7 rfl rfl (l8 a ha) (l8 b hb)) s

section
variable {fs:List Fn} {gs:List D} {ms:Str→Str→Option Bool} {x:X} {l l1:Lc} {s s1:cj} {d:D} {t:Tag} {e:Ex}
end
section
variable {fs:List Fn} {gs:List D} {ms:Str→Str→Option Bool} {x:X} {l l1:Lc} {s s1:cj} {d:D} {t:Tag} {e:Ex} {ds:List D} {i:Nat}
theorem cX (h:b7 fs gs x l s=.ok (d,.nw,s1)):cy fs gs ms (.own i x) l s=.ok (.nx (l.set i (some ⟨.ow,d⟩)) s1):=by
 show (b7 fs gs x l s).bind _=_
 rw [h]
 rfl
theorem vF {es:List D} (hl:l[i]?=some (some ⟨.ow,.lst ds⟩)) (h:b7 fs gs x l s=.ok (.tup es,t,s1)) (hz:ds.length+es.length≤sizeLine):cy fs gs ms (.ext i x) l s=.ok (.nx (l.set i (some ⟨.ow,.lst (ds++es)⟩)) s1):=by
 unfold cy
 rw [hl]
 show (b7 fs gs x l s).bind _=_
 rw [h]
 show (if ds.length+es.length≤sizeLine then _ else _)=_
 rw [ap hz]
end

def D.eqs:Nat→D→Prop
 | 0,_=>False
 | _+1,.non=>True
 | _+1,.int _=>True
 | _+1,.str x=>PyData.strOk x=true
 | n+1,.tup xs=>∀ x∈xs,D.eqs n x
 | n+1,.lst xs=>∀ x∈xs,D.eqs n x
 | _+1,_=>False
theorem o3:∀ (n:Nat) (d:D),D.eqs n d→d.seq=true∧d.py.canLay0=true∧d.py.depth≤n
 | 0,_,h=>h.elim
 | n+1,d,h=>by
  have row:∀ xs:List D,(∀ x∈xs,D.eqs n x)→D.seqs xs=true∧PyData.canLayAll0 (D.pys xs)=true∧PyData.depthAll (D.pys xs)≤n:=by
   intro xs
   induction xs with
   | nil=>intro _; exact ⟨rfl,by simp [D.pys,PyData.canLayAll0],by simp [D.pys,PyData.depthAll]⟩
   | cons x xs ih =>
    intro hx
    obtain ⟨q1,q2,q3⟩:=o3 n x (hx x aj)
    obtain ⟨r1,r2,r3⟩:=ih fun y hy=>hx y (ao _ hy)
    refine ⟨?_,?_,?_⟩
    ·show (D.seq x && D.seqs xs)=true
     rw [q1,r1]; rfl
    ·show PyData.canLayAll0 (D.py x :: D.pys xs)=true
     simp only [PyData.canLayAll0,q2,r2,Bool.and_self]
    ·show PyData.depthAll (D.py x :: D.pys xs)≤n
     simp only [PyData.depthAll]
     omega
  cases d with
  | non=>exact ⟨rfl,by simp [D.py,PyData.canLay0],by simp [D.py,PyData.depth]⟩
  | int i=>exact ⟨rfl,by simp [D.py,PyData.canLay0],by simp [D.py,PyData.depth]⟩
  | str x=>exact ⟨rfl,by simp only [D.py,PyData.canLay0]; exact h,by simp [D.py,PyData.depth]⟩
  | tup xs =>
   obtain ⟨q1,q2,q3⟩:=row xs h
   exact ⟨q1,by simp only [D.py,PyData.canLay0]; exact q2,by simp only [D.py,PyData.depth]; omega⟩
  | lst xs =>
   obtain ⟨q1,q2,q3⟩:=row xs h
   exact ⟨q1,by simp only [D.py,PyData.canLay0]; exact q2,by simp only [D.py,PyData.depth]; omega⟩
  | bl b=>exact h.elim
  | arr xs=>exact h.elim
  | dic k kvs=>exact h.elim
  | loc i=>exact h.elim
  | exc i=>exact h.elim
  | fdc i=>exact h.elim
  | cd i=>exact h.elim
theorem jm:∀ (n:Nat) (a b:D),D.eqs n a→D.eqs n b→(D.eqv a b=true↔a=b)
 | 0,_,_,h,_=>h.elim
 | n+1,a,b,ha,hb=>by
  have row:∀ xs ys:List D,(∀ x∈xs,D.eqs n x)→(∀ x∈ys,D.eqs n x)→(PyData.eqvAll (D.pys xs) (D.pys ys)=true↔xs=ys):=by
   intro xs
   induction xs with
   | nil =>
    intro ys _ _
    cases ys with
    | nil=>simp [D.pys,PyData.eqvAll]
    | cons y ys=>simp [D.pys,PyData.eqvAll]
   | cons x xs ih =>
    intro ys hx hy
    cases ys with
    | nil=>simp [D.pys,PyData.eqvAll]
    | cons y ys =>
     have q:=jm n x y (hx x aj) (hy y aj)
     have r:=ih ys (fun z hz=>hx z (ao _ hz)) (fun z hz=>hy z (ao _ hz))
     show PyData.eqvAll (D.py x :: D.pys xs) (D.py y :: D.pys ys)=true↔_
     unfold D.eqv at q
     simp only [PyData.eqvAll,ab,q,r,List.cons.injEq]
  cases a <;> cases b <;> first | exact ha.elim | exact hb.elim | skip
  all_goals unfold D.eqv
  case tup.tup xs ys =>
   simp only [D.py,PyData.eqv,D.tup.injEq]
   exact row xs ys ha hb
  case lst.lst xs ys =>
   simp only [D.py,PyData.eqv,D.lst.injEq]
   exact row xs ys ha hb
  all_goals simp [D.py,PyData.eqv]
theorem tf {n m:Nat} {a b:D} (ha:D.eqs n a) (hb:D.eqs m b) (hn:n≤64) (hm:m≤64):D.eqOk a b=true:=by
 obtain ⟨a1,a2,a3⟩:=o3 n a ha
 obtain ⟨b1,b2,b3⟩:=o3 m b hb
 refine c7 a1 b1 ?_ ?_
 ·unfold SeqAt.shaped
  rw [a2,aI (by omega)]
  rfl
 ·unfold SeqAt.shaped
  rw [b2,aI (by omega)]
  rfl
theorem vG {n:Nat} {a b:D} (ha:D.eqs n a) (hb:D.eqs n b):D.eqv a b=decide (a=b):=by
 by_cases h:a=b
 ·rw [aI h,(jm n a b ha hb).mpr h]
 ·rw [aH h]
  cases e:D.eqv a b with
  | false=>rfl
  | true=>exact absurd ((jm n a b ha hb).mp e) h
theorem BY {n:Nat} {a b:D} (ha:D.eqs n a) (hb:D.eqs n b) (hn:n≤64) (s:cj):COp.run .ne a b s=cg (.bl (!decide (a=b))) s:=by
 rw [sT (tf ha hb hn hn),vG ha hb]

section
variable {fs:List Fn} {gs:List D} {l:Lc} {s s1:cj} {x y:X}
theorem cI {o:COp} {d d2 d3:D} {t t2 t3:Tag} {s2 s3:cj} (h:b7 fs gs x l s=.ok (d,t,s1)) (h2:b7 fs gs y l s1=.ok (d2,t2,s2)) (h3:COp.run o d d2 s2=.ok (d3,t3,s3)):b7 fs gs (.cmp o x y) l s=.ok (d3,t3,s3):=by
 show (b7 fs gs x l s).bind _=_
 rw [h,cN]
 show (b7 fs gs y l s1).bind _=_
 rw [h2]
 exact h3
theorem DU {a b:Int} (h:b≤a) (s:cj):COp.run .ge (.int a) (.int b) s=.ok (.bl true,.fr,s):=by
 show cg (.bl (decide (b≤a))) s=_
 rw [aI h]
 rfl
theorem DV {a b:Int} (h:¬ b≤a) (s:cj):COp.run .ge (.int a) (.int b) s=.ok (.bl false,.fr,s):=by
 show cg (.bl (decide (b≤a))) s=_
 rw [aH h]
 rfl
end
theorem gL {fs:List Fn} {gs:List D} {a b:X} {l:Lc} {d d2:D} (h:b7 fs gs a l []=.ok (d,.fr,[])) (h2:b7 fs gs b l []=.ok (d2,.fr,[])):b7 fs gs (.tup #v[a,b]) l []=.ok (.tup [d,d2],.fr,[]):=by
 show (cf (b7 fs gs a l []) fun d s1=>(cf (b7 fs gs b l s1) fun d2 s2=>(R.ok (([]:List D),s2)).bind fun (ds,s3)=>.ok (d2 :: ds,s3)).bind fun (ds,s2)=>.ok (d :: ds,s2)).bind (fun (ds,s1)=>if ds.length≤sizeLine then cg (.tup ds) s1 else .no)=_
 rw [h,fu,av (by rintro ⟨q,_⟩; rcases q with q | q <;> cases q),h2,fu,av (by rintro ⟨q,_⟩; rcases q with q | q <;> cases q)]
 show (if ([d,d2]:List D).length≤sizeLine then cg (.tup [d,d2]) [] else .no)=_
 rw [ap (by rw [sizeLine_eq]; show 2≤16777216; omega)]
 rfl
end GM


namespace GM
abbrev Mach:=List (List Nat × List Nat)
def Mach.row (M:Mach) (s:Nat):List Nat × List Nat:=M.getD s ([],[])
def Mach.fst (M:Mach) (s:Nat):List Nat:=(M.row s).1
def Mach.gos (M:Mach) (s:Nat):List Nat:=(M.row s).2
def Mach.nx (M:Mach) (s a:Nat):Nat:=(M.gos s).getD a 0

def MOk (L:Nat) (M:Mach):Prop:=∀ s,s < M.length→(M.fst s).length=L∧(M.gos s).length=L∧(∀ x∈M.fst s,x < L)∧∀ x∈M.gos s,x < M.length
theorem MOk.nx_lt {L:Nat} {M:Mach} (h:MOk L M) {s a:Nat} (hs:s < M.length) (ha:a < L):M.nx s a < M.length:=by
 obtain ⟨_,h2,_,h4⟩:=h s hs
 refine h4 _ ?_
 show (M.gos s).getD a 0∈M.gos s
 rw [List.getD,ah (by omega)]
 exact bA _
theorem MOk.nx_mem {L:Nat} {M:Mach} (h:MOk L M) {s a:Nat} (hs:s < M.length) (ha:a < L):M.nx s a∈M.gos s:=by
 obtain ⟨_,h2,_,h4⟩:=h s hs
 show (M.gos s).getD a 0∈M.gos s
 rw [List.getD,ah (by omega)]
 exact bA _
theorem kR {X Y:List Nat} (hl:X.length=Y.length) (h:∀ i,i < X.length→X.getD i 0=Y.getD i 0):X=Y:=by
 apply List.ext_getElem hl
 intro i h1 h2
 have:=h i h1
 rw [List.getD,List.getD,ah h1,ah h2] at this
 exact this

def jv (L:Nat) (M N:Mach):Nat→Nat→Nat→Prop
 | 0,s,t=>M.fst s=N.fst t
 | k+1,s,t=>M.fst s=N.fst t∧∀ a,a < L→jv L M N k (M.nx s a) (N.nx t a)
def Eqv (L:Nat) (M:Mach) (s:Nat) (N:Mach) (t:Nat):Prop:=∀ k,jv L M N k s t
section
variable {L:Nat} {M N K:Mach}
theorem l9:∀ {k s t},jv L M N k s t→M.fst s=N.fst t
 | 0,_,_,h=>h
 | _+1,_,_,h=>h.1
theorem nz:∀ k s,jv L M M k s s
 | 0,_=>rfl
 | k+1,s=>⟨rfl,fun a _=>nz k _⟩
theorem nA:∀ {k s t},jv L M N k s t→jv L N M k t s
 | 0,_,_,h=>Eq.symm h
 | _+1,_,_,h=>⟨h.1.symm,fun a ha=>nA (h.2 a ha)⟩
theorem jG:∀ {k s t u},jv L M N k s t→jv L N K k t u→jv L M K k s u
 | 0,_,_,_,h,g=>Eq.trans h g
 | _+1,_,_,_,h,g=>⟨h.1.trans g.1,fun a ha=>jG (h.2 a ha) (g.2 a ha)⟩
theorem fE:∀ {k s t},jv L M N (k+1) s t→jv L M N k s t
 | 0,_,_,h=>h.1
 | _+1,_,_,h=>⟨h.1,fun a ha=>fE (h.2 a ha)⟩
theorem Eqv.refl (s:Nat):Eqv L M s M s:=fun k=>nz k s
theorem Eqv.symm {s t} (h:Eqv L M s N t):Eqv L N t M s:=fun k=>nA (h k)
theorem Eqv.trans {s t u} (h:Eqv L M s N t) (g:Eqv L N t K u):Eqv L M s K u:=fun k=>jG (h k) (g k)
theorem Eqv.fst {s t} (h:Eqv L M s N t):M.fst s=N.fst t:=h 0
theorem Eqv.nx {s t a} (h:Eqv L M s N t) (ha:a < L):Eqv L M (M.nx s a) N (N.nx t a):=fun k=>(h (k+1)).2 a ha

theorem Eqv.of {P:Nat→Nat→Prop} (h1:∀ s t,P s t→M.fst s=N.fst t) (h2:∀ s t,P s t→∀ a,a < L→P (M.nx s a) (N.nx t a)) {s t:Nat} (h:P s t):Eqv L M s N t:=fun k=>by
 induction k generalizing s t with
 | zero=>exact h1 s t h
 | succ k ih=>exact ⟨h1 s t h,fun a ha=>ih (h2 s t h a ha)⟩
end

def eX (j' k' j k:Nat):Prop:=j' < j∨(j'=j∧k' < k)

structure Form (L:Nat) (F:Mach):Prop where
 ok:MOk L F
 ne:0 < F.length
 mi:∀ i j,i < F.length→j < F.length→Eqv L F i F j→i=j
 fo:∀ m,0 < m→m < F.length→∃ j k,j < m∧k < L∧F.nx j k=m∧∀ j' k',k' < L→eX j' k' j k→F.nx j' k' < m
theorem ly {L:Nat} {F G:Mach} (hF:Form L F) (hG:Form L G) (h0:Eqv L F 0 G 0):∀ m,m < F.length→m < G.length∧Eqv L F m G m:=by
 intro m
 induction m using Nat.strongRecOn with
 | _ m ih =>
  intro hm
  rcases bt m with rfl | m0
  ·exact ⟨hG.ne,h0⟩
  have ih:∀ i,i < m→i < G.length∧Eqv L F i G i:=fun i hi=>ih i hi (by omega)
  obtain ⟨j,k,hj,hk,e,hb⟩:=hF.fo m m0 hm
  have hjG:=ih j hj
  have e1:Eqv L F m G (G.nx j k):=by
   have:=hjG.2.nx hk
   rw [e] at this
   exact this
  have glt:=hG.ok.nx_lt hjG.1 hk
  -- a going of G below m is none
  have low:∀ g,g < m→g < G.length→¬ Eqv L F m G g:=fun g g1 g2 h=>by
   have:=hF.mi m g hm (by omega) (h.trans (ih g g1).2.symm)
   omega
  have hmG:m < G.length:=by
   rcases bE m G.length with z | z
   ·exact z
   ·exact absurd e1 (low _ (by omega) glt)
  refine ⟨hmG,?_⟩
  obtain ⟨j2,k2,hj2,hk2,e2,hb2⟩:=hG.fo m m0 hmG
  have c1:¬ eX j k j2 k2:=fun h=>low _ (hb2 j k hk h) glt e1
  have c2:¬ eX j2 k2 j k:=fun h=>by
   have q:=hb j2 k2 hk2 h
   have r:=(ih j2 hj2).2.nx hk2
   rw [e2] at r
   have:=hG.mi _ _ hmG (ih _ q).1 (r.symm.trans (ih _ q).2)
   omega
  have:j=j2∧k=k2:=by
   unfold eX at c1 c2
   omega
  obtain ⟨rfl,rfl⟩:=this
  rw [e2] at e1
  exact e1
theorem nB {L:Nat} {F G:Mach} (hF:Form L F) (hG:Form L G) (h0:Eqv L F 0 G 0):F=G:=by
 have h1:=ly hF hG h0
 have h2:=ly hG hF h0.symm
 have hl:F.length=G.length:=by
  rcases Nat.lt_trichotomy F.length G.length with z | z | z
  ·have:=(h2 F.length z).1
   omega
  ·exact z
  ·have:=(h1 G.length z).1
   omega
 apply List.ext_getElem hl
 intro i q1 q2
 have hr:∀ (A:Mach) (i:Nat) (h:i < A.length),A[i]=(A.fst i,A.gos i):=fun A i h=>by
  unfold Mach.fst Mach.gos Mach.row
  rw [List.getD,ah h]
  rfl
 rw [hr F i q1,hr G i q2,(h1 i q1).2.fst]
 congr 1
 refine kR (by rw [(hF.ok i q1).2.1,(hG.ok i q2).2.1]) fun a ha=>?_
 rw [(hF.ok i q1).2.1] at ha
 have z:=(h1 i q1).2.nx ha
 have l1:=hF.ok.nx_lt q1 ha
 exact hG.mi _ _ (by have:=(h1 _ l1).1; exact this) (hG.ok.nx_lt q2 ha) ((h1 _ l1).2.symm.trans z)

structure Bfs (L:Nat) (M:Mach) (s:Nat) (o:List Nat):Prop where
 nd:o.Nodup
 hd:o[0]?=some s
 lt:∀ a∈o,a < M.length
 cl:∀ a∈o,∀ k,k < L→M.nx a k∈o
 bo:∀ p,0 < p→p < o.length→∃ q k,q < p∧k < L∧o.getD p 0=M.nx (o.getD q 0) k∧∀ q' k',k' < L→eX q' k' q k→M.nx (o.getD q' 0) k'∈o.take p

structure Hds {α:Type} (μ:Nat→α) (o hs:List Nat):Prop where
 ne:∀ i j,i < hs.length→j < hs.length→μ (hs.getD i 0)=μ (hs.getD j 0)→i=j
 at_:∀ m,m < hs.length→∃ p,p < o.length∧o.getD p 0=hs.getD m 0∧∀ q,q < p→∃ i,i < m∧μ (hs.getD i 0)=μ (o.getD q 0)
 all:∀ a∈o,∃ i,i < hs.length∧μ (hs.getD i 0)=μ a
theorem cq (o:List Nat) (a i:Nat):(o++[a]).getD i 0=if i < o.length then o.getD i 0 else if i=o.length then a else 0:=by
 rw [List.getD,List.getElem?_append]
 by_cases h:i < o.length
 ·rw [ap h,ap h]
  rfl
 ·rw [av h,av h]
  by_cases h2:i=o.length
  ·subst h2
   rw [ap rfl,bH]
   rfl
  ·rw [av h2,aQ (by simp; omega)]
   rfl
theorem dA {o:List Nat} {i:Nat} (h:i < o.length):o.getD i 0∈o:=by
 rw [List.getD,ah h]
 exact bA _
theorem dT {o:List Nat} {a:Nat} (h:a∈o):∃ i,i < o.length∧o.getD i 0=a:=by
 obtain ⟨i,hi,e⟩:=bN.mp h
 exact ⟨i,hi,by rw [List.getD,ah hi]; exact e⟩
theorem Hds.nil {α:Type} {μ:Nat→α}:Hds μ [] []:=⟨fun i _ h=>absurd h (be i),fun m h=>absurd h (be m),fun a h=>by cases h⟩
theorem Hds.old {α:Type} {μ:Nat→α} {o hs:List Nat} {a:Nat} (h:Hds μ o hs) (ha:∃ i,i < hs.length∧μ (hs.getD i 0)=μ a):Hds μ (o++[a]) hs where
 ne:=h.ne
 at_:=fun m hm=>by
  obtain ⟨p,p1,p2,p3⟩:=h.at_ m hm
  refine ⟨p,by rw [ae]; omega,by rw [cq,ap p1]; exact p2,fun q hq=>?_⟩
  rw [cq,ap (by omega)]
  exact p3 q hq
 all:=fun b hb=>by
  rcases aM.mp hb with q | q
  ·exact h.all b q
  ·obtain rfl:=ak.mp q
   exact ha
theorem Hds.new {α:Type} {μ:Nat→α} {o hs:List Nat} {a:Nat} (h:Hds μ o hs) (ha:¬ ∃ i,i < hs.length∧μ (hs.getD i 0)=μ a):Hds μ (o++[a]) (hs++[a]) where
 ne:=fun i j hi hj e=>by
  rw [ae,aC] at hi hj
  rw [cq,cq] at e
  by_cases h1:i < hs.length
  ·by_cases h2:j < hs.length
   ·rw [ap h1,ap h2] at e
    exact h.ne i j h1 h2 e
   ·rw [ap h1,av h2,ap (by omega)] at e
    exact absurd ⟨i,h1,e⟩ ha
  ·by_cases h2:j < hs.length
   ·rw [av h1,ap (by omega),ap h2] at e
    exact absurd ⟨j,h2,e.symm⟩ ha
   ·omega
 at_:=fun m hm=>by
  rw [ae,aC] at hm
  by_cases h1:m < hs.length
  ·obtain ⟨p,p1,p2,p3⟩:=h.at_ m h1
   refine ⟨p,by rw [ae]; omega,by rw [cq,cq,ap p1,ap h1]; exact p2,fun q hq=>?_⟩
   obtain ⟨i,i1,i2⟩:=p3 q hq
   refine ⟨i,i1,?_⟩
   rw [cq,ap (by omega),cq,ap (by omega)]
   exact i2
  ·refine ⟨o.length,by simp,by rw [cq,cq,av (bF _),ap rfl,av h1,ap (by omega)],fun q hq=>?_⟩
   obtain ⟨i,i1,i2⟩:=h.all _ (dA hq)
   refine ⟨i,by omega,?_⟩
   rw [cq,ap i1,cq,ap hq]
   exact i2
 all:=fun b hb=>by
  rcases aM.mp hb with q | q
  ·obtain ⟨i,i1,i2⟩:=h.all b q
   refine ⟨i,by rw [ae]; omega,?_⟩
   rw [cq,ap i1]
   exact i2
  ·obtain rfl:=ak.mp q
   refine ⟨hs.length,by simp,?_⟩
   rw [cq,av (bF _),ap rfl]
theorem Hds.congr {α β:Type} {μ:Nat→α} {ν:Nat→β} {o hs:List Nat} (h:Hds μ o hs) (e:∀ a∈o,∀ b∈o,(μ a=μ b↔ν a=ν b)):Hds ν o hs:=by
 have hm:∀ i,i < hs.length→hs.getD i 0∈o:=fun i hi=>by
  obtain ⟨p,p1,p2,_⟩:=h.at_ i hi
  rw [← p2]
  exact dA p1
 refine ⟨fun i j hi hj q=>h.ne i j hi hj ((e _ (hm i hi) _ (hm j hj)).mpr q),fun m hm2=>?_,fun a ha=>?_⟩
 ·obtain ⟨p,p1,p2,p3⟩:=h.at_ m hm2
  refine ⟨p,p1,p2,fun q hq=>?_⟩
  obtain ⟨i,i1,i2⟩:=p3 q hq
  exact ⟨i,i1,(e _ (hm i (by omega)) _ (dA (by omega))).mp i2⟩
 ·obtain ⟨i,i1,i2⟩:=h.all a ha
  exact ⟨i,i1,(e _ (hm i i1) _ ha).mp i2⟩
theorem Hds.mem {α:Type} {μ:Nat→α} {o hs:List Nat} (h:Hds μ o hs) {i:Nat} (hi:i < hs.length):hs.getD i 0∈o:=by
 obtain ⟨p,p1,p2,_⟩:=h.at_ i hi
 rw [← p2]
 exact dA p1
theorem ig (f:Nat→Nat) {X:List Nat} {k:Nat} (h:k < X.length):(X.map f).getD k 0=f (X.getD k 0):=by
 rw [List.getD,List.getD,aD,ah h]
 rfl

def o4 (M:Mach) (hs:List Nat) (nm:Nat→Nat):Mach:=hs.map fun h=>(M.fst h,(M.gos h).map nm)

theorem mc {α:Type} {L:Nat} {M:Mach} {s:Nat} {o hs:List Nat} {μ:Nat→α} {nm:Nat→Nat} (hM:MOk L M) (hB:Bfs L M s o) (hμ:∀ a∈o,∀ b∈o,(μ a=μ b↔Eqv L M a M b)) (hH:Hds μ o hs) (hn:∀ a∈o,nm a < hs.length∧μ (hs.getD (nm a) 0)=μ a) :
  Form L (o4 M hs nm)∧Eqv L (o4 M hs nm) 0 M s:=by
 have hso:s∈o:=aZ hB.hd
 have hmem:∀ i,i < hs.length→hs.getD i 0∈o:=fun i hi=>hH.mem hi
 have hrow:∀ i,i < hs.length→(o4 M hs nm).row i=(M.fst (hs.getD i 0),(M.gos (hs.getD i 0)).map nm):=fun i hi=>by
  unfold Mach.row o4
  rw [List.getD,aD,List.getD,ah hi]
  rfl
 have hlen:(o4 M hs nm).length=hs.length:=ac _
 generalize hF:o4 M hs nm=F at hrow hlen
 have hfst:∀ i,i < hs.length→F.fst i=M.fst (hs.getD i 0):=fun i hi=>by
  unfold Mach.fst
  rw [hrow i hi]
  rfl
 have hgos:∀ i,i < hs.length→F.gos i=(M.gos (hs.getD i 0)).map nm:=fun i hi=>by
  show (F.row i).2=_
  rw [hrow i hi]
 have hnx:∀ i k,i < hs.length→k < L→F.nx i k=nm (M.nx (hs.getD i 0) k):=fun i k hi hk=>by
  show (F.gos i).getD k 0=nm ((M.gos (hs.getD i 0)).getD k 0)
  have hl:=(hM _ (hB.lt _ (hmem i hi))).2.1
  rw [hgos i hi]
  exact ig nm (by omega)
 have hOk:MOk L F:=fun i hi=>by
  rw [hlen] at hi
  have hm:=hmem i hi
  obtain ⟨q1,q2,q3,q4⟩:=hM _ (hB.lt _ hm)
  refine ⟨by rw [hfst i hi]; exact q1,by rw [hgos i hi,ac]; exact q2,by rw [hfst i hi]; exact q3,fun x hx=>?_⟩
  rw [hgos i hi] at hx
  obtain ⟨y,hy,rfl⟩:=aP.mp hx
  rw [hlen]
  obtain ⟨k,hk,e⟩:=dT hy
  have:y∈o:=by
   rw [← e]
   exact hB.cl _ hm k (by omega)
  exact (hn y this).1
 have hnm:∀ i,i < hs.length→nm (hs.getD i 0)=i:=fun i hi=>by
  have:=hn _ (hmem i hi)
  exact hH.ne _ _ this.1 hi this.2
 have nm_eq:∀ a∈o,∀ b∈o,μ a=μ b→nm a=nm b:=fun a ha b hb e=>hH.ne _ _ (hn a ha).1 (hn b hb).1 (by rw [(hn a ha).2,(hn b hb).2,e])
 have key:∀ a∈o,Eqv L F (nm a) M a:=by
  intro a ha k
  induction k generalizing a with
  | zero =>
   show F.fst (nm a)=M.fst a
   rw [hfst _ (hn a ha).1]
   exact ((hμ _ (hmem _ (hn a ha).1) a ha).mp (hn a ha).2).fst
  | succ k ih =>
   have hE:=(hμ _ (hmem _ (hn a ha).1) a ha).mp (hn a ha).2
   refine ⟨by rw [hfst _ (hn a ha).1]; exact hE.fst,fun c hc=>?_⟩
   rw [hnx _ _ (hn a ha).1 hc]
   exact jG (ih _ (hB.cl _ (hmem _ (hn a ha).1) c hc)) ((hE.nx hc) k)
 obtain ⟨i0,hi0,_⟩:=hH.all s hso
 have hpos:0 < hs.length:=by omega
 have ho0:o.getD 0 0=s:=by rw [List.getD,hB.hd]; rfl
 have hs0:hs.getD 0 0=s:=by
  obtain ⟨p,p1,p2,p3⟩:=hH.at_ 0 hpos
  rcases bt p with rfl | z
  ·rw [← p2]; exact ho0
  ·obtain ⟨i,hi,_⟩:=p3 0 z
   omega
 have hnms:nm s=0:=by rw [← hs0]; exact hnm 0 hpos
 refine ⟨⟨hOk,by rw [hlen]; exact hpos,fun i j hi hj hE=>?_,fun m m0 hm=>?_⟩,by have:=key s hso; rw [hnms] at this; exact this⟩
 ·rw [hlen] at hi hj
  have e1:=key _ (hmem i hi)
  have e2:=key _ (hmem j hj)
  rw [hnm i hi] at e1
  rw [hnm j hj] at e2
  exact hH.ne i j hi hj ((hμ _ (hmem i hi) _ (hmem j hj)).mpr (e1.symm.trans (hE.trans e2)))
 ·rw [hlen] at hm
  obtain ⟨p,p1,p2,p3⟩:=hH.at_ m hm
  have p0:0 < p:=by
   rcases bt p with rfl | z
   ·rw [ho0,← hs0] at p2
    have:=hH.ne 0 m hpos hm (by rw [p2])
    omega
   ·exact z
  obtain ⟨q,k,hq,hk,e,hb⟩:=hB.bo p p0 p1
  have hqo:o.getD q 0∈o:=dA (by omega)
  have lowc:∀ q,q < p→nm (o.getD q 0) < m:=fun q hq=>by
   obtain ⟨i,i1,i2⟩:=p3 q hq
   have:=hH.ne _ _ (hn _ (dA (show q < o.length by omega))).1 (by omega) ((hn _ (dA (show q < o.length by omega))).2.trans i2.symm)
   omega
  generalize hi:nm (o.getD q 0)=i
  have him:i < m:=by rw [← hi]; exact lowc q hq
  have hil:i < hs.length:=by omega
  have hiq:μ (hs.getD i 0)=μ (o.getD q 0):=by rw [← hi]; exact (hn _ hqo).2
  obtain ⟨pi,pi1,pi2,pi3⟩:=hH.at_ i hil
  have hpq:pi≤q:=by
   rcases bE q pi with z | z
   ·obtain ⟨i2,z1,z2⟩:=pi3 q z
    have:=hH.ne i2 i (by omega) hil (z2.trans hiq.symm)
    omega
   ·exact z
  refine ⟨i,k,him,hk,?_,fun j' k' hk' hA=>?_⟩
  ·rw [hnx i k hil hk]
   have hE:=((hμ _ (hmem i hil) _ hqo).mp hiq).nx hk
   rw [← e,p2] at hE
   have hx:=hB.cl _ (hmem i hil) k hk
   have:=nm_eq _ hx _ (hmem m hm) ((hμ _ hx _ (hmem m hm)).mpr hE)
   rw [this,hnm m hm]
  ·have hj:j' < hs.length:=by
    unfold eX at hA
    omega
   rw [hnx j' k' hj hk']
   obtain ⟨pj,pj1,pj2,pj3⟩:=hH.at_ j' hj
   have hA2:eX pj k' q k:=by
    rcases hA with z | ⟨rfl,z⟩
    ·refine .inl ?_
     rcases bE pj pi with y | y
     ·omega
     ·rcases bE pi pj with x | x
      ·obtain ⟨i3,x1,x2⟩:=pj3 pi x
       rw [pi2] at x2
       have:=hH.ne i3 i (by omega) hil x2
       omega
      ·have:pi=pj:=by omega
       rw [← this,pi2] at pj2
       have:=hH.ne i j' hil hj (by rw [pj2])
       omega
    ·have:pj=pi:=by
      rcases Nat.lt_trichotomy pj pi with y | y | y
      ·obtain ⟨i3,x1,x2⟩:=pi3 pj y
       rw [pj2] at x2
       have:=hH.ne i3 j' (by omega) hj x2
       omega
      ·exact y
      ·obtain ⟨i3,x1,x2⟩:=pj3 pi y
       rw [pi2] at x2
       have:=hH.ne i3 j' (by omega) hj x2
       omega
     rcases bE pj q with y | y
     ·exact .inl y
     ·exact .inr ⟨by omega,z⟩
   have hin:=hb pj k' hk' hA2
   rw [pj2] at hin
   obtain ⟨q2,y1,y2⟩:=dT hin
   rw [List.length_take] at y1
   have y3:(o.take p).getD q2 0=o.getD q2 0:=by rw [List.getD,List.getD,List.getElem?_take,ap (by omega)]
   rw [← y2,y3]
   exact lowc q2 (by omega)

theorem fF:∀ {l r:List Nat},l.Nodup→(∀ x∈l,x∈r)→l.length≤r.length
 | [],_,_,_=>aV _
 | x :: l,r,h,hs=>by
  have hx:=hs x aj
  have h2:=bQ.mp h
  have:=fF (l:=l) (r:=r.erase x) h2.2 fun y hy=>by
   have:y≠x:=fun e=>h2.1 (e ▸ hy)
   exact (List.mem_erase_of_ne this).mpr (hs y (ao _ hy))
  rw [List.length_erase_of_mem hx] at this
  have hp:=List.length_pos_of_mem hx
  rw [aB]
  omega
theorem qJ {l r:List Nat} (h:l.Nodup) (hs:∀ x∈l,x∈r) (hl:r.length≤l.length):∀ x∈r,x∈l:=fun x hx=>by
 by_cases hin:x∈l
 ·exact hin
 ·have:=fF (l:=l) (r:=r.erase x) h fun y hy=>by
   have:y≠x:=fun e=>hin (e ▸ hy)
   exact (List.mem_erase_of_ne this).mpr (hs y hy)
  rw [List.length_erase_of_mem hx] at this
  have hp:=List.length_pos_of_mem hx
  omega
theorem Hds.cls {α β:Type} {μ:Nat→α} {ν:Nat→β} {o hs gs:List Nat} (h:Hds μ o hs) (g:Hds ν o gs) (e:∀ a∈o,∀ b∈o,ν a=ν b→μ a=μ b) :
  ∃ cl:List Nat,cl.length=hs.length∧cl.Nodup∧(∀ x∈cl,x < gs.length)∧∀ i,i < hs.length→ν (gs.getD (cl.getD i 0) 0)=ν (hs.getD i 0):=by
 have hc:∀ i,∃ c,i < hs.length→c < gs.length∧ν (gs.getD c 0)=ν (hs.getD i 0):=fun i=>by
  by_cases hi:i < hs.length
  ·obtain ⟨c,c1,c2⟩:=g.all _ (h.mem hi)
   exact ⟨c,fun _=>⟨c1,c2⟩⟩
  ·exact ⟨0,fun q=>absurd q hi⟩
 let f:Nat→Nat:=fun i=>Classical.choose (hc i)
 have hf:∀ i,i < hs.length→f i < gs.length∧ν (gs.getD (f i) 0)=ν (hs.getD i 0):=fun i=>Classical.choose_spec (hc i)
 refine ⟨(List.range hs.length).map f,by rw [ac,aq],?_,fun x hx=>?_,fun i hi=>?_⟩
 ·rw [a7,List.pairwise_map]
  refine List.Pairwise.imp_of_mem (fun {a b} ha hb hne he=>hne ?_) (a7.mp List.nodup_range)
  have ha:=aF.mp ha
  have hb:=aF.mp hb
  have:ν (hs.getD a 0)=ν (hs.getD b 0):=by rw [← (hf a ha).2,← (hf b hb).2,he]
  exact h.ne a b ha hb (e _ (h.mem ha) _ (h.mem hb) this)
 ·obtain ⟨i,hi,rfl⟩:=aP.mp hx
  exact (hf i (aF.mp hi)).1
 ·have:((List.range hs.length).map f).getD i 0=f i:=by
   rw [List.getD,aD,bx hi]
   rfl
  rw [this]
  exact (hf i hi).2

theorem Hds.le {α β:Type} {μ:Nat→α} {ν:Nat→β} {o hs gs:List Nat} (h:Hds μ o hs) (g:Hds ν o gs) (e:∀ a∈o,∀ b∈o,ν a=ν b→μ a=μ b):hs.length≤gs.length:=by
 obtain ⟨cl,c1,c2,c3,_⟩:=h.cls g e
 have:=fF (r:=List.range gs.length) c2 fun x hx=>aF.mpr (c3 x hx)
 rw [aq] at this
 omega

theorem Hds.same {α β:Type} {μ:Nat→α} {ν:Nat→β} {o hs gs:List Nat} (h:Hds μ o hs) (g:Hds ν o gs) (e:∀ a∈o,∀ b∈o,ν a=ν b→μ a=μ b) (hl:gs.length≤hs.length):∀ a∈o,∀ b∈o,μ a=μ b→ν a=ν b:=by
 obtain ⟨cl,c1,c2,c3,c4⟩:=h.cls g e
 have al:=qJ (r:=List.range gs.length) c2 (fun x hx=>aF.mpr (c3 x hx)) (by rw [aq]; omega)
 have rep:∀ a∈o,∃ i,i < hs.length∧ν (hs.getD i 0)=ν a:=fun a ha=>by
  obtain ⟨c,z1,z2⟩:=g.all a ha
  obtain ⟨i,i1,i2⟩:=dT (al c (aF.mpr z1))
  rw [c1] at i1
  refine ⟨i,i1,?_⟩
  rw [← c4 i i1,i2]
  exact z2
 intro a ha b hb hab
 obtain ⟨i,i1,i2⟩:=rep a ha
 obtain ⟨j,j1,j2⟩:=rep b hb
 have q1:=e _ (h.mem i1) _ ha i2
 have q2:=e _ (h.mem j1) _ hb j2
 obtain rfl:=h.ne i j i1 j1 (by rw [q1,q2,hab])
 rw [← i2,← j2]
theorem Hds.len {α:Type} {μ:Nat→α} {o hs:List Nat} (h:Hds μ o hs):hs.length≤o.length:=by
 refine fF (l:=hs) ?_ fun x hx=>?_
 ·rw [a7,List.pairwise_iff_getElem]
  intro i j hi hj hij e
  have:=h.ne i j hi hj (by rw [List.getD,List.getD,ah hi,ah hj,e])
  omega
 ·obtain ⟨i,hi,rfl⟩:=dT hx
  exact h.mem hi

theorem p7 {L:Nat} {M:Mach} {o:List Nat} {k:Nat} (hc:∀ a∈o,∀ c,c < L→M.nx a c∈o) (h:∀ a∈o,∀ b∈o,jv L M M k a b→jv L M M (k+1) a b):∀ a∈o,∀ b∈o,jv L M M k a b→Eqv L M a M b:=by
 have up:∀ n,∀ a∈o,∀ b∈o,jv L M M k a b→jv L M M (k+n) a b:=by
  intro n
  induction n with
  | zero=>intro a _ b _ q; exact q
  | succ n ih =>
   intro a ha b hb q
   have q2:=h a ha b hb q
   exact ⟨l9 q,fun c hc2=>ih _ (hc a ha c hc2) _ (hc b hb c hc2) (q2.2 c hc2)⟩
 have down:∀ n j a b,jv L M M (j+n) a b→jv L M M j a b:=by
  intro n
  induction n with
  | zero=>intro j a b q; exact q
  | succ n ih=>intro j a b q; exact ih j a b (fE q)
 intro a ha b hb q j
 have:=up j a ha b hb q
 rw [Nat.add_comm] at this
 exact down k j a b this
end GM


namespace GM
structure BInv (L:Nat) (M:Mach) (s:Nat) (o:List Nat) (at_ done:Nat):Prop where
 nd:o.Nodup
 hd:o[0]?=some s
 lt:∀ a∈o,a < M.length
 al:at_≤o.length
 cl:∀ q k,k < L→eX q k at_ done→M.nx (o.getD q 0) k∈o
 bo:∀ p,0 < p→p < o.length→∃ q k,q < p∧k < L∧eX q k at_ done∧o.getD p 0=M.nx (o.getD q 0) k∧∀ q' k',k' < L→eX q' k' q k→M.nx (o.getD q' 0) k'∈o.take p
section
variable {L:Nat} {M:Mach} {s:Nat} {o:List Nat} {a d:Nat}
theorem BInv.start (hs:s < M.length):BInv L M s [s] 0 0 where
 nd:=by simp
 hd:=rfl
 lt:=fun a ha=>by rw [ak.mp ha]; exact hs
 al:=aV _
 cl:=fun q k _ h=>by unfold eX at h; omega
 bo:=fun p h1 h2=>by rw [aC] at h2; omega
theorem BInv.old (h:BInv L M s o a d) (hd:d < L) (ho:M.nx (o.getD a 0) d∈o):BInv L M s o a (d+1) where
 nd:=h.nd
 hd:=h.hd
 lt:=h.lt
 al:=h.al
 cl:=fun q k hk hA=>by
  by_cases e:q=a∧k=d
  ·rw [e.1,e.2]; exact ho
  ·exact h.cl q k hk (by unfold eX at hA ⊢; omega)
 bo:=fun p h1 h2=>by
  obtain ⟨q,k,q1,q2,q3,q4⟩:=h.bo p h1 h2
  exact ⟨q,k,q1,q2,by unfold eX at q3 ⊢; omega,q4⟩
theorem BInv.new (h:BInv L M s o a d) (hM:MOk L M) (ha:a < o.length) (hd:d < L) (ho:M.nx (o.getD a 0) d∉o):BInv L M s (o++[M.nx (o.getD a 0) d]) a (d+1) where
 nd:=by
  rw [bM]
  refine ⟨h.nd,by simp,fun x hx y hy e=>?_⟩
  rw [ak] at hy
  exact ho (hy ▸ e ▸ hx)
 hd:=by
  rw [a9 (by omega)]
  exact h.hd
 lt:=fun x hx=>by
  rcases aM.mp hx with q | q
  ·exact h.lt x q
  ·rw [ak.mp q]
   exact hM.nx_lt (h.lt _ (dA ha)) hd
 al:=by rw [ae]; have:=h.al; omega
 cl:=fun q k hk hA=>by
  have hq:q < o.length:=by unfold eX at hA; omega
  rw [cq,ap hq]
  by_cases e:q=a∧k=d
  ·rw [e.1,e.2]; exact am _ (ak.mpr rfl)
  ·exact aJ _ (h.cl q k hk (by unfold eX at hA ⊢; omega))
 bo:=fun p h1 h2=>by
  rw [ae,aC] at h2
  by_cases e:p < o.length
  ·obtain ⟨q,k,q1,q2,q3,q4,q5⟩:=h.bo p h1 e
   refine ⟨q,k,q1,q2,by unfold eX at q3 ⊢; omega,?_,fun q' k' hk' hA=>?_⟩
   ·rw [cq,ap e,cq,ap (by omega)]
    exact q4
   ·have:q' < o.length:=by unfold eX at hA; omega
    rw [cq,ap this,List.take_append_of_le_length (by omega)]
    exact q5 q' k' hk' hA
  ·refine ⟨a,d,by omega,hd,.inr ⟨rfl,by omega⟩,?_,fun q' k' hk' hA=>?_⟩
   ·rw [cq,av e,ap (by omega),cq,ap ha]
   ·have:q' < o.length:=by unfold eX at hA; omega
    rw [cq,ap this,List.take_append_of_le_length (by omega),List.take_of_length_le (by omega)]
    exact h.cl q' k' hk' hA
theorem BInv.row (h:BInv L M s o a L) (ha:a < o.length):BInv L M s o (a+1) 0 where
 nd:=h.nd
 hd:=h.hd
 lt:=h.lt
 al:=ha
 cl:=fun q k hk hA=>h.cl q k hk (by unfold eX at hA ⊢; omega)
 bo:=fun p h1 h2=>by
  obtain ⟨q,k,q1,q2,q3,q4⟩:=h.bo p h1 h2
  exact ⟨q,k,q1,q2,by unfold eX at q3 ⊢; omega,q4⟩
theorem BInv.fin (h:BInv L M s o a 0) (ha:o.length≤a):Bfs L M s o where
 nd:=h.nd
 hd:=h.hd
 lt:=h.lt
 cl:=fun x hx k hk=>by
  obtain ⟨q,q1,rfl⟩:=dT hx
  exact h.cl q k hk (.inl (by omega))
 bo:=fun p h1 h2=>by
  obtain ⟨q,k,q1,q2,_,q4⟩:=h.bo p h1 h2
  exact ⟨q,k,q1,q2,q4⟩
theorem BInv.len (h:BInv L M s o a d):o.length≤M.length:=by
 have:=fF (r:=List.range M.length) h.nd fun x hx=>aF.mpr (h.lt x hx)
 rw [aq] at this
 exact this
theorem Bfs.len (h:Bfs L M s o):o.length≤M.length:=by
 have:=fF (r:=List.range M.length) h.nd fun x hx=>aF.mpr (h.lt x hx)
 rw [aq] at this
 exact this
end
theorem th {α:Type} (μ:Nat→α) (o:List Nat):∃ hs,Hds μ o hs:=by
 have key:∀ (r pr:List Nat) (hs:List Nat),Hds μ pr hs→∃ hs,Hds μ (pr++r) hs:=by
  intro r
  induction r with
  | nil=>intro pr hs h; rw [aX]; exact ⟨hs,h⟩
  | cons x r ih =>
   intro pr hs h
   have e:pr++x :: r=(pr++[x])++r:=by rw [bc]; rfl
   rw [e]
   by_cases q:∃ i,i < hs.length∧μ (hs.getD i 0)=μ x
   ·exact ih _ _ (h.old q)
   ·exact ih _ _ (h.new q)
 obtain ⟨hs,h⟩:=key o [] [] Hds.nil
 exact ⟨hs,h⟩

theorem vH {L:Nat} {M:Mach} {s:Nat} {o:List Nat} (hM:MOk L M) (hB:Bfs L M s o) {α:Type} {μ:Nat→α} {hs:List Nat} (hH:Hds μ o hs) (hc:∀ a∈o,∀ b∈o,Eqv L M a M b→μ a=μ b):∃ F,Form L F∧Eqv L F 0 M s∧hs.length≤F.length:=by
 let ν:Nat→Nat→Prop:=fun a b=>Eqv L M a M b
 have hν:∀ a b,ν a=ν b↔Eqv L M a M b:=fun a b=>by
  constructor
  ·intro e
   have:ν a b=ν b b:=congrFun e b
   show ν a b
   rw [this]
   exact Eqv.refl b
  ·intro e
   funext c
   exact propext ⟨fun q=>e.symm.trans q,fun q=>e.trans q⟩
 obtain ⟨gs,hG⟩:=th ν o
 have hn:∀ a,∃ i,a∈o→i < gs.length∧ν (gs.getD i 0)=ν a:=fun a=>by
  by_cases ha:a∈o
  ·obtain ⟨i,i1,i2⟩:=hG.all a ha
   exact ⟨i,fun _=>⟨i1,i2⟩⟩
  ·exact ⟨0,fun q=>absurd q ha⟩
 let nm:Nat→Nat:=fun a=>Classical.choose (hn a)
 have hnm:∀ a∈o,nm a < gs.length∧ν (gs.getD (nm a) 0)=ν a:=fun a ha=>Classical.choose_spec (hn a) ha
 obtain ⟨f1,f2⟩:=mc hM hB (fun a _ b _=>hν a b) hG hnm
 refine ⟨_,f1,f2,?_⟩
 have:=hH.le hG fun a ha b hb e=>hc a ha b hb ((hν a b).mp e)
 unfold o4
 rw [ac]
 exact this
end GM


namespace GM
open PySem PySem.Spec PyProof.Rows L2
theorem nE (k v k':D):∀ kvs:List (D × D),D.look (kvs.map fun kv=>if kv.1=k then (kv.1,v) else kv) k'=(D.look kvs k').map fun d=>if k'=k then v else d
 | []=>rfl
 | (a,b) :: r=>by
  have ih:=nE k v k' r
  unfold D.look at ih ⊢
  rw [aG,bP,bP]
  by_cases h:a=k'
  ·by_cases h2:a=k
   ·have e2:k'=k:=h ▸ h2
    rw [ap h2]
    simp only [aI h,bJ,ap e2]
   ·have e2:¬ k'=k:=fun q=>h2 (h.trans q)
    rw [av h2]
    simp only [aI h,bJ,av e2]
  ·have e:(if a=k then (a,v) else (a,b)).1=a:=by split <;> rfl
   rw [e]
   simp only [aH h]
   exact ih
theorem tj (kvs:List (D × D)) (k v k':D):D.look (kvs++[(k,v)]) k'=(D.look kvs k').or (if k'=k then some v else none):=by
 unfold D.look
 rw [List.find?_append]
 cases h:kvs.find? fun kv=>decide (kv.1=k') with
 | some p=>rfl
 | none =>
  rw [Option.none_or,bP]
  by_cases e:k=k'
  ·rw [aI e,ap e.symm]
   rfl
  ·rw [aH e,av fun q=>e q.symm]
   rfl
theorem dB (kvs:List (D × D)) (k v k':D):D.look (D.put kvs k v) k'=if k'=k then some v else D.look kvs k':=by
 unfold D.put
 split
 ·rename_i h
  rw [nE]
  by_cases e:k'=k
  ·rw [ap e]
   subst e
   obtain ⟨d,hd⟩:=a0.mp h
   rw [hd,bJ,ap rfl]
  ·rw [av e]
   simp only [av e]
   cases D.look kvs k' <;> rfl
 ·rename_i h
  rw [tj]
  by_cases e:k'=k
  ·rw [ap e]
   subst e
   have:D.look kvs k'=none:=by
    cases q:D.look kvs k' with
    | none=>rfl
    | some d=>rw [q] at h; exact absurd rfl h
   rw [this,ap rfl]
   rfl
  ·rw [av e,av e,Option.or_none]
theorem jn (kvs:List (D × D)) (k v:D):(D.put kvs k v).length=if (D.look kvs k).isSome=true then kvs.length else kvs.length+1:=by
 unfold D.put
 split
 ·exact ac _
 ·rw [ae,aC]
theorem md (kvs:List (D × D)) (k v:D):(D.put kvs k v).length≤kvs.length+1:=by
 rw [jn]
 split <;> omega
abbrev nD (n:Nat):D:=.int (n:Int)
theorem fg {a b:Nat} (h:nD a=nD b):a=b:=by
 have:=D.int.inj h
 omega
theorem ka {xs ys:List Nat} (h:xs.map nD=ys.map nD):xs=ys:=List.map_inj_right (fun _ _ e=>fg e) |>.mp h
theorem cH (i:Int):D.isKey false (.int i)=true:=rfl

def D.kd (n:Nat) (d:D):Prop:=∃ k,D.nk d=some k∧k.depth≤n
theorem o5 (n:Nat) (i:Int):D.kd n (.int i):=⟨.num i,by simp [D.nk],by simp [NestedKey.depth]⟩
theorem Fy {n:Nat}:∀ {xs:List D},(∀ x∈xs,D.kd n x)→∃ ks,D.nks xs=some ks∧NestedKey.depthAll ks≤n
 | [],_=>⟨[],by simp [D.nks],by simp [NestedKey.depthAll]⟩
 | x :: xs,h=>by
  obtain ⟨k,h1,h2⟩:=h x aj
  obtain ⟨ks,h3,h4⟩:=Fy fun y hy=>h y (ao _ hy)
  refine ⟨k :: ks,?_,?_⟩
  ·simp only [D.nks,h1,h3,Option.bind_some,bJ]
  ·simp only [NestedKey.depthAll]
   omega
theorem jH {n:Nat} {xs:List D} (h:∀ x∈xs,D.kd n x):D.kd (n+1) (.tup xs):=by
 obtain ⟨ks,h1,h2⟩:=Fy h
 exact ⟨.tup ks,by simp only [D.nk,h1,bJ],by simp only [NestedKey.depth]; omega⟩
theorem jo {n:Nat} {α:Type} (f:α→Int) (xs:List α):D.kd (n+1) (.tup (xs.map fun x=>.int (f x))):=jH fun x hx=>by
 obtain ⟨y,_,rfl⟩:=aP.mp hx
 exact o5 n _
theorem me {n:Nat} {xs:List D} (h:D.kd n (.tup xs)) (hn:n≤8):D.isKey true (.tup xs)=true:=by
 obtain ⟨k,h1,h2⟩:=h
 show (if true=true then (match D.nk (.tup xs) with | some n=>decide (n.depth≤8) | none=>false) else _)=true
 rw [ap rfl,h1]
 exact aI (by omega)
section
variable {fs:List Fn} {gs:List D} {ms:Str→Str→Option Bool} {a b x:X} {l:Lc} {s s1 s2 s3:cj} {d d2 d3:D} {t t2 t3:Tag}
theorem df (h:b7 fs gs a l s=.ok (d,t,s1)) (h2:b7 fs gs b l s1=.ok (d2,t2,s2)) (h3:lF d d2 s2=.ok (d3,t3,s3)):b7 fs gs (.ix a b) l s=.ok (d3,t3,s3):=by
 show (b7 fs gs a l s).bind _=_
 rw [h,cN]
 show (b7 fs gs b l s1).bind _=_
 rw [h2]
 exact h3
def tq (t:Tag) (d:D):Prop:=t=.fr∨t=.nw∨d.still=true
theorem iD (h:tq t d):¬ ((t=.bo∨t=.ow)∧d.still=false):=by
 rintro ⟨q1,q2⟩
 rcases h with rfl | rfl | h
 ·rcases q1 with q | q <;> cases q
 ·rcases q1 with q | q <;> cases q
 ·rw [h] at q2; cases q2
theorem f9 {i:Nat} {k v:X} {y c c':D} (hv:b7 fs gs v l s=.ok (y,t,s1)) (ht:tq t y) (hl:l[i]?=some (some ⟨.ow,c⟩)) (hk:b7 fs gs k l s1=.ok (d,t2,s2)) (ht2:tq t2 d) (hs:jZ c d y=some c'):cy fs gs ms (.sub i k v) l s=.ok (.nx (l.set i (some ⟨.ow,c'⟩)) s2):=by
 show cf (b7 fs gs v l s) _=_
 rw [hv,fu,av (iD ht),hl]
 show cf (b7 fs gs k l s1) _=_
 rw [hk,fu,av (iD ht2),hs]
theorem app_ok {i:Nat} {ds:List D} (hl:l[i]?=some (some ⟨.ow,.lst ds⟩)) (h:b7 fs gs x l s=.ok (d,t,s1)) (ht:tq t d) (hz:ds.length < sizeLine):cy fs gs ms (.app i x) l s=.ok (.nx (l.set i (some ⟨.ow,.lst (ds++[d])⟩)) s1):=by
 show (match l[i]? with
  | some (some ⟨.ow,.lst ds⟩)=>cf (b7 fs gs x l s) fun d s1=>if ds.length < sizeLine then R.ok (Out.nx (l.set i (some ⟨.ow,.lst (ds++[d])⟩)) s1) else .no
  | _=>.no)=_
 rw [hl]
 show cf (b7 fs gs x l s) (fun d s1=>if ds.length < sizeLine then R.ok (Out.nx (l.set i (some ⟨.ow,.lst (ds++[d])⟩)) s1) else .no)=_
 rw [h,fu,av (iD ht),ap hz]
theorem fz_eq {is:List Nat} {y:GM.S}:cy fs gs ms (.fz is y) l s=cy fs gs ms y (fzL l is) s:=rfl
theorem eE {k:Bool} {kvs:List (D × D)} {y:D} (hk:D.isKey k d=true) (hz:kvs.length < sizeLine):jZ (.dic k kvs) d y=some (.dic k (D.put kvs d y)):=by
 show (if D.isKey k d=true∧kvs.length < sizeLine then _ else _)=_
 rw [ap ⟨hk,hz⟩]
theorem dM {k:Bool} {kvs:List (D × D)} (hk:D.isKey k d=true):COp.run .notin d (.dic k kvs) s=cg (.bl (!(D.look kvs d).isSome)) s:=by
 have e:COp.run .notin d (.dic k kvs) s=if D.isKey k d then cg (.bl (!(D.look kvs d).isSome)) s else .no:=by cases d <;> rfl
 rw [e,ap hk]
theorem fQ {k:Bool} {kvs:List (D × D)} (hk:D.isKey k d=true) (h:D.look kvs d=some d2):lF (.dic k kvs) d s=cg d2 s:=by
 show (if D.isKey k d then (match D.look kvs d with | some d=>cg d s | none=>.no) else .no)=_
 rw [ap hk,h]
theorem kS {i j:Int} {k:Bool} (h:k=decide (j < i)):COp.run .gt (.int i) (.int j) s=.ok (.bl k,.fr,s):=by rw [h]; rfl
theorem nF {i j:Int} {k:Bool} (h:k=decide (i < j)):COp.run .lt (.int i) (.int j) s=.ok (.bl k,.fr,s):=by rw [h]; rfl
end

theorem dC {α τ:Type} {body:D→Lc→cj→R Out} (e:α→D) (L:τ→Lc) (I:List α→τ→Prop) (xs:List α) (hb:∀ pr x r t,xs=pr++x :: r→I pr t→∃ t',body (e x) (L t) []=.ok (.nx (L t') [])∧I (pr++[x]) t') (t:τ) (h0:I [] t) :
  ∃ t',iK body (xs.map e) (L t) []=.ok (.nx (L t') [])∧I xs t':=by
 have key:∀ (r pr:List α) (t:τ),xs=pr++r→I pr t→∃ t',iK body (r.map e) (L t) []=.ok (.nx (L t') [])∧I xs t':=by
  intro r
  induction r with
  | nil =>
   intro pr t hx hi
   rw [aX] at hx
   exact ⟨t,rfl,hx ▸ hi⟩
  | cons x r ih =>
   intro pr t hx hi
   obtain ⟨t1,h1,h2⟩:=hb pr x r t hx hi
   obtain ⟨t2,h3,h4⟩:=ih (pr++[x]) t1 (by rw [bc]; exact hx) h2
   refine ⟨t2,?_,h4⟩
   show (body (e x) (L t) []).bind (dN (iK body (r.map e)))=_
   rw [h1]
   exact h3
 exact key xs [] t rfl h0

theorem kT {τ:Type} {cond:Lc→cj→R (Bool × cj)} {body:Lc→cj→R Out} (L:τ→Lc) (c:τ→Bool) (I:τ→Prop) (m:τ→Nat) (e:Ex) (Bad:Prop)
  (hc:∀ t,I t→cond (L t) []=.ok (c t,[])) (hb:∀ t,I t→c t=true→(∃ t',body (L t) []=.ok (.nx (L t') [])∧I t'∧m t' < m t)∨((∃ l,body (L t) []=.er e [] l)∧Bad)) :
  ∀ t,I t→(∃ t',jY cond body (L t) []=.ok (.nx (L t') [])∧I t'∧c t'=false)∨((∃ l,jY cond body (L t) []=.er e [] l)∧Bad):=by
 intro t
 induction h:m t using Nat.strongRecOn generalizing t with
 | _ n ih =>
  intro hi
  rw [sy,hc t hi]
  cases hct:c t with
  | false=>exact .inl ⟨t,by simp [R.bind],hi,hct⟩
  | true =>
   rcases hb t hi hct with ⟨t1,h1,h2,h3⟩ | ⟨⟨l,h1⟩,h2⟩
   ·have e2:(R.ok (true,([]:cj))).bind (fun (b,s1)=>if b=true then (body (L t) s1).bind (dN (jY cond body)) else R.ok (Out.nx (L t) s1))=jY cond body (L t1) []:=by
     show (body (L t) []).bind (dN (jY cond body))=_
     rw [h1]
     rfl
    rw [e2]
    exact ih (m t1) (by omega) t1 rfl h2
   ·refine .inr ⟨⟨l,?_⟩,h2⟩
    rw [cN]
    show (body (L t) []).bind (dN (jY cond body))=_
    rw [h1]
    rfl
end GM
local macro_rules | `(tactic| simp! [$xs,*]) => `(tactic| simp only [GM.jk, GM.f8, GM.kM, GM.a1, GM.a2, GM.a3, GM.a4, GM.eI, GM.eB, GM.eS, GM.eD, GM.eT, GM.eL, GM.eA, GM.eP, GM.cy, GM.b7, GM.ft, GM.ju, GM.fA, GM.hU, GM.gq, GM.dE, GM.dv, GM.cN, GM.uY, GM.uZ, GM.sJ, GM.fu, GM.u0, GM.lZ, GM.va, GM.cg, GM.dY, GM.vb, GM.vc, GM.gJ, GM.jl, GM.eV, GM.nr, GM.nt, GM.nv, GM.ny, GM.vf, GM.vg, GM.vi, GM.vj, GM.qG, GM.qH, GM.sL, GM.sM, GM.vp, GM.vq, GM.vw, GM.zb, GM.zc, GM.vy, GM.vA, GM.vB, GM.y4, GM.y5, GM.y6, GM.za, GM.fO, GM.lX, GM.lY, GM.kO, GM.D.still, GM.qD, GM.T.put, GM.T.puts, GM.X.isNil, GM.D.items, GM.sO, GM.wv, GM.sP, GM.sQ, GM.sR, GM.sS, GM.BU, GM.BV, List.getElem?_cons_zero, List.getElem?_cons_succ, List.getElem?_nil, List.set_cons_zero, List.set_cons_succ, List.length_map, List.length_cons, List.length_nil, List.headD_cons, List.headD_nil, List.tail_cons, List.tail_nil, List.cons_append, List.nil_append, List.append_nil, List.replicate, List.map_cons, List.map_nil, Bool.false_eq_true, ite_true, ite_false, reduceIte, reduceCtorEq, false_and, and_false, true_and, and_true, or_false, false_or, or_true, true_or, or_self, and_self, not_true, not_false_eq_true, decide_true, decide_false, Bool.not_true, Bool.not_false, Nat.reduceSub, Nat.reduceAdd, Nat.reduceLT, Nat.reduceLeDiff, Int.reduceNeg, Nat.reducePow, Int.reduceToNat, Int.reduceLT, Int.reduceLE, Int.reducePow, Int.reduceMul, Int.reduceAdd, Int.reduceSub, Option.map_some, Option.bind_some, Option.some.injEq, GM.D.int.injEq, $xs,*])


namespace GM
open PySem PySem.Spec PyProof.Rows L2
-- reached(rows,start): slots 0=rows 1=start 2=seen 3=order 4=at 5=to
def gA:S:=#v[.own 2 (.dic false #v[.v 1] #v[.kb true]),.own 3 (.lst #v[.v 1]),.set (.n 4) (.ki 0),.whl (.cmp .lt (.v 4) (.bi .len #v[.v 3]))
 #v[.loop (.n 5) (.it (.ix (.ix (.v 0) (.ix (.v 3) (.v 4))) (.ki 1)))
 #v[.ife (.cmp .notin (.v 5) (.v 2))
 #v[.sub 2 (.v 5) (.kb true),.app 3 (.v 5)]
 .nil],.aug 4 (.ki 1)],.ret (.v 3)]
noncomputable def dD (ms:Str→Str→Option Bool):Fn:=.self [] [] ms gA [false,true] 2 6
-- numbered(order,keys): slots 0=order 1=keys 2=known 3=marks 4=at 5=key
def gb:S:=#v[.own 2 (.dic true .nil .nil),.own 3 (.dic false .nil .nil),.loop (.n 4) (.it (.v 0))
 #v[.set (.n 5) (.ix (.v 1) (.v 4)),.ife (.cmp .notin (.v 5) (.v 2))
 #v[.sub 2 (.v 5) (.bi .len #v[.v 2])]
 .nil,.sub 3 (.v 4) (.ix (.v 2) (.v 5))],.fz [3] (.ret (.tup #v[.v 3,.bi .len #v[.v 2]]))]
noncomputable def cU (ms:Str→Str→Option Bool):Fn:=.self [] [] ms gb [false,false] 2 6
def cC (r:List Nat × List Nat):D:=.tup [.tup (r.1.map nD),.tup (r.2.map nD)]
def dU (d:D) (M:Mach):Prop:=d=.lst (M.map cC)∨d=.tup (M.map cC)
theorem nG {M:Mach} {n:Nat} (h:n < M.length):(M.map cC)[n]?=some (cC (M.row n)):=by
 unfold Mach.row
 rw [aD,List.getD,ah h]
 rfl
theorem tu {d:D} {M:Mach} (hd:dU d M) {n:Nat} (h:n < M.length) (s:cj):lF d (nD n) s=.ok (cC (M.row n),.fr,s):=by
 rcases hd with rfl | rfl
 ·exact kP (nG h) s
 ·exact qI (nG h) s
theorem o6 {A:List Nat} {i:Nat} (h:i < A.length):(A.map nD)[i]?=some (nD (A.getD i 0)):=by
 rw [aD,List.getD,ah h]
 rfl
theorem mf {A:List Nat} {i:Nat} (h:i < A.length) (s:cj):lF (.tup (A.map nD)) (nD i) s=.ok (nD (A.getD i 0),.fr,s):=qI (o6 h) s
theorem mh {A:List Nat} {i:Nat} (h:i < A.length) (s:cj):lF (.lst (A.map nD)) (nD i) s=.ok (nD (A.getD i 0),.fr,s):=kP (o6 h) s
section
variable {fs:List Fn} {gs:List D} {ms:Str→Str→Option Bool} {a b:X} {l:Lc} {d:D} {t t2:Tag} {M:Mach} {n:Nat}
theorem mj (hd:dU d M) (hn:n < M.length) (h:b7 fs gs a l []=.ok (d,t,[])) (h2:b7 fs gs b l []=.ok (nD n,t2,[])):b7 fs gs (.ix (.ix a b) (.ki 0)) l []=.ok (.tup ((M.fst n).map nD),.fr,[]) :=
 df (df h h2 (tu hd hn [])) rfl rfl
theorem ii (hd:dU d M) (hn:n < M.length) (h:b7 fs gs a l []=.ok (d,t,[])) (h2:b7 fs gs b l []=.ok (nD n,t2,[])):b7 fs gs (.ix (.ix a b) (.ki 1)) l []=.ok (.tup ((M.gos n).map nD),.fr,[]) :=
 df (df h h2 (tu hd hn [])) rfl rfl

def SD (kvs:List (D × D)) (o:List Nat) (g:Nat→D):Prop:=(∀ n:Nat,D.look kvs (nD n)=if n∈o then some (g n) else none)∧kvs.length≤o.length
theorem SD.put {kvs:List (D × D)} {o:List Nat} {g:Nat→D} (h:SD kvs o g) {x:Nat}:SD (D.put kvs (nD x) (g x)) (o++[x]) g:=by
 refine ⟨fun n=>?_,by have:=md kvs (nD x) (g x); rw [ae,aC]; have:=h.2; omega⟩
 rw [dB,h.1]
 by_cases e:n=x
 ·subst e
  rw [ap rfl,ap (am _ (ak.mpr rfl))]
 ·rw [av fun q=>e (fg q)]
  by_cases e2:n∈o
  ·rw [ap e2,ap (aJ _ e2)]
  ·rw [av e2,av fun q=>by
    rcases aM.mp q with q | q
    ·exact e2 q
    ·exact e (ak.mp q)]
theorem SD.one (s:Nat) (g:Nat→D):SD [(nD s,g s)] [s] g:=by
 have h0:SD [] [] g:=⟨fun n=>by rw [av (by simp)]; rfl,aA _⟩
 exact h0.put (x:=s)
theorem jT {L:Nat} {s:Nat} (hM:MOk L M) (hz:M.length≤100000) (hd:dU d M) (hs:s < M.length):∃ o,Bfs L M s o∧(dD ms).run [d,nD s]=.ok (.lst (o.map nD),.nw):=by
 have big:=sizeLine_eq
 let g:Nat→D:=fun _=>.bl true
 let LL:(List (D × D) × List Nat × Nat × Option Sl)→Lc:=fun t=>[some ⟨.bo,d⟩,some ⟨.fr,nD s⟩,some ⟨.ow,.dic false t.1⟩,some ⟨.ow,.lst (t.2.1.map nD)⟩,some ⟨.fr,nD t.2.2.1⟩,t.2.2.2]
 have hlen:∀ t,b7 [] [] (.bi .len #v[.v 3]) (LL t) []=.ok (.int (t.2.1.length:Int),.fr,[]):=fun t=>by
  simp! [LL]
 have hin:∀ t:(List (D × D) × List Nat × Nat × Option Sl),BInv L M s t.2.1 t.2.2.1 0→SD t.1 t.2.1 g→t.2.2.1 < t.2.1.length→∃ t',cy [] [] ms (.loop (.n 5) (.it (.ix (.ix (.v 0) (.ix (.v 3) (.v 4))) (.ki 1)))
   #v[.ife (.cmp .notin (.v 5) (.v 2)) #v[.sub 2 (.v 5) (.kb true),.app 3 (.v 5)] .nil]) (LL t) []=.ok (.nx (LL t') [])∧BInv L M s t'.2.1 t'.2.2.1 L∧SD t'.1 t'.2.1 g∧t'.2.2.1=t.2.2.1∧t'.2.2.1 < t'.2.1.length:=fun t hB hS ha=>by
  have hao:t.2.1.getD t.2.2.1 0∈t.2.1:=dA ha
  generalize hA:t.2.1.getD t.2.2.1 0=A at hao
  have hAl:=hB.lt _ hao
  have hgl:=(hM A hAl).2.1
  have hit:gq [] [] (.it (.ix (.ix (.v 0) (.ix (.v 3) (.v 4))) (.ki 1))) (LL t) []=.ok ((M.gos A).map nD,[]):=by
   refine ie (t:=.fr) (ii hd hAl (t:=.bo) (t2:=.fr) rfl (df (d:=.lst (t.2.1.map nD)) (d2:=nD t.2.2.1) (t:=.ow) (t2:=.fr) (s1:=[]) (s2:=[]) rfl rfl ?_)) (by intro q; cases q)
   rw [← hA]
   exact mh ha []
  obtain ⟨t',h1,h2,h3,h4,h5⟩:=dC (body:=fun d l s=>match T.put (.n 5) d l with | some l1=>cy [] [] ms #v[.ife (.cmp .notin (.v 5) (.v 2)) #v[.sub 2 (.v 5) (.kb true),.app 3 (.v 5)] .nil] l1 s | none=>.no)
   nD LL (fun pr t'=>BInv L M s t'.2.1 t.2.2.1 pr.length∧SD t'.1 t'.2.1 g∧t'.2.2.1=t.2.2.1∧t'.2.1.getD t.2.2.1 0=A∧t.2.2.1 < t'.2.1.length) (M.gos A) (fun pr x r t' hx ⟨i1,i2,i3,i4,i5⟩=>by
    have hpl:pr.length < L:=by
     have:=bj List.length hx
     rw [ae,aB] at this
     omega
    have ex:M.nx A pr.length=x:=by
     show (M.gos A).getD pr.length 0=x
     rw [hx,List.getD,aS (aA _),bH]
     rfl
    have hlp:(pr++[x]).length=pr.length+1:=by rw [ae,aC]
    rw [hlp]
    have ex2:M.nx (t'.2.1.getD t.2.2.1 0) pr.length=x:=by rw [i4]; exact ex
    have l1:=i1.len
    by_cases h:x∈t'.2.1
    ·refine ⟨(t'.1,t'.2.1,t'.2.2.1,some ⟨.fr,nD x⟩),(b6 ((dc (s1:=[]) (cB (t:=.fr) (cI (d:=nD x) (d2:=.dic false t'.1) (t:=.fr) (t2:=.ow) (s1:=[]) (s2:=[]) rfl rfl ?_))).trans cn)).trans cn,i1.old hpl (by rw [ex2]; exact h),i2,i3,i4,i5⟩
     rw [dM (cH _),i2.1,ap h]
     rfl
    ·have hk1:t'.1.length < sizeLine:=by have:=i2.2; omega
     have hk2:(t'.2.1.map nD).length < sizeLine:=by rw [ac]; omega
     refine ⟨(D.put t'.1 (nD x) (g x),t'.2.1++[x],t'.2.2.1,some ⟨.fr,nD x⟩),(b6 ((fj (s1:=[]) (cB (t:=.fr) (cI (d:=nD x) (d2:=.dic false t'.1) (t:=.fr) (t2:=.ow) (s1:=[]) (s2:=[]) rfl rfl ?_))).trans ((b6 (f9 (t:=.fr) (t2:=.fr) (s1:=[]) (s2:=[]) (y:=.bl true) (d:=nD x) rfl (.inl rfl) rfl rfl (.inl rfl) (eE (cH _) hk1))).trans ((b6 (app_ok (d:=nD x) (t:=.fr) (s1:=[]) rfl rfl (.inl rfl) hk2)).trans cn)))).trans ?_,?_,i2.put,i3,?_,by rw [ae]; omega⟩
     ·rw [dM (cH _),i2.1,av h]
      rfl
     ·show R.ok (Out.nx [some ⟨.bo,d⟩,some ⟨.fr,nD s⟩,some ⟨.ow,.dic false (D.put t'.1 (nD x) (.bl true))⟩,some ⟨.ow,.lst (t'.2.1.map nD++[nD x])⟩,some ⟨.fr,nD t'.2.2.1⟩,some ⟨.fr,nD x⟩] [])=R.ok (Out.nx [some ⟨.bo,d⟩,some ⟨.fr,nD s⟩,some ⟨.ow,.dic false (D.put t'.1 (nD x) (.bl true))⟩,some ⟨.ow,.lst ((t'.2.1++[x]).map nD)⟩,some ⟨.fr,nD t'.2.2.1⟩,some ⟨.fr,nD x⟩] [])
      rw [bf]
      rfl
     ·have:=i1.new hM i5 hpl (by rw [ex2]; exact h)
      rw [ex2] at this
      exact this
     ·rw [cq,ap i5]
      exact i4) t ⟨hB,hS,rfl,hA,ha⟩
  refine ⟨t',(dG hit).trans h1,?_,h3,h4,by rw [h4]; exact h5.2⟩
  rw [h4]
  rw [hgl] at h2
  exact h2
 have hw:=kT (cond:=dE [] [] (.cmp .lt (.v 4) (.bi .len #v[.v 3]))) (body:=cy [] [] ms #v[.loop (.n 5) (.it (.ix (.ix (.v 0) (.ix (.v 3) (.v 4))) (.ki 1)))
   #v[.ife (.cmp .notin (.v 5) (.v 2)) #v[.sub 2 (.v 5) (.kb true),.app 3 (.v 5)] .nil],.aug 4 (.ki 1)]) LL (fun t=>decide (t.2.2.1 < t.2.1.length)) (fun t=>BInv L M s t.2.1 t.2.2.1 0∧SD t.1 t.2.1 g) (fun t=>M.length - t.2.2.1) ⟨"",none⟩ False
  (fun t ht=>by
   refine cB (t:=.fr) (cI (d:=nD t.2.2.1) (t:=.fr) (s1:=[]) rfl (hlen t) (nF ?_))
   exact bu.mpr (by omega))
  (fun t ⟨hB,hS⟩ hc=>by
   have hc:t.2.2.1 < t.2.1.length:=aY hc
   obtain ⟨t',h1,h2,h3,h4,h5⟩:=hin t hB hS hc
   have l1:=h2.len
   refine .inl ⟨(t'.1,t'.2.1,t'.2.2.1+1,t'.2.2.2),(b6 h1).trans ((b6 (s1:=[]) (l1:=LL (t'.1,t'.2.1,t'.2.2.1+1,t'.2.2.2)) ?_).trans cn),⟨h2.row h5,h3⟩,?_⟩
   ·simp! [LL,nD,Int.natCast_add,Int.natCast_one]
   ·show M.length - (t'.2.2.1+1) < M.length - t.2.2.1
    omega)
  ([(nD s,.bl true)],[s],0,none) ⟨BInv.start hs,SD.one s g⟩
 rcases hw with ⟨t',h1,⟨h2,_⟩,h3⟩ | ⟨_,h⟩
 ·have h3:¬ t'.2.2.1 < t'.2.1.length:=bI h3
  have h4:=h2.al
  refine ⟨t'.2.1,h2.fin (by omega),cA (s:=[]) rfl ?_⟩
  refine (b6 (l1:=[some ⟨.bo,d⟩,some ⟨.fr,nD s⟩,some ⟨.ow,.dic false [(nD s,.bl true)]⟩,none,none,none]) (s1:=[]) (cX (d:=.dic false [(nD s,.bl true)]) ?_)).trans ?_
  ·have:D.isKey false (nD s)=true:=rfl
   simp! [this]
  refine (b6 (l1:=[some ⟨.bo,d⟩,some ⟨.fr,nD s⟩,some ⟨.ow,.dic false [(nD s,.bl true)]⟩,some ⟨.ow,.lst [nD s]⟩,none,none]) (s1:=[]) (cX (d:=.lst [nD s]) ?_)).trans ?_
  ·have:1≤sizeLine:=by omega
   simp! [this]
  refine (b6 (l1:=LL ([(nD s,.bl true)],[s],0,none)) (s1:=[]) (cx (t:=.fr) rfl (.inl rfl) rfl)).trans ?_
  exact (b6 (whl_eq.trans h1)).trans (cE (du (t:=.ow) rfl rfl))
 ·exact h.elim

structure Nums (κ:Nat→D) (o hs:List Nat) (mk:List (D × D)) (ν:Nat→Nat):Prop where
 hd:Hds κ o hs
 lk:∀ a∈o,D.look mk (nD a)=some (nD (ν a))
 lt:∀ a∈o,ν a < hs.length
 ke:∀ a∈o,κ (hs.getD (ν a) 0)=κ a
 ml:mk.length≤o.length
theorem Nums.iff {κ:Nat→D} {o hs:List Nat} {mk:List (D × D)} {ν:Nat→Nat} (h:Nums κ o hs mk ν):∀ a∈o,∀ b∈o,(ν a=ν b↔κ a=κ b):=fun a ha b hb=>by
 constructor
 ·intro e
  rw [← h.ke a ha,← h.ke b hb,e]
 ·intro e
  exact h.hd.ne _ _ (h.lt a ha) (h.lt b hb) (by rw [h.ke a ha,h.ke b hb,e])
theorem Nums.hds {κ:Nat→D} {o hs:List Nat} {mk:List (D × D)} {ν:Nat→Nat} (h:Nums κ o hs mk ν):Hds ν o hs:=h.hd.congr fun a ha b hb=>(h.iff a ha b hb).symm
theorem eG {α β:Type} (f:α→β) (xs:List α) (x:α):(xs++[x]).map f=xs.map f++[f x]:=by rw [bf]; rfl

structure Known (κ:Nat→D) (hs:List Nat) (kn:List (D × D)):Prop where
 len:kn.length=hs.length
 lk:∀ i,i < hs.length→D.look kn (κ (hs.getD i 0))=some (nD i)
 on:∀ d,(D.look kn d).isSome=true→∃ i,i < hs.length∧d=κ (hs.getD i 0)
theorem Known.new {κ:Nat→D} {hs:List Nat} {kn:List (D × D)} (h:Known κ hs kn) {x:Nat} (hx:¬ ∃ i,i < hs.length∧κ (hs.getD i 0)=κ x):Known κ (hs++[x]) (D.put kn (κ x) (nD kn.length)) where
 len:=by
  rw [jn,av,ae,aC,h.len]
  intro q
  obtain ⟨i,i1,i2⟩:=h.on _ q
  exact hx ⟨i,i1,i2.symm⟩
 lk:=fun i hi=>by
  rw [ae,aC] at hi
  rw [dB,cq]
  by_cases e:i < hs.length
  ·rw [ap e,av fun q=>hx ⟨i,e,q⟩]
   exact h.lk i e
  ·have e2:i=hs.length:=by omega
   rw [av e,ap e2,ap rfl,h.len,e2]
 on:=fun d hd=>by
  rw [dB] at hd
  by_cases e:d=κ x
  ·exact ⟨hs.length,by simp,by rw [cq,av (bF _),ap rfl]; exact e⟩
  ·rw [av e] at hd
   obtain ⟨i,i1,i2⟩:=h.on d hd
   exact ⟨i,by rw [ae]; omega,by rw [cq,ap i1]; exact i2⟩
theorem jp {o:List Nat} {kk:List (D × D)} {κ:Nat→D} (hz:o.length≤100000) (hk:∀ a∈o,D.look kk (nD a)=some (κ a)) (hy:∀ a∈o,D.isKey true (κ a)=true) (t:Tag) :
  ∃ hs mk ν,Nums κ o hs mk ν∧(cU ms).run [.lst (o.map nD),.dic false kk]=.ok (.tup [.dic false mk,nD hs.length],.fr):=by
 have big:=sizeLine_eq
 let LL:(List (D × D) × List (D × D) × Option Sl × Option Sl)→Lc:=fun t=>[some ⟨.bo,.lst (o.map nD)⟩,some ⟨.bo,.dic false kk⟩,some ⟨.ow,.dic true t.1⟩,some ⟨.ow,.dic false t.2.1⟩,t.2.2.1,t.2.2.2]
 obtain ⟨t',h1,hs,h2,h3,h4,h5⟩:=dC (body:=fun d l s=>match T.put (.n 4) d l with | some l1=>cy [] [] ms #v[.set (.n 5) (.ix (.v 1) (.v 4)),.ife (.cmp .notin (.v 5) (.v 2)) #v[.sub 2 (.v 5) (.bi .len #v[.v 2])] .nil,.sub 3 (.v 4) (.ix (.v 2) (.v 5))] l1 s | none=>.no) nD LL
  (fun pr t=>∃ hs,Hds κ pr hs∧Known κ hs t.1∧(∀ a∈pr,∃ i,i < hs.length∧κ (hs.getD i 0)=κ a∧D.look t.2.1 (nD a)=some (nD i))∧t.2.1.length≤pr.length) o (fun pr x r t hx ⟨hs,i1,i2,i3,i4⟩=>by
   have hxo:x∈o:=by rw [hx]; exact am _ aj
   have hsl:=i1.len
   have hpl:pr.length < o.length:=by rw [hx,ae,aB]; omega
   have kz:t.1.length < sizeLine:=by rw [i2.len]; omega
   have mz:t.2.1.length < sizeLine:=by omega
   have e5:cy [] [] ms (.set (.n 5) (.ix (.v 1) (.v 4))) [some ⟨.bo,.lst (o.map nD)⟩,some ⟨.bo,.dic false kk⟩,some ⟨.ow,.dic true t.1⟩,some ⟨.ow,.dic false t.2.1⟩,some ⟨.fr,nD x⟩,t.2.2.2] []=.ok (.nx [some ⟨.bo,.lst (o.map nD)⟩,some ⟨.bo,.dic false kk⟩,some ⟨.ow,.dic true t.1⟩,some ⟨.ow,.dic false t.2.1⟩,some ⟨.fr,nD x⟩,some ⟨.fr,κ x⟩] []) :=
    cx (t:=.fr) (df (d:=.dic false kk) (d2:=nD x) (t:=.bo) (t2:=.fr) (s1:=[]) (s2:=[]) rfl rfl (fQ (cH _) (hk x hxo))) (.inl rfl) rfl
   by_cases hc:∃ i,i < hs.length∧κ (hs.getD i 0)=κ x
   ·have hc':=hc
    obtain ⟨i,c1,c2⟩:=hc
    have lkx:D.look t.1 (κ x)=some (nD i):=by rw [← c2]; exact i2.lk i c1
    refine ⟨(t.1,D.put t.2.1 (nD x) (nD i),some ⟨.fr,nD x⟩,some ⟨.fr,κ x⟩),(b6 e5).trans ((b6 ((dc (s1:=[]) (cB (t:=.fr) (cI (d:=κ x) (d2:=.dic true t.1) (t:=.fr) (t2:=.ow) (s1:=[]) (s2:=[]) rfl rfl ?_))).trans cn)).trans ((b6 (f9 (t:=.fr) (t2:=.fr) (s1:=[]) (s2:=[]) (y:=nD i) (d:=nD x) (df (d:=.dic true t.1) (d2:=κ x) (t:=.ow) (t2:=.fr) (s1:=[]) (s2:=[]) rfl rfl (fQ (hy x hxo) lkx)) (.inl rfl) rfl rfl (.inl rfl) (eE (cH _) mz))).trans cn)),hs,i1.old hc',i2,fun a ha=>?_,?_⟩
    ·rw [dM (hy x hxo),lkx]
     rfl
    ·show ∃ i,i < hs.length∧κ (hs.getD i 0)=κ a∧D.look (D.put t.2.1 (nD x) (nD _)) (nD a)=some (nD i)
     rw [dB]
     by_cases e:a=x
     ·subst e
      exact ⟨i,c1,c2,ap rfl⟩
     ·rcases aM.mp ha with q | q
      ·rw [av fun q=>e (fg q)]
       exact i3 a q
      ·exact absurd (ak.mp q) e
    ·show (D.put t.2.1 (nD x) (nD i)).length≤_
     have:=md t.2.1 (nD x) (nD i)
     rw [ae,aC]
     omega
   ·have kn:=i2.new hc
    have lkx:D.look (D.put t.1 (κ x) (nD t.1.length)) (κ x)=some (nD hs.length):=by rw [dB,ap rfl,i2.len]
    have lno:D.look t.1 (κ x)=none:=by
     cases q:D.look t.1 (κ x) with
     | none=>rfl
     | some d =>
      obtain ⟨i,z1,z2⟩:=i2.on (κ x) (by rw [q]; rfl)
      exact absurd ⟨i,z1,z2.symm⟩ hc
    refine ⟨(D.put t.1 (κ x) (nD t.1.length),D.put t.2.1 (nD x) (nD hs.length),some ⟨.fr,nD x⟩,some ⟨.fr,κ x⟩),(b6 e5).trans ((b6 ((fj (s1:=[]) (cB (t:=.fr) (cI (d:=κ x) (d2:=.dic true t.1) (t:=.fr) (t2:=.ow) (s1:=[]) (s2:=[]) rfl rfl ?_))).trans ((b6 (f9 (t:=.fr) (t2:=.fr) (s1:=[]) (s2:=[]) (y:=nD t.1.length) (d:=κ x) ?_ (.inl rfl) rfl rfl (.inl rfl) (eE (hy x hxo) kz))).trans cn))).trans ((b6 (f9 (t:=.fr) (t2:=.fr) (s1:=[]) (s2:=[]) (y:=nD hs.length) (d:=nD x) (df (d:=.dic true (D.put t.1 (κ x) (nD t.1.length))) (d2:=κ x) (t:=.ow) (t2:=.fr) (s1:=[]) (s2:=[]) rfl rfl (fQ (hy x hxo) lkx)) (.inl rfl) rfl rfl (.inl rfl) (eE (cH _) mz))).trans cn)),hs++[x],i1.new hc,kn,fun a ha=>?_,?_⟩
    ·rw [dM (hy x hxo),lno]
     rfl
    ·simp! []
    ·show ∃ i,i < (hs++[x]).length∧κ ((hs++[x]).getD i 0)=κ a∧D.look (D.put t.2.1 (nD x) (nD _)) (nD a)=some (nD i)
     rw [dB,ae,aC]
     by_cases e:a=x
     ·subst e
      exact ⟨hs.length,by omega,by rw [cq,av (bF _),ap rfl],ap rfl⟩
     ·rcases aM.mp ha with q | q
      ·rw [av fun q=>e (fg q)]
       obtain ⟨i,z1,z2,z3⟩:=i3 a q
       exact ⟨i,by omega,by rw [cq,ap z1]; exact z2,z3⟩
      ·exact absurd (ak.mp q) e
    ·show (D.put t.2.1 (nD x) (nD hs.length)).length≤_
     have:=md t.2.1 (nD x) (nD hs.length)
     rw [ae,aC]
     omega) ([],[],none,none) ⟨[],Hds.nil,⟨rfl,fun i hi=>absurd hi (be i),by intro d hd; exact absurd (show (none:Option D).isSome=true from hd) (by simp)⟩,(by intro a ha; cases ha),aA _⟩
 let ν:Nat→Nat:=fun a=>match D.look t'.2.1 (nD a) with | some (.int i)=>i.toNat | _=>0
 have hν:∀ a∈o,∃ i,i < hs.length∧κ (hs.getD i 0)=κ a∧D.look t'.2.1 (nD a)=some (nD i)∧ν a=i:=fun a ha=>by
  obtain ⟨i,z1,z2,z3⟩:=h4 a ha
  refine ⟨i,z1,z2,z3,?_⟩
  show (match D.look t'.2.1 (nD a) with | some (.int i)=>i.toNat | _=>0)=i
  rw [z3]
  exact ba i
 refine ⟨hs,t'.2.1,ν,⟨h2,fun a ha=>?_,fun a ha=>?_,fun a ha=>?_,h5⟩,cA (s:=[]) rfl ?_⟩
 ·obtain ⟨i,z1,z2,z3,z4⟩:=hν a ha
  rw [z4]
  exact z3
 ·obtain ⟨i,z1,z2,z3,z4⟩:=hν a ha
  rw [z4]
  exact z1
 ·obtain ⟨i,z1,z2,z3,z4⟩:=hν a ha
  rw [z4]
  exact z2
 refine (b6 (l1:=[some ⟨.bo,.lst (o.map nD)⟩,some ⟨.bo,.dic false kk⟩,some ⟨.ow,.dic true []⟩,none,none,none]) (s1:=[]) (cX (d:=.dic true []) rfl)).trans ?_
 refine (b6 (l1:=LL ([],[],none,none)) (s1:=[]) (cX (d:=.dic false []) rfl)).trans ?_
 refine (b6 ((dG (gK (t:=.bo) rfl (by intro q; cases q))).trans h1)).trans (cE (fz_eq.trans (du (t:=.fr) (gL (d:=.dic false t'.2.1) (d2:=nD hs.length) rfl ?_) rfl)))
 rw [← h3.len]
 show b7 [] [] (.bi .len #v[.v 2]) [some ⟨.bo,.lst (o.map nD)⟩,some ⟨.bo,.dic false kk⟩,some ⟨.ow,.dic true t'.1⟩,some ⟨.fr,.dic false t'.2.1⟩,t'.2.2.1,t'.2.2.2] []=_
 simp! []
end
-- marked(rows,order): slots 0=rows 1=order 2=keys 3=at 4=grown 5=marks 6=many 7=more 8=to
def gC:S:=#v[.own 2 (.dic false .nil .nil),.loop (.n 3) (.it (.v 1))
 #v[.sub 2 (.v 3) (.ix (.ix (.v 0) (.v 3)) (.ki 0))],.set (.t #v[.n 5,.n 6]) (.call 0 #v[.v 1,.v 2]),.set (.n 4) (.kb true),.whl (.v 4)
 #v[.ife (.cmp .gt (.v 6) (.g 0))
 #v[.rse "TooMany"]
 .nil,.loop (.n 3) (.it (.v 1))
 #v[.sub 2 (.v 3) (.tup #v[.ix (.v 5) (.v 3),.bi .tuple #v[.comp [8] (.n 8) (.it (.ix (.ix (.v 0) (.v 3)) (.ki 1))) .nil (.ix (.v 5) (.v 8))]])],.set (.t #v[.n 5,.n 7]) (.call 0 #v[.v 1,.v 2]),.set (.n 4) (.cmp .gt (.v 7) (.v 6)),.set (.n 6) (.v 7)],.ret (.v 5)]
noncomputable def fG (ms:Str→Str→Option Bool):Fn:=.self [cU ms] [.int 60] ms gC [false,false] 2 9

def KD (kvs:List (D × D)) (o:List Nat):Prop:=∃ dom:List Nat,dom.Nodup∧(∀ n∈dom,n∈o)∧kvs.length=dom.length∧∀ n:Nat,(D.look kvs (nD n)).isSome=true↔n∈dom
theorem KD.nil (o:List Nat):KD [] o:=⟨[],by simp,(by intro n h; cases h),rfl,(by intro n; rw [mF]; simp)⟩
theorem KD.len {kvs:List (D × D)} {o:List Nat} (h:KD kvs o):kvs.length≤o.length:=by
 obtain ⟨dom,d1,d2,d3,_⟩:=h
 rw [d3]
 exact fF d1 d2
theorem KD.put {kvs:List (D × D)} {o:List Nat} (h:KD kvs o) {x:Nat} (hx:x∈o) (v:D):KD (D.put kvs (nD x) v) o:=by
 obtain ⟨dom,d1,d2,d3,d4⟩:=h
 by_cases e:x∈dom
 ·refine ⟨dom,d1,d2,by rw [jn,ap ((d4 x).mpr e),d3],fun n=>?_⟩
  rw [dB]
  by_cases q:n=x
  ·subst q
   rw [ap rfl]
   exact ⟨fun _=>e,fun _=>rfl⟩
  ·rw [av fun z=>q (fg z)]
   exact d4 n
 ·refine ⟨dom++[x],?_,fun n hn=>?_,?_,fun n=>?_⟩
  ·rw [bM]
   refine ⟨d1,by simp,fun y hy z hz q=>?_⟩
   rw [ak] at hz
   exact e (hz ▸ q ▸ hy)
  ·rcases aM.mp hn with q | q
   ·exact d2 n q
   ·rw [ak.mp q]; exact hx
  ·rw [jn,av fun q=>e ((d4 x).mp q),ae,aC,d3]
  ·rw [dB]
   by_cases q:n=x
   ·subst q
    rw [ap rfl]
    exact ⟨fun _=>am _ (ak.mpr rfl),fun _=>rfl⟩
   ·rw [av fun z=>q (fg z),d4 n]
    exact ⟨fun z=>aJ _ z,fun z=>by
     rcases aM.mp z with z | z
     ·exact z
     ·exact absurd (ak.mp z) q⟩
section
variable {fs:List Fn} {gs:List D} {ms:Str→Str→Option Bool} {M:Mach} {L s:Nat} {o:List Nat} {d:D}
theorem lz (v:X) (κ:Nat→D) (l:List (D × D)→Option Sl→Lc) (hz:o.length≤100000) (h1:∀ kvs x,(l kvs x)[1]?=some (some ⟨.bo,.lst (o.map nD)⟩)) (h2:∀ kvs x,(l kvs x)[2]?=some (some ⟨.ow,.dic false kvs⟩)) (h3:∀ kvs y,(l kvs (some y))[3]?=some (some y))
  (h4:∀ kvs kvs' x,(l kvs x).set 2 (some ⟨.ow,.dic false kvs'⟩)=l kvs' x) (h5:∀ kvs x y,(l kvs x).set 3 y=l kvs y) (hv:∀ a∈o,∀ kvs,b7 fs gs v (l kvs (some ⟨.fr,nD a⟩)) []=.ok (κ a,.fr,[])) (kvs0:List (D × D)) (hk:KD kvs0 o) (x0:Option Sl) :
  ∃ kvs x,cy fs gs ms (.loop (.n 3) (.it (.v 1)) #v[.sub 2 (.v 3) v]) (l kvs0 x0) []=.ok (.nx (l kvs x) [])∧KD kvs o∧∀ a∈o,D.look kvs (nD a)=some (κ a):=by
 have big:=sizeLine_eq
 obtain ⟨t',r1,r2,r3⟩:=dC (body:=fun d l s=>match T.put (.n 3) d l with | some l1=>cy fs gs ms #v[.sub 2 (.v 3) v] l1 s | none=>.no) nD (fun t:List (D × D) × Option Sl=>l t.1 t.2) (fun pr t=>KD t.1 o∧∀ a∈pr,D.look t.1 (nD a)=some (κ a)) o (fun pr x r t hx ⟨i1,i2⟩=>by
  have hxo:x∈o:=by rw [hx]; exact am _ aj
  have hl:=i1.len
  have e:T.put (.n 3) (nD x) (l t.1 t.2)=some (l t.1 (some ⟨.fr,nD x⟩)):=by
   show some ((l t.1 t.2).set 3 (some ⟨.fr,nD x⟩))=_
   rw [h5]
  refine ⟨(D.put t.1 (nD x) (κ x),some ⟨.fr,nD x⟩),?_,i1.put hxo _,fun a ha=>?_⟩
  ·rw [e]
   show cy fs gs ms #v[.sub 2 (.v 3) v] (l t.1 (some ⟨.fr,nD x⟩)) []=_
   refine (b6 (f9 (t:=.fr) (t2:=.fr) (s1:=[]) (s2:=[]) (y:=κ x) (d:=nD x) (hv x hxo t.1) (.inl rfl) (h2 _ _) ?_ (.inl rfl) (eE (cH _) (by omega)))).trans ?_
   ·show (match (l t.1 (some ⟨.fr,nD x⟩))[3]? with | some (some ⟨k,d⟩)=>R.ok (d,k,[]) | _=>.no)=_
    rw [h3]
   ·rw [h4]
    rfl
  ·show D.look (D.put t.1 (nD x) (κ x)) (nD a)=_
   rw [dB]
   by_cases q:a=x
   ·subst q
    rw [ap rfl]
   ·rw [av fun z=>q (fg z)]
    rcases aM.mp ha with z | z
    ·exact i2 a z
    ·exact absurd (ak.mp z) q) (kvs0,x0) ⟨hk,by intro a ha; cases ha⟩
 refine ⟨t'.1,t'.2,(dG ?_).trans r1,r2,r3⟩
 refine gK (t:=.bo) ?_ (by intro q; cases q)
 show (match (l kvs0 x0)[1]? with | some (some ⟨k,d⟩)=>R.ok (d,k,[]) | _=>.no)=_
 rw [h1]

def tv (M:Mach) (ν:Nat→Nat) (a:Nat):D:=.tup [nD (ν a),.tup (((M.gos a).map ν).map nD)]
theorem vI (M:Mach) (ν:Nat→Nat) (a:Nat):D.isKey true (tv M ν a)=true:=by
 refine me (n:=2) (jH fun x hx=>?_) (by decide)
 rcases ax.mp hx with rfl | hx
 ·exact o5 1 _
 rcases ax.mp hx with rfl | hx
 ·exact jo (n:=0) (fun n:Nat=>(n:Int)) _
 ·cases hx
theorem tx (hM:MOk L M) (hB:Bfs L M s o) {ν:Nat→Nat} {k:Nat} (hν:∀ a∈o,∀ b∈o,(ν a=ν b↔jv L M M k a b)):∀ a∈o,∀ b∈o,(tv M ν a=tv M ν b↔jv L M M (k+1) a b):=fun a ha b hb=>by
 have la:=(hM a (hB.lt a ha)).2.1
 have lb:=(hM b (hB.lt b hb)).2.1
 constructor
 ·intro e
  have e:=D.tup.inj e
  injection e with e1 e2
  injection e2 with e2 _
  have e1:=fg e1
  have e2:=ka (D.tup.inj e2)
  refine ⟨l9 ((hν a ha b hb).mp e1),fun c hc=>(hν _ (hB.cl a ha c hc) _ (hB.cl b hb c hc)).mp ?_⟩
  have:=bj (fun X=>X.getD c 0) e2
  show ν ((M.gos a).getD c 0)=ν ((M.gos b).getD c 0)
  rw [← ig ν (by omega),← ig ν (by omega)]
  exact this
 ·intro e
  have e1:=(hν a ha b hb).mpr (fE e)
  have e2:(M.gos a).map ν=(M.gos b).map ν:=by
   refine kR (by rw [ac,ac,la,lb]) fun c hc=>?_
   rw [ac] at hc
   rw [ig ν hc,ig ν (by omega)]
   exact (hν _ (hB.cl a ha c (by omega)) _ (hB.cl b hb c (by omega))).mpr (e.2 c (by omega))
  unfold tv
  rw [e1,e2]
theorem nH:∀ a b,(D.tup ((M.fst a).map nD)=.tup ((M.fst b).map nD)↔jv L M M 0 a b):=fun a b =>
 ⟨fun e=>ka (D.tup.inj e),fun e=>by
  have e:M.fst a=M.fst b:=e
  rw [e]⟩

def BZ (L:Nat) (M:Mach) (o:List Nat) (mk:List (D × D)) (ν:Nat→Nat) (hs:List Nat):Prop:=Hds ν o hs∧(∀ a∈o,D.look mk (nD a)=some (nD (ν a)))∧∀ a∈o,∀ b∈o,(ν a=ν b↔Eqv L M a M b)
theorem mm (hM:MOk L M) (hB:Bfs L M s o) {a:Nat} (ha:a∈o):∀ c∈M.gos a,c∈o:=fun c hc=>by
 obtain ⟨k,hk,e⟩:=dT hc
 rw [← e]
 exact hB.cl a ha k (by have:=(hM a (hB.lt a ha)).2.1; omega)
theorem o7 (hM:MOk L M) (hL:L≤1000) (hz:M.length≤100000) (hd:dU d M) (hB:Bfs L M s o) :
  (∃ mk ν hs,BZ L M o mk ν hs∧hs.length≤60∧(fG ms).run [d,.lst (o.map nD)]=.ok (.dic false mk,.fr)) ∨
  (∃ (ν:Nat→Nat) (hs:List Nat),Hds ν o hs∧(∀ a∈o,∀ b∈o,Eqv L M a M b→ν a=ν b)∧60 < hs.length∧(fG ms).run [d,.lst (o.map nD)]=.er ⟨"TooMany",none⟩ [] []):=by
 have big:=sizeLine_eq
 have ol:=hB.len
 have oz:o.length≤100000:=by omega
 let l0:List (D × D)→Option Sl→Lc:=fun kvs x=>[some ⟨.bo,d⟩,some ⟨.bo,.lst (o.map nD)⟩,some ⟨.ow,.dic false kvs⟩,x,none,none,none,none,none]
 obtain ⟨kv0,x0,p1,p2,p3⟩:=lz (fs:=[cU ms]) (gs:=[.int 60]) (ms:=ms) (.ix (.ix (.v 0) (.v 3)) (.ki 0)) (fun a=>.tup ((M.fst a).map nD)) l0 oz (fun _ _=>rfl) (fun _ _=>rfl) (fun _ _=>rfl) (fun _ _ _=>rfl) (fun _ _ _=>rfl) (fun a ha kvs=>mj hd (hB.lt a ha) (t:=.bo) (t2:=.fr) rfl rfl) [] (KD.nil o) none
 obtain ⟨hs0,mk0,ν0,N0,c0⟩:=jp (ms:=ms) oz p3 (fun a ha=>me (n:=1) (jo (n:=0) (fun n:Nat=>(n:Int)) _) (by decide)) .fr
 have hν0:∀ a∈o,∀ b∈o,(ν0 a=ν0 b↔jv L M M 0 a b):=fun a ha b hb=>(N0.iff a ha b hb).trans (nH a b)
 let LL:(List (D × D) × Option Sl × Bool × List (D × D) × Nat × Option Sl)→Lc:=fun t=>[some ⟨.bo,d⟩,some ⟨.bo,.lst (o.map nD)⟩,some ⟨.ow,.dic false t.1⟩,t.2.1,some ⟨.fr,.bl t.2.2.1⟩,some ⟨.fr,.dic false t.2.2.2.1⟩,some ⟨.fr,nD t.2.2.2.2.1⟩,t.2.2.2.2.2,none]
 let I:(List (D × D) × Option Sl × Bool × List (D × D) × Nat × Option Sl)→Prop:=fun t=>KD t.1 o∧∃ (k:Nat) (hs:List Nat) (ν:Nat→Nat),Hds ν o hs∧t.2.2.2.2.1=hs.length∧(∀ a∈o,D.look t.2.2.2.1 (nD a)=some (nD (ν a)))∧(∀ a∈o,∀ b∈o,(ν a=ν b↔jv L M M k a b))∧(t.2.2.1=false→(∀ a∈o,∀ b∈o,(ν a=ν b↔Eqv L M a M b))∧hs.length≤60)
 have hw:=kT (cond:=dE [cU ms] [.int 60] (.v 4)) (body:=cy [cU ms] [.int 60] ms #v[.ife (.cmp .gt (.v 6) (.g 0)) #v[.rse "TooMany"] .nil,.loop (.n 3) (.it (.v 1)) #v[.sub 2 (.v 3) (.tup #v[.ix (.v 5) (.v 3),.bi .tuple #v[.comp [8] (.n 8) (.it (.ix (.ix (.v 0) (.v 3)) (.ki 1))) .nil (.ix (.v 5) (.v 8))]])],.set (.t #v[.n 5,.n 7]) (.call 0 #v[.v 1,.v 2]),.set (.n 4) (.cmp .gt (.v 7) (.v 6)),.set (.n 6) (.v 7)]) LL (fun t=>t.2.2.1) I (fun t=>if t.2.2.1=true then o.length+1 - t.2.2.2.2.1 else 0) ⟨"TooMany",none⟩
  (∃ (ν:Nat→Nat) (hs:List Nat),Hds ν o hs∧(∀ a∈o,∀ b∈o,Eqv L M a M b→ν a=ν b)∧60 < hs.length)
  (fun t _=>cB (t:=.fr) rfl)
  (fun t ⟨i0,k,hs,ν,i1,i2,i3,i4,i5⟩ hc=>by
   have hsl:=i1.len
   have e60:b7 [cU ms] [.int 60] (.cmp .gt (.v 6) (.g 0)) (LL t) []=.ok (.bl (decide (60 < hs.length)),.fr,[]):=by
    refine cI (d:=nD t.2.2.2.2.1) (d2:=.int 60) (t:=.fr) (t2:=.fr) (s1:=[]) (s2:=[]) rfl rfl (kS ?_)
    rw [i2]
    exact bu.mpr (by omega)
   by_cases h60:60 < hs.length
   ·rw [aI h60] at e60
    exact .inr ⟨⟨LL t,oY ((fj (cB e60)).trans (oY rfl))⟩,ν,hs,i1,fun a ha b hb e=>(i4 a ha b hb).mpr (e k),h60⟩
   ·rw [aH h60] at e60
    obtain ⟨kv1,x1,q1,q2,q3⟩:=lz (fs:=[cU ms]) (gs:=[.int 60]) (ms:=ms) (.tup #v[.ix (.v 5) (.v 3),.bi .tuple #v[.comp [8] (.n 8) (.it (.ix (.ix (.v 0) (.v 3)) (.ki 1))) .nil (.ix (.v 5) (.v 8))]]) (tv M ν) (fun kvs x=>LL (kvs,x,t.2.2)) oz (fun _ _=>rfl) (fun _ _=>rfl) (fun _ _=>rfl) (fun _ _ _=>rfl) (fun _ _ _=>rfl) (fun a ha kvs=>by
     have hal:=hB.lt a ha
     have hgl:=(hM a hal).2.1
     refine gL (df (d:=.dic false t.2.2.2.1) (d2:=nD a) (t:=.fr) (t2:=.fr) (s1:=[]) (s2:=[]) rfl rfl (fQ (cH _) (i3 a ha))) (eC (t:=.nw) ?_)
     rw [bD]
     refine eh (ds:=M.gos a) (en:=nD) rfl (ie (t:=.fr) (ii hd hal (t:=.bo) (t2:=.fr) rfl rfl) (by intro q; cases q)) (fun c hc2=>⟨[some ⟨.bo,d⟩,some ⟨.bo,.lst (o.map nD)⟩,some ⟨.ow,.dic false kvs⟩,some ⟨.fr,nD a⟩,some ⟨.fr,.bl t.2.2.1⟩,some ⟨.fr,.dic false t.2.2.2.1⟩,some ⟨.fr,nD t.2.2.2.2.1⟩,t.2.2.2.2.2,some ⟨.fr,nD c⟩],.fr,rfl,?_,.inl rfl⟩) (by omega)
     exact df (d:=.dic false t.2.2.2.1) (d2:=nD c) (t:=.fr) (t2:=.fr) (s1:=[]) (s2:=[]) rfl rfl (fQ (cH _) (i3 c (mm hM hB ha c hc2)))) t.1 i0 t.2.1
    obtain ⟨hs1,mk1,ν1,N1,c1⟩:=jp (ms:=ms) oz q3 (fun a _=>vI M ν a) .fr
    have hν1:∀ a∈o,∀ b∈o,(ν1 a=ν1 b↔jv L M M (k+1) a b):=fun a ha b hb=>(N1.iff a ha b hb).trans (tx hM hB i4 a ha b hb)
    have fine:∀ a∈o,∀ b∈o,ν1 a=ν1 b→ν a=ν b:=fun a ha b hb e=>(i4 a ha b hb).mpr (fE ((hν1 a ha b hb).mp e))
    have hle:=i1.le N1.hds fine
    have hl1:=N1.hd.len
    refine .inl ⟨(kv1,x1,decide (hs.length < hs1.length),mk1,hs1.length,some ⟨.fr,nD hs1.length⟩),(b6 ((dc (cB e60)).trans cn)).trans ((b6 q1).trans ((b6 (l1:=[some ⟨.bo,d⟩,some ⟨.bo,.lst (o.map nD)⟩,some ⟨.ow,.dic false kv1⟩,x1,some ⟨.fr,.bl t.2.2.1⟩,some ⟨.fr,.dic false mk1⟩,some ⟨.fr,nD t.2.2.2.2.1⟩,some ⟨.fr,nD hs1.length⟩,none]) (s1:=[]) (cx (t:=.fr) (cQ (s1:=[]) rfl (jF rfl rfl (.inl rfl) (.inl rfl)) c1) (.inl rfl) rfl)).trans ((b6 (s1:=[]) (cx (t:=.fr) (d:=.bl (decide (hs.length < hs1.length))) (cI (d:=nD hs1.length) (d2:=nD t.2.2.2.2.1) (t:=.fr) (t2:=.fr) (s1:=[]) (s2:=[]) rfl rfl (kS ?_)) (.inl rfl) rfl)).trans ((b6 (cx (t:=.fr) rfl (.inl rfl) rfl)).trans cn)))),⟨q2,k+1,hs1,ν1,N1.hds,rfl,N1.lk,hν1,fun hg=>?_⟩,?_⟩
    ·rw [i2]
     exact bu.mpr (by omega)
    ·have hg:¬ hs.length < hs1.length:=bI hg
     have sm:=i1.same N1.hds fine (by omega)
     have st:=p7 hB.cl fun a ha b hb e=>(hν1 a ha b hb).mp (sm a ha b hb ((i4 a ha b hb).mpr e))
     exact ⟨fun a ha b hb=>⟨fun e=>st a ha b hb (fE ((hν1 a ha b hb).mp e)),fun e=>(hν1 a ha b hb).mpr (e (k+1))⟩,by omega⟩
    ·show (if decide (hs.length < hs1.length)=true then o.length+1 - hs1.length else 0) < if t.2.2.1=true then o.length+1 - t.2.2.2.2.1 else 0
     have hc:t.2.2.1=true:=hc
     rw [ap hc,i2]
     split
     ·rename_i z
      have:=aY z
      omega
     ·omega)
  (kv0,x0,true,mk0,hs0.length,none) ⟨p2,0,hs0,ν0,N0.hds,rfl,N0.lk,hν0,fun h=>by cases h⟩
 have start:cy [cU ms] [.int 60] ms gC (l0 [] none |>.set 2 none) []=(cy [cU ms] [.int 60] ms (.whl (.v 4) #v[.ife (.cmp .gt (.v 6) (.g 0)) #v[.rse "TooMany"] .nil,.loop (.n 3) (.it (.v 1)) #v[.sub 2 (.v 3) (.tup #v[.ix (.v 5) (.v 3),.bi .tuple #v[.comp [8] (.n 8) (.it (.ix (.ix (.v 0) (.v 3)) (.ki 1))) .nil (.ix (.v 5) (.v 8))]])],.set (.t #v[.n 5,.n 7]) (.call 0 #v[.v 1,.v 2]),.set (.n 4) (.cmp .gt (.v 7) (.v 6)),.set (.n 6) (.v 7)]) (LL (kv0,x0,true,mk0,hs0.length,none)) []).bind fun o=>match o with | .nx l1 s1=>cy [cU ms] [.int 60] ms #v[.ret (.v 5)] l1 s1 | o=>.ok o:=by
  refine (b6 (l1:=l0 [] none) (s1:=[]) (cX (d:=.dic false []) rfl)).trans ?_
  refine (b6 p1).trans ?_
  refine (b6 (l1:=[some ⟨.bo,d⟩,some ⟨.bo,.lst (o.map nD)⟩,some ⟨.ow,.dic false kv0⟩,x0,none,some ⟨.fr,.dic false mk0⟩,some ⟨.fr,nD hs0.length⟩,none,none]) (s1:=[]) (cx (t:=.fr) (cQ (s1:=[]) rfl (jF rfl rfl (.inl rfl) (.inl rfl)) c0) (.inl rfl) rfl)).trans ?_
  exact (b6 (l1:=LL (kv0,x0,true,mk0,hs0.length,none)) (s1:=[]) (cx (t:=.fr) rfl (.inl rfl) rfl)).trans rfl
 rcases hw with ⟨t',w1,⟨_,k,hs,ν,w2,w3,w4,w5,w6⟩,w7⟩ | ⟨⟨l,w1⟩,ν,hs,w2,w3,w4⟩
 ·obtain ⟨w8,w9⟩:=w6 w7
  refine .inl ⟨t'.2.2.2.1,ν,hs,⟨w2,w4,w8⟩,w9,cA (s:=[]) rfl (start.trans ?_)⟩
  rw [whl_eq,w1]
  show cy [cU ms] [.int 60] ms #v[.ret (.v 5)] (LL t') []=_
  exact cE (du (t:=.fr) rfl rfl)
 ·refine .inr ⟨ν,hs,w2,w3,w4,pW (s:=[]) (l:=l) rfl (start.trans ?_)⟩
  rw [whl_eq,w1]
  rfl
end
-- gR(rows,start): slots 0=rows 1=start 2=order 3=marks 4=names 5=heads 6=at 7=made 8=head 9=to
def jq:S:=#v[.set (.n 2) (.call 1 #v[.v 0,.v 1]),.set (.n 3) (.call 0 #v[.v 0,.v 2]),.own 4 (.dic false .nil .nil),.own 5 (.lst .nil),.loop (.n 6) (.it (.v 2))
 #v[.ife (.cmp .notin (.ix (.v 3) (.v 6)) (.v 4))
 #v[.sub 4 (.ix (.v 3) (.v 6)) (.bi .len #v[.v 5]),.app 5 (.v 6)]
 .nil],.own 7 (.lst .nil),.fz [5] (.loop (.n 8) (.it (.v 5))
 #v[.app 7 (.tup #v[.bi .tuple #v[.ix (.ix (.v 0) (.v 8)) (.ki 0)],.bi .tuple #v[.comp [9] (.n 9) (.it (.ix (.ix (.v 0) (.v 8)) (.ki 1))) .nil (.ix (.v 4) (.ix (.v 3) (.v 9)))]])]),.ret (.bi .tuple #v[.v 7])]
noncomputable def iE (ms:Str→Str→Option Bool):Fn:=.self [fG ms,dD ms] [] ms jq [false,true] 2 10
section
variable {fs:List Fn} {gs:List D} {ms:Str→Str→Option Bool} {M:Mach} {L s:Nat} {o:List Nat} {d:D}

noncomputable def gN (mk names:List (D × D)) (a:Nat):Nat:=match D.look mk (nD a) with
 | some m=>match D.look names m with
  | some (.int i)=>i.toNat
  | _=>0
 | none=>0
theorem nJ {mk names:List (D × D)} {ν:Nat→Nat} {hs:List Nat} (hH:Hds ν o hs) (hl:∀ a∈o,D.look mk (nD a)=some (nD (ν a))) (hk:Known (fun a=>nD (ν a)) hs names):∀ a∈o,gN mk names a < hs.length∧ν (hs.getD (gN mk names a) 0)=ν a∧D.look names (nD (ν a))=some (nD (gN mk names a)):=fun a ha=>by
 obtain ⟨i,i1,i2⟩:=hH.all a ha
 have e:=hk.lk i i1
 have e:D.look names (nD (ν (hs.getD i 0)))=some (nD i):=e
 rw [i2] at e
 have q:gN mk names a=i:=by
  unfold gN
  rw [hl a ha]
  show (match D.look names (nD (ν a)) with | some (.int i)=>i.toNat | _=>0)=i
  rw [e]
  exact ba i
 rw [q]
 exact ⟨i1,i2,e⟩
theorem iU {κ:Nat→D} {hs:List Nat} {kn:List (D × D)} (h:Known κ hs kn) {x:Nat} (hx:¬ ∃ i,i < hs.length∧κ (hs.getD i 0)=κ x):D.look kn (κ x)=none:=by
 cases q:D.look kn (κ x) with
 | none=>rfl
 | some d =>
  obtain ⟨i,z1,z2⟩:=h.on (κ x) (by rw [q]; rfl)
  exact absurd ⟨i,z1,z2.symm⟩ hx
theorem iV {κ:Nat→D} {hs:List Nat} {kn:List (D × D)} (h:Known κ hs kn) {x:Nat} (hx:∃ i,i < hs.length∧κ (hs.getD i 0)=κ x):(D.look kn (κ x)).isSome=true:=by
 obtain ⟨i,z1,z2⟩:=hx
 rw [← z2,h.lk i z1]
 rfl
theorem jI (κ:Nat→D):Known κ [] []:=⟨rfl,fun i hi=>absurd hi (be i),by intro d hd; exact absurd (show (none:Option D).isSome=true from hd) (by simp)⟩
theorem nD_iff {ν:Nat→Nat} {hs:List Nat} {x:Nat}:(∃ i,i < hs.length∧nD (ν (hs.getD i 0))=nD (ν x))↔∃ i,i < hs.length∧ν (hs.getD i 0)=ν x :=
 ⟨fun ⟨i,a,b⟩=>⟨i,a,fg b⟩,fun ⟨i,a,b⟩=>⟨i,a,by rw [b]⟩⟩

theorem nK (hM:MOk L M) (hL:L≤1000) (hB:Bfs L M s o) (hd:dU d M) {mk names:List (D × D)} {ν:Nat→Nat} {hs:List Nat} (hH:Hds ν o hs) (hl:∀ a∈o,D.look mk (nD a)=some (nD (ν a))) (hk:Known (fun a=>nD (ν a)) hs names) {vr vh vt vn vm:Nat} {own:List Nat} {l:Lc} {h:Nat} (hh:h∈o) {td tn tm:Tag}
  (e0:b7 fs gs (.v vr) l []=.ok (d,td,[])) (e1:b7 fs gs (.v vh) l []=.ok (nD h,.fr,[])) (ow:l6 l own=true) (l1:Nat→Lc) (ep:∀ c,T.put (.n vt) (nD c) (de l own)=some (l1 c)) (ec:∀ c,b7 fs gs (.v vt) (l1 c) []=.ok (nD c,.fr,[])) (en:∀ c,b7 fs gs (.v vn) (l1 c) []=.ok (.dic false names,tn,[])) (em:∀ c,b7 fs gs (.v vm) (l1 c) []=.ok (.dic false mk,tm,[])) :
  b7 fs gs (.tup #v[.bi .tuple #v[.ix (.ix (.v vr) (.v vh)) (.ki 0)],.bi .tuple #v[.comp own (.n vt) (.it (.ix (.ix (.v vr) (.v vh)) (.ki 1))) .nil (.ix (.v vn) (.ix (.v vm) (.v vt)))]]) l []=.ok (cC (M.fst h,(M.gos h).map (gN mk names)),.fr,[]):=by
 have big:=sizeLine_eq
 have hal:=hB.lt h hh
 have hgl:=(hM h hal).2.1
 refine gL (d:=.tup ((M.fst h).map nD)) (d2:=.tup (((M.gos h).map (gN mk names)).map nD)) ?_ ?_
 ·have q:=mj (fs:=fs) (gs:=gs) hd hal e0 e1
  show (ft fs gs #v[.ix (.ix (.v vr) (.v vh)) (.ki 0)] [] l []).bind _=_
  rw [cz q (.inl rfl) rfl]
  rfl
 ·refine eC (t:=.nw) ?_
  rw [bD]
  refine eh (ds:=M.gos h) (en:=nD) ow (ie (t:=.fr) (ii hd hal e0 e1) (by intro q; cases q)) (fun c hc=>⟨l1 c,.fr,ep c,?_,.inl rfl⟩) (by omega)
  have hco:=mm hM hB hh c hc
  exact df (en c) (df (em c) (ec c) (fQ (cH _) (hl c hco))) (fQ (cH _) (nJ hH hl hk c hco).2.2)
theorem qK (hM:MOk L M) (hL:L≤1000) (hz:M.length≤100000) (hd:dU d M) (hs:s < M.length) :
  ∃ F,Form L F∧Eqv L F 0 M s∧((F.length≤60∧(iE ms).run [d,nD s]=.ok (.tup (F.map cC),.fr))∨(60 < F.length∧(iE ms).run [d,nD s]=.er ⟨"TooMany",none⟩ [] [])):=by
 have big:=sizeLine_eq
 obtain ⟨o,hB,c1⟩:=jT (ms:=ms) hM hz hd hs
 have ol:=hB.len
 let l1:Lc:=[some ⟨.bo,d⟩,some ⟨.fr,nD s⟩,some ⟨.fr,.lst (o.map nD)⟩,none,none,none,none,none,none,none]
 have s1:cy [fG ms,dD ms] [] ms (.set (.n 2) (.call 1 #v[.v 0,.v 1])) [some ⟨.bo,d⟩,some ⟨.fr,nD s⟩,none,none,none,none,none,none,none,none] []=.ok (.nx l1 []) :=
  cx (t:=.nw) (cQ (s1:=[]) rfl (jF rfl rfl (.inl rfl) (.inr (.inl rfl))) c1) (.inr (.inl rfl)) rfl
 rcases o7 (ms:=ms) hM hL hz hd hB with ⟨mk,ν,gs,⟨m1,m2,m3⟩,m4,c2⟩ | ⟨ν,gs,m1,m2,m3,c2⟩
 ·let LL:(List (D × D) × List Nat × Option Sl)→Lc:=fun t=>[some ⟨.bo,d⟩,some ⟨.fr,nD s⟩,some ⟨.fr,.lst (o.map nD)⟩,some ⟨.fr,.dic false mk⟩,some ⟨.ow,.dic false t.1⟩,some ⟨.ow,.lst (t.2.1.map nD)⟩,t.2.2,none,none,none]
  obtain ⟨⟨names,hs',x6⟩,h1,h2,h3⟩:=dC (body:=fun d l s=>match T.put (.n 6) d l with | some l1=>cy [fG ms,dD ms] [] ms #v[.ife (.cmp .notin (.ix (.v 3) (.v 6)) (.v 4)) #v[.sub 4 (.ix (.v 3) (.v 6)) (.bi .len #v[.v 5]),.app 5 (.v 6)] .nil] l1 s | none=>.no) nD LL
   (fun pr t=>Hds ν pr t.2.1∧Known (fun a=>nD (ν a)) t.2.1 t.1) o (fun pr x r t hx ⟨i1,i2⟩=>by
    have hxo:x∈o:=by rw [hx]; exact am _ aj
    have hsl:=i1.len
    have hpl:pr.length < o.length:=by rw [hx,ae,aB]; omega
    have kz:t.1.length < sizeLine:=by rw [i2.len]; omega
    have hz2:(t.2.1.map nD).length < sizeLine:=by rw [ac]; omega
    have ex:b7 [fG ms,dD ms] [] (.ix (.v 3) (.v 6)) (LL (t.1,t.2.1,some ⟨.fr,nD x⟩)) []=.ok (nD (ν x),.fr,[]):=df (d:=.dic false mk) (d2:=nD x) (t:=.fr) (t2:=.fr) (s1:=[]) (s2:=[]) rfl rfl (fQ (cH _) (m2 x hxo))
    by_cases hc:∃ i,i < t.2.1.length∧ν (t.2.1.getD i 0)=ν x
    ·refine ⟨(t.1,t.2.1,some ⟨.fr,nD x⟩),(b6 ((dc (s1:=[]) (cB (t:=.fr) (cI ex (d2:=.dic false t.1) (t2:=.ow) (s2:=[]) rfl ?_))).trans cn)).trans cn,i1.old hc,i2⟩
     rw [dM (cH _),iV i2 (nD_iff.mpr hc)]
     rfl
    ·have hc2:¬ ∃ i,i < t.2.1.length∧nD (ν (t.2.1.getD i 0))=nD (ν x):=fun q=>hc (nD_iff.mp q)
     refine ⟨(D.put t.1 (nD (ν x)) (nD t.1.length),t.2.1++[x],some ⟨.fr,nD x⟩),(b6 ((fj (s1:=[]) (cB (t:=.fr) (cI ex (d2:=.dic false t.1) (t2:=.ow) (s2:=[]) rfl ?_))).trans ((b6 (l1:=LL (D.put t.1 (nD (ν x)) (nD t.1.length),t.2.1,some ⟨.fr,nD x⟩)) (f9 (t:=.fr) (t2:=.fr) (s1:=[]) (s2:=[]) (y:=nD t.1.length) (d:=nD (ν x)) ?_ (.inl rfl) rfl ex (.inl rfl) (eE (cH _) kz))).trans ((b6 (app_ok (d:=nD x) (t:=.fr) (s1:=[]) rfl rfl (.inl rfl) hz2)).trans cn)))).trans ?_,i1.new hc,i2.new hc2⟩
     ·rw [dM (cH _),iU i2 hc2]
      rfl
     ·rw [i2.len]
      simp! [LL]
     ·show R.ok (Out.nx [some ⟨.bo,d⟩,some ⟨.fr,nD s⟩,some ⟨.fr,.lst (o.map nD)⟩,some ⟨.fr,.dic false mk⟩,some ⟨.ow,.dic false (D.put t.1 (nD (ν x)) (nD t.1.length))⟩,some ⟨.ow,.lst (t.2.1.map nD++[nD x])⟩,some ⟨.fr,nD x⟩,none,none,none] [])=R.ok (Out.nx [some ⟨.bo,d⟩,some ⟨.fr,nD s⟩,some ⟨.fr,.lst (o.map nD)⟩,some ⟨.fr,.dic false mk⟩,some ⟨.ow,.dic false (D.put t.1 (nD (ν x)) (nD t.1.length))⟩,some ⟨.ow,.lst ((t.2.1++[x]).map nD)⟩,some ⟨.fr,nD x⟩,none,none,none] [])
      rw [eG]) ([],[],none) ⟨Hds.nil,jI _⟩
  have h2:Hds ν o hs':=h2
  have h3:Known (fun a=>nD (ν a)) hs' names:=h3
  obtain ⟨f1,f2⟩:=mc hM hB m3 h2 (nm:=gN mk names) fun a ha=>⟨(nJ h2 m2 h3 a ha).1,(nJ h2 m2 h3 a ha).2.1⟩
  have hsl:=h2.len
  have sm:hs'.length≤gs.length:=h2.le m1 fun a _ b _ e=>e
  have fl:(o4 M hs' (gN mk names)).length=hs'.length:=by unfold o4; rw [ac]
  refine ⟨_,f1,f2,.inl ⟨by rw [fl]; omega,cA (s:=[]) rfl ?_⟩⟩
  refine (b6 s1).trans ?_
  refine (b6 (l1:=[some ⟨.bo,d⟩,some ⟨.fr,nD s⟩,some ⟨.fr,.lst (o.map nD)⟩,some ⟨.fr,.dic false mk⟩,none,none,none,none,none,none]) (s1:=[]) (cx (t:=.fr) (cQ (s1:=[]) rfl (jF rfl rfl (.inl rfl) (.inl rfl)) c2) (.inl rfl) rfl)).trans ?_
  refine (b6 (l1:=[some ⟨.bo,d⟩,some ⟨.fr,nD s⟩,some ⟨.fr,.lst (o.map nD)⟩,some ⟨.fr,.dic false mk⟩,some ⟨.ow,.dic false []⟩,none,none,none,none,none]) (s1:=[]) (cX (d:=.dic false []) rfl)).trans ?_
  refine (b6 (l1:=LL ([],[],none)) (s1:=[]) (cX (d:=.lst []) ?_)).trans ?_
  ·simp! [aV]
  refine (b6 ((dG (gK (t:=.fr) rfl (by intro q; cases q))).trans h1)).trans ?_
  let L3:(List (List Nat × List Nat) × Option Sl)→Lc:=fun t=>[some ⟨.bo,d⟩,some ⟨.fr,nD s⟩,some ⟨.fr,.lst (o.map nD)⟩,some ⟨.fr,.dic false mk⟩,some ⟨.ow,.dic false names⟩,some ⟨.fr,.lst (hs'.map nD)⟩,x6,some ⟨.ow,.lst (t.1.map cC)⟩,t.2,none]
  refine (b6 (l1:=[some ⟨.bo,d⟩,some ⟨.fr,nD s⟩,some ⟨.fr,.lst (o.map nD)⟩,some ⟨.fr,.dic false mk⟩,some ⟨.ow,.dic false names⟩,some ⟨.ow,.lst (hs'.map nD)⟩,x6,some ⟨.ow,.lst []⟩,none,none]) (s1:=[]) (cX (d:=.lst []) ?_)).trans ?_
  ·simp! [aV]
  obtain ⟨⟨mad,x8⟩,h4,h5⟩:=dC (body:=fun d l s=>match T.put (.n 8) d l with | some l1=>cy [fG ms,dD ms] [] ms #v[.app 7 (.tup #v[.bi .tuple #v[.ix (.ix (.v 0) (.v 8)) (.ki 0)],.bi .tuple #v[.comp [9] (.n 9) (.it (.ix (.ix (.v 0) (.v 8)) (.ki 1))) .nil (.ix (.v 4) (.ix (.v 3) (.v 9)))]])] l1 s | none=>.no) nD L3
   (fun pr t=>t.1=pr.map fun h=>(M.fst h,(M.gos h).map (gN mk names))) hs' (fun pr x r t hx hi=>by
    have hxo:x∈o:=by
     obtain ⟨i,i1,i2⟩:=dT (show x∈hs' by rw [hx]; exact am _ aj)
     rw [← i2]
     exact h2.mem i1
    have hpl:pr.length < hs'.length:=by rw [hx,ae,aB]; omega
    have hz2:(t.1.map cC).length < sizeLine:=by rw [hi,ac,ac]; omega
    refine ⟨(t.1++[(M.fst x,(M.gos x).map (gN mk names))],some ⟨.fr,nD x⟩),(b6 (app_ok (d:=cC (M.fst x,(M.gos x).map (gN mk names))) (t:=.fr) (s1:=[]) rfl (nK hM hL hB hd h2 m2 h3 hxo (td:=.bo) (tn:=.ow) (tm:=.fr) rfl rfl rfl (fun c=>[some ⟨.bo,d⟩,some ⟨.fr,nD s⟩,some ⟨.fr,.lst (o.map nD)⟩,some ⟨.fr,.dic false mk⟩,some ⟨.ow,.dic false names⟩,some ⟨.fr,.lst (hs'.map nD)⟩,x6,some ⟨.ow,.lst (t.1.map cC)⟩,some ⟨.fr,nD x⟩,some ⟨.fr,nD c⟩]) (fun c=>rfl) (fun c=>rfl) (fun c=>rfl) (fun c=>rfl)) (.inl rfl) hz2)).trans ?_,?_⟩
    ·show R.ok (Out.nx [some ⟨.bo,d⟩,some ⟨.fr,nD s⟩,some ⟨.fr,.lst (o.map nD)⟩,some ⟨.fr,.dic false mk⟩,some ⟨.ow,.dic false names⟩,some ⟨.fr,.lst (hs'.map nD)⟩,x6,some ⟨.ow,.lst (t.1.map cC++[cC (M.fst x,(M.gos x).map (gN mk names))])⟩,some ⟨.fr,nD x⟩,none] [])=R.ok (Out.nx [some ⟨.bo,d⟩,some ⟨.fr,nD s⟩,some ⟨.fr,.lst (o.map nD)⟩,some ⟨.fr,.dic false mk⟩,some ⟨.ow,.dic false names⟩,some ⟨.fr,.lst (hs'.map nD)⟩,x6,some ⟨.ow,.lst ((t.1++[(M.fst x,(M.gos x).map (gN mk names))]).map cC)⟩,some ⟨.fr,nD x⟩,none] [])
     rw [eG]
    ·show t.1++[_]=_
     rw [eG,hi]) ([],none) rfl
  have h5:mad=o4 M hs' (gN mk names):=h5
  refine (b6 (fz_eq.trans ((dG (gK (t:=.fr) rfl (by intro q; cases q))).trans h4))).trans (cE (du (t:=.fr) (eC (t:=.ow) (ds:=(o4 M hs' (gN mk names)).map cC) ?_) rfl))
  rw [← h5]
  rfl
 ·obtain ⟨F,f1,f2,f3⟩:=vH hM hB m1 m2
  refine ⟨F,f1,f2,.inr ⟨by omega,pW (s:=[]) (l:=l1) rfl ((b6 s1).trans (oY (zd (tc (s1:=[]) rfl (jF rfl rfl (.inl rfl) (.inl rfl)) c2))))⟩⟩
end
-- _law_in_line(_law_rows_here,_law_line,_law_marks): slots 0=_law_rows_here 1=_law_line 2=_law_marks 3=_law_place 4=_law_heads 5=_law_row 6=_law_to
def eJ:S:=#v[.own 3 (.dic false .nil .nil),.own 4 (.lst .nil),.loop (.n 5) (.it (.v 1))
 #v[.ife (.cmp .notin (.ix (.v 2) (.v 5)) (.v 3))
 #v[.sub 3 (.ix (.v 2) (.v 5)) (.bi .len #v[.v 4]),.app 4 (.v 5)]
 .nil],.fz [4] (.ret (.bi .tuple #v[.comp [5] (.n 5) (.it (.v 4)) .nil (.tup #v[.bi .tuple #v[.ix (.ix (.v 0) (.v 5)) (.ki 0)],.bi .tuple #v[.comp [6] (.n 6) (.it (.ix (.ix (.v 0) (.v 5)) (.ki 1))) .nil (.ix (.v 3) (.ix (.v 2) (.v 6)))]])]))]
noncomputable def cb (ms:Str→Str→Option Bool):Fn:=.self [] [] ms eJ [false,false,false] 3 7
-- _law_shrunk(_law_rows_here,_law_start): slots 0=_law_rows_here 1=_law_start 2=_law_line 3=_law_marks 4=_law_at 5=_law_many 6=_law_grown 7=_law_to 8=_law_known 9=_law_fresh 10=_law_row 11=_law_key
def fh:S:=#v[.own 2 (.lst #v[.v 1]),.own 3 (.dic false #v[.v 1] #v[.ix (.ix (.v 0) (.v 1)) (.ki 0)]),.set (.n 4) (.ki 0),.whl (.cmp .lt (.v 4) (.bi .len #v[.v 2]))
 #v[.loop (.n 7) (.it (.ix (.ix (.v 0) (.ix (.v 2) (.v 4))) (.ki 1)))
 #v[.ife (.cmp .notin (.v 7) (.v 3))
 #v[.sub 3 (.v 7) (.ix (.ix (.v 0) (.v 7)) (.ki 0)),.app 2 (.v 7)]
 .nil],.aug 4 (.ki 1)],.set (.n 5) (.ki 0),.set (.n 6) (.kb true),.whl (.v 6)
 #v[.own 8 (.dic true .nil .nil),.own 9 (.dic false .nil .nil),.fz [2] (.loop (.n 10) (.it (.v 2))
 #v[.set (.n 11) (.tup #v[.ix (.v 3) (.v 10),.bi .tuple #v[.comp [7] (.n 7) (.it (.ix (.ix (.v 0) (.v 10)) (.ki 1))) .nil (.ix (.v 3) (.v 7))]]),.sub 8 (.v 11) (.mt .get2 (.v 8) #v[.v 11,.bi .len #v[.v 8]]),.sub 9 (.v 10) (.ix (.v 8) (.v 11))]),.set (.n 6) (.cmp .gt (.bi .len #v[.v 8]) (.v 5)),.set (.n 5) (.bi .len #v[.v 8]),.fz [9] (.set (.n 3) (.v 9))],.ret (.call 0 #v[.v 0,.v 2,.v 3])]
noncomputable def cJ (ms:Str→Str→Option Bool):Fn:=.self [cb ms] [] ms fh [false,true] 2 12
section
variable {fs:List Fn} {gs:List D} {ms:Str→Str→Option Bool} {M:Mach} {L s:Nat} {o:List Nat} {d:D}
theorem nL (hM:MOk L M) (hL:L≤1000) (hz:M.length≤100000) (hd:dU d M) (hB:Bfs L M s o) {mk:List (D × D)} {ν:Nat→Nat} (m2:∀ a∈o,D.look mk (nD a)=some (nD (ν a))) (m3:∀ a∈o,∀ b∈o,(ν a=ν b↔Eqv L M a M b)) :
  ∃ F,Form L F∧Eqv L F 0 M s∧F.length≤M.length∧(cb ms).run [d,.lst (o.map nD),.dic false mk]=.ok (.tup (F.map cC),.fr):=by
 have big:=sizeLine_eq
 have ol:=hB.len
 let LL:(List (D × D) × List Nat × Option Sl)→Lc:=fun t=>[some ⟨.bo,d⟩,some ⟨.bo,.lst (o.map nD)⟩,some ⟨.bo,.dic false mk⟩,some ⟨.ow,.dic false t.1⟩,some ⟨.ow,.lst (t.2.1.map nD)⟩,t.2.2,none]
 obtain ⟨⟨names,hs,x5⟩,h1,h2,h3,h6⟩:=dC (body:=fun d l s=>match T.put (.n 5) d l with | some l1=>cy [] [] ms #v[.ife (.cmp .notin (.ix (.v 2) (.v 5)) (.v 3)) #v[.sub 3 (.ix (.v 2) (.v 5)) (.bi .len #v[.v 4]),.app 4 (.v 5)] .nil] l1 s | none=>.no) nD LL
  (fun pr t=>Hds ν pr t.2.1∧Known (fun a=>nD (ν a)) t.2.1 t.1∧(t.2.2=none∨∃ n,t.2.2=some ⟨.fr,nD n⟩)) o (fun pr x r t hx ⟨i1,i2,_⟩=>by
   have hxo:x∈o:=by rw [hx]; exact am _ aj
   have hsl:=i1.len
   have hpl:pr.length < o.length:=by rw [hx,ae,aB]; omega
   have kz:t.1.length < sizeLine:=by rw [i2.len]; omega
   have hz2:(t.2.1.map nD).length < sizeLine:=by rw [ac]; omega
   have ex:b7 [] [] (.ix (.v 2) (.v 5)) (LL (t.1,t.2.1,some ⟨.fr,nD x⟩)) []=.ok (nD (ν x),.fr,[]):=df (d:=.dic false mk) (d2:=nD x) (t:=.bo) (t2:=.fr) (s1:=[]) (s2:=[]) rfl rfl (fQ (cH _) (m2 x hxo))
   by_cases hc:∃ i,i < t.2.1.length∧ν (t.2.1.getD i 0)=ν x
   ·refine ⟨(t.1,t.2.1,some ⟨.fr,nD x⟩),(b6 ((dc (s1:=[]) (cB (t:=.fr) (cI ex (d2:=.dic false t.1) (t2:=.ow) (s2:=[]) rfl ?_))).trans cn)).trans cn,i1.old hc,i2,.inr ⟨x,rfl⟩⟩
    rw [dM (cH _),iV i2 (nD_iff.mpr hc)]
    rfl
   ·have hc2:¬ ∃ i,i < t.2.1.length∧nD (ν (t.2.1.getD i 0))=nD (ν x):=fun q=>hc (nD_iff.mp q)
    refine ⟨(D.put t.1 (nD (ν x)) (nD t.1.length),t.2.1++[x],some ⟨.fr,nD x⟩),(b6 ((fj (s1:=[]) (cB (t:=.fr) (cI ex (d2:=.dic false t.1) (t2:=.ow) (s2:=[]) rfl ?_))).trans ((b6 (l1:=LL (D.put t.1 (nD (ν x)) (nD t.1.length),t.2.1,some ⟨.fr,nD x⟩)) (f9 (t:=.fr) (t2:=.fr) (s1:=[]) (s2:=[]) (y:=nD t.1.length) (d:=nD (ν x)) ?_ (.inl rfl) rfl ex (.inl rfl) (eE (cH _) kz))).trans ((b6 (app_ok (d:=nD x) (t:=.fr) (s1:=[]) rfl rfl (.inl rfl) hz2)).trans cn)))).trans ?_,i1.new hc,i2.new hc2,.inr ⟨x,rfl⟩⟩
    ·rw [dM (cH _),iU i2 hc2]
     rfl
    ·rw [i2.len]
     simp! [LL]
    ·show R.ok (Out.nx [some ⟨.bo,d⟩,some ⟨.bo,.lst (o.map nD)⟩,some ⟨.bo,.dic false mk⟩,some ⟨.ow,.dic false (D.put t.1 (nD (ν x)) (nD t.1.length))⟩,some ⟨.ow,.lst (t.2.1.map nD++[nD x])⟩,some ⟨.fr,nD x⟩,none] [])=R.ok (Out.nx [some ⟨.bo,d⟩,some ⟨.bo,.lst (o.map nD)⟩,some ⟨.bo,.dic false mk⟩,some ⟨.ow,.dic false (D.put t.1 (nD (ν x)) (nD t.1.length))⟩,some ⟨.ow,.lst ((t.2.1++[x]).map nD)⟩,some ⟨.fr,nD x⟩,none] [])
     rw [eG]) ([],[],none) ⟨Hds.nil,jI _,.inl rfl⟩
 have h2:Hds ν o hs:=h2
 have h3:Known (fun a=>nD (ν a)) hs names:=h3
 obtain ⟨f1,f2⟩:=mc hM hB m3 h2 (nm:=gN mk names) fun a ha=>⟨(nJ h2 m2 h3 a ha).1,(nJ h2 m2 h3 a ha).2.1⟩
 have hsl:=h2.len
 have fl:(o4 M hs (gN mk names)).length=hs.length:=by unfold o4; rw [ac]
 refine ⟨_,f1,f2,by rw [fl]; omega,cA (s:=[]) rfl ?_⟩
 refine (b6 (l1:=[some ⟨.bo,d⟩,some ⟨.bo,.lst (o.map nD)⟩,some ⟨.bo,.dic false mk⟩,some ⟨.ow,.dic false []⟩,none,none,none]) (s1:=[]) (cX (d:=.dic false []) rfl)).trans ?_
 refine (b6 (l1:=LL ([],[],none)) (s1:=[]) (cX (d:=.lst []) ?_)).trans ?_
 ·simp! [aV]
 refine (b6 ((dG (gK (t:=.bo) rfl (by intro q; cases q))).trans h1)).trans (cE (fz_eq.trans (du (t:=.fr) (eC (t:=.nw) (ds:=(o4 M hs (gN mk names)).map cC) ?_) rfl)))
 unfold o4
 rw [bD]
 have ow5:l6 (fzL (LL (names,hs,x5)) [4]) [5]=true:=by
  rcases h6 with h6 | ⟨n,h6⟩
  ·have h6:x5=none:=h6
   rw [h6]; rfl
  ·have h6:x5=some ⟨.fr,nD n⟩:=h6
   rw [h6]; rfl
 refine eh (ds:=hs) (en:=nD) ow5 (gK (t:=.fr) rfl (by intro q; cases q)) (fun h hh=>⟨[some ⟨.bo,d⟩,some ⟨.bo,.lst (o.map nD)⟩,some ⟨.bo,.dic false mk⟩,some ⟨.ow,.dic false names⟩,some ⟨.fr,.lst (hs.map nD)⟩,some ⟨.fr,nD h⟩,none],.fr,rfl,?_,.inl rfl⟩) (by omega)
 obtain ⟨i,i1,i2⟩:=dT hh
 have hho:h∈o:=by rw [← i2]; exact h2.mem i1
 exact nK hM hL hB hd h2 m2 h3 hho (td:=.bo) (tn:=.ow) (tm:=.bo) rfl rfl rfl (fun c=>[some ⟨.bo,d⟩,some ⟨.bo,.lst (o.map nD)⟩,some ⟨.bo,.dic false mk⟩,some ⟨.ow,.dic false names⟩,some ⟨.fr,.lst (hs.map nD)⟩,some ⟨.fr,nD h⟩,some ⟨.fr,nD c⟩]) (fun c=>rfl) (fun c=>rfl) (fun c=>rfl) (fun c=>rfl)

def qL (M:Mach) (μ:Nat→D) (a:Nat):D:=.tup [μ a,.tup ((M.gos a).map μ)]
theorem tz (hM:MOk L M) (hB:Bfs L M s o) {μ:Nat→D} {k:Nat} (hμ:∀ a∈o,∀ b∈o,(μ a=μ b↔jv L M M k a b)):∀ a∈o,∀ b∈o,(qL M μ a=qL M μ b↔jv L M M (k+1) a b):=fun a ha b hb=>by
 have la:=(hM a (hB.lt a ha)).2.1
 have lb:=(hM b (hB.lt b hb)).2.1
 have get:∀ (X:List Nat) (c:Nat) (hc:c < X.length),(X.map μ)[c]'(by rw [ac]; exact hc)=μ (X.getD c 0):=fun X c hc=>by
  rw [List.getElem_map,List.getD,ah hc]
  rfl
 constructor
 ·intro e
  have e:=D.tup.inj e
  injection e with e1 e2
  injection e2 with e2 _
  have e2:=D.tup.inj e2
  refine ⟨l9 ((hμ a ha b hb).mp e1),fun c hc=>(hμ _ (hB.cl a ha c hc) _ (hB.cl b hb c hc)).mp ?_⟩
  show μ ((M.gos a).getD c 0)=μ ((M.gos b).getD c 0)
  rw [← get _ _ (by omega),← get _ _ (by omega)]
  exact List.getElem_of_eq e2 _
 ·intro e
  have e1:=(hμ a ha b hb).mpr (fE e)
  have e2:(M.gos a).map μ=(M.gos b).map μ:=by
   apply List.ext_getElem (by rw [ac,ac,la,lb])
   intro c h1 h2
   rw [ac] at h1 h2
   rw [get _ _ h1,get _ _ h2]
   exact (hμ _ (hB.cl a ha c (by omega)) _ (hB.cl b hb c (by omega))).mpr (e.2 c (by omega))
  unfold qL
  rw [e1,e2]
theorem vJ {μ:Nat→D} {a:Nat} (h:D.kd 1 (μ a)) (hg:∀ c∈M.gos a,D.kd 1 (μ c)):D.isKey true (qL M μ a)=true:=by
 refine me (n:=3) (jH fun x hx=>?_) (by decide)
 rcases ax.mp hx with rfl | hx
 ·obtain ⟨k,h1,h2⟩:=h
  exact ⟨k,h1,by omega⟩
 rcases ax.mp hx with rfl | hx
 ·refine jH fun y hy=>?_
  obtain ⟨c,hc,rfl⟩:=aP.mp hy
  exact hg c hc
 ·cases hx
theorem Known.again {κ:Nat→D} {hs:List Nat} {kn:List (D × D)} {o:List Nat} (h:Known κ hs kn) (hH:Hds κ o hs) {x i:Nat} (hi:i < hs.length) (hx:κ (hs.getD i 0)=κ x):Known κ hs (D.put kn (κ x) (nD i)) where
 len:=by
  rw [jn,ap (iV h ⟨i,hi,hx⟩),h.len]
 lk:=fun j hj=>by
  rw [dB]
  by_cases e:κ (hs.getD j 0)=κ x
  ·rw [ap e]
   have:=hH.ne j i hj hi (e.trans hx.symm)
   rw [this]
  ·rw [av e]
   exact h.lk j hj
 on:=fun d hd=>by
  rw [dB] at hd
  by_cases e:d=κ x
  ·exact ⟨i,hi,e.trans hx.symm⟩
  ·rw [av e] at hd
   exact h.on d hd

theorem mn (hM:MOk L M) (hL:L≤1000) (hz:M.length≤100000) (hd:dU d M) (hB:Bfs L M s o) {mk:List (D × D)} {μ:Nat→D} (hl:∀ a∈o,D.look mk (nD a)=some (μ a)) (hk:∀ a∈o,D.kd 1 (μ a)) {tm:Tag} {at_ many:Nat} {g:Bool} {x7:Option Nat} (x10 x11:Option Sl) :
  ∃ hs mk1 ν kn y10 y11,Nums (qL M μ) o hs mk1 ν∧kn.length=hs.length∧cy [cb ms] [] ms (.loop (.n 10) (.it (.v 2)) #v[.set (.n 11) (.tup #v[.ix (.v 3) (.v 10),.bi .tuple #v[.comp [7] (.n 7) (.it (.ix (.ix (.v 0) (.v 10)) (.ki 1))) .nil (.ix (.v 3) (.v 7))]]),.sub 8 (.v 11) (.mt .get2 (.v 8) #v[.v 11,.bi .len #v[.v 8]]),.sub 9 (.v 10) (.ix (.v 8) (.v 11))])
   [some ⟨.bo,d⟩,some ⟨.fr,nD s⟩,some ⟨.fr,.lst (o.map nD)⟩,some ⟨tm,.dic false mk⟩,some ⟨.fr,nD at_⟩,some ⟨.fr,nD many⟩,some ⟨.fr,.bl g⟩,x7.map fun n=>⟨.fr,nD n⟩,some ⟨.ow,.dic true []⟩,some ⟨.ow,.dic false []⟩,x10,x11] [] =
   .ok (.nx [some ⟨.bo,d⟩,some ⟨.fr,nD s⟩,some ⟨.fr,.lst (o.map nD)⟩,some ⟨tm,.dic false mk⟩,some ⟨.fr,nD at_⟩,some ⟨.fr,nD many⟩,some ⟨.fr,.bl g⟩,x7.map fun n=>⟨.fr,nD n⟩,some ⟨.ow,.dic true kn⟩,some ⟨.ow,.dic false mk1⟩,y10,y11] []):=by
 have big:=sizeLine_eq
 have ol:=hB.len
 let κ:Nat→D:=qL M μ
 let LL:(List (D × D) × List (D × D) × Option Sl × Option Sl)→Lc:=fun t=>[some ⟨.bo,d⟩,some ⟨.fr,nD s⟩,some ⟨.fr,.lst (o.map nD)⟩,some ⟨tm,.dic false mk⟩,some ⟨.fr,nD at_⟩,some ⟨.fr,nD many⟩,some ⟨.fr,.bl g⟩,x7.map fun n=>⟨.fr,nD n⟩,some ⟨.ow,.dic true t.1⟩,some ⟨.ow,.dic false t.2.1⟩,t.2.2.1,t.2.2.2]
 obtain ⟨t',h1,hs,h2,h3,h4,h5⟩:=dC (body:=fun d l s=>match T.put (.n 10) d l with | some l1=>cy [cb ms] [] ms #v[.set (.n 11) (.tup #v[.ix (.v 3) (.v 10),.bi .tuple #v[.comp [7] (.n 7) (.it (.ix (.ix (.v 0) (.v 10)) (.ki 1))) .nil (.ix (.v 3) (.v 7))]]),.sub 8 (.v 11) (.mt .get2 (.v 8) #v[.v 11,.bi .len #v[.v 8]]),.sub 9 (.v 10) (.ix (.v 8) (.v 11))] l1 s | none=>.no) nD LL
  (fun pr t=>∃ hs,Hds κ pr hs∧Known κ hs t.1∧(∀ a∈pr,∃ i,i < hs.length∧κ (hs.getD i 0)=κ a∧D.look t.2.1 (nD a)=some (nD i))∧t.2.1.length≤pr.length) o (fun pr x r t hx ⟨hs,i1,i2,i3,i4⟩=>by
   have hxo:x∈o:=by rw [hx]; exact am _ aj
   have hxl:=hB.lt x hxo
   have hgl:=(hM x hxl).2.1
   have hsl:=i1.len
   have hpl:pr.length < o.length:=by rw [hx,ae,aB]; omega
   have kz:t.1.length < sizeLine:=by rw [i2.len]; omega
   have mz:t.2.1.length < sizeLine:=by omega
   have hky:D.isKey true (κ x)=true:=vJ (hk x hxo) fun c hc=>hk c (mm hM hB hxo c hc)
   have e11:cy [cb ms] [] ms (.set (.n 11) (.tup #v[.ix (.v 3) (.v 10),.bi .tuple #v[.comp [7] (.n 7) (.it (.ix (.ix (.v 0) (.v 10)) (.ki 1))) .nil (.ix (.v 3) (.v 7))]])) (LL (t.1,t.2.1,some ⟨.fr,nD x⟩,t.2.2.2)) []=.ok (.nx (LL (t.1,t.2.1,some ⟨.fr,nD x⟩,some ⟨.fr,κ x⟩)) []):=by
    refine cx (t:=.fr) (d:=κ x) (gL (df (d:=.dic false mk) (d2:=nD x) (t:=tm) (t2:=.fr) (s1:=[]) (s2:=[]) rfl rfl (fQ (cH _) (hl x hxo))) (eC (t:=.nw) (ds:=(M.gos x).map μ) ?_)) (.inl rfl) rfl
    have ow7:l6 (LL (t.1,t.2.1,some ⟨.fr,nD x⟩,t.2.2.2)) [7]=true:=by cases x7 <;> rfl
    refine eh (ds:=M.gos x) (en:=nD) ow7 (ie (t:=.fr) (ii hd hxl (t:=.bo) (t2:=.fr) rfl rfl) (by intro q; cases q)) (fun c hc=>⟨[some ⟨.bo,d⟩,some ⟨.fr,nD s⟩,some ⟨.fr,.lst (o.map nD)⟩,some ⟨tm,.dic false mk⟩,some ⟨.fr,nD at_⟩,some ⟨.fr,nD many⟩,some ⟨.fr,.bl g⟩,some ⟨.fr,nD c⟩,some ⟨.ow,.dic true t.1⟩,some ⟨.ow,.dic false t.2.1⟩,some ⟨.fr,nD x⟩,t.2.2.2],.fr,rfl,?_,.inl rfl⟩) (by omega)
    exact df (d:=.dic false mk) (d2:=nD c) (t:=tm) (t2:=.fr) (s1:=[]) (s2:=[]) rfl rfl (fQ (cH _) (hl c (mm hM hB hxo c hc)))
   have get:∀ v,(D.look t.1 (κ x)).getD (nD t.1.length)=v→b7 [cb ms] [] (.mt .get2 (.v 8) #v[.v 11,.bi .len #v[.v 8]]) (LL (t.1,t.2.1,some ⟨.fr,nD x⟩,some ⟨.fr,κ x⟩)) []=.ok (v,.fr,[]):=fun v hv=>by
    show (ju [cb ms] [] #v[.v 11,.bi .len #v[.v 8]] (LL (t.1,t.2.1,some ⟨.fr,nD x⟩,some ⟨.fr,κ x⟩)) []).bind (fun (ds,s2)=>MI.run .get2 (.dic true t.1) ds s2)=_
    have e:ju [cb ms] [] #v[.v 11,.bi .len #v[.v 8]] (LL (t.1,t.2.1,some ⟨.fr,nD x⟩,some ⟨.fr,κ x⟩)) []=.ok ([κ x,nD t.1.length],[]):=by
     simp! [LL]
    rw [e,cN]
    show (if D.isKey true (κ x)=true then cg ((D.look t.1 (κ x)).getD (nD t.1.length)) [] else .no)=_
    rw [ap hky,hv]
    rfl
   have fin:∀ (i:Nat) (hs':List Nat),(D.look t.1 (κ x)).getD (nD t.1.length)=nD i→Hds κ (pr++[x]) hs'→Known κ hs' (D.put t.1 (κ x) (nD i))→i < hs'.length→κ (hs'.getD i 0)=κ x→(∀ a∈pr,∃ i,i < hs'.length∧κ (hs'.getD i 0)=κ a∧D.look t.2.1 (nD a)=some (nD i)) →
     ∃ t',cy [cb ms] [] ms #v[.set (.n 11) (.tup #v[.ix (.v 3) (.v 10),.bi .tuple #v[.comp [7] (.n 7) (.it (.ix (.ix (.v 0) (.v 10)) (.ki 1))) .nil (.ix (.v 3) (.v 7))]]),.sub 8 (.v 11) (.mt .get2 (.v 8) #v[.v 11,.bi .len #v[.v 8]]),.sub 9 (.v 10) (.ix (.v 8) (.v 11))] (LL (t.1,t.2.1,some ⟨.fr,nD x⟩,t.2.2.2)) []=.ok (.nx (LL t') []) ∧
      ∃ hs,Hds κ (pr++[x]) hs∧Known κ hs t'.1∧(∀ a∈pr++[x],∃ i,i < hs.length∧κ (hs.getD i 0)=κ a∧D.look t'.2.1 (nD a)=some (nD i))∧t'.2.1.length≤(pr++[x]).length:=fun i hs' g1 g2 g3 g4 g5 g6=>by
    have lk:=g3.lk i g4
    rw [g5] at lk
    refine ⟨(D.put t.1 (κ x) (nD i),D.put t.2.1 (nD x) (nD i),some ⟨.fr,nD x⟩,some ⟨.fr,κ x⟩),(b6 e11).trans ((b6 (f9 (t:=.fr) (t2:=.fr) (s1:=[]) (s2:=[]) (y:=nD i) (d:=κ x) (get _ g1) (.inl rfl) rfl rfl (.inl rfl) (eE hky kz))).trans ((b6 (f9 (t:=.fr) (t2:=.fr) (s1:=[]) (s2:=[]) (y:=nD i) (d:=nD x) (df (d:=.dic true (D.put t.1 (κ x) (nD i))) (d2:=κ x) (t:=.ow) (t2:=.fr) (s1:=[]) (s2:=[]) rfl rfl (fQ hky lk)) (.inl rfl) rfl rfl (.inl rfl) (eE (cH _) mz))).trans cn)),hs',g2,g3,fun a ha=>?_,?_⟩
    ·show ∃ i,i < hs'.length∧κ (hs'.getD i 0)=κ a∧D.look (D.put t.2.1 (nD x) (nD _)) (nD a)=some (nD i)
     rw [dB]
     by_cases e:a=x
     ·subst e
      exact ⟨i,g4,g5,ap rfl⟩
     ·rcases aM.mp ha with q | q
      ·rw [av fun q=>e (fg q)]
       exact g6 a q
      ·exact absurd (ak.mp q) e
    ·show (D.put t.2.1 (nD x) (nD i)).length≤_
     have:=md t.2.1 (nD x) (nD i)
     rw [ae,aC]
     omega
   by_cases hc:∃ i,i < hs.length∧κ (hs.getD i 0)=κ x
   ·have hc':=hc
    obtain ⟨i,c1,c2⟩:=hc
    have lkx:D.look t.1 (κ x)=some (nD i):=by rw [← c2]; exact i2.lk i c1
    exact fin i hs (by rw [lkx]; rfl) (i1.old hc') (i2.again i1 c1 c2) c1 c2 i3
   ·have lkx:=iU i2 hc
    refine fin hs.length (hs++[x]) (by rw [lkx,← i2.len]; rfl) (i1.new hc) (by have:=i2.new hc; rw [i2.len] at this; exact this) (by simp) (by rw [cq,av (bF _),ap rfl]) fun a ha=>?_
    obtain ⟨i,z1,z2,z3⟩:=i3 a ha
    exact ⟨i,by rw [ae]; omega,by rw [cq,ap z1]; exact z2,z3⟩) ([],[],x10,x11) ⟨[],Hds.nil,jI _,(by intro a ha; cases ha),aA _⟩
 let ν:Nat→Nat:=fun a=>match D.look t'.2.1 (nD a) with | some (.int i)=>i.toNat | _=>0
 have hν:∀ a∈o,∃ i,i < hs.length∧κ (hs.getD i 0)=κ a∧D.look t'.2.1 (nD a)=some (nD i)∧ν a=i:=fun a ha=>by
  obtain ⟨i,z1,z2,z3⟩:=h4 a ha
  refine ⟨i,z1,z2,z3,?_⟩
  show (match D.look t'.2.1 (nD a) with | some (.int i)=>i.toNat | _=>0)=i
  rw [z3]
  exact ba i
 refine ⟨hs,t'.2.1,ν,t'.1,t'.2.2.1,t'.2.2.2,⟨h2,fun a ha=>?_,fun a ha=>?_,fun a ha=>?_,h5⟩,h3.len,(dG (gK (t:=.fr) rfl (by intro q; cases q))).trans h1⟩
 ·obtain ⟨i,z1,z2,z3,z4⟩:=hν a ha
  rw [z4]
  exact z3
 ·obtain ⟨i,z1,z2,z3,z4⟩:=hν a ha
  rw [z4]
  exact z1
 ·obtain ⟨i,z1,z2,z3,z4⟩:=hν a ha
  rw [z4]
  exact z2
end
section
variable {fs:List Fn} {gs:List D} {ms:Str→Str→Option Bool} {M:Mach} {L s:Nat} {o:List Nat} {d:D}
theorem nM (hM:MOk L M) (hz:M.length≤100000) (hd:dU d M) (hs:s < M.length):∃ o kvs at_ x7,Bfs L M s o∧SD kvs o (fun a=>.tup ((M.fst a).map nD)) ∧
  cy [cb ms] [] ms (.whl (.cmp .lt (.v 4) (.bi .len #v[.v 2])) #v[.loop (.n 7) (.it (.ix (.ix (.v 0) (.ix (.v 2) (.v 4))) (.ki 1))) #v[.ife (.cmp .notin (.v 7) (.v 3)) #v[.sub 3 (.v 7) (.ix (.ix (.v 0) (.v 7)) (.ki 0)),.app 2 (.v 7)] .nil],.aug 4 (.ki 1)])
   [some ⟨.bo,d⟩,some ⟨.fr,nD s⟩,some ⟨.ow,.lst [nD s]⟩,some ⟨.ow,.dic false [(nD s,.tup ((M.fst s).map nD))]⟩,some ⟨.fr,nD 0⟩,none,none,none,none,none,none,none] [] =
   .ok (.nx [some ⟨.bo,d⟩,some ⟨.fr,nD s⟩,some ⟨.ow,.lst (o.map nD)⟩,some ⟨.ow,.dic false kvs⟩,some ⟨.fr,nD at_⟩,none,none,(x7:Option Nat).map fun n=>⟨.fr,nD n⟩,none,none,none,none] []):=by
 have big:=sizeLine_eq
 let g:Nat→D:=fun a=>.tup ((M.fst a).map nD)
 let LL:(List (D × D) × List Nat × Nat × Option Nat)→Lc:=fun t=>[some ⟨.bo,d⟩,some ⟨.fr,nD s⟩,some ⟨.ow,.lst (t.2.1.map nD)⟩,some ⟨.ow,.dic false t.1⟩,some ⟨.fr,nD t.2.2.1⟩,none,none,t.2.2.2.map fun n=>⟨.fr,nD n⟩,none,none,none,none]
 have hlen:∀ t,b7 [cb ms] [] (.bi .len #v[.v 2]) (LL t) []=.ok (.int (t.2.1.length:Int),.fr,[]):=fun t=>by
  simp! [LL]
 have hin:∀ t:(List (D × D) × List Nat × Nat × Option Nat),BInv L M s t.2.1 t.2.2.1 0→SD t.1 t.2.1 g→t.2.2.1 < t.2.1.length→∃ t',cy [cb ms] [] ms (.loop (.n 7) (.it (.ix (.ix (.v 0) (.ix (.v 2) (.v 4))) (.ki 1))) #v[.ife (.cmp .notin (.v 7) (.v 3)) #v[.sub 3 (.v 7) (.ix (.ix (.v 0) (.v 7)) (.ki 0)),.app 2 (.v 7)] .nil]) (LL t) []=.ok (.nx (LL t') [])∧BInv L M s t'.2.1 t'.2.2.1 L∧SD t'.1 t'.2.1 g∧t'.2.2.1=t.2.2.1∧t'.2.2.1 < t'.2.1.length:=fun t hB hS ha=>by
  have hao:t.2.1.getD t.2.2.1 0∈t.2.1:=dA ha
  generalize hA:t.2.1.getD t.2.2.1 0=A at hao
  have hAl:=hB.lt _ hao
  have hgl:=(hM A hAl).2.1
  have hit:gq [cb ms] [] (.it (.ix (.ix (.v 0) (.ix (.v 2) (.v 4))) (.ki 1))) (LL t) []=.ok ((M.gos A).map nD,[]):=by
   refine ie (t:=.fr) (ii hd hAl (t:=.bo) (t2:=.fr) rfl (df (d:=.lst (t.2.1.map nD)) (d2:=nD t.2.2.1) (t:=.ow) (t2:=.fr) (s1:=[]) (s2:=[]) rfl rfl ?_)) (by intro q; cases q)
   rw [← hA]
   exact mh ha []
  obtain ⟨t',h1,h2,h3,h4,h5⟩:=dC (body:=fun d l s=>match T.put (.n 7) d l with | some l1=>cy [cb ms] [] ms #v[.ife (.cmp .notin (.v 7) (.v 3)) #v[.sub 3 (.v 7) (.ix (.ix (.v 0) (.v 7)) (.ki 0)),.app 2 (.v 7)] .nil] l1 s | none=>.no)
   nD LL (fun pr t'=>BInv L M s t'.2.1 t.2.2.1 pr.length∧SD t'.1 t'.2.1 g∧t'.2.2.1=t.2.2.1∧t'.2.1.getD t.2.2.1 0=A∧t.2.2.1 < t'.2.1.length) (M.gos A) (fun pr x r t' hx ⟨i1,i2,i3,i4,i5⟩=>by
    have hpl:pr.length < L:=by
     have:=bj List.length hx
     rw [ae,aB] at this
     omega
    have ex:M.nx A pr.length=x:=by
     show (M.gos A).getD pr.length 0=x
     rw [hx,List.getD,aS (aA _),bH]
     rfl
    have hlp:(pr++[x]).length=pr.length+1:=by rw [ae,aC]
    rw [hlp]
    have ex2:M.nx (t'.2.1.getD t.2.2.1 0) pr.length=x:=by rw [i4]; exact ex
    have hxl:x < M.length:=by rw [← ex]; exact hM.nx_lt hAl hpl
    have l1:=i1.len
    by_cases h:x∈t'.2.1
    ·refine ⟨(t'.1,t'.2.1,t'.2.2.1,some x),(b6 ((dc (s1:=[]) (cB (t:=.fr) (cI (d:=nD x) (d2:=.dic false t'.1) (t:=.fr) (t2:=.ow) (s1:=[]) (s2:=[]) rfl rfl ?_))).trans cn)).trans cn,i1.old hpl (by rw [ex2]; exact h),i2,i3,i4,i5⟩
     rw [dM (cH _),i2.1,ap h]
     rfl
    ·have hk1:t'.1.length < sizeLine:=by have:=i2.2; omega
     have hk2:(t'.2.1.map nD).length < sizeLine:=by rw [ac]; omega
     refine ⟨(D.put t'.1 (nD x) (g x),t'.2.1++[x],t'.2.2.1,some x),(b6 ((fj (s1:=[]) (cB (t:=.fr) (cI (d:=nD x) (d2:=.dic false t'.1) (t:=.fr) (t2:=.ow) (s1:=[]) (s2:=[]) rfl rfl ?_))).trans ((b6 (f9 (t:=.fr) (t2:=.fr) (s1:=[]) (s2:=[]) (y:=g x) (d:=nD x) (mj hd hxl (t:=.bo) (t2:=.fr) rfl rfl) (.inl rfl) rfl rfl (.inl rfl) (eE (cH _) hk1))).trans ((b6 (app_ok (d:=nD x) (t:=.fr) (s1:=[]) rfl rfl (.inl rfl) hk2)).trans cn)))).trans ?_,?_,i2.put,i3,?_,by rw [ae]; omega⟩
     ·rw [dM (cH _),i2.1,av h]
      rfl
     ·show R.ok (Out.nx [some ⟨.bo,d⟩,some ⟨.fr,nD s⟩,some ⟨.ow,.lst (t'.2.1.map nD++[nD x])⟩,some ⟨.ow,.dic false (D.put t'.1 (nD x) (g x))⟩,some ⟨.fr,nD t'.2.2.1⟩,none,none,some ⟨.fr,nD x⟩,none,none,none,none] [])=R.ok (Out.nx [some ⟨.bo,d⟩,some ⟨.fr,nD s⟩,some ⟨.ow,.lst ((t'.2.1++[x]).map nD)⟩,some ⟨.ow,.dic false (D.put t'.1 (nD x) (g x))⟩,some ⟨.fr,nD t'.2.2.1⟩,none,none,some ⟨.fr,nD x⟩,none,none,none,none] [])
      rw [eG]
     ·have:=i1.new hM i5 hpl (by rw [ex2]; exact h)
      rw [ex2] at this
      exact this
     ·rw [cq,ap i5]
      exact i4) t ⟨hB,hS,rfl,hA,ha⟩
  refine ⟨t',(dG hit).trans h1,?_,h3,h4,by rw [h4]; exact h5.2⟩
  rw [h4]
  rw [hgl] at h2
  exact h2
 have hw:=kT (cond:=dE [cb ms] [] (.cmp .lt (.v 4) (.bi .len #v[.v 2]))) (body:=cy [cb ms] [] ms #v[.loop (.n 7) (.it (.ix (.ix (.v 0) (.ix (.v 2) (.v 4))) (.ki 1))) #v[.ife (.cmp .notin (.v 7) (.v 3)) #v[.sub 3 (.v 7) (.ix (.ix (.v 0) (.v 7)) (.ki 0)),.app 2 (.v 7)] .nil],.aug 4 (.ki 1)]) LL (fun t=>decide (t.2.2.1 < t.2.1.length)) (fun t=>BInv L M s t.2.1 t.2.2.1 0∧SD t.1 t.2.1 g) (fun t=>M.length - t.2.2.1) ⟨"",none⟩ False
  (fun t ht=>by
   refine cB (t:=.fr) (cI (d:=nD t.2.2.1) (t:=.fr) (s1:=[]) rfl (hlen t) (nF ?_))
   exact bu.mpr (by omega))
  (fun t ⟨hB,hS⟩ hc=>by
   have hc:t.2.2.1 < t.2.1.length:=aY hc
   obtain ⟨t',h1,h2,h3,h4,h5⟩:=hin t hB hS hc
   have l1:=h2.len
   refine .inl ⟨(t'.1,t'.2.1,t'.2.2.1+1,t'.2.2.2),(b6 h1).trans ((b6 (s1:=[]) (l1:=LL (t'.1,t'.2.1,t'.2.2.1+1,t'.2.2.2)) ?_).trans cn),⟨h2.row h5,h3⟩,?_⟩
   ·simp! [LL,nD,Int.natCast_add,Int.natCast_one]
   ·show M.length - (t'.2.2.1+1) < M.length - t.2.2.1
    omega)
  ([(nD s,g s)],[s],0,none) ⟨BInv.start hs,SD.one s g⟩
 rcases hw with ⟨t',h1,⟨h2,h3⟩,h4⟩ | ⟨_,h⟩
 ·have h4:¬ t'.2.2.1 < t'.2.1.length:=bI h4
  have h5:=h2.al
  exact ⟨t'.2.1,t'.1,t'.2.2.1,t'.2.2.2,h2.fin (by omega),h3,whl_eq.trans h1⟩
 ·exact h.elim
theorem gO (hM:MOk L M) (hL:L≤1000) (hz:M.length≤100000) (hd:dU d M) (hs:s < M.length):∃ F,Form L F∧Eqv L F 0 M s∧F.length≤M.length∧(cJ ms).run [d,nD s]=.ok (.tup (F.map cC),.fr):=by
 have big:=sizeLine_eq
 obtain ⟨o,kvs,at_,x7,hB,hS,c1⟩:=nM (ms:=ms) hM hz hd hs
 have ol:=hB.len
 have hso:s∈o:=aZ hB.hd
 let LL:(Bool × List (D × D) × Nat × Bool × Option Sl × Option Sl × Option Sl × Option Sl)→Lc:=fun t=>[some ⟨.bo,d⟩,some ⟨.fr,nD s⟩,some ⟨if t.1=true then .ow else .fr,.lst (o.map nD)⟩,some ⟨if t.1=true then .ow else .fr,.dic false t.2.1⟩,some ⟨.fr,nD at_⟩,some ⟨.fr,nD t.2.2.1⟩,some ⟨.fr,.bl t.2.2.2.1⟩,x7.map fun n=>⟨.fr,nD n⟩,t.2.2.2.2.1,t.2.2.2.2.2.1,t.2.2.2.2.2.2.1,t.2.2.2.2.2.2.2]
 let I:(Bool × List (D × D) × Nat × Bool × Option Sl × Option Sl × Option Sl × Option Sl)→Prop:=fun t=>∃ (k:Nat) (μ:Nat→D) (hs:List Nat),(∀ a∈o,D.look t.2.1 (nD a)=some (μ a))∧(∀ a∈o,D.kd 1 (μ a))∧(∀ a∈o,∀ b∈o,(μ a=μ b↔jv L M M k a b))∧Hds μ o hs∧(t.2.2.1=hs.length∨t.2.2.1=0) ∧
  (t.2.2.2.1=false→∃ ν:Nat→Nat,(∀ a∈o,μ a=nD (ν a))∧∀ a∈o,∀ b∈o,(ν a=ν b↔Eqv L M a M b))
 have hμ0:∀ a∈o,D.look kvs (nD a)=some (.tup ((M.fst a).map nD)):=fun a ha=>by rw [hS.1,ap ha]
 obtain ⟨hs0,H0⟩:=th (fun a=>D.tup ((M.fst a).map nD)) o
 have hw:=kT (cond:=dE [cb ms] [] (.v 6)) (body:=cy [cb ms] [] ms #v[.own 8 (.dic true .nil .nil),.own 9 (.dic false .nil .nil),.fz [2] (.loop (.n 10) (.it (.v 2)) #v[.set (.n 11) (.tup #v[.ix (.v 3) (.v 10),.bi .tuple #v[.comp [7] (.n 7) (.it (.ix (.ix (.v 0) (.v 10)) (.ki 1))) .nil (.ix (.v 3) (.v 7))]]),.sub 8 (.v 11) (.mt .get2 (.v 8) #v[.v 11,.bi .len #v[.v 8]]),.sub 9 (.v 10) (.ix (.v 8) (.v 11))]),.set (.n 6) (.cmp .gt (.bi .len #v[.v 8]) (.v 5)),.set (.n 5) (.bi .len #v[.v 8]),.fz [9] (.set (.n 3) (.v 9))]) LL (fun t=>t.2.2.2.1) I (fun t=>if t.2.2.2.1=true then o.length+1 - t.2.2.1 else 0) ⟨"",none⟩ False
  (fun t _=>cB (t:=.fr) rfl)
  (fun t ⟨k,μ,hs,i1,i2,i3,i4,i5,i6⟩ hc=>by
   have hc:t.2.2.2.1=true:=hc
   obtain ⟨hs1,mk1,ν,kn,y10,y11,N,kl,c2⟩:=mn (ms:=ms) (s:=s) hM hL hz hd hB i1 i2 (tm:=if t.1=true then .ow else .fr) (at_:=at_) (many:=t.2.2.1) (g:=t.2.2.2.1) (x7:=x7) t.2.2.2.2.2.2.1 t.2.2.2.2.2.2.2
   have hν:∀ a∈o,∀ b∈o,(ν a=ν b↔jv L M M (k+1) a b):=fun a ha b hb=>(N.iff a ha b hb).trans (tz hM hB i3 a ha b hb)
   have fine:∀ a∈o,∀ b∈o,ν a=ν b→μ a=μ b:=fun a ha b hb e=>(i3 a ha b hb).mpr (fE ((hν a ha b hb).mp e))
   have hle:=i4.le N.hds fine
   have hl1:=N.hd.len
   have hpos:0 < hs1.length:=Nat.lt_of_le_of_lt (aV _) (N.lt s hso)
   have ekn:∀ l:Lc,l[8]?=some (some ⟨.ow,.dic true kn⟩)→b7 [cb ms] [] (.bi .len #v[.v 8]) l []=.ok (nD hs1.length,.fr,[]):=fun l hl=>by
    have e:b7 [cb ms] [] (.v 8) l []=.ok (.dic true kn,.ow,[]):=by
     show (match l[8]? with | some (some ⟨k,d⟩)=>R.ok (d,k,[]) | _=>.no)=_
     rw [hl]
    show (ft [cb ms] [] #v[.v 8] [] l []).bind _=_
    rw [cz e (.inl rfl) rfl,cN]
    show cg (.int (kn.length:Int)) []=_
    rw [kl]
    rfl
   refine .inl ⟨(false,mk1,hs1.length,decide (t.2.2.1 < hs1.length),some ⟨.ow,.dic true kn⟩,some ⟨.fr,.dic false mk1⟩,y10,y11),?_,⟨k+1,fun a=>nD (ν a),hs1,N.lk,fun a _=>o5 1 _,fun a ha b hb=>⟨fun e=>(hν a ha b hb).mp (fg e),fun e=>by show nD (ν a)=nD (ν b); rw [(hν a ha b hb).mpr e]⟩,N.hds.congr fun a _ b _=>⟨fun e=>by show nD (ν a)=nD (ν b); rw [e],fun e=>fg e⟩,.inl rfl,fun hg=>⟨ν,fun _ _=>rfl,?_⟩⟩,?_⟩
   ·have f2:fzL ((((LL t).set 8 (some ⟨.ow,.dic true []⟩)).set 9 (some ⟨.ow,.dic false []⟩))) [2]=[some ⟨.bo,d⟩,some ⟨.fr,nD s⟩,some ⟨.fr,.lst (o.map nD)⟩,some ⟨if t.1=true then .ow else .fr,.dic false t.2.1⟩,some ⟨.fr,nD at_⟩,some ⟨.fr,nD t.2.2.1⟩,some ⟨.fr,.bl t.2.2.2.1⟩,x7.map fun n=>⟨.fr,nD n⟩,some ⟨.ow,.dic true []⟩,some ⟨.ow,.dic false []⟩,t.2.2.2.2.2.2.1,t.2.2.2.2.2.2.2]:=by
     obtain ⟨b,r⟩:=t
     cases b <;> rfl
    refine (b6 (cX (d:=.dic true []) rfl)).trans ((b6 (cX (d:=.dic false []) rfl)).trans ((b6 (fz_eq.trans ((bj (fun l=>cy [cb ms] [] ms _ l []) f2).trans c2))).trans ?_))
    refine (b6 (s1:=[]) (cx (t:=.fr) (d:=.bl (decide (t.2.2.1 < hs1.length))) (cI (ekn _ rfl) (d2:=nD t.2.2.1) (t2:=.fr) (s2:=[]) rfl (kS ?_)) (.inl rfl) rfl)).trans ?_
    ·exact bu.mpr (by omega)
    refine (b6 (s1:=[]) (cx (t:=.fr) (ekn _ rfl) (.inl rfl) rfl)).trans ?_
    exact (b6 (fz_eq.trans (cx (t:=.fr) rfl (.inl rfl) rfl))).trans cn
   ·have hg:¬ t.2.2.1 < hs1.length:=bI hg
    rcases i5 with i5 | i5
    ·have sm:=i4.same N.hds fine (by omega)
     have st:=p7 hB.cl fun a ha b hb e=>(hν a ha b hb).mp (sm a ha b hb ((i3 a ha b hb).mpr e))
     exact fun a ha b hb=>⟨fun e=>st a ha b hb (fE ((hν a ha b hb).mp e)),fun e=>(hν a ha b hb).mpr (e (k+1))⟩
    ·omega
   ·show (if decide (t.2.2.1 < hs1.length)=true then o.length+1 - hs1.length else 0) < if t.2.2.2.1=true then o.length+1 - t.2.2.1 else 0
    rw [ap hc]
    have hsl:=i4.len
    split
    ·rename_i z
     have:=aY z
     omega
    ·rcases i5 with i5 | i5 <;> omega)
  (true,kvs,0,true,none,none,none,none) ⟨0,fun a=>.tup ((M.fst a).map nD),hs0,hμ0,fun a _=>jo (n:=0) (fun n:Nat=>(n:Int)) _,fun a _ b _=>nH a b,H0,.inr rfl,fun h=>by cases h⟩
 rcases hw with ⟨t',w1,⟨k,μ,hs,i1,_,_,_,_,i6⟩,w2⟩ | ⟨_,h⟩
 ·obtain ⟨ν,n1,n2⟩:=i6 w2
  obtain ⟨F,f1,f2,f3,c3⟩:=nL (ms:=ms) hM hL hz hd hB (fun a ha=>by rw [i1 a ha,n1 a ha]) n2
  refine ⟨F,f1,f2,f3,cA (s:=[]) rfl ?_⟩
  have hfst:=mj (fs:=[cb ms]) (gs:=[]) (a:=.v 0) (b:=.v 1) (l:=[some ⟨.bo,d⟩,some ⟨.fr,nD s⟩,some ⟨.ow,.lst [nD s]⟩,none,none,none,none,none,none,none,none,none]) hd ‹s < M.length› (t:=.bo) (t2:=.fr) rfl rfl
  refine (b6 (l1:=[some ⟨.bo,d⟩,some ⟨.fr,nD s⟩,some ⟨.ow,.lst [nD s]⟩,none,none,none,none,none,none,none,none,none]) (s1:=[]) (cX (d:=.lst [nD s]) ?_)).trans ?_
  ·have:1≤sizeLine:=by omega
   simp! [this]
  refine (b6 (l1:=[some ⟨.bo,d⟩,some ⟨.fr,nD s⟩,some ⟨.ow,.lst [nD s]⟩,some ⟨.ow,.dic false [(nD s,.tup ((M.fst s).map nD))]⟩,none,none,none,none,none,none,none,none]) (s1:=[]) (cX (d:=.dic false [(nD s,.tup ((M.fst s).map nD))]) ?_)).trans ?_
  ·show R.noEr (cf (b7 [cb ms] [] (.v 1) _ []) fun x s1=>cf (b7 [cb ms] [] (.ix (.ix (.v 0) (.v 1)) (.ki 0)) _ s1) fun y s2=>if D.isKey false x=true then dY (.dic false [(x,y)]) s2 else .no)=_
   show R.noEr (cf (.ok (nD s,.fr,[])) fun x s1=>cf (b7 [cb ms] [] (.ix (.ix (.v 0) (.v 1)) (.ki 0)) _ s1) fun y s2=>if D.isKey false x=true then dY (.dic false [(x,y)]) s2 else .no)=_
   rw [fu,av (iD (.inl rfl)),hfst,fu,av (iD (.inl rfl)),ap (cH _)]
   rfl
  refine (b6 (l1:=[some ⟨.bo,d⟩,some ⟨.fr,nD s⟩,some ⟨.ow,.lst [nD s]⟩,some ⟨.ow,.dic false [(nD s,.tup ((M.fst s).map nD))]⟩,some ⟨.fr,nD 0⟩,none,none,none,none,none,none,none]) (s1:=[]) (cx (t:=.fr) rfl (.inl rfl) rfl)).trans ?_
  refine (b6 c1).trans ?_
  refine (b6 (l1:=[some ⟨.bo,d⟩,some ⟨.fr,nD s⟩,some ⟨.ow,.lst (o.map nD)⟩,some ⟨.ow,.dic false kvs⟩,some ⟨.fr,nD at_⟩,some ⟨.fr,nD 0⟩,none,x7.map fun n=>⟨.fr,nD n⟩,none,none,none,none]) (s1:=[]) (cx (t:=.fr) rfl (.inl rfl) rfl)).trans ?_
  refine (b6 (l1:=LL (true,kvs,0,true,none,none,none,none)) (s1:=[]) (cx (t:=.fr) rfl (.inl rfl) rfl)).trans ?_
  refine (b6 (whl_eq.trans w1)).trans (cE (du (t:=.fr) (cQ (s1:=[]) (ds:=[d,.lst (o.map nD),.dic false t'.2.1]) rfl (DT rfl rfl rfl (.inl rfl) (.inl rfl) (.inl rfl)) c3) rfl))
 ·exact h.elim
end
-- _law_cell(_law_script,_law_at): slots 0=_law_script 1=_law_at
def gc:S:=#v[.ife (.cmp .lt (.v 1) (.bi .len #v[.v 0]))
 #v[.ret (.ix (.v 0) (.v 1))]
 .nil,.ife (.cmp .eq (.bi .len #v[.v 0]) (.ki 0))
 #v[.ret (.bin .add (.bin .mul (.ki 29) (.v 1)) (.ki 5))]
 .nil,.ret (.bin .add (.bin .mod (.ix (.v 0) (.bin .mod (.v 1) (.bi .len #v[.v 0]))) (.ki 1000003)) (.bin .mul (.ki 103) (.v 1)))]
noncomputable def fq (ms:Str→Str→Option Bool):Fn:=.self [] [] ms gc [false,false] 2 2
theorem nN (ms:Str→Str→Option Bool):(fq ms).kp=[false,false]:=rfl
-- _law_letters(_law_script,_law_at): slots 0=_law_script 1=_law_at
def eN:S:=#v[.ret (.bin .add (.ki 2) (.bin .mod (.call 0 #v[.v 0,.v 1]) (.ki 4)))]
noncomputable def fy (ms:Str→Str→Option Bool):Fn:=.self [fq ms] [] ms eN [false,false] 2 2
-- _law_numbers(_law_cell_here,_law_many): slots 0=_law_cell_here 1=_law_many 2=_law_row 3=_law_rest 4=_law_seed
def eO:S:=#v[.own 2 (.lst .nil),.set (.n 3) (.bin .sub (.v 0) (.bin .pow (.ki 10) (.ki 18))),.whl (.and #v[.cmp .gt (.v 3) (.ki 0),.cmp .lt (.bi .len #v[.v 2]) (.v 1)])
 #v[.app 2 (.bin .mod (.v 3) (.ki 1009)),.set (.n 3) (.bin .fdiv (.v 3) (.ki 1009))],.set (.n 4) (.bin .mod (.v 0) (.ki 2147483629)),.whl (.cmp .lt (.bi .len #v[.v 2]) (.v 1))
 #v[.set (.n 4) (.bin .mod (.bin .add (.bin .add (.bin .mul (.v 4) (.ki 48271)) (.ki 9973)) (.bi .len #v[.v 2])) (.ki 2147483647)),.app 2 (.bin .mod (.bin .fdiv (.bin .mod (.bin .mul (.v 4) (.ki 39373)) (.ki 2147483629)) (.ki 11)) (.ki 1009))],.ret (.v 2)]
noncomputable def b9 (ms:Str→Str→Option Bool):Fn:=.self [] [] ms eO [false,false] 2 5
section
variable {ms:Str→Str→Option Bool}
theorem jr (xs:List Int) (a:Int) (h:0≤a):∃ c:Int,(fq ms).run [.arr (xs.map D.int),.int a]=.ok (.int c,.fr):=by
 obtain ⟨n,rfl⟩:=bh h
 have hn:(0:Int)≤n:=Int.natCast_nonneg n
 by_cases h1:n < xs.length
 ·have c1:(n:Int) < xs.length:=by omega
  refine ⟨_,cA (s:=[]) rfl (cE ((fj (s1:=[]) ?_).trans (cE (d:=.int (xs.getD n 0)) (s1:=[]) ?_)))⟩
  ·simp! [c1]
  ·simp! [sK _ _ h1]
 ·have c1:¬ (n:Int) < xs.length:=by omega
  by_cases h2:xs.length=0
  ·refine ⟨29*n+5,cA (s:=[]) rfl ((b6 ((dc (s1:=[]) ?_).trans cn)).trans (cE ((fj (s1:=[]) ?_).trans (cE ?_))))⟩
   ·simp! [c1]
   ·simp! [h2,Int.natCast_zero]
   ·simp! []
  ·have h3:0 < xs.length:=by omega
   have c2:¬ (xs.length:Int)=0:=by omega
   have c3:(0:Int) < xs.length:=by omega
   have h4:n % xs.length < xs.length:=Nat.mod_lt _ h3
   have e:(n:Int) % (xs.length:Int)=((n % xs.length:Nat):Int):=(Int.natCast_emod n xs.length).symm
   refine ⟨xs.getD (n % xs.length) 0 % 1000003+103*n,cA (s:=[]) rfl ((b6 ((dc (s1:=[]) ?_).trans cn)).trans ((b6 ((dc (s1:=[]) ?_).trans cn)).trans (cE ?_)))⟩
   ·simp! [c1]
   ·simp! [c2]
   ·simp! [c3,e,sK _ _ h4]
theorem nO (xs:List Int) (a:Int) (h:0≤a):∃ c:Int,(fy ms).run [.arr (xs.map D.int),.int a]=.ok (.int c,.fr)∧2≤c∧c≤5:=by
 obtain ⟨c,hc⟩:=jr (ms:=ms) xs a h
 refine ⟨2+c % 4,cA (s:=[]) rfl (cE ?_),by omega,by omega⟩
 simp! [nN,hc]

theorem jU (c:Int) (m:Nat) (hm:m < 1000000):∃ ns:List Int,(b9 ms).run [.int c,.int (m:Int)]=.ok (.lst (ns.map D.int),.nw)∧ns.length=m∧∀ x∈ns,0≤x∧x < 1009:=by
 have big:(1000000:Nat)≤sizeLine:=by rw [sizeLine_eq]; omega
 -- the first loop
 let L1:Int × List Int→Lc:=fun t=>[some ⟨.bo,.int c⟩,some ⟨.bo,.int (m:Int)⟩,some ⟨.ow,.lst (t.2.map D.int)⟩,some ⟨.fr,.int t.1⟩,none]
 obtain ⟨t1,w1,⟨i1,i2⟩,_⟩:=pU (cond:=dE [] [] (.and #v[.cmp .gt (.v 3) (.ki 0),.cmp .lt (.bi .len #v[.v 2]) (.v 1)]))
  (body:=cy [] [] ms #v[.app 2 (.bin .mod (.v 3) (.ki 1009)),.set (.n 3) (.bin .fdiv (.v 3) (.ki 1009))]) L1 (fun t=>decide (0 < t.1) && decide ((t.2.length:Int) < (m:Int))) (fun t=>(t.1 / 1009,t.2++[t.1 % 1009]))
  (fun t=>t.2.length≤m∧∀ x∈t.2,0≤x∧x < 1009) (fun t=>m - t.2.length) (fun t _=>by
   by_cases h:0 < t.1
   ·by_cases h2:(t.2.length:Int) < (m:Int)
    ·simp! [L1,h,h2,Bool.and_self]
    ·simp! [L1,h,h2,bT]
   ·simp! [L1,h,bU]) (fun t hi hc=>by
   simp only [ab,af] at hc
   have hl:t.2.length < m:=by omega
   have hz:t.2.length < sizeLine:=by omega
   refine ⟨?_,⟨by simp; omega,fun x hx=>?_⟩,by simp; omega⟩
   ·refine (b6 (l1:=[some ⟨.bo,.int c⟩,some ⟨.bo,.int (m:Int)⟩,some ⟨.ow,.lst ((t.2++[t.1 % 1009]).map D.int)⟩,some ⟨.fr,.int t.1⟩,none]) (s1:=[]) ?_).trans ((b6 (s1:=[]) ?_).trans cn)
    ·simp! [L1,hz,bf]
    ·simp! [L1]
   ·rcases aM.mp hx with h | h
    ·exact hi.2 x h
    ·rw [ak] at h
     omega) (c - 10 ^ 18,[]) ⟨aV _,by simp⟩
 -- the second
 let L2':Int × List Int→Lc:=fun t=>[some ⟨.bo,.int c⟩,some ⟨.bo,.int (m:Int)⟩,some ⟨.ow,.lst (t.2.map D.int)⟩,some ⟨.fr,.int t1.1⟩,some ⟨.fr,.int t.1⟩]
 obtain ⟨t2,w2,⟨j1,j2⟩,j3⟩:=pU (cond:=dE [] [] (.cmp .lt (.bi .len #v[.v 2]) (.v 1)))
  (body:=cy [] [] ms #v[.set (.n 4) (.bin .mod (.bin .add (.bin .add (.bin .mul (.v 4) (.ki 48271)) (.ki 9973)) (.bi .len #v[.v 2])) (.ki 2147483647)),.app 2 (.bin .mod (.bin .fdiv (.bin .mod (.bin .mul (.v 4) (.ki 39373)) (.ki 2147483629)) (.ki 11)) (.ki 1009))]) L2' (fun t=>decide ((t.2.length:Int) < (m:Int)))
  (fun t=>let z:=(t.1*48271+9973+t.2.length) % 2147483647; (z,t.2++[z*39373 % 2147483629 / 11 % 1009])) (fun t=>t.2.length≤m∧∀ x∈t.2,0≤x∧x < 1009) (fun t=>m - t.2.length) (fun t _=>by
   by_cases h2:(t.2.length:Int) < (m:Int)
   ·simp! [L2',h2]
   ·simp! [L2',h2]) (fun t hi hc=>by
   simp only [af] at hc
   have hl:t.2.length < m:=by omega
   have hz:t.2.length < sizeLine:=by omega
   refine ⟨?_,⟨by simp; omega,fun x hx=>?_⟩,by simp; omega⟩
   ·refine (b6 (l1:=[some ⟨.bo,.int c⟩,some ⟨.bo,.int (m:Int)⟩,some ⟨.ow,.lst (t.2.map D.int)⟩,some ⟨.fr,.int t1.1⟩,some ⟨.fr,.int ((t.1*48271+9973+t.2.length) % 2147483647)⟩]) (s1:=[]) ?_).trans ((b6 (s1:=[]) ?_).trans cn)
    ·simp! [L2']
    ·simp! [L2',hz,bf]
   ·rcases aM.mp hx with h | h
    ·exact hi.2 x h
    ·rw [ak] at h
     omega) (c % 2147483629,t1.2) ⟨i1,i2⟩
 refine ⟨t2.2,cA (s:=[]) rfl ?_,?_,j2⟩
 ·refine (b6 (l1:=[some ⟨.bo,.int c⟩,some ⟨.bo,.int (m:Int)⟩,some ⟨.ow,.lst []⟩,none,none]) (s1:=[]) ?_).trans ?_
  ·simp! [List.replicate]
   rfl
  refine (b6 (l1:=L1 (c - 10 ^ 18,[])) (s1:=[]) ?_).trans ?_
  ·simp! [L1]
  refine (b6 (whl_eq.trans w1)).trans ?_
  refine (b6 (l1:=L2' (c % 2147483629,t1.2)) (s1:=[]) ?_).trans ?_
  ·simp! [L1,L2']
  refine (b6 (whl_eq.trans w2)).trans (cE ?_)
  simp! [L2']
 ·simp only [decide_eq_false_iff_not] at j3
  omega
end
-- _law_coming(_law_letters_here,_law_cell_here,_law_most): slots 0=_law_letters_here 1=_law_cell_here 2=_law_most 3=_law_nums 4=_law_ahead 5=_law_ring 6=_law_pick
section
variable {ms:Str→Str→Option Bool}
end
-- _law_whole(_law_found): slots 0=_law_found
def fH:S:=#v[.ret (.and #v[.isi (.v 0) .int,.not (.isi (.v 0) .bool)])]
noncomputable def dV (ms:Str→Str→Option Bool):Fn:=.self [] [] ms fH [false] 1 1
theorem mo (ms:Str→Str→Option Bool):(dV ms).kp=[false]:=rfl
-- _law_like(_law_found,_law_due): slots 0=_law_found 1=_law_due 2=_law_k
def dW:S:=#v[.ife (.cmp .isn (.v 1) .kn)
 #v[.ret (.cmp .isn (.v 0) .kn)]
 .nil,.ife (.isi (.v 1) .bool)
 #v[.ret (.and #v[.isi (.v 0) .bool,.cmp .eq (.v 0) (.v 1)])]
 .nil,.ife (.isi (.v 1) .int)
 #v[.ret (.and #v[.call 1 #v[.v 0],.cmp .eq (.v 0) (.v 1)])]
 .nil,.ife (.isi (.v 1) .str)
 #v[.ret (.and #v[.isi (.v 0) .str,.cmp .eq (.v 0) (.v 1)])]
 .nil,.ife (.or #v[.cmp .ne (.isi (.v 1) .list) (.isi (.v 0) .list),.cmp .ne (.isi (.v 1) .tuple) (.isi (.v 0) .tuple)])
 #v[.ret (.kb false)]
 .nil,.ret (.and #v[.cmp .eq (.bi .len #v[.v 0]) (.bi .len #v[.v 1]),.bi .all #v[.comp [2] (.n 2) (.rng1 (.bi .len #v[.v 1])) .nil (.call 0 #v[.ix (.v 0) (.v 2),.ix (.v 1) (.v 2)])]])]
noncomputable def cK (ms:Str→Str→Option Bool):Nat→Fn
 | 0=>.none [false,false]
 | n+1=>.self [cK ms n,dV ms] [] ms dW [false,false] 2 3
noncomputable def fi (ms:Str→Str→Option Bool):Fn:=cK ms 8
section
variable {ms:Str→Str→Option Bool}
theorem qM (a:Int):(dV ms).run [.int a]=.ok (.bl true,.fr):=by
 refine cA (s:=[]) rfl (cE ?_)
 simp! []
theorem o8 (n:Nat):(cK ms n).kp=[false,false]:=by cases n <;> rfl
theorem nP {n:Nat} {d:D} {xs:List D} (ih:∀ d,D.pl n d→(cK ms n).run [d,d]=.ok (.bl true,.fr)) (hx:xs.length≤sizeLine∧∀ x∈xs,D.pl n x)
  (hl:∀ s,BI.run .len [d] s=cg (.int xs.length) s) (hi:∀ i x s,xs[i]?=some x→lF d (.int (i:Nat)) s=cg x s) :
  b7 [cK ms n,dV ms] [] (.comp [2] (.n 2) (.rng1 (.bi .len #v[.v 1])) .nil (.call 0 #v[.ix (.v 0) (.v 2),.ix (.v 1) (.v 2)])) [some ⟨.bo,d⟩,some ⟨.bo,d⟩,none] []=.ok (.lst ((List.range xs.length).map fun _=>D.bl true),.nw,[]):=by
 have hz:=sizeLine_eq
 refine eh (ds:=List.range xs.length) (en:=fun i=>D.int (i:Nat)) rfl ((l7 (t:=.fr) (j:=(xs.length:Int)) ?_ (by omega)).trans (by rw [ba])) (fun i hi2=>?_) (by rw [aq]; exact hx.1)
 ·simp! [hl]
 ·have hlt:i < xs.length:=aF.mp hi2
  have hg:xs[i]?=some xs[i]:=ah hlt
  have hr:=ih xs[i] (hx.2 _ (bA hlt))
  refine ⟨[some ⟨.bo,d⟩,some ⟨.bo,d⟩,some ⟨.fr,.int (i:Nat)⟩],.fr,rfl,?_,.inl rfl⟩
  simp! [o8,hi i _ _ hg,hr]
theorem lA:∀ (n:Nat) (d:D),D.pl n d→(cK ms n).run [d,d]=.ok (.bl true,.fr)
 | 0,_,h=>h.elim
 | n+1,d,h=>by
  have ih:=lA n
  have big:=sizeLine_eq
  have fin:∀ (xs:List D) (l:Lc) (x:X),b7 [cK ms n,dV ms] [] x l []=.ok (.lst ((List.range xs.length).map fun _=>D.bl true),.nw,[])→b7 [cK ms n,dV ms] [] (.bi .all #v[x]) l []=.ok (.bl true,.fr,[]):=fun xs l x h=>by
   have e:((List.range xs.length).map fun _=>D.bl true)=((List.range xs.length).map fun _=>true).map D.bl:=by rw [bD]; rfl
   rw [e] at h
   rw [ze h]
   congr 3
   simp
  cases d with
  | non =>
   refine cA (s:=[]) rfl (cE ((fj (s1:=[]) ?_).trans (cE ?_)))
   ·simp! []
   ·simp! []
  | bl b =>
   refine cA (s:=[]) rfl ((b6 ((dc (s1:=[]) ?_).trans cn)).trans (cE ((fj (s1:=[]) ?_).trans (cE ?_))))
   ·simp! []
   ·simp! []
   ·simp! [bz]
  | int b =>
   refine cA (s:=[]) rfl ((b6 ((dc (s1:=[]) ?_).trans cn)).trans ((b6 ((dc (s1:=[]) ?_).trans cn)).trans (cE ((fj (s1:=[]) ?_).trans (cE ?_)))))
   ·simp! []
   ·simp! []
   ·simp! []
   ·simp! [mo,qM]
  | str x =>
   have hs:PyData.strOk x=true:=h
   refine cA (s:=[]) rfl ((b6 ((dc (s1:=[]) ?_).trans cn)).trans ((b6 ((dc (s1:=[]) ?_).trans cn)).trans ((b6 ((dc (s1:=[]) ?_).trans cn)).trans (cE ((fj (s1:=[]) ?_).trans (cE ?_))))))
   ·simp! []
   ·simp! []
   ·simp! []
   ·simp! []
   ·simp! [sU x x hs hs,bz]
  | tup xs =>
   have hc:=nP (ms:=ms) (d:=.tup xs) ih h (fun s=>rfl) (fun i x s hi=>qI hi s)
   refine cA (s:=[]) rfl ((b6 ((dc (s1:=[]) ?_).trans cn)).trans ((b6 ((dc (s1:=[]) ?_).trans cn)).trans ((b6 ((dc (s1:=[]) ?_).trans cn)).trans ((b6 ((dc (s1:=[]) ?_).trans cn)).trans ((b6 ((dc (s1:=[]) ?_).trans cn)).trans (cE ?_))))))
   ·simp! []
   ·simp! []
   ·simp! []
   ·simp! []
   ·simp! [bz]
   ·refine du (jE ((jS (t:=.fr) (s1:=[]) ?_).trans ((jS (fin xs _ _ hc)).trans j9))) rfl
    simp! []
  | lst xs =>
   have hc:=nP (ms:=ms) (d:=.lst xs) ih h (fun s=>rfl) (fun i x s hi=>kP hi s)
   refine cA (s:=[]) rfl ((b6 ((dc (s1:=[]) ?_).trans cn)).trans ((b6 ((dc (s1:=[]) ?_).trans cn)).trans ((b6 ((dc (s1:=[]) ?_).trans cn)).trans ((b6 ((dc (s1:=[]) ?_).trans cn)).trans ((b6 ((dc (s1:=[]) ?_).trans cn)).trans (cE ?_))))))
   ·simp! []
   ·simp! []
   ·simp! []
   ·simp! []
   ·simp! [bz]
   ·refine du (jE ((jS (t:=.fr) (s1:=[]) ?_).trans ((jS (fin xs _ _ hc)).trans j9))) rfl
    simp! []
  | _=>exact h.elim
theorem nQ (d:D) (h:D.pl 8 d):(fi ms).run [d,d]=.ok (.bl true,.fr):=lA 8 d h
end
-- _law_rearranged(_law_pick,_law_letters_here): slots 0=_law_pick 1=_law_letters_here 2=_law_left 3=_law_made 4=_law_k 5=_law_many
def cT:S:=#v[.own 2 (.lstI (.rng1 (.v 1))),.own 3 (.lst .nil),.loop (.n 4) (.rng1 (.v 1))
 #v[.set (.n 5) (.bi .len #v[.v 2]),.appPop 3 2 (.bin .mod (.v 0) (.v 5)),.set (.n 0) (.bin .fdiv (.v 0) (.v 5))],.ret (.bi .tuple #v[.v 3])]
noncomputable def b8 (ms:Str→Str→Option Bool):Fn:=.self [] [] ms cT [false,false] 2 6
section
variable {fs:List Fn} {gs:List D} {a b c:X} {l:Lc} {p q:Bool} {t t2:Tag}
theorem zg (ha:b7 fs gs a l []=.ok (.bl p,t,[])) (hb:b7 fs gs b l []=.ok (.bl q,t2,[])):b7 fs gs (.and #v[a,b]) l []=.ok (.bl (p && q),.fr,[]):=by
 cases p with
 | false=>exact jE (wz ha)
 | true =>
  cases q with
  | false=>exact jE ((jS ha).trans (wz hb))
  | true=>exact jE ((jS ha).trans ((jS hb).trans j9))
theorem F7 (ha:b7 fs gs a l []=.ok (.bl p,t,[])) (hb:b7 fs gs b l []=.ok (.bl q,t2,[])):b7 fs gs (.or #v[a,b]) l []=.ok (.bl (p || q),.fr,[]):=by
 cases p with
 | true=>exact p6 (BX ha)
 | false =>
  cases q with
  | true=>exact p6 ((vE ha).trans (BX hb))
  | false=>exact p6 ((vE ha).trans ((vE hb).trans sZ))
end
theorem tA {j n:Nat} (h:j < n):seqIndex? (j:Int) n=some j:=(ixN_seq (by unfold ixN; rw [ap (by omega),ap (by omega),ba])).1
theorem qN {ds:List D} {i:Int} {k:Nat} {d:D} (h:-(2 ^ 63)≤i∧i < 2 ^ 63) (hk:seqIndex? i ds.length=some k) (hd:ds[k]?=some d):f7 ds (some i)=some (d,ds.eraseIdx k):=by
 unfold f7
 simp only [ap h,hk,hd]
theorem qO {fs:List Fn} {gs:List D} {ms:Str→Str→Option Bool} {x:X} {l:Lc} {s s1:cj} {i j:Nat} {ds es es':List D} {p:Option Int} {d:D} (hi:l[i]?=some (some ⟨.ow,.lst ds⟩)) (hj:l[j]?=some (some ⟨.ow,.lst es⟩)) (hne:¬ i=j) (hp:dv fs gs x l s=.ok (p,s1)) (hd:f7 es p=some (d,es')) (hz:ds.length < sizeLine) :
  cy fs gs ms (.appPop i j x) l s=.ok (.nx ((l.set j (some ⟨.ow,.lst es'⟩)).set i (some ⟨.ow,.lst (ds++[d])⟩)) s1):=by
 simp only [cy,hi,hj,av hne,hp,cN,hd,ap hz]
theorem tB {fs:List Fn} {gs:List D} {x:X} {l:Lc} {s s1:cj} {i:Int} {t:Tag} (hx:x.isNil=false) (h:b7 fs gs x l s=.ok (.int i,t,s1)):dv fs gs x l s=.ok (some i,s1):=by
 unfold dv
 rw [hx,h]
 rfl
theorem js {α β:Type} (f:α→β):∀ (xs:List α) (i:Nat),(xs.map f).eraseIdx i=(xs.eraseIdx i).map f
 | [],_=>rfl
 | x :: xs,0=>rfl
 | x :: xs,i+1=>by
  show f x :: (xs.map f).eraseIdx i=f x :: (xs.eraseIdx i).map f
  rw [js f xs i]
theorem tD {A:List Nat} {i:Nat} (h:i < A.length) (hz:A.length≤100000):f7 (A.map nD) (some (i:Int))=some (nD (A.getD i 0),(A.eraseIdx i).map nD):=by
 have h2:=qN (ds:=A.map nD) (i:=(i:Int)) (k:=i) (d:=nD (A.getD i 0)) (by omega) (by rw [ac]; exact tA h) (o6 h)
 rw [h2,js]
theorem kU:∀ (A:List Nat) (i:Nat),i < A.length→(A.getD i 0 :: A.eraseIdx i).Perm A
 | [],i,h=>absurd h (be i)
 | x :: A,0,_=>List.Perm.refl _
 | x :: A,i+1,h=>by
  have ih:=kU A i (by rw [aB] at h; omega)
  show (A.getD i 0 :: x :: A.eraseIdx i).Perm (x :: A)
  exact (List.Perm.swap _ _ _).trans (ih.cons x)

def Turn (L:Nat) (P:List Nat):Prop:=P.Perm (List.range L)
theorem Turn.len {L:Nat} {P:List Nat} (h:Turn L P):P.length=L:=by have:=h.length_eq; rw [aq] at this; exact this
theorem Turn.lt {L:Nat} {P:List Nat} (h:Turn L P):∀ x∈P,x < L:=fun x hx=>aF.mp (h.subset hx)
section
variable {ms:Str→Str→Option Bool} {L:Nat}
theorem ik (hL:L≤1000) (pick:Int) (hp:0≤pick):∃ P,Turn L P∧(b8 ms).run [.int pick,nD L]=.ok (.tup (P.map nD),.fr):=by
 have big:=sizeLine_eq
 let LL:(Tag × Int × List Nat × List Nat × Option Sl × Option Sl)→Lc:=fun t=>[some ⟨t.1,.int t.2.1⟩,some ⟨.bo,nD L⟩,some ⟨.ow,.lst (t.2.2.1.map nD)⟩,some ⟨.ow,.lst (t.2.2.2.1.map nD)⟩,t.2.2.2.2.1,t.2.2.2.2.2]
 obtain ⟨t',h1,h2,h3,_⟩:=dC (body:=fun d l s=>match T.put (.n 4) d l with | some l1=>cy [] [] ms #v[.set (.n 5) (.bi .len #v[.v 2]),.appPop 3 2 (.bin .mod (.v 0) (.v 5)),.set (.n 0) (.bin .fdiv (.v 0) (.v 5))] l1 s | none=>.no)
  (fun i:Nat=>D.int (i:Int)) LL (fun pr t=>(t.2.2.2.1++t.2.2.1).Perm (List.range L)∧t.2.2.2.1.length=pr.length∧0≤t.2.1) (List.range L) (fun pr x r t hx ⟨i1,i2,i3⟩=>by
   have hpl:pr.length < L:=by
    have:=bj List.length hx
    rw [aq,ae,aB] at this
    omega
   have hl:=i1.length_eq
   rw [ae,aq] at hl
   have hpos:0 < t.2.2.1.length:=by omega
   obtain ⟨j,hj⟩:=bh (Int.emod_nonneg t.2.1 (show (t.2.2.1.length:Int)≠0 by omega))
   have hjl:j < t.2.2.1.length:=by
    have:=Int.emod_lt_of_pos t.2.1 (show (0:Int) < (t.2.2.1.length:Int) by omega)
    omega
   have e5:b7 [] [] (.bi .len #v[.v 2]) (LL (t.1,t.2.1,t.2.2.1,t.2.2.2.1,some ⟨.fr,.int (x:Int)⟩,t.2.2.2.2.2)) []=.ok (nD t.2.2.1.length,.fr,[]):=by simp! [LL]
   have epl:dv [] [] (.bin .mod (.v 0) (.v 5)) (LL (t.1,t.2.1,t.2.2.1,t.2.2.2.1,some ⟨.fr,.int (x:Int)⟩,some ⟨.fr,nD t.2.2.1.length⟩)) []=.ok (some (j:Int),[]):=by
    refine tB (t:=.fr) rfl ?_
    rw [← hj]
    exact cW (d:=.int t.2.1) (t:=t.1) (s1:=[]) (d2:=nD t.2.2.1.length) (t2:=.fr) (s2:=[]) rfl rfl (eV _ _ _ (by omega))
   have hz:(t.2.2.2.1.map nD).length < sizeLine:=by rw [ac]; omega
   refine ⟨(.fr,t.2.1 / (t.2.2.1.length:Int),t.2.2.1.eraseIdx j,t.2.2.2.1++[t.2.2.1.getD j 0],some ⟨.fr,.int (x:Int)⟩,some ⟨.fr,nD t.2.2.1.length⟩),(b6 (cx (t:=.fr) e5 (.inl rfl) rfl)).trans ((b6 (l1:=LL (t.1,t.2.1,t.2.2.1.eraseIdx j,t.2.2.2.1++[t.2.2.1.getD j 0],some ⟨.fr,.int (x:Int)⟩,some ⟨.fr,nD t.2.2.1.length⟩)) (s1:=[]) ?_).trans ((b6 (cx (t:=.fr) (cW (d:=.int t.2.1) (t:=t.1) (s1:=[]) (d2:=nD t.2.2.1.length) (t2:=.fr) (s2:=[]) rfl rfl (jl _ _ _ ⟨by omega,by omega⟩)) (.inl rfl) rfl)).trans cn)),?_,by rw [ae,ae,i2]; rfl,Int.ediv_nonneg i3 (by omega)⟩
   ·refine (qO (ds:=t.2.2.2.1.map nD) (es:=t.2.2.1.map nD) rfl rfl (by decide) epl (tD hjl (by omega)) hz).trans ?_
    show R.ok (Out.nx [some ⟨t.1,.int t.2.1⟩,some ⟨.bo,nD L⟩,some ⟨.ow,.lst ((t.2.2.1.eraseIdx j).map nD)⟩,some ⟨.ow,.lst (t.2.2.2.1.map nD++[nD (t.2.2.1.getD j 0)])⟩,some ⟨.fr,.int (x:Int)⟩,some ⟨.fr,nD t.2.2.1.length⟩] [])=R.ok (Out.nx [some ⟨t.1,.int t.2.1⟩,some ⟨.bo,nD L⟩,some ⟨.ow,.lst ((t.2.2.1.eraseIdx j).map nD)⟩,some ⟨.ow,.lst ((t.2.2.2.1++[t.2.2.1.getD j 0]).map nD)⟩,some ⟨.fr,.int (x:Int)⟩,some ⟨.fr,nD t.2.2.1.length⟩] [])
    rw [eG]
   ·show ((t.2.2.2.1++[t.2.2.1.getD j 0])++t.2.2.1.eraseIdx j).Perm (List.range L)
    rw [bc]
    exact ((kU t.2.2.1 j hjl).append_left t.2.2.2.1).trans i1) (.bo,pick,List.range L,[],none,none) ⟨List.Perm.refl _,rfl,hp⟩
 have h3:t'.2.2.2.1.length=L:=by rw [h3,aq]
 have hl:=h2.length_eq
 rw [ae,aq] at hl
 have hnil:t'.2.2.1=[]:=List.length_eq_zero_iff.mp (by omega)
 rw [hnil,aX] at h2
 refine ⟨t'.2.2.2.1,h2,cA (s:=[]) rfl ?_⟩
 have eL:∀ l:Lc,l[1]?=some (some ⟨.bo,nD L⟩)→gq [] [] (.rng1 (.v 1)) l []=.ok ((List.range L).map fun i:Nat=>D.int (i:Int),[]):=fun l hl=>by
  have e:b7 [] [] (.v 1) l []=.ok (.int (L:Int),.bo,[]):=by
   show (match l[1]? with | some (some ⟨k,d⟩)=>R.ok (d,k,[]) | _=>.no)=_
   rw [hl]
  exact (l7 e (by omega)).trans (by rw [ba])
 refine (b6 (l1:=[some ⟨.bo,.int pick⟩,some ⟨.bo,nD L⟩,some ⟨.ow,.lst ((List.range L).map nD)⟩,none,none,none]) (s1:=[]) (cX (d:=.lst ((List.range L).map nD)) ?_)).trans ?_
 ·show (gq [] [] (.rng1 (.v 1)) [some ⟨.bo,.int pick⟩,some ⟨.bo,nD L⟩,none,none,none,none] []).bind (fun (ds,s1)=>if ds.length≤16777216 then dY (.lst ds) s1 else .no)=_
  rw [eL _ rfl,cN]
  show (if ((List.range L).map fun i:Nat=>D.int (i:Int)).length≤16777216 then _ else _)=_
  rw [ap (by rw [ac,aq]; omega)]
  rfl
 refine (b6 (l1:=LL (.bo,pick,List.range L,[],none,none)) (s1:=[]) (cX (d:=.lst []) ?_)).trans ?_
 ·simp! [aV]
 exact (b6 ((dG (eL _ rfl)).trans h1)).trans (cE (du (t:=.fr) (eC (t:=.ow) rfl) rfl))
end
-- _law_rows(_law_letters_here,_law_cell_here): slots 0=_law_letters_here 1=_law_cell_here 2=_law_nums 3=_law_many 4=_law_kind 5=_law_rows_here 6=_law_at 7=_law_pick 8=_law_first 9=_law_goings 10=_law_k 11=_law_to
def dX:S:=#v[.set (.n 2) (.call 1 #v[.v 1,.ki 64]),.set (.n 3) (.bin .add (.ki 1) (.bin .mod (.ix (.v 2) (.ki 0)) (.ki 8))),.set (.n 4) (.bin .mod (.ix (.v 2) (.ki 1)) (.ki 6)),.own 5 (.lst .nil),.loop (.n 6) (.rng1 (.v 3))
 #v[.set (.n 7) (.sl (.v 2) (.bin .add (.ki 2) (.bin .mul (.ki 6) (.v 6))) (.bin .add (.ki 8) (.bin .mul (.ki 6) (.v 6)))),.set (.n 8) (.call 0 #v[.ix (.v 7) (.ki 0),.v 0]),.set (.n 9) (.comp [10] (.n 10) (.rng1 (.v 0)) .nil (.bin .mod (.ix (.v 7) (.bin .add (.ki 1) (.v 10))) (.v 3))),.ife (.cmp .eq (.v 4) (.ki 1))
 #v[.set (.n 9) (.comp [11] (.n 11) (.it (.v 9)) .nil (.bi .min2 #v[.bin .sub (.v 3) (.ki 1),.bin .add (.bin .add (.v 6) (.ki 1)) (.v 11)]))]
 .nil,.ife (.cmp .eq (.v 4) (.ki 2))
 #v[.set (.n 9) (.comp [10] (.n 10) (.rng1 (.v 0)) .nil (.ite (.cmp .eq (.v 10) (.bin .mod (.bin .fdiv (.ix (.v 7) (.ki 0)) (.ki 120)) (.v 0))) (.ix (.v 9) (.v 10)) (.bin .sub (.v 3) (.ki 1))))]
 .nil,.ife (.or #v[.and #v[.chn .le .le (.ki 1) (.v 4) (.ki 3),.cmp .eq (.v 6) (.bin .sub (.v 3) (.ki 1))],.and #v[.cmp .eq (.v 4) (.ki 4),.cmp .eq (.bin .mod (.ix (.v 7) (.ki 0)) (.ki 2)) (.ki 1)]])
 #v[.set (.n 8) (.tupI (.rng1 (.v 0)))]
 .nil,.ife (.and #v[.chn .le .le (.ki 1) (.v 4) (.ki 3),.cmp .eq (.v 6) (.bin .sub (.v 3) (.ki 1))])
 #v[.set (.n 9) (.bin .mul (.lst #v[.v 6]) (.v 0))]
 .nil,.app 5 (.tup #v[.v 8,.bi .tuple #v[.v 9]])],.ret (.v 5)]
noncomputable def gd (ms:Str→Str→Option Bool):Fn:=.self [b8 ms,b9 ms] [] ms dX [false,false] 2 12
theorem p8 {α:Type} (a:α):∀ k:Nat,(List.replicate k [a]).flatten=List.replicate k a
 | 0=>rfl
 | k+1=>by
  rw [bw,List.flatten_cons,p8 a k,bw]
  rfl

def gW (L:Nat) (M:Mach):Prop:=MOk L M∧∀ s,s < M.length→Turn L (M.fst s)

def nR (L n:Nat) (r:List Nat × List Nat):Prop:=Turn L r.1∧r.2.length=L∧∀ x∈r.2,x < n
theorem nT {L n:Nat} {rs:Mach} (h:∀ r∈rs,nR L n r) (hn:rs.length=n):gW L rs:=by
 have key:∀ s,s < rs.length→nR L n (rs.row s):=fun s hs=>by
  refine h _ ?_
  unfold Mach.row
  rw [List.getD,ah hs]
  exact bA _
 refine ⟨fun s hs=>?_,fun s hs=>(key s hs).1⟩
 obtain ⟨q1,q2,q3⟩:=key s hs
 exact ⟨q1.len,q2,q1.lt,fun x hx=>by rw [hn]; exact q3 x hx⟩
section
variable {fs:List Fn} {gs:List D} {ms:Str→Str→Option Bool} {L:Nat}

theorem iF {fs:List Fn} {gs:List D} {own:List Nat} {k:Nat} {it e:X} {l:Lc} {ds:List Nat} {n:Nat} (hz:ds.length≤1000) (ho:l6 l own=true) (hi:gq fs gs it l []=.ok (ds.map nD,[])) (l1:Nat→Lc) (hp:∀ c,T.put (.n k) (nD c) (de l own)=some (l1 c)) (hb:∀ c∈ds,∃ y,y < n∧b7 fs gs e (l1 c) []=.ok (nD y,.fr,[])) :
  ∃ G:List Nat,G.length=ds.length∧(∀ y∈G,y < n)∧b7 fs gs (.comp own (.n k) it .nil e) l []=.ok (.lst (G.map nD),.nw,[]):=by
 have big:=sizeLine_eq
 have hb':∀ c,∃ y,c∈ds→y < n∧b7 fs gs e (l1 c) []=.ok (nD y,.fr,[]):=fun c=>by
  by_cases hc:c∈ds
  ·obtain ⟨y,h⟩:=hb c hc
   exact ⟨y,fun _=>h⟩
  ·exact ⟨0,fun q=>absurd q hc⟩
 let f:Nat→Nat:=fun c=>Classical.choose (hb' c)
 have hf:∀ c,c∈ds→f c < n∧b7 fs gs e (l1 c) []=.ok (nD (f c),.fr,[]):=fun c=>Classical.choose_spec (hb' c)
 refine ⟨ds.map f,ac _,fun y hy=>?_,?_⟩
 ·obtain ⟨c,hc,rfl⟩:=aP.mp hy
  exact (hf c hc).1
 ·rw [bD]
  exact eh (ds:=ds) (en:=nD) ho hi (fun c hc=>⟨l1 c,.fr,hp c,(hf c hc).2,.inl rfl⟩) (by omega)
theorem mq {l:Lc} {x:X} {t:Tag} (h:b7 fs gs x l []=.ok (nD L,t,[])) (hL:L≤1000000):gq fs gs (.rng1 x) l []=.ok ((List.range L).map nD,[]) :=
 (l7 h (by omega)).trans (by rw [ba])
theorem il {x:Int} {n:Nat} (hn:0 < n):∃ y:Nat,y < n∧x % (n:Int)=(y:Int):=by
 obtain ⟨y,hy⟩:=bh (Int.emod_nonneg x (show (n:Int)≠0 by omega))
 have:=Int.emod_lt_of_pos x (show (0:Int) < (n:Int) by omega)
 exact ⟨y,by omega,hy⟩
theorem qP (hL:2≤L) (hL5:L≤5) {c:Int} {nu:List Int} (hnl:nu.length=64) (hnb:∀ x∈nu,0≤x∧x < 1009) {n:Nat} (hn:n≤8) {kd:Int} {rs:Mach} {at_:Nat} (hat:at_ < n) (hrl:rs.length≤8) (x7 x8 x9:Option Sl) :
  ∃ r y7 y8 y9,nR L n r∧cy [b8 ms,b9 ms] [] ms #v[.set (.n 7) (.sl (.v 2) (.bin .add (.ki 2) (.bin .mul (.ki 6) (.v 6))) (.bin .add (.ki 8) (.bin .mul (.ki 6) (.v 6)))),.set (.n 8) (.call 0 #v[.ix (.v 7) (.ki 0),.v 0]),.set (.n 9) (.comp [10] (.n 10) (.rng1 (.v 0)) .nil (.bin .mod (.ix (.v 7) (.bin .add (.ki 1) (.v 10))) (.v 3))),.ife (.cmp .eq (.v 4) (.ki 1))
 #v[.set (.n 9) (.comp [11] (.n 11) (.it (.v 9)) .nil (.bi .min2 #v[.bin .sub (.v 3) (.ki 1),.bin .add (.bin .add (.v 6) (.ki 1)) (.v 11)]))]
 .nil,.ife (.cmp .eq (.v 4) (.ki 2))
 #v[.set (.n 9) (.comp [10] (.n 10) (.rng1 (.v 0)) .nil (.ite (.cmp .eq (.v 10) (.bin .mod (.bin .fdiv (.ix (.v 7) (.ki 0)) (.ki 120)) (.v 0))) (.ix (.v 9) (.v 10)) (.bin .sub (.v 3) (.ki 1))))]
 .nil,.ife (.or #v[.and #v[.chn .le .le (.ki 1) (.v 4) (.ki 3),.cmp .eq (.v 6) (.bin .sub (.v 3) (.ki 1))],.and #v[.cmp .eq (.v 4) (.ki 4),.cmp .eq (.bin .mod (.ix (.v 7) (.ki 0)) (.ki 2)) (.ki 1)]])
 #v[.set (.n 8) (.tupI (.rng1 (.v 0)))]
 .nil,.ife (.and #v[.chn .le .le (.ki 1) (.v 4) (.ki 3),.cmp .eq (.v 6) (.bin .sub (.v 3) (.ki 1))])
 #v[.set (.n 9) (.bin .mul (.lst #v[.v 6]) (.v 0))]
 .nil,.app 5 (.tup #v[.v 8,.bi .tuple #v[.v 9]])]
  [some ⟨.bo,nD L⟩,some ⟨.bo,.int c⟩,some ⟨.fr,.lst (nu.map D.int)⟩,some ⟨.fr,nD n⟩,some ⟨.fr,.int kd⟩,some ⟨.ow,.lst (rs.map cC)⟩,some ⟨.fr,nD at_⟩,x7,x8,x9,none,none] [] =
  .ok (.nx [some ⟨.bo,nD L⟩,some ⟨.bo,.int c⟩,some ⟨.fr,.lst (nu.map D.int)⟩,some ⟨.fr,nD n⟩,some ⟨.fr,.int kd⟩,some ⟨.ow,.lst ((rs++[r]).map cC)⟩,some ⟨.fr,nD at_⟩,y7,y8,y9,none,none] []):=by
 have big:=sizeLine_eq
 have hn0:0 < n:=by omega
 let S:Option Sl→Option Sl→Option Sl→Lc:=fun a b e=>[some ⟨.bo,nD L⟩,some ⟨.bo,.int c⟩,some ⟨.fr,.lst (nu.map D.int)⟩,some ⟨.fr,nD n⟩,some ⟨.fr,.int kd⟩,some ⟨.ow,.lst (rs.map cC)⟩,some ⟨.fr,nD at_⟩,a,b,e,none,none]
 let pk:List Int:=(nu.take (8+6*at_)).drop (2+6*at_)
 have hpl:pk.length=6:=by
  show ((nu.take (8+6*at_)).drop (2+6*at_)).length=6
  rw [List.length_drop,List.length_take]
  omega
 have hpb:∀ x∈pk,0≤x∧x < 1009:=fun x hx=>hnb x (List.mem_of_mem_take (List.mem_of_mem_drop hx))
 let K7:Option Sl:=some ⟨.fr,.lst (pk.map D.int)⟩
 have s7:cy [b8 ms,b9 ms] [] ms (.set (.n 7) (.sl (.v 2) (.bin .add (.ki 2) (.bin .mul (.ki 6) (.v 6))) (.bin .add (.ki 8) (.bin .mul (.ki 6) (.v 6))))) (S x7 x8 x9) []=.ok (.nx (S K7 x8 x9) []):=by
  have c1:-18446744073709551616 < (at_:Int):=by omega
  have c2:(at_:Int) < 18446744073709551616:=by omega
  have e1:(2:Int)+6*(at_:Int)=((2+6*at_:Nat):Int):=by omega
  have e2:(8:Int)+6*(at_:Int)=((8+6*at_:Nat):Int):=by omega
  refine cx (t:=.nw) (d:=.lst (pk.map D.int)) (s1:=[]) ?_ (.inr (.inl rfl)) rfl
  have e3:pk.map D.int=((nu.map D.int).take (8+6*at_)).drop (2+6*at_):=by
   show ((nu.take (8+6*at_)).drop (2+6*at_)).map D.int=_
   rw [List.map_drop,List.map_take]
  rw [e3]
  have m6:∀ s,BOp.run .mul (.int 6) (nD at_) s=cg (.int (6*(at_:Int))) s:=fun s=>gJ _ _ _ (.inl ⟨by decide,by decide⟩)
  simp! [S,m6,e1,e2,sN]
 obtain ⟨f0,hf0⟩:∃ f0:Int,pk.getD 0 0=f0:=⟨_,rfl⟩
 have hf00:0≤f0:=by
  have:pk.getD 0 0∈pk:=by rw [List.getD,ah (by omega)]; exact bA _
  rw [hf0] at this
  exact (hpb _ this).1
 have CY:∀ s,iX (.lst (pk.map D.int)) (.int 0) s=cg (.int f0) s:=fun s=>by
  have:=iT pk 0 (by omega) s
  rw [hf0] at this
  exact this
 have e70:∀ b e,b7 [b8 ms,b9 ms] [] (.ix (.v 7) (.ki 0)) (S K7 b e) []=.ok (.int f0,.fr,[]):=fun b e=>by
  simp! [S,K7,CY]
 obtain ⟨P,hP,c8⟩:=ik (ms:=ms) (L:=L) (by omega) f0 hf00
 have s8:cy [b8 ms,b9 ms] [] ms (.set (.n 8) (.call 0 #v[.ix (.v 7) (.ki 0),.v 0])) (S K7 x8 x9) []=.ok (.nx (S K7 (some ⟨.fr,.tup (P.map nD)⟩) x9) []) :=
  cx (t:=.fr) (cQ (s1:=[]) (ds:=[.int f0,nD L]) rfl (jF (e70 _ _) rfl (.inl rfl) (.inl rfl)) c8) (.inl rfl) rfl
 let V8:List Nat→Option Sl:=fun P=>some ⟨.fr,.tup (P.map nD)⟩
 let V9:List Nat→Option Sl:=fun G=>some ⟨.fr,.lst (G.map nD)⟩
 have rL:∀ a b e,gq [b8 ms,b9 ms] [] (.rng1 (.v 0)) (S a b e) []=.ok ((List.range L).map nD,[]):=fun a b e=>mq (t:=.bo) rfl (by omega)
 obtain ⟨G1,g1l,g1b,e9⟩:=iF (fs:=[b8 ms,b9 ms]) (gs:=[]) (own:=[10]) (k:=10) (e:=.bin .mod (.ix (.v 7) (.bin .add (.ki 1) (.v 10))) (.v 3)) (l:=S K7 (V8 P) x9) (ds:=List.range L) (n:=n) (by rw [aq]; omega) rfl (rL _ _ _) (fun k=>[some ⟨.bo,nD L⟩,some ⟨.bo,.int c⟩,some ⟨.fr,.lst (nu.map D.int)⟩,some ⟨.fr,nD n⟩,some ⟨.fr,.int kd⟩,some ⟨.ow,.lst (rs.map cC)⟩,some ⟨.fr,nD at_⟩,K7,V8 P,x9,some ⟨.fr,nD k⟩,none]) (fun _=>rfl) (fun k hk=>by
  have hk:=aF.mp hk
  obtain ⟨y,y1,y2⟩:=il (x:=pk.getD (1+k) 0) hn0
  refine ⟨y,y1,?_⟩
  have ex:(1:Int)+(k:Int)=((1+k:Nat):Int):=by omega
  show _=R.ok (D.int (y:Int),Tag.fr,[])
  rw [← y2]
  refine cW (d:=.int (pk.getD (1+k) 0)) (t:=.fr) (s1:=[]) (df (d:=.lst (pk.map D.int)) (d2:=.int ((1+k:Nat):Int)) (t:=.fr) (t2:=.fr) (s1:=[]) (s2:=[]) rfl ?_ (iT pk (1+k) (by omega) [])) (d2:=nD n) (t2:=.fr) (s2:=[]) rfl (eV _ _ _ (by omega))
  rw [← ex]
  rfl)
 rw [aq] at g1l
 have s9:cy [b8 ms,b9 ms] [] ms (.set (.n 9) (.comp [10] (.n 10) (.rng1 (.v 0)) .nil (.bin .mod (.ix (.v 7) (.bin .add (.ki 1) (.v 10))) (.v 3)))) (S K7 (V8 P) x9) []=.ok (.nx (S K7 (V8 P) (V9 G1)) []):=cx (t:=.nw) e9 (.inr (.inl rfl)) rfl
 obtain ⟨G2,g2l,g2b,tX⟩:∃ G2:List Nat,G2.length=L∧(∀ y∈G2,y < n)∧cy [b8 ms,b9 ms] [] ms (.ife (.cmp .eq (.v 4) (.ki 1))
   #v[.set (.n 9) (.comp [11] (.n 11) (.it (.v 9)) .nil (.bi .min2 #v[.bin .sub (.v 3) (.ki 1),.bin .add (.bin .add (.v 6) (.ki 1)) (.v 11)]))] .nil) (S K7 (V8 P) (V9 G1)) []=.ok (.nx (S K7 (V8 P) (V9 G2)) []):=by
  by_cases h1:kd=1
  ·obtain ⟨G2,g2l,g2b,e⟩:=iF (fs:=[b8 ms,b9 ms]) (gs:=[]) (own:=[11]) (k:=11) (e:=.bi .min2 #v[.bin .sub (.v 3) (.ki 1),.bin .add (.bin .add (.v 6) (.ki 1)) (.v 11)]) (it:=.it (.v 9)) (l:=S K7 (V8 P) (V9 G1)) (ds:=G1) (n:=n) (by omega) rfl (gK (t:=.fr) rfl (by intro q; cases q)) (fun k=>[some ⟨.bo,nD L⟩,some ⟨.bo,.int c⟩,some ⟨.fr,.lst (nu.map D.int)⟩,some ⟨.fr,nD n⟩,some ⟨.fr,.int kd⟩,some ⟨.ow,.lst (rs.map cC)⟩,some ⟨.fr,nD at_⟩,K7,V8 P,V9 G1,none,some ⟨.fr,nD k⟩]) (fun _=>rfl) (fun k hk=>by
    refine ⟨min (n - 1) (at_+1+k),by omega,?_⟩
    have e:b7 [b8 ms,b9 ms] [] (.bi .min2 #v[.bin .sub (.v 3) (.ki 1),.bin .add (.bin .add (.v 6) (.ki 1)) (.v 11)]) [some ⟨.bo,nD L⟩,some ⟨.bo,.int c⟩,some ⟨.fr,.lst (nu.map D.int)⟩,some ⟨.fr,nD n⟩,some ⟨.fr,.int kd⟩,some ⟨.ow,.lst (rs.map cC)⟩,some ⟨.fr,nD at_⟩,K7,V8 P,V9 G1,none,some ⟨.fr,nD k⟩] []=.ok (.int (if (at_:Int)+1+(k:Int) < (n:Int) - 1 then (at_:Int)+1+(k:Int) else (n:Int) - 1),.fr,[]):=rfl
    rw [e]
    have q:(if (at_:Int)+1+(k:Int) < (n:Int) - 1 then (at_:Int)+1+(k:Int) else (n:Int) - 1)=((min (n - 1) (at_+1+k):Nat):Int):=by split <;> omega
    rw [q])
   exact ⟨G2,by rw [g2l]; exact g1l,g2b,(fj (s1:=[]) (cB (t:=.fr) (cI (d:=.int kd) (d2:=.int 1) (t:=.fr) (t2:=.fr) (s1:=[]) (s2:=[]) rfl rfl (by rw [fO,aI h1]; rfl)))).trans ((b6 (cx (t:=.nw) e (.inr (.inl rfl)) rfl)).trans cn)⟩
  ·exact ⟨G1,g1l,g1b,(dc (s1:=[]) (cB (t:=.fr) (cI (d:=.int kd) (d2:=.int 1) (t:=.fr) (t2:=.fr) (s1:=[]) (s2:=[]) rfl rfl (by rw [fO,aH h1]; rfl)))).trans cn⟩
 obtain ⟨G3,g3l,g3b,tY⟩:∃ G3:List Nat,G3.length=L∧(∀ y∈G3,y < n)∧cy [b8 ms,b9 ms] [] ms (.ife (.cmp .eq (.v 4) (.ki 2))
   #v[.set (.n 9) (.comp [10] (.n 10) (.rng1 (.v 0)) .nil (.ite (.cmp .eq (.v 10) (.bin .mod (.bin .fdiv (.ix (.v 7) (.ki 0)) (.ki 120)) (.v 0))) (.ix (.v 9) (.v 10)) (.bin .sub (.v 3) (.ki 1))))] .nil) (S K7 (V8 P) (V9 G2)) []=.ok (.nx (S K7 (V8 P) (V9 G3)) []):=by
  by_cases h1:kd=2
  ·obtain ⟨G3,g3l,g3b,e⟩:=iF (fs:=[b8 ms,b9 ms]) (gs:=[]) (own:=[10]) (k:=10) (e:=.ite (.cmp .eq (.v 10) (.bin .mod (.bin .fdiv (.ix (.v 7) (.ki 0)) (.ki 120)) (.v 0))) (.ix (.v 9) (.v 10)) (.bin .sub (.v 3) (.ki 1))) (it:=.rng1 (.v 0)) (l:=S K7 (V8 P) (V9 G2)) (ds:=List.range L) (n:=n) (by rw [aq]; omega) rfl (rL _ _ _) (fun k=>[some ⟨.bo,nD L⟩,some ⟨.bo,.int c⟩,some ⟨.fr,.lst (nu.map D.int)⟩,some ⟨.fr,nD n⟩,some ⟨.fr,.int kd⟩,some ⟨.ow,.lst (rs.map cC)⟩,some ⟨.fr,nD at_⟩,K7,V8 P,V9 G2,some ⟨.fr,nD k⟩,none]) (fun _=>rfl) (fun k hk=>by
    have hk:=aF.mp hk
    have e1:b7 [b8 ms,b9 ms] [] (.cmp .eq (.v 10) (.bin .mod (.bin .fdiv (.ix (.v 7) (.ki 0)) (.ki 120)) (.v 0))) [some ⟨.bo,nD L⟩,some ⟨.bo,.int c⟩,some ⟨.fr,.lst (nu.map D.int)⟩,some ⟨.fr,nD n⟩,some ⟨.fr,.int kd⟩,some ⟨.ow,.lst (rs.map cC)⟩,some ⟨.fr,nD at_⟩,K7,V8 P,V9 G2,some ⟨.fr,nD k⟩,none] []=.ok (.bl (decide ((k:Int)=f0 / 120 % (L:Int))),.fr,[]):=by
     refine cI (d:=nD k) (t:=.fr) (s1:=[]) (d2:=.int (f0 / 120 % (L:Int))) (t2:=.fr) (s2:=[]) rfl (cW (d:=.int (f0 / 120)) (t:=.fr) (s1:=[]) (cW (d:=.int f0) (t:=.fr) (s1:=[]) ?_ (d2:=.int 120) (t2:=.fr) (s2:=[]) rfl (jl _ _ _ ⟨by decide,by decide⟩)) (d2:=nD L) (t2:=.bo) (s2:=[]) rfl (eV _ _ _ (by omega))) (by rw [fO]; rfl)
     simp! [K7,CY]
    by_cases h2:(k:Int)=f0 / 120 % (L:Int)
    ·rw [aI h2] at e1
     refine ⟨G2.getD k 0,g2b _ (dA (by omega)),?_⟩
     show (b7 [b8 ms,b9 ms] [] (.cmp .eq (.v 10) (.bin .mod (.bin .fdiv (.ix (.v 7) (.ki 0)) (.ki 120)) (.v 0))) _ []).bind _=_
     rw [e1,cN]
     exact df (d:=.lst (G2.map nD)) (d2:=nD k) (t:=.fr) (t2:=.fr) (s1:=[]) (s2:=[]) rfl rfl (mh (by omega) [])
    ·rw [aH h2] at e1
     refine ⟨n - 1,by omega,?_⟩
     show (b7 [b8 ms,b9 ms] [] (.cmp .eq (.v 10) (.bin .mod (.bin .fdiv (.ix (.v 7) (.ki 0)) (.ki 120)) (.v 0))) _ []).bind _=_
     rw [e1,cN]
     show R.ok (D.int ((n:Int) - 1),Tag.fr,[])=_
     rw [show (n:Int) - 1=((n - 1:Nat):Int) by omega])
   rw [aq] at g3l
   exact ⟨G3,g3l,g3b,(fj (s1:=[]) (cB (t:=.fr) (cI (d:=.int kd) (d2:=.int 2) (t:=.fr) (t2:=.fr) (s1:=[]) (s2:=[]) rfl rfl (by rw [fO,aI h1]; rfl)))).trans ((b6 (cx (t:=.nw) e (.inr (.inl rfl)) rfl)).trans cn)⟩
  ·exact ⟨G2,g2l,g2b,(dc (s1:=[]) (cB (t:=.fr) (cI (d:=.int kd) (d2:=.int 2) (t:=.fr) (t2:=.fr) (s1:=[]) (s2:=[]) rfl rfl (by rw [fO,aH h1]; rfl)))).trans cn⟩
 obtain ⟨b1,hb1⟩:∃ b1,∀ a b e,b7 [b8 ms,b9 ms] [] (.and #v[.chn .le .le (.ki 1) (.v 4) (.ki 3),.cmp .eq (.v 6) (.bin .sub (.v 3) (.ki 1))]) (S a b e) []=.ok (.bl b1,.fr,[]):=by
  refine ⟨(decide (1≤kd) && decide (kd≤3)) && decide ((at_:Int)=(n:Int) - 1),fun a b e=>zg (t:=.fr) (t2:=.fr) ?_ (cI (d:=nD at_) (d2:=.int ((n:Int) - 1)) (t:=.fr) (t2:=.fr) (s1:=[]) (s2:=[]) rfl rfl (by rw [fO]; rfl))⟩
  by_cases h1:1≤kd
  ·simp! [S,h1,Bool.true_and]
  ·simp! [S,h1,bU]
 obtain ⟨P2,hP2,v6⟩:∃ P2,Turn L P2∧cy [b8 ms,b9 ms] [] ms (.ife (.or #v[.and #v[.chn .le .le (.ki 1) (.v 4) (.ki 3),.cmp .eq (.v 6) (.bin .sub (.v 3) (.ki 1))],.and #v[.cmp .eq (.v 4) (.ki 4),.cmp .eq (.bin .mod (.ix (.v 7) (.ki 0)) (.ki 2)) (.ki 1)]])
   #v[.set (.n 8) (.tupI (.rng1 (.v 0)))] .nil) (S K7 (V8 P) (V9 G3)) []=.ok (.nx (S K7 (V8 P2) (V9 G3)) []):=by
  have e2:=F7 (hb1 K7 (V8 P) (V9 G3)) (zg (a:=.cmp .eq (.v 4) (.ki 4)) (b:=.cmp .eq (.bin .mod (.ix (.v 7) (.ki 0)) (.ki 2)) (.ki 1)) (p:=decide (kd=4)) (q:=decide (f0 % 2=1)) (t:=.fr) (t2:=.fr) (cI (d:=.int kd) (d2:=.int 4) (t:=.fr) (t2:=.fr) (s1:=[]) (s2:=[]) rfl rfl (by rw [fO]; rfl)) (cI (d:=.int (f0 % 2)) (d2:=.int 1) (t:=.fr) (t2:=.fr) (s1:=[]) (s2:=[]) (cW (e70 _ _) rfl (eV _ _ _ (by decide))) rfl (by rw [fO]; rfl)))
  generalize (b1 || decide (kd=4) && decide (f0 % 2=1))=b2 at e2
  cases b2 with
  | false=>exact ⟨P,hP,(dc (cB e2)).trans cn⟩
  | true =>
   refine ⟨List.range L,List.Perm.refl _,(fj (cB e2)).trans ((b6 (cx (t:=.fr) (d:=.tup ((List.range L).map nD)) (s1:=[]) ?_ (.inl rfl) rfl)).trans cn)⟩
   show (gq [b8 ms,b9 ms] [] (.rng1 (.v 0)) _ []).bind (fun (ds,s1)=>if ds.length≤16777216 then cg (.tup ds) s1 else .no)=_
   rw [rL,cN]
   show (if ((List.range L).map nD).length≤16777216 then _ else _)=_
   rw [ap (by rw [ac,aq]; omega)]
   rfl
 obtain ⟨G4,g4l,g4b,v7⟩:∃ G4:List Nat,G4.length=L∧(∀ y∈G4,y < n)∧cy [b8 ms,b9 ms] [] ms (.ife (.and #v[.chn .le .le (.ki 1) (.v 4) (.ki 3),.cmp .eq (.v 6) (.bin .sub (.v 3) (.ki 1))])
   #v[.set (.n 9) (.bin .mul (.lst #v[.v 6]) (.v 0))] .nil) (S K7 (V8 P2) (V9 G3)) []=.ok (.nx (S K7 (V8 P2) (V9 G4)) []):=by
  have e2:=hb1 K7 (V8 P2) (V9 G3)
  cases b1 with
  | false=>exact ⟨G3,g3l,g3b,(dc (cB e2)).trans cn⟩
  | true =>
   refine ⟨List.replicate L at_,List.length_replicate,fun y hy=>by rw [(List.mem_replicate.mp hy).2]; exact hat,(fj (cB e2)).trans ((b6 (cx (t:=.nw) (d:=.lst ((List.replicate L at_).map nD)) (s1:=[]) ?_ (.inr (.inl rfl)) rfl)).trans cn)⟩
   have el:b7 [b8 ms,b9 ms] [] (.lst #v[.v 6]) (S K7 (V8 P2) (V9 G3)) []=.ok (.lst [nD at_],.nw,[]):=by
    have:1≤sizeLine:=by omega
    simp! [S,this]
   have em:=vd [nD at_] (L:Int) [] ⟨by omega,by omega,by show 1*((L:Int)).toNat≤sizeLine; rw [ba]; omega⟩
   have e3:(List.replicate ((L:Int)).toNat [nD at_]).flatten=(List.replicate L at_).map nD:=by
    rw [ba,List.map_replicate,p8]
   rw [← e3]
   exact cW el (d2:=nD L) (t2:=.bo) (s2:=[]) rfl em
 refine ⟨(P2,G4),K7,V8 P2,V9 G4,⟨hP2,g4l,g4b⟩,?_⟩
 refine (b6 s7).trans ((b6 s8).trans ((b6 s9).trans ((b6 tX).trans ((b6 tY).trans ((b6 v6).trans ((b6 v7).trans ((b6 (app_ok (ds:=rs.map cC) (d:=cC (P2,G4)) (t:=.fr) (s1:=[]) rfl (gL (d:=.tup (P2.map nD)) (d2:=.tup (G4.map nD)) rfl (eC (t:=.fr) rfl)) (.inl rfl) (by rw [ac]; omega))).trans ?_)))))))
 rw [eG]
 rfl
theorem mr (hL:2≤L) (hL5:L≤5) (c:Int):∃ M,gW L M∧1≤M.length∧M.length≤8∧(gd ms).run [nD L,.int c]=.ok (.lst (M.map cC),.nw):=by
 have big:=sizeLine_eq
 obtain ⟨nu,hnu,hnl,hnb⟩:=jU (ms:=ms) c 64 (by decide)
 have hnu:(b9 ms).run [.int c,.int 64]=.ok (.lst (nu.map D.int),.nw):=hnu
 obtain ⟨n0,hn0⟩:∃ n0:Int,nu.getD 0 0=n0:=⟨_,rfl⟩
 obtain ⟨n1,hn1⟩:∃ n1:Int,nu.getD 1 0=n1:=⟨_,rfl⟩
 have x0:∀ s,iX (.lst (nu.map D.int)) (.int 0) s=cg (.int n0) s:=fun s=>by
  have:=iT nu 0 (by omega) s
  rw [hn0] at this
  exact this
 have x1:∀ s,iX (.lst (nu.map D.int)) (.int 1) s=cg (.int n1) s:=fun s=>by
  have:=iT nu 1 (by omega) s
  rw [hn1] at this
  exact this
 obtain ⟨n,hn⟩:=bh (show 0≤1+n0 % 8 by omega)
 have hn1':1≤n:=by omega
 have hn8:n≤8:=by omega
 let LL:(Mach × Option Sl × Option Sl × Option Sl × Option Sl)→Lc:=fun t=>[some ⟨.bo,nD L⟩,some ⟨.bo,.int c⟩,some ⟨.fr,.lst (nu.map D.int)⟩,some ⟨.fr,nD n⟩,some ⟨.fr,.int (n1 % 6)⟩,some ⟨.ow,.lst (t.1.map cC)⟩,t.2.1,t.2.2.1,t.2.2.2.1,t.2.2.2.2,none,none]
 obtain ⟨t',h1,h2,h3⟩:=dC (body:=fun d l s=>match T.put (.n 6) d l with | some l1=>cy [b8 ms,b9 ms] [] ms _ l1 s | none=>.no) nD LL (fun pr t=>(∀ r∈t.1,nR L n r)∧t.1.length=pr.length) (List.range n) (fun pr x r t hx ⟨i1,i2⟩=>by
  have hpl:pr.length < n:=by
   have:=bj List.length hx
   rw [aq,ae,aB] at this
   omega
  have hxn:x < n:=aF.mp (by rw [hx]; exact am _ aj)
  obtain ⟨rw_,y7,y8,y9,q1,q2⟩:=qP (ms:=ms) hL hL5 (c:=c) hnl hnb hn8 (kd:=n1 % 6) (rs:=t.1) hxn (by omega) t.2.2.1 t.2.2.2.1 t.2.2.2.2
  exact ⟨(t.1++[rw_],some ⟨.fr,nD x⟩,y7,y8,y9),q2,fun r hr=>by
   rcases aM.mp hr with q | q
   ·exact i1 r q
   ·rw [ak.mp q]; exact q1,by rw [ae,ae,i2]; rfl⟩) ([],none,none,none,none) ⟨(by intro r hr; cases hr),rfl⟩
 have h3:t'.1.length=n:=by rw [h3,aq]
 refine ⟨t'.1,nT h2 h3,by omega,by omega,cA (s:=[]) rfl ?_⟩
 refine (b6 (l1:=[some ⟨.bo,nD L⟩,some ⟨.bo,.int c⟩,some ⟨.fr,.lst (nu.map D.int)⟩,none,none,none,none,none,none,none,none,none]) (s1:=[]) (cx (t:=.nw) (cQ (s1:=[]) (ds:=[.int c,.int 64]) rfl (jF rfl rfl (.inl rfl) (.inl rfl)) hnu) (.inr (.inl rfl)) rfl)).trans ?_
 refine (b6 (l1:=[some ⟨.bo,nD L⟩,some ⟨.bo,.int c⟩,some ⟨.fr,.lst (nu.map D.int)⟩,some ⟨.fr,nD n⟩,none,none,none,none,none,none,none,none]) (s1:=[]) (cx (t:=.fr) (d:=nD n) (s1:=[]) ?_ (.inl rfl) rfl)).trans ?_
 ·show _=R.ok (D.int (n:Int),Tag.fr,[])
  rw [← hn]
  simp! [x0]
 refine (b6 (l1:=[some ⟨.bo,nD L⟩,some ⟨.bo,.int c⟩,some ⟨.fr,.lst (nu.map D.int)⟩,some ⟨.fr,nD n⟩,some ⟨.fr,.int (n1 % 6)⟩,none,none,none,none,none,none,none]) (s1:=[]) (cx (t:=.fr) (d:=.int (n1 % 6)) (s1:=[]) ?_ (.inl rfl) rfl)).trans ?_
 ·simp! [x1]
 refine (b6 (l1:=LL ([],none,none,none,none)) (s1:=[]) (cX (d:=.lst []) ?_)).trans ?_
 ·simp! [aV]
 refine (b6 ((dG (mq (t:=.fr) rfl (by omega))).trans h1)).trans (cE (du (t:=.ow) rfl rfl))
end
-- _law_guise(_law_letters_here,_law_cell_here): slots 0=_law_letters_here 1=_law_cell_here
def fJ:S:=#v[.ret (.call 0 #v[.call 1 #v[.v 0,.v 1],.ki 0])]
noncomputable def eZ (ms:Str→Str→Option Bool):Fn:=.self [cJ ms,gd ms] [] ms fJ [false,false] 2 2
-- _law_ample(_law_letters_here,_law_cell_here): slots 0=_law_letters_here 1=_law_cell_here 2=_law_nums 3=_law_many 4=_law_rows_here 5=_law_at 6=_law_goings 7=_law_k
def fK:S:=#v[.ife (.cmp .ne (.bin .mod (.v 1) (.ki 5)) (.ki 2))
 #v[.ret (.call 3 #v[.v 0,.v 1])]
 .nil,.set (.n 2) (.call 2 #v[.v 1,.ki 131]),.set (.n 3) (.bin .add (.ki 9) (.bin .mod (.ix (.v 2) (.ki 0)) (.ki 40))),.own 4 (.lst .nil),.loop (.n 5) (.rng1 (.v 3))
 #v[.own 6 (.comp [7] (.n 7) (.rng1 (.v 0)) .nil (.bin .mod (.bin .add (.ix (.v 2) (.bin .add (.ki 1) (.bin .mod (.bin .add (.bin .mul (.v 5) (.v 0)) (.v 7)) (.ki 127)))) (.bin .mul (.v 5) (.v 7))) (.v 3))),.sub 6 (.bin .mod (.v 5) (.v 0)) (.bin .mod (.bin .add (.v 5) (.ki 1)) (.v 3)),.app 4 (.tup #v[.call 1 #v[.ix (.v 2) (.bin .add (.ki 1) (.bin .mod (.bin .add (.bin .mul (.ki 3) (.v 5)) (.ix (.v 2) (.ki 130))) (.ki 127))),.v 0],.bi .tuple #v[.v 6]])],.ret (.call 0 #v[.v 4,.ki 0])]
noncomputable def fL (ms:Str→Str→Option Bool):Fn:=.self [cJ ms,b8 ms,b9 ms,eZ ms] [] ms fK [false,false] 2 8
theorem qQ {L:Nat} {F M:Mach} {s:Nat} (hF:Form L F) (hM:MOk L M) (hs:s < M.length) (h0:Eqv L F 0 M s):∀ m,m < F.length→∃ a,a < M.length∧Eqv L F m M a:=by
 intro m
 induction m using Nat.strongRecOn with
 | _ m ih =>
  intro hm
  rcases bt m with rfl | m0
  ·exact ⟨s,hs,h0⟩
  obtain ⟨j,k,hj,hk,e,_⟩:=hF.fo m m0 hm
  obtain ⟨a,ha,hE⟩:=ih j hj (by omega)
  refine ⟨M.nx a k,hM.nx_lt ha hk,?_⟩
  have:=hE.nx hk
  rw [e] at this
  exact this

structure Guise (L:Nat) (F:Mach):Prop where
 fm:Form L F
 tn:∀ s,s < F.length→Turn L (F.fst s)
theorem kW {L:Nat} {F M:Mach} {s:Nat} (hF:Form L F) (hM:gW L M) (hs:s < M.length) (h0:Eqv L F 0 M s):Guise L F:=⟨hF,fun m hm=>by
 obtain ⟨a,ha,hE⟩:=qQ hF hM.1 hs h0 m hm
 rw [hE.fst]
 exact hM.2 a ha⟩
theorem Guise.mt {L:Nat} {F:Mach} (h:Guise L F):gW L F:=⟨h.fm.ok,h.tn⟩
section
variable {ms:Str→Str→Option Bool} {L:Nat}
theorem lB (hL:2≤L) (hL5:L≤5) (c:Int):∃ F,Guise L F∧F.length≤8∧(eZ ms).run [nD L,.int c]=.ok (.tup (F.map cC),.fr):=by
 obtain ⟨M,hM,m1,m8,c1⟩:=mr (ms:=ms) hL hL5 c
 obtain ⟨F,f1,f2,f3,c2⟩:=gO (ms:=ms) (s:=0) hM.1 (by omega) (by omega) (.inl rfl) (by omega)
 refine ⟨F,kW f1 hM (by omega) f2,by omega,cA (s:=[]) rfl (cE (du (t:=.fr) (cQ (s1:=[]) (ds:=[.lst (M.map cC),nD 0]) rfl ?_ c2) rfl))⟩
 exact jF (t:=.nw) (t2:=.fr) (cQ (s1:=[]) (ds:=[nD L,.int c]) rfl (jF rfl rfl (.inl rfl) (.inl rfl)) c1) rfl (.inl rfl) (.inr (.inl rfl))

def wA (L:Nat) (M:Mach):Prop:=∀ s,s < M.length→∃ a,a < L∧M.nx s a=(s+1) % M.length
theorem o9 (hL:2≤L) (hL5:L≤5) (c:Int):∃ F,Guise L F∧F.length≤48∧(F.length≤8∨∃ M,gW L M∧0 < M.length∧M.length≤48∧Eqv L F 0 M 0∧wA L M)∧(fL ms).run [nD L,.int c]=.ok (.tup (F.map cC),.fr):=by
 have big:=sizeLine_eq
 let fs:List Fn:=[cJ ms,b8 ms,b9 ms,eZ ms]
 have ec:b7 fs [] (.cmp .ne (.bin .mod (.v 1) (.ki 5)) (.ki 2)) [some ⟨.bo,nD L⟩,some ⟨.bo,.int c⟩,none,none,none,none,none,none] []=.ok (.bl (!decide (c % 5=2)),.fr,[]) :=
  cI (cW rfl rfl (eV _ _ _ (by decide))) rfl (by rw [lX]; rfl)
 by_cases hc:c % 5=2
 ·rw [aI hc] at ec
  obtain ⟨nu,hnu,hnl,hnb⟩:=jU (ms:=ms) c 131 (by decide)
  have hnu:(b9 ms).run [.int c,.int 131]=.ok (.lst (nu.map D.int),.nw):=hnu
  have nuG:∀ i,i < 131→0≤nu.getD i 0∧nu.getD i 0 < 1009:=fun i hi=>hnb _ (by rw [List.getD,ah (by omega)]; exact bA _)
  have n00:=nuG 0 (by decide)
  have n130:=nuG 130 (by decide)
  obtain ⟨n,hn⟩:=bh (show 0≤9+nu.getD 0 0 % 40 by omega)
  have hn9:9≤n:=by omega
  have hn48:n≤48:=by omega
  have x0:∀ s,iX (.lst (nu.map D.int)) (.int 0) s=cg (.int (nu.getD 0 0)) s:=fun s=>iT nu 0 (by omega) s
  have x130:∀ s,iX (.lst (nu.map D.int)) (.int 130) s=cg (.int (nu.getD 130 0)) s:=fun s=>iT nu 130 (by omega) s
  -- an item of the numbers at a place reckoned by 127
  have at127:∀ (x:X) (l:Lc) (v:Int),l[2]?=some (some ⟨.fr,.lst (nu.map D.int)⟩)→b7 fs [] x l []=.ok (.int v,.fr,[])→∃ w:Int,0≤w∧b7 fs [] (.ix (.v 2) (.bin .add (.ki 1) (.bin .mod x (.ki 127)))) l []=.ok (.int w,.fr,[]):=fun x l v hl hx=>by
   obtain ⟨j,j1,j2⟩:=il (x:=v) (n:=127) (by decide)
   refine ⟨nu.getD (1+j) 0,(nuG (1+j) (by omega)).1,df (d:=.lst (nu.map D.int)) (d2:=.int ((1+j:Nat):Int)) (t:=.fr) (t2:=.fr) (s1:=[]) (s2:=[]) ?_ ?_ (iT nu (1+j) (by omega) [])⟩
   ·show (match l[2]? with | some (some ⟨k,d⟩)=>R.ok (d,k,[]) | _=>.no)=_
    rw [hl]
   ·rw [show ((1+j:Nat):Int)=1+v % ((127:Nat):Int) by omega]
    exact cW rfl (cW hx rfl (eV _ _ _ (by decide))) rfl
  let LL:(Mach × Option Sl × Option Sl)→Lc:=fun t=>[some ⟨.bo,nD L⟩,some ⟨.bo,.int c⟩,some ⟨.fr,.lst (nu.map D.int)⟩,some ⟨.fr,nD n⟩,some ⟨.ow,.lst (t.1.map cC)⟩,t.2.1,t.2.2,none]
  obtain ⟨t',h1,h2,h3,h4⟩:=dC (body:=fun d l s=>match T.put (.n 5) d l with | some l1=>cy fs [] ms #v[.own 6 (.comp [7] (.n 7) (.rng1 (.v 0)) .nil (.bin .mod (.bin .add (.ix (.v 2) (.bin .add (.ki 1) (.bin .mod (.bin .add (.bin .mul (.v 5) (.v 0)) (.v 7)) (.ki 127)))) (.bin .mul (.v 5) (.v 7))) (.v 3))),.sub 6 (.bin .mod (.v 5) (.v 0)) (.bin .mod (.bin .add (.v 5) (.ki 1)) (.v 3)),.app 4 (.tup #v[.call 1 #v[.ix (.v 2) (.bin .add (.ki 1) (.bin .mod (.bin .add (.bin .mul (.ki 3) (.v 5)) (.ix (.v 2) (.ki 130))) (.ki 127))),.v 0],.bi .tuple #v[.v 6]])] l1 s | none=>.no) nD LL (fun pr t=>(∀ r∈t.1,nR L n r)∧t.1.length=pr.length∧∀ i,i < pr.length→∃ a,a < L∧(t.1[i]?.map fun r=>r.2.getD a 0)=some ((i+1) % n)) (List.range n) (fun pr x r t hx ⟨i1,i2,i3⟩=>by
   have hpl:pr.length < n:=by
    have:=bj List.length hx
    rw [aq,ae,aB] at this
    omega
   have hxn:x < n:=aF.mp (by rw [hx]; exact am _ aj)
   let l1:Lc:=LL (t.1,some ⟨.fr,nD x⟩,t.2.2)
   obtain ⟨G1,g1l,g1b,e6⟩:=iF (fs:=fs) (gs:=[]) (own:=[7]) (k:=7) (e:=.bin .mod (.bin .add (.ix (.v 2) (.bin .add (.ki 1) (.bin .mod (.bin .add (.bin .mul (.v 5) (.v 0)) (.v 7)) (.ki 127)))) (.bin .mul (.v 5) (.v 7))) (.v 3)) (it:=.rng1 (.v 0)) (l:=l1) (ds:=List.range L) (n:=n) (by rw [aq]; omega) rfl (mq (t:=.bo) rfl (by omega)) (fun k=>[some ⟨.bo,nD L⟩,some ⟨.bo,.int c⟩,some ⟨.fr,.lst (nu.map D.int)⟩,some ⟨.fr,nD n⟩,some ⟨.ow,.lst (t.1.map cC)⟩,some ⟨.fr,nD x⟩,t.2.2,some ⟨.fr,nD k⟩]) (fun _=>rfl) (fun k hk=>by
    have hk:=aF.mp hk
    obtain ⟨w,w0,ew⟩:=at127 (.bin .add (.bin .mul (.v 5) (.v 0)) (.v 7)) [some ⟨.bo,nD L⟩,some ⟨.bo,.int c⟩,some ⟨.fr,.lst (nu.map D.int)⟩,some ⟨.fr,nD n⟩,some ⟨.ow,.lst (t.1.map cC)⟩,some ⟨.fr,nD x⟩,t.2.2,some ⟨.fr,nD k⟩] ((x:Int)*(L:Int)+(k:Int)) rfl (cW (cW (d:=nD x) (d2:=nD L) (t:=.fr) (t2:=.bo) (s1:=[]) (s2:=[]) rfl rfl (gJ _ _ _ (.inl ⟨by omega,by omega⟩))) (d2:=nD k) (t2:=.fr) (s2:=[]) rfl rfl)
    obtain ⟨y,y1,y2⟩:=il (x:=w+(x:Int)*(k:Int)) (n:=n) (by omega)
    refine ⟨y,y1,?_⟩
    show _=R.ok (D.int (y:Int),Tag.fr,[])
    rw [← y2]
    exact cW (cW ew (cW (d:=nD x) (d2:=nD k) (t:=.fr) (t2:=.fr) (s1:=[]) (s2:=[]) rfl rfl (gJ _ _ _ (.inl ⟨by omega,by omega⟩))) rfl) (d2:=nD n) (t2:=.fr) (s2:=[]) rfl (eV _ _ _ (by omega)))
   rw [aq] at g1l
   obtain ⟨j,j1,j2⟩:=il (x:=(x:Int)) (n:=L) (by omega)
   obtain ⟨y,y1,y2⟩:=il (x:=(x:Int)+1) (n:=n) (by omega)
   obtain ⟨w,w0,ew⟩:=at127 (.bin .add (.bin .mul (.ki 3) (.v 5)) (.ix (.v 2) (.ki 130))) (LL (t.1,some ⟨.fr,nD x⟩,some ⟨.ow,.lst ((G1.set j y).map nD)⟩)) (3*(x:Int)+nu.getD 130 0) rfl (cW (cW (d:=.int 3) (d2:=nD x) (t:=.fr) (t2:=.fr) (s1:=[]) (s2:=[]) rfl rfl (gJ _ _ _ (.inl ⟨by decide,by decide⟩))) (df (d:=.lst (nu.map D.int)) (d2:=.int 130) (t:=.fr) (t2:=.fr) (s1:=[]) (s2:=[]) rfl rfl (x130 [])) rfl)
   obtain ⟨P,hP,c8⟩:=ik (ms:=ms) (L:=L) (by omega) w w0
   have eixN:ixN (G1.map nD).length (j:Int)=some j:=by
    rw [ac]
    unfold ixN
    rw [ap (by omega),ap (by omega),ba]
   have esub:jZ (.lst (G1.map nD)) (nD j) (nD y)=some (.lst ((G1.set j y).map nD)):=by
    show (match ixN (G1.map nD).length (j:Int) with | some j=>some (D.lst ((G1.map nD).set j (nD y))) | none=>none)=_
    rw [eixN,List.map_set]
   refine ⟨(t.1++[(P,G1.set j y)],some ⟨.fr,nD x⟩,some ⟨.ow,.lst ((G1.set j y).map nD)⟩),(b6 (cX e6)).trans ((b6 (f9 (t:=.fr) (t2:=.fr) (s1:=[]) (s2:=[]) (y:=nD y) (d:=nD j) ?_ (.inl rfl) rfl ?_ (.inl rfl) esub)).trans ((b6 (app_ok (ds:=t.1.map cC) (d:=cC (P,G1.set j y)) (t:=.fr) (s1:=[]) rfl (gL (d:=.tup (P.map nD)) (d2:=.tup ((G1.set j y).map nD)) ?_ (eC (t:=.ow) rfl)) (.inl rfl) (by rw [ac]; omega))).trans ?_)),fun r hr=>?_,by rw [ae,ae,i2]; rfl,fun i hi=>?_⟩
   ·show _=R.ok (D.int (y:Int),Tag.fr,[])
    rw [← y2]
    exact cW (d:=.int ((x:Int)+1)) (t:=.fr) (s1:=[]) rfl (d2:=nD n) (t2:=.fr) (s2:=[]) rfl (eV _ _ _ (by omega))
   ·show _=R.ok (D.int (j:Int),Tag.fr,[])
    rw [← j2]
    exact cW (d:=nD x) (t:=.fr) (s1:=[]) rfl (d2:=nD L) (t2:=.bo) (s2:=[]) rfl (eV _ _ _ (by omega))
   ·exact cQ (s1:=[]) (ds:=[.int w,nD L]) rfl (jF ew rfl (.inl rfl) (.inl rfl)) c8
   ·show R.ok (Out.nx [some ⟨.bo,nD L⟩,some ⟨.bo,.int c⟩,some ⟨.fr,.lst (nu.map D.int)⟩,some ⟨.fr,nD n⟩,some ⟨.ow,.lst (t.1.map cC++[cC (P,G1.set j y)])⟩,some ⟨.fr,nD x⟩,some ⟨.ow,.lst ((G1.set j y).map nD)⟩,none] [])=R.ok (Out.nx [some ⟨.bo,nD L⟩,some ⟨.bo,.int c⟩,some ⟨.fr,.lst (nu.map D.int)⟩,some ⟨.fr,nD n⟩,some ⟨.ow,.lst ((t.1++[(P,G1.set j y)]).map cC)⟩,some ⟨.fr,nD x⟩,some ⟨.ow,.lst ((G1.set j y).map nD)⟩,none] [])
    rw [eG]
   ·rcases aM.mp hr with q | q
    ·exact i1 r q
    ·rw [ak.mp q]
     refine ⟨hP,by rw [aN]; exact g1l,fun z hz=>?_⟩
     rcases List.mem_or_eq_of_mem_set hz with z1 | z1
     ·exact g1b z z1
     ·rw [z1]; exact y1
   ·have ex:x=pr.length:=by
     have q:(List.range n)[pr.length]?=some x:=by rw [hx,aS (aA _),bH]; rfl
     rw [bx hpl] at q
     exact (ad q).symm
    rw [ae,aC] at hi
    rcases bE i pr.length with z | z
    ·obtain ⟨a,ha,q⟩:=i3 i z
     refine ⟨a,ha,?_⟩
     rw [a9 (by omega)]
     exact q
    ·have ei:i=t.1.length:=by omega
     refine ⟨j,j1,?_⟩
     rw [ei,aS (aA _),bH]
     show some ((G1.set j y).getD j 0)=_
     rw [List.getD,aL (by omega)]
     have q:(((x+1) % n:Nat):Int)=(y:Int):=by
      rw [Int.natCast_emod,Int.natCast_add]
      exact y2
     rw [show List.length t.1=x by omega]
     exact bj some (Int.ofNat.inj q).symm) ([],none,none) ⟨(by intro r hr; cases hr),rfl,fun i hi=>absurd hi (be i)⟩
  have h3:t'.1.length=n:=by rw [h3,aq]
  have hM:=nT h2 h3
  obtain ⟨F,f1,f2,f3,c2⟩:=gO (ms:=ms) (s:=0) (M:=t'.1) hM.1 (by omega) (by omega) (.inl rfl) (by omega)
  have hw:wA L t'.1:=fun s hs=>by
   obtain ⟨a,ha,q⟩:=h4 s (by rw [aq]; omega)
   refine ⟨a,ha,?_⟩
   rw [h3,← ad ((show some (t'.1.nx s a)=_ from ?_).trans q)]
   rw [ah hs]
   show some ((Mach.row t'.1 s).2.getD a 0)=some ((t'.1[s]).2.getD a 0)
   have er:Mach.row t'.1 s=t'.1[s]:=by
    unfold Mach.row
    rw [List.getD,ah hs]
    rfl
   rw [er]
  refine ⟨F,kW f1 hM (by omega) f2,by omega,.inr ⟨t'.1,hM,by omega,by omega,f2,hw⟩,cA (s:=[]) rfl ((b6 ((dc (cB ec)).trans cn)).trans ?_)⟩
  refine (b6 (l1:=[some ⟨.bo,nD L⟩,some ⟨.bo,.int c⟩,some ⟨.fr,.lst (nu.map D.int)⟩,none,none,none,none,none]) (s1:=[]) (cx (t:=.nw) (cQ (s1:=[]) (ds:=[.int c,.int 131]) rfl (jF rfl rfl (.inl rfl) (.inl rfl)) hnu) (.inr (.inl rfl)) rfl)).trans ?_
  refine (b6 (l1:=[some ⟨.bo,nD L⟩,some ⟨.bo,.int c⟩,some ⟨.fr,.lst (nu.map D.int)⟩,some ⟨.fr,nD n⟩,none,none,none,none]) (s1:=[]) (cx (t:=.fr) (d:=nD n) (s1:=[]) ?_ (.inl rfl) rfl)).trans ?_
  ·show _=R.ok (D.int (n:Int),Tag.fr,[])
   rw [← hn]
   exact cW rfl (cW (df (d:=.lst (nu.map D.int)) (d2:=.int 0) (t:=.fr) (t2:=.fr) (s1:=[]) (s2:=[]) rfl rfl (x0 [])) rfl (eV _ _ _ (by decide))) rfl
  refine (b6 (l1:=LL ([],none,none)) (s1:=[]) (cX (d:=.lst []) ?_)).trans ?_
  ·simp! [aV]
  exact (b6 ((dG (mq (t:=.fr) rfl (by omega))).trans h1)).trans (cE (du (t:=.fr) (cQ (s1:=[]) (ds:=[.lst (t'.1.map cC),nD 0]) rfl (jF (t:=.ow) (t2:=.fr) rfl rfl (.inl rfl) (.inr (.inl rfl))) c2) rfl))
 ·rw [aH hc] at ec
  obtain ⟨F,f1,f2,c1⟩:=lB (ms:=ms) hL hL5 c
  exact ⟨F,f1,by omega,.inl f2,cA (s:=[]) rfl (cE ((fj (cB ec)).trans (cE (du (t:=.fr) (cQ (s1:=[]) (ds:=[nD L,.int c]) rfl (jF rfl rfl (.inl rfl) (.inl rfl)) c1) rfl))))⟩
theorem qR (hL:2≤L) (hL5:L≤5) (c:Int):∃ F,Guise L F∧F.length≤48∧(fL ms).run [nD L,.int c]=.ok (.tup (F.map cC),.fr):=by
 obtain ⟨F,h1,h2,_,h3⟩:=o9 (ms:=ms) hL hL5 c
 exact ⟨F,h1,h2,h3⟩
end
-- _law_word(_law_letters_here,_law_cell_here,_law_most): slots 0=_law_letters_here 1=_law_cell_here 2=_law_most 3=_law_nums 4=_law_pick
-- check_word(letters,word): slots 0=letters 1=word 2=letter
section
variable {ms:Str→Str→Option Bool} {L:Nat}
end
-- _law_read(_law_rows_here,_law_at,_law_word_here): slots 0=_law_rows_here 1=_law_at 2=_law_word_here 3=_law_made 4=_law_letter
-- breadth(guise): slots 0=guise
-- worn_from(guise,at,word): slots 0=guise 1=at 2=word 3=made 4=letter 5=first 6=goings
-- worn(guise,word): slots 0=guise 1=word

def Mach.out (M:Mach):Nat→List Nat→List Nat
 | _,[]=>[]
 | s,a :: w=>(M.fst s).getD a 0 :: Mach.out M (M.nx s a) w

def Mach.go (M:Mach):Nat→List Nat→Nat
 | s,[]=>s
 | s,a :: w=>Mach.go M (M.nx s a) w
section
variable {M N:Mach} {L:Nat}
theorem pa:∀ (v w:List Nat) (s:Nat),Mach.go M s (v++w)=Mach.go M (Mach.go M s v) w
 | [],w,s=>rfl
 | a :: v,w,s=>pa v w (M.nx s a)
theorem Eqv.out {s t:Nat} (h:Eqv L M s N t):∀ (w:List Nat),(∀ x∈w,x < L)→Mach.out M s w=Mach.out N t w:=by
 intro w
 induction w generalizing s t with
 | nil=>intro _; rfl
 | cons a w ih =>
  intro hw
  show (M.fst s).getD a 0 :: Mach.out M (M.nx s a) w=(N.fst t).getD a 0 :: Mach.out N (N.nx t a) w
  rw [h.fst,ih (h.nx (hw a aj)) fun x hx=>hw x (ao _ hx)]
theorem Eqv.go {s t:Nat} (h:Eqv L M s N t):∀ (w:List Nat),(∀ x∈w,x < L)→Eqv L M (Mach.go M s w) N (Mach.go N t w):=by
 intro w
 induction w generalizing s t with
 | nil=>intro _; exact h
 | cons a w ih =>
  intro hw
  exact ih (h.nx (hw a aj)) fun x hx=>hw x (ao _ hx)
end
section
variable {ms:Str→Str→Option Bool} {L s:Nat} {M:Mach} {d:D}
end
section
variable {fs:List Fn} {gs:List D} {a b c:X} {l:Lc} {t t2 t3:Tag} {xs:List D} {k m:Nat}
theorem tE (h:b7 fs gs a l []=.ok (.tup xs,t,[])):b7 fs gs (.bi .len #v[a]) l []=.ok (.int (xs.length:Int),.fr,[]):=by
 show (ft fs gs #v[a] [] l []).bind _=_
 rw [cz h (.inl rfl) rfl]
 rfl
theorem mu (h:b7 fs gs a l []=.ok (.lst xs,t,[])):b7 fs gs (.bi .len #v[a]) l []=.ok (.int (xs.length:Int),.fr,[]):=by
 show (ft fs gs #v[a] [] l []).bind _=_
 rw [cz h (.inl rfl) rfl]
 rfl
end
theorem B0 {a b:Int} (h:a=b) (s:cj):COp.run .eq (.int a) (.int b) s=.ok (.bl true,.fr,s):=by rw [fO,aI h]; rfl
theorem B3 {a b:Int} (h:¬ a=b) (s:cj):COp.run .eq (.int a) (.int b) s=.ok (.bl false,.fr,s):=by rw [fO,aH h]; rfl
theorem B4 {a b:Int} (h:¬ a=b) (s:cj):COp.run .ne (.int a) (.int b) s=.ok (.bl true,.fr,s):=by rw [lX,aH h]; rfl
theorem B5 {a b:Int} (h:a=b) (s:cj):COp.run .ne (.int a) (.int b) s=.ok (.bl false,.fr,s):=by rw [lX,aI h]; rfl
-- row_behind(guise,word): slots 0=guise 1=word 2=at 3=letter
-- behind(guise,word): slots 0=guise 1=word

noncomputable def mE (L:Nat) (M:Mach) (s:Nat):Mach:=by
 classical
 exact if h:∃ F,Form L F∧Eqv L F 0 M s then Classical.choose h else []
theorem mw {L:Nat} {F M:Mach} {s:Nat} (h1:Form L F) (h2:Eqv L F 0 M s):mE L M s=F:=by
 have h:∃ F,Form L F∧Eqv L F 0 M s:=⟨F,h1,h2⟩
 have e:mE L M s=Classical.choose h:=by
  unfold mE
  exact dif_pos h
 obtain ⟨q1,q2⟩:=Classical.choose_spec h
 rw [e]
 exact nB q1 h1 (q2.trans h2.symm)
section
variable {ms:Str→Str→Option Bool} {L s:Nat} {M N F:Mach} {d:D}
theorem jJ (hM:MOk L M) (hL:L≤1000) (hz:M.length≤100000) (hs:s < M.length):Form L (mE L M s)∧Eqv L (mE L M s) 0 M s∧(mE L M s).length≤M.length:=by
 obtain ⟨F,f1,f2,f3,_⟩:=gO (ms:=fun _ _=>none) hM hL hz (.inr rfl) hs
 rw [mw f1 f2]
 exact ⟨f1,f2,f3⟩
theorem qS (hM:gW L M) (hL:L≤1000) (hz:M.length≤100000) (hs:s < M.length):Guise L (mE L M s):=by
 obtain ⟨f1,f2,_⟩:=jJ hM.1 hL hz hs
 exact kW f1 hM hs f2
theorem jV (hM:MOk L M) (hL:L≤1000) (hz:M.length≤100000) (hd:dU d M) (hs:s < M.length):(cJ ms).run [d,nD s]=.ok (.tup ((mE L M s).map cC),.fr):=by
 obtain ⟨F,f1,f2,_,f4⟩:=gO (ms:=ms) hM hL hz hd hs
 rw [mw f1 f2]
 exact f4
theorem jt (hM:MOk L M) (hL:L≤1000) (hz:M.length≤100000) (hd:dU d M) (hs:s < M.length) (h60:(mE L M s).length≤60):(iE ms).run [d,nD s]=.ok (.tup ((mE L M s).map cC),.fr):=by
 obtain ⟨F,f1,f2,f3⟩:=qK (ms:=ms) hM hL hz hd hs
 have e:=mw f1 f2
 rw [e] at h60 ⊢
 rcases f3 with ⟨_,q⟩ | ⟨q,_⟩
 ·exact q
 ·omega
theorem vK {n:Nat} (hM:MOk L M) (hL:L≤1000) (hz:M.length≤100000):D.pl (n+4) (.tup (M.map cC)):=by
 have big:=sizeLine_eq
 refine ⟨by rw [ac]; omega,fun x hx=>?_⟩
 obtain ⟨r,hr,rfl⟩:=aP.mp hx
 obtain ⟨i,hi,e⟩:=bN.mp hr
 have hrow:M.row i=r:=by
  unfold Mach.row
  rw [List.getD,ah hi,e]
  rfl
 obtain ⟨q1,q2,_,_⟩:=hM i hi
 unfold Mach.fst at q1
 unfold Mach.gos at q2
 rw [hrow] at q1 q2
 have row:∀ X:List Nat,X.length=L→D.pl (n+2) (.tup (X.map nD)):=fun X hX=>by
  refine ⟨by rw [ac]; omega,fun x hx=>?_⟩
  obtain ⟨i,_,rfl⟩:=aP.mp hx
  exact trivial
 refine ⟨by rw [sizeLine_eq]; show 2≤16777216; omega,fun y hy=>?_⟩
 rcases ax.mp hy with rfl | hy
 ·exact row _ q1
 rcases ax.mp hy with rfl | hy
 ·exact row _ q2
 ·cases hy
end

-- check_turn(letters,first): slots 0=letters 1=first
-- check_rows(letters,rows): slots 0=letters 1=rows 2=first 3=goings 4=to
-- form(letters,rows): slots 0=letters 1=rows
-- same_letters(letters): slots 0=letters
-- still(letters): slots 0=letters
-- _law_calm(_law_letters_here): slots 0=_law_letters_here
section
variable {fs:List Fn} {gs:List D} {ms:Str→Str→Option Bool} {it x:X} {l:Lc} {ds:List D} {L:Nat} {M:Mach} {d:D}

def mx (L:Nat):Mach:=[(List.range L,List.replicate L 0)]

theorem p9 {t:Tag} (hd:dU d M) (ht:t≠.ow) (h:b7 fs gs x l []=.ok (d,t,[])):gq fs gs (.it x) l []=.ok (M.map cC,[]):=by
 rcases hd with rfl | rfl
 ·exact gK h ht
 ·exact ie h ht
theorem gD {t:Tag} (hd:dU d M) (h:b7 fs gs x l []=.ok (d,t,[])):b7 fs gs (.bi .len #v[x]) l []=.ok (nD M.length,.fr,[]):=by
 rcases hd with rfl | rfl
 ·rw [mu h,ac]
 ·rw [tE h,ac]
end
-- _law_pairs(_law_one,_law_other): slots 0=_law_one 1=_law_other 2=_law_rows_here 3=_law_first 4=_law_goings 5=_law_late 6=_law_ends 7=_law_both 8=_law_paired 9=_law_became 10=_law_k
def fM:S:=#v[.own 2 (.lst .nil),.loop (.t #v[.n 3,.n 4]) (.it (.v 0))
 #v[.loop (.t #v[.n 5,.n 6]) (.it (.v 1))
 #v[.set (.n 7) (.bi .tuple #v[.comp [9] (.n 9) (.it (.v 3)) .nil (.ix (.v 5) (.v 9))]),.set (.n 8) (.bi .tuple #v[.comp [10] (.n 10) (.rng1 (.bi .len #v[.v 3])) .nil (.bin .add (.bin .mul (.ix (.v 4) (.v 10)) (.bi .len #v[.v 1])) (.ix (.v 6) (.ix (.v 3) (.v 10))))]),.app 2 (.tup #v[.v 7,.v 8])]],.ret (.v 2)]
noncomputable def fN (ms:Str→Str→Option Bool):Fn:=.self [] [] ms fM [false,false] 2 11
-- turned(one,other): slots 0=one 1=other 2=letter
-- joined(one,other): slots 0=one 1=other 2=numbers 3=pairs 4=rows 5=first 6=goings 7=left 8=right 9=letter 10=to 11=pair

def im (P Q:List Nat):List Nat:=P.map fun c=>Q.getD c 0
theorem kX {L:Nat} {P Q:List Nat} (hP:Turn L P) (hQ:Turn L Q):Turn L (im P Q):=by
 have e:(List.range L).map (fun c=>Q.getD c 0)=Q:=by
  refine kR (by rw [ac,aq,hQ.len]) fun i hi=>?_
  rw [ac,aq] at hi
  rw [List.getD,aD,bx hi]
  rfl
 have h:(im P Q).Perm ((List.range L).map fun c=>Q.getD c 0):=hP.map _
 rw [e] at h
 exact h.trans hQ

def iW (L n:Nat) (r r':List Nat × List Nat):List Nat × List Nat:=(im r.1 r'.1,(List.range L).map fun a=>r.2.getD a 0*n+r'.2.getD (r.1.getD a 0) 0)

def gE (L:Nat) (M N:Mach):Mach:=M.flatMap fun r=>N.map fun r'=>iW L N.length r r'
theorem nU {α β:Type} (f:α→List β) (n:Nat):∀ (xs:List α),(∀ x∈xs,(f x).length=n)→∀ (i j:Nat) (x:α),xs[i]?=some x→j < n→(xs.flatMap f)[i*n+j]?=(f x)[j]?
 | [],_,i,j,x,h,_=>by cases h
 | y :: ys,hf,0,j,x,h,hj=>by
  obtain rfl:=ad h
  rw [List.flatMap_cons,Nat.zero_mul,Nat.zero_add,a9 (by rw [hf _ aj]; exact hj)]
 | y :: ys,hf,i+1,j,x,h,hj=>by
  have hy:=hf y aj
  rw [List.flatMap_cons,aS (by rw [hy,bV]; omega),hy,show (i+1)*n+j - n=i*n+j by rw [bV]; omega]
  exact nU f n ys (fun z hz=>hf z (ao _ hz)) i j x h hj
theorem kY {α β:Type} (f:α→List β) (n:Nat):∀ (xs:List α),(∀ x∈xs,(f x).length=n)→(xs.flatMap f).length=xs.length*n
 | [],_=>by simp
 | y :: ys,hf=>by
  rw [List.flatMap_cons,ae,hf y aj,kY f n ys fun z hz=>hf z (ao _ hz),aB,bV]
  omega
section
variable {L:Nat} {M N:Mach}
theorem kZ:(gE L M N).length=M.length*N.length:=kY _ _ _ fun _ _=>ac _
theorem nV {M:Mach} {i:Nat} (h:i < M.length):M[i]?=some (M.row i):=by
 unfold Mach.row
 rw [List.getD,ah h]
 rfl
theorem nW {i j:Nat} (hi:i < M.length) (hj:j < N.length):(gE L M N).row (i*N.length+j)=iW L N.length (M.row i) (N.row j):=by
 have h:=nU (fun r=>N.map fun r'=>iW L N.length r r') N.length M (fun _ _=>ac _) i j (M.row i) (nV hi) hj
 rw [aD,nV hj] at h
 unfold Mach.row
 rw [List.getD]
 show ((M.flatMap fun r=>N.map fun r'=>iW L N.length r r')[i*N.length+j]?).getD ([],[])=_
 rw [h]
 rfl
theorem nX {i j:Nat} (hi:i < M.length) (hj:j < N.length):(gE L M N).fst (i*N.length+j)=im (M.fst i) (N.fst j):=by
 unfold Mach.fst
 rw [nW hi hj]
 rfl
theorem tF {i j:Nat} (hi:i < M.length) (hj:j < N.length):(gE L M N).gos (i*N.length+j)=(List.range L).map fun a=>M.nx i a*N.length+N.nx j ((M.fst i).getD a 0):=by
 unfold Mach.gos
 rw [nW hi hj]
 rfl
theorem pb {c n m:Nat} (h:c < m*n):c / n < m∧c % n < n∧c=c / n*n+c % n:=by
 have hn:0 < n:=by
  rcases bt n with rfl | z
  ·rw [Nat.mul_zero] at h; omega
  ·exact z
 refine ⟨(Nat.div_lt_iff_lt_mul hn).mpr h,Nat.mod_lt _ hn,?_⟩
 rw [Nat.mul_comm]
 exact (Nat.div_add_mod c n).symm
theorem vL {i j n m:Nat} (hi:i < m) (hj:j < n):i*n+j < m*n:=by
 have:(i+1)*n≤m*n:=Nat.mul_le_mul_right n hi
 rw [bV] at this
 omega
theorem zh (hM:gW L M) {i a:Nat} (hi:i < M.length) (ha:a < L):(M.fst i).getD a 0 < L:=(hM.2 i hi).lt _ (dA (by rw [(hM.2 i hi).len]; exact ha))
theorem vM (hM:gW L M) (hN:gW L N):gW L (gE L M N):=by
 have key:∀ c,c < (gE L M N).length→c / N.length < M.length∧c % N.length < N.length∧c=c / N.length*N.length+c % N.length:=fun c hc=>by
  rw [kZ] at hc
  exact pb hc
 refine ⟨fun c hc=>?_,fun c hc=>?_⟩
 ·obtain ⟨q1,q2,q3⟩:=key c hc
  rw [q3,nX q1 q2,tF q1 q2]
  have ht:=kX (hM.2 _ q1) (hN.2 _ q2)
  refine ⟨ht.len,by rw [ac,aq],ht.lt,fun x hx=>?_⟩
  obtain ⟨a,ha,rfl⟩:=aP.mp hx
  have ha:=aF.mp ha
  rw [kZ]
  exact vL (hM.1.nx_lt q1 ha) (hN.1.nx_lt q2 (zh hM q1 ha))
 ·obtain ⟨q1,q2,q3⟩:=key c hc
  rw [q3,nX q1 q2]
  exact kX (hM.2 _ q1) (hN.2 _ q2)
end
section
variable {fs:List Fn} {gs:List D} {ms:Str→Str→Option Bool} {L:Nat} {M N:Mach} {d d2:D}

theorem qT (hM:gW L M) (hN:gW L N) (hL:L≤1000) (hm:M.length≤300) (hn:N.length≤300) (hd:dU d M) (hd2:dU d2 N):(fN ms).run [d,d2]=.ok (.lst ((gE L M N).map cC),.nw):=by
 have big:=sizeLine_eq
 let LL:(Mach × Option Sl × Option Sl × Option Sl × Option Sl × Option Sl × Option Sl)→Lc:=fun t=>[some ⟨.bo,d⟩,some ⟨.bo,d2⟩,some ⟨.ow,.lst (t.1.map cC)⟩,t.2.1,t.2.2.1,t.2.2.2.1,t.2.2.2.2.1,t.2.2.2.2.2.1,t.2.2.2.2.2.2,none,none]
 obtain ⟨t',h1,h2⟩:=dC (body:=fun d l s=>match T.put (.t #v[.n 3,.n 4]) d l with | some l1=>cy [] [] ms #v[.loop (.t #v[.n 5,.n 6]) (.it (.v 1)) #v[.set (.n 7) (.bi .tuple #v[.comp [9] (.n 9) (.it (.v 3)) .nil (.ix (.v 5) (.v 9))]),.set (.n 8) (.bi .tuple #v[.comp [10] (.n 10) (.rng1 (.bi .len #v[.v 3])) .nil (.bin .add (.bin .mul (.ix (.v 4) (.v 10)) (.bi .len #v[.v 1])) (.ix (.v 6) (.ix (.v 3) (.v 10))))]),.app 2 (.tup #v[.v 7,.v 8])]] l1 s | none=>.no) cC LL
  (fun pr t=>t.1=pr.flatMap fun r=>N.map fun r'=>iW L N.length r r') M (fun pr r rest t hx hi=>by
  have hpl:pr.length < M.length:=by
   have:=bj List.length hx
   rw [ae,aB] at this
   omega
  have hrow:M.row pr.length=r:=by
   unfold Mach.row
   rw [hx,List.getD,aS (aA _),bH]
   rfl
  have hP:=hM.2 _ hpl
  obtain ⟨_,p2,_,_⟩:=hM.1 _ hpl
  unfold Mach.fst at hP
  unfold Mach.gos at p2
  rw [hrow] at hP p2
  have hprl:(pr.flatMap fun r=>N.map fun r'=>iW L N.length r r').length≤300*300:=by
   rw [kY _ N.length _ fun _ _=>ac _]
   exact Nat.mul_le_mul (by omega) hn
  let S:(Mach × Option Sl × Option Sl × Option Sl × Option Sl)→Lc:=fun u=>LL (u.1,some ⟨.fr,.tup (r.1.map nD)⟩,some ⟨.fr,.tup (r.2.map nD)⟩,u.2.1,u.2.2.1,u.2.2.2.1,u.2.2.2.2)
  obtain ⟨u',c1,c2⟩:=dC (body:=fun d l s=>match T.put (.t #v[.n 5,.n 6]) d l with | some l1=>cy [] [] ms #v[.set (.n 7) (.bi .tuple #v[.comp [9] (.n 9) (.it (.v 3)) .nil (.ix (.v 5) (.v 9))]),.set (.n 8) (.bi .tuple #v[.comp [10] (.n 10) (.rng1 (.bi .len #v[.v 3])) .nil (.bin .add (.bin .mul (.ix (.v 4) (.v 10)) (.bi .len #v[.v 1])) (.ix (.v 6) (.ix (.v 3) (.v 10))))]),.app 2 (.tup #v[.v 7,.v 8])] l1 s | none=>.no) cC S
   (fun pr2 u=>u.1=(pr.flatMap fun r=>N.map fun r'=>iW L N.length r r')++pr2.map fun r'=>iW L N.length r r') N (fun pr2 r2 rest2 u hx2 hi2=>by
   have hql:pr2.length < N.length:=by
    have:=bj List.length hx2
    rw [ae,aB] at this
    omega
   have hrow2:N.row pr2.length=r2:=by
    unfold Mach.row
    rw [hx2,List.getD,aS (aA _),bH]
    rfl
   have hQ:=hN.2 _ hql
   obtain ⟨_,q2,_,_⟩:=hN.1 _ hql
   unfold Mach.fst at hQ
   unfold Mach.gos at q2
   rw [hrow2] at hQ q2
   have hul:(u.1.map cC).length < sizeLine:=by
    rw [hi2,ac,ae,ac]
    omega
   have e7:b7 [] [] (.bi .tuple #v[.comp [9] (.n 9) (.it (.v 3)) .nil (.ix (.v 5) (.v 9))]) (S (u.1,some ⟨.fr,.tup (r2.1.map nD)⟩,some ⟨.fr,.tup (r2.2.map nD)⟩,u.2.2.2)) []=.ok (.tup ((im r.1 r2.1).map nD),.fr,[]):=by
    refine eC (t:=.nw) ?_
    unfold im
    rw [bD]
    have hl:=hP.len
    refine eh (ds:=r.1) (en:=nD) rfl (ie (t:=.fr) rfl (by intro q; cases q)) (fun c hc=>⟨[some ⟨.bo,d⟩,some ⟨.bo,d2⟩,some ⟨.ow,.lst (u.1.map cC)⟩,some ⟨.fr,.tup (r.1.map nD)⟩,some ⟨.fr,.tup (r.2.map nD)⟩,some ⟨.fr,.tup (r2.1.map nD)⟩,some ⟨.fr,.tup (r2.2.map nD)⟩,u.2.2.2.1,u.2.2.2.2,some ⟨.fr,nD c⟩,none],.fr,rfl,?_,.inl rfl⟩) (by omega)
    exact df (d:=.tup (r2.1.map nD)) (d2:=nD c) (t:=.fr) (t2:=.fr) (s1:=[]) (s2:=[]) rfl rfl (mf (by rw [hQ.len]; exact hP.lt c hc) [])
   have e8:b7 [] [] (.bi .tuple #v[.comp [10] (.n 10) (.rng1 (.bi .len #v[.v 3])) .nil (.bin .add (.bin .mul (.ix (.v 4) (.v 10)) (.bi .len #v[.v 1])) (.ix (.v 6) (.ix (.v 3) (.v 10))))]) (S (u.1,some ⟨.fr,.tup (r2.1.map nD)⟩,some ⟨.fr,.tup (r2.2.map nD)⟩,some ⟨.fr,.tup ((im r.1 r2.1).map nD)⟩,u.2.2.2.2)) []=.ok (.tup ((iW L N.length r r2).2.map nD),.fr,[]):=by
    refine eC (t:=.nw) ?_
    show _=R.ok (D.lst (((List.range L).map fun a=>r.2.getD a 0*N.length+r2.2.getD (r.1.getD a 0) 0).map nD),Tag.nw,[])
    rw [bD]
    have hlen:b7 [] [] (.bi .len #v[.v 3]) (S (u.1,some ⟨.fr,.tup (r2.1.map nD)⟩,some ⟨.fr,.tup (r2.2.map nD)⟩,some ⟨.fr,.tup ((im r.1 r2.1).map nD)⟩,u.2.2.2.2)) []=.ok (nD L,.fr,[]):=by
     rw [tE (xs:=r.1.map nD) (t:=.fr) rfl,ac,hP.len]
    refine eh (ds:=List.range L) (en:=nD) rfl (mq hlen (by omega)) (fun a ha=>⟨[some ⟨.bo,d⟩,some ⟨.bo,d2⟩,some ⟨.ow,.lst (u.1.map cC)⟩,some ⟨.fr,.tup (r.1.map nD)⟩,some ⟨.fr,.tup (r.2.map nD)⟩,some ⟨.fr,.tup (r2.1.map nD)⟩,some ⟨.fr,.tup (r2.2.map nD)⟩,some ⟨.fr,.tup ((im r.1 r2.1).map nD)⟩,u.2.2.2.2,none,some ⟨.fr,nD a⟩],.fr,rfl,?_,.inl rfl⟩) (by rw [aq]; omega)
    have ha:=aF.mp ha
    have hc:r.1.getD a 0 < L:=hP.lt _ (dA (by rw [hP.len]; exact ha))
    show _=R.ok (D.int ((r.2.getD a 0*N.length+r2.2.getD (r.1.getD a 0) 0:Nat):Int),Tag.fr,[])
    rw [Int.natCast_add,Int.natCast_mul]
    refine cW (cW (df (d:=.tup (r.2.map nD)) (d2:=nD a) (t:=.fr) (t2:=.fr) (s1:=[]) (s2:=[]) rfl rfl (mf (by omega) [])) (gD (M:=N) hd2 (t:=.bo) rfl) (gJ _ _ _ (.inr ⟨by omega,by omega⟩))) (df (d:=.tup (r2.2.map nD)) (t:=.fr) (s1:=[]) rfl (df (d:=.tup (r.1.map nD)) (d2:=nD a) (t:=.fr) (t2:=.fr) (s1:=[]) (s2:=[]) rfl rfl (mf (by rw [hP.len]; exact ha) [])) (mf (by omega) [])) rfl
   refine ⟨(u.1++[iW L N.length r r2],some ⟨.fr,.tup (r2.1.map nD)⟩,some ⟨.fr,.tup (r2.2.map nD)⟩,some ⟨.fr,.tup ((im r.1 r2.1).map nD)⟩,some ⟨.fr,.tup ((iW L N.length r r2).2.map nD)⟩),(b6 (cx (t:=.fr) e7 (.inl rfl) rfl)).trans ((b6 (cx (t:=.fr) e8 (.inl rfl) rfl)).trans ((b6 (app_ok (ds:=u.1.map cC) (d:=cC (iW L N.length r r2)) (t:=.fr) (s1:=[]) rfl (gL rfl rfl) (.inl rfl) hul)).trans ?_)),?_⟩
   ·show R.ok (Out.nx (LL (u.1,some ⟨.fr,.tup (r.1.map nD)⟩,some ⟨.fr,.tup (r.2.map nD)⟩,some ⟨.fr,.tup (r2.1.map nD)⟩,some ⟨.fr,.tup (r2.2.map nD)⟩,some ⟨.fr,.tup ((im r.1 r2.1).map nD)⟩,some ⟨.fr,.tup ((iW L N.length r r2).2.map nD)⟩) |>.set 2 (some ⟨.ow,.lst (u.1.map cC++[cC (iW L N.length r r2)])⟩)) [])=_
    rw [← eG]
    rfl
   ·show u.1++[iW L N.length r r2]=_
    rw [hi2,eG,bc]) (t.1,t.2.2.2.1,t.2.2.2.2.1,t.2.2.2.2.2.1,t.2.2.2.2.2.2) (by show t.1=_; rw [hi,List.map_nil,aX])
  refine ⟨(u'.1,some ⟨.fr,.tup (r.1.map nD)⟩,some ⟨.fr,.tup (r.2.map nD)⟩,u'.2.1,u'.2.2.1,u'.2.2.2.1,u'.2.2.2.2),(b6 ((dG (p9 hd2 (t:=.bo) (by intro q; cases q) rfl)).trans c1)).trans cn,?_⟩
  show u'.1=_
  rw [c2,List.flatMap_append]
  simp) ([],none,none,none,none,none,none) rfl
 refine cA (s:=[]) rfl ((b6 (l1:=LL ([],none,none,none,none,none,none)) (s1:=[]) (cX (d:=.lst []) ?_)).trans ((b6 ((dG (p9 hd (t:=.bo) (by intro q; cases q) rfl)).trans h1)).trans (cE (du (t:=.ow) ?_ rfl))))
 ·simp! [aV]
 ·show R.ok (D.lst (t'.1.map cC),Tag.ow,[])=_
  rw [h2]
  rfl
end

section
variable {ms:Str→Str→Option Bool} {L:Nat} {M N:Mach} {d d2:D}


end
end GM


namespace GM
section
variable {L:Nat} {P Q R:List Nat}

end

section
variable {L:Nat} {M N K M' N':Mach}
theorem tG {a:Nat} (ha:a < L):(mx L).nx 0 a=0:=by
 show (List.replicate L 0).getD a 0=0
 rw [List.getD,List.getElem?_replicate,ap ha]
 rfl

end
end GM


namespace GM
open PySem PySem.Spec PyProof.Rows L2
-- undone(one): slots 0=one 1=back 2=letter 3=became
-- back(guise): slots 0=guise 1=rows 2=first 3=goings 4=other 5=letter
-- _law_both(_law_one,_law_other): slots 0=_law_one 1=_law_other 2=_law_told
section
variable {ms:Str→Str→Option Bool} {L:Nat} {M N:Mach} {d d2:D}

end
theorem lC (M:Mach):D.eqs 4 (.tup (M.map cC)):=fun x hx=>by
 obtain ⟨r,_,rfl⟩:=aP.mp hx
 intro y hy
 have row:∀ X:List Nat,D.eqs 2 (.tup (X.map nD)):=fun X z hz=>by
  obtain ⟨i,_,rfl⟩:=aP.mp hz
  exact trivial
 rcases ax.mp hy with rfl | hy
 ·exact row _
 rcases ax.mp hy with rfl | hy
 ·exact row _
 ·cases hy
theorem nY {r s:List Nat × List Nat} (h:cC r=cC s):r=s:=by
 obtain ⟨r1,r2⟩:=r
 obtain ⟨s1,s2⟩:=s
 have h:=D.tup.inj h
 injection h with h1 h2
 injection h2 with h2 _
 have q1:r1=s1:=ka (D.tup.inj h1)
 have q2:r2=s2:=ka (D.tup.inj h2)
 rw [q1,q2]
theorem tH {M N:Mach} (h:M.map cC=N.map cC):M=N:=List.map_inj_right (fun _ _ e=>nY e) |>.mp h


open Classical in
theorem vN (M N:Mach) (s:cj):COp.run .ne (.tup (M.map cC)) (.tup (N.map cC)) s=.ok (.bl (!decide (M=N)),.fr,s):=by
 rw [BY (lC M) (lC N) (by decide)]
 have e:decide (D.tup (M.map cC)=D.tup (N.map cC))=decide (M=N):=bu.mpr ⟨fun h=>tH (D.tup.inj h),fun h=>by rw [h]⟩
 rw [e]
 rfl
theorem qU (M:Mach) (s:cj):COp.run .ne (.tup (M.map cC)) (.tup (M.map cC)) s=.ok (.bl false,.fr,s):=by
 rw [vN,aI rfl]
 rfl
-- _law_three(_law_one,_law_other,_law_third): slots 0=_law_one 1=_law_other 2=_law_third 3=_law_left 4=_law_right
-- law(_law_script): slots 0=_law_script 1=_law_letters_here 2=_law_one 3=_law_other 4=_law_third 5=_law_calm 6=_law_both_here 7=_law_word_here 8=_law_due
section
variable {ms:Str→Str→Option Bool} {L:Nat} {F G H:Mach}


end
-- _law_floor_size(_law_letters_here,_law_many): slots 0=_law_letters_here 1=_law_many 2=_law_found 3=_law_turn
-- _law_figures(_law_letters_here,_law_many,_law_number_here): slots 0=_law_letters_here 1=_law_many 2=_law_number_here 3=_law_made 4=_law_turn
-- _law_number(_law_letters_here,_law_word): slots 0=_law_letters_here 1=_law_word 2=_law_number_here 3=_law_letter
-- number_of(letters,word): slots 0=letters 1=word 2=number 3=letter
-- words_on(letters,many): slots 0=letters 1=many 2=found 3=turn
-- word_of(letters,many,number): slots 0=letters 1=many 2=number 3=made 4=turn
-- size_of(letters,many): slots 0=letters 1=many
-- floor(guise,many): slots 0=guise 1=many 2=letters 3=found 4=number 5=word


section
variable {ms:Str→Str→Option Bool} {L:Int}
end
end GM


namespace GM

def gY (A R:List Int) (n:Nat):Int:=if n < A.length then A.getD n 0 else R.getD ((n - A.length) % R.length) 0

def Fz (R:List Int) (s:Nat):Prop:=∀ i,i+s < R.length→R.getD (i+s) 0=R.getD i 0
def B6 (R:List Int):Prop:=R≠[]∧∀ s,0 < s→s < R.length→s∣R.length→¬ Fz R s
def nZ (A R:List Int):Prop:=B6 R∧(A≠[]→A.getD (A.length - 1) 0≠R.getD (R.length - 1) 0)
def EP (w:Nat→Int) (q:Nat):Prop:=0 < q∧∃ N,∀ n,N≤n→w (n+q)=w n
theorem n6 {X Y:List Int} (hl:X.length=Y.length) (h:∀ i,i < X.length→X.getD i 0=Y.getD i 0):X=Y:=by
 apply List.ext_getElem hl
 intro i h1 h2
 have:=h i h1
 rw [List.getD,List.getD,ah h1,ah h2] at this
 exact this
theorem tI {w:Nat→Int} {d N:Nat} (h:∀ n,N≤n→w (n+d)=w n):∀ k n,N≤n→w (n+d*k)=w n
 | 0,n,_=>rfl
 | k+1,n,hn=>by
  have e:n+d*(k+1)=(n+d*k)+d:=by rw [Nat.mul_succ]; omega
  rw [e,h _ (by omega),tI h k n hn]
theorem zi {w:Nat→Int} {d p:Nat} (hd:EP w d) (hp:EP w p):p % d=0∨EP w (p % d):=by
 obtain ⟨d0,N1,h1⟩:=hd
 obtain ⟨p0,N2,h2⟩:=hp
 rcases bt (p % d) with q | q
 ·exact .inl q
 refine .inr ⟨q,N1+N2,fun n hn=>?_⟩
 have e:=tI h1 (p / d) (n+p % d) (by omega)
 rw [← e,Nat.add_assoc,Nat.mod_add_div p d]
 exact h2 n (by omega)
theorem tJ {w:Nat→Int} {p:Nat} (h:EP w p):∃ d,EP w d∧∀ q,EP w q→d∣q:=by
 have ⟨d,hd,hm⟩:∃ d,EP w d∧∀ q,EP w q→d≤q:=by
  induction p using Nat.strongRecOn with
  | _ p ih =>
   by_cases hq:∃ q,EP w q∧q < p
   ·obtain ⟨q,q1,q2⟩:=hq
    exact ih q q2 q1
   ·exact ⟨p,h,fun q hq2=>by
     rcases bE q p with z | z
     ·exact absurd ⟨q,hq2,z⟩ hq
     ·exact z⟩
 refine ⟨d,hd,fun q hq=>?_⟩
 rcases zi hd hq with z | z
 ·exact Nat.dvd_of_mod_eq_zero z
 ·have:=hm _ z
  have:=Nat.mod_lt q hd.1
  omega
theorem qa {A R:List Int} {n:Nat} (hn:A.length≤n):gY A R (n+R.length)=gY A R n:=by
 unfold gY
 rw [av (by omega),av (by omega),show n+R.length - A.length=n - A.length+R.length by omega,Nat.add_mod_right]
theorem pd {A R:List Int} (hR:R≠[]):EP (gY A R) R.length:=⟨List.length_pos_iff.mpr hR,A.length,fun _ hn=>qa hn⟩
theorem io {A R:List Int} {i:Nat} (hi:i < R.length) (N:Nat):gY A R (A.length+R.length*N+i)=R.getD i 0:=by
 unfold gY
 rw [av (by omega),show A.length+R.length*N+i - A.length=i+R.length*N by omega,Nat.add_mul_mod_self_left,Nat.mod_eq_of_lt hi]
theorem qV {A R:List Int} {d:Nat} (h:EP (gY A R) d):Fz R d:=fun i hi=>by
 obtain ⟨d0,N,hN⟩:=h
 have:=hN (A.length+R.length*N+i) (by
  have:N≤R.length*N:=Nat.le_mul_of_pos_left N (by omega)
  omega)
 rw [Nat.add_assoc,io hi,io (by omega)] at this
 exact this
theorem n8 {A R:List Int} (hR:B6 R) {q:Nat} (hq:EP (gY A R) q):R.length∣q:=by
 obtain ⟨d,hd,hm⟩:=tJ hq
 have h1:=hm _ (pd hR.1)
 have hl:=List.length_pos_iff.mpr hR.1
 rcases bE d R.length with z | z
 ·exact absurd (qV hd) (hR.2 d hd.1 z h1)
 ·have:=Nat.le_of_dvd hl h1
  have e:d=R.length:=by omega
  rw [← e]
  exact hm _ hq
theorem lD {A R B S:List Int} (h1:nZ A R) (h2:nZ B S) (h:∀ n,gY A R n=gY B S n) (hl:R.length=S.length):B.length≤A.length:=by
 rcases bE A.length B.length with z | z
 ·have q:=qa (A:=A) (R:=R) (n:=B.length - 1) (by omega)
  have hs:=List.length_pos_iff.mpr h2.1.1
  rw [h,h,hl,show B.length - 1+S.length=B.length+S.length*0+(S.length - 1) by omega,io (by omega)] at q
  have hB:B≠[]:=by
   intro e
   rw [e] at z
   exact absurd z (by simp)
  have r:=h2.2 hB
  unfold gY at q
  rw [ap (by omega)] at q
  exact absurd q.symm r
 ·exact z
theorem my {A R B S:List Int} (h1:nZ A R) (h2:nZ B S) (h:∀ n,gY A R n=gY B S n):A=B∧R=S:=by
 have e:gY A R=gY B S:=funext h
 have hl:R.length=S.length:=Nat.dvd_antisymm (n8 h1.1 (e ▸ pd h2.1.1)) (n8 h2.1 (e ▸ pd h1.1.1))
 have hA:A.length=B.length:=Nat.le_antisymm (lD h2 h1 (fun n=>(h n).symm) hl.symm) (lD h1 h2 h hl)
 refine ⟨n6 hA fun i hi=>?_,n6 hl fun i hi=>?_⟩
 ·have:=h i
  unfold gY at this
  rw [ap hi,ap (by omega)] at this
  exact this
 ·have:=h (A.length+R.length*0+i)
  rw [io hi,hl,hA,io (by omega)] at this
  exact this




end GM


namespace GM
open PySem PySem.Spec PyProof.Rows L2
-- _law_plain(_law_ahead,_law_ring): slots 0=_law_ahead 1=_law_ring 2=_law_size 3=_law_many 4=_law_head 5=_law_k
-- shortest_ring(ring): slots 0=ring 1=size
-- plain_word(beginning,ring): slots 0=beginning 1=ring 2=size 3=back 4=cut
-- _law_told(_law_ahead,_law_ring): slots 0=_law_ahead 1=_law_ring 2=_law_told_here
section
variable {ms:Str→Str→Option Bool}

end
end GM


namespace GM

def B7 (u v:List Nat) (n:Nat):Nat:=if n < u.length then u.getD n 0 else v.getD ((n - u.length) % v.length) 0

def Mach.st (M:Mach) (s:Nat) (w:Nat→Nat):Nat→Nat
 | 0=>s
 | n+1=>M.nx (Mach.st M s w n) (w n)

def Mach.wear (M:Mach) (s:Nat) (w:Nat→Nat) (n:Nat):Nat:=(M.fst (Mach.st M s w n)).getD (w n) 0
abbrev ci (u:List Nat):List Int:=u.map fun n:Nat=>(n:Int)
theorem qb (u:List Nat) (i:Nat):(ci u).getD i 0=((u.getD i 0:Nat):Int):=by
 rw [List.getD,List.getD,aD]
 cases u[i]? <;> rfl
theorem tK (u v:List Nat) (n:Nat):gY (ci u) (ci v) n=(B7 u v n:Int):=by
 unfold gY B7
 rw [ac,ac,qb,qb]
 split <;> rfl

section
variable {M N:Mach} {L:Nat} {s:Nat} {w:Nat→Nat}

theorem Eqv.wear {t:Nat} (h:Eqv L M s N t) (hw:∀ n,w n < L):∀ n,Eqv L M (Mach.st M s w n) N (Mach.st N t w n)∧Mach.wear M s w n=Mach.wear N t w n:=by
 have hs:∀ n,Eqv L M (Mach.st M s w n) N (Mach.st N t w n):=fun n=>by
  induction n with
  | zero=>exact h
  | succ n ih=>exact ih.nx (hw n)
 refine fun n=>⟨hs n,?_⟩
 show (M.fst (Mach.st M s w n)).getD (w n) 0=(N.fst (Mach.st N t w n)).getD (w n) 0
 rw [(hs n).fst]
end
end GM


namespace GM
open PySem PySem.Spec PyProof.Rows L2
section
variable {ms:Str→Str→Option Bool}
end
section
variable {ms:Str→Str→Option Bool}
end

structure Tell (w:Nat→Nat) (a r:List Nat):Prop where
 pl:nZ (ci a) (ci r)
 inf:∀ n,B7 a r n=w n
theorem tL {u v:List Nat} (h:ci u=ci v):u=v:=(List.map_inj_right (f:=fun n:Nat=>(n:Int)) (fun a b e=>by have e:(a:Int)=b:=e; omega)).mp h
section
variable {w w2:Nat→Nat} {a r a2 r2 u v:List Nat} {L:Nat} {ms:Str→Str→Option Bool}
theorem Tell.ne (h:Tell w a r):r≠[]:=fun e=>h.pl.1.1 (by rw [e]; rfl)
theorem Tell.unique (h:Tell w a r) (g:Tell w2 a2 r2) (hw:∀ n,w n=w2 n):a=a2∧r=r2:=by
 obtain ⟨q1,q2⟩:=my h.pl g.pl fun n=>by rw [tK,tK,h.inf,g.inf,hw]
 exact ⟨tL q1,tL q2⟩
theorem Tell.lt (h:Tell w a r) (hw:∀ n,w n < L):(∀ x∈a,x < L)∧∀ x∈r,x < L:=by
 constructor
 ·intro x hx
  obtain ⟨i,hi,rfl⟩:=bN.mp hx
  have:=h.inf i
  unfold B7 at this
  rw [ap hi,List.getD,ah hi] at this
  have e:a[i]=w i:=this
  rw [e]
  exact hw i
 ·intro x hx
  obtain ⟨i,hi,rfl⟩:=bN.mp hx
  have:=h.inf (a.length+i)
  unfold B7 at this
  rw [av (by omega),Nat.add_sub_cancel_left,Nat.mod_eq_of_lt hi,List.getD,ah hi] at this
  have e:r[i]=w (a.length+i):=this
  rw [e]
  exact hw _
end
section
variable {fs:List Fn} {gs:List D} {ms:Str→Str→Option Bool} {x y z:X} {l l1 l2:Lc} {s s1 s2 s3:cj} {d d2 d3:D} {t t2 t3:Tag} {i j:Int} {e:Ex}
theorem vO {n:Nat} (h:l[n]?=some (some ⟨t,d⟩)):b7 fs gs (.v n) l s=.ok (d,t,s):=by
 show (match l[n]? with
  | some (some ⟨k,d⟩)=>R.ok (d,k,s)
  | _=>.no)=_
 rw [h]
theorem DW {n:Nat} (h:gs[n]?=some d):b7 fs gs (.g n) l s=.ok (d,.fr,s):=by
 show (match gs[n]? with | some d=>cg d s | none=>.no)=_
 rw [h]
 rfl
theorem B8:b7 fs gs (.ki i) l s=.ok (.int i,.fr,s):=rfl
theorem B9 {a:Str}:b7 fs gs (.ks a) l s=.ok (.str a,.fr,s):=rfl
theorem Cd {a:Bool}:b7 fs gs (.kb a) l s=.ok (.bl a,.fr,s):=rfl
theorem Ce:b7 fs gs .kn l s=.ok (.non,.fr,s):=rfl
theorem zj (h:b7 fs gs x l s=.ok (.int i,t,s1)):b7 fs gs (.neg x) l s=.ok (.int (-i),.fr,s1):=by
 show (b7 fs gs x l s).bind _=_
 rw [h]
 rfl
theorem Cf (h:b7 fs gs x l s=.ok (.bl false,t,s1)):b7 fs gs (.not x) l s=.ok (.bl true,.fr,s1):=oZ h
theorem Cg (h:b7 fs gs x l s=.ok (.bl true,t,s1)):b7 fs gs (.not x) l s=.ok (.bl false,.fr,s1):=oZ h
theorem FA {f:BI} (h:b7 fs gs x l s=.ok (d,t,s1)) (h2:BI.run f [d] s1=.ok (d2,t2,s2)):b7 fs gs (.bi f #v[x]) l s=.ok (d2,t2,s2):=by
 show (ft fs gs #v[x] [] l s).bind _=_
 rw [cz h (.inl rfl) rfl]
 exact h2
theorem F8 {f:BI} (h:b7 fs gs x l s=.ok (d,t,s1)) (h2:b7 fs gs y l s1=.ok (d2,t2,s2)) (h3:BI.run f [d,d2] s2=.ok (d3,t3,s3)):b7 fs gs (.bi f #v[x,y]) l s=.ok (d3,t3,s3):=by
 show (ft fs gs #v[x,y] [] l s).bind _=_
 rw [cz h (.inl rfl) (cz h2 (.inl rfl) rfl)]
 exact h3
theorem zk {ty:Ty} {b:Bool} (h:b7 fs gs x l s=.ok (d,t,s1)) (h2:Ty.run ty d=some b):b7 fs gs (.isi x ty) l s=.ok (.bl b,.fr,s1):=by
 show (b7 fs gs x l s).bind _=_
 rw [h,cN]
 show (match Ty.run ty d with | some b=>cg (.bl b) s1 | none=>.no)=_
 rw [h2]
 rfl
theorem vP {kp:List Bool}:ft fs gs .nil kp l s=.ok ([],s):=rfl
theorem zl:ju fs gs .nil l s=.ok ([],s):=rfl
theorem zm {ds:List D} (h:b7 fs gs x l s=.ok (d,t,s1)) (ht:tq t d) (h2:ju fs gs y l s1=.ok (ds,s2)):ju fs gs (.cons x y) l s=.ok (d :: ds,s2):=by
 show cf (b7 fs gs x l s) (fun d s1=>(ju fs gs y l s1).bind fun (ds,s2)=>.ok (d :: ds,s2))=_
 rw [h,fu,av (iD ht),h2]
 rfl
theorem qW {ds:List D} {n:Nat} (h:ds.length≤n):ds.length≤n:=h
theorem zn {ds:List D} (h:ju fs gs x l s=.ok (ds,s1)) (hz:ds.length≤1000):b7 fs gs (.tup x) l s=.ok (.tup ds,.fr,s1):=by
 have big:=sizeLine_eq
 show (ju fs gs x l s).bind _=_
 rw [h,cN]
 show (if ds.length≤sizeLine then cg (.tup ds) s1 else .no)=_
 rw [ap (by omega)]
 rfl
theorem zo {ds:List D} (h:ju fs gs x l s=.ok (ds,s1)) (hz:ds.length≤1000):b7 fs gs (.lst x) l s=.ok (.lst ds,.nw,s1):=by
 have big:=sizeLine_eq
 show (ju fs gs x l s).bind _=_
 rw [h,cN]
 show (if ds.length≤sizeLine then dY (.lst ds) s1 else .no)=_
 rw [ap (by omega)]
 rfl
theorem vQ {k:Bool}:b7 fs gs (.dic k .nil .nil) l s=.ok (.dic k [],.nw,s):=rfl
theorem Ch:BOp.run .add (.int i) (.int j) s=.ok (.int (i+j),.fr,s):=rfl
theorem Ci:BOp.run .sub (.int i) (.int j) s=.ok (.int (i - j),.fr,s):=rfl
theorem Cj (h:(-(2 ^ 64) < i∧i < 2 ^ 64)∨(-(2 ^ 64) < j∧j < 2 ^ 64)):BOp.run .mul (.int i) (.int j) s=.ok (.int (i*j),.fr,s):=gJ _ _ _ h
theorem Ck (h:0 < j∧j < 1073741824):BOp.run .fdiv (.int i) (.int j) s=.ok (.int (i / j),.fr,s):=jl _ _ _ h
theorem Cn (h:0 < j):BOp.run .mod (.int i) (.int j) s=.ok (.int (i % j),.fr,s):=eV _ _ _ h
theorem DX (h:i < j):COp.run .lt (.int i) (.int j) s=.ok (.bl true,.fr,s):=nF (aI h).symm
theorem DY (h:¬ i < j):COp.run .lt (.int i) (.int j) s=.ok (.bl false,.fr,s):=nF (aH h).symm
theorem DZ (h:j < i):COp.run .gt (.int i) (.int j) s=.ok (.bl true,.fr,s):=kS (aI h).symm
theorem D0 (h:¬ j < i):COp.run .gt (.int i) (.int j) s=.ok (.bl false,.fr,s):=kS (aH h).symm
theorem D3 (h:i≤j):COp.run .le (.int i) (.int j) s=.ok (.bl true,.fr,s):=by
 show cg (.bl (decide (i≤j))) s=_
 rw [aI h]
 rfl
theorem D4 (h:¬ i≤j):COp.run .le (.int i) (.int j) s=.ok (.bl false,.fr,s):=by
 show cg (.bl (decide (i≤j))) s=_
 rw [aH h]
 rfl
theorem Co (h:j≤i):COp.run .ge (.int i) (.int j) s=.ok (.bl true,.fr,s):=DU h s
theorem Cp (h:¬ j≤i):COp.run .ge (.int i) (.int j) s=.ok (.bl false,.fr,s):=DV h s
theorem D5 (h:i=j):COp.run .eq (.int i) (.int j) s=.ok (.bl true,.fr,s):=B0 h s
theorem D6 (h:¬ i=j):COp.run .eq (.int i) (.int j) s=.ok (.bl false,.fr,s):=B3 h s
theorem D7 (h:¬ i=j):COp.run .ne (.int i) (.int j) s=.ok (.bl true,.fr,s):=B4 h s
theorem D8 (h:i=j):COp.run .ne (.int i) (.int j) s=.ok (.bl false,.fr,s):=B5 h s
theorem Cq:COp.run .isn .non .non s=.ok (.bl true,.fr,s):=by rw [lY,aI rfl]; rfl
theorem qc (h:d≠.non):COp.run .isn d .non s=.ok (.bl false,.fr,s):=by rw [lY,aH h]; rfl
theorem zp:COp.run .isnn .non .non s=.ok (.bl false,.fr,s):=by rw [kO,aI rfl]; rfl
theorem mA (h:d≠.non):COp.run .isnn d .non s=.ok (.bl true,.fr,s):=by rw [kO,aH h]; rfl
theorem Cr:COp.run .isn (.int i) .non s=.ok (.bl false,.fr,s):=qc (by intro q; cases q)
theorem Cs {a:Str}:COp.run .isn (.str a) .non s=.ok (.bl false,.fr,s):=qc (by intro q; cases q)
theorem Cu {a:List D}:COp.run .isn (.tup a) .non s=.ok (.bl false,.fr,s):=qc (by intro q; cases q)
theorem Cv {a:List D}:COp.run .isn (.lst a) .non s=.ok (.bl false,.fr,s):=qc (by intro q; cases q)
theorem zq:COp.run .isnn (.int i) .non s=.ok (.bl true,.fr,s):=mA (by intro q; cases q)
theorem zr {a:Str}:COp.run .isnn (.str a) .non s=.ok (.bl true,.fr,s):=mA (by intro q; cases q)
theorem zt {a:List D}:COp.run .isnn (.tup a) .non s=.ok (.bl true,.fr,s):=mA (by intro q; cases q)
theorem zu {a:List D}:COp.run .isnn (.lst a) .non s=.ok (.bl true,.fr,s):=mA (by intro q; cases q)
theorem Cw {t:Tag} (h:b7 fs gs x l s=.ok (.bl true,t,s1)) {k:Bool} (h2:fA fs gs y l s1=.ok (k,s2)):fA fs gs (.cons x y) l s=.ok (k,s2):=(jS h).trans h2
theorem D9 {t:Tag} (h:b7 fs gs x l s=.ok (.bl false,t,s1)) {k:Bool} (h2:hU fs gs y l s1=.ok (k,s2)):hU fs gs (.cons x y) l s=.ok (k,s2):=(vE h).trans h2
theorem Cy {xs:List D}:BI.run .len [.tup xs] s=.ok (.int xs.length,.fr,s):=rfl
theorem Cz {xs:List D}:BI.run .len [.lst xs] s=.ok (.int xs.length,.fr,s):=rfl
theorem CB {xs:List D}:BI.run .len [.arr xs] s=.ok (.int xs.length,.fr,s):=rfl
theorem CC {k:Bool} {xs:List (D × D)}:BI.run .len [.dic k xs] s=.ok (.int xs.length,.fr,s):=rfl
theorem vR {xs:List D}:BI.run .tuple [.lst xs] s=.ok (.tup xs,.fr,s):=rfl
theorem vS {xs:List D}:BI.run .tuple [.tup xs] s=.ok (.tup xs,.fr,s):=rfl
theorem zv {xs:List D}:BI.run .list [.lst xs] s=.ok (.lst xs,.nw,s):=rfl
theorem zw {xs:List D}:BI.run .list [.tup xs] s=.ok (.lst xs,.nw,s):=rfl
theorem CD:BI.run .abs [.int i] s=.ok (.int (if i < 0 then -i else i),.fr,s):=rfl
theorem CE:BI.run .max2 [.int i,.int j] s=.ok (.int (if j > i then j else i),.fr,s):=rfl
theorem CF:BI.run .min2 [.int i,.int j] s=.ok (.int (if j < i then j else i),.fr,s):=rfl
theorem tM {a:Str} (h:PyData.strOk a=true):COp.run .eq (.str a) (.str a) s=.ok (.bl true,.fr,s):=by rw [sU a a h h,bz]; rfl
theorem tN {a:Str} (h:PyData.strOk a=true):COp.run .ne (.str a) (.str a) s=.ok (.bl false,.fr,s):=by rw [zf a a h h,bz]; rfl
theorem Ea:BOp.run .pow (.int 10) (.int 18) s=.ok (.int 1000000000000000000,.fr,s):=nr s
theorem Eb:BOp.run .pow (.int 10) (.int 20) s=.ok (.int 100000000000000000000,.fr,s):=nt s
theorem Ec:BOp.run .pow (.int 10) (.int 30) s=.ok (.int 1000000000000000000000000000000,.fr,s):=nv s
theorem Ed:BOp.run .pow (.int 10) (.int 40) s=.ok (.int 10000000000000000000000000000000000000000,.fr,s):=ny s
theorem Ee {a b:Option (Option Sl)} (h:a=b):a=b:=h
theorem Ef {a b:Option Fn} (h:a=b):a=b:=h
theorem Eg {a b:Option D} (h:a=b):a=b:=h
theorem CY {r:List D}:lF (.tup (d :: r)) (.int 0) s=.ok (d,.fr,s):=qI (n:=0) rfl s
theorem F9 {r:List D}:lF (.tup (d2 :: d :: r)) (.int 1) s=.ok (d,.fr,s):=qI (n:=1) rfl s
theorem Ga {r:List D}:lF (.tup (d3 :: d2 :: d :: r)) (.int 2) s=.ok (d,.fr,s):=qI (n:=2) rfl s
theorem Eh {r:List D}:lF (.lst (d :: r)) (.int 0) s=.ok (d,.fr,s):=kP (n:=0) rfl s
theorem Ei {r:List D}:lF (.lst (d2 :: d :: r)) (.int 1) s=.ok (d,.fr,s):=kP (n:=1) rfl s


theorem dI {a b:S} {r:R Out} (h:cy fs gs ms a l s=.ok (.nx l1 s1)) (h2:cy fs gs ms b l1 s1=r):cy fs gs ms (.cons a b) l s=r:=(b6 h).trans h2
theorem k4 {a b:S} (h:cy fs gs ms a l s=.ok (.rt d t s1)):cy fs gs ms (.cons a b) l s=.ok (.rt d t s1):=cE h
theorem zx {c:X} {a b:S} {r:R Out} (h:b7 fs gs c l s=.ok (.bl true,t,s1)) (h2:cy fs gs ms a l s1=r):cy fs gs ms (.ife c a b) l s=r:=(fj (cB h)).trans h2
theorem tO {c:X} {a b:S} {r:R Out} (h:b7 fs gs c l s=.ok (.bl false,t,s1)) (h2:cy fs gs ms b l s1=r):cy fs gs ms (.ife c a b) l s=r:=(dc (cB h)).trans h2
end




def Fin:R Out→Prop
 | .ok (.rt _ _ _)=>True
 | .er _ _ _=>True
 | _=>False
theorem Fin.step {r:R Out} (h:Fin r) (k:Lc→cj→R Out):r.bind (dN k)=r:=by
 cases r with
 | ok o=>cases o <;> first | rfl | exact h.elim
 | er e s l=>rfl
 | no=>exact h.elim
theorem Fin.seq {r:R Out} (h:Fin r) {fs:List Fn} {gs:List D} {ms:Str→Str→Option Bool} {a b:S} {l:Lc} {s:cj} (e:cy fs gs ms a l s=r):cy fs gs ms (.cons a b) l s=r:=by
 show (cy fs gs ms a l s).bind _=_
 rw [e]
 cases r with
 | ok o=>cases o <;> first | rfl | exact h.elim
 | er e s l=>rfl
 | no=>exact h.elim



theorem vT {α τ:Type} {fs:List Fn} {gs:List D} {ms:Str→Str→Option Bool} {tg:T} {it:X} {b rest:S} {r r2:R Out} (e:α→D) (L:τ→Lc) (P:α→Bool) (xs:List α) (t:τ) (hr:Fin r) (hit:gq fs gs it (L t) []=.ok (xs.map e,[]))
  (hb:∀ x,x∈xs→∀ t,∃ l1,T.put tg (e x) (L t)=some l1∧((P x=true∧cy fs gs ms b l1 []=r)∨(P x=false∧∃ t',cy fs gs ms b l1 []=.ok (.nx (L t') [])))) (hk:∀ t',cy fs gs ms rest (L t') []=r2):cy fs gs ms (.cons (.loop tg it b) rest) (L t) []=if xs.any P=true then r else r2:=by
 have key:∀ (q:List α) (t:τ),(∀ x∈q,x∈xs)→(q.any P=true∧iK (fun d l s=>match T.put tg d l with | some l1=>cy fs gs ms b l1 s | none=>.no) (q.map e) (L t) []=r)∨(q.any P=false∧∃ t',iK (fun d l s=>match T.put tg d l with | some l1=>cy fs gs ms b l1 s | none=>.no) (q.map e) (L t) []=.ok (.nx (L t') [])):=by
  intro q
  induction q with
  | nil=>intro t _; exact .inr ⟨rfl,t,rfl⟩
  | cons x q ih =>
   intro t hq
   obtain ⟨l1,h1,h2⟩:=hb x (hq x aj) t
   rcases h2 with ⟨hp,h2⟩ | ⟨hp,t1,h2⟩
   ·refine .inl ⟨by rw [bW,hp]; rfl,?_⟩
    show (match T.put tg (e x) (L t) with | some l1=>cy fs gs ms b l1 [] | none=>R.no).bind (dN (iK _ (q.map e)))=_
    simp only [h1,h2]
    exact hr.step _
   ·rcases ih t1 (fun y hy=>hq y (ao _ hy)) with ⟨h3,h4⟩ | ⟨h3,t2,h4⟩
    ·refine .inl ⟨by rw [bW,h3,Bool.or_true],?_⟩
     show (match T.put tg (e x) (L t) with | some l1=>cy fs gs ms b l1 [] | none=>R.no).bind (dN (iK _ (q.map e)))=_
     simp only [h1,h2]
     exact h4
    ·refine .inr ⟨by rw [bW,hp,h3]; rfl,t2,?_⟩
     show (match T.put tg (e x) (L t) with | some l1=>cy fs gs ms b l1 [] | none=>R.no).bind (dN (iK _ (q.map e)))=_
     simp only [h1,h2]
     exact h4
 rcases key xs t (fun x hx=>hx) with ⟨h1,h2⟩ | ⟨h1,t',h2⟩
 ·rw [h1,ap rfl]
  exact hr.seq ((dG hit).trans h2)
 ·rw [h1,av aa]
  exact dI ((dG hit).trans h2) (hk t')

theorem n9 {α:Type} {fs:List Fn} {gs:List D} {own:List Nat} {t:T} {it c e:X} {l:Lc} {ds:List α} {en g:α→D} (P:α→Bool) (ho:l6 l own=true) (hi:gq fs gs it l []=.ok (ds.map en,[])) (hc:c.isNil=false)
  (hb:∀ x∈ds,∃ l1,T.put t (en x) (de l own)=some l1∧(∃ tg,b7 fs gs c l1 []=.ok (.bl (P x),tg,[]))∧(P x=true→∃ tg,b7 fs gs e l1 []=.ok (g x,tg,[])∧(tg=.fr∨tg=.nw∨(g x).still=true))) (hz:ds.length≤sizeLine):b7 fs gs (.comp own t it c e) l []=.ok (.lst ((ds.filter P).map g),.nw,[]):=by
 have key:∀ (body:D→cj→R (Option D × cj)) (q:List α),(∀ x∈q,body (en x) []=.ok (if P x=true then some (g x) else none,[]))→cY body (q.map en) []=.ok ((q.filter P).map g,[]):=by
  intro body q
  induction q with
  | nil=>intro _; rfl
  | cons x q ih =>
   intro h
   show (body (en x) []).bind _=_
   rw [h x aj]
   show (cY body (q.map en) []).bind _=_
   rw [ih fun y hy=>h y (ao _ hy),List.filter_cons]
   cases P x <;> rfl
 show (if l6 l own=false then R.no else (gq fs gs it l []).bind fun (xs,s1) =>
   (R.noEr (cY (fun x s=>match T.put t x (de l own) with
    | none=>R.no
    | some l1=>(if c.isNil=true then R.ok (true,s) else (b7 fs gs c l1 s).bind fun (b,_,s2)=>match b with | .bl b=>.ok (b,s2) | _=>.no).bind fun (b,s2) =>
      if b=true then cf (b7 fs gs e l1 s2) (fun d s3=>R.ok (some d,s3)) else R.ok ((none:Option D),s2)) xs s1)).bind fun (ds,s2)=>if ds.length≤sizeLine then dY (.lst ds) s2 else .no)=_
 rw [ho,hi]
 show (R.noEr (cY _ (ds.map en) [])).bind _=_
 rw [key _ ds fun x hx=>?_]
 ·show (if ((ds.filter P).map g).length≤sizeLine then dY (.lst ((ds.filter P).map g)) [] else R.no)=_
  rw [ac,ap (Nat.le_trans (List.length_filter_le _ _) hz)]
  rfl
 ·obtain ⟨l1,h1,⟨tg,h2⟩,h3⟩:=hb x hx
  simp only [h1,hc,a6,if_false,h2,cN]
  cases hp:P x with
  | false=>rfl
  | true =>
   obtain ⟨tg2,h4,h5⟩:=h3 hp
   show cf (b7 fs gs e l1 []) (fun d s3=>R.ok (some d,s3))=_
   rw [h4]
   show (if (tg2=.bo∨tg2=.ow)∧(g x).still=false then R.no else R.ok (some (g x),[]))=_
   rw [av]
   ·rfl
   rintro ⟨h6,h7⟩
   rcases h5 with rfl | rfl | h5
   ·rcases h6 with h6 | h6 <;> cases h6
   ·rcases h6 with h6 | h6 <;> cases h6
   ·rw [h5] at h7
    cases h7
theorem tP {n:Nat} (w:List Nat):D.eqs (n+2) (.lst (w.map nD)):=fun x hx=>by
 obtain ⟨i,_,rfl⟩:=aP.mp hx
 exact trivial
theorem jK {a:Nat} {o:List Nat} {s:cj}:COp.run .isin (nD a) (.lst (o.map nD)) s=.ok (.bl (decide (a∈o)),.fr,s):=by
 have h:D.eqOk (nD a) (.lst (o.map nD))=true:=tf (n:=1) (m:=2) (show D.eqs 1 (nD a) from trivial) (tP o) (by decide) (by decide)
 show (if D.eqOk (nD a) (.lst (o.map nD)) then cg (.bl ((o.map nD).any fun y=>D.eqv y (nD a))) s else .no)=_
 rw [ap h]
 show R.ok _=_
 congr 3
 rw [List.any_map]
 rw [Bool.eq_iff_iff,List.any_eq_true,decide_eq_true_iff]
 constructor
 ·rintro ⟨x,hx,q⟩
  have:=(jm 1 (nD x) (nD a) trivial trivial).mp q
  rw [← fg this]
  exact hx
 ·intro hx
  exact ⟨a,hx,(jm 1 (nD a) (nD a) trivial trivial).mpr rfl⟩






theorem vU {n:Nat} {d:D} {s:cj} (h:D.eqs n d) (hn:n≤64):COp.run .ne d d s=.ok (.bl false,.fr,s):=by
 rw [BY h h hn,aI rfl]
 rfl

-- _law_stories(_law_letters_here): slots 0=_law_letters_here
-- _law_table(_law_one,_law_many): slots 0=_law_one 1=_law_many 2=_law_letters_here 3=_law_made 4=_law_number_here 5=_law_word



section
variable {ms:Str→Str→Option Bool} {L:Nat} {M:Mach} {d:D}
end
-- sections(guise): slots 0=guise 1=at
def gf:S:=#v[.ret (.comp [1] (.n 1) (.rng1 (.bi .len #v[.v 0])) .nil (.call 0 #v[.v 0,.v 1]))]
noncomputable def gP (ms:Str→Str→Option Bool):Fn:=.self [iE ms] [] ms gf [false] 1 2

abbrev mD (M:Mach):D:=.tup (M.map cC)
noncomputable def dQ (L:Nat) (M:Mach):List D:=(List.range M.length).map fun a=>mD (mE L M a)
theorem ip (L:Nat) (M:Mach):(dQ L M).length=M.length:=by
 unfold dQ
 rw [ac,aq]
section
variable {ms:Str→Str→Option Bool} {L:Nat} {M:Mach} {d:D}
theorem mB (hM:MOk L M) (hL:L≤1000) (hz:M.length≤60) (hd:dU d M):(gP ms).run [d]=.ok (.lst (dQ L M),.nw):=by
 have big:=sizeLine_eq
 refine cA (s:=[]) rfl (k4 (du (t:=.nw) ?_ rfl))
 refine eh (ds:=List.range M.length) (en:=nD) rfl (mq (L:=M.length) (t:=.fr) (gD (t:=.bo) hd rfl) (by omega)) (fun a ha=>?_) (by rw [aq]; omega)
 have ha:a < M.length:=aF.mp ha
 have f:=jJ hM hL (by omega) ha
 have c:=jt (ms:=ms) hM hL (by omega) hd ha (by omega)
 refine ⟨_,.fr,rfl,?_,.inl rfl⟩
 exact cQ (hf:=rfl) (ds:=[d,nD a]) (s1:=[]) (cz (t:=.bo) (s1:=[]) rfl (.inl rfl) (cz (t:=.fr) (s1:=[]) rfl (.inr (.inl rfl)) rfl)) c

theorem qX {fs:List Fn} {gs:List D} {j v k:Nat} {l:Lc} {t t2:Tag} (hf:fs[j]?=some (cJ ms)) (hM:MOk L M) (hL:L≤1000) (hz:M.length≤100000) (hd:dU d M) (h1:l[v]?=some (some ⟨t,d⟩)) (h2:∀ x,((de l [k]).set k (some x))[v]?=some (some ⟨t2,d⟩)) (h3:∀ x,((de l [k]).set k (some x))[k]?=some (some x)) (ho:l6 l [k]=true) :
  b7 fs gs (.comp [k] (.n k) (.rng1 (.bi .len #v[.v v])) .nil (.call j #v[.v v,.v k])) l []=.ok (.lst (dQ L M),.nw,[]):=by
 have big:=sizeLine_eq
 refine eh (ds:=List.range M.length) (en:=nD) ho (mq (L:=M.length) (t:=.fr) (gD (t:=t) hd (vO h1)) (by omega)) (fun a ha=>?_) (by rw [aq]; omega)
 have ha:a < M.length:=aF.mp ha
 refine ⟨_,.fr,rfl,?_,.inl rfl⟩
 exact cQ (hf:=hf) (ds:=[d,nD a]) (s1:=[]) (cz (t:=t2) (s1:=[]) (vO (h2 _)) (.inl rfl) (cz (t:=.fr) (s1:=[]) (vO (h3 _)) (.inr (.inl rfl)) rfl)) (jV hM hL hz hd ha)
theorem qd (hM:MOk L M) (hL:L≤1000) (hz:M.length≤100000):D.pl 8 (.lst (dQ L M)):=by
 have big:=sizeLine_eq
 refine ⟨by rw [ip]; omega,fun x hx=>?_⟩
 obtain ⟨a,ha,rfl⟩:=aP.mp hx
 have ha:a < M.length:=aF.mp ha
 have f:=jJ hM hL hz ha
 exact vK (n:=3) f.1.ok hL (by omega)
end
-- depth(guise): slots 0=guise 1=calm 2=known 3=at 4=turn 5=row 6=to

def QD (L:Nat) (M:Mach):Nat→Nat→Prop
 | 0,s=>Eqv L (mx L) 0 M s
 | k+1,s=>∀ a,a < L→QD L M k (M.nx s a)
def IsDep (L:Nat) (M:Mach) (s d:Nat):Prop:=QD L M d s∧∀ k,k < d→¬ QD L M k s
section
variable {L:Nat} {M N:Mach}
theorem vV {s a:Nat} (h:Eqv L (mx L) 0 M s) (ha:a < L):Eqv L (mx L) 0 M (M.nx s a):=by
 have q:=h.nx ha
 rw [tG ha] at q
 exact q
theorem QD.up:∀ {k s:Nat},QD L M k s→QD L M (k+1) s
 | 0,_,h=>fun _ ha=>vV h ha
 | _+1,_,h=>fun a ha=>QD.up (h a ha)
theorem QD.mono {k m s:Nat} (h:QD L M k s) (hm:k≤m):QD L M m s:=by
 induction m with
 | zero =>
  obtain rfl:k=0:=by omega
  exact h
 | succ m ih =>
  rcases Nat.eq_or_lt_of_le hm with rfl | z
  ·exact h
  ·exact (ih (by omega)).up
theorem IsDep.unique {s d e:Nat} (h:IsDep L M s d) (g:IsDep L M s e):d=e:=by
 rcases Nat.lt_trichotomy d e with z | z | z
 ·exact absurd h.1 (g.2 d z)
 ·exact z
 ·exact absurd g.1 (h.2 e z)
theorem tQ {s k:Nat} (h:QD L M k s):∃ d,IsDep L M s d∧d≤k:=by
 induction k using Nat.strongRecOn with
 | _ k ih =>
  by_cases q:∃ j,j < k∧QD L M j s
  ·obtain ⟨j,hj,hq⟩:=q
   obtain ⟨d,hd,hl⟩:=ih j hj hq
   exact ⟨d,hd,by omega⟩
  ·exact ⟨k,⟨h,fun j hj hq=>q ⟨j,hj,hq⟩⟩,aA _⟩

theorem IsDep.step (h0:0 < L) {s d:Nat} (h:IsDep L M s (d+1)):(∀ a,a < L→∃ e,IsDep L M (M.nx s a) e∧e≤d)∧∃ a,a < L∧IsDep L M (M.nx s a) d:=by
 have h1:∀ a,a < L→QD L M d (M.nx s a):=h.1
 refine ⟨fun a ha=>tQ (h1 a ha),?_⟩
 by_cases q:∃ a,a < L∧IsDep L M (M.nx s a) d
 ·exact q
 exfalso
 cases d with
 | zero=>exact q ⟨0,h0,h1 0 h0,fun k hk=>absurd hk (be k)⟩
 | succ d =>
  refine h.2 (d+1) (by omega) fun a ha=>?_
  obtain ⟨e,he,hl⟩:=tQ (h1 a ha)
  rcases Nat.eq_or_lt_of_le hl with rfl | z
  ·exact absurd ⟨a,ha,he⟩ q
  ·exact he.1.mono (by omega)
theorem IsDep.lt (h0:0 < L) (hM:MOk L M):∀ {d s:Nat},s < M.length→IsDep L M s d→d < M.length:=by
 intro d s hs h
 have chain:∀ d s,s < M.length→IsDep L M s d→∃ f:Nat→Nat,∀ i,i≤d→f i < M.length∧IsDep L M (f i) i:=by
  intro d
  induction d with
  | zero =>
   intro s hs h
   refine ⟨fun _=>s,fun i hi=>?_⟩
   obtain rfl:i=0:=by omega
   exact ⟨hs,h⟩
  | succ d ih =>
   intro s hs h
   obtain ⟨a,ha,q⟩:=(h.step h0).2
   obtain ⟨f,hf⟩:=ih _ (hM.nx_lt hs ha) q
   refine ⟨fun i=>if i=d+1 then s else f i,fun i hi=>?_⟩
   show (if i=d+1 then s else f i) < M.length∧IsDep L M (if i=d+1 then s else f i) i
   by_cases z:i=d+1
   ·rw [ap z,z]; exact ⟨hs,h⟩
   ·rw [av z]; exact hf i (by omega)
 obtain ⟨f,hf⟩:=chain d s hs h
 have hn:((List.range (d+1)).map f).Nodup:=by
  rw [a7,List.pairwise_map]
  refine List.Pairwise.imp_of_mem ?_ (a7.mp List.nodup_range)
  intro i j hi hj hne e
  have h1:=(hf i (by have:=aF.mp hi; omega)).2
  have h2:=(hf j (by have:=aF.mp hj; omega)).2
  rw [e] at h1
  exact hne (h1.unique h2)
 have q:=fF hn (r:=List.range M.length) fun x hx=>by
  obtain ⟨i,hi,rfl⟩:=aP.mp hx
  exact aF.mpr (hf i (by have:=aF.mp hi; omega)).1
 rw [ac,aq,aq] at q
 omega
theorem QD.congr {s t:Nat} (h:Eqv L M s N t):∀ k,QD L M k s→QD L N k t:=by
 intro k
 induction k generalizing s t with
 | zero=>intro q; exact Eqv.trans q h
 | succ k ih=>intro q a ha; exact ih (h.nx ha) (q a ha)
theorem IsDep.congr {s t d:Nat} (h:Eqv L M s N t) (g:IsDep L M s d):IsDep L N t d:=⟨QD.congr h d g.1,fun k hk q=>g.2 k hk (QD.congr h.symm k q)⟩
end

def KnI (L:Nat) (M:Mach) (kv:List (D × D)):Prop:=KD kv (List.range M.length)∧∀ (s:Nat) (v:D),D.look kv (nD s)=some v→∃ d,v=nD d∧IsDep L M s d
section
variable {L:Nat} {M:Mach}
theorem KnI.nil:KnI L M []:=⟨KD.nil _,fun s v h=>by rw [mF] at h; cases h⟩
theorem KnI.put {kv:List (D × D)} {s d:Nat} (h:KnI L M kv) (hs:s < M.length) (hd:IsDep L M s d):KnI L M (D.put kv (nD s) (nD d)):=by
 refine ⟨h.1.put (aF.mpr hs) _,fun t v q=>?_⟩
 rw [dB] at q
 by_cases e:nD t=nD s
 ·rw [ap e] at q
  rw [fg e]
  exact ⟨d,(ad q).symm,hd⟩
 ·rw [av e] at q
  exact h.2 t v q
theorem KnI.len {kv:List (D × D)} (h:KnI L M kv):kv.length≤M.length:=by
 have:=h.1.len
 rw [aq] at this
 exact this
end
section
variable {ms:Str→Str→Option Bool} {L:Nat} {F:Mach}
end
-- _law_dressed(_law_rows_here,_law_endless): slots 0=_law_rows_here 1=_law_endless 2=_law_ahead 3=_law_starts 4=_law_made 5=_law_at
-- check_endless(letters,endless): slots 0=letters 1=endless 2=beginning 3=ring
-- row_from(guise,at,word): slots 0=guise 1=at 2=word 3=letter
-- worn_endless(guise,endless): slots 0=guise 1=endless 2=at 3=seen 4=rounds 5=start 6=ahead 7=part 8=again 9=beginning 10=ring
-- _law_told(_law_one,_law_endless): slots 0=_law_one 1=_law_endless 2=_law_told_here

def Mach.turns (M:Mach) (s:Nat) (v:List Nat):Nat→Nat
 | 0=>s
 | k+1=>Mach.go M (Mach.turns M s v k) v
section
variable {M:Mach} {L s:Nat} {v:List Nat}


end
section
variable {ms:Str→Str→Option Bool} {M:Mach} {L s:Nat} {d:D}

end
end GM
local macro_rules | `(tactic| bv_omega) => `(tactic| (repeat' first|(with_reducible first|assumption|apply GM.B8|apply GM.B9|apply GM.Cd|apply GM.Ce|apply GM.vO|apply GM.DW|apply GM.vP|apply GM.zl|apply GM.vQ|apply GM.cW|apply GM.cI|apply GM.cQ|apply GM.cz|apply GM.zm|apply GM.df|apply GM.Cf|apply GM.Cg|apply GM.oZ|apply GM.zn|apply GM.zo|apply GM.FA|apply GM.F8|apply GM.zk|apply GM.zj|apply GM.jE|apply GM.p6|apply GM.j9|apply GM.sZ|apply GM.Cw|apply GM.D9|apply GM.Ch|apply GM.Ci|apply GM.Ea|apply GM.Eb|apply GM.Ec|apply GM.Ed|apply GM.CY|apply GM.F9|apply GM.Ga|apply GM.Eh|apply GM.Ei|apply GM.Cq|apply GM.zp|apply GM.Cr|apply GM.Cs|apply GM.Cu|apply GM.Cv|apply GM.zq|apply GM.zr|apply GM.zt|apply GM.zu|apply GM.Cy|apply GM.Cz|apply GM.CB|apply GM.CC|apply GM.vR|apply GM.vS|apply GM.zv|apply GM.zw|apply GM.CD|apply GM.CE|apply GM.CF|apply GM.sP|apply GM.sO|apply GM.sQ|apply GM.sR|apply GM.sS|apply GM.wv)|((with_reducible first|apply GM.Ee|apply GM.Ef|apply GM.Eg); exact rfl)|(with_reducible apply GM.qW; exact Nat.le_of_ble_eq_true rfl)|((with_reducible first|apply GM.Cj|apply GM.Ck|apply GM.Cn|apply GM.DX|apply GM.DZ|apply GM.D3|apply GM.Co|apply GM.D5|apply GM.D7); omega)|((with_reducible first|apply GM.DY|apply GM.D0|apply GM.D4|apply GM.Cp|apply GM.D6|apply GM.D8); omega)|((with_reducible first|apply GM.tM|apply GM.tN); first|with_reducible assumption|symm)|(with_reducible first|exact GM.nF rfl|exact GM.kS rfl)|first|exact .inl rfl|exact .inr (.inl rfl)|exact .inr (.inr rfl)|exact .inr (.inr (.inl rfl))|exact .inr (.inr (.inr rfl))))


namespace GM
open PySem PySem.Spec PyProof.Rows L2
-- comes_again(guise,at): slots 0=guise 1=at 2=to
def eQ:S:=#v[.loop (.n 2) (.it (.ix (.ix (.v 0) (.v 1)) (.ki 1)))
 #v[.ife (.cmp .isin (.v 1) (.call 0 #v[.v 0,.v 2]))
 #v[.ret (.kb true)]
 .nil],.ret (.kb false)]
noncomputable def gp (ms:Str→Str→Option Bool):Fn:=.self [dD ms] [] ms eQ [false,false] 2 3
-- lasting(guise): slots 0=guise 1=at
def gF:S:=#v[.ret (.comp [1] (.n 1) (.rng1 (.bi .len #v[.v 0])) (.call 0 #v[.v 0,.v 1]) (.call 1 #v[.v 0,.v 1]))]
noncomputable def iG (ms:Str→Str→Option Bool):Fn:=.self [gp ms,iE ms] [] ms gF [false] 1 2

def CA (L:Nat) (M:Mach) (s:Nat):Prop:=∃ w:List Nat,w≠[]∧(∀ x∈w,x < L)∧Mach.go M s w=s
section
variable {L:Nat} {M:Mach}
theorem qe (hM:MOk L M) {s t:Nat} {o:List Nat} (h:Bfs L M s o):t∈o↔∃ w:List Nat,(∀ x∈w,x < L)∧Mach.go M s w=t:=by
 have h0:s∈o:=aZ h.hd
 have lp:0 < o.length:=List.length_pos_of_mem h0
 have e0:o.getD 0 0=s:=by
  have:=h.hd
  rw [List.getD,this]
  rfl
 constructor
 ·intro ht
  obtain ⟨i,hi,rfl⟩:=dT ht
  clear ht
  induction i using Nat.strongRecOn with
  | _ i ih =>
   rcases bt i with rfl | z
   ·exact ⟨[],(by intro x hx; cases hx),e0.symm⟩
   ·obtain ⟨q,k,hq,hk,e,_⟩:=h.bo i z hi
    obtain ⟨w,hw,e2⟩:=ih q hq (by omega)
    refine ⟨w++[k],fun x hx=>?_,?_⟩
    ·rcases aM.mp hx with z | z
     ·exact hw x z
     ·rw [ak.mp z]; exact hk
    ·rw [pa,e2,e]
     rfl
 ·rintro ⟨w,hw,rfl⟩
  have key:∀ (w:List Nat) (u:Nat),u∈o→(∀ x∈w,x < L)→Mach.go M u w∈o:=by
   intro w
   induction w with
   | nil=>intro u hu _; exact hu
   | cons a w ih=>intro u hu hw; exact ih _ (h.cl u hu a (hw a aj)) fun x hx=>hw x (ao _ hx)
  exact key w s h0 hw

open Classical in
theorem zy (hM:MOk L M) {s:Nat} (hs:s < M.length) (f:Nat→List Nat) (hf:∀ t∈M.gos s,Bfs L M t (f t)):CA L M s↔∃ t∈M.gos s,s∈f t:=by
 constructor
 ·rintro ⟨w,hw,hl,e⟩
  cases w with
  | nil=>exact absurd rfl hw
  | cons a w =>
   have ha:=hl a aj
   exact ⟨M.nx s a,hM.nx_mem hs ha,(qe hM (hf _ (hM.nx_mem hs ha))).mpr ⟨w,fun x hx=>hl x (ao _ hx),e⟩⟩
 ·rintro ⟨t,ht,hst⟩
  obtain ⟨w,hw,e⟩:=(qe hM (hf t ht)).mp hst
  obtain ⟨i,hi,rfl⟩:=dT ht
  have gl:=(hM s hs).2.1
  refine ⟨i :: w,by simp,fun x hx=>?_,e⟩
  rcases ax.mp hx with rfl | z
  ·omega
  ·exact hw x z
theorem QD.nx {k s a:Nat} (h:QD L M k s) (ha:a < L):QD L M k (M.nx s a):=h.up a ha
theorem QD.go:∀ (w:List Nat) (k s:Nat),QD L M (k+w.length) s→(∀ x∈w,x < L)→QD L M k (Mach.go M s w)
 | [],k,s,h,_=>h
 | a :: w,k,s,h,hw=>by
  have h:QD L M ((k+w.length)+1) s:=h
  exact QD.go w k _ (h a (hw a aj)) fun x hx=>hw x (ao _ hx)


end
open Classical in

noncomputable def wB (L:Nat) (M:Mach):List Nat:=(List.range M.length).filter fun s=>decide (CA L M s)
noncomputable def gg (L:Nat) (M:Mach):List D:=(wB L M).map fun s=>mD (mE L M s)
section
variable {ms:Str→Str→Option Bool} {L:Nat} {M:Mach}

open Classical in
theorem qY (hM:MOk L M) (hz:M.length≤100000) {d:D} (hd:dU d M) {s:Nat} (hs:s < M.length):(gp ms).run [d,nD s]=.ok (.bl (decide (CA L M s)),.fr):=by
 have ex:∀ t,∃ o,t∈M.gos s→Bfs L M t o∧(dD ms).run [d,nD t]=.ok (.lst (o.map nD),.nw):=fun t=>by
  by_cases ht:t∈M.gos s
  ·obtain ⟨o,h1,h2⟩:=jT (ms:=ms) hM hz hd ((hM s hs).2.2.2 t ht)
   exact ⟨o,fun _=>⟨h1,h2⟩⟩
  ·exact ⟨[],fun q=>absurd q ht⟩
 obtain ⟨f,hf⟩:=Classical.skolem.mp ex
 have iff:=zy hM hs f fun t ht=>(hf t ht).1
 have e:((M.gos s).any fun t=>decide (s∈f t))=decide (CA L M s):=by
  rw [Bool.eq_iff_iff,List.any_eq_true,decide_eq_true_iff,iff]
  constructor
  ·rintro ⟨t,h1,h2⟩; exact ⟨t,h1,aY h2⟩
  ·rintro ⟨t,h1,h2⟩; exact ⟨t,h1,aI h2⟩
 refine cA (s:=[]) rfl ?_
 have q:=vT (fs:=[dD ms]) (gs:=[]) (ms:=ms) (tg:=.n 2) (it:=.it (.ix (.ix (.v 0) (.v 1)) (.ki 1))) (b:=#v[.ife (.cmp .isin (.v 1) (.call 0 #v[.v 0,.v 2])) #v[.ret (.kb true)] .nil]) (rest:=#v[.ret (.kb false)]) (r:=.ok (.rt (.bl true) .fr [])) (r2:=.ok (.rt (.bl false) .fr [])) nD (fun x:Option Sl=>[some ⟨.bo,d⟩,some ⟨.bo,nD s⟩,x]) (fun t=>decide (s∈f t)) (M.gos s) none trivial (ie (t:=.fr) (ii hd hs (t:=.bo) (t2:=.bo) rfl rfl) (by intro q; cases q)) (fun t ht x=>by
   have c:=(hf t ht).2
   refine ⟨_,rfl,?_⟩
   have ci:b7 [dD ms] [] (.cmp .isin (.v 1) (.call 0 #v[.v 0,.v 2])) [some ⟨.bo,d⟩,some ⟨.bo,nD s⟩,some ⟨.fr,nD t⟩] []=.ok (.bl (decide (s∈f t)),.fr,[]):=by
    refine cI (d:=nD s) (t:=.bo) (s1:=[]) rfl (d2:=.lst ((f t).map nD)) (t2:=.nw) (s2:=[]) ?_ jK
    bv_omega
   cases hp:decide (s∈f t) with
   | true =>
    rw [hp] at ci
    exact .inl ⟨rfl,cE (zx (s1:=[]) ci (k4 (du (t:=.fr) rfl rfl)))⟩
   | false =>
    rw [hp] at ci
    exact .inr ⟨rfl,some ⟨.fr,nD t⟩,dI (s1:=[]) (tO (s1:=[]) ci cn) cn⟩) (fun x=>k4 (du (t:=.fr) rfl rfl))
 rw [e] at q
 refine Eq.trans q ?_
 cases decide (CA L M s) <;> rfl
theorem oa (hM:MOk L M) (hL:L≤1000) (hz:M.length≤60) {d:D} (hd:dU d M):(iG ms).run [d]=.ok (.lst (gg L M),.nw):=by
 have big:=sizeLine_eq
 refine cA (s:=[]) rfl (k4 (du (t:=.nw) ?_ rfl))
 refine n9 (ds:=List.range M.length) (en:=nD) _ rfl (mq (L:=M.length) (t:=.fr) (gD (t:=.bo) hd rfl) (by omega)) rfl (fun s hs=>?_) (by rw [aq]; omega)
 have hs:s < M.length:=aF.mp hs
 have f:=jJ hM hL (by omega) hs
 have c:=jt (ms:=ms) hM hL (by omega) hd hs (by omega)
 have c2:=qY (ms:=ms) hM (by omega) hd hs
 refine ⟨_,rfl,⟨.fr,?_⟩,fun _=>⟨.fr,?_,.inl rfl⟩⟩
 ·exact cQ (hf:=rfl) (ds:=[d,nD s]) (s1:=[]) (cz (t:=.bo) (s1:=[]) rfl (.inl rfl) (cz (t:=.fr) (s1:=[]) rfl (.inl rfl) rfl)) c2
 ·exact cQ (hf:=rfl) (ds:=[d,nD s]) (s1:=[]) (cz (t:=.bo) (s1:=[]) rfl (.inl rfl) (cz (t:=.fr) (s1:=[]) rfl (.inr (.inl rfl)) rfl)) c
end
-- _law_comes_again(_law_one,_law_start): slots 0=_law_one 1=_law_start 2=_law_seen 3=_law_line 4=_law_at
def dq:S:=#v[.own 2 (.lst .nil),.own 3 (.bi .list #v[.ix (.ix (.v 0) (.v 1)) (.ki 1)]),.whl (.cmp .gt (.bi .len #v[.v 3]) (.ki 0))
 #v[.popT (.n 4) 3 .nil,.ife (.cmp .notin (.v 4) (.v 2))
 #v[.app 2 (.v 4),.ext 3 (.ix (.ix (.v 0) (.v 4)) (.ki 1))]
 .nil],.ret (.cmp .isin (.v 1) (.v 2))]
noncomputable def dP (ms:Str→Str→Option Bool):Fn:=.self [] [] ms dq [false,false] 2 5

structure Sk (L:Nat) (M:Mach) (s:Nat) (seen line:List Nat):Prop where
 nd:seen.Nodup
 ls:∀ x∈seen,x < M.length
 ll:∀ x∈line,x < M.length
 rc:∀ x,x∈seen∨x∈line→∃ w:List Nat,w≠[]∧(∀ y∈w,y < L)∧Mach.go M s w=x
 st:∀ x∈M.gos s,x∈seen∨x∈line
 cl:∀ y∈seen,∀ x∈M.gos y,x∈seen∨x∈line
section
variable {L:Nat} {M:Mach} {s:Nat} {seen line:List Nat} {x:Nat}
theorem tR (hM:MOk L M) (hs:s < M.length) (h:x∈M.gos s):∃ a,a < L∧M.nx s a=x:=by
 obtain ⟨i,hi,e⟩:=dT h
 exact ⟨i,by have:=(hM s hs).2.1; omega,e⟩
theorem Sk.zero (hM:MOk L M) (hs:s < M.length):Sk L M s [] (M.gos s) where
 nd:=.nil
 ls:=fun x hx=>by cases hx
 ll:=(hM s hs).2.2.2
 rc:=fun x hx=>by
  rcases hx with hx | hx
  ·cases hx
  ·obtain ⟨a,ha,e⟩:=tR hM hs hx
   exact ⟨[a],by simp,fun y hy=>by rw [ak.mp hy]; exact ha,e⟩
 st:=fun x hx=>.inr hx
 cl:=fun y hy=>by cases hy
theorem Sk.old (h:Sk L M s seen (line++[x])) (hx:x∈seen):Sk L M s seen line where
 nd:=h.nd
 ls:=h.ls
 ll:=fun y hy=>h.ll y (aJ _ hy)
 rc:=fun y hy=>h.rc y (hy.imp id (aJ _))
 st:=fun y hy=>(h.st y hy).elim .inl fun q=>(aM.mp q).elim .inr fun q=>.inl (by rw [ak.mp q]; exact hx)
 cl:=fun z hz y hy=>(h.cl z hz y hy).elim .inl fun q=>(aM.mp q).elim .inr fun q=>.inl (by rw [ak.mp q]; exact hx)
theorem Sk.new (hM:MOk L M) (h:Sk L M s seen (line++[x])) (hx:x∉seen):Sk L M s (seen++[x]) (line++M.gos x):=by
 have xl:x < M.length:=h.ll x (am _ aj)
 have mv:∀ y,y∈seen∨y∈line++[x]→y∈seen++[x]∨y∈line++M.gos x:=fun y hy=>by
  rcases hy with q | q
  ·exact .inl (aJ _ q)
  ·rcases aM.mp q with q | q
   ·exact .inr (aJ _ q)
   ·exact .inl (am _ q)
 refine ⟨?_,fun y hy=>?_,fun y hy=>?_,fun y hy=>?_,fun y hy=>mv y (h.st y hy),fun z hz y hy=>?_⟩
 ·refine bM.mpr ⟨h.nd,by simp,fun a ha b hb e=>?_⟩
  rw [e,ak.mp hb] at ha
  exact hx ha
 ·rcases aM.mp hy with q | q
  ·exact h.ls y q
  ·rw [ak.mp q]; exact xl
 ·rcases aM.mp hy with q | q
  ·exact h.ll y (aJ _ q)
  ·exact (hM x xl).2.2.2 y q
 ·have old:y∈seen∨y∈line++[x]→∃ w:List Nat,w≠[]∧(∀ y∈w,y < L)∧Mach.go M s w=y:=h.rc y
  rcases hy with q | q
  ·rcases aM.mp q with q | q
   ·exact old (.inl q)
   ·exact old (.inr (am _ q))
  ·rcases aM.mp q with q | q
   ·exact old (.inr (aJ _ q))
   ·obtain ⟨w,h1,h2,h3⟩:=h.rc x (.inr (am _ aj))
    obtain ⟨a,ha,e⟩:=tR hM xl q
    refine ⟨w++[a],by simp,fun z hz=>?_,by rw [pa,h3]; exact e⟩
    rcases aM.mp hz with z1 | z1
    ·exact h2 z z1
    ·rw [ak.mp z1]; exact ha
 ·rcases aM.mp hz with q | q
  ·exact mv y (h.cl z q y hy)
  ·rw [ak.mp q] at hy
   exact .inr (am _ hy)

theorem Sk.fin (hM:MOk L M) (hs:s < M.length) (h:Sk L M s seen []):s∈seen↔CA L M s:=by
 have no:∀ {y:Nat},y∈seen∨y∈([]:List Nat)→y∈seen:=fun q=>q.elim id fun q=>by cases q
 constructor
 ·exact fun q=>h.rc s (.inl q)
 ·rintro ⟨w,h1,h2,h3⟩
  have key:∀ (w:List Nat) (u:Nat),u∈seen→(∀ x∈w,x < L)→Mach.go M u w∈seen:=by
   intro w
   induction w with
   | nil=>intro u hu _; exact hu
   | cons a w ih=>exact fun u hu hw=>ih _ (no (h.cl u hu _ (hM.nx_mem (h.ls u hu) (hw a aj)))) fun x hx=>hw x (ao _ hx)
  cases w with
  | nil=>exact absurd rfl h1
  | cons a w =>
   have q:=key w _ (no (h.st _ (hM.nx_mem hs (h2 a aj)))) fun x hx=>h2 x (ao _ hx)
   rw [← h3]
   exact q
end
theorem k5 {a:Nat} {o:List Nat} {s:cj}:COp.run .notin (nD a) (.lst (o.map nD)) s=.ok (.bl (!decide (a∈o)),.fr,s):=by
 have h:=jK (a:=a) (o:=o) (s:=s)
 have e:COp.run .isin (nD a) (.lst (o.map nD)) s=(if D.eqOk (nD a) (.lst (o.map nD)) then cg (.bl ((o.map nD).any fun y=>D.eqv y (nD a))) s else .no):=rfl
 have e2:COp.run .notin (nD a) (.lst (o.map nD)) s=(if D.eqOk (nD a) (.lst (o.map nD)) then cg (.bl (!(o.map nD).any fun y=>D.eqv y (nD a))) s else .no):=rfl
 rw [e] at h
 rw [e2]
 split at h
 ·rename_i q
  rw [ap q]
  have h:R.ok (D.bl ((o.map nD).any fun y=>D.eqv y (nD a)),Tag.fr,s)=R.ok (D.bl (decide (a∈o)),Tag.fr,s):=h
  injection h with h
  injection h with h _
  injection h with h
  rw [h]
  rfl
 ·cases h
theorem qZ {fs:List Fn} {gs:List D} {ms:Str→Str→Option Bool} {l:Lc} {s:cj} {i j:Nat} {xs:List D} {d:D} (h:l[j]?=some (some ⟨.ow,.lst (xs++[d])⟩)) :
  cy fs gs ms (.popT (.n i) j .nil) l s=(match T.put (.n i) d (l.set j (some ⟨.ow,.lst xs⟩)) with | some l1=>.ok (.nx l1 s) | none=>.no):=by
 show (match l[j]? with
  | some (some ⟨.ow,.lst es⟩)=>(dv fs gs .nil l s).bind fun (p,s1)=>match f7 es p with
   | some (d,es')=>match T.put (.n i) d (l.set j (some ⟨.ow,.lst es'⟩)) with | some l1=>R.ok (Out.nx l1 s1) | none=>.no
   | none=>.no
  | _=>.no)=_
 rw [h]
 have e:f7 (xs++[d]) none=some (d,xs):=by
  unfold f7
  simp
 show (match f7 (xs++[d]) none with
   | some (d,es')=>match T.put (.n i) d (l.set j (some ⟨.ow,.lst es'⟩)) with | some l1=>R.ok (Out.nx l1 s) | none=>.no
   | none=>.no)=_
 rw [e]
section
variable {ms:Str→Str→Option Bool} {L:Nat} {M:Mach} {d:D} {s:Nat}
theorem Sk.few {seen line:List Nat} (h:Sk L M s seen line):seen.length≤M.length:=by
 have:=nat_nodup_len seen (List.range M.length) h.nd fun x hx=>aF.mpr (h.ls x hx)
 rwa [aq] at this

open Classical in
theorem k6 (hM:MOk L M) (hL:L≤1000) (hz:M.length≤60) (hd:dU d M) (hs:s < M.length):(dP ms).run [d,nD s]=.ok (.bl (decide (CA L M s)),.fr):=by
 have big:=sizeLine_eq
 let LL:(List Nat × List Nat × Option Sl)→Lc:=fun t=>[some ⟨.bo,d⟩,some ⟨.bo,nD s⟩,some ⟨.ow,.lst (t.1.map nD)⟩,some ⟨.ow,.lst (t.2.1.map nD)⟩,t.2.2]
 have hw:=kT (cond:=dE [] [] (.cmp .gt (.bi .len #v[.v 3]) (.ki 0))) (body:=cy [] [] ms #v[.popT (.n 4) 3 .nil,.ife (.cmp .notin (.v 4) (.v 2)) #v[.app 2 (.v 4),.ext 3 (.ix (.ix (.v 0) (.v 4)) (.ki 1))] .nil])
  LL (fun t=>decide (0 < t.2.1.length)) (fun t=>Sk L M s t.1 t.2.1∧t.2.1.length≤t.1.length*L+L) (fun t=>(M.length - t.1.length)*(L+1)+t.2.1.length) ⟨"",none⟩ False
  (fun t _=>by
   refine cB (t:=.fr) (cI (d:=.int ((t.2.1.map nD).length:Int)) (t:=.fr) (s1:=[]) (mu (t:=.ow) rfl) (d2:=.int 0) (t2:=.fr) (s2:=[]) rfl (kS ?_))
   rw [ac]
   exact bu.mpr (by omega))
  (fun t hI hc=>by
   obtain ⟨hS,hl⟩:=hI
   obtain ⟨seen,line,x4⟩:=t
   have hc:0 < line.length:=aY hc
   have hS:Sk L M s seen line:=hS
   have hl:line.length≤seen.length*L+L:=hl
   obtain ⟨r,x,rfl⟩:∃ r x,line=r++[x]:=⟨line.dropLast,line.getLast (by intro e; rw [e] at hc; cases hc),(List.dropLast_concat_getLast _).symm⟩
   rw [ae,aC] at hl
   have xl:x < M.length:=hS.ll x (am _ aj)
   have gl:=(hM x xl).2.1
   have p1:cy [] [] ms (.popT (.n 4) 3 .nil) (LL (seen,r++[x],x4)) []=.ok (.nx (LL (seen,r,some ⟨.fr,nD x⟩)) []):=by
    refine (qZ (xs:=r.map nD) (d:=nD x) ?_).trans rfl
    show some (some (⟨Tag.ow,D.lst ((r++[x]).map nD)⟩:Sl))=_
    rw [bf]
    rfl
   by_cases hx:x∈seen
   ·have ci:b7 [] [] (.cmp .notin (.v 4) (.v 2)) (LL (seen,r,some ⟨.fr,nD x⟩)) []=.ok (.bl false,.fr,[]):=by
     refine cI (d:=nD x) (t:=.fr) (s1:=[]) rfl (d2:=.lst (seen.map nD)) (t2:=.ow) (s2:=[]) rfl ?_
     have:=k5 (a:=x) (o:=seen) (s:=[])
     rwa [aI hx] at this
    refine .inl ⟨(seen,r,some ⟨.fr,nD x⟩),dI (s1:=[]) p1 (dI (s1:=[]) (tO (s1:=[]) ci cn) cn),⟨hS.old hx,by show r.length≤seen.length*L+L; omega⟩,?_⟩
    show (M.length - seen.length)*(L+1)+r.length < (M.length - seen.length)*(L+1)+(r++[x]).length
    rw [ae,aC]
    omega
   ·have ci:b7 [] [] (.cmp .notin (.v 4) (.v 2)) (LL (seen,r,some ⟨.fr,nD x⟩)) []=.ok (.bl true,.fr,[]):=by
     refine cI (d:=nD x) (t:=.fr) (s1:=[]) rfl (d2:=.lst (seen.map nD)) (t2:=.ow) (s2:=[]) rfl ?_
     have:=k5 (a:=x) (o:=seen) (s:=[])
     rwa [aH hx] at this
    have nS:=hS.new hM hx
    have fw:=nS.few
    rw [ae,aC] at fw
    have m1:(seen.length+1)*L=seen.length*L+L:=bV _ _
    have m2:seen.length*L≤60*1000:=Nat.mul_le_mul (by omega) hL
    have q1:cy [] [] ms (.app 2 (.v 4)) (LL (seen,r,some ⟨.fr,nD x⟩)) []=.ok (.nx (LL (seen++[x],r,some ⟨.fr,nD x⟩)) []):=by
     refine (app_ok (ds:=seen.map nD) (d:=nD x) (t:=.fr) (s1:=[]) rfl rfl (.inl rfl) (by rw [ac]; omega)).trans ?_
     show R.ok (Out.nx [some ⟨.bo,d⟩,some ⟨.bo,nD s⟩,some ⟨.ow,.lst (seen.map nD++[nD x])⟩,some ⟨.ow,.lst (r.map nD)⟩,some ⟨.fr,nD x⟩] [])=R.ok (Out.nx [some ⟨.bo,d⟩,some ⟨.bo,nD s⟩,some ⟨.ow,.lst ((seen++[x]).map nD)⟩,some ⟨.ow,.lst (r.map nD)⟩,some ⟨.fr,nD x⟩] [])
     rw [bf]
     rfl
    have q2:cy [] [] ms (.ext 3 (.ix (.ix (.v 0) (.v 4)) (.ki 1))) (LL (seen++[x],r,some ⟨.fr,nD x⟩)) []=.ok (.nx (LL (seen++[x],r++M.gos x,some ⟨.fr,nD x⟩)) []):=by
     refine (vF (ds:=r.map nD) (es:=(M.gos x).map nD) (t:=.fr) (s1:=[]) rfl (ii hd xl (t:=.bo) (t2:=.fr) rfl rfl) (by rw [ac,ac]; omega)).trans ?_
     show R.ok (Out.nx [some ⟨.bo,d⟩,some ⟨.bo,nD s⟩,some ⟨.ow,.lst ((seen++[x]).map nD)⟩,some ⟨.ow,.lst (r.map nD++(M.gos x).map nD)⟩,some ⟨.fr,nD x⟩] [])=R.ok (Out.nx [some ⟨.bo,d⟩,some ⟨.bo,nD s⟩,some ⟨.ow,.lst ((seen++[x]).map nD)⟩,some ⟨.ow,.lst ((r++M.gos x).map nD)⟩,some ⟨.fr,nD x⟩] [])
     rw [bf (l₁:=r)]
    refine .inl ⟨(seen++[x],r++M.gos x,some ⟨.fr,nD x⟩),dI (s1:=[]) p1 (dI (s1:=[]) (zx (s1:=[]) ci (dI (s1:=[]) q1 (dI (s1:=[]) q2 cn))) cn),⟨nS,?_⟩,?_⟩
    ·show (r++M.gos x).length≤(seen++[x]).length*L+L
     rw [ae,ae,aC]
     omega
    ·show (M.length - (seen++[x]).length)*(L+1)+(r++M.gos x).length < (M.length - seen.length)*(L+1)+(r++[x]).length
     rw [ae,ae,ae,aC,gl,show M.length - seen.length=(M.length - (seen.length+1))+1 by omega,bV]
     omega)
  ([],M.gos s,none) ⟨Sk.zero hM hs,by show (M.gos s).length≤0*L+L; have:=(hM s hs).2.1; omega⟩
 rcases hw with ⟨t,h1,⟨h2,_⟩,h3⟩ | ⟨_,h⟩
 ·obtain ⟨seen,line,x4⟩:=t
  have h3:¬ 0 < line.length:=bI h3
  obtain rfl:line=[]:=a8 (by omega)
  have h2:Sk L M s seen []:=h2
  refine cA (s:=[]) rfl ?_
  refine dI (l1:=[some ⟨.bo,d⟩,some ⟨.bo,nD s⟩,some ⟨.ow,.lst []⟩,none,none]) (s1:=[]) (cX (d:=.lst []) ?_) ?_
  ·have:0≤sizeLine:=by omega
   simp! [this]
  refine dI (l1:=LL ([],M.gos s,none)) (s1:=[]) (cX (d:=.lst ((M.gos s).map nD)) ?_) ?_
  ·exact FA (ii hd hs (t:=.bo) (t2:=.bo) rfl rfl) rfl
  refine dI (s1:=[]) (whl_eq.trans h1) ?_
  refine k4 (du (t:=.fr) (d:=.bl (decide (CA L M s))) ?_ rfl)
  refine cI (d:=nD s) (t:=.bo) (s1:=[]) rfl (d2:=.lst (seen.map nD)) (t2:=.ow) (s2:=[]) rfl ?_
  have q:=jK (a:=s) (o:=seen) (s:=[])
  rw [show (decide (s∈seen))=decide (CA L M s) from bu.mpr (h2.fin hM hs)] at q
  exact q
 ·exact h.elim
end
-- moved(guise,by): slots 0=guise 1=by 2=first 3=goings 4=to
-- branched(first,guises): slots 0=first 1=guises 2=rows 3=heads 4=guise
-- _law_together(_law_first,_law_guises): slots 0=_law_first 1=_law_guises 2=_law_rows_here 3=_law_heads 4=_law_one 5=_law_by 6=_law_late 7=_law_goings 8=_law_to


section
variable {L:Nat} {P:List Nat} {Gs:List Mach}

end
section
variable {ms:Str→Str→Option Bool} {L:Nat} {P:List Nat} {Gs:List Mach}

end
-- _law_told(_law_first,_law_guises): slots 0=_law_first 1=_law_guises 2=_law_told_here
-- law(_law_script): slots 0=_law_script 1=_law_letters_here 2=_law_first 3=_law_some 4=_law_guises 5=_law_handed 6=_law_due 7=_law_found 8=_law_letter 9=_law_k
-- _law_right(_law_one): slots 0=_law_one 1=_law_due 2=_law_found 3=_law_kept 4=_law_late 5=_law_at
def dJ:S:=#v[.set (.n 1) (.comp [5] (.n 5) (.rng1 (.bi .len #v[.v 0])) .nil (.call 4 #v[.v 0,.v 5])),.own 2 (.call 2 #v[.v 0]),.ife (.or #v[.not (.call 0 #v[.v 2,.v 1]),.cmp .ne (.ix (.v 2) (.ki 0)) (.v 0),.cmp .ne (.lset (.v 2)) (.bi .len #v[.v 2])])
 #v[.ret (.kb false)]
 .nil,.set (.n 3) (.comp [5] (.n 5) (.rng1 (.bi .len #v[.v 0])) (.call 3 #v[.v 0,.v 5]) (.ix (.v 1) (.v 5))),.own 4 (.call 1 #v[.v 0]),.ife (.not (.call 0 #v[.v 4,.v 3]))
 #v[.ret (.kb false)]
 .nil,.popX 2 .nil,.app 4 (.v 0),.ret (.and #v[.call 0 #v[.call 2 #v[.v 0],.v 1],.call 0 #v[.call 1 #v[.v 0],.v 3]])]
noncomputable def dL (ms:Str→Str→Option Bool):Fn:=.self [fi ms,iG ms,gP ms,dP ms,cJ ms] [] ms dJ [true] 1 6
theorem oc {fs:List Fn} {gs:List D} {ms:Str→Str→Option Bool} {l:Lc} {s:cj} {j:Nat} {xs:List D} {d:D} (h:l[j]?=some (some ⟨.ow,.lst (xs++[d])⟩)):cy fs gs ms (.popX j .nil) l s=.ok (.nx (l.set j (some ⟨.ow,.lst xs⟩)) s):=by
 show (match l[j]? with
  | some (some ⟨.ow,.lst es⟩)=>(dv fs gs .nil l s).bind fun (p,s1)=>match f7 es p with
   | some (_,es')=>R.ok (Out.nx (l.set j (some ⟨.ow,.lst es'⟩)) s1)
   | none=>.no
  | _=>.no)=_
 rw [h]
 have e:f7 (xs++[d]) none=some (d,xs):=by
  unfold f7
  simp
 show (match f7 (xs++[d]) none with
   | some (_,es')=>R.ok (Out.nx (l.set j (some ⟨.ow,.lst es'⟩)) s)
   | none=>.no)=_
 rw [e]
theorem vW (M:Mach):D.kd 8 (mD M):=jH fun x hx=>by
 obtain ⟨r,_,rfl⟩:=aP.mp hx
 refine jH fun y hy=>?_
 rcases ax.mp hy with rfl | hy
 ·exact jo (fun n:Nat=>(n:Int)) r.1
 ·rw [ak.mp hy]
  exact jo (fun n:Nat=>(n:Int)) r.2
theorem qf (n:Nat) (w:List Nat):D.tr (n+1) (.tup (w.map nD))=true:=by
 show (w.map nD).all (D.tr n)=true
 refine aR.mpr fun x hx=>?_
 obtain ⟨k,_,rfl⟩:=aP.mp hx
 cases n <;> rfl
theorem vX (M:Mach):D.tr 8 (mD M)=true:=by
 show (M.map cC).all (D.tr 7)=true
 refine aR.mpr fun x hx=>?_
 obtain ⟨r,_,rfl⟩:=aP.mp hx
 show (D.tr 6 (.tup (r.1.map nD)) && (D.tr 6 (.tup (r.2.map nD)) && true))=true
 rw [qf,qf]
 rfl
theorem tS:∀ {ds:List D},(∀ d∈ds,D.kd 8 d)→∃ ks,D.nks ds=some ks∧(∀ k∈ks,k.depth≤8∧∃ d∈ds,D.nk d=some k)∧(ds.Nodup→ks.Nodup)
 | [],_=>⟨[],rfl,fun k hk=>(by cases hk),fun _=>.nil⟩
 | d :: ds,h=>by
  obtain ⟨k,h1,h2⟩:=h d aj
  obtain ⟨ks,h3,h4,h5⟩:=tS fun x hx=>h x (ao _ hx)
  refine ⟨k :: ks,?_,fun q hq=>?_,fun nd=>?_⟩
  ·show (D.nk d).bind (fun k=>(D.nks ds).map (k :: ·))=_
   rw [h1,h3]
   rfl
  ·rcases ax.mp hq with rfl | hq
   ·exact ⟨h2,d,aj,h1⟩
   ·obtain ⟨g1,x,g2,g3⟩:=h4 q hq
    exact ⟨g1,x,ao _ g2,g3⟩
  ·have nd:=bQ.mp nd
   refine bQ.mpr ⟨fun hk=>?_,h5 nd.2⟩
   obtain ⟨_,x,g2,g3⟩:=h4 k hk
   rw [lH h1 g3] at nd
   exact nd.1 g2
section
variable {ms:Str→Str→Option Bool} {L:Nat} {M:Mach}
theorem tT {F G:Mach} (h:mD F=mD G):F=G:=by
 injection h with h
 exact List.map_inj_right (fun _ _ e=>nY e) |>.mp h
theorem pf (hF:Form L M) (hL:L≤1000) (hz:M.length≤100000):(dQ L M).Nodup:=by
 unfold dQ
 rw [a7,List.pairwise_map]
 refine List.Pairwise.imp_of_mem (fun {a b} ha hb ne e=>ne ?_) List.nodup_range
 have ha:=aF.mp ha
 have hb:=aF.mp hb
 have e:=tT e
 have f1:=(jJ hF.ok hL hz ha).2.1
 have f2:=(jJ hF.ok hL hz hb).2.1
 rw [e] at f1
 exact hF.mi a b ha hb (f1.symm.trans f2)
theorem re (hF:Form L M) (hL:L≤1000) (hz:M.length≤63):∃ ks,D.nks (dQ L M)=some ks∧fS (dQ L M) ks=true:=by
 have mem:∀ d∈dQ L M,∃ F,d=mD F:=fun d hd=>by
  obtain ⟨a,_,rfl⟩:=aP.mp hd
  exact ⟨_,rfl⟩
 obtain ⟨ks,h1,h2,h3⟩:=tS (ds:=dQ L M) fun d hd=>by
  obtain ⟨F,rfl⟩:=mem d hd
  exact vW F
 refine ⟨ks,h1,?_⟩
 unfold fS
 simp only [ab,af,aR]
 refine ⟨⟨⟨by rw [ip]; omega,h3 (pf hF hL (by omega))⟩,fun k hk=>(h2 k hk).1⟩,fun d hd=>?_⟩
 obtain ⟨F,rfl⟩:=mem d hd
 exact ⟨vX F,rfl⟩
theorem vY {fs:List Fn} {gs:List D} {a:X} {l:Lc} {s s1:cj} {t:Tag} {ds:List D} {ks:List NestedKey} (h:b7 fs gs a l s=.ok (.lst ds,t,s1)) (h1:D.nks ds=some ks) (h2:fS ds ks=true):b7 fs gs (.lset a) l s=.ok (.int ds.length,.fr,s1):=by
 show (b7 fs gs a l s).bind _=_
 rw [h]
 show (match D.nks ds with | some ks=>if fS ds ks=true then cg (.int ds.length) s1 else .no | none=>.no)=_
 rw [h1]
 show (if fS ds ks=true then cg (.int ds.length) s1 else .no)=_
 rw [ap h2]
 rfl
theorem od (L:Nat) (M:Mach):(gg L M).length≤M.length:=by
 unfold gg wB
 rw [ac]
 have:=List.length_filter_le (fun s=>@decide (CA L M s) (Classical.propDecidable _)) (List.range M.length)
 rwa [aq] at this
theorem tU (hM:MOk L M) (hL:L≤1000) (hz:M.length≤100000):D.pl 8 (.lst (gg L M)):=by
 have big:=sizeLine_eq
 refine ⟨by have:=od L M; omega,fun x hx=>?_⟩
 refine (qd hM hL hz).2 x ?_
 obtain ⟨a,ha,rfl⟩:=aP.mp hx
 exact aP.mpr ⟨a,(List.mem_filter.mp ha).1,rfl⟩

open Classical in
theorem iq (hF:Guise L M) (h5:L≤5) (hz:M.length≤48):(dL ms).run [mD M]=.ok (.bl true,.fr):=by
 have big:=sizeLine_eq
 have hM:=hF.fm.ok
 have h0:=hF.fm.ne
 have hd:dU (mD M) M:=.inr rfl
 have hL:L≤1000:=by omega
 let fs:List Fn:=[fi ms,iG ms,gP ms,dP ms,cJ ms]
 have c1:=mB (ms:=ms) hM hL (by omega) hd
 have c2:=oa (ms:=ms) hM hL (by omega) hd
 have c3:=nQ (ms:=ms) (.lst (dQ L M)) (qd hM hL (by omega))
 have c4:=nQ (ms:=ms) (.lst (gg L M)) (tU hM hL (by omega))
 have e0:mE L M 0=M:=mw hF.fm (Eqv.refl 0)
 have at_:∀ a,a < M.length→(dQ L M)[a]?=some (mD (mE L M a)):=fun a ha=>by
  unfold dQ
  rw [aD,bx ha]
  rfl
 have n1:=qU M []
 have n2:COp.run .ne (nD M.length) (nD M.length) []=.ok (.bl false,.fr,[]):=vU (n:=1) trivial (by decide)
 have co:=qX (ms:=ms) (fs:=fs) (gs:=[]) (j:=4) (v:=0) (k:=5) (l:=[some ⟨.fr,mD M⟩,none,none,none,none,none]) (t:=.fr) (t2:=.fr) rfl hM hL (by omega) hd rfl (fun _=>rfl) (fun _=>rfl) rfl
 obtain ⟨ks,k1,k2⟩:=re hF.fm hL (by omega)
 refine cA (s:=[]) rfl ?_
 refine dI (l1:=[some ⟨.fr,mD M⟩,some ⟨.fr,.lst (dQ L M)⟩,none,none,none,none]) (s1:=[]) (cx (t:=.nw) co (.inr (.inl rfl)) rfl) ?_
 refine dI (l1:=[some ⟨.fr,mD M⟩,some ⟨.fr,.lst (dQ L M)⟩,some ⟨.ow,.lst (dQ L M)⟩,none,none,none]) (s1:=[]) (cX (d:=.lst (dQ L M)) (cQ (hf:=rfl) (ds:=[mD M]) (s1:=[]) (cz (t:=.fr) (s1:=[]) rfl (.inl rfl) rfl) c1)) ?_
 have x1:b7 fs [] (.ix (.v 2) (.ki 0)) [some ⟨.fr,mD M⟩,some ⟨.fr,.lst (dQ L M)⟩,some ⟨.ow,.lst (dQ L M)⟩,none,none,none] []=.ok (mD M,.fr,[]):=by
  have q:=at_ 0 h0
  rw [e0] at q
  exact df (t:=.ow) (t2:=.fr) (s1:=[]) (s2:=[]) rfl rfl (kP q [])
 have x2:b7 fs [] (.bi .len #v[.v 2]) [some ⟨.fr,mD M⟩,some ⟨.fr,.lst (dQ L M)⟩,some ⟨.ow,.lst (dQ L M)⟩,none,none,none] []=.ok (nD M.length,.fr,[]):=by
  have q:=mu (fs:=fs) (gs:=[]) (a:=.v 2) (l:=[some ⟨.fr,mD M⟩,some ⟨.fr,.lst (dQ L M)⟩,some ⟨.ow,.lst (dQ L M)⟩,none,none,none]) (xs:=dQ L M) (t:=.ow) rfl
  rwa [ip] at q
 have x3:b7 fs [] (.lset (.v 2)) [some ⟨.fr,mD M⟩,some ⟨.fr,.lst (dQ L M)⟩,some ⟨.ow,.lst (dQ L M)⟩,none,none,none] []=.ok (nD M.length,.fr,[]):=by
  have q:=vY (fs:=fs) (gs:=[]) (a:=.v 2) (l:=[some ⟨.fr,mD M⟩,some ⟨.fr,.lst (dQ L M)⟩,some ⟨.ow,.lst (dQ L M)⟩,none,none,none]) (s:=[]) (s1:=[]) (t:=.ow) rfl k1 k2
  rwa [ip] at q
 apply dI (s1:=[]); (case h=>(apply tO (s1:=[]) (h2:=cn); bv_omega))
 refine dI (l1:=[some ⟨.fr,mD M⟩,some ⟨.fr,.lst (dQ L M)⟩,some ⟨.ow,.lst (dQ L M)⟩,some ⟨.fr,.lst (gg L M)⟩,none,none]) (s1:=[]) (cx (t:=.nw) (d:=.lst (gg L M)) ?_ (.inr (.inl rfl)) rfl) ?_
 ·refine n9 (ds:=List.range M.length) (en:=nD) (g:=fun s=>mD (mE L M s)) (fun s=>decide (CA L M s)) rfl (mq (L:=M.length) (t:=.fr) (gD (t:=.fr) hd rfl) (by omega)) rfl (fun s hs=>?_) (by rw [aq]; omega)
  have hs:s < M.length:=aF.mp hs
  refine ⟨_,rfl,⟨.fr,?_⟩,fun _=>⟨.fr,?_,.inl rfl⟩⟩
  ·exact cQ (hf:=rfl) (ds:=[mD M,nD s]) (s1:=[]) (cz (t:=.fr) (s1:=[]) rfl (.inl rfl) (cz (t:=.fr) (s1:=[]) rfl (.inr (.inl rfl)) rfl)) (k6 (ms:=ms) hM hL (by omega) hd hs)
  ·exact df (t:=.fr) (t2:=.fr) (s1:=[]) (s2:=[]) rfl rfl (kP (at_ s hs) [])
 refine dI (l1:=[some ⟨.fr,mD M⟩,some ⟨.fr,.lst (dQ L M)⟩,some ⟨.ow,.lst (dQ L M)⟩,some ⟨.fr,.lst (gg L M)⟩,some ⟨.ow,.lst (gg L M)⟩,none]) (s1:=[]) (cX (d:=.lst (gg L M)) (cQ (hf:=rfl) (ds:=[mD M]) (s1:=[]) (cz (t:=.fr) (s1:=[]) rfl (.inl rfl) rfl) c2)) ?_
 apply dI (s1:=[]); (case h=>(apply tO (s1:=[]) (h2:=cn); bv_omega))
 obtain ⟨ys,y,ey⟩:∃ ys y,dQ L M=ys++[y]:=⟨_,_,(List.dropLast_concat_getLast (by intro e; have:=ip L M; rw [e] at this; simp at this; omega)).symm⟩
 refine dI (l1:=[some ⟨.fr,mD M⟩,some ⟨.fr,.lst (dQ L M)⟩,some ⟨.ow,.lst ys⟩,some ⟨.fr,.lst (gg L M)⟩,some ⟨.ow,.lst (gg L M)⟩,none]) (s1:=[]) (oc (xs:=ys) (d:=y) (by rw [← ey]; rfl)) ?_
 refine dI (l1:=[some ⟨.fr,mD M⟩,some ⟨.fr,.lst (dQ L M)⟩,some ⟨.ow,.lst ys⟩,some ⟨.fr,.lst (gg L M)⟩,some ⟨.ow,.lst (gg L M++[mD M])⟩,none]) (s1:=[]) (app_ok (t:=.fr) (ds:=gg L M) (d:=mD M) rfl rfl (.inl rfl) (by have:=od L M; omega)) ?_
 apply k4; apply du; (case h=>bv_omega); (case h2=>exact rfl)
end
-- law(_law_script): slots 0=_law_script 1=_law_letters_here 2=_law_one 3=_law_other 4=_law_both
def iH:S:=#v[.set (.n 1) (.call 6 #v[.v 0,.ki 0]),.set (.n 2) (.call 5 #v[.v 1,.call 1 #v[.v 0,.ki 1]]),.set (.n 3) (.call 4 #v[.v 1,.call 1 #v[.v 0,.ki 2]]),.set (.n 4) (.call 2 #v[.call 3 #v[.v 2,.v 3],.ki 0]),.ife (.and #v[.cmp .eq (.bin .mod (.call 1 #v[.v 0,.ki 3]) (.ki 3)) (.ki 1),.cmp .le (.bi .len #v[.v 4]) (.ki 40)])
 #v[.set (.n 2) (.v 4)]
 .nil,.ret (.and #v[.call 0 #v[.v 2],.call 0 #v[.v 3],.call 0 #v[.v 2]])]
noncomputable def jL (ms:Str→Str→Option Bool):Fn:=.self [dL ms,fq ms,cJ ms,fN ms,eZ ms,fL ms,fy ms] [] ms iH [false] 1 5
theorem vZ (ms:Str→Str→Option Bool) (ns:List Int) (h:ns.length≤63):(jL ms).run [.arr (ns.map D.int)]=.ok (.bl true,.fr):=by
 have big:=sizeLine_eq
 obtain ⟨Li,hLi,hL1,hL2⟩:=nO (ms:=ms) ns 0 (by decide)
 obtain ⟨L,rfl⟩:=bh (show 0≤Li by omega)
 have hL1:2≤L:=by omega
 have hL2:L≤5:=by omega
 have hL:L≤1000:=by omega
 obtain ⟨c1,hc1⟩:=jr (ms:=ms) ns 1 (by decide)
 obtain ⟨c2,hc2⟩:=jr (ms:=ms) ns 2 (by decide)
 obtain ⟨c3,hc3⟩:=jr (ms:=ms) ns 3 (by decide)
 obtain ⟨F,hF,f48,cF⟩:=qR (ms:=ms) hL1 hL2 c1
 obtain ⟨G,hG,g8,cG⟩:=lB (ms:=ms) hL1 hL2 c2
 have hP:=vM hF.mt hG.mt
 have pl:(gE L F G).length=F.length*G.length:=kZ ..
 have p1:F.length*G.length≤48*8:=Nat.mul_le_mul f48 g8
 have p0:0 < F.length*G.length:=Nat.mul_pos hF.fm.ne hG.fm.ne
 have cp:(fN ms).run [mD F,mD G]=.ok (.lst ((gE L F G).map cC),.nw):=qT (ms:=ms) hF.mt hG.mt hL (by omega) (by omega) (.inr rfl) (.inr rfl)
 have cs:(cJ ms).run [.lst ((gE L F G).map cC),.int 0]=.ok (mD (mE L (gE L F G) 0),.fr):=jV (ms:=ms) (s:=0) hP.1 hL (by omega) (.inl rfl) (by omega)
 have gB:Guise L (mE L (gE L F G) 0):=qS hP hL (by omega) (by omega)
 have r1:=iq (ms:=ms) hF hL2 f48
 have r2:=iq (ms:=ms) hG hL2 (by omega)
 let fs:List Fn:=[dL ms,fq ms,cJ ms,fN ms,eZ ms,fL ms,fy ms]
 generalize mE L (gE L F G) 0=B at cs gB
 refine cA (s:=[]) rfl ?_
 apply dI (s1:=[]); (case h=>(apply cx; (case h=>bv_omega); (case ht=>first|exact .inl rfl|exact .inr (.inl rfl)|exact .inr (.inr rfl)|exact .inr (.inr (.inl rfl))|exact .inr (.inr (.inr rfl))); (case h2=>exact rfl))); try dsimp only [List.set_cons_zero,List.set_cons_succ]
 apply dI (s1:=[]); (case h=>(apply cx; (case h=>bv_omega); (case ht=>first|exact .inl rfl|exact .inr (.inl rfl)|exact .inr (.inr rfl)|exact .inr (.inr (.inl rfl))|exact .inr (.inr (.inr rfl))); (case h2=>exact rfl))); try dsimp only [List.set_cons_zero,List.set_cons_succ]
 apply dI (s1:=[]); (case h=>(apply cx; (case h=>bv_omega); (case ht=>first|exact .inl rfl|exact .inr (.inl rfl)|exact .inr (.inr rfl)|exact .inr (.inr (.inl rfl))|exact .inr (.inr (.inr rfl))); (case h2=>exact rfl))); try dsimp only [List.set_cons_zero,List.set_cons_succ]
 apply dI (s1:=[]); (case h=>(apply cx; (case h=>bv_omega); (case ht=>first|exact .inl rfl|exact .inr (.inl rfl)|exact .inr (.inr rfl)|exact .inr (.inr (.inl rfl))|exact .inr (.inr (.inr rfl))); (case h2=>exact rfl))); try dsimp only [List.set_cons_zero,List.set_cons_succ]
 have len:b7 fs [] (.bi .len #v[.v 4]) [some ⟨.bo,.arr (ns.map D.int)⟩,some ⟨.fr,nD L⟩,some ⟨.fr,mD F⟩,some ⟨.fr,mD G⟩,some ⟨.fr,mD B⟩] []=.ok (.int (B.length:Int),.fr,[]):=gD (t:=.fr) (.inr rfl) rfl
 obtain ⟨K,rK,s5⟩:∃ K,(dL ms).run [mD K]=.ok (.bl true,.fr)∧cy fs [] ms (.ife (.and #v[.cmp .eq (.bin .mod (.call 1 #v[.v 0,.ki 3]) (.ki 3)) (.ki 1),.cmp .le (.bi .len #v[.v 4]) (.ki 40)]) #v[.set (.n 2) (.v 4)] .nil) [some ⟨.bo,.arr (ns.map D.int)⟩,some ⟨.fr,nD L⟩,some ⟨.fr,mD F⟩,some ⟨.fr,mD G⟩,some ⟨.fr,mD B⟩] []=.ok (.nx [some ⟨.bo,.arr (ns.map D.int)⟩,some ⟨.fr,nD L⟩,some ⟨.fr,mD K⟩,some ⟨.fr,mD G⟩,some ⟨.fr,mD B⟩] []):=by
  have e1:b7 fs [] (.cmp .eq (.bin .mod (.call 1 #v[.v 0,.ki 3]) (.ki 3)) (.ki 1)) [some ⟨.bo,.arr (ns.map D.int)⟩,some ⟨.fr,nD L⟩,some ⟨.fr,mD F⟩,some ⟨.fr,mD G⟩,some ⟨.fr,mD B⟩] []=.ok (.bl (decide (c3 % 3=1)),.fr,[]):=by
   refine cI (d:=.int (c3 % 3)) (t:=.fr) (s1:=[]) ?_ (d2:=.int 1) (t2:=.fr) (s2:=[]) rfl (fO _ _ _)
   bv_omega
  have e2:b7 fs [] (.cmp .le (.bi .len #v[.v 4]) (.ki 40)) [some ⟨.bo,.arr (ns.map D.int)⟩,some ⟨.fr,nD L⟩,some ⟨.fr,mD F⟩,some ⟨.fr,mD G⟩,some ⟨.fr,mD B⟩] []=.ok (.bl (decide ((B.length:Int)≤40)),.fr,[]):=cI (d:=.int (B.length:Int)) (t:=.fr) (s1:=[]) len (d2:=.int 40) (t2:=.fr) (s2:=[]) rfl rfl
  have q:=zg e1 e2
  cases hq:(decide (c3 % 3=1) && decide ((B.length:Int)≤40)) with
  | false =>
   rw [hq] at q
   exact ⟨F,r1,tO (t:=.fr) (s1:=[]) q rfl⟩
  | true =>
   rw [hq] at q
   have hb:(B.length:Int)≤40:=aY (aE.mp hq).2
   refine ⟨B,iq (ms:=ms) gB hL2 (by omega),zx (t:=.fr) (s1:=[]) q ?_⟩
   apply dI (s1:=[]); (case h=>(apply cx; (case h=>bv_omega); (case ht=>first|exact .inl rfl|exact .inr (.inl rfl)|exact .inr (.inr rfl)|exact .inr (.inr (.inl rfl))|exact .inr (.inr (.inr rfl))); (case h2=>exact rfl))); try dsimp only [List.set_cons_zero,List.set_cons_succ]
   rfl
 refine dI s5 ?_
 apply k4; apply du; (case h=>bv_omega); (case h2=>exact rfl)
end GM

set_option maxHeartbeats 0
set_option maxHeartbeats 0
namespace LWk26
open PySem PySem.Spec PyProof.Rows L2 GM
def N6:List Str:=["_law_rows_here","_law_line","_law_marks","_law_place","_law_heads","_law_row","_law_to"]
def Ej:List Str:=["_law_rows_here","_law_line","_law_marks"]
def FB:List Str:=[]
def gn6:List (Str × Ct):=[]
theorem Gb:FnScope N6 Ej (defScope s6):=⟨rfl,rfl,rfl,by symm,rfl,by symm,by symm⟩
theorem Gc:cV ⟨N6,defScope s6,FB,gn6.map (fun (p:Str × Ct)=>p.1),true,false,en,hn,[],[],[],[],[],[],[]⟩ eJ (defBody s6)=true:=by symm
def Ek:List Str:=["_law_rows_here","_law_start","_law_line","_law_marks","_law_at","_law_many","_law_grown","_law_to","_law_known","_law_fresh","_law_row","_law_key"]
def zA:List Str:=["_law_rows_here","_law_start"]
def CG:List Str:=["_law_in_line"]
def gn15:List (Str × Ct):=[]
theorem El:FnScope Ek zA (defScope zM):=⟨rfl,rfl,rfl,by symm,rfl,by symm,by symm⟩
theorem Em:cV ⟨Ek,defScope zM,CG,gn15.map (fun (p:Str × Ct)=>p.1),true,false,en,hn,[],[],[],[],[],[],[]⟩ fh (defBody zM)=true:=by symm
def N3:List Str:=["_law_script","_law_at"]
def Eo:List Str:=["_law_script","_law_at"]
def FD:List Str:=[]
def gn3:List (Str × Ct):=[]
theorem Ge:FnScope N3 Eo (defScope s3):=⟨rfl,rfl,rfl,by symm,rfl,by symm,by symm⟩
theorem Gf:cV ⟨N3,defScope s3,FD,gn3.map (fun (p:Str × Ct)=>p.1),true,false,en,hn,[],[],[],[],[],[],[]⟩ gc (defBody s3)=true:=by symm
def N8:List Str:=["_law_script","_law_at"]
def Ep:List Str:=["_law_script","_law_at"]
def FE:List Str:=["_law_cell"]
def gn8:List (Str × Ct):=[]
theorem Gg:FnScope N8 Ep (defScope s8):=⟨rfl,rfl,rfl,by symm,rfl,by symm,by symm⟩
theorem Gi:cV ⟨N8,defScope s8,FE,gn8.map (fun (p:Str × Ct)=>p.1),true,false,en,hn,[],[],[],[],[],[],[]⟩ eN (defBody s8)=true:=by symm
def Er:List Str:=["_law_cell_here","_law_many","_law_row","_law_rest","_law_seed"]
def zB:List Str:=["_law_cell_here","_law_many"]
def CH:List Str:=[]
def gn10:List (Str × Ct):=[]
theorem Es:FnScope Er zB (defScope tX):=⟨rfl,rfl,rfl,by symm,rfl,by symm,by symm⟩
theorem Et:cV ⟨Er,defScope tX,CH,gn10.map (fun (p:Str × Ct)=>p.1),true,false,en,hn,[],[],[],[],[],[],[]⟩ eO (defBody tX)=true:=by symm
def Eu:List Str:=["_law_pick","_law_letters_here","_law_left","_law_made","_law_k","_law_many"]
def zC:List Str:=["_law_pick","_law_letters_here"]
def CI:List Str:=[]
def gn12:List (Str × Ct):=[]
theorem Ev:FnScope Eu zC (defScope v6):=⟨rfl,rfl,rfl,by symm,rfl,by symm,by symm⟩
theorem Ew:cV ⟨Eu,defScope v6,CI,gn12.map (fun (p:Str × Ct)=>p.1),true,false,en,hn,[],[],[],[],[],[],[]⟩ cT (defBody v6)=true:=by symm
def Ey:List Str:=["_law_letters_here","_law_cell_here","_law_nums","_law_many","_law_kind","_law_rows_here","_law_at","_law_pick","_law_first","_law_goings","_law_k","_law_to"]
def zD:List Str:=["_law_letters_here","_law_cell_here"]
def CJ:List Str:=["_law_rearranged","_law_numbers"]
def gn14:List (Str × Ct):=[]
theorem Ez:FnScope Ey zD (defScope zN):=⟨rfl,rfl,rfl,by symm,rfl,by symm,by symm⟩
theorem EA:cV ⟨Ey,defScope zN,CJ,gn14.map (fun (p:Str × Ct)=>p.1),true,false,en,hn,[],[],[],[],[],[],[]⟩ dX (defBody zN)=true:=by symm
def N5:List Str:=["_law_letters_here","_law_cell_here"]
def EB:List Str:=["_law_letters_here","_law_cell_here"]
def FF:List Str:=["_law_shrunk","_law_rows"]
def gn5:List (Str × Ct):=[]
theorem Gj:FnScope N5 EB (defScope s5):=⟨rfl,rfl,rfl,by symm,rfl,by symm,by symm⟩
theorem Gk:cV ⟨N5,defScope s5,FF,gn5.map (fun (p:Str × Ct)=>p.1),true,false,en,hn,[],[],[],[],[],[],[]⟩ fJ (defBody s5)=true:=by symm
def N2:List Str:=["_law_letters_here","_law_cell_here","_law_nums","_law_many","_law_rows_here","_law_at","_law_goings","_law_k"]
def EC:List Str:=["_law_letters_here","_law_cell_here"]
def FG:List Str:=["_law_shrunk","_law_rearranged","_law_numbers","_law_guise"]
def gn2:List (Str × Ct):=[]
theorem Gp:FnScope N2 EC (defScope s2):=⟨rfl,rfl,rfl,by symm,rfl,by symm,by symm⟩
theorem Gq:cV ⟨N2,defScope s2,FG,gn2.map (fun (p:Str × Ct)=>p.1),true,false,en,hn,[],[],[],[],[],[],[]⟩ fK (defBody s2)=true:=by symm
def ED:List Str:=["_law_one","_law_other","_law_rows_here","_law_first","_law_goings","_law_late","_law_ends","_law_both","_law_paired","_law_became","_law_k"]
def zE:List Str:=["_law_one","_law_other"]
def CK:List Str:=[]
def gn11:List (Str × Ct):=[]
theorem EE:FnScope ED zE (defScope tY):=⟨rfl,rfl,rfl,by symm,rfl,by symm,by symm⟩
theorem EF:cV ⟨ED,defScope tY,CK,gn11.map (fun (p:Str × Ct)=>p.1),true,false,en,hn,[],[],[],[],[],[],[]⟩ fM (defBody tY)=true:=by symm
def EG:List Str:=["rows","start","seen","order","at","to"]
def zF:List Str:=["rows","start"]
def CN:List Str:=[]
def gn20:List (Str × Ct):=[]
theorem EH:FnScope EG zF (defScope zO):=⟨rfl,rfl,rfl,by symm,rfl,by symm,by symm⟩
theorem EI:cV ⟨EG,defScope zO,CN,gn20.map (fun (p:Str × Ct)=>p.1),true,false,en,hn,[],[],[],[],[],[],[]⟩ gA (defBody zO)=true:=by symm
def EJ:List Str:=["order","keys","known","marks","at","key"]
def zG:List Str:=["order","keys"]
def CO:List Str:=[]
def gn19:List (Str × Ct):=[]
theorem EK:FnScope EJ zG (defScope zP):=⟨rfl,rfl,rfl,by symm,rfl,by symm,by symm⟩
theorem EL:cV ⟨EJ,defScope zP,CO,gn19.map (fun (p:Str × Ct)=>p.1),true,false,en,hn,[],[],[],[],[],[],[]⟩ gb (defBody zP)=true:=by symm
def EM:List Str:=["rows","order","keys","at","grown","marks","many","more","to"]
def zH:List Str:=["rows","order"]
def CP:List Str:=["numbered"]
def gn18:List (Str × Ct):=[("MOST_FORM",.int 60)]
theorem EN:FnScope EM zH (defScope zQ):=⟨rfl,rfl,rfl,by symm,rfl,by symm,by symm⟩
theorem EO:cV ⟨EM,defScope zQ,CP,gn18.map (fun (p:Str × Ct)=>p.1),true,false,en,hn,[],[],[],[],[],[],[]⟩ gC (defBody zQ)=true:=by symm
def EQ:List Str:=["rows","start","order","marks","names","heads","at","made","head","to"]
def zI:List Str:=["rows","start"]
def CQ:List Str:=["marked","reached"]
def gn17:List (Str × Ct):=[]
theorem ER:FnScope EQ zI (defScope zR):=⟨rfl,rfl,rfl,by symm,rfl,by symm,by symm⟩
theorem ES:cV ⟨EQ,defScope zR,CQ,gn17.map (fun (p:Str × Ct)=>p.1),true,false,en,hn,[],[],[],[],[],[],[]⟩ jq (defBody zR)=true:=by symm
def ET:List Str:=["guise","at"]
def zJ:List Str:=["guise"]
def CS:List Str:=["least"]
def gn21:List (Str × Ct):=[]
theorem EU:FnScope ET zJ (defScope zS):=⟨rfl,rfl,rfl,by symm,rfl,by symm,by symm⟩
theorem EV:cV ⟨ET,defScope zS,CS,gn21.map (fun (p:Str × Ct)=>p.1),true,false,en,hn,[],[],[],[],[],[],[]⟩ gf (defBody zS)=true:=by symm
def N0:List Str:=["guise","at","to"]
def EW:List Str:=["guise","at"]
def FH:List Str:=["reached"]
def gn0:List (Str × Ct):=[]
theorem Gr:FnScope N0 EW (defScope s0):=⟨rfl,rfl,rfl,by symm,rfl,by symm,by symm⟩
theorem Gu:cV ⟨N0,defScope s0,FH,gn0.map (fun (p:Str × Ct)=>p.1),true,false,en,hn,[],[],[],[],[],[],[]⟩ eQ (defBody s0)=true:=by symm
def N1:List Str:=["guise","at"]
def EX:List Str:=["guise"]
def FI:List Str:=["comes_again","least"]
def gn1:List (Str × Ct):=[]
theorem Gv:FnScope N1 EX (defScope s1):=⟨rfl,rfl,rfl,by symm,rfl,by symm,by symm⟩
theorem Gw:cV ⟨N1,defScope s1,FI,gn1.map (fun (p:Str × Ct)=>p.1),true,false,en,hn,[],[],[],[],[],[],[]⟩ gF (defBody s1)=true:=by symm
def EY:List Str:=["_law_found"]
def zK:List Str:=["_law_found"]
def CT:List Str:=[]
def gn16:List (Str × Ct):=[]
theorem EZ:FnScope EY zK (defScope zT):=⟨rfl,rfl,rfl,by symm,rfl,by symm,by symm⟩
theorem E0:cV ⟨EY,defScope zT,CT,gn16.map (fun (p:Str × Ct)=>p.1),true,false,en,hn,[],[],[],[],[],[],[]⟩ fH (defBody zT)=true:=by symm
def N9:List Str:=["_law_found","_law_due","_law_k"]
def E1:List Str:=["_law_found","_law_due"]
def FJ:List Str:=["_law_like","_law_whole"]
def gn9:List (Str × Ct):=[]
theorem Gx:FnScope N9 E1 (defScope s9):=⟨rfl,rfl,rfl,by symm,rfl,by symm,by symm⟩
theorem Gy:cV ⟨N9,defScope s9,FJ,gn9.map (fun (p:Str × Ct)=>p.1),true,false,en,hn,[],[],[],[],[],[],[]⟩ dW (defBody s9)=true:=by symm
def N4:List Str:=["_law_one","_law_start","_law_seen","_law_line","_law_at"]
def E3:List Str:=["_law_one","_law_start"]
def FK:List Str:=[]
def gn4:List (Str × Ct):=[]
theorem Gz:FnScope N4 E3 (defScope s4):=⟨rfl,rfl,rfl,by symm,rfl,by symm,by symm⟩
theorem GA:cV ⟨N4,defScope s4,FK,gn4.map (fun (p:Str × Ct)=>p.1),true,false,en,hn,[],[],[],[],[],[],[]⟩ dq (defBody s4)=true:=by symm
def E4:List Str:=["_law_one","_law_due","_law_found","_law_kept","_law_late","_law_at"]
def zL:List Str:=["_law_one"]
def CU:List Str:=["_law_like","lasting","sections","_law_comes_again","_law_shrunk"]
def gn13:List (Str × Ct):=[]
theorem E5:FnScope E4 zL (defScope v7):=⟨rfl,rfl,rfl,by symm,rfl,by symm,by symm⟩
theorem E6:cV ⟨E4,defScope v7,CU,gn13.map (fun (p:Str × Ct)=>p.1),true,false,en,hn,[],[],[],[],[],[],[]⟩ dJ (defBody v7)=true:=by symm
def N7:List Str:=["_law_script","_law_letters_here","_law_one","_law_other","_law_both"]
def CZ:List Str:=["_law_script"]
def FL:List Str:=["_law_right","_law_cell","_law_shrunk","_law_pairs","_law_guise","_law_ample","_law_letters"]
def gn7:List (Str × Ct):=[]
theorem GB:FnScope N7 CZ (defScope s7):=⟨rfl,rfl,rfl,by symm,rfl,by symm,by symm⟩
theorem GC:cV ⟨N7,defScope s7,FL,gn7.map (fun (p:Str × Ct)=>p.1),true,false,en,hn,[],[],[],[],[],[],[]⟩ iH (defBody s7)=true:=by symm
abbrev hk:PySem.W.Hook:=GM.wy 4 fa fn
def ob (s:PySem.W.SharedT):He.AlD:=GM.ph 4 fa fn (HandSHeadRun.getT s)
theorem ob_eq (s:PySem.W.SharedT):ob s=hk.obs s.abs:=GM.sY (HandSHeadRun.getT_eq s)
theorem run (w:World):HandSHeadRun.RunEq R (PySem.W.view R.prog [28]) hk ob 12000 loose w:=Dc w
section
variable {P:Program} {w:World} {K:PySem.W.Frag} {h:Heap} {mg:Str→Option Value}
theorem facts (X:K.In h) (G:h.Ns mainGlobals mg) (c:He.SaysD fa fn K) :
  ∃ fd:FuncData,(∀ (s:Shared) (v:Value),BindsTo s fd ⟨[v],[]⟩ [("_law_script",v)])∧∀ base:Heap,FnOk P w K mg base (L2.CX P w) 11 (He.ga K "law") fd ["_law_script"] (gh ⟨P,w,K,jw⟩ mg (jL (fP tab))):=by
 obtain ⟨CM,gl⟩:=wx (fns:=fns) (en:=en) (hn:=hn) (ct:=ct) (tab:=tab) (P:=P) (w:=w) X G c (by symm) (sW (by symm))
 obtain ⟨fd6,e6⟩:=c.def_ 0 (d:=d6) rfl
 have g6:mg "_law_in_line"=some (.ref (He.ga K "_law_in_line")):=gl _ (by symm)
 have eJ:Binds K fd6 Ej []:=FunD.bindsN e6 fun _ _ _ _ _ _ us hl=>match us,hl with | [_,_,_],_=>rfl
 obtain ⟨fd15,e15⟩:=c.def_ 1 (d:=Fe) rfl
 have g15:mg "_law_shrunk"=some (.ref (He.ga K "_law_shrunk")):=gl _ (by symm)
 have fh:Binds K fd15 zA []:=FunD.bindsN e15 fun _ _ _ _ _ _ us hl=>match us,hl with | [_,_],_=>rfl
 obtain ⟨fd3,e3⟩:=c.def_ 2 (d:=d3) rfl
 have g3:mg "_law_cell"=some (.ref (He.ga K "_law_cell")):=gl _ (by symm)
 have gc:Binds K fd3 Eo []:=FunD.bindsN e3 fun _ _ _ _ _ _ us hl=>match us,hl with | [_,_],_=>rfl
 obtain ⟨fd8,e8⟩:=c.def_ 3 (d:=d8) rfl
 have g8:mg "_law_letters"=some (.ref (He.ga K "_law_letters")):=gl _ (by symm)
 have eN:Binds K fd8 Ep []:=FunD.bindsN e8 fun _ _ _ _ _ _ us hl=>match us,hl with | [_,_],_=>rfl
 obtain ⟨fd10,e10⟩:=c.def_ 4 (d:=Ff) rfl
 have g10:mg "_law_numbers"=some (.ref (He.ga K "_law_numbers")):=gl _ (by symm)
 have eO:Binds K fd10 zB []:=FunD.bindsN e10 fun _ _ _ _ _ _ us hl=>match us,hl with | [_,_],_=>rfl
 obtain ⟨fd12,e12⟩:=c.def_ 5 (d:=Fg) rfl
 have g12:mg "_law_rearranged"=some (.ref (He.ga K "_law_rearranged")):=gl _ (by symm)
 have cT:Binds K fd12 zC []:=FunD.bindsN e12 fun _ _ _ _ _ _ us hl=>match us,hl with | [_,_],_=>rfl
 obtain ⟨fd14,e14⟩:=c.def_ 6 (d:=Fh) rfl
 have g14:mg "_law_rows"=some (.ref (He.ga K "_law_rows")):=gl _ (by symm)
 have dX:Binds K fd14 zD []:=FunD.bindsN e14 fun _ _ _ _ _ _ us hl=>match us,hl with | [_,_],_=>rfl
 obtain ⟨fd5,e5⟩:=c.def_ 7 (d:=d5) rfl
 have g5:mg "_law_guise"=some (.ref (He.ga K "_law_guise")):=gl _ (by symm)
 have fJ:Binds K fd5 EB []:=FunD.bindsN e5 fun _ _ _ _ _ _ us hl=>match us,hl with | [_,_],_=>rfl
 obtain ⟨fd2,e2⟩:=c.def_ 8 (d:=d2) rfl
 have g2:mg "_law_ample"=some (.ref (He.ga K "_law_ample")):=gl _ (by symm)
 have fK:Binds K fd2 EC []:=FunD.bindsN e2 fun _ _ _ _ _ _ us hl=>match us,hl with | [_,_],_=>rfl
 obtain ⟨fd11,e11⟩:=c.def_ 9 (d:=Fi) rfl
 have g11:mg "_law_pairs"=some (.ref (He.ga K "_law_pairs")):=gl _ (by symm)
 have fM:Binds K fd11 zE []:=FunD.bindsN e11 fun _ _ _ _ _ _ us hl=>match us,hl with | [_,_],_=>rfl
 obtain ⟨fd20,e20⟩:=c.def_ 10 (d:=Fj) rfl
 have g20:mg "reached"=some (.ref (He.ga K "reached")):=gl _ (by symm)
 have gA:Binds K fd20 zF []:=FunD.bindsN e20 fun _ _ _ _ _ _ us hl=>match us,hl with | [_,_],_=>rfl
 obtain ⟨fd19,e19⟩:=c.def_ 11 (d:=Fk) rfl
 have g19:mg "numbered"=some (.ref (He.ga K "numbered")):=gl _ (by symm)
 have gb:Binds K fd19 zG []:=FunD.bindsN e19 fun _ _ _ _ _ _ us hl=>match us,hl with | [_,_],_=>rfl
 obtain ⟨fd18,e18⟩:=c.def_ 12 (d:=Fl) rfl
 have g18:mg "marked"=some (.ref (He.ga K "marked")):=gl _ (by symm)
 have gC:Binds K fd18 zH []:=FunD.bindsN e18 fun _ _ _ _ _ _ us hl=>match us,hl with | [_,_],_=>rfl
 obtain ⟨fd17,e17⟩:=c.def_ 13 (d:=Fm) rfl
 have g17:mg "least"=some (.ref (He.ga K "least")):=gl _ (by symm)
 have jq:Binds K fd17 zI []:=FunD.bindsN e17 fun _ _ _ _ _ _ us hl=>match us,hl with | [_,_],_=>rfl
 obtain ⟨fd21,e21⟩:=c.def_ 14 (d:=Fo) rfl
 have g21:mg "sections"=some (.ref (He.ga K "sections")):=gl _ (by symm)
 have gf:Binds K fd21 zJ []:=FunD.bindsN e21 fun _ _ _ _ _ _ us hl=>match us,hl with | [_],_=>rfl
 obtain ⟨fd0,e0⟩:=c.def_ 15 (d:=d0) rfl
 have g0:mg "comes_again"=some (.ref (He.ga K "comes_again")):=gl _ (by symm)
 have eQ:Binds K fd0 EW []:=FunD.bindsN e0 fun _ _ _ _ _ _ us hl=>match us,hl with | [_,_],_=>rfl
 obtain ⟨fd1,e1⟩:=c.def_ 16 (d:=d1) rfl
 have g1:mg "lasting"=some (.ref (He.ga K "lasting")):=gl _ (by symm)
 have gF:Binds K fd1 EX []:=FunD.bindsN e1 fun _ _ _ _ _ _ us hl=>match us,hl with | [_],_=>rfl
 obtain ⟨fd16,e16⟩:=c.def_ 17 (d:=Fp) rfl
 have g16:mg "_law_whole"=some (.ref (He.ga K "_law_whole")):=gl _ (by symm)
 have fH:Binds K fd16 zK []:=FunD.bindsN e16 fun _ _ _ _ _ _ us hl=>match us,hl with | [_],_=>rfl
 obtain ⟨fd9,e9⟩:=c.def_ 18 (d:=d9) rfl
 have g9:mg "_law_like"=some (.ref (He.ga K "_law_like")):=gl _ (by symm)
 have dW:Binds K fd9 E1 []:=FunD.bindsN e9 fun _ _ _ _ _ _ us hl=>match us,hl with | [_,_],_=>rfl
 obtain ⟨fd4,e4⟩:=c.def_ 19 (d:=d4) rfl
 have g4:mg "_law_comes_again"=some (.ref (He.ga K "_law_comes_again")):=gl _ (by symm)
 have dq:Binds K fd4 E3 []:=FunD.bindsN e4 fun _ _ _ _ _ _ us hl=>match us,hl with | [_,_],_=>rfl
 obtain ⟨fd13,e13⟩:=c.def_ 20 (d:=Fq) rfl
 have g13:mg "_law_right"=some (.ref (He.ga K "_law_right")):=gl _ (by symm)
 have dJ:Binds K fd13 zL []:=FunD.bindsN e13 fun _ _ _ _ _ _ us hl=>match us,hl with | [_],_=>rfl
 obtain ⟨fd7,e7⟩:=c.def_ 21 (d:=d7) rfl
 have g7:mg "law"=some (.ref (He.ga K "law")):=gl _ (by symm)
 have iH:Binds K fd7 CZ []:=FunD.bindsN e7 fun _ _ _ _ _ _ us hl=>match us,hl with | [_],_=>rfl
 refine ⟨fd7,fun s v=>FunD.bindsA (ps:=CZ) e7 (fun _ _ _ _ _ _ us hl=>match us,hl with | [_],_=>rfl) s [v] rfl,fun base=>?_⟩
 have c6:j0 P w K mg base 1 "_law_in_line" (cb (fP tab)):=dr (lv:=0) (N:=N6) (ps:=Ej) (cs:=FB) (gn:=gn6) (body:=GM.eJ) CM e6 Gb Gc cw (by symm) g6 eJ .nil
 have c15:j0 P w K mg base 2 "_law_shrunk" (cJ (fP tab)):=dr (lv:=1) (N:=Ek) (ps:=zA) (cs:=CG) (gn:=gn15) (body:=GM.fh) CM e15 El Em cw (by symm) g15 fh (.cons c6 (by decide) .nil)
 have c3:j0 P w K mg base 1 "_law_cell" (fq (fP tab)):=dr (lv:=0) (N:=N3) (ps:=Eo) (cs:=FD) (gn:=gn3) (body:=GM.gc) CM e3 Ge Gf cw (by symm) g3 gc .nil
 have c8:j0 P w K mg base 2 "_law_letters" (fy (fP tab)):=dr (lv:=1) (N:=N8) (ps:=Ep) (cs:=FE) (gn:=gn8) (body:=GM.eN) CM e8 Gg Gi cw (by symm) g8 eN (.cons c3 (by decide) .nil)
 have c10:j0 P w K mg base 1 "_law_numbers" (b9 (fP tab)):=dr (lv:=0) (N:=Er) (ps:=zB) (cs:=CH) (gn:=gn10) (body:=GM.eO) CM e10 Es Et cw (by symm) g10 eO .nil
 have c12:j0 P w K mg base 1 "_law_rearranged" (b8 (fP tab)):=dr (lv:=0) (N:=Eu) (ps:=zC) (cs:=CI) (gn:=gn12) (body:=GM.cT) CM e12 Ev Ew cw (by symm) g12 cT .nil
 have c14:j0 P w K mg base 2 "_law_rows" (gd (fP tab)):=dr (lv:=1) (N:=Ey) (ps:=zD) (cs:=CJ) (gn:=gn14) (body:=GM.dX) CM e14 Ez EA cw (by symm) g14 dX (.cons c12 (by decide) (.cons c10 (by decide) .nil))
 have c5:j0 P w K mg base 3 "_law_guise" (eZ (fP tab)):=dr (lv:=2) (N:=N5) (ps:=EB) (cs:=FF) (gn:=gn5) (body:=GM.fJ) CM e5 Gj Gk cw (by symm) g5 fJ (.cons c15 (by decide) (.cons c14 (by decide) .nil))
 have c2:j0 P w K mg base 4 "_law_ample" (fL (fP tab)):=dr (lv:=3) (N:=N2) (ps:=EC) (cs:=FG) (gn:=gn2) (body:=GM.fK) CM e2 Gp Gq cw (by symm) g2 fK (.cons c15 (by decide) (.cons c12 (by decide) (.cons c10 (by decide) (.cons c5 (by decide) .nil))))
 have c11:j0 P w K mg base 1 "_law_pairs" (fN (fP tab)):=dr (lv:=0) (N:=ED) (ps:=zE) (cs:=CK) (gn:=gn11) (body:=GM.fM) CM e11 EE EF cw (by symm) g11 fM .nil
 have c20:j0 P w K mg base 1 "reached" (dD (fP tab)):=dr (lv:=0) (N:=EG) (ps:=zF) (cs:=CN) (gn:=gn20) (body:=GM.gA) CM e20 EH EI cw (by symm) g20 gA .nil
 have c19:j0 P w K mg base 1 "numbered" (cU (fP tab)):=dr (lv:=0) (N:=EJ) (ps:=zG) (cs:=CO) (gn:=gn19) (body:=GM.gb) CM e19 EK EL cw (by symm) g19 gb .nil
 have c18:j0 P w K mg base 2 "marked" (fG (fP tab)):=dr (lv:=1) (N:=EM) (ps:=zH) (cs:=CP) (gn:=gn18) (body:=GM.gC) CM e18 EN EO cw (by symm) g18 gC (.cons c19 (by decide) .nil)
 have c17:j0 P w K mg base 3 "least" (iE (fP tab)):=dr (lv:=2) (N:=EQ) (ps:=zI) (cs:=CQ) (gn:=gn17) (body:=GM.jq) CM e17 ER ES cw (by symm) g17 jq (.cons c18 (by decide) (.cons c20 (by decide) .nil))
 have c21:j0 P w K mg base 4 "sections" (gP (fP tab)):=dr (lv:=3) (N:=ET) (ps:=zJ) (cs:=CS) (gn:=gn21) (body:=GM.gf) CM e21 EU EV cw (by symm) g21 gf (.cons c17 (by decide) .nil)
 have c0:j0 P w K mg base 2 "comes_again" (gp (fP tab)):=dr (lv:=1) (N:=N0) (ps:=EW) (cs:=FH) (gn:=gn0) (body:=GM.eQ) CM e0 Gr Gu cw (by symm) g0 eQ (.cons c20 (by decide) .nil)
 have c1:j0 P w K mg base 4 "lasting" (iG (fP tab)):=dr (lv:=3) (N:=N1) (ps:=EX) (cs:=FI) (gn:=gn1) (body:=GM.gF) CM e1 Gv Gw cw (by symm) g1 gF (.cons c0 (by decide) (.cons c17 (by decide) .nil))
 have c16:j0 P w K mg base 1 "_law_whole" (dV (fP tab)):=dr (lv:=0) (N:=EY) (ps:=zK) (cs:=CT) (gn:=gn16) (body:=GM.fH) CM e16 EZ E0 cw (by symm) g16 fH .nil
 have c9:j0 P w K mg base 9 "_law_like" (fi (fP tab)):=pZ (lv:=1) (N:=N9) (ps:=E1) (cs:=FJ) (gn:=gn9) (body:=GM.dW) (fl:=cK (fP tab)) CM e9 Gx Gy ⟨fun _=>rfl,fun _ _=>rfl⟩ (fun _=>cw) (by symm) g9 dW (fun n z=>(.cons z (Nat.le_refl _) (.cons c16 (by omega) .nil))) 8
 have c4:j0 P w K mg base 1 "_law_comes_again" (dP (fP tab)):=dr (lv:=0) (N:=N4) (ps:=E3) (cs:=FK) (gn:=gn4) (body:=GM.dq) CM e4 Gz GA cw (by symm) g4 dq .nil
 have c13:j0 P w K mg base 10 "_law_right" (dL (fP tab)):=dr (lv:=9) (N:=E4) (ps:=zL) (cs:=CU) (gn:=gn13) (body:=GM.dJ) CM e13 E5 E6 cw (by symm) g13 dJ (.cons c9 (by decide) (.cons c1 (by decide) (.cons c21 (by decide) (.cons c4 (by decide) (.cons c15 (by decide) .nil)))))
 exact pY (lv:=10) (N:=N7) (ps:=CZ) (cs:=FL) (gn:=gn7) (body:=GM.iH) CM e7 GB GC cw (by symm) (.cons c13 (by decide) (.cons c3 (by decide) (.cons c15 (by decide) (.cons c11 (by decide) (.cons c5 (by decide) (.cons c2 (by decide) (.cons c8 (by decide) .nil)))))))
end
end LWk26
open PySem PySem.W PySem.Calls PyProof.Rows
namespace LZk26
theorem z12:WalkO Q LWk26.loose (XL Q []) LWk26.hk.says R.toRowW d0 [] fun f vs=>PySem.call f vs:=by
  refine GM.sX (l:=PySem.Challenge.rw_guisery_k26_sections_told) (n:=63) (k:=11) (x:="_law_script") (F:=GM.jL (GM.fP LWk26.tab)) rfl (by decide) (by kernel_rfl) ⟨rfl,by decide,by decide⟩ (GM.vZ _ ) ?A
  intro w mg fa h Y G hmg0
  obtain ⟨K,KX,c⟩:=Y
  have hmg:mg ("law":PySem.Str)=some (.ref fa):=by
   rw [← FS]
   exact hmg0
  have g:mg ("law":PySem.Str)=some (.ref (He.ga K ("law":PySem.Str))):=(GM.wx (fns:=LWk26.fns) (en:=LWk26.en) (hn:=LWk26.hn) (ct:=LWk26.ct) (tab:=LWk26.tab) (P:=LZk26.Q) (w:=w) KX G c (by symm) (GM.sW (by symm))).2 ("law":PySem.Str) (by symm)
  have ea:fa=He.ga K ("law":PySem.Str):=by
   rw [hmg] at g
   injection g with g
   injection g
  subst ea
  obtain ⟨fd,hb,hF⟩:=LWk26.facts (P:=PySem.Challenge.rw_guisery_k26_sections_told.prog) (w:=w) KX G c
  exact ⟨K,fd,KX,hb,fun base _ _=>hF base⟩
end LZk26
theorem PySem.Challenge.cw_guisery_k26_sections_told_holds : PySem.Challenge.rw_guisery_k26_sections_told.Holds := by
 exact LZk26.pre LWk26.hk LWk26.ob LWk26.ob_eq LWk26.run LZk26.z12

